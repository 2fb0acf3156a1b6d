/- The functions that one law reaches, as Lean functions, with their walks: printed by a program of this seat (wip/tools) out of the translation. -/
import Derived.Test.YthhnfmbfgplelaaXFnMsgsx0
import Derived.Test.YthhnfmbfgplelaaXFnMsgsx6
namespace Go.Proofs.Ythhnfmbfgplelaa.XFnMsgs
open Go.RowKit Go.Proofs.YthhnfmbfgplelaaW.PrintWords Go.Proofs.YthhnfmbfgplelaaW.PrintLast Go.Proofs.YthhnfmbfgplelaaW.PrintMore
attribute [local go_sem] max2_int min2_int max_two min_two max_three min_three max_four min_four   -- for this text's walks alone
set_option linter.unusedVariables false
set_option linter.unusedSimpArgs false

/-! ### impl_GetTlv: function 91 -/
mutual
def impl_GetTlv.j0 : Nat → List Int → Int → Bool → Option (Int × List Int × Int × Bool)
 | 0, _, _, _ => none
 | k + 1, x0, x1, x18 => if x18 = true then (some (0, ([] : List Int), 0, false)) else (if 0 ≤ (wrap64 (x1 + 1)) then (if (wrap64 (x1 + 1)) < (x0.length : Int) then (if (wrap64 (rd x0 (wrap64 (x1 + 1)))) ≥ 128 then (if (wrap64 (rd x0 (wrap64 (x1 + 1)))) = 129 then (if (wrap64 (x1 + 2)) ≥ (x0.length : Int) then (impl_GetTlv.j1 k x0 x1 (wrap64 (x1 + 2)) true) else (if 0 ≤ (wrap64 (x1 + 2)) then (if (wrap64 (x1 + 2)) < (x0.length : Int) then (impl_GetTlv.j1 k x0 x1 (wrap64 (x1 + 2)) (decide ((rd x0 (wrap64 (x1 + 2))) < 128))) else (none)) else (none))) else (impl_GetTlv.j1 k x0 x1 (wrap64 (x1 + 2)) true)) else (if (wrap64 (rd x0 (wrap64 (x1 + 1)))) > 250 then (some (0, ([] : List Int), 0, false)) else (if (wrap64 (rd x0 (wrap64 (x1 + 1)))) > (wrap64 ((x0.length : Int) - (wrap64 (x1 + 2)))) then (some (0, ([] : List Int), 0, false)) else (if 0 ≤ x1 then (if x1 < (x0.length : Int) then (if 0 ≤ (wrap64 (x1 + 2)) then (if (wrap64 (x1 + 2)) ≤ (wrap64 ((wrap64 (x1 + 2)) + (wrap64 (rd x0 (wrap64 (x1 + 1)))))) then (if (wrap64 ((wrap64 (x1 + 2)) + (wrap64 (rd x0 (wrap64 (x1 + 1)))))) ≤ (x0.length : Int) then ((impl_copyBytes.f ((x0.take ((wrap64 ((wrap64 (x1 + 2)) + (wrap64 (rd x0 (wrap64 (x1 + 1)))))) : Int).toNat).drop ((wrap64 (x1 + 2)) : Int).toNat)).bind fun t731 => (some (wrap64 (rd x0 x1), t731, wrap64 ((wrap64 (x1 + 2)) + (wrap64 (rd x0 (wrap64 (x1 + 1))))), true))) else (none)) else (none)) else (none)) else (none)) else (none))))) else (none)) else (none))
def impl_GetTlv.j1 : Nat → List Int → Int → Int → Bool → Option (Int × List Int × Int × Bool)
 | 0, _, _, _, _ => none
 | k + 1, x0, x1, x9, x43 => if x43 = true then (some (0, ([] : List Int), 0, false)) else (if 0 ≤ x9 then (if x9 < (x0.length : Int) then (if (wrap64 (rd x0 x9)) > 250 then (some (0, ([] : List Int), 0, false)) else (if (wrap64 (rd x0 x9)) > (wrap64 ((x0.length : Int) - (wrap64 (x9 + 1)))) then (some (0, ([] : List Int), 0, false)) else (if 0 ≤ x1 then (if x1 < (x0.length : Int) then (if 0 ≤ (wrap64 (x9 + 1)) then (if (wrap64 (x9 + 1)) ≤ (wrap64 ((wrap64 (x9 + 1)) + (wrap64 (rd x0 x9)))) then (if (wrap64 ((wrap64 (x9 + 1)) + (wrap64 (rd x0 x9)))) ≤ (x0.length : Int) then ((impl_copyBytes.f ((x0.take ((wrap64 ((wrap64 (x9 + 1)) + (wrap64 (rd x0 x9)))) : Int).toNat).drop ((wrap64 (x9 + 1)) : Int).toNat)).bind fun t726 => (some (wrap64 (rd x0 x1), t726, wrap64 ((wrap64 (x9 + 1)) + (wrap64 (rd x0 x9))), true))) else (none)) else (none)) else (none)) else (none)) else (none)))) else (none)) else (none))
end
def impl_GetTlv.f (k : Nat) (l0 : List Int) (a1 : Int) : Option (Int × List Int × Int × Bool) := if a1 < 0 then (impl_GetTlv.j0 k l0 a1 true) else (impl_GetTlv.j0 k l0 a1 (decide (a1 > (wrap64 ((l0.length : Int) - 2)))))
def impl_GetTlv.T11 : Bool × List (List Nat × List Nat) := (true, [([], []), ([], []), ([0, 1], [0, 1]), ([2], [2]), ([3], [3]), ([], []), ([], []), ([], []), ([], []), ([7, 8], [7, 8]), ([5, 6, 9], [5, 6, 9]), ([10], [10]), ([], []), ([], []), ([12, 13], [12, 13]), ([4, 11, 0, 1, 2, 3, 4], [4]), ([11, 15, 0, 1, 2, 3, 4, 5, 6, 7, 8, 9, 10, 11, 15], [11]), ([14, 16, 0, 1, 2, 3, 4, 5, 6, 7, 8, 9, 10, 11, 12, 13, 14, 15, 16], [14]), ([17, 0, 1, 2, 3, 4, 5, 6, 7, 8, 9, 10, 11, 12, 13, 14, 15, 16, 17], [])])
def impl_GetTlv.B11 : List Nat := [0, 0, 3, 7, 15, 0, 0, 0, 0, 384, 992, 2016, 0, 0, 12288, 4095, 36863, 131071, 262143]
theorem impl_GetTlv.tab11 : rtab .any (opsOf Try.f91 11) = impl_GetTlv.T11 := by kernel_rfl
theorem impl_GetTlv.bits11 : waitsOk impl_GetTlv.T11.2 impl_GetTlv.B11 = true := by kernel_rfl
set_option maxHeartbeats 8000000 in
set_option maxRecDepth 100000 in
theorem impl_GetTlv.calls (k : Nat) (A0 : Option Addr) (c0 : Nat) (l0 : List Int) (a1 : Int) (r1 : Int) (r2 : List Int) (r3 : Int) (r4 : Bool) (w : World) (hr0 : Kd.C (Kd.int .u8) w A0 l0.length l0) (hc0 : l0.length ≤ c0) (h : impl_GetTlv.f k l0 a1 = some (r1, r2, r3, r4)) :
 Calls Try.prog 91 #[.slice A0 l0.length c0, .int .i64 a1] w fun e w' => ∃ v1_ : Value, e = .returned (.tuple #[.int .i64 r1, v1_, .int .i64 r3, .bool r4]) ∧ Kd.R (Kd.int .u8) 5 w' w.heap.size (fun _ => True) v1_ r2 ∧ Below w.heap.size w w' := by
 have HR0 := am hr0
 have HC0 := am hc0
 clear hr0 hc0
 have HB := am (Below.refl w.heap.size w)
 have H := h
 clear h
 unfold impl_GetTlv.f at H
 have HC3 := am H
 clear H
 go_enter Try.func91, Try.ntmps91
 go_upto_region 1 with (fail)
 go_cut [18] (fun v18 wc => ∃ (kq : Nat) (x18_2 : Bool), v18 = .bool x18_2 ∧ Aside0 (impl_GetTlv.j0 kq l0 a1 x18_2 = some (r1, r2, r3, r4)) ∧ Aside0 (kq ≤ k) ∧ Aside0 (Below w.heap.size w wc))
 case first =>
  have H := HC3.out
  clear HC3
  replace H := il H
  rcases H with ⟨-, c4b0, H⟩ | ⟨-, c4b0, H⟩
  · (first | rw [c4b0] | (simp only [i64_w, i32_w]; rw [c4b0]) | skip)
    have H' := am H
    clear H
    go_wp2
    go_meet
    case rel => exact ⟨_, (true), sq, H', ⟨by first | omega | exact Nat.le_refl _⟩, ⟨bq HB.out⟩⟩
  (first | rw [c4b0] | (simp only [i64_w, i32_w]; rw [c4b0]) | skip)
  have H' := am H
  clear H
  go_wp2
  go_meet
  case rel => exact ⟨_, (decide (a1 > (wrap64 ((l0.length : Int) - 2)))), sq, H', ⟨by first | omega | exact Nat.le_refl _⟩, ⟨bq HB.out⟩⟩
 case rest =>
  clear HC3
  try clear p2
  try clear c4
  try clear c4b0
  obtain ⟨kq, x18_2, rfl, HA, HJ2, HB⟩ := hcut
  cases kq with
  | zero => exact absurd HA.out (by simp [impl_GetTlv.j0])
  | succ kj2 =>
   have H := HA.out
   clear HA
   simp only [impl_GetTlv.j0] at H
   rcases Decidable.em (x18_2 = true) with c5 | c5
   · subst c5
     replace H : (some (0, ([] : List Int), 0, false)) = some (r1, r2, r3, r4) := by rw [if_pos rfl] at H; exact H
     simp only [Option.some.injEq, Prod.mk.injEq] at H
     obtain ⟨rfl, rfl, rfl, rfl⟩ := H
     go_wp2
     refine bodyPost_ret (results_list (rs := [.tmp 4, .tmp 5, .tmp 6, .tmp 7]) rfl (by simp) (.tmp (.tmp (.tmp (.tmp .nil))))) rfl ?_
     exact ⟨_, rq, rn, bq HB.out⟩
   replace c5 := Bool.eq_false_iff.mpr c5
   subst c5
   replace H : (if 0 ≤ (wrap64 (a1 + 1)) then (if (wrap64 (a1 + 1)) < (l0.length : Int) then (if (wrap64 (rd l0 (wrap64 (a1 + 1)))) ≥ 128 then (if (wrap64 (rd l0 (wrap64 (a1 + 1)))) = 129 then (if (wrap64 (a1 + 2)) ≥ (l0.length : Int) then (impl_GetTlv.j1 kj2 l0 a1 (wrap64 (a1 + 2)) true) else (if 0 ≤ (wrap64 (a1 + 2)) then (if (wrap64 (a1 + 2)) < (l0.length : Int) then (impl_GetTlv.j1 kj2 l0 a1 (wrap64 (a1 + 2)) (decide ((rd l0 (wrap64 (a1 + 2))) < 128))) else (none)) else (none))) else (impl_GetTlv.j1 kj2 l0 a1 (wrap64 (a1 + 2)) true)) else (if (wrap64 (rd l0 (wrap64 (a1 + 1)))) > 250 then (some (0, ([] : List Int), 0, false)) else (if (wrap64 (rd l0 (wrap64 (a1 + 1)))) > (wrap64 ((l0.length : Int) - (wrap64 (a1 + 2)))) then (some (0, ([] : List Int), 0, false)) else (if 0 ≤ a1 then (if a1 < (l0.length : Int) then (if 0 ≤ (wrap64 (a1 + 2)) then (if (wrap64 (a1 + 2)) ≤ (wrap64 ((wrap64 (a1 + 2)) + (wrap64 (rd l0 (wrap64 (a1 + 1)))))) then (if (wrap64 ((wrap64 (a1 + 2)) + (wrap64 (rd l0 (wrap64 (a1 + 1)))))) ≤ (l0.length : Int) then ((impl_copyBytes.f ((l0.take ((wrap64 ((wrap64 (a1 + 2)) + (wrap64 (rd l0 (wrap64 (a1 + 1)))))) : Int).toNat).drop ((wrap64 (a1 + 2)) : Int).toNat)).bind fun qa1_0 => (some (wrap64 (rd l0 a1), qa1_0, wrap64 ((wrap64 (a1 + 2)) + (wrap64 (rd l0 (wrap64 (a1 + 1))))), true))) else (none)) else (none)) else (none)) else (none)) else (none))))) else (none)) else (none)) = some (r1, r2, r3, r4) := by rw [if_neg (show ¬ (false = true) by decide)] at H; exact H
   obtain ⟨ji6, hji6⟩ : ∃ j_ : Int, (wrap64 (a1 + 1)) = j_ := ⟨_, rfl⟩
   first | rw [hji6] at H | simp only [hji6] at H
   have hji6w : (IntKind.i64.wrap (a1 + 1)) = ji6 := (i64_w _).trans hji6
   replace H := nl H
   obtain ⟨-, c7b0, H⟩ := H
   replace H := nl H
   obtain ⟨-, c8b0, H⟩ := H
   replace H := ip' H
   rcases H with ⟨c9, H⟩ | ⟨c9, H⟩
   · have c9b0 : decide (128 ≤ (wrap64 (rd l0 (ji6)))) = false := decide_eq_false c9
     clear c9
     replace H := ig H
     rcases H with ⟨-, c32b0, H⟩ | ⟨-, c32b0, H⟩
     · simp only [Option.some.injEq, Prod.mk.injEq] at H
       obtain ⟨rfl, rfl, rfl, rfl⟩ := H
       have p721 : 0 ≤ ((ji6) : Int) := oda
       have q721 : (ji6) < (l0.length : Int) := oda
       obtain ⟨ad721, e721, hx721_0⟩ := Kd.at_int HR0.out (ji6) p721 q721
       cases e721
       replace hx721_0 := (HB.out.cell (World.block_lt_of_cell? w _ hx721_0)).trans hx721_0
       replace p721 := eq_true p721
       replace q721 := eq_true q721
       go_wp2
       refine bodyPost_ret (results_list (rs := [.tmp 4, .tmp 5, .tmp 6, .tmp 7]) rfl (by simp) (.tmp (.tmp (.tmp (.tmp .nil))))) rfl ?_
       exact ⟨_, by first | rfl | (simp [errW_none, errW_some] <;> rfl) | (simp only [← hji6]; first | rfl | (simp [errW_none, errW_some] <;> rfl)) | (simp [*, errW_none, errW_some] <;> rfl), rn, bq HB.out⟩
     replace H := ig H
     rcases H with ⟨-, c33b0, H⟩ | ⟨-, c33b0, H⟩
     · simp only [Option.some.injEq, Prod.mk.injEq] at H
       obtain ⟨rfl, rfl, rfl, rfl⟩ := H
       have p721 : 0 ≤ ((ji6) : Int) := oda
       have q721 : (ji6) < (l0.length : Int) := oda
       obtain ⟨ad721, e721, hx721_0⟩ := Kd.at_int HR0.out (ji6) p721 q721
       cases e721
       replace hx721_0 := (HB.out.cell (World.block_lt_of_cell? w _ hx721_0)).trans hx721_0
       replace p721 := eq_true p721
       replace q721 := eq_true q721
       go_wp2
       refine bodyPost_ret (results_list (rs := [.tmp 4, .tmp 5, .tmp 6, .tmp 7]) rfl (by simp) (.tmp (.tmp (.tmp (.tmp .nil))))) rfl ?_
       exact ⟨_, by first | rfl | (simp [errW_none, errW_some] <;> rfl) | (simp only [← hji6]; first | rfl | (simp [errW_none, errW_some] <;> rfl)) | (simp [*, errW_none, errW_some] <;> rfl), rn, bq HB.out⟩
     replace H := nl H
     obtain ⟨-, c34b0, H⟩ := H
     replace H := nl H
     obtain ⟨-, c35b0, H⟩ := H
     obtain ⟨ji36, hji36⟩ : ∃ j_ : Int, (wrap64 (a1 + 2)) = j_ := ⟨_, rfl⟩
     first | rw [hji36] at H | simp only [hji36] at H
     (try rw [hji36] at c33b0)
     have hji36w : (IntKind.i64.wrap (a1 + 2)) = ji36 := (i64_w _).trans hji36
     replace H := nq H
     obtain ⟨c37, H⟩ := H
     have c37b0 := eq_true c37
     have c37b1 : decide (0 ≤ (ji36)) = true := decide_eq_true c37
     clear c37
     replace H := nq H
     obtain ⟨c38, H⟩ := H
     have c38b0 := eq_true c38
     have c38b1 : decide ((ji36) ≤ (wrap64 ((ji36) + (wrap64 (rd l0 (ji6)))))) = true := decide_eq_true c38
     replace H := nq H
     obtain ⟨c39, H⟩ := H
     have c39b0 := eq_true c39
     have c39b1 : decide ((wrap64 ((ji36) + (wrap64 (rd l0 (ji6))))) ≤ (l0.length : Int)) = true := decide_eq_true c39
     replace H := be H
     obtain ⟨qa1_0, Qa1, H⟩ := H
     simp only [Option.some.injEq, Prod.mk.injEq] at H
     obtain ⟨rfl, rfl, rfl, rfl⟩ := H
     have p721 : 0 ≤ ((ji6) : Int) := oda
     have q721 : (ji6) < (l0.length : Int) := oda
     obtain ⟨ad721, e721, hx721_0⟩ := Kd.at_int HR0.out (ji6) p721 q721
     cases e721
     replace hx721_0 := (HB.out.cell (World.block_lt_of_cell? w _ hx721_0)).trans hx721_0
     replace p721 := eq_true p721
     replace q721 := eq_true q721
     try go_wp2
     replace HB := am (below_drew1 HB.out)
     have p729 : 0 ≤ (a1 : Int) := oda
     have q729 : a1 < (l0.length : Int) := oda
     obtain ⟨ad729, e729, hx729_0⟩ := Kd.at_int HR0.out a1 p729 q729
     have hw729_0 := hx729_0
     obtain rfl : ad721 = ad729 := (by injection e729)
     replace hx729_0 := (HB.out.cell (World.block_lt_of_cell? w _ hx729_0)).trans hx729_0
     replace p729 := eq_true p729
     replace q729 := eq_true q729
     obtain ⟨i042, hi042, _, hsz42, _⟩ := info_parts info5
     obtain ⟨A42, hcut42, hA42, hC42⟩ := print_mid_of (P := Try.prog) (Value.int .u8) 0 22 5 .i64 .i64 Try.underlying22 hi042 hsz42 (some ad721) c0 l0 (ji36) (wrap64 ((ji36) + (wrap64 (rd l0 (ji6))))) (oda) (by first | omega | exact oda) (oda) HC0.out
     have HR730 := am (Kd.C_of_reads (h1 := fun _ => rfl) (hA42 _ (Kd.reads_of_C HR0.out)))
     have HC730 := am hC42
     clear hA42 hC42 hi042 hsz42
     refine start_ (n := 19) (S := fun w' => w'.cell? (ad721.add (a1).toNat) = some (.int .u8 (rd l0 a1))) (ds := []) #[F,F,F,F,F,F,F,F,F,F,F,F,F,F,F,F,F,F,F] (by kernel_rfl) rfl rfl (((HB.out.cell (World.block_lt_of_cell? w _ hw729_0)).trans hw729_0)) (fun hHeld => ?_); refine with_tabW impl_GetTlv.tab11 impl_GetTlv.bits11 (fun HT_ HW_ => ?_)
     generalize wc.drew = w41 at HB HR730 hx729_0 hHeld ⊢
     refine pv HT_ 0 (some 61) #[T,F,F,F,F,F,F,F,F,F,F,F,F,F,F,F,F,F,F] ?_
     refine pv HT_ 1 (some 62) #[T,T,F,F,F,F,F,F,F,F,F,F,F,F,F,F,F,F,F] ?_
     refine pv HT_ 2 (some 63) #[T,T,T,F,F,F,F,F,F,F,F,F,F,F,F,F,F,F,F] ?_
     refine pv HT_ 5 (some 66) #[T,T,T,F,F,T,F,F,F,F,F,F,F,F,F,F,F,F,F] ?_
     refine pv HT_ 6 (some 67) #[T,T,T,F,F,T,T,F,F,F,F,F,F,F,F,F,F,F,F] ?_
     refine pv HT_ 7 (some 68) #[T,T,T,F,F,T,T,T,F,F,F,F,F,F,F,F,F,F,F] ?_
     refine pv HT_ 8 (some 69) #[T,T,T,F,F,T,T,T,T,F,F,F,F,F,F,F,F,F,F] ?_
     refine pv HT_ 9 (some 70) #[T,T,T,F,F,T,T,T,T,T,F,F,F,F,F,F,F,F,F] ?_
     refine pv HT_ 10 (some 71) #[T,T,T,F,F,T,T,T,T,T,T,F,F,F,F,F,F,F,F] ?_
     refine pv HT_ 12 (some 73) #[T,T,T,F,F,T,T,T,T,T,T,F,T,F,F,F,F,F,F] ?_
     refine pv HT_ 13 (some 74) #[T,T,T,F,F,T,T,T,T,T,T,F,T,T,F,F,F,F,F] ?_
     refine pv HT_ 14 (some 75) #[T,T,T,F,F,T,T,T,T,T,T,F,T,T,T,F,F,F,F] ?_
     refine take_ (i := 3) (N := some 64) (v := ?_) (a' := ?_) #[T,T,T,T,F,T,T,T,T,T,T,F,T,T,T,F,F,F,F] rfl rfl (take_ofW HT_.out HW_.out (by kernel_rfl)) (fun _ _ _ h => h) (Or.inl ⟨by rfl, ?_⟩) hHeld ?_ ?_
     rotate_left
     · intro w' s0
       go_simp
       with_reducible rfl
     rotate_left
     · simp only [Act.put, List.setIfInBounds_toArray, List.set_cons_zero, List.set_cons_succ, i64_w, i32_w]
       rfl
     refine pv HT_ 4 (some 65) #[T,T,T,T,T,T,T,T,T,T,T,F,T,T,T,F,F,F,F] ?_
     refine one_ (i := 11) (N := some 72) #[T,T,T,T,T,T,T,T,T,T,T,T,T,T,T,F,F,F,F] rfl rfl (one_of HT_.out (by kernel_rfl)) (by decide) (fun K hK => ?_)
     refine goes_ Try.func68 (by kernel_rfl) rfl #[.slice A42 ((l0.take ((wrap64 ((ji36) + (wrap64 (rd l0 (ji6))))) : Int).toNat).drop ((ji36) : Int).toNat).length (c0 - (ji36).toNat)] (by rfl) rfl rfl (by (try simp only [List.map_toArray, List.map_cons, List.map_nil]); first | done | (rw [show ((l0.take ((wrap64 ((ji36) + (wrap64 (rd l0 (ji6))))) : Int).toNat).drop ((ji36) : Int).toNat).length = ((wrap64 ((ji36) + (wrap64 (rd l0 (ji6))))).toNat - (ji36).toNat) from (by rw [List.length_drop, List.length_take]; have h_ : ((wrap64 ((ji36) + (wrap64 (rd l0 (ji6))))) : Int) ≤ (l0.length : Int) := oda; omega)] <;> rfl) | (simp only [hji36, hji6]; rfl) | rfl | (simp only [List.length_drop, List.length_take]; rfl)) ?_
     with_reducible refine (impl_copyBytes.calls _ _ ((l0.take ((wrap64 ((ji36) + (wrap64 (rd l0 (ji6))))) : Int).toNat).drop ((ji36) : Int).toNat) qa1_0 _ ?side1 ?side2 Qa1.out).mono ?_
     (case side1 => exact cq (Kd.C_below HR730.out HB.out))
     (case side2 => exact HC730.out)
     rintro e w43 ⟨v732, rfl, ho0, hb⟩
     refine ⟨_, rfl, ?_⟩
     have n_ := ak2 (rl ho0 (bq HB.out)) (below_step (bq HB.out) hb)
     clear HB
     obtain ⟨HO733, HB⟩ := n_
     (try clear hb ho0)
     refine hK.out _ _ (((HB.out.cell (World.block_lt_of_cell? w _ hw729_0)).trans hw729_0)) (fun hHeld => ?_)
     clear hK K
     refine norm_ (a' := ?_) ?_ ?_
     rotate_left
     · show Act.put _ (some 72) _ = _
       simp only [Act.put, List.setIfInBounds_toArray, List.set_cons_zero, List.set_cons_succ, i64_w, i32_w]
       rfl
     refine pv HT_ 15 (some 4) #[T,T,T,T,T,T,T,T,T,T,T,T,T,T,T,T,F,F,F] ?_
     refine pv HT_ 16 (some 5) #[T,T,T,T,T,T,T,T,T,T,T,T,T,T,T,T,T,F,F] ?_
     refine pv HT_ 17 (some 6) #[T,T,T,T,T,T,T,T,T,T,T,T,T,T,T,T,T,T,F] ?_
     refine pv HT_ 18 (some 7) #[T,T,T,T,T,T,T,T,T,T,T,T,T,T,T,T,T,T,T] ?_
     refine done_ (done_of HT_.out (by kernel_rfl)) ?_
     try go_wp2
     refine bodyPost_ret (results_list (rs := [.tmp 4, .tmp 5, .tmp 6, .tmp 7]) rfl (by simp) (.tmp (.tmp (.tmp (.tmp .nil))))) rfl ?_
     exact ⟨_, by first | rfl | (simp [errW_none, errW_some] <;> rfl) | (simp only [← hji6, ← hji36]; first | rfl | (simp [errW_none, errW_some] <;> rfl)) | (simp [*, errW_none, errW_some] <;> rfl), kqR HO733.out, bq HB.out⟩
   have c9b0 : decide (128 ≤ (wrap64 (rd l0 (ji6)))) = true := decide_eq_true c9
   clear c9
   have HC10 := am H
   clear H
   have p721 : 0 ≤ ((ji6) : Int) := oda
   have q721 : (ji6) < (l0.length : Int) := oda
   obtain ⟨ad721, e721, hx721_0⟩ := Kd.at_int HR0.out (ji6) p721 q721
   cases e721
   replace hx721_0 := (HB.out.cell (World.block_lt_of_cell? w _ hx721_0)).trans hx721_0
   replace p721 := eq_true p721
   replace q721 := eq_true q721
   go_upto_region 5 with (fail)
   go_cut [43] (fun v43 wc => ∃ (kq : Nat) (x43_9 : Bool), v43 = .bool x43_9 ∧ Aside0 (impl_GetTlv.j1 kq l0 a1 (wrap64 (a1 + 2)) x43_9 = some (r1, r2, r3, r4)) ∧ Aside0 (kq ≤ kj2) ∧ Aside0 (Below w.heap.size w wc))
   case first =>
    have H := HC10.out
    clear HC10
    replace H := iq' H
    rcases H with ⟨c11, c11b0, c11b1, H⟩ | ⟨-, c11b0, c11b1, H⟩
    (first | rw [c11b0] | (simp only [i64_w, i32_w]; rw [c11b0]) | skip)
    rotate_left
    (first | rw [c11b0] | (simp only [i64_w, i32_w]; rw [c11b0]) | skip)
    replace H := ip H
    rcases H with ⟨c12, H⟩ | ⟨c12, H⟩
    have c12b0 : decide ((l0.length : Int) ≤ (wrap64 (a1 + 2))) = true := decide_eq_true c12
    clear c12
    rotate_left
    · have c12b0 : decide ((l0.length : Int) ≤ (wrap64 (a1 + 2))) = false := decide_eq_false c12
      clear c12
      obtain ⟨ji13, hji13⟩ : ∃ j_ : Int, (wrap64 (a1 + 2)) = j_ := ⟨_, rfl⟩
      first | rw [hji13] at H | simp only [hji13] at H
      (try rw [hji13] at c12b0)
      have hji13w : (IntKind.i64.wrap (a1 + 2)) = ji13 := (i64_w _).trans hji13
      replace H := nl H
      obtain ⟨-, c14b0, H⟩ := H
      replace H := nl H
      obtain ⟨-, c15b0, H⟩ := H
      have H' := am H
      clear H
      have p722 : 0 ≤ ((ji13) : Int) := oda
      have q722 : (ji13) < (l0.length : Int) := oda
      obtain ⟨ad722, e722, hx722_0⟩ := Kd.at_int HR0.out (ji13) p722 q722
      obtain rfl : ad721 = ad722 := (by injection e722)
      replace hx722_0 := (HB.out.cell (World.block_lt_of_cell? w _ hx722_0)).trans hx722_0
      replace p722 := eq_true p722
      replace q722 := eq_true q722
      go_wp2
      (try simp only [← hji13])
      go_meet
      case rel => exact ⟨_, (decide ((rd l0 (ji13)) < 128)), (by first | rfl | (simp; done) | (simp only [← hji13] <;> (first | rfl | simp)) | (simp [*]; done)), (by first | exact H' | (rw [hji13]; exact H')), ⟨by have := HJ2.out; first | omega | exact Nat.le_refl _⟩, ⟨bq HB.out⟩⟩
    rotate_right
    rotate_right
    all_goals
     have H' := am H
     clear H
     go_wp2
     go_meet
     case rel => exact ⟨_, (true), sq, H', ⟨by have := HJ2.out; first | omega | exact Nat.le_refl _⟩, ⟨bq HB.out⟩⟩
   case rest =>
    clear HC10
    try clear c1
    try clear p2
    try clear c4
    try clear c4b0
    try clear c5
    try clear p6
    try clear c7
    try clear c7b0
    try clear p7
    try clear q7
    try clear hx7
    try clear c8
    try clear c8b0
    try clear c9
    try clear c9b0
    try clear c11
    try clear c11b0
    try clear c11b1
    try clear c12
    try clear c12b0
    try clear c14
    try clear c14b0
    try clear c15
    try clear c15b0
    try clear hx721_0
    try clear hx722_0
    try clear p2
    try clear p721
    try clear p722
    try clear q721
    try clear q722
    obtain ⟨kq, x43_9, rfl, HA, HJ9, HB⟩ := hcut
    cases kq with
    | zero => exact absurd HA.out (by simp [impl_GetTlv.j1])
    | succ kj9 =>
     have H := HA.out
     clear HA
     simp only [impl_GetTlv.j1] at H
     rcases Decidable.em (x43_9 = true) with c16 | c16
     · subst c16
       replace H : (some (0, ([] : List Int), 0, false)) = some (r1, r2, r3, r4) := by rw [if_pos rfl] at H; exact H
       simp only [Option.some.injEq, Prod.mk.injEq] at H
       obtain ⟨rfl, rfl, rfl, rfl⟩ := H
       go_wp2
       refine bodyPost_ret (results_list (rs := [.tmp 4, .tmp 5, .tmp 6, .tmp 7]) rfl (by simp) (.tmp (.tmp (.tmp (.tmp .nil))))) rfl ?_
       exact ⟨_, by first | rfl | (simp [errW_none, errW_some] <;> rfl) | (simp only [← hji6]; first | rfl | (simp [errW_none, errW_some] <;> rfl)) | (simp [*, errW_none, errW_some] <;> rfl), rn, bq HB.out⟩
     replace c16 := Bool.eq_false_iff.mpr c16
     subst c16
     replace H : (if 0 ≤ (wrap64 (a1 + 2)) then (if (wrap64 (a1 + 2)) < (l0.length : Int) then (if (wrap64 (rd l0 (wrap64 (a1 + 2)))) > 250 then (some (0, ([] : List Int), 0, false)) else (if (wrap64 (rd l0 (wrap64 (a1 + 2)))) > (wrap64 ((l0.length : Int) - (wrap64 ((wrap64 (a1 + 2)) + 1)))) then (some (0, ([] : List Int), 0, false)) else (if 0 ≤ a1 then (if a1 < (l0.length : Int) then (if 0 ≤ (wrap64 ((wrap64 (a1 + 2)) + 1)) then (if (wrap64 ((wrap64 (a1 + 2)) + 1)) ≤ (wrap64 ((wrap64 ((wrap64 (a1 + 2)) + 1)) + (wrap64 (rd l0 (wrap64 (a1 + 2)))))) then (if (wrap64 ((wrap64 ((wrap64 (a1 + 2)) + 1)) + (wrap64 (rd l0 (wrap64 (a1 + 2)))))) ≤ (l0.length : Int) then ((impl_copyBytes.f ((l0.take ((wrap64 ((wrap64 ((wrap64 (a1 + 2)) + 1)) + (wrap64 (rd l0 (wrap64 (a1 + 2)))))) : Int).toNat).drop ((wrap64 ((wrap64 (a1 + 2)) + 1)) : Int).toNat)).bind fun qa1_0 => (some (wrap64 (rd l0 a1), qa1_0, wrap64 ((wrap64 ((wrap64 (a1 + 2)) + 1)) + (wrap64 (rd l0 (wrap64 (a1 + 2))))), true))) else (none)) else (none)) else (none)) else (none)) else (none)))) else (none)) else (none)) = some (r1, r2, r3, r4) := by rw [if_neg (show ¬ (false = true) by decide)] at H; exact H
     obtain ⟨ji17, hji17⟩ : ∃ j_ : Int, (wrap64 (a1 + 2)) = j_ := ⟨_, rfl⟩
     first | rw [hji17] at H | simp only [hji17] at H
     have hji17w : (IntKind.i64.wrap (a1 + 2)) = ji17 := (i64_w _).trans hji17
     replace H := nl H
     obtain ⟨-, c18b0, H⟩ := H
     replace H := nl H
     obtain ⟨-, c19b0, H⟩ := H
     replace H := ig H
     rcases H with ⟨-, c20b0, H⟩ | ⟨-, c20b0, H⟩
     simp only [Option.some.injEq, Prod.mk.injEq] at H
     obtain ⟨rfl, rfl, rfl, rfl⟩ := H
     have p723 : 0 ≤ ((ji17) : Int) := oda
     have q723 : (ji17) < (l0.length : Int) := oda
     obtain ⟨ad723, e723, hx723_0⟩ := Kd.at_int HR0.out (ji17) p723 q723
     obtain rfl : ad721 = ad723 := (by injection e723)
     replace hx723_0 := (HB.out.cell (World.block_lt_of_cell? w _ hx723_0)).trans hx723_0
     replace p723 := eq_true p723
     replace q723 := eq_true q723
     rotate_left
     replace H := ig H
     rcases H with ⟨-, c21b0, H⟩ | ⟨-, c21b0, H⟩
     simp only [Option.some.injEq, Prod.mk.injEq] at H
     obtain ⟨rfl, rfl, rfl, rfl⟩ := H
     have p723 : 0 ≤ ((ji17) : Int) := oda
     have q723 : (ji17) < (l0.length : Int) := oda
     obtain ⟨ad723, e723, hx723_0⟩ := Kd.at_int HR0.out (ji17) p723 q723
     obtain rfl : ad721 = ad723 := (by injection e723)
     replace hx723_0 := (HB.out.cell (World.block_lt_of_cell? w _ hx723_0)).trans hx723_0
     replace p723 := eq_true p723
     replace q723 := eq_true q723
     rotate_left
     · replace H := nl H
       obtain ⟨-, c22b0, H⟩ := H
       replace H := nl H
       obtain ⟨-, c23b0, H⟩ := H
       obtain ⟨ji24, hji24⟩ : ∃ j_ : Int, (wrap64 ((ji17) + 1)) = j_ := ⟨_, rfl⟩
       first | rw [hji24] at H | simp only [hji24] at H
       (try rw [hji24] at c21b0)
       have hji24w : (IntKind.i64.wrap ((ji17) + 1)) = ji24 := (i64_w _).trans hji24
       replace H := nq H
       obtain ⟨c25, H⟩ := H
       have c25b0 := eq_true c25
       have c25b1 : decide (0 ≤ (ji24)) = true := decide_eq_true c25
       clear c25
       replace H := nq H
       obtain ⟨c26, H⟩ := H
       have c26b0 := eq_true c26
       have c26b1 : decide ((ji24) ≤ (wrap64 ((ji24) + (wrap64 (rd l0 (ji17)))))) = true := decide_eq_true c26
       replace H := nq H
       obtain ⟨c27, H⟩ := H
       have c27b0 := eq_true c27
       have c27b1 : decide ((wrap64 ((ji24) + (wrap64 (rd l0 (ji17))))) ≤ (l0.length : Int)) = true := decide_eq_true c27
       replace H := be H
       obtain ⟨qa1_0, Qa1, H⟩ := H
       simp only [Option.some.injEq, Prod.mk.injEq] at H
       obtain ⟨rfl, rfl, rfl, rfl⟩ := H
       have p723 : 0 ≤ ((ji17) : Int) := oda
       have q723 : (ji17) < (l0.length : Int) := oda
       obtain ⟨ad723, e723, hx723_0⟩ := Kd.at_int HR0.out (ji17) p723 q723
       obtain rfl : ad721 = ad723 := (by injection e723)
       replace hx723_0 := (HB.out.cell (World.block_lt_of_cell? w _ hx723_0)).trans hx723_0
       replace p723 := eq_true p723
       replace q723 := eq_true q723
       try go_wp2
       replace HB := am (below_drew1 HB.out)
       have p724 : 0 ≤ (a1 : Int) := oda
       have q724 : a1 < (l0.length : Int) := oda
       obtain ⟨ad724, e724, hx724_0⟩ := Kd.at_int HR0.out a1 p724 q724
       have hw724_0 := hx724_0
       obtain rfl : ad721 = ad724 := (by injection e724)
       replace hx724_0 := (HB.out.cell (World.block_lt_of_cell? w _ hx724_0)).trans hx724_0
       replace p724 := eq_true p724
       replace q724 := eq_true q724
       obtain ⟨i030, hi030, _, hsz30, _⟩ := info_parts info5
       obtain ⟨A30, hcut30, hA30, hC30⟩ := print_mid_of (P := Try.prog) (Value.int .u8) 0 22 5 .i64 .i64 Try.underlying22 hi030 hsz30 (some ad721) c0 l0 (ji24) (wrap64 ((ji24) + (wrap64 (rd l0 (ji17))))) (oda) (by first | omega | exact oda) (oda) HC0.out
       have HR725 := am (Kd.C_of_reads (h1 := fun _ => rfl) (hA30 _ (Kd.reads_of_C HR0.out)))
       have HC725 := am hC30
       clear hA30 hC30 hi030 hsz30
       refine start_ (n := 19) (S := fun w' => w'.cell? (ad721.add (a1).toNat) = some (.int .u8 (rd l0 a1))) (ds := []) #[F,F,F,F,F,F,F,F,F,F,F,F,F,F,F,F,F,F,F] (by kernel_rfl) rfl rfl (((HB.out.cell (World.block_lt_of_cell? w _ hw724_0)).trans hw724_0)) (fun hHeld => ?_); refine with_tabW impl_GetTlv.tab11 impl_GetTlv.bits11 (fun HT_ HW_ => ?_)
       generalize wc.drew = w29 at HB HR725 hx724_0 hHeld ⊢
       refine pv HT_ 0 (some 61) #[T,F,F,F,F,F,F,F,F,F,F,F,F,F,F,F,F,F,F] ?_
       refine pv HT_ 1 (some 62) #[T,T,F,F,F,F,F,F,F,F,F,F,F,F,F,F,F,F,F] ?_
       refine pv HT_ 2 (some 63) #[T,T,T,F,F,F,F,F,F,F,F,F,F,F,F,F,F,F,F] ?_
       refine pv HT_ 5 (some 66) #[T,T,T,F,F,T,F,F,F,F,F,F,F,F,F,F,F,F,F] ?_
       refine pv HT_ 6 (some 67) #[T,T,T,F,F,T,T,F,F,F,F,F,F,F,F,F,F,F,F] ?_
       refine pv HT_ 7 (some 68) #[T,T,T,F,F,T,T,T,F,F,F,F,F,F,F,F,F,F,F] ?_
       refine pv HT_ 8 (some 69) #[T,T,T,F,F,T,T,T,T,F,F,F,F,F,F,F,F,F,F] ?_
       refine pv HT_ 9 (some 70) #[T,T,T,F,F,T,T,T,T,T,F,F,F,F,F,F,F,F,F] ?_
       refine pv HT_ 10 (some 71) #[T,T,T,F,F,T,T,T,T,T,T,F,F,F,F,F,F,F,F] ?_
       refine pv HT_ 12 (some 73) #[T,T,T,F,F,T,T,T,T,T,T,F,T,F,F,F,F,F,F] ?_
       refine pv HT_ 13 (some 74) #[T,T,T,F,F,T,T,T,T,T,T,F,T,T,F,F,F,F,F] ?_
       refine pv HT_ 14 (some 75) #[T,T,T,F,F,T,T,T,T,T,T,F,T,T,T,F,F,F,F] ?_
       refine take_ (i := 3) (N := some 64) (v := ?_) (a' := ?_) #[T,T,T,T,F,T,T,T,T,T,T,F,T,T,T,F,F,F,F] rfl rfl (take_ofW HT_.out HW_.out (by kernel_rfl)) (fun _ _ _ h => h) (Or.inl ⟨by rfl, ?_⟩) hHeld ?_ ?_
       rotate_left
       · intro w' s0
         go_simp
         with_reducible rfl
       rotate_left
       · simp only [Act.put, List.setIfInBounds_toArray, List.set_cons_zero, List.set_cons_succ, i64_w, i32_w]
         rfl
       refine pv HT_ 4 (some 65) #[T,T,T,T,T,T,T,T,T,T,T,F,T,T,T,F,F,F,F] ?_
       refine one_ (i := 11) (N := some 72) #[T,T,T,T,T,T,T,T,T,T,T,T,T,T,T,F,F,F,F] rfl rfl (one_of HT_.out (by kernel_rfl)) (by decide) (fun K hK => ?_)
       refine goes_ Try.func68 (by kernel_rfl) rfl #[.slice A30 ((l0.take ((wrap64 ((ji24) + (wrap64 (rd l0 (ji17))))) : Int).toNat).drop ((ji24) : Int).toNat).length (c0 - (ji24).toNat)] (by rfl) rfl rfl (by (try simp only [List.map_toArray, List.map_cons, List.map_nil]); first | done | (rw [show ((l0.take ((wrap64 ((ji24) + (wrap64 (rd l0 (ji17))))) : Int).toNat).drop ((ji24) : Int).toNat).length = ((wrap64 ((ji24) + (wrap64 (rd l0 (ji17))))).toNat - (ji24).toNat) from (by rw [List.length_drop, List.length_take]; have h_ : ((wrap64 ((ji24) + (wrap64 (rd l0 (ji17))))) : Int) ≤ (l0.length : Int) := oda; omega)] <;> rfl) | (simp only [hji17, hji24]; rfl) | rfl | (simp only [List.length_drop, List.length_take]; rfl)) ?_
       with_reducible refine (impl_copyBytes.calls _ _ ((l0.take ((wrap64 ((ji24) + (wrap64 (rd l0 (ji17))))) : Int).toNat).drop ((ji24) : Int).toNat) qa1_0 _ ?side1 ?side2 Qa1.out).mono ?_
       (case side1 => exact cq (Kd.C_below HR725.out HB.out))
       (case side2 => exact HC725.out)
       rintro e w31 ⟨v727, rfl, ho0, hb⟩
       refine ⟨_, rfl, ?_⟩
       have n_ := ak2 (rl ho0 (bq HB.out)) (below_step (bq HB.out) hb)
       clear HB
       obtain ⟨HO728, HB⟩ := n_
       (try clear hb ho0)
       refine hK.out _ _ (((HB.out.cell (World.block_lt_of_cell? w _ hw724_0)).trans hw724_0)) (fun hHeld => ?_)
       clear hK K
       refine norm_ (a' := ?_) ?_ ?_
       rotate_left
       · show Act.put _ (some 72) _ = _
         simp only [Act.put, List.setIfInBounds_toArray, List.set_cons_zero, List.set_cons_succ, i64_w, i32_w]
         rfl
       refine pv HT_ 15 (some 4) #[T,T,T,T,T,T,T,T,T,T,T,T,T,T,T,T,F,F,F] ?_
       refine pv HT_ 16 (some 5) #[T,T,T,T,T,T,T,T,T,T,T,T,T,T,T,T,T,F,F] ?_
       refine pv HT_ 17 (some 6) #[T,T,T,T,T,T,T,T,T,T,T,T,T,T,T,T,T,T,F] ?_
       refine pv HT_ 18 (some 7) #[T,T,T,T,T,T,T,T,T,T,T,T,T,T,T,T,T,T,T] ?_
       refine done_ (done_of HT_.out (by kernel_rfl)) ?_
       try go_wp2
       refine bodyPost_ret (results_list (rs := [.tmp 4, .tmp 5, .tmp 6, .tmp 7]) rfl (by simp) (.tmp (.tmp (.tmp (.tmp .nil))))) rfl ?_
       exact ⟨_, by first | rfl | (simp [errW_none, errW_some] <;> rfl) | (simp only [← hji6, ← hji17, ← hji24]; first | rfl | (simp [errW_none, errW_some] <;> rfl)) | (simp [*, errW_none, errW_some] <;> rfl), kqR HO728.out, bq HB.out⟩
     rotate_right
     rotate_right
     all_goals
      go_wp2
      refine bodyPost_ret (results_list (rs := [.tmp 4, .tmp 5, .tmp 6, .tmp 7]) rfl (by simp) (.tmp (.tmp (.tmp (.tmp .nil))))) rfl ?_
      exact ⟨_, by first | rfl | (simp [errW_none, errW_some] <;> rfl) | (simp only [← hji6, ← hji17]; first | rfl | (simp [errW_none, errW_some] <;> rfl)) | (simp [*, errW_none, errW_some] <;> rfl), rn, bq HB.out⟩
end Go.Proofs.Ythhnfmbfgplelaa.XFnMsgs
