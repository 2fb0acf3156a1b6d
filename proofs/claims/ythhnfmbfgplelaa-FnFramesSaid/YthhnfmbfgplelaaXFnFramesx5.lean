/- The functions that one law reaches, as Lean functions, with their walks: printed by a program of this seat (wip/tools) out of the translation. -/
import Derived.Test.YthhnfmbfgplelaaXFnFramesx0
import Derived.Test.YthhnfmbfgplelaaXFnFramesx1
import Derived.Test.YthhnfmbfgplelaaXFnFramesx3
import Derived.Test.YthhnfmbfgplelaaXFnFramesx4
namespace Go.Proofs.Ythhnfmbfgplelaa.XFnFrames
open Go.RowKit Go.Proofs.YthhnfmbfgplelaaW.PrintWords Go.Proofs.YthhnfmbfgplelaaW.PrintLast Go.Proofs.YthhnfmbfgplelaaW.PrintMore
attribute [local go_sem] max2_int min2_int max_two min_two max_three min_three max_four min_four   -- for this text's walks alone
set_option linter.unusedVariables false
set_option linter.unusedSimpArgs false

/-! ### spec_PutFrame: function 78 -/
def spec_PutFrame.f (k : Nat) (a0_0 : Int) (a0_1 : Int) (a0_2 : Int) (l0_3 : List Int) : Option (List Int) := (spec_FrameOk.f a0_0 a0_1 a0_2 l0_3).bind fun t349 => (if t349 = true then ((spec_PutInt.f k a0_0).bind fun t356 => ((spec_PutTlv.f k (([] : List Int)) 1 t356).bind fun t359 => ((spec_PutInt.f k a0_1).bind fun t362 => ((spec_PutTlv.f k t359 1 t362).bind fun t365 => (if a0_2 = 0 then ((spec_PutTlv.f k t365 3 l0_3).bind fun t368 => (some t368)) else ((spec_PutInt.f k a0_2).bind fun t371 => ((spec_PutTlv.f k t365 2 t371).bind fun t374 => ((spec_PutTlv.f k t374 3 l0_3).bind fun t377 => (some t377))))))))) else (some (([] : List Int))))
theorem spec_PutFrame.mono : ∀ a0 a1 a2 a3 k, LeO (spec_PutFrame.f k a0 a1 a2 a3) (spec_PutFrame.f (k + 1) a0 a1 a2 a3) := by
 intro a0 a1 a2 a3 k
 unfold spec_PutFrame.f
 repeat' first
  | (with_reducible exact spec_PutInt.mono _ _)
  | (with_reducible exact spec_PutTlv.mono _ _ _ _)
  | (with_reducible exact LeO.refl _)
  | (with_reducible exact LeO.none _)
  | (with_reducible refine LeO.ite ?_ ?_)
  | (with_reducible refine LeO.bind ?_ (fun _ => ?_))
  | exact spec_PutInt.mono _ _
  | exact spec_PutTlv.mono _ _ _ _
  | exact LeO.none _
  | refine LeO.ite ?_ ?_
  | refine LeO.bind ?_ (fun _ => ?_)
def spec_PutFrame.T3 : Bool × List (List Nat × List Nat) := (true, [([], []), ([], []), ([1], [1]), ([2], [2]), ([0, 3, 3], [0, 3]), ([], []), ([5], [5]), ([6, 4], [6]), ([4, 7, 7], [4, 7]), ([8, 8, 0, 1, 2, 3, 4, 5, 6, 7, 8], [8])])
def spec_PutFrame.B3 : List Nat := [0, 0, 2, 6, 15, 0, 32, 127, 255, 511]
theorem spec_PutFrame.tab3 : rtab .any (opsOf Try.f78 3) = spec_PutFrame.T3 := by kernel_rfl
theorem spec_PutFrame.bits3 : waitsOk spec_PutFrame.T3.2 spec_PutFrame.B3 = true := by kernel_rfl
set_option maxHeartbeats 8000000 in
set_option maxRecDepth 100000 in
theorem spec_PutFrame.calls (k : Nat) (a0_0 : Int) (a0_1 : Int) (a0_2 : Int) (A0_3 : Option Addr) (c0_3 : Nat) (l0_3 : List Int) (r : List Int) (w : World) (hr0_3 : Kd.C (Kd.int .u8) w A0_3 l0_3.length l0_3) (hc0_3 : l0_3.length ≤ c0_3) (h : spec_PutFrame.f k a0_0 a0_1 a0_2 l0_3 = some r) :
 Calls Try.prog 78 #[.agg #[.int .i64 a0_0, .int .i64 a0_1, .int .i64 a0_2, .slice A0_3 l0_3.length c0_3]] w fun e w' => ∃ v0_ : Value, e = .returned (v0_) ∧ Kd.R (Kd.int .u8) 5 w' w.heap.size (fun _ => True) v0_ r ∧ Below w.heap.size w w' := by
 have hu38 := Try.underlying38
 have HR0_3 := am hr0_3
 have HC0_3 := am hc0_3
 clear hr0_3 hc0_3
 have HB := am (Below.refl w.heap.size w)
 have H : ((spec_FrameOk.f a0_0 a0_1 a0_2 l0_3).bind fun t349 => (if t349 = true then ((spec_PutInt.f k a0_0).bind fun t356 => ((spec_PutTlv.f k (([] : List Int)) 1 t356).bind fun t359 => ((spec_PutInt.f k a0_1).bind fun t362 => ((spec_PutTlv.f k t359 1 t362).bind fun t365 => (if a0_2 = 0 then ((spec_PutTlv.f k t365 3 l0_3).bind fun t368 => (some t368)) else ((spec_PutInt.f k a0_2).bind fun t371 => ((spec_PutTlv.f k t365 2 t371).bind fun t374 => ((spec_PutTlv.f k t374 3 l0_3).bind fun t377 => (some t377))))))))) else (some (([] : List Int))))) = some r := h
 clear h
 replace H := Option.bind_eq_some_iff.mp H
 obtain ⟨t349, A20, H⟩ := H
 replace H : (if t349 = true then ((spec_PutInt.f k a0_0).bind fun t356 => ((spec_PutTlv.f k (([] : List Int)) 1 t356).bind fun t359 => ((spec_PutInt.f k a0_1).bind fun t362 => ((spec_PutTlv.f k t359 1 t362).bind fun t365 => (if a0_2 = 0 then ((spec_PutTlv.f k t365 3 l0_3).bind fun t368 => (some t368)) else ((spec_PutInt.f k a0_2).bind fun t371 => ((spec_PutTlv.f k t365 2 t371).bind fun t374 => ((spec_PutTlv.f k t374 3 l0_3).bind fun t377 => (some t377))))))))) else (some (([] : List Int)))) = some r := H
 have A2 := am A20
 clear A20
 by_cases c3 : t349 = true
 · subst c3
   have H1 : ((spec_PutInt.f k a0_0).bind fun t356 => ((spec_PutTlv.f k (([] : List Int)) 1 t356).bind fun t359 => ((spec_PutInt.f k a0_1).bind fun t362 => ((spec_PutTlv.f k t359 1 t362).bind fun t365 => (if a0_2 = 0 then ((spec_PutTlv.f k t365 3 l0_3).bind fun t368 => (some t368)) else ((spec_PutInt.f k a0_2).bind fun t371 => ((spec_PutTlv.f k t365 2 t371).bind fun t374 => ((spec_PutTlv.f k t374 3 l0_3).bind fun t377 => (some t377))))))))) = some r := by rw [if_pos rfl] at H; exact H
   clear H
   have H := H1
   clear H1
   obtain ⟨y353, hy353⟩ : ∃ y_ : List Int, y_ = (([] : List Int)) := ⟨_, rfl⟩
   replace H : ((spec_PutInt.f k a0_0).bind fun t356 => ((spec_PutTlv.f k y353 1 t356).bind fun t359 => ((spec_PutInt.f k a0_1).bind fun t362 => ((spec_PutTlv.f k t359 1 t362).bind fun t365 => (if a0_2 = 0 then ((spec_PutTlv.f k t365 3 l0_3).bind fun t368 => (some t368)) else ((spec_PutInt.f k a0_2).bind fun t371 => ((spec_PutTlv.f k t365 2 t371).bind fun t374 => ((spec_PutTlv.f k t374 3 l0_3).bind fun t377 => (some t377))))))))) = some r := by first | (rw [hy353]; with_reducible exact H) | (have H2_ := (Option.bind_some _ _).symm.trans H; rw [hy353]; with_reducible exact H2_) | (have H2_ := (Option.bind_some _ _).symm.trans H; with_reducible exact H2_) | with_reducible exact H | (rw [hy353]; exact H) | exact H
   have Ny353 := am hy353
   clear hy353
   replace H := Option.bind_eq_some_iff.mp H
   obtain ⟨t356, A40, H⟩ := H
   replace H : ((spec_PutTlv.f k y353 1 t356).bind fun t359 => ((spec_PutInt.f k a0_1).bind fun t362 => ((spec_PutTlv.f k t359 1 t362).bind fun t365 => (if a0_2 = 0 then ((spec_PutTlv.f k t365 3 l0_3).bind fun t368 => (some t368)) else ((spec_PutInt.f k a0_2).bind fun t371 => ((spec_PutTlv.f k t365 2 t371).bind fun t374 => ((spec_PutTlv.f k t374 3 l0_3).bind fun t377 => (some t377)))))))) = some r := H
   have A4 := am A40
   clear A40
   replace H := Option.bind_eq_some_iff.mp H
   obtain ⟨t359, A50, H⟩ := H
   replace H : ((spec_PutInt.f k a0_1).bind fun t362 => ((spec_PutTlv.f k t359 1 t362).bind fun t365 => (if a0_2 = 0 then ((spec_PutTlv.f k t365 3 l0_3).bind fun t368 => (some t368)) else ((spec_PutInt.f k a0_2).bind fun t371 => ((spec_PutTlv.f k t365 2 t371).bind fun t374 => ((spec_PutTlv.f k t374 3 l0_3).bind fun t377 => (some t377))))))) = some r := H
   have A5 := am A50
   clear A50
   replace H := Option.bind_eq_some_iff.mp H
   obtain ⟨t362, A60, H⟩ := H
   replace H : ((spec_PutTlv.f k t359 1 t362).bind fun t365 => (if a0_2 = 0 then ((spec_PutTlv.f k t365 3 l0_3).bind fun t368 => (some t368)) else ((spec_PutInt.f k a0_2).bind fun t371 => ((spec_PutTlv.f k t365 2 t371).bind fun t374 => ((spec_PutTlv.f k t374 3 l0_3).bind fun t377 => (some t377)))))) = some r := H
   have A6 := am A60
   clear A60
   replace H := Option.bind_eq_some_iff.mp H
   obtain ⟨t365, A70, H⟩ := H
   replace H : (if a0_2 = 0 then ((spec_PutTlv.f k t365 3 l0_3).bind fun t368 => (some t368)) else ((spec_PutInt.f k a0_2).bind fun t371 => ((spec_PutTlv.f k t365 2 t371).bind fun t374 => ((spec_PutTlv.f k t374 3 l0_3).bind fun t377 => (some t377))))) = some r := H
   have A7 := am A70
   clear A70
   by_cases c8 : a0_2 = 0
   · rw [if_pos c8] at H
     have c8b0 : (a0_2 == 0) = true := beq_iff_eq.mpr c8
     have c8b1 : (a0_2 != 0) = false := bne_eq_false_iff_eq.mpr c8
     clear c8
     replace H := Option.bind_eq_some_iff.mp H
     obtain ⟨t368, A90, H⟩ := H
     replace H : (some t368) = some r := H
     have A9 := am A90
     clear A90
     obtain rfl := Option.some.inj H
     go_enter Try.func78, Try.ntmps78
     try go_wp2_with (first | ((with_reducible refine gate_dst (N := 1) rfl ?_); refine box_event ?hg (N := 1) ?hd (cs := #[.int .i64 a0_0, .int .i64 a0_1, .int .i64 a0_2, .slice A0_3 l0_3.length c0_3]) (t := 38) ?hr ?_; (case hd => rfl); (case hg => rfl); (case hr => exact gs); intro gb348 hg w10 hbox hb; have n_ := ak4 (below_step (bq HB.out) hb) hbox ((by rw [hg]; exact (below_size (bq HB.out)) : w.heap.size ≤ gb348)) ((by rw [hg]; exact (below_size (bq HB.out)) : w.heap.size ≤ gb348)); clear HB; obtain ⟨HB, BK348, GW348, GE348⟩ := n_; clear hb hbox hg; have hcz11_0 : w10.cell? ⟨gb348, 0, none⟩ = some (.int .i64 a0_0) := (blk_cell BK348.out 0).trans rfl; have hcz11_1 : w10.cell? ⟨gb348, 1, none⟩ = some (.int .i64 a0_1) := (blk_cell BK348.out 1).trans rfl; have hcz11_2 : w10.cell? ⟨gb348, 2, none⟩ = some (.int .i64 a0_2) := (blk_cell BK348.out 2).trans rfl; have hcz11_3 : w10.cell? ⟨gb348, 3, none⟩ = some (.slice A0_3 l0_3.length c0_3) := (blk_cell BK348.out 3).trans rfl; have hfz11_0 := blk_frozen BK348.out 0; have hfz11_1 := blk_frozen BK348.out 1; have hfz11_2 := blk_frozen BK348.out 2; have hfz11_3 := blk_frozen BK348.out 3) | ((with_reducible refine gate_callee (f := 33) rfl ?_); refine goesL_ (some 5) rfl rfl Try.func33 (by kernel_rfl) rfl #[.agg #[.int .i64 a0_0, .int .i64 a0_1, .int .i64 a0_2, .slice A0_3 l0_3.length c0_3]] rfl ga ?_; (with_reducible refine (spec_FrameOk.calls a0_0 a0_1 a0_2 _ _ l0_3 true _ ?side1 ?side2 A2.out).mono ?_); (case side1 => exact cq (Kd.C_below HR0_3.out HB.out)); (case side2 => exact HC0_3.out); rintro e w12 ⟨rfl, hb⟩; refine ⟨_, rfl, ?_⟩; have n_ := ak2 (blk_below (g := gb348) (o := .cells #[.int .i64 a0_0, .int .i64 a0_1, .int .i64 a0_2, .slice A0_3 l0_3.length c0_3] 38 (0, 0)) (zq BK348.out) hb) (below_step (bq1 HB.out GE348.out) hb); clear BK348 HB; obtain ⟨BK348, HB⟩ := n_; (try clear hb)))
     have n_ := ak2 (blk_drew BK348.out) (below_drew1 HB.out)
     clear BK348 HB
     obtain ⟨BK348, HB⟩ := n_
     refine start_ (n := 10) (S := fun w' => w'.cell? ⟨gb348, 0, none⟩ = some (.int .i64 a0_0) ∧ w'.cell? ⟨gb348, 1, none⟩ = some (.int .i64 a0_1) ∧ w'.cell? ⟨gb348, 2, none⟩ = some (.int .i64 a0_2) ∧ w'.cell? ⟨gb348, 3, none⟩ = some (.slice A0_3 l0_3.length c0_3)) (ds := []) #[false, false, false, false, false, false, false, false, false, false] (by kernel_rfl) rfl rfl ⟨(blk_cell BK348.out 0).trans rfl, (blk_cell BK348.out 1).trans rfl, (blk_cell BK348.out 2).trans rfl, (blk_cell BK348.out 3).trans rfl⟩ (fun hHeld => ?_); refine with_tabW spec_PutFrame.tab3 spec_PutFrame.bits3 (fun HT_ HW_ => ?_)
     generalize w12.drew = w13 at BK348 HB hHeld ⊢
     refine pure_ (i := 1) (N := some 9) (v := ?_) (a' := ?_) #[false, true, false, false, false, false, false, false, false, false] rfl rfl (any_of HT_.out (by kernel_rfl)) (fun _ _ _ h => h) (Or.inl ⟨by rfl, ?_⟩) ?_ ?_
     rotate_left
     · intro w'
       go_simp
       with_reducible rfl
     rotate_left
     · simp only [Act.put, List.setIfInBounds_toArray, List.set_cons_zero, List.set_cons_succ, i64_w, i32_w]
       rfl
     refine pure_ (i := 5) (N := some 13) (v := ?_) (a' := ?_) #[false, true, false, false, false, true, false, false, false, false] rfl rfl (any_of HT_.out (by kernel_rfl)) (fun _ _ _ h => h) (Or.inl ⟨by rfl, ?_⟩) ?_ ?_
     rotate_left
     · intro w'
       go_simp
       with_reducible rfl
     rotate_left
     · simp only [Act.put, List.setIfInBounds_toArray, List.set_cons_zero, List.set_cons_succ, i64_w, i32_w]
       rfl
     refine take_ (i := 2) (N := some 10) (v := ?_) (a' := ?_) #[false, true, true, false, false, true, false, false, false, false] rfl rfl (take_ofW HT_.out HW_.out (by kernel_rfl)) (fun _ _ _ h => h) (Or.inl ⟨by rfl, ?_⟩) hHeld ?_ ?_
     rotate_left
     · rintro w' ⟨s0, s1, s2, s3⟩
       go_simp
       with_reducible rfl
     rotate_left
     · simp only [Act.put, List.setIfInBounds_toArray, List.set_cons_zero, List.set_cons_succ, i64_w, i32_w]
       rfl
     refine take_ (i := 6) (N := some 14) (v := ?_) (a' := ?_) #[false, true, true, false, false, true, true, false, false, false] rfl rfl (take_ofW HT_.out HW_.out (by kernel_rfl)) (fun _ _ _ h => h) (Or.inl ⟨by rfl, ?_⟩) hHeld ?_ ?_
     rotate_left
     · rintro w' ⟨s0, s1, s2, s3⟩
       go_simp
       with_reducible rfl
     rotate_left
     · simp only [Act.put, List.setIfInBounds_toArray, List.set_cons_zero, List.set_cons_succ, i64_w, i32_w]
       rfl
     refine join_ (σ := Value × Value) 4 #[true, true, true, true, false, true, true, false, false, false] (fun s_ => [(8, s_.1), (11, s_.2)]) (fun s_ w' => (w'.cell? ⟨gb348, 0, none⟩ = some (.int .i64 a0_0) ∧ w'.cell? ⟨gb348, 1, none⟩ = some (.int .i64 a0_1) ∧ w'.cell? ⟨gb348, 2, none⟩ = some (.int .i64 a0_2) ∧ w'.cell? ⟨gb348, 3, none⟩ = some (.slice A0_3 l0_3.length c0_3)) ∧ (Kd.R (Kd.int .u8) 5 w' w.heap.size (fun k_ => some k_ ≠ (s_.2 : Value).ownBlock) s_.1 y353) ∧ (Kd.R (Kd.int .u8) 5 w' w.heap.size (fun k_ => some k_ ≠ (s_.1 : Value).ownBlock) s_.2 t356) ∧ (w'.heap[gb348]? = some (.cells #[.int .i64 a0_0, .int .i64 a0_1, .int .i64 a0_2, .slice A0_3 l0_3.length c0_3] 38 (0, 0))) ∧ (Below w.heap.size w w')) ?_ ?_
     rotate_left
     · intro hCont
       refine two_ (i := 0) (j := 3) (Ni := some 8) (Nj := some 11) #[true, true, true, false, false, true, true, false, false, false] #[false, true, true, true, false, true, true, false, false, false] rfl rfl rfl rfl (two_of HT_.out (by kernel_rfl)) (by decide) (by decide) (fun K hK => ?_) (fun K hK => ?_)
       · skip
         refine Kd.R_lit_step (Kd.int .u8) _ 5 ?hg (N := 8) ?hd (xs := ([] : List Int)) (inner := []) (ok := fun _ => True) (okp := fun _ => True) ?hr ?hp (fun _ hk => hk) trivial (Below.refl _ _) (Nat.le_refl _) (by simp) ?_; (case hd => rfl); (case hg => rfl); (case hr => exact gs); (case hp => exact (Reps.none _ _))
         intro v354 w14 ho15 hb hg_ hnew_
         clear hg_ hnew_
         (first | rw [← Ny353.out] at ho15 | (simp only [Int.reduceToNat] at ho15; rw [← Ny353.out] at ho15))
         have n_ := ak3 (Kd.R_lower ho15 (below_size (bq1 HB.out GE348.out))) (blk_below (g := gb348) (o := .cells #[.int .i64 a0_0, .int .i64 a0_1, .int .i64 a0_2, .slice A0_3 l0_3.length c0_3] 38 (0, 0)) (zq BK348.out) hb) (below_step (bq1 HB.out GE348.out) hb)
         clear BK348 HB
         obtain ⟨HO355, BK348, HB⟩ := n_
         clear hb ho15
         refine hK.out _ _ ⟨(blk_cell BK348.out 0).trans rfl, (blk_cell BK348.out 1).trans rfl, (blk_cell BK348.out 2).trans rfl, (blk_cell BK348.out 3).trans rfl⟩ (fun hHeld => ?_)
         clear hK K
         refine norm_ (a' := ?_) ?_ ?_
         rotate_left
         · show Act.put _ (some 8) _ = _
           simp only [Act.put, List.setIfInBounds_toArray, List.set_cons_zero, List.set_cons_succ, i64_w, i32_w]
           rfl
         refine one_ (i := 3) (N := some 11) #[true, true, true, true, false, true, true, false, false, false] rfl rfl (one_of HT_.out (by kernel_rfl)) (by decide) (fun K hK => ?_)
         refine goes_ Try.func64 (by kernel_rfl) rfl #[.int .i64 a0_0] (by rfl) rfl rfl ga ?_
         with_reducible refine (spec_PutInt.calls k a0_0 t356 _ A4.out).mono ?_
         rintro e w16 ⟨v357, rfl, ho0, hb⟩
         refine ⟨_, rfl, ?_⟩
         have n_ := ak4 (Kd.R_elder' (kqR HO355.out) (Kd.R_base ho0) hb) (Kd.R_lower (Kd.R_new' ho0 (Kd.R_lt (kqR HO355.out))) (below_size (bq1 HB.out GE348.out))) (blk_below (g := gb348) (o := .cells #[.int .i64 a0_0, .int .i64 a0_1, .int .i64 a0_2, .slice A0_3 l0_3.length c0_3] 38 (0, 0)) (zq BK348.out) hb) (below_step (bq1 HB.out GE348.out) hb)
         clear HO355 BK348 HB
         obtain ⟨HO355, HO358, BK348, HB⟩ := n_
         (try clear hb ho0)
         refine hK.out _ _ ⟨(blk_cell BK348.out 0).trans rfl, (blk_cell BK348.out 1).trans rfl, (blk_cell BK348.out 2).trans rfl, (blk_cell BK348.out 3).trans rfl⟩ (fun hHeld => ?_)
         clear hK K
         refine norm_ (a' := ?_) ?_ ?_
         rotate_left
         · show Act.put _ (some 11) _ = _
           simp only [Act.put, List.setIfInBounds_toArray, List.set_cons_zero, List.set_cons_succ, i64_w, i32_w]
           rfl
         exact norm_ (by simp only [putAll, Act.put, List.setIfInBounds_toArray, List.set_cons_zero, List.set_cons_succ]) (hCont (v354, v357) _ ⟨hHeld, (by (with_reducible repeat (first | apply Kd.R_alloc | apply Kd.R_drewN | apply Kd.R_drew)); exact Kd.R_mono HO355.out (fun _ hk => hk.2)), (by (with_reducible repeat (first | apply Kd.R_alloc | apply Kd.R_drewN | apply Kd.R_drew)); exact Kd.R_mono HO358.out (fun _ hk => hk.2)), (zq BK348.out), (bq1 HB.out GE348.out)⟩)
       skip
       refine goes_ Try.func64 (by kernel_rfl) rfl #[.int .i64 a0_0] (by rfl) rfl rfl ga ?_
       with_reducible refine (spec_PutInt.calls k a0_0 t356 _ A4.out).mono ?_
       rintro e w14 ⟨v357, rfl, ho0, hb⟩
       refine ⟨_, rfl, ?_⟩
       have n_ := ak3 (Kd.R_lower ho0 (below_size (bq1 HB.out GE348.out))) (blk_below (g := gb348) (o := .cells #[.int .i64 a0_0, .int .i64 a0_1, .int .i64 a0_2, .slice A0_3 l0_3.length c0_3] 38 (0, 0)) (zq BK348.out) hb) (below_step (bq1 HB.out GE348.out) hb)
       clear BK348 HB
       obtain ⟨HO358, BK348, HB⟩ := n_
       (try clear hb ho0)
       refine hK.out _ _ ⟨(blk_cell BK348.out 0).trans rfl, (blk_cell BK348.out 1).trans rfl, (blk_cell BK348.out 2).trans rfl, (blk_cell BK348.out 3).trans rfl⟩ (fun hHeld => ?_)
       clear hK K
       refine norm_ (a' := ?_) ?_ ?_
       rotate_left
       · show Act.put _ (some 11) _ = _
         simp only [Act.put, List.setIfInBounds_toArray, List.set_cons_zero, List.set_cons_succ, i64_w, i32_w]
         rfl
       refine one_ (i := 0) (N := some 8) #[true, true, true, true, false, true, true, false, false, false] rfl rfl (one_of HT_.out (by kernel_rfl)) (by decide) (fun K hK => ?_)
       refine Kd.R_lit_step (Kd.int .u8) _ 5 ?hg (N := 8) ?hd (xs := ([] : List Int)) (inner := []) (ok := fun _ => True) (okp := fun _ => True) ?hr ?hp (fun _ hk => hk) trivial (Below.refl _ _) (Nat.le_refl _) (by simp) ?_; (case hd => rfl); (case hg => rfl); (case hr => exact gs); (case hp => exact (Reps.none _ _))
       intro v354 w15 ho16 hb hg_ hnew_
       clear hg_ hnew_
       (first | rw [← Ny353.out] at ho16 | (simp only [Int.reduceToNat] at ho16; rw [← Ny353.out] at ho16))
       have n_ := ak4 (Kd.R_elder' (kqR HO358.out) (Kd.R_base ho16) hb) (Kd.R_lower (Kd.R_new' ho16 (Kd.R_lt (kqR HO358.out))) (below_size (bq1 HB.out GE348.out))) (blk_below (g := gb348) (o := .cells #[.int .i64 a0_0, .int .i64 a0_1, .int .i64 a0_2, .slice A0_3 l0_3.length c0_3] 38 (0, 0)) (zq BK348.out) hb) (below_step (bq1 HB.out GE348.out) hb)
       clear HO358 BK348 HB
       obtain ⟨HO358, HO355, BK348, HB⟩ := n_
       clear hb ho16
       refine hK.out _ _ ⟨(blk_cell BK348.out 0).trans rfl, (blk_cell BK348.out 1).trans rfl, (blk_cell BK348.out 2).trans rfl, (blk_cell BK348.out 3).trans rfl⟩ (fun hHeld => ?_)
       clear hK K
       refine norm_ (a' := ?_) ?_ ?_
       rotate_left
       · show Act.put _ (some 8) _ = _
         simp only [Act.put, List.setIfInBounds_toArray, List.set_cons_zero, List.set_cons_succ, i64_w, i32_w]
         rfl
       exact norm_ (by simp only [putAll, Act.put, List.setIfInBounds_toArray, List.set_cons_zero, List.set_cons_succ]) (hCont (v354, v357) _ ⟨hHeld, (by (with_reducible repeat (first | apply Kd.R_alloc | apply Kd.R_drewN | apply Kd.R_drew)); exact Kd.R_mono HO355.out (fun _ hk => hk.2)), (by (with_reducible repeat (first | apply Kd.R_alloc | apply Kd.R_drewN | apply Kd.R_drew)); exact Kd.R_mono HO358.out (fun _ hk => hk.2)), (zq BK348.out), (bq1 HB.out GE348.out)⟩)
     rintro ⟨v354, v357⟩ w17 ⟨hS_, h0_, h1_, h2_, h3_⟩
     have n0_ : Aside0 (Kd.R (Kd.int .u8) 5 w17 w.heap.size (fun k_ => some k_ ≠ (v357 : Value).ownBlock) v354 y353) := ⟨h0_⟩
     have n1_ : Aside0 (Kd.R (Kd.int .u8) 5 w17 w.heap.size (fun k_ => some k_ ≠ (v354 : Value).ownBlock) v357 t356) := ⟨h1_⟩
     have n2_ : Aside0 (w17.heap[gb348]? = some (.cells #[.int .i64 a0_0, .int .i64 a0_1, .int .i64 a0_2, .slice A0_3 l0_3.length c0_3] 38 (0, 0))) := ⟨h2_⟩
     have n3_ : Aside0 (Below w.heap.size w w17) := ⟨h3_⟩
     clear BK348
     clear HB
     clear h0_ h1_ h2_ h3_
     have HO355 := n0_
     have HO358 := n1_
     have BK348 := n2_
     have HB := n3_
     clear n0_ n1_ n2_ n3_
     have hHeld : w17.cell? ⟨gb348, 0, none⟩ = some (.int .i64 a0_0) ∧ w17.cell? ⟨gb348, 1, none⟩ = some (.int .i64 a0_1) ∧ w17.cell? ⟨gb348, 2, none⟩ = some (.int .i64 a0_2) ∧ w17.cell? ⟨gb348, 3, none⟩ = some (.slice A0_3 l0_3.length c0_3) := hS_
     obtain ⟨Ao18, co18, eo18⟩ := Kd.R_slice HO355.out
     (first | subst eo18 | (injection eo18 with f1_ f2_ f3_; have f4_ := f1_.symm; have f5_ := f3_.symm; clear f1_ f2_ f3_; subst f4_; subst f5_))
     obtain ⟨Ao19, co19, eo19⟩ := Kd.R_slice HO358.out
     (first | subst eo19 | (injection eo19 with f1_ f2_ f3_; have f4_ := f1_.symm; have f5_ := f3_.symm; clear f1_ f2_ f3_; subst f4_; subst f5_))
     refine norm_ (a' := ?_) ?_ ?_
     rotate_left
     · simp only [putAll, Act.put, List.setIfInBounds_toArray, List.set_cons_zero, List.set_cons_succ]
       rfl
     refine one_ (i := 4) (N := some 12) #[true, true, true, true, true, true, true, false, false, false] rfl rfl (one_of HT_.out (by kernel_rfl)) (by decide) (fun K hK => ?_)
     refine goes_ Try.func66 (by kernel_rfl) rfl #[.slice Ao18 y353.length co18, .int .i64 1, .slice Ao19 t356.length co19] (by rfl) rfl rfl ga ?_
     with_reducible refine (spec_PutTlv.calls k _ _ y353 1 _ _ t356 t359 _ ?side1 ?side2 ?side3 ?side4 A5.out).mono ?_
     (case side1 => repeat (first | exact (Kd.R_reads' HO355.out).2.2 | (with_reducible refine Kd.C_alloc ?_ _) | (with_reducible refine Kd.C_drewN ?_ _) | (with_reducible refine Kd.C_drew ?_)))
     (case side2 => exact (Kd.R_reads' HO355.out).2.1)
     (case side3 => repeat (first | exact (Kd.R_reads' HO358.out).2.2 | (with_reducible refine Kd.C_alloc ?_ _) | (with_reducible refine Kd.C_drewN ?_ _) | (with_reducible refine Kd.C_drew ?_)))
     (case side4 => exact (Kd.R_reads' HO358.out).2.1)
     rintro e w20 ⟨v360, rfl, ho0, hb⟩
     refine ⟨_, rfl, ?_⟩
     have n_ := ak5 (Kd.R_elder' (kqR HO355.out) (Kd.R_base ho0) hb) (Kd.R_elder' (kqR HO358.out) (Kd.R_base ho0) hb) (Kd.R_lower (Kd.R_new' (Kd.R_new' ho0 (Kd.R_lt (kqR HO355.out))) (Kd.R_lt (kqR HO358.out))) (below_size (bq1 HB.out GE348.out))) (blk_below (g := gb348) (o := .cells #[.int .i64 a0_0, .int .i64 a0_1, .int .i64 a0_2, .slice A0_3 l0_3.length c0_3] 38 (0, 0)) (zq BK348.out) hb) (below_step (bq1 HB.out GE348.out) hb)
     clear HO355 HO358 BK348 HB
     obtain ⟨HO355, HO358, HO361, BK348, HB⟩ := n_
     (try clear hb ho0)
     refine hK.out _ _ ⟨(blk_cell BK348.out 0).trans rfl, (blk_cell BK348.out 1).trans rfl, (blk_cell BK348.out 2).trans rfl, (blk_cell BK348.out 3).trans rfl⟩ (fun hHeld => ?_)
     clear hK K
     refine norm_ (a' := ?_) ?_ ?_
     rotate_left
     · show Act.put _ (some 12) _ = _
       simp only [Act.put, List.setIfInBounds_toArray, List.set_cons_zero, List.set_cons_succ, i64_w, i32_w]
       rfl
     refine one_ (i := 7) (N := some 15) #[true, true, true, true, true, true, true, true, false, false] rfl rfl (one_of HT_.out (by kernel_rfl)) (by decide) (fun K hK => ?_)
     refine goes_ Try.func64 (by kernel_rfl) rfl #[.int .i64 a0_1] (by rfl) rfl rfl ga ?_
     with_reducible refine (spec_PutInt.calls k a0_1 t362 _ A6.out).mono ?_
     rintro e w21 ⟨v363, rfl, ho0, hb⟩
     refine ⟨_, rfl, ?_⟩
     have n_ := ak6 (Kd.R_elder' (kqR HO355.out) (Kd.R_base ho0) hb) (Kd.R_elder' (kqR HO358.out) (Kd.R_base ho0) hb) (Kd.R_elder' (kqR HO361.out) (Kd.R_base ho0) hb) (Kd.R_lower (Kd.R_new' (Kd.R_new' (Kd.R_new' ho0 (Kd.R_lt (kqR HO355.out))) (Kd.R_lt (kqR HO358.out))) (Kd.R_lt (kqR HO361.out))) (below_size (bq1 HB.out GE348.out))) (blk_below (g := gb348) (o := .cells #[.int .i64 a0_0, .int .i64 a0_1, .int .i64 a0_2, .slice A0_3 l0_3.length c0_3] 38 (0, 0)) (zq BK348.out) hb) (below_step (bq1 HB.out GE348.out) hb)
     clear HO355 HO358 HO361 BK348 HB
     obtain ⟨HO355, HO358, HO361, HO364, BK348, HB⟩ := n_
     (try clear hb ho0)
     obtain ⟨Ao22, co22, eo22⟩ := Kd.R_slice HO361.out
     (first | subst eo22 | (injection eo22 with f1_ f2_ f3_; have f4_ := f1_.symm; have f5_ := f3_.symm; clear f1_ f2_ f3_; subst f4_; subst f5_))
     obtain ⟨Ao23, co23, eo23⟩ := Kd.R_slice HO364.out
     (first | subst eo23 | (injection eo23 with f1_ f2_ f3_; have f4_ := f1_.symm; have f5_ := f3_.symm; clear f1_ f2_ f3_; subst f4_; subst f5_))
     refine hK.out _ _ ⟨(blk_cell BK348.out 0).trans rfl, (blk_cell BK348.out 1).trans rfl, (blk_cell BK348.out 2).trans rfl, (blk_cell BK348.out 3).trans rfl⟩ (fun hHeld => ?_)
     clear hK K
     refine norm_ (a' := ?_) ?_ ?_
     rotate_left
     · show Act.put _ (some 15) _ = _
       simp only [Act.put, List.setIfInBounds_toArray, List.set_cons_zero, List.set_cons_succ, i64_w, i32_w]
       rfl
     refine one_ (i := 8) (N := some 16) #[true, true, true, true, true, true, true, true, true, false] rfl rfl (one_of HT_.out (by kernel_rfl)) (by decide) (fun K hK => ?_)
     refine goes_ Try.func66 (by kernel_rfl) rfl #[.slice Ao22 t359.length co22, .int .i64 1, .slice Ao23 t362.length co23] (by rfl) rfl rfl ga ?_
     with_reducible refine (spec_PutTlv.calls k _ _ t359 1 _ _ t362 t365 _ ?side1 ?side2 ?side3 ?side4 A7.out).mono ?_
     (case side1 => repeat (first | exact (Kd.R_reads' HO361.out).2.2 | (with_reducible refine Kd.C_alloc ?_ _) | (with_reducible refine Kd.C_drewN ?_ _) | (with_reducible refine Kd.C_drew ?_)))
     (case side2 => exact (Kd.R_reads' HO361.out).2.1)
     (case side3 => repeat (first | exact (Kd.R_reads' HO364.out).2.2 | (with_reducible refine Kd.C_alloc ?_ _) | (with_reducible refine Kd.C_drewN ?_ _) | (with_reducible refine Kd.C_drew ?_)))
     (case side4 => exact (Kd.R_reads' HO364.out).2.1)
     rintro e w24 ⟨v366, rfl, ho0, hb⟩
     refine ⟨_, rfl, ?_⟩
     have n_ := ak7 (Kd.R_elder' (kqR HO355.out) (Kd.R_base ho0) hb) (Kd.R_elder' (kqR HO358.out) (Kd.R_base ho0) hb) (Kd.R_elder' (kqR HO361.out) (Kd.R_base ho0) hb) (Kd.R_elder' (kqR HO364.out) (Kd.R_base ho0) hb) (Kd.R_lower (Kd.R_new' (Kd.R_new' (Kd.R_new' (Kd.R_new' ho0 (Kd.R_lt (kqR HO355.out))) (Kd.R_lt (kqR HO358.out))) (Kd.R_lt (kqR HO361.out))) (Kd.R_lt (kqR HO364.out))) (below_size (bq1 HB.out GE348.out))) (blk_below (g := gb348) (o := .cells #[.int .i64 a0_0, .int .i64 a0_1, .int .i64 a0_2, .slice A0_3 l0_3.length c0_3] 38 (0, 0)) (zq BK348.out) hb) (below_step (bq1 HB.out GE348.out) hb)
     clear HO355 HO358 HO361 HO364 BK348 HB
     obtain ⟨HO355, HO358, HO361, HO364, HO367, BK348, HB⟩ := n_
     (try clear hb ho0)
     refine hK.out _ _ ⟨(blk_cell BK348.out 0).trans rfl, (blk_cell BK348.out 1).trans rfl, (blk_cell BK348.out 2).trans rfl, (blk_cell BK348.out 3).trans rfl⟩ (fun hHeld => ?_)
     clear hK K
     refine norm_ (a' := ?_) ?_ ?_
     rotate_left
     · show Act.put _ (some 16) _ = _
       simp only [Act.put, List.setIfInBounds_toArray, List.set_cons_zero, List.set_cons_succ, i64_w, i32_w]
       rfl
     refine pure_ (i := 9) (N := some 3) (v := ?_) (a' := ?_) #[true, true, true, true, true, true, true, true, true, true] rfl rfl (any_of HT_.out (by kernel_rfl)) (fun _ _ _ h => h) (Or.inl ⟨by rfl, ?_⟩) ?_ ?_
     rotate_left
     · intro w'
       go_simp
       with_reducible rfl
     rotate_left
     · simp only [Act.put, List.setIfInBounds_toArray, List.set_cons_zero, List.set_cons_succ, i64_w, i32_w]
       rfl
     refine done_ (done_of HT_.out (by kernel_rfl)) ?_
     have hcz25_0 : w24.cell? ⟨gb348, 0, none⟩ = some (.int .i64 a0_0) := (blk_cell BK348.out 0).trans rfl
     have hcz25_1 : w24.cell? ⟨gb348, 1, none⟩ = some (.int .i64 a0_1) := (blk_cell BK348.out 1).trans rfl
     have hcz25_2 : w24.cell? ⟨gb348, 2, none⟩ = some (.int .i64 a0_2) := (blk_cell BK348.out 2).trans rfl
     have hcz25_3 : w24.cell? ⟨gb348, 3, none⟩ = some (.slice A0_3 l0_3.length c0_3) := (blk_cell BK348.out 3).trans rfl
     have hfz25_0 := blk_frozen BK348.out 0
     have hfz25_1 := blk_frozen BK348.out 1
     have hfz25_2 := blk_frozen BK348.out 2
     have hfz25_3 := blk_frozen BK348.out 3
     obtain ⟨Ao26, co26, eo26⟩ := Kd.R_slice HO367.out
     subst eo26
     try go_wp2_with (first | ((with_reducible refine gate_callee (f := 66) rfl ?_); refine goesL_ (some 28) rfl rfl Try.func66 (by kernel_rfl) rfl #[.slice Ao26 t365.length co26, .int .i64 3, .slice A0_3 l0_3.length c0_3] rfl ga ?_; (with_reducible refine (spec_PutTlv.calls k _ _ t365 3 _ _ l0_3 t368 _ ?side1 ?side2 ?side3 ?side4 A9.out).mono ?_); (case side1 => repeat (first | exact (Kd.R_reads' HO367.out).2.2 | (with_reducible refine Kd.C_alloc ?_ _) | (with_reducible refine Kd.C_drewN ?_ _) | (with_reducible refine Kd.C_drew ?_))); (case side2 => exact (Kd.R_reads' HO367.out).2.1); (case side3 => exact cq (Kd.C_below HR0_3.out HB.out)); (case side4 => exact HC0_3.out); rintro e w27 ⟨v369, rfl, ho0, hb⟩; refine ⟨_, rfl, ?_⟩; have n_ := ak8 (Kd.R_elder' (kqR HO355.out) (Kd.R_base ho0) hb) (Kd.R_elder' (kqR HO358.out) (Kd.R_base ho0) hb) (Kd.R_elder' (kqR HO361.out) (Kd.R_base ho0) hb) (Kd.R_elder' (kqR HO364.out) (Kd.R_base ho0) hb) (Kd.R_elder' (kqR HO367.out) (Kd.R_base ho0) hb) (Kd.R_lower (Kd.R_new' (Kd.R_new' (Kd.R_new' (Kd.R_new' (Kd.R_new' ho0 (Kd.R_lt (kqR HO355.out))) (Kd.R_lt (kqR HO358.out))) (Kd.R_lt (kqR HO361.out))) (Kd.R_lt (kqR HO364.out))) (Kd.R_lt (kqR HO367.out))) (below_size (bq1 HB.out GE348.out))) (blk_below (g := gb348) (o := .cells #[.int .i64 a0_0, .int .i64 a0_1, .int .i64 a0_2, .slice A0_3 l0_3.length c0_3] 38 (0, 0)) (zq BK348.out) hb) (below_step (bq1 HB.out GE348.out) hb); clear HO355 HO358 HO361 HO364 HO367 BK348 HB; obtain ⟨HO355, HO358, HO361, HO364, HO367, HO370, BK348, HB⟩ := n_; (try clear hb ho0)))
     go_ret
     exact ⟨_, rq, by (with_reducible repeat (first | apply Kd.R_alloc | apply Kd.R_drewN | apply Kd.R_drew)); exact Kd.R_mono HO370.out (fun _ hk => trivial), bq1 HB.out GE348.out⟩
   rw [if_neg c8] at H
   have c8b0 : (a0_2 == 0) = false := beq_eq_false_iff_ne.mpr c8
   have c8b1 : (a0_2 != 0) = true := bne_iff_ne.mpr c8
   replace H := Option.bind_eq_some_iff.mp H
   obtain ⟨t371, A280, H⟩ := H
   replace H : ((spec_PutTlv.f k t365 2 t371).bind fun t374 => ((spec_PutTlv.f k t374 3 l0_3).bind fun t377 => (some t377))) = some r := H
   have A28 := am A280
   clear A280
   replace H := Option.bind_eq_some_iff.mp H
   obtain ⟨t374, A290, H⟩ := H
   replace H : ((spec_PutTlv.f k t374 3 l0_3).bind fun t377 => (some t377)) = some r := H
   have A29 := am A290
   clear A290
   replace H := Option.bind_eq_some_iff.mp H
   obtain ⟨t377, A300, H⟩ := H
   replace H : (some t377) = some r := H
   have A30 := am A300
   clear A300
   obtain rfl := Option.some.inj H
   go_enter Try.func78, Try.ntmps78
   try go_wp2_with (first | ((with_reducible refine gate_dst (N := 1) rfl ?_); refine box_event ?hg (N := 1) ?hd (cs := #[.int .i64 a0_0, .int .i64 a0_1, .int .i64 a0_2, .slice A0_3 l0_3.length c0_3]) (t := 38) ?hr ?_; (case hd => rfl); (case hg => rfl); (case hr => exact gs); intro gb348 hg w31 hbox hb; have n_ := ak4 (below_step (bq HB.out) hb) hbox ((by rw [hg]; exact (below_size (bq HB.out)) : w.heap.size ≤ gb348)) ((by rw [hg]; exact (below_size (bq HB.out)) : w.heap.size ≤ gb348)); clear HB; obtain ⟨HB, BK348, GW348, GE348⟩ := n_; clear hb hbox hg; have hcz32_0 : w31.cell? ⟨gb348, 0, none⟩ = some (.int .i64 a0_0) := (blk_cell BK348.out 0).trans rfl; have hcz32_1 : w31.cell? ⟨gb348, 1, none⟩ = some (.int .i64 a0_1) := (blk_cell BK348.out 1).trans rfl; have hcz32_2 : w31.cell? ⟨gb348, 2, none⟩ = some (.int .i64 a0_2) := (blk_cell BK348.out 2).trans rfl; have hcz32_3 : w31.cell? ⟨gb348, 3, none⟩ = some (.slice A0_3 l0_3.length c0_3) := (blk_cell BK348.out 3).trans rfl; have hfz32_0 := blk_frozen BK348.out 0; have hfz32_1 := blk_frozen BK348.out 1; have hfz32_2 := blk_frozen BK348.out 2; have hfz32_3 := blk_frozen BK348.out 3) | ((with_reducible refine gate_callee (f := 33) rfl ?_); refine goesL_ (some 5) rfl rfl Try.func33 (by kernel_rfl) rfl #[.agg #[.int .i64 a0_0, .int .i64 a0_1, .int .i64 a0_2, .slice A0_3 l0_3.length c0_3]] rfl ga ?_; (with_reducible refine (spec_FrameOk.calls a0_0 a0_1 a0_2 _ _ l0_3 true _ ?side1 ?side2 A2.out).mono ?_); (case side1 => exact cq (Kd.C_below HR0_3.out HB.out)); (case side2 => exact HC0_3.out); rintro e w33 ⟨rfl, hb⟩; refine ⟨_, rfl, ?_⟩; have n_ := ak2 (blk_below (g := gb348) (o := .cells #[.int .i64 a0_0, .int .i64 a0_1, .int .i64 a0_2, .slice A0_3 l0_3.length c0_3] 38 (0, 0)) (zq BK348.out) hb) (below_step (bq1 HB.out GE348.out) hb); clear BK348 HB; obtain ⟨BK348, HB⟩ := n_; (try clear hb)))
   have n_ := ak2 (blk_drew BK348.out) (below_drew1 HB.out)
   clear BK348 HB
   obtain ⟨BK348, HB⟩ := n_
   refine start_ (n := 10) (S := fun w' => w'.cell? ⟨gb348, 0, none⟩ = some (.int .i64 a0_0) ∧ w'.cell? ⟨gb348, 1, none⟩ = some (.int .i64 a0_1) ∧ w'.cell? ⟨gb348, 2, none⟩ = some (.int .i64 a0_2) ∧ w'.cell? ⟨gb348, 3, none⟩ = some (.slice A0_3 l0_3.length c0_3)) (ds := []) #[false, false, false, false, false, false, false, false, false, false] (by kernel_rfl) rfl rfl ⟨(blk_cell BK348.out 0).trans rfl, (blk_cell BK348.out 1).trans rfl, (blk_cell BK348.out 2).trans rfl, (blk_cell BK348.out 3).trans rfl⟩ (fun hHeld => ?_); refine with_tabW spec_PutFrame.tab3 spec_PutFrame.bits3 (fun HT_ HW_ => ?_)
   generalize w33.drew = w34 at BK348 HB hHeld ⊢
   refine pure_ (i := 1) (N := some 9) (v := ?_) (a' := ?_) #[false, true, false, false, false, false, false, false, false, false] rfl rfl (any_of HT_.out (by kernel_rfl)) (fun _ _ _ h => h) (Or.inl ⟨by rfl, ?_⟩) ?_ ?_
   rotate_left
   · intro w'
     go_simp
     with_reducible rfl
   rotate_left
   · simp only [Act.put, List.setIfInBounds_toArray, List.set_cons_zero, List.set_cons_succ, i64_w, i32_w]
     rfl
   refine pure_ (i := 5) (N := some 13) (v := ?_) (a' := ?_) #[false, true, false, false, false, true, false, false, false, false] rfl rfl (any_of HT_.out (by kernel_rfl)) (fun _ _ _ h => h) (Or.inl ⟨by rfl, ?_⟩) ?_ ?_
   rotate_left
   · intro w'
     go_simp
     with_reducible rfl
   rotate_left
   · simp only [Act.put, List.setIfInBounds_toArray, List.set_cons_zero, List.set_cons_succ, i64_w, i32_w]
     rfl
   refine take_ (i := 2) (N := some 10) (v := ?_) (a' := ?_) #[false, true, true, false, false, true, false, false, false, false] rfl rfl (take_ofW HT_.out HW_.out (by kernel_rfl)) (fun _ _ _ h => h) (Or.inl ⟨by rfl, ?_⟩) hHeld ?_ ?_
   rotate_left
   · rintro w' ⟨s0, s1, s2, s3⟩
     go_simp
     with_reducible rfl
   rotate_left
   · simp only [Act.put, List.setIfInBounds_toArray, List.set_cons_zero, List.set_cons_succ, i64_w, i32_w]
     rfl
   refine take_ (i := 6) (N := some 14) (v := ?_) (a' := ?_) #[false, true, true, false, false, true, true, false, false, false] rfl rfl (take_ofW HT_.out HW_.out (by kernel_rfl)) (fun _ _ _ h => h) (Or.inl ⟨by rfl, ?_⟩) hHeld ?_ ?_
   rotate_left
   · rintro w' ⟨s0, s1, s2, s3⟩
     go_simp
     with_reducible rfl
   rotate_left
   · simp only [Act.put, List.setIfInBounds_toArray, List.set_cons_zero, List.set_cons_succ, i64_w, i32_w]
     rfl
   refine join_ (σ := Value × Value) 4 #[true, true, true, true, false, true, true, false, false, false] (fun s_ => [(8, s_.1), (11, s_.2)]) (fun s_ w' => (w'.cell? ⟨gb348, 0, none⟩ = some (.int .i64 a0_0) ∧ w'.cell? ⟨gb348, 1, none⟩ = some (.int .i64 a0_1) ∧ w'.cell? ⟨gb348, 2, none⟩ = some (.int .i64 a0_2) ∧ w'.cell? ⟨gb348, 3, none⟩ = some (.slice A0_3 l0_3.length c0_3)) ∧ (Kd.R (Kd.int .u8) 5 w' w.heap.size (fun k_ => some k_ ≠ (s_.2 : Value).ownBlock) s_.1 y353) ∧ (Kd.R (Kd.int .u8) 5 w' w.heap.size (fun k_ => some k_ ≠ (s_.1 : Value).ownBlock) s_.2 t356) ∧ (w'.heap[gb348]? = some (.cells #[.int .i64 a0_0, .int .i64 a0_1, .int .i64 a0_2, .slice A0_3 l0_3.length c0_3] 38 (0, 0))) ∧ (Below w.heap.size w w')) ?_ ?_
   rotate_left
   · intro hCont
     refine two_ (i := 0) (j := 3) (Ni := some 8) (Nj := some 11) #[true, true, true, false, false, true, true, false, false, false] #[false, true, true, true, false, true, true, false, false, false] rfl rfl rfl rfl (two_of HT_.out (by kernel_rfl)) (by decide) (by decide) (fun K hK => ?_) (fun K hK => ?_)
     · skip
       refine Kd.R_lit_step (Kd.int .u8) _ 5 ?hg (N := 8) ?hd (xs := ([] : List Int)) (inner := []) (ok := fun _ => True) (okp := fun _ => True) ?hr ?hp (fun _ hk => hk) trivial (Below.refl _ _) (Nat.le_refl _) (by simp) ?_; (case hd => rfl); (case hg => rfl); (case hr => exact gs); (case hp => exact (Reps.none _ _))
       intro v354 w35 ho36 hb hg_ hnew_
       clear hg_ hnew_
       (first | rw [← Ny353.out] at ho36 | (simp only [Int.reduceToNat] at ho36; rw [← Ny353.out] at ho36))
       have n_ := ak3 (Kd.R_lower ho36 (below_size (bq1 HB.out GE348.out))) (blk_below (g := gb348) (o := .cells #[.int .i64 a0_0, .int .i64 a0_1, .int .i64 a0_2, .slice A0_3 l0_3.length c0_3] 38 (0, 0)) (zq BK348.out) hb) (below_step (bq1 HB.out GE348.out) hb)
       clear BK348 HB
       obtain ⟨HO355, BK348, HB⟩ := n_
       clear hb ho36
       refine hK.out _ _ ⟨(blk_cell BK348.out 0).trans rfl, (blk_cell BK348.out 1).trans rfl, (blk_cell BK348.out 2).trans rfl, (blk_cell BK348.out 3).trans rfl⟩ (fun hHeld => ?_)
       clear hK K
       refine norm_ (a' := ?_) ?_ ?_
       rotate_left
       · show Act.put _ (some 8) _ = _
         simp only [Act.put, List.setIfInBounds_toArray, List.set_cons_zero, List.set_cons_succ, i64_w, i32_w]
         rfl
       refine one_ (i := 3) (N := some 11) #[true, true, true, true, false, true, true, false, false, false] rfl rfl (one_of HT_.out (by kernel_rfl)) (by decide) (fun K hK => ?_)
       refine goes_ Try.func64 (by kernel_rfl) rfl #[.int .i64 a0_0] (by rfl) rfl rfl ga ?_
       with_reducible refine (spec_PutInt.calls k a0_0 t356 _ A4.out).mono ?_
       rintro e w37 ⟨v357, rfl, ho0, hb⟩
       refine ⟨_, rfl, ?_⟩
       have n_ := ak4 (Kd.R_elder' (kqR HO355.out) (Kd.R_base ho0) hb) (Kd.R_lower (Kd.R_new' ho0 (Kd.R_lt (kqR HO355.out))) (below_size (bq1 HB.out GE348.out))) (blk_below (g := gb348) (o := .cells #[.int .i64 a0_0, .int .i64 a0_1, .int .i64 a0_2, .slice A0_3 l0_3.length c0_3] 38 (0, 0)) (zq BK348.out) hb) (below_step (bq1 HB.out GE348.out) hb)
       clear HO355 BK348 HB
       obtain ⟨HO355, HO358, BK348, HB⟩ := n_
       (try clear hb ho0)
       refine hK.out _ _ ⟨(blk_cell BK348.out 0).trans rfl, (blk_cell BK348.out 1).trans rfl, (blk_cell BK348.out 2).trans rfl, (blk_cell BK348.out 3).trans rfl⟩ (fun hHeld => ?_)
       clear hK K
       refine norm_ (a' := ?_) ?_ ?_
       rotate_left
       · show Act.put _ (some 11) _ = _
         simp only [Act.put, List.setIfInBounds_toArray, List.set_cons_zero, List.set_cons_succ, i64_w, i32_w]
         rfl
       exact norm_ (by simp only [putAll, Act.put, List.setIfInBounds_toArray, List.set_cons_zero, List.set_cons_succ]) (hCont (v354, v357) _ ⟨hHeld, (by (with_reducible repeat (first | apply Kd.R_alloc | apply Kd.R_drewN | apply Kd.R_drew)); exact Kd.R_mono HO355.out (fun _ hk => hk.2)), (by (with_reducible repeat (first | apply Kd.R_alloc | apply Kd.R_drewN | apply Kd.R_drew)); exact Kd.R_mono HO358.out (fun _ hk => hk.2)), (zq BK348.out), (bq1 HB.out GE348.out)⟩)
     skip
     refine goes_ Try.func64 (by kernel_rfl) rfl #[.int .i64 a0_0] (by rfl) rfl rfl ga ?_
     with_reducible refine (spec_PutInt.calls k a0_0 t356 _ A4.out).mono ?_
     rintro e w35 ⟨v357, rfl, ho0, hb⟩
     refine ⟨_, rfl, ?_⟩
     have n_ := ak3 (Kd.R_lower ho0 (below_size (bq1 HB.out GE348.out))) (blk_below (g := gb348) (o := .cells #[.int .i64 a0_0, .int .i64 a0_1, .int .i64 a0_2, .slice A0_3 l0_3.length c0_3] 38 (0, 0)) (zq BK348.out) hb) (below_step (bq1 HB.out GE348.out) hb)
     clear BK348 HB
     obtain ⟨HO358, BK348, HB⟩ := n_
     (try clear hb ho0)
     refine hK.out _ _ ⟨(blk_cell BK348.out 0).trans rfl, (blk_cell BK348.out 1).trans rfl, (blk_cell BK348.out 2).trans rfl, (blk_cell BK348.out 3).trans rfl⟩ (fun hHeld => ?_)
     clear hK K
     refine norm_ (a' := ?_) ?_ ?_
     rotate_left
     · show Act.put _ (some 11) _ = _
       simp only [Act.put, List.setIfInBounds_toArray, List.set_cons_zero, List.set_cons_succ, i64_w, i32_w]
       rfl
     refine one_ (i := 0) (N := some 8) #[true, true, true, true, false, true, true, false, false, false] rfl rfl (one_of HT_.out (by kernel_rfl)) (by decide) (fun K hK => ?_)
     refine Kd.R_lit_step (Kd.int .u8) _ 5 ?hg (N := 8) ?hd (xs := ([] : List Int)) (inner := []) (ok := fun _ => True) (okp := fun _ => True) ?hr ?hp (fun _ hk => hk) trivial (Below.refl _ _) (Nat.le_refl _) (by simp) ?_; (case hd => rfl); (case hg => rfl); (case hr => exact gs); (case hp => exact (Reps.none _ _))
     intro v354 w36 ho37 hb hg_ hnew_
     clear hg_ hnew_
     (first | rw [← Ny353.out] at ho37 | (simp only [Int.reduceToNat] at ho37; rw [← Ny353.out] at ho37))
     have n_ := ak4 (Kd.R_elder' (kqR HO358.out) (Kd.R_base ho37) hb) (Kd.R_lower (Kd.R_new' ho37 (Kd.R_lt (kqR HO358.out))) (below_size (bq1 HB.out GE348.out))) (blk_below (g := gb348) (o := .cells #[.int .i64 a0_0, .int .i64 a0_1, .int .i64 a0_2, .slice A0_3 l0_3.length c0_3] 38 (0, 0)) (zq BK348.out) hb) (below_step (bq1 HB.out GE348.out) hb)
     clear HO358 BK348 HB
     obtain ⟨HO358, HO355, BK348, HB⟩ := n_
     clear hb ho37
     refine hK.out _ _ ⟨(blk_cell BK348.out 0).trans rfl, (blk_cell BK348.out 1).trans rfl, (blk_cell BK348.out 2).trans rfl, (blk_cell BK348.out 3).trans rfl⟩ (fun hHeld => ?_)
     clear hK K
     refine norm_ (a' := ?_) ?_ ?_
     rotate_left
     · show Act.put _ (some 8) _ = _
       simp only [Act.put, List.setIfInBounds_toArray, List.set_cons_zero, List.set_cons_succ, i64_w, i32_w]
       rfl
     exact norm_ (by simp only [putAll, Act.put, List.setIfInBounds_toArray, List.set_cons_zero, List.set_cons_succ]) (hCont (v354, v357) _ ⟨hHeld, (by (with_reducible repeat (first | apply Kd.R_alloc | apply Kd.R_drewN | apply Kd.R_drew)); exact Kd.R_mono HO355.out (fun _ hk => hk.2)), (by (with_reducible repeat (first | apply Kd.R_alloc | apply Kd.R_drewN | apply Kd.R_drew)); exact Kd.R_mono HO358.out (fun _ hk => hk.2)), (zq BK348.out), (bq1 HB.out GE348.out)⟩)
   rintro ⟨v354, v357⟩ w38 ⟨hS_, h0_, h1_, h2_, h3_⟩
   have n0_ : Aside0 (Kd.R (Kd.int .u8) 5 w38 w.heap.size (fun k_ => some k_ ≠ (v357 : Value).ownBlock) v354 y353) := ⟨h0_⟩
   have n1_ : Aside0 (Kd.R (Kd.int .u8) 5 w38 w.heap.size (fun k_ => some k_ ≠ (v354 : Value).ownBlock) v357 t356) := ⟨h1_⟩
   have n2_ : Aside0 (w38.heap[gb348]? = some (.cells #[.int .i64 a0_0, .int .i64 a0_1, .int .i64 a0_2, .slice A0_3 l0_3.length c0_3] 38 (0, 0))) := ⟨h2_⟩
   have n3_ : Aside0 (Below w.heap.size w w38) := ⟨h3_⟩
   clear BK348
   clear HB
   clear h0_ h1_ h2_ h3_
   have HO355 := n0_
   have HO358 := n1_
   have BK348 := n2_
   have HB := n3_
   clear n0_ n1_ n2_ n3_
   have hHeld : w38.cell? ⟨gb348, 0, none⟩ = some (.int .i64 a0_0) ∧ w38.cell? ⟨gb348, 1, none⟩ = some (.int .i64 a0_1) ∧ w38.cell? ⟨gb348, 2, none⟩ = some (.int .i64 a0_2) ∧ w38.cell? ⟨gb348, 3, none⟩ = some (.slice A0_3 l0_3.length c0_3) := hS_
   obtain ⟨Ao39, co39, eo39⟩ := Kd.R_slice HO355.out
   (first | subst eo39 | (injection eo39 with f1_ f2_ f3_; have f4_ := f1_.symm; have f5_ := f3_.symm; clear f1_ f2_ f3_; subst f4_; subst f5_))
   obtain ⟨Ao40, co40, eo40⟩ := Kd.R_slice HO358.out
   (first | subst eo40 | (injection eo40 with f1_ f2_ f3_; have f4_ := f1_.symm; have f5_ := f3_.symm; clear f1_ f2_ f3_; subst f4_; subst f5_))
   refine norm_ (a' := ?_) ?_ ?_
   rotate_left
   · simp only [putAll, Act.put, List.setIfInBounds_toArray, List.set_cons_zero, List.set_cons_succ]
     rfl
   refine one_ (i := 4) (N := some 12) #[true, true, true, true, true, true, true, false, false, false] rfl rfl (one_of HT_.out (by kernel_rfl)) (by decide) (fun K hK => ?_)
   refine goes_ Try.func66 (by kernel_rfl) rfl #[.slice Ao39 y353.length co39, .int .i64 1, .slice Ao40 t356.length co40] (by rfl) rfl rfl ga ?_
   with_reducible refine (spec_PutTlv.calls k _ _ y353 1 _ _ t356 t359 _ ?side1 ?side2 ?side3 ?side4 A5.out).mono ?_
   (case side1 => repeat (first | exact (Kd.R_reads' HO355.out).2.2 | (with_reducible refine Kd.C_alloc ?_ _) | (with_reducible refine Kd.C_drewN ?_ _) | (with_reducible refine Kd.C_drew ?_)))
   (case side2 => exact (Kd.R_reads' HO355.out).2.1)
   (case side3 => repeat (first | exact (Kd.R_reads' HO358.out).2.2 | (with_reducible refine Kd.C_alloc ?_ _) | (with_reducible refine Kd.C_drewN ?_ _) | (with_reducible refine Kd.C_drew ?_)))
   (case side4 => exact (Kd.R_reads' HO358.out).2.1)
   rintro e w41 ⟨v360, rfl, ho0, hb⟩
   refine ⟨_, rfl, ?_⟩
   have n_ := ak5 (Kd.R_elder' (kqR HO355.out) (Kd.R_base ho0) hb) (Kd.R_elder' (kqR HO358.out) (Kd.R_base ho0) hb) (Kd.R_lower (Kd.R_new' (Kd.R_new' ho0 (Kd.R_lt (kqR HO355.out))) (Kd.R_lt (kqR HO358.out))) (below_size (bq1 HB.out GE348.out))) (blk_below (g := gb348) (o := .cells #[.int .i64 a0_0, .int .i64 a0_1, .int .i64 a0_2, .slice A0_3 l0_3.length c0_3] 38 (0, 0)) (zq BK348.out) hb) (below_step (bq1 HB.out GE348.out) hb)
   clear HO355 HO358 BK348 HB
   obtain ⟨HO355, HO358, HO361, BK348, HB⟩ := n_
   (try clear hb ho0)
   refine hK.out _ _ ⟨(blk_cell BK348.out 0).trans rfl, (blk_cell BK348.out 1).trans rfl, (blk_cell BK348.out 2).trans rfl, (blk_cell BK348.out 3).trans rfl⟩ (fun hHeld => ?_)
   clear hK K
   refine norm_ (a' := ?_) ?_ ?_
   rotate_left
   · show Act.put _ (some 12) _ = _
     simp only [Act.put, List.setIfInBounds_toArray, List.set_cons_zero, List.set_cons_succ, i64_w, i32_w]
     rfl
   refine one_ (i := 7) (N := some 15) #[true, true, true, true, true, true, true, true, false, false] rfl rfl (one_of HT_.out (by kernel_rfl)) (by decide) (fun K hK => ?_)
   refine goes_ Try.func64 (by kernel_rfl) rfl #[.int .i64 a0_1] (by rfl) rfl rfl ga ?_
   with_reducible refine (spec_PutInt.calls k a0_1 t362 _ A6.out).mono ?_
   rintro e w42 ⟨v363, rfl, ho0, hb⟩
   refine ⟨_, rfl, ?_⟩
   have n_ := ak6 (Kd.R_elder' (kqR HO355.out) (Kd.R_base ho0) hb) (Kd.R_elder' (kqR HO358.out) (Kd.R_base ho0) hb) (Kd.R_elder' (kqR HO361.out) (Kd.R_base ho0) hb) (Kd.R_lower (Kd.R_new' (Kd.R_new' (Kd.R_new' ho0 (Kd.R_lt (kqR HO355.out))) (Kd.R_lt (kqR HO358.out))) (Kd.R_lt (kqR HO361.out))) (below_size (bq1 HB.out GE348.out))) (blk_below (g := gb348) (o := .cells #[.int .i64 a0_0, .int .i64 a0_1, .int .i64 a0_2, .slice A0_3 l0_3.length c0_3] 38 (0, 0)) (zq BK348.out) hb) (below_step (bq1 HB.out GE348.out) hb)
   clear HO355 HO358 HO361 BK348 HB
   obtain ⟨HO355, HO358, HO361, HO364, BK348, HB⟩ := n_
   (try clear hb ho0)
   obtain ⟨Ao43, co43, eo43⟩ := Kd.R_slice HO361.out
   (first | subst eo43 | (injection eo43 with f1_ f2_ f3_; have f4_ := f1_.symm; have f5_ := f3_.symm; clear f1_ f2_ f3_; subst f4_; subst f5_))
   obtain ⟨Ao44, co44, eo44⟩ := Kd.R_slice HO364.out
   (first | subst eo44 | (injection eo44 with f1_ f2_ f3_; have f4_ := f1_.symm; have f5_ := f3_.symm; clear f1_ f2_ f3_; subst f4_; subst f5_))
   refine hK.out _ _ ⟨(blk_cell BK348.out 0).trans rfl, (blk_cell BK348.out 1).trans rfl, (blk_cell BK348.out 2).trans rfl, (blk_cell BK348.out 3).trans rfl⟩ (fun hHeld => ?_)
   clear hK K
   refine norm_ (a' := ?_) ?_ ?_
   rotate_left
   · show Act.put _ (some 15) _ = _
     simp only [Act.put, List.setIfInBounds_toArray, List.set_cons_zero, List.set_cons_succ, i64_w, i32_w]
     rfl
   refine one_ (i := 8) (N := some 16) #[true, true, true, true, true, true, true, true, true, false] rfl rfl (one_of HT_.out (by kernel_rfl)) (by decide) (fun K hK => ?_)
   refine goes_ Try.func66 (by kernel_rfl) rfl #[.slice Ao43 t359.length co43, .int .i64 1, .slice Ao44 t362.length co44] (by rfl) rfl rfl ga ?_
   with_reducible refine (spec_PutTlv.calls k _ _ t359 1 _ _ t362 t365 _ ?side1 ?side2 ?side3 ?side4 A7.out).mono ?_
   (case side1 => repeat (first | exact (Kd.R_reads' HO361.out).2.2 | (with_reducible refine Kd.C_alloc ?_ _) | (with_reducible refine Kd.C_drewN ?_ _) | (with_reducible refine Kd.C_drew ?_)))
   (case side2 => exact (Kd.R_reads' HO361.out).2.1)
   (case side3 => repeat (first | exact (Kd.R_reads' HO364.out).2.2 | (with_reducible refine Kd.C_alloc ?_ _) | (with_reducible refine Kd.C_drewN ?_ _) | (with_reducible refine Kd.C_drew ?_)))
   (case side4 => exact (Kd.R_reads' HO364.out).2.1)
   rintro e w45 ⟨v366, rfl, ho0, hb⟩
   refine ⟨_, rfl, ?_⟩
   have n_ := ak7 (Kd.R_elder' (kqR HO355.out) (Kd.R_base ho0) hb) (Kd.R_elder' (kqR HO358.out) (Kd.R_base ho0) hb) (Kd.R_elder' (kqR HO361.out) (Kd.R_base ho0) hb) (Kd.R_elder' (kqR HO364.out) (Kd.R_base ho0) hb) (Kd.R_lower (Kd.R_new' (Kd.R_new' (Kd.R_new' (Kd.R_new' ho0 (Kd.R_lt (kqR HO355.out))) (Kd.R_lt (kqR HO358.out))) (Kd.R_lt (kqR HO361.out))) (Kd.R_lt (kqR HO364.out))) (below_size (bq1 HB.out GE348.out))) (blk_below (g := gb348) (o := .cells #[.int .i64 a0_0, .int .i64 a0_1, .int .i64 a0_2, .slice A0_3 l0_3.length c0_3] 38 (0, 0)) (zq BK348.out) hb) (below_step (bq1 HB.out GE348.out) hb)
   clear HO355 HO358 HO361 HO364 BK348 HB
   obtain ⟨HO355, HO358, HO361, HO364, HO367, BK348, HB⟩ := n_
   (try clear hb ho0)
   refine hK.out _ _ ⟨(blk_cell BK348.out 0).trans rfl, (blk_cell BK348.out 1).trans rfl, (blk_cell BK348.out 2).trans rfl, (blk_cell BK348.out 3).trans rfl⟩ (fun hHeld => ?_)
   clear hK K
   refine norm_ (a' := ?_) ?_ ?_
   rotate_left
   · show Act.put _ (some 16) _ = _
     simp only [Act.put, List.setIfInBounds_toArray, List.set_cons_zero, List.set_cons_succ, i64_w, i32_w]
     rfl
   refine pure_ (i := 9) (N := some 3) (v := ?_) (a' := ?_) #[true, true, true, true, true, true, true, true, true, true] rfl rfl (any_of HT_.out (by kernel_rfl)) (fun _ _ _ h => h) (Or.inl ⟨by rfl, ?_⟩) ?_ ?_
   rotate_left
   · intro w'
     go_simp
     with_reducible rfl
   rotate_left
   · simp only [Act.put, List.setIfInBounds_toArray, List.set_cons_zero, List.set_cons_succ, i64_w, i32_w]
     rfl
   refine done_ (done_of HT_.out (by kernel_rfl)) ?_
   have hcz46_0 : w45.cell? ⟨gb348, 0, none⟩ = some (.int .i64 a0_0) := (blk_cell BK348.out 0).trans rfl
   have hcz46_1 : w45.cell? ⟨gb348, 1, none⟩ = some (.int .i64 a0_1) := (blk_cell BK348.out 1).trans rfl
   have hcz46_2 : w45.cell? ⟨gb348, 2, none⟩ = some (.int .i64 a0_2) := (blk_cell BK348.out 2).trans rfl
   have hcz46_3 : w45.cell? ⟨gb348, 3, none⟩ = some (.slice A0_3 l0_3.length c0_3) := (blk_cell BK348.out 3).trans rfl
   have hfz46_0 := blk_frozen BK348.out 0
   have hfz46_1 := blk_frozen BK348.out 1
   have hfz46_2 := blk_frozen BK348.out 2
   have hfz46_3 := blk_frozen BK348.out 3
   try go_wp2_with (first | ((with_reducible refine gate_callee (f := 64) rfl ?_); refine goesL_ (some 23) rfl rfl Try.func64 (by kernel_rfl) rfl #[.int .i64 a0_2] rfl ga ?_; (with_reducible refine (spec_PutInt.calls k a0_2 t371 _ A28.out).mono ?_); rintro e w47 ⟨v372, rfl, ho0, hb⟩; refine ⟨_, rfl, ?_⟩; have n_ := ak8 (Kd.R_elder' (kqR HO355.out) (Kd.R_base ho0) hb) (Kd.R_elder' (kqR HO358.out) (Kd.R_base ho0) hb) (Kd.R_elder' (kqR HO361.out) (Kd.R_base ho0) hb) (Kd.R_elder' (kqR HO364.out) (Kd.R_base ho0) hb) (Kd.R_elder' (kqR HO367.out) (Kd.R_base ho0) hb) (Kd.R_lower (Kd.R_new' (Kd.R_new' (Kd.R_new' (Kd.R_new' (Kd.R_new' ho0 (Kd.R_lt (kqR HO355.out))) (Kd.R_lt (kqR HO358.out))) (Kd.R_lt (kqR HO361.out))) (Kd.R_lt (kqR HO364.out))) (Kd.R_lt (kqR HO367.out))) (below_size (bq1 HB.out GE348.out))) (blk_below (g := gb348) (o := .cells #[.int .i64 a0_0, .int .i64 a0_1, .int .i64 a0_2, .slice A0_3 l0_3.length c0_3] 38 (0, 0)) (zq BK348.out) hb) (below_step (bq1 HB.out GE348.out) hb); clear HO355 HO358 HO361 HO364 HO367 BK348 HB; obtain ⟨HO355, HO358, HO361, HO364, HO367, HO373, BK348, HB⟩ := n_; (try clear hb ho0); obtain ⟨Ao48, co48, eo48⟩ := Kd.R_slice HO367.out; subst eo48; obtain ⟨Ao49, co49, eo49⟩ := Kd.R_slice HO373.out; subst eo49) | ((with_reducible refine gate_callee (f := 66) rfl ?_); refine goesL_ (some 24) rfl rfl Try.func66 (by kernel_rfl) rfl #[.slice Ao48 t365.length co48, .int .i64 2, .slice Ao49 t371.length co49] rfl ga ?_; (with_reducible refine (spec_PutTlv.calls k _ _ t365 2 _ _ t371 t374 _ ?side1 ?side2 ?side3 ?side4 A29.out).mono ?_); (case side1 => repeat (first | exact (Kd.R_reads' HO367.out).2.2 | (with_reducible refine Kd.C_alloc ?_ _) | (with_reducible refine Kd.C_drewN ?_ _) | (with_reducible refine Kd.C_drew ?_))); (case side2 => exact (Kd.R_reads' HO367.out).2.1); (case side3 => repeat (first | exact (Kd.R_reads' HO373.out).2.2 | (with_reducible refine Kd.C_alloc ?_ _) | (with_reducible refine Kd.C_drewN ?_ _) | (with_reducible refine Kd.C_drew ?_))); (case side4 => exact (Kd.R_reads' HO373.out).2.1); rintro e w50 ⟨v375, rfl, ho0, hb⟩; refine ⟨_, rfl, ?_⟩; have n_ := ak9 (Kd.R_elder' (kqR HO355.out) (Kd.R_base ho0) hb) (Kd.R_elder' (kqR HO358.out) (Kd.R_base ho0) hb) (Kd.R_elder' (kqR HO361.out) (Kd.R_base ho0) hb) (Kd.R_elder' (kqR HO364.out) (Kd.R_base ho0) hb) (Kd.R_elder' (kqR HO367.out) (Kd.R_base ho0) hb) (Kd.R_elder' (kqR HO373.out) (Kd.R_base ho0) hb) (Kd.R_lower (Kd.R_new' (Kd.R_new' (Kd.R_new' (Kd.R_new' (Kd.R_new' (Kd.R_new' ho0 (Kd.R_lt (kqR HO355.out))) (Kd.R_lt (kqR HO358.out))) (Kd.R_lt (kqR HO361.out))) (Kd.R_lt (kqR HO364.out))) (Kd.R_lt (kqR HO367.out))) (Kd.R_lt (kqR HO373.out))) (below_size (bq1 HB.out GE348.out))) (blk_below (g := gb348) (o := .cells #[.int .i64 a0_0, .int .i64 a0_1, .int .i64 a0_2, .slice A0_3 l0_3.length c0_3] 38 (0, 0)) (zq BK348.out) hb) (below_step (bq1 HB.out GE348.out) hb); clear HO355 HO358 HO361 HO364 HO367 HO373 BK348 HB; obtain ⟨HO355, HO358, HO361, HO364, HO367, HO373, HO376, BK348, HB⟩ := n_; (try clear hb ho0); have hcz51_0 : w50.cell? ⟨gb348, 0, none⟩ = some (.int .i64 a0_0) := (blk_cell BK348.out 0).trans rfl; have hcz51_1 : w50.cell? ⟨gb348, 1, none⟩ = some (.int .i64 a0_1) := (blk_cell BK348.out 1).trans rfl; have hcz51_2 : w50.cell? ⟨gb348, 2, none⟩ = some (.int .i64 a0_2) := (blk_cell BK348.out 2).trans rfl; have hcz51_3 : w50.cell? ⟨gb348, 3, none⟩ = some (.slice A0_3 l0_3.length c0_3) := (blk_cell BK348.out 3).trans rfl; have hfz51_0 := blk_frozen BK348.out 0; have hfz51_1 := blk_frozen BK348.out 1; have hfz51_2 := blk_frozen BK348.out 2; have hfz51_3 := blk_frozen BK348.out 3; obtain ⟨Ao52, co52, eo52⟩ := Kd.R_slice HO376.out; subst eo52) | ((with_reducible refine gate_callee (f := 66) rfl ?_); refine goesL_ (some 28) rfl rfl Try.func66 (by kernel_rfl) rfl #[.slice Ao52 t374.length co52, .int .i64 3, .slice A0_3 l0_3.length c0_3] rfl ga ?_; (with_reducible refine (spec_PutTlv.calls k _ _ t374 3 _ _ l0_3 t377 _ ?side1 ?side2 ?side3 ?side4 A30.out).mono ?_); (case side1 => repeat (first | exact (Kd.R_reads' HO376.out).2.2 | (with_reducible refine Kd.C_alloc ?_ _) | (with_reducible refine Kd.C_drewN ?_ _) | (with_reducible refine Kd.C_drew ?_))); (case side2 => exact (Kd.R_reads' HO376.out).2.1); (case side3 => exact cq (Kd.C_below HR0_3.out HB.out)); (case side4 => exact HC0_3.out); rintro e w53 ⟨v378, rfl, ho0, hb⟩; refine ⟨_, rfl, ?_⟩; have n_ := ak10 (Kd.R_elder' (kqR HO355.out) (Kd.R_base ho0) hb) (Kd.R_elder' (kqR HO358.out) (Kd.R_base ho0) hb) (Kd.R_elder' (kqR HO361.out) (Kd.R_base ho0) hb) (Kd.R_elder' (kqR HO364.out) (Kd.R_base ho0) hb) (Kd.R_elder' (kqR HO367.out) (Kd.R_base ho0) hb) (Kd.R_elder' (kqR HO373.out) (Kd.R_base ho0) hb) (Kd.R_elder' (kqR HO376.out) (Kd.R_base ho0) hb) (Kd.R_lower (Kd.R_new' (Kd.R_new' (Kd.R_new' (Kd.R_new' (Kd.R_new' (Kd.R_new' (Kd.R_new' ho0 (Kd.R_lt (kqR HO355.out))) (Kd.R_lt (kqR HO358.out))) (Kd.R_lt (kqR HO361.out))) (Kd.R_lt (kqR HO364.out))) (Kd.R_lt (kqR HO367.out))) (Kd.R_lt (kqR HO373.out))) (Kd.R_lt (kqR HO376.out))) (below_size (bq1 HB.out GE348.out))) (blk_below (g := gb348) (o := .cells #[.int .i64 a0_0, .int .i64 a0_1, .int .i64 a0_2, .slice A0_3 l0_3.length c0_3] 38 (0, 0)) (zq BK348.out) hb) (below_step (bq1 HB.out GE348.out) hb); clear HO355 HO358 HO361 HO364 HO367 HO373 HO376 BK348 HB; obtain ⟨HO355, HO358, HO361, HO364, HO367, HO373, HO376, HO379, BK348, HB⟩ := n_; (try clear hb ho0)))
   go_ret
   exact ⟨_, rq, by (with_reducible repeat (first | apply Kd.R_alloc | apply Kd.R_drewN | apply Kd.R_drew)); exact Kd.R_mono HO379.out (fun _ hk => trivial), bq1 HB.out GE348.out⟩
 replace c3 := Bool.eq_false_iff.mpr c3
 subst c3
 have H1 : (some (([] : List Int))) = some r := by rw [if_neg (show ¬ (false = true) by decide)] at H; exact H
 clear H
 have H := H1
 clear H1
 obtain ⟨y350, hy350⟩ : ∃ y_ : List Int, y_ = (([] : List Int)) := ⟨_, rfl⟩
 replace H : (some y350) = some r := by first | (rw [hy350]; with_reducible exact H) | (have H2_ := (Option.bind_some _ _).symm.trans H; rw [hy350]; with_reducible exact H2_) | (have H2_ := (Option.bind_some _ _).symm.trans H; with_reducible exact H2_) | with_reducible exact H | (rw [hy350]; exact H) | exact H
 have Ny350 := am hy350
 clear hy350
 obtain rfl := Option.some.inj H
 go_enter Try.func78, Try.ntmps78
 go_wp2_with (first | ((with_reducible refine gate_dst (N := 1) rfl ?_); refine box_event ?hg (N := 1) ?hd (cs := #[.int .i64 a0_0, .int .i64 a0_1, .int .i64 a0_2, .slice A0_3 l0_3.length c0_3]) (t := 38) ?hr ?_; (case hd => rfl); (case hg => rfl); (case hr => exact gs); intro gb348 hg w54 hbox hb; have n_ := ak4 (below_step (bq HB.out) hb) hbox ((by rw [hg]; exact (below_size (bq HB.out)) : w.heap.size ≤ gb348)) ((by rw [hg]; exact (below_size (bq HB.out)) : w.heap.size ≤ gb348)); clear HB; obtain ⟨HB, BK348, GW348, GE348⟩ := n_; clear hb hbox hg; have hcz55_0 : w54.cell? ⟨gb348, 0, none⟩ = some (.int .i64 a0_0) := (blk_cell BK348.out 0).trans rfl; have hcz55_1 : w54.cell? ⟨gb348, 1, none⟩ = some (.int .i64 a0_1) := (blk_cell BK348.out 1).trans rfl; have hcz55_2 : w54.cell? ⟨gb348, 2, none⟩ = some (.int .i64 a0_2) := (blk_cell BK348.out 2).trans rfl; have hcz55_3 : w54.cell? ⟨gb348, 3, none⟩ = some (.slice A0_3 l0_3.length c0_3) := (blk_cell BK348.out 3).trans rfl; have hfz55_0 := blk_frozen BK348.out 0; have hfz55_1 := blk_frozen BK348.out 1; have hfz55_2 := blk_frozen BK348.out 2; have hfz55_3 := blk_frozen BK348.out 3) | ((with_reducible refine gate_callee (f := 33) rfl ?_); refine goesL_ (some 5) rfl rfl Try.func33 (by kernel_rfl) rfl #[.agg #[.int .i64 a0_0, .int .i64 a0_1, .int .i64 a0_2, .slice A0_3 l0_3.length c0_3]] rfl ga ?_; (with_reducible refine (spec_FrameOk.calls a0_0 a0_1 a0_2 _ _ l0_3 false _ ?side1 ?side2 A2.out).mono ?_); (case side1 => exact cq (Kd.C_below HR0_3.out HB.out)); (case side2 => exact HC0_3.out); rintro e w56 ⟨rfl, hb⟩; refine ⟨_, rfl, ?_⟩; have n_ := ak2 (blk_below (g := gb348) (o := .cells #[.int .i64 a0_0, .int .i64 a0_1, .int .i64 a0_2, .slice A0_3 l0_3.length c0_3] 38 (0, 0)) (zq BK348.out) hb) (below_step (bq1 HB.out GE348.out) hb); clear BK348 HB; obtain ⟨BK348, HB⟩ := n_; (try clear hb)) | ((with_reducible refine gate_dst (N := 7) rfl ?_); refine Kd.R_lit (Kd.int .u8) _ 5 ?hg (N := 7) ?hd (xs := ([] : List Int)) (inner := []) (ok := fun _ => True) (okp := fun _ => True) ?hr ?hp (fun _ hk => hk) trivial (Below.refl _ _) (Nat.le_refl _) (by simp) ?_; (case hd => rfl); (case hg => rfl); (case hr => exact gs); (case hp => exact (Reps.none _ _)); intro v351 w57 ho58 hb hg_ hnew_; clear hg_ hnew_; (first | rw [← Ny350.out] at ho58 | (simp only [Int.reduceToNat] at ho58; rw [← Ny350.out] at ho58)); have n_ := ak3 (Kd.R_lower ho58 (below_size (bq1 HB.out GE348.out))) (blk_below (g := gb348) (o := .cells #[.int .i64 a0_0, .int .i64 a0_1, .int .i64 a0_2, .slice A0_3 l0_3.length c0_3] 38 (0, 0)) (zq BK348.out) hb) (below_step (bq1 HB.out GE348.out) hb); clear BK348 HB; obtain ⟨HO352, BK348, HB⟩ := n_; clear hb ho58))
 go_ret
 exact ⟨_, rq, kqR HO352.out, bq1 HB.out GE348.out⟩

/-! ### spec_DrawGetFrame: function 26 -/
def spec_DrawGetFrame.f (k : Nat) (l0 : List Int) : Option (List Int) := (spec_l1New.f k l0).bind fun bt380 => ((spec_l6Draw.f k bt380.1 bt380.2.1 bt380.2.2).bind fun bt384 => ((spec_PutFrame.f k bt384.1 bt384.2.1 bt384.2.2.1 bt384.2.2.2.1).bind fun t392 => ((spec_l1Bend.f bt380.1 bt384.2.2.2.2.1 bt384.2.2.2.2.2 t392).bind fun bt395 => (some bt395.1))))
theorem spec_DrawGetFrame.mono : ∀ a0 k, LeO (spec_DrawGetFrame.f k a0) (spec_DrawGetFrame.f (k + 1) a0) := by
 intro a0 k
 unfold spec_DrawGetFrame.f
 repeat' first
  | (with_reducible exact spec_PutFrame.mono _ _ _ _ _)
  | (with_reducible exact spec_l1New.mono _ _)
  | (with_reducible exact spec_l6Draw.mono _ _ _ _)
  | (with_reducible exact LeO.refl _)
  | (with_reducible exact LeO.none _)
  | (with_reducible refine LeO.ite ?_ ?_)
  | (with_reducible refine LeO.bind ?_ (fun _ => ?_))
  | exact spec_PutFrame.mono _ _ _ _ _
  | exact spec_l1New.mono _ _
  | exact spec_l6Draw.mono _ _ _ _
  | exact LeO.none _
  | refine LeO.ite ?_ ?_
  | refine LeO.bind ?_ (fun _ => ?_)
set_option maxHeartbeats 8000000 in
set_option maxRecDepth 100000 in
theorem spec_DrawGetFrame.calls (k : Nat) (A0 : Option Addr) (c0 : Nat) (l0 : List Int) (r : List Int) (w : World) (hr0 : Kd.C (Kd.int .u8) w A0 l0.length l0) (hc0 : l0.length ≤ c0) (h : spec_DrawGetFrame.f k l0 = some r) :
 Calls Try.prog 26 #[.slice A0 l0.length c0] w fun e w' => ∃ v0_ : Value, e = .returned (v0_) ∧ Kd.R (Kd.int .u8) 5 w' w.heap.size (fun _ => True) v0_ r ∧ Below w.heap.size w w' := by
 have HR0 := am hr0
 have HC0 := am hc0
 clear hr0 hc0
 have HB := am (Below.refl w.heap.size w)
 have H : ((spec_l1New.f k l0).bind fun bt380 => ((spec_l6Draw.f k bt380.1 bt380.2.1 bt380.2.2).bind fun bt384 => ((spec_PutFrame.f k bt384.1 bt384.2.1 bt384.2.2.1 bt384.2.2.2.1).bind fun t392 => ((spec_l1Bend.f bt380.1 bt384.2.2.2.2.1 bt384.2.2.2.2.2 t392).bind fun bt395 => (some bt395.1))))) = some r := h
 clear h
 replace H := Option.bind_eq_some_iff.mp H
 obtain ⟨⟨t380, t381, t382⟩, A20, H⟩ := H
 replace H : ((spec_l6Draw.f k t380 t381 t382).bind fun bt384 => ((spec_PutFrame.f k bt384.1 bt384.2.1 bt384.2.2.1 bt384.2.2.2.1).bind fun t392 => ((spec_l1Bend.f t380 bt384.2.2.2.2.1 bt384.2.2.2.2.2 t392).bind fun bt395 => (some bt395.1)))) = some r := H
 have A2 := am A20
 clear A20
 replace H := Option.bind_eq_some_iff.mp H
 obtain ⟨⟨t384, t385, t386, t387, t390, t391⟩, A30, H⟩ := H
 replace H : ((spec_PutFrame.f k t384 t385 t386 t387).bind fun t392 => ((spec_l1Bend.f t380 t390 t391 t392).bind fun bt395 => (some bt395.1))) = some r := H
 have A3 := am A30
 clear A30
 replace H := Option.bind_eq_some_iff.mp H
 obtain ⟨t392, A40, H⟩ := H
 replace H : ((spec_l1Bend.f t380 t390 t391 t392).bind fun bt395 => (some bt395.1)) = some r := H
 have A4 := am A40
 clear A40
 replace H := Option.bind_eq_some_iff.mp H
 obtain ⟨⟨t395, t398, t399⟩, A50, H⟩ := H
 replace H : (some t395) = some r := H
 have A5 := am A50
 clear A50
 obtain rfl := Option.some.inj H
 go_enter Try.func26, Try.ntmps26
 go_wp2_with (first | ((with_reducible refine gate_callee (f := 74) rfl ?_); refine goesL_ (some 5) rfl rfl Try.func74 (by kernel_rfl) rfl #[.slice A0 l0.length c0] rfl ga ?_; (with_reducible refine (spec_l1New.calls k _ _ l0 t380 t381 t382 w _ ?side1 ?side2 ?side3 A2.out).mono ?_); (case side1 => exact bq HB.out); (case side2 => exact HR0.out); (case side3 => exact HC0.out); rintro e w6 ⟨g383, rfl, hi, hb, hb2⟩; refine ⟨_, rfl, ?_⟩; have n_ := ak2 hb hi; clear HB; obtain ⟨HB, HI383⟩ := n_; (try clear hb hb2 hi)) | ((with_reducible refine gate_callee (f := 79) rfl ?_); refine goesL_ (some 8) rfl rfl Try.func79 (by kernel_rfl) rfl #[.pointer (some ⟨g383, 0, none⟩)] rfl ga ?_; (with_reducible refine (spec_l6Draw.calls k g383 t380 t381 t382 t384 t385 t386 t387 t390 t391 w _ ?side1 ?side2 A3.out).mono ?_); (case side1 => exact IsS135.q0 HI383.out); (case side2 => exact bq1 HB.out (IsS135.ge HI383.out)); rintro e w7 ⟨v388, rfl, ho0, hi, hb, hk⟩; refine ⟨_, rfl, ?_⟩; have n_ := ak3 (Kd.R_lower ho0 (below_size (bq1 HB.out (IsS135.ge HI383.out)))) hb hi; clear HB HI383; obtain ⟨HO389, HB, HI383⟩ := n_; (try clear hb hk hi ho0); obtain ⟨Ao8, co8, eo8⟩ := Kd.R_slice HO389.out; subst eo8) | ((with_reducible refine gate_callee (f := 78) rfl ?_); refine goesL_ (some 9) rfl rfl Try.func78 (by kernel_rfl) rfl #[.agg #[.int .i64 t384, .int .i64 t385, .int .i64 t386, .slice Ao8 t387.length co8]] rfl ga ?_; (with_reducible refine (spec_PutFrame.calls k t384 t385 t386 _ _ t387 t392 _ ?side1 ?side2 A4.out).mono ?_); (case side1 => repeat (first | exact (Kd.R_reads' HO389.out).2.2 | (with_reducible refine Kd.C_alloc ?_ _) | (with_reducible refine Kd.C_drewN ?_ _) | (with_reducible refine Kd.C_drew ?_))); (case side2 => exact (Kd.R_reads' HO389.out).2.1); rintro e w9 ⟨v393, rfl, ho0, hb⟩; refine ⟨_, rfl, ?_⟩; have n_ := ak4 (Kd.R_elder' (kqR HO389.out) (Kd.R_base ho0) hb) (Kd.R_lower (Kd.R_new' ho0 (Kd.R_lt (kqR HO389.out))) (below_size (bq1 HB.out (IsS135.ge HI383.out)))) (IsS135.below (IsS135.q0 HI383.out) hb) (below_step (bq1 HB.out (IsS135.ge HI383.out)) hb); clear HO389 HI383 HB; obtain ⟨HO389, HO394, HI383, HB⟩ := n_; (try clear hb ho0); obtain ⟨Ao10, co10, eo10⟩ := Kd.R_slice HO394.out; subst eo10) | ((with_reducible refine gate_callee (f := 77) rfl ?_); refine goesL_ (some 10) rfl rfl Try.func77 (by kernel_rfl) rfl #[.pointer (some ⟨g383, 0, none⟩), .slice Ao10 t392.length co10] rfl ga ?_; (with_reducible refine (spec_l1Bend.calls g383 t380 t390 t391 (fun k_ => some k_ = (.slice Ao10 t392.length co10 : Value).ownBlock) (.slice Ao10 t392.length co10) t392 t395 t398 t399 w _ ?side1 ?side2 ?side3 A5.out).mono ?_); (case side1 => exact IsS135.q0 HI383.out); (case side2 => exact bq1 HB.out (IsS135.ge HI383.out)); (case side3 => exact Kd.R_tight rfl HO394.out); rintro e w11 ⟨v396, rfl, ho0, hi, hb, hkp⟩; refine ⟨_, rfl, ?_⟩; have n_ := ak4 hi (Kd.R_mono (ok' := fun k_ => some k_ ≠ (v396 : Value).ownBlock) (Kd.R_keptB ((IsS135.apart HI383.out HO389.out (by decide))) hkp (fun k_ hk_ hs_ => Or.elim hs_ (fun hs_ => (hk_.1.2) hs_) (fun e_ => (hk_.2) e_))) (fun k_ hk_ => fun e_ => Or.elim (ho0.1 k_ e_.symm) (fun hs_ => hk_.2.1 (Or.inl hs_)) (fun hn_ => Nat.not_le.2 hk_.2.2 hn_))) (Kd.R_mono (ok' := fun k_ => some k_ ≠ (.slice Ao8 t387.length co8 : Value).ownBlock) ho0 (fun k_ hk_ => Or.elim hk_ (fun hs_ => fun e_ => ((((IsS135.apart HI383.out HO389.out (by decide))).1 k_ e_.symm).1.2) hs_) (fun hn_ => (Kd.fresh' (Kd.R_lt (kqR HO389.out)) k_ hn_)))) hb; clear HI383 HO389 HB HO394; obtain ⟨HI383, HO389, HO397, HB⟩ := n_; (try clear hb hkp ho0)))
 go_ret
 exact ⟨_, rq, by (with_reducible repeat (first | apply Kd.R_alloc | apply Kd.R_drewN | apply Kd.R_drew)); exact Kd.R_mono HO397.out (fun _ hk => trivial), bq1 HB.out (IsS135.ge HI383.out)⟩

end Go.Proofs.Ythhnfmbfgplelaa.XFnFrames
