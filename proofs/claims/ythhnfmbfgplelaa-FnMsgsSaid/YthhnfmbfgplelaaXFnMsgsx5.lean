/- The functions that one law reaches, as Lean functions, with their walks: printed by a program of this seat (wip/tools) out of the translation. -/
import Derived.Test.YthhnfmbfgplelaaXFnMsgsx0
import Derived.Test.YthhnfmbfgplelaaXFnMsgsx1
import Derived.Test.YthhnfmbfgplelaaXFnMsgsx3
import Derived.Test.YthhnfmbfgplelaaXFnMsgsx4
namespace Go.Proofs.Ythhnfmbfgplelaa.XFnMsgs
open Go.RowKit Go.Proofs.YthhnfmbfgplelaaW.PrintWords Go.Proofs.YthhnfmbfgplelaaW.PrintLast Go.Proofs.YthhnfmbfgplelaaW.PrintMore
attribute [local go_sem] max2_int min2_int max_two min_two max_three min_three max_four min_four   -- for this text's walks alone
set_option linter.unusedVariables false
set_option linter.unusedSimpArgs false

/-! ### spec_l4Body: function 97 -/
def spec_l4Body.f (k : Nat) (a0_0 : Int) (a0_1 : Int) (a0_2 : Int) (a0_3 : Int) (l0_4 : List (S116)) : Option (List Int × Bool) := (spec_l4Binds.f k l0_4).bind fun t232 => (if (t232.length : Int) > 250 then (some ((([] : List Int)), false)) else ((spec_PutInt.f k a0_1).bind fun t241 => ((spec_PutTlv.f k (([] : List Int)) 2 t241).bind fun t244 => ((spec_PutInt.f k a0_2).bind fun t247 => ((spec_PutTlv.f k t244 2 t247).bind fun t250 => ((spec_PutInt.f k a0_3).bind fun t253 => ((spec_PutTlv.f k t250 2 t253).bind fun t256 => ((spec_PutTlv.f k t256 48 t232).bind fun t259 => (some (t259, decide ((t259.length : Int) ≤ 250)))))))))))
def spec_l4Body.T4 : Bool × List (List Nat × List Nat) := (true, [([], []), ([], []), ([1], [1]), ([2], [2]), ([0, 3, 3], [0, 3]), ([], []), ([5], [5]), ([6, 4], [6]), ([4, 7, 7], [4, 7]), ([], []), ([9], [9]), ([10, 8], [10]), ([8, 11, 11], [8, 11]), ([12, 12, 0, 1, 2, 3, 4, 5, 6, 7, 8, 9, 10, 11, 12], [12])])
def spec_l4Body.B4 : List Nat := [0, 0, 2, 6, 15, 0, 32, 127, 255, 0, 512, 2047, 4095, 8191]
theorem spec_l4Body.tab4 : rtab .any (opsOf Try.f97 4) = spec_l4Body.T4 := by kernel_rfl
theorem spec_l4Body.bits4 : waitsOk spec_l4Body.T4.2 spec_l4Body.B4 = true := by kernel_rfl
set_option maxHeartbeats 8000000 in
set_option maxRecDepth 100000 in
theorem spec_l4Body.calls (k : Nat) (a0_0 : Int) (a0_1 : Int) (a0_2 : Int) (a0_3 : Int) (A0_4 : Option Addr) (c0_4 : Nat) (l0_4 : List (S116)) (r1 : List Int) (r2 : Bool) (w : World) (hr0_4 : Kd.C k116 w A0_4 l0_4.length l0_4) (hc0_4 : l0_4.length ≤ c0_4) (h : spec_l4Body.f k a0_0 a0_1 a0_2 a0_3 l0_4 = some (r1, r2)) :
 Calls Try.prog 97 #[.agg #[.int .i64 a0_0, .int .i64 a0_1, .int .i64 a0_2, .int .i64 a0_3, .slice A0_4 l0_4.length c0_4]] w fun e w' => ∃ v0_ : Value, e = .returned (.tuple #[v0_, .bool r2]) ∧ Kd.R (Kd.int .u8) 5 w' w.heap.size (fun _ => True) v0_ r1 ∧ Below w.heap.size w w' := by
 have hu58 := Try.underlying58
 have HR0_4 := am hr0_4
 have HC0_4 := am hc0_4
 clear hr0_4 hc0_4
 have HB := am (Below.refl w.heap.size w)
 have H := h
 clear h
 unfold spec_l4Body.f at H
 replace H := be H
 obtain ⟨qa1_0, Qa1, H⟩ := H
 replace H := ig H
 rcases H with ⟨c3, c3b0, H⟩ | ⟨c3, c3b0, H⟩
 · have c3b1 : decide (250 < qa1_0.length) = true := decide_eq_true (by omega)
   clear c3
   generalize hy235 : ((([] : List Int)) : List Int) = y235 at H
   have Ny235 := am hy235.symm
   clear hy235
   simp only [Option.some.injEq, Prod.mk.injEq] at H
   obtain ⟨rfl, rfl⟩ := H
   go_enter Try.func97, Try.ntmps97
   go_wp2_with (first | ((with_reducible refine gate_dst (N := 1) rfl ?_); refine bxe 1 #[.int .i64 a0_0, .int .i64 a0_1, .int .i64 a0_2, .int .i64 a0_3, .slice A0_4 l0_4.length c0_4] 58 ?_; intro gb231 hg w4 hbox hb; have n_ := ak4 (below_step (bq HB.out) hb) hbox (bz hg (bq HB.out)) (bz hg (bq HB.out)); clear HB; obtain ⟨HB, BK231, GW231, GE231⟩ := n_; clear hb hbox hg; obtain ⟨hcz5_0, hcz5_1, hcz5_2, hcz5_3, hcz5_4, hfz5_0, hfz5_1, hfz5_2, hfz5_3, hfz5_4⟩ := cl5 BK231.out) | ((with_reducible refine gate_callee (f := 128) rfl ?_); refine gc (some 8) (spec_l4Binds.calls k _ _ l0_4 qa1_0 _ (cq (Kd.C_below HR0_4.out HB.out)) HC0_4.out Qa1.out) Try.func128 ?_; rintro e w6 ⟨v233, rfl, ho0, hb⟩; refine ⟨_, rfl, ?_⟩; have n_ := ak3 (rl ho0 (bq1 HB.out GE231.out)) (kb BK231 hb) (below_step (bq1 HB.out GE231.out) hb); clear BK231 HB; obtain ⟨HO234, BK231, HB⟩ := n_; (try clear hb ho0); obtain ⟨Ao7, co7, eo7⟩ := Kd.R_slice HO234.out; subst eo7) | ((with_reducible refine gate_dst (N := 12) rfl ?_); refine Kd.R_lit (Kd.int .u8) _ 5 ?hg (N := 12) ?hd (xs := ([] : List Int)) (inner := []) (ok := fun _ => True) (okp := fun _ => True) ?hr ?hp (fun _ hk => hk) trivial (Below.refl _ _) (Nat.le_refl _) (by simp) ?_; (case hd => rfl); (case hg => rfl); (case hr => exact gs); (case hp => exact (Reps.none _ _)); intro v236 w8 ho9 hb hg_ hnew_; clear hg_ hnew_; (first | rw [← Ny235.out] at ho9 | (simp only [Int.reduceToNat] at ho9; rw [← Ny235.out] at ho9)); have n_ := ak4 (re_ HO234 ho9 hb) (rn_ ho9 HO234 (bq1 HB.out GE231.out)) (kb BK231 hb) (below_step (bq1 HB.out GE231.out) hb); clear HO234 BK231 HB; obtain ⟨HO234, HO237, BK231, HB⟩ := n_; clear hb ho9))
   go_ret2
   exact ⟨_, rq, by refine kr ?_; exact Kd.R_mono HO237.out (fun _ hk => trivial), bq1 HB.out GE231.out⟩
 have c3b1 : decide (250 < qa1_0.length) = false := decide_eq_false (by omega)
 clear c3
 generalize hy238 : ((([] : List Int)) : List Int) = y238 at H
 have Ny238 := am hy238.symm
 clear hy238
 replace H := be H
 obtain ⟨qb1_0, Qb1, H⟩ := H
 replace H := be H
 obtain ⟨qc1_0, Qc1, H⟩ := H
 replace H := be H
 obtain ⟨qb2_0, Qb2, H⟩ := H
 replace H := be H
 obtain ⟨qc2_0, Qc2, H⟩ := H
 replace H := be H
 obtain ⟨qb3_0, Qb3, H⟩ := H
 replace H := be H
 obtain ⟨qc3_0, Qc3, H⟩ := H
 replace H := be H
 obtain ⟨qc4_0, Qc4, H⟩ := H
 simp only [Option.some.injEq, Prod.mk.injEq] at H
 obtain ⟨rfl, rfl⟩ := H
 go_enter Try.func97, Try.ntmps97
 try go_wp2_with (first | ((with_reducible refine gate_dst (N := 1) rfl ?_); refine bxe 1 #[.int .i64 a0_0, .int .i64 a0_1, .int .i64 a0_2, .int .i64 a0_3, .slice A0_4 l0_4.length c0_4] 58 ?_; intro gb231 hg w17 hbox hb; have n_ := ak4 (below_step (bq HB.out) hb) hbox (bz hg (bq HB.out)) (bz hg (bq HB.out)); clear HB; obtain ⟨HB, BK231, GW231, GE231⟩ := n_; clear hb hbox hg; obtain ⟨hcz18_0, hcz18_1, hcz18_2, hcz18_3, hcz18_4, hfz18_0, hfz18_1, hfz18_2, hfz18_3, hfz18_4⟩ := cl5 BK231.out) | ((with_reducible refine gate_callee (f := 128) rfl ?_); refine gc (some 8) (spec_l4Binds.calls k _ _ l0_4 qa1_0 _ (cq (Kd.C_below HR0_4.out HB.out)) HC0_4.out Qa1.out) Try.func128 ?_; rintro e w19 ⟨v233, rfl, ho0, hb⟩; refine ⟨_, rfl, ?_⟩; have n_ := ak3 (rl ho0 (bq1 HB.out GE231.out)) (kb BK231 hb) (below_step (bq1 HB.out GE231.out) hb); clear BK231 HB; obtain ⟨HO234, BK231, HB⟩ := n_; (try clear hb ho0); obtain ⟨Ao20, co20, eo20⟩ := Kd.R_slice HO234.out; subst eo20))
 have n_ := ak3 (Kd.R_drew HO234.out) (blk_drew BK231.out) (below_drew1 HB.out)
 clear HO234 BK231 HB
 obtain ⟨HO234, BK231, HB⟩ := n_
 refine start_ (n := 14) (S := fun w' => w'.cell? ⟨gb231, 0, none⟩ = some (.int .i64 a0_0) ∧ w'.cell? ⟨gb231, 1, none⟩ = some (.int .i64 a0_1) ∧ w'.cell? ⟨gb231, 2, none⟩ = some (.int .i64 a0_2) ∧ w'.cell? ⟨gb231, 3, none⟩ = some (.int .i64 a0_3) ∧ w'.cell? ⟨gb231, 4, none⟩ = some (.slice A0_4 l0_4.length c0_4)) (ds := []) #[F,F,F,F,F,F,F,F,F,F,F,F,F,F] (by kernel_rfl) rfl rfl ⟨(blk_cell BK231.out 0).trans rfl, (blk_cell BK231.out 1).trans rfl, (blk_cell BK231.out 2).trans rfl, (blk_cell BK231.out 3).trans rfl, (blk_cell BK231.out 4).trans rfl⟩ (fun hHeld => ?_); refine with_tabW spec_l4Body.tab4 spec_l4Body.bits4 (fun HT_ HW_ => ?_)
 generalize w19.drew = w21 at HO234 BK231 HB hHeld ⊢
 refine pv HT_ 1 (some 14) #[F,T,F,F,F,F,F,F,F,F,F,F,F,F] ?_
 refine pv HT_ 5 (some 18) #[F,T,F,F,F,T,F,F,F,F,F,F,F,F] ?_
 refine pv HT_ 9 (some 22) #[F,T,F,F,F,T,F,F,F,T,F,F,F,F] ?_
 refine tk 2 (some 15) #[F,T,T,F,F,T,F,F,F,T,F,F,F,F] rfl rfl (take_ofW HT_.out HW_.out (by kernel_rfl)) hHeld (Or.inl ⟨by rfl, by rintro w' ⟨s0, s1, s2, s3, s4⟩; go_simp; with_reducible rfl⟩) ?_
 refine tk 6 (some 19) #[F,T,T,F,F,T,T,F,F,T,F,F,F,F] rfl rfl (take_ofW HT_.out HW_.out (by kernel_rfl)) hHeld (Or.inl ⟨by rfl, by rintro w' ⟨s0, s1, s2, s3, s4⟩; go_simp; with_reducible rfl⟩) ?_
 refine tk 10 (some 23) #[F,T,T,F,F,T,T,F,F,T,T,F,F,F] rfl rfl (take_ofW HT_.out HW_.out (by kernel_rfl)) hHeld (Or.inl ⟨by rfl, by rintro w' ⟨s0, s1, s2, s3, s4⟩; go_simp; with_reducible rfl⟩) ?_
 refine join_ (σ := Value × Value) 6 #[T,T,T,T,F,T,T,F,F,T,T,F,F,F] (fun s_ => [(13, s_.1), (16, s_.2)]) (fun s_ w' => (w'.cell? ⟨gb231, 0, none⟩ = some (.int .i64 a0_0) ∧ w'.cell? ⟨gb231, 1, none⟩ = some (.int .i64 a0_1) ∧ w'.cell? ⟨gb231, 2, none⟩ = some (.int .i64 a0_2) ∧ w'.cell? ⟨gb231, 3, none⟩ = some (.int .i64 a0_3) ∧ w'.cell? ⟨gb231, 4, none⟩ = some (.slice A0_4 l0_4.length c0_4)) ∧ (Kd.R (Kd.int .u8) 5 w' w.heap.size (fun k_ => some k_ ≠ (s_.1 : Value).ownBlock ∧ some k_ ≠ (s_.2 : Value).ownBlock) (.slice Ao20 qa1_0.length co20) qa1_0) ∧ (Kd.R (Kd.int .u8) 5 w' w.heap.size (fun k_ => some k_ ≠ (.slice Ao20 qa1_0.length co20 : Value).ownBlock ∧ some k_ ≠ (s_.2 : Value).ownBlock) s_.1 y238) ∧ (Kd.R (Kd.int .u8) 5 w' w.heap.size (fun k_ => some k_ ≠ (.slice Ao20 qa1_0.length co20 : Value).ownBlock ∧ some k_ ≠ (s_.1 : Value).ownBlock) s_.2 qb1_0) ∧ (w'.heap[gb231]? = some (.cells #[.int .i64 a0_0, .int .i64 a0_1, .int .i64 a0_2, .int .i64 a0_3, .slice A0_4 l0_4.length c0_4] 58 (0, 0))) ∧ (Below w.heap.size w w')) ?_ ?_
 rotate_left
 · intro hCont
   refine two_ (i := 0) (j := 3) (Ni := some 13) (Nj := some 16) #[T,T,T,F,F,T,T,F,F,T,T,F,F,F] #[F,T,T,T,F,T,T,F,F,T,T,F,F,F] rfl rfl rfl rfl (two_of HT_.out (by kernel_rfl)) (by decide) (by decide) (fun K hK => ?_) (fun K hK => ?_)
   · skip
     refine Kd.R_lit_step (Kd.int .u8) _ 5 ?hg (N := 13) ?hd (xs := ([] : List Int)) (inner := []) (ok := fun _ => True) (okp := fun _ => True) ?hr ?hp (fun _ hk => hk) trivial (Below.refl _ _) (Nat.le_refl _) (by simp) ?_; (case hd => rfl); (case hg => rfl); (case hr => exact gs); (case hp => exact (Reps.none _ _))
     intro v239 w22 ho23 hb hg_ hnew_
     clear hg_ hnew_
     (first | rw [← Ny238.out] at ho23 | (simp only [Int.reduceToNat] at ho23; rw [← Ny238.out] at ho23))
     have n_ := ak4 (re_ HO234 ho23 hb) (rn_ ho23 HO234 (bq1 HB.out GE231.out)) (kb BK231 hb) (below_step (bq1 HB.out GE231.out) hb)
     clear HO234 BK231 HB
     obtain ⟨HO234, HO240, BK231, HB⟩ := n_
     clear hb ho23
     refine hK.out _ _ ⟨(blk_cell BK231.out 0).trans rfl, (blk_cell BK231.out 1).trans rfl, (blk_cell BK231.out 2).trans rfl, (blk_cell BK231.out 3).trans rfl, (blk_cell BK231.out 4).trans rfl⟩ (fun hHeld => ?_)
     clear hK K
     refine norm_ (a' := ?_) ?_ ?_
     rotate_left
     · show Act.put _ (some 13) _ = _
       simp only [Act.put, List.setIfInBounds_toArray, List.set_cons_zero, List.set_cons_succ, i64_w, i32_w]
       rfl
     refine one_ (i := 3) (N := some 16) #[T,T,T,T,F,T,T,F,F,T,T,F,F,F] rfl rfl (one_of HT_.out (by kernel_rfl)) (by decide) (fun K hK => ?_)
     refine goes_ Try.func64 (by kernel_rfl) rfl #[.int .i64 a0_1] (by rfl) rfl rfl ga ?_
     with_reducible refine (spec_PutInt.calls k a0_1 qb1_0 _ Qb1.out).mono ?_
     rintro e w24 ⟨v242, rfl, ho0, hb⟩
     refine ⟨_, rfl, ?_⟩
     have n_ := ak5 (re_ HO234 ho0 hb) (re_ HO240 ho0 hb) (Kd.R_lower (Kd.R_new' (Kd.R_new' ho0 (Kd.R_lt (kqR HO234.out))) (Kd.R_lt (kqR HO240.out))) (below_size (bq1 HB.out GE231.out))) (kb BK231 hb) (below_step (bq1 HB.out GE231.out) hb)
     clear HO234 HO240 BK231 HB
     obtain ⟨HO234, HO240, HO243, BK231, HB⟩ := n_
     (try clear hb ho0)
     refine hK.out _ _ ⟨(blk_cell BK231.out 0).trans rfl, (blk_cell BK231.out 1).trans rfl, (blk_cell BK231.out 2).trans rfl, (blk_cell BK231.out 3).trans rfl, (blk_cell BK231.out 4).trans rfl⟩ (fun hHeld => ?_)
     clear hK K
     refine norm_ (a' := ?_) ?_ ?_
     rotate_left
     · show Act.put _ (some 16) _ = _
       simp only [Act.put, List.setIfInBounds_toArray, List.set_cons_zero, List.set_cons_succ, i64_w, i32_w]
       rfl
     exact norm_ (by simp only [putAll, Act.put, List.setIfInBounds_toArray, List.set_cons_zero, List.set_cons_succ]) (hCont (v239, v242) _ ⟨hHeld, (by refine kr ?_; exact Kd.R_mono HO234.out (fun _ hk => ⟨hk.1.2, hk.2⟩)), (by refine kr ?_; exact Kd.R_mono HO240.out (fun _ hk => ⟨hk.1.2, hk.2⟩)), (by refine kr ?_; exact Kd.R_mono HO243.out (fun _ hk => ⟨hk.1.2, hk.2⟩)), (zq BK231.out), (bq1 HB.out GE231.out)⟩)
   skip
   refine goes_ Try.func64 (by kernel_rfl) rfl #[.int .i64 a0_1] (by rfl) rfl rfl ga ?_
   with_reducible refine (spec_PutInt.calls k a0_1 qb1_0 _ Qb1.out).mono ?_
   rintro e w22 ⟨v242, rfl, ho0, hb⟩
   refine ⟨_, rfl, ?_⟩
   have n_ := ak4 (re_ HO234 ho0 hb) (rn_ ho0 HO234 (bq1 HB.out GE231.out)) (kb BK231 hb) (below_step (bq1 HB.out GE231.out) hb)
   clear HO234 BK231 HB
   obtain ⟨HO234, HO243, BK231, HB⟩ := n_
   (try clear hb ho0)
   refine hK.out _ _ ⟨(blk_cell BK231.out 0).trans rfl, (blk_cell BK231.out 1).trans rfl, (blk_cell BK231.out 2).trans rfl, (blk_cell BK231.out 3).trans rfl, (blk_cell BK231.out 4).trans rfl⟩ (fun hHeld => ?_)
   clear hK K
   refine norm_ (a' := ?_) ?_ ?_
   rotate_left
   · show Act.put _ (some 16) _ = _
     simp only [Act.put, List.setIfInBounds_toArray, List.set_cons_zero, List.set_cons_succ, i64_w, i32_w]
     rfl
   refine one_ (i := 0) (N := some 13) #[T,T,T,T,F,T,T,F,F,T,T,F,F,F] rfl rfl (one_of HT_.out (by kernel_rfl)) (by decide) (fun K hK => ?_)
   refine Kd.R_lit_step (Kd.int .u8) _ 5 ?hg (N := 13) ?hd (xs := ([] : List Int)) (inner := []) (ok := fun _ => True) (okp := fun _ => True) ?hr ?hp (fun _ hk => hk) trivial (Below.refl _ _) (Nat.le_refl _) (by simp) ?_; (case hd => rfl); (case hg => rfl); (case hr => exact gs); (case hp => exact (Reps.none _ _))
   intro v239 w23 ho24 hb hg_ hnew_
   clear hg_ hnew_
   (first | rw [← Ny238.out] at ho24 | (simp only [Int.reduceToNat] at ho24; rw [← Ny238.out] at ho24))
   have n_ := ak5 (re_ HO234 ho24 hb) (re_ HO243 ho24 hb) (Kd.R_lower (Kd.R_new' (Kd.R_new' ho24 (Kd.R_lt (kqR HO234.out))) (Kd.R_lt (kqR HO243.out))) (below_size (bq1 HB.out GE231.out))) (kb BK231 hb) (below_step (bq1 HB.out GE231.out) hb)
   clear HO234 HO243 BK231 HB
   obtain ⟨HO234, HO243, HO240, BK231, HB⟩ := n_
   clear hb ho24
   refine hK.out _ _ ⟨(blk_cell BK231.out 0).trans rfl, (blk_cell BK231.out 1).trans rfl, (blk_cell BK231.out 2).trans rfl, (blk_cell BK231.out 3).trans rfl, (blk_cell BK231.out 4).trans rfl⟩ (fun hHeld => ?_)
   clear hK K
   refine norm_ (a' := ?_) ?_ ?_
   rotate_left
   · show Act.put _ (some 13) _ = _
     simp only [Act.put, List.setIfInBounds_toArray, List.set_cons_zero, List.set_cons_succ, i64_w, i32_w]
     rfl
   exact norm_ (by simp only [putAll, Act.put, List.setIfInBounds_toArray, List.set_cons_zero, List.set_cons_succ]) (hCont (v239, v242) _ ⟨hHeld, (by refine kr ?_; exact Kd.R_mono HO234.out (fun _ hk => ⟨hk.2, hk.1.2⟩)), (by refine kr ?_; exact Kd.R_mono HO240.out (fun _ hk => ⟨hk.1.2, hk.2⟩)), (by refine kr ?_; exact Kd.R_mono HO243.out (fun _ hk => ⟨hk.1.2, hk.2⟩)), (zq BK231.out), (bq1 HB.out GE231.out)⟩)
 rintro ⟨v239, v242⟩ w25 ⟨hS_, h0_, h1_, h2_, h3_, h4_⟩
 have n_ : Aside0 (Kd.R (Kd.int .u8) 5 w25 w.heap.size (fun k_ => some k_ ≠ (v239 : Value).ownBlock ∧ some k_ ≠ (v242 : Value).ownBlock) (.slice Ao20 qa1_0.length co20) qa1_0) ∧ Aside0 (Kd.R (Kd.int .u8) 5 w25 w.heap.size (fun k_ => some k_ ≠ (.slice Ao20 qa1_0.length co20 : Value).ownBlock ∧ some k_ ≠ (v242 : Value).ownBlock) v239 y238) ∧ Aside0 (Kd.R (Kd.int .u8) 5 w25 w.heap.size (fun k_ => some k_ ≠ (.slice Ao20 qa1_0.length co20 : Value).ownBlock ∧ some k_ ≠ (v239 : Value).ownBlock) v242 qb1_0) ∧ Aside0 (w25.heap[gb231]? = some (.cells #[.int .i64 a0_0, .int .i64 a0_1, .int .i64 a0_2, .int .i64 a0_3, .slice A0_4 l0_4.length c0_4] 58 (0, 0))) ∧ Aside0 (Below w.heap.size w w25) := ⟨⟨h0_⟩, ⟨h1_⟩, ⟨h2_⟩, ⟨h3_⟩, ⟨h4_⟩⟩
 clear HO234 BK231 HB h0_ h1_ h2_ h3_ h4_
 obtain ⟨HO234, HO240, HO243, BK231, HB⟩ := n_
 have hHeld : w25.cell? ⟨gb231, 0, none⟩ = some (.int .i64 a0_0) ∧ w25.cell? ⟨gb231, 1, none⟩ = some (.int .i64 a0_1) ∧ w25.cell? ⟨gb231, 2, none⟩ = some (.int .i64 a0_2) ∧ w25.cell? ⟨gb231, 3, none⟩ = some (.int .i64 a0_3) ∧ w25.cell? ⟨gb231, 4, none⟩ = some (.slice A0_4 l0_4.length c0_4) := hS_
 obtain ⟨Ao26, co26, eo26⟩ := Kd.R_slice HO240.out
 (first | subst eo26 | (injection eo26 with f1_ f2_ f3_; have f4_ := f1_.symm; have f5_ := f3_.symm; clear f1_ f2_ f3_; subst f4_; subst f5_))
 obtain ⟨Ao27, co27, eo27⟩ := Kd.R_slice HO243.out
 (first | subst eo27 | (injection eo27 with f1_ f2_ f3_; have f4_ := f1_.symm; have f5_ := f3_.symm; clear f1_ f2_ f3_; subst f4_; subst f5_))
 refine norm_ (a' := ?_) ?_ ?_
 rotate_left
 · simp only [putAll, Act.put, List.setIfInBounds_toArray, List.set_cons_zero, List.set_cons_succ]
   rfl
 refine one_ (i := 4) (N := some 17) #[T,T,T,T,T,T,T,F,F,T,T,F,F,F] rfl rfl (one_of HT_.out (by kernel_rfl)) (by decide) (fun K hK => ?_)
 refine goes_ Try.func66 (by kernel_rfl) rfl #[.slice Ao26 y238.length co26, .int .i64 2, .slice Ao27 qb1_0.length co27] (by rfl) rfl rfl ga ?_
 with_reducible refine (spec_PutTlv.calls k _ _ y238 2 _ _ qb1_0 qc1_0 _ ?side1 ?side2 ?side3 ?side4 Qc1.out).mono ?_
 (case side1 => repeat (first | exact (Kd.R_reads' HO240.out).2.2 | (with_reducible refine Kd.C_alloc ?_ _) | (with_reducible refine Kd.C_drewN ?_ _) | (with_reducible refine Kd.C_drew ?_)))
 (case side2 => exact (Kd.R_reads' HO240.out).2.1)
 (case side3 => repeat (first | exact (Kd.R_reads' HO243.out).2.2 | (with_reducible refine Kd.C_alloc ?_ _) | (with_reducible refine Kd.C_drewN ?_ _) | (with_reducible refine Kd.C_drew ?_)))
 (case side4 => exact (Kd.R_reads' HO243.out).2.1)
 rintro e w28 ⟨v245, rfl, ho0, hb⟩
 refine ⟨_, rfl, ?_⟩
 have n_ := ak6 (re_ HO234 ho0 hb) (re_ HO240 ho0 hb) (re_ HO243 ho0 hb) (Kd.R_lower (Kd.R_new' (Kd.R_new' (Kd.R_new' ho0 (Kd.R_lt (kqR HO234.out))) (Kd.R_lt (kqR HO240.out))) (Kd.R_lt (kqR HO243.out))) (below_size (bq1 HB.out GE231.out))) (kb BK231 hb) (below_step (bq1 HB.out GE231.out) hb)
 clear HO234 HO240 HO243 BK231 HB
 obtain ⟨HO234, HO240, HO243, HO246, BK231, HB⟩ := n_
 (try clear hb ho0)
 refine hK.out _ _ ⟨(blk_cell BK231.out 0).trans rfl, (blk_cell BK231.out 1).trans rfl, (blk_cell BK231.out 2).trans rfl, (blk_cell BK231.out 3).trans rfl, (blk_cell BK231.out 4).trans rfl⟩ (fun hHeld => ?_)
 clear hK K
 refine norm_ (a' := ?_) ?_ ?_
 rotate_left
 · show Act.put _ (some 17) _ = _
   simp only [Act.put, List.setIfInBounds_toArray, List.set_cons_zero, List.set_cons_succ, i64_w, i32_w]
   rfl
 refine one_ (i := 7) (N := some 20) #[T,T,T,T,T,T,T,T,F,T,T,F,F,F] rfl rfl (one_of HT_.out (by kernel_rfl)) (by decide) (fun K hK => ?_)
 refine goes_ Try.func64 (by kernel_rfl) rfl #[.int .i64 a0_2] (by rfl) rfl rfl ga ?_
 with_reducible refine (spec_PutInt.calls k a0_2 qb2_0 _ Qb2.out).mono ?_
 rintro e w29 ⟨v248, rfl, ho0, hb⟩
 refine ⟨_, rfl, ?_⟩
 have n_ := ak7 (re_ HO234 ho0 hb) (re_ HO240 ho0 hb) (re_ HO243 ho0 hb) (re_ HO246 ho0 hb) (Kd.R_lower (Kd.R_new' (Kd.R_new' (Kd.R_new' (Kd.R_new' ho0 (Kd.R_lt (kqR HO234.out))) (Kd.R_lt (kqR HO240.out))) (Kd.R_lt (kqR HO243.out))) (Kd.R_lt (kqR HO246.out))) (below_size (bq1 HB.out GE231.out))) (kb BK231 hb) (below_step (bq1 HB.out GE231.out) hb)
 clear HO234 HO240 HO243 HO246 BK231 HB
 obtain ⟨HO234, HO240, HO243, HO246, HO249, BK231, HB⟩ := n_
 (try clear hb ho0)
 obtain ⟨Ao30, co30, eo30⟩ := Kd.R_slice HO246.out
 (first | subst eo30 | (injection eo30 with f1_ f2_ f3_; have f4_ := f1_.symm; have f5_ := f3_.symm; clear f1_ f2_ f3_; subst f4_; subst f5_))
 obtain ⟨Ao31, co31, eo31⟩ := Kd.R_slice HO249.out
 (first | subst eo31 | (injection eo31 with f1_ f2_ f3_; have f4_ := f1_.symm; have f5_ := f3_.symm; clear f1_ f2_ f3_; subst f4_; subst f5_))
 refine hK.out _ _ ⟨(blk_cell BK231.out 0).trans rfl, (blk_cell BK231.out 1).trans rfl, (blk_cell BK231.out 2).trans rfl, (blk_cell BK231.out 3).trans rfl, (blk_cell BK231.out 4).trans rfl⟩ (fun hHeld => ?_)
 clear hK K
 refine norm_ (a' := ?_) ?_ ?_
 rotate_left
 · show Act.put _ (some 20) _ = _
   simp only [Act.put, List.setIfInBounds_toArray, List.set_cons_zero, List.set_cons_succ, i64_w, i32_w]
   rfl
 refine one_ (i := 8) (N := some 21) #[T,T,T,T,T,T,T,T,T,T,T,F,F,F] rfl rfl (one_of HT_.out (by kernel_rfl)) (by decide) (fun K hK => ?_)
 refine goes_ Try.func66 (by kernel_rfl) rfl #[.slice Ao30 qc1_0.length co30, .int .i64 2, .slice Ao31 qb2_0.length co31] (by rfl) rfl rfl ga ?_
 with_reducible refine (spec_PutTlv.calls k _ _ qc1_0 2 _ _ qb2_0 qc2_0 _ ?side1 ?side2 ?side3 ?side4 Qc2.out).mono ?_
 (case side1 => repeat (first | exact (Kd.R_reads' HO246.out).2.2 | (with_reducible refine Kd.C_alloc ?_ _) | (with_reducible refine Kd.C_drewN ?_ _) | (with_reducible refine Kd.C_drew ?_)))
 (case side2 => exact (Kd.R_reads' HO246.out).2.1)
 (case side3 => repeat (first | exact (Kd.R_reads' HO249.out).2.2 | (with_reducible refine Kd.C_alloc ?_ _) | (with_reducible refine Kd.C_drewN ?_ _) | (with_reducible refine Kd.C_drew ?_)))
 (case side4 => exact (Kd.R_reads' HO249.out).2.1)
 rintro e w32 ⟨v251, rfl, ho0, hb⟩
 refine ⟨_, rfl, ?_⟩
 have n_ := ak8 (re_ HO234 ho0 hb) (re_ HO240 ho0 hb) (re_ HO243 ho0 hb) (re_ HO246 ho0 hb) (re_ HO249 ho0 hb) (Kd.R_lower (Kd.R_new' (Kd.R_new' (Kd.R_new' (Kd.R_new' (Kd.R_new' ho0 (Kd.R_lt (kqR HO234.out))) (Kd.R_lt (kqR HO240.out))) (Kd.R_lt (kqR HO243.out))) (Kd.R_lt (kqR HO246.out))) (Kd.R_lt (kqR HO249.out))) (below_size (bq1 HB.out GE231.out))) (kb BK231 hb) (below_step (bq1 HB.out GE231.out) hb)
 clear HO234 HO240 HO243 HO246 HO249 BK231 HB
 obtain ⟨HO234, HO240, HO243, HO246, HO249, HO252, BK231, HB⟩ := n_
 (try clear hb ho0)
 refine hK.out _ _ ⟨(blk_cell BK231.out 0).trans rfl, (blk_cell BK231.out 1).trans rfl, (blk_cell BK231.out 2).trans rfl, (blk_cell BK231.out 3).trans rfl, (blk_cell BK231.out 4).trans rfl⟩ (fun hHeld => ?_)
 clear hK K
 refine norm_ (a' := ?_) ?_ ?_
 rotate_left
 · show Act.put _ (some 21) _ = _
   simp only [Act.put, List.setIfInBounds_toArray, List.set_cons_zero, List.set_cons_succ, i64_w, i32_w]
   rfl
 refine one_ (i := 11) (N := some 24) #[T,T,T,T,T,T,T,T,T,T,T,T,F,F] rfl rfl (one_of HT_.out (by kernel_rfl)) (by decide) (fun K hK => ?_)
 refine goes_ Try.func64 (by kernel_rfl) rfl #[.int .i64 a0_3] (by rfl) rfl rfl ga ?_
 with_reducible refine (spec_PutInt.calls k a0_3 qb3_0 _ Qb3.out).mono ?_
 rintro e w33 ⟨v254, rfl, ho0, hb⟩
 refine ⟨_, rfl, ?_⟩
 have n_ := ak9 (re_ HO234 ho0 hb) (re_ HO240 ho0 hb) (re_ HO243 ho0 hb) (re_ HO246 ho0 hb) (re_ HO249 ho0 hb) (re_ HO252 ho0 hb) (Kd.R_lower (Kd.R_new' (Kd.R_new' (Kd.R_new' (Kd.R_new' (Kd.R_new' (Kd.R_new' ho0 (Kd.R_lt (kqR HO234.out))) (Kd.R_lt (kqR HO240.out))) (Kd.R_lt (kqR HO243.out))) (Kd.R_lt (kqR HO246.out))) (Kd.R_lt (kqR HO249.out))) (Kd.R_lt (kqR HO252.out))) (below_size (bq1 HB.out GE231.out))) (kb BK231 hb) (below_step (bq1 HB.out GE231.out) hb)
 clear HO234 HO240 HO243 HO246 HO249 HO252 BK231 HB
 obtain ⟨HO234, HO240, HO243, HO246, HO249, HO252, HO255, BK231, HB⟩ := n_
 (try clear hb ho0)
 obtain ⟨Ao34, co34, eo34⟩ := Kd.R_slice HO252.out
 (first | subst eo34 | (injection eo34 with f1_ f2_ f3_; have f4_ := f1_.symm; have f5_ := f3_.symm; clear f1_ f2_ f3_; subst f4_; subst f5_))
 obtain ⟨Ao35, co35, eo35⟩ := Kd.R_slice HO255.out
 (first | subst eo35 | (injection eo35 with f1_ f2_ f3_; have f4_ := f1_.symm; have f5_ := f3_.symm; clear f1_ f2_ f3_; subst f4_; subst f5_))
 refine hK.out _ _ ⟨(blk_cell BK231.out 0).trans rfl, (blk_cell BK231.out 1).trans rfl, (blk_cell BK231.out 2).trans rfl, (blk_cell BK231.out 3).trans rfl, (blk_cell BK231.out 4).trans rfl⟩ (fun hHeld => ?_)
 clear hK K
 refine norm_ (a' := ?_) ?_ ?_
 rotate_left
 · show Act.put _ (some 24) _ = _
   simp only [Act.put, List.setIfInBounds_toArray, List.set_cons_zero, List.set_cons_succ, i64_w, i32_w]
   rfl
 refine one_ (i := 12) (N := some 25) #[T,T,T,T,T,T,T,T,T,T,T,T,T,F] rfl rfl (one_of HT_.out (by kernel_rfl)) (by decide) (fun K hK => ?_)
 refine goes_ Try.func66 (by kernel_rfl) rfl #[.slice Ao34 qc2_0.length co34, .int .i64 2, .slice Ao35 qb3_0.length co35] (by rfl) rfl rfl ga ?_
 with_reducible refine (spec_PutTlv.calls k _ _ qc2_0 2 _ _ qb3_0 qc3_0 _ ?side1 ?side2 ?side3 ?side4 Qc3.out).mono ?_
 (case side1 => repeat (first | exact (Kd.R_reads' HO252.out).2.2 | (with_reducible refine Kd.C_alloc ?_ _) | (with_reducible refine Kd.C_drewN ?_ _) | (with_reducible refine Kd.C_drew ?_)))
 (case side2 => exact (Kd.R_reads' HO252.out).2.1)
 (case side3 => repeat (first | exact (Kd.R_reads' HO255.out).2.2 | (with_reducible refine Kd.C_alloc ?_ _) | (with_reducible refine Kd.C_drewN ?_ _) | (with_reducible refine Kd.C_drew ?_)))
 (case side4 => exact (Kd.R_reads' HO255.out).2.1)
 rintro e w36 ⟨v257, rfl, ho0, hb⟩
 refine ⟨_, rfl, ?_⟩
 have n_ := ak10 (re_ HO234 ho0 hb) (re_ HO240 ho0 hb) (re_ HO243 ho0 hb) (re_ HO246 ho0 hb) (re_ HO249 ho0 hb) (re_ HO252 ho0 hb) (re_ HO255 ho0 hb) (Kd.R_lower (Kd.R_new' (Kd.R_new' (Kd.R_new' (Kd.R_new' (Kd.R_new' (Kd.R_new' (Kd.R_new' ho0 (Kd.R_lt (kqR HO234.out))) (Kd.R_lt (kqR HO240.out))) (Kd.R_lt (kqR HO243.out))) (Kd.R_lt (kqR HO246.out))) (Kd.R_lt (kqR HO249.out))) (Kd.R_lt (kqR HO252.out))) (Kd.R_lt (kqR HO255.out))) (below_size (bq1 HB.out GE231.out))) (kb BK231 hb) (below_step (bq1 HB.out GE231.out) hb)
 clear HO234 HO240 HO243 HO246 HO249 HO252 HO255 BK231 HB
 obtain ⟨HO234, HO240, HO243, HO246, HO249, HO252, HO255, HO258, BK231, HB⟩ := n_
 (try clear hb ho0)
 refine hK.out _ _ ⟨(blk_cell BK231.out 0).trans rfl, (blk_cell BK231.out 1).trans rfl, (blk_cell BK231.out 2).trans rfl, (blk_cell BK231.out 3).trans rfl, (blk_cell BK231.out 4).trans rfl⟩ (fun hHeld => ?_)
 clear hK K
 refine norm_ (a' := ?_) ?_ ?_
 rotate_left
 · show Act.put _ (some 25) _ = _
   simp only [Act.put, List.setIfInBounds_toArray, List.set_cons_zero, List.set_cons_succ, i64_w, i32_w]
   rfl
 refine pv HT_ 13 (some 5) #[T,T,T,T,T,T,T,T,T,T,T,T,T,T] ?_
 refine done_ (done_of HT_.out (by kernel_rfl)) ?_
 obtain ⟨Ao37, co37, eo37⟩ := Kd.R_slice HO258.out
 subst eo37
 try go_wp2_with (first | ((with_reducible refine gate_callee (f := 66) rfl ?_); refine gc (some 28) (spec_PutTlv.calls k _ _ qc3_0 48 _ _ qa1_0 qc4_0 _ (cq (Kd.R_reads' HO258.out).2.2) ((Kd.R_reads' HO258.out).2.1) (cq (Kd.R_reads' HO234.out).2.2) ((Kd.R_reads' HO234.out).2.1) Qc4.out) Try.func66 ?_; rintro e w38 ⟨v260, rfl, ho0, hb⟩; refine ⟨_, rfl, ?_⟩; have n_ := ak11 (re_ HO234 ho0 hb) (re_ HO240 ho0 hb) (re_ HO243 ho0 hb) (re_ HO246 ho0 hb) (re_ HO249 ho0 hb) (re_ HO252 ho0 hb) (re_ HO255 ho0 hb) (re_ HO258 ho0 hb) (Kd.R_lower (Kd.R_new' (Kd.R_new' (Kd.R_new' (Kd.R_new' (Kd.R_new' (Kd.R_new' (Kd.R_new' (Kd.R_new' ho0 (Kd.R_lt (kqR HO234.out))) (Kd.R_lt (kqR HO240.out))) (Kd.R_lt (kqR HO243.out))) (Kd.R_lt (kqR HO246.out))) (Kd.R_lt (kqR HO249.out))) (Kd.R_lt (kqR HO252.out))) (Kd.R_lt (kqR HO255.out))) (Kd.R_lt (kqR HO258.out))) (below_size (bq1 HB.out GE231.out))) (kb BK231 hb) (below_step (bq1 HB.out GE231.out) hb); clear HO234 HO240 HO243 HO246 HO249 HO252 HO255 HO258 BK231 HB; obtain ⟨HO234, HO240, HO243, HO246, HO249, HO252, HO255, HO258, HO261, BK231, HB⟩ := n_; (try clear hb ho0); obtain ⟨Ao39, co39, eo39⟩ := Kd.R_slice HO261.out; subst eo39))
 go_ret2
 exact ⟨_, rq, by refine kr ?_; exact Kd.R_mono HO261.out (fun _ hk => trivial), bq1 HB.out GE231.out⟩
/-! ### spec_PutPdu: function 39 -/
def spec_PutPdu.f (k : Nat) (a0_0 : Int) (a0_1 : Int) (a0_2 : Int) (a0_3 : Int) (l0_4 : List (S116)) : Option (List Int) := (spec_PduOk.f k a0_0 a0_1 a0_2 a0_3 l0_4).bind fun t263 => (if t263 = true then ((spec_l4Body.f k a0_0 a0_1 a0_2 a0_3 l0_4).bind fun bt267 => (if bt267.2 = true then ((spec_PutTlv.f k (([] : List Int)) a0_0 bt267.1).bind fun t274 => (some t274)) else (some (([] : List Int))))) else (some (([] : List Int))))
set_option maxHeartbeats 8000000 in
set_option maxRecDepth 100000 in
theorem spec_PutPdu.calls (k : Nat) (a0_0 : Int) (a0_1 : Int) (a0_2 : Int) (a0_3 : Int) (A0_4 : Option Addr) (c0_4 : Nat) (l0_4 : List (S116)) (r : List Int) (w : World) (hr0_4 : Kd.C k116 w A0_4 l0_4.length l0_4) (hc0_4 : l0_4.length ≤ c0_4) (h : spec_PutPdu.f k a0_0 a0_1 a0_2 a0_3 l0_4 = some r) :
 Calls Try.prog 39 #[.agg #[.int .i64 a0_0, .int .i64 a0_1, .int .i64 a0_2, .int .i64 a0_3, .slice A0_4 l0_4.length c0_4]] w fun e w' => ∃ v0_ : Value, e = .returned (v0_) ∧ Kd.R (Kd.int .u8) 5 w' w.heap.size (fun _ => True) v0_ r ∧ Below w.heap.size w w' := by
 have hu58 := Try.underlying58
 have HR0_4 := am hr0_4
 have HC0_4 := am hc0_4
 clear hr0_4 hc0_4
 have HB := am (Below.refl w.heap.size w)
 have H := h
 clear h
 unfold spec_PutPdu.f at H
 replace H := be H
 obtain ⟨qa1_0, Qa1, H⟩ := H
 cases qa1_0
 replace H := iF H
 generalize hy264 : ((([] : List Int)) : List Int) = y264 at H
 have Ny264 := am hy264.symm
 clear hy264
 have z0 := trivial
 rotate_left
 replace H := iT H
 replace H := be H
 obtain ⟨⟨qb1_0, qb1_1⟩, Qb1, H⟩ := H
 try dsimp only at H
 cases qb1_1
 replace H := iF H
 generalize hy277 : ((([] : List Int)) : List Int) = y277 at H
 have Ny277 := am hy277.symm
 clear hy277
 have z1 := trivial
 rotate_left
 replace H := iT H
 generalize hy271 : ((([] : List Int)) : List Int) = y271 at H
 have Ny271 := am hy271.symm
 clear hy271
 replace H := be H
 obtain ⟨qc1_0, Qc1, H⟩ := H
 have z2 := trivial
 rotate_right
 rotate_right
 all_goals
  obtain rfl := Option.some.inj H
  go_enter Try.func39, Try.ntmps39
  go_wp2_with (first | ((with_reducible refine gate_dst (N := 1) rfl ?_); refine bxe 1 #[.int .i64 a0_0, .int .i64 a0_1, .int .i64 a0_2, .int .i64 a0_3, .slice A0_4 l0_4.length c0_4] 58 ?_; intro gb262 hg w_ hbox hb; have n_ := ak4 (below_step (bq HB.out) hb) hbox (bz hg (bq HB.out)) (bz hg (bq HB.out)); clear HB; obtain ⟨HB, BK262, GW262, GE262⟩ := n_; clear hb hbox hg; obtain ⟨hcz_262_0, hcz_262_1, hcz_262_2, hcz_262_3, hcz_262_4, hfz_262_0, hfz_262_1, hfz_262_2, hfz_262_3, hfz_262_4⟩ := cl5 BK262.out) | ((with_reducible refine gate_callee (f := 96) rfl ?_); (first | have := z1 | have := z2); refine gc (some 6) (spec_PduOk.calls k a0_0 a0_1 a0_2 a0_3 _ _ l0_4 true _ (cq (Kd.C_below HR0_4.out HB.out)) HC0_4.out Qa1.out) Try.func96 ?_; rintro e w_ ⟨rfl, hb⟩; refine ⟨_, rfl, ?_⟩; have n_ := ak2 (kb BK262 hb) (below_step (bq1 HB.out GE262.out) hb); clear BK262 HB; obtain ⟨BK262, HB⟩ := n_; (try clear hb); obtain ⟨hcz_262_0, hcz_262_1, hcz_262_2, hcz_262_3, hcz_262_4, hfz_262_0, hfz_262_1, hfz_262_2, hfz_262_3, hfz_262_4⟩ := cl5 BK262.out) | ((with_reducible refine gate_callee (f := 96) rfl ?_); have := z0; refine gc (some 6) (spec_PduOk.calls k a0_0 a0_1 a0_2 a0_3 _ _ l0_4 false _ (cq (Kd.C_below HR0_4.out HB.out)) HC0_4.out Qa1.out) Try.func96 ?_; rintro e w_ ⟨rfl, hb⟩; refine ⟨_, rfl, ?_⟩; have n_ := ak2 (kb BK262 hb) (below_step (bq1 HB.out GE262.out) hb); clear BK262 HB; obtain ⟨BK262, HB⟩ := n_; (try clear hb)) | ((with_reducible refine gate_dst (N := 8) rfl ?_); refine Kd.R_lit (Kd.int .u8) _ 5 ?hg (N := 8) ?hd (xs := ([] : List Int)) (inner := []) (ok := fun _ => True) (okp := fun _ => True) ?hr ?hp (fun _ hk => hk) trivial (Below.refl _ _) (Nat.le_refl _) (by simp) ?_; (case hd => rfl); (case hg => rfl); (case hr => exact gs); (case hp => exact (Reps.none _ _)); intro v265 w_ ho_ hb hg_ hnew_; clear hg_ hnew_; (first | rw [← Ny264.out] at ho_ | (simp only [Int.reduceToNat] at ho_; rw [← Ny264.out] at ho_)); have n_ := ak3 (rl ho_ (bq1 HB.out GE262.out)) (kb BK262 hb) (below_step (bq1 HB.out GE262.out) hb); clear BK262 HB; obtain ⟨HO266, BK262, HB⟩ := n_; clear hb ho_) | ((with_reducible refine gate_callee (f := 97) rfl ?_); have := z1; refine gc (some 11) (spec_l4Body.calls k a0_0 a0_1 a0_2 a0_3 _ _ l0_4 qb1_0 false _ (cq (Kd.C_below HR0_4.out HB.out)) HC0_4.out Qb1.out) Try.func97 ?_; rintro e w_ ⟨v268, rfl, ho_, hb⟩; refine ⟨_, rfl, ?_⟩; have n_ := ak3 (rl ho_ (bq1 HB.out GE262.out)) (kb BK262 hb) (below_step (bq1 HB.out GE262.out) hb); clear BK262 HB; obtain ⟨HO269, BK262, HB⟩ := n_; (try clear hb ho_)) | ((with_reducible refine gate_callee (f := 97) rfl ?_); have := z2; refine gc (some 11) (spec_l4Body.calls k a0_0 a0_1 a0_2 a0_3 _ _ l0_4 qb1_0 true _ (cq (Kd.C_below HR0_4.out HB.out)) HC0_4.out Qb1.out) Try.func97 ?_; rintro e w_ ⟨v268, rfl, ho_, hb⟩; refine ⟨_, rfl, ?_⟩; have n_ := ak3 (rl ho_ (bq1 HB.out GE262.out)) (kb BK262 hb) (below_step (bq1 HB.out GE262.out) hb); clear BK262 HB; obtain ⟨HO269, BK262, HB⟩ := n_; (try clear hb ho_)) | ((with_reducible refine gate_dst (N := 16) rfl ?_); refine Kd.R_lit (Kd.int .u8) _ 5 ?hg (N := 16) ?hd (xs := ([] : List Int)) (inner := []) (ok := fun _ => True) (okp := fun _ => True) ?hr ?hp (fun _ hk => hk) trivial (Below.refl _ _) (Nat.le_refl _) (by simp) ?_; (case hd => rfl); (case hg => rfl); (case hr => exact gs); (case hp => exact (Reps.none _ _)); intro v278 w_ ho_ hb hg_ hnew_; clear hg_ hnew_; (first | rw [← Ny277.out] at ho_ | (simp only [Int.reduceToNat] at ho_; rw [← Ny277.out] at ho_)); have n_ := ak4 (re_ HO269 ho_ hb) (rn_ ho_ HO269 (bq1 HB.out GE262.out)) (kb BK262 hb) (below_step (bq1 HB.out GE262.out) hb); clear HO269 BK262 HB; obtain ⟨HO269, HO279, BK262, HB⟩ := n_; clear hb ho_) | ((with_reducible refine gate_dst (N := 17) rfl ?_); refine Kd.R_lit (Kd.int .u8) _ 5 ?hg (N := 17) ?hd (xs := ([] : List Int)) (inner := []) (ok := fun _ => True) (okp := fun _ => True) ?hr ?hp (fun _ hk => hk) trivial (Below.refl _ _) (Nat.le_refl _) (by simp) ?_; (case hd => rfl); (case hg => rfl); (case hr => exact gs); (case hp => exact (Reps.none _ _)); intro v272 w_ ho_ hb hg_ hnew_; clear hg_ hnew_; (first | rw [← Ny271.out] at ho_ | (simp only [Int.reduceToNat] at ho_; rw [← Ny271.out] at ho_)); have n_ := ak4 (re_ HO269 ho_ hb) (rn_ ho_ HO269 (bq1 HB.out GE262.out)) (kb BK262 hb) (below_step (bq1 HB.out GE262.out) hb); clear HO269 BK262 HB; obtain ⟨HO269, HO273, BK262, HB⟩ := n_; clear hb ho_; obtain ⟨Ao_273, co_273, eo_273⟩ := Kd.R_slice HO273.out; subst eo_273; obtain ⟨Ao_269, co_269, eo_269⟩ := Kd.R_slice HO269.out; subst eo_269; obtain ⟨hcz_262_0, hcz_262_1, hcz_262_2, hcz_262_3, hcz_262_4, hfz_262_0, hfz_262_1, hfz_262_2, hfz_262_3, hfz_262_4⟩ := cl5 BK262.out) | ((with_reducible refine gate_callee (f := 66) rfl ?_); refine gc (some 21) (spec_PutTlv.calls k _ _ y271 a0_0 _ _ qb1_0 qc1_0 _ (cq (Kd.R_reads' HO273.out).2.2) ((Kd.R_reads' HO273.out).2.1) (cq (Kd.R_reads' HO269.out).2.2) ((Kd.R_reads' HO269.out).2.1) Qc1.out) Try.func66 ?_; rintro e w_ ⟨v275, rfl, ho_, hb⟩; refine ⟨_, rfl, ?_⟩; have n_ := ak5 (re_ HO269 ho_ hb) (re_ HO273 ho_ hb) (Kd.R_lower (Kd.R_new' (Kd.R_new' ho_ (Kd.R_lt (kqR HO269.out))) (Kd.R_lt (kqR HO273.out))) (below_size (bq1 HB.out GE262.out))) (kb BK262 hb) (below_step (bq1 HB.out GE262.out) hb); clear HO269 HO273 BK262 HB; obtain ⟨HO269, HO273, HO276, BK262, HB⟩ := n_; (try clear hb ho_)))
  first
  | go_ret
    exact ⟨_, rq, by refine kr ?_; exact Kd.R_mono HO279.out (fun _ hk => trivial), bq1 HB.out GE262.out⟩
  | go_ret
    exact ⟨_, rq, by refine kr ?_; exact Kd.R_mono HO276.out (fun _ hk => trivial), bq1 HB.out GE262.out⟩
  | go_ret
    exact ⟨_, rq, kqR HO266.out, bq1 HB.out GE262.out⟩
/-! ### spec_PutMsg: function 51 -/
def spec_PutMsg.j0 : Nat → ByteArray → List Int → Bool → Option (List Int)
 | 0, _, _, _ => none
 | k + 1, x0, x5, x16 => if x16 = true then (some (([] : List Int))) else ((spec_PutInt.f k 1).bind fun t290 => ((spec_PutTlv.f k (([] : List Int)) 2 t290).bind fun t293 => (if (x0.size : Int) < 140737488355328 then ((spec_PutTlv.f k t293 4 (bytesOf x0)).bind fun t299 => (if t299.length + x5.length < 140737488355328 then ((some (t299 ++ x5 : List Int)).bind fun y302 => (if (y302.length : Int) > 250 then (some (([] : List Int))) else ((spec_PutTlv.f k (([] : List Int)) 48 y302).bind fun t311 => (some t311)))) else (none))) else (none))))
def spec_PutMsg.f (k : Nat) (a0 : ByteArray) (a1_0 : Int) (a1_1 : Int) (a1_2 : Int) (a1_3 : Int) (l1_4 : List (S116)) : Option (List Int) := (spec_PutPdu.f k a1_0 a1_1 a1_2 a1_3 l1_4).bind fun t281 => (if (t281.length : Int) = 0 then (spec_PutMsg.j0 k a0 t281 true) else (spec_PutMsg.j0 k a0 t281 (decide ((a0.size : Int) > 20))))
set_option maxHeartbeats 8000000 in
set_option maxRecDepth 100000 in
theorem spec_PutMsg.calls (k : Nat) (a0 : ByteArray) (a1_0 : Int) (a1_1 : Int) (a1_2 : Int) (a1_3 : Int) (A1_4 : Option Addr) (c1_4 : Nat) (l1_4 : List (S116)) (r : List Int) (w : World) (hr1_4 : Kd.C k116 w A1_4 l1_4.length l1_4) (hc1_4 : l1_4.length ≤ c1_4) (h : spec_PutMsg.f k a0 a1_0 a1_1 a1_2 a1_3 l1_4 = some r) :
 Calls Try.prog 51 #[.string a0, .agg #[.int .i64 a1_0, .int .i64 a1_1, .int .i64 a1_2, .int .i64 a1_3, .slice A1_4 l1_4.length c1_4]] w fun e w' => ∃ v0_ : Value, e = .returned (v0_) ∧ Kd.R (Kd.int .u8) 5 w' w.heap.size (fun _ => True) v0_ r ∧ Below w.heap.size w w' := by
 have hu58 := Try.underlying58
 have HR1_4 := am hr1_4
 have HC1_4 := am hc1_4
 clear hr1_4 hc1_4
 have HB := am (Below.refl w.heap.size w)
 have H := h
 clear h
 unfold spec_PutMsg.f at H
 replace H := be H
 obtain ⟨qa1_0, Qa1, H⟩ := H
 have HC4 := am H
 clear H
 go_enter Try.func51, Try.ntmps51
 go_upto_region 2 with (first | ((with_reducible refine gate_dst (N := 3) rfl ?_); (try (refine gate_guard (by rfl) ?_; dsimp only)); refine bxe 3 #[.int .i64 a1_0, .int .i64 a1_1, .int .i64 a1_2, .int .i64 a1_3, .slice A1_4 l1_4.length c1_4] 58 ?_; intro gb280 hg w5 hbox hb; have n_ := ak4 (below_step (bq HB.out) hb) hbox (bz hg (bq HB.out)) (bz hg (bq HB.out)); clear HB; obtain ⟨HB, BK280, GW280, GE280⟩ := n_; clear hb hbox hg; obtain ⟨hcz6_0, hcz6_1, hcz6_2, hcz6_3, hcz6_4, hfz6_0, hfz6_1, hfz6_2, hfz6_3, hfz6_4⟩ := cl5 BK280.out) | ((with_reducible refine gate_callee (f := 39) rfl ?_); refine gc (some 8) (spec_PutPdu.calls k a1_0 a1_1 a1_2 a1_3 _ _ l1_4 qa1_0 _ (cq (Kd.C_below HR1_4.out HB.out)) HC1_4.out Qa1.out) Try.func39 ?_; rintro e w7 ⟨v282, rfl, ho0, hb⟩; refine ⟨_, rfl, ?_⟩; have n_ := ak3 (rl ho0 (bq1 HB.out GE280.out)) (kb BK280 hb) (below_step (bq1 HB.out GE280.out) hb); clear BK280 HB; obtain ⟨HO283, BK280, HB⟩ := n_; (try clear hb ho0)))
 (try simp only [Act.put, List.setIfInBounds_toArray, List.set_cons_zero, List.set_cons_succ])
 go_cut [16] (fun v16 wc => ∃ (kq : Nat) (x16_3 : Bool), v16 = .bool x16_3 ∧ Aside0 (spec_PutMsg.j0 kq a0 qa1_0 x16_3 = some r) ∧ Aside0 (kq ≤ k) ∧ Aside0 (Kd.R (Kd.int .u8) 5 wc w.heap.size (fun _ => True) v282 qa1_0) ∧ Aside0 (wc.heap[gb280]? = some (.cells #[.int .i64 a1_0, .int .i64 a1_1, .int .i64 a1_2, .int .i64 a1_3, (.slice A1_4 l1_4.length c1_4)] 58 (0, 0))) ∧ Aside0 (Below w.heap.size w wc))
 case first =>
  have H := HC4.out
  clear HC4
  replace H := iq H
  rcases H with ⟨-, c8b0, c8b1, H⟩ | ⟨c8, c8b0, c8b1, H⟩
  · (first | rw [c8b0] | (simp only [i64_w, i32_w]; rw [c8b0]) | skip)
    have H' := am H
    clear H
    obtain ⟨Ao9, co9, eo9⟩ := Kd.R_slice HO283.out
    subst eo9
    go_wp2
    go_meet
    case rel => exact ⟨_, (true), sq, H', ⟨by first | omega | exact Nat.le_refl _⟩, ⟨kqR HO283.out⟩, ⟨zq BK280.out⟩, ⟨bq1 HB.out GE280.out⟩⟩
  have c8b2 : ¬ (qa1_0 = []) := fun h_ => c8 (by rw [h_]; rfl)
  (first | rw [c8b0] | (simp only [i64_w, i32_w]; rw [c8b0]) | skip)
  have H' := am H
  clear H
  obtain ⟨Ao10, co10, eo10⟩ := Kd.R_slice HO283.out
  subst eo10
  go_wp2
  go_meet
  case rel => exact ⟨_, (decide ((a0.size : Int) > 20)), sq, H', ⟨by first | omega | exact Nat.le_refl _⟩, ⟨kqR HO283.out⟩, ⟨zq BK280.out⟩, ⟨bq1 HB.out GE280.out⟩⟩
 case rest =>
  clear HC4
  try clear c1
  try clear p2
  try clear c3
  try clear c5
  try clear c8
  try clear c8b0
  try clear c8b1
  try clear c8b2
  try clear hcz6_0
  try clear hcz6_1
  try clear hcz6_2
  try clear hcz6_3
  try clear hcz6_4
  try clear hfz6_0
  try clear hfz6_1
  try clear hfz6_2
  try clear hfz6_3
  try clear hfz6_4
  obtain ⟨kq, x16_3, rfl, HA, HJ3, HO_5, BK280, HB⟩ := hcut
  cases kq with
  | zero => exact absurd HA.out (by simp [spec_PutMsg.j0])
  | succ kj3 =>
   have H := HA.out
   clear HA
   simp only [spec_PutMsg.j0] at H
   rcases Decidable.em (x16_3 = true) with c11 | c11
   · subst c11
     replace H : (some (([] : List Int))) = some r := by rw [if_pos rfl] at H; exact H
     generalize hy284 : ((([] : List Int)) : List Int) = y284 at H
     have Ny284 := am hy284.symm
     clear hy284
     obtain rfl := Option.some.inj H
     go_wp2_with (first | ((with_reducible refine gate_dst (N := 17) rfl ?_); (try (refine gate_guard (by rfl) ?_; dsimp only)); refine Kd.R_lit (Kd.int .u8) _ 5 ?hg (N := 17) ?hd (xs := ([] : List Int)) (inner := []) (ok := fun _ => True) (okp := fun _ => True) ?hr ?hp (fun _ hk => hk) trivial (Below.refl _ _) (Nat.le_refl _) (by simp) ?_; (case hd => rfl); (case hg => rfl); (case hr => exact gs); (case hp => exact (Reps.none _ _)); intro v285 w12 ho13 hb hg_ hnew_; clear hg_ hnew_; (first | rw [← Ny284.out] at ho13 | (simp only [Int.reduceToNat] at ho13; rw [← Ny284.out] at ho13)); have n_ := ak4 (re_ HO_5 ho13 hb) (rn_ ho13 HO_5 (bq1 HB.out GE280.out)) (kb BK280 hb) (below_step (bq1 HB.out GE280.out) hb); clear HO_5 BK280 HB; obtain ⟨HO_5, HO286, BK280, HB⟩ := n_; clear hb ho13))
     go_ret
     exact ⟨_, rq, by refine kr ?_; exact Kd.R_mono HO286.out (fun _ hk => trivial), bq1 HB.out GE280.out⟩
   replace c11 := Bool.eq_false_iff.mpr c11
   subst c11
   replace H : ((spec_PutInt.f kj3 1).bind fun qb1_0 => ((spec_PutTlv.f kj3 (([] : List Int)) 2 qb1_0).bind fun qc1_0 => (if (a0.size : Int) < 140737488355328 then ((spec_PutTlv.f kj3 qc1_0 4 (bytesOf a0)).bind fun qc2_0 => (if qc2_0.length + qa1_0.length < 140737488355328 then ((some (qc2_0 ++ qa1_0 : List Int)).bind fun y302 => (if (y302.length : Int) > 250 then (some (([] : List Int))) else ((spec_PutTlv.f kj3 (([] : List Int)) 48 y302).bind fun qc3_0 => (some qc3_0)))) else (none))) else (none)))) = some r := by rw [if_neg (show ¬ (false = true) by decide)] at H; exact H
   obtain ⟨y287, hy287⟩ : ∃ y_ : List Int, y_ = (([] : List Int)) := ⟨_, rfl⟩
   replace H : ((spec_PutInt.f kj3 1).bind fun qb1_0 => ((spec_PutTlv.f kj3 y287 2 qb1_0).bind fun qc1_0 => (if (a0.size : Int) < 140737488355328 then ((spec_PutTlv.f kj3 qc1_0 4 (bytesOf a0)).bind fun qc2_0 => (if qc2_0.length + qa1_0.length < 140737488355328 then ((some (qc2_0 ++ qa1_0 : List Int)).bind fun y302 => (if (y302.length : Int) > 250 then (some (([] : List Int))) else ((spec_PutTlv.f kj3 (([] : List Int)) 48 y302).bind fun qc3_0 => (some qc3_0)))) else (none))) else (none)))) = some r := hx H hy287
   have Ny287 := am hy287
   clear hy287
   replace H := be H
   obtain ⟨qb1_0, Qb1, H⟩ := H
   replace H := be H
   obtain ⟨qc1_0, Qc1, H⟩ := H
   replace H := nq H
   obtain ⟨c16, H⟩ := H
   have c16b0 := eq_true c16
   have c16b1 : decide ((a0.size : Int) < 140737488355328) = true := decide_eq_true c16
   clear c16
   generalize hy296 : ((bytesOf a0) : List Int) = y296 at H
   have Ny296 := am hy296.symm
   clear hy296
   replace H := be H
   obtain ⟨qc2_0, Qc2, H⟩ := H
   replace H := nq H
   obtain ⟨c18, H⟩ := H
   have LMc18 := am c18
   clear c18
   replace H := bs H
   obtain ⟨y302, Ny302, H⟩ := H
   replace H := ig H
   rcases H with ⟨c19, c19b0, H⟩ | ⟨c19, c19b0, H⟩
   · have c19b1 : decide (250 < y302.length) = true := decide_eq_true (by omega)
     clear c19
     generalize hy305 : ((([] : List Int)) : List Int) = y305 at H
     have Ny305 := am hy305.symm
     clear hy305
     obtain rfl := Option.some.inj H
     go_wp2_with (first | ((with_reducible refine gate_dst (N := 18) rfl ?_); (try (refine gate_guard (by rfl) ?_; dsimp only)); refine Kd.R_lit (Kd.int .u8) _ 5 ?hg (N := 18) ?hd (xs := ([] : List Int)) (inner := []) (ok := fun _ => True) (okp := fun _ => True) ?hr ?hp (fun _ hk => hk) trivial (Below.refl _ _) (Nat.le_refl _) (by simp) ?_; (case hd => rfl); (case hg => rfl); (case hr => exact gs); (case hp => exact (Reps.none _ _)); intro v288 w20 ho21 hb hg_ hnew_; clear hg_ hnew_; (first | rw [← Ny287.out] at ho21 | (simp only [Int.reduceToNat] at ho21; rw [← Ny287.out] at ho21)); have n_ := ak4 (re_ HO_5 ho21 hb) (rn_ ho21 HO_5 (bq1 HB.out GE280.out)) (kb BK280 hb) (below_step (bq1 HB.out GE280.out) hb); clear HO_5 BK280 HB; obtain ⟨HO_5, HO289, BK280, HB⟩ := n_; clear hb ho21) | ((with_reducible refine gate_callee (f := 64) rfl ?_); refine gc (some 19) (spec_PutInt.calls kj3 1 qb1_0 _ Qb1.out) Try.func64 ?_; rintro e w22 ⟨v291, rfl, ho0, hb⟩; refine ⟨_, rfl, ?_⟩; have n_ := ak5 (re_ HO_5 ho0 hb) (re_ HO289 ho0 hb) (Kd.R_lower (Kd.R_new' (Kd.R_new' ho0 (Kd.R_lt (kqR HO_5.out))) (Kd.R_lt (kqR HO289.out))) (below_size (bq1 HB.out GE280.out))) (kb BK280 hb) (below_step (bq1 HB.out GE280.out) hb); clear HO_5 HO289 BK280 HB; obtain ⟨HO_5, HO289, HO292, BK280, HB⟩ := n_; (try clear hb ho0); obtain ⟨Ao23, co23, eo23⟩ := Kd.R_slice HO289.out; subst eo23; obtain ⟨Ao24, co24, eo24⟩ := Kd.R_slice HO292.out; subst eo24) | ((with_reducible refine gate_callee (f := 66) rfl ?_); refine gc (some 20) (spec_PutTlv.calls kj3 _ _ y287 2 _ _ qb1_0 qc1_0 _ (cq (Kd.R_reads' HO289.out).2.2) ((Kd.R_reads' HO289.out).2.1) (cq (Kd.R_reads' HO292.out).2.2) ((Kd.R_reads' HO292.out).2.1) Qc1.out) Try.func66 ?_; rintro e w25 ⟨v294, rfl, ho0, hb⟩; refine ⟨_, rfl, ?_⟩; have n_ := ak6 (re_ HO_5 ho0 hb) (re_ HO289 ho0 hb) (re_ HO292 ho0 hb) (Kd.R_lower (Kd.R_new' (Kd.R_new' (Kd.R_new' ho0 (Kd.R_lt (kqR HO_5.out))) (Kd.R_lt (kqR HO289.out))) (Kd.R_lt (kqR HO292.out))) (below_size (bq1 HB.out GE280.out))) (kb BK280 hb) (below_step (bq1 HB.out GE280.out) hb); clear HO_5 HO289 HO292 BK280 HB; obtain ⟨HO_5, HO289, HO292, HO295, BK280, HB⟩ := n_; (try clear hb ho0)) | ((with_reducible refine gate_dst (N := 22) rfl ?_); (try (refine gate_guard (by rfl) ?_; dsimp only)); refine strb_event ?hg (N := 22) ?hd 9 22 5 (x := .tmp 21) ?ho (s := a0) (y := y296) Ny296.out ?hx Try.underlying9 Try.underlying22 Try.underlying5 (by have h_ : (a0.size : Int) < (140737488355328 : Int) := oda; omega) ?_; (case hd => rfl); (case hg => rfl); (case ho => rfl); (case hx => first | (go_simp; done) | (go_simp; rfl)); intro As296 cs296 w26 hs_ hl_ hb; have n_ := ak8 (rb HO_5 hb) (rb HO289 hb) (rb HO292 hb) (rb HO295 hb) (kb BK280 hb) (below_step (bq1 HB.out GE280.out) hb) hs_ hl_; clear HO_5 HO289 HO292 HO295 BK280 HB; obtain ⟨HO_5, HO289, HO292, HO295, BK280, HB, HRs296, HCs296⟩ := n_; clear hb hs_ hl_; obtain ⟨Ao27, co27, eo27⟩ := Kd.R_slice HO295.out; subst eo27) | ((with_reducible refine gate_callee (f := 66) rfl ?_); refine gc (some 23) (spec_PutTlv.calls kj3 _ _ qc1_0 4 _ _ y296 qc2_0 _ (cq (Kd.R_reads' HO295.out).2.2) ((Kd.R_reads' HO295.out).2.1) (by repeat (first | exact (by repeat (first | (with_reducible exact HRs296.out) | (with_reducible refine Kd.C_alloc ?_ _) | (with_reducible refine Kd.C_drewN ?_ _) | (with_reducible refine Kd.C_drew ?_) | exact HRs296.out)) | (with_reducible refine Kd.C_alloc ?_ _) | (with_reducible refine Kd.C_drewN ?_ _) | (with_reducible refine Kd.C_drew ?_))) HCs296.out Qc2.out) Try.func66 ?_; rintro e w28 ⟨v300, rfl, ho0, hb⟩; refine ⟨_, rfl, ?_⟩; have n_ := ak8 (re_ HO_5 ho0 hb) (re_ HO289 ho0 hb) (re_ HO292 ho0 hb) (re_ HO295 ho0 hb) (Kd.R_lower (Kd.R_new' (Kd.R_new' (Kd.R_new' (Kd.R_new' ho0 (Kd.R_lt (kqR HO_5.out))) (Kd.R_lt (kqR HO289.out))) (Kd.R_lt (kqR HO292.out))) (Kd.R_lt (kqR HO295.out))) (below_size (bq1 HB.out GE280.out))) (kb BK280 hb) (Kd.C_below (by repeat (first | (with_reducible exact HRs296.out) | (with_reducible refine Kd.C_alloc ?_ _) | (with_reducible refine Kd.C_drewN ?_ _) | (with_reducible refine Kd.C_drew ?_) | exact HRs296.out)) hb) (below_step (bq1 HB.out GE280.out) hb); clear HO_5 HO289 HO292 HO295 BK280 HRs296 HB; obtain ⟨HO_5, HO289, HO292, HO295, HO301, BK280, HRs296, HB⟩ := n_; (try clear hb ho0); obtain ⟨Ao30, co30, eo30⟩ := Kd.R_slice HO_5.out; subst eo30) | ((with_reducible refine gate_builtin (b := .append) (xs := #[.tmp 23, .tmp 24]) rfl ?_); (try (refine gate_guard (by rfl) ?_; dsimp only)); at_builtin; refine Kd.R_append_rows (Kd.int .u8) (w0 := w) w.heap.size rfl (.tmp 23) (.tmp 24) 22 5 (.int .u8 0) 1 rfl Try.underlying22 info5 rfl (by decide) (by omega) v300 qc2_0 qa1_0 _ _ _ (fun k_ => some k_ ≠ (.slice Ao30 qa1_0.length co30 : Value).ownBlock ∧ some k_ ≠ (.slice Ao23 y287.length co23 : Value).ownBlock ∧ some k_ ≠ (.slice Ao24 qb1_0.length co24 : Value).ownBlock ∧ some k_ ≠ (.slice Ao27 qc1_0.length co27 : Value).ownBlock) (fun _ => False) rfl rfl ?aO ?aR (fun _ _ h => h) (fun _ h => h.elim) ?aF ?aB ?aS ?aL ?_; (case aR => repeat (first | exact (Kd.R_reads' HO_5.out).2.2 | (with_reducible refine Kd.C_alloc ?_ _) | (with_reducible refine Kd.C_drewN ?_ _) | (with_reducible refine Kd.C_drew ?_))); (case aB => exact (bq1 HB.out GE280.out)); (case aF => exact (fun k_ hk => ⟨Kd.fresh' (Kd.R_lt (kqR HO_5.out)) k_ hk, Kd.fresh' (Kd.R_lt (kqR HO289.out)) k_ hk, Kd.fresh' (Kd.R_lt (kqR HO292.out)) k_ hk, Kd.fresh' (Kd.R_lt (kqR HO295.out)) k_ hk⟩)); (case aO => exact (by refine kr ?_; exact Kd.R_mono HO301.out (fun _ hk => ⟨hk.1.1.1.2, ⟨hk.1.1.2, ⟨hk.1.2, hk.2⟩⟩⟩))); (case aS => exact (below_size (bq1 HB.out GE280.out))); (case aL => have := LMc18.out; omega); intro v303 w29 ho hb hg hat; rw [← Ny302.out] at ho; have n_ := ak7 (Kd.R_after (ok := (fun k_ => some k_ ≠ (.slice Ao23 y287.length co23 : Value).ownBlock ∧ some k_ ≠ (.slice Ao24 qb1_0.length co24 : Value).ownBlock ∧ some k_ ≠ (.slice Ao27 qc1_0.length co27 : Value).ownBlock)) (by refine kr ?_; exact Kd.R_mono HO_5.out (fun _ hk => ⟨⟨hk.1.1.1.2, ⟨hk.1.1.2, hk.1.2⟩⟩, hk.2⟩)) hg hat) (blk_grown (g := gb280) (o := .cells #[.int .i64 a1_0, .int .i64 a1_1, .int .i64 a1_2, .int .i64 a1_3, .slice A1_4 l1_4.length c1_4] 58 (0, 0)) (zq BK280.out) hg (Kd.R_ne HO301.out BK280.out (by decide))) (Kd.R_after (ok := (fun k_ => some k_ ≠ (.slice Ao30 qa1_0.length co30 : Value).ownBlock ∧ some k_ ≠ (.slice Ao24 qb1_0.length co24 : Value).ownBlock ∧ some k_ ≠ (.slice Ao27 qc1_0.length co27 : Value).ownBlock)) (by refine kr ?_; exact Kd.R_mono HO289.out (fun _ hk => ⟨⟨hk.1.1.1.2, ⟨hk.1.1.2, hk.1.2⟩⟩, hk.2⟩)) hg hat) (Kd.R_after (ok := (fun k_ => some k_ ≠ (.slice Ao30 qa1_0.length co30 : Value).ownBlock ∧ some k_ ≠ (.slice Ao23 y287.length co23 : Value).ownBlock ∧ some k_ ≠ (.slice Ao27 qc1_0.length co27 : Value).ownBlock)) (by refine kr ?_; exact Kd.R_mono HO292.out (fun _ hk => ⟨⟨hk.1.1.1.2, ⟨hk.1.1.2, hk.1.2⟩⟩, hk.2⟩)) hg hat) (Kd.R_after (ok := (fun k_ => some k_ ≠ (.slice Ao30 qa1_0.length co30 : Value).ownBlock ∧ some k_ ≠ (.slice Ao23 y287.length co23 : Value).ownBlock ∧ some k_ ≠ (.slice Ao24 qb1_0.length co24 : Value).ownBlock)) (by refine kr ?_; exact Kd.R_mono HO295.out (fun _ hk => ⟨⟨hk.1.1.1.2, ⟨hk.1.1.2, hk.1.2⟩⟩, hk.2⟩)) hg hat) hb ho; clear HO_5 BK280 HO289 HO292 HO295 HB HO301; obtain ⟨HO_5, BK280, HO289, HO292, HO295, HB, HO304⟩ := n_; clear ho hb hg hat; obtain ⟨Ao31, co31, eo31⟩ := Kd.R_slice HO304.out; subst eo31) | ((with_reducible refine gate_dst (N := 29) rfl ?_); (try (refine gate_guard (by rfl) ?_; dsimp only)); refine Kd.R_lit (Kd.int .u8) _ 5 ?hg (N := 29) ?hd (xs := ([] : List Int)) (inner := []) (ok := fun _ => True) (okp := fun _ => True) ?hr ?hp (fun _ hk => hk) trivial (Below.refl _ _) (Nat.le_refl _) (by simp) ?_; (case hd => rfl); (case hg => rfl); (case hr => exact gs); (case hp => exact (Reps.none _ _)); intro v306 w32 ho33 hb hg_ hnew_; clear hg_ hnew_; (first | rw [← Ny305.out] at ho33 | (simp only [Int.reduceToNat] at ho33; rw [← Ny305.out] at ho33)); have n_ := ak8 (re_ HO_5 ho33 hb) (re_ HO289 ho33 hb) (re_ HO292 ho33 hb) (re_ HO295 ho33 hb) (re_ HO304 ho33 hb) (Kd.R_lower (Kd.R_new' (Kd.R_new' (Kd.R_new' (Kd.R_new' (Kd.R_new' ho33 (Kd.R_lt (kqR HO_5.out))) (Kd.R_lt (kqR HO289.out))) (Kd.R_lt (kqR HO292.out))) (Kd.R_lt (kqR HO295.out))) (Kd.R_lt (kqR HO304.out))) (below_size (bq1 HB.out GE280.out))) (kb BK280 hb) (below_step (bq1 HB.out GE280.out) hb); clear HO_5 HO289 HO292 HO295 HO304 BK280 HB; obtain ⟨HO_5, HO289, HO292, HO295, HO304, HO307, BK280, HB⟩ := n_; clear hb ho33))
     go_ret
     exact ⟨_, rq, by refine kr ?_; exact Kd.R_mono HO307.out (fun _ hk => trivial), bq1 HB.out GE280.out⟩
   have c19b1 : decide (250 < y302.length) = false := decide_eq_false (by omega)
   clear c19
   generalize hy308 : ((([] : List Int)) : List Int) = y308 at H
   have Ny308 := am hy308.symm
   clear hy308
   replace H := be H
   obtain ⟨qc3_0, Qc3, H⟩ := H
   obtain rfl := Option.some.inj H
   go_wp2_with (first | ((with_reducible refine gate_dst (N := 18) rfl ?_); (try (refine gate_guard (by rfl) ?_; dsimp only)); refine Kd.R_lit (Kd.int .u8) _ 5 ?hg (N := 18) ?hd (xs := ([] : List Int)) (inner := []) (ok := fun _ => True) (okp := fun _ => True) ?hr ?hp (fun _ hk => hk) trivial (Below.refl _ _) (Nat.le_refl _) (by simp) ?_; (case hd => rfl); (case hg => rfl); (case hr => exact gs); (case hp => exact (Reps.none _ _)); intro v288 w35 ho36 hb hg_ hnew_; clear hg_ hnew_; (first | rw [← Ny287.out] at ho36 | (simp only [Int.reduceToNat] at ho36; rw [← Ny287.out] at ho36)); have n_ := ak4 (re_ HO_5 ho36 hb) (rn_ ho36 HO_5 (bq1 HB.out GE280.out)) (kb BK280 hb) (below_step (bq1 HB.out GE280.out) hb); clear HO_5 BK280 HB; obtain ⟨HO_5, HO289, BK280, HB⟩ := n_; clear hb ho36) | ((with_reducible refine gate_callee (f := 64) rfl ?_); refine gc (some 19) (spec_PutInt.calls kj3 1 qb1_0 _ Qb1.out) Try.func64 ?_; rintro e w37 ⟨v291, rfl, ho0, hb⟩; refine ⟨_, rfl, ?_⟩; have n_ := ak5 (re_ HO_5 ho0 hb) (re_ HO289 ho0 hb) (Kd.R_lower (Kd.R_new' (Kd.R_new' ho0 (Kd.R_lt (kqR HO_5.out))) (Kd.R_lt (kqR HO289.out))) (below_size (bq1 HB.out GE280.out))) (kb BK280 hb) (below_step (bq1 HB.out GE280.out) hb); clear HO_5 HO289 BK280 HB; obtain ⟨HO_5, HO289, HO292, BK280, HB⟩ := n_; (try clear hb ho0); obtain ⟨Ao38, co38, eo38⟩ := Kd.R_slice HO289.out; subst eo38; obtain ⟨Ao39, co39, eo39⟩ := Kd.R_slice HO292.out; subst eo39) | ((with_reducible refine gate_callee (f := 66) rfl ?_); refine gc (some 20) (spec_PutTlv.calls kj3 _ _ y287 2 _ _ qb1_0 qc1_0 _ (cq (Kd.R_reads' HO289.out).2.2) ((Kd.R_reads' HO289.out).2.1) (cq (Kd.R_reads' HO292.out).2.2) ((Kd.R_reads' HO292.out).2.1) Qc1.out) Try.func66 ?_; rintro e w40 ⟨v294, rfl, ho0, hb⟩; refine ⟨_, rfl, ?_⟩; have n_ := ak6 (re_ HO_5 ho0 hb) (re_ HO289 ho0 hb) (re_ HO292 ho0 hb) (Kd.R_lower (Kd.R_new' (Kd.R_new' (Kd.R_new' ho0 (Kd.R_lt (kqR HO_5.out))) (Kd.R_lt (kqR HO289.out))) (Kd.R_lt (kqR HO292.out))) (below_size (bq1 HB.out GE280.out))) (kb BK280 hb) (below_step (bq1 HB.out GE280.out) hb); clear HO_5 HO289 HO292 BK280 HB; obtain ⟨HO_5, HO289, HO292, HO295, BK280, HB⟩ := n_; (try clear hb ho0)) | ((with_reducible refine gate_dst (N := 22) rfl ?_); (try (refine gate_guard (by rfl) ?_; dsimp only)); refine strb_event ?hg (N := 22) ?hd 9 22 5 (x := .tmp 21) ?ho (s := a0) (y := y296) Ny296.out ?hx Try.underlying9 Try.underlying22 Try.underlying5 (by have h_ : (a0.size : Int) < (140737488355328 : Int) := oda; omega) ?_; (case hd => rfl); (case hg => rfl); (case ho => rfl); (case hx => first | (go_simp; done) | (go_simp; rfl)); intro As296 cs296 w41 hs_ hl_ hb; have n_ := ak8 (rb HO_5 hb) (rb HO289 hb) (rb HO292 hb) (rb HO295 hb) (kb BK280 hb) (below_step (bq1 HB.out GE280.out) hb) hs_ hl_; clear HO_5 HO289 HO292 HO295 BK280 HB; obtain ⟨HO_5, HO289, HO292, HO295, BK280, HB, HRs296, HCs296⟩ := n_; clear hb hs_ hl_; obtain ⟨Ao42, co42, eo42⟩ := Kd.R_slice HO295.out; subst eo42) | ((with_reducible refine gate_callee (f := 66) rfl ?_); refine gc (some 23) (spec_PutTlv.calls kj3 _ _ qc1_0 4 _ _ y296 qc2_0 _ (cq (Kd.R_reads' HO295.out).2.2) ((Kd.R_reads' HO295.out).2.1) (by repeat (first | exact (by repeat (first | (with_reducible exact HRs296.out) | (with_reducible refine Kd.C_alloc ?_ _) | (with_reducible refine Kd.C_drewN ?_ _) | (with_reducible refine Kd.C_drew ?_) | exact HRs296.out)) | (with_reducible refine Kd.C_alloc ?_ _) | (with_reducible refine Kd.C_drewN ?_ _) | (with_reducible refine Kd.C_drew ?_))) HCs296.out Qc2.out) Try.func66 ?_; rintro e w43 ⟨v300, rfl, ho0, hb⟩; refine ⟨_, rfl, ?_⟩; have n_ := ak8 (re_ HO_5 ho0 hb) (re_ HO289 ho0 hb) (re_ HO292 ho0 hb) (re_ HO295 ho0 hb) (Kd.R_lower (Kd.R_new' (Kd.R_new' (Kd.R_new' (Kd.R_new' ho0 (Kd.R_lt (kqR HO_5.out))) (Kd.R_lt (kqR HO289.out))) (Kd.R_lt (kqR HO292.out))) (Kd.R_lt (kqR HO295.out))) (below_size (bq1 HB.out GE280.out))) (kb BK280 hb) (Kd.C_below (by repeat (first | (with_reducible exact HRs296.out) | (with_reducible refine Kd.C_alloc ?_ _) | (with_reducible refine Kd.C_drewN ?_ _) | (with_reducible refine Kd.C_drew ?_) | exact HRs296.out)) hb) (below_step (bq1 HB.out GE280.out) hb); clear HO_5 HO289 HO292 HO295 BK280 HRs296 HB; obtain ⟨HO_5, HO289, HO292, HO295, HO301, BK280, HRs296, HB⟩ := n_; (try clear hb ho0); obtain ⟨Ao45, co45, eo45⟩ := Kd.R_slice HO_5.out; subst eo45) | ((with_reducible refine gate_builtin (b := .append) (xs := #[.tmp 23, .tmp 24]) rfl ?_); (try (refine gate_guard (by rfl) ?_; dsimp only)); at_builtin; refine Kd.R_append_rows (Kd.int .u8) (w0 := w) w.heap.size rfl (.tmp 23) (.tmp 24) 22 5 (.int .u8 0) 1 rfl Try.underlying22 info5 rfl (by decide) (by omega) v300 qc2_0 qa1_0 _ _ _ (fun k_ => some k_ ≠ (.slice Ao45 qa1_0.length co45 : Value).ownBlock ∧ some k_ ≠ (.slice Ao38 y287.length co38 : Value).ownBlock ∧ some k_ ≠ (.slice Ao39 qb1_0.length co39 : Value).ownBlock ∧ some k_ ≠ (.slice Ao42 qc1_0.length co42 : Value).ownBlock) (fun _ => False) rfl rfl ?aO ?aR (fun _ _ h => h) (fun _ h => h.elim) ?aF ?aB ?aS ?aL ?_; (case aR => repeat (first | exact (Kd.R_reads' HO_5.out).2.2 | (with_reducible refine Kd.C_alloc ?_ _) | (with_reducible refine Kd.C_drewN ?_ _) | (with_reducible refine Kd.C_drew ?_))); (case aB => exact (bq1 HB.out GE280.out)); (case aF => exact (fun k_ hk => ⟨Kd.fresh' (Kd.R_lt (kqR HO_5.out)) k_ hk, Kd.fresh' (Kd.R_lt (kqR HO289.out)) k_ hk, Kd.fresh' (Kd.R_lt (kqR HO292.out)) k_ hk, Kd.fresh' (Kd.R_lt (kqR HO295.out)) k_ hk⟩)); (case aO => exact (by refine kr ?_; exact Kd.R_mono HO301.out (fun _ hk => ⟨hk.1.1.1.2, ⟨hk.1.1.2, ⟨hk.1.2, hk.2⟩⟩⟩))); (case aS => exact (below_size (bq1 HB.out GE280.out))); (case aL => have := LMc18.out; omega); intro v303 w44 ho hb hg hat; rw [← Ny302.out] at ho; have n_ := ak7 (Kd.R_after (ok := (fun k_ => some k_ ≠ (.slice Ao38 y287.length co38 : Value).ownBlock ∧ some k_ ≠ (.slice Ao39 qb1_0.length co39 : Value).ownBlock ∧ some k_ ≠ (.slice Ao42 qc1_0.length co42 : Value).ownBlock)) (by refine kr ?_; exact Kd.R_mono HO_5.out (fun _ hk => ⟨⟨hk.1.1.1.2, ⟨hk.1.1.2, hk.1.2⟩⟩, hk.2⟩)) hg hat) (blk_grown (g := gb280) (o := .cells #[.int .i64 a1_0, .int .i64 a1_1, .int .i64 a1_2, .int .i64 a1_3, .slice A1_4 l1_4.length c1_4] 58 (0, 0)) (zq BK280.out) hg (Kd.R_ne HO301.out BK280.out (by decide))) (Kd.R_after (ok := (fun k_ => some k_ ≠ (.slice Ao45 qa1_0.length co45 : Value).ownBlock ∧ some k_ ≠ (.slice Ao39 qb1_0.length co39 : Value).ownBlock ∧ some k_ ≠ (.slice Ao42 qc1_0.length co42 : Value).ownBlock)) (by refine kr ?_; exact Kd.R_mono HO289.out (fun _ hk => ⟨⟨hk.1.1.1.2, ⟨hk.1.1.2, hk.1.2⟩⟩, hk.2⟩)) hg hat) (Kd.R_after (ok := (fun k_ => some k_ ≠ (.slice Ao45 qa1_0.length co45 : Value).ownBlock ∧ some k_ ≠ (.slice Ao38 y287.length co38 : Value).ownBlock ∧ some k_ ≠ (.slice Ao42 qc1_0.length co42 : Value).ownBlock)) (by refine kr ?_; exact Kd.R_mono HO292.out (fun _ hk => ⟨⟨hk.1.1.1.2, ⟨hk.1.1.2, hk.1.2⟩⟩, hk.2⟩)) hg hat) (Kd.R_after (ok := (fun k_ => some k_ ≠ (.slice Ao45 qa1_0.length co45 : Value).ownBlock ∧ some k_ ≠ (.slice Ao38 y287.length co38 : Value).ownBlock ∧ some k_ ≠ (.slice Ao39 qb1_0.length co39 : Value).ownBlock)) (by refine kr ?_; exact Kd.R_mono HO295.out (fun _ hk => ⟨⟨hk.1.1.1.2, ⟨hk.1.1.2, hk.1.2⟩⟩, hk.2⟩)) hg hat) hb ho; clear HO_5 BK280 HO289 HO292 HO295 HB HO301; obtain ⟨HO_5, BK280, HO289, HO292, HO295, HB, HO304⟩ := n_; clear ho hb hg hat; obtain ⟨Ao46, co46, eo46⟩ := Kd.R_slice HO304.out; subst eo46) | ((with_reducible refine gate_dst (N := 30) rfl ?_); (try (refine gate_guard (by rfl) ?_; dsimp only)); refine Kd.R_lit (Kd.int .u8) _ 5 ?hg (N := 30) ?hd (xs := ([] : List Int)) (inner := []) (ok := fun _ => True) (okp := fun _ => True) ?hr ?hp (fun _ hk => hk) trivial (Below.refl _ _) (Nat.le_refl _) (by simp) ?_; (case hd => rfl); (case hg => rfl); (case hr => exact gs); (case hp => exact (Reps.none _ _)); intro v309 w47 ho48 hb hg_ hnew_; clear hg_ hnew_; (first | rw [← Ny308.out] at ho48 | (simp only [Int.reduceToNat] at ho48; rw [← Ny308.out] at ho48)); have n_ := ak8 (re_ HO_5 ho48 hb) (re_ HO289 ho48 hb) (re_ HO292 ho48 hb) (re_ HO295 ho48 hb) (re_ HO304 ho48 hb) (Kd.R_lower (Kd.R_new' (Kd.R_new' (Kd.R_new' (Kd.R_new' (Kd.R_new' ho48 (Kd.R_lt (kqR HO_5.out))) (Kd.R_lt (kqR HO289.out))) (Kd.R_lt (kqR HO292.out))) (Kd.R_lt (kqR HO295.out))) (Kd.R_lt (kqR HO304.out))) (below_size (bq1 HB.out GE280.out))) (kb BK280 hb) (below_step (bq1 HB.out GE280.out) hb); clear HO_5 HO289 HO292 HO295 HO304 BK280 HB; obtain ⟨HO_5, HO289, HO292, HO295, HO304, HO310, BK280, HB⟩ := n_; clear hb ho48; obtain ⟨Ao49, co49, eo49⟩ := Kd.R_slice HO310.out; subst eo49) | ((with_reducible refine gate_callee (f := 66) rfl ?_); refine gc (some 32) (spec_PutTlv.calls kj3 _ _ y308 48 _ _ y302 qc3_0 _ (cq (Kd.R_reads' HO310.out).2.2) ((Kd.R_reads' HO310.out).2.1) (cq (Kd.R_reads' HO304.out).2.2) ((Kd.R_reads' HO304.out).2.1) Qc3.out) Try.func66 ?_; rintro e w50 ⟨v312, rfl, ho0, hb⟩; refine ⟨_, rfl, ?_⟩; have n_ := ak9 (re_ HO_5 ho0 hb) (re_ HO289 ho0 hb) (re_ HO292 ho0 hb) (re_ HO295 ho0 hb) (re_ HO304 ho0 hb) (re_ HO310 ho0 hb) (Kd.R_lower (Kd.R_new' (Kd.R_new' (Kd.R_new' (Kd.R_new' (Kd.R_new' (Kd.R_new' ho0 (Kd.R_lt (kqR HO_5.out))) (Kd.R_lt (kqR HO289.out))) (Kd.R_lt (kqR HO292.out))) (Kd.R_lt (kqR HO295.out))) (Kd.R_lt (kqR HO304.out))) (Kd.R_lt (kqR HO310.out))) (below_size (bq1 HB.out GE280.out))) (kb BK280 hb) (below_step (bq1 HB.out GE280.out) hb); clear HO_5 HO289 HO292 HO295 HO304 HO310 BK280 HB; obtain ⟨HO_5, HO289, HO292, HO295, HO304, HO310, HO313, BK280, HB⟩ := n_; (try clear hb ho0)))
   go_ret
   exact ⟨_, rq, by refine kr ?_; exact Kd.R_mono HO313.out (fun _ hk => trivial), bq1 HB.out GE280.out⟩
end Go.Proofs.Ythhnfmbfgplelaa.XFnMsgs
