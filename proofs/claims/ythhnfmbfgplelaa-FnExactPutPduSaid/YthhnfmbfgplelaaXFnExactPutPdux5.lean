/- The functions that one law reaches, as Lean functions, with their walks: printed by a program of this seat (wip/tools) out of the translation. -/
import Derived.Test.YthhnfmbfgplelaaXFnExactPutPdux0
import Derived.Test.YthhnfmbfgplelaaXFnExactPutPdux2
import Derived.Test.YthhnfmbfgplelaaXFnExactPutPdux3
import Derived.Test.YthhnfmbfgplelaaXFnExactPutPdux4
namespace Go.Proofs.Ythhnfmbfgplelaa.XFnExactPutPdu
open Go.RowKit Go.Proofs.YthhnfmbfgplelaaW.PrintWords Go.Proofs.YthhnfmbfgplelaaW.PrintLast Go.Proofs.YthhnfmbfgplelaaW.PrintMore
attribute [local go_sem] max2_int min2_int max_two min_two max_three min_three max_four min_four   -- for this text's walks alone
set_option linter.unusedVariables false
set_option linter.unusedSimpArgs false

/-! ### spec_l4Body: function 97 -/
def spec_l4Body.f (k : Nat) (a0_0 : Int) (a0_1 : Int) (a0_2 : Int) (a0_3 : Int) (l0_4 : List (S116)) : Option (List Int × Bool) := (spec_l4Binds.f k l0_4).bind fun t243 => (if (t243.length : Int) > 250 then (some ((([] : List Int)), false)) else ((spec_PutInt.f k a0_1).bind fun t252 => ((spec_PutTlv.f k (([] : List Int)) 2 t252).bind fun t255 => ((spec_PutInt.f k a0_2).bind fun t258 => ((spec_PutTlv.f k t255 2 t258).bind fun t261 => ((spec_PutInt.f k a0_3).bind fun t264 => ((spec_PutTlv.f k t261 2 t264).bind fun t267 => ((spec_PutTlv.f k t267 48 t243).bind fun t270 => (some (t270, decide ((t270.length : Int) ≤ 250)))))))))))
theorem spec_l4Body.mono : ∀ a0 a1 a2 a3 a4 k, LeO (spec_l4Body.f k a0 a1 a2 a3 a4) (spec_l4Body.f (k + 1) a0 a1 a2 a3 a4) := by
 intro a0 a1 a2 a3 a4 k
 unfold spec_l4Body.f
 repeat' first
  | (with_reducible exact spec_PutInt.mono _ _)
  | (with_reducible exact spec_PutTlv.mono _ _ _ _)
  | (with_reducible exact spec_l4Binds.mono _ _)
  | (with_reducible exact LeO.refl _)
  | (with_reducible exact LeO.none _)
  | (with_reducible refine LeO.ite ?_ ?_)
  | (with_reducible refine LeO.bind ?_ (fun _ => ?_))
  | exact spec_PutInt.mono _ _
  | exact spec_PutTlv.mono _ _ _ _
  | exact spec_l4Binds.mono _ _
  | exact LeO.none _
  | refine LeO.ite ?_ ?_
  | refine LeO.bind ?_ (fun _ => ?_)
def spec_l4Body.T4 : Bool × List (List Nat × List Nat) := (true, [([], []), ([], []), ([1], [1]), ([2], [2]), ([0, 3, 3], [0, 3]), ([], []), ([5], [5]), ([6, 4], [6]), ([4, 7, 7], [4, 7]), ([], []), ([9], [9]), ([10, 8], [10]), ([8, 11, 11], [8, 11]), ([12, 12, 0, 1, 2, 3, 4, 5, 6, 7, 8, 9, 10, 11, 12], [12])])
def spec_l4Body.B4 : List Nat := [0, 0, 2, 6, 15, 0, 32, 127, 255, 0, 512, 2047, 4095, 8191]
theorem spec_l4Body.tab4 : rtab .any (opsOf Try.f97 4) = spec_l4Body.T4 := by kernel_rfl
theorem spec_l4Body.bits4 : waitsOk spec_l4Body.T4.2 spec_l4Body.B4 = true := by kernel_rfl
set_option maxHeartbeats 8000000 in
set_option maxRecDepth 100000 in
theorem spec_l4Body.calls (k : Nat) (a0_0 : Int) (a0_1 : Int) (a0_2 : Int) (a0_3 : Int) (A0_4 : Option Addr) (c0_4 : Nat) (l0_4 : List (S116)) (r1 : List Int) (r2 : Bool) (w : World) (hr0_4 : Kd.C k116 w A0_4 l0_4.length l0_4) (hc0_4 : l0_4.length ≤ c0_4) (h : spec_l4Body.f k a0_0 a0_1 a0_2 a0_3 l0_4 = some (r1, r2)) :
 Calls Try.prog 97 #[.agg #[.int .i64 a0_0, .int .i64 a0_1, .int .i64 a0_2, .int .i64 a0_3, .slice A0_4 l0_4.length c0_4]] w fun e w' => ∃ v0_ : Value, e = .returned (.tuple #[v0_, .bool r2]) ∧ Kd.R (Kd.int .u8) 5 w' w.heap.size (fun _ => True) v0_ r1 ∧ Below w.heap.size w w' := by
 have hu58 := Try.underlying58
 have HR0_4 := am hr0_4
 have HC0_4 := am hc0_4
 clear hr0_4 hc0_4
 have HB := am (Below.refl w.heap.size w)
 have H : ((spec_l4Binds.f k l0_4).bind fun t243 => (if (t243.length : Int) > 250 then (some ((([] : List Int)), false)) else ((spec_PutInt.f k a0_1).bind fun t252 => ((spec_PutTlv.f k (([] : List Int)) 2 t252).bind fun t255 => ((spec_PutInt.f k a0_2).bind fun t258 => ((spec_PutTlv.f k t255 2 t258).bind fun t261 => ((spec_PutInt.f k a0_3).bind fun t264 => ((spec_PutTlv.f k t261 2 t264).bind fun t267 => ((spec_PutTlv.f k t267 48 t243).bind fun t270 => (some (t270, decide ((t270.length : Int) ≤ 250)))))))))))) = some (r1, r2) := h
 clear h
 replace H := Option.bind_eq_some_iff.mp H
 obtain ⟨t243, A20, H⟩ := H
 replace H : (if (t243.length : Int) > 250 then (some ((([] : List Int)), false)) else ((spec_PutInt.f k a0_1).bind fun t252 => ((spec_PutTlv.f k (([] : List Int)) 2 t252).bind fun t255 => ((spec_PutInt.f k a0_2).bind fun t258 => ((spec_PutTlv.f k t255 2 t258).bind fun t261 => ((spec_PutInt.f k a0_3).bind fun t264 => ((spec_PutTlv.f k t261 2 t264).bind fun t267 => ((spec_PutTlv.f k t267 48 t243).bind fun t270 => (some (t270, decide ((t270.length : Int) ≤ 250))))))))))) = some (r1, r2) := H
 have A2 := am A20
 clear A20
 by_cases c3 : (t243.length : Int) > 250
 · rw [if_pos c3] at H
   have c3b0 : decide (250 < (t243.length : Int)) = true := decide_eq_true c3
   have c3b1 : decide (250 < t243.length) = true := decide_eq_true (by omega)
   clear c3
   obtain ⟨y246, hy246⟩ : ∃ y_ : List Int, y_ = (([] : List Int)) := ⟨_, rfl⟩
   replace H : (some (y246, false)) = some (r1, r2) := hx H hy246
   have Ny246 := am hy246
   clear hy246
   simp only [Option.some.injEq, Prod.mk.injEq] at H
   obtain ⟨rfl, rfl⟩ := H
   go_enter Try.func97, Try.ntmps97
   go_wp2_with (first | ((with_reducible refine gate_dst (N := 1) rfl ?_); refine bxe 1 #[.int .i64 a0_0, .int .i64 a0_1, .int .i64 a0_2, .int .i64 a0_3, .slice A0_4 l0_4.length c0_4] 58 ?_; intro gb242 hg w4 hbox hb; have n_ := ak4 (below_step (bq HB.out) hb) hbox ((by rw [hg]; exact (below_size (bq HB.out)) : w.heap.size ≤ gb242)) ((by rw [hg]; exact (below_size (bq HB.out)) : w.heap.size ≤ gb242)); clear HB; obtain ⟨HB, BK242, GW242, GE242⟩ := n_; clear hb hbox hg; obtain ⟨hcz5_0, hcz5_1, hcz5_2, hcz5_3, hcz5_4, hfz5_0, hfz5_1, hfz5_2, hfz5_3, hfz5_4⟩ := cl5 BK242.out) | ((with_reducible refine gate_callee (f := 128) rfl ?_); refine goesL_ (some 8) rfl rfl Try.func128 (by kernel_rfl) rfl #[.slice A0_4 l0_4.length c0_4] rfl ga ?_; (with_reducible refine (spec_l4Binds.calls k _ _ l0_4 t243 _ ?side1 ?side2 A2.out).mono ?_); (case side1 => exact cq (Kd.C_below HR0_4.out HB.out)); (case side2 => exact HC0_4.out); rintro e w6 ⟨v244, rfl, ho0, hb⟩; refine ⟨_, rfl, ?_⟩; have n_ := ak3 (Kd.R_lower ho0 (below_size (bq1 HB.out GE242.out))) (blk_below (zb BK242.out) hb) (below_step (bq1 HB.out GE242.out) hb); clear BK242 HB; obtain ⟨HO245, BK242, HB⟩ := n_; (try clear hb ho0); obtain ⟨Ao7, co7, eo7⟩ := Kd.R_slice HO245.out; subst eo7) | ((with_reducible refine gate_dst (N := 12) rfl ?_); refine Kd.R_lit (Kd.int .u8) _ 5 ?hg (N := 12) ?hd (xs := ([] : List Int)) (inner := []) (ok := fun _ => True) (okp := fun _ => True) ?hr ?hp (fun _ hk => hk) trivial (Below.refl _ _) (Nat.le_refl _) (by simp) ?_; (case hd => rfl); (case hg => rfl); (case hr => exact gs); (case hp => exact (Reps.none _ _)); intro v247 w8 ho9 hb hg_ hnew_; clear hg_ hnew_; (first | rw [← Ny246.out] at ho9 | (simp only [Int.reduceToNat] at ho9; rw [← Ny246.out] at ho9)); have n_ := ak4 (Kd.R_elder' (kqR HO245.out) (Kd.R_base ho9) hb) (Kd.R_lower (Kd.R_new' ho9 (Kd.R_lt (kqR HO245.out))) (below_size (bq1 HB.out GE242.out))) (blk_below (zb BK242.out) hb) (below_step (bq1 HB.out GE242.out) hb); clear HO245 BK242 HB; obtain ⟨HO245, HO248, BK242, HB⟩ := n_; clear hb ho9))
   go_ret2
   exact ⟨_, rq, by refine kr ?_; exact Kd.R_mono HO248.out (fun _ hk => trivial), bq1 HB.out GE242.out⟩
 rw [if_neg c3] at H
 have c3b0 : decide (250 < (t243.length : Int)) = false := decide_eq_false c3
 have c3b1 : decide (250 < t243.length) = false := decide_eq_false (by omega)
 clear c3
 obtain ⟨y249, hy249⟩ : ∃ y_ : List Int, y_ = (([] : List Int)) := ⟨_, rfl⟩
 replace H : ((spec_PutInt.f k a0_1).bind fun t252 => ((spec_PutTlv.f k y249 2 t252).bind fun t255 => ((spec_PutInt.f k a0_2).bind fun t258 => ((spec_PutTlv.f k t255 2 t258).bind fun t261 => ((spec_PutInt.f k a0_3).bind fun t264 => ((spec_PutTlv.f k t261 2 t264).bind fun t267 => ((spec_PutTlv.f k t267 48 t243).bind fun t270 => (some (t270, decide ((t270.length : Int) ≤ 250)))))))))) = some (r1, r2) := hx H hy249
 have Ny249 := am hy249
 clear hy249
 replace H := Option.bind_eq_some_iff.mp H
 obtain ⟨t252, A100, H⟩ := H
 replace H : ((spec_PutTlv.f k y249 2 t252).bind fun t255 => ((spec_PutInt.f k a0_2).bind fun t258 => ((spec_PutTlv.f k t255 2 t258).bind fun t261 => ((spec_PutInt.f k a0_3).bind fun t264 => ((spec_PutTlv.f k t261 2 t264).bind fun t267 => ((spec_PutTlv.f k t267 48 t243).bind fun t270 => (some (t270, decide ((t270.length : Int) ≤ 250))))))))) = some (r1, r2) := H
 have A10 := am A100
 clear A100
 replace H := Option.bind_eq_some_iff.mp H
 obtain ⟨t255, A110, H⟩ := H
 replace H : ((spec_PutInt.f k a0_2).bind fun t258 => ((spec_PutTlv.f k t255 2 t258).bind fun t261 => ((spec_PutInt.f k a0_3).bind fun t264 => ((spec_PutTlv.f k t261 2 t264).bind fun t267 => ((spec_PutTlv.f k t267 48 t243).bind fun t270 => (some (t270, decide ((t270.length : Int) ≤ 250)))))))) = some (r1, r2) := H
 have A11 := am A110
 clear A110
 replace H := Option.bind_eq_some_iff.mp H
 obtain ⟨t258, A120, H⟩ := H
 replace H : ((spec_PutTlv.f k t255 2 t258).bind fun t261 => ((spec_PutInt.f k a0_3).bind fun t264 => ((spec_PutTlv.f k t261 2 t264).bind fun t267 => ((spec_PutTlv.f k t267 48 t243).bind fun t270 => (some (t270, decide ((t270.length : Int) ≤ 250))))))) = some (r1, r2) := H
 have A12 := am A120
 clear A120
 replace H := Option.bind_eq_some_iff.mp H
 obtain ⟨t261, A130, H⟩ := H
 replace H : ((spec_PutInt.f k a0_3).bind fun t264 => ((spec_PutTlv.f k t261 2 t264).bind fun t267 => ((spec_PutTlv.f k t267 48 t243).bind fun t270 => (some (t270, decide ((t270.length : Int) ≤ 250)))))) = some (r1, r2) := H
 have A13 := am A130
 clear A130
 replace H := Option.bind_eq_some_iff.mp H
 obtain ⟨t264, A140, H⟩ := H
 replace H : ((spec_PutTlv.f k t261 2 t264).bind fun t267 => ((spec_PutTlv.f k t267 48 t243).bind fun t270 => (some (t270, decide ((t270.length : Int) ≤ 250))))) = some (r1, r2) := H
 have A14 := am A140
 clear A140
 replace H := Option.bind_eq_some_iff.mp H
 obtain ⟨t267, A150, H⟩ := H
 replace H : ((spec_PutTlv.f k t267 48 t243).bind fun t270 => (some (t270, decide ((t270.length : Int) ≤ 250)))) = some (r1, r2) := H
 have A15 := am A150
 clear A150
 replace H := Option.bind_eq_some_iff.mp H
 obtain ⟨t270, A160, H⟩ := H
 replace H : (some (t270, decide ((t270.length : Int) ≤ 250))) = some (r1, r2) := H
 have A16 := am A160
 clear A160
 simp only [Option.some.injEq, Prod.mk.injEq] at H
 obtain ⟨rfl, rfl⟩ := H
 go_enter Try.func97, Try.ntmps97
 try go_wp2_with (first | ((with_reducible refine gate_dst (N := 1) rfl ?_); refine bxe 1 #[.int .i64 a0_0, .int .i64 a0_1, .int .i64 a0_2, .int .i64 a0_3, .slice A0_4 l0_4.length c0_4] 58 ?_; intro gb242 hg w17 hbox hb; have n_ := ak4 (below_step (bq HB.out) hb) hbox ((by rw [hg]; exact (below_size (bq HB.out)) : w.heap.size ≤ gb242)) ((by rw [hg]; exact (below_size (bq HB.out)) : w.heap.size ≤ gb242)); clear HB; obtain ⟨HB, BK242, GW242, GE242⟩ := n_; clear hb hbox hg; obtain ⟨hcz18_0, hcz18_1, hcz18_2, hcz18_3, hcz18_4, hfz18_0, hfz18_1, hfz18_2, hfz18_3, hfz18_4⟩ := cl5 BK242.out) | ((with_reducible refine gate_callee (f := 128) rfl ?_); refine goesL_ (some 8) rfl rfl Try.func128 (by kernel_rfl) rfl #[.slice A0_4 l0_4.length c0_4] rfl ga ?_; (with_reducible refine (spec_l4Binds.calls k _ _ l0_4 t243 _ ?side1 ?side2 A2.out).mono ?_); (case side1 => exact cq (Kd.C_below HR0_4.out HB.out)); (case side2 => exact HC0_4.out); rintro e w19 ⟨v244, rfl, ho0, hb⟩; refine ⟨_, rfl, ?_⟩; have n_ := ak3 (Kd.R_lower ho0 (below_size (bq1 HB.out GE242.out))) (blk_below (zb BK242.out) hb) (below_step (bq1 HB.out GE242.out) hb); clear BK242 HB; obtain ⟨HO245, BK242, HB⟩ := n_; (try clear hb ho0); obtain ⟨Ao20, co20, eo20⟩ := Kd.R_slice HO245.out; subst eo20))
 have n_ := ak3 (Kd.R_drew HO245.out) (blk_drew BK242.out) (below_drew1 HB.out)
 clear HO245 BK242 HB
 obtain ⟨HO245, BK242, HB⟩ := n_
 refine start_ (n := 14) (S := fun w' => w'.cell? ⟨gb242, 0, none⟩ = some (.int .i64 a0_0) ∧ w'.cell? ⟨gb242, 1, none⟩ = some (.int .i64 a0_1) ∧ w'.cell? ⟨gb242, 2, none⟩ = some (.int .i64 a0_2) ∧ w'.cell? ⟨gb242, 3, none⟩ = some (.int .i64 a0_3) ∧ w'.cell? ⟨gb242, 4, none⟩ = some (.slice A0_4 l0_4.length c0_4)) (ds := []) #[false, false, false, false, false, false, false, false, false, false, false, false, false, false] (by kernel_rfl) rfl rfl ⟨(blk_cell BK242.out 0).trans rfl, (blk_cell BK242.out 1).trans rfl, (blk_cell BK242.out 2).trans rfl, (blk_cell BK242.out 3).trans rfl, (blk_cell BK242.out 4).trans rfl⟩ (fun hHeld => ?_); refine with_tabW spec_l4Body.tab4 spec_l4Body.bits4 (fun HT_ HW_ => ?_)
 generalize w19.drew = w21 at HO245 BK242 HB hHeld ⊢
 refine pu 1 (some 14) #[false, true, false, false, false, false, false, false, false, false, false, false, false, false] rfl rfl (any_of HT_.out (by kernel_rfl)) (Or.inl ⟨by rfl, by intro w'; go_simp; with_reducible rfl⟩) ?_
 refine pu 5 (some 18) #[false, true, false, false, false, true, false, false, false, false, false, false, false, false] rfl rfl (any_of HT_.out (by kernel_rfl)) (Or.inl ⟨by rfl, by intro w'; go_simp; with_reducible rfl⟩) ?_
 refine pu 9 (some 22) #[false, true, false, false, false, true, false, false, false, true, false, false, false, false] rfl rfl (any_of HT_.out (by kernel_rfl)) (Or.inl ⟨by rfl, by intro w'; go_simp; with_reducible rfl⟩) ?_
 refine tk 2 (some 15) #[false, true, true, false, false, true, false, false, false, true, false, false, false, false] rfl rfl (take_ofW HT_.out HW_.out (by kernel_rfl)) hHeld (Or.inl ⟨by rfl, by rintro w' ⟨s0, s1, s2, s3, s4⟩; go_simp; with_reducible rfl⟩) ?_
 refine tk 6 (some 19) #[false, true, true, false, false, true, true, false, false, true, false, false, false, false] rfl rfl (take_ofW HT_.out HW_.out (by kernel_rfl)) hHeld (Or.inl ⟨by rfl, by rintro w' ⟨s0, s1, s2, s3, s4⟩; go_simp; with_reducible rfl⟩) ?_
 refine tk 10 (some 23) #[false, true, true, false, false, true, true, false, false, true, true, false, false, false] rfl rfl (take_ofW HT_.out HW_.out (by kernel_rfl)) hHeld (Or.inl ⟨by rfl, by rintro w' ⟨s0, s1, s2, s3, s4⟩; go_simp; with_reducible rfl⟩) ?_
 refine join_ (σ := Value × Value) 6 #[true, true, true, true, false, true, true, false, false, true, true, false, false, false] (fun s_ => [(13, s_.1), (16, s_.2)]) (fun s_ w' => (w'.cell? ⟨gb242, 0, none⟩ = some (.int .i64 a0_0) ∧ w'.cell? ⟨gb242, 1, none⟩ = some (.int .i64 a0_1) ∧ w'.cell? ⟨gb242, 2, none⟩ = some (.int .i64 a0_2) ∧ w'.cell? ⟨gb242, 3, none⟩ = some (.int .i64 a0_3) ∧ w'.cell? ⟨gb242, 4, none⟩ = some (.slice A0_4 l0_4.length c0_4)) ∧ (Kd.R (Kd.int .u8) 5 w' w.heap.size (fun k_ => some k_ ≠ (s_.1 : Value).ownBlock ∧ some k_ ≠ (s_.2 : Value).ownBlock) (.slice Ao20 t243.length co20) t243) ∧ (Kd.R (Kd.int .u8) 5 w' w.heap.size (fun k_ => some k_ ≠ (.slice Ao20 t243.length co20 : Value).ownBlock ∧ some k_ ≠ (s_.2 : Value).ownBlock) s_.1 y249) ∧ (Kd.R (Kd.int .u8) 5 w' w.heap.size (fun k_ => some k_ ≠ (.slice Ao20 t243.length co20 : Value).ownBlock ∧ some k_ ≠ (s_.1 : Value).ownBlock) s_.2 t252) ∧ (w'.heap[gb242]? = some (.cells #[.int .i64 a0_0, .int .i64 a0_1, .int .i64 a0_2, .int .i64 a0_3, .slice A0_4 l0_4.length c0_4] 58 (0, 0))) ∧ (Below w.heap.size w w')) ?_ ?_
 rotate_left
 · intro hCont
   refine two_ (i := 0) (j := 3) (Ni := some 13) (Nj := some 16) #[true, true, true, false, false, true, true, false, false, true, true, false, false, false] #[false, true, true, true, false, true, true, false, false, true, true, false, false, false] rfl rfl rfl rfl (two_of HT_.out (by kernel_rfl)) (by decide) (by decide) (fun K hK => ?_) (fun K hK => ?_)
   · skip
     refine Kd.R_lit_step (Kd.int .u8) _ 5 ?hg (N := 13) ?hd (xs := ([] : List Int)) (inner := []) (ok := fun _ => True) (okp := fun _ => True) ?hr ?hp (fun _ hk => hk) trivial (Below.refl _ _) (Nat.le_refl _) (by simp) ?_; (case hd => rfl); (case hg => rfl); (case hr => exact gs); (case hp => exact (Reps.none _ _))
     intro v250 w22 ho23 hb hg_ hnew_
     clear hg_ hnew_
     (first | rw [← Ny249.out] at ho23 | (simp only [Int.reduceToNat] at ho23; rw [← Ny249.out] at ho23))
     have n_ := ak4 (Kd.R_elder' (kqR HO245.out) (Kd.R_base ho23) hb) (Kd.R_lower (Kd.R_new' ho23 (Kd.R_lt (kqR HO245.out))) (below_size (bq1 HB.out GE242.out))) (blk_below (zb BK242.out) hb) (below_step (bq1 HB.out GE242.out) hb)
     clear HO245 BK242 HB
     obtain ⟨HO245, HO251, BK242, HB⟩ := n_
     clear hb ho23
     refine hK.out _ _ ⟨(blk_cell BK242.out 0).trans rfl, (blk_cell BK242.out 1).trans rfl, (blk_cell BK242.out 2).trans rfl, (blk_cell BK242.out 3).trans rfl, (blk_cell BK242.out 4).trans rfl⟩ (fun hHeld => ?_)
     clear hK K
     refine norm_ (a' := ?_) ?_ ?_
     rotate_left
     · show Act.put _ (some 13) _ = _
       simp only [Act.put, List.setIfInBounds_toArray, List.set_cons_zero, List.set_cons_succ, i64_w, i32_w]
       rfl
     refine one_ (i := 3) (N := some 16) #[true, true, true, true, false, true, true, false, false, true, true, false, false, false] rfl rfl (one_of HT_.out (by kernel_rfl)) (by decide) (fun K hK => ?_)
     refine goes_ Try.func64 (by kernel_rfl) rfl #[.int .i64 a0_1] (by rfl) rfl rfl ga ?_
     with_reducible refine (spec_PutInt.calls k a0_1 t252 _ A10.out).mono ?_
     rintro e w24 ⟨v253, rfl, ho0, hb⟩
     refine ⟨_, rfl, ?_⟩
     have n_ := ak5 (Kd.R_elder' (kqR HO245.out) (Kd.R_base ho0) hb) (Kd.R_elder' (kqR HO251.out) (Kd.R_base ho0) hb) (Kd.R_lower (Kd.R_new' (Kd.R_new' ho0 (Kd.R_lt (kqR HO245.out))) (Kd.R_lt (kqR HO251.out))) (below_size (bq1 HB.out GE242.out))) (blk_below (zb BK242.out) hb) (below_step (bq1 HB.out GE242.out) hb)
     clear HO245 HO251 BK242 HB
     obtain ⟨HO245, HO251, HO254, BK242, HB⟩ := n_
     (try clear hb ho0)
     refine hK.out _ _ ⟨(blk_cell BK242.out 0).trans rfl, (blk_cell BK242.out 1).trans rfl, (blk_cell BK242.out 2).trans rfl, (blk_cell BK242.out 3).trans rfl, (blk_cell BK242.out 4).trans rfl⟩ (fun hHeld => ?_)
     clear hK K
     refine norm_ (a' := ?_) ?_ ?_
     rotate_left
     · show Act.put _ (some 16) _ = _
       simp only [Act.put, List.setIfInBounds_toArray, List.set_cons_zero, List.set_cons_succ, i64_w, i32_w]
       rfl
     exact norm_ (by simp only [putAll, Act.put, List.setIfInBounds_toArray, List.set_cons_zero, List.set_cons_succ]) (hCont (v250, v253) _ ⟨hHeld, (by refine kr ?_; exact Kd.R_mono HO245.out (fun _ hk => ⟨hk.1.2, hk.2⟩)), (by refine kr ?_; exact Kd.R_mono HO251.out (fun _ hk => ⟨hk.1.2, hk.2⟩)), (by refine kr ?_; exact Kd.R_mono HO254.out (fun _ hk => ⟨hk.1.2, hk.2⟩)), (zq BK242.out), (bq1 HB.out GE242.out)⟩)
   skip
   refine goes_ Try.func64 (by kernel_rfl) rfl #[.int .i64 a0_1] (by rfl) rfl rfl ga ?_
   with_reducible refine (spec_PutInt.calls k a0_1 t252 _ A10.out).mono ?_
   rintro e w22 ⟨v253, rfl, ho0, hb⟩
   refine ⟨_, rfl, ?_⟩
   have n_ := ak4 (Kd.R_elder' (kqR HO245.out) (Kd.R_base ho0) hb) (Kd.R_lower (Kd.R_new' ho0 (Kd.R_lt (kqR HO245.out))) (below_size (bq1 HB.out GE242.out))) (blk_below (zb BK242.out) hb) (below_step (bq1 HB.out GE242.out) hb)
   clear HO245 BK242 HB
   obtain ⟨HO245, HO254, BK242, HB⟩ := n_
   (try clear hb ho0)
   refine hK.out _ _ ⟨(blk_cell BK242.out 0).trans rfl, (blk_cell BK242.out 1).trans rfl, (blk_cell BK242.out 2).trans rfl, (blk_cell BK242.out 3).trans rfl, (blk_cell BK242.out 4).trans rfl⟩ (fun hHeld => ?_)
   clear hK K
   refine norm_ (a' := ?_) ?_ ?_
   rotate_left
   · show Act.put _ (some 16) _ = _
     simp only [Act.put, List.setIfInBounds_toArray, List.set_cons_zero, List.set_cons_succ, i64_w, i32_w]
     rfl
   refine one_ (i := 0) (N := some 13) #[true, true, true, true, false, true, true, false, false, true, true, false, false, false] rfl rfl (one_of HT_.out (by kernel_rfl)) (by decide) (fun K hK => ?_)
   refine Kd.R_lit_step (Kd.int .u8) _ 5 ?hg (N := 13) ?hd (xs := ([] : List Int)) (inner := []) (ok := fun _ => True) (okp := fun _ => True) ?hr ?hp (fun _ hk => hk) trivial (Below.refl _ _) (Nat.le_refl _) (by simp) ?_; (case hd => rfl); (case hg => rfl); (case hr => exact gs); (case hp => exact (Reps.none _ _))
   intro v250 w23 ho24 hb hg_ hnew_
   clear hg_ hnew_
   (first | rw [← Ny249.out] at ho24 | (simp only [Int.reduceToNat] at ho24; rw [← Ny249.out] at ho24))
   have n_ := ak5 (Kd.R_elder' (kqR HO245.out) (Kd.R_base ho24) hb) (Kd.R_elder' (kqR HO254.out) (Kd.R_base ho24) hb) (Kd.R_lower (Kd.R_new' (Kd.R_new' ho24 (Kd.R_lt (kqR HO245.out))) (Kd.R_lt (kqR HO254.out))) (below_size (bq1 HB.out GE242.out))) (blk_below (zb BK242.out) hb) (below_step (bq1 HB.out GE242.out) hb)
   clear HO245 HO254 BK242 HB
   obtain ⟨HO245, HO254, HO251, BK242, HB⟩ := n_
   clear hb ho24
   refine hK.out _ _ ⟨(blk_cell BK242.out 0).trans rfl, (blk_cell BK242.out 1).trans rfl, (blk_cell BK242.out 2).trans rfl, (blk_cell BK242.out 3).trans rfl, (blk_cell BK242.out 4).trans rfl⟩ (fun hHeld => ?_)
   clear hK K
   refine norm_ (a' := ?_) ?_ ?_
   rotate_left
   · show Act.put _ (some 13) _ = _
     simp only [Act.put, List.setIfInBounds_toArray, List.set_cons_zero, List.set_cons_succ, i64_w, i32_w]
     rfl
   exact norm_ (by simp only [putAll, Act.put, List.setIfInBounds_toArray, List.set_cons_zero, List.set_cons_succ]) (hCont (v250, v253) _ ⟨hHeld, (by refine kr ?_; exact Kd.R_mono HO245.out (fun _ hk => ⟨hk.2, hk.1.2⟩)), (by refine kr ?_; exact Kd.R_mono HO251.out (fun _ hk => ⟨hk.1.2, hk.2⟩)), (by refine kr ?_; exact Kd.R_mono HO254.out (fun _ hk => ⟨hk.1.2, hk.2⟩)), (zq BK242.out), (bq1 HB.out GE242.out)⟩)
 rintro ⟨v250, v253⟩ w25 ⟨hS_, h0_, h1_, h2_, h3_, h4_⟩
 have n_ : Aside0 (Kd.R (Kd.int .u8) 5 w25 w.heap.size (fun k_ => some k_ ≠ (v250 : Value).ownBlock ∧ some k_ ≠ (v253 : Value).ownBlock) (.slice Ao20 t243.length co20) t243) ∧ Aside0 (Kd.R (Kd.int .u8) 5 w25 w.heap.size (fun k_ => some k_ ≠ (.slice Ao20 t243.length co20 : Value).ownBlock ∧ some k_ ≠ (v253 : Value).ownBlock) v250 y249) ∧ Aside0 (Kd.R (Kd.int .u8) 5 w25 w.heap.size (fun k_ => some k_ ≠ (.slice Ao20 t243.length co20 : Value).ownBlock ∧ some k_ ≠ (v250 : Value).ownBlock) v253 t252) ∧ Aside0 (w25.heap[gb242]? = some (.cells #[.int .i64 a0_0, .int .i64 a0_1, .int .i64 a0_2, .int .i64 a0_3, .slice A0_4 l0_4.length c0_4] 58 (0, 0))) ∧ Aside0 (Below w.heap.size w w25) := ⟨⟨h0_⟩, ⟨h1_⟩, ⟨h2_⟩, ⟨h3_⟩, ⟨h4_⟩⟩
 clear HO245 BK242 HB h0_ h1_ h2_ h3_ h4_
 obtain ⟨HO245, HO251, HO254, BK242, HB⟩ := n_
 have hHeld : w25.cell? ⟨gb242, 0, none⟩ = some (.int .i64 a0_0) ∧ w25.cell? ⟨gb242, 1, none⟩ = some (.int .i64 a0_1) ∧ w25.cell? ⟨gb242, 2, none⟩ = some (.int .i64 a0_2) ∧ w25.cell? ⟨gb242, 3, none⟩ = some (.int .i64 a0_3) ∧ w25.cell? ⟨gb242, 4, none⟩ = some (.slice A0_4 l0_4.length c0_4) := hS_
 obtain ⟨Ao26, co26, eo26⟩ := Kd.R_slice HO251.out
 (first | subst eo26 | (injection eo26 with f1_ f2_ f3_; have f4_ := f1_.symm; have f5_ := f3_.symm; clear f1_ f2_ f3_; subst f4_; subst f5_))
 obtain ⟨Ao27, co27, eo27⟩ := Kd.R_slice HO254.out
 (first | subst eo27 | (injection eo27 with f1_ f2_ f3_; have f4_ := f1_.symm; have f5_ := f3_.symm; clear f1_ f2_ f3_; subst f4_; subst f5_))
 refine norm_ (a' := ?_) ?_ ?_
 rotate_left
 · simp only [putAll, Act.put, List.setIfInBounds_toArray, List.set_cons_zero, List.set_cons_succ]
   rfl
 refine one_ (i := 4) (N := some 17) #[true, true, true, true, true, true, true, false, false, true, true, false, false, false] rfl rfl (one_of HT_.out (by kernel_rfl)) (by decide) (fun K hK => ?_)
 refine goes_ Try.func66 (by kernel_rfl) rfl #[.slice Ao26 y249.length co26, .int .i64 2, .slice Ao27 t252.length co27] (by rfl) rfl rfl ga ?_
 with_reducible refine (spec_PutTlv.calls k _ _ y249 2 _ _ t252 t255 _ ?side1 ?side2 ?side3 ?side4 A11.out).mono ?_
 (case side1 => repeat (first | exact (Kd.R_reads' HO251.out).2.2 | (with_reducible refine Kd.C_alloc ?_ _) | (with_reducible refine Kd.C_drewN ?_ _) | (with_reducible refine Kd.C_drew ?_)))
 (case side2 => exact (Kd.R_reads' HO251.out).2.1)
 (case side3 => repeat (first | exact (Kd.R_reads' HO254.out).2.2 | (with_reducible refine Kd.C_alloc ?_ _) | (with_reducible refine Kd.C_drewN ?_ _) | (with_reducible refine Kd.C_drew ?_)))
 (case side4 => exact (Kd.R_reads' HO254.out).2.1)
 rintro e w28 ⟨v256, rfl, ho0, hb⟩
 refine ⟨_, rfl, ?_⟩
 have n_ := ak6 (Kd.R_elder' (kqR HO245.out) (Kd.R_base ho0) hb) (Kd.R_elder' (kqR HO251.out) (Kd.R_base ho0) hb) (Kd.R_elder' (kqR HO254.out) (Kd.R_base ho0) hb) (Kd.R_lower (Kd.R_new' (Kd.R_new' (Kd.R_new' ho0 (Kd.R_lt (kqR HO245.out))) (Kd.R_lt (kqR HO251.out))) (Kd.R_lt (kqR HO254.out))) (below_size (bq1 HB.out GE242.out))) (blk_below (zb BK242.out) hb) (below_step (bq1 HB.out GE242.out) hb)
 clear HO245 HO251 HO254 BK242 HB
 obtain ⟨HO245, HO251, HO254, HO257, BK242, HB⟩ := n_
 (try clear hb ho0)
 refine hK.out _ _ ⟨(blk_cell BK242.out 0).trans rfl, (blk_cell BK242.out 1).trans rfl, (blk_cell BK242.out 2).trans rfl, (blk_cell BK242.out 3).trans rfl, (blk_cell BK242.out 4).trans rfl⟩ (fun hHeld => ?_)
 clear hK K
 refine norm_ (a' := ?_) ?_ ?_
 rotate_left
 · show Act.put _ (some 17) _ = _
   simp only [Act.put, List.setIfInBounds_toArray, List.set_cons_zero, List.set_cons_succ, i64_w, i32_w]
   rfl
 refine one_ (i := 7) (N := some 20) #[true, true, true, true, true, true, true, true, false, true, true, false, false, false] rfl rfl (one_of HT_.out (by kernel_rfl)) (by decide) (fun K hK => ?_)
 refine goes_ Try.func64 (by kernel_rfl) rfl #[.int .i64 a0_2] (by rfl) rfl rfl ga ?_
 with_reducible refine (spec_PutInt.calls k a0_2 t258 _ A12.out).mono ?_
 rintro e w29 ⟨v259, rfl, ho0, hb⟩
 refine ⟨_, rfl, ?_⟩
 have n_ := ak7 (Kd.R_elder' (kqR HO245.out) (Kd.R_base ho0) hb) (Kd.R_elder' (kqR HO251.out) (Kd.R_base ho0) hb) (Kd.R_elder' (kqR HO254.out) (Kd.R_base ho0) hb) (Kd.R_elder' (kqR HO257.out) (Kd.R_base ho0) hb) (Kd.R_lower (Kd.R_new' (Kd.R_new' (Kd.R_new' (Kd.R_new' ho0 (Kd.R_lt (kqR HO245.out))) (Kd.R_lt (kqR HO251.out))) (Kd.R_lt (kqR HO254.out))) (Kd.R_lt (kqR HO257.out))) (below_size (bq1 HB.out GE242.out))) (blk_below (zb BK242.out) hb) (below_step (bq1 HB.out GE242.out) hb)
 clear HO245 HO251 HO254 HO257 BK242 HB
 obtain ⟨HO245, HO251, HO254, HO257, HO260, BK242, HB⟩ := n_
 (try clear hb ho0)
 obtain ⟨Ao30, co30, eo30⟩ := Kd.R_slice HO257.out
 (first | subst eo30 | (injection eo30 with f1_ f2_ f3_; have f4_ := f1_.symm; have f5_ := f3_.symm; clear f1_ f2_ f3_; subst f4_; subst f5_))
 obtain ⟨Ao31, co31, eo31⟩ := Kd.R_slice HO260.out
 (first | subst eo31 | (injection eo31 with f1_ f2_ f3_; have f4_ := f1_.symm; have f5_ := f3_.symm; clear f1_ f2_ f3_; subst f4_; subst f5_))
 refine hK.out _ _ ⟨(blk_cell BK242.out 0).trans rfl, (blk_cell BK242.out 1).trans rfl, (blk_cell BK242.out 2).trans rfl, (blk_cell BK242.out 3).trans rfl, (blk_cell BK242.out 4).trans rfl⟩ (fun hHeld => ?_)
 clear hK K
 refine norm_ (a' := ?_) ?_ ?_
 rotate_left
 · show Act.put _ (some 20) _ = _
   simp only [Act.put, List.setIfInBounds_toArray, List.set_cons_zero, List.set_cons_succ, i64_w, i32_w]
   rfl
 refine one_ (i := 8) (N := some 21) #[true, true, true, true, true, true, true, true, true, true, true, false, false, false] rfl rfl (one_of HT_.out (by kernel_rfl)) (by decide) (fun K hK => ?_)
 refine goes_ Try.func66 (by kernel_rfl) rfl #[.slice Ao30 t255.length co30, .int .i64 2, .slice Ao31 t258.length co31] (by rfl) rfl rfl ga ?_
 with_reducible refine (spec_PutTlv.calls k _ _ t255 2 _ _ t258 t261 _ ?side1 ?side2 ?side3 ?side4 A13.out).mono ?_
 (case side1 => repeat (first | exact (Kd.R_reads' HO257.out).2.2 | (with_reducible refine Kd.C_alloc ?_ _) | (with_reducible refine Kd.C_drewN ?_ _) | (with_reducible refine Kd.C_drew ?_)))
 (case side2 => exact (Kd.R_reads' HO257.out).2.1)
 (case side3 => repeat (first | exact (Kd.R_reads' HO260.out).2.2 | (with_reducible refine Kd.C_alloc ?_ _) | (with_reducible refine Kd.C_drewN ?_ _) | (with_reducible refine Kd.C_drew ?_)))
 (case side4 => exact (Kd.R_reads' HO260.out).2.1)
 rintro e w32 ⟨v262, rfl, ho0, hb⟩
 refine ⟨_, rfl, ?_⟩
 have n_ := ak8 (Kd.R_elder' (kqR HO245.out) (Kd.R_base ho0) hb) (Kd.R_elder' (kqR HO251.out) (Kd.R_base ho0) hb) (Kd.R_elder' (kqR HO254.out) (Kd.R_base ho0) hb) (Kd.R_elder' (kqR HO257.out) (Kd.R_base ho0) hb) (Kd.R_elder' (kqR HO260.out) (Kd.R_base ho0) hb) (Kd.R_lower (Kd.R_new' (Kd.R_new' (Kd.R_new' (Kd.R_new' (Kd.R_new' ho0 (Kd.R_lt (kqR HO245.out))) (Kd.R_lt (kqR HO251.out))) (Kd.R_lt (kqR HO254.out))) (Kd.R_lt (kqR HO257.out))) (Kd.R_lt (kqR HO260.out))) (below_size (bq1 HB.out GE242.out))) (blk_below (zb BK242.out) hb) (below_step (bq1 HB.out GE242.out) hb)
 clear HO245 HO251 HO254 HO257 HO260 BK242 HB
 obtain ⟨HO245, HO251, HO254, HO257, HO260, HO263, BK242, HB⟩ := n_
 (try clear hb ho0)
 refine hK.out _ _ ⟨(blk_cell BK242.out 0).trans rfl, (blk_cell BK242.out 1).trans rfl, (blk_cell BK242.out 2).trans rfl, (blk_cell BK242.out 3).trans rfl, (blk_cell BK242.out 4).trans rfl⟩ (fun hHeld => ?_)
 clear hK K
 refine norm_ (a' := ?_) ?_ ?_
 rotate_left
 · show Act.put _ (some 21) _ = _
   simp only [Act.put, List.setIfInBounds_toArray, List.set_cons_zero, List.set_cons_succ, i64_w, i32_w]
   rfl
 refine one_ (i := 11) (N := some 24) #[true, true, true, true, true, true, true, true, true, true, true, true, false, false] rfl rfl (one_of HT_.out (by kernel_rfl)) (by decide) (fun K hK => ?_)
 refine goes_ Try.func64 (by kernel_rfl) rfl #[.int .i64 a0_3] (by rfl) rfl rfl ga ?_
 with_reducible refine (spec_PutInt.calls k a0_3 t264 _ A14.out).mono ?_
 rintro e w33 ⟨v265, rfl, ho0, hb⟩
 refine ⟨_, rfl, ?_⟩
 have n_ := ak9 (Kd.R_elder' (kqR HO245.out) (Kd.R_base ho0) hb) (Kd.R_elder' (kqR HO251.out) (Kd.R_base ho0) hb) (Kd.R_elder' (kqR HO254.out) (Kd.R_base ho0) hb) (Kd.R_elder' (kqR HO257.out) (Kd.R_base ho0) hb) (Kd.R_elder' (kqR HO260.out) (Kd.R_base ho0) hb) (Kd.R_elder' (kqR HO263.out) (Kd.R_base ho0) hb) (Kd.R_lower (Kd.R_new' (Kd.R_new' (Kd.R_new' (Kd.R_new' (Kd.R_new' (Kd.R_new' ho0 (Kd.R_lt (kqR HO245.out))) (Kd.R_lt (kqR HO251.out))) (Kd.R_lt (kqR HO254.out))) (Kd.R_lt (kqR HO257.out))) (Kd.R_lt (kqR HO260.out))) (Kd.R_lt (kqR HO263.out))) (below_size (bq1 HB.out GE242.out))) (blk_below (zb BK242.out) hb) (below_step (bq1 HB.out GE242.out) hb)
 clear HO245 HO251 HO254 HO257 HO260 HO263 BK242 HB
 obtain ⟨HO245, HO251, HO254, HO257, HO260, HO263, HO266, BK242, HB⟩ := n_
 (try clear hb ho0)
 obtain ⟨Ao34, co34, eo34⟩ := Kd.R_slice HO263.out
 (first | subst eo34 | (injection eo34 with f1_ f2_ f3_; have f4_ := f1_.symm; have f5_ := f3_.symm; clear f1_ f2_ f3_; subst f4_; subst f5_))
 obtain ⟨Ao35, co35, eo35⟩ := Kd.R_slice HO266.out
 (first | subst eo35 | (injection eo35 with f1_ f2_ f3_; have f4_ := f1_.symm; have f5_ := f3_.symm; clear f1_ f2_ f3_; subst f4_; subst f5_))
 refine hK.out _ _ ⟨(blk_cell BK242.out 0).trans rfl, (blk_cell BK242.out 1).trans rfl, (blk_cell BK242.out 2).trans rfl, (blk_cell BK242.out 3).trans rfl, (blk_cell BK242.out 4).trans rfl⟩ (fun hHeld => ?_)
 clear hK K
 refine norm_ (a' := ?_) ?_ ?_
 rotate_left
 · show Act.put _ (some 24) _ = _
   simp only [Act.put, List.setIfInBounds_toArray, List.set_cons_zero, List.set_cons_succ, i64_w, i32_w]
   rfl
 refine one_ (i := 12) (N := some 25) #[true, true, true, true, true, true, true, true, true, true, true, true, true, false] rfl rfl (one_of HT_.out (by kernel_rfl)) (by decide) (fun K hK => ?_)
 refine goes_ Try.func66 (by kernel_rfl) rfl #[.slice Ao34 t261.length co34, .int .i64 2, .slice Ao35 t264.length co35] (by rfl) rfl rfl ga ?_
 with_reducible refine (spec_PutTlv.calls k _ _ t261 2 _ _ t264 t267 _ ?side1 ?side2 ?side3 ?side4 A15.out).mono ?_
 (case side1 => repeat (first | exact (Kd.R_reads' HO263.out).2.2 | (with_reducible refine Kd.C_alloc ?_ _) | (with_reducible refine Kd.C_drewN ?_ _) | (with_reducible refine Kd.C_drew ?_)))
 (case side2 => exact (Kd.R_reads' HO263.out).2.1)
 (case side3 => repeat (first | exact (Kd.R_reads' HO266.out).2.2 | (with_reducible refine Kd.C_alloc ?_ _) | (with_reducible refine Kd.C_drewN ?_ _) | (with_reducible refine Kd.C_drew ?_)))
 (case side4 => exact (Kd.R_reads' HO266.out).2.1)
 rintro e w36 ⟨v268, rfl, ho0, hb⟩
 refine ⟨_, rfl, ?_⟩
 have n_ := ak10 (Kd.R_elder' (kqR HO245.out) (Kd.R_base ho0) hb) (Kd.R_elder' (kqR HO251.out) (Kd.R_base ho0) hb) (Kd.R_elder' (kqR HO254.out) (Kd.R_base ho0) hb) (Kd.R_elder' (kqR HO257.out) (Kd.R_base ho0) hb) (Kd.R_elder' (kqR HO260.out) (Kd.R_base ho0) hb) (Kd.R_elder' (kqR HO263.out) (Kd.R_base ho0) hb) (Kd.R_elder' (kqR HO266.out) (Kd.R_base ho0) hb) (Kd.R_lower (Kd.R_new' (Kd.R_new' (Kd.R_new' (Kd.R_new' (Kd.R_new' (Kd.R_new' (Kd.R_new' ho0 (Kd.R_lt (kqR HO245.out))) (Kd.R_lt (kqR HO251.out))) (Kd.R_lt (kqR HO254.out))) (Kd.R_lt (kqR HO257.out))) (Kd.R_lt (kqR HO260.out))) (Kd.R_lt (kqR HO263.out))) (Kd.R_lt (kqR HO266.out))) (below_size (bq1 HB.out GE242.out))) (blk_below (zb BK242.out) hb) (below_step (bq1 HB.out GE242.out) hb)
 clear HO245 HO251 HO254 HO257 HO260 HO263 HO266 BK242 HB
 obtain ⟨HO245, HO251, HO254, HO257, HO260, HO263, HO266, HO269, BK242, HB⟩ := n_
 (try clear hb ho0)
 refine hK.out _ _ ⟨(blk_cell BK242.out 0).trans rfl, (blk_cell BK242.out 1).trans rfl, (blk_cell BK242.out 2).trans rfl, (blk_cell BK242.out 3).trans rfl, (blk_cell BK242.out 4).trans rfl⟩ (fun hHeld => ?_)
 clear hK K
 refine norm_ (a' := ?_) ?_ ?_
 rotate_left
 · show Act.put _ (some 25) _ = _
   simp only [Act.put, List.setIfInBounds_toArray, List.set_cons_zero, List.set_cons_succ, i64_w, i32_w]
   rfl
 refine pu 13 (some 5) #[true, true, true, true, true, true, true, true, true, true, true, true, true, true] rfl rfl (any_of HT_.out (by kernel_rfl)) (Or.inl ⟨by rfl, by intro w'; go_simp; with_reducible rfl⟩) ?_
 refine done_ (done_of HT_.out (by kernel_rfl)) ?_
 obtain ⟨Ao37, co37, eo37⟩ := Kd.R_slice HO269.out
 subst eo37
 try go_wp2_with (first | ((with_reducible refine gate_callee (f := 66) rfl ?_); refine goesL_ (some 28) rfl rfl Try.func66 (by kernel_rfl) rfl #[.slice Ao37 t267.length co37, .int .i64 48, .slice Ao20 t243.length co20] rfl ga ?_; (with_reducible refine (spec_PutTlv.calls k _ _ t267 48 _ _ t243 t270 _ ?side1 ?side2 ?side3 ?side4 A16.out).mono ?_); (case side1 => repeat (first | exact (Kd.R_reads' HO269.out).2.2 | (with_reducible refine Kd.C_alloc ?_ _) | (with_reducible refine Kd.C_drewN ?_ _) | (with_reducible refine Kd.C_drew ?_))); (case side2 => exact (Kd.R_reads' HO269.out).2.1); (case side3 => repeat (first | exact (Kd.R_reads' HO245.out).2.2 | (with_reducible refine Kd.C_alloc ?_ _) | (with_reducible refine Kd.C_drewN ?_ _) | (with_reducible refine Kd.C_drew ?_))); (case side4 => exact (Kd.R_reads' HO245.out).2.1); rintro e w38 ⟨v271, rfl, ho0, hb⟩; refine ⟨_, rfl, ?_⟩; have n_ := ak11 (Kd.R_elder' (kqR HO245.out) (Kd.R_base ho0) hb) (Kd.R_elder' (kqR HO251.out) (Kd.R_base ho0) hb) (Kd.R_elder' (kqR HO254.out) (Kd.R_base ho0) hb) (Kd.R_elder' (kqR HO257.out) (Kd.R_base ho0) hb) (Kd.R_elder' (kqR HO260.out) (Kd.R_base ho0) hb) (Kd.R_elder' (kqR HO263.out) (Kd.R_base ho0) hb) (Kd.R_elder' (kqR HO266.out) (Kd.R_base ho0) hb) (Kd.R_elder' (kqR HO269.out) (Kd.R_base ho0) hb) (Kd.R_lower (Kd.R_new' (Kd.R_new' (Kd.R_new' (Kd.R_new' (Kd.R_new' (Kd.R_new' (Kd.R_new' (Kd.R_new' ho0 (Kd.R_lt (kqR HO245.out))) (Kd.R_lt (kqR HO251.out))) (Kd.R_lt (kqR HO254.out))) (Kd.R_lt (kqR HO257.out))) (Kd.R_lt (kqR HO260.out))) (Kd.R_lt (kqR HO263.out))) (Kd.R_lt (kqR HO266.out))) (Kd.R_lt (kqR HO269.out))) (below_size (bq1 HB.out GE242.out))) (blk_below (zb BK242.out) hb) (below_step (bq1 HB.out GE242.out) hb); clear HO245 HO251 HO254 HO257 HO260 HO263 HO266 HO269 BK242 HB; obtain ⟨HO245, HO251, HO254, HO257, HO260, HO263, HO266, HO269, HO272, BK242, HB⟩ := n_; (try clear hb ho0); obtain ⟨Ao39, co39, eo39⟩ := Kd.R_slice HO272.out; subst eo39))
 go_ret2
 exact ⟨_, rq, by refine kr ?_; exact Kd.R_mono HO272.out (fun _ hk => trivial), bq1 HB.out GE242.out⟩

/-! ### spec_PutPdu: function 39 -/
def spec_PutPdu.f (k : Nat) (a0_0 : Int) (a0_1 : Int) (a0_2 : Int) (a0_3 : Int) (l0_4 : List (S116)) : Option (List Int) := (spec_PduOk.f k a0_0 a0_1 a0_2 a0_3 l0_4).bind fun t274 => (if t274 = true then ((spec_l4Body.f k a0_0 a0_1 a0_2 a0_3 l0_4).bind fun bt278 => (if bt278.2 = true then ((spec_PutTlv.f k (([] : List Int)) a0_0 bt278.1).bind fun t285 => (some t285)) else (some (([] : List Int))))) else (some (([] : List Int))))
theorem spec_PutPdu.mono : ∀ a0 a1 a2 a3 a4 k, LeO (spec_PutPdu.f k a0 a1 a2 a3 a4) (spec_PutPdu.f (k + 1) a0 a1 a2 a3 a4) := by
 intro a0 a1 a2 a3 a4 k
 unfold spec_PutPdu.f
 repeat' first
  | (with_reducible exact spec_PduOk.mono _ _ _ _ _ _)
  | (with_reducible exact spec_PutTlv.mono _ _ _ _)
  | (with_reducible exact spec_l4Body.mono _ _ _ _ _ _)
  | (with_reducible exact LeO.refl _)
  | (with_reducible exact LeO.none _)
  | (with_reducible refine LeO.ite ?_ ?_)
  | (with_reducible refine LeO.bind ?_ (fun _ => ?_))
  | exact spec_PduOk.mono _ _ _ _ _ _
  | exact spec_PutTlv.mono _ _ _ _
  | exact spec_l4Body.mono _ _ _ _ _ _
  | exact LeO.none _
  | refine LeO.ite ?_ ?_
  | refine LeO.bind ?_ (fun _ => ?_)
set_option maxHeartbeats 8000000 in
set_option maxRecDepth 100000 in
theorem spec_PutPdu.calls (k : Nat) (a0_0 : Int) (a0_1 : Int) (a0_2 : Int) (a0_3 : Int) (A0_4 : Option Addr) (c0_4 : Nat) (l0_4 : List (S116)) (r : List Int) (w : World) (hr0_4 : Kd.C k116 w A0_4 l0_4.length l0_4) (hc0_4 : l0_4.length ≤ c0_4) (h : spec_PutPdu.f k a0_0 a0_1 a0_2 a0_3 l0_4 = some r) :
 Calls Try.prog 39 #[.agg #[.int .i64 a0_0, .int .i64 a0_1, .int .i64 a0_2, .int .i64 a0_3, .slice A0_4 l0_4.length c0_4]] w fun e w' => ∃ v0_ : Value, e = .returned (v0_) ∧ Kd.R (Kd.int .u8) 5 w' w.heap.size (fun _ => True) v0_ r ∧ Below w.heap.size w w' := by
 have hu58 := Try.underlying58
 have HR0_4 := am hr0_4
 have HC0_4 := am hc0_4
 clear hr0_4 hc0_4
 have HB := am (Below.refl w.heap.size w)
 have H : ((spec_PduOk.f k a0_0 a0_1 a0_2 a0_3 l0_4).bind fun t274 => (if t274 = true then ((spec_l4Body.f k a0_0 a0_1 a0_2 a0_3 l0_4).bind fun bt278 => (if bt278.2 = true then ((spec_PutTlv.f k (([] : List Int)) a0_0 bt278.1).bind fun t285 => (some t285)) else (some (([] : List Int))))) else (some (([] : List Int))))) = some r := h
 clear h
 replace H := Option.bind_eq_some_iff.mp H
 obtain ⟨t274, A20, H⟩ := H
 replace H : (if t274 = true then ((spec_l4Body.f k a0_0 a0_1 a0_2 a0_3 l0_4).bind fun bt278 => (if bt278.2 = true then ((spec_PutTlv.f k (([] : List Int)) a0_0 bt278.1).bind fun t285 => (some t285)) else (some (([] : List Int))))) else (some (([] : List Int)))) = some r := H
 have A2 := am A20
 clear A20
 by_cases c3 : t274 = true
 rotate_left
 · replace c3 := Bool.eq_false_iff.mpr c3
   subst c3
   replace H : (some (([] : List Int))) = some r := by rw [if_neg (show ¬ (false = true) by decide)] at H; exact H
   obtain ⟨y275, hy275⟩ : ∃ y_ : List Int, y_ = (([] : List Int)) := ⟨_, rfl⟩
   replace H : (some y275) = some r := hx H hy275
   have Ny275 := am hy275
   clear hy275
   obtain rfl := Option.some.inj H
   go_enter Try.func39, Try.ntmps39
   go_wp2_with (first | ((with_reducible refine gate_dst (N := 1) rfl ?_); refine bxe 1 #[.int .i64 a0_0, .int .i64 a0_1, .int .i64 a0_2, .int .i64 a0_3, .slice A0_4 l0_4.length c0_4] 58 ?_; intro gb273 hg w25 hbox hb; have n_ := ak4 (below_step (bq HB.out) hb) hbox ((by rw [hg]; exact (below_size (bq HB.out)) : w.heap.size ≤ gb273)) ((by rw [hg]; exact (below_size (bq HB.out)) : w.heap.size ≤ gb273)); clear HB; obtain ⟨HB, BK273, GW273, GE273⟩ := n_; clear hb hbox hg; obtain ⟨hcz26_0, hcz26_1, hcz26_2, hcz26_3, hcz26_4, hfz26_0, hfz26_1, hfz26_2, hfz26_3, hfz26_4⟩ := cl5 BK273.out) | ((with_reducible refine gate_callee (f := 96) rfl ?_); refine goesL_ (some 6) rfl rfl Try.func96 (by kernel_rfl) rfl #[.agg #[.int .i64 a0_0, .int .i64 a0_1, .int .i64 a0_2, .int .i64 a0_3, .slice A0_4 l0_4.length c0_4]] rfl ga ?_; (with_reducible refine (spec_PduOk.calls k a0_0 a0_1 a0_2 a0_3 _ _ l0_4 false _ ?side1 ?side2 A2.out).mono ?_); (case side1 => exact cq (Kd.C_below HR0_4.out HB.out)); (case side2 => exact HC0_4.out); rintro e w27 ⟨rfl, hb⟩; refine ⟨_, rfl, ?_⟩; have n_ := ak2 (blk_below (zb BK273.out) hb) (below_step (bq1 HB.out GE273.out) hb); clear BK273 HB; obtain ⟨BK273, HB⟩ := n_; (try clear hb)) | ((with_reducible refine gate_dst (N := 8) rfl ?_); refine Kd.R_lit (Kd.int .u8) _ 5 ?hg (N := 8) ?hd (xs := ([] : List Int)) (inner := []) (ok := fun _ => True) (okp := fun _ => True) ?hr ?hp (fun _ hk => hk) trivial (Below.refl _ _) (Nat.le_refl _) (by simp) ?_; (case hd => rfl); (case hg => rfl); (case hr => exact gs); (case hp => exact (Reps.none _ _)); intro v276 w28 ho29 hb hg_ hnew_; clear hg_ hnew_; (first | rw [← Ny275.out] at ho29 | (simp only [Int.reduceToNat] at ho29; rw [← Ny275.out] at ho29)); have n_ := ak3 (Kd.R_lower ho29 (below_size (bq1 HB.out GE273.out))) (blk_below (zb BK273.out) hb) (below_step (bq1 HB.out GE273.out) hb); clear BK273 HB; obtain ⟨HO277, BK273, HB⟩ := n_; clear hb ho29))
   go_ret
   exact ⟨_, rq, kqR HO277.out, bq1 HB.out GE273.out⟩
 subst c3
 replace H : ((spec_l4Body.f k a0_0 a0_1 a0_2 a0_3 l0_4).bind fun bt278 => (if bt278.2 = true then ((spec_PutTlv.f k (([] : List Int)) a0_0 bt278.1).bind fun t285 => (some t285)) else (some (([] : List Int))))) = some r := by rw [if_pos rfl] at H; exact H
 replace H := Option.bind_eq_some_iff.mp H
 obtain ⟨⟨t278, t281⟩, A40, H⟩ := H
 replace H : (if t281 = true then ((spec_PutTlv.f k (([] : List Int)) a0_0 t278).bind fun t285 => (some t285)) else (some (([] : List Int)))) = some r := H
 have A4 := am A40
 clear A40
 by_cases c5 : t281 = true
 rotate_left
 · replace c5 := Bool.eq_false_iff.mpr c5
   subst c5
   replace H : (some (([] : List Int))) = some r := by rw [if_neg (show ¬ (false = true) by decide)] at H; exact H
   obtain ⟨y288, hy288⟩ : ∃ y_ : List Int, y_ = (([] : List Int)) := ⟨_, rfl⟩
   replace H : (some y288) = some r := hx H hy288
   have Ny288 := am hy288
   clear hy288
   obtain rfl := Option.some.inj H
   go_enter Try.func39, Try.ntmps39
   go_wp2_with (first | ((with_reducible refine gate_dst (N := 1) rfl ?_); refine bxe 1 #[.int .i64 a0_0, .int .i64 a0_1, .int .i64 a0_2, .int .i64 a0_3, .slice A0_4 l0_4.length c0_4] 58 ?_; intro gb273 hg w18 hbox hb; have n_ := ak4 (below_step (bq HB.out) hb) hbox ((by rw [hg]; exact (below_size (bq HB.out)) : w.heap.size ≤ gb273)) ((by rw [hg]; exact (below_size (bq HB.out)) : w.heap.size ≤ gb273)); clear HB; obtain ⟨HB, BK273, GW273, GE273⟩ := n_; clear hb hbox hg; obtain ⟨hcz19_0, hcz19_1, hcz19_2, hcz19_3, hcz19_4, hfz19_0, hfz19_1, hfz19_2, hfz19_3, hfz19_4⟩ := cl5 BK273.out) | ((with_reducible refine gate_callee (f := 96) rfl ?_); refine goesL_ (some 6) rfl rfl Try.func96 (by kernel_rfl) rfl #[.agg #[.int .i64 a0_0, .int .i64 a0_1, .int .i64 a0_2, .int .i64 a0_3, .slice A0_4 l0_4.length c0_4]] rfl ga ?_; (with_reducible refine (spec_PduOk.calls k a0_0 a0_1 a0_2 a0_3 _ _ l0_4 true _ ?side1 ?side2 A2.out).mono ?_); (case side1 => exact cq (Kd.C_below HR0_4.out HB.out)); (case side2 => exact HC0_4.out); rintro e w20 ⟨rfl, hb⟩; refine ⟨_, rfl, ?_⟩; have n_ := ak2 (blk_below (zb BK273.out) hb) (below_step (bq1 HB.out GE273.out) hb); clear BK273 HB; obtain ⟨BK273, HB⟩ := n_; (try clear hb); obtain ⟨hcz21_0, hcz21_1, hcz21_2, hcz21_3, hcz21_4, hfz21_0, hfz21_1, hfz21_2, hfz21_3, hfz21_4⟩ := cl5 BK273.out) | ((with_reducible refine gate_callee (f := 97) rfl ?_); refine goesL_ (some 11) rfl rfl Try.func97 (by kernel_rfl) rfl #[.agg #[.int .i64 a0_0, .int .i64 a0_1, .int .i64 a0_2, .int .i64 a0_3, .slice A0_4 l0_4.length c0_4]] rfl ga ?_; (with_reducible refine (spec_l4Body.calls k a0_0 a0_1 a0_2 a0_3 _ _ l0_4 t278 false _ ?side1 ?side2 A4.out).mono ?_); (case side1 => exact cq (Kd.C_below HR0_4.out HB.out)); (case side2 => exact HC0_4.out); rintro e w22 ⟨v279, rfl, ho0, hb⟩; refine ⟨_, rfl, ?_⟩; have n_ := ak3 (Kd.R_lower ho0 (below_size (bq1 HB.out GE273.out))) (blk_below (zb BK273.out) hb) (below_step (bq1 HB.out GE273.out) hb); clear BK273 HB; obtain ⟨HO280, BK273, HB⟩ := n_; (try clear hb ho0)) | ((with_reducible refine gate_dst (N := 16) rfl ?_); refine Kd.R_lit (Kd.int .u8) _ 5 ?hg (N := 16) ?hd (xs := ([] : List Int)) (inner := []) (ok := fun _ => True) (okp := fun _ => True) ?hr ?hp (fun _ hk => hk) trivial (Below.refl _ _) (Nat.le_refl _) (by simp) ?_; (case hd => rfl); (case hg => rfl); (case hr => exact gs); (case hp => exact (Reps.none _ _)); intro v289 w23 ho24 hb hg_ hnew_; clear hg_ hnew_; (first | rw [← Ny288.out] at ho24 | (simp only [Int.reduceToNat] at ho24; rw [← Ny288.out] at ho24)); have n_ := ak4 (Kd.R_elder' (kqR HO280.out) (Kd.R_base ho24) hb) (Kd.R_lower (Kd.R_new' ho24 (Kd.R_lt (kqR HO280.out))) (below_size (bq1 HB.out GE273.out))) (blk_below (zb BK273.out) hb) (below_step (bq1 HB.out GE273.out) hb); clear HO280 BK273 HB; obtain ⟨HO280, HO290, BK273, HB⟩ := n_; clear hb ho24))
   go_ret
   exact ⟨_, rq, by refine kr ?_; exact Kd.R_mono HO290.out (fun _ hk => trivial), bq1 HB.out GE273.out⟩
 subst c5
 replace H : ((spec_PutTlv.f k (([] : List Int)) a0_0 t278).bind fun t285 => (some t285)) = some r := by rw [if_pos rfl] at H; exact H
 obtain ⟨y282, hy282⟩ : ∃ y_ : List Int, y_ = (([] : List Int)) := ⟨_, rfl⟩
 replace H : ((spec_PutTlv.f k y282 a0_0 t278).bind fun t285 => (some t285)) = some r := hx H hy282
 have Ny282 := am hy282
 clear hy282
 replace H := Option.bind_eq_some_iff.mp H
 obtain ⟨t285, A60, H⟩ := H
 replace H : (some t285) = some r := H
 have A6 := am A60
 clear A60
 obtain rfl := Option.some.inj H
 go_enter Try.func39, Try.ntmps39
 go_wp2_with (first | ((with_reducible refine gate_dst (N := 1) rfl ?_); refine bxe 1 #[.int .i64 a0_0, .int .i64 a0_1, .int .i64 a0_2, .int .i64 a0_3, .slice A0_4 l0_4.length c0_4] 58 ?_; intro gb273 hg w7 hbox hb; have n_ := ak4 (below_step (bq HB.out) hb) hbox ((by rw [hg]; exact (below_size (bq HB.out)) : w.heap.size ≤ gb273)) ((by rw [hg]; exact (below_size (bq HB.out)) : w.heap.size ≤ gb273)); clear HB; obtain ⟨HB, BK273, GW273, GE273⟩ := n_; clear hb hbox hg; obtain ⟨hcz8_0, hcz8_1, hcz8_2, hcz8_3, hcz8_4, hfz8_0, hfz8_1, hfz8_2, hfz8_3, hfz8_4⟩ := cl5 BK273.out) | ((with_reducible refine gate_callee (f := 96) rfl ?_); refine goesL_ (some 6) rfl rfl Try.func96 (by kernel_rfl) rfl #[.agg #[.int .i64 a0_0, .int .i64 a0_1, .int .i64 a0_2, .int .i64 a0_3, .slice A0_4 l0_4.length c0_4]] rfl ga ?_; (with_reducible refine (spec_PduOk.calls k a0_0 a0_1 a0_2 a0_3 _ _ l0_4 true _ ?side1 ?side2 A2.out).mono ?_); (case side1 => exact cq (Kd.C_below HR0_4.out HB.out)); (case side2 => exact HC0_4.out); rintro e w9 ⟨rfl, hb⟩; refine ⟨_, rfl, ?_⟩; have n_ := ak2 (blk_below (zb BK273.out) hb) (below_step (bq1 HB.out GE273.out) hb); clear BK273 HB; obtain ⟨BK273, HB⟩ := n_; (try clear hb); obtain ⟨hcz10_0, hcz10_1, hcz10_2, hcz10_3, hcz10_4, hfz10_0, hfz10_1, hfz10_2, hfz10_3, hfz10_4⟩ := cl5 BK273.out) | ((with_reducible refine gate_callee (f := 97) rfl ?_); refine goesL_ (some 11) rfl rfl Try.func97 (by kernel_rfl) rfl #[.agg #[.int .i64 a0_0, .int .i64 a0_1, .int .i64 a0_2, .int .i64 a0_3, .slice A0_4 l0_4.length c0_4]] rfl ga ?_; (with_reducible refine (spec_l4Body.calls k a0_0 a0_1 a0_2 a0_3 _ _ l0_4 t278 true _ ?side1 ?side2 A4.out).mono ?_); (case side1 => exact cq (Kd.C_below HR0_4.out HB.out)); (case side2 => exact HC0_4.out); rintro e w11 ⟨v279, rfl, ho0, hb⟩; refine ⟨_, rfl, ?_⟩; have n_ := ak3 (Kd.R_lower ho0 (below_size (bq1 HB.out GE273.out))) (blk_below (zb BK273.out) hb) (below_step (bq1 HB.out GE273.out) hb); clear BK273 HB; obtain ⟨HO280, BK273, HB⟩ := n_; (try clear hb ho0)) | ((with_reducible refine gate_dst (N := 17) rfl ?_); refine Kd.R_lit (Kd.int .u8) _ 5 ?hg (N := 17) ?hd (xs := ([] : List Int)) (inner := []) (ok := fun _ => True) (okp := fun _ => True) ?hr ?hp (fun _ hk => hk) trivial (Below.refl _ _) (Nat.le_refl _) (by simp) ?_; (case hd => rfl); (case hg => rfl); (case hr => exact gs); (case hp => exact (Reps.none _ _)); intro v283 w12 ho13 hb hg_ hnew_; clear hg_ hnew_; (first | rw [← Ny282.out] at ho13 | (simp only [Int.reduceToNat] at ho13; rw [← Ny282.out] at ho13)); have n_ := ak4 (Kd.R_elder' (kqR HO280.out) (Kd.R_base ho13) hb) (Kd.R_lower (Kd.R_new' ho13 (Kd.R_lt (kqR HO280.out))) (below_size (bq1 HB.out GE273.out))) (blk_below (zb BK273.out) hb) (below_step (bq1 HB.out GE273.out) hb); clear HO280 BK273 HB; obtain ⟨HO280, HO284, BK273, HB⟩ := n_; clear hb ho13; obtain ⟨hcz14_0, hcz14_1, hcz14_2, hcz14_3, hcz14_4, hfz14_0, hfz14_1, hfz14_2, hfz14_3, hfz14_4⟩ := cl5 BK273.out; obtain ⟨Ao15, co15, eo15⟩ := Kd.R_slice HO284.out; subst eo15; obtain ⟨Ao16, co16, eo16⟩ := Kd.R_slice HO280.out; subst eo16) | ((with_reducible refine gate_callee (f := 66) rfl ?_); refine goesL_ (some 21) rfl rfl Try.func66 (by kernel_rfl) rfl #[.slice Ao15 y282.length co15, .int .i64 a0_0, .slice Ao16 t278.length co16] rfl ga ?_; (with_reducible refine (spec_PutTlv.calls k _ _ y282 a0_0 _ _ t278 t285 _ ?side1 ?side2 ?side3 ?side4 A6.out).mono ?_); (case side1 => repeat (first | exact (Kd.R_reads' HO284.out).2.2 | (with_reducible refine Kd.C_alloc ?_ _) | (with_reducible refine Kd.C_drewN ?_ _) | (with_reducible refine Kd.C_drew ?_))); (case side2 => exact (Kd.R_reads' HO284.out).2.1); (case side3 => repeat (first | exact (Kd.R_reads' HO280.out).2.2 | (with_reducible refine Kd.C_alloc ?_ _) | (with_reducible refine Kd.C_drewN ?_ _) | (with_reducible refine Kd.C_drew ?_))); (case side4 => exact (Kd.R_reads' HO280.out).2.1); rintro e w17 ⟨v286, rfl, ho0, hb⟩; refine ⟨_, rfl, ?_⟩; have n_ := ak5 (Kd.R_elder' (kqR HO280.out) (Kd.R_base ho0) hb) (Kd.R_elder' (kqR HO284.out) (Kd.R_base ho0) hb) (Kd.R_lower (Kd.R_new' (Kd.R_new' ho0 (Kd.R_lt (kqR HO280.out))) (Kd.R_lt (kqR HO284.out))) (below_size (bq1 HB.out GE273.out))) (blk_below (zb BK273.out) hb) (below_step (bq1 HB.out GE273.out) hb); clear HO280 HO284 BK273 HB; obtain ⟨HO280, HO284, HO287, BK273, HB⟩ := n_; (try clear hb ho0)))
 go_ret
 exact ⟨_, rq, by refine kr ?_; exact Kd.R_mono HO287.out (fun _ hk => trivial), bq1 HB.out GE273.out⟩

/-! ### laws_toIntS: function 67 -/
def laws_toIntS.l0 : Nat → List Int → List Int → Int → Option (List Int)
 | 0, _, _, _ => none
 | k + 1, x0, x3, x4 => if x4 < (x0.length : Int) then (if 0 ≤ x4 then (if x4 < (x3.length : Int) then (laws_toIntS.l0 k x0 (x3.set (x4 : Int).toNat (rd x0 x4)) (wrap64 (x4 + 1))) else (none)) else (none)) else (some x3)
def laws_toIntS.f (k : Nat) (l0 : List Int) : Option (List Int) := if 0 ≤ (l0.length : Int) then (if ((l0.length : Int) : Int).toNat ≤ 35184372088832 then (laws_toIntS.l0 k l0 (List.replicate ((l0.length : Int) : Int).toNat 0) 0) else (none)) else (none)
theorem laws_toIntS.mono_l : ∀ k, (∀ y0 y1 y2, LeO (laws_toIntS.l0 k y0 y1 y2) (laws_toIntS.l0 (k + 1) y0 y1 y2))
 | 0 => fun _ _ _ r h => by simp [laws_toIntS.l0] at h
 | k + 1 => by
  have ih0 := laws_toIntS.mono_l k
  intro y0 y1 y2
  unfold laws_toIntS.l0
  repeat' first
  | (with_reducible exact ih0 _ _ _)
  | (with_reducible exact LeO.refl _)
  | (with_reducible exact LeO.none _)
  | (with_reducible refine LeO.ite ?_ ?_)
  | (with_reducible refine LeO.bind ?_ (fun _ => ?_))
  | exact ih0 _ _ _
  | exact LeO.none _
  | refine LeO.ite ?_ ?_
  | refine LeO.bind ?_ (fun _ => ?_)
theorem laws_toIntS.mono : ∀ a0 k, LeO (laws_toIntS.f k a0) (laws_toIntS.f (k + 1) a0) := by
 intro a0 k
 have ih0 := laws_toIntS.mono_l k
 unfold laws_toIntS.f
 repeat' first
  | (with_reducible exact ih0 _ _ _)
  | (with_reducible exact LeO.refl _)
  | (with_reducible exact LeO.none _)
  | (with_reducible refine LeO.ite ?_ ?_)
  | (with_reducible refine LeO.bind ?_ (fun _ => ?_))
  | exact ih0 _ _ _
  | exact LeO.none _
  | refine LeO.ite ?_ ?_
  | refine LeO.bind ?_ (fun _ => ?_)
set_option maxHeartbeats 8000000 in
set_option maxRecDepth 100000 in
theorem laws_toIntS.calls (k : Nat) (A0 : Option Addr) (c0 : Nat) (l0 : List Int) (r : List Int) (w : World) (hr0 : Kd.C (Kd.int .i64) w A0 l0.length l0) (hc0 : l0.length ≤ c0) (h : laws_toIntS.f k l0 = some r) :
 Calls Try.prog 67 #[.slice A0 l0.length c0] w fun e w' => ∃ v0_ : Value, e = .returned (v0_) ∧ Kd.R (Kd.int .i64) 3 w' w.heap.size (fun _ => True) v0_ r ∧ Below w.heap.size w w' := by
 have HR0 := am hr0
 have HC0 := am hc0
 clear hr0 hc0
 have HB := am (Below.refl w.heap.size w)
 have H : (if 0 ≤ (l0.length : Int) then (if ((l0.length : Int) : Int).toNat ≤ 35184372088832 then (laws_toIntS.l0 k l0 (List.replicate ((l0.length : Int) : Int).toNat 0) 0) else (none)) else (none)) = some r := h
 clear h
 by_cases c2 : 0 ≤ (l0.length : Int)
 rotate_left
 · rw [if_neg c2] at H
   exact absurd H (by simp)
 rw [if_pos c2] at H
 have c2b0 := eq_true c2
 have c2b1 : decide (0 ≤ (l0.length : Int)) = true := decide_eq_true c2
 clear c2
 by_cases c3 : ((l0.length : Int) : Int).toNat ≤ 35184372088832
 rotate_left
 · rw [if_neg c3] at H
   exact absurd H (by simp)
 rw [if_pos c3] at H
 have c3b0 := eq_true c3
 have c3b1 : decide (((l0.length : Int) : Int).toNat ≤ 35184372088832) = true := decide_eq_true c3
 clear c3
 obtain ⟨y291, hy291⟩ : ∃ y_ : List Int, y_ = (List.replicate ((l0.length : Int) : Int).toNat 0) := ⟨_, rfl⟩
 replace H : (laws_toIntS.l0 k l0 y291 0) = some r := hx H hy291
 have Ny291 := am hy291
 clear hy291
 have H' := am H
 clear H
 go_enter Try.func67, Try.ntmps67
 go_wp2_with (first | ((with_reducible refine gate_dst (N := 7) rfl ?_); refine Kd.R_make (Kd.int .i64) _ 3 rfl (N := 7) rfl 23 _ _ rfl (l0.length : Int) rfl rfl Try.underlying23 (.int .i64 0) 8 info3 rfl (by decide) (by omega) 0 (ok := fun _ => True) (okp := fun _ => True) rfl (fun _ hk => hk) trivial (oda) (Nat.le_trans (Nat.mul_le_mul_right _ (oda : (l0.length : Int).toNat ≤ 35184372088832)) (by omega)) (Below.refl _ _) (Nat.le_refl _) ?_; intro v292 w4 ho5 hb hg_ hnew_; clear hg_ hnew_; (first | rw [← Ny291.out] at ho5 | (simp only [Int.reduceToNat] at ho5; rw [← Ny291.out] at ho5)); have n_ := ak2 (Kd.R_lower ho5 (below_size (bq HB.out))) (below_step (bq HB.out) hb); clear HB; obtain ⟨HO293, HB⟩ := n_; clear hb ho5))
 go_loopg [4] k (fun kq v4 w' => ∃ (x3_1 : List Int) (x4_1 : Int), v4 = .int .i64 x4_1 ∧ Aside0 (laws_toIntS.l0 kq l0 x3_1 x4_1 = some r) ∧ Aside0 (kq ≤ k) ∧ Aside0 (Kd.R (Kd.int .i64) 3 w' w.heap.size (fun _ => True) v292 x3_1) ∧ Aside0 (Below w.heap.size w w'))
 case atStart => exact ⟨(y291), (0), sq, H', ⟨Nat.le_refl _⟩, ⟨kqR HO293.out⟩, ⟨bq HB.out⟩⟩
 case round =>
  clear H'
  try clear c2
  try clear c2b0
  try clear c2b1
  try clear p2
  try clear c3
  try clear c3b0
  try clear c3b1
  obtain ⟨x3_1, x4_1, rfl, HA, HK1, HO_3, HB⟩ := hrel
  cases gk with
  | zero => exact absurd HA.out (by simp [laws_toIntS.l0])
  | succ k1 =>
   have H := HA.out
   clear HA
   simp only [laws_toIntS.l0] at H
   by_cases c6 : x4_1 < (l0.length : Int)
   rotate_left
   · rw [if_neg c6] at H
     have c6b0 : decide (x4_1 < (l0.length : Int)) = false := decide_eq_false c6
     clear c6
     obtain rfl := Option.some.inj H
     go_wp2
     go_ret
     exact ⟨_, rq, kqR HO_3.out, bq HB.out⟩
   rw [if_pos c6] at H
   have c6b0 : decide (x4_1 < (l0.length : Int)) = true := decide_eq_true c6
   clear c6
   by_cases c7 : 0 ≤ x4_1
   rotate_left
   · rw [if_neg c7] at H
     exact absurd H (by simp)
   rw [if_pos c7] at H
   have c7b0 : decide (0 ≤ x4_1) = true := decide_eq_true c7
   clear c7
   by_cases c8 : x4_1 < (x3_1.length : Int)
   rotate_left
   · rw [if_neg c8] at H
     exact absurd H (by simp)
   rw [if_pos c8] at H
   have c8b0 : decide (x4_1 < (x3_1.length : Int)) = true := decide_eq_true c8
   clear c8
   obtain ⟨y295, hy295⟩ : ∃ y_ : List Int, y_ = (x3_1.set (x4_1 : Int).toNat (rd l0 x4_1)) := ⟨_, rfl⟩
   replace H : (laws_toIntS.l0 k1 l0 y295 (wrap64 (x4_1 + 1))) = some r := hx H hy295
   have Ny295 := am hy295
   clear hy295
   have H' := am H
   clear H
   have p294 : 0 ≤ (x4_1 : Int) := oda
   have q294 : x4_1 < (l0.length : Int) := oda
   obtain ⟨ad294, e294, hx294_0⟩ := Kd.at_int HR0.out x4_1 p294 q294
   cases e294
   replace hx294_0 := (HB.out.cell (World.block_lt_of_cell? w _ hx294_0)).trans hx294_0
   replace p294 := eq_true p294
   replace q294 := eq_true q294
   have p9 : 0 ≤ (x4_1 : Int) := oda
   have q9 : (x4_1 : Int) < ((x3_1.length : Int) : Int) := oda
   obtain ⟨go9, co9, eo9, gb9, gl9, cl9, HG9⟩ := Kd.R_form HO_3.out (by omega)
   (first | cases eo9 | (injection eo9 with ea_ en_ ec_; (first | subst ea_ | (injection ea_ with ea_; subst ea_)); subst ec_; clear en_))
   have GB9 := am gb9
   have GG9 := am HG9
   clear gb9 gl9 HG9
   obtain ⟨hx9_0, hf9_0⟩ := Kd.R_celln 0 HO_3.out (x4_1 : Int) p9 q9
   replace p9 := eq_true p9
   replace q9 := eq_true q9
   have HP10 := Kd.R_putg HO_3.out (x4_1 : Int) (rd l0 x4_1)
   go_wp2_with (first | ((with_reducible refine gate_store (t := 3) (p := 20) rfl ?_); refine store_event (t := 3) (p := 20) (v := ?vo_w11) (w1 := (wr.setCell ⟨go9, (x4_1 : Int).toNat, none⟩ (.int .i64 (rd l0 x4_1)))) ?hg ?ho ?hn ?hr ?_; (case ho => rfl); (case hg => rfl); (case hn => rfl); (case hr => exact gs); intro w11 hw; have hg : wr.grownBy w11 (some go9) := (by rw [hw]; exact HP10.2); have hp_ : Kd.R (Kd.int .i64) 3 w11 w.heap.size (fun _ => True) (.slice (some ⟨go9, 0, none⟩) x3_1.length co9) y295 := (by rw [hw, Ny295.out]; exact HP10.1); clear HP10; have n_ := ak2 hp_ ((by rw [hw]; exact below_set (HB.out) GB9.out : Below w.heap.size w w11)); clear HO_3 HB; obtain ⟨HO_3, HB⟩ := n_; clear hg hw hp_))
   go_roundg k1
   case measure => have := HK1.out; omega
   case rel => exact ⟨(y295), (wrap64 (x4_1 + 1)), sq, H', ⟨by have := HK1.out; omega⟩, ⟨kqR HO_3.out⟩, ⟨bq HB.out⟩⟩

/-! ### laws_toVal: function 16 -/
def laws_toVal.f (k : Nat) (a0_0 : Int) (a0_1 : Int) (a0_2 : ByteArray) (l0_3 : List Int) : Option (Int × Int × ByteArray × List Int) := (laws_toIntS.f k l0_3).bind fun t299 => (some (a0_0, a0_1, a0_2, t299))
theorem laws_toVal.mono : ∀ a0 a1 a2 a3 k, LeO (laws_toVal.f k a0 a1 a2 a3) (laws_toVal.f (k + 1) a0 a1 a2 a3) := by
 intro a0 a1 a2 a3 k
 unfold laws_toVal.f
 repeat' first
  | (with_reducible exact laws_toIntS.mono _ _)
  | (with_reducible exact LeO.refl _)
  | (with_reducible exact LeO.none _)
  | (with_reducible refine LeO.ite ?_ ?_)
  | (with_reducible refine LeO.bind ?_ (fun _ => ?_))
  | exact laws_toIntS.mono _ _
  | exact LeO.none _
  | refine LeO.ite ?_ ?_
  | refine LeO.bind ?_ (fun _ => ?_)
set_option maxHeartbeats 8000000 in
set_option maxRecDepth 100000 in
theorem laws_toVal.calls (k : Nat) (a0_0 : Int) (a0_1 : Int) (a0_2 : ByteArray) (A0_3 : Option Addr) (c0_3 : Nat) (l0_3 : List Int) (r1 : Int) (r2 : Int) (r3 : ByteArray) (r4 : List Int) (w : World) (hr0_3 : Kd.C (Kd.int .i64) w A0_3 l0_3.length l0_3) (hc0_3 : l0_3.length ≤ c0_3) (h : laws_toVal.f k a0_0 a0_1 a0_2 l0_3 = some (r1, r2, r3, r4)) :
 Calls Try.prog 16 #[.agg #[.int .i64 a0_0, .int .i64 a0_1, .string a0_2, .slice A0_3 l0_3.length c0_3]] w fun e w' => ∃ v3_ : Value, e = .returned (.agg #[.int .i64 r1, .int .i64 r2, .string r3, v3_]) ∧ Kd.R (Kd.int .i64) 3 w' w.heap.size (fun _ => True) v3_ r4 ∧ Below w.heap.size w w' := by
 have hu25 := Try.underlying25
 have hu29 := Try.underlying29
 have HR0_3 := am hr0_3
 have HC0_3 := am hc0_3
 clear hr0_3 hc0_3
 have HB := am (Below.refl w.heap.size w)
 have H : ((laws_toIntS.f k l0_3).bind fun t299 => (some (a0_0, a0_1, a0_2, t299))) = some (r1, r2, r3, r4) := h
 clear h
 replace H := Option.bind_eq_some_iff.mp H
 obtain ⟨t299, A20, H⟩ := H
 replace H : (some (a0_0, a0_1, a0_2, t299)) = some (r1, r2, r3, r4) := H
 have A2 := am A20
 clear A20
 simp only [Option.some.injEq, Prod.mk.injEq] at H
 obtain ⟨rfl, rfl, rfl, rfl⟩ := H
 go_enter Try.func16, Try.ntmps16
 go_wp2_with (first | ((with_reducible refine gate_dst (N := 1) rfl ?_); refine bxe 1 #[.int .i64 a0_0, .int .i64 a0_1, .string a0_2, .slice A0_3 l0_3.length c0_3] 25 ?_; intro gb296 hg w3 hbox hb; have n_ := ak4 (below_step (bq HB.out) hb) hbox ((by rw [hg]; exact (below_size (bq HB.out)) : w.heap.size ≤ gb296)) ((by rw [hg]; exact (below_size (bq HB.out)) : w.heap.size ≤ gb296)); clear HB; obtain ⟨HB, BK296, GW296, GE296⟩ := n_; clear hb hbox hg) | ((with_reducible refine gate_dst (N := 2) rfl ?_); refine bxe 2 #[.int .i64 0, .int .i64 0, .string (⟨#[]⟩ : ByteArray), .slice none 0 0] 29 ?_; intro gb297 hg w4 hbox hb; have n_ := ak7 (blk_below (zb BK296.out) hb) (below_step (bq1 HB.out GE296.out) hb) hbox ((by rw [hg]; exact (below_size (bq1 HB.out GE296.out)) : w.heap.size ≤ gb297)) ((by rw [hg]; exact (below_size (bq1 HB.out GE296.out)) : w.heap.size ≤ gb297)) ((nlt hg (zb BK296.out) : gb296 ≠ gb297)) ((ngt hg (zb BK296.out) : gb297 ≠ gb296)); clear BK296 HB; obtain ⟨BK296, HB, BK297, GW297, GE297, NB296_297, NB297_296⟩ := n_; clear hb hbox hg) | ((with_reducible refine gate_dst (N := 3) rfl ?_); refine bxe 3 #[.int .i64 0, .int .i64 0, .string (⟨#[]⟩ : ByteArray), .slice none 0 0] 29 ?_; intro gb298 hg w5 hbox hb; have n_ := ak10 (blk_below (zb BK296.out) hb) (blk_below (zb BK297.out) hb) (below_step (bq2 HB.out GE296.out GE297.out) hb) hbox ((by rw [hg]; exact (below_size (bq2 HB.out GE296.out GE297.out)) : w.heap.size ≤ gb298)) ((by rw [hg]; exact (below_size (bq2 HB.out GE296.out GE297.out)) : w.heap.size ≤ gb298)) ((nlt hg (zb BK296.out) : gb296 ≠ gb298)) ((ngt hg (zb BK296.out) : gb298 ≠ gb296)) ((nlt hg (zb BK297.out) : gb297 ≠ gb298)) ((ngt hg (zb BK297.out) : gb298 ≠ gb297)); clear BK296 BK297 HB; obtain ⟨BK296, BK297, HB, BK298, GW298, GE298, NB296_298, NB298_296, NB297_298, NB298_297⟩ := n_; clear hb hbox hg; have hnb6 := NB296_297.out; have hnc6 := NB297_296.out; have hnb7 := NB296_298.out; have hnc7 := NB298_296.out; obtain ⟨hcz8_0, hcz8_1, hcz8_2, hcz8_3, hfz8_0, hfz8_1, hfz8_2, hfz8_3⟩ := cl4 BK296.out; have hnb9 := NB298_297.out; have hnc9 := NB297_298.out; obtain ⟨hcz10_0, hcz10_1, hcz10_2, hcz10_3, hfz10_0, hfz10_1, hfz10_2, hfz10_3⟩ := cl4 BK298.out) | ((with_reducible refine gate_store (t := 9) (p := 12) rfl ?_); refine store_event (t := 9) (p := 12) (v := ?vo_w11) (w1 := (((w5.setCell ⟨gb298, 0, none⟩ (.int .i64 a0_0)).setCell ⟨gb298, 1, none⟩ (.int .i64 a0_1)).setCell ⟨gb298, 2, none⟩ (.string a0_2))) ?hg ?ho ?hn ?hr ?_; (case ho => rfl); (case hg => rfl); (case hn => rfl); (case hr => exact gs); intro w11 hw; have n_ : Aside0 (w11.heap[gb296]? = some (.cells #[.int .i64 a0_0, .int .i64 a0_1, .string a0_2, .slice A0_3 l0_3.length c0_3] 25 (0, 0))) ∧ Aside0 (w11.heap[gb297]? = some (.cells #[.int .i64 0, .int .i64 0, .string (⟨#[]⟩ : ByteArray), .slice none 0 0] 29 (0, 0))) ∧ Aside0 (w11.heap[gb298]? = some (.cells #[.int .i64 a0_0, .int .i64 a0_1, .string a0_2, .slice none 0 0] 29 (0, 0))) ∧ Aside0 (Below w.heap.size w w11) := ⟨⟨(by rw [hw]; exact (by refine zr ?_; refine blk_far ?_ NB296_298.out _; refine zr ?_; refine blk_far ?_ NB296_298.out _; refine zr ?_; refine blk_far ?_ NB296_298.out _; refine zr ?_; exact BK296.out))⟩, ⟨(by rw [hw]; exact (by refine zr ?_; refine blk_far ?_ NB297_298.out _; refine zr ?_; refine blk_far ?_ NB297_298.out _; refine zr ?_; refine blk_far ?_ NB297_298.out _; refine zr ?_; exact BK297.out))⟩, ⟨(by rw [hw]; exact (by refine zr ?_; refine blk_put (cs := #[.int .i64 a0_0, .int .i64 a0_1, .string (⟨#[]⟩ : ByteArray), .slice none 0 0]) ?_ 2 _ rfl; refine zr ?_; refine blk_put (cs := #[.int .i64 a0_0, .int .i64 0, .string (⟨#[]⟩ : ByteArray), .slice none 0 0]) ?_ 1 _ rfl; refine zr ?_; refine blk_put (cs := #[.int .i64 0, .int .i64 0, .string (⟨#[]⟩ : ByteArray), .slice none 0 0]) ?_ 0 _ rfl; refine zr ?_; exact BK298.out))⟩, ⟨(by rw [hw]; exact (bq3 HB.out GE296.out GE297.out GE298.out))⟩⟩; clear hw BK296 BK297 BK298 HB; obtain ⟨BK296, BK297, BK298, HB⟩ := n_; obtain ⟨hcz12_0, hcz12_1, hcz12_2, hcz12_3, hfz12_0, hfz12_1, hfz12_2, hfz12_3⟩ := cl4 BK296.out) | ((with_reducible refine gate_callee (f := 67) rfl ?_); refine goesL_ (some 15) rfl rfl Try.func67 (by kernel_rfl) rfl #[.slice A0_3 l0_3.length c0_3] rfl ga ?_; (with_reducible refine (laws_toIntS.calls k _ _ l0_3 t299 _ ?side1 ?side2 A2.out).mono ?_); (case side1 => exact cq (Kd.C_below HR0_3.out HB.out)); (case side2 => exact HC0_3.out); rintro e w13 ⟨v300, rfl, ho0, hb⟩; refine ⟨_, rfl, ?_⟩; have n_ := ak5 (Kd.R_lower ho0 (below_size (bq3 HB.out GE296.out GE297.out GE298.out))) (blk_below (zb BK296.out) hb) (blk_below (zb BK297.out) hb) (blk_below (zb BK298.out) hb) (below_step (bq3 HB.out GE296.out GE297.out GE298.out) hb); clear BK296 BK297 BK298 HB; obtain ⟨HO301, BK296, BK297, BK298, HB⟩ := n_; (try clear hb ho0); obtain ⟨Ao14, co14, eo14⟩ := Kd.R_slice HO301.out; subst eo14; obtain ⟨hcz15_0, hcz15_1, hcz15_2, hcz15_3, hfz15_0, hfz15_1, hfz15_2, hfz15_3⟩ := cl4 BK298.out; obtain ⟨hcz16_0, hcz16_1, hcz16_2, hcz16_3, hfz16_0, hfz16_1, hfz16_2, hfz16_3⟩ := cl4 BK297.out) | ((with_reducible refine gate_store (t := 29) (p := 2) rfl ?_); refine store_event (t := 29) (p := 2) (v := ?vo_w17) (w1 := (((((w13.setCell ⟨gb298, 3, none⟩ (.slice Ao14 t299.length co14)).setCell ⟨gb297, 0, none⟩ (.int .i64 a0_0)).setCell ⟨gb297, 1, none⟩ (.int .i64 a0_1)).setCell ⟨gb297, 2, none⟩ (.string a0_2)).setCell ⟨gb297, 3, none⟩ (.slice Ao14 t299.length co14))) ?hg ?ho ?hn ?hr ?_; (case ho => rfl); (case hg => rfl); (case hn => rfl); (case hr => exact gs); intro w17 hw; have n_ : Aside0 (Kd.R (Kd.int .i64) 3 w17 w.heap.size (fun _ => True) (.slice Ao14 t299.length co14) t299) ∧ Aside0 (w17.heap[gb296]? = some (.cells #[.int .i64 a0_0, .int .i64 a0_1, .string a0_2, .slice A0_3 l0_3.length c0_3] 25 (0, 0))) ∧ Aside0 (w17.heap[gb297]? = some (.cells #[.int .i64 a0_0, .int .i64 a0_1, .string a0_2, .slice Ao14 t299.length co14] 29 (0, 0))) ∧ Aside0 (w17.heap[gb298]? = some (.cells #[.int .i64 a0_0, .int .i64 a0_1, .string a0_2, .slice Ao14 t299.length co14] 29 (0, 0))) ∧ Aside0 (Below w.heap.size w w17) := ⟨⟨(by rw [hw]; exact (by refine kr ?_; exact Kd.R_mono (rf4 gb297 (.int .i64 a0_0) (.int .i64 a0_1) (.string a0_2) (.slice Ao14 t299.length co14) (Kd.R_far (p := ⟨gb298, 3, none⟩) (Kd.R_types (Kd.R_types HO301.out BK298.out (by decide)) BK297.out (by decide)) (fun _ hk => hk.1.2) (.slice Ao14 t299.length co14)) (fun _ hk => hk.2)) (fun _ hk => trivial)))⟩, ⟨(by rw [hw]; exact (by refine zr ?_; refine blk_far ?_ NB296_297.out _; refine zr ?_; refine blk_far ?_ NB296_297.out _; refine zr ?_; refine blk_far ?_ NB296_297.out _; refine zr ?_; refine blk_far ?_ NB296_297.out _; refine zr ?_; refine blk_far ?_ NB296_298.out _; refine zr ?_; exact BK296.out))⟩, ⟨(by rw [hw]; exact (by refine zr ?_; refine blk_put (cs := #[.int .i64 a0_0, .int .i64 a0_1, .string a0_2, .slice none 0 0]) ?_ 3 _ rfl; refine zr ?_; refine blk_put (cs := #[.int .i64 a0_0, .int .i64 a0_1, .string (⟨#[]⟩ : ByteArray), .slice none 0 0]) ?_ 2 _ rfl; refine zr ?_; refine blk_put (cs := #[.int .i64 a0_0, .int .i64 0, .string (⟨#[]⟩ : ByteArray), .slice none 0 0]) ?_ 1 _ rfl; refine zr ?_; refine blk_put (cs := #[.int .i64 0, .int .i64 0, .string (⟨#[]⟩ : ByteArray), .slice none 0 0]) ?_ 0 _ rfl; refine zr ?_; refine blk_far ?_ NB297_298.out _; refine zr ?_; exact BK297.out))⟩, ⟨(by rw [hw]; exact (by refine zr ?_; refine blk_far ?_ NB298_297.out _; refine zr ?_; refine blk_far ?_ NB298_297.out _; refine zr ?_; refine blk_far ?_ NB298_297.out _; refine zr ?_; refine blk_far ?_ NB298_297.out _; refine zr ?_; refine blk_put (cs := #[.int .i64 a0_0, .int .i64 a0_1, .string a0_2, .slice none 0 0]) ?_ 3 _ rfl; refine zr ?_; exact BK298.out))⟩, ⟨(by rw [hw]; exact (bq3 HB.out GE296.out GE297.out GE298.out))⟩⟩; clear hw HO301 BK296 BK297 BK298 HB; obtain ⟨HO301, BK296, BK297, BK298, HB⟩ := n_))
 refine bodyPost_ret (results_cell_row rfl _ _ gb297 29 #[.int .i64 a0_0, .int .i64 a0_1, .string a0_2, .slice Ao14 t299.length co14] (0, 0) _ rfl (zq BK297.out) Try.underlying29 rfl (by kernel_rfl)) rfl ?_
 exact ⟨_, rq, kqR HO301.out, bq3 HB.out GE296.out GE297.out GE298.out⟩

/-! ### laws_toBind: function 129 -/
def laws_toBind.f (k : Nat) (l0_0 : List Int) (a0_1 : Int) (a0_2 : Int) (a0_3 : ByteArray) (l0_4 : List Int) : Option (List Int × Int × Int × ByteArray × List Int) := (laws_toIntS.f k l0_0).bind fun t305 => ((laws_toVal.f k a0_1 a0_2 a0_3 l0_4).bind fun bt308 => (some (t305, bt308.1, bt308.2.1, bt308.2.2.1, bt308.2.2.2)))
theorem laws_toBind.mono : ∀ a0 a1 a2 a3 a4 k, LeO (laws_toBind.f k a0 a1 a2 a3 a4) (laws_toBind.f (k + 1) a0 a1 a2 a3 a4) := by
 intro a0 a1 a2 a3 a4 k
 unfold laws_toBind.f
 repeat' first
  | (with_reducible exact laws_toIntS.mono _ _)
  | (with_reducible exact laws_toVal.mono _ _ _ _ _)
  | (with_reducible exact LeO.refl _)
  | (with_reducible exact LeO.none _)
  | (with_reducible refine LeO.ite ?_ ?_)
  | (with_reducible refine LeO.bind ?_ (fun _ => ?_))
  | exact laws_toIntS.mono _ _
  | exact laws_toVal.mono _ _ _ _ _
  | exact LeO.none _
  | refine LeO.ite ?_ ?_
  | refine LeO.bind ?_ (fun _ => ?_)
set_option maxHeartbeats 8000000 in
set_option maxRecDepth 100000 in
theorem laws_toBind.calls (k : Nat) (A0_0 : Option Addr) (c0_0 : Nat) (l0_0 : List Int) (a0_1 : Int) (a0_2 : Int) (a0_3 : ByteArray) (A0_4 : Option Addr) (c0_4 : Nat) (l0_4 : List Int) (r1 : List Int) (r2 : Int) (r3 : Int) (r4 : ByteArray) (r5 : List Int) (w : World) (hr0_0 : Kd.C (Kd.int .i64) w A0_0 l0_0.length l0_0) (hc0_0 : l0_0.length ≤ c0_0) (hr0_4 : Kd.C (Kd.int .i64) w A0_4 l0_4.length l0_4) (hc0_4 : l0_4.length ≤ c0_4) (h : laws_toBind.f k l0_0 a0_1 a0_2 a0_3 l0_4 = some (r1, r2, r3, r4, r5)) :
 Calls Try.prog 129 #[.agg #[.slice A0_0 l0_0.length c0_0, .int .i64 a0_1, .int .i64 a0_2, .string a0_3, .slice A0_4 l0_4.length c0_4]] w fun e w' => ∃ v0_ v4_ : Value, e = .returned (.agg #[v0_, .int .i64 r2, .int .i64 r3, .string r4, v4_]) ∧ Kd.R (Kd.int .i64) 3 w' w.heap.size (fun k_ => some k_ ≠ (v4_ : Value).ownBlock) v0_ r1 ∧ Kd.R (Kd.int .i64) 3 w' w.heap.size (fun k_ => some k_ ≠ (v0_ : Value).ownBlock) v4_ r5 ∧ Below w.heap.size w w' := by
 have hu140 := Try.underlying140
 have hu116 := Try.underlying116
 have hu25 := Try.underlying25
 have hu29 := Try.underlying29
 have HR0_0 := am hr0_0
 have HC0_0 := am hc0_0
 clear hr0_0 hc0_0
 have HR0_4 := am hr0_4
 have HC0_4 := am hc0_4
 clear hr0_4 hc0_4
 have HB := am (Below.refl w.heap.size w)
 have H : ((laws_toIntS.f k l0_0).bind fun t305 => ((laws_toVal.f k a0_1 a0_2 a0_3 l0_4).bind fun bt308 => (some (t305, bt308.1, bt308.2.1, bt308.2.2.1, bt308.2.2.2)))) = some (r1, r2, r3, r4, r5) := h
 clear h
 replace H := Option.bind_eq_some_iff.mp H
 obtain ⟨t305, A20, H⟩ := H
 replace H : ((laws_toVal.f k a0_1 a0_2 a0_3 l0_4).bind fun bt308 => (some (t305, bt308.1, bt308.2.1, bt308.2.2.1, bt308.2.2.2))) = some (r1, r2, r3, r4, r5) := H
 have A2 := am A20
 clear A20
 replace H := Option.bind_eq_some_iff.mp H
 obtain ⟨⟨t308, t309, t310, t311⟩, A30, H⟩ := H
 replace H : (some (t305, t308, t309, t310, t311)) = some (r1, r2, r3, r4, r5) := H
 have A3 := am A30
 clear A30
 simp only [Option.some.injEq, Prod.mk.injEq] at H
 obtain ⟨rfl, rfl, rfl, rfl, rfl⟩ := H
 go_enter Try.func129, Try.ntmps129
 go_wp2_with (first | ((with_reducible refine gate_dst (N := 1) rfl ?_); refine bxe 1 #[.slice A0_0 l0_0.length c0_0, .int .i64 a0_1, .int .i64 a0_2, .string a0_3, .slice A0_4 l0_4.length c0_4] 140 ?_; intro gb302 hg w4 hbox hb; have n_ := ak4 (below_step (bq HB.out) hb) hbox ((by rw [hg]; exact (below_size (bq HB.out)) : w.heap.size ≤ gb302)) ((by rw [hg]; exact (below_size (bq HB.out)) : w.heap.size ≤ gb302)); clear HB; obtain ⟨HB, BK302, GW302, GE302⟩ := n_; clear hb hbox hg) | ((with_reducible refine gate_dst (N := 2) rfl ?_); refine bxe 2 #[.slice none 0 0, .int .i64 0, .int .i64 0, .string (⟨#[]⟩ : ByteArray), .slice none 0 0] 116 ?_; intro gb303 hg w5 hbox hb; have n_ := ak7 (blk_below (zb BK302.out) hb) (below_step (bq1 HB.out GE302.out) hb) hbox ((by rw [hg]; exact (below_size (bq1 HB.out GE302.out)) : w.heap.size ≤ gb303)) ((by rw [hg]; exact (below_size (bq1 HB.out GE302.out)) : w.heap.size ≤ gb303)) ((nlt hg (zb BK302.out) : gb302 ≠ gb303)) ((ngt hg (zb BK302.out) : gb303 ≠ gb302)); clear BK302 HB; obtain ⟨BK302, HB, BK303, GW303, GE303, NB302_303, NB303_302⟩ := n_; clear hb hbox hg) | ((with_reducible refine gate_dst (N := 3) rfl ?_); refine bxe 3 #[.slice none 0 0, .int .i64 0, .int .i64 0, .string (⟨#[]⟩ : ByteArray), .slice none 0 0] 116 ?_; intro gb304 hg w6 hbox hb; have n_ := ak10 (blk_below (zb BK302.out) hb) (blk_below (zb BK303.out) hb) (below_step (bq2 HB.out GE302.out GE303.out) hb) hbox ((by rw [hg]; exact (below_size (bq2 HB.out GE302.out GE303.out)) : w.heap.size ≤ gb304)) ((by rw [hg]; exact (below_size (bq2 HB.out GE302.out GE303.out)) : w.heap.size ≤ gb304)) ((nlt hg (zb BK302.out) : gb302 ≠ gb304)) ((ngt hg (zb BK302.out) : gb304 ≠ gb302)) ((nlt hg (zb BK303.out) : gb303 ≠ gb304)) ((ngt hg (zb BK303.out) : gb304 ≠ gb303)); clear BK302 BK303 HB; obtain ⟨BK302, BK303, HB, BK304, GW304, GE304, NB302_304, NB304_302, NB303_304, NB304_303⟩ := n_; clear hb hbox hg; have hnb7 := NB302_303.out; have hnc7 := NB303_302.out; have hnb8 := NB302_304.out; have hnc8 := NB304_302.out; obtain ⟨hcz9_0, hcz9_1, hcz9_2, hcz9_3, hcz9_4, hfz9_0, hfz9_1, hfz9_2, hfz9_3, hfz9_4⟩ := cl5 BK302.out) | ((with_reducible refine gate_callee (f := 67) rfl ?_); refine goesL_ (some 6) rfl rfl Try.func67 (by kernel_rfl) rfl #[.slice A0_0 l0_0.length c0_0] rfl ga ?_; (with_reducible refine (laws_toIntS.calls k _ _ l0_0 t305 _ ?side1 ?side2 A2.out).mono ?_); (case side1 => exact cq (Kd.C_below HR0_0.out HB.out)); (case side2 => exact HC0_0.out); rintro e w10 ⟨v306, rfl, ho0, hb⟩; refine ⟨_, rfl, ?_⟩; have n_ := ak5 (Kd.R_lower ho0 (below_size (bq3 HB.out GE302.out GE303.out GE304.out))) (blk_below (zb BK302.out) hb) (blk_below (zb BK303.out) hb) (blk_below (zb BK304.out) hb) (below_step (bq3 HB.out GE302.out GE303.out GE304.out) hb); clear BK302 BK303 BK304 HB; obtain ⟨HO307, BK302, BK303, BK304, HB⟩ := n_; (try clear hb ho0); obtain ⟨Ao11, co11, eo11⟩ := Kd.R_slice HO307.out; subst eo11; have hnb12 := NB304_303.out; have hnc12 := NB303_304.out; obtain ⟨hcz13_0, hcz13_1, hcz13_2, hcz13_3, hcz13_4, hfz13_0, hfz13_1, hfz13_2, hfz13_3, hfz13_4⟩ := cl5 BK304.out; obtain ⟨hcz14_0, hcz14_1, hcz14_2, hcz14_3, hcz14_4, hfz14_0, hfz14_1, hfz14_2, hfz14_3, hfz14_4⟩ := cl5 BK302.out) | ((with_reducible refine gate_callee (f := 16) rfl ?_); refine goesL_ (some 10) rfl rfl Try.func16 (by kernel_rfl) rfl #[.agg #[.int .i64 a0_1, .int .i64 a0_2, .string a0_3, .slice A0_4 l0_4.length c0_4]] rfl ga ?_; (with_reducible refine (laws_toVal.calls k a0_1 a0_2 a0_3 _ _ l0_4 t308 t309 t310 t311 _ ?side1 ?side2 A3.out).mono ?_); (case side1 => exact Kd.C_below HR0_4.out (bq3 HB.out GE302.out GE303.out GE304.out)); (case side2 => exact HC0_4.out); rintro e w15 ⟨v312, rfl, ho0, hb⟩; refine ⟨_, rfl, ?_⟩; have n_ := ak6 (Kd.R_elder' (by refine kr ?_; exact (Kd.R_mono (Kd.R_far (p := ⟨gb304, 0, none⟩) (Kd.R_types HO307.out BK304.out (by decide)) (fun _ hk => hk.2) (.slice Ao11 t305.length co11)) (fun _ h_ => h_.1))) (Kd.R_base ho0) hb) (Kd.R_lower (Kd.R_new' ho0 (Kd.R_lt (by refine kr ?_; exact (Kd.R_mono (Kd.R_far (p := ⟨gb304, 0, none⟩) (Kd.R_types HO307.out BK304.out (by decide)) (fun _ hk => hk.2) (.slice Ao11 t305.length co11)) (fun _ h_ => h_.1))))) (below_size (bq3 HB.out GE302.out GE303.out GE304.out))) (blk_below (g := gb302) (o := .cells #[.slice A0_0 l0_0.length c0_0, .int .i64 a0_1, .int .i64 a0_2, .string a0_3, .slice A0_4 l0_4.length c0_4] 140 (0, 0)) (by refine zr ?_; refine blk_far ?_ NB302_304.out _; refine zr ?_; exact BK302.out) hb) (blk_below (g := gb303) (o := .cells #[.slice none 0 0, .int .i64 0, .int .i64 0, .string (⟨#[]⟩ : ByteArray), .slice none 0 0] 116 (0, 0)) (by refine zr ?_; refine blk_far ?_ NB303_304.out _; refine zr ?_; exact BK303.out) hb) (blk_below (g := gb304) (o := .cells #[.slice Ao11 t305.length co11, .int .i64 0, .int .i64 0, .string (⟨#[]⟩ : ByteArray), .slice none 0 0] 116 (0, 0)) (by refine zr ?_; refine blk_put (cs := #[.slice none 0 0, .int .i64 0, .int .i64 0, .string (⟨#[]⟩ : ByteArray), .slice none 0 0]) ?_ 0 _ rfl; refine zr ?_; exact BK304.out) hb) (below_step (bq3 HB.out GE302.out GE303.out GE304.out) hb); clear HO307 BK302 BK303 BK304 HB; obtain ⟨HO307, HO313, BK302, BK303, BK304, HB⟩ := n_; (try clear hb ho0); obtain ⟨hcz16_0, hcz16_1, hcz16_2, hcz16_3, hcz16_4, hfz16_0, hfz16_1, hfz16_2, hfz16_3, hfz16_4⟩ := cl5 BK304.out; obtain ⟨Ao17, co17, eo17⟩ := Kd.R_slice HO313.out; subst eo17) | ((with_reducible refine gate_store (t := 29) (p := 11) rfl ?_); refine store_event (t := 29) (p := 11) (v := ?vo_w18) (w1 := ((((w15.setCell ⟨gb304, 1, none⟩ (.int .i64 t308)).setCell ⟨gb304, 2, none⟩ (.int .i64 t309)).setCell ⟨gb304, 3, none⟩ (.string t310)).setCell ⟨gb304, 4, none⟩ (.slice Ao17 t311.length co17))) ?hg ?ho ?hn ?hr ?_; (case ho => rfl); (case hg => rfl); (case hn => rfl); (case hr => exact gs); intro w18 hw; have n_ : Aside0 (Kd.R (Kd.int .i64) 3 w18 w.heap.size (fun k_ => some k_ ≠ (.slice Ao17 t311.length co17 : Value).ownBlock) (.slice Ao11 t305.length co11) t305) ∧ Aside0 (Kd.R (Kd.int .i64) 3 w18 w.heap.size (fun k_ => some k_ ≠ (.slice Ao11 t305.length co11 : Value).ownBlock) (.slice Ao17 t311.length co17) t311) ∧ Aside0 (w18.heap[gb302]? = some (.cells #[.slice A0_0 l0_0.length c0_0, .int .i64 a0_1, .int .i64 a0_2, .string a0_3, .slice A0_4 l0_4.length c0_4] 140 (0, 0))) ∧ Aside0 (w18.heap[gb303]? = some (.cells #[.slice none 0 0, .int .i64 0, .int .i64 0, .string (⟨#[]⟩ : ByteArray), .slice none 0 0] 116 (0, 0))) ∧ Aside0 (w18.heap[gb304]? = some (.cells #[.slice Ao11 t305.length co11, .int .i64 t308, .int .i64 t309, .string t310, .slice Ao17 t311.length co17] 116 (0, 0))) ∧ Aside0 (Below w.heap.size w w18) := ⟨⟨(by rw [hw]; exact (by refine kr ?_; exact Kd.R_mono (Kd.R_far (p := ⟨gb304, 4, none⟩) (Kd.R_far (p := ⟨gb304, 3, none⟩) (Kd.R_far (p := ⟨gb304, 2, none⟩) (Kd.R_far (p := ⟨gb304, 1, none⟩) (Kd.R_types HO307.out BK304.out (by decide)) (fun _ hk => hk.2) (.int .i64 t308)) (fun _ hk => hk.2) (.int .i64 t309)) (fun _ hk => hk.2) (.string t310)) (fun _ hk => hk.2) (.slice Ao17 t311.length co17)) (fun _ hk => hk.1.2)))⟩, ⟨(by rw [hw]; exact (by refine kr ?_; exact Kd.R_mono (Kd.R_far (p := ⟨gb304, 4, none⟩) (Kd.R_far (p := ⟨gb304, 3, none⟩) (Kd.R_far (p := ⟨gb304, 2, none⟩) (Kd.R_far (p := ⟨gb304, 1, none⟩) (Kd.R_types HO313.out BK304.out (by decide)) (fun _ hk => hk.2) (.int .i64 t308)) (fun _ hk => hk.2) (.int .i64 t309)) (fun _ hk => hk.2) (.string t310)) (fun _ hk => hk.2) (.slice Ao17 t311.length co17)) (fun _ hk => hk.1.2)))⟩, ⟨(by rw [hw]; exact (by refine zr ?_; refine blk_far ?_ NB302_304.out _; refine zr ?_; refine blk_far ?_ NB302_304.out _; refine zr ?_; refine blk_far ?_ NB302_304.out _; refine zr ?_; refine blk_far ?_ NB302_304.out _; refine zr ?_; exact BK302.out))⟩, ⟨(by rw [hw]; exact (by refine zr ?_; refine blk_far ?_ NB303_304.out _; refine zr ?_; refine blk_far ?_ NB303_304.out _; refine zr ?_; refine blk_far ?_ NB303_304.out _; refine zr ?_; refine blk_far ?_ NB303_304.out _; refine zr ?_; exact BK303.out))⟩, ⟨(by rw [hw]; exact (by refine zr ?_; refine blk_put (cs := #[.slice Ao11 t305.length co11, .int .i64 t308, .int .i64 t309, .string t310, .slice none 0 0]) ?_ 4 _ rfl; refine zr ?_; refine blk_put (cs := #[.slice Ao11 t305.length co11, .int .i64 t308, .int .i64 t309, .string (⟨#[]⟩ : ByteArray), .slice none 0 0]) ?_ 3 _ rfl; refine zr ?_; refine blk_put (cs := #[.slice Ao11 t305.length co11, .int .i64 t308, .int .i64 0, .string (⟨#[]⟩ : ByteArray), .slice none 0 0]) ?_ 2 _ rfl; refine zr ?_; refine blk_put (cs := #[.slice Ao11 t305.length co11, .int .i64 0, .int .i64 0, .string (⟨#[]⟩ : ByteArray), .slice none 0 0]) ?_ 1 _ rfl; refine zr ?_; exact BK304.out))⟩, ⟨(by rw [hw]; exact (bq3 HB.out GE302.out GE303.out GE304.out))⟩⟩; clear hw HO307 HO313 BK302 BK303 BK304 HB; obtain ⟨HO307, HO313, BK302, BK303, BK304, HB⟩ := n_; obtain ⟨hcz19_0, hcz19_1, hcz19_2, hcz19_3, hcz19_4, hfz19_0, hfz19_1, hfz19_2, hfz19_3, hfz19_4⟩ := cl5 BK304.out; obtain ⟨hcz20_0, hcz20_1, hcz20_2, hcz20_3, hcz20_4, hfz20_0, hfz20_1, hfz20_2, hfz20_3, hfz20_4⟩ := cl5 BK303.out) | ((with_reducible refine gate_store (t := 116) (p := 2) rfl ?_); refine store_event (t := 116) (p := 2) (v := ?vo_w21) (w1 := (((((w18.setCell ⟨gb303, 0, none⟩ (.slice Ao11 t305.length co11)).setCell ⟨gb303, 1, none⟩ (.int .i64 t308)).setCell ⟨gb303, 2, none⟩ (.int .i64 t309)).setCell ⟨gb303, 3, none⟩ (.string t310)).setCell ⟨gb303, 4, none⟩ (.slice Ao17 t311.length co17))) ?hg ?ho ?hn ?hr ?_; (case ho => rfl); (case hg => rfl); (case hn => rfl); (case hr => exact gs); intro w21 hw; have n_ : Aside0 (Kd.R (Kd.int .i64) 3 w21 w.heap.size (fun k_ => some k_ ≠ (.slice Ao17 t311.length co17 : Value).ownBlock) (.slice Ao11 t305.length co11) t305) ∧ Aside0 (Kd.R (Kd.int .i64) 3 w21 w.heap.size (fun k_ => some k_ ≠ (.slice Ao11 t305.length co11 : Value).ownBlock) (.slice Ao17 t311.length co17) t311) ∧ Aside0 (w21.heap[gb302]? = some (.cells #[.slice A0_0 l0_0.length c0_0, .int .i64 a0_1, .int .i64 a0_2, .string a0_3, .slice A0_4 l0_4.length c0_4] 140 (0, 0))) ∧ Aside0 (w21.heap[gb303]? = some (.cells #[.slice Ao11 t305.length co11, .int .i64 t308, .int .i64 t309, .string t310, .slice Ao17 t311.length co17] 116 (0, 0))) ∧ Aside0 (w21.heap[gb304]? = some (.cells #[.slice Ao11 t305.length co11, .int .i64 t308, .int .i64 t309, .string t310, .slice Ao17 t311.length co17] 116 (0, 0))) ∧ Aside0 (Below w.heap.size w w21) := ⟨⟨(by rw [hw]; exact (by refine kr ?_; exact Kd.R_mono (rf5 gb303 (.slice Ao11 t305.length co11) (.int .i64 t308) (.int .i64 t309) (.string t310) (.slice Ao17 t311.length co17) (Kd.R_types HO307.out BK303.out (by decide)) (fun _ hk => hk.2)) (fun _ hk => hk.1)))⟩, ⟨(by rw [hw]; exact (by refine kr ?_; exact Kd.R_mono (rf5 gb303 (.slice Ao11 t305.length co11) (.int .i64 t308) (.int .i64 t309) (.string t310) (.slice Ao17 t311.length co17) (Kd.R_types HO313.out BK303.out (by decide)) (fun _ hk => hk.2)) (fun _ hk => hk.1)))⟩, ⟨(by rw [hw]; exact (by refine zr ?_; refine blk_far ?_ NB302_303.out _; refine zr ?_; refine blk_far ?_ NB302_303.out _; refine zr ?_; refine blk_far ?_ NB302_303.out _; refine zr ?_; refine blk_far ?_ NB302_303.out _; refine zr ?_; refine blk_far ?_ NB302_303.out _; refine zr ?_; exact BK302.out))⟩, ⟨(by rw [hw]; exact (by refine zr ?_; exact bp5 (zb BK303.out)))⟩, ⟨(by rw [hw]; exact (by refine zr ?_; refine blk_far ?_ NB304_303.out _; refine zr ?_; refine blk_far ?_ NB304_303.out _; refine zr ?_; refine blk_far ?_ NB304_303.out _; refine zr ?_; refine blk_far ?_ NB304_303.out _; refine zr ?_; refine blk_far ?_ NB304_303.out _; refine zr ?_; exact BK304.out))⟩, ⟨(by rw [hw]; exact (bq3 HB.out GE302.out GE303.out GE304.out))⟩⟩; clear hw HO307 HO313 BK302 BK303 BK304 HB; obtain ⟨HO307, HO313, BK302, BK303, BK304, HB⟩ := n_))
 refine bodyPost_ret (results_cell_row rfl _ _ gb303 116 #[.slice Ao11 t305.length co11, .int .i64 t308, .int .i64 t309, .string t310, .slice Ao17 t311.length co17] (0, 0) _ rfl (zq BK303.out) Try.underlying116 rfl (by kernel_rfl)) rfl ?_
 exact ⟨_, _, rq, kqR HO307.out, kqR HO313.out, bq3 HB.out GE302.out GE303.out GE304.out⟩

end Go.Proofs.Ythhnfmbfgplelaa.XFnExactPutPdu
