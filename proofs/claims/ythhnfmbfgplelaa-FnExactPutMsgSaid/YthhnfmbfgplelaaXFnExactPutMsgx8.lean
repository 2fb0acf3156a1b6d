/- The functions that one law reaches, as Lean functions, with their walks: printed by a program of this seat (wip/tools) out of the translation. -/
import Derived.Test.YthhnfmbfgplelaaXFnExactPutMsgx0
import Derived.Test.YthhnfmbfgplelaaXFnExactPutMsgx4
import Derived.Test.YthhnfmbfgplelaaXFnExactPutMsgx6
import Derived.Test.YthhnfmbfgplelaaXFnExactPutMsgx7
namespace Go.Proofs.Ythhnfmbfgplelaa.XFnExactPutMsg
open Go.RowKit Go.Proofs.YthhnfmbfgplelaaW.PrintWords Go.Proofs.YthhnfmbfgplelaaW.PrintLast Go.Proofs.YthhnfmbfgplelaaW.PrintMore
attribute [local go_sem] max2_int min2_int max_two min_two max_three min_three max_four min_four   -- for this text's walks alone
set_option linter.unusedVariables false
set_option linter.unusedSimpArgs false

/-! ### spec_l4Body: function 97 -/
def spec_l4Body.f (k : Nat) (a0_0 : Int) (a0_1 : Int) (a0_2 : Int) (a0_3 : Int) (l0_4 : List (S116)) : Option (List Int × Bool) := (spec_l4Binds.f k l0_4).bind fun t306 => (if (t306.length : Int) > 250 then (some ((([] : List Int)), false)) else ((spec_PutInt.f k a0_1).bind fun t315 => ((spec_PutTlv.f k (([] : List Int)) 2 t315).bind fun t318 => ((spec_PutInt.f k a0_2).bind fun t321 => ((spec_PutTlv.f k t318 2 t321).bind fun t324 => ((spec_PutInt.f k a0_3).bind fun t327 => ((spec_PutTlv.f k t324 2 t327).bind fun t330 => ((spec_PutTlv.f k t330 48 t306).bind fun t333 => (some (t333, decide ((t333.length : Int) ≤ 250)))))))))))
theorem spec_l4Body.mono : ∀ a0 a1 a2 a3 a4 k, LeO (spec_l4Body.f k a0 a1 a2 a3 a4) (spec_l4Body.f (k + 1) a0 a1 a2 a3 a4) := by
 intro a0 a1 a2 a3 a4 k
 unfold spec_l4Body.f
 repeat' first
  | (with_reducible exact spec_PutInt.mono _ _)
  | (with_reducible exact spec_PutTlv.mono _ _ _ _)
  | (with_reducible exact spec_l4Binds.mono _ _)
  | (with_reducible exact LeO.refl _)
  | (with_reducible exact LeO.none _)
  | (with_reducible refine LeO.ite ?_ ?_)
  | (with_reducible refine LeO.bind ?_ (fun _ => ?_))
  | exact spec_PutInt.mono _ _
  | exact spec_PutTlv.mono _ _ _ _
  | exact spec_l4Binds.mono _ _
  | exact LeO.none _
  | refine LeO.ite ?_ ?_
  | refine LeO.bind ?_ (fun _ => ?_)
def spec_l4Body.T4 : Bool × List (List Nat × List Nat) := (true, [([], []), ([], []), ([1], [1]), ([2], [2]), ([0, 3, 3], [0, 3]), ([], []), ([5], [5]), ([6, 4], [6]), ([4, 7, 7], [4, 7]), ([], []), ([9], [9]), ([10, 8], [10]), ([8, 11, 11], [8, 11]), ([12, 12, 0, 1, 2, 3, 4, 5, 6, 7, 8, 9, 10, 11, 12], [12])])
def spec_l4Body.B4 : List Nat := [0, 0, 2, 6, 15, 0, 32, 127, 255, 0, 512, 2047, 4095, 8191]
theorem spec_l4Body.tab4 : rtab .any (opsOf Try.f97 4) = spec_l4Body.T4 := by kernel_rfl
theorem spec_l4Body.bits4 : waitsOk spec_l4Body.T4.2 spec_l4Body.B4 = true := by kernel_rfl
set_option maxHeartbeats 8000000 in
set_option maxRecDepth 100000 in
theorem spec_l4Body.calls (k : Nat) (a0_0 : Int) (a0_1 : Int) (a0_2 : Int) (a0_3 : Int) (A0_4 : Option Addr) (c0_4 : Nat) (l0_4 : List (S116)) (r1 : List Int) (r2 : Bool) (w : World) (hr0_4 : Kd.C k116 w A0_4 l0_4.length l0_4) (hc0_4 : l0_4.length ≤ c0_4) (h : spec_l4Body.f k a0_0 a0_1 a0_2 a0_3 l0_4 = some (r1, r2)) :
 Calls Try.prog 97 #[.agg #[.int .i64 a0_0, .int .i64 a0_1, .int .i64 a0_2, .int .i64 a0_3, .slice A0_4 l0_4.length c0_4]] w fun e w' => ∃ v0_ : Value, e = .returned (.tuple #[v0_, .bool r2]) ∧ Kd.R (Kd.int .u8) 5 w' w.heap.size (fun _ => True) v0_ r1 ∧ Below w.heap.size w w' := by
 have hu58 := Try.underlying58
 have HR0_4 := am hr0_4
 have HC0_4 := am hc0_4
 clear hr0_4 hc0_4
 have HB := am (Below.refl w.heap.size w)
 have H : ((spec_l4Binds.f k l0_4).bind fun t306 => (if (t306.length : Int) > 250 then (some ((([] : List Int)), false)) else ((spec_PutInt.f k a0_1).bind fun t315 => ((spec_PutTlv.f k (([] : List Int)) 2 t315).bind fun t318 => ((spec_PutInt.f k a0_2).bind fun t321 => ((spec_PutTlv.f k t318 2 t321).bind fun t324 => ((spec_PutInt.f k a0_3).bind fun t327 => ((spec_PutTlv.f k t324 2 t327).bind fun t330 => ((spec_PutTlv.f k t330 48 t306).bind fun t333 => (some (t333, decide ((t333.length : Int) ≤ 250)))))))))))) = some (r1, r2) := h
 clear h
 replace H := Option.bind_eq_some_iff.mp H
 obtain ⟨t306, A20, H⟩ := H
 replace H : (if (t306.length : Int) > 250 then (some ((([] : List Int)), false)) else ((spec_PutInt.f k a0_1).bind fun t315 => ((spec_PutTlv.f k (([] : List Int)) 2 t315).bind fun t318 => ((spec_PutInt.f k a0_2).bind fun t321 => ((spec_PutTlv.f k t318 2 t321).bind fun t324 => ((spec_PutInt.f k a0_3).bind fun t327 => ((spec_PutTlv.f k t324 2 t327).bind fun t330 => ((spec_PutTlv.f k t330 48 t306).bind fun t333 => (some (t333, decide ((t333.length : Int) ≤ 250))))))))))) = some (r1, r2) := H
 have A2 := am A20
 clear A20
 by_cases c3 : (t306.length : Int) > 250
 · rw [if_pos c3] at H
   have c3b0 : decide (250 < (t306.length : Int)) = true := decide_eq_true c3
   have c3b1 : decide (250 < t306.length) = true := decide_eq_true (by omega)
   clear c3
   obtain ⟨y309, hy309⟩ : ∃ y_ : List Int, y_ = (([] : List Int)) := ⟨_, rfl⟩
   replace H : (some (y309, false)) = some (r1, r2) := hx H hy309
   have Ny309 := am hy309
   clear hy309
   simp only [Option.some.injEq, Prod.mk.injEq] at H
   obtain ⟨rfl, rfl⟩ := H
   go_enter Try.func97, Try.ntmps97
   go_wp2_with (first | ((with_reducible refine gate_dst (N := 1) rfl ?_); refine bxe 1 #[.int .i64 a0_0, .int .i64 a0_1, .int .i64 a0_2, .int .i64 a0_3, .slice A0_4 l0_4.length c0_4] 58 ?_; intro gb305 hg w4 hbox hb; have n_ := ak4 (below_step (bq HB.out) hb) hbox ((by rw [hg]; exact (below_size (bq HB.out)) : w.heap.size ≤ gb305)) ((by rw [hg]; exact (below_size (bq HB.out)) : w.heap.size ≤ gb305)); clear HB; obtain ⟨HB, BK305, GW305, GE305⟩ := n_; clear hb hbox hg; obtain ⟨hcz5_0, hcz5_1, hcz5_2, hcz5_3, hcz5_4, hfz5_0, hfz5_1, hfz5_2, hfz5_3, hfz5_4⟩ := cl5 BK305.out) | ((with_reducible refine gate_callee (f := 128) rfl ?_); refine goesL_ (some 8) rfl rfl Try.func128 (by kernel_rfl) rfl #[.slice A0_4 l0_4.length c0_4] rfl ga ?_; (with_reducible refine (spec_l4Binds.calls k _ _ l0_4 t306 _ ?side1 ?side2 A2.out).mono ?_); (case side1 => exact cq (Kd.C_below HR0_4.out HB.out)); (case side2 => exact HC0_4.out); rintro e w6 ⟨v307, rfl, ho0, hb⟩; refine ⟨_, rfl, ?_⟩; have n_ := ak3 (Kd.R_lower ho0 (below_size (bq1 HB.out GE305.out))) (blk_below (zb BK305.out) hb) (below_step (bq1 HB.out GE305.out) hb); clear BK305 HB; obtain ⟨HO308, BK305, HB⟩ := n_; (try clear hb ho0); obtain ⟨Ao7, co7, eo7⟩ := Kd.R_slice HO308.out; subst eo7) | ((with_reducible refine gate_dst (N := 12) rfl ?_); refine Kd.R_lit (Kd.int .u8) _ 5 ?hg (N := 12) ?hd (xs := ([] : List Int)) (inner := []) (ok := fun _ => True) (okp := fun _ => True) ?hr ?hp (fun _ hk => hk) trivial (Below.refl _ _) (Nat.le_refl _) (by simp) ?_; (case hd => rfl); (case hg => rfl); (case hr => exact gs); (case hp => exact (Reps.none _ _)); intro v310 w8 ho9 hb hg_ hnew_; clear hg_ hnew_; (first | rw [← Ny309.out] at ho9 | (simp only [Int.reduceToNat] at ho9; rw [← Ny309.out] at ho9)); have n_ := ak4 (Kd.R_elder' (kqR HO308.out) (Kd.R_base ho9) hb) (Kd.R_lower (Kd.R_new' ho9 (Kd.R_lt (kqR HO308.out))) (below_size (bq1 HB.out GE305.out))) (blk_below (zb BK305.out) hb) (below_step (bq1 HB.out GE305.out) hb); clear HO308 BK305 HB; obtain ⟨HO308, HO311, BK305, HB⟩ := n_; clear hb ho9))
   go_ret2
   exact ⟨_, rq, by refine kr ?_; exact Kd.R_mono HO311.out (fun _ hk => trivial), bq1 HB.out GE305.out⟩
 rw [if_neg c3] at H
 have c3b0 : decide (250 < (t306.length : Int)) = false := decide_eq_false c3
 have c3b1 : decide (250 < t306.length) = false := decide_eq_false (by omega)
 clear c3
 obtain ⟨y312, hy312⟩ : ∃ y_ : List Int, y_ = (([] : List Int)) := ⟨_, rfl⟩
 replace H : ((spec_PutInt.f k a0_1).bind fun t315 => ((spec_PutTlv.f k y312 2 t315).bind fun t318 => ((spec_PutInt.f k a0_2).bind fun t321 => ((spec_PutTlv.f k t318 2 t321).bind fun t324 => ((spec_PutInt.f k a0_3).bind fun t327 => ((spec_PutTlv.f k t324 2 t327).bind fun t330 => ((spec_PutTlv.f k t330 48 t306).bind fun t333 => (some (t333, decide ((t333.length : Int) ≤ 250)))))))))) = some (r1, r2) := hx H hy312
 have Ny312 := am hy312
 clear hy312
 replace H := Option.bind_eq_some_iff.mp H
 obtain ⟨t315, A100, H⟩ := H
 replace H : ((spec_PutTlv.f k y312 2 t315).bind fun t318 => ((spec_PutInt.f k a0_2).bind fun t321 => ((spec_PutTlv.f k t318 2 t321).bind fun t324 => ((spec_PutInt.f k a0_3).bind fun t327 => ((spec_PutTlv.f k t324 2 t327).bind fun t330 => ((spec_PutTlv.f k t330 48 t306).bind fun t333 => (some (t333, decide ((t333.length : Int) ≤ 250))))))))) = some (r1, r2) := H
 have A10 := am A100
 clear A100
 replace H := Option.bind_eq_some_iff.mp H
 obtain ⟨t318, A110, H⟩ := H
 replace H : ((spec_PutInt.f k a0_2).bind fun t321 => ((spec_PutTlv.f k t318 2 t321).bind fun t324 => ((spec_PutInt.f k a0_3).bind fun t327 => ((spec_PutTlv.f k t324 2 t327).bind fun t330 => ((spec_PutTlv.f k t330 48 t306).bind fun t333 => (some (t333, decide ((t333.length : Int) ≤ 250)))))))) = some (r1, r2) := H
 have A11 := am A110
 clear A110
 replace H := Option.bind_eq_some_iff.mp H
 obtain ⟨t321, A120, H⟩ := H
 replace H : ((spec_PutTlv.f k t318 2 t321).bind fun t324 => ((spec_PutInt.f k a0_3).bind fun t327 => ((spec_PutTlv.f k t324 2 t327).bind fun t330 => ((spec_PutTlv.f k t330 48 t306).bind fun t333 => (some (t333, decide ((t333.length : Int) ≤ 250))))))) = some (r1, r2) := H
 have A12 := am A120
 clear A120
 replace H := Option.bind_eq_some_iff.mp H
 obtain ⟨t324, A130, H⟩ := H
 replace H : ((spec_PutInt.f k a0_3).bind fun t327 => ((spec_PutTlv.f k t324 2 t327).bind fun t330 => ((spec_PutTlv.f k t330 48 t306).bind fun t333 => (some (t333, decide ((t333.length : Int) ≤ 250)))))) = some (r1, r2) := H
 have A13 := am A130
 clear A130
 replace H := Option.bind_eq_some_iff.mp H
 obtain ⟨t327, A140, H⟩ := H
 replace H : ((spec_PutTlv.f k t324 2 t327).bind fun t330 => ((spec_PutTlv.f k t330 48 t306).bind fun t333 => (some (t333, decide ((t333.length : Int) ≤ 250))))) = some (r1, r2) := H
 have A14 := am A140
 clear A140
 replace H := Option.bind_eq_some_iff.mp H
 obtain ⟨t330, A150, H⟩ := H
 replace H : ((spec_PutTlv.f k t330 48 t306).bind fun t333 => (some (t333, decide ((t333.length : Int) ≤ 250)))) = some (r1, r2) := H
 have A15 := am A150
 clear A150
 replace H := Option.bind_eq_some_iff.mp H
 obtain ⟨t333, A160, H⟩ := H
 replace H : (some (t333, decide ((t333.length : Int) ≤ 250))) = some (r1, r2) := H
 have A16 := am A160
 clear A160
 simp only [Option.some.injEq, Prod.mk.injEq] at H
 obtain ⟨rfl, rfl⟩ := H
 go_enter Try.func97, Try.ntmps97
 try go_wp2_with (first | ((with_reducible refine gate_dst (N := 1) rfl ?_); refine bxe 1 #[.int .i64 a0_0, .int .i64 a0_1, .int .i64 a0_2, .int .i64 a0_3, .slice A0_4 l0_4.length c0_4] 58 ?_; intro gb305 hg w17 hbox hb; have n_ := ak4 (below_step (bq HB.out) hb) hbox ((by rw [hg]; exact (below_size (bq HB.out)) : w.heap.size ≤ gb305)) ((by rw [hg]; exact (below_size (bq HB.out)) : w.heap.size ≤ gb305)); clear HB; obtain ⟨HB, BK305, GW305, GE305⟩ := n_; clear hb hbox hg; obtain ⟨hcz18_0, hcz18_1, hcz18_2, hcz18_3, hcz18_4, hfz18_0, hfz18_1, hfz18_2, hfz18_3, hfz18_4⟩ := cl5 BK305.out) | ((with_reducible refine gate_callee (f := 128) rfl ?_); refine goesL_ (some 8) rfl rfl Try.func128 (by kernel_rfl) rfl #[.slice A0_4 l0_4.length c0_4] rfl ga ?_; (with_reducible refine (spec_l4Binds.calls k _ _ l0_4 t306 _ ?side1 ?side2 A2.out).mono ?_); (case side1 => exact cq (Kd.C_below HR0_4.out HB.out)); (case side2 => exact HC0_4.out); rintro e w19 ⟨v307, rfl, ho0, hb⟩; refine ⟨_, rfl, ?_⟩; have n_ := ak3 (Kd.R_lower ho0 (below_size (bq1 HB.out GE305.out))) (blk_below (zb BK305.out) hb) (below_step (bq1 HB.out GE305.out) hb); clear BK305 HB; obtain ⟨HO308, BK305, HB⟩ := n_; (try clear hb ho0); obtain ⟨Ao20, co20, eo20⟩ := Kd.R_slice HO308.out; subst eo20))
 have n_ := ak3 (Kd.R_drew HO308.out) (blk_drew BK305.out) (below_drew1 HB.out)
 clear HO308 BK305 HB
 obtain ⟨HO308, BK305, HB⟩ := n_
 refine start_ (n := 14) (S := fun w' => w'.cell? ⟨gb305, 0, none⟩ = some (.int .i64 a0_0) ∧ w'.cell? ⟨gb305, 1, none⟩ = some (.int .i64 a0_1) ∧ w'.cell? ⟨gb305, 2, none⟩ = some (.int .i64 a0_2) ∧ w'.cell? ⟨gb305, 3, none⟩ = some (.int .i64 a0_3) ∧ w'.cell? ⟨gb305, 4, none⟩ = some (.slice A0_4 l0_4.length c0_4)) (ds := []) #[false, false, false, false, false, false, false, false, false, false, false, false, false, false] (by kernel_rfl) rfl rfl ⟨(blk_cell BK305.out 0).trans rfl, (blk_cell BK305.out 1).trans rfl, (blk_cell BK305.out 2).trans rfl, (blk_cell BK305.out 3).trans rfl, (blk_cell BK305.out 4).trans rfl⟩ (fun hHeld => ?_); refine with_tabW spec_l4Body.tab4 spec_l4Body.bits4 (fun HT_ HW_ => ?_)
 generalize w19.drew = w21 at HO308 BK305 HB hHeld ⊢
 refine pu 1 (some 14) #[false, true, false, false, false, false, false, false, false, false, false, false, false, false] rfl rfl (any_of HT_.out (by kernel_rfl)) (Or.inl ⟨by rfl, by intro w'; go_simp; with_reducible rfl⟩) ?_
 refine pu 5 (some 18) #[false, true, false, false, false, true, false, false, false, false, false, false, false, false] rfl rfl (any_of HT_.out (by kernel_rfl)) (Or.inl ⟨by rfl, by intro w'; go_simp; with_reducible rfl⟩) ?_
 refine pu 9 (some 22) #[false, true, false, false, false, true, false, false, false, true, false, false, false, false] rfl rfl (any_of HT_.out (by kernel_rfl)) (Or.inl ⟨by rfl, by intro w'; go_simp; with_reducible rfl⟩) ?_
 refine tk 2 (some 15) #[false, true, true, false, false, true, false, false, false, true, false, false, false, false] rfl rfl (take_ofW HT_.out HW_.out (by kernel_rfl)) hHeld (Or.inl ⟨by rfl, by rintro w' ⟨s0, s1, s2, s3, s4⟩; go_simp; with_reducible rfl⟩) ?_
 refine tk 6 (some 19) #[false, true, true, false, false, true, true, false, false, true, false, false, false, false] rfl rfl (take_ofW HT_.out HW_.out (by kernel_rfl)) hHeld (Or.inl ⟨by rfl, by rintro w' ⟨s0, s1, s2, s3, s4⟩; go_simp; with_reducible rfl⟩) ?_
 refine tk 10 (some 23) #[false, true, true, false, false, true, true, false, false, true, true, false, false, false] rfl rfl (take_ofW HT_.out HW_.out (by kernel_rfl)) hHeld (Or.inl ⟨by rfl, by rintro w' ⟨s0, s1, s2, s3, s4⟩; go_simp; with_reducible rfl⟩) ?_
 refine join_ (σ := Value × Value) 6 #[true, true, true, true, false, true, true, false, false, true, true, false, false, false] (fun s_ => [(13, s_.1), (16, s_.2)]) (fun s_ w' => (w'.cell? ⟨gb305, 0, none⟩ = some (.int .i64 a0_0) ∧ w'.cell? ⟨gb305, 1, none⟩ = some (.int .i64 a0_1) ∧ w'.cell? ⟨gb305, 2, none⟩ = some (.int .i64 a0_2) ∧ w'.cell? ⟨gb305, 3, none⟩ = some (.int .i64 a0_3) ∧ w'.cell? ⟨gb305, 4, none⟩ = some (.slice A0_4 l0_4.length c0_4)) ∧ (Kd.R (Kd.int .u8) 5 w' w.heap.size (fun k_ => some k_ ≠ (s_.1 : Value).ownBlock ∧ some k_ ≠ (s_.2 : Value).ownBlock) (.slice Ao20 t306.length co20) t306) ∧ (Kd.R (Kd.int .u8) 5 w' w.heap.size (fun k_ => some k_ ≠ (.slice Ao20 t306.length co20 : Value).ownBlock ∧ some k_ ≠ (s_.2 : Value).ownBlock) s_.1 y312) ∧ (Kd.R (Kd.int .u8) 5 w' w.heap.size (fun k_ => some k_ ≠ (.slice Ao20 t306.length co20 : Value).ownBlock ∧ some k_ ≠ (s_.1 : Value).ownBlock) s_.2 t315) ∧ (w'.heap[gb305]? = some (.cells #[.int .i64 a0_0, .int .i64 a0_1, .int .i64 a0_2, .int .i64 a0_3, .slice A0_4 l0_4.length c0_4] 58 (0, 0))) ∧ (Below w.heap.size w w')) ?_ ?_
 rotate_left
 · intro hCont
   refine two_ (i := 0) (j := 3) (Ni := some 13) (Nj := some 16) #[true, true, true, false, false, true, true, false, false, true, true, false, false, false] #[false, true, true, true, false, true, true, false, false, true, true, false, false, false] rfl rfl rfl rfl (two_of HT_.out (by kernel_rfl)) (by decide) (by decide) (fun K hK => ?_) (fun K hK => ?_)
   · skip
     refine Kd.R_lit_step (Kd.int .u8) _ 5 ?hg (N := 13) ?hd (xs := ([] : List Int)) (inner := []) (ok := fun _ => True) (okp := fun _ => True) ?hr ?hp (fun _ hk => hk) trivial (Below.refl _ _) (Nat.le_refl _) (by simp) ?_; (case hd => rfl); (case hg => rfl); (case hr => exact gs); (case hp => exact (Reps.none _ _))
     intro v313 w22 ho23 hb hg_ hnew_
     clear hg_ hnew_
     (first | rw [← Ny312.out] at ho23 | (simp only [Int.reduceToNat] at ho23; rw [← Ny312.out] at ho23))
     have n_ := ak4 (Kd.R_elder' (kqR HO308.out) (Kd.R_base ho23) hb) (Kd.R_lower (Kd.R_new' ho23 (Kd.R_lt (kqR HO308.out))) (below_size (bq1 HB.out GE305.out))) (blk_below (zb BK305.out) hb) (below_step (bq1 HB.out GE305.out) hb)
     clear HO308 BK305 HB
     obtain ⟨HO308, HO314, BK305, HB⟩ := n_
     clear hb ho23
     refine hK.out _ _ ⟨(blk_cell BK305.out 0).trans rfl, (blk_cell BK305.out 1).trans rfl, (blk_cell BK305.out 2).trans rfl, (blk_cell BK305.out 3).trans rfl, (blk_cell BK305.out 4).trans rfl⟩ (fun hHeld => ?_)
     clear hK K
     refine norm_ (a' := ?_) ?_ ?_
     rotate_left
     · show Act.put _ (some 13) _ = _
       simp only [Act.put, List.setIfInBounds_toArray, List.set_cons_zero, List.set_cons_succ, i64_w, i32_w]
       rfl
     refine one_ (i := 3) (N := some 16) #[true, true, true, true, false, true, true, false, false, true, true, false, false, false] rfl rfl (one_of HT_.out (by kernel_rfl)) (by decide) (fun K hK => ?_)
     refine goes_ Try.func64 (by kernel_rfl) rfl #[.int .i64 a0_1] (by rfl) rfl rfl ga ?_
     with_reducible refine (spec_PutInt.calls k a0_1 t315 _ A10.out).mono ?_
     rintro e w24 ⟨v316, rfl, ho0, hb⟩
     refine ⟨_, rfl, ?_⟩
     have n_ := ak5 (Kd.R_elder' (kqR HO308.out) (Kd.R_base ho0) hb) (Kd.R_elder' (kqR HO314.out) (Kd.R_base ho0) hb) (Kd.R_lower (Kd.R_new' (Kd.R_new' ho0 (Kd.R_lt (kqR HO308.out))) (Kd.R_lt (kqR HO314.out))) (below_size (bq1 HB.out GE305.out))) (blk_below (zb BK305.out) hb) (below_step (bq1 HB.out GE305.out) hb)
     clear HO308 HO314 BK305 HB
     obtain ⟨HO308, HO314, HO317, BK305, HB⟩ := n_
     (try clear hb ho0)
     refine hK.out _ _ ⟨(blk_cell BK305.out 0).trans rfl, (blk_cell BK305.out 1).trans rfl, (blk_cell BK305.out 2).trans rfl, (blk_cell BK305.out 3).trans rfl, (blk_cell BK305.out 4).trans rfl⟩ (fun hHeld => ?_)
     clear hK K
     refine norm_ (a' := ?_) ?_ ?_
     rotate_left
     · show Act.put _ (some 16) _ = _
       simp only [Act.put, List.setIfInBounds_toArray, List.set_cons_zero, List.set_cons_succ, i64_w, i32_w]
       rfl
     exact norm_ (by simp only [putAll, Act.put, List.setIfInBounds_toArray, List.set_cons_zero, List.set_cons_succ]) (hCont (v313, v316) _ ⟨hHeld, (by refine kr ?_; exact Kd.R_mono HO308.out (fun _ hk => ⟨hk.1.2, hk.2⟩)), (by refine kr ?_; exact Kd.R_mono HO314.out (fun _ hk => ⟨hk.1.2, hk.2⟩)), (by refine kr ?_; exact Kd.R_mono HO317.out (fun _ hk => ⟨hk.1.2, hk.2⟩)), (zq BK305.out), (bq1 HB.out GE305.out)⟩)
   skip
   refine goes_ Try.func64 (by kernel_rfl) rfl #[.int .i64 a0_1] (by rfl) rfl rfl ga ?_
   with_reducible refine (spec_PutInt.calls k a0_1 t315 _ A10.out).mono ?_
   rintro e w22 ⟨v316, rfl, ho0, hb⟩
   refine ⟨_, rfl, ?_⟩
   have n_ := ak4 (Kd.R_elder' (kqR HO308.out) (Kd.R_base ho0) hb) (Kd.R_lower (Kd.R_new' ho0 (Kd.R_lt (kqR HO308.out))) (below_size (bq1 HB.out GE305.out))) (blk_below (zb BK305.out) hb) (below_step (bq1 HB.out GE305.out) hb)
   clear HO308 BK305 HB
   obtain ⟨HO308, HO317, BK305, HB⟩ := n_
   (try clear hb ho0)
   refine hK.out _ _ ⟨(blk_cell BK305.out 0).trans rfl, (blk_cell BK305.out 1).trans rfl, (blk_cell BK305.out 2).trans rfl, (blk_cell BK305.out 3).trans rfl, (blk_cell BK305.out 4).trans rfl⟩ (fun hHeld => ?_)
   clear hK K
   refine norm_ (a' := ?_) ?_ ?_
   rotate_left
   · show Act.put _ (some 16) _ = _
     simp only [Act.put, List.setIfInBounds_toArray, List.set_cons_zero, List.set_cons_succ, i64_w, i32_w]
     rfl
   refine one_ (i := 0) (N := some 13) #[true, true, true, true, false, true, true, false, false, true, true, false, false, false] rfl rfl (one_of HT_.out (by kernel_rfl)) (by decide) (fun K hK => ?_)
   refine Kd.R_lit_step (Kd.int .u8) _ 5 ?hg (N := 13) ?hd (xs := ([] : List Int)) (inner := []) (ok := fun _ => True) (okp := fun _ => True) ?hr ?hp (fun _ hk => hk) trivial (Below.refl _ _) (Nat.le_refl _) (by simp) ?_; (case hd => rfl); (case hg => rfl); (case hr => exact gs); (case hp => exact (Reps.none _ _))
   intro v313 w23 ho24 hb hg_ hnew_
   clear hg_ hnew_
   (first | rw [← Ny312.out] at ho24 | (simp only [Int.reduceToNat] at ho24; rw [← Ny312.out] at ho24))
   have n_ := ak5 (Kd.R_elder' (kqR HO308.out) (Kd.R_base ho24) hb) (Kd.R_elder' (kqR HO317.out) (Kd.R_base ho24) hb) (Kd.R_lower (Kd.R_new' (Kd.R_new' ho24 (Kd.R_lt (kqR HO308.out))) (Kd.R_lt (kqR HO317.out))) (below_size (bq1 HB.out GE305.out))) (blk_below (zb BK305.out) hb) (below_step (bq1 HB.out GE305.out) hb)
   clear HO308 HO317 BK305 HB
   obtain ⟨HO308, HO317, HO314, BK305, HB⟩ := n_
   clear hb ho24
   refine hK.out _ _ ⟨(blk_cell BK305.out 0).trans rfl, (blk_cell BK305.out 1).trans rfl, (blk_cell BK305.out 2).trans rfl, (blk_cell BK305.out 3).trans rfl, (blk_cell BK305.out 4).trans rfl⟩ (fun hHeld => ?_)
   clear hK K
   refine norm_ (a' := ?_) ?_ ?_
   rotate_left
   · show Act.put _ (some 13) _ = _
     simp only [Act.put, List.setIfInBounds_toArray, List.set_cons_zero, List.set_cons_succ, i64_w, i32_w]
     rfl
   exact norm_ (by simp only [putAll, Act.put, List.setIfInBounds_toArray, List.set_cons_zero, List.set_cons_succ]) (hCont (v313, v316) _ ⟨hHeld, (by refine kr ?_; exact Kd.R_mono HO308.out (fun _ hk => ⟨hk.2, hk.1.2⟩)), (by refine kr ?_; exact Kd.R_mono HO314.out (fun _ hk => ⟨hk.1.2, hk.2⟩)), (by refine kr ?_; exact Kd.R_mono HO317.out (fun _ hk => ⟨hk.1.2, hk.2⟩)), (zq BK305.out), (bq1 HB.out GE305.out)⟩)
 rintro ⟨v313, v316⟩ w25 ⟨hS_, h0_, h1_, h2_, h3_, h4_⟩
 have n_ : Aside0 (Kd.R (Kd.int .u8) 5 w25 w.heap.size (fun k_ => some k_ ≠ (v313 : Value).ownBlock ∧ some k_ ≠ (v316 : Value).ownBlock) (.slice Ao20 t306.length co20) t306) ∧ Aside0 (Kd.R (Kd.int .u8) 5 w25 w.heap.size (fun k_ => some k_ ≠ (.slice Ao20 t306.length co20 : Value).ownBlock ∧ some k_ ≠ (v316 : Value).ownBlock) v313 y312) ∧ Aside0 (Kd.R (Kd.int .u8) 5 w25 w.heap.size (fun k_ => some k_ ≠ (.slice Ao20 t306.length co20 : Value).ownBlock ∧ some k_ ≠ (v313 : Value).ownBlock) v316 t315) ∧ Aside0 (w25.heap[gb305]? = some (.cells #[.int .i64 a0_0, .int .i64 a0_1, .int .i64 a0_2, .int .i64 a0_3, .slice A0_4 l0_4.length c0_4] 58 (0, 0))) ∧ Aside0 (Below w.heap.size w w25) := ⟨⟨h0_⟩, ⟨h1_⟩, ⟨h2_⟩, ⟨h3_⟩, ⟨h4_⟩⟩
 clear HO308 BK305 HB h0_ h1_ h2_ h3_ h4_
 obtain ⟨HO308, HO314, HO317, BK305, HB⟩ := n_
 have hHeld : w25.cell? ⟨gb305, 0, none⟩ = some (.int .i64 a0_0) ∧ w25.cell? ⟨gb305, 1, none⟩ = some (.int .i64 a0_1) ∧ w25.cell? ⟨gb305, 2, none⟩ = some (.int .i64 a0_2) ∧ w25.cell? ⟨gb305, 3, none⟩ = some (.int .i64 a0_3) ∧ w25.cell? ⟨gb305, 4, none⟩ = some (.slice A0_4 l0_4.length c0_4) := hS_
 obtain ⟨Ao26, co26, eo26⟩ := Kd.R_slice HO314.out
 (first | subst eo26 | (injection eo26 with f1_ f2_ f3_; have f4_ := f1_.symm; have f5_ := f3_.symm; clear f1_ f2_ f3_; subst f4_; subst f5_))
 obtain ⟨Ao27, co27, eo27⟩ := Kd.R_slice HO317.out
 (first | subst eo27 | (injection eo27 with f1_ f2_ f3_; have f4_ := f1_.symm; have f5_ := f3_.symm; clear f1_ f2_ f3_; subst f4_; subst f5_))
 refine norm_ (a' := ?_) ?_ ?_
 rotate_left
 · simp only [putAll, Act.put, List.setIfInBounds_toArray, List.set_cons_zero, List.set_cons_succ]
   rfl
 refine one_ (i := 4) (N := some 17) #[true, true, true, true, true, true, true, false, false, true, true, false, false, false] rfl rfl (one_of HT_.out (by kernel_rfl)) (by decide) (fun K hK => ?_)
 refine goes_ Try.func66 (by kernel_rfl) rfl #[.slice Ao26 y312.length co26, .int .i64 2, .slice Ao27 t315.length co27] (by rfl) rfl rfl ga ?_
 with_reducible refine (spec_PutTlv.calls k _ _ y312 2 _ _ t315 t318 _ ?side1 ?side2 ?side3 ?side4 A11.out).mono ?_
 (case side1 => repeat (first | exact (Kd.R_reads' HO314.out).2.2 | (with_reducible refine Kd.C_alloc ?_ _) | (with_reducible refine Kd.C_drewN ?_ _) | (with_reducible refine Kd.C_drew ?_)))
 (case side2 => exact (Kd.R_reads' HO314.out).2.1)
 (case side3 => repeat (first | exact (Kd.R_reads' HO317.out).2.2 | (with_reducible refine Kd.C_alloc ?_ _) | (with_reducible refine Kd.C_drewN ?_ _) | (with_reducible refine Kd.C_drew ?_)))
 (case side4 => exact (Kd.R_reads' HO317.out).2.1)
 rintro e w28 ⟨v319, rfl, ho0, hb⟩
 refine ⟨_, rfl, ?_⟩
 have n_ := ak6 (Kd.R_elder' (kqR HO308.out) (Kd.R_base ho0) hb) (Kd.R_elder' (kqR HO314.out) (Kd.R_base ho0) hb) (Kd.R_elder' (kqR HO317.out) (Kd.R_base ho0) hb) (Kd.R_lower (Kd.R_new' (Kd.R_new' (Kd.R_new' ho0 (Kd.R_lt (kqR HO308.out))) (Kd.R_lt (kqR HO314.out))) (Kd.R_lt (kqR HO317.out))) (below_size (bq1 HB.out GE305.out))) (blk_below (zb BK305.out) hb) (below_step (bq1 HB.out GE305.out) hb)
 clear HO308 HO314 HO317 BK305 HB
 obtain ⟨HO308, HO314, HO317, HO320, BK305, HB⟩ := n_
 (try clear hb ho0)
 refine hK.out _ _ ⟨(blk_cell BK305.out 0).trans rfl, (blk_cell BK305.out 1).trans rfl, (blk_cell BK305.out 2).trans rfl, (blk_cell BK305.out 3).trans rfl, (blk_cell BK305.out 4).trans rfl⟩ (fun hHeld => ?_)
 clear hK K
 refine norm_ (a' := ?_) ?_ ?_
 rotate_left
 · show Act.put _ (some 17) _ = _
   simp only [Act.put, List.setIfInBounds_toArray, List.set_cons_zero, List.set_cons_succ, i64_w, i32_w]
   rfl
 refine one_ (i := 7) (N := some 20) #[true, true, true, true, true, true, true, true, false, true, true, false, false, false] rfl rfl (one_of HT_.out (by kernel_rfl)) (by decide) (fun K hK => ?_)
 refine goes_ Try.func64 (by kernel_rfl) rfl #[.int .i64 a0_2] (by rfl) rfl rfl ga ?_
 with_reducible refine (spec_PutInt.calls k a0_2 t321 _ A12.out).mono ?_
 rintro e w29 ⟨v322, rfl, ho0, hb⟩
 refine ⟨_, rfl, ?_⟩
 have n_ := ak7 (Kd.R_elder' (kqR HO308.out) (Kd.R_base ho0) hb) (Kd.R_elder' (kqR HO314.out) (Kd.R_base ho0) hb) (Kd.R_elder' (kqR HO317.out) (Kd.R_base ho0) hb) (Kd.R_elder' (kqR HO320.out) (Kd.R_base ho0) hb) (Kd.R_lower (Kd.R_new' (Kd.R_new' (Kd.R_new' (Kd.R_new' ho0 (Kd.R_lt (kqR HO308.out))) (Kd.R_lt (kqR HO314.out))) (Kd.R_lt (kqR HO317.out))) (Kd.R_lt (kqR HO320.out))) (below_size (bq1 HB.out GE305.out))) (blk_below (zb BK305.out) hb) (below_step (bq1 HB.out GE305.out) hb)
 clear HO308 HO314 HO317 HO320 BK305 HB
 obtain ⟨HO308, HO314, HO317, HO320, HO323, BK305, HB⟩ := n_
 (try clear hb ho0)
 obtain ⟨Ao30, co30, eo30⟩ := Kd.R_slice HO320.out
 (first | subst eo30 | (injection eo30 with f1_ f2_ f3_; have f4_ := f1_.symm; have f5_ := f3_.symm; clear f1_ f2_ f3_; subst f4_; subst f5_))
 obtain ⟨Ao31, co31, eo31⟩ := Kd.R_slice HO323.out
 (first | subst eo31 | (injection eo31 with f1_ f2_ f3_; have f4_ := f1_.symm; have f5_ := f3_.symm; clear f1_ f2_ f3_; subst f4_; subst f5_))
 refine hK.out _ _ ⟨(blk_cell BK305.out 0).trans rfl, (blk_cell BK305.out 1).trans rfl, (blk_cell BK305.out 2).trans rfl, (blk_cell BK305.out 3).trans rfl, (blk_cell BK305.out 4).trans rfl⟩ (fun hHeld => ?_)
 clear hK K
 refine norm_ (a' := ?_) ?_ ?_
 rotate_left
 · show Act.put _ (some 20) _ = _
   simp only [Act.put, List.setIfInBounds_toArray, List.set_cons_zero, List.set_cons_succ, i64_w, i32_w]
   rfl
 refine one_ (i := 8) (N := some 21) #[true, true, true, true, true, true, true, true, true, true, true, false, false, false] rfl rfl (one_of HT_.out (by kernel_rfl)) (by decide) (fun K hK => ?_)
 refine goes_ Try.func66 (by kernel_rfl) rfl #[.slice Ao30 t318.length co30, .int .i64 2, .slice Ao31 t321.length co31] (by rfl) rfl rfl ga ?_
 with_reducible refine (spec_PutTlv.calls k _ _ t318 2 _ _ t321 t324 _ ?side1 ?side2 ?side3 ?side4 A13.out).mono ?_
 (case side1 => repeat (first | exact (Kd.R_reads' HO320.out).2.2 | (with_reducible refine Kd.C_alloc ?_ _) | (with_reducible refine Kd.C_drewN ?_ _) | (with_reducible refine Kd.C_drew ?_)))
 (case side2 => exact (Kd.R_reads' HO320.out).2.1)
 (case side3 => repeat (first | exact (Kd.R_reads' HO323.out).2.2 | (with_reducible refine Kd.C_alloc ?_ _) | (with_reducible refine Kd.C_drewN ?_ _) | (with_reducible refine Kd.C_drew ?_)))
 (case side4 => exact (Kd.R_reads' HO323.out).2.1)
 rintro e w32 ⟨v325, rfl, ho0, hb⟩
 refine ⟨_, rfl, ?_⟩
 have n_ := ak8 (Kd.R_elder' (kqR HO308.out) (Kd.R_base ho0) hb) (Kd.R_elder' (kqR HO314.out) (Kd.R_base ho0) hb) (Kd.R_elder' (kqR HO317.out) (Kd.R_base ho0) hb) (Kd.R_elder' (kqR HO320.out) (Kd.R_base ho0) hb) (Kd.R_elder' (kqR HO323.out) (Kd.R_base ho0) hb) (Kd.R_lower (Kd.R_new' (Kd.R_new' (Kd.R_new' (Kd.R_new' (Kd.R_new' ho0 (Kd.R_lt (kqR HO308.out))) (Kd.R_lt (kqR HO314.out))) (Kd.R_lt (kqR HO317.out))) (Kd.R_lt (kqR HO320.out))) (Kd.R_lt (kqR HO323.out))) (below_size (bq1 HB.out GE305.out))) (blk_below (zb BK305.out) hb) (below_step (bq1 HB.out GE305.out) hb)
 clear HO308 HO314 HO317 HO320 HO323 BK305 HB
 obtain ⟨HO308, HO314, HO317, HO320, HO323, HO326, BK305, HB⟩ := n_
 (try clear hb ho0)
 refine hK.out _ _ ⟨(blk_cell BK305.out 0).trans rfl, (blk_cell BK305.out 1).trans rfl, (blk_cell BK305.out 2).trans rfl, (blk_cell BK305.out 3).trans rfl, (blk_cell BK305.out 4).trans rfl⟩ (fun hHeld => ?_)
 clear hK K
 refine norm_ (a' := ?_) ?_ ?_
 rotate_left
 · show Act.put _ (some 21) _ = _
   simp only [Act.put, List.setIfInBounds_toArray, List.set_cons_zero, List.set_cons_succ, i64_w, i32_w]
   rfl
 refine one_ (i := 11) (N := some 24) #[true, true, true, true, true, true, true, true, true, true, true, true, false, false] rfl rfl (one_of HT_.out (by kernel_rfl)) (by decide) (fun K hK => ?_)
 refine goes_ Try.func64 (by kernel_rfl) rfl #[.int .i64 a0_3] (by rfl) rfl rfl ga ?_
 with_reducible refine (spec_PutInt.calls k a0_3 t327 _ A14.out).mono ?_
 rintro e w33 ⟨v328, rfl, ho0, hb⟩
 refine ⟨_, rfl, ?_⟩
 have n_ := ak9 (Kd.R_elder' (kqR HO308.out) (Kd.R_base ho0) hb) (Kd.R_elder' (kqR HO314.out) (Kd.R_base ho0) hb) (Kd.R_elder' (kqR HO317.out) (Kd.R_base ho0) hb) (Kd.R_elder' (kqR HO320.out) (Kd.R_base ho0) hb) (Kd.R_elder' (kqR HO323.out) (Kd.R_base ho0) hb) (Kd.R_elder' (kqR HO326.out) (Kd.R_base ho0) hb) (Kd.R_lower (Kd.R_new' (Kd.R_new' (Kd.R_new' (Kd.R_new' (Kd.R_new' (Kd.R_new' ho0 (Kd.R_lt (kqR HO308.out))) (Kd.R_lt (kqR HO314.out))) (Kd.R_lt (kqR HO317.out))) (Kd.R_lt (kqR HO320.out))) (Kd.R_lt (kqR HO323.out))) (Kd.R_lt (kqR HO326.out))) (below_size (bq1 HB.out GE305.out))) (blk_below (zb BK305.out) hb) (below_step (bq1 HB.out GE305.out) hb)
 clear HO308 HO314 HO317 HO320 HO323 HO326 BK305 HB
 obtain ⟨HO308, HO314, HO317, HO320, HO323, HO326, HO329, BK305, HB⟩ := n_
 (try clear hb ho0)
 obtain ⟨Ao34, co34, eo34⟩ := Kd.R_slice HO326.out
 (first | subst eo34 | (injection eo34 with f1_ f2_ f3_; have f4_ := f1_.symm; have f5_ := f3_.symm; clear f1_ f2_ f3_; subst f4_; subst f5_))
 obtain ⟨Ao35, co35, eo35⟩ := Kd.R_slice HO329.out
 (first | subst eo35 | (injection eo35 with f1_ f2_ f3_; have f4_ := f1_.symm; have f5_ := f3_.symm; clear f1_ f2_ f3_; subst f4_; subst f5_))
 refine hK.out _ _ ⟨(blk_cell BK305.out 0).trans rfl, (blk_cell BK305.out 1).trans rfl, (blk_cell BK305.out 2).trans rfl, (blk_cell BK305.out 3).trans rfl, (blk_cell BK305.out 4).trans rfl⟩ (fun hHeld => ?_)
 clear hK K
 refine norm_ (a' := ?_) ?_ ?_
 rotate_left
 · show Act.put _ (some 24) _ = _
   simp only [Act.put, List.setIfInBounds_toArray, List.set_cons_zero, List.set_cons_succ, i64_w, i32_w]
   rfl
 refine one_ (i := 12) (N := some 25) #[true, true, true, true, true, true, true, true, true, true, true, true, true, false] rfl rfl (one_of HT_.out (by kernel_rfl)) (by decide) (fun K hK => ?_)
 refine goes_ Try.func66 (by kernel_rfl) rfl #[.slice Ao34 t324.length co34, .int .i64 2, .slice Ao35 t327.length co35] (by rfl) rfl rfl ga ?_
 with_reducible refine (spec_PutTlv.calls k _ _ t324 2 _ _ t327 t330 _ ?side1 ?side2 ?side3 ?side4 A15.out).mono ?_
 (case side1 => repeat (first | exact (Kd.R_reads' HO326.out).2.2 | (with_reducible refine Kd.C_alloc ?_ _) | (with_reducible refine Kd.C_drewN ?_ _) | (with_reducible refine Kd.C_drew ?_)))
 (case side2 => exact (Kd.R_reads' HO326.out).2.1)
 (case side3 => repeat (first | exact (Kd.R_reads' HO329.out).2.2 | (with_reducible refine Kd.C_alloc ?_ _) | (with_reducible refine Kd.C_drewN ?_ _) | (with_reducible refine Kd.C_drew ?_)))
 (case side4 => exact (Kd.R_reads' HO329.out).2.1)
 rintro e w36 ⟨v331, rfl, ho0, hb⟩
 refine ⟨_, rfl, ?_⟩
 have n_ := ak10 (Kd.R_elder' (kqR HO308.out) (Kd.R_base ho0) hb) (Kd.R_elder' (kqR HO314.out) (Kd.R_base ho0) hb) (Kd.R_elder' (kqR HO317.out) (Kd.R_base ho0) hb) (Kd.R_elder' (kqR HO320.out) (Kd.R_base ho0) hb) (Kd.R_elder' (kqR HO323.out) (Kd.R_base ho0) hb) (Kd.R_elder' (kqR HO326.out) (Kd.R_base ho0) hb) (Kd.R_elder' (kqR HO329.out) (Kd.R_base ho0) hb) (Kd.R_lower (Kd.R_new' (Kd.R_new' (Kd.R_new' (Kd.R_new' (Kd.R_new' (Kd.R_new' (Kd.R_new' ho0 (Kd.R_lt (kqR HO308.out))) (Kd.R_lt (kqR HO314.out))) (Kd.R_lt (kqR HO317.out))) (Kd.R_lt (kqR HO320.out))) (Kd.R_lt (kqR HO323.out))) (Kd.R_lt (kqR HO326.out))) (Kd.R_lt (kqR HO329.out))) (below_size (bq1 HB.out GE305.out))) (blk_below (zb BK305.out) hb) (below_step (bq1 HB.out GE305.out) hb)
 clear HO308 HO314 HO317 HO320 HO323 HO326 HO329 BK305 HB
 obtain ⟨HO308, HO314, HO317, HO320, HO323, HO326, HO329, HO332, BK305, HB⟩ := n_
 (try clear hb ho0)
 refine hK.out _ _ ⟨(blk_cell BK305.out 0).trans rfl, (blk_cell BK305.out 1).trans rfl, (blk_cell BK305.out 2).trans rfl, (blk_cell BK305.out 3).trans rfl, (blk_cell BK305.out 4).trans rfl⟩ (fun hHeld => ?_)
 clear hK K
 refine norm_ (a' := ?_) ?_ ?_
 rotate_left
 · show Act.put _ (some 25) _ = _
   simp only [Act.put, List.setIfInBounds_toArray, List.set_cons_zero, List.set_cons_succ, i64_w, i32_w]
   rfl
 refine pu 13 (some 5) #[true, true, true, true, true, true, true, true, true, true, true, true, true, true] rfl rfl (any_of HT_.out (by kernel_rfl)) (Or.inl ⟨by rfl, by intro w'; go_simp; with_reducible rfl⟩) ?_
 refine done_ (done_of HT_.out (by kernel_rfl)) ?_
 obtain ⟨Ao37, co37, eo37⟩ := Kd.R_slice HO332.out
 subst eo37
 try go_wp2_with (first | ((with_reducible refine gate_callee (f := 66) rfl ?_); refine goesL_ (some 28) rfl rfl Try.func66 (by kernel_rfl) rfl #[.slice Ao37 t330.length co37, .int .i64 48, .slice Ao20 t306.length co20] rfl ga ?_; (with_reducible refine (spec_PutTlv.calls k _ _ t330 48 _ _ t306 t333 _ ?side1 ?side2 ?side3 ?side4 A16.out).mono ?_); (case side1 => repeat (first | exact (Kd.R_reads' HO332.out).2.2 | (with_reducible refine Kd.C_alloc ?_ _) | (with_reducible refine Kd.C_drewN ?_ _) | (with_reducible refine Kd.C_drew ?_))); (case side2 => exact (Kd.R_reads' HO332.out).2.1); (case side3 => repeat (first | exact (Kd.R_reads' HO308.out).2.2 | (with_reducible refine Kd.C_alloc ?_ _) | (with_reducible refine Kd.C_drewN ?_ _) | (with_reducible refine Kd.C_drew ?_))); (case side4 => exact (Kd.R_reads' HO308.out).2.1); rintro e w38 ⟨v334, rfl, ho0, hb⟩; refine ⟨_, rfl, ?_⟩; have n_ := ak11 (Kd.R_elder' (kqR HO308.out) (Kd.R_base ho0) hb) (Kd.R_elder' (kqR HO314.out) (Kd.R_base ho0) hb) (Kd.R_elder' (kqR HO317.out) (Kd.R_base ho0) hb) (Kd.R_elder' (kqR HO320.out) (Kd.R_base ho0) hb) (Kd.R_elder' (kqR HO323.out) (Kd.R_base ho0) hb) (Kd.R_elder' (kqR HO326.out) (Kd.R_base ho0) hb) (Kd.R_elder' (kqR HO329.out) (Kd.R_base ho0) hb) (Kd.R_elder' (kqR HO332.out) (Kd.R_base ho0) hb) (Kd.R_lower (Kd.R_new' (Kd.R_new' (Kd.R_new' (Kd.R_new' (Kd.R_new' (Kd.R_new' (Kd.R_new' (Kd.R_new' ho0 (Kd.R_lt (kqR HO308.out))) (Kd.R_lt (kqR HO314.out))) (Kd.R_lt (kqR HO317.out))) (Kd.R_lt (kqR HO320.out))) (Kd.R_lt (kqR HO323.out))) (Kd.R_lt (kqR HO326.out))) (Kd.R_lt (kqR HO329.out))) (Kd.R_lt (kqR HO332.out))) (below_size (bq1 HB.out GE305.out))) (blk_below (zb BK305.out) hb) (below_step (bq1 HB.out GE305.out) hb); clear HO308 HO314 HO317 HO320 HO323 HO326 HO329 HO332 BK305 HB; obtain ⟨HO308, HO314, HO317, HO320, HO323, HO326, HO329, HO332, HO335, BK305, HB⟩ := n_; (try clear hb ho0); obtain ⟨Ao39, co39, eo39⟩ := Kd.R_slice HO335.out; subst eo39))
 go_ret2
 exact ⟨_, rq, by refine kr ?_; exact Kd.R_mono HO335.out (fun _ hk => trivial), bq1 HB.out GE305.out⟩

/-! ### spec_PutPdu: function 39 -/
def spec_PutPdu.f (k : Nat) (a0_0 : Int) (a0_1 : Int) (a0_2 : Int) (a0_3 : Int) (l0_4 : List (S116)) : Option (List Int) := (spec_PduOk.f k a0_0 a0_1 a0_2 a0_3 l0_4).bind fun t337 => (if t337 = true then ((spec_l4Body.f k a0_0 a0_1 a0_2 a0_3 l0_4).bind fun bt341 => (if bt341.2 = true then ((spec_PutTlv.f k (([] : List Int)) a0_0 bt341.1).bind fun t348 => (some t348)) else (some (([] : List Int))))) else (some (([] : List Int))))
theorem spec_PutPdu.mono : ∀ a0 a1 a2 a3 a4 k, LeO (spec_PutPdu.f k a0 a1 a2 a3 a4) (spec_PutPdu.f (k + 1) a0 a1 a2 a3 a4) := by
 intro a0 a1 a2 a3 a4 k
 unfold spec_PutPdu.f
 repeat' first
  | (with_reducible exact spec_PduOk.mono _ _ _ _ _ _)
  | (with_reducible exact spec_PutTlv.mono _ _ _ _)
  | (with_reducible exact spec_l4Body.mono _ _ _ _ _ _)
  | (with_reducible exact LeO.refl _)
  | (with_reducible exact LeO.none _)
  | (with_reducible refine LeO.ite ?_ ?_)
  | (with_reducible refine LeO.bind ?_ (fun _ => ?_))
  | exact spec_PduOk.mono _ _ _ _ _ _
  | exact spec_PutTlv.mono _ _ _ _
  | exact spec_l4Body.mono _ _ _ _ _ _
  | exact LeO.none _
  | refine LeO.ite ?_ ?_
  | refine LeO.bind ?_ (fun _ => ?_)
set_option maxHeartbeats 8000000 in
set_option maxRecDepth 100000 in
theorem spec_PutPdu.calls (k : Nat) (a0_0 : Int) (a0_1 : Int) (a0_2 : Int) (a0_3 : Int) (A0_4 : Option Addr) (c0_4 : Nat) (l0_4 : List (S116)) (r : List Int) (w : World) (hr0_4 : Kd.C k116 w A0_4 l0_4.length l0_4) (hc0_4 : l0_4.length ≤ c0_4) (h : spec_PutPdu.f k a0_0 a0_1 a0_2 a0_3 l0_4 = some r) :
 Calls Try.prog 39 #[.agg #[.int .i64 a0_0, .int .i64 a0_1, .int .i64 a0_2, .int .i64 a0_3, .slice A0_4 l0_4.length c0_4]] w fun e w' => ∃ v0_ : Value, e = .returned (v0_) ∧ Kd.R (Kd.int .u8) 5 w' w.heap.size (fun _ => True) v0_ r ∧ Below w.heap.size w w' := by
 have hu58 := Try.underlying58
 have HR0_4 := am hr0_4
 have HC0_4 := am hc0_4
 clear hr0_4 hc0_4
 have HB := am (Below.refl w.heap.size w)
 have H : ((spec_PduOk.f k a0_0 a0_1 a0_2 a0_3 l0_4).bind fun t337 => (if t337 = true then ((spec_l4Body.f k a0_0 a0_1 a0_2 a0_3 l0_4).bind fun bt341 => (if bt341.2 = true then ((spec_PutTlv.f k (([] : List Int)) a0_0 bt341.1).bind fun t348 => (some t348)) else (some (([] : List Int))))) else (some (([] : List Int))))) = some r := h
 clear h
 replace H := Option.bind_eq_some_iff.mp H
 obtain ⟨t337, A20, H⟩ := H
 replace H : (if t337 = true then ((spec_l4Body.f k a0_0 a0_1 a0_2 a0_3 l0_4).bind fun bt341 => (if bt341.2 = true then ((spec_PutTlv.f k (([] : List Int)) a0_0 bt341.1).bind fun t348 => (some t348)) else (some (([] : List Int))))) else (some (([] : List Int)))) = some r := H
 have A2 := am A20
 clear A20
 by_cases c3 : t337 = true
 rotate_left
 · replace c3 := Bool.eq_false_iff.mpr c3
   subst c3
   replace H : (some (([] : List Int))) = some r := by rw [if_neg (show ¬ (false = true) by decide)] at H; exact H
   obtain ⟨y338, hy338⟩ : ∃ y_ : List Int, y_ = (([] : List Int)) := ⟨_, rfl⟩
   replace H : (some y338) = some r := hx H hy338
   have Ny338 := am hy338
   clear hy338
   obtain rfl := Option.some.inj H
   go_enter Try.func39, Try.ntmps39
   go_wp2_with (first | ((with_reducible refine gate_dst (N := 1) rfl ?_); refine bxe 1 #[.int .i64 a0_0, .int .i64 a0_1, .int .i64 a0_2, .int .i64 a0_3, .slice A0_4 l0_4.length c0_4] 58 ?_; intro gb336 hg w25 hbox hb; have n_ := ak4 (below_step (bq HB.out) hb) hbox ((by rw [hg]; exact (below_size (bq HB.out)) : w.heap.size ≤ gb336)) ((by rw [hg]; exact (below_size (bq HB.out)) : w.heap.size ≤ gb336)); clear HB; obtain ⟨HB, BK336, GW336, GE336⟩ := n_; clear hb hbox hg; obtain ⟨hcz26_0, hcz26_1, hcz26_2, hcz26_3, hcz26_4, hfz26_0, hfz26_1, hfz26_2, hfz26_3, hfz26_4⟩ := cl5 BK336.out) | ((with_reducible refine gate_callee (f := 96) rfl ?_); refine goesL_ (some 6) rfl rfl Try.func96 (by kernel_rfl) rfl #[.agg #[.int .i64 a0_0, .int .i64 a0_1, .int .i64 a0_2, .int .i64 a0_3, .slice A0_4 l0_4.length c0_4]] rfl ga ?_; (with_reducible refine (spec_PduOk.calls k a0_0 a0_1 a0_2 a0_3 _ _ l0_4 false _ ?side1 ?side2 A2.out).mono ?_); (case side1 => exact cq (Kd.C_below HR0_4.out HB.out)); (case side2 => exact HC0_4.out); rintro e w27 ⟨rfl, hb⟩; refine ⟨_, rfl, ?_⟩; have n_ := ak2 (blk_below (zb BK336.out) hb) (below_step (bq1 HB.out GE336.out) hb); clear BK336 HB; obtain ⟨BK336, HB⟩ := n_; (try clear hb)) | ((with_reducible refine gate_dst (N := 8) rfl ?_); refine Kd.R_lit (Kd.int .u8) _ 5 ?hg (N := 8) ?hd (xs := ([] : List Int)) (inner := []) (ok := fun _ => True) (okp := fun _ => True) ?hr ?hp (fun _ hk => hk) trivial (Below.refl _ _) (Nat.le_refl _) (by simp) ?_; (case hd => rfl); (case hg => rfl); (case hr => exact gs); (case hp => exact (Reps.none _ _)); intro v339 w28 ho29 hb hg_ hnew_; clear hg_ hnew_; (first | rw [← Ny338.out] at ho29 | (simp only [Int.reduceToNat] at ho29; rw [← Ny338.out] at ho29)); have n_ := ak3 (Kd.R_lower ho29 (below_size (bq1 HB.out GE336.out))) (blk_below (zb BK336.out) hb) (below_step (bq1 HB.out GE336.out) hb); clear BK336 HB; obtain ⟨HO340, BK336, HB⟩ := n_; clear hb ho29))
   go_ret
   exact ⟨_, rq, kqR HO340.out, bq1 HB.out GE336.out⟩
 subst c3
 replace H : ((spec_l4Body.f k a0_0 a0_1 a0_2 a0_3 l0_4).bind fun bt341 => (if bt341.2 = true then ((spec_PutTlv.f k (([] : List Int)) a0_0 bt341.1).bind fun t348 => (some t348)) else (some (([] : List Int))))) = some r := by rw [if_pos rfl] at H; exact H
 replace H := Option.bind_eq_some_iff.mp H
 obtain ⟨⟨t341, t344⟩, A40, H⟩ := H
 replace H : (if t344 = true then ((spec_PutTlv.f k (([] : List Int)) a0_0 t341).bind fun t348 => (some t348)) else (some (([] : List Int)))) = some r := H
 have A4 := am A40
 clear A40
 by_cases c5 : t344 = true
 rotate_left
 · replace c5 := Bool.eq_false_iff.mpr c5
   subst c5
   replace H : (some (([] : List Int))) = some r := by rw [if_neg (show ¬ (false = true) by decide)] at H; exact H
   obtain ⟨y351, hy351⟩ : ∃ y_ : List Int, y_ = (([] : List Int)) := ⟨_, rfl⟩
   replace H : (some y351) = some r := hx H hy351
   have Ny351 := am hy351
   clear hy351
   obtain rfl := Option.some.inj H
   go_enter Try.func39, Try.ntmps39
   go_wp2_with (first | ((with_reducible refine gate_dst (N := 1) rfl ?_); refine bxe 1 #[.int .i64 a0_0, .int .i64 a0_1, .int .i64 a0_2, .int .i64 a0_3, .slice A0_4 l0_4.length c0_4] 58 ?_; intro gb336 hg w18 hbox hb; have n_ := ak4 (below_step (bq HB.out) hb) hbox ((by rw [hg]; exact (below_size (bq HB.out)) : w.heap.size ≤ gb336)) ((by rw [hg]; exact (below_size (bq HB.out)) : w.heap.size ≤ gb336)); clear HB; obtain ⟨HB, BK336, GW336, GE336⟩ := n_; clear hb hbox hg; obtain ⟨hcz19_0, hcz19_1, hcz19_2, hcz19_3, hcz19_4, hfz19_0, hfz19_1, hfz19_2, hfz19_3, hfz19_4⟩ := cl5 BK336.out) | ((with_reducible refine gate_callee (f := 96) rfl ?_); refine goesL_ (some 6) rfl rfl Try.func96 (by kernel_rfl) rfl #[.agg #[.int .i64 a0_0, .int .i64 a0_1, .int .i64 a0_2, .int .i64 a0_3, .slice A0_4 l0_4.length c0_4]] rfl ga ?_; (with_reducible refine (spec_PduOk.calls k a0_0 a0_1 a0_2 a0_3 _ _ l0_4 true _ ?side1 ?side2 A2.out).mono ?_); (case side1 => exact cq (Kd.C_below HR0_4.out HB.out)); (case side2 => exact HC0_4.out); rintro e w20 ⟨rfl, hb⟩; refine ⟨_, rfl, ?_⟩; have n_ := ak2 (blk_below (zb BK336.out) hb) (below_step (bq1 HB.out GE336.out) hb); clear BK336 HB; obtain ⟨BK336, HB⟩ := n_; (try clear hb); obtain ⟨hcz21_0, hcz21_1, hcz21_2, hcz21_3, hcz21_4, hfz21_0, hfz21_1, hfz21_2, hfz21_3, hfz21_4⟩ := cl5 BK336.out) | ((with_reducible refine gate_callee (f := 97) rfl ?_); refine goesL_ (some 11) rfl rfl Try.func97 (by kernel_rfl) rfl #[.agg #[.int .i64 a0_0, .int .i64 a0_1, .int .i64 a0_2, .int .i64 a0_3, .slice A0_4 l0_4.length c0_4]] rfl ga ?_; (with_reducible refine (spec_l4Body.calls k a0_0 a0_1 a0_2 a0_3 _ _ l0_4 t341 false _ ?side1 ?side2 A4.out).mono ?_); (case side1 => exact cq (Kd.C_below HR0_4.out HB.out)); (case side2 => exact HC0_4.out); rintro e w22 ⟨v342, rfl, ho0, hb⟩; refine ⟨_, rfl, ?_⟩; have n_ := ak3 (Kd.R_lower ho0 (below_size (bq1 HB.out GE336.out))) (blk_below (zb BK336.out) hb) (below_step (bq1 HB.out GE336.out) hb); clear BK336 HB; obtain ⟨HO343, BK336, HB⟩ := n_; (try clear hb ho0)) | ((with_reducible refine gate_dst (N := 16) rfl ?_); refine Kd.R_lit (Kd.int .u8) _ 5 ?hg (N := 16) ?hd (xs := ([] : List Int)) (inner := []) (ok := fun _ => True) (okp := fun _ => True) ?hr ?hp (fun _ hk => hk) trivial (Below.refl _ _) (Nat.le_refl _) (by simp) ?_; (case hd => rfl); (case hg => rfl); (case hr => exact gs); (case hp => exact (Reps.none _ _)); intro v352 w23 ho24 hb hg_ hnew_; clear hg_ hnew_; (first | rw [← Ny351.out] at ho24 | (simp only [Int.reduceToNat] at ho24; rw [← Ny351.out] at ho24)); have n_ := ak4 (Kd.R_elder' (kqR HO343.out) (Kd.R_base ho24) hb) (Kd.R_lower (Kd.R_new' ho24 (Kd.R_lt (kqR HO343.out))) (below_size (bq1 HB.out GE336.out))) (blk_below (zb BK336.out) hb) (below_step (bq1 HB.out GE336.out) hb); clear HO343 BK336 HB; obtain ⟨HO343, HO353, BK336, HB⟩ := n_; clear hb ho24))
   go_ret
   exact ⟨_, rq, by refine kr ?_; exact Kd.R_mono HO353.out (fun _ hk => trivial), bq1 HB.out GE336.out⟩
 subst c5
 replace H : ((spec_PutTlv.f k (([] : List Int)) a0_0 t341).bind fun t348 => (some t348)) = some r := by rw [if_pos rfl] at H; exact H
 obtain ⟨y345, hy345⟩ : ∃ y_ : List Int, y_ = (([] : List Int)) := ⟨_, rfl⟩
 replace H : ((spec_PutTlv.f k y345 a0_0 t341).bind fun t348 => (some t348)) = some r := hx H hy345
 have Ny345 := am hy345
 clear hy345
 replace H := Option.bind_eq_some_iff.mp H
 obtain ⟨t348, A60, H⟩ := H
 replace H : (some t348) = some r := H
 have A6 := am A60
 clear A60
 obtain rfl := Option.some.inj H
 go_enter Try.func39, Try.ntmps39
 go_wp2_with (first | ((with_reducible refine gate_dst (N := 1) rfl ?_); refine bxe 1 #[.int .i64 a0_0, .int .i64 a0_1, .int .i64 a0_2, .int .i64 a0_3, .slice A0_4 l0_4.length c0_4] 58 ?_; intro gb336 hg w7 hbox hb; have n_ := ak4 (below_step (bq HB.out) hb) hbox ((by rw [hg]; exact (below_size (bq HB.out)) : w.heap.size ≤ gb336)) ((by rw [hg]; exact (below_size (bq HB.out)) : w.heap.size ≤ gb336)); clear HB; obtain ⟨HB, BK336, GW336, GE336⟩ := n_; clear hb hbox hg; obtain ⟨hcz8_0, hcz8_1, hcz8_2, hcz8_3, hcz8_4, hfz8_0, hfz8_1, hfz8_2, hfz8_3, hfz8_4⟩ := cl5 BK336.out) | ((with_reducible refine gate_callee (f := 96) rfl ?_); refine goesL_ (some 6) rfl rfl Try.func96 (by kernel_rfl) rfl #[.agg #[.int .i64 a0_0, .int .i64 a0_1, .int .i64 a0_2, .int .i64 a0_3, .slice A0_4 l0_4.length c0_4]] rfl ga ?_; (with_reducible refine (spec_PduOk.calls k a0_0 a0_1 a0_2 a0_3 _ _ l0_4 true _ ?side1 ?side2 A2.out).mono ?_); (case side1 => exact cq (Kd.C_below HR0_4.out HB.out)); (case side2 => exact HC0_4.out); rintro e w9 ⟨rfl, hb⟩; refine ⟨_, rfl, ?_⟩; have n_ := ak2 (blk_below (zb BK336.out) hb) (below_step (bq1 HB.out GE336.out) hb); clear BK336 HB; obtain ⟨BK336, HB⟩ := n_; (try clear hb); obtain ⟨hcz10_0, hcz10_1, hcz10_2, hcz10_3, hcz10_4, hfz10_0, hfz10_1, hfz10_2, hfz10_3, hfz10_4⟩ := cl5 BK336.out) | ((with_reducible refine gate_callee (f := 97) rfl ?_); refine goesL_ (some 11) rfl rfl Try.func97 (by kernel_rfl) rfl #[.agg #[.int .i64 a0_0, .int .i64 a0_1, .int .i64 a0_2, .int .i64 a0_3, .slice A0_4 l0_4.length c0_4]] rfl ga ?_; (with_reducible refine (spec_l4Body.calls k a0_0 a0_1 a0_2 a0_3 _ _ l0_4 t341 true _ ?side1 ?side2 A4.out).mono ?_); (case side1 => exact cq (Kd.C_below HR0_4.out HB.out)); (case side2 => exact HC0_4.out); rintro e w11 ⟨v342, rfl, ho0, hb⟩; refine ⟨_, rfl, ?_⟩; have n_ := ak3 (Kd.R_lower ho0 (below_size (bq1 HB.out GE336.out))) (blk_below (zb BK336.out) hb) (below_step (bq1 HB.out GE336.out) hb); clear BK336 HB; obtain ⟨HO343, BK336, HB⟩ := n_; (try clear hb ho0)) | ((with_reducible refine gate_dst (N := 17) rfl ?_); refine Kd.R_lit (Kd.int .u8) _ 5 ?hg (N := 17) ?hd (xs := ([] : List Int)) (inner := []) (ok := fun _ => True) (okp := fun _ => True) ?hr ?hp (fun _ hk => hk) trivial (Below.refl _ _) (Nat.le_refl _) (by simp) ?_; (case hd => rfl); (case hg => rfl); (case hr => exact gs); (case hp => exact (Reps.none _ _)); intro v346 w12 ho13 hb hg_ hnew_; clear hg_ hnew_; (first | rw [← Ny345.out] at ho13 | (simp only [Int.reduceToNat] at ho13; rw [← Ny345.out] at ho13)); have n_ := ak4 (Kd.R_elder' (kqR HO343.out) (Kd.R_base ho13) hb) (Kd.R_lower (Kd.R_new' ho13 (Kd.R_lt (kqR HO343.out))) (below_size (bq1 HB.out GE336.out))) (blk_below (zb BK336.out) hb) (below_step (bq1 HB.out GE336.out) hb); clear HO343 BK336 HB; obtain ⟨HO343, HO347, BK336, HB⟩ := n_; clear hb ho13; obtain ⟨hcz14_0, hcz14_1, hcz14_2, hcz14_3, hcz14_4, hfz14_0, hfz14_1, hfz14_2, hfz14_3, hfz14_4⟩ := cl5 BK336.out; obtain ⟨Ao15, co15, eo15⟩ := Kd.R_slice HO347.out; subst eo15; obtain ⟨Ao16, co16, eo16⟩ := Kd.R_slice HO343.out; subst eo16) | ((with_reducible refine gate_callee (f := 66) rfl ?_); refine goesL_ (some 21) rfl rfl Try.func66 (by kernel_rfl) rfl #[.slice Ao15 y345.length co15, .int .i64 a0_0, .slice Ao16 t341.length co16] rfl ga ?_; (with_reducible refine (spec_PutTlv.calls k _ _ y345 a0_0 _ _ t341 t348 _ ?side1 ?side2 ?side3 ?side4 A6.out).mono ?_); (case side1 => repeat (first | exact (Kd.R_reads' HO347.out).2.2 | (with_reducible refine Kd.C_alloc ?_ _) | (with_reducible refine Kd.C_drewN ?_ _) | (with_reducible refine Kd.C_drew ?_))); (case side2 => exact (Kd.R_reads' HO347.out).2.1); (case side3 => repeat (first | exact (Kd.R_reads' HO343.out).2.2 | (with_reducible refine Kd.C_alloc ?_ _) | (with_reducible refine Kd.C_drewN ?_ _) | (with_reducible refine Kd.C_drew ?_))); (case side4 => exact (Kd.R_reads' HO343.out).2.1); rintro e w17 ⟨v349, rfl, ho0, hb⟩; refine ⟨_, rfl, ?_⟩; have n_ := ak5 (Kd.R_elder' (kqR HO343.out) (Kd.R_base ho0) hb) (Kd.R_elder' (kqR HO347.out) (Kd.R_base ho0) hb) (Kd.R_lower (Kd.R_new' (Kd.R_new' ho0 (Kd.R_lt (kqR HO343.out))) (Kd.R_lt (kqR HO347.out))) (below_size (bq1 HB.out GE336.out))) (blk_below (zb BK336.out) hb) (below_step (bq1 HB.out GE336.out) hb); clear HO343 HO347 BK336 HB; obtain ⟨HO343, HO347, HO350, BK336, HB⟩ := n_; (try clear hb ho0)))
 go_ret
 exact ⟨_, rq, by refine kr ?_; exact Kd.R_mono HO350.out (fun _ hk => trivial), bq1 HB.out GE336.out⟩

/-! ### spec_PutMsg: function 51 -/
def spec_PutMsg.j0 : Nat → ByteArray → List Int → Bool → Option (List Int)
 | 0, _, _, _ => none
 | k + 1, x0, x5, x16 => if x16 = true then (some (([] : List Int))) else ((spec_PutInt.f k 1).bind fun t364 => ((spec_PutTlv.f k (([] : List Int)) 2 t364).bind fun t367 => (if (x0.size : Int) < 140737488355328 then ((spec_PutTlv.f k t367 4 (bytesOf x0)).bind fun t373 => (if t373.length + x5.length < 140737488355328 then ((some (t373 ++ x5 : List Int)).bind fun y376 => (if (y376.length : Int) > 250 then (some (([] : List Int))) else ((spec_PutTlv.f k (([] : List Int)) 48 y376).bind fun t385 => (some t385)))) else (none))) else (none))))
def spec_PutMsg.f (k : Nat) (a0 : ByteArray) (a1_0 : Int) (a1_1 : Int) (a1_2 : Int) (a1_3 : Int) (l1_4 : List (S116)) : Option (List Int) := (spec_PutPdu.f k a1_0 a1_1 a1_2 a1_3 l1_4).bind fun t355 => (if (t355.length : Int) = 0 then (spec_PutMsg.j0 k a0 t355 true) else (spec_PutMsg.j0 k a0 t355 (decide ((a0.size : Int) > 20))))
theorem spec_PutMsg.mono_l : ∀ k, (∀ y0 y1 y2, LeO (spec_PutMsg.j0 k y0 y1 y2) (spec_PutMsg.j0 (k + 1) y0 y1 y2))
 | 0 => fun _ _ _ r h => by simp [spec_PutMsg.j0] at h
 | k + 1 => by
  have ih0 := spec_PutMsg.mono_l k
  intro y0 y1 y2
  unfold spec_PutMsg.j0
  repeat' first
  | (with_reducible exact ih0 _ _ _)
  | (with_reducible exact spec_PutInt.mono _ _)
  | (with_reducible exact spec_PutPdu.mono _ _ _ _ _ _)
  | (with_reducible exact spec_PutTlv.mono _ _ _ _)
  | (with_reducible exact LeO.refl _)
  | (with_reducible exact LeO.none _)
  | (with_reducible refine LeO.ite ?_ ?_)
  | (with_reducible refine LeO.bind ?_ (fun _ => ?_))
  | exact ih0 _ _ _
  | exact spec_PutInt.mono _ _
  | exact spec_PutPdu.mono _ _ _ _ _ _
  | exact spec_PutTlv.mono _ _ _ _
  | exact LeO.none _
  | refine LeO.ite ?_ ?_
  | refine LeO.bind ?_ (fun _ => ?_)
theorem spec_PutMsg.mono : ∀ a0 a1 a2 a3 a4 a5 k, LeO (spec_PutMsg.f k a0 a1 a2 a3 a4 a5) (spec_PutMsg.f (k + 1) a0 a1 a2 a3 a4 a5) := by
 intro a0 a1 a2 a3 a4 a5 k
 have ih0 := spec_PutMsg.mono_l k
 unfold spec_PutMsg.f
 repeat' first
  | (with_reducible exact ih0 _ _ _)
  | (with_reducible exact spec_PutInt.mono _ _)
  | (with_reducible exact spec_PutPdu.mono _ _ _ _ _ _)
  | (with_reducible exact spec_PutTlv.mono _ _ _ _)
  | (with_reducible exact LeO.refl _)
  | (with_reducible exact LeO.none _)
  | (with_reducible refine LeO.ite ?_ ?_)
  | (with_reducible refine LeO.bind ?_ (fun _ => ?_))
  | exact ih0 _ _ _
  | exact spec_PutInt.mono _ _
  | exact spec_PutPdu.mono _ _ _ _ _ _
  | exact spec_PutTlv.mono _ _ _ _
  | exact LeO.none _
  | refine LeO.ite ?_ ?_
  | refine LeO.bind ?_ (fun _ => ?_)
set_option maxHeartbeats 8000000 in
set_option maxRecDepth 100000 in
theorem spec_PutMsg.calls (k : Nat) (a0 : ByteArray) (a1_0 : Int) (a1_1 : Int) (a1_2 : Int) (a1_3 : Int) (A1_4 : Option Addr) (c1_4 : Nat) (l1_4 : List (S116)) (r : List Int) (w : World) (hr1_4 : Kd.C k116 w A1_4 l1_4.length l1_4) (hc1_4 : l1_4.length ≤ c1_4) (h : spec_PutMsg.f k a0 a1_0 a1_1 a1_2 a1_3 l1_4 = some r) :
 Calls Try.prog 51 #[.string a0, .agg #[.int .i64 a1_0, .int .i64 a1_1, .int .i64 a1_2, .int .i64 a1_3, .slice A1_4 l1_4.length c1_4]] w fun e w' => ∃ v0_ : Value, e = .returned (v0_) ∧ Kd.R (Kd.int .u8) 5 w' w.heap.size (fun _ => True) v0_ r ∧ Below w.heap.size w w' := by
 have hu58 := Try.underlying58
 have HR1_4 := am hr1_4
 have HC1_4 := am hc1_4
 clear hr1_4 hc1_4
 have HB := am (Below.refl w.heap.size w)
 have H : ((spec_PutPdu.f k a1_0 a1_1 a1_2 a1_3 l1_4).bind fun t355 => (if (t355.length : Int) = 0 then (spec_PutMsg.j0 k a0 t355 true) else (spec_PutMsg.j0 k a0 t355 (decide ((a0.size : Int) > 20))))) = some r := h
 clear h
 replace H := Option.bind_eq_some_iff.mp H
 obtain ⟨t355, A30, H⟩ := H
 replace H : (if (t355.length : Int) = 0 then (spec_PutMsg.j0 k a0 t355 true) else (spec_PutMsg.j0 k a0 t355 (decide ((a0.size : Int) > 20)))) = some r := H
 have A3 := am A30
 clear A30
 have HC4 := am H
 clear H
 go_enter Try.func51, Try.ntmps51
 go_upto_region 2 with (first | ((with_reducible refine gate_dst (N := 3) rfl ?_); (try (refine gate_guard (by rfl) ?_; dsimp only)); refine bxe 3 #[.int .i64 a1_0, .int .i64 a1_1, .int .i64 a1_2, .int .i64 a1_3, .slice A1_4 l1_4.length c1_4] 58 ?_; intro gb354 hg w5 hbox hb; have n_ := ak4 (below_step (bq HB.out) hb) hbox ((by rw [hg]; exact (below_size (bq HB.out)) : w.heap.size ≤ gb354)) ((by rw [hg]; exact (below_size (bq HB.out)) : w.heap.size ≤ gb354)); clear HB; obtain ⟨HB, BK354, GW354, GE354⟩ := n_; clear hb hbox hg; obtain ⟨hcz6_0, hcz6_1, hcz6_2, hcz6_3, hcz6_4, hfz6_0, hfz6_1, hfz6_2, hfz6_3, hfz6_4⟩ := cl5 BK354.out) | ((with_reducible refine gate_callee (f := 39) rfl ?_); refine goesL_ (some 8) rfl rfl Try.func39 (by kernel_rfl) rfl #[.agg #[.int .i64 a1_0, .int .i64 a1_1, .int .i64 a1_2, .int .i64 a1_3, .slice A1_4 l1_4.length c1_4]] rfl ga ?_; (with_reducible refine (spec_PutPdu.calls k a1_0 a1_1 a1_2 a1_3 _ _ l1_4 t355 _ ?side1 ?side2 A3.out).mono ?_); (case side1 => exact cq (Kd.C_below HR1_4.out HB.out)); (case side2 => exact HC1_4.out); rintro e w7 ⟨v356, rfl, ho0, hb⟩; refine ⟨_, rfl, ?_⟩; have n_ := ak3 (Kd.R_lower ho0 (below_size (bq1 HB.out GE354.out))) (blk_below (zb BK354.out) hb) (below_step (bq1 HB.out GE354.out) hb); clear BK354 HB; obtain ⟨HO357, BK354, HB⟩ := n_; (try clear hb ho0)))
 (try simp only [Act.put, List.setIfInBounds_toArray, List.set_cons_zero, List.set_cons_succ])
 go_cut [16] (fun v16 wc => ∃ (kq : Nat) (x16_3 : Bool), v16 = .bool x16_3 ∧ Aside0 (spec_PutMsg.j0 kq a0 t355 x16_3 = some r) ∧ Aside0 (kq ≤ k) ∧ Aside0 (Kd.R (Kd.int .u8) 5 wc w.heap.size (fun _ => True) v356 t355) ∧ Aside0 (wc.heap[gb354]? = some (.cells #[.int .i64 a1_0, .int .i64 a1_1, .int .i64 a1_2, .int .i64 a1_3, (.slice A1_4 l1_4.length c1_4)] 58 (0, 0))) ∧ Aside0 (Below w.heap.size w wc))
 case first =>
  have H := HC4.out
  clear HC4
  by_cases c8 : (t355.length : Int) = 0
  · rw [if_pos c8] at H
    have c8b0 : ((t355.length : Int) == 0) = true := beq_iff_eq.mpr c8
    have c8b1 : ((t355.length : Int) != 0) = false := bne_eq_false_iff_eq.mpr c8
    clear c8
    (first | rw [c8b0] | (simp only [i64_w, i32_w]; rw [c8b0]) | skip)
    have H' := am H
    clear H
    obtain ⟨Ao9, co9, eo9⟩ := Kd.R_slice HO357.out
    subst eo9
    go_wp2
    go_meet
    case rel => exact ⟨_, (true), sq, H', ⟨by first | omega | exact Nat.le_refl _⟩, ⟨kqR HO357.out⟩, ⟨zq BK354.out⟩, ⟨bq1 HB.out GE354.out⟩⟩
  rw [if_neg c8] at H
  have c8b0 : ((t355.length : Int) == 0) = false := beq_eq_false_iff_ne.mpr c8
  have c8b1 : ((t355.length : Int) != 0) = true := bne_iff_ne.mpr c8
  have c8b2 : ¬ (t355 = []) := fun h_ => c8 (by rw [h_]; rfl)
  (first | rw [c8b0] | (simp only [i64_w, i32_w]; rw [c8b0]) | skip)
  have H' := am H
  clear H
  obtain ⟨Ao10, co10, eo10⟩ := Kd.R_slice HO357.out
  subst eo10
  go_wp2
  go_meet
  case rel => exact ⟨_, (decide ((a0.size : Int) > 20)), sq, H', ⟨by first | omega | exact Nat.le_refl _⟩, ⟨kqR HO357.out⟩, ⟨zq BK354.out⟩, ⟨bq1 HB.out GE354.out⟩⟩
 case rest =>
  clear HC4
  try clear c1
  try clear p2
  try clear c3
  try clear c5
  try clear c8
  try clear c8b0
  try clear c8b1
  try clear c8b2
  try clear hcz6_0
  try clear hcz6_1
  try clear hcz6_2
  try clear hcz6_3
  try clear hcz6_4
  try clear hfz6_0
  try clear hfz6_1
  try clear hfz6_2
  try clear hfz6_3
  try clear hfz6_4
  obtain ⟨kq, x16_3, rfl, HA, HJ3, HO_5, BK354, HB⟩ := hcut
  cases kq with
  | zero => exact absurd HA.out (by simp [spec_PutMsg.j0])
  | succ kj3 =>
   have H := HA.out
   clear HA
   simp only [spec_PutMsg.j0] at H
   by_cases c11 : x16_3 = true
   · subst c11
     replace H : (some (([] : List Int))) = some r := by rw [if_pos rfl] at H; exact H
     obtain ⟨y358, hy358⟩ : ∃ y_ : List Int, y_ = (([] : List Int)) := ⟨_, rfl⟩
     replace H : (some y358) = some r := hx H hy358
     have Ny358 := am hy358
     clear hy358
     obtain rfl := Option.some.inj H
     go_wp2_with (first | ((with_reducible refine gate_dst (N := 17) rfl ?_); (try (refine gate_guard (by rfl) ?_; dsimp only)); refine Kd.R_lit (Kd.int .u8) _ 5 ?hg (N := 17) ?hd (xs := ([] : List Int)) (inner := []) (ok := fun _ => True) (okp := fun _ => True) ?hr ?hp (fun _ hk => hk) trivial (Below.refl _ _) (Nat.le_refl _) (by simp) ?_; (case hd => rfl); (case hg => rfl); (case hr => exact gs); (case hp => exact (Reps.none _ _)); intro v359 w12 ho13 hb hg_ hnew_; clear hg_ hnew_; (first | rw [← Ny358.out] at ho13 | (simp only [Int.reduceToNat] at ho13; rw [← Ny358.out] at ho13)); have n_ := ak4 (Kd.R_elder' (kqR HO_5.out) (Kd.R_base ho13) hb) (Kd.R_lower (Kd.R_new' ho13 (Kd.R_lt (kqR HO_5.out))) (below_size (bq1 HB.out GE354.out))) (blk_below (zb BK354.out) hb) (below_step (bq1 HB.out GE354.out) hb); clear HO_5 BK354 HB; obtain ⟨HO_5, HO360, BK354, HB⟩ := n_; clear hb ho13))
     go_ret
     exact ⟨_, rq, by refine kr ?_; exact Kd.R_mono HO360.out (fun _ hk => trivial), bq1 HB.out GE354.out⟩
   replace c11 := Bool.eq_false_iff.mpr c11
   subst c11
   replace H : ((spec_PutInt.f kj3 1).bind fun t364 => ((spec_PutTlv.f kj3 (([] : List Int)) 2 t364).bind fun t367 => (if (a0.size : Int) < 140737488355328 then ((spec_PutTlv.f kj3 t367 4 (bytesOf a0)).bind fun t373 => (if t373.length + t355.length < 140737488355328 then ((some (t373 ++ t355 : List Int)).bind fun y376 => (if (y376.length : Int) > 250 then (some (([] : List Int))) else ((spec_PutTlv.f kj3 (([] : List Int)) 48 y376).bind fun t385 => (some t385)))) else (none))) else (none)))) = some r := by rw [if_neg (show ¬ (false = true) by decide)] at H; exact H
   obtain ⟨y361, hy361⟩ : ∃ y_ : List Int, y_ = (([] : List Int)) := ⟨_, rfl⟩
   replace H : ((spec_PutInt.f kj3 1).bind fun t364 => ((spec_PutTlv.f kj3 y361 2 t364).bind fun t367 => (if (a0.size : Int) < 140737488355328 then ((spec_PutTlv.f kj3 t367 4 (bytesOf a0)).bind fun t373 => (if t373.length + t355.length < 140737488355328 then ((some (t373 ++ t355 : List Int)).bind fun y376 => (if (y376.length : Int) > 250 then (some (([] : List Int))) else ((spec_PutTlv.f kj3 (([] : List Int)) 48 y376).bind fun t385 => (some t385)))) else (none))) else (none)))) = some r := hx H hy361
   have Ny361 := am hy361
   clear hy361
   replace H := Option.bind_eq_some_iff.mp H
   obtain ⟨t364, A140, H⟩ := H
   replace H : ((spec_PutTlv.f kj3 y361 2 t364).bind fun t367 => (if (a0.size : Int) < 140737488355328 then ((spec_PutTlv.f kj3 t367 4 (bytesOf a0)).bind fun t373 => (if t373.length + t355.length < 140737488355328 then ((some (t373 ++ t355 : List Int)).bind fun y376 => (if (y376.length : Int) > 250 then (some (([] : List Int))) else ((spec_PutTlv.f kj3 (([] : List Int)) 48 y376).bind fun t385 => (some t385)))) else (none))) else (none))) = some r := H
   have A14 := am A140
   clear A140
   replace H := Option.bind_eq_some_iff.mp H
   obtain ⟨t367, A150, H⟩ := H
   replace H : (if (a0.size : Int) < 140737488355328 then ((spec_PutTlv.f kj3 t367 4 (bytesOf a0)).bind fun t373 => (if t373.length + t355.length < 140737488355328 then ((some (t373 ++ t355 : List Int)).bind fun y376 => (if (y376.length : Int) > 250 then (some (([] : List Int))) else ((spec_PutTlv.f kj3 (([] : List Int)) 48 y376).bind fun t385 => (some t385)))) else (none))) else (none)) = some r := H
   have A15 := am A150
   clear A150
   by_cases c16 : (a0.size : Int) < 140737488355328
   rotate_left
   · rw [if_neg c16] at H
     exact absurd H (by simp)
   rw [if_pos c16] at H
   have c16b0 := eq_true c16
   have c16b1 : decide ((a0.size : Int) < 140737488355328) = true := decide_eq_true c16
   clear c16
   obtain ⟨y370, hy370⟩ : ∃ y_ : List Int, y_ = (bytesOf a0) := ⟨_, rfl⟩
   replace H : ((spec_PutTlv.f kj3 t367 4 y370).bind fun t373 => (if t373.length + t355.length < 140737488355328 then ((some (t373 ++ t355 : List Int)).bind fun y376 => (if (y376.length : Int) > 250 then (some (([] : List Int))) else ((spec_PutTlv.f kj3 (([] : List Int)) 48 y376).bind fun t385 => (some t385)))) else (none))) = some r := hx H hy370
   have Ny370 := am hy370
   clear hy370
   replace H := Option.bind_eq_some_iff.mp H
   obtain ⟨t373, A170, H⟩ := H
   replace H : (if t373.length + t355.length < 140737488355328 then ((some (t373 ++ t355 : List Int)).bind fun y376 => (if (y376.length : Int) > 250 then (some (([] : List Int))) else ((spec_PutTlv.f kj3 (([] : List Int)) 48 y376).bind fun t385 => (some t385)))) else (none)) = some r := H
   have A17 := am A170
   clear A170
   by_cases c18 : t373.length + t355.length < 140737488355328
   rotate_left
   · rw [if_neg c18] at H
     exact absurd H (by simp)
   rw [if_pos c18] at H
   have LMc18 := am c18
   clear c18
   obtain ⟨y376, hy376⟩ : ∃ y_ : List Int, y_ = (t373 ++ t355) := ⟨_, rfl⟩
   replace H : (if (y376.length : Int) > 250 then (some (([] : List Int))) else ((spec_PutTlv.f kj3 (([] : List Int)) 48 y376).bind fun t385 => (some t385))) = some r := hx H hy376
   have Ny376 := am hy376
   clear hy376
   by_cases c19 : (y376.length : Int) > 250
   · rw [if_pos c19] at H
     have c19b0 : decide (250 < (y376.length : Int)) = true := decide_eq_true c19
     have c19b1 : decide (250 < y376.length) = true := decide_eq_true (by omega)
     clear c19
     obtain ⟨y379, hy379⟩ : ∃ y_ : List Int, y_ = (([] : List Int)) := ⟨_, rfl⟩
     replace H : (some y379) = some r := hx H hy379
     have Ny379 := am hy379
     clear hy379
     obtain rfl := Option.some.inj H
     go_wp2_with (first | ((with_reducible refine gate_dst (N := 18) rfl ?_); (try (refine gate_guard (by rfl) ?_; dsimp only)); refine Kd.R_lit (Kd.int .u8) _ 5 ?hg (N := 18) ?hd (xs := ([] : List Int)) (inner := []) (ok := fun _ => True) (okp := fun _ => True) ?hr ?hp (fun _ hk => hk) trivial (Below.refl _ _) (Nat.le_refl _) (by simp) ?_; (case hd => rfl); (case hg => rfl); (case hr => exact gs); (case hp => exact (Reps.none _ _)); intro v362 w20 ho21 hb hg_ hnew_; clear hg_ hnew_; (first | rw [← Ny361.out] at ho21 | (simp only [Int.reduceToNat] at ho21; rw [← Ny361.out] at ho21)); have n_ := ak4 (Kd.R_elder' (kqR HO_5.out) (Kd.R_base ho21) hb) (Kd.R_lower (Kd.R_new' ho21 (Kd.R_lt (kqR HO_5.out))) (below_size (bq1 HB.out GE354.out))) (blk_below (zb BK354.out) hb) (below_step (bq1 HB.out GE354.out) hb); clear HO_5 BK354 HB; obtain ⟨HO_5, HO363, BK354, HB⟩ := n_; clear hb ho21) | ((with_reducible refine gate_callee (f := 64) rfl ?_); refine goesL_ (some 19) rfl rfl Try.func64 (by kernel_rfl) rfl #[.int .i64 1] rfl ga ?_; (with_reducible refine (spec_PutInt.calls kj3 1 t364 _ A14.out).mono ?_); rintro e w22 ⟨v365, rfl, ho0, hb⟩; refine ⟨_, rfl, ?_⟩; have n_ := ak5 (Kd.R_elder' (kqR HO_5.out) (Kd.R_base ho0) hb) (Kd.R_elder' (kqR HO363.out) (Kd.R_base ho0) hb) (Kd.R_lower (Kd.R_new' (Kd.R_new' ho0 (Kd.R_lt (kqR HO_5.out))) (Kd.R_lt (kqR HO363.out))) (below_size (bq1 HB.out GE354.out))) (blk_below (zb BK354.out) hb) (below_step (bq1 HB.out GE354.out) hb); clear HO_5 HO363 BK354 HB; obtain ⟨HO_5, HO363, HO366, BK354, HB⟩ := n_; (try clear hb ho0); obtain ⟨Ao23, co23, eo23⟩ := Kd.R_slice HO363.out; subst eo23; obtain ⟨Ao24, co24, eo24⟩ := Kd.R_slice HO366.out; subst eo24) | ((with_reducible refine gate_callee (f := 66) rfl ?_); refine goesL_ (some 20) rfl rfl Try.func66 (by kernel_rfl) rfl #[.slice Ao23 y361.length co23, .int .i64 2, .slice Ao24 t364.length co24] rfl ga ?_; (with_reducible refine (spec_PutTlv.calls kj3 _ _ y361 2 _ _ t364 t367 _ ?side1 ?side2 ?side3 ?side4 A15.out).mono ?_); (case side1 => repeat (first | exact (Kd.R_reads' HO363.out).2.2 | (with_reducible refine Kd.C_alloc ?_ _) | (with_reducible refine Kd.C_drewN ?_ _) | (with_reducible refine Kd.C_drew ?_))); (case side2 => exact (Kd.R_reads' HO363.out).2.1); (case side3 => repeat (first | exact (Kd.R_reads' HO366.out).2.2 | (with_reducible refine Kd.C_alloc ?_ _) | (with_reducible refine Kd.C_drewN ?_ _) | (with_reducible refine Kd.C_drew ?_))); (case side4 => exact (Kd.R_reads' HO366.out).2.1); rintro e w25 ⟨v368, rfl, ho0, hb⟩; refine ⟨_, rfl, ?_⟩; have n_ := ak6 (Kd.R_elder' (kqR HO_5.out) (Kd.R_base ho0) hb) (Kd.R_elder' (kqR HO363.out) (Kd.R_base ho0) hb) (Kd.R_elder' (kqR HO366.out) (Kd.R_base ho0) hb) (Kd.R_lower (Kd.R_new' (Kd.R_new' (Kd.R_new' ho0 (Kd.R_lt (kqR HO_5.out))) (Kd.R_lt (kqR HO363.out))) (Kd.R_lt (kqR HO366.out))) (below_size (bq1 HB.out GE354.out))) (blk_below (zb BK354.out) hb) (below_step (bq1 HB.out GE354.out) hb); clear HO_5 HO363 HO366 BK354 HB; obtain ⟨HO_5, HO363, HO366, HO369, BK354, HB⟩ := n_; (try clear hb ho0)) | ((with_reducible refine gate_dst (N := 22) rfl ?_); (try (refine gate_guard (by rfl) ?_; dsimp only)); refine strb_event ?hg (N := 22) ?hd 9 22 5 (x := .tmp 21) ?ho (s := a0) (y := y370) Ny370.out ?hx Try.underlying9 Try.underlying22 Try.underlying5 (by have h_ : (a0.size : Int) < (140737488355328 : Int) := oda; omega) ?_; (case hd => rfl); (case hg => rfl); (case ho => rfl); (case hx => first | (go_simp; done) | (go_simp; rfl)); intro As370 cs370 w26 hs_ hl_ hb; have n_ := ak8 (Kd.R_below (kqR HO_5.out) hb) (Kd.R_below (kqR HO363.out) hb) (Kd.R_below (kqR HO366.out) hb) (Kd.R_below (kqR HO369.out) hb) (blk_below (zb BK354.out) hb) (below_step (bq1 HB.out GE354.out) hb) hs_ hl_; clear HO_5 HO363 HO366 HO369 BK354 HB; obtain ⟨HO_5, HO363, HO366, HO369, BK354, HB, HRs370, HCs370⟩ := n_; clear hb hs_ hl_; obtain ⟨Ao27, co27, eo27⟩ := Kd.R_slice HO369.out; subst eo27) | ((with_reducible refine gate_callee (f := 66) rfl ?_); refine goesL_ (some 23) rfl rfl Try.func66 (by kernel_rfl) rfl #[.slice Ao27 t367.length co27, .int .i64 4, .slice As370 y370.length cs370] rfl ga ?_; (with_reducible refine (spec_PutTlv.calls kj3 _ _ t367 4 _ _ y370 t373 _ ?side1 ?side2 ?side3 ?side4 A17.out).mono ?_); (case side1 => repeat (first | exact (Kd.R_reads' HO369.out).2.2 | (with_reducible refine Kd.C_alloc ?_ _) | (with_reducible refine Kd.C_drewN ?_ _) | (with_reducible refine Kd.C_drew ?_))); (case side2 => exact (Kd.R_reads' HO369.out).2.1); (case side3 => repeat (first | exact (by repeat (first | (with_reducible exact HRs370.out) | (with_reducible refine Kd.C_alloc ?_ _) | (with_reducible refine Kd.C_drewN ?_ _) | (with_reducible refine Kd.C_drew ?_) | exact HRs370.out)) | (with_reducible refine Kd.C_alloc ?_ _) | (with_reducible refine Kd.C_drewN ?_ _) | (with_reducible refine Kd.C_drew ?_))); (case side4 => exact HCs370.out); rintro e w28 ⟨v374, rfl, ho0, hb⟩; refine ⟨_, rfl, ?_⟩; have n_ := ak8 (Kd.R_elder' (kqR HO_5.out) (Kd.R_base ho0) hb) (Kd.R_elder' (kqR HO363.out) (Kd.R_base ho0) hb) (Kd.R_elder' (kqR HO366.out) (Kd.R_base ho0) hb) (Kd.R_elder' (kqR HO369.out) (Kd.R_base ho0) hb) (Kd.R_lower (Kd.R_new' (Kd.R_new' (Kd.R_new' (Kd.R_new' ho0 (Kd.R_lt (kqR HO_5.out))) (Kd.R_lt (kqR HO363.out))) (Kd.R_lt (kqR HO366.out))) (Kd.R_lt (kqR HO369.out))) (below_size (bq1 HB.out GE354.out))) (blk_below (zb BK354.out) hb) (Kd.C_below (by repeat (first | (with_reducible exact HRs370.out) | (with_reducible refine Kd.C_alloc ?_ _) | (with_reducible refine Kd.C_drewN ?_ _) | (with_reducible refine Kd.C_drew ?_) | exact HRs370.out)) hb) (below_step (bq1 HB.out GE354.out) hb); clear HO_5 HO363 HO366 HO369 BK354 HRs370 HB; obtain ⟨HO_5, HO363, HO366, HO369, HO375, BK354, HRs370, HB⟩ := n_; (try clear hb ho0); obtain ⟨Ao30, co30, eo30⟩ := Kd.R_slice HO_5.out; subst eo30) | ((with_reducible refine gate_builtin (b := .append) (xs := #[.tmp 23, .tmp 24]) rfl ?_); (try (refine gate_guard (by rfl) ?_; dsimp only)); at_builtin; refine Kd.R_append_rows (Kd.int .u8) (w0 := w) w.heap.size rfl (.tmp 23) (.tmp 24) 22 5 (.int .u8 0) 1 rfl Try.underlying22 info5 rfl (by decide) (by omega) v374 t373 t355 _ _ _ (fun k_ => some k_ ≠ (.slice Ao30 t355.length co30 : Value).ownBlock ∧ some k_ ≠ (.slice Ao23 y361.length co23 : Value).ownBlock ∧ some k_ ≠ (.slice Ao24 t364.length co24 : Value).ownBlock ∧ some k_ ≠ (.slice Ao27 t367.length co27 : Value).ownBlock) (fun _ => False) rfl rfl ?aO ?aR (fun _ _ h => h) (fun _ h => h.elim) ?aF ?aB ?aS ?aL ?_; (case aR => repeat (first | exact (Kd.R_reads' HO_5.out).2.2 | (with_reducible refine Kd.C_alloc ?_ _) | (with_reducible refine Kd.C_drewN ?_ _) | (with_reducible refine Kd.C_drew ?_))); (case aB => exact (bq1 HB.out GE354.out)); (case aF => exact (fun k_ hk => ⟨Kd.fresh' (Kd.R_lt (kqR HO_5.out)) k_ hk, Kd.fresh' (Kd.R_lt (kqR HO363.out)) k_ hk, Kd.fresh' (Kd.R_lt (kqR HO366.out)) k_ hk, Kd.fresh' (Kd.R_lt (kqR HO369.out)) k_ hk⟩)); (case aO => exact (by refine kr ?_; exact Kd.R_mono HO375.out (fun _ hk => ⟨hk.1.1.1.2, ⟨hk.1.1.2, ⟨hk.1.2, hk.2⟩⟩⟩))); (case aS => exact (below_size (bq1 HB.out GE354.out))); (case aL => have := LMc18.out; omega); intro v377 w29 ho hb hg hat; rw [← Ny376.out] at ho; have n_ := ak7 (Kd.R_after (ok := (fun k_ => some k_ ≠ (.slice Ao23 y361.length co23 : Value).ownBlock ∧ some k_ ≠ (.slice Ao24 t364.length co24 : Value).ownBlock ∧ some k_ ≠ (.slice Ao27 t367.length co27 : Value).ownBlock)) (by refine kr ?_; exact Kd.R_mono HO_5.out (fun _ hk => ⟨⟨hk.1.1.1.2, ⟨hk.1.1.2, hk.1.2⟩⟩, hk.2⟩)) hg hat) (blk_grown (g := gb354) (o := .cells #[.int .i64 a1_0, .int .i64 a1_1, .int .i64 a1_2, .int .i64 a1_3, .slice A1_4 l1_4.length c1_4] 58 (0, 0)) (zq BK354.out) hg (Kd.R_ne HO375.out BK354.out (by decide))) (Kd.R_after (ok := (fun k_ => some k_ ≠ (.slice Ao30 t355.length co30 : Value).ownBlock ∧ some k_ ≠ (.slice Ao24 t364.length co24 : Value).ownBlock ∧ some k_ ≠ (.slice Ao27 t367.length co27 : Value).ownBlock)) (by refine kr ?_; exact Kd.R_mono HO363.out (fun _ hk => ⟨⟨hk.1.1.1.2, ⟨hk.1.1.2, hk.1.2⟩⟩, hk.2⟩)) hg hat) (Kd.R_after (ok := (fun k_ => some k_ ≠ (.slice Ao30 t355.length co30 : Value).ownBlock ∧ some k_ ≠ (.slice Ao23 y361.length co23 : Value).ownBlock ∧ some k_ ≠ (.slice Ao27 t367.length co27 : Value).ownBlock)) (by refine kr ?_; exact Kd.R_mono HO366.out (fun _ hk => ⟨⟨hk.1.1.1.2, ⟨hk.1.1.2, hk.1.2⟩⟩, hk.2⟩)) hg hat) (Kd.R_after (ok := (fun k_ => some k_ ≠ (.slice Ao30 t355.length co30 : Value).ownBlock ∧ some k_ ≠ (.slice Ao23 y361.length co23 : Value).ownBlock ∧ some k_ ≠ (.slice Ao24 t364.length co24 : Value).ownBlock)) (by refine kr ?_; exact Kd.R_mono HO369.out (fun _ hk => ⟨⟨hk.1.1.1.2, ⟨hk.1.1.2, hk.1.2⟩⟩, hk.2⟩)) hg hat) hb ho; clear HO_5 BK354 HO363 HO366 HO369 HB HO375; obtain ⟨HO_5, BK354, HO363, HO366, HO369, HB, HO378⟩ := n_; clear ho hb hg hat; obtain ⟨Ao31, co31, eo31⟩ := Kd.R_slice HO378.out; subst eo31) | ((with_reducible refine gate_dst (N := 29) rfl ?_); (try (refine gate_guard (by rfl) ?_; dsimp only)); refine Kd.R_lit (Kd.int .u8) _ 5 ?hg (N := 29) ?hd (xs := ([] : List Int)) (inner := []) (ok := fun _ => True) (okp := fun _ => True) ?hr ?hp (fun _ hk => hk) trivial (Below.refl _ _) (Nat.le_refl _) (by simp) ?_; (case hd => rfl); (case hg => rfl); (case hr => exact gs); (case hp => exact (Reps.none _ _)); intro v380 w32 ho33 hb hg_ hnew_; clear hg_ hnew_; (first | rw [← Ny379.out] at ho33 | (simp only [Int.reduceToNat] at ho33; rw [← Ny379.out] at ho33)); have n_ := ak8 (Kd.R_elder' (kqR HO_5.out) (Kd.R_base ho33) hb) (Kd.R_elder' (kqR HO363.out) (Kd.R_base ho33) hb) (Kd.R_elder' (kqR HO366.out) (Kd.R_base ho33) hb) (Kd.R_elder' (kqR HO369.out) (Kd.R_base ho33) hb) (Kd.R_elder' (kqR HO378.out) (Kd.R_base ho33) hb) (Kd.R_lower (Kd.R_new' (Kd.R_new' (Kd.R_new' (Kd.R_new' (Kd.R_new' ho33 (Kd.R_lt (kqR HO_5.out))) (Kd.R_lt (kqR HO363.out))) (Kd.R_lt (kqR HO366.out))) (Kd.R_lt (kqR HO369.out))) (Kd.R_lt (kqR HO378.out))) (below_size (bq1 HB.out GE354.out))) (blk_below (zb BK354.out) hb) (below_step (bq1 HB.out GE354.out) hb); clear HO_5 HO363 HO366 HO369 HO378 BK354 HB; obtain ⟨HO_5, HO363, HO366, HO369, HO378, HO381, BK354, HB⟩ := n_; clear hb ho33))
     go_ret
     exact ⟨_, rq, by refine kr ?_; exact Kd.R_mono HO381.out (fun _ hk => trivial), bq1 HB.out GE354.out⟩
   rw [if_neg c19] at H
   have c19b0 : decide (250 < (y376.length : Int)) = false := decide_eq_false c19
   have c19b1 : decide (250 < y376.length) = false := decide_eq_false (by omega)
   clear c19
   obtain ⟨y382, hy382⟩ : ∃ y_ : List Int, y_ = (([] : List Int)) := ⟨_, rfl⟩
   replace H : ((spec_PutTlv.f kj3 y382 48 y376).bind fun t385 => (some t385)) = some r := hx H hy382
   have Ny382 := am hy382
   clear hy382
   replace H := Option.bind_eq_some_iff.mp H
   obtain ⟨t385, A340, H⟩ := H
   replace H : (some t385) = some r := H
   have A34 := am A340
   clear A340
   obtain rfl := Option.some.inj H
   go_wp2_with (first | ((with_reducible refine gate_dst (N := 18) rfl ?_); (try (refine gate_guard (by rfl) ?_; dsimp only)); refine Kd.R_lit (Kd.int .u8) _ 5 ?hg (N := 18) ?hd (xs := ([] : List Int)) (inner := []) (ok := fun _ => True) (okp := fun _ => True) ?hr ?hp (fun _ hk => hk) trivial (Below.refl _ _) (Nat.le_refl _) (by simp) ?_; (case hd => rfl); (case hg => rfl); (case hr => exact gs); (case hp => exact (Reps.none _ _)); intro v362 w35 ho36 hb hg_ hnew_; clear hg_ hnew_; (first | rw [← Ny361.out] at ho36 | (simp only [Int.reduceToNat] at ho36; rw [← Ny361.out] at ho36)); have n_ := ak4 (Kd.R_elder' (kqR HO_5.out) (Kd.R_base ho36) hb) (Kd.R_lower (Kd.R_new' ho36 (Kd.R_lt (kqR HO_5.out))) (below_size (bq1 HB.out GE354.out))) (blk_below (zb BK354.out) hb) (below_step (bq1 HB.out GE354.out) hb); clear HO_5 BK354 HB; obtain ⟨HO_5, HO363, BK354, HB⟩ := n_; clear hb ho36) | ((with_reducible refine gate_callee (f := 64) rfl ?_); refine goesL_ (some 19) rfl rfl Try.func64 (by kernel_rfl) rfl #[.int .i64 1] rfl ga ?_; (with_reducible refine (spec_PutInt.calls kj3 1 t364 _ A14.out).mono ?_); rintro e w37 ⟨v365, rfl, ho0, hb⟩; refine ⟨_, rfl, ?_⟩; have n_ := ak5 (Kd.R_elder' (kqR HO_5.out) (Kd.R_base ho0) hb) (Kd.R_elder' (kqR HO363.out) (Kd.R_base ho0) hb) (Kd.R_lower (Kd.R_new' (Kd.R_new' ho0 (Kd.R_lt (kqR HO_5.out))) (Kd.R_lt (kqR HO363.out))) (below_size (bq1 HB.out GE354.out))) (blk_below (zb BK354.out) hb) (below_step (bq1 HB.out GE354.out) hb); clear HO_5 HO363 BK354 HB; obtain ⟨HO_5, HO363, HO366, BK354, HB⟩ := n_; (try clear hb ho0); obtain ⟨Ao38, co38, eo38⟩ := Kd.R_slice HO363.out; subst eo38; obtain ⟨Ao39, co39, eo39⟩ := Kd.R_slice HO366.out; subst eo39) | ((with_reducible refine gate_callee (f := 66) rfl ?_); refine goesL_ (some 20) rfl rfl Try.func66 (by kernel_rfl) rfl #[.slice Ao38 y361.length co38, .int .i64 2, .slice Ao39 t364.length co39] rfl ga ?_; (with_reducible refine (spec_PutTlv.calls kj3 _ _ y361 2 _ _ t364 t367 _ ?side1 ?side2 ?side3 ?side4 A15.out).mono ?_); (case side1 => repeat (first | exact (Kd.R_reads' HO363.out).2.2 | (with_reducible refine Kd.C_alloc ?_ _) | (with_reducible refine Kd.C_drewN ?_ _) | (with_reducible refine Kd.C_drew ?_))); (case side2 => exact (Kd.R_reads' HO363.out).2.1); (case side3 => repeat (first | exact (Kd.R_reads' HO366.out).2.2 | (with_reducible refine Kd.C_alloc ?_ _) | (with_reducible refine Kd.C_drewN ?_ _) | (with_reducible refine Kd.C_drew ?_))); (case side4 => exact (Kd.R_reads' HO366.out).2.1); rintro e w40 ⟨v368, rfl, ho0, hb⟩; refine ⟨_, rfl, ?_⟩; have n_ := ak6 (Kd.R_elder' (kqR HO_5.out) (Kd.R_base ho0) hb) (Kd.R_elder' (kqR HO363.out) (Kd.R_base ho0) hb) (Kd.R_elder' (kqR HO366.out) (Kd.R_base ho0) hb) (Kd.R_lower (Kd.R_new' (Kd.R_new' (Kd.R_new' ho0 (Kd.R_lt (kqR HO_5.out))) (Kd.R_lt (kqR HO363.out))) (Kd.R_lt (kqR HO366.out))) (below_size (bq1 HB.out GE354.out))) (blk_below (zb BK354.out) hb) (below_step (bq1 HB.out GE354.out) hb); clear HO_5 HO363 HO366 BK354 HB; obtain ⟨HO_5, HO363, HO366, HO369, BK354, HB⟩ := n_; (try clear hb ho0)) | ((with_reducible refine gate_dst (N := 22) rfl ?_); (try (refine gate_guard (by rfl) ?_; dsimp only)); refine strb_event ?hg (N := 22) ?hd 9 22 5 (x := .tmp 21) ?ho (s := a0) (y := y370) Ny370.out ?hx Try.underlying9 Try.underlying22 Try.underlying5 (by have h_ : (a0.size : Int) < (140737488355328 : Int) := oda; omega) ?_; (case hd => rfl); (case hg => rfl); (case ho => rfl); (case hx => first | (go_simp; done) | (go_simp; rfl)); intro As370 cs370 w41 hs_ hl_ hb; have n_ := ak8 (Kd.R_below (kqR HO_5.out) hb) (Kd.R_below (kqR HO363.out) hb) (Kd.R_below (kqR HO366.out) hb) (Kd.R_below (kqR HO369.out) hb) (blk_below (zb BK354.out) hb) (below_step (bq1 HB.out GE354.out) hb) hs_ hl_; clear HO_5 HO363 HO366 HO369 BK354 HB; obtain ⟨HO_5, HO363, HO366, HO369, BK354, HB, HRs370, HCs370⟩ := n_; clear hb hs_ hl_; obtain ⟨Ao42, co42, eo42⟩ := Kd.R_slice HO369.out; subst eo42) | ((with_reducible refine gate_callee (f := 66) rfl ?_); refine goesL_ (some 23) rfl rfl Try.func66 (by kernel_rfl) rfl #[.slice Ao42 t367.length co42, .int .i64 4, .slice As370 y370.length cs370] rfl ga ?_; (with_reducible refine (spec_PutTlv.calls kj3 _ _ t367 4 _ _ y370 t373 _ ?side1 ?side2 ?side3 ?side4 A17.out).mono ?_); (case side1 => repeat (first | exact (Kd.R_reads' HO369.out).2.2 | (with_reducible refine Kd.C_alloc ?_ _) | (with_reducible refine Kd.C_drewN ?_ _) | (with_reducible refine Kd.C_drew ?_))); (case side2 => exact (Kd.R_reads' HO369.out).2.1); (case side3 => repeat (first | exact (by repeat (first | (with_reducible exact HRs370.out) | (with_reducible refine Kd.C_alloc ?_ _) | (with_reducible refine Kd.C_drewN ?_ _) | (with_reducible refine Kd.C_drew ?_) | exact HRs370.out)) | (with_reducible refine Kd.C_alloc ?_ _) | (with_reducible refine Kd.C_drewN ?_ _) | (with_reducible refine Kd.C_drew ?_))); (case side4 => exact HCs370.out); rintro e w43 ⟨v374, rfl, ho0, hb⟩; refine ⟨_, rfl, ?_⟩; have n_ := ak8 (Kd.R_elder' (kqR HO_5.out) (Kd.R_base ho0) hb) (Kd.R_elder' (kqR HO363.out) (Kd.R_base ho0) hb) (Kd.R_elder' (kqR HO366.out) (Kd.R_base ho0) hb) (Kd.R_elder' (kqR HO369.out) (Kd.R_base ho0) hb) (Kd.R_lower (Kd.R_new' (Kd.R_new' (Kd.R_new' (Kd.R_new' ho0 (Kd.R_lt (kqR HO_5.out))) (Kd.R_lt (kqR HO363.out))) (Kd.R_lt (kqR HO366.out))) (Kd.R_lt (kqR HO369.out))) (below_size (bq1 HB.out GE354.out))) (blk_below (zb BK354.out) hb) (Kd.C_below (by repeat (first | (with_reducible exact HRs370.out) | (with_reducible refine Kd.C_alloc ?_ _) | (with_reducible refine Kd.C_drewN ?_ _) | (with_reducible refine Kd.C_drew ?_) | exact HRs370.out)) hb) (below_step (bq1 HB.out GE354.out) hb); clear HO_5 HO363 HO366 HO369 BK354 HRs370 HB; obtain ⟨HO_5, HO363, HO366, HO369, HO375, BK354, HRs370, HB⟩ := n_; (try clear hb ho0); obtain ⟨Ao45, co45, eo45⟩ := Kd.R_slice HO_5.out; subst eo45) | ((with_reducible refine gate_builtin (b := .append) (xs := #[.tmp 23, .tmp 24]) rfl ?_); (try (refine gate_guard (by rfl) ?_; dsimp only)); at_builtin; refine Kd.R_append_rows (Kd.int .u8) (w0 := w) w.heap.size rfl (.tmp 23) (.tmp 24) 22 5 (.int .u8 0) 1 rfl Try.underlying22 info5 rfl (by decide) (by omega) v374 t373 t355 _ _ _ (fun k_ => some k_ ≠ (.slice Ao45 t355.length co45 : Value).ownBlock ∧ some k_ ≠ (.slice Ao38 y361.length co38 : Value).ownBlock ∧ some k_ ≠ (.slice Ao39 t364.length co39 : Value).ownBlock ∧ some k_ ≠ (.slice Ao42 t367.length co42 : Value).ownBlock) (fun _ => False) rfl rfl ?aO ?aR (fun _ _ h => h) (fun _ h => h.elim) ?aF ?aB ?aS ?aL ?_; (case aR => repeat (first | exact (Kd.R_reads' HO_5.out).2.2 | (with_reducible refine Kd.C_alloc ?_ _) | (with_reducible refine Kd.C_drewN ?_ _) | (with_reducible refine Kd.C_drew ?_))); (case aB => exact (bq1 HB.out GE354.out)); (case aF => exact (fun k_ hk => ⟨Kd.fresh' (Kd.R_lt (kqR HO_5.out)) k_ hk, Kd.fresh' (Kd.R_lt (kqR HO363.out)) k_ hk, Kd.fresh' (Kd.R_lt (kqR HO366.out)) k_ hk, Kd.fresh' (Kd.R_lt (kqR HO369.out)) k_ hk⟩)); (case aO => exact (by refine kr ?_; exact Kd.R_mono HO375.out (fun _ hk => ⟨hk.1.1.1.2, ⟨hk.1.1.2, ⟨hk.1.2, hk.2⟩⟩⟩))); (case aS => exact (below_size (bq1 HB.out GE354.out))); (case aL => have := LMc18.out; omega); intro v377 w44 ho hb hg hat; rw [← Ny376.out] at ho; have n_ := ak7 (Kd.R_after (ok := (fun k_ => some k_ ≠ (.slice Ao38 y361.length co38 : Value).ownBlock ∧ some k_ ≠ (.slice Ao39 t364.length co39 : Value).ownBlock ∧ some k_ ≠ (.slice Ao42 t367.length co42 : Value).ownBlock)) (by refine kr ?_; exact Kd.R_mono HO_5.out (fun _ hk => ⟨⟨hk.1.1.1.2, ⟨hk.1.1.2, hk.1.2⟩⟩, hk.2⟩)) hg hat) (blk_grown (g := gb354) (o := .cells #[.int .i64 a1_0, .int .i64 a1_1, .int .i64 a1_2, .int .i64 a1_3, .slice A1_4 l1_4.length c1_4] 58 (0, 0)) (zq BK354.out) hg (Kd.R_ne HO375.out BK354.out (by decide))) (Kd.R_after (ok := (fun k_ => some k_ ≠ (.slice Ao45 t355.length co45 : Value).ownBlock ∧ some k_ ≠ (.slice Ao39 t364.length co39 : Value).ownBlock ∧ some k_ ≠ (.slice Ao42 t367.length co42 : Value).ownBlock)) (by refine kr ?_; exact Kd.R_mono HO363.out (fun _ hk => ⟨⟨hk.1.1.1.2, ⟨hk.1.1.2, hk.1.2⟩⟩, hk.2⟩)) hg hat) (Kd.R_after (ok := (fun k_ => some k_ ≠ (.slice Ao45 t355.length co45 : Value).ownBlock ∧ some k_ ≠ (.slice Ao38 y361.length co38 : Value).ownBlock ∧ some k_ ≠ (.slice Ao42 t367.length co42 : Value).ownBlock)) (by refine kr ?_; exact Kd.R_mono HO366.out (fun _ hk => ⟨⟨hk.1.1.1.2, ⟨hk.1.1.2, hk.1.2⟩⟩, hk.2⟩)) hg hat) (Kd.R_after (ok := (fun k_ => some k_ ≠ (.slice Ao45 t355.length co45 : Value).ownBlock ∧ some k_ ≠ (.slice Ao38 y361.length co38 : Value).ownBlock ∧ some k_ ≠ (.slice Ao39 t364.length co39 : Value).ownBlock)) (by refine kr ?_; exact Kd.R_mono HO369.out (fun _ hk => ⟨⟨hk.1.1.1.2, ⟨hk.1.1.2, hk.1.2⟩⟩, hk.2⟩)) hg hat) hb ho; clear HO_5 BK354 HO363 HO366 HO369 HB HO375; obtain ⟨HO_5, BK354, HO363, HO366, HO369, HB, HO378⟩ := n_; clear ho hb hg hat; obtain ⟨Ao46, co46, eo46⟩ := Kd.R_slice HO378.out; subst eo46) | ((with_reducible refine gate_dst (N := 30) rfl ?_); (try (refine gate_guard (by rfl) ?_; dsimp only)); refine Kd.R_lit (Kd.int .u8) _ 5 ?hg (N := 30) ?hd (xs := ([] : List Int)) (inner := []) (ok := fun _ => True) (okp := fun _ => True) ?hr ?hp (fun _ hk => hk) trivial (Below.refl _ _) (Nat.le_refl _) (by simp) ?_; (case hd => rfl); (case hg => rfl); (case hr => exact gs); (case hp => exact (Reps.none _ _)); intro v383 w47 ho48 hb hg_ hnew_; clear hg_ hnew_; (first | rw [← Ny382.out] at ho48 | (simp only [Int.reduceToNat] at ho48; rw [← Ny382.out] at ho48)); have n_ := ak8 (Kd.R_elder' (kqR HO_5.out) (Kd.R_base ho48) hb) (Kd.R_elder' (kqR HO363.out) (Kd.R_base ho48) hb) (Kd.R_elder' (kqR HO366.out) (Kd.R_base ho48) hb) (Kd.R_elder' (kqR HO369.out) (Kd.R_base ho48) hb) (Kd.R_elder' (kqR HO378.out) (Kd.R_base ho48) hb) (Kd.R_lower (Kd.R_new' (Kd.R_new' (Kd.R_new' (Kd.R_new' (Kd.R_new' ho48 (Kd.R_lt (kqR HO_5.out))) (Kd.R_lt (kqR HO363.out))) (Kd.R_lt (kqR HO366.out))) (Kd.R_lt (kqR HO369.out))) (Kd.R_lt (kqR HO378.out))) (below_size (bq1 HB.out GE354.out))) (blk_below (zb BK354.out) hb) (below_step (bq1 HB.out GE354.out) hb); clear HO_5 HO363 HO366 HO369 HO378 BK354 HB; obtain ⟨HO_5, HO363, HO366, HO369, HO378, HO384, BK354, HB⟩ := n_; clear hb ho48; obtain ⟨Ao49, co49, eo49⟩ := Kd.R_slice HO384.out; subst eo49) | ((with_reducible refine gate_callee (f := 66) rfl ?_); refine goesL_ (some 32) rfl rfl Try.func66 (by kernel_rfl) rfl #[.slice Ao49 y382.length co49, .int .i64 48, .slice Ao46 y376.length co46] rfl ga ?_; (with_reducible refine (spec_PutTlv.calls kj3 _ _ y382 48 _ _ y376 t385 _ ?side1 ?side2 ?side3 ?side4 A34.out).mono ?_); (case side1 => repeat (first | exact (Kd.R_reads' HO384.out).2.2 | (with_reducible refine Kd.C_alloc ?_ _) | (with_reducible refine Kd.C_drewN ?_ _) | (with_reducible refine Kd.C_drew ?_))); (case side2 => exact (Kd.R_reads' HO384.out).2.1); (case side3 => repeat (first | exact (Kd.R_reads' HO378.out).2.2 | (with_reducible refine Kd.C_alloc ?_ _) | (with_reducible refine Kd.C_drewN ?_ _) | (with_reducible refine Kd.C_drew ?_))); (case side4 => exact (Kd.R_reads' HO378.out).2.1); rintro e w50 ⟨v386, rfl, ho0, hb⟩; refine ⟨_, rfl, ?_⟩; have n_ := ak9 (Kd.R_elder' (kqR HO_5.out) (Kd.R_base ho0) hb) (Kd.R_elder' (kqR HO363.out) (Kd.R_base ho0) hb) (Kd.R_elder' (kqR HO366.out) (Kd.R_base ho0) hb) (Kd.R_elder' (kqR HO369.out) (Kd.R_base ho0) hb) (Kd.R_elder' (kqR HO378.out) (Kd.R_base ho0) hb) (Kd.R_elder' (kqR HO384.out) (Kd.R_base ho0) hb) (Kd.R_lower (Kd.R_new' (Kd.R_new' (Kd.R_new' (Kd.R_new' (Kd.R_new' (Kd.R_new' ho0 (Kd.R_lt (kqR HO_5.out))) (Kd.R_lt (kqR HO363.out))) (Kd.R_lt (kqR HO366.out))) (Kd.R_lt (kqR HO369.out))) (Kd.R_lt (kqR HO378.out))) (Kd.R_lt (kqR HO384.out))) (below_size (bq1 HB.out GE354.out))) (blk_below (zb BK354.out) hb) (below_step (bq1 HB.out GE354.out) hb); clear HO_5 HO363 HO366 HO369 HO378 HO384 BK354 HB; obtain ⟨HO_5, HO363, HO366, HO369, HO378, HO384, HO387, BK354, HB⟩ := n_; (try clear hb ho0)))
   go_ret
   exact ⟨_, rq, by refine kr ?_; exact Kd.R_mono HO387.out (fun _ hk => trivial), bq1 HB.out GE354.out⟩

end Go.Proofs.Ythhnfmbfgplelaa.XFnExactPutMsg
