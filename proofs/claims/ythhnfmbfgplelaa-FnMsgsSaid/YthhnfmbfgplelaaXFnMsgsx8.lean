/- The functions that one law reaches, as Lean functions, with their walks: printed by a program of this seat (wip/tools) out of the translation. -/
import Derived.Test.YthhnfmbfgplelaaXFnMsgsx0
import Derived.Test.YthhnfmbfgplelaaXFnMsgsx6
import Derived.Test.YthhnfmbfgplelaaXFnMsgsx7
namespace Go.Proofs.Ythhnfmbfgplelaa.XFnMsgs
open Go.RowKit Go.Proofs.YthhnfmbfgplelaaW.PrintWords Go.Proofs.YthhnfmbfgplelaaW.PrintLast Go.Proofs.YthhnfmbfgplelaaW.PrintMore
attribute [local go_sem] max2_int min2_int max_two min_two max_three min_three max_four min_four   -- for this text's walks alone
set_option linter.unusedVariables false
set_option linter.unusedSimpArgs false

/-! ### impl_PutVal: function 17 -/
def impl_PutVal.f (k : Nat) (l0 : List Int) (a1_0 : Int) (a1_1 : Int) (a1_2 : ByteArray) (l1_3 : List Int) : Option (List Int) := (impl_ValOk.f k a1_0 a1_1 a1_2 l1_3).bind fun t378 => (if t378 = true then (if a1_0 = 2 then ((impl_PutInt.f k a1_1).bind fun t382 => ((impl_PutTlv.f k l0 a1_0 t382).bind fun t385 => (some t385))) else (if a1_0 = 4 then (if (a1_2.size : Int) < 140737488355328 then ((impl_PutTlv.f k l0 a1_0 (bytesOf a1_2)).bind fun t391 => (some t391)) else (none)) else (if a1_0 = 6 then ((impl_PutOid.f k l1_3).bind fun t394 => ((impl_PutTlv.f k l0 a1_0 t394).bind fun t397 => (some t397))) else ((impl_PutTlv.f k l0 a1_0 ([] : List Int)).bind fun t400 => (some t400))))) else ((impl_copyBytes.f l0).bind fun t379 => (some t379)))
set_option maxHeartbeats 8000000 in
set_option maxRecDepth 100000 in
theorem impl_PutVal.calls (k : Nat) (A0 : Option Addr) (c0 : Nat) (l0 : List Int) (a1_0 : Int) (a1_1 : Int) (a1_2 : ByteArray) (A1_3 : Option Addr) (c1_3 : Nat) (l1_3 : List Int) (r : List Int) (w : World) (hr0 : Kd.C (Kd.int .u8) w A0 l0.length l0) (hc0 : l0.length ≤ c0) (hr1_3 : Kd.C (Kd.int .i64) w A1_3 l1_3.length l1_3) (hc1_3 : l1_3.length ≤ c1_3) (h : impl_PutVal.f k l0 a1_0 a1_1 a1_2 l1_3 = some r) :
 Calls Try.prog 17 #[.slice A0 l0.length c0, .agg #[.int .i64 a1_0, .int .i64 a1_1, .string a1_2, .slice A1_3 l1_3.length c1_3]] w fun e w' => ∃ v0_ : Value, e = .returned (v0_) ∧ Kd.R (Kd.int .u8) 5 w' w.heap.size (fun _ => True) v0_ r ∧ Below w.heap.size w w' := by
 have hu29 := Try.underlying29
 have HR0 := am hr0
 have HC0 := am hc0
 clear hr0 hc0
 have HR1_3 := am hr1_3
 have HC1_3 := am hc1_3
 clear hr1_3 hc1_3
 have HB := am (Below.refl w.heap.size w)
 have H := h
 clear h
 unfold impl_PutVal.f at H
 replace H := be H
 obtain ⟨qa1_0, Qa1, H⟩ := H
 cases qa1_0
 replace H := iF H
 replace H := be H
 obtain ⟨qe1_0, Qe1, H⟩ := H
 have z0 := trivial
 rotate_left
 replace H := iT H
 replace H := iq H
 rcases H with ⟨-, c5b0, c5b1, H⟩ | ⟨c5, c5b0, c5b1, H⟩
 replace H := be H
 obtain ⟨qb1_0, Qb1, H⟩ := H
 replace H := be H
 obtain ⟨qc1_0, Qc1, H⟩ := H
 have z1 := trivial
 rotate_left
 replace H := iq H
 rcases H with ⟨-, c16b0, c16b1, H⟩ | ⟨c16, c16b0, c16b1, H⟩
 replace H := nq H
 obtain ⟨c17, H⟩ := H
 have c17b0 := eq_true c17
 have c17b1 : decide ((a1_2.size : Int) < 140737488355328) = true := decide_eq_true c17
 clear c17
 generalize hy388 : ((bytesOf a1_2) : List Int) = y388 at H
 have Ny388 := am hy388.symm
 clear hy388
 replace H := be H
 obtain ⟨qc1_0, Qc1, H⟩ := H
 have z2 := trivial
 rotate_left
 replace H := iq' H
 rcases H with ⟨c26, c26b0, c26b1, H⟩ | ⟨-, c26b0, c26b1, H⟩
 replace H := be H
 obtain ⟨qc1_0, Qc1, H⟩ := H
 have z3 := trivial
 rotate_left
 replace H := be H
 obtain ⟨qd1_0, Qd1, H⟩ := H
 replace H := be H
 obtain ⟨qc1_0, Qc1, H⟩ := H
 have z4 := trivial
 rotate_right
 rotate_right
 rotate_right
 rotate_right
 all_goals
  obtain rfl := Option.some.inj H
  go_enter Try.func17, Try.ntmps17
  go_wp2_with (first | ((with_reducible refine gate_dst (N := 3) rfl ?_); refine bxe 3 #[.int .i64 a1_0, .int .i64 a1_1, .string a1_2, .slice A1_3 l1_3.length c1_3] 29 ?_; intro gb377 hg w_ hbox hb; have n_ := ak4 (below_step (bq HB.out) hb) hbox (bz hg (bq HB.out)) (bz hg (bq HB.out)); clear HB; obtain ⟨HB, BK377, GW377, GE377⟩ := n_; clear hb hbox hg; obtain ⟨hcz_377_0, hcz_377_1, hcz_377_2, hcz_377_3, hfz_377_0, hfz_377_1, hfz_377_2, hfz_377_3⟩ := cl4 BK377.out) | ((with_reducible refine gate_callee (f := 46) rfl ?_); (first | have := z1 | have := z2 | have := z3 | have := z4); refine gc (some 7) (impl_ValOk.calls k a1_0 a1_1 a1_2 _ _ l1_3 true _ (cq (Kd.C_below HR1_3.out HB.out)) HC1_3.out Qa1.out) Try.func46 ?_; rintro e w_ ⟨rfl, hb⟩; refine ⟨_, rfl, ?_⟩; have n_ := ak2 (kb BK377 hb) (below_step (bq1 HB.out GE377.out) hb); clear BK377 HB; obtain ⟨BK377, HB⟩ := n_; (try clear hb); obtain ⟨hcz_377_0, hcz_377_1, hcz_377_2, hcz_377_3, hfz_377_0, hfz_377_1, hfz_377_2, hfz_377_3⟩ := cl4 BK377.out) | ((with_reducible refine gate_callee (f := 46) rfl ?_); have := z0; refine gc (some 7) (impl_ValOk.calls k a1_0 a1_1 a1_2 _ _ l1_3 false _ (cq (Kd.C_below HR1_3.out HB.out)) HC1_3.out Qa1.out) Try.func46 ?_; rintro e w_ ⟨rfl, hb⟩; refine ⟨_, rfl, ?_⟩; have n_ := ak2 (kb BK377 hb) (below_step (bq1 HB.out GE377.out) hb); clear BK377 HB; obtain ⟨BK377, HB⟩ := n_; (try clear hb)) | ((with_reducible refine gate_callee (f := 68) rfl ?_); refine gc (some 10) (impl_copyBytes.calls _ _ l0 qe1_0 _ (cq (Kd.C_below HR0.out HB.out)) HC0.out Qe1.out) Try.func68 ?_; rintro e w_ ⟨v380, rfl, ho_, hb⟩; refine ⟨_, rfl, ?_⟩; have n_ := ak3 (rl ho_ (bq1 HB.out GE377.out)) (kb BK377 hb) (below_step (bq1 HB.out GE377.out) hb); clear BK377 HB; obtain ⟨HO381, BK377, HB⟩ := n_; (try clear hb ho_)) | ((with_reducible refine gate_callee (f := 69) rfl ?_); refine gc (some 17) (impl_PutInt.calls k a1_1 qb1_0 _ Qb1.out) Try.func69 ?_; rintro e w_ ⟨v383, rfl, ho_, hb⟩; refine ⟨_, rfl, ?_⟩; have n_ := ak3 (rl ho_ (bq1 HB.out GE377.out)) (kb BK377 hb) (below_step (bq1 HB.out GE377.out) hb); clear BK377 HB; obtain ⟨HO384, BK377, HB⟩ := n_; (try clear hb ho_); obtain ⟨Ao_384, co_384, eo_384⟩ := Kd.R_slice HO384.out; subst eo_384; obtain ⟨hcz_377_0, hcz_377_1, hcz_377_2, hcz_377_3, hfz_377_0, hfz_377_1, hfz_377_2, hfz_377_3⟩ := cl4 BK377.out) | ((with_reducible refine gate_callee (f := 71) rfl ?_); have := z2; refine gc (some 32) (impl_PutTlv.calls k _ _ l0 a1_0 _ _ y388 qc1_0 _ (cq (Kd.C_below HR0.out HB.out)) HC0.out (by repeat (first | exact (by repeat (first | (with_reducible exact HRs388.out) | (with_reducible refine Kd.C_alloc ?_ _) | (with_reducible refine Kd.C_drewN ?_ _) | (with_reducible refine Kd.C_drew ?_) | exact HRs388.out)) | (with_reducible refine Kd.C_alloc ?_ _) | (with_reducible refine Kd.C_drewN ?_ _) | (with_reducible refine Kd.C_drew ?_))) HCs388.out Qc1.out) Try.func71 ?_; rintro e w_ ⟨v392, rfl, ho_, hb⟩; refine ⟨_, rfl, ?_⟩; have n_ := ak4 (rl ho_ (bq1 HB.out GE377.out)) (kb BK377 hb) (Kd.C_below (by repeat (first | (with_reducible exact HRs388.out) | (with_reducible refine Kd.C_alloc ?_ _) | (with_reducible refine Kd.C_drewN ?_ _) | (with_reducible refine Kd.C_drew ?_) | exact HRs388.out)) hb) (below_step (bq1 HB.out GE377.out) hb); clear BK377 HRs388 HB; obtain ⟨HO393, BK377, HRs388, HB⟩ := n_; (try clear hb ho_)) | ((with_reducible refine gate_callee (f := 71) rfl ?_); have := z1; refine gc (some 32) (impl_PutTlv.calls k _ _ l0 a1_0 _ _ qb1_0 qc1_0 _ (cq (Kd.C_below HR0.out HB.out)) HC0.out (cq (Kd.R_reads' HO384.out).2.2) ((Kd.R_reads' HO384.out).2.1) Qc1.out) Try.func71 ?_; rintro e w_ ⟨v386, rfl, ho_, hb⟩; refine ⟨_, rfl, ?_⟩; have n_ := ak4 (re_ HO384 ho_ hb) (rn_ ho_ HO384 (bq1 HB.out GE377.out)) (kb BK377 hb) (below_step (bq1 HB.out GE377.out) hb); clear HO384 BK377 HB; obtain ⟨HO384, HO387, BK377, HB⟩ := n_; (try clear hb ho_)) | ((with_reducible refine gate_callee (f := 71) rfl ?_); have := z4; refine gc (some 32) (impl_PutTlv.calls k _ _ l0 a1_0 _ _ qd1_0 qc1_0 _ (cq (Kd.C_below HR0.out HB.out)) HC0.out (cq (Kd.R_reads' HO396.out).2.2) ((Kd.R_reads' HO396.out).2.1) Qc1.out) Try.func71 ?_; rintro e w_ ⟨v398, rfl, ho_, hb⟩; refine ⟨_, rfl, ?_⟩; have n_ := ak4 (re_ HO396 ho_ hb) (rn_ ho_ HO396 (bq1 HB.out GE377.out)) (kb BK377 hb) (below_step (bq1 HB.out GE377.out) hb); clear HO396 BK377 HB; obtain ⟨HO396, HO399, BK377, HB⟩ := n_; (try clear hb ho_)) | ((with_reducible refine gate_callee (f := 71) rfl ?_); have := z3; refine gc (some 32) (impl_PutTlv.calls k _ _ l0 a1_0 _ _ ([] : List Int) qc1_0 _ (cq (Kd.C_below HR0.out HB.out)) HC0.out (Kd.C_nil _ _) (Nat.le_refl _) Qc1.out) Try.func71 ?_; rintro e w_ ⟨v401, rfl, ho_, hb⟩; refine ⟨_, rfl, ?_⟩; have n_ := ak3 (rl ho_ (bq1 HB.out GE377.out)) (kb BK377 hb) (below_step (bq1 HB.out GE377.out) hb); clear BK377 HB; obtain ⟨HO402, BK377, HB⟩ := n_; (try clear hb ho_)) | ((with_reducible refine gate_dst (N := 22) rfl ?_); refine strb_event ?hg (N := 22) ?hd 9 22 5 (x := .tmp 21) ?ho (s := a1_2) (y := y388) Ny388.out ?hx Try.underlying9 Try.underlying22 Try.underlying5 (by have h_ : (a1_2.size : Int) < (140737488355328 : Int) := oda; omega) ?_; (case hd => rfl); (case hg => rfl); (case ho => rfl); (case hx => first | (go_simp; done) | (go_simp; rfl)); intro As388 cs388 w_ hs_ hl_ hb; have n_ := ak4 (kb BK377 hb) (below_step (bq1 HB.out GE377.out) hb) hs_ hl_; clear BK377 HB; obtain ⟨BK377, HB, HRs388, HCs388⟩ := n_; clear hb hs_ hl_; obtain ⟨hcz_377_0, hcz_377_1, hcz_377_2, hcz_377_3, hfz_377_0, hfz_377_1, hfz_377_2, hfz_377_3⟩ := cl4 BK377.out) | ((with_reducible refine gate_callee (f := 70) rfl ?_); refine gc (some 27) (impl_PutOid.calls k _ _ l1_3 qd1_0 _ (cq (Kd.C_below HR1_3.out HB.out)) HC1_3.out Qd1.out) Try.func70 ?_; rintro e w_ ⟨v395, rfl, ho_, hb⟩; refine ⟨_, rfl, ?_⟩; have n_ := ak3 (rl ho_ (bq1 HB.out GE377.out)) (kb BK377 hb) (below_step (bq1 HB.out GE377.out) hb); clear BK377 HB; obtain ⟨HO396, BK377, HB⟩ := n_; (try clear hb ho_); obtain ⟨Ao_396, co_396, eo_396⟩ := Kd.R_slice HO396.out; subst eo_396; obtain ⟨hcz_377_0, hcz_377_1, hcz_377_2, hcz_377_3, hfz_377_0, hfz_377_1, hfz_377_2, hfz_377_3⟩ := cl4 BK377.out))
  first
  | go_ret
    exact ⟨_, rq, by refine kr ?_; exact Kd.R_mono HO387.out (fun _ hk => trivial), bq1 HB.out GE377.out⟩
  | go_ret
    exact ⟨_, rq, by refine kr ?_; exact Kd.R_mono HO399.out (fun _ hk => trivial), bq1 HB.out GE377.out⟩
  | go_ret
    exact ⟨_, rq, kqR HO381.out, bq1 HB.out GE377.out⟩
  | go_ret
    exact ⟨_, rq, kqR HO393.out, bq1 HB.out GE377.out⟩
  | go_ret
    exact ⟨_, rq, kqR HO402.out, bq1 HB.out GE377.out⟩
/-! ### impl_addNum: function 76 -/
def impl_addNum.f (k : Nat) (l0 : List Int) (a1 : Int) (a2 : Int) : Option (List Int) := (impl_PutInt.f k a2).bind fun t403 => ((impl_PutTlv.f k l0 a1 t403).bind fun t406 => (some t406))
set_option maxHeartbeats 8000000 in
set_option maxRecDepth 100000 in
theorem impl_addNum.calls (k : Nat) (A0 : Option Addr) (c0 : Nat) (l0 : List Int) (a1 : Int) (a2 : Int) (r : List Int) (w : World) (hr0 : Kd.C (Kd.int .u8) w A0 l0.length l0) (hc0 : l0.length ≤ c0) (h : impl_addNum.f k l0 a1 a2 = some r) :
 Calls Try.prog 76 #[.slice A0 l0.length c0, .int .i64 a1, .int .i64 a2] w fun e w' => ∃ v0_ : Value, e = .returned (v0_) ∧ Kd.R (Kd.int .u8) 5 w' w.heap.size (fun _ => True) v0_ r ∧ Below w.heap.size w w' := by
 have HR0 := am hr0
 have HC0 := am hc0
 clear hr0 hc0
 have HB := am (Below.refl w.heap.size w)
 have H := h
 clear h
 unfold impl_addNum.f at H
 replace H := be H
 obtain ⟨qa1_0, Qa1, H⟩ := H
 replace H := be H
 obtain ⟨qb1_0, Qb1, H⟩ := H
 obtain rfl := Option.some.inj H
 go_enter Try.func76, Try.ntmps76
 go_wp2_with (first | ((with_reducible refine gate_callee (f := 69) rfl ?_); refine gc (some 10) (impl_PutInt.calls k a2 qa1_0 _ Qa1.out) Try.func69 ?_; rintro e w6 ⟨v404, rfl, ho0, hb⟩; refine ⟨_, rfl, ?_⟩; have n_ := ak2 (rl ho0 (bq HB.out)) (below_step (bq HB.out) hb); clear HB; obtain ⟨HO405, HB⟩ := n_; (try clear hb ho0); obtain ⟨Ao7, co7, eo7⟩ := Kd.R_slice HO405.out; subst eo7) | ((with_reducible refine gate_callee (f := 71) rfl ?_); refine gc (some 11) (impl_PutTlv.calls k _ _ l0 a1 _ _ qa1_0 qb1_0 _ (cq (Kd.C_below HR0.out HB.out)) HC0.out (cq (Kd.R_reads' HO405.out).2.2) ((Kd.R_reads' HO405.out).2.1) Qb1.out) Try.func71 ?_; rintro e w8 ⟨v407, rfl, ho0, hb⟩; refine ⟨_, rfl, ?_⟩; have n_ := ak3 (re_ HO405 ho0 hb) (rn_ ho0 HO405 (bq HB.out)) (below_step (bq HB.out) hb); clear HO405 HB; obtain ⟨HO405, HO408, HB⟩ := n_; (try clear hb ho0)))
 go_ret
 exact ⟨_, rq, by refine kr ?_; exact Kd.R_mono HO408.out (fun _ hk => trivial), bq HB.out⟩
end Go.Proofs.Ythhnfmbfgplelaa.XFnMsgs
