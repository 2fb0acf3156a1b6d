/- The functions that one law reaches, as Lean functions, with their walks: printed by a program of this seat (wip/tools) out of the translation. -/
import Derived.Test.YthhnfmbfgplelaaXFnExactPutMsgx0
import Derived.Test.YthhnfmbfgplelaaXFnExactPutMsgx9
import Derived.Test.YthhnfmbfgplelaaXFnExactPutMsgx10
namespace Go.Proofs.Ythhnfmbfgplelaa.XFnExactPutMsg
open Go.RowKit Go.Proofs.YthhnfmbfgplelaaW.PrintWords Go.Proofs.YthhnfmbfgplelaaW.PrintLast Go.Proofs.YthhnfmbfgplelaaW.PrintMore
attribute [local go_sem] max2_int min2_int max_two min_two max_three min_three max_four min_four   -- for this text's walks alone
set_option linter.unusedVariables false
set_option linter.unusedSimpArgs false

/-! ### impl_PutVal: function 17 -/
def impl_PutVal.f (k : Nat) (l0 : List Int) (a1_0 : Int) (a1_1 : Int) (a1_2 : ByteArray) (l1_3 : List Int) : Option (List Int) := (impl_ValOk.f k a1_0 a1_1 a1_2 l1_3).bind fun t452 => (if t452 = true then (if a1_0 = 2 then ((impl_PutInt.f k a1_1).bind fun t456 => ((impl_PutTlv.f k l0 a1_0 t456).bind fun t459 => (some t459))) else (if a1_0 = 4 then (if (a1_2.size : Int) < 140737488355328 then ((impl_PutTlv.f k l0 a1_0 (bytesOf a1_2)).bind fun t465 => (some t465)) else (none)) else (if a1_0 = 6 then ((impl_PutOid.f k l1_3).bind fun t468 => ((impl_PutTlv.f k l0 a1_0 t468).bind fun t471 => (some t471))) else ((impl_PutTlv.f k l0 a1_0 ([] : List Int)).bind fun t474 => (some t474))))) else ((impl_copyBytes.f l0).bind fun t453 => (some t453)))
theorem impl_PutVal.mono : ∀ a0 a1 a2 a3 a4 k, LeO (impl_PutVal.f k a0 a1 a2 a3 a4) (impl_PutVal.f (k + 1) a0 a1 a2 a3 a4) := by
 intro a0 a1 a2 a3 a4 k
 unfold impl_PutVal.f
 repeat' first
  | (with_reducible exact impl_PutInt.mono _ _)
  | (with_reducible exact impl_PutOid.mono _ _)
  | (with_reducible exact impl_PutTlv.mono _ _ _ _)
  | (with_reducible exact impl_ValOk.mono _ _ _ _ _)
  | (with_reducible exact LeO.refl _)
  | (with_reducible exact LeO.none _)
  | (with_reducible refine LeO.ite ?_ ?_)
  | (with_reducible refine LeO.bind ?_ (fun _ => ?_))
  | exact impl_PutInt.mono _ _
  | exact impl_PutOid.mono _ _
  | exact impl_PutTlv.mono _ _ _ _
  | exact impl_ValOk.mono _ _ _ _ _
  | exact LeO.none _
  | refine LeO.ite ?_ ?_
  | refine LeO.bind ?_ (fun _ => ?_)
set_option maxHeartbeats 8000000 in
set_option maxRecDepth 100000 in
theorem impl_PutVal.calls (k : Nat) (A0 : Option Addr) (c0 : Nat) (l0 : List Int) (a1_0 : Int) (a1_1 : Int) (a1_2 : ByteArray) (A1_3 : Option Addr) (c1_3 : Nat) (l1_3 : List Int) (r : List Int) (w : World) (hr0 : Kd.C (Kd.int .u8) w A0 l0.length l0) (hc0 : l0.length ≤ c0) (hr1_3 : Kd.C (Kd.int .i64) w A1_3 l1_3.length l1_3) (hc1_3 : l1_3.length ≤ c1_3) (h : impl_PutVal.f k l0 a1_0 a1_1 a1_2 l1_3 = some r) :
 Calls Try.prog 17 #[.slice A0 l0.length c0, .agg #[.int .i64 a1_0, .int .i64 a1_1, .string a1_2, .slice A1_3 l1_3.length c1_3]] w fun e w' => ∃ v0_ : Value, e = .returned (v0_) ∧ Kd.R (Kd.int .u8) 5 w' w.heap.size (fun _ => True) v0_ r ∧ Below w.heap.size w w' := by
 have hu29 := Try.underlying29
 have HR0 := am hr0
 have HC0 := am hc0
 clear hr0 hc0
 have HR1_3 := am hr1_3
 have HC1_3 := am hc1_3
 clear hr1_3 hc1_3
 have HB := am (Below.refl w.heap.size w)
 have H : ((impl_ValOk.f k a1_0 a1_1 a1_2 l1_3).bind fun t452 => (if t452 = true then (if a1_0 = 2 then ((impl_PutInt.f k a1_1).bind fun t456 => ((impl_PutTlv.f k l0 a1_0 t456).bind fun t459 => (some t459))) else (if a1_0 = 4 then (if (a1_2.size : Int) < 140737488355328 then ((impl_PutTlv.f k l0 a1_0 (bytesOf a1_2)).bind fun t465 => (some t465)) else (none)) else (if a1_0 = 6 then ((impl_PutOid.f k l1_3).bind fun t468 => ((impl_PutTlv.f k l0 a1_0 t468).bind fun t471 => (some t471))) else ((impl_PutTlv.f k l0 a1_0 ([] : List Int)).bind fun t474 => (some t474))))) else ((impl_copyBytes.f l0).bind fun t453 => (some t453)))) = some r := h
 clear h
 replace H := Option.bind_eq_some_iff.mp H
 obtain ⟨t452, A30, H⟩ := H
 replace H : (if t452 = true then (if a1_0 = 2 then ((impl_PutInt.f k a1_1).bind fun t456 => ((impl_PutTlv.f k l0 a1_0 t456).bind fun t459 => (some t459))) else (if a1_0 = 4 then (if (a1_2.size : Int) < 140737488355328 then ((impl_PutTlv.f k l0 a1_0 (bytesOf a1_2)).bind fun t465 => (some t465)) else (none)) else (if a1_0 = 6 then ((impl_PutOid.f k l1_3).bind fun t468 => ((impl_PutTlv.f k l0 a1_0 t468).bind fun t471 => (some t471))) else ((impl_PutTlv.f k l0 a1_0 ([] : List Int)).bind fun t474 => (some t474))))) else ((impl_copyBytes.f l0).bind fun t453 => (some t453))) = some r := H
 have A3 := am A30
 clear A30
 by_cases c4 : t452 = true
 rotate_left
 · replace c4 := Bool.eq_false_iff.mpr c4
   subst c4
   replace H : ((impl_copyBytes.f l0).bind fun t453 => (some t453)) = some r := by rw [if_neg (show ¬ (false = true) by decide)] at H; exact H
   replace H := Option.bind_eq_some_iff.mp H
   obtain ⟨t453, A430, H⟩ := H
   replace H : (some t453) = some r := H
   have A43 := am A430
   clear A430
   obtain rfl := Option.some.inj H
   go_enter Try.func17, Try.ntmps17
   go_wp2_with (first | ((with_reducible refine gate_dst (N := 3) rfl ?_); refine bxe 3 #[.int .i64 a1_0, .int .i64 a1_1, .string a1_2, .slice A1_3 l1_3.length c1_3] 29 ?_; intro gb451 hg w44 hbox hb; have n_ := ak4 (below_step (bq HB.out) hb) hbox ((by rw [hg]; exact (below_size (bq HB.out)) : w.heap.size ≤ gb451)) ((by rw [hg]; exact (below_size (bq HB.out)) : w.heap.size ≤ gb451)); clear HB; obtain ⟨HB, BK451, GW451, GE451⟩ := n_; clear hb hbox hg; obtain ⟨hcz45_0, hcz45_1, hcz45_2, hcz45_3, hfz45_0, hfz45_1, hfz45_2, hfz45_3⟩ := cl4 BK451.out) | ((with_reducible refine gate_callee (f := 46) rfl ?_); refine goesL_ (some 7) rfl rfl Try.func46 (by kernel_rfl) rfl #[.agg #[.int .i64 a1_0, .int .i64 a1_1, .string a1_2, .slice A1_3 l1_3.length c1_3]] rfl ga ?_; (with_reducible refine (impl_ValOk.calls k a1_0 a1_1 a1_2 _ _ l1_3 false _ ?side1 ?side2 A3.out).mono ?_); (case side1 => exact cq (Kd.C_below HR1_3.out HB.out)); (case side2 => exact HC1_3.out); rintro e w46 ⟨rfl, hb⟩; refine ⟨_, rfl, ?_⟩; have n_ := ak2 (blk_below (zb BK451.out) hb) (below_step (bq1 HB.out GE451.out) hb); clear BK451 HB; obtain ⟨BK451, HB⟩ := n_; (try clear hb)) | ((with_reducible refine gate_callee (f := 68) rfl ?_); refine goesL_ (some 10) rfl rfl Try.func68 (by kernel_rfl) rfl #[.slice A0 l0.length c0] rfl ga ?_; (with_reducible refine (impl_copyBytes.calls _ _ l0 t453 _ ?side1 ?side2 A43.out).mono ?_); (case side1 => exact cq (Kd.C_below HR0.out HB.out)); (case side2 => exact HC0.out); rintro e w47 ⟨v454, rfl, ho0, hb⟩; refine ⟨_, rfl, ?_⟩; have n_ := ak3 (Kd.R_lower ho0 (below_size (bq1 HB.out GE451.out))) (blk_below (zb BK451.out) hb) (below_step (bq1 HB.out GE451.out) hb); clear BK451 HB; obtain ⟨HO455, BK451, HB⟩ := n_; (try clear hb ho0)))
   go_ret
   exact ⟨_, rq, kqR HO455.out, bq1 HB.out GE451.out⟩
 subst c4
 replace H : (if a1_0 = 2 then ((impl_PutInt.f k a1_1).bind fun t456 => ((impl_PutTlv.f k l0 a1_0 t456).bind fun t459 => (some t459))) else (if a1_0 = 4 then (if (a1_2.size : Int) < 140737488355328 then ((impl_PutTlv.f k l0 a1_0 (bytesOf a1_2)).bind fun t465 => (some t465)) else (none)) else (if a1_0 = 6 then ((impl_PutOid.f k l1_3).bind fun t468 => ((impl_PutTlv.f k l0 a1_0 t468).bind fun t471 => (some t471))) else ((impl_PutTlv.f k l0 a1_0 ([] : List Int)).bind fun t474 => (some t474))))) = some r := by rw [if_pos rfl] at H; exact H
 by_cases c5 : a1_0 = 2
 · rw [if_pos c5] at H
   have c5b0 : (a1_0 == 2) = true := beq_iff_eq.mpr c5
   have c5b1 : (a1_0 != 2) = false := bne_eq_false_iff_eq.mpr c5
   clear c5
   replace H := Option.bind_eq_some_iff.mp H
   obtain ⟨t456, A60, H⟩ := H
   replace H : ((impl_PutTlv.f k l0 a1_0 t456).bind fun t459 => (some t459)) = some r := H
   have A6 := am A60
   clear A60
   replace H := Option.bind_eq_some_iff.mp H
   obtain ⟨t459, A70, H⟩ := H
   replace H : (some t459) = some r := H
   have A7 := am A70
   clear A70
   obtain rfl := Option.some.inj H
   go_enter Try.func17, Try.ntmps17
   go_wp2_with (first | ((with_reducible refine gate_dst (N := 3) rfl ?_); refine bxe 3 #[.int .i64 a1_0, .int .i64 a1_1, .string a1_2, .slice A1_3 l1_3.length c1_3] 29 ?_; intro gb451 hg w8 hbox hb; have n_ := ak4 (below_step (bq HB.out) hb) hbox ((by rw [hg]; exact (below_size (bq HB.out)) : w.heap.size ≤ gb451)) ((by rw [hg]; exact (below_size (bq HB.out)) : w.heap.size ≤ gb451)); clear HB; obtain ⟨HB, BK451, GW451, GE451⟩ := n_; clear hb hbox hg; obtain ⟨hcz9_0, hcz9_1, hcz9_2, hcz9_3, hfz9_0, hfz9_1, hfz9_2, hfz9_3⟩ := cl4 BK451.out) | ((with_reducible refine gate_callee (f := 46) rfl ?_); refine goesL_ (some 7) rfl rfl Try.func46 (by kernel_rfl) rfl #[.agg #[.int .i64 a1_0, .int .i64 a1_1, .string a1_2, .slice A1_3 l1_3.length c1_3]] rfl ga ?_; (with_reducible refine (impl_ValOk.calls k a1_0 a1_1 a1_2 _ _ l1_3 true _ ?side1 ?side2 A3.out).mono ?_); (case side1 => exact cq (Kd.C_below HR1_3.out HB.out)); (case side2 => exact HC1_3.out); rintro e w10 ⟨rfl, hb⟩; refine ⟨_, rfl, ?_⟩; have n_ := ak2 (blk_below (zb BK451.out) hb) (below_step (bq1 HB.out GE451.out) hb); clear BK451 HB; obtain ⟨BK451, HB⟩ := n_; (try clear hb); obtain ⟨hcz11_0, hcz11_1, hcz11_2, hcz11_3, hfz11_0, hfz11_1, hfz11_2, hfz11_3⟩ := cl4 BK451.out) | ((with_reducible refine gate_callee (f := 69) rfl ?_); refine goesL_ (some 17) rfl rfl Try.func69 (by kernel_rfl) rfl #[.int .i64 a1_1] rfl ga ?_; (with_reducible refine (impl_PutInt.calls k a1_1 t456 _ A6.out).mono ?_); rintro e w12 ⟨v457, rfl, ho0, hb⟩; refine ⟨_, rfl, ?_⟩; have n_ := ak3 (Kd.R_lower ho0 (below_size (bq1 HB.out GE451.out))) (blk_below (zb BK451.out) hb) (below_step (bq1 HB.out GE451.out) hb); clear BK451 HB; obtain ⟨HO458, BK451, HB⟩ := n_; (try clear hb ho0); obtain ⟨hcz13_0, hcz13_1, hcz13_2, hcz13_3, hfz13_0, hfz13_1, hfz13_2, hfz13_3⟩ := cl4 BK451.out; obtain ⟨Ao14, co14, eo14⟩ := Kd.R_slice HO458.out; subst eo14) | ((with_reducible refine gate_callee (f := 71) rfl ?_); refine goesL_ (some 32) rfl rfl Try.func71 (by kernel_rfl) rfl #[.slice A0 l0.length c0, .int .i64 a1_0, .slice Ao14 t456.length co14] rfl ga ?_; (with_reducible refine (impl_PutTlv.calls k _ _ l0 a1_0 _ _ t456 t459 _ ?side1 ?side2 ?side3 ?side4 A7.out).mono ?_); (case side1 => exact cq (Kd.C_below HR0.out HB.out)); (case side2 => exact HC0.out); (case side3 => repeat (first | exact (Kd.R_reads' HO458.out).2.2 | (with_reducible refine Kd.C_alloc ?_ _) | (with_reducible refine Kd.C_drewN ?_ _) | (with_reducible refine Kd.C_drew ?_))); (case side4 => exact (Kd.R_reads' HO458.out).2.1); rintro e w15 ⟨v460, rfl, ho0, hb⟩; refine ⟨_, rfl, ?_⟩; have n_ := ak4 (Kd.R_elder' (kqR HO458.out) (Kd.R_base ho0) hb) (Kd.R_lower (Kd.R_new' ho0 (Kd.R_lt (kqR HO458.out))) (below_size (bq1 HB.out GE451.out))) (blk_below (zb BK451.out) hb) (below_step (bq1 HB.out GE451.out) hb); clear HO458 BK451 HB; obtain ⟨HO458, HO461, BK451, HB⟩ := n_; (try clear hb ho0)))
   go_ret
   exact ⟨_, rq, by refine kr ?_; exact Kd.R_mono HO461.out (fun _ hk => trivial), bq1 HB.out GE451.out⟩
 rw [if_neg c5] at H
 have c5b0 : (a1_0 == 2) = false := beq_eq_false_iff_ne.mpr c5
 have c5b1 : (a1_0 != 2) = true := bne_iff_ne.mpr c5
 by_cases c16 : a1_0 = 4
 · rw [if_pos c16] at H
   have c16b0 : (a1_0 == 4) = true := beq_iff_eq.mpr c16
   have c16b1 : (a1_0 != 4) = false := bne_eq_false_iff_eq.mpr c16
   clear c16
   by_cases c17 : (a1_2.size : Int) < 140737488355328
   rotate_left
   · rw [if_neg c17] at H
     exact absurd H (by simp)
   rw [if_pos c17] at H
   have c17b0 := eq_true c17
   have c17b1 : decide ((a1_2.size : Int) < 140737488355328) = true := decide_eq_true c17
   clear c17
   obtain ⟨y462, hy462⟩ : ∃ y_ : List Int, y_ = (bytesOf a1_2) := ⟨_, rfl⟩
   replace H : ((impl_PutTlv.f k l0 a1_0 y462).bind fun t465 => (some t465)) = some r := hx H hy462
   have Ny462 := am hy462
   clear hy462
   replace H := Option.bind_eq_some_iff.mp H
   obtain ⟨t465, A180, H⟩ := H
   replace H : (some t465) = some r := H
   have A18 := am A180
   clear A180
   obtain rfl := Option.some.inj H
   go_enter Try.func17, Try.ntmps17
   go_wp2_with (first | ((with_reducible refine gate_dst (N := 3) rfl ?_); refine bxe 3 #[.int .i64 a1_0, .int .i64 a1_1, .string a1_2, .slice A1_3 l1_3.length c1_3] 29 ?_; intro gb451 hg w19 hbox hb; have n_ := ak4 (below_step (bq HB.out) hb) hbox ((by rw [hg]; exact (below_size (bq HB.out)) : w.heap.size ≤ gb451)) ((by rw [hg]; exact (below_size (bq HB.out)) : w.heap.size ≤ gb451)); clear HB; obtain ⟨HB, BK451, GW451, GE451⟩ := n_; clear hb hbox hg; obtain ⟨hcz20_0, hcz20_1, hcz20_2, hcz20_3, hfz20_0, hfz20_1, hfz20_2, hfz20_3⟩ := cl4 BK451.out) | ((with_reducible refine gate_callee (f := 46) rfl ?_); refine goesL_ (some 7) rfl rfl Try.func46 (by kernel_rfl) rfl #[.agg #[.int .i64 a1_0, .int .i64 a1_1, .string a1_2, .slice A1_3 l1_3.length c1_3]] rfl ga ?_; (with_reducible refine (impl_ValOk.calls k a1_0 a1_1 a1_2 _ _ l1_3 true _ ?side1 ?side2 A3.out).mono ?_); (case side1 => exact cq (Kd.C_below HR1_3.out HB.out)); (case side2 => exact HC1_3.out); rintro e w21 ⟨rfl, hb⟩; refine ⟨_, rfl, ?_⟩; have n_ := ak2 (blk_below (zb BK451.out) hb) (below_step (bq1 HB.out GE451.out) hb); clear BK451 HB; obtain ⟨BK451, HB⟩ := n_; (try clear hb); obtain ⟨hcz22_0, hcz22_1, hcz22_2, hcz22_3, hfz22_0, hfz22_1, hfz22_2, hfz22_3⟩ := cl4 BK451.out) | ((with_reducible refine gate_dst (N := 22) rfl ?_); refine strb_event ?hg (N := 22) ?hd 9 22 5 (x := .tmp 21) ?ho (s := a1_2) (y := y462) Ny462.out ?hx Try.underlying9 Try.underlying22 Try.underlying5 (by have h_ : (a1_2.size : Int) < (140737488355328 : Int) := oda; omega) ?_; (case hd => rfl); (case hg => rfl); (case ho => rfl); (case hx => first | (go_simp; done) | (go_simp; rfl)); intro As462 cs462 w23 hs_ hl_ hb; have n_ := ak4 (blk_below (zb BK451.out) hb) (below_step (bq1 HB.out GE451.out) hb) hs_ hl_; clear BK451 HB; obtain ⟨BK451, HB, HRs462, HCs462⟩ := n_; clear hb hs_ hl_; obtain ⟨hcz24_0, hcz24_1, hcz24_2, hcz24_3, hfz24_0, hfz24_1, hfz24_2, hfz24_3⟩ := cl4 BK451.out) | ((with_reducible refine gate_callee (f := 71) rfl ?_); refine goesL_ (some 32) rfl rfl Try.func71 (by kernel_rfl) rfl #[.slice A0 l0.length c0, .int .i64 a1_0, .slice As462 y462.length cs462] rfl ga ?_; (with_reducible refine (impl_PutTlv.calls k _ _ l0 a1_0 _ _ y462 t465 _ ?side1 ?side2 ?side3 ?side4 A18.out).mono ?_); (case side1 => exact cq (Kd.C_below HR0.out HB.out)); (case side2 => exact HC0.out); (case side3 => repeat (first | exact (by repeat (first | (with_reducible exact HRs462.out) | (with_reducible refine Kd.C_alloc ?_ _) | (with_reducible refine Kd.C_drewN ?_ _) | (with_reducible refine Kd.C_drew ?_) | exact HRs462.out)) | (with_reducible refine Kd.C_alloc ?_ _) | (with_reducible refine Kd.C_drewN ?_ _) | (with_reducible refine Kd.C_drew ?_))); (case side4 => exact HCs462.out); rintro e w25 ⟨v466, rfl, ho0, hb⟩; refine ⟨_, rfl, ?_⟩; have n_ := ak4 (Kd.R_lower ho0 (below_size (bq1 HB.out GE451.out))) (blk_below (zb BK451.out) hb) (Kd.C_below (by repeat (first | (with_reducible exact HRs462.out) | (with_reducible refine Kd.C_alloc ?_ _) | (with_reducible refine Kd.C_drewN ?_ _) | (with_reducible refine Kd.C_drew ?_) | exact HRs462.out)) hb) (below_step (bq1 HB.out GE451.out) hb); clear BK451 HRs462 HB; obtain ⟨HO467, BK451, HRs462, HB⟩ := n_; (try clear hb ho0)))
   go_ret
   exact ⟨_, rq, kqR HO467.out, bq1 HB.out GE451.out⟩
 rw [if_neg c16] at H
 have c16b0 : (a1_0 == 4) = false := beq_eq_false_iff_ne.mpr c16
 have c16b1 : (a1_0 != 4) = true := bne_iff_ne.mpr c16
 by_cases c26 : a1_0 = 6
 rotate_left
 · rw [if_neg c26] at H
   have c26b0 : (a1_0 == 6) = false := beq_eq_false_iff_ne.mpr c26
   have c26b1 : (a1_0 != 6) = true := bne_iff_ne.mpr c26
   replace H := Option.bind_eq_some_iff.mp H
   obtain ⟨t474, A370, H⟩ := H
   replace H : (some t474) = some r := H
   have A37 := am A370
   clear A370
   obtain rfl := Option.some.inj H
   go_enter Try.func17, Try.ntmps17
   go_wp2_with (first | ((with_reducible refine gate_dst (N := 3) rfl ?_); refine bxe 3 #[.int .i64 a1_0, .int .i64 a1_1, .string a1_2, .slice A1_3 l1_3.length c1_3] 29 ?_; intro gb451 hg w38 hbox hb; have n_ := ak4 (below_step (bq HB.out) hb) hbox ((by rw [hg]; exact (below_size (bq HB.out)) : w.heap.size ≤ gb451)) ((by rw [hg]; exact (below_size (bq HB.out)) : w.heap.size ≤ gb451)); clear HB; obtain ⟨HB, BK451, GW451, GE451⟩ := n_; clear hb hbox hg; obtain ⟨hcz39_0, hcz39_1, hcz39_2, hcz39_3, hfz39_0, hfz39_1, hfz39_2, hfz39_3⟩ := cl4 BK451.out) | ((with_reducible refine gate_callee (f := 46) rfl ?_); refine goesL_ (some 7) rfl rfl Try.func46 (by kernel_rfl) rfl #[.agg #[.int .i64 a1_0, .int .i64 a1_1, .string a1_2, .slice A1_3 l1_3.length c1_3]] rfl ga ?_; (with_reducible refine (impl_ValOk.calls k a1_0 a1_1 a1_2 _ _ l1_3 true _ ?side1 ?side2 A3.out).mono ?_); (case side1 => exact cq (Kd.C_below HR1_3.out HB.out)); (case side2 => exact HC1_3.out); rintro e w40 ⟨rfl, hb⟩; refine ⟨_, rfl, ?_⟩; have n_ := ak2 (blk_below (zb BK451.out) hb) (below_step (bq1 HB.out GE451.out) hb); clear BK451 HB; obtain ⟨BK451, HB⟩ := n_; (try clear hb); obtain ⟨hcz41_0, hcz41_1, hcz41_2, hcz41_3, hfz41_0, hfz41_1, hfz41_2, hfz41_3⟩ := cl4 BK451.out) | ((with_reducible refine gate_callee (f := 71) rfl ?_); refine goesL_ (some 32) rfl rfl Try.func71 (by kernel_rfl) rfl #[.slice A0 l0.length c0, .int .i64 a1_0, .slice none 0 0] rfl ga ?_; (refine (impl_PutTlv.calls k _ _ l0 a1_0 _ _ ([] : List Int) t474 _ ?side1 ?side2 ?side3 ?side4 A37.out).mono ?_); (case side1 => exact cq (Kd.C_below HR0.out HB.out)); (case side2 => exact HC0.out); (case side3 => exact Kd.C_nil _ _); (case side4 => exact Nat.le_refl _); rintro e w42 ⟨v475, rfl, ho0, hb⟩; refine ⟨_, rfl, ?_⟩; have n_ := ak3 (Kd.R_lower ho0 (below_size (bq1 HB.out GE451.out))) (blk_below (zb BK451.out) hb) (below_step (bq1 HB.out GE451.out) hb); clear BK451 HB; obtain ⟨HO476, BK451, HB⟩ := n_; (try clear hb ho0)))
   go_ret
   exact ⟨_, rq, kqR HO476.out, bq1 HB.out GE451.out⟩
 rw [if_pos c26] at H
 have c26b0 : (a1_0 == 6) = true := beq_iff_eq.mpr c26
 have c26b1 : (a1_0 != 6) = false := bne_eq_false_iff_eq.mpr c26
 clear c26
 replace H := Option.bind_eq_some_iff.mp H
 obtain ⟨t468, A270, H⟩ := H
 replace H : ((impl_PutTlv.f k l0 a1_0 t468).bind fun t471 => (some t471)) = some r := H
 have A27 := am A270
 clear A270
 replace H := Option.bind_eq_some_iff.mp H
 obtain ⟨t471, A280, H⟩ := H
 replace H : (some t471) = some r := H
 have A28 := am A280
 clear A280
 obtain rfl := Option.some.inj H
 go_enter Try.func17, Try.ntmps17
 go_wp2_with (first | ((with_reducible refine gate_dst (N := 3) rfl ?_); refine bxe 3 #[.int .i64 a1_0, .int .i64 a1_1, .string a1_2, .slice A1_3 l1_3.length c1_3] 29 ?_; intro gb451 hg w29 hbox hb; have n_ := ak4 (below_step (bq HB.out) hb) hbox ((by rw [hg]; exact (below_size (bq HB.out)) : w.heap.size ≤ gb451)) ((by rw [hg]; exact (below_size (bq HB.out)) : w.heap.size ≤ gb451)); clear HB; obtain ⟨HB, BK451, GW451, GE451⟩ := n_; clear hb hbox hg; obtain ⟨hcz30_0, hcz30_1, hcz30_2, hcz30_3, hfz30_0, hfz30_1, hfz30_2, hfz30_3⟩ := cl4 BK451.out) | ((with_reducible refine gate_callee (f := 46) rfl ?_); refine goesL_ (some 7) rfl rfl Try.func46 (by kernel_rfl) rfl #[.agg #[.int .i64 a1_0, .int .i64 a1_1, .string a1_2, .slice A1_3 l1_3.length c1_3]] rfl ga ?_; (with_reducible refine (impl_ValOk.calls k a1_0 a1_1 a1_2 _ _ l1_3 true _ ?side1 ?side2 A3.out).mono ?_); (case side1 => exact cq (Kd.C_below HR1_3.out HB.out)); (case side2 => exact HC1_3.out); rintro e w31 ⟨rfl, hb⟩; refine ⟨_, rfl, ?_⟩; have n_ := ak2 (blk_below (zb BK451.out) hb) (below_step (bq1 HB.out GE451.out) hb); clear BK451 HB; obtain ⟨BK451, HB⟩ := n_; (try clear hb); obtain ⟨hcz32_0, hcz32_1, hcz32_2, hcz32_3, hfz32_0, hfz32_1, hfz32_2, hfz32_3⟩ := cl4 BK451.out) | ((with_reducible refine gate_callee (f := 70) rfl ?_); refine goesL_ (some 27) rfl rfl Try.func70 (by kernel_rfl) rfl #[.slice A1_3 l1_3.length c1_3] rfl ga ?_; (with_reducible refine (impl_PutOid.calls k _ _ l1_3 t468 _ ?side1 ?side2 A27.out).mono ?_); (case side1 => exact cq (Kd.C_below HR1_3.out HB.out)); (case side2 => exact HC1_3.out); rintro e w33 ⟨v469, rfl, ho0, hb⟩; refine ⟨_, rfl, ?_⟩; have n_ := ak3 (Kd.R_lower ho0 (below_size (bq1 HB.out GE451.out))) (blk_below (zb BK451.out) hb) (below_step (bq1 HB.out GE451.out) hb); clear BK451 HB; obtain ⟨HO470, BK451, HB⟩ := n_; (try clear hb ho0); obtain ⟨hcz34_0, hcz34_1, hcz34_2, hcz34_3, hfz34_0, hfz34_1, hfz34_2, hfz34_3⟩ := cl4 BK451.out; obtain ⟨Ao35, co35, eo35⟩ := Kd.R_slice HO470.out; subst eo35) | ((with_reducible refine gate_callee (f := 71) rfl ?_); refine goesL_ (some 32) rfl rfl Try.func71 (by kernel_rfl) rfl #[.slice A0 l0.length c0, .int .i64 a1_0, .slice Ao35 t468.length co35] rfl ga ?_; (with_reducible refine (impl_PutTlv.calls k _ _ l0 a1_0 _ _ t468 t471 _ ?side1 ?side2 ?side3 ?side4 A28.out).mono ?_); (case side1 => exact cq (Kd.C_below HR0.out HB.out)); (case side2 => exact HC0.out); (case side3 => repeat (first | exact (Kd.R_reads' HO470.out).2.2 | (with_reducible refine Kd.C_alloc ?_ _) | (with_reducible refine Kd.C_drewN ?_ _) | (with_reducible refine Kd.C_drew ?_))); (case side4 => exact (Kd.R_reads' HO470.out).2.1); rintro e w36 ⟨v472, rfl, ho0, hb⟩; refine ⟨_, rfl, ?_⟩; have n_ := ak4 (Kd.R_elder' (kqR HO470.out) (Kd.R_base ho0) hb) (Kd.R_lower (Kd.R_new' ho0 (Kd.R_lt (kqR HO470.out))) (below_size (bq1 HB.out GE451.out))) (blk_below (zb BK451.out) hb) (below_step (bq1 HB.out GE451.out) hb); clear HO470 BK451 HB; obtain ⟨HO470, HO473, BK451, HB⟩ := n_; (try clear hb ho0)))
 go_ret
 exact ⟨_, rq, by refine kr ?_; exact Kd.R_mono HO473.out (fun _ hk => trivial), bq1 HB.out GE451.out⟩

/-! ### impl_addNum: function 76 -/
def impl_addNum.f (k : Nat) (l0 : List Int) (a1 : Int) (a2 : Int) : Option (List Int) := (impl_PutInt.f k a2).bind fun t477 => ((impl_PutTlv.f k l0 a1 t477).bind fun t480 => (some t480))
theorem impl_addNum.mono : ∀ a0 a1 a2 k, LeO (impl_addNum.f k a0 a1 a2) (impl_addNum.f (k + 1) a0 a1 a2) := by
 intro a0 a1 a2 k
 unfold impl_addNum.f
 repeat' first
  | (with_reducible exact impl_PutInt.mono _ _)
  | (with_reducible exact impl_PutTlv.mono _ _ _ _)
  | (with_reducible exact LeO.refl _)
  | (with_reducible exact LeO.none _)
  | (with_reducible refine LeO.ite ?_ ?_)
  | (with_reducible refine LeO.bind ?_ (fun _ => ?_))
  | exact impl_PutInt.mono _ _
  | exact impl_PutTlv.mono _ _ _ _
  | exact LeO.none _
  | refine LeO.ite ?_ ?_
  | refine LeO.bind ?_ (fun _ => ?_)
set_option maxHeartbeats 8000000 in
set_option maxRecDepth 100000 in
theorem impl_addNum.calls (k : Nat) (A0 : Option Addr) (c0 : Nat) (l0 : List Int) (a1 : Int) (a2 : Int) (r : List Int) (w : World) (hr0 : Kd.C (Kd.int .u8) w A0 l0.length l0) (hc0 : l0.length ≤ c0) (h : impl_addNum.f k l0 a1 a2 = some r) :
 Calls Try.prog 76 #[.slice A0 l0.length c0, .int .i64 a1, .int .i64 a2] w fun e w' => ∃ v0_ : Value, e = .returned (v0_) ∧ Kd.R (Kd.int .u8) 5 w' w.heap.size (fun _ => True) v0_ r ∧ Below w.heap.size w w' := by
 have HR0 := am hr0
 have HC0 := am hc0
 clear hr0 hc0
 have HB := am (Below.refl w.heap.size w)
 have H : ((impl_PutInt.f k a2).bind fun t477 => ((impl_PutTlv.f k l0 a1 t477).bind fun t480 => (some t480))) = some r := h
 clear h
 replace H := Option.bind_eq_some_iff.mp H
 obtain ⟨t477, A40, H⟩ := H
 replace H : ((impl_PutTlv.f k l0 a1 t477).bind fun t480 => (some t480)) = some r := H
 have A4 := am A40
 clear A40
 replace H := Option.bind_eq_some_iff.mp H
 obtain ⟨t480, A50, H⟩ := H
 replace H : (some t480) = some r := H
 have A5 := am A50
 clear A50
 obtain rfl := Option.some.inj H
 go_enter Try.func76, Try.ntmps76
 go_wp2_with (first | ((with_reducible refine gate_callee (f := 69) rfl ?_); refine goesL_ (some 10) rfl rfl Try.func69 (by kernel_rfl) rfl #[.int .i64 a2] rfl ga ?_; (with_reducible refine (impl_PutInt.calls k a2 t477 _ A4.out).mono ?_); rintro e w6 ⟨v478, rfl, ho0, hb⟩; refine ⟨_, rfl, ?_⟩; have n_ := ak2 (Kd.R_lower ho0 (below_size (bq HB.out))) (below_step (bq HB.out) hb); clear HB; obtain ⟨HO479, HB⟩ := n_; (try clear hb ho0); obtain ⟨Ao7, co7, eo7⟩ := Kd.R_slice HO479.out; subst eo7) | ((with_reducible refine gate_callee (f := 71) rfl ?_); refine goesL_ (some 11) rfl rfl Try.func71 (by kernel_rfl) rfl #[.slice A0 l0.length c0, .int .i64 a1, .slice Ao7 t477.length co7] rfl ga ?_; (with_reducible refine (impl_PutTlv.calls k _ _ l0 a1 _ _ t477 t480 _ ?side1 ?side2 ?side3 ?side4 A5.out).mono ?_); (case side1 => exact cq (Kd.C_below HR0.out HB.out)); (case side2 => exact HC0.out); (case side3 => repeat (first | exact (Kd.R_reads' HO479.out).2.2 | (with_reducible refine Kd.C_alloc ?_ _) | (with_reducible refine Kd.C_drewN ?_ _) | (with_reducible refine Kd.C_drew ?_))); (case side4 => exact (Kd.R_reads' HO479.out).2.1); rintro e w8 ⟨v481, rfl, ho0, hb⟩; refine ⟨_, rfl, ?_⟩; have n_ := ak3 (Kd.R_elder' (kqR HO479.out) (Kd.R_base ho0) hb) (Kd.R_lower (Kd.R_new' ho0 (Kd.R_lt (kqR HO479.out))) (below_size (bq HB.out))) (below_step (bq HB.out) hb); clear HO479 HB; obtain ⟨HO479, HO482, HB⟩ := n_; (try clear hb ho0)))
 go_ret
 exact ⟨_, rq, by refine kr ?_; exact Kd.R_mono HO482.out (fun _ hk => trivial), bq HB.out⟩

end Go.Proofs.Ythhnfmbfgplelaa.XFnExactPutMsg
