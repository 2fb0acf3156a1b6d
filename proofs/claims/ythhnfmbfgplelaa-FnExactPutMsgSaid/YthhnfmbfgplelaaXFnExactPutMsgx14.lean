/- The functions that one law reaches, as Lean functions, with their walks: printed by a program of this seat (wip/tools) out of the translation. -/
import Derived.Test.YthhnfmbfgplelaaXFnExactPutMsgx0
import Derived.Test.YthhnfmbfgplelaaXFnExactPutMsgx1
import Derived.Test.YthhnfmbfgplelaaXFnExactPutMsgx2
import Derived.Test.YthhnfmbfgplelaaXFnExactPutMsgx3
import Derived.Test.YthhnfmbfgplelaaXFnExactPutMsgx4
import Derived.Test.YthhnfmbfgplelaaXFnExactPutMsgx8
import Derived.Test.YthhnfmbfgplelaaXFnExactPutMsgx10
import Derived.Test.YthhnfmbfgplelaaXFnExactPutMsgx11
import Derived.Test.YthhnfmbfgplelaaXFnExactPutMsgx13
namespace Go.Proofs.Ythhnfmbfgplelaa.XFnExactPutMsg
open Go.RowKit Go.Proofs.YthhnfmbfgplelaaW.PrintWords Go.Proofs.YthhnfmbfgplelaaW.PrintLast Go.Proofs.YthhnfmbfgplelaaW.PrintMore
attribute [local go_sem] max2_int min2_int max_two min_two max_three min_three max_four min_four   -- for this text's walks alone
set_option linter.unusedVariables false
set_option linter.unusedSimpArgs false

/-! ### impl_PutMsg: function 52 -/
def impl_PutMsg.j0 : Nat → ByteArray → List Int → Bool → Option (List Int)
 | 0, _, _, _ => none
 | k + 1, x0, x5, x17 => if x17 = true then (some ([] : List Int)) else ((impl_addNum.f k ([] : List Int) 2 1).bind fun t535 => (if (x0.size : Int) < 140737488355328 then ((impl_PutTlv.f k t535 4 (bytesOf x0)).bind fun t541 => (if t541.length + x5.length < 140737488355328 then ((impl_tlv.f k 48 (t541 ++ x5)).bind fun bt547 => (if bt547.2 = true then (some bt547.1) else (some ([] : List Int)))) else (none))) else (none)))
def impl_PutMsg.f (k : Nat) (a0 : ByteArray) (a1_0 : Int) (a1_1 : Int) (a1_2 : Int) (a1_3 : Int) (l1_4 : List (S116)) : Option (List Int) := (impl_PutPdu.f k a1_0 a1_1 a1_2 a1_3 l1_4).bind fun t532 => (if (t532.length : Int) = 0 then (impl_PutMsg.j0 k a0 t532 true) else (impl_PutMsg.j0 k a0 t532 (decide ((a0.size : Int) > 20))))
theorem impl_PutMsg.mono_l : ∀ k, (∀ y0 y1 y2, LeO (impl_PutMsg.j0 k y0 y1 y2) (impl_PutMsg.j0 (k + 1) y0 y1 y2))
 | 0 => fun _ _ _ r h => by simp [impl_PutMsg.j0] at h
 | k + 1 => by
  have ih0 := impl_PutMsg.mono_l k
  intro y0 y1 y2
  unfold impl_PutMsg.j0
  repeat' first
  | (with_reducible exact ih0 _ _ _)
  | (with_reducible exact impl_PutPdu.mono _ _ _ _ _ _)
  | (with_reducible exact impl_PutTlv.mono _ _ _ _)
  | (with_reducible exact impl_addNum.mono _ _ _ _)
  | (with_reducible exact impl_tlv.mono _ _ _)
  | (with_reducible exact LeO.refl _)
  | (with_reducible exact LeO.none _)
  | (with_reducible refine LeO.ite ?_ ?_)
  | (with_reducible refine LeO.bind ?_ (fun _ => ?_))
  | exact ih0 _ _ _
  | exact impl_PutPdu.mono _ _ _ _ _ _
  | exact impl_PutTlv.mono _ _ _ _
  | exact impl_addNum.mono _ _ _ _
  | exact impl_tlv.mono _ _ _
  | exact LeO.none _
  | refine LeO.ite ?_ ?_
  | refine LeO.bind ?_ (fun _ => ?_)
theorem impl_PutMsg.mono : ∀ a0 a1 a2 a3 a4 a5 k, LeO (impl_PutMsg.f k a0 a1 a2 a3 a4 a5) (impl_PutMsg.f (k + 1) a0 a1 a2 a3 a4 a5) := by
 intro a0 a1 a2 a3 a4 a5 k
 have ih0 := impl_PutMsg.mono_l k
 unfold impl_PutMsg.f
 repeat' first
  | (with_reducible exact ih0 _ _ _)
  | (with_reducible exact impl_PutPdu.mono _ _ _ _ _ _)
  | (with_reducible exact impl_PutTlv.mono _ _ _ _)
  | (with_reducible exact impl_addNum.mono _ _ _ _)
  | (with_reducible exact impl_tlv.mono _ _ _)
  | (with_reducible exact LeO.refl _)
  | (with_reducible exact LeO.none _)
  | (with_reducible refine LeO.ite ?_ ?_)
  | (with_reducible refine LeO.bind ?_ (fun _ => ?_))
  | exact ih0 _ _ _
  | exact impl_PutPdu.mono _ _ _ _ _ _
  | exact impl_PutTlv.mono _ _ _ _
  | exact impl_addNum.mono _ _ _ _
  | exact impl_tlv.mono _ _ _
  | exact LeO.none _
  | refine LeO.ite ?_ ?_
  | refine LeO.bind ?_ (fun _ => ?_)
set_option maxHeartbeats 8000000 in
set_option maxRecDepth 100000 in
theorem impl_PutMsg.calls (k : Nat) (a0 : ByteArray) (a1_0 : Int) (a1_1 : Int) (a1_2 : Int) (a1_3 : Int) (A1_4 : Option Addr) (c1_4 : Nat) (l1_4 : List (S116)) (r : List Int) (w : World) (hr1_4 : Kd.C k116 w A1_4 l1_4.length l1_4) (hc1_4 : l1_4.length ≤ c1_4) (h : impl_PutMsg.f k a0 a1_0 a1_1 a1_2 a1_3 l1_4 = some r) :
 Calls Try.prog 52 #[.string a0, .agg #[.int .i64 a1_0, .int .i64 a1_1, .int .i64 a1_2, .int .i64 a1_3, .slice A1_4 l1_4.length c1_4]] w fun e w' => ∃ v0_ : Value, e = .returned (v0_) ∧ Kd.R (Kd.int .u8) 5 w' w.heap.size (fun _ => True) v0_ r ∧ Below w.heap.size w w' := by
 have hu58 := Try.underlying58
 have HR1_4 := am hr1_4
 have HC1_4 := am hc1_4
 clear hr1_4 hc1_4
 have HB := am (Below.refl w.heap.size w)
 have H : ((impl_PutPdu.f k a1_0 a1_1 a1_2 a1_3 l1_4).bind fun t532 => (if (t532.length : Int) = 0 then (impl_PutMsg.j0 k a0 t532 true) else (impl_PutMsg.j0 k a0 t532 (decide ((a0.size : Int) > 20))))) = some r := h
 clear h
 replace H := Option.bind_eq_some_iff.mp H
 obtain ⟨t532, A30, H⟩ := H
 replace H : (if (t532.length : Int) = 0 then (impl_PutMsg.j0 k a0 t532 true) else (impl_PutMsg.j0 k a0 t532 (decide ((a0.size : Int) > 20)))) = some r := H
 have A3 := am A30
 clear A30
 have HC4 := am H
 clear H
 go_enter Try.func52, Try.ntmps52
 go_upto_region 2 with (first | ((with_reducible refine gate_dst (N := 3) rfl ?_); (try (refine gate_guard (by rfl) ?_; dsimp only)); refine bxe 3 #[.int .i64 a1_0, .int .i64 a1_1, .int .i64 a1_2, .int .i64 a1_3, .slice A1_4 l1_4.length c1_4] 58 ?_; intro gb531 hg w5 hbox hb; have n_ := ak4 (below_step (bq HB.out) hb) hbox ((by rw [hg]; exact (below_size (bq HB.out)) : w.heap.size ≤ gb531)) ((by rw [hg]; exact (below_size (bq HB.out)) : w.heap.size ≤ gb531)); clear HB; obtain ⟨HB, BK531, GW531, GE531⟩ := n_; clear hb hbox hg; obtain ⟨hcz6_0, hcz6_1, hcz6_2, hcz6_3, hcz6_4, hfz6_0, hfz6_1, hfz6_2, hfz6_3, hfz6_4⟩ := cl5 BK531.out) | ((with_reducible refine gate_callee (f := 41) rfl ?_); refine goesL_ (some 9) rfl rfl Try.func41 (by kernel_rfl) rfl #[.agg #[.int .i64 a1_0, .int .i64 a1_1, .int .i64 a1_2, .int .i64 a1_3, .slice A1_4 l1_4.length c1_4]] rfl ga ?_; (with_reducible refine (impl_PutPdu.calls k a1_0 a1_1 a1_2 a1_3 _ _ l1_4 t532 _ ?side1 ?side2 A3.out).mono ?_); (case side1 => exact cq (Kd.C_below HR1_4.out HB.out)); (case side2 => exact HC1_4.out); rintro e w7 ⟨v533, rfl, ho0, hb⟩; refine ⟨_, rfl, ?_⟩; have n_ := ak3 (Kd.R_lower ho0 (below_size (bq1 HB.out GE531.out))) (blk_below (zb BK531.out) hb) (below_step (bq1 HB.out GE531.out) hb); clear BK531 HB; obtain ⟨HO534, BK531, HB⟩ := n_; (try clear hb ho0)))
 (try simp only [Act.put, List.setIfInBounds_toArray, List.set_cons_zero, List.set_cons_succ])
 go_cut [17] (fun v17 wc => ∃ (kq : Nat) (x17_3 : Bool), v17 = .bool x17_3 ∧ Aside0 (impl_PutMsg.j0 kq a0 t532 x17_3 = some r) ∧ Aside0 (kq ≤ k) ∧ Aside0 (Kd.R (Kd.int .u8) 5 wc w.heap.size (fun _ => True) v533 t532) ∧ Aside0 (wc.heap[gb531]? = some (.cells #[.int .i64 a1_0, .int .i64 a1_1, .int .i64 a1_2, .int .i64 a1_3, (.slice A1_4 l1_4.length c1_4)] 58 (0, 0))) ∧ Aside0 (Below w.heap.size w wc))
 case first =>
  have H := HC4.out
  clear HC4
  by_cases c8 : (t532.length : Int) = 0
  · rw [if_pos c8] at H
    have c8b0 : ((t532.length : Int) == 0) = true := beq_iff_eq.mpr c8
    have c8b1 : ((t532.length : Int) != 0) = false := bne_eq_false_iff_eq.mpr c8
    clear c8
    (first | rw [c8b0] | (simp only [i64_w, i32_w]; rw [c8b0]) | skip)
    have H' := am H
    clear H
    obtain ⟨Ao9, co9, eo9⟩ := Kd.R_slice HO534.out
    subst eo9
    go_wp2
    go_meet
    case rel => exact ⟨_, (true), sq, H', ⟨by first | omega | exact Nat.le_refl _⟩, ⟨kqR HO534.out⟩, ⟨zq BK531.out⟩, ⟨bq1 HB.out GE531.out⟩⟩
  rw [if_neg c8] at H
  have c8b0 : ((t532.length : Int) == 0) = false := beq_eq_false_iff_ne.mpr c8
  have c8b1 : ((t532.length : Int) != 0) = true := bne_iff_ne.mpr c8
  have c8b2 : ¬ (t532 = []) := fun h_ => c8 (by rw [h_]; rfl)
  (first | rw [c8b0] | (simp only [i64_w, i32_w]; rw [c8b0]) | skip)
  have H' := am H
  clear H
  obtain ⟨Ao10, co10, eo10⟩ := Kd.R_slice HO534.out
  subst eo10
  go_wp2
  go_meet
  case rel => exact ⟨_, (decide ((a0.size : Int) > 20)), sq, H', ⟨by first | omega | exact Nat.le_refl _⟩, ⟨kqR HO534.out⟩, ⟨zq BK531.out⟩, ⟨bq1 HB.out GE531.out⟩⟩
 case rest =>
  clear HC4
  try clear c1
  try clear p2
  try clear c4
  try clear c5
  try clear c8
  try clear c8b0
  try clear c8b1
  try clear c8b2
  try clear hcz6_0
  try clear hcz6_1
  try clear hcz6_2
  try clear hcz6_3
  try clear hcz6_4
  try clear hfz6_0
  try clear hfz6_1
  try clear hfz6_2
  try clear hfz6_3
  try clear hfz6_4
  obtain ⟨kq, x17_3, rfl, HA, HJ3, HO_5, BK531, HB⟩ := hcut
  cases kq with
  | zero => exact absurd HA.out (by simp [impl_PutMsg.j0])
  | succ kj3 =>
   have H := HA.out
   clear HA
   simp only [impl_PutMsg.j0] at H
   by_cases c11 : x17_3 = true
   · subst c11
     replace H : (some ([] : List Int)) = some r := by rw [if_pos rfl] at H; exact H
     obtain rfl := Option.some.inj H
     go_wp2
     go_ret
     exact ⟨_, rq, rn, bq1 HB.out GE531.out⟩
   replace c11 := Bool.eq_false_iff.mpr c11
   subst c11
   replace H : ((impl_addNum.f kj3 ([] : List Int) 2 1).bind fun t535 => (if (a0.size : Int) < 140737488355328 then ((impl_PutTlv.f kj3 t535 4 (bytesOf a0)).bind fun t541 => (if t541.length + t532.length < 140737488355328 then ((impl_tlv.f kj3 48 (t541 ++ t532)).bind fun bt547 => (if bt547.2 = true then (some bt547.1) else (some ([] : List Int)))) else (none))) else (none))) = some r := by rw [if_neg (show ¬ (false = true) by decide)] at H; exact H
   replace H := Option.bind_eq_some_iff.mp H
   obtain ⟨t535, A120, H⟩ := H
   replace H : (if (a0.size : Int) < 140737488355328 then ((impl_PutTlv.f kj3 t535 4 (bytesOf a0)).bind fun t541 => (if t541.length + t532.length < 140737488355328 then ((impl_tlv.f kj3 48 (t541 ++ t532)).bind fun bt547 => (if bt547.2 = true then (some bt547.1) else (some ([] : List Int)))) else (none))) else (none)) = some r := H
   have A12 := am A120
   clear A120
   by_cases c13 : (a0.size : Int) < 140737488355328
   rotate_left
   · rw [if_neg c13] at H
     exact absurd H (by simp)
   rw [if_pos c13] at H
   have c13b0 := eq_true c13
   have c13b1 : decide ((a0.size : Int) < 140737488355328) = true := decide_eq_true c13
   clear c13
   obtain ⟨y538, hy538⟩ : ∃ y_ : List Int, y_ = (bytesOf a0) := ⟨_, rfl⟩
   replace H : ((impl_PutTlv.f kj3 t535 4 y538).bind fun t541 => (if t541.length + t532.length < 140737488355328 then ((impl_tlv.f kj3 48 (t541 ++ t532)).bind fun bt547 => (if bt547.2 = true then (some bt547.1) else (some ([] : List Int)))) else (none))) = some r := hx H hy538
   have Ny538 := am hy538
   clear hy538
   replace H := Option.bind_eq_some_iff.mp H
   obtain ⟨t541, A140, H⟩ := H
   replace H : (if t541.length + t532.length < 140737488355328 then ((impl_tlv.f kj3 48 (t541 ++ t532)).bind fun bt547 => (if bt547.2 = true then (some bt547.1) else (some ([] : List Int)))) else (none)) = some r := H
   have A14 := am A140
   clear A140
   by_cases c15 : t541.length + t532.length < 140737488355328
   rotate_left
   · rw [if_neg c15] at H
     exact absurd H (by simp)
   rw [if_pos c15] at H
   have LMc15 := am c15
   clear c15
   obtain ⟨y544, hy544⟩ : ∃ y_ : List Int, y_ = (t541 ++ t532) := ⟨_, rfl⟩
   replace H : ((impl_tlv.f kj3 48 y544).bind fun bt547 => (if bt547.2 = true then (some bt547.1) else (some ([] : List Int)))) = some r := hx H hy544
   have Ny544 := am hy544
   clear hy544
   replace H := Option.bind_eq_some_iff.mp H
   obtain ⟨⟨t547, t548⟩, A160, H⟩ := H
   replace H : (if t548 = true then (some t547) else (some ([] : List Int))) = some r := H
   have A16 := am A160
   clear A160
   by_cases c17 : t548 = true
   · subst c17
     replace H : (some t547) = some r := by rw [if_pos rfl] at H; exact H
     obtain rfl := Option.some.inj H
     go_wp2_with (first | ((with_reducible refine gate_callee (f := 76) rfl ?_); refine goesL_ (some 19) rfl rfl Try.func76 (by kernel_rfl) rfl #[.slice none 0 0, .int .i64 2, .int .i64 1] rfl ga ?_; (refine (impl_addNum.calls kj3 _ _ ([] : List Int) 2 1 t535 _ ?side1 ?side2 A12.out).mono ?_); (case side1 => exact Kd.C_nil _ _); (case side2 => exact Nat.le_refl _); rintro e w18 ⟨v536, rfl, ho0, hb⟩; refine ⟨_, rfl, ?_⟩; have n_ := ak4 (Kd.R_elder' (kqR HO_5.out) (Kd.R_base ho0) hb) (Kd.R_lower (Kd.R_new' ho0 (Kd.R_lt (kqR HO_5.out))) (below_size (bq1 HB.out GE531.out))) (blk_below (zb BK531.out) hb) (below_step (bq1 HB.out GE531.out) hb); clear HO_5 BK531 HB; obtain ⟨HO_5, HO537, BK531, HB⟩ := n_; (try clear hb ho0)) | ((with_reducible refine gate_dst (N := 21) rfl ?_); (try (refine gate_guard (by rfl) ?_; dsimp only)); refine strb_event ?hg (N := 21) ?hd 9 22 5 (x := .tmp 20) ?ho (s := a0) (y := y538) Ny538.out ?hx Try.underlying9 Try.underlying22 Try.underlying5 (by have h_ : (a0.size : Int) < (140737488355328 : Int) := oda; omega) ?_; (case hd => rfl); (case hg => rfl); (case ho => rfl); (case hx => first | (go_simp; done) | (go_simp; rfl)); intro As538 cs538 w19 hs_ hl_ hb; have n_ := ak6 (Kd.R_below (kqR HO_5.out) hb) (Kd.R_below (kqR HO537.out) hb) (blk_below (zb BK531.out) hb) (below_step (bq1 HB.out GE531.out) hb) hs_ hl_; clear HO_5 HO537 BK531 HB; obtain ⟨HO_5, HO537, BK531, HB, HRs538, HCs538⟩ := n_; clear hb hs_ hl_; obtain ⟨Ao20, co20, eo20⟩ := Kd.R_slice HO537.out; subst eo20) | ((with_reducible refine gate_callee (f := 71) rfl ?_); refine goesL_ (some 22) rfl rfl Try.func71 (by kernel_rfl) rfl #[.slice Ao20 t535.length co20, .int .i64 4, .slice As538 y538.length cs538] rfl ga ?_; (with_reducible refine (impl_PutTlv.calls kj3 _ _ t535 4 _ _ y538 t541 _ ?side1 ?side2 ?side3 ?side4 A14.out).mono ?_); (case side1 => repeat (first | exact (Kd.R_reads' HO537.out).2.2 | (with_reducible refine Kd.C_alloc ?_ _) | (with_reducible refine Kd.C_drewN ?_ _) | (with_reducible refine Kd.C_drew ?_))); (case side2 => exact (Kd.R_reads' HO537.out).2.1); (case side3 => repeat (first | exact (by repeat (first | (with_reducible exact HRs538.out) | (with_reducible refine Kd.C_alloc ?_ _) | (with_reducible refine Kd.C_drewN ?_ _) | (with_reducible refine Kd.C_drew ?_) | exact HRs538.out)) | (with_reducible refine Kd.C_alloc ?_ _) | (with_reducible refine Kd.C_drewN ?_ _) | (with_reducible refine Kd.C_drew ?_))); (case side4 => exact HCs538.out); rintro e w21 ⟨v542, rfl, ho0, hb⟩; refine ⟨_, rfl, ?_⟩; have n_ := ak6 (Kd.R_elder' (kqR HO_5.out) (Kd.R_base ho0) hb) (Kd.R_elder' (kqR HO537.out) (Kd.R_base ho0) hb) (Kd.R_lower (Kd.R_new' (Kd.R_new' ho0 (Kd.R_lt (kqR HO_5.out))) (Kd.R_lt (kqR HO537.out))) (below_size (bq1 HB.out GE531.out))) (blk_below (zb BK531.out) hb) (Kd.C_below (by repeat (first | (with_reducible exact HRs538.out) | (with_reducible refine Kd.C_alloc ?_ _) | (with_reducible refine Kd.C_drewN ?_ _) | (with_reducible refine Kd.C_drew ?_) | exact HRs538.out)) hb) (below_step (bq1 HB.out GE531.out) hb); clear HO_5 HO537 BK531 HRs538 HB; obtain ⟨HO_5, HO537, HO543, BK531, HRs538, HB⟩ := n_; (try clear hb ho0); obtain ⟨Ao23, co23, eo23⟩ := Kd.R_slice HO_5.out; subst eo23) | ((with_reducible refine gate_builtin (b := .append) (xs := #[.tmp 22, .tmp 23]) rfl ?_); (try (refine gate_guard (by rfl) ?_; dsimp only)); at_builtin; refine Kd.R_append_rows (Kd.int .u8) (w0 := w) w.heap.size rfl (.tmp 22) (.tmp 23) 22 5 (.int .u8 0) 1 rfl Try.underlying22 info5 rfl (by decide) (by omega) v542 t541 t532 _ _ _ (fun k_ => some k_ ≠ (.slice Ao23 t532.length co23 : Value).ownBlock ∧ some k_ ≠ (.slice Ao20 t535.length co20 : Value).ownBlock) (fun _ => False) rfl rfl ?aO ?aR (fun _ _ h => h) (fun _ h => h.elim) ?aF ?aB ?aS ?aL ?_; (case aR => repeat (first | exact (Kd.R_reads' HO_5.out).2.2 | (with_reducible refine Kd.C_alloc ?_ _) | (with_reducible refine Kd.C_drewN ?_ _) | (with_reducible refine Kd.C_drew ?_))); (case aB => exact (bq1 HB.out GE531.out)); (case aF => exact (fun k_ hk => ⟨Kd.fresh' (Kd.R_lt (kqR HO_5.out)) k_ hk, Kd.fresh' (Kd.R_lt (kqR HO537.out)) k_ hk⟩)); (case aO => exact (by refine kr ?_; exact Kd.R_mono HO543.out (fun _ hk => ⟨hk.1.2, hk.2⟩))); (case aS => exact (below_size (bq1 HB.out GE531.out))); (case aL => have := LMc15.out; omega); intro v545 w22 ho hb hg hat; rw [← Ny544.out] at ho; have n_ := ak5 (Kd.R_after (ok := (fun k_ => some k_ ≠ (.slice Ao20 t535.length co20 : Value).ownBlock)) (by refine kr ?_; exact Kd.R_mono HO_5.out (fun _ hk => ⟨hk.1.2, hk.2⟩)) hg hat) (blk_grown (g := gb531) (o := .cells #[.int .i64 a1_0, .int .i64 a1_1, .int .i64 a1_2, .int .i64 a1_3, .slice A1_4 l1_4.length c1_4] 58 (0, 0)) (zq BK531.out) hg (Kd.R_ne HO543.out BK531.out (by decide))) (Kd.R_after (ok := (fun k_ => some k_ ≠ (.slice Ao23 t532.length co23 : Value).ownBlock)) (by refine kr ?_; exact Kd.R_mono HO537.out (fun _ hk => ⟨hk.1.2, hk.2⟩)) hg hat) hb ho; clear HO_5 BK531 HO537 HB HO543; obtain ⟨HO_5, BK531, HO537, HB, HO546⟩ := n_; clear ho hb hg hat; obtain ⟨Ao24, co24, eo24⟩ := Kd.R_slice HO546.out; subst eo24) | ((with_reducible refine gate_callee (f := 100) rfl ?_); refine goesL_ (some 25) rfl rfl Try.func100 (by kernel_rfl) rfl #[.int .i64 48, .slice Ao24 y544.length co24] rfl ga ?_; (with_reducible refine (impl_tlv.calls kj3 48 _ _ y544 t547 true _ ?side1 ?side2 A16.out).mono ?_); (case side1 => repeat (first | exact (Kd.R_reads' HO546.out).2.2 | (with_reducible refine Kd.C_alloc ?_ _) | (with_reducible refine Kd.C_drewN ?_ _) | (with_reducible refine Kd.C_drew ?_))); (case side2 => exact (Kd.R_reads' HO546.out).2.1); rintro e w25 ⟨v549, rfl, ho0, hb⟩; refine ⟨_, rfl, ?_⟩; have n_ := ak6 (Kd.R_elder' (kqR HO_5.out) (Kd.R_base ho0) hb) (Kd.R_elder' (kqR HO537.out) (Kd.R_base ho0) hb) (Kd.R_elder' (kqR HO546.out) (Kd.R_base ho0) hb) (Kd.R_lower (Kd.R_new' (Kd.R_new' (Kd.R_new' ho0 (Kd.R_lt (kqR HO_5.out))) (Kd.R_lt (kqR HO537.out))) (Kd.R_lt (kqR HO546.out))) (below_size (bq1 HB.out GE531.out))) (blk_below (zb BK531.out) hb) (below_step (bq1 HB.out GE531.out) hb); clear HO_5 HO537 HO546 BK531 HB; obtain ⟨HO_5, HO537, HO546, HO550, BK531, HB⟩ := n_; (try clear hb ho0)))
     go_ret
     exact ⟨_, rq, by refine kr ?_; exact Kd.R_mono HO550.out (fun _ hk => trivial), bq1 HB.out GE531.out⟩
   replace c17 := Bool.eq_false_iff.mpr c17
   subst c17
   replace H : (some ([] : List Int)) = some r := by rw [if_neg (show ¬ (false = true) by decide)] at H; exact H
   obtain rfl := Option.some.inj H
   go_wp2_with (first | ((with_reducible refine gate_callee (f := 76) rfl ?_); refine goesL_ (some 19) rfl rfl Try.func76 (by kernel_rfl) rfl #[.slice none 0 0, .int .i64 2, .int .i64 1] rfl ga ?_; (refine (impl_addNum.calls kj3 _ _ ([] : List Int) 2 1 t535 _ ?side1 ?side2 A12.out).mono ?_); (case side1 => exact Kd.C_nil _ _); (case side2 => exact Nat.le_refl _); rintro e w26 ⟨v536, rfl, ho0, hb⟩; refine ⟨_, rfl, ?_⟩; have n_ := ak4 (Kd.R_elder' (kqR HO_5.out) (Kd.R_base ho0) hb) (Kd.R_lower (Kd.R_new' ho0 (Kd.R_lt (kqR HO_5.out))) (below_size (bq1 HB.out GE531.out))) (blk_below (zb BK531.out) hb) (below_step (bq1 HB.out GE531.out) hb); clear HO_5 BK531 HB; obtain ⟨HO_5, HO537, BK531, HB⟩ := n_; (try clear hb ho0)) | ((with_reducible refine gate_dst (N := 21) rfl ?_); (try (refine gate_guard (by rfl) ?_; dsimp only)); refine strb_event ?hg (N := 21) ?hd 9 22 5 (x := .tmp 20) ?ho (s := a0) (y := y538) Ny538.out ?hx Try.underlying9 Try.underlying22 Try.underlying5 (by have h_ : (a0.size : Int) < (140737488355328 : Int) := oda; omega) ?_; (case hd => rfl); (case hg => rfl); (case ho => rfl); (case hx => first | (go_simp; done) | (go_simp; rfl)); intro As538 cs538 w27 hs_ hl_ hb; have n_ := ak6 (Kd.R_below (kqR HO_5.out) hb) (Kd.R_below (kqR HO537.out) hb) (blk_below (zb BK531.out) hb) (below_step (bq1 HB.out GE531.out) hb) hs_ hl_; clear HO_5 HO537 BK531 HB; obtain ⟨HO_5, HO537, BK531, HB, HRs538, HCs538⟩ := n_; clear hb hs_ hl_; obtain ⟨Ao28, co28, eo28⟩ := Kd.R_slice HO537.out; subst eo28) | ((with_reducible refine gate_callee (f := 71) rfl ?_); refine goesL_ (some 22) rfl rfl Try.func71 (by kernel_rfl) rfl #[.slice Ao28 t535.length co28, .int .i64 4, .slice As538 y538.length cs538] rfl ga ?_; (with_reducible refine (impl_PutTlv.calls kj3 _ _ t535 4 _ _ y538 t541 _ ?side1 ?side2 ?side3 ?side4 A14.out).mono ?_); (case side1 => repeat (first | exact (Kd.R_reads' HO537.out).2.2 | (with_reducible refine Kd.C_alloc ?_ _) | (with_reducible refine Kd.C_drewN ?_ _) | (with_reducible refine Kd.C_drew ?_))); (case side2 => exact (Kd.R_reads' HO537.out).2.1); (case side3 => repeat (first | exact (by repeat (first | (with_reducible exact HRs538.out) | (with_reducible refine Kd.C_alloc ?_ _) | (with_reducible refine Kd.C_drewN ?_ _) | (with_reducible refine Kd.C_drew ?_) | exact HRs538.out)) | (with_reducible refine Kd.C_alloc ?_ _) | (with_reducible refine Kd.C_drewN ?_ _) | (with_reducible refine Kd.C_drew ?_))); (case side4 => exact HCs538.out); rintro e w29 ⟨v542, rfl, ho0, hb⟩; refine ⟨_, rfl, ?_⟩; have n_ := ak6 (Kd.R_elder' (kqR HO_5.out) (Kd.R_base ho0) hb) (Kd.R_elder' (kqR HO537.out) (Kd.R_base ho0) hb) (Kd.R_lower (Kd.R_new' (Kd.R_new' ho0 (Kd.R_lt (kqR HO_5.out))) (Kd.R_lt (kqR HO537.out))) (below_size (bq1 HB.out GE531.out))) (blk_below (zb BK531.out) hb) (Kd.C_below (by repeat (first | (with_reducible exact HRs538.out) | (with_reducible refine Kd.C_alloc ?_ _) | (with_reducible refine Kd.C_drewN ?_ _) | (with_reducible refine Kd.C_drew ?_) | exact HRs538.out)) hb) (below_step (bq1 HB.out GE531.out) hb); clear HO_5 HO537 BK531 HRs538 HB; obtain ⟨HO_5, HO537, HO543, BK531, HRs538, HB⟩ := n_; (try clear hb ho0); obtain ⟨Ao31, co31, eo31⟩ := Kd.R_slice HO_5.out; subst eo31) | ((with_reducible refine gate_builtin (b := .append) (xs := #[.tmp 22, .tmp 23]) rfl ?_); (try (refine gate_guard (by rfl) ?_; dsimp only)); at_builtin; refine Kd.R_append_rows (Kd.int .u8) (w0 := w) w.heap.size rfl (.tmp 22) (.tmp 23) 22 5 (.int .u8 0) 1 rfl Try.underlying22 info5 rfl (by decide) (by omega) v542 t541 t532 _ _ _ (fun k_ => some k_ ≠ (.slice Ao31 t532.length co31 : Value).ownBlock ∧ some k_ ≠ (.slice Ao28 t535.length co28 : Value).ownBlock) (fun _ => False) rfl rfl ?aO ?aR (fun _ _ h => h) (fun _ h => h.elim) ?aF ?aB ?aS ?aL ?_; (case aR => repeat (first | exact (Kd.R_reads' HO_5.out).2.2 | (with_reducible refine Kd.C_alloc ?_ _) | (with_reducible refine Kd.C_drewN ?_ _) | (with_reducible refine Kd.C_drew ?_))); (case aB => exact (bq1 HB.out GE531.out)); (case aF => exact (fun k_ hk => ⟨Kd.fresh' (Kd.R_lt (kqR HO_5.out)) k_ hk, Kd.fresh' (Kd.R_lt (kqR HO537.out)) k_ hk⟩)); (case aO => exact (by refine kr ?_; exact Kd.R_mono HO543.out (fun _ hk => ⟨hk.1.2, hk.2⟩))); (case aS => exact (below_size (bq1 HB.out GE531.out))); (case aL => have := LMc15.out; omega); intro v545 w30 ho hb hg hat; rw [← Ny544.out] at ho; have n_ := ak5 (Kd.R_after (ok := (fun k_ => some k_ ≠ (.slice Ao28 t535.length co28 : Value).ownBlock)) (by refine kr ?_; exact Kd.R_mono HO_5.out (fun _ hk => ⟨hk.1.2, hk.2⟩)) hg hat) (blk_grown (g := gb531) (o := .cells #[.int .i64 a1_0, .int .i64 a1_1, .int .i64 a1_2, .int .i64 a1_3, .slice A1_4 l1_4.length c1_4] 58 (0, 0)) (zq BK531.out) hg (Kd.R_ne HO543.out BK531.out (by decide))) (Kd.R_after (ok := (fun k_ => some k_ ≠ (.slice Ao31 t532.length co31 : Value).ownBlock)) (by refine kr ?_; exact Kd.R_mono HO537.out (fun _ hk => ⟨hk.1.2, hk.2⟩)) hg hat) hb ho; clear HO_5 BK531 HO537 HB HO543; obtain ⟨HO_5, BK531, HO537, HB, HO546⟩ := n_; clear ho hb hg hat; obtain ⟨Ao32, co32, eo32⟩ := Kd.R_slice HO546.out; subst eo32) | ((with_reducible refine gate_callee (f := 100) rfl ?_); refine goesL_ (some 25) rfl rfl Try.func100 (by kernel_rfl) rfl #[.int .i64 48, .slice Ao32 y544.length co32] rfl ga ?_; (with_reducible refine (impl_tlv.calls kj3 48 _ _ y544 t547 false _ ?side1 ?side2 A16.out).mono ?_); (case side1 => repeat (first | exact (Kd.R_reads' HO546.out).2.2 | (with_reducible refine Kd.C_alloc ?_ _) | (with_reducible refine Kd.C_drewN ?_ _) | (with_reducible refine Kd.C_drew ?_))); (case side2 => exact (Kd.R_reads' HO546.out).2.1); rintro e w33 ⟨v549, rfl, ho0, hb⟩; refine ⟨_, rfl, ?_⟩; have n_ := ak6 (Kd.R_elder' (kqR HO_5.out) (Kd.R_base ho0) hb) (Kd.R_elder' (kqR HO537.out) (Kd.R_base ho0) hb) (Kd.R_elder' (kqR HO546.out) (Kd.R_base ho0) hb) (Kd.R_lower (Kd.R_new' (Kd.R_new' (Kd.R_new' ho0 (Kd.R_lt (kqR HO_5.out))) (Kd.R_lt (kqR HO537.out))) (Kd.R_lt (kqR HO546.out))) (below_size (bq1 HB.out GE531.out))) (blk_below (zb BK531.out) hb) (below_step (bq1 HB.out GE531.out) hb); clear HO_5 HO537 HO546 BK531 HB; obtain ⟨HO_5, HO537, HO546, HO550, BK531, HB⟩ := n_; (try clear hb ho0)))
   go_ret
   exact ⟨_, rq, rn, bq1 HB.out GE531.out⟩

/-! ### laws_FnExactPutMsg: function 8 -/
def laws_FnExactPutMsg.j0 : Nat → ByteArray → List Int → List Int → Bool → Int → Int → Int → Int → List (S140) → Option (Bool)
 | 0, _, _, _, _, _, _, _, _, _ => none
 | k + 1, x0, x6, x8, x49, x552000, x552001, x552002, x552003, x552004 => if x49 = true then (some false) else ((laws_markByteS.f k x8 1).bind fun bt585 => ((laws_heldByteS.f k bt585.2 1).bind fun t587 => (if t587 < 0 then (some false) else (if t587 = bt585.1 then ((laws_toPdu.f k x552000 x552001 x552002 x552003 x552004).bind fun bt588 => ((impl_PutMsg.f k x0 bt588.1 bt588.2.1 bt588.2.2.1 bt588.2.2.2.1 bt588.2.2.2.2).bind fun t595 => ((laws_eqByteS.f k t595 x6).bind fun t598 => (if t598 = true then ((laws_heldByteS.f k bt585.2 1).bind fun t599 => (if t599 < 0 then (some false) else (if t599 = bt585.1 then (some true) else (some false)))) else (some false))))) else (some false)))))
def laws_FnExactPutMsg.f (k : Nat) (a0 : ByteArray) (a1_0 : Int) (a1_1 : Int) (a1_2 : Int) (a1_3 : Int) (l1_4 : List (S140)) : Option (Bool) := if (a0.size : Int) > 1048576 then (some true) else ((laws_szPdu.f k a1_0 a1_1 a1_2 a1_3 l1_4 1048576).bind fun t552 => (if t552 < 0 then (some true) else ((laws_toPdu.f k a1_0 a1_1 a1_2 a1_3 l1_4).bind fun bt553 => ((spec_PutMsg.f k a0 bt553.1 bt553.2.1 bt553.2.2.1 bt553.2.2.2.1 bt553.2.2.2.2).bind fun t560 => ((laws_toPdu.f k a1_0 a1_1 a1_2 a1_3 l1_4).bind fun bt563 => ((impl_PutMsg.f k a0 bt563.1 bt563.2.1 bt563.2.2.1 bt563.2.2.2.1 bt563.2.2.2.2).bind fun t571 => ((laws_eqByteS.f k t571 t560).bind fun t574 => (if t574 = true then ((laws_toPdu.f k a1_0 a1_1 a1_2 a1_3 l1_4).bind fun bt575 => ((laws_eqPdu.f k bt563.1 bt563.2.1 bt563.2.2.1 bt563.2.2.2.1 bt563.2.2.2.2 bt575.1 bt575.2.1 bt575.2.2.1 bt575.2.2.2.1 bt575.2.2.2.2).bind fun t582 => (if t582 = true then ((laws_markPdu.f bt563.1 bt563.2.1 bt563.2.2.1 bt563.2.2.2.1 bt563.2.2.2.2 1).bind fun t583 => (if t583 < 0 then (laws_FnExactPutMsg.j0 k a0 t560 t571 true a1_0 a1_1 a1_2 a1_3 l1_4) else ((laws_eqByteS.f k t571 t560).bind fun t584 => (laws_FnExactPutMsg.j0 k a0 t560 t571 (!t584) a1_0 a1_1 a1_2 a1_3 l1_4)))) else (some false)))) else (some false)))))))))
theorem laws_FnExactPutMsg.mono_l : ∀ k, (∀ y0 y1 y2 y3 y4 y5 y6 y7 y8, LeO (laws_FnExactPutMsg.j0 k y0 y1 y2 y3 y4 y5 y6 y7 y8) (laws_FnExactPutMsg.j0 (k + 1) y0 y1 y2 y3 y4 y5 y6 y7 y8))
 | 0 => fun _ _ _ _ _ _ _ _ _ r h => by simp [laws_FnExactPutMsg.j0] at h
 | k + 1 => by
  have ih0 := laws_FnExactPutMsg.mono_l k
  intro y0 y1 y2 y3 y4 y5 y6 y7 y8
  unfold laws_FnExactPutMsg.j0
  repeat' first
  | (with_reducible exact ih0 _ _ _ _ _ _ _ _ _)
  | (with_reducible exact impl_PutMsg.mono _ _ _ _ _ _ _)
  | (with_reducible exact laws_eqByteS.mono _ _ _)
  | (with_reducible exact laws_eqPdu.mono _ _ _ _ _ _ _ _ _ _ _)
  | (with_reducible exact laws_heldByteS.mono _ _ _)
  | (with_reducible exact laws_markByteS.mono _ _ _)
  | (with_reducible exact laws_szPdu.mono _ _ _ _ _ _ _)
  | (with_reducible exact laws_toPdu.mono _ _ _ _ _ _)
  | (with_reducible exact spec_PutMsg.mono _ _ _ _ _ _ _)
  | (with_reducible exact LeO.refl _)
  | (with_reducible exact LeO.none _)
  | (with_reducible refine LeO.ite ?_ ?_)
  | (with_reducible refine LeO.bind ?_ (fun _ => ?_))
  | exact ih0 _ _ _ _ _ _ _ _ _
  | exact impl_PutMsg.mono _ _ _ _ _ _ _
  | exact laws_eqByteS.mono _ _ _
  | exact laws_eqPdu.mono _ _ _ _ _ _ _ _ _ _ _
  | exact laws_heldByteS.mono _ _ _
  | exact laws_markByteS.mono _ _ _
  | exact laws_szPdu.mono _ _ _ _ _ _ _
  | exact laws_toPdu.mono _ _ _ _ _ _
  | exact spec_PutMsg.mono _ _ _ _ _ _ _
  | exact LeO.none _
  | refine LeO.ite ?_ ?_
  | refine LeO.bind ?_ (fun _ => ?_)
theorem laws_FnExactPutMsg.mono : ∀ a0 a1 a2 a3 a4 a5 k, LeO (laws_FnExactPutMsg.f k a0 a1 a2 a3 a4 a5) (laws_FnExactPutMsg.f (k + 1) a0 a1 a2 a3 a4 a5) := by
 intro a0 a1 a2 a3 a4 a5 k
 have ih0 := laws_FnExactPutMsg.mono_l k
 unfold laws_FnExactPutMsg.f
 repeat' first
  | (with_reducible exact ih0 _ _ _ _ _ _ _ _ _)
  | (with_reducible exact impl_PutMsg.mono _ _ _ _ _ _ _)
  | (with_reducible exact laws_eqByteS.mono _ _ _)
  | (with_reducible exact laws_eqPdu.mono _ _ _ _ _ _ _ _ _ _ _)
  | (with_reducible exact laws_heldByteS.mono _ _ _)
  | (with_reducible exact laws_markByteS.mono _ _ _)
  | (with_reducible exact laws_szPdu.mono _ _ _ _ _ _ _)
  | (with_reducible exact laws_toPdu.mono _ _ _ _ _ _)
  | (with_reducible exact spec_PutMsg.mono _ _ _ _ _ _ _)
  | (with_reducible exact LeO.refl _)
  | (with_reducible exact LeO.none _)
  | (with_reducible refine LeO.ite ?_ ?_)
  | (with_reducible refine LeO.bind ?_ (fun _ => ?_))
  | exact ih0 _ _ _ _ _ _ _ _ _
  | exact impl_PutMsg.mono _ _ _ _ _ _ _
  | exact laws_eqByteS.mono _ _ _
  | exact laws_eqPdu.mono _ _ _ _ _ _ _ _ _ _ _
  | exact laws_heldByteS.mono _ _ _
  | exact laws_markByteS.mono _ _ _
  | exact laws_szPdu.mono _ _ _ _ _ _ _
  | exact laws_toPdu.mono _ _ _ _ _ _
  | exact spec_PutMsg.mono _ _ _ _ _ _ _
  | exact LeO.none _
  | refine LeO.ite ?_ ?_
  | refine LeO.bind ?_ (fun _ => ?_)
set_option maxHeartbeats 8000000 in
set_option maxRecDepth 100000 in
theorem laws_FnExactPutMsg.calls (k : Nat) (a0 : ByteArray) (a1_0 : Int) (a1_1 : Int) (a1_2 : Int) (a1_3 : Int) (A1_4 : Option Addr) (c1_4 : Nat) (l1_4 : List (S140)) (r : Bool) (w : World) (hr1_4 : Kd.C k140 w A1_4 l1_4.length l1_4) (hc1_4 : l1_4.length ≤ c1_4) (hr_ : r = true) (h : laws_FnExactPutMsg.f k a0 a1_0 a1_1 a1_2 a1_3 l1_4 = some r) :
 Calls Try.prog 8 #[.string a0, .agg #[.int .i64 a1_0, .int .i64 a1_1, .int .i64 a1_2, .int .i64 a1_3, .slice A1_4 l1_4.length c1_4]] w fun e w' => e = .returned (.bool r) ∧ Below w.heap.size w w' := by
 have hu53 := Try.underlying53
 have hu58 := Try.underlying58
 have HRT := am hr_
 clear hr_
 have HR1_4 := am hr1_4
 have HC1_4 := am hc1_4
 clear hr1_4 hc1_4
 have HB := am (Below.refl w.heap.size w)
 have H : (if (a0.size : Int) > 1048576 then (some true) else ((laws_szPdu.f k a1_0 a1_1 a1_2 a1_3 l1_4 1048576).bind fun t552 => (if t552 < 0 then (some true) else ((laws_toPdu.f k a1_0 a1_1 a1_2 a1_3 l1_4).bind fun bt553 => ((spec_PutMsg.f k a0 bt553.1 bt553.2.1 bt553.2.2.1 bt553.2.2.2.1 bt553.2.2.2.2).bind fun t560 => ((laws_toPdu.f k a1_0 a1_1 a1_2 a1_3 l1_4).bind fun bt563 => ((impl_PutMsg.f k a0 bt563.1 bt563.2.1 bt563.2.2.1 bt563.2.2.2.1 bt563.2.2.2.2).bind fun t571 => ((laws_eqByteS.f k t571 t560).bind fun t574 => (if t574 = true then ((laws_toPdu.f k a1_0 a1_1 a1_2 a1_3 l1_4).bind fun bt575 => ((laws_eqPdu.f k bt563.1 bt563.2.1 bt563.2.2.1 bt563.2.2.2.1 bt563.2.2.2.2 bt575.1 bt575.2.1 bt575.2.2.1 bt575.2.2.2.1 bt575.2.2.2.2).bind fun t582 => (if t582 = true then ((laws_markPdu.f bt563.1 bt563.2.1 bt563.2.2.1 bt563.2.2.2.1 bt563.2.2.2.2 1).bind fun t583 => (if t583 < 0 then (laws_FnExactPutMsg.j0 k a0 t560 t571 true a1_0 a1_1 a1_2 a1_3 l1_4) else ((laws_eqByteS.f k t571 t560).bind fun t584 => (laws_FnExactPutMsg.j0 k a0 t560 t571 (!t584) a1_0 a1_1 a1_2 a1_3 l1_4)))) else (some false)))) else (some false)))))))))) = some r := h
 clear h
 by_cases c3 : (a0.size : Int) > 1048576
 · rw [if_pos c3] at H
   have c3b0 : decide (1048576 < (a0.size : Int)) = true := decide_eq_true c3
   have c3b1 : decide (1048576 < a0.size) = true := decide_eq_true (by omega)
   clear c3
   obtain rfl := Option.some.inj H
   go_enter Try.func8, Try.ntmps8
   go_wp2_with (first | ((with_reducible refine gate_dst (N := 3) rfl ?_); refine bxe 3 #[.int .i64 a1_0, .int .i64 a1_1, .int .i64 a1_2, .int .i64 a1_3, .slice A1_4 l1_4.length c1_4] 53 ?_; intro gb551 hg w4 hbox hb; have n_ := ak4 (below_step (bq HB.out) hb) hbox ((by rw [hg]; exact (below_size (bq HB.out)) : w.heap.size ≤ gb551)) ((by rw [hg]; exact (below_size (bq HB.out)) : w.heap.size ≤ gb551)); clear HB; obtain ⟨HB, BK551, GW551, GE551⟩ := n_; clear hb hbox hg))
   go_ret
   exact ⟨rq, bq1 HB.out GE551.out⟩
 rw [if_neg c3] at H
 have c3b0 : decide (1048576 < (a0.size : Int)) = false := decide_eq_false c3
 have c3b1 : decide (1048576 < a0.size) = false := decide_eq_false (by omega)
 clear c3
 replace H := Option.bind_eq_some_iff.mp H
 obtain ⟨t552, A50, H⟩ := H
 replace H : (if t552 < 0 then (some true) else ((laws_toPdu.f k a1_0 a1_1 a1_2 a1_3 l1_4).bind fun bt553 => ((spec_PutMsg.f k a0 bt553.1 bt553.2.1 bt553.2.2.1 bt553.2.2.2.1 bt553.2.2.2.2).bind fun t560 => ((laws_toPdu.f k a1_0 a1_1 a1_2 a1_3 l1_4).bind fun bt563 => ((impl_PutMsg.f k a0 bt563.1 bt563.2.1 bt563.2.2.1 bt563.2.2.2.1 bt563.2.2.2.2).bind fun t571 => ((laws_eqByteS.f k t571 t560).bind fun t574 => (if t574 = true then ((laws_toPdu.f k a1_0 a1_1 a1_2 a1_3 l1_4).bind fun bt575 => ((laws_eqPdu.f k bt563.1 bt563.2.1 bt563.2.2.1 bt563.2.2.2.1 bt563.2.2.2.2 bt575.1 bt575.2.1 bt575.2.2.1 bt575.2.2.2.1 bt575.2.2.2.2).bind fun t582 => (if t582 = true then ((laws_markPdu.f bt563.1 bt563.2.1 bt563.2.2.1 bt563.2.2.2.1 bt563.2.2.2.2 1).bind fun t583 => (if t583 < 0 then (laws_FnExactPutMsg.j0 k a0 t560 t571 true a1_0 a1_1 a1_2 a1_3 l1_4) else ((laws_eqByteS.f k t571 t560).bind fun t584 => (laws_FnExactPutMsg.j0 k a0 t560 t571 (!t584) a1_0 a1_1 a1_2 a1_3 l1_4)))) else (some false)))) else (some false)))))))) = some r := H
 have A5 := am A50
 clear A50
 by_cases c6 : t552 < 0
 · rw [if_pos c6] at H
   have c6b0 : decide (t552 < 0) = true := decide_eq_true c6
   clear c6
   obtain rfl := Option.some.inj H
   go_enter Try.func8, Try.ntmps8
   go_wp2_with (first | ((with_reducible refine gate_dst (N := 3) rfl ?_); refine bxe 3 #[.int .i64 a1_0, .int .i64 a1_1, .int .i64 a1_2, .int .i64 a1_3, .slice A1_4 l1_4.length c1_4] 53 ?_; intro gb551 hg w7 hbox hb; have n_ := ak4 (below_step (bq HB.out) hb) hbox ((by rw [hg]; exact (below_size (bq HB.out)) : w.heap.size ≤ gb551)) ((by rw [hg]; exact (below_size (bq HB.out)) : w.heap.size ≤ gb551)); clear HB; obtain ⟨HB, BK551, GW551, GE551⟩ := n_; clear hb hbox hg; obtain ⟨hcz8_0, hcz8_1, hcz8_2, hcz8_3, hcz8_4, hfz8_0, hfz8_1, hfz8_2, hfz8_3, hfz8_4⟩ := cl5 BK551.out) | ((with_reducible refine gate_callee (f := 38) rfl ?_); refine goesL_ (some 18) rfl rfl Try.func38 (by kernel_rfl) rfl #[.agg #[.int .i64 a1_0, .int .i64 a1_1, .int .i64 a1_2, .int .i64 a1_3, .slice A1_4 l1_4.length c1_4], .int .i64 1048576] rfl ga ?_; (with_reducible refine (laws_szPdu.calls k a1_0 a1_1 a1_2 a1_3 _ _ l1_4 1048576 t552 _ ?side1 ?side2 A5.out).mono ?_); (case side1 => exact cq (Kd.C_below HR1_4.out HB.out)); (case side2 => exact HC1_4.out); rintro e w9 ⟨rfl, hb⟩; refine ⟨_, rfl, ?_⟩; have n_ := ak2 (blk_below (zb BK551.out) hb) (below_step (bq1 HB.out GE551.out) hb); clear BK551 HB; obtain ⟨BK551, HB⟩ := n_; (try clear hb)))
   go_ret
   exact ⟨rq, bq1 HB.out GE551.out⟩
 rw [if_neg c6] at H
 have c6b0 : decide (t552 < 0) = false := decide_eq_false c6
 clear c6
 replace H := Option.bind_eq_some_iff.mp H
 obtain ⟨⟨t553, t554, t555, t556, t557⟩, A100, H⟩ := H
 replace H : ((spec_PutMsg.f k a0 t553 t554 t555 t556 t557).bind fun t560 => ((laws_toPdu.f k a1_0 a1_1 a1_2 a1_3 l1_4).bind fun bt563 => ((impl_PutMsg.f k a0 bt563.1 bt563.2.1 bt563.2.2.1 bt563.2.2.2.1 bt563.2.2.2.2).bind fun t571 => ((laws_eqByteS.f k t571 t560).bind fun t574 => (if t574 = true then ((laws_toPdu.f k a1_0 a1_1 a1_2 a1_3 l1_4).bind fun bt575 => ((laws_eqPdu.f k bt563.1 bt563.2.1 bt563.2.2.1 bt563.2.2.2.1 bt563.2.2.2.2 bt575.1 bt575.2.1 bt575.2.2.1 bt575.2.2.2.1 bt575.2.2.2.2).bind fun t582 => (if t582 = true then ((laws_markPdu.f bt563.1 bt563.2.1 bt563.2.2.1 bt563.2.2.2.1 bt563.2.2.2.2 1).bind fun t583 => (if t583 < 0 then (laws_FnExactPutMsg.j0 k a0 t560 t571 true a1_0 a1_1 a1_2 a1_3 l1_4) else ((laws_eqByteS.f k t571 t560).bind fun t584 => (laws_FnExactPutMsg.j0 k a0 t560 t571 (!t584) a1_0 a1_1 a1_2 a1_3 l1_4)))) else (some false)))) else (some false)))))) = some r := H
 have A10 := am A100
 clear A100
 replace H := Option.bind_eq_some_iff.mp H
 obtain ⟨t560, A110, H⟩ := H
 replace H : ((laws_toPdu.f k a1_0 a1_1 a1_2 a1_3 l1_4).bind fun bt563 => ((impl_PutMsg.f k a0 bt563.1 bt563.2.1 bt563.2.2.1 bt563.2.2.2.1 bt563.2.2.2.2).bind fun t571 => ((laws_eqByteS.f k t571 t560).bind fun t574 => (if t574 = true then ((laws_toPdu.f k a1_0 a1_1 a1_2 a1_3 l1_4).bind fun bt575 => ((laws_eqPdu.f k bt563.1 bt563.2.1 bt563.2.2.1 bt563.2.2.2.1 bt563.2.2.2.2 bt575.1 bt575.2.1 bt575.2.2.1 bt575.2.2.2.1 bt575.2.2.2.2).bind fun t582 => (if t582 = true then ((laws_markPdu.f bt563.1 bt563.2.1 bt563.2.2.1 bt563.2.2.2.1 bt563.2.2.2.2 1).bind fun t583 => (if t583 < 0 then (laws_FnExactPutMsg.j0 k a0 t560 t571 true a1_0 a1_1 a1_2 a1_3 l1_4) else ((laws_eqByteS.f k t571 t560).bind fun t584 => (laws_FnExactPutMsg.j0 k a0 t560 t571 (!t584) a1_0 a1_1 a1_2 a1_3 l1_4)))) else (some false)))) else (some false))))) = some r := H
 have A11 := am A110
 clear A110
 replace H := Option.bind_eq_some_iff.mp H
 obtain ⟨⟨t563, t564, t565, t566, t567⟩, A120, H⟩ := H
 replace H : ((impl_PutMsg.f k a0 t563 t564 t565 t566 t567).bind fun t571 => ((laws_eqByteS.f k t571 t560).bind fun t574 => (if t574 = true then ((laws_toPdu.f k a1_0 a1_1 a1_2 a1_3 l1_4).bind fun bt575 => ((laws_eqPdu.f k t563 t564 t565 t566 t567 bt575.1 bt575.2.1 bt575.2.2.1 bt575.2.2.2.1 bt575.2.2.2.2).bind fun t582 => (if t582 = true then ((laws_markPdu.f t563 t564 t565 t566 t567 1).bind fun t583 => (if t583 < 0 then (laws_FnExactPutMsg.j0 k a0 t560 t571 true a1_0 a1_1 a1_2 a1_3 l1_4) else ((laws_eqByteS.f k t571 t560).bind fun t584 => (laws_FnExactPutMsg.j0 k a0 t560 t571 (!t584) a1_0 a1_1 a1_2 a1_3 l1_4)))) else (some false)))) else (some false)))) = some r := H
 have A12 := am A120
 clear A120
 replace H := Option.bind_eq_some_iff.mp H
 obtain ⟨t571, A130, H⟩ := H
 replace H : ((laws_eqByteS.f k t571 t560).bind fun t574 => (if t574 = true then ((laws_toPdu.f k a1_0 a1_1 a1_2 a1_3 l1_4).bind fun bt575 => ((laws_eqPdu.f k t563 t564 t565 t566 t567 bt575.1 bt575.2.1 bt575.2.2.1 bt575.2.2.2.1 bt575.2.2.2.2).bind fun t582 => (if t582 = true then ((laws_markPdu.f t563 t564 t565 t566 t567 1).bind fun t583 => (if t583 < 0 then (laws_FnExactPutMsg.j0 k a0 t560 t571 true a1_0 a1_1 a1_2 a1_3 l1_4) else ((laws_eqByteS.f k t571 t560).bind fun t584 => (laws_FnExactPutMsg.j0 k a0 t560 t571 (!t584) a1_0 a1_1 a1_2 a1_3 l1_4)))) else (some false)))) else (some false))) = some r := H
 have A13 := am A130
 clear A130
 replace H := Option.bind_eq_some_iff.mp H
 obtain ⟨t574, A140, H⟩ := H
 replace H : (if t574 = true then ((laws_toPdu.f k a1_0 a1_1 a1_2 a1_3 l1_4).bind fun bt575 => ((laws_eqPdu.f k t563 t564 t565 t566 t567 bt575.1 bt575.2.1 bt575.2.2.1 bt575.2.2.2.1 bt575.2.2.2.2).bind fun t582 => (if t582 = true then ((laws_markPdu.f t563 t564 t565 t566 t567 1).bind fun t583 => (if t583 < 0 then (laws_FnExactPutMsg.j0 k a0 t560 t571 true a1_0 a1_1 a1_2 a1_3 l1_4) else ((laws_eqByteS.f k t571 t560).bind fun t584 => (laws_FnExactPutMsg.j0 k a0 t560 t571 (!t584) a1_0 a1_1 a1_2 a1_3 l1_4)))) else (some false)))) else (some false)) = some r := H
 have A14 := am A140
 clear A140
 by_cases c15 : t574 = true
 rotate_left
 · replace c15 := Bool.eq_false_iff.mpr c15
   subst c15
   replace H : (some false) = some r := by rw [if_neg (show ¬ (false = true) by decide)] at H; exact H
   exact absurd ((Option.some.inj H).trans HRT.out) (by decide)
 subst c15
 replace H : ((laws_toPdu.f k a1_0 a1_1 a1_2 a1_3 l1_4).bind fun bt575 => ((laws_eqPdu.f k t563 t564 t565 t566 t567 bt575.1 bt575.2.1 bt575.2.2.1 bt575.2.2.2.1 bt575.2.2.2.2).bind fun t582 => (if t582 = true then ((laws_markPdu.f t563 t564 t565 t566 t567 1).bind fun t583 => (if t583 < 0 then (laws_FnExactPutMsg.j0 k a0 t560 t571 true a1_0 a1_1 a1_2 a1_3 l1_4) else ((laws_eqByteS.f k t571 t560).bind fun t584 => (laws_FnExactPutMsg.j0 k a0 t560 t571 (!t584) a1_0 a1_1 a1_2 a1_3 l1_4)))) else (some false)))) = some r := by rw [if_pos rfl] at H; exact H
 replace H := Option.bind_eq_some_iff.mp H
 obtain ⟨⟨t575, t576, t577, t578, t579⟩, A160, H⟩ := H
 replace H : ((laws_eqPdu.f k t563 t564 t565 t566 t567 t575 t576 t577 t578 t579).bind fun t582 => (if t582 = true then ((laws_markPdu.f t563 t564 t565 t566 t567 1).bind fun t583 => (if t583 < 0 then (laws_FnExactPutMsg.j0 k a0 t560 t571 true a1_0 a1_1 a1_2 a1_3 l1_4) else ((laws_eqByteS.f k t571 t560).bind fun t584 => (laws_FnExactPutMsg.j0 k a0 t560 t571 (!t584) a1_0 a1_1 a1_2 a1_3 l1_4)))) else (some false))) = some r := H
 have A16 := am A160
 clear A160
 replace H := Option.bind_eq_some_iff.mp H
 obtain ⟨t582, A170, H⟩ := H
 replace H : (if t582 = true then ((laws_markPdu.f t563 t564 t565 t566 t567 1).bind fun t583 => (if t583 < 0 then (laws_FnExactPutMsg.j0 k a0 t560 t571 true a1_0 a1_1 a1_2 a1_3 l1_4) else ((laws_eqByteS.f k t571 t560).bind fun t584 => (laws_FnExactPutMsg.j0 k a0 t560 t571 (!t584) a1_0 a1_1 a1_2 a1_3 l1_4)))) else (some false)) = some r := H
 have A17 := am A170
 clear A170
 by_cases c18 : t582 = true
 rotate_left
 · replace c18 := Bool.eq_false_iff.mpr c18
   subst c18
   replace H : (some false) = some r := by rw [if_neg (show ¬ (false = true) by decide)] at H; exact H
   exact absurd ((Option.some.inj H).trans HRT.out) (by decide)
 subst c18
 replace H : ((laws_markPdu.f t563 t564 t565 t566 t567 1).bind fun t583 => (if t583 < 0 then (laws_FnExactPutMsg.j0 k a0 t560 t571 true a1_0 a1_1 a1_2 a1_3 l1_4) else ((laws_eqByteS.f k t571 t560).bind fun t584 => (laws_FnExactPutMsg.j0 k a0 t560 t571 (!t584) a1_0 a1_1 a1_2 a1_3 l1_4)))) = some r := by rw [if_pos rfl] at H; exact H
 replace H := Option.bind_eq_some_iff.mp H
 obtain ⟨t583, A190, H⟩ := H
 replace H : (if t583 < 0 then (laws_FnExactPutMsg.j0 k a0 t560 t571 true a1_0 a1_1 a1_2 a1_3 l1_4) else ((laws_eqByteS.f k t571 t560).bind fun t584 => (laws_FnExactPutMsg.j0 k a0 t560 t571 (!t584) a1_0 a1_1 a1_2 a1_3 l1_4))) = some r := H
 have A19 := am A190
 clear A190
 have HC20 := am H
 clear H
 go_enter Try.func8, Try.ntmps8
 try go_wp2_with (first | ((with_reducible refine gate_dst (N := 3) rfl ?_); refine bxe 3 #[.int .i64 a1_0, .int .i64 a1_1, .int .i64 a1_2, .int .i64 a1_3, .slice A1_4 l1_4.length c1_4] 53 ?_; intro gb551 hg w21 hbox hb; have n_ := ak4 (below_step (bq HB.out) hb) hbox ((by rw [hg]; exact (below_size (bq HB.out)) : w.heap.size ≤ gb551)) ((by rw [hg]; exact (below_size (bq HB.out)) : w.heap.size ≤ gb551)); clear HB; obtain ⟨HB, BK551, GW551, GE551⟩ := n_; clear hb hbox hg; obtain ⟨hcz22_0, hcz22_1, hcz22_2, hcz22_3, hcz22_4, hfz22_0, hfz22_1, hfz22_2, hfz22_3, hfz22_4⟩ := cl5 BK551.out) | ((with_reducible refine gate_callee (f := 38) rfl ?_); refine goesL_ (some 18) rfl rfl Try.func38 (by kernel_rfl) rfl #[.agg #[.int .i64 a1_0, .int .i64 a1_1, .int .i64 a1_2, .int .i64 a1_3, .slice A1_4 l1_4.length c1_4], .int .i64 1048576] rfl ga ?_; (with_reducible refine (laws_szPdu.calls k a1_0 a1_1 a1_2 a1_3 _ _ l1_4 1048576 t552 _ ?side1 ?side2 A5.out).mono ?_); (case side1 => exact cq (Kd.C_below HR1_4.out HB.out)); (case side2 => exact HC1_4.out); rintro e w23 ⟨rfl, hb⟩; refine ⟨_, rfl, ?_⟩; have n_ := ak2 (blk_below (zb BK551.out) hb) (below_step (bq1 HB.out GE551.out) hb); clear BK551 HB; obtain ⟨BK551, HB⟩ := n_; (try clear hb); obtain ⟨hcz24_0, hcz24_1, hcz24_2, hcz24_3, hcz24_4, hfz24_0, hfz24_1, hfz24_2, hfz24_3, hfz24_4⟩ := cl5 BK551.out) | ((with_reducible refine gate_callee (f := 40) rfl ?_); refine goesL_ (some 23) rfl rfl Try.func40 (by kernel_rfl) rfl #[.agg #[.int .i64 a1_0, .int .i64 a1_1, .int .i64 a1_2, .int .i64 a1_3, .slice A1_4 l1_4.length c1_4]] rfl ga ?_; (with_reducible refine (laws_toPdu.calls k a1_0 a1_1 a1_2 a1_3 _ _ l1_4 t553 t554 t555 t556 t557 _ ?side1 ?side2 A10.out).mono ?_); (case side1 => exact cq (Kd.C_below HR1_4.out HB.out)); (case side2 => exact HC1_4.out); rintro e w25 ⟨v558, rfl, ho0, hb⟩; refine ⟨_, rfl, ?_⟩; have n_ := ak3 (Kd.S_lower ho0 (below_size (bq1 HB.out GE551.out))) (blk_below (zb BK551.out) hb) (below_step (bq1 HB.out GE551.out) hb); clear BK551 HB; obtain ⟨HO559, BK551, HB⟩ := n_; (try clear hb ho0); obtain ⟨Ao26, co26, eo26⟩ := Kd.S_slice HO559.out; subst eo26) | ((with_reducible refine gate_callee (f := 51) rfl ?_); refine goesL_ (some 24) rfl rfl Try.func51 (by kernel_rfl) rfl #[.string a0, .agg #[.int .i64 t553, .int .i64 t554, .int .i64 t555, .int .i64 t556, .slice Ao26 t557.length co26]] rfl ga ?_; (with_reducible refine (spec_PutMsg.calls k a0 t553 t554 t555 t556 _ _ t557 t560 _ ?side1 ?side2 A11.out).mono ?_); (case side1 => repeat (first | exact (Kd.S_reads' HO559.out).2.2 | (with_reducible refine Kd.C_alloc ?_ _) | (with_reducible refine Kd.C_drewN ?_ _) | (with_reducible refine Kd.C_drew ?_))); (case side2 => exact (Kd.S_reads' HO559.out).2.1); rintro e w27 ⟨v561, rfl, ho0, hb⟩; refine ⟨_, rfl, ?_⟩; have n_ := ak4 (Kd.S_below (kqS HO559.out) hb) (Kd.R_lower ho0 (below_size (bq1 HB.out GE551.out))) (blk_below (zb BK551.out) hb) (below_step (bq1 HB.out GE551.out) hb); clear HO559 BK551 HB; obtain ⟨HO559, HO562, BK551, HB⟩ := n_; (try clear hb ho0); obtain ⟨hcz28_0, hcz28_1, hcz28_2, hcz28_3, hcz28_4, hfz28_0, hfz28_1, hfz28_2, hfz28_3, hfz28_4⟩ := cl5 BK551.out) | ((with_reducible refine gate_callee (f := 40) rfl ?_); refine goesL_ (some 26) rfl rfl Try.func40 (by kernel_rfl) rfl #[.agg #[.int .i64 a1_0, .int .i64 a1_1, .int .i64 a1_2, .int .i64 a1_3, .slice A1_4 l1_4.length c1_4]] rfl ga ?_; (with_reducible refine (laws_toPdu.calls k a1_0 a1_1 a1_2 a1_3 _ _ l1_4 t563 t564 t565 t566 t567 _ ?side1 ?side2 A12.out).mono ?_); (case side1 => exact cq (Kd.C_below HR1_4.out HB.out)); (case side2 => exact HC1_4.out); rintro e w29 ⟨v568, rfl, ho0, hb⟩; refine ⟨_, rfl, ?_⟩; have n_ := ak5 (Kd.S_elder' (kqS HO559.out) (Kd.S_base ho0) hb) (Kd.R_below (kqR HO562.out) hb) (Kd.S_lower (Kd.S_new' ho0 (Kd.S_lt (kqS HO559.out))) (below_size (bq1 HB.out GE551.out))) (blk_below (zb BK551.out) hb) (below_step (bq1 HB.out GE551.out) hb); clear HO559 HO562 BK551 HB; obtain ⟨HO559, HO562, HO569, BK551, HB⟩ := n_; (try clear hb ho0)) | ((with_reducible refine gate_dst (N := 7) rfl ?_); refine bxe 7 #[.int .i64 0, .int .i64 0, .int .i64 0, .int .i64 0, .slice none 0 0] 58 ?_; intro gb570 hg w30 hbox hb; have n_ := ak10 (Kd.S_below (kqS HO559.out) hb) (Kd.R_below (kqR HO562.out) hb) (Kd.S_below (kqS HO569.out) hb) (blk_below (zb BK551.out) hb) (below_step (bq1 HB.out GE551.out) hb) hbox ((by rw [hg]; exact (below_size (bq1 HB.out GE551.out)) : w.heap.size ≤ gb570)) ((by rw [hg]; exact (below_size (bq1 HB.out GE551.out)) : w.heap.size ≤ gb570)) ((nlt hg (zb BK551.out) : gb551 ≠ gb570)) ((ngt hg (zb BK551.out) : gb570 ≠ gb551)); clear HO559 HO562 HO569 BK551 HB; obtain ⟨HO559, HO562, HO569, BK551, HB, BK570, GW570, GE570, NB551_570, NB570_551⟩ := n_; clear hb hbox hg; have hnb31 := NB570_551.out; have hnc31 := NB551_570.out; obtain ⟨hcz32_0, hcz32_1, hcz32_2, hcz32_3, hcz32_4, hfz32_0, hfz32_1, hfz32_2, hfz32_3, hfz32_4⟩ := cl5 BK570.out; obtain ⟨Ao33, co33, eo33⟩ := Kd.S_slice HO569.out; subst eo33) | ((with_reducible refine gate_store (t := 58) (p := 7) rfl ?_); refine store_event (t := 58) (p := 7) (v := ?vo_w34) (w1 := (((((w30.setCell ⟨gb570, 0, none⟩ (.int .i64 t563)).setCell ⟨gb570, 1, none⟩ (.int .i64 t564)).setCell ⟨gb570, 2, none⟩ (.int .i64 t565)).setCell ⟨gb570, 3, none⟩ (.int .i64 t566)).setCell ⟨gb570, 4, none⟩ (.slice Ao33 t567.length co33))) ?hg ?ho ?hn ?hr ?_; (case ho => rfl); (case hg => rfl); (case hn => rfl); (case hr => exact gs); intro w34 hw; have n_ : Aside0 (Kd.S k116 116 w34 w.heap.size (fun k_ => some k_ ≠ (.slice Ao33 t567.length co33 : Value).ownBlock) (.slice Ao26 t557.length co26) t557) ∧ Aside0 (Kd.R (Kd.int .u8) 5 w34 w.heap.size (fun _ => True) v561 t560) ∧ Aside0 (Kd.S k116 116 w34 w.heap.size (fun k_ => some k_ ≠ (.slice Ao26 t557.length co26 : Value).ownBlock) (.slice Ao33 t567.length co33) t567) ∧ Aside0 (w34.heap[gb551]? = some (.cells #[.int .i64 a1_0, .int .i64 a1_1, .int .i64 a1_2, .int .i64 a1_3, .slice A1_4 l1_4.length c1_4] 53 (0, 0))) ∧ Aside0 (w34.heap[gb570]? = some (.cells #[.int .i64 t563, .int .i64 t564, .int .i64 t565, .int .i64 t566, .slice Ao33 t567.length co33] 58 (0, 0))) ∧ Aside0 (Below w.heap.size w w34) := ⟨⟨(by rw [hw]; exact (by (with_reducible repeat (first | apply Kd.S_alloc | apply Kd.S_drewN | apply Kd.S_drew)); exact Kd.S_mono (Kd.S_far (p := ⟨gb570, 4, none⟩) (Kd.S_far (p := ⟨gb570, 3, none⟩) (Kd.S_far (p := ⟨gb570, 2, none⟩) (Kd.S_far (p := ⟨gb570, 1, none⟩) (Kd.S_far (p := ⟨gb570, 0, none⟩) (Kd.S_types HO559.out BK570.out (by decide)) (fun _ hk => hk.2) (.int .i64 t563)) (fun _ hk => hk.2) (.int .i64 t564)) (fun _ hk => hk.2) (.int .i64 t565)) (fun _ hk => hk.2) (.int .i64 t566)) (fun _ hk => hk.2) (.slice Ao33 t567.length co33)) (fun _ hk => hk.1.2)))⟩, ⟨(by rw [hw]; exact (by refine kr ?_; exact Kd.R_mono (rf5 gb570 (.int .i64 t563) (.int .i64 t564) (.int .i64 t565) (.int .i64 t566) (.slice Ao33 t567.length co33) (Kd.R_types HO562.out BK570.out (by decide)) (fun _ hk => hk.2)) (fun _ hk => trivial)))⟩, ⟨(by rw [hw]; exact (by (with_reducible repeat (first | apply Kd.S_alloc | apply Kd.S_drewN | apply Kd.S_drew)); exact Kd.S_mono (Kd.S_far (p := ⟨gb570, 4, none⟩) (Kd.S_far (p := ⟨gb570, 3, none⟩) (Kd.S_far (p := ⟨gb570, 2, none⟩) (Kd.S_far (p := ⟨gb570, 1, none⟩) (Kd.S_far (p := ⟨gb570, 0, none⟩) (Kd.S_types HO569.out BK570.out (by decide)) (fun _ hk => hk.2) (.int .i64 t563)) (fun _ hk => hk.2) (.int .i64 t564)) (fun _ hk => hk.2) (.int .i64 t565)) (fun _ hk => hk.2) (.int .i64 t566)) (fun _ hk => hk.2) (.slice Ao33 t567.length co33)) (fun _ hk => hk.1.2)))⟩, ⟨(by rw [hw]; exact (by refine zr ?_; refine blk_far ?_ NB551_570.out _; refine zr ?_; refine blk_far ?_ NB551_570.out _; refine zr ?_; refine blk_far ?_ NB551_570.out _; refine zr ?_; refine blk_far ?_ NB551_570.out _; refine zr ?_; refine blk_far ?_ NB551_570.out _; refine zr ?_; exact BK551.out))⟩, ⟨(by rw [hw]; exact (by refine zr ?_; exact bp5 (zb BK570.out)))⟩, ⟨(by rw [hw]; exact (bq2 HB.out GE551.out GE570.out))⟩⟩; clear hw HO559 HO562 HO569 BK551 BK570 HB; obtain ⟨HO559, HO562, HO569, BK551, BK570, HB⟩ := n_; obtain ⟨hcz35_0, hcz35_1, hcz35_2, hcz35_3, hcz35_4, hfz35_0, hfz35_1, hfz35_2, hfz35_3, hfz35_4⟩ := cl5 BK570.out) | ((with_reducible refine gate_callee (f := 52) rfl ?_); refine goesL_ (some 29) rfl rfl Try.func52 (by kernel_rfl) rfl #[.string a0, .agg #[.int .i64 t563, .int .i64 t564, .int .i64 t565, .int .i64 t566, .slice Ao33 t567.length co33]] rfl ga ?_; (with_reducible refine (impl_PutMsg.calls k a0 t563 t564 t565 t566 _ _ t567 t571 _ ?side1 ?side2 A13.out).mono ?_); (case side1 => repeat (first | exact (Kd.S_reads' HO569.out).2.2 | (with_reducible refine Kd.C_alloc ?_ _) | (with_reducible refine Kd.C_drewN ?_ _) | (with_reducible refine Kd.C_drew ?_))); (case side2 => exact (Kd.S_reads' HO569.out).2.1); rintro e w36 ⟨v572, rfl, ho0, hb⟩; refine ⟨_, rfl, ?_⟩; have n_ := ak7 (Kd.S_below (kqS HO559.out) hb) (Kd.R_elder' (kqR HO562.out) (Kd.R_base ho0) hb) (Kd.S_below (kqS HO569.out) hb) (Kd.R_lower (Kd.R_new' ho0 (Kd.R_lt (kqR HO562.out))) (below_size (bq2 HB.out GE551.out GE570.out))) (blk_below (zb BK551.out) hb) (blk_below (zb BK570.out) hb) (below_step (bq2 HB.out GE551.out GE570.out) hb); clear HO559 HO562 HO569 BK551 BK570 HB; obtain ⟨HO559, HO562, HO569, HO573, BK551, BK570, HB⟩ := n_; (try clear hb ho0); obtain ⟨Ao37, co37, eo37⟩ := Kd.R_slice HO573.out; subst eo37; obtain ⟨Ao38, co38, eo38⟩ := Kd.R_slice HO562.out; subst eo38) | ((with_reducible refine gate_callee (f := 18) rfl ?_); refine goesL_ (some 32) rfl rfl Try.func18 (by kernel_rfl) rfl #[.slice Ao37 t571.length co37, .slice Ao38 t560.length co38] rfl ga ?_; (with_reducible refine (laws_eqByteS.calls k _ _ t571 _ _ t560 true _ ?side1 ?side2 ?side3 ?side4 A14.out).mono ?_); (case side1 => repeat (first | exact (Kd.R_reads' HO573.out).2.2 | (with_reducible refine Kd.C_alloc ?_ _) | (with_reducible refine Kd.C_drewN ?_ _) | (with_reducible refine Kd.C_drew ?_))); (case side2 => exact (Kd.R_reads' HO573.out).2.1); (case side3 => repeat (first | exact (Kd.R_reads' HO562.out).2.2 | (with_reducible refine Kd.C_alloc ?_ _) | (with_reducible refine Kd.C_drewN ?_ _) | (with_reducible refine Kd.C_drew ?_))); (case side4 => exact (Kd.R_reads' HO562.out).2.1); rintro e w' ⟨rfl, ⟨nd, rfl⟩⟩; refine ⟨_, rfl, ?_⟩))
 have n_ := am (Kd.R_mono (ok' := (fun k_ => some k_ ≠ (.slice Ao37 t571.length co37 : Value).ownBlock)) HO562.out (fun k_ hk => hk.2))
 clear HO562
 have HO562 := n_
 clear n_
 have n_ := am (Kd.R_mono (ok' := (fun k_ => some k_ ≠ (.slice Ao38 t560.length co38 : Value).ownBlock)) HO573.out (fun k_ hk => hk.2))
 clear HO573
 have HO573 := n_
 clear n_
 (try (rw [drewN_self w36]; generalize hq_ : World.drewN w36 _ = w36; have n_ : Aside0 (Kd.S k116 116 w36 w.heap.size (fun k_ => some k_ ≠ (.slice Ao33 t567.length co33 : Value).ownBlock) (.slice Ao26 t557.length co26) t557) ∧ Aside0 (Kd.R (Kd.int .u8) 5 w36 w.heap.size (fun k_ => some k_ ≠ (.slice Ao37 t571.length co37 : Value).ownBlock) (.slice Ao38 t560.length co38) t560) ∧ Aside0 (Kd.S k116 116 w36 w.heap.size (fun k_ => some k_ ≠ (.slice Ao26 t557.length co26 : Value).ownBlock) (.slice Ao33 t567.length co33) t567) ∧ Aside0 (Kd.R (Kd.int .u8) 5 w36 w.heap.size (fun k_ => some k_ ≠ (.slice Ao38 t560.length co38 : Value).ownBlock) (.slice Ao37 t571.length co37) t571) ∧ Aside0 (w36.heap[gb551]? = some (.cells #[.int .i64 a1_0, .int .i64 a1_1, .int .i64 a1_2, .int .i64 a1_3, .slice A1_4 l1_4.length c1_4] 53 (0, 0))) ∧ Aside0 (w36.heap[gb570]? = some (.cells #[.int .i64 t563, .int .i64 t564, .int .i64 t565, .int .i64 t566, .slice Ao33 t567.length co33] 58 (0, 0))) ∧ Aside0 (Below w.heap.size w w36) := ⟨⟨by rw [← hq_]; exact (kqS HO559.out)⟩, ⟨by rw [← hq_]; exact (kqR HO562.out)⟩, ⟨by rw [← hq_]; exact (kqS HO569.out)⟩, ⟨by rw [← hq_]; exact (kqR HO573.out)⟩, ⟨by rw [← hq_]; exact (zq BK551.out)⟩, ⟨by rw [← hq_]; exact (zq BK570.out)⟩, ⟨by rw [← hq_]; exact (bq2 HB.out GE551.out GE570.out)⟩⟩; clear HO559 HO562 HO569 HO573 BK551 BK570 HB hq_; obtain ⟨HO559, HO562, HO569, HO573, BK551, BK570, HB⟩ := n_))
 have n_ := ak7 (Kd.S_drew HO559.out) (Kd.R_drew HO562.out) (Kd.S_drew HO569.out) (Kd.R_drew HO573.out) (blk_drew BK551.out) (blk_drew BK570.out) (below_drew1 HB.out)
 clear HO559 HO562 HO569 HO573 BK551 BK570 HB
 obtain ⟨HO559, HO562, HO569, HO573, BK551, BK570, HB⟩ := n_
 refine start_ (n := 5) (S := fun w' => w'.cell? ⟨gb570, 0, none⟩ = some (.int .i64 t563) ∧ w'.cell? ⟨gb570, 1, none⟩ = some (.int .i64 t564) ∧ w'.cell? ⟨gb570, 2, none⟩ = some (.int .i64 t565) ∧ w'.cell? ⟨gb570, 3, none⟩ = some (.int .i64 t566) ∧ w'.cell? ⟨gb570, 4, none⟩ = some (.slice Ao33 t567.length co33) ∧ w'.cell? ⟨gb551, 0, none⟩ = some (.int .i64 a1_0) ∧ w'.cell? ⟨gb551, 1, none⟩ = some (.int .i64 a1_1) ∧ w'.cell? ⟨gb551, 2, none⟩ = some (.int .i64 a1_2) ∧ w'.cell? ⟨gb551, 3, none⟩ = some (.int .i64 a1_3) ∧ w'.cell? ⟨gb551, 4, none⟩ = some (.slice A1_4 l1_4.length c1_4)) (ds := []) #[false, false, false, false, false] (by kernel_rfl) rfl rfl ⟨(blk_cell BK570.out 0).trans rfl, (blk_cell BK570.out 1).trans rfl, (blk_cell BK570.out 2).trans rfl, (blk_cell BK570.out 3).trans rfl, (blk_cell BK570.out 4).trans rfl, (blk_cell BK551.out 0).trans rfl, (blk_cell BK551.out 1).trans rfl, (blk_cell BK551.out 2).trans rfl, (blk_cell BK551.out 3).trans rfl, (blk_cell BK551.out 4).trans rfl⟩ (fun hHeld => ?_)
 generalize w36.drew = w39 at HO559 HO562 HO569 HO573 BK551 BK570 HB hHeld ⊢
 refine tk 0 (some 34) #[true, false, false, false, false] rfl rfl (by kernel_rfl) hHeld (Or.inl ⟨by rfl, by rintro w' ⟨s0, s1, s2, s3, s4, s5, s6, s7, s8, s9⟩; go_simp; with_reducible rfl⟩) ?_
 refine tk 1 (some 35) #[true, true, false, false, false] rfl rfl (by kernel_rfl) hHeld (Or.inl ⟨by rfl, by rintro w' ⟨s0, s1, s2, s3, s4, s5, s6, s7, s8, s9⟩; go_simp; with_reducible rfl⟩) ?_
 refine one_ (i := 2) (N := some 36) #[true, true, true, false, false] rfl rfl (by kernel_rfl) (by decide) (fun K hK => ?_)
 refine goes_ Try.func40 (by kernel_rfl) rfl #[.agg #[.int .i64 a1_0, .int .i64 a1_1, .int .i64 a1_2, .int .i64 a1_3, .slice A1_4 l1_4.length c1_4]] (by rfl) rfl rfl ga ?_
 with_reducible refine (laws_toPdu.calls k a1_0 a1_1 a1_2 a1_3 _ _ l1_4 t575 t576 t577 t578 t579 _ ?side1 ?side2 A16.out).mono ?_
 (case side1 => exact cq (Kd.C_below HR1_4.out HB.out))
 (case side2 => exact HC1_4.out)
 rintro e w40 ⟨v580, rfl, ho0, hb⟩
 refine ⟨_, rfl, ?_⟩
 have n_ := ak8 (Kd.S_elder' (kqS HO559.out) (Kd.S_base ho0) hb) (Kd.R_below (kqR HO562.out) hb) (Kd.S_elder' (kqS HO569.out) (Kd.S_base ho0) hb) (Kd.R_below (kqR HO573.out) hb) (Kd.S_lower (Kd.S_new' (Kd.S_new' ho0 (Kd.S_lt (kqS HO559.out))) (Kd.S_lt (kqS HO569.out))) (below_size (bq2 HB.out GE551.out GE570.out))) (blk_below (zb BK551.out) hb) (blk_below (zb BK570.out) hb) (below_step (bq2 HB.out GE551.out GE570.out) hb)
 clear HO559 HO562 HO569 HO573 BK551 BK570 HB
 obtain ⟨HO559, HO562, HO569, HO573, HO581, BK551, BK570, HB⟩ := n_
 (try clear hb ho0)
 obtain ⟨Ao41, co41, eo41⟩ := Kd.S_slice HO581.out
 (first | subst eo41 | (injection eo41 with f1_ f2_ f3_; have f4_ := f1_.symm; have f5_ := f3_.symm; clear f1_ f2_ f3_; subst f4_; subst f5_))
 refine hK.out _ _ ⟨(blk_cell BK570.out 0).trans rfl, (blk_cell BK570.out 1).trans rfl, (blk_cell BK570.out 2).trans rfl, (blk_cell BK570.out 3).trans rfl, (blk_cell BK570.out 4).trans rfl, (blk_cell BK551.out 0).trans rfl, (blk_cell BK551.out 1).trans rfl, (blk_cell BK551.out 2).trans rfl, (blk_cell BK551.out 3).trans rfl, (blk_cell BK551.out 4).trans rfl⟩ (fun hHeld => ?_)
 clear hK K
 refine norm_ (a' := ?_) ?_ ?_
 rotate_left
 · show Act.put _ (some 36) _ = _
   simp only [Act.put, List.setIfInBounds_toArray, List.set_cons_zero, List.set_cons_succ, i64_w, i32_w]
   rfl
 refine one_ (i := 3) (N := some 37) #[true, true, true, true, false] rfl rfl (by kernel_rfl) (by decide) (fun K hK => ?_)
 refine goes_ Try.func42 (by kernel_rfl) rfl #[.agg #[.int .i64 t563, .int .i64 t564, .int .i64 t565, .int .i64 t566, .slice Ao33 t567.length co33], .agg #[.int .i64 t575, .int .i64 t576, .int .i64 t577, .int .i64 t578, .slice Ao41 t579.length co41]] (by rfl) rfl rfl ga ?_
 with_reducible refine (laws_eqPdu.calls k t563 t564 t565 t566 _ _ t567 t575 t576 t577 t578 _ _ t579 true _ ?side1 ?side2 ?side3 ?side4 A17.out).mono ?_
 (case side1 => repeat (first | exact (Kd.S_reads' HO569.out).2.2 | (with_reducible refine Kd.C_alloc ?_ _) | (with_reducible refine Kd.C_drewN ?_ _) | (with_reducible refine Kd.C_drew ?_)))
 (case side2 => exact (Kd.S_reads' HO569.out).2.1)
 (case side3 => repeat (first | exact (Kd.S_reads' HO581.out).2.2 | (with_reducible refine Kd.C_alloc ?_ _) | (with_reducible refine Kd.C_drewN ?_ _) | (with_reducible refine Kd.C_drew ?_)))
 (case side4 => exact (Kd.S_reads' HO581.out).2.1)
 rintro e w42 ⟨rfl, hb⟩
 refine ⟨_, rfl, ?_⟩
 have n_ := ak8 (Kd.S_below (kqS HO559.out) hb) (Kd.R_below (kqR HO562.out) hb) (Kd.S_below (kqS HO569.out) hb) (Kd.R_below (kqR HO573.out) hb) (Kd.S_below (kqS HO581.out) hb) (blk_below (zb BK551.out) hb) (blk_below (zb BK570.out) hb) (below_step (bq2 HB.out GE551.out GE570.out) hb)
 clear HO559 HO562 HO569 HO573 HO581 BK551 BK570 HB
 obtain ⟨HO559, HO562, HO569, HO573, HO581, BK551, BK570, HB⟩ := n_
 (try clear hb)
 refine hK.out _ _ ⟨(blk_cell BK570.out 0).trans rfl, (blk_cell BK570.out 1).trans rfl, (blk_cell BK570.out 2).trans rfl, (blk_cell BK570.out 3).trans rfl, (blk_cell BK570.out 4).trans rfl, (blk_cell BK551.out 0).trans rfl, (blk_cell BK551.out 1).trans rfl, (blk_cell BK551.out 2).trans rfl, (blk_cell BK551.out 3).trans rfl, (blk_cell BK551.out 4).trans rfl⟩ (fun hHeld => ?_)
 clear hK K
 refine norm_ (a' := ?_) ?_ ?_
 rotate_left
 · show Act.put _ (some 37) _ = _
   simp only [Act.put, List.setIfInBounds_toArray, List.set_cons_zero, List.set_cons_succ, i64_w, i32_w]
   rfl
 refine pu 4 (some 38) #[true, true, true, true, true] rfl rfl (by kernel_rfl) (Or.inl ⟨by rfl, by intro w'; go_simp; with_reducible rfl⟩) ?_
 refine done_ (by kernel_rfl) ?_
 obtain ⟨hcz43_0, hcz43_1, hcz43_2, hcz43_3, hcz43_4, hfz43_0, hfz43_1, hfz43_2, hfz43_3, hfz43_4⟩ := cl5 BK570.out
 go_upto_region 16 with (first | ((with_reducible refine gate_callee (f := 43) rfl ?_); refine goesL_ (some 41) rfl rfl Try.func43 (by kernel_rfl) rfl #[.agg #[.int .i64 t563, .int .i64 t564, .int .i64 t565, .int .i64 t566, .slice Ao33 t567.length co33], .int .i64 1] rfl ga ?_; refine (laws_markPdu.calls _ _ _ _ _ _ _ _ (base := w.heap.size) _ ?s1 (Kd.S_R (kqS HO569.out)) A19.out).mono ?_; (case s1 => exact below_size (bq2 HB.out GE551.out GE570.out)); rintro e w44 ⟨rfl, hk⟩; refine ⟨_, rfl, ?_⟩; have n_ := ak5 (Mk.row (kqR HO562.out) hk) (Mk.row (kqR HO573.out) hk) (Mk.blk (zb BK551.out) hk) (Mk.blk (zb BK570.out) hk) (Mk.base (bq2 HB.out GE551.out GE570.out) hk); clear HO559 HO562 HO569 HO573 HO581 BK551 BK570 HB; obtain ⟨HO562, HO573, BK551, BK570, HB⟩ := n_; (try clear hk)))
 (try simp only [Act.put, List.setIfInBounds_toArray, List.set_cons_zero, List.set_cons_succ])
 go_cut [49] (fun v49 wc => ∃ (kq : Nat) (x49_19 : Bool), v49 = .bool x49_19 ∧ Aside0 (laws_FnExactPutMsg.j0 kq a0 t560 t571 x49_19 a1_0 a1_1 a1_2 a1_3 l1_4 = some r) ∧ Aside0 (kq ≤ k) ∧ Aside0 (Kd.R (Kd.int .u8) 5 wc w.heap.size (fun k_ => some k_ ≠ ((.slice Ao37 t571.length co37) : Value).ownBlock) (.slice Ao38 t560.length co38) t560) ∧ Aside0 (Kd.R (Kd.int .u8) 5 wc w.heap.size (fun k_ => some k_ ≠ ((.slice Ao38 t560.length co38) : Value).ownBlock) (.slice Ao37 t571.length co37) t571) ∧ Aside0 (wc.heap[gb551]? = some (.cells #[.int .i64 a1_0, .int .i64 a1_1, .int .i64 a1_2, .int .i64 a1_3, (.slice A1_4 l1_4.length c1_4)] 53 (0, 0))) ∧ Aside0 (wc.heap[gb570]? = some (.cells #[.int .i64 t563, .int .i64 t564, .int .i64 t565, .int .i64 t566, (.slice Ao33 t567.length co33)] 58 (0, 0))) ∧ Aside0 (Below w.heap.size w wc))
 case first =>
  have H := HC20.out
  clear HC20
  by_cases c45 : t583 < 0
  · rw [if_pos c45] at H
    have c45b0 : decide (t583 < 0) = true := decide_eq_true c45
    clear c45
    (first | rw [c45b0] | (simp only [i64_w, i32_w]; rw [c45b0]) | skip)
    have H' := am H
    clear H
    go_wp2
    go_meet
    case rel => exact ⟨_, (true), sq, H', ⟨by first | omega | exact Nat.le_refl _⟩, ⟨kqR HO562.out⟩, ⟨kqR HO573.out⟩, ⟨zq BK551.out⟩, ⟨zq BK570.out⟩, ⟨bq2 HB.out GE551.out GE570.out⟩⟩
  rw [if_neg c45] at H
  have c45b0 : decide (t583 < 0) = false := decide_eq_false c45
  clear c45
  (first | rw [c45b0] | (simp only [i64_w, i32_w]; rw [c45b0]) | skip)
  replace H := Option.bind_eq_some_iff.mp H
  obtain ⟨t584, A460, H⟩ := H
  replace H : (laws_FnExactPutMsg.j0 k a0 t560 t571 (!t584) a1_0 a1_1 a1_2 a1_3 l1_4) = some r := H
  have A46 := am A460
  clear A460
  have H' := am H
  clear H
  go_wp2_with (first | (go_at_call 18; (with_reducible refine (laws_eqByteS.calls k _ _ t571 _ _ t560 t584 _ ?side1 ?side2 ?side3 ?side4 A46.out).mono ?_); (case side1 => repeat (first | exact (Kd.R_reads' HO573.out).2.2 | (with_reducible refine Kd.C_alloc ?_ _) | (with_reducible refine Kd.C_drewN ?_ _) | (with_reducible refine Kd.C_drew ?_))); (case side2 => exact (Kd.R_reads' HO573.out).2.1); (case side3 => repeat (first | exact (Kd.R_reads' HO562.out).2.2 | (with_reducible refine Kd.C_alloc ?_ _) | (with_reducible refine Kd.C_drewN ?_ _) | (with_reducible refine Kd.C_drew ?_))); (case side4 => exact (Kd.R_reads' HO562.out).2.1); rintro e w' ⟨rfl, ⟨nd, rfl⟩⟩))
  go_meet
  case rel => exact ⟨_, (!t584), sq, H', ⟨by first | omega | exact Nat.le_refl _⟩, ⟨kqR HO562.out⟩, ⟨kqR HO573.out⟩, ⟨zq BK551.out⟩, ⟨zq BK570.out⟩, ⟨bq2 HB.out GE551.out GE570.out⟩⟩
 case rest =>
  clear HC20
  try clear c1
  try clear p2
  try clear c3
  try clear c3b0
  try clear c3b1
  try clear c4
  try clear c5
  try clear c6
  try clear c6b0
  try clear c8
  try clear c15
  try clear c18
  try clear c31
  try clear c38
  try clear c40
  try clear c42
  try clear c43
  try clear c45
  try clear c45b0
  try clear hcz22_0
  try clear hcz22_1
  try clear hcz22_2
  try clear hcz22_3
  try clear hcz22_4
  try clear hcz24_0
  try clear hcz24_1
  try clear hcz24_2
  try clear hcz24_3
  try clear hcz24_4
  try clear hcz28_0
  try clear hcz28_1
  try clear hcz28_2
  try clear hcz28_3
  try clear hcz28_4
  try clear hcz32_0
  try clear hcz32_1
  try clear hcz32_2
  try clear hcz32_3
  try clear hcz32_4
  try clear hcz35_0
  try clear hcz35_1
  try clear hcz35_2
  try clear hcz35_3
  try clear hcz35_4
  try clear hcz43_0
  try clear hcz43_1
  try clear hcz43_2
  try clear hcz43_3
  try clear hcz43_4
  try clear hcz8_0
  try clear hcz8_1
  try clear hcz8_2
  try clear hcz8_3
  try clear hcz8_4
  try clear hfz22_0
  try clear hfz22_1
  try clear hfz22_2
  try clear hfz22_3
  try clear hfz22_4
  try clear hfz24_0
  try clear hfz24_1
  try clear hfz24_2
  try clear hfz24_3
  try clear hfz24_4
  try clear hfz28_0
  try clear hfz28_1
  try clear hfz28_2
  try clear hfz28_3
  try clear hfz28_4
  try clear hfz32_0
  try clear hfz32_1
  try clear hfz32_2
  try clear hfz32_3
  try clear hfz32_4
  try clear hfz35_0
  try clear hfz35_1
  try clear hfz35_2
  try clear hfz35_3
  try clear hfz35_4
  try clear hfz43_0
  try clear hfz43_1
  try clear hfz43_2
  try clear hfz43_3
  try clear hfz43_4
  try clear hfz8_0
  try clear hfz8_1
  try clear hfz8_2
  try clear hfz8_3
  try clear hfz8_4
  obtain ⟨kq, x49_19, rfl, HA, HJ19, HO_6, HO_8, BK551, BK570, HB⟩ := hcut
  cases kq with
  | zero => exact absurd HA.out (by simp [laws_FnExactPutMsg.j0])
  | succ kj19 =>
   have H := HA.out
   clear HA
   simp only [laws_FnExactPutMsg.j0] at H
   by_cases c47 : x49_19 = true
   · subst c47
     replace H : (some false) = some r := by rw [if_pos rfl] at H; exact H
     exact absurd ((Option.some.inj H).trans HRT.out) (by decide)
   replace c47 := Bool.eq_false_iff.mpr c47
   subst c47
   replace H : ((laws_markByteS.f kj19 t571 1).bind fun bt585 => ((laws_heldByteS.f kj19 bt585.2 1).bind fun t587 => (if t587 < 0 then (some false) else (if t587 = bt585.1 then ((laws_toPdu.f kj19 a1_0 a1_1 a1_2 a1_3 l1_4).bind fun bt588 => ((impl_PutMsg.f kj19 a0 bt588.1 bt588.2.1 bt588.2.2.1 bt588.2.2.2.1 bt588.2.2.2.2).bind fun t595 => ((laws_eqByteS.f kj19 t595 t560).bind fun t598 => (if t598 = true then ((laws_heldByteS.f kj19 bt585.2 1).bind fun t599 => (if t599 < 0 then (some false) else (if t599 = bt585.1 then (some true) else (some false)))) else (some false))))) else (some false))))) = some r := by rw [if_neg (show ¬ (false = true) by decide)] at H; exact H
   replace H := Option.bind_eq_some_iff.mp H
   obtain ⟨⟨t585, t586⟩, A480, H⟩ := H
   replace H : ((laws_heldByteS.f kj19 t586 1).bind fun t587 => (if t587 < 0 then (some false) else (if t587 = t585 then ((laws_toPdu.f kj19 a1_0 a1_1 a1_2 a1_3 l1_4).bind fun bt588 => ((impl_PutMsg.f kj19 a0 bt588.1 bt588.2.1 bt588.2.2.1 bt588.2.2.2.1 bt588.2.2.2.2).bind fun t595 => ((laws_eqByteS.f kj19 t595 t560).bind fun t598 => (if t598 = true then ((laws_heldByteS.f kj19 t586 1).bind fun t599 => (if t599 < 0 then (some false) else (if t599 = t585 then (some true) else (some false)))) else (some false))))) else (some false)))) = some r := H
   have A48 := am A480
   clear A480
   replace H := Option.bind_eq_some_iff.mp H
   obtain ⟨t587, A490, H⟩ := H
   replace H : (if t587 < 0 then (some false) else (if t587 = t585 then ((laws_toPdu.f kj19 a1_0 a1_1 a1_2 a1_3 l1_4).bind fun bt588 => ((impl_PutMsg.f kj19 a0 bt588.1 bt588.2.1 bt588.2.2.1 bt588.2.2.2.1 bt588.2.2.2.2).bind fun t595 => ((laws_eqByteS.f kj19 t595 t560).bind fun t598 => (if t598 = true then ((laws_heldByteS.f kj19 t586 1).bind fun t599 => (if t599 < 0 then (some false) else (if t599 = t585 then (some true) else (some false)))) else (some false))))) else (some false))) = some r := H
   have A49 := am A490
   clear A490
   by_cases c50 : t587 < 0
   · rw [if_pos c50] at H
     have c50b0 : decide (t587 < 0) = true := decide_eq_true c50
     clear c50
     exact absurd ((Option.some.inj H).trans HRT.out) (by decide)
   rw [if_neg c50] at H
   have c50b0 : decide (t587 < 0) = false := decide_eq_false c50
   clear c50
   by_cases c51 : t587 = t585
   rotate_left
   · rw [if_neg c51] at H
     have c51b0 : (t587 == t585) = false := beq_eq_false_iff_ne.mpr c51
     have c51b1 : (t587 != t585) = true := bne_iff_ne.mpr c51
     exact absurd ((Option.some.inj H).trans HRT.out) (by decide)
   rw [if_pos c51] at H
   have c51b0 : (t587 == t585) = true := beq_iff_eq.mpr c51
   have c51b1 : (t587 != t585) = false := bne_eq_false_iff_eq.mpr c51
   clear c51
   replace H := Option.bind_eq_some_iff.mp H
   obtain ⟨⟨t588, t589, t590, t591, t592⟩, A520, H⟩ := H
   replace H : ((impl_PutMsg.f kj19 a0 t588 t589 t590 t591 t592).bind fun t595 => ((laws_eqByteS.f kj19 t595 t560).bind fun t598 => (if t598 = true then ((laws_heldByteS.f kj19 t586 1).bind fun t599 => (if t599 < 0 then (some false) else (if t599 = t585 then (some true) else (some false)))) else (some false)))) = some r := H
   have A52 := am A520
   clear A520
   replace H := Option.bind_eq_some_iff.mp H
   obtain ⟨t595, A530, H⟩ := H
   replace H : ((laws_eqByteS.f kj19 t595 t560).bind fun t598 => (if t598 = true then ((laws_heldByteS.f kj19 t586 1).bind fun t599 => (if t599 < 0 then (some false) else (if t599 = t585 then (some true) else (some false)))) else (some false))) = some r := H
   have A53 := am A530
   clear A530
   replace H := Option.bind_eq_some_iff.mp H
   obtain ⟨t598, A540, H⟩ := H
   replace H : (if t598 = true then ((laws_heldByteS.f kj19 t586 1).bind fun t599 => (if t599 < 0 then (some false) else (if t599 = t585 then (some true) else (some false)))) else (some false)) = some r := H
   have A54 := am A540
   clear A540
   by_cases c55 : t598 = true
   rotate_left
   · replace c55 := Bool.eq_false_iff.mpr c55
     subst c55
     replace H : (some false) = some r := by rw [if_neg (show ¬ (false = true) by decide)] at H; exact H
     exact absurd ((Option.some.inj H).trans HRT.out) (by decide)
   subst c55
   replace H : ((laws_heldByteS.f kj19 t586 1).bind fun t599 => (if t599 < 0 then (some false) else (if t599 = t585 then (some true) else (some false)))) = some r := by rw [if_pos rfl] at H; exact H
   replace H := Option.bind_eq_some_iff.mp H
   obtain ⟨t599, A560, H⟩ := H
   replace H : (if t599 < 0 then (some false) else (if t599 = t585 then (some true) else (some false))) = some r := H
   have A56 := am A560
   clear A560
   by_cases c57 : t599 < 0
   · rw [if_pos c57] at H
     have c57b0 : decide (t599 < 0) = true := decide_eq_true c57
     clear c57
     exact absurd ((Option.some.inj H).trans HRT.out) (by decide)
   rw [if_neg c57] at H
   have c57b0 : decide (t599 < 0) = false := decide_eq_false c57
   clear c57
   by_cases c58 : t599 = t585
   rotate_left
   · rw [if_neg c58] at H
     have c58b0 : (t599 == t585) = false := beq_eq_false_iff_ne.mpr c58
     have c58b1 : (t599 != t585) = true := bne_iff_ne.mpr c58
     exact absurd ((Option.some.inj H).trans HRT.out) (by decide)
   rw [if_pos c58] at H
   have c58b0 : (t599 == t585) = true := beq_iff_eq.mpr c58
   have c58b1 : (t599 != t585) = false := bne_eq_false_iff_eq.mpr c58
   clear c58
   obtain rfl := Option.some.inj H
   go_wp2_with (first | ((with_reducible refine gate_callee (f := 20) rfl ?_); refine goesL_ (some 52) rfl rfl Try.func20 (by kernel_rfl) rfl #[.slice Ao37 t571.length co37, .int .i64 1] rfl ga ?_; (with_reducible refine (laws_markByteS.calls kj19 (fun k_ => some k_ = (.slice Ao37 t571.length co37 : Value).ownBlock) (.slice Ao37 t571.length co37) t571 1 t585 t586 w _ ?side1 ?side2 A48.out).mono ?_); (case side1 => exact bq2 HB.out GE551.out GE570.out); (case side2 => exact Kd.R_tight rfl HO_8.out); rintro e w59 ⟨rfl, hy0, hb, hkp⟩; refine ⟨_, rfl, ?_⟩; have n_ := ak5 (Kd.R_mono (ok' := fun k_ => some k_ ≠ (.slice Ao37 t571.length co37 : Value).ownBlock) (Kd.R_keptB (HO_6.out) hkp (fun k_ hk_ hs_ => (hk_) hs_)) (fun k_ hk_ => hk_.1)) (Kd.R_reok rfl hy0 (fun k_ e_ => HO_8.out.1 k_ e_)) (blk_kept (zq BK551.out) hkp (fun hs_ => (fun e_ => (Kd.R_ne HO_8.out BK551.out (by decide)) e_) hs_)) (blk_kept (zq BK570.out) hkp (fun hs_ => (fun e_ => (Kd.R_ne HO_8.out BK570.out (by decide)) e_) hs_)) hb; clear HO_6 HO_8 BK551 BK570 HB; obtain ⟨HO_6, HO_8, BK551, BK570, HB⟩ := n_; (try clear hb hkp hy0)) | ((with_reducible refine gate_callee (f := 22) rfl ?_); refine goesL_ (some 55) rfl rfl Try.func22 (by kernel_rfl) rfl #[.slice Ao37 t586.length co37, .int .i64 1] rfl (by (try simp only [List.map_toArray, List.map_cons, List.map_nil]); first | done | (rw [show t586.length = t571.length from (Kd.R_reads' HO_8.out).1.symm] <;> rfl) | rfl | (simp only [List.length_drop, List.length_take]; rfl)) ?_; (with_reducible refine (laws_heldByteS.calls kj19 _ _ t586 1 t587 _ ?side1 ?side2 A49.out).mono ?_); (case side1 => repeat (first | exact (Kd.R_reads' HO_8.out).2.2 | (with_reducible refine Kd.C_alloc ?_ _) | (with_reducible refine Kd.C_drewN ?_ _) | (with_reducible refine Kd.C_drew ?_))); (case side2 => rw [show t586.length = t571.length from (Kd.R_reads' HO_8.out).1.symm]; exact (Kd.R_reads' HO_8.out).2.1); rintro e w' ⟨rfl, ⟨nd, rfl⟩⟩; refine ⟨_, rfl, ?_⟩; have hnb60 := NB551_570.out; have hnc60 := NB570_551.out; obtain ⟨hcz61_0, hcz61_1, hcz61_2, hcz61_3, hcz61_4, hfz61_0, hfz61_1, hfz61_2, hfz61_3, hfz61_4⟩ := cl5 BK551.out) | ((with_reducible refine gate_callee (f := 40) rfl ?_); refine goesL_ (some 63) rfl rfl Try.func40 (by kernel_rfl) rfl #[.agg #[.int .i64 a1_0, .int .i64 a1_1, .int .i64 a1_2, .int .i64 a1_3, .slice A1_4 l1_4.length c1_4]] rfl ga ?_; (with_reducible refine (laws_toPdu.calls kj19 a1_0 a1_1 a1_2 a1_3 _ _ l1_4 t588 t589 t590 t591 t592 _ ?side1 ?side2 A52.out).mono ?_); (case side1 => repeat (first | exact (Kd.C_below HR1_4.out (bq2 HB.out GE551.out GE570.out)) | (with_reducible refine Kd.C_alloc ?_ _) | (with_reducible refine Kd.C_drewN ?_ _) | (with_reducible refine Kd.C_drew ?_))); (case side2 => exact HC1_4.out); rintro e w62 ⟨v593, rfl, ho0, hb⟩; refine ⟨_, rfl, ?_⟩; have n_ := ak6 (Kd.R_below (kqR HO_6.out) hb) (Kd.R_below (kqR HO_8.out) hb) (Kd.S_lower ho0 (below_size (bq2 HB.out GE551.out GE570.out))) (blk_below (zb BK551.out) hb) (blk_below (zb BK570.out) hb) (below_step (bq2 HB.out GE551.out GE570.out) hb); clear HO_6 HO_8 BK551 BK570 HB; obtain ⟨HO_6, HO_8, HO594, BK551, BK570, HB⟩ := n_; (try clear hb ho0); obtain ⟨Ao63, co63, eo63⟩ := Kd.S_slice HO594.out; subst eo63) | ((with_reducible refine gate_callee (f := 52) rfl ?_); refine goesL_ (some 64) rfl rfl Try.func52 (by kernel_rfl) rfl #[.string a0, .agg #[.int .i64 t588, .int .i64 t589, .int .i64 t590, .int .i64 t591, .slice Ao63 t592.length co63]] rfl ga ?_; (with_reducible refine (impl_PutMsg.calls kj19 a0 t588 t589 t590 t591 _ _ t592 t595 _ ?side1 ?side2 A53.out).mono ?_); (case side1 => repeat (first | exact (Kd.S_reads' HO594.out).2.2 | (with_reducible refine Kd.C_alloc ?_ _) | (with_reducible refine Kd.C_drewN ?_ _) | (with_reducible refine Kd.C_drew ?_))); (case side2 => exact (Kd.S_reads' HO594.out).2.1); rintro e w64 ⟨v596, rfl, ho0, hb⟩; refine ⟨_, rfl, ?_⟩; have n_ := ak7 (Kd.R_elder' (kqR HO_6.out) (Kd.R_base ho0) hb) (Kd.R_elder' (kqR HO_8.out) (Kd.R_base ho0) hb) (Kd.S_below (kqS HO594.out) hb) (Kd.R_lower (Kd.R_new' (Kd.R_new' ho0 (Kd.R_lt (kqR HO_6.out))) (Kd.R_lt (kqR HO_8.out))) (below_size (bq2 HB.out GE551.out GE570.out))) (blk_below (zb BK551.out) hb) (blk_below (zb BK570.out) hb) (below_step (bq2 HB.out GE551.out GE570.out) hb); clear HO_6 HO_8 HO594 BK551 BK570 HB; obtain ⟨HO_6, HO_8, HO594, HO597, BK551, BK570, HB⟩ := n_; (try clear hb ho0); obtain ⟨Ao65, co65, eo65⟩ := Kd.R_slice HO597.out; subst eo65) | ((with_reducible refine gate_callee (f := 18) rfl ?_); refine goesL_ (some 67) rfl rfl Try.func18 (by kernel_rfl) rfl #[.slice Ao65 t595.length co65, .slice Ao38 t560.length co38] rfl ga ?_; (with_reducible refine (laws_eqByteS.calls kj19 _ _ t595 _ _ t560 true _ ?side1 ?side2 ?side3 ?side4 A54.out).mono ?_); (case side1 => repeat (first | exact (Kd.R_reads' HO597.out).2.2 | (with_reducible refine Kd.C_alloc ?_ _) | (with_reducible refine Kd.C_drewN ?_ _) | (with_reducible refine Kd.C_drew ?_))); (case side2 => exact (Kd.R_reads' HO597.out).2.1); (case side3 => repeat (first | exact (Kd.R_reads' HO_6.out).2.2 | (with_reducible refine Kd.C_alloc ?_ _) | (with_reducible refine Kd.C_drewN ?_ _) | (with_reducible refine Kd.C_drew ?_))); (case side4 => exact (Kd.R_reads' HO_6.out).2.1); rintro e w' ⟨rfl, ⟨nd, rfl⟩⟩; refine ⟨_, rfl, ?_⟩) | ((with_reducible refine gate_callee (f := 22) rfl ?_); refine goesL_ (some 71) rfl rfl Try.func22 (by kernel_rfl) rfl #[.slice Ao37 t586.length co37, .int .i64 1] rfl (by (try simp only [List.map_toArray, List.map_cons, List.map_nil]); first | done | (rw [show t586.length = t571.length from (Kd.R_reads' HO_8.out).1.symm] <;> rfl) | rfl | (simp only [List.length_drop, List.length_take]; rfl)) ?_; (with_reducible refine (laws_heldByteS.calls kj19 _ _ t586 1 t599 _ ?side1 ?side2 A56.out).mono ?_); (case side1 => repeat (first | exact (Kd.R_reads' HO_8.out).2.2 | (with_reducible refine Kd.C_alloc ?_ _) | (with_reducible refine Kd.C_drewN ?_ _) | (with_reducible refine Kd.C_drew ?_))); (case side2 => rw [show t586.length = t571.length from (Kd.R_reads' HO_8.out).1.symm]; exact (Kd.R_reads' HO_8.out).2.1); rintro e w' ⟨rfl, ⟨nd, rfl⟩⟩; refine ⟨_, rfl, ?_⟩))
   go_ret
   exact ⟨rq, bq2 HB.out GE551.out GE570.out⟩

/-- THE ONE PURE STATEMENT of laws_FnExactPutMsg. -/
def wfS25 (x : S25) : Prop := (Lit.int .i64 x.f0).wf = true ∧ (Lit.int .i64 x.f1).wf = true ∧ x.f2.size ≤ maxLen ∧ x.f3.length ≤ maxLen ∧ (∀ y ∈ x.f3, (Lit.int .i64 y).wf = true)
def wfS140 (x : S140) : Prop := x.f0.length ≤ maxLen ∧ (∀ y ∈ x.f0, (Lit.int .i64 y).wf = true) ∧ wfS25 x.f1
def wfS53 (x : S53) : Prop := (Lit.int .i64 x.f0).wf = true ∧ (Lit.int .i64 x.f1).wf = true ∧ (Lit.int .i64 x.f2).wf = true ∧ (Lit.int .i64 x.f3).wf = true ∧ x.f4.length ≤ maxLen ∧ (∀ y ∈ x.f4, wfS140 y)
def laws_FnExactPutMsg.Pure : Prop := ∀ (a0 : ByteArray) (a1_0 : Int) (a1_1 : Int) (a1_2 : Int) (a1_3 : Int) (l1_4 : List (S140)), a0.size ≤ maxLen → (Lit.int .i64 a1_0).wf = true → (Lit.int .i64 a1_1).wf = true → (Lit.int .i64 a1_2).wf = true → (Lit.int .i64 a1_3).wf = true → l1_4.length ≤ maxLen → (∀ y ∈ l1_4, wfS140 y) → ∃ k, laws_FnExactPutMsg.f k a0 a1_0 a1_1 a1_2 a1_3 l1_4 = some true

end Go.Proofs.Ythhnfmbfgplelaa.XFnExactPutMsg
