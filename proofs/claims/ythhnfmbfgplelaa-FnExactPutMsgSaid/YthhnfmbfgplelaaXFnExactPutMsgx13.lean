/- The functions that one law reaches, as Lean functions, with their walks: printed by a program of this seat (wip/tools) out of the translation. -/
import Derived.Test.YthhnfmbfgplelaaXFnExactPutMsgx0
import Derived.Test.YthhnfmbfgplelaaXFnExactPutMsgx10
import Derived.Test.YthhnfmbfgplelaaXFnExactPutMsgx11
import Derived.Test.YthhnfmbfgplelaaXFnExactPutMsgx12
namespace Go.Proofs.Ythhnfmbfgplelaa.XFnExactPutMsg
open Go.RowKit Go.Proofs.YthhnfmbfgplelaaW.PrintWords Go.Proofs.YthhnfmbfgplelaaW.PrintLast Go.Proofs.YthhnfmbfgplelaaW.PrintMore
attribute [local go_sem] max2_int min2_int max_two min_two max_three min_three max_four min_four   -- for this text's walks alone
set_option linter.unusedVariables false
set_option linter.unusedSimpArgs false

/-! ### impl_PutPdu: function 41 -/
def impl_PutPdu.l0 : Nat → List Int → List (S116) → Int → Int → Int → Int → Int → Int → List (S116) → Option (List Int)
 | 0, _, _, _, _, _, _, _, _, _ => none
 | k + 1, x3, x16, x17, x18, x492000, x492001, x492002, x492003, x492004 => if x18 < x17 then (if 0 ≤ x18 then (if x18 < (x16.length : Int) then ((impl_PutOid.f k ((rd_T116 x16 x18).f0)).bind fun t495 => ((impl_PutTlv.f k ([] : List Int) 6 t495).bind fun t498 => ((impl_PutVal.f k t498 ((rd_T116 x16 x18).f1.f0) ((rd_T116 x16 x18).f1.f1) ((rd_T116 x16 x18).f1.f2) ((rd_T116 x16 x18).f1.f3)).bind fun t501 => ((impl_tlv.f k 48 t501).bind fun bt504 => (if bt504.2 = true then (if x3.length + bt504.1.length < 140737488355328 then (impl_PutPdu.l0 k (x3 ++ bt504.1) x16 x17 (wrap64 (x18 + 1)) x492000 x492001 x492002 x492003 x492004) else (none)) else (some ([] : List Int))))))) else (none)) else (none)) else ((impl_tlv.f k 48 x3).bind fun bt511 => (if bt511.2 = true then ((impl_addNum.f k ([] : List Int) 2 x492001).bind fun t515 => ((impl_addNum.f k t515 2 x492002).bind fun t518 => ((impl_addNum.f k t518 2 x492003).bind fun t521 => (if t521.length + bt511.1.length < 140737488355328 then ((impl_tlv.f k x492000 (t521 ++ bt511.1)).bind fun bt527 => (if bt527.2 = true then (some bt527.1) else (some ([] : List Int)))) else (none))))) else (some ([] : List Int))))
def impl_PutPdu.f (k : Nat) (a0_0 : Int) (a0_1 : Int) (a0_2 : Int) (a0_3 : Int) (l0_4 : List (S116)) : Option (List Int) := (impl_PduOk.f k a0_0 a0_1 a0_2 a0_3 l0_4).bind fun t492 => (if t492 = true then (impl_PutPdu.l0 k ([] : List Int) l0_4 (l0_4.length : Int) 0 a0_0 a0_1 a0_2 a0_3 l0_4) else (some ([] : List Int)))
theorem impl_PutPdu.mono_l : ∀ k, (∀ y0 y1 y2 y3 y4 y5 y6 y7 y8, LeO (impl_PutPdu.l0 k y0 y1 y2 y3 y4 y5 y6 y7 y8) (impl_PutPdu.l0 (k + 1) y0 y1 y2 y3 y4 y5 y6 y7 y8))
 | 0 => fun _ _ _ _ _ _ _ _ _ r h => by simp [impl_PutPdu.l0] at h
 | k + 1 => by
  have ih0 := impl_PutPdu.mono_l k
  intro y0 y1 y2 y3 y4 y5 y6 y7 y8
  unfold impl_PutPdu.l0
  repeat' first
  | (with_reducible exact ih0 _ _ _ _ _ _ _ _ _)
  | (with_reducible exact impl_PduOk.mono _ _ _ _ _ _)
  | (with_reducible exact impl_PutOid.mono _ _)
  | (with_reducible exact impl_PutTlv.mono _ _ _ _)
  | (with_reducible exact impl_PutVal.mono _ _ _ _ _ _)
  | (with_reducible exact impl_addNum.mono _ _ _ _)
  | (with_reducible exact impl_tlv.mono _ _ _)
  | (with_reducible exact LeO.refl _)
  | (with_reducible exact LeO.none _)
  | (with_reducible refine LeO.ite ?_ ?_)
  | (with_reducible refine LeO.bind ?_ (fun _ => ?_))
  | exact ih0 _ _ _ _ _ _ _ _ _
  | exact impl_PduOk.mono _ _ _ _ _ _
  | exact impl_PutOid.mono _ _
  | exact impl_PutTlv.mono _ _ _ _
  | exact impl_PutVal.mono _ _ _ _ _ _
  | exact impl_addNum.mono _ _ _ _
  | exact impl_tlv.mono _ _ _
  | exact LeO.none _
  | refine LeO.ite ?_ ?_
  | refine LeO.bind ?_ (fun _ => ?_)
theorem impl_PutPdu.mono : ∀ a0 a1 a2 a3 a4 k, LeO (impl_PutPdu.f k a0 a1 a2 a3 a4) (impl_PutPdu.f (k + 1) a0 a1 a2 a3 a4) := by
 intro a0 a1 a2 a3 a4 k
 have ih0 := impl_PutPdu.mono_l k
 unfold impl_PutPdu.f
 repeat' first
  | (with_reducible exact ih0 _ _ _ _ _ _ _ _ _)
  | (with_reducible exact impl_PduOk.mono _ _ _ _ _ _)
  | (with_reducible exact impl_PutOid.mono _ _)
  | (with_reducible exact impl_PutTlv.mono _ _ _ _)
  | (with_reducible exact impl_PutVal.mono _ _ _ _ _ _)
  | (with_reducible exact impl_addNum.mono _ _ _ _)
  | (with_reducible exact impl_tlv.mono _ _ _)
  | (with_reducible exact LeO.refl _)
  | (with_reducible exact LeO.none _)
  | (with_reducible refine LeO.ite ?_ ?_)
  | (with_reducible refine LeO.bind ?_ (fun _ => ?_))
  | exact ih0 _ _ _ _ _ _ _ _ _
  | exact impl_PduOk.mono _ _ _ _ _ _
  | exact impl_PutOid.mono _ _
  | exact impl_PutTlv.mono _ _ _ _
  | exact impl_PutVal.mono _ _ _ _ _ _
  | exact impl_addNum.mono _ _ _ _
  | exact impl_tlv.mono _ _ _
  | exact LeO.none _
  | refine LeO.ite ?_ ?_
  | refine LeO.bind ?_ (fun _ => ?_)
def impl_PutPdu.T7 : Bool × List (List Nat × List Nat) := (true, [([], []), ([0], [0]), ([1], [1]), ([2, 2], [2]), ([], []), ([4], [4]), ([3, 5, 3], [3, 5]), ([6, 6], [6]), ([7], [7]), ([8], [8]), ([8], [8]), ([9, 7, 0, 1, 2, 3, 4, 5, 6, 7, 8, 9], [9]), ([10, 11, 0, 1, 2, 3, 4, 5, 6, 7, 8, 9, 10, 11], [10])])
def impl_PutPdu.B7 : List Nat := [0, 1, 3, 7, 0, 16, 63, 127, 255, 511, 511, 1023, 4095]
theorem impl_PutPdu.tab7 : rtab .any (opsOf Try.f41 7) = impl_PutPdu.T7 := by kernel_rfl
theorem impl_PutPdu.bits7 : waitsOk impl_PutPdu.T7.2 impl_PutPdu.B7 = true := by kernel_rfl
def impl_PutPdu.T15 : Bool × List (List Nat × List Nat) := (true, [([], []), ([0], [0]), ([], []), ([2], [2]), ([3], [3]), ([], []), ([5], [5]), ([4, 6, 4], [4, 6]), ([], []), ([8], [8]), ([7, 9, 7], [7, 9]), ([], []), ([10, 11, 10], [10, 11]), ([1, 12, 12], [1, 12]), ([13], [13]), ([14], [14]), ([14], [14]), ([15, 13, 0, 1, 2, 3, 4, 5, 6, 7, 8, 9, 10, 11, 12, 13, 14, 15], [15]), ([16, 17, 0, 1, 2, 3, 4, 5, 6, 7, 8, 9, 10, 11, 12, 13, 14, 15, 16, 17], [16])])
def impl_PutPdu.B15 : List Nat := [0, 1, 0, 4, 12, 0, 32, 124, 0, 256, 1020, 0, 4092, 8191, 16383, 32767, 32767, 65535, 262143]
theorem impl_PutPdu.tab15 : rtab .any (opsOf Try.f41 15) = impl_PutPdu.T15 := by kernel_rfl
theorem impl_PutPdu.bits15 : waitsOk impl_PutPdu.T15.2 impl_PutPdu.B15 = true := by kernel_rfl
set_option maxHeartbeats 8000000 in
set_option maxRecDepth 100000 in
theorem impl_PutPdu.calls (k : Nat) (a0_0 : Int) (a0_1 : Int) (a0_2 : Int) (a0_3 : Int) (A0_4 : Option Addr) (c0_4 : Nat) (l0_4 : List (S116)) (r : List Int) (w : World) (hr0_4 : Kd.C k116 w A0_4 l0_4.length l0_4) (hc0_4 : l0_4.length ≤ c0_4) (h : impl_PutPdu.f k a0_0 a0_1 a0_2 a0_3 l0_4 = some r) :
 Calls Try.prog 41 #[.agg #[.int .i64 a0_0, .int .i64 a0_1, .int .i64 a0_2, .int .i64 a0_3, .slice A0_4 l0_4.length c0_4]] w fun e w' => ∃ v0_ : Value, e = .returned (v0_) ∧ Kd.R (Kd.int .u8) 5 w' w.heap.size (fun _ => True) v0_ r ∧ Below w.heap.size w w' := by
 have hu58 := Try.underlying58
 have hu116 := Try.underlying116
 have hu29 := Try.underlying29
 have HR0_4 := am hr0_4
 have HC0_4 := am hc0_4
 clear hr0_4 hc0_4
 have HB := am (Below.refl w.heap.size w)
 have H : ((impl_PduOk.f k a0_0 a0_1 a0_2 a0_3 l0_4).bind fun t492 => (if t492 = true then (impl_PutPdu.l0 k ([] : List Int) l0_4 (l0_4.length : Int) 0 a0_0 a0_1 a0_2 a0_3 l0_4) else (some ([] : List Int)))) = some r := h
 clear h
 replace H := Option.bind_eq_some_iff.mp H
 obtain ⟨t492, A20, H⟩ := H
 replace H : (if t492 = true then (impl_PutPdu.l0 k ([] : List Int) l0_4 (l0_4.length : Int) 0 a0_0 a0_1 a0_2 a0_3 l0_4) else (some ([] : List Int))) = some r := H
 have A2 := am A20
 clear A20
 by_cases c3 : t492 = true
 rotate_left
 · replace c3 := Bool.eq_false_iff.mpr c3
   subst c3
   replace H : (some ([] : List Int)) = some r := by rw [if_neg (show ¬ (false = true) by decide)] at H; exact H
   obtain rfl := Option.some.inj H
   go_enter Try.func41, Try.ntmps41
   go_wp2_with (first | ((with_reducible refine gate_dst (N := 1) rfl ?_); refine bxe 1 #[.int .i64 a0_0, .int .i64 a0_1, .int .i64 a0_2, .int .i64 a0_3, .slice A0_4 l0_4.length c0_4] 58 ?_; intro gb491 hg w77 hbox hb; have n_ := ak4 (below_step (bq HB.out) hb) hbox ((by rw [hg]; exact (below_size (bq HB.out)) : w.heap.size ≤ gb491)) ((by rw [hg]; exact (below_size (bq HB.out)) : w.heap.size ≤ gb491)); clear HB; obtain ⟨HB, BK491, GW491, GE491⟩ := n_; clear hb hbox hg; obtain ⟨hcz78_0, hcz78_1, hcz78_2, hcz78_3, hcz78_4, hfz78_0, hfz78_1, hfz78_2, hfz78_3, hfz78_4⟩ := cl5 BK491.out) | ((with_reducible refine gate_callee (f := 99) rfl ?_); refine goesL_ (some 13) rfl rfl Try.func99 (by kernel_rfl) rfl #[.agg #[.int .i64 a0_0, .int .i64 a0_1, .int .i64 a0_2, .int .i64 a0_3, .slice A0_4 l0_4.length c0_4]] rfl ga ?_; (with_reducible refine (impl_PduOk.calls k a0_0 a0_1 a0_2 a0_3 _ _ l0_4 false _ ?side1 ?side2 A2.out).mono ?_); (case side1 => exact cq (Kd.C_below HR0_4.out HB.out)); (case side2 => exact HC0_4.out); rintro e w79 ⟨rfl, hb⟩; refine ⟨_, rfl, ?_⟩; have n_ := ak2 (blk_below (zb BK491.out) hb) (below_step (bq1 HB.out GE491.out) hb); clear BK491 HB; obtain ⟨BK491, HB⟩ := n_; (try clear hb)))
   go_ret
   exact ⟨_, rq, rn, bq1 HB.out GE491.out⟩
 subst c3
 replace H : (impl_PutPdu.l0 k ([] : List Int) l0_4 (l0_4.length : Int) 0 a0_0 a0_1 a0_2 a0_3 l0_4) = some r := by rw [if_pos rfl] at H; exact H
 have H' := am H
 clear H
 go_enter Try.func41, Try.ntmps41
 go_wp2_with (first | ((with_reducible refine gate_dst (N := 1) rfl ?_); refine bxe 1 #[.int .i64 a0_0, .int .i64 a0_1, .int .i64 a0_2, .int .i64 a0_3, .slice A0_4 l0_4.length c0_4] 58 ?_; intro gb491 hg w4 hbox hb; have n_ := ak4 (below_step (bq HB.out) hb) hbox ((by rw [hg]; exact (below_size (bq HB.out)) : w.heap.size ≤ gb491)) ((by rw [hg]; exact (below_size (bq HB.out)) : w.heap.size ≤ gb491)); clear HB; obtain ⟨HB, BK491, GW491, GE491⟩ := n_; clear hb hbox hg; obtain ⟨hcz5_0, hcz5_1, hcz5_2, hcz5_3, hcz5_4, hfz5_0, hfz5_1, hfz5_2, hfz5_3, hfz5_4⟩ := cl5 BK491.out) | ((with_reducible refine gate_callee (f := 99) rfl ?_); refine goesL_ (some 13) rfl rfl Try.func99 (by kernel_rfl) rfl #[.agg #[.int .i64 a0_0, .int .i64 a0_1, .int .i64 a0_2, .int .i64 a0_3, .slice A0_4 l0_4.length c0_4]] rfl ga ?_; (with_reducible refine (impl_PduOk.calls k a0_0 a0_1 a0_2 a0_3 _ _ l0_4 true _ ?side1 ?side2 A2.out).mono ?_); (case side1 => exact cq (Kd.C_below HR0_4.out HB.out)); (case side2 => exact HC0_4.out); rintro e w6 ⟨rfl, hb⟩; refine ⟨_, rfl, ?_⟩; have n_ := ak2 (blk_below (zb BK491.out) hb) (below_step (bq1 HB.out GE491.out) hb); clear BK491 HB; obtain ⟨BK491, HB⟩ := n_; (try clear hb); obtain ⟨hcz7_0, hcz7_1, hcz7_2, hcz7_3, hcz7_4, hfz7_0, hfz7_1, hfz7_2, hfz7_3, hfz7_4⟩ := cl5 BK491.out))
 go_loopg [3, 18] k (fun kq v3 v18 w' => ∃ (x3_1 : List Int) (x18_1 : Int), v18 = .int .i64 x18_1 ∧ Aside0 (impl_PutPdu.l0 kq x3_1 l0_4 (l0_4.length : Int) x18_1 a0_0 a0_1 a0_2 a0_3 l0_4 = some r) ∧ Aside0 (kq ≤ k) ∧ Aside0 (Kd.R (Kd.int .u8) 5 w' w.heap.size (fun _ => True) v3 x3_1) ∧ Aside0 (w'.heap[gb491]? = some (.cells #[.int .i64 a0_0, .int .i64 a0_1, .int .i64 a0_2, .int .i64 a0_3, (.slice A0_4 l0_4.length c0_4)] 58 (0, 0))) ∧ Aside0 (Below w.heap.size w w'))
 case atStart => exact ⟨(([] : List Int)), (0), sq, H', ⟨Nat.le_refl _⟩, ⟨rn⟩, ⟨zq BK491.out⟩, ⟨bq1 HB.out GE491.out⟩⟩
 case round =>
  clear H'
  try clear p2
  try clear c3
  try clear c4
  try clear hcz5_0
  try clear hcz5_1
  try clear hcz5_2
  try clear hcz5_3
  try clear hcz5_4
  try clear hcz7_0
  try clear hcz7_1
  try clear hcz7_2
  try clear hcz7_3
  try clear hcz7_4
  try clear hfz5_0
  try clear hfz5_1
  try clear hfz5_2
  try clear hfz5_3
  try clear hfz5_4
  try clear hfz7_0
  try clear hfz7_1
  try clear hfz7_2
  try clear hfz7_3
  try clear hfz7_4
  obtain ⟨x3_1, x18_1, rfl, HA, HK1, HO_3, BK491, HB⟩ := hrel
  cases gk with
  | zero => exact absurd HA.out (by simp [impl_PutPdu.l0])
  | succ k1 =>
   have H := HA.out
   clear HA
   simp only [impl_PutPdu.l0] at H
   by_cases c8 : x18_1 < (l0_4.length : Int)
   · rw [if_pos c8] at H
     have c8b0 : decide (x18_1 < (l0_4.length : Int)) = true := decide_eq_true c8
     clear c8
     by_cases c9 : 0 ≤ x18_1
     rotate_left
     · rw [if_neg c9] at H
       exact absurd H (by simp)
     rw [if_pos c9] at H
     have c9b0 : decide (0 ≤ x18_1) = true := decide_eq_true c9
     clear c9
     by_cases c10 : x18_1 < (l0_4.length : Int)
     rotate_left
     · rw [if_neg c10] at H
       exact absurd H (by simp)
     rw [if_pos c10] at H
     have c10b0 : decide (x18_1 < (l0_4.length : Int)) = true := decide_eq_true c10
     clear c10
     replace H := Option.bind_eq_some_iff.mp H
     obtain ⟨t495, A110, H⟩ := H
     replace H : ((impl_PutTlv.f k1 ([] : List Int) 6 t495).bind fun t498 => ((impl_PutVal.f k1 t498 ((rd_T116 l0_4 x18_1).f1.f0) ((rd_T116 l0_4 x18_1).f1.f1) ((rd_T116 l0_4 x18_1).f1.f2) ((rd_T116 l0_4 x18_1).f1.f3)).bind fun t501 => ((impl_tlv.f k1 48 t501).bind fun bt504 => (if bt504.2 = true then (if x3_1.length + bt504.1.length < 140737488355328 then (impl_PutPdu.l0 k1 (x3_1 ++ bt504.1) l0_4 (l0_4.length : Int) (wrap64 (x18_1 + 1)) a0_0 a0_1 a0_2 a0_3 l0_4) else (none)) else (some ([] : List Int)))))) = some r := H
     have A11 := am A110
     clear A110
     replace H := Option.bind_eq_some_iff.mp H
     obtain ⟨t498, A120, H⟩ := H
     replace H : ((impl_PutVal.f k1 t498 ((rd_T116 l0_4 x18_1).f1.f0) ((rd_T116 l0_4 x18_1).f1.f1) ((rd_T116 l0_4 x18_1).f1.f2) ((rd_T116 l0_4 x18_1).f1.f3)).bind fun t501 => ((impl_tlv.f k1 48 t501).bind fun bt504 => (if bt504.2 = true then (if x3_1.length + bt504.1.length < 140737488355328 then (impl_PutPdu.l0 k1 (x3_1 ++ bt504.1) l0_4 (l0_4.length : Int) (wrap64 (x18_1 + 1)) a0_0 a0_1 a0_2 a0_3 l0_4) else (none)) else (some ([] : List Int))))) = some r := H
     have A12 := am A120
     clear A120
     replace H := Option.bind_eq_some_iff.mp H
     obtain ⟨t501, A130, H⟩ := H
     replace H : ((impl_tlv.f k1 48 t501).bind fun bt504 => (if bt504.2 = true then (if x3_1.length + bt504.1.length < 140737488355328 then (impl_PutPdu.l0 k1 (x3_1 ++ bt504.1) l0_4 (l0_4.length : Int) (wrap64 (x18_1 + 1)) a0_0 a0_1 a0_2 a0_3 l0_4) else (none)) else (some ([] : List Int)))) = some r := H
     have A13 := am A130
     clear A130
     replace H := Option.bind_eq_some_iff.mp H
     obtain ⟨⟨t504, t505⟩, A140, H⟩ := H
     replace H : (if t505 = true then (if x3_1.length + t504.length < 140737488355328 then (impl_PutPdu.l0 k1 (x3_1 ++ t504) l0_4 (l0_4.length : Int) (wrap64 (x18_1 + 1)) a0_0 a0_1 a0_2 a0_3 l0_4) else (none)) else (some ([] : List Int))) = some r := H
     have A14 := am A140
     clear A140
     by_cases c15 : t505 = true
     rotate_left
     · replace c15 := Bool.eq_false_iff.mpr c15
       subst c15
       replace H : (some ([] : List Int)) = some r := by rw [if_neg (show ¬ (false = true) by decide)] at H; exact H
       obtain rfl := Option.some.inj H
       have p493 : 0 ≤ (x18_1 : Int) := oda
       have q493 : x18_1 < (l0_4.length : Int) := oda
       obtain ⟨ad493, A493_0, c493_0, A493_4, c493_4, e493, hx493_0, hx493_1, hx493_2, hx493_3, hx493_4, hl493_0, hi493_0, hl493_4, hi493_4⟩ := at_T116 HR0_4.out x18_1 p493 q493
       cases e493
       replace hx493_0 := (HB.out.cell (World.block_lt_of_cell? w _ hx493_0)).trans hx493_0
       replace hx493_1 := (HB.out.cell (World.block_lt_of_cell? w _ hx493_1)).trans hx493_1
       replace hx493_2 := (HB.out.cell (World.block_lt_of_cell? w _ hx493_2)).trans hx493_2
       replace hx493_3 := (HB.out.cell (World.block_lt_of_cell? w _ hx493_3)).trans hx493_3
       replace hx493_4 := (HB.out.cell (World.block_lt_of_cell? w _ hx493_4)).trans hx493_4
       have HR493_0 := am hi493_0
       have HC493_0 := am hl493_0
       clear hi493_0 hl493_0
       have HR493_4 := am hi493_4
       have HC493_4 := am hl493_4
       clear hi493_4 hl493_4
       replace p493 := eq_true p493
       replace q493 := eq_true q493
       try go_wp2_with (first | ((with_reducible refine gate_dst (N := 5) rfl ?_); refine bxe 5 #[.slice none 0 0, .int .i64 0, .int .i64 0, .string (⟨#[]⟩ : ByteArray), .slice none 0 0] 116 ?_; intro gb494 hg w31 hbox hb; have n_ := ak8 (Kd.R_below (kqR HO_3.out) hb) (blk_below (zb BK491.out) hb) (below_step (bq1 HB.out GE491.out) hb) hbox ((by rw [hg]; exact (below_size (bq1 HB.out GE491.out)) : w.heap.size ≤ gb494)) ((by rw [hg]; exact (below_size (bq1 HB.out GE491.out)) : w.heap.size ≤ gb494)) ((nlt hg (zb BK491.out) : gb491 ≠ gb494)) ((ngt hg (zb BK491.out) : gb494 ≠ gb491)); clear HO_3 BK491 HB; obtain ⟨HO_3, BK491, HB, BK494, GW494, GE494, NB491_494, NB494_491⟩ := n_; clear hb hbox hg; have hnb32 := NB494_491.out; have hnc32 := NB491_494.out; obtain ⟨hcz33_0, hcz33_1, hcz33_2, hcz33_3, hcz33_4, hfz33_0, hfz33_1, hfz33_2, hfz33_3, hfz33_4⟩ := cl5 BK494.out) | ((with_reducible refine gate_store (t := 116) (p := 5) rfl ?_); refine store_event (t := 116) (p := 5) (v := ?vo_w34) (w1 := (((((w31.setCell ⟨gb494, 0, none⟩ (.slice A493_0 ((rd_T116 l0_4 x18_1).f0).length c493_0)).setCell ⟨gb494, 1, none⟩ (.int .i64 ((rd_T116 l0_4 x18_1).f1.f0))).setCell ⟨gb494, 2, none⟩ (.int .i64 ((rd_T116 l0_4 x18_1).f1.f1))).setCell ⟨gb494, 3, none⟩ (.string ((rd_T116 l0_4 x18_1).f1.f2))).setCell ⟨gb494, 4, none⟩ (.slice A493_4 ((rd_T116 l0_4 x18_1).f1.f3).length c493_4))) ?hg ?ho ?hn ?hr ?_; (case ho => rfl); (case hg => rfl); (case hn => rfl); (case hr => exact gs); intro w34 hw; have n_ : Aside0 (Kd.R (Kd.int .u8) 5 w34 w.heap.size (fun _ => True) u3 x3_1) ∧ Aside0 (w34.heap[gb491]? = some (.cells #[.int .i64 a0_0, .int .i64 a0_1, .int .i64 a0_2, .int .i64 a0_3, .slice (some ad493) l0_4.length c0_4] 58 (0, 0))) ∧ Aside0 (w34.heap[gb494]? = some (.cells #[.slice A493_0 ((rd_T116 l0_4 x18_1).f0).length c493_0, .int .i64 ((rd_T116 l0_4 x18_1).f1.f0), .int .i64 ((rd_T116 l0_4 x18_1).f1.f1), .string ((rd_T116 l0_4 x18_1).f1.f2), .slice A493_4 ((rd_T116 l0_4 x18_1).f1.f3).length c493_4] 116 (0, 0))) ∧ Aside0 (Below w.heap.size w w34) := ⟨⟨(by rw [hw]; exact (by refine kr ?_; exact Kd.R_mono (rf5 gb494 (.slice A493_0 ((rd_T116 l0_4 x18_1).f0).length c493_0) (.int .i64 ((rd_T116 l0_4 x18_1).f1.f0)) (.int .i64 ((rd_T116 l0_4 x18_1).f1.f1)) (.string ((rd_T116 l0_4 x18_1).f1.f2)) (.slice A493_4 ((rd_T116 l0_4 x18_1).f1.f3).length c493_4) (Kd.R_types HO_3.out BK494.out (by decide)) (fun _ hk => hk.2)) (fun _ hk => trivial)))⟩, ⟨(by rw [hw]; exact (by refine zr ?_; refine blk_far ?_ NB491_494.out _; refine zr ?_; refine blk_far ?_ NB491_494.out _; refine zr ?_; refine blk_far ?_ NB491_494.out _; refine zr ?_; refine blk_far ?_ NB491_494.out _; refine zr ?_; refine blk_far ?_ NB491_494.out _; refine zr ?_; exact BK491.out))⟩, ⟨(by rw [hw]; exact (by refine zr ?_; exact bp5 (zb BK494.out)))⟩, ⟨(by rw [hw]; exact (bq2 HB.out GE491.out GE494.out))⟩⟩; clear hw HO_3 BK491 BK494 HB; obtain ⟨HO_3, BK491, BK494, HB⟩ := n_))
       have n_ := ak4 (Kd.R_drew HO_3.out) (blk_drew BK491.out) (blk_drew BK494.out) (below_drew1 HB.out)
       clear HO_3 BK491 BK494 HB
       obtain ⟨HO_3, BK491, BK494, HB⟩ := n_
       refine start_ (n := 13) (S := fun w' => w'.cell? ⟨gb494, 0, none⟩ = some (.slice A493_0 ((rd_T116 l0_4 x18_1).f0).length c493_0) ∧ w'.cell? ⟨gb494, 1, none⟩ = some (.int .i64 ((rd_T116 l0_4 x18_1).f1.f0)) ∧ w'.cell? ⟨gb494, 2, none⟩ = some (.int .i64 ((rd_T116 l0_4 x18_1).f1.f1)) ∧ w'.cell? ⟨gb494, 3, none⟩ = some (.string ((rd_T116 l0_4 x18_1).f1.f2)) ∧ w'.cell? ⟨gb494, 4, none⟩ = some (.slice A493_4 ((rd_T116 l0_4 x18_1).f1.f3).length c493_4)) (ds := []) #[false, false, false, false, false, false, false, false, false, false, false, false, false] (by kernel_rfl) rfl rfl ⟨(blk_cell BK494.out 0).trans rfl, (blk_cell BK494.out 1).trans rfl, (blk_cell BK494.out 2).trans rfl, (blk_cell BK494.out 3).trans rfl, (blk_cell BK494.out 4).trans rfl⟩ (fun hHeld => ?_); refine with_tabW impl_PutPdu.tab7 impl_PutPdu.bits7 (fun HT_ HW_ => ?_)
       generalize w34.drew = w35 at HO_3 BK491 BK494 HB hHeld ⊢
       refine pu 0 (some 23) #[true, false, false, false, false, false, false, false, false, false, false, false, false] rfl rfl (any_of HT_.out (by kernel_rfl)) (Or.inl ⟨by rfl, by intro w'; go_simp; with_reducible rfl⟩) ?_
       refine pu 4 (some 27) #[true, false, false, false, true, false, false, false, false, false, false, false, false] rfl rfl (any_of HT_.out (by kernel_rfl)) (Or.inl ⟨by rfl, by intro w'; go_simp; with_reducible rfl⟩) ?_
       refine tk 1 (some 24) #[true, true, false, false, true, false, false, false, false, false, false, false, false] rfl rfl (take_ofW HT_.out HW_.out (by kernel_rfl)) hHeld (Or.inl ⟨by rfl, by rintro w' ⟨s0, s1, s2, s3, s4⟩; go_simp; with_reducible rfl⟩) ?_
       refine tk 5 (some 28) #[true, true, false, false, true, true, false, false, false, false, false, false, false] rfl rfl (take_ofW HT_.out HW_.out (by kernel_rfl)) hHeld (Or.inl ⟨by rfl, by rintro w' ⟨s0, s1, s2, s3, s4⟩; go_simp; with_reducible rfl⟩) ?_
       refine one_ (i := 2) (N := some 25) #[true, true, true, false, true, true, false, false, false, false, false, false, false] rfl rfl (one_of HT_.out (by kernel_rfl)) (by decide) (fun K hK => ?_)
       refine goes_ Try.func70 (by kernel_rfl) rfl #[.slice A493_0 ((rd_T116 l0_4 x18_1).f0).length c493_0] (by rfl) rfl rfl ga ?_
       with_reducible refine (impl_PutOid.calls k1 _ _ ((rd_T116 l0_4 x18_1).f0) t495 _ ?side1 ?side2 A11.out).mono ?_
       (case side1 => exact cq (Kd.C_below HR493_0.out HB.out))
       (case side2 => exact HC493_0.out)
       rintro e w36 ⟨v496, rfl, ho0, hb⟩
       refine ⟨_, rfl, ?_⟩
       have n_ := ak5 (Kd.R_elder' (kqR HO_3.out) (Kd.R_base ho0) hb) (Kd.R_lower (Kd.R_new' ho0 (Kd.R_lt (kqR HO_3.out))) (below_size (bq2 HB.out GE491.out GE494.out))) (blk_below (zb BK491.out) hb) (blk_below (zb BK494.out) hb) (below_step (bq2 HB.out GE491.out GE494.out) hb)
       clear HO_3 BK491 BK494 HB
       obtain ⟨HO_3, HO497, BK491, BK494, HB⟩ := n_
       (try clear hb ho0)
       obtain ⟨Ao37, co37, eo37⟩ := Kd.R_slice HO497.out
       (first | subst eo37 | (injection eo37 with f1_ f2_ f3_; have f4_ := f1_.symm; have f5_ := f3_.symm; clear f1_ f2_ f3_; subst f4_; subst f5_))
       refine hK.out _ _ ⟨(blk_cell BK494.out 0).trans rfl, (blk_cell BK494.out 1).trans rfl, (blk_cell BK494.out 2).trans rfl, (blk_cell BK494.out 3).trans rfl, (blk_cell BK494.out 4).trans rfl⟩ (fun hHeld => ?_)
       clear hK K
       refine norm_ (a' := ?_) ?_ ?_
       rotate_left
       · show Act.put _ (some 25) _ = _
         simp only [Act.put, List.setIfInBounds_toArray, List.set_cons_zero, List.set_cons_succ, i64_w, i32_w]
         rfl
       refine one_ (i := 3) (N := some 26) #[true, true, true, true, true, true, false, false, false, false, false, false, false] rfl rfl (one_of HT_.out (by kernel_rfl)) (by decide) (fun K hK => ?_)
       refine goes_ Try.func71 (by kernel_rfl) rfl #[.slice none 0 0, .int .i64 6, .slice Ao37 t495.length co37] (by rfl) rfl rfl ga ?_
       refine (impl_PutTlv.calls k1 _ _ ([] : List Int) 6 _ _ t495 t498 _ ?side1 ?side2 ?side3 ?side4 A12.out).mono ?_
       (case side1 => exact Kd.C_nil _ _)
       (case side2 => exact Nat.le_refl _)
       (case side3 => repeat (first | exact (Kd.R_reads' HO497.out).2.2 | (with_reducible refine Kd.C_alloc ?_ _) | (with_reducible refine Kd.C_drewN ?_ _) | (with_reducible refine Kd.C_drew ?_)))
       (case side4 => exact (Kd.R_reads' HO497.out).2.1)
       rintro e w38 ⟨v499, rfl, ho0, hb⟩
       refine ⟨_, rfl, ?_⟩
       have n_ := ak6 (Kd.R_elder' (kqR HO_3.out) (Kd.R_base ho0) hb) (Kd.R_elder' (kqR HO497.out) (Kd.R_base ho0) hb) (Kd.R_lower (Kd.R_new' (Kd.R_new' ho0 (Kd.R_lt (kqR HO_3.out))) (Kd.R_lt (kqR HO497.out))) (below_size (bq2 HB.out GE491.out GE494.out))) (blk_below (zb BK491.out) hb) (blk_below (zb BK494.out) hb) (below_step (bq2 HB.out GE491.out GE494.out) hb)
       clear HO_3 HO497 BK491 BK494 HB
       obtain ⟨HO_3, HO497, HO500, BK491, BK494, HB⟩ := n_
       (try clear hb ho0)
       obtain ⟨Ao39, co39, eo39⟩ := Kd.R_slice HO500.out
       (first | subst eo39 | (injection eo39 with f1_ f2_ f3_; have f4_ := f1_.symm; have f5_ := f3_.symm; clear f1_ f2_ f3_; subst f4_; subst f5_))
       refine hK.out _ _ ⟨(blk_cell BK494.out 0).trans rfl, (blk_cell BK494.out 1).trans rfl, (blk_cell BK494.out 2).trans rfl, (blk_cell BK494.out 3).trans rfl, (blk_cell BK494.out 4).trans rfl⟩ (fun hHeld => ?_)
       clear hK K
       refine norm_ (a' := ?_) ?_ ?_
       rotate_left
       · show Act.put _ (some 26) _ = _
         simp only [Act.put, List.setIfInBounds_toArray, List.set_cons_zero, List.set_cons_succ, i64_w, i32_w]
         rfl
       refine one_ (i := 6) (N := some 29) #[true, true, true, true, true, true, true, false, false, false, false, false, false] rfl rfl (one_of HT_.out (by kernel_rfl)) (by decide) (fun K hK => ?_)
       refine goes_ Try.func17 (by kernel_rfl) rfl #[.slice Ao39 t498.length co39, .agg #[.int .i64 ((rd_T116 l0_4 x18_1).f1.f0), .int .i64 ((rd_T116 l0_4 x18_1).f1.f1), .string ((rd_T116 l0_4 x18_1).f1.f2), .slice A493_4 ((rd_T116 l0_4 x18_1).f1.f3).length c493_4]] (by rfl) rfl rfl ga ?_
       with_reducible refine (impl_PutVal.calls k1 _ _ t498 ((rd_T116 l0_4 x18_1).f1.f0) ((rd_T116 l0_4 x18_1).f1.f1) ((rd_T116 l0_4 x18_1).f1.f2) _ _ ((rd_T116 l0_4 x18_1).f1.f3) t501 _ ?side1 ?side2 ?side3 ?side4 A13.out).mono ?_
       (case side1 => repeat (first | exact (Kd.R_reads' HO500.out).2.2 | (with_reducible refine Kd.C_alloc ?_ _) | (with_reducible refine Kd.C_drewN ?_ _) | (with_reducible refine Kd.C_drew ?_)))
       (case side2 => exact (Kd.R_reads' HO500.out).2.1)
       (case side3 => exact cq (Kd.C_below HR493_4.out HB.out))
       (case side4 => exact HC493_4.out)
       rintro e w40 ⟨v502, rfl, ho0, hb⟩
       refine ⟨_, rfl, ?_⟩
       have n_ := ak7 (Kd.R_elder' (kqR HO_3.out) (Kd.R_base ho0) hb) (Kd.R_elder' (kqR HO497.out) (Kd.R_base ho0) hb) (Kd.R_elder' (kqR HO500.out) (Kd.R_base ho0) hb) (Kd.R_lower (Kd.R_new' (Kd.R_new' (Kd.R_new' ho0 (Kd.R_lt (kqR HO_3.out))) (Kd.R_lt (kqR HO497.out))) (Kd.R_lt (kqR HO500.out))) (below_size (bq2 HB.out GE491.out GE494.out))) (blk_below (zb BK491.out) hb) (blk_below (zb BK494.out) hb) (below_step (bq2 HB.out GE491.out GE494.out) hb)
       clear HO_3 HO497 HO500 BK491 BK494 HB
       obtain ⟨HO_3, HO497, HO500, HO503, BK491, BK494, HB⟩ := n_
       (try clear hb ho0)
       obtain ⟨Ao41, co41, eo41⟩ := Kd.R_slice HO503.out
       (first | subst eo41 | (injection eo41 with f1_ f2_ f3_; have f4_ := f1_.symm; have f5_ := f3_.symm; clear f1_ f2_ f3_; subst f4_; subst f5_))
       refine hK.out _ _ ⟨(blk_cell BK494.out 0).trans rfl, (blk_cell BK494.out 1).trans rfl, (blk_cell BK494.out 2).trans rfl, (blk_cell BK494.out 3).trans rfl, (blk_cell BK494.out 4).trans rfl⟩ (fun hHeld => ?_)
       clear hK K
       refine norm_ (a' := ?_) ?_ ?_
       rotate_left
       · show Act.put _ (some 29) _ = _
         simp only [Act.put, List.setIfInBounds_toArray, List.set_cons_zero, List.set_cons_succ, i64_w, i32_w]
         rfl
       refine one_ (i := 7) (N := some 30) #[true, true, true, true, true, true, true, true, false, false, false, false, false] rfl rfl (one_of HT_.out (by kernel_rfl)) (by decide) (fun K hK => ?_)
       refine goes_ Try.func100 (by kernel_rfl) rfl #[.int .i64 48, .slice Ao41 t501.length co41] (by rfl) rfl rfl ga ?_
       with_reducible refine (impl_tlv.calls k1 48 _ _ t501 t504 false _ ?side1 ?side2 A14.out).mono ?_
       (case side1 => repeat (first | exact (Kd.R_reads' HO503.out).2.2 | (with_reducible refine Kd.C_alloc ?_ _) | (with_reducible refine Kd.C_drewN ?_ _) | (with_reducible refine Kd.C_drew ?_)))
       (case side2 => exact (Kd.R_reads' HO503.out).2.1)
       rintro e w42 ⟨v506, rfl, ho0, hb⟩
       refine ⟨_, rfl, ?_⟩
       have n_ := ak8 (Kd.R_elder' (kqR HO_3.out) (Kd.R_base ho0) hb) (Kd.R_elder' (kqR HO497.out) (Kd.R_base ho0) hb) (Kd.R_elder' (kqR HO500.out) (Kd.R_base ho0) hb) (Kd.R_elder' (kqR HO503.out) (Kd.R_base ho0) hb) (Kd.R_lower (Kd.R_new' (Kd.R_new' (Kd.R_new' (Kd.R_new' ho0 (Kd.R_lt (kqR HO_3.out))) (Kd.R_lt (kqR HO497.out))) (Kd.R_lt (kqR HO500.out))) (Kd.R_lt (kqR HO503.out))) (below_size (bq2 HB.out GE491.out GE494.out))) (blk_below (zb BK491.out) hb) (blk_below (zb BK494.out) hb) (below_step (bq2 HB.out GE491.out GE494.out) hb)
       clear HO_3 HO497 HO500 HO503 BK491 BK494 HB
       obtain ⟨HO_3, HO497, HO500, HO503, HO507, BK491, BK494, HB⟩ := n_
       (try clear hb ho0)
       refine hK.out _ _ ⟨(blk_cell BK494.out 0).trans rfl, (blk_cell BK494.out 1).trans rfl, (blk_cell BK494.out 2).trans rfl, (blk_cell BK494.out 3).trans rfl, (blk_cell BK494.out 4).trans rfl⟩ (fun hHeld => ?_)
       clear hK K
       refine norm_ (a' := ?_) ?_ ?_
       rotate_left
       · show Act.put _ (some 30) _ = _
         simp only [Act.put, List.setIfInBounds_toArray, List.set_cons_zero, List.set_cons_succ, i64_w, i32_w]
         rfl
       refine pu 8 (some 22) #[true, true, true, true, true, true, true, true, true, false, false, false, false] rfl rfl (any_of HT_.out (by kernel_rfl)) (Or.inl ⟨by rfl, by intro w'; go_simp; with_reducible rfl⟩) ?_
       refine pu 9 (some 31) #[true, true, true, true, true, true, true, true, true, true, false, false, false] rfl rfl (any_of HT_.out (by kernel_rfl)) (Or.inl ⟨by rfl, by intro w'; go_simp; with_reducible rfl⟩) ?_
       refine pu 10 (some 32) #[true, true, true, true, true, true, true, true, true, true, true, false, false] rfl rfl (any_of HT_.out (by kernel_rfl)) (Or.inl ⟨by rfl, by intro w'; go_simp; with_reducible rfl⟩) ?_
       refine pu 11 (some 6) #[true, true, true, true, true, true, true, true, true, true, true, true, false] rfl rfl (any_of HT_.out (by kernel_rfl)) (Or.inl ⟨by rfl, by intro w'; go_simp; with_reducible rfl⟩) ?_
       refine pu 12 (some 7) #[true, true, true, true, true, true, true, true, true, true, true, true, true] rfl rfl (any_of HT_.out (by kernel_rfl)) (Or.inl ⟨by rfl, by intro w'; go_simp; with_reducible rfl⟩) ?_
       refine done_ (done_of HT_.out (by kernel_rfl)) ?_
       try go_wp2
       go_ret
       exact ⟨_, rq, rn, bq2 HB.out GE491.out GE494.out⟩
     subst c15
     replace H : (if x3_1.length + t504.length < 140737488355328 then (impl_PutPdu.l0 k1 (x3_1 ++ t504) l0_4 (l0_4.length : Int) (wrap64 (x18_1 + 1)) a0_0 a0_1 a0_2 a0_3 l0_4) else (none)) = some r := by rw [if_pos rfl] at H; exact H
     by_cases c16 : x3_1.length + t504.length < 140737488355328
     rotate_left
     · rw [if_neg c16] at H
       exact absurd H (by simp)
     rw [if_pos c16] at H
     have LMc16 := am c16
     clear c16
     obtain ⟨y508, hy508⟩ : ∃ y_ : List Int, y_ = (x3_1 ++ t504) := ⟨_, rfl⟩
     replace H : (impl_PutPdu.l0 k1 y508 l0_4 (l0_4.length : Int) (wrap64 (x18_1 + 1)) a0_0 a0_1 a0_2 a0_3 l0_4) = some r := hx H hy508
     have Ny508 := am hy508
     clear hy508
     have H' := am H
     clear H
     have p493 : 0 ≤ (x18_1 : Int) := oda
     have q493 : x18_1 < (l0_4.length : Int) := oda
     obtain ⟨ad493, A493_0, c493_0, A493_4, c493_4, e493, hx493_0, hx493_1, hx493_2, hx493_3, hx493_4, hl493_0, hi493_0, hl493_4, hi493_4⟩ := at_T116 HR0_4.out x18_1 p493 q493
     cases e493
     replace hx493_0 := (HB.out.cell (World.block_lt_of_cell? w _ hx493_0)).trans hx493_0
     replace hx493_1 := (HB.out.cell (World.block_lt_of_cell? w _ hx493_1)).trans hx493_1
     replace hx493_2 := (HB.out.cell (World.block_lt_of_cell? w _ hx493_2)).trans hx493_2
     replace hx493_3 := (HB.out.cell (World.block_lt_of_cell? w _ hx493_3)).trans hx493_3
     replace hx493_4 := (HB.out.cell (World.block_lt_of_cell? w _ hx493_4)).trans hx493_4
     have HR493_0 := am hi493_0
     have HC493_0 := am hl493_0
     clear hi493_0 hl493_0
     have HR493_4 := am hi493_4
     have HC493_4 := am hl493_4
     clear hi493_4 hl493_4
     replace p493 := eq_true p493
     replace q493 := eq_true q493
     try go_wp2_with (first | ((with_reducible refine gate_dst (N := 5) rfl ?_); refine bxe 5 #[.slice none 0 0, .int .i64 0, .int .i64 0, .string (⟨#[]⟩ : ByteArray), .slice none 0 0] 116 ?_; intro gb494 hg w17 hbox hb; have n_ := ak8 (Kd.R_below (kqR HO_3.out) hb) (blk_below (zb BK491.out) hb) (below_step (bq1 HB.out GE491.out) hb) hbox ((by rw [hg]; exact (below_size (bq1 HB.out GE491.out)) : w.heap.size ≤ gb494)) ((by rw [hg]; exact (below_size (bq1 HB.out GE491.out)) : w.heap.size ≤ gb494)) ((nlt hg (zb BK491.out) : gb491 ≠ gb494)) ((ngt hg (zb BK491.out) : gb494 ≠ gb491)); clear HO_3 BK491 HB; obtain ⟨HO_3, BK491, HB, BK494, GW494, GE494, NB491_494, NB494_491⟩ := n_; clear hb hbox hg; have hnb18 := NB494_491.out; have hnc18 := NB491_494.out; obtain ⟨hcz19_0, hcz19_1, hcz19_2, hcz19_3, hcz19_4, hfz19_0, hfz19_1, hfz19_2, hfz19_3, hfz19_4⟩ := cl5 BK494.out) | ((with_reducible refine gate_store (t := 116) (p := 5) rfl ?_); refine store_event (t := 116) (p := 5) (v := ?vo_w20) (w1 := (((((w17.setCell ⟨gb494, 0, none⟩ (.slice A493_0 ((rd_T116 l0_4 x18_1).f0).length c493_0)).setCell ⟨gb494, 1, none⟩ (.int .i64 ((rd_T116 l0_4 x18_1).f1.f0))).setCell ⟨gb494, 2, none⟩ (.int .i64 ((rd_T116 l0_4 x18_1).f1.f1))).setCell ⟨gb494, 3, none⟩ (.string ((rd_T116 l0_4 x18_1).f1.f2))).setCell ⟨gb494, 4, none⟩ (.slice A493_4 ((rd_T116 l0_4 x18_1).f1.f3).length c493_4))) ?hg ?ho ?hn ?hr ?_; (case ho => rfl); (case hg => rfl); (case hn => rfl); (case hr => exact gs); intro w20 hw; have n_ : Aside0 (Kd.R (Kd.int .u8) 5 w20 w.heap.size (fun _ => True) u3 x3_1) ∧ Aside0 (w20.heap[gb491]? = some (.cells #[.int .i64 a0_0, .int .i64 a0_1, .int .i64 a0_2, .int .i64 a0_3, .slice (some ad493) l0_4.length c0_4] 58 (0, 0))) ∧ Aside0 (w20.heap[gb494]? = some (.cells #[.slice A493_0 ((rd_T116 l0_4 x18_1).f0).length c493_0, .int .i64 ((rd_T116 l0_4 x18_1).f1.f0), .int .i64 ((rd_T116 l0_4 x18_1).f1.f1), .string ((rd_T116 l0_4 x18_1).f1.f2), .slice A493_4 ((rd_T116 l0_4 x18_1).f1.f3).length c493_4] 116 (0, 0))) ∧ Aside0 (Below w.heap.size w w20) := ⟨⟨(by rw [hw]; exact (by refine kr ?_; exact Kd.R_mono (rf5 gb494 (.slice A493_0 ((rd_T116 l0_4 x18_1).f0).length c493_0) (.int .i64 ((rd_T116 l0_4 x18_1).f1.f0)) (.int .i64 ((rd_T116 l0_4 x18_1).f1.f1)) (.string ((rd_T116 l0_4 x18_1).f1.f2)) (.slice A493_4 ((rd_T116 l0_4 x18_1).f1.f3).length c493_4) (Kd.R_types HO_3.out BK494.out (by decide)) (fun _ hk => hk.2)) (fun _ hk => trivial)))⟩, ⟨(by rw [hw]; exact (by refine zr ?_; refine blk_far ?_ NB491_494.out _; refine zr ?_; refine blk_far ?_ NB491_494.out _; refine zr ?_; refine blk_far ?_ NB491_494.out _; refine zr ?_; refine blk_far ?_ NB491_494.out _; refine zr ?_; refine blk_far ?_ NB491_494.out _; refine zr ?_; exact BK491.out))⟩, ⟨(by rw [hw]; exact (by refine zr ?_; exact bp5 (zb BK494.out)))⟩, ⟨(by rw [hw]; exact (bq2 HB.out GE491.out GE494.out))⟩⟩; clear hw HO_3 BK491 BK494 HB; obtain ⟨HO_3, BK491, BK494, HB⟩ := n_))
     have n_ := ak4 (Kd.R_drew HO_3.out) (blk_drew BK491.out) (blk_drew BK494.out) (below_drew1 HB.out)
     clear HO_3 BK491 BK494 HB
     obtain ⟨HO_3, BK491, BK494, HB⟩ := n_
     refine start_ (n := 13) (S := fun w' => w'.cell? ⟨gb494, 0, none⟩ = some (.slice A493_0 ((rd_T116 l0_4 x18_1).f0).length c493_0) ∧ w'.cell? ⟨gb494, 1, none⟩ = some (.int .i64 ((rd_T116 l0_4 x18_1).f1.f0)) ∧ w'.cell? ⟨gb494, 2, none⟩ = some (.int .i64 ((rd_T116 l0_4 x18_1).f1.f1)) ∧ w'.cell? ⟨gb494, 3, none⟩ = some (.string ((rd_T116 l0_4 x18_1).f1.f2)) ∧ w'.cell? ⟨gb494, 4, none⟩ = some (.slice A493_4 ((rd_T116 l0_4 x18_1).f1.f3).length c493_4)) (ds := []) #[false, false, false, false, false, false, false, false, false, false, false, false, false] (by kernel_rfl) rfl rfl ⟨(blk_cell BK494.out 0).trans rfl, (blk_cell BK494.out 1).trans rfl, (blk_cell BK494.out 2).trans rfl, (blk_cell BK494.out 3).trans rfl, (blk_cell BK494.out 4).trans rfl⟩ (fun hHeld => ?_); refine with_tabW impl_PutPdu.tab7 impl_PutPdu.bits7 (fun HT_ HW_ => ?_)
     generalize w20.drew = w21 at HO_3 BK491 BK494 HB hHeld ⊢
     refine pu 0 (some 23) #[true, false, false, false, false, false, false, false, false, false, false, false, false] rfl rfl (any_of HT_.out (by kernel_rfl)) (Or.inl ⟨by rfl, by intro w'; go_simp; with_reducible rfl⟩) ?_
     refine pu 4 (some 27) #[true, false, false, false, true, false, false, false, false, false, false, false, false] rfl rfl (any_of HT_.out (by kernel_rfl)) (Or.inl ⟨by rfl, by intro w'; go_simp; with_reducible rfl⟩) ?_
     refine tk 1 (some 24) #[true, true, false, false, true, false, false, false, false, false, false, false, false] rfl rfl (take_ofW HT_.out HW_.out (by kernel_rfl)) hHeld (Or.inl ⟨by rfl, by rintro w' ⟨s0, s1, s2, s3, s4⟩; go_simp; with_reducible rfl⟩) ?_
     refine tk 5 (some 28) #[true, true, false, false, true, true, false, false, false, false, false, false, false] rfl rfl (take_ofW HT_.out HW_.out (by kernel_rfl)) hHeld (Or.inl ⟨by rfl, by rintro w' ⟨s0, s1, s2, s3, s4⟩; go_simp; with_reducible rfl⟩) ?_
     refine one_ (i := 2) (N := some 25) #[true, true, true, false, true, true, false, false, false, false, false, false, false] rfl rfl (one_of HT_.out (by kernel_rfl)) (by decide) (fun K hK => ?_)
     refine goes_ Try.func70 (by kernel_rfl) rfl #[.slice A493_0 ((rd_T116 l0_4 x18_1).f0).length c493_0] (by rfl) rfl rfl ga ?_
     with_reducible refine (impl_PutOid.calls k1 _ _ ((rd_T116 l0_4 x18_1).f0) t495 _ ?side1 ?side2 A11.out).mono ?_
     (case side1 => exact cq (Kd.C_below HR493_0.out HB.out))
     (case side2 => exact HC493_0.out)
     rintro e w22 ⟨v496, rfl, ho0, hb⟩
     refine ⟨_, rfl, ?_⟩
     have n_ := ak5 (Kd.R_elder' (kqR HO_3.out) (Kd.R_base ho0) hb) (Kd.R_lower (Kd.R_new' ho0 (Kd.R_lt (kqR HO_3.out))) (below_size (bq2 HB.out GE491.out GE494.out))) (blk_below (zb BK491.out) hb) (blk_below (zb BK494.out) hb) (below_step (bq2 HB.out GE491.out GE494.out) hb)
     clear HO_3 BK491 BK494 HB
     obtain ⟨HO_3, HO497, BK491, BK494, HB⟩ := n_
     (try clear hb ho0)
     obtain ⟨Ao23, co23, eo23⟩ := Kd.R_slice HO497.out
     (first | subst eo23 | (injection eo23 with f1_ f2_ f3_; have f4_ := f1_.symm; have f5_ := f3_.symm; clear f1_ f2_ f3_; subst f4_; subst f5_))
     refine hK.out _ _ ⟨(blk_cell BK494.out 0).trans rfl, (blk_cell BK494.out 1).trans rfl, (blk_cell BK494.out 2).trans rfl, (blk_cell BK494.out 3).trans rfl, (blk_cell BK494.out 4).trans rfl⟩ (fun hHeld => ?_)
     clear hK K
     refine norm_ (a' := ?_) ?_ ?_
     rotate_left
     · show Act.put _ (some 25) _ = _
       simp only [Act.put, List.setIfInBounds_toArray, List.set_cons_zero, List.set_cons_succ, i64_w, i32_w]
       rfl
     refine one_ (i := 3) (N := some 26) #[true, true, true, true, true, true, false, false, false, false, false, false, false] rfl rfl (one_of HT_.out (by kernel_rfl)) (by decide) (fun K hK => ?_)
     refine goes_ Try.func71 (by kernel_rfl) rfl #[.slice none 0 0, .int .i64 6, .slice Ao23 t495.length co23] (by rfl) rfl rfl ga ?_
     refine (impl_PutTlv.calls k1 _ _ ([] : List Int) 6 _ _ t495 t498 _ ?side1 ?side2 ?side3 ?side4 A12.out).mono ?_
     (case side1 => exact Kd.C_nil _ _)
     (case side2 => exact Nat.le_refl _)
     (case side3 => repeat (first | exact (Kd.R_reads' HO497.out).2.2 | (with_reducible refine Kd.C_alloc ?_ _) | (with_reducible refine Kd.C_drewN ?_ _) | (with_reducible refine Kd.C_drew ?_)))
     (case side4 => exact (Kd.R_reads' HO497.out).2.1)
     rintro e w24 ⟨v499, rfl, ho0, hb⟩
     refine ⟨_, rfl, ?_⟩
     have n_ := ak6 (Kd.R_elder' (kqR HO_3.out) (Kd.R_base ho0) hb) (Kd.R_elder' (kqR HO497.out) (Kd.R_base ho0) hb) (Kd.R_lower (Kd.R_new' (Kd.R_new' ho0 (Kd.R_lt (kqR HO_3.out))) (Kd.R_lt (kqR HO497.out))) (below_size (bq2 HB.out GE491.out GE494.out))) (blk_below (zb BK491.out) hb) (blk_below (zb BK494.out) hb) (below_step (bq2 HB.out GE491.out GE494.out) hb)
     clear HO_3 HO497 BK491 BK494 HB
     obtain ⟨HO_3, HO497, HO500, BK491, BK494, HB⟩ := n_
     (try clear hb ho0)
     obtain ⟨Ao25, co25, eo25⟩ := Kd.R_slice HO500.out
     (first | subst eo25 | (injection eo25 with f1_ f2_ f3_; have f4_ := f1_.symm; have f5_ := f3_.symm; clear f1_ f2_ f3_; subst f4_; subst f5_))
     refine hK.out _ _ ⟨(blk_cell BK494.out 0).trans rfl, (blk_cell BK494.out 1).trans rfl, (blk_cell BK494.out 2).trans rfl, (blk_cell BK494.out 3).trans rfl, (blk_cell BK494.out 4).trans rfl⟩ (fun hHeld => ?_)
     clear hK K
     refine norm_ (a' := ?_) ?_ ?_
     rotate_left
     · show Act.put _ (some 26) _ = _
       simp only [Act.put, List.setIfInBounds_toArray, List.set_cons_zero, List.set_cons_succ, i64_w, i32_w]
       rfl
     refine one_ (i := 6) (N := some 29) #[true, true, true, true, true, true, true, false, false, false, false, false, false] rfl rfl (one_of HT_.out (by kernel_rfl)) (by decide) (fun K hK => ?_)
     refine goes_ Try.func17 (by kernel_rfl) rfl #[.slice Ao25 t498.length co25, .agg #[.int .i64 ((rd_T116 l0_4 x18_1).f1.f0), .int .i64 ((rd_T116 l0_4 x18_1).f1.f1), .string ((rd_T116 l0_4 x18_1).f1.f2), .slice A493_4 ((rd_T116 l0_4 x18_1).f1.f3).length c493_4]] (by rfl) rfl rfl ga ?_
     with_reducible refine (impl_PutVal.calls k1 _ _ t498 ((rd_T116 l0_4 x18_1).f1.f0) ((rd_T116 l0_4 x18_1).f1.f1) ((rd_T116 l0_4 x18_1).f1.f2) _ _ ((rd_T116 l0_4 x18_1).f1.f3) t501 _ ?side1 ?side2 ?side3 ?side4 A13.out).mono ?_
     (case side1 => repeat (first | exact (Kd.R_reads' HO500.out).2.2 | (with_reducible refine Kd.C_alloc ?_ _) | (with_reducible refine Kd.C_drewN ?_ _) | (with_reducible refine Kd.C_drew ?_)))
     (case side2 => exact (Kd.R_reads' HO500.out).2.1)
     (case side3 => exact cq (Kd.C_below HR493_4.out HB.out))
     (case side4 => exact HC493_4.out)
     rintro e w26 ⟨v502, rfl, ho0, hb⟩
     refine ⟨_, rfl, ?_⟩
     have n_ := ak7 (Kd.R_elder' (kqR HO_3.out) (Kd.R_base ho0) hb) (Kd.R_elder' (kqR HO497.out) (Kd.R_base ho0) hb) (Kd.R_elder' (kqR HO500.out) (Kd.R_base ho0) hb) (Kd.R_lower (Kd.R_new' (Kd.R_new' (Kd.R_new' ho0 (Kd.R_lt (kqR HO_3.out))) (Kd.R_lt (kqR HO497.out))) (Kd.R_lt (kqR HO500.out))) (below_size (bq2 HB.out GE491.out GE494.out))) (blk_below (zb BK491.out) hb) (blk_below (zb BK494.out) hb) (below_step (bq2 HB.out GE491.out GE494.out) hb)
     clear HO_3 HO497 HO500 BK491 BK494 HB
     obtain ⟨HO_3, HO497, HO500, HO503, BK491, BK494, HB⟩ := n_
     (try clear hb ho0)
     obtain ⟨Ao27, co27, eo27⟩ := Kd.R_slice HO503.out
     (first | subst eo27 | (injection eo27 with f1_ f2_ f3_; have f4_ := f1_.symm; have f5_ := f3_.symm; clear f1_ f2_ f3_; subst f4_; subst f5_))
     refine hK.out _ _ ⟨(blk_cell BK494.out 0).trans rfl, (blk_cell BK494.out 1).trans rfl, (blk_cell BK494.out 2).trans rfl, (blk_cell BK494.out 3).trans rfl, (blk_cell BK494.out 4).trans rfl⟩ (fun hHeld => ?_)
     clear hK K
     refine norm_ (a' := ?_) ?_ ?_
     rotate_left
     · show Act.put _ (some 29) _ = _
       simp only [Act.put, List.setIfInBounds_toArray, List.set_cons_zero, List.set_cons_succ, i64_w, i32_w]
       rfl
     refine one_ (i := 7) (N := some 30) #[true, true, true, true, true, true, true, true, false, false, false, false, false] rfl rfl (one_of HT_.out (by kernel_rfl)) (by decide) (fun K hK => ?_)
     refine goes_ Try.func100 (by kernel_rfl) rfl #[.int .i64 48, .slice Ao27 t501.length co27] (by rfl) rfl rfl ga ?_
     with_reducible refine (impl_tlv.calls k1 48 _ _ t501 t504 true _ ?side1 ?side2 A14.out).mono ?_
     (case side1 => repeat (first | exact (Kd.R_reads' HO503.out).2.2 | (with_reducible refine Kd.C_alloc ?_ _) | (with_reducible refine Kd.C_drewN ?_ _) | (with_reducible refine Kd.C_drew ?_)))
     (case side2 => exact (Kd.R_reads' HO503.out).2.1)
     rintro e w28 ⟨v506, rfl, ho0, hb⟩
     refine ⟨_, rfl, ?_⟩
     have n_ := ak8 (Kd.R_elder' (kqR HO_3.out) (Kd.R_base ho0) hb) (Kd.R_elder' (kqR HO497.out) (Kd.R_base ho0) hb) (Kd.R_elder' (kqR HO500.out) (Kd.R_base ho0) hb) (Kd.R_elder' (kqR HO503.out) (Kd.R_base ho0) hb) (Kd.R_lower (Kd.R_new' (Kd.R_new' (Kd.R_new' (Kd.R_new' ho0 (Kd.R_lt (kqR HO_3.out))) (Kd.R_lt (kqR HO497.out))) (Kd.R_lt (kqR HO500.out))) (Kd.R_lt (kqR HO503.out))) (below_size (bq2 HB.out GE491.out GE494.out))) (blk_below (zb BK491.out) hb) (blk_below (zb BK494.out) hb) (below_step (bq2 HB.out GE491.out GE494.out) hb)
     clear HO_3 HO497 HO500 HO503 BK491 BK494 HB
     obtain ⟨HO_3, HO497, HO500, HO503, HO507, BK491, BK494, HB⟩ := n_
     (try clear hb ho0)
     refine hK.out _ _ ⟨(blk_cell BK494.out 0).trans rfl, (blk_cell BK494.out 1).trans rfl, (blk_cell BK494.out 2).trans rfl, (blk_cell BK494.out 3).trans rfl, (blk_cell BK494.out 4).trans rfl⟩ (fun hHeld => ?_)
     clear hK K
     refine norm_ (a' := ?_) ?_ ?_
     rotate_left
     · show Act.put _ (some 30) _ = _
       simp only [Act.put, List.setIfInBounds_toArray, List.set_cons_zero, List.set_cons_succ, i64_w, i32_w]
       rfl
     refine pu 8 (some 22) #[true, true, true, true, true, true, true, true, true, false, false, false, false] rfl rfl (any_of HT_.out (by kernel_rfl)) (Or.inl ⟨by rfl, by intro w'; go_simp; with_reducible rfl⟩) ?_
     refine pu 9 (some 31) #[true, true, true, true, true, true, true, true, true, true, false, false, false] rfl rfl (any_of HT_.out (by kernel_rfl)) (Or.inl ⟨by rfl, by intro w'; go_simp; with_reducible rfl⟩) ?_
     refine pu 10 (some 32) #[true, true, true, true, true, true, true, true, true, true, true, false, false] rfl rfl (any_of HT_.out (by kernel_rfl)) (Or.inl ⟨by rfl, by intro w'; go_simp; with_reducible rfl⟩) ?_
     refine pu 11 (some 6) #[true, true, true, true, true, true, true, true, true, true, true, true, false] rfl rfl (any_of HT_.out (by kernel_rfl)) (Or.inl ⟨by rfl, by intro w'; go_simp; with_reducible rfl⟩) ?_
     refine pu 12 (some 7) #[true, true, true, true, true, true, true, true, true, true, true, true, true] rfl rfl (any_of HT_.out (by kernel_rfl)) (Or.inl ⟨by rfl, by intro w'; go_simp; with_reducible rfl⟩) ?_
     refine done_ (done_of HT_.out (by kernel_rfl)) ?_
     obtain ⟨Ao30, co30, eo30⟩ := Kd.R_slice HO507.out
     subst eo30
     try go_wp2_with (first | ((with_reducible refine gate_builtin (b := .append) (xs := #[.tmp 35, .tmp 36]) rfl ?_); at_builtin; refine Kd.R_append_rows (Kd.int .u8) (w0 := w) w.heap.size rfl (.tmp 35) (.tmp 36) 22 5 (.int .u8 0) 1 rfl Try.underlying22 info5 rfl (by decide) (by omega) u3 x3_1 t504 _ _ _ (fun k_ => some k_ ≠ (.slice Ao23 t495.length co23 : Value).ownBlock ∧ some k_ ≠ (.slice Ao25 t498.length co25 : Value).ownBlock ∧ some k_ ≠ (.slice Ao27 t501.length co27 : Value).ownBlock ∧ some k_ ≠ (.slice Ao30 t504.length co30 : Value).ownBlock) (fun _ => False) rfl rfl ?aO ?aR (fun _ _ h => h) (fun _ h => h.elim) ?aF ?aB ?aS ?aL ?_; (case aR => repeat (first | exact (Kd.R_reads' HO507.out).2.2 | (with_reducible refine Kd.C_alloc ?_ _) | (with_reducible refine Kd.C_drewN ?_ _) | (with_reducible refine Kd.C_drew ?_))); (case aB => exact (bq2 HB.out GE491.out GE494.out)); (case aF => exact (fun k_ hk => ⟨Kd.fresh' (Kd.R_lt (kqR HO497.out)) k_ hk, Kd.fresh' (Kd.R_lt (kqR HO500.out)) k_ hk, Kd.fresh' (Kd.R_lt (kqR HO503.out)) k_ hk, Kd.fresh' (Kd.R_lt (kqR HO507.out)) k_ hk⟩)); (case aO => exact (by refine kr ?_; exact Kd.R_mono HO_3.out (fun _ hk => ⟨hk.1.1.1.2, ⟨hk.1.1.2, ⟨hk.1.2, hk.2⟩⟩⟩))); (case aS => exact (below_size (bq2 HB.out GE491.out GE494.out))); (case aL => have := LMc16.out; omega); intro v509 w29 ho hb hg hat; rw [← Ny508.out] at ho; have n_ := ak8 (blk_grown (g := gb491) (o := .cells #[.int .i64 a0_0, .int .i64 a0_1, .int .i64 a0_2, .int .i64 a0_3, .slice (some ad493) l0_4.length c0_4] 58 (0, 0)) (zq BK491.out) hg (Kd.R_ne HO_3.out BK491.out (by decide))) (blk_grown (g := gb494) (o := .cells #[.slice A493_0 ((rd_T116 l0_4 x18_1).f0).length c493_0, .int .i64 ((rd_T116 l0_4 x18_1).f1.f0), .int .i64 ((rd_T116 l0_4 x18_1).f1.f1), .string ((rd_T116 l0_4 x18_1).f1.f2), .slice A493_4 ((rd_T116 l0_4 x18_1).f1.f3).length c493_4] 116 (0, 0)) (zq BK494.out) hg (Kd.R_ne HO_3.out BK494.out (by decide))) (Kd.R_after (ok := (fun k_ => some k_ ≠ (.slice Ao25 t498.length co25 : Value).ownBlock ∧ some k_ ≠ (.slice Ao27 t501.length co27 : Value).ownBlock ∧ some k_ ≠ (.slice Ao30 t504.length co30 : Value).ownBlock)) (by refine kr ?_; exact Kd.R_mono HO497.out (fun _ hk => ⟨⟨hk.1.1.2, ⟨hk.1.2, hk.2⟩⟩, hk.1.1.1.2⟩)) hg hat) (Kd.R_after (ok := (fun k_ => some k_ ≠ (.slice Ao23 t495.length co23 : Value).ownBlock ∧ some k_ ≠ (.slice Ao27 t501.length co27 : Value).ownBlock ∧ some k_ ≠ (.slice Ao30 t504.length co30 : Value).ownBlock)) (by refine kr ?_; exact Kd.R_mono HO500.out (fun _ hk => ⟨⟨hk.1.1.2, ⟨hk.1.2, hk.2⟩⟩, hk.1.1.1.2⟩)) hg hat) (Kd.R_after (ok := (fun k_ => some k_ ≠ (.slice Ao23 t495.length co23 : Value).ownBlock ∧ some k_ ≠ (.slice Ao25 t498.length co25 : Value).ownBlock ∧ some k_ ≠ (.slice Ao30 t504.length co30 : Value).ownBlock)) (by refine kr ?_; exact Kd.R_mono HO503.out (fun _ hk => ⟨⟨hk.1.1.2, ⟨hk.1.2, hk.2⟩⟩, hk.1.1.1.2⟩)) hg hat) (Kd.R_after (ok := (fun k_ => some k_ ≠ (.slice Ao23 t495.length co23 : Value).ownBlock ∧ some k_ ≠ (.slice Ao25 t498.length co25 : Value).ownBlock ∧ some k_ ≠ (.slice Ao27 t501.length co27 : Value).ownBlock)) (by refine kr ?_; exact Kd.R_mono HO507.out (fun _ hk => ⟨⟨hk.1.1.2, ⟨hk.1.2, hk.2⟩⟩, hk.1.1.1.2⟩)) hg hat) hb ho; clear BK491 BK494 HO497 HO500 HO503 HO507 HB HO_3; obtain ⟨BK491, BK494, HO497, HO500, HO503, HO507, HB, HO510⟩ := n_; clear ho hb hg hat))
     go_roundg k1
     case measure => have := HK1.out; omega
     case rel => exact ⟨(y508), (wrap64 (x18_1 + 1)), sq, H', ⟨by have := HK1.out; omega⟩, ⟨by refine kr ?_; exact Kd.R_mono HO510.out (fun _ hk => trivial)⟩, ⟨zq BK491.out⟩, ⟨bq2 HB.out GE491.out GE494.out⟩⟩
   rw [if_neg c8] at H
   have c8b0 : decide (x18_1 < (l0_4.length : Int)) = false := decide_eq_false c8
   clear c8
   replace H := Option.bind_eq_some_iff.mp H
   obtain ⟨⟨t511, t512⟩, A430, H⟩ := H
   replace H : (if t512 = true then ((impl_addNum.f k1 ([] : List Int) 2 a0_1).bind fun t515 => ((impl_addNum.f k1 t515 2 a0_2).bind fun t518 => ((impl_addNum.f k1 t518 2 a0_3).bind fun t521 => (if t521.length + t511.length < 140737488355328 then ((impl_tlv.f k1 a0_0 (t521 ++ t511)).bind fun bt527 => (if bt527.2 = true then (some bt527.1) else (some ([] : List Int)))) else (none))))) else (some ([] : List Int))) = some r := H
   have A43 := am A430
   clear A430
   by_cases c44 : t512 = true
   rotate_left
   · replace c44 := Bool.eq_false_iff.mpr c44
     subst c44
     replace H : (some ([] : List Int)) = some r := by rw [if_neg (show ¬ (false = true) by decide)] at H; exact H
     obtain rfl := Option.some.inj H
     obtain ⟨Ao75, co75, eo75⟩ := Kd.R_slice HO_3.out
     subst eo75
     go_wp2_with (first | ((with_reducible refine gate_callee (f := 100) rfl ?_); refine goesL_ (some 41) rfl rfl Try.func100 (by kernel_rfl) rfl #[.int .i64 48, .slice Ao75 x3_1.length co75] rfl ga ?_; (with_reducible refine (impl_tlv.calls k1 48 _ _ x3_1 t511 false _ ?side1 ?side2 A43.out).mono ?_); (case side1 => repeat (first | exact (Kd.R_reads' HO_3.out).2.2 | (with_reducible refine Kd.C_alloc ?_ _) | (with_reducible refine Kd.C_drewN ?_ _) | (with_reducible refine Kd.C_drew ?_))); (case side2 => exact (Kd.R_reads' HO_3.out).2.1); rintro e w76 ⟨v513, rfl, ho0, hb⟩; refine ⟨_, rfl, ?_⟩; have n_ := ak4 (Kd.R_elder' (kqR HO_3.out) (Kd.R_base ho0) hb) (Kd.R_lower (Kd.R_new' ho0 (Kd.R_lt (kqR HO_3.out))) (below_size (bq1 HB.out GE491.out))) (blk_below (zb BK491.out) hb) (below_step (bq1 HB.out GE491.out) hb); clear HO_3 BK491 HB; obtain ⟨HO_3, HO514, BK491, HB⟩ := n_; (try clear hb ho0)))
     go_ret
     exact ⟨_, rq, rn, bq1 HB.out GE491.out⟩
   subst c44
   replace H : ((impl_addNum.f k1 ([] : List Int) 2 a0_1).bind fun t515 => ((impl_addNum.f k1 t515 2 a0_2).bind fun t518 => ((impl_addNum.f k1 t518 2 a0_3).bind fun t521 => (if t521.length + t511.length < 140737488355328 then ((impl_tlv.f k1 a0_0 (t521 ++ t511)).bind fun bt527 => (if bt527.2 = true then (some bt527.1) else (some ([] : List Int)))) else (none))))) = some r := by rw [if_pos rfl] at H; exact H
   replace H := Option.bind_eq_some_iff.mp H
   obtain ⟨t515, A450, H⟩ := H
   replace H : ((impl_addNum.f k1 t515 2 a0_2).bind fun t518 => ((impl_addNum.f k1 t518 2 a0_3).bind fun t521 => (if t521.length + t511.length < 140737488355328 then ((impl_tlv.f k1 a0_0 (t521 ++ t511)).bind fun bt527 => (if bt527.2 = true then (some bt527.1) else (some ([] : List Int)))) else (none)))) = some r := H
   have A45 := am A450
   clear A450
   replace H := Option.bind_eq_some_iff.mp H
   obtain ⟨t518, A460, H⟩ := H
   replace H : ((impl_addNum.f k1 t518 2 a0_3).bind fun t521 => (if t521.length + t511.length < 140737488355328 then ((impl_tlv.f k1 a0_0 (t521 ++ t511)).bind fun bt527 => (if bt527.2 = true then (some bt527.1) else (some ([] : List Int)))) else (none))) = some r := H
   have A46 := am A460
   clear A460
   replace H := Option.bind_eq_some_iff.mp H
   obtain ⟨t521, A470, H⟩ := H
   replace H : (if t521.length + t511.length < 140737488355328 then ((impl_tlv.f k1 a0_0 (t521 ++ t511)).bind fun bt527 => (if bt527.2 = true then (some bt527.1) else (some ([] : List Int)))) else (none)) = some r := H
   have A47 := am A470
   clear A470
   by_cases c48 : t521.length + t511.length < 140737488355328
   rotate_left
   · rw [if_neg c48] at H
     exact absurd H (by simp)
   rw [if_pos c48] at H
   have LMc48 := am c48
   clear c48
   obtain ⟨y524, hy524⟩ : ∃ y_ : List Int, y_ = (t521 ++ t511) := ⟨_, rfl⟩
   replace H : ((impl_tlv.f k1 a0_0 y524).bind fun bt527 => (if bt527.2 = true then (some bt527.1) else (some ([] : List Int)))) = some r := hx H hy524
   have Ny524 := am hy524
   clear hy524
   replace H := Option.bind_eq_some_iff.mp H
   obtain ⟨⟨t527, t528⟩, A490, H⟩ := H
   replace H : (if t528 = true then (some t527) else (some ([] : List Int))) = some r := H
   have A49 := am A490
   clear A490
   by_cases c50 : t528 = true
   · subst c50
     replace H : (some t527) = some r := by rw [if_pos rfl] at H; exact H
     obtain rfl := Option.some.inj H
     obtain ⟨Ao51, co51, eo51⟩ := Kd.R_slice HO_3.out
     subst eo51
     try go_wp2_with (first | ((with_reducible refine gate_callee (f := 100) rfl ?_); refine goesL_ (some 41) rfl rfl Try.func100 (by kernel_rfl) rfl #[.int .i64 48, .slice Ao51 x3_1.length co51] rfl ga ?_; (with_reducible refine (impl_tlv.calls k1 48 _ _ x3_1 t511 true _ ?side1 ?side2 A43.out).mono ?_); (case side1 => repeat (first | exact (Kd.R_reads' HO_3.out).2.2 | (with_reducible refine Kd.C_alloc ?_ _) | (with_reducible refine Kd.C_drewN ?_ _) | (with_reducible refine Kd.C_drew ?_))); (case side2 => exact (Kd.R_reads' HO_3.out).2.1); rintro e w52 ⟨v513, rfl, ho0, hb⟩; refine ⟨_, rfl, ?_⟩; have n_ := ak4 (Kd.R_elder' (kqR HO_3.out) (Kd.R_base ho0) hb) (Kd.R_lower (Kd.R_new' ho0 (Kd.R_lt (kqR HO_3.out))) (below_size (bq1 HB.out GE491.out))) (blk_below (zb BK491.out) hb) (below_step (bq1 HB.out GE491.out) hb); clear HO_3 BK491 HB; obtain ⟨HO_3, HO514, BK491, HB⟩ := n_; (try clear hb ho0)))
     have n_ := ak4 (Kd.R_drew HO_3.out) (Kd.R_drew HO514.out) (blk_drew BK491.out) (below_drew1 HB.out)
     clear HO_3 HO514 BK491 HB
     obtain ⟨HO_3, HO514, BK491, HB⟩ := n_
     refine start_ (n := 19) (S := fun w' => w'.cell? ⟨gb491, 0, none⟩ = some (.int .i64 a0_0) ∧ w'.cell? ⟨gb491, 1, none⟩ = some (.int .i64 a0_1) ∧ w'.cell? ⟨gb491, 2, none⟩ = some (.int .i64 a0_2) ∧ w'.cell? ⟨gb491, 3, none⟩ = some (.int .i64 a0_3) ∧ w'.cell? ⟨gb491, 4, none⟩ = some (.slice A0_4 l0_4.length c0_4)) (ds := []) #[false, false, false, false, false, false, false, false, false, false, false, false, false, false, false, false, false, false, false] (by kernel_rfl) rfl rfl ⟨(blk_cell BK491.out 0).trans rfl, (blk_cell BK491.out 1).trans rfl, (blk_cell BK491.out 2).trans rfl, (blk_cell BK491.out 3).trans rfl, (blk_cell BK491.out 4).trans rfl⟩ (fun hHeld => ?_); refine with_tabW impl_PutPdu.tab15 impl_PutPdu.bits15 (fun HT_ HW_ => ?_)
     generalize w52.drew = w53 at HO_3 HO514 BK491 HB hHeld ⊢
     refine pu 0 (some 47) #[true, false, false, false, false, false, false, false, false, false, false, false, false, false, false, false, false, false, false] rfl rfl (any_of HT_.out (by kernel_rfl)) (Or.inl ⟨by rfl, by intro w'; go_simp; with_reducible rfl⟩) ?_
     refine pu 2 (some 49) #[true, false, true, false, false, false, false, false, false, false, false, false, false, false, false, false, false, false, false] rfl rfl (any_of HT_.out (by kernel_rfl)) (Or.inl ⟨by rfl, by intro w'; go_simp; with_reducible rfl⟩) ?_
     refine pu 5 (some 52) #[true, false, true, false, false, true, false, false, false, false, false, false, false, false, false, false, false, false, false] rfl rfl (any_of HT_.out (by kernel_rfl)) (Or.inl ⟨by rfl, by intro w'; go_simp; with_reducible rfl⟩) ?_
     refine pu 8 (some 55) #[true, false, true, false, false, true, false, false, true, false, false, false, false, false, false, false, false, false, false] rfl rfl (any_of HT_.out (by kernel_rfl)) (Or.inl ⟨by rfl, by intro w'; go_simp; with_reducible rfl⟩) ?_
     refine pu 11 (some 58) #[true, false, true, false, false, true, false, false, true, false, false, true, false, false, false, false, false, false, false] rfl rfl (any_of HT_.out (by kernel_rfl)) (Or.inl ⟨by rfl, by intro w'; go_simp; with_reducible rfl⟩) ?_
     refine tk 1 (some 48) #[true, true, true, false, false, true, false, false, true, false, false, true, false, false, false, false, false, false, false] rfl rfl (take_ofW HT_.out HW_.out (by kernel_rfl)) hHeld (Or.inl ⟨by rfl, by rintro w' ⟨s0, s1, s2, s3, s4⟩; go_simp; with_reducible rfl⟩) ?_
     refine tk 3 (some 50) #[true, true, true, true, false, true, false, false, true, false, false, true, false, false, false, false, false, false, false] rfl rfl (take_ofW HT_.out HW_.out (by kernel_rfl)) hHeld (Or.inl ⟨by rfl, by rintro w' ⟨s0, s1, s2, s3, s4⟩; go_simp; with_reducible rfl⟩) ?_
     refine tk 6 (some 53) #[true, true, true, true, false, true, true, false, true, false, false, true, false, false, false, false, false, false, false] rfl rfl (take_ofW HT_.out HW_.out (by kernel_rfl)) hHeld (Or.inl ⟨by rfl, by rintro w' ⟨s0, s1, s2, s3, s4⟩; go_simp; with_reducible rfl⟩) ?_
     refine tk 9 (some 56) #[true, true, true, true, false, true, true, false, true, true, false, true, false, false, false, false, false, false, false] rfl rfl (take_ofW HT_.out HW_.out (by kernel_rfl)) hHeld (Or.inl ⟨by rfl, by rintro w' ⟨s0, s1, s2, s3, s4⟩; go_simp; with_reducible rfl⟩) ?_
     refine one_ (i := 4) (N := some 51) #[true, true, true, true, true, true, true, false, true, true, false, true, false, false, false, false, false, false, false] rfl rfl (one_of HT_.out (by kernel_rfl)) (by decide) (fun K hK => ?_)
     refine goes_ Try.func76 (by kernel_rfl) rfl #[.slice none 0 0, .int .i64 2, .int .i64 a0_1] (by rfl) rfl rfl ga ?_
     refine (impl_addNum.calls k1 _ _ ([] : List Int) 2 a0_1 t515 _ ?side1 ?side2 A45.out).mono ?_
     (case side1 => exact Kd.C_nil _ _)
     (case side2 => exact Nat.le_refl _)
     rintro e w54 ⟨v516, rfl, ho0, hb⟩
     refine ⟨_, rfl, ?_⟩
     have n_ := ak5 (Kd.R_elder' (kqR HO_3.out) (Kd.R_base ho0) hb) (Kd.R_elder' (kqR HO514.out) (Kd.R_base ho0) hb) (Kd.R_lower (Kd.R_new' (Kd.R_new' ho0 (Kd.R_lt (kqR HO_3.out))) (Kd.R_lt (kqR HO514.out))) (below_size (bq1 HB.out GE491.out))) (blk_below (zb BK491.out) hb) (below_step (bq1 HB.out GE491.out) hb)
     clear HO_3 HO514 BK491 HB
     obtain ⟨HO_3, HO514, HO517, BK491, HB⟩ := n_
     (try clear hb ho0)
     obtain ⟨Ao55, co55, eo55⟩ := Kd.R_slice HO517.out
     (first | subst eo55 | (injection eo55 with f1_ f2_ f3_; have f4_ := f1_.symm; have f5_ := f3_.symm; clear f1_ f2_ f3_; subst f4_; subst f5_))
     refine hK.out _ _ ⟨(blk_cell BK491.out 0).trans rfl, (blk_cell BK491.out 1).trans rfl, (blk_cell BK491.out 2).trans rfl, (blk_cell BK491.out 3).trans rfl, (blk_cell BK491.out 4).trans rfl⟩ (fun hHeld => ?_)
     clear hK K
     refine norm_ (a' := ?_) ?_ ?_
     rotate_left
     · show Act.put _ (some 51) _ = _
       simp only [Act.put, List.setIfInBounds_toArray, List.set_cons_zero, List.set_cons_succ, i64_w, i32_w]
       rfl
     refine one_ (i := 7) (N := some 54) #[true, true, true, true, true, true, true, true, true, true, false, true, false, false, false, false, false, false, false] rfl rfl (one_of HT_.out (by kernel_rfl)) (by decide) (fun K hK => ?_)
     refine goes_ Try.func76 (by kernel_rfl) rfl #[.slice Ao55 t515.length co55, .int .i64 2, .int .i64 a0_2] (by rfl) rfl rfl ga ?_
     with_reducible refine (impl_addNum.calls k1 _ _ t515 2 a0_2 t518 _ ?side1 ?side2 A46.out).mono ?_
     (case side1 => repeat (first | exact (Kd.R_reads' HO517.out).2.2 | (with_reducible refine Kd.C_alloc ?_ _) | (with_reducible refine Kd.C_drewN ?_ _) | (with_reducible refine Kd.C_drew ?_)))
     (case side2 => exact (Kd.R_reads' HO517.out).2.1)
     rintro e w56 ⟨v519, rfl, ho0, hb⟩
     refine ⟨_, rfl, ?_⟩
     have n_ := ak6 (Kd.R_elder' (kqR HO_3.out) (Kd.R_base ho0) hb) (Kd.R_elder' (kqR HO514.out) (Kd.R_base ho0) hb) (Kd.R_elder' (kqR HO517.out) (Kd.R_base ho0) hb) (Kd.R_lower (Kd.R_new' (Kd.R_new' (Kd.R_new' ho0 (Kd.R_lt (kqR HO_3.out))) (Kd.R_lt (kqR HO514.out))) (Kd.R_lt (kqR HO517.out))) (below_size (bq1 HB.out GE491.out))) (blk_below (zb BK491.out) hb) (below_step (bq1 HB.out GE491.out) hb)
     clear HO_3 HO514 HO517 BK491 HB
     obtain ⟨HO_3, HO514, HO517, HO520, BK491, HB⟩ := n_
     (try clear hb ho0)
     obtain ⟨Ao57, co57, eo57⟩ := Kd.R_slice HO520.out
     (first | subst eo57 | (injection eo57 with f1_ f2_ f3_; have f4_ := f1_.symm; have f5_ := f3_.symm; clear f1_ f2_ f3_; subst f4_; subst f5_))
     refine hK.out _ _ ⟨(blk_cell BK491.out 0).trans rfl, (blk_cell BK491.out 1).trans rfl, (blk_cell BK491.out 2).trans rfl, (blk_cell BK491.out 3).trans rfl, (blk_cell BK491.out 4).trans rfl⟩ (fun hHeld => ?_)
     clear hK K
     refine norm_ (a' := ?_) ?_ ?_
     rotate_left
     · show Act.put _ (some 54) _ = _
       simp only [Act.put, List.setIfInBounds_toArray, List.set_cons_zero, List.set_cons_succ, i64_w, i32_w]
       rfl
     refine one_ (i := 10) (N := some 57) #[true, true, true, true, true, true, true, true, true, true, true, true, false, false, false, false, false, false, false] rfl rfl (one_of HT_.out (by kernel_rfl)) (by decide) (fun K hK => ?_)
     refine goes_ Try.func76 (by kernel_rfl) rfl #[.slice Ao57 t518.length co57, .int .i64 2, .int .i64 a0_3] (by rfl) rfl rfl ga ?_
     with_reducible refine (impl_addNum.calls k1 _ _ t518 2 a0_3 t521 _ ?side1 ?side2 A47.out).mono ?_
     (case side1 => repeat (first | exact (Kd.R_reads' HO520.out).2.2 | (with_reducible refine Kd.C_alloc ?_ _) | (with_reducible refine Kd.C_drewN ?_ _) | (with_reducible refine Kd.C_drew ?_)))
     (case side2 => exact (Kd.R_reads' HO520.out).2.1)
     rintro e w58 ⟨v522, rfl, ho0, hb⟩
     refine ⟨_, rfl, ?_⟩
     have n_ := ak7 (Kd.R_elder' (kqR HO_3.out) (Kd.R_base ho0) hb) (Kd.R_elder' (kqR HO514.out) (Kd.R_base ho0) hb) (Kd.R_elder' (kqR HO517.out) (Kd.R_base ho0) hb) (Kd.R_elder' (kqR HO520.out) (Kd.R_base ho0) hb) (Kd.R_lower (Kd.R_new' (Kd.R_new' (Kd.R_new' (Kd.R_new' ho0 (Kd.R_lt (kqR HO_3.out))) (Kd.R_lt (kqR HO514.out))) (Kd.R_lt (kqR HO517.out))) (Kd.R_lt (kqR HO520.out))) (below_size (bq1 HB.out GE491.out))) (blk_below (zb BK491.out) hb) (below_step (bq1 HB.out GE491.out) hb)
     clear HO_3 HO514 HO517 HO520 BK491 HB
     obtain ⟨HO_3, HO514, HO517, HO520, HO523, BK491, HB⟩ := n_
     (try clear hb ho0)
     obtain ⟨Ao60, co60, eo60⟩ := Kd.R_slice HO514.out
     (first | subst eo60 | (injection eo60 with f1_ f2_ f3_; have f4_ := f1_.symm; have f5_ := f3_.symm; clear f1_ f2_ f3_; subst f4_; subst f5_))
     refine hK.out _ _ ⟨(blk_cell BK491.out 0).trans rfl, (blk_cell BK491.out 1).trans rfl, (blk_cell BK491.out 2).trans rfl, (blk_cell BK491.out 3).trans rfl, (blk_cell BK491.out 4).trans rfl⟩ (fun hHeld => ?_)
     clear hK K
     refine norm_ (a' := ?_) ?_ ?_
     rotate_left
     · show Act.put _ (some 57) _ = _
       simp only [Act.put, List.setIfInBounds_toArray, List.set_cons_zero, List.set_cons_succ, i64_w, i32_w]
       rfl
     refine one_ (i := 12) (N := some 59) #[true, true, true, true, true, true, true, true, true, true, true, true, true, false, false, false, false, false, false] rfl rfl (one_of HT_.out (by kernel_rfl)) (by decide) (fun K hK => ?_)
     refine Kd.R_append_rows_step (Kd.int .u8) (w0 := w) w.heap.size (by rfl) (.tmp 57) (.tmp 58) 22 5 (.int .u8 0) 1 rfl Try.underlying22 info5 rfl (by decide) (by omega) v522 t521 t511 _ _ _ (fun k_ => some k_ ≠ (.slice Ao51 x3_1.length co51 : Value).ownBlock ∧ some k_ ≠ (.slice Ao60 t511.length co60 : Value).ownBlock ∧ some k_ ≠ (.slice Ao55 t515.length co55 : Value).ownBlock ∧ some k_ ≠ (.slice Ao57 t518.length co57 : Value).ownBlock) (fun _ => False) rfl rfl ?aO ?aR (fun _ _ h => h) (fun _ h => h.elim) ?aF ?aB ?aS ?aL ?_
     (case aR => repeat (first | exact (Kd.R_reads' HO514.out).2.2 | (with_reducible refine Kd.C_alloc ?_ _) | (with_reducible refine Kd.C_drewN ?_ _) | (with_reducible refine Kd.C_drew ?_)))
     (case aB => exact (bq1 HB.out GE491.out))
     (case aF => exact (fun k_ hk => ⟨Kd.fresh' (Kd.R_lt (kqR HO_3.out)) k_ hk, Kd.fresh' (Kd.R_lt (kqR HO514.out)) k_ hk, Kd.fresh' (Kd.R_lt (kqR HO517.out)) k_ hk, Kd.fresh' (Kd.R_lt (kqR HO520.out)) k_ hk⟩))
     (case aO => exact (by refine kr ?_; exact Kd.R_mono HO523.out (fun _ hk => ⟨hk.1.1.1.2, ⟨hk.1.1.2, ⟨hk.1.2, hk.2⟩⟩⟩)))
     (case aS => exact (below_size (bq1 HB.out GE491.out)))
     (case aL => have := LMc48.out; omega)
     intro v525 w59 ho hb hg hat
     rw [← Ny524.out] at ho
     have n_ := ak7 (Kd.R_after (ok := (fun k_ => some k_ ≠ (.slice Ao60 t511.length co60 : Value).ownBlock ∧ some k_ ≠ (.slice Ao55 t515.length co55 : Value).ownBlock ∧ some k_ ≠ (.slice Ao57 t518.length co57 : Value).ownBlock)) (by refine kr ?_; exact Kd.R_mono HO_3.out (fun _ hk => ⟨⟨hk.1.1.1.2, ⟨hk.1.1.2, hk.1.2⟩⟩, hk.2⟩)) hg hat) (blk_grown (g := gb491) (o := .cells #[.int .i64 a0_0, .int .i64 a0_1, .int .i64 a0_2, .int .i64 a0_3, .slice A0_4 l0_4.length c0_4] 58 (0, 0)) (zq BK491.out) hg (Kd.R_ne HO523.out BK491.out (by decide))) (Kd.R_after (ok := (fun k_ => some k_ ≠ (.slice Ao51 x3_1.length co51 : Value).ownBlock ∧ some k_ ≠ (.slice Ao55 t515.length co55 : Value).ownBlock ∧ some k_ ≠ (.slice Ao57 t518.length co57 : Value).ownBlock)) (by refine kr ?_; exact Kd.R_mono HO514.out (fun _ hk => ⟨⟨hk.1.1.1.2, ⟨hk.1.1.2, hk.1.2⟩⟩, hk.2⟩)) hg hat) (Kd.R_after (ok := (fun k_ => some k_ ≠ (.slice Ao51 x3_1.length co51 : Value).ownBlock ∧ some k_ ≠ (.slice Ao60 t511.length co60 : Value).ownBlock ∧ some k_ ≠ (.slice Ao57 t518.length co57 : Value).ownBlock)) (by refine kr ?_; exact Kd.R_mono HO517.out (fun _ hk => ⟨⟨hk.1.1.1.2, ⟨hk.1.1.2, hk.1.2⟩⟩, hk.2⟩)) hg hat) (Kd.R_after (ok := (fun k_ => some k_ ≠ (.slice Ao51 x3_1.length co51 : Value).ownBlock ∧ some k_ ≠ (.slice Ao60 t511.length co60 : Value).ownBlock ∧ some k_ ≠ (.slice Ao55 t515.length co55 : Value).ownBlock)) (by refine kr ?_; exact Kd.R_mono HO520.out (fun _ hk => ⟨⟨hk.1.1.1.2, ⟨hk.1.1.2, hk.1.2⟩⟩, hk.2⟩)) hg hat) hb ho
     clear HO_3 BK491 HO514 HO517 HO520 HB HO523
     obtain ⟨HO_3, BK491, HO514, HO517, HO520, HB, HO526⟩ := n_
     clear ho hb hg hat
     obtain ⟨Ao61, co61, eo61⟩ := Kd.R_slice HO526.out
     (first | subst eo61 | (injection eo61 with f1_ f2_ f3_; have f4_ := f1_.symm; have f5_ := f3_.symm; clear f1_ f2_ f3_; subst f4_; subst f5_))
     refine hK.out _ _ ⟨(blk_cell BK491.out 0).trans rfl, (blk_cell BK491.out 1).trans rfl, (blk_cell BK491.out 2).trans rfl, (blk_cell BK491.out 3).trans rfl, (blk_cell BK491.out 4).trans rfl⟩ (fun hHeld => ?_)
     clear hK K
     refine norm_ (a' := ?_) ?_ ?_
     rotate_left
     · show Act.put _ (some 59) _ = _
       simp only [Act.put, List.setIfInBounds_toArray, List.set_cons_zero, List.set_cons_succ, i64_w, i32_w]
       rfl
     refine one_ (i := 13) (N := some 60) #[true, true, true, true, true, true, true, true, true, true, true, true, true, true, false, false, false, false, false] rfl rfl (one_of HT_.out (by kernel_rfl)) (by decide) (fun K hK => ?_)
     refine goes_ Try.func100 (by kernel_rfl) rfl #[.int .i64 a0_0, .slice Ao61 y524.length co61] (by rfl) rfl rfl ga ?_
     with_reducible refine (impl_tlv.calls k1 a0_0 _ _ y524 t527 true _ ?side1 ?side2 A49.out).mono ?_
     (case side1 => repeat (first | exact (Kd.R_reads' HO526.out).2.2 | (with_reducible refine Kd.C_alloc ?_ _) | (with_reducible refine Kd.C_drewN ?_ _) | (with_reducible refine Kd.C_drew ?_)))
     (case side2 => exact (Kd.R_reads' HO526.out).2.1)
     rintro e w62 ⟨v529, rfl, ho0, hb⟩
     refine ⟨_, rfl, ?_⟩
     have n_ := ak8 (Kd.R_elder' (kqR HO_3.out) (Kd.R_base ho0) hb) (Kd.R_elder' (kqR HO514.out) (Kd.R_base ho0) hb) (Kd.R_elder' (kqR HO517.out) (Kd.R_base ho0) hb) (Kd.R_elder' (kqR HO520.out) (Kd.R_base ho0) hb) (Kd.R_elder' (kqR HO526.out) (Kd.R_base ho0) hb) (Kd.R_lower (Kd.R_new' (Kd.R_new' (Kd.R_new' (Kd.R_new' (Kd.R_new' ho0 (Kd.R_lt (kqR HO_3.out))) (Kd.R_lt (kqR HO514.out))) (Kd.R_lt (kqR HO517.out))) (Kd.R_lt (kqR HO520.out))) (Kd.R_lt (kqR HO526.out))) (below_size (bq1 HB.out GE491.out))) (blk_below (zb BK491.out) hb) (below_step (bq1 HB.out GE491.out) hb)
     clear HO_3 HO514 HO517 HO520 HO526 BK491 HB
     obtain ⟨HO_3, HO514, HO517, HO520, HO526, HO530, BK491, HB⟩ := n_
     (try clear hb ho0)
     refine hK.out _ _ ⟨(blk_cell BK491.out 0).trans rfl, (blk_cell BK491.out 1).trans rfl, (blk_cell BK491.out 2).trans rfl, (blk_cell BK491.out 3).trans rfl, (blk_cell BK491.out 4).trans rfl⟩ (fun hHeld => ?_)
     clear hK K
     refine norm_ (a' := ?_) ?_ ?_
     rotate_left
     · show Act.put _ (some 60) _ = _
       simp only [Act.put, List.setIfInBounds_toArray, List.set_cons_zero, List.set_cons_succ, i64_w, i32_w]
       rfl
     refine pu 14 (some 46) #[true, true, true, true, true, true, true, true, true, true, true, true, true, true, true, false, false, false, false] rfl rfl (any_of HT_.out (by kernel_rfl)) (Or.inl ⟨by rfl, by intro w'; go_simp; with_reducible rfl⟩) ?_
     refine pu 15 (some 61) #[true, true, true, true, true, true, true, true, true, true, true, true, true, true, true, true, false, false, false] rfl rfl (any_of HT_.out (by kernel_rfl)) (Or.inl ⟨by rfl, by intro w'; go_simp; with_reducible rfl⟩) ?_
     refine pu 16 (some 62) #[true, true, true, true, true, true, true, true, true, true, true, true, true, true, true, true, true, false, false] rfl rfl (any_of HT_.out (by kernel_rfl)) (Or.inl ⟨by rfl, by intro w'; go_simp; with_reducible rfl⟩) ?_
     refine pu 17 (some 10) #[true, true, true, true, true, true, true, true, true, true, true, true, true, true, true, true, true, true, false] rfl rfl (any_of HT_.out (by kernel_rfl)) (Or.inl ⟨by rfl, by intro w'; go_simp; with_reducible rfl⟩) ?_
     refine pu 18 (some 11) #[true, true, true, true, true, true, true, true, true, true, true, true, true, true, true, true, true, true, true] rfl rfl (any_of HT_.out (by kernel_rfl)) (Or.inl ⟨by rfl, by intro w'; go_simp; with_reducible rfl⟩) ?_
     refine done_ (done_of HT_.out (by kernel_rfl)) ?_
     try go_wp2
     go_ret
     exact ⟨_, rq, by refine kr ?_; exact Kd.R_mono HO530.out (fun _ hk => trivial), bq1 HB.out GE491.out⟩
   replace c50 := Bool.eq_false_iff.mpr c50
   subst c50
   replace H : (some ([] : List Int)) = some r := by rw [if_neg (show ¬ (false = true) by decide)] at H; exact H
   obtain rfl := Option.some.inj H
   obtain ⟨Ao63, co63, eo63⟩ := Kd.R_slice HO_3.out
   subst eo63
   try go_wp2_with (first | ((with_reducible refine gate_callee (f := 100) rfl ?_); refine goesL_ (some 41) rfl rfl Try.func100 (by kernel_rfl) rfl #[.int .i64 48, .slice Ao63 x3_1.length co63] rfl ga ?_; (with_reducible refine (impl_tlv.calls k1 48 _ _ x3_1 t511 true _ ?side1 ?side2 A43.out).mono ?_); (case side1 => repeat (first | exact (Kd.R_reads' HO_3.out).2.2 | (with_reducible refine Kd.C_alloc ?_ _) | (with_reducible refine Kd.C_drewN ?_ _) | (with_reducible refine Kd.C_drew ?_))); (case side2 => exact (Kd.R_reads' HO_3.out).2.1); rintro e w64 ⟨v513, rfl, ho0, hb⟩; refine ⟨_, rfl, ?_⟩; have n_ := ak4 (Kd.R_elder' (kqR HO_3.out) (Kd.R_base ho0) hb) (Kd.R_lower (Kd.R_new' ho0 (Kd.R_lt (kqR HO_3.out))) (below_size (bq1 HB.out GE491.out))) (blk_below (zb BK491.out) hb) (below_step (bq1 HB.out GE491.out) hb); clear HO_3 BK491 HB; obtain ⟨HO_3, HO514, BK491, HB⟩ := n_; (try clear hb ho0)))
   have n_ := ak4 (Kd.R_drew HO_3.out) (Kd.R_drew HO514.out) (blk_drew BK491.out) (below_drew1 HB.out)
   clear HO_3 HO514 BK491 HB
   obtain ⟨HO_3, HO514, BK491, HB⟩ := n_
   refine start_ (n := 19) (S := fun w' => w'.cell? ⟨gb491, 0, none⟩ = some (.int .i64 a0_0) ∧ w'.cell? ⟨gb491, 1, none⟩ = some (.int .i64 a0_1) ∧ w'.cell? ⟨gb491, 2, none⟩ = some (.int .i64 a0_2) ∧ w'.cell? ⟨gb491, 3, none⟩ = some (.int .i64 a0_3) ∧ w'.cell? ⟨gb491, 4, none⟩ = some (.slice A0_4 l0_4.length c0_4)) (ds := []) #[false, false, false, false, false, false, false, false, false, false, false, false, false, false, false, false, false, false, false] (by kernel_rfl) rfl rfl ⟨(blk_cell BK491.out 0).trans rfl, (blk_cell BK491.out 1).trans rfl, (blk_cell BK491.out 2).trans rfl, (blk_cell BK491.out 3).trans rfl, (blk_cell BK491.out 4).trans rfl⟩ (fun hHeld => ?_); refine with_tabW impl_PutPdu.tab15 impl_PutPdu.bits15 (fun HT_ HW_ => ?_)
   generalize w64.drew = w65 at HO_3 HO514 BK491 HB hHeld ⊢
   refine pu 0 (some 47) #[true, false, false, false, false, false, false, false, false, false, false, false, false, false, false, false, false, false, false] rfl rfl (any_of HT_.out (by kernel_rfl)) (Or.inl ⟨by rfl, by intro w'; go_simp; with_reducible rfl⟩) ?_
   refine pu 2 (some 49) #[true, false, true, false, false, false, false, false, false, false, false, false, false, false, false, false, false, false, false] rfl rfl (any_of HT_.out (by kernel_rfl)) (Or.inl ⟨by rfl, by intro w'; go_simp; with_reducible rfl⟩) ?_
   refine pu 5 (some 52) #[true, false, true, false, false, true, false, false, false, false, false, false, false, false, false, false, false, false, false] rfl rfl (any_of HT_.out (by kernel_rfl)) (Or.inl ⟨by rfl, by intro w'; go_simp; with_reducible rfl⟩) ?_
   refine pu 8 (some 55) #[true, false, true, false, false, true, false, false, true, false, false, false, false, false, false, false, false, false, false] rfl rfl (any_of HT_.out (by kernel_rfl)) (Or.inl ⟨by rfl, by intro w'; go_simp; with_reducible rfl⟩) ?_
   refine pu 11 (some 58) #[true, false, true, false, false, true, false, false, true, false, false, true, false, false, false, false, false, false, false] rfl rfl (any_of HT_.out (by kernel_rfl)) (Or.inl ⟨by rfl, by intro w'; go_simp; with_reducible rfl⟩) ?_
   refine tk 1 (some 48) #[true, true, true, false, false, true, false, false, true, false, false, true, false, false, false, false, false, false, false] rfl rfl (take_ofW HT_.out HW_.out (by kernel_rfl)) hHeld (Or.inl ⟨by rfl, by rintro w' ⟨s0, s1, s2, s3, s4⟩; go_simp; with_reducible rfl⟩) ?_
   refine tk 3 (some 50) #[true, true, true, true, false, true, false, false, true, false, false, true, false, false, false, false, false, false, false] rfl rfl (take_ofW HT_.out HW_.out (by kernel_rfl)) hHeld (Or.inl ⟨by rfl, by rintro w' ⟨s0, s1, s2, s3, s4⟩; go_simp; with_reducible rfl⟩) ?_
   refine tk 6 (some 53) #[true, true, true, true, false, true, true, false, true, false, false, true, false, false, false, false, false, false, false] rfl rfl (take_ofW HT_.out HW_.out (by kernel_rfl)) hHeld (Or.inl ⟨by rfl, by rintro w' ⟨s0, s1, s2, s3, s4⟩; go_simp; with_reducible rfl⟩) ?_
   refine tk 9 (some 56) #[true, true, true, true, false, true, true, false, true, true, false, true, false, false, false, false, false, false, false] rfl rfl (take_ofW HT_.out HW_.out (by kernel_rfl)) hHeld (Or.inl ⟨by rfl, by rintro w' ⟨s0, s1, s2, s3, s4⟩; go_simp; with_reducible rfl⟩) ?_
   refine one_ (i := 4) (N := some 51) #[true, true, true, true, true, true, true, false, true, true, false, true, false, false, false, false, false, false, false] rfl rfl (one_of HT_.out (by kernel_rfl)) (by decide) (fun K hK => ?_)
   refine goes_ Try.func76 (by kernel_rfl) rfl #[.slice none 0 0, .int .i64 2, .int .i64 a0_1] (by rfl) rfl rfl ga ?_
   refine (impl_addNum.calls k1 _ _ ([] : List Int) 2 a0_1 t515 _ ?side1 ?side2 A45.out).mono ?_
   (case side1 => exact Kd.C_nil _ _)
   (case side2 => exact Nat.le_refl _)
   rintro e w66 ⟨v516, rfl, ho0, hb⟩
   refine ⟨_, rfl, ?_⟩
   have n_ := ak5 (Kd.R_elder' (kqR HO_3.out) (Kd.R_base ho0) hb) (Kd.R_elder' (kqR HO514.out) (Kd.R_base ho0) hb) (Kd.R_lower (Kd.R_new' (Kd.R_new' ho0 (Kd.R_lt (kqR HO_3.out))) (Kd.R_lt (kqR HO514.out))) (below_size (bq1 HB.out GE491.out))) (blk_below (zb BK491.out) hb) (below_step (bq1 HB.out GE491.out) hb)
   clear HO_3 HO514 BK491 HB
   obtain ⟨HO_3, HO514, HO517, BK491, HB⟩ := n_
   (try clear hb ho0)
   obtain ⟨Ao67, co67, eo67⟩ := Kd.R_slice HO517.out
   (first | subst eo67 | (injection eo67 with f1_ f2_ f3_; have f4_ := f1_.symm; have f5_ := f3_.symm; clear f1_ f2_ f3_; subst f4_; subst f5_))
   refine hK.out _ _ ⟨(blk_cell BK491.out 0).trans rfl, (blk_cell BK491.out 1).trans rfl, (blk_cell BK491.out 2).trans rfl, (blk_cell BK491.out 3).trans rfl, (blk_cell BK491.out 4).trans rfl⟩ (fun hHeld => ?_)
   clear hK K
   refine norm_ (a' := ?_) ?_ ?_
   rotate_left
   · show Act.put _ (some 51) _ = _
     simp only [Act.put, List.setIfInBounds_toArray, List.set_cons_zero, List.set_cons_succ, i64_w, i32_w]
     rfl
   refine one_ (i := 7) (N := some 54) #[true, true, true, true, true, true, true, true, true, true, false, true, false, false, false, false, false, false, false] rfl rfl (one_of HT_.out (by kernel_rfl)) (by decide) (fun K hK => ?_)
   refine goes_ Try.func76 (by kernel_rfl) rfl #[.slice Ao67 t515.length co67, .int .i64 2, .int .i64 a0_2] (by rfl) rfl rfl ga ?_
   with_reducible refine (impl_addNum.calls k1 _ _ t515 2 a0_2 t518 _ ?side1 ?side2 A46.out).mono ?_
   (case side1 => repeat (first | exact (Kd.R_reads' HO517.out).2.2 | (with_reducible refine Kd.C_alloc ?_ _) | (with_reducible refine Kd.C_drewN ?_ _) | (with_reducible refine Kd.C_drew ?_)))
   (case side2 => exact (Kd.R_reads' HO517.out).2.1)
   rintro e w68 ⟨v519, rfl, ho0, hb⟩
   refine ⟨_, rfl, ?_⟩
   have n_ := ak6 (Kd.R_elder' (kqR HO_3.out) (Kd.R_base ho0) hb) (Kd.R_elder' (kqR HO514.out) (Kd.R_base ho0) hb) (Kd.R_elder' (kqR HO517.out) (Kd.R_base ho0) hb) (Kd.R_lower (Kd.R_new' (Kd.R_new' (Kd.R_new' ho0 (Kd.R_lt (kqR HO_3.out))) (Kd.R_lt (kqR HO514.out))) (Kd.R_lt (kqR HO517.out))) (below_size (bq1 HB.out GE491.out))) (blk_below (zb BK491.out) hb) (below_step (bq1 HB.out GE491.out) hb)
   clear HO_3 HO514 HO517 BK491 HB
   obtain ⟨HO_3, HO514, HO517, HO520, BK491, HB⟩ := n_
   (try clear hb ho0)
   obtain ⟨Ao69, co69, eo69⟩ := Kd.R_slice HO520.out
   (first | subst eo69 | (injection eo69 with f1_ f2_ f3_; have f4_ := f1_.symm; have f5_ := f3_.symm; clear f1_ f2_ f3_; subst f4_; subst f5_))
   refine hK.out _ _ ⟨(blk_cell BK491.out 0).trans rfl, (blk_cell BK491.out 1).trans rfl, (blk_cell BK491.out 2).trans rfl, (blk_cell BK491.out 3).trans rfl, (blk_cell BK491.out 4).trans rfl⟩ (fun hHeld => ?_)
   clear hK K
   refine norm_ (a' := ?_) ?_ ?_
   rotate_left
   · show Act.put _ (some 54) _ = _
     simp only [Act.put, List.setIfInBounds_toArray, List.set_cons_zero, List.set_cons_succ, i64_w, i32_w]
     rfl
   refine one_ (i := 10) (N := some 57) #[true, true, true, true, true, true, true, true, true, true, true, true, false, false, false, false, false, false, false] rfl rfl (one_of HT_.out (by kernel_rfl)) (by decide) (fun K hK => ?_)
   refine goes_ Try.func76 (by kernel_rfl) rfl #[.slice Ao69 t518.length co69, .int .i64 2, .int .i64 a0_3] (by rfl) rfl rfl ga ?_
   with_reducible refine (impl_addNum.calls k1 _ _ t518 2 a0_3 t521 _ ?side1 ?side2 A47.out).mono ?_
   (case side1 => repeat (first | exact (Kd.R_reads' HO520.out).2.2 | (with_reducible refine Kd.C_alloc ?_ _) | (with_reducible refine Kd.C_drewN ?_ _) | (with_reducible refine Kd.C_drew ?_)))
   (case side2 => exact (Kd.R_reads' HO520.out).2.1)
   rintro e w70 ⟨v522, rfl, ho0, hb⟩
   refine ⟨_, rfl, ?_⟩
   have n_ := ak7 (Kd.R_elder' (kqR HO_3.out) (Kd.R_base ho0) hb) (Kd.R_elder' (kqR HO514.out) (Kd.R_base ho0) hb) (Kd.R_elder' (kqR HO517.out) (Kd.R_base ho0) hb) (Kd.R_elder' (kqR HO520.out) (Kd.R_base ho0) hb) (Kd.R_lower (Kd.R_new' (Kd.R_new' (Kd.R_new' (Kd.R_new' ho0 (Kd.R_lt (kqR HO_3.out))) (Kd.R_lt (kqR HO514.out))) (Kd.R_lt (kqR HO517.out))) (Kd.R_lt (kqR HO520.out))) (below_size (bq1 HB.out GE491.out))) (blk_below (zb BK491.out) hb) (below_step (bq1 HB.out GE491.out) hb)
   clear HO_3 HO514 HO517 HO520 BK491 HB
   obtain ⟨HO_3, HO514, HO517, HO520, HO523, BK491, HB⟩ := n_
   (try clear hb ho0)
   obtain ⟨Ao72, co72, eo72⟩ := Kd.R_slice HO514.out
   (first | subst eo72 | (injection eo72 with f1_ f2_ f3_; have f4_ := f1_.symm; have f5_ := f3_.symm; clear f1_ f2_ f3_; subst f4_; subst f5_))
   refine hK.out _ _ ⟨(blk_cell BK491.out 0).trans rfl, (blk_cell BK491.out 1).trans rfl, (blk_cell BK491.out 2).trans rfl, (blk_cell BK491.out 3).trans rfl, (blk_cell BK491.out 4).trans rfl⟩ (fun hHeld => ?_)
   clear hK K
   refine norm_ (a' := ?_) ?_ ?_
   rotate_left
   · show Act.put _ (some 57) _ = _
     simp only [Act.put, List.setIfInBounds_toArray, List.set_cons_zero, List.set_cons_succ, i64_w, i32_w]
     rfl
   refine one_ (i := 12) (N := some 59) #[true, true, true, true, true, true, true, true, true, true, true, true, true, false, false, false, false, false, false] rfl rfl (one_of HT_.out (by kernel_rfl)) (by decide) (fun K hK => ?_)
   refine Kd.R_append_rows_step (Kd.int .u8) (w0 := w) w.heap.size (by rfl) (.tmp 57) (.tmp 58) 22 5 (.int .u8 0) 1 rfl Try.underlying22 info5 rfl (by decide) (by omega) v522 t521 t511 _ _ _ (fun k_ => some k_ ≠ (.slice Ao63 x3_1.length co63 : Value).ownBlock ∧ some k_ ≠ (.slice Ao72 t511.length co72 : Value).ownBlock ∧ some k_ ≠ (.slice Ao67 t515.length co67 : Value).ownBlock ∧ some k_ ≠ (.slice Ao69 t518.length co69 : Value).ownBlock) (fun _ => False) rfl rfl ?aO ?aR (fun _ _ h => h) (fun _ h => h.elim) ?aF ?aB ?aS ?aL ?_
   (case aR => repeat (first | exact (Kd.R_reads' HO514.out).2.2 | (with_reducible refine Kd.C_alloc ?_ _) | (with_reducible refine Kd.C_drewN ?_ _) | (with_reducible refine Kd.C_drew ?_)))
   (case aB => exact (bq1 HB.out GE491.out))
   (case aF => exact (fun k_ hk => ⟨Kd.fresh' (Kd.R_lt (kqR HO_3.out)) k_ hk, Kd.fresh' (Kd.R_lt (kqR HO514.out)) k_ hk, Kd.fresh' (Kd.R_lt (kqR HO517.out)) k_ hk, Kd.fresh' (Kd.R_lt (kqR HO520.out)) k_ hk⟩))
   (case aO => exact (by refine kr ?_; exact Kd.R_mono HO523.out (fun _ hk => ⟨hk.1.1.1.2, ⟨hk.1.1.2, ⟨hk.1.2, hk.2⟩⟩⟩)))
   (case aS => exact (below_size (bq1 HB.out GE491.out)))
   (case aL => have := LMc48.out; omega)
   intro v525 w71 ho hb hg hat
   rw [← Ny524.out] at ho
   have n_ := ak7 (Kd.R_after (ok := (fun k_ => some k_ ≠ (.slice Ao72 t511.length co72 : Value).ownBlock ∧ some k_ ≠ (.slice Ao67 t515.length co67 : Value).ownBlock ∧ some k_ ≠ (.slice Ao69 t518.length co69 : Value).ownBlock)) (by refine kr ?_; exact Kd.R_mono HO_3.out (fun _ hk => ⟨⟨hk.1.1.1.2, ⟨hk.1.1.2, hk.1.2⟩⟩, hk.2⟩)) hg hat) (blk_grown (g := gb491) (o := .cells #[.int .i64 a0_0, .int .i64 a0_1, .int .i64 a0_2, .int .i64 a0_3, .slice A0_4 l0_4.length c0_4] 58 (0, 0)) (zq BK491.out) hg (Kd.R_ne HO523.out BK491.out (by decide))) (Kd.R_after (ok := (fun k_ => some k_ ≠ (.slice Ao63 x3_1.length co63 : Value).ownBlock ∧ some k_ ≠ (.slice Ao67 t515.length co67 : Value).ownBlock ∧ some k_ ≠ (.slice Ao69 t518.length co69 : Value).ownBlock)) (by refine kr ?_; exact Kd.R_mono HO514.out (fun _ hk => ⟨⟨hk.1.1.1.2, ⟨hk.1.1.2, hk.1.2⟩⟩, hk.2⟩)) hg hat) (Kd.R_after (ok := (fun k_ => some k_ ≠ (.slice Ao63 x3_1.length co63 : Value).ownBlock ∧ some k_ ≠ (.slice Ao72 t511.length co72 : Value).ownBlock ∧ some k_ ≠ (.slice Ao69 t518.length co69 : Value).ownBlock)) (by refine kr ?_; exact Kd.R_mono HO517.out (fun _ hk => ⟨⟨hk.1.1.1.2, ⟨hk.1.1.2, hk.1.2⟩⟩, hk.2⟩)) hg hat) (Kd.R_after (ok := (fun k_ => some k_ ≠ (.slice Ao63 x3_1.length co63 : Value).ownBlock ∧ some k_ ≠ (.slice Ao72 t511.length co72 : Value).ownBlock ∧ some k_ ≠ (.slice Ao67 t515.length co67 : Value).ownBlock)) (by refine kr ?_; exact Kd.R_mono HO520.out (fun _ hk => ⟨⟨hk.1.1.1.2, ⟨hk.1.1.2, hk.1.2⟩⟩, hk.2⟩)) hg hat) hb ho
   clear HO_3 BK491 HO514 HO517 HO520 HB HO523
   obtain ⟨HO_3, BK491, HO514, HO517, HO520, HB, HO526⟩ := n_
   clear ho hb hg hat
   obtain ⟨Ao73, co73, eo73⟩ := Kd.R_slice HO526.out
   (first | subst eo73 | (injection eo73 with f1_ f2_ f3_; have f4_ := f1_.symm; have f5_ := f3_.symm; clear f1_ f2_ f3_; subst f4_; subst f5_))
   refine hK.out _ _ ⟨(blk_cell BK491.out 0).trans rfl, (blk_cell BK491.out 1).trans rfl, (blk_cell BK491.out 2).trans rfl, (blk_cell BK491.out 3).trans rfl, (blk_cell BK491.out 4).trans rfl⟩ (fun hHeld => ?_)
   clear hK K
   refine norm_ (a' := ?_) ?_ ?_
   rotate_left
   · show Act.put _ (some 59) _ = _
     simp only [Act.put, List.setIfInBounds_toArray, List.set_cons_zero, List.set_cons_succ, i64_w, i32_w]
     rfl
   refine one_ (i := 13) (N := some 60) #[true, true, true, true, true, true, true, true, true, true, true, true, true, true, false, false, false, false, false] rfl rfl (one_of HT_.out (by kernel_rfl)) (by decide) (fun K hK => ?_)
   refine goes_ Try.func100 (by kernel_rfl) rfl #[.int .i64 a0_0, .slice Ao73 y524.length co73] (by rfl) rfl rfl ga ?_
   with_reducible refine (impl_tlv.calls k1 a0_0 _ _ y524 t527 false _ ?side1 ?side2 A49.out).mono ?_
   (case side1 => repeat (first | exact (Kd.R_reads' HO526.out).2.2 | (with_reducible refine Kd.C_alloc ?_ _) | (with_reducible refine Kd.C_drewN ?_ _) | (with_reducible refine Kd.C_drew ?_)))
   (case side2 => exact (Kd.R_reads' HO526.out).2.1)
   rintro e w74 ⟨v529, rfl, ho0, hb⟩
   refine ⟨_, rfl, ?_⟩
   have n_ := ak8 (Kd.R_elder' (kqR HO_3.out) (Kd.R_base ho0) hb) (Kd.R_elder' (kqR HO514.out) (Kd.R_base ho0) hb) (Kd.R_elder' (kqR HO517.out) (Kd.R_base ho0) hb) (Kd.R_elder' (kqR HO520.out) (Kd.R_base ho0) hb) (Kd.R_elder' (kqR HO526.out) (Kd.R_base ho0) hb) (Kd.R_lower (Kd.R_new' (Kd.R_new' (Kd.R_new' (Kd.R_new' (Kd.R_new' ho0 (Kd.R_lt (kqR HO_3.out))) (Kd.R_lt (kqR HO514.out))) (Kd.R_lt (kqR HO517.out))) (Kd.R_lt (kqR HO520.out))) (Kd.R_lt (kqR HO526.out))) (below_size (bq1 HB.out GE491.out))) (blk_below (zb BK491.out) hb) (below_step (bq1 HB.out GE491.out) hb)
   clear HO_3 HO514 HO517 HO520 HO526 BK491 HB
   obtain ⟨HO_3, HO514, HO517, HO520, HO526, HO530, BK491, HB⟩ := n_
   (try clear hb ho0)
   refine hK.out _ _ ⟨(blk_cell BK491.out 0).trans rfl, (blk_cell BK491.out 1).trans rfl, (blk_cell BK491.out 2).trans rfl, (blk_cell BK491.out 3).trans rfl, (blk_cell BK491.out 4).trans rfl⟩ (fun hHeld => ?_)
   clear hK K
   refine norm_ (a' := ?_) ?_ ?_
   rotate_left
   · show Act.put _ (some 60) _ = _
     simp only [Act.put, List.setIfInBounds_toArray, List.set_cons_zero, List.set_cons_succ, i64_w, i32_w]
     rfl
   refine pu 14 (some 46) #[true, true, true, true, true, true, true, true, true, true, true, true, true, true, true, false, false, false, false] rfl rfl (any_of HT_.out (by kernel_rfl)) (Or.inl ⟨by rfl, by intro w'; go_simp; with_reducible rfl⟩) ?_
   refine pu 15 (some 61) #[true, true, true, true, true, true, true, true, true, true, true, true, true, true, true, true, false, false, false] rfl rfl (any_of HT_.out (by kernel_rfl)) (Or.inl ⟨by rfl, by intro w'; go_simp; with_reducible rfl⟩) ?_
   refine pu 16 (some 62) #[true, true, true, true, true, true, true, true, true, true, true, true, true, true, true, true, true, false, false] rfl rfl (any_of HT_.out (by kernel_rfl)) (Or.inl ⟨by rfl, by intro w'; go_simp; with_reducible rfl⟩) ?_
   refine pu 17 (some 10) #[true, true, true, true, true, true, true, true, true, true, true, true, true, true, true, true, true, true, false] rfl rfl (any_of HT_.out (by kernel_rfl)) (Or.inl ⟨by rfl, by intro w'; go_simp; with_reducible rfl⟩) ?_
   refine pu 18 (some 11) #[true, true, true, true, true, true, true, true, true, true, true, true, true, true, true, true, true, true, true] rfl rfl (any_of HT_.out (by kernel_rfl)) (Or.inl ⟨by rfl, by intro w'; go_simp; with_reducible rfl⟩) ?_
   refine done_ (done_of HT_.out (by kernel_rfl)) ?_
   try go_wp2
   go_ret
   exact ⟨_, rq, rn, bq1 HB.out GE491.out⟩

end Go.Proofs.Ythhnfmbfgplelaa.XFnExactPutMsg
