/- The functions that one law reaches, as Lean functions, with their walks: printed by a program of this seat (wip/tools) out of the translation. -/
import Derived.Test.YthhnfmbfgplelaaXFnExactPutPdux0
import Derived.Test.YthhnfmbfgplelaaXFnExactPutPdux7
import Derived.Test.YthhnfmbfgplelaaXFnExactPutPdux8
import Derived.Test.YthhnfmbfgplelaaXFnExactPutPdux9
namespace Go.Proofs.Ythhnfmbfgplelaa.XFnExactPutPdu
open Go.RowKit Go.Proofs.YthhnfmbfgplelaaW.PrintWords Go.Proofs.YthhnfmbfgplelaaW.PrintLast Go.Proofs.YthhnfmbfgplelaaW.PrintMore
attribute [local go_sem] max2_int min2_int max_two min_two max_three min_three max_four min_four   -- for this text's walks alone
set_option linter.unusedVariables false
set_option linter.unusedSimpArgs false

/-! ### impl_PutPdu: function 41 -/
def impl_PutPdu.l0 : Nat → List Int → List (S116) → Int → Int → Int → Int → Int → Int → List (S116) → Option (List Int)
 | 0, _, _, _, _, _, _, _, _, _ => none
 | k + 1, x3, x16, x17, x18, x438000, x438001, x438002, x438003, x438004 => if x18 < x17 then (if 0 ≤ x18 then (if x18 < (x16.length : Int) then ((impl_PutOid.f k ((rd_T116 x16 x18).f0)).bind fun t441 => ((impl_PutTlv.f k ([] : List Int) 6 t441).bind fun t444 => ((impl_PutVal.f k t444 ((rd_T116 x16 x18).f1.f0) ((rd_T116 x16 x18).f1.f1) ((rd_T116 x16 x18).f1.f2) ((rd_T116 x16 x18).f1.f3)).bind fun t447 => ((impl_tlv.f k 48 t447).bind fun bt450 => (if bt450.2 = true then (if x3.length + bt450.1.length < 140737488355328 then (impl_PutPdu.l0 k (x3 ++ bt450.1) x16 x17 (wrap64 (x18 + 1)) x438000 x438001 x438002 x438003 x438004) else (none)) else (some ([] : List Int))))))) else (none)) else (none)) else ((impl_tlv.f k 48 x3).bind fun bt457 => (if bt457.2 = true then ((impl_addNum.f k ([] : List Int) 2 x438001).bind fun t461 => ((impl_addNum.f k t461 2 x438002).bind fun t464 => ((impl_addNum.f k t464 2 x438003).bind fun t467 => (if t467.length + bt457.1.length < 140737488355328 then ((impl_tlv.f k x438000 (t467 ++ bt457.1)).bind fun bt473 => (if bt473.2 = true then (some bt473.1) else (some ([] : List Int)))) else (none))))) else (some ([] : List Int))))
def impl_PutPdu.f (k : Nat) (a0_0 : Int) (a0_1 : Int) (a0_2 : Int) (a0_3 : Int) (l0_4 : List (S116)) : Option (List Int) := (impl_PduOk.f k a0_0 a0_1 a0_2 a0_3 l0_4).bind fun t438 => (if t438 = true then (impl_PutPdu.l0 k ([] : List Int) l0_4 (l0_4.length : Int) 0 a0_0 a0_1 a0_2 a0_3 l0_4) else (some ([] : List Int)))
theorem impl_PutPdu.mono_l : ∀ k, (∀ y0 y1 y2 y3 y4 y5 y6 y7 y8, LeO (impl_PutPdu.l0 k y0 y1 y2 y3 y4 y5 y6 y7 y8) (impl_PutPdu.l0 (k + 1) y0 y1 y2 y3 y4 y5 y6 y7 y8))
 | 0 => fun _ _ _ _ _ _ _ _ _ r h => by simp [impl_PutPdu.l0] at h
 | k + 1 => by
  have ih0 := impl_PutPdu.mono_l k
  intro y0 y1 y2 y3 y4 y5 y6 y7 y8
  unfold impl_PutPdu.l0
  repeat' first
  | (with_reducible exact ih0 _ _ _ _ _ _ _ _ _)
  | (with_reducible exact impl_PduOk.mono _ _ _ _ _ _)
  | (with_reducible exact impl_PutOid.mono _ _)
  | (with_reducible exact impl_PutTlv.mono _ _ _ _)
  | (with_reducible exact impl_PutVal.mono _ _ _ _ _ _)
  | (with_reducible exact impl_addNum.mono _ _ _ _)
  | (with_reducible exact impl_tlv.mono _ _ _)
  | (with_reducible exact LeO.refl _)
  | (with_reducible exact LeO.none _)
  | (with_reducible refine LeO.ite ?_ ?_)
  | (with_reducible refine LeO.bind ?_ (fun _ => ?_))
  | exact ih0 _ _ _ _ _ _ _ _ _
  | exact impl_PduOk.mono _ _ _ _ _ _
  | exact impl_PutOid.mono _ _
  | exact impl_PutTlv.mono _ _ _ _
  | exact impl_PutVal.mono _ _ _ _ _ _
  | exact impl_addNum.mono _ _ _ _
  | exact impl_tlv.mono _ _ _
  | exact LeO.none _
  | refine LeO.ite ?_ ?_
  | refine LeO.bind ?_ (fun _ => ?_)
theorem impl_PutPdu.mono : ∀ a0 a1 a2 a3 a4 k, LeO (impl_PutPdu.f k a0 a1 a2 a3 a4) (impl_PutPdu.f (k + 1) a0 a1 a2 a3 a4) := by
 intro a0 a1 a2 a3 a4 k
 have ih0 := impl_PutPdu.mono_l k
 unfold impl_PutPdu.f
 repeat' first
  | (with_reducible exact ih0 _ _ _ _ _ _ _ _ _)
  | (with_reducible exact impl_PduOk.mono _ _ _ _ _ _)
  | (with_reducible exact impl_PutOid.mono _ _)
  | (with_reducible exact impl_PutTlv.mono _ _ _ _)
  | (with_reducible exact impl_PutVal.mono _ _ _ _ _ _)
  | (with_reducible exact impl_addNum.mono _ _ _ _)
  | (with_reducible exact impl_tlv.mono _ _ _)
  | (with_reducible exact LeO.refl _)
  | (with_reducible exact LeO.none _)
  | (with_reducible refine LeO.ite ?_ ?_)
  | (with_reducible refine LeO.bind ?_ (fun _ => ?_))
  | exact ih0 _ _ _ _ _ _ _ _ _
  | exact impl_PduOk.mono _ _ _ _ _ _
  | exact impl_PutOid.mono _ _
  | exact impl_PutTlv.mono _ _ _ _
  | exact impl_PutVal.mono _ _ _ _ _ _
  | exact impl_addNum.mono _ _ _ _
  | exact impl_tlv.mono _ _ _
  | exact LeO.none _
  | refine LeO.ite ?_ ?_
  | refine LeO.bind ?_ (fun _ => ?_)
def impl_PutPdu.T7 : Bool × List (List Nat × List Nat) := (true, [([], []), ([0], [0]), ([1], [1]), ([2, 2], [2]), ([], []), ([4], [4]), ([3, 5, 3], [3, 5]), ([6, 6], [6]), ([7], [7]), ([8], [8]), ([8], [8]), ([9, 7, 0, 1, 2, 3, 4, 5, 6, 7, 8, 9], [9]), ([10, 11, 0, 1, 2, 3, 4, 5, 6, 7, 8, 9, 10, 11], [10])])
def impl_PutPdu.B7 : List Nat := [0, 1, 3, 7, 0, 16, 63, 127, 255, 511, 511, 1023, 4095]
theorem impl_PutPdu.tab7 : rtab .any (opsOf Try.f41 7) = impl_PutPdu.T7 := by kernel_rfl
theorem impl_PutPdu.bits7 : waitsOk impl_PutPdu.T7.2 impl_PutPdu.B7 = true := by kernel_rfl
def impl_PutPdu.T15 : Bool × List (List Nat × List Nat) := (true, [([], []), ([0], [0]), ([], []), ([2], [2]), ([3], [3]), ([], []), ([5], [5]), ([4, 6, 4], [4, 6]), ([], []), ([8], [8]), ([7, 9, 7], [7, 9]), ([], []), ([10, 11, 10], [10, 11]), ([1, 12, 12], [1, 12]), ([13], [13]), ([14], [14]), ([14], [14]), ([15, 13, 0, 1, 2, 3, 4, 5, 6, 7, 8, 9, 10, 11, 12, 13, 14, 15], [15]), ([16, 17, 0, 1, 2, 3, 4, 5, 6, 7, 8, 9, 10, 11, 12, 13, 14, 15, 16, 17], [16])])
def impl_PutPdu.B15 : List Nat := [0, 1, 0, 4, 12, 0, 32, 124, 0, 256, 1020, 0, 4092, 8191, 16383, 32767, 32767, 65535, 262143]
theorem impl_PutPdu.tab15 : rtab .any (opsOf Try.f41 15) = impl_PutPdu.T15 := by kernel_rfl
theorem impl_PutPdu.bits15 : waitsOk impl_PutPdu.T15.2 impl_PutPdu.B15 = true := by kernel_rfl
set_option maxHeartbeats 8000000 in
set_option maxRecDepth 100000 in
theorem impl_PutPdu.calls (k : Nat) (a0_0 : Int) (a0_1 : Int) (a0_2 : Int) (a0_3 : Int) (A0_4 : Option Addr) (c0_4 : Nat) (l0_4 : List (S116)) (r : List Int) (w : World) (hr0_4 : Kd.C k116 w A0_4 l0_4.length l0_4) (hc0_4 : l0_4.length ≤ c0_4) (h : impl_PutPdu.f k a0_0 a0_1 a0_2 a0_3 l0_4 = some r) :
 Calls Try.prog 41 #[.agg #[.int .i64 a0_0, .int .i64 a0_1, .int .i64 a0_2, .int .i64 a0_3, .slice A0_4 l0_4.length c0_4]] w fun e w' => ∃ v0_ : Value, e = .returned (v0_) ∧ Kd.R (Kd.int .u8) 5 w' w.heap.size (fun _ => True) v0_ r ∧ Below w.heap.size w w' := by
 have hu58 := Try.underlying58
 have hu116 := Try.underlying116
 have hu29 := Try.underlying29
 have HR0_4 := am hr0_4
 have HC0_4 := am hc0_4
 clear hr0_4 hc0_4
 have HB := am (Below.refl w.heap.size w)
 have H : ((impl_PduOk.f k a0_0 a0_1 a0_2 a0_3 l0_4).bind fun t438 => (if t438 = true then (impl_PutPdu.l0 k ([] : List Int) l0_4 (l0_4.length : Int) 0 a0_0 a0_1 a0_2 a0_3 l0_4) else (some ([] : List Int)))) = some r := h
 clear h
 replace H := Option.bind_eq_some_iff.mp H
 obtain ⟨t438, A20, H⟩ := H
 replace H : (if t438 = true then (impl_PutPdu.l0 k ([] : List Int) l0_4 (l0_4.length : Int) 0 a0_0 a0_1 a0_2 a0_3 l0_4) else (some ([] : List Int))) = some r := H
 have A2 := am A20
 clear A20
 by_cases c3 : t438 = true
 rotate_left
 · replace c3 := Bool.eq_false_iff.mpr c3
   subst c3
   replace H : (some ([] : List Int)) = some r := by rw [if_neg (show ¬ (false = true) by decide)] at H; exact H
   obtain rfl := Option.some.inj H
   go_enter Try.func41, Try.ntmps41
   go_wp2_with (first | ((with_reducible refine gate_dst (N := 1) rfl ?_); refine bxe 1 #[.int .i64 a0_0, .int .i64 a0_1, .int .i64 a0_2, .int .i64 a0_3, .slice A0_4 l0_4.length c0_4] 58 ?_; intro gb437 hg w77 hbox hb; have n_ := ak4 (below_step (bq HB.out) hb) hbox ((by rw [hg]; exact (below_size (bq HB.out)) : w.heap.size ≤ gb437)) ((by rw [hg]; exact (below_size (bq HB.out)) : w.heap.size ≤ gb437)); clear HB; obtain ⟨HB, BK437, GW437, GE437⟩ := n_; clear hb hbox hg; obtain ⟨hcz78_0, hcz78_1, hcz78_2, hcz78_3, hcz78_4, hfz78_0, hfz78_1, hfz78_2, hfz78_3, hfz78_4⟩ := cl5 BK437.out) | ((with_reducible refine gate_callee (f := 99) rfl ?_); refine goesL_ (some 13) rfl rfl Try.func99 (by kernel_rfl) rfl #[.agg #[.int .i64 a0_0, .int .i64 a0_1, .int .i64 a0_2, .int .i64 a0_3, .slice A0_4 l0_4.length c0_4]] rfl ga ?_; (with_reducible refine (impl_PduOk.calls k a0_0 a0_1 a0_2 a0_3 _ _ l0_4 false _ ?side1 ?side2 A2.out).mono ?_); (case side1 => exact cq (Kd.C_below HR0_4.out HB.out)); (case side2 => exact HC0_4.out); rintro e w79 ⟨rfl, hb⟩; refine ⟨_, rfl, ?_⟩; have n_ := ak2 (blk_below (zb BK437.out) hb) (below_step (bq1 HB.out GE437.out) hb); clear BK437 HB; obtain ⟨BK437, HB⟩ := n_; (try clear hb)))
   go_ret
   exact ⟨_, rq, rn, bq1 HB.out GE437.out⟩
 subst c3
 replace H : (impl_PutPdu.l0 k ([] : List Int) l0_4 (l0_4.length : Int) 0 a0_0 a0_1 a0_2 a0_3 l0_4) = some r := by rw [if_pos rfl] at H; exact H
 have H' := am H
 clear H
 go_enter Try.func41, Try.ntmps41
 go_wp2_with (first | ((with_reducible refine gate_dst (N := 1) rfl ?_); refine bxe 1 #[.int .i64 a0_0, .int .i64 a0_1, .int .i64 a0_2, .int .i64 a0_3, .slice A0_4 l0_4.length c0_4] 58 ?_; intro gb437 hg w4 hbox hb; have n_ := ak4 (below_step (bq HB.out) hb) hbox ((by rw [hg]; exact (below_size (bq HB.out)) : w.heap.size ≤ gb437)) ((by rw [hg]; exact (below_size (bq HB.out)) : w.heap.size ≤ gb437)); clear HB; obtain ⟨HB, BK437, GW437, GE437⟩ := n_; clear hb hbox hg; obtain ⟨hcz5_0, hcz5_1, hcz5_2, hcz5_3, hcz5_4, hfz5_0, hfz5_1, hfz5_2, hfz5_3, hfz5_4⟩ := cl5 BK437.out) | ((with_reducible refine gate_callee (f := 99) rfl ?_); refine goesL_ (some 13) rfl rfl Try.func99 (by kernel_rfl) rfl #[.agg #[.int .i64 a0_0, .int .i64 a0_1, .int .i64 a0_2, .int .i64 a0_3, .slice A0_4 l0_4.length c0_4]] rfl ga ?_; (with_reducible refine (impl_PduOk.calls k a0_0 a0_1 a0_2 a0_3 _ _ l0_4 true _ ?side1 ?side2 A2.out).mono ?_); (case side1 => exact cq (Kd.C_below HR0_4.out HB.out)); (case side2 => exact HC0_4.out); rintro e w6 ⟨rfl, hb⟩; refine ⟨_, rfl, ?_⟩; have n_ := ak2 (blk_below (zb BK437.out) hb) (below_step (bq1 HB.out GE437.out) hb); clear BK437 HB; obtain ⟨BK437, HB⟩ := n_; (try clear hb); obtain ⟨hcz7_0, hcz7_1, hcz7_2, hcz7_3, hcz7_4, hfz7_0, hfz7_1, hfz7_2, hfz7_3, hfz7_4⟩ := cl5 BK437.out))
 go_loopg [3, 18] k (fun kq v3 v18 w' => ∃ (x3_1 : List Int) (x18_1 : Int), v18 = .int .i64 x18_1 ∧ Aside0 (impl_PutPdu.l0 kq x3_1 l0_4 (l0_4.length : Int) x18_1 a0_0 a0_1 a0_2 a0_3 l0_4 = some r) ∧ Aside0 (kq ≤ k) ∧ Aside0 (Kd.R (Kd.int .u8) 5 w' w.heap.size (fun _ => True) v3 x3_1) ∧ Aside0 (w'.heap[gb437]? = some (.cells #[.int .i64 a0_0, .int .i64 a0_1, .int .i64 a0_2, .int .i64 a0_3, (.slice A0_4 l0_4.length c0_4)] 58 (0, 0))) ∧ Aside0 (Below w.heap.size w w'))
 case atStart => exact ⟨(([] : List Int)), (0), sq, H', ⟨Nat.le_refl _⟩, ⟨rn⟩, ⟨zq BK437.out⟩, ⟨bq1 HB.out GE437.out⟩⟩
 case round =>
  clear H'
  try clear p2
  try clear c3
  try clear c4
  try clear hcz5_0
  try clear hcz5_1
  try clear hcz5_2
  try clear hcz5_3
  try clear hcz5_4
  try clear hcz7_0
  try clear hcz7_1
  try clear hcz7_2
  try clear hcz7_3
  try clear hcz7_4
  try clear hfz5_0
  try clear hfz5_1
  try clear hfz5_2
  try clear hfz5_3
  try clear hfz5_4
  try clear hfz7_0
  try clear hfz7_1
  try clear hfz7_2
  try clear hfz7_3
  try clear hfz7_4
  obtain ⟨x3_1, x18_1, rfl, HA, HK1, HO_3, BK437, HB⟩ := hrel
  cases gk with
  | zero => exact absurd HA.out (by simp [impl_PutPdu.l0])
  | succ k1 =>
   have H := HA.out
   clear HA
   simp only [impl_PutPdu.l0] at H
   by_cases c8 : x18_1 < (l0_4.length : Int)
   · rw [if_pos c8] at H
     have c8b0 : decide (x18_1 < (l0_4.length : Int)) = true := decide_eq_true c8
     clear c8
     by_cases c9 : 0 ≤ x18_1
     rotate_left
     · rw [if_neg c9] at H
       exact absurd H (by simp)
     rw [if_pos c9] at H
     have c9b0 : decide (0 ≤ x18_1) = true := decide_eq_true c9
     clear c9
     by_cases c10 : x18_1 < (l0_4.length : Int)
     rotate_left
     · rw [if_neg c10] at H
       exact absurd H (by simp)
     rw [if_pos c10] at H
     have c10b0 : decide (x18_1 < (l0_4.length : Int)) = true := decide_eq_true c10
     clear c10
     replace H := Option.bind_eq_some_iff.mp H
     obtain ⟨t441, A110, H⟩ := H
     replace H : ((impl_PutTlv.f k1 ([] : List Int) 6 t441).bind fun t444 => ((impl_PutVal.f k1 t444 ((rd_T116 l0_4 x18_1).f1.f0) ((rd_T116 l0_4 x18_1).f1.f1) ((rd_T116 l0_4 x18_1).f1.f2) ((rd_T116 l0_4 x18_1).f1.f3)).bind fun t447 => ((impl_tlv.f k1 48 t447).bind fun bt450 => (if bt450.2 = true then (if x3_1.length + bt450.1.length < 140737488355328 then (impl_PutPdu.l0 k1 (x3_1 ++ bt450.1) l0_4 (l0_4.length : Int) (wrap64 (x18_1 + 1)) a0_0 a0_1 a0_2 a0_3 l0_4) else (none)) else (some ([] : List Int)))))) = some r := H
     have A11 := am A110
     clear A110
     replace H := Option.bind_eq_some_iff.mp H
     obtain ⟨t444, A120, H⟩ := H
     replace H : ((impl_PutVal.f k1 t444 ((rd_T116 l0_4 x18_1).f1.f0) ((rd_T116 l0_4 x18_1).f1.f1) ((rd_T116 l0_4 x18_1).f1.f2) ((rd_T116 l0_4 x18_1).f1.f3)).bind fun t447 => ((impl_tlv.f k1 48 t447).bind fun bt450 => (if bt450.2 = true then (if x3_1.length + bt450.1.length < 140737488355328 then (impl_PutPdu.l0 k1 (x3_1 ++ bt450.1) l0_4 (l0_4.length : Int) (wrap64 (x18_1 + 1)) a0_0 a0_1 a0_2 a0_3 l0_4) else (none)) else (some ([] : List Int))))) = some r := H
     have A12 := am A120
     clear A120
     replace H := Option.bind_eq_some_iff.mp H
     obtain ⟨t447, A130, H⟩ := H
     replace H : ((impl_tlv.f k1 48 t447).bind fun bt450 => (if bt450.2 = true then (if x3_1.length + bt450.1.length < 140737488355328 then (impl_PutPdu.l0 k1 (x3_1 ++ bt450.1) l0_4 (l0_4.length : Int) (wrap64 (x18_1 + 1)) a0_0 a0_1 a0_2 a0_3 l0_4) else (none)) else (some ([] : List Int)))) = some r := H
     have A13 := am A130
     clear A130
     replace H := Option.bind_eq_some_iff.mp H
     obtain ⟨⟨t450, t451⟩, A140, H⟩ := H
     replace H : (if t451 = true then (if x3_1.length + t450.length < 140737488355328 then (impl_PutPdu.l0 k1 (x3_1 ++ t450) l0_4 (l0_4.length : Int) (wrap64 (x18_1 + 1)) a0_0 a0_1 a0_2 a0_3 l0_4) else (none)) else (some ([] : List Int))) = some r := H
     have A14 := am A140
     clear A140
     by_cases c15 : t451 = true
     rotate_left
     · replace c15 := Bool.eq_false_iff.mpr c15
       subst c15
       replace H : (some ([] : List Int)) = some r := by rw [if_neg (show ¬ (false = true) by decide)] at H; exact H
       obtain rfl := Option.some.inj H
       have p439 : 0 ≤ (x18_1 : Int) := oda
       have q439 : x18_1 < (l0_4.length : Int) := oda
       obtain ⟨ad439, A439_0, c439_0, A439_4, c439_4, e439, hx439_0, hx439_1, hx439_2, hx439_3, hx439_4, hl439_0, hi439_0, hl439_4, hi439_4⟩ := at_T116 HR0_4.out x18_1 p439 q439
       cases e439
       replace hx439_0 := (HB.out.cell (World.block_lt_of_cell? w _ hx439_0)).trans hx439_0
       replace hx439_1 := (HB.out.cell (World.block_lt_of_cell? w _ hx439_1)).trans hx439_1
       replace hx439_2 := (HB.out.cell (World.block_lt_of_cell? w _ hx439_2)).trans hx439_2
       replace hx439_3 := (HB.out.cell (World.block_lt_of_cell? w _ hx439_3)).trans hx439_3
       replace hx439_4 := (HB.out.cell (World.block_lt_of_cell? w _ hx439_4)).trans hx439_4
       have HR439_0 := am hi439_0
       have HC439_0 := am hl439_0
       clear hi439_0 hl439_0
       have HR439_4 := am hi439_4
       have HC439_4 := am hl439_4
       clear hi439_4 hl439_4
       replace p439 := eq_true p439
       replace q439 := eq_true q439
       try go_wp2_with (first | ((with_reducible refine gate_dst (N := 5) rfl ?_); refine bxe 5 #[.slice none 0 0, .int .i64 0, .int .i64 0, .string (⟨#[]⟩ : ByteArray), .slice none 0 0] 116 ?_; intro gb440 hg w31 hbox hb; have n_ := ak8 (Kd.R_below (kqR HO_3.out) hb) (blk_below (zb BK437.out) hb) (below_step (bq1 HB.out GE437.out) hb) hbox ((by rw [hg]; exact (below_size (bq1 HB.out GE437.out)) : w.heap.size ≤ gb440)) ((by rw [hg]; exact (below_size (bq1 HB.out GE437.out)) : w.heap.size ≤ gb440)) ((nlt hg (zb BK437.out) : gb437 ≠ gb440)) ((ngt hg (zb BK437.out) : gb440 ≠ gb437)); clear HO_3 BK437 HB; obtain ⟨HO_3, BK437, HB, BK440, GW440, GE440, NB437_440, NB440_437⟩ := n_; clear hb hbox hg; have hnb32 := NB440_437.out; have hnc32 := NB437_440.out; obtain ⟨hcz33_0, hcz33_1, hcz33_2, hcz33_3, hcz33_4, hfz33_0, hfz33_1, hfz33_2, hfz33_3, hfz33_4⟩ := cl5 BK440.out) | ((with_reducible refine gate_store (t := 116) (p := 5) rfl ?_); refine store_event (t := 116) (p := 5) (v := ?vo_w34) (w1 := (((((w31.setCell ⟨gb440, 0, none⟩ (.slice A439_0 ((rd_T116 l0_4 x18_1).f0).length c439_0)).setCell ⟨gb440, 1, none⟩ (.int .i64 ((rd_T116 l0_4 x18_1).f1.f0))).setCell ⟨gb440, 2, none⟩ (.int .i64 ((rd_T116 l0_4 x18_1).f1.f1))).setCell ⟨gb440, 3, none⟩ (.string ((rd_T116 l0_4 x18_1).f1.f2))).setCell ⟨gb440, 4, none⟩ (.slice A439_4 ((rd_T116 l0_4 x18_1).f1.f3).length c439_4))) ?hg ?ho ?hn ?hr ?_; (case ho => rfl); (case hg => rfl); (case hn => rfl); (case hr => exact gs); intro w34 hw; have n_ : Aside0 (Kd.R (Kd.int .u8) 5 w34 w.heap.size (fun _ => True) u3 x3_1) ∧ Aside0 (w34.heap[gb437]? = some (.cells #[.int .i64 a0_0, .int .i64 a0_1, .int .i64 a0_2, .int .i64 a0_3, .slice (some ad439) l0_4.length c0_4] 58 (0, 0))) ∧ Aside0 (w34.heap[gb440]? = some (.cells #[.slice A439_0 ((rd_T116 l0_4 x18_1).f0).length c439_0, .int .i64 ((rd_T116 l0_4 x18_1).f1.f0), .int .i64 ((rd_T116 l0_4 x18_1).f1.f1), .string ((rd_T116 l0_4 x18_1).f1.f2), .slice A439_4 ((rd_T116 l0_4 x18_1).f1.f3).length c439_4] 116 (0, 0))) ∧ Aside0 (Below w.heap.size w w34) := ⟨⟨(by rw [hw]; exact (by refine kr ?_; exact Kd.R_mono (rf5 gb440 (.slice A439_0 ((rd_T116 l0_4 x18_1).f0).length c439_0) (.int .i64 ((rd_T116 l0_4 x18_1).f1.f0)) (.int .i64 ((rd_T116 l0_4 x18_1).f1.f1)) (.string ((rd_T116 l0_4 x18_1).f1.f2)) (.slice A439_4 ((rd_T116 l0_4 x18_1).f1.f3).length c439_4) (Kd.R_types HO_3.out BK440.out (by decide)) (fun _ hk => hk.2)) (fun _ hk => trivial)))⟩, ⟨(by rw [hw]; exact (by refine zr ?_; refine blk_far ?_ NB437_440.out _; refine zr ?_; refine blk_far ?_ NB437_440.out _; refine zr ?_; refine blk_far ?_ NB437_440.out _; refine zr ?_; refine blk_far ?_ NB437_440.out _; refine zr ?_; refine blk_far ?_ NB437_440.out _; refine zr ?_; exact BK437.out))⟩, ⟨(by rw [hw]; exact (by refine zr ?_; exact bp5 (zb BK440.out)))⟩, ⟨(by rw [hw]; exact (bq2 HB.out GE437.out GE440.out))⟩⟩; clear hw HO_3 BK437 BK440 HB; obtain ⟨HO_3, BK437, BK440, HB⟩ := n_))
       have n_ := ak4 (Kd.R_drew HO_3.out) (blk_drew BK437.out) (blk_drew BK440.out) (below_drew1 HB.out)
       clear HO_3 BK437 BK440 HB
       obtain ⟨HO_3, BK437, BK440, HB⟩ := n_
       refine start_ (n := 13) (S := fun w' => w'.cell? ⟨gb440, 0, none⟩ = some (.slice A439_0 ((rd_T116 l0_4 x18_1).f0).length c439_0) ∧ w'.cell? ⟨gb440, 1, none⟩ = some (.int .i64 ((rd_T116 l0_4 x18_1).f1.f0)) ∧ w'.cell? ⟨gb440, 2, none⟩ = some (.int .i64 ((rd_T116 l0_4 x18_1).f1.f1)) ∧ w'.cell? ⟨gb440, 3, none⟩ = some (.string ((rd_T116 l0_4 x18_1).f1.f2)) ∧ w'.cell? ⟨gb440, 4, none⟩ = some (.slice A439_4 ((rd_T116 l0_4 x18_1).f1.f3).length c439_4)) (ds := []) #[false, false, false, false, false, false, false, false, false, false, false, false, false] (by kernel_rfl) rfl rfl ⟨(blk_cell BK440.out 0).trans rfl, (blk_cell BK440.out 1).trans rfl, (blk_cell BK440.out 2).trans rfl, (blk_cell BK440.out 3).trans rfl, (blk_cell BK440.out 4).trans rfl⟩ (fun hHeld => ?_); refine with_tabW impl_PutPdu.tab7 impl_PutPdu.bits7 (fun HT_ HW_ => ?_)
       generalize w34.drew = w35 at HO_3 BK437 BK440 HB hHeld ⊢
       refine pu 0 (some 23) #[true, false, false, false, false, false, false, false, false, false, false, false, false] rfl rfl (any_of HT_.out (by kernel_rfl)) (Or.inl ⟨by rfl, by intro w'; go_simp; with_reducible rfl⟩) ?_
       refine pu 4 (some 27) #[true, false, false, false, true, false, false, false, false, false, false, false, false] rfl rfl (any_of HT_.out (by kernel_rfl)) (Or.inl ⟨by rfl, by intro w'; go_simp; with_reducible rfl⟩) ?_
       refine tk 1 (some 24) #[true, true, false, false, true, false, false, false, false, false, false, false, false] rfl rfl (take_ofW HT_.out HW_.out (by kernel_rfl)) hHeld (Or.inl ⟨by rfl, by rintro w' ⟨s0, s1, s2, s3, s4⟩; go_simp; with_reducible rfl⟩) ?_
       refine tk 5 (some 28) #[true, true, false, false, true, true, false, false, false, false, false, false, false] rfl rfl (take_ofW HT_.out HW_.out (by kernel_rfl)) hHeld (Or.inl ⟨by rfl, by rintro w' ⟨s0, s1, s2, s3, s4⟩; go_simp; with_reducible rfl⟩) ?_
       refine one_ (i := 2) (N := some 25) #[true, true, true, false, true, true, false, false, false, false, false, false, false] rfl rfl (one_of HT_.out (by kernel_rfl)) (by decide) (fun K hK => ?_)
       refine goes_ Try.func70 (by kernel_rfl) rfl #[.slice A439_0 ((rd_T116 l0_4 x18_1).f0).length c439_0] (by rfl) rfl rfl ga ?_
       with_reducible refine (impl_PutOid.calls k1 _ _ ((rd_T116 l0_4 x18_1).f0) t441 _ ?side1 ?side2 A11.out).mono ?_
       (case side1 => exact cq (Kd.C_below HR439_0.out HB.out))
       (case side2 => exact HC439_0.out)
       rintro e w36 ⟨v442, rfl, ho0, hb⟩
       refine ⟨_, rfl, ?_⟩
       have n_ := ak5 (Kd.R_elder' (kqR HO_3.out) (Kd.R_base ho0) hb) (Kd.R_lower (Kd.R_new' ho0 (Kd.R_lt (kqR HO_3.out))) (below_size (bq2 HB.out GE437.out GE440.out))) (blk_below (zb BK437.out) hb) (blk_below (zb BK440.out) hb) (below_step (bq2 HB.out GE437.out GE440.out) hb)
       clear HO_3 BK437 BK440 HB
       obtain ⟨HO_3, HO443, BK437, BK440, HB⟩ := n_
       (try clear hb ho0)
       obtain ⟨Ao37, co37, eo37⟩ := Kd.R_slice HO443.out
       (first | subst eo37 | (injection eo37 with f1_ f2_ f3_; have f4_ := f1_.symm; have f5_ := f3_.symm; clear f1_ f2_ f3_; subst f4_; subst f5_))
       refine hK.out _ _ ⟨(blk_cell BK440.out 0).trans rfl, (blk_cell BK440.out 1).trans rfl, (blk_cell BK440.out 2).trans rfl, (blk_cell BK440.out 3).trans rfl, (blk_cell BK440.out 4).trans rfl⟩ (fun hHeld => ?_)
       clear hK K
       refine norm_ (a' := ?_) ?_ ?_
       rotate_left
       · show Act.put _ (some 25) _ = _
         simp only [Act.put, List.setIfInBounds_toArray, List.set_cons_zero, List.set_cons_succ, i64_w, i32_w]
         rfl
       refine one_ (i := 3) (N := some 26) #[true, true, true, true, true, true, false, false, false, false, false, false, false] rfl rfl (one_of HT_.out (by kernel_rfl)) (by decide) (fun K hK => ?_)
       refine goes_ Try.func71 (by kernel_rfl) rfl #[.slice none 0 0, .int .i64 6, .slice Ao37 t441.length co37] (by rfl) rfl rfl ga ?_
       refine (impl_PutTlv.calls k1 _ _ ([] : List Int) 6 _ _ t441 t444 _ ?side1 ?side2 ?side3 ?side4 A12.out).mono ?_
       (case side1 => exact Kd.C_nil _ _)
       (case side2 => exact Nat.le_refl _)
       (case side3 => repeat (first | exact (Kd.R_reads' HO443.out).2.2 | (with_reducible refine Kd.C_alloc ?_ _) | (with_reducible refine Kd.C_drewN ?_ _) | (with_reducible refine Kd.C_drew ?_)))
       (case side4 => exact (Kd.R_reads' HO443.out).2.1)
       rintro e w38 ⟨v445, rfl, ho0, hb⟩
       refine ⟨_, rfl, ?_⟩
       have n_ := ak6 (Kd.R_elder' (kqR HO_3.out) (Kd.R_base ho0) hb) (Kd.R_elder' (kqR HO443.out) (Kd.R_base ho0) hb) (Kd.R_lower (Kd.R_new' (Kd.R_new' ho0 (Kd.R_lt (kqR HO_3.out))) (Kd.R_lt (kqR HO443.out))) (below_size (bq2 HB.out GE437.out GE440.out))) (blk_below (zb BK437.out) hb) (blk_below (zb BK440.out) hb) (below_step (bq2 HB.out GE437.out GE440.out) hb)
       clear HO_3 HO443 BK437 BK440 HB
       obtain ⟨HO_3, HO443, HO446, BK437, BK440, HB⟩ := n_
       (try clear hb ho0)
       obtain ⟨Ao39, co39, eo39⟩ := Kd.R_slice HO446.out
       (first | subst eo39 | (injection eo39 with f1_ f2_ f3_; have f4_ := f1_.symm; have f5_ := f3_.symm; clear f1_ f2_ f3_; subst f4_; subst f5_))
       refine hK.out _ _ ⟨(blk_cell BK440.out 0).trans rfl, (blk_cell BK440.out 1).trans rfl, (blk_cell BK440.out 2).trans rfl, (blk_cell BK440.out 3).trans rfl, (blk_cell BK440.out 4).trans rfl⟩ (fun hHeld => ?_)
       clear hK K
       refine norm_ (a' := ?_) ?_ ?_
       rotate_left
       · show Act.put _ (some 26) _ = _
         simp only [Act.put, List.setIfInBounds_toArray, List.set_cons_zero, List.set_cons_succ, i64_w, i32_w]
         rfl
       refine one_ (i := 6) (N := some 29) #[true, true, true, true, true, true, true, false, false, false, false, false, false] rfl rfl (one_of HT_.out (by kernel_rfl)) (by decide) (fun K hK => ?_)
       refine goes_ Try.func17 (by kernel_rfl) rfl #[.slice Ao39 t444.length co39, .agg #[.int .i64 ((rd_T116 l0_4 x18_1).f1.f0), .int .i64 ((rd_T116 l0_4 x18_1).f1.f1), .string ((rd_T116 l0_4 x18_1).f1.f2), .slice A439_4 ((rd_T116 l0_4 x18_1).f1.f3).length c439_4]] (by rfl) rfl rfl ga ?_
       with_reducible refine (impl_PutVal.calls k1 _ _ t444 ((rd_T116 l0_4 x18_1).f1.f0) ((rd_T116 l0_4 x18_1).f1.f1) ((rd_T116 l0_4 x18_1).f1.f2) _ _ ((rd_T116 l0_4 x18_1).f1.f3) t447 _ ?side1 ?side2 ?side3 ?side4 A13.out).mono ?_
       (case side1 => repeat (first | exact (Kd.R_reads' HO446.out).2.2 | (with_reducible refine Kd.C_alloc ?_ _) | (with_reducible refine Kd.C_drewN ?_ _) | (with_reducible refine Kd.C_drew ?_)))
       (case side2 => exact (Kd.R_reads' HO446.out).2.1)
       (case side3 => exact cq (Kd.C_below HR439_4.out HB.out))
       (case side4 => exact HC439_4.out)
       rintro e w40 ⟨v448, rfl, ho0, hb⟩
       refine ⟨_, rfl, ?_⟩
       have n_ := ak7 (Kd.R_elder' (kqR HO_3.out) (Kd.R_base ho0) hb) (Kd.R_elder' (kqR HO443.out) (Kd.R_base ho0) hb) (Kd.R_elder' (kqR HO446.out) (Kd.R_base ho0) hb) (Kd.R_lower (Kd.R_new' (Kd.R_new' (Kd.R_new' ho0 (Kd.R_lt (kqR HO_3.out))) (Kd.R_lt (kqR HO443.out))) (Kd.R_lt (kqR HO446.out))) (below_size (bq2 HB.out GE437.out GE440.out))) (blk_below (zb BK437.out) hb) (blk_below (zb BK440.out) hb) (below_step (bq2 HB.out GE437.out GE440.out) hb)
       clear HO_3 HO443 HO446 BK437 BK440 HB
       obtain ⟨HO_3, HO443, HO446, HO449, BK437, BK440, HB⟩ := n_
       (try clear hb ho0)
       obtain ⟨Ao41, co41, eo41⟩ := Kd.R_slice HO449.out
       (first | subst eo41 | (injection eo41 with f1_ f2_ f3_; have f4_ := f1_.symm; have f5_ := f3_.symm; clear f1_ f2_ f3_; subst f4_; subst f5_))
       refine hK.out _ _ ⟨(blk_cell BK440.out 0).trans rfl, (blk_cell BK440.out 1).trans rfl, (blk_cell BK440.out 2).trans rfl, (blk_cell BK440.out 3).trans rfl, (blk_cell BK440.out 4).trans rfl⟩ (fun hHeld => ?_)
       clear hK K
       refine norm_ (a' := ?_) ?_ ?_
       rotate_left
       · show Act.put _ (some 29) _ = _
         simp only [Act.put, List.setIfInBounds_toArray, List.set_cons_zero, List.set_cons_succ, i64_w, i32_w]
         rfl
       refine one_ (i := 7) (N := some 30) #[true, true, true, true, true, true, true, true, false, false, false, false, false] rfl rfl (one_of HT_.out (by kernel_rfl)) (by decide) (fun K hK => ?_)
       refine goes_ Try.func100 (by kernel_rfl) rfl #[.int .i64 48, .slice Ao41 t447.length co41] (by rfl) rfl rfl ga ?_
       with_reducible refine (impl_tlv.calls k1 48 _ _ t447 t450 false _ ?side1 ?side2 A14.out).mono ?_
       (case side1 => repeat (first | exact (Kd.R_reads' HO449.out).2.2 | (with_reducible refine Kd.C_alloc ?_ _) | (with_reducible refine Kd.C_drewN ?_ _) | (with_reducible refine Kd.C_drew ?_)))
       (case side2 => exact (Kd.R_reads' HO449.out).2.1)
       rintro e w42 ⟨v452, rfl, ho0, hb⟩
       refine ⟨_, rfl, ?_⟩
       have n_ := ak8 (Kd.R_elder' (kqR HO_3.out) (Kd.R_base ho0) hb) (Kd.R_elder' (kqR HO443.out) (Kd.R_base ho0) hb) (Kd.R_elder' (kqR HO446.out) (Kd.R_base ho0) hb) (Kd.R_elder' (kqR HO449.out) (Kd.R_base ho0) hb) (Kd.R_lower (Kd.R_new' (Kd.R_new' (Kd.R_new' (Kd.R_new' ho0 (Kd.R_lt (kqR HO_3.out))) (Kd.R_lt (kqR HO443.out))) (Kd.R_lt (kqR HO446.out))) (Kd.R_lt (kqR HO449.out))) (below_size (bq2 HB.out GE437.out GE440.out))) (blk_below (zb BK437.out) hb) (blk_below (zb BK440.out) hb) (below_step (bq2 HB.out GE437.out GE440.out) hb)
       clear HO_3 HO443 HO446 HO449 BK437 BK440 HB
       obtain ⟨HO_3, HO443, HO446, HO449, HO453, BK437, BK440, HB⟩ := n_
       (try clear hb ho0)
       refine hK.out _ _ ⟨(blk_cell BK440.out 0).trans rfl, (blk_cell BK440.out 1).trans rfl, (blk_cell BK440.out 2).trans rfl, (blk_cell BK440.out 3).trans rfl, (blk_cell BK440.out 4).trans rfl⟩ (fun hHeld => ?_)
       clear hK K
       refine norm_ (a' := ?_) ?_ ?_
       rotate_left
       · show Act.put _ (some 30) _ = _
         simp only [Act.put, List.setIfInBounds_toArray, List.set_cons_zero, List.set_cons_succ, i64_w, i32_w]
         rfl
       refine pu 8 (some 22) #[true, true, true, true, true, true, true, true, true, false, false, false, false] rfl rfl (any_of HT_.out (by kernel_rfl)) (Or.inl ⟨by rfl, by intro w'; go_simp; with_reducible rfl⟩) ?_
       refine pu 9 (some 31) #[true, true, true, true, true, true, true, true, true, true, false, false, false] rfl rfl (any_of HT_.out (by kernel_rfl)) (Or.inl ⟨by rfl, by intro w'; go_simp; with_reducible rfl⟩) ?_
       refine pu 10 (some 32) #[true, true, true, true, true, true, true, true, true, true, true, false, false] rfl rfl (any_of HT_.out (by kernel_rfl)) (Or.inl ⟨by rfl, by intro w'; go_simp; with_reducible rfl⟩) ?_
       refine pu 11 (some 6) #[true, true, true, true, true, true, true, true, true, true, true, true, false] rfl rfl (any_of HT_.out (by kernel_rfl)) (Or.inl ⟨by rfl, by intro w'; go_simp; with_reducible rfl⟩) ?_
       refine pu 12 (some 7) #[true, true, true, true, true, true, true, true, true, true, true, true, true] rfl rfl (any_of HT_.out (by kernel_rfl)) (Or.inl ⟨by rfl, by intro w'; go_simp; with_reducible rfl⟩) ?_
       refine done_ (done_of HT_.out (by kernel_rfl)) ?_
       try go_wp2
       go_ret
       exact ⟨_, rq, rn, bq2 HB.out GE437.out GE440.out⟩
     subst c15
     replace H : (if x3_1.length + t450.length < 140737488355328 then (impl_PutPdu.l0 k1 (x3_1 ++ t450) l0_4 (l0_4.length : Int) (wrap64 (x18_1 + 1)) a0_0 a0_1 a0_2 a0_3 l0_4) else (none)) = some r := by rw [if_pos rfl] at H; exact H
     by_cases c16 : x3_1.length + t450.length < 140737488355328
     rotate_left
     · rw [if_neg c16] at H
       exact absurd H (by simp)
     rw [if_pos c16] at H
     have LMc16 := am c16
     clear c16
     obtain ⟨y454, hy454⟩ : ∃ y_ : List Int, y_ = (x3_1 ++ t450) := ⟨_, rfl⟩
     replace H : (impl_PutPdu.l0 k1 y454 l0_4 (l0_4.length : Int) (wrap64 (x18_1 + 1)) a0_0 a0_1 a0_2 a0_3 l0_4) = some r := hx H hy454
     have Ny454 := am hy454
     clear hy454
     have H' := am H
     clear H
     have p439 : 0 ≤ (x18_1 : Int) := oda
     have q439 : x18_1 < (l0_4.length : Int) := oda
     obtain ⟨ad439, A439_0, c439_0, A439_4, c439_4, e439, hx439_0, hx439_1, hx439_2, hx439_3, hx439_4, hl439_0, hi439_0, hl439_4, hi439_4⟩ := at_T116 HR0_4.out x18_1 p439 q439
     cases e439
     replace hx439_0 := (HB.out.cell (World.block_lt_of_cell? w _ hx439_0)).trans hx439_0
     replace hx439_1 := (HB.out.cell (World.block_lt_of_cell? w _ hx439_1)).trans hx439_1
     replace hx439_2 := (HB.out.cell (World.block_lt_of_cell? w _ hx439_2)).trans hx439_2
     replace hx439_3 := (HB.out.cell (World.block_lt_of_cell? w _ hx439_3)).trans hx439_3
     replace hx439_4 := (HB.out.cell (World.block_lt_of_cell? w _ hx439_4)).trans hx439_4
     have HR439_0 := am hi439_0
     have HC439_0 := am hl439_0
     clear hi439_0 hl439_0
     have HR439_4 := am hi439_4
     have HC439_4 := am hl439_4
     clear hi439_4 hl439_4
     replace p439 := eq_true p439
     replace q439 := eq_true q439
     try go_wp2_with (first | ((with_reducible refine gate_dst (N := 5) rfl ?_); refine bxe 5 #[.slice none 0 0, .int .i64 0, .int .i64 0, .string (⟨#[]⟩ : ByteArray), .slice none 0 0] 116 ?_; intro gb440 hg w17 hbox hb; have n_ := ak8 (Kd.R_below (kqR HO_3.out) hb) (blk_below (zb BK437.out) hb) (below_step (bq1 HB.out GE437.out) hb) hbox ((by rw [hg]; exact (below_size (bq1 HB.out GE437.out)) : w.heap.size ≤ gb440)) ((by rw [hg]; exact (below_size (bq1 HB.out GE437.out)) : w.heap.size ≤ gb440)) ((nlt hg (zb BK437.out) : gb437 ≠ gb440)) ((ngt hg (zb BK437.out) : gb440 ≠ gb437)); clear HO_3 BK437 HB; obtain ⟨HO_3, BK437, HB, BK440, GW440, GE440, NB437_440, NB440_437⟩ := n_; clear hb hbox hg; have hnb18 := NB440_437.out; have hnc18 := NB437_440.out; obtain ⟨hcz19_0, hcz19_1, hcz19_2, hcz19_3, hcz19_4, hfz19_0, hfz19_1, hfz19_2, hfz19_3, hfz19_4⟩ := cl5 BK440.out) | ((with_reducible refine gate_store (t := 116) (p := 5) rfl ?_); refine store_event (t := 116) (p := 5) (v := ?vo_w20) (w1 := (((((w17.setCell ⟨gb440, 0, none⟩ (.slice A439_0 ((rd_T116 l0_4 x18_1).f0).length c439_0)).setCell ⟨gb440, 1, none⟩ (.int .i64 ((rd_T116 l0_4 x18_1).f1.f0))).setCell ⟨gb440, 2, none⟩ (.int .i64 ((rd_T116 l0_4 x18_1).f1.f1))).setCell ⟨gb440, 3, none⟩ (.string ((rd_T116 l0_4 x18_1).f1.f2))).setCell ⟨gb440, 4, none⟩ (.slice A439_4 ((rd_T116 l0_4 x18_1).f1.f3).length c439_4))) ?hg ?ho ?hn ?hr ?_; (case ho => rfl); (case hg => rfl); (case hn => rfl); (case hr => exact gs); intro w20 hw; have n_ : Aside0 (Kd.R (Kd.int .u8) 5 w20 w.heap.size (fun _ => True) u3 x3_1) ∧ Aside0 (w20.heap[gb437]? = some (.cells #[.int .i64 a0_0, .int .i64 a0_1, .int .i64 a0_2, .int .i64 a0_3, .slice (some ad439) l0_4.length c0_4] 58 (0, 0))) ∧ Aside0 (w20.heap[gb440]? = some (.cells #[.slice A439_0 ((rd_T116 l0_4 x18_1).f0).length c439_0, .int .i64 ((rd_T116 l0_4 x18_1).f1.f0), .int .i64 ((rd_T116 l0_4 x18_1).f1.f1), .string ((rd_T116 l0_4 x18_1).f1.f2), .slice A439_4 ((rd_T116 l0_4 x18_1).f1.f3).length c439_4] 116 (0, 0))) ∧ Aside0 (Below w.heap.size w w20) := ⟨⟨(by rw [hw]; exact (by refine kr ?_; exact Kd.R_mono (rf5 gb440 (.slice A439_0 ((rd_T116 l0_4 x18_1).f0).length c439_0) (.int .i64 ((rd_T116 l0_4 x18_1).f1.f0)) (.int .i64 ((rd_T116 l0_4 x18_1).f1.f1)) (.string ((rd_T116 l0_4 x18_1).f1.f2)) (.slice A439_4 ((rd_T116 l0_4 x18_1).f1.f3).length c439_4) (Kd.R_types HO_3.out BK440.out (by decide)) (fun _ hk => hk.2)) (fun _ hk => trivial)))⟩, ⟨(by rw [hw]; exact (by refine zr ?_; refine blk_far ?_ NB437_440.out _; refine zr ?_; refine blk_far ?_ NB437_440.out _; refine zr ?_; refine blk_far ?_ NB437_440.out _; refine zr ?_; refine blk_far ?_ NB437_440.out _; refine zr ?_; refine blk_far ?_ NB437_440.out _; refine zr ?_; exact BK437.out))⟩, ⟨(by rw [hw]; exact (by refine zr ?_; exact bp5 (zb BK440.out)))⟩, ⟨(by rw [hw]; exact (bq2 HB.out GE437.out GE440.out))⟩⟩; clear hw HO_3 BK437 BK440 HB; obtain ⟨HO_3, BK437, BK440, HB⟩ := n_))
     have n_ := ak4 (Kd.R_drew HO_3.out) (blk_drew BK437.out) (blk_drew BK440.out) (below_drew1 HB.out)
     clear HO_3 BK437 BK440 HB
     obtain ⟨HO_3, BK437, BK440, HB⟩ := n_
     refine start_ (n := 13) (S := fun w' => w'.cell? ⟨gb440, 0, none⟩ = some (.slice A439_0 ((rd_T116 l0_4 x18_1).f0).length c439_0) ∧ w'.cell? ⟨gb440, 1, none⟩ = some (.int .i64 ((rd_T116 l0_4 x18_1).f1.f0)) ∧ w'.cell? ⟨gb440, 2, none⟩ = some (.int .i64 ((rd_T116 l0_4 x18_1).f1.f1)) ∧ w'.cell? ⟨gb440, 3, none⟩ = some (.string ((rd_T116 l0_4 x18_1).f1.f2)) ∧ w'.cell? ⟨gb440, 4, none⟩ = some (.slice A439_4 ((rd_T116 l0_4 x18_1).f1.f3).length c439_4)) (ds := []) #[false, false, false, false, false, false, false, false, false, false, false, false, false] (by kernel_rfl) rfl rfl ⟨(blk_cell BK440.out 0).trans rfl, (blk_cell BK440.out 1).trans rfl, (blk_cell BK440.out 2).trans rfl, (blk_cell BK440.out 3).trans rfl, (blk_cell BK440.out 4).trans rfl⟩ (fun hHeld => ?_); refine with_tabW impl_PutPdu.tab7 impl_PutPdu.bits7 (fun HT_ HW_ => ?_)
     generalize w20.drew = w21 at HO_3 BK437 BK440 HB hHeld ⊢
     refine pu 0 (some 23) #[true, false, false, false, false, false, false, false, false, false, false, false, false] rfl rfl (any_of HT_.out (by kernel_rfl)) (Or.inl ⟨by rfl, by intro w'; go_simp; with_reducible rfl⟩) ?_
     refine pu 4 (some 27) #[true, false, false, false, true, false, false, false, false, false, false, false, false] rfl rfl (any_of HT_.out (by kernel_rfl)) (Or.inl ⟨by rfl, by intro w'; go_simp; with_reducible rfl⟩) ?_
     refine tk 1 (some 24) #[true, true, false, false, true, false, false, false, false, false, false, false, false] rfl rfl (take_ofW HT_.out HW_.out (by kernel_rfl)) hHeld (Or.inl ⟨by rfl, by rintro w' ⟨s0, s1, s2, s3, s4⟩; go_simp; with_reducible rfl⟩) ?_
     refine tk 5 (some 28) #[true, true, false, false, true, true, false, false, false, false, false, false, false] rfl rfl (take_ofW HT_.out HW_.out (by kernel_rfl)) hHeld (Or.inl ⟨by rfl, by rintro w' ⟨s0, s1, s2, s3, s4⟩; go_simp; with_reducible rfl⟩) ?_
     refine one_ (i := 2) (N := some 25) #[true, true, true, false, true, true, false, false, false, false, false, false, false] rfl rfl (one_of HT_.out (by kernel_rfl)) (by decide) (fun K hK => ?_)
     refine goes_ Try.func70 (by kernel_rfl) rfl #[.slice A439_0 ((rd_T116 l0_4 x18_1).f0).length c439_0] (by rfl) rfl rfl ga ?_
     with_reducible refine (impl_PutOid.calls k1 _ _ ((rd_T116 l0_4 x18_1).f0) t441 _ ?side1 ?side2 A11.out).mono ?_
     (case side1 => exact cq (Kd.C_below HR439_0.out HB.out))
     (case side2 => exact HC439_0.out)
     rintro e w22 ⟨v442, rfl, ho0, hb⟩
     refine ⟨_, rfl, ?_⟩
     have n_ := ak5 (Kd.R_elder' (kqR HO_3.out) (Kd.R_base ho0) hb) (Kd.R_lower (Kd.R_new' ho0 (Kd.R_lt (kqR HO_3.out))) (below_size (bq2 HB.out GE437.out GE440.out))) (blk_below (zb BK437.out) hb) (blk_below (zb BK440.out) hb) (below_step (bq2 HB.out GE437.out GE440.out) hb)
     clear HO_3 BK437 BK440 HB
     obtain ⟨HO_3, HO443, BK437, BK440, HB⟩ := n_
     (try clear hb ho0)
     obtain ⟨Ao23, co23, eo23⟩ := Kd.R_slice HO443.out
     (first | subst eo23 | (injection eo23 with f1_ f2_ f3_; have f4_ := f1_.symm; have f5_ := f3_.symm; clear f1_ f2_ f3_; subst f4_; subst f5_))
     refine hK.out _ _ ⟨(blk_cell BK440.out 0).trans rfl, (blk_cell BK440.out 1).trans rfl, (blk_cell BK440.out 2).trans rfl, (blk_cell BK440.out 3).trans rfl, (blk_cell BK440.out 4).trans rfl⟩ (fun hHeld => ?_)
     clear hK K
     refine norm_ (a' := ?_) ?_ ?_
     rotate_left
     · show Act.put _ (some 25) _ = _
       simp only [Act.put, List.setIfInBounds_toArray, List.set_cons_zero, List.set_cons_succ, i64_w, i32_w]
       rfl
     refine one_ (i := 3) (N := some 26) #[true, true, true, true, true, true, false, false, false, false, false, false, false] rfl rfl (one_of HT_.out (by kernel_rfl)) (by decide) (fun K hK => ?_)
     refine goes_ Try.func71 (by kernel_rfl) rfl #[.slice none 0 0, .int .i64 6, .slice Ao23 t441.length co23] (by rfl) rfl rfl ga ?_
     refine (impl_PutTlv.calls k1 _ _ ([] : List Int) 6 _ _ t441 t444 _ ?side1 ?side2 ?side3 ?side4 A12.out).mono ?_
     (case side1 => exact Kd.C_nil _ _)
     (case side2 => exact Nat.le_refl _)
     (case side3 => repeat (first | exact (Kd.R_reads' HO443.out).2.2 | (with_reducible refine Kd.C_alloc ?_ _) | (with_reducible refine Kd.C_drewN ?_ _) | (with_reducible refine Kd.C_drew ?_)))
     (case side4 => exact (Kd.R_reads' HO443.out).2.1)
     rintro e w24 ⟨v445, rfl, ho0, hb⟩
     refine ⟨_, rfl, ?_⟩
     have n_ := ak6 (Kd.R_elder' (kqR HO_3.out) (Kd.R_base ho0) hb) (Kd.R_elder' (kqR HO443.out) (Kd.R_base ho0) hb) (Kd.R_lower (Kd.R_new' (Kd.R_new' ho0 (Kd.R_lt (kqR HO_3.out))) (Kd.R_lt (kqR HO443.out))) (below_size (bq2 HB.out GE437.out GE440.out))) (blk_below (zb BK437.out) hb) (blk_below (zb BK440.out) hb) (below_step (bq2 HB.out GE437.out GE440.out) hb)
     clear HO_3 HO443 BK437 BK440 HB
     obtain ⟨HO_3, HO443, HO446, BK437, BK440, HB⟩ := n_
     (try clear hb ho0)
     obtain ⟨Ao25, co25, eo25⟩ := Kd.R_slice HO446.out
     (first | subst eo25 | (injection eo25 with f1_ f2_ f3_; have f4_ := f1_.symm; have f5_ := f3_.symm; clear f1_ f2_ f3_; subst f4_; subst f5_))
     refine hK.out _ _ ⟨(blk_cell BK440.out 0).trans rfl, (blk_cell BK440.out 1).trans rfl, (blk_cell BK440.out 2).trans rfl, (blk_cell BK440.out 3).trans rfl, (blk_cell BK440.out 4).trans rfl⟩ (fun hHeld => ?_)
     clear hK K
     refine norm_ (a' := ?_) ?_ ?_
     rotate_left
     · show Act.put _ (some 26) _ = _
       simp only [Act.put, List.setIfInBounds_toArray, List.set_cons_zero, List.set_cons_succ, i64_w, i32_w]
       rfl
     refine one_ (i := 6) (N := some 29) #[true, true, true, true, true, true, true, false, false, false, false, false, false] rfl rfl (one_of HT_.out (by kernel_rfl)) (by decide) (fun K hK => ?_)
     refine goes_ Try.func17 (by kernel_rfl) rfl #[.slice Ao25 t444.length co25, .agg #[.int .i64 ((rd_T116 l0_4 x18_1).f1.f0), .int .i64 ((rd_T116 l0_4 x18_1).f1.f1), .string ((rd_T116 l0_4 x18_1).f1.f2), .slice A439_4 ((rd_T116 l0_4 x18_1).f1.f3).length c439_4]] (by rfl) rfl rfl ga ?_
     with_reducible refine (impl_PutVal.calls k1 _ _ t444 ((rd_T116 l0_4 x18_1).f1.f0) ((rd_T116 l0_4 x18_1).f1.f1) ((rd_T116 l0_4 x18_1).f1.f2) _ _ ((rd_T116 l0_4 x18_1).f1.f3) t447 _ ?side1 ?side2 ?side3 ?side4 A13.out).mono ?_
     (case side1 => repeat (first | exact (Kd.R_reads' HO446.out).2.2 | (with_reducible refine Kd.C_alloc ?_ _) | (with_reducible refine Kd.C_drewN ?_ _) | (with_reducible refine Kd.C_drew ?_)))
     (case side2 => exact (Kd.R_reads' HO446.out).2.1)
     (case side3 => exact cq (Kd.C_below HR439_4.out HB.out))
     (case side4 => exact HC439_4.out)
     rintro e w26 ⟨v448, rfl, ho0, hb⟩
     refine ⟨_, rfl, ?_⟩
     have n_ := ak7 (Kd.R_elder' (kqR HO_3.out) (Kd.R_base ho0) hb) (Kd.R_elder' (kqR HO443.out) (Kd.R_base ho0) hb) (Kd.R_elder' (kqR HO446.out) (Kd.R_base ho0) hb) (Kd.R_lower (Kd.R_new' (Kd.R_new' (Kd.R_new' ho0 (Kd.R_lt (kqR HO_3.out))) (Kd.R_lt (kqR HO443.out))) (Kd.R_lt (kqR HO446.out))) (below_size (bq2 HB.out GE437.out GE440.out))) (blk_below (zb BK437.out) hb) (blk_below (zb BK440.out) hb) (below_step (bq2 HB.out GE437.out GE440.out) hb)
     clear HO_3 HO443 HO446 BK437 BK440 HB
     obtain ⟨HO_3, HO443, HO446, HO449, BK437, BK440, HB⟩ := n_
     (try clear hb ho0)
     obtain ⟨Ao27, co27, eo27⟩ := Kd.R_slice HO449.out
     (first | subst eo27 | (injection eo27 with f1_ f2_ f3_; have f4_ := f1_.symm; have f5_ := f3_.symm; clear f1_ f2_ f3_; subst f4_; subst f5_))
     refine hK.out _ _ ⟨(blk_cell BK440.out 0).trans rfl, (blk_cell BK440.out 1).trans rfl, (blk_cell BK440.out 2).trans rfl, (blk_cell BK440.out 3).trans rfl, (blk_cell BK440.out 4).trans rfl⟩ (fun hHeld => ?_)
     clear hK K
     refine norm_ (a' := ?_) ?_ ?_
     rotate_left
     · show Act.put _ (some 29) _ = _
       simp only [Act.put, List.setIfInBounds_toArray, List.set_cons_zero, List.set_cons_succ, i64_w, i32_w]
       rfl
     refine one_ (i := 7) (N := some 30) #[true, true, true, true, true, true, true, true, false, false, false, false, false] rfl rfl (one_of HT_.out (by kernel_rfl)) (by decide) (fun K hK => ?_)
     refine goes_ Try.func100 (by kernel_rfl) rfl #[.int .i64 48, .slice Ao27 t447.length co27] (by rfl) rfl rfl ga ?_
     with_reducible refine (impl_tlv.calls k1 48 _ _ t447 t450 true _ ?side1 ?side2 A14.out).mono ?_
     (case side1 => repeat (first | exact (Kd.R_reads' HO449.out).2.2 | (with_reducible refine Kd.C_alloc ?_ _) | (with_reducible refine Kd.C_drewN ?_ _) | (with_reducible refine Kd.C_drew ?_)))
     (case side2 => exact (Kd.R_reads' HO449.out).2.1)
     rintro e w28 ⟨v452, rfl, ho0, hb⟩
     refine ⟨_, rfl, ?_⟩
     have n_ := ak8 (Kd.R_elder' (kqR HO_3.out) (Kd.R_base ho0) hb) (Kd.R_elder' (kqR HO443.out) (Kd.R_base ho0) hb) (Kd.R_elder' (kqR HO446.out) (Kd.R_base ho0) hb) (Kd.R_elder' (kqR HO449.out) (Kd.R_base ho0) hb) (Kd.R_lower (Kd.R_new' (Kd.R_new' (Kd.R_new' (Kd.R_new' ho0 (Kd.R_lt (kqR HO_3.out))) (Kd.R_lt (kqR HO443.out))) (Kd.R_lt (kqR HO446.out))) (Kd.R_lt (kqR HO449.out))) (below_size (bq2 HB.out GE437.out GE440.out))) (blk_below (zb BK437.out) hb) (blk_below (zb BK440.out) hb) (below_step (bq2 HB.out GE437.out GE440.out) hb)
     clear HO_3 HO443 HO446 HO449 BK437 BK440 HB
     obtain ⟨HO_3, HO443, HO446, HO449, HO453, BK437, BK440, HB⟩ := n_
     (try clear hb ho0)
     refine hK.out _ _ ⟨(blk_cell BK440.out 0).trans rfl, (blk_cell BK440.out 1).trans rfl, (blk_cell BK440.out 2).trans rfl, (blk_cell BK440.out 3).trans rfl, (blk_cell BK440.out 4).trans rfl⟩ (fun hHeld => ?_)
     clear hK K
     refine norm_ (a' := ?_) ?_ ?_
     rotate_left
     · show Act.put _ (some 30) _ = _
       simp only [Act.put, List.setIfInBounds_toArray, List.set_cons_zero, List.set_cons_succ, i64_w, i32_w]
       rfl
     refine pu 8 (some 22) #[true, true, true, true, true, true, true, true, true, false, false, false, false] rfl rfl (any_of HT_.out (by kernel_rfl)) (Or.inl ⟨by rfl, by intro w'; go_simp; with_reducible rfl⟩) ?_
     refine pu 9 (some 31) #[true, true, true, true, true, true, true, true, true, true, false, false, false] rfl rfl (any_of HT_.out (by kernel_rfl)) (Or.inl ⟨by rfl, by intro w'; go_simp; with_reducible rfl⟩) ?_
     refine pu 10 (some 32) #[true, true, true, true, true, true, true, true, true, true, true, false, false] rfl rfl (any_of HT_.out (by kernel_rfl)) (Or.inl ⟨by rfl, by intro w'; go_simp; with_reducible rfl⟩) ?_
     refine pu 11 (some 6) #[true, true, true, true, true, true, true, true, true, true, true, true, false] rfl rfl (any_of HT_.out (by kernel_rfl)) (Or.inl ⟨by rfl, by intro w'; go_simp; with_reducible rfl⟩) ?_
     refine pu 12 (some 7) #[true, true, true, true, true, true, true, true, true, true, true, true, true] rfl rfl (any_of HT_.out (by kernel_rfl)) (Or.inl ⟨by rfl, by intro w'; go_simp; with_reducible rfl⟩) ?_
     refine done_ (done_of HT_.out (by kernel_rfl)) ?_
     obtain ⟨Ao30, co30, eo30⟩ := Kd.R_slice HO453.out
     subst eo30
     try go_wp2_with (first | ((with_reducible refine gate_builtin (b := .append) (xs := #[.tmp 35, .tmp 36]) rfl ?_); at_builtin; refine Kd.R_append_rows (Kd.int .u8) (w0 := w) w.heap.size rfl (.tmp 35) (.tmp 36) 22 5 (.int .u8 0) 1 rfl Try.underlying22 info5 rfl (by decide) (by omega) u3 x3_1 t450 _ _ _ (fun k_ => some k_ ≠ (.slice Ao23 t441.length co23 : Value).ownBlock ∧ some k_ ≠ (.slice Ao25 t444.length co25 : Value).ownBlock ∧ some k_ ≠ (.slice Ao27 t447.length co27 : Value).ownBlock ∧ some k_ ≠ (.slice Ao30 t450.length co30 : Value).ownBlock) (fun _ => False) rfl rfl ?aO ?aR (fun _ _ h => h) (fun _ h => h.elim) ?aF ?aB ?aS ?aL ?_; (case aR => repeat (first | exact (Kd.R_reads' HO453.out).2.2 | (with_reducible refine Kd.C_alloc ?_ _) | (with_reducible refine Kd.C_drewN ?_ _) | (with_reducible refine Kd.C_drew ?_))); (case aB => exact (bq2 HB.out GE437.out GE440.out)); (case aF => exact (fun k_ hk => ⟨Kd.fresh' (Kd.R_lt (kqR HO443.out)) k_ hk, Kd.fresh' (Kd.R_lt (kqR HO446.out)) k_ hk, Kd.fresh' (Kd.R_lt (kqR HO449.out)) k_ hk, Kd.fresh' (Kd.R_lt (kqR HO453.out)) k_ hk⟩)); (case aO => exact (by refine kr ?_; exact Kd.R_mono HO_3.out (fun _ hk => ⟨hk.1.1.1.2, ⟨hk.1.1.2, ⟨hk.1.2, hk.2⟩⟩⟩))); (case aS => exact (below_size (bq2 HB.out GE437.out GE440.out))); (case aL => have := LMc16.out; omega); intro v455 w29 ho hb hg hat; rw [← Ny454.out] at ho; have n_ := ak8 (blk_grown (g := gb437) (o := .cells #[.int .i64 a0_0, .int .i64 a0_1, .int .i64 a0_2, .int .i64 a0_3, .slice (some ad439) l0_4.length c0_4] 58 (0, 0)) (zq BK437.out) hg (Kd.R_ne HO_3.out BK437.out (by decide))) (blk_grown (g := gb440) (o := .cells #[.slice A439_0 ((rd_T116 l0_4 x18_1).f0).length c439_0, .int .i64 ((rd_T116 l0_4 x18_1).f1.f0), .int .i64 ((rd_T116 l0_4 x18_1).f1.f1), .string ((rd_T116 l0_4 x18_1).f1.f2), .slice A439_4 ((rd_T116 l0_4 x18_1).f1.f3).length c439_4] 116 (0, 0)) (zq BK440.out) hg (Kd.R_ne HO_3.out BK440.out (by decide))) (Kd.R_after (ok := (fun k_ => some k_ ≠ (.slice Ao25 t444.length co25 : Value).ownBlock ∧ some k_ ≠ (.slice Ao27 t447.length co27 : Value).ownBlock ∧ some k_ ≠ (.slice Ao30 t450.length co30 : Value).ownBlock)) (by refine kr ?_; exact Kd.R_mono HO443.out (fun _ hk => ⟨⟨hk.1.1.2, ⟨hk.1.2, hk.2⟩⟩, hk.1.1.1.2⟩)) hg hat) (Kd.R_after (ok := (fun k_ => some k_ ≠ (.slice Ao23 t441.length co23 : Value).ownBlock ∧ some k_ ≠ (.slice Ao27 t447.length co27 : Value).ownBlock ∧ some k_ ≠ (.slice Ao30 t450.length co30 : Value).ownBlock)) (by refine kr ?_; exact Kd.R_mono HO446.out (fun _ hk => ⟨⟨hk.1.1.2, ⟨hk.1.2, hk.2⟩⟩, hk.1.1.1.2⟩)) hg hat) (Kd.R_after (ok := (fun k_ => some k_ ≠ (.slice Ao23 t441.length co23 : Value).ownBlock ∧ some k_ ≠ (.slice Ao25 t444.length co25 : Value).ownBlock ∧ some k_ ≠ (.slice Ao30 t450.length co30 : Value).ownBlock)) (by refine kr ?_; exact Kd.R_mono HO449.out (fun _ hk => ⟨⟨hk.1.1.2, ⟨hk.1.2, hk.2⟩⟩, hk.1.1.1.2⟩)) hg hat) (Kd.R_after (ok := (fun k_ => some k_ ≠ (.slice Ao23 t441.length co23 : Value).ownBlock ∧ some k_ ≠ (.slice Ao25 t444.length co25 : Value).ownBlock ∧ some k_ ≠ (.slice Ao27 t447.length co27 : Value).ownBlock)) (by refine kr ?_; exact Kd.R_mono HO453.out (fun _ hk => ⟨⟨hk.1.1.2, ⟨hk.1.2, hk.2⟩⟩, hk.1.1.1.2⟩)) hg hat) hb ho; clear BK437 BK440 HO443 HO446 HO449 HO453 HB HO_3; obtain ⟨BK437, BK440, HO443, HO446, HO449, HO453, HB, HO456⟩ := n_; clear ho hb hg hat))
     go_roundg k1
     case measure => have := HK1.out; omega
     case rel => exact ⟨(y454), (wrap64 (x18_1 + 1)), sq, H', ⟨by have := HK1.out; omega⟩, ⟨by refine kr ?_; exact Kd.R_mono HO456.out (fun _ hk => trivial)⟩, ⟨zq BK437.out⟩, ⟨bq2 HB.out GE437.out GE440.out⟩⟩
   rw [if_neg c8] at H
   have c8b0 : decide (x18_1 < (l0_4.length : Int)) = false := decide_eq_false c8
   clear c8
   replace H := Option.bind_eq_some_iff.mp H
   obtain ⟨⟨t457, t458⟩, A430, H⟩ := H
   replace H : (if t458 = true then ((impl_addNum.f k1 ([] : List Int) 2 a0_1).bind fun t461 => ((impl_addNum.f k1 t461 2 a0_2).bind fun t464 => ((impl_addNum.f k1 t464 2 a0_3).bind fun t467 => (if t467.length + t457.length < 140737488355328 then ((impl_tlv.f k1 a0_0 (t467 ++ t457)).bind fun bt473 => (if bt473.2 = true then (some bt473.1) else (some ([] : List Int)))) else (none))))) else (some ([] : List Int))) = some r := H
   have A43 := am A430
   clear A430
   by_cases c44 : t458 = true
   rotate_left
   · replace c44 := Bool.eq_false_iff.mpr c44
     subst c44
     replace H : (some ([] : List Int)) = some r := by rw [if_neg (show ¬ (false = true) by decide)] at H; exact H
     obtain rfl := Option.some.inj H
     obtain ⟨Ao75, co75, eo75⟩ := Kd.R_slice HO_3.out
     subst eo75
     go_wp2_with (first | ((with_reducible refine gate_callee (f := 100) rfl ?_); refine goesL_ (some 41) rfl rfl Try.func100 (by kernel_rfl) rfl #[.int .i64 48, .slice Ao75 x3_1.length co75] rfl ga ?_; (with_reducible refine (impl_tlv.calls k1 48 _ _ x3_1 t457 false _ ?side1 ?side2 A43.out).mono ?_); (case side1 => repeat (first | exact (Kd.R_reads' HO_3.out).2.2 | (with_reducible refine Kd.C_alloc ?_ _) | (with_reducible refine Kd.C_drewN ?_ _) | (with_reducible refine Kd.C_drew ?_))); (case side2 => exact (Kd.R_reads' HO_3.out).2.1); rintro e w76 ⟨v459, rfl, ho0, hb⟩; refine ⟨_, rfl, ?_⟩; have n_ := ak4 (Kd.R_elder' (kqR HO_3.out) (Kd.R_base ho0) hb) (Kd.R_lower (Kd.R_new' ho0 (Kd.R_lt (kqR HO_3.out))) (below_size (bq1 HB.out GE437.out))) (blk_below (zb BK437.out) hb) (below_step (bq1 HB.out GE437.out) hb); clear HO_3 BK437 HB; obtain ⟨HO_3, HO460, BK437, HB⟩ := n_; (try clear hb ho0)))
     go_ret
     exact ⟨_, rq, rn, bq1 HB.out GE437.out⟩
   subst c44
   replace H : ((impl_addNum.f k1 ([] : List Int) 2 a0_1).bind fun t461 => ((impl_addNum.f k1 t461 2 a0_2).bind fun t464 => ((impl_addNum.f k1 t464 2 a0_3).bind fun t467 => (if t467.length + t457.length < 140737488355328 then ((impl_tlv.f k1 a0_0 (t467 ++ t457)).bind fun bt473 => (if bt473.2 = true then (some bt473.1) else (some ([] : List Int)))) else (none))))) = some r := by rw [if_pos rfl] at H; exact H
   replace H := Option.bind_eq_some_iff.mp H
   obtain ⟨t461, A450, H⟩ := H
   replace H : ((impl_addNum.f k1 t461 2 a0_2).bind fun t464 => ((impl_addNum.f k1 t464 2 a0_3).bind fun t467 => (if t467.length + t457.length < 140737488355328 then ((impl_tlv.f k1 a0_0 (t467 ++ t457)).bind fun bt473 => (if bt473.2 = true then (some bt473.1) else (some ([] : List Int)))) else (none)))) = some r := H
   have A45 := am A450
   clear A450
   replace H := Option.bind_eq_some_iff.mp H
   obtain ⟨t464, A460, H⟩ := H
   replace H : ((impl_addNum.f k1 t464 2 a0_3).bind fun t467 => (if t467.length + t457.length < 140737488355328 then ((impl_tlv.f k1 a0_0 (t467 ++ t457)).bind fun bt473 => (if bt473.2 = true then (some bt473.1) else (some ([] : List Int)))) else (none))) = some r := H
   have A46 := am A460
   clear A460
   replace H := Option.bind_eq_some_iff.mp H
   obtain ⟨t467, A470, H⟩ := H
   replace H : (if t467.length + t457.length < 140737488355328 then ((impl_tlv.f k1 a0_0 (t467 ++ t457)).bind fun bt473 => (if bt473.2 = true then (some bt473.1) else (some ([] : List Int)))) else (none)) = some r := H
   have A47 := am A470
   clear A470
   by_cases c48 : t467.length + t457.length < 140737488355328
   rotate_left
   · rw [if_neg c48] at H
     exact absurd H (by simp)
   rw [if_pos c48] at H
   have LMc48 := am c48
   clear c48
   obtain ⟨y470, hy470⟩ : ∃ y_ : List Int, y_ = (t467 ++ t457) := ⟨_, rfl⟩
   replace H : ((impl_tlv.f k1 a0_0 y470).bind fun bt473 => (if bt473.2 = true then (some bt473.1) else (some ([] : List Int)))) = some r := hx H hy470
   have Ny470 := am hy470
   clear hy470
   replace H := Option.bind_eq_some_iff.mp H
   obtain ⟨⟨t473, t474⟩, A490, H⟩ := H
   replace H : (if t474 = true then (some t473) else (some ([] : List Int))) = some r := H
   have A49 := am A490
   clear A490
   by_cases c50 : t474 = true
   · subst c50
     replace H : (some t473) = some r := by rw [if_pos rfl] at H; exact H
     obtain rfl := Option.some.inj H
     obtain ⟨Ao51, co51, eo51⟩ := Kd.R_slice HO_3.out
     subst eo51
     try go_wp2_with (first | ((with_reducible refine gate_callee (f := 100) rfl ?_); refine goesL_ (some 41) rfl rfl Try.func100 (by kernel_rfl) rfl #[.int .i64 48, .slice Ao51 x3_1.length co51] rfl ga ?_; (with_reducible refine (impl_tlv.calls k1 48 _ _ x3_1 t457 true _ ?side1 ?side2 A43.out).mono ?_); (case side1 => repeat (first | exact (Kd.R_reads' HO_3.out).2.2 | (with_reducible refine Kd.C_alloc ?_ _) | (with_reducible refine Kd.C_drewN ?_ _) | (with_reducible refine Kd.C_drew ?_))); (case side2 => exact (Kd.R_reads' HO_3.out).2.1); rintro e w52 ⟨v459, rfl, ho0, hb⟩; refine ⟨_, rfl, ?_⟩; have n_ := ak4 (Kd.R_elder' (kqR HO_3.out) (Kd.R_base ho0) hb) (Kd.R_lower (Kd.R_new' ho0 (Kd.R_lt (kqR HO_3.out))) (below_size (bq1 HB.out GE437.out))) (blk_below (zb BK437.out) hb) (below_step (bq1 HB.out GE437.out) hb); clear HO_3 BK437 HB; obtain ⟨HO_3, HO460, BK437, HB⟩ := n_; (try clear hb ho0)))
     have n_ := ak4 (Kd.R_drew HO_3.out) (Kd.R_drew HO460.out) (blk_drew BK437.out) (below_drew1 HB.out)
     clear HO_3 HO460 BK437 HB
     obtain ⟨HO_3, HO460, BK437, HB⟩ := n_
     refine start_ (n := 19) (S := fun w' => w'.cell? ⟨gb437, 0, none⟩ = some (.int .i64 a0_0) ∧ w'.cell? ⟨gb437, 1, none⟩ = some (.int .i64 a0_1) ∧ w'.cell? ⟨gb437, 2, none⟩ = some (.int .i64 a0_2) ∧ w'.cell? ⟨gb437, 3, none⟩ = some (.int .i64 a0_3) ∧ w'.cell? ⟨gb437, 4, none⟩ = some (.slice A0_4 l0_4.length c0_4)) (ds := []) #[false, false, false, false, false, false, false, false, false, false, false, false, false, false, false, false, false, false, false] (by kernel_rfl) rfl rfl ⟨(blk_cell BK437.out 0).trans rfl, (blk_cell BK437.out 1).trans rfl, (blk_cell BK437.out 2).trans rfl, (blk_cell BK437.out 3).trans rfl, (blk_cell BK437.out 4).trans rfl⟩ (fun hHeld => ?_); refine with_tabW impl_PutPdu.tab15 impl_PutPdu.bits15 (fun HT_ HW_ => ?_)
     generalize w52.drew = w53 at HO_3 HO460 BK437 HB hHeld ⊢
     refine pu 0 (some 47) #[true, false, false, false, false, false, false, false, false, false, false, false, false, false, false, false, false, false, false] rfl rfl (any_of HT_.out (by kernel_rfl)) (Or.inl ⟨by rfl, by intro w'; go_simp; with_reducible rfl⟩) ?_
     refine pu 2 (some 49) #[true, false, true, false, false, false, false, false, false, false, false, false, false, false, false, false, false, false, false] rfl rfl (any_of HT_.out (by kernel_rfl)) (Or.inl ⟨by rfl, by intro w'; go_simp; with_reducible rfl⟩) ?_
     refine pu 5 (some 52) #[true, false, true, false, false, true, false, false, false, false, false, false, false, false, false, false, false, false, false] rfl rfl (any_of HT_.out (by kernel_rfl)) (Or.inl ⟨by rfl, by intro w'; go_simp; with_reducible rfl⟩) ?_
     refine pu 8 (some 55) #[true, false, true, false, false, true, false, false, true, false, false, false, false, false, false, false, false, false, false] rfl rfl (any_of HT_.out (by kernel_rfl)) (Or.inl ⟨by rfl, by intro w'; go_simp; with_reducible rfl⟩) ?_
     refine pu 11 (some 58) #[true, false, true, false, false, true, false, false, true, false, false, true, false, false, false, false, false, false, false] rfl rfl (any_of HT_.out (by kernel_rfl)) (Or.inl ⟨by rfl, by intro w'; go_simp; with_reducible rfl⟩) ?_
     refine tk 1 (some 48) #[true, true, true, false, false, true, false, false, true, false, false, true, false, false, false, false, false, false, false] rfl rfl (take_ofW HT_.out HW_.out (by kernel_rfl)) hHeld (Or.inl ⟨by rfl, by rintro w' ⟨s0, s1, s2, s3, s4⟩; go_simp; with_reducible rfl⟩) ?_
     refine tk 3 (some 50) #[true, true, true, true, false, true, false, false, true, false, false, true, false, false, false, false, false, false, false] rfl rfl (take_ofW HT_.out HW_.out (by kernel_rfl)) hHeld (Or.inl ⟨by rfl, by rintro w' ⟨s0, s1, s2, s3, s4⟩; go_simp; with_reducible rfl⟩) ?_
     refine tk 6 (some 53) #[true, true, true, true, false, true, true, false, true, false, false, true, false, false, false, false, false, false, false] rfl rfl (take_ofW HT_.out HW_.out (by kernel_rfl)) hHeld (Or.inl ⟨by rfl, by rintro w' ⟨s0, s1, s2, s3, s4⟩; go_simp; with_reducible rfl⟩) ?_
     refine tk 9 (some 56) #[true, true, true, true, false, true, true, false, true, true, false, true, false, false, false, false, false, false, false] rfl rfl (take_ofW HT_.out HW_.out (by kernel_rfl)) hHeld (Or.inl ⟨by rfl, by rintro w' ⟨s0, s1, s2, s3, s4⟩; go_simp; with_reducible rfl⟩) ?_
     refine one_ (i := 4) (N := some 51) #[true, true, true, true, true, true, true, false, true, true, false, true, false, false, false, false, false, false, false] rfl rfl (one_of HT_.out (by kernel_rfl)) (by decide) (fun K hK => ?_)
     refine goes_ Try.func76 (by kernel_rfl) rfl #[.slice none 0 0, .int .i64 2, .int .i64 a0_1] (by rfl) rfl rfl ga ?_
     refine (impl_addNum.calls k1 _ _ ([] : List Int) 2 a0_1 t461 _ ?side1 ?side2 A45.out).mono ?_
     (case side1 => exact Kd.C_nil _ _)
     (case side2 => exact Nat.le_refl _)
     rintro e w54 ⟨v462, rfl, ho0, hb⟩
     refine ⟨_, rfl, ?_⟩
     have n_ := ak5 (Kd.R_elder' (kqR HO_3.out) (Kd.R_base ho0) hb) (Kd.R_elder' (kqR HO460.out) (Kd.R_base ho0) hb) (Kd.R_lower (Kd.R_new' (Kd.R_new' ho0 (Kd.R_lt (kqR HO_3.out))) (Kd.R_lt (kqR HO460.out))) (below_size (bq1 HB.out GE437.out))) (blk_below (zb BK437.out) hb) (below_step (bq1 HB.out GE437.out) hb)
     clear HO_3 HO460 BK437 HB
     obtain ⟨HO_3, HO460, HO463, BK437, HB⟩ := n_
     (try clear hb ho0)
     obtain ⟨Ao55, co55, eo55⟩ := Kd.R_slice HO463.out
     (first | subst eo55 | (injection eo55 with f1_ f2_ f3_; have f4_ := f1_.symm; have f5_ := f3_.symm; clear f1_ f2_ f3_; subst f4_; subst f5_))
     refine hK.out _ _ ⟨(blk_cell BK437.out 0).trans rfl, (blk_cell BK437.out 1).trans rfl, (blk_cell BK437.out 2).trans rfl, (blk_cell BK437.out 3).trans rfl, (blk_cell BK437.out 4).trans rfl⟩ (fun hHeld => ?_)
     clear hK K
     refine norm_ (a' := ?_) ?_ ?_
     rotate_left
     · show Act.put _ (some 51) _ = _
       simp only [Act.put, List.setIfInBounds_toArray, List.set_cons_zero, List.set_cons_succ, i64_w, i32_w]
       rfl
     refine one_ (i := 7) (N := some 54) #[true, true, true, true, true, true, true, true, true, true, false, true, false, false, false, false, false, false, false] rfl rfl (one_of HT_.out (by kernel_rfl)) (by decide) (fun K hK => ?_)
     refine goes_ Try.func76 (by kernel_rfl) rfl #[.slice Ao55 t461.length co55, .int .i64 2, .int .i64 a0_2] (by rfl) rfl rfl ga ?_
     with_reducible refine (impl_addNum.calls k1 _ _ t461 2 a0_2 t464 _ ?side1 ?side2 A46.out).mono ?_
     (case side1 => repeat (first | exact (Kd.R_reads' HO463.out).2.2 | (with_reducible refine Kd.C_alloc ?_ _) | (with_reducible refine Kd.C_drewN ?_ _) | (with_reducible refine Kd.C_drew ?_)))
     (case side2 => exact (Kd.R_reads' HO463.out).2.1)
     rintro e w56 ⟨v465, rfl, ho0, hb⟩
     refine ⟨_, rfl, ?_⟩
     have n_ := ak6 (Kd.R_elder' (kqR HO_3.out) (Kd.R_base ho0) hb) (Kd.R_elder' (kqR HO460.out) (Kd.R_base ho0) hb) (Kd.R_elder' (kqR HO463.out) (Kd.R_base ho0) hb) (Kd.R_lower (Kd.R_new' (Kd.R_new' (Kd.R_new' ho0 (Kd.R_lt (kqR HO_3.out))) (Kd.R_lt (kqR HO460.out))) (Kd.R_lt (kqR HO463.out))) (below_size (bq1 HB.out GE437.out))) (blk_below (zb BK437.out) hb) (below_step (bq1 HB.out GE437.out) hb)
     clear HO_3 HO460 HO463 BK437 HB
     obtain ⟨HO_3, HO460, HO463, HO466, BK437, HB⟩ := n_
     (try clear hb ho0)
     obtain ⟨Ao57, co57, eo57⟩ := Kd.R_slice HO466.out
     (first | subst eo57 | (injection eo57 with f1_ f2_ f3_; have f4_ := f1_.symm; have f5_ := f3_.symm; clear f1_ f2_ f3_; subst f4_; subst f5_))
     refine hK.out _ _ ⟨(blk_cell BK437.out 0).trans rfl, (blk_cell BK437.out 1).trans rfl, (blk_cell BK437.out 2).trans rfl, (blk_cell BK437.out 3).trans rfl, (blk_cell BK437.out 4).trans rfl⟩ (fun hHeld => ?_)
     clear hK K
     refine norm_ (a' := ?_) ?_ ?_
     rotate_left
     · show Act.put _ (some 54) _ = _
       simp only [Act.put, List.setIfInBounds_toArray, List.set_cons_zero, List.set_cons_succ, i64_w, i32_w]
       rfl
     refine one_ (i := 10) (N := some 57) #[true, true, true, true, true, true, true, true, true, true, true, true, false, false, false, false, false, false, false] rfl rfl (one_of HT_.out (by kernel_rfl)) (by decide) (fun K hK => ?_)
     refine goes_ Try.func76 (by kernel_rfl) rfl #[.slice Ao57 t464.length co57, .int .i64 2, .int .i64 a0_3] (by rfl) rfl rfl ga ?_
     with_reducible refine (impl_addNum.calls k1 _ _ t464 2 a0_3 t467 _ ?side1 ?side2 A47.out).mono ?_
     (case side1 => repeat (first | exact (Kd.R_reads' HO466.out).2.2 | (with_reducible refine Kd.C_alloc ?_ _) | (with_reducible refine Kd.C_drewN ?_ _) | (with_reducible refine Kd.C_drew ?_)))
     (case side2 => exact (Kd.R_reads' HO466.out).2.1)
     rintro e w58 ⟨v468, rfl, ho0, hb⟩
     refine ⟨_, rfl, ?_⟩
     have n_ := ak7 (Kd.R_elder' (kqR HO_3.out) (Kd.R_base ho0) hb) (Kd.R_elder' (kqR HO460.out) (Kd.R_base ho0) hb) (Kd.R_elder' (kqR HO463.out) (Kd.R_base ho0) hb) (Kd.R_elder' (kqR HO466.out) (Kd.R_base ho0) hb) (Kd.R_lower (Kd.R_new' (Kd.R_new' (Kd.R_new' (Kd.R_new' ho0 (Kd.R_lt (kqR HO_3.out))) (Kd.R_lt (kqR HO460.out))) (Kd.R_lt (kqR HO463.out))) (Kd.R_lt (kqR HO466.out))) (below_size (bq1 HB.out GE437.out))) (blk_below (zb BK437.out) hb) (below_step (bq1 HB.out GE437.out) hb)
     clear HO_3 HO460 HO463 HO466 BK437 HB
     obtain ⟨HO_3, HO460, HO463, HO466, HO469, BK437, HB⟩ := n_
     (try clear hb ho0)
     obtain ⟨Ao60, co60, eo60⟩ := Kd.R_slice HO460.out
     (first | subst eo60 | (injection eo60 with f1_ f2_ f3_; have f4_ := f1_.symm; have f5_ := f3_.symm; clear f1_ f2_ f3_; subst f4_; subst f5_))
     refine hK.out _ _ ⟨(blk_cell BK437.out 0).trans rfl, (blk_cell BK437.out 1).trans rfl, (blk_cell BK437.out 2).trans rfl, (blk_cell BK437.out 3).trans rfl, (blk_cell BK437.out 4).trans rfl⟩ (fun hHeld => ?_)
     clear hK K
     refine norm_ (a' := ?_) ?_ ?_
     rotate_left
     · show Act.put _ (some 57) _ = _
       simp only [Act.put, List.setIfInBounds_toArray, List.set_cons_zero, List.set_cons_succ, i64_w, i32_w]
       rfl
     refine one_ (i := 12) (N := some 59) #[true, true, true, true, true, true, true, true, true, true, true, true, true, false, false, false, false, false, false] rfl rfl (one_of HT_.out (by kernel_rfl)) (by decide) (fun K hK => ?_)
     refine Kd.R_append_rows_step (Kd.int .u8) (w0 := w) w.heap.size (by rfl) (.tmp 57) (.tmp 58) 22 5 (.int .u8 0) 1 rfl Try.underlying22 info5 rfl (by decide) (by omega) v468 t467 t457 _ _ _ (fun k_ => some k_ ≠ (.slice Ao51 x3_1.length co51 : Value).ownBlock ∧ some k_ ≠ (.slice Ao60 t457.length co60 : Value).ownBlock ∧ some k_ ≠ (.slice Ao55 t461.length co55 : Value).ownBlock ∧ some k_ ≠ (.slice Ao57 t464.length co57 : Value).ownBlock) (fun _ => False) rfl rfl ?aO ?aR (fun _ _ h => h) (fun _ h => h.elim) ?aF ?aB ?aS ?aL ?_
     (case aR => repeat (first | exact (Kd.R_reads' HO460.out).2.2 | (with_reducible refine Kd.C_alloc ?_ _) | (with_reducible refine Kd.C_drewN ?_ _) | (with_reducible refine Kd.C_drew ?_)))
     (case aB => exact (bq1 HB.out GE437.out))
     (case aF => exact (fun k_ hk => ⟨Kd.fresh' (Kd.R_lt (kqR HO_3.out)) k_ hk, Kd.fresh' (Kd.R_lt (kqR HO460.out)) k_ hk, Kd.fresh' (Kd.R_lt (kqR HO463.out)) k_ hk, Kd.fresh' (Kd.R_lt (kqR HO466.out)) k_ hk⟩))
     (case aO => exact (by refine kr ?_; exact Kd.R_mono HO469.out (fun _ hk => ⟨hk.1.1.1.2, ⟨hk.1.1.2, ⟨hk.1.2, hk.2⟩⟩⟩)))
     (case aS => exact (below_size (bq1 HB.out GE437.out)))
     (case aL => have := LMc48.out; omega)
     intro v471 w59 ho hb hg hat
     rw [← Ny470.out] at ho
     have n_ := ak7 (Kd.R_after (ok := (fun k_ => some k_ ≠ (.slice Ao60 t457.length co60 : Value).ownBlock ∧ some k_ ≠ (.slice Ao55 t461.length co55 : Value).ownBlock ∧ some k_ ≠ (.slice Ao57 t464.length co57 : Value).ownBlock)) (by refine kr ?_; exact Kd.R_mono HO_3.out (fun _ hk => ⟨⟨hk.1.1.1.2, ⟨hk.1.1.2, hk.1.2⟩⟩, hk.2⟩)) hg hat) (blk_grown (g := gb437) (o := .cells #[.int .i64 a0_0, .int .i64 a0_1, .int .i64 a0_2, .int .i64 a0_3, .slice A0_4 l0_4.length c0_4] 58 (0, 0)) (zq BK437.out) hg (Kd.R_ne HO469.out BK437.out (by decide))) (Kd.R_after (ok := (fun k_ => some k_ ≠ (.slice Ao51 x3_1.length co51 : Value).ownBlock ∧ some k_ ≠ (.slice Ao55 t461.length co55 : Value).ownBlock ∧ some k_ ≠ (.slice Ao57 t464.length co57 : Value).ownBlock)) (by refine kr ?_; exact Kd.R_mono HO460.out (fun _ hk => ⟨⟨hk.1.1.1.2, ⟨hk.1.1.2, hk.1.2⟩⟩, hk.2⟩)) hg hat) (Kd.R_after (ok := (fun k_ => some k_ ≠ (.slice Ao51 x3_1.length co51 : Value).ownBlock ∧ some k_ ≠ (.slice Ao60 t457.length co60 : Value).ownBlock ∧ some k_ ≠ (.slice Ao57 t464.length co57 : Value).ownBlock)) (by refine kr ?_; exact Kd.R_mono HO463.out (fun _ hk => ⟨⟨hk.1.1.1.2, ⟨hk.1.1.2, hk.1.2⟩⟩, hk.2⟩)) hg hat) (Kd.R_after (ok := (fun k_ => some k_ ≠ (.slice Ao51 x3_1.length co51 : Value).ownBlock ∧ some k_ ≠ (.slice Ao60 t457.length co60 : Value).ownBlock ∧ some k_ ≠ (.slice Ao55 t461.length co55 : Value).ownBlock)) (by refine kr ?_; exact Kd.R_mono HO466.out (fun _ hk => ⟨⟨hk.1.1.1.2, ⟨hk.1.1.2, hk.1.2⟩⟩, hk.2⟩)) hg hat) hb ho
     clear HO_3 BK437 HO460 HO463 HO466 HB HO469
     obtain ⟨HO_3, BK437, HO460, HO463, HO466, HB, HO472⟩ := n_
     clear ho hb hg hat
     obtain ⟨Ao61, co61, eo61⟩ := Kd.R_slice HO472.out
     (first | subst eo61 | (injection eo61 with f1_ f2_ f3_; have f4_ := f1_.symm; have f5_ := f3_.symm; clear f1_ f2_ f3_; subst f4_; subst f5_))
     refine hK.out _ _ ⟨(blk_cell BK437.out 0).trans rfl, (blk_cell BK437.out 1).trans rfl, (blk_cell BK437.out 2).trans rfl, (blk_cell BK437.out 3).trans rfl, (blk_cell BK437.out 4).trans rfl⟩ (fun hHeld => ?_)
     clear hK K
     refine norm_ (a' := ?_) ?_ ?_
     rotate_left
     · show Act.put _ (some 59) _ = _
       simp only [Act.put, List.setIfInBounds_toArray, List.set_cons_zero, List.set_cons_succ, i64_w, i32_w]
       rfl
     refine one_ (i := 13) (N := some 60) #[true, true, true, true, true, true, true, true, true, true, true, true, true, true, false, false, false, false, false] rfl rfl (one_of HT_.out (by kernel_rfl)) (by decide) (fun K hK => ?_)
     refine goes_ Try.func100 (by kernel_rfl) rfl #[.int .i64 a0_0, .slice Ao61 y470.length co61] (by rfl) rfl rfl ga ?_
     with_reducible refine (impl_tlv.calls k1 a0_0 _ _ y470 t473 true _ ?side1 ?side2 A49.out).mono ?_
     (case side1 => repeat (first | exact (Kd.R_reads' HO472.out).2.2 | (with_reducible refine Kd.C_alloc ?_ _) | (with_reducible refine Kd.C_drewN ?_ _) | (with_reducible refine Kd.C_drew ?_)))
     (case side2 => exact (Kd.R_reads' HO472.out).2.1)
     rintro e w62 ⟨v475, rfl, ho0, hb⟩
     refine ⟨_, rfl, ?_⟩
     have n_ := ak8 (Kd.R_elder' (kqR HO_3.out) (Kd.R_base ho0) hb) (Kd.R_elder' (kqR HO460.out) (Kd.R_base ho0) hb) (Kd.R_elder' (kqR HO463.out) (Kd.R_base ho0) hb) (Kd.R_elder' (kqR HO466.out) (Kd.R_base ho0) hb) (Kd.R_elder' (kqR HO472.out) (Kd.R_base ho0) hb) (Kd.R_lower (Kd.R_new' (Kd.R_new' (Kd.R_new' (Kd.R_new' (Kd.R_new' ho0 (Kd.R_lt (kqR HO_3.out))) (Kd.R_lt (kqR HO460.out))) (Kd.R_lt (kqR HO463.out))) (Kd.R_lt (kqR HO466.out))) (Kd.R_lt (kqR HO472.out))) (below_size (bq1 HB.out GE437.out))) (blk_below (zb BK437.out) hb) (below_step (bq1 HB.out GE437.out) hb)
     clear HO_3 HO460 HO463 HO466 HO472 BK437 HB
     obtain ⟨HO_3, HO460, HO463, HO466, HO472, HO476, BK437, HB⟩ := n_
     (try clear hb ho0)
     refine hK.out _ _ ⟨(blk_cell BK437.out 0).trans rfl, (blk_cell BK437.out 1).trans rfl, (blk_cell BK437.out 2).trans rfl, (blk_cell BK437.out 3).trans rfl, (blk_cell BK437.out 4).trans rfl⟩ (fun hHeld => ?_)
     clear hK K
     refine norm_ (a' := ?_) ?_ ?_
     rotate_left
     · show Act.put _ (some 60) _ = _
       simp only [Act.put, List.setIfInBounds_toArray, List.set_cons_zero, List.set_cons_succ, i64_w, i32_w]
       rfl
     refine pu 14 (some 46) #[true, true, true, true, true, true, true, true, true, true, true, true, true, true, true, false, false, false, false] rfl rfl (any_of HT_.out (by kernel_rfl)) (Or.inl ⟨by rfl, by intro w'; go_simp; with_reducible rfl⟩) ?_
     refine pu 15 (some 61) #[true, true, true, true, true, true, true, true, true, true, true, true, true, true, true, true, false, false, false] rfl rfl (any_of HT_.out (by kernel_rfl)) (Or.inl ⟨by rfl, by intro w'; go_simp; with_reducible rfl⟩) ?_
     refine pu 16 (some 62) #[true, true, true, true, true, true, true, true, true, true, true, true, true, true, true, true, true, false, false] rfl rfl (any_of HT_.out (by kernel_rfl)) (Or.inl ⟨by rfl, by intro w'; go_simp; with_reducible rfl⟩) ?_
     refine pu 17 (some 10) #[true, true, true, true, true, true, true, true, true, true, true, true, true, true, true, true, true, true, false] rfl rfl (any_of HT_.out (by kernel_rfl)) (Or.inl ⟨by rfl, by intro w'; go_simp; with_reducible rfl⟩) ?_
     refine pu 18 (some 11) #[true, true, true, true, true, true, true, true, true, true, true, true, true, true, true, true, true, true, true] rfl rfl (any_of HT_.out (by kernel_rfl)) (Or.inl ⟨by rfl, by intro w'; go_simp; with_reducible rfl⟩) ?_
     refine done_ (done_of HT_.out (by kernel_rfl)) ?_
     try go_wp2
     go_ret
     exact ⟨_, rq, by refine kr ?_; exact Kd.R_mono HO476.out (fun _ hk => trivial), bq1 HB.out GE437.out⟩
   replace c50 := Bool.eq_false_iff.mpr c50
   subst c50
   replace H : (some ([] : List Int)) = some r := by rw [if_neg (show ¬ (false = true) by decide)] at H; exact H
   obtain rfl := Option.some.inj H
   obtain ⟨Ao63, co63, eo63⟩ := Kd.R_slice HO_3.out
   subst eo63
   try go_wp2_with (first | ((with_reducible refine gate_callee (f := 100) rfl ?_); refine goesL_ (some 41) rfl rfl Try.func100 (by kernel_rfl) rfl #[.int .i64 48, .slice Ao63 x3_1.length co63] rfl ga ?_; (with_reducible refine (impl_tlv.calls k1 48 _ _ x3_1 t457 true _ ?side1 ?side2 A43.out).mono ?_); (case side1 => repeat (first | exact (Kd.R_reads' HO_3.out).2.2 | (with_reducible refine Kd.C_alloc ?_ _) | (with_reducible refine Kd.C_drewN ?_ _) | (with_reducible refine Kd.C_drew ?_))); (case side2 => exact (Kd.R_reads' HO_3.out).2.1); rintro e w64 ⟨v459, rfl, ho0, hb⟩; refine ⟨_, rfl, ?_⟩; have n_ := ak4 (Kd.R_elder' (kqR HO_3.out) (Kd.R_base ho0) hb) (Kd.R_lower (Kd.R_new' ho0 (Kd.R_lt (kqR HO_3.out))) (below_size (bq1 HB.out GE437.out))) (blk_below (zb BK437.out) hb) (below_step (bq1 HB.out GE437.out) hb); clear HO_3 BK437 HB; obtain ⟨HO_3, HO460, BK437, HB⟩ := n_; (try clear hb ho0)))
   have n_ := ak4 (Kd.R_drew HO_3.out) (Kd.R_drew HO460.out) (blk_drew BK437.out) (below_drew1 HB.out)
   clear HO_3 HO460 BK437 HB
   obtain ⟨HO_3, HO460, BK437, HB⟩ := n_
   refine start_ (n := 19) (S := fun w' => w'.cell? ⟨gb437, 0, none⟩ = some (.int .i64 a0_0) ∧ w'.cell? ⟨gb437, 1, none⟩ = some (.int .i64 a0_1) ∧ w'.cell? ⟨gb437, 2, none⟩ = some (.int .i64 a0_2) ∧ w'.cell? ⟨gb437, 3, none⟩ = some (.int .i64 a0_3) ∧ w'.cell? ⟨gb437, 4, none⟩ = some (.slice A0_4 l0_4.length c0_4)) (ds := []) #[false, false, false, false, false, false, false, false, false, false, false, false, false, false, false, false, false, false, false] (by kernel_rfl) rfl rfl ⟨(blk_cell BK437.out 0).trans rfl, (blk_cell BK437.out 1).trans rfl, (blk_cell BK437.out 2).trans rfl, (blk_cell BK437.out 3).trans rfl, (blk_cell BK437.out 4).trans rfl⟩ (fun hHeld => ?_); refine with_tabW impl_PutPdu.tab15 impl_PutPdu.bits15 (fun HT_ HW_ => ?_)
   generalize w64.drew = w65 at HO_3 HO460 BK437 HB hHeld ⊢
   refine pu 0 (some 47) #[true, false, false, false, false, false, false, false, false, false, false, false, false, false, false, false, false, false, false] rfl rfl (any_of HT_.out (by kernel_rfl)) (Or.inl ⟨by rfl, by intro w'; go_simp; with_reducible rfl⟩) ?_
   refine pu 2 (some 49) #[true, false, true, false, false, false, false, false, false, false, false, false, false, false, false, false, false, false, false] rfl rfl (any_of HT_.out (by kernel_rfl)) (Or.inl ⟨by rfl, by intro w'; go_simp; with_reducible rfl⟩) ?_
   refine pu 5 (some 52) #[true, false, true, false, false, true, false, false, false, false, false, false, false, false, false, false, false, false, false] rfl rfl (any_of HT_.out (by kernel_rfl)) (Or.inl ⟨by rfl, by intro w'; go_simp; with_reducible rfl⟩) ?_
   refine pu 8 (some 55) #[true, false, true, false, false, true, false, false, true, false, false, false, false, false, false, false, false, false, false] rfl rfl (any_of HT_.out (by kernel_rfl)) (Or.inl ⟨by rfl, by intro w'; go_simp; with_reducible rfl⟩) ?_
   refine pu 11 (some 58) #[true, false, true, false, false, true, false, false, true, false, false, true, false, false, false, false, false, false, false] rfl rfl (any_of HT_.out (by kernel_rfl)) (Or.inl ⟨by rfl, by intro w'; go_simp; with_reducible rfl⟩) ?_
   refine tk 1 (some 48) #[true, true, true, false, false, true, false, false, true, false, false, true, false, false, false, false, false, false, false] rfl rfl (take_ofW HT_.out HW_.out (by kernel_rfl)) hHeld (Or.inl ⟨by rfl, by rintro w' ⟨s0, s1, s2, s3, s4⟩; go_simp; with_reducible rfl⟩) ?_
   refine tk 3 (some 50) #[true, true, true, true, false, true, false, false, true, false, false, true, false, false, false, false, false, false, false] rfl rfl (take_ofW HT_.out HW_.out (by kernel_rfl)) hHeld (Or.inl ⟨by rfl, by rintro w' ⟨s0, s1, s2, s3, s4⟩; go_simp; with_reducible rfl⟩) ?_
   refine tk 6 (some 53) #[true, true, true, true, false, true, true, false, true, false, false, true, false, false, false, false, false, false, false] rfl rfl (take_ofW HT_.out HW_.out (by kernel_rfl)) hHeld (Or.inl ⟨by rfl, by rintro w' ⟨s0, s1, s2, s3, s4⟩; go_simp; with_reducible rfl⟩) ?_
   refine tk 9 (some 56) #[true, true, true, true, false, true, true, false, true, true, false, true, false, false, false, false, false, false, false] rfl rfl (take_ofW HT_.out HW_.out (by kernel_rfl)) hHeld (Or.inl ⟨by rfl, by rintro w' ⟨s0, s1, s2, s3, s4⟩; go_simp; with_reducible rfl⟩) ?_
   refine one_ (i := 4) (N := some 51) #[true, true, true, true, true, true, true, false, true, true, false, true, false, false, false, false, false, false, false] rfl rfl (one_of HT_.out (by kernel_rfl)) (by decide) (fun K hK => ?_)
   refine goes_ Try.func76 (by kernel_rfl) rfl #[.slice none 0 0, .int .i64 2, .int .i64 a0_1] (by rfl) rfl rfl ga ?_
   refine (impl_addNum.calls k1 _ _ ([] : List Int) 2 a0_1 t461 _ ?side1 ?side2 A45.out).mono ?_
   (case side1 => exact Kd.C_nil _ _)
   (case side2 => exact Nat.le_refl _)
   rintro e w66 ⟨v462, rfl, ho0, hb⟩
   refine ⟨_, rfl, ?_⟩
   have n_ := ak5 (Kd.R_elder' (kqR HO_3.out) (Kd.R_base ho0) hb) (Kd.R_elder' (kqR HO460.out) (Kd.R_base ho0) hb) (Kd.R_lower (Kd.R_new' (Kd.R_new' ho0 (Kd.R_lt (kqR HO_3.out))) (Kd.R_lt (kqR HO460.out))) (below_size (bq1 HB.out GE437.out))) (blk_below (zb BK437.out) hb) (below_step (bq1 HB.out GE437.out) hb)
   clear HO_3 HO460 BK437 HB
   obtain ⟨HO_3, HO460, HO463, BK437, HB⟩ := n_
   (try clear hb ho0)
   obtain ⟨Ao67, co67, eo67⟩ := Kd.R_slice HO463.out
   (first | subst eo67 | (injection eo67 with f1_ f2_ f3_; have f4_ := f1_.symm; have f5_ := f3_.symm; clear f1_ f2_ f3_; subst f4_; subst f5_))
   refine hK.out _ _ ⟨(blk_cell BK437.out 0).trans rfl, (blk_cell BK437.out 1).trans rfl, (blk_cell BK437.out 2).trans rfl, (blk_cell BK437.out 3).trans rfl, (blk_cell BK437.out 4).trans rfl⟩ (fun hHeld => ?_)
   clear hK K
   refine norm_ (a' := ?_) ?_ ?_
   rotate_left
   · show Act.put _ (some 51) _ = _
     simp only [Act.put, List.setIfInBounds_toArray, List.set_cons_zero, List.set_cons_succ, i64_w, i32_w]
     rfl
   refine one_ (i := 7) (N := some 54) #[true, true, true, true, true, true, true, true, true, true, false, true, false, false, false, false, false, false, false] rfl rfl (one_of HT_.out (by kernel_rfl)) (by decide) (fun K hK => ?_)
   refine goes_ Try.func76 (by kernel_rfl) rfl #[.slice Ao67 t461.length co67, .int .i64 2, .int .i64 a0_2] (by rfl) rfl rfl ga ?_
   with_reducible refine (impl_addNum.calls k1 _ _ t461 2 a0_2 t464 _ ?side1 ?side2 A46.out).mono ?_
   (case side1 => repeat (first | exact (Kd.R_reads' HO463.out).2.2 | (with_reducible refine Kd.C_alloc ?_ _) | (with_reducible refine Kd.C_drewN ?_ _) | (with_reducible refine Kd.C_drew ?_)))
   (case side2 => exact (Kd.R_reads' HO463.out).2.1)
   rintro e w68 ⟨v465, rfl, ho0, hb⟩
   refine ⟨_, rfl, ?_⟩
   have n_ := ak6 (Kd.R_elder' (kqR HO_3.out) (Kd.R_base ho0) hb) (Kd.R_elder' (kqR HO460.out) (Kd.R_base ho0) hb) (Kd.R_elder' (kqR HO463.out) (Kd.R_base ho0) hb) (Kd.R_lower (Kd.R_new' (Kd.R_new' (Kd.R_new' ho0 (Kd.R_lt (kqR HO_3.out))) (Kd.R_lt (kqR HO460.out))) (Kd.R_lt (kqR HO463.out))) (below_size (bq1 HB.out GE437.out))) (blk_below (zb BK437.out) hb) (below_step (bq1 HB.out GE437.out) hb)
   clear HO_3 HO460 HO463 BK437 HB
   obtain ⟨HO_3, HO460, HO463, HO466, BK437, HB⟩ := n_
   (try clear hb ho0)
   obtain ⟨Ao69, co69, eo69⟩ := Kd.R_slice HO466.out
   (first | subst eo69 | (injection eo69 with f1_ f2_ f3_; have f4_ := f1_.symm; have f5_ := f3_.symm; clear f1_ f2_ f3_; subst f4_; subst f5_))
   refine hK.out _ _ ⟨(blk_cell BK437.out 0).trans rfl, (blk_cell BK437.out 1).trans rfl, (blk_cell BK437.out 2).trans rfl, (blk_cell BK437.out 3).trans rfl, (blk_cell BK437.out 4).trans rfl⟩ (fun hHeld => ?_)
   clear hK K
   refine norm_ (a' := ?_) ?_ ?_
   rotate_left
   · show Act.put _ (some 54) _ = _
     simp only [Act.put, List.setIfInBounds_toArray, List.set_cons_zero, List.set_cons_succ, i64_w, i32_w]
     rfl
   refine one_ (i := 10) (N := some 57) #[true, true, true, true, true, true, true, true, true, true, true, true, false, false, false, false, false, false, false] rfl rfl (one_of HT_.out (by kernel_rfl)) (by decide) (fun K hK => ?_)
   refine goes_ Try.func76 (by kernel_rfl) rfl #[.slice Ao69 t464.length co69, .int .i64 2, .int .i64 a0_3] (by rfl) rfl rfl ga ?_
   with_reducible refine (impl_addNum.calls k1 _ _ t464 2 a0_3 t467 _ ?side1 ?side2 A47.out).mono ?_
   (case side1 => repeat (first | exact (Kd.R_reads' HO466.out).2.2 | (with_reducible refine Kd.C_alloc ?_ _) | (with_reducible refine Kd.C_drewN ?_ _) | (with_reducible refine Kd.C_drew ?_)))
   (case side2 => exact (Kd.R_reads' HO466.out).2.1)
   rintro e w70 ⟨v468, rfl, ho0, hb⟩
   refine ⟨_, rfl, ?_⟩
   have n_ := ak7 (Kd.R_elder' (kqR HO_3.out) (Kd.R_base ho0) hb) (Kd.R_elder' (kqR HO460.out) (Kd.R_base ho0) hb) (Kd.R_elder' (kqR HO463.out) (Kd.R_base ho0) hb) (Kd.R_elder' (kqR HO466.out) (Kd.R_base ho0) hb) (Kd.R_lower (Kd.R_new' (Kd.R_new' (Kd.R_new' (Kd.R_new' ho0 (Kd.R_lt (kqR HO_3.out))) (Kd.R_lt (kqR HO460.out))) (Kd.R_lt (kqR HO463.out))) (Kd.R_lt (kqR HO466.out))) (below_size (bq1 HB.out GE437.out))) (blk_below (zb BK437.out) hb) (below_step (bq1 HB.out GE437.out) hb)
   clear HO_3 HO460 HO463 HO466 BK437 HB
   obtain ⟨HO_3, HO460, HO463, HO466, HO469, BK437, HB⟩ := n_
   (try clear hb ho0)
   obtain ⟨Ao72, co72, eo72⟩ := Kd.R_slice HO460.out
   (first | subst eo72 | (injection eo72 with f1_ f2_ f3_; have f4_ := f1_.symm; have f5_ := f3_.symm; clear f1_ f2_ f3_; subst f4_; subst f5_))
   refine hK.out _ _ ⟨(blk_cell BK437.out 0).trans rfl, (blk_cell BK437.out 1).trans rfl, (blk_cell BK437.out 2).trans rfl, (blk_cell BK437.out 3).trans rfl, (blk_cell BK437.out 4).trans rfl⟩ (fun hHeld => ?_)
   clear hK K
   refine norm_ (a' := ?_) ?_ ?_
   rotate_left
   · show Act.put _ (some 57) _ = _
     simp only [Act.put, List.setIfInBounds_toArray, List.set_cons_zero, List.set_cons_succ, i64_w, i32_w]
     rfl
   refine one_ (i := 12) (N := some 59) #[true, true, true, true, true, true, true, true, true, true, true, true, true, false, false, false, false, false, false] rfl rfl (one_of HT_.out (by kernel_rfl)) (by decide) (fun K hK => ?_)
   refine Kd.R_append_rows_step (Kd.int .u8) (w0 := w) w.heap.size (by rfl) (.tmp 57) (.tmp 58) 22 5 (.int .u8 0) 1 rfl Try.underlying22 info5 rfl (by decide) (by omega) v468 t467 t457 _ _ _ (fun k_ => some k_ ≠ (.slice Ao63 x3_1.length co63 : Value).ownBlock ∧ some k_ ≠ (.slice Ao72 t457.length co72 : Value).ownBlock ∧ some k_ ≠ (.slice Ao67 t461.length co67 : Value).ownBlock ∧ some k_ ≠ (.slice Ao69 t464.length co69 : Value).ownBlock) (fun _ => False) rfl rfl ?aO ?aR (fun _ _ h => h) (fun _ h => h.elim) ?aF ?aB ?aS ?aL ?_
   (case aR => repeat (first | exact (Kd.R_reads' HO460.out).2.2 | (with_reducible refine Kd.C_alloc ?_ _) | (with_reducible refine Kd.C_drewN ?_ _) | (with_reducible refine Kd.C_drew ?_)))
   (case aB => exact (bq1 HB.out GE437.out))
   (case aF => exact (fun k_ hk => ⟨Kd.fresh' (Kd.R_lt (kqR HO_3.out)) k_ hk, Kd.fresh' (Kd.R_lt (kqR HO460.out)) k_ hk, Kd.fresh' (Kd.R_lt (kqR HO463.out)) k_ hk, Kd.fresh' (Kd.R_lt (kqR HO466.out)) k_ hk⟩))
   (case aO => exact (by refine kr ?_; exact Kd.R_mono HO469.out (fun _ hk => ⟨hk.1.1.1.2, ⟨hk.1.1.2, ⟨hk.1.2, hk.2⟩⟩⟩)))
   (case aS => exact (below_size (bq1 HB.out GE437.out)))
   (case aL => have := LMc48.out; omega)
   intro v471 w71 ho hb hg hat
   rw [← Ny470.out] at ho
   have n_ := ak7 (Kd.R_after (ok := (fun k_ => some k_ ≠ (.slice Ao72 t457.length co72 : Value).ownBlock ∧ some k_ ≠ (.slice Ao67 t461.length co67 : Value).ownBlock ∧ some k_ ≠ (.slice Ao69 t464.length co69 : Value).ownBlock)) (by refine kr ?_; exact Kd.R_mono HO_3.out (fun _ hk => ⟨⟨hk.1.1.1.2, ⟨hk.1.1.2, hk.1.2⟩⟩, hk.2⟩)) hg hat) (blk_grown (g := gb437) (o := .cells #[.int .i64 a0_0, .int .i64 a0_1, .int .i64 a0_2, .int .i64 a0_3, .slice A0_4 l0_4.length c0_4] 58 (0, 0)) (zq BK437.out) hg (Kd.R_ne HO469.out BK437.out (by decide))) (Kd.R_after (ok := (fun k_ => some k_ ≠ (.slice Ao63 x3_1.length co63 : Value).ownBlock ∧ some k_ ≠ (.slice Ao67 t461.length co67 : Value).ownBlock ∧ some k_ ≠ (.slice Ao69 t464.length co69 : Value).ownBlock)) (by refine kr ?_; exact Kd.R_mono HO460.out (fun _ hk => ⟨⟨hk.1.1.1.2, ⟨hk.1.1.2, hk.1.2⟩⟩, hk.2⟩)) hg hat) (Kd.R_after (ok := (fun k_ => some k_ ≠ (.slice Ao63 x3_1.length co63 : Value).ownBlock ∧ some k_ ≠ (.slice Ao72 t457.length co72 : Value).ownBlock ∧ some k_ ≠ (.slice Ao69 t464.length co69 : Value).ownBlock)) (by refine kr ?_; exact Kd.R_mono HO463.out (fun _ hk => ⟨⟨hk.1.1.1.2, ⟨hk.1.1.2, hk.1.2⟩⟩, hk.2⟩)) hg hat) (Kd.R_after (ok := (fun k_ => some k_ ≠ (.slice Ao63 x3_1.length co63 : Value).ownBlock ∧ some k_ ≠ (.slice Ao72 t457.length co72 : Value).ownBlock ∧ some k_ ≠ (.slice Ao67 t461.length co67 : Value).ownBlock)) (by refine kr ?_; exact Kd.R_mono HO466.out (fun _ hk => ⟨⟨hk.1.1.1.2, ⟨hk.1.1.2, hk.1.2⟩⟩, hk.2⟩)) hg hat) hb ho
   clear HO_3 BK437 HO460 HO463 HO466 HB HO469
   obtain ⟨HO_3, BK437, HO460, HO463, HO466, HB, HO472⟩ := n_
   clear ho hb hg hat
   obtain ⟨Ao73, co73, eo73⟩ := Kd.R_slice HO472.out
   (first | subst eo73 | (injection eo73 with f1_ f2_ f3_; have f4_ := f1_.symm; have f5_ := f3_.symm; clear f1_ f2_ f3_; subst f4_; subst f5_))
   refine hK.out _ _ ⟨(blk_cell BK437.out 0).trans rfl, (blk_cell BK437.out 1).trans rfl, (blk_cell BK437.out 2).trans rfl, (blk_cell BK437.out 3).trans rfl, (blk_cell BK437.out 4).trans rfl⟩ (fun hHeld => ?_)
   clear hK K
   refine norm_ (a' := ?_) ?_ ?_
   rotate_left
   · show Act.put _ (some 59) _ = _
     simp only [Act.put, List.setIfInBounds_toArray, List.set_cons_zero, List.set_cons_succ, i64_w, i32_w]
     rfl
   refine one_ (i := 13) (N := some 60) #[true, true, true, true, true, true, true, true, true, true, true, true, true, true, false, false, false, false, false] rfl rfl (one_of HT_.out (by kernel_rfl)) (by decide) (fun K hK => ?_)
   refine goes_ Try.func100 (by kernel_rfl) rfl #[.int .i64 a0_0, .slice Ao73 y470.length co73] (by rfl) rfl rfl ga ?_
   with_reducible refine (impl_tlv.calls k1 a0_0 _ _ y470 t473 false _ ?side1 ?side2 A49.out).mono ?_
   (case side1 => repeat (first | exact (Kd.R_reads' HO472.out).2.2 | (with_reducible refine Kd.C_alloc ?_ _) | (with_reducible refine Kd.C_drewN ?_ _) | (with_reducible refine Kd.C_drew ?_)))
   (case side2 => exact (Kd.R_reads' HO472.out).2.1)
   rintro e w74 ⟨v475, rfl, ho0, hb⟩
   refine ⟨_, rfl, ?_⟩
   have n_ := ak8 (Kd.R_elder' (kqR HO_3.out) (Kd.R_base ho0) hb) (Kd.R_elder' (kqR HO460.out) (Kd.R_base ho0) hb) (Kd.R_elder' (kqR HO463.out) (Kd.R_base ho0) hb) (Kd.R_elder' (kqR HO466.out) (Kd.R_base ho0) hb) (Kd.R_elder' (kqR HO472.out) (Kd.R_base ho0) hb) (Kd.R_lower (Kd.R_new' (Kd.R_new' (Kd.R_new' (Kd.R_new' (Kd.R_new' ho0 (Kd.R_lt (kqR HO_3.out))) (Kd.R_lt (kqR HO460.out))) (Kd.R_lt (kqR HO463.out))) (Kd.R_lt (kqR HO466.out))) (Kd.R_lt (kqR HO472.out))) (below_size (bq1 HB.out GE437.out))) (blk_below (zb BK437.out) hb) (below_step (bq1 HB.out GE437.out) hb)
   clear HO_3 HO460 HO463 HO466 HO472 BK437 HB
   obtain ⟨HO_3, HO460, HO463, HO466, HO472, HO476, BK437, HB⟩ := n_
   (try clear hb ho0)
   refine hK.out _ _ ⟨(blk_cell BK437.out 0).trans rfl, (blk_cell BK437.out 1).trans rfl, (blk_cell BK437.out 2).trans rfl, (blk_cell BK437.out 3).trans rfl, (blk_cell BK437.out 4).trans rfl⟩ (fun hHeld => ?_)
   clear hK K
   refine norm_ (a' := ?_) ?_ ?_
   rotate_left
   · show Act.put _ (some 60) _ = _
     simp only [Act.put, List.setIfInBounds_toArray, List.set_cons_zero, List.set_cons_succ, i64_w, i32_w]
     rfl
   refine pu 14 (some 46) #[true, true, true, true, true, true, true, true, true, true, true, true, true, true, true, false, false, false, false] rfl rfl (any_of HT_.out (by kernel_rfl)) (Or.inl ⟨by rfl, by intro w'; go_simp; with_reducible rfl⟩) ?_
   refine pu 15 (some 61) #[true, true, true, true, true, true, true, true, true, true, true, true, true, true, true, true, false, false, false] rfl rfl (any_of HT_.out (by kernel_rfl)) (Or.inl ⟨by rfl, by intro w'; go_simp; with_reducible rfl⟩) ?_
   refine pu 16 (some 62) #[true, true, true, true, true, true, true, true, true, true, true, true, true, true, true, true, true, false, false] rfl rfl (any_of HT_.out (by kernel_rfl)) (Or.inl ⟨by rfl, by intro w'; go_simp; with_reducible rfl⟩) ?_
   refine pu 17 (some 10) #[true, true, true, true, true, true, true, true, true, true, true, true, true, true, true, true, true, true, false] rfl rfl (any_of HT_.out (by kernel_rfl)) (Or.inl ⟨by rfl, by intro w'; go_simp; with_reducible rfl⟩) ?_
   refine pu 18 (some 11) #[true, true, true, true, true, true, true, true, true, true, true, true, true, true, true, true, true, true, true] rfl rfl (any_of HT_.out (by kernel_rfl)) (Or.inl ⟨by rfl, by intro w'; go_simp; with_reducible rfl⟩) ?_
   refine done_ (done_of HT_.out (by kernel_rfl)) ?_
   try go_wp2
   go_ret
   exact ⟨_, rq, rn, bq1 HB.out GE437.out⟩

end Go.Proofs.Ythhnfmbfgplelaa.XFnExactPutPdu
