/- The functions that one law reaches, as Lean functions, with their walks: printed by a program of this seat (wip/tools) out of the translation. -/
import Derived.Test.YthhnfmbfgplelaaXFnMsgsx0
import Derived.Test.YthhnfmbfgplelaaXFnMsgsx7
import Derived.Test.YthhnfmbfgplelaaXFnMsgsx8
import Derived.Test.YthhnfmbfgplelaaXFnMsgsx9
namespace Go.Proofs.Ythhnfmbfgplelaa.XFnMsgs
open Go.RowKit Go.Proofs.YthhnfmbfgplelaaW.PrintWords Go.Proofs.YthhnfmbfgplelaaW.PrintLast Go.Proofs.YthhnfmbfgplelaaW.PrintMore
attribute [local go_sem] max2_int min2_int max_two min_two max_three min_three max_four min_four   -- for this text's walks alone
set_option linter.unusedVariables false
set_option linter.unusedSimpArgs false

/-! ### impl_PutPdu: function 41 -/
def impl_PutPdu.l0 : Nat → List Int → List (S116) → Int → Int → Int → Int → Int → Int → List (S116) → Option (List Int)
 | 0, _, _, _, _, _, _, _, _, _ => none
 | k + 1, x3, x16, x17, x18, x418000, x418001, x418002, x418003, x418004 => if x18 < x17 then (if 0 ≤ x18 then (if x18 < (x16.length : Int) then ((impl_PutOid.f k ((rd_T116 x16 x18).f0)).bind fun t421 => ((impl_PutTlv.f k ([] : List Int) 6 t421).bind fun t424 => ((impl_PutVal.f k t424 ((rd_T116 x16 x18).f1.f0) ((rd_T116 x16 x18).f1.f1) ((rd_T116 x16 x18).f1.f2) ((rd_T116 x16 x18).f1.f3)).bind fun t427 => ((impl_tlv.f k 48 t427).bind fun bt430 => (if bt430.2 = true then (if x3.length + bt430.1.length < 140737488355328 then (impl_PutPdu.l0 k (x3 ++ bt430.1) x16 x17 (wrap64 (x18 + 1)) x418000 x418001 x418002 x418003 x418004) else (none)) else (some ([] : List Int))))))) else (none)) else (none)) else ((impl_tlv.f k 48 x3).bind fun bt437 => (if bt437.2 = true then ((impl_addNum.f k ([] : List Int) 2 x418001).bind fun t441 => ((impl_addNum.f k t441 2 x418002).bind fun t444 => ((impl_addNum.f k t444 2 x418003).bind fun t447 => (if t447.length + bt437.1.length < 140737488355328 then ((impl_tlv.f k x418000 (t447 ++ bt437.1)).bind fun bt453 => (if bt453.2 = true then (some bt453.1) else (some ([] : List Int)))) else (none))))) else (some ([] : List Int))))
def impl_PutPdu.f (k : Nat) (a0_0 : Int) (a0_1 : Int) (a0_2 : Int) (a0_3 : Int) (l0_4 : List (S116)) : Option (List Int) := (impl_PduOk.f k a0_0 a0_1 a0_2 a0_3 l0_4).bind fun t418 => (if t418 = true then (impl_PutPdu.l0 k ([] : List Int) l0_4 (l0_4.length : Int) 0 a0_0 a0_1 a0_2 a0_3 l0_4) else (some ([] : List Int)))
def impl_PutPdu.T7 : Bool × List (List Nat × List Nat) := (true, [([], []), ([0], [0]), ([1], [1]), ([2, 2], [2]), ([], []), ([4], [4]), ([3, 5, 3], [3, 5]), ([6, 6], [6]), ([7], [7]), ([8], [8]), ([8], [8]), ([9, 7, 0, 1, 2, 3, 4, 5, 6, 7, 8, 9], [9]), ([10, 11, 0, 1, 2, 3, 4, 5, 6, 7, 8, 9, 10, 11], [10])])
def impl_PutPdu.B7 : List Nat := [0, 1, 3, 7, 0, 16, 63, 127, 255, 511, 511, 1023, 4095]
theorem impl_PutPdu.tab7 : rtab .any (opsOf Try.f41 7) = impl_PutPdu.T7 := by kernel_rfl
theorem impl_PutPdu.bits7 : waitsOk impl_PutPdu.T7.2 impl_PutPdu.B7 = true := by kernel_rfl
def impl_PutPdu.T15 : Bool × List (List Nat × List Nat) := (true, [([], []), ([0], [0]), ([], []), ([2], [2]), ([3], [3]), ([], []), ([5], [5]), ([4, 6, 4], [4, 6]), ([], []), ([8], [8]), ([7, 9, 7], [7, 9]), ([], []), ([10, 11, 10], [10, 11]), ([1, 12, 12], [1, 12]), ([13], [13]), ([14], [14]), ([14], [14]), ([15, 13, 0, 1, 2, 3, 4, 5, 6, 7, 8, 9, 10, 11, 12, 13, 14, 15], [15]), ([16, 17, 0, 1, 2, 3, 4, 5, 6, 7, 8, 9, 10, 11, 12, 13, 14, 15, 16, 17], [16])])
def impl_PutPdu.B15 : List Nat := [0, 1, 0, 4, 12, 0, 32, 124, 0, 256, 1020, 0, 4092, 8191, 16383, 32767, 32767, 65535, 262143]
theorem impl_PutPdu.tab15 : rtab .any (opsOf Try.f41 15) = impl_PutPdu.T15 := by kernel_rfl
theorem impl_PutPdu.bits15 : waitsOk impl_PutPdu.T15.2 impl_PutPdu.B15 = true := by kernel_rfl
set_option maxHeartbeats 8000000 in
set_option maxRecDepth 100000 in
theorem impl_PutPdu.calls (k : Nat) (a0_0 : Int) (a0_1 : Int) (a0_2 : Int) (a0_3 : Int) (A0_4 : Option Addr) (c0_4 : Nat) (l0_4 : List (S116)) (r : List Int) (w : World) (hr0_4 : Kd.C k116 w A0_4 l0_4.length l0_4) (hc0_4 : l0_4.length ≤ c0_4) (h : impl_PutPdu.f k a0_0 a0_1 a0_2 a0_3 l0_4 = some r) :
 Calls Try.prog 41 #[.agg #[.int .i64 a0_0, .int .i64 a0_1, .int .i64 a0_2, .int .i64 a0_3, .slice A0_4 l0_4.length c0_4]] w fun e w' => ∃ v0_ : Value, e = .returned (v0_) ∧ Kd.R (Kd.int .u8) 5 w' w.heap.size (fun _ => True) v0_ r ∧ Below w.heap.size w w' := by
 have hu58 := Try.underlying58
 have hu116 := Try.underlying116
 have hu29 := Try.underlying29
 have HR0_4 := am hr0_4
 have HC0_4 := am hc0_4
 clear hr0_4 hc0_4
 have HB := am (Below.refl w.heap.size w)
 have H := h
 clear h
 unfold impl_PutPdu.f at H
 replace H := be H
 obtain ⟨qa1_0, Qa1, H⟩ := H
 cases qa1_0
 · replace H := iF H
   obtain rfl := Option.some.inj H
   go_enter Try.func41, Try.ntmps41
   go_wp2_with (first | ((with_reducible refine gate_dst (N := 1) rfl ?_); refine bxe 1 #[.int .i64 a0_0, .int .i64 a0_1, .int .i64 a0_2, .int .i64 a0_3, .slice A0_4 l0_4.length c0_4] 58 ?_; intro gb417 hg w77 hbox hb; have n_ := ak4 (below_step (bq HB.out) hb) hbox (bz hg (bq HB.out)) (bz hg (bq HB.out)); clear HB; obtain ⟨HB, BK417, GW417, GE417⟩ := n_; clear hb hbox hg; obtain ⟨hcz78_0, hcz78_1, hcz78_2, hcz78_3, hcz78_4, hfz78_0, hfz78_1, hfz78_2, hfz78_3, hfz78_4⟩ := cl5 BK417.out) | ((with_reducible refine gate_callee (f := 99) rfl ?_); refine gc (some 13) (impl_PduOk.calls k a0_0 a0_1 a0_2 a0_3 _ _ l0_4 false _ (cq (Kd.C_below HR0_4.out HB.out)) HC0_4.out Qa1.out) Try.func99 ?_; rintro e w79 ⟨rfl, hb⟩; refine ⟨_, rfl, ?_⟩; have n_ := ak2 (kb BK417 hb) (below_step (bq1 HB.out GE417.out) hb); clear BK417 HB; obtain ⟨BK417, HB⟩ := n_; (try clear hb)))
   go_ret
   exact ⟨_, rq, rn, bq1 HB.out GE417.out⟩
 replace H := iT H
 have H' := am H
 clear H
 go_enter Try.func41, Try.ntmps41
 go_wp2_with (first | ((with_reducible refine gate_dst (N := 1) rfl ?_); refine bxe 1 #[.int .i64 a0_0, .int .i64 a0_1, .int .i64 a0_2, .int .i64 a0_3, .slice A0_4 l0_4.length c0_4] 58 ?_; intro gb417 hg w4 hbox hb; have n_ := ak4 (below_step (bq HB.out) hb) hbox (bz hg (bq HB.out)) (bz hg (bq HB.out)); clear HB; obtain ⟨HB, BK417, GW417, GE417⟩ := n_; clear hb hbox hg; obtain ⟨hcz5_0, hcz5_1, hcz5_2, hcz5_3, hcz5_4, hfz5_0, hfz5_1, hfz5_2, hfz5_3, hfz5_4⟩ := cl5 BK417.out) | ((with_reducible refine gate_callee (f := 99) rfl ?_); refine gc (some 13) (impl_PduOk.calls k a0_0 a0_1 a0_2 a0_3 _ _ l0_4 true _ (cq (Kd.C_below HR0_4.out HB.out)) HC0_4.out Qa1.out) Try.func99 ?_; rintro e w6 ⟨rfl, hb⟩; refine ⟨_, rfl, ?_⟩; have n_ := ak2 (kb BK417 hb) (below_step (bq1 HB.out GE417.out) hb); clear BK417 HB; obtain ⟨BK417, HB⟩ := n_; (try clear hb); obtain ⟨hcz7_0, hcz7_1, hcz7_2, hcz7_3, hcz7_4, hfz7_0, hfz7_1, hfz7_2, hfz7_3, hfz7_4⟩ := cl5 BK417.out))
 go_loopg [3, 18] k (fun kq v3 v18 w' => ∃ (x3_1 : List Int) (x18_1 : Int), v18 = .int .i64 x18_1 ∧ Aside0 (impl_PutPdu.l0 kq x3_1 l0_4 (l0_4.length : Int) x18_1 a0_0 a0_1 a0_2 a0_3 l0_4 = some r) ∧ Aside0 (kq ≤ k) ∧ Aside0 (Kd.R (Kd.int .u8) 5 w' w.heap.size (fun _ => True) v3 x3_1) ∧ Aside0 (w'.heap[gb417]? = some (.cells #[.int .i64 a0_0, .int .i64 a0_1, .int .i64 a0_2, .int .i64 a0_3, (.slice A0_4 l0_4.length c0_4)] 58 (0, 0))) ∧ Aside0 (Below w.heap.size w w'))
 case atStart => exact ⟨(([] : List Int)), (0), sq, H', ⟨Nat.le_refl _⟩, ⟨rn⟩, ⟨zq BK417.out⟩, ⟨bq1 HB.out GE417.out⟩⟩
 case round =>
  clear H'
  try clear p2
  try clear c3
  try clear c4
  try clear hcz5_0
  try clear hcz5_1
  try clear hcz5_2
  try clear hcz5_3
  try clear hcz5_4
  try clear hcz7_0
  try clear hcz7_1
  try clear hcz7_2
  try clear hcz7_3
  try clear hcz7_4
  try clear hfz5_0
  try clear hfz5_1
  try clear hfz5_2
  try clear hfz5_3
  try clear hfz5_4
  try clear hfz7_0
  try clear hfz7_1
  try clear hfz7_2
  try clear hfz7_3
  try clear hfz7_4
  obtain ⟨x3_1, x18_1, rfl, HA, HK1, HO_3, BK417, HB⟩ := hrel
  cases gk with
  | zero => exact absurd HA.out (by simp [impl_PutPdu.l0])
  | succ k1 =>
   have H := HA.out
   clear HA
   simp only [impl_PutPdu.l0] at H
   replace H := il H
   rcases H with ⟨-, c8b0, H⟩ | ⟨-, c8b0, H⟩
   · replace H := nl H
     obtain ⟨-, c9b0, H⟩ := H
     replace H := nl H
     obtain ⟨-, c10b0, H⟩ := H
     replace H := be H
     obtain ⟨t421, A11, H⟩ := H
     replace H := be H
     obtain ⟨qb1_0, Qb1, H⟩ := H
     replace H := be H
     obtain ⟨qc1_0, Qc1, H⟩ := H
     replace H := be H
     obtain ⟨⟨qd1_0, qd1_1⟩, Qd1, H⟩ := H
     try dsimp only at H
     cases qd1_1
     · replace H := iF H
       obtain rfl := Option.some.inj H
       have p419 : 0 ≤ (x18_1 : Int) := oda
       have q419 : x18_1 < (l0_4.length : Int) := oda
       obtain ⟨ad419, A419_0, c419_0, A419_4, c419_4, e419, hx419_0, hx419_1, hx419_2, hx419_3, hx419_4, hl419_0, hi419_0, hl419_4, hi419_4⟩ := at_T116 HR0_4.out x18_1 p419 q419
       cases e419
       replace hx419_0 := (HB.out.cell (World.block_lt_of_cell? w _ hx419_0)).trans hx419_0
       replace hx419_1 := (HB.out.cell (World.block_lt_of_cell? w _ hx419_1)).trans hx419_1
       replace hx419_2 := (HB.out.cell (World.block_lt_of_cell? w _ hx419_2)).trans hx419_2
       replace hx419_3 := (HB.out.cell (World.block_lt_of_cell? w _ hx419_3)).trans hx419_3
       replace hx419_4 := (HB.out.cell (World.block_lt_of_cell? w _ hx419_4)).trans hx419_4
       have HR419_0 := am hi419_0
       have HC419_0 := am hl419_0
       clear hi419_0 hl419_0
       have HR419_4 := am hi419_4
       have HC419_4 := am hl419_4
       clear hi419_4 hl419_4
       replace p419 := eq_true p419
       replace q419 := eq_true q419
       try go_wp2_with (first | ((with_reducible refine gate_dst (N := 5) rfl ?_); refine bxe 5 #[.slice none 0 0, .int .i64 0, .int .i64 0, .string (⟨#[]⟩ : ByteArray), .slice none 0 0] 116 ?_; intro gb420 hg w31 hbox hb; have n_ := ak8 (rb HO_3 hb) (kb BK417 hb) (below_step (bq1 HB.out GE417.out) hb) hbox (bz hg (bq1 HB.out GE417.out)) (bz hg (bq1 HB.out GE417.out)) (nL hg BK417) (nG hg BK417); clear HO_3 BK417 HB; obtain ⟨HO_3, BK417, HB, BK420, GW420, GE420, NB417_420, NB420_417⟩ := n_; clear hb hbox hg; have hnb32 := NB420_417.out; have hnc32 := NB417_420.out; obtain ⟨hcz33_0, hcz33_1, hcz33_2, hcz33_3, hcz33_4, hfz33_0, hfz33_1, hfz33_2, hfz33_3, hfz33_4⟩ := cl5 BK420.out) | ((with_reducible refine gate_store (t := 116) (p := 5) rfl ?_); refine se 116 5 (s5 w31 gb420 (.slice A419_0 ((rd_T116 l0_4 x18_1).f0).length c419_0) (.int .i64 ((rd_T116 l0_4 x18_1).f1.f0)) (.int .i64 ((rd_T116 l0_4 x18_1).f1.f1)) (.string ((rd_T116 l0_4 x18_1).f1.f2)) (.slice A419_4 ((rd_T116 l0_4 x18_1).f1.f3).length c419_4)) ?_; intro w34 hw; have n_ := ak4 (sr5 hw HO_3 BK420) (sf5 hw BK417 NB417_420) (sc5 hw BK420) (sb hw (bq2 HB.out GE417.out GE420.out)); clear hw HO_3 BK417 BK420 HB; obtain ⟨HO_3, BK417, BK420, HB⟩ := n_))
       have n_ := ak4 (Kd.R_drew HO_3.out) (blk_drew BK417.out) (blk_drew BK420.out) (below_drew1 HB.out)
       clear HO_3 BK417 BK420 HB
       obtain ⟨HO_3, BK417, BK420, HB⟩ := n_
       refine start_ (n := 13) (S := fun w' => w'.cell? ⟨gb420, 0, none⟩ = some (.slice A419_0 ((rd_T116 l0_4 x18_1).f0).length c419_0) ∧ w'.cell? ⟨gb420, 1, none⟩ = some (.int .i64 ((rd_T116 l0_4 x18_1).f1.f0)) ∧ w'.cell? ⟨gb420, 2, none⟩ = some (.int .i64 ((rd_T116 l0_4 x18_1).f1.f1)) ∧ w'.cell? ⟨gb420, 3, none⟩ = some (.string ((rd_T116 l0_4 x18_1).f1.f2)) ∧ w'.cell? ⟨gb420, 4, none⟩ = some (.slice A419_4 ((rd_T116 l0_4 x18_1).f1.f3).length c419_4)) (ds := []) #[F,F,F,F,F,F,F,F,F,F,F,F,F] (by kernel_rfl) rfl rfl ⟨(blk_cell BK420.out 0).trans rfl, (blk_cell BK420.out 1).trans rfl, (blk_cell BK420.out 2).trans rfl, (blk_cell BK420.out 3).trans rfl, (blk_cell BK420.out 4).trans rfl⟩ (fun hHeld => ?_); refine with_tabW impl_PutPdu.tab7 impl_PutPdu.bits7 (fun HT_ HW_ => ?_)
       generalize w34.drew = w35 at HO_3 BK417 BK420 HB hHeld ⊢
       refine pv HT_ 0 (some 23) #[T,F,F,F,F,F,F,F,F,F,F,F,F] ?_
       refine pv HT_ 4 (some 27) #[T,F,F,F,T,F,F,F,F,F,F,F,F] ?_
       refine tk 1 (some 24) #[T,T,F,F,T,F,F,F,F,F,F,F,F] rfl rfl (take_ofW HT_.out HW_.out (by kernel_rfl)) hHeld (Or.inl ⟨by rfl, by rintro w' ⟨s0, s1, s2, s3, s4⟩; go_simp; with_reducible rfl⟩) ?_
       refine tk 5 (some 28) #[T,T,F,F,T,T,F,F,F,F,F,F,F] rfl rfl (take_ofW HT_.out HW_.out (by kernel_rfl)) hHeld (Or.inl ⟨by rfl, by rintro w' ⟨s0, s1, s2, s3, s4⟩; go_simp; with_reducible rfl⟩) ?_
       refine one_ (i := 2) (N := some 25) #[T,T,T,F,T,T,F,F,F,F,F,F,F] rfl rfl (one_of HT_.out (by kernel_rfl)) (by decide) (fun K hK => ?_)
       refine goes_ Try.func70 (by kernel_rfl) rfl #[.slice A419_0 ((rd_T116 l0_4 x18_1).f0).length c419_0] (by rfl) rfl rfl ga ?_
       with_reducible refine (impl_PutOid.calls k1 _ _ ((rd_T116 l0_4 x18_1).f0) t421 _ ?side1 ?side2 A11.out).mono ?_
       (case side1 => exact cq (Kd.C_below HR419_0.out HB.out))
       (case side2 => exact HC419_0.out)
       rintro e w36 ⟨v422, rfl, ho0, hb⟩
       refine ⟨_, rfl, ?_⟩
       have n_ := ak5 (re_ HO_3 ho0 hb) (rn_ ho0 HO_3 (bq2 HB.out GE417.out GE420.out)) (kb BK417 hb) (kb BK420 hb) (below_step (bq2 HB.out GE417.out GE420.out) hb)
       clear HO_3 BK417 BK420 HB
       obtain ⟨HO_3, HO423, BK417, BK420, HB⟩ := n_
       (try clear hb ho0)
       obtain ⟨Ao37, co37, eo37⟩ := Kd.R_slice HO423.out
       (first | subst eo37 | (injection eo37 with f1_ f2_ f3_; have f4_ := f1_.symm; have f5_ := f3_.symm; clear f1_ f2_ f3_; subst f4_; subst f5_))
       refine hK.out _ _ ⟨(blk_cell BK420.out 0).trans rfl, (blk_cell BK420.out 1).trans rfl, (blk_cell BK420.out 2).trans rfl, (blk_cell BK420.out 3).trans rfl, (blk_cell BK420.out 4).trans rfl⟩ (fun hHeld => ?_)
       clear hK K
       refine norm_ (a' := ?_) ?_ ?_
       rotate_left
       · show Act.put _ (some 25) _ = _
         simp only [Act.put, List.setIfInBounds_toArray, List.set_cons_zero, List.set_cons_succ, i64_w, i32_w]
         rfl
       refine one_ (i := 3) (N := some 26) #[T,T,T,T,T,T,F,F,F,F,F,F,F] rfl rfl (one_of HT_.out (by kernel_rfl)) (by decide) (fun K hK => ?_)
       refine goes_ Try.func71 (by kernel_rfl) rfl #[.slice none 0 0, .int .i64 6, .slice Ao37 t421.length co37] (by rfl) rfl rfl ga ?_
       refine (impl_PutTlv.calls k1 _ _ ([] : List Int) 6 _ _ t421 qb1_0 _ ?side1 ?side2 ?side3 ?side4 Qb1.out).mono ?_
       (case side1 => exact Kd.C_nil _ _)
       (case side2 => exact Nat.le_refl _)
       (case side3 => repeat (first | exact (Kd.R_reads' HO423.out).2.2 | (with_reducible refine Kd.C_alloc ?_ _) | (with_reducible refine Kd.C_drewN ?_ _) | (with_reducible refine Kd.C_drew ?_)))
       (case side4 => exact (Kd.R_reads' HO423.out).2.1)
       rintro e w38 ⟨v425, rfl, ho0, hb⟩
       refine ⟨_, rfl, ?_⟩
       have n_ := ak6 (re_ HO_3 ho0 hb) (re_ HO423 ho0 hb) (Kd.R_lower (Kd.R_new' (Kd.R_new' ho0 (Kd.R_lt (kqR HO_3.out))) (Kd.R_lt (kqR HO423.out))) (below_size (bq2 HB.out GE417.out GE420.out))) (kb BK417 hb) (kb BK420 hb) (below_step (bq2 HB.out GE417.out GE420.out) hb)
       clear HO_3 HO423 BK417 BK420 HB
       obtain ⟨HO_3, HO423, HO426, BK417, BK420, HB⟩ := n_
       (try clear hb ho0)
       obtain ⟨Ao39, co39, eo39⟩ := Kd.R_slice HO426.out
       (first | subst eo39 | (injection eo39 with f1_ f2_ f3_; have f4_ := f1_.symm; have f5_ := f3_.symm; clear f1_ f2_ f3_; subst f4_; subst f5_))
       refine hK.out _ _ ⟨(blk_cell BK420.out 0).trans rfl, (blk_cell BK420.out 1).trans rfl, (blk_cell BK420.out 2).trans rfl, (blk_cell BK420.out 3).trans rfl, (blk_cell BK420.out 4).trans rfl⟩ (fun hHeld => ?_)
       clear hK K
       refine norm_ (a' := ?_) ?_ ?_
       rotate_left
       · show Act.put _ (some 26) _ = _
         simp only [Act.put, List.setIfInBounds_toArray, List.set_cons_zero, List.set_cons_succ, i64_w, i32_w]
         rfl
       refine one_ (i := 6) (N := some 29) #[T,T,T,T,T,T,T,F,F,F,F,F,F] rfl rfl (one_of HT_.out (by kernel_rfl)) (by decide) (fun K hK => ?_)
       refine goes_ Try.func17 (by kernel_rfl) rfl #[.slice Ao39 qb1_0.length co39, .agg #[.int .i64 ((rd_T116 l0_4 x18_1).f1.f0), .int .i64 ((rd_T116 l0_4 x18_1).f1.f1), .string ((rd_T116 l0_4 x18_1).f1.f2), .slice A419_4 ((rd_T116 l0_4 x18_1).f1.f3).length c419_4]] (by rfl) rfl rfl ga ?_
       with_reducible refine (impl_PutVal.calls k1 _ _ qb1_0 ((rd_T116 l0_4 x18_1).f1.f0) ((rd_T116 l0_4 x18_1).f1.f1) ((rd_T116 l0_4 x18_1).f1.f2) _ _ ((rd_T116 l0_4 x18_1).f1.f3) qc1_0 _ ?side1 ?side2 ?side3 ?side4 Qc1.out).mono ?_
       (case side1 => repeat (first | exact (Kd.R_reads' HO426.out).2.2 | (with_reducible refine Kd.C_alloc ?_ _) | (with_reducible refine Kd.C_drewN ?_ _) | (with_reducible refine Kd.C_drew ?_)))
       (case side2 => exact (Kd.R_reads' HO426.out).2.1)
       (case side3 => exact cq (Kd.C_below HR419_4.out HB.out))
       (case side4 => exact HC419_4.out)
       rintro e w40 ⟨v428, rfl, ho0, hb⟩
       refine ⟨_, rfl, ?_⟩
       have n_ := ak7 (re_ HO_3 ho0 hb) (re_ HO423 ho0 hb) (re_ HO426 ho0 hb) (Kd.R_lower (Kd.R_new' (Kd.R_new' (Kd.R_new' ho0 (Kd.R_lt (kqR HO_3.out))) (Kd.R_lt (kqR HO423.out))) (Kd.R_lt (kqR HO426.out))) (below_size (bq2 HB.out GE417.out GE420.out))) (kb BK417 hb) (kb BK420 hb) (below_step (bq2 HB.out GE417.out GE420.out) hb)
       clear HO_3 HO423 HO426 BK417 BK420 HB
       obtain ⟨HO_3, HO423, HO426, HO429, BK417, BK420, HB⟩ := n_
       (try clear hb ho0)
       obtain ⟨Ao41, co41, eo41⟩ := Kd.R_slice HO429.out
       (first | subst eo41 | (injection eo41 with f1_ f2_ f3_; have f4_ := f1_.symm; have f5_ := f3_.symm; clear f1_ f2_ f3_; subst f4_; subst f5_))
       refine hK.out _ _ ⟨(blk_cell BK420.out 0).trans rfl, (blk_cell BK420.out 1).trans rfl, (blk_cell BK420.out 2).trans rfl, (blk_cell BK420.out 3).trans rfl, (blk_cell BK420.out 4).trans rfl⟩ (fun hHeld => ?_)
       clear hK K
       refine norm_ (a' := ?_) ?_ ?_
       rotate_left
       · show Act.put _ (some 29) _ = _
         simp only [Act.put, List.setIfInBounds_toArray, List.set_cons_zero, List.set_cons_succ, i64_w, i32_w]
         rfl
       refine one_ (i := 7) (N := some 30) #[T,T,T,T,T,T,T,T,F,F,F,F,F] rfl rfl (one_of HT_.out (by kernel_rfl)) (by decide) (fun K hK => ?_)
       refine goes_ Try.func100 (by kernel_rfl) rfl #[.int .i64 48, .slice Ao41 qc1_0.length co41] (by rfl) rfl rfl ga ?_
       with_reducible refine (impl_tlv.calls k1 48 _ _ qc1_0 qd1_0 false _ ?side1 ?side2 Qd1.out).mono ?_
       (case side1 => repeat (first | exact (Kd.R_reads' HO429.out).2.2 | (with_reducible refine Kd.C_alloc ?_ _) | (with_reducible refine Kd.C_drewN ?_ _) | (with_reducible refine Kd.C_drew ?_)))
       (case side2 => exact (Kd.R_reads' HO429.out).2.1)
       rintro e w42 ⟨v432, rfl, ho0, hb⟩
       refine ⟨_, rfl, ?_⟩
       have n_ := ak8 (re_ HO_3 ho0 hb) (re_ HO423 ho0 hb) (re_ HO426 ho0 hb) (re_ HO429 ho0 hb) (Kd.R_lower (Kd.R_new' (Kd.R_new' (Kd.R_new' (Kd.R_new' ho0 (Kd.R_lt (kqR HO_3.out))) (Kd.R_lt (kqR HO423.out))) (Kd.R_lt (kqR HO426.out))) (Kd.R_lt (kqR HO429.out))) (below_size (bq2 HB.out GE417.out GE420.out))) (kb BK417 hb) (kb BK420 hb) (below_step (bq2 HB.out GE417.out GE420.out) hb)
       clear HO_3 HO423 HO426 HO429 BK417 BK420 HB
       obtain ⟨HO_3, HO423, HO426, HO429, HO433, BK417, BK420, HB⟩ := n_
       (try clear hb ho0)
       refine hK.out _ _ ⟨(blk_cell BK420.out 0).trans rfl, (blk_cell BK420.out 1).trans rfl, (blk_cell BK420.out 2).trans rfl, (blk_cell BK420.out 3).trans rfl, (blk_cell BK420.out 4).trans rfl⟩ (fun hHeld => ?_)
       clear hK K
       refine norm_ (a' := ?_) ?_ ?_
       rotate_left
       · show Act.put _ (some 30) _ = _
         simp only [Act.put, List.setIfInBounds_toArray, List.set_cons_zero, List.set_cons_succ, i64_w, i32_w]
         rfl
       refine pv HT_ 8 (some 22) #[T,T,T,T,T,T,T,T,T,F,F,F,F] ?_
       refine pv HT_ 9 (some 31) #[T,T,T,T,T,T,T,T,T,T,F,F,F] ?_
       refine pv HT_ 10 (some 32) #[T,T,T,T,T,T,T,T,T,T,T,F,F] ?_
       refine pv HT_ 11 (some 6) #[T,T,T,T,T,T,T,T,T,T,T,T,F] ?_
       refine pv HT_ 12 (some 7) #[T,T,T,T,T,T,T,T,T,T,T,T,T] ?_
       refine done_ (done_of HT_.out (by kernel_rfl)) ?_
       try go_wp2
       go_ret
       exact ⟨_, rq, rn, bq2 HB.out GE417.out GE420.out⟩
     replace H := iT H
     replace H := nq H
     obtain ⟨c16, H⟩ := H
     have LMc16 := am c16
     clear c16
     generalize hy434 : ((x3_1 ++ qd1_0) : List Int) = y434 at H
     have Ny434 := am hy434.symm
     clear hy434
     have H' := am H
     clear H
     have p419 : 0 ≤ (x18_1 : Int) := oda
     have q419 : x18_1 < (l0_4.length : Int) := oda
     obtain ⟨ad419, A419_0, c419_0, A419_4, c419_4, e419, hx419_0, hx419_1, hx419_2, hx419_3, hx419_4, hl419_0, hi419_0, hl419_4, hi419_4⟩ := at_T116 HR0_4.out x18_1 p419 q419
     cases e419
     replace hx419_0 := (HB.out.cell (World.block_lt_of_cell? w _ hx419_0)).trans hx419_0
     replace hx419_1 := (HB.out.cell (World.block_lt_of_cell? w _ hx419_1)).trans hx419_1
     replace hx419_2 := (HB.out.cell (World.block_lt_of_cell? w _ hx419_2)).trans hx419_2
     replace hx419_3 := (HB.out.cell (World.block_lt_of_cell? w _ hx419_3)).trans hx419_3
     replace hx419_4 := (HB.out.cell (World.block_lt_of_cell? w _ hx419_4)).trans hx419_4
     have HR419_0 := am hi419_0
     have HC419_0 := am hl419_0
     clear hi419_0 hl419_0
     have HR419_4 := am hi419_4
     have HC419_4 := am hl419_4
     clear hi419_4 hl419_4
     replace p419 := eq_true p419
     replace q419 := eq_true q419
     try go_wp2_with (first | ((with_reducible refine gate_dst (N := 5) rfl ?_); refine bxe 5 #[.slice none 0 0, .int .i64 0, .int .i64 0, .string (⟨#[]⟩ : ByteArray), .slice none 0 0] 116 ?_; intro gb420 hg w17 hbox hb; have n_ := ak8 (rb HO_3 hb) (kb BK417 hb) (below_step (bq1 HB.out GE417.out) hb) hbox (bz hg (bq1 HB.out GE417.out)) (bz hg (bq1 HB.out GE417.out)) (nL hg BK417) (nG hg BK417); clear HO_3 BK417 HB; obtain ⟨HO_3, BK417, HB, BK420, GW420, GE420, NB417_420, NB420_417⟩ := n_; clear hb hbox hg; have hnb18 := NB420_417.out; have hnc18 := NB417_420.out; obtain ⟨hcz19_0, hcz19_1, hcz19_2, hcz19_3, hcz19_4, hfz19_0, hfz19_1, hfz19_2, hfz19_3, hfz19_4⟩ := cl5 BK420.out) | ((with_reducible refine gate_store (t := 116) (p := 5) rfl ?_); refine se 116 5 (s5 w17 gb420 (.slice A419_0 ((rd_T116 l0_4 x18_1).f0).length c419_0) (.int .i64 ((rd_T116 l0_4 x18_1).f1.f0)) (.int .i64 ((rd_T116 l0_4 x18_1).f1.f1)) (.string ((rd_T116 l0_4 x18_1).f1.f2)) (.slice A419_4 ((rd_T116 l0_4 x18_1).f1.f3).length c419_4)) ?_; intro w20 hw; have n_ := ak4 (sr5 hw HO_3 BK420) (sf5 hw BK417 NB417_420) (sc5 hw BK420) (sb hw (bq2 HB.out GE417.out GE420.out)); clear hw HO_3 BK417 BK420 HB; obtain ⟨HO_3, BK417, BK420, HB⟩ := n_))
     have n_ := ak4 (Kd.R_drew HO_3.out) (blk_drew BK417.out) (blk_drew BK420.out) (below_drew1 HB.out)
     clear HO_3 BK417 BK420 HB
     obtain ⟨HO_3, BK417, BK420, HB⟩ := n_
     refine start_ (n := 13) (S := fun w' => w'.cell? ⟨gb420, 0, none⟩ = some (.slice A419_0 ((rd_T116 l0_4 x18_1).f0).length c419_0) ∧ w'.cell? ⟨gb420, 1, none⟩ = some (.int .i64 ((rd_T116 l0_4 x18_1).f1.f0)) ∧ w'.cell? ⟨gb420, 2, none⟩ = some (.int .i64 ((rd_T116 l0_4 x18_1).f1.f1)) ∧ w'.cell? ⟨gb420, 3, none⟩ = some (.string ((rd_T116 l0_4 x18_1).f1.f2)) ∧ w'.cell? ⟨gb420, 4, none⟩ = some (.slice A419_4 ((rd_T116 l0_4 x18_1).f1.f3).length c419_4)) (ds := []) #[F,F,F,F,F,F,F,F,F,F,F,F,F] (by kernel_rfl) rfl rfl ⟨(blk_cell BK420.out 0).trans rfl, (blk_cell BK420.out 1).trans rfl, (blk_cell BK420.out 2).trans rfl, (blk_cell BK420.out 3).trans rfl, (blk_cell BK420.out 4).trans rfl⟩ (fun hHeld => ?_); refine with_tabW impl_PutPdu.tab7 impl_PutPdu.bits7 (fun HT_ HW_ => ?_)
     generalize w20.drew = w21 at HO_3 BK417 BK420 HB hHeld ⊢
     refine pv HT_ 0 (some 23) #[T,F,F,F,F,F,F,F,F,F,F,F,F] ?_
     refine pv HT_ 4 (some 27) #[T,F,F,F,T,F,F,F,F,F,F,F,F] ?_
     refine tk 1 (some 24) #[T,T,F,F,T,F,F,F,F,F,F,F,F] rfl rfl (take_ofW HT_.out HW_.out (by kernel_rfl)) hHeld (Or.inl ⟨by rfl, by rintro w' ⟨s0, s1, s2, s3, s4⟩; go_simp; with_reducible rfl⟩) ?_
     refine tk 5 (some 28) #[T,T,F,F,T,T,F,F,F,F,F,F,F] rfl rfl (take_ofW HT_.out HW_.out (by kernel_rfl)) hHeld (Or.inl ⟨by rfl, by rintro w' ⟨s0, s1, s2, s3, s4⟩; go_simp; with_reducible rfl⟩) ?_
     refine one_ (i := 2) (N := some 25) #[T,T,T,F,T,T,F,F,F,F,F,F,F] rfl rfl (one_of HT_.out (by kernel_rfl)) (by decide) (fun K hK => ?_)
     refine goes_ Try.func70 (by kernel_rfl) rfl #[.slice A419_0 ((rd_T116 l0_4 x18_1).f0).length c419_0] (by rfl) rfl rfl ga ?_
     with_reducible refine (impl_PutOid.calls k1 _ _ ((rd_T116 l0_4 x18_1).f0) t421 _ ?side1 ?side2 A11.out).mono ?_
     (case side1 => exact cq (Kd.C_below HR419_0.out HB.out))
     (case side2 => exact HC419_0.out)
     rintro e w22 ⟨v422, rfl, ho0, hb⟩
     refine ⟨_, rfl, ?_⟩
     have n_ := ak5 (re_ HO_3 ho0 hb) (rn_ ho0 HO_3 (bq2 HB.out GE417.out GE420.out)) (kb BK417 hb) (kb BK420 hb) (below_step (bq2 HB.out GE417.out GE420.out) hb)
     clear HO_3 BK417 BK420 HB
     obtain ⟨HO_3, HO423, BK417, BK420, HB⟩ := n_
     (try clear hb ho0)
     obtain ⟨Ao23, co23, eo23⟩ := Kd.R_slice HO423.out
     (first | subst eo23 | (injection eo23 with f1_ f2_ f3_; have f4_ := f1_.symm; have f5_ := f3_.symm; clear f1_ f2_ f3_; subst f4_; subst f5_))
     refine hK.out _ _ ⟨(blk_cell BK420.out 0).trans rfl, (blk_cell BK420.out 1).trans rfl, (blk_cell BK420.out 2).trans rfl, (blk_cell BK420.out 3).trans rfl, (blk_cell BK420.out 4).trans rfl⟩ (fun hHeld => ?_)
     clear hK K
     refine norm_ (a' := ?_) ?_ ?_
     rotate_left
     · show Act.put _ (some 25) _ = _
       simp only [Act.put, List.setIfInBounds_toArray, List.set_cons_zero, List.set_cons_succ, i64_w, i32_w]
       rfl
     refine one_ (i := 3) (N := some 26) #[T,T,T,T,T,T,F,F,F,F,F,F,F] rfl rfl (one_of HT_.out (by kernel_rfl)) (by decide) (fun K hK => ?_)
     refine goes_ Try.func71 (by kernel_rfl) rfl #[.slice none 0 0, .int .i64 6, .slice Ao23 t421.length co23] (by rfl) rfl rfl ga ?_
     refine (impl_PutTlv.calls k1 _ _ ([] : List Int) 6 _ _ t421 qb1_0 _ ?side1 ?side2 ?side3 ?side4 Qb1.out).mono ?_
     (case side1 => exact Kd.C_nil _ _)
     (case side2 => exact Nat.le_refl _)
     (case side3 => repeat (first | exact (Kd.R_reads' HO423.out).2.2 | (with_reducible refine Kd.C_alloc ?_ _) | (with_reducible refine Kd.C_drewN ?_ _) | (with_reducible refine Kd.C_drew ?_)))
     (case side4 => exact (Kd.R_reads' HO423.out).2.1)
     rintro e w24 ⟨v425, rfl, ho0, hb⟩
     refine ⟨_, rfl, ?_⟩
     have n_ := ak6 (re_ HO_3 ho0 hb) (re_ HO423 ho0 hb) (Kd.R_lower (Kd.R_new' (Kd.R_new' ho0 (Kd.R_lt (kqR HO_3.out))) (Kd.R_lt (kqR HO423.out))) (below_size (bq2 HB.out GE417.out GE420.out))) (kb BK417 hb) (kb BK420 hb) (below_step (bq2 HB.out GE417.out GE420.out) hb)
     clear HO_3 HO423 BK417 BK420 HB
     obtain ⟨HO_3, HO423, HO426, BK417, BK420, HB⟩ := n_
     (try clear hb ho0)
     obtain ⟨Ao25, co25, eo25⟩ := Kd.R_slice HO426.out
     (first | subst eo25 | (injection eo25 with f1_ f2_ f3_; have f4_ := f1_.symm; have f5_ := f3_.symm; clear f1_ f2_ f3_; subst f4_; subst f5_))
     refine hK.out _ _ ⟨(blk_cell BK420.out 0).trans rfl, (blk_cell BK420.out 1).trans rfl, (blk_cell BK420.out 2).trans rfl, (blk_cell BK420.out 3).trans rfl, (blk_cell BK420.out 4).trans rfl⟩ (fun hHeld => ?_)
     clear hK K
     refine norm_ (a' := ?_) ?_ ?_
     rotate_left
     · show Act.put _ (some 26) _ = _
       simp only [Act.put, List.setIfInBounds_toArray, List.set_cons_zero, List.set_cons_succ, i64_w, i32_w]
       rfl
     refine one_ (i := 6) (N := some 29) #[T,T,T,T,T,T,T,F,F,F,F,F,F] rfl rfl (one_of HT_.out (by kernel_rfl)) (by decide) (fun K hK => ?_)
     refine goes_ Try.func17 (by kernel_rfl) rfl #[.slice Ao25 qb1_0.length co25, .agg #[.int .i64 ((rd_T116 l0_4 x18_1).f1.f0), .int .i64 ((rd_T116 l0_4 x18_1).f1.f1), .string ((rd_T116 l0_4 x18_1).f1.f2), .slice A419_4 ((rd_T116 l0_4 x18_1).f1.f3).length c419_4]] (by rfl) rfl rfl ga ?_
     with_reducible refine (impl_PutVal.calls k1 _ _ qb1_0 ((rd_T116 l0_4 x18_1).f1.f0) ((rd_T116 l0_4 x18_1).f1.f1) ((rd_T116 l0_4 x18_1).f1.f2) _ _ ((rd_T116 l0_4 x18_1).f1.f3) qc1_0 _ ?side1 ?side2 ?side3 ?side4 Qc1.out).mono ?_
     (case side1 => repeat (first | exact (Kd.R_reads' HO426.out).2.2 | (with_reducible refine Kd.C_alloc ?_ _) | (with_reducible refine Kd.C_drewN ?_ _) | (with_reducible refine Kd.C_drew ?_)))
     (case side2 => exact (Kd.R_reads' HO426.out).2.1)
     (case side3 => exact cq (Kd.C_below HR419_4.out HB.out))
     (case side4 => exact HC419_4.out)
     rintro e w26 ⟨v428, rfl, ho0, hb⟩
     refine ⟨_, rfl, ?_⟩
     have n_ := ak7 (re_ HO_3 ho0 hb) (re_ HO423 ho0 hb) (re_ HO426 ho0 hb) (Kd.R_lower (Kd.R_new' (Kd.R_new' (Kd.R_new' ho0 (Kd.R_lt (kqR HO_3.out))) (Kd.R_lt (kqR HO423.out))) (Kd.R_lt (kqR HO426.out))) (below_size (bq2 HB.out GE417.out GE420.out))) (kb BK417 hb) (kb BK420 hb) (below_step (bq2 HB.out GE417.out GE420.out) hb)
     clear HO_3 HO423 HO426 BK417 BK420 HB
     obtain ⟨HO_3, HO423, HO426, HO429, BK417, BK420, HB⟩ := n_
     (try clear hb ho0)
     obtain ⟨Ao27, co27, eo27⟩ := Kd.R_slice HO429.out
     (first | subst eo27 | (injection eo27 with f1_ f2_ f3_; have f4_ := f1_.symm; have f5_ := f3_.symm; clear f1_ f2_ f3_; subst f4_; subst f5_))
     refine hK.out _ _ ⟨(blk_cell BK420.out 0).trans rfl, (blk_cell BK420.out 1).trans rfl, (blk_cell BK420.out 2).trans rfl, (blk_cell BK420.out 3).trans rfl, (blk_cell BK420.out 4).trans rfl⟩ (fun hHeld => ?_)
     clear hK K
     refine norm_ (a' := ?_) ?_ ?_
     rotate_left
     · show Act.put _ (some 29) _ = _
       simp only [Act.put, List.setIfInBounds_toArray, List.set_cons_zero, List.set_cons_succ, i64_w, i32_w]
       rfl
     refine one_ (i := 7) (N := some 30) #[T,T,T,T,T,T,T,T,F,F,F,F,F] rfl rfl (one_of HT_.out (by kernel_rfl)) (by decide) (fun K hK => ?_)
     refine goes_ Try.func100 (by kernel_rfl) rfl #[.int .i64 48, .slice Ao27 qc1_0.length co27] (by rfl) rfl rfl ga ?_
     with_reducible refine (impl_tlv.calls k1 48 _ _ qc1_0 qd1_0 true _ ?side1 ?side2 Qd1.out).mono ?_
     (case side1 => repeat (first | exact (Kd.R_reads' HO429.out).2.2 | (with_reducible refine Kd.C_alloc ?_ _) | (with_reducible refine Kd.C_drewN ?_ _) | (with_reducible refine Kd.C_drew ?_)))
     (case side2 => exact (Kd.R_reads' HO429.out).2.1)
     rintro e w28 ⟨v432, rfl, ho0, hb⟩
     refine ⟨_, rfl, ?_⟩
     have n_ := ak8 (re_ HO_3 ho0 hb) (re_ HO423 ho0 hb) (re_ HO426 ho0 hb) (re_ HO429 ho0 hb) (Kd.R_lower (Kd.R_new' (Kd.R_new' (Kd.R_new' (Kd.R_new' ho0 (Kd.R_lt (kqR HO_3.out))) (Kd.R_lt (kqR HO423.out))) (Kd.R_lt (kqR HO426.out))) (Kd.R_lt (kqR HO429.out))) (below_size (bq2 HB.out GE417.out GE420.out))) (kb BK417 hb) (kb BK420 hb) (below_step (bq2 HB.out GE417.out GE420.out) hb)
     clear HO_3 HO423 HO426 HO429 BK417 BK420 HB
     obtain ⟨HO_3, HO423, HO426, HO429, HO433, BK417, BK420, HB⟩ := n_
     (try clear hb ho0)
     refine hK.out _ _ ⟨(blk_cell BK420.out 0).trans rfl, (blk_cell BK420.out 1).trans rfl, (blk_cell BK420.out 2).trans rfl, (blk_cell BK420.out 3).trans rfl, (blk_cell BK420.out 4).trans rfl⟩ (fun hHeld => ?_)
     clear hK K
     refine norm_ (a' := ?_) ?_ ?_
     rotate_left
     · show Act.put _ (some 30) _ = _
       simp only [Act.put, List.setIfInBounds_toArray, List.set_cons_zero, List.set_cons_succ, i64_w, i32_w]
       rfl
     refine pv HT_ 8 (some 22) #[T,T,T,T,T,T,T,T,T,F,F,F,F] ?_
     refine pv HT_ 9 (some 31) #[T,T,T,T,T,T,T,T,T,T,F,F,F] ?_
     refine pv HT_ 10 (some 32) #[T,T,T,T,T,T,T,T,T,T,T,F,F] ?_
     refine pv HT_ 11 (some 6) #[T,T,T,T,T,T,T,T,T,T,T,T,F] ?_
     refine pv HT_ 12 (some 7) #[T,T,T,T,T,T,T,T,T,T,T,T,T] ?_
     refine done_ (done_of HT_.out (by kernel_rfl)) ?_
     obtain ⟨Ao30, co30, eo30⟩ := Kd.R_slice HO433.out
     subst eo30
     try go_wp2_with (first | ((with_reducible refine gate_builtin (b := .append) (xs := #[.tmp 35, .tmp 36]) rfl ?_); at_builtin; refine Kd.R_append_rows (Kd.int .u8) (w0 := w) w.heap.size rfl (.tmp 35) (.tmp 36) 22 5 (.int .u8 0) 1 rfl Try.underlying22 info5 rfl (by decide) (by omega) u3 x3_1 qd1_0 _ _ _ (fun k_ => some k_ ≠ (.slice Ao23 t421.length co23 : Value).ownBlock ∧ some k_ ≠ (.slice Ao25 qb1_0.length co25 : Value).ownBlock ∧ some k_ ≠ (.slice Ao27 qc1_0.length co27 : Value).ownBlock ∧ some k_ ≠ (.slice Ao30 qd1_0.length co30 : Value).ownBlock) (fun _ => False) rfl rfl ?aO ?aR (fun _ _ h => h) (fun _ h => h.elim) ?aF ?aB ?aS ?aL ?_; (case aR => repeat (first | exact (Kd.R_reads' HO433.out).2.2 | (with_reducible refine Kd.C_alloc ?_ _) | (with_reducible refine Kd.C_drewN ?_ _) | (with_reducible refine Kd.C_drew ?_))); (case aB => exact (bq2 HB.out GE417.out GE420.out)); (case aF => exact (fun k_ hk => ⟨Kd.fresh' (Kd.R_lt (kqR HO423.out)) k_ hk, Kd.fresh' (Kd.R_lt (kqR HO426.out)) k_ hk, Kd.fresh' (Kd.R_lt (kqR HO429.out)) k_ hk, Kd.fresh' (Kd.R_lt (kqR HO433.out)) k_ hk⟩)); (case aO => exact (by refine kr ?_; exact Kd.R_mono HO_3.out (fun _ hk => ⟨hk.1.1.1.2, ⟨hk.1.1.2, ⟨hk.1.2, hk.2⟩⟩⟩))); (case aS => exact (below_size (bq2 HB.out GE417.out GE420.out))); (case aL => have := LMc16.out; omega); intro v435 w29 ho hb hg hat; rw [← Ny434.out] at ho; have n_ := ak8 (blk_grown (g := gb417) (o := .cells #[.int .i64 a0_0, .int .i64 a0_1, .int .i64 a0_2, .int .i64 a0_3, .slice (some ad419) l0_4.length c0_4] 58 (0, 0)) (zq BK417.out) hg (Kd.R_ne HO_3.out BK417.out (by decide))) (blk_grown (g := gb420) (o := .cells #[.slice A419_0 ((rd_T116 l0_4 x18_1).f0).length c419_0, .int .i64 ((rd_T116 l0_4 x18_1).f1.f0), .int .i64 ((rd_T116 l0_4 x18_1).f1.f1), .string ((rd_T116 l0_4 x18_1).f1.f2), .slice A419_4 ((rd_T116 l0_4 x18_1).f1.f3).length c419_4] 116 (0, 0)) (zq BK420.out) hg (Kd.R_ne HO_3.out BK420.out (by decide))) (Kd.R_after (ok := (fun k_ => some k_ ≠ (.slice Ao25 qb1_0.length co25 : Value).ownBlock ∧ some k_ ≠ (.slice Ao27 qc1_0.length co27 : Value).ownBlock ∧ some k_ ≠ (.slice Ao30 qd1_0.length co30 : Value).ownBlock)) (by refine kr ?_; exact Kd.R_mono HO423.out (fun _ hk => ⟨⟨hk.1.1.2, ⟨hk.1.2, hk.2⟩⟩, hk.1.1.1.2⟩)) hg hat) (Kd.R_after (ok := (fun k_ => some k_ ≠ (.slice Ao23 t421.length co23 : Value).ownBlock ∧ some k_ ≠ (.slice Ao27 qc1_0.length co27 : Value).ownBlock ∧ some k_ ≠ (.slice Ao30 qd1_0.length co30 : Value).ownBlock)) (by refine kr ?_; exact Kd.R_mono HO426.out (fun _ hk => ⟨⟨hk.1.1.2, ⟨hk.1.2, hk.2⟩⟩, hk.1.1.1.2⟩)) hg hat) (Kd.R_after (ok := (fun k_ => some k_ ≠ (.slice Ao23 t421.length co23 : Value).ownBlock ∧ some k_ ≠ (.slice Ao25 qb1_0.length co25 : Value).ownBlock ∧ some k_ ≠ (.slice Ao30 qd1_0.length co30 : Value).ownBlock)) (by refine kr ?_; exact Kd.R_mono HO429.out (fun _ hk => ⟨⟨hk.1.1.2, ⟨hk.1.2, hk.2⟩⟩, hk.1.1.1.2⟩)) hg hat) (Kd.R_after (ok := (fun k_ => some k_ ≠ (.slice Ao23 t421.length co23 : Value).ownBlock ∧ some k_ ≠ (.slice Ao25 qb1_0.length co25 : Value).ownBlock ∧ some k_ ≠ (.slice Ao27 qc1_0.length co27 : Value).ownBlock)) (by refine kr ?_; exact Kd.R_mono HO433.out (fun _ hk => ⟨⟨hk.1.1.2, ⟨hk.1.2, hk.2⟩⟩, hk.1.1.1.2⟩)) hg hat) hb ho; clear BK417 BK420 HO423 HO426 HO429 HO433 HB HO_3; obtain ⟨BK417, BK420, HO423, HO426, HO429, HO433, HB, HO436⟩ := n_; clear ho hb hg hat))
     go_roundg k1
     case measure => have := HK1.out; omega
     case rel => exact ⟨(y434), (wrap64 (x18_1 + 1)), sq, H', ⟨by have := HK1.out; omega⟩, ⟨by refine kr ?_; exact Kd.R_mono HO436.out (fun _ hk => trivial)⟩, ⟨zq BK417.out⟩, ⟨bq2 HB.out GE417.out GE420.out⟩⟩
   replace H := be H
   obtain ⟨⟨t437, t438⟩, A43, H⟩ := H
   try dsimp only at H
   cases t438
   · replace H := iF H
     obtain rfl := Option.some.inj H
     obtain ⟨Ao75, co75, eo75⟩ := Kd.R_slice HO_3.out
     subst eo75
     go_wp2_with (first | ((with_reducible refine gate_callee (f := 100) rfl ?_); refine gc (some 41) (impl_tlv.calls k1 48 _ _ x3_1 t437 false _ (cq (Kd.R_reads' HO_3.out).2.2) ((Kd.R_reads' HO_3.out).2.1) A43.out) Try.func100 ?_; rintro e w76 ⟨v439, rfl, ho0, hb⟩; refine ⟨_, rfl, ?_⟩; have n_ := ak4 (re_ HO_3 ho0 hb) (rn_ ho0 HO_3 (bq1 HB.out GE417.out)) (kb BK417 hb) (below_step (bq1 HB.out GE417.out) hb); clear HO_3 BK417 HB; obtain ⟨HO_3, HO440, BK417, HB⟩ := n_; (try clear hb ho0)))
     go_ret
     exact ⟨_, rq, rn, bq1 HB.out GE417.out⟩
   replace H := iT H
   replace H := be H
   obtain ⟨qe1_0, Qe1, H⟩ := H
   replace H := be H
   obtain ⟨qe2_0, Qe2, H⟩ := H
   replace H := be H
   obtain ⟨qe3_0, Qe3, H⟩ := H
   replace H := nq H
   obtain ⟨c48, H⟩ := H
   have LMc48 := am c48
   clear c48
   generalize hy450 : ((qe3_0 ++ t437) : List Int) = y450 at H
   have Ny450 := am hy450.symm
   clear hy450
   replace H := be H
   obtain ⟨⟨qd1_0, qd1_1⟩, Qd1, H⟩ := H
   try dsimp only at H
   rcases bt qd1_1 with rfl | rfl
   · replace H := iT H
     obtain rfl := Option.some.inj H
     obtain ⟨Ao51, co51, eo51⟩ := Kd.R_slice HO_3.out
     subst eo51
     try go_wp2_with (first | ((with_reducible refine gate_callee (f := 100) rfl ?_); refine gc (some 41) (impl_tlv.calls k1 48 _ _ x3_1 t437 true _ (cq (Kd.R_reads' HO_3.out).2.2) ((Kd.R_reads' HO_3.out).2.1) A43.out) Try.func100 ?_; rintro e w52 ⟨v439, rfl, ho0, hb⟩; refine ⟨_, rfl, ?_⟩; have n_ := ak4 (re_ HO_3 ho0 hb) (rn_ ho0 HO_3 (bq1 HB.out GE417.out)) (kb BK417 hb) (below_step (bq1 HB.out GE417.out) hb); clear HO_3 BK417 HB; obtain ⟨HO_3, HO440, BK417, HB⟩ := n_; (try clear hb ho0)))
     have n_ := ak4 (Kd.R_drew HO_3.out) (Kd.R_drew HO440.out) (blk_drew BK417.out) (below_drew1 HB.out)
     clear HO_3 HO440 BK417 HB
     obtain ⟨HO_3, HO440, BK417, HB⟩ := n_
     refine start_ (n := 19) (S := fun w' => w'.cell? ⟨gb417, 0, none⟩ = some (.int .i64 a0_0) ∧ w'.cell? ⟨gb417, 1, none⟩ = some (.int .i64 a0_1) ∧ w'.cell? ⟨gb417, 2, none⟩ = some (.int .i64 a0_2) ∧ w'.cell? ⟨gb417, 3, none⟩ = some (.int .i64 a0_3) ∧ w'.cell? ⟨gb417, 4, none⟩ = some (.slice A0_4 l0_4.length c0_4)) (ds := []) #[F,F,F,F,F,F,F,F,F,F,F,F,F,F,F,F,F,F,F] (by kernel_rfl) rfl rfl ⟨(blk_cell BK417.out 0).trans rfl, (blk_cell BK417.out 1).trans rfl, (blk_cell BK417.out 2).trans rfl, (blk_cell BK417.out 3).trans rfl, (blk_cell BK417.out 4).trans rfl⟩ (fun hHeld => ?_); refine with_tabW impl_PutPdu.tab15 impl_PutPdu.bits15 (fun HT_ HW_ => ?_)
     generalize w52.drew = w53 at HO_3 HO440 BK417 HB hHeld ⊢
     refine pv HT_ 0 (some 47) #[T,F,F,F,F,F,F,F,F,F,F,F,F,F,F,F,F,F,F] ?_
     refine pv HT_ 2 (some 49) #[T,F,T,F,F,F,F,F,F,F,F,F,F,F,F,F,F,F,F] ?_
     refine pv HT_ 5 (some 52) #[T,F,T,F,F,T,F,F,F,F,F,F,F,F,F,F,F,F,F] ?_
     refine pv HT_ 8 (some 55) #[T,F,T,F,F,T,F,F,T,F,F,F,F,F,F,F,F,F,F] ?_
     refine pv HT_ 11 (some 58) #[T,F,T,F,F,T,F,F,T,F,F,T,F,F,F,F,F,F,F] ?_
     refine tk 1 (some 48) #[T,T,T,F,F,T,F,F,T,F,F,T,F,F,F,F,F,F,F] rfl rfl (take_ofW HT_.out HW_.out (by kernel_rfl)) hHeld (Or.inl ⟨by rfl, by rintro w' ⟨s0, s1, s2, s3, s4⟩; go_simp; with_reducible rfl⟩) ?_
     refine tk 3 (some 50) #[T,T,T,T,F,T,F,F,T,F,F,T,F,F,F,F,F,F,F] rfl rfl (take_ofW HT_.out HW_.out (by kernel_rfl)) hHeld (Or.inl ⟨by rfl, by rintro w' ⟨s0, s1, s2, s3, s4⟩; go_simp; with_reducible rfl⟩) ?_
     refine tk 6 (some 53) #[T,T,T,T,F,T,T,F,T,F,F,T,F,F,F,F,F,F,F] rfl rfl (take_ofW HT_.out HW_.out (by kernel_rfl)) hHeld (Or.inl ⟨by rfl, by rintro w' ⟨s0, s1, s2, s3, s4⟩; go_simp; with_reducible rfl⟩) ?_
     refine tk 9 (some 56) #[T,T,T,T,F,T,T,F,T,T,F,T,F,F,F,F,F,F,F] rfl rfl (take_ofW HT_.out HW_.out (by kernel_rfl)) hHeld (Or.inl ⟨by rfl, by rintro w' ⟨s0, s1, s2, s3, s4⟩; go_simp; with_reducible rfl⟩) ?_
     refine one_ (i := 4) (N := some 51) #[T,T,T,T,T,T,T,F,T,T,F,T,F,F,F,F,F,F,F] rfl rfl (one_of HT_.out (by kernel_rfl)) (by decide) (fun K hK => ?_)
     refine goes_ Try.func76 (by kernel_rfl) rfl #[.slice none 0 0, .int .i64 2, .int .i64 a0_1] (by rfl) rfl rfl ga ?_
     refine (impl_addNum.calls k1 _ _ ([] : List Int) 2 a0_1 qe1_0 _ ?side1 ?side2 Qe1.out).mono ?_
     (case side1 => exact Kd.C_nil _ _)
     (case side2 => exact Nat.le_refl _)
     rintro e w54 ⟨v442, rfl, ho0, hb⟩
     refine ⟨_, rfl, ?_⟩
     have n_ := ak5 (re_ HO_3 ho0 hb) (re_ HO440 ho0 hb) (Kd.R_lower (Kd.R_new' (Kd.R_new' ho0 (Kd.R_lt (kqR HO_3.out))) (Kd.R_lt (kqR HO440.out))) (below_size (bq1 HB.out GE417.out))) (kb BK417 hb) (below_step (bq1 HB.out GE417.out) hb)
     clear HO_3 HO440 BK417 HB
     obtain ⟨HO_3, HO440, HO443, BK417, HB⟩ := n_
     (try clear hb ho0)
     obtain ⟨Ao55, co55, eo55⟩ := Kd.R_slice HO443.out
     (first | subst eo55 | (injection eo55 with f1_ f2_ f3_; have f4_ := f1_.symm; have f5_ := f3_.symm; clear f1_ f2_ f3_; subst f4_; subst f5_))
     refine hK.out _ _ ⟨(blk_cell BK417.out 0).trans rfl, (blk_cell BK417.out 1).trans rfl, (blk_cell BK417.out 2).trans rfl, (blk_cell BK417.out 3).trans rfl, (blk_cell BK417.out 4).trans rfl⟩ (fun hHeld => ?_)
     clear hK K
     refine norm_ (a' := ?_) ?_ ?_
     rotate_left
     · show Act.put _ (some 51) _ = _
       simp only [Act.put, List.setIfInBounds_toArray, List.set_cons_zero, List.set_cons_succ, i64_w, i32_w]
       rfl
     refine one_ (i := 7) (N := some 54) #[T,T,T,T,T,T,T,T,T,T,F,T,F,F,F,F,F,F,F] rfl rfl (one_of HT_.out (by kernel_rfl)) (by decide) (fun K hK => ?_)
     refine goes_ Try.func76 (by kernel_rfl) rfl #[.slice Ao55 qe1_0.length co55, .int .i64 2, .int .i64 a0_2] (by rfl) rfl rfl ga ?_
     with_reducible refine (impl_addNum.calls k1 _ _ qe1_0 2 a0_2 qe2_0 _ ?side1 ?side2 Qe2.out).mono ?_
     (case side1 => repeat (first | exact (Kd.R_reads' HO443.out).2.2 | (with_reducible refine Kd.C_alloc ?_ _) | (with_reducible refine Kd.C_drewN ?_ _) | (with_reducible refine Kd.C_drew ?_)))
     (case side2 => exact (Kd.R_reads' HO443.out).2.1)
     rintro e w56 ⟨v445, rfl, ho0, hb⟩
     refine ⟨_, rfl, ?_⟩
     have n_ := ak6 (re_ HO_3 ho0 hb) (re_ HO440 ho0 hb) (re_ HO443 ho0 hb) (Kd.R_lower (Kd.R_new' (Kd.R_new' (Kd.R_new' ho0 (Kd.R_lt (kqR HO_3.out))) (Kd.R_lt (kqR HO440.out))) (Kd.R_lt (kqR HO443.out))) (below_size (bq1 HB.out GE417.out))) (kb BK417 hb) (below_step (bq1 HB.out GE417.out) hb)
     clear HO_3 HO440 HO443 BK417 HB
     obtain ⟨HO_3, HO440, HO443, HO446, BK417, HB⟩ := n_
     (try clear hb ho0)
     obtain ⟨Ao57, co57, eo57⟩ := Kd.R_slice HO446.out
     (first | subst eo57 | (injection eo57 with f1_ f2_ f3_; have f4_ := f1_.symm; have f5_ := f3_.symm; clear f1_ f2_ f3_; subst f4_; subst f5_))
     refine hK.out _ _ ⟨(blk_cell BK417.out 0).trans rfl, (blk_cell BK417.out 1).trans rfl, (blk_cell BK417.out 2).trans rfl, (blk_cell BK417.out 3).trans rfl, (blk_cell BK417.out 4).trans rfl⟩ (fun hHeld => ?_)
     clear hK K
     refine norm_ (a' := ?_) ?_ ?_
     rotate_left
     · show Act.put _ (some 54) _ = _
       simp only [Act.put, List.setIfInBounds_toArray, List.set_cons_zero, List.set_cons_succ, i64_w, i32_w]
       rfl
     refine one_ (i := 10) (N := some 57) #[T,T,T,T,T,T,T,T,T,T,T,T,F,F,F,F,F,F,F] rfl rfl (one_of HT_.out (by kernel_rfl)) (by decide) (fun K hK => ?_)
     refine goes_ Try.func76 (by kernel_rfl) rfl #[.slice Ao57 qe2_0.length co57, .int .i64 2, .int .i64 a0_3] (by rfl) rfl rfl ga ?_
     with_reducible refine (impl_addNum.calls k1 _ _ qe2_0 2 a0_3 qe3_0 _ ?side1 ?side2 Qe3.out).mono ?_
     (case side1 => repeat (first | exact (Kd.R_reads' HO446.out).2.2 | (with_reducible refine Kd.C_alloc ?_ _) | (with_reducible refine Kd.C_drewN ?_ _) | (with_reducible refine Kd.C_drew ?_)))
     (case side2 => exact (Kd.R_reads' HO446.out).2.1)
     rintro e w58 ⟨v448, rfl, ho0, hb⟩
     refine ⟨_, rfl, ?_⟩
     have n_ := ak7 (re_ HO_3 ho0 hb) (re_ HO440 ho0 hb) (re_ HO443 ho0 hb) (re_ HO446 ho0 hb) (Kd.R_lower (Kd.R_new' (Kd.R_new' (Kd.R_new' (Kd.R_new' ho0 (Kd.R_lt (kqR HO_3.out))) (Kd.R_lt (kqR HO440.out))) (Kd.R_lt (kqR HO443.out))) (Kd.R_lt (kqR HO446.out))) (below_size (bq1 HB.out GE417.out))) (kb BK417 hb) (below_step (bq1 HB.out GE417.out) hb)
     clear HO_3 HO440 HO443 HO446 BK417 HB
     obtain ⟨HO_3, HO440, HO443, HO446, HO449, BK417, HB⟩ := n_
     (try clear hb ho0)
     obtain ⟨Ao60, co60, eo60⟩ := Kd.R_slice HO440.out
     (first | subst eo60 | (injection eo60 with f1_ f2_ f3_; have f4_ := f1_.symm; have f5_ := f3_.symm; clear f1_ f2_ f3_; subst f4_; subst f5_))
     refine hK.out _ _ ⟨(blk_cell BK417.out 0).trans rfl, (blk_cell BK417.out 1).trans rfl, (blk_cell BK417.out 2).trans rfl, (blk_cell BK417.out 3).trans rfl, (blk_cell BK417.out 4).trans rfl⟩ (fun hHeld => ?_)
     clear hK K
     refine norm_ (a' := ?_) ?_ ?_
     rotate_left
     · show Act.put _ (some 57) _ = _
       simp only [Act.put, List.setIfInBounds_toArray, List.set_cons_zero, List.set_cons_succ, i64_w, i32_w]
       rfl
     refine one_ (i := 12) (N := some 59) #[T,T,T,T,T,T,T,T,T,T,T,T,T,F,F,F,F,F,F] rfl rfl (one_of HT_.out (by kernel_rfl)) (by decide) (fun K hK => ?_)
     refine Kd.R_append_rows_step (Kd.int .u8) (w0 := w) w.heap.size (by rfl) (.tmp 57) (.tmp 58) 22 5 (.int .u8 0) 1 rfl Try.underlying22 info5 rfl (by decide) (by omega) v448 qe3_0 t437 _ _ _ (fun k_ => some k_ ≠ (.slice Ao51 x3_1.length co51 : Value).ownBlock ∧ some k_ ≠ (.slice Ao60 t437.length co60 : Value).ownBlock ∧ some k_ ≠ (.slice Ao55 qe1_0.length co55 : Value).ownBlock ∧ some k_ ≠ (.slice Ao57 qe2_0.length co57 : Value).ownBlock) (fun _ => False) rfl rfl ?aO ?aR (fun _ _ h => h) (fun _ h => h.elim) ?aF ?aB ?aS ?aL ?_
     (case aR => repeat (first | exact (Kd.R_reads' HO440.out).2.2 | (with_reducible refine Kd.C_alloc ?_ _) | (with_reducible refine Kd.C_drewN ?_ _) | (with_reducible refine Kd.C_drew ?_)))
     (case aB => exact (bq1 HB.out GE417.out))
     (case aF => exact (fun k_ hk => ⟨Kd.fresh' (Kd.R_lt (kqR HO_3.out)) k_ hk, Kd.fresh' (Kd.R_lt (kqR HO440.out)) k_ hk, Kd.fresh' (Kd.R_lt (kqR HO443.out)) k_ hk, Kd.fresh' (Kd.R_lt (kqR HO446.out)) k_ hk⟩))
     (case aO => exact (by refine kr ?_; exact Kd.R_mono HO449.out (fun _ hk => ⟨hk.1.1.1.2, ⟨hk.1.1.2, ⟨hk.1.2, hk.2⟩⟩⟩)))
     (case aS => exact (below_size (bq1 HB.out GE417.out)))
     (case aL => have := LMc48.out; omega)
     intro v451 w59 ho hb hg hat
     rw [← Ny450.out] at ho
     have n_ := ak7 (Kd.R_after (ok := (fun k_ => some k_ ≠ (.slice Ao60 t437.length co60 : Value).ownBlock ∧ some k_ ≠ (.slice Ao55 qe1_0.length co55 : Value).ownBlock ∧ some k_ ≠ (.slice Ao57 qe2_0.length co57 : Value).ownBlock)) (by refine kr ?_; exact Kd.R_mono HO_3.out (fun _ hk => ⟨⟨hk.1.1.1.2, ⟨hk.1.1.2, hk.1.2⟩⟩, hk.2⟩)) hg hat) (blk_grown (g := gb417) (o := .cells #[.int .i64 a0_0, .int .i64 a0_1, .int .i64 a0_2, .int .i64 a0_3, .slice A0_4 l0_4.length c0_4] 58 (0, 0)) (zq BK417.out) hg (Kd.R_ne HO449.out BK417.out (by decide))) (Kd.R_after (ok := (fun k_ => some k_ ≠ (.slice Ao51 x3_1.length co51 : Value).ownBlock ∧ some k_ ≠ (.slice Ao55 qe1_0.length co55 : Value).ownBlock ∧ some k_ ≠ (.slice Ao57 qe2_0.length co57 : Value).ownBlock)) (by refine kr ?_; exact Kd.R_mono HO440.out (fun _ hk => ⟨⟨hk.1.1.1.2, ⟨hk.1.1.2, hk.1.2⟩⟩, hk.2⟩)) hg hat) (Kd.R_after (ok := (fun k_ => some k_ ≠ (.slice Ao51 x3_1.length co51 : Value).ownBlock ∧ some k_ ≠ (.slice Ao60 t437.length co60 : Value).ownBlock ∧ some k_ ≠ (.slice Ao57 qe2_0.length co57 : Value).ownBlock)) (by refine kr ?_; exact Kd.R_mono HO443.out (fun _ hk => ⟨⟨hk.1.1.1.2, ⟨hk.1.1.2, hk.1.2⟩⟩, hk.2⟩)) hg hat) (Kd.R_after (ok := (fun k_ => some k_ ≠ (.slice Ao51 x3_1.length co51 : Value).ownBlock ∧ some k_ ≠ (.slice Ao60 t437.length co60 : Value).ownBlock ∧ some k_ ≠ (.slice Ao55 qe1_0.length co55 : Value).ownBlock)) (by refine kr ?_; exact Kd.R_mono HO446.out (fun _ hk => ⟨⟨hk.1.1.1.2, ⟨hk.1.1.2, hk.1.2⟩⟩, hk.2⟩)) hg hat) hb ho
     clear HO_3 BK417 HO440 HO443 HO446 HB HO449
     obtain ⟨HO_3, BK417, HO440, HO443, HO446, HB, HO452⟩ := n_
     clear ho hb hg hat
     obtain ⟨Ao61, co61, eo61⟩ := Kd.R_slice HO452.out
     (first | subst eo61 | (injection eo61 with f1_ f2_ f3_; have f4_ := f1_.symm; have f5_ := f3_.symm; clear f1_ f2_ f3_; subst f4_; subst f5_))
     refine hK.out _ _ ⟨(blk_cell BK417.out 0).trans rfl, (blk_cell BK417.out 1).trans rfl, (blk_cell BK417.out 2).trans rfl, (blk_cell BK417.out 3).trans rfl, (blk_cell BK417.out 4).trans rfl⟩ (fun hHeld => ?_)
     clear hK K
     refine norm_ (a' := ?_) ?_ ?_
     rotate_left
     · show Act.put _ (some 59) _ = _
       simp only [Act.put, List.setIfInBounds_toArray, List.set_cons_zero, List.set_cons_succ, i64_w, i32_w]
       rfl
     refine one_ (i := 13) (N := some 60) #[T,T,T,T,T,T,T,T,T,T,T,T,T,T,F,F,F,F,F] rfl rfl (one_of HT_.out (by kernel_rfl)) (by decide) (fun K hK => ?_)
     refine goes_ Try.func100 (by kernel_rfl) rfl #[.int .i64 a0_0, .slice Ao61 y450.length co61] (by rfl) rfl rfl ga ?_
     with_reducible refine (impl_tlv.calls k1 a0_0 _ _ y450 qd1_0 true _ ?side1 ?side2 Qd1.out).mono ?_
     (case side1 => repeat (first | exact (Kd.R_reads' HO452.out).2.2 | (with_reducible refine Kd.C_alloc ?_ _) | (with_reducible refine Kd.C_drewN ?_ _) | (with_reducible refine Kd.C_drew ?_)))
     (case side2 => exact (Kd.R_reads' HO452.out).2.1)
     rintro e w62 ⟨v455, rfl, ho0, hb⟩
     refine ⟨_, rfl, ?_⟩
     have n_ := ak8 (re_ HO_3 ho0 hb) (re_ HO440 ho0 hb) (re_ HO443 ho0 hb) (re_ HO446 ho0 hb) (re_ HO452 ho0 hb) (Kd.R_lower (Kd.R_new' (Kd.R_new' (Kd.R_new' (Kd.R_new' (Kd.R_new' ho0 (Kd.R_lt (kqR HO_3.out))) (Kd.R_lt (kqR HO440.out))) (Kd.R_lt (kqR HO443.out))) (Kd.R_lt (kqR HO446.out))) (Kd.R_lt (kqR HO452.out))) (below_size (bq1 HB.out GE417.out))) (kb BK417 hb) (below_step (bq1 HB.out GE417.out) hb)
     clear HO_3 HO440 HO443 HO446 HO452 BK417 HB
     obtain ⟨HO_3, HO440, HO443, HO446, HO452, HO456, BK417, HB⟩ := n_
     (try clear hb ho0)
     refine hK.out _ _ ⟨(blk_cell BK417.out 0).trans rfl, (blk_cell BK417.out 1).trans rfl, (blk_cell BK417.out 2).trans rfl, (blk_cell BK417.out 3).trans rfl, (blk_cell BK417.out 4).trans rfl⟩ (fun hHeld => ?_)
     clear hK K
     refine norm_ (a' := ?_) ?_ ?_
     rotate_left
     · show Act.put _ (some 60) _ = _
       simp only [Act.put, List.setIfInBounds_toArray, List.set_cons_zero, List.set_cons_succ, i64_w, i32_w]
       rfl
     refine pv HT_ 14 (some 46) #[T,T,T,T,T,T,T,T,T,T,T,T,T,T,T,F,F,F,F] ?_
     refine pv HT_ 15 (some 61) #[T,T,T,T,T,T,T,T,T,T,T,T,T,T,T,T,F,F,F] ?_
     refine pv HT_ 16 (some 62) #[T,T,T,T,T,T,T,T,T,T,T,T,T,T,T,T,T,F,F] ?_
     refine pv HT_ 17 (some 10) #[T,T,T,T,T,T,T,T,T,T,T,T,T,T,T,T,T,T,F] ?_
     refine pv HT_ 18 (some 11) #[T,T,T,T,T,T,T,T,T,T,T,T,T,T,T,T,T,T,T] ?_
     refine done_ (done_of HT_.out (by kernel_rfl)) ?_
     try go_wp2
     go_ret
     exact ⟨_, rq, by refine kr ?_; exact Kd.R_mono HO456.out (fun _ hk => trivial), bq1 HB.out GE417.out⟩
   replace H := iF H
   obtain rfl := Option.some.inj H
   obtain ⟨Ao63, co63, eo63⟩ := Kd.R_slice HO_3.out
   subst eo63
   try go_wp2_with (first | ((with_reducible refine gate_callee (f := 100) rfl ?_); refine gc (some 41) (impl_tlv.calls k1 48 _ _ x3_1 t437 true _ (cq (Kd.R_reads' HO_3.out).2.2) ((Kd.R_reads' HO_3.out).2.1) A43.out) Try.func100 ?_; rintro e w64 ⟨v439, rfl, ho0, hb⟩; refine ⟨_, rfl, ?_⟩; have n_ := ak4 (re_ HO_3 ho0 hb) (rn_ ho0 HO_3 (bq1 HB.out GE417.out)) (kb BK417 hb) (below_step (bq1 HB.out GE417.out) hb); clear HO_3 BK417 HB; obtain ⟨HO_3, HO440, BK417, HB⟩ := n_; (try clear hb ho0)))
   have n_ := ak4 (Kd.R_drew HO_3.out) (Kd.R_drew HO440.out) (blk_drew BK417.out) (below_drew1 HB.out)
   clear HO_3 HO440 BK417 HB
   obtain ⟨HO_3, HO440, BK417, HB⟩ := n_
   refine start_ (n := 19) (S := fun w' => w'.cell? ⟨gb417, 0, none⟩ = some (.int .i64 a0_0) ∧ w'.cell? ⟨gb417, 1, none⟩ = some (.int .i64 a0_1) ∧ w'.cell? ⟨gb417, 2, none⟩ = some (.int .i64 a0_2) ∧ w'.cell? ⟨gb417, 3, none⟩ = some (.int .i64 a0_3) ∧ w'.cell? ⟨gb417, 4, none⟩ = some (.slice A0_4 l0_4.length c0_4)) (ds := []) #[F,F,F,F,F,F,F,F,F,F,F,F,F,F,F,F,F,F,F] (by kernel_rfl) rfl rfl ⟨(blk_cell BK417.out 0).trans rfl, (blk_cell BK417.out 1).trans rfl, (blk_cell BK417.out 2).trans rfl, (blk_cell BK417.out 3).trans rfl, (blk_cell BK417.out 4).trans rfl⟩ (fun hHeld => ?_); refine with_tabW impl_PutPdu.tab15 impl_PutPdu.bits15 (fun HT_ HW_ => ?_)
   generalize w64.drew = w65 at HO_3 HO440 BK417 HB hHeld ⊢
   refine pv HT_ 0 (some 47) #[T,F,F,F,F,F,F,F,F,F,F,F,F,F,F,F,F,F,F] ?_
   refine pv HT_ 2 (some 49) #[T,F,T,F,F,F,F,F,F,F,F,F,F,F,F,F,F,F,F] ?_
   refine pv HT_ 5 (some 52) #[T,F,T,F,F,T,F,F,F,F,F,F,F,F,F,F,F,F,F] ?_
   refine pv HT_ 8 (some 55) #[T,F,T,F,F,T,F,F,T,F,F,F,F,F,F,F,F,F,F] ?_
   refine pv HT_ 11 (some 58) #[T,F,T,F,F,T,F,F,T,F,F,T,F,F,F,F,F,F,F] ?_
   refine tk 1 (some 48) #[T,T,T,F,F,T,F,F,T,F,F,T,F,F,F,F,F,F,F] rfl rfl (take_ofW HT_.out HW_.out (by kernel_rfl)) hHeld (Or.inl ⟨by rfl, by rintro w' ⟨s0, s1, s2, s3, s4⟩; go_simp; with_reducible rfl⟩) ?_
   refine tk 3 (some 50) #[T,T,T,T,F,T,F,F,T,F,F,T,F,F,F,F,F,F,F] rfl rfl (take_ofW HT_.out HW_.out (by kernel_rfl)) hHeld (Or.inl ⟨by rfl, by rintro w' ⟨s0, s1, s2, s3, s4⟩; go_simp; with_reducible rfl⟩) ?_
   refine tk 6 (some 53) #[T,T,T,T,F,T,T,F,T,F,F,T,F,F,F,F,F,F,F] rfl rfl (take_ofW HT_.out HW_.out (by kernel_rfl)) hHeld (Or.inl ⟨by rfl, by rintro w' ⟨s0, s1, s2, s3, s4⟩; go_simp; with_reducible rfl⟩) ?_
   refine tk 9 (some 56) #[T,T,T,T,F,T,T,F,T,T,F,T,F,F,F,F,F,F,F] rfl rfl (take_ofW HT_.out HW_.out (by kernel_rfl)) hHeld (Or.inl ⟨by rfl, by rintro w' ⟨s0, s1, s2, s3, s4⟩; go_simp; with_reducible rfl⟩) ?_
   refine one_ (i := 4) (N := some 51) #[T,T,T,T,T,T,T,F,T,T,F,T,F,F,F,F,F,F,F] rfl rfl (one_of HT_.out (by kernel_rfl)) (by decide) (fun K hK => ?_)
   refine goes_ Try.func76 (by kernel_rfl) rfl #[.slice none 0 0, .int .i64 2, .int .i64 a0_1] (by rfl) rfl rfl ga ?_
   refine (impl_addNum.calls k1 _ _ ([] : List Int) 2 a0_1 qe1_0 _ ?side1 ?side2 Qe1.out).mono ?_
   (case side1 => exact Kd.C_nil _ _)
   (case side2 => exact Nat.le_refl _)
   rintro e w66 ⟨v442, rfl, ho0, hb⟩
   refine ⟨_, rfl, ?_⟩
   have n_ := ak5 (re_ HO_3 ho0 hb) (re_ HO440 ho0 hb) (Kd.R_lower (Kd.R_new' (Kd.R_new' ho0 (Kd.R_lt (kqR HO_3.out))) (Kd.R_lt (kqR HO440.out))) (below_size (bq1 HB.out GE417.out))) (kb BK417 hb) (below_step (bq1 HB.out GE417.out) hb)
   clear HO_3 HO440 BK417 HB
   obtain ⟨HO_3, HO440, HO443, BK417, HB⟩ := n_
   (try clear hb ho0)
   obtain ⟨Ao67, co67, eo67⟩ := Kd.R_slice HO443.out
   (first | subst eo67 | (injection eo67 with f1_ f2_ f3_; have f4_ := f1_.symm; have f5_ := f3_.symm; clear f1_ f2_ f3_; subst f4_; subst f5_))
   refine hK.out _ _ ⟨(blk_cell BK417.out 0).trans rfl, (blk_cell BK417.out 1).trans rfl, (blk_cell BK417.out 2).trans rfl, (blk_cell BK417.out 3).trans rfl, (blk_cell BK417.out 4).trans rfl⟩ (fun hHeld => ?_)
   clear hK K
   refine norm_ (a' := ?_) ?_ ?_
   rotate_left
   · show Act.put _ (some 51) _ = _
     simp only [Act.put, List.setIfInBounds_toArray, List.set_cons_zero, List.set_cons_succ, i64_w, i32_w]
     rfl
   refine one_ (i := 7) (N := some 54) #[T,T,T,T,T,T,T,T,T,T,F,T,F,F,F,F,F,F,F] rfl rfl (one_of HT_.out (by kernel_rfl)) (by decide) (fun K hK => ?_)
   refine goes_ Try.func76 (by kernel_rfl) rfl #[.slice Ao67 qe1_0.length co67, .int .i64 2, .int .i64 a0_2] (by rfl) rfl rfl ga ?_
   with_reducible refine (impl_addNum.calls k1 _ _ qe1_0 2 a0_2 qe2_0 _ ?side1 ?side2 Qe2.out).mono ?_
   (case side1 => repeat (first | exact (Kd.R_reads' HO443.out).2.2 | (with_reducible refine Kd.C_alloc ?_ _) | (with_reducible refine Kd.C_drewN ?_ _) | (with_reducible refine Kd.C_drew ?_)))
   (case side2 => exact (Kd.R_reads' HO443.out).2.1)
   rintro e w68 ⟨v445, rfl, ho0, hb⟩
   refine ⟨_, rfl, ?_⟩
   have n_ := ak6 (re_ HO_3 ho0 hb) (re_ HO440 ho0 hb) (re_ HO443 ho0 hb) (Kd.R_lower (Kd.R_new' (Kd.R_new' (Kd.R_new' ho0 (Kd.R_lt (kqR HO_3.out))) (Kd.R_lt (kqR HO440.out))) (Kd.R_lt (kqR HO443.out))) (below_size (bq1 HB.out GE417.out))) (kb BK417 hb) (below_step (bq1 HB.out GE417.out) hb)
   clear HO_3 HO440 HO443 BK417 HB
   obtain ⟨HO_3, HO440, HO443, HO446, BK417, HB⟩ := n_
   (try clear hb ho0)
   obtain ⟨Ao69, co69, eo69⟩ := Kd.R_slice HO446.out
   (first | subst eo69 | (injection eo69 with f1_ f2_ f3_; have f4_ := f1_.symm; have f5_ := f3_.symm; clear f1_ f2_ f3_; subst f4_; subst f5_))
   refine hK.out _ _ ⟨(blk_cell BK417.out 0).trans rfl, (blk_cell BK417.out 1).trans rfl, (blk_cell BK417.out 2).trans rfl, (blk_cell BK417.out 3).trans rfl, (blk_cell BK417.out 4).trans rfl⟩ (fun hHeld => ?_)
   clear hK K
   refine norm_ (a' := ?_) ?_ ?_
   rotate_left
   · show Act.put _ (some 54) _ = _
     simp only [Act.put, List.setIfInBounds_toArray, List.set_cons_zero, List.set_cons_succ, i64_w, i32_w]
     rfl
   refine one_ (i := 10) (N := some 57) #[T,T,T,T,T,T,T,T,T,T,T,T,F,F,F,F,F,F,F] rfl rfl (one_of HT_.out (by kernel_rfl)) (by decide) (fun K hK => ?_)
   refine goes_ Try.func76 (by kernel_rfl) rfl #[.slice Ao69 qe2_0.length co69, .int .i64 2, .int .i64 a0_3] (by rfl) rfl rfl ga ?_
   with_reducible refine (impl_addNum.calls k1 _ _ qe2_0 2 a0_3 qe3_0 _ ?side1 ?side2 Qe3.out).mono ?_
   (case side1 => repeat (first | exact (Kd.R_reads' HO446.out).2.2 | (with_reducible refine Kd.C_alloc ?_ _) | (with_reducible refine Kd.C_drewN ?_ _) | (with_reducible refine Kd.C_drew ?_)))
   (case side2 => exact (Kd.R_reads' HO446.out).2.1)
   rintro e w70 ⟨v448, rfl, ho0, hb⟩
   refine ⟨_, rfl, ?_⟩
   have n_ := ak7 (re_ HO_3 ho0 hb) (re_ HO440 ho0 hb) (re_ HO443 ho0 hb) (re_ HO446 ho0 hb) (Kd.R_lower (Kd.R_new' (Kd.R_new' (Kd.R_new' (Kd.R_new' ho0 (Kd.R_lt (kqR HO_3.out))) (Kd.R_lt (kqR HO440.out))) (Kd.R_lt (kqR HO443.out))) (Kd.R_lt (kqR HO446.out))) (below_size (bq1 HB.out GE417.out))) (kb BK417 hb) (below_step (bq1 HB.out GE417.out) hb)
   clear HO_3 HO440 HO443 HO446 BK417 HB
   obtain ⟨HO_3, HO440, HO443, HO446, HO449, BK417, HB⟩ := n_
   (try clear hb ho0)
   obtain ⟨Ao72, co72, eo72⟩ := Kd.R_slice HO440.out
   (first | subst eo72 | (injection eo72 with f1_ f2_ f3_; have f4_ := f1_.symm; have f5_ := f3_.symm; clear f1_ f2_ f3_; subst f4_; subst f5_))
   refine hK.out _ _ ⟨(blk_cell BK417.out 0).trans rfl, (blk_cell BK417.out 1).trans rfl, (blk_cell BK417.out 2).trans rfl, (blk_cell BK417.out 3).trans rfl, (blk_cell BK417.out 4).trans rfl⟩ (fun hHeld => ?_)
   clear hK K
   refine norm_ (a' := ?_) ?_ ?_
   rotate_left
   · show Act.put _ (some 57) _ = _
     simp only [Act.put, List.setIfInBounds_toArray, List.set_cons_zero, List.set_cons_succ, i64_w, i32_w]
     rfl
   refine one_ (i := 12) (N := some 59) #[T,T,T,T,T,T,T,T,T,T,T,T,T,F,F,F,F,F,F] rfl rfl (one_of HT_.out (by kernel_rfl)) (by decide) (fun K hK => ?_)
   refine Kd.R_append_rows_step (Kd.int .u8) (w0 := w) w.heap.size (by rfl) (.tmp 57) (.tmp 58) 22 5 (.int .u8 0) 1 rfl Try.underlying22 info5 rfl (by decide) (by omega) v448 qe3_0 t437 _ _ _ (fun k_ => some k_ ≠ (.slice Ao63 x3_1.length co63 : Value).ownBlock ∧ some k_ ≠ (.slice Ao72 t437.length co72 : Value).ownBlock ∧ some k_ ≠ (.slice Ao67 qe1_0.length co67 : Value).ownBlock ∧ some k_ ≠ (.slice Ao69 qe2_0.length co69 : Value).ownBlock) (fun _ => False) rfl rfl ?aO ?aR (fun _ _ h => h) (fun _ h => h.elim) ?aF ?aB ?aS ?aL ?_
   (case aR => repeat (first | exact (Kd.R_reads' HO440.out).2.2 | (with_reducible refine Kd.C_alloc ?_ _) | (with_reducible refine Kd.C_drewN ?_ _) | (with_reducible refine Kd.C_drew ?_)))
   (case aB => exact (bq1 HB.out GE417.out))
   (case aF => exact (fun k_ hk => ⟨Kd.fresh' (Kd.R_lt (kqR HO_3.out)) k_ hk, Kd.fresh' (Kd.R_lt (kqR HO440.out)) k_ hk, Kd.fresh' (Kd.R_lt (kqR HO443.out)) k_ hk, Kd.fresh' (Kd.R_lt (kqR HO446.out)) k_ hk⟩))
   (case aO => exact (by refine kr ?_; exact Kd.R_mono HO449.out (fun _ hk => ⟨hk.1.1.1.2, ⟨hk.1.1.2, ⟨hk.1.2, hk.2⟩⟩⟩)))
   (case aS => exact (below_size (bq1 HB.out GE417.out)))
   (case aL => have := LMc48.out; omega)
   intro v451 w71 ho hb hg hat
   rw [← Ny450.out] at ho
   have n_ := ak7 (Kd.R_after (ok := (fun k_ => some k_ ≠ (.slice Ao72 t437.length co72 : Value).ownBlock ∧ some k_ ≠ (.slice Ao67 qe1_0.length co67 : Value).ownBlock ∧ some k_ ≠ (.slice Ao69 qe2_0.length co69 : Value).ownBlock)) (by refine kr ?_; exact Kd.R_mono HO_3.out (fun _ hk => ⟨⟨hk.1.1.1.2, ⟨hk.1.1.2, hk.1.2⟩⟩, hk.2⟩)) hg hat) (blk_grown (g := gb417) (o := .cells #[.int .i64 a0_0, .int .i64 a0_1, .int .i64 a0_2, .int .i64 a0_3, .slice A0_4 l0_4.length c0_4] 58 (0, 0)) (zq BK417.out) hg (Kd.R_ne HO449.out BK417.out (by decide))) (Kd.R_after (ok := (fun k_ => some k_ ≠ (.slice Ao63 x3_1.length co63 : Value).ownBlock ∧ some k_ ≠ (.slice Ao67 qe1_0.length co67 : Value).ownBlock ∧ some k_ ≠ (.slice Ao69 qe2_0.length co69 : Value).ownBlock)) (by refine kr ?_; exact Kd.R_mono HO440.out (fun _ hk => ⟨⟨hk.1.1.1.2, ⟨hk.1.1.2, hk.1.2⟩⟩, hk.2⟩)) hg hat) (Kd.R_after (ok := (fun k_ => some k_ ≠ (.slice Ao63 x3_1.length co63 : Value).ownBlock ∧ some k_ ≠ (.slice Ao72 t437.length co72 : Value).ownBlock ∧ some k_ ≠ (.slice Ao69 qe2_0.length co69 : Value).ownBlock)) (by refine kr ?_; exact Kd.R_mono HO443.out (fun _ hk => ⟨⟨hk.1.1.1.2, ⟨hk.1.1.2, hk.1.2⟩⟩, hk.2⟩)) hg hat) (Kd.R_after (ok := (fun k_ => some k_ ≠ (.slice Ao63 x3_1.length co63 : Value).ownBlock ∧ some k_ ≠ (.slice Ao72 t437.length co72 : Value).ownBlock ∧ some k_ ≠ (.slice Ao67 qe1_0.length co67 : Value).ownBlock)) (by refine kr ?_; exact Kd.R_mono HO446.out (fun _ hk => ⟨⟨hk.1.1.1.2, ⟨hk.1.1.2, hk.1.2⟩⟩, hk.2⟩)) hg hat) hb ho
   clear HO_3 BK417 HO440 HO443 HO446 HB HO449
   obtain ⟨HO_3, BK417, HO440, HO443, HO446, HB, HO452⟩ := n_
   clear ho hb hg hat
   obtain ⟨Ao73, co73, eo73⟩ := Kd.R_slice HO452.out
   (first | subst eo73 | (injection eo73 with f1_ f2_ f3_; have f4_ := f1_.symm; have f5_ := f3_.symm; clear f1_ f2_ f3_; subst f4_; subst f5_))
   refine hK.out _ _ ⟨(blk_cell BK417.out 0).trans rfl, (blk_cell BK417.out 1).trans rfl, (blk_cell BK417.out 2).trans rfl, (blk_cell BK417.out 3).trans rfl, (blk_cell BK417.out 4).trans rfl⟩ (fun hHeld => ?_)
   clear hK K
   refine norm_ (a' := ?_) ?_ ?_
   rotate_left
   · show Act.put _ (some 59) _ = _
     simp only [Act.put, List.setIfInBounds_toArray, List.set_cons_zero, List.set_cons_succ, i64_w, i32_w]
     rfl
   refine one_ (i := 13) (N := some 60) #[T,T,T,T,T,T,T,T,T,T,T,T,T,T,F,F,F,F,F] rfl rfl (one_of HT_.out (by kernel_rfl)) (by decide) (fun K hK => ?_)
   refine goes_ Try.func100 (by kernel_rfl) rfl #[.int .i64 a0_0, .slice Ao73 y450.length co73] (by rfl) rfl rfl ga ?_
   with_reducible refine (impl_tlv.calls k1 a0_0 _ _ y450 qd1_0 false _ ?side1 ?side2 Qd1.out).mono ?_
   (case side1 => repeat (first | exact (Kd.R_reads' HO452.out).2.2 | (with_reducible refine Kd.C_alloc ?_ _) | (with_reducible refine Kd.C_drewN ?_ _) | (with_reducible refine Kd.C_drew ?_)))
   (case side2 => exact (Kd.R_reads' HO452.out).2.1)
   rintro e w74 ⟨v455, rfl, ho0, hb⟩
   refine ⟨_, rfl, ?_⟩
   have n_ := ak8 (re_ HO_3 ho0 hb) (re_ HO440 ho0 hb) (re_ HO443 ho0 hb) (re_ HO446 ho0 hb) (re_ HO452 ho0 hb) (Kd.R_lower (Kd.R_new' (Kd.R_new' (Kd.R_new' (Kd.R_new' (Kd.R_new' ho0 (Kd.R_lt (kqR HO_3.out))) (Kd.R_lt (kqR HO440.out))) (Kd.R_lt (kqR HO443.out))) (Kd.R_lt (kqR HO446.out))) (Kd.R_lt (kqR HO452.out))) (below_size (bq1 HB.out GE417.out))) (kb BK417 hb) (below_step (bq1 HB.out GE417.out) hb)
   clear HO_3 HO440 HO443 HO446 HO452 BK417 HB
   obtain ⟨HO_3, HO440, HO443, HO446, HO452, HO456, BK417, HB⟩ := n_
   (try clear hb ho0)
   refine hK.out _ _ ⟨(blk_cell BK417.out 0).trans rfl, (blk_cell BK417.out 1).trans rfl, (blk_cell BK417.out 2).trans rfl, (blk_cell BK417.out 3).trans rfl, (blk_cell BK417.out 4).trans rfl⟩ (fun hHeld => ?_)
   clear hK K
   refine norm_ (a' := ?_) ?_ ?_
   rotate_left
   · show Act.put _ (some 60) _ = _
     simp only [Act.put, List.setIfInBounds_toArray, List.set_cons_zero, List.set_cons_succ, i64_w, i32_w]
     rfl
   refine pv HT_ 14 (some 46) #[T,T,T,T,T,T,T,T,T,T,T,T,T,T,T,F,F,F,F] ?_
   refine pv HT_ 15 (some 61) #[T,T,T,T,T,T,T,T,T,T,T,T,T,T,T,T,F,F,F] ?_
   refine pv HT_ 16 (some 62) #[T,T,T,T,T,T,T,T,T,T,T,T,T,T,T,T,T,F,F] ?_
   refine pv HT_ 17 (some 10) #[T,T,T,T,T,T,T,T,T,T,T,T,T,T,T,T,T,T,F] ?_
   refine pv HT_ 18 (some 11) #[T,T,T,T,T,T,T,T,T,T,T,T,T,T,T,T,T,T,T] ?_
   refine done_ (done_of HT_.out (by kernel_rfl)) ?_
   try go_wp2
   go_ret
   exact ⟨_, rq, rn, bq1 HB.out GE417.out⟩
end Go.Proofs.Ythhnfmbfgplelaa.XFnMsgs
