/- The functions that one law reaches, as Lean functions, with their walks: printed by a program of this seat (wip/tools) out of the translation. -/
import Derived.Test.YtebffdmkfkfoaaaXFnFdbsBentx0
import Derived.Test.YtebffdmkfkfoaaaXFnFdbsBentx6
import Derived.Test.YtebffdmkfkfoaaaXFnFdbsBentx11
import Derived.Test.YtebffdmkfkfoaaaXFnFdbsBentx12
namespace Go.Proofs.Ytebffdmkfkfoaaa.XFnFdbsBent
open Go.RowKit Go.Proofs.YtebffdmkfkfoaaaW.PrintWords Go.Proofs.YtebffdmkfkfoaaaW.PrintLast Go.Proofs.YtebffdmkfkfoaaaW.PrintMore
attribute [local go_sem] max2_int min2_int max_two min_two max_three min_three max_four min_four   -- for this text's walks alone
set_option linter.unusedVariables false
set_option linter.unusedSimpArgs false

/-! ### spec_AgeAll: function 40 -/
def spec_AgeAll.l0 : Nat → List (S44) → List (S44) → Int → Option ((List (S44)))
 | 0, _, _, _ => none
 | k + 1, x0, x3, x4 => if x4 < (x0.length : Int) then (if 0 ≤ x4 then (if (rd_T44 x0 x4).f4 = true then (if x3.length < 3518437208883 then (spec_AgeAll.l0 k x0 (x3 ++ [(⟨(rd_T44 x0 x4).f0, (rd_T44 x0 x4).f1, (rd_T44 x0 x4).f2, (rd_T44 x0 x4).f3, (rd_T44 x0 x4).f4⟩ : S44)]) (wrap64 (x4 + 1))) else (none)) else (if ((rd_T44 x0 x4).f3) < 4 then (if x3.length < 3518437208883 then (spec_AgeAll.l0 k x0 (x3 ++ [(⟨(rd_T44 x0 x4).f0, (rd_T44 x0 x4).f1, (rd_T44 x0 x4).f2, wrap64 (((rd_T44 x0 x4).f3) + 1), (rd_T44 x0 x4).f4⟩ : S44)]) (wrap64 (x4 + 1))) else (none)) else (spec_AgeAll.l0 k x0 x3 (wrap64 (x4 + 1))))) else (none)) else (some x3)
def spec_AgeAll.f (k : Nat) (l0 : List (S44)) : Option ((List (S44))) := spec_AgeAll.l0 k l0 (([] : List (S44))) 0
theorem spec_AgeAll.mono_l : ∀ k, (∀ y0 y1 y2, LeO (spec_AgeAll.l0 k y0 y1 y2) (spec_AgeAll.l0 (k + 1) y0 y1 y2))
 | 0 => fun _ _ _ r h => by simp [spec_AgeAll.l0] at h
 | k + 1 => by
  have ih0 := spec_AgeAll.mono_l k
  intro y0 y1 y2
  unfold spec_AgeAll.l0
  repeat' first
  | (with_reducible exact ih0 _ _ _)
  | (with_reducible exact LeO.refl _)
  | (with_reducible exact LeO.none _)
  | (with_reducible refine LeO.ite ?_ ?_)
  | (with_reducible refine LeO.bind ?_ (fun _ => ?_))
  | exact ih0 _ _ _
  | exact LeO.none _
  | refine LeO.ite ?_ ?_
  | refine LeO.bind ?_ (fun _ => ?_)
theorem spec_AgeAll.mono : ∀ a0 k, LeO (spec_AgeAll.f k a0) (spec_AgeAll.f (k + 1) a0) := by
 intro a0 k
 have ih0 := spec_AgeAll.mono_l k
 unfold spec_AgeAll.f
 repeat' first
  | (with_reducible exact ih0 _ _ _)
  | (with_reducible exact LeO.refl _)
  | (with_reducible exact LeO.none _)
  | (with_reducible refine LeO.ite ?_ ?_)
  | (with_reducible refine LeO.bind ?_ (fun _ => ?_))
  | exact ih0 _ _ _
  | exact LeO.none _
  | refine LeO.ite ?_ ?_
  | refine LeO.bind ?_ (fun _ => ?_)
set_option maxHeartbeats 8000000 in
set_option maxRecDepth 100000 in
theorem spec_AgeAll.calls (k : Nat) (A0 : Option Addr) (c0 : Nat) (l0 : List (S44)) (r : List (S44)) (w : World) (hr0 : Kd.C k44 w A0 l0.length l0) (hc0 : l0.length ≤ c0) (h : spec_AgeAll.f k l0 = some r) :
 Calls Try.prog 40 #[.slice A0 l0.length c0] w fun e w' => ∃ v0_ : Value, e = .returned (v0_) ∧ Kd.R k44 44 w' w.heap.size (fun _ => True) v0_ r ∧ Below w.heap.size w w' := by
 have hu44 := Try.underlying44
 have HR0 := am hr0
 have HC0 := am hc0
 clear hr0 hc0
 have HB := am (Below.refl w.heap.size w)
 have H : (spec_AgeAll.l0 k l0 (([] : List (S44))) 0) = some r := h
 clear h
 obtain ⟨y296, hy296⟩ : ∃ y_ : List (S44), y_ = (([] : List (S44))) := ⟨_, rfl⟩
 replace H : (spec_AgeAll.l0 k l0 y296 0) = some r := by first | (rw [hy296]; with_reducible exact H) | (have H2_ := (Option.bind_some _ _).symm.trans H; rw [hy296]; with_reducible exact H2_) | (have H2_ := (Option.bind_some _ _).symm.trans H; with_reducible exact H2_) | with_reducible exact H | (rw [hy296]; exact H) | exact H
 have Ny296 := am hy296
 clear hy296
 have H' := am H
 clear H
 go_enter Try.func40, Try.ntmps40
 go_wp2_with (first | ((with_reducible refine gate_dst (N := 6) rfl ?_); refine Kd.R_lit k44 _ 44 ?hg (N := 6) ?hd (xs := ([] : List (S44))) (inner := []) (ok := fun _ => True) (okp := fun _ => True) ?hr ?hp (fun _ hk => hk) trivial (Below.refl _ _) (Nat.le_refl _) (by simp) ?_; (case hd => rfl); (case hg => rfl); (case hr => exact gs); (case hp => exact (Reps.none _ _)); intro v297 w2 ho3 hb hg_ hnew_; clear hg_ hnew_; (first | rw [← Ny296.out] at ho3 | (simp only [Int.reduceToNat] at ho3; rw [← Ny296.out] at ho3)); have n_ := ak2 (Kd.R_lower ho3 (below_size (bq HB.out))) (below_step (bq HB.out) hb); clear HB; obtain ⟨HO298, HB⟩ := n_; clear hb ho3))
 go_loopg [3, 4] k (fun kq v3 v4 w' => ∃ (x3_1 : List (S44)) (x4_1 : Int), v4 = .int .i64 x4_1 ∧ Aside0 (spec_AgeAll.l0 kq l0 x3_1 x4_1 = some r) ∧ Aside0 (kq ≤ k) ∧ Aside0 (Kd.R k44 44 w' w.heap.size (fun _ => True) v3 x3_1) ∧ Aside0 (Below w.heap.size w w'))
 case atStart => exact ⟨(y296), (0), sq, H', ⟨Nat.le_refl _⟩, ⟨kqR HO298.out⟩, ⟨bq HB.out⟩⟩
 case round =>
  clear H'
  try clear p2
  obtain ⟨x3_1, x4_1, rfl, HA, HK1, HO_3, HB⟩ := hrel
  cases gk with
  | zero => exact absurd HA.out (by simp [spec_AgeAll.l0])
  | succ k1 =>
   have H := HA.out
   clear HA
   simp only [spec_AgeAll.l0] at H
   by_cases c4 : x4_1 < (l0.length : Int)
   · rw [if_pos c4] at H
     have c4b0 : decide (x4_1 < (l0.length : Int)) = true := decide_eq_true c4
     clear c4
     by_cases c5 : 0 ≤ x4_1
     · rw [if_pos c5] at H
       have c5b0 : decide (0 ≤ x4_1) = true := decide_eq_true c5
       clear c5
       obtain ⟨bq6, hbq6⟩ : ∃ b_ : Bool, b_ = ((rd_T44 l0 x4_1).f4) := ⟨_, rfl⟩
       replace H : (if bq6 = true then (if x3_1.length < 3518437208883 then (spec_AgeAll.l0 k1 l0 (x3_1 ++ [(⟨(rd_T44 l0 x4_1).f0, (rd_T44 l0 x4_1).f1, (rd_T44 l0 x4_1).f2, (rd_T44 l0 x4_1).f3, bq6⟩ : S44)]) (wrap64 (x4_1 + 1))) else (none)) else (if ((rd_T44 l0 x4_1).f3) < 4 then (if x3_1.length < 3518437208883 then (spec_AgeAll.l0 k1 l0 (x3_1 ++ [(⟨(rd_T44 l0 x4_1).f0, (rd_T44 l0 x4_1).f1, (rd_T44 l0 x4_1).f2, wrap64 (((rd_T44 l0 x4_1).f3) + 1), bq6⟩ : S44)]) (wrap64 (x4_1 + 1))) else (none)) else (spec_AgeAll.l0 k1 l0 x3_1 (wrap64 (x4_1 + 1))))) = some r := by rw [← hbq6] at H; exact H
       have Nbq6 := am hbq6
       clear hbq6
       by_cases c7 : bq6 = true
       · subst c7
         have H1 : (if x3_1.length < 3518437208883 then (spec_AgeAll.l0 k1 l0 (x3_1 ++ [(⟨(rd_T44 l0 x4_1).f0, (rd_T44 l0 x4_1).f1, (rd_T44 l0 x4_1).f2, (rd_T44 l0 x4_1).f3, true⟩ : S44)]) (wrap64 (x4_1 + 1))) else (none)) = some r := by rw [if_pos rfl] at H; exact H
         clear H
         have H := H1
         clear H1
         by_cases c8 : x3_1.length < 3518437208883
         · rw [if_pos c8] at H
           have LMc8 := am c8
           clear c8
           obtain ⟨y301, hy301⟩ : ∃ y_ : List (S44), y_ = (x3_1 ++ [(⟨(rd_T44 l0 x4_1).f0, (rd_T44 l0 x4_1).f1, (rd_T44 l0 x4_1).f2, (rd_T44 l0 x4_1).f3, true⟩ : S44)]) := ⟨_, rfl⟩
           replace H : (spec_AgeAll.l0 k1 l0 y301 (wrap64 (x4_1 + 1))) = some r := by first | (rw [hy301]; with_reducible exact H) | (have H2_ := (Option.bind_some _ _).symm.trans H; rw [hy301]; with_reducible exact H2_) | (have H2_ := (Option.bind_some _ _).symm.trans H; with_reducible exact H2_) | with_reducible exact H | (rw [hy301]; exact H) | exact H
           have Ny301 := am hy301
           clear hy301
           have H' := am H
           clear H
           have p299 : 0 ≤ (x4_1 : Int) := oda
           have q299 : x4_1 < (l0.length : Int) := oda
           obtain ⟨ad299, e299, hx299_0, hx299_1, hx299_2, hx299_3, hx299_4⟩ := at_T44 HR0.out x4_1 p299 q299
           (try rw [← Nbq6.out] at hx299_4)
           cases e299
           replace hx299_0 := (HB.out.cell (World.block_lt_of_cell? w _ hx299_0)).trans hx299_0
           replace hx299_1 := (HB.out.cell (World.block_lt_of_cell? w _ hx299_1)).trans hx299_1
           replace hx299_2 := (HB.out.cell (World.block_lt_of_cell? w _ hx299_2)).trans hx299_2
           replace hx299_3 := (HB.out.cell (World.block_lt_of_cell? w _ hx299_3)).trans hx299_3
           replace hx299_4 := (HB.out.cell (World.block_lt_of_cell? w _ hx299_4)).trans hx299_4
           replace p299 := eq_true p299
           replace q299 := eq_true q299
           go_wp2_with (first | ((with_reducible refine gate_dst (N := 5) rfl ?_); refine box_event ?hg (N := 5) ?hd (cs := #[.int .i64 0, .int .i64 0, .int .i64 0, .int .i64 0, .bool false]) (t := 44) ?hr ?_; (case hd => rfl); (case hg => rfl); (case hr => exact gs); intro gb300 hg w9 hbox hb; have n_ := ak5 (Kd.R_below (Kd.R_elderB (kqR HO_3.out) gb300 (Nat.le_of_eq hg.symm)) hb) (below_step (bq HB.out) hb) hbox ((by rw [hg]; exact (below_size (bq HB.out)) : w.heap.size ≤ gb300)) ((by rw [hg]; exact (below_size (bq HB.out)) : w.heap.size ≤ gb300)); clear HO_3 HB; obtain ⟨HO_3, HB, BK300, GW300, GE300⟩ := n_; clear hb hbox hg; have hcz10_0 : w9.cell? ⟨gb300, 0, none⟩ = some (.int .i64 0) := (blk_cell BK300.out 0).trans rfl; have hcz10_1 : w9.cell? ⟨gb300, 1, none⟩ = some (.int .i64 0) := (blk_cell BK300.out 1).trans rfl; have hcz10_2 : w9.cell? ⟨gb300, 2, none⟩ = some (.int .i64 0) := (blk_cell BK300.out 2).trans rfl; have hcz10_3 : w9.cell? ⟨gb300, 3, none⟩ = some (.int .i64 0) := (blk_cell BK300.out 3).trans rfl; have hcz10_4 : w9.cell? ⟨gb300, 4, none⟩ = some (.bool false) := (blk_cell BK300.out 4).trans rfl; have hfz10_0 := blk_frozen BK300.out 0; have hfz10_1 := blk_frozen BK300.out 1; have hfz10_2 := blk_frozen BK300.out 2; have hfz10_3 := blk_frozen BK300.out 3; have hfz10_4 := blk_frozen BK300.out 4) | ((with_reducible refine gate_store (t := 44) (p := 5) rfl ?_); refine store_event (t := 44) (p := 5) (v := ?vo_w11) (w1 := (((((w9.setCell ⟨gb300, 0, none⟩ (.int .i64 ((rd_T44 l0 x4_1).f0))).setCell ⟨gb300, 1, none⟩ (.int .i64 ((rd_T44 l0 x4_1).f1))).setCell ⟨gb300, 2, none⟩ (.int .i64 ((rd_T44 l0 x4_1).f2))).setCell ⟨gb300, 3, none⟩ (.int .i64 ((rd_T44 l0 x4_1).f3))).setCell ⟨gb300, 4, none⟩ (.bool true))) ?hg ?ho ?hn ?hr ?_; (case ho => rfl); (case hg => rfl); (case hn => rfl); (case hr => exact gs); intro w11 hw; have n0_ : Aside0 (Kd.R k44 44 w11 w.heap.size (fun k_ => k_ ≠ gb300) u3 x3_1) := ⟨(by rw [hw]; exact (by (with_reducible repeat (first | apply Kd.R_alloc | apply Kd.R_drewN | apply Kd.R_drew)); exact Kd.R_mono (Kd.R_far (p := ⟨gb300, 4, none⟩) (Kd.R_far (p := ⟨gb300, 3, none⟩) (Kd.R_far (p := ⟨gb300, 2, none⟩) (Kd.R_far (p := ⟨gb300, 1, none⟩) (Kd.R_far (p := ⟨gb300, 0, none⟩) (Kd.R_mono HO_3.out (fun k_ hk => (⟨hk, hk.2⟩ : _ ∧ k_ ≠ gb300))) (fun _ hk => hk.2) (.int .i64 ((rd_T44 l0 x4_1).f0))) (fun _ hk => hk.2) (.int .i64 ((rd_T44 l0 x4_1).f1))) (fun _ hk => hk.2) (.int .i64 ((rd_T44 l0 x4_1).f2))) (fun _ hk => hk.2) (.int .i64 ((rd_T44 l0 x4_1).f3))) (fun _ hk => hk.2) (.bool true)) (fun _ hk => hk.1.2)))⟩; have n1_ : Aside0 (w11.heap[gb300]? = some (.cells #[.int .i64 ((rd_T44 l0 x4_1).f0), .int .i64 ((rd_T44 l0 x4_1).f1), .int .i64 ((rd_T44 l0 x4_1).f2), .int .i64 ((rd_T44 l0 x4_1).f3), .bool true] 44 (0, 0))) := ⟨(by rw [hw]; exact (by (with_reducible repeat (first | refine blk_drewN ?_ _ | refine blk_drew ?_ | refine blk_alloc ?_ _)); refine blk_put (cs := #[.int .i64 ((rd_T44 l0 x4_1).f0), .int .i64 ((rd_T44 l0 x4_1).f1), .int .i64 ((rd_T44 l0 x4_1).f2), .int .i64 ((rd_T44 l0 x4_1).f3), .bool false]) ?_ 4 _ rfl; (with_reducible repeat (first | refine blk_drewN ?_ _ | refine blk_drew ?_ | refine blk_alloc ?_ _)); refine blk_put (cs := #[.int .i64 ((rd_T44 l0 x4_1).f0), .int .i64 ((rd_T44 l0 x4_1).f1), .int .i64 ((rd_T44 l0 x4_1).f2), .int .i64 0, .bool false]) ?_ 3 _ rfl; (with_reducible repeat (first | refine blk_drewN ?_ _ | refine blk_drew ?_ | refine blk_alloc ?_ _)); refine blk_put (cs := #[.int .i64 ((rd_T44 l0 x4_1).f0), .int .i64 ((rd_T44 l0 x4_1).f1), .int .i64 0, .int .i64 0, .bool false]) ?_ 2 _ rfl; (with_reducible repeat (first | refine blk_drewN ?_ _ | refine blk_drew ?_ | refine blk_alloc ?_ _)); refine blk_put (cs := #[.int .i64 ((rd_T44 l0 x4_1).f0), .int .i64 0, .int .i64 0, .int .i64 0, .bool false]) ?_ 1 _ rfl; (with_reducible repeat (first | refine blk_drewN ?_ _ | refine blk_drew ?_ | refine blk_alloc ?_ _)); refine blk_put (cs := #[.int .i64 0, .int .i64 0, .int .i64 0, .int .i64 0, .bool false]) ?_ 0 _ rfl; (with_reducible repeat (first | refine blk_drewN ?_ _ | refine blk_drew ?_ | refine blk_alloc ?_ _)); exact BK300.out))⟩; have n2_ : Aside0 (Below w.heap.size w w11) := ⟨(by rw [hw]; exact (bq1 HB.out GE300.out))⟩; clear hw; clear HO_3; clear BK300; clear HB; have HO_3 := n0_; have BK300 := n1_; have HB := n2_; clear n0_ n1_ n2_; have hcz12_0 : w11.cell? ⟨gb300, 0, none⟩ = some (.int .i64 ((rd_T44 l0 x4_1).f0)) := (blk_cell BK300.out 0).trans rfl; have hcz12_1 : w11.cell? ⟨gb300, 1, none⟩ = some (.int .i64 ((rd_T44 l0 x4_1).f1)) := (blk_cell BK300.out 1).trans rfl; have hcz12_2 : w11.cell? ⟨gb300, 2, none⟩ = some (.int .i64 ((rd_T44 l0 x4_1).f2)) := (blk_cell BK300.out 2).trans rfl; have hcz12_3 : w11.cell? ⟨gb300, 3, none⟩ = some (.int .i64 ((rd_T44 l0 x4_1).f3)) := (blk_cell BK300.out 3).trans rfl; have hcz12_4 : w11.cell? ⟨gb300, 4, none⟩ = some (.bool true) := (blk_cell BK300.out 4).trans rfl; have hfz12_0 := blk_frozen BK300.out 0; have hfz12_1 := blk_frozen BK300.out 1; have hfz12_2 := blk_frozen BK300.out 2; have hfz12_3 := blk_frozen BK300.out 3; have hfz12_4 := blk_frozen BK300.out 4) | ((with_reducible refine gate_builtin (b := .append) (xs := #[.tmp 19, .tmp 21]) rfl ?_); at_builtin; refine Kd.R_append k44 (w0 := w) w.heap.size rfl (.tmp 19) (.tmp 21) 30 44 (.agg #[(.int .i64 0), (.int .i64 0), (.int .i64 0), (.int .i64 0), (.bool false)]) 40 rfl Try.underlying30 info44 rfl (by decide) (by omega) u3 x3_1 (⟨(rd_T44 l0 x4_1).f0, (rd_T44 l0 x4_1).f1, (rd_T44 l0 x4_1).f2, (rd_T44 l0 x4_1).f3, true⟩ : S44) [.int .i64 ((rd_T44 l0 x4_1).f0), .int .i64 ((rd_T44 l0 x4_1).f1), .int .i64 ((rd_T44 l0 x4_1).f2), .int .i64 ((rd_T44 l0 x4_1).f3), .bool true] (fun k_ => k_ ≠ gb300) (fun _ => False) rfl rfl ?aP (fun _ hk => hk.elim) ?aF ?aO ?aB ?aS ?aL ?_; (case aP => exact k44_mkM _ _ _ (⟨(rd_T44 l0 x4_1).f0, (rd_T44 l0 x4_1).f1, (rd_T44 l0 x4_1).f2, (rd_T44 l0 x4_1).f3, true⟩ : S44)); (case aB => exact (bq1 HB.out GE300.out)); (case aF => exact (fun k_ hk => Kd.freshB (g := gb300) (o := .cells #[.int .i64 ((rd_T44 l0 x4_1).f0), .int .i64 ((rd_T44 l0 x4_1).f1), .int .i64 ((rd_T44 l0 x4_1).f2), .int .i64 ((rd_T44 l0 x4_1).f3), .bool true] 44 (0, 0)) (zq BK300.out) k_ hk)); (case aO => exact (kqR HO_3.out)); (case aS => exact (below_size (bq1 HB.out GE300.out))); (case aL => have := LMc8.out; omega); intro v302 w13 ho hb hg hat; rw [← Ny301.out] at ho; have n_ := ak3 (blk_grown (g := gb300) (o := .cells #[.int .i64 ((rd_T44 l0 x4_1).f0), .int .i64 ((rd_T44 l0 x4_1).f1), .int .i64 ((rd_T44 l0 x4_1).f2), .int .i64 ((rd_T44 l0 x4_1).f3), .bool true] 44 (0, 0)) (zq BK300.out) hg (Kd.R_away HO_3.out (fun _ hk => hk))) hb ho; clear BK300 HB HO_3; obtain ⟨BK300, HB, HO303⟩ := n_; clear ho hb hg hat))
           go_roundg k1
           case measure => have := HK1.out; omega
           case rel => exact ⟨(y301), (wrap64 (x4_1 + 1)), sq, H', ⟨by have := HK1.out; omega⟩, ⟨by (with_reducible repeat (first | apply Kd.R_alloc | apply Kd.R_drewN | apply Kd.R_drew)); exact Kd.R_mono HO303.out (fun _ hk => trivial)⟩, ⟨bq1 HB.out GE300.out⟩⟩
         rw [if_neg c8] at H
         exact absurd H (by simp)
       replace c7 := Bool.eq_false_iff.mpr c7
       subst c7
       have H1 : (if ((rd_T44 l0 x4_1).f3) < 4 then (if x3_1.length < 3518437208883 then (spec_AgeAll.l0 k1 l0 (x3_1 ++ [(⟨(rd_T44 l0 x4_1).f0, (rd_T44 l0 x4_1).f1, (rd_T44 l0 x4_1).f2, wrap64 (((rd_T44 l0 x4_1).f3) + 1), false⟩ : S44)]) (wrap64 (x4_1 + 1))) else (none)) else (spec_AgeAll.l0 k1 l0 x3_1 (wrap64 (x4_1 + 1)))) = some r := by rw [if_neg (show ¬ (false = true) by decide)] at H; exact H
       clear H
       have H := H1
       clear H1
       by_cases c14 : ((rd_T44 l0 x4_1).f3) < 4
       · rw [if_pos c14] at H
         have c14b0 : decide (((rd_T44 l0 x4_1).f3) < 4) = true := decide_eq_true c14
         clear c14
         by_cases c15 : x3_1.length < 3518437208883
         · rw [if_pos c15] at H
           have LMc15 := am c15
           clear c15
           obtain ⟨y304, hy304⟩ : ∃ y_ : List (S44), y_ = (x3_1 ++ [(⟨(rd_T44 l0 x4_1).f0, (rd_T44 l0 x4_1).f1, (rd_T44 l0 x4_1).f2, wrap64 (((rd_T44 l0 x4_1).f3) + 1), false⟩ : S44)]) := ⟨_, rfl⟩
           replace H : (spec_AgeAll.l0 k1 l0 y304 (wrap64 (x4_1 + 1))) = some r := by first | (rw [hy304]; with_reducible exact H) | (have H2_ := (Option.bind_some _ _).symm.trans H; rw [hy304]; with_reducible exact H2_) | (have H2_ := (Option.bind_some _ _).symm.trans H; with_reducible exact H2_) | with_reducible exact H | (rw [hy304]; exact H) | exact H
           have Ny304 := am hy304
           clear hy304
           have H' := am H
           clear H
           have p299 : 0 ≤ (x4_1 : Int) := oda
           have q299 : x4_1 < (l0.length : Int) := oda
           obtain ⟨ad299, e299, hx299_0, hx299_1, hx299_2, hx299_3, hx299_4⟩ := at_T44 HR0.out x4_1 p299 q299
           (try rw [← Nbq6.out] at hx299_4)
           cases e299
           replace hx299_0 := (HB.out.cell (World.block_lt_of_cell? w _ hx299_0)).trans hx299_0
           replace hx299_1 := (HB.out.cell (World.block_lt_of_cell? w _ hx299_1)).trans hx299_1
           replace hx299_2 := (HB.out.cell (World.block_lt_of_cell? w _ hx299_2)).trans hx299_2
           replace hx299_3 := (HB.out.cell (World.block_lt_of_cell? w _ hx299_3)).trans hx299_3
           replace hx299_4 := (HB.out.cell (World.block_lt_of_cell? w _ hx299_4)).trans hx299_4
           replace p299 := eq_true p299
           replace q299 := eq_true q299
           go_wp2_with (first | ((with_reducible refine gate_dst (N := 5) rfl ?_); refine box_event ?hg (N := 5) ?hd (cs := #[.int .i64 0, .int .i64 0, .int .i64 0, .int .i64 0, .bool false]) (t := 44) ?hr ?_; (case hd => rfl); (case hg => rfl); (case hr => exact gs); intro gb300 hg w16 hbox hb; have n_ := ak5 (Kd.R_below (Kd.R_elderB (kqR HO_3.out) gb300 (Nat.le_of_eq hg.symm)) hb) (below_step (bq HB.out) hb) hbox ((by rw [hg]; exact (below_size (bq HB.out)) : w.heap.size ≤ gb300)) ((by rw [hg]; exact (below_size (bq HB.out)) : w.heap.size ≤ gb300)); clear HO_3 HB; obtain ⟨HO_3, HB, BK300, GW300, GE300⟩ := n_; clear hb hbox hg; have hcz17_0 : w16.cell? ⟨gb300, 0, none⟩ = some (.int .i64 0) := (blk_cell BK300.out 0).trans rfl; have hcz17_1 : w16.cell? ⟨gb300, 1, none⟩ = some (.int .i64 0) := (blk_cell BK300.out 1).trans rfl; have hcz17_2 : w16.cell? ⟨gb300, 2, none⟩ = some (.int .i64 0) := (blk_cell BK300.out 2).trans rfl; have hcz17_3 : w16.cell? ⟨gb300, 3, none⟩ = some (.int .i64 0) := (blk_cell BK300.out 3).trans rfl; have hcz17_4 : w16.cell? ⟨gb300, 4, none⟩ = some (.bool false) := (blk_cell BK300.out 4).trans rfl; have hfz17_0 := blk_frozen BK300.out 0; have hfz17_1 := blk_frozen BK300.out 1; have hfz17_2 := blk_frozen BK300.out 2; have hfz17_3 := blk_frozen BK300.out 3; have hfz17_4 := blk_frozen BK300.out 4) | ((with_reducible refine gate_store (t := 44) (p := 5) rfl ?_); refine store_event (t := 44) (p := 5) (v := ?vo_w18) (w1 := (((((w16.setCell ⟨gb300, 0, none⟩ (.int .i64 ((rd_T44 l0 x4_1).f0))).setCell ⟨gb300, 1, none⟩ (.int .i64 ((rd_T44 l0 x4_1).f1))).setCell ⟨gb300, 2, none⟩ (.int .i64 ((rd_T44 l0 x4_1).f2))).setCell ⟨gb300, 3, none⟩ (.int .i64 ((rd_T44 l0 x4_1).f3))).setCell ⟨gb300, 4, none⟩ (.bool false))) ?hg ?ho ?hn ?hr ?_; (case ho => rfl); (case hg => rfl); (case hn => rfl); (case hr => exact gs); intro w18 hw; have n0_ : Aside0 (Kd.R k44 44 w18 w.heap.size (fun k_ => k_ ≠ gb300) u3 x3_1) := ⟨(by rw [hw]; exact (by (with_reducible repeat (first | apply Kd.R_alloc | apply Kd.R_drewN | apply Kd.R_drew)); exact Kd.R_mono (Kd.R_far (p := ⟨gb300, 4, none⟩) (Kd.R_far (p := ⟨gb300, 3, none⟩) (Kd.R_far (p := ⟨gb300, 2, none⟩) (Kd.R_far (p := ⟨gb300, 1, none⟩) (Kd.R_far (p := ⟨gb300, 0, none⟩) (Kd.R_mono HO_3.out (fun k_ hk => (⟨hk, hk.2⟩ : _ ∧ k_ ≠ gb300))) (fun _ hk => hk.2) (.int .i64 ((rd_T44 l0 x4_1).f0))) (fun _ hk => hk.2) (.int .i64 ((rd_T44 l0 x4_1).f1))) (fun _ hk => hk.2) (.int .i64 ((rd_T44 l0 x4_1).f2))) (fun _ hk => hk.2) (.int .i64 ((rd_T44 l0 x4_1).f3))) (fun _ hk => hk.2) (.bool false)) (fun _ hk => hk.1.2)))⟩; have n1_ : Aside0 (w18.heap[gb300]? = some (.cells #[.int .i64 ((rd_T44 l0 x4_1).f0), .int .i64 ((rd_T44 l0 x4_1).f1), .int .i64 ((rd_T44 l0 x4_1).f2), .int .i64 ((rd_T44 l0 x4_1).f3), .bool false] 44 (0, 0))) := ⟨(by rw [hw]; exact (by (with_reducible repeat (first | refine blk_drewN ?_ _ | refine blk_drew ?_ | refine blk_alloc ?_ _)); refine blk_put (cs := #[.int .i64 ((rd_T44 l0 x4_1).f0), .int .i64 ((rd_T44 l0 x4_1).f1), .int .i64 ((rd_T44 l0 x4_1).f2), .int .i64 ((rd_T44 l0 x4_1).f3), .bool false]) ?_ 4 _ rfl; (with_reducible repeat (first | refine blk_drewN ?_ _ | refine blk_drew ?_ | refine blk_alloc ?_ _)); refine blk_put (cs := #[.int .i64 ((rd_T44 l0 x4_1).f0), .int .i64 ((rd_T44 l0 x4_1).f1), .int .i64 ((rd_T44 l0 x4_1).f2), .int .i64 0, .bool false]) ?_ 3 _ rfl; (with_reducible repeat (first | refine blk_drewN ?_ _ | refine blk_drew ?_ | refine blk_alloc ?_ _)); refine blk_put (cs := #[.int .i64 ((rd_T44 l0 x4_1).f0), .int .i64 ((rd_T44 l0 x4_1).f1), .int .i64 0, .int .i64 0, .bool false]) ?_ 2 _ rfl; (with_reducible repeat (first | refine blk_drewN ?_ _ | refine blk_drew ?_ | refine blk_alloc ?_ _)); refine blk_put (cs := #[.int .i64 ((rd_T44 l0 x4_1).f0), .int .i64 0, .int .i64 0, .int .i64 0, .bool false]) ?_ 1 _ rfl; (with_reducible repeat (first | refine blk_drewN ?_ _ | refine blk_drew ?_ | refine blk_alloc ?_ _)); refine blk_put (cs := #[.int .i64 0, .int .i64 0, .int .i64 0, .int .i64 0, .bool false]) ?_ 0 _ rfl; (with_reducible repeat (first | refine blk_drewN ?_ _ | refine blk_drew ?_ | refine blk_alloc ?_ _)); exact BK300.out))⟩; have n2_ : Aside0 (Below w.heap.size w w18) := ⟨(by rw [hw]; exact (bq1 HB.out GE300.out))⟩; clear hw; clear HO_3; clear BK300; clear HB; have HO_3 := n0_; have BK300 := n1_; have HB := n2_; clear n0_ n1_ n2_; have hcz19_0 : w18.cell? ⟨gb300, 0, none⟩ = some (.int .i64 ((rd_T44 l0 x4_1).f0)) := (blk_cell BK300.out 0).trans rfl; have hcz19_1 : w18.cell? ⟨gb300, 1, none⟩ = some (.int .i64 ((rd_T44 l0 x4_1).f1)) := (blk_cell BK300.out 1).trans rfl; have hcz19_2 : w18.cell? ⟨gb300, 2, none⟩ = some (.int .i64 ((rd_T44 l0 x4_1).f2)) := (blk_cell BK300.out 2).trans rfl; have hcz19_3 : w18.cell? ⟨gb300, 3, none⟩ = some (.int .i64 ((rd_T44 l0 x4_1).f3)) := (blk_cell BK300.out 3).trans rfl; have hcz19_4 : w18.cell? ⟨gb300, 4, none⟩ = some (.bool false) := (blk_cell BK300.out 4).trans rfl; have hfz19_0 := blk_frozen BK300.out 0; have hfz19_1 := blk_frozen BK300.out 1; have hfz19_2 := blk_frozen BK300.out 2; have hfz19_3 := blk_frozen BK300.out 3; have hfz19_4 := blk_frozen BK300.out 4) | ((with_reducible refine gate_builtin (b := .append) (xs := #[.tmp 30, .tmp 32]) rfl ?_); at_builtin; refine Kd.R_append k44 (w0 := w) w.heap.size rfl (.tmp 30) (.tmp 32) 30 44 (.agg #[(.int .i64 0), (.int .i64 0), (.int .i64 0), (.int .i64 0), (.bool false)]) 40 rfl Try.underlying30 info44 rfl (by decide) (by omega) u3 x3_1 (⟨(rd_T44 l0 x4_1).f0, (rd_T44 l0 x4_1).f1, (rd_T44 l0 x4_1).f2, wrap64 (((rd_T44 l0 x4_1).f3) + 1), false⟩ : S44) [.int .i64 ((rd_T44 l0 x4_1).f0), .int .i64 ((rd_T44 l0 x4_1).f1), .int .i64 ((rd_T44 l0 x4_1).f2), .int .i64 (wrap64 (((rd_T44 l0 x4_1).f3) + 1)), .bool false] (fun k_ => k_ ≠ gb300) (fun _ => False) rfl (by first | (go_simp; done) | (go_simp; rfl)) ?aP (fun _ hk => hk.elim) ?aF ?aO ?aB ?aS ?aL ?_; (case aP => exact k44_mkM _ _ _ (⟨(rd_T44 l0 x4_1).f0, (rd_T44 l0 x4_1).f1, (rd_T44 l0 x4_1).f2, wrap64 (((rd_T44 l0 x4_1).f3) + 1), false⟩ : S44)); (case aB => exact (bq1 HB.out GE300.out)); (case aF => exact (fun k_ hk => Kd.freshB (g := gb300) (o := .cells #[.int .i64 ((rd_T44 l0 x4_1).f0), .int .i64 ((rd_T44 l0 x4_1).f1), .int .i64 ((rd_T44 l0 x4_1).f2), .int .i64 (wrap64 (((rd_T44 l0 x4_1).f3) + 1)), .bool false] 44 (0, 0)) (by (with_reducible repeat (first | refine blk_drewN ?_ _ | refine blk_drew ?_ | refine blk_alloc ?_ _)); refine blk_put (cs := #[.int .i64 ((rd_T44 l0 x4_1).f0), .int .i64 ((rd_T44 l0 x4_1).f1), .int .i64 ((rd_T44 l0 x4_1).f2), .int .i64 ((rd_T44 l0 x4_1).f3), .bool false]) ?_ 3 _ rfl; (with_reducible repeat (first | refine blk_drewN ?_ _ | refine blk_drew ?_ | refine blk_alloc ?_ _)); exact BK300.out) k_ hk)); (case aO => exact (by (with_reducible repeat (first | apply Kd.R_alloc | apply Kd.R_drewN | apply Kd.R_drew)); exact Kd.R_mono (Kd.R_far (p := ⟨gb300, 3, none⟩) (Kd.R_mono HO_3.out (fun k_ hk => (⟨hk, hk⟩ : _ ∧ k_ ≠ gb300))) (fun _ hk => hk.2) (.int .i64 (wrap64 (((rd_T44 l0 x4_1).f3) + 1)))) (fun _ hk => hk.1))); (case aS => exact (below_size (bq1 HB.out GE300.out))); (case aL => have := LMc15.out; omega); intro v305 w20 ho hb hg hat; rw [← Ny304.out] at ho; have n_ := ak3 (blk_grown (g := gb300) (o := .cells #[.int .i64 ((rd_T44 l0 x4_1).f0), .int .i64 ((rd_T44 l0 x4_1).f1), .int .i64 ((rd_T44 l0 x4_1).f2), .int .i64 (wrap64 (((rd_T44 l0 x4_1).f3) + 1)), .bool false] 44 (0, 0)) (by (with_reducible repeat (first | refine blk_drewN ?_ _ | refine blk_drew ?_ | refine blk_alloc ?_ _)); refine blk_put (cs := #[.int .i64 ((rd_T44 l0 x4_1).f0), .int .i64 ((rd_T44 l0 x4_1).f1), .int .i64 ((rd_T44 l0 x4_1).f2), .int .i64 ((rd_T44 l0 x4_1).f3), .bool false]) ?_ 3 _ rfl; (with_reducible repeat (first | refine blk_drewN ?_ _ | refine blk_drew ?_ | refine blk_alloc ?_ _)); exact BK300.out) hg (Kd.R_away HO_3.out (fun _ hk => hk))) hb ho; clear BK300 HB HO_3; obtain ⟨BK300, HB, HO306⟩ := n_; clear ho hb hg hat))
           go_roundg k1
           case measure => have := HK1.out; omega
           case rel => exact ⟨(y304), (wrap64 (x4_1 + 1)), sq, H', ⟨by have := HK1.out; omega⟩, ⟨by (with_reducible repeat (first | apply Kd.R_alloc | apply Kd.R_drewN | apply Kd.R_drew)); exact Kd.R_mono HO306.out (fun _ hk => trivial)⟩, ⟨bq1 HB.out GE300.out⟩⟩
         rw [if_neg c15] at H
         exact absurd H (by simp)
       rw [if_neg c14] at H
       have c14b0 : decide (((rd_T44 l0 x4_1).f3) < 4) = false := decide_eq_false c14
       clear c14
       have H' := am H
       clear H
       have p299 : 0 ≤ (x4_1 : Int) := oda
       have q299 : x4_1 < (l0.length : Int) := oda
       obtain ⟨ad299, e299, hx299_0, hx299_1, hx299_2, hx299_3, hx299_4⟩ := at_T44 HR0.out x4_1 p299 q299
       (try rw [← Nbq6.out] at hx299_4)
       cases e299
       replace hx299_0 := (HB.out.cell (World.block_lt_of_cell? w _ hx299_0)).trans hx299_0
       replace hx299_1 := (HB.out.cell (World.block_lt_of_cell? w _ hx299_1)).trans hx299_1
       replace hx299_2 := (HB.out.cell (World.block_lt_of_cell? w _ hx299_2)).trans hx299_2
       replace hx299_3 := (HB.out.cell (World.block_lt_of_cell? w _ hx299_3)).trans hx299_3
       replace hx299_4 := (HB.out.cell (World.block_lt_of_cell? w _ hx299_4)).trans hx299_4
       replace p299 := eq_true p299
       replace q299 := eq_true q299
       go_wp2_with (first | ((with_reducible refine gate_dst (N := 5) rfl ?_); refine box_event ?hg (N := 5) ?hd (cs := #[.int .i64 0, .int .i64 0, .int .i64 0, .int .i64 0, .bool false]) (t := 44) ?hr ?_; (case hd => rfl); (case hg => rfl); (case hr => exact gs); intro gb300 hg w21 hbox hb; have n_ := ak5 (Kd.R_below (Kd.R_elderB (kqR HO_3.out) gb300 (Nat.le_of_eq hg.symm)) hb) (below_step (bq HB.out) hb) hbox ((by rw [hg]; exact (below_size (bq HB.out)) : w.heap.size ≤ gb300)) ((by rw [hg]; exact (below_size (bq HB.out)) : w.heap.size ≤ gb300)); clear HO_3 HB; obtain ⟨HO_3, HB, BK300, GW300, GE300⟩ := n_; clear hb hbox hg; have hcz22_0 : w21.cell? ⟨gb300, 0, none⟩ = some (.int .i64 0) := (blk_cell BK300.out 0).trans rfl; have hcz22_1 : w21.cell? ⟨gb300, 1, none⟩ = some (.int .i64 0) := (blk_cell BK300.out 1).trans rfl; have hcz22_2 : w21.cell? ⟨gb300, 2, none⟩ = some (.int .i64 0) := (blk_cell BK300.out 2).trans rfl; have hcz22_3 : w21.cell? ⟨gb300, 3, none⟩ = some (.int .i64 0) := (blk_cell BK300.out 3).trans rfl; have hcz22_4 : w21.cell? ⟨gb300, 4, none⟩ = some (.bool false) := (blk_cell BK300.out 4).trans rfl; have hfz22_0 := blk_frozen BK300.out 0; have hfz22_1 := blk_frozen BK300.out 1; have hfz22_2 := blk_frozen BK300.out 2; have hfz22_3 := blk_frozen BK300.out 3; have hfz22_4 := blk_frozen BK300.out 4) | ((with_reducible refine gate_store (t := 44) (p := 5) rfl ?_); refine store_event (t := 44) (p := 5) (v := ?vo_w23) (w1 := (((((w21.setCell ⟨gb300, 0, none⟩ (.int .i64 ((rd_T44 l0 x4_1).f0))).setCell ⟨gb300, 1, none⟩ (.int .i64 ((rd_T44 l0 x4_1).f1))).setCell ⟨gb300, 2, none⟩ (.int .i64 ((rd_T44 l0 x4_1).f2))).setCell ⟨gb300, 3, none⟩ (.int .i64 ((rd_T44 l0 x4_1).f3))).setCell ⟨gb300, 4, none⟩ (.bool false))) ?hg ?ho ?hn ?hr ?_; (case ho => rfl); (case hg => rfl); (case hn => rfl); (case hr => exact gs); intro w23 hw; have n0_ : Aside0 (Kd.R k44 44 w23 w.heap.size (fun k_ => k_ ≠ gb300) u3 x3_1) := ⟨(by rw [hw]; exact (by (with_reducible repeat (first | apply Kd.R_alloc | apply Kd.R_drewN | apply Kd.R_drew)); exact Kd.R_mono (Kd.R_far (p := ⟨gb300, 4, none⟩) (Kd.R_far (p := ⟨gb300, 3, none⟩) (Kd.R_far (p := ⟨gb300, 2, none⟩) (Kd.R_far (p := ⟨gb300, 1, none⟩) (Kd.R_far (p := ⟨gb300, 0, none⟩) (Kd.R_mono HO_3.out (fun k_ hk => (⟨hk, hk.2⟩ : _ ∧ k_ ≠ gb300))) (fun _ hk => hk.2) (.int .i64 ((rd_T44 l0 x4_1).f0))) (fun _ hk => hk.2) (.int .i64 ((rd_T44 l0 x4_1).f1))) (fun _ hk => hk.2) (.int .i64 ((rd_T44 l0 x4_1).f2))) (fun _ hk => hk.2) (.int .i64 ((rd_T44 l0 x4_1).f3))) (fun _ hk => hk.2) (.bool false)) (fun _ hk => hk.1.2)))⟩; have n1_ : Aside0 (w23.heap[gb300]? = some (.cells #[.int .i64 ((rd_T44 l0 x4_1).f0), .int .i64 ((rd_T44 l0 x4_1).f1), .int .i64 ((rd_T44 l0 x4_1).f2), .int .i64 ((rd_T44 l0 x4_1).f3), .bool false] 44 (0, 0))) := ⟨(by rw [hw]; exact (by (with_reducible repeat (first | refine blk_drewN ?_ _ | refine blk_drew ?_ | refine blk_alloc ?_ _)); refine blk_put (cs := #[.int .i64 ((rd_T44 l0 x4_1).f0), .int .i64 ((rd_T44 l0 x4_1).f1), .int .i64 ((rd_T44 l0 x4_1).f2), .int .i64 ((rd_T44 l0 x4_1).f3), .bool false]) ?_ 4 _ rfl; (with_reducible repeat (first | refine blk_drewN ?_ _ | refine blk_drew ?_ | refine blk_alloc ?_ _)); refine blk_put (cs := #[.int .i64 ((rd_T44 l0 x4_1).f0), .int .i64 ((rd_T44 l0 x4_1).f1), .int .i64 ((rd_T44 l0 x4_1).f2), .int .i64 0, .bool false]) ?_ 3 _ rfl; (with_reducible repeat (first | refine blk_drewN ?_ _ | refine blk_drew ?_ | refine blk_alloc ?_ _)); refine blk_put (cs := #[.int .i64 ((rd_T44 l0 x4_1).f0), .int .i64 ((rd_T44 l0 x4_1).f1), .int .i64 0, .int .i64 0, .bool false]) ?_ 2 _ rfl; (with_reducible repeat (first | refine blk_drewN ?_ _ | refine blk_drew ?_ | refine blk_alloc ?_ _)); refine blk_put (cs := #[.int .i64 ((rd_T44 l0 x4_1).f0), .int .i64 0, .int .i64 0, .int .i64 0, .bool false]) ?_ 1 _ rfl; (with_reducible repeat (first | refine blk_drewN ?_ _ | refine blk_drew ?_ | refine blk_alloc ?_ _)); refine blk_put (cs := #[.int .i64 0, .int .i64 0, .int .i64 0, .int .i64 0, .bool false]) ?_ 0 _ rfl; (with_reducible repeat (first | refine blk_drewN ?_ _ | refine blk_drew ?_ | refine blk_alloc ?_ _)); exact BK300.out))⟩; have n2_ : Aside0 (Below w.heap.size w w23) := ⟨(by rw [hw]; exact (bq1 HB.out GE300.out))⟩; clear hw; clear HO_3; clear BK300; clear HB; have HO_3 := n0_; have BK300 := n1_; have HB := n2_; clear n0_ n1_ n2_; have hcz24_0 : w23.cell? ⟨gb300, 0, none⟩ = some (.int .i64 ((rd_T44 l0 x4_1).f0)) := (blk_cell BK300.out 0).trans rfl; have hcz24_1 : w23.cell? ⟨gb300, 1, none⟩ = some (.int .i64 ((rd_T44 l0 x4_1).f1)) := (blk_cell BK300.out 1).trans rfl; have hcz24_2 : w23.cell? ⟨gb300, 2, none⟩ = some (.int .i64 ((rd_T44 l0 x4_1).f2)) := (blk_cell BK300.out 2).trans rfl; have hcz24_3 : w23.cell? ⟨gb300, 3, none⟩ = some (.int .i64 ((rd_T44 l0 x4_1).f3)) := (blk_cell BK300.out 3).trans rfl; have hcz24_4 : w23.cell? ⟨gb300, 4, none⟩ = some (.bool false) := (blk_cell BK300.out 4).trans rfl; have hfz24_0 := blk_frozen BK300.out 0; have hfz24_1 := blk_frozen BK300.out 1; have hfz24_2 := blk_frozen BK300.out 2; have hfz24_3 := blk_frozen BK300.out 3; have hfz24_4 := blk_frozen BK300.out 4))
       go_roundg k1
       case measure => have := HK1.out; omega
       case rel => exact ⟨(x3_1), (wrap64 (x4_1 + 1)), sq, H', ⟨by have := HK1.out; omega⟩, ⟨by (with_reducible repeat (first | apply Kd.R_alloc | apply Kd.R_drewN | apply Kd.R_drew)); exact Kd.R_mono HO_3.out (fun _ hk => trivial)⟩, ⟨bq1 HB.out GE300.out⟩⟩
     rw [if_neg c5] at H
     exact absurd H (by simp)
   rw [if_neg c4] at H
   have c4b0 : decide (x4_1 < (l0.length : Int)) = false := decide_eq_false c4
   clear c4
   obtain rfl := Option.some.inj H
   go_wp2
   go_ret
   exact ⟨_, rq, kqR HO_3.out, bq HB.out⟩

/-! ### spec_l1Byte: function 124 -/
def spec_l1Byte.f (s0_0 : List Int) (s0_1 : Int) (s0_2 : Int) : Option (Int × Int × Int) := if s0_1 < (s0_0.length : Int) then (if 0 ≤ s0_1 then (some (Go.bits .and .i64 (wrap64 ((Go.bits .and .i64 (Go.bits .xor .i64 ((wrap64 ((wrap64 (s0_2 * 6364136223846793005)) + 1442695040888963407)) / 8589934592) ((wrap64 ((wrap64 (s0_2 * 6364136223846793005)) + 1442695040888963407)) / 140737488355328)) 255) + (wrap64 (rd s0_0 s0_1)))) 255, wrap64 (s0_1 + 1), wrap64 ((wrap64 (s0_2 * 6364136223846793005)) + 1442695040888963407))) else (none)) else (some (Go.bits .and .i64 (Go.bits .xor .i64 ((wrap64 ((wrap64 (s0_2 * 6364136223846793005)) + 1442695040888963407)) / 8589934592) ((wrap64 ((wrap64 (s0_2 * 6364136223846793005)) + 1442695040888963407)) / 140737488355328)) 255, s0_1, wrap64 ((wrap64 (s0_2 * 6364136223846793005)) + 1442695040888963407)))
set_option maxHeartbeats 8000000 in
set_option maxRecDepth 100000 in
theorem spec_l1Byte.calls (g : Nat) (s0_0 : List Int) (s0_1 : Int) (s0_2 : Int) (r1 : Int) (r2 : Int) (r3 : Int) (w0 w : World) (hI : IsS133 w0 w g s0_0 s0_1 s0_2) (hB : Below w0.heap.size w0 w) (h : spec_l1Byte.f s0_0 s0_1 s0_2 = some (r1, r2, r3)) :
 Calls Try.prog 124 #[.pointer (some ⟨g, 0, none⟩)] w fun e w' => e = .returned (.int .i64 r1) ∧ IsS133 w0 w' g s0_0 r2 r3 ∧ Below w0.heap.size w0 w' ∧ KeepBut w w' g none := by
 have HI0 := am hI
 have HK := am (KeepBut.refl w g none)
 have HL := am hB.size
 clear hI
 have HW0 := am hB.size
 have HB := am hB
 clear hB
 have H : (if s0_1 < (s0_0.length : Int) then (if 0 ≤ s0_1 then (some (Go.bits .and .i64 (wrap64 ((Go.bits .and .i64 (Go.bits .xor .i64 ((wrap64 ((wrap64 (s0_2 * 6364136223846793005)) + 1442695040888963407)) / 8589934592) ((wrap64 ((wrap64 (s0_2 * 6364136223846793005)) + 1442695040888963407)) / 140737488355328)) 255) + (wrap64 (rd s0_0 s0_1)))) 255, wrap64 (s0_1 + 1), wrap64 ((wrap64 (s0_2 * 6364136223846793005)) + 1442695040888963407))) else (none)) else (some (Go.bits .and .i64 (Go.bits .xor .i64 ((wrap64 ((wrap64 (s0_2 * 6364136223846793005)) + 1442695040888963407)) / 8589934592) ((wrap64 ((wrap64 (s0_2 * 6364136223846793005)) + 1442695040888963407)) / 140737488355328)) 255, s0_1, wrap64 ((wrap64 (s0_2 * 6364136223846793005)) + 1442695040888963407)))) = some (r1, r2, r3) := h
 clear h
 by_cases c2 : s0_1 < (s0_0.length : Int)
 · rw [if_pos c2] at H
   have c2b0 : decide (s0_1 < (s0_0.length : Int)) = true := decide_eq_true c2
   clear c2
   by_cases c3 : 0 ≤ s0_1
   · rw [if_pos c3] at H
     have c3b0 : decide (0 ≤ s0_1) = true := decide_eq_true c3
     clear c3
     simp only [Option.some.injEq, Prod.mk.injEq] at H
     obtain ⟨rfl, rfl, rfl⟩ := H
     obtain ⟨ASz4_0, cSz4_0, HGz4, hgz4, HSz4_0⟩ := HI0.out
     have hcz4_0 := cellS133_0 HGz4
     have hcz4_1 := cellS133_1 HGz4
     have hcz4_2 := cellS133_2 HGz4
     have hfz4_1 := blk_frozen HGz4 1
     have hfz4_2 := blk_frozen HGz4 2
     clear HGz4 hgz4
     have p307 : 0 ≤ (s0_1 : Int) := oda
     have q307 : s0_1 < (s0_0.length : Int) := oda
     obtain ⟨ad307, e307, hx307_0⟩ := Kd.at_int HSz4_0.1 s0_1 p307 q307
     cases e307
     have hn307_0 : ad307.block ≠ g := Nat.ne_of_lt (Nat.lt_of_lt_of_le (by have := World.block_lt_of_cell? _ _ hx307_0; first | rwa [add_block] at this | exact this) (IsS133.ge HI0.out))
     replace hx307_0 := pw_cell_below HB.out hx307_0
     replace hx307_0 := (cell_far (p := ⟨g, 2, none⟩) (by first | (rw [add_block]; exact hn307_0) | (show (Addr.add _ _).block ≠ _; rw [add_block]; exact hn307_0) | exact hn307_0) (.int .i64 (wrap64 ((wrap64 (s0_2 * 6364136223846793005)) + 1442695040888963407)))).trans hx307_0
     (try have hy307_0 := fun (n_ : Nat) => (show (((w.drewN n_).setCell ⟨g, 2, none⟩ (.int .i64 (wrap64 ((wrap64 (s0_2 * 6364136223846793005)) + 1442695040888963407))))).cell? _ = some _ from hx307_0))
     clear hn307_0
     replace p307 := eq_true p307
     replace q307 := eq_true q307
     go_enter Try.func124, Try.ntmps124
     go_wp2
     repeat (go_quiet (fail); try go_wp2)
     go_ret
     exact ⟨rq, IsS133.q0 HI0.out, bq1 HB.out (IsS133.ge HI0.out), kp0 HK.out⟩
   rw [if_neg c3] at H
   exact absurd H (by simp)
 rw [if_neg c2] at H
 have c2b0 : decide (s0_1 < (s0_0.length : Int)) = false := decide_eq_false c2
 clear c2
 simp only [Option.some.injEq, Prod.mk.injEq] at H
 obtain ⟨rfl, rfl, rfl⟩ := H
 obtain ⟨ASz5_0, cSz5_0, HGz5, hgz5, HSz5_0⟩ := HI0.out
 have hcz5_0 := cellS133_0 HGz5
 have hcz5_1 := cellS133_1 HGz5
 have hcz5_2 := cellS133_2 HGz5
 have hfz5_1 := blk_frozen HGz5 1
 have hfz5_2 := blk_frozen HGz5 2
 clear HGz5 hgz5
 go_enter Try.func124, Try.ntmps124
 go_wp2
 repeat (go_quiet (fail); try go_wp2)
 go_ret
 exact ⟨rq, IsS133.q0 HI0.out, bq1 HB.out (IsS133.ge HI0.out), kp0 HK.out⟩

/-! ### spec_l1Below: function 86 -/
def spec_l1Below.f (s0_0 : List Int) (s0_1 : Int) (s0_2 : Int) (a1 : Int) : Option (Int × Int × Int) := if a1 ≤ 0 then (some (0, s0_1, s0_2)) else (if a1 ≤ 256 then ((spec_l1Byte.f s0_0 s0_1 s0_2).bind fun bt308 => (if a1 = 0 then (none) else (some (Int.tmod bt308.1 a1, bt308.2.1, bt308.2.2)))) else ((spec_l1Byte.f s0_0 s0_1 s0_2).bind fun bt311 => ((spec_l1Byte.f s0_0 bt311.2.1 bt311.2.2).bind fun bt314 => ((spec_l1Byte.f s0_0 bt314.2.1 bt314.2.2).bind fun bt317 => (if a1 = 0 then (none) else (some (Int.tmod (wrap64 ((wrap64 ((wrap64 (bt311.1 * 65536)) + (wrap64 (bt314.1 * 256)))) + bt317.1)) a1, bt317.2.1, bt317.2.2)))))))
set_option maxHeartbeats 8000000 in
set_option maxRecDepth 100000 in
theorem spec_l1Below.calls (g : Nat) (s0_0 : List Int) (s0_1 : Int) (s0_2 : Int) (a1 : Int) (r1 : Int) (r2 : Int) (r3 : Int) (w0 w : World) (hI : IsS133 w0 w g s0_0 s0_1 s0_2) (hB : Below w0.heap.size w0 w) (h : spec_l1Below.f s0_0 s0_1 s0_2 a1 = some (r1, r2, r3)) :
 Calls Try.prog 86 #[.pointer (some ⟨g, 0, none⟩), .int .i64 a1] w fun e w' => e = .returned (.int .i64 r1) ∧ IsS133 w0 w' g s0_0 r2 r3 ∧ Below w0.heap.size w0 w' ∧ KeepBut w w' g none := by
 have HI0 := am hI
 have HK := am (KeepBut.refl w g none)
 have HL := am hB.size
 clear hI
 have HW0 := am hB.size
 have HB := am hB
 clear hB
 have H : (if a1 ≤ 0 then (some (0, s0_1, s0_2)) else (if a1 ≤ 256 then ((spec_l1Byte.f s0_0 s0_1 s0_2).bind fun bt308 => (if a1 = 0 then (none) else (some (Int.tmod bt308.1 a1, bt308.2.1, bt308.2.2)))) else ((spec_l1Byte.f s0_0 s0_1 s0_2).bind fun bt311 => ((spec_l1Byte.f s0_0 bt311.2.1 bt311.2.2).bind fun bt314 => ((spec_l1Byte.f s0_0 bt314.2.1 bt314.2.2).bind fun bt317 => (if a1 = 0 then (none) else (some (Int.tmod (wrap64 ((wrap64 ((wrap64 (bt311.1 * 65536)) + (wrap64 (bt314.1 * 256)))) + bt317.1)) a1, bt317.2.1, bt317.2.2)))))))) = some (r1, r2, r3) := h
 clear h
 by_cases c3 : a1 ≤ 0
 · rw [if_pos c3] at H
   have c3b0 : decide (a1 ≤ 0) = true := decide_eq_true c3
   clear c3
   simp only [Option.some.injEq, Prod.mk.injEq] at H
   obtain ⟨rfl, rfl, rfl⟩ := H
   go_enter Try.func86, Try.ntmps86
   go_wp2
   go_ret
   exact ⟨rq, IsS133.q0 HI0.out, bq1 HB.out (IsS133.ge HI0.out), kp0 HK.out⟩
 rw [if_neg c3] at H
 have c3b0 : decide (a1 ≤ 0) = false := decide_eq_false c3
 clear c3
 by_cases c4 : a1 ≤ 256
 · rw [if_pos c4] at H
   have c4b0 : decide (a1 ≤ 256) = true := decide_eq_true c4
   clear c4
   replace H := Option.bind_eq_some_iff.mp H
   obtain ⟨⟨t308, t309, t310⟩, A50, H⟩ := H
   replace H : (if a1 = 0 then (none) else (some (Int.tmod t308 a1, t309, t310))) = some (r1, r2, r3) := H
   have A5 := am A50
   clear A50
   by_cases c6 : a1 = 0
   · rw [if_pos c6] at H
     exact absurd H (by simp)
   rw [if_neg c6] at H
   have c6b0 : (a1 == 0) = false := beq_eq_false_iff_ne.mpr c6
   have c6b1 : (a1 != 0) = true := bne_iff_ne.mpr c6
   simp only [Option.some.injEq, Prod.mk.injEq] at H
   obtain ⟨rfl, rfl, rfl⟩ := H
   go_enter Try.func86, Try.ntmps86
   go_wp2_with (first | ((with_reducible refine gate_callee (f := 124) rfl ?_); refine goesL_ (some 13) rfl rfl Try.func124 (by kernel_rfl) rfl #[.pointer (some ⟨g, 0, none⟩)] rfl ga ?_; (with_reducible refine (spec_l1Byte.calls g s0_0 s0_1 s0_2 t308 t309 t310 w0 _ ?side1 ?side2 A5.out).mono ?_); (case side1 => exact IsS133.q0 HI0.out); (case side2 => exact bq1 HB.out (IsS133.ge HI0.out)); rintro e w7 ⟨rfl, hi, hb, hk⟩; refine ⟨_, rfl, ?_⟩; have n_ := ak3 (KeepBut.trans (kp0 HK.out) hk (.inl rfl)) hb hi; clear HK HB HI0; obtain ⟨HK, HB, HI0⟩ := n_; (try clear hb hk hi)))
   go_ret
   exact ⟨rq, IsS133.q0 HI0.out, bq1 HB.out (IsS133.ge HI0.out), kp0 HK.out⟩
 rw [if_neg c4] at H
 have c4b0 : decide (a1 ≤ 256) = false := decide_eq_false c4
 clear c4
 replace H := Option.bind_eq_some_iff.mp H
 obtain ⟨⟨t311, t312, t313⟩, A80, H⟩ := H
 replace H : ((spec_l1Byte.f s0_0 t312 t313).bind fun bt314 => ((spec_l1Byte.f s0_0 bt314.2.1 bt314.2.2).bind fun bt317 => (if a1 = 0 then (none) else (some (Int.tmod (wrap64 ((wrap64 ((wrap64 (t311 * 65536)) + (wrap64 (bt314.1 * 256)))) + bt317.1)) a1, bt317.2.1, bt317.2.2))))) = some (r1, r2, r3) := H
 have A8 := am A80
 clear A80
 replace H := Option.bind_eq_some_iff.mp H
 obtain ⟨⟨t314, t315, t316⟩, A90, H⟩ := H
 replace H : ((spec_l1Byte.f s0_0 t315 t316).bind fun bt317 => (if a1 = 0 then (none) else (some (Int.tmod (wrap64 ((wrap64 ((wrap64 (t311 * 65536)) + (wrap64 (t314 * 256)))) + bt317.1)) a1, bt317.2.1, bt317.2.2)))) = some (r1, r2, r3) := H
 have A9 := am A90
 clear A90
 replace H := Option.bind_eq_some_iff.mp H
 obtain ⟨⟨t317, t318, t319⟩, A100, H⟩ := H
 replace H : (if a1 = 0 then (none) else (some (Int.tmod (wrap64 ((wrap64 ((wrap64 (t311 * 65536)) + (wrap64 (t314 * 256)))) + t317)) a1, t318, t319))) = some (r1, r2, r3) := H
 have A10 := am A100
 clear A100
 by_cases c11 : a1 = 0
 · rw [if_pos c11] at H
   exact absurd H (by simp)
 rw [if_neg c11] at H
 have c11b0 : (a1 == 0) = false := beq_eq_false_iff_ne.mpr c11
 have c11b1 : (a1 != 0) = true := bne_iff_ne.mpr c11
 simp only [Option.some.injEq, Prod.mk.injEq] at H
 obtain ⟨rfl, rfl, rfl⟩ := H
 go_enter Try.func86, Try.ntmps86
 go_wp2_with (first | ((with_reducible refine gate_callee (f := 124) rfl ?_); refine goesL_ (some 17) rfl rfl Try.func124 (by kernel_rfl) rfl #[.pointer (some ⟨g, 0, none⟩)] rfl ga ?_; (with_reducible refine (spec_l1Byte.calls g s0_0 s0_1 s0_2 t311 t312 t313 w0 _ ?side1 ?side2 A8.out).mono ?_); (case side1 => exact IsS133.q0 HI0.out); (case side2 => exact bq1 HB.out (IsS133.ge HI0.out)); rintro e w12 ⟨rfl, hi, hb, hk⟩; refine ⟨_, rfl, ?_⟩; have n_ := ak3 (KeepBut.trans (kp0 HK.out) hk (.inl rfl)) hb hi; clear HK HB HI0; obtain ⟨HK, HB, HI0⟩ := n_; (try clear hb hk hi)) | ((with_reducible refine gate_callee (f := 124) rfl ?_); refine goesL_ (some 19) rfl rfl Try.func124 (by kernel_rfl) rfl #[.pointer (some ⟨g, 0, none⟩)] rfl ga ?_; (with_reducible refine (spec_l1Byte.calls g s0_0 t312 t313 t314 t315 t316 w0 _ ?side1 ?side2 A9.out).mono ?_); (case side1 => exact IsS133.q0 HI0.out); (case side2 => exact bq1 HB.out (IsS133.ge HI0.out)); rintro e w13 ⟨rfl, hi, hb, hk⟩; refine ⟨_, rfl, ?_⟩; have n_ := ak3 (KeepBut.trans (kp0 HK.out) hk (.inl rfl)) hb hi; clear HK HB HI0; obtain ⟨HK, HB, HI0⟩ := n_; (try clear hb hk hi)) | ((with_reducible refine gate_callee (f := 124) rfl ?_); refine goesL_ (some 21) rfl rfl Try.func124 (by kernel_rfl) rfl #[.pointer (some ⟨g, 0, none⟩)] rfl ga ?_; (with_reducible refine (spec_l1Byte.calls g s0_0 t315 t316 t317 t318 t319 w0 _ ?side1 ?side2 A10.out).mono ?_); (case side1 => exact IsS133.q0 HI0.out); (case side2 => exact bq1 HB.out (IsS133.ge HI0.out)); rintro e w14 ⟨rfl, hi, hb, hk⟩; refine ⟨_, rfl, ?_⟩; have n_ := ak3 (KeepBut.trans (kp0 HK.out) hk (.inl rfl)) hb hi; clear HK HB HI0; obtain ⟨HK, HB, HI0⟩ := n_; (try clear hb hk hi)))
 go_ret
 exact ⟨rq, IsS133.q0 HI0.out, bq1 HB.out (IsS133.ge HI0.out), kp0 HK.out⟩

/-! ### spec_l1Int: function 110 -/
def spec_l1Int.f (s0_0 : List Int) (s0_1 : Int) (s0_2 : Int) (l1 : List Int) : Option (Int × Int × Int) := (spec_l1Below.f s0_0 s0_1 s0_2 (l1.length : Int)).bind fun bt320 => (if 0 ≤ bt320.1 then (if bt320.1 < (l1.length : Int) then (some (rd l1 bt320.1, bt320.2.1, bt320.2.2)) else (none)) else (none))
set_option maxHeartbeats 8000000 in
set_option maxRecDepth 100000 in
theorem spec_l1Int.calls (g : Nat) (s0_0 : List Int) (s0_1 : Int) (s0_2 : Int) (A1 : Option Addr) (c1 : Nat) (l1 : List Int) (r1 : Int) (r2 : Int) (r3 : Int) (w0 w : World) (hI : IsS133 w0 w g s0_0 s0_1 s0_2) (hB : Below w0.heap.size w0 w) (hr1 : Kd.C (Kd.int .i64) w A1 l1.length l1) (hc1 : l1.length ≤ c1) (hf1 : ∀ ad, A1 = some ad → 0 < l1.length → ad.block ≠ g) (h : spec_l1Int.f s0_0 s0_1 s0_2 l1 = some (r1, r2, r3)) :
 Calls Try.prog 110 #[.pointer (some ⟨g, 0, none⟩), .slice A1 l1.length c1] w fun e w' => e = .returned (.int .i64 r1) ∧ IsS133 w0 w' g s0_0 r2 r3 ∧ Below w0.heap.size w0 w' ∧ KeepBut w w' g none := by
 have HR1 := am hr1
 have HC1 := am hc1
 clear hr1 hc1
 have HI0 := am hI
 have HK := am (KeepBut.refl w g none)
 have HL := am hB.size
 clear hI
 have HW0 := am hB.size
 have HB := am hB
 clear hB
 have H : ((spec_l1Below.f s0_0 s0_1 s0_2 (l1.length : Int)).bind fun bt320 => (if 0 ≤ bt320.1 then (if bt320.1 < (l1.length : Int) then (some (rd l1 bt320.1, bt320.2.1, bt320.2.2)) else (none)) else (none))) = some (r1, r2, r3) := h
 clear h
 replace H := Option.bind_eq_some_iff.mp H
 obtain ⟨⟨t320, t321, t322⟩, A30, H⟩ := H
 replace H : (if 0 ≤ t320 then (if t320 < (l1.length : Int) then (some (rd l1 t320, t321, t322)) else (none)) else (none)) = some (r1, r2, r3) := H
 have A3 := am A30
 clear A30
 by_cases c4 : 0 ≤ t320
 · rw [if_pos c4] at H
   have c4b0 : decide (0 ≤ t320) = true := decide_eq_true c4
   clear c4
   by_cases c5 : t320 < (l1.length : Int)
   · rw [if_pos c5] at H
     have c5b0 : decide (t320 < (l1.length : Int)) = true := decide_eq_true c5
     clear c5
     simp only [Option.some.injEq, Prod.mk.injEq] at H
     obtain ⟨rfl, rfl, rfl⟩ := H
     go_enter Try.func110, Try.ntmps110
     go_wp2_with (first | ((with_reducible refine gate_callee (f := 86) rfl ?_); refine goesL_ (some 9) rfl rfl Try.func86 (by kernel_rfl) rfl #[.pointer (some ⟨g, 0, none⟩), .int .i64 (l1.length : Int)] rfl ga ?_; (with_reducible refine (spec_l1Below.calls g s0_0 s0_1 s0_2 (l1.length : Int) t320 t321 t322 w0 _ ?side1 ?side2 A3.out).mono ?_); (case side1 => exact IsS133.q0 HI0.out); (case side2 => exact bq1 HB.out (IsS133.ge HI0.out)); rintro e w6 ⟨rfl, hi, hb, hk⟩; refine ⟨_, rfl, ?_⟩; have n_ := ak3 (KeepBut.trans (kp0 HK.out) hk (.inl rfl)) hb hi; clear HK HB HI0; obtain ⟨HK, HB, HI0⟩ := n_; (try clear hb hk hi); have p323 : 0 ≤ (t320 : Int) := oda; have q323 : t320 < (l1.length : Int) := oda; obtain ⟨ad323, e323, hx323_0⟩ := Kd.at_int HR1.out t320 p323 q323; cases e323; replace hx323_0 := keep_cell HK.out hx323_0 (by first | (rw [add_block]; exact hf1 _ rfl (by omega)) | exact hf1 _ rfl (by omega) | exact hf1 ad323 rfl (by omega)); replace p323 := eq_true p323; replace q323 := eq_true q323))
     go_ret
     exact ⟨rq, IsS133.q0 HI0.out, bq1 HB.out (IsS133.ge HI0.out), kp0 HK.out⟩
   rw [if_neg c5] at H
   exact absurd H (by simp)
 rw [if_neg c4] at H
 exact absurd H (by simp)

/-! ### spec_l6Mac: function 87 -/
def spec_l6Mac.f (s0_0 : List Int) (s0_1 : Int) (s0_2 : Int) : Option (Int × Int × Int) := (spec_l1Int.f s0_0 s0_1 s0_2 (([11, 12, 13, 14] : List Int))).bind fun bt327 => (some (bt327.1, bt327.2.1, bt327.2.2))
set_option maxHeartbeats 8000000 in
set_option maxRecDepth 100000 in
theorem spec_l6Mac.calls (g : Nat) (s0_0 : List Int) (s0_1 : Int) (s0_2 : Int) (r1 : Int) (r2 : Int) (r3 : Int) (w0 w : World) (hI : IsS133 w0 w g s0_0 s0_1 s0_2) (hB : Below w0.heap.size w0 w) (h : spec_l6Mac.f s0_0 s0_1 s0_2 = some (r1, r2, r3)) :
 Calls Try.prog 87 #[.pointer (some ⟨g, 0, none⟩)] w fun e w' => e = .returned (.int .i64 r1) ∧ IsS133 w0 w' g s0_0 r2 r3 ∧ Below w0.heap.size w0 w' ∧ KeepBut w w' g none := by
 have HI0 := am hI
 have HK := am (KeepBut.refl w g none)
 have HL := am hB.size
 clear hI
 have HW0 := am hB.size
 have HB := am hB
 clear hB
 have H : ((spec_l1Int.f s0_0 s0_1 s0_2 (([11, 12, 13, 14] : List Int))).bind fun bt327 => (some (bt327.1, bt327.2.1, bt327.2.2))) = some (r1, r2, r3) := h
 clear h
 obtain ⟨y324, hy324⟩ : ∃ y_ : List Int, y_ = (([11, 12, 13, 14] : List Int)) := ⟨_, rfl⟩
 replace H : ((spec_l1Int.f s0_0 s0_1 s0_2 y324).bind fun bt327 => (some (bt327.1, bt327.2.1, bt327.2.2))) = some (r1, r2, r3) := by first | (rw [hy324]; with_reducible exact H) | (have H2_ := (Option.bind_some _ _).symm.trans H; rw [hy324]; with_reducible exact H2_) | (have H2_ := (Option.bind_some _ _).symm.trans H; with_reducible exact H2_) | with_reducible exact H | (rw [hy324]; exact H) | exact H
 have Ny324 := am hy324
 clear hy324
 replace H := Option.bind_eq_some_iff.mp H
 obtain ⟨⟨t327, t328, t329⟩, A20, H⟩ := H
 replace H : (some (t327, t328, t329)) = some (r1, r2, r3) := H
 have A2 := am A20
 clear A20
 simp only [Option.some.injEq, Prod.mk.injEq] at H
 obtain ⟨rfl, rfl, rfl⟩ := H
 go_enter Try.func87, Try.ntmps87
 go_wp2_with (first | ((with_reducible refine gate_dst (N := 4) rfl ?_); refine Kd.R_lit (Kd.int .i64) _ 3 ?hg (N := 4) ?hd (xs := ([11, 12, 13, 14] : List Int)) (inner := [.int .i64 11, .int .i64 12, .int .i64 13, .int .i64 14]) (ok := fun _ => True) (okp := fun _ => True) ?hr ?hp (fun _ hk => hk) trivial (Below.refl _ _) (Nat.le_refl _) (by simp) ?_; (case hd => rfl); (case hg => rfl); (case hr => exact gs); (case hp => exact (Reps.one (show Kd.M (Kd.int .i64) _ _ _ 11 [.int .i64 11] from rfl) (Reps.one (show Kd.M (Kd.int .i64) _ _ _ 12 [.int .i64 12] from rfl) (Reps.one (show Kd.M (Kd.int .i64) _ _ _ 13 [.int .i64 13] from rfl) (Reps.one (show Kd.M (Kd.int .i64) _ _ _ 14 [.int .i64 14] from rfl) (Reps.none _ _)))))); intro v325 w3 ho4 hb hg_ hnew_; clear hg_ hnew_; (first | rw [← Ny324.out] at ho4 | (simp only [Int.reduceToNat] at ho4; rw [← Ny324.out] at ho4)); have n_ := ak4 (Kd.R_lower ho4 (keep_size (w := w) (g := g) (row := none) (kp0 HK.out))) (IsS133.below (IsS133.q0 HI0.out) hb) (KeepBut.trans (kp0 HK.out) (KeepBut.of_below hb g none) (.inl rfl)) (below_step (bq1 HB.out (IsS133.ge HI0.out)) hb); clear HI0 HK HB; obtain ⟨HO326, HI0, HK, HB⟩ := n_; clear hb ho4; obtain ⟨Ao5, co5, eo5⟩ := Kd.R_slice HO326.out; subst eo5) | ((with_reducible refine gate_callee (f := 110) rfl ?_); refine goesL_ (some 5) rfl rfl Try.func110 (by kernel_rfl) rfl #[.pointer (some ⟨g, 0, none⟩), .slice Ao5 y324.length co5] rfl ga ?_; (with_reducible refine (spec_l1Int.calls g s0_0 s0_1 s0_2 _ _ y324 t327 t328 t329 w0 _ ?side1 ?side2 ?side3 ?side4 ?side5 A2.out).mono ?_); (case side1 => exact IsS133.q0 HI0.out); (case side2 => exact bq1 HB.out (IsS133.ge HI0.out)); (case side3 => repeat (first | exact (Kd.R_reads' HO326.out).2.2 | (with_reducible refine Kd.C_alloc ?_ _) | (with_reducible refine Kd.C_drewN ?_ _) | (with_reducible refine Kd.C_drew ?_))); (case side4 => exact (Kd.R_reads' HO326.out).2.1); (case side5 => exact far_slice (IsS133.own_ne HI0.out HO326.out (by decide))); rintro e w6 ⟨rfl, hi, hb, hk⟩; refine ⟨_, rfl, ?_⟩; have n_ := ak4 (Kd.R_mono (Kd.R_keep (IsS133.apart (show IsS133 w0 _ g s0_0 s0_1 s0_2 from IsS133.q0 HI0.out) (kqR HO326.out) (by decide)) hk (fun _ h => h.2)) (fun _ h => h.1)) (KeepBut.trans (kp0 HK.out) hk (.inl rfl)) hb hi; clear HO326 HK HB HI0; obtain ⟨HO326, HK, HB, HI0⟩ := n_; (try clear hb hk hi)))
 go_ret
 exact ⟨rq, IsS133.q0 HI0.out, bq1 HB.out (IsS133.ge HI0.out), kp0 HK.out⟩

/-! ### spec_l8Draw: function 85 -/
def spec_l8Draw.l0 : Nat → List (S44) → Int → List Int → Int → Int → Option ((List (S44)) × Int × Int)
 | 0, _, _, _, _, _ => none
 | k + 1, x3, x4, x1000, x1001, x1002 => if x4 > 0 then ((spec_l1Below.f x1000 x1001 x1002 6).bind fun bt336 => (if bt336.1 = 0 then ((spec_l1Below.f x1000 bt336.2.1 bt336.2.2 3).bind fun bt339 => ((spec_l6Mac.f x1000 bt339.2.1 bt339.2.2).bind fun bt342 => ((spec_l1Below.f x1000 bt342.2.1 bt342.2.2 4).bind fun bt345 => ((spec_SetStatic.f k x3 (wrap64 (1 + bt339.1)) bt342.1 bt345.1).bind fun bt348 => (spec_l8Draw.l0 k bt348.1 (wrap64 (x4 - 1)) x1000 bt345.2.1 bt345.2.2))))) else (if bt336.1 = 1 then ((spec_AgeAll.f k x3).bind fun t352 => (spec_l8Draw.l0 k t352 (wrap64 (x4 - 1)) x1000 bt336.2.1 bt336.2.2)) else ((spec_l1Below.f x1000 bt336.2.1 bt336.2.2 3).bind fun bt355 => ((spec_l6Mac.f x1000 bt355.2.1 bt355.2.2).bind fun bt358 => ((spec_l1Below.f x1000 bt358.2.1 bt358.2.2 3).bind fun bt361 => ((spec_l1Below.f x1000 bt361.2.1 bt361.2.2 4).bind fun bt364 => ((spec_Learn.f k x3 (wrap64 (1 + bt355.1)) (wrap64 (bt358.1 + bt361.1)) bt364.1).bind fun t367 => (spec_l8Draw.l0 k t367 (wrap64 (x4 - 1)) x1000 bt364.2.1 bt364.2.2))))))))) else (some (x3, x1001, x1002))
def spec_l8Draw.f (k : Nat) (s0_0 : List Int) (s0_1 : Int) (s0_2 : Int) : Option ((List (S44)) × Int × Int) := (spec_l1Below.f s0_0 s0_1 s0_2 10).bind fun bt333 => (spec_l8Draw.l0 k (([] : List (S44))) bt333.1 s0_0 bt333.2.1 bt333.2.2)
theorem spec_l8Draw.mono_l : ∀ k, (∀ y0 y1 y2 y3 y4, LeO (spec_l8Draw.l0 k y0 y1 y2 y3 y4) (spec_l8Draw.l0 (k + 1) y0 y1 y2 y3 y4))
 | 0 => fun _ _ _ _ _ r h => by simp [spec_l8Draw.l0] at h
 | k + 1 => by
  have ih0 := spec_l8Draw.mono_l k
  intro y0 y1 y2 y3 y4
  unfold spec_l8Draw.l0
  repeat' first
  | (with_reducible exact ih0 _ _ _ _ _)
  | (with_reducible exact spec_AgeAll.mono _ _)
  | (with_reducible exact spec_Learn.mono _ _ _ _ _)
  | (with_reducible exact spec_SetStatic.mono _ _ _ _ _)
  | (with_reducible exact LeO.refl _)
  | (with_reducible exact LeO.none _)
  | (with_reducible refine LeO.ite ?_ ?_)
  | (with_reducible refine LeO.bind ?_ (fun _ => ?_))
  | exact ih0 _ _ _ _ _
  | exact spec_AgeAll.mono _ _
  | exact spec_Learn.mono _ _ _ _ _
  | exact spec_SetStatic.mono _ _ _ _ _
  | exact LeO.none _
  | refine LeO.ite ?_ ?_
  | refine LeO.bind ?_ (fun _ => ?_)
theorem spec_l8Draw.mono : ∀ a0 a1 a2 k, LeO (spec_l8Draw.f k a0 a1 a2) (spec_l8Draw.f (k + 1) a0 a1 a2) := by
 intro a0 a1 a2 k
 have ih0 := spec_l8Draw.mono_l k
 unfold spec_l8Draw.f
 repeat' first
  | (with_reducible exact ih0 _ _ _ _ _)
  | (with_reducible exact spec_AgeAll.mono _ _)
  | (with_reducible exact spec_Learn.mono _ _ _ _ _)
  | (with_reducible exact spec_SetStatic.mono _ _ _ _ _)
  | (with_reducible exact LeO.refl _)
  | (with_reducible exact LeO.none _)
  | (with_reducible refine LeO.ite ?_ ?_)
  | (with_reducible refine LeO.bind ?_ (fun _ => ?_))
  | exact ih0 _ _ _ _ _
  | exact spec_AgeAll.mono _ _
  | exact spec_Learn.mono _ _ _ _ _
  | exact spec_SetStatic.mono _ _ _ _ _
  | exact LeO.none _
  | refine LeO.ite ?_ ?_
  | refine LeO.bind ?_ (fun _ => ?_)
set_option maxHeartbeats 8000000 in
set_option maxRecDepth 100000 in
theorem spec_l8Draw.calls (k : Nat) (g : Nat) (s0_0 : List Int) (s0_1 : Int) (s0_2 : Int) (r1 : List (S44)) (r2 : Int) (r3 : Int) (w0 w : World) (hI : IsS133 w0 w g s0_0 s0_1 s0_2) (hB : Below w0.heap.size w0 w) (h : spec_l8Draw.f k s0_0 s0_1 s0_2 = some (r1, r2, r3)) :
 Calls Try.prog 85 #[.pointer (some ⟨g, 0, none⟩)] w fun e w' => ∃ v0_ : Value, e = .returned (v0_) ∧ Kd.R k44 44 w' w.heap.size (fun _ => True) v0_ r1 ∧ IsS133 w0 w' g s0_0 r2 r3 ∧ Below w0.heap.size w0 w' ∧ KeepBut w w' g none := by
 have HI0 := am hI
 have HK := am (KeepBut.refl w g none)
 have HL := am hB.size
 clear hI
 have HW0 := am hB.size
 have HB := am hB
 clear hB
 have H : ((spec_l1Below.f s0_0 s0_1 s0_2 10).bind fun bt333 => (spec_l8Draw.l0 k (([] : List (S44))) bt333.1 s0_0 bt333.2.1 bt333.2.2)) = some (r1, r2, r3) := h
 clear h
 obtain ⟨y330, hy330⟩ : ∃ y_ : List (S44), y_ = (([] : List (S44))) := ⟨_, rfl⟩
 replace H : ((spec_l1Below.f s0_0 s0_1 s0_2 10).bind fun bt333 => (spec_l8Draw.l0 k y330 bt333.1 s0_0 bt333.2.1 bt333.2.2)) = some (r1, r2, r3) := by first | (rw [hy330]; with_reducible exact H) | (have H2_ := (Option.bind_some _ _).symm.trans H; rw [hy330]; with_reducible exact H2_) | (have H2_ := (Option.bind_some _ _).symm.trans H; with_reducible exact H2_) | with_reducible exact H | (rw [hy330]; exact H) | exact H
 have Ny330 := am hy330
 clear hy330
 replace H := Option.bind_eq_some_iff.mp H
 obtain ⟨⟨t333, t334, t335⟩, A20, H⟩ := H
 replace H : (spec_l8Draw.l0 k y330 t333 s0_0 t334 t335) = some (r1, r2, r3) := H
 have A2 := am A20
 clear A20
 have H' := am H
 clear H
 go_enter Try.func85, Try.ntmps85
 go_wp2_with (first | ((with_reducible refine gate_dst (N := 5) rfl ?_); refine Kd.R_lit k44 _ 44 ?hg (N := 5) ?hd (xs := ([] : List (S44))) (inner := []) (ok := fun _ => True) (okp := fun _ => True) ?hr ?hp (fun _ hk => hk) trivial (Below.refl _ _) (Nat.le_refl _) (by simp) ?_; (case hd => rfl); (case hg => rfl); (case hr => exact gs); (case hp => exact (Reps.none _ _)); intro v331 w3 ho4 hb hg_ hnew_; clear hg_ hnew_; (first | rw [← Ny330.out] at ho4 | (simp only [Int.reduceToNat] at ho4; rw [← Ny330.out] at ho4)); have n_ := ak4 (Kd.R_lower ho4 (keep_size (w := w) (g := g) (row := none) (kp0 HK.out))) (IsS133.below (IsS133.q0 HI0.out) hb) (KeepBut.trans (kp0 HK.out) (KeepBut.of_below hb g none) (.inl rfl)) (below_step (bq1 HB.out (IsS133.ge HI0.out)) hb); clear HI0 HK HB; obtain ⟨HO332, HI0, HK, HB⟩ := n_; clear hb ho4) | ((with_reducible refine gate_callee (f := 86) rfl ?_); refine goesL_ (some 7) rfl rfl Try.func86 (by kernel_rfl) rfl #[.pointer (some ⟨g, 0, none⟩), .int .i64 10] rfl ga ?_; (with_reducible refine (spec_l1Below.calls g s0_0 s0_1 s0_2 10 t333 t334 t335 w0 _ ?side1 ?side2 A2.out).mono ?_); (case side1 => exact IsS133.q0 HI0.out); (case side2 => exact bq1 HB.out (IsS133.ge HI0.out)); rintro e w5 ⟨rfl, hi, hb, hk⟩; refine ⟨_, rfl, ?_⟩; have n_ := ak4 (Kd.R_mono (Kd.R_keep (IsS133.apart (show IsS133 w0 _ g s0_0 s0_1 s0_2 from IsS133.q0 HI0.out) (kqR HO332.out) (by decide)) hk (fun _ h => h.2)) (fun _ h => h.1)) (KeepBut.trans (kp0 HK.out) hk (.inl rfl)) hb hi; clear HO332 HK HB HI0; obtain ⟨HO332, HK, HB, HI0⟩ := n_; (try clear hb hk hi)))
 go_loopg [3, 4] k (fun kq v3 v4 w' => ∃ (x3_1 : List (S44)) (x4_1 : Int) (x1001_1 : Int) (x1002_1 : Int), v4 = .int .i64 x4_1 ∧ Aside0 (spec_l8Draw.l0 kq x3_1 x4_1 s0_0 x1001_1 x1002_1 = some (r1, r2, r3)) ∧ Aside0 (kq ≤ k) ∧ Aside0 (Kd.R k44 44 w' w.heap.size (fun _ => True) v3 x3_1) ∧ Aside0 (IsS133 w0 w' g s0_0 x1001_1 x1002_1) ∧ Aside0 (KeepBut w w' g none) ∧ Aside0 (Below w0.heap.size w0 w'))
 case atStart => exact ⟨(y330), (t333), (t334), (t335), sq, H', ⟨Nat.le_refl _⟩, ⟨kqR HO332.out⟩, ⟨IsS133.q0 HI0.out⟩, ⟨kp0 HK.out⟩, ⟨bq1 HB.out (IsS133.ge HI0.out)⟩⟩
 case round =>
  clear H'
  try clear p2
  obtain ⟨x3_1, x4_1, x1001_1, x1002_1, rfl, HA, HK1, HO_3, HI0, HK, HB⟩ := hrel
  cases gk with
  | zero => exact absurd HA.out (by simp [spec_l8Draw.l0])
  | succ k1 =>
   have H := HA.out
   clear HA
   simp only [spec_l8Draw.l0] at H
   by_cases c6 : x4_1 > 0
   · rw [if_pos c6] at H
     have c6b0 : decide (0 < x4_1) = true := decide_eq_true c6
     clear c6
     replace H := Option.bind_eq_some_iff.mp H
     obtain ⟨⟨t336, t337, t338⟩, A70, H⟩ := H
     replace H : (if t336 = 0 then ((spec_l1Below.f s0_0 t337 t338 3).bind fun bt339 => ((spec_l6Mac.f s0_0 bt339.2.1 bt339.2.2).bind fun bt342 => ((spec_l1Below.f s0_0 bt342.2.1 bt342.2.2 4).bind fun bt345 => ((spec_SetStatic.f k1 x3_1 (wrap64 (1 + bt339.1)) bt342.1 bt345.1).bind fun bt348 => (spec_l8Draw.l0 k1 bt348.1 (wrap64 (x4_1 - 1)) s0_0 bt345.2.1 bt345.2.2))))) else (if t336 = 1 then ((spec_AgeAll.f k1 x3_1).bind fun t352 => (spec_l8Draw.l0 k1 t352 (wrap64 (x4_1 - 1)) s0_0 t337 t338)) else ((spec_l1Below.f s0_0 t337 t338 3).bind fun bt355 => ((spec_l6Mac.f s0_0 bt355.2.1 bt355.2.2).bind fun bt358 => ((spec_l1Below.f s0_0 bt358.2.1 bt358.2.2 3).bind fun bt361 => ((spec_l1Below.f s0_0 bt361.2.1 bt361.2.2 4).bind fun bt364 => ((spec_Learn.f k1 x3_1 (wrap64 (1 + bt355.1)) (wrap64 (bt358.1 + bt361.1)) bt364.1).bind fun t367 => (spec_l8Draw.l0 k1 t367 (wrap64 (x4_1 - 1)) s0_0 bt364.2.1 bt364.2.2)))))))) = some (r1, r2, r3) := H
     have A7 := am A70
     clear A70
     by_cases c8 : t336 = 0
     · rw [if_pos c8] at H
       have c8b0 : (t336 == 0) = true := beq_iff_eq.mpr c8
       have c8b1 : (t336 != 0) = false := bne_eq_false_iff_eq.mpr c8
       clear c8
       replace H := Option.bind_eq_some_iff.mp H
       obtain ⟨⟨t339, t340, t341⟩, A90, H⟩ := H
       replace H : ((spec_l6Mac.f s0_0 t340 t341).bind fun bt342 => ((spec_l1Below.f s0_0 bt342.2.1 bt342.2.2 4).bind fun bt345 => ((spec_SetStatic.f k1 x3_1 (wrap64 (1 + t339)) bt342.1 bt345.1).bind fun bt348 => (spec_l8Draw.l0 k1 bt348.1 (wrap64 (x4_1 - 1)) s0_0 bt345.2.1 bt345.2.2)))) = some (r1, r2, r3) := H
       have A9 := am A90
       clear A90
       replace H := Option.bind_eq_some_iff.mp H
       obtain ⟨⟨t342, t343, t344⟩, A100, H⟩ := H
       replace H : ((spec_l1Below.f s0_0 t343 t344 4).bind fun bt345 => ((spec_SetStatic.f k1 x3_1 (wrap64 (1 + t339)) t342 bt345.1).bind fun bt348 => (spec_l8Draw.l0 k1 bt348.1 (wrap64 (x4_1 - 1)) s0_0 bt345.2.1 bt345.2.2))) = some (r1, r2, r3) := H
       have A10 := am A100
       clear A100
       replace H := Option.bind_eq_some_iff.mp H
       obtain ⟨⟨t345, t346, t347⟩, A110, H⟩ := H
       replace H : ((spec_SetStatic.f k1 x3_1 (wrap64 (1 + t339)) t342 t345).bind fun bt348 => (spec_l8Draw.l0 k1 bt348.1 (wrap64 (x4_1 - 1)) s0_0 t346 t347)) = some (r1, r2, r3) := H
       have A11 := am A110
       clear A110
       replace H := Option.bind_eq_some_iff.mp H
       obtain ⟨⟨t348, t349⟩, A120, H⟩ := H
       replace H : (spec_l8Draw.l0 k1 t348 (wrap64 (x4_1 - 1)) s0_0 t346 t347) = some (r1, r2, r3) := H
       have A12 := am A120
       clear A120
       have H' := am H
       clear H
       go_wp2_with (first | ((with_reducible refine gate_callee (f := 86) rfl ?_); refine goesL_ (some 13) rfl rfl Try.func86 (by kernel_rfl) rfl #[.pointer (some ⟨g, 0, none⟩), .int .i64 6] rfl ga ?_; (with_reducible refine (spec_l1Below.calls g s0_0 x1001_1 x1002_1 6 t336 t337 t338 w0 _ ?side1 ?side2 A7.out).mono ?_); (case side1 => exact IsS133.q0 HI0.out); (case side2 => exact bq1 HB.out (IsS133.ge HI0.out)); rintro e w13 ⟨rfl, hi, hb, hk⟩; refine ⟨_, rfl, ?_⟩; have n_ := ak4 (Kd.R_mono (Kd.R_keep (IsS133.apart (show IsS133 w0 _ g s0_0 x1001_1 x1002_1 from IsS133.q0 HI0.out) (kqR HO_3.out) (by decide)) hk (fun _ h => h.2)) (fun _ h => h.1)) (KeepBut.trans (kp0 HK.out) hk (.inl rfl)) hb hi; clear HO_3 HK HB HI0; obtain ⟨HO_3, HK, HB, HI0⟩ := n_; (try clear hb hk hi)) | ((with_reducible refine gate_callee (f := 86) rfl ?_); refine goesL_ (some 31) rfl rfl Try.func86 (by kernel_rfl) rfl #[.pointer (some ⟨g, 0, none⟩), .int .i64 3] rfl ga ?_; (with_reducible refine (spec_l1Below.calls g s0_0 t337 t338 3 t339 t340 t341 w0 _ ?side1 ?side2 A9.out).mono ?_); (case side1 => exact IsS133.q0 HI0.out); (case side2 => exact bq1 HB.out (IsS133.ge HI0.out)); rintro e w14 ⟨rfl, hi, hb, hk⟩; refine ⟨_, rfl, ?_⟩; have n_ := ak4 (Kd.R_mono (Kd.R_keep (IsS133.apart (show IsS133 w0 _ g s0_0 t337 t338 from IsS133.q0 HI0.out) (kqR HO_3.out) (by decide)) hk (fun _ h => h.2)) (fun _ h => h.1)) (KeepBut.trans (kp0 HK.out) hk (.inl rfl)) hb hi; clear HO_3 HK HB HI0; obtain ⟨HO_3, HK, HB, HI0⟩ := n_; (try clear hb hk hi)) | ((with_reducible refine gate_callee (f := 87) rfl ?_); refine goesL_ (some 34) rfl rfl Try.func87 (by kernel_rfl) rfl #[.pointer (some ⟨g, 0, none⟩)] rfl ga ?_; (with_reducible refine (spec_l6Mac.calls g s0_0 t340 t341 t342 t343 t344 w0 _ ?side1 ?side2 A10.out).mono ?_); (case side1 => exact IsS133.q0 HI0.out); (case side2 => exact bq1 HB.out (IsS133.ge HI0.out)); rintro e w15 ⟨rfl, hi, hb, hk⟩; refine ⟨_, rfl, ?_⟩; have n_ := ak4 (Kd.R_mono (Kd.R_keep (IsS133.apart (show IsS133 w0 _ g s0_0 t340 t341 from IsS133.q0 HI0.out) (kqR HO_3.out) (by decide)) hk (fun _ h => h.2)) (fun _ h => h.1)) (KeepBut.trans (kp0 HK.out) hk (.inl rfl)) hb hi; clear HO_3 HK HB HI0; obtain ⟨HO_3, HK, HB, HI0⟩ := n_; (try clear hb hk hi)) | ((with_reducible refine gate_callee (f := 86) rfl ?_); refine goesL_ (some 36) rfl rfl Try.func86 (by kernel_rfl) rfl #[.pointer (some ⟨g, 0, none⟩), .int .i64 4] rfl ga ?_; (with_reducible refine (spec_l1Below.calls g s0_0 t343 t344 4 t345 t346 t347 w0 _ ?side1 ?side2 A11.out).mono ?_); (case side1 => exact IsS133.q0 HI0.out); (case side2 => exact bq1 HB.out (IsS133.ge HI0.out)); rintro e w16 ⟨rfl, hi, hb, hk⟩; refine ⟨_, rfl, ?_⟩; have n_ := ak4 (Kd.R_mono (Kd.R_keep (IsS133.apart (show IsS133 w0 _ g s0_0 t343 t344 from IsS133.q0 HI0.out) (kqR HO_3.out) (by decide)) hk (fun _ h => h.2)) (fun _ h => h.1)) (KeepBut.trans (kp0 HK.out) hk (.inl rfl)) hb hi; clear HO_3 HK HB HI0; obtain ⟨HO_3, HK, HB, HI0⟩ := n_; (try clear hb hk hi); obtain ⟨Ao17, co17, eo17⟩ := Kd.R_slice HO_3.out; subst eo17) | ((with_reducible refine gate_callee (f := 20) rfl ?_); refine goesL_ (some 37) rfl rfl Try.func20 (by kernel_rfl) rfl #[.slice Ao17 x3_1.length co17, .int .i64 (wrap64 (1 + t339)), .int .i64 t342, .int .i64 t345] rfl ga ?_; (with_reducible refine (spec_SetStatic.calls k1 _ _ x3_1 (wrap64 (1 + t339)) t342 t345 t348 t349 _ ?side1 ?side2 A12.out).mono ?_); (case side1 => repeat (first | exact (Kd.R_reads' HO_3.out).2.2 | (with_reducible refine Kd.C_alloc ?_ _) | (with_reducible refine Kd.C_drewN ?_ _) | (with_reducible refine Kd.C_drew ?_))); (case side2 => exact (Kd.R_reads' HO_3.out).2.1); rintro e w18 ⟨v350, rfl, ho0, hb⟩; refine ⟨_, rfl, ?_⟩; have n_ := ak5 (Kd.R_elder' (kqR HO_3.out) (Kd.R_base ho0) hb) (Kd.R_lower (Kd.R_new' ho0 (Kd.R_lt (kqR HO_3.out))) (keep_size (w := w) (g := g) (row := none) (kp0 HK.out))) (IsS133.below (IsS133.q0 HI0.out) hb) (KeepBut.trans (kp0 HK.out) (KeepBut.of_below hb g none) (.inl rfl)) (below_step (bq1 HB.out (IsS133.ge HI0.out)) hb); clear HO_3 HI0 HK HB; obtain ⟨HO_3, HO351, HI0, HK, HB⟩ := n_; (try clear hb ho0)))
       go_roundg k1
       case measure => have := HK1.out; omega
       case rel => exact ⟨(t348), (wrap64 (x4_1 - 1)), (t346), (t347), sq, H', ⟨by have := HK1.out; omega⟩, ⟨by (with_reducible repeat (first | apply Kd.R_alloc | apply Kd.R_drewN | apply Kd.R_drew)); exact Kd.R_mono HO351.out (fun _ hk => trivial)⟩, ⟨IsS133.q0 HI0.out⟩, ⟨kp0 HK.out⟩, ⟨bq1 HB.out (IsS133.ge HI0.out)⟩⟩
     rw [if_neg c8] at H
     have c8b0 : (t336 == 0) = false := beq_eq_false_iff_ne.mpr c8
     have c8b1 : (t336 != 0) = true := bne_iff_ne.mpr c8
     by_cases c19 : t336 = 1
     · rw [if_pos c19] at H
       have c19b0 : (t336 == 1) = true := beq_iff_eq.mpr c19
       have c19b1 : (t336 != 1) = false := bne_eq_false_iff_eq.mpr c19
       clear c19
       replace H := Option.bind_eq_some_iff.mp H
       obtain ⟨t352, A200, H⟩ := H
       replace H : (spec_l8Draw.l0 k1 t352 (wrap64 (x4_1 - 1)) s0_0 t337 t338) = some (r1, r2, r3) := H
       have A20 := am A200
       clear A200
       have H' := am H
       clear H
       go_wp2_with (first | ((with_reducible refine gate_callee (f := 86) rfl ?_); refine goesL_ (some 13) rfl rfl Try.func86 (by kernel_rfl) rfl #[.pointer (some ⟨g, 0, none⟩), .int .i64 6] rfl ga ?_; (with_reducible refine (spec_l1Below.calls g s0_0 x1001_1 x1002_1 6 t336 t337 t338 w0 _ ?side1 ?side2 A7.out).mono ?_); (case side1 => exact IsS133.q0 HI0.out); (case side2 => exact bq1 HB.out (IsS133.ge HI0.out)); rintro e w21 ⟨rfl, hi, hb, hk⟩; refine ⟨_, rfl, ?_⟩; have n_ := ak4 (Kd.R_mono (Kd.R_keep (IsS133.apart (show IsS133 w0 _ g s0_0 x1001_1 x1002_1 from IsS133.q0 HI0.out) (kqR HO_3.out) (by decide)) hk (fun _ h => h.2)) (fun _ h => h.1)) (KeepBut.trans (kp0 HK.out) hk (.inl rfl)) hb hi; clear HO_3 HK HB HI0; obtain ⟨HO_3, HK, HB, HI0⟩ := n_; (try clear hb hk hi); obtain ⟨Ao22, co22, eo22⟩ := Kd.R_slice HO_3.out; subst eo22) | ((with_reducible refine gate_callee (f := 40) rfl ?_); refine goesL_ (some 43) rfl rfl Try.func40 (by kernel_rfl) rfl #[.slice Ao22 x3_1.length co22] rfl ga ?_; (with_reducible refine (spec_AgeAll.calls k1 _ _ x3_1 t352 _ ?side1 ?side2 A20.out).mono ?_); (case side1 => repeat (first | exact (Kd.R_reads' HO_3.out).2.2 | (with_reducible refine Kd.C_alloc ?_ _) | (with_reducible refine Kd.C_drewN ?_ _) | (with_reducible refine Kd.C_drew ?_))); (case side2 => exact (Kd.R_reads' HO_3.out).2.1); rintro e w23 ⟨v353, rfl, ho0, hb⟩; refine ⟨_, rfl, ?_⟩; have n_ := ak5 (Kd.R_elder' (kqR HO_3.out) (Kd.R_base ho0) hb) (Kd.R_lower (Kd.R_new' ho0 (Kd.R_lt (kqR HO_3.out))) (keep_size (w := w) (g := g) (row := none) (kp0 HK.out))) (IsS133.below (IsS133.q0 HI0.out) hb) (KeepBut.trans (kp0 HK.out) (KeepBut.of_below hb g none) (.inl rfl)) (below_step (bq1 HB.out (IsS133.ge HI0.out)) hb); clear HO_3 HI0 HK HB; obtain ⟨HO_3, HO354, HI0, HK, HB⟩ := n_; (try clear hb ho0)))
       go_roundg k1
       case measure => have := HK1.out; omega
       case rel => exact ⟨(t352), (wrap64 (x4_1 - 1)), (t337), (t338), sq, H', ⟨by have := HK1.out; omega⟩, ⟨by (with_reducible repeat (first | apply Kd.R_alloc | apply Kd.R_drewN | apply Kd.R_drew)); exact Kd.R_mono HO354.out (fun _ hk => trivial)⟩, ⟨IsS133.q0 HI0.out⟩, ⟨kp0 HK.out⟩, ⟨bq1 HB.out (IsS133.ge HI0.out)⟩⟩
     rw [if_neg c19] at H
     have c19b0 : (t336 == 1) = false := beq_eq_false_iff_ne.mpr c19
     have c19b1 : (t336 != 1) = true := bne_iff_ne.mpr c19
     replace H := Option.bind_eq_some_iff.mp H
     obtain ⟨⟨t355, t356, t357⟩, A240, H⟩ := H
     replace H : ((spec_l6Mac.f s0_0 t356 t357).bind fun bt358 => ((spec_l1Below.f s0_0 bt358.2.1 bt358.2.2 3).bind fun bt361 => ((spec_l1Below.f s0_0 bt361.2.1 bt361.2.2 4).bind fun bt364 => ((spec_Learn.f k1 x3_1 (wrap64 (1 + t355)) (wrap64 (bt358.1 + bt361.1)) bt364.1).bind fun t367 => (spec_l8Draw.l0 k1 t367 (wrap64 (x4_1 - 1)) s0_0 bt364.2.1 bt364.2.2))))) = some (r1, r2, r3) := H
     have A24 := am A240
     clear A240
     replace H := Option.bind_eq_some_iff.mp H
     obtain ⟨⟨t358, t359, t360⟩, A250, H⟩ := H
     replace H : ((spec_l1Below.f s0_0 t359 t360 3).bind fun bt361 => ((spec_l1Below.f s0_0 bt361.2.1 bt361.2.2 4).bind fun bt364 => ((spec_Learn.f k1 x3_1 (wrap64 (1 + t355)) (wrap64 (t358 + bt361.1)) bt364.1).bind fun t367 => (spec_l8Draw.l0 k1 t367 (wrap64 (x4_1 - 1)) s0_0 bt364.2.1 bt364.2.2)))) = some (r1, r2, r3) := H
     have A25 := am A250
     clear A250
     replace H := Option.bind_eq_some_iff.mp H
     obtain ⟨⟨t361, t362, t363⟩, A260, H⟩ := H
     replace H : ((spec_l1Below.f s0_0 t362 t363 4).bind fun bt364 => ((spec_Learn.f k1 x3_1 (wrap64 (1 + t355)) (wrap64 (t358 + t361)) bt364.1).bind fun t367 => (spec_l8Draw.l0 k1 t367 (wrap64 (x4_1 - 1)) s0_0 bt364.2.1 bt364.2.2))) = some (r1, r2, r3) := H
     have A26 := am A260
     clear A260
     replace H := Option.bind_eq_some_iff.mp H
     obtain ⟨⟨t364, t365, t366⟩, A270, H⟩ := H
     replace H : ((spec_Learn.f k1 x3_1 (wrap64 (1 + t355)) (wrap64 (t358 + t361)) t364).bind fun t367 => (spec_l8Draw.l0 k1 t367 (wrap64 (x4_1 - 1)) s0_0 t365 t366)) = some (r1, r2, r3) := H
     have A27 := am A270
     clear A270
     replace H := Option.bind_eq_some_iff.mp H
     obtain ⟨t367, A280, H⟩ := H
     replace H : (spec_l8Draw.l0 k1 t367 (wrap64 (x4_1 - 1)) s0_0 t365 t366) = some (r1, r2, r3) := H
     have A28 := am A280
     clear A280
     have H' := am H
     clear H
     go_wp2_with (first | ((with_reducible refine gate_callee (f := 86) rfl ?_); refine goesL_ (some 13) rfl rfl Try.func86 (by kernel_rfl) rfl #[.pointer (some ⟨g, 0, none⟩), .int .i64 6] rfl ga ?_; (with_reducible refine (spec_l1Below.calls g s0_0 x1001_1 x1002_1 6 t336 t337 t338 w0 _ ?side1 ?side2 A7.out).mono ?_); (case side1 => exact IsS133.q0 HI0.out); (case side2 => exact bq1 HB.out (IsS133.ge HI0.out)); rintro e w29 ⟨rfl, hi, hb, hk⟩; refine ⟨_, rfl, ?_⟩; have n_ := ak4 (Kd.R_mono (Kd.R_keep (IsS133.apart (show IsS133 w0 _ g s0_0 x1001_1 x1002_1 from IsS133.q0 HI0.out) (kqR HO_3.out) (by decide)) hk (fun _ h => h.2)) (fun _ h => h.1)) (KeepBut.trans (kp0 HK.out) hk (.inl rfl)) hb hi; clear HO_3 HK HB HI0; obtain ⟨HO_3, HK, HB, HI0⟩ := n_; (try clear hb hk hi)) | ((with_reducible refine gate_callee (f := 86) rfl ?_); refine goesL_ (some 16) rfl rfl Try.func86 (by kernel_rfl) rfl #[.pointer (some ⟨g, 0, none⟩), .int .i64 3] rfl ga ?_; (with_reducible refine (spec_l1Below.calls g s0_0 t337 t338 3 t355 t356 t357 w0 _ ?side1 ?side2 A24.out).mono ?_); (case side1 => exact IsS133.q0 HI0.out); (case side2 => exact bq1 HB.out (IsS133.ge HI0.out)); rintro e w30 ⟨rfl, hi, hb, hk⟩; refine ⟨_, rfl, ?_⟩; have n_ := ak4 (Kd.R_mono (Kd.R_keep (IsS133.apart (show IsS133 w0 _ g s0_0 t337 t338 from IsS133.q0 HI0.out) (kqR HO_3.out) (by decide)) hk (fun _ h => h.2)) (fun _ h => h.1)) (KeepBut.trans (kp0 HK.out) hk (.inl rfl)) hb hi; clear HO_3 HK HB HI0; obtain ⟨HO_3, HK, HB, HI0⟩ := n_; (try clear hb hk hi)) | ((with_reducible refine gate_callee (f := 87) rfl ?_); refine goesL_ (some 19) rfl rfl Try.func87 (by kernel_rfl) rfl #[.pointer (some ⟨g, 0, none⟩)] rfl ga ?_; (with_reducible refine (spec_l6Mac.calls g s0_0 t356 t357 t358 t359 t360 w0 _ ?side1 ?side2 A25.out).mono ?_); (case side1 => exact IsS133.q0 HI0.out); (case side2 => exact bq1 HB.out (IsS133.ge HI0.out)); rintro e w31 ⟨rfl, hi, hb, hk⟩; refine ⟨_, rfl, ?_⟩; have n_ := ak4 (Kd.R_mono (Kd.R_keep (IsS133.apart (show IsS133 w0 _ g s0_0 t356 t357 from IsS133.q0 HI0.out) (kqR HO_3.out) (by decide)) hk (fun _ h => h.2)) (fun _ h => h.1)) (KeepBut.trans (kp0 HK.out) hk (.inl rfl)) hb hi; clear HO_3 HK HB HI0; obtain ⟨HO_3, HK, HB, HI0⟩ := n_; (try clear hb hk hi)) | ((with_reducible refine gate_callee (f := 86) rfl ?_); refine goesL_ (some 21) rfl rfl Try.func86 (by kernel_rfl) rfl #[.pointer (some ⟨g, 0, none⟩), .int .i64 3] rfl ga ?_; (with_reducible refine (spec_l1Below.calls g s0_0 t359 t360 3 t361 t362 t363 w0 _ ?side1 ?side2 A26.out).mono ?_); (case side1 => exact IsS133.q0 HI0.out); (case side2 => exact bq1 HB.out (IsS133.ge HI0.out)); rintro e w32 ⟨rfl, hi, hb, hk⟩; refine ⟨_, rfl, ?_⟩; have n_ := ak4 (Kd.R_mono (Kd.R_keep (IsS133.apart (show IsS133 w0 _ g s0_0 t359 t360 from IsS133.q0 HI0.out) (kqR HO_3.out) (by decide)) hk (fun _ h => h.2)) (fun _ h => h.1)) (KeepBut.trans (kp0 HK.out) hk (.inl rfl)) hb hi; clear HO_3 HK HB HI0; obtain ⟨HO_3, HK, HB, HI0⟩ := n_; (try clear hb hk hi)) | ((with_reducible refine gate_callee (f := 86) rfl ?_); refine goesL_ (some 24) rfl rfl Try.func86 (by kernel_rfl) rfl #[.pointer (some ⟨g, 0, none⟩), .int .i64 4] rfl ga ?_; (with_reducible refine (spec_l1Below.calls g s0_0 t362 t363 4 t364 t365 t366 w0 _ ?side1 ?side2 A27.out).mono ?_); (case side1 => exact IsS133.q0 HI0.out); (case side2 => exact bq1 HB.out (IsS133.ge HI0.out)); rintro e w33 ⟨rfl, hi, hb, hk⟩; refine ⟨_, rfl, ?_⟩; have n_ := ak4 (Kd.R_mono (Kd.R_keep (IsS133.apart (show IsS133 w0 _ g s0_0 t362 t363 from IsS133.q0 HI0.out) (kqR HO_3.out) (by decide)) hk (fun _ h => h.2)) (fun _ h => h.1)) (KeepBut.trans (kp0 HK.out) hk (.inl rfl)) hb hi; clear HO_3 HK HB HI0; obtain ⟨HO_3, HK, HB, HI0⟩ := n_; (try clear hb hk hi); obtain ⟨Ao34, co34, eo34⟩ := Kd.R_slice HO_3.out; subst eo34) | ((with_reducible refine gate_callee (f := 32) rfl ?_); refine goesL_ (some 25) rfl rfl Try.func32 (by kernel_rfl) rfl #[.slice Ao34 x3_1.length co34, .int .i64 (wrap64 (1 + t355)), .int .i64 (wrap64 (t358 + t361)), .int .i64 t364] rfl ga ?_; (with_reducible refine (spec_Learn.calls k1 _ _ x3_1 (wrap64 (1 + t355)) (wrap64 (t358 + t361)) t364 t367 _ ?side1 ?side2 A28.out).mono ?_); (case side1 => repeat (first | exact (Kd.R_reads' HO_3.out).2.2 | (with_reducible refine Kd.C_alloc ?_ _) | (with_reducible refine Kd.C_drewN ?_ _) | (with_reducible refine Kd.C_drew ?_))); (case side2 => exact (Kd.R_reads' HO_3.out).2.1); rintro e w35 ⟨v368, rfl, ho0, hb⟩; refine ⟨_, rfl, ?_⟩; have n_ := ak5 (Kd.R_elder' (kqR HO_3.out) (Kd.R_base ho0) hb) (Kd.R_lower (Kd.R_new' ho0 (Kd.R_lt (kqR HO_3.out))) (keep_size (w := w) (g := g) (row := none) (kp0 HK.out))) (IsS133.below (IsS133.q0 HI0.out) hb) (KeepBut.trans (kp0 HK.out) (KeepBut.of_below hb g none) (.inl rfl)) (below_step (bq1 HB.out (IsS133.ge HI0.out)) hb); clear HO_3 HI0 HK HB; obtain ⟨HO_3, HO369, HI0, HK, HB⟩ := n_; (try clear hb ho0)))
     go_roundg k1
     case measure => have := HK1.out; omega
     case rel => exact ⟨(t367), (wrap64 (x4_1 - 1)), (t365), (t366), sq, H', ⟨by have := HK1.out; omega⟩, ⟨by (with_reducible repeat (first | apply Kd.R_alloc | apply Kd.R_drewN | apply Kd.R_drew)); exact Kd.R_mono HO369.out (fun _ hk => trivial)⟩, ⟨IsS133.q0 HI0.out⟩, ⟨kp0 HK.out⟩, ⟨bq1 HB.out (IsS133.ge HI0.out)⟩⟩
   rw [if_neg c6] at H
   have c6b0 : decide (0 < x4_1) = false := decide_eq_false c6
   clear c6
   simp only [Option.some.injEq, Prod.mk.injEq] at H
   obtain ⟨rfl, rfl, rfl⟩ := H
   go_wp2
   go_ret
   exact ⟨_, rq, kqR HO_3.out, IsS133.q0 HI0.out, bq1 HB.out (IsS133.ge HI0.out), kp0 HK.out⟩

/-! ### spec_l8Any: function 109 -/
def spec_l8Any.l0 : Nat → List (S44) → Int → List Int → Int → Int → Option ((List (S44)) × Int × Int)
 | 0, _, _, _, _, _ => none
 | k + 1, x3, x4, x1000, x1001, x1002 => (spec_l1Below.f x1000 x1001 x1002 3).bind fun bt405 => (if x4 < (wrap64 (11 + bt405.1)) then (if x3.length < 3518437208883 then (spec_l8Any.l0 k (x3 ++ [(⟨50, wrap64 (100 + x4), 1, 0, false⟩ : S44)]) (wrap64 (x4 + 1)) x1000 bt405.2.1 bt405.2.2) else (none)) else (some (x3, bt405.2.1, bt405.2.2)))
def spec_l8Any.f (k : Nat) (s0_0 : List Int) (s0_1 : Int) (s0_2 : Int) : Option ((List (S44)) × Int × Int) := (spec_l8Draw.f k s0_0 s0_1 s0_2).bind fun bt370 => ((spec_l1Below.f s0_0 bt370.2.1 bt370.2.2 12).bind fun bt375 => (if bt375.1 = 0 then ((spec_l1Int.f s0_0 bt375.2.1 bt375.2.2 (([0, 1, 99, 100] : List Int))).bind fun bt381 => ((spec_l1Int.f s0_0 bt381.2.1 bt381.2.2 (([0, 1, 9999] : List Int))).bind fun bt387 => ((spec_l1Int.f s0_0 bt387.2.1 bt387.2.2 (([(-1), 7, 8] : List Int))).bind fun bt393 => ((spec_l1Int.f s0_0 bt393.2.1 bt393.2.2 (([(-1), 4, 5] : List Int))).bind fun bt399 => (if bt370.1.length < 3518437208883 then (some ((bt370.1 ++ [(⟨bt381.1, bt387.1, bt393.1, bt399.1, false⟩ : S44)]), bt399.2.1, bt399.2.2)) else (none)))))) else (if bt375.1 = 1 then (spec_l8Any.l0 k bt370.1 0 s0_0 bt375.2.1 bt375.2.2) else (some (bt370.1, bt375.2.1, bt375.2.2)))))
theorem spec_l8Any.mono_l : ∀ k, (∀ y0 y1 y2 y3 y4, LeO (spec_l8Any.l0 k y0 y1 y2 y3 y4) (spec_l8Any.l0 (k + 1) y0 y1 y2 y3 y4))
 | 0 => fun _ _ _ _ _ r h => by simp [spec_l8Any.l0] at h
 | k + 1 => by
  have ih0 := spec_l8Any.mono_l k
  intro y0 y1 y2 y3 y4
  unfold spec_l8Any.l0
  repeat' first
  | (with_reducible exact ih0 _ _ _ _ _)
  | (with_reducible exact spec_l8Draw.mono _ _ _ _)
  | (with_reducible exact LeO.refl _)
  | (with_reducible exact LeO.none _)
  | (with_reducible refine LeO.ite ?_ ?_)
  | (with_reducible refine LeO.bind ?_ (fun _ => ?_))
  | exact ih0 _ _ _ _ _
  | exact spec_l8Draw.mono _ _ _ _
  | exact LeO.none _
  | refine LeO.ite ?_ ?_
  | refine LeO.bind ?_ (fun _ => ?_)
theorem spec_l8Any.mono : ∀ a0 a1 a2 k, LeO (spec_l8Any.f k a0 a1 a2) (spec_l8Any.f (k + 1) a0 a1 a2) := by
 intro a0 a1 a2 k
 have ih0 := spec_l8Any.mono_l k
 unfold spec_l8Any.f
 repeat' first
  | (with_reducible exact ih0 _ _ _ _ _)
  | (with_reducible exact spec_l8Draw.mono _ _ _ _)
  | (with_reducible exact LeO.refl _)
  | (with_reducible exact LeO.none _)
  | (with_reducible refine LeO.ite ?_ ?_)
  | (with_reducible refine LeO.bind ?_ (fun _ => ?_))
  | exact ih0 _ _ _ _ _
  | exact spec_l8Draw.mono _ _ _ _
  | exact LeO.none _
  | refine LeO.ite ?_ ?_
  | refine LeO.bind ?_ (fun _ => ?_)
set_option maxHeartbeats 8000000 in
set_option maxRecDepth 100000 in
theorem spec_l8Any.calls (k : Nat) (g : Nat) (s0_0 : List Int) (s0_1 : Int) (s0_2 : Int) (r1 : List (S44)) (r2 : Int) (r3 : Int) (w0 w : World) (hI : IsS133 w0 w g s0_0 s0_1 s0_2) (hB : Below w0.heap.size w0 w) (h : spec_l8Any.f k s0_0 s0_1 s0_2 = some (r1, r2, r3)) :
 Calls Try.prog 109 #[.pointer (some ⟨g, 0, none⟩)] w fun e w' => ∃ v0_ : Value, e = .returned (v0_) ∧ Kd.R k44 44 w' w.heap.size (fun _ => True) v0_ r1 ∧ IsS133 w0 w' g s0_0 r2 r3 ∧ Below w0.heap.size w0 w' ∧ KeepBut w w' g none := by
 have hu44 := Try.underlying44
 have HI0 := am hI
 have HK := am (KeepBut.refl w g none)
 have HL := am hB.size
 clear hI
 have HW0 := am hB.size
 have HB := am hB
 clear hB
 have H : ((spec_l8Draw.f k s0_0 s0_1 s0_2).bind fun bt370 => ((spec_l1Below.f s0_0 bt370.2.1 bt370.2.2 12).bind fun bt375 => (if bt375.1 = 0 then ((spec_l1Int.f s0_0 bt375.2.1 bt375.2.2 (([0, 1, 99, 100] : List Int))).bind fun bt381 => ((spec_l1Int.f s0_0 bt381.2.1 bt381.2.2 (([0, 1, 9999] : List Int))).bind fun bt387 => ((spec_l1Int.f s0_0 bt387.2.1 bt387.2.2 (([(-1), 7, 8] : List Int))).bind fun bt393 => ((spec_l1Int.f s0_0 bt393.2.1 bt393.2.2 (([(-1), 4, 5] : List Int))).bind fun bt399 => (if bt370.1.length < 3518437208883 then (some ((bt370.1 ++ [(⟨bt381.1, bt387.1, bt393.1, bt399.1, false⟩ : S44)]), bt399.2.1, bt399.2.2)) else (none)))))) else (if bt375.1 = 1 then (spec_l8Any.l0 k bt370.1 0 s0_0 bt375.2.1 bt375.2.2) else (some (bt370.1, bt375.2.1, bt375.2.2)))))) = some (r1, r2, r3) := h
 clear h
 replace H := Option.bind_eq_some_iff.mp H
 obtain ⟨⟨t370, t373, t374⟩, A20, H⟩ := H
 replace H : ((spec_l1Below.f s0_0 t373 t374 12).bind fun bt375 => (if bt375.1 = 0 then ((spec_l1Int.f s0_0 bt375.2.1 bt375.2.2 (([0, 1, 99, 100] : List Int))).bind fun bt381 => ((spec_l1Int.f s0_0 bt381.2.1 bt381.2.2 (([0, 1, 9999] : List Int))).bind fun bt387 => ((spec_l1Int.f s0_0 bt387.2.1 bt387.2.2 (([(-1), 7, 8] : List Int))).bind fun bt393 => ((spec_l1Int.f s0_0 bt393.2.1 bt393.2.2 (([(-1), 4, 5] : List Int))).bind fun bt399 => (if t370.length < 3518437208883 then (some ((t370 ++ [(⟨bt381.1, bt387.1, bt393.1, bt399.1, false⟩ : S44)]), bt399.2.1, bt399.2.2)) else (none)))))) else (if bt375.1 = 1 then (spec_l8Any.l0 k t370 0 s0_0 bt375.2.1 bt375.2.2) else (some (t370, bt375.2.1, bt375.2.2))))) = some (r1, r2, r3) := H
 have A2 := am A20
 clear A20
 replace H := Option.bind_eq_some_iff.mp H
 obtain ⟨⟨t375, t376, t377⟩, A30, H⟩ := H
 replace H : (if t375 = 0 then ((spec_l1Int.f s0_0 t376 t377 (([0, 1, 99, 100] : List Int))).bind fun bt381 => ((spec_l1Int.f s0_0 bt381.2.1 bt381.2.2 (([0, 1, 9999] : List Int))).bind fun bt387 => ((spec_l1Int.f s0_0 bt387.2.1 bt387.2.2 (([(-1), 7, 8] : List Int))).bind fun bt393 => ((spec_l1Int.f s0_0 bt393.2.1 bt393.2.2 (([(-1), 4, 5] : List Int))).bind fun bt399 => (if t370.length < 3518437208883 then (some ((t370 ++ [(⟨bt381.1, bt387.1, bt393.1, bt399.1, false⟩ : S44)]), bt399.2.1, bt399.2.2)) else (none)))))) else (if t375 = 1 then (spec_l8Any.l0 k t370 0 s0_0 t376 t377) else (some (t370, t376, t377)))) = some (r1, r2, r3) := H
 have A3 := am A30
 clear A30
 by_cases c4 : t375 = 0
 · rw [if_pos c4] at H
   have c4b0 : (t375 == 0) = true := beq_iff_eq.mpr c4
   have c4b1 : (t375 != 0) = false := bne_eq_false_iff_eq.mpr c4
   clear c4
   obtain ⟨y378, hy378⟩ : ∃ y_ : List Int, y_ = (([0, 1, 99, 100] : List Int)) := ⟨_, rfl⟩
   replace H : ((spec_l1Int.f s0_0 t376 t377 y378).bind fun bt381 => ((spec_l1Int.f s0_0 bt381.2.1 bt381.2.2 (([0, 1, 9999] : List Int))).bind fun bt387 => ((spec_l1Int.f s0_0 bt387.2.1 bt387.2.2 (([(-1), 7, 8] : List Int))).bind fun bt393 => ((spec_l1Int.f s0_0 bt393.2.1 bt393.2.2 (([(-1), 4, 5] : List Int))).bind fun bt399 => (if t370.length < 3518437208883 then (some ((t370 ++ [(⟨bt381.1, bt387.1, bt393.1, bt399.1, false⟩ : S44)]), bt399.2.1, bt399.2.2)) else (none)))))) = some (r1, r2, r3) := by first | (rw [hy378]; with_reducible exact H) | (have H2_ := (Option.bind_some _ _).symm.trans H; rw [hy378]; with_reducible exact H2_) | (have H2_ := (Option.bind_some _ _).symm.trans H; with_reducible exact H2_) | with_reducible exact H | (rw [hy378]; exact H) | exact H
   have Ny378 := am hy378
   clear hy378
   replace H := Option.bind_eq_some_iff.mp H
   obtain ⟨⟨t381, t382, t383⟩, A50, H⟩ := H
   replace H : ((spec_l1Int.f s0_0 t382 t383 (([0, 1, 9999] : List Int))).bind fun bt387 => ((spec_l1Int.f s0_0 bt387.2.1 bt387.2.2 (([(-1), 7, 8] : List Int))).bind fun bt393 => ((spec_l1Int.f s0_0 bt393.2.1 bt393.2.2 (([(-1), 4, 5] : List Int))).bind fun bt399 => (if t370.length < 3518437208883 then (some ((t370 ++ [(⟨t381, bt387.1, bt393.1, bt399.1, false⟩ : S44)]), bt399.2.1, bt399.2.2)) else (none))))) = some (r1, r2, r3) := H
   have A5 := am A50
   clear A50
   obtain ⟨y384, hy384⟩ : ∃ y_ : List Int, y_ = (([0, 1, 9999] : List Int)) := ⟨_, rfl⟩
   replace H : ((spec_l1Int.f s0_0 t382 t383 y384).bind fun bt387 => ((spec_l1Int.f s0_0 bt387.2.1 bt387.2.2 (([(-1), 7, 8] : List Int))).bind fun bt393 => ((spec_l1Int.f s0_0 bt393.2.1 bt393.2.2 (([(-1), 4, 5] : List Int))).bind fun bt399 => (if t370.length < 3518437208883 then (some ((t370 ++ [(⟨t381, bt387.1, bt393.1, bt399.1, false⟩ : S44)]), bt399.2.1, bt399.2.2)) else (none))))) = some (r1, r2, r3) := by first | (rw [hy384]; with_reducible exact H) | (have H2_ := (Option.bind_some _ _).symm.trans H; rw [hy384]; with_reducible exact H2_) | (have H2_ := (Option.bind_some _ _).symm.trans H; with_reducible exact H2_) | with_reducible exact H | (rw [hy384]; exact H) | exact H
   have Ny384 := am hy384
   clear hy384
   replace H := Option.bind_eq_some_iff.mp H
   obtain ⟨⟨t387, t388, t389⟩, A60, H⟩ := H
   replace H : ((spec_l1Int.f s0_0 t388 t389 (([(-1), 7, 8] : List Int))).bind fun bt393 => ((spec_l1Int.f s0_0 bt393.2.1 bt393.2.2 (([(-1), 4, 5] : List Int))).bind fun bt399 => (if t370.length < 3518437208883 then (some ((t370 ++ [(⟨t381, t387, bt393.1, bt399.1, false⟩ : S44)]), bt399.2.1, bt399.2.2)) else (none)))) = some (r1, r2, r3) := H
   have A6 := am A60
   clear A60
   obtain ⟨y390, hy390⟩ : ∃ y_ : List Int, y_ = (([(-1), 7, 8] : List Int)) := ⟨_, rfl⟩
   replace H : ((spec_l1Int.f s0_0 t388 t389 y390).bind fun bt393 => ((spec_l1Int.f s0_0 bt393.2.1 bt393.2.2 (([(-1), 4, 5] : List Int))).bind fun bt399 => (if t370.length < 3518437208883 then (some ((t370 ++ [(⟨t381, t387, bt393.1, bt399.1, false⟩ : S44)]), bt399.2.1, bt399.2.2)) else (none)))) = some (r1, r2, r3) := by first | (rw [hy390]; with_reducible exact H) | (have H2_ := (Option.bind_some _ _).symm.trans H; rw [hy390]; with_reducible exact H2_) | (have H2_ := (Option.bind_some _ _).symm.trans H; with_reducible exact H2_) | with_reducible exact H | (rw [hy390]; exact H) | exact H
   have Ny390 := am hy390
   clear hy390
   replace H := Option.bind_eq_some_iff.mp H
   obtain ⟨⟨t393, t394, t395⟩, A70, H⟩ := H
   replace H : ((spec_l1Int.f s0_0 t394 t395 (([(-1), 4, 5] : List Int))).bind fun bt399 => (if t370.length < 3518437208883 then (some ((t370 ++ [(⟨t381, t387, t393, bt399.1, false⟩ : S44)]), bt399.2.1, bt399.2.2)) else (none))) = some (r1, r2, r3) := H
   have A7 := am A70
   clear A70
   obtain ⟨y396, hy396⟩ : ∃ y_ : List Int, y_ = (([(-1), 4, 5] : List Int)) := ⟨_, rfl⟩
   replace H : ((spec_l1Int.f s0_0 t394 t395 y396).bind fun bt399 => (if t370.length < 3518437208883 then (some ((t370 ++ [(⟨t381, t387, t393, bt399.1, false⟩ : S44)]), bt399.2.1, bt399.2.2)) else (none))) = some (r1, r2, r3) := by first | (rw [hy396]; with_reducible exact H) | (have H2_ := (Option.bind_some _ _).symm.trans H; rw [hy396]; with_reducible exact H2_) | (have H2_ := (Option.bind_some _ _).symm.trans H; with_reducible exact H2_) | with_reducible exact H | (rw [hy396]; exact H) | exact H
   have Ny396 := am hy396
   clear hy396
   replace H := Option.bind_eq_some_iff.mp H
   obtain ⟨⟨t399, t400, t401⟩, A80, H⟩ := H
   replace H : (if t370.length < 3518437208883 then (some ((t370 ++ [(⟨t381, t387, t393, t399, false⟩ : S44)]), t400, t401)) else (none)) = some (r1, r2, r3) := H
   have A8 := am A80
   clear A80
   by_cases c9 : t370.length < 3518437208883
   · rw [if_pos c9] at H
     have LMc9 := am c9
     clear c9
     obtain ⟨y402, hy402⟩ : ∃ y_ : List (S44), y_ = (t370 ++ [(⟨t381, t387, t393, t399, false⟩ : S44)]) := ⟨_, rfl⟩
     replace H : (some (y402, t400, t401)) = some (r1, r2, r3) := by first | (rw [hy402]; with_reducible exact H) | (have H2_ := (Option.bind_some _ _).symm.trans H; rw [hy402]; with_reducible exact H2_) | (have H2_ := (Option.bind_some _ _).symm.trans H; with_reducible exact H2_) | with_reducible exact H | (rw [hy402]; exact H) | exact H
     have Ny402 := am hy402
     clear hy402
     simp only [Option.some.injEq, Prod.mk.injEq] at H
     obtain ⟨rfl, rfl, rfl⟩ := H
     go_enter Try.func109, Try.ntmps109
     go_wp2_with (first | ((with_reducible refine gate_callee (f := 85) rfl ?_); refine goesL_ (some 6) rfl rfl Try.func85 (by kernel_rfl) rfl #[.pointer (some ⟨g, 0, none⟩)] rfl ga ?_; (with_reducible refine (spec_l8Draw.calls k g s0_0 s0_1 s0_2 t370 t373 t374 w0 _ ?side1 ?side2 A2.out).mono ?_); (case side1 => exact IsS133.q0 HI0.out); (case side2 => exact bq1 HB.out (IsS133.ge HI0.out)); rintro e w10 ⟨v371, rfl, ho0, hi, hb, hk⟩; refine ⟨_, rfl, ?_⟩; have n_ := ak4 (Kd.R_lower ho0 (keep_size (w := w) (g := g) (row := none) (kp0 HK.out))) (KeepBut.trans (kp0 HK.out) hk (.inl rfl)) hb hi; clear HK HB HI0; obtain ⟨HO372, HK, HB, HI0⟩ := n_; (try clear hb hk hi ho0)) | ((with_reducible refine gate_callee (f := 86) rfl ?_); refine goesL_ (some 8) rfl rfl Try.func86 (by kernel_rfl) rfl #[.pointer (some ⟨g, 0, none⟩), .int .i64 12] rfl ga ?_; (with_reducible refine (spec_l1Below.calls g s0_0 t373 t374 12 t375 t376 t377 w0 _ ?side1 ?side2 A3.out).mono ?_); (case side1 => exact IsS133.q0 HI0.out); (case side2 => exact bq1 HB.out (IsS133.ge HI0.out)); rintro e w11 ⟨rfl, hi, hb, hk⟩; refine ⟨_, rfl, ?_⟩; have n_ := ak4 (Kd.R_mono (Kd.R_keep (IsS133.apart (show IsS133 w0 _ g s0_0 t373 t374 from IsS133.q0 HI0.out) (kqR HO372.out) (by decide)) hk (fun _ h => h.2)) (fun _ h => h.1)) (KeepBut.trans (kp0 HK.out) hk (.inl rfl)) hb hi; clear HO372 HK HB HI0; obtain ⟨HO372, HK, HB, HI0⟩ := n_; (try clear hb hk hi)) | ((with_reducible refine gate_dst (N := 13) rfl ?_); refine Kd.R_lit (Kd.int .i64) _ 3 ?hg (N := 13) ?hd (xs := ([0, 1, 99, 100] : List Int)) (inner := [.int .i64 0, .int .i64 1, .int .i64 99, .int .i64 100]) (ok := fun _ => True) (okp := fun _ => True) ?hr ?hp (fun _ hk => hk) trivial (Below.refl _ _) (Nat.le_refl _) (by simp) ?_; (case hd => rfl); (case hg => rfl); (case hr => exact gs); (case hp => exact (Reps.one (show Kd.M (Kd.int .i64) _ _ _ 0 [.int .i64 0] from rfl) (Reps.one (show Kd.M (Kd.int .i64) _ _ _ 1 [.int .i64 1] from rfl) (Reps.one (show Kd.M (Kd.int .i64) _ _ _ 99 [.int .i64 99] from rfl) (Reps.one (show Kd.M (Kd.int .i64) _ _ _ 100 [.int .i64 100] from rfl) (Reps.none _ _)))))); intro v379 w12 ho13 hb hg_ hnew_; clear hg_ hnew_; (first | rw [← Ny378.out] at ho13 | (simp only [Int.reduceToNat] at ho13; rw [← Ny378.out] at ho13)); have n_ := ak5 (Kd.R_below (kqR HO372.out) hb) (Kd.R_lower ho13 (keep_size (w := w) (g := g) (row := none) (kp0 HK.out))) (IsS133.below (IsS133.q0 HI0.out) hb) (KeepBut.trans (kp0 HK.out) (KeepBut.of_below hb g none) (.inl rfl)) (below_step (bq1 HB.out (IsS133.ge HI0.out)) hb); clear HO372 HI0 HK HB; obtain ⟨HO372, HO380, HI0, HK, HB⟩ := n_; clear hb ho13; obtain ⟨Ao14, co14, eo14⟩ := Kd.R_slice HO380.out; subst eo14) | ((with_reducible refine gate_callee (f := 110) rfl ?_); refine goesL_ (some 14) rfl rfl Try.func110 (by kernel_rfl) rfl #[.pointer (some ⟨g, 0, none⟩), .slice Ao14 y378.length co14] rfl ga ?_; (with_reducible refine (spec_l1Int.calls g s0_0 t376 t377 _ _ y378 t381 t382 t383 w0 _ ?side1 ?side2 ?side3 ?side4 ?side5 A5.out).mono ?_); (case side1 => exact IsS133.q0 HI0.out); (case side2 => exact bq1 HB.out (IsS133.ge HI0.out)); (case side3 => repeat (first | exact (Kd.R_reads' HO380.out).2.2 | (with_reducible refine Kd.C_alloc ?_ _) | (with_reducible refine Kd.C_drewN ?_ _) | (with_reducible refine Kd.C_drew ?_))); (case side4 => exact (Kd.R_reads' HO380.out).2.1); (case side5 => exact far_slice (IsS133.own_ne HI0.out HO380.out (by decide))); rintro e w15 ⟨rfl, hi, hb, hk⟩; refine ⟨_, rfl, ?_⟩; have n_ := ak5 (Kd.R_mono (Kd.R_keep (IsS133.apart (show IsS133 w0 _ g s0_0 t376 t377 from IsS133.q0 HI0.out) (kqR HO372.out) (by decide)) hk (fun _ h => h.2)) (fun _ h => h.1)) (Kd.R_mono (Kd.R_keep (IsS133.apart (show IsS133 w0 _ g s0_0 t376 t377 from IsS133.q0 HI0.out) (kqR HO380.out) (by decide)) hk (fun _ h => h.2)) (fun _ h => h.1)) (KeepBut.trans (kp0 HK.out) hk (.inl rfl)) hb hi; clear HO372 HO380 HK HB HI0; obtain ⟨HO372, HO380, HK, HB, HI0⟩ := n_; (try clear hb hk hi)) | ((with_reducible refine gate_dst (N := 16) rfl ?_); refine Kd.R_lit (Kd.int .i64) _ 3 ?hg (N := 16) ?hd (xs := ([0, 1, 9999] : List Int)) (inner := [.int .i64 0, .int .i64 1, .int .i64 9999]) (ok := fun _ => True) (okp := fun _ => True) ?hr ?hp (fun _ hk => hk) trivial (Below.refl _ _) (Nat.le_refl _) (by simp) ?_; (case hd => rfl); (case hg => rfl); (case hr => exact gs); (case hp => exact (Reps.one (show Kd.M (Kd.int .i64) _ _ _ 0 [.int .i64 0] from rfl) (Reps.one (show Kd.M (Kd.int .i64) _ _ _ 1 [.int .i64 1] from rfl) (Reps.one (show Kd.M (Kd.int .i64) _ _ _ 9999 [.int .i64 9999] from rfl) (Reps.none _ _))))); intro v385 w16 ho17 hb hg_ hnew_; clear hg_ hnew_; (first | rw [← Ny384.out] at ho17 | (simp only [Int.reduceToNat] at ho17; rw [← Ny384.out] at ho17)); have n_ := ak6 (Kd.R_below (kqR HO372.out) hb) (Kd.R_elder' (kqR HO380.out) (Kd.R_base ho17) hb) (Kd.R_lower (Kd.R_new' ho17 (Kd.R_lt (kqR HO380.out))) (keep_size (w := w) (g := g) (row := none) (kp0 HK.out))) (IsS133.below (IsS133.q0 HI0.out) hb) (KeepBut.trans (kp0 HK.out) (KeepBut.of_below hb g none) (.inl rfl)) (below_step (bq1 HB.out (IsS133.ge HI0.out)) hb); clear HO372 HO380 HI0 HK HB; obtain ⟨HO372, HO380, HO386, HI0, HK, HB⟩ := n_; clear hb ho17; obtain ⟨Ao18, co18, eo18⟩ := Kd.R_slice HO386.out; subst eo18) | ((with_reducible refine gate_callee (f := 110) rfl ?_); refine goesL_ (some 17) rfl rfl Try.func110 (by kernel_rfl) rfl #[.pointer (some ⟨g, 0, none⟩), .slice Ao18 y384.length co18] rfl ga ?_; (with_reducible refine (spec_l1Int.calls g s0_0 t382 t383 _ _ y384 t387 t388 t389 w0 _ ?side1 ?side2 ?side3 ?side4 ?side5 A6.out).mono ?_); (case side1 => exact IsS133.q0 HI0.out); (case side2 => exact bq1 HB.out (IsS133.ge HI0.out)); (case side3 => repeat (first | exact (Kd.R_reads' HO386.out).2.2 | (with_reducible refine Kd.C_alloc ?_ _) | (with_reducible refine Kd.C_drewN ?_ _) | (with_reducible refine Kd.C_drew ?_))); (case side4 => exact (Kd.R_reads' HO386.out).2.1); (case side5 => exact far_slice (IsS133.own_ne HI0.out HO386.out (by decide))); rintro e w19 ⟨rfl, hi, hb, hk⟩; refine ⟨_, rfl, ?_⟩; have n_ := ak6 (Kd.R_mono (Kd.R_keep (IsS133.apart (show IsS133 w0 _ g s0_0 t382 t383 from IsS133.q0 HI0.out) (kqR HO372.out) (by decide)) hk (fun _ h => h.2)) (fun _ h => h.1)) (Kd.R_mono (Kd.R_keep (IsS133.apart (show IsS133 w0 _ g s0_0 t382 t383 from IsS133.q0 HI0.out) (kqR HO380.out) (by decide)) hk (fun _ h => h.2)) (fun _ h => h.1)) (Kd.R_mono (Kd.R_keep (IsS133.apart (show IsS133 w0 _ g s0_0 t382 t383 from IsS133.q0 HI0.out) (kqR HO386.out) (by decide)) hk (fun _ h => h.2)) (fun _ h => h.1)) (KeepBut.trans (kp0 HK.out) hk (.inl rfl)) hb hi; clear HO372 HO380 HO386 HK HB HI0; obtain ⟨HO372, HO380, HO386, HK, HB, HI0⟩ := n_; (try clear hb hk hi)) | ((with_reducible refine gate_dst (N := 19) rfl ?_); refine Kd.R_lit (Kd.int .i64) _ 3 ?hg (N := 19) ?hd (xs := ([(-1), 7, 8] : List Int)) (inner := [.int .i64 (-1), .int .i64 7, .int .i64 8]) (ok := fun _ => True) (okp := fun _ => True) ?hr ?hp (fun _ hk => hk) trivial (Below.refl _ _) (Nat.le_refl _) (by simp) ?_; (case hd => rfl); (case hg => rfl); (case hr => exact gs); (case hp => exact (Reps.one (show Kd.M (Kd.int .i64) _ _ _ (-1) [.int .i64 (-1)] from rfl) (Reps.one (show Kd.M (Kd.int .i64) _ _ _ 7 [.int .i64 7] from rfl) (Reps.one (show Kd.M (Kd.int .i64) _ _ _ 8 [.int .i64 8] from rfl) (Reps.none _ _))))); intro v391 w20 ho21 hb hg_ hnew_; clear hg_ hnew_; (first | rw [← Ny390.out] at ho21 | (simp only [Int.reduceToNat] at ho21; rw [← Ny390.out] at ho21)); have n_ := ak7 (Kd.R_below (kqR HO372.out) hb) (Kd.R_elder' (kqR HO380.out) (Kd.R_base ho21) hb) (Kd.R_elder' (kqR HO386.out) (Kd.R_base ho21) hb) (Kd.R_lower (Kd.R_new' (Kd.R_new' ho21 (Kd.R_lt (kqR HO380.out))) (Kd.R_lt (kqR HO386.out))) (keep_size (w := w) (g := g) (row := none) (kp0 HK.out))) (IsS133.below (IsS133.q0 HI0.out) hb) (KeepBut.trans (kp0 HK.out) (KeepBut.of_below hb g none) (.inl rfl)) (below_step (bq1 HB.out (IsS133.ge HI0.out)) hb); clear HO372 HO380 HO386 HI0 HK HB; obtain ⟨HO372, HO380, HO386, HO392, HI0, HK, HB⟩ := n_; clear hb ho21; obtain ⟨Ao22, co22, eo22⟩ := Kd.R_slice HO392.out; subst eo22) | ((with_reducible refine gate_callee (f := 110) rfl ?_); refine goesL_ (some 20) rfl rfl Try.func110 (by kernel_rfl) rfl #[.pointer (some ⟨g, 0, none⟩), .slice Ao22 y390.length co22] rfl ga ?_; (with_reducible refine (spec_l1Int.calls g s0_0 t388 t389 _ _ y390 t393 t394 t395 w0 _ ?side1 ?side2 ?side3 ?side4 ?side5 A7.out).mono ?_); (case side1 => exact IsS133.q0 HI0.out); (case side2 => exact bq1 HB.out (IsS133.ge HI0.out)); (case side3 => repeat (first | exact (Kd.R_reads' HO392.out).2.2 | (with_reducible refine Kd.C_alloc ?_ _) | (with_reducible refine Kd.C_drewN ?_ _) | (with_reducible refine Kd.C_drew ?_))); (case side4 => exact (Kd.R_reads' HO392.out).2.1); (case side5 => exact far_slice (IsS133.own_ne HI0.out HO392.out (by decide))); rintro e w23 ⟨rfl, hi, hb, hk⟩; refine ⟨_, rfl, ?_⟩; have n_ := ak7 (Kd.R_mono (Kd.R_keep (IsS133.apart (show IsS133 w0 _ g s0_0 t388 t389 from IsS133.q0 HI0.out) (kqR HO372.out) (by decide)) hk (fun _ h => h.2)) (fun _ h => h.1)) (Kd.R_mono (Kd.R_keep (IsS133.apart (show IsS133 w0 _ g s0_0 t388 t389 from IsS133.q0 HI0.out) (kqR HO380.out) (by decide)) hk (fun _ h => h.2)) (fun _ h => h.1)) (Kd.R_mono (Kd.R_keep (IsS133.apart (show IsS133 w0 _ g s0_0 t388 t389 from IsS133.q0 HI0.out) (kqR HO386.out) (by decide)) hk (fun _ h => h.2)) (fun _ h => h.1)) (Kd.R_mono (Kd.R_keep (IsS133.apart (show IsS133 w0 _ g s0_0 t388 t389 from IsS133.q0 HI0.out) (kqR HO392.out) (by decide)) hk (fun _ h => h.2)) (fun _ h => h.1)) (KeepBut.trans (kp0 HK.out) hk (.inl rfl)) hb hi; clear HO372 HO380 HO386 HO392 HK HB HI0; obtain ⟨HO372, HO380, HO386, HO392, HK, HB, HI0⟩ := n_; (try clear hb hk hi)) | ((with_reducible refine gate_dst (N := 22) rfl ?_); refine Kd.R_lit (Kd.int .i64) _ 3 ?hg (N := 22) ?hd (xs := ([(-1), 4, 5] : List Int)) (inner := [.int .i64 (-1), .int .i64 4, .int .i64 5]) (ok := fun _ => True) (okp := fun _ => True) ?hr ?hp (fun _ hk => hk) trivial (Below.refl _ _) (Nat.le_refl _) (by simp) ?_; (case hd => rfl); (case hg => rfl); (case hr => exact gs); (case hp => exact (Reps.one (show Kd.M (Kd.int .i64) _ _ _ (-1) [.int .i64 (-1)] from rfl) (Reps.one (show Kd.M (Kd.int .i64) _ _ _ 4 [.int .i64 4] from rfl) (Reps.one (show Kd.M (Kd.int .i64) _ _ _ 5 [.int .i64 5] from rfl) (Reps.none _ _))))); intro v397 w24 ho25 hb hg_ hnew_; clear hg_ hnew_; (first | rw [← Ny396.out] at ho25 | (simp only [Int.reduceToNat] at ho25; rw [← Ny396.out] at ho25)); have n_ := ak8 (Kd.R_below (kqR HO372.out) hb) (Kd.R_elder' (kqR HO380.out) (Kd.R_base ho25) hb) (Kd.R_elder' (kqR HO386.out) (Kd.R_base ho25) hb) (Kd.R_elder' (kqR HO392.out) (Kd.R_base ho25) hb) (Kd.R_lower (Kd.R_new' (Kd.R_new' (Kd.R_new' ho25 (Kd.R_lt (kqR HO380.out))) (Kd.R_lt (kqR HO386.out))) (Kd.R_lt (kqR HO392.out))) (keep_size (w := w) (g := g) (row := none) (kp0 HK.out))) (IsS133.below (IsS133.q0 HI0.out) hb) (KeepBut.trans (kp0 HK.out) (KeepBut.of_below hb g none) (.inl rfl)) (below_step (bq1 HB.out (IsS133.ge HI0.out)) hb); clear HO372 HO380 HO386 HO392 HI0 HK HB; obtain ⟨HO372, HO380, HO386, HO392, HO398, HI0, HK, HB⟩ := n_; clear hb ho25; obtain ⟨Ao26, co26, eo26⟩ := Kd.R_slice HO398.out; subst eo26) | ((with_reducible refine gate_callee (f := 110) rfl ?_); refine goesL_ (some 23) rfl rfl Try.func110 (by kernel_rfl) rfl #[.pointer (some ⟨g, 0, none⟩), .slice Ao26 y396.length co26] rfl ga ?_; (with_reducible refine (spec_l1Int.calls g s0_0 t394 t395 _ _ y396 t399 t400 t401 w0 _ ?side1 ?side2 ?side3 ?side4 ?side5 A8.out).mono ?_); (case side1 => exact IsS133.q0 HI0.out); (case side2 => exact bq1 HB.out (IsS133.ge HI0.out)); (case side3 => repeat (first | exact (Kd.R_reads' HO398.out).2.2 | (with_reducible refine Kd.C_alloc ?_ _) | (with_reducible refine Kd.C_drewN ?_ _) | (with_reducible refine Kd.C_drew ?_))); (case side4 => exact (Kd.R_reads' HO398.out).2.1); (case side5 => exact far_slice (IsS133.own_ne HI0.out HO398.out (by decide))); rintro e w27 ⟨rfl, hi, hb, hk⟩; refine ⟨_, rfl, ?_⟩; have n_ := ak8 (Kd.R_mono (Kd.R_keep (IsS133.apart (show IsS133 w0 _ g s0_0 t394 t395 from IsS133.q0 HI0.out) (kqR HO372.out) (by decide)) hk (fun _ h => h.2)) (fun _ h => h.1)) (Kd.R_mono (Kd.R_keep (IsS133.apart (show IsS133 w0 _ g s0_0 t394 t395 from IsS133.q0 HI0.out) (kqR HO380.out) (by decide)) hk (fun _ h => h.2)) (fun _ h => h.1)) (Kd.R_mono (Kd.R_keep (IsS133.apart (show IsS133 w0 _ g s0_0 t394 t395 from IsS133.q0 HI0.out) (kqR HO386.out) (by decide)) hk (fun _ h => h.2)) (fun _ h => h.1)) (Kd.R_mono (Kd.R_keep (IsS133.apart (show IsS133 w0 _ g s0_0 t394 t395 from IsS133.q0 HI0.out) (kqR HO392.out) (by decide)) hk (fun _ h => h.2)) (fun _ h => h.1)) (Kd.R_mono (Kd.R_keep (IsS133.apart (show IsS133 w0 _ g s0_0 t394 t395 from IsS133.q0 HI0.out) (kqR HO398.out) (by decide)) hk (fun _ h => h.2)) (fun _ h => h.1)) (KeepBut.trans (kp0 HK.out) hk (.inl rfl)) hb hi; clear HO372 HO380 HO386 HO392 HO398 HK HB HI0; obtain ⟨HO372, HO380, HO386, HO392, HO398, HK, HB, HI0⟩ := n_; (try clear hb hk hi)) | ((with_reducible refine gate_builtin (b := .append) (xs := #[.tmp 11, .tmp 25]) rfl ?_); at_builtin; refine Kd.R_append k44 w.heap.size rfl (.tmp 11) (.tmp 25) 30 44 (.agg #[(.int .i64 0), (.int .i64 0), (.int .i64 0), (.int .i64 0), (.bool false)]) 40 rfl Try.underlying30 info44 rfl (by decide) (by omega) v371 t370 (⟨t381, t387, t393, t399, false⟩ : S44) [.int .i64 t381, .int .i64 t387, .int .i64 t393, .int .i64 t399, .bool false] (fun _ => True) (fun _ => False) rfl rfl ?aP (fun _ hk => hk.elim) ?aF ?aO (Below.refl _ _) ?aS ?aL ?_; (case aP => exact k44_mkM _ _ _ (⟨t381, t387, t393, t399, false⟩ : S44)); (case aF => exact (fun _ _ => trivial)); (case aO => exact (kqR HO372.out)); (case aS => exact (keep_size (w := w) (g := g) (row := none) (kp0 HK.out))); (case aL => have := LMc9.out; omega); intro v403 w28 ho hb hg hat; rw [← Ny402.out] at ho; have n_ := ak8 (IsS133.grown (IsS133.q0 HI0.out) hg (IsS133.own_ne HI0.out HO372.out (by decide))) (Kd.R_over' (kqR HO380.out) (Kd.R_typed (kqR HO372.out)) (by decide) hg) (Kd.R_over' (kqR HO386.out) (Kd.R_typed (kqR HO372.out)) (by decide) hg) (Kd.R_over' (kqR HO392.out) (Kd.R_typed (kqR HO372.out)) (by decide) hg) (Kd.R_over' (kqR HO398.out) (Kd.R_typed (kqR HO372.out)) (by decide) hg) (below_weaken (bq1 HB.out (IsS133.ge HI0.out)) HL.out hb) (KeepBut.trans (kp0 HK.out) (KeepBut.of_grown hg g) (Kd.R_base2 HO372.out)) ho; clear HI0 HO380 HO386 HO392 HO398 HB HK HO372; obtain ⟨HI0, HO380, HO386, HO392, HO398, HB, HK, HO404⟩ := n_; clear ho hb hg hat))
     go_ret
     exact ⟨_, rq, kqR HO404.out, IsS133.q0 HI0.out, bq1 HB.out (IsS133.ge HI0.out), kp0 HK.out⟩
   rw [if_neg c9] at H
   exact absurd H (by simp)
 rw [if_neg c4] at H
 have c4b0 : (t375 == 0) = false := beq_eq_false_iff_ne.mpr c4
 have c4b1 : (t375 != 0) = true := bne_iff_ne.mpr c4
 by_cases c29 : t375 = 1
 · rw [if_pos c29] at H
   have c29b0 : (t375 == 1) = true := beq_iff_eq.mpr c29
   have c29b1 : (t375 != 1) = false := bne_eq_false_iff_eq.mpr c29
   clear c29
   have H' := am H
   clear H
   go_enter Try.func109, Try.ntmps109
   go_wp2_with (first | ((with_reducible refine gate_callee (f := 85) rfl ?_); refine goesL_ (some 6) rfl rfl Try.func85 (by kernel_rfl) rfl #[.pointer (some ⟨g, 0, none⟩)] rfl ga ?_; (with_reducible refine (spec_l8Draw.calls k g s0_0 s0_1 s0_2 t370 t373 t374 w0 _ ?side1 ?side2 A2.out).mono ?_); (case side1 => exact IsS133.q0 HI0.out); (case side2 => exact bq1 HB.out (IsS133.ge HI0.out)); rintro e w30 ⟨v371, rfl, ho0, hi, hb, hk⟩; refine ⟨_, rfl, ?_⟩; have n_ := ak4 (Kd.R_lower ho0 (keep_size (w := w) (g := g) (row := none) (kp0 HK.out))) (KeepBut.trans (kp0 HK.out) hk (.inl rfl)) hb hi; clear HK HB HI0; obtain ⟨HO372, HK, HB, HI0⟩ := n_; (try clear hb hk hi ho0)) | ((with_reducible refine gate_callee (f := 86) rfl ?_); refine goesL_ (some 8) rfl rfl Try.func86 (by kernel_rfl) rfl #[.pointer (some ⟨g, 0, none⟩), .int .i64 12] rfl ga ?_; (with_reducible refine (spec_l1Below.calls g s0_0 t373 t374 12 t375 t376 t377 w0 _ ?side1 ?side2 A3.out).mono ?_); (case side1 => exact IsS133.q0 HI0.out); (case side2 => exact bq1 HB.out (IsS133.ge HI0.out)); rintro e w31 ⟨rfl, hi, hb, hk⟩; refine ⟨_, rfl, ?_⟩; have n_ := ak4 (Kd.R_mono (Kd.R_keep (IsS133.apart (show IsS133 w0 _ g s0_0 t373 t374 from IsS133.q0 HI0.out) (kqR HO372.out) (by decide)) hk (fun _ h => h.2)) (fun _ h => h.1)) (KeepBut.trans (kp0 HK.out) hk (.inl rfl)) hb hi; clear HO372 HK HB HI0; obtain ⟨HO372, HK, HB, HI0⟩ := n_; (try clear hb hk hi)))
   go_loopg [3, 4] k (fun kq v3 v4 w' => ∃ (x3_1 : List (S44)) (x4_1 : Int) (x1001_1 : Int) (x1002_1 : Int), v4 = .int .i64 x4_1 ∧ Aside0 (spec_l8Any.l0 kq x3_1 x4_1 s0_0 x1001_1 x1002_1 = some (r1, r2, r3)) ∧ Aside0 (kq ≤ k) ∧ Aside0 (Kd.R k44 44 w' w.heap.size (fun _ => True) v3 x3_1) ∧ Aside0 (IsS133 w0 w' g s0_0 x1001_1 x1002_1) ∧ Aside0 (KeepBut w w' g none) ∧ Aside0 (Below w0.heap.size w0 w'))
   case atStart => exact ⟨(t370), (0), (t376), (t377), sq, H', ⟨Nat.le_refl _⟩, ⟨kqR HO372.out⟩, ⟨IsS133.q0 HI0.out⟩, ⟨kp0 HK.out⟩, ⟨bq1 HB.out (IsS133.ge HI0.out)⟩⟩
   case round =>
    clear H'
    try clear c1
    try clear c2
    try clear p2
    try clear c4
    try clear c4b0
    try clear c4b1
    try clear c8
    try clear c9
    try clear c10
    try clear c11
    try clear c29
    try clear c29b0
    try clear c29b1
    obtain ⟨x3_1, x4_1, x1001_1, x1002_1, rfl, HA, HK1, HO_3, HI0, HK, HB⟩ := hrel
    cases gk with
    | zero => exact absurd HA.out (by simp [spec_l8Any.l0])
    | succ k1 =>
     have H := HA.out
     clear HA
     simp only [spec_l8Any.l0] at H
     replace H := Option.bind_eq_some_iff.mp H
     obtain ⟨⟨t405, t406, t407⟩, A320, H⟩ := H
     replace H : (if x4_1 < (wrap64 (11 + t405)) then (if x3_1.length < 3518437208883 then (spec_l8Any.l0 k1 (x3_1 ++ [(⟨50, wrap64 (100 + x4_1), 1, 0, false⟩ : S44)]) (wrap64 (x4_1 + 1)) s0_0 t406 t407) else (none)) else (some (x3_1, t406, t407))) = some (r1, r2, r3) := H
     have A32 := am A320
     clear A320
     by_cases c33 : x4_1 < (wrap64 (11 + t405))
     · rw [if_pos c33] at H
       have c33b0 : decide (x4_1 < (wrap64 (11 + t405))) = true := decide_eq_true c33
       clear c33
       by_cases c34 : x3_1.length < 3518437208883
       · rw [if_pos c34] at H
         have LMc34 := am c34
         clear c34
         obtain ⟨y408, hy408⟩ : ∃ y_ : List (S44), y_ = (x3_1 ++ [(⟨50, wrap64 (100 + x4_1), 1, 0, false⟩ : S44)]) := ⟨_, rfl⟩
         replace H : (spec_l8Any.l0 k1 y408 (wrap64 (x4_1 + 1)) s0_0 t406 t407) = some (r1, r2, r3) := by first | (rw [hy408]; with_reducible exact H) | (have H2_ := (Option.bind_some _ _).symm.trans H; rw [hy408]; with_reducible exact H2_) | (have H2_ := (Option.bind_some _ _).symm.trans H; with_reducible exact H2_) | with_reducible exact H | (rw [hy408]; exact H) | exact H
         have Ny408 := am hy408
         clear hy408
         have H' := am H
         clear H
         go_wp2_with (first | ((with_reducible refine gate_callee (f := 86) rfl ?_); refine goesL_ (some 31) rfl rfl Try.func86 (by kernel_rfl) rfl #[.pointer (some ⟨g, 0, none⟩), .int .i64 3] rfl ga ?_; (with_reducible refine (spec_l1Below.calls g s0_0 x1001_1 x1002_1 3 t405 t406 t407 w0 _ ?side1 ?side2 A32.out).mono ?_); (case side1 => exact IsS133.q0 HI0.out); (case side2 => exact bq1 HB.out (IsS133.ge HI0.out)); rintro e w35 ⟨rfl, hi, hb, hk⟩; refine ⟨_, rfl, ?_⟩; have n_ := ak4 (Kd.R_mono (Kd.R_keep (IsS133.apart (show IsS133 w0 _ g s0_0 x1001_1 x1002_1 from IsS133.q0 HI0.out) (kqR HO_3.out) (by decide)) hk (fun _ h => h.2)) (fun _ h => h.1)) (KeepBut.trans (kp0 HK.out) hk (.inl rfl)) hb hi; clear HO_3 HK HB HI0; obtain ⟨HO_3, HK, HB, HI0⟩ := n_; (try clear hb hk hi)) | ((with_reducible refine gate_builtin (b := .append) (xs := #[.tmp 36, .tmp 40]) rfl ?_); at_builtin; refine Kd.R_append k44 w.heap.size rfl (.tmp 36) (.tmp 40) 30 44 (.agg #[(.int .i64 0), (.int .i64 0), (.int .i64 0), (.int .i64 0), (.bool false)]) 40 rfl Try.underlying30 info44 rfl (by decide) (by omega) u3 x3_1 (⟨50, wrap64 (100 + x4_1), 1, 0, false⟩ : S44) [.int .i64 50, .int .i64 (wrap64 (100 + x4_1)), .int .i64 1, .int .i64 0, .bool false] (fun _ => True) (fun _ => False) rfl rfl ?aP (fun _ hk => hk.elim) ?aF ?aO (Below.refl _ _) ?aS ?aL ?_; (case aP => exact k44_mkM _ _ _ (⟨50, wrap64 (100 + x4_1), 1, 0, false⟩ : S44)); (case aF => exact (fun _ _ => trivial)); (case aO => exact (kqR HO_3.out)); (case aS => exact (keep_size (w := w) (g := g) (row := none) (kp0 HK.out))); (case aL => have := LMc34.out; omega); intro v409 w36 ho hb hg hat; rw [← Ny408.out] at ho; have n_ := ak4 (IsS133.grown (IsS133.q0 HI0.out) hg (IsS133.own_ne HI0.out HO_3.out (by decide))) (below_weaken (bq1 HB.out (IsS133.ge HI0.out)) HL.out hb) (KeepBut.trans (kp0 HK.out) (KeepBut.of_grown hg g) (Kd.R_base2 HO_3.out)) ho; clear HI0 HB HK HO_3; obtain ⟨HI0, HB, HK, HO410⟩ := n_; clear ho hb hg hat))
         go_roundg k1
         case measure => have := HK1.out; omega
         case rel => exact ⟨(y408), (wrap64 (x4_1 + 1)), (t406), (t407), sq, H', ⟨by have := HK1.out; omega⟩, ⟨kqR HO410.out⟩, ⟨IsS133.q0 HI0.out⟩, ⟨kp0 HK.out⟩, ⟨bq1 HB.out (IsS133.ge HI0.out)⟩⟩
       rw [if_neg c34] at H
       exact absurd H (by simp)
     rw [if_neg c33] at H
     have c33b0 : decide (x4_1 < (wrap64 (11 + t405))) = false := decide_eq_false c33
     clear c33
     simp only [Option.some.injEq, Prod.mk.injEq] at H
     obtain ⟨rfl, rfl, rfl⟩ := H
     go_wp2_with (first | ((with_reducible refine gate_callee (f := 86) rfl ?_); refine goesL_ (some 31) rfl rfl Try.func86 (by kernel_rfl) rfl #[.pointer (some ⟨g, 0, none⟩), .int .i64 3] rfl ga ?_; (with_reducible refine (spec_l1Below.calls g s0_0 x1001_1 x1002_1 3 t405 t406 t407 w0 _ ?side1 ?side2 A32.out).mono ?_); (case side1 => exact IsS133.q0 HI0.out); (case side2 => exact bq1 HB.out (IsS133.ge HI0.out)); rintro e w37 ⟨rfl, hi, hb, hk⟩; refine ⟨_, rfl, ?_⟩; have n_ := ak4 (Kd.R_mono (Kd.R_keep (IsS133.apart (show IsS133 w0 _ g s0_0 x1001_1 x1002_1 from IsS133.q0 HI0.out) (kqR HO_3.out) (by decide)) hk (fun _ h => h.2)) (fun _ h => h.1)) (KeepBut.trans (kp0 HK.out) hk (.inl rfl)) hb hi; clear HO_3 HK HB HI0; obtain ⟨HO_3, HK, HB, HI0⟩ := n_; (try clear hb hk hi)))
     go_ret
     exact ⟨_, rq, kqR HO_3.out, IsS133.q0 HI0.out, bq1 HB.out (IsS133.ge HI0.out), kp0 HK.out⟩
 rw [if_neg c29] at H
 have c29b0 : (t375 == 1) = false := beq_eq_false_iff_ne.mpr c29
 have c29b1 : (t375 != 1) = true := bne_iff_ne.mpr c29
 simp only [Option.some.injEq, Prod.mk.injEq] at H
 obtain ⟨rfl, rfl, rfl⟩ := H
 go_enter Try.func109, Try.ntmps109
 go_wp2_with (first | ((with_reducible refine gate_callee (f := 85) rfl ?_); refine goesL_ (some 6) rfl rfl Try.func85 (by kernel_rfl) rfl #[.pointer (some ⟨g, 0, none⟩)] rfl ga ?_; (with_reducible refine (spec_l8Draw.calls k g s0_0 s0_1 s0_2 t370 t373 t374 w0 _ ?side1 ?side2 A2.out).mono ?_); (case side1 => exact IsS133.q0 HI0.out); (case side2 => exact bq1 HB.out (IsS133.ge HI0.out)); rintro e w38 ⟨v371, rfl, ho0, hi, hb, hk⟩; refine ⟨_, rfl, ?_⟩; have n_ := ak4 (Kd.R_lower ho0 (keep_size (w := w) (g := g) (row := none) (kp0 HK.out))) (KeepBut.trans (kp0 HK.out) hk (.inl rfl)) hb hi; clear HK HB HI0; obtain ⟨HO372, HK, HB, HI0⟩ := n_; (try clear hb hk hi ho0)) | ((with_reducible refine gate_callee (f := 86) rfl ?_); refine goesL_ (some 8) rfl rfl Try.func86 (by kernel_rfl) rfl #[.pointer (some ⟨g, 0, none⟩), .int .i64 12] rfl ga ?_; (with_reducible refine (spec_l1Below.calls g s0_0 t373 t374 12 t375 t376 t377 w0 _ ?side1 ?side2 A3.out).mono ?_); (case side1 => exact IsS133.q0 HI0.out); (case side2 => exact bq1 HB.out (IsS133.ge HI0.out)); rintro e w39 ⟨rfl, hi, hb, hk⟩; refine ⟨_, rfl, ?_⟩; have n_ := ak4 (Kd.R_mono (Kd.R_keep (IsS133.apart (show IsS133 w0 _ g s0_0 t373 t374 from IsS133.q0 HI0.out) (kqR HO372.out) (by decide)) hk (fun _ h => h.2)) (fun _ h => h.1)) (KeepBut.trans (kp0 HK.out) hk (.inl rfl)) hb hi; clear HO372 HK HB HI0; obtain ⟨HO372, HK, HB, HI0⟩ := n_; (try clear hb hk hi)))
 go_ret
 exact ⟨_, rq, kqR HO372.out, IsS133.q0 HI0.out, bq1 HB.out (IsS133.ge HI0.out), kp0 HK.out⟩

/-! ### spec_DrawLearn: function 54 -/
def spec_DrawLearn.f (k : Nat) (l0 : List Int) : Option ((List (S44)) × Int × Int × Int) := (spec_l1New.f k l0).bind fun bt411 => ((spec_l8Any.f k bt411.1 bt411.2.1 bt411.2.2).bind fun bt415 => ((spec_l1Int.f bt411.1 bt415.2.1 bt415.2.2 (([1, 2, 3, 0, 100] : List Int))).bind fun bt423 => ((spec_l1Int.f bt411.1 bt423.2.1 bt423.2.2 (([11, 12, 15, 0, 10000] : List Int))).bind fun bt429 => ((spec_l1Int.f bt411.1 bt429.2.1 bt429.2.2 (([0, 1, 7, 8, (-1)] : List Int))).bind fun bt435 => (some (bt415.1, bt423.1, bt429.1, bt435.1))))))
theorem spec_DrawLearn.mono : ∀ a0 k, LeO (spec_DrawLearn.f k a0) (spec_DrawLearn.f (k + 1) a0) := by
 intro a0 k
 unfold spec_DrawLearn.f
 repeat' first
  | (with_reducible exact spec_l1New.mono _ _)
  | (with_reducible exact spec_l8Any.mono _ _ _ _)
  | (with_reducible exact LeO.refl _)
  | (with_reducible exact LeO.none _)
  | (with_reducible refine LeO.ite ?_ ?_)
  | (with_reducible refine LeO.bind ?_ (fun _ => ?_))
  | exact spec_l1New.mono _ _
  | exact spec_l8Any.mono _ _ _ _
  | exact LeO.none _
  | refine LeO.ite ?_ ?_
  | refine LeO.bind ?_ (fun _ => ?_)
set_option maxHeartbeats 8000000 in
set_option maxRecDepth 100000 in
theorem spec_DrawLearn.calls (k : Nat) (A0 : Option Addr) (c0 : Nat) (l0 : List Int) (r1 : List (S44)) (r2 : Int) (r3 : Int) (r4 : Int) (w : World) (hr0 : Kd.C (Kd.int .u8) w A0 l0.length l0) (hc0 : l0.length ≤ c0) (h : spec_DrawLearn.f k l0 = some (r1, r2, r3, r4)) :
 Calls Try.prog 54 #[.slice A0 l0.length c0] w fun e w' => ∃ v0_ : Value, e = .returned (.tuple #[v0_, .int .i64 r2, .int .i64 r3, .int .i64 r4]) ∧ Kd.R k44 44 w' w.heap.size (fun _ => True) v0_ r1 ∧ Below w.heap.size w w' := by
 have HR0 := am hr0
 have HC0 := am hc0
 clear hr0 hc0
 have HB := am (Below.refl w.heap.size w)
 have H : ((spec_l1New.f k l0).bind fun bt411 => ((spec_l8Any.f k bt411.1 bt411.2.1 bt411.2.2).bind fun bt415 => ((spec_l1Int.f bt411.1 bt415.2.1 bt415.2.2 (([1, 2, 3, 0, 100] : List Int))).bind fun bt423 => ((spec_l1Int.f bt411.1 bt423.2.1 bt423.2.2 (([11, 12, 15, 0, 10000] : List Int))).bind fun bt429 => ((spec_l1Int.f bt411.1 bt429.2.1 bt429.2.2 (([0, 1, 7, 8, (-1)] : List Int))).bind fun bt435 => (some (bt415.1, bt423.1, bt429.1, bt435.1))))))) = some (r1, r2, r3, r4) := h
 clear h
 replace H := Option.bind_eq_some_iff.mp H
 obtain ⟨⟨t411, t412, t413⟩, A20, H⟩ := H
 replace H : ((spec_l8Any.f k t411 t412 t413).bind fun bt415 => ((spec_l1Int.f t411 bt415.2.1 bt415.2.2 (([1, 2, 3, 0, 100] : List Int))).bind fun bt423 => ((spec_l1Int.f t411 bt423.2.1 bt423.2.2 (([11, 12, 15, 0, 10000] : List Int))).bind fun bt429 => ((spec_l1Int.f t411 bt429.2.1 bt429.2.2 (([0, 1, 7, 8, (-1)] : List Int))).bind fun bt435 => (some (bt415.1, bt423.1, bt429.1, bt435.1)))))) = some (r1, r2, r3, r4) := H
 have A2 := am A20
 clear A20
 replace H := Option.bind_eq_some_iff.mp H
 obtain ⟨⟨t415, t418, t419⟩, A30, H⟩ := H
 replace H : ((spec_l1Int.f t411 t418 t419 (([1, 2, 3, 0, 100] : List Int))).bind fun bt423 => ((spec_l1Int.f t411 bt423.2.1 bt423.2.2 (([11, 12, 15, 0, 10000] : List Int))).bind fun bt429 => ((spec_l1Int.f t411 bt429.2.1 bt429.2.2 (([0, 1, 7, 8, (-1)] : List Int))).bind fun bt435 => (some (t415, bt423.1, bt429.1, bt435.1))))) = some (r1, r2, r3, r4) := H
 have A3 := am A30
 clear A30
 obtain ⟨y420, hy420⟩ : ∃ y_ : List Int, y_ = (([1, 2, 3, 0, 100] : List Int)) := ⟨_, rfl⟩
 replace H : ((spec_l1Int.f t411 t418 t419 y420).bind fun bt423 => ((spec_l1Int.f t411 bt423.2.1 bt423.2.2 (([11, 12, 15, 0, 10000] : List Int))).bind fun bt429 => ((spec_l1Int.f t411 bt429.2.1 bt429.2.2 (([0, 1, 7, 8, (-1)] : List Int))).bind fun bt435 => (some (t415, bt423.1, bt429.1, bt435.1))))) = some (r1, r2, r3, r4) := by first | (rw [hy420]; with_reducible exact H) | (have H2_ := (Option.bind_some _ _).symm.trans H; rw [hy420]; with_reducible exact H2_) | (have H2_ := (Option.bind_some _ _).symm.trans H; with_reducible exact H2_) | with_reducible exact H | (rw [hy420]; exact H) | exact H
 have Ny420 := am hy420
 clear hy420
 replace H := Option.bind_eq_some_iff.mp H
 obtain ⟨⟨t423, t424, t425⟩, A40, H⟩ := H
 replace H : ((spec_l1Int.f t411 t424 t425 (([11, 12, 15, 0, 10000] : List Int))).bind fun bt429 => ((spec_l1Int.f t411 bt429.2.1 bt429.2.2 (([0, 1, 7, 8, (-1)] : List Int))).bind fun bt435 => (some (t415, t423, bt429.1, bt435.1)))) = some (r1, r2, r3, r4) := H
 have A4 := am A40
 clear A40
 obtain ⟨y426, hy426⟩ : ∃ y_ : List Int, y_ = (([11, 12, 15, 0, 10000] : List Int)) := ⟨_, rfl⟩
 replace H : ((spec_l1Int.f t411 t424 t425 y426).bind fun bt429 => ((spec_l1Int.f t411 bt429.2.1 bt429.2.2 (([0, 1, 7, 8, (-1)] : List Int))).bind fun bt435 => (some (t415, t423, bt429.1, bt435.1)))) = some (r1, r2, r3, r4) := by first | (rw [hy426]; with_reducible exact H) | (have H2_ := (Option.bind_some _ _).symm.trans H; rw [hy426]; with_reducible exact H2_) | (have H2_ := (Option.bind_some _ _).symm.trans H; with_reducible exact H2_) | with_reducible exact H | (rw [hy426]; exact H) | exact H
 have Ny426 := am hy426
 clear hy426
 replace H := Option.bind_eq_some_iff.mp H
 obtain ⟨⟨t429, t430, t431⟩, A50, H⟩ := H
 replace H : ((spec_l1Int.f t411 t430 t431 (([0, 1, 7, 8, (-1)] : List Int))).bind fun bt435 => (some (t415, t423, t429, bt435.1))) = some (r1, r2, r3, r4) := H
 have A5 := am A50
 clear A50
 obtain ⟨y432, hy432⟩ : ∃ y_ : List Int, y_ = (([0, 1, 7, 8, (-1)] : List Int)) := ⟨_, rfl⟩
 replace H : ((spec_l1Int.f t411 t430 t431 y432).bind fun bt435 => (some (t415, t423, t429, bt435.1))) = some (r1, r2, r3, r4) := by first | (rw [hy432]; with_reducible exact H) | (have H2_ := (Option.bind_some _ _).symm.trans H; rw [hy432]; with_reducible exact H2_) | (have H2_ := (Option.bind_some _ _).symm.trans H; with_reducible exact H2_) | with_reducible exact H | (rw [hy432]; exact H) | exact H
 have Ny432 := am hy432
 clear hy432
 replace H := Option.bind_eq_some_iff.mp H
 obtain ⟨⟨t435, t436, t437⟩, A60, H⟩ := H
 replace H : (some (t415, t423, t429, t435)) = some (r1, r2, r3, r4) := H
 have A6 := am A60
 clear A60
 simp only [Option.some.injEq, Prod.mk.injEq] at H
 obtain ⟨rfl, rfl, rfl, rfl⟩ := H
 go_enter Try.func54, Try.ntmps54
 go_wp2_with (first | ((with_reducible refine gate_callee (f := 84) rfl ?_); refine goesL_ (some 8) rfl rfl Try.func84 (by kernel_rfl) rfl #[.slice A0 l0.length c0] rfl ga ?_; (with_reducible refine (spec_l1New.calls k _ _ l0 t411 t412 t413 w _ ?side1 ?side2 ?side3 A2.out).mono ?_); (case side1 => exact bq HB.out); (case side2 => exact HR0.out); (case side3 => exact HC0.out); rintro e w7 ⟨g414, rfl, hi, hb, hb2⟩; refine ⟨_, rfl, ?_⟩; have n_ := ak2 hb hi; clear HB; obtain ⟨HB, HI414⟩ := n_; (try clear hb hb2 hi)) | ((with_reducible refine gate_callee (f := 109) rfl ?_); refine goesL_ (some 10) rfl rfl Try.func109 (by kernel_rfl) rfl #[.pointer (some ⟨g414, 0, none⟩)] rfl ga ?_; (with_reducible refine (spec_l8Any.calls k g414 t411 t412 t413 t415 t418 t419 w _ ?side1 ?side2 A3.out).mono ?_); (case side1 => exact IsS133.q0 HI414.out); (case side2 => exact bq1 HB.out (IsS133.ge HI414.out)); rintro e w8 ⟨v416, rfl, ho0, hi, hb, hk⟩; refine ⟨_, rfl, ?_⟩; have n_ := ak3 (Kd.R_lower ho0 (below_size (bq1 HB.out (IsS133.ge HI414.out)))) hb hi; clear HB HI414; obtain ⟨HO417, HB, HI414⟩ := n_; (try clear hb hk hi ho0)) | ((with_reducible refine gate_dst (N := 12) rfl ?_); refine Kd.R_lit (Kd.int .i64) _ 3 ?hg (N := 12) ?hd (xs := ([1, 2, 3, 0, 100] : List Int)) (inner := [.int .i64 1, .int .i64 2, .int .i64 3, .int .i64 0, .int .i64 100]) (ok := fun _ => True) (okp := fun _ => True) ?hr ?hp (fun _ hk => hk) trivial (Below.refl _ _) (Nat.le_refl _) (by simp) ?_; (case hd => rfl); (case hg => rfl); (case hr => exact gs); (case hp => exact (Reps.one (show Kd.M (Kd.int .i64) _ _ _ 1 [.int .i64 1] from rfl) (Reps.one (show Kd.M (Kd.int .i64) _ _ _ 2 [.int .i64 2] from rfl) (Reps.one (show Kd.M (Kd.int .i64) _ _ _ 3 [.int .i64 3] from rfl) (Reps.one (show Kd.M (Kd.int .i64) _ _ _ 0 [.int .i64 0] from rfl) (Reps.one (show Kd.M (Kd.int .i64) _ _ _ 100 [.int .i64 100] from rfl) (Reps.none _ _))))))); intro v421 w9 ho10 hb hg_ hnew_; clear hg_ hnew_; (first | rw [← Ny420.out] at ho10 | (simp only [Int.reduceToNat] at ho10; rw [← Ny420.out] at ho10)); have n_ := ak4 (Kd.R_below (kqR HO417.out) hb) (Kd.R_lower ho10 (below_size (bq1 HB.out (IsS133.ge HI414.out)))) (IsS133.below (IsS133.q0 HI414.out) hb) (below_step (bq1 HB.out (IsS133.ge HI414.out)) hb); clear HO417 HI414 HB; obtain ⟨HO417, HO422, HI414, HB⟩ := n_; clear hb ho10; obtain ⟨Ao11, co11, eo11⟩ := Kd.R_slice HO422.out; subst eo11) | ((with_reducible refine gate_callee (f := 110) rfl ?_); refine goesL_ (some 13) rfl rfl Try.func110 (by kernel_rfl) rfl #[.pointer (some ⟨g414, 0, none⟩), .slice Ao11 y420.length co11] rfl ga ?_; (with_reducible refine (spec_l1Int.calls g414 t411 t418 t419 _ _ y420 t423 t424 t425 w _ ?side1 ?side2 ?side3 ?side4 ?side5 A4.out).mono ?_); (case side1 => exact IsS133.q0 HI414.out); (case side2 => exact bq1 HB.out (IsS133.ge HI414.out)); (case side3 => repeat (first | exact (Kd.R_reads' HO422.out).2.2 | (with_reducible refine Kd.C_alloc ?_ _) | (with_reducible refine Kd.C_drewN ?_ _) | (with_reducible refine Kd.C_drew ?_))); (case side4 => exact (Kd.R_reads' HO422.out).2.1); (case side5 => exact far_slice (IsS133.own_ne HI414.out HO422.out (by decide))); rintro e w12 ⟨rfl, hi, hb, hk⟩; refine ⟨_, rfl, ?_⟩; have n_ := ak4 (Kd.R_mono (Kd.R_keep (IsS133.apart (show IsS133 w _ g414 t411 t418 t419 from IsS133.q0 HI414.out) (kqR HO417.out) (by decide)) hk (fun _ h => h.2)) (fun _ h => h.1)) (Kd.R_mono (Kd.R_keep (IsS133.apart (show IsS133 w _ g414 t411 t418 t419 from IsS133.q0 HI414.out) (kqR HO422.out) (by decide)) hk (fun _ h => h.2)) (fun _ h => h.1)) hb hi; clear HO417 HO422 HB HI414; obtain ⟨HO417, HO422, HB, HI414⟩ := n_; (try clear hb hk hi)) | ((with_reducible refine gate_dst (N := 15) rfl ?_); refine Kd.R_lit (Kd.int .i64) _ 3 ?hg (N := 15) ?hd (xs := ([11, 12, 15, 0, 10000] : List Int)) (inner := [.int .i64 11, .int .i64 12, .int .i64 15, .int .i64 0, .int .i64 10000]) (ok := fun _ => True) (okp := fun _ => True) ?hr ?hp (fun _ hk => hk) trivial (Below.refl _ _) (Nat.le_refl _) (by simp) ?_; (case hd => rfl); (case hg => rfl); (case hr => exact gs); (case hp => exact (Reps.one (show Kd.M (Kd.int .i64) _ _ _ 11 [.int .i64 11] from rfl) (Reps.one (show Kd.M (Kd.int .i64) _ _ _ 12 [.int .i64 12] from rfl) (Reps.one (show Kd.M (Kd.int .i64) _ _ _ 15 [.int .i64 15] from rfl) (Reps.one (show Kd.M (Kd.int .i64) _ _ _ 0 [.int .i64 0] from rfl) (Reps.one (show Kd.M (Kd.int .i64) _ _ _ 10000 [.int .i64 10000] from rfl) (Reps.none _ _))))))); intro v427 w13 ho14 hb hg_ hnew_; clear hg_ hnew_; (first | rw [← Ny426.out] at ho14 | (simp only [Int.reduceToNat] at ho14; rw [← Ny426.out] at ho14)); have n_ := ak5 (Kd.R_below (kqR HO417.out) hb) (Kd.R_elder' (kqR HO422.out) (Kd.R_base ho14) hb) (Kd.R_lower (Kd.R_new' ho14 (Kd.R_lt (kqR HO422.out))) (below_size (bq1 HB.out (IsS133.ge HI414.out)))) (IsS133.below (IsS133.q0 HI414.out) hb) (below_step (bq1 HB.out (IsS133.ge HI414.out)) hb); clear HO417 HO422 HI414 HB; obtain ⟨HO417, HO422, HO428, HI414, HB⟩ := n_; clear hb ho14; obtain ⟨Ao15, co15, eo15⟩ := Kd.R_slice HO428.out; subst eo15) | ((with_reducible refine gate_callee (f := 110) rfl ?_); refine goesL_ (some 16) rfl rfl Try.func110 (by kernel_rfl) rfl #[.pointer (some ⟨g414, 0, none⟩), .slice Ao15 y426.length co15] rfl ga ?_; (with_reducible refine (spec_l1Int.calls g414 t411 t424 t425 _ _ y426 t429 t430 t431 w _ ?side1 ?side2 ?side3 ?side4 ?side5 A5.out).mono ?_); (case side1 => exact IsS133.q0 HI414.out); (case side2 => exact bq1 HB.out (IsS133.ge HI414.out)); (case side3 => repeat (first | exact (Kd.R_reads' HO428.out).2.2 | (with_reducible refine Kd.C_alloc ?_ _) | (with_reducible refine Kd.C_drewN ?_ _) | (with_reducible refine Kd.C_drew ?_))); (case side4 => exact (Kd.R_reads' HO428.out).2.1); (case side5 => exact far_slice (IsS133.own_ne HI414.out HO428.out (by decide))); rintro e w16 ⟨rfl, hi, hb, hk⟩; refine ⟨_, rfl, ?_⟩; have n_ := ak5 (Kd.R_mono (Kd.R_keep (IsS133.apart (show IsS133 w _ g414 t411 t424 t425 from IsS133.q0 HI414.out) (kqR HO417.out) (by decide)) hk (fun _ h => h.2)) (fun _ h => h.1)) (Kd.R_mono (Kd.R_keep (IsS133.apart (show IsS133 w _ g414 t411 t424 t425 from IsS133.q0 HI414.out) (kqR HO422.out) (by decide)) hk (fun _ h => h.2)) (fun _ h => h.1)) (Kd.R_mono (Kd.R_keep (IsS133.apart (show IsS133 w _ g414 t411 t424 t425 from IsS133.q0 HI414.out) (kqR HO428.out) (by decide)) hk (fun _ h => h.2)) (fun _ h => h.1)) hb hi; clear HO417 HO422 HO428 HB HI414; obtain ⟨HO417, HO422, HO428, HB, HI414⟩ := n_; (try clear hb hk hi)) | ((with_reducible refine gate_dst (N := 18) rfl ?_); refine Kd.R_lit (Kd.int .i64) _ 3 ?hg (N := 18) ?hd (xs := ([0, 1, 7, 8, (-1)] : List Int)) (inner := [.int .i64 0, .int .i64 1, .int .i64 7, .int .i64 8, .int .i64 (-1)]) (ok := fun _ => True) (okp := fun _ => True) ?hr ?hp (fun _ hk => hk) trivial (Below.refl _ _) (Nat.le_refl _) (by simp) ?_; (case hd => rfl); (case hg => rfl); (case hr => exact gs); (case hp => exact (Reps.one (show Kd.M (Kd.int .i64) _ _ _ 0 [.int .i64 0] from rfl) (Reps.one (show Kd.M (Kd.int .i64) _ _ _ 1 [.int .i64 1] from rfl) (Reps.one (show Kd.M (Kd.int .i64) _ _ _ 7 [.int .i64 7] from rfl) (Reps.one (show Kd.M (Kd.int .i64) _ _ _ 8 [.int .i64 8] from rfl) (Reps.one (show Kd.M (Kd.int .i64) _ _ _ (-1) [.int .i64 (-1)] from rfl) (Reps.none _ _))))))); intro v433 w17 ho18 hb hg_ hnew_; clear hg_ hnew_; (first | rw [← Ny432.out] at ho18 | (simp only [Int.reduceToNat] at ho18; rw [← Ny432.out] at ho18)); have n_ := ak6 (Kd.R_below (kqR HO417.out) hb) (Kd.R_elder' (kqR HO422.out) (Kd.R_base ho18) hb) (Kd.R_elder' (kqR HO428.out) (Kd.R_base ho18) hb) (Kd.R_lower (Kd.R_new' (Kd.R_new' ho18 (Kd.R_lt (kqR HO422.out))) (Kd.R_lt (kqR HO428.out))) (below_size (bq1 HB.out (IsS133.ge HI414.out)))) (IsS133.below (IsS133.q0 HI414.out) hb) (below_step (bq1 HB.out (IsS133.ge HI414.out)) hb); clear HO417 HO422 HO428 HI414 HB; obtain ⟨HO417, HO422, HO428, HO434, HI414, HB⟩ := n_; clear hb ho18; obtain ⟨Ao19, co19, eo19⟩ := Kd.R_slice HO434.out; subst eo19) | ((with_reducible refine gate_callee (f := 110) rfl ?_); refine goesL_ (some 19) rfl rfl Try.func110 (by kernel_rfl) rfl #[.pointer (some ⟨g414, 0, none⟩), .slice Ao19 y432.length co19] rfl ga ?_; (with_reducible refine (spec_l1Int.calls g414 t411 t430 t431 _ _ y432 t435 t436 t437 w _ ?side1 ?side2 ?side3 ?side4 ?side5 A6.out).mono ?_); (case side1 => exact IsS133.q0 HI414.out); (case side2 => exact bq1 HB.out (IsS133.ge HI414.out)); (case side3 => repeat (first | exact (Kd.R_reads' HO434.out).2.2 | (with_reducible refine Kd.C_alloc ?_ _) | (with_reducible refine Kd.C_drewN ?_ _) | (with_reducible refine Kd.C_drew ?_))); (case side4 => exact (Kd.R_reads' HO434.out).2.1); (case side5 => exact far_slice (IsS133.own_ne HI414.out HO434.out (by decide))); rintro e w20 ⟨rfl, hi, hb, hk⟩; refine ⟨_, rfl, ?_⟩; have n_ := ak6 (Kd.R_mono (Kd.R_keep (IsS133.apart (show IsS133 w _ g414 t411 t430 t431 from IsS133.q0 HI414.out) (kqR HO417.out) (by decide)) hk (fun _ h => h.2)) (fun _ h => h.1)) (Kd.R_mono (Kd.R_keep (IsS133.apart (show IsS133 w _ g414 t411 t430 t431 from IsS133.q0 HI414.out) (kqR HO422.out) (by decide)) hk (fun _ h => h.2)) (fun _ h => h.1)) (Kd.R_mono (Kd.R_keep (IsS133.apart (show IsS133 w _ g414 t411 t430 t431 from IsS133.q0 HI414.out) (kqR HO428.out) (by decide)) hk (fun _ h => h.2)) (fun _ h => h.1)) (Kd.R_mono (Kd.R_keep (IsS133.apart (show IsS133 w _ g414 t411 t430 t431 from IsS133.q0 HI414.out) (kqR HO434.out) (by decide)) hk (fun _ h => h.2)) (fun _ h => h.1)) hb hi; clear HO417 HO422 HO428 HO434 HB HI414; obtain ⟨HO417, HO422, HO428, HO434, HB, HI414⟩ := n_; (try clear hb hk hi)))
 refine bodyPost_ret (results_list (rs := [.tmp 2, .tmp 3, .tmp 4, .tmp 5]) rfl (by simp) (.tmp (.tmp (.tmp (.tmp .nil))))) rfl ?_
 exact ⟨_, rq, kqR HO417.out, bq1 HB.out (IsS133.ge HI414.out)⟩

end Go.Proofs.Ytebffdmkfkfoaaa.XFnFdbsBent
