/- The functions that one law reaches, as Lean functions, with their walks: printed by a program of this seat (wip/tools) out of the translation. -/
import Derived.Test.YtebffdmkfkfoaaaXFnFdbsBentx0
import Derived.Test.YtebffdmkfkfoaaaXFnFdbsBentx3
import Derived.Test.YtebffdmkfkfoaaaXFnFdbsBentx6
import Derived.Test.YtebffdmkfkfoaaaXFnFdbsBentx7
import Derived.Test.YtebffdmkfkfoaaaXFnFdbsBentx10
import Derived.Test.YtebffdmkfkfoaaaXFnFdbsBentx11
import Derived.Test.YtebffdmkfkfoaaaXFnFdbsBentx12
import Derived.Test.YtebffdmkfkfoaaaXFnFdbsBentx13
import Derived.Test.YtebffdmkfkfoaaaXFnFdbsBentx14
namespace Go.Proofs.Ytebffdmkfkfoaaa.XFnFdbsBent
open Go.RowKit Go.Proofs.YtebffdmkfkfoaaaW.PrintWords Go.Proofs.YtebffdmkfkfoaaaW.PrintLast Go.Proofs.YtebffdmkfkfoaaaW.PrintMore
attribute [local go_sem] max2_int min2_int max_two min_two max_three min_three max_four min_four   -- for this text's walks alone
set_option linter.unusedVariables false
set_option linter.unusedSimpArgs false

/-! ### spec_FlushPort: function 60 -/
def spec_FlushPort.l0 : Nat → List (S44) → Int → List (S44) → Int → Option ((List (S44)))
 | 0, _, _, _, _ => none
 | k + 1, x0, x1, x5, x6 => if x6 < (x0.length : Int) then (if 0 ≤ x6 then (if (rd_T44 x0 x6).f4 = true then (if x5.length < 3518437208883 then (spec_FlushPort.l0 k x0 x1 (x5 ++ [(⟨(rd_T44 x0 x6).f0, (rd_T44 x0 x6).f1, (rd_T44 x0 x6).f2, (rd_T44 x0 x6).f3, (rd_T44 x0 x6).f4⟩ : S44)]) (wrap64 (x6 + 1))) else (none)) else (if ((rd_T44 x0 x6).f2) = x1 then (spec_FlushPort.l0 k x0 x1 x5 (wrap64 (x6 + 1))) else (if x5.length < 3518437208883 then (spec_FlushPort.l0 k x0 x1 (x5 ++ [(⟨(rd_T44 x0 x6).f0, (rd_T44 x0 x6).f1, (rd_T44 x0 x6).f2, (rd_T44 x0 x6).f3, (rd_T44 x0 x6).f4⟩ : S44)]) (wrap64 (x6 + 1))) else (none)))) else (none)) else (some x5)
def spec_FlushPort.f (k : Nat) (l0 : List (S44)) (a1 : Int) : Option ((List (S44))) := spec_FlushPort.l0 k l0 a1 (([] : List (S44))) 0
theorem spec_FlushPort.mono_l : ∀ k, (∀ y0 y1 y2 y3, LeO (spec_FlushPort.l0 k y0 y1 y2 y3) (spec_FlushPort.l0 (k + 1) y0 y1 y2 y3))
 | 0 => fun _ _ _ _ r h => by simp [spec_FlushPort.l0] at h
 | k + 1 => by
  have ih0 := spec_FlushPort.mono_l k
  intro y0 y1 y2 y3
  unfold spec_FlushPort.l0
  repeat' first
  | (with_reducible exact ih0 _ _ _ _)
  | (with_reducible exact LeO.refl _)
  | (with_reducible exact LeO.none _)
  | (with_reducible refine LeO.ite ?_ ?_)
  | (with_reducible refine LeO.bind ?_ (fun _ => ?_))
  | exact ih0 _ _ _ _
  | exact LeO.none _
  | refine LeO.ite ?_ ?_
  | refine LeO.bind ?_ (fun _ => ?_)
theorem spec_FlushPort.mono : ∀ a0 a1 k, LeO (spec_FlushPort.f k a0 a1) (spec_FlushPort.f (k + 1) a0 a1) := by
 intro a0 a1 k
 have ih0 := spec_FlushPort.mono_l k
 unfold spec_FlushPort.f
 repeat' first
  | (with_reducible exact ih0 _ _ _ _)
  | (with_reducible exact LeO.refl _)
  | (with_reducible exact LeO.none _)
  | (with_reducible refine LeO.ite ?_ ?_)
  | (with_reducible refine LeO.bind ?_ (fun _ => ?_))
  | exact ih0 _ _ _ _
  | exact LeO.none _
  | refine LeO.ite ?_ ?_
  | refine LeO.bind ?_ (fun _ => ?_)
set_option maxHeartbeats 8000000 in
set_option maxRecDepth 100000 in
theorem spec_FlushPort.calls (k : Nat) (A0 : Option Addr) (c0 : Nat) (l0 : List (S44)) (a1 : Int) (r : List (S44)) (w : World) (hr0 : Kd.C k44 w A0 l0.length l0) (hc0 : l0.length ≤ c0) (h : spec_FlushPort.f k l0 a1 = some r) :
 Calls Try.prog 60 #[.slice A0 l0.length c0, .int .i64 a1] w fun e w' => ∃ v0_ : Value, e = .returned (v0_) ∧ Kd.R k44 44 w' w.heap.size (fun _ => True) v0_ r ∧ Below w.heap.size w w' := by
 have hu44 := Try.underlying44
 have HR0 := am hr0
 have HC0 := am hc0
 clear hr0 hc0
 have HB := am (Below.refl w.heap.size w)
 have H : (spec_FlushPort.l0 k l0 a1 (([] : List (S44))) 0) = some r := h
 clear h
 obtain ⟨y517, hy517⟩ : ∃ y_ : List (S44), y_ = (([] : List (S44))) := ⟨_, rfl⟩
 replace H : (spec_FlushPort.l0 k l0 a1 y517 0) = some r := by first | (rw [hy517]; with_reducible exact H) | (have H2_ := (Option.bind_some _ _).symm.trans H; rw [hy517]; with_reducible exact H2_) | (have H2_ := (Option.bind_some _ _).symm.trans H; with_reducible exact H2_) | with_reducible exact H | (rw [hy517]; exact H) | exact H
 have Ny517 := am hy517
 clear hy517
 have H' := am H
 clear H
 go_enter Try.func60, Try.ntmps60
 go_wp2_with (first | ((with_reducible refine gate_dst (N := 7) rfl ?_); refine Kd.R_lit k44 _ 44 ?hg (N := 7) ?hd (xs := ([] : List (S44))) (inner := []) (ok := fun _ => True) (okp := fun _ => True) ?hr ?hp (fun _ hk => hk) trivial (Below.refl _ _) (Nat.le_refl _) (by simp) ?_; (case hd => rfl); (case hg => rfl); (case hr => exact gs); (case hp => exact (Reps.none _ _)); intro v518 w3 ho4 hb hg_ hnew_; clear hg_ hnew_; (first | rw [← Ny517.out] at ho4 | (simp only [Int.reduceToNat] at ho4; rw [← Ny517.out] at ho4)); have n_ := ak2 (Kd.R_lower ho4 (below_size (bq HB.out))) (below_step (bq HB.out) hb); clear HB; obtain ⟨HO519, HB⟩ := n_; clear hb ho4))
 go_loopg [5, 6] k (fun kq v5 v6 w' => ∃ (x5_1 : List (S44)) (x6_1 : Int), v6 = .int .i64 x6_1 ∧ Aside0 (spec_FlushPort.l0 kq l0 a1 x5_1 x6_1 = some r) ∧ Aside0 (kq ≤ k) ∧ Aside0 (Kd.R k44 44 w' w.heap.size (fun _ => True) v5 x5_1) ∧ Aside0 (Below w.heap.size w w'))
 case atStart => exact ⟨(y517), (0), sq, H', ⟨Nat.le_refl _⟩, ⟨kqR HO519.out⟩, ⟨bq HB.out⟩⟩
 case round =>
  clear H'
  try clear p2
  obtain ⟨x5_1, x6_1, rfl, HA, HK1, HO_5, HB⟩ := hrel
  cases gk with
  | zero => exact absurd HA.out (by simp [spec_FlushPort.l0])
  | succ k1 =>
   have H := HA.out
   clear HA
   simp only [spec_FlushPort.l0] at H
   by_cases c5 : x6_1 < (l0.length : Int)
   · rw [if_pos c5] at H
     have c5b0 : decide (x6_1 < (l0.length : Int)) = true := decide_eq_true c5
     clear c5
     by_cases c6 : 0 ≤ x6_1
     · rw [if_pos c6] at H
       have c6b0 : decide (0 ≤ x6_1) = true := decide_eq_true c6
       clear c6
       obtain ⟨bq7, hbq7⟩ : ∃ b_ : Bool, b_ = ((rd_T44 l0 x6_1).f4) := ⟨_, rfl⟩
       replace H : (if bq7 = true then (if x5_1.length < 3518437208883 then (spec_FlushPort.l0 k1 l0 a1 (x5_1 ++ [(⟨(rd_T44 l0 x6_1).f0, (rd_T44 l0 x6_1).f1, (rd_T44 l0 x6_1).f2, (rd_T44 l0 x6_1).f3, bq7⟩ : S44)]) (wrap64 (x6_1 + 1))) else (none)) else (if ((rd_T44 l0 x6_1).f2) = a1 then (spec_FlushPort.l0 k1 l0 a1 x5_1 (wrap64 (x6_1 + 1))) else (if x5_1.length < 3518437208883 then (spec_FlushPort.l0 k1 l0 a1 (x5_1 ++ [(⟨(rd_T44 l0 x6_1).f0, (rd_T44 l0 x6_1).f1, (rd_T44 l0 x6_1).f2, (rd_T44 l0 x6_1).f3, bq7⟩ : S44)]) (wrap64 (x6_1 + 1))) else (none)))) = some r := by rw [← hbq7] at H; exact H
       have Nbq7 := am hbq7
       clear hbq7
       by_cases c8 : bq7 = true
       · subst c8
         have H1 : (if x5_1.length < 3518437208883 then (spec_FlushPort.l0 k1 l0 a1 (x5_1 ++ [(⟨(rd_T44 l0 x6_1).f0, (rd_T44 l0 x6_1).f1, (rd_T44 l0 x6_1).f2, (rd_T44 l0 x6_1).f3, true⟩ : S44)]) (wrap64 (x6_1 + 1))) else (none)) = some r := by rw [if_pos rfl] at H; exact H
         clear H
         have H := H1
         clear H1
         by_cases c9 : x5_1.length < 3518437208883
         · rw [if_pos c9] at H
           have LMc9 := am c9
           clear c9
           obtain ⟨y522, hy522⟩ : ∃ y_ : List (S44), y_ = (x5_1 ++ [(⟨(rd_T44 l0 x6_1).f0, (rd_T44 l0 x6_1).f1, (rd_T44 l0 x6_1).f2, (rd_T44 l0 x6_1).f3, true⟩ : S44)]) := ⟨_, rfl⟩
           replace H : (spec_FlushPort.l0 k1 l0 a1 y522 (wrap64 (x6_1 + 1))) = some r := by first | (rw [hy522]; with_reducible exact H) | (have H2_ := (Option.bind_some _ _).symm.trans H; rw [hy522]; with_reducible exact H2_) | (have H2_ := (Option.bind_some _ _).symm.trans H; with_reducible exact H2_) | with_reducible exact H | (rw [hy522]; exact H) | exact H
           have Ny522 := am hy522
           clear hy522
           have H' := am H
           clear H
           have p520 : 0 ≤ (x6_1 : Int) := oda
           have q520 : x6_1 < (l0.length : Int) := oda
           obtain ⟨ad520, e520, hx520_0, hx520_1, hx520_2, hx520_3, hx520_4⟩ := at_T44 HR0.out x6_1 p520 q520
           (try rw [← Nbq7.out] at hx520_4)
           cases e520
           replace hx520_0 := (HB.out.cell (World.block_lt_of_cell? w _ hx520_0)).trans hx520_0
           replace hx520_1 := (HB.out.cell (World.block_lt_of_cell? w _ hx520_1)).trans hx520_1
           replace hx520_2 := (HB.out.cell (World.block_lt_of_cell? w _ hx520_2)).trans hx520_2
           replace hx520_3 := (HB.out.cell (World.block_lt_of_cell? w _ hx520_3)).trans hx520_3
           replace hx520_4 := (HB.out.cell (World.block_lt_of_cell? w _ hx520_4)).trans hx520_4
           replace p520 := eq_true p520
           replace q520 := eq_true q520
           have p521 : 0 ≤ (x6_1 : Int) := oda
           have q521 : x6_1 < (l0.length : Int) := oda
           obtain ⟨ad521, e521, hx521_0, hx521_1, hx521_2, hx521_3, hx521_4⟩ := at_T44 HR0.out x6_1 p521 q521
           (try rw [← Nbq7.out] at hx521_4)
           obtain rfl : ad520 = ad521 := (by injection e521)
           replace hx521_0 := (HB.out.cell (World.block_lt_of_cell? w _ hx521_0)).trans hx521_0
           replace hx521_1 := (HB.out.cell (World.block_lt_of_cell? w _ hx521_1)).trans hx521_1
           replace hx521_2 := (HB.out.cell (World.block_lt_of_cell? w _ hx521_2)).trans hx521_2
           replace hx521_3 := (HB.out.cell (World.block_lt_of_cell? w _ hx521_3)).trans hx521_3
           replace hx521_4 := (HB.out.cell (World.block_lt_of_cell? w _ hx521_4)).trans hx521_4
           replace p521 := eq_true p521
           replace q521 := eq_true q521
           go_wp2_with (first | ((with_reducible refine gate_builtin (b := .append) (xs := #[.tmp 28, .tmp 33]) rfl ?_); at_builtin; refine Kd.R_append k44 (w0 := w) w.heap.size rfl (.tmp 28) (.tmp 33) 30 44 (.agg #[(.int .i64 0), (.int .i64 0), (.int .i64 0), (.int .i64 0), (.bool false)]) 40 rfl Try.underlying30 info44 rfl (by decide) (by omega) u5 x5_1 (⟨(rd_T44 l0 x6_1).f0, (rd_T44 l0 x6_1).f1, (rd_T44 l0 x6_1).f2, (rd_T44 l0 x6_1).f3, true⟩ : S44) [.int .i64 ((rd_T44 l0 x6_1).f0), .int .i64 ((rd_T44 l0 x6_1).f1), .int .i64 ((rd_T44 l0 x6_1).f2), .int .i64 ((rd_T44 l0 x6_1).f3), .bool true] (fun _ => True) (fun _ => False) rfl rfl ?aP (fun _ hk => hk.elim) ?aF ?aO ?aB ?aS ?aL ?_; (case aP => exact k44_mkM _ _ _ (⟨(rd_T44 l0 x6_1).f0, (rd_T44 l0 x6_1).f1, (rd_T44 l0 x6_1).f2, (rd_T44 l0 x6_1).f3, true⟩ : S44)); (case aB => exact (bq HB.out)); (case aF => exact (fun _ _ => trivial)); (case aO => exact (kqR HO_5.out)); (case aS => exact (below_size (bq HB.out))); (case aL => have := LMc9.out; omega); intro v523 w10 ho hb hg hat; rw [← Ny522.out] at ho; have n_ := ak2 hb ho; clear HB HO_5; obtain ⟨HB, HO524⟩ := n_; clear ho hb hg hat))
           go_roundg k1
           case measure => have := HK1.out; omega
           case rel => exact ⟨(y522), (wrap64 (x6_1 + 1)), sq, H', ⟨by have := HK1.out; omega⟩, ⟨kqR HO524.out⟩, ⟨bq HB.out⟩⟩
         rw [if_neg c9] at H
         exact absurd H (by simp)
       replace c8 := Bool.eq_false_iff.mpr c8
       subst c8
       have H1 : (if ((rd_T44 l0 x6_1).f2) = a1 then (spec_FlushPort.l0 k1 l0 a1 x5_1 (wrap64 (x6_1 + 1))) else (if x5_1.length < 3518437208883 then (spec_FlushPort.l0 k1 l0 a1 (x5_1 ++ [(⟨(rd_T44 l0 x6_1).f0, (rd_T44 l0 x6_1).f1, (rd_T44 l0 x6_1).f2, (rd_T44 l0 x6_1).f3, false⟩ : S44)]) (wrap64 (x6_1 + 1))) else (none))) = some r := by rw [if_neg (show ¬ (false = true) by decide)] at H; exact H
       clear H
       have H := H1
       clear H1
       by_cases c11 : ((rd_T44 l0 x6_1).f2) = a1
       · rw [if_pos c11] at H
         have c11b0 : (((rd_T44 l0 x6_1).f2) == a1) = true := beq_iff_eq.mpr c11
         have c11b1 : (((rd_T44 l0 x6_1).f2) != a1) = false := bne_eq_false_iff_eq.mpr c11
         clear c11
         have H' := am H
         clear H
         have p520 : 0 ≤ (x6_1 : Int) := oda
         have q520 : x6_1 < (l0.length : Int) := oda
         obtain ⟨ad520, e520, hx520_0, hx520_1, hx520_2, hx520_3, hx520_4⟩ := at_T44 HR0.out x6_1 p520 q520
         (try rw [← Nbq7.out] at hx520_4)
         cases e520
         replace hx520_0 := (HB.out.cell (World.block_lt_of_cell? w _ hx520_0)).trans hx520_0
         replace hx520_1 := (HB.out.cell (World.block_lt_of_cell? w _ hx520_1)).trans hx520_1
         replace hx520_2 := (HB.out.cell (World.block_lt_of_cell? w _ hx520_2)).trans hx520_2
         replace hx520_3 := (HB.out.cell (World.block_lt_of_cell? w _ hx520_3)).trans hx520_3
         replace hx520_4 := (HB.out.cell (World.block_lt_of_cell? w _ hx520_4)).trans hx520_4
         replace p520 := eq_true p520
         replace q520 := eq_true q520
         have p525 : 0 ≤ (x6_1 : Int) := oda
         have q525 : x6_1 < (l0.length : Int) := oda
         obtain ⟨ad525, e525, hx525_0, hx525_1, hx525_2, hx525_3, hx525_4⟩ := at_T44 HR0.out x6_1 p525 q525
         (try rw [← Nbq7.out] at hx525_4)
         obtain rfl : ad520 = ad525 := (by injection e525)
         replace hx525_0 := (HB.out.cell (World.block_lt_of_cell? w _ hx525_0)).trans hx525_0
         replace hx525_1 := (HB.out.cell (World.block_lt_of_cell? w _ hx525_1)).trans hx525_1
         replace hx525_2 := (HB.out.cell (World.block_lt_of_cell? w _ hx525_2)).trans hx525_2
         replace hx525_3 := (HB.out.cell (World.block_lt_of_cell? w _ hx525_3)).trans hx525_3
         replace hx525_4 := (HB.out.cell (World.block_lt_of_cell? w _ hx525_4)).trans hx525_4
         replace p525 := eq_true p525
         replace q525 := eq_true q525
         go_wp2
         go_roundg k1
         case measure => have := HK1.out; omega
         case rel => exact ⟨(x5_1), (wrap64 (x6_1 + 1)), sq, H', ⟨by have := HK1.out; omega⟩, ⟨kqR HO_5.out⟩, ⟨bq HB.out⟩⟩
       rw [if_neg c11] at H
       have c11b0 : (((rd_T44 l0 x6_1).f2) == a1) = false := beq_eq_false_iff_ne.mpr c11
       have c11b1 : (((rd_T44 l0 x6_1).f2) != a1) = true := bne_iff_ne.mpr c11
       by_cases c12 : x5_1.length < 3518437208883
       · rw [if_pos c12] at H
         have LMc12 := am c12
         clear c12
         obtain ⟨y527, hy527⟩ : ∃ y_ : List (S44), y_ = (x5_1 ++ [(⟨(rd_T44 l0 x6_1).f0, (rd_T44 l0 x6_1).f1, (rd_T44 l0 x6_1).f2, (rd_T44 l0 x6_1).f3, false⟩ : S44)]) := ⟨_, rfl⟩
         replace H : (spec_FlushPort.l0 k1 l0 a1 y527 (wrap64 (x6_1 + 1))) = some r := by first | (rw [hy527]; with_reducible exact H) | (have H2_ := (Option.bind_some _ _).symm.trans H; rw [hy527]; with_reducible exact H2_) | (have H2_ := (Option.bind_some _ _).symm.trans H; with_reducible exact H2_) | with_reducible exact H | (rw [hy527]; exact H) | exact H
         have Ny527 := am hy527
         clear hy527
         have H' := am H
         clear H
         have p520 : 0 ≤ (x6_1 : Int) := oda
         have q520 : x6_1 < (l0.length : Int) := oda
         obtain ⟨ad520, e520, hx520_0, hx520_1, hx520_2, hx520_3, hx520_4⟩ := at_T44 HR0.out x6_1 p520 q520
         (try rw [← Nbq7.out] at hx520_4)
         cases e520
         replace hx520_0 := (HB.out.cell (World.block_lt_of_cell? w _ hx520_0)).trans hx520_0
         replace hx520_1 := (HB.out.cell (World.block_lt_of_cell? w _ hx520_1)).trans hx520_1
         replace hx520_2 := (HB.out.cell (World.block_lt_of_cell? w _ hx520_2)).trans hx520_2
         replace hx520_3 := (HB.out.cell (World.block_lt_of_cell? w _ hx520_3)).trans hx520_3
         replace hx520_4 := (HB.out.cell (World.block_lt_of_cell? w _ hx520_4)).trans hx520_4
         replace p520 := eq_true p520
         replace q520 := eq_true q520
         have p525 : 0 ≤ (x6_1 : Int) := oda
         have q525 : x6_1 < (l0.length : Int) := oda
         obtain ⟨ad525, e525, hx525_0, hx525_1, hx525_2, hx525_3, hx525_4⟩ := at_T44 HR0.out x6_1 p525 q525
         (try rw [← Nbq7.out] at hx525_4)
         obtain rfl : ad520 = ad525 := (by injection e525)
         replace hx525_0 := (HB.out.cell (World.block_lt_of_cell? w _ hx525_0)).trans hx525_0
         replace hx525_1 := (HB.out.cell (World.block_lt_of_cell? w _ hx525_1)).trans hx525_1
         replace hx525_2 := (HB.out.cell (World.block_lt_of_cell? w _ hx525_2)).trans hx525_2
         replace hx525_3 := (HB.out.cell (World.block_lt_of_cell? w _ hx525_3)).trans hx525_3
         replace hx525_4 := (HB.out.cell (World.block_lt_of_cell? w _ hx525_4)).trans hx525_4
         replace p525 := eq_true p525
         replace q525 := eq_true q525
         have p526 : 0 ≤ (x6_1 : Int) := oda
         have q526 : x6_1 < (l0.length : Int) := oda
         obtain ⟨ad526, e526, hx526_0, hx526_1, hx526_2, hx526_3, hx526_4⟩ := at_T44 HR0.out x6_1 p526 q526
         (try rw [← Nbq7.out] at hx526_4)
         obtain rfl : ad520 = ad526 := (by injection e526)
         replace hx526_0 := (HB.out.cell (World.block_lt_of_cell? w _ hx526_0)).trans hx526_0
         replace hx526_1 := (HB.out.cell (World.block_lt_of_cell? w _ hx526_1)).trans hx526_1
         replace hx526_2 := (HB.out.cell (World.block_lt_of_cell? w _ hx526_2)).trans hx526_2
         replace hx526_3 := (HB.out.cell (World.block_lt_of_cell? w _ hx526_3)).trans hx526_3
         replace hx526_4 := (HB.out.cell (World.block_lt_of_cell? w _ hx526_4)).trans hx526_4
         replace p526 := eq_true p526
         replace q526 := eq_true q526
         go_wp2_with (first | ((with_reducible refine gate_builtin (b := .append) (xs := #[.tmp 28, .tmp 33]) rfl ?_); at_builtin; refine Kd.R_append k44 (w0 := w) w.heap.size rfl (.tmp 28) (.tmp 33) 30 44 (.agg #[(.int .i64 0), (.int .i64 0), (.int .i64 0), (.int .i64 0), (.bool false)]) 40 rfl Try.underlying30 info44 rfl (by decide) (by omega) u5 x5_1 (⟨(rd_T44 l0 x6_1).f0, (rd_T44 l0 x6_1).f1, (rd_T44 l0 x6_1).f2, (rd_T44 l0 x6_1).f3, false⟩ : S44) [.int .i64 ((rd_T44 l0 x6_1).f0), .int .i64 ((rd_T44 l0 x6_1).f1), .int .i64 ((rd_T44 l0 x6_1).f2), .int .i64 ((rd_T44 l0 x6_1).f3), .bool false] (fun _ => True) (fun _ => False) rfl rfl ?aP (fun _ hk => hk.elim) ?aF ?aO ?aB ?aS ?aL ?_; (case aP => exact k44_mkM _ _ _ (⟨(rd_T44 l0 x6_1).f0, (rd_T44 l0 x6_1).f1, (rd_T44 l0 x6_1).f2, (rd_T44 l0 x6_1).f3, false⟩ : S44)); (case aB => exact (bq HB.out)); (case aF => exact (fun _ _ => trivial)); (case aO => exact (kqR HO_5.out)); (case aS => exact (below_size (bq HB.out))); (case aL => have := LMc12.out; omega); intro v528 w13 ho hb hg hat; rw [← Ny527.out] at ho; have n_ := ak2 hb ho; clear HB HO_5; obtain ⟨HB, HO529⟩ := n_; clear ho hb hg hat))
         go_roundg k1
         case measure => have := HK1.out; omega
         case rel => exact ⟨(y527), (wrap64 (x6_1 + 1)), sq, H', ⟨by have := HK1.out; omega⟩, ⟨kqR HO529.out⟩, ⟨bq HB.out⟩⟩
       rw [if_neg c12] at H
       exact absurd H (by simp)
     rw [if_neg c6] at H
     exact absurd H (by simp)
   rw [if_neg c5] at H
   have c5b0 : decide (x6_1 < (l0.length : Int)) = false := decide_eq_false c5
   clear c5
   obtain rfl := Option.some.inj H
   go_wp2
   go_ret
   exact ⟨_, rq, kqR HO_5.out, bq HB.out⟩

/-! ### laws_FnFdbsBent: function 12 -/
def laws_FnFdbsBent.f (k : Nat) (l0 : List Int) : Option (Bool) := (laws_big.f l0).bind fun t530 => (if t530 = true then (some true) else ((spec_DrawLearn.f k l0).bind fun bt531 => ((impl_SetStatic.f k bt531.1 bt531.2.1 bt531.2.2.1 bt531.2.2.2).bind fun bt537 => ((spec_SetStatic.f k bt531.1 bt531.2.1 bt531.2.2.1 bt531.2.2.2).bind fun bt541 => ((spec_DrawDropStatic.f k l0).bind fun bt545 => ((impl_DropStatic.f k bt545.1 bt545.2.1 bt545.2.2).bind fun bt550 => ((spec_DropStatic.f k bt545.1 bt545.2.1 bt545.2.2).bind fun bt554 => ((spec_DrawNextEnt.f k l0).bind fun bt558 => ((spec_DrawFlushPort.f k l0).bind fun bt563 => (if (bt537.2 == bt541.2) = true then (if (bt550.2 == bt554.2) = true then ((laws_sameFdb.f k bt537.1 bt541.1).bind fun t567 => (if t567 = true then ((laws_sameFdb.f k bt550.1 bt554.1).bind fun t568 => (if t568 = true then ((impl_Learn.f k bt531.1 bt531.2.1 bt531.2.2.1 bt531.2.2.2).bind fun t569 => ((spec_Learn.f k bt531.1 bt531.2.1 bt531.2.2.1 bt531.2.2.2).bind fun t572 => ((laws_sameFdb.f k t569 t572).bind fun t575 => (if t575 = true then ((impl_NextEnt.f k bt558.1 bt558.2.1 bt558.2.2).bind fun t576 => ((spec_NextEnt.f k bt558.1 bt558.2.1 bt558.2.2).bind fun t577 => (if t576 = t577 then ((impl_FlushPort.f k bt563.1 bt563.2).bind fun t578 => ((spec_FlushPort.f k bt563.1 bt563.2).bind fun t581 => ((laws_sameFdb.f k t578 t581).bind fun t584 => (if t584 = true then ((impl_FdbOk.f k bt531.1).bind fun t585 => ((spec_FdbOk.f k bt531.1).bind fun t586 => (some (t585 == t586)))) else (some false))))) else (some false)))) else (some false))))) else (some false))) else (some false))) else (some false)) else (some false)))))))))))
theorem laws_FnFdbsBent.mono : ∀ a0 k, LeO (laws_FnFdbsBent.f k a0) (laws_FnFdbsBent.f (k + 1) a0) := by
 intro a0 k
 unfold laws_FnFdbsBent.f
 repeat' first
  | (with_reducible exact impl_DropStatic.mono _ _ _ _)
  | (with_reducible exact impl_FdbOk.mono _ _)
  | (with_reducible exact impl_FlushPort.mono _ _ _)
  | (with_reducible exact impl_Learn.mono _ _ _ _ _)
  | (with_reducible exact impl_NextEnt.mono _ _ _ _)
  | (with_reducible exact impl_SetStatic.mono _ _ _ _ _)
  | (with_reducible exact laws_sameFdb.mono _ _ _)
  | (with_reducible exact spec_DrawDropStatic.mono _ _)
  | (with_reducible exact spec_DrawFlushPort.mono _ _)
  | (with_reducible exact spec_DrawLearn.mono _ _)
  | (with_reducible exact spec_DrawNextEnt.mono _ _)
  | (with_reducible exact spec_DropStatic.mono _ _ _ _)
  | (with_reducible exact spec_FdbOk.mono _ _)
  | (with_reducible exact spec_FlushPort.mono _ _ _)
  | (with_reducible exact spec_Learn.mono _ _ _ _ _)
  | (with_reducible exact spec_NextEnt.mono _ _ _ _)
  | (with_reducible exact spec_SetStatic.mono _ _ _ _ _)
  | (with_reducible exact LeO.refl _)
  | (with_reducible exact LeO.none _)
  | (with_reducible refine LeO.ite ?_ ?_)
  | (with_reducible refine LeO.bind ?_ (fun _ => ?_))
  | exact impl_DropStatic.mono _ _ _ _
  | exact impl_FdbOk.mono _ _
  | exact impl_FlushPort.mono _ _ _
  | exact impl_Learn.mono _ _ _ _ _
  | exact impl_NextEnt.mono _ _ _ _
  | exact impl_SetStatic.mono _ _ _ _ _
  | exact laws_sameFdb.mono _ _ _
  | exact spec_DrawDropStatic.mono _ _
  | exact spec_DrawFlushPort.mono _ _
  | exact spec_DrawLearn.mono _ _
  | exact spec_DrawNextEnt.mono _ _
  | exact spec_DropStatic.mono _ _ _ _
  | exact spec_FdbOk.mono _ _
  | exact spec_FlushPort.mono _ _ _
  | exact spec_Learn.mono _ _ _ _ _
  | exact spec_NextEnt.mono _ _ _ _
  | exact spec_SetStatic.mono _ _ _ _ _
  | exact LeO.none _
  | refine LeO.ite ?_ ?_
  | refine LeO.bind ?_ (fun _ => ?_)
set_option maxHeartbeats 8000000 in
set_option maxRecDepth 100000 in
theorem laws_FnFdbsBent.calls (k : Nat) (A0 : Option Addr) (c0 : Nat) (l0 : List Int) (r : Bool) (w : World) (hr0 : Kd.C (Kd.int .u8) w A0 l0.length l0) (hc0 : l0.length ≤ c0) (hr_ : r = true) (h : laws_FnFdbsBent.f k l0 = some r) :
 Calls Try.prog 12 #[.slice A0 l0.length c0] w fun e w' => e = .returned (.bool r) ∧ Below w.heap.size w w' := by
 have HRT := am hr_
 clear hr_
 have HR0 := am hr0
 have HC0 := am hc0
 clear hr0 hc0
 have HB := am (Below.refl w.heap.size w)
 have H : ((laws_big.f l0).bind fun t530 => (if t530 = true then (some true) else ((spec_DrawLearn.f k l0).bind fun bt531 => ((impl_SetStatic.f k bt531.1 bt531.2.1 bt531.2.2.1 bt531.2.2.2).bind fun bt537 => ((spec_SetStatic.f k bt531.1 bt531.2.1 bt531.2.2.1 bt531.2.2.2).bind fun bt541 => ((spec_DrawDropStatic.f k l0).bind fun bt545 => ((impl_DropStatic.f k bt545.1 bt545.2.1 bt545.2.2).bind fun bt550 => ((spec_DropStatic.f k bt545.1 bt545.2.1 bt545.2.2).bind fun bt554 => ((spec_DrawNextEnt.f k l0).bind fun bt558 => ((spec_DrawFlushPort.f k l0).bind fun bt563 => (if (bt537.2 == bt541.2) = true then (if (bt550.2 == bt554.2) = true then ((laws_sameFdb.f k bt537.1 bt541.1).bind fun t567 => (if t567 = true then ((laws_sameFdb.f k bt550.1 bt554.1).bind fun t568 => (if t568 = true then ((impl_Learn.f k bt531.1 bt531.2.1 bt531.2.2.1 bt531.2.2.2).bind fun t569 => ((spec_Learn.f k bt531.1 bt531.2.1 bt531.2.2.1 bt531.2.2.2).bind fun t572 => ((laws_sameFdb.f k t569 t572).bind fun t575 => (if t575 = true then ((impl_NextEnt.f k bt558.1 bt558.2.1 bt558.2.2).bind fun t576 => ((spec_NextEnt.f k bt558.1 bt558.2.1 bt558.2.2).bind fun t577 => (if t576 = t577 then ((impl_FlushPort.f k bt563.1 bt563.2).bind fun t578 => ((spec_FlushPort.f k bt563.1 bt563.2).bind fun t581 => ((laws_sameFdb.f k t578 t581).bind fun t584 => (if t584 = true then ((impl_FdbOk.f k bt531.1).bind fun t585 => ((spec_FdbOk.f k bt531.1).bind fun t586 => (some (t585 == t586)))) else (some false))))) else (some false)))) else (some false))))) else (some false))) else (some false))) else (some false)) else (some false)))))))))))) = some r := h
 clear h
 replace H := Option.bind_eq_some_iff.mp H
 obtain ⟨t530, A20, H⟩ := H
 replace H : (if t530 = true then (some true) else ((spec_DrawLearn.f k l0).bind fun bt531 => ((impl_SetStatic.f k bt531.1 bt531.2.1 bt531.2.2.1 bt531.2.2.2).bind fun bt537 => ((spec_SetStatic.f k bt531.1 bt531.2.1 bt531.2.2.1 bt531.2.2.2).bind fun bt541 => ((spec_DrawDropStatic.f k l0).bind fun bt545 => ((impl_DropStatic.f k bt545.1 bt545.2.1 bt545.2.2).bind fun bt550 => ((spec_DropStatic.f k bt545.1 bt545.2.1 bt545.2.2).bind fun bt554 => ((spec_DrawNextEnt.f k l0).bind fun bt558 => ((spec_DrawFlushPort.f k l0).bind fun bt563 => (if (bt537.2 == bt541.2) = true then (if (bt550.2 == bt554.2) = true then ((laws_sameFdb.f k bt537.1 bt541.1).bind fun t567 => (if t567 = true then ((laws_sameFdb.f k bt550.1 bt554.1).bind fun t568 => (if t568 = true then ((impl_Learn.f k bt531.1 bt531.2.1 bt531.2.2.1 bt531.2.2.2).bind fun t569 => ((spec_Learn.f k bt531.1 bt531.2.1 bt531.2.2.1 bt531.2.2.2).bind fun t572 => ((laws_sameFdb.f k t569 t572).bind fun t575 => (if t575 = true then ((impl_NextEnt.f k bt558.1 bt558.2.1 bt558.2.2).bind fun t576 => ((spec_NextEnt.f k bt558.1 bt558.2.1 bt558.2.2).bind fun t577 => (if t576 = t577 then ((impl_FlushPort.f k bt563.1 bt563.2).bind fun t578 => ((spec_FlushPort.f k bt563.1 bt563.2).bind fun t581 => ((laws_sameFdb.f k t578 t581).bind fun t584 => (if t584 = true then ((impl_FdbOk.f k bt531.1).bind fun t585 => ((spec_FdbOk.f k bt531.1).bind fun t586 => (some (t585 == t586)))) else (some false))))) else (some false)))) else (some false))))) else (some false))) else (some false))) else (some false)) else (some false))))))))))) = some r := H
 have A2 := am A20
 clear A20
 by_cases c3 : t530 = true
 · subst c3
   have H1 : (some true) = some r := by rw [if_pos rfl] at H; exact H
   clear H
   have H := H1
   clear H1
   obtain rfl := Option.some.inj H
   go_enter Try.func12, Try.ntmps12
   go_wp2_with (first | ((with_reducible refine gate_callee (f := 26) rfl ?_); refine goesL_ (some 24) rfl rfl Try.func26 (by kernel_rfl) rfl #[.slice A0 l0.length c0] rfl ga ?_; (with_reducible refine (laws_big.calls _ _ l0 true _ ?side1 ?side2 A2.out).mono ?_); (case side1 => exact cq HR0.out); (case side2 => exact HC0.out); rintro e w' ⟨rfl, ⟨nd, rfl⟩⟩; refine ⟨_, rfl, ?_⟩))
   go_ret
   exact ⟨rq, bq HB.out⟩
 replace c3 := Bool.eq_false_iff.mpr c3
 subst c3
 have H1 : ((spec_DrawLearn.f k l0).bind fun bt531 => ((impl_SetStatic.f k bt531.1 bt531.2.1 bt531.2.2.1 bt531.2.2.2).bind fun bt537 => ((spec_SetStatic.f k bt531.1 bt531.2.1 bt531.2.2.1 bt531.2.2.2).bind fun bt541 => ((spec_DrawDropStatic.f k l0).bind fun bt545 => ((impl_DropStatic.f k bt545.1 bt545.2.1 bt545.2.2).bind fun bt550 => ((spec_DropStatic.f k bt545.1 bt545.2.1 bt545.2.2).bind fun bt554 => ((spec_DrawNextEnt.f k l0).bind fun bt558 => ((spec_DrawFlushPort.f k l0).bind fun bt563 => (if (bt537.2 == bt541.2) = true then (if (bt550.2 == bt554.2) = true then ((laws_sameFdb.f k bt537.1 bt541.1).bind fun t567 => (if t567 = true then ((laws_sameFdb.f k bt550.1 bt554.1).bind fun t568 => (if t568 = true then ((impl_Learn.f k bt531.1 bt531.2.1 bt531.2.2.1 bt531.2.2.2).bind fun t569 => ((spec_Learn.f k bt531.1 bt531.2.1 bt531.2.2.1 bt531.2.2.2).bind fun t572 => ((laws_sameFdb.f k t569 t572).bind fun t575 => (if t575 = true then ((impl_NextEnt.f k bt558.1 bt558.2.1 bt558.2.2).bind fun t576 => ((spec_NextEnt.f k bt558.1 bt558.2.1 bt558.2.2).bind fun t577 => (if t576 = t577 then ((impl_FlushPort.f k bt563.1 bt563.2).bind fun t578 => ((spec_FlushPort.f k bt563.1 bt563.2).bind fun t581 => ((laws_sameFdb.f k t578 t581).bind fun t584 => (if t584 = true then ((impl_FdbOk.f k bt531.1).bind fun t585 => ((spec_FdbOk.f k bt531.1).bind fun t586 => (some (t585 == t586)))) else (some false))))) else (some false)))) else (some false))))) else (some false))) else (some false))) else (some false)) else (some false)))))))))) = some r := by rw [if_neg (show ¬ (false = true) by decide)] at H; exact H
 clear H
 have H := H1
 clear H1
 replace H := Option.bind_eq_some_iff.mp H
 obtain ⟨⟨t531, t532, t533, t534⟩, A40, H⟩ := H
 replace H : ((impl_SetStatic.f k t531 t532 t533 t534).bind fun bt537 => ((spec_SetStatic.f k t531 t532 t533 t534).bind fun bt541 => ((spec_DrawDropStatic.f k l0).bind fun bt545 => ((impl_DropStatic.f k bt545.1 bt545.2.1 bt545.2.2).bind fun bt550 => ((spec_DropStatic.f k bt545.1 bt545.2.1 bt545.2.2).bind fun bt554 => ((spec_DrawNextEnt.f k l0).bind fun bt558 => ((spec_DrawFlushPort.f k l0).bind fun bt563 => (if (bt537.2 == bt541.2) = true then (if (bt550.2 == bt554.2) = true then ((laws_sameFdb.f k bt537.1 bt541.1).bind fun t567 => (if t567 = true then ((laws_sameFdb.f k bt550.1 bt554.1).bind fun t568 => (if t568 = true then ((impl_Learn.f k t531 t532 t533 t534).bind fun t569 => ((spec_Learn.f k t531 t532 t533 t534).bind fun t572 => ((laws_sameFdb.f k t569 t572).bind fun t575 => (if t575 = true then ((impl_NextEnt.f k bt558.1 bt558.2.1 bt558.2.2).bind fun t576 => ((spec_NextEnt.f k bt558.1 bt558.2.1 bt558.2.2).bind fun t577 => (if t576 = t577 then ((impl_FlushPort.f k bt563.1 bt563.2).bind fun t578 => ((spec_FlushPort.f k bt563.1 bt563.2).bind fun t581 => ((laws_sameFdb.f k t578 t581).bind fun t584 => (if t584 = true then ((impl_FdbOk.f k t531).bind fun t585 => ((spec_FdbOk.f k t531).bind fun t586 => (some (t585 == t586)))) else (some false))))) else (some false)))) else (some false))))) else (some false))) else (some false))) else (some false)) else (some false))))))))) = some r := H
 have A4 := am A40
 clear A40
 replace H := Option.bind_eq_some_iff.mp H
 obtain ⟨⟨t537, t538⟩, A50, H⟩ := H
 replace H : ((spec_SetStatic.f k t531 t532 t533 t534).bind fun bt541 => ((spec_DrawDropStatic.f k l0).bind fun bt545 => ((impl_DropStatic.f k bt545.1 bt545.2.1 bt545.2.2).bind fun bt550 => ((spec_DropStatic.f k bt545.1 bt545.2.1 bt545.2.2).bind fun bt554 => ((spec_DrawNextEnt.f k l0).bind fun bt558 => ((spec_DrawFlushPort.f k l0).bind fun bt563 => (if (t538 == bt541.2) = true then (if (bt550.2 == bt554.2) = true then ((laws_sameFdb.f k t537 bt541.1).bind fun t567 => (if t567 = true then ((laws_sameFdb.f k bt550.1 bt554.1).bind fun t568 => (if t568 = true then ((impl_Learn.f k t531 t532 t533 t534).bind fun t569 => ((spec_Learn.f k t531 t532 t533 t534).bind fun t572 => ((laws_sameFdb.f k t569 t572).bind fun t575 => (if t575 = true then ((impl_NextEnt.f k bt558.1 bt558.2.1 bt558.2.2).bind fun t576 => ((spec_NextEnt.f k bt558.1 bt558.2.1 bt558.2.2).bind fun t577 => (if t576 = t577 then ((impl_FlushPort.f k bt563.1 bt563.2).bind fun t578 => ((spec_FlushPort.f k bt563.1 bt563.2).bind fun t581 => ((laws_sameFdb.f k t578 t581).bind fun t584 => (if t584 = true then ((impl_FdbOk.f k t531).bind fun t585 => ((spec_FdbOk.f k t531).bind fun t586 => (some (t585 == t586)))) else (some false))))) else (some false)))) else (some false))))) else (some false))) else (some false))) else (some false)) else (some false)))))))) = some r := H
 have A5 := am A50
 clear A50
 replace H := Option.bind_eq_some_iff.mp H
 obtain ⟨⟨t541, t542⟩, A60, H⟩ := H
 replace H : ((spec_DrawDropStatic.f k l0).bind fun bt545 => ((impl_DropStatic.f k bt545.1 bt545.2.1 bt545.2.2).bind fun bt550 => ((spec_DropStatic.f k bt545.1 bt545.2.1 bt545.2.2).bind fun bt554 => ((spec_DrawNextEnt.f k l0).bind fun bt558 => ((spec_DrawFlushPort.f k l0).bind fun bt563 => (if (t538 == t542) = true then (if (bt550.2 == bt554.2) = true then ((laws_sameFdb.f k t537 t541).bind fun t567 => (if t567 = true then ((laws_sameFdb.f k bt550.1 bt554.1).bind fun t568 => (if t568 = true then ((impl_Learn.f k t531 t532 t533 t534).bind fun t569 => ((spec_Learn.f k t531 t532 t533 t534).bind fun t572 => ((laws_sameFdb.f k t569 t572).bind fun t575 => (if t575 = true then ((impl_NextEnt.f k bt558.1 bt558.2.1 bt558.2.2).bind fun t576 => ((spec_NextEnt.f k bt558.1 bt558.2.1 bt558.2.2).bind fun t577 => (if t576 = t577 then ((impl_FlushPort.f k bt563.1 bt563.2).bind fun t578 => ((spec_FlushPort.f k bt563.1 bt563.2).bind fun t581 => ((laws_sameFdb.f k t578 t581).bind fun t584 => (if t584 = true then ((impl_FdbOk.f k t531).bind fun t585 => ((spec_FdbOk.f k t531).bind fun t586 => (some (t585 == t586)))) else (some false))))) else (some false)))) else (some false))))) else (some false))) else (some false))) else (some false)) else (some false))))))) = some r := H
 have A6 := am A60
 clear A60
 replace H := Option.bind_eq_some_iff.mp H
 obtain ⟨⟨t545, t546, t547⟩, A70, H⟩ := H
 replace H : ((impl_DropStatic.f k t545 t546 t547).bind fun bt550 => ((spec_DropStatic.f k t545 t546 t547).bind fun bt554 => ((spec_DrawNextEnt.f k l0).bind fun bt558 => ((spec_DrawFlushPort.f k l0).bind fun bt563 => (if (t538 == t542) = true then (if (bt550.2 == bt554.2) = true then ((laws_sameFdb.f k t537 t541).bind fun t567 => (if t567 = true then ((laws_sameFdb.f k bt550.1 bt554.1).bind fun t568 => (if t568 = true then ((impl_Learn.f k t531 t532 t533 t534).bind fun t569 => ((spec_Learn.f k t531 t532 t533 t534).bind fun t572 => ((laws_sameFdb.f k t569 t572).bind fun t575 => (if t575 = true then ((impl_NextEnt.f k bt558.1 bt558.2.1 bt558.2.2).bind fun t576 => ((spec_NextEnt.f k bt558.1 bt558.2.1 bt558.2.2).bind fun t577 => (if t576 = t577 then ((impl_FlushPort.f k bt563.1 bt563.2).bind fun t578 => ((spec_FlushPort.f k bt563.1 bt563.2).bind fun t581 => ((laws_sameFdb.f k t578 t581).bind fun t584 => (if t584 = true then ((impl_FdbOk.f k t531).bind fun t585 => ((spec_FdbOk.f k t531).bind fun t586 => (some (t585 == t586)))) else (some false))))) else (some false)))) else (some false))))) else (some false))) else (some false))) else (some false)) else (some false)))))) = some r := H
 have A7 := am A70
 clear A70
 replace H := Option.bind_eq_some_iff.mp H
 obtain ⟨⟨t550, t551⟩, A80, H⟩ := H
 replace H : ((spec_DropStatic.f k t545 t546 t547).bind fun bt554 => ((spec_DrawNextEnt.f k l0).bind fun bt558 => ((spec_DrawFlushPort.f k l0).bind fun bt563 => (if (t538 == t542) = true then (if (t551 == bt554.2) = true then ((laws_sameFdb.f k t537 t541).bind fun t567 => (if t567 = true then ((laws_sameFdb.f k t550 bt554.1).bind fun t568 => (if t568 = true then ((impl_Learn.f k t531 t532 t533 t534).bind fun t569 => ((spec_Learn.f k t531 t532 t533 t534).bind fun t572 => ((laws_sameFdb.f k t569 t572).bind fun t575 => (if t575 = true then ((impl_NextEnt.f k bt558.1 bt558.2.1 bt558.2.2).bind fun t576 => ((spec_NextEnt.f k bt558.1 bt558.2.1 bt558.2.2).bind fun t577 => (if t576 = t577 then ((impl_FlushPort.f k bt563.1 bt563.2).bind fun t578 => ((spec_FlushPort.f k bt563.1 bt563.2).bind fun t581 => ((laws_sameFdb.f k t578 t581).bind fun t584 => (if t584 = true then ((impl_FdbOk.f k t531).bind fun t585 => ((spec_FdbOk.f k t531).bind fun t586 => (some (t585 == t586)))) else (some false))))) else (some false)))) else (some false))))) else (some false))) else (some false))) else (some false)) else (some false))))) = some r := H
 have A8 := am A80
 clear A80
 replace H := Option.bind_eq_some_iff.mp H
 obtain ⟨⟨t554, t555⟩, A90, H⟩ := H
 replace H : ((spec_DrawNextEnt.f k l0).bind fun bt558 => ((spec_DrawFlushPort.f k l0).bind fun bt563 => (if (t538 == t542) = true then (if (t551 == t555) = true then ((laws_sameFdb.f k t537 t541).bind fun t567 => (if t567 = true then ((laws_sameFdb.f k t550 t554).bind fun t568 => (if t568 = true then ((impl_Learn.f k t531 t532 t533 t534).bind fun t569 => ((spec_Learn.f k t531 t532 t533 t534).bind fun t572 => ((laws_sameFdb.f k t569 t572).bind fun t575 => (if t575 = true then ((impl_NextEnt.f k bt558.1 bt558.2.1 bt558.2.2).bind fun t576 => ((spec_NextEnt.f k bt558.1 bt558.2.1 bt558.2.2).bind fun t577 => (if t576 = t577 then ((impl_FlushPort.f k bt563.1 bt563.2).bind fun t578 => ((spec_FlushPort.f k bt563.1 bt563.2).bind fun t581 => ((laws_sameFdb.f k t578 t581).bind fun t584 => (if t584 = true then ((impl_FdbOk.f k t531).bind fun t585 => ((spec_FdbOk.f k t531).bind fun t586 => (some (t585 == t586)))) else (some false))))) else (some false)))) else (some false))))) else (some false))) else (some false))) else (some false)) else (some false)))) = some r := H
 have A9 := am A90
 clear A90
 replace H := Option.bind_eq_some_iff.mp H
 obtain ⟨⟨t558, t559, t560⟩, A100, H⟩ := H
 replace H : ((spec_DrawFlushPort.f k l0).bind fun bt563 => (if (t538 == t542) = true then (if (t551 == t555) = true then ((laws_sameFdb.f k t537 t541).bind fun t567 => (if t567 = true then ((laws_sameFdb.f k t550 t554).bind fun t568 => (if t568 = true then ((impl_Learn.f k t531 t532 t533 t534).bind fun t569 => ((spec_Learn.f k t531 t532 t533 t534).bind fun t572 => ((laws_sameFdb.f k t569 t572).bind fun t575 => (if t575 = true then ((impl_NextEnt.f k t558 t559 t560).bind fun t576 => ((spec_NextEnt.f k t558 t559 t560).bind fun t577 => (if t576 = t577 then ((impl_FlushPort.f k bt563.1 bt563.2).bind fun t578 => ((spec_FlushPort.f k bt563.1 bt563.2).bind fun t581 => ((laws_sameFdb.f k t578 t581).bind fun t584 => (if t584 = true then ((impl_FdbOk.f k t531).bind fun t585 => ((spec_FdbOk.f k t531).bind fun t586 => (some (t585 == t586)))) else (some false))))) else (some false)))) else (some false))))) else (some false))) else (some false))) else (some false)) else (some false))) = some r := H
 have A10 := am A100
 clear A100
 replace H := Option.bind_eq_some_iff.mp H
 obtain ⟨⟨t563, t564⟩, A110, H⟩ := H
 replace H : (if (t538 == t542) = true then (if (t551 == t555) = true then ((laws_sameFdb.f k t537 t541).bind fun t567 => (if t567 = true then ((laws_sameFdb.f k t550 t554).bind fun t568 => (if t568 = true then ((impl_Learn.f k t531 t532 t533 t534).bind fun t569 => ((spec_Learn.f k t531 t532 t533 t534).bind fun t572 => ((laws_sameFdb.f k t569 t572).bind fun t575 => (if t575 = true then ((impl_NextEnt.f k t558 t559 t560).bind fun t576 => ((spec_NextEnt.f k t558 t559 t560).bind fun t577 => (if t576 = t577 then ((impl_FlushPort.f k t563 t564).bind fun t578 => ((spec_FlushPort.f k t563 t564).bind fun t581 => ((laws_sameFdb.f k t578 t581).bind fun t584 => (if t584 = true then ((impl_FdbOk.f k t531).bind fun t585 => ((spec_FdbOk.f k t531).bind fun t586 => (some (t585 == t586)))) else (some false))))) else (some false)))) else (some false))))) else (some false))) else (some false))) else (some false)) else (some false)) = some r := H
 have A11 := am A110
 clear A110
 by_cases c12 : (t538 == t542) = true
 · rw [if_pos c12] at H
   have c12b0 : (t538 == t542) = true := c12
   (try (have c12b1 : decide (t538 = t542) = true := by simpa using c12))
   (try (have c12b2 : (t538 == t542) = true := by simpa using c12))
   clear c12
   by_cases c13 : (t551 == t555) = true
   · rw [if_pos c13] at H
     have c13b0 : (t551 == t555) = true := c13
     (try (have c13b1 : decide (t551 = t555) = true := by simpa using c13))
     (try (have c13b2 : (t551 == t555) = true := by simpa using c13))
     clear c13
     replace H := Option.bind_eq_some_iff.mp H
     obtain ⟨t567, A140, H⟩ := H
     replace H : (if t567 = true then ((laws_sameFdb.f k t550 t554).bind fun t568 => (if t568 = true then ((impl_Learn.f k t531 t532 t533 t534).bind fun t569 => ((spec_Learn.f k t531 t532 t533 t534).bind fun t572 => ((laws_sameFdb.f k t569 t572).bind fun t575 => (if t575 = true then ((impl_NextEnt.f k t558 t559 t560).bind fun t576 => ((spec_NextEnt.f k t558 t559 t560).bind fun t577 => (if t576 = t577 then ((impl_FlushPort.f k t563 t564).bind fun t578 => ((spec_FlushPort.f k t563 t564).bind fun t581 => ((laws_sameFdb.f k t578 t581).bind fun t584 => (if t584 = true then ((impl_FdbOk.f k t531).bind fun t585 => ((spec_FdbOk.f k t531).bind fun t586 => (some (t585 == t586)))) else (some false))))) else (some false)))) else (some false))))) else (some false))) else (some false)) = some r := H
     have A14 := am A140
     clear A140
     by_cases c15 : t567 = true
     · subst c15
       have H1 : ((laws_sameFdb.f k t550 t554).bind fun t568 => (if t568 = true then ((impl_Learn.f k t531 t532 t533 t534).bind fun t569 => ((spec_Learn.f k t531 t532 t533 t534).bind fun t572 => ((laws_sameFdb.f k t569 t572).bind fun t575 => (if t575 = true then ((impl_NextEnt.f k t558 t559 t560).bind fun t576 => ((spec_NextEnt.f k t558 t559 t560).bind fun t577 => (if t576 = t577 then ((impl_FlushPort.f k t563 t564).bind fun t578 => ((spec_FlushPort.f k t563 t564).bind fun t581 => ((laws_sameFdb.f k t578 t581).bind fun t584 => (if t584 = true then ((impl_FdbOk.f k t531).bind fun t585 => ((spec_FdbOk.f k t531).bind fun t586 => (some (t585 == t586)))) else (some false))))) else (some false)))) else (some false))))) else (some false))) = some r := by rw [if_pos rfl] at H; exact H
       clear H
       have H := H1
       clear H1
       replace H := Option.bind_eq_some_iff.mp H
       obtain ⟨t568, A160, H⟩ := H
       replace H : (if t568 = true then ((impl_Learn.f k t531 t532 t533 t534).bind fun t569 => ((spec_Learn.f k t531 t532 t533 t534).bind fun t572 => ((laws_sameFdb.f k t569 t572).bind fun t575 => (if t575 = true then ((impl_NextEnt.f k t558 t559 t560).bind fun t576 => ((spec_NextEnt.f k t558 t559 t560).bind fun t577 => (if t576 = t577 then ((impl_FlushPort.f k t563 t564).bind fun t578 => ((spec_FlushPort.f k t563 t564).bind fun t581 => ((laws_sameFdb.f k t578 t581).bind fun t584 => (if t584 = true then ((impl_FdbOk.f k t531).bind fun t585 => ((spec_FdbOk.f k t531).bind fun t586 => (some (t585 == t586)))) else (some false))))) else (some false)))) else (some false))))) else (some false)) = some r := H
       have A16 := am A160
       clear A160
       by_cases c17 : t568 = true
       · subst c17
         have H1 : ((impl_Learn.f k t531 t532 t533 t534).bind fun t569 => ((spec_Learn.f k t531 t532 t533 t534).bind fun t572 => ((laws_sameFdb.f k t569 t572).bind fun t575 => (if t575 = true then ((impl_NextEnt.f k t558 t559 t560).bind fun t576 => ((spec_NextEnt.f k t558 t559 t560).bind fun t577 => (if t576 = t577 then ((impl_FlushPort.f k t563 t564).bind fun t578 => ((spec_FlushPort.f k t563 t564).bind fun t581 => ((laws_sameFdb.f k t578 t581).bind fun t584 => (if t584 = true then ((impl_FdbOk.f k t531).bind fun t585 => ((spec_FdbOk.f k t531).bind fun t586 => (some (t585 == t586)))) else (some false))))) else (some false)))) else (some false))))) = some r := by rw [if_pos rfl] at H; exact H
         clear H
         have H := H1
         clear H1
         replace H := Option.bind_eq_some_iff.mp H
         obtain ⟨t569, A180, H⟩ := H
         replace H : ((spec_Learn.f k t531 t532 t533 t534).bind fun t572 => ((laws_sameFdb.f k t569 t572).bind fun t575 => (if t575 = true then ((impl_NextEnt.f k t558 t559 t560).bind fun t576 => ((spec_NextEnt.f k t558 t559 t560).bind fun t577 => (if t576 = t577 then ((impl_FlushPort.f k t563 t564).bind fun t578 => ((spec_FlushPort.f k t563 t564).bind fun t581 => ((laws_sameFdb.f k t578 t581).bind fun t584 => (if t584 = true then ((impl_FdbOk.f k t531).bind fun t585 => ((spec_FdbOk.f k t531).bind fun t586 => (some (t585 == t586)))) else (some false))))) else (some false)))) else (some false)))) = some r := H
         have A18 := am A180
         clear A180
         replace H := Option.bind_eq_some_iff.mp H
         obtain ⟨t572, A190, H⟩ := H
         replace H : ((laws_sameFdb.f k t569 t572).bind fun t575 => (if t575 = true then ((impl_NextEnt.f k t558 t559 t560).bind fun t576 => ((spec_NextEnt.f k t558 t559 t560).bind fun t577 => (if t576 = t577 then ((impl_FlushPort.f k t563 t564).bind fun t578 => ((spec_FlushPort.f k t563 t564).bind fun t581 => ((laws_sameFdb.f k t578 t581).bind fun t584 => (if t584 = true then ((impl_FdbOk.f k t531).bind fun t585 => ((spec_FdbOk.f k t531).bind fun t586 => (some (t585 == t586)))) else (some false))))) else (some false)))) else (some false))) = some r := H
         have A19 := am A190
         clear A190
         replace H := Option.bind_eq_some_iff.mp H
         obtain ⟨t575, A200, H⟩ := H
         replace H : (if t575 = true then ((impl_NextEnt.f k t558 t559 t560).bind fun t576 => ((spec_NextEnt.f k t558 t559 t560).bind fun t577 => (if t576 = t577 then ((impl_FlushPort.f k t563 t564).bind fun t578 => ((spec_FlushPort.f k t563 t564).bind fun t581 => ((laws_sameFdb.f k t578 t581).bind fun t584 => (if t584 = true then ((impl_FdbOk.f k t531).bind fun t585 => ((spec_FdbOk.f k t531).bind fun t586 => (some (t585 == t586)))) else (some false))))) else (some false)))) else (some false)) = some r := H
         have A20 := am A200
         clear A200
         by_cases c21 : t575 = true
         · subst c21
           have H1 : ((impl_NextEnt.f k t558 t559 t560).bind fun t576 => ((spec_NextEnt.f k t558 t559 t560).bind fun t577 => (if t576 = t577 then ((impl_FlushPort.f k t563 t564).bind fun t578 => ((spec_FlushPort.f k t563 t564).bind fun t581 => ((laws_sameFdb.f k t578 t581).bind fun t584 => (if t584 = true then ((impl_FdbOk.f k t531).bind fun t585 => ((spec_FdbOk.f k t531).bind fun t586 => (some (t585 == t586)))) else (some false))))) else (some false)))) = some r := by rw [if_pos rfl] at H; exact H
           clear H
           have H := H1
           clear H1
           replace H := Option.bind_eq_some_iff.mp H
           obtain ⟨t576, A220, H⟩ := H
           replace H : ((spec_NextEnt.f k t558 t559 t560).bind fun t577 => (if t576 = t577 then ((impl_FlushPort.f k t563 t564).bind fun t578 => ((spec_FlushPort.f k t563 t564).bind fun t581 => ((laws_sameFdb.f k t578 t581).bind fun t584 => (if t584 = true then ((impl_FdbOk.f k t531).bind fun t585 => ((spec_FdbOk.f k t531).bind fun t586 => (some (t585 == t586)))) else (some false))))) else (some false))) = some r := H
           have A22 := am A220
           clear A220
           replace H := Option.bind_eq_some_iff.mp H
           obtain ⟨t577, A230, H⟩ := H
           replace H : (if t576 = t577 then ((impl_FlushPort.f k t563 t564).bind fun t578 => ((spec_FlushPort.f k t563 t564).bind fun t581 => ((laws_sameFdb.f k t578 t581).bind fun t584 => (if t584 = true then ((impl_FdbOk.f k t531).bind fun t585 => ((spec_FdbOk.f k t531).bind fun t586 => (some (t585 == t586)))) else (some false))))) else (some false)) = some r := H
           have A23 := am A230
           clear A230
           by_cases c24 : t576 = t577
           · rw [if_pos c24] at H
             have c24b0 : (t576 == t577) = true := beq_iff_eq.mpr c24
             have c24b1 : (t576 != t577) = false := bne_eq_false_iff_eq.mpr c24
             clear c24
             replace H := Option.bind_eq_some_iff.mp H
             obtain ⟨t578, A250, H⟩ := H
             replace H : ((spec_FlushPort.f k t563 t564).bind fun t581 => ((laws_sameFdb.f k t578 t581).bind fun t584 => (if t584 = true then ((impl_FdbOk.f k t531).bind fun t585 => ((spec_FdbOk.f k t531).bind fun t586 => (some (t585 == t586)))) else (some false)))) = some r := H
             have A25 := am A250
             clear A250
             replace H := Option.bind_eq_some_iff.mp H
             obtain ⟨t581, A260, H⟩ := H
             replace H : ((laws_sameFdb.f k t578 t581).bind fun t584 => (if t584 = true then ((impl_FdbOk.f k t531).bind fun t585 => ((spec_FdbOk.f k t531).bind fun t586 => (some (t585 == t586)))) else (some false))) = some r := H
             have A26 := am A260
             clear A260
             replace H := Option.bind_eq_some_iff.mp H
             obtain ⟨t584, A270, H⟩ := H
             replace H : (if t584 = true then ((impl_FdbOk.f k t531).bind fun t585 => ((spec_FdbOk.f k t531).bind fun t586 => (some (t585 == t586)))) else (some false)) = some r := H
             have A27 := am A270
             clear A270
             by_cases c28 : t584 = true
             · subst c28
               have H1 : ((impl_FdbOk.f k t531).bind fun t585 => ((spec_FdbOk.f k t531).bind fun t586 => (some (t585 == t586)))) = some r := by rw [if_pos rfl] at H; exact H
               clear H
               have H := H1
               clear H1
               replace H := Option.bind_eq_some_iff.mp H
               obtain ⟨t585, A290, H⟩ := H
               replace H : ((spec_FdbOk.f k t531).bind fun t586 => (some (t585 == t586))) = some r := H
               have A29 := am A290
               clear A290
               replace H := Option.bind_eq_some_iff.mp H
               obtain ⟨t586, A300, H⟩ := H
               replace H : (some (t585 == t586)) = some r := H
               have A30 := am A300
               clear A300
               obtain rfl := Option.some.inj H
               go_enter Try.func12, Try.ntmps12
               go_wp2_with (first | ((with_reducible refine gate_callee (f := 26) rfl ?_); refine goesL_ (some 24) rfl rfl Try.func26 (by kernel_rfl) rfl #[.slice A0 l0.length c0] rfl ga ?_; (with_reducible refine (laws_big.calls _ _ l0 false _ ?side1 ?side2 A2.out).mono ?_); (case side1 => exact cq HR0.out); (case side2 => exact HC0.out); rintro e w' ⟨rfl, ⟨nd, rfl⟩⟩; refine ⟨_, rfl, ?_⟩) | ((with_reducible refine gate_callee (f := 54) rfl ?_); refine goesL_ (some 27) rfl rfl Try.func54 (by kernel_rfl) rfl #[.slice A0 l0.length c0] rfl ga ?_; (with_reducible refine (spec_DrawLearn.calls k _ _ l0 t531 t532 t533 t534 _ ?side1 ?side2 A4.out).mono ?_); (case side1 => exact cq HR0.out); (case side2 => exact HC0.out); rintro e w31 ⟨v535, rfl, ho0, hb⟩; refine ⟨_, rfl, ?_⟩; have n_ := ak2 (Kd.R_lower ho0 (below_size (bq HB.out))) (below_step (bq HB.out) hb); clear HB; obtain ⟨HO536, HB⟩ := n_; (try clear hb ho0); obtain ⟨Ao32, co32, eo32⟩ := Kd.R_slice HO536.out; subst eo32) | ((with_reducible refine gate_callee (f := 22) rfl ?_); refine goesL_ (some 37) rfl rfl Try.func22 (by kernel_rfl) rfl #[.slice Ao32 t531.length co32, .int .i64 t532, .int .i64 t533, .int .i64 t534] rfl ga ?_; (with_reducible refine (impl_SetStatic.calls k _ _ t531 t532 t533 t534 t537 t538 _ ?side1 ?side2 A5.out).mono ?_); (case side1 => repeat (first | exact (Kd.R_reads' HO536.out).2.2 | (with_reducible refine Kd.C_alloc ?_ _) | (with_reducible refine Kd.C_drewN ?_ _) | (with_reducible refine Kd.C_drew ?_))); (case side2 => exact (Kd.R_reads' HO536.out).2.1); rintro e w33 ⟨v539, rfl, ho0, hb⟩; refine ⟨_, rfl, ?_⟩; have n_ := ak3 (Kd.R_elder' (kqR HO536.out) (Kd.R_base ho0) hb) (Kd.R_lower (Kd.R_new' ho0 (Kd.R_lt (kqR HO536.out))) (below_size (bq HB.out))) (below_step (bq HB.out) hb); clear HO536 HB; obtain ⟨HO536, HO540, HB⟩ := n_; (try clear hb ho0)) | ((with_reducible refine gate_callee (f := 20) rfl ?_); refine goesL_ (some 45) rfl rfl Try.func20 (by kernel_rfl) rfl #[.slice Ao32 t531.length co32, .int .i64 t532, .int .i64 t533, .int .i64 t534] rfl ga ?_; (with_reducible refine (spec_SetStatic.calls k _ _ t531 t532 t533 t534 t541 t542 _ ?side1 ?side2 A6.out).mono ?_); (case side1 => repeat (first | exact (Kd.R_reads' HO536.out).2.2 | (with_reducible refine Kd.C_alloc ?_ _) | (with_reducible refine Kd.C_drewN ?_ _) | (with_reducible refine Kd.C_drew ?_))); (case side2 => exact (Kd.R_reads' HO536.out).2.1); rintro e w34 ⟨v543, rfl, ho0, hb⟩; refine ⟨_, rfl, ?_⟩; have n_ := ak4 (Kd.R_elder' (kqR HO536.out) (Kd.R_base ho0) hb) (Kd.R_elder' (kqR HO540.out) (Kd.R_base ho0) hb) (Kd.R_lower (Kd.R_new' (Kd.R_new' ho0 (Kd.R_lt (kqR HO536.out))) (Kd.R_lt (kqR HO540.out))) (below_size (bq HB.out))) (below_step (bq HB.out) hb); clear HO536 HO540 HB; obtain ⟨HO536, HO540, HO544, HB⟩ := n_; (try clear hb ho0)) | ((with_reducible refine gate_callee (f := 55) rfl ?_); refine goesL_ (some 50) rfl rfl Try.func55 (by kernel_rfl) rfl #[.slice A0 l0.length c0] rfl ga ?_; (with_reducible refine (spec_DrawDropStatic.calls k _ _ l0 t545 t546 t547 _ ?side1 ?side2 A7.out).mono ?_); (case side1 => exact cq (Kd.C_below HR0.out HB.out)); (case side2 => exact HC0.out); rintro e w35 ⟨v548, rfl, ho0, hb⟩; refine ⟨_, rfl, ?_⟩; have n_ := ak5 (Kd.R_elder' (kqR HO536.out) (Kd.R_base ho0) hb) (Kd.R_elder' (kqR HO540.out) (Kd.R_base ho0) hb) (Kd.R_elder' (kqR HO544.out) (Kd.R_base ho0) hb) (Kd.R_lower (Kd.R_new' (Kd.R_new' (Kd.R_new' ho0 (Kd.R_lt (kqR HO536.out))) (Kd.R_lt (kqR HO540.out))) (Kd.R_lt (kqR HO544.out))) (below_size (bq HB.out))) (below_step (bq HB.out) hb); clear HO536 HO540 HO544 HB; obtain ⟨HO536, HO540, HO544, HO549, HB⟩ := n_; (try clear hb ho0); obtain ⟨Ao36, co36, eo36⟩ := Kd.R_slice HO549.out; subst eo36) | ((with_reducible refine gate_callee (f := 41) rfl ?_); refine goesL_ (some 58) rfl rfl Try.func41 (by kernel_rfl) rfl #[.slice Ao36 t545.length co36, .int .i64 t546, .int .i64 t547] rfl ga ?_; (with_reducible refine (impl_DropStatic.calls k _ _ t545 t546 t547 t550 t551 _ ?side1 ?side2 A8.out).mono ?_); (case side1 => repeat (first | exact (Kd.R_reads' HO549.out).2.2 | (with_reducible refine Kd.C_alloc ?_ _) | (with_reducible refine Kd.C_drewN ?_ _) | (with_reducible refine Kd.C_drew ?_))); (case side2 => exact (Kd.R_reads' HO549.out).2.1); rintro e w37 ⟨v552, rfl, ho0, hb⟩; refine ⟨_, rfl, ?_⟩; have n_ := ak6 (Kd.R_elder' (kqR HO536.out) (Kd.R_base ho0) hb) (Kd.R_elder' (kqR HO540.out) (Kd.R_base ho0) hb) (Kd.R_elder' (kqR HO544.out) (Kd.R_base ho0) hb) (Kd.R_elder' (kqR HO549.out) (Kd.R_base ho0) hb) (Kd.R_lower (Kd.R_new' (Kd.R_new' (Kd.R_new' (Kd.R_new' ho0 (Kd.R_lt (kqR HO536.out))) (Kd.R_lt (kqR HO540.out))) (Kd.R_lt (kqR HO544.out))) (Kd.R_lt (kqR HO549.out))) (below_size (bq HB.out))) (below_step (bq HB.out) hb); clear HO536 HO540 HO544 HO549 HB; obtain ⟨HO536, HO540, HO544, HO549, HO553, HB⟩ := n_; (try clear hb ho0)) | ((with_reducible refine gate_callee (f := 56) rfl ?_); refine goesL_ (some 65) rfl rfl Try.func56 (by kernel_rfl) rfl #[.slice Ao36 t545.length co36, .int .i64 t546, .int .i64 t547] rfl ga ?_; (with_reducible refine (spec_DropStatic.calls k _ _ t545 t546 t547 t554 t555 _ ?side1 ?side2 A9.out).mono ?_); (case side1 => repeat (first | exact (Kd.R_reads' HO549.out).2.2 | (with_reducible refine Kd.C_alloc ?_ _) | (with_reducible refine Kd.C_drewN ?_ _) | (with_reducible refine Kd.C_drew ?_))); (case side2 => exact (Kd.R_reads' HO549.out).2.1); rintro e w38 ⟨v556, rfl, ho0, hb⟩; refine ⟨_, rfl, ?_⟩; have n_ := ak7 (Kd.R_elder' (kqR HO536.out) (Kd.R_base ho0) hb) (Kd.R_elder' (kqR HO540.out) (Kd.R_base ho0) hb) (Kd.R_elder' (kqR HO544.out) (Kd.R_base ho0) hb) (Kd.R_elder' (kqR HO549.out) (Kd.R_base ho0) hb) (Kd.R_elder' (kqR HO553.out) (Kd.R_base ho0) hb) (Kd.R_lower (Kd.R_new' (Kd.R_new' (Kd.R_new' (Kd.R_new' (Kd.R_new' ho0 (Kd.R_lt (kqR HO536.out))) (Kd.R_lt (kqR HO540.out))) (Kd.R_lt (kqR HO544.out))) (Kd.R_lt (kqR HO549.out))) (Kd.R_lt (kqR HO553.out))) (below_size (bq HB.out))) (below_step (bq HB.out) hb); clear HO536 HO540 HO544 HO549 HO553 HB; obtain ⟨HO536, HO540, HO544, HO549, HO553, HO557, HB⟩ := n_; (try clear hb ho0)) | ((with_reducible refine gate_callee (f := 57) rfl ?_); refine goesL_ (some 70) rfl rfl Try.func57 (by kernel_rfl) rfl #[.slice A0 l0.length c0] rfl ga ?_; (with_reducible refine (spec_DrawNextEnt.calls k _ _ l0 t558 t559 t560 _ ?side1 ?side2 A10.out).mono ?_); (case side1 => exact cq (Kd.C_below HR0.out HB.out)); (case side2 => exact HC0.out); rintro e w39 ⟨v561, rfl, ho0, hb⟩; refine ⟨_, rfl, ?_⟩; have n_ := ak8 (Kd.R_elder' (kqR HO536.out) (Kd.R_base ho0) hb) (Kd.R_elder' (kqR HO540.out) (Kd.R_base ho0) hb) (Kd.R_elder' (kqR HO544.out) (Kd.R_base ho0) hb) (Kd.R_elder' (kqR HO549.out) (Kd.R_base ho0) hb) (Kd.R_elder' (kqR HO553.out) (Kd.R_base ho0) hb) (Kd.R_elder' (kqR HO557.out) (Kd.R_base ho0) hb) (Kd.R_lower (Kd.R_new' (Kd.R_new' (Kd.R_new' (Kd.R_new' (Kd.R_new' (Kd.R_new' ho0 (Kd.R_lt (kqR HO536.out))) (Kd.R_lt (kqR HO540.out))) (Kd.R_lt (kqR HO544.out))) (Kd.R_lt (kqR HO549.out))) (Kd.R_lt (kqR HO553.out))) (Kd.R_lt (kqR HO557.out))) (below_size (bq HB.out))) (below_step (bq HB.out) hb); clear HO536 HO540 HO544 HO549 HO553 HO557 HB; obtain ⟨HO536, HO540, HO544, HO549, HO553, HO557, HO562, HB⟩ := n_; (try clear hb ho0)) | ((with_reducible refine gate_callee (f := 58) rfl ?_); refine goesL_ (some 76) rfl rfl Try.func58 (by kernel_rfl) rfl #[.slice A0 l0.length c0] rfl ga ?_; (with_reducible refine (spec_DrawFlushPort.calls k _ _ l0 t563 t564 _ ?side1 ?side2 A11.out).mono ?_); (case side1 => exact cq (Kd.C_below HR0.out HB.out)); (case side2 => exact HC0.out); rintro e w40 ⟨v565, rfl, ho0, hb⟩; refine ⟨_, rfl, ?_⟩; have n_ := ak9 (Kd.R_elder' (kqR HO536.out) (Kd.R_base ho0) hb) (Kd.R_elder' (kqR HO540.out) (Kd.R_base ho0) hb) (Kd.R_elder' (kqR HO544.out) (Kd.R_base ho0) hb) (Kd.R_elder' (kqR HO549.out) (Kd.R_base ho0) hb) (Kd.R_elder' (kqR HO553.out) (Kd.R_base ho0) hb) (Kd.R_elder' (kqR HO557.out) (Kd.R_base ho0) hb) (Kd.R_elder' (kqR HO562.out) (Kd.R_base ho0) hb) (Kd.R_lower (Kd.R_new' (Kd.R_new' (Kd.R_new' (Kd.R_new' (Kd.R_new' (Kd.R_new' (Kd.R_new' ho0 (Kd.R_lt (kqR HO536.out))) (Kd.R_lt (kqR HO540.out))) (Kd.R_lt (kqR HO544.out))) (Kd.R_lt (kqR HO549.out))) (Kd.R_lt (kqR HO553.out))) (Kd.R_lt (kqR HO557.out))) (Kd.R_lt (kqR HO562.out))) (below_size (bq HB.out))) (below_step (bq HB.out) hb); clear HO536 HO540 HO544 HO549 HO553 HO557 HO562 HB; obtain ⟨HO536, HO540, HO544, HO549, HO553, HO557, HO562, HO566, HB⟩ := n_; (try clear hb ho0); obtain ⟨Ao41, co41, eo41⟩ := Kd.R_slice HO540.out; subst eo41; obtain ⟨Ao42, co42, eo42⟩ := Kd.R_slice HO544.out; subst eo42) | (go_at_call 31; (with_reducible refine (laws_sameFdb.calls k _ _ t537 _ _ t541 true _ ?side1 ?side2 ?side3 ?side4 A14.out).mono ?_); (case side1 => repeat (first | exact (Kd.R_reads' HO540.out).2.2 | (with_reducible refine Kd.C_alloc ?_ _) | (with_reducible refine Kd.C_drewN ?_ _) | (with_reducible refine Kd.C_drew ?_))); (case side2 => exact (Kd.R_reads' HO540.out).2.1); (case side3 => repeat (first | exact (Kd.R_reads' HO544.out).2.2 | (with_reducible refine Kd.C_alloc ?_ _) | (with_reducible refine Kd.C_drewN ?_ _) | (with_reducible refine Kd.C_drew ?_))); (case side4 => exact (Kd.R_reads' HO544.out).2.1); rintro e w' ⟨rfl, ⟨nd, rfl⟩⟩; obtain ⟨Ao43, co43, eo43⟩ := Kd.R_slice HO553.out; subst eo43; obtain ⟨Ao44, co44, eo44⟩ := Kd.R_slice HO557.out; subst eo44) | (go_at_call 31; (with_reducible refine (laws_sameFdb.calls k _ _ t550 _ _ t554 true _ ?side1 ?side2 ?side3 ?side4 A16.out).mono ?_); (case side1 => repeat (first | exact (Kd.R_reads' HO553.out).2.2 | (with_reducible refine Kd.C_alloc ?_ _) | (with_reducible refine Kd.C_drewN ?_ _) | (with_reducible refine Kd.C_drew ?_))); (case side2 => exact (Kd.R_reads' HO553.out).2.1); (case side3 => repeat (first | exact (Kd.R_reads' HO557.out).2.2 | (with_reducible refine Kd.C_alloc ?_ _) | (with_reducible refine Kd.C_drewN ?_ _) | (with_reducible refine Kd.C_drew ?_))); (case side4 => exact (Kd.R_reads' HO557.out).2.1); rintro e w' ⟨rfl, ⟨nd, rfl⟩⟩) | (go_at_call 28; (with_reducible refine (impl_Learn.calls k _ _ t531 t532 t533 t534 t569 _ ?side1 ?side2 A18.out).mono ?_); (case side1 => repeat (first | exact (Kd.R_reads' HO536.out).2.2 | (with_reducible refine Kd.C_alloc ?_ _) | (with_reducible refine Kd.C_drewN ?_ _) | (with_reducible refine Kd.C_drew ?_))); (case side2 => exact (Kd.R_reads' HO536.out).2.1); rintro e w45 ⟨v570, rfl, ho0, hb⟩; have n_ := ak10 (Kd.R_elder' (kqR HO536.out) (Kd.R_base ho0) hb) (Kd.R_elder' (kqR HO540.out) (Kd.R_base ho0) hb) (Kd.R_elder' (kqR HO544.out) (Kd.R_base ho0) hb) (Kd.R_elder' (kqR HO549.out) (Kd.R_base ho0) hb) (Kd.R_elder' (kqR HO553.out) (Kd.R_base ho0) hb) (Kd.R_elder' (kqR HO557.out) (Kd.R_base ho0) hb) (Kd.R_elder' (kqR HO562.out) (Kd.R_base ho0) hb) (Kd.R_elder' (kqR HO566.out) (Kd.R_base ho0) hb) (Kd.R_lower (Kd.R_new' (Kd.R_new' (Kd.R_new' (Kd.R_new' (Kd.R_new' (Kd.R_new' (Kd.R_new' (Kd.R_new' ho0 (Kd.R_lt (kqR HO536.out))) (Kd.R_lt (kqR HO540.out))) (Kd.R_lt (kqR HO544.out))) (Kd.R_lt (kqR HO549.out))) (Kd.R_lt (kqR HO553.out))) (Kd.R_lt (kqR HO557.out))) (Kd.R_lt (kqR HO562.out))) (Kd.R_lt (kqR HO566.out))) (below_size (bq HB.out))) (below_step (bq HB.out) hb); clear HO536 HO540 HO544 HO549 HO553 HO557 HO562 HO566 HB; obtain ⟨HO536, HO540, HO544, HO549, HO553, HO557, HO562, HO566, HO571, HB⟩ := n_; (try clear hb ho0)) | (go_at_call 32; (with_reducible refine (spec_Learn.calls k _ _ t531 t532 t533 t534 t572 _ ?side1 ?side2 A19.out).mono ?_); (case side1 => repeat (first | exact (Kd.R_reads' HO536.out).2.2 | (with_reducible refine Kd.C_alloc ?_ _) | (with_reducible refine Kd.C_drewN ?_ _) | (with_reducible refine Kd.C_drew ?_))); (case side2 => exact (Kd.R_reads' HO536.out).2.1); rintro e w46 ⟨v573, rfl, ho0, hb⟩; have n_ := ak11 (Kd.R_elder' (kqR HO536.out) (Kd.R_base ho0) hb) (Kd.R_elder' (kqR HO540.out) (Kd.R_base ho0) hb) (Kd.R_elder' (kqR HO544.out) (Kd.R_base ho0) hb) (Kd.R_elder' (kqR HO549.out) (Kd.R_base ho0) hb) (Kd.R_elder' (kqR HO553.out) (Kd.R_base ho0) hb) (Kd.R_elder' (kqR HO557.out) (Kd.R_base ho0) hb) (Kd.R_elder' (kqR HO562.out) (Kd.R_base ho0) hb) (Kd.R_elder' (kqR HO566.out) (Kd.R_base ho0) hb) (Kd.R_elder' (kqR HO571.out) (Kd.R_base ho0) hb) (Kd.R_lower (Kd.R_new' (Kd.R_new' (Kd.R_new' (Kd.R_new' (Kd.R_new' (Kd.R_new' (Kd.R_new' (Kd.R_new' (Kd.R_new' ho0 (Kd.R_lt (kqR HO536.out))) (Kd.R_lt (kqR HO540.out))) (Kd.R_lt (kqR HO544.out))) (Kd.R_lt (kqR HO549.out))) (Kd.R_lt (kqR HO553.out))) (Kd.R_lt (kqR HO557.out))) (Kd.R_lt (kqR HO562.out))) (Kd.R_lt (kqR HO566.out))) (Kd.R_lt (kqR HO571.out))) (below_size (bq HB.out))) (below_step (bq HB.out) hb); clear HO536 HO540 HO544 HO549 HO553 HO557 HO562 HO566 HO571 HB; obtain ⟨HO536, HO540, HO544, HO549, HO553, HO557, HO562, HO566, HO571, HO574, HB⟩ := n_; (try clear hb ho0); obtain ⟨Ao47, co47, eo47⟩ := Kd.R_slice HO571.out; subst eo47; obtain ⟨Ao48, co48, eo48⟩ := Kd.R_slice HO574.out; subst eo48) | (go_at_call 31; (with_reducible refine (laws_sameFdb.calls k _ _ t569 _ _ t572 true _ ?side1 ?side2 ?side3 ?side4 A20.out).mono ?_); (case side1 => repeat (first | exact (Kd.R_reads' HO571.out).2.2 | (with_reducible refine Kd.C_alloc ?_ _) | (with_reducible refine Kd.C_drewN ?_ _) | (with_reducible refine Kd.C_drew ?_))); (case side2 => exact (Kd.R_reads' HO571.out).2.1); (case side3 => repeat (first | exact (Kd.R_reads' HO574.out).2.2 | (with_reducible refine Kd.C_alloc ?_ _) | (with_reducible refine Kd.C_drewN ?_ _) | (with_reducible refine Kd.C_drew ?_))); (case side4 => exact (Kd.R_reads' HO574.out).2.1); rintro e w' ⟨rfl, ⟨nd, rfl⟩⟩; obtain ⟨Ao49, co49, eo49⟩ := Kd.R_slice HO562.out; subst eo49) | (go_at_call 42; (with_reducible refine (impl_NextEnt.calls k _ _ t558 t559 t560 t576 _ ?side1 ?side2 A22.out).mono ?_); (case side1 => repeat (first | exact (Kd.R_reads' HO562.out).2.2 | (with_reducible refine Kd.C_alloc ?_ _) | (with_reducible refine Kd.C_drewN ?_ _) | (with_reducible refine Kd.C_drew ?_))); (case side2 => exact (Kd.R_reads' HO562.out).2.1); rintro e w50 ⟨rfl, hb⟩; have n_ := ak11 (Kd.R_below (kqR HO536.out) hb) (Kd.R_below (kqR HO540.out) hb) (Kd.R_below (kqR HO544.out) hb) (Kd.R_below (kqR HO549.out) hb) (Kd.R_below (kqR HO553.out) hb) (Kd.R_below (kqR HO557.out) hb) (Kd.R_below (kqR HO562.out) hb) (Kd.R_below (kqR HO566.out) hb) (Kd.R_below (kqR HO571.out) hb) (Kd.R_below (kqR HO574.out) hb) (below_step (bq HB.out) hb); clear HO536 HO540 HO544 HO549 HO553 HO557 HO562 HO566 HO571 HO574 HB; obtain ⟨HO536, HO540, HO544, HO549, HO553, HO557, HO562, HO566, HO571, HO574, HB⟩ := n_; (try clear hb)) | (go_at_call 59; (with_reducible refine (spec_NextEnt.calls k _ _ t558 t559 t560 t577 _ ?side1 ?side2 A23.out).mono ?_); (case side1 => repeat (first | exact (Kd.R_reads' HO562.out).2.2 | (with_reducible refine Kd.C_alloc ?_ _) | (with_reducible refine Kd.C_drewN ?_ _) | (with_reducible refine Kd.C_drew ?_))); (case side2 => exact (Kd.R_reads' HO562.out).2.1); rintro e w51 ⟨rfl, hb⟩; have n_ := ak11 (Kd.R_below (kqR HO536.out) hb) (Kd.R_below (kqR HO540.out) hb) (Kd.R_below (kqR HO544.out) hb) (Kd.R_below (kqR HO549.out) hb) (Kd.R_below (kqR HO553.out) hb) (Kd.R_below (kqR HO557.out) hb) (Kd.R_below (kqR HO562.out) hb) (Kd.R_below (kqR HO566.out) hb) (Kd.R_below (kqR HO571.out) hb) (Kd.R_below (kqR HO574.out) hb) (below_step (bq HB.out) hb); clear HO536 HO540 HO544 HO549 HO553 HO557 HO562 HO566 HO571 HO574 HB; obtain ⟨HO536, HO540, HO544, HO549, HO553, HO557, HO562, HO566, HO571, HO574, HB⟩ := n_; (try clear hb); obtain ⟨Ao52, co52, eo52⟩ := Kd.R_slice HO566.out; subst eo52) | (go_at_call 38; (with_reducible refine (impl_FlushPort.calls k _ _ t563 t564 t578 _ ?side1 ?side2 A25.out).mono ?_); (case side1 => repeat (first | exact (Kd.R_reads' HO566.out).2.2 | (with_reducible refine Kd.C_alloc ?_ _) | (with_reducible refine Kd.C_drewN ?_ _) | (with_reducible refine Kd.C_drew ?_))); (case side2 => exact (Kd.R_reads' HO566.out).2.1); rintro e w53 ⟨v579, rfl, ho0, hb⟩; have n_ := ak12 (Kd.R_elder' (kqR HO536.out) (Kd.R_base ho0) hb) (Kd.R_elder' (kqR HO540.out) (Kd.R_base ho0) hb) (Kd.R_elder' (kqR HO544.out) (Kd.R_base ho0) hb) (Kd.R_elder' (kqR HO549.out) (Kd.R_base ho0) hb) (Kd.R_elder' (kqR HO553.out) (Kd.R_base ho0) hb) (Kd.R_elder' (kqR HO557.out) (Kd.R_base ho0) hb) (Kd.R_elder' (kqR HO562.out) (Kd.R_base ho0) hb) (Kd.R_elder' (kqR HO566.out) (Kd.R_base ho0) hb) (Kd.R_elder' (kqR HO571.out) (Kd.R_base ho0) hb) (Kd.R_elder' (kqR HO574.out) (Kd.R_base ho0) hb) (Kd.R_lower (Kd.R_new' (Kd.R_new' (Kd.R_new' (Kd.R_new' (Kd.R_new' (Kd.R_new' (Kd.R_new' (Kd.R_new' (Kd.R_new' (Kd.R_new' ho0 (Kd.R_lt (kqR HO536.out))) (Kd.R_lt (kqR HO540.out))) (Kd.R_lt (kqR HO544.out))) (Kd.R_lt (kqR HO549.out))) (Kd.R_lt (kqR HO553.out))) (Kd.R_lt (kqR HO557.out))) (Kd.R_lt (kqR HO562.out))) (Kd.R_lt (kqR HO566.out))) (Kd.R_lt (kqR HO571.out))) (Kd.R_lt (kqR HO574.out))) (below_size (bq HB.out))) (below_step (bq HB.out) hb); clear HO536 HO540 HO544 HO549 HO553 HO557 HO562 HO566 HO571 HO574 HB; obtain ⟨HO536, HO540, HO544, HO549, HO553, HO557, HO562, HO566, HO571, HO574, HO580, HB⟩ := n_; (try clear hb ho0)) | (go_at_call 60; (with_reducible refine (spec_FlushPort.calls k _ _ t563 t564 t581 _ ?side1 ?side2 A26.out).mono ?_); (case side1 => repeat (first | exact (Kd.R_reads' HO566.out).2.2 | (with_reducible refine Kd.C_alloc ?_ _) | (with_reducible refine Kd.C_drewN ?_ _) | (with_reducible refine Kd.C_drew ?_))); (case side2 => exact (Kd.R_reads' HO566.out).2.1); rintro e w54 ⟨v582, rfl, ho0, hb⟩; have n_ := ak13 (Kd.R_elder' (kqR HO536.out) (Kd.R_base ho0) hb) (Kd.R_elder' (kqR HO540.out) (Kd.R_base ho0) hb) (Kd.R_elder' (kqR HO544.out) (Kd.R_base ho0) hb) (Kd.R_elder' (kqR HO549.out) (Kd.R_base ho0) hb) (Kd.R_elder' (kqR HO553.out) (Kd.R_base ho0) hb) (Kd.R_elder' (kqR HO557.out) (Kd.R_base ho0) hb) (Kd.R_elder' (kqR HO562.out) (Kd.R_base ho0) hb) (Kd.R_elder' (kqR HO566.out) (Kd.R_base ho0) hb) (Kd.R_elder' (kqR HO571.out) (Kd.R_base ho0) hb) (Kd.R_elder' (kqR HO574.out) (Kd.R_base ho0) hb) (Kd.R_elder' (kqR HO580.out) (Kd.R_base ho0) hb) (Kd.R_lower (Kd.R_new' (Kd.R_new' (Kd.R_new' (Kd.R_new' (Kd.R_new' (Kd.R_new' (Kd.R_new' (Kd.R_new' (Kd.R_new' (Kd.R_new' (Kd.R_new' ho0 (Kd.R_lt (kqR HO536.out))) (Kd.R_lt (kqR HO540.out))) (Kd.R_lt (kqR HO544.out))) (Kd.R_lt (kqR HO549.out))) (Kd.R_lt (kqR HO553.out))) (Kd.R_lt (kqR HO557.out))) (Kd.R_lt (kqR HO562.out))) (Kd.R_lt (kqR HO566.out))) (Kd.R_lt (kqR HO571.out))) (Kd.R_lt (kqR HO574.out))) (Kd.R_lt (kqR HO580.out))) (below_size (bq HB.out))) (below_step (bq HB.out) hb); clear HO536 HO540 HO544 HO549 HO553 HO557 HO562 HO566 HO571 HO574 HO580 HB; obtain ⟨HO536, HO540, HO544, HO549, HO553, HO557, HO562, HO566, HO571, HO574, HO580, HO583, HB⟩ := n_; (try clear hb ho0); obtain ⟨Ao55, co55, eo55⟩ := Kd.R_slice HO580.out; subst eo55; obtain ⟨Ao56, co56, eo56⟩ := Kd.R_slice HO583.out; subst eo56) | (go_at_call 31; (with_reducible refine (laws_sameFdb.calls k _ _ t578 _ _ t581 true _ ?side1 ?side2 ?side3 ?side4 A27.out).mono ?_); (case side1 => repeat (first | exact (Kd.R_reads' HO580.out).2.2 | (with_reducible refine Kd.C_alloc ?_ _) | (with_reducible refine Kd.C_drewN ?_ _) | (with_reducible refine Kd.C_drew ?_))); (case side2 => exact (Kd.R_reads' HO580.out).2.1); (case side3 => repeat (first | exact (Kd.R_reads' HO583.out).2.2 | (with_reducible refine Kd.C_alloc ?_ _) | (with_reducible refine Kd.C_drewN ?_ _) | (with_reducible refine Kd.C_drew ?_))); (case side4 => exact (Kd.R_reads' HO583.out).2.1); rintro e w' ⟨rfl, ⟨nd, rfl⟩⟩) | (go_at_call 30; (with_reducible refine (impl_FdbOk.calls k _ _ t531 t585 _ ?side1 ?side2 A29.out).mono ?_); (case side1 => repeat (first | exact (Kd.R_reads' HO536.out).2.2 | (with_reducible refine Kd.C_alloc ?_ _) | (with_reducible refine Kd.C_drewN ?_ _) | (with_reducible refine Kd.C_drew ?_))); (case side2 => exact (Kd.R_reads' HO536.out).2.1); rintro e w57 ⟨rfl, hb⟩; have n_ := ak13 (Kd.R_below (kqR HO536.out) hb) (Kd.R_below (kqR HO540.out) hb) (Kd.R_below (kqR HO544.out) hb) (Kd.R_below (kqR HO549.out) hb) (Kd.R_below (kqR HO553.out) hb) (Kd.R_below (kqR HO557.out) hb) (Kd.R_below (kqR HO562.out) hb) (Kd.R_below (kqR HO566.out) hb) (Kd.R_below (kqR HO571.out) hb) (Kd.R_below (kqR HO574.out) hb) (Kd.R_below (kqR HO580.out) hb) (Kd.R_below (kqR HO583.out) hb) (below_step (bq HB.out) hb); clear HO536 HO540 HO544 HO549 HO553 HO557 HO562 HO566 HO571 HO574 HO580 HO583 HB; obtain ⟨HO536, HO540, HO544, HO549, HO553, HO557, HO562, HO566, HO571, HO574, HO580, HO583, HB⟩ := n_; (try clear hb)) | (go_at_call 61; (with_reducible refine (spec_FdbOk.calls k _ _ t531 t586 _ ?side1 ?side2 A30.out).mono ?_); (case side1 => repeat (first | exact (Kd.R_reads' HO536.out).2.2 | (with_reducible refine Kd.C_alloc ?_ _) | (with_reducible refine Kd.C_drewN ?_ _) | (with_reducible refine Kd.C_drew ?_))); (case side2 => exact (Kd.R_reads' HO536.out).2.1); rintro e w58 ⟨rfl, hb⟩; have n_ := ak13 (Kd.R_below (kqR HO536.out) hb) (Kd.R_below (kqR HO540.out) hb) (Kd.R_below (kqR HO544.out) hb) (Kd.R_below (kqR HO549.out) hb) (Kd.R_below (kqR HO553.out) hb) (Kd.R_below (kqR HO557.out) hb) (Kd.R_below (kqR HO562.out) hb) (Kd.R_below (kqR HO566.out) hb) (Kd.R_below (kqR HO571.out) hb) (Kd.R_below (kqR HO574.out) hb) (Kd.R_below (kqR HO580.out) hb) (Kd.R_below (kqR HO583.out) hb) (below_step (bq HB.out) hb); clear HO536 HO540 HO544 HO549 HO553 HO557 HO562 HO566 HO571 HO574 HO580 HO583 HB; obtain ⟨HO536, HO540, HO544, HO549, HO553, HO557, HO562, HO566, HO571, HO574, HO580, HO583, HB⟩ := n_; (try clear hb)))
               go_ret
               exact ⟨rq, bq HB.out⟩
             replace c28 := Bool.eq_false_iff.mpr c28
             subst c28
             have H1 : (some false) = some r := by rw [if_neg (show ¬ (false = true) by decide)] at H; exact H
             clear H
             have H := H1
             clear H1
             exact absurd ((Option.some.inj H).trans HRT.out) (by decide)
           rw [if_neg c24] at H
           have c24b0 : (t576 == t577) = false := beq_eq_false_iff_ne.mpr c24
           have c24b1 : (t576 != t577) = true := bne_iff_ne.mpr c24
           exact absurd ((Option.some.inj H).trans HRT.out) (by decide)
         replace c21 := Bool.eq_false_iff.mpr c21
         subst c21
         have H1 : (some false) = some r := by rw [if_neg (show ¬ (false = true) by decide)] at H; exact H
         clear H
         have H := H1
         clear H1
         exact absurd ((Option.some.inj H).trans HRT.out) (by decide)
       replace c17 := Bool.eq_false_iff.mpr c17
       subst c17
       have H1 : (some false) = some r := by rw [if_neg (show ¬ (false = true) by decide)] at H; exact H
       clear H
       have H := H1
       clear H1
       exact absurd ((Option.some.inj H).trans HRT.out) (by decide)
     replace c15 := Bool.eq_false_iff.mpr c15
     subst c15
     have H1 : (some false) = some r := by rw [if_neg (show ¬ (false = true) by decide)] at H; exact H
     clear H
     have H := H1
     clear H1
     exact absurd ((Option.some.inj H).trans HRT.out) (by decide)
   rw [if_neg c13] at H
   have c13b0 : (t551 == t555) = false := by simpa using c13
   (try (have c13b1 : decide (t551 = t555) = false := by simpa using c13))
   (try (have c13b2 : (t551 == t555) = false := by simpa using c13))
   (try (have c13b3 : ¬ (t551 = t555) := by simpa using c13))
   clear c13
   exact absurd ((Option.some.inj H).trans HRT.out) (by decide)
 rw [if_neg c12] at H
 have c12b0 : (t538 == t542) = false := by simpa using c12
 (try (have c12b1 : decide (t538 = t542) = false := by simpa using c12))
 (try (have c12b2 : (t538 == t542) = false := by simpa using c12))
 (try (have c12b3 : ¬ (t538 = t542) := by simpa using c12))
 clear c12
 exact absurd ((Option.some.inj H).trans HRT.out) (by decide)

/-- THE ONE PURE STATEMENT of laws_FnFdbsBent. -/
def laws_FnFdbsBent.Pure : Prop := ∀ (l0 : List Int), l0.length ≤ maxLen → (∀ y ∈ l0, (Lit.int .u8 y).wf = true) → ∃ k, laws_FnFdbsBent.f k l0 = some true

end Go.Proofs.Ytebffdmkfkfoaaa.XFnFdbsBent
