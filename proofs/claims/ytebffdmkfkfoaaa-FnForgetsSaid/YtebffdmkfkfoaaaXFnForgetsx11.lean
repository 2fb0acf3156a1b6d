/- The functions that one law reaches, as Lean functions, with their walks: printed by a program of this seat (wip/tools) out of the translation. -/
import Derived.Test.YtebffdmkfkfoaaaXFnForgetsx0
import Derived.Test.YtebffdmkfkfoaaaXFnForgetsx1
import Derived.Test.YtebffdmkfkfoaaaXFnForgetsx7
import Derived.Test.YtebffdmkfkfoaaaXFnForgetsx8
import Derived.Test.YtebffdmkfkfoaaaXFnForgetsx9
import Derived.Test.YtebffdmkfkfoaaaXFnForgetsx10
namespace Go.Proofs.Ytebffdmkfkfoaaa.XFnForgets
open Go.RowKit Go.Proofs.YtebffdmkfkfoaaaW.PrintWords Go.Proofs.YtebffdmkfkfoaaaW.PrintLast Go.Proofs.YtebffdmkfkfoaaaW.PrintMore
attribute [local go_sem] max2_int min2_int max_two min_two max_three min_three max_four min_four   -- for this text's walks alone
set_option linter.unusedVariables false
set_option linter.unusedSimpArgs false

attribute [local go_sem high] eqA44
/-! ### impl_Learn: function 28 -/
def impl_Learn.j0 : Nat → List (S44) → Bool → Int → Int → Int → Int → Bool → Option ((List (S44)))
 | 0, _, _, _, _, _, _, _ => none
 | k + 1, x0, x39, x335000, x335001, x335002, x335003, x335004 => if x39 = true then ((impl_copyFdb.f x0).bind fun t339 => (some t339)) else ((impl_put.f k x0 x335000 x335001 x335002 x335003 x335004).bind fun bt342 => (some bt342.1))
def impl_Learn.f (k : Nat) (l0 : List (S44)) (a1 : Int) (a2 : Int) (a3 : Int) : Option ((List (S44))) := (impl_entAt.f k l0 a1 a2).bind fun t335 => ((impl_FdbOk.f k l0).bind fun t336 => (if t336 = true then ((impl_fentOk.f a1 a2 a3 0 false).bind fun t337 => (if t337 = true then (if t335 ≥ 0 then (if 0 ≤ t335 then (if t335 < (l0.length : Int) then (impl_Learn.j0 k l0 ((rd_T44 l0 t335).f4) a1 a2 a3 0 false) else (none)) else (none)) else (impl_Learn.j0 k l0 false a1 a2 a3 0 false)) else (impl_Learn.j0 k l0 true a1 a2 a3 0 false))) else (impl_Learn.j0 k l0 true a1 a2 a3 0 false)))
theorem impl_Learn.mono_l : ∀ k, (∀ y0 y1 y2 y3 y4 y5 y6, LeO (impl_Learn.j0 k y0 y1 y2 y3 y4 y5 y6) (impl_Learn.j0 (k + 1) y0 y1 y2 y3 y4 y5 y6))
 | 0 => fun _ _ _ _ _ _ _ r h => by simp [impl_Learn.j0] at h
 | k + 1 => by
  have ih0 := impl_Learn.mono_l k
  intro y0 y1 y2 y3 y4 y5 y6
  unfold impl_Learn.j0
  repeat' first
  | (with_reducible exact ih0 _ _ _ _ _ _ _)
  | (with_reducible exact impl_FdbOk.mono _ _)
  | (with_reducible exact impl_entAt.mono _ _ _ _)
  | (with_reducible exact impl_put.mono _ _ _ _ _ _ _)
  | (with_reducible exact LeO.refl _)
  | (with_reducible exact LeO.none _)
  | (with_reducible refine LeO.ite ?_ ?_)
  | (with_reducible refine LeO.bind ?_ (fun _ => ?_))
  | exact ih0 _ _ _ _ _ _ _
  | exact impl_FdbOk.mono _ _
  | exact impl_entAt.mono _ _ _ _
  | exact impl_put.mono _ _ _ _ _ _ _
  | exact LeO.none _
  | refine LeO.ite ?_ ?_
  | refine LeO.bind ?_ (fun _ => ?_)
theorem impl_Learn.mono : ∀ a0 a1 a2 a3 k, LeO (impl_Learn.f k a0 a1 a2 a3) (impl_Learn.f (k + 1) a0 a1 a2 a3) := by
 intro a0 a1 a2 a3 k
 have ih0 := impl_Learn.mono_l k
 unfold impl_Learn.f
 repeat' first
  | (with_reducible exact ih0 _ _ _ _ _ _ _)
  | (with_reducible exact impl_FdbOk.mono _ _)
  | (with_reducible exact impl_entAt.mono _ _ _ _)
  | (with_reducible exact impl_put.mono _ _ _ _ _ _ _)
  | (with_reducible exact LeO.refl _)
  | (with_reducible exact LeO.none _)
  | (with_reducible refine LeO.ite ?_ ?_)
  | (with_reducible refine LeO.bind ?_ (fun _ => ?_))
  | exact ih0 _ _ _ _ _ _ _
  | exact impl_FdbOk.mono _ _
  | exact impl_entAt.mono _ _ _ _
  | exact impl_put.mono _ _ _ _ _ _ _
  | exact LeO.none _
  | refine LeO.ite ?_ ?_
  | refine LeO.bind ?_ (fun _ => ?_)
set_option maxHeartbeats 8000000 in
set_option maxRecDepth 100000 in
theorem impl_Learn.calls (k : Nat) (A0 : Option Addr) (c0 : Nat) (l0 : List (S44)) (a1 : Int) (a2 : Int) (a3 : Int) (r : List (S44)) (w : World) (hr0 : Kd.C k44 w A0 l0.length l0) (hc0 : l0.length ≤ c0) (h : impl_Learn.f k l0 a1 a2 a3 = some r) :
 Calls Try.prog 28 #[.slice A0 l0.length c0, .int .i64 a1, .int .i64 a2, .int .i64 a3] w fun e w' => ∃ v0_ : Value, e = .returned (v0_) ∧ Kd.R k44 44 w' w.heap.size (fun _ => True) v0_ r ∧ Below w.heap.size w w' := by
 have hu44 := Try.underlying44
 have HR0 := am hr0
 have HC0 := am hc0
 clear hr0 hc0
 have HB := am (Below.refl w.heap.size w)
 have H : ((impl_entAt.f k l0 a1 a2).bind fun t335 => ((impl_FdbOk.f k l0).bind fun t336 => (if t336 = true then ((impl_fentOk.f a1 a2 a3 0 false).bind fun t337 => (if t337 = true then (if t335 ≥ 0 then (if 0 ≤ t335 then (if t335 < (l0.length : Int) then (impl_Learn.j0 k l0 ((rd_T44 l0 t335).f4) a1 a2 a3 0 false) else (none)) else (none)) else (impl_Learn.j0 k l0 false a1 a2 a3 0 false)) else (impl_Learn.j0 k l0 true a1 a2 a3 0 false))) else (impl_Learn.j0 k l0 true a1 a2 a3 0 false)))) = some r := h
 clear h
 replace H := Option.bind_eq_some_iff.mp H
 obtain ⟨t335, A50, H⟩ := H
 replace H : ((impl_FdbOk.f k l0).bind fun t336 => (if t336 = true then ((impl_fentOk.f a1 a2 a3 0 false).bind fun t337 => (if t337 = true then (if t335 ≥ 0 then (if 0 ≤ t335 then (if t335 < (l0.length : Int) then (impl_Learn.j0 k l0 ((rd_T44 l0 t335).f4) a1 a2 a3 0 false) else (none)) else (none)) else (impl_Learn.j0 k l0 false a1 a2 a3 0 false)) else (impl_Learn.j0 k l0 true a1 a2 a3 0 false))) else (impl_Learn.j0 k l0 true a1 a2 a3 0 false))) = some r := H
 have A5 := am A50
 clear A50
 have HC6 := am H
 clear H
 go_enter Try.func28, Try.ntmps28
 go_upto_region 3 with (first | ((with_reducible refine gate_dst (N := 9) rfl ?_); refine box_event ?hg (N := 9) ?hd (cs := #[.int .i64 0, .int .i64 0, .int .i64 0, .int .i64 0, .bool false]) (t := 44) ?hr ?_; (case hd => rfl); (case hg => rfl); (case hr => exact gs); intro gb334 hg w7 hbox hb; have n_ := ak4 (below_step (bq HB.out) hb) hbox ((by rw [hg]; exact (below_size (bq HB.out)) : w.heap.size ≤ gb334)) ((by rw [hg]; exact (below_size (bq HB.out)) : w.heap.size ≤ gb334)); clear HB; obtain ⟨HB, BK334, GW334, GE334⟩ := n_; clear hb hbox hg; have hcz8_0 : w7.cell? ⟨gb334, 0, none⟩ = some (.int .i64 0) := (blk_cell BK334.out 0).trans rfl; have hcz8_1 : w7.cell? ⟨gb334, 1, none⟩ = some (.int .i64 0) := (blk_cell BK334.out 1).trans rfl; have hcz8_2 : w7.cell? ⟨gb334, 2, none⟩ = some (.int .i64 0) := (blk_cell BK334.out 2).trans rfl; have hcz8_3 : w7.cell? ⟨gb334, 3, none⟩ = some (.int .i64 0) := (blk_cell BK334.out 3).trans rfl; have hcz8_4 : w7.cell? ⟨gb334, 4, none⟩ = some (.bool false) := (blk_cell BK334.out 4).trans rfl; have hfz8_0 := blk_frozen BK334.out 0; have hfz8_1 := blk_frozen BK334.out 1; have hfz8_2 := blk_frozen BK334.out 2; have hfz8_3 := blk_frozen BK334.out 3; have hfz8_4 := blk_frozen BK334.out 4) | ((with_reducible refine gate_store (t := 44) (p := 9) rfl ?_); refine store_event (t := 44) (p := 9) (v := ?vo_w9) (w1 := (((((w7.setCell ⟨gb334, 0, none⟩ (.int .i64 a1)).setCell ⟨gb334, 1, none⟩ (.int .i64 a2)).setCell ⟨gb334, 2, none⟩ (.int .i64 a3)).setCell ⟨gb334, 3, none⟩ (.int .i64 0)).setCell ⟨gb334, 4, none⟩ (.bool false))) ?hg ?ho ?hn ?hr ?_; (case ho => rfl); (case hg => rfl); (case hn => rfl); (case hr => exact gs); intro w9 hw; have n0_ : Aside0 (w9.heap[gb334]? = some (.cells #[.int .i64 a1, .int .i64 a2, .int .i64 a3, .int .i64 0, .bool false] 44 (0, 0))) := ⟨(by rw [hw]; exact (by (with_reducible repeat (first | refine blk_drewN ?_ _ | refine blk_drew ?_ | refine blk_alloc ?_ _)); refine blk_put (cs := #[.int .i64 a1, .int .i64 a2, .int .i64 a3, .int .i64 0, .bool false]) ?_ 4 _ rfl; (with_reducible repeat (first | refine blk_drewN ?_ _ | refine blk_drew ?_ | refine blk_alloc ?_ _)); refine blk_put (cs := #[.int .i64 a1, .int .i64 a2, .int .i64 a3, .int .i64 0, .bool false]) ?_ 3 _ rfl; (with_reducible repeat (first | refine blk_drewN ?_ _ | refine blk_drew ?_ | refine blk_alloc ?_ _)); refine blk_put (cs := #[.int .i64 a1, .int .i64 a2, .int .i64 0, .int .i64 0, .bool false]) ?_ 2 _ rfl; (with_reducible repeat (first | refine blk_drewN ?_ _ | refine blk_drew ?_ | refine blk_alloc ?_ _)); refine blk_put (cs := #[.int .i64 a1, .int .i64 0, .int .i64 0, .int .i64 0, .bool false]) ?_ 1 _ rfl; (with_reducible repeat (first | refine blk_drewN ?_ _ | refine blk_drew ?_ | refine blk_alloc ?_ _)); refine blk_put (cs := #[.int .i64 0, .int .i64 0, .int .i64 0, .int .i64 0, .bool false]) ?_ 0 _ rfl; (with_reducible repeat (first | refine blk_drewN ?_ _ | refine blk_drew ?_ | refine blk_alloc ?_ _)); exact BK334.out))⟩; have n1_ : Aside0 (Below w.heap.size w w9) := ⟨(by rw [hw]; exact (bq1 HB.out GE334.out))⟩; clear hw; clear BK334; clear HB; have BK334 := n0_; have HB := n1_; clear n0_ n1_) | ((with_reducible refine gate_callee (f := 88) rfl ?_); refine goesL_ (some 20) rfl rfl Try.func88 (by kernel_rfl) rfl #[.slice A0 l0.length c0, .int .i64 a1, .int .i64 a2] rfl ga ?_; (with_reducible refine (impl_entAt.calls k _ _ l0 a1 a2 t335 _ ?side1 ?side2 A5.out).mono ?_); (case side1 => exact cq (Kd.C_below HR0.out HB.out)); (case side2 => exact HC0.out); rintro e w10 ⟨rfl, hb⟩; refine ⟨_, rfl, ?_⟩; have n_ := ak2 (blk_below (g := gb334) (o := .cells #[.int .i64 a1, .int .i64 a2, .int .i64 a3, .int .i64 0, .bool false] 44 (0, 0)) (zq BK334.out) hb) (below_step (bq1 HB.out GE334.out) hb); clear BK334 HB; obtain ⟨BK334, HB⟩ := n_; (try clear hb)))
 (try simp only [Act.put, List.setIfInBounds_toArray, List.set_cons_zero, List.set_cons_succ])
 go_cut [39] (fun v39 wc => ∃ (kq : Nat) (x39_5 : Bool), v39 = .bool x39_5 ∧ Aside0 (impl_Learn.j0 kq l0 x39_5 a1 a2 a3 0 false = some r) ∧ Aside0 (kq ≤ k) ∧ Aside0 (wc.heap[gb334]? = some (.cells #[.int .i64 a1, .int .i64 a2, .int .i64 a3, .int .i64 0, .bool false] 44 (0, 0))) ∧ Aside0 (Below w.heap.size w wc))
 case first =>
  have H := HC6.out
  clear HC6
  replace H := Option.bind_eq_some_iff.mp H
  obtain ⟨t336, A110, H⟩ := H
  replace H : (if t336 = true then ((impl_fentOk.f a1 a2 a3 0 false).bind fun t337 => (if t337 = true then (if t335 ≥ 0 then (if 0 ≤ t335 then (if t335 < (l0.length : Int) then (impl_Learn.j0 k l0 ((rd_T44 l0 t335).f4) a1 a2 a3 0 false) else (none)) else (none)) else (impl_Learn.j0 k l0 false a1 a2 a3 0 false)) else (impl_Learn.j0 k l0 true a1 a2 a3 0 false))) else (impl_Learn.j0 k l0 true a1 a2 a3 0 false)) = some r := H
  have A11 := am A110
  clear A110
  by_cases c12 : t336 = true
  · subst c12
    have H1 : ((impl_fentOk.f a1 a2 a3 0 false).bind fun t337 => (if t337 = true then (if t335 ≥ 0 then (if 0 ≤ t335 then (if t335 < (l0.length : Int) then (impl_Learn.j0 k l0 ((rd_T44 l0 t335).f4) a1 a2 a3 0 false) else (none)) else (none)) else (impl_Learn.j0 k l0 false a1 a2 a3 0 false)) else (impl_Learn.j0 k l0 true a1 a2 a3 0 false))) = some r := by rw [if_pos rfl] at H; exact H
    clear H
    have H := H1
    clear H1
    replace H := Option.bind_eq_some_iff.mp H
    obtain ⟨t337, A130, H⟩ := H
    replace H : (if t337 = true then (if t335 ≥ 0 then (if 0 ≤ t335 then (if t335 < (l0.length : Int) then (impl_Learn.j0 k l0 ((rd_T44 l0 t335).f4) a1 a2 a3 0 false) else (none)) else (none)) else (impl_Learn.j0 k l0 false a1 a2 a3 0 false)) else (impl_Learn.j0 k l0 true a1 a2 a3 0 false)) = some r := H
    have A13 := am A130
    clear A130
    by_cases c14 : t337 = true
    · subst c14
      have H1 : (if t335 ≥ 0 then (if 0 ≤ t335 then (if t335 < (l0.length : Int) then (impl_Learn.j0 k l0 ((rd_T44 l0 t335).f4) a1 a2 a3 0 false) else (none)) else (none)) else (impl_Learn.j0 k l0 false a1 a2 a3 0 false)) = some r := by rw [if_pos rfl] at H; exact H
      clear H
      have H := H1
      clear H1
      by_cases c15 : t335 ≥ 0
      · rw [if_pos c15] at H
        have c15b0 : decide (0 ≤ t335) = true := decide_eq_true c15
        clear c15
        (first | rw [c15b0] | (simp only [i64_w, i32_w]; rw [c15b0]) | skip)
        by_cases c16 : 0 ≤ t335
        · rw [if_pos c16] at H
          have c16b0 : decide (0 ≤ t335) = true := decide_eq_true c16
          clear c16
          by_cases c17 : t335 < (l0.length : Int)
          · rw [if_pos c17] at H
            have c17b0 : decide (t335 < (l0.length : Int)) = true := decide_eq_true c17
            clear c17
            have H' := am H
            clear H
            go_wp2_with (first | ((with_reducible refine gate_callee (f := 30) rfl ?_); refine goesL_ (some 22) rfl rfl Try.func30 (by kernel_rfl) rfl #[.slice A0 l0.length c0] rfl ga ?_; (with_reducible refine (impl_FdbOk.calls k _ _ l0 true _ ?side1 ?side2 A11.out).mono ?_); (case side1 => exact cq (Kd.C_below HR0.out HB.out)); (case side2 => exact HC0.out); rintro e w18 ⟨rfl, hb⟩; refine ⟨_, rfl, ?_⟩; have n_ := ak2 (blk_below (g := gb334) (o := .cells #[.int .i64 a1, .int .i64 a2, .int .i64 a3, .int .i64 0, .bool false] 44 (0, 0)) (zq BK334.out) hb) (below_step (bq1 HB.out GE334.out) hb); clear BK334 HB; obtain ⟨BK334, HB⟩ := n_; (try clear hb); have hcz19_0 : w18.cell? ⟨gb334, 0, none⟩ = some (.int .i64 a1) := (blk_cell BK334.out 0).trans rfl; have hcz19_1 : w18.cell? ⟨gb334, 1, none⟩ = some (.int .i64 a2) := (blk_cell BK334.out 1).trans rfl; have hcz19_2 : w18.cell? ⟨gb334, 2, none⟩ = some (.int .i64 a3) := (blk_cell BK334.out 2).trans rfl; have hcz19_3 : w18.cell? ⟨gb334, 3, none⟩ = some (.int .i64 0) := (blk_cell BK334.out 3).trans rfl; have hcz19_4 : w18.cell? ⟨gb334, 4, none⟩ = some (.bool false) := (blk_cell BK334.out 4).trans rfl; have hfz19_0 := blk_frozen BK334.out 0; have hfz19_1 := blk_frozen BK334.out 1; have hfz19_2 := blk_frozen BK334.out 2; have hfz19_3 := blk_frozen BK334.out 3; have hfz19_4 := blk_frozen BK334.out 4) | (go_at_call 80; (with_reducible refine (impl_fentOk.calls a1 a2 a3 0 false true _ A13.out).mono ?_); rintro e w20 ⟨rfl, hb⟩; have n_ := ak2 (blk_below (g := gb334) (o := .cells #[.int .i64 a1, .int .i64 a2, .int .i64 a3, .int .i64 0, .bool false] 44 (0, 0)) (zq BK334.out) hb) (below_step (bq1 HB.out GE334.out) hb); clear BK334 HB; obtain ⟨BK334, HB⟩ := n_; (try clear hb); have p338 : 0 ≤ (t335 : Int) := oda; have q338 : t335 < (l0.length : Int) := oda; obtain ⟨ad338, e338, hx338_0, hx338_1, hx338_2, hx338_3, hx338_4⟩ := at_T44 HR0.out t335 p338 q338; cases e338; replace hx338_0 := (HB.out.cell (World.block_lt_of_cell? w _ hx338_0)).trans hx338_0; replace hx338_1 := (HB.out.cell (World.block_lt_of_cell? w _ hx338_1)).trans hx338_1; replace hx338_2 := (HB.out.cell (World.block_lt_of_cell? w _ hx338_2)).trans hx338_2; replace hx338_3 := (HB.out.cell (World.block_lt_of_cell? w _ hx338_3)).trans hx338_3; replace hx338_4 := (HB.out.cell (World.block_lt_of_cell? w _ hx338_4)).trans hx338_4; replace p338 := eq_true p338; replace q338 := eq_true q338))
            go_meet
            case rel => exact ⟨_, ((rd_T44 l0 t335).f4), sq, H', ⟨by first | omega | exact Nat.le_refl _⟩, ⟨zq BK334.out⟩, ⟨bq1 HB.out GE334.out⟩⟩
          rw [if_neg c17] at H
          exact absurd H (by simp)
        rw [if_neg c16] at H
        exact absurd H (by simp)
      rw [if_neg c15] at H
      have c15b0 : decide (0 ≤ t335) = false := decide_eq_false c15
      clear c15
      (first | rw [c15b0] | (simp only [i64_w, i32_w]; rw [c15b0]) | skip)
      have H' := am H
      clear H
      go_wp2_with (first | ((with_reducible refine gate_callee (f := 30) rfl ?_); refine goesL_ (some 22) rfl rfl Try.func30 (by kernel_rfl) rfl #[.slice A0 l0.length c0] rfl ga ?_; (with_reducible refine (impl_FdbOk.calls k _ _ l0 true _ ?side1 ?side2 A11.out).mono ?_); (case side1 => exact cq (Kd.C_below HR0.out HB.out)); (case side2 => exact HC0.out); rintro e w21 ⟨rfl, hb⟩; refine ⟨_, rfl, ?_⟩; have n_ := ak2 (blk_below (g := gb334) (o := .cells #[.int .i64 a1, .int .i64 a2, .int .i64 a3, .int .i64 0, .bool false] 44 (0, 0)) (zq BK334.out) hb) (below_step (bq1 HB.out GE334.out) hb); clear BK334 HB; obtain ⟨BK334, HB⟩ := n_; (try clear hb); have hcz22_0 : w21.cell? ⟨gb334, 0, none⟩ = some (.int .i64 a1) := (blk_cell BK334.out 0).trans rfl; have hcz22_1 : w21.cell? ⟨gb334, 1, none⟩ = some (.int .i64 a2) := (blk_cell BK334.out 1).trans rfl; have hcz22_2 : w21.cell? ⟨gb334, 2, none⟩ = some (.int .i64 a3) := (blk_cell BK334.out 2).trans rfl; have hcz22_3 : w21.cell? ⟨gb334, 3, none⟩ = some (.int .i64 0) := (blk_cell BK334.out 3).trans rfl; have hcz22_4 : w21.cell? ⟨gb334, 4, none⟩ = some (.bool false) := (blk_cell BK334.out 4).trans rfl; have hfz22_0 := blk_frozen BK334.out 0; have hfz22_1 := blk_frozen BK334.out 1; have hfz22_2 := blk_frozen BK334.out 2; have hfz22_3 := blk_frozen BK334.out 3; have hfz22_4 := blk_frozen BK334.out 4) | (go_at_call 80; (with_reducible refine (impl_fentOk.calls a1 a2 a3 0 false true _ A13.out).mono ?_); rintro e w23 ⟨rfl, hb⟩; have n_ := ak2 (blk_below (g := gb334) (o := .cells #[.int .i64 a1, .int .i64 a2, .int .i64 a3, .int .i64 0, .bool false] 44 (0, 0)) (zq BK334.out) hb) (below_step (bq1 HB.out GE334.out) hb); clear BK334 HB; obtain ⟨BK334, HB⟩ := n_; (try clear hb)))
      go_meet
      case rel => exact ⟨_, (false), sq, H', ⟨by first | omega | exact Nat.le_refl _⟩, ⟨zq BK334.out⟩, ⟨bq1 HB.out GE334.out⟩⟩
    replace c14 := Bool.eq_false_iff.mpr c14
    subst c14
    have H1 : (impl_Learn.j0 k l0 true a1 a2 a3 0 false) = some r := by rw [if_neg (show ¬ (false = true) by decide)] at H; exact H
    clear H
    have H := H1
    clear H1
    have H' := am H
    clear H
    go_wp2_with (first | ((with_reducible refine gate_callee (f := 30) rfl ?_); refine goesL_ (some 22) rfl rfl Try.func30 (by kernel_rfl) rfl #[.slice A0 l0.length c0] rfl ga ?_; (with_reducible refine (impl_FdbOk.calls k _ _ l0 true _ ?side1 ?side2 A11.out).mono ?_); (case side1 => exact cq (Kd.C_below HR0.out HB.out)); (case side2 => exact HC0.out); rintro e w24 ⟨rfl, hb⟩; refine ⟨_, rfl, ?_⟩; have n_ := ak2 (blk_below (g := gb334) (o := .cells #[.int .i64 a1, .int .i64 a2, .int .i64 a3, .int .i64 0, .bool false] 44 (0, 0)) (zq BK334.out) hb) (below_step (bq1 HB.out GE334.out) hb); clear BK334 HB; obtain ⟨BK334, HB⟩ := n_; (try clear hb); have hcz25_0 : w24.cell? ⟨gb334, 0, none⟩ = some (.int .i64 a1) := (blk_cell BK334.out 0).trans rfl; have hcz25_1 : w24.cell? ⟨gb334, 1, none⟩ = some (.int .i64 a2) := (blk_cell BK334.out 1).trans rfl; have hcz25_2 : w24.cell? ⟨gb334, 2, none⟩ = some (.int .i64 a3) := (blk_cell BK334.out 2).trans rfl; have hcz25_3 : w24.cell? ⟨gb334, 3, none⟩ = some (.int .i64 0) := (blk_cell BK334.out 3).trans rfl; have hcz25_4 : w24.cell? ⟨gb334, 4, none⟩ = some (.bool false) := (blk_cell BK334.out 4).trans rfl; have hfz25_0 := blk_frozen BK334.out 0; have hfz25_1 := blk_frozen BK334.out 1; have hfz25_2 := blk_frozen BK334.out 2; have hfz25_3 := blk_frozen BK334.out 3; have hfz25_4 := blk_frozen BK334.out 4) | (go_at_call 80; (with_reducible refine (impl_fentOk.calls a1 a2 a3 0 false false _ A13.out).mono ?_); rintro e w26 ⟨rfl, hb⟩; have n_ := ak2 (blk_below (g := gb334) (o := .cells #[.int .i64 a1, .int .i64 a2, .int .i64 a3, .int .i64 0, .bool false] 44 (0, 0)) (zq BK334.out) hb) (below_step (bq1 HB.out GE334.out) hb); clear BK334 HB; obtain ⟨BK334, HB⟩ := n_; (try clear hb)))
    go_meet
    case rel => exact ⟨_, (true), sq, H', ⟨by first | omega | exact Nat.le_refl _⟩, ⟨zq BK334.out⟩, ⟨bq1 HB.out GE334.out⟩⟩
  replace c12 := Bool.eq_false_iff.mpr c12
  subst c12
  have H1 : (impl_Learn.j0 k l0 true a1 a2 a3 0 false) = some r := by rw [if_neg (show ¬ (false = true) by decide)] at H; exact H
  clear H
  have H := H1
  clear H1
  have H' := am H
  clear H
  go_wp2_with (first | ((with_reducible refine gate_callee (f := 30) rfl ?_); refine goesL_ (some 22) rfl rfl Try.func30 (by kernel_rfl) rfl #[.slice A0 l0.length c0] rfl ga ?_; (with_reducible refine (impl_FdbOk.calls k _ _ l0 false _ ?side1 ?side2 A11.out).mono ?_); (case side1 => exact cq (Kd.C_below HR0.out HB.out)); (case side2 => exact HC0.out); rintro e w27 ⟨rfl, hb⟩; refine ⟨_, rfl, ?_⟩; have n_ := ak2 (blk_below (g := gb334) (o := .cells #[.int .i64 a1, .int .i64 a2, .int .i64 a3, .int .i64 0, .bool false] 44 (0, 0)) (zq BK334.out) hb) (below_step (bq1 HB.out GE334.out) hb); clear BK334 HB; obtain ⟨BK334, HB⟩ := n_; (try clear hb)))
  go_meet
  case rel => exact ⟨_, (true), sq, H', ⟨by first | omega | exact Nat.le_refl _⟩, ⟨zq BK334.out⟩, ⟨bq1 HB.out GE334.out⟩⟩
 case rest =>
  clear HC6
  try clear c1
  try clear c2
  try clear p2
  try clear c3
  try clear p3
  try clear q3
  try clear hx3
  try clear c8
  try clear c12
  try clear c14
  try clear c15
  try clear c15b0
  try clear c16
  try clear c16b0
  try clear c17
  try clear c17b0
  try clear hcz19_0
  try clear hcz19_1
  try clear hcz19_2
  try clear hcz19_3
  try clear hcz19_4
  try clear hcz22_0
  try clear hcz22_1
  try clear hcz22_2
  try clear hcz22_3
  try clear hcz22_4
  try clear hcz25_0
  try clear hcz25_1
  try clear hcz25_2
  try clear hcz25_3
  try clear hcz25_4
  try clear hcz8_0
  try clear hcz8_1
  try clear hcz8_2
  try clear hcz8_3
  try clear hcz8_4
  try clear hfz19_0
  try clear hfz19_1
  try clear hfz19_2
  try clear hfz19_3
  try clear hfz19_4
  try clear hfz22_0
  try clear hfz22_1
  try clear hfz22_2
  try clear hfz22_3
  try clear hfz22_4
  try clear hfz25_0
  try clear hfz25_1
  try clear hfz25_2
  try clear hfz25_3
  try clear hfz25_4
  try clear hfz8_0
  try clear hfz8_1
  try clear hfz8_2
  try clear hfz8_3
  try clear hfz8_4
  try clear hx338_0
  try clear hx338_1
  try clear hx338_2
  try clear hx338_3
  try clear hx338_4
  try clear p338
  try clear q338
  obtain ⟨kq, x39_5, rfl, HA, HJ5, BK334, HB⟩ := hcut
  cases kq with
  | zero => exact absurd HA.out (by simp [impl_Learn.j0])
  | succ kj5 =>
   have H := HA.out
   clear HA
   simp only [impl_Learn.j0] at H
   by_cases c28 : x39_5 = true
   · subst c28
     have H1 : ((impl_copyFdb.f l0).bind fun t339 => (some t339)) = some r := by rw [if_pos rfl] at H; exact H
     clear H
     have H := H1
     clear H1
     replace H := Option.bind_eq_some_iff.mp H
     obtain ⟨t339, A290, H⟩ := H
     replace H : (some t339) = some r := H
     have A29 := am A290
     clear A290
     obtain rfl := Option.some.inj H
     go_wp2_with (first | ((with_reducible refine gate_callee (f := 81) rfl ?_); refine goesL_ (some 41) rfl rfl Try.func81 (by kernel_rfl) rfl #[.slice A0 l0.length c0] rfl ga ?_; (with_reducible refine (impl_copyFdb.calls _ _ l0 t339 _ ?side1 ?side2 A29.out).mono ?_); (case side1 => exact cq (Kd.C_below HR0.out HB.out)); (case side2 => exact HC0.out); rintro e w30 ⟨v340, rfl, ho0, hb⟩; refine ⟨_, rfl, ?_⟩; have n_ := ak3 (Kd.R_lower (Kd.R_newB ho0 (g := gb334) (o := .cells #[.int .i64 a1, .int .i64 a2, .int .i64 a3, .int .i64 0, .bool false] 44 (0, 0)) (zq BK334.out)) (below_size (bq1 HB.out GE334.out))) (blk_below (g := gb334) (o := .cells #[.int .i64 a1, .int .i64 a2, .int .i64 a3, .int .i64 0, .bool false] 44 (0, 0)) (zq BK334.out) hb) (below_step (bq1 HB.out GE334.out) hb); clear BK334 HB; obtain ⟨HO341, BK334, HB⟩ := n_; (try clear hb ho0)))
     go_ret
     exact ⟨_, rq, by (with_reducible repeat (first | apply Kd.R_alloc | apply Kd.R_drewN | apply Kd.R_drew)); exact Kd.R_mono HO341.out (fun _ hk => trivial), bq1 HB.out GE334.out⟩
   replace c28 := Bool.eq_false_iff.mpr c28
   subst c28
   have H1 : ((impl_put.f kj5 l0 a1 a2 a3 0 false).bind fun bt342 => (some bt342.1)) = some r := by rw [if_neg (show ¬ (false = true) by decide)] at H; exact H
   clear H
   have H := H1
   clear H1
   replace H := Option.bind_eq_some_iff.mp H
   obtain ⟨⟨t342, t345⟩, A310, H⟩ := H
   replace H : (some t342) = some r := H
   have A31 := am A310
   clear A310
   obtain rfl := Option.some.inj H
   have hcz32_0 : wc.cell? ⟨gb334, 0, none⟩ = some (.int .i64 a1) := (blk_cell BK334.out 0).trans rfl
   have hcz32_1 : wc.cell? ⟨gb334, 1, none⟩ = some (.int .i64 a2) := (blk_cell BK334.out 1).trans rfl
   have hcz32_2 : wc.cell? ⟨gb334, 2, none⟩ = some (.int .i64 a3) := (blk_cell BK334.out 2).trans rfl
   have hcz32_3 : wc.cell? ⟨gb334, 3, none⟩ = some (.int .i64 0) := (blk_cell BK334.out 3).trans rfl
   have hcz32_4 : wc.cell? ⟨gb334, 4, none⟩ = some (.bool false) := (blk_cell BK334.out 4).trans rfl
   have hfz32_0 := blk_frozen BK334.out 0
   have hfz32_1 := blk_frozen BK334.out 1
   have hfz32_2 := blk_frozen BK334.out 2
   have hfz32_3 := blk_frozen BK334.out 3
   have hfz32_4 := blk_frozen BK334.out 4
   go_wp2_with (first | ((with_reducible refine gate_callee (f := 82) rfl ?_); refine goesL_ (some 45) rfl rfl Try.func82 (by kernel_rfl) rfl #[.slice A0 l0.length c0, .agg #[.int .i64 a1, .int .i64 a2, .int .i64 a3, .int .i64 0, .bool false]] rfl ga ?_; (with_reducible refine (impl_put.calls kj5 _ _ l0 a1 a2 a3 0 false t342 t345 _ ?side1 ?side2 A31.out).mono ?_); (case side1 => exact cq (Kd.C_below HR0.out HB.out)); (case side2 => exact HC0.out); rintro e w33 ⟨v343, rfl, ho0, hb⟩; refine ⟨_, rfl, ?_⟩; have n_ := ak3 (Kd.R_lower (Kd.R_newB ho0 (g := gb334) (o := .cells #[.int .i64 a1, .int .i64 a2, .int .i64 a3, .int .i64 0, .bool false] 44 (0, 0)) (zq BK334.out)) (below_size (bq1 HB.out GE334.out))) (blk_below (g := gb334) (o := .cells #[.int .i64 a1, .int .i64 a2, .int .i64 a3, .int .i64 0, .bool false] 44 (0, 0)) (zq BK334.out) hb) (below_step (bq1 HB.out GE334.out) hb); clear BK334 HB; obtain ⟨HO344, BK334, HB⟩ := n_; (try clear hb ho0)))
   go_ret
   exact ⟨_, rq, by (with_reducible repeat (first | apply Kd.R_alloc | apply Kd.R_drewN | apply Kd.R_drew)); exact Kd.R_mono HO344.out (fun _ hk => trivial), bq1 HB.out GE334.out⟩

/-! ### laws_sameFdb: function 31 -/
def laws_sameFdb.l0 : Nat → List (S44) → List (S44) → Int → Option (Bool)
 | 0, _, _, _ => none
 | k + 1, x0, x1, x5 => if x5 < (x0.length : Int) then (if 0 ≤ x5 then (if x5 < (x1.length : Int) then (if (!(((rd_T44 x0 x5).f0) == ((rd_T44 x1 x5).f0)) || (!(((rd_T44 x0 x5).f1) == ((rd_T44 x1 x5).f1)) || (!(((rd_T44 x0 x5).f2) == ((rd_T44 x1 x5).f2)) || (!(((rd_T44 x0 x5).f3) == ((rd_T44 x1 x5).f3)) || (!(((rd_T44 x0 x5).f4) == ((rd_T44 x1 x5).f4))))))) = true then (some false) else (laws_sameFdb.l0 k x0 x1 (wrap64 (x5 + 1)))) else (none)) else (none)) else (some true)
def laws_sameFdb.f (k : Nat) (l0 : List (S44)) (l1 : List (S44)) : Option (Bool) := if (l0.length : Int) = (l1.length : Int) then (laws_sameFdb.l0 k l0 l1 0) else (some false)
theorem laws_sameFdb.mono_l : ∀ k, (∀ y0 y1 y2, LeO (laws_sameFdb.l0 k y0 y1 y2) (laws_sameFdb.l0 (k + 1) y0 y1 y2))
 | 0 => fun _ _ _ r h => by simp [laws_sameFdb.l0] at h
 | k + 1 => by
  have ih0 := laws_sameFdb.mono_l k
  intro y0 y1 y2
  unfold laws_sameFdb.l0
  repeat' first
  | (with_reducible exact ih0 _ _ _)
  | (with_reducible exact LeO.refl _)
  | (with_reducible exact LeO.none _)
  | (with_reducible refine LeO.ite ?_ ?_)
  | (with_reducible refine LeO.bind ?_ (fun _ => ?_))
  | exact ih0 _ _ _
  | exact LeO.none _
  | refine LeO.ite ?_ ?_
  | refine LeO.bind ?_ (fun _ => ?_)
theorem laws_sameFdb.mono : ∀ a0 a1 k, LeO (laws_sameFdb.f k a0 a1) (laws_sameFdb.f (k + 1) a0 a1) := by
 intro a0 a1 k
 have ih0 := laws_sameFdb.mono_l k
 unfold laws_sameFdb.f
 repeat' first
  | (with_reducible exact ih0 _ _ _)
  | (with_reducible exact LeO.refl _)
  | (with_reducible exact LeO.none _)
  | (with_reducible refine LeO.ite ?_ ?_)
  | (with_reducible refine LeO.bind ?_ (fun _ => ?_))
  | exact ih0 _ _ _
  | exact LeO.none _
  | refine LeO.ite ?_ ?_
  | refine LeO.bind ?_ (fun _ => ?_)
set_option maxHeartbeats 8000000 in
set_option maxRecDepth 100000 in
theorem laws_sameFdb.calls (k : Nat) (A0 : Option Addr) (c0 : Nat) (l0 : List (S44)) (A1 : Option Addr) (c1 : Nat) (l1 : List (S44)) (r : Bool) (w : World) (hr0 : Kd.C k44 w A0 l0.length l0) (hc0 : l0.length ≤ c0) (hr1 : Kd.C k44 w A1 l1.length l1) (hc1 : l1.length ≤ c1) (h : laws_sameFdb.f k l0 l1 = some r) :
 Calls Try.prog 31 #[.slice A0 l0.length c0, .slice A1 l1.length c1] w fun e w' => e = .returned (.bool r) ∧ Drawn0 w w' := by
 have hu44 := Try.underlying44
 have HR0 := am hr0
 have HC0 := am hc0
 clear hr0 hc0
 have HR1 := am hr1
 have HC1 := am hc1
 clear hr1 hc1
 have H : (if (l0.length : Int) = (l1.length : Int) then (laws_sameFdb.l0 k l0 l1 0) else (some false)) = some r := h
 clear h
 by_cases c3 : (l0.length : Int) = (l1.length : Int)
 · rw [if_pos c3] at H
   have c3b0 : ((l0.length : Int) == (l1.length : Int)) = true := beq_iff_eq.mpr c3
   have c3b1 : ((l0.length : Int) != (l1.length : Int)) = false := bne_eq_false_iff_eq.mpr c3
   have c3b2 : (l0.length == l1.length) = true := by first | simpa using c3 | (simp at c3 ⊢; omega)
   clear c3
   have H' := am H
   clear H
   go_enter Try.func31, Try.ntmps31
   go_wp2
   repeat (go_quiet (fail); try go_wp2)
   go_loopg [5] k (fun kq v5 w' => ∃ (x5_1 : Int), v5 = .int .i64 x5_1 ∧ Aside0 (laws_sameFdb.l0 kq l0 l1 x5_1 = some r) ∧ Aside0 (kq ≤ k) ∧ Drawn0 w w')
   case atStart => exact ⟨(0), sq, H', ⟨Nat.le_refl _⟩, by repeat (first | exact Drawn0.refl _ | apply Drawn0.step)⟩
   case round =>
    clear H'
    try clear c1
    try clear p2
    try clear c3
    try clear c3b0
    try clear c3b1
    try clear c3b2
    obtain ⟨x5_1, rfl, HA, HK1, ⟨m1, rfl⟩⟩ := hrel
    cases gk with
    | zero => exact absurd HA.out (by simp [laws_sameFdb.l0])
    | succ k1 =>
     have H := HA.out
     clear HA
     simp only [laws_sameFdb.l0] at H
     by_cases c4 : x5_1 < (l0.length : Int)
     · rw [if_pos c4] at H
       have c4b0 : decide (x5_1 < (l0.length : Int)) = true := decide_eq_true c4
       clear c4
       by_cases c5 : 0 ≤ x5_1
       · rw [if_pos c5] at H
         have c5b0 : decide (0 ≤ x5_1) = true := decide_eq_true c5
         clear c5
         by_cases c6 : x5_1 < (l1.length : Int)
         · rw [if_pos c6] at H
           have c6b0 : decide (x5_1 < (l1.length : Int)) = true := decide_eq_true c6
           clear c6
           by_cases c7 : (!(((rd_T44 l0 x5_1).f0) == ((rd_T44 l1 x5_1).f0)) || (!(((rd_T44 l0 x5_1).f1) == ((rd_T44 l1 x5_1).f1)) || (!(((rd_T44 l0 x5_1).f2) == ((rd_T44 l1 x5_1).f2)) || (!(((rd_T44 l0 x5_1).f3) == ((rd_T44 l1 x5_1).f3)) || (!(((rd_T44 l0 x5_1).f4) == ((rd_T44 l1 x5_1).f4))))))) = true
           · rw [if_pos c7] at H
             have c7b0 : (!(((rd_T44 l0 x5_1).f0) == ((rd_T44 l1 x5_1).f0)) || (!(((rd_T44 l0 x5_1).f1) == ((rd_T44 l1 x5_1).f1)) || (!(((rd_T44 l0 x5_1).f2) == ((rd_T44 l1 x5_1).f2)) || (!(((rd_T44 l0 x5_1).f3) == ((rd_T44 l1 x5_1).f3)) || (!(((rd_T44 l0 x5_1).f4) == ((rd_T44 l1 x5_1).f4))))))) = true := c7
             clear c7
             obtain rfl := Option.some.inj H
             have p346 : 0 ≤ (x5_1 : Int) := oda
             have q346 : x5_1 < (l0.length : Int) := oda
             obtain ⟨ad346, e346, hx346_0, hx346_1, hx346_2, hx346_3, hx346_4⟩ := at_T44 HR0.out x5_1 p346 q346
             cases e346
             replace p346 := eq_true p346
             replace q346 := eq_true q346
             have p347 : 0 ≤ (x5_1 : Int) := oda
             have q347 : x5_1 < (l1.length : Int) := oda
             obtain ⟨ad347, e347, hx347_0, hx347_1, hx347_2, hx347_3, hx347_4⟩ := at_T44 HR1.out x5_1 p347 q347
             cases e347
             replace p347 := eq_true p347
             replace q347 := eq_true q347
             go_wp2
             repeat (go_quiet (fail); try go_wp2)
             go_ret
             exact ⟨by first | rfl | (simp; done) | (simp [*]; done), by repeat (first | exact Drawn0.refl _ | apply Drawn0.step)⟩
           rw [if_neg c7] at H
           have c7b0 : (!(((rd_T44 l0 x5_1).f0) == ((rd_T44 l1 x5_1).f0)) || (!(((rd_T44 l0 x5_1).f1) == ((rd_T44 l1 x5_1).f1)) || (!(((rd_T44 l0 x5_1).f2) == ((rd_T44 l1 x5_1).f2)) || (!(((rd_T44 l0 x5_1).f3) == ((rd_T44 l1 x5_1).f3)) || (!(((rd_T44 l0 x5_1).f4) == ((rd_T44 l1 x5_1).f4))))))) = false := by simpa using c7
           clear c7
           have H' := am H
           clear H
           have p346 : 0 ≤ (x5_1 : Int) := oda
           have q346 : x5_1 < (l0.length : Int) := oda
           obtain ⟨ad346, e346, hx346_0, hx346_1, hx346_2, hx346_3, hx346_4⟩ := at_T44 HR0.out x5_1 p346 q346
           cases e346
           replace p346 := eq_true p346
           replace q346 := eq_true q346
           have p347 : 0 ≤ (x5_1 : Int) := oda
           have q347 : x5_1 < (l1.length : Int) := oda
           obtain ⟨ad347, e347, hx347_0, hx347_1, hx347_2, hx347_3, hx347_4⟩ := at_T44 HR1.out x5_1 p347 q347
           cases e347
           replace p347 := eq_true p347
           replace q347 := eq_true q347
           go_wp2
           repeat (go_quiet (fail); try go_wp2)
           go_roundg k1
           case measure => have := HK1.out; omega
           case rel => exact ⟨(wrap64 (x5_1 + 1)), sq, H', ⟨by have := HK1.out; omega⟩, by repeat (first | exact Drawn0.refl _ | apply Drawn0.step)⟩
         rw [if_neg c6] at H
         exact absurd H (by simp)
       rw [if_neg c5] at H
       exact absurd H (by simp)
     rw [if_neg c4] at H
     have c4b0 : decide (x5_1 < (l0.length : Int)) = false := decide_eq_false c4
     clear c4
     obtain rfl := Option.some.inj H
     go_wp2
     repeat (go_quiet (fail); try go_wp2)
     go_ret
     exact ⟨by first | rfl | (simp; done) | (simp [*]; done), by repeat (first | exact Drawn0.refl _ | apply Drawn0.step)⟩
 rw [if_neg c3] at H
 have c3b0 : ((l0.length : Int) == (l1.length : Int)) = false := beq_eq_false_iff_ne.mpr c3
 have c3b1 : ((l0.length : Int) != (l1.length : Int)) = true := bne_iff_ne.mpr c3
 have c3b2 : (l0.length == l1.length) = false := by first | simpa using c3 | (simp at c3 ⊢; omega)
 obtain rfl := Option.some.inj H
 go_enter Try.func31, Try.ntmps31
 go_wp2
 repeat (go_quiet (fail); try go_wp2)
 go_ret
 exact ⟨by first | rfl | (simp; done) | (simp [*]; done), by repeat (first | exact Drawn0.refl _ | apply Drawn0.step)⟩

/-! ### impl_FlushPort: function 38 -/
def impl_FlushPort.l0 : Nat → Int → List (S44) → List (S44) → Int → Int → Option ((List (S44)))
 | 0, _, _, _, _, _ => none
 | k + 1, x1, x5, x8, x9, x10 => if x10 < x9 then (if 0 ≤ x10 then (if x10 < (x8.length : Int) then (if (rd_T44 x8 x10).f4 = true then (if x5.length < 3518437208883 then (impl_FlushPort.l0 k x1 (x5 ++ [(⟨(rd_T44 x8 x10).f0, (rd_T44 x8 x10).f1, (rd_T44 x8 x10).f2, (rd_T44 x8 x10).f3, (rd_T44 x8 x10).f4⟩ : S44)]) x8 x9 (wrap64 (x10 + 1))) else (none)) else (if ((rd_T44 x8 x10).f2) = x1 then (impl_FlushPort.l0 k x1 x5 x8 x9 (wrap64 (x10 + 1))) else (if x5.length < 3518437208883 then (impl_FlushPort.l0 k x1 (x5 ++ [(⟨(rd_T44 x8 x10).f0, (rd_T44 x8 x10).f1, (rd_T44 x8 x10).f2, (rd_T44 x8 x10).f3, (rd_T44 x8 x10).f4⟩ : S44)]) x8 x9 (wrap64 (x10 + 1))) else (none)))) else (none)) else (none)) else (some x5)
def impl_FlushPort.f (k : Nat) (l0 : List (S44)) (a1 : Int) : Option ((List (S44))) := impl_FlushPort.l0 k a1 ([] : List (S44)) l0 (l0.length : Int) 0
theorem impl_FlushPort.mono_l : ∀ k, (∀ y0 y1 y2 y3 y4, LeO (impl_FlushPort.l0 k y0 y1 y2 y3 y4) (impl_FlushPort.l0 (k + 1) y0 y1 y2 y3 y4))
 | 0 => fun _ _ _ _ _ r h => by simp [impl_FlushPort.l0] at h
 | k + 1 => by
  have ih0 := impl_FlushPort.mono_l k
  intro y0 y1 y2 y3 y4
  unfold impl_FlushPort.l0
  repeat' first
  | (with_reducible exact ih0 _ _ _ _ _)
  | (with_reducible exact LeO.refl _)
  | (with_reducible exact LeO.none _)
  | (with_reducible refine LeO.ite ?_ ?_)
  | (with_reducible refine LeO.bind ?_ (fun _ => ?_))
  | exact ih0 _ _ _ _ _
  | exact LeO.none _
  | refine LeO.ite ?_ ?_
  | refine LeO.bind ?_ (fun _ => ?_)
theorem impl_FlushPort.mono : ∀ a0 a1 k, LeO (impl_FlushPort.f k a0 a1) (impl_FlushPort.f (k + 1) a0 a1) := by
 intro a0 a1 k
 have ih0 := impl_FlushPort.mono_l k
 unfold impl_FlushPort.f
 repeat' first
  | (with_reducible exact ih0 _ _ _ _ _)
  | (with_reducible exact LeO.refl _)
  | (with_reducible exact LeO.none _)
  | (with_reducible refine LeO.ite ?_ ?_)
  | (with_reducible refine LeO.bind ?_ (fun _ => ?_))
  | exact ih0 _ _ _ _ _
  | exact LeO.none _
  | refine LeO.ite ?_ ?_
  | refine LeO.bind ?_ (fun _ => ?_)
set_option maxHeartbeats 8000000 in
set_option maxRecDepth 100000 in
theorem impl_FlushPort.calls (k : Nat) (A0 : Option Addr) (c0 : Nat) (l0 : List (S44)) (a1 : Int) (r : List (S44)) (w : World) (hr0 : Kd.C k44 w A0 l0.length l0) (hc0 : l0.length ≤ c0) (h : impl_FlushPort.f k l0 a1 = some r) :
 Calls Try.prog 38 #[.slice A0 l0.length c0, .int .i64 a1] w fun e w' => ∃ v0_ : Value, e = .returned (v0_) ∧ Kd.R k44 44 w' w.heap.size (fun _ => True) v0_ r ∧ Below w.heap.size w w' := by
 have hu44 := Try.underlying44
 have HR0 := am hr0
 have HC0 := am hc0
 clear hr0 hc0
 have HB := am (Below.refl w.heap.size w)
 have H : (impl_FlushPort.l0 k a1 ([] : List (S44)) l0 (l0.length : Int) 0) = some r := h
 clear h
 have H' := am H
 clear H
 go_enter Try.func38, Try.ntmps38
 go_wp2
 go_loopg [5, 10] k (fun kq v5 v10 w' => ∃ (x5_1 : List (S44)) (x10_1 : Int), v10 = .int .i64 x10_1 ∧ Aside0 (impl_FlushPort.l0 kq a1 x5_1 l0 (l0.length : Int) x10_1 = some r) ∧ Aside0 (kq ≤ k) ∧ Aside0 (Kd.R k44 44 w' w.heap.size (fun _ => True) v5 x5_1) ∧ Aside0 (Below w.heap.size w w'))
 case atStart => exact ⟨(([] : List (S44))), (0), sq, H', ⟨Nat.le_refl _⟩, ⟨by first | exact Kd.R_nil _ _ _ _ _ | exact Kd.N_nil _ _ _ _ _ | exact Kd.V_nil _ _ _ _ _ | exact Kd.Q_nil _ _ _ _ _ | exact Kd.S_nil _ _ _ _ _⟩, ⟨bq HB.out⟩⟩
 case round =>
  clear H'
  try clear p2
  obtain ⟨x5_1, x10_1, rfl, HA, HK1, HO_5, HB⟩ := hrel
  cases gk with
  | zero => exact absurd HA.out (by simp [impl_FlushPort.l0])
  | succ k1 =>
   have H := HA.out
   clear HA
   simp only [impl_FlushPort.l0] at H
   by_cases c3 : x10_1 < (l0.length : Int)
   · rw [if_pos c3] at H
     have c3b0 : decide (x10_1 < (l0.length : Int)) = true := decide_eq_true c3
     clear c3
     by_cases c4 : 0 ≤ x10_1
     · rw [if_pos c4] at H
       have c4b0 : decide (0 ≤ x10_1) = true := decide_eq_true c4
       clear c4
       by_cases c5 : x10_1 < (l0.length : Int)
       · rw [if_pos c5] at H
         have c5b0 : decide (x10_1 < (l0.length : Int)) = true := decide_eq_true c5
         clear c5
         obtain ⟨bq6, hbq6⟩ : ∃ b_ : Bool, b_ = ((rd_T44 l0 x10_1).f4) := ⟨_, rfl⟩
         replace H : (if bq6 = true then (if x5_1.length < 3518437208883 then (impl_FlushPort.l0 k1 a1 (x5_1 ++ [(⟨(rd_T44 l0 x10_1).f0, (rd_T44 l0 x10_1).f1, (rd_T44 l0 x10_1).f2, (rd_T44 l0 x10_1).f3, bq6⟩ : S44)]) l0 (l0.length : Int) (wrap64 (x10_1 + 1))) else (none)) else (if ((rd_T44 l0 x10_1).f2) = a1 then (impl_FlushPort.l0 k1 a1 x5_1 l0 (l0.length : Int) (wrap64 (x10_1 + 1))) else (if x5_1.length < 3518437208883 then (impl_FlushPort.l0 k1 a1 (x5_1 ++ [(⟨(rd_T44 l0 x10_1).f0, (rd_T44 l0 x10_1).f1, (rd_T44 l0 x10_1).f2, (rd_T44 l0 x10_1).f3, bq6⟩ : S44)]) l0 (l0.length : Int) (wrap64 (x10_1 + 1))) else (none)))) = some r := by rw [← hbq6] at H; exact H
         have Nbq6 := am hbq6
         clear hbq6
         by_cases c7 : bq6 = true
         · subst c7
           have H1 : (if x5_1.length < 3518437208883 then (impl_FlushPort.l0 k1 a1 (x5_1 ++ [(⟨(rd_T44 l0 x10_1).f0, (rd_T44 l0 x10_1).f1, (rd_T44 l0 x10_1).f2, (rd_T44 l0 x10_1).f3, true⟩ : S44)]) l0 (l0.length : Int) (wrap64 (x10_1 + 1))) else (none)) = some r := by rw [if_pos rfl] at H; exact H
           clear H
           have H := H1
           clear H1
           by_cases c8 : x5_1.length < 3518437208883
           · rw [if_pos c8] at H
             have LMc8 := am c8
             clear c8
             obtain ⟨y350, hy350⟩ : ∃ y_ : List (S44), y_ = (x5_1 ++ [(⟨(rd_T44 l0 x10_1).f0, (rd_T44 l0 x10_1).f1, (rd_T44 l0 x10_1).f2, (rd_T44 l0 x10_1).f3, true⟩ : S44)]) := ⟨_, rfl⟩
             replace H : (impl_FlushPort.l0 k1 a1 y350 l0 (l0.length : Int) (wrap64 (x10_1 + 1))) = some r := by first | (rw [hy350]; with_reducible exact H) | (have H2_ := (Option.bind_some _ _).symm.trans H; rw [hy350]; with_reducible exact H2_) | (have H2_ := (Option.bind_some _ _).symm.trans H; with_reducible exact H2_) | with_reducible exact H | (rw [hy350]; exact H) | exact H
             have Ny350 := am hy350
             clear hy350
             have H' := am H
             clear H
             have p348 : 0 ≤ (x10_1 : Int) := oda
             have q348 : x10_1 < (l0.length : Int) := oda
             obtain ⟨ad348, e348, hx348_0, hx348_1, hx348_2, hx348_3, hx348_4⟩ := at_T44 HR0.out x10_1 p348 q348
             (try rw [← Nbq6.out] at hx348_4)
             cases e348
             replace hx348_0 := (HB.out.cell (World.block_lt_of_cell? w _ hx348_0)).trans hx348_0
             replace hx348_1 := (HB.out.cell (World.block_lt_of_cell? w _ hx348_1)).trans hx348_1
             replace hx348_2 := (HB.out.cell (World.block_lt_of_cell? w _ hx348_2)).trans hx348_2
             replace hx348_3 := (HB.out.cell (World.block_lt_of_cell? w _ hx348_3)).trans hx348_3
             replace hx348_4 := (HB.out.cell (World.block_lt_of_cell? w _ hx348_4)).trans hx348_4
             replace p348 := eq_true p348
             replace q348 := eq_true q348
             go_wp2_with (first | ((with_reducible refine gate_dst (N := 7) rfl ?_); refine box_event ?hg (N := 7) ?hd (cs := #[.int .i64 0, .int .i64 0, .int .i64 0, .int .i64 0, .bool false]) (t := 44) ?hr ?_; (case hd => rfl); (case hg => rfl); (case hr => exact gs); intro gb349 hg w9 hbox hb; have n_ := ak5 (Kd.R_below (Kd.R_elderB (kqR HO_5.out) gb349 (Nat.le_of_eq hg.symm)) hb) (below_step (bq HB.out) hb) hbox ((by rw [hg]; exact (below_size (bq HB.out)) : w.heap.size ≤ gb349)) ((by rw [hg]; exact (below_size (bq HB.out)) : w.heap.size ≤ gb349)); clear HO_5 HB; obtain ⟨HO_5, HB, BK349, GW349, GE349⟩ := n_; clear hb hbox hg; have hcz10_0 : w9.cell? ⟨gb349, 0, none⟩ = some (.int .i64 0) := (blk_cell BK349.out 0).trans rfl; have hcz10_1 : w9.cell? ⟨gb349, 1, none⟩ = some (.int .i64 0) := (blk_cell BK349.out 1).trans rfl; have hcz10_2 : w9.cell? ⟨gb349, 2, none⟩ = some (.int .i64 0) := (blk_cell BK349.out 2).trans rfl; have hcz10_3 : w9.cell? ⟨gb349, 3, none⟩ = some (.int .i64 0) := (blk_cell BK349.out 3).trans rfl; have hcz10_4 : w9.cell? ⟨gb349, 4, none⟩ = some (.bool false) := (blk_cell BK349.out 4).trans rfl; have hfz10_0 := blk_frozen BK349.out 0; have hfz10_1 := blk_frozen BK349.out 1; have hfz10_2 := blk_frozen BK349.out 2; have hfz10_3 := blk_frozen BK349.out 3; have hfz10_4 := blk_frozen BK349.out 4) | ((with_reducible refine gate_store (t := 44) (p := 7) rfl ?_); refine store_event (t := 44) (p := 7) (v := ?vo_w11) (w1 := (((((w9.setCell ⟨gb349, 0, none⟩ (.int .i64 ((rd_T44 l0 x10_1).f0))).setCell ⟨gb349, 1, none⟩ (.int .i64 ((rd_T44 l0 x10_1).f1))).setCell ⟨gb349, 2, none⟩ (.int .i64 ((rd_T44 l0 x10_1).f2))).setCell ⟨gb349, 3, none⟩ (.int .i64 ((rd_T44 l0 x10_1).f3))).setCell ⟨gb349, 4, none⟩ (.bool true))) ?hg ?ho ?hn ?hr ?_; (case ho => rfl); (case hg => rfl); (case hn => rfl); (case hr => exact gs); intro w11 hw; have n0_ : Aside0 (Kd.R k44 44 w11 w.heap.size (fun k_ => k_ ≠ gb349) u5 x5_1) := ⟨(by rw [hw]; exact (by (with_reducible repeat (first | apply Kd.R_alloc | apply Kd.R_drewN | apply Kd.R_drew)); exact Kd.R_mono (Kd.R_far (p := ⟨gb349, 4, none⟩) (Kd.R_far (p := ⟨gb349, 3, none⟩) (Kd.R_far (p := ⟨gb349, 2, none⟩) (Kd.R_far (p := ⟨gb349, 1, none⟩) (Kd.R_far (p := ⟨gb349, 0, none⟩) (Kd.R_mono HO_5.out (fun k_ hk => (⟨hk, hk.2⟩ : _ ∧ k_ ≠ gb349))) (fun _ hk => hk.2) (.int .i64 ((rd_T44 l0 x10_1).f0))) (fun _ hk => hk.2) (.int .i64 ((rd_T44 l0 x10_1).f1))) (fun _ hk => hk.2) (.int .i64 ((rd_T44 l0 x10_1).f2))) (fun _ hk => hk.2) (.int .i64 ((rd_T44 l0 x10_1).f3))) (fun _ hk => hk.2) (.bool true)) (fun _ hk => hk.1.2)))⟩; have n1_ : Aside0 (w11.heap[gb349]? = some (.cells #[.int .i64 ((rd_T44 l0 x10_1).f0), .int .i64 ((rd_T44 l0 x10_1).f1), .int .i64 ((rd_T44 l0 x10_1).f2), .int .i64 ((rd_T44 l0 x10_1).f3), .bool true] 44 (0, 0))) := ⟨(by rw [hw]; exact (by (with_reducible repeat (first | refine blk_drewN ?_ _ | refine blk_drew ?_ | refine blk_alloc ?_ _)); refine blk_put (cs := #[.int .i64 ((rd_T44 l0 x10_1).f0), .int .i64 ((rd_T44 l0 x10_1).f1), .int .i64 ((rd_T44 l0 x10_1).f2), .int .i64 ((rd_T44 l0 x10_1).f3), .bool false]) ?_ 4 _ rfl; (with_reducible repeat (first | refine blk_drewN ?_ _ | refine blk_drew ?_ | refine blk_alloc ?_ _)); refine blk_put (cs := #[.int .i64 ((rd_T44 l0 x10_1).f0), .int .i64 ((rd_T44 l0 x10_1).f1), .int .i64 ((rd_T44 l0 x10_1).f2), .int .i64 0, .bool false]) ?_ 3 _ rfl; (with_reducible repeat (first | refine blk_drewN ?_ _ | refine blk_drew ?_ | refine blk_alloc ?_ _)); refine blk_put (cs := #[.int .i64 ((rd_T44 l0 x10_1).f0), .int .i64 ((rd_T44 l0 x10_1).f1), .int .i64 0, .int .i64 0, .bool false]) ?_ 2 _ rfl; (with_reducible repeat (first | refine blk_drewN ?_ _ | refine blk_drew ?_ | refine blk_alloc ?_ _)); refine blk_put (cs := #[.int .i64 ((rd_T44 l0 x10_1).f0), .int .i64 0, .int .i64 0, .int .i64 0, .bool false]) ?_ 1 _ rfl; (with_reducible repeat (first | refine blk_drewN ?_ _ | refine blk_drew ?_ | refine blk_alloc ?_ _)); refine blk_put (cs := #[.int .i64 0, .int .i64 0, .int .i64 0, .int .i64 0, .bool false]) ?_ 0 _ rfl; (with_reducible repeat (first | refine blk_drewN ?_ _ | refine blk_drew ?_ | refine blk_alloc ?_ _)); exact BK349.out))⟩; have n2_ : Aside0 (Below w.heap.size w w11) := ⟨(by rw [hw]; exact (bq1 HB.out GE349.out))⟩; clear hw; clear HO_5; clear BK349; clear HB; have HO_5 := n0_; have BK349 := n1_; have HB := n2_; clear n0_ n1_ n2_; have hcz12_0 : w11.cell? ⟨gb349, 0, none⟩ = some (.int .i64 ((rd_T44 l0 x10_1).f0)) := (blk_cell BK349.out 0).trans rfl; have hcz12_1 : w11.cell? ⟨gb349, 1, none⟩ = some (.int .i64 ((rd_T44 l0 x10_1).f1)) := (blk_cell BK349.out 1).trans rfl; have hcz12_2 : w11.cell? ⟨gb349, 2, none⟩ = some (.int .i64 ((rd_T44 l0 x10_1).f2)) := (blk_cell BK349.out 2).trans rfl; have hcz12_3 : w11.cell? ⟨gb349, 3, none⟩ = some (.int .i64 ((rd_T44 l0 x10_1).f3)) := (blk_cell BK349.out 3).trans rfl; have hcz12_4 : w11.cell? ⟨gb349, 4, none⟩ = some (.bool true) := (blk_cell BK349.out 4).trans rfl; have hfz12_0 := blk_frozen BK349.out 0; have hfz12_1 := blk_frozen BK349.out 1; have hfz12_2 := blk_frozen BK349.out 2; have hfz12_3 := blk_frozen BK349.out 3; have hfz12_4 := blk_frozen BK349.out 4) | ((with_reducible refine gate_builtin (b := .append) (xs := #[.tmp 22, .tmp 24]) rfl ?_); at_builtin; refine Kd.R_append k44 (w0 := w) w.heap.size rfl (.tmp 22) (.tmp 24) 30 44 (.agg #[(.int .i64 0), (.int .i64 0), (.int .i64 0), (.int .i64 0), (.bool false)]) 40 rfl Try.underlying30 info44 rfl (by decide) (by omega) u5 x5_1 (⟨(rd_T44 l0 x10_1).f0, (rd_T44 l0 x10_1).f1, (rd_T44 l0 x10_1).f2, (rd_T44 l0 x10_1).f3, true⟩ : S44) [.int .i64 ((rd_T44 l0 x10_1).f0), .int .i64 ((rd_T44 l0 x10_1).f1), .int .i64 ((rd_T44 l0 x10_1).f2), .int .i64 ((rd_T44 l0 x10_1).f3), .bool true] (fun k_ => k_ ≠ gb349) (fun _ => False) rfl rfl ?aP (fun _ hk => hk.elim) ?aF ?aO ?aB ?aS ?aL ?_; (case aP => exact k44_mkM _ _ _ (⟨(rd_T44 l0 x10_1).f0, (rd_T44 l0 x10_1).f1, (rd_T44 l0 x10_1).f2, (rd_T44 l0 x10_1).f3, true⟩ : S44)); (case aB => exact (bq1 HB.out GE349.out)); (case aF => exact (fun k_ hk => Kd.freshB (g := gb349) (o := .cells #[.int .i64 ((rd_T44 l0 x10_1).f0), .int .i64 ((rd_T44 l0 x10_1).f1), .int .i64 ((rd_T44 l0 x10_1).f2), .int .i64 ((rd_T44 l0 x10_1).f3), .bool true] 44 (0, 0)) (zq BK349.out) k_ hk)); (case aO => exact (kqR HO_5.out)); (case aS => exact (below_size (bq1 HB.out GE349.out))); (case aL => have := LMc8.out; omega); intro v351 w13 ho hb hg hat; rw [← Ny350.out] at ho; have n_ := ak3 (blk_grown (g := gb349) (o := .cells #[.int .i64 ((rd_T44 l0 x10_1).f0), .int .i64 ((rd_T44 l0 x10_1).f1), .int .i64 ((rd_T44 l0 x10_1).f2), .int .i64 ((rd_T44 l0 x10_1).f3), .bool true] 44 (0, 0)) (zq BK349.out) hg (Kd.R_away HO_5.out (fun _ hk => hk))) hb ho; clear BK349 HB HO_5; obtain ⟨BK349, HB, HO352⟩ := n_; clear ho hb hg hat))
             go_roundg k1
             case measure => have := HK1.out; omega
             case rel => exact ⟨(y350), (wrap64 (x10_1 + 1)), sq, H', ⟨by have := HK1.out; omega⟩, ⟨by (with_reducible repeat (first | apply Kd.R_alloc | apply Kd.R_drewN | apply Kd.R_drew)); exact Kd.R_mono HO352.out (fun _ hk => trivial)⟩, ⟨bq1 HB.out GE349.out⟩⟩
           rw [if_neg c8] at H
           exact absurd H (by simp)
         replace c7 := Bool.eq_false_iff.mpr c7
         subst c7
         have H1 : (if ((rd_T44 l0 x10_1).f2) = a1 then (impl_FlushPort.l0 k1 a1 x5_1 l0 (l0.length : Int) (wrap64 (x10_1 + 1))) else (if x5_1.length < 3518437208883 then (impl_FlushPort.l0 k1 a1 (x5_1 ++ [(⟨(rd_T44 l0 x10_1).f0, (rd_T44 l0 x10_1).f1, (rd_T44 l0 x10_1).f2, (rd_T44 l0 x10_1).f3, false⟩ : S44)]) l0 (l0.length : Int) (wrap64 (x10_1 + 1))) else (none))) = some r := by rw [if_neg (show ¬ (false = true) by decide)] at H; exact H
         clear H
         have H := H1
         clear H1
         by_cases c14 : ((rd_T44 l0 x10_1).f2) = a1
         · rw [if_pos c14] at H
           have c14b0 : (((rd_T44 l0 x10_1).f2) == a1) = true := beq_iff_eq.mpr c14
           have c14b1 : (((rd_T44 l0 x10_1).f2) != a1) = false := bne_eq_false_iff_eq.mpr c14
           clear c14
           have H' := am H
           clear H
           have p348 : 0 ≤ (x10_1 : Int) := oda
           have q348 : x10_1 < (l0.length : Int) := oda
           obtain ⟨ad348, e348, hx348_0, hx348_1, hx348_2, hx348_3, hx348_4⟩ := at_T44 HR0.out x10_1 p348 q348
           (try rw [← Nbq6.out] at hx348_4)
           cases e348
           replace hx348_0 := (HB.out.cell (World.block_lt_of_cell? w _ hx348_0)).trans hx348_0
           replace hx348_1 := (HB.out.cell (World.block_lt_of_cell? w _ hx348_1)).trans hx348_1
           replace hx348_2 := (HB.out.cell (World.block_lt_of_cell? w _ hx348_2)).trans hx348_2
           replace hx348_3 := (HB.out.cell (World.block_lt_of_cell? w _ hx348_3)).trans hx348_3
           replace hx348_4 := (HB.out.cell (World.block_lt_of_cell? w _ hx348_4)).trans hx348_4
           replace p348 := eq_true p348
           replace q348 := eq_true q348
           go_wp2_with (first | ((with_reducible refine gate_dst (N := 7) rfl ?_); refine box_event ?hg (N := 7) ?hd (cs := #[.int .i64 0, .int .i64 0, .int .i64 0, .int .i64 0, .bool false]) (t := 44) ?hr ?_; (case hd => rfl); (case hg => rfl); (case hr => exact gs); intro gb349 hg w15 hbox hb; have n_ := ak5 (Kd.R_below (Kd.R_elderB (kqR HO_5.out) gb349 (Nat.le_of_eq hg.symm)) hb) (below_step (bq HB.out) hb) hbox ((by rw [hg]; exact (below_size (bq HB.out)) : w.heap.size ≤ gb349)) ((by rw [hg]; exact (below_size (bq HB.out)) : w.heap.size ≤ gb349)); clear HO_5 HB; obtain ⟨HO_5, HB, BK349, GW349, GE349⟩ := n_; clear hb hbox hg; have hcz16_0 : w15.cell? ⟨gb349, 0, none⟩ = some (.int .i64 0) := (blk_cell BK349.out 0).trans rfl; have hcz16_1 : w15.cell? ⟨gb349, 1, none⟩ = some (.int .i64 0) := (blk_cell BK349.out 1).trans rfl; have hcz16_2 : w15.cell? ⟨gb349, 2, none⟩ = some (.int .i64 0) := (blk_cell BK349.out 2).trans rfl; have hcz16_3 : w15.cell? ⟨gb349, 3, none⟩ = some (.int .i64 0) := (blk_cell BK349.out 3).trans rfl; have hcz16_4 : w15.cell? ⟨gb349, 4, none⟩ = some (.bool false) := (blk_cell BK349.out 4).trans rfl; have hfz16_0 := blk_frozen BK349.out 0; have hfz16_1 := blk_frozen BK349.out 1; have hfz16_2 := blk_frozen BK349.out 2; have hfz16_3 := blk_frozen BK349.out 3; have hfz16_4 := blk_frozen BK349.out 4) | ((with_reducible refine gate_store (t := 44) (p := 7) rfl ?_); refine store_event (t := 44) (p := 7) (v := ?vo_w17) (w1 := (((((w15.setCell ⟨gb349, 0, none⟩ (.int .i64 ((rd_T44 l0 x10_1).f0))).setCell ⟨gb349, 1, none⟩ (.int .i64 ((rd_T44 l0 x10_1).f1))).setCell ⟨gb349, 2, none⟩ (.int .i64 ((rd_T44 l0 x10_1).f2))).setCell ⟨gb349, 3, none⟩ (.int .i64 ((rd_T44 l0 x10_1).f3))).setCell ⟨gb349, 4, none⟩ (.bool false))) ?hg ?ho ?hn ?hr ?_; (case ho => rfl); (case hg => rfl); (case hn => rfl); (case hr => exact gs); intro w17 hw; have n0_ : Aside0 (Kd.R k44 44 w17 w.heap.size (fun k_ => k_ ≠ gb349) u5 x5_1) := ⟨(by rw [hw]; exact (by (with_reducible repeat (first | apply Kd.R_alloc | apply Kd.R_drewN | apply Kd.R_drew)); exact Kd.R_mono (Kd.R_far (p := ⟨gb349, 4, none⟩) (Kd.R_far (p := ⟨gb349, 3, none⟩) (Kd.R_far (p := ⟨gb349, 2, none⟩) (Kd.R_far (p := ⟨gb349, 1, none⟩) (Kd.R_far (p := ⟨gb349, 0, none⟩) (Kd.R_mono HO_5.out (fun k_ hk => (⟨hk, hk.2⟩ : _ ∧ k_ ≠ gb349))) (fun _ hk => hk.2) (.int .i64 ((rd_T44 l0 x10_1).f0))) (fun _ hk => hk.2) (.int .i64 ((rd_T44 l0 x10_1).f1))) (fun _ hk => hk.2) (.int .i64 ((rd_T44 l0 x10_1).f2))) (fun _ hk => hk.2) (.int .i64 ((rd_T44 l0 x10_1).f3))) (fun _ hk => hk.2) (.bool false)) (fun _ hk => hk.1.2)))⟩; have n1_ : Aside0 (w17.heap[gb349]? = some (.cells #[.int .i64 ((rd_T44 l0 x10_1).f0), .int .i64 ((rd_T44 l0 x10_1).f1), .int .i64 ((rd_T44 l0 x10_1).f2), .int .i64 ((rd_T44 l0 x10_1).f3), .bool false] 44 (0, 0))) := ⟨(by rw [hw]; exact (by (with_reducible repeat (first | refine blk_drewN ?_ _ | refine blk_drew ?_ | refine blk_alloc ?_ _)); refine blk_put (cs := #[.int .i64 ((rd_T44 l0 x10_1).f0), .int .i64 ((rd_T44 l0 x10_1).f1), .int .i64 ((rd_T44 l0 x10_1).f2), .int .i64 ((rd_T44 l0 x10_1).f3), .bool false]) ?_ 4 _ rfl; (with_reducible repeat (first | refine blk_drewN ?_ _ | refine blk_drew ?_ | refine blk_alloc ?_ _)); refine blk_put (cs := #[.int .i64 ((rd_T44 l0 x10_1).f0), .int .i64 ((rd_T44 l0 x10_1).f1), .int .i64 ((rd_T44 l0 x10_1).f2), .int .i64 0, .bool false]) ?_ 3 _ rfl; (with_reducible repeat (first | refine blk_drewN ?_ _ | refine blk_drew ?_ | refine blk_alloc ?_ _)); refine blk_put (cs := #[.int .i64 ((rd_T44 l0 x10_1).f0), .int .i64 ((rd_T44 l0 x10_1).f1), .int .i64 0, .int .i64 0, .bool false]) ?_ 2 _ rfl; (with_reducible repeat (first | refine blk_drewN ?_ _ | refine blk_drew ?_ | refine blk_alloc ?_ _)); refine blk_put (cs := #[.int .i64 ((rd_T44 l0 x10_1).f0), .int .i64 0, .int .i64 0, .int .i64 0, .bool false]) ?_ 1 _ rfl; (with_reducible repeat (first | refine blk_drewN ?_ _ | refine blk_drew ?_ | refine blk_alloc ?_ _)); refine blk_put (cs := #[.int .i64 0, .int .i64 0, .int .i64 0, .int .i64 0, .bool false]) ?_ 0 _ rfl; (with_reducible repeat (first | refine blk_drewN ?_ _ | refine blk_drew ?_ | refine blk_alloc ?_ _)); exact BK349.out))⟩; have n2_ : Aside0 (Below w.heap.size w w17) := ⟨(by rw [hw]; exact (bq1 HB.out GE349.out))⟩; clear hw; clear HO_5; clear BK349; clear HB; have HO_5 := n0_; have BK349 := n1_; have HB := n2_; clear n0_ n1_ n2_; have hcz18_0 : w17.cell? ⟨gb349, 0, none⟩ = some (.int .i64 ((rd_T44 l0 x10_1).f0)) := (blk_cell BK349.out 0).trans rfl; have hcz18_1 : w17.cell? ⟨gb349, 1, none⟩ = some (.int .i64 ((rd_T44 l0 x10_1).f1)) := (blk_cell BK349.out 1).trans rfl; have hcz18_2 : w17.cell? ⟨gb349, 2, none⟩ = some (.int .i64 ((rd_T44 l0 x10_1).f2)) := (blk_cell BK349.out 2).trans rfl; have hcz18_3 : w17.cell? ⟨gb349, 3, none⟩ = some (.int .i64 ((rd_T44 l0 x10_1).f3)) := (blk_cell BK349.out 3).trans rfl; have hcz18_4 : w17.cell? ⟨gb349, 4, none⟩ = some (.bool false) := (blk_cell BK349.out 4).trans rfl; have hfz18_0 := blk_frozen BK349.out 0; have hfz18_1 := blk_frozen BK349.out 1; have hfz18_2 := blk_frozen BK349.out 2; have hfz18_3 := blk_frozen BK349.out 3; have hfz18_4 := blk_frozen BK349.out 4))
           go_roundg k1
           case measure => have := HK1.out; omega
           case rel => exact ⟨(x5_1), (wrap64 (x10_1 + 1)), sq, H', ⟨by have := HK1.out; omega⟩, ⟨by (with_reducible repeat (first | apply Kd.R_alloc | apply Kd.R_drewN | apply Kd.R_drew)); exact Kd.R_mono HO_5.out (fun _ hk => trivial)⟩, ⟨bq1 HB.out GE349.out⟩⟩
         rw [if_neg c14] at H
         have c14b0 : (((rd_T44 l0 x10_1).f2) == a1) = false := beq_eq_false_iff_ne.mpr c14
         have c14b1 : (((rd_T44 l0 x10_1).f2) != a1) = true := bne_iff_ne.mpr c14
         by_cases c19 : x5_1.length < 3518437208883
         · rw [if_pos c19] at H
           have LMc19 := am c19
           clear c19
           obtain ⟨y353, hy353⟩ : ∃ y_ : List (S44), y_ = (x5_1 ++ [(⟨(rd_T44 l0 x10_1).f0, (rd_T44 l0 x10_1).f1, (rd_T44 l0 x10_1).f2, (rd_T44 l0 x10_1).f3, false⟩ : S44)]) := ⟨_, rfl⟩
           replace H : (impl_FlushPort.l0 k1 a1 y353 l0 (l0.length : Int) (wrap64 (x10_1 + 1))) = some r := by first | (rw [hy353]; with_reducible exact H) | (have H2_ := (Option.bind_some _ _).symm.trans H; rw [hy353]; with_reducible exact H2_) | (have H2_ := (Option.bind_some _ _).symm.trans H; with_reducible exact H2_) | with_reducible exact H | (rw [hy353]; exact H) | exact H
           have Ny353 := am hy353
           clear hy353
           have H' := am H
           clear H
           have p348 : 0 ≤ (x10_1 : Int) := oda
           have q348 : x10_1 < (l0.length : Int) := oda
           obtain ⟨ad348, e348, hx348_0, hx348_1, hx348_2, hx348_3, hx348_4⟩ := at_T44 HR0.out x10_1 p348 q348
           (try rw [← Nbq6.out] at hx348_4)
           cases e348
           replace hx348_0 := (HB.out.cell (World.block_lt_of_cell? w _ hx348_0)).trans hx348_0
           replace hx348_1 := (HB.out.cell (World.block_lt_of_cell? w _ hx348_1)).trans hx348_1
           replace hx348_2 := (HB.out.cell (World.block_lt_of_cell? w _ hx348_2)).trans hx348_2
           replace hx348_3 := (HB.out.cell (World.block_lt_of_cell? w _ hx348_3)).trans hx348_3
           replace hx348_4 := (HB.out.cell (World.block_lt_of_cell? w _ hx348_4)).trans hx348_4
           replace p348 := eq_true p348
           replace q348 := eq_true q348
           go_wp2_with (first | ((with_reducible refine gate_dst (N := 7) rfl ?_); refine box_event ?hg (N := 7) ?hd (cs := #[.int .i64 0, .int .i64 0, .int .i64 0, .int .i64 0, .bool false]) (t := 44) ?hr ?_; (case hd => rfl); (case hg => rfl); (case hr => exact gs); intro gb349 hg w20 hbox hb; have n_ := ak5 (Kd.R_below (Kd.R_elderB (kqR HO_5.out) gb349 (Nat.le_of_eq hg.symm)) hb) (below_step (bq HB.out) hb) hbox ((by rw [hg]; exact (below_size (bq HB.out)) : w.heap.size ≤ gb349)) ((by rw [hg]; exact (below_size (bq HB.out)) : w.heap.size ≤ gb349)); clear HO_5 HB; obtain ⟨HO_5, HB, BK349, GW349, GE349⟩ := n_; clear hb hbox hg; have hcz21_0 : w20.cell? ⟨gb349, 0, none⟩ = some (.int .i64 0) := (blk_cell BK349.out 0).trans rfl; have hcz21_1 : w20.cell? ⟨gb349, 1, none⟩ = some (.int .i64 0) := (blk_cell BK349.out 1).trans rfl; have hcz21_2 : w20.cell? ⟨gb349, 2, none⟩ = some (.int .i64 0) := (blk_cell BK349.out 2).trans rfl; have hcz21_3 : w20.cell? ⟨gb349, 3, none⟩ = some (.int .i64 0) := (blk_cell BK349.out 3).trans rfl; have hcz21_4 : w20.cell? ⟨gb349, 4, none⟩ = some (.bool false) := (blk_cell BK349.out 4).trans rfl; have hfz21_0 := blk_frozen BK349.out 0; have hfz21_1 := blk_frozen BK349.out 1; have hfz21_2 := blk_frozen BK349.out 2; have hfz21_3 := blk_frozen BK349.out 3; have hfz21_4 := blk_frozen BK349.out 4) | ((with_reducible refine gate_store (t := 44) (p := 7) rfl ?_); refine store_event (t := 44) (p := 7) (v := ?vo_w22) (w1 := (((((w20.setCell ⟨gb349, 0, none⟩ (.int .i64 ((rd_T44 l0 x10_1).f0))).setCell ⟨gb349, 1, none⟩ (.int .i64 ((rd_T44 l0 x10_1).f1))).setCell ⟨gb349, 2, none⟩ (.int .i64 ((rd_T44 l0 x10_1).f2))).setCell ⟨gb349, 3, none⟩ (.int .i64 ((rd_T44 l0 x10_1).f3))).setCell ⟨gb349, 4, none⟩ (.bool false))) ?hg ?ho ?hn ?hr ?_; (case ho => rfl); (case hg => rfl); (case hn => rfl); (case hr => exact gs); intro w22 hw; have n0_ : Aside0 (Kd.R k44 44 w22 w.heap.size (fun k_ => k_ ≠ gb349) u5 x5_1) := ⟨(by rw [hw]; exact (by (with_reducible repeat (first | apply Kd.R_alloc | apply Kd.R_drewN | apply Kd.R_drew)); exact Kd.R_mono (Kd.R_far (p := ⟨gb349, 4, none⟩) (Kd.R_far (p := ⟨gb349, 3, none⟩) (Kd.R_far (p := ⟨gb349, 2, none⟩) (Kd.R_far (p := ⟨gb349, 1, none⟩) (Kd.R_far (p := ⟨gb349, 0, none⟩) (Kd.R_mono HO_5.out (fun k_ hk => (⟨hk, hk.2⟩ : _ ∧ k_ ≠ gb349))) (fun _ hk => hk.2) (.int .i64 ((rd_T44 l0 x10_1).f0))) (fun _ hk => hk.2) (.int .i64 ((rd_T44 l0 x10_1).f1))) (fun _ hk => hk.2) (.int .i64 ((rd_T44 l0 x10_1).f2))) (fun _ hk => hk.2) (.int .i64 ((rd_T44 l0 x10_1).f3))) (fun _ hk => hk.2) (.bool false)) (fun _ hk => hk.1.2)))⟩; have n1_ : Aside0 (w22.heap[gb349]? = some (.cells #[.int .i64 ((rd_T44 l0 x10_1).f0), .int .i64 ((rd_T44 l0 x10_1).f1), .int .i64 ((rd_T44 l0 x10_1).f2), .int .i64 ((rd_T44 l0 x10_1).f3), .bool false] 44 (0, 0))) := ⟨(by rw [hw]; exact (by (with_reducible repeat (first | refine blk_drewN ?_ _ | refine blk_drew ?_ | refine blk_alloc ?_ _)); refine blk_put (cs := #[.int .i64 ((rd_T44 l0 x10_1).f0), .int .i64 ((rd_T44 l0 x10_1).f1), .int .i64 ((rd_T44 l0 x10_1).f2), .int .i64 ((rd_T44 l0 x10_1).f3), .bool false]) ?_ 4 _ rfl; (with_reducible repeat (first | refine blk_drewN ?_ _ | refine blk_drew ?_ | refine blk_alloc ?_ _)); refine blk_put (cs := #[.int .i64 ((rd_T44 l0 x10_1).f0), .int .i64 ((rd_T44 l0 x10_1).f1), .int .i64 ((rd_T44 l0 x10_1).f2), .int .i64 0, .bool false]) ?_ 3 _ rfl; (with_reducible repeat (first | refine blk_drewN ?_ _ | refine blk_drew ?_ | refine blk_alloc ?_ _)); refine blk_put (cs := #[.int .i64 ((rd_T44 l0 x10_1).f0), .int .i64 ((rd_T44 l0 x10_1).f1), .int .i64 0, .int .i64 0, .bool false]) ?_ 2 _ rfl; (with_reducible repeat (first | refine blk_drewN ?_ _ | refine blk_drew ?_ | refine blk_alloc ?_ _)); refine blk_put (cs := #[.int .i64 ((rd_T44 l0 x10_1).f0), .int .i64 0, .int .i64 0, .int .i64 0, .bool false]) ?_ 1 _ rfl; (with_reducible repeat (first | refine blk_drewN ?_ _ | refine blk_drew ?_ | refine blk_alloc ?_ _)); refine blk_put (cs := #[.int .i64 0, .int .i64 0, .int .i64 0, .int .i64 0, .bool false]) ?_ 0 _ rfl; (with_reducible repeat (first | refine blk_drewN ?_ _ | refine blk_drew ?_ | refine blk_alloc ?_ _)); exact BK349.out))⟩; have n2_ : Aside0 (Below w.heap.size w w22) := ⟨(by rw [hw]; exact (bq1 HB.out GE349.out))⟩; clear hw; clear HO_5; clear BK349; clear HB; have HO_5 := n0_; have BK349 := n1_; have HB := n2_; clear n0_ n1_ n2_; have hcz23_0 : w22.cell? ⟨gb349, 0, none⟩ = some (.int .i64 ((rd_T44 l0 x10_1).f0)) := (blk_cell BK349.out 0).trans rfl; have hcz23_1 : w22.cell? ⟨gb349, 1, none⟩ = some (.int .i64 ((rd_T44 l0 x10_1).f1)) := (blk_cell BK349.out 1).trans rfl; have hcz23_2 : w22.cell? ⟨gb349, 2, none⟩ = some (.int .i64 ((rd_T44 l0 x10_1).f2)) := (blk_cell BK349.out 2).trans rfl; have hcz23_3 : w22.cell? ⟨gb349, 3, none⟩ = some (.int .i64 ((rd_T44 l0 x10_1).f3)) := (blk_cell BK349.out 3).trans rfl; have hcz23_4 : w22.cell? ⟨gb349, 4, none⟩ = some (.bool false) := (blk_cell BK349.out 4).trans rfl; have hfz23_0 := blk_frozen BK349.out 0; have hfz23_1 := blk_frozen BK349.out 1; have hfz23_2 := blk_frozen BK349.out 2; have hfz23_3 := blk_frozen BK349.out 3; have hfz23_4 := blk_frozen BK349.out 4) | ((with_reducible refine gate_builtin (b := .append) (xs := #[.tmp 22, .tmp 24]) rfl ?_); at_builtin; refine Kd.R_append k44 (w0 := w) w.heap.size rfl (.tmp 22) (.tmp 24) 30 44 (.agg #[(.int .i64 0), (.int .i64 0), (.int .i64 0), (.int .i64 0), (.bool false)]) 40 rfl Try.underlying30 info44 rfl (by decide) (by omega) u5 x5_1 (⟨(rd_T44 l0 x10_1).f0, (rd_T44 l0 x10_1).f1, (rd_T44 l0 x10_1).f2, (rd_T44 l0 x10_1).f3, false⟩ : S44) [.int .i64 ((rd_T44 l0 x10_1).f0), .int .i64 ((rd_T44 l0 x10_1).f1), .int .i64 ((rd_T44 l0 x10_1).f2), .int .i64 ((rd_T44 l0 x10_1).f3), .bool false] (fun k_ => k_ ≠ gb349) (fun _ => False) rfl rfl ?aP (fun _ hk => hk.elim) ?aF ?aO ?aB ?aS ?aL ?_; (case aP => exact k44_mkM _ _ _ (⟨(rd_T44 l0 x10_1).f0, (rd_T44 l0 x10_1).f1, (rd_T44 l0 x10_1).f2, (rd_T44 l0 x10_1).f3, false⟩ : S44)); (case aB => exact (bq1 HB.out GE349.out)); (case aF => exact (fun k_ hk => Kd.freshB (g := gb349) (o := .cells #[.int .i64 ((rd_T44 l0 x10_1).f0), .int .i64 ((rd_T44 l0 x10_1).f1), .int .i64 ((rd_T44 l0 x10_1).f2), .int .i64 ((rd_T44 l0 x10_1).f3), .bool false] 44 (0, 0)) (zq BK349.out) k_ hk)); (case aO => exact (kqR HO_5.out)); (case aS => exact (below_size (bq1 HB.out GE349.out))); (case aL => have := LMc19.out; omega); intro v354 w24 ho hb hg hat; rw [← Ny353.out] at ho; have n_ := ak3 (blk_grown (g := gb349) (o := .cells #[.int .i64 ((rd_T44 l0 x10_1).f0), .int .i64 ((rd_T44 l0 x10_1).f1), .int .i64 ((rd_T44 l0 x10_1).f2), .int .i64 ((rd_T44 l0 x10_1).f3), .bool false] 44 (0, 0)) (zq BK349.out) hg (Kd.R_away HO_5.out (fun _ hk => hk))) hb ho; clear BK349 HB HO_5; obtain ⟨BK349, HB, HO355⟩ := n_; clear ho hb hg hat))
           go_roundg k1
           case measure => have := HK1.out; omega
           case rel => exact ⟨(y353), (wrap64 (x10_1 + 1)), sq, H', ⟨by have := HK1.out; omega⟩, ⟨by (with_reducible repeat (first | apply Kd.R_alloc | apply Kd.R_drewN | apply Kd.R_drew)); exact Kd.R_mono HO355.out (fun _ hk => trivial)⟩, ⟨bq1 HB.out GE349.out⟩⟩
         rw [if_neg c19] at H
         exact absurd H (by simp)
       rw [if_neg c5] at H
       exact absurd H (by simp)
     rw [if_neg c4] at H
     exact absurd H (by simp)
   rw [if_neg c3] at H
   have c3b0 : decide (x10_1 < (l0.length : Int)) = false := decide_eq_false c3
   clear c3
   obtain rfl := Option.some.inj H
   go_wp2
   go_ret
   exact ⟨_, rq, kqR HO_5.out, bq HB.out⟩

/-! ### impl_AgeAll: function 39 -/
def impl_AgeAll.l0 : Nat → List (S44) → List (S44) → Int → Int → Option ((List (S44)))
 | 0, _, _, _, _ => none
 | k + 1, x3, x6, x7, x8 => if x8 < x7 then (if 0 ≤ x8 then (if x8 < (x6.length : Int) then (if ((rd_T44 x6 x8).f4 = true) then (if x3.length < 3518437208883 then (impl_AgeAll.l0 k (x3 ++ [(⟨(rd_T44 x6 x8).f0, (rd_T44 x6 x8).f1, (rd_T44 x6 x8).f2, (rd_T44 x6 x8).f3, (rd_T44 x6 x8).f4⟩ : S44)]) x6 x7 (wrap64 (x8 + 1))) else (none)) else (if ((rd_T44 x6 x8).f3) ≥ 4 then (impl_AgeAll.l0 k x3 x6 x7 (wrap64 (x8 + 1))) else (if x3.length < 3518437208883 then (impl_AgeAll.l0 k (x3 ++ [(⟨(rd_T44 x6 x8).f0, (rd_T44 x6 x8).f1, (rd_T44 x6 x8).f2, wrap64 (((rd_T44 x6 x8).f3) + 1), (rd_T44 x6 x8).f4⟩ : S44)]) x6 x7 (wrap64 (x8 + 1))) else (none)))) else (none)) else (none)) else (some x3)
def impl_AgeAll.f (k : Nat) (l0 : List (S44)) : Option ((List (S44))) := impl_AgeAll.l0 k ([] : List (S44)) l0 (l0.length : Int) 0
theorem impl_AgeAll.mono_l : ∀ k, (∀ y0 y1 y2 y3, LeO (impl_AgeAll.l0 k y0 y1 y2 y3) (impl_AgeAll.l0 (k + 1) y0 y1 y2 y3))
 | 0 => fun _ _ _ _ r h => by simp [impl_AgeAll.l0] at h
 | k + 1 => by
  have ih0 := impl_AgeAll.mono_l k
  intro y0 y1 y2 y3
  unfold impl_AgeAll.l0
  repeat' first
  | (with_reducible exact ih0 _ _ _ _)
  | (with_reducible exact LeO.refl _)
  | (with_reducible exact LeO.none _)
  | (with_reducible refine LeO.ite ?_ ?_)
  | (with_reducible refine LeO.bind ?_ (fun _ => ?_))
  | exact ih0 _ _ _ _
  | exact LeO.none _
  | refine LeO.ite ?_ ?_
  | refine LeO.bind ?_ (fun _ => ?_)
theorem impl_AgeAll.mono : ∀ a0 k, LeO (impl_AgeAll.f k a0) (impl_AgeAll.f (k + 1) a0) := by
 intro a0 k
 have ih0 := impl_AgeAll.mono_l k
 unfold impl_AgeAll.f
 repeat' first
  | (with_reducible exact ih0 _ _ _ _)
  | (with_reducible exact LeO.refl _)
  | (with_reducible exact LeO.none _)
  | (with_reducible refine LeO.ite ?_ ?_)
  | (with_reducible refine LeO.bind ?_ (fun _ => ?_))
  | exact ih0 _ _ _ _
  | exact LeO.none _
  | refine LeO.ite ?_ ?_
  | refine LeO.bind ?_ (fun _ => ?_)
set_option maxHeartbeats 8000000 in
set_option maxRecDepth 100000 in
theorem impl_AgeAll.calls (k : Nat) (A0 : Option Addr) (c0 : Nat) (l0 : List (S44)) (r : List (S44)) (w : World) (hr0 : Kd.C k44 w A0 l0.length l0) (hc0 : l0.length ≤ c0) (h : impl_AgeAll.f k l0 = some r) :
 Calls Try.prog 39 #[.slice A0 l0.length c0] w fun e w' => ∃ v0_ : Value, e = .returned (v0_) ∧ Kd.R k44 44 w' w.heap.size (fun _ => True) v0_ r ∧ Below w.heap.size w w' := by
 have hu44 := Try.underlying44
 have HR0 := am hr0
 have HC0 := am hc0
 clear hr0 hc0
 have HB := am (Below.refl w.heap.size w)
 have H : (impl_AgeAll.l0 k ([] : List (S44)) l0 (l0.length : Int) 0) = some r := h
 clear h
 have H' := am H
 clear H
 go_enter Try.func39, Try.ntmps39
 go_wp2
 go_loopg [3, 8] k (fun kq v3 v8 w' => ∃ (x3_1 : List (S44)) (x8_1 : Int), v8 = .int .i64 x8_1 ∧ Aside0 (impl_AgeAll.l0 kq x3_1 l0 (l0.length : Int) x8_1 = some r) ∧ Aside0 (kq ≤ k) ∧ Aside0 (Kd.R k44 44 w' w.heap.size (fun _ => True) v3 x3_1) ∧ Aside0 (Below w.heap.size w w'))
 case atStart => exact ⟨(([] : List (S44))), (0), sq, H', ⟨Nat.le_refl _⟩, ⟨by first | exact Kd.R_nil _ _ _ _ _ | exact Kd.N_nil _ _ _ _ _ | exact Kd.V_nil _ _ _ _ _ | exact Kd.Q_nil _ _ _ _ _ | exact Kd.S_nil _ _ _ _ _⟩, ⟨bq HB.out⟩⟩
 case round =>
  clear H'
  obtain ⟨x3_1, x8_1, rfl, HA, HK1, HO_3, HB⟩ := hrel
  cases gk with
  | zero => exact absurd HA.out (by simp [impl_AgeAll.l0])
  | succ k1 =>
   have H := HA.out
   clear HA
   simp only [impl_AgeAll.l0] at H
   by_cases c2 : x8_1 < (l0.length : Int)
   · rw [if_pos c2] at H
     have c2b0 : decide (x8_1 < (l0.length : Int)) = true := decide_eq_true c2
     clear c2
     by_cases c3 : 0 ≤ x8_1
     · rw [if_pos c3] at H
       have c3b0 : decide (0 ≤ x8_1) = true := decide_eq_true c3
       clear c3
       by_cases c4 : x8_1 < (l0.length : Int)
       · rw [if_pos c4] at H
         have c4b0 : decide (x8_1 < (l0.length : Int)) = true := decide_eq_true c4
         clear c4
         obtain ⟨bq5, hbq5⟩ : ∃ b_ : Bool, b_ = ((rd_T44 l0 x8_1).f4) := ⟨_, rfl⟩
         replace H : (if (bq5 = true) then (if x3_1.length < 3518437208883 then (impl_AgeAll.l0 k1 (x3_1 ++ [(⟨(rd_T44 l0 x8_1).f0, (rd_T44 l0 x8_1).f1, (rd_T44 l0 x8_1).f2, (rd_T44 l0 x8_1).f3, bq5⟩ : S44)]) l0 (l0.length : Int) (wrap64 (x8_1 + 1))) else (none)) else (if ((rd_T44 l0 x8_1).f3) ≥ 4 then (impl_AgeAll.l0 k1 x3_1 l0 (l0.length : Int) (wrap64 (x8_1 + 1))) else (if x3_1.length < 3518437208883 then (impl_AgeAll.l0 k1 (x3_1 ++ [(⟨(rd_T44 l0 x8_1).f0, (rd_T44 l0 x8_1).f1, (rd_T44 l0 x8_1).f2, wrap64 (((rd_T44 l0 x8_1).f3) + 1), bq5⟩ : S44)]) l0 (l0.length : Int) (wrap64 (x8_1 + 1))) else (none)))) = some r := by rw [← hbq5] at H; exact H
         have Nbq5 := am hbq5
         clear hbq5
         by_cases c6 : (bq5 = true)
         · subst c6
           have H1 : (if x3_1.length < 3518437208883 then (impl_AgeAll.l0 k1 (x3_1 ++ [(⟨(rd_T44 l0 x8_1).f0, (rd_T44 l0 x8_1).f1, (rd_T44 l0 x8_1).f2, (rd_T44 l0 x8_1).f3, true⟩ : S44)]) l0 (l0.length : Int) (wrap64 (x8_1 + 1))) else (none)) = some r := by rw [if_pos rfl] at H; exact H
           clear H
           have H := H1
           clear H1
           by_cases c7 : x3_1.length < 3518437208883
           · rw [if_pos c7] at H
             have LMc7 := am c7
             clear c7
             obtain ⟨y358, hy358⟩ : ∃ y_ : List (S44), y_ = (x3_1 ++ [(⟨(rd_T44 l0 x8_1).f0, (rd_T44 l0 x8_1).f1, (rd_T44 l0 x8_1).f2, (rd_T44 l0 x8_1).f3, true⟩ : S44)]) := ⟨_, rfl⟩
             replace H : (impl_AgeAll.l0 k1 y358 l0 (l0.length : Int) (wrap64 (x8_1 + 1))) = some r := by first | (rw [hy358]; with_reducible exact H) | (have H2_ := (Option.bind_some _ _).symm.trans H; rw [hy358]; with_reducible exact H2_) | (have H2_ := (Option.bind_some _ _).symm.trans H; with_reducible exact H2_) | with_reducible exact H | (rw [hy358]; exact H) | exact H
             have Ny358 := am hy358
             clear hy358
             have H' := am H
             clear H
             have p356 : 0 ≤ (x8_1 : Int) := oda
             have q356 : x8_1 < (l0.length : Int) := oda
             obtain ⟨ad356, e356, hx356_0, hx356_1, hx356_2, hx356_3, hx356_4⟩ := at_T44 HR0.out x8_1 p356 q356
             (try rw [← Nbq5.out] at hx356_4)
             cases e356
             replace hx356_0 := (HB.out.cell (World.block_lt_of_cell? w _ hx356_0)).trans hx356_0
             replace hx356_1 := (HB.out.cell (World.block_lt_of_cell? w _ hx356_1)).trans hx356_1
             replace hx356_2 := (HB.out.cell (World.block_lt_of_cell? w _ hx356_2)).trans hx356_2
             replace hx356_3 := (HB.out.cell (World.block_lt_of_cell? w _ hx356_3)).trans hx356_3
             replace hx356_4 := (HB.out.cell (World.block_lt_of_cell? w _ hx356_4)).trans hx356_4
             replace p356 := eq_true p356
             replace q356 := eq_true q356
             go_wp2_with (first | ((with_reducible refine gate_dst (N := 5) rfl ?_); refine box_event ?hg (N := 5) ?hd (cs := #[.int .i64 0, .int .i64 0, .int .i64 0, .int .i64 0, .bool false]) (t := 44) ?hr ?_; (case hd => rfl); (case hg => rfl); (case hr => exact gs); intro gb357 hg w8 hbox hb; have n_ := ak5 (Kd.R_below (Kd.R_elderB (kqR HO_3.out) gb357 (Nat.le_of_eq hg.symm)) hb) (below_step (bq HB.out) hb) hbox ((by rw [hg]; exact (below_size (bq HB.out)) : w.heap.size ≤ gb357)) ((by rw [hg]; exact (below_size (bq HB.out)) : w.heap.size ≤ gb357)); clear HO_3 HB; obtain ⟨HO_3, HB, BK357, GW357, GE357⟩ := n_; clear hb hbox hg; have hcz9_0 : w8.cell? ⟨gb357, 0, none⟩ = some (.int .i64 0) := (blk_cell BK357.out 0).trans rfl; have hcz9_1 : w8.cell? ⟨gb357, 1, none⟩ = some (.int .i64 0) := (blk_cell BK357.out 1).trans rfl; have hcz9_2 : w8.cell? ⟨gb357, 2, none⟩ = some (.int .i64 0) := (blk_cell BK357.out 2).trans rfl; have hcz9_3 : w8.cell? ⟨gb357, 3, none⟩ = some (.int .i64 0) := (blk_cell BK357.out 3).trans rfl; have hcz9_4 : w8.cell? ⟨gb357, 4, none⟩ = some (.bool false) := (blk_cell BK357.out 4).trans rfl; have hfz9_0 := blk_frozen BK357.out 0; have hfz9_1 := blk_frozen BK357.out 1; have hfz9_2 := blk_frozen BK357.out 2; have hfz9_3 := blk_frozen BK357.out 3; have hfz9_4 := blk_frozen BK357.out 4) | ((with_reducible refine gate_store (t := 44) (p := 5) rfl ?_); refine store_event (t := 44) (p := 5) (v := ?vo_w10) (w1 := (((((w8.setCell ⟨gb357, 0, none⟩ (.int .i64 ((rd_T44 l0 x8_1).f0))).setCell ⟨gb357, 1, none⟩ (.int .i64 ((rd_T44 l0 x8_1).f1))).setCell ⟨gb357, 2, none⟩ (.int .i64 ((rd_T44 l0 x8_1).f2))).setCell ⟨gb357, 3, none⟩ (.int .i64 ((rd_T44 l0 x8_1).f3))).setCell ⟨gb357, 4, none⟩ (.bool true))) ?hg ?ho ?hn ?hr ?_; (case ho => rfl); (case hg => rfl); (case hn => rfl); (case hr => exact gs); intro w10 hw; have n0_ : Aside0 (Kd.R k44 44 w10 w.heap.size (fun k_ => k_ ≠ gb357) u3 x3_1) := ⟨(by rw [hw]; exact (by (with_reducible repeat (first | apply Kd.R_alloc | apply Kd.R_drewN | apply Kd.R_drew)); exact Kd.R_mono (Kd.R_far (p := ⟨gb357, 4, none⟩) (Kd.R_far (p := ⟨gb357, 3, none⟩) (Kd.R_far (p := ⟨gb357, 2, none⟩) (Kd.R_far (p := ⟨gb357, 1, none⟩) (Kd.R_far (p := ⟨gb357, 0, none⟩) (Kd.R_mono HO_3.out (fun k_ hk => (⟨hk, hk.2⟩ : _ ∧ k_ ≠ gb357))) (fun _ hk => hk.2) (.int .i64 ((rd_T44 l0 x8_1).f0))) (fun _ hk => hk.2) (.int .i64 ((rd_T44 l0 x8_1).f1))) (fun _ hk => hk.2) (.int .i64 ((rd_T44 l0 x8_1).f2))) (fun _ hk => hk.2) (.int .i64 ((rd_T44 l0 x8_1).f3))) (fun _ hk => hk.2) (.bool true)) (fun _ hk => hk.1.2)))⟩; have n1_ : Aside0 (w10.heap[gb357]? = some (.cells #[.int .i64 ((rd_T44 l0 x8_1).f0), .int .i64 ((rd_T44 l0 x8_1).f1), .int .i64 ((rd_T44 l0 x8_1).f2), .int .i64 ((rd_T44 l0 x8_1).f3), .bool true] 44 (0, 0))) := ⟨(by rw [hw]; exact (by (with_reducible repeat (first | refine blk_drewN ?_ _ | refine blk_drew ?_ | refine blk_alloc ?_ _)); refine blk_put (cs := #[.int .i64 ((rd_T44 l0 x8_1).f0), .int .i64 ((rd_T44 l0 x8_1).f1), .int .i64 ((rd_T44 l0 x8_1).f2), .int .i64 ((rd_T44 l0 x8_1).f3), .bool false]) ?_ 4 _ rfl; (with_reducible repeat (first | refine blk_drewN ?_ _ | refine blk_drew ?_ | refine blk_alloc ?_ _)); refine blk_put (cs := #[.int .i64 ((rd_T44 l0 x8_1).f0), .int .i64 ((rd_T44 l0 x8_1).f1), .int .i64 ((rd_T44 l0 x8_1).f2), .int .i64 0, .bool false]) ?_ 3 _ rfl; (with_reducible repeat (first | refine blk_drewN ?_ _ | refine blk_drew ?_ | refine blk_alloc ?_ _)); refine blk_put (cs := #[.int .i64 ((rd_T44 l0 x8_1).f0), .int .i64 ((rd_T44 l0 x8_1).f1), .int .i64 0, .int .i64 0, .bool false]) ?_ 2 _ rfl; (with_reducible repeat (first | refine blk_drewN ?_ _ | refine blk_drew ?_ | refine blk_alloc ?_ _)); refine blk_put (cs := #[.int .i64 ((rd_T44 l0 x8_1).f0), .int .i64 0, .int .i64 0, .int .i64 0, .bool false]) ?_ 1 _ rfl; (with_reducible repeat (first | refine blk_drewN ?_ _ | refine blk_drew ?_ | refine blk_alloc ?_ _)); refine blk_put (cs := #[.int .i64 0, .int .i64 0, .int .i64 0, .int .i64 0, .bool false]) ?_ 0 _ rfl; (with_reducible repeat (first | refine blk_drewN ?_ _ | refine blk_drew ?_ | refine blk_alloc ?_ _)); exact BK357.out))⟩; have n2_ : Aside0 (Below w.heap.size w w10) := ⟨(by rw [hw]; exact (bq1 HB.out GE357.out))⟩; clear hw; clear HO_3; clear BK357; clear HB; have HO_3 := n0_; have BK357 := n1_; have HB := n2_; clear n0_ n1_ n2_; have hcz11_0 : w10.cell? ⟨gb357, 0, none⟩ = some (.int .i64 ((rd_T44 l0 x8_1).f0)) := (blk_cell BK357.out 0).trans rfl; have hcz11_1 : w10.cell? ⟨gb357, 1, none⟩ = some (.int .i64 ((rd_T44 l0 x8_1).f1)) := (blk_cell BK357.out 1).trans rfl; have hcz11_2 : w10.cell? ⟨gb357, 2, none⟩ = some (.int .i64 ((rd_T44 l0 x8_1).f2)) := (blk_cell BK357.out 2).trans rfl; have hcz11_3 : w10.cell? ⟨gb357, 3, none⟩ = some (.int .i64 ((rd_T44 l0 x8_1).f3)) := (blk_cell BK357.out 3).trans rfl; have hcz11_4 : w10.cell? ⟨gb357, 4, none⟩ = some (.bool true) := (blk_cell BK357.out 4).trans rfl; have hfz11_0 := blk_frozen BK357.out 0; have hfz11_1 := blk_frozen BK357.out 1; have hfz11_2 := blk_frozen BK357.out 2; have hfz11_3 := blk_frozen BK357.out 3; have hfz11_4 := blk_frozen BK357.out 4) | ((with_reducible refine gate_builtin (b := .append) (xs := #[.tmp 22, .tmp 24]) rfl ?_); at_builtin; refine Kd.R_append k44 (w0 := w) w.heap.size rfl (.tmp 22) (.tmp 24) 30 44 (.agg #[(.int .i64 0), (.int .i64 0), (.int .i64 0), (.int .i64 0), (.bool false)]) 40 rfl Try.underlying30 info44 rfl (by decide) (by omega) u3 x3_1 (⟨(rd_T44 l0 x8_1).f0, (rd_T44 l0 x8_1).f1, (rd_T44 l0 x8_1).f2, (rd_T44 l0 x8_1).f3, true⟩ : S44) [.int .i64 ((rd_T44 l0 x8_1).f0), .int .i64 ((rd_T44 l0 x8_1).f1), .int .i64 ((rd_T44 l0 x8_1).f2), .int .i64 ((rd_T44 l0 x8_1).f3), .bool true] (fun k_ => k_ ≠ gb357) (fun _ => False) rfl rfl ?aP (fun _ hk => hk.elim) ?aF ?aO ?aB ?aS ?aL ?_; (case aP => exact k44_mkM _ _ _ (⟨(rd_T44 l0 x8_1).f0, (rd_T44 l0 x8_1).f1, (rd_T44 l0 x8_1).f2, (rd_T44 l0 x8_1).f3, true⟩ : S44)); (case aB => exact (bq1 HB.out GE357.out)); (case aF => exact (fun k_ hk => Kd.freshB (g := gb357) (o := .cells #[.int .i64 ((rd_T44 l0 x8_1).f0), .int .i64 ((rd_T44 l0 x8_1).f1), .int .i64 ((rd_T44 l0 x8_1).f2), .int .i64 ((rd_T44 l0 x8_1).f3), .bool true] 44 (0, 0)) (zq BK357.out) k_ hk)); (case aO => exact (kqR HO_3.out)); (case aS => exact (below_size (bq1 HB.out GE357.out))); (case aL => have := LMc7.out; omega); intro v359 w12 ho hb hg hat; rw [← Ny358.out] at ho; have n_ := ak3 (blk_grown (g := gb357) (o := .cells #[.int .i64 ((rd_T44 l0 x8_1).f0), .int .i64 ((rd_T44 l0 x8_1).f1), .int .i64 ((rd_T44 l0 x8_1).f2), .int .i64 ((rd_T44 l0 x8_1).f3), .bool true] 44 (0, 0)) (zq BK357.out) hg (Kd.R_away HO_3.out (fun _ hk => hk))) hb ho; clear BK357 HB HO_3; obtain ⟨BK357, HB, HO360⟩ := n_; clear ho hb hg hat))
             go_roundg k1
             case measure => have := HK1.out; omega
             case rel => exact ⟨(y358), (wrap64 (x8_1 + 1)), sq, H', ⟨by have := HK1.out; omega⟩, ⟨by (with_reducible repeat (first | apply Kd.R_alloc | apply Kd.R_drewN | apply Kd.R_drew)); exact Kd.R_mono HO360.out (fun _ hk => trivial)⟩, ⟨bq1 HB.out GE357.out⟩⟩
           rw [if_neg c7] at H
           exact absurd H (by simp)
         replace c6 := Bool.eq_false_iff.mpr c6
         subst c6
         have H1 : (if ((rd_T44 l0 x8_1).f3) ≥ 4 then (impl_AgeAll.l0 k1 x3_1 l0 (l0.length : Int) (wrap64 (x8_1 + 1))) else (if x3_1.length < 3518437208883 then (impl_AgeAll.l0 k1 (x3_1 ++ [(⟨(rd_T44 l0 x8_1).f0, (rd_T44 l0 x8_1).f1, (rd_T44 l0 x8_1).f2, wrap64 (((rd_T44 l0 x8_1).f3) + 1), false⟩ : S44)]) l0 (l0.length : Int) (wrap64 (x8_1 + 1))) else (none))) = some r := by rw [if_neg (show ¬ (false = true) by decide)] at H; exact H
         clear H
         have H := H1
         clear H1
         by_cases c13 : ((rd_T44 l0 x8_1).f3) ≥ 4
         · rw [if_pos c13] at H
           have c13b0 : decide (4 ≤ ((rd_T44 l0 x8_1).f3)) = true := decide_eq_true c13
           clear c13
           have H' := am H
           clear H
           have p356 : 0 ≤ (x8_1 : Int) := oda
           have q356 : x8_1 < (l0.length : Int) := oda
           obtain ⟨ad356, e356, hx356_0, hx356_1, hx356_2, hx356_3, hx356_4⟩ := at_T44 HR0.out x8_1 p356 q356
           (try rw [← Nbq5.out] at hx356_4)
           cases e356
           replace hx356_0 := (HB.out.cell (World.block_lt_of_cell? w _ hx356_0)).trans hx356_0
           replace hx356_1 := (HB.out.cell (World.block_lt_of_cell? w _ hx356_1)).trans hx356_1
           replace hx356_2 := (HB.out.cell (World.block_lt_of_cell? w _ hx356_2)).trans hx356_2
           replace hx356_3 := (HB.out.cell (World.block_lt_of_cell? w _ hx356_3)).trans hx356_3
           replace hx356_4 := (HB.out.cell (World.block_lt_of_cell? w _ hx356_4)).trans hx356_4
           replace p356 := eq_true p356
           replace q356 := eq_true q356
           go_wp2_with (first | ((with_reducible refine gate_dst (N := 5) rfl ?_); refine box_event ?hg (N := 5) ?hd (cs := #[.int .i64 0, .int .i64 0, .int .i64 0, .int .i64 0, .bool false]) (t := 44) ?hr ?_; (case hd => rfl); (case hg => rfl); (case hr => exact gs); intro gb357 hg w14 hbox hb; have n_ := ak5 (Kd.R_below (Kd.R_elderB (kqR HO_3.out) gb357 (Nat.le_of_eq hg.symm)) hb) (below_step (bq HB.out) hb) hbox ((by rw [hg]; exact (below_size (bq HB.out)) : w.heap.size ≤ gb357)) ((by rw [hg]; exact (below_size (bq HB.out)) : w.heap.size ≤ gb357)); clear HO_3 HB; obtain ⟨HO_3, HB, BK357, GW357, GE357⟩ := n_; clear hb hbox hg; have hcz15_0 : w14.cell? ⟨gb357, 0, none⟩ = some (.int .i64 0) := (blk_cell BK357.out 0).trans rfl; have hcz15_1 : w14.cell? ⟨gb357, 1, none⟩ = some (.int .i64 0) := (blk_cell BK357.out 1).trans rfl; have hcz15_2 : w14.cell? ⟨gb357, 2, none⟩ = some (.int .i64 0) := (blk_cell BK357.out 2).trans rfl; have hcz15_3 : w14.cell? ⟨gb357, 3, none⟩ = some (.int .i64 0) := (blk_cell BK357.out 3).trans rfl; have hcz15_4 : w14.cell? ⟨gb357, 4, none⟩ = some (.bool false) := (blk_cell BK357.out 4).trans rfl; have hfz15_0 := blk_frozen BK357.out 0; have hfz15_1 := blk_frozen BK357.out 1; have hfz15_2 := blk_frozen BK357.out 2; have hfz15_3 := blk_frozen BK357.out 3; have hfz15_4 := blk_frozen BK357.out 4) | ((with_reducible refine gate_store (t := 44) (p := 5) rfl ?_); refine store_event (t := 44) (p := 5) (v := ?vo_w16) (w1 := (((((w14.setCell ⟨gb357, 0, none⟩ (.int .i64 ((rd_T44 l0 x8_1).f0))).setCell ⟨gb357, 1, none⟩ (.int .i64 ((rd_T44 l0 x8_1).f1))).setCell ⟨gb357, 2, none⟩ (.int .i64 ((rd_T44 l0 x8_1).f2))).setCell ⟨gb357, 3, none⟩ (.int .i64 ((rd_T44 l0 x8_1).f3))).setCell ⟨gb357, 4, none⟩ (.bool false))) ?hg ?ho ?hn ?hr ?_; (case ho => rfl); (case hg => rfl); (case hn => rfl); (case hr => exact gs); intro w16 hw; have n0_ : Aside0 (Kd.R k44 44 w16 w.heap.size (fun k_ => k_ ≠ gb357) u3 x3_1) := ⟨(by rw [hw]; exact (by (with_reducible repeat (first | apply Kd.R_alloc | apply Kd.R_drewN | apply Kd.R_drew)); exact Kd.R_mono (Kd.R_far (p := ⟨gb357, 4, none⟩) (Kd.R_far (p := ⟨gb357, 3, none⟩) (Kd.R_far (p := ⟨gb357, 2, none⟩) (Kd.R_far (p := ⟨gb357, 1, none⟩) (Kd.R_far (p := ⟨gb357, 0, none⟩) (Kd.R_mono HO_3.out (fun k_ hk => (⟨hk, hk.2⟩ : _ ∧ k_ ≠ gb357))) (fun _ hk => hk.2) (.int .i64 ((rd_T44 l0 x8_1).f0))) (fun _ hk => hk.2) (.int .i64 ((rd_T44 l0 x8_1).f1))) (fun _ hk => hk.2) (.int .i64 ((rd_T44 l0 x8_1).f2))) (fun _ hk => hk.2) (.int .i64 ((rd_T44 l0 x8_1).f3))) (fun _ hk => hk.2) (.bool false)) (fun _ hk => hk.1.2)))⟩; have n1_ : Aside0 (w16.heap[gb357]? = some (.cells #[.int .i64 ((rd_T44 l0 x8_1).f0), .int .i64 ((rd_T44 l0 x8_1).f1), .int .i64 ((rd_T44 l0 x8_1).f2), .int .i64 ((rd_T44 l0 x8_1).f3), .bool false] 44 (0, 0))) := ⟨(by rw [hw]; exact (by (with_reducible repeat (first | refine blk_drewN ?_ _ | refine blk_drew ?_ | refine blk_alloc ?_ _)); refine blk_put (cs := #[.int .i64 ((rd_T44 l0 x8_1).f0), .int .i64 ((rd_T44 l0 x8_1).f1), .int .i64 ((rd_T44 l0 x8_1).f2), .int .i64 ((rd_T44 l0 x8_1).f3), .bool false]) ?_ 4 _ rfl; (with_reducible repeat (first | refine blk_drewN ?_ _ | refine blk_drew ?_ | refine blk_alloc ?_ _)); refine blk_put (cs := #[.int .i64 ((rd_T44 l0 x8_1).f0), .int .i64 ((rd_T44 l0 x8_1).f1), .int .i64 ((rd_T44 l0 x8_1).f2), .int .i64 0, .bool false]) ?_ 3 _ rfl; (with_reducible repeat (first | refine blk_drewN ?_ _ | refine blk_drew ?_ | refine blk_alloc ?_ _)); refine blk_put (cs := #[.int .i64 ((rd_T44 l0 x8_1).f0), .int .i64 ((rd_T44 l0 x8_1).f1), .int .i64 0, .int .i64 0, .bool false]) ?_ 2 _ rfl; (with_reducible repeat (first | refine blk_drewN ?_ _ | refine blk_drew ?_ | refine blk_alloc ?_ _)); refine blk_put (cs := #[.int .i64 ((rd_T44 l0 x8_1).f0), .int .i64 0, .int .i64 0, .int .i64 0, .bool false]) ?_ 1 _ rfl; (with_reducible repeat (first | refine blk_drewN ?_ _ | refine blk_drew ?_ | refine blk_alloc ?_ _)); refine blk_put (cs := #[.int .i64 0, .int .i64 0, .int .i64 0, .int .i64 0, .bool false]) ?_ 0 _ rfl; (with_reducible repeat (first | refine blk_drewN ?_ _ | refine blk_drew ?_ | refine blk_alloc ?_ _)); exact BK357.out))⟩; have n2_ : Aside0 (Below w.heap.size w w16) := ⟨(by rw [hw]; exact (bq1 HB.out GE357.out))⟩; clear hw; clear HO_3; clear BK357; clear HB; have HO_3 := n0_; have BK357 := n1_; have HB := n2_; clear n0_ n1_ n2_; have hcz17_0 : w16.cell? ⟨gb357, 0, none⟩ = some (.int .i64 ((rd_T44 l0 x8_1).f0)) := (blk_cell BK357.out 0).trans rfl; have hcz17_1 : w16.cell? ⟨gb357, 1, none⟩ = some (.int .i64 ((rd_T44 l0 x8_1).f1)) := (blk_cell BK357.out 1).trans rfl; have hcz17_2 : w16.cell? ⟨gb357, 2, none⟩ = some (.int .i64 ((rd_T44 l0 x8_1).f2)) := (blk_cell BK357.out 2).trans rfl; have hcz17_3 : w16.cell? ⟨gb357, 3, none⟩ = some (.int .i64 ((rd_T44 l0 x8_1).f3)) := (blk_cell BK357.out 3).trans rfl; have hcz17_4 : w16.cell? ⟨gb357, 4, none⟩ = some (.bool false) := (blk_cell BK357.out 4).trans rfl; have hfz17_0 := blk_frozen BK357.out 0; have hfz17_1 := blk_frozen BK357.out 1; have hfz17_2 := blk_frozen BK357.out 2; have hfz17_3 := blk_frozen BK357.out 3; have hfz17_4 := blk_frozen BK357.out 4))
           go_roundg k1
           case measure => have := HK1.out; omega
           case rel => exact ⟨(x3_1), (wrap64 (x8_1 + 1)), sq, H', ⟨by have := HK1.out; omega⟩, ⟨by (with_reducible repeat (first | apply Kd.R_alloc | apply Kd.R_drewN | apply Kd.R_drew)); exact Kd.R_mono HO_3.out (fun _ hk => trivial)⟩, ⟨bq1 HB.out GE357.out⟩⟩
         rw [if_neg c13] at H
         have c13b0 : decide (4 ≤ ((rd_T44 l0 x8_1).f3)) = false := decide_eq_false c13
         clear c13
         by_cases c18 : x3_1.length < 3518437208883
         · rw [if_pos c18] at H
           have LMc18 := am c18
           clear c18
           obtain ⟨y361, hy361⟩ : ∃ y_ : List (S44), y_ = (x3_1 ++ [(⟨(rd_T44 l0 x8_1).f0, (rd_T44 l0 x8_1).f1, (rd_T44 l0 x8_1).f2, wrap64 (((rd_T44 l0 x8_1).f3) + 1), false⟩ : S44)]) := ⟨_, rfl⟩
           replace H : (impl_AgeAll.l0 k1 y361 l0 (l0.length : Int) (wrap64 (x8_1 + 1))) = some r := by first | (rw [hy361]; with_reducible exact H) | (have H2_ := (Option.bind_some _ _).symm.trans H; rw [hy361]; with_reducible exact H2_) | (have H2_ := (Option.bind_some _ _).symm.trans H; with_reducible exact H2_) | with_reducible exact H | (rw [hy361]; exact H) | exact H
           have Ny361 := am hy361
           clear hy361
           have H' := am H
           clear H
           have p356 : 0 ≤ (x8_1 : Int) := oda
           have q356 : x8_1 < (l0.length : Int) := oda
           obtain ⟨ad356, e356, hx356_0, hx356_1, hx356_2, hx356_3, hx356_4⟩ := at_T44 HR0.out x8_1 p356 q356
           (try rw [← Nbq5.out] at hx356_4)
           cases e356
           replace hx356_0 := (HB.out.cell (World.block_lt_of_cell? w _ hx356_0)).trans hx356_0
           replace hx356_1 := (HB.out.cell (World.block_lt_of_cell? w _ hx356_1)).trans hx356_1
           replace hx356_2 := (HB.out.cell (World.block_lt_of_cell? w _ hx356_2)).trans hx356_2
           replace hx356_3 := (HB.out.cell (World.block_lt_of_cell? w _ hx356_3)).trans hx356_3
           replace hx356_4 := (HB.out.cell (World.block_lt_of_cell? w _ hx356_4)).trans hx356_4
           replace p356 := eq_true p356
           replace q356 := eq_true q356
           go_wp2_with (first | ((with_reducible refine gate_dst (N := 5) rfl ?_); refine box_event ?hg (N := 5) ?hd (cs := #[.int .i64 0, .int .i64 0, .int .i64 0, .int .i64 0, .bool false]) (t := 44) ?hr ?_; (case hd => rfl); (case hg => rfl); (case hr => exact gs); intro gb357 hg w19 hbox hb; have n_ := ak5 (Kd.R_below (Kd.R_elderB (kqR HO_3.out) gb357 (Nat.le_of_eq hg.symm)) hb) (below_step (bq HB.out) hb) hbox ((by rw [hg]; exact (below_size (bq HB.out)) : w.heap.size ≤ gb357)) ((by rw [hg]; exact (below_size (bq HB.out)) : w.heap.size ≤ gb357)); clear HO_3 HB; obtain ⟨HO_3, HB, BK357, GW357, GE357⟩ := n_; clear hb hbox hg; have hcz20_0 : w19.cell? ⟨gb357, 0, none⟩ = some (.int .i64 0) := (blk_cell BK357.out 0).trans rfl; have hcz20_1 : w19.cell? ⟨gb357, 1, none⟩ = some (.int .i64 0) := (blk_cell BK357.out 1).trans rfl; have hcz20_2 : w19.cell? ⟨gb357, 2, none⟩ = some (.int .i64 0) := (blk_cell BK357.out 2).trans rfl; have hcz20_3 : w19.cell? ⟨gb357, 3, none⟩ = some (.int .i64 0) := (blk_cell BK357.out 3).trans rfl; have hcz20_4 : w19.cell? ⟨gb357, 4, none⟩ = some (.bool false) := (blk_cell BK357.out 4).trans rfl; have hfz20_0 := blk_frozen BK357.out 0; have hfz20_1 := blk_frozen BK357.out 1; have hfz20_2 := blk_frozen BK357.out 2; have hfz20_3 := blk_frozen BK357.out 3; have hfz20_4 := blk_frozen BK357.out 4) | ((with_reducible refine gate_store (t := 44) (p := 5) rfl ?_); refine store_event (t := 44) (p := 5) (v := ?vo_w21) (w1 := (((((w19.setCell ⟨gb357, 0, none⟩ (.int .i64 ((rd_T44 l0 x8_1).f0))).setCell ⟨gb357, 1, none⟩ (.int .i64 ((rd_T44 l0 x8_1).f1))).setCell ⟨gb357, 2, none⟩ (.int .i64 ((rd_T44 l0 x8_1).f2))).setCell ⟨gb357, 3, none⟩ (.int .i64 ((rd_T44 l0 x8_1).f3))).setCell ⟨gb357, 4, none⟩ (.bool false))) ?hg ?ho ?hn ?hr ?_; (case ho => rfl); (case hg => rfl); (case hn => rfl); (case hr => exact gs); intro w21 hw; have n0_ : Aside0 (Kd.R k44 44 w21 w.heap.size (fun k_ => k_ ≠ gb357) u3 x3_1) := ⟨(by rw [hw]; exact (by (with_reducible repeat (first | apply Kd.R_alloc | apply Kd.R_drewN | apply Kd.R_drew)); exact Kd.R_mono (Kd.R_far (p := ⟨gb357, 4, none⟩) (Kd.R_far (p := ⟨gb357, 3, none⟩) (Kd.R_far (p := ⟨gb357, 2, none⟩) (Kd.R_far (p := ⟨gb357, 1, none⟩) (Kd.R_far (p := ⟨gb357, 0, none⟩) (Kd.R_mono HO_3.out (fun k_ hk => (⟨hk, hk.2⟩ : _ ∧ k_ ≠ gb357))) (fun _ hk => hk.2) (.int .i64 ((rd_T44 l0 x8_1).f0))) (fun _ hk => hk.2) (.int .i64 ((rd_T44 l0 x8_1).f1))) (fun _ hk => hk.2) (.int .i64 ((rd_T44 l0 x8_1).f2))) (fun _ hk => hk.2) (.int .i64 ((rd_T44 l0 x8_1).f3))) (fun _ hk => hk.2) (.bool false)) (fun _ hk => hk.1.2)))⟩; have n1_ : Aside0 (w21.heap[gb357]? = some (.cells #[.int .i64 ((rd_T44 l0 x8_1).f0), .int .i64 ((rd_T44 l0 x8_1).f1), .int .i64 ((rd_T44 l0 x8_1).f2), .int .i64 ((rd_T44 l0 x8_1).f3), .bool false] 44 (0, 0))) := ⟨(by rw [hw]; exact (by (with_reducible repeat (first | refine blk_drewN ?_ _ | refine blk_drew ?_ | refine blk_alloc ?_ _)); refine blk_put (cs := #[.int .i64 ((rd_T44 l0 x8_1).f0), .int .i64 ((rd_T44 l0 x8_1).f1), .int .i64 ((rd_T44 l0 x8_1).f2), .int .i64 ((rd_T44 l0 x8_1).f3), .bool false]) ?_ 4 _ rfl; (with_reducible repeat (first | refine blk_drewN ?_ _ | refine blk_drew ?_ | refine blk_alloc ?_ _)); refine blk_put (cs := #[.int .i64 ((rd_T44 l0 x8_1).f0), .int .i64 ((rd_T44 l0 x8_1).f1), .int .i64 ((rd_T44 l0 x8_1).f2), .int .i64 0, .bool false]) ?_ 3 _ rfl; (with_reducible repeat (first | refine blk_drewN ?_ _ | refine blk_drew ?_ | refine blk_alloc ?_ _)); refine blk_put (cs := #[.int .i64 ((rd_T44 l0 x8_1).f0), .int .i64 ((rd_T44 l0 x8_1).f1), .int .i64 0, .int .i64 0, .bool false]) ?_ 2 _ rfl; (with_reducible repeat (first | refine blk_drewN ?_ _ | refine blk_drew ?_ | refine blk_alloc ?_ _)); refine blk_put (cs := #[.int .i64 ((rd_T44 l0 x8_1).f0), .int .i64 0, .int .i64 0, .int .i64 0, .bool false]) ?_ 1 _ rfl; (with_reducible repeat (first | refine blk_drewN ?_ _ | refine blk_drew ?_ | refine blk_alloc ?_ _)); refine blk_put (cs := #[.int .i64 0, .int .i64 0, .int .i64 0, .int .i64 0, .bool false]) ?_ 0 _ rfl; (with_reducible repeat (first | refine blk_drewN ?_ _ | refine blk_drew ?_ | refine blk_alloc ?_ _)); exact BK357.out))⟩; have n2_ : Aside0 (Below w.heap.size w w21) := ⟨(by rw [hw]; exact (bq1 HB.out GE357.out))⟩; clear hw; clear HO_3; clear BK357; clear HB; have HO_3 := n0_; have BK357 := n1_; have HB := n2_; clear n0_ n1_ n2_; have hcz22_0 : w21.cell? ⟨gb357, 0, none⟩ = some (.int .i64 ((rd_T44 l0 x8_1).f0)) := (blk_cell BK357.out 0).trans rfl; have hcz22_1 : w21.cell? ⟨gb357, 1, none⟩ = some (.int .i64 ((rd_T44 l0 x8_1).f1)) := (blk_cell BK357.out 1).trans rfl; have hcz22_2 : w21.cell? ⟨gb357, 2, none⟩ = some (.int .i64 ((rd_T44 l0 x8_1).f2)) := (blk_cell BK357.out 2).trans rfl; have hcz22_3 : w21.cell? ⟨gb357, 3, none⟩ = some (.int .i64 ((rd_T44 l0 x8_1).f3)) := (blk_cell BK357.out 3).trans rfl; have hcz22_4 : w21.cell? ⟨gb357, 4, none⟩ = some (.bool false) := (blk_cell BK357.out 4).trans rfl; have hfz22_0 := blk_frozen BK357.out 0; have hfz22_1 := blk_frozen BK357.out 1; have hfz22_2 := blk_frozen BK357.out 2; have hfz22_3 := blk_frozen BK357.out 3; have hfz22_4 := blk_frozen BK357.out 4) | ((with_reducible refine gate_builtin (b := .append) (xs := #[.tmp 22, .tmp 24]) rfl ?_); at_builtin; refine Kd.R_append k44 (w0 := w) w.heap.size rfl (.tmp 22) (.tmp 24) 30 44 (.agg #[(.int .i64 0), (.int .i64 0), (.int .i64 0), (.int .i64 0), (.bool false)]) 40 rfl Try.underlying30 info44 rfl (by decide) (by omega) u3 x3_1 (⟨(rd_T44 l0 x8_1).f0, (rd_T44 l0 x8_1).f1, (rd_T44 l0 x8_1).f2, wrap64 (((rd_T44 l0 x8_1).f3) + 1), false⟩ : S44) [.int .i64 ((rd_T44 l0 x8_1).f0), .int .i64 ((rd_T44 l0 x8_1).f1), .int .i64 ((rd_T44 l0 x8_1).f2), .int .i64 (wrap64 (((rd_T44 l0 x8_1).f3) + 1)), .bool false] (fun k_ => k_ ≠ gb357) (fun _ => False) rfl (by first | (go_simp; done) | (go_simp; rfl)) ?aP (fun _ hk => hk.elim) ?aF ?aO ?aB ?aS ?aL ?_; (case aP => exact k44_mkM _ _ _ (⟨(rd_T44 l0 x8_1).f0, (rd_T44 l0 x8_1).f1, (rd_T44 l0 x8_1).f2, wrap64 (((rd_T44 l0 x8_1).f3) + 1), false⟩ : S44)); (case aB => exact (bq1 HB.out GE357.out)); (case aF => exact (fun k_ hk => Kd.freshB (g := gb357) (o := .cells #[.int .i64 ((rd_T44 l0 x8_1).f0), .int .i64 ((rd_T44 l0 x8_1).f1), .int .i64 ((rd_T44 l0 x8_1).f2), .int .i64 (wrap64 (((rd_T44 l0 x8_1).f3) + 1)), .bool false] 44 (0, 0)) (by (with_reducible repeat (first | refine blk_drewN ?_ _ | refine blk_drew ?_ | refine blk_alloc ?_ _)); refine blk_put (cs := #[.int .i64 ((rd_T44 l0 x8_1).f0), .int .i64 ((rd_T44 l0 x8_1).f1), .int .i64 ((rd_T44 l0 x8_1).f2), .int .i64 ((rd_T44 l0 x8_1).f3), .bool false]) ?_ 3 _ rfl; (with_reducible repeat (first | refine blk_drewN ?_ _ | refine blk_drew ?_ | refine blk_alloc ?_ _)); exact BK357.out) k_ hk)); (case aO => exact (by (with_reducible repeat (first | apply Kd.R_alloc | apply Kd.R_drewN | apply Kd.R_drew)); exact Kd.R_mono (Kd.R_far (p := ⟨gb357, 3, none⟩) (Kd.R_mono HO_3.out (fun k_ hk => (⟨hk, hk⟩ : _ ∧ k_ ≠ gb357))) (fun _ hk => hk.2) (.int .i64 (wrap64 (((rd_T44 l0 x8_1).f3) + 1)))) (fun _ hk => hk.1))); (case aS => exact (below_size (bq1 HB.out GE357.out))); (case aL => have := LMc18.out; omega); intro v362 w23 ho hb hg hat; rw [← Ny361.out] at ho; have n_ := ak3 (blk_grown (g := gb357) (o := .cells #[.int .i64 ((rd_T44 l0 x8_1).f0), .int .i64 ((rd_T44 l0 x8_1).f1), .int .i64 ((rd_T44 l0 x8_1).f2), .int .i64 (wrap64 (((rd_T44 l0 x8_1).f3) + 1)), .bool false] 44 (0, 0)) (by (with_reducible repeat (first | refine blk_drewN ?_ _ | refine blk_drew ?_ | refine blk_alloc ?_ _)); refine blk_put (cs := #[.int .i64 ((rd_T44 l0 x8_1).f0), .int .i64 ((rd_T44 l0 x8_1).f1), .int .i64 ((rd_T44 l0 x8_1).f2), .int .i64 ((rd_T44 l0 x8_1).f3), .bool false]) ?_ 3 _ rfl; (with_reducible repeat (first | refine blk_drewN ?_ _ | refine blk_drew ?_ | refine blk_alloc ?_ _)); exact BK357.out) hg (Kd.R_away HO_3.out (fun _ hk => hk))) hb ho; clear BK357 HB HO_3; obtain ⟨BK357, HB, HO363⟩ := n_; clear ho hb hg hat))
           go_roundg k1
           case measure => have := HK1.out; omega
           case rel => exact ⟨(y361), (wrap64 (x8_1 + 1)), sq, H', ⟨by have := HK1.out; omega⟩, ⟨by (with_reducible repeat (first | apply Kd.R_alloc | apply Kd.R_drewN | apply Kd.R_drew)); exact Kd.R_mono HO363.out (fun _ hk => trivial)⟩, ⟨bq1 HB.out GE357.out⟩⟩
         rw [if_neg c18] at H
         exact absurd H (by simp)
       rw [if_neg c4] at H
       exact absurd H (by simp)
     rw [if_neg c3] at H
     exact absurd H (by simp)
   rw [if_neg c2] at H
   have c2b0 : decide (x8_1 < (l0.length : Int)) = false := decide_eq_false c2
   clear c2
   obtain rfl := Option.some.inj H
   go_wp2
   go_ret
   exact ⟨_, rq, kqR HO_3.out, bq HB.out⟩

end Go.Proofs.Ytebffdmkfkfoaaa.XFnForgets
