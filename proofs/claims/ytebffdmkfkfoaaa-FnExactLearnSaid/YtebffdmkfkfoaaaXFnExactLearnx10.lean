/- The functions that one law reaches, as Lean functions, with their walks: printed by a program of this seat (wip/tools) out of the translation. -/
import Derived.Test.YtebffdmkfkfoaaaXFnExactLearnx0
import Derived.Test.YtebffdmkfkfoaaaXFnExactLearnx1
import Derived.Test.YtebffdmkfkfoaaaXFnExactLearnx2
import Derived.Test.YtebffdmkfkfoaaaXFnExactLearnx6
import Derived.Test.YtebffdmkfkfoaaaXFnExactLearnx7
import Derived.Test.YtebffdmkfkfoaaaXFnExactLearnx8
import Derived.Test.YtebffdmkfkfoaaaXFnExactLearnx9
namespace Go.Proofs.Ytebffdmkfkfoaaa.XFnExactLearn
open Go.RowKit Go.Proofs.YtebffdmkfkfoaaaW.PrintWords Go.Proofs.YtebffdmkfkfoaaaW.PrintLast Go.Proofs.YtebffdmkfkfoaaaW.PrintMore
attribute [local go_sem] max2_int min2_int max_two min_two max_three min_three max_four min_four   -- for this text's walks alone
set_option linter.unusedVariables false
set_option linter.unusedSimpArgs false

/-! ### spec_Learn: function 32 -/
def spec_Learn.j0 : Nat → List (S44) → Bool → Int → Int → Int → Int → Bool → Option ((List (S44)))
  | 0, _, _, _, _, _, _, _ => none
  | k + 1, x0, x46, x259000, x259001, x259002, x259003, x259004 => if x46 = true then ((spec_l8Copy.f x0).bind fun t263 => (some t263)) else ((spec_l8Put.f k x0 x259000 x259001 x259002 x259003 x259004).bind fun t266 => (some t266))
def spec_Learn.f (k : Nat) (l0 : List (S44)) (a1 : Int) (a2 : Int) (a3 : Int) : Option ((List (S44))) := (spec_l8At.f k l0 a1 a2).bind fun t259 => ((spec_FdbOk.f k l0).bind fun t260 => (if t260 = true then ((spec_l8Ent.f a1 a2 a3 0 false).bind fun t261 => (if t261 = true then (if t259 ≥ 0 then (if 0 ≤ t259 then (if t259 < (l0.length : Int) then (if (rd_T44 l0 t259).f4 = true then (spec_Learn.j0 k l0 true a1 a2 a3 0 false) else (if t259 < 0 then (spec_Learn.j0 k l0 (decide ((l0.length : Int) ≥ 12)) a1 a2 a3 0 false) else (spec_Learn.j0 k l0 false a1 a2 a3 0 false))) else (none)) else (none)) else (if t259 < 0 then (spec_Learn.j0 k l0 (decide ((l0.length : Int) ≥ 12)) a1 a2 a3 0 false) else (spec_Learn.j0 k l0 false a1 a2 a3 0 false))) else (spec_Learn.j0 k l0 true a1 a2 a3 0 false))) else (spec_Learn.j0 k l0 true a1 a2 a3 0 false)))
theorem spec_Learn.mono_l : ∀ k, (∀ y0 y1 y2 y3 y4 y5 y6, LeO (spec_Learn.j0 k y0 y1 y2 y3 y4 y5 y6) (spec_Learn.j0 (k + 1) y0 y1 y2 y3 y4 y5 y6))
  | 0 => fun _ _ _ _ _ _ _ r h => by simp [spec_Learn.j0] at h
  | k + 1 => by
    have ih0 := spec_Learn.mono_l k
    · intro y0 y1 y2 y3 y4 y5 y6
      unfold spec_Learn.j0
      repeat' first
      | (with_reducible exact ih0 _ _ _ _ _ _ _)
      | (with_reducible exact spec_FdbOk.mono _ _)
      | (with_reducible exact spec_l8At.mono _ _ _ _)
      | (with_reducible exact spec_l8Put.mono _ _ _ _ _ _ _)
      | (with_reducible exact LeO.refl _)
      | (with_reducible exact LeO.none _)
      | (with_reducible refine LeO.ite ?_ ?_)
      | (with_reducible refine LeO.bind ?_ (fun _ => ?_))
      | exact ih0 _ _ _ _ _ _ _
      | exact spec_FdbOk.mono _ _
      | exact spec_l8At.mono _ _ _ _
      | exact spec_l8Put.mono _ _ _ _ _ _ _
      | exact LeO.none _
      | refine LeO.ite ?_ ?_
      | refine LeO.bind ?_ (fun _ => ?_)
theorem spec_Learn.mono : ∀ a0 a1 a2 a3 k, LeO (spec_Learn.f k a0 a1 a2 a3) (spec_Learn.f (k + 1) a0 a1 a2 a3) := by
  intro a0 a1 a2 a3 k
  have ih0 := spec_Learn.mono_l k
  unfold spec_Learn.f
  repeat' first
      | (with_reducible exact ih0 _ _ _ _ _ _ _)
      | (with_reducible exact spec_FdbOk.mono _ _)
      | (with_reducible exact spec_l8At.mono _ _ _ _)
      | (with_reducible exact spec_l8Put.mono _ _ _ _ _ _ _)
      | (with_reducible exact LeO.refl _)
      | (with_reducible exact LeO.none _)
      | (with_reducible refine LeO.ite ?_ ?_)
      | (with_reducible refine LeO.bind ?_ (fun _ => ?_))
      | exact ih0 _ _ _ _ _ _ _
      | exact spec_FdbOk.mono _ _
      | exact spec_l8At.mono _ _ _ _
      | exact spec_l8Put.mono _ _ _ _ _ _ _
      | exact LeO.none _
      | refine LeO.ite ?_ ?_
      | refine LeO.bind ?_ (fun _ => ?_)
set_option maxHeartbeats 8000000 in
set_option maxRecDepth 100000 in
theorem spec_Learn.calls (k : Nat) (A0 : Option Addr) (c0 : Nat) (l0 : List (S44)) (a1 : Int) (a2 : Int) (a3 : Int) (r : List (S44)) (w : World) (hr0 : Kd.C k44 w A0 l0.length l0) (hc0 : l0.length ≤ c0) (h : spec_Learn.f k l0 a1 a2 a3 = some r) :
    Calls Try.prog 32 #[.slice A0 l0.length c0, .int .i64 a1, .int .i64 a2, .int .i64 a3] w fun e w' => ∃ v0_ : Value, e = .returned (v0_) ∧ Kd.R k44 44 w' w.heap.size (fun _ => True) v0_ r ∧ Below w.heap.size w w' := by
  have hu44 := Try.underlying44
  have HR0 := am hr0
  have HC0 := am hc0
  clear hr0 hc0
  have HB := am (Below.refl w.heap.size w)
  have H : ((spec_l8At.f k l0 a1 a2).bind fun t259 => ((spec_FdbOk.f k l0).bind fun t260 => (if t260 = true then ((spec_l8Ent.f a1 a2 a3 0 false).bind fun t261 => (if t261 = true then (if t259 ≥ 0 then (if 0 ≤ t259 then (if t259 < (l0.length : Int) then (if (rd_T44 l0 t259).f4 = true then (spec_Learn.j0 k l0 true a1 a2 a3 0 false) else (if t259 < 0 then (spec_Learn.j0 k l0 (decide ((l0.length : Int) ≥ 12)) a1 a2 a3 0 false) else (spec_Learn.j0 k l0 false a1 a2 a3 0 false))) else (none)) else (none)) else (if t259 < 0 then (spec_Learn.j0 k l0 (decide ((l0.length : Int) ≥ 12)) a1 a2 a3 0 false) else (spec_Learn.j0 k l0 false a1 a2 a3 0 false))) else (spec_Learn.j0 k l0 true a1 a2 a3 0 false))) else (spec_Learn.j0 k l0 true a1 a2 a3 0 false)))) = some r := h
  clear h
  replace H := Option.bind_eq_some_iff.mp H
  obtain ⟨t259, A50, H⟩ := H
  replace H : ((spec_FdbOk.f k l0).bind fun t260 => (if t260 = true then ((spec_l8Ent.f a1 a2 a3 0 false).bind fun t261 => (if t261 = true then (if t259 ≥ 0 then (if 0 ≤ t259 then (if t259 < (l0.length : Int) then (if (rd_T44 l0 t259).f4 = true then (spec_Learn.j0 k l0 true a1 a2 a3 0 false) else (if t259 < 0 then (spec_Learn.j0 k l0 (decide ((l0.length : Int) ≥ 12)) a1 a2 a3 0 false) else (spec_Learn.j0 k l0 false a1 a2 a3 0 false))) else (none)) else (none)) else (if t259 < 0 then (spec_Learn.j0 k l0 (decide ((l0.length : Int) ≥ 12)) a1 a2 a3 0 false) else (spec_Learn.j0 k l0 false a1 a2 a3 0 false))) else (spec_Learn.j0 k l0 true a1 a2 a3 0 false))) else (spec_Learn.j0 k l0 true a1 a2 a3 0 false))) = some r := H
  have A5 := am A50
  clear A50
  have HC6 := am H
  clear H
  go_enter Try.func32, Try.ntmps32
  go_upto_region 3 with (first | ((with_reducible refine gate_dst (N := 9) rfl ?_); (try (refine gate_guard (by rfl) ?_; dsimp only)); refine box_event ?hg (N := 9) ?hd (cs := #[.int .i64 0, .int .i64 0, .int .i64 0, .int .i64 0, .bool false]) (t := 44) ?hr ?_; (case hd => rfl); (case hg => rfl); (case hr => first | (go_simp; done) | (go_simp; rfl)); intro gb258 hg w7 hbox hb; have n0_ := am (below_step (bq HB.out) hb); have n1_ := am (hbox); have n2_ := am ((by rw [hg]; exact (below_size (bq HB.out)) : w.heap.size ≤ gb258)); have n3_ := am ((by rw [hg]; exact (below_size (bq HB.out)) : w.heap.size ≤ gb258)); clear HB; have HB := n0_; have BK258 := n1_; have GW258 := n2_; have GE258 := n3_; clear n0_ n1_ n2_ n3_; clear hb hbox hg; have hcz8_0 : w7.cell? ⟨gb258, 0, none⟩ = some (.int .i64 0) := (blk_cell BK258.out 0).trans rfl; have hcz8_1 : w7.cell? ⟨gb258, 1, none⟩ = some (.int .i64 0) := (blk_cell BK258.out 1).trans rfl; have hcz8_2 : w7.cell? ⟨gb258, 2, none⟩ = some (.int .i64 0) := (blk_cell BK258.out 2).trans rfl; have hcz8_3 : w7.cell? ⟨gb258, 3, none⟩ = some (.int .i64 0) := (blk_cell BK258.out 3).trans rfl; have hcz8_4 : w7.cell? ⟨gb258, 4, none⟩ = some (.bool false) := (blk_cell BK258.out 4).trans rfl; have hfz8_0 := blk_frozen BK258.out 0; have hfz8_1 := blk_frozen BK258.out 1; have hfz8_2 := blk_frozen BK258.out 2; have hfz8_3 := blk_frozen BK258.out 3; have hfz8_4 := blk_frozen BK258.out 4) | ((with_reducible refine gate_store (t := 44) (p := 9) rfl ?_); refine store_event (t := 44) (p := 9) (v := ?vo_w9) (w1 := (((((w7.setCell ⟨gb258, 0, none⟩ (.int .i64 a1)).setCell ⟨gb258, 1, none⟩ (.int .i64 a2)).setCell ⟨gb258, 2, none⟩ (.int .i64 a3)).setCell ⟨gb258, 3, none⟩ (.int .i64 0)).setCell ⟨gb258, 4, none⟩ (.bool false))) ?hg ?ho ?hn ?hr ?_; (case ho => rfl); (case hg => rfl); (case hn => rfl); (case hr => first | (go_simp; done) | (go_simp; rfl)); intro w9 hw; have n0_ : Aside0 (w9.heap[gb258]? = some (.cells #[.int .i64 a1, .int .i64 a2, .int .i64 a3, .int .i64 0, .bool false] 44 (0, 0))) := ⟨(by rw [hw]; exact (by (with_reducible repeat (first | refine blk_drewN ?_ _ | refine blk_drew ?_ | refine blk_alloc ?_ _)); refine blk_put (cs := #[.int .i64 a1, .int .i64 a2, .int .i64 a3, .int .i64 0, .bool false]) ?_ 4 _ rfl; (with_reducible repeat (first | refine blk_drewN ?_ _ | refine blk_drew ?_ | refine blk_alloc ?_ _)); refine blk_put (cs := #[.int .i64 a1, .int .i64 a2, .int .i64 a3, .int .i64 0, .bool false]) ?_ 3 _ rfl; (with_reducible repeat (first | refine blk_drewN ?_ _ | refine blk_drew ?_ | refine blk_alloc ?_ _)); refine blk_put (cs := #[.int .i64 a1, .int .i64 a2, .int .i64 0, .int .i64 0, .bool false]) ?_ 2 _ rfl; (with_reducible repeat (first | refine blk_drewN ?_ _ | refine blk_drew ?_ | refine blk_alloc ?_ _)); refine blk_put (cs := #[.int .i64 a1, .int .i64 0, .int .i64 0, .int .i64 0, .bool false]) ?_ 1 _ rfl; (with_reducible repeat (first | refine blk_drewN ?_ _ | refine blk_drew ?_ | refine blk_alloc ?_ _)); refine blk_put (cs := #[.int .i64 0, .int .i64 0, .int .i64 0, .int .i64 0, .bool false]) ?_ 0 _ rfl; (with_reducible repeat (first | refine blk_drewN ?_ _ | refine blk_drew ?_ | refine blk_alloc ?_ _)); exact BK258.out))⟩; have n1_ : Aside0 (Below w.heap.size w w9) := ⟨(by rw [hw]; exact (by repeat (first | (with_reducible first | exact HB.out | apply below_alloc | apply pw_below_drewN | apply below_drew1 | refine below_set ?_ GE258.out) | exact HB.out)))⟩; clear hw; clear BK258; clear HB; have BK258 := n0_; have HB := n1_; clear n0_ n1_) | ((with_reducible refine gate_callee (f := 76) rfl ?_); refine goesL_ (some 18) rfl rfl Try.func76 (by kernel_rfl) rfl #[.slice A0 l0.length c0, .int .i64 a1, .int .i64 a2] rfl (by (try simp only [List.map_toArray, List.map_cons, List.map_nil]); first | done | rfl | (simp only [List.length_drop, List.length_take]; rfl)) ?_; (with_reducible refine (spec_l8At.calls k _ _ l0 a1 a2 t259 _ ?side1 ?side2 A5.out).mono ?_); (case side1 => exact cq (Kd.C_below HR0.out HB.out)); (case side2 => exact HC0.out); rintro e w' ⟨rfl, ⟨nd, rfl⟩⟩; refine ⟨_, rfl, ?_⟩))
  (try simp only [Act.put, List.setIfInBounds_toArray, List.set_cons_zero, List.set_cons_succ])
  go_cut [46] (fun v46 wc => ∃ (kq : Nat) (x46_5 : Bool), v46 = .bool x46_5 ∧ Aside0 (spec_Learn.j0 kq l0 x46_5 a1 a2 a3 0 false = some r) ∧ Aside0 (kq ≤ k) ∧ Aside0 (wc.heap[gb258]? = some (.cells #[.int .i64 a1, .int .i64 a2, .int .i64 a3, .int .i64 0, .bool false] 44 (0, 0))) ∧ Aside0 (Below w.heap.size w wc))
  case first =>
    have H := HC6.out
    clear HC6
    replace H := Option.bind_eq_some_iff.mp H
    obtain ⟨t260, A100, H⟩ := H
    replace H : (if t260 = true then ((spec_l8Ent.f a1 a2 a3 0 false).bind fun t261 => (if t261 = true then (if t259 ≥ 0 then (if 0 ≤ t259 then (if t259 < (l0.length : Int) then (if (rd_T44 l0 t259).f4 = true then (spec_Learn.j0 k l0 true a1 a2 a3 0 false) else (if t259 < 0 then (spec_Learn.j0 k l0 (decide ((l0.length : Int) ≥ 12)) a1 a2 a3 0 false) else (spec_Learn.j0 k l0 false a1 a2 a3 0 false))) else (none)) else (none)) else (if t259 < 0 then (spec_Learn.j0 k l0 (decide ((l0.length : Int) ≥ 12)) a1 a2 a3 0 false) else (spec_Learn.j0 k l0 false a1 a2 a3 0 false))) else (spec_Learn.j0 k l0 true a1 a2 a3 0 false))) else (spec_Learn.j0 k l0 true a1 a2 a3 0 false)) = some r := H
    have A10 := am A100
    clear A100
    by_cases c11 : t260 = true
    · subst c11
      have H1 : ((spec_l8Ent.f a1 a2 a3 0 false).bind fun t261 => (if t261 = true then (if t259 ≥ 0 then (if 0 ≤ t259 then (if t259 < (l0.length : Int) then (if (rd_T44 l0 t259).f4 = true then (spec_Learn.j0 k l0 true a1 a2 a3 0 false) else (if t259 < 0 then (spec_Learn.j0 k l0 (decide ((l0.length : Int) ≥ 12)) a1 a2 a3 0 false) else (spec_Learn.j0 k l0 false a1 a2 a3 0 false))) else (none)) else (none)) else (if t259 < 0 then (spec_Learn.j0 k l0 (decide ((l0.length : Int) ≥ 12)) a1 a2 a3 0 false) else (spec_Learn.j0 k l0 false a1 a2 a3 0 false))) else (spec_Learn.j0 k l0 true a1 a2 a3 0 false))) = some r := by rw [if_pos rfl] at H; exact H
      clear H
      have H := H1
      clear H1
      replace H := Option.bind_eq_some_iff.mp H
      obtain ⟨t261, A120, H⟩ := H
      replace H : (if t261 = true then (if t259 ≥ 0 then (if 0 ≤ t259 then (if t259 < (l0.length : Int) then (if (rd_T44 l0 t259).f4 = true then (spec_Learn.j0 k l0 true a1 a2 a3 0 false) else (if t259 < 0 then (spec_Learn.j0 k l0 (decide ((l0.length : Int) ≥ 12)) a1 a2 a3 0 false) else (spec_Learn.j0 k l0 false a1 a2 a3 0 false))) else (none)) else (none)) else (if t259 < 0 then (spec_Learn.j0 k l0 (decide ((l0.length : Int) ≥ 12)) a1 a2 a3 0 false) else (spec_Learn.j0 k l0 false a1 a2 a3 0 false))) else (spec_Learn.j0 k l0 true a1 a2 a3 0 false)) = some r := H
      have A12 := am A120
      clear A120
      by_cases c13 : t261 = true
      · subst c13
        have H1 : (if t259 ≥ 0 then (if 0 ≤ t259 then (if t259 < (l0.length : Int) then (if (rd_T44 l0 t259).f4 = true then (spec_Learn.j0 k l0 true a1 a2 a3 0 false) else (if t259 < 0 then (spec_Learn.j0 k l0 (decide ((l0.length : Int) ≥ 12)) a1 a2 a3 0 false) else (spec_Learn.j0 k l0 false a1 a2 a3 0 false))) else (none)) else (none)) else (if t259 < 0 then (spec_Learn.j0 k l0 (decide ((l0.length : Int) ≥ 12)) a1 a2 a3 0 false) else (spec_Learn.j0 k l0 false a1 a2 a3 0 false))) = some r := by rw [if_pos rfl] at H; exact H
        clear H
        have H := H1
        clear H1
        by_cases c14 : t259 ≥ 0
        · rw [if_pos c14] at H
          have c14b0 : decide (0 ≤ t259) = true := decide_eq_true c14
          clear c14
          (first | rw [c14b0] | (simp only [i64_w, i32_w]; rw [c14b0]) | skip)
          by_cases c15 : 0 ≤ t259
          · rw [if_pos c15] at H
            have c15b0 : decide (0 ≤ t259) = true := decide_eq_true c15
            clear c15
            by_cases c16 : t259 < (l0.length : Int)
            · rw [if_pos c16] at H
              have c16b0 : decide (t259 < (l0.length : Int)) = true := decide_eq_true c16
              clear c16
              obtain ⟨bq17, hbq17⟩ : ∃ b_ : Bool, b_ = ((rd_T44 l0 t259).f4) := ⟨_, rfl⟩
              replace H : (if bq17 = true then (spec_Learn.j0 k l0 true a1 a2 a3 0 false) else (if t259 < 0 then (spec_Learn.j0 k l0 (decide ((l0.length : Int) ≥ 12)) a1 a2 a3 0 false) else (spec_Learn.j0 k l0 false a1 a2 a3 0 false))) = some r := by rw [← hbq17] at H; exact H
              have Nbq17 := am hbq17
              clear hbq17
              by_cases c18 : bq17 = true
              · subst c18
                have H1 : (spec_Learn.j0 k l0 true a1 a2 a3 0 false) = some r := by rw [if_pos rfl] at H; exact H
                clear H
                have H := H1
                clear H1
                have H' := am H
                clear H
                go_wp2_with (first | ((with_reducible refine gate_callee (f := 61) rfl ?_); refine goesL_ (some 20) rfl rfl Try.func61 (by kernel_rfl) rfl #[.slice A0 l0.length c0] rfl (by (try simp only [List.map_toArray, List.map_cons, List.map_nil]); first | done | rfl | (simp only [List.length_drop, List.length_take]; rfl)) ?_; (with_reducible refine (spec_FdbOk.calls k _ _ l0 true _ ?side1 ?side2 A10.out).mono ?_); (case side1 => exact cq (Kd.C_below HR0.out HB.out)); (case side2 => exact HC0.out); rintro e w19 ⟨rfl, hb⟩; refine ⟨_, rfl, ?_⟩; have n0_ := am (blk_below (g := gb258) (o := .cells #[.int .i64 a1, .int .i64 a2, .int .i64 a3, .int .i64 0, .bool false] 44 (0, 0)) (zq BK258.out) hb); have n1_ := am (below_step (by repeat (first | (with_reducible first | exact HB.out | apply below_alloc | apply pw_below_drewN | apply below_drew1 | refine below_set ?_ GE258.out) | exact HB.out)) hb); clear BK258; clear HB; have BK258 := n0_; have HB := n1_; clear n0_ n1_; (try clear hb); (try clear hb2); (try clear hk); (try clear hi); have hcz20_0 : w19.cell? ⟨gb258, 0, none⟩ = some (.int .i64 a1) := (blk_cell BK258.out 0).trans rfl; have hcz20_1 : w19.cell? ⟨gb258, 1, none⟩ = some (.int .i64 a2) := (blk_cell BK258.out 1).trans rfl; have hcz20_2 : w19.cell? ⟨gb258, 2, none⟩ = some (.int .i64 a3) := (blk_cell BK258.out 2).trans rfl; have hcz20_3 : w19.cell? ⟨gb258, 3, none⟩ = some (.int .i64 0) := (blk_cell BK258.out 3).trans rfl; have hcz20_4 : w19.cell? ⟨gb258, 4, none⟩ = some (.bool false) := (blk_cell BK258.out 4).trans rfl; have hfz20_0 := blk_frozen BK258.out 0; have hfz20_1 := blk_frozen BK258.out 1; have hfz20_2 := blk_frozen BK258.out 2; have hfz20_3 := blk_frozen BK258.out 3; have hfz20_4 := blk_frozen BK258.out 4) | (go_at_call 75; (with_reducible refine (spec_l8Ent.calls a1 a2 a3 0 false true _ A12.out).mono ?_); rintro e w21 ⟨rfl, hb⟩; have n0_ := am (blk_below (g := gb258) (o := .cells #[.int .i64 a1, .int .i64 a2, .int .i64 a3, .int .i64 0, .bool false] 44 (0, 0)) (zq BK258.out) hb); have n1_ := am (below_step (by repeat (first | (with_reducible first | exact HB.out | apply below_alloc | apply pw_below_drewN | apply below_drew1 | refine below_set ?_ GE258.out) | exact HB.out)) hb); clear BK258; clear HB; have BK258 := n0_; have HB := n1_; clear n0_ n1_; (try clear hb); (try clear hb2); (try clear hk); (try clear hi); have p262 : 0 ≤ (t259 : Int) := oda; have q262 : t259 < (l0.length : Int) := oda; obtain ⟨ad262, e262, hx262_0, hx262_1, hx262_2, hx262_3, hx262_4⟩ := at_T44 HR0.out t259 p262 q262; (try rw [← Nbq17.out] at hx262_4); cases e262; replace hx262_0 := (HB.out.cell (World.block_lt_of_cell? w _ hx262_0)).trans hx262_0; replace hx262_1 := (HB.out.cell (World.block_lt_of_cell? w _ hx262_1)).trans hx262_1; replace hx262_2 := (HB.out.cell (World.block_lt_of_cell? w _ hx262_2)).trans hx262_2; replace hx262_3 := (HB.out.cell (World.block_lt_of_cell? w _ hx262_3)).trans hx262_3; replace hx262_4 := (HB.out.cell (World.block_lt_of_cell? w _ hx262_4)).trans hx262_4; replace p262 := eq_true p262; replace q262 := eq_true q262))
                go_meet
                case rel => exact ⟨_, (true), (by first | rfl | (simp; done) | (simp [*]; done)), H', ⟨by first | omega | exact Nat.le_refl _⟩, ⟨zq BK258.out⟩, ⟨by repeat (first | (with_reducible first | exact HB.out | apply below_alloc | apply pw_below_drewN | apply below_drew1 | refine below_set ?_ GE258.out) | exact HB.out)⟩⟩
              · replace c18 := Bool.eq_false_iff.mpr c18
                subst c18
                have H1 : (if t259 < 0 then (spec_Learn.j0 k l0 (decide ((l0.length : Int) ≥ 12)) a1 a2 a3 0 false) else (spec_Learn.j0 k l0 false a1 a2 a3 0 false)) = some r := by rw [if_neg (show ¬ (false = true) by decide)] at H; exact H
                clear H
                have H := H1
                clear H1
                by_cases c22 : t259 < 0
                · rw [if_pos c22] at H
                  have c22b0 : decide (t259 < 0) = true := decide_eq_true c22
                  clear c22
                  have H' := am H
                  clear H
                  go_wp2_with (first | ((with_reducible refine gate_callee (f := 61) rfl ?_); refine goesL_ (some 20) rfl rfl Try.func61 (by kernel_rfl) rfl #[.slice A0 l0.length c0] rfl (by (try simp only [List.map_toArray, List.map_cons, List.map_nil]); first | done | rfl | (simp only [List.length_drop, List.length_take]; rfl)) ?_; (with_reducible refine (spec_FdbOk.calls k _ _ l0 true _ ?side1 ?side2 A10.out).mono ?_); (case side1 => exact cq (Kd.C_below HR0.out HB.out)); (case side2 => exact HC0.out); rintro e w23 ⟨rfl, hb⟩; refine ⟨_, rfl, ?_⟩; have n0_ := am (blk_below (g := gb258) (o := .cells #[.int .i64 a1, .int .i64 a2, .int .i64 a3, .int .i64 0, .bool false] 44 (0, 0)) (zq BK258.out) hb); have n1_ := am (below_step (by repeat (first | (with_reducible first | exact HB.out | apply below_alloc | apply pw_below_drewN | apply below_drew1 | refine below_set ?_ GE258.out) | exact HB.out)) hb); clear BK258; clear HB; have BK258 := n0_; have HB := n1_; clear n0_ n1_; (try clear hb); (try clear hb2); (try clear hk); (try clear hi); have hcz24_0 : w23.cell? ⟨gb258, 0, none⟩ = some (.int .i64 a1) := (blk_cell BK258.out 0).trans rfl; have hcz24_1 : w23.cell? ⟨gb258, 1, none⟩ = some (.int .i64 a2) := (blk_cell BK258.out 1).trans rfl; have hcz24_2 : w23.cell? ⟨gb258, 2, none⟩ = some (.int .i64 a3) := (blk_cell BK258.out 2).trans rfl; have hcz24_3 : w23.cell? ⟨gb258, 3, none⟩ = some (.int .i64 0) := (blk_cell BK258.out 3).trans rfl; have hcz24_4 : w23.cell? ⟨gb258, 4, none⟩ = some (.bool false) := (blk_cell BK258.out 4).trans rfl; have hfz24_0 := blk_frozen BK258.out 0; have hfz24_1 := blk_frozen BK258.out 1; have hfz24_2 := blk_frozen BK258.out 2; have hfz24_3 := blk_frozen BK258.out 3; have hfz24_4 := blk_frozen BK258.out 4) | (go_at_call 75; (with_reducible refine (spec_l8Ent.calls a1 a2 a3 0 false true _ A12.out).mono ?_); rintro e w25 ⟨rfl, hb⟩; have n0_ := am (blk_below (g := gb258) (o := .cells #[.int .i64 a1, .int .i64 a2, .int .i64 a3, .int .i64 0, .bool false] 44 (0, 0)) (zq BK258.out) hb); have n1_ := am (below_step (by repeat (first | (with_reducible first | exact HB.out | apply below_alloc | apply pw_below_drewN | apply below_drew1 | refine below_set ?_ GE258.out) | exact HB.out)) hb); clear BK258; clear HB; have BK258 := n0_; have HB := n1_; clear n0_ n1_; (try clear hb); (try clear hb2); (try clear hk); (try clear hi); have p262 : 0 ≤ (t259 : Int) := oda; have q262 : t259 < (l0.length : Int) := oda; obtain ⟨ad262, e262, hx262_0, hx262_1, hx262_2, hx262_3, hx262_4⟩ := at_T44 HR0.out t259 p262 q262; (try rw [← Nbq17.out] at hx262_4); cases e262; replace hx262_0 := (HB.out.cell (World.block_lt_of_cell? w _ hx262_0)).trans hx262_0; replace hx262_1 := (HB.out.cell (World.block_lt_of_cell? w _ hx262_1)).trans hx262_1; replace hx262_2 := (HB.out.cell (World.block_lt_of_cell? w _ hx262_2)).trans hx262_2; replace hx262_3 := (HB.out.cell (World.block_lt_of_cell? w _ hx262_3)).trans hx262_3; replace hx262_4 := (HB.out.cell (World.block_lt_of_cell? w _ hx262_4)).trans hx262_4; replace p262 := eq_true p262; replace q262 := eq_true q262))
                  go_meet
                  case rel => exact ⟨_, (decide ((l0.length : Int) ≥ 12)), (by first | rfl | (simp; done) | (simp [*]; done)), H', ⟨by first | omega | exact Nat.le_refl _⟩, ⟨zq BK258.out⟩, ⟨by repeat (first | (with_reducible first | exact HB.out | apply below_alloc | apply pw_below_drewN | apply below_drew1 | refine below_set ?_ GE258.out) | exact HB.out)⟩⟩
                · rw [if_neg c22] at H
                  have c22b0 : decide (t259 < 0) = false := decide_eq_false c22
                  clear c22
                  have H' := am H
                  clear H
                  go_wp2_with (first | ((with_reducible refine gate_callee (f := 61) rfl ?_); refine goesL_ (some 20) rfl rfl Try.func61 (by kernel_rfl) rfl #[.slice A0 l0.length c0] rfl (by (try simp only [List.map_toArray, List.map_cons, List.map_nil]); first | done | rfl | (simp only [List.length_drop, List.length_take]; rfl)) ?_; (with_reducible refine (spec_FdbOk.calls k _ _ l0 true _ ?side1 ?side2 A10.out).mono ?_); (case side1 => exact cq (Kd.C_below HR0.out HB.out)); (case side2 => exact HC0.out); rintro e w26 ⟨rfl, hb⟩; refine ⟨_, rfl, ?_⟩; have n0_ := am (blk_below (g := gb258) (o := .cells #[.int .i64 a1, .int .i64 a2, .int .i64 a3, .int .i64 0, .bool false] 44 (0, 0)) (zq BK258.out) hb); have n1_ := am (below_step (by repeat (first | (with_reducible first | exact HB.out | apply below_alloc | apply pw_below_drewN | apply below_drew1 | refine below_set ?_ GE258.out) | exact HB.out)) hb); clear BK258; clear HB; have BK258 := n0_; have HB := n1_; clear n0_ n1_; (try clear hb); (try clear hb2); (try clear hk); (try clear hi); have hcz27_0 : w26.cell? ⟨gb258, 0, none⟩ = some (.int .i64 a1) := (blk_cell BK258.out 0).trans rfl; have hcz27_1 : w26.cell? ⟨gb258, 1, none⟩ = some (.int .i64 a2) := (blk_cell BK258.out 1).trans rfl; have hcz27_2 : w26.cell? ⟨gb258, 2, none⟩ = some (.int .i64 a3) := (blk_cell BK258.out 2).trans rfl; have hcz27_3 : w26.cell? ⟨gb258, 3, none⟩ = some (.int .i64 0) := (blk_cell BK258.out 3).trans rfl; have hcz27_4 : w26.cell? ⟨gb258, 4, none⟩ = some (.bool false) := (blk_cell BK258.out 4).trans rfl; have hfz27_0 := blk_frozen BK258.out 0; have hfz27_1 := blk_frozen BK258.out 1; have hfz27_2 := blk_frozen BK258.out 2; have hfz27_3 := blk_frozen BK258.out 3; have hfz27_4 := blk_frozen BK258.out 4) | (go_at_call 75; (with_reducible refine (spec_l8Ent.calls a1 a2 a3 0 false true _ A12.out).mono ?_); rintro e w28 ⟨rfl, hb⟩; have n0_ := am (blk_below (g := gb258) (o := .cells #[.int .i64 a1, .int .i64 a2, .int .i64 a3, .int .i64 0, .bool false] 44 (0, 0)) (zq BK258.out) hb); have n1_ := am (below_step (by repeat (first | (with_reducible first | exact HB.out | apply below_alloc | apply pw_below_drewN | apply below_drew1 | refine below_set ?_ GE258.out) | exact HB.out)) hb); clear BK258; clear HB; have BK258 := n0_; have HB := n1_; clear n0_ n1_; (try clear hb); (try clear hb2); (try clear hk); (try clear hi); have p262 : 0 ≤ (t259 : Int) := oda; have q262 : t259 < (l0.length : Int) := oda; obtain ⟨ad262, e262, hx262_0, hx262_1, hx262_2, hx262_3, hx262_4⟩ := at_T44 HR0.out t259 p262 q262; (try rw [← Nbq17.out] at hx262_4); cases e262; replace hx262_0 := (HB.out.cell (World.block_lt_of_cell? w _ hx262_0)).trans hx262_0; replace hx262_1 := (HB.out.cell (World.block_lt_of_cell? w _ hx262_1)).trans hx262_1; replace hx262_2 := (HB.out.cell (World.block_lt_of_cell? w _ hx262_2)).trans hx262_2; replace hx262_3 := (HB.out.cell (World.block_lt_of_cell? w _ hx262_3)).trans hx262_3; replace hx262_4 := (HB.out.cell (World.block_lt_of_cell? w _ hx262_4)).trans hx262_4; replace p262 := eq_true p262; replace q262 := eq_true q262))
                  go_meet
                  case rel => exact ⟨_, (false), (by first | rfl | (simp; done) | (simp [*]; done)), H', ⟨by first | omega | exact Nat.le_refl _⟩, ⟨zq BK258.out⟩, ⟨by repeat (first | (with_reducible first | exact HB.out | apply below_alloc | apply pw_below_drewN | apply below_drew1 | refine below_set ?_ GE258.out) | exact HB.out)⟩⟩
            · rw [if_neg c16] at H
              exact absurd H (by simp)
          · rw [if_neg c15] at H
            exact absurd H (by simp)
        · rw [if_neg c14] at H
          have c14b0 : decide (0 ≤ t259) = false := decide_eq_false c14
          clear c14
          (first | rw [c14b0] | (simp only [i64_w, i32_w]; rw [c14b0]) | skip)
          by_cases c29 : t259 < 0
          · rw [if_pos c29] at H
            have c29b0 : decide (t259 < 0) = true := decide_eq_true c29
            clear c29
            have H' := am H
            clear H
            go_wp2_with (first | ((with_reducible refine gate_callee (f := 61) rfl ?_); refine goesL_ (some 20) rfl rfl Try.func61 (by kernel_rfl) rfl #[.slice A0 l0.length c0] rfl (by (try simp only [List.map_toArray, List.map_cons, List.map_nil]); first | done | rfl | (simp only [List.length_drop, List.length_take]; rfl)) ?_; (with_reducible refine (spec_FdbOk.calls k _ _ l0 true _ ?side1 ?side2 A10.out).mono ?_); (case side1 => exact cq (Kd.C_below HR0.out HB.out)); (case side2 => exact HC0.out); rintro e w30 ⟨rfl, hb⟩; refine ⟨_, rfl, ?_⟩; have n0_ := am (blk_below (g := gb258) (o := .cells #[.int .i64 a1, .int .i64 a2, .int .i64 a3, .int .i64 0, .bool false] 44 (0, 0)) (zq BK258.out) hb); have n1_ := am (below_step (by repeat (first | (with_reducible first | exact HB.out | apply below_alloc | apply pw_below_drewN | apply below_drew1 | refine below_set ?_ GE258.out) | exact HB.out)) hb); clear BK258; clear HB; have BK258 := n0_; have HB := n1_; clear n0_ n1_; (try clear hb); (try clear hb2); (try clear hk); (try clear hi); have hcz31_0 : w30.cell? ⟨gb258, 0, none⟩ = some (.int .i64 a1) := (blk_cell BK258.out 0).trans rfl; have hcz31_1 : w30.cell? ⟨gb258, 1, none⟩ = some (.int .i64 a2) := (blk_cell BK258.out 1).trans rfl; have hcz31_2 : w30.cell? ⟨gb258, 2, none⟩ = some (.int .i64 a3) := (blk_cell BK258.out 2).trans rfl; have hcz31_3 : w30.cell? ⟨gb258, 3, none⟩ = some (.int .i64 0) := (blk_cell BK258.out 3).trans rfl; have hcz31_4 : w30.cell? ⟨gb258, 4, none⟩ = some (.bool false) := (blk_cell BK258.out 4).trans rfl; have hfz31_0 := blk_frozen BK258.out 0; have hfz31_1 := blk_frozen BK258.out 1; have hfz31_2 := blk_frozen BK258.out 2; have hfz31_3 := blk_frozen BK258.out 3; have hfz31_4 := blk_frozen BK258.out 4) | (go_at_call 75; (with_reducible refine (spec_l8Ent.calls a1 a2 a3 0 false true _ A12.out).mono ?_); rintro e w32 ⟨rfl, hb⟩; have n0_ := am (blk_below (g := gb258) (o := .cells #[.int .i64 a1, .int .i64 a2, .int .i64 a3, .int .i64 0, .bool false] 44 (0, 0)) (zq BK258.out) hb); have n1_ := am (below_step (by repeat (first | (with_reducible first | exact HB.out | apply below_alloc | apply pw_below_drewN | apply below_drew1 | refine below_set ?_ GE258.out) | exact HB.out)) hb); clear BK258; clear HB; have BK258 := n0_; have HB := n1_; clear n0_ n1_; (try clear hb); (try clear hb2); (try clear hk); (try clear hi)))
            go_meet
            case rel => exact ⟨_, (decide ((l0.length : Int) ≥ 12)), (by first | rfl | (simp; done) | (simp [*]; done)), H', ⟨by first | omega | exact Nat.le_refl _⟩, ⟨zq BK258.out⟩, ⟨by repeat (first | (with_reducible first | exact HB.out | apply below_alloc | apply pw_below_drewN | apply below_drew1 | refine below_set ?_ GE258.out) | exact HB.out)⟩⟩
          · rw [if_neg c29] at H
            have c29b0 : decide (t259 < 0) = false := decide_eq_false c29
            clear c29
            have H' := am H
            clear H
            go_wp2_with (first | ((with_reducible refine gate_callee (f := 61) rfl ?_); refine goesL_ (some 20) rfl rfl Try.func61 (by kernel_rfl) rfl #[.slice A0 l0.length c0] rfl (by (try simp only [List.map_toArray, List.map_cons, List.map_nil]); first | done | rfl | (simp only [List.length_drop, List.length_take]; rfl)) ?_; (with_reducible refine (spec_FdbOk.calls k _ _ l0 true _ ?side1 ?side2 A10.out).mono ?_); (case side1 => exact cq (Kd.C_below HR0.out HB.out)); (case side2 => exact HC0.out); rintro e w33 ⟨rfl, hb⟩; refine ⟨_, rfl, ?_⟩; have n0_ := am (blk_below (g := gb258) (o := .cells #[.int .i64 a1, .int .i64 a2, .int .i64 a3, .int .i64 0, .bool false] 44 (0, 0)) (zq BK258.out) hb); have n1_ := am (below_step (by repeat (first | (with_reducible first | exact HB.out | apply below_alloc | apply pw_below_drewN | apply below_drew1 | refine below_set ?_ GE258.out) | exact HB.out)) hb); clear BK258; clear HB; have BK258 := n0_; have HB := n1_; clear n0_ n1_; (try clear hb); (try clear hb2); (try clear hk); (try clear hi); have hcz34_0 : w33.cell? ⟨gb258, 0, none⟩ = some (.int .i64 a1) := (blk_cell BK258.out 0).trans rfl; have hcz34_1 : w33.cell? ⟨gb258, 1, none⟩ = some (.int .i64 a2) := (blk_cell BK258.out 1).trans rfl; have hcz34_2 : w33.cell? ⟨gb258, 2, none⟩ = some (.int .i64 a3) := (blk_cell BK258.out 2).trans rfl; have hcz34_3 : w33.cell? ⟨gb258, 3, none⟩ = some (.int .i64 0) := (blk_cell BK258.out 3).trans rfl; have hcz34_4 : w33.cell? ⟨gb258, 4, none⟩ = some (.bool false) := (blk_cell BK258.out 4).trans rfl; have hfz34_0 := blk_frozen BK258.out 0; have hfz34_1 := blk_frozen BK258.out 1; have hfz34_2 := blk_frozen BK258.out 2; have hfz34_3 := blk_frozen BK258.out 3; have hfz34_4 := blk_frozen BK258.out 4) | (go_at_call 75; (with_reducible refine (spec_l8Ent.calls a1 a2 a3 0 false true _ A12.out).mono ?_); rintro e w35 ⟨rfl, hb⟩; have n0_ := am (blk_below (g := gb258) (o := .cells #[.int .i64 a1, .int .i64 a2, .int .i64 a3, .int .i64 0, .bool false] 44 (0, 0)) (zq BK258.out) hb); have n1_ := am (below_step (by repeat (first | (with_reducible first | exact HB.out | apply below_alloc | apply pw_below_drewN | apply below_drew1 | refine below_set ?_ GE258.out) | exact HB.out)) hb); clear BK258; clear HB; have BK258 := n0_; have HB := n1_; clear n0_ n1_; (try clear hb); (try clear hb2); (try clear hk); (try clear hi)))
            go_meet
            case rel => exact ⟨_, (false), (by first | rfl | (simp; done) | (simp [*]; done)), H', ⟨by first | omega | exact Nat.le_refl _⟩, ⟨zq BK258.out⟩, ⟨by repeat (first | (with_reducible first | exact HB.out | apply below_alloc | apply pw_below_drewN | apply below_drew1 | refine below_set ?_ GE258.out) | exact HB.out)⟩⟩
      · replace c13 := Bool.eq_false_iff.mpr c13
        subst c13
        have H1 : (spec_Learn.j0 k l0 true a1 a2 a3 0 false) = some r := by rw [if_neg (show ¬ (false = true) by decide)] at H; exact H
        clear H
        have H := H1
        clear H1
        have H' := am H
        clear H
        go_wp2_with (first | ((with_reducible refine gate_callee (f := 61) rfl ?_); refine goesL_ (some 20) rfl rfl Try.func61 (by kernel_rfl) rfl #[.slice A0 l0.length c0] rfl (by (try simp only [List.map_toArray, List.map_cons, List.map_nil]); first | done | rfl | (simp only [List.length_drop, List.length_take]; rfl)) ?_; (with_reducible refine (spec_FdbOk.calls k _ _ l0 true _ ?side1 ?side2 A10.out).mono ?_); (case side1 => exact cq (Kd.C_below HR0.out HB.out)); (case side2 => exact HC0.out); rintro e w36 ⟨rfl, hb⟩; refine ⟨_, rfl, ?_⟩; have n0_ := am (blk_below (g := gb258) (o := .cells #[.int .i64 a1, .int .i64 a2, .int .i64 a3, .int .i64 0, .bool false] 44 (0, 0)) (zq BK258.out) hb); have n1_ := am (below_step (by repeat (first | (with_reducible first | exact HB.out | apply below_alloc | apply pw_below_drewN | apply below_drew1 | refine below_set ?_ GE258.out) | exact HB.out)) hb); clear BK258; clear HB; have BK258 := n0_; have HB := n1_; clear n0_ n1_; (try clear hb); (try clear hb2); (try clear hk); (try clear hi); have hcz37_0 : w36.cell? ⟨gb258, 0, none⟩ = some (.int .i64 a1) := (blk_cell BK258.out 0).trans rfl; have hcz37_1 : w36.cell? ⟨gb258, 1, none⟩ = some (.int .i64 a2) := (blk_cell BK258.out 1).trans rfl; have hcz37_2 : w36.cell? ⟨gb258, 2, none⟩ = some (.int .i64 a3) := (blk_cell BK258.out 2).trans rfl; have hcz37_3 : w36.cell? ⟨gb258, 3, none⟩ = some (.int .i64 0) := (blk_cell BK258.out 3).trans rfl; have hcz37_4 : w36.cell? ⟨gb258, 4, none⟩ = some (.bool false) := (blk_cell BK258.out 4).trans rfl; have hfz37_0 := blk_frozen BK258.out 0; have hfz37_1 := blk_frozen BK258.out 1; have hfz37_2 := blk_frozen BK258.out 2; have hfz37_3 := blk_frozen BK258.out 3; have hfz37_4 := blk_frozen BK258.out 4) | (go_at_call 75; (with_reducible refine (spec_l8Ent.calls a1 a2 a3 0 false false _ A12.out).mono ?_); rintro e w38 ⟨rfl, hb⟩; have n0_ := am (blk_below (g := gb258) (o := .cells #[.int .i64 a1, .int .i64 a2, .int .i64 a3, .int .i64 0, .bool false] 44 (0, 0)) (zq BK258.out) hb); have n1_ := am (below_step (by repeat (first | (with_reducible first | exact HB.out | apply below_alloc | apply pw_below_drewN | apply below_drew1 | refine below_set ?_ GE258.out) | exact HB.out)) hb); clear BK258; clear HB; have BK258 := n0_; have HB := n1_; clear n0_ n1_; (try clear hb); (try clear hb2); (try clear hk); (try clear hi)))
        go_meet
        case rel => exact ⟨_, (true), (by first | rfl | (simp; done) | (simp [*]; done)), H', ⟨by first | omega | exact Nat.le_refl _⟩, ⟨zq BK258.out⟩, ⟨by repeat (first | (with_reducible first | exact HB.out | apply below_alloc | apply pw_below_drewN | apply below_drew1 | refine below_set ?_ GE258.out) | exact HB.out)⟩⟩
    · replace c11 := Bool.eq_false_iff.mpr c11
      subst c11
      have H1 : (spec_Learn.j0 k l0 true a1 a2 a3 0 false) = some r := by rw [if_neg (show ¬ (false = true) by decide)] at H; exact H
      clear H
      have H := H1
      clear H1
      have H' := am H
      clear H
      go_wp2_with (first | ((with_reducible refine gate_callee (f := 61) rfl ?_); refine goesL_ (some 20) rfl rfl Try.func61 (by kernel_rfl) rfl #[.slice A0 l0.length c0] rfl (by (try simp only [List.map_toArray, List.map_cons, List.map_nil]); first | done | rfl | (simp only [List.length_drop, List.length_take]; rfl)) ?_; (with_reducible refine (spec_FdbOk.calls k _ _ l0 false _ ?side1 ?side2 A10.out).mono ?_); (case side1 => exact cq (Kd.C_below HR0.out HB.out)); (case side2 => exact HC0.out); rintro e w39 ⟨rfl, hb⟩; refine ⟨_, rfl, ?_⟩; have n0_ := am (blk_below (g := gb258) (o := .cells #[.int .i64 a1, .int .i64 a2, .int .i64 a3, .int .i64 0, .bool false] 44 (0, 0)) (zq BK258.out) hb); have n1_ := am (below_step (by repeat (first | (with_reducible first | exact HB.out | apply below_alloc | apply pw_below_drewN | apply below_drew1 | refine below_set ?_ GE258.out) | exact HB.out)) hb); clear BK258; clear HB; have BK258 := n0_; have HB := n1_; clear n0_ n1_; (try clear hb); (try clear hb2); (try clear hk); (try clear hi)))
      go_meet
      case rel => exact ⟨_, (true), (by first | rfl | (simp; done) | (simp [*]; done)), H', ⟨by first | omega | exact Nat.le_refl _⟩, ⟨zq BK258.out⟩, ⟨by repeat (first | (with_reducible first | exact HB.out | apply below_alloc | apply pw_below_drewN | apply below_drew1 | refine below_set ?_ GE258.out) | exact HB.out)⟩⟩
  case rest =>
    clear HC6
    try clear c1
    try clear q1
    try clear c2
    try clear p2
    try clear q2
    try clear hx2
    try clear c3
    try clear c6
    try clear c7
    try clear c11
    try clear c13
    try clear c14
    try clear c14b0
    try clear c15
    try clear c15b0
    try clear c16
    try clear c16b0
    try clear q17
    try clear c18
    try clear c22
    try clear c22b0
    try clear p26
    try clear q26
    try clear hx26
    try clear c29
    try clear c29b0
    try clear c32
    try clear hcz20_0
    try clear hcz20_1
    try clear hcz20_2
    try clear hcz20_3
    try clear hcz20_4
    try clear hcz24_0
    try clear hcz24_1
    try clear hcz24_2
    try clear hcz24_3
    try clear hcz24_4
    try clear hcz27_0
    try clear hcz27_1
    try clear hcz27_2
    try clear hcz27_3
    try clear hcz27_4
    try clear hcz31_0
    try clear hcz31_1
    try clear hcz31_2
    try clear hcz31_3
    try clear hcz31_4
    try clear hcz34_0
    try clear hcz34_1
    try clear hcz34_2
    try clear hcz34_3
    try clear hcz34_4
    try clear hcz37_0
    try clear hcz37_1
    try clear hcz37_2
    try clear hcz37_3
    try clear hcz37_4
    try clear hcz8_0
    try clear hcz8_1
    try clear hcz8_2
    try clear hcz8_3
    try clear hcz8_4
    try clear hfz20_0
    try clear hfz20_1
    try clear hfz20_2
    try clear hfz20_3
    try clear hfz20_4
    try clear hfz24_0
    try clear hfz24_1
    try clear hfz24_2
    try clear hfz24_3
    try clear hfz24_4
    try clear hfz27_0
    try clear hfz27_1
    try clear hfz27_2
    try clear hfz27_3
    try clear hfz27_4
    try clear hfz31_0
    try clear hfz31_1
    try clear hfz31_2
    try clear hfz31_3
    try clear hfz31_4
    try clear hfz34_0
    try clear hfz34_1
    try clear hfz34_2
    try clear hfz34_3
    try clear hfz34_4
    try clear hfz37_0
    try clear hfz37_1
    try clear hfz37_2
    try clear hfz37_3
    try clear hfz37_4
    try clear hfz8_0
    try clear hfz8_1
    try clear hfz8_2
    try clear hfz8_3
    try clear hfz8_4
    try clear hx262_0
    try clear hx262_1
    try clear hx262_2
    try clear hx262_3
    try clear hx262_4
    try clear p262
    try clear q262
    obtain ⟨kq, x46_5, rfl, HA, HJ5, BK258, HB⟩ := hcut
    cases kq with
    | zero => exact absurd HA.out (by simp [spec_Learn.j0])
    | succ kj5 =>
      have H := HA.out
      clear HA
      simp only [spec_Learn.j0] at H
      by_cases c40 : x46_5 = true
      · subst c40
        have H1 : ((spec_l8Copy.f l0).bind fun t263 => (some t263)) = some r := by rw [if_pos rfl] at H; exact H
        clear H
        have H := H1
        clear H1
        replace H := Option.bind_eq_some_iff.mp H
        obtain ⟨t263, A410, H⟩ := H
        replace H : (some t263) = some r := H
        have A41 := am A410
        clear A410
        obtain rfl := Option.some.inj H
        go_wp2_with (first | ((with_reducible refine gate_callee (f := 77) rfl ?_); refine goesL_ (some 48) rfl rfl Try.func77 (by kernel_rfl) rfl #[.slice A0 l0.length c0] rfl (by (try simp only [List.map_toArray, List.map_cons, List.map_nil]); first | done | rfl | (simp only [List.length_drop, List.length_take]; rfl)) ?_; (with_reducible refine (spec_l8Copy.calls _ _ l0 t263 _ ?side1 ?side2 A41.out).mono ?_); (case side1 => exact cq (Kd.C_below HR0.out HB.out)); (case side2 => exact HC0.out); rintro e w42 ⟨v264, rfl, ho0, hb⟩; refine ⟨_, rfl, ?_⟩; have n0_ := am (Kd.R_lower (Kd.R_newB ho0 (g := gb258) (o := .cells #[.int .i64 a1, .int .i64 a2, .int .i64 a3, .int .i64 0, .bool false] 44 (0, 0)) (zq BK258.out)) (below_size (by repeat (first | (with_reducible first | exact HB.out | apply below_alloc | apply pw_below_drewN | apply below_drew1 | refine below_set ?_ GE258.out) | exact HB.out)))); have n1_ := am (blk_below (g := gb258) (o := .cells #[.int .i64 a1, .int .i64 a2, .int .i64 a3, .int .i64 0, .bool false] 44 (0, 0)) (zq BK258.out) hb); have n2_ := am (below_step (by repeat (first | (with_reducible first | exact HB.out | apply below_alloc | apply pw_below_drewN | apply below_drew1 | refine below_set ?_ GE258.out) | exact HB.out)) hb); clear BK258; clear HB; have HO265 := n0_; have BK258 := n1_; have HB := n2_; clear n0_ n1_ n2_; (try clear hb); (try clear hb2); (try clear hk); (try clear hi); (try clear ho0)))
        go_ret
        exact ⟨_, by first | rfl | (simp [errW_none, errW_some] <;> rfl) | (simp [*, errW_none, errW_some] <;> rfl), by (with_reducible repeat (first | apply Kd.R_alloc | apply Kd.R_drewN | apply Kd.R_drew)); exact Kd.R_mono HO265.out (fun _ hk => trivial), by repeat (first | (with_reducible first | exact HB.out | apply below_alloc | apply pw_below_drewN | apply below_drew1 | refine below_set ?_ GE258.out) | exact HB.out)⟩
      · replace c40 := Bool.eq_false_iff.mpr c40
        subst c40
        have H1 : ((spec_l8Put.f kj5 l0 a1 a2 a3 0 false).bind fun t266 => (some t266)) = some r := by rw [if_neg (show ¬ (false = true) by decide)] at H; exact H
        clear H
        have H := H1
        clear H1
        replace H := Option.bind_eq_some_iff.mp H
        obtain ⟨t266, A430, H⟩ := H
        replace H : (some t266) = some r := H
        have A43 := am A430
        clear A430
        obtain rfl := Option.some.inj H
        have hcz44_0 : wc.cell? ⟨gb258, 0, none⟩ = some (.int .i64 a1) := (blk_cell BK258.out 0).trans rfl
        have hcz44_1 : wc.cell? ⟨gb258, 1, none⟩ = some (.int .i64 a2) := (blk_cell BK258.out 1).trans rfl
        have hcz44_2 : wc.cell? ⟨gb258, 2, none⟩ = some (.int .i64 a3) := (blk_cell BK258.out 2).trans rfl
        have hcz44_3 : wc.cell? ⟨gb258, 3, none⟩ = some (.int .i64 0) := (blk_cell BK258.out 3).trans rfl
        have hcz44_4 : wc.cell? ⟨gb258, 4, none⟩ = some (.bool false) := (blk_cell BK258.out 4).trans rfl
        have hfz44_0 := blk_frozen BK258.out 0
        have hfz44_1 := blk_frozen BK258.out 1
        have hfz44_2 := blk_frozen BK258.out 2
        have hfz44_3 := blk_frozen BK258.out 3
        have hfz44_4 := blk_frozen BK258.out 4
        go_wp2_with (first | ((with_reducible refine gate_callee (f := 78) rfl ?_); refine goesL_ (some 51) rfl rfl Try.func78 (by kernel_rfl) rfl #[.slice A0 l0.length c0, .agg #[.int .i64 a1, .int .i64 a2, .int .i64 a3, .int .i64 0, .bool false]] rfl (by (try simp only [List.map_toArray, List.map_cons, List.map_nil]); first | done | rfl | (simp only [List.length_drop, List.length_take]; rfl)) ?_; (with_reducible refine (spec_l8Put.calls kj5 _ _ l0 a1 a2 a3 0 false t266 _ ?side1 ?side2 A43.out).mono ?_); (case side1 => exact cq (Kd.C_below HR0.out HB.out)); (case side2 => exact HC0.out); rintro e w45 ⟨v267, rfl, ho0, hb⟩; refine ⟨_, rfl, ?_⟩; have n0_ := am (Kd.R_lower (Kd.R_newB ho0 (g := gb258) (o := .cells #[.int .i64 a1, .int .i64 a2, .int .i64 a3, .int .i64 0, .bool false] 44 (0, 0)) (zq BK258.out)) (below_size (by repeat (first | (with_reducible first | exact HB.out | apply below_alloc | apply pw_below_drewN | apply below_drew1 | refine below_set ?_ GE258.out) | exact HB.out)))); have n1_ := am (blk_below (g := gb258) (o := .cells #[.int .i64 a1, .int .i64 a2, .int .i64 a3, .int .i64 0, .bool false] 44 (0, 0)) (zq BK258.out) hb); have n2_ := am (below_step (by repeat (first | (with_reducible first | exact HB.out | apply below_alloc | apply pw_below_drewN | apply below_drew1 | refine below_set ?_ GE258.out) | exact HB.out)) hb); clear BK258; clear HB; have HO268 := n0_; have BK258 := n1_; have HB := n2_; clear n0_ n1_ n2_; (try clear hb); (try clear hb2); (try clear hk); (try clear hi); (try clear ho0)))
        go_ret
        exact ⟨_, by first | rfl | (simp [errW_none, errW_some] <;> rfl) | (simp [*, errW_none, errW_some] <;> rfl), by (with_reducible repeat (first | apply Kd.R_alloc | apply Kd.R_drewN | apply Kd.R_drew)); exact Kd.R_mono HO268.out (fun _ hk => trivial), by repeat (first | (with_reducible first | exact HB.out | apply below_alloc | apply pw_below_drewN | apply below_drew1 | refine below_set ?_ GE258.out) | exact HB.out)⟩

/-! ### laws_FnExactLearn: function 6 -/
def laws_FnExactLearn.j0 : Nat → List (S95) → Int → Int → Int → List (S44) → List (S44) → Bool → Option (Bool)
  | 0, _, _, _, _, _, _, _ => none
  | k + 1, x0, x1, x2, x3, x10, x12, x54 => if x54 = true then (some false) else ((laws_markFentS.f k x12 1).bind fun bt290 => ((laws_heldFentS.f k bt290.2 1).bind fun t292 => (if t292 < 0 then (some false) else (if t292 = bt290.1 then ((laws_toFentS.f k x0).bind fun t293 => ((impl_Learn.f k t293 x1 x2 x3).bind fun t296 => ((laws_eqFentS.f k t296 x10).bind fun t299 => (if t299 = true then ((laws_heldFentS.f k bt290.2 1).bind fun t300 => (if t300 < 0 then (some false) else (if t300 = bt290.1 then (some true) else (some false)))) else (some false))))) else (some false)))))
def laws_FnExactLearn.f (k : Nat) (l0 : List (S95)) (a1 : Int) (a2 : Int) (a3 : Int) : Option (Bool) := (laws_szFentS.f l0 1048576).bind fun t269 => (if t269 < 0 then (some true) else ((laws_toFentS.f k l0).bind fun t270 => ((spec_Learn.f k t270 a1 a2 a3).bind fun t273 => ((laws_toFentS.f k l0).bind fun t276 => ((impl_Learn.f k t276 a1 a2 a3).bind fun t279 => ((laws_eqFentS.f k t279 t273).bind fun t282 => (if t282 = true then ((laws_toFentS.f k l0).bind fun t283 => ((laws_eqFentS.f k t276 t283).bind fun t286 => (if t286 = true then ((laws_markFentS.f k t276 1).bind fun bt287 => (if bt287.1 < 0 then (laws_FnExactLearn.j0 k l0 a1 a2 a3 t273 t279 true) else ((laws_eqFentS.f k t279 t273).bind fun t289 => (laws_FnExactLearn.j0 k l0 a1 a2 a3 t273 t279 (!t289))))) else (some false)))) else (some false))))))))
theorem laws_FnExactLearn.mono_l : ∀ k, (∀ y0 y1 y2 y3 y4 y5 y6, LeO (laws_FnExactLearn.j0 k y0 y1 y2 y3 y4 y5 y6) (laws_FnExactLearn.j0 (k + 1) y0 y1 y2 y3 y4 y5 y6))
  | 0 => fun _ _ _ _ _ _ _ r h => by simp [laws_FnExactLearn.j0] at h
  | k + 1 => by
    have ih0 := laws_FnExactLearn.mono_l k
    · intro y0 y1 y2 y3 y4 y5 y6
      unfold laws_FnExactLearn.j0
      repeat' first
      | (with_reducible exact ih0 _ _ _ _ _ _ _)
      | (with_reducible exact impl_Learn.mono _ _ _ _ _)
      | (with_reducible exact laws_eqFentS.mono _ _ _)
      | (with_reducible exact laws_heldFentS.mono _ _ _)
      | (with_reducible exact laws_markFentS.mono _ _ _)
      | (with_reducible exact laws_toFentS.mono _ _)
      | (with_reducible exact spec_Learn.mono _ _ _ _ _)
      | (with_reducible exact LeO.refl _)
      | (with_reducible exact LeO.none _)
      | (with_reducible refine LeO.ite ?_ ?_)
      | (with_reducible refine LeO.bind ?_ (fun _ => ?_))
      | exact ih0 _ _ _ _ _ _ _
      | exact impl_Learn.mono _ _ _ _ _
      | exact laws_eqFentS.mono _ _ _
      | exact laws_heldFentS.mono _ _ _
      | exact laws_markFentS.mono _ _ _
      | exact laws_toFentS.mono _ _
      | exact spec_Learn.mono _ _ _ _ _
      | exact LeO.none _
      | refine LeO.ite ?_ ?_
      | refine LeO.bind ?_ (fun _ => ?_)
theorem laws_FnExactLearn.mono : ∀ a0 a1 a2 a3 k, LeO (laws_FnExactLearn.f k a0 a1 a2 a3) (laws_FnExactLearn.f (k + 1) a0 a1 a2 a3) := by
  intro a0 a1 a2 a3 k
  have ih0 := laws_FnExactLearn.mono_l k
  unfold laws_FnExactLearn.f
  repeat' first
      | (with_reducible exact ih0 _ _ _ _ _ _ _)
      | (with_reducible exact impl_Learn.mono _ _ _ _ _)
      | (with_reducible exact laws_eqFentS.mono _ _ _)
      | (with_reducible exact laws_heldFentS.mono _ _ _)
      | (with_reducible exact laws_markFentS.mono _ _ _)
      | (with_reducible exact laws_toFentS.mono _ _)
      | (with_reducible exact spec_Learn.mono _ _ _ _ _)
      | (with_reducible exact LeO.refl _)
      | (with_reducible exact LeO.none _)
      | (with_reducible refine LeO.ite ?_ ?_)
      | (with_reducible refine LeO.bind ?_ (fun _ => ?_))
      | exact ih0 _ _ _ _ _ _ _
      | exact impl_Learn.mono _ _ _ _ _
      | exact laws_eqFentS.mono _ _ _
      | exact laws_heldFentS.mono _ _ _
      | exact laws_markFentS.mono _ _ _
      | exact laws_toFentS.mono _ _
      | exact spec_Learn.mono _ _ _ _ _
      | exact LeO.none _
      | refine LeO.ite ?_ ?_
      | refine LeO.bind ?_ (fun _ => ?_)
set_option maxHeartbeats 8000000 in
set_option maxRecDepth 100000 in
theorem laws_FnExactLearn.calls (k : Nat) (A0 : Option Addr) (c0 : Nat) (l0 : List (S95)) (a1 : Int) (a2 : Int) (a3 : Int) (r : Bool) (w : World) (hr0 : Kd.C k95 w A0 l0.length l0) (hc0 : l0.length ≤ c0) (hr_ : r = true) (h : laws_FnExactLearn.f k l0 a1 a2 a3 = some r) :
    Calls Try.prog 6 #[.slice A0 l0.length c0, .int .i64 a1, .int .i64 a2, .int .i64 a3] w fun e w' => e = .returned (.bool r) ∧ Below w.heap.size w w' := by
  have HRT := am hr_
  clear hr_
  have HR0 := am hr0
  have HC0 := am hc0
  clear hr0 hc0
  have HB := am (Below.refl w.heap.size w)
  have H : ((laws_szFentS.f l0 1048576).bind fun t269 => (if t269 < 0 then (some true) else ((laws_toFentS.f k l0).bind fun t270 => ((spec_Learn.f k t270 a1 a2 a3).bind fun t273 => ((laws_toFentS.f k l0).bind fun t276 => ((impl_Learn.f k t276 a1 a2 a3).bind fun t279 => ((laws_eqFentS.f k t279 t273).bind fun t282 => (if t282 = true then ((laws_toFentS.f k l0).bind fun t283 => ((laws_eqFentS.f k t276 t283).bind fun t286 => (if t286 = true then ((laws_markFentS.f k t276 1).bind fun bt287 => (if bt287.1 < 0 then (laws_FnExactLearn.j0 k l0 a1 a2 a3 t273 t279 true) else ((laws_eqFentS.f k t279 t273).bind fun t289 => (laws_FnExactLearn.j0 k l0 a1 a2 a3 t273 t279 (!t289))))) else (some false)))) else (some false))))))))) = some r := h
  clear h
  replace H := Option.bind_eq_some_iff.mp H
  obtain ⟨t269, A50, H⟩ := H
  replace H : (if t269 < 0 then (some true) else ((laws_toFentS.f k l0).bind fun t270 => ((spec_Learn.f k t270 a1 a2 a3).bind fun t273 => ((laws_toFentS.f k l0).bind fun t276 => ((impl_Learn.f k t276 a1 a2 a3).bind fun t279 => ((laws_eqFentS.f k t279 t273).bind fun t282 => (if t282 = true then ((laws_toFentS.f k l0).bind fun t283 => ((laws_eqFentS.f k t276 t283).bind fun t286 => (if t286 = true then ((laws_markFentS.f k t276 1).bind fun bt287 => (if bt287.1 < 0 then (laws_FnExactLearn.j0 k l0 a1 a2 a3 t273 t279 true) else ((laws_eqFentS.f k t279 t273).bind fun t289 => (laws_FnExactLearn.j0 k l0 a1 a2 a3 t273 t279 (!t289))))) else (some false)))) else (some false)))))))) = some r := H
  have A5 := am A50
  clear A50
  by_cases c6 : t269 < 0
  · rw [if_pos c6] at H
    have c6b0 : decide (t269 < 0) = true := decide_eq_true c6
    clear c6
    obtain rfl := Option.some.inj H
    go_enter Try.func6, Try.ntmps6
    go_wp2_with (first | ((with_reducible refine gate_callee (f := 19) rfl ?_); refine goesL_ (some 19) rfl rfl Try.func19 (by kernel_rfl) rfl #[.slice A0 l0.length c0, .int .i64 1048576] rfl (by (try simp only [List.map_toArray, List.map_cons, List.map_nil]); first | done | rfl | (simp only [List.length_drop, List.length_take]; rfl)) ?_; (with_reducible refine (laws_szFentS.calls _ _ l0 1048576 t269 _ ?side1 ?side2 A5.out).mono ?_); (case side1 => exact cq HR0.out); (case side2 => exact HC0.out); rintro e w' ⟨rfl, ⟨nd, rfl⟩⟩; refine ⟨_, rfl, ?_⟩))
    go_ret
    exact ⟨by first | rfl | (simp [errW_none, errW_some] <;> rfl) | (simp [*, errW_none, errW_some] <;> rfl), bq HB.out⟩
  · rw [if_neg c6] at H
    have c6b0 : decide (t269 < 0) = false := decide_eq_false c6
    clear c6
    replace H := Option.bind_eq_some_iff.mp H
    obtain ⟨t270, A70, H⟩ := H
    replace H : ((spec_Learn.f k t270 a1 a2 a3).bind fun t273 => ((laws_toFentS.f k l0).bind fun t276 => ((impl_Learn.f k t276 a1 a2 a3).bind fun t279 => ((laws_eqFentS.f k t279 t273).bind fun t282 => (if t282 = true then ((laws_toFentS.f k l0).bind fun t283 => ((laws_eqFentS.f k t276 t283).bind fun t286 => (if t286 = true then ((laws_markFentS.f k t276 1).bind fun bt287 => (if bt287.1 < 0 then (laws_FnExactLearn.j0 k l0 a1 a2 a3 t273 t279 true) else ((laws_eqFentS.f k t279 t273).bind fun t289 => (laws_FnExactLearn.j0 k l0 a1 a2 a3 t273 t279 (!t289))))) else (some false)))) else (some false)))))) = some r := H
    have A7 := am A70
    clear A70
    replace H := Option.bind_eq_some_iff.mp H
    obtain ⟨t273, A80, H⟩ := H
    replace H : ((laws_toFentS.f k l0).bind fun t276 => ((impl_Learn.f k t276 a1 a2 a3).bind fun t279 => ((laws_eqFentS.f k t279 t273).bind fun t282 => (if t282 = true then ((laws_toFentS.f k l0).bind fun t283 => ((laws_eqFentS.f k t276 t283).bind fun t286 => (if t286 = true then ((laws_markFentS.f k t276 1).bind fun bt287 => (if bt287.1 < 0 then (laws_FnExactLearn.j0 k l0 a1 a2 a3 t273 t279 true) else ((laws_eqFentS.f k t279 t273).bind fun t289 => (laws_FnExactLearn.j0 k l0 a1 a2 a3 t273 t279 (!t289))))) else (some false)))) else (some false))))) = some r := H
    have A8 := am A80
    clear A80
    replace H := Option.bind_eq_some_iff.mp H
    obtain ⟨t276, A90, H⟩ := H
    replace H : ((impl_Learn.f k t276 a1 a2 a3).bind fun t279 => ((laws_eqFentS.f k t279 t273).bind fun t282 => (if t282 = true then ((laws_toFentS.f k l0).bind fun t283 => ((laws_eqFentS.f k t276 t283).bind fun t286 => (if t286 = true then ((laws_markFentS.f k t276 1).bind fun bt287 => (if bt287.1 < 0 then (laws_FnExactLearn.j0 k l0 a1 a2 a3 t273 t279 true) else ((laws_eqFentS.f k t279 t273).bind fun t289 => (laws_FnExactLearn.j0 k l0 a1 a2 a3 t273 t279 (!t289))))) else (some false)))) else (some false)))) = some r := H
    have A9 := am A90
    clear A90
    replace H := Option.bind_eq_some_iff.mp H
    obtain ⟨t279, A100, H⟩ := H
    replace H : ((laws_eqFentS.f k t279 t273).bind fun t282 => (if t282 = true then ((laws_toFentS.f k l0).bind fun t283 => ((laws_eqFentS.f k t276 t283).bind fun t286 => (if t286 = true then ((laws_markFentS.f k t276 1).bind fun bt287 => (if bt287.1 < 0 then (laws_FnExactLearn.j0 k l0 a1 a2 a3 t273 t279 true) else ((laws_eqFentS.f k t279 t273).bind fun t289 => (laws_FnExactLearn.j0 k l0 a1 a2 a3 t273 t279 (!t289))))) else (some false)))) else (some false))) = some r := H
    have A10 := am A100
    clear A100
    replace H := Option.bind_eq_some_iff.mp H
    obtain ⟨t282, A110, H⟩ := H
    replace H : (if t282 = true then ((laws_toFentS.f k l0).bind fun t283 => ((laws_eqFentS.f k t276 t283).bind fun t286 => (if t286 = true then ((laws_markFentS.f k t276 1).bind fun bt287 => (if bt287.1 < 0 then (laws_FnExactLearn.j0 k l0 a1 a2 a3 t273 t279 true) else ((laws_eqFentS.f k t279 t273).bind fun t289 => (laws_FnExactLearn.j0 k l0 a1 a2 a3 t273 t279 (!t289))))) else (some false)))) else (some false)) = some r := H
    have A11 := am A110
    clear A110
    by_cases c12 : t282 = true
    · subst c12
      have H1 : ((laws_toFentS.f k l0).bind fun t283 => ((laws_eqFentS.f k t276 t283).bind fun t286 => (if t286 = true then ((laws_markFentS.f k t276 1).bind fun bt287 => (if bt287.1 < 0 then (laws_FnExactLearn.j0 k l0 a1 a2 a3 t273 t279 true) else ((laws_eqFentS.f k t279 t273).bind fun t289 => (laws_FnExactLearn.j0 k l0 a1 a2 a3 t273 t279 (!t289))))) else (some false)))) = some r := by rw [if_pos rfl] at H; exact H
      clear H
      have H := H1
      clear H1
      replace H := Option.bind_eq_some_iff.mp H
      obtain ⟨t283, A130, H⟩ := H
      replace H : ((laws_eqFentS.f k t276 t283).bind fun t286 => (if t286 = true then ((laws_markFentS.f k t276 1).bind fun bt287 => (if bt287.1 < 0 then (laws_FnExactLearn.j0 k l0 a1 a2 a3 t273 t279 true) else ((laws_eqFentS.f k t279 t273).bind fun t289 => (laws_FnExactLearn.j0 k l0 a1 a2 a3 t273 t279 (!t289))))) else (some false))) = some r := H
      have A13 := am A130
      clear A130
      replace H := Option.bind_eq_some_iff.mp H
      obtain ⟨t286, A140, H⟩ := H
      replace H : (if t286 = true then ((laws_markFentS.f k t276 1).bind fun bt287 => (if bt287.1 < 0 then (laws_FnExactLearn.j0 k l0 a1 a2 a3 t273 t279 true) else ((laws_eqFentS.f k t279 t273).bind fun t289 => (laws_FnExactLearn.j0 k l0 a1 a2 a3 t273 t279 (!t289))))) else (some false)) = some r := H
      have A14 := am A140
      clear A140
      by_cases c15 : t286 = true
      · subst c15
        have H1 : ((laws_markFentS.f k t276 1).bind fun bt287 => (if bt287.1 < 0 then (laws_FnExactLearn.j0 k l0 a1 a2 a3 t273 t279 true) else ((laws_eqFentS.f k t279 t273).bind fun t289 => (laws_FnExactLearn.j0 k l0 a1 a2 a3 t273 t279 (!t289))))) = some r := by rw [if_pos rfl] at H; exact H
        clear H
        have H := H1
        clear H1
        replace H := Option.bind_eq_some_iff.mp H
        obtain ⟨⟨t287, t288⟩, A160, H⟩ := H
        replace H : (if t287 < 0 then (laws_FnExactLearn.j0 k l0 a1 a2 a3 t273 t279 true) else ((laws_eqFentS.f k t279 t273).bind fun t289 => (laws_FnExactLearn.j0 k l0 a1 a2 a3 t273 t279 (!t289)))) = some r := H
        have A16 := am A160
        clear A160
        have HC17 := am H
        clear H
        go_enter Try.func6, Try.ntmps6
        go_upto_region 14 with (first | ((with_reducible refine gate_callee (f := 19) rfl ?_); refine goesL_ (some 19) rfl rfl Try.func19 (by kernel_rfl) rfl #[.slice A0 l0.length c0, .int .i64 1048576] rfl (by (try simp only [List.map_toArray, List.map_cons, List.map_nil]); first | done | rfl | (simp only [List.length_drop, List.length_take]; rfl)) ?_; (with_reducible refine (laws_szFentS.calls _ _ l0 1048576 t269 _ ?side1 ?side2 A5.out).mono ?_); (case side1 => exact cq HR0.out); (case side2 => exact HC0.out); rintro e w' ⟨rfl, ⟨nd, rfl⟩⟩; refine ⟨_, rfl, ?_⟩) | ((with_reducible refine gate_callee (f := 21) rfl ?_); refine goesL_ (some 23) rfl rfl Try.func21 (by kernel_rfl) rfl #[.slice A0 l0.length c0] rfl (by (try simp only [List.map_toArray, List.map_cons, List.map_nil]); first | done | rfl | (simp only [List.length_drop, List.length_take]; rfl)) ?_; (with_reducible refine (laws_toFentS.calls k _ _ l0 t270 _ ?side1 ?side2 A7.out).mono ?_); (case side1 => exact cq HR0.out); (case side2 => exact HC0.out); rintro e w18 ⟨v271, rfl, ho0, hb⟩; refine ⟨_, rfl, ?_⟩; have n0_ := am (Kd.R_lower ho0 (below_size (bq HB.out))); have n1_ := am (below_step (bq HB.out) hb); clear HB; have HO272 := n0_; have HB := n1_; clear n0_ n1_; (try clear hb); (try clear hb2); (try clear hk); (try clear hi); (try clear ho0); obtain ⟨Ao19, co19, eo19⟩ := Kd.R_slice HO272.out; subst eo19) | ((with_reducible refine gate_callee (f := 32) rfl ?_); refine goesL_ (some 27) rfl rfl Try.func32 (by kernel_rfl) rfl #[.slice Ao19 t270.length co19, .int .i64 a1, .int .i64 a2, .int .i64 a3] rfl (by (try simp only [List.map_toArray, List.map_cons, List.map_nil]); first | done | rfl | (simp only [List.length_drop, List.length_take]; rfl)) ?_; (with_reducible refine (spec_Learn.calls k _ _ t270 a1 a2 a3 t273 _ ?side1 ?side2 A8.out).mono ?_); (case side1 => repeat (first | exact (Kd.R_reads' HO272.out).2.2 | (with_reducible refine Kd.C_alloc ?_ _) | (with_reducible refine Kd.C_drewN ?_ _) | (with_reducible refine Kd.C_drew ?_))); (case side2 => exact (Kd.R_reads' HO272.out).2.1); rintro e w20 ⟨v274, rfl, ho0, hb⟩; refine ⟨_, rfl, ?_⟩; have n0_ := am (Kd.R_elder' (kqR HO272.out) (Kd.R_base ho0) hb); have n1_ := am (Kd.R_lower (Kd.R_new' ho0 (Kd.R_lt (kqR HO272.out))) (below_size (bq HB.out))); have n2_ := am (below_step (bq HB.out) hb); clear HO272; clear HB; have HO272 := n0_; have HO275 := n1_; have HB := n2_; clear n0_ n1_ n2_; (try clear hb); (try clear hb2); (try clear hk); (try clear hi); (try clear ho0)) | ((with_reducible refine gate_callee (f := 21) rfl ?_); refine goesL_ (some 29) rfl rfl Try.func21 (by kernel_rfl) rfl #[.slice A0 l0.length c0] rfl (by (try simp only [List.map_toArray, List.map_cons, List.map_nil]); first | done | rfl | (simp only [List.length_drop, List.length_take]; rfl)) ?_; (with_reducible refine (laws_toFentS.calls k _ _ l0 t276 _ ?side1 ?side2 A9.out).mono ?_); (case side1 => exact cq (Kd.C_below HR0.out HB.out)); (case side2 => exact HC0.out); rintro e w21 ⟨v277, rfl, ho0, hb⟩; refine ⟨_, rfl, ?_⟩; have n0_ := am (Kd.R_elder' (kqR HO272.out) (Kd.R_base ho0) hb); have n1_ := am (Kd.R_elder' (kqR HO275.out) (Kd.R_base ho0) hb); have n2_ := am (Kd.R_lower (Kd.R_new' (Kd.R_new' ho0 (Kd.R_lt (kqR HO272.out))) (Kd.R_lt (kqR HO275.out))) (below_size (bq HB.out))); have n3_ := am (below_step (bq HB.out) hb); clear HO272; clear HO275; clear HB; have HO272 := n0_; have HO275 := n1_; have HO278 := n2_; have HB := n3_; clear n0_ n1_ n2_ n3_; (try clear hb); (try clear hb2); (try clear hk); (try clear hi); (try clear ho0); obtain ⟨Ao22, co22, eo22⟩ := Kd.R_slice HO278.out; subst eo22) | ((with_reducible refine gate_callee (f := 28) rfl ?_); refine goesL_ (some 34) rfl rfl Try.func28 (by kernel_rfl) rfl #[.slice Ao22 t276.length co22, .int .i64 a1, .int .i64 a2, .int .i64 a3] rfl (by (try simp only [List.map_toArray, List.map_cons, List.map_nil]); first | done | rfl | (simp only [List.length_drop, List.length_take]; rfl)) ?_; (with_reducible refine (impl_Learn.calls k _ _ t276 a1 a2 a3 t279 _ ?side1 ?side2 A10.out).mono ?_); (case side1 => repeat (first | exact (Kd.R_reads' HO278.out).2.2 | (with_reducible refine Kd.C_alloc ?_ _) | (with_reducible refine Kd.C_drewN ?_ _) | (with_reducible refine Kd.C_drew ?_))); (case side2 => exact (Kd.R_reads' HO278.out).2.1); rintro e w23 ⟨v280, rfl, ho0, hb⟩; refine ⟨_, rfl, ?_⟩; have n0_ := am (Kd.R_elder' (kqR HO272.out) (Kd.R_base ho0) hb); have n1_ := am (Kd.R_elder' (kqR HO275.out) (Kd.R_base ho0) hb); have n2_ := am (Kd.R_elder' (kqR HO278.out) (Kd.R_base ho0) hb); have n3_ := am (Kd.R_lower (Kd.R_new' (Kd.R_new' (Kd.R_new' ho0 (Kd.R_lt (kqR HO272.out))) (Kd.R_lt (kqR HO275.out))) (Kd.R_lt (kqR HO278.out))) (below_size (bq HB.out))); have n4_ := am (below_step (bq HB.out) hb); clear HO272; clear HO275; clear HO278; clear HB; have HO272 := n0_; have HO275 := n1_; have HO278 := n2_; have HO281 := n3_; have HB := n4_; clear n0_ n1_ n2_ n3_ n4_; (try clear hb); (try clear hb2); (try clear hk); (try clear hi); (try clear ho0); obtain ⟨Ao24, co24, eo24⟩ := Kd.R_slice HO281.out; subst eo24; obtain ⟨Ao25, co25, eo25⟩ := Kd.R_slice HO275.out; subst eo25) | ((with_reducible refine gate_callee (f := 23) rfl ?_); refine goesL_ (some 37) rfl rfl Try.func23 (by kernel_rfl) rfl #[.slice Ao24 t279.length co24, .slice Ao25 t273.length co25] rfl (by (try simp only [List.map_toArray, List.map_cons, List.map_nil]); first | done | rfl | (simp only [List.length_drop, List.length_take]; rfl)) ?_; (with_reducible refine (laws_eqFentS.calls k _ _ t279 _ _ t273 true _ ?side1 ?side2 ?side3 ?side4 A11.out).mono ?_); (case side1 => repeat (first | exact (Kd.R_reads' HO281.out).2.2 | (with_reducible refine Kd.C_alloc ?_ _) | (with_reducible refine Kd.C_drewN ?_ _) | (with_reducible refine Kd.C_drew ?_))); (case side2 => exact (Kd.R_reads' HO281.out).2.1); (case side3 => repeat (first | exact (Kd.R_reads' HO275.out).2.2 | (with_reducible refine Kd.C_alloc ?_ _) | (with_reducible refine Kd.C_drewN ?_ _) | (with_reducible refine Kd.C_drew ?_))); (case side4 => exact (Kd.R_reads' HO275.out).2.1); rintro e w26 ⟨rfl, hb⟩; refine ⟨_, rfl, ?_⟩; have n0_ := am (Kd.R_below (kqR HO272.out) hb); have n1_ := am (Kd.R_below (kqR HO275.out) hb); have n2_ := am (Kd.R_below (kqR HO278.out) hb); have n3_ := am (Kd.R_below (kqR HO281.out) hb); have n4_ := am (below_step (bq HB.out) hb); clear HO272; clear HO275; clear HO278; clear HO281; clear HB; have HO272 := n0_; have HO275 := n1_; have HO278 := n2_; have HO281 := n3_; have HB := n4_; clear n0_ n1_ n2_ n3_ n4_; (try clear hb); (try clear hb2); (try clear hk); (try clear hi)) | ((with_reducible refine gate_callee (f := 21) rfl ?_); refine goesL_ (some 41) rfl rfl Try.func21 (by kernel_rfl) rfl #[.slice A0 l0.length c0] rfl (by (try simp only [List.map_toArray, List.map_cons, List.map_nil]); first | done | rfl | (simp only [List.length_drop, List.length_take]; rfl)) ?_; (with_reducible refine (laws_toFentS.calls k _ _ l0 t283 _ ?side1 ?side2 A13.out).mono ?_); (case side1 => exact cq (Kd.C_below HR0.out HB.out)); (case side2 => exact HC0.out); rintro e w27 ⟨v284, rfl, ho0, hb⟩; refine ⟨_, rfl, ?_⟩; have n0_ := am (Kd.R_elder' (kqR HO272.out) (Kd.R_base ho0) hb); have n1_ := am (Kd.R_elder' (kqR HO275.out) (Kd.R_base ho0) hb); have n2_ := am (Kd.R_elder' (kqR HO278.out) (Kd.R_base ho0) hb); have n3_ := am (Kd.R_elder' (kqR HO281.out) (Kd.R_base ho0) hb); have n4_ := am (Kd.R_lower (Kd.R_new' (Kd.R_new' (Kd.R_new' (Kd.R_new' ho0 (Kd.R_lt (kqR HO272.out))) (Kd.R_lt (kqR HO275.out))) (Kd.R_lt (kqR HO278.out))) (Kd.R_lt (kqR HO281.out))) (below_size (bq HB.out))); have n5_ := am (below_step (bq HB.out) hb); clear HO272; clear HO275; clear HO278; clear HO281; clear HB; have HO272 := n0_; have HO275 := n1_; have HO278 := n2_; have HO281 := n3_; have HO285 := n4_; have HB := n5_; clear n0_ n1_ n2_ n3_ n4_ n5_; (try clear hb); (try clear hb2); (try clear hk); (try clear hi); (try clear ho0); obtain ⟨Ao28, co28, eo28⟩ := Kd.R_slice HO285.out; subst eo28) | ((with_reducible refine gate_callee (f := 23) rfl ?_); refine goesL_ (some 42) rfl rfl Try.func23 (by kernel_rfl) rfl #[.slice Ao22 t276.length co22, .slice Ao28 t283.length co28] rfl (by (try simp only [List.map_toArray, List.map_cons, List.map_nil]); first | done | rfl | (simp only [List.length_drop, List.length_take]; rfl)) ?_; (with_reducible refine (laws_eqFentS.calls k _ _ t276 _ _ t283 true _ ?side1 ?side2 ?side3 ?side4 A14.out).mono ?_); (case side1 => repeat (first | exact (Kd.R_reads' HO278.out).2.2 | (with_reducible refine Kd.C_alloc ?_ _) | (with_reducible refine Kd.C_drewN ?_ _) | (with_reducible refine Kd.C_drew ?_))); (case side2 => exact (Kd.R_reads' HO278.out).2.1); (case side3 => repeat (first | exact (Kd.R_reads' HO285.out).2.2 | (with_reducible refine Kd.C_alloc ?_ _) | (with_reducible refine Kd.C_drewN ?_ _) | (with_reducible refine Kd.C_drew ?_))); (case side4 => exact (Kd.R_reads' HO285.out).2.1); rintro e w29 ⟨rfl, hb⟩; refine ⟨_, rfl, ?_⟩; have n0_ := am (Kd.R_below (kqR HO272.out) hb); have n1_ := am (Kd.R_below (kqR HO275.out) hb); have n2_ := am (Kd.R_below (kqR HO278.out) hb); have n3_ := am (Kd.R_below (kqR HO281.out) hb); have n4_ := am (Kd.R_below (kqR HO285.out) hb); have n5_ := am (below_step (bq HB.out) hb); clear HO272; clear HO275; clear HO278; clear HO281; clear HO285; clear HB; have HO272 := n0_; have HO275 := n1_; have HO278 := n2_; have HO281 := n3_; have HO285 := n4_; have HB := n5_; clear n0_ n1_ n2_ n3_ n4_ n5_; (try clear hb); (try clear hb2); (try clear hk); (try clear hi)) | ((with_reducible refine gate_callee (f := 24) rfl ?_); refine goesL_ (some 46) rfl rfl Try.func24 (by kernel_rfl) rfl #[.slice Ao22 t276.length co22, .int .i64 1] rfl (by (try simp only [List.map_toArray, List.map_cons, List.map_nil]); first | done | rfl | (simp only [List.length_drop, List.length_take]; rfl)) ?_; (with_reducible refine (laws_markFentS.calls k (fun k_ => some k_ = (.slice Ao22 t276.length co22 : Value).ownBlock) (.slice Ao22 t276.length co22) t276 1 t287 t288 w _ ?side1 ?side2 A16.out).mono ?_); (case side1 => repeat (first | (with_reducible first | exact HB.out | apply below_alloc | apply pw_below_drewN | apply below_drew1) | exact HB.out)); (case side2 => exact Kd.R_tight rfl HO278.out); rintro e w30 ⟨rfl, hy0, hb, hkp⟩; refine ⟨_, rfl, ?_⟩; have n0_ := am (Kd.R_mono (ok' := fun k_ => some k_ ≠ (.slice Ao25 t273.length co25 : Value).ownBlock ∧ some k_ ≠ (.slice Ao22 t276.length co22 : Value).ownBlock ∧ some k_ ≠ (.slice Ao24 t279.length co24 : Value).ownBlock ∧ some k_ ≠ (.slice Ao28 t283.length co28 : Value).ownBlock) (Kd.R_keptB (HO272.out) hkp (fun k_ hk_ hs_ => (hk_.1.1.2) hs_)) (fun k_ hk_ => ⟨hk_.1.1.1.1.2, hk_.1.1.1.2, hk_.1.1.2, hk_.1.2⟩)); have n1_ := am (Kd.R_mono (ok' := fun k_ => some k_ ≠ (.slice Ao19 t270.length co19 : Value).ownBlock ∧ some k_ ≠ (.slice Ao22 t276.length co22 : Value).ownBlock ∧ some k_ ≠ (.slice Ao24 t279.length co24 : Value).ownBlock ∧ some k_ ≠ (.slice Ao28 t283.length co28 : Value).ownBlock) (Kd.R_keptB (HO275.out) hkp (fun k_ hk_ hs_ => (hk_.1.1.2) hs_)) (fun k_ hk_ => ⟨hk_.1.1.1.1.2, hk_.1.1.1.2, hk_.1.1.2, hk_.1.2⟩)); have n2_ := am (Kd.R_reok rfl hy0 (fun k_ e_ => HO278.out.1 k_ e_)); have n3_ := am (Kd.R_mono (ok' := fun k_ => some k_ ≠ (.slice Ao19 t270.length co19 : Value).ownBlock ∧ some k_ ≠ (.slice Ao25 t273.length co25 : Value).ownBlock ∧ some k_ ≠ (.slice Ao22 t276.length co22 : Value).ownBlock ∧ some k_ ≠ (.slice Ao28 t283.length co28 : Value).ownBlock) (Kd.R_keptB (HO281.out) hkp (fun k_ hk_ hs_ => (hk_.1.2) hs_)) (fun k_ hk_ => ⟨hk_.1.1.1.1.2, hk_.1.1.1.2, hk_.1.1.2, hk_.1.2⟩)); have n4_ := am (Kd.R_mono (ok' := fun k_ => some k_ ≠ (.slice Ao19 t270.length co19 : Value).ownBlock ∧ some k_ ≠ (.slice Ao25 t273.length co25 : Value).ownBlock ∧ some k_ ≠ (.slice Ao22 t276.length co22 : Value).ownBlock ∧ some k_ ≠ (.slice Ao24 t279.length co24 : Value).ownBlock) (Kd.R_keptB (HO285.out) hkp (fun k_ hk_ hs_ => (hk_.1.2) hs_)) (fun k_ hk_ => ⟨hk_.1.1.1.1.2, hk_.1.1.1.2, hk_.1.1.2, hk_.1.2⟩)); have n5_ := am (hb); clear HO272; clear HO275; clear HO278; clear HO281; clear HO285; clear HB; have HO272 := n0_; have HO275 := n1_; have HO278 := n2_; have HO281 := n3_; have HO285 := n4_; have HB := n5_; clear n0_ n1_ n2_ n3_ n4_ n5_; (try clear hb); (try clear hkp); (try clear hy0)))
        (try simp only [Act.put, List.setIfInBounds_toArray, List.set_cons_zero, List.set_cons_succ])
        go_cut [54] (fun v54 wc => ∃ (kq : Nat) (x54_16 : Bool), v54 = .bool x54_16 ∧ Aside0 (laws_FnExactLearn.j0 kq l0 a1 a2 a3 t273 t279 x54_16 = some r) ∧ Aside0 (kq ≤ k) ∧ Aside0 (Kd.R k44 44 wc w.heap.size (fun k_ => some k_ ≠ ((.slice Ao24 t279.length co24) : Value).ownBlock) (.slice Ao25 t273.length co25) t273) ∧ Aside0 (Kd.R k44 44 wc w.heap.size (fun k_ => some k_ ≠ ((.slice Ao25 t273.length co25) : Value).ownBlock) (.slice Ao24 t279.length co24) t279) ∧ Aside0 (Below w.heap.size w wc))
        case first =>
          have H := HC17.out
          clear HC17
          by_cases c31 : t287 < 0
          · rw [if_pos c31] at H
            have c31b0 : decide (t287 < 0) = true := decide_eq_true c31
            clear c31
            (first | rw [c31b0] | (simp only [i64_w, i32_w]; rw [c31b0]) | skip)
            have H' := am H
            clear H
            go_wp2
            go_meet
            case rel => exact ⟨_, (true), (by first | rfl | (simp; done) | (simp [*]; done)), H', ⟨by first | omega | exact Nat.le_refl _⟩, ⟨by (with_reducible repeat (first | apply Kd.R_alloc | apply Kd.R_drewN | apply Kd.R_drew)); exact Kd.R_mono HO275.out (fun _ hk => hk.2.2.1)⟩, ⟨by (with_reducible repeat (first | apply Kd.R_alloc | apply Kd.R_drewN | apply Kd.R_drew)); exact Kd.R_mono HO281.out (fun _ hk => hk.2.1)⟩, ⟨bq HB.out⟩⟩
          · rw [if_neg c31] at H
            have c31b0 : decide (t287 < 0) = false := decide_eq_false c31
            clear c31
            (first | rw [c31b0] | (simp only [i64_w, i32_w]; rw [c31b0]) | skip)
            replace H := Option.bind_eq_some_iff.mp H
            obtain ⟨t289, A320, H⟩ := H
            replace H : (laws_FnExactLearn.j0 k l0 a1 a2 a3 t273 t279 (!t289)) = some r := H
            have A32 := am A320
            clear A320
            have H' := am H
            clear H
            go_wp2_with (first | (go_at_call 23; (with_reducible refine (laws_eqFentS.calls k _ _ t279 _ _ t273 t289 _ ?side1 ?side2 ?side3 ?side4 A32.out).mono ?_); (case side1 => repeat (first | exact (Kd.R_reads' HO281.out).2.2 | (with_reducible refine Kd.C_alloc ?_ _) | (with_reducible refine Kd.C_drewN ?_ _) | (with_reducible refine Kd.C_drew ?_))); (case side2 => exact (Kd.R_reads' HO281.out).2.1); (case side3 => repeat (first | exact (Kd.R_reads' HO275.out).2.2 | (with_reducible refine Kd.C_alloc ?_ _) | (with_reducible refine Kd.C_drewN ?_ _) | (with_reducible refine Kd.C_drew ?_))); (case side4 => exact (Kd.R_reads' HO275.out).2.1); rintro e w33 ⟨rfl, hb⟩; have n0_ := am (Kd.R_below (kqR HO272.out) hb); have n1_ := am (Kd.R_below (kqR HO275.out) hb); have n2_ := am (Kd.R_below (kqR HO278.out) hb); have n3_ := am (Kd.R_below (kqR HO281.out) hb); have n4_ := am (Kd.R_below (kqR HO285.out) hb); have n5_ := am (below_step (bq HB.out) hb); clear HO272; clear HO275; clear HO278; clear HO281; clear HO285; clear HB; have HO272 := n0_; have HO275 := n1_; have HO278 := n2_; have HO281 := n3_; have HO285 := n4_; have HB := n5_; clear n0_ n1_ n2_ n3_ n4_ n5_; (try clear hb); (try clear hb2); (try clear hk); (try clear hi)))
            go_meet
            case rel => exact ⟨_, (!t289), (by first | rfl | (simp; done) | (simp [*]; done)), H', ⟨by first | omega | exact Nat.le_refl _⟩, ⟨by (with_reducible repeat (first | apply Kd.R_alloc | apply Kd.R_drewN | apply Kd.R_drew)); exact Kd.R_mono HO275.out (fun _ hk => hk.2.2.1)⟩, ⟨by (with_reducible repeat (first | apply Kd.R_alloc | apply Kd.R_drewN | apply Kd.R_drew)); exact Kd.R_mono HO281.out (fun _ hk => hk.2.1)⟩, ⟨bq HB.out⟩⟩
        case rest =>
          clear HC17
          try clear c1
          try clear c2
          try clear p2
          try clear c3
          try clear c6
          try clear c6b0
          try clear c12
          try clear c15
          try clear c19
          try clear c21
          try clear c23
          try clear c24
          try clear c28
          try clear c31
          try clear c31b0
          try clear c32
          obtain ⟨kq, x54_16, rfl, HA, HJ16, HO_10, HO_12, HB⟩ := hcut
          cases kq with
          | zero => exact absurd HA.out (by simp [laws_FnExactLearn.j0])
          | succ kj16 =>
            have H := HA.out
            clear HA
            simp only [laws_FnExactLearn.j0] at H
            by_cases c34 : x54_16 = true
            · subst c34
              have H1 : (some false) = some r := by rw [if_pos rfl] at H; exact H
              clear H
              have H := H1
              clear H1
              exact absurd ((Option.some.inj H).trans HRT.out) (by decide)
            · replace c34 := Bool.eq_false_iff.mpr c34
              subst c34
              have H1 : ((laws_markFentS.f kj16 t279 1).bind fun bt290 => ((laws_heldFentS.f kj16 bt290.2 1).bind fun t292 => (if t292 < 0 then (some false) else (if t292 = bt290.1 then ((laws_toFentS.f kj16 l0).bind fun t293 => ((impl_Learn.f kj16 t293 a1 a2 a3).bind fun t296 => ((laws_eqFentS.f kj16 t296 t273).bind fun t299 => (if t299 = true then ((laws_heldFentS.f kj16 bt290.2 1).bind fun t300 => (if t300 < 0 then (some false) else (if t300 = bt290.1 then (some true) else (some false)))) else (some false))))) else (some false))))) = some r := by rw [if_neg (show ¬ (false = true) by decide)] at H; exact H
              clear H
              have H := H1
              clear H1
              replace H := Option.bind_eq_some_iff.mp H
              obtain ⟨⟨t290, t291⟩, A350, H⟩ := H
              replace H : ((laws_heldFentS.f kj16 t291 1).bind fun t292 => (if t292 < 0 then (some false) else (if t292 = t290 then ((laws_toFentS.f kj16 l0).bind fun t293 => ((impl_Learn.f kj16 t293 a1 a2 a3).bind fun t296 => ((laws_eqFentS.f kj16 t296 t273).bind fun t299 => (if t299 = true then ((laws_heldFentS.f kj16 t291 1).bind fun t300 => (if t300 < 0 then (some false) else (if t300 = t290 then (some true) else (some false)))) else (some false))))) else (some false)))) = some r := H
              have A35 := am A350
              clear A350
              replace H := Option.bind_eq_some_iff.mp H
              obtain ⟨t292, A360, H⟩ := H
              replace H : (if t292 < 0 then (some false) else (if t292 = t290 then ((laws_toFentS.f kj16 l0).bind fun t293 => ((impl_Learn.f kj16 t293 a1 a2 a3).bind fun t296 => ((laws_eqFentS.f kj16 t296 t273).bind fun t299 => (if t299 = true then ((laws_heldFentS.f kj16 t291 1).bind fun t300 => (if t300 < 0 then (some false) else (if t300 = t290 then (some true) else (some false)))) else (some false))))) else (some false))) = some r := H
              have A36 := am A360
              clear A360
              by_cases c37 : t292 < 0
              · rw [if_pos c37] at H
                have c37b0 : decide (t292 < 0) = true := decide_eq_true c37
                clear c37
                exact absurd ((Option.some.inj H).trans HRT.out) (by decide)
              · rw [if_neg c37] at H
                have c37b0 : decide (t292 < 0) = false := decide_eq_false c37
                clear c37
                by_cases c38 : t292 = t290
                · rw [if_pos c38] at H
                  have c38b0 : (t292 == t290) = true := beq_iff_eq.mpr c38
                  have c38b1 : (t292 != t290) = false := bne_eq_false_iff_eq.mpr c38
                  clear c38
                  replace H := Option.bind_eq_some_iff.mp H
                  obtain ⟨t293, A390, H⟩ := H
                  replace H : ((impl_Learn.f kj16 t293 a1 a2 a3).bind fun t296 => ((laws_eqFentS.f kj16 t296 t273).bind fun t299 => (if t299 = true then ((laws_heldFentS.f kj16 t291 1).bind fun t300 => (if t300 < 0 then (some false) else (if t300 = t290 then (some true) else (some false)))) else (some false)))) = some r := H
                  have A39 := am A390
                  clear A390
                  replace H := Option.bind_eq_some_iff.mp H
                  obtain ⟨t296, A400, H⟩ := H
                  replace H : ((laws_eqFentS.f kj16 t296 t273).bind fun t299 => (if t299 = true then ((laws_heldFentS.f kj16 t291 1).bind fun t300 => (if t300 < 0 then (some false) else (if t300 = t290 then (some true) else (some false)))) else (some false))) = some r := H
                  have A40 := am A400
                  clear A400
                  replace H := Option.bind_eq_some_iff.mp H
                  obtain ⟨t299, A410, H⟩ := H
                  replace H : (if t299 = true then ((laws_heldFentS.f kj16 t291 1).bind fun t300 => (if t300 < 0 then (some false) else (if t300 = t290 then (some true) else (some false)))) else (some false)) = some r := H
                  have A41 := am A410
                  clear A410
                  by_cases c42 : t299 = true
                  · subst c42
                    have H1 : ((laws_heldFentS.f kj16 t291 1).bind fun t300 => (if t300 < 0 then (some false) else (if t300 = t290 then (some true) else (some false)))) = some r := by rw [if_pos rfl] at H; exact H
                    clear H
                    have H := H1
                    clear H1
                    replace H := Option.bind_eq_some_iff.mp H
                    obtain ⟨t300, A430, H⟩ := H
                    replace H : (if t300 < 0 then (some false) else (if t300 = t290 then (some true) else (some false))) = some r := H
                    have A43 := am A430
                    clear A430
                    by_cases c44 : t300 < 0
                    · rw [if_pos c44] at H
                      have c44b0 : decide (t300 < 0) = true := decide_eq_true c44
                      clear c44
                      exact absurd ((Option.some.inj H).trans HRT.out) (by decide)
                    · rw [if_neg c44] at H
                      have c44b0 : decide (t300 < 0) = false := decide_eq_false c44
                      clear c44
                      by_cases c45 : t300 = t290
                      · rw [if_pos c45] at H
                        have c45b0 : (t300 == t290) = true := beq_iff_eq.mpr c45
                        have c45b1 : (t300 != t290) = false := bne_eq_false_iff_eq.mpr c45
                        clear c45
                        obtain rfl := Option.some.inj H
                        go_wp2_with (first | ((with_reducible refine gate_callee (f := 24) rfl ?_); refine goesL_ (some 57) rfl rfl Try.func24 (by kernel_rfl) rfl #[.slice Ao24 t279.length co24, .int .i64 1] rfl (by (try simp only [List.map_toArray, List.map_cons, List.map_nil]); first | done | rfl | (simp only [List.length_drop, List.length_take]; rfl)) ?_; (with_reducible refine (laws_markFentS.calls kj16 (fun k_ => some k_ = (.slice Ao24 t279.length co24 : Value).ownBlock) (.slice Ao24 t279.length co24) t279 1 t290 t291 w _ ?side1 ?side2 A35.out).mono ?_); (case side1 => repeat (first | (with_reducible first | exact HB.out | apply below_alloc | apply pw_below_drewN | apply below_drew1) | exact HB.out)); (case side2 => exact Kd.R_tight rfl HO_12.out); rintro e w46 ⟨rfl, hy0, hb, hkp⟩; refine ⟨_, rfl, ?_⟩; have n0_ := am (Kd.R_mono (ok' := fun k_ => some k_ ≠ (.slice Ao24 t279.length co24 : Value).ownBlock) (Kd.R_keptB (HO_10.out) hkp (fun k_ hk_ hs_ => (hk_) hs_)) (fun k_ hk_ => hk_.1)); have n1_ := am (Kd.R_reok rfl hy0 (fun k_ e_ => HO_12.out.1 k_ e_)); have n2_ := am (hb); clear HO_10; clear HO_12; clear HB; have HO_10 := n0_; have HO_12 := n1_; have HB := n2_; clear n0_ n1_ n2_; (try clear hb); (try clear hkp); (try clear hy0)) | ((with_reducible refine gate_callee (f := 25) rfl ?_); refine goesL_ (some 60) rfl rfl Try.func25 (by kernel_rfl) rfl #[.slice Ao24 t291.length co24, .int .i64 1] rfl (by (try simp only [List.map_toArray, List.map_cons, List.map_nil]); first | done | (rw [show t291.length = t279.length from (Kd.R_reads' HO_12.out).1.symm] <;> rfl) | rfl | (simp only [List.length_drop, List.length_take]; rfl)) ?_; (with_reducible refine (laws_heldFentS.calls kj16 _ _ t291 1 t292 _ ?side1 ?side2 A36.out).mono ?_); (case side1 => repeat (first | exact (Kd.R_reads' HO_12.out).2.2 | (with_reducible refine Kd.C_alloc ?_ _) | (with_reducible refine Kd.C_drewN ?_ _) | (with_reducible refine Kd.C_drew ?_))); (case side2 => rw [show t291.length = t279.length from (Kd.R_reads' HO_12.out).1.symm]; exact (Kd.R_reads' HO_12.out).2.1); rintro e w' ⟨rfl, ⟨nd, rfl⟩⟩; refine ⟨_, rfl, ?_⟩) | ((with_reducible refine gate_callee (f := 21) rfl ?_); refine goesL_ (some 67) rfl rfl Try.func21 (by kernel_rfl) rfl #[.slice A0 l0.length c0] rfl (by (try simp only [List.map_toArray, List.map_cons, List.map_nil]); first | done | rfl | (simp only [List.length_drop, List.length_take]; rfl)) ?_; (with_reducible refine (laws_toFentS.calls kj16 _ _ l0 t293 _ ?side1 ?side2 A39.out).mono ?_); (case side1 => exact cq (Kd.C_below HR0.out (bq HB.out))); (case side2 => exact HC0.out); rintro e w47 ⟨v294, rfl, ho0, hb⟩; refine ⟨_, rfl, ?_⟩; have n0_ := am (Kd.R_elder' (kqR HO_10.out) (Kd.R_base ho0) hb); have n1_ := am (Kd.R_elder' (kqR HO_12.out) (Kd.R_base ho0) hb); have n2_ := am (Kd.R_lower (Kd.R_new' (Kd.R_new' ho0 (Kd.R_lt (kqR HO_10.out))) (Kd.R_lt (kqR HO_12.out))) (below_size (bq HB.out))); have n3_ := am (below_step (bq HB.out) hb); clear HO_10; clear HO_12; clear HB; have HO_10 := n0_; have HO_12 := n1_; have HO295 := n2_; have HB := n3_; clear n0_ n1_ n2_ n3_; (try clear hb); (try clear hb2); (try clear hk); (try clear hi); (try clear ho0); obtain ⟨Ao48, co48, eo48⟩ := Kd.R_slice HO295.out; subst eo48) | ((with_reducible refine gate_callee (f := 28) rfl ?_); refine goesL_ (some 71) rfl rfl Try.func28 (by kernel_rfl) rfl #[.slice Ao48 t293.length co48, .int .i64 a1, .int .i64 a2, .int .i64 a3] rfl (by (try simp only [List.map_toArray, List.map_cons, List.map_nil]); first | done | rfl | (simp only [List.length_drop, List.length_take]; rfl)) ?_; (with_reducible refine (impl_Learn.calls kj16 _ _ t293 a1 a2 a3 t296 _ ?side1 ?side2 A40.out).mono ?_); (case side1 => repeat (first | exact (Kd.R_reads' HO295.out).2.2 | (with_reducible refine Kd.C_alloc ?_ _) | (with_reducible refine Kd.C_drewN ?_ _) | (with_reducible refine Kd.C_drew ?_))); (case side2 => exact (Kd.R_reads' HO295.out).2.1); rintro e w49 ⟨v297, rfl, ho0, hb⟩; refine ⟨_, rfl, ?_⟩; have n0_ := am (Kd.R_elder' (kqR HO_10.out) (Kd.R_base ho0) hb); have n1_ := am (Kd.R_elder' (kqR HO_12.out) (Kd.R_base ho0) hb); have n2_ := am (Kd.R_elder' (kqR HO295.out) (Kd.R_base ho0) hb); have n3_ := am (Kd.R_lower (Kd.R_new' (Kd.R_new' (Kd.R_new' ho0 (Kd.R_lt (kqR HO_10.out))) (Kd.R_lt (kqR HO_12.out))) (Kd.R_lt (kqR HO295.out))) (below_size (bq HB.out))); have n4_ := am (below_step (bq HB.out) hb); clear HO_10; clear HO_12; clear HO295; clear HB; have HO_10 := n0_; have HO_12 := n1_; have HO295 := n2_; have HO298 := n3_; have HB := n4_; clear n0_ n1_ n2_ n3_ n4_; (try clear hb); (try clear hb2); (try clear hk); (try clear hi); (try clear ho0); obtain ⟨Ao50, co50, eo50⟩ := Kd.R_slice HO298.out; subst eo50) | ((with_reducible refine gate_callee (f := 23) rfl ?_); refine goesL_ (some 74) rfl rfl Try.func23 (by kernel_rfl) rfl #[.slice Ao50 t296.length co50, .slice Ao25 t273.length co25] rfl (by (try simp only [List.map_toArray, List.map_cons, List.map_nil]); first | done | rfl | (simp only [List.length_drop, List.length_take]; rfl)) ?_; (with_reducible refine (laws_eqFentS.calls kj16 _ _ t296 _ _ t273 true _ ?side1 ?side2 ?side3 ?side4 A41.out).mono ?_); (case side1 => repeat (first | exact (Kd.R_reads' HO298.out).2.2 | (with_reducible refine Kd.C_alloc ?_ _) | (with_reducible refine Kd.C_drewN ?_ _) | (with_reducible refine Kd.C_drew ?_))); (case side2 => exact (Kd.R_reads' HO298.out).2.1); (case side3 => repeat (first | exact (Kd.R_reads' HO_10.out).2.2 | (with_reducible refine Kd.C_alloc ?_ _) | (with_reducible refine Kd.C_drewN ?_ _) | (with_reducible refine Kd.C_drew ?_))); (case side4 => exact (Kd.R_reads' HO_10.out).2.1); rintro e w51 ⟨rfl, hb⟩; refine ⟨_, rfl, ?_⟩; have n0_ := am (Kd.R_below (kqR HO_10.out) hb); have n1_ := am (Kd.R_below (kqR HO_12.out) hb); have n2_ := am (Kd.R_below (kqR HO295.out) hb); have n3_ := am (Kd.R_below (kqR HO298.out) hb); have n4_ := am (below_step (bq HB.out) hb); clear HO_10; clear HO_12; clear HO295; clear HO298; clear HB; have HO_10 := n0_; have HO_12 := n1_; have HO295 := n2_; have HO298 := n3_; have HB := n4_; clear n0_ n1_ n2_ n3_ n4_; (try clear hb); (try clear hb2); (try clear hk); (try clear hi)) | ((with_reducible refine gate_callee (f := 25) rfl ?_); refine goesL_ (some 78) rfl rfl Try.func25 (by kernel_rfl) rfl #[.slice Ao24 t291.length co24, .int .i64 1] rfl (by (try simp only [List.map_toArray, List.map_cons, List.map_nil]); first | done | (rw [show t291.length = t279.length from (Kd.R_reads' HO_12.out).1.symm] <;> rfl) | rfl | (simp only [List.length_drop, List.length_take]; rfl)) ?_; (with_reducible refine (laws_heldFentS.calls kj16 _ _ t291 1 t300 _ ?side1 ?side2 A43.out).mono ?_); (case side1 => repeat (first | exact (Kd.R_reads' HO_12.out).2.2 | (with_reducible refine Kd.C_alloc ?_ _) | (with_reducible refine Kd.C_drewN ?_ _) | (with_reducible refine Kd.C_drew ?_))); (case side2 => rw [show t291.length = t279.length from (Kd.R_reads' HO_12.out).1.symm]; exact (Kd.R_reads' HO_12.out).2.1); rintro e w' ⟨rfl, ⟨nd, rfl⟩⟩; refine ⟨_, rfl, ?_⟩))
                        go_ret
                        exact ⟨by first | rfl | (simp [errW_none, errW_some] <;> rfl) | (simp [*, errW_none, errW_some] <;> rfl), bq HB.out⟩
                      · rw [if_neg c45] at H
                        have c45b0 : (t300 == t290) = false := beq_eq_false_iff_ne.mpr c45
                        have c45b1 : (t300 != t290) = true := bne_iff_ne.mpr c45
                        exact absurd ((Option.some.inj H).trans HRT.out) (by decide)
                  · replace c42 := Bool.eq_false_iff.mpr c42
                    subst c42
                    have H1 : (some false) = some r := by rw [if_neg (show ¬ (false = true) by decide)] at H; exact H
                    clear H
                    have H := H1
                    clear H1
                    exact absurd ((Option.some.inj H).trans HRT.out) (by decide)
                · rw [if_neg c38] at H
                  have c38b0 : (t292 == t290) = false := beq_eq_false_iff_ne.mpr c38
                  have c38b1 : (t292 != t290) = true := bne_iff_ne.mpr c38
                  exact absurd ((Option.some.inj H).trans HRT.out) (by decide)
      · replace c15 := Bool.eq_false_iff.mpr c15
        subst c15
        have H1 : (some false) = some r := by rw [if_neg (show ¬ (false = true) by decide)] at H; exact H
        clear H
        have H := H1
        clear H1
        exact absurd ((Option.some.inj H).trans HRT.out) (by decide)
    · replace c12 := Bool.eq_false_iff.mpr c12
      subst c12
      have H1 : (some false) = some r := by rw [if_neg (show ¬ (false = true) by decide)] at H; exact H
      clear H
      have H := H1
      clear H1
      exact absurd ((Option.some.inj H).trans HRT.out) (by decide)

/-- THE ONE PURE STATEMENT of laws_FnExactLearn. -/
def wfS95 (x : S95) : Prop := (Lit.int .i64 x.f0).wf = true ∧ (Lit.int .i64 x.f1).wf = true ∧ (Lit.int .i64 x.f2).wf = true ∧ (Lit.int .i64 x.f3).wf = true
def laws_FnExactLearn.Pure : Prop := ∀ (l0 : List (S95)) (a1 : Int) (a2 : Int) (a3 : Int), l0.length ≤ maxLen → (∀ y ∈ l0, wfS95 y) → (Lit.int .i64 a1).wf = true → (Lit.int .i64 a2).wf = true → (Lit.int .i64 a3).wf = true → ∃ k, laws_FnExactLearn.f k l0 a1 a2 a3 = some true

end Go.Proofs.Ytebffdmkfkfoaaa.XFnExactLearn
