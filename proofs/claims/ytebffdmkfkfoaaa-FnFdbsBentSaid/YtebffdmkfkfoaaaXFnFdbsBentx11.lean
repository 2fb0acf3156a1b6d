/- The functions that one law reaches, as Lean functions, with their walks: printed by a program of this seat (wip/tools) out of the translation. -/
import Derived.Test.YtebffdmkfkfoaaaXFnFdbsBentx0
import Derived.Test.YtebffdmkfkfoaaaXFnFdbsBentx2
import Derived.Test.YtebffdmkfkfoaaaXFnFdbsBentx3
import Derived.Test.YtebffdmkfkfoaaaXFnFdbsBentx4
import Derived.Test.YtebffdmkfkfoaaaXFnFdbsBentx5
namespace Go.Proofs.Ytebffdmkfkfoaaa.XFnFdbsBent
open Go.RowKit Go.Proofs.YtebffdmkfkfoaaaW.PrintWords Go.Proofs.YtebffdmkfkfoaaaW.PrintLast Go.Proofs.YtebffdmkfkfoaaaW.PrintMore
attribute [local go_sem] max2_int min2_int max_two min_two max_three min_three max_four min_four   -- for this text's walks alone
set_option linter.unusedVariables false
set_option linter.unusedSimpArgs false

/-! ### spec_Learn: function 32 -/
def spec_Learn.j0 : Nat → List (S44) → Bool → Int → Int → Int → Int → Bool → Option ((List (S44)))
 | 0, _, _, _, _, _, _, _ => none
 | k + 1, x0, x46, x253000, x253001, x253002, x253003, x253004 => if x46 = true then ((spec_l8Copy.f x0).bind fun t257 => (some t257)) else ((spec_l8Put.f k x0 x253000 x253001 x253002 x253003 x253004).bind fun t260 => (some t260))
def spec_Learn.f (k : Nat) (l0 : List (S44)) (a1 : Int) (a2 : Int) (a3 : Int) : Option ((List (S44))) := (spec_l8At.f k l0 a1 a2).bind fun t253 => ((spec_FdbOk.f k l0).bind fun t254 => (if t254 = true then ((spec_l8Ent.f a1 a2 a3 0 false).bind fun t255 => (if t255 = true then (if t253 ≥ 0 then (if 0 ≤ t253 then (if t253 < (l0.length : Int) then (if (rd_T44 l0 t253).f4 = true then (spec_Learn.j0 k l0 true a1 a2 a3 0 false) else (if t253 < 0 then (spec_Learn.j0 k l0 (decide ((l0.length : Int) ≥ 12)) a1 a2 a3 0 false) else (spec_Learn.j0 k l0 false a1 a2 a3 0 false))) else (none)) else (none)) else (if t253 < 0 then (spec_Learn.j0 k l0 (decide ((l0.length : Int) ≥ 12)) a1 a2 a3 0 false) else (spec_Learn.j0 k l0 false a1 a2 a3 0 false))) else (spec_Learn.j0 k l0 true a1 a2 a3 0 false))) else (spec_Learn.j0 k l0 true a1 a2 a3 0 false)))
theorem spec_Learn.mono_l : ∀ k, (∀ y0 y1 y2 y3 y4 y5 y6, LeO (spec_Learn.j0 k y0 y1 y2 y3 y4 y5 y6) (spec_Learn.j0 (k + 1) y0 y1 y2 y3 y4 y5 y6))
 | 0 => fun _ _ _ _ _ _ _ r h => by simp [spec_Learn.j0] at h
 | k + 1 => by
  have ih0 := spec_Learn.mono_l k
  intro y0 y1 y2 y3 y4 y5 y6
  unfold spec_Learn.j0
  repeat' first
  | (with_reducible exact ih0 _ _ _ _ _ _ _)
  | (with_reducible exact spec_FdbOk.mono _ _)
  | (with_reducible exact spec_l8At.mono _ _ _ _)
  | (with_reducible exact spec_l8Put.mono _ _ _ _ _ _ _)
  | (with_reducible exact LeO.refl _)
  | (with_reducible exact LeO.none _)
  | (with_reducible refine LeO.ite ?_ ?_)
  | (with_reducible refine LeO.bind ?_ (fun _ => ?_))
  | exact ih0 _ _ _ _ _ _ _
  | exact spec_FdbOk.mono _ _
  | exact spec_l8At.mono _ _ _ _
  | exact spec_l8Put.mono _ _ _ _ _ _ _
  | exact LeO.none _
  | refine LeO.ite ?_ ?_
  | refine LeO.bind ?_ (fun _ => ?_)
theorem spec_Learn.mono : ∀ a0 a1 a2 a3 k, LeO (spec_Learn.f k a0 a1 a2 a3) (spec_Learn.f (k + 1) a0 a1 a2 a3) := by
 intro a0 a1 a2 a3 k
 have ih0 := spec_Learn.mono_l k
 unfold spec_Learn.f
 repeat' first
  | (with_reducible exact ih0 _ _ _ _ _ _ _)
  | (with_reducible exact spec_FdbOk.mono _ _)
  | (with_reducible exact spec_l8At.mono _ _ _ _)
  | (with_reducible exact spec_l8Put.mono _ _ _ _ _ _ _)
  | (with_reducible exact LeO.refl _)
  | (with_reducible exact LeO.none _)
  | (with_reducible refine LeO.ite ?_ ?_)
  | (with_reducible refine LeO.bind ?_ (fun _ => ?_))
  | exact ih0 _ _ _ _ _ _ _
  | exact spec_FdbOk.mono _ _
  | exact spec_l8At.mono _ _ _ _
  | exact spec_l8Put.mono _ _ _ _ _ _ _
  | exact LeO.none _
  | refine LeO.ite ?_ ?_
  | refine LeO.bind ?_ (fun _ => ?_)
set_option maxHeartbeats 8000000 in
set_option maxRecDepth 100000 in
theorem spec_Learn.calls (k : Nat) (A0 : Option Addr) (c0 : Nat) (l0 : List (S44)) (a1 : Int) (a2 : Int) (a3 : Int) (r : List (S44)) (w : World) (hr0 : Kd.C k44 w A0 l0.length l0) (hc0 : l0.length ≤ c0) (h : spec_Learn.f k l0 a1 a2 a3 = some r) :
 Calls Try.prog 32 #[.slice A0 l0.length c0, .int .i64 a1, .int .i64 a2, .int .i64 a3] w fun e w' => ∃ v0_ : Value, e = .returned (v0_) ∧ Kd.R k44 44 w' w.heap.size (fun _ => True) v0_ r ∧ Below w.heap.size w w' := by
 have hu44 := Try.underlying44
 have HR0 := am hr0
 have HC0 := am hc0
 clear hr0 hc0
 have HB := am (Below.refl w.heap.size w)
 have H : ((spec_l8At.f k l0 a1 a2).bind fun t253 => ((spec_FdbOk.f k l0).bind fun t254 => (if t254 = true then ((spec_l8Ent.f a1 a2 a3 0 false).bind fun t255 => (if t255 = true then (if t253 ≥ 0 then (if 0 ≤ t253 then (if t253 < (l0.length : Int) then (if (rd_T44 l0 t253).f4 = true then (spec_Learn.j0 k l0 true a1 a2 a3 0 false) else (if t253 < 0 then (spec_Learn.j0 k l0 (decide ((l0.length : Int) ≥ 12)) a1 a2 a3 0 false) else (spec_Learn.j0 k l0 false a1 a2 a3 0 false))) else (none)) else (none)) else (if t253 < 0 then (spec_Learn.j0 k l0 (decide ((l0.length : Int) ≥ 12)) a1 a2 a3 0 false) else (spec_Learn.j0 k l0 false a1 a2 a3 0 false))) else (spec_Learn.j0 k l0 true a1 a2 a3 0 false))) else (spec_Learn.j0 k l0 true a1 a2 a3 0 false)))) = some r := h
 clear h
 replace H := Option.bind_eq_some_iff.mp H
 obtain ⟨t253, A50, H⟩ := H
 replace H : ((spec_FdbOk.f k l0).bind fun t254 => (if t254 = true then ((spec_l8Ent.f a1 a2 a3 0 false).bind fun t255 => (if t255 = true then (if t253 ≥ 0 then (if 0 ≤ t253 then (if t253 < (l0.length : Int) then (if (rd_T44 l0 t253).f4 = true then (spec_Learn.j0 k l0 true a1 a2 a3 0 false) else (if t253 < 0 then (spec_Learn.j0 k l0 (decide ((l0.length : Int) ≥ 12)) a1 a2 a3 0 false) else (spec_Learn.j0 k l0 false a1 a2 a3 0 false))) else (none)) else (none)) else (if t253 < 0 then (spec_Learn.j0 k l0 (decide ((l0.length : Int) ≥ 12)) a1 a2 a3 0 false) else (spec_Learn.j0 k l0 false a1 a2 a3 0 false))) else (spec_Learn.j0 k l0 true a1 a2 a3 0 false))) else (spec_Learn.j0 k l0 true a1 a2 a3 0 false))) = some r := H
 have A5 := am A50
 clear A50
 have HC6 := am H
 clear H
 go_enter Try.func32, Try.ntmps32
 go_upto_region 3 with (first | ((with_reducible refine gate_dst (N := 9) rfl ?_); (try (refine gate_guard (by rfl) ?_; dsimp only)); refine box_event ?hg (N := 9) ?hd (cs := #[.int .i64 0, .int .i64 0, .int .i64 0, .int .i64 0, .bool false]) (t := 44) ?hr ?_; (case hd => rfl); (case hg => rfl); (case hr => exact gs); intro gb252 hg w7 hbox hb; have n_ := ak4 (below_step (bq HB.out) hb) hbox ((by rw [hg]; exact (below_size (bq HB.out)) : w.heap.size ≤ gb252)) ((by rw [hg]; exact (below_size (bq HB.out)) : w.heap.size ≤ gb252)); clear HB; obtain ⟨HB, BK252, GW252, GE252⟩ := n_; clear hb hbox hg; have hcz8_0 : w7.cell? ⟨gb252, 0, none⟩ = some (.int .i64 0) := (blk_cell BK252.out 0).trans rfl; have hcz8_1 : w7.cell? ⟨gb252, 1, none⟩ = some (.int .i64 0) := (blk_cell BK252.out 1).trans rfl; have hcz8_2 : w7.cell? ⟨gb252, 2, none⟩ = some (.int .i64 0) := (blk_cell BK252.out 2).trans rfl; have hcz8_3 : w7.cell? ⟨gb252, 3, none⟩ = some (.int .i64 0) := (blk_cell BK252.out 3).trans rfl; have hcz8_4 : w7.cell? ⟨gb252, 4, none⟩ = some (.bool false) := (blk_cell BK252.out 4).trans rfl; have hfz8_0 := blk_frozen BK252.out 0; have hfz8_1 := blk_frozen BK252.out 1; have hfz8_2 := blk_frozen BK252.out 2; have hfz8_3 := blk_frozen BK252.out 3; have hfz8_4 := blk_frozen BK252.out 4) | ((with_reducible refine gate_store (t := 44) (p := 9) rfl ?_); refine store_event (t := 44) (p := 9) (v := ?vo_w9) (w1 := (((((w7.setCell ⟨gb252, 0, none⟩ (.int .i64 a1)).setCell ⟨gb252, 1, none⟩ (.int .i64 a2)).setCell ⟨gb252, 2, none⟩ (.int .i64 a3)).setCell ⟨gb252, 3, none⟩ (.int .i64 0)).setCell ⟨gb252, 4, none⟩ (.bool false))) ?hg ?ho ?hn ?hr ?_; (case ho => rfl); (case hg => rfl); (case hn => rfl); (case hr => exact gs); intro w9 hw; have n0_ : Aside0 (w9.heap[gb252]? = some (.cells #[.int .i64 a1, .int .i64 a2, .int .i64 a3, .int .i64 0, .bool false] 44 (0, 0))) := ⟨(by rw [hw]; exact (by (with_reducible repeat (first | refine blk_drewN ?_ _ | refine blk_drew ?_ | refine blk_alloc ?_ _)); refine blk_put (cs := #[.int .i64 a1, .int .i64 a2, .int .i64 a3, .int .i64 0, .bool false]) ?_ 4 _ rfl; (with_reducible repeat (first | refine blk_drewN ?_ _ | refine blk_drew ?_ | refine blk_alloc ?_ _)); refine blk_put (cs := #[.int .i64 a1, .int .i64 a2, .int .i64 a3, .int .i64 0, .bool false]) ?_ 3 _ rfl; (with_reducible repeat (first | refine blk_drewN ?_ _ | refine blk_drew ?_ | refine blk_alloc ?_ _)); refine blk_put (cs := #[.int .i64 a1, .int .i64 a2, .int .i64 0, .int .i64 0, .bool false]) ?_ 2 _ rfl; (with_reducible repeat (first | refine blk_drewN ?_ _ | refine blk_drew ?_ | refine blk_alloc ?_ _)); refine blk_put (cs := #[.int .i64 a1, .int .i64 0, .int .i64 0, .int .i64 0, .bool false]) ?_ 1 _ rfl; (with_reducible repeat (first | refine blk_drewN ?_ _ | refine blk_drew ?_ | refine blk_alloc ?_ _)); refine blk_put (cs := #[.int .i64 0, .int .i64 0, .int .i64 0, .int .i64 0, .bool false]) ?_ 0 _ rfl; (with_reducible repeat (first | refine blk_drewN ?_ _ | refine blk_drew ?_ | refine blk_alloc ?_ _)); exact BK252.out))⟩; have n1_ : Aside0 (Below w.heap.size w w9) := ⟨(by rw [hw]; exact (bq1 HB.out GE252.out))⟩; clear hw; clear BK252; clear HB; have BK252 := n0_; have HB := n1_; clear n0_ n1_) | ((with_reducible refine gate_callee (f := 76) rfl ?_); refine goesL_ (some 18) rfl rfl Try.func76 (by kernel_rfl) rfl #[.slice A0 l0.length c0, .int .i64 a1, .int .i64 a2] rfl ga ?_; (with_reducible refine (spec_l8At.calls k _ _ l0 a1 a2 t253 _ ?side1 ?side2 A5.out).mono ?_); (case side1 => exact cq (Kd.C_below HR0.out HB.out)); (case side2 => exact HC0.out); rintro e w' ⟨rfl, ⟨nd, rfl⟩⟩; refine ⟨_, rfl, ?_⟩))
 (try simp only [Act.put, List.setIfInBounds_toArray, List.set_cons_zero, List.set_cons_succ])
 go_cut [46] (fun v46 wc => ∃ (kq : Nat) (x46_5 : Bool), v46 = .bool x46_5 ∧ Aside0 (spec_Learn.j0 kq l0 x46_5 a1 a2 a3 0 false = some r) ∧ Aside0 (kq ≤ k) ∧ Aside0 (wc.heap[gb252]? = some (.cells #[.int .i64 a1, .int .i64 a2, .int .i64 a3, .int .i64 0, .bool false] 44 (0, 0))) ∧ Aside0 (Below w.heap.size w wc))
 case first =>
  have H := HC6.out
  clear HC6
  replace H := Option.bind_eq_some_iff.mp H
  obtain ⟨t254, A100, H⟩ := H
  replace H : (if t254 = true then ((spec_l8Ent.f a1 a2 a3 0 false).bind fun t255 => (if t255 = true then (if t253 ≥ 0 then (if 0 ≤ t253 then (if t253 < (l0.length : Int) then (if (rd_T44 l0 t253).f4 = true then (spec_Learn.j0 k l0 true a1 a2 a3 0 false) else (if t253 < 0 then (spec_Learn.j0 k l0 (decide ((l0.length : Int) ≥ 12)) a1 a2 a3 0 false) else (spec_Learn.j0 k l0 false a1 a2 a3 0 false))) else (none)) else (none)) else (if t253 < 0 then (spec_Learn.j0 k l0 (decide ((l0.length : Int) ≥ 12)) a1 a2 a3 0 false) else (spec_Learn.j0 k l0 false a1 a2 a3 0 false))) else (spec_Learn.j0 k l0 true a1 a2 a3 0 false))) else (spec_Learn.j0 k l0 true a1 a2 a3 0 false)) = some r := H
  have A10 := am A100
  clear A100
  by_cases c11 : t254 = true
  · subst c11
    have H1 : ((spec_l8Ent.f a1 a2 a3 0 false).bind fun t255 => (if t255 = true then (if t253 ≥ 0 then (if 0 ≤ t253 then (if t253 < (l0.length : Int) then (if (rd_T44 l0 t253).f4 = true then (spec_Learn.j0 k l0 true a1 a2 a3 0 false) else (if t253 < 0 then (spec_Learn.j0 k l0 (decide ((l0.length : Int) ≥ 12)) a1 a2 a3 0 false) else (spec_Learn.j0 k l0 false a1 a2 a3 0 false))) else (none)) else (none)) else (if t253 < 0 then (spec_Learn.j0 k l0 (decide ((l0.length : Int) ≥ 12)) a1 a2 a3 0 false) else (spec_Learn.j0 k l0 false a1 a2 a3 0 false))) else (spec_Learn.j0 k l0 true a1 a2 a3 0 false))) = some r := by rw [if_pos rfl] at H; exact H
    clear H
    have H := H1
    clear H1
    replace H := Option.bind_eq_some_iff.mp H
    obtain ⟨t255, A120, H⟩ := H
    replace H : (if t255 = true then (if t253 ≥ 0 then (if 0 ≤ t253 then (if t253 < (l0.length : Int) then (if (rd_T44 l0 t253).f4 = true then (spec_Learn.j0 k l0 true a1 a2 a3 0 false) else (if t253 < 0 then (spec_Learn.j0 k l0 (decide ((l0.length : Int) ≥ 12)) a1 a2 a3 0 false) else (spec_Learn.j0 k l0 false a1 a2 a3 0 false))) else (none)) else (none)) else (if t253 < 0 then (spec_Learn.j0 k l0 (decide ((l0.length : Int) ≥ 12)) a1 a2 a3 0 false) else (spec_Learn.j0 k l0 false a1 a2 a3 0 false))) else (spec_Learn.j0 k l0 true a1 a2 a3 0 false)) = some r := H
    have A12 := am A120
    clear A120
    by_cases c13 : t255 = true
    · subst c13
      have H1 : (if t253 ≥ 0 then (if 0 ≤ t253 then (if t253 < (l0.length : Int) then (if (rd_T44 l0 t253).f4 = true then (spec_Learn.j0 k l0 true a1 a2 a3 0 false) else (if t253 < 0 then (spec_Learn.j0 k l0 (decide ((l0.length : Int) ≥ 12)) a1 a2 a3 0 false) else (spec_Learn.j0 k l0 false a1 a2 a3 0 false))) else (none)) else (none)) else (if t253 < 0 then (spec_Learn.j0 k l0 (decide ((l0.length : Int) ≥ 12)) a1 a2 a3 0 false) else (spec_Learn.j0 k l0 false a1 a2 a3 0 false))) = some r := by rw [if_pos rfl] at H; exact H
      clear H
      have H := H1
      clear H1
      by_cases c14 : t253 ≥ 0
      · rw [if_pos c14] at H
        have c14b0 : decide (0 ≤ t253) = true := decide_eq_true c14
        clear c14
        (first | rw [c14b0] | (simp only [i64_w, i32_w]; rw [c14b0]) | skip)
        by_cases c15 : 0 ≤ t253
        · rw [if_pos c15] at H
          have c15b0 : decide (0 ≤ t253) = true := decide_eq_true c15
          clear c15
          by_cases c16 : t253 < (l0.length : Int)
          · rw [if_pos c16] at H
            have c16b0 : decide (t253 < (l0.length : Int)) = true := decide_eq_true c16
            clear c16
            obtain ⟨bq17, hbq17⟩ : ∃ b_ : Bool, b_ = ((rd_T44 l0 t253).f4) := ⟨_, rfl⟩
            replace H : (if bq17 = true then (spec_Learn.j0 k l0 true a1 a2 a3 0 false) else (if t253 < 0 then (spec_Learn.j0 k l0 (decide ((l0.length : Int) ≥ 12)) a1 a2 a3 0 false) else (spec_Learn.j0 k l0 false a1 a2 a3 0 false))) = some r := by rw [← hbq17] at H; exact H
            have Nbq17 := am hbq17
            clear hbq17
            by_cases c18 : bq17 = true
            · subst c18
              have H1 : (spec_Learn.j0 k l0 true a1 a2 a3 0 false) = some r := by rw [if_pos rfl] at H; exact H
              clear H
              have H := H1
              clear H1
              have H' := am H
              clear H
              go_wp2_with (first | ((with_reducible refine gate_callee (f := 61) rfl ?_); refine goesL_ (some 20) rfl rfl Try.func61 (by kernel_rfl) rfl #[.slice A0 l0.length c0] rfl ga ?_; (with_reducible refine (spec_FdbOk.calls k _ _ l0 true _ ?side1 ?side2 A10.out).mono ?_); (case side1 => exact cq (Kd.C_below HR0.out HB.out)); (case side2 => exact HC0.out); rintro e w19 ⟨rfl, hb⟩; refine ⟨_, rfl, ?_⟩; have n_ := ak2 (blk_below (g := gb252) (o := .cells #[.int .i64 a1, .int .i64 a2, .int .i64 a3, .int .i64 0, .bool false] 44 (0, 0)) (zq BK252.out) hb) (below_step (bq1 HB.out GE252.out) hb); clear BK252 HB; obtain ⟨BK252, HB⟩ := n_; (try clear hb); have hcz20_0 : w19.cell? ⟨gb252, 0, none⟩ = some (.int .i64 a1) := (blk_cell BK252.out 0).trans rfl; have hcz20_1 : w19.cell? ⟨gb252, 1, none⟩ = some (.int .i64 a2) := (blk_cell BK252.out 1).trans rfl; have hcz20_2 : w19.cell? ⟨gb252, 2, none⟩ = some (.int .i64 a3) := (blk_cell BK252.out 2).trans rfl; have hcz20_3 : w19.cell? ⟨gb252, 3, none⟩ = some (.int .i64 0) := (blk_cell BK252.out 3).trans rfl; have hcz20_4 : w19.cell? ⟨gb252, 4, none⟩ = some (.bool false) := (blk_cell BK252.out 4).trans rfl; have hfz20_0 := blk_frozen BK252.out 0; have hfz20_1 := blk_frozen BK252.out 1; have hfz20_2 := blk_frozen BK252.out 2; have hfz20_3 := blk_frozen BK252.out 3; have hfz20_4 := blk_frozen BK252.out 4) | (go_at_call 75; (with_reducible refine (spec_l8Ent.calls a1 a2 a3 0 false true _ A12.out).mono ?_); rintro e w21 ⟨rfl, hb⟩; have n_ := ak2 (blk_below (g := gb252) (o := .cells #[.int .i64 a1, .int .i64 a2, .int .i64 a3, .int .i64 0, .bool false] 44 (0, 0)) (zq BK252.out) hb) (below_step (bq1 HB.out GE252.out) hb); clear BK252 HB; obtain ⟨BK252, HB⟩ := n_; (try clear hb); have p256 : 0 ≤ (t253 : Int) := oda; have q256 : t253 < (l0.length : Int) := oda; obtain ⟨ad256, e256, hx256_0, hx256_1, hx256_2, hx256_3, hx256_4⟩ := at_T44 HR0.out t253 p256 q256; (try rw [← Nbq17.out] at hx256_4); cases e256; replace hx256_0 := (HB.out.cell (World.block_lt_of_cell? w _ hx256_0)).trans hx256_0; replace hx256_1 := (HB.out.cell (World.block_lt_of_cell? w _ hx256_1)).trans hx256_1; replace hx256_2 := (HB.out.cell (World.block_lt_of_cell? w _ hx256_2)).trans hx256_2; replace hx256_3 := (HB.out.cell (World.block_lt_of_cell? w _ hx256_3)).trans hx256_3; replace hx256_4 := (HB.out.cell (World.block_lt_of_cell? w _ hx256_4)).trans hx256_4; replace p256 := eq_true p256; replace q256 := eq_true q256))
              go_meet
              case rel => exact ⟨_, (true), sq, H', ⟨by first | omega | exact Nat.le_refl _⟩, ⟨zq BK252.out⟩, ⟨bq1 HB.out GE252.out⟩⟩
            replace c18 := Bool.eq_false_iff.mpr c18
            subst c18
            have H1 : (if t253 < 0 then (spec_Learn.j0 k l0 (decide ((l0.length : Int) ≥ 12)) a1 a2 a3 0 false) else (spec_Learn.j0 k l0 false a1 a2 a3 0 false)) = some r := by rw [if_neg (show ¬ (false = true) by decide)] at H; exact H
            clear H
            have H := H1
            clear H1
            by_cases c22 : t253 < 0
            · rw [if_pos c22] at H
              have c22b0 : decide (t253 < 0) = true := decide_eq_true c22
              clear c22
              have H' := am H
              clear H
              go_wp2_with (first | ((with_reducible refine gate_callee (f := 61) rfl ?_); refine goesL_ (some 20) rfl rfl Try.func61 (by kernel_rfl) rfl #[.slice A0 l0.length c0] rfl ga ?_; (with_reducible refine (spec_FdbOk.calls k _ _ l0 true _ ?side1 ?side2 A10.out).mono ?_); (case side1 => exact cq (Kd.C_below HR0.out HB.out)); (case side2 => exact HC0.out); rintro e w23 ⟨rfl, hb⟩; refine ⟨_, rfl, ?_⟩; have n_ := ak2 (blk_below (g := gb252) (o := .cells #[.int .i64 a1, .int .i64 a2, .int .i64 a3, .int .i64 0, .bool false] 44 (0, 0)) (zq BK252.out) hb) (below_step (bq1 HB.out GE252.out) hb); clear BK252 HB; obtain ⟨BK252, HB⟩ := n_; (try clear hb); have hcz24_0 : w23.cell? ⟨gb252, 0, none⟩ = some (.int .i64 a1) := (blk_cell BK252.out 0).trans rfl; have hcz24_1 : w23.cell? ⟨gb252, 1, none⟩ = some (.int .i64 a2) := (blk_cell BK252.out 1).trans rfl; have hcz24_2 : w23.cell? ⟨gb252, 2, none⟩ = some (.int .i64 a3) := (blk_cell BK252.out 2).trans rfl; have hcz24_3 : w23.cell? ⟨gb252, 3, none⟩ = some (.int .i64 0) := (blk_cell BK252.out 3).trans rfl; have hcz24_4 : w23.cell? ⟨gb252, 4, none⟩ = some (.bool false) := (blk_cell BK252.out 4).trans rfl; have hfz24_0 := blk_frozen BK252.out 0; have hfz24_1 := blk_frozen BK252.out 1; have hfz24_2 := blk_frozen BK252.out 2; have hfz24_3 := blk_frozen BK252.out 3; have hfz24_4 := blk_frozen BK252.out 4) | (go_at_call 75; (with_reducible refine (spec_l8Ent.calls a1 a2 a3 0 false true _ A12.out).mono ?_); rintro e w25 ⟨rfl, hb⟩; have n_ := ak2 (blk_below (g := gb252) (o := .cells #[.int .i64 a1, .int .i64 a2, .int .i64 a3, .int .i64 0, .bool false] 44 (0, 0)) (zq BK252.out) hb) (below_step (bq1 HB.out GE252.out) hb); clear BK252 HB; obtain ⟨BK252, HB⟩ := n_; (try clear hb); have p256 : 0 ≤ (t253 : Int) := oda; have q256 : t253 < (l0.length : Int) := oda; obtain ⟨ad256, e256, hx256_0, hx256_1, hx256_2, hx256_3, hx256_4⟩ := at_T44 HR0.out t253 p256 q256; (try rw [← Nbq17.out] at hx256_4); cases e256; replace hx256_0 := (HB.out.cell (World.block_lt_of_cell? w _ hx256_0)).trans hx256_0; replace hx256_1 := (HB.out.cell (World.block_lt_of_cell? w _ hx256_1)).trans hx256_1; replace hx256_2 := (HB.out.cell (World.block_lt_of_cell? w _ hx256_2)).trans hx256_2; replace hx256_3 := (HB.out.cell (World.block_lt_of_cell? w _ hx256_3)).trans hx256_3; replace hx256_4 := (HB.out.cell (World.block_lt_of_cell? w _ hx256_4)).trans hx256_4; replace p256 := eq_true p256; replace q256 := eq_true q256))
              go_meet
              case rel => exact ⟨_, (decide ((l0.length : Int) ≥ 12)), sq, H', ⟨by first | omega | exact Nat.le_refl _⟩, ⟨zq BK252.out⟩, ⟨bq1 HB.out GE252.out⟩⟩
            rw [if_neg c22] at H
            have c22b0 : decide (t253 < 0) = false := decide_eq_false c22
            clear c22
            have H' := am H
            clear H
            go_wp2_with (first | ((with_reducible refine gate_callee (f := 61) rfl ?_); refine goesL_ (some 20) rfl rfl Try.func61 (by kernel_rfl) rfl #[.slice A0 l0.length c0] rfl ga ?_; (with_reducible refine (spec_FdbOk.calls k _ _ l0 true _ ?side1 ?side2 A10.out).mono ?_); (case side1 => exact cq (Kd.C_below HR0.out HB.out)); (case side2 => exact HC0.out); rintro e w26 ⟨rfl, hb⟩; refine ⟨_, rfl, ?_⟩; have n_ := ak2 (blk_below (g := gb252) (o := .cells #[.int .i64 a1, .int .i64 a2, .int .i64 a3, .int .i64 0, .bool false] 44 (0, 0)) (zq BK252.out) hb) (below_step (bq1 HB.out GE252.out) hb); clear BK252 HB; obtain ⟨BK252, HB⟩ := n_; (try clear hb); have hcz27_0 : w26.cell? ⟨gb252, 0, none⟩ = some (.int .i64 a1) := (blk_cell BK252.out 0).trans rfl; have hcz27_1 : w26.cell? ⟨gb252, 1, none⟩ = some (.int .i64 a2) := (blk_cell BK252.out 1).trans rfl; have hcz27_2 : w26.cell? ⟨gb252, 2, none⟩ = some (.int .i64 a3) := (blk_cell BK252.out 2).trans rfl; have hcz27_3 : w26.cell? ⟨gb252, 3, none⟩ = some (.int .i64 0) := (blk_cell BK252.out 3).trans rfl; have hcz27_4 : w26.cell? ⟨gb252, 4, none⟩ = some (.bool false) := (blk_cell BK252.out 4).trans rfl; have hfz27_0 := blk_frozen BK252.out 0; have hfz27_1 := blk_frozen BK252.out 1; have hfz27_2 := blk_frozen BK252.out 2; have hfz27_3 := blk_frozen BK252.out 3; have hfz27_4 := blk_frozen BK252.out 4) | (go_at_call 75; (with_reducible refine (spec_l8Ent.calls a1 a2 a3 0 false true _ A12.out).mono ?_); rintro e w28 ⟨rfl, hb⟩; have n_ := ak2 (blk_below (g := gb252) (o := .cells #[.int .i64 a1, .int .i64 a2, .int .i64 a3, .int .i64 0, .bool false] 44 (0, 0)) (zq BK252.out) hb) (below_step (bq1 HB.out GE252.out) hb); clear BK252 HB; obtain ⟨BK252, HB⟩ := n_; (try clear hb); have p256 : 0 ≤ (t253 : Int) := oda; have q256 : t253 < (l0.length : Int) := oda; obtain ⟨ad256, e256, hx256_0, hx256_1, hx256_2, hx256_3, hx256_4⟩ := at_T44 HR0.out t253 p256 q256; (try rw [← Nbq17.out] at hx256_4); cases e256; replace hx256_0 := (HB.out.cell (World.block_lt_of_cell? w _ hx256_0)).trans hx256_0; replace hx256_1 := (HB.out.cell (World.block_lt_of_cell? w _ hx256_1)).trans hx256_1; replace hx256_2 := (HB.out.cell (World.block_lt_of_cell? w _ hx256_2)).trans hx256_2; replace hx256_3 := (HB.out.cell (World.block_lt_of_cell? w _ hx256_3)).trans hx256_3; replace hx256_4 := (HB.out.cell (World.block_lt_of_cell? w _ hx256_4)).trans hx256_4; replace p256 := eq_true p256; replace q256 := eq_true q256))
            go_meet
            case rel => exact ⟨_, (false), sq, H', ⟨by first | omega | exact Nat.le_refl _⟩, ⟨zq BK252.out⟩, ⟨bq1 HB.out GE252.out⟩⟩
          rw [if_neg c16] at H
          exact absurd H (by simp)
        rw [if_neg c15] at H
        exact absurd H (by simp)
      rw [if_neg c14] at H
      have c14b0 : decide (0 ≤ t253) = false := decide_eq_false c14
      clear c14
      (first | rw [c14b0] | (simp only [i64_w, i32_w]; rw [c14b0]) | skip)
      by_cases c29 : t253 < 0
      · rw [if_pos c29] at H
        have c29b0 : decide (t253 < 0) = true := decide_eq_true c29
        clear c29
        have H' := am H
        clear H
        go_wp2_with (first | ((with_reducible refine gate_callee (f := 61) rfl ?_); refine goesL_ (some 20) rfl rfl Try.func61 (by kernel_rfl) rfl #[.slice A0 l0.length c0] rfl ga ?_; (with_reducible refine (spec_FdbOk.calls k _ _ l0 true _ ?side1 ?side2 A10.out).mono ?_); (case side1 => exact cq (Kd.C_below HR0.out HB.out)); (case side2 => exact HC0.out); rintro e w30 ⟨rfl, hb⟩; refine ⟨_, rfl, ?_⟩; have n_ := ak2 (blk_below (g := gb252) (o := .cells #[.int .i64 a1, .int .i64 a2, .int .i64 a3, .int .i64 0, .bool false] 44 (0, 0)) (zq BK252.out) hb) (below_step (bq1 HB.out GE252.out) hb); clear BK252 HB; obtain ⟨BK252, HB⟩ := n_; (try clear hb); have hcz31_0 : w30.cell? ⟨gb252, 0, none⟩ = some (.int .i64 a1) := (blk_cell BK252.out 0).trans rfl; have hcz31_1 : w30.cell? ⟨gb252, 1, none⟩ = some (.int .i64 a2) := (blk_cell BK252.out 1).trans rfl; have hcz31_2 : w30.cell? ⟨gb252, 2, none⟩ = some (.int .i64 a3) := (blk_cell BK252.out 2).trans rfl; have hcz31_3 : w30.cell? ⟨gb252, 3, none⟩ = some (.int .i64 0) := (blk_cell BK252.out 3).trans rfl; have hcz31_4 : w30.cell? ⟨gb252, 4, none⟩ = some (.bool false) := (blk_cell BK252.out 4).trans rfl; have hfz31_0 := blk_frozen BK252.out 0; have hfz31_1 := blk_frozen BK252.out 1; have hfz31_2 := blk_frozen BK252.out 2; have hfz31_3 := blk_frozen BK252.out 3; have hfz31_4 := blk_frozen BK252.out 4) | (go_at_call 75; (with_reducible refine (spec_l8Ent.calls a1 a2 a3 0 false true _ A12.out).mono ?_); rintro e w32 ⟨rfl, hb⟩; have n_ := ak2 (blk_below (g := gb252) (o := .cells #[.int .i64 a1, .int .i64 a2, .int .i64 a3, .int .i64 0, .bool false] 44 (0, 0)) (zq BK252.out) hb) (below_step (bq1 HB.out GE252.out) hb); clear BK252 HB; obtain ⟨BK252, HB⟩ := n_; (try clear hb)))
        go_meet
        case rel => exact ⟨_, (decide ((l0.length : Int) ≥ 12)), sq, H', ⟨by first | omega | exact Nat.le_refl _⟩, ⟨zq BK252.out⟩, ⟨bq1 HB.out GE252.out⟩⟩
      rw [if_neg c29] at H
      have c29b0 : decide (t253 < 0) = false := decide_eq_false c29
      clear c29
      have H' := am H
      clear H
      go_wp2_with (first | ((with_reducible refine gate_callee (f := 61) rfl ?_); refine goesL_ (some 20) rfl rfl Try.func61 (by kernel_rfl) rfl #[.slice A0 l0.length c0] rfl ga ?_; (with_reducible refine (spec_FdbOk.calls k _ _ l0 true _ ?side1 ?side2 A10.out).mono ?_); (case side1 => exact cq (Kd.C_below HR0.out HB.out)); (case side2 => exact HC0.out); rintro e w33 ⟨rfl, hb⟩; refine ⟨_, rfl, ?_⟩; have n_ := ak2 (blk_below (g := gb252) (o := .cells #[.int .i64 a1, .int .i64 a2, .int .i64 a3, .int .i64 0, .bool false] 44 (0, 0)) (zq BK252.out) hb) (below_step (bq1 HB.out GE252.out) hb); clear BK252 HB; obtain ⟨BK252, HB⟩ := n_; (try clear hb); have hcz34_0 : w33.cell? ⟨gb252, 0, none⟩ = some (.int .i64 a1) := (blk_cell BK252.out 0).trans rfl; have hcz34_1 : w33.cell? ⟨gb252, 1, none⟩ = some (.int .i64 a2) := (blk_cell BK252.out 1).trans rfl; have hcz34_2 : w33.cell? ⟨gb252, 2, none⟩ = some (.int .i64 a3) := (blk_cell BK252.out 2).trans rfl; have hcz34_3 : w33.cell? ⟨gb252, 3, none⟩ = some (.int .i64 0) := (blk_cell BK252.out 3).trans rfl; have hcz34_4 : w33.cell? ⟨gb252, 4, none⟩ = some (.bool false) := (blk_cell BK252.out 4).trans rfl; have hfz34_0 := blk_frozen BK252.out 0; have hfz34_1 := blk_frozen BK252.out 1; have hfz34_2 := blk_frozen BK252.out 2; have hfz34_3 := blk_frozen BK252.out 3; have hfz34_4 := blk_frozen BK252.out 4) | (go_at_call 75; (with_reducible refine (spec_l8Ent.calls a1 a2 a3 0 false true _ A12.out).mono ?_); rintro e w35 ⟨rfl, hb⟩; have n_ := ak2 (blk_below (g := gb252) (o := .cells #[.int .i64 a1, .int .i64 a2, .int .i64 a3, .int .i64 0, .bool false] 44 (0, 0)) (zq BK252.out) hb) (below_step (bq1 HB.out GE252.out) hb); clear BK252 HB; obtain ⟨BK252, HB⟩ := n_; (try clear hb)))
      go_meet
      case rel => exact ⟨_, (false), sq, H', ⟨by first | omega | exact Nat.le_refl _⟩, ⟨zq BK252.out⟩, ⟨bq1 HB.out GE252.out⟩⟩
    replace c13 := Bool.eq_false_iff.mpr c13
    subst c13
    have H1 : (spec_Learn.j0 k l0 true a1 a2 a3 0 false) = some r := by rw [if_neg (show ¬ (false = true) by decide)] at H; exact H
    clear H
    have H := H1
    clear H1
    have H' := am H
    clear H
    go_wp2_with (first | ((with_reducible refine gate_callee (f := 61) rfl ?_); refine goesL_ (some 20) rfl rfl Try.func61 (by kernel_rfl) rfl #[.slice A0 l0.length c0] rfl ga ?_; (with_reducible refine (spec_FdbOk.calls k _ _ l0 true _ ?side1 ?side2 A10.out).mono ?_); (case side1 => exact cq (Kd.C_below HR0.out HB.out)); (case side2 => exact HC0.out); rintro e w36 ⟨rfl, hb⟩; refine ⟨_, rfl, ?_⟩; have n_ := ak2 (blk_below (g := gb252) (o := .cells #[.int .i64 a1, .int .i64 a2, .int .i64 a3, .int .i64 0, .bool false] 44 (0, 0)) (zq BK252.out) hb) (below_step (bq1 HB.out GE252.out) hb); clear BK252 HB; obtain ⟨BK252, HB⟩ := n_; (try clear hb); have hcz37_0 : w36.cell? ⟨gb252, 0, none⟩ = some (.int .i64 a1) := (blk_cell BK252.out 0).trans rfl; have hcz37_1 : w36.cell? ⟨gb252, 1, none⟩ = some (.int .i64 a2) := (blk_cell BK252.out 1).trans rfl; have hcz37_2 : w36.cell? ⟨gb252, 2, none⟩ = some (.int .i64 a3) := (blk_cell BK252.out 2).trans rfl; have hcz37_3 : w36.cell? ⟨gb252, 3, none⟩ = some (.int .i64 0) := (blk_cell BK252.out 3).trans rfl; have hcz37_4 : w36.cell? ⟨gb252, 4, none⟩ = some (.bool false) := (blk_cell BK252.out 4).trans rfl; have hfz37_0 := blk_frozen BK252.out 0; have hfz37_1 := blk_frozen BK252.out 1; have hfz37_2 := blk_frozen BK252.out 2; have hfz37_3 := blk_frozen BK252.out 3; have hfz37_4 := blk_frozen BK252.out 4) | (go_at_call 75; (with_reducible refine (spec_l8Ent.calls a1 a2 a3 0 false false _ A12.out).mono ?_); rintro e w38 ⟨rfl, hb⟩; have n_ := ak2 (blk_below (g := gb252) (o := .cells #[.int .i64 a1, .int .i64 a2, .int .i64 a3, .int .i64 0, .bool false] 44 (0, 0)) (zq BK252.out) hb) (below_step (bq1 HB.out GE252.out) hb); clear BK252 HB; obtain ⟨BK252, HB⟩ := n_; (try clear hb)))
    go_meet
    case rel => exact ⟨_, (true), sq, H', ⟨by first | omega | exact Nat.le_refl _⟩, ⟨zq BK252.out⟩, ⟨bq1 HB.out GE252.out⟩⟩
  replace c11 := Bool.eq_false_iff.mpr c11
  subst c11
  have H1 : (spec_Learn.j0 k l0 true a1 a2 a3 0 false) = some r := by rw [if_neg (show ¬ (false = true) by decide)] at H; exact H
  clear H
  have H := H1
  clear H1
  have H' := am H
  clear H
  go_wp2_with (first | ((with_reducible refine gate_callee (f := 61) rfl ?_); refine goesL_ (some 20) rfl rfl Try.func61 (by kernel_rfl) rfl #[.slice A0 l0.length c0] rfl ga ?_; (with_reducible refine (spec_FdbOk.calls k _ _ l0 false _ ?side1 ?side2 A10.out).mono ?_); (case side1 => exact cq (Kd.C_below HR0.out HB.out)); (case side2 => exact HC0.out); rintro e w39 ⟨rfl, hb⟩; refine ⟨_, rfl, ?_⟩; have n_ := ak2 (blk_below (g := gb252) (o := .cells #[.int .i64 a1, .int .i64 a2, .int .i64 a3, .int .i64 0, .bool false] 44 (0, 0)) (zq BK252.out) hb) (below_step (bq1 HB.out GE252.out) hb); clear BK252 HB; obtain ⟨BK252, HB⟩ := n_; (try clear hb)))
  go_meet
  case rel => exact ⟨_, (true), sq, H', ⟨by first | omega | exact Nat.le_refl _⟩, ⟨zq BK252.out⟩, ⟨bq1 HB.out GE252.out⟩⟩
 case rest =>
  clear HC6
  try clear c1
  try clear q1
  try clear c2
  try clear p2
  try clear q2
  try clear hx2
  try clear c3
  try clear c6
  try clear c7
  try clear c11
  try clear c13
  try clear c14
  try clear c14b0
  try clear c15
  try clear c15b0
  try clear c16
  try clear c16b0
  try clear q17
  try clear c18
  try clear c22
  try clear c22b0
  try clear p25
  try clear q25
  try clear hx25
  try clear c29
  try clear c29b0
  try clear c32
  try clear hcz20_0
  try clear hcz20_1
  try clear hcz20_2
  try clear hcz20_3
  try clear hcz20_4
  try clear hcz24_0
  try clear hcz24_1
  try clear hcz24_2
  try clear hcz24_3
  try clear hcz24_4
  try clear hcz27_0
  try clear hcz27_1
  try clear hcz27_2
  try clear hcz27_3
  try clear hcz27_4
  try clear hcz31_0
  try clear hcz31_1
  try clear hcz31_2
  try clear hcz31_3
  try clear hcz31_4
  try clear hcz34_0
  try clear hcz34_1
  try clear hcz34_2
  try clear hcz34_3
  try clear hcz34_4
  try clear hcz37_0
  try clear hcz37_1
  try clear hcz37_2
  try clear hcz37_3
  try clear hcz37_4
  try clear hcz8_0
  try clear hcz8_1
  try clear hcz8_2
  try clear hcz8_3
  try clear hcz8_4
  try clear hfz20_0
  try clear hfz20_1
  try clear hfz20_2
  try clear hfz20_3
  try clear hfz20_4
  try clear hfz24_0
  try clear hfz24_1
  try clear hfz24_2
  try clear hfz24_3
  try clear hfz24_4
  try clear hfz27_0
  try clear hfz27_1
  try clear hfz27_2
  try clear hfz27_3
  try clear hfz27_4
  try clear hfz31_0
  try clear hfz31_1
  try clear hfz31_2
  try clear hfz31_3
  try clear hfz31_4
  try clear hfz34_0
  try clear hfz34_1
  try clear hfz34_2
  try clear hfz34_3
  try clear hfz34_4
  try clear hfz37_0
  try clear hfz37_1
  try clear hfz37_2
  try clear hfz37_3
  try clear hfz37_4
  try clear hfz8_0
  try clear hfz8_1
  try clear hfz8_2
  try clear hfz8_3
  try clear hfz8_4
  try clear hx256_0
  try clear hx256_1
  try clear hx256_2
  try clear hx256_3
  try clear hx256_4
  try clear p256
  try clear q256
  obtain ⟨kq, x46_5, rfl, HA, HJ5, BK252, HB⟩ := hcut
  cases kq with
  | zero => exact absurd HA.out (by simp [spec_Learn.j0])
  | succ kj5 =>
   have H := HA.out
   clear HA
   simp only [spec_Learn.j0] at H
   by_cases c40 : x46_5 = true
   · subst c40
     have H1 : ((spec_l8Copy.f l0).bind fun t257 => (some t257)) = some r := by rw [if_pos rfl] at H; exact H
     clear H
     have H := H1
     clear H1
     replace H := Option.bind_eq_some_iff.mp H
     obtain ⟨t257, A410, H⟩ := H
     replace H : (some t257) = some r := H
     have A41 := am A410
     clear A410
     obtain rfl := Option.some.inj H
     go_wp2_with (first | ((with_reducible refine gate_callee (f := 77) rfl ?_); refine goesL_ (some 48) rfl rfl Try.func77 (by kernel_rfl) rfl #[.slice A0 l0.length c0] rfl ga ?_; (with_reducible refine (spec_l8Copy.calls _ _ l0 t257 _ ?side1 ?side2 A41.out).mono ?_); (case side1 => exact cq (Kd.C_below HR0.out HB.out)); (case side2 => exact HC0.out); rintro e w42 ⟨v258, rfl, ho0, hb⟩; refine ⟨_, rfl, ?_⟩; have n_ := ak3 (Kd.R_lower (Kd.R_newB ho0 (g := gb252) (o := .cells #[.int .i64 a1, .int .i64 a2, .int .i64 a3, .int .i64 0, .bool false] 44 (0, 0)) (zq BK252.out)) (below_size (bq1 HB.out GE252.out))) (blk_below (g := gb252) (o := .cells #[.int .i64 a1, .int .i64 a2, .int .i64 a3, .int .i64 0, .bool false] 44 (0, 0)) (zq BK252.out) hb) (below_step (bq1 HB.out GE252.out) hb); clear BK252 HB; obtain ⟨HO259, BK252, HB⟩ := n_; (try clear hb ho0)))
     go_ret
     exact ⟨_, rq, by (with_reducible repeat (first | apply Kd.R_alloc | apply Kd.R_drewN | apply Kd.R_drew)); exact Kd.R_mono HO259.out (fun _ hk => trivial), bq1 HB.out GE252.out⟩
   replace c40 := Bool.eq_false_iff.mpr c40
   subst c40
   have H1 : ((spec_l8Put.f kj5 l0 a1 a2 a3 0 false).bind fun t260 => (some t260)) = some r := by rw [if_neg (show ¬ (false = true) by decide)] at H; exact H
   clear H
   have H := H1
   clear H1
   replace H := Option.bind_eq_some_iff.mp H
   obtain ⟨t260, A430, H⟩ := H
   replace H : (some t260) = some r := H
   have A43 := am A430
   clear A430
   obtain rfl := Option.some.inj H
   have hcz44_0 : wc.cell? ⟨gb252, 0, none⟩ = some (.int .i64 a1) := (blk_cell BK252.out 0).trans rfl
   have hcz44_1 : wc.cell? ⟨gb252, 1, none⟩ = some (.int .i64 a2) := (blk_cell BK252.out 1).trans rfl
   have hcz44_2 : wc.cell? ⟨gb252, 2, none⟩ = some (.int .i64 a3) := (blk_cell BK252.out 2).trans rfl
   have hcz44_3 : wc.cell? ⟨gb252, 3, none⟩ = some (.int .i64 0) := (blk_cell BK252.out 3).trans rfl
   have hcz44_4 : wc.cell? ⟨gb252, 4, none⟩ = some (.bool false) := (blk_cell BK252.out 4).trans rfl
   have hfz44_0 := blk_frozen BK252.out 0
   have hfz44_1 := blk_frozen BK252.out 1
   have hfz44_2 := blk_frozen BK252.out 2
   have hfz44_3 := blk_frozen BK252.out 3
   have hfz44_4 := blk_frozen BK252.out 4
   go_wp2_with (first | ((with_reducible refine gate_callee (f := 78) rfl ?_); refine goesL_ (some 51) rfl rfl Try.func78 (by kernel_rfl) rfl #[.slice A0 l0.length c0, .agg #[.int .i64 a1, .int .i64 a2, .int .i64 a3, .int .i64 0, .bool false]] rfl ga ?_; (with_reducible refine (spec_l8Put.calls kj5 _ _ l0 a1 a2 a3 0 false t260 _ ?side1 ?side2 A43.out).mono ?_); (case side1 => exact cq (Kd.C_below HR0.out HB.out)); (case side2 => exact HC0.out); rintro e w45 ⟨v261, rfl, ho0, hb⟩; refine ⟨_, rfl, ?_⟩; have n_ := ak3 (Kd.R_lower (Kd.R_newB ho0 (g := gb252) (o := .cells #[.int .i64 a1, .int .i64 a2, .int .i64 a3, .int .i64 0, .bool false] 44 (0, 0)) (zq BK252.out)) (below_size (bq1 HB.out GE252.out))) (blk_below (g := gb252) (o := .cells #[.int .i64 a1, .int .i64 a2, .int .i64 a3, .int .i64 0, .bool false] 44 (0, 0)) (zq BK252.out) hb) (below_step (bq1 HB.out GE252.out) hb); clear BK252 HB; obtain ⟨HO262, BK252, HB⟩ := n_; (try clear hb ho0)))
   go_ret
   exact ⟨_, rq, by (with_reducible repeat (first | apply Kd.R_alloc | apply Kd.R_drewN | apply Kd.R_drew)); exact Kd.R_mono HO262.out (fun _ hk => trivial), bq1 HB.out GE252.out⟩

/-! ### impl_FlushPort: function 38 -/
def impl_FlushPort.l0 : Nat → Int → List (S44) → List (S44) → Int → Int → Option ((List (S44)))
 | 0, _, _, _, _, _ => none
 | k + 1, x1, x5, x8, x9, x10 => if x10 < x9 then (if 0 ≤ x10 then (if x10 < (x8.length : Int) then (if (rd_T44 x8 x10).f4 = true then (if x5.length < 3518437208883 then (impl_FlushPort.l0 k x1 (x5 ++ [(⟨(rd_T44 x8 x10).f0, (rd_T44 x8 x10).f1, (rd_T44 x8 x10).f2, (rd_T44 x8 x10).f3, (rd_T44 x8 x10).f4⟩ : S44)]) x8 x9 (wrap64 (x10 + 1))) else (none)) else (if ((rd_T44 x8 x10).f2) = x1 then (impl_FlushPort.l0 k x1 x5 x8 x9 (wrap64 (x10 + 1))) else (if x5.length < 3518437208883 then (impl_FlushPort.l0 k x1 (x5 ++ [(⟨(rd_T44 x8 x10).f0, (rd_T44 x8 x10).f1, (rd_T44 x8 x10).f2, (rd_T44 x8 x10).f3, (rd_T44 x8 x10).f4⟩ : S44)]) x8 x9 (wrap64 (x10 + 1))) else (none)))) else (none)) else (none)) else (some x5)
def impl_FlushPort.f (k : Nat) (l0 : List (S44)) (a1 : Int) : Option ((List (S44))) := impl_FlushPort.l0 k a1 ([] : List (S44)) l0 (l0.length : Int) 0
theorem impl_FlushPort.mono_l : ∀ k, (∀ y0 y1 y2 y3 y4, LeO (impl_FlushPort.l0 k y0 y1 y2 y3 y4) (impl_FlushPort.l0 (k + 1) y0 y1 y2 y3 y4))
 | 0 => fun _ _ _ _ _ r h => by simp [impl_FlushPort.l0] at h
 | k + 1 => by
  have ih0 := impl_FlushPort.mono_l k
  intro y0 y1 y2 y3 y4
  unfold impl_FlushPort.l0
  repeat' first
  | (with_reducible exact ih0 _ _ _ _ _)
  | (with_reducible exact LeO.refl _)
  | (with_reducible exact LeO.none _)
  | (with_reducible refine LeO.ite ?_ ?_)
  | (with_reducible refine LeO.bind ?_ (fun _ => ?_))
  | exact ih0 _ _ _ _ _
  | exact LeO.none _
  | refine LeO.ite ?_ ?_
  | refine LeO.bind ?_ (fun _ => ?_)
theorem impl_FlushPort.mono : ∀ a0 a1 k, LeO (impl_FlushPort.f k a0 a1) (impl_FlushPort.f (k + 1) a0 a1) := by
 intro a0 a1 k
 have ih0 := impl_FlushPort.mono_l k
 unfold impl_FlushPort.f
 repeat' first
  | (with_reducible exact ih0 _ _ _ _ _)
  | (with_reducible exact LeO.refl _)
  | (with_reducible exact LeO.none _)
  | (with_reducible refine LeO.ite ?_ ?_)
  | (with_reducible refine LeO.bind ?_ (fun _ => ?_))
  | exact ih0 _ _ _ _ _
  | exact LeO.none _
  | refine LeO.ite ?_ ?_
  | refine LeO.bind ?_ (fun _ => ?_)
set_option maxHeartbeats 8000000 in
set_option maxRecDepth 100000 in
theorem impl_FlushPort.calls (k : Nat) (A0 : Option Addr) (c0 : Nat) (l0 : List (S44)) (a1 : Int) (r : List (S44)) (w : World) (hr0 : Kd.C k44 w A0 l0.length l0) (hc0 : l0.length ≤ c0) (h : impl_FlushPort.f k l0 a1 = some r) :
 Calls Try.prog 38 #[.slice A0 l0.length c0, .int .i64 a1] w fun e w' => ∃ v0_ : Value, e = .returned (v0_) ∧ Kd.R k44 44 w' w.heap.size (fun _ => True) v0_ r ∧ Below w.heap.size w w' := by
 have hu44 := Try.underlying44
 have HR0 := am hr0
 have HC0 := am hc0
 clear hr0 hc0
 have HB := am (Below.refl w.heap.size w)
 have H : (impl_FlushPort.l0 k a1 ([] : List (S44)) l0 (l0.length : Int) 0) = some r := h
 clear h
 have H' := am H
 clear H
 go_enter Try.func38, Try.ntmps38
 go_wp2
 go_loopg [5, 10] k (fun kq v5 v10 w' => ∃ (x5_1 : List (S44)) (x10_1 : Int), v10 = .int .i64 x10_1 ∧ Aside0 (impl_FlushPort.l0 kq a1 x5_1 l0 (l0.length : Int) x10_1 = some r) ∧ Aside0 (kq ≤ k) ∧ Aside0 (Kd.R k44 44 w' w.heap.size (fun _ => True) v5 x5_1) ∧ Aside0 (Below w.heap.size w w'))
 case atStart => exact ⟨(([] : List (S44))), (0), sq, H', ⟨Nat.le_refl _⟩, ⟨by first | exact Kd.R_nil _ _ _ _ _ | exact Kd.N_nil _ _ _ _ _ | exact Kd.V_nil _ _ _ _ _ | exact Kd.Q_nil _ _ _ _ _ | exact Kd.S_nil _ _ _ _ _⟩, ⟨bq HB.out⟩⟩
 case round =>
  clear H'
  try clear p2
  obtain ⟨x5_1, x10_1, rfl, HA, HK1, HO_5, HB⟩ := hrel
  cases gk with
  | zero => exact absurd HA.out (by simp [impl_FlushPort.l0])
  | succ k1 =>
   have H := HA.out
   clear HA
   simp only [impl_FlushPort.l0] at H
   by_cases c3 : x10_1 < (l0.length : Int)
   · rw [if_pos c3] at H
     have c3b0 : decide (x10_1 < (l0.length : Int)) = true := decide_eq_true c3
     clear c3
     by_cases c4 : 0 ≤ x10_1
     · rw [if_pos c4] at H
       have c4b0 : decide (0 ≤ x10_1) = true := decide_eq_true c4
       clear c4
       by_cases c5 : x10_1 < (l0.length : Int)
       · rw [if_pos c5] at H
         have c5b0 : decide (x10_1 < (l0.length : Int)) = true := decide_eq_true c5
         clear c5
         obtain ⟨bq6, hbq6⟩ : ∃ b_ : Bool, b_ = ((rd_T44 l0 x10_1).f4) := ⟨_, rfl⟩
         replace H : (if bq6 = true then (if x5_1.length < 3518437208883 then (impl_FlushPort.l0 k1 a1 (x5_1 ++ [(⟨(rd_T44 l0 x10_1).f0, (rd_T44 l0 x10_1).f1, (rd_T44 l0 x10_1).f2, (rd_T44 l0 x10_1).f3, bq6⟩ : S44)]) l0 (l0.length : Int) (wrap64 (x10_1 + 1))) else (none)) else (if ((rd_T44 l0 x10_1).f2) = a1 then (impl_FlushPort.l0 k1 a1 x5_1 l0 (l0.length : Int) (wrap64 (x10_1 + 1))) else (if x5_1.length < 3518437208883 then (impl_FlushPort.l0 k1 a1 (x5_1 ++ [(⟨(rd_T44 l0 x10_1).f0, (rd_T44 l0 x10_1).f1, (rd_T44 l0 x10_1).f2, (rd_T44 l0 x10_1).f3, bq6⟩ : S44)]) l0 (l0.length : Int) (wrap64 (x10_1 + 1))) else (none)))) = some r := by rw [← hbq6] at H; exact H
         have Nbq6 := am hbq6
         clear hbq6
         by_cases c7 : bq6 = true
         · subst c7
           have H1 : (if x5_1.length < 3518437208883 then (impl_FlushPort.l0 k1 a1 (x5_1 ++ [(⟨(rd_T44 l0 x10_1).f0, (rd_T44 l0 x10_1).f1, (rd_T44 l0 x10_1).f2, (rd_T44 l0 x10_1).f3, true⟩ : S44)]) l0 (l0.length : Int) (wrap64 (x10_1 + 1))) else (none)) = some r := by rw [if_pos rfl] at H; exact H
           clear H
           have H := H1
           clear H1
           by_cases c8 : x5_1.length < 3518437208883
           · rw [if_pos c8] at H
             have LMc8 := am c8
             clear c8
             obtain ⟨y265, hy265⟩ : ∃ y_ : List (S44), y_ = (x5_1 ++ [(⟨(rd_T44 l0 x10_1).f0, (rd_T44 l0 x10_1).f1, (rd_T44 l0 x10_1).f2, (rd_T44 l0 x10_1).f3, true⟩ : S44)]) := ⟨_, rfl⟩
             replace H : (impl_FlushPort.l0 k1 a1 y265 l0 (l0.length : Int) (wrap64 (x10_1 + 1))) = some r := by first | (rw [hy265]; with_reducible exact H) | (have H2_ := (Option.bind_some _ _).symm.trans H; rw [hy265]; with_reducible exact H2_) | (have H2_ := (Option.bind_some _ _).symm.trans H; with_reducible exact H2_) | with_reducible exact H | (rw [hy265]; exact H) | exact H
             have Ny265 := am hy265
             clear hy265
             have H' := am H
             clear H
             have p263 : 0 ≤ (x10_1 : Int) := oda
             have q263 : x10_1 < (l0.length : Int) := oda
             obtain ⟨ad263, e263, hx263_0, hx263_1, hx263_2, hx263_3, hx263_4⟩ := at_T44 HR0.out x10_1 p263 q263
             (try rw [← Nbq6.out] at hx263_4)
             cases e263
             replace hx263_0 := (HB.out.cell (World.block_lt_of_cell? w _ hx263_0)).trans hx263_0
             replace hx263_1 := (HB.out.cell (World.block_lt_of_cell? w _ hx263_1)).trans hx263_1
             replace hx263_2 := (HB.out.cell (World.block_lt_of_cell? w _ hx263_2)).trans hx263_2
             replace hx263_3 := (HB.out.cell (World.block_lt_of_cell? w _ hx263_3)).trans hx263_3
             replace hx263_4 := (HB.out.cell (World.block_lt_of_cell? w _ hx263_4)).trans hx263_4
             replace p263 := eq_true p263
             replace q263 := eq_true q263
             go_wp2_with (first | ((with_reducible refine gate_dst (N := 7) rfl ?_); refine box_event ?hg (N := 7) ?hd (cs := #[.int .i64 0, .int .i64 0, .int .i64 0, .int .i64 0, .bool false]) (t := 44) ?hr ?_; (case hd => rfl); (case hg => rfl); (case hr => exact gs); intro gb264 hg w9 hbox hb; have n_ := ak5 (Kd.R_below (Kd.R_elderB (kqR HO_5.out) gb264 (Nat.le_of_eq hg.symm)) hb) (below_step (bq HB.out) hb) hbox ((by rw [hg]; exact (below_size (bq HB.out)) : w.heap.size ≤ gb264)) ((by rw [hg]; exact (below_size (bq HB.out)) : w.heap.size ≤ gb264)); clear HO_5 HB; obtain ⟨HO_5, HB, BK264, GW264, GE264⟩ := n_; clear hb hbox hg; have hcz10_0 : w9.cell? ⟨gb264, 0, none⟩ = some (.int .i64 0) := (blk_cell BK264.out 0).trans rfl; have hcz10_1 : w9.cell? ⟨gb264, 1, none⟩ = some (.int .i64 0) := (blk_cell BK264.out 1).trans rfl; have hcz10_2 : w9.cell? ⟨gb264, 2, none⟩ = some (.int .i64 0) := (blk_cell BK264.out 2).trans rfl; have hcz10_3 : w9.cell? ⟨gb264, 3, none⟩ = some (.int .i64 0) := (blk_cell BK264.out 3).trans rfl; have hcz10_4 : w9.cell? ⟨gb264, 4, none⟩ = some (.bool false) := (blk_cell BK264.out 4).trans rfl; have hfz10_0 := blk_frozen BK264.out 0; have hfz10_1 := blk_frozen BK264.out 1; have hfz10_2 := blk_frozen BK264.out 2; have hfz10_3 := blk_frozen BK264.out 3; have hfz10_4 := blk_frozen BK264.out 4) | ((with_reducible refine gate_store (t := 44) (p := 7) rfl ?_); refine store_event (t := 44) (p := 7) (v := ?vo_w11) (w1 := (((((w9.setCell ⟨gb264, 0, none⟩ (.int .i64 ((rd_T44 l0 x10_1).f0))).setCell ⟨gb264, 1, none⟩ (.int .i64 ((rd_T44 l0 x10_1).f1))).setCell ⟨gb264, 2, none⟩ (.int .i64 ((rd_T44 l0 x10_1).f2))).setCell ⟨gb264, 3, none⟩ (.int .i64 ((rd_T44 l0 x10_1).f3))).setCell ⟨gb264, 4, none⟩ (.bool true))) ?hg ?ho ?hn ?hr ?_; (case ho => rfl); (case hg => rfl); (case hn => rfl); (case hr => exact gs); intro w11 hw; have n0_ : Aside0 (Kd.R k44 44 w11 w.heap.size (fun k_ => k_ ≠ gb264) u5 x5_1) := ⟨(by rw [hw]; exact (by (with_reducible repeat (first | apply Kd.R_alloc | apply Kd.R_drewN | apply Kd.R_drew)); exact Kd.R_mono (Kd.R_far (p := ⟨gb264, 4, none⟩) (Kd.R_far (p := ⟨gb264, 3, none⟩) (Kd.R_far (p := ⟨gb264, 2, none⟩) (Kd.R_far (p := ⟨gb264, 1, none⟩) (Kd.R_far (p := ⟨gb264, 0, none⟩) (Kd.R_mono HO_5.out (fun k_ hk => (⟨hk, hk.2⟩ : _ ∧ k_ ≠ gb264))) (fun _ hk => hk.2) (.int .i64 ((rd_T44 l0 x10_1).f0))) (fun _ hk => hk.2) (.int .i64 ((rd_T44 l0 x10_1).f1))) (fun _ hk => hk.2) (.int .i64 ((rd_T44 l0 x10_1).f2))) (fun _ hk => hk.2) (.int .i64 ((rd_T44 l0 x10_1).f3))) (fun _ hk => hk.2) (.bool true)) (fun _ hk => hk.1.2)))⟩; have n1_ : Aside0 (w11.heap[gb264]? = some (.cells #[.int .i64 ((rd_T44 l0 x10_1).f0), .int .i64 ((rd_T44 l0 x10_1).f1), .int .i64 ((rd_T44 l0 x10_1).f2), .int .i64 ((rd_T44 l0 x10_1).f3), .bool true] 44 (0, 0))) := ⟨(by rw [hw]; exact (by (with_reducible repeat (first | refine blk_drewN ?_ _ | refine blk_drew ?_ | refine blk_alloc ?_ _)); refine blk_put (cs := #[.int .i64 ((rd_T44 l0 x10_1).f0), .int .i64 ((rd_T44 l0 x10_1).f1), .int .i64 ((rd_T44 l0 x10_1).f2), .int .i64 ((rd_T44 l0 x10_1).f3), .bool false]) ?_ 4 _ rfl; (with_reducible repeat (first | refine blk_drewN ?_ _ | refine blk_drew ?_ | refine blk_alloc ?_ _)); refine blk_put (cs := #[.int .i64 ((rd_T44 l0 x10_1).f0), .int .i64 ((rd_T44 l0 x10_1).f1), .int .i64 ((rd_T44 l0 x10_1).f2), .int .i64 0, .bool false]) ?_ 3 _ rfl; (with_reducible repeat (first | refine blk_drewN ?_ _ | refine blk_drew ?_ | refine blk_alloc ?_ _)); refine blk_put (cs := #[.int .i64 ((rd_T44 l0 x10_1).f0), .int .i64 ((rd_T44 l0 x10_1).f1), .int .i64 0, .int .i64 0, .bool false]) ?_ 2 _ rfl; (with_reducible repeat (first | refine blk_drewN ?_ _ | refine blk_drew ?_ | refine blk_alloc ?_ _)); refine blk_put (cs := #[.int .i64 ((rd_T44 l0 x10_1).f0), .int .i64 0, .int .i64 0, .int .i64 0, .bool false]) ?_ 1 _ rfl; (with_reducible repeat (first | refine blk_drewN ?_ _ | refine blk_drew ?_ | refine blk_alloc ?_ _)); refine blk_put (cs := #[.int .i64 0, .int .i64 0, .int .i64 0, .int .i64 0, .bool false]) ?_ 0 _ rfl; (with_reducible repeat (first | refine blk_drewN ?_ _ | refine blk_drew ?_ | refine blk_alloc ?_ _)); exact BK264.out))⟩; have n2_ : Aside0 (Below w.heap.size w w11) := ⟨(by rw [hw]; exact (bq1 HB.out GE264.out))⟩; clear hw; clear HO_5; clear BK264; clear HB; have HO_5 := n0_; have BK264 := n1_; have HB := n2_; clear n0_ n1_ n2_; have hcz12_0 : w11.cell? ⟨gb264, 0, none⟩ = some (.int .i64 ((rd_T44 l0 x10_1).f0)) := (blk_cell BK264.out 0).trans rfl; have hcz12_1 : w11.cell? ⟨gb264, 1, none⟩ = some (.int .i64 ((rd_T44 l0 x10_1).f1)) := (blk_cell BK264.out 1).trans rfl; have hcz12_2 : w11.cell? ⟨gb264, 2, none⟩ = some (.int .i64 ((rd_T44 l0 x10_1).f2)) := (blk_cell BK264.out 2).trans rfl; have hcz12_3 : w11.cell? ⟨gb264, 3, none⟩ = some (.int .i64 ((rd_T44 l0 x10_1).f3)) := (blk_cell BK264.out 3).trans rfl; have hcz12_4 : w11.cell? ⟨gb264, 4, none⟩ = some (.bool true) := (blk_cell BK264.out 4).trans rfl; have hfz12_0 := blk_frozen BK264.out 0; have hfz12_1 := blk_frozen BK264.out 1; have hfz12_2 := blk_frozen BK264.out 2; have hfz12_3 := blk_frozen BK264.out 3; have hfz12_4 := blk_frozen BK264.out 4) | ((with_reducible refine gate_builtin (b := .append) (xs := #[.tmp 22, .tmp 24]) rfl ?_); at_builtin; refine Kd.R_append k44 (w0 := w) w.heap.size rfl (.tmp 22) (.tmp 24) 30 44 (.agg #[(.int .i64 0), (.int .i64 0), (.int .i64 0), (.int .i64 0), (.bool false)]) 40 rfl Try.underlying30 info44 rfl (by decide) (by omega) u5 x5_1 (⟨(rd_T44 l0 x10_1).f0, (rd_T44 l0 x10_1).f1, (rd_T44 l0 x10_1).f2, (rd_T44 l0 x10_1).f3, true⟩ : S44) [.int .i64 ((rd_T44 l0 x10_1).f0), .int .i64 ((rd_T44 l0 x10_1).f1), .int .i64 ((rd_T44 l0 x10_1).f2), .int .i64 ((rd_T44 l0 x10_1).f3), .bool true] (fun k_ => k_ ≠ gb264) (fun _ => False) rfl rfl ?aP (fun _ hk => hk.elim) ?aF ?aO ?aB ?aS ?aL ?_; (case aP => exact k44_mkM _ _ _ (⟨(rd_T44 l0 x10_1).f0, (rd_T44 l0 x10_1).f1, (rd_T44 l0 x10_1).f2, (rd_T44 l0 x10_1).f3, true⟩ : S44)); (case aB => exact (bq1 HB.out GE264.out)); (case aF => exact (fun k_ hk => Kd.freshB (g := gb264) (o := .cells #[.int .i64 ((rd_T44 l0 x10_1).f0), .int .i64 ((rd_T44 l0 x10_1).f1), .int .i64 ((rd_T44 l0 x10_1).f2), .int .i64 ((rd_T44 l0 x10_1).f3), .bool true] 44 (0, 0)) (zq BK264.out) k_ hk)); (case aO => exact (kqR HO_5.out)); (case aS => exact (below_size (bq1 HB.out GE264.out))); (case aL => have := LMc8.out; omega); intro v266 w13 ho hb hg hat; rw [← Ny265.out] at ho; have n_ := ak3 (blk_grown (g := gb264) (o := .cells #[.int .i64 ((rd_T44 l0 x10_1).f0), .int .i64 ((rd_T44 l0 x10_1).f1), .int .i64 ((rd_T44 l0 x10_1).f2), .int .i64 ((rd_T44 l0 x10_1).f3), .bool true] 44 (0, 0)) (zq BK264.out) hg (Kd.R_away HO_5.out (fun _ hk => hk))) hb ho; clear BK264 HB HO_5; obtain ⟨BK264, HB, HO267⟩ := n_; clear ho hb hg hat))
             go_roundg k1
             case measure => have := HK1.out; omega
             case rel => exact ⟨(y265), (wrap64 (x10_1 + 1)), sq, H', ⟨by have := HK1.out; omega⟩, ⟨by (with_reducible repeat (first | apply Kd.R_alloc | apply Kd.R_drewN | apply Kd.R_drew)); exact Kd.R_mono HO267.out (fun _ hk => trivial)⟩, ⟨bq1 HB.out GE264.out⟩⟩
           rw [if_neg c8] at H
           exact absurd H (by simp)
         replace c7 := Bool.eq_false_iff.mpr c7
         subst c7
         have H1 : (if ((rd_T44 l0 x10_1).f2) = a1 then (impl_FlushPort.l0 k1 a1 x5_1 l0 (l0.length : Int) (wrap64 (x10_1 + 1))) else (if x5_1.length < 3518437208883 then (impl_FlushPort.l0 k1 a1 (x5_1 ++ [(⟨(rd_T44 l0 x10_1).f0, (rd_T44 l0 x10_1).f1, (rd_T44 l0 x10_1).f2, (rd_T44 l0 x10_1).f3, false⟩ : S44)]) l0 (l0.length : Int) (wrap64 (x10_1 + 1))) else (none))) = some r := by rw [if_neg (show ¬ (false = true) by decide)] at H; exact H
         clear H
         have H := H1
         clear H1
         by_cases c14 : ((rd_T44 l0 x10_1).f2) = a1
         · rw [if_pos c14] at H
           have c14b0 : (((rd_T44 l0 x10_1).f2) == a1) = true := beq_iff_eq.mpr c14
           have c14b1 : (((rd_T44 l0 x10_1).f2) != a1) = false := bne_eq_false_iff_eq.mpr c14
           clear c14
           have H' := am H
           clear H
           have p263 : 0 ≤ (x10_1 : Int) := oda
           have q263 : x10_1 < (l0.length : Int) := oda
           obtain ⟨ad263, e263, hx263_0, hx263_1, hx263_2, hx263_3, hx263_4⟩ := at_T44 HR0.out x10_1 p263 q263
           (try rw [← Nbq6.out] at hx263_4)
           cases e263
           replace hx263_0 := (HB.out.cell (World.block_lt_of_cell? w _ hx263_0)).trans hx263_0
           replace hx263_1 := (HB.out.cell (World.block_lt_of_cell? w _ hx263_1)).trans hx263_1
           replace hx263_2 := (HB.out.cell (World.block_lt_of_cell? w _ hx263_2)).trans hx263_2
           replace hx263_3 := (HB.out.cell (World.block_lt_of_cell? w _ hx263_3)).trans hx263_3
           replace hx263_4 := (HB.out.cell (World.block_lt_of_cell? w _ hx263_4)).trans hx263_4
           replace p263 := eq_true p263
           replace q263 := eq_true q263
           go_wp2_with (first | ((with_reducible refine gate_dst (N := 7) rfl ?_); refine box_event ?hg (N := 7) ?hd (cs := #[.int .i64 0, .int .i64 0, .int .i64 0, .int .i64 0, .bool false]) (t := 44) ?hr ?_; (case hd => rfl); (case hg => rfl); (case hr => exact gs); intro gb264 hg w15 hbox hb; have n_ := ak5 (Kd.R_below (Kd.R_elderB (kqR HO_5.out) gb264 (Nat.le_of_eq hg.symm)) hb) (below_step (bq HB.out) hb) hbox ((by rw [hg]; exact (below_size (bq HB.out)) : w.heap.size ≤ gb264)) ((by rw [hg]; exact (below_size (bq HB.out)) : w.heap.size ≤ gb264)); clear HO_5 HB; obtain ⟨HO_5, HB, BK264, GW264, GE264⟩ := n_; clear hb hbox hg; have hcz16_0 : w15.cell? ⟨gb264, 0, none⟩ = some (.int .i64 0) := (blk_cell BK264.out 0).trans rfl; have hcz16_1 : w15.cell? ⟨gb264, 1, none⟩ = some (.int .i64 0) := (blk_cell BK264.out 1).trans rfl; have hcz16_2 : w15.cell? ⟨gb264, 2, none⟩ = some (.int .i64 0) := (blk_cell BK264.out 2).trans rfl; have hcz16_3 : w15.cell? ⟨gb264, 3, none⟩ = some (.int .i64 0) := (blk_cell BK264.out 3).trans rfl; have hcz16_4 : w15.cell? ⟨gb264, 4, none⟩ = some (.bool false) := (blk_cell BK264.out 4).trans rfl; have hfz16_0 := blk_frozen BK264.out 0; have hfz16_1 := blk_frozen BK264.out 1; have hfz16_2 := blk_frozen BK264.out 2; have hfz16_3 := blk_frozen BK264.out 3; have hfz16_4 := blk_frozen BK264.out 4) | ((with_reducible refine gate_store (t := 44) (p := 7) rfl ?_); refine store_event (t := 44) (p := 7) (v := ?vo_w17) (w1 := (((((w15.setCell ⟨gb264, 0, none⟩ (.int .i64 ((rd_T44 l0 x10_1).f0))).setCell ⟨gb264, 1, none⟩ (.int .i64 ((rd_T44 l0 x10_1).f1))).setCell ⟨gb264, 2, none⟩ (.int .i64 ((rd_T44 l0 x10_1).f2))).setCell ⟨gb264, 3, none⟩ (.int .i64 ((rd_T44 l0 x10_1).f3))).setCell ⟨gb264, 4, none⟩ (.bool false))) ?hg ?ho ?hn ?hr ?_; (case ho => rfl); (case hg => rfl); (case hn => rfl); (case hr => exact gs); intro w17 hw; have n0_ : Aside0 (Kd.R k44 44 w17 w.heap.size (fun k_ => k_ ≠ gb264) u5 x5_1) := ⟨(by rw [hw]; exact (by (with_reducible repeat (first | apply Kd.R_alloc | apply Kd.R_drewN | apply Kd.R_drew)); exact Kd.R_mono (Kd.R_far (p := ⟨gb264, 4, none⟩) (Kd.R_far (p := ⟨gb264, 3, none⟩) (Kd.R_far (p := ⟨gb264, 2, none⟩) (Kd.R_far (p := ⟨gb264, 1, none⟩) (Kd.R_far (p := ⟨gb264, 0, none⟩) (Kd.R_mono HO_5.out (fun k_ hk => (⟨hk, hk.2⟩ : _ ∧ k_ ≠ gb264))) (fun _ hk => hk.2) (.int .i64 ((rd_T44 l0 x10_1).f0))) (fun _ hk => hk.2) (.int .i64 ((rd_T44 l0 x10_1).f1))) (fun _ hk => hk.2) (.int .i64 ((rd_T44 l0 x10_1).f2))) (fun _ hk => hk.2) (.int .i64 ((rd_T44 l0 x10_1).f3))) (fun _ hk => hk.2) (.bool false)) (fun _ hk => hk.1.2)))⟩; have n1_ : Aside0 (w17.heap[gb264]? = some (.cells #[.int .i64 ((rd_T44 l0 x10_1).f0), .int .i64 ((rd_T44 l0 x10_1).f1), .int .i64 ((rd_T44 l0 x10_1).f2), .int .i64 ((rd_T44 l0 x10_1).f3), .bool false] 44 (0, 0))) := ⟨(by rw [hw]; exact (by (with_reducible repeat (first | refine blk_drewN ?_ _ | refine blk_drew ?_ | refine blk_alloc ?_ _)); refine blk_put (cs := #[.int .i64 ((rd_T44 l0 x10_1).f0), .int .i64 ((rd_T44 l0 x10_1).f1), .int .i64 ((rd_T44 l0 x10_1).f2), .int .i64 ((rd_T44 l0 x10_1).f3), .bool false]) ?_ 4 _ rfl; (with_reducible repeat (first | refine blk_drewN ?_ _ | refine blk_drew ?_ | refine blk_alloc ?_ _)); refine blk_put (cs := #[.int .i64 ((rd_T44 l0 x10_1).f0), .int .i64 ((rd_T44 l0 x10_1).f1), .int .i64 ((rd_T44 l0 x10_1).f2), .int .i64 0, .bool false]) ?_ 3 _ rfl; (with_reducible repeat (first | refine blk_drewN ?_ _ | refine blk_drew ?_ | refine blk_alloc ?_ _)); refine blk_put (cs := #[.int .i64 ((rd_T44 l0 x10_1).f0), .int .i64 ((rd_T44 l0 x10_1).f1), .int .i64 0, .int .i64 0, .bool false]) ?_ 2 _ rfl; (with_reducible repeat (first | refine blk_drewN ?_ _ | refine blk_drew ?_ | refine blk_alloc ?_ _)); refine blk_put (cs := #[.int .i64 ((rd_T44 l0 x10_1).f0), .int .i64 0, .int .i64 0, .int .i64 0, .bool false]) ?_ 1 _ rfl; (with_reducible repeat (first | refine blk_drewN ?_ _ | refine blk_drew ?_ | refine blk_alloc ?_ _)); refine blk_put (cs := #[.int .i64 0, .int .i64 0, .int .i64 0, .int .i64 0, .bool false]) ?_ 0 _ rfl; (with_reducible repeat (first | refine blk_drewN ?_ _ | refine blk_drew ?_ | refine blk_alloc ?_ _)); exact BK264.out))⟩; have n2_ : Aside0 (Below w.heap.size w w17) := ⟨(by rw [hw]; exact (bq1 HB.out GE264.out))⟩; clear hw; clear HO_5; clear BK264; clear HB; have HO_5 := n0_; have BK264 := n1_; have HB := n2_; clear n0_ n1_ n2_; have hcz18_0 : w17.cell? ⟨gb264, 0, none⟩ = some (.int .i64 ((rd_T44 l0 x10_1).f0)) := (blk_cell BK264.out 0).trans rfl; have hcz18_1 : w17.cell? ⟨gb264, 1, none⟩ = some (.int .i64 ((rd_T44 l0 x10_1).f1)) := (blk_cell BK264.out 1).trans rfl; have hcz18_2 : w17.cell? ⟨gb264, 2, none⟩ = some (.int .i64 ((rd_T44 l0 x10_1).f2)) := (blk_cell BK264.out 2).trans rfl; have hcz18_3 : w17.cell? ⟨gb264, 3, none⟩ = some (.int .i64 ((rd_T44 l0 x10_1).f3)) := (blk_cell BK264.out 3).trans rfl; have hcz18_4 : w17.cell? ⟨gb264, 4, none⟩ = some (.bool false) := (blk_cell BK264.out 4).trans rfl; have hfz18_0 := blk_frozen BK264.out 0; have hfz18_1 := blk_frozen BK264.out 1; have hfz18_2 := blk_frozen BK264.out 2; have hfz18_3 := blk_frozen BK264.out 3; have hfz18_4 := blk_frozen BK264.out 4))
           go_roundg k1
           case measure => have := HK1.out; omega
           case rel => exact ⟨(x5_1), (wrap64 (x10_1 + 1)), sq, H', ⟨by have := HK1.out; omega⟩, ⟨by (with_reducible repeat (first | apply Kd.R_alloc | apply Kd.R_drewN | apply Kd.R_drew)); exact Kd.R_mono HO_5.out (fun _ hk => trivial)⟩, ⟨bq1 HB.out GE264.out⟩⟩
         rw [if_neg c14] at H
         have c14b0 : (((rd_T44 l0 x10_1).f2) == a1) = false := beq_eq_false_iff_ne.mpr c14
         have c14b1 : (((rd_T44 l0 x10_1).f2) != a1) = true := bne_iff_ne.mpr c14
         by_cases c19 : x5_1.length < 3518437208883
         · rw [if_pos c19] at H
           have LMc19 := am c19
           clear c19
           obtain ⟨y268, hy268⟩ : ∃ y_ : List (S44), y_ = (x5_1 ++ [(⟨(rd_T44 l0 x10_1).f0, (rd_T44 l0 x10_1).f1, (rd_T44 l0 x10_1).f2, (rd_T44 l0 x10_1).f3, false⟩ : S44)]) := ⟨_, rfl⟩
           replace H : (impl_FlushPort.l0 k1 a1 y268 l0 (l0.length : Int) (wrap64 (x10_1 + 1))) = some r := by first | (rw [hy268]; with_reducible exact H) | (have H2_ := (Option.bind_some _ _).symm.trans H; rw [hy268]; with_reducible exact H2_) | (have H2_ := (Option.bind_some _ _).symm.trans H; with_reducible exact H2_) | with_reducible exact H | (rw [hy268]; exact H) | exact H
           have Ny268 := am hy268
           clear hy268
           have H' := am H
           clear H
           have p263 : 0 ≤ (x10_1 : Int) := oda
           have q263 : x10_1 < (l0.length : Int) := oda
           obtain ⟨ad263, e263, hx263_0, hx263_1, hx263_2, hx263_3, hx263_4⟩ := at_T44 HR0.out x10_1 p263 q263
           (try rw [← Nbq6.out] at hx263_4)
           cases e263
           replace hx263_0 := (HB.out.cell (World.block_lt_of_cell? w _ hx263_0)).trans hx263_0
           replace hx263_1 := (HB.out.cell (World.block_lt_of_cell? w _ hx263_1)).trans hx263_1
           replace hx263_2 := (HB.out.cell (World.block_lt_of_cell? w _ hx263_2)).trans hx263_2
           replace hx263_3 := (HB.out.cell (World.block_lt_of_cell? w _ hx263_3)).trans hx263_3
           replace hx263_4 := (HB.out.cell (World.block_lt_of_cell? w _ hx263_4)).trans hx263_4
           replace p263 := eq_true p263
           replace q263 := eq_true q263
           go_wp2_with (first | ((with_reducible refine gate_dst (N := 7) rfl ?_); refine box_event ?hg (N := 7) ?hd (cs := #[.int .i64 0, .int .i64 0, .int .i64 0, .int .i64 0, .bool false]) (t := 44) ?hr ?_; (case hd => rfl); (case hg => rfl); (case hr => exact gs); intro gb264 hg w20 hbox hb; have n_ := ak5 (Kd.R_below (Kd.R_elderB (kqR HO_5.out) gb264 (Nat.le_of_eq hg.symm)) hb) (below_step (bq HB.out) hb) hbox ((by rw [hg]; exact (below_size (bq HB.out)) : w.heap.size ≤ gb264)) ((by rw [hg]; exact (below_size (bq HB.out)) : w.heap.size ≤ gb264)); clear HO_5 HB; obtain ⟨HO_5, HB, BK264, GW264, GE264⟩ := n_; clear hb hbox hg; have hcz21_0 : w20.cell? ⟨gb264, 0, none⟩ = some (.int .i64 0) := (blk_cell BK264.out 0).trans rfl; have hcz21_1 : w20.cell? ⟨gb264, 1, none⟩ = some (.int .i64 0) := (blk_cell BK264.out 1).trans rfl; have hcz21_2 : w20.cell? ⟨gb264, 2, none⟩ = some (.int .i64 0) := (blk_cell BK264.out 2).trans rfl; have hcz21_3 : w20.cell? ⟨gb264, 3, none⟩ = some (.int .i64 0) := (blk_cell BK264.out 3).trans rfl; have hcz21_4 : w20.cell? ⟨gb264, 4, none⟩ = some (.bool false) := (blk_cell BK264.out 4).trans rfl; have hfz21_0 := blk_frozen BK264.out 0; have hfz21_1 := blk_frozen BK264.out 1; have hfz21_2 := blk_frozen BK264.out 2; have hfz21_3 := blk_frozen BK264.out 3; have hfz21_4 := blk_frozen BK264.out 4) | ((with_reducible refine gate_store (t := 44) (p := 7) rfl ?_); refine store_event (t := 44) (p := 7) (v := ?vo_w22) (w1 := (((((w20.setCell ⟨gb264, 0, none⟩ (.int .i64 ((rd_T44 l0 x10_1).f0))).setCell ⟨gb264, 1, none⟩ (.int .i64 ((rd_T44 l0 x10_1).f1))).setCell ⟨gb264, 2, none⟩ (.int .i64 ((rd_T44 l0 x10_1).f2))).setCell ⟨gb264, 3, none⟩ (.int .i64 ((rd_T44 l0 x10_1).f3))).setCell ⟨gb264, 4, none⟩ (.bool false))) ?hg ?ho ?hn ?hr ?_; (case ho => rfl); (case hg => rfl); (case hn => rfl); (case hr => exact gs); intro w22 hw; have n0_ : Aside0 (Kd.R k44 44 w22 w.heap.size (fun k_ => k_ ≠ gb264) u5 x5_1) := ⟨(by rw [hw]; exact (by (with_reducible repeat (first | apply Kd.R_alloc | apply Kd.R_drewN | apply Kd.R_drew)); exact Kd.R_mono (Kd.R_far (p := ⟨gb264, 4, none⟩) (Kd.R_far (p := ⟨gb264, 3, none⟩) (Kd.R_far (p := ⟨gb264, 2, none⟩) (Kd.R_far (p := ⟨gb264, 1, none⟩) (Kd.R_far (p := ⟨gb264, 0, none⟩) (Kd.R_mono HO_5.out (fun k_ hk => (⟨hk, hk.2⟩ : _ ∧ k_ ≠ gb264))) (fun _ hk => hk.2) (.int .i64 ((rd_T44 l0 x10_1).f0))) (fun _ hk => hk.2) (.int .i64 ((rd_T44 l0 x10_1).f1))) (fun _ hk => hk.2) (.int .i64 ((rd_T44 l0 x10_1).f2))) (fun _ hk => hk.2) (.int .i64 ((rd_T44 l0 x10_1).f3))) (fun _ hk => hk.2) (.bool false)) (fun _ hk => hk.1.2)))⟩; have n1_ : Aside0 (w22.heap[gb264]? = some (.cells #[.int .i64 ((rd_T44 l0 x10_1).f0), .int .i64 ((rd_T44 l0 x10_1).f1), .int .i64 ((rd_T44 l0 x10_1).f2), .int .i64 ((rd_T44 l0 x10_1).f3), .bool false] 44 (0, 0))) := ⟨(by rw [hw]; exact (by (with_reducible repeat (first | refine blk_drewN ?_ _ | refine blk_drew ?_ | refine blk_alloc ?_ _)); refine blk_put (cs := #[.int .i64 ((rd_T44 l0 x10_1).f0), .int .i64 ((rd_T44 l0 x10_1).f1), .int .i64 ((rd_T44 l0 x10_1).f2), .int .i64 ((rd_T44 l0 x10_1).f3), .bool false]) ?_ 4 _ rfl; (with_reducible repeat (first | refine blk_drewN ?_ _ | refine blk_drew ?_ | refine blk_alloc ?_ _)); refine blk_put (cs := #[.int .i64 ((rd_T44 l0 x10_1).f0), .int .i64 ((rd_T44 l0 x10_1).f1), .int .i64 ((rd_T44 l0 x10_1).f2), .int .i64 0, .bool false]) ?_ 3 _ rfl; (with_reducible repeat (first | refine blk_drewN ?_ _ | refine blk_drew ?_ | refine blk_alloc ?_ _)); refine blk_put (cs := #[.int .i64 ((rd_T44 l0 x10_1).f0), .int .i64 ((rd_T44 l0 x10_1).f1), .int .i64 0, .int .i64 0, .bool false]) ?_ 2 _ rfl; (with_reducible repeat (first | refine blk_drewN ?_ _ | refine blk_drew ?_ | refine blk_alloc ?_ _)); refine blk_put (cs := #[.int .i64 ((rd_T44 l0 x10_1).f0), .int .i64 0, .int .i64 0, .int .i64 0, .bool false]) ?_ 1 _ rfl; (with_reducible repeat (first | refine blk_drewN ?_ _ | refine blk_drew ?_ | refine blk_alloc ?_ _)); refine blk_put (cs := #[.int .i64 0, .int .i64 0, .int .i64 0, .int .i64 0, .bool false]) ?_ 0 _ rfl; (with_reducible repeat (first | refine blk_drewN ?_ _ | refine blk_drew ?_ | refine blk_alloc ?_ _)); exact BK264.out))⟩; have n2_ : Aside0 (Below w.heap.size w w22) := ⟨(by rw [hw]; exact (bq1 HB.out GE264.out))⟩; clear hw; clear HO_5; clear BK264; clear HB; have HO_5 := n0_; have BK264 := n1_; have HB := n2_; clear n0_ n1_ n2_; have hcz23_0 : w22.cell? ⟨gb264, 0, none⟩ = some (.int .i64 ((rd_T44 l0 x10_1).f0)) := (blk_cell BK264.out 0).trans rfl; have hcz23_1 : w22.cell? ⟨gb264, 1, none⟩ = some (.int .i64 ((rd_T44 l0 x10_1).f1)) := (blk_cell BK264.out 1).trans rfl; have hcz23_2 : w22.cell? ⟨gb264, 2, none⟩ = some (.int .i64 ((rd_T44 l0 x10_1).f2)) := (blk_cell BK264.out 2).trans rfl; have hcz23_3 : w22.cell? ⟨gb264, 3, none⟩ = some (.int .i64 ((rd_T44 l0 x10_1).f3)) := (blk_cell BK264.out 3).trans rfl; have hcz23_4 : w22.cell? ⟨gb264, 4, none⟩ = some (.bool false) := (blk_cell BK264.out 4).trans rfl; have hfz23_0 := blk_frozen BK264.out 0; have hfz23_1 := blk_frozen BK264.out 1; have hfz23_2 := blk_frozen BK264.out 2; have hfz23_3 := blk_frozen BK264.out 3; have hfz23_4 := blk_frozen BK264.out 4) | ((with_reducible refine gate_builtin (b := .append) (xs := #[.tmp 22, .tmp 24]) rfl ?_); at_builtin; refine Kd.R_append k44 (w0 := w) w.heap.size rfl (.tmp 22) (.tmp 24) 30 44 (.agg #[(.int .i64 0), (.int .i64 0), (.int .i64 0), (.int .i64 0), (.bool false)]) 40 rfl Try.underlying30 info44 rfl (by decide) (by omega) u5 x5_1 (⟨(rd_T44 l0 x10_1).f0, (rd_T44 l0 x10_1).f1, (rd_T44 l0 x10_1).f2, (rd_T44 l0 x10_1).f3, false⟩ : S44) [.int .i64 ((rd_T44 l0 x10_1).f0), .int .i64 ((rd_T44 l0 x10_1).f1), .int .i64 ((rd_T44 l0 x10_1).f2), .int .i64 ((rd_T44 l0 x10_1).f3), .bool false] (fun k_ => k_ ≠ gb264) (fun _ => False) rfl rfl ?aP (fun _ hk => hk.elim) ?aF ?aO ?aB ?aS ?aL ?_; (case aP => exact k44_mkM _ _ _ (⟨(rd_T44 l0 x10_1).f0, (rd_T44 l0 x10_1).f1, (rd_T44 l0 x10_1).f2, (rd_T44 l0 x10_1).f3, false⟩ : S44)); (case aB => exact (bq1 HB.out GE264.out)); (case aF => exact (fun k_ hk => Kd.freshB (g := gb264) (o := .cells #[.int .i64 ((rd_T44 l0 x10_1).f0), .int .i64 ((rd_T44 l0 x10_1).f1), .int .i64 ((rd_T44 l0 x10_1).f2), .int .i64 ((rd_T44 l0 x10_1).f3), .bool false] 44 (0, 0)) (zq BK264.out) k_ hk)); (case aO => exact (kqR HO_5.out)); (case aS => exact (below_size (bq1 HB.out GE264.out))); (case aL => have := LMc19.out; omega); intro v269 w24 ho hb hg hat; rw [← Ny268.out] at ho; have n_ := ak3 (blk_grown (g := gb264) (o := .cells #[.int .i64 ((rd_T44 l0 x10_1).f0), .int .i64 ((rd_T44 l0 x10_1).f1), .int .i64 ((rd_T44 l0 x10_1).f2), .int .i64 ((rd_T44 l0 x10_1).f3), .bool false] 44 (0, 0)) (zq BK264.out) hg (Kd.R_away HO_5.out (fun _ hk => hk))) hb ho; clear BK264 HB HO_5; obtain ⟨BK264, HB, HO270⟩ := n_; clear ho hb hg hat))
           go_roundg k1
           case measure => have := HK1.out; omega
           case rel => exact ⟨(y268), (wrap64 (x10_1 + 1)), sq, H', ⟨by have := HK1.out; omega⟩, ⟨by (with_reducible repeat (first | apply Kd.R_alloc | apply Kd.R_drewN | apply Kd.R_drew)); exact Kd.R_mono HO270.out (fun _ hk => trivial)⟩, ⟨bq1 HB.out GE264.out⟩⟩
         rw [if_neg c19] at H
         exact absurd H (by simp)
       rw [if_neg c5] at H
       exact absurd H (by simp)
     rw [if_neg c4] at H
     exact absurd H (by simp)
   rw [if_neg c3] at H
   have c3b0 : decide (x10_1 < (l0.length : Int)) = false := decide_eq_false c3
   clear c3
   obtain rfl := Option.some.inj H
   go_wp2
   go_ret
   exact ⟨_, rq, kqR HO_5.out, bq HB.out⟩

end Go.Proofs.Ytebffdmkfkfoaaa.XFnFdbsBent
