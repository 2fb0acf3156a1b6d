/- The functions that one law reaches, as Lean functions, with their walks: printed by a program of this seat (wip/tools) out of the translation. -/
import Derived.Test.YtebffdmkfkfoaaaXFnForgetsx0
import Derived.Test.YtebffdmkfkfoaaaXFnForgetsx2
import Derived.Test.YtebffdmkfkfoaaaXFnForgetsx3
import Derived.Test.YtebffdmkfkfoaaaXFnForgetsx4
import Derived.Test.YtebffdmkfkfoaaaXFnForgetsx5
namespace Go.Proofs.Ytebffdmkfkfoaaa.XFnForgets
open Go.RowKit Go.Proofs.YtebffdmkfkfoaaaW.PrintWords Go.Proofs.YtebffdmkfkfoaaaW.PrintLast Go.Proofs.YtebffdmkfkfoaaaW.PrintMore
attribute [local go_sem] max2_int min2_int max_two min_two max_three min_three max_four min_four   -- for this text's walks alone
set_option linter.unusedVariables false
set_option linter.unusedSimpArgs false

/-! ### spec_SetStatic: function 20 -/
def spec_SetStatic.j0 : Nat → List (S44) → Bool → Int → Int → Int → Int → Bool → Option ((List (S44)) × Bool)
 | 0, _, _, _, _, _, _, _ => none
 | k + 1, x0, x34, x157000, x157001, x157002, x157003, x157004 => if x34 = true then ((spec_l8Copy.f x0).bind fun t160 => (some (t160, false))) else ((spec_l8Put.f k x0 x157000 x157001 x157002 x157003 x157004).bind fun t163 => (some (t163, true)))
def spec_SetStatic.f (k : Nat) (l0 : List (S44)) (a1 : Int) (a2 : Int) (a3 : Int) : Option ((List (S44)) × Bool) := (spec_FdbOk.f k l0).bind fun t157 => (if t157 = true then ((spec_l8Ent.f a1 a2 a3 0 true).bind fun t158 => (if t158 = true then ((spec_l8At.f k l0 a1 a2).bind fun t159 => (if t159 < 0 then (spec_SetStatic.j0 k l0 (decide ((l0.length : Int) ≥ 12)) a1 a2 a3 0 true) else (spec_SetStatic.j0 k l0 false a1 a2 a3 0 true))) else (spec_SetStatic.j0 k l0 true a1 a2 a3 0 true))) else (spec_SetStatic.j0 k l0 true a1 a2 a3 0 true))
theorem spec_SetStatic.mono_l : ∀ k, (∀ y0 y1 y2 y3 y4 y5 y6, LeO (spec_SetStatic.j0 k y0 y1 y2 y3 y4 y5 y6) (spec_SetStatic.j0 (k + 1) y0 y1 y2 y3 y4 y5 y6))
 | 0 => fun _ _ _ _ _ _ _ r h => by simp [spec_SetStatic.j0] at h
 | k + 1 => by
  have ih0 := spec_SetStatic.mono_l k
  intro y0 y1 y2 y3 y4 y5 y6
  unfold spec_SetStatic.j0
  repeat' first
  | (with_reducible exact ih0 _ _ _ _ _ _ _)
  | (with_reducible exact spec_FdbOk.mono _ _)
  | (with_reducible exact spec_l8At.mono _ _ _ _)
  | (with_reducible exact spec_l8Put.mono _ _ _ _ _ _ _)
  | (with_reducible exact LeO.refl _)
  | (with_reducible exact LeO.none _)
  | (with_reducible refine LeO.ite ?_ ?_)
  | (with_reducible refine LeO.bind ?_ (fun _ => ?_))
  | exact ih0 _ _ _ _ _ _ _
  | exact spec_FdbOk.mono _ _
  | exact spec_l8At.mono _ _ _ _
  | exact spec_l8Put.mono _ _ _ _ _ _ _
  | exact LeO.none _
  | refine LeO.ite ?_ ?_
  | refine LeO.bind ?_ (fun _ => ?_)
theorem spec_SetStatic.mono : ∀ a0 a1 a2 a3 k, LeO (spec_SetStatic.f k a0 a1 a2 a3) (spec_SetStatic.f (k + 1) a0 a1 a2 a3) := by
 intro a0 a1 a2 a3 k
 have ih0 := spec_SetStatic.mono_l k
 unfold spec_SetStatic.f
 repeat' first
  | (with_reducible exact ih0 _ _ _ _ _ _ _)
  | (with_reducible exact spec_FdbOk.mono _ _)
  | (with_reducible exact spec_l8At.mono _ _ _ _)
  | (with_reducible exact spec_l8Put.mono _ _ _ _ _ _ _)
  | (with_reducible exact LeO.refl _)
  | (with_reducible exact LeO.none _)
  | (with_reducible refine LeO.ite ?_ ?_)
  | (with_reducible refine LeO.bind ?_ (fun _ => ?_))
  | exact ih0 _ _ _ _ _ _ _
  | exact spec_FdbOk.mono _ _
  | exact spec_l8At.mono _ _ _ _
  | exact spec_l8Put.mono _ _ _ _ _ _ _
  | exact LeO.none _
  | refine LeO.ite ?_ ?_
  | refine LeO.bind ?_ (fun _ => ?_)
set_option maxHeartbeats 8000000 in
set_option maxRecDepth 100000 in
theorem spec_SetStatic.calls (k : Nat) (A0 : Option Addr) (c0 : Nat) (l0 : List (S44)) (a1 : Int) (a2 : Int) (a3 : Int) (r1 : List (S44)) (r2 : Bool) (w : World) (hr0 : Kd.C k44 w A0 l0.length l0) (hc0 : l0.length ≤ c0) (h : spec_SetStatic.f k l0 a1 a2 a3 = some (r1, r2)) :
 Calls Try.prog 20 #[.slice A0 l0.length c0, .int .i64 a1, .int .i64 a2, .int .i64 a3] w fun e w' => ∃ v0_ : Value, e = .returned (.tuple #[v0_, .bool r2]) ∧ Kd.R k44 44 w' w.heap.size (fun _ => True) v0_ r1 ∧ Below w.heap.size w w' := by
 have hu44 := Try.underlying44
 have HR0 := am hr0
 have HC0 := am hc0
 clear hr0 hc0
 have HB := am (Below.refl w.heap.size w)
 have H : ((spec_FdbOk.f k l0).bind fun t157 => (if t157 = true then ((spec_l8Ent.f a1 a2 a3 0 true).bind fun t158 => (if t158 = true then ((spec_l8At.f k l0 a1 a2).bind fun t159 => (if t159 < 0 then (spec_SetStatic.j0 k l0 (decide ((l0.length : Int) ≥ 12)) a1 a2 a3 0 true) else (spec_SetStatic.j0 k l0 false a1 a2 a3 0 true))) else (spec_SetStatic.j0 k l0 true a1 a2 a3 0 true))) else (spec_SetStatic.j0 k l0 true a1 a2 a3 0 true))) = some (r1, r2) := h
 clear h
 have HC5 := am H
 clear H
 go_enter Try.func20, Try.ntmps20
 go_upto_region 2 with (first | ((with_reducible refine gate_dst (N := 10) rfl ?_); (try (refine gate_guard (by rfl) ?_; dsimp only)); refine box_event ?hg (N := 10) ?hd (cs := #[.int .i64 0, .int .i64 0, .int .i64 0, .int .i64 0, .bool false]) (t := 44) ?hr ?_; (case hd => rfl); (case hg => rfl); (case hr => exact gs); intro gb156 hg w6 hbox hb; have n_ := ak4 (below_step (bq HB.out) hb) hbox ((by rw [hg]; exact (below_size (bq HB.out)) : w.heap.size ≤ gb156)) ((by rw [hg]; exact (below_size (bq HB.out)) : w.heap.size ≤ gb156)); clear HB; obtain ⟨HB, BK156, GW156, GE156⟩ := n_; clear hb hbox hg; have hcz7_0 : w6.cell? ⟨gb156, 0, none⟩ = some (.int .i64 0) := (blk_cell BK156.out 0).trans rfl; have hcz7_1 : w6.cell? ⟨gb156, 1, none⟩ = some (.int .i64 0) := (blk_cell BK156.out 1).trans rfl; have hcz7_2 : w6.cell? ⟨gb156, 2, none⟩ = some (.int .i64 0) := (blk_cell BK156.out 2).trans rfl; have hcz7_3 : w6.cell? ⟨gb156, 3, none⟩ = some (.int .i64 0) := (blk_cell BK156.out 3).trans rfl; have hcz7_4 : w6.cell? ⟨gb156, 4, none⟩ = some (.bool false) := (blk_cell BK156.out 4).trans rfl; have hfz7_0 := blk_frozen BK156.out 0; have hfz7_1 := blk_frozen BK156.out 1; have hfz7_2 := blk_frozen BK156.out 2; have hfz7_3 := blk_frozen BK156.out 3; have hfz7_4 := blk_frozen BK156.out 4) | ((with_reducible refine gate_store (t := 44) (p := 10) rfl ?_); refine store_event (t := 44) (p := 10) (v := ?vo_w8) (w1 := (((((w6.setCell ⟨gb156, 0, none⟩ (.int .i64 a1)).setCell ⟨gb156, 1, none⟩ (.int .i64 a2)).setCell ⟨gb156, 2, none⟩ (.int .i64 a3)).setCell ⟨gb156, 3, none⟩ (.int .i64 0)).setCell ⟨gb156, 4, none⟩ (.bool true))) ?hg ?ho ?hn ?hr ?_; (case ho => rfl); (case hg => rfl); (case hn => rfl); (case hr => exact gs); intro w8 hw; have n0_ : Aside0 (w8.heap[gb156]? = some (.cells #[.int .i64 a1, .int .i64 a2, .int .i64 a3, .int .i64 0, .bool true] 44 (0, 0))) := ⟨(by rw [hw]; exact (by (with_reducible repeat (first | refine blk_drewN ?_ _ | refine blk_drew ?_ | refine blk_alloc ?_ _)); refine blk_put (cs := #[.int .i64 a1, .int .i64 a2, .int .i64 a3, .int .i64 0, .bool false]) ?_ 4 _ rfl; (with_reducible repeat (first | refine blk_drewN ?_ _ | refine blk_drew ?_ | refine blk_alloc ?_ _)); refine blk_put (cs := #[.int .i64 a1, .int .i64 a2, .int .i64 a3, .int .i64 0, .bool false]) ?_ 3 _ rfl; (with_reducible repeat (first | refine blk_drewN ?_ _ | refine blk_drew ?_ | refine blk_alloc ?_ _)); refine blk_put (cs := #[.int .i64 a1, .int .i64 a2, .int .i64 0, .int .i64 0, .bool false]) ?_ 2 _ rfl; (with_reducible repeat (first | refine blk_drewN ?_ _ | refine blk_drew ?_ | refine blk_alloc ?_ _)); refine blk_put (cs := #[.int .i64 a1, .int .i64 0, .int .i64 0, .int .i64 0, .bool false]) ?_ 1 _ rfl; (with_reducible repeat (first | refine blk_drewN ?_ _ | refine blk_drew ?_ | refine blk_alloc ?_ _)); refine blk_put (cs := #[.int .i64 0, .int .i64 0, .int .i64 0, .int .i64 0, .bool false]) ?_ 0 _ rfl; (with_reducible repeat (first | refine blk_drewN ?_ _ | refine blk_drew ?_ | refine blk_alloc ?_ _)); exact BK156.out))⟩; have n1_ : Aside0 (Below w.heap.size w w8) := ⟨(by rw [hw]; exact (bq1 HB.out GE156.out))⟩; clear hw; clear BK156; clear HB; have BK156 := n0_; have HB := n1_; clear n0_ n1_))
 (try simp only [Act.put, List.setIfInBounds_toArray, List.set_cons_zero, List.set_cons_succ])
 go_cut [34] (fun v34 wc => ∃ (kq : Nat) (x34_4 : Bool), v34 = .bool x34_4 ∧ Aside0 (spec_SetStatic.j0 kq l0 x34_4 a1 a2 a3 0 true = some (r1, r2)) ∧ Aside0 (kq ≤ k) ∧ Aside0 (wc.heap[gb156]? = some (.cells #[.int .i64 a1, .int .i64 a2, .int .i64 a3, .int .i64 0, .bool true] 44 (0, 0))) ∧ Aside0 (Below w.heap.size w wc))
 case first =>
  have H := HC5.out
  clear HC5
  replace H := Option.bind_eq_some_iff.mp H
  obtain ⟨t157, A90, H⟩ := H
  replace H : (if t157 = true then ((spec_l8Ent.f a1 a2 a3 0 true).bind fun t158 => (if t158 = true then ((spec_l8At.f k l0 a1 a2).bind fun t159 => (if t159 < 0 then (spec_SetStatic.j0 k l0 (decide ((l0.length : Int) ≥ 12)) a1 a2 a3 0 true) else (spec_SetStatic.j0 k l0 false a1 a2 a3 0 true))) else (spec_SetStatic.j0 k l0 true a1 a2 a3 0 true))) else (spec_SetStatic.j0 k l0 true a1 a2 a3 0 true)) = some (r1, r2) := H
  have A9 := am A90
  clear A90
  by_cases c10 : t157 = true
  · subst c10
    have H1 : ((spec_l8Ent.f a1 a2 a3 0 true).bind fun t158 => (if t158 = true then ((spec_l8At.f k l0 a1 a2).bind fun t159 => (if t159 < 0 then (spec_SetStatic.j0 k l0 (decide ((l0.length : Int) ≥ 12)) a1 a2 a3 0 true) else (spec_SetStatic.j0 k l0 false a1 a2 a3 0 true))) else (spec_SetStatic.j0 k l0 true a1 a2 a3 0 true))) = some (r1, r2) := by rw [if_pos rfl] at H; exact H
    clear H
    have H := H1
    clear H1
    replace H := Option.bind_eq_some_iff.mp H
    obtain ⟨t158, A110, H⟩ := H
    replace H : (if t158 = true then ((spec_l8At.f k l0 a1 a2).bind fun t159 => (if t159 < 0 then (spec_SetStatic.j0 k l0 (decide ((l0.length : Int) ≥ 12)) a1 a2 a3 0 true) else (spec_SetStatic.j0 k l0 false a1 a2 a3 0 true))) else (spec_SetStatic.j0 k l0 true a1 a2 a3 0 true)) = some (r1, r2) := H
    have A11 := am A110
    clear A110
    by_cases c12 : t158 = true
    · subst c12
      have H1 : ((spec_l8At.f k l0 a1 a2).bind fun t159 => (if t159 < 0 then (spec_SetStatic.j0 k l0 (decide ((l0.length : Int) ≥ 12)) a1 a2 a3 0 true) else (spec_SetStatic.j0 k l0 false a1 a2 a3 0 true))) = some (r1, r2) := by rw [if_pos rfl] at H; exact H
      clear H
      have H := H1
      clear H1
      replace H := Option.bind_eq_some_iff.mp H
      obtain ⟨t159, A130, H⟩ := H
      replace H : (if t159 < 0 then (spec_SetStatic.j0 k l0 (decide ((l0.length : Int) ≥ 12)) a1 a2 a3 0 true) else (spec_SetStatic.j0 k l0 false a1 a2 a3 0 true)) = some (r1, r2) := H
      have A13 := am A130
      clear A130
      by_cases c14 : t159 < 0
      · rw [if_pos c14] at H
        have c14b0 : decide (t159 < 0) = true := decide_eq_true c14
        clear c14
        (first | rw [c14b0] | (simp only [i64_w, i32_w]; rw [c14b0]) | skip)
        have H' := am H
        clear H
        go_wp2_with (first | ((with_reducible refine gate_callee (f := 61) rfl ?_); refine goesL_ (some 16) rfl rfl Try.func61 (by kernel_rfl) rfl #[.slice A0 l0.length c0] rfl ga ?_; (with_reducible refine (spec_FdbOk.calls k _ _ l0 true _ ?side1 ?side2 A9.out).mono ?_); (case side1 => exact cq (Kd.C_below HR0.out HB.out)); (case side2 => exact HC0.out); rintro e w15 ⟨rfl, hb⟩; refine ⟨_, rfl, ?_⟩; have n_ := ak2 (blk_below (g := gb156) (o := .cells #[.int .i64 a1, .int .i64 a2, .int .i64 a3, .int .i64 0, .bool true] 44 (0, 0)) (zq BK156.out) hb) (below_step (bq1 HB.out GE156.out) hb); clear BK156 HB; obtain ⟨BK156, HB⟩ := n_; (try clear hb); have hcz16_0 : w15.cell? ⟨gb156, 0, none⟩ = some (.int .i64 a1) := (blk_cell BK156.out 0).trans rfl; have hcz16_1 : w15.cell? ⟨gb156, 1, none⟩ = some (.int .i64 a2) := (blk_cell BK156.out 1).trans rfl; have hcz16_2 : w15.cell? ⟨gb156, 2, none⟩ = some (.int .i64 a3) := (blk_cell BK156.out 2).trans rfl; have hcz16_3 : w15.cell? ⟨gb156, 3, none⟩ = some (.int .i64 0) := (blk_cell BK156.out 3).trans rfl; have hcz16_4 : w15.cell? ⟨gb156, 4, none⟩ = some (.bool true) := (blk_cell BK156.out 4).trans rfl; have hfz16_0 := blk_frozen BK156.out 0; have hfz16_1 := blk_frozen BK156.out 1; have hfz16_2 := blk_frozen BK156.out 2; have hfz16_3 := blk_frozen BK156.out 3; have hfz16_4 := blk_frozen BK156.out 4) | (go_at_call 75; (with_reducible refine (spec_l8Ent.calls a1 a2 a3 0 true true _ A11.out).mono ?_); rintro e w17 ⟨rfl, hb⟩; have n_ := ak2 (blk_below (g := gb156) (o := .cells #[.int .i64 a1, .int .i64 a2, .int .i64 a3, .int .i64 0, .bool true] 44 (0, 0)) (zq BK156.out) hb) (below_step (bq1 HB.out GE156.out) hb); clear BK156 HB; obtain ⟨BK156, HB⟩ := n_; (try clear hb)) | (go_at_call 76; (with_reducible refine (spec_l8At.calls k _ _ l0 a1 a2 t159 _ ?side1 ?side2 A13.out).mono ?_); (case side1 => exact cq (Kd.C_below HR0.out HB.out)); (case side2 => exact HC0.out); rintro e w' ⟨rfl, ⟨nd, rfl⟩⟩))
        go_meet
        case rel => exact ⟨_, (decide ((l0.length : Int) ≥ 12)), sq, H', ⟨by first | omega | exact Nat.le_refl _⟩, ⟨zq BK156.out⟩, ⟨bq1 HB.out GE156.out⟩⟩
      rw [if_neg c14] at H
      have c14b0 : decide (t159 < 0) = false := decide_eq_false c14
      clear c14
      (first | rw [c14b0] | (simp only [i64_w, i32_w]; rw [c14b0]) | skip)
      have H' := am H
      clear H
      go_wp2_with (first | ((with_reducible refine gate_callee (f := 61) rfl ?_); refine goesL_ (some 16) rfl rfl Try.func61 (by kernel_rfl) rfl #[.slice A0 l0.length c0] rfl ga ?_; (with_reducible refine (spec_FdbOk.calls k _ _ l0 true _ ?side1 ?side2 A9.out).mono ?_); (case side1 => exact cq (Kd.C_below HR0.out HB.out)); (case side2 => exact HC0.out); rintro e w18 ⟨rfl, hb⟩; refine ⟨_, rfl, ?_⟩; have n_ := ak2 (blk_below (g := gb156) (o := .cells #[.int .i64 a1, .int .i64 a2, .int .i64 a3, .int .i64 0, .bool true] 44 (0, 0)) (zq BK156.out) hb) (below_step (bq1 HB.out GE156.out) hb); clear BK156 HB; obtain ⟨BK156, HB⟩ := n_; (try clear hb); have hcz19_0 : w18.cell? ⟨gb156, 0, none⟩ = some (.int .i64 a1) := (blk_cell BK156.out 0).trans rfl; have hcz19_1 : w18.cell? ⟨gb156, 1, none⟩ = some (.int .i64 a2) := (blk_cell BK156.out 1).trans rfl; have hcz19_2 : w18.cell? ⟨gb156, 2, none⟩ = some (.int .i64 a3) := (blk_cell BK156.out 2).trans rfl; have hcz19_3 : w18.cell? ⟨gb156, 3, none⟩ = some (.int .i64 0) := (blk_cell BK156.out 3).trans rfl; have hcz19_4 : w18.cell? ⟨gb156, 4, none⟩ = some (.bool true) := (blk_cell BK156.out 4).trans rfl; have hfz19_0 := blk_frozen BK156.out 0; have hfz19_1 := blk_frozen BK156.out 1; have hfz19_2 := blk_frozen BK156.out 2; have hfz19_3 := blk_frozen BK156.out 3; have hfz19_4 := blk_frozen BK156.out 4) | (go_at_call 75; (with_reducible refine (spec_l8Ent.calls a1 a2 a3 0 true true _ A11.out).mono ?_); rintro e w20 ⟨rfl, hb⟩; have n_ := ak2 (blk_below (g := gb156) (o := .cells #[.int .i64 a1, .int .i64 a2, .int .i64 a3, .int .i64 0, .bool true] 44 (0, 0)) (zq BK156.out) hb) (below_step (bq1 HB.out GE156.out) hb); clear BK156 HB; obtain ⟨BK156, HB⟩ := n_; (try clear hb)) | (go_at_call 76; (with_reducible refine (spec_l8At.calls k _ _ l0 a1 a2 t159 _ ?side1 ?side2 A13.out).mono ?_); (case side1 => exact cq (Kd.C_below HR0.out HB.out)); (case side2 => exact HC0.out); rintro e w' ⟨rfl, ⟨nd, rfl⟩⟩))
      go_meet
      case rel => exact ⟨_, (false), sq, H', ⟨by first | omega | exact Nat.le_refl _⟩, ⟨zq BK156.out⟩, ⟨bq1 HB.out GE156.out⟩⟩
    replace c12 := Bool.eq_false_iff.mpr c12
    subst c12
    have H1 : (spec_SetStatic.j0 k l0 true a1 a2 a3 0 true) = some (r1, r2) := by rw [if_neg (show ¬ (false = true) by decide)] at H; exact H
    clear H
    have H := H1
    clear H1
    have H' := am H
    clear H
    go_wp2_with (first | ((with_reducible refine gate_callee (f := 61) rfl ?_); refine goesL_ (some 16) rfl rfl Try.func61 (by kernel_rfl) rfl #[.slice A0 l0.length c0] rfl ga ?_; (with_reducible refine (spec_FdbOk.calls k _ _ l0 true _ ?side1 ?side2 A9.out).mono ?_); (case side1 => exact cq (Kd.C_below HR0.out HB.out)); (case side2 => exact HC0.out); rintro e w21 ⟨rfl, hb⟩; refine ⟨_, rfl, ?_⟩; have n_ := ak2 (blk_below (g := gb156) (o := .cells #[.int .i64 a1, .int .i64 a2, .int .i64 a3, .int .i64 0, .bool true] 44 (0, 0)) (zq BK156.out) hb) (below_step (bq1 HB.out GE156.out) hb); clear BK156 HB; obtain ⟨BK156, HB⟩ := n_; (try clear hb); have hcz22_0 : w21.cell? ⟨gb156, 0, none⟩ = some (.int .i64 a1) := (blk_cell BK156.out 0).trans rfl; have hcz22_1 : w21.cell? ⟨gb156, 1, none⟩ = some (.int .i64 a2) := (blk_cell BK156.out 1).trans rfl; have hcz22_2 : w21.cell? ⟨gb156, 2, none⟩ = some (.int .i64 a3) := (blk_cell BK156.out 2).trans rfl; have hcz22_3 : w21.cell? ⟨gb156, 3, none⟩ = some (.int .i64 0) := (blk_cell BK156.out 3).trans rfl; have hcz22_4 : w21.cell? ⟨gb156, 4, none⟩ = some (.bool true) := (blk_cell BK156.out 4).trans rfl; have hfz22_0 := blk_frozen BK156.out 0; have hfz22_1 := blk_frozen BK156.out 1; have hfz22_2 := blk_frozen BK156.out 2; have hfz22_3 := blk_frozen BK156.out 3; have hfz22_4 := blk_frozen BK156.out 4) | (go_at_call 75; (with_reducible refine (spec_l8Ent.calls a1 a2 a3 0 true false _ A11.out).mono ?_); rintro e w23 ⟨rfl, hb⟩; have n_ := ak2 (blk_below (g := gb156) (o := .cells #[.int .i64 a1, .int .i64 a2, .int .i64 a3, .int .i64 0, .bool true] 44 (0, 0)) (zq BK156.out) hb) (below_step (bq1 HB.out GE156.out) hb); clear BK156 HB; obtain ⟨BK156, HB⟩ := n_; (try clear hb)))
    go_meet
    case rel => exact ⟨_, (true), sq, H', ⟨by first | omega | exact Nat.le_refl _⟩, ⟨zq BK156.out⟩, ⟨bq1 HB.out GE156.out⟩⟩
  replace c10 := Bool.eq_false_iff.mpr c10
  subst c10
  have H1 : (spec_SetStatic.j0 k l0 true a1 a2 a3 0 true) = some (r1, r2) := by rw [if_neg (show ¬ (false = true) by decide)] at H; exact H
  clear H
  have H := H1
  clear H1
  have H' := am H
  clear H
  go_wp2_with (first | ((with_reducible refine gate_callee (f := 61) rfl ?_); refine goesL_ (some 16) rfl rfl Try.func61 (by kernel_rfl) rfl #[.slice A0 l0.length c0] rfl ga ?_; (with_reducible refine (spec_FdbOk.calls k _ _ l0 false _ ?side1 ?side2 A9.out).mono ?_); (case side1 => exact cq (Kd.C_below HR0.out HB.out)); (case side2 => exact HC0.out); rintro e w24 ⟨rfl, hb⟩; refine ⟨_, rfl, ?_⟩; have n_ := ak2 (blk_below (g := gb156) (o := .cells #[.int .i64 a1, .int .i64 a2, .int .i64 a3, .int .i64 0, .bool true] 44 (0, 0)) (zq BK156.out) hb) (below_step (bq1 HB.out GE156.out) hb); clear BK156 HB; obtain ⟨BK156, HB⟩ := n_; (try clear hb)))
  go_meet
  case rel => exact ⟨_, (true), sq, H', ⟨by first | omega | exact Nat.le_refl _⟩, ⟨zq BK156.out⟩, ⟨bq1 HB.out GE156.out⟩⟩
 case rest =>
  clear HC5
  try clear c1
  try clear c2
  try clear p2
  try clear c6
  try clear c10
  try clear c12
  try clear c14
  try clear c14b0
  try clear c20
  try clear hcz16_0
  try clear hcz16_1
  try clear hcz16_2
  try clear hcz16_3
  try clear hcz16_4
  try clear hcz19_0
  try clear hcz19_1
  try clear hcz19_2
  try clear hcz19_3
  try clear hcz19_4
  try clear hcz22_0
  try clear hcz22_1
  try clear hcz22_2
  try clear hcz22_3
  try clear hcz22_4
  try clear hcz7_0
  try clear hcz7_1
  try clear hcz7_2
  try clear hcz7_3
  try clear hcz7_4
  try clear hfz16_0
  try clear hfz16_1
  try clear hfz16_2
  try clear hfz16_3
  try clear hfz16_4
  try clear hfz19_0
  try clear hfz19_1
  try clear hfz19_2
  try clear hfz19_3
  try clear hfz19_4
  try clear hfz22_0
  try clear hfz22_1
  try clear hfz22_2
  try clear hfz22_3
  try clear hfz22_4
  try clear hfz7_0
  try clear hfz7_1
  try clear hfz7_2
  try clear hfz7_3
  try clear hfz7_4
  obtain ⟨kq, x34_4, rfl, HA, HJ4, BK156, HB⟩ := hcut
  cases kq with
  | zero => exact absurd HA.out (by simp [spec_SetStatic.j0])
  | succ kj4 =>
   have H := HA.out
   clear HA
   simp only [spec_SetStatic.j0] at H
   by_cases c25 : x34_4 = true
   · subst c25
     have H1 : ((spec_l8Copy.f l0).bind fun t160 => (some (t160, false))) = some (r1, r2) := by rw [if_pos rfl] at H; exact H
     clear H
     have H := H1
     clear H1
     replace H := Option.bind_eq_some_iff.mp H
     obtain ⟨t160, A260, H⟩ := H
     replace H : (some (t160, false)) = some (r1, r2) := H
     have A26 := am A260
     clear A260
     simp only [Option.some.injEq, Prod.mk.injEq] at H
     obtain ⟨rfl, rfl⟩ := H
     go_wp2_with (first | ((with_reducible refine gate_callee (f := 77) rfl ?_); refine goesL_ (some 36) rfl rfl Try.func77 (by kernel_rfl) rfl #[.slice A0 l0.length c0] rfl ga ?_; (with_reducible refine (spec_l8Copy.calls _ _ l0 t160 _ ?side1 ?side2 A26.out).mono ?_); (case side1 => exact cq (Kd.C_below HR0.out HB.out)); (case side2 => exact HC0.out); rintro e w27 ⟨v161, rfl, ho0, hb⟩; refine ⟨_, rfl, ?_⟩; have n_ := ak3 (Kd.R_lower (Kd.R_newB ho0 (g := gb156) (o := .cells #[.int .i64 a1, .int .i64 a2, .int .i64 a3, .int .i64 0, .bool true] 44 (0, 0)) (zq BK156.out)) (below_size (bq1 HB.out GE156.out))) (blk_below (g := gb156) (o := .cells #[.int .i64 a1, .int .i64 a2, .int .i64 a3, .int .i64 0, .bool true] 44 (0, 0)) (zq BK156.out) hb) (below_step (bq1 HB.out GE156.out) hb); clear BK156 HB; obtain ⟨HO162, BK156, HB⟩ := n_; (try clear hb ho0)))
     go_ret2
     exact ⟨_, rq, by (with_reducible repeat (first | apply Kd.R_alloc | apply Kd.R_drewN | apply Kd.R_drew)); exact Kd.R_mono HO162.out (fun _ hk => trivial), bq1 HB.out GE156.out⟩
   replace c25 := Bool.eq_false_iff.mpr c25
   subst c25
   have H1 : ((spec_l8Put.f kj4 l0 a1 a2 a3 0 true).bind fun t163 => (some (t163, true))) = some (r1, r2) := by rw [if_neg (show ¬ (false = true) by decide)] at H; exact H
   clear H
   have H := H1
   clear H1
   replace H := Option.bind_eq_some_iff.mp H
   obtain ⟨t163, A280, H⟩ := H
   replace H : (some (t163, true)) = some (r1, r2) := H
   have A28 := am A280
   clear A280
   simp only [Option.some.injEq, Prod.mk.injEq] at H
   obtain ⟨rfl, rfl⟩ := H
   have hcz29_0 : wc.cell? ⟨gb156, 0, none⟩ = some (.int .i64 a1) := (blk_cell BK156.out 0).trans rfl
   have hcz29_1 : wc.cell? ⟨gb156, 1, none⟩ = some (.int .i64 a2) := (blk_cell BK156.out 1).trans rfl
   have hcz29_2 : wc.cell? ⟨gb156, 2, none⟩ = some (.int .i64 a3) := (blk_cell BK156.out 2).trans rfl
   have hcz29_3 : wc.cell? ⟨gb156, 3, none⟩ = some (.int .i64 0) := (blk_cell BK156.out 3).trans rfl
   have hcz29_4 : wc.cell? ⟨gb156, 4, none⟩ = some (.bool true) := (blk_cell BK156.out 4).trans rfl
   have hfz29_0 := blk_frozen BK156.out 0
   have hfz29_1 := blk_frozen BK156.out 1
   have hfz29_2 := blk_frozen BK156.out 2
   have hfz29_3 := blk_frozen BK156.out 3
   have hfz29_4 := blk_frozen BK156.out 4
   go_wp2_with (first | ((with_reducible refine gate_callee (f := 78) rfl ?_); refine goesL_ (some 39) rfl rfl Try.func78 (by kernel_rfl) rfl #[.slice A0 l0.length c0, .agg #[.int .i64 a1, .int .i64 a2, .int .i64 a3, .int .i64 0, .bool true]] rfl ga ?_; (with_reducible refine (spec_l8Put.calls kj4 _ _ l0 a1 a2 a3 0 true t163 _ ?side1 ?side2 A28.out).mono ?_); (case side1 => exact cq (Kd.C_below HR0.out HB.out)); (case side2 => exact HC0.out); rintro e w30 ⟨v164, rfl, ho0, hb⟩; refine ⟨_, rfl, ?_⟩; have n_ := ak3 (Kd.R_lower (Kd.R_newB ho0 (g := gb156) (o := .cells #[.int .i64 a1, .int .i64 a2, .int .i64 a3, .int .i64 0, .bool true] 44 (0, 0)) (zq BK156.out)) (below_size (bq1 HB.out GE156.out))) (blk_below (g := gb156) (o := .cells #[.int .i64 a1, .int .i64 a2, .int .i64 a3, .int .i64 0, .bool true] 44 (0, 0)) (zq BK156.out) hb) (below_step (bq1 HB.out GE156.out) hb); clear BK156 HB; obtain ⟨HO165, BK156, HB⟩ := n_; (try clear hb ho0)))
   go_ret2
   exact ⟨_, rq, by (with_reducible repeat (first | apply Kd.R_alloc | apply Kd.R_drewN | apply Kd.R_drew)); exact Kd.R_mono HO165.out (fun _ hk => trivial), bq1 HB.out GE156.out⟩

/-! ### spec_Learn: function 32 -/
def spec_Learn.j0 : Nat → List (S44) → Bool → Int → Int → Int → Int → Bool → Option ((List (S44)))
 | 0, _, _, _, _, _, _, _ => none
 | k + 1, x0, x46, x167000, x167001, x167002, x167003, x167004 => if x46 = true then ((spec_l8Copy.f x0).bind fun t171 => (some t171)) else ((spec_l8Put.f k x0 x167000 x167001 x167002 x167003 x167004).bind fun t174 => (some t174))
def spec_Learn.f (k : Nat) (l0 : List (S44)) (a1 : Int) (a2 : Int) (a3 : Int) : Option ((List (S44))) := (spec_l8At.f k l0 a1 a2).bind fun t167 => ((spec_FdbOk.f k l0).bind fun t168 => (if t168 = true then ((spec_l8Ent.f a1 a2 a3 0 false).bind fun t169 => (if t169 = true then (if t167 ≥ 0 then (if 0 ≤ t167 then (if t167 < (l0.length : Int) then (if (rd_T44 l0 t167).f4 = true then (spec_Learn.j0 k l0 true a1 a2 a3 0 false) else (if t167 < 0 then (spec_Learn.j0 k l0 (decide ((l0.length : Int) ≥ 12)) a1 a2 a3 0 false) else (spec_Learn.j0 k l0 false a1 a2 a3 0 false))) else (none)) else (none)) else (if t167 < 0 then (spec_Learn.j0 k l0 (decide ((l0.length : Int) ≥ 12)) a1 a2 a3 0 false) else (spec_Learn.j0 k l0 false a1 a2 a3 0 false))) else (spec_Learn.j0 k l0 true a1 a2 a3 0 false))) else (spec_Learn.j0 k l0 true a1 a2 a3 0 false)))
theorem spec_Learn.mono_l : ∀ k, (∀ y0 y1 y2 y3 y4 y5 y6, LeO (spec_Learn.j0 k y0 y1 y2 y3 y4 y5 y6) (spec_Learn.j0 (k + 1) y0 y1 y2 y3 y4 y5 y6))
 | 0 => fun _ _ _ _ _ _ _ r h => by simp [spec_Learn.j0] at h
 | k + 1 => by
  have ih0 := spec_Learn.mono_l k
  intro y0 y1 y2 y3 y4 y5 y6
  unfold spec_Learn.j0
  repeat' first
  | (with_reducible exact ih0 _ _ _ _ _ _ _)
  | (with_reducible exact spec_FdbOk.mono _ _)
  | (with_reducible exact spec_l8At.mono _ _ _ _)
  | (with_reducible exact spec_l8Put.mono _ _ _ _ _ _ _)
  | (with_reducible exact LeO.refl _)
  | (with_reducible exact LeO.none _)
  | (with_reducible refine LeO.ite ?_ ?_)
  | (with_reducible refine LeO.bind ?_ (fun _ => ?_))
  | exact ih0 _ _ _ _ _ _ _
  | exact spec_FdbOk.mono _ _
  | exact spec_l8At.mono _ _ _ _
  | exact spec_l8Put.mono _ _ _ _ _ _ _
  | exact LeO.none _
  | refine LeO.ite ?_ ?_
  | refine LeO.bind ?_ (fun _ => ?_)
theorem spec_Learn.mono : ∀ a0 a1 a2 a3 k, LeO (spec_Learn.f k a0 a1 a2 a3) (spec_Learn.f (k + 1) a0 a1 a2 a3) := by
 intro a0 a1 a2 a3 k
 have ih0 := spec_Learn.mono_l k
 unfold spec_Learn.f
 repeat' first
  | (with_reducible exact ih0 _ _ _ _ _ _ _)
  | (with_reducible exact spec_FdbOk.mono _ _)
  | (with_reducible exact spec_l8At.mono _ _ _ _)
  | (with_reducible exact spec_l8Put.mono _ _ _ _ _ _ _)
  | (with_reducible exact LeO.refl _)
  | (with_reducible exact LeO.none _)
  | (with_reducible refine LeO.ite ?_ ?_)
  | (with_reducible refine LeO.bind ?_ (fun _ => ?_))
  | exact ih0 _ _ _ _ _ _ _
  | exact spec_FdbOk.mono _ _
  | exact spec_l8At.mono _ _ _ _
  | exact spec_l8Put.mono _ _ _ _ _ _ _
  | exact LeO.none _
  | refine LeO.ite ?_ ?_
  | refine LeO.bind ?_ (fun _ => ?_)
set_option maxHeartbeats 8000000 in
set_option maxRecDepth 100000 in
theorem spec_Learn.calls (k : Nat) (A0 : Option Addr) (c0 : Nat) (l0 : List (S44)) (a1 : Int) (a2 : Int) (a3 : Int) (r : List (S44)) (w : World) (hr0 : Kd.C k44 w A0 l0.length l0) (hc0 : l0.length ≤ c0) (h : spec_Learn.f k l0 a1 a2 a3 = some r) :
 Calls Try.prog 32 #[.slice A0 l0.length c0, .int .i64 a1, .int .i64 a2, .int .i64 a3] w fun e w' => ∃ v0_ : Value, e = .returned (v0_) ∧ Kd.R k44 44 w' w.heap.size (fun _ => True) v0_ r ∧ Below w.heap.size w w' := by
 have hu44 := Try.underlying44
 have HR0 := am hr0
 have HC0 := am hc0
 clear hr0 hc0
 have HB := am (Below.refl w.heap.size w)
 have H : ((spec_l8At.f k l0 a1 a2).bind fun t167 => ((spec_FdbOk.f k l0).bind fun t168 => (if t168 = true then ((spec_l8Ent.f a1 a2 a3 0 false).bind fun t169 => (if t169 = true then (if t167 ≥ 0 then (if 0 ≤ t167 then (if t167 < (l0.length : Int) then (if (rd_T44 l0 t167).f4 = true then (spec_Learn.j0 k l0 true a1 a2 a3 0 false) else (if t167 < 0 then (spec_Learn.j0 k l0 (decide ((l0.length : Int) ≥ 12)) a1 a2 a3 0 false) else (spec_Learn.j0 k l0 false a1 a2 a3 0 false))) else (none)) else (none)) else (if t167 < 0 then (spec_Learn.j0 k l0 (decide ((l0.length : Int) ≥ 12)) a1 a2 a3 0 false) else (spec_Learn.j0 k l0 false a1 a2 a3 0 false))) else (spec_Learn.j0 k l0 true a1 a2 a3 0 false))) else (spec_Learn.j0 k l0 true a1 a2 a3 0 false)))) = some r := h
 clear h
 replace H := Option.bind_eq_some_iff.mp H
 obtain ⟨t167, A50, H⟩ := H
 replace H : ((spec_FdbOk.f k l0).bind fun t168 => (if t168 = true then ((spec_l8Ent.f a1 a2 a3 0 false).bind fun t169 => (if t169 = true then (if t167 ≥ 0 then (if 0 ≤ t167 then (if t167 < (l0.length : Int) then (if (rd_T44 l0 t167).f4 = true then (spec_Learn.j0 k l0 true a1 a2 a3 0 false) else (if t167 < 0 then (spec_Learn.j0 k l0 (decide ((l0.length : Int) ≥ 12)) a1 a2 a3 0 false) else (spec_Learn.j0 k l0 false a1 a2 a3 0 false))) else (none)) else (none)) else (if t167 < 0 then (spec_Learn.j0 k l0 (decide ((l0.length : Int) ≥ 12)) a1 a2 a3 0 false) else (spec_Learn.j0 k l0 false a1 a2 a3 0 false))) else (spec_Learn.j0 k l0 true a1 a2 a3 0 false))) else (spec_Learn.j0 k l0 true a1 a2 a3 0 false))) = some r := H
 have A5 := am A50
 clear A50
 have HC6 := am H
 clear H
 go_enter Try.func32, Try.ntmps32
 go_upto_region 3 with (first | ((with_reducible refine gate_dst (N := 9) rfl ?_); (try (refine gate_guard (by rfl) ?_; dsimp only)); refine box_event ?hg (N := 9) ?hd (cs := #[.int .i64 0, .int .i64 0, .int .i64 0, .int .i64 0, .bool false]) (t := 44) ?hr ?_; (case hd => rfl); (case hg => rfl); (case hr => exact gs); intro gb166 hg w7 hbox hb; have n_ := ak4 (below_step (bq HB.out) hb) hbox ((by rw [hg]; exact (below_size (bq HB.out)) : w.heap.size ≤ gb166)) ((by rw [hg]; exact (below_size (bq HB.out)) : w.heap.size ≤ gb166)); clear HB; obtain ⟨HB, BK166, GW166, GE166⟩ := n_; clear hb hbox hg; have hcz8_0 : w7.cell? ⟨gb166, 0, none⟩ = some (.int .i64 0) := (blk_cell BK166.out 0).trans rfl; have hcz8_1 : w7.cell? ⟨gb166, 1, none⟩ = some (.int .i64 0) := (blk_cell BK166.out 1).trans rfl; have hcz8_2 : w7.cell? ⟨gb166, 2, none⟩ = some (.int .i64 0) := (blk_cell BK166.out 2).trans rfl; have hcz8_3 : w7.cell? ⟨gb166, 3, none⟩ = some (.int .i64 0) := (blk_cell BK166.out 3).trans rfl; have hcz8_4 : w7.cell? ⟨gb166, 4, none⟩ = some (.bool false) := (blk_cell BK166.out 4).trans rfl; have hfz8_0 := blk_frozen BK166.out 0; have hfz8_1 := blk_frozen BK166.out 1; have hfz8_2 := blk_frozen BK166.out 2; have hfz8_3 := blk_frozen BK166.out 3; have hfz8_4 := blk_frozen BK166.out 4) | ((with_reducible refine gate_store (t := 44) (p := 9) rfl ?_); refine store_event (t := 44) (p := 9) (v := ?vo_w9) (w1 := (((((w7.setCell ⟨gb166, 0, none⟩ (.int .i64 a1)).setCell ⟨gb166, 1, none⟩ (.int .i64 a2)).setCell ⟨gb166, 2, none⟩ (.int .i64 a3)).setCell ⟨gb166, 3, none⟩ (.int .i64 0)).setCell ⟨gb166, 4, none⟩ (.bool false))) ?hg ?ho ?hn ?hr ?_; (case ho => rfl); (case hg => rfl); (case hn => rfl); (case hr => exact gs); intro w9 hw; have n0_ : Aside0 (w9.heap[gb166]? = some (.cells #[.int .i64 a1, .int .i64 a2, .int .i64 a3, .int .i64 0, .bool false] 44 (0, 0))) := ⟨(by rw [hw]; exact (by (with_reducible repeat (first | refine blk_drewN ?_ _ | refine blk_drew ?_ | refine blk_alloc ?_ _)); refine blk_put (cs := #[.int .i64 a1, .int .i64 a2, .int .i64 a3, .int .i64 0, .bool false]) ?_ 4 _ rfl; (with_reducible repeat (first | refine blk_drewN ?_ _ | refine blk_drew ?_ | refine blk_alloc ?_ _)); refine blk_put (cs := #[.int .i64 a1, .int .i64 a2, .int .i64 a3, .int .i64 0, .bool false]) ?_ 3 _ rfl; (with_reducible repeat (first | refine blk_drewN ?_ _ | refine blk_drew ?_ | refine blk_alloc ?_ _)); refine blk_put (cs := #[.int .i64 a1, .int .i64 a2, .int .i64 0, .int .i64 0, .bool false]) ?_ 2 _ rfl; (with_reducible repeat (first | refine blk_drewN ?_ _ | refine blk_drew ?_ | refine blk_alloc ?_ _)); refine blk_put (cs := #[.int .i64 a1, .int .i64 0, .int .i64 0, .int .i64 0, .bool false]) ?_ 1 _ rfl; (with_reducible repeat (first | refine blk_drewN ?_ _ | refine blk_drew ?_ | refine blk_alloc ?_ _)); refine blk_put (cs := #[.int .i64 0, .int .i64 0, .int .i64 0, .int .i64 0, .bool false]) ?_ 0 _ rfl; (with_reducible repeat (first | refine blk_drewN ?_ _ | refine blk_drew ?_ | refine blk_alloc ?_ _)); exact BK166.out))⟩; have n1_ : Aside0 (Below w.heap.size w w9) := ⟨(by rw [hw]; exact (bq1 HB.out GE166.out))⟩; clear hw; clear BK166; clear HB; have BK166 := n0_; have HB := n1_; clear n0_ n1_) | ((with_reducible refine gate_callee (f := 76) rfl ?_); refine goesL_ (some 18) rfl rfl Try.func76 (by kernel_rfl) rfl #[.slice A0 l0.length c0, .int .i64 a1, .int .i64 a2] rfl ga ?_; (with_reducible refine (spec_l8At.calls k _ _ l0 a1 a2 t167 _ ?side1 ?side2 A5.out).mono ?_); (case side1 => exact cq (Kd.C_below HR0.out HB.out)); (case side2 => exact HC0.out); rintro e w' ⟨rfl, ⟨nd, rfl⟩⟩; refine ⟨_, rfl, ?_⟩))
 (try simp only [Act.put, List.setIfInBounds_toArray, List.set_cons_zero, List.set_cons_succ])
 go_cut [46] (fun v46 wc => ∃ (kq : Nat) (x46_5 : Bool), v46 = .bool x46_5 ∧ Aside0 (spec_Learn.j0 kq l0 x46_5 a1 a2 a3 0 false = some r) ∧ Aside0 (kq ≤ k) ∧ Aside0 (wc.heap[gb166]? = some (.cells #[.int .i64 a1, .int .i64 a2, .int .i64 a3, .int .i64 0, .bool false] 44 (0, 0))) ∧ Aside0 (Below w.heap.size w wc))
 case first =>
  have H := HC6.out
  clear HC6
  replace H := Option.bind_eq_some_iff.mp H
  obtain ⟨t168, A100, H⟩ := H
  replace H : (if t168 = true then ((spec_l8Ent.f a1 a2 a3 0 false).bind fun t169 => (if t169 = true then (if t167 ≥ 0 then (if 0 ≤ t167 then (if t167 < (l0.length : Int) then (if (rd_T44 l0 t167).f4 = true then (spec_Learn.j0 k l0 true a1 a2 a3 0 false) else (if t167 < 0 then (spec_Learn.j0 k l0 (decide ((l0.length : Int) ≥ 12)) a1 a2 a3 0 false) else (spec_Learn.j0 k l0 false a1 a2 a3 0 false))) else (none)) else (none)) else (if t167 < 0 then (spec_Learn.j0 k l0 (decide ((l0.length : Int) ≥ 12)) a1 a2 a3 0 false) else (spec_Learn.j0 k l0 false a1 a2 a3 0 false))) else (spec_Learn.j0 k l0 true a1 a2 a3 0 false))) else (spec_Learn.j0 k l0 true a1 a2 a3 0 false)) = some r := H
  have A10 := am A100
  clear A100
  by_cases c11 : t168 = true
  · subst c11
    have H1 : ((spec_l8Ent.f a1 a2 a3 0 false).bind fun t169 => (if t169 = true then (if t167 ≥ 0 then (if 0 ≤ t167 then (if t167 < (l0.length : Int) then (if (rd_T44 l0 t167).f4 = true then (spec_Learn.j0 k l0 true a1 a2 a3 0 false) else (if t167 < 0 then (spec_Learn.j0 k l0 (decide ((l0.length : Int) ≥ 12)) a1 a2 a3 0 false) else (spec_Learn.j0 k l0 false a1 a2 a3 0 false))) else (none)) else (none)) else (if t167 < 0 then (spec_Learn.j0 k l0 (decide ((l0.length : Int) ≥ 12)) a1 a2 a3 0 false) else (spec_Learn.j0 k l0 false a1 a2 a3 0 false))) else (spec_Learn.j0 k l0 true a1 a2 a3 0 false))) = some r := by rw [if_pos rfl] at H; exact H
    clear H
    have H := H1
    clear H1
    replace H := Option.bind_eq_some_iff.mp H
    obtain ⟨t169, A120, H⟩ := H
    replace H : (if t169 = true then (if t167 ≥ 0 then (if 0 ≤ t167 then (if t167 < (l0.length : Int) then (if (rd_T44 l0 t167).f4 = true then (spec_Learn.j0 k l0 true a1 a2 a3 0 false) else (if t167 < 0 then (spec_Learn.j0 k l0 (decide ((l0.length : Int) ≥ 12)) a1 a2 a3 0 false) else (spec_Learn.j0 k l0 false a1 a2 a3 0 false))) else (none)) else (none)) else (if t167 < 0 then (spec_Learn.j0 k l0 (decide ((l0.length : Int) ≥ 12)) a1 a2 a3 0 false) else (spec_Learn.j0 k l0 false a1 a2 a3 0 false))) else (spec_Learn.j0 k l0 true a1 a2 a3 0 false)) = some r := H
    have A12 := am A120
    clear A120
    by_cases c13 : t169 = true
    · subst c13
      have H1 : (if t167 ≥ 0 then (if 0 ≤ t167 then (if t167 < (l0.length : Int) then (if (rd_T44 l0 t167).f4 = true then (spec_Learn.j0 k l0 true a1 a2 a3 0 false) else (if t167 < 0 then (spec_Learn.j0 k l0 (decide ((l0.length : Int) ≥ 12)) a1 a2 a3 0 false) else (spec_Learn.j0 k l0 false a1 a2 a3 0 false))) else (none)) else (none)) else (if t167 < 0 then (spec_Learn.j0 k l0 (decide ((l0.length : Int) ≥ 12)) a1 a2 a3 0 false) else (spec_Learn.j0 k l0 false a1 a2 a3 0 false))) = some r := by rw [if_pos rfl] at H; exact H
      clear H
      have H := H1
      clear H1
      by_cases c14 : t167 ≥ 0
      · rw [if_pos c14] at H
        have c14b0 : decide (0 ≤ t167) = true := decide_eq_true c14
        clear c14
        (first | rw [c14b0] | (simp only [i64_w, i32_w]; rw [c14b0]) | skip)
        by_cases c15 : 0 ≤ t167
        · rw [if_pos c15] at H
          have c15b0 : decide (0 ≤ t167) = true := decide_eq_true c15
          clear c15
          by_cases c16 : t167 < (l0.length : Int)
          · rw [if_pos c16] at H
            have c16b0 : decide (t167 < (l0.length : Int)) = true := decide_eq_true c16
            clear c16
            obtain ⟨bq17, hbq17⟩ : ∃ b_ : Bool, b_ = ((rd_T44 l0 t167).f4) := ⟨_, rfl⟩
            replace H : (if bq17 = true then (spec_Learn.j0 k l0 true a1 a2 a3 0 false) else (if t167 < 0 then (spec_Learn.j0 k l0 (decide ((l0.length : Int) ≥ 12)) a1 a2 a3 0 false) else (spec_Learn.j0 k l0 false a1 a2 a3 0 false))) = some r := by rw [← hbq17] at H; exact H
            have Nbq17 := am hbq17
            clear hbq17
            by_cases c18 : bq17 = true
            · subst c18
              have H1 : (spec_Learn.j0 k l0 true a1 a2 a3 0 false) = some r := by rw [if_pos rfl] at H; exact H
              clear H
              have H := H1
              clear H1
              have H' := am H
              clear H
              go_wp2_with (first | ((with_reducible refine gate_callee (f := 61) rfl ?_); refine goesL_ (some 20) rfl rfl Try.func61 (by kernel_rfl) rfl #[.slice A0 l0.length c0] rfl ga ?_; (with_reducible refine (spec_FdbOk.calls k _ _ l0 true _ ?side1 ?side2 A10.out).mono ?_); (case side1 => exact cq (Kd.C_below HR0.out HB.out)); (case side2 => exact HC0.out); rintro e w19 ⟨rfl, hb⟩; refine ⟨_, rfl, ?_⟩; have n_ := ak2 (blk_below (g := gb166) (o := .cells #[.int .i64 a1, .int .i64 a2, .int .i64 a3, .int .i64 0, .bool false] 44 (0, 0)) (zq BK166.out) hb) (below_step (bq1 HB.out GE166.out) hb); clear BK166 HB; obtain ⟨BK166, HB⟩ := n_; (try clear hb); have hcz20_0 : w19.cell? ⟨gb166, 0, none⟩ = some (.int .i64 a1) := (blk_cell BK166.out 0).trans rfl; have hcz20_1 : w19.cell? ⟨gb166, 1, none⟩ = some (.int .i64 a2) := (blk_cell BK166.out 1).trans rfl; have hcz20_2 : w19.cell? ⟨gb166, 2, none⟩ = some (.int .i64 a3) := (blk_cell BK166.out 2).trans rfl; have hcz20_3 : w19.cell? ⟨gb166, 3, none⟩ = some (.int .i64 0) := (blk_cell BK166.out 3).trans rfl; have hcz20_4 : w19.cell? ⟨gb166, 4, none⟩ = some (.bool false) := (blk_cell BK166.out 4).trans rfl; have hfz20_0 := blk_frozen BK166.out 0; have hfz20_1 := blk_frozen BK166.out 1; have hfz20_2 := blk_frozen BK166.out 2; have hfz20_3 := blk_frozen BK166.out 3; have hfz20_4 := blk_frozen BK166.out 4) | (go_at_call 75; (with_reducible refine (spec_l8Ent.calls a1 a2 a3 0 false true _ A12.out).mono ?_); rintro e w21 ⟨rfl, hb⟩; have n_ := ak2 (blk_below (g := gb166) (o := .cells #[.int .i64 a1, .int .i64 a2, .int .i64 a3, .int .i64 0, .bool false] 44 (0, 0)) (zq BK166.out) hb) (below_step (bq1 HB.out GE166.out) hb); clear BK166 HB; obtain ⟨BK166, HB⟩ := n_; (try clear hb); have p170 : 0 ≤ (t167 : Int) := oda; have q170 : t167 < (l0.length : Int) := oda; obtain ⟨ad170, e170, hx170_0, hx170_1, hx170_2, hx170_3, hx170_4⟩ := at_T44 HR0.out t167 p170 q170; (try rw [← Nbq17.out] at hx170_4); cases e170; replace hx170_0 := (HB.out.cell (World.block_lt_of_cell? w _ hx170_0)).trans hx170_0; replace hx170_1 := (HB.out.cell (World.block_lt_of_cell? w _ hx170_1)).trans hx170_1; replace hx170_2 := (HB.out.cell (World.block_lt_of_cell? w _ hx170_2)).trans hx170_2; replace hx170_3 := (HB.out.cell (World.block_lt_of_cell? w _ hx170_3)).trans hx170_3; replace hx170_4 := (HB.out.cell (World.block_lt_of_cell? w _ hx170_4)).trans hx170_4; replace p170 := eq_true p170; replace q170 := eq_true q170))
              go_meet
              case rel => exact ⟨_, (true), sq, H', ⟨by first | omega | exact Nat.le_refl _⟩, ⟨zq BK166.out⟩, ⟨bq1 HB.out GE166.out⟩⟩
            replace c18 := Bool.eq_false_iff.mpr c18
            subst c18
            have H1 : (if t167 < 0 then (spec_Learn.j0 k l0 (decide ((l0.length : Int) ≥ 12)) a1 a2 a3 0 false) else (spec_Learn.j0 k l0 false a1 a2 a3 0 false)) = some r := by rw [if_neg (show ¬ (false = true) by decide)] at H; exact H
            clear H
            have H := H1
            clear H1
            by_cases c22 : t167 < 0
            · rw [if_pos c22] at H
              have c22b0 : decide (t167 < 0) = true := decide_eq_true c22
              clear c22
              have H' := am H
              clear H
              go_wp2_with (first | ((with_reducible refine gate_callee (f := 61) rfl ?_); refine goesL_ (some 20) rfl rfl Try.func61 (by kernel_rfl) rfl #[.slice A0 l0.length c0] rfl ga ?_; (with_reducible refine (spec_FdbOk.calls k _ _ l0 true _ ?side1 ?side2 A10.out).mono ?_); (case side1 => exact cq (Kd.C_below HR0.out HB.out)); (case side2 => exact HC0.out); rintro e w23 ⟨rfl, hb⟩; refine ⟨_, rfl, ?_⟩; have n_ := ak2 (blk_below (g := gb166) (o := .cells #[.int .i64 a1, .int .i64 a2, .int .i64 a3, .int .i64 0, .bool false] 44 (0, 0)) (zq BK166.out) hb) (below_step (bq1 HB.out GE166.out) hb); clear BK166 HB; obtain ⟨BK166, HB⟩ := n_; (try clear hb); have hcz24_0 : w23.cell? ⟨gb166, 0, none⟩ = some (.int .i64 a1) := (blk_cell BK166.out 0).trans rfl; have hcz24_1 : w23.cell? ⟨gb166, 1, none⟩ = some (.int .i64 a2) := (blk_cell BK166.out 1).trans rfl; have hcz24_2 : w23.cell? ⟨gb166, 2, none⟩ = some (.int .i64 a3) := (blk_cell BK166.out 2).trans rfl; have hcz24_3 : w23.cell? ⟨gb166, 3, none⟩ = some (.int .i64 0) := (blk_cell BK166.out 3).trans rfl; have hcz24_4 : w23.cell? ⟨gb166, 4, none⟩ = some (.bool false) := (blk_cell BK166.out 4).trans rfl; have hfz24_0 := blk_frozen BK166.out 0; have hfz24_1 := blk_frozen BK166.out 1; have hfz24_2 := blk_frozen BK166.out 2; have hfz24_3 := blk_frozen BK166.out 3; have hfz24_4 := blk_frozen BK166.out 4) | (go_at_call 75; (with_reducible refine (spec_l8Ent.calls a1 a2 a3 0 false true _ A12.out).mono ?_); rintro e w25 ⟨rfl, hb⟩; have n_ := ak2 (blk_below (g := gb166) (o := .cells #[.int .i64 a1, .int .i64 a2, .int .i64 a3, .int .i64 0, .bool false] 44 (0, 0)) (zq BK166.out) hb) (below_step (bq1 HB.out GE166.out) hb); clear BK166 HB; obtain ⟨BK166, HB⟩ := n_; (try clear hb); have p170 : 0 ≤ (t167 : Int) := oda; have q170 : t167 < (l0.length : Int) := oda; obtain ⟨ad170, e170, hx170_0, hx170_1, hx170_2, hx170_3, hx170_4⟩ := at_T44 HR0.out t167 p170 q170; (try rw [← Nbq17.out] at hx170_4); cases e170; replace hx170_0 := (HB.out.cell (World.block_lt_of_cell? w _ hx170_0)).trans hx170_0; replace hx170_1 := (HB.out.cell (World.block_lt_of_cell? w _ hx170_1)).trans hx170_1; replace hx170_2 := (HB.out.cell (World.block_lt_of_cell? w _ hx170_2)).trans hx170_2; replace hx170_3 := (HB.out.cell (World.block_lt_of_cell? w _ hx170_3)).trans hx170_3; replace hx170_4 := (HB.out.cell (World.block_lt_of_cell? w _ hx170_4)).trans hx170_4; replace p170 := eq_true p170; replace q170 := eq_true q170))
              go_meet
              case rel => exact ⟨_, (decide ((l0.length : Int) ≥ 12)), sq, H', ⟨by first | omega | exact Nat.le_refl _⟩, ⟨zq BK166.out⟩, ⟨bq1 HB.out GE166.out⟩⟩
            rw [if_neg c22] at H
            have c22b0 : decide (t167 < 0) = false := decide_eq_false c22
            clear c22
            have H' := am H
            clear H
            go_wp2_with (first | ((with_reducible refine gate_callee (f := 61) rfl ?_); refine goesL_ (some 20) rfl rfl Try.func61 (by kernel_rfl) rfl #[.slice A0 l0.length c0] rfl ga ?_; (with_reducible refine (spec_FdbOk.calls k _ _ l0 true _ ?side1 ?side2 A10.out).mono ?_); (case side1 => exact cq (Kd.C_below HR0.out HB.out)); (case side2 => exact HC0.out); rintro e w26 ⟨rfl, hb⟩; refine ⟨_, rfl, ?_⟩; have n_ := ak2 (blk_below (g := gb166) (o := .cells #[.int .i64 a1, .int .i64 a2, .int .i64 a3, .int .i64 0, .bool false] 44 (0, 0)) (zq BK166.out) hb) (below_step (bq1 HB.out GE166.out) hb); clear BK166 HB; obtain ⟨BK166, HB⟩ := n_; (try clear hb); have hcz27_0 : w26.cell? ⟨gb166, 0, none⟩ = some (.int .i64 a1) := (blk_cell BK166.out 0).trans rfl; have hcz27_1 : w26.cell? ⟨gb166, 1, none⟩ = some (.int .i64 a2) := (blk_cell BK166.out 1).trans rfl; have hcz27_2 : w26.cell? ⟨gb166, 2, none⟩ = some (.int .i64 a3) := (blk_cell BK166.out 2).trans rfl; have hcz27_3 : w26.cell? ⟨gb166, 3, none⟩ = some (.int .i64 0) := (blk_cell BK166.out 3).trans rfl; have hcz27_4 : w26.cell? ⟨gb166, 4, none⟩ = some (.bool false) := (blk_cell BK166.out 4).trans rfl; have hfz27_0 := blk_frozen BK166.out 0; have hfz27_1 := blk_frozen BK166.out 1; have hfz27_2 := blk_frozen BK166.out 2; have hfz27_3 := blk_frozen BK166.out 3; have hfz27_4 := blk_frozen BK166.out 4) | (go_at_call 75; (with_reducible refine (spec_l8Ent.calls a1 a2 a3 0 false true _ A12.out).mono ?_); rintro e w28 ⟨rfl, hb⟩; have n_ := ak2 (blk_below (g := gb166) (o := .cells #[.int .i64 a1, .int .i64 a2, .int .i64 a3, .int .i64 0, .bool false] 44 (0, 0)) (zq BK166.out) hb) (below_step (bq1 HB.out GE166.out) hb); clear BK166 HB; obtain ⟨BK166, HB⟩ := n_; (try clear hb); have p170 : 0 ≤ (t167 : Int) := oda; have q170 : t167 < (l0.length : Int) := oda; obtain ⟨ad170, e170, hx170_0, hx170_1, hx170_2, hx170_3, hx170_4⟩ := at_T44 HR0.out t167 p170 q170; (try rw [← Nbq17.out] at hx170_4); cases e170; replace hx170_0 := (HB.out.cell (World.block_lt_of_cell? w _ hx170_0)).trans hx170_0; replace hx170_1 := (HB.out.cell (World.block_lt_of_cell? w _ hx170_1)).trans hx170_1; replace hx170_2 := (HB.out.cell (World.block_lt_of_cell? w _ hx170_2)).trans hx170_2; replace hx170_3 := (HB.out.cell (World.block_lt_of_cell? w _ hx170_3)).trans hx170_3; replace hx170_4 := (HB.out.cell (World.block_lt_of_cell? w _ hx170_4)).trans hx170_4; replace p170 := eq_true p170; replace q170 := eq_true q170))
            go_meet
            case rel => exact ⟨_, (false), sq, H', ⟨by first | omega | exact Nat.le_refl _⟩, ⟨zq BK166.out⟩, ⟨bq1 HB.out GE166.out⟩⟩
          rw [if_neg c16] at H
          exact absurd H (by simp)
        rw [if_neg c15] at H
        exact absurd H (by simp)
      rw [if_neg c14] at H
      have c14b0 : decide (0 ≤ t167) = false := decide_eq_false c14
      clear c14
      (first | rw [c14b0] | (simp only [i64_w, i32_w]; rw [c14b0]) | skip)
      by_cases c29 : t167 < 0
      · rw [if_pos c29] at H
        have c29b0 : decide (t167 < 0) = true := decide_eq_true c29
        clear c29
        have H' := am H
        clear H
        go_wp2_with (first | ((with_reducible refine gate_callee (f := 61) rfl ?_); refine goesL_ (some 20) rfl rfl Try.func61 (by kernel_rfl) rfl #[.slice A0 l0.length c0] rfl ga ?_; (with_reducible refine (spec_FdbOk.calls k _ _ l0 true _ ?side1 ?side2 A10.out).mono ?_); (case side1 => exact cq (Kd.C_below HR0.out HB.out)); (case side2 => exact HC0.out); rintro e w30 ⟨rfl, hb⟩; refine ⟨_, rfl, ?_⟩; have n_ := ak2 (blk_below (g := gb166) (o := .cells #[.int .i64 a1, .int .i64 a2, .int .i64 a3, .int .i64 0, .bool false] 44 (0, 0)) (zq BK166.out) hb) (below_step (bq1 HB.out GE166.out) hb); clear BK166 HB; obtain ⟨BK166, HB⟩ := n_; (try clear hb); have hcz31_0 : w30.cell? ⟨gb166, 0, none⟩ = some (.int .i64 a1) := (blk_cell BK166.out 0).trans rfl; have hcz31_1 : w30.cell? ⟨gb166, 1, none⟩ = some (.int .i64 a2) := (blk_cell BK166.out 1).trans rfl; have hcz31_2 : w30.cell? ⟨gb166, 2, none⟩ = some (.int .i64 a3) := (blk_cell BK166.out 2).trans rfl; have hcz31_3 : w30.cell? ⟨gb166, 3, none⟩ = some (.int .i64 0) := (blk_cell BK166.out 3).trans rfl; have hcz31_4 : w30.cell? ⟨gb166, 4, none⟩ = some (.bool false) := (blk_cell BK166.out 4).trans rfl; have hfz31_0 := blk_frozen BK166.out 0; have hfz31_1 := blk_frozen BK166.out 1; have hfz31_2 := blk_frozen BK166.out 2; have hfz31_3 := blk_frozen BK166.out 3; have hfz31_4 := blk_frozen BK166.out 4) | (go_at_call 75; (with_reducible refine (spec_l8Ent.calls a1 a2 a3 0 false true _ A12.out).mono ?_); rintro e w32 ⟨rfl, hb⟩; have n_ := ak2 (blk_below (g := gb166) (o := .cells #[.int .i64 a1, .int .i64 a2, .int .i64 a3, .int .i64 0, .bool false] 44 (0, 0)) (zq BK166.out) hb) (below_step (bq1 HB.out GE166.out) hb); clear BK166 HB; obtain ⟨BK166, HB⟩ := n_; (try clear hb)))
        go_meet
        case rel => exact ⟨_, (decide ((l0.length : Int) ≥ 12)), sq, H', ⟨by first | omega | exact Nat.le_refl _⟩, ⟨zq BK166.out⟩, ⟨bq1 HB.out GE166.out⟩⟩
      rw [if_neg c29] at H
      have c29b0 : decide (t167 < 0) = false := decide_eq_false c29
      clear c29
      have H' := am H
      clear H
      go_wp2_with (first | ((with_reducible refine gate_callee (f := 61) rfl ?_); refine goesL_ (some 20) rfl rfl Try.func61 (by kernel_rfl) rfl #[.slice A0 l0.length c0] rfl ga ?_; (with_reducible refine (spec_FdbOk.calls k _ _ l0 true _ ?side1 ?side2 A10.out).mono ?_); (case side1 => exact cq (Kd.C_below HR0.out HB.out)); (case side2 => exact HC0.out); rintro e w33 ⟨rfl, hb⟩; refine ⟨_, rfl, ?_⟩; have n_ := ak2 (blk_below (g := gb166) (o := .cells #[.int .i64 a1, .int .i64 a2, .int .i64 a3, .int .i64 0, .bool false] 44 (0, 0)) (zq BK166.out) hb) (below_step (bq1 HB.out GE166.out) hb); clear BK166 HB; obtain ⟨BK166, HB⟩ := n_; (try clear hb); have hcz34_0 : w33.cell? ⟨gb166, 0, none⟩ = some (.int .i64 a1) := (blk_cell BK166.out 0).trans rfl; have hcz34_1 : w33.cell? ⟨gb166, 1, none⟩ = some (.int .i64 a2) := (blk_cell BK166.out 1).trans rfl; have hcz34_2 : w33.cell? ⟨gb166, 2, none⟩ = some (.int .i64 a3) := (blk_cell BK166.out 2).trans rfl; have hcz34_3 : w33.cell? ⟨gb166, 3, none⟩ = some (.int .i64 0) := (blk_cell BK166.out 3).trans rfl; have hcz34_4 : w33.cell? ⟨gb166, 4, none⟩ = some (.bool false) := (blk_cell BK166.out 4).trans rfl; have hfz34_0 := blk_frozen BK166.out 0; have hfz34_1 := blk_frozen BK166.out 1; have hfz34_2 := blk_frozen BK166.out 2; have hfz34_3 := blk_frozen BK166.out 3; have hfz34_4 := blk_frozen BK166.out 4) | (go_at_call 75; (with_reducible refine (spec_l8Ent.calls a1 a2 a3 0 false true _ A12.out).mono ?_); rintro e w35 ⟨rfl, hb⟩; have n_ := ak2 (blk_below (g := gb166) (o := .cells #[.int .i64 a1, .int .i64 a2, .int .i64 a3, .int .i64 0, .bool false] 44 (0, 0)) (zq BK166.out) hb) (below_step (bq1 HB.out GE166.out) hb); clear BK166 HB; obtain ⟨BK166, HB⟩ := n_; (try clear hb)))
      go_meet
      case rel => exact ⟨_, (false), sq, H', ⟨by first | omega | exact Nat.le_refl _⟩, ⟨zq BK166.out⟩, ⟨bq1 HB.out GE166.out⟩⟩
    replace c13 := Bool.eq_false_iff.mpr c13
    subst c13
    have H1 : (spec_Learn.j0 k l0 true a1 a2 a3 0 false) = some r := by rw [if_neg (show ¬ (false = true) by decide)] at H; exact H
    clear H
    have H := H1
    clear H1
    have H' := am H
    clear H
    go_wp2_with (first | ((with_reducible refine gate_callee (f := 61) rfl ?_); refine goesL_ (some 20) rfl rfl Try.func61 (by kernel_rfl) rfl #[.slice A0 l0.length c0] rfl ga ?_; (with_reducible refine (spec_FdbOk.calls k _ _ l0 true _ ?side1 ?side2 A10.out).mono ?_); (case side1 => exact cq (Kd.C_below HR0.out HB.out)); (case side2 => exact HC0.out); rintro e w36 ⟨rfl, hb⟩; refine ⟨_, rfl, ?_⟩; have n_ := ak2 (blk_below (g := gb166) (o := .cells #[.int .i64 a1, .int .i64 a2, .int .i64 a3, .int .i64 0, .bool false] 44 (0, 0)) (zq BK166.out) hb) (below_step (bq1 HB.out GE166.out) hb); clear BK166 HB; obtain ⟨BK166, HB⟩ := n_; (try clear hb); have hcz37_0 : w36.cell? ⟨gb166, 0, none⟩ = some (.int .i64 a1) := (blk_cell BK166.out 0).trans rfl; have hcz37_1 : w36.cell? ⟨gb166, 1, none⟩ = some (.int .i64 a2) := (blk_cell BK166.out 1).trans rfl; have hcz37_2 : w36.cell? ⟨gb166, 2, none⟩ = some (.int .i64 a3) := (blk_cell BK166.out 2).trans rfl; have hcz37_3 : w36.cell? ⟨gb166, 3, none⟩ = some (.int .i64 0) := (blk_cell BK166.out 3).trans rfl; have hcz37_4 : w36.cell? ⟨gb166, 4, none⟩ = some (.bool false) := (blk_cell BK166.out 4).trans rfl; have hfz37_0 := blk_frozen BK166.out 0; have hfz37_1 := blk_frozen BK166.out 1; have hfz37_2 := blk_frozen BK166.out 2; have hfz37_3 := blk_frozen BK166.out 3; have hfz37_4 := blk_frozen BK166.out 4) | (go_at_call 75; (with_reducible refine (spec_l8Ent.calls a1 a2 a3 0 false false _ A12.out).mono ?_); rintro e w38 ⟨rfl, hb⟩; have n_ := ak2 (blk_below (g := gb166) (o := .cells #[.int .i64 a1, .int .i64 a2, .int .i64 a3, .int .i64 0, .bool false] 44 (0, 0)) (zq BK166.out) hb) (below_step (bq1 HB.out GE166.out) hb); clear BK166 HB; obtain ⟨BK166, HB⟩ := n_; (try clear hb)))
    go_meet
    case rel => exact ⟨_, (true), sq, H', ⟨by first | omega | exact Nat.le_refl _⟩, ⟨zq BK166.out⟩, ⟨bq1 HB.out GE166.out⟩⟩
  replace c11 := Bool.eq_false_iff.mpr c11
  subst c11
  have H1 : (spec_Learn.j0 k l0 true a1 a2 a3 0 false) = some r := by rw [if_neg (show ¬ (false = true) by decide)] at H; exact H
  clear H
  have H := H1
  clear H1
  have H' := am H
  clear H
  go_wp2_with (first | ((with_reducible refine gate_callee (f := 61) rfl ?_); refine goesL_ (some 20) rfl rfl Try.func61 (by kernel_rfl) rfl #[.slice A0 l0.length c0] rfl ga ?_; (with_reducible refine (spec_FdbOk.calls k _ _ l0 false _ ?side1 ?side2 A10.out).mono ?_); (case side1 => exact cq (Kd.C_below HR0.out HB.out)); (case side2 => exact HC0.out); rintro e w39 ⟨rfl, hb⟩; refine ⟨_, rfl, ?_⟩; have n_ := ak2 (blk_below (g := gb166) (o := .cells #[.int .i64 a1, .int .i64 a2, .int .i64 a3, .int .i64 0, .bool false] 44 (0, 0)) (zq BK166.out) hb) (below_step (bq1 HB.out GE166.out) hb); clear BK166 HB; obtain ⟨BK166, HB⟩ := n_; (try clear hb)))
  go_meet
  case rel => exact ⟨_, (true), sq, H', ⟨by first | omega | exact Nat.le_refl _⟩, ⟨zq BK166.out⟩, ⟨bq1 HB.out GE166.out⟩⟩
 case rest =>
  clear HC6
  try clear c1
  try clear p1
  try clear q1
  try clear hx1
  try clear c2
  try clear p2
  try clear c3
  try clear c6
  try clear c7
  try clear c11
  try clear c13
  try clear c14
  try clear c14b0
  try clear c15
  try clear c15b0
  try clear c16
  try clear c16b0
  try clear p17
  try clear q17
  try clear hx17
  try clear c18
  try clear c22
  try clear c22b0
  try clear c29
  try clear c29b0
  try clear c32
  try clear hcz20_0
  try clear hcz20_1
  try clear hcz20_2
  try clear hcz20_3
  try clear hcz20_4
  try clear hcz24_0
  try clear hcz24_1
  try clear hcz24_2
  try clear hcz24_3
  try clear hcz24_4
  try clear hcz27_0
  try clear hcz27_1
  try clear hcz27_2
  try clear hcz27_3
  try clear hcz27_4
  try clear hcz31_0
  try clear hcz31_1
  try clear hcz31_2
  try clear hcz31_3
  try clear hcz31_4
  try clear hcz34_0
  try clear hcz34_1
  try clear hcz34_2
  try clear hcz34_3
  try clear hcz34_4
  try clear hcz37_0
  try clear hcz37_1
  try clear hcz37_2
  try clear hcz37_3
  try clear hcz37_4
  try clear hcz8_0
  try clear hcz8_1
  try clear hcz8_2
  try clear hcz8_3
  try clear hcz8_4
  try clear hfz20_0
  try clear hfz20_1
  try clear hfz20_2
  try clear hfz20_3
  try clear hfz20_4
  try clear hfz24_0
  try clear hfz24_1
  try clear hfz24_2
  try clear hfz24_3
  try clear hfz24_4
  try clear hfz27_0
  try clear hfz27_1
  try clear hfz27_2
  try clear hfz27_3
  try clear hfz27_4
  try clear hfz31_0
  try clear hfz31_1
  try clear hfz31_2
  try clear hfz31_3
  try clear hfz31_4
  try clear hfz34_0
  try clear hfz34_1
  try clear hfz34_2
  try clear hfz34_3
  try clear hfz34_4
  try clear hfz37_0
  try clear hfz37_1
  try clear hfz37_2
  try clear hfz37_3
  try clear hfz37_4
  try clear hfz8_0
  try clear hfz8_1
  try clear hfz8_2
  try clear hfz8_3
  try clear hfz8_4
  try clear hx170_0
  try clear hx170_1
  try clear hx170_2
  try clear hx170_3
  try clear hx170_4
  try clear p170
  try clear q170
  obtain ⟨kq, x46_5, rfl, HA, HJ5, BK166, HB⟩ := hcut
  cases kq with
  | zero => exact absurd HA.out (by simp [spec_Learn.j0])
  | succ kj5 =>
   have H := HA.out
   clear HA
   simp only [spec_Learn.j0] at H
   by_cases c40 : x46_5 = true
   · subst c40
     have H1 : ((spec_l8Copy.f l0).bind fun t171 => (some t171)) = some r := by rw [if_pos rfl] at H; exact H
     clear H
     have H := H1
     clear H1
     replace H := Option.bind_eq_some_iff.mp H
     obtain ⟨t171, A410, H⟩ := H
     replace H : (some t171) = some r := H
     have A41 := am A410
     clear A410
     obtain rfl := Option.some.inj H
     go_wp2_with (first | ((with_reducible refine gate_callee (f := 77) rfl ?_); refine goesL_ (some 48) rfl rfl Try.func77 (by kernel_rfl) rfl #[.slice A0 l0.length c0] rfl ga ?_; (with_reducible refine (spec_l8Copy.calls _ _ l0 t171 _ ?side1 ?side2 A41.out).mono ?_); (case side1 => exact cq (Kd.C_below HR0.out HB.out)); (case side2 => exact HC0.out); rintro e w42 ⟨v172, rfl, ho0, hb⟩; refine ⟨_, rfl, ?_⟩; have n_ := ak3 (Kd.R_lower (Kd.R_newB ho0 (g := gb166) (o := .cells #[.int .i64 a1, .int .i64 a2, .int .i64 a3, .int .i64 0, .bool false] 44 (0, 0)) (zq BK166.out)) (below_size (bq1 HB.out GE166.out))) (blk_below (g := gb166) (o := .cells #[.int .i64 a1, .int .i64 a2, .int .i64 a3, .int .i64 0, .bool false] 44 (0, 0)) (zq BK166.out) hb) (below_step (bq1 HB.out GE166.out) hb); clear BK166 HB; obtain ⟨HO173, BK166, HB⟩ := n_; (try clear hb ho0)))
     go_ret
     exact ⟨_, rq, by (with_reducible repeat (first | apply Kd.R_alloc | apply Kd.R_drewN | apply Kd.R_drew)); exact Kd.R_mono HO173.out (fun _ hk => trivial), bq1 HB.out GE166.out⟩
   replace c40 := Bool.eq_false_iff.mpr c40
   subst c40
   have H1 : ((spec_l8Put.f kj5 l0 a1 a2 a3 0 false).bind fun t174 => (some t174)) = some r := by rw [if_neg (show ¬ (false = true) by decide)] at H; exact H
   clear H
   have H := H1
   clear H1
   replace H := Option.bind_eq_some_iff.mp H
   obtain ⟨t174, A430, H⟩ := H
   replace H : (some t174) = some r := H
   have A43 := am A430
   clear A430
   obtain rfl := Option.some.inj H
   have hcz44_0 : wc.cell? ⟨gb166, 0, none⟩ = some (.int .i64 a1) := (blk_cell BK166.out 0).trans rfl
   have hcz44_1 : wc.cell? ⟨gb166, 1, none⟩ = some (.int .i64 a2) := (blk_cell BK166.out 1).trans rfl
   have hcz44_2 : wc.cell? ⟨gb166, 2, none⟩ = some (.int .i64 a3) := (blk_cell BK166.out 2).trans rfl
   have hcz44_3 : wc.cell? ⟨gb166, 3, none⟩ = some (.int .i64 0) := (blk_cell BK166.out 3).trans rfl
   have hcz44_4 : wc.cell? ⟨gb166, 4, none⟩ = some (.bool false) := (blk_cell BK166.out 4).trans rfl
   have hfz44_0 := blk_frozen BK166.out 0
   have hfz44_1 := blk_frozen BK166.out 1
   have hfz44_2 := blk_frozen BK166.out 2
   have hfz44_3 := blk_frozen BK166.out 3
   have hfz44_4 := blk_frozen BK166.out 4
   go_wp2_with (first | ((with_reducible refine gate_callee (f := 78) rfl ?_); refine goesL_ (some 51) rfl rfl Try.func78 (by kernel_rfl) rfl #[.slice A0 l0.length c0, .agg #[.int .i64 a1, .int .i64 a2, .int .i64 a3, .int .i64 0, .bool false]] rfl ga ?_; (with_reducible refine (spec_l8Put.calls kj5 _ _ l0 a1 a2 a3 0 false t174 _ ?side1 ?side2 A43.out).mono ?_); (case side1 => exact cq (Kd.C_below HR0.out HB.out)); (case side2 => exact HC0.out); rintro e w45 ⟨v175, rfl, ho0, hb⟩; refine ⟨_, rfl, ?_⟩; have n_ := ak3 (Kd.R_lower (Kd.R_newB ho0 (g := gb166) (o := .cells #[.int .i64 a1, .int .i64 a2, .int .i64 a3, .int .i64 0, .bool false] 44 (0, 0)) (zq BK166.out)) (below_size (bq1 HB.out GE166.out))) (blk_below (g := gb166) (o := .cells #[.int .i64 a1, .int .i64 a2, .int .i64 a3, .int .i64 0, .bool false] 44 (0, 0)) (zq BK166.out) hb) (below_step (bq1 HB.out GE166.out) hb); clear BK166 HB; obtain ⟨HO176, BK166, HB⟩ := n_; (try clear hb ho0)))
   go_ret
   exact ⟨_, rq, by (with_reducible repeat (first | apply Kd.R_alloc | apply Kd.R_drewN | apply Kd.R_drew)); exact Kd.R_mono HO176.out (fun _ hk => trivial), bq1 HB.out GE166.out⟩

/-! ### spec_AgeAll: function 40 -/
def spec_AgeAll.l0 : Nat → List (S44) → List (S44) → Int → Option ((List (S44)))
 | 0, _, _, _ => none
 | k + 1, x0, x3, x4 => if x4 < (x0.length : Int) then (if 0 ≤ x4 then (if (rd_T44 x0 x4).f4 = true then (if x3.length < 3518437208883 then (spec_AgeAll.l0 k x0 (x3 ++ [(⟨(rd_T44 x0 x4).f0, (rd_T44 x0 x4).f1, (rd_T44 x0 x4).f2, (rd_T44 x0 x4).f3, (rd_T44 x0 x4).f4⟩ : S44)]) (wrap64 (x4 + 1))) else (none)) else (if ((rd_T44 x0 x4).f3) < 4 then (if x3.length < 3518437208883 then (spec_AgeAll.l0 k x0 (x3 ++ [(⟨(rd_T44 x0 x4).f0, (rd_T44 x0 x4).f1, (rd_T44 x0 x4).f2, wrap64 (((rd_T44 x0 x4).f3) + 1), (rd_T44 x0 x4).f4⟩ : S44)]) (wrap64 (x4 + 1))) else (none)) else (spec_AgeAll.l0 k x0 x3 (wrap64 (x4 + 1))))) else (none)) else (some x3)
def spec_AgeAll.f (k : Nat) (l0 : List (S44)) : Option ((List (S44))) := spec_AgeAll.l0 k l0 (([] : List (S44))) 0
theorem spec_AgeAll.mono_l : ∀ k, (∀ y0 y1 y2, LeO (spec_AgeAll.l0 k y0 y1 y2) (spec_AgeAll.l0 (k + 1) y0 y1 y2))
 | 0 => fun _ _ _ r h => by simp [spec_AgeAll.l0] at h
 | k + 1 => by
  have ih0 := spec_AgeAll.mono_l k
  intro y0 y1 y2
  unfold spec_AgeAll.l0
  repeat' first
  | (with_reducible exact ih0 _ _ _)
  | (with_reducible exact LeO.refl _)
  | (with_reducible exact LeO.none _)
  | (with_reducible refine LeO.ite ?_ ?_)
  | (with_reducible refine LeO.bind ?_ (fun _ => ?_))
  | exact ih0 _ _ _
  | exact LeO.none _
  | refine LeO.ite ?_ ?_
  | refine LeO.bind ?_ (fun _ => ?_)
theorem spec_AgeAll.mono : ∀ a0 k, LeO (spec_AgeAll.f k a0) (spec_AgeAll.f (k + 1) a0) := by
 intro a0 k
 have ih0 := spec_AgeAll.mono_l k
 unfold spec_AgeAll.f
 repeat' first
  | (with_reducible exact ih0 _ _ _)
  | (with_reducible exact LeO.refl _)
  | (with_reducible exact LeO.none _)
  | (with_reducible refine LeO.ite ?_ ?_)
  | (with_reducible refine LeO.bind ?_ (fun _ => ?_))
  | exact ih0 _ _ _
  | exact LeO.none _
  | refine LeO.ite ?_ ?_
  | refine LeO.bind ?_ (fun _ => ?_)
set_option maxHeartbeats 8000000 in
set_option maxRecDepth 100000 in
theorem spec_AgeAll.calls (k : Nat) (A0 : Option Addr) (c0 : Nat) (l0 : List (S44)) (r : List (S44)) (w : World) (hr0 : Kd.C k44 w A0 l0.length l0) (hc0 : l0.length ≤ c0) (h : spec_AgeAll.f k l0 = some r) :
 Calls Try.prog 40 #[.slice A0 l0.length c0] w fun e w' => ∃ v0_ : Value, e = .returned (v0_) ∧ Kd.R k44 44 w' w.heap.size (fun _ => True) v0_ r ∧ Below w.heap.size w w' := by
 have hu44 := Try.underlying44
 have HR0 := am hr0
 have HC0 := am hc0
 clear hr0 hc0
 have HB := am (Below.refl w.heap.size w)
 have H : (spec_AgeAll.l0 k l0 (([] : List (S44))) 0) = some r := h
 clear h
 obtain ⟨y177, hy177⟩ : ∃ y_ : List (S44), y_ = (([] : List (S44))) := ⟨_, rfl⟩
 replace H : (spec_AgeAll.l0 k l0 y177 0) = some r := by first | (rw [hy177]; with_reducible exact H) | (have H2_ := (Option.bind_some _ _).symm.trans H; rw [hy177]; with_reducible exact H2_) | (have H2_ := (Option.bind_some _ _).symm.trans H; with_reducible exact H2_) | with_reducible exact H | (rw [hy177]; exact H) | exact H
 have Ny177 := am hy177
 clear hy177
 have H' := am H
 clear H
 go_enter Try.func40, Try.ntmps40
 go_wp2_with (first | ((with_reducible refine gate_dst (N := 6) rfl ?_); refine Kd.R_lit k44 _ 44 ?hg (N := 6) ?hd (xs := ([] : List (S44))) (inner := []) (ok := fun _ => True) (okp := fun _ => True) ?hr ?hp (fun _ hk => hk) trivial (Below.refl _ _) (Nat.le_refl _) (by simp) ?_; (case hd => rfl); (case hg => rfl); (case hr => exact gs); (case hp => exact (Reps.none _ _)); intro v178 w2 ho3 hb hg_ hnew_; clear hg_ hnew_; (first | rw [← Ny177.out] at ho3 | (simp only [Int.reduceToNat] at ho3; rw [← Ny177.out] at ho3)); have n_ := ak2 (Kd.R_lower ho3 (below_size (bq HB.out))) (below_step (bq HB.out) hb); clear HB; obtain ⟨HO179, HB⟩ := n_; clear hb ho3))
 go_loopg [3, 4] k (fun kq v3 v4 w' => ∃ (x3_1 : List (S44)) (x4_1 : Int), v4 = .int .i64 x4_1 ∧ Aside0 (spec_AgeAll.l0 kq l0 x3_1 x4_1 = some r) ∧ Aside0 (kq ≤ k) ∧ Aside0 (Kd.R k44 44 w' w.heap.size (fun _ => True) v3 x3_1) ∧ Aside0 (Below w.heap.size w w'))
 case atStart => exact ⟨(y177), (0), sq, H', ⟨Nat.le_refl _⟩, ⟨kqR HO179.out⟩, ⟨bq HB.out⟩⟩
 case round =>
  clear H'
  try clear p2
  obtain ⟨x3_1, x4_1, rfl, HA, HK1, HO_3, HB⟩ := hrel
  cases gk with
  | zero => exact absurd HA.out (by simp [spec_AgeAll.l0])
  | succ k1 =>
   have H := HA.out
   clear HA
   simp only [spec_AgeAll.l0] at H
   by_cases c4 : x4_1 < (l0.length : Int)
   · rw [if_pos c4] at H
     have c4b0 : decide (x4_1 < (l0.length : Int)) = true := decide_eq_true c4
     clear c4
     by_cases c5 : 0 ≤ x4_1
     · rw [if_pos c5] at H
       have c5b0 : decide (0 ≤ x4_1) = true := decide_eq_true c5
       clear c5
       obtain ⟨bq6, hbq6⟩ : ∃ b_ : Bool, b_ = ((rd_T44 l0 x4_1).f4) := ⟨_, rfl⟩
       replace H : (if bq6 = true then (if x3_1.length < 3518437208883 then (spec_AgeAll.l0 k1 l0 (x3_1 ++ [(⟨(rd_T44 l0 x4_1).f0, (rd_T44 l0 x4_1).f1, (rd_T44 l0 x4_1).f2, (rd_T44 l0 x4_1).f3, bq6⟩ : S44)]) (wrap64 (x4_1 + 1))) else (none)) else (if ((rd_T44 l0 x4_1).f3) < 4 then (if x3_1.length < 3518437208883 then (spec_AgeAll.l0 k1 l0 (x3_1 ++ [(⟨(rd_T44 l0 x4_1).f0, (rd_T44 l0 x4_1).f1, (rd_T44 l0 x4_1).f2, wrap64 (((rd_T44 l0 x4_1).f3) + 1), bq6⟩ : S44)]) (wrap64 (x4_1 + 1))) else (none)) else (spec_AgeAll.l0 k1 l0 x3_1 (wrap64 (x4_1 + 1))))) = some r := by rw [← hbq6] at H; exact H
       have Nbq6 := am hbq6
       clear hbq6
       by_cases c7 : bq6 = true
       · subst c7
         have H1 : (if x3_1.length < 3518437208883 then (spec_AgeAll.l0 k1 l0 (x3_1 ++ [(⟨(rd_T44 l0 x4_1).f0, (rd_T44 l0 x4_1).f1, (rd_T44 l0 x4_1).f2, (rd_T44 l0 x4_1).f3, true⟩ : S44)]) (wrap64 (x4_1 + 1))) else (none)) = some r := by rw [if_pos rfl] at H; exact H
         clear H
         have H := H1
         clear H1
         by_cases c8 : x3_1.length < 3518437208883
         · rw [if_pos c8] at H
           have LMc8 := am c8
           clear c8
           obtain ⟨y182, hy182⟩ : ∃ y_ : List (S44), y_ = (x3_1 ++ [(⟨(rd_T44 l0 x4_1).f0, (rd_T44 l0 x4_1).f1, (rd_T44 l0 x4_1).f2, (rd_T44 l0 x4_1).f3, true⟩ : S44)]) := ⟨_, rfl⟩
           replace H : (spec_AgeAll.l0 k1 l0 y182 (wrap64 (x4_1 + 1))) = some r := by first | (rw [hy182]; with_reducible exact H) | (have H2_ := (Option.bind_some _ _).symm.trans H; rw [hy182]; with_reducible exact H2_) | (have H2_ := (Option.bind_some _ _).symm.trans H; with_reducible exact H2_) | with_reducible exact H | (rw [hy182]; exact H) | exact H
           have Ny182 := am hy182
           clear hy182
           have H' := am H
           clear H
           have p180 : 0 ≤ (x4_1 : Int) := oda
           have q180 : x4_1 < (l0.length : Int) := oda
           obtain ⟨ad180, e180, hx180_0, hx180_1, hx180_2, hx180_3, hx180_4⟩ := at_T44 HR0.out x4_1 p180 q180
           (try rw [← Nbq6.out] at hx180_4)
           cases e180
           replace hx180_0 := (HB.out.cell (World.block_lt_of_cell? w _ hx180_0)).trans hx180_0
           replace hx180_1 := (HB.out.cell (World.block_lt_of_cell? w _ hx180_1)).trans hx180_1
           replace hx180_2 := (HB.out.cell (World.block_lt_of_cell? w _ hx180_2)).trans hx180_2
           replace hx180_3 := (HB.out.cell (World.block_lt_of_cell? w _ hx180_3)).trans hx180_3
           replace hx180_4 := (HB.out.cell (World.block_lt_of_cell? w _ hx180_4)).trans hx180_4
           replace p180 := eq_true p180
           replace q180 := eq_true q180
           go_wp2_with (first | ((with_reducible refine gate_dst (N := 5) rfl ?_); refine box_event ?hg (N := 5) ?hd (cs := #[.int .i64 0, .int .i64 0, .int .i64 0, .int .i64 0, .bool false]) (t := 44) ?hr ?_; (case hd => rfl); (case hg => rfl); (case hr => exact gs); intro gb181 hg w9 hbox hb; have n_ := ak5 (Kd.R_below (Kd.R_elderB (kqR HO_3.out) gb181 (Nat.le_of_eq hg.symm)) hb) (below_step (bq HB.out) hb) hbox ((by rw [hg]; exact (below_size (bq HB.out)) : w.heap.size ≤ gb181)) ((by rw [hg]; exact (below_size (bq HB.out)) : w.heap.size ≤ gb181)); clear HO_3 HB; obtain ⟨HO_3, HB, BK181, GW181, GE181⟩ := n_; clear hb hbox hg; have hcz10_0 : w9.cell? ⟨gb181, 0, none⟩ = some (.int .i64 0) := (blk_cell BK181.out 0).trans rfl; have hcz10_1 : w9.cell? ⟨gb181, 1, none⟩ = some (.int .i64 0) := (blk_cell BK181.out 1).trans rfl; have hcz10_2 : w9.cell? ⟨gb181, 2, none⟩ = some (.int .i64 0) := (blk_cell BK181.out 2).trans rfl; have hcz10_3 : w9.cell? ⟨gb181, 3, none⟩ = some (.int .i64 0) := (blk_cell BK181.out 3).trans rfl; have hcz10_4 : w9.cell? ⟨gb181, 4, none⟩ = some (.bool false) := (blk_cell BK181.out 4).trans rfl; have hfz10_0 := blk_frozen BK181.out 0; have hfz10_1 := blk_frozen BK181.out 1; have hfz10_2 := blk_frozen BK181.out 2; have hfz10_3 := blk_frozen BK181.out 3; have hfz10_4 := blk_frozen BK181.out 4) | ((with_reducible refine gate_store (t := 44) (p := 5) rfl ?_); refine store_event (t := 44) (p := 5) (v := ?vo_w11) (w1 := (((((w9.setCell ⟨gb181, 0, none⟩ (.int .i64 ((rd_T44 l0 x4_1).f0))).setCell ⟨gb181, 1, none⟩ (.int .i64 ((rd_T44 l0 x4_1).f1))).setCell ⟨gb181, 2, none⟩ (.int .i64 ((rd_T44 l0 x4_1).f2))).setCell ⟨gb181, 3, none⟩ (.int .i64 ((rd_T44 l0 x4_1).f3))).setCell ⟨gb181, 4, none⟩ (.bool true))) ?hg ?ho ?hn ?hr ?_; (case ho => rfl); (case hg => rfl); (case hn => rfl); (case hr => exact gs); intro w11 hw; have n0_ : Aside0 (Kd.R k44 44 w11 w.heap.size (fun k_ => k_ ≠ gb181) u3 x3_1) := ⟨(by rw [hw]; exact (by (with_reducible repeat (first | apply Kd.R_alloc | apply Kd.R_drewN | apply Kd.R_drew)); exact Kd.R_mono (Kd.R_far (p := ⟨gb181, 4, none⟩) (Kd.R_far (p := ⟨gb181, 3, none⟩) (Kd.R_far (p := ⟨gb181, 2, none⟩) (Kd.R_far (p := ⟨gb181, 1, none⟩) (Kd.R_far (p := ⟨gb181, 0, none⟩) (Kd.R_mono HO_3.out (fun k_ hk => (⟨hk, hk.2⟩ : _ ∧ k_ ≠ gb181))) (fun _ hk => hk.2) (.int .i64 ((rd_T44 l0 x4_1).f0))) (fun _ hk => hk.2) (.int .i64 ((rd_T44 l0 x4_1).f1))) (fun _ hk => hk.2) (.int .i64 ((rd_T44 l0 x4_1).f2))) (fun _ hk => hk.2) (.int .i64 ((rd_T44 l0 x4_1).f3))) (fun _ hk => hk.2) (.bool true)) (fun _ hk => hk.1.2)))⟩; have n1_ : Aside0 (w11.heap[gb181]? = some (.cells #[.int .i64 ((rd_T44 l0 x4_1).f0), .int .i64 ((rd_T44 l0 x4_1).f1), .int .i64 ((rd_T44 l0 x4_1).f2), .int .i64 ((rd_T44 l0 x4_1).f3), .bool true] 44 (0, 0))) := ⟨(by rw [hw]; exact (by (with_reducible repeat (first | refine blk_drewN ?_ _ | refine blk_drew ?_ | refine blk_alloc ?_ _)); refine blk_put (cs := #[.int .i64 ((rd_T44 l0 x4_1).f0), .int .i64 ((rd_T44 l0 x4_1).f1), .int .i64 ((rd_T44 l0 x4_1).f2), .int .i64 ((rd_T44 l0 x4_1).f3), .bool false]) ?_ 4 _ rfl; (with_reducible repeat (first | refine blk_drewN ?_ _ | refine blk_drew ?_ | refine blk_alloc ?_ _)); refine blk_put (cs := #[.int .i64 ((rd_T44 l0 x4_1).f0), .int .i64 ((rd_T44 l0 x4_1).f1), .int .i64 ((rd_T44 l0 x4_1).f2), .int .i64 0, .bool false]) ?_ 3 _ rfl; (with_reducible repeat (first | refine blk_drewN ?_ _ | refine blk_drew ?_ | refine blk_alloc ?_ _)); refine blk_put (cs := #[.int .i64 ((rd_T44 l0 x4_1).f0), .int .i64 ((rd_T44 l0 x4_1).f1), .int .i64 0, .int .i64 0, .bool false]) ?_ 2 _ rfl; (with_reducible repeat (first | refine blk_drewN ?_ _ | refine blk_drew ?_ | refine blk_alloc ?_ _)); refine blk_put (cs := #[.int .i64 ((rd_T44 l0 x4_1).f0), .int .i64 0, .int .i64 0, .int .i64 0, .bool false]) ?_ 1 _ rfl; (with_reducible repeat (first | refine blk_drewN ?_ _ | refine blk_drew ?_ | refine blk_alloc ?_ _)); refine blk_put (cs := #[.int .i64 0, .int .i64 0, .int .i64 0, .int .i64 0, .bool false]) ?_ 0 _ rfl; (with_reducible repeat (first | refine blk_drewN ?_ _ | refine blk_drew ?_ | refine blk_alloc ?_ _)); exact BK181.out))⟩; have n2_ : Aside0 (Below w.heap.size w w11) := ⟨(by rw [hw]; exact (bq1 HB.out GE181.out))⟩; clear hw; clear HO_3; clear BK181; clear HB; have HO_3 := n0_; have BK181 := n1_; have HB := n2_; clear n0_ n1_ n2_; have hcz12_0 : w11.cell? ⟨gb181, 0, none⟩ = some (.int .i64 ((rd_T44 l0 x4_1).f0)) := (blk_cell BK181.out 0).trans rfl; have hcz12_1 : w11.cell? ⟨gb181, 1, none⟩ = some (.int .i64 ((rd_T44 l0 x4_1).f1)) := (blk_cell BK181.out 1).trans rfl; have hcz12_2 : w11.cell? ⟨gb181, 2, none⟩ = some (.int .i64 ((rd_T44 l0 x4_1).f2)) := (blk_cell BK181.out 2).trans rfl; have hcz12_3 : w11.cell? ⟨gb181, 3, none⟩ = some (.int .i64 ((rd_T44 l0 x4_1).f3)) := (blk_cell BK181.out 3).trans rfl; have hcz12_4 : w11.cell? ⟨gb181, 4, none⟩ = some (.bool true) := (blk_cell BK181.out 4).trans rfl; have hfz12_0 := blk_frozen BK181.out 0; have hfz12_1 := blk_frozen BK181.out 1; have hfz12_2 := blk_frozen BK181.out 2; have hfz12_3 := blk_frozen BK181.out 3; have hfz12_4 := blk_frozen BK181.out 4) | ((with_reducible refine gate_builtin (b := .append) (xs := #[.tmp 19, .tmp 21]) rfl ?_); at_builtin; refine Kd.R_append k44 (w0 := w) w.heap.size rfl (.tmp 19) (.tmp 21) 30 44 (.agg #[(.int .i64 0), (.int .i64 0), (.int .i64 0), (.int .i64 0), (.bool false)]) 40 rfl Try.underlying30 info44 rfl (by decide) (by omega) u3 x3_1 (⟨(rd_T44 l0 x4_1).f0, (rd_T44 l0 x4_1).f1, (rd_T44 l0 x4_1).f2, (rd_T44 l0 x4_1).f3, true⟩ : S44) [.int .i64 ((rd_T44 l0 x4_1).f0), .int .i64 ((rd_T44 l0 x4_1).f1), .int .i64 ((rd_T44 l0 x4_1).f2), .int .i64 ((rd_T44 l0 x4_1).f3), .bool true] (fun k_ => k_ ≠ gb181) (fun _ => False) rfl rfl ?aP (fun _ hk => hk.elim) ?aF ?aO ?aB ?aS ?aL ?_; (case aP => exact k44_mkM _ _ _ (⟨(rd_T44 l0 x4_1).f0, (rd_T44 l0 x4_1).f1, (rd_T44 l0 x4_1).f2, (rd_T44 l0 x4_1).f3, true⟩ : S44)); (case aB => exact (bq1 HB.out GE181.out)); (case aF => exact (fun k_ hk => Kd.freshB (g := gb181) (o := .cells #[.int .i64 ((rd_T44 l0 x4_1).f0), .int .i64 ((rd_T44 l0 x4_1).f1), .int .i64 ((rd_T44 l0 x4_1).f2), .int .i64 ((rd_T44 l0 x4_1).f3), .bool true] 44 (0, 0)) (zq BK181.out) k_ hk)); (case aO => exact (kqR HO_3.out)); (case aS => exact (below_size (bq1 HB.out GE181.out))); (case aL => have := LMc8.out; omega); intro v183 w13 ho hb hg hat; rw [← Ny182.out] at ho; have n_ := ak3 (blk_grown (g := gb181) (o := .cells #[.int .i64 ((rd_T44 l0 x4_1).f0), .int .i64 ((rd_T44 l0 x4_1).f1), .int .i64 ((rd_T44 l0 x4_1).f2), .int .i64 ((rd_T44 l0 x4_1).f3), .bool true] 44 (0, 0)) (zq BK181.out) hg (Kd.R_away HO_3.out (fun _ hk => hk))) hb ho; clear BK181 HB HO_3; obtain ⟨BK181, HB, HO184⟩ := n_; clear ho hb hg hat))
           go_roundg k1
           case measure => have := HK1.out; omega
           case rel => exact ⟨(y182), (wrap64 (x4_1 + 1)), sq, H', ⟨by have := HK1.out; omega⟩, ⟨by (with_reducible repeat (first | apply Kd.R_alloc | apply Kd.R_drewN | apply Kd.R_drew)); exact Kd.R_mono HO184.out (fun _ hk => trivial)⟩, ⟨bq1 HB.out GE181.out⟩⟩
         rw [if_neg c8] at H
         exact absurd H (by simp)
       replace c7 := Bool.eq_false_iff.mpr c7
       subst c7
       have H1 : (if ((rd_T44 l0 x4_1).f3) < 4 then (if x3_1.length < 3518437208883 then (spec_AgeAll.l0 k1 l0 (x3_1 ++ [(⟨(rd_T44 l0 x4_1).f0, (rd_T44 l0 x4_1).f1, (rd_T44 l0 x4_1).f2, wrap64 (((rd_T44 l0 x4_1).f3) + 1), false⟩ : S44)]) (wrap64 (x4_1 + 1))) else (none)) else (spec_AgeAll.l0 k1 l0 x3_1 (wrap64 (x4_1 + 1)))) = some r := by rw [if_neg (show ¬ (false = true) by decide)] at H; exact H
       clear H
       have H := H1
       clear H1
       by_cases c14 : ((rd_T44 l0 x4_1).f3) < 4
       · rw [if_pos c14] at H
         have c14b0 : decide (((rd_T44 l0 x4_1).f3) < 4) = true := decide_eq_true c14
         clear c14
         by_cases c15 : x3_1.length < 3518437208883
         · rw [if_pos c15] at H
           have LMc15 := am c15
           clear c15
           obtain ⟨y185, hy185⟩ : ∃ y_ : List (S44), y_ = (x3_1 ++ [(⟨(rd_T44 l0 x4_1).f0, (rd_T44 l0 x4_1).f1, (rd_T44 l0 x4_1).f2, wrap64 (((rd_T44 l0 x4_1).f3) + 1), false⟩ : S44)]) := ⟨_, rfl⟩
           replace H : (spec_AgeAll.l0 k1 l0 y185 (wrap64 (x4_1 + 1))) = some r := by first | (rw [hy185]; with_reducible exact H) | (have H2_ := (Option.bind_some _ _).symm.trans H; rw [hy185]; with_reducible exact H2_) | (have H2_ := (Option.bind_some _ _).symm.trans H; with_reducible exact H2_) | with_reducible exact H | (rw [hy185]; exact H) | exact H
           have Ny185 := am hy185
           clear hy185
           have H' := am H
           clear H
           have p180 : 0 ≤ (x4_1 : Int) := oda
           have q180 : x4_1 < (l0.length : Int) := oda
           obtain ⟨ad180, e180, hx180_0, hx180_1, hx180_2, hx180_3, hx180_4⟩ := at_T44 HR0.out x4_1 p180 q180
           (try rw [← Nbq6.out] at hx180_4)
           cases e180
           replace hx180_0 := (HB.out.cell (World.block_lt_of_cell? w _ hx180_0)).trans hx180_0
           replace hx180_1 := (HB.out.cell (World.block_lt_of_cell? w _ hx180_1)).trans hx180_1
           replace hx180_2 := (HB.out.cell (World.block_lt_of_cell? w _ hx180_2)).trans hx180_2
           replace hx180_3 := (HB.out.cell (World.block_lt_of_cell? w _ hx180_3)).trans hx180_3
           replace hx180_4 := (HB.out.cell (World.block_lt_of_cell? w _ hx180_4)).trans hx180_4
           replace p180 := eq_true p180
           replace q180 := eq_true q180
           go_wp2_with (first | ((with_reducible refine gate_dst (N := 5) rfl ?_); refine box_event ?hg (N := 5) ?hd (cs := #[.int .i64 0, .int .i64 0, .int .i64 0, .int .i64 0, .bool false]) (t := 44) ?hr ?_; (case hd => rfl); (case hg => rfl); (case hr => exact gs); intro gb181 hg w16 hbox hb; have n_ := ak5 (Kd.R_below (Kd.R_elderB (kqR HO_3.out) gb181 (Nat.le_of_eq hg.symm)) hb) (below_step (bq HB.out) hb) hbox ((by rw [hg]; exact (below_size (bq HB.out)) : w.heap.size ≤ gb181)) ((by rw [hg]; exact (below_size (bq HB.out)) : w.heap.size ≤ gb181)); clear HO_3 HB; obtain ⟨HO_3, HB, BK181, GW181, GE181⟩ := n_; clear hb hbox hg; have hcz17_0 : w16.cell? ⟨gb181, 0, none⟩ = some (.int .i64 0) := (blk_cell BK181.out 0).trans rfl; have hcz17_1 : w16.cell? ⟨gb181, 1, none⟩ = some (.int .i64 0) := (blk_cell BK181.out 1).trans rfl; have hcz17_2 : w16.cell? ⟨gb181, 2, none⟩ = some (.int .i64 0) := (blk_cell BK181.out 2).trans rfl; have hcz17_3 : w16.cell? ⟨gb181, 3, none⟩ = some (.int .i64 0) := (blk_cell BK181.out 3).trans rfl; have hcz17_4 : w16.cell? ⟨gb181, 4, none⟩ = some (.bool false) := (blk_cell BK181.out 4).trans rfl; have hfz17_0 := blk_frozen BK181.out 0; have hfz17_1 := blk_frozen BK181.out 1; have hfz17_2 := blk_frozen BK181.out 2; have hfz17_3 := blk_frozen BK181.out 3; have hfz17_4 := blk_frozen BK181.out 4) | ((with_reducible refine gate_store (t := 44) (p := 5) rfl ?_); refine store_event (t := 44) (p := 5) (v := ?vo_w18) (w1 := (((((w16.setCell ⟨gb181, 0, none⟩ (.int .i64 ((rd_T44 l0 x4_1).f0))).setCell ⟨gb181, 1, none⟩ (.int .i64 ((rd_T44 l0 x4_1).f1))).setCell ⟨gb181, 2, none⟩ (.int .i64 ((rd_T44 l0 x4_1).f2))).setCell ⟨gb181, 3, none⟩ (.int .i64 ((rd_T44 l0 x4_1).f3))).setCell ⟨gb181, 4, none⟩ (.bool false))) ?hg ?ho ?hn ?hr ?_; (case ho => rfl); (case hg => rfl); (case hn => rfl); (case hr => exact gs); intro w18 hw; have n0_ : Aside0 (Kd.R k44 44 w18 w.heap.size (fun k_ => k_ ≠ gb181) u3 x3_1) := ⟨(by rw [hw]; exact (by (with_reducible repeat (first | apply Kd.R_alloc | apply Kd.R_drewN | apply Kd.R_drew)); exact Kd.R_mono (Kd.R_far (p := ⟨gb181, 4, none⟩) (Kd.R_far (p := ⟨gb181, 3, none⟩) (Kd.R_far (p := ⟨gb181, 2, none⟩) (Kd.R_far (p := ⟨gb181, 1, none⟩) (Kd.R_far (p := ⟨gb181, 0, none⟩) (Kd.R_mono HO_3.out (fun k_ hk => (⟨hk, hk.2⟩ : _ ∧ k_ ≠ gb181))) (fun _ hk => hk.2) (.int .i64 ((rd_T44 l0 x4_1).f0))) (fun _ hk => hk.2) (.int .i64 ((rd_T44 l0 x4_1).f1))) (fun _ hk => hk.2) (.int .i64 ((rd_T44 l0 x4_1).f2))) (fun _ hk => hk.2) (.int .i64 ((rd_T44 l0 x4_1).f3))) (fun _ hk => hk.2) (.bool false)) (fun _ hk => hk.1.2)))⟩; have n1_ : Aside0 (w18.heap[gb181]? = some (.cells #[.int .i64 ((rd_T44 l0 x4_1).f0), .int .i64 ((rd_T44 l0 x4_1).f1), .int .i64 ((rd_T44 l0 x4_1).f2), .int .i64 ((rd_T44 l0 x4_1).f3), .bool false] 44 (0, 0))) := ⟨(by rw [hw]; exact (by (with_reducible repeat (first | refine blk_drewN ?_ _ | refine blk_drew ?_ | refine blk_alloc ?_ _)); refine blk_put (cs := #[.int .i64 ((rd_T44 l0 x4_1).f0), .int .i64 ((rd_T44 l0 x4_1).f1), .int .i64 ((rd_T44 l0 x4_1).f2), .int .i64 ((rd_T44 l0 x4_1).f3), .bool false]) ?_ 4 _ rfl; (with_reducible repeat (first | refine blk_drewN ?_ _ | refine blk_drew ?_ | refine blk_alloc ?_ _)); refine blk_put (cs := #[.int .i64 ((rd_T44 l0 x4_1).f0), .int .i64 ((rd_T44 l0 x4_1).f1), .int .i64 ((rd_T44 l0 x4_1).f2), .int .i64 0, .bool false]) ?_ 3 _ rfl; (with_reducible repeat (first | refine blk_drewN ?_ _ | refine blk_drew ?_ | refine blk_alloc ?_ _)); refine blk_put (cs := #[.int .i64 ((rd_T44 l0 x4_1).f0), .int .i64 ((rd_T44 l0 x4_1).f1), .int .i64 0, .int .i64 0, .bool false]) ?_ 2 _ rfl; (with_reducible repeat (first | refine blk_drewN ?_ _ | refine blk_drew ?_ | refine blk_alloc ?_ _)); refine blk_put (cs := #[.int .i64 ((rd_T44 l0 x4_1).f0), .int .i64 0, .int .i64 0, .int .i64 0, .bool false]) ?_ 1 _ rfl; (with_reducible repeat (first | refine blk_drewN ?_ _ | refine blk_drew ?_ | refine blk_alloc ?_ _)); refine blk_put (cs := #[.int .i64 0, .int .i64 0, .int .i64 0, .int .i64 0, .bool false]) ?_ 0 _ rfl; (with_reducible repeat (first | refine blk_drewN ?_ _ | refine blk_drew ?_ | refine blk_alloc ?_ _)); exact BK181.out))⟩; have n2_ : Aside0 (Below w.heap.size w w18) := ⟨(by rw [hw]; exact (bq1 HB.out GE181.out))⟩; clear hw; clear HO_3; clear BK181; clear HB; have HO_3 := n0_; have BK181 := n1_; have HB := n2_; clear n0_ n1_ n2_; have hcz19_0 : w18.cell? ⟨gb181, 0, none⟩ = some (.int .i64 ((rd_T44 l0 x4_1).f0)) := (blk_cell BK181.out 0).trans rfl; have hcz19_1 : w18.cell? ⟨gb181, 1, none⟩ = some (.int .i64 ((rd_T44 l0 x4_1).f1)) := (blk_cell BK181.out 1).trans rfl; have hcz19_2 : w18.cell? ⟨gb181, 2, none⟩ = some (.int .i64 ((rd_T44 l0 x4_1).f2)) := (blk_cell BK181.out 2).trans rfl; have hcz19_3 : w18.cell? ⟨gb181, 3, none⟩ = some (.int .i64 ((rd_T44 l0 x4_1).f3)) := (blk_cell BK181.out 3).trans rfl; have hcz19_4 : w18.cell? ⟨gb181, 4, none⟩ = some (.bool false) := (blk_cell BK181.out 4).trans rfl; have hfz19_0 := blk_frozen BK181.out 0; have hfz19_1 := blk_frozen BK181.out 1; have hfz19_2 := blk_frozen BK181.out 2; have hfz19_3 := blk_frozen BK181.out 3; have hfz19_4 := blk_frozen BK181.out 4) | ((with_reducible refine gate_builtin (b := .append) (xs := #[.tmp 30, .tmp 32]) rfl ?_); at_builtin; refine Kd.R_append k44 (w0 := w) w.heap.size rfl (.tmp 30) (.tmp 32) 30 44 (.agg #[(.int .i64 0), (.int .i64 0), (.int .i64 0), (.int .i64 0), (.bool false)]) 40 rfl Try.underlying30 info44 rfl (by decide) (by omega) u3 x3_1 (⟨(rd_T44 l0 x4_1).f0, (rd_T44 l0 x4_1).f1, (rd_T44 l0 x4_1).f2, wrap64 (((rd_T44 l0 x4_1).f3) + 1), false⟩ : S44) [.int .i64 ((rd_T44 l0 x4_1).f0), .int .i64 ((rd_T44 l0 x4_1).f1), .int .i64 ((rd_T44 l0 x4_1).f2), .int .i64 (wrap64 (((rd_T44 l0 x4_1).f3) + 1)), .bool false] (fun k_ => k_ ≠ gb181) (fun _ => False) rfl (by first | (go_simp; done) | (go_simp; rfl)) ?aP (fun _ hk => hk.elim) ?aF ?aO ?aB ?aS ?aL ?_; (case aP => exact k44_mkM _ _ _ (⟨(rd_T44 l0 x4_1).f0, (rd_T44 l0 x4_1).f1, (rd_T44 l0 x4_1).f2, wrap64 (((rd_T44 l0 x4_1).f3) + 1), false⟩ : S44)); (case aB => exact (bq1 HB.out GE181.out)); (case aF => exact (fun k_ hk => Kd.freshB (g := gb181) (o := .cells #[.int .i64 ((rd_T44 l0 x4_1).f0), .int .i64 ((rd_T44 l0 x4_1).f1), .int .i64 ((rd_T44 l0 x4_1).f2), .int .i64 (wrap64 (((rd_T44 l0 x4_1).f3) + 1)), .bool false] 44 (0, 0)) (by (with_reducible repeat (first | refine blk_drewN ?_ _ | refine blk_drew ?_ | refine blk_alloc ?_ _)); refine blk_put (cs := #[.int .i64 ((rd_T44 l0 x4_1).f0), .int .i64 ((rd_T44 l0 x4_1).f1), .int .i64 ((rd_T44 l0 x4_1).f2), .int .i64 ((rd_T44 l0 x4_1).f3), .bool false]) ?_ 3 _ rfl; (with_reducible repeat (first | refine blk_drewN ?_ _ | refine blk_drew ?_ | refine blk_alloc ?_ _)); exact BK181.out) k_ hk)); (case aO => exact (by (with_reducible repeat (first | apply Kd.R_alloc | apply Kd.R_drewN | apply Kd.R_drew)); exact Kd.R_mono (Kd.R_far (p := ⟨gb181, 3, none⟩) (Kd.R_mono HO_3.out (fun k_ hk => (⟨hk, hk⟩ : _ ∧ k_ ≠ gb181))) (fun _ hk => hk.2) (.int .i64 (wrap64 (((rd_T44 l0 x4_1).f3) + 1)))) (fun _ hk => hk.1))); (case aS => exact (below_size (bq1 HB.out GE181.out))); (case aL => have := LMc15.out; omega); intro v186 w20 ho hb hg hat; rw [← Ny185.out] at ho; have n_ := ak3 (blk_grown (g := gb181) (o := .cells #[.int .i64 ((rd_T44 l0 x4_1).f0), .int .i64 ((rd_T44 l0 x4_1).f1), .int .i64 ((rd_T44 l0 x4_1).f2), .int .i64 (wrap64 (((rd_T44 l0 x4_1).f3) + 1)), .bool false] 44 (0, 0)) (by (with_reducible repeat (first | refine blk_drewN ?_ _ | refine blk_drew ?_ | refine blk_alloc ?_ _)); refine blk_put (cs := #[.int .i64 ((rd_T44 l0 x4_1).f0), .int .i64 ((rd_T44 l0 x4_1).f1), .int .i64 ((rd_T44 l0 x4_1).f2), .int .i64 ((rd_T44 l0 x4_1).f3), .bool false]) ?_ 3 _ rfl; (with_reducible repeat (first | refine blk_drewN ?_ _ | refine blk_drew ?_ | refine blk_alloc ?_ _)); exact BK181.out) hg (Kd.R_away HO_3.out (fun _ hk => hk))) hb ho; clear BK181 HB HO_3; obtain ⟨BK181, HB, HO187⟩ := n_; clear ho hb hg hat))
           go_roundg k1
           case measure => have := HK1.out; omega
           case rel => exact ⟨(y185), (wrap64 (x4_1 + 1)), sq, H', ⟨by have := HK1.out; omega⟩, ⟨by (with_reducible repeat (first | apply Kd.R_alloc | apply Kd.R_drewN | apply Kd.R_drew)); exact Kd.R_mono HO187.out (fun _ hk => trivial)⟩, ⟨bq1 HB.out GE181.out⟩⟩
         rw [if_neg c15] at H
         exact absurd H (by simp)
       rw [if_neg c14] at H
       have c14b0 : decide (((rd_T44 l0 x4_1).f3) < 4) = false := decide_eq_false c14
       clear c14
       have H' := am H
       clear H
       have p180 : 0 ≤ (x4_1 : Int) := oda
       have q180 : x4_1 < (l0.length : Int) := oda
       obtain ⟨ad180, e180, hx180_0, hx180_1, hx180_2, hx180_3, hx180_4⟩ := at_T44 HR0.out x4_1 p180 q180
       (try rw [← Nbq6.out] at hx180_4)
       cases e180
       replace hx180_0 := (HB.out.cell (World.block_lt_of_cell? w _ hx180_0)).trans hx180_0
       replace hx180_1 := (HB.out.cell (World.block_lt_of_cell? w _ hx180_1)).trans hx180_1
       replace hx180_2 := (HB.out.cell (World.block_lt_of_cell? w _ hx180_2)).trans hx180_2
       replace hx180_3 := (HB.out.cell (World.block_lt_of_cell? w _ hx180_3)).trans hx180_3
       replace hx180_4 := (HB.out.cell (World.block_lt_of_cell? w _ hx180_4)).trans hx180_4
       replace p180 := eq_true p180
       replace q180 := eq_true q180
       go_wp2_with (first | ((with_reducible refine gate_dst (N := 5) rfl ?_); refine box_event ?hg (N := 5) ?hd (cs := #[.int .i64 0, .int .i64 0, .int .i64 0, .int .i64 0, .bool false]) (t := 44) ?hr ?_; (case hd => rfl); (case hg => rfl); (case hr => exact gs); intro gb181 hg w21 hbox hb; have n_ := ak5 (Kd.R_below (Kd.R_elderB (kqR HO_3.out) gb181 (Nat.le_of_eq hg.symm)) hb) (below_step (bq HB.out) hb) hbox ((by rw [hg]; exact (below_size (bq HB.out)) : w.heap.size ≤ gb181)) ((by rw [hg]; exact (below_size (bq HB.out)) : w.heap.size ≤ gb181)); clear HO_3 HB; obtain ⟨HO_3, HB, BK181, GW181, GE181⟩ := n_; clear hb hbox hg; have hcz22_0 : w21.cell? ⟨gb181, 0, none⟩ = some (.int .i64 0) := (blk_cell BK181.out 0).trans rfl; have hcz22_1 : w21.cell? ⟨gb181, 1, none⟩ = some (.int .i64 0) := (blk_cell BK181.out 1).trans rfl; have hcz22_2 : w21.cell? ⟨gb181, 2, none⟩ = some (.int .i64 0) := (blk_cell BK181.out 2).trans rfl; have hcz22_3 : w21.cell? ⟨gb181, 3, none⟩ = some (.int .i64 0) := (blk_cell BK181.out 3).trans rfl; have hcz22_4 : w21.cell? ⟨gb181, 4, none⟩ = some (.bool false) := (blk_cell BK181.out 4).trans rfl; have hfz22_0 := blk_frozen BK181.out 0; have hfz22_1 := blk_frozen BK181.out 1; have hfz22_2 := blk_frozen BK181.out 2; have hfz22_3 := blk_frozen BK181.out 3; have hfz22_4 := blk_frozen BK181.out 4) | ((with_reducible refine gate_store (t := 44) (p := 5) rfl ?_); refine store_event (t := 44) (p := 5) (v := ?vo_w23) (w1 := (((((w21.setCell ⟨gb181, 0, none⟩ (.int .i64 ((rd_T44 l0 x4_1).f0))).setCell ⟨gb181, 1, none⟩ (.int .i64 ((rd_T44 l0 x4_1).f1))).setCell ⟨gb181, 2, none⟩ (.int .i64 ((rd_T44 l0 x4_1).f2))).setCell ⟨gb181, 3, none⟩ (.int .i64 ((rd_T44 l0 x4_1).f3))).setCell ⟨gb181, 4, none⟩ (.bool false))) ?hg ?ho ?hn ?hr ?_; (case ho => rfl); (case hg => rfl); (case hn => rfl); (case hr => exact gs); intro w23 hw; have n0_ : Aside0 (Kd.R k44 44 w23 w.heap.size (fun k_ => k_ ≠ gb181) u3 x3_1) := ⟨(by rw [hw]; exact (by (with_reducible repeat (first | apply Kd.R_alloc | apply Kd.R_drewN | apply Kd.R_drew)); exact Kd.R_mono (Kd.R_far (p := ⟨gb181, 4, none⟩) (Kd.R_far (p := ⟨gb181, 3, none⟩) (Kd.R_far (p := ⟨gb181, 2, none⟩) (Kd.R_far (p := ⟨gb181, 1, none⟩) (Kd.R_far (p := ⟨gb181, 0, none⟩) (Kd.R_mono HO_3.out (fun k_ hk => (⟨hk, hk.2⟩ : _ ∧ k_ ≠ gb181))) (fun _ hk => hk.2) (.int .i64 ((rd_T44 l0 x4_1).f0))) (fun _ hk => hk.2) (.int .i64 ((rd_T44 l0 x4_1).f1))) (fun _ hk => hk.2) (.int .i64 ((rd_T44 l0 x4_1).f2))) (fun _ hk => hk.2) (.int .i64 ((rd_T44 l0 x4_1).f3))) (fun _ hk => hk.2) (.bool false)) (fun _ hk => hk.1.2)))⟩; have n1_ : Aside0 (w23.heap[gb181]? = some (.cells #[.int .i64 ((rd_T44 l0 x4_1).f0), .int .i64 ((rd_T44 l0 x4_1).f1), .int .i64 ((rd_T44 l0 x4_1).f2), .int .i64 ((rd_T44 l0 x4_1).f3), .bool false] 44 (0, 0))) := ⟨(by rw [hw]; exact (by (with_reducible repeat (first | refine blk_drewN ?_ _ | refine blk_drew ?_ | refine blk_alloc ?_ _)); refine blk_put (cs := #[.int .i64 ((rd_T44 l0 x4_1).f0), .int .i64 ((rd_T44 l0 x4_1).f1), .int .i64 ((rd_T44 l0 x4_1).f2), .int .i64 ((rd_T44 l0 x4_1).f3), .bool false]) ?_ 4 _ rfl; (with_reducible repeat (first | refine blk_drewN ?_ _ | refine blk_drew ?_ | refine blk_alloc ?_ _)); refine blk_put (cs := #[.int .i64 ((rd_T44 l0 x4_1).f0), .int .i64 ((rd_T44 l0 x4_1).f1), .int .i64 ((rd_T44 l0 x4_1).f2), .int .i64 0, .bool false]) ?_ 3 _ rfl; (with_reducible repeat (first | refine blk_drewN ?_ _ | refine blk_drew ?_ | refine blk_alloc ?_ _)); refine blk_put (cs := #[.int .i64 ((rd_T44 l0 x4_1).f0), .int .i64 ((rd_T44 l0 x4_1).f1), .int .i64 0, .int .i64 0, .bool false]) ?_ 2 _ rfl; (with_reducible repeat (first | refine blk_drewN ?_ _ | refine blk_drew ?_ | refine blk_alloc ?_ _)); refine blk_put (cs := #[.int .i64 ((rd_T44 l0 x4_1).f0), .int .i64 0, .int .i64 0, .int .i64 0, .bool false]) ?_ 1 _ rfl; (with_reducible repeat (first | refine blk_drewN ?_ _ | refine blk_drew ?_ | refine blk_alloc ?_ _)); refine blk_put (cs := #[.int .i64 0, .int .i64 0, .int .i64 0, .int .i64 0, .bool false]) ?_ 0 _ rfl; (with_reducible repeat (first | refine blk_drewN ?_ _ | refine blk_drew ?_ | refine blk_alloc ?_ _)); exact BK181.out))⟩; have n2_ : Aside0 (Below w.heap.size w w23) := ⟨(by rw [hw]; exact (bq1 HB.out GE181.out))⟩; clear hw; clear HO_3; clear BK181; clear HB; have HO_3 := n0_; have BK181 := n1_; have HB := n2_; clear n0_ n1_ n2_; have hcz24_0 : w23.cell? ⟨gb181, 0, none⟩ = some (.int .i64 ((rd_T44 l0 x4_1).f0)) := (blk_cell BK181.out 0).trans rfl; have hcz24_1 : w23.cell? ⟨gb181, 1, none⟩ = some (.int .i64 ((rd_T44 l0 x4_1).f1)) := (blk_cell BK181.out 1).trans rfl; have hcz24_2 : w23.cell? ⟨gb181, 2, none⟩ = some (.int .i64 ((rd_T44 l0 x4_1).f2)) := (blk_cell BK181.out 2).trans rfl; have hcz24_3 : w23.cell? ⟨gb181, 3, none⟩ = some (.int .i64 ((rd_T44 l0 x4_1).f3)) := (blk_cell BK181.out 3).trans rfl; have hcz24_4 : w23.cell? ⟨gb181, 4, none⟩ = some (.bool false) := (blk_cell BK181.out 4).trans rfl; have hfz24_0 := blk_frozen BK181.out 0; have hfz24_1 := blk_frozen BK181.out 1; have hfz24_2 := blk_frozen BK181.out 2; have hfz24_3 := blk_frozen BK181.out 3; have hfz24_4 := blk_frozen BK181.out 4))
       go_roundg k1
       case measure => have := HK1.out; omega
       case rel => exact ⟨(x3_1), (wrap64 (x4_1 + 1)), sq, H', ⟨by have := HK1.out; omega⟩, ⟨by (with_reducible repeat (first | apply Kd.R_alloc | apply Kd.R_drewN | apply Kd.R_drew)); exact Kd.R_mono HO_3.out (fun _ hk => trivial)⟩, ⟨bq1 HB.out GE181.out⟩⟩
     rw [if_neg c5] at H
     exact absurd H (by simp)
   rw [if_neg c4] at H
   have c4b0 : decide (x4_1 < (l0.length : Int)) = false := decide_eq_false c4
   clear c4
   obtain rfl := Option.some.inj H
   go_wp2
   go_ret
   exact ⟨_, rq, kqR HO_3.out, bq HB.out⟩

/-! ### spec_l1Byte: function 124 -/
def spec_l1Byte.f (s0_0 : List Int) (s0_1 : Int) (s0_2 : Int) : Option (Int × Int × Int) := if s0_1 < (s0_0.length : Int) then (if 0 ≤ s0_1 then (some (Go.bits .and .i64 (wrap64 ((Go.bits .and .i64 (Go.bits .xor .i64 ((wrap64 ((wrap64 (s0_2 * 6364136223846793005)) + 1442695040888963407)) / 8589934592) ((wrap64 ((wrap64 (s0_2 * 6364136223846793005)) + 1442695040888963407)) / 140737488355328)) 255) + (wrap64 (rd s0_0 s0_1)))) 255, wrap64 (s0_1 + 1), wrap64 ((wrap64 (s0_2 * 6364136223846793005)) + 1442695040888963407))) else (none)) else (some (Go.bits .and .i64 (Go.bits .xor .i64 ((wrap64 ((wrap64 (s0_2 * 6364136223846793005)) + 1442695040888963407)) / 8589934592) ((wrap64 ((wrap64 (s0_2 * 6364136223846793005)) + 1442695040888963407)) / 140737488355328)) 255, s0_1, wrap64 ((wrap64 (s0_2 * 6364136223846793005)) + 1442695040888963407)))
set_option maxHeartbeats 8000000 in
set_option maxRecDepth 100000 in
theorem spec_l1Byte.calls (g : Nat) (s0_0 : List Int) (s0_1 : Int) (s0_2 : Int) (r1 : Int) (r2 : Int) (r3 : Int) (w0 w : World) (hI : IsS133 w0 w g s0_0 s0_1 s0_2) (hB : Below w0.heap.size w0 w) (h : spec_l1Byte.f s0_0 s0_1 s0_2 = some (r1, r2, r3)) :
 Calls Try.prog 124 #[.pointer (some ⟨g, 0, none⟩)] w fun e w' => e = .returned (.int .i64 r1) ∧ IsS133 w0 w' g s0_0 r2 r3 ∧ Below w0.heap.size w0 w' ∧ KeepBut w w' g none := by
 have HI0 := am hI
 have HK := am (KeepBut.refl w g none)
 have HL := am hB.size
 clear hI
 have HW0 := am hB.size
 have HB := am hB
 clear hB
 have H : (if s0_1 < (s0_0.length : Int) then (if 0 ≤ s0_1 then (some (Go.bits .and .i64 (wrap64 ((Go.bits .and .i64 (Go.bits .xor .i64 ((wrap64 ((wrap64 (s0_2 * 6364136223846793005)) + 1442695040888963407)) / 8589934592) ((wrap64 ((wrap64 (s0_2 * 6364136223846793005)) + 1442695040888963407)) / 140737488355328)) 255) + (wrap64 (rd s0_0 s0_1)))) 255, wrap64 (s0_1 + 1), wrap64 ((wrap64 (s0_2 * 6364136223846793005)) + 1442695040888963407))) else (none)) else (some (Go.bits .and .i64 (Go.bits .xor .i64 ((wrap64 ((wrap64 (s0_2 * 6364136223846793005)) + 1442695040888963407)) / 8589934592) ((wrap64 ((wrap64 (s0_2 * 6364136223846793005)) + 1442695040888963407)) / 140737488355328)) 255, s0_1, wrap64 ((wrap64 (s0_2 * 6364136223846793005)) + 1442695040888963407)))) = some (r1, r2, r3) := h
 clear h
 by_cases c2 : s0_1 < (s0_0.length : Int)
 · rw [if_pos c2] at H
   have c2b0 : decide (s0_1 < (s0_0.length : Int)) = true := decide_eq_true c2
   clear c2
   by_cases c3 : 0 ≤ s0_1
   · rw [if_pos c3] at H
     have c3b0 : decide (0 ≤ s0_1) = true := decide_eq_true c3
     clear c3
     simp only [Option.some.injEq, Prod.mk.injEq] at H
     obtain ⟨rfl, rfl, rfl⟩ := H
     obtain ⟨ASz4_0, cSz4_0, HGz4, hgz4, HSz4_0⟩ := HI0.out
     have hcz4_0 := cellS133_0 HGz4
     have hcz4_1 := cellS133_1 HGz4
     have hcz4_2 := cellS133_2 HGz4
     have hfz4_1 := blk_frozen HGz4 1
     have hfz4_2 := blk_frozen HGz4 2
     clear HGz4 hgz4
     have p188 : 0 ≤ (s0_1 : Int) := oda
     have q188 : s0_1 < (s0_0.length : Int) := oda
     obtain ⟨ad188, e188, hx188_0⟩ := Kd.at_int HSz4_0.1 s0_1 p188 q188
     cases e188
     have hn188_0 : ad188.block ≠ g := Nat.ne_of_lt (Nat.lt_of_lt_of_le (by have := World.block_lt_of_cell? _ _ hx188_0; first | rwa [add_block] at this | exact this) (IsS133.ge HI0.out))
     replace hx188_0 := pw_cell_below HB.out hx188_0
     replace hx188_0 := (cell_far (p := ⟨g, 2, none⟩) (by first | (rw [add_block]; exact hn188_0) | (show (Addr.add _ _).block ≠ _; rw [add_block]; exact hn188_0) | exact hn188_0) (.int .i64 (wrap64 ((wrap64 (s0_2 * 6364136223846793005)) + 1442695040888963407)))).trans hx188_0
     (try have hy188_0 := fun (n_ : Nat) => (show (((w.drewN n_).setCell ⟨g, 2, none⟩ (.int .i64 (wrap64 ((wrap64 (s0_2 * 6364136223846793005)) + 1442695040888963407))))).cell? _ = some _ from hx188_0))
     clear hn188_0
     replace p188 := eq_true p188
     replace q188 := eq_true q188
     go_enter Try.func124, Try.ntmps124
     go_wp2
     repeat (go_quiet (fail); try go_wp2)
     go_ret
     exact ⟨rq, IsS133.q0 HI0.out, bq1 HB.out (IsS133.ge HI0.out), kp0 HK.out⟩
   rw [if_neg c3] at H
   exact absurd H (by simp)
 rw [if_neg c2] at H
 have c2b0 : decide (s0_1 < (s0_0.length : Int)) = false := decide_eq_false c2
 clear c2
 simp only [Option.some.injEq, Prod.mk.injEq] at H
 obtain ⟨rfl, rfl, rfl⟩ := H
 obtain ⟨ASz5_0, cSz5_0, HGz5, hgz5, HSz5_0⟩ := HI0.out
 have hcz5_0 := cellS133_0 HGz5
 have hcz5_1 := cellS133_1 HGz5
 have hcz5_2 := cellS133_2 HGz5
 have hfz5_1 := blk_frozen HGz5 1
 have hfz5_2 := blk_frozen HGz5 2
 clear HGz5 hgz5
 go_enter Try.func124, Try.ntmps124
 go_wp2
 repeat (go_quiet (fail); try go_wp2)
 go_ret
 exact ⟨rq, IsS133.q0 HI0.out, bq1 HB.out (IsS133.ge HI0.out), kp0 HK.out⟩

end Go.Proofs.Ytebffdmkfkfoaaa.XFnForgets
