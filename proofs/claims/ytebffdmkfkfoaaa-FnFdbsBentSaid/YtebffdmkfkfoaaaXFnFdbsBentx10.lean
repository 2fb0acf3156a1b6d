/- The functions that one law reaches, as Lean functions, with their walks: printed by a program of this seat (wip/tools) out of the translation. -/
import Derived.Test.YtebffdmkfkfoaaaXFnFdbsBentx0
import Derived.Test.YtebffdmkfkfoaaaXFnFdbsBentx1
import Derived.Test.YtebffdmkfkfoaaaXFnFdbsBentx6
import Derived.Test.YtebffdmkfkfoaaaXFnFdbsBentx7
import Derived.Test.YtebffdmkfkfoaaaXFnFdbsBentx8
import Derived.Test.YtebffdmkfkfoaaaXFnFdbsBentx9
namespace Go.Proofs.Ytebffdmkfkfoaaa.XFnFdbsBent
open Go.RowKit Go.Proofs.YtebffdmkfkfoaaaW.PrintWords Go.Proofs.YtebffdmkfkfoaaaW.PrintLast Go.Proofs.YtebffdmkfkfoaaaW.PrintMore
attribute [local go_sem] max2_int min2_int max_two min_two max_three min_three max_four min_four   -- for this text's walks alone
set_option linter.unusedVariables false
set_option linter.unusedSimpArgs false

attribute [local go_sem high] eqA44
/-! ### impl_SetStatic: function 22 -/
def impl_SetStatic.j0 : Nat → List (S44) → Bool → Int → Int → Int → Int → Bool → Option ((List (S44)) × Bool)
 | 0, _, _, _, _, _, _, _ => none
 | k + 1, x0, x22, x229000, x229001, x229002, x229003, x229004 => if x22 = true then ((impl_copyFdb.f x0).bind fun t231 => (some (t231, false))) else ((impl_put.f k x0 x229000 x229001 x229002 x229003 x229004).bind fun bt234 => (some (bt234.1, bt234.2)))
def impl_SetStatic.f (k : Nat) (l0 : List (S44)) (a1 : Int) (a2 : Int) (a3 : Int) : Option ((List (S44)) × Bool) := (impl_FdbOk.f k l0).bind fun t229 => (if t229 = true then ((impl_fentOk.f a1 a2 a3 0 true).bind fun t230 => (impl_SetStatic.j0 k l0 (!t230) a1 a2 a3 0 true)) else (impl_SetStatic.j0 k l0 true a1 a2 a3 0 true))
theorem impl_SetStatic.mono_l : ∀ k, (∀ y0 y1 y2 y3 y4 y5 y6, LeO (impl_SetStatic.j0 k y0 y1 y2 y3 y4 y5 y6) (impl_SetStatic.j0 (k + 1) y0 y1 y2 y3 y4 y5 y6))
 | 0 => fun _ _ _ _ _ _ _ r h => by simp [impl_SetStatic.j0] at h
 | k + 1 => by
  have ih0 := impl_SetStatic.mono_l k
  intro y0 y1 y2 y3 y4 y5 y6
  unfold impl_SetStatic.j0
  repeat' first
  | (with_reducible exact ih0 _ _ _ _ _ _ _)
  | (with_reducible exact impl_FdbOk.mono _ _)
  | (with_reducible exact impl_put.mono _ _ _ _ _ _ _)
  | (with_reducible exact LeO.refl _)
  | (with_reducible exact LeO.none _)
  | (with_reducible refine LeO.ite ?_ ?_)
  | (with_reducible refine LeO.bind ?_ (fun _ => ?_))
  | exact ih0 _ _ _ _ _ _ _
  | exact impl_FdbOk.mono _ _
  | exact impl_put.mono _ _ _ _ _ _ _
  | exact LeO.none _
  | refine LeO.ite ?_ ?_
  | refine LeO.bind ?_ (fun _ => ?_)
theorem impl_SetStatic.mono : ∀ a0 a1 a2 a3 k, LeO (impl_SetStatic.f k a0 a1 a2 a3) (impl_SetStatic.f (k + 1) a0 a1 a2 a3) := by
 intro a0 a1 a2 a3 k
 have ih0 := impl_SetStatic.mono_l k
 unfold impl_SetStatic.f
 repeat' first
  | (with_reducible exact ih0 _ _ _ _ _ _ _)
  | (with_reducible exact impl_FdbOk.mono _ _)
  | (with_reducible exact impl_put.mono _ _ _ _ _ _ _)
  | (with_reducible exact LeO.refl _)
  | (with_reducible exact LeO.none _)
  | (with_reducible refine LeO.ite ?_ ?_)
  | (with_reducible refine LeO.bind ?_ (fun _ => ?_))
  | exact ih0 _ _ _ _ _ _ _
  | exact impl_FdbOk.mono _ _
  | exact impl_put.mono _ _ _ _ _ _ _
  | exact LeO.none _
  | refine LeO.ite ?_ ?_
  | refine LeO.bind ?_ (fun _ => ?_)
set_option maxHeartbeats 8000000 in
set_option maxRecDepth 100000 in
theorem impl_SetStatic.calls (k : Nat) (A0 : Option Addr) (c0 : Nat) (l0 : List (S44)) (a1 : Int) (a2 : Int) (a3 : Int) (r1 : List (S44)) (r2 : Bool) (w : World) (hr0 : Kd.C k44 w A0 l0.length l0) (hc0 : l0.length ≤ c0) (h : impl_SetStatic.f k l0 a1 a2 a3 = some (r1, r2)) :
 Calls Try.prog 22 #[.slice A0 l0.length c0, .int .i64 a1, .int .i64 a2, .int .i64 a3] w fun e w' => ∃ v0_ : Value, e = .returned (.tuple #[v0_, .bool r2]) ∧ Kd.R k44 44 w' w.heap.size (fun _ => True) v0_ r1 ∧ Below w.heap.size w w' := by
 have hu44 := Try.underlying44
 have HR0 := am hr0
 have HC0 := am hc0
 clear hr0 hc0
 have HB := am (Below.refl w.heap.size w)
 have H : ((impl_FdbOk.f k l0).bind fun t229 => (if t229 = true then ((impl_fentOk.f a1 a2 a3 0 true).bind fun t230 => (impl_SetStatic.j0 k l0 (!t230) a1 a2 a3 0 true)) else (impl_SetStatic.j0 k l0 true a1 a2 a3 0 true))) = some (r1, r2) := h
 clear h
 have HC5 := am H
 clear H
 go_enter Try.func22, Try.ntmps22
 go_upto_region 2 with (first | ((with_reducible refine gate_dst (N := 10) rfl ?_); refine box_event ?hg (N := 10) ?hd (cs := #[.int .i64 0, .int .i64 0, .int .i64 0, .int .i64 0, .bool false]) (t := 44) ?hr ?_; (case hd => rfl); (case hg => rfl); (case hr => exact gs); intro gb228 hg w6 hbox hb; have n_ := ak4 (below_step (bq HB.out) hb) hbox ((by rw [hg]; exact (below_size (bq HB.out)) : w.heap.size ≤ gb228)) ((by rw [hg]; exact (below_size (bq HB.out)) : w.heap.size ≤ gb228)); clear HB; obtain ⟨HB, BK228, GW228, GE228⟩ := n_; clear hb hbox hg; have hcz7_0 : w6.cell? ⟨gb228, 0, none⟩ = some (.int .i64 0) := (blk_cell BK228.out 0).trans rfl; have hcz7_1 : w6.cell? ⟨gb228, 1, none⟩ = some (.int .i64 0) := (blk_cell BK228.out 1).trans rfl; have hcz7_2 : w6.cell? ⟨gb228, 2, none⟩ = some (.int .i64 0) := (blk_cell BK228.out 2).trans rfl; have hcz7_3 : w6.cell? ⟨gb228, 3, none⟩ = some (.int .i64 0) := (blk_cell BK228.out 3).trans rfl; have hcz7_4 : w6.cell? ⟨gb228, 4, none⟩ = some (.bool false) := (blk_cell BK228.out 4).trans rfl; have hfz7_0 := blk_frozen BK228.out 0; have hfz7_1 := blk_frozen BK228.out 1; have hfz7_2 := blk_frozen BK228.out 2; have hfz7_3 := blk_frozen BK228.out 3; have hfz7_4 := blk_frozen BK228.out 4) | ((with_reducible refine gate_store (t := 44) (p := 10) rfl ?_); refine store_event (t := 44) (p := 10) (v := ?vo_w8) (w1 := (((((w6.setCell ⟨gb228, 0, none⟩ (.int .i64 a1)).setCell ⟨gb228, 1, none⟩ (.int .i64 a2)).setCell ⟨gb228, 2, none⟩ (.int .i64 a3)).setCell ⟨gb228, 3, none⟩ (.int .i64 0)).setCell ⟨gb228, 4, none⟩ (.bool true))) ?hg ?ho ?hn ?hr ?_; (case ho => rfl); (case hg => rfl); (case hn => rfl); (case hr => exact gs); intro w8 hw; have n0_ : Aside0 (w8.heap[gb228]? = some (.cells #[.int .i64 a1, .int .i64 a2, .int .i64 a3, .int .i64 0, .bool true] 44 (0, 0))) := ⟨(by rw [hw]; exact (by (with_reducible repeat (first | refine blk_drewN ?_ _ | refine blk_drew ?_ | refine blk_alloc ?_ _)); refine blk_put (cs := #[.int .i64 a1, .int .i64 a2, .int .i64 a3, .int .i64 0, .bool false]) ?_ 4 _ rfl; (with_reducible repeat (first | refine blk_drewN ?_ _ | refine blk_drew ?_ | refine blk_alloc ?_ _)); refine blk_put (cs := #[.int .i64 a1, .int .i64 a2, .int .i64 a3, .int .i64 0, .bool false]) ?_ 3 _ rfl; (with_reducible repeat (first | refine blk_drewN ?_ _ | refine blk_drew ?_ | refine blk_alloc ?_ _)); refine blk_put (cs := #[.int .i64 a1, .int .i64 a2, .int .i64 0, .int .i64 0, .bool false]) ?_ 2 _ rfl; (with_reducible repeat (first | refine blk_drewN ?_ _ | refine blk_drew ?_ | refine blk_alloc ?_ _)); refine blk_put (cs := #[.int .i64 a1, .int .i64 0, .int .i64 0, .int .i64 0, .bool false]) ?_ 1 _ rfl; (with_reducible repeat (first | refine blk_drewN ?_ _ | refine blk_drew ?_ | refine blk_alloc ?_ _)); refine blk_put (cs := #[.int .i64 0, .int .i64 0, .int .i64 0, .int .i64 0, .bool false]) ?_ 0 _ rfl; (with_reducible repeat (first | refine blk_drewN ?_ _ | refine blk_drew ?_ | refine blk_alloc ?_ _)); exact BK228.out))⟩; have n1_ : Aside0 (Below w.heap.size w w8) := ⟨(by rw [hw]; exact (bq1 HB.out GE228.out))⟩; clear hw; clear BK228; clear HB; have BK228 := n0_; have HB := n1_; clear n0_ n1_))
 (try simp only [Act.put, List.setIfInBounds_toArray, List.set_cons_zero, List.set_cons_succ])
 go_cut [22] (fun v22 wc => ∃ (kq : Nat) (x22_4 : Bool), v22 = .bool x22_4 ∧ Aside0 (impl_SetStatic.j0 kq l0 x22_4 a1 a2 a3 0 true = some (r1, r2)) ∧ Aside0 (kq ≤ k) ∧ Aside0 (wc.heap[gb228]? = some (.cells #[.int .i64 a1, .int .i64 a2, .int .i64 a3, .int .i64 0, .bool true] 44 (0, 0))) ∧ Aside0 (Below w.heap.size w wc))
 case first =>
  have H := HC5.out
  clear HC5
  replace H := Option.bind_eq_some_iff.mp H
  obtain ⟨t229, A90, H⟩ := H
  replace H : (if t229 = true then ((impl_fentOk.f a1 a2 a3 0 true).bind fun t230 => (impl_SetStatic.j0 k l0 (!t230) a1 a2 a3 0 true)) else (impl_SetStatic.j0 k l0 true a1 a2 a3 0 true)) = some (r1, r2) := H
  have A9 := am A90
  clear A90
  by_cases c10 : t229 = true
  · subst c10
    have H1 : ((impl_fentOk.f a1 a2 a3 0 true).bind fun t230 => (impl_SetStatic.j0 k l0 (!t230) a1 a2 a3 0 true)) = some (r1, r2) := by rw [if_pos rfl] at H; exact H
    clear H
    have H := H1
    clear H1
    replace H := Option.bind_eq_some_iff.mp H
    obtain ⟨t230, A110, H⟩ := H
    replace H : (impl_SetStatic.j0 k l0 (!t230) a1 a2 a3 0 true) = some (r1, r2) := H
    have A11 := am A110
    clear A110
    have H' := am H
    clear H
    go_wp2_with (first | ((with_reducible refine gate_callee (f := 30) rfl ?_); refine goesL_ (some 16) rfl rfl Try.func30 (by kernel_rfl) rfl #[.slice A0 l0.length c0] rfl ga ?_; (with_reducible refine (impl_FdbOk.calls k _ _ l0 true _ ?side1 ?side2 A9.out).mono ?_); (case side1 => exact cq (Kd.C_below HR0.out HB.out)); (case side2 => exact HC0.out); rintro e w12 ⟨rfl, hb⟩; refine ⟨_, rfl, ?_⟩; have n_ := ak2 (blk_below (g := gb228) (o := .cells #[.int .i64 a1, .int .i64 a2, .int .i64 a3, .int .i64 0, .bool true] 44 (0, 0)) (zq BK228.out) hb) (below_step (bq1 HB.out GE228.out) hb); clear BK228 HB; obtain ⟨BK228, HB⟩ := n_; (try clear hb); have hcz13_0 : w12.cell? ⟨gb228, 0, none⟩ = some (.int .i64 a1) := (blk_cell BK228.out 0).trans rfl; have hcz13_1 : w12.cell? ⟨gb228, 1, none⟩ = some (.int .i64 a2) := (blk_cell BK228.out 1).trans rfl; have hcz13_2 : w12.cell? ⟨gb228, 2, none⟩ = some (.int .i64 a3) := (blk_cell BK228.out 2).trans rfl; have hcz13_3 : w12.cell? ⟨gb228, 3, none⟩ = some (.int .i64 0) := (blk_cell BK228.out 3).trans rfl; have hcz13_4 : w12.cell? ⟨gb228, 4, none⟩ = some (.bool true) := (blk_cell BK228.out 4).trans rfl; have hfz13_0 := blk_frozen BK228.out 0; have hfz13_1 := blk_frozen BK228.out 1; have hfz13_2 := blk_frozen BK228.out 2; have hfz13_3 := blk_frozen BK228.out 3; have hfz13_4 := blk_frozen BK228.out 4) | (go_at_call 80; (with_reducible refine (impl_fentOk.calls a1 a2 a3 0 true t230 _ A11.out).mono ?_); rintro e w14 ⟨rfl, hb⟩; have n_ := ak2 (blk_below (g := gb228) (o := .cells #[.int .i64 a1, .int .i64 a2, .int .i64 a3, .int .i64 0, .bool true] 44 (0, 0)) (zq BK228.out) hb) (below_step (bq1 HB.out GE228.out) hb); clear BK228 HB; obtain ⟨BK228, HB⟩ := n_; (try clear hb)))
    go_meet
    case rel => exact ⟨_, (!t230), sq, H', ⟨by first | omega | exact Nat.le_refl _⟩, ⟨zq BK228.out⟩, ⟨bq1 HB.out GE228.out⟩⟩
  replace c10 := Bool.eq_false_iff.mpr c10
  subst c10
  have H1 : (impl_SetStatic.j0 k l0 true a1 a2 a3 0 true) = some (r1, r2) := by rw [if_neg (show ¬ (false = true) by decide)] at H; exact H
  clear H
  have H := H1
  clear H1
  have H' := am H
  clear H
  go_wp2_with (first | ((with_reducible refine gate_callee (f := 30) rfl ?_); refine goesL_ (some 16) rfl rfl Try.func30 (by kernel_rfl) rfl #[.slice A0 l0.length c0] rfl ga ?_; (with_reducible refine (impl_FdbOk.calls k _ _ l0 false _ ?side1 ?side2 A9.out).mono ?_); (case side1 => exact cq (Kd.C_below HR0.out HB.out)); (case side2 => exact HC0.out); rintro e w15 ⟨rfl, hb⟩; refine ⟨_, rfl, ?_⟩; have n_ := ak2 (blk_below (g := gb228) (o := .cells #[.int .i64 a1, .int .i64 a2, .int .i64 a3, .int .i64 0, .bool true] 44 (0, 0)) (zq BK228.out) hb) (below_step (bq1 HB.out GE228.out) hb); clear BK228 HB; obtain ⟨BK228, HB⟩ := n_; (try clear hb)))
  go_meet
  case rel => exact ⟨_, (true), sq, H', ⟨by first | omega | exact Nat.le_refl _⟩, ⟨zq BK228.out⟩, ⟨bq1 HB.out GE228.out⟩⟩
 case rest =>
  clear HC5
  try clear c1
  try clear c2
  try clear p2
  try clear c3
  try clear c10
  try clear hcz13_0
  try clear hcz13_1
  try clear hcz13_2
  try clear hcz13_3
  try clear hcz13_4
  try clear hcz7_0
  try clear hcz7_1
  try clear hcz7_2
  try clear hcz7_3
  try clear hcz7_4
  try clear hfz13_0
  try clear hfz13_1
  try clear hfz13_2
  try clear hfz13_3
  try clear hfz13_4
  try clear hfz7_0
  try clear hfz7_1
  try clear hfz7_2
  try clear hfz7_3
  try clear hfz7_4
  obtain ⟨kq, x22_4, rfl, HA, HJ4, BK228, HB⟩ := hcut
  cases kq with
  | zero => exact absurd HA.out (by simp [impl_SetStatic.j0])
  | succ kj4 =>
   have H := HA.out
   clear HA
   simp only [impl_SetStatic.j0] at H
   by_cases c16 : x22_4 = true
   · subst c16
     have H1 : ((impl_copyFdb.f l0).bind fun t231 => (some (t231, false))) = some (r1, r2) := by rw [if_pos rfl] at H; exact H
     clear H
     have H := H1
     clear H1
     replace H := Option.bind_eq_some_iff.mp H
     obtain ⟨t231, A170, H⟩ := H
     replace H : (some (t231, false)) = some (r1, r2) := H
     have A17 := am A170
     clear A170
     simp only [Option.some.injEq, Prod.mk.injEq] at H
     obtain ⟨rfl, rfl⟩ := H
     go_wp2_with (first | ((with_reducible refine gate_callee (f := 81) rfl ?_); refine goesL_ (some 24) rfl rfl Try.func81 (by kernel_rfl) rfl #[.slice A0 l0.length c0] rfl ga ?_; (with_reducible refine (impl_copyFdb.calls _ _ l0 t231 _ ?side1 ?side2 A17.out).mono ?_); (case side1 => exact cq (Kd.C_below HR0.out HB.out)); (case side2 => exact HC0.out); rintro e w18 ⟨v232, rfl, ho0, hb⟩; refine ⟨_, rfl, ?_⟩; have n_ := ak3 (Kd.R_lower (Kd.R_newB ho0 (g := gb228) (o := .cells #[.int .i64 a1, .int .i64 a2, .int .i64 a3, .int .i64 0, .bool true] 44 (0, 0)) (zq BK228.out)) (below_size (bq1 HB.out GE228.out))) (blk_below (g := gb228) (o := .cells #[.int .i64 a1, .int .i64 a2, .int .i64 a3, .int .i64 0, .bool true] 44 (0, 0)) (zq BK228.out) hb) (below_step (bq1 HB.out GE228.out) hb); clear BK228 HB; obtain ⟨HO233, BK228, HB⟩ := n_; (try clear hb ho0)))
     go_ret2
     exact ⟨_, rq, by (with_reducible repeat (first | apply Kd.R_alloc | apply Kd.R_drewN | apply Kd.R_drew)); exact Kd.R_mono HO233.out (fun _ hk => trivial), bq1 HB.out GE228.out⟩
   replace c16 := Bool.eq_false_iff.mpr c16
   subst c16
   have H1 : ((impl_put.f kj4 l0 a1 a2 a3 0 true).bind fun bt234 => (some (bt234.1, bt234.2))) = some (r1, r2) := by rw [if_neg (show ¬ (false = true) by decide)] at H; exact H
   clear H
   have H := H1
   clear H1
   replace H := Option.bind_eq_some_iff.mp H
   obtain ⟨⟨t234, t237⟩, A190, H⟩ := H
   replace H : (some (t234, t237)) = some (r1, r2) := H
   have A19 := am A190
   clear A190
   simp only [Option.some.injEq, Prod.mk.injEq] at H
   obtain ⟨rfl, rfl⟩ := H
   have hcz20_0 : wc.cell? ⟨gb228, 0, none⟩ = some (.int .i64 a1) := (blk_cell BK228.out 0).trans rfl
   have hcz20_1 : wc.cell? ⟨gb228, 1, none⟩ = some (.int .i64 a2) := (blk_cell BK228.out 1).trans rfl
   have hcz20_2 : wc.cell? ⟨gb228, 2, none⟩ = some (.int .i64 a3) := (blk_cell BK228.out 2).trans rfl
   have hcz20_3 : wc.cell? ⟨gb228, 3, none⟩ = some (.int .i64 0) := (blk_cell BK228.out 3).trans rfl
   have hcz20_4 : wc.cell? ⟨gb228, 4, none⟩ = some (.bool true) := (blk_cell BK228.out 4).trans rfl
   have hfz20_0 := blk_frozen BK228.out 0
   have hfz20_1 := blk_frozen BK228.out 1
   have hfz20_2 := blk_frozen BK228.out 2
   have hfz20_3 := blk_frozen BK228.out 3
   have hfz20_4 := blk_frozen BK228.out 4
   go_wp2_with (first | ((with_reducible refine gate_callee (f := 82) rfl ?_); refine goesL_ (some 27) rfl rfl Try.func82 (by kernel_rfl) rfl #[.slice A0 l0.length c0, .agg #[.int .i64 a1, .int .i64 a2, .int .i64 a3, .int .i64 0, .bool true]] rfl ga ?_; (with_reducible refine (impl_put.calls kj4 _ _ l0 a1 a2 a3 0 true t234 t237 _ ?side1 ?side2 A19.out).mono ?_); (case side1 => exact cq (Kd.C_below HR0.out HB.out)); (case side2 => exact HC0.out); rintro e w21 ⟨v235, rfl, ho0, hb⟩; refine ⟨_, rfl, ?_⟩; have n_ := ak3 (Kd.R_lower (Kd.R_newB ho0 (g := gb228) (o := .cells #[.int .i64 a1, .int .i64 a2, .int .i64 a3, .int .i64 0, .bool true] 44 (0, 0)) (zq BK228.out)) (below_size (bq1 HB.out GE228.out))) (blk_below (g := gb228) (o := .cells #[.int .i64 a1, .int .i64 a2, .int .i64 a3, .int .i64 0, .bool true] 44 (0, 0)) (zq BK228.out) hb) (below_step (bq1 HB.out GE228.out) hb); clear BK228 HB; obtain ⟨HO236, BK228, HB⟩ := n_; (try clear hb ho0)))
   go_ret2
   exact ⟨_, rq, by (with_reducible repeat (first | apply Kd.R_alloc | apply Kd.R_drewN | apply Kd.R_drew)); exact Kd.R_mono HO236.out (fun _ hk => trivial), bq1 HB.out GE228.out⟩

/-! ### laws_big: function 26 -/
def laws_big.f (l0 : List Int) : Option (Bool) := some (decide ((l0.length : Int) > 1048576))
set_option maxHeartbeats 8000000 in
set_option maxRecDepth 100000 in
theorem laws_big.calls (A0 : Option Addr) (c0 : Nat) (l0 : List Int) (r : Bool) (w : World) (hr0 : Kd.C (Kd.int .u8) w A0 l0.length l0) (hc0 : l0.length ≤ c0) (h : laws_big.f l0 = some r) :
 Calls Try.prog 26 #[.slice A0 l0.length c0] w fun e w' => e = .returned (.bool r) ∧ Drawn0 w w' := by
 have HR0 := am hr0
 have HC0 := am hc0
 clear hr0 hc0
 have H : (some (decide ((l0.length : Int) > 1048576))) = some r := h
 clear h
 obtain rfl := Option.some.inj H
 go_enter Try.func26, Try.ntmps26
 go_wp2
 go_ret
 exact ⟨by first | rfl | (simp; done) | (simp [*]; done), by repeat (first | exact Drawn0.refl _ | apply Drawn0.step)⟩

/-! ### impl_Learn: function 28 -/
def impl_Learn.j0 : Nat → List (S44) → Bool → Int → Int → Int → Int → Bool → Option ((List (S44)))
 | 0, _, _, _, _, _, _, _ => none
 | k + 1, x0, x39, x239000, x239001, x239002, x239003, x239004 => if x39 = true then ((impl_copyFdb.f x0).bind fun t243 => (some t243)) else ((impl_put.f k x0 x239000 x239001 x239002 x239003 x239004).bind fun bt246 => (some bt246.1))
def impl_Learn.f (k : Nat) (l0 : List (S44)) (a1 : Int) (a2 : Int) (a3 : Int) : Option ((List (S44))) := (impl_entAt.f k l0 a1 a2).bind fun t239 => ((impl_FdbOk.f k l0).bind fun t240 => (if t240 = true then ((impl_fentOk.f a1 a2 a3 0 false).bind fun t241 => (if t241 = true then (if t239 ≥ 0 then (if 0 ≤ t239 then (if t239 < (l0.length : Int) then (impl_Learn.j0 k l0 ((rd_T44 l0 t239).f4) a1 a2 a3 0 false) else (none)) else (none)) else (impl_Learn.j0 k l0 false a1 a2 a3 0 false)) else (impl_Learn.j0 k l0 true a1 a2 a3 0 false))) else (impl_Learn.j0 k l0 true a1 a2 a3 0 false)))
theorem impl_Learn.mono_l : ∀ k, (∀ y0 y1 y2 y3 y4 y5 y6, LeO (impl_Learn.j0 k y0 y1 y2 y3 y4 y5 y6) (impl_Learn.j0 (k + 1) y0 y1 y2 y3 y4 y5 y6))
 | 0 => fun _ _ _ _ _ _ _ r h => by simp [impl_Learn.j0] at h
 | k + 1 => by
  have ih0 := impl_Learn.mono_l k
  intro y0 y1 y2 y3 y4 y5 y6
  unfold impl_Learn.j0
  repeat' first
  | (with_reducible exact ih0 _ _ _ _ _ _ _)
  | (with_reducible exact impl_FdbOk.mono _ _)
  | (with_reducible exact impl_entAt.mono _ _ _ _)
  | (with_reducible exact impl_put.mono _ _ _ _ _ _ _)
  | (with_reducible exact LeO.refl _)
  | (with_reducible exact LeO.none _)
  | (with_reducible refine LeO.ite ?_ ?_)
  | (with_reducible refine LeO.bind ?_ (fun _ => ?_))
  | exact ih0 _ _ _ _ _ _ _
  | exact impl_FdbOk.mono _ _
  | exact impl_entAt.mono _ _ _ _
  | exact impl_put.mono _ _ _ _ _ _ _
  | exact LeO.none _
  | refine LeO.ite ?_ ?_
  | refine LeO.bind ?_ (fun _ => ?_)
theorem impl_Learn.mono : ∀ a0 a1 a2 a3 k, LeO (impl_Learn.f k a0 a1 a2 a3) (impl_Learn.f (k + 1) a0 a1 a2 a3) := by
 intro a0 a1 a2 a3 k
 have ih0 := impl_Learn.mono_l k
 unfold impl_Learn.f
 repeat' first
  | (with_reducible exact ih0 _ _ _ _ _ _ _)
  | (with_reducible exact impl_FdbOk.mono _ _)
  | (with_reducible exact impl_entAt.mono _ _ _ _)
  | (with_reducible exact impl_put.mono _ _ _ _ _ _ _)
  | (with_reducible exact LeO.refl _)
  | (with_reducible exact LeO.none _)
  | (with_reducible refine LeO.ite ?_ ?_)
  | (with_reducible refine LeO.bind ?_ (fun _ => ?_))
  | exact ih0 _ _ _ _ _ _ _
  | exact impl_FdbOk.mono _ _
  | exact impl_entAt.mono _ _ _ _
  | exact impl_put.mono _ _ _ _ _ _ _
  | exact LeO.none _
  | refine LeO.ite ?_ ?_
  | refine LeO.bind ?_ (fun _ => ?_)
set_option maxHeartbeats 8000000 in
set_option maxRecDepth 100000 in
theorem impl_Learn.calls (k : Nat) (A0 : Option Addr) (c0 : Nat) (l0 : List (S44)) (a1 : Int) (a2 : Int) (a3 : Int) (r : List (S44)) (w : World) (hr0 : Kd.C k44 w A0 l0.length l0) (hc0 : l0.length ≤ c0) (h : impl_Learn.f k l0 a1 a2 a3 = some r) :
 Calls Try.prog 28 #[.slice A0 l0.length c0, .int .i64 a1, .int .i64 a2, .int .i64 a3] w fun e w' => ∃ v0_ : Value, e = .returned (v0_) ∧ Kd.R k44 44 w' w.heap.size (fun _ => True) v0_ r ∧ Below w.heap.size w w' := by
 have hu44 := Try.underlying44
 have HR0 := am hr0
 have HC0 := am hc0
 clear hr0 hc0
 have HB := am (Below.refl w.heap.size w)
 have H : ((impl_entAt.f k l0 a1 a2).bind fun t239 => ((impl_FdbOk.f k l0).bind fun t240 => (if t240 = true then ((impl_fentOk.f a1 a2 a3 0 false).bind fun t241 => (if t241 = true then (if t239 ≥ 0 then (if 0 ≤ t239 then (if t239 < (l0.length : Int) then (impl_Learn.j0 k l0 ((rd_T44 l0 t239).f4) a1 a2 a3 0 false) else (none)) else (none)) else (impl_Learn.j0 k l0 false a1 a2 a3 0 false)) else (impl_Learn.j0 k l0 true a1 a2 a3 0 false))) else (impl_Learn.j0 k l0 true a1 a2 a3 0 false)))) = some r := h
 clear h
 replace H := Option.bind_eq_some_iff.mp H
 obtain ⟨t239, A50, H⟩ := H
 replace H : ((impl_FdbOk.f k l0).bind fun t240 => (if t240 = true then ((impl_fentOk.f a1 a2 a3 0 false).bind fun t241 => (if t241 = true then (if t239 ≥ 0 then (if 0 ≤ t239 then (if t239 < (l0.length : Int) then (impl_Learn.j0 k l0 ((rd_T44 l0 t239).f4) a1 a2 a3 0 false) else (none)) else (none)) else (impl_Learn.j0 k l0 false a1 a2 a3 0 false)) else (impl_Learn.j0 k l0 true a1 a2 a3 0 false))) else (impl_Learn.j0 k l0 true a1 a2 a3 0 false))) = some r := H
 have A5 := am A50
 clear A50
 have HC6 := am H
 clear H
 go_enter Try.func28, Try.ntmps28
 go_upto_region 3 with (first | ((with_reducible refine gate_dst (N := 9) rfl ?_); refine box_event ?hg (N := 9) ?hd (cs := #[.int .i64 0, .int .i64 0, .int .i64 0, .int .i64 0, .bool false]) (t := 44) ?hr ?_; (case hd => rfl); (case hg => rfl); (case hr => exact gs); intro gb238 hg w7 hbox hb; have n_ := ak4 (below_step (bq HB.out) hb) hbox ((by rw [hg]; exact (below_size (bq HB.out)) : w.heap.size ≤ gb238)) ((by rw [hg]; exact (below_size (bq HB.out)) : w.heap.size ≤ gb238)); clear HB; obtain ⟨HB, BK238, GW238, GE238⟩ := n_; clear hb hbox hg; have hcz8_0 : w7.cell? ⟨gb238, 0, none⟩ = some (.int .i64 0) := (blk_cell BK238.out 0).trans rfl; have hcz8_1 : w7.cell? ⟨gb238, 1, none⟩ = some (.int .i64 0) := (blk_cell BK238.out 1).trans rfl; have hcz8_2 : w7.cell? ⟨gb238, 2, none⟩ = some (.int .i64 0) := (blk_cell BK238.out 2).trans rfl; have hcz8_3 : w7.cell? ⟨gb238, 3, none⟩ = some (.int .i64 0) := (blk_cell BK238.out 3).trans rfl; have hcz8_4 : w7.cell? ⟨gb238, 4, none⟩ = some (.bool false) := (blk_cell BK238.out 4).trans rfl; have hfz8_0 := blk_frozen BK238.out 0; have hfz8_1 := blk_frozen BK238.out 1; have hfz8_2 := blk_frozen BK238.out 2; have hfz8_3 := blk_frozen BK238.out 3; have hfz8_4 := blk_frozen BK238.out 4) | ((with_reducible refine gate_store (t := 44) (p := 9) rfl ?_); refine store_event (t := 44) (p := 9) (v := ?vo_w9) (w1 := (((((w7.setCell ⟨gb238, 0, none⟩ (.int .i64 a1)).setCell ⟨gb238, 1, none⟩ (.int .i64 a2)).setCell ⟨gb238, 2, none⟩ (.int .i64 a3)).setCell ⟨gb238, 3, none⟩ (.int .i64 0)).setCell ⟨gb238, 4, none⟩ (.bool false))) ?hg ?ho ?hn ?hr ?_; (case ho => rfl); (case hg => rfl); (case hn => rfl); (case hr => exact gs); intro w9 hw; have n0_ : Aside0 (w9.heap[gb238]? = some (.cells #[.int .i64 a1, .int .i64 a2, .int .i64 a3, .int .i64 0, .bool false] 44 (0, 0))) := ⟨(by rw [hw]; exact (by (with_reducible repeat (first | refine blk_drewN ?_ _ | refine blk_drew ?_ | refine blk_alloc ?_ _)); refine blk_put (cs := #[.int .i64 a1, .int .i64 a2, .int .i64 a3, .int .i64 0, .bool false]) ?_ 4 _ rfl; (with_reducible repeat (first | refine blk_drewN ?_ _ | refine blk_drew ?_ | refine blk_alloc ?_ _)); refine blk_put (cs := #[.int .i64 a1, .int .i64 a2, .int .i64 a3, .int .i64 0, .bool false]) ?_ 3 _ rfl; (with_reducible repeat (first | refine blk_drewN ?_ _ | refine blk_drew ?_ | refine blk_alloc ?_ _)); refine blk_put (cs := #[.int .i64 a1, .int .i64 a2, .int .i64 0, .int .i64 0, .bool false]) ?_ 2 _ rfl; (with_reducible repeat (first | refine blk_drewN ?_ _ | refine blk_drew ?_ | refine blk_alloc ?_ _)); refine blk_put (cs := #[.int .i64 a1, .int .i64 0, .int .i64 0, .int .i64 0, .bool false]) ?_ 1 _ rfl; (with_reducible repeat (first | refine blk_drewN ?_ _ | refine blk_drew ?_ | refine blk_alloc ?_ _)); refine blk_put (cs := #[.int .i64 0, .int .i64 0, .int .i64 0, .int .i64 0, .bool false]) ?_ 0 _ rfl; (with_reducible repeat (first | refine blk_drewN ?_ _ | refine blk_drew ?_ | refine blk_alloc ?_ _)); exact BK238.out))⟩; have n1_ : Aside0 (Below w.heap.size w w9) := ⟨(by rw [hw]; exact (bq1 HB.out GE238.out))⟩; clear hw; clear BK238; clear HB; have BK238 := n0_; have HB := n1_; clear n0_ n1_) | ((with_reducible refine gate_callee (f := 88) rfl ?_); refine goesL_ (some 20) rfl rfl Try.func88 (by kernel_rfl) rfl #[.slice A0 l0.length c0, .int .i64 a1, .int .i64 a2] rfl ga ?_; (with_reducible refine (impl_entAt.calls k _ _ l0 a1 a2 t239 _ ?side1 ?side2 A5.out).mono ?_); (case side1 => exact cq (Kd.C_below HR0.out HB.out)); (case side2 => exact HC0.out); rintro e w10 ⟨rfl, hb⟩; refine ⟨_, rfl, ?_⟩; have n_ := ak2 (blk_below (g := gb238) (o := .cells #[.int .i64 a1, .int .i64 a2, .int .i64 a3, .int .i64 0, .bool false] 44 (0, 0)) (zq BK238.out) hb) (below_step (bq1 HB.out GE238.out) hb); clear BK238 HB; obtain ⟨BK238, HB⟩ := n_; (try clear hb)))
 (try simp only [Act.put, List.setIfInBounds_toArray, List.set_cons_zero, List.set_cons_succ])
 go_cut [39] (fun v39 wc => ∃ (kq : Nat) (x39_5 : Bool), v39 = .bool x39_5 ∧ Aside0 (impl_Learn.j0 kq l0 x39_5 a1 a2 a3 0 false = some r) ∧ Aside0 (kq ≤ k) ∧ Aside0 (wc.heap[gb238]? = some (.cells #[.int .i64 a1, .int .i64 a2, .int .i64 a3, .int .i64 0, .bool false] 44 (0, 0))) ∧ Aside0 (Below w.heap.size w wc))
 case first =>
  have H := HC6.out
  clear HC6
  replace H := Option.bind_eq_some_iff.mp H
  obtain ⟨t240, A110, H⟩ := H
  replace H : (if t240 = true then ((impl_fentOk.f a1 a2 a3 0 false).bind fun t241 => (if t241 = true then (if t239 ≥ 0 then (if 0 ≤ t239 then (if t239 < (l0.length : Int) then (impl_Learn.j0 k l0 ((rd_T44 l0 t239).f4) a1 a2 a3 0 false) else (none)) else (none)) else (impl_Learn.j0 k l0 false a1 a2 a3 0 false)) else (impl_Learn.j0 k l0 true a1 a2 a3 0 false))) else (impl_Learn.j0 k l0 true a1 a2 a3 0 false)) = some r := H
  have A11 := am A110
  clear A110
  by_cases c12 : t240 = true
  · subst c12
    have H1 : ((impl_fentOk.f a1 a2 a3 0 false).bind fun t241 => (if t241 = true then (if t239 ≥ 0 then (if 0 ≤ t239 then (if t239 < (l0.length : Int) then (impl_Learn.j0 k l0 ((rd_T44 l0 t239).f4) a1 a2 a3 0 false) else (none)) else (none)) else (impl_Learn.j0 k l0 false a1 a2 a3 0 false)) else (impl_Learn.j0 k l0 true a1 a2 a3 0 false))) = some r := by rw [if_pos rfl] at H; exact H
    clear H
    have H := H1
    clear H1
    replace H := Option.bind_eq_some_iff.mp H
    obtain ⟨t241, A130, H⟩ := H
    replace H : (if t241 = true then (if t239 ≥ 0 then (if 0 ≤ t239 then (if t239 < (l0.length : Int) then (impl_Learn.j0 k l0 ((rd_T44 l0 t239).f4) a1 a2 a3 0 false) else (none)) else (none)) else (impl_Learn.j0 k l0 false a1 a2 a3 0 false)) else (impl_Learn.j0 k l0 true a1 a2 a3 0 false)) = some r := H
    have A13 := am A130
    clear A130
    by_cases c14 : t241 = true
    · subst c14
      have H1 : (if t239 ≥ 0 then (if 0 ≤ t239 then (if t239 < (l0.length : Int) then (impl_Learn.j0 k l0 ((rd_T44 l0 t239).f4) a1 a2 a3 0 false) else (none)) else (none)) else (impl_Learn.j0 k l0 false a1 a2 a3 0 false)) = some r := by rw [if_pos rfl] at H; exact H
      clear H
      have H := H1
      clear H1
      by_cases c15 : t239 ≥ 0
      · rw [if_pos c15] at H
        have c15b0 : decide (0 ≤ t239) = true := decide_eq_true c15
        clear c15
        (first | rw [c15b0] | (simp only [i64_w, i32_w]; rw [c15b0]) | skip)
        by_cases c16 : 0 ≤ t239
        · rw [if_pos c16] at H
          have c16b0 : decide (0 ≤ t239) = true := decide_eq_true c16
          clear c16
          by_cases c17 : t239 < (l0.length : Int)
          · rw [if_pos c17] at H
            have c17b0 : decide (t239 < (l0.length : Int)) = true := decide_eq_true c17
            clear c17
            have H' := am H
            clear H
            go_wp2_with (first | ((with_reducible refine gate_callee (f := 30) rfl ?_); refine goesL_ (some 22) rfl rfl Try.func30 (by kernel_rfl) rfl #[.slice A0 l0.length c0] rfl ga ?_; (with_reducible refine (impl_FdbOk.calls k _ _ l0 true _ ?side1 ?side2 A11.out).mono ?_); (case side1 => exact cq (Kd.C_below HR0.out HB.out)); (case side2 => exact HC0.out); rintro e w18 ⟨rfl, hb⟩; refine ⟨_, rfl, ?_⟩; have n_ := ak2 (blk_below (g := gb238) (o := .cells #[.int .i64 a1, .int .i64 a2, .int .i64 a3, .int .i64 0, .bool false] 44 (0, 0)) (zq BK238.out) hb) (below_step (bq1 HB.out GE238.out) hb); clear BK238 HB; obtain ⟨BK238, HB⟩ := n_; (try clear hb); have hcz19_0 : w18.cell? ⟨gb238, 0, none⟩ = some (.int .i64 a1) := (blk_cell BK238.out 0).trans rfl; have hcz19_1 : w18.cell? ⟨gb238, 1, none⟩ = some (.int .i64 a2) := (blk_cell BK238.out 1).trans rfl; have hcz19_2 : w18.cell? ⟨gb238, 2, none⟩ = some (.int .i64 a3) := (blk_cell BK238.out 2).trans rfl; have hcz19_3 : w18.cell? ⟨gb238, 3, none⟩ = some (.int .i64 0) := (blk_cell BK238.out 3).trans rfl; have hcz19_4 : w18.cell? ⟨gb238, 4, none⟩ = some (.bool false) := (blk_cell BK238.out 4).trans rfl; have hfz19_0 := blk_frozen BK238.out 0; have hfz19_1 := blk_frozen BK238.out 1; have hfz19_2 := blk_frozen BK238.out 2; have hfz19_3 := blk_frozen BK238.out 3; have hfz19_4 := blk_frozen BK238.out 4) | (go_at_call 80; (with_reducible refine (impl_fentOk.calls a1 a2 a3 0 false true _ A13.out).mono ?_); rintro e w20 ⟨rfl, hb⟩; have n_ := ak2 (blk_below (g := gb238) (o := .cells #[.int .i64 a1, .int .i64 a2, .int .i64 a3, .int .i64 0, .bool false] 44 (0, 0)) (zq BK238.out) hb) (below_step (bq1 HB.out GE238.out) hb); clear BK238 HB; obtain ⟨BK238, HB⟩ := n_; (try clear hb); have p242 : 0 ≤ (t239 : Int) := oda; have q242 : t239 < (l0.length : Int) := oda; obtain ⟨ad242, e242, hx242_0, hx242_1, hx242_2, hx242_3, hx242_4⟩ := at_T44 HR0.out t239 p242 q242; cases e242; replace hx242_0 := (HB.out.cell (World.block_lt_of_cell? w _ hx242_0)).trans hx242_0; replace hx242_1 := (HB.out.cell (World.block_lt_of_cell? w _ hx242_1)).trans hx242_1; replace hx242_2 := (HB.out.cell (World.block_lt_of_cell? w _ hx242_2)).trans hx242_2; replace hx242_3 := (HB.out.cell (World.block_lt_of_cell? w _ hx242_3)).trans hx242_3; replace hx242_4 := (HB.out.cell (World.block_lt_of_cell? w _ hx242_4)).trans hx242_4; replace p242 := eq_true p242; replace q242 := eq_true q242))
            go_meet
            case rel => exact ⟨_, ((rd_T44 l0 t239).f4), sq, H', ⟨by first | omega | exact Nat.le_refl _⟩, ⟨zq BK238.out⟩, ⟨bq1 HB.out GE238.out⟩⟩
          rw [if_neg c17] at H
          exact absurd H (by simp)
        rw [if_neg c16] at H
        exact absurd H (by simp)
      rw [if_neg c15] at H
      have c15b0 : decide (0 ≤ t239) = false := decide_eq_false c15
      clear c15
      (first | rw [c15b0] | (simp only [i64_w, i32_w]; rw [c15b0]) | skip)
      have H' := am H
      clear H
      go_wp2_with (first | ((with_reducible refine gate_callee (f := 30) rfl ?_); refine goesL_ (some 22) rfl rfl Try.func30 (by kernel_rfl) rfl #[.slice A0 l0.length c0] rfl ga ?_; (with_reducible refine (impl_FdbOk.calls k _ _ l0 true _ ?side1 ?side2 A11.out).mono ?_); (case side1 => exact cq (Kd.C_below HR0.out HB.out)); (case side2 => exact HC0.out); rintro e w21 ⟨rfl, hb⟩; refine ⟨_, rfl, ?_⟩; have n_ := ak2 (blk_below (g := gb238) (o := .cells #[.int .i64 a1, .int .i64 a2, .int .i64 a3, .int .i64 0, .bool false] 44 (0, 0)) (zq BK238.out) hb) (below_step (bq1 HB.out GE238.out) hb); clear BK238 HB; obtain ⟨BK238, HB⟩ := n_; (try clear hb); have hcz22_0 : w21.cell? ⟨gb238, 0, none⟩ = some (.int .i64 a1) := (blk_cell BK238.out 0).trans rfl; have hcz22_1 : w21.cell? ⟨gb238, 1, none⟩ = some (.int .i64 a2) := (blk_cell BK238.out 1).trans rfl; have hcz22_2 : w21.cell? ⟨gb238, 2, none⟩ = some (.int .i64 a3) := (blk_cell BK238.out 2).trans rfl; have hcz22_3 : w21.cell? ⟨gb238, 3, none⟩ = some (.int .i64 0) := (blk_cell BK238.out 3).trans rfl; have hcz22_4 : w21.cell? ⟨gb238, 4, none⟩ = some (.bool false) := (blk_cell BK238.out 4).trans rfl; have hfz22_0 := blk_frozen BK238.out 0; have hfz22_1 := blk_frozen BK238.out 1; have hfz22_2 := blk_frozen BK238.out 2; have hfz22_3 := blk_frozen BK238.out 3; have hfz22_4 := blk_frozen BK238.out 4) | (go_at_call 80; (with_reducible refine (impl_fentOk.calls a1 a2 a3 0 false true _ A13.out).mono ?_); rintro e w23 ⟨rfl, hb⟩; have n_ := ak2 (blk_below (g := gb238) (o := .cells #[.int .i64 a1, .int .i64 a2, .int .i64 a3, .int .i64 0, .bool false] 44 (0, 0)) (zq BK238.out) hb) (below_step (bq1 HB.out GE238.out) hb); clear BK238 HB; obtain ⟨BK238, HB⟩ := n_; (try clear hb)))
      go_meet
      case rel => exact ⟨_, (false), sq, H', ⟨by first | omega | exact Nat.le_refl _⟩, ⟨zq BK238.out⟩, ⟨bq1 HB.out GE238.out⟩⟩
    replace c14 := Bool.eq_false_iff.mpr c14
    subst c14
    have H1 : (impl_Learn.j0 k l0 true a1 a2 a3 0 false) = some r := by rw [if_neg (show ¬ (false = true) by decide)] at H; exact H
    clear H
    have H := H1
    clear H1
    have H' := am H
    clear H
    go_wp2_with (first | ((with_reducible refine gate_callee (f := 30) rfl ?_); refine goesL_ (some 22) rfl rfl Try.func30 (by kernel_rfl) rfl #[.slice A0 l0.length c0] rfl ga ?_; (with_reducible refine (impl_FdbOk.calls k _ _ l0 true _ ?side1 ?side2 A11.out).mono ?_); (case side1 => exact cq (Kd.C_below HR0.out HB.out)); (case side2 => exact HC0.out); rintro e w24 ⟨rfl, hb⟩; refine ⟨_, rfl, ?_⟩; have n_ := ak2 (blk_below (g := gb238) (o := .cells #[.int .i64 a1, .int .i64 a2, .int .i64 a3, .int .i64 0, .bool false] 44 (0, 0)) (zq BK238.out) hb) (below_step (bq1 HB.out GE238.out) hb); clear BK238 HB; obtain ⟨BK238, HB⟩ := n_; (try clear hb); have hcz25_0 : w24.cell? ⟨gb238, 0, none⟩ = some (.int .i64 a1) := (blk_cell BK238.out 0).trans rfl; have hcz25_1 : w24.cell? ⟨gb238, 1, none⟩ = some (.int .i64 a2) := (blk_cell BK238.out 1).trans rfl; have hcz25_2 : w24.cell? ⟨gb238, 2, none⟩ = some (.int .i64 a3) := (blk_cell BK238.out 2).trans rfl; have hcz25_3 : w24.cell? ⟨gb238, 3, none⟩ = some (.int .i64 0) := (blk_cell BK238.out 3).trans rfl; have hcz25_4 : w24.cell? ⟨gb238, 4, none⟩ = some (.bool false) := (blk_cell BK238.out 4).trans rfl; have hfz25_0 := blk_frozen BK238.out 0; have hfz25_1 := blk_frozen BK238.out 1; have hfz25_2 := blk_frozen BK238.out 2; have hfz25_3 := blk_frozen BK238.out 3; have hfz25_4 := blk_frozen BK238.out 4) | (go_at_call 80; (with_reducible refine (impl_fentOk.calls a1 a2 a3 0 false false _ A13.out).mono ?_); rintro e w26 ⟨rfl, hb⟩; have n_ := ak2 (blk_below (g := gb238) (o := .cells #[.int .i64 a1, .int .i64 a2, .int .i64 a3, .int .i64 0, .bool false] 44 (0, 0)) (zq BK238.out) hb) (below_step (bq1 HB.out GE238.out) hb); clear BK238 HB; obtain ⟨BK238, HB⟩ := n_; (try clear hb)))
    go_meet
    case rel => exact ⟨_, (true), sq, H', ⟨by first | omega | exact Nat.le_refl _⟩, ⟨zq BK238.out⟩, ⟨bq1 HB.out GE238.out⟩⟩
  replace c12 := Bool.eq_false_iff.mpr c12
  subst c12
  have H1 : (impl_Learn.j0 k l0 true a1 a2 a3 0 false) = some r := by rw [if_neg (show ¬ (false = true) by decide)] at H; exact H
  clear H
  have H := H1
  clear H1
  have H' := am H
  clear H
  go_wp2_with (first | ((with_reducible refine gate_callee (f := 30) rfl ?_); refine goesL_ (some 22) rfl rfl Try.func30 (by kernel_rfl) rfl #[.slice A0 l0.length c0] rfl ga ?_; (with_reducible refine (impl_FdbOk.calls k _ _ l0 false _ ?side1 ?side2 A11.out).mono ?_); (case side1 => exact cq (Kd.C_below HR0.out HB.out)); (case side2 => exact HC0.out); rintro e w27 ⟨rfl, hb⟩; refine ⟨_, rfl, ?_⟩; have n_ := ak2 (blk_below (g := gb238) (o := .cells #[.int .i64 a1, .int .i64 a2, .int .i64 a3, .int .i64 0, .bool false] 44 (0, 0)) (zq BK238.out) hb) (below_step (bq1 HB.out GE238.out) hb); clear BK238 HB; obtain ⟨BK238, HB⟩ := n_; (try clear hb)))
  go_meet
  case rel => exact ⟨_, (true), sq, H', ⟨by first | omega | exact Nat.le_refl _⟩, ⟨zq BK238.out⟩, ⟨bq1 HB.out GE238.out⟩⟩
 case rest =>
  clear HC6
  try clear c1
  try clear c2
  try clear p2
  try clear q2
  try clear hx2
  try clear c3
  try clear c8
  try clear c12
  try clear c14
  try clear c15
  try clear c15b0
  try clear c16
  try clear c16b0
  try clear c17
  try clear c17b0
  try clear p24
  try clear q24
  try clear hx24
  try clear hcz19_0
  try clear hcz19_1
  try clear hcz19_2
  try clear hcz19_3
  try clear hcz19_4
  try clear hcz22_0
  try clear hcz22_1
  try clear hcz22_2
  try clear hcz22_3
  try clear hcz22_4
  try clear hcz25_0
  try clear hcz25_1
  try clear hcz25_2
  try clear hcz25_3
  try clear hcz25_4
  try clear hcz8_0
  try clear hcz8_1
  try clear hcz8_2
  try clear hcz8_3
  try clear hcz8_4
  try clear hfz19_0
  try clear hfz19_1
  try clear hfz19_2
  try clear hfz19_3
  try clear hfz19_4
  try clear hfz22_0
  try clear hfz22_1
  try clear hfz22_2
  try clear hfz22_3
  try clear hfz22_4
  try clear hfz25_0
  try clear hfz25_1
  try clear hfz25_2
  try clear hfz25_3
  try clear hfz25_4
  try clear hfz8_0
  try clear hfz8_1
  try clear hfz8_2
  try clear hfz8_3
  try clear hfz8_4
  try clear hx242_0
  try clear hx242_1
  try clear hx242_2
  try clear hx242_3
  try clear hx242_4
  try clear p242
  try clear q242
  obtain ⟨kq, x39_5, rfl, HA, HJ5, BK238, HB⟩ := hcut
  cases kq with
  | zero => exact absurd HA.out (by simp [impl_Learn.j0])
  | succ kj5 =>
   have H := HA.out
   clear HA
   simp only [impl_Learn.j0] at H
   by_cases c28 : x39_5 = true
   · subst c28
     have H1 : ((impl_copyFdb.f l0).bind fun t243 => (some t243)) = some r := by rw [if_pos rfl] at H; exact H
     clear H
     have H := H1
     clear H1
     replace H := Option.bind_eq_some_iff.mp H
     obtain ⟨t243, A290, H⟩ := H
     replace H : (some t243) = some r := H
     have A29 := am A290
     clear A290
     obtain rfl := Option.some.inj H
     go_wp2_with (first | ((with_reducible refine gate_callee (f := 81) rfl ?_); refine goesL_ (some 41) rfl rfl Try.func81 (by kernel_rfl) rfl #[.slice A0 l0.length c0] rfl ga ?_; (with_reducible refine (impl_copyFdb.calls _ _ l0 t243 _ ?side1 ?side2 A29.out).mono ?_); (case side1 => exact cq (Kd.C_below HR0.out HB.out)); (case side2 => exact HC0.out); rintro e w30 ⟨v244, rfl, ho0, hb⟩; refine ⟨_, rfl, ?_⟩; have n_ := ak3 (Kd.R_lower (Kd.R_newB ho0 (g := gb238) (o := .cells #[.int .i64 a1, .int .i64 a2, .int .i64 a3, .int .i64 0, .bool false] 44 (0, 0)) (zq BK238.out)) (below_size (bq1 HB.out GE238.out))) (blk_below (g := gb238) (o := .cells #[.int .i64 a1, .int .i64 a2, .int .i64 a3, .int .i64 0, .bool false] 44 (0, 0)) (zq BK238.out) hb) (below_step (bq1 HB.out GE238.out) hb); clear BK238 HB; obtain ⟨HO245, BK238, HB⟩ := n_; (try clear hb ho0)))
     go_ret
     exact ⟨_, rq, by (with_reducible repeat (first | apply Kd.R_alloc | apply Kd.R_drewN | apply Kd.R_drew)); exact Kd.R_mono HO245.out (fun _ hk => trivial), bq1 HB.out GE238.out⟩
   replace c28 := Bool.eq_false_iff.mpr c28
   subst c28
   have H1 : ((impl_put.f kj5 l0 a1 a2 a3 0 false).bind fun bt246 => (some bt246.1)) = some r := by rw [if_neg (show ¬ (false = true) by decide)] at H; exact H
   clear H
   have H := H1
   clear H1
   replace H := Option.bind_eq_some_iff.mp H
   obtain ⟨⟨t246, t249⟩, A310, H⟩ := H
   replace H : (some t246) = some r := H
   have A31 := am A310
   clear A310
   obtain rfl := Option.some.inj H
   have hcz32_0 : wc.cell? ⟨gb238, 0, none⟩ = some (.int .i64 a1) := (blk_cell BK238.out 0).trans rfl
   have hcz32_1 : wc.cell? ⟨gb238, 1, none⟩ = some (.int .i64 a2) := (blk_cell BK238.out 1).trans rfl
   have hcz32_2 : wc.cell? ⟨gb238, 2, none⟩ = some (.int .i64 a3) := (blk_cell BK238.out 2).trans rfl
   have hcz32_3 : wc.cell? ⟨gb238, 3, none⟩ = some (.int .i64 0) := (blk_cell BK238.out 3).trans rfl
   have hcz32_4 : wc.cell? ⟨gb238, 4, none⟩ = some (.bool false) := (blk_cell BK238.out 4).trans rfl
   have hfz32_0 := blk_frozen BK238.out 0
   have hfz32_1 := blk_frozen BK238.out 1
   have hfz32_2 := blk_frozen BK238.out 2
   have hfz32_3 := blk_frozen BK238.out 3
   have hfz32_4 := blk_frozen BK238.out 4
   go_wp2_with (first | ((with_reducible refine gate_callee (f := 82) rfl ?_); refine goesL_ (some 45) rfl rfl Try.func82 (by kernel_rfl) rfl #[.slice A0 l0.length c0, .agg #[.int .i64 a1, .int .i64 a2, .int .i64 a3, .int .i64 0, .bool false]] rfl ga ?_; (with_reducible refine (impl_put.calls kj5 _ _ l0 a1 a2 a3 0 false t246 t249 _ ?side1 ?side2 A31.out).mono ?_); (case side1 => exact cq (Kd.C_below HR0.out HB.out)); (case side2 => exact HC0.out); rintro e w33 ⟨v247, rfl, ho0, hb⟩; refine ⟨_, rfl, ?_⟩; have n_ := ak3 (Kd.R_lower (Kd.R_newB ho0 (g := gb238) (o := .cells #[.int .i64 a1, .int .i64 a2, .int .i64 a3, .int .i64 0, .bool false] 44 (0, 0)) (zq BK238.out)) (below_size (bq1 HB.out GE238.out))) (blk_below (g := gb238) (o := .cells #[.int .i64 a1, .int .i64 a2, .int .i64 a3, .int .i64 0, .bool false] 44 (0, 0)) (zq BK238.out) hb) (below_step (bq1 HB.out GE238.out) hb); clear BK238 HB; obtain ⟨HO248, BK238, HB⟩ := n_; (try clear hb ho0)))
   go_ret
   exact ⟨_, rq, by (with_reducible repeat (first | apply Kd.R_alloc | apply Kd.R_drewN | apply Kd.R_drew)); exact Kd.R_mono HO248.out (fun _ hk => trivial), bq1 HB.out GE238.out⟩

/-! ### laws_sameFdb: function 31 -/
def laws_sameFdb.l0 : Nat → List (S44) → List (S44) → Int → Option (Bool)
 | 0, _, _, _ => none
 | k + 1, x0, x1, x5 => if x5 < (x0.length : Int) then (if 0 ≤ x5 then (if x5 < (x1.length : Int) then (if (!(((rd_T44 x0 x5).f0) == ((rd_T44 x1 x5).f0)) || (!(((rd_T44 x0 x5).f1) == ((rd_T44 x1 x5).f1)) || (!(((rd_T44 x0 x5).f2) == ((rd_T44 x1 x5).f2)) || (!(((rd_T44 x0 x5).f3) == ((rd_T44 x1 x5).f3)) || (!(((rd_T44 x0 x5).f4) == ((rd_T44 x1 x5).f4))))))) = true then (some false) else (laws_sameFdb.l0 k x0 x1 (wrap64 (x5 + 1)))) else (none)) else (none)) else (some true)
def laws_sameFdb.f (k : Nat) (l0 : List (S44)) (l1 : List (S44)) : Option (Bool) := if (l0.length : Int) = (l1.length : Int) then (laws_sameFdb.l0 k l0 l1 0) else (some false)
theorem laws_sameFdb.mono_l : ∀ k, (∀ y0 y1 y2, LeO (laws_sameFdb.l0 k y0 y1 y2) (laws_sameFdb.l0 (k + 1) y0 y1 y2))
 | 0 => fun _ _ _ r h => by simp [laws_sameFdb.l0] at h
 | k + 1 => by
  have ih0 := laws_sameFdb.mono_l k
  intro y0 y1 y2
  unfold laws_sameFdb.l0
  repeat' first
  | (with_reducible exact ih0 _ _ _)
  | (with_reducible exact LeO.refl _)
  | (with_reducible exact LeO.none _)
  | (with_reducible refine LeO.ite ?_ ?_)
  | (with_reducible refine LeO.bind ?_ (fun _ => ?_))
  | exact ih0 _ _ _
  | exact LeO.none _
  | refine LeO.ite ?_ ?_
  | refine LeO.bind ?_ (fun _ => ?_)
theorem laws_sameFdb.mono : ∀ a0 a1 k, LeO (laws_sameFdb.f k a0 a1) (laws_sameFdb.f (k + 1) a0 a1) := by
 intro a0 a1 k
 have ih0 := laws_sameFdb.mono_l k
 unfold laws_sameFdb.f
 repeat' first
  | (with_reducible exact ih0 _ _ _)
  | (with_reducible exact LeO.refl _)
  | (with_reducible exact LeO.none _)
  | (with_reducible refine LeO.ite ?_ ?_)
  | (with_reducible refine LeO.bind ?_ (fun _ => ?_))
  | exact ih0 _ _ _
  | exact LeO.none _
  | refine LeO.ite ?_ ?_
  | refine LeO.bind ?_ (fun _ => ?_)
set_option maxHeartbeats 8000000 in
set_option maxRecDepth 100000 in
theorem laws_sameFdb.calls (k : Nat) (A0 : Option Addr) (c0 : Nat) (l0 : List (S44)) (A1 : Option Addr) (c1 : Nat) (l1 : List (S44)) (r : Bool) (w : World) (hr0 : Kd.C k44 w A0 l0.length l0) (hc0 : l0.length ≤ c0) (hr1 : Kd.C k44 w A1 l1.length l1) (hc1 : l1.length ≤ c1) (h : laws_sameFdb.f k l0 l1 = some r) :
 Calls Try.prog 31 #[.slice A0 l0.length c0, .slice A1 l1.length c1] w fun e w' => e = .returned (.bool r) ∧ Drawn0 w w' := by
 have hu44 := Try.underlying44
 have HR0 := am hr0
 have HC0 := am hc0
 clear hr0 hc0
 have HR1 := am hr1
 have HC1 := am hc1
 clear hr1 hc1
 have H : (if (l0.length : Int) = (l1.length : Int) then (laws_sameFdb.l0 k l0 l1 0) else (some false)) = some r := h
 clear h
 by_cases c3 : (l0.length : Int) = (l1.length : Int)
 · rw [if_pos c3] at H
   have c3b0 : ((l0.length : Int) == (l1.length : Int)) = true := beq_iff_eq.mpr c3
   have c3b1 : ((l0.length : Int) != (l1.length : Int)) = false := bne_eq_false_iff_eq.mpr c3
   have c3b2 : (l0.length == l1.length) = true := by first | simpa using c3 | (simp at c3 ⊢; omega)
   clear c3
   have H' := am H
   clear H
   go_enter Try.func31, Try.ntmps31
   go_wp2
   repeat (go_quiet (fail); try go_wp2)
   go_loopg [5] k (fun kq v5 w' => ∃ (x5_1 : Int), v5 = .int .i64 x5_1 ∧ Aside0 (laws_sameFdb.l0 kq l0 l1 x5_1 = some r) ∧ Aside0 (kq ≤ k) ∧ Drawn0 w w')
   case atStart => exact ⟨(0), sq, H', ⟨Nat.le_refl _⟩, by repeat (first | exact Drawn0.refl _ | apply Drawn0.step)⟩
   case round =>
    clear H'
    try clear c1
    try clear p2
    try clear c3
    try clear c3b0
    try clear c3b1
    try clear c3b2
    obtain ⟨x5_1, rfl, HA, HK1, ⟨m1, rfl⟩⟩ := hrel
    cases gk with
    | zero => exact absurd HA.out (by simp [laws_sameFdb.l0])
    | succ k1 =>
     have H := HA.out
     clear HA
     simp only [laws_sameFdb.l0] at H
     by_cases c4 : x5_1 < (l0.length : Int)
     · rw [if_pos c4] at H
       have c4b0 : decide (x5_1 < (l0.length : Int)) = true := decide_eq_true c4
       clear c4
       by_cases c5 : 0 ≤ x5_1
       · rw [if_pos c5] at H
         have c5b0 : decide (0 ≤ x5_1) = true := decide_eq_true c5
         clear c5
         by_cases c6 : x5_1 < (l1.length : Int)
         · rw [if_pos c6] at H
           have c6b0 : decide (x5_1 < (l1.length : Int)) = true := decide_eq_true c6
           clear c6
           by_cases c7 : (!(((rd_T44 l0 x5_1).f0) == ((rd_T44 l1 x5_1).f0)) || (!(((rd_T44 l0 x5_1).f1) == ((rd_T44 l1 x5_1).f1)) || (!(((rd_T44 l0 x5_1).f2) == ((rd_T44 l1 x5_1).f2)) || (!(((rd_T44 l0 x5_1).f3) == ((rd_T44 l1 x5_1).f3)) || (!(((rd_T44 l0 x5_1).f4) == ((rd_T44 l1 x5_1).f4))))))) = true
           · rw [if_pos c7] at H
             have c7b0 : (!(((rd_T44 l0 x5_1).f0) == ((rd_T44 l1 x5_1).f0)) || (!(((rd_T44 l0 x5_1).f1) == ((rd_T44 l1 x5_1).f1)) || (!(((rd_T44 l0 x5_1).f2) == ((rd_T44 l1 x5_1).f2)) || (!(((rd_T44 l0 x5_1).f3) == ((rd_T44 l1 x5_1).f3)) || (!(((rd_T44 l0 x5_1).f4) == ((rd_T44 l1 x5_1).f4))))))) = true := c7
             clear c7
             obtain rfl := Option.some.inj H
             have p250 : 0 ≤ (x5_1 : Int) := oda
             have q250 : x5_1 < (l0.length : Int) := oda
             obtain ⟨ad250, e250, hx250_0, hx250_1, hx250_2, hx250_3, hx250_4⟩ := at_T44 HR0.out x5_1 p250 q250
             cases e250
             replace p250 := eq_true p250
             replace q250 := eq_true q250
             have p251 : 0 ≤ (x5_1 : Int) := oda
             have q251 : x5_1 < (l1.length : Int) := oda
             obtain ⟨ad251, e251, hx251_0, hx251_1, hx251_2, hx251_3, hx251_4⟩ := at_T44 HR1.out x5_1 p251 q251
             cases e251
             replace p251 := eq_true p251
             replace q251 := eq_true q251
             go_wp2
             repeat (go_quiet (fail); try go_wp2)
             go_ret
             exact ⟨by first | rfl | (simp; done) | (simp [*]; done), by repeat (first | exact Drawn0.refl _ | apply Drawn0.step)⟩
           rw [if_neg c7] at H
           have c7b0 : (!(((rd_T44 l0 x5_1).f0) == ((rd_T44 l1 x5_1).f0)) || (!(((rd_T44 l0 x5_1).f1) == ((rd_T44 l1 x5_1).f1)) || (!(((rd_T44 l0 x5_1).f2) == ((rd_T44 l1 x5_1).f2)) || (!(((rd_T44 l0 x5_1).f3) == ((rd_T44 l1 x5_1).f3)) || (!(((rd_T44 l0 x5_1).f4) == ((rd_T44 l1 x5_1).f4))))))) = false := by simpa using c7
           clear c7
           have H' := am H
           clear H
           have p250 : 0 ≤ (x5_1 : Int) := oda
           have q250 : x5_1 < (l0.length : Int) := oda
           obtain ⟨ad250, e250, hx250_0, hx250_1, hx250_2, hx250_3, hx250_4⟩ := at_T44 HR0.out x5_1 p250 q250
           cases e250
           replace p250 := eq_true p250
           replace q250 := eq_true q250
           have p251 : 0 ≤ (x5_1 : Int) := oda
           have q251 : x5_1 < (l1.length : Int) := oda
           obtain ⟨ad251, e251, hx251_0, hx251_1, hx251_2, hx251_3, hx251_4⟩ := at_T44 HR1.out x5_1 p251 q251
           cases e251
           replace p251 := eq_true p251
           replace q251 := eq_true q251
           go_wp2
           repeat (go_quiet (fail); try go_wp2)
           go_roundg k1
           case measure => have := HK1.out; omega
           case rel => exact ⟨(wrap64 (x5_1 + 1)), sq, H', ⟨by have := HK1.out; omega⟩, by repeat (first | exact Drawn0.refl _ | apply Drawn0.step)⟩
         rw [if_neg c6] at H
         exact absurd H (by simp)
       rw [if_neg c5] at H
       exact absurd H (by simp)
     rw [if_neg c4] at H
     have c4b0 : decide (x5_1 < (l0.length : Int)) = false := decide_eq_false c4
     clear c4
     obtain rfl := Option.some.inj H
     go_wp2
     repeat (go_quiet (fail); try go_wp2)
     go_ret
     exact ⟨by first | rfl | (simp; done) | (simp [*]; done), by repeat (first | exact Drawn0.refl _ | apply Drawn0.step)⟩
 rw [if_neg c3] at H
 have c3b0 : ((l0.length : Int) == (l1.length : Int)) = false := beq_eq_false_iff_ne.mpr c3
 have c3b1 : ((l0.length : Int) != (l1.length : Int)) = true := bne_iff_ne.mpr c3
 have c3b2 : (l0.length == l1.length) = false := by first | simpa using c3 | (simp at c3 ⊢; omega)
 obtain rfl := Option.some.inj H
 go_enter Try.func31, Try.ntmps31
 go_wp2
 repeat (go_quiet (fail); try go_wp2)
 go_ret
 exact ⟨by first | rfl | (simp; done) | (simp [*]; done), by repeat (first | exact Drawn0.refl _ | apply Drawn0.step)⟩

end Go.Proofs.Ytebffdmkfkfoaaa.XFnFdbsBent
