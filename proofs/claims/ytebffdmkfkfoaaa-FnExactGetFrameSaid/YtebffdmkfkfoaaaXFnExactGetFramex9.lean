/- The functions that one law reaches, as Lean functions, with their walks: printed by a program of this seat (wip/tools) out of the translation. -/
import Derived.Test.YtebffdmkfkfoaaaXFnExactGetFramex0
import Derived.Test.YtebffdmkfkfoaaaXFnExactGetFramex7
import Derived.Test.YtebffdmkfkfoaaaXFnExactGetFramex8
namespace Go.Proofs.Ytebffdmkfkfoaaa.XFnExactGetFrame
open Go.RowKit Go.Proofs.YtebffdmkfkfoaaaW.PrintWords Go.Proofs.YtebffdmkfkfoaaaW.PrintLast Go.Proofs.YtebffdmkfkfoaaaW.PrintMore
attribute [local go_sem] max2_int min2_int max_two min_two max_three min_three max_four min_four   -- for this text's walks alone
set_option linter.unusedVariables false
set_option linter.unusedSimpArgs false

/-! ### impl_FrameOk: function 128 -/
def impl_FrameOk.f (a0_0 : Int) (a0_1 : Int) (a0_2 : Int) (l0_3 : List Int) : Option (Bool) := (impl_in.f a0_0 0 9999).bind fun t293 => (if t293 = true then ((impl_in.f a0_1 1 9999).bind fun t294 => (if t294 = true then ((impl_in.f a0_2 0 99).bind fun t295 => (if t295 = true then (some (decide ((l0_3.length : Int) ≤ 20))) else (some false))) else (some false))) else (some false))
set_option maxHeartbeats 8000000 in
set_option maxRecDepth 100000 in
theorem impl_FrameOk.calls (a0_0 : Int) (a0_1 : Int) (a0_2 : Int) (A0_3 : Option Addr) (c0_3 : Nat) (l0_3 : List Int) (r : Bool) (w : World) (hr0_3 : Kd.C (Kd.int .u8) w A0_3 l0_3.length l0_3) (hc0_3 : l0_3.length ≤ c0_3) (h : impl_FrameOk.f a0_0 a0_1 a0_2 l0_3 = some r) :
 Calls Try.prog 128 #[.agg #[.int .i64 a0_0, .int .i64 a0_1, .int .i64 a0_2, .slice A0_3 l0_3.length c0_3]] w fun e w' => e = .returned (.bool r) ∧ Below w.heap.size w w' := by
 have hu57 := Try.underlying57
 have HR0_3 := am hr0_3
 have HC0_3 := am hc0_3
 clear hr0_3 hc0_3
 have HB := am (Below.refl w.heap.size w)
 have H : ((impl_in.f a0_0 0 9999).bind fun t293 => (if t293 = true then ((impl_in.f a0_1 1 9999).bind fun t294 => (if t294 = true then ((impl_in.f a0_2 0 99).bind fun t295 => (if t295 = true then (some (decide ((l0_3.length : Int) ≤ 20))) else (some false))) else (some false))) else (some false))) = some r := h
 clear h
 replace H := Option.bind_eq_some_iff.mp H
 obtain ⟨t293, A20, H⟩ := H
 replace H : (if t293 = true then ((impl_in.f a0_1 1 9999).bind fun t294 => (if t294 = true then ((impl_in.f a0_2 0 99).bind fun t295 => (if t295 = true then (some (decide ((l0_3.length : Int) ≤ 20))) else (some false))) else (some false))) else (some false)) = some r := H
 have A2 := am A20
 clear A20
 by_cases c3 : t293 = true
 · subst c3
   have H1 : ((impl_in.f a0_1 1 9999).bind fun t294 => (if t294 = true then ((impl_in.f a0_2 0 99).bind fun t295 => (if t295 = true then (some (decide ((l0_3.length : Int) ≤ 20))) else (some false))) else (some false))) = some r := by rw [if_pos rfl] at H; exact H
   clear H
   have H := H1
   clear H1
   replace H := Option.bind_eq_some_iff.mp H
   obtain ⟨t294, A40, H⟩ := H
   replace H : (if t294 = true then ((impl_in.f a0_2 0 99).bind fun t295 => (if t295 = true then (some (decide ((l0_3.length : Int) ≤ 20))) else (some false))) else (some false)) = some r := H
   have A4 := am A40
   clear A40
   by_cases c5 : t294 = true
   · subst c5
     have H1 : ((impl_in.f a0_2 0 99).bind fun t295 => (if t295 = true then (some (decide ((l0_3.length : Int) ≤ 20))) else (some false))) = some r := by rw [if_pos rfl] at H; exact H
     clear H
     have H := H1
     clear H1
     replace H := Option.bind_eq_some_iff.mp H
     obtain ⟨t295, A60, H⟩ := H
     replace H : (if t295 = true then (some (decide ((l0_3.length : Int) ≤ 20))) else (some false)) = some r := H
     have A6 := am A60
     clear A60
     by_cases c7 : t295 = true
     · subst c7
       have H1 : (some (decide ((l0_3.length : Int) ≤ 20))) = some r := by rw [if_pos rfl] at H; exact H
       clear H
       have H := H1
       clear H1
       obtain rfl := Option.some.inj H
       go_enter Try.func128, Try.ntmps128
       go_wp2_with (first | ((with_reducible refine gate_dst (N := 1) rfl ?_); (try (refine gate_guard (by rfl) ?_; dsimp only)); refine box_event ?hg (N := 1) ?hd (cs := #[.int .i64 a0_0, .int .i64 a0_1, .int .i64 a0_2, .slice A0_3 l0_3.length c0_3]) (t := 57) ?hr ?_; (case hd => rfl); (case hg => rfl); (case hr => exact gs); intro gb292 hg w8 hbox hb; have n_ := ak4 (below_step (bq HB.out) hb) hbox ((by rw [hg]; exact (below_size (bq HB.out)) : w.heap.size ≤ gb292)) ((by rw [hg]; exact (below_size (bq HB.out)) : w.heap.size ≤ gb292)); clear HB; obtain ⟨HB, BK292, GW292, GE292⟩ := n_; clear hb hbox hg; have hcz9_0 : w8.cell? ⟨gb292, 0, none⟩ = some (.int .i64 a0_0) := (blk_cell BK292.out 0).trans rfl; have hcz9_1 : w8.cell? ⟨gb292, 1, none⟩ = some (.int .i64 a0_1) := (blk_cell BK292.out 1).trans rfl; have hcz9_2 : w8.cell? ⟨gb292, 2, none⟩ = some (.int .i64 a0_2) := (blk_cell BK292.out 2).trans rfl; have hcz9_3 : w8.cell? ⟨gb292, 3, none⟩ = some (.slice A0_3 l0_3.length c0_3) := (blk_cell BK292.out 3).trans rfl; have hfz9_0 := blk_frozen BK292.out 0; have hfz9_1 := blk_frozen BK292.out 1; have hfz9_2 := blk_frozen BK292.out 2; have hfz9_3 := blk_frozen BK292.out 3) | ((with_reducible refine gate_callee (f := 105) rfl ?_); refine goesL_ (some 5) rfl rfl Try.func105 (by kernel_rfl) rfl #[.int .i64 a0_0, .int .i64 0, .int .i64 9999] rfl ga ?_; (with_reducible refine (impl_in.calls a0_0 0 9999 true _ A2.out).mono ?_); rintro e w' ⟨rfl, ⟨nd, rfl⟩⟩; refine ⟨_, rfl, ?_⟩) | (go_at_call 105; (with_reducible refine (impl_in.calls a0_1 1 9999 true _ A4.out).mono ?_); rintro e w' ⟨rfl, ⟨nd, rfl⟩⟩) | (go_at_call 105; (with_reducible refine (impl_in.calls a0_2 0 99 true _ A6.out).mono ?_); rintro e w' ⟨rfl, ⟨nd, rfl⟩⟩))
       go_ret
       exact ⟨rq, bq1 HB.out GE292.out⟩
     replace c7 := Bool.eq_false_iff.mpr c7
     subst c7
     have H1 : (some false) = some r := by rw [if_neg (show ¬ (false = true) by decide)] at H; exact H
     clear H
     have H := H1
     clear H1
     obtain rfl := Option.some.inj H
     go_enter Try.func128, Try.ntmps128
     go_wp2_with (first | ((with_reducible refine gate_dst (N := 1) rfl ?_); (try (refine gate_guard (by rfl) ?_; dsimp only)); refine box_event ?hg (N := 1) ?hd (cs := #[.int .i64 a0_0, .int .i64 a0_1, .int .i64 a0_2, .slice A0_3 l0_3.length c0_3]) (t := 57) ?hr ?_; (case hd => rfl); (case hg => rfl); (case hr => exact gs); intro gb292 hg w10 hbox hb; have n_ := ak4 (below_step (bq HB.out) hb) hbox ((by rw [hg]; exact (below_size (bq HB.out)) : w.heap.size ≤ gb292)) ((by rw [hg]; exact (below_size (bq HB.out)) : w.heap.size ≤ gb292)); clear HB; obtain ⟨HB, BK292, GW292, GE292⟩ := n_; clear hb hbox hg; have hcz11_0 : w10.cell? ⟨gb292, 0, none⟩ = some (.int .i64 a0_0) := (blk_cell BK292.out 0).trans rfl; have hcz11_1 : w10.cell? ⟨gb292, 1, none⟩ = some (.int .i64 a0_1) := (blk_cell BK292.out 1).trans rfl; have hcz11_2 : w10.cell? ⟨gb292, 2, none⟩ = some (.int .i64 a0_2) := (blk_cell BK292.out 2).trans rfl; have hcz11_3 : w10.cell? ⟨gb292, 3, none⟩ = some (.slice A0_3 l0_3.length c0_3) := (blk_cell BK292.out 3).trans rfl; have hfz11_0 := blk_frozen BK292.out 0; have hfz11_1 := blk_frozen BK292.out 1; have hfz11_2 := blk_frozen BK292.out 2; have hfz11_3 := blk_frozen BK292.out 3) | ((with_reducible refine gate_callee (f := 105) rfl ?_); refine goesL_ (some 5) rfl rfl Try.func105 (by kernel_rfl) rfl #[.int .i64 a0_0, .int .i64 0, .int .i64 9999] rfl ga ?_; (with_reducible refine (impl_in.calls a0_0 0 9999 true _ A2.out).mono ?_); rintro e w' ⟨rfl, ⟨nd, rfl⟩⟩; refine ⟨_, rfl, ?_⟩) | (go_at_call 105; (with_reducible refine (impl_in.calls a0_1 1 9999 true _ A4.out).mono ?_); rintro e w' ⟨rfl, ⟨nd, rfl⟩⟩) | (go_at_call 105; (with_reducible refine (impl_in.calls a0_2 0 99 false _ A6.out).mono ?_); rintro e w' ⟨rfl, ⟨nd, rfl⟩⟩))
     go_ret
     exact ⟨rq, bq1 HB.out GE292.out⟩
   replace c5 := Bool.eq_false_iff.mpr c5
   subst c5
   have H1 : (some false) = some r := by rw [if_neg (show ¬ (false = true) by decide)] at H; exact H
   clear H
   have H := H1
   clear H1
   obtain rfl := Option.some.inj H
   go_enter Try.func128, Try.ntmps128
   go_wp2_with (first | ((with_reducible refine gate_dst (N := 1) rfl ?_); (try (refine gate_guard (by rfl) ?_; dsimp only)); refine box_event ?hg (N := 1) ?hd (cs := #[.int .i64 a0_0, .int .i64 a0_1, .int .i64 a0_2, .slice A0_3 l0_3.length c0_3]) (t := 57) ?hr ?_; (case hd => rfl); (case hg => rfl); (case hr => exact gs); intro gb292 hg w12 hbox hb; have n_ := ak4 (below_step (bq HB.out) hb) hbox ((by rw [hg]; exact (below_size (bq HB.out)) : w.heap.size ≤ gb292)) ((by rw [hg]; exact (below_size (bq HB.out)) : w.heap.size ≤ gb292)); clear HB; obtain ⟨HB, BK292, GW292, GE292⟩ := n_; clear hb hbox hg; have hcz13_0 : w12.cell? ⟨gb292, 0, none⟩ = some (.int .i64 a0_0) := (blk_cell BK292.out 0).trans rfl; have hcz13_1 : w12.cell? ⟨gb292, 1, none⟩ = some (.int .i64 a0_1) := (blk_cell BK292.out 1).trans rfl; have hcz13_2 : w12.cell? ⟨gb292, 2, none⟩ = some (.int .i64 a0_2) := (blk_cell BK292.out 2).trans rfl; have hcz13_3 : w12.cell? ⟨gb292, 3, none⟩ = some (.slice A0_3 l0_3.length c0_3) := (blk_cell BK292.out 3).trans rfl; have hfz13_0 := blk_frozen BK292.out 0; have hfz13_1 := blk_frozen BK292.out 1; have hfz13_2 := blk_frozen BK292.out 2; have hfz13_3 := blk_frozen BK292.out 3) | ((with_reducible refine gate_callee (f := 105) rfl ?_); refine goesL_ (some 5) rfl rfl Try.func105 (by kernel_rfl) rfl #[.int .i64 a0_0, .int .i64 0, .int .i64 9999] rfl ga ?_; (with_reducible refine (impl_in.calls a0_0 0 9999 true _ A2.out).mono ?_); rintro e w' ⟨rfl, ⟨nd, rfl⟩⟩; refine ⟨_, rfl, ?_⟩) | (go_at_call 105; (with_reducible refine (impl_in.calls a0_1 1 9999 false _ A4.out).mono ?_); rintro e w' ⟨rfl, ⟨nd, rfl⟩⟩))
   go_ret
   exact ⟨rq, bq1 HB.out GE292.out⟩
 replace c3 := Bool.eq_false_iff.mpr c3
 subst c3
 have H1 : (some false) = some r := by rw [if_neg (show ¬ (false = true) by decide)] at H; exact H
 clear H
 have H := H1
 clear H1
 obtain rfl := Option.some.inj H
 go_enter Try.func128, Try.ntmps128
 go_wp2_with (first | ((with_reducible refine gate_dst (N := 1) rfl ?_); (try (refine gate_guard (by rfl) ?_; dsimp only)); refine box_event ?hg (N := 1) ?hd (cs := #[.int .i64 a0_0, .int .i64 a0_1, .int .i64 a0_2, .slice A0_3 l0_3.length c0_3]) (t := 57) ?hr ?_; (case hd => rfl); (case hg => rfl); (case hr => exact gs); intro gb292 hg w14 hbox hb; have n_ := ak4 (below_step (bq HB.out) hb) hbox ((by rw [hg]; exact (below_size (bq HB.out)) : w.heap.size ≤ gb292)) ((by rw [hg]; exact (below_size (bq HB.out)) : w.heap.size ≤ gb292)); clear HB; obtain ⟨HB, BK292, GW292, GE292⟩ := n_; clear hb hbox hg; have hcz15_0 : w14.cell? ⟨gb292, 0, none⟩ = some (.int .i64 a0_0) := (blk_cell BK292.out 0).trans rfl; have hcz15_1 : w14.cell? ⟨gb292, 1, none⟩ = some (.int .i64 a0_1) := (blk_cell BK292.out 1).trans rfl; have hcz15_2 : w14.cell? ⟨gb292, 2, none⟩ = some (.int .i64 a0_2) := (blk_cell BK292.out 2).trans rfl; have hcz15_3 : w14.cell? ⟨gb292, 3, none⟩ = some (.slice A0_3 l0_3.length c0_3) := (blk_cell BK292.out 3).trans rfl; have hfz15_0 := blk_frozen BK292.out 0; have hfz15_1 := blk_frozen BK292.out 1; have hfz15_2 := blk_frozen BK292.out 2; have hfz15_3 := blk_frozen BK292.out 3) | ((with_reducible refine gate_callee (f := 105) rfl ?_); refine goesL_ (some 5) rfl rfl Try.func105 (by kernel_rfl) rfl #[.int .i64 a0_0, .int .i64 0, .int .i64 9999] rfl ga ?_; (with_reducible refine (impl_in.calls a0_0 0 9999 false _ A2.out).mono ?_); rintro e w' ⟨rfl, ⟨nd, rfl⟩⟩; refine ⟨_, rfl, ?_⟩))
 go_ret
 exact ⟨rq, bq1 HB.out GE292.out⟩

/-! ### impl_PutFrame: function 98 -/
def impl_PutFrame.f (k : Nat) (a0_0 : Int) (a0_1 : Int) (a0_2 : Int) (l0_3 : List Int) : Option (List Int) := (impl_FrameOk.f a0_0 a0_1 a0_2 l0_3).bind fun t297 => (if t297 = true then ((impl_addNum.f k ([] : List Int) 1 a0_0).bind fun t298 => ((impl_addNum.f k t298 1 a0_1).bind fun t301 => (if a0_2 = 0 then ((impl_PutTlv.f k t301 3 l0_3).bind fun t304 => (some t304)) else ((impl_addNum.f k t301 2 a0_2).bind fun t307 => ((impl_PutTlv.f k t307 3 l0_3).bind fun t310 => (some t310)))))) else (some ([] : List Int)))
theorem impl_PutFrame.mono : ∀ a0 a1 a2 a3 k, LeO (impl_PutFrame.f k a0 a1 a2 a3) (impl_PutFrame.f (k + 1) a0 a1 a2 a3) := by
 intro a0 a1 a2 a3 k
 unfold impl_PutFrame.f
 repeat' first
  | (with_reducible exact impl_PutTlv.mono _ _ _ _)
  | (with_reducible exact impl_addNum.mono _ _ _ _)
  | (with_reducible exact LeO.refl _)
  | (with_reducible exact LeO.none _)
  | (with_reducible refine LeO.ite ?_ ?_)
  | (with_reducible refine LeO.bind ?_ (fun _ => ?_))
  | exact impl_PutTlv.mono _ _ _ _
  | exact impl_addNum.mono _ _ _ _
  | exact LeO.none _
  | refine LeO.ite ?_ ?_
  | refine LeO.bind ?_ (fun _ => ?_)
set_option maxHeartbeats 8000000 in
set_option maxRecDepth 100000 in
theorem impl_PutFrame.calls (k : Nat) (a0_0 : Int) (a0_1 : Int) (a0_2 : Int) (A0_3 : Option Addr) (c0_3 : Nat) (l0_3 : List Int) (r : List Int) (w : World) (hr0_3 : Kd.C (Kd.int .u8) w A0_3 l0_3.length l0_3) (hc0_3 : l0_3.length ≤ c0_3) (h : impl_PutFrame.f k a0_0 a0_1 a0_2 l0_3 = some r) :
 Calls Try.prog 98 #[.agg #[.int .i64 a0_0, .int .i64 a0_1, .int .i64 a0_2, .slice A0_3 l0_3.length c0_3]] w fun e w' => ∃ v0_ : Value, e = .returned (v0_) ∧ Kd.R (Kd.int .u8) 5 w' w.heap.size (fun _ => True) v0_ r ∧ Below w.heap.size w w' := by
 have hu57 := Try.underlying57
 have HR0_3 := am hr0_3
 have HC0_3 := am hc0_3
 clear hr0_3 hc0_3
 have HB := am (Below.refl w.heap.size w)
 have H : ((impl_FrameOk.f a0_0 a0_1 a0_2 l0_3).bind fun t297 => (if t297 = true then ((impl_addNum.f k ([] : List Int) 1 a0_0).bind fun t298 => ((impl_addNum.f k t298 1 a0_1).bind fun t301 => (if a0_2 = 0 then ((impl_PutTlv.f k t301 3 l0_3).bind fun t304 => (some t304)) else ((impl_addNum.f k t301 2 a0_2).bind fun t307 => ((impl_PutTlv.f k t307 3 l0_3).bind fun t310 => (some t310)))))) else (some ([] : List Int)))) = some r := h
 clear h
 replace H := Option.bind_eq_some_iff.mp H
 obtain ⟨t297, A20, H⟩ := H
 replace H : (if t297 = true then ((impl_addNum.f k ([] : List Int) 1 a0_0).bind fun t298 => ((impl_addNum.f k t298 1 a0_1).bind fun t301 => (if a0_2 = 0 then ((impl_PutTlv.f k t301 3 l0_3).bind fun t304 => (some t304)) else ((impl_addNum.f k t301 2 a0_2).bind fun t307 => ((impl_PutTlv.f k t307 3 l0_3).bind fun t310 => (some t310)))))) else (some ([] : List Int))) = some r := H
 have A2 := am A20
 clear A20
 by_cases c3 : t297 = true
 · subst c3
   have H1 : ((impl_addNum.f k ([] : List Int) 1 a0_0).bind fun t298 => ((impl_addNum.f k t298 1 a0_1).bind fun t301 => (if a0_2 = 0 then ((impl_PutTlv.f k t301 3 l0_3).bind fun t304 => (some t304)) else ((impl_addNum.f k t301 2 a0_2).bind fun t307 => ((impl_PutTlv.f k t307 3 l0_3).bind fun t310 => (some t310)))))) = some r := by rw [if_pos rfl] at H; exact H
   clear H
   have H := H1
   clear H1
   replace H := Option.bind_eq_some_iff.mp H
   obtain ⟨t298, A40, H⟩ := H
   replace H : ((impl_addNum.f k t298 1 a0_1).bind fun t301 => (if a0_2 = 0 then ((impl_PutTlv.f k t301 3 l0_3).bind fun t304 => (some t304)) else ((impl_addNum.f k t301 2 a0_2).bind fun t307 => ((impl_PutTlv.f k t307 3 l0_3).bind fun t310 => (some t310))))) = some r := H
   have A4 := am A40
   clear A40
   replace H := Option.bind_eq_some_iff.mp H
   obtain ⟨t301, A50, H⟩ := H
   replace H : (if a0_2 = 0 then ((impl_PutTlv.f k t301 3 l0_3).bind fun t304 => (some t304)) else ((impl_addNum.f k t301 2 a0_2).bind fun t307 => ((impl_PutTlv.f k t307 3 l0_3).bind fun t310 => (some t310)))) = some r := H
   have A5 := am A50
   clear A50
   by_cases c6 : a0_2 = 0
   · rw [if_pos c6] at H
     have c6b0 : (a0_2 == 0) = true := beq_iff_eq.mpr c6
     have c6b1 : (a0_2 != 0) = false := bne_eq_false_iff_eq.mpr c6
     clear c6
     replace H := Option.bind_eq_some_iff.mp H
     obtain ⟨t304, A70, H⟩ := H
     replace H : (some t304) = some r := H
     have A7 := am A70
     clear A70
     obtain rfl := Option.some.inj H
     go_enter Try.func98, Try.ntmps98
     try go_wp2_with (first | ((with_reducible refine gate_dst (N := 1) rfl ?_); refine box_event ?hg (N := 1) ?hd (cs := #[.int .i64 a0_0, .int .i64 a0_1, .int .i64 a0_2, .slice A0_3 l0_3.length c0_3]) (t := 57) ?hr ?_; (case hd => rfl); (case hg => rfl); (case hr => exact gs); intro gb296 hg w8 hbox hb; have n_ := ak4 (below_step (bq HB.out) hb) hbox ((by rw [hg]; exact (below_size (bq HB.out)) : w.heap.size ≤ gb296)) ((by rw [hg]; exact (below_size (bq HB.out)) : w.heap.size ≤ gb296)); clear HB; obtain ⟨HB, BK296, GW296, GE296⟩ := n_; clear hb hbox hg; have hcz9_0 : w8.cell? ⟨gb296, 0, none⟩ = some (.int .i64 a0_0) := (blk_cell BK296.out 0).trans rfl; have hcz9_1 : w8.cell? ⟨gb296, 1, none⟩ = some (.int .i64 a0_1) := (blk_cell BK296.out 1).trans rfl; have hcz9_2 : w8.cell? ⟨gb296, 2, none⟩ = some (.int .i64 a0_2) := (blk_cell BK296.out 2).trans rfl; have hcz9_3 : w8.cell? ⟨gb296, 3, none⟩ = some (.slice A0_3 l0_3.length c0_3) := (blk_cell BK296.out 3).trans rfl; have hfz9_0 := blk_frozen BK296.out 0; have hfz9_1 := blk_frozen BK296.out 1; have hfz9_2 := blk_frozen BK296.out 2; have hfz9_3 := blk_frozen BK296.out 3) | ((with_reducible refine gate_callee (f := 128) rfl ?_); refine goesL_ (some 5) rfl rfl Try.func128 (by kernel_rfl) rfl #[.agg #[.int .i64 a0_0, .int .i64 a0_1, .int .i64 a0_2, .slice A0_3 l0_3.length c0_3]] rfl ga ?_; (with_reducible refine (impl_FrameOk.calls a0_0 a0_1 a0_2 _ _ l0_3 true _ ?side1 ?side2 A2.out).mono ?_); (case side1 => exact cq (Kd.C_below HR0_3.out HB.out)); (case side2 => exact HC0_3.out); rintro e w10 ⟨rfl, hb⟩; refine ⟨_, rfl, ?_⟩; have n_ := ak2 (blk_below (g := gb296) (o := .cells #[.int .i64 a0_0, .int .i64 a0_1, .int .i64 a0_2, .slice A0_3 l0_3.length c0_3] 57 (0, 0)) (zq BK296.out) hb) (below_step (bq1 HB.out GE296.out) hb); clear BK296 HB; obtain ⟨BK296, HB⟩ := n_; (try clear hb)))
     have n_ := ak2 (blk_drew BK296.out) (below_drew1 HB.out)
     clear BK296 HB
     obtain ⟨BK296, HB⟩ := n_
     refine start_ (n := 7) (S := fun w' => w'.cell? ⟨gb296, 0, none⟩ = some (.int .i64 a0_0) ∧ w'.cell? ⟨gb296, 1, none⟩ = some (.int .i64 a0_1) ∧ w'.cell? ⟨gb296, 2, none⟩ = some (.int .i64 a0_2) ∧ w'.cell? ⟨gb296, 3, none⟩ = some (.slice A0_3 l0_3.length c0_3)) (ds := []) #[false, false, false, false, false, false, false] (by kernel_rfl) rfl rfl ⟨(blk_cell BK296.out 0).trans rfl, (blk_cell BK296.out 1).trans rfl, (blk_cell BK296.out 2).trans rfl, (blk_cell BK296.out 3).trans rfl⟩ (fun hHeld => ?_)
     generalize w10.drew = w11 at BK296 HB hHeld ⊢
     refine pure_ (i := 0) (N := some 7) (v := ?_) (a' := ?_) #[true, false, false, false, false, false, false] rfl rfl (by kernel_rfl) (fun _ _ _ h => h) (Or.inl ⟨by rfl, ?_⟩) ?_ ?_
     rotate_left
     · intro w'
       go_simp
       with_reducible rfl
     rotate_left
     · simp only [Act.put, List.setIfInBounds_toArray, List.set_cons_zero, List.set_cons_succ, i64_w, i32_w]
       rfl
     refine pure_ (i := 3) (N := some 10) (v := ?_) (a' := ?_) #[true, false, false, true, false, false, false] rfl rfl (by kernel_rfl) (fun _ _ _ h => h) (Or.inl ⟨by rfl, ?_⟩) ?_ ?_
     rotate_left
     · intro w'
       go_simp
       with_reducible rfl
     rotate_left
     · simp only [Act.put, List.setIfInBounds_toArray, List.set_cons_zero, List.set_cons_succ, i64_w, i32_w]
       rfl
     refine take_ (i := 1) (N := some 8) (v := ?_) (a' := ?_) #[true, true, false, true, false, false, false] rfl rfl (by kernel_rfl) (fun _ _ _ h => h) (Or.inl ⟨by rfl, ?_⟩) hHeld ?_ ?_
     rotate_left
     · rintro w' ⟨s0, s1, s2, s3⟩
       go_simp
       with_reducible rfl
     rotate_left
     · simp only [Act.put, List.setIfInBounds_toArray, List.set_cons_zero, List.set_cons_succ, i64_w, i32_w]
       rfl
     refine take_ (i := 4) (N := some 11) (v := ?_) (a' := ?_) #[true, true, false, true, true, false, false] rfl rfl (by kernel_rfl) (fun _ _ _ h => h) (Or.inl ⟨by rfl, ?_⟩) hHeld ?_ ?_
     rotate_left
     · rintro w' ⟨s0, s1, s2, s3⟩
       go_simp
       with_reducible rfl
     rotate_left
     · simp only [Act.put, List.setIfInBounds_toArray, List.set_cons_zero, List.set_cons_succ, i64_w, i32_w]
       rfl
     refine one_ (i := 2) (N := some 9) #[true, true, true, true, true, false, false] rfl rfl (by kernel_rfl) (by decide) (fun K hK => ?_)
     refine goes_ Try.func114 (by kernel_rfl) rfl #[.slice none 0 0, .int .i64 1, .int .i64 a0_0] (by rfl) rfl rfl ga ?_
     refine (impl_addNum.calls k _ _ ([] : List Int) 1 a0_0 t298 _ ?side1 ?side2 A4.out).mono ?_
     (case side1 => exact Kd.C_nil _ _)
     (case side2 => exact Nat.le_refl _)
     rintro e w12 ⟨v299, rfl, ho0, hb⟩
     refine ⟨_, rfl, ?_⟩
     have n_ := ak3 (Kd.R_lower ho0 (below_size (bq1 HB.out GE296.out))) (blk_below (g := gb296) (o := .cells #[.int .i64 a0_0, .int .i64 a0_1, .int .i64 a0_2, .slice A0_3 l0_3.length c0_3] 57 (0, 0)) (zq BK296.out) hb) (below_step (bq1 HB.out GE296.out) hb)
     clear BK296 HB
     obtain ⟨HO300, BK296, HB⟩ := n_
     (try clear hb ho0)
     obtain ⟨Ao13, co13, eo13⟩ := Kd.R_slice HO300.out
     (first | subst eo13 | (injection eo13 with f1_ f2_ f3_; have f4_ := f1_.symm; have f5_ := f3_.symm; clear f1_ f2_ f3_; subst f4_; subst f5_))
     refine hK.out _ _ ⟨(blk_cell BK296.out 0).trans rfl, (blk_cell BK296.out 1).trans rfl, (blk_cell BK296.out 2).trans rfl, (blk_cell BK296.out 3).trans rfl⟩ (fun hHeld => ?_)
     clear hK K
     refine norm_ (a' := ?_) ?_ ?_
     rotate_left
     · show Act.put _ (some 9) _ = _
       simp only [Act.put, List.setIfInBounds_toArray, List.set_cons_zero, List.set_cons_succ, i64_w, i32_w]
       rfl
     refine one_ (i := 5) (N := some 12) #[true, true, true, true, true, true, false] rfl rfl (by kernel_rfl) (by decide) (fun K hK => ?_)
     refine goes_ Try.func114 (by kernel_rfl) rfl #[.slice Ao13 t298.length co13, .int .i64 1, .int .i64 a0_1] (by rfl) rfl rfl ga ?_
     with_reducible refine (impl_addNum.calls k _ _ t298 1 a0_1 t301 _ ?side1 ?side2 A5.out).mono ?_
     (case side1 => repeat (first | exact (Kd.R_reads' HO300.out).2.2 | (with_reducible refine Kd.C_alloc ?_ _) | (with_reducible refine Kd.C_drewN ?_ _) | (with_reducible refine Kd.C_drew ?_)))
     (case side2 => exact (Kd.R_reads' HO300.out).2.1)
     rintro e w14 ⟨v302, rfl, ho0, hb⟩
     refine ⟨_, rfl, ?_⟩
     have n_ := ak4 (Kd.R_elder' (kqR HO300.out) (Kd.R_base ho0) hb) (Kd.R_lower (Kd.R_new' ho0 (Kd.R_lt (kqR HO300.out))) (below_size (bq1 HB.out GE296.out))) (blk_below (g := gb296) (o := .cells #[.int .i64 a0_0, .int .i64 a0_1, .int .i64 a0_2, .slice A0_3 l0_3.length c0_3] 57 (0, 0)) (zq BK296.out) hb) (below_step (bq1 HB.out GE296.out) hb)
     clear HO300 BK296 HB
     obtain ⟨HO300, HO303, BK296, HB⟩ := n_
     (try clear hb ho0)
     refine hK.out _ _ ⟨(blk_cell BK296.out 0).trans rfl, (blk_cell BK296.out 1).trans rfl, (blk_cell BK296.out 2).trans rfl, (blk_cell BK296.out 3).trans rfl⟩ (fun hHeld => ?_)
     clear hK K
     refine norm_ (a' := ?_) ?_ ?_
     rotate_left
     · show Act.put _ (some 12) _ = _
       simp only [Act.put, List.setIfInBounds_toArray, List.set_cons_zero, List.set_cons_succ, i64_w, i32_w]
       rfl
     refine pure_ (i := 6) (N := some 3) (v := ?_) (a' := ?_) #[true, true, true, true, true, true, true] rfl rfl (by kernel_rfl) (fun _ _ _ h => h) (Or.inl ⟨by rfl, ?_⟩) ?_ ?_
     rotate_left
     · intro w'
       go_simp
       with_reducible rfl
     rotate_left
     · simp only [Act.put, List.setIfInBounds_toArray, List.set_cons_zero, List.set_cons_succ, i64_w, i32_w]
       rfl
     refine done_ (by kernel_rfl) ?_
     have hcz15_0 : w14.cell? ⟨gb296, 0, none⟩ = some (.int .i64 a0_0) := (blk_cell BK296.out 0).trans rfl
     have hcz15_1 : w14.cell? ⟨gb296, 1, none⟩ = some (.int .i64 a0_1) := (blk_cell BK296.out 1).trans rfl
     have hcz15_2 : w14.cell? ⟨gb296, 2, none⟩ = some (.int .i64 a0_2) := (blk_cell BK296.out 2).trans rfl
     have hcz15_3 : w14.cell? ⟨gb296, 3, none⟩ = some (.slice A0_3 l0_3.length c0_3) := (blk_cell BK296.out 3).trans rfl
     have hfz15_0 := blk_frozen BK296.out 0
     have hfz15_1 := blk_frozen BK296.out 1
     have hfz15_2 := blk_frozen BK296.out 2
     have hfz15_3 := blk_frozen BK296.out 3
     obtain ⟨Ao16, co16, eo16⟩ := Kd.R_slice HO303.out
     subst eo16
     try go_wp2_with (first | ((with_reducible refine gate_callee (f := 129) rfl ?_); refine goesL_ (some 23) rfl rfl Try.func129 (by kernel_rfl) rfl #[.slice Ao16 t301.length co16, .int .i64 3, .slice A0_3 l0_3.length c0_3] rfl ga ?_; (with_reducible refine (impl_PutTlv.calls k _ _ t301 3 _ _ l0_3 t304 _ ?side1 ?side2 ?side3 ?side4 A7.out).mono ?_); (case side1 => repeat (first | exact (Kd.R_reads' HO303.out).2.2 | (with_reducible refine Kd.C_alloc ?_ _) | (with_reducible refine Kd.C_drewN ?_ _) | (with_reducible refine Kd.C_drew ?_))); (case side2 => exact (Kd.R_reads' HO303.out).2.1); (case side3 => exact cq (Kd.C_below HR0_3.out HB.out)); (case side4 => exact HC0_3.out); rintro e w17 ⟨v305, rfl, ho0, hb⟩; refine ⟨_, rfl, ?_⟩; have n_ := ak5 (Kd.R_elder' (kqR HO300.out) (Kd.R_base ho0) hb) (Kd.R_elder' (kqR HO303.out) (Kd.R_base ho0) hb) (Kd.R_lower (Kd.R_new' (Kd.R_new' ho0 (Kd.R_lt (kqR HO300.out))) (Kd.R_lt (kqR HO303.out))) (below_size (bq1 HB.out GE296.out))) (blk_below (g := gb296) (o := .cells #[.int .i64 a0_0, .int .i64 a0_1, .int .i64 a0_2, .slice A0_3 l0_3.length c0_3] 57 (0, 0)) (zq BK296.out) hb) (below_step (bq1 HB.out GE296.out) hb); clear HO300 HO303 BK296 HB; obtain ⟨HO300, HO303, HO306, BK296, HB⟩ := n_; (try clear hb ho0)))
     go_ret
     exact ⟨_, rq, by (with_reducible repeat (first | apply Kd.R_alloc | apply Kd.R_drewN | apply Kd.R_drew)); exact Kd.R_mono HO306.out (fun _ hk => trivial), bq1 HB.out GE296.out⟩
   rw [if_neg c6] at H
   have c6b0 : (a0_2 == 0) = false := beq_eq_false_iff_ne.mpr c6
   have c6b1 : (a0_2 != 0) = true := bne_iff_ne.mpr c6
   replace H := Option.bind_eq_some_iff.mp H
   obtain ⟨t307, A180, H⟩ := H
   replace H : ((impl_PutTlv.f k t307 3 l0_3).bind fun t310 => (some t310)) = some r := H
   have A18 := am A180
   clear A180
   replace H := Option.bind_eq_some_iff.mp H
   obtain ⟨t310, A190, H⟩ := H
   replace H : (some t310) = some r := H
   have A19 := am A190
   clear A190
   obtain rfl := Option.some.inj H
   go_enter Try.func98, Try.ntmps98
   try go_wp2_with (first | ((with_reducible refine gate_dst (N := 1) rfl ?_); refine box_event ?hg (N := 1) ?hd (cs := #[.int .i64 a0_0, .int .i64 a0_1, .int .i64 a0_2, .slice A0_3 l0_3.length c0_3]) (t := 57) ?hr ?_; (case hd => rfl); (case hg => rfl); (case hr => exact gs); intro gb296 hg w20 hbox hb; have n_ := ak4 (below_step (bq HB.out) hb) hbox ((by rw [hg]; exact (below_size (bq HB.out)) : w.heap.size ≤ gb296)) ((by rw [hg]; exact (below_size (bq HB.out)) : w.heap.size ≤ gb296)); clear HB; obtain ⟨HB, BK296, GW296, GE296⟩ := n_; clear hb hbox hg; have hcz21_0 : w20.cell? ⟨gb296, 0, none⟩ = some (.int .i64 a0_0) := (blk_cell BK296.out 0).trans rfl; have hcz21_1 : w20.cell? ⟨gb296, 1, none⟩ = some (.int .i64 a0_1) := (blk_cell BK296.out 1).trans rfl; have hcz21_2 : w20.cell? ⟨gb296, 2, none⟩ = some (.int .i64 a0_2) := (blk_cell BK296.out 2).trans rfl; have hcz21_3 : w20.cell? ⟨gb296, 3, none⟩ = some (.slice A0_3 l0_3.length c0_3) := (blk_cell BK296.out 3).trans rfl; have hfz21_0 := blk_frozen BK296.out 0; have hfz21_1 := blk_frozen BK296.out 1; have hfz21_2 := blk_frozen BK296.out 2; have hfz21_3 := blk_frozen BK296.out 3) | ((with_reducible refine gate_callee (f := 128) rfl ?_); refine goesL_ (some 5) rfl rfl Try.func128 (by kernel_rfl) rfl #[.agg #[.int .i64 a0_0, .int .i64 a0_1, .int .i64 a0_2, .slice A0_3 l0_3.length c0_3]] rfl ga ?_; (with_reducible refine (impl_FrameOk.calls a0_0 a0_1 a0_2 _ _ l0_3 true _ ?side1 ?side2 A2.out).mono ?_); (case side1 => exact cq (Kd.C_below HR0_3.out HB.out)); (case side2 => exact HC0_3.out); rintro e w22 ⟨rfl, hb⟩; refine ⟨_, rfl, ?_⟩; have n_ := ak2 (blk_below (g := gb296) (o := .cells #[.int .i64 a0_0, .int .i64 a0_1, .int .i64 a0_2, .slice A0_3 l0_3.length c0_3] 57 (0, 0)) (zq BK296.out) hb) (below_step (bq1 HB.out GE296.out) hb); clear BK296 HB; obtain ⟨BK296, HB⟩ := n_; (try clear hb)))
   have n_ := ak2 (blk_drew BK296.out) (below_drew1 HB.out)
   clear BK296 HB
   obtain ⟨BK296, HB⟩ := n_
   refine start_ (n := 7) (S := fun w' => w'.cell? ⟨gb296, 0, none⟩ = some (.int .i64 a0_0) ∧ w'.cell? ⟨gb296, 1, none⟩ = some (.int .i64 a0_1) ∧ w'.cell? ⟨gb296, 2, none⟩ = some (.int .i64 a0_2) ∧ w'.cell? ⟨gb296, 3, none⟩ = some (.slice A0_3 l0_3.length c0_3)) (ds := []) #[false, false, false, false, false, false, false] (by kernel_rfl) rfl rfl ⟨(blk_cell BK296.out 0).trans rfl, (blk_cell BK296.out 1).trans rfl, (blk_cell BK296.out 2).trans rfl, (blk_cell BK296.out 3).trans rfl⟩ (fun hHeld => ?_)
   generalize w22.drew = w23 at BK296 HB hHeld ⊢
   refine pure_ (i := 0) (N := some 7) (v := ?_) (a' := ?_) #[true, false, false, false, false, false, false] rfl rfl (by kernel_rfl) (fun _ _ _ h => h) (Or.inl ⟨by rfl, ?_⟩) ?_ ?_
   rotate_left
   · intro w'
     go_simp
     with_reducible rfl
   rotate_left
   · simp only [Act.put, List.setIfInBounds_toArray, List.set_cons_zero, List.set_cons_succ, i64_w, i32_w]
     rfl
   refine pure_ (i := 3) (N := some 10) (v := ?_) (a' := ?_) #[true, false, false, true, false, false, false] rfl rfl (by kernel_rfl) (fun _ _ _ h => h) (Or.inl ⟨by rfl, ?_⟩) ?_ ?_
   rotate_left
   · intro w'
     go_simp
     with_reducible rfl
   rotate_left
   · simp only [Act.put, List.setIfInBounds_toArray, List.set_cons_zero, List.set_cons_succ, i64_w, i32_w]
     rfl
   refine take_ (i := 1) (N := some 8) (v := ?_) (a' := ?_) #[true, true, false, true, false, false, false] rfl rfl (by kernel_rfl) (fun _ _ _ h => h) (Or.inl ⟨by rfl, ?_⟩) hHeld ?_ ?_
   rotate_left
   · rintro w' ⟨s0, s1, s2, s3⟩
     go_simp
     with_reducible rfl
   rotate_left
   · simp only [Act.put, List.setIfInBounds_toArray, List.set_cons_zero, List.set_cons_succ, i64_w, i32_w]
     rfl
   refine take_ (i := 4) (N := some 11) (v := ?_) (a' := ?_) #[true, true, false, true, true, false, false] rfl rfl (by kernel_rfl) (fun _ _ _ h => h) (Or.inl ⟨by rfl, ?_⟩) hHeld ?_ ?_
   rotate_left
   · rintro w' ⟨s0, s1, s2, s3⟩
     go_simp
     with_reducible rfl
   rotate_left
   · simp only [Act.put, List.setIfInBounds_toArray, List.set_cons_zero, List.set_cons_succ, i64_w, i32_w]
     rfl
   refine one_ (i := 2) (N := some 9) #[true, true, true, true, true, false, false] rfl rfl (by kernel_rfl) (by decide) (fun K hK => ?_)
   refine goes_ Try.func114 (by kernel_rfl) rfl #[.slice none 0 0, .int .i64 1, .int .i64 a0_0] (by rfl) rfl rfl ga ?_
   refine (impl_addNum.calls k _ _ ([] : List Int) 1 a0_0 t298 _ ?side1 ?side2 A4.out).mono ?_
   (case side1 => exact Kd.C_nil _ _)
   (case side2 => exact Nat.le_refl _)
   rintro e w24 ⟨v299, rfl, ho0, hb⟩
   refine ⟨_, rfl, ?_⟩
   have n_ := ak3 (Kd.R_lower ho0 (below_size (bq1 HB.out GE296.out))) (blk_below (g := gb296) (o := .cells #[.int .i64 a0_0, .int .i64 a0_1, .int .i64 a0_2, .slice A0_3 l0_3.length c0_3] 57 (0, 0)) (zq BK296.out) hb) (below_step (bq1 HB.out GE296.out) hb)
   clear BK296 HB
   obtain ⟨HO300, BK296, HB⟩ := n_
   (try clear hb ho0)
   obtain ⟨Ao25, co25, eo25⟩ := Kd.R_slice HO300.out
   (first | subst eo25 | (injection eo25 with f1_ f2_ f3_; have f4_ := f1_.symm; have f5_ := f3_.symm; clear f1_ f2_ f3_; subst f4_; subst f5_))
   refine hK.out _ _ ⟨(blk_cell BK296.out 0).trans rfl, (blk_cell BK296.out 1).trans rfl, (blk_cell BK296.out 2).trans rfl, (blk_cell BK296.out 3).trans rfl⟩ (fun hHeld => ?_)
   clear hK K
   refine norm_ (a' := ?_) ?_ ?_
   rotate_left
   · show Act.put _ (some 9) _ = _
     simp only [Act.put, List.setIfInBounds_toArray, List.set_cons_zero, List.set_cons_succ, i64_w, i32_w]
     rfl
   refine one_ (i := 5) (N := some 12) #[true, true, true, true, true, true, false] rfl rfl (by kernel_rfl) (by decide) (fun K hK => ?_)
   refine goes_ Try.func114 (by kernel_rfl) rfl #[.slice Ao25 t298.length co25, .int .i64 1, .int .i64 a0_1] (by rfl) rfl rfl ga ?_
   with_reducible refine (impl_addNum.calls k _ _ t298 1 a0_1 t301 _ ?side1 ?side2 A5.out).mono ?_
   (case side1 => repeat (first | exact (Kd.R_reads' HO300.out).2.2 | (with_reducible refine Kd.C_alloc ?_ _) | (with_reducible refine Kd.C_drewN ?_ _) | (with_reducible refine Kd.C_drew ?_)))
   (case side2 => exact (Kd.R_reads' HO300.out).2.1)
   rintro e w26 ⟨v302, rfl, ho0, hb⟩
   refine ⟨_, rfl, ?_⟩
   have n_ := ak4 (Kd.R_elder' (kqR HO300.out) (Kd.R_base ho0) hb) (Kd.R_lower (Kd.R_new' ho0 (Kd.R_lt (kqR HO300.out))) (below_size (bq1 HB.out GE296.out))) (blk_below (g := gb296) (o := .cells #[.int .i64 a0_0, .int .i64 a0_1, .int .i64 a0_2, .slice A0_3 l0_3.length c0_3] 57 (0, 0)) (zq BK296.out) hb) (below_step (bq1 HB.out GE296.out) hb)
   clear HO300 BK296 HB
   obtain ⟨HO300, HO303, BK296, HB⟩ := n_
   (try clear hb ho0)
   refine hK.out _ _ ⟨(blk_cell BK296.out 0).trans rfl, (blk_cell BK296.out 1).trans rfl, (blk_cell BK296.out 2).trans rfl, (blk_cell BK296.out 3).trans rfl⟩ (fun hHeld => ?_)
   clear hK K
   refine norm_ (a' := ?_) ?_ ?_
   rotate_left
   · show Act.put _ (some 12) _ = _
     simp only [Act.put, List.setIfInBounds_toArray, List.set_cons_zero, List.set_cons_succ, i64_w, i32_w]
     rfl
   refine pure_ (i := 6) (N := some 3) (v := ?_) (a' := ?_) #[true, true, true, true, true, true, true] rfl rfl (by kernel_rfl) (fun _ _ _ h => h) (Or.inl ⟨by rfl, ?_⟩) ?_ ?_
   rotate_left
   · intro w'
     go_simp
     with_reducible rfl
   rotate_left
   · simp only [Act.put, List.setIfInBounds_toArray, List.set_cons_zero, List.set_cons_succ, i64_w, i32_w]
     rfl
   refine done_ (by kernel_rfl) ?_
   have hcz27_0 : w26.cell? ⟨gb296, 0, none⟩ = some (.int .i64 a0_0) := (blk_cell BK296.out 0).trans rfl
   have hcz27_1 : w26.cell? ⟨gb296, 1, none⟩ = some (.int .i64 a0_1) := (blk_cell BK296.out 1).trans rfl
   have hcz27_2 : w26.cell? ⟨gb296, 2, none⟩ = some (.int .i64 a0_2) := (blk_cell BK296.out 2).trans rfl
   have hcz27_3 : w26.cell? ⟨gb296, 3, none⟩ = some (.slice A0_3 l0_3.length c0_3) := (blk_cell BK296.out 3).trans rfl
   have hfz27_0 := blk_frozen BK296.out 0
   have hfz27_1 := blk_frozen BK296.out 1
   have hfz27_2 := blk_frozen BK296.out 2
   have hfz27_3 := blk_frozen BK296.out 3
   obtain ⟨Ao28, co28, eo28⟩ := Kd.R_slice HO303.out
   subst eo28
   try go_wp2_with (first | ((with_reducible refine gate_callee (f := 114) rfl ?_); refine goesL_ (some 19) rfl rfl Try.func114 (by kernel_rfl) rfl #[.slice Ao28 t301.length co28, .int .i64 2, .int .i64 a0_2] rfl ga ?_; (with_reducible refine (impl_addNum.calls k _ _ t301 2 a0_2 t307 _ ?side1 ?side2 A18.out).mono ?_); (case side1 => repeat (first | exact (Kd.R_reads' HO303.out).2.2 | (with_reducible refine Kd.C_alloc ?_ _) | (with_reducible refine Kd.C_drewN ?_ _) | (with_reducible refine Kd.C_drew ?_))); (case side2 => exact (Kd.R_reads' HO303.out).2.1); rintro e w29 ⟨v308, rfl, ho0, hb⟩; refine ⟨_, rfl, ?_⟩; have n_ := ak5 (Kd.R_elder' (kqR HO300.out) (Kd.R_base ho0) hb) (Kd.R_elder' (kqR HO303.out) (Kd.R_base ho0) hb) (Kd.R_lower (Kd.R_new' (Kd.R_new' ho0 (Kd.R_lt (kqR HO300.out))) (Kd.R_lt (kqR HO303.out))) (below_size (bq1 HB.out GE296.out))) (blk_below (g := gb296) (o := .cells #[.int .i64 a0_0, .int .i64 a0_1, .int .i64 a0_2, .slice A0_3 l0_3.length c0_3] 57 (0, 0)) (zq BK296.out) hb) (below_step (bq1 HB.out GE296.out) hb); clear HO300 HO303 BK296 HB; obtain ⟨HO300, HO303, HO309, BK296, HB⟩ := n_; (try clear hb ho0); have hcz30_0 : w29.cell? ⟨gb296, 0, none⟩ = some (.int .i64 a0_0) := (blk_cell BK296.out 0).trans rfl; have hcz30_1 : w29.cell? ⟨gb296, 1, none⟩ = some (.int .i64 a0_1) := (blk_cell BK296.out 1).trans rfl; have hcz30_2 : w29.cell? ⟨gb296, 2, none⟩ = some (.int .i64 a0_2) := (blk_cell BK296.out 2).trans rfl; have hcz30_3 : w29.cell? ⟨gb296, 3, none⟩ = some (.slice A0_3 l0_3.length c0_3) := (blk_cell BK296.out 3).trans rfl; have hfz30_0 := blk_frozen BK296.out 0; have hfz30_1 := blk_frozen BK296.out 1; have hfz30_2 := blk_frozen BK296.out 2; have hfz30_3 := blk_frozen BK296.out 3; obtain ⟨Ao31, co31, eo31⟩ := Kd.R_slice HO309.out; subst eo31) | ((with_reducible refine gate_callee (f := 129) rfl ?_); refine goesL_ (some 23) rfl rfl Try.func129 (by kernel_rfl) rfl #[.slice Ao31 t307.length co31, .int .i64 3, .slice A0_3 l0_3.length c0_3] rfl ga ?_; (with_reducible refine (impl_PutTlv.calls k _ _ t307 3 _ _ l0_3 t310 _ ?side1 ?side2 ?side3 ?side4 A19.out).mono ?_); (case side1 => repeat (first | exact (Kd.R_reads' HO309.out).2.2 | (with_reducible refine Kd.C_alloc ?_ _) | (with_reducible refine Kd.C_drewN ?_ _) | (with_reducible refine Kd.C_drew ?_))); (case side2 => exact (Kd.R_reads' HO309.out).2.1); (case side3 => exact cq (Kd.C_below HR0_3.out HB.out)); (case side4 => exact HC0_3.out); rintro e w32 ⟨v311, rfl, ho0, hb⟩; refine ⟨_, rfl, ?_⟩; have n_ := ak6 (Kd.R_elder' (kqR HO300.out) (Kd.R_base ho0) hb) (Kd.R_elder' (kqR HO303.out) (Kd.R_base ho0) hb) (Kd.R_elder' (kqR HO309.out) (Kd.R_base ho0) hb) (Kd.R_lower (Kd.R_new' (Kd.R_new' (Kd.R_new' ho0 (Kd.R_lt (kqR HO300.out))) (Kd.R_lt (kqR HO303.out))) (Kd.R_lt (kqR HO309.out))) (below_size (bq1 HB.out GE296.out))) (blk_below (g := gb296) (o := .cells #[.int .i64 a0_0, .int .i64 a0_1, .int .i64 a0_2, .slice A0_3 l0_3.length c0_3] 57 (0, 0)) (zq BK296.out) hb) (below_step (bq1 HB.out GE296.out) hb); clear HO300 HO303 HO309 BK296 HB; obtain ⟨HO300, HO303, HO309, HO312, BK296, HB⟩ := n_; (try clear hb ho0)))
   go_ret
   exact ⟨_, rq, by (with_reducible repeat (first | apply Kd.R_alloc | apply Kd.R_drewN | apply Kd.R_drew)); exact Kd.R_mono HO312.out (fun _ hk => trivial), bq1 HB.out GE296.out⟩
 replace c3 := Bool.eq_false_iff.mpr c3
 subst c3
 have H1 : (some ([] : List Int)) = some r := by rw [if_neg (show ¬ (false = true) by decide)] at H; exact H
 clear H
 have H := H1
 clear H1
 obtain rfl := Option.some.inj H
 go_enter Try.func98, Try.ntmps98
 go_wp2_with (first | ((with_reducible refine gate_dst (N := 1) rfl ?_); refine box_event ?hg (N := 1) ?hd (cs := #[.int .i64 a0_0, .int .i64 a0_1, .int .i64 a0_2, .slice A0_3 l0_3.length c0_3]) (t := 57) ?hr ?_; (case hd => rfl); (case hg => rfl); (case hr => exact gs); intro gb296 hg w33 hbox hb; have n_ := ak4 (below_step (bq HB.out) hb) hbox ((by rw [hg]; exact (below_size (bq HB.out)) : w.heap.size ≤ gb296)) ((by rw [hg]; exact (below_size (bq HB.out)) : w.heap.size ≤ gb296)); clear HB; obtain ⟨HB, BK296, GW296, GE296⟩ := n_; clear hb hbox hg; have hcz34_0 : w33.cell? ⟨gb296, 0, none⟩ = some (.int .i64 a0_0) := (blk_cell BK296.out 0).trans rfl; have hcz34_1 : w33.cell? ⟨gb296, 1, none⟩ = some (.int .i64 a0_1) := (blk_cell BK296.out 1).trans rfl; have hcz34_2 : w33.cell? ⟨gb296, 2, none⟩ = some (.int .i64 a0_2) := (blk_cell BK296.out 2).trans rfl; have hcz34_3 : w33.cell? ⟨gb296, 3, none⟩ = some (.slice A0_3 l0_3.length c0_3) := (blk_cell BK296.out 3).trans rfl; have hfz34_0 := blk_frozen BK296.out 0; have hfz34_1 := blk_frozen BK296.out 1; have hfz34_2 := blk_frozen BK296.out 2; have hfz34_3 := blk_frozen BK296.out 3) | ((with_reducible refine gate_callee (f := 128) rfl ?_); refine goesL_ (some 5) rfl rfl Try.func128 (by kernel_rfl) rfl #[.agg #[.int .i64 a0_0, .int .i64 a0_1, .int .i64 a0_2, .slice A0_3 l0_3.length c0_3]] rfl ga ?_; (with_reducible refine (impl_FrameOk.calls a0_0 a0_1 a0_2 _ _ l0_3 false _ ?side1 ?side2 A2.out).mono ?_); (case side1 => exact cq (Kd.C_below HR0_3.out HB.out)); (case side2 => exact HC0_3.out); rintro e w35 ⟨rfl, hb⟩; refine ⟨_, rfl, ?_⟩; have n_ := ak2 (blk_below (g := gb296) (o := .cells #[.int .i64 a0_0, .int .i64 a0_1, .int .i64 a0_2, .slice A0_3 l0_3.length c0_3] 57 (0, 0)) (zq BK296.out) hb) (below_step (bq1 HB.out GE296.out) hb); clear BK296 HB; obtain ⟨BK296, HB⟩ := n_; (try clear hb)))
 go_ret
 exact ⟨_, rq, by first | exact Kd.R_nil _ _ _ _ _ | exact Kd.N_nil _ _ _ _ _ | exact Kd.V_nil _ _ _ _ _ | exact Kd.Q_nil _ _ _ _ _ | exact Kd.S_nil _ _ _ _ _, bq1 HB.out GE296.out⟩

/-! ### impl_GetFrame: function 44 -/
mutual
def impl_GetFrame.j0 : Nat → List Int → Bool → List Int → Int → Bool → Int → Int → Int → Option (Int × Int × Int × List Int × Bool)
 | 0, _, _, _, _, _, _, _, _ => none
 | k + 1, x0, x39, x315000, x315001, x315002, x316000, x316001, x316002 => if x39 = true then ((impl_parts_num.f k x315000 x315001 x315002 2).bind fun bt323 => (impl_GetFrame.j1 k x0 x315000 bt323.2.1 bt323.2.2 x316000 x316001 bt323.1)) else (impl_GetFrame.j1 k x0 x315000 x315001 x315002 x316000 x316001 x316002)
def impl_GetFrame.j1 : Nat → List Int → List Int → Int → Bool → Int → Int → Int → Option (Int × Int × Int × List Int × Bool)
 | 0, _, _, _, _, _, _, _ => none
 | k + 1, x0, x315000, x315001, x315002, x316000, x316001, x316002 => (impl_parts_part.f k x315000 x315001 x315002 3).bind fun bt326 => ((impl_PutFrame.f k x316000 x316001 x316002 bt326.1).bind fun t331 => ((impl_parts_done.f x315000 bt326.2.1 bt326.2.2).bind fun bt334 => (if bt334.1 = true then (if (t331.length : Int) = 0 then (some (0, 0, 0, ([] : List Int), false)) else (if (strOfNums t331).toList = (strOfNums x0).toList then (some (x316000, x316001, x316002, bt326.1, true)) else (some (0, 0, 0, ([] : List Int), false)))) else (some (0, 0, 0, ([] : List Int), false)))))
end
def impl_GetFrame.f (k : Nat) (l0 : List Int) : Option (Int × Int × Int × List Int × Bool) := (impl_parts_num.f k l0 0 false 1).bind fun bt316 => ((impl_parts_num.f k l0 bt316.2.1 bt316.2.2 1).bind fun bt319 => (if bt319.2.2 = true then (impl_GetFrame.j0 k l0 false l0 bt319.2.1 bt319.2.2 bt316.1 bt319.1 0) else (if bt319.2.1 < (l0.length : Int) then (if 0 ≤ bt319.2.1 then (impl_GetFrame.j0 k l0 ((rd l0 bt319.2.1) == 2) l0 bt319.2.1 bt319.2.2 bt316.1 bt319.1 0) else (none)) else (impl_GetFrame.j0 k l0 false l0 bt319.2.1 bt319.2.2 bt316.1 bt319.1 0))))
theorem impl_GetFrame.mono_l : ∀ k, (∀ y0 y1 y2 y3 y4 y5 y6 y7, LeO (impl_GetFrame.j0 k y0 y1 y2 y3 y4 y5 y6 y7) (impl_GetFrame.j0 (k + 1) y0 y1 y2 y3 y4 y5 y6 y7)) ∧ (∀ y0 y1 y2 y3 y4 y5 y6, LeO (impl_GetFrame.j1 k y0 y1 y2 y3 y4 y5 y6) (impl_GetFrame.j1 (k + 1) y0 y1 y2 y3 y4 y5 y6))
 | 0 => ⟨fun _ _ _ _ _ _ _ _ r h => by simp [impl_GetFrame.j0] at h, fun _ _ _ _ _ _ _ r h => by simp [impl_GetFrame.j1] at h⟩
 | k + 1 => by
  obtain ⟨ih0, ih1⟩ := impl_GetFrame.mono_l k
  refine ⟨?_, ?_⟩
  · intro y0 y1 y2 y3 y4 y5 y6 y7
    unfold impl_GetFrame.j0
    repeat' first
    | (with_reducible exact ih0 _ _ _ _ _ _ _ _)
    | (with_reducible exact ih1 _ _ _ _ _ _ _)
    | (with_reducible exact impl_PutFrame.mono _ _ _ _ _)
    | (with_reducible exact impl_parts_num.mono _ _ _ _ _)
    | (with_reducible exact impl_parts_part.mono _ _ _ _ _)
    | (with_reducible exact LeO.refl _)
    | (with_reducible exact LeO.none _)
    | (with_reducible refine LeO.ite ?_ ?_)
    | (with_reducible refine LeO.bind ?_ (fun _ => ?_))
    | exact ih0 _ _ _ _ _ _ _ _
    | exact ih1 _ _ _ _ _ _ _
    | exact impl_PutFrame.mono _ _ _ _ _
    | exact impl_parts_num.mono _ _ _ _ _
    | exact impl_parts_part.mono _ _ _ _ _
    | exact LeO.none _
    | refine LeO.ite ?_ ?_
    | refine LeO.bind ?_ (fun _ => ?_)
  intro y0 y1 y2 y3 y4 y5 y6
  unfold impl_GetFrame.j1
  repeat' first
  | (with_reducible exact ih0 _ _ _ _ _ _ _ _)
  | (with_reducible exact ih1 _ _ _ _ _ _ _)
  | (with_reducible exact impl_PutFrame.mono _ _ _ _ _)
  | (with_reducible exact impl_parts_num.mono _ _ _ _ _)
  | (with_reducible exact impl_parts_part.mono _ _ _ _ _)
  | (with_reducible exact LeO.refl _)
  | (with_reducible exact LeO.none _)
  | (with_reducible refine LeO.ite ?_ ?_)
  | (with_reducible refine LeO.bind ?_ (fun _ => ?_))
  | exact ih0 _ _ _ _ _ _ _ _
  | exact ih1 _ _ _ _ _ _ _
  | exact impl_PutFrame.mono _ _ _ _ _
  | exact impl_parts_num.mono _ _ _ _ _
  | exact impl_parts_part.mono _ _ _ _ _
  | exact LeO.none _
  | refine LeO.ite ?_ ?_
  | refine LeO.bind ?_ (fun _ => ?_)
theorem impl_GetFrame.mono : ∀ a0 k, LeO (impl_GetFrame.f k a0) (impl_GetFrame.f (k + 1) a0) := by
 intro a0 k
 obtain ⟨ih0, ih1⟩ := impl_GetFrame.mono_l k
 unfold impl_GetFrame.f
 repeat' first
  | (with_reducible exact ih0 _ _ _ _ _ _ _ _)
  | (with_reducible exact ih1 _ _ _ _ _ _ _)
  | (with_reducible exact impl_PutFrame.mono _ _ _ _ _)
  | (with_reducible exact impl_parts_num.mono _ _ _ _ _)
  | (with_reducible exact impl_parts_part.mono _ _ _ _ _)
  | (with_reducible exact LeO.refl _)
  | (with_reducible exact LeO.none _)
  | (with_reducible refine LeO.ite ?_ ?_)
  | (with_reducible refine LeO.bind ?_ (fun _ => ?_))
  | exact ih0 _ _ _ _ _ _ _ _
  | exact ih1 _ _ _ _ _ _ _
  | exact impl_PutFrame.mono _ _ _ _ _
  | exact impl_parts_num.mono _ _ _ _ _
  | exact impl_parts_part.mono _ _ _ _ _
  | exact LeO.none _
  | refine LeO.ite ?_ ?_
  | refine LeO.bind ?_ (fun _ => ?_)
set_option maxHeartbeats 8000000 in
set_option maxRecDepth 100000 in
theorem impl_GetFrame.calls (k : Nat) (A0 : Option Addr) (c0 : Nat) (l0 : List Int) (r1 : Int) (r2 : Int) (r3 : Int) (r4 : List Int) (r5 : Bool) (w : World) (hr0 : Kd.C (Kd.int .u8) w A0 l0.length l0) (hc0 : l0.length ≤ c0) (h : impl_GetFrame.f k l0 = some (r1, r2, r3, r4, r5)) :
 Calls Try.prog 44 #[.slice A0 l0.length c0] w fun e w' => ∃ v3_ : Value, e = .returned (.tuple #[.agg #[.int .i64 r1, .int .i64 r2, .int .i64 r3, v3_], .bool r5]) ∧ Kd.R (Kd.int .u8) 5 w' w.heap.size (fun _ => True) v3_ r4 ∧ Below w.heap.size w w' := by
 have hu57 := Try.underlying57
 have hu110 := Try.underlying110
 have HR0 := am hr0
 have HC0 := am hc0
 clear hr0 hc0
 have HB := am (Below.refl w.heap.size w)
 have H : ((impl_parts_num.f k l0 0 false 1).bind fun bt316 => ((impl_parts_num.f k l0 bt316.2.1 bt316.2.2 1).bind fun bt319 => (if bt319.2.2 = true then (impl_GetFrame.j0 k l0 false l0 bt319.2.1 bt319.2.2 bt316.1 bt319.1 0) else (if bt319.2.1 < (l0.length : Int) then (if 0 ≤ bt319.2.1 then (impl_GetFrame.j0 k l0 ((rd l0 bt319.2.1) == 2) l0 bt319.2.1 bt319.2.2 bt316.1 bt319.1 0) else (none)) else (impl_GetFrame.j0 k l0 false l0 bt319.2.1 bt319.2.2 bt316.1 bt319.1 0))))) = some (r1, r2, r3, r4, r5) := h
 clear h
 replace H := Option.bind_eq_some_iff.mp H
 obtain ⟨⟨t316, t317, t318⟩, A20, H⟩ := H
 replace H : ((impl_parts_num.f k l0 t317 t318 1).bind fun bt319 => (if bt319.2.2 = true then (impl_GetFrame.j0 k l0 false l0 bt319.2.1 bt319.2.2 t316 bt319.1 0) else (if bt319.2.1 < (l0.length : Int) then (if 0 ≤ bt319.2.1 then (impl_GetFrame.j0 k l0 ((rd l0 bt319.2.1) == 2) l0 bt319.2.1 bt319.2.2 t316 bt319.1 0) else (none)) else (impl_GetFrame.j0 k l0 false l0 bt319.2.1 bt319.2.2 t316 bt319.1 0)))) = some (r1, r2, r3, r4, r5) := H
 have A2 := am A20
 clear A20
 replace H := Option.bind_eq_some_iff.mp H
 obtain ⟨⟨t319, t320, t321⟩, A30, H⟩ := H
 replace H : (if t321 = true then (impl_GetFrame.j0 k l0 false l0 t320 t321 t316 t319 0) else (if t320 < (l0.length : Int) then (if 0 ≤ t320 then (impl_GetFrame.j0 k l0 ((rd l0 t320) == 2) l0 t320 t321 t316 t319 0) else (none)) else (impl_GetFrame.j0 k l0 false l0 t320 t321 t316 t319 0))) = some (r1, r2, r3, r4, r5) := H
 have A3 := am A30
 clear A30
 have HC4 := am H
 clear H
 go_enter Try.func44, Try.ntmps44
 go_upto_region 5 with (first | ((with_reducible refine gate_dst (N := 2) rfl ?_); (try (refine gate_guard (by rfl) ?_; dsimp only)); refine box_event ?hg (N := 2) ?hd (cs := #[.int .i64 0, .int .i64 0, .int .i64 0, .slice none 0 0]) (t := 57) ?hr ?_; (case hd => rfl); (case hg => rfl); (case hr => exact gs); intro gb313 hg w5 hbox hb; have n_ := ak4 (below_step (bq HB.out) hb) hbox ((by rw [hg]; exact (below_size (bq HB.out)) : w.heap.size ≤ gb313)) ((by rw [hg]; exact (below_size (bq HB.out)) : w.heap.size ≤ gb313)); clear HB; obtain ⟨HB, BK313, GW313, GE313⟩ := n_; clear hb hbox hg) | ((with_reducible refine gate_dst (N := 9) rfl ?_); (try (refine gate_guard (by rfl) ?_; dsimp only)); refine box_event ?hg (N := 9) ?hd (cs := #[.slice A0 l0.length c0, .int .i64 0, .bool false]) (t := 110) ?hr ?_; (case hd => rfl); (case hg => rfl); (case hr => exact gs); intro gb314 hg w6 hbox hb; have n_ := ak7 (blk_below (g := gb313) (o := .cells #[.int .i64 0, .int .i64 0, .int .i64 0, .slice none 0 0] 57 (0, 0)) (zq BK313.out) hb) (below_step (bq1 HB.out GE313.out) hb) hbox ((by rw [hg]; exact (below_size (bq1 HB.out GE313.out)) : w.heap.size ≤ gb314)) ((by rw [hg]; exact (below_size (bq1 HB.out GE313.out)) : w.heap.size ≤ gb314)) ((by rw [hg]; exact Nat.ne_of_lt (blk_lt (g := gb313) (o := .cells #[.int .i64 0, .int .i64 0, .int .i64 0, .slice none 0 0] 57 (0, 0)) (zq BK313.out)) : gb313 ≠ gb314)) ((by rw [hg]; exact Nat.ne_of_gt (blk_lt (g := gb313) (o := .cells #[.int .i64 0, .int .i64 0, .int .i64 0, .slice none 0 0] 57 (0, 0)) (zq BK313.out)) : gb314 ≠ gb313)); clear BK313 HB; obtain ⟨BK313, HB, BK314, GW314, GE314, NB313_314, NB314_313⟩ := n_; clear hb hbox hg) | ((with_reducible refine gate_dst (N := 5) rfl ?_); (try (refine gate_guard (by rfl) ?_; dsimp only)); refine box_event ?hg (N := 5) ?hd (cs := #[.int .i64 0, .int .i64 0, .int .i64 0, .slice none 0 0]) (t := 57) ?hr ?_; (case hd => rfl); (case hg => rfl); (case hr => exact gs); intro gb315 hg w7 hbox hb; have n_ := ak10 (blk_below (g := gb313) (o := .cells #[.int .i64 0, .int .i64 0, .int .i64 0, .slice none 0 0] 57 (0, 0)) (zq BK313.out) hb) (blk_below (g := gb314) (o := .cells #[.slice A0 l0.length c0, .int .i64 0, .bool false] 110 (0, 0)) (zq BK314.out) hb) (below_step (bq2 HB.out GE313.out GE314.out) hb) hbox ((by rw [hg]; exact (below_size (bq2 HB.out GE313.out GE314.out)) : w.heap.size ≤ gb315)) ((by rw [hg]; exact (below_size (bq2 HB.out GE313.out GE314.out)) : w.heap.size ≤ gb315)) ((by rw [hg]; exact Nat.ne_of_lt (blk_lt (g := gb313) (o := .cells #[.int .i64 0, .int .i64 0, .int .i64 0, .slice none 0 0] 57 (0, 0)) (zq BK313.out)) : gb313 ≠ gb315)) ((by rw [hg]; exact Nat.ne_of_gt (blk_lt (g := gb313) (o := .cells #[.int .i64 0, .int .i64 0, .int .i64 0, .slice none 0 0] 57 (0, 0)) (zq BK313.out)) : gb315 ≠ gb313)) ((by rw [hg]; exact Nat.ne_of_lt (blk_lt (g := gb314) (o := .cells #[.slice A0 l0.length c0, .int .i64 0, .bool false] 110 (0, 0)) (zq BK314.out)) : gb314 ≠ gb315)) ((by rw [hg]; exact Nat.ne_of_gt (blk_lt (g := gb314) (o := .cells #[.slice A0 l0.length c0, .int .i64 0, .bool false] 110 (0, 0)) (zq BK314.out)) : gb315 ≠ gb314)); clear BK313 BK314 HB; obtain ⟨BK313, BK314, HB, BK315, GW315, GE315, NB313_315, NB315_313, NB314_315, NB315_314⟩ := n_; clear hb hbox hg; have HI314 := am (show IsS110 w w7 gb314 l0 0 false from ⟨_, _, BK314.out, GE314.out, ⟨HR0.out, HC0.out⟩⟩); clear BK314) | ((with_reducible refine gate_callee (f := 91) rfl ?_); refine goesL_ (some 11) rfl rfl Try.func91 (by kernel_rfl) rfl #[.pointer (some ⟨gb314, 0, none⟩), .int .i64 1] rfl ga ?_; (with_reducible refine (impl_parts_num.calls k gb314 l0 0 false 1 t316 t317 t318 w _ ?side1 ?side2 A2.out).mono ?_); (case side1 => exact IsS110.q2 HI314.out NB314_313.out NB314_315.out); (case side2 => exact bq3 HB.out (IsS110.ge HI314.out) GE313.out GE315.out); rintro e w8 ⟨rfl, hi, hb, hk⟩; refine ⟨_, rfl, ?_⟩; have n_ := ak4 (KeepBut.blk hk (g' := gb313) (o := .cells #[.int .i64 0, .int .i64 0, .int .i64 0, .slice none 0 0] 57 (0, 0)) (zq BK313.out) NB313_314.out (by simp)) (KeepBut.blk hk (g' := gb315) (o := .cells #[.int .i64 0, .int .i64 0, .int .i64 0, .slice none 0 0] 57 (0, 0)) (zq BK315.out) NB315_314.out (by simp)) hb hi; clear BK313 BK315 HB HI314; obtain ⟨BK313, BK315, HB, HI314⟩ := n_; (try clear hb hk hi); have hnb9 := NB315_313.out; have hnc9 := NB313_315.out; have hnb10 := NB315_314.out; have hnc10 := NB314_315.out; have hcz11_0 : w8.cell? ⟨gb315, 0, none⟩ = some (.int .i64 0) := (blk_cell BK315.out 0).trans rfl; have hcz11_1 : w8.cell? ⟨gb315, 1, none⟩ = some (.int .i64 0) := (blk_cell BK315.out 1).trans rfl; have hcz11_2 : w8.cell? ⟨gb315, 2, none⟩ = some (.int .i64 0) := (blk_cell BK315.out 2).trans rfl; have hcz11_3 : w8.cell? ⟨gb315, 3, none⟩ = some (.slice none 0 0) := (blk_cell BK315.out 3).trans rfl; have hfz11_0 := blk_frozen BK315.out 0; have hfz11_1 := blk_frozen BK315.out 1; have hfz11_2 := blk_frozen BK315.out 2; have hfz11_3 := blk_frozen BK315.out 3) | ((with_reducible refine gate_callee (f := 91) rfl ?_); refine goesL_ (some 14) rfl rfl Try.func91 (by kernel_rfl) rfl #[.pointer (some ⟨gb314, 0, none⟩), .int .i64 1] rfl ga ?_; (with_reducible refine (impl_parts_num.calls k gb314 l0 t317 t318 1 t319 t320 t321 w _ ?side1 ?side2 A3.out).mono ?_); (case side1 => exact IsS110.q2 HI314.out NB314_313.out NB314_315.out); (case side2 => exact bq3 HB.out (IsS110.ge HI314.out) GE313.out GE315.out); rintro e w12 ⟨rfl, hi, hb, hk⟩; refine ⟨_, rfl, ?_⟩; have n_ := ak4 (KeepBut.blk hk (g' := gb313) (o := .cells #[.int .i64 0, .int .i64 0, .int .i64 0, .slice none 0 0] 57 (0, 0)) (by (with_reducible repeat (first | refine blk_drewN ?_ _ | refine blk_drew ?_ | refine blk_alloc ?_ _)); refine blk_far ?_ NB313_315.out _; (with_reducible repeat (first | refine blk_drewN ?_ _ | refine blk_drew ?_ | refine blk_alloc ?_ _)); exact BK313.out) NB313_314.out (by simp)) (KeepBut.blk hk (g' := gb315) (o := .cells #[.int .i64 t316, .int .i64 0, .int .i64 0, .slice none 0 0] 57 (0, 0)) (by (with_reducible repeat (first | refine blk_drewN ?_ _ | refine blk_drew ?_ | refine blk_alloc ?_ _)); refine blk_put (cs := #[.int .i64 0, .int .i64 0, .int .i64 0, .slice none 0 0]) ?_ 0 _ rfl; (with_reducible repeat (first | refine blk_drewN ?_ _ | refine blk_drew ?_ | refine blk_alloc ?_ _)); exact BK315.out) NB315_314.out (by simp)) hb hi; clear BK313 BK315 HB HI314; obtain ⟨BK313, BK315, HB, HI314⟩ := n_; (try clear hb hk hi); have hcz13_0 : w12.cell? ⟨gb315, 0, none⟩ = some (.int .i64 t316) := (blk_cell BK315.out 0).trans rfl; have hcz13_1 : w12.cell? ⟨gb315, 1, none⟩ = some (.int .i64 0) := (blk_cell BK315.out 1).trans rfl; have hcz13_2 : w12.cell? ⟨gb315, 2, none⟩ = some (.int .i64 0) := (blk_cell BK315.out 2).trans rfl; have hcz13_3 : w12.cell? ⟨gb315, 3, none⟩ = some (.slice none 0 0) := (blk_cell BK315.out 3).trans rfl; have hfz13_0 := blk_frozen BK315.out 0; have hfz13_1 := blk_frozen BK315.out 1; have hfz13_2 := blk_frozen BK315.out 2; have hfz13_3 := blk_frozen BK315.out 3))
 (try simp only [Act.put, List.setIfInBounds_toArray, List.set_cons_zero, List.set_cons_succ])
 go_cut [39] (fun v39 wc => ∃ (kq : Nat) (x39_3 : Bool), v39 = .bool x39_3 ∧ Aside0 (impl_GetFrame.j0 kq l0 x39_3 l0 t320 t321 t316 t319 0 = some (r1, r2, r3, r4, r5)) ∧ Aside0 (kq ≤ k) ∧ Aside0 (wc.heap[gb313]? = some (.cells #[.int .i64 0, .int .i64 0, .int .i64 0, (.slice none 0 0)] 57 (0, 0))) ∧ Aside0 (wc.heap[gb315]? = some (.cells #[.int .i64 t316, .int .i64 t319, .int .i64 0, (.slice none 0 0)] 57 (0, 0))) ∧ Aside0 (IsS110 w wc gb314 l0 t320 t321) ∧ Aside0 (Below w.heap.size w wc))
 case first =>
  have H := HC4.out
  clear HC4
  by_cases c14 : t321 = true
  · subst c14
    have H1 : (impl_GetFrame.j0 k l0 false l0 t320 true t316 t319 0) = some (r1, r2, r3, r4, r5) := by rw [if_pos rfl] at H; exact H
    clear H
    have H := H1
    clear H1
    have H' := am H
    clear H
    obtain ⟨ASz15_0, cSz15_0, HGz15, hgz15, HSz15_0⟩ := HI314.out
    have hcz15_0 := cellS110_0 HGz15
    have hcz15_1 := cellS110_1 HGz15
    have hcz15_2 := cellS110_2 HGz15
    have hfz15_1 := blk_frozen HGz15 1
    have hfz15_2 := blk_frozen HGz15 2
    clear HGz15 hgz15
    go_wp2
    go_meet
    case rel => exact ⟨_, (false), sq, H', ⟨by first | omega | exact Nat.le_refl _⟩, ⟨by (with_reducible repeat (first | refine blk_drewN ?_ _ | refine blk_drew ?_ | refine blk_alloc ?_ _)); refine blk_far ?_ NB313_315.out _; (with_reducible repeat (first | refine blk_drewN ?_ _ | refine blk_drew ?_ | refine blk_alloc ?_ _)); exact BK313.out⟩, ⟨by (with_reducible repeat (first | refine blk_drewN ?_ _ | refine blk_drew ?_ | refine blk_alloc ?_ _)); refine blk_put (cs := #[.int .i64 t316, .int .i64 0, .int .i64 0, .slice none 0 0]) ?_ 1 _ rfl; (with_reducible repeat (first | refine blk_drewN ?_ _ | refine blk_drew ?_ | refine blk_alloc ?_ _)); exact BK315.out⟩, ⟨IsS110.q2 HI314.out NB314_313.out NB314_315.out⟩, ⟨bq3 HB.out (IsS110.ge HI314.out) GE313.out GE315.out⟩⟩
  replace c14 := Bool.eq_false_iff.mpr c14
  subst c14
  have H1 : (if t320 < (l0.length : Int) then (if 0 ≤ t320 then (impl_GetFrame.j0 k l0 ((rd l0 t320) == 2) l0 t320 false t316 t319 0) else (none)) else (impl_GetFrame.j0 k l0 false l0 t320 false t316 t319 0)) = some (r1, r2, r3, r4, r5) := by rw [if_neg (show ¬ (false = true) by decide)] at H; exact H
  clear H
  have H := H1
  clear H1
  by_cases c16 : t320 < (l0.length : Int)
  · rw [if_pos c16] at H
    have c16b0 : decide (t320 < (l0.length : Int)) = true := decide_eq_true c16
    clear c16
    (first | rw [c16b0] | (simp only [i64_w, i32_w]; rw [c16b0]) | skip)
    by_cases c17 : 0 ≤ t320
    · rw [if_pos c17] at H
      have c17b0 : decide (0 ≤ t320) = true := decide_eq_true c17
      clear c17
      have H' := am H
      clear H
      obtain ⟨ASz18_0, cSz18_0, HGz18, hgz18, HSz18_0⟩ := HI314.out
      have hcz18_0 := cellS110_0 HGz18
      have hcz18_1 := cellS110_1 HGz18
      have hcz18_2 := cellS110_2 HGz18
      have hfz18_1 := blk_frozen HGz18 1
      have hfz18_2 := blk_frozen HGz18 2
      clear HGz18 hgz18
      have p322 : 0 ≤ (t320 : Int) := oda
      have q322 : t320 < (l0.length : Int) := oda
      obtain ⟨ad322, e322, hx322_0⟩ := Kd.at_int HR0.out t320 p322 q322
      cases e322
      have hn322_0 : ad322.block ≠ gb315 := Nat.ne_of_lt (Nat.lt_of_lt_of_le (by have := World.block_lt_of_cell? _ _ hx322_0; first | rwa [add_block] at this | exact this) GW315.out)
      replace hx322_0 := (HB.out.cell (World.block_lt_of_cell? w _ hx322_0)).trans hx322_0
      replace hx322_0 := (cell_far (p := ⟨gb315, 1, none⟩) (by first | (rw [add_block]; exact hn322_0) | (show (Addr.add _ _).block ≠ _; rw [add_block]; exact hn322_0) | exact hn322_0) (.int .i64 t319)).trans hx322_0
      clear hn322_0
      replace p322 := eq_true p322
      replace q322 := eq_true q322
      go_wp2
      go_meet
      case rel => exact ⟨_, (((rd l0 t320) == 2)), sq, H', ⟨by first | omega | exact Nat.le_refl _⟩, ⟨by (with_reducible repeat (first | refine blk_drewN ?_ _ | refine blk_drew ?_ | refine blk_alloc ?_ _)); refine blk_far ?_ NB313_315.out _; (with_reducible repeat (first | refine blk_drewN ?_ _ | refine blk_drew ?_ | refine blk_alloc ?_ _)); exact BK313.out⟩, ⟨by (with_reducible repeat (first | refine blk_drewN ?_ _ | refine blk_drew ?_ | refine blk_alloc ?_ _)); refine blk_put (cs := #[.int .i64 t316, .int .i64 0, .int .i64 0, .slice none 0 0]) ?_ 1 _ rfl; (with_reducible repeat (first | refine blk_drewN ?_ _ | refine blk_drew ?_ | refine blk_alloc ?_ _)); exact BK315.out⟩, ⟨IsS110.q2 HI314.out NB314_313.out NB314_315.out⟩, ⟨bq3 HB.out (IsS110.ge HI314.out) GE313.out GE315.out⟩⟩
    rw [if_neg c17] at H
    exact absurd H (by simp)
  rw [if_neg c16] at H
  have c16b0 : decide (t320 < (l0.length : Int)) = false := decide_eq_false c16
  clear c16
  (first | rw [c16b0] | (simp only [i64_w, i32_w]; rw [c16b0]) | skip)
  have H' := am H
  clear H
  obtain ⟨ASz19_0, cSz19_0, HGz19, hgz19, HSz19_0⟩ := HI314.out
  have hcz19_0 := cellS110_0 HGz19
  have hcz19_1 := cellS110_1 HGz19
  have hcz19_2 := cellS110_2 HGz19
  have hfz19_1 := blk_frozen HGz19 1
  have hfz19_2 := blk_frozen HGz19 2
  clear HGz19 hgz19
  go_wp2
  go_meet
  case rel => exact ⟨_, (false), sq, H', ⟨by first | omega | exact Nat.le_refl _⟩, ⟨by (with_reducible repeat (first | refine blk_drewN ?_ _ | refine blk_drew ?_ | refine blk_alloc ?_ _)); refine blk_far ?_ NB313_315.out _; (with_reducible repeat (first | refine blk_drewN ?_ _ | refine blk_drew ?_ | refine blk_alloc ?_ _)); exact BK313.out⟩, ⟨by (with_reducible repeat (first | refine blk_drewN ?_ _ | refine blk_drew ?_ | refine blk_alloc ?_ _)); refine blk_put (cs := #[.int .i64 t316, .int .i64 0, .int .i64 0, .slice none 0 0]) ?_ 1 _ rfl; (with_reducible repeat (first | refine blk_drewN ?_ _ | refine blk_drew ?_ | refine blk_alloc ?_ _)); exact BK315.out⟩, ⟨IsS110.q2 HI314.out NB314_313.out NB314_315.out⟩, ⟨bq3 HB.out (IsS110.ge HI314.out) GE313.out GE315.out⟩⟩
 case rest =>
  clear HC4
  try clear c1
  try clear p2
  try clear p3
  try clear q3
  try clear hx3
  try clear c4
  try clear c9
  try clear c10
  try clear c14
  try clear c16
  try clear c16b0
  try clear c17
  try clear c17b0
  try clear hcz11_0
  try clear hcz11_1
  try clear hcz11_2
  try clear hcz11_3
  try clear hcz13_0
  try clear hcz13_1
  try clear hcz13_2
  try clear hcz13_3
  try clear hcz15_0
  try clear hcz15_1
  try clear hcz15_2
  try clear hcz18_0
  try clear hcz18_1
  try clear hcz18_2
  try clear hcz19_0
  try clear hcz19_1
  try clear hcz19_2
  try clear hfz11_0
  try clear hfz11_1
  try clear hfz11_2
  try clear hfz11_3
  try clear hfz13_0
  try clear hfz13_1
  try clear hfz13_2
  try clear hfz13_3
  try clear hfz15_1
  try clear hfz15_2
  try clear hfz18_1
  try clear hfz18_2
  try clear hfz19_1
  try clear hfz19_2
  try clear hx322_0
  try clear p322
  try clear q322
  obtain ⟨kq, x39_3, rfl, HA, HJ3, BK313, BK315, HI314, HB⟩ := hcut
  cases kq with
  | zero => exact absurd HA.out (by simp [impl_GetFrame.j0])
  | succ kj3 =>
   have H := HA.out
   clear HA
   simp only [impl_GetFrame.j0] at H
   have HC20 := am H
   clear H
   go_upto_if 39 with (fail)
   go_cut [] (fun wc => ∃ (kq : Nat) (x315001_19 : Int) (x315002_19 : Bool) (x316002_19 : Int), Aside0 (impl_GetFrame.j1 kq l0 l0 x315001_19 x315002_19 t316 t319 x316002_19 = some (r1, r2, r3, r4, r5)) ∧ Aside0 (kq ≤ kj3) ∧ Aside0 (wc.heap[gb313]? = some (.cells #[.int .i64 0, .int .i64 0, .int .i64 0, (.slice none 0 0)] 57 (0, 0))) ∧ Aside0 (wc.heap[gb315]? = some (.cells #[.int .i64 t316, .int .i64 t319, .int .i64 x316002_19, (.slice none 0 0)] 57 (0, 0))) ∧ Aside0 (IsS110 w wc gb314 l0 x315001_19 x315002_19) ∧ Aside0 (Below w.heap.size w wc))
   case first =>
    have H := HC20.out
    clear HC20
    by_cases c21 : x39_3 = true
    · subst c21
      have H1 : ((impl_parts_num.f kj3 l0 t320 t321 2).bind fun bt323 => (impl_GetFrame.j1 kj3 l0 l0 bt323.2.1 bt323.2.2 t316 t319 bt323.1)) = some (r1, r2, r3, r4, r5) := by rw [if_pos rfl] at H; exact H
      clear H
      have H := H1
      clear H1
      replace H := Option.bind_eq_some_iff.mp H
      obtain ⟨⟨t323, t324, t325⟩, A220, H⟩ := H
      replace H : (impl_GetFrame.j1 kj3 l0 l0 t324 t325 t316 t319 t323) = some (r1, r2, r3, r4, r5) := H
      have A22 := am A220
      clear A220
      have H' := am H
      clear H
      go_wp2_with (first | ((with_reducible refine gate_callee (f := 91) rfl ?_); refine goesL_ (some 41) rfl rfl Try.func91 (by kernel_rfl) rfl #[.pointer (some ⟨gb314, 0, none⟩), .int .i64 2] rfl ga ?_; (with_reducible refine (impl_parts_num.calls kj3 gb314 l0 t320 t321 2 t323 t324 t325 w _ ?side1 ?side2 A22.out).mono ?_); (case side1 => exact IsS110.q2 HI314.out NB314_313.out NB314_315.out); (case side2 => exact bq3 HB.out (IsS110.ge HI314.out) GE313.out GE315.out); rintro e w23 ⟨rfl, hi, hb, hk⟩; refine ⟨_, rfl, ?_⟩; have n_ := ak4 (KeepBut.blk hk (g' := gb313) (o := .cells #[.int .i64 0, .int .i64 0, .int .i64 0, .slice none 0 0] 57 (0, 0)) (zq BK313.out) NB313_314.out (by simp)) (KeepBut.blk hk (g' := gb315) (o := .cells #[.int .i64 t316, .int .i64 t319, .int .i64 0, .slice none 0 0] 57 (0, 0)) (zq BK315.out) NB315_314.out (by simp)) hb hi; clear BK313 BK315 HB HI314; obtain ⟨BK313, BK315, HB, HI314⟩ := n_; (try clear hb hk hi); have hnb24 := NB315_313.out; have hnc24 := NB313_315.out; have hnb25 := NB315_314.out; have hnc25 := NB314_315.out; have hcz26_0 : w23.cell? ⟨gb315, 0, none⟩ = some (.int .i64 t316) := (blk_cell BK315.out 0).trans rfl; have hcz26_1 : w23.cell? ⟨gb315, 1, none⟩ = some (.int .i64 t319) := (blk_cell BK315.out 1).trans rfl; have hcz26_2 : w23.cell? ⟨gb315, 2, none⟩ = some (.int .i64 0) := (blk_cell BK315.out 2).trans rfl; have hcz26_3 : w23.cell? ⟨gb315, 3, none⟩ = some (.slice none 0 0) := (blk_cell BK315.out 3).trans rfl; have hfz26_0 := blk_frozen BK315.out 0; have hfz26_1 := blk_frozen BK315.out 1; have hfz26_2 := blk_frozen BK315.out 2; have hfz26_3 := blk_frozen BK315.out 3))
      go_meet
      case rel => exact ⟨_, (t324), (t325), (t323), H', ⟨by have := HJ3.out; first | omega | exact Nat.le_refl _⟩, ⟨by (with_reducible repeat (first | refine blk_drewN ?_ _ | refine blk_drew ?_ | refine blk_alloc ?_ _)); refine blk_far ?_ NB313_315.out _; (with_reducible repeat (first | refine blk_drewN ?_ _ | refine blk_drew ?_ | refine blk_alloc ?_ _)); exact BK313.out⟩, ⟨by (with_reducible repeat (first | refine blk_drewN ?_ _ | refine blk_drew ?_ | refine blk_alloc ?_ _)); refine blk_put (cs := #[.int .i64 t316, .int .i64 t319, .int .i64 0, .slice none 0 0]) ?_ 2 _ rfl; (with_reducible repeat (first | refine blk_drewN ?_ _ | refine blk_drew ?_ | refine blk_alloc ?_ _)); exact BK315.out⟩, ⟨IsS110.q2 HI314.out NB314_313.out NB314_315.out⟩, ⟨bq3 HB.out (IsS110.ge HI314.out) GE313.out GE315.out⟩⟩
    replace c21 := Bool.eq_false_iff.mpr c21
    subst c21
    have H1 : (impl_GetFrame.j1 kj3 l0 l0 t320 t321 t316 t319 0) = some (r1, r2, r3, r4, r5) := by rw [if_neg (show ¬ (false = true) by decide)] at H; exact H
    clear H
    have H := H1
    clear H1
    have H' := am H
    clear H
    go_wp2
    go_meet
    case rel => exact ⟨_, (t320), (t321), (0), H', ⟨by have := HJ3.out; first | omega | exact Nat.le_refl _⟩, ⟨zq BK313.out⟩, ⟨zq BK315.out⟩, ⟨IsS110.q2 HI314.out NB314_313.out NB314_315.out⟩, ⟨bq3 HB.out (IsS110.ge HI314.out) GE313.out GE315.out⟩⟩
   case rest =>
    clear HC20
    try clear c1
    try clear c2
    try clear p2
    try clear p3
    try clear q3
    try clear hx3
    try clear c4
    try clear c9
    try clear c10
    try clear c14
    try clear c16
    try clear c16b0
    try clear c17
    try clear c17b0
    try clear c21
    try clear c24
    try clear c25
    try clear hcz11_0
    try clear hcz11_1
    try clear hcz11_2
    try clear hcz11_3
    try clear hcz13_0
    try clear hcz13_1
    try clear hcz13_2
    try clear hcz13_3
    try clear hcz15_0
    try clear hcz15_1
    try clear hcz15_2
    try clear hcz18_0
    try clear hcz18_1
    try clear hcz18_2
    try clear hcz19_0
    try clear hcz19_1
    try clear hcz19_2
    try clear hcz26_0
    try clear hcz26_1
    try clear hcz26_2
    try clear hcz26_3
    try clear hfz11_0
    try clear hfz11_1
    try clear hfz11_2
    try clear hfz11_3
    try clear hfz13_0
    try clear hfz13_1
    try clear hfz13_2
    try clear hfz13_3
    try clear hfz15_1
    try clear hfz15_2
    try clear hfz18_1
    try clear hfz18_2
    try clear hfz19_1
    try clear hfz19_2
    try clear hfz26_0
    try clear hfz26_1
    try clear hfz26_2
    try clear hfz26_3
    try clear hx322_0
    try clear p2
    try clear p3
    try clear p322
    try clear q3
    try clear q322
    obtain ⟨kq, x315001_19, x315002_19, x316002_19, HA, HJ19, BK313, BK315, HI314, HB⟩ := hcut
    cases kq with
    | zero => exact absurd HA.out (by simp [impl_GetFrame.j1])
    | succ kj19 =>
     have H := HA.out
     clear HA
     simp only [impl_GetFrame.j1] at H
     replace H := Option.bind_eq_some_iff.mp H
     obtain ⟨⟨t326, t329, t330⟩, A270, H⟩ := H
     replace H : ((impl_PutFrame.f kj19 t316 t319 x316002_19 t326).bind fun t331 => ((impl_parts_done.f l0 t329 t330).bind fun bt334 => (if bt334.1 = true then (if (t331.length : Int) = 0 then (some (0, 0, 0, ([] : List Int), false)) else (if (strOfNums t331).toList = (strOfNums l0).toList then (some (t316, t319, x316002_19, t326, true)) else (some (0, 0, 0, ([] : List Int), false)))) else (some (0, 0, 0, ([] : List Int), false))))) = some (r1, r2, r3, r4, r5) := H
     have A27 := am A270
     clear A270
     replace H := Option.bind_eq_some_iff.mp H
     obtain ⟨t331, A280, H⟩ := H
     replace H : ((impl_parts_done.f l0 t329 t330).bind fun bt334 => (if bt334.1 = true then (if (t331.length : Int) = 0 then (some (0, 0, 0, ([] : List Int), false)) else (if (strOfNums t331).toList = (strOfNums l0).toList then (some (t316, t319, x316002_19, t326, true)) else (some (0, 0, 0, ([] : List Int), false)))) else (some (0, 0, 0, ([] : List Int), false)))) = some (r1, r2, r3, r4, r5) := H
     have A28 := am A280
     clear A280
     replace H := Option.bind_eq_some_iff.mp H
     obtain ⟨⟨t334, t335, t336⟩, A290, H⟩ := H
     replace H : (if t334 = true then (if (t331.length : Int) = 0 then (some (0, 0, 0, ([] : List Int), false)) else (if (strOfNums t331).toList = (strOfNums l0).toList then (some (t316, t319, x316002_19, t326, true)) else (some (0, 0, 0, ([] : List Int), false)))) else (some (0, 0, 0, ([] : List Int), false))) = some (r1, r2, r3, r4, r5) := H
     have A29 := am A290
     clear A290
     by_cases c30 : t334 = true
     · subst c30
       have H1 : (if (t331.length : Int) = 0 then (some (0, 0, 0, ([] : List Int), false)) else (if (strOfNums t331).toList = (strOfNums l0).toList then (some (t316, t319, x316002_19, t326, true)) else (some (0, 0, 0, ([] : List Int), false)))) = some (r1, r2, r3, r4, r5) := by rw [if_pos rfl] at H; exact H
       clear H
       have H := H1
       clear H1
       by_cases c31 : (t331.length : Int) = 0
       · rw [if_pos c31] at H
         have c31b0 : ((t331.length : Int) == 0) = true := beq_iff_eq.mpr c31
         have c31b1 : ((t331.length : Int) != 0) = false := bne_eq_false_iff_eq.mpr c31
         clear c31
         simp only [Option.some.injEq, Prod.mk.injEq] at H
         obtain ⟨rfl, rfl, rfl, rfl, rfl⟩ := H
         go_wp2_with (first | ((with_reducible refine gate_callee (f := 97) rfl ?_); refine goesL_ (some 44) rfl rfl Try.func97 (by kernel_rfl) rfl #[.pointer (some ⟨gb314, 0, none⟩), .int .i64 3] rfl ga ?_; (with_reducible refine (impl_parts_part.calls kj19 gb314 l0 x315001_19 x315002_19 3 t326 t329 t330 w _ ?side1 ?side2 A27.out).mono ?_); (case side1 => exact IsS110.q2 HI314.out NB314_313.out NB314_315.out); (case side2 => exact bq3 HB.out (IsS110.ge HI314.out) GE313.out GE315.out); rintro e w32 ⟨v327, rfl, ho0, hi, hb, hk⟩; refine ⟨_, rfl, ?_⟩; have n_ := ak5 (KeepBut.blk hk (g' := gb313) (o := .cells #[.int .i64 0, .int .i64 0, .int .i64 0, .slice none 0 0] 57 (0, 0)) (zq BK313.out) NB313_314.out (by simp)) (KeepBut.blk hk (g' := gb315) (o := .cells #[.int .i64 t316, .int .i64 t319, .int .i64 x316002_19, .slice none 0 0] 57 (0, 0)) (zq BK315.out) NB315_314.out (by simp)) (Kd.R_lower ho0 (below_size (bq3 HB.out (IsS110.ge HI314.out) GE313.out GE315.out))) hb hi; clear BK313 BK315 HB HI314; obtain ⟨BK313, BK315, HO328, HB, HI314⟩ := n_; (try clear hb hk hi ho0); obtain ⟨Ao33, co33, eo33⟩ := Kd.R_slice HO328.out; subst eo33; have hnb34 := NB315_313.out; have hnc34 := NB313_315.out; have hnb35 := NB315_314.out; have hnc35 := NB314_315.out; have hcz36_0 : w32.cell? ⟨gb315, 0, none⟩ = some (.int .i64 t316) := (blk_cell BK315.out 0).trans rfl; have hcz36_1 : w32.cell? ⟨gb315, 1, none⟩ = some (.int .i64 t319) := (blk_cell BK315.out 1).trans rfl; have hcz36_2 : w32.cell? ⟨gb315, 2, none⟩ = some (.int .i64 x316002_19) := (blk_cell BK315.out 2).trans rfl; have hcz36_3 : w32.cell? ⟨gb315, 3, none⟩ = some (.slice none 0 0) := (blk_cell BK315.out 3).trans rfl; have hfz36_0 := blk_frozen BK315.out 0; have hfz36_1 := blk_frozen BK315.out 1; have hfz36_2 := blk_frozen BK315.out 2; have hfz36_3 := blk_frozen BK315.out 3) | ((with_reducible refine gate_callee (f := 98) rfl ?_); refine goesL_ (some 47) rfl rfl Try.func98 (by kernel_rfl) rfl #[.agg #[.int .i64 t316, .int .i64 t319, .int .i64 x316002_19, .slice Ao33 t326.length co33]] rfl ga ?_; (with_reducible refine (impl_PutFrame.calls kj19 t316 t319 x316002_19 _ _ t326 t331 _ ?side1 ?side2 A28.out).mono ?_); (case side1 => refine (Kd.R_reads' (e := 5) (base := w.heap.size) (ok := fun k_ => True) (n := t326.length) (c := co33) ?_).2.2; exact (by (with_reducible repeat (first | apply Kd.R_alloc | apply Kd.R_drewN | apply Kd.R_drew)); exact (Kd.R_mono (Kd.R_far (p := ⟨gb315, 3, none⟩) (Kd.R_types HO328.out BK315.out (by decide)) (fun _ hk => hk.2) (.slice Ao33 t326.length co33)) (fun _ h_ => h_.1)))); (case side2 => exact (Kd.R_reads' HO328.out).2.1); rintro e w37 ⟨v332, rfl, ho0, hb⟩; refine ⟨_, rfl, ?_⟩; have n_ := ak6 (Kd.R_elder' (by (with_reducible repeat (first | apply Kd.R_alloc | apply Kd.R_drewN | apply Kd.R_drew)); exact (Kd.R_mono (Kd.R_far (p := ⟨gb315, 3, none⟩) (Kd.R_types HO328.out BK315.out (by decide)) (fun _ hk => hk.2) (.slice Ao33 t326.length co33)) (fun _ h_ => h_.1))) (Kd.R_base ho0) hb) (Kd.R_lower (Kd.R_new' ho0 (Kd.R_lt (by (with_reducible repeat (first | apply Kd.R_alloc | apply Kd.R_drewN | apply Kd.R_drew)); exact (Kd.R_mono (Kd.R_far (p := ⟨gb315, 3, none⟩) (Kd.R_types HO328.out BK315.out (by decide)) (fun _ hk => hk.2) (.slice Ao33 t326.length co33)) (fun _ h_ => h_.1))))) (below_size (bq3 HB.out (IsS110.ge HI314.out) GE313.out GE315.out))) (blk_below (g := gb313) (o := .cells #[.int .i64 0, .int .i64 0, .int .i64 0, .slice none 0 0] 57 (0, 0)) (by (with_reducible repeat (first | refine blk_drewN ?_ _ | refine blk_drew ?_ | refine blk_alloc ?_ _)); refine blk_far ?_ NB313_315.out _; (with_reducible repeat (first | refine blk_drewN ?_ _ | refine blk_drew ?_ | refine blk_alloc ?_ _)); exact BK313.out) hb) (blk_below (g := gb315) (o := .cells #[.int .i64 t316, .int .i64 t319, .int .i64 x316002_19, .slice Ao33 t326.length co33] 57 (0, 0)) (by (with_reducible repeat (first | refine blk_drewN ?_ _ | refine blk_drew ?_ | refine blk_alloc ?_ _)); refine blk_put (cs := #[.int .i64 t316, .int .i64 t319, .int .i64 x316002_19, .slice none 0 0]) ?_ 3 _ rfl; (with_reducible repeat (first | refine blk_drewN ?_ _ | refine blk_drew ?_ | refine blk_alloc ?_ _)); exact BK315.out) hb) (IsS110.below (show IsS110 w (w32.setCell ⟨gb315, 3, none⟩ (.slice Ao33 t326.length co33)) gb314 l0 t329 t330 from IsS110.q2 HI314.out NB314_313.out NB314_315.out) hb) (below_step (bq3 HB.out (IsS110.ge HI314.out) GE313.out GE315.out) hb); clear HO328 BK313 BK315 HI314 HB; obtain ⟨HO328, HO333, BK313, BK315, HI314, HB⟩ := n_; (try clear hb ho0)) | ((with_reducible refine gate_callee (f := 92) rfl ?_); refine goesL_ (some 49) rfl rfl Try.func92 (by kernel_rfl) rfl #[.pointer (some ⟨gb314, 0, none⟩)] rfl ga ?_; (with_reducible refine (impl_parts_done.calls gb314 l0 t329 t330 true t335 t336 w _ ?side1 ?side2 A29.out).mono ?_); (case side1 => exact IsS110.q2 HI314.out NB314_313.out NB314_315.out); (case side2 => exact bq3 HB.out (IsS110.ge HI314.out) GE313.out GE315.out); rintro e w38 ⟨rfl, hi, hb, hk⟩; refine ⟨_, rfl, ?_⟩; have n_ := ak6 (KeepBut.blk hk (g' := gb313) (o := .cells #[.int .i64 0, .int .i64 0, .int .i64 0, .slice none 0 0] 57 (0, 0)) (zq BK313.out) NB313_314.out (by simp)) (KeepBut.blk hk (g' := gb315) (o := .cells #[.int .i64 t316, .int .i64 t319, .int .i64 x316002_19, .slice Ao33 t326.length co33] 57 (0, 0)) (zq BK315.out) NB315_314.out (by simp)) (Kd.R_mono (Kd.R_keep (IsS110.apart (show IsS110 w _ gb314 l0 t329 t330 from IsS110.q2 HI314.out NB314_313.out NB314_315.out) (kqR HO328.out) (by decide)) hk (fun _ h => h.2)) (fun _ h => h.1)) (Kd.R_mono (Kd.R_keep (IsS110.apart (show IsS110 w _ gb314 l0 t329 t330 from IsS110.q2 HI314.out NB314_313.out NB314_315.out) (kqR HO333.out) (by decide)) hk (fun _ h => h.2)) (fun _ h => h.1)) hb hi; clear BK313 BK315 HO328 HO333 HB HI314; obtain ⟨BK313, BK315, HO328, HO333, HB, HI314⟩ := n_; (try clear hb hk hi); obtain ⟨Ao39, co39, eo39⟩ := Kd.R_slice HO333.out; subst eo39; have hnb40 := NB313_314.out; have hnc40 := NB314_313.out; have hcz41_0 : w38.cell? ⟨gb313, 0, none⟩ = some (.int .i64 0) := (blk_cell BK313.out 0).trans rfl; have hcz41_1 : w38.cell? ⟨gb313, 1, none⟩ = some (.int .i64 0) := (blk_cell BK313.out 1).trans rfl; have hcz41_2 : w38.cell? ⟨gb313, 2, none⟩ = some (.int .i64 0) := (blk_cell BK313.out 2).trans rfl; have hcz41_3 : w38.cell? ⟨gb313, 3, none⟩ = some (.slice none 0 0) := (blk_cell BK313.out 3).trans rfl; have hfz41_0 := blk_frozen BK313.out 0; have hfz41_1 := blk_frozen BK313.out 1; have hfz41_2 := blk_frozen BK313.out 2; have hfz41_3 := blk_frozen BK313.out 3) | ((with_reducible refine gate_store (t := 57) (p := 2) rfl ?_); refine store_event (t := 57) (p := 2) (v := ?vo_w42) (w1 := ((((w38.setCell ⟨gb313, 0, none⟩ (.int .i64 0)).setCell ⟨gb313, 1, none⟩ (.int .i64 0)).setCell ⟨gb313, 2, none⟩ (.int .i64 0)).setCell ⟨gb313, 3, none⟩ (.slice none 0 0))) ?hg ?ho ?hn ?hr ?_; (case ho => rfl); (case hg => rfl); (case hn => rfl); (case hr => exact gs); intro w42 hw; have n0_ : Aside0 (Kd.R (Kd.int .u8) 5 w42 w.heap.size (fun k_ => some k_ ≠ (.slice Ao39 t331.length co39 : Value).ownBlock) (.slice Ao33 t326.length co33) t326) := ⟨(by rw [hw]; exact (by (with_reducible repeat (first | apply Kd.R_alloc | apply Kd.R_drewN | apply Kd.R_drew)); exact Kd.R_mono (Kd.R_far (p := ⟨gb313, 3, none⟩) (Kd.R_far (p := ⟨gb313, 2, none⟩) (Kd.R_far (p := ⟨gb313, 1, none⟩) (Kd.R_far (p := ⟨gb313, 0, none⟩) (Kd.R_types HO328.out BK313.out (by decide)) (fun _ hk => hk.2) (.int .i64 0)) (fun _ hk => hk.2) (.int .i64 0)) (fun _ hk => hk.2) (.int .i64 0)) (fun _ hk => hk.2) (.slice none 0 0)) (fun _ hk => hk.1.2)))⟩; have n1_ : Aside0 (Kd.R (Kd.int .u8) 5 w42 w.heap.size (fun k_ => some k_ ≠ (.slice Ao33 t326.length co33 : Value).ownBlock) (.slice Ao39 t331.length co39) t331) := ⟨(by rw [hw]; exact (by (with_reducible repeat (first | apply Kd.R_alloc | apply Kd.R_drewN | apply Kd.R_drew)); exact Kd.R_mono (Kd.R_far (p := ⟨gb313, 3, none⟩) (Kd.R_far (p := ⟨gb313, 2, none⟩) (Kd.R_far (p := ⟨gb313, 1, none⟩) (Kd.R_far (p := ⟨gb313, 0, none⟩) (Kd.R_types HO333.out BK313.out (by decide)) (fun _ hk => hk.2) (.int .i64 0)) (fun _ hk => hk.2) (.int .i64 0)) (fun _ hk => hk.2) (.int .i64 0)) (fun _ hk => hk.2) (.slice none 0 0)) (fun _ hk => hk.1.2)))⟩; have n2_ : Aside0 (w42.heap[gb313]? = some (.cells #[.int .i64 0, .int .i64 0, .int .i64 0, .slice none 0 0] 57 (0, 0))) := ⟨(by rw [hw]; exact (by (with_reducible repeat (first | refine blk_drewN ?_ _ | refine blk_drew ?_ | refine blk_alloc ?_ _)); refine blk_put (cs := #[.int .i64 0, .int .i64 0, .int .i64 0, .slice none 0 0]) ?_ 3 _ rfl; (with_reducible repeat (first | refine blk_drewN ?_ _ | refine blk_drew ?_ | refine blk_alloc ?_ _)); refine blk_put (cs := #[.int .i64 0, .int .i64 0, .int .i64 0, .slice none 0 0]) ?_ 2 _ rfl; (with_reducible repeat (first | refine blk_drewN ?_ _ | refine blk_drew ?_ | refine blk_alloc ?_ _)); refine blk_put (cs := #[.int .i64 0, .int .i64 0, .int .i64 0, .slice none 0 0]) ?_ 1 _ rfl; (with_reducible repeat (first | refine blk_drewN ?_ _ | refine blk_drew ?_ | refine blk_alloc ?_ _)); refine blk_put (cs := #[.int .i64 0, .int .i64 0, .int .i64 0, .slice none 0 0]) ?_ 0 _ rfl; (with_reducible repeat (first | refine blk_drewN ?_ _ | refine blk_drew ?_ | refine blk_alloc ?_ _)); exact BK313.out))⟩; have n3_ : Aside0 (w42.heap[gb315]? = some (.cells #[.int .i64 t316, .int .i64 t319, .int .i64 x316002_19, .slice Ao33 t326.length co33] 57 (0, 0))) := ⟨(by rw [hw]; exact (by (with_reducible repeat (first | refine blk_drewN ?_ _ | refine blk_drew ?_ | refine blk_alloc ?_ _)); refine blk_far ?_ NB315_313.out _; (with_reducible repeat (first | refine blk_drewN ?_ _ | refine blk_drew ?_ | refine blk_alloc ?_ _)); refine blk_far ?_ NB315_313.out _; (with_reducible repeat (first | refine blk_drewN ?_ _ | refine blk_drew ?_ | refine blk_alloc ?_ _)); refine blk_far ?_ NB315_313.out _; (with_reducible repeat (first | refine blk_drewN ?_ _ | refine blk_drew ?_ | refine blk_alloc ?_ _)); refine blk_far ?_ NB315_313.out _; (with_reducible repeat (first | refine blk_drewN ?_ _ | refine blk_drew ?_ | refine blk_alloc ?_ _)); exact BK315.out))⟩; have n4_ : Aside0 (IsS110 w w42 gb314 l0 t335 t336) := ⟨(by rw [hw]; exact (IsS110.q2 HI314.out NB314_313.out NB314_315.out))⟩; have n5_ : Aside0 (Below w.heap.size w w42) := ⟨(by rw [hw]; exact (bq3 HB.out (IsS110.ge HI314.out) GE313.out GE315.out))⟩; clear hw; clear HO328; clear HO333; clear BK313; clear BK315; clear HI314; clear HB; have HO328 := n0_; have HO333 := n1_; have BK313 := n2_; have BK315 := n3_; have HI314 := n4_; have HB := n5_; clear n0_ n1_ n2_ n3_ n4_ n5_))
         refine bodyPost_ret (results_ct rfl _ _ gb313 57 #[.int .i64 0, .int .i64 0, .int .i64 0, .slice none 0 0] (0, 0) _ rfl (zq BK313.out) Try.underlying57 rfl (by kernel_rfl)) rfl ?_
         exact ⟨_, rq, by first | exact Kd.R_nil _ _ _ _ _ | exact Kd.N_nil _ _ _ _ _ | exact Kd.V_nil _ _ _ _ _ | exact Kd.Q_nil _ _ _ _ _ | exact Kd.S_nil _ _ _ _ _, bq3 HB.out (IsS110.ge HI314.out) GE313.out GE315.out⟩
       rw [if_neg c31] at H
       have c31b0 : ((t331.length : Int) == 0) = false := beq_eq_false_iff_ne.mpr c31
       have c31b1 : ((t331.length : Int) != 0) = true := bne_iff_ne.mpr c31
       have c31b2 : ¬ (t331 = []) := fun h_ => c31 (by rw [h_]; rfl)
       by_cases c43 : (strOfNums t331).toList = (strOfNums l0).toList
       · rw [if_pos c43] at H
         have c43b0 : ((strOfNums t331).toList == (strOfNums l0).toList) = true := beq_iff_eq.mpr c43
         have c43b1 : ((strOfNums t331).toList != (strOfNums l0).toList) = false := bne_eq_false_iff_eq.mpr c43
         clear c43
         simp only [Option.some.injEq, Prod.mk.injEq] at H
         obtain ⟨rfl, rfl, rfl, rfl, rfl⟩ := H
         go_wp2_with (first | ((with_reducible refine gate_callee (f := 97) rfl ?_); refine goesL_ (some 44) rfl rfl Try.func97 (by kernel_rfl) rfl #[.pointer (some ⟨gb314, 0, none⟩), .int .i64 3] rfl ga ?_; (with_reducible refine (impl_parts_part.calls kj19 gb314 l0 x315001_19 x315002_19 3 t326 t329 t330 w _ ?side1 ?side2 A27.out).mono ?_); (case side1 => exact IsS110.q2 HI314.out NB314_313.out NB314_315.out); (case side2 => exact bq3 HB.out (IsS110.ge HI314.out) GE313.out GE315.out); rintro e w44 ⟨v327, rfl, ho0, hi, hb, hk⟩; refine ⟨_, rfl, ?_⟩; have n_ := ak5 (KeepBut.blk hk (g' := gb313) (o := .cells #[.int .i64 0, .int .i64 0, .int .i64 0, .slice none 0 0] 57 (0, 0)) (zq BK313.out) NB313_314.out (by simp)) (KeepBut.blk hk (g' := gb315) (o := .cells #[.int .i64 t316, .int .i64 t319, .int .i64 x316002_19, .slice none 0 0] 57 (0, 0)) (zq BK315.out) NB315_314.out (by simp)) (Kd.R_lower ho0 (below_size (bq3 HB.out (IsS110.ge HI314.out) GE313.out GE315.out))) hb hi; clear BK313 BK315 HB HI314; obtain ⟨BK313, BK315, HO328, HB, HI314⟩ := n_; (try clear hb hk hi ho0); obtain ⟨Ao45, co45, eo45⟩ := Kd.R_slice HO328.out; subst eo45; have hnb46 := NB315_313.out; have hnc46 := NB313_315.out; have hnb47 := NB315_314.out; have hnc47 := NB314_315.out; have hcz48_0 : w44.cell? ⟨gb315, 0, none⟩ = some (.int .i64 t316) := (blk_cell BK315.out 0).trans rfl; have hcz48_1 : w44.cell? ⟨gb315, 1, none⟩ = some (.int .i64 t319) := (blk_cell BK315.out 1).trans rfl; have hcz48_2 : w44.cell? ⟨gb315, 2, none⟩ = some (.int .i64 x316002_19) := (blk_cell BK315.out 2).trans rfl; have hcz48_3 : w44.cell? ⟨gb315, 3, none⟩ = some (.slice none 0 0) := (blk_cell BK315.out 3).trans rfl; have hfz48_0 := blk_frozen BK315.out 0; have hfz48_1 := blk_frozen BK315.out 1; have hfz48_2 := blk_frozen BK315.out 2; have hfz48_3 := blk_frozen BK315.out 3) | ((with_reducible refine gate_callee (f := 98) rfl ?_); refine goesL_ (some 47) rfl rfl Try.func98 (by kernel_rfl) rfl #[.agg #[.int .i64 t316, .int .i64 t319, .int .i64 x316002_19, .slice Ao45 t326.length co45]] rfl ga ?_; (with_reducible refine (impl_PutFrame.calls kj19 t316 t319 x316002_19 _ _ t326 t331 _ ?side1 ?side2 A28.out).mono ?_); (case side1 => refine (Kd.R_reads' (e := 5) (base := w.heap.size) (ok := fun k_ => True) (n := t326.length) (c := co45) ?_).2.2; exact (by (with_reducible repeat (first | apply Kd.R_alloc | apply Kd.R_drewN | apply Kd.R_drew)); exact (Kd.R_mono (Kd.R_far (p := ⟨gb315, 3, none⟩) (Kd.R_types HO328.out BK315.out (by decide)) (fun _ hk => hk.2) (.slice Ao45 t326.length co45)) (fun _ h_ => h_.1)))); (case side2 => exact (Kd.R_reads' HO328.out).2.1); rintro e w49 ⟨v332, rfl, ho0, hb⟩; refine ⟨_, rfl, ?_⟩; have n_ := ak6 (Kd.R_elder' (by (with_reducible repeat (first | apply Kd.R_alloc | apply Kd.R_drewN | apply Kd.R_drew)); exact (Kd.R_mono (Kd.R_far (p := ⟨gb315, 3, none⟩) (Kd.R_types HO328.out BK315.out (by decide)) (fun _ hk => hk.2) (.slice Ao45 t326.length co45)) (fun _ h_ => h_.1))) (Kd.R_base ho0) hb) (Kd.R_lower (Kd.R_new' ho0 (Kd.R_lt (by (with_reducible repeat (first | apply Kd.R_alloc | apply Kd.R_drewN | apply Kd.R_drew)); exact (Kd.R_mono (Kd.R_far (p := ⟨gb315, 3, none⟩) (Kd.R_types HO328.out BK315.out (by decide)) (fun _ hk => hk.2) (.slice Ao45 t326.length co45)) (fun _ h_ => h_.1))))) (below_size (bq3 HB.out (IsS110.ge HI314.out) GE313.out GE315.out))) (blk_below (g := gb313) (o := .cells #[.int .i64 0, .int .i64 0, .int .i64 0, .slice none 0 0] 57 (0, 0)) (by (with_reducible repeat (first | refine blk_drewN ?_ _ | refine blk_drew ?_ | refine blk_alloc ?_ _)); refine blk_far ?_ NB313_315.out _; (with_reducible repeat (first | refine blk_drewN ?_ _ | refine blk_drew ?_ | refine blk_alloc ?_ _)); exact BK313.out) hb) (blk_below (g := gb315) (o := .cells #[.int .i64 t316, .int .i64 t319, .int .i64 x316002_19, .slice Ao45 t326.length co45] 57 (0, 0)) (by (with_reducible repeat (first | refine blk_drewN ?_ _ | refine blk_drew ?_ | refine blk_alloc ?_ _)); refine blk_put (cs := #[.int .i64 t316, .int .i64 t319, .int .i64 x316002_19, .slice none 0 0]) ?_ 3 _ rfl; (with_reducible repeat (first | refine blk_drewN ?_ _ | refine blk_drew ?_ | refine blk_alloc ?_ _)); exact BK315.out) hb) (IsS110.below (show IsS110 w (w44.setCell ⟨gb315, 3, none⟩ (.slice Ao45 t326.length co45)) gb314 l0 t329 t330 from IsS110.q2 HI314.out NB314_313.out NB314_315.out) hb) (below_step (bq3 HB.out (IsS110.ge HI314.out) GE313.out GE315.out) hb); clear HO328 BK313 BK315 HI314 HB; obtain ⟨HO328, HO333, BK313, BK315, HI314, HB⟩ := n_; (try clear hb ho0)) | ((with_reducible refine gate_callee (f := 92) rfl ?_); refine goesL_ (some 49) rfl rfl Try.func92 (by kernel_rfl) rfl #[.pointer (some ⟨gb314, 0, none⟩)] rfl ga ?_; (with_reducible refine (impl_parts_done.calls gb314 l0 t329 t330 true t335 t336 w _ ?side1 ?side2 A29.out).mono ?_); (case side1 => exact IsS110.q2 HI314.out NB314_313.out NB314_315.out); (case side2 => exact bq3 HB.out (IsS110.ge HI314.out) GE313.out GE315.out); rintro e w50 ⟨rfl, hi, hb, hk⟩; refine ⟨_, rfl, ?_⟩; have n_ := ak6 (KeepBut.blk hk (g' := gb313) (o := .cells #[.int .i64 0, .int .i64 0, .int .i64 0, .slice none 0 0] 57 (0, 0)) (zq BK313.out) NB313_314.out (by simp)) (KeepBut.blk hk (g' := gb315) (o := .cells #[.int .i64 t316, .int .i64 t319, .int .i64 x316002_19, .slice Ao45 t326.length co45] 57 (0, 0)) (zq BK315.out) NB315_314.out (by simp)) (Kd.R_mono (Kd.R_keep (IsS110.apart (show IsS110 w _ gb314 l0 t329 t330 from IsS110.q2 HI314.out NB314_313.out NB314_315.out) (kqR HO328.out) (by decide)) hk (fun _ h => h.2)) (fun _ h => h.1)) (Kd.R_mono (Kd.R_keep (IsS110.apart (show IsS110 w _ gb314 l0 t329 t330 from IsS110.q2 HI314.out NB314_313.out NB314_315.out) (kqR HO333.out) (by decide)) hk (fun _ h => h.2)) (fun _ h => h.1)) hb hi; clear BK313 BK315 HO328 HO333 HB HI314; obtain ⟨BK313, BK315, HO328, HO333, HB, HI314⟩ := n_; (try clear hb hk hi); obtain ⟨Ao51, co51, eo51⟩ := Kd.R_slice HO333.out; subst eo51; have hcv52 := own_string (P := Try.prog) Try.underlying37 Try.underlying5 Try.underlying9 (Kd.own_of_R HO333.out); have hcv53 := Kd.C_string (P := Try.prog) (A := A0) (c := c0) Try.underlying37 Try.underlying5 Try.underlying9 (Kd.C_below HR0.out HB.out); have hcz54_0 : w50.cell? ⟨gb315, 0, none⟩ = some (.int .i64 t316) := (blk_cell BK315.out 0).trans rfl; have hcz54_1 : w50.cell? ⟨gb315, 1, none⟩ = some (.int .i64 t319) := (blk_cell BK315.out 1).trans rfl; have hcz54_2 : w50.cell? ⟨gb315, 2, none⟩ = some (.int .i64 x316002_19) := (blk_cell BK315.out 2).trans rfl; have hcz54_3 : w50.cell? ⟨gb315, 3, none⟩ = some (.slice Ao45 t326.length co45) := (blk_cell BK315.out 3).trans rfl; have hfz54_0 := blk_frozen BK315.out 0; have hfz54_1 := blk_frozen BK315.out 1; have hfz54_2 := blk_frozen BK315.out 2; have hfz54_3 := blk_frozen BK315.out 3; have hnb55 := NB313_314.out; have hnc55 := NB314_313.out; have hcz56_0 : w50.cell? ⟨gb313, 0, none⟩ = some (.int .i64 0) := (blk_cell BK313.out 0).trans rfl; have hcz56_1 : w50.cell? ⟨gb313, 1, none⟩ = some (.int .i64 0) := (blk_cell BK313.out 1).trans rfl; have hcz56_2 : w50.cell? ⟨gb313, 2, none⟩ = some (.int .i64 0) := (blk_cell BK313.out 2).trans rfl; have hcz56_3 : w50.cell? ⟨gb313, 3, none⟩ = some (.slice none 0 0) := (blk_cell BK313.out 3).trans rfl; have hfz56_0 := blk_frozen BK313.out 0; have hfz56_1 := blk_frozen BK313.out 1; have hfz56_2 := blk_frozen BK313.out 2; have hfz56_3 := blk_frozen BK313.out 3) | ((with_reducible refine gate_store (t := 57) (p := 2) rfl ?_); refine store_event (t := 57) (p := 2) (v := ?vo_w57) (w1 := ((((w50.setCell ⟨gb313, 0, none⟩ (.int .i64 t316)).setCell ⟨gb313, 1, none⟩ (.int .i64 t319)).setCell ⟨gb313, 2, none⟩ (.int .i64 x316002_19)).setCell ⟨gb313, 3, none⟩ (.slice Ao45 t326.length co45))) ?hg ?ho ?hn ?hr ?_; (case ho => rfl); (case hg => rfl); (case hn => rfl); (case hr => exact gs); intro w57 hw; have n0_ : Aside0 (Kd.R (Kd.int .u8) 5 w57 w.heap.size (fun k_ => some k_ ≠ (.slice Ao51 t331.length co51 : Value).ownBlock) (.slice Ao45 t326.length co45) t326) := ⟨(by rw [hw]; exact (by (with_reducible repeat (first | apply Kd.R_alloc | apply Kd.R_drewN | apply Kd.R_drew)); exact Kd.R_mono (Kd.R_far (p := ⟨gb313, 3, none⟩) (Kd.R_far (p := ⟨gb313, 2, none⟩) (Kd.R_far (p := ⟨gb313, 1, none⟩) (Kd.R_far (p := ⟨gb313, 0, none⟩) (Kd.R_types HO328.out BK313.out (by decide)) (fun _ hk => hk.2) (.int .i64 t316)) (fun _ hk => hk.2) (.int .i64 t319)) (fun _ hk => hk.2) (.int .i64 x316002_19)) (fun _ hk => hk.2) (.slice Ao45 t326.length co45)) (fun _ hk => hk.1.2)))⟩; have n1_ : Aside0 (Kd.R (Kd.int .u8) 5 w57 w.heap.size (fun k_ => some k_ ≠ (.slice Ao45 t326.length co45 : Value).ownBlock) (.slice Ao51 t331.length co51) t331) := ⟨(by rw [hw]; exact (by (with_reducible repeat (first | apply Kd.R_alloc | apply Kd.R_drewN | apply Kd.R_drew)); exact Kd.R_mono (Kd.R_far (p := ⟨gb313, 3, none⟩) (Kd.R_far (p := ⟨gb313, 2, none⟩) (Kd.R_far (p := ⟨gb313, 1, none⟩) (Kd.R_far (p := ⟨gb313, 0, none⟩) (Kd.R_types HO333.out BK313.out (by decide)) (fun _ hk => hk.2) (.int .i64 t316)) (fun _ hk => hk.2) (.int .i64 t319)) (fun _ hk => hk.2) (.int .i64 x316002_19)) (fun _ hk => hk.2) (.slice Ao45 t326.length co45)) (fun _ hk => hk.1.2)))⟩; have n2_ : Aside0 (w57.heap[gb313]? = some (.cells #[.int .i64 t316, .int .i64 t319, .int .i64 x316002_19, .slice Ao45 t326.length co45] 57 (0, 0))) := ⟨(by rw [hw]; exact (by (with_reducible repeat (first | refine blk_drewN ?_ _ | refine blk_drew ?_ | refine blk_alloc ?_ _)); refine blk_put (cs := #[.int .i64 t316, .int .i64 t319, .int .i64 x316002_19, .slice none 0 0]) ?_ 3 _ rfl; (with_reducible repeat (first | refine blk_drewN ?_ _ | refine blk_drew ?_ | refine blk_alloc ?_ _)); refine blk_put (cs := #[.int .i64 t316, .int .i64 t319, .int .i64 0, .slice none 0 0]) ?_ 2 _ rfl; (with_reducible repeat (first | refine blk_drewN ?_ _ | refine blk_drew ?_ | refine blk_alloc ?_ _)); refine blk_put (cs := #[.int .i64 t316, .int .i64 0, .int .i64 0, .slice none 0 0]) ?_ 1 _ rfl; (with_reducible repeat (first | refine blk_drewN ?_ _ | refine blk_drew ?_ | refine blk_alloc ?_ _)); refine blk_put (cs := #[.int .i64 0, .int .i64 0, .int .i64 0, .slice none 0 0]) ?_ 0 _ rfl; (with_reducible repeat (first | refine blk_drewN ?_ _ | refine blk_drew ?_ | refine blk_alloc ?_ _)); exact BK313.out))⟩; have n3_ : Aside0 (w57.heap[gb315]? = some (.cells #[.int .i64 t316, .int .i64 t319, .int .i64 x316002_19, .slice Ao45 t326.length co45] 57 (0, 0))) := ⟨(by rw [hw]; exact (by (with_reducible repeat (first | refine blk_drewN ?_ _ | refine blk_drew ?_ | refine blk_alloc ?_ _)); refine blk_far ?_ NB315_313.out _; (with_reducible repeat (first | refine blk_drewN ?_ _ | refine blk_drew ?_ | refine blk_alloc ?_ _)); refine blk_far ?_ NB315_313.out _; (with_reducible repeat (first | refine blk_drewN ?_ _ | refine blk_drew ?_ | refine blk_alloc ?_ _)); refine blk_far ?_ NB315_313.out _; (with_reducible repeat (first | refine blk_drewN ?_ _ | refine blk_drew ?_ | refine blk_alloc ?_ _)); refine blk_far ?_ NB315_313.out _; (with_reducible repeat (first | refine blk_drewN ?_ _ | refine blk_drew ?_ | refine blk_alloc ?_ _)); exact BK315.out))⟩; have n4_ : Aside0 (IsS110 w w57 gb314 l0 t335 t336) := ⟨(by rw [hw]; exact (IsS110.q2 HI314.out NB314_313.out NB314_315.out))⟩; have n5_ : Aside0 (Below w.heap.size w w57) := ⟨(by rw [hw]; exact (bq3 HB.out (IsS110.ge HI314.out) GE313.out GE315.out))⟩; clear hw; clear HO328; clear HO333; clear BK313; clear BK315; clear HI314; clear HB; have HO328 := n0_; have HO333 := n1_; have BK313 := n2_; have BK315 := n3_; have HI314 := n4_; have HB := n5_; clear n0_ n1_ n2_ n3_ n4_ n5_))
         refine bodyPost_ret (results_ct rfl _ _ gb313 57 #[.int .i64 t316, .int .i64 t319, .int .i64 x316002_19, .slice Ao45 t326.length co45] (0, 0) _ rfl (zq BK313.out) Try.underlying57 rfl (by kernel_rfl)) rfl ?_
         exact ⟨_, rq, by (with_reducible repeat (first | apply Kd.R_alloc | apply Kd.R_drewN | apply Kd.R_drew)); exact Kd.R_mono HO328.out (fun _ hk => trivial), bq3 HB.out (IsS110.ge HI314.out) GE313.out GE315.out⟩
       rw [if_neg c43] at H
       have c43b0 : ((strOfNums t331).toList == (strOfNums l0).toList) = false := beq_eq_false_iff_ne.mpr c43
       have c43b1 : ((strOfNums t331).toList != (strOfNums l0).toList) = true := bne_iff_ne.mpr c43
       simp only [Option.some.injEq, Prod.mk.injEq] at H
       obtain ⟨rfl, rfl, rfl, rfl, rfl⟩ := H
       go_wp2_with (first | ((with_reducible refine gate_callee (f := 97) rfl ?_); refine goesL_ (some 44) rfl rfl Try.func97 (by kernel_rfl) rfl #[.pointer (some ⟨gb314, 0, none⟩), .int .i64 3] rfl ga ?_; (with_reducible refine (impl_parts_part.calls kj19 gb314 l0 x315001_19 x315002_19 3 t326 t329 t330 w _ ?side1 ?side2 A27.out).mono ?_); (case side1 => exact IsS110.q2 HI314.out NB314_313.out NB314_315.out); (case side2 => exact bq3 HB.out (IsS110.ge HI314.out) GE313.out GE315.out); rintro e w58 ⟨v327, rfl, ho0, hi, hb, hk⟩; refine ⟨_, rfl, ?_⟩; have n_ := ak5 (KeepBut.blk hk (g' := gb313) (o := .cells #[.int .i64 0, .int .i64 0, .int .i64 0, .slice none 0 0] 57 (0, 0)) (zq BK313.out) NB313_314.out (by simp)) (KeepBut.blk hk (g' := gb315) (o := .cells #[.int .i64 t316, .int .i64 t319, .int .i64 x316002_19, .slice none 0 0] 57 (0, 0)) (zq BK315.out) NB315_314.out (by simp)) (Kd.R_lower ho0 (below_size (bq3 HB.out (IsS110.ge HI314.out) GE313.out GE315.out))) hb hi; clear BK313 BK315 HB HI314; obtain ⟨BK313, BK315, HO328, HB, HI314⟩ := n_; (try clear hb hk hi ho0); obtain ⟨Ao59, co59, eo59⟩ := Kd.R_slice HO328.out; subst eo59; have hnb60 := NB315_313.out; have hnc60 := NB313_315.out; have hnb61 := NB315_314.out; have hnc61 := NB314_315.out; have hcz62_0 : w58.cell? ⟨gb315, 0, none⟩ = some (.int .i64 t316) := (blk_cell BK315.out 0).trans rfl; have hcz62_1 : w58.cell? ⟨gb315, 1, none⟩ = some (.int .i64 t319) := (blk_cell BK315.out 1).trans rfl; have hcz62_2 : w58.cell? ⟨gb315, 2, none⟩ = some (.int .i64 x316002_19) := (blk_cell BK315.out 2).trans rfl; have hcz62_3 : w58.cell? ⟨gb315, 3, none⟩ = some (.slice none 0 0) := (blk_cell BK315.out 3).trans rfl; have hfz62_0 := blk_frozen BK315.out 0; have hfz62_1 := blk_frozen BK315.out 1; have hfz62_2 := blk_frozen BK315.out 2; have hfz62_3 := blk_frozen BK315.out 3) | ((with_reducible refine gate_callee (f := 98) rfl ?_); refine goesL_ (some 47) rfl rfl Try.func98 (by kernel_rfl) rfl #[.agg #[.int .i64 t316, .int .i64 t319, .int .i64 x316002_19, .slice Ao59 t326.length co59]] rfl ga ?_; (with_reducible refine (impl_PutFrame.calls kj19 t316 t319 x316002_19 _ _ t326 t331 _ ?side1 ?side2 A28.out).mono ?_); (case side1 => refine (Kd.R_reads' (e := 5) (base := w.heap.size) (ok := fun k_ => True) (n := t326.length) (c := co59) ?_).2.2; exact (by (with_reducible repeat (first | apply Kd.R_alloc | apply Kd.R_drewN | apply Kd.R_drew)); exact (Kd.R_mono (Kd.R_far (p := ⟨gb315, 3, none⟩) (Kd.R_types HO328.out BK315.out (by decide)) (fun _ hk => hk.2) (.slice Ao59 t326.length co59)) (fun _ h_ => h_.1)))); (case side2 => exact (Kd.R_reads' HO328.out).2.1); rintro e w63 ⟨v332, rfl, ho0, hb⟩; refine ⟨_, rfl, ?_⟩; have n_ := ak6 (Kd.R_elder' (by (with_reducible repeat (first | apply Kd.R_alloc | apply Kd.R_drewN | apply Kd.R_drew)); exact (Kd.R_mono (Kd.R_far (p := ⟨gb315, 3, none⟩) (Kd.R_types HO328.out BK315.out (by decide)) (fun _ hk => hk.2) (.slice Ao59 t326.length co59)) (fun _ h_ => h_.1))) (Kd.R_base ho0) hb) (Kd.R_lower (Kd.R_new' ho0 (Kd.R_lt (by (with_reducible repeat (first | apply Kd.R_alloc | apply Kd.R_drewN | apply Kd.R_drew)); exact (Kd.R_mono (Kd.R_far (p := ⟨gb315, 3, none⟩) (Kd.R_types HO328.out BK315.out (by decide)) (fun _ hk => hk.2) (.slice Ao59 t326.length co59)) (fun _ h_ => h_.1))))) (below_size (bq3 HB.out (IsS110.ge HI314.out) GE313.out GE315.out))) (blk_below (g := gb313) (o := .cells #[.int .i64 0, .int .i64 0, .int .i64 0, .slice none 0 0] 57 (0, 0)) (by (with_reducible repeat (first | refine blk_drewN ?_ _ | refine blk_drew ?_ | refine blk_alloc ?_ _)); refine blk_far ?_ NB313_315.out _; (with_reducible repeat (first | refine blk_drewN ?_ _ | refine blk_drew ?_ | refine blk_alloc ?_ _)); exact BK313.out) hb) (blk_below (g := gb315) (o := .cells #[.int .i64 t316, .int .i64 t319, .int .i64 x316002_19, .slice Ao59 t326.length co59] 57 (0, 0)) (by (with_reducible repeat (first | refine blk_drewN ?_ _ | refine blk_drew ?_ | refine blk_alloc ?_ _)); refine blk_put (cs := #[.int .i64 t316, .int .i64 t319, .int .i64 x316002_19, .slice none 0 0]) ?_ 3 _ rfl; (with_reducible repeat (first | refine blk_drewN ?_ _ | refine blk_drew ?_ | refine blk_alloc ?_ _)); exact BK315.out) hb) (IsS110.below (show IsS110 w (w58.setCell ⟨gb315, 3, none⟩ (.slice Ao59 t326.length co59)) gb314 l0 t329 t330 from IsS110.q2 HI314.out NB314_313.out NB314_315.out) hb) (below_step (bq3 HB.out (IsS110.ge HI314.out) GE313.out GE315.out) hb); clear HO328 BK313 BK315 HI314 HB; obtain ⟨HO328, HO333, BK313, BK315, HI314, HB⟩ := n_; (try clear hb ho0)) | ((with_reducible refine gate_callee (f := 92) rfl ?_); refine goesL_ (some 49) rfl rfl Try.func92 (by kernel_rfl) rfl #[.pointer (some ⟨gb314, 0, none⟩)] rfl ga ?_; (with_reducible refine (impl_parts_done.calls gb314 l0 t329 t330 true t335 t336 w _ ?side1 ?side2 A29.out).mono ?_); (case side1 => exact IsS110.q2 HI314.out NB314_313.out NB314_315.out); (case side2 => exact bq3 HB.out (IsS110.ge HI314.out) GE313.out GE315.out); rintro e w64 ⟨rfl, hi, hb, hk⟩; refine ⟨_, rfl, ?_⟩; have n_ := ak6 (KeepBut.blk hk (g' := gb313) (o := .cells #[.int .i64 0, .int .i64 0, .int .i64 0, .slice none 0 0] 57 (0, 0)) (zq BK313.out) NB313_314.out (by simp)) (KeepBut.blk hk (g' := gb315) (o := .cells #[.int .i64 t316, .int .i64 t319, .int .i64 x316002_19, .slice Ao59 t326.length co59] 57 (0, 0)) (zq BK315.out) NB315_314.out (by simp)) (Kd.R_mono (Kd.R_keep (IsS110.apart (show IsS110 w _ gb314 l0 t329 t330 from IsS110.q2 HI314.out NB314_313.out NB314_315.out) (kqR HO328.out) (by decide)) hk (fun _ h => h.2)) (fun _ h => h.1)) (Kd.R_mono (Kd.R_keep (IsS110.apart (show IsS110 w _ gb314 l0 t329 t330 from IsS110.q2 HI314.out NB314_313.out NB314_315.out) (kqR HO333.out) (by decide)) hk (fun _ h => h.2)) (fun _ h => h.1)) hb hi; clear BK313 BK315 HO328 HO333 HB HI314; obtain ⟨BK313, BK315, HO328, HO333, HB, HI314⟩ := n_; (try clear hb hk hi); obtain ⟨Ao65, co65, eo65⟩ := Kd.R_slice HO333.out; subst eo65; have hcv66 := own_string (P := Try.prog) Try.underlying37 Try.underlying5 Try.underlying9 (Kd.own_of_R HO333.out); have hcv67 := Kd.C_string (P := Try.prog) (A := A0) (c := c0) Try.underlying37 Try.underlying5 Try.underlying9 (Kd.C_below HR0.out HB.out); have hnb68 := NB313_314.out; have hnc68 := NB314_313.out; have hcz69_0 : w64.cell? ⟨gb313, 0, none⟩ = some (.int .i64 0) := (blk_cell BK313.out 0).trans rfl; have hcz69_1 : w64.cell? ⟨gb313, 1, none⟩ = some (.int .i64 0) := (blk_cell BK313.out 1).trans rfl; have hcz69_2 : w64.cell? ⟨gb313, 2, none⟩ = some (.int .i64 0) := (blk_cell BK313.out 2).trans rfl; have hcz69_3 : w64.cell? ⟨gb313, 3, none⟩ = some (.slice none 0 0) := (blk_cell BK313.out 3).trans rfl; have hfz69_0 := blk_frozen BK313.out 0; have hfz69_1 := blk_frozen BK313.out 1; have hfz69_2 := blk_frozen BK313.out 2; have hfz69_3 := blk_frozen BK313.out 3) | ((with_reducible refine gate_store (t := 57) (p := 2) rfl ?_); refine store_event (t := 57) (p := 2) (v := ?vo_w70) (w1 := ((((w64.setCell ⟨gb313, 0, none⟩ (.int .i64 0)).setCell ⟨gb313, 1, none⟩ (.int .i64 0)).setCell ⟨gb313, 2, none⟩ (.int .i64 0)).setCell ⟨gb313, 3, none⟩ (.slice none 0 0))) ?hg ?ho ?hn ?hr ?_; (case ho => rfl); (case hg => rfl); (case hn => rfl); (case hr => exact gs); intro w70 hw; have n0_ : Aside0 (Kd.R (Kd.int .u8) 5 w70 w.heap.size (fun k_ => some k_ ≠ (.slice Ao65 t331.length co65 : Value).ownBlock) (.slice Ao59 t326.length co59) t326) := ⟨(by rw [hw]; exact (by (with_reducible repeat (first | apply Kd.R_alloc | apply Kd.R_drewN | apply Kd.R_drew)); exact Kd.R_mono (Kd.R_far (p := ⟨gb313, 3, none⟩) (Kd.R_far (p := ⟨gb313, 2, none⟩) (Kd.R_far (p := ⟨gb313, 1, none⟩) (Kd.R_far (p := ⟨gb313, 0, none⟩) (Kd.R_types HO328.out BK313.out (by decide)) (fun _ hk => hk.2) (.int .i64 0)) (fun _ hk => hk.2) (.int .i64 0)) (fun _ hk => hk.2) (.int .i64 0)) (fun _ hk => hk.2) (.slice none 0 0)) (fun _ hk => hk.1.2)))⟩; have n1_ : Aside0 (Kd.R (Kd.int .u8) 5 w70 w.heap.size (fun k_ => some k_ ≠ (.slice Ao59 t326.length co59 : Value).ownBlock) (.slice Ao65 t331.length co65) t331) := ⟨(by rw [hw]; exact (by (with_reducible repeat (first | apply Kd.R_alloc | apply Kd.R_drewN | apply Kd.R_drew)); exact Kd.R_mono (Kd.R_far (p := ⟨gb313, 3, none⟩) (Kd.R_far (p := ⟨gb313, 2, none⟩) (Kd.R_far (p := ⟨gb313, 1, none⟩) (Kd.R_far (p := ⟨gb313, 0, none⟩) (Kd.R_types HO333.out BK313.out (by decide)) (fun _ hk => hk.2) (.int .i64 0)) (fun _ hk => hk.2) (.int .i64 0)) (fun _ hk => hk.2) (.int .i64 0)) (fun _ hk => hk.2) (.slice none 0 0)) (fun _ hk => hk.1.2)))⟩; have n2_ : Aside0 (w70.heap[gb313]? = some (.cells #[.int .i64 0, .int .i64 0, .int .i64 0, .slice none 0 0] 57 (0, 0))) := ⟨(by rw [hw]; exact (by (with_reducible repeat (first | refine blk_drewN ?_ _ | refine blk_drew ?_ | refine blk_alloc ?_ _)); refine blk_put (cs := #[.int .i64 0, .int .i64 0, .int .i64 0, .slice none 0 0]) ?_ 3 _ rfl; (with_reducible repeat (first | refine blk_drewN ?_ _ | refine blk_drew ?_ | refine blk_alloc ?_ _)); refine blk_put (cs := #[.int .i64 0, .int .i64 0, .int .i64 0, .slice none 0 0]) ?_ 2 _ rfl; (with_reducible repeat (first | refine blk_drewN ?_ _ | refine blk_drew ?_ | refine blk_alloc ?_ _)); refine blk_put (cs := #[.int .i64 0, .int .i64 0, .int .i64 0, .slice none 0 0]) ?_ 1 _ rfl; (with_reducible repeat (first | refine blk_drewN ?_ _ | refine blk_drew ?_ | refine blk_alloc ?_ _)); refine blk_put (cs := #[.int .i64 0, .int .i64 0, .int .i64 0, .slice none 0 0]) ?_ 0 _ rfl; (with_reducible repeat (first | refine blk_drewN ?_ _ | refine blk_drew ?_ | refine blk_alloc ?_ _)); exact BK313.out))⟩; have n3_ : Aside0 (w70.heap[gb315]? = some (.cells #[.int .i64 t316, .int .i64 t319, .int .i64 x316002_19, .slice Ao59 t326.length co59] 57 (0, 0))) := ⟨(by rw [hw]; exact (by (with_reducible repeat (first | refine blk_drewN ?_ _ | refine blk_drew ?_ | refine blk_alloc ?_ _)); refine blk_far ?_ NB315_313.out _; (with_reducible repeat (first | refine blk_drewN ?_ _ | refine blk_drew ?_ | refine blk_alloc ?_ _)); refine blk_far ?_ NB315_313.out _; (with_reducible repeat (first | refine blk_drewN ?_ _ | refine blk_drew ?_ | refine blk_alloc ?_ _)); refine blk_far ?_ NB315_313.out _; (with_reducible repeat (first | refine blk_drewN ?_ _ | refine blk_drew ?_ | refine blk_alloc ?_ _)); refine blk_far ?_ NB315_313.out _; (with_reducible repeat (first | refine blk_drewN ?_ _ | refine blk_drew ?_ | refine blk_alloc ?_ _)); exact BK315.out))⟩; have n4_ : Aside0 (IsS110 w w70 gb314 l0 t335 t336) := ⟨(by rw [hw]; exact (IsS110.q2 HI314.out NB314_313.out NB314_315.out))⟩; have n5_ : Aside0 (Below w.heap.size w w70) := ⟨(by rw [hw]; exact (bq3 HB.out (IsS110.ge HI314.out) GE313.out GE315.out))⟩; clear hw; clear HO328; clear HO333; clear BK313; clear BK315; clear HI314; clear HB; have HO328 := n0_; have HO333 := n1_; have BK313 := n2_; have BK315 := n3_; have HI314 := n4_; have HB := n5_; clear n0_ n1_ n2_ n3_ n4_ n5_))
       refine bodyPost_ret (results_ct rfl _ _ gb313 57 #[.int .i64 0, .int .i64 0, .int .i64 0, .slice none 0 0] (0, 0) _ rfl (zq BK313.out) Try.underlying57 rfl (by kernel_rfl)) rfl ?_
       exact ⟨_, rq, by first | exact Kd.R_nil _ _ _ _ _ | exact Kd.N_nil _ _ _ _ _ | exact Kd.V_nil _ _ _ _ _ | exact Kd.Q_nil _ _ _ _ _ | exact Kd.S_nil _ _ _ _ _, bq3 HB.out (IsS110.ge HI314.out) GE313.out GE315.out⟩
     replace c30 := Bool.eq_false_iff.mpr c30
     subst c30
     have H1 : (some (0, 0, 0, ([] : List Int), false)) = some (r1, r2, r3, r4, r5) := by rw [if_neg (show ¬ (false = true) by decide)] at H; exact H
     clear H
     have H := H1
     clear H1
     simp only [Option.some.injEq, Prod.mk.injEq] at H
     obtain ⟨rfl, rfl, rfl, rfl, rfl⟩ := H
     go_wp2_with (first | ((with_reducible refine gate_callee (f := 97) rfl ?_); refine goesL_ (some 44) rfl rfl Try.func97 (by kernel_rfl) rfl #[.pointer (some ⟨gb314, 0, none⟩), .int .i64 3] rfl ga ?_; (with_reducible refine (impl_parts_part.calls kj19 gb314 l0 x315001_19 x315002_19 3 t326 t329 t330 w _ ?side1 ?side2 A27.out).mono ?_); (case side1 => exact IsS110.q2 HI314.out NB314_313.out NB314_315.out); (case side2 => exact bq3 HB.out (IsS110.ge HI314.out) GE313.out GE315.out); rintro e w71 ⟨v327, rfl, ho0, hi, hb, hk⟩; refine ⟨_, rfl, ?_⟩; have n_ := ak5 (KeepBut.blk hk (g' := gb313) (o := .cells #[.int .i64 0, .int .i64 0, .int .i64 0, .slice none 0 0] 57 (0, 0)) (zq BK313.out) NB313_314.out (by simp)) (KeepBut.blk hk (g' := gb315) (o := .cells #[.int .i64 t316, .int .i64 t319, .int .i64 x316002_19, .slice none 0 0] 57 (0, 0)) (zq BK315.out) NB315_314.out (by simp)) (Kd.R_lower ho0 (below_size (bq3 HB.out (IsS110.ge HI314.out) GE313.out GE315.out))) hb hi; clear BK313 BK315 HB HI314; obtain ⟨BK313, BK315, HO328, HB, HI314⟩ := n_; (try clear hb hk hi ho0); obtain ⟨Ao72, co72, eo72⟩ := Kd.R_slice HO328.out; subst eo72; have hnb73 := NB315_313.out; have hnc73 := NB313_315.out; have hnb74 := NB315_314.out; have hnc74 := NB314_315.out; have hcz75_0 : w71.cell? ⟨gb315, 0, none⟩ = some (.int .i64 t316) := (blk_cell BK315.out 0).trans rfl; have hcz75_1 : w71.cell? ⟨gb315, 1, none⟩ = some (.int .i64 t319) := (blk_cell BK315.out 1).trans rfl; have hcz75_2 : w71.cell? ⟨gb315, 2, none⟩ = some (.int .i64 x316002_19) := (blk_cell BK315.out 2).trans rfl; have hcz75_3 : w71.cell? ⟨gb315, 3, none⟩ = some (.slice none 0 0) := (blk_cell BK315.out 3).trans rfl; have hfz75_0 := blk_frozen BK315.out 0; have hfz75_1 := blk_frozen BK315.out 1; have hfz75_2 := blk_frozen BK315.out 2; have hfz75_3 := blk_frozen BK315.out 3) | ((with_reducible refine gate_callee (f := 98) rfl ?_); refine goesL_ (some 47) rfl rfl Try.func98 (by kernel_rfl) rfl #[.agg #[.int .i64 t316, .int .i64 t319, .int .i64 x316002_19, .slice Ao72 t326.length co72]] rfl ga ?_; (with_reducible refine (impl_PutFrame.calls kj19 t316 t319 x316002_19 _ _ t326 t331 _ ?side1 ?side2 A28.out).mono ?_); (case side1 => refine (Kd.R_reads' (e := 5) (base := w.heap.size) (ok := fun k_ => True) (n := t326.length) (c := co72) ?_).2.2; exact (by (with_reducible repeat (first | apply Kd.R_alloc | apply Kd.R_drewN | apply Kd.R_drew)); exact (Kd.R_mono (Kd.R_far (p := ⟨gb315, 3, none⟩) (Kd.R_types HO328.out BK315.out (by decide)) (fun _ hk => hk.2) (.slice Ao72 t326.length co72)) (fun _ h_ => h_.1)))); (case side2 => exact (Kd.R_reads' HO328.out).2.1); rintro e w76 ⟨v332, rfl, ho0, hb⟩; refine ⟨_, rfl, ?_⟩; have n_ := ak6 (Kd.R_elder' (by (with_reducible repeat (first | apply Kd.R_alloc | apply Kd.R_drewN | apply Kd.R_drew)); exact (Kd.R_mono (Kd.R_far (p := ⟨gb315, 3, none⟩) (Kd.R_types HO328.out BK315.out (by decide)) (fun _ hk => hk.2) (.slice Ao72 t326.length co72)) (fun _ h_ => h_.1))) (Kd.R_base ho0) hb) (Kd.R_lower (Kd.R_new' ho0 (Kd.R_lt (by (with_reducible repeat (first | apply Kd.R_alloc | apply Kd.R_drewN | apply Kd.R_drew)); exact (Kd.R_mono (Kd.R_far (p := ⟨gb315, 3, none⟩) (Kd.R_types HO328.out BK315.out (by decide)) (fun _ hk => hk.2) (.slice Ao72 t326.length co72)) (fun _ h_ => h_.1))))) (below_size (bq3 HB.out (IsS110.ge HI314.out) GE313.out GE315.out))) (blk_below (g := gb313) (o := .cells #[.int .i64 0, .int .i64 0, .int .i64 0, .slice none 0 0] 57 (0, 0)) (by (with_reducible repeat (first | refine blk_drewN ?_ _ | refine blk_drew ?_ | refine blk_alloc ?_ _)); refine blk_far ?_ NB313_315.out _; (with_reducible repeat (first | refine blk_drewN ?_ _ | refine blk_drew ?_ | refine blk_alloc ?_ _)); exact BK313.out) hb) (blk_below (g := gb315) (o := .cells #[.int .i64 t316, .int .i64 t319, .int .i64 x316002_19, .slice Ao72 t326.length co72] 57 (0, 0)) (by (with_reducible repeat (first | refine blk_drewN ?_ _ | refine blk_drew ?_ | refine blk_alloc ?_ _)); refine blk_put (cs := #[.int .i64 t316, .int .i64 t319, .int .i64 x316002_19, .slice none 0 0]) ?_ 3 _ rfl; (with_reducible repeat (first | refine blk_drewN ?_ _ | refine blk_drew ?_ | refine blk_alloc ?_ _)); exact BK315.out) hb) (IsS110.below (show IsS110 w (w71.setCell ⟨gb315, 3, none⟩ (.slice Ao72 t326.length co72)) gb314 l0 t329 t330 from IsS110.q2 HI314.out NB314_313.out NB314_315.out) hb) (below_step (bq3 HB.out (IsS110.ge HI314.out) GE313.out GE315.out) hb); clear HO328 BK313 BK315 HI314 HB; obtain ⟨HO328, HO333, BK313, BK315, HI314, HB⟩ := n_; (try clear hb ho0)) | ((with_reducible refine gate_callee (f := 92) rfl ?_); refine goesL_ (some 49) rfl rfl Try.func92 (by kernel_rfl) rfl #[.pointer (some ⟨gb314, 0, none⟩)] rfl ga ?_; (with_reducible refine (impl_parts_done.calls gb314 l0 t329 t330 false t335 t336 w _ ?side1 ?side2 A29.out).mono ?_); (case side1 => exact IsS110.q2 HI314.out NB314_313.out NB314_315.out); (case side2 => exact bq3 HB.out (IsS110.ge HI314.out) GE313.out GE315.out); rintro e w77 ⟨rfl, hi, hb, hk⟩; refine ⟨_, rfl, ?_⟩; have n_ := ak6 (KeepBut.blk hk (g' := gb313) (o := .cells #[.int .i64 0, .int .i64 0, .int .i64 0, .slice none 0 0] 57 (0, 0)) (zq BK313.out) NB313_314.out (by simp)) (KeepBut.blk hk (g' := gb315) (o := .cells #[.int .i64 t316, .int .i64 t319, .int .i64 x316002_19, .slice Ao72 t326.length co72] 57 (0, 0)) (zq BK315.out) NB315_314.out (by simp)) (Kd.R_mono (Kd.R_keep (IsS110.apart (show IsS110 w _ gb314 l0 t329 t330 from IsS110.q2 HI314.out NB314_313.out NB314_315.out) (kqR HO328.out) (by decide)) hk (fun _ h => h.2)) (fun _ h => h.1)) (Kd.R_mono (Kd.R_keep (IsS110.apart (show IsS110 w _ gb314 l0 t329 t330 from IsS110.q2 HI314.out NB314_313.out NB314_315.out) (kqR HO333.out) (by decide)) hk (fun _ h => h.2)) (fun _ h => h.1)) hb hi; clear BK313 BK315 HO328 HO333 HB HI314; obtain ⟨BK313, BK315, HO328, HO333, HB, HI314⟩ := n_; (try clear hb hk hi); have hnb78 := NB313_314.out; have hnc78 := NB314_313.out; have hcz79_0 : w77.cell? ⟨gb313, 0, none⟩ = some (.int .i64 0) := (blk_cell BK313.out 0).trans rfl; have hcz79_1 : w77.cell? ⟨gb313, 1, none⟩ = some (.int .i64 0) := (blk_cell BK313.out 1).trans rfl; have hcz79_2 : w77.cell? ⟨gb313, 2, none⟩ = some (.int .i64 0) := (blk_cell BK313.out 2).trans rfl; have hcz79_3 : w77.cell? ⟨gb313, 3, none⟩ = some (.slice none 0 0) := (blk_cell BK313.out 3).trans rfl; have hfz79_0 := blk_frozen BK313.out 0; have hfz79_1 := blk_frozen BK313.out 1; have hfz79_2 := blk_frozen BK313.out 2; have hfz79_3 := blk_frozen BK313.out 3) | ((with_reducible refine gate_store (t := 57) (p := 2) rfl ?_); refine store_event (t := 57) (p := 2) (v := ?vo_w80) (w1 := ((((w77.setCell ⟨gb313, 0, none⟩ (.int .i64 0)).setCell ⟨gb313, 1, none⟩ (.int .i64 0)).setCell ⟨gb313, 2, none⟩ (.int .i64 0)).setCell ⟨gb313, 3, none⟩ (.slice none 0 0))) ?hg ?ho ?hn ?hr ?_; (case ho => rfl); (case hg => rfl); (case hn => rfl); (case hr => exact gs); intro w80 hw; have n0_ : Aside0 (Kd.R (Kd.int .u8) 5 w80 w.heap.size (fun k_ => some k_ ≠ (v332 : Value).ownBlock) (.slice Ao72 t326.length co72) t326) := ⟨(by rw [hw]; exact (by (with_reducible repeat (first | apply Kd.R_alloc | apply Kd.R_drewN | apply Kd.R_drew)); exact Kd.R_mono (Kd.R_far (p := ⟨gb313, 3, none⟩) (Kd.R_far (p := ⟨gb313, 2, none⟩) (Kd.R_far (p := ⟨gb313, 1, none⟩) (Kd.R_far (p := ⟨gb313, 0, none⟩) (Kd.R_types HO328.out BK313.out (by decide)) (fun _ hk => hk.2) (.int .i64 0)) (fun _ hk => hk.2) (.int .i64 0)) (fun _ hk => hk.2) (.int .i64 0)) (fun _ hk => hk.2) (.slice none 0 0)) (fun _ hk => hk.1.2)))⟩; have n1_ : Aside0 (Kd.R (Kd.int .u8) 5 w80 w.heap.size (fun k_ => some k_ ≠ (.slice Ao72 t326.length co72 : Value).ownBlock) v332 t331) := ⟨(by rw [hw]; exact (by (with_reducible repeat (first | apply Kd.R_alloc | apply Kd.R_drewN | apply Kd.R_drew)); exact Kd.R_mono (Kd.R_far (p := ⟨gb313, 3, none⟩) (Kd.R_far (p := ⟨gb313, 2, none⟩) (Kd.R_far (p := ⟨gb313, 1, none⟩) (Kd.R_far (p := ⟨gb313, 0, none⟩) (Kd.R_types HO333.out BK313.out (by decide)) (fun _ hk => hk.2) (.int .i64 0)) (fun _ hk => hk.2) (.int .i64 0)) (fun _ hk => hk.2) (.int .i64 0)) (fun _ hk => hk.2) (.slice none 0 0)) (fun _ hk => hk.1.2)))⟩; have n2_ : Aside0 (w80.heap[gb313]? = some (.cells #[.int .i64 0, .int .i64 0, .int .i64 0, .slice none 0 0] 57 (0, 0))) := ⟨(by rw [hw]; exact (by (with_reducible repeat (first | refine blk_drewN ?_ _ | refine blk_drew ?_ | refine blk_alloc ?_ _)); refine blk_put (cs := #[.int .i64 0, .int .i64 0, .int .i64 0, .slice none 0 0]) ?_ 3 _ rfl; (with_reducible repeat (first | refine blk_drewN ?_ _ | refine blk_drew ?_ | refine blk_alloc ?_ _)); refine blk_put (cs := #[.int .i64 0, .int .i64 0, .int .i64 0, .slice none 0 0]) ?_ 2 _ rfl; (with_reducible repeat (first | refine blk_drewN ?_ _ | refine blk_drew ?_ | refine blk_alloc ?_ _)); refine blk_put (cs := #[.int .i64 0, .int .i64 0, .int .i64 0, .slice none 0 0]) ?_ 1 _ rfl; (with_reducible repeat (first | refine blk_drewN ?_ _ | refine blk_drew ?_ | refine blk_alloc ?_ _)); refine blk_put (cs := #[.int .i64 0, .int .i64 0, .int .i64 0, .slice none 0 0]) ?_ 0 _ rfl; (with_reducible repeat (first | refine blk_drewN ?_ _ | refine blk_drew ?_ | refine blk_alloc ?_ _)); exact BK313.out))⟩; have n3_ : Aside0 (w80.heap[gb315]? = some (.cells #[.int .i64 t316, .int .i64 t319, .int .i64 x316002_19, .slice Ao72 t326.length co72] 57 (0, 0))) := ⟨(by rw [hw]; exact (by (with_reducible repeat (first | refine blk_drewN ?_ _ | refine blk_drew ?_ | refine blk_alloc ?_ _)); refine blk_far ?_ NB315_313.out _; (with_reducible repeat (first | refine blk_drewN ?_ _ | refine blk_drew ?_ | refine blk_alloc ?_ _)); refine blk_far ?_ NB315_313.out _; (with_reducible repeat (first | refine blk_drewN ?_ _ | refine blk_drew ?_ | refine blk_alloc ?_ _)); refine blk_far ?_ NB315_313.out _; (with_reducible repeat (first | refine blk_drewN ?_ _ | refine blk_drew ?_ | refine blk_alloc ?_ _)); refine blk_far ?_ NB315_313.out _; (with_reducible repeat (first | refine blk_drewN ?_ _ | refine blk_drew ?_ | refine blk_alloc ?_ _)); exact BK315.out))⟩; have n4_ : Aside0 (IsS110 w w80 gb314 l0 t335 t336) := ⟨(by rw [hw]; exact (IsS110.q2 HI314.out NB314_313.out NB314_315.out))⟩; have n5_ : Aside0 (Below w.heap.size w w80) := ⟨(by rw [hw]; exact (bq3 HB.out (IsS110.ge HI314.out) GE313.out GE315.out))⟩; clear hw; clear HO328; clear HO333; clear BK313; clear BK315; clear HI314; clear HB; have HO328 := n0_; have HO333 := n1_; have BK313 := n2_; have BK315 := n3_; have HI314 := n4_; have HB := n5_; clear n0_ n1_ n2_ n3_ n4_ n5_))
     refine bodyPost_ret (results_ct rfl _ _ gb313 57 #[.int .i64 0, .int .i64 0, .int .i64 0, .slice none 0 0] (0, 0) _ rfl (zq BK313.out) Try.underlying57 rfl (by kernel_rfl)) rfl ?_
     exact ⟨_, rq, by first | exact Kd.R_nil _ _ _ _ _ | exact Kd.N_nil _ _ _ _ _ | exact Kd.V_nil _ _ _ _ _ | exact Kd.Q_nil _ _ _ _ _ | exact Kd.S_nil _ _ _ _ _, bq3 HB.out (IsS110.ge HI314.out) GE313.out GE315.out⟩

end Go.Proofs.Ytebffdmkfkfoaaa.XFnExactGetFrame
