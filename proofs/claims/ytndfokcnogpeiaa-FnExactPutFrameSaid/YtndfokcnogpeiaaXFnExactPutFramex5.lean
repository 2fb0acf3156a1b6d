/- The functions that one law reaches, as Lean functions, with their walks: printed by a program of this seat (wip/tools) out of the translation. -/
import Derived.Test.YtndfokcnogpeiaaXFnExactPutFramex0
import Derived.Test.YtndfokcnogpeiaaXFnExactPutFramex1
import Derived.Test.YtndfokcnogpeiaaXFnExactPutFramex2
import Derived.Test.YtndfokcnogpeiaaXFnExactPutFramex3
import Derived.Test.YtndfokcnogpeiaaXFnExactPutFramex4
namespace Go.Proofs.Ytndfokcnogpeiaa.XFnExactPutFrame
open Go.RowKit Go.Proofs.YtndfokcnogpeiaaW.PrintWords Go.Proofs.YtndfokcnogpeiaaW.PrintLast Go.Proofs.YtndfokcnogpeiaaW.PrintMore
attribute [local go_sem] max2_int min2_int max_two min_two max_three min_three max_four min_four   -- for this text's walks alone
set_option linter.unusedVariables false
set_option linter.unusedSimpArgs false

/-! ### laws_FnExactPutFrame: function 14 -/
def laws_FnExactPutFrame.j0 : Nat → List Int → List Int → Bool → Int → Int → Int → List Int → Option (Bool)
  | 0, _, _, _, _, _, _, _ => none
  | k + 1, x4, x6, x42, x265000, x265001, x265002, x265003 => if x42 = true then (some false) else ((laws_markByteS.f k x6 1).bind fun bt296 => ((laws_heldByteS.f k bt296.2 1).bind fun t298 => (if t298 < 0 then (some false) else (if t298 = bt296.1 then ((laws_toFrame.f k x265000 x265001 x265002 x265003).bind fun bt299 => ((impl_PutFrame.f k bt299.1 bt299.2.1 bt299.2.2.1 bt299.2.2.2).bind fun t305 => ((laws_eqByteS.f k t305 x4).bind fun t308 => (if t308 = true then ((laws_heldByteS.f k bt296.2 1).bind fun t309 => (if t309 < 0 then (some false) else (if t309 = bt296.1 then (some true) else (some false)))) else (some false))))) else (some false)))))
def laws_FnExactPutFrame.f (k : Nat) (a0_0 : Int) (a0_1 : Int) (a0_2 : Int) (l0_3 : List Int) : Option (Bool) := (laws_szFrame.f a0_0 a0_1 a0_2 l0_3 1048576).bind fun t265 => (if t265 < 0 then (some true) else ((laws_toFrame.f k a0_0 a0_1 a0_2 l0_3).bind fun bt266 => ((spec_PutFrame.f k bt266.1 bt266.2.1 bt266.2.2.1 bt266.2.2.2).bind fun t272 => ((laws_toFrame.f k a0_0 a0_1 a0_2 l0_3).bind fun bt275 => ((impl_PutFrame.f k bt275.1 bt275.2.1 bt275.2.2.1 bt275.2.2.2).bind fun t282 => ((laws_eqByteS.f k t282 t272).bind fun t285 => (if t285 = true then ((laws_toFrame.f k a0_0 a0_1 a0_2 l0_3).bind fun bt286 => ((laws_eqFrame.f k bt275.1 bt275.2.1 bt275.2.2.1 bt275.2.2.2 bt286.1 bt286.2.1 bt286.2.2.1 bt286.2.2.2).bind fun t292 => (if t292 = true then ((laws_markFrame.f k bt275.1 bt275.2.1 bt275.2.2.1 bt275.2.2.2 1).bind fun bt293 => (if bt293.1 < 0 then (laws_FnExactPutFrame.j0 k t272 t282 true a0_0 a0_1 a0_2 l0_3) else ((laws_eqByteS.f k t282 t272).bind fun t295 => (laws_FnExactPutFrame.j0 k t272 t282 (!t295) a0_0 a0_1 a0_2 l0_3)))) else (some false)))) else (some false))))))))
theorem laws_FnExactPutFrame.mono_l : ∀ k, (∀ y0 y1 y2 y3 y4 y5 y6, LeO (laws_FnExactPutFrame.j0 k y0 y1 y2 y3 y4 y5 y6) (laws_FnExactPutFrame.j0 (k + 1) y0 y1 y2 y3 y4 y5 y6))
  | 0 => fun _ _ _ _ _ _ _ r h => by simp [laws_FnExactPutFrame.j0] at h
  | k + 1 => by
    have ih0 := laws_FnExactPutFrame.mono_l k
    · intro y0 y1 y2 y3 y4 y5 y6
      unfold laws_FnExactPutFrame.j0
      repeat' first
      | (with_reducible exact ih0 _ _ _ _ _ _ _)
      | (with_reducible exact impl_PutFrame.mono _ _ _ _ _)
      | (with_reducible exact laws_eqByteS.mono _ _ _)
      | (with_reducible exact laws_eqFrame.mono _ _ _ _ _ _ _ _ _)
      | (with_reducible exact laws_heldByteS.mono _ _ _)
      | (with_reducible exact laws_markByteS.mono _ _ _)
      | (with_reducible exact laws_markFrame.mono _ _ _ _ _ _)
      | (with_reducible exact laws_toFrame.mono _ _ _ _ _)
      | (with_reducible exact spec_PutFrame.mono _ _ _ _ _)
      | (with_reducible exact LeO.refl _)
      | (with_reducible exact LeO.none _)
      | (with_reducible refine LeO.ite ?_ ?_)
      | (with_reducible refine LeO.bind ?_ (fun _ => ?_))
      | exact ih0 _ _ _ _ _ _ _
      | exact impl_PutFrame.mono _ _ _ _ _
      | exact laws_eqByteS.mono _ _ _
      | exact laws_eqFrame.mono _ _ _ _ _ _ _ _ _
      | exact laws_heldByteS.mono _ _ _
      | exact laws_markByteS.mono _ _ _
      | exact laws_markFrame.mono _ _ _ _ _ _
      | exact laws_toFrame.mono _ _ _ _ _
      | exact spec_PutFrame.mono _ _ _ _ _
      | exact LeO.none _
      | refine LeO.ite ?_ ?_
      | refine LeO.bind ?_ (fun _ => ?_)
theorem laws_FnExactPutFrame.mono : ∀ a0 a1 a2 a3 k, LeO (laws_FnExactPutFrame.f k a0 a1 a2 a3) (laws_FnExactPutFrame.f (k + 1) a0 a1 a2 a3) := by
  intro a0 a1 a2 a3 k
  have ih0 := laws_FnExactPutFrame.mono_l k
  unfold laws_FnExactPutFrame.f
  repeat' first
      | (with_reducible exact ih0 _ _ _ _ _ _ _)
      | (with_reducible exact impl_PutFrame.mono _ _ _ _ _)
      | (with_reducible exact laws_eqByteS.mono _ _ _)
      | (with_reducible exact laws_eqFrame.mono _ _ _ _ _ _ _ _ _)
      | (with_reducible exact laws_heldByteS.mono _ _ _)
      | (with_reducible exact laws_markByteS.mono _ _ _)
      | (with_reducible exact laws_markFrame.mono _ _ _ _ _ _)
      | (with_reducible exact laws_toFrame.mono _ _ _ _ _)
      | (with_reducible exact spec_PutFrame.mono _ _ _ _ _)
      | (with_reducible exact LeO.refl _)
      | (with_reducible exact LeO.none _)
      | (with_reducible refine LeO.ite ?_ ?_)
      | (with_reducible refine LeO.bind ?_ (fun _ => ?_))
      | exact ih0 _ _ _ _ _ _ _
      | exact impl_PutFrame.mono _ _ _ _ _
      | exact laws_eqByteS.mono _ _ _
      | exact laws_eqFrame.mono _ _ _ _ _ _ _ _ _
      | exact laws_heldByteS.mono _ _ _
      | exact laws_markByteS.mono _ _ _
      | exact laws_markFrame.mono _ _ _ _ _ _
      | exact laws_toFrame.mono _ _ _ _ _
      | exact spec_PutFrame.mono _ _ _ _ _
      | exact LeO.none _
      | refine LeO.ite ?_ ?_
      | refine LeO.bind ?_ (fun _ => ?_)
set_option maxHeartbeats 8000000 in
set_option maxRecDepth 100000 in
theorem laws_FnExactPutFrame.calls (k : Nat) (a0_0 : Int) (a0_1 : Int) (a0_2 : Int) (A0_3 : Option Addr) (c0_3 : Nat) (l0_3 : List Int) (r : Bool) (w : World) (hr0_3 : Kd.C (Kd.int .u8) w A0_3 l0_3.length l0_3) (hc0_3 : l0_3.length ≤ c0_3) (hr_ : r = true) (h : laws_FnExactPutFrame.f k a0_0 a0_1 a0_2 l0_3 = some r) :
    Calls Try.prog 14 #[.agg #[.int .i64 a0_0, .int .i64 a0_1, .int .i64 a0_2, .slice A0_3 l0_3.length c0_3]] w fun e w' => e = .returned (.bool r) ∧ Below w.heap.size w w' := by
  have hu90 := Try.underlying90
  have hu93 := Try.underlying93
  have HRT := am hr_
  clear hr_
  have HR0_3 := am hr0_3
  have HC0_3 := am hc0_3
  clear hr0_3 hc0_3
  have HB := am (Below.refl w.heap.size w)
  have H : ((laws_szFrame.f a0_0 a0_1 a0_2 l0_3 1048576).bind fun t265 => (if t265 < 0 then (some true) else ((laws_toFrame.f k a0_0 a0_1 a0_2 l0_3).bind fun bt266 => ((spec_PutFrame.f k bt266.1 bt266.2.1 bt266.2.2.1 bt266.2.2.2).bind fun t272 => ((laws_toFrame.f k a0_0 a0_1 a0_2 l0_3).bind fun bt275 => ((impl_PutFrame.f k bt275.1 bt275.2.1 bt275.2.2.1 bt275.2.2.2).bind fun t282 => ((laws_eqByteS.f k t282 t272).bind fun t285 => (if t285 = true then ((laws_toFrame.f k a0_0 a0_1 a0_2 l0_3).bind fun bt286 => ((laws_eqFrame.f k bt275.1 bt275.2.1 bt275.2.2.1 bt275.2.2.2 bt286.1 bt286.2.1 bt286.2.2.1 bt286.2.2.2).bind fun t292 => (if t292 = true then ((laws_markFrame.f k bt275.1 bt275.2.1 bt275.2.2.1 bt275.2.2.2 1).bind fun bt293 => (if bt293.1 < 0 then (laws_FnExactPutFrame.j0 k t272 t282 true a0_0 a0_1 a0_2 l0_3) else ((laws_eqByteS.f k t282 t272).bind fun t295 => (laws_FnExactPutFrame.j0 k t272 t282 (!t295) a0_0 a0_1 a0_2 l0_3)))) else (some false)))) else (some false))))))))) = some r := h
  clear h
  replace H := Option.bind_eq_some_iff.mp H
  obtain ⟨t265, A20, H⟩ := H
  replace H : (if t265 < 0 then (some true) else ((laws_toFrame.f k a0_0 a0_1 a0_2 l0_3).bind fun bt266 => ((spec_PutFrame.f k bt266.1 bt266.2.1 bt266.2.2.1 bt266.2.2.2).bind fun t272 => ((laws_toFrame.f k a0_0 a0_1 a0_2 l0_3).bind fun bt275 => ((impl_PutFrame.f k bt275.1 bt275.2.1 bt275.2.2.1 bt275.2.2.2).bind fun t282 => ((laws_eqByteS.f k t282 t272).bind fun t285 => (if t285 = true then ((laws_toFrame.f k a0_0 a0_1 a0_2 l0_3).bind fun bt286 => ((laws_eqFrame.f k bt275.1 bt275.2.1 bt275.2.2.1 bt275.2.2.2 bt286.1 bt286.2.1 bt286.2.2.1 bt286.2.2.2).bind fun t292 => (if t292 = true then ((laws_markFrame.f k bt275.1 bt275.2.1 bt275.2.2.1 bt275.2.2.2 1).bind fun bt293 => (if bt293.1 < 0 then (laws_FnExactPutFrame.j0 k t272 t282 true a0_0 a0_1 a0_2 l0_3) else ((laws_eqByteS.f k t282 t272).bind fun t295 => (laws_FnExactPutFrame.j0 k t272 t282 (!t295) a0_0 a0_1 a0_2 l0_3)))) else (some false)))) else (some false)))))))) = some r := H
  have A2 := am A20
  clear A20
  by_cases c3 : t265 < 0
  · rw [if_pos c3] at H
    have c3b0 : decide (t265 < 0) = true := decide_eq_true c3
    clear c3
    obtain rfl := Option.some.inj H
    go_enter Try.func14, Try.ntmps14
    go_wp2_with (first | ((with_reducible refine gate_dst (N := 1) rfl ?_); refine box_event ?hg (N := 1) ?hd (cs := #[.int .i64 a0_0, .int .i64 a0_1, .int .i64 a0_2, .slice A0_3 l0_3.length c0_3]) (t := 90) ?hr ?_; (case hd => rfl); (case hg => rfl); (case hr => first | (go_simp; done) | (go_simp; rfl)); intro gb264 hg w4 hbox hb; have n0_ := am (below_step (bq HB.out) hb); have n1_ := am (hbox); have n2_ := am ((by rw [hg]; exact (below_size (bq HB.out)) : w.heap.size ≤ gb264)); have n3_ := am ((by rw [hg]; exact (below_size (bq HB.out)) : w.heap.size ≤ gb264)); clear HB; have HB := n0_; have BK264 := n1_; have GW264 := n2_; have GE264 := n3_; clear n0_ n1_ n2_ n3_; clear hb hbox hg; have hcz5_0 : w4.cell? ⟨gb264, 0, none⟩ = some (.int .i64 a0_0) := (blk_cell BK264.out 0).trans rfl; have hcz5_1 : w4.cell? ⟨gb264, 1, none⟩ = some (.int .i64 a0_1) := (blk_cell BK264.out 1).trans rfl; have hcz5_2 : w4.cell? ⟨gb264, 2, none⟩ = some (.int .i64 a0_2) := (blk_cell BK264.out 2).trans rfl; have hcz5_3 : w4.cell? ⟨gb264, 3, none⟩ = some (.slice A0_3 l0_3.length c0_3) := (blk_cell BK264.out 3).trans rfl; have hfz5_0 := blk_frozen BK264.out 0; have hfz5_1 := blk_frozen BK264.out 1; have hfz5_2 := blk_frozen BK264.out 2; have hfz5_3 := blk_frozen BK264.out 3) | ((with_reducible refine gate_callee (f := 73) rfl ?_); refine goesL_ (some 13) rfl rfl Try.func73 (by kernel_rfl) rfl #[.agg #[.int .i64 a0_0, .int .i64 a0_1, .int .i64 a0_2, .slice A0_3 l0_3.length c0_3], .int .i64 1048576] rfl (by (try simp only [List.map_toArray, List.map_cons, List.map_nil]); first | done | rfl | (simp only [List.length_drop, List.length_take]; rfl)) ?_; (with_reducible refine (laws_szFrame.calls a0_0 a0_1 a0_2 _ _ l0_3 1048576 t265 _ ?side1 ?side2 A2.out).mono ?_); (case side1 => exact cq (Kd.C_below HR0_3.out HB.out)); (case side2 => exact HC0_3.out); rintro e w6 ⟨rfl, hb⟩; refine ⟨_, rfl, ?_⟩; have n0_ := am (blk_below (g := gb264) (o := .cells #[.int .i64 a0_0, .int .i64 a0_1, .int .i64 a0_2, .slice A0_3 l0_3.length c0_3] 90 (0, 0)) (zq BK264.out) hb); have n1_ := am (below_step (by repeat (first | (with_reducible first | exact HB.out | apply below_alloc | apply pw_below_drewN | apply below_drew1 | refine below_set ?_ GE264.out) | exact HB.out)) hb); clear BK264; clear HB; have BK264 := n0_; have HB := n1_; clear n0_ n1_; (try clear hb); (try clear hb2); (try clear hk); (try clear hi)))
    go_ret
    exact ⟨by first | rfl | (simp [errW_none, errW_some] <;> rfl) | (simp [*, errW_none, errW_some] <;> rfl), by repeat (first | (with_reducible first | exact HB.out | apply below_alloc | apply pw_below_drewN | apply below_drew1 | refine below_set ?_ GE264.out) | exact HB.out)⟩
  · rw [if_neg c3] at H
    have c3b0 : decide (t265 < 0) = false := decide_eq_false c3
    clear c3
    replace H := Option.bind_eq_some_iff.mp H
    obtain ⟨⟨t266, t267, t268, t269⟩, A70, H⟩ := H
    replace H : ((spec_PutFrame.f k t266 t267 t268 t269).bind fun t272 => ((laws_toFrame.f k a0_0 a0_1 a0_2 l0_3).bind fun bt275 => ((impl_PutFrame.f k bt275.1 bt275.2.1 bt275.2.2.1 bt275.2.2.2).bind fun t282 => ((laws_eqByteS.f k t282 t272).bind fun t285 => (if t285 = true then ((laws_toFrame.f k a0_0 a0_1 a0_2 l0_3).bind fun bt286 => ((laws_eqFrame.f k bt275.1 bt275.2.1 bt275.2.2.1 bt275.2.2.2 bt286.1 bt286.2.1 bt286.2.2.1 bt286.2.2.2).bind fun t292 => (if t292 = true then ((laws_markFrame.f k bt275.1 bt275.2.1 bt275.2.2.1 bt275.2.2.2 1).bind fun bt293 => (if bt293.1 < 0 then (laws_FnExactPutFrame.j0 k t272 t282 true a0_0 a0_1 a0_2 l0_3) else ((laws_eqByteS.f k t282 t272).bind fun t295 => (laws_FnExactPutFrame.j0 k t272 t282 (!t295) a0_0 a0_1 a0_2 l0_3)))) else (some false)))) else (some false)))))) = some r := H
    have A7 := am A70
    clear A70
    replace H := Option.bind_eq_some_iff.mp H
    obtain ⟨t272, A80, H⟩ := H
    replace H : ((laws_toFrame.f k a0_0 a0_1 a0_2 l0_3).bind fun bt275 => ((impl_PutFrame.f k bt275.1 bt275.2.1 bt275.2.2.1 bt275.2.2.2).bind fun t282 => ((laws_eqByteS.f k t282 t272).bind fun t285 => (if t285 = true then ((laws_toFrame.f k a0_0 a0_1 a0_2 l0_3).bind fun bt286 => ((laws_eqFrame.f k bt275.1 bt275.2.1 bt275.2.2.1 bt275.2.2.2 bt286.1 bt286.2.1 bt286.2.2.1 bt286.2.2.2).bind fun t292 => (if t292 = true then ((laws_markFrame.f k bt275.1 bt275.2.1 bt275.2.2.1 bt275.2.2.2 1).bind fun bt293 => (if bt293.1 < 0 then (laws_FnExactPutFrame.j0 k t272 t282 true a0_0 a0_1 a0_2 l0_3) else ((laws_eqByteS.f k t282 t272).bind fun t295 => (laws_FnExactPutFrame.j0 k t272 t282 (!t295) a0_0 a0_1 a0_2 l0_3)))) else (some false)))) else (some false))))) = some r := H
    have A8 := am A80
    clear A80
    replace H := Option.bind_eq_some_iff.mp H
    obtain ⟨⟨t275, t276, t277, t278⟩, A90, H⟩ := H
    replace H : ((impl_PutFrame.f k t275 t276 t277 t278).bind fun t282 => ((laws_eqByteS.f k t282 t272).bind fun t285 => (if t285 = true then ((laws_toFrame.f k a0_0 a0_1 a0_2 l0_3).bind fun bt286 => ((laws_eqFrame.f k t275 t276 t277 t278 bt286.1 bt286.2.1 bt286.2.2.1 bt286.2.2.2).bind fun t292 => (if t292 = true then ((laws_markFrame.f k t275 t276 t277 t278 1).bind fun bt293 => (if bt293.1 < 0 then (laws_FnExactPutFrame.j0 k t272 t282 true a0_0 a0_1 a0_2 l0_3) else ((laws_eqByteS.f k t282 t272).bind fun t295 => (laws_FnExactPutFrame.j0 k t272 t282 (!t295) a0_0 a0_1 a0_2 l0_3)))) else (some false)))) else (some false)))) = some r := H
    have A9 := am A90
    clear A90
    replace H := Option.bind_eq_some_iff.mp H
    obtain ⟨t282, A100, H⟩ := H
    replace H : ((laws_eqByteS.f k t282 t272).bind fun t285 => (if t285 = true then ((laws_toFrame.f k a0_0 a0_1 a0_2 l0_3).bind fun bt286 => ((laws_eqFrame.f k t275 t276 t277 t278 bt286.1 bt286.2.1 bt286.2.2.1 bt286.2.2.2).bind fun t292 => (if t292 = true then ((laws_markFrame.f k t275 t276 t277 t278 1).bind fun bt293 => (if bt293.1 < 0 then (laws_FnExactPutFrame.j0 k t272 t282 true a0_0 a0_1 a0_2 l0_3) else ((laws_eqByteS.f k t282 t272).bind fun t295 => (laws_FnExactPutFrame.j0 k t272 t282 (!t295) a0_0 a0_1 a0_2 l0_3)))) else (some false)))) else (some false))) = some r := H
    have A10 := am A100
    clear A100
    replace H := Option.bind_eq_some_iff.mp H
    obtain ⟨t285, A110, H⟩ := H
    replace H : (if t285 = true then ((laws_toFrame.f k a0_0 a0_1 a0_2 l0_3).bind fun bt286 => ((laws_eqFrame.f k t275 t276 t277 t278 bt286.1 bt286.2.1 bt286.2.2.1 bt286.2.2.2).bind fun t292 => (if t292 = true then ((laws_markFrame.f k t275 t276 t277 t278 1).bind fun bt293 => (if bt293.1 < 0 then (laws_FnExactPutFrame.j0 k t272 t282 true a0_0 a0_1 a0_2 l0_3) else ((laws_eqByteS.f k t282 t272).bind fun t295 => (laws_FnExactPutFrame.j0 k t272 t282 (!t295) a0_0 a0_1 a0_2 l0_3)))) else (some false)))) else (some false)) = some r := H
    have A11 := am A110
    clear A110
    by_cases c12 : t285 = true
    · subst c12
      have H1 : ((laws_toFrame.f k a0_0 a0_1 a0_2 l0_3).bind fun bt286 => ((laws_eqFrame.f k t275 t276 t277 t278 bt286.1 bt286.2.1 bt286.2.2.1 bt286.2.2.2).bind fun t292 => (if t292 = true then ((laws_markFrame.f k t275 t276 t277 t278 1).bind fun bt293 => (if bt293.1 < 0 then (laws_FnExactPutFrame.j0 k t272 t282 true a0_0 a0_1 a0_2 l0_3) else ((laws_eqByteS.f k t282 t272).bind fun t295 => (laws_FnExactPutFrame.j0 k t272 t282 (!t295) a0_0 a0_1 a0_2 l0_3)))) else (some false)))) = some r := by rw [if_pos rfl] at H; exact H
      clear H
      have H := H1
      clear H1
      replace H := Option.bind_eq_some_iff.mp H
      obtain ⟨⟨t286, t287, t288, t289⟩, A130, H⟩ := H
      replace H : ((laws_eqFrame.f k t275 t276 t277 t278 t286 t287 t288 t289).bind fun t292 => (if t292 = true then ((laws_markFrame.f k t275 t276 t277 t278 1).bind fun bt293 => (if bt293.1 < 0 then (laws_FnExactPutFrame.j0 k t272 t282 true a0_0 a0_1 a0_2 l0_3) else ((laws_eqByteS.f k t282 t272).bind fun t295 => (laws_FnExactPutFrame.j0 k t272 t282 (!t295) a0_0 a0_1 a0_2 l0_3)))) else (some false))) = some r := H
      have A13 := am A130
      clear A130
      replace H := Option.bind_eq_some_iff.mp H
      obtain ⟨t292, A140, H⟩ := H
      replace H : (if t292 = true then ((laws_markFrame.f k t275 t276 t277 t278 1).bind fun bt293 => (if bt293.1 < 0 then (laws_FnExactPutFrame.j0 k t272 t282 true a0_0 a0_1 a0_2 l0_3) else ((laws_eqByteS.f k t282 t272).bind fun t295 => (laws_FnExactPutFrame.j0 k t272 t282 (!t295) a0_0 a0_1 a0_2 l0_3)))) else (some false)) = some r := H
      have A14 := am A140
      clear A140
      by_cases c15 : t292 = true
      · subst c15
        have H1 : ((laws_markFrame.f k t275 t276 t277 t278 1).bind fun bt293 => (if bt293.1 < 0 then (laws_FnExactPutFrame.j0 k t272 t282 true a0_0 a0_1 a0_2 l0_3) else ((laws_eqByteS.f k t282 t272).bind fun t295 => (laws_FnExactPutFrame.j0 k t272 t282 (!t295) a0_0 a0_1 a0_2 l0_3)))) = some r := by rw [if_pos rfl] at H; exact H
        clear H
        have H := H1
        clear H1
        replace H := Option.bind_eq_some_iff.mp H
        obtain ⟨⟨t293, t294⟩, A160, H⟩ := H
        replace H : (if t293 < 0 then (laws_FnExactPutFrame.j0 k t272 t282 true a0_0 a0_1 a0_2 l0_3) else ((laws_eqByteS.f k t282 t272).bind fun t295 => (laws_FnExactPutFrame.j0 k t272 t282 (!t295) a0_0 a0_1 a0_2 l0_3))) = some r := H
        have A16 := am A160
        clear A160
        have HC17 := am H
        clear H
        go_enter Try.func14, Try.ntmps14
        try go_wp2_with (first | ((with_reducible refine gate_dst (N := 1) rfl ?_); refine box_event ?hg (N := 1) ?hd (cs := #[.int .i64 a0_0, .int .i64 a0_1, .int .i64 a0_2, .slice A0_3 l0_3.length c0_3]) (t := 90) ?hr ?_; (case hd => rfl); (case hg => rfl); (case hr => first | (go_simp; done) | (go_simp; rfl)); intro gb264 hg w18 hbox hb; have n0_ := am (below_step (bq HB.out) hb); have n1_ := am (hbox); have n2_ := am ((by rw [hg]; exact (below_size (bq HB.out)) : w.heap.size ≤ gb264)); have n3_ := am ((by rw [hg]; exact (below_size (bq HB.out)) : w.heap.size ≤ gb264)); clear HB; have HB := n0_; have BK264 := n1_; have GW264 := n2_; have GE264 := n3_; clear n0_ n1_ n2_ n3_; clear hb hbox hg; have hcz19_0 : w18.cell? ⟨gb264, 0, none⟩ = some (.int .i64 a0_0) := (blk_cell BK264.out 0).trans rfl; have hcz19_1 : w18.cell? ⟨gb264, 1, none⟩ = some (.int .i64 a0_1) := (blk_cell BK264.out 1).trans rfl; have hcz19_2 : w18.cell? ⟨gb264, 2, none⟩ = some (.int .i64 a0_2) := (blk_cell BK264.out 2).trans rfl; have hcz19_3 : w18.cell? ⟨gb264, 3, none⟩ = some (.slice A0_3 l0_3.length c0_3) := (blk_cell BK264.out 3).trans rfl; have hfz19_0 := blk_frozen BK264.out 0; have hfz19_1 := blk_frozen BK264.out 1; have hfz19_2 := blk_frozen BK264.out 2; have hfz19_3 := blk_frozen BK264.out 3) | ((with_reducible refine gate_callee (f := 73) rfl ?_); refine goesL_ (some 13) rfl rfl Try.func73 (by kernel_rfl) rfl #[.agg #[.int .i64 a0_0, .int .i64 a0_1, .int .i64 a0_2, .slice A0_3 l0_3.length c0_3], .int .i64 1048576] rfl (by (try simp only [List.map_toArray, List.map_cons, List.map_nil]); first | done | rfl | (simp only [List.length_drop, List.length_take]; rfl)) ?_; (with_reducible refine (laws_szFrame.calls a0_0 a0_1 a0_2 _ _ l0_3 1048576 t265 _ ?side1 ?side2 A2.out).mono ?_); (case side1 => exact cq (Kd.C_below HR0_3.out HB.out)); (case side2 => exact HC0_3.out); rintro e w20 ⟨rfl, hb⟩; refine ⟨_, rfl, ?_⟩; have n0_ := am (blk_below (g := gb264) (o := .cells #[.int .i64 a0_0, .int .i64 a0_1, .int .i64 a0_2, .slice A0_3 l0_3.length c0_3] 90 (0, 0)) (zq BK264.out) hb); have n1_ := am (below_step (by repeat (first | (with_reducible first | exact HB.out | apply below_alloc | apply pw_below_drewN | apply below_drew1 | refine below_set ?_ GE264.out) | exact HB.out)) hb); clear BK264; clear HB; have BK264 := n0_; have HB := n1_; clear n0_ n1_; (try clear hb); (try clear hb2); (try clear hk); (try clear hi); have hcz21_0 : w20.cell? ⟨gb264, 0, none⟩ = some (.int .i64 a0_0) := (blk_cell BK264.out 0).trans rfl; have hcz21_1 : w20.cell? ⟨gb264, 1, none⟩ = some (.int .i64 a0_1) := (blk_cell BK264.out 1).trans rfl; have hcz21_2 : w20.cell? ⟨gb264, 2, none⟩ = some (.int .i64 a0_2) := (blk_cell BK264.out 2).trans rfl; have hcz21_3 : w20.cell? ⟨gb264, 3, none⟩ = some (.slice A0_3 l0_3.length c0_3) := (blk_cell BK264.out 3).trans rfl; have hfz21_0 := blk_frozen BK264.out 0; have hfz21_1 := blk_frozen BK264.out 1; have hfz21_2 := blk_frozen BK264.out 2; have hfz21_3 := blk_frozen BK264.out 3) | ((with_reducible refine gate_callee (f := 75) rfl ?_); refine goesL_ (some 17) rfl rfl Try.func75 (by kernel_rfl) rfl #[.agg #[.int .i64 a0_0, .int .i64 a0_1, .int .i64 a0_2, .slice A0_3 l0_3.length c0_3]] rfl (by (try simp only [List.map_toArray, List.map_cons, List.map_nil]); first | done | rfl | (simp only [List.length_drop, List.length_take]; rfl)) ?_; (with_reducible refine (laws_toFrame.calls k a0_0 a0_1 a0_2 _ _ l0_3 t266 t267 t268 t269 _ ?side1 ?side2 A7.out).mono ?_); (case side1 => exact cq (Kd.C_below HR0_3.out HB.out)); (case side2 => exact HC0_3.out); rintro e w22 ⟨v270, rfl, ho0, hb⟩; refine ⟨_, rfl, ?_⟩; have n0_ := am (Kd.R_lower ho0 (below_size (by repeat (first | (with_reducible first | exact HB.out | apply below_alloc | apply pw_below_drewN | apply below_drew1 | refine below_set ?_ GE264.out) | exact HB.out)))); have n1_ := am (blk_below (g := gb264) (o := .cells #[.int .i64 a0_0, .int .i64 a0_1, .int .i64 a0_2, .slice A0_3 l0_3.length c0_3] 90 (0, 0)) (zq BK264.out) hb); have n2_ := am (below_step (by repeat (first | (with_reducible first | exact HB.out | apply below_alloc | apply pw_below_drewN | apply below_drew1 | refine below_set ?_ GE264.out) | exact HB.out)) hb); clear BK264; clear HB; have HO271 := n0_; have BK264 := n1_; have HB := n2_; clear n0_ n1_ n2_; (try clear hb); (try clear hb2); (try clear hk); (try clear hi); (try clear ho0); obtain ⟨Ao23, co23, eo23⟩ := Kd.R_slice HO271.out; subst eo23) | ((with_reducible refine gate_callee (f := 74) rfl ?_); refine goesL_ (some 18) rfl rfl Try.func74 (by kernel_rfl) rfl #[.agg #[.int .i64 t266, .int .i64 t267, .int .i64 t268, .slice Ao23 t269.length co23]] rfl (by (try simp only [List.map_toArray, List.map_cons, List.map_nil]); first | done | rfl | (simp only [List.length_drop, List.length_take]; rfl)) ?_; (with_reducible refine (spec_PutFrame.calls k t266 t267 t268 _ _ t269 t272 _ ?side1 ?side2 A8.out).mono ?_); (case side1 => repeat (first | exact (Kd.R_reads' HO271.out).2.2 | (with_reducible refine Kd.C_alloc ?_ _) | (with_reducible refine Kd.C_drewN ?_ _) | (with_reducible refine Kd.C_drew ?_))); (case side2 => exact (Kd.R_reads' HO271.out).2.1); rintro e w24 ⟨v273, rfl, ho0, hb⟩; refine ⟨_, rfl, ?_⟩; have n0_ := am (Kd.R_elder' (kqR HO271.out) (Kd.R_base ho0) hb); have n1_ := am (Kd.R_lower (Kd.R_new' ho0 (Kd.R_lt (kqR HO271.out))) (below_size (by repeat (first | (with_reducible first | exact HB.out | apply below_alloc | apply pw_below_drewN | apply below_drew1 | refine below_set ?_ GE264.out) | exact HB.out)))); have n2_ := am (blk_below (g := gb264) (o := .cells #[.int .i64 a0_0, .int .i64 a0_1, .int .i64 a0_2, .slice A0_3 l0_3.length c0_3] 90 (0, 0)) (zq BK264.out) hb); have n3_ := am (below_step (by repeat (first | (with_reducible first | exact HB.out | apply below_alloc | apply pw_below_drewN | apply below_drew1 | refine below_set ?_ GE264.out) | exact HB.out)) hb); clear HO271; clear BK264; clear HB; have HO271 := n0_; have HO274 := n1_; have BK264 := n2_; have HB := n3_; clear n0_ n1_ n2_ n3_; (try clear hb); (try clear hb2); (try clear hk); (try clear hi); (try clear ho0); have hcz25_0 : w24.cell? ⟨gb264, 0, none⟩ = some (.int .i64 a0_0) := (blk_cell BK264.out 0).trans rfl; have hcz25_1 : w24.cell? ⟨gb264, 1, none⟩ = some (.int .i64 a0_1) := (blk_cell BK264.out 1).trans rfl; have hcz25_2 : w24.cell? ⟨gb264, 2, none⟩ = some (.int .i64 a0_2) := (blk_cell BK264.out 2).trans rfl; have hcz25_3 : w24.cell? ⟨gb264, 3, none⟩ = some (.slice A0_3 l0_3.length c0_3) := (blk_cell BK264.out 3).trans rfl; have hfz25_0 := blk_frozen BK264.out 0; have hfz25_1 := blk_frozen BK264.out 1; have hfz25_2 := blk_frozen BK264.out 2; have hfz25_3 := blk_frozen BK264.out 3) | ((with_reducible refine gate_callee (f := 75) rfl ?_); refine goesL_ (some 20) rfl rfl Try.func75 (by kernel_rfl) rfl #[.agg #[.int .i64 a0_0, .int .i64 a0_1, .int .i64 a0_2, .slice A0_3 l0_3.length c0_3]] rfl (by (try simp only [List.map_toArray, List.map_cons, List.map_nil]); first | done | rfl | (simp only [List.length_drop, List.length_take]; rfl)) ?_; (with_reducible refine (laws_toFrame.calls k a0_0 a0_1 a0_2 _ _ l0_3 t275 t276 t277 t278 _ ?side1 ?side2 A9.out).mono ?_); (case side1 => exact cq (Kd.C_below HR0_3.out HB.out)); (case side2 => exact HC0_3.out); rintro e w26 ⟨v279, rfl, ho0, hb⟩; refine ⟨_, rfl, ?_⟩; have n0_ := am (Kd.R_elder' (kqR HO271.out) (Kd.R_base ho0) hb); have n1_ := am (Kd.R_elder' (kqR HO274.out) (Kd.R_base ho0) hb); have n2_ := am (Kd.R_lower (Kd.R_new' (Kd.R_new' ho0 (Kd.R_lt (kqR HO271.out))) (Kd.R_lt (kqR HO274.out))) (below_size (by repeat (first | (with_reducible first | exact HB.out | apply below_alloc | apply pw_below_drewN | apply below_drew1 | refine below_set ?_ GE264.out) | exact HB.out)))); have n3_ := am (blk_below (g := gb264) (o := .cells #[.int .i64 a0_0, .int .i64 a0_1, .int .i64 a0_2, .slice A0_3 l0_3.length c0_3] 90 (0, 0)) (zq BK264.out) hb); have n4_ := am (below_step (by repeat (first | (with_reducible first | exact HB.out | apply below_alloc | apply pw_below_drewN | apply below_drew1 | refine below_set ?_ GE264.out) | exact HB.out)) hb); clear HO271; clear HO274; clear BK264; clear HB; have HO271 := n0_; have HO274 := n1_; have HO280 := n2_; have BK264 := n3_; have HB := n4_; clear n0_ n1_ n2_ n3_ n4_; (try clear hb); (try clear hb2); (try clear hk); (try clear hi); (try clear ho0)) | ((with_reducible refine gate_dst (N := 5) rfl ?_); refine box_event ?hg (N := 5) ?hd (cs := #[.int .i64 0, .int .i64 0, .int .i64 0, .slice none 0 0]) (t := 93) ?hr ?_; (case hd => rfl); (case hg => rfl); (case hr => first | (go_simp; done) | (go_simp; rfl)); intro gb281 hg w27 hbox hb; have n0_ := am (Kd.R_below (kqR HO271.out) hb); have n1_ := am (Kd.R_below (kqR HO274.out) hb); have n2_ := am (Kd.R_below (kqR HO280.out) hb); have n3_ := am (blk_below (g := gb264) (o := .cells #[.int .i64 a0_0, .int .i64 a0_1, .int .i64 a0_2, .slice A0_3 l0_3.length c0_3] 90 (0, 0)) (zq BK264.out) hb); have n4_ := am (below_step (by repeat (first | (with_reducible first | exact HB.out | apply below_alloc | apply pw_below_drewN | apply below_drew1 | refine below_set ?_ GE264.out) | exact HB.out)) hb); have n5_ := am (hbox); have n6_ := am ((by rw [hg]; exact (below_size (by repeat (first | (with_reducible first | exact HB.out | apply below_alloc | apply pw_below_drewN | apply below_drew1 | refine below_set ?_ GE264.out) | exact HB.out))) : w.heap.size ≤ gb281)); have n7_ := am ((by rw [hg]; exact (below_size (by repeat (first | (with_reducible first | exact HB.out | apply below_alloc | apply pw_below_drewN | apply below_drew1 | refine below_set ?_ GE264.out) | exact HB.out))) : w.heap.size ≤ gb281)); have n8_ := am ((by rw [hg]; exact Nat.ne_of_lt (blk_lt (g := gb264) (o := .cells #[.int .i64 a0_0, .int .i64 a0_1, .int .i64 a0_2, .slice A0_3 l0_3.length c0_3] 90 (0, 0)) (zq BK264.out)) : gb264 ≠ gb281)); have n9_ := am ((by rw [hg]; exact Nat.ne_of_gt (blk_lt (g := gb264) (o := .cells #[.int .i64 a0_0, .int .i64 a0_1, .int .i64 a0_2, .slice A0_3 l0_3.length c0_3] 90 (0, 0)) (zq BK264.out)) : gb281 ≠ gb264)); clear HO271; clear HO274; clear HO280; clear BK264; clear HB; have HO271 := n0_; have HO274 := n1_; have HO280 := n2_; have BK264 := n3_; have HB := n4_; have BK281 := n5_; have GW281 := n6_; have GE281 := n7_; have NB264_281 := n8_; have NB281_264 := n9_; clear n0_ n1_ n2_ n3_ n4_ n5_ n6_ n7_ n8_ n9_; clear hb hbox hg; have hnb28 := NB281_264.out; have hnc28 := NB264_281.out; have hcz29_0 : w27.cell? ⟨gb281, 0, none⟩ = some (.int .i64 0) := (blk_cell BK281.out 0).trans rfl; have hcz29_1 : w27.cell? ⟨gb281, 1, none⟩ = some (.int .i64 0) := (blk_cell BK281.out 1).trans rfl; have hcz29_2 : w27.cell? ⟨gb281, 2, none⟩ = some (.int .i64 0) := (blk_cell BK281.out 2).trans rfl; have hcz29_3 : w27.cell? ⟨gb281, 3, none⟩ = some (.slice none 0 0) := (blk_cell BK281.out 3).trans rfl; have hfz29_0 := blk_frozen BK281.out 0; have hfz29_1 := blk_frozen BK281.out 1; have hfz29_2 := blk_frozen BK281.out 2; have hfz29_3 := blk_frozen BK281.out 3; obtain ⟨Ao30, co30, eo30⟩ := Kd.R_slice HO280.out; subst eo30) | ((with_reducible refine gate_store (t := 93) (p := 5) rfl ?_); refine store_event (t := 93) (p := 5) (v := ?vo_w31) (w1 := ((((w27.setCell ⟨gb281, 0, none⟩ (.int .i64 t275)).setCell ⟨gb281, 1, none⟩ (.int .i64 t276)).setCell ⟨gb281, 2, none⟩ (.int .i64 t277)).setCell ⟨gb281, 3, none⟩ (.slice Ao30 t278.length co30))) ?hg ?ho ?hn ?hr ?_; (case ho => rfl); (case hg => rfl); (case hn => rfl); (case hr => first | (go_simp; done) | (go_simp; rfl)); intro w31 hw; have n0_ : Aside0 (Kd.R (Kd.int .u8) 5 w31 w.heap.size (fun k_ => some k_ ≠ (v273 : Value).ownBlock ∧ some k_ ≠ (.slice Ao30 t278.length co30 : Value).ownBlock) (.slice Ao23 t269.length co23) t269) := ⟨(by rw [hw]; exact (by (with_reducible repeat (first | apply Kd.R_alloc | apply Kd.R_drewN | apply Kd.R_drew)); exact Kd.R_mono (Kd.R_far (p := ⟨gb281, 3, none⟩) (Kd.R_far (p := ⟨gb281, 2, none⟩) (Kd.R_far (p := ⟨gb281, 1, none⟩) (Kd.R_far (p := ⟨gb281, 0, none⟩) (Kd.R_types HO271.out BK281.out (by decide)) (fun _ hk => hk.2) (.int .i64 t275)) (fun _ hk => hk.2) (.int .i64 t276)) (fun _ hk => hk.2) (.int .i64 t277)) (fun _ hk => hk.2) (.slice Ao30 t278.length co30)) (fun _ hk => ⟨hk.1.1.2, hk.1.2⟩)))⟩; have n1_ : Aside0 (Kd.R (Kd.int .u8) 5 w31 w.heap.size (fun k_ => some k_ ≠ (.slice Ao23 t269.length co23 : Value).ownBlock ∧ some k_ ≠ (.slice Ao30 t278.length co30 : Value).ownBlock) v273 t272) := ⟨(by rw [hw]; exact (by (with_reducible repeat (first | apply Kd.R_alloc | apply Kd.R_drewN | apply Kd.R_drew)); exact Kd.R_mono (Kd.R_far (p := ⟨gb281, 3, none⟩) (Kd.R_far (p := ⟨gb281, 2, none⟩) (Kd.R_far (p := ⟨gb281, 1, none⟩) (Kd.R_far (p := ⟨gb281, 0, none⟩) (Kd.R_types HO274.out BK281.out (by decide)) (fun _ hk => hk.2) (.int .i64 t275)) (fun _ hk => hk.2) (.int .i64 t276)) (fun _ hk => hk.2) (.int .i64 t277)) (fun _ hk => hk.2) (.slice Ao30 t278.length co30)) (fun _ hk => ⟨hk.1.1.2, hk.1.2⟩)))⟩; have n2_ : Aside0 (Kd.R (Kd.int .u8) 5 w31 w.heap.size (fun k_ => some k_ ≠ (.slice Ao23 t269.length co23 : Value).ownBlock ∧ some k_ ≠ (v273 : Value).ownBlock) (.slice Ao30 t278.length co30) t278) := ⟨(by rw [hw]; exact (by (with_reducible repeat (first | apply Kd.R_alloc | apply Kd.R_drewN | apply Kd.R_drew)); exact Kd.R_mono (Kd.R_far (p := ⟨gb281, 3, none⟩) (Kd.R_far (p := ⟨gb281, 2, none⟩) (Kd.R_far (p := ⟨gb281, 1, none⟩) (Kd.R_far (p := ⟨gb281, 0, none⟩) (Kd.R_types HO280.out BK281.out (by decide)) (fun _ hk => hk.2) (.int .i64 t275)) (fun _ hk => hk.2) (.int .i64 t276)) (fun _ hk => hk.2) (.int .i64 t277)) (fun _ hk => hk.2) (.slice Ao30 t278.length co30)) (fun _ hk => ⟨hk.1.1.2, hk.1.2⟩)))⟩; have n3_ : Aside0 (w31.heap[gb264]? = some (.cells #[.int .i64 a0_0, .int .i64 a0_1, .int .i64 a0_2, .slice A0_3 l0_3.length c0_3] 90 (0, 0))) := ⟨(by rw [hw]; exact (by (with_reducible repeat (first | refine blk_drewN ?_ _ | refine blk_drew ?_ | refine blk_alloc ?_ _)); refine blk_far ?_ NB264_281.out _; (with_reducible repeat (first | refine blk_drewN ?_ _ | refine blk_drew ?_ | refine blk_alloc ?_ _)); refine blk_far ?_ NB264_281.out _; (with_reducible repeat (first | refine blk_drewN ?_ _ | refine blk_drew ?_ | refine blk_alloc ?_ _)); refine blk_far ?_ NB264_281.out _; (with_reducible repeat (first | refine blk_drewN ?_ _ | refine blk_drew ?_ | refine blk_alloc ?_ _)); refine blk_far ?_ NB264_281.out _; (with_reducible repeat (first | refine blk_drewN ?_ _ | refine blk_drew ?_ | refine blk_alloc ?_ _)); exact BK264.out))⟩; have n4_ : Aside0 (w31.heap[gb281]? = some (.cells #[.int .i64 t275, .int .i64 t276, .int .i64 t277, .slice Ao30 t278.length co30] 93 (0, 0))) := ⟨(by rw [hw]; exact (by (with_reducible repeat (first | refine blk_drewN ?_ _ | refine blk_drew ?_ | refine blk_alloc ?_ _)); refine blk_put (cs := #[.int .i64 t275, .int .i64 t276, .int .i64 t277, .slice none 0 0]) ?_ 3 _ rfl; (with_reducible repeat (first | refine blk_drewN ?_ _ | refine blk_drew ?_ | refine blk_alloc ?_ _)); refine blk_put (cs := #[.int .i64 t275, .int .i64 t276, .int .i64 0, .slice none 0 0]) ?_ 2 _ rfl; (with_reducible repeat (first | refine blk_drewN ?_ _ | refine blk_drew ?_ | refine blk_alloc ?_ _)); refine blk_put (cs := #[.int .i64 t275, .int .i64 0, .int .i64 0, .slice none 0 0]) ?_ 1 _ rfl; (with_reducible repeat (first | refine blk_drewN ?_ _ | refine blk_drew ?_ | refine blk_alloc ?_ _)); refine blk_put (cs := #[.int .i64 0, .int .i64 0, .int .i64 0, .slice none 0 0]) ?_ 0 _ rfl; (with_reducible repeat (first | refine blk_drewN ?_ _ | refine blk_drew ?_ | refine blk_alloc ?_ _)); exact BK281.out))⟩; have n5_ : Aside0 (Below w.heap.size w w31) := ⟨(by rw [hw]; exact (by repeat (first | (with_reducible first | exact HB.out | apply below_alloc | apply pw_below_drewN | apply below_drew1 | refine below_set ?_ GE264.out | refine below_set ?_ GE281.out) | exact HB.out)))⟩; clear hw; clear HO271; clear HO274; clear HO280; clear BK264; clear BK281; clear HB; have HO271 := n0_; have HO274 := n1_; have HO280 := n2_; have BK264 := n3_; have BK281 := n4_; have HB := n5_; clear n0_ n1_ n2_ n3_ n4_ n5_; have hcz32_0 : w31.cell? ⟨gb281, 0, none⟩ = some (.int .i64 t275) := (blk_cell BK281.out 0).trans rfl; have hcz32_1 : w31.cell? ⟨gb281, 1, none⟩ = some (.int .i64 t276) := (blk_cell BK281.out 1).trans rfl; have hcz32_2 : w31.cell? ⟨gb281, 2, none⟩ = some (.int .i64 t277) := (blk_cell BK281.out 2).trans rfl; have hcz32_3 : w31.cell? ⟨gb281, 3, none⟩ = some (.slice Ao30 t278.length co30) := (blk_cell BK281.out 3).trans rfl; have hfz32_0 := blk_frozen BK281.out 0; have hfz32_1 := blk_frozen BK281.out 1; have hfz32_2 := blk_frozen BK281.out 2; have hfz32_3 := blk_frozen BK281.out 3) | ((with_reducible refine gate_callee (f := 76) rfl ?_); refine goesL_ (some 22) rfl rfl Try.func76 (by kernel_rfl) rfl #[.agg #[.int .i64 t275, .int .i64 t276, .int .i64 t277, .slice Ao30 t278.length co30]] rfl (by (try simp only [List.map_toArray, List.map_cons, List.map_nil]); first | done | rfl | (simp only [List.length_drop, List.length_take]; rfl)) ?_; (with_reducible refine (impl_PutFrame.calls k t275 t276 t277 _ _ t278 t282 _ ?side1 ?side2 A10.out).mono ?_); (case side1 => repeat (first | exact (Kd.R_reads' HO280.out).2.2 | (with_reducible refine Kd.C_alloc ?_ _) | (with_reducible refine Kd.C_drewN ?_ _) | (with_reducible refine Kd.C_drew ?_))); (case side2 => exact (Kd.R_reads' HO280.out).2.1); rintro e w33 ⟨v283, rfl, ho0, hb⟩; refine ⟨_, rfl, ?_⟩; have n0_ := am (Kd.R_elder' (kqR HO271.out) (Kd.R_base ho0) hb); have n1_ := am (Kd.R_elder' (kqR HO274.out) (Kd.R_base ho0) hb); have n2_ := am (Kd.R_elder' (kqR HO280.out) (Kd.R_base ho0) hb); have n3_ := am (Kd.R_lower (Kd.R_new' (Kd.R_new' (Kd.R_new' ho0 (Kd.R_lt (kqR HO271.out))) (Kd.R_lt (kqR HO274.out))) (Kd.R_lt (kqR HO280.out))) (below_size (by repeat (first | (with_reducible first | exact HB.out | apply below_alloc | apply pw_below_drewN | apply below_drew1 | refine below_set ?_ GE264.out | refine below_set ?_ GE281.out) | exact HB.out)))); have n4_ := am (blk_below (g := gb264) (o := .cells #[.int .i64 a0_0, .int .i64 a0_1, .int .i64 a0_2, .slice A0_3 l0_3.length c0_3] 90 (0, 0)) (zq BK264.out) hb); have n5_ := am (blk_below (g := gb281) (o := .cells #[.int .i64 t275, .int .i64 t276, .int .i64 t277, .slice Ao30 t278.length co30] 93 (0, 0)) (zq BK281.out) hb); have n6_ := am (below_step (by repeat (first | (with_reducible first | exact HB.out | apply below_alloc | apply pw_below_drewN | apply below_drew1 | refine below_set ?_ GE264.out | refine below_set ?_ GE281.out) | exact HB.out)) hb); clear HO271; clear HO274; clear HO280; clear BK264; clear BK281; clear HB; have HO271 := n0_; have HO274 := n1_; have HO280 := n2_; have HO284 := n3_; have BK264 := n4_; have BK281 := n5_; have HB := n6_; clear n0_ n1_ n2_ n3_ n4_ n5_ n6_; (try clear hb); (try clear hb2); (try clear hk); (try clear hi); (try clear ho0); obtain ⟨Ao34, co34, eo34⟩ := Kd.R_slice HO284.out; subst eo34; obtain ⟨Ao35, co35, eo35⟩ := Kd.R_slice HO274.out; subst eo35) | ((with_reducible refine gate_callee (f := 47) rfl ?_); refine goesL_ (some 25) rfl rfl Try.func47 (by kernel_rfl) rfl #[.slice Ao34 t282.length co34, .slice Ao35 t272.length co35] rfl (by (try simp only [List.map_toArray, List.map_cons, List.map_nil]); first | done | rfl | (simp only [List.length_drop, List.length_take]; rfl)) ?_; (with_reducible refine (laws_eqByteS.calls k _ _ t282 _ _ t272 true _ ?side1 ?side2 ?side3 ?side4 A11.out).mono ?_); (case side1 => repeat (first | exact (Kd.R_reads' HO284.out).2.2 | (with_reducible refine Kd.C_alloc ?_ _) | (with_reducible refine Kd.C_drewN ?_ _) | (with_reducible refine Kd.C_drew ?_))); (case side2 => exact (Kd.R_reads' HO284.out).2.1); (case side3 => repeat (first | exact (Kd.R_reads' HO274.out).2.2 | (with_reducible refine Kd.C_alloc ?_ _) | (with_reducible refine Kd.C_drewN ?_ _) | (with_reducible refine Kd.C_drew ?_))); (case side4 => exact (Kd.R_reads' HO274.out).2.1); rintro e w' ⟨rfl, ⟨nd, rfl⟩⟩; refine ⟨_, rfl, ?_⟩))
        (try (rw [drewN_self w33]; generalize hq_ : World.drewN w33 _ = w33; have n0_ := am (Kd.R_at hq_ HO271.out); have n1_ := am (Kd.R_at hq_ HO274.out); have n2_ := am (Kd.R_at hq_ HO280.out); have n3_ := am (Kd.R_at hq_ HO284.out); have n4_ := am (blk_at hq_ BK264.out); have n5_ := am (blk_at hq_ BK281.out); have n6_ := am (below_at hq_ HB.out); clear hq_ HO271 HO274 HO280 HO284 BK264 BK281 HB; have HO271 := n0_; have HO274 := n1_; have HO280 := n2_; have HO284 := n3_; have BK264 := n4_; have BK281 := n5_; have HB := n6_; clear n0_ n1_ n2_ n3_ n4_ n5_ n6_))
        have n0_ := am (Kd.R_drew HO271.out)
        have n1_ := am (Kd.R_drew HO274.out)
        have n2_ := am (Kd.R_drew HO280.out)
        have n3_ := am (Kd.R_drew HO284.out)
        have n4_ := am (blk_drew BK264.out)
        have n5_ := am (blk_drew BK281.out)
        have n6_ := am (below_drew1 HB.out)
        clear HO271
        clear HO274
        clear HO280
        clear HO284
        clear BK264
        clear BK281
        clear HB
        have HO271 := n0_
        have HO274 := n1_
        have HO280 := n2_
        have HO284 := n3_
        have BK264 := n4_
        have BK281 := n5_
        have HB := n6_
        clear n0_ n1_ n2_ n3_ n4_ n5_ n6_
        refine start_ (n := 5) (S := fun w' => w'.cell? ⟨gb281, 0, none⟩ = some (.int .i64 t275) ∧ w'.cell? ⟨gb281, 1, none⟩ = some (.int .i64 t276) ∧ w'.cell? ⟨gb281, 2, none⟩ = some (.int .i64 t277) ∧ w'.cell? ⟨gb281, 3, none⟩ = some (.slice Ao30 t278.length co30) ∧ w'.cell? ⟨gb264, 0, none⟩ = some (.int .i64 a0_0) ∧ w'.cell? ⟨gb264, 1, none⟩ = some (.int .i64 a0_1) ∧ w'.cell? ⟨gb264, 2, none⟩ = some (.int .i64 a0_2) ∧ w'.cell? ⟨gb264, 3, none⟩ = some (.slice A0_3 l0_3.length c0_3)) (ds := []) #[false, false, false, false, false] (by kernel_rfl) rfl rfl ⟨(blk_cell BK281.out 0).trans rfl, (blk_cell BK281.out 1).trans rfl, (blk_cell BK281.out 2).trans rfl, (blk_cell BK281.out 3).trans rfl, (blk_cell BK264.out 0).trans rfl, (blk_cell BK264.out 1).trans rfl, (blk_cell BK264.out 2).trans rfl, (blk_cell BK264.out 3).trans rfl⟩ (fun hHeld => ?_)
        generalize w33.drew = w36 at HO271 HO274 HO280 HO284 BK264 BK281 HB hHeld ⊢
        refine take_ (i := 0) (N := some 27) (v := ?_) (a' := ?_) #[true, false, false, false, false] rfl rfl (by kernel_rfl) (fun _ _ _ h => h) (Or.inl ⟨by rfl, ?_⟩) hHeld ?_ ?_
        rotate_left
        · rintro w' ⟨s0, s1, s2, s3, s4, s5, s6, s7⟩
          go_simp
          with_reducible rfl
        rotate_left
        · simp only [Act.put, List.setIfInBounds_toArray, List.set_cons_zero, List.set_cons_succ, i64_w, i32_w]
          rfl
        refine take_ (i := 1) (N := some 28) (v := ?_) (a' := ?_) #[true, true, false, false, false] rfl rfl (by kernel_rfl) (fun _ _ _ h => h) (Or.inl ⟨by rfl, ?_⟩) hHeld ?_ ?_
        rotate_left
        · rintro w' ⟨s0, s1, s2, s3, s4, s5, s6, s7⟩
          go_simp
          with_reducible rfl
        rotate_left
        · simp only [Act.put, List.setIfInBounds_toArray, List.set_cons_zero, List.set_cons_succ, i64_w, i32_w]
          rfl
        refine one_ (i := 2) (N := some 29) #[true, true, true, false, false] rfl rfl (by kernel_rfl) (by decide) (fun K hK => ?_)
        refine goes_ Try.func75 (by kernel_rfl) rfl #[.agg #[.int .i64 a0_0, .int .i64 a0_1, .int .i64 a0_2, .slice A0_3 l0_3.length c0_3]] (by rfl) rfl rfl (by (try simp only [List.map_toArray, List.map_cons, List.map_nil]); first | done | rfl | (simp only [List.length_drop, List.length_take]; rfl)) ?_
        with_reducible refine (laws_toFrame.calls k a0_0 a0_1 a0_2 _ _ l0_3 t286 t287 t288 t289 _ ?side1 ?side2 A13.out).mono ?_
        (case side1 => exact cq (Kd.C_below HR0_3.out HB.out))
        (case side2 => exact HC0_3.out)
        rintro e w37 ⟨v290, rfl, ho0, hb⟩
        refine ⟨_, rfl, ?_⟩
        have n0_ := am (Kd.R_elder' (kqR HO271.out) (Kd.R_base ho0) hb)
        have n1_ := am (Kd.R_elder' (kqR HO274.out) (Kd.R_base ho0) hb)
        have n2_ := am (Kd.R_elder' (kqR HO280.out) (Kd.R_base ho0) hb)
        have n3_ := am (Kd.R_elder' (kqR HO284.out) (Kd.R_base ho0) hb)
        have n4_ := am (Kd.R_lower (Kd.R_new' (Kd.R_new' (Kd.R_new' (Kd.R_new' ho0 (Kd.R_lt (kqR HO271.out))) (Kd.R_lt (kqR HO274.out))) (Kd.R_lt (kqR HO280.out))) (Kd.R_lt (kqR HO284.out))) (below_size (by repeat (first | (with_reducible first | exact HB.out | apply below_alloc | apply pw_below_drewN | apply below_drew1 | refine below_set ?_ GE264.out | refine below_set ?_ GE281.out) | exact HB.out))))
        have n5_ := am (blk_below (g := gb264) (o := .cells #[.int .i64 a0_0, .int .i64 a0_1, .int .i64 a0_2, .slice A0_3 l0_3.length c0_3] 90 (0, 0)) (zq BK264.out) hb)
        have n6_ := am (blk_below (g := gb281) (o := .cells #[.int .i64 t275, .int .i64 t276, .int .i64 t277, .slice Ao30 t278.length co30] 93 (0, 0)) (zq BK281.out) hb)
        have n7_ := am (below_step (by repeat (first | (with_reducible first | exact HB.out | apply below_alloc | apply pw_below_drewN | apply below_drew1 | refine below_set ?_ GE264.out | refine below_set ?_ GE281.out) | exact HB.out)) hb)
        clear HO271
        clear HO274
        clear HO280
        clear HO284
        clear BK264
        clear BK281
        clear HB
        have HO271 := n0_
        have HO274 := n1_
        have HO280 := n2_
        have HO284 := n3_
        have HO291 := n4_
        have BK264 := n5_
        have BK281 := n6_
        have HB := n7_
        clear n0_ n1_ n2_ n3_ n4_ n5_ n6_ n7_
        (try clear hb)
        (try clear hb2)
        (try clear hk)
        (try clear hi)
        (try clear ho0)
        obtain ⟨Ao38, co38, eo38⟩ := Kd.R_slice HO291.out
        (first | subst eo38 | (injection eo38 with f1_ f2_ f3_; have f4_ := f1_.symm; have f5_ := f3_.symm; clear f1_ f2_ f3_; subst f4_; subst f5_))
        refine hK.out _ _ ⟨(blk_cell BK281.out 0).trans rfl, (blk_cell BK281.out 1).trans rfl, (blk_cell BK281.out 2).trans rfl, (blk_cell BK281.out 3).trans rfl, (blk_cell BK264.out 0).trans rfl, (blk_cell BK264.out 1).trans rfl, (blk_cell BK264.out 2).trans rfl, (blk_cell BK264.out 3).trans rfl⟩ (fun hHeld => ?_)
        clear hK K
        refine norm_ (a' := ?_) ?_ ?_
        rotate_left
        · show Act.put _ (some 29) _ = _
          simp only [Act.put, List.setIfInBounds_toArray, List.set_cons_zero, List.set_cons_succ, i64_w, i32_w]
          rfl
        refine one_ (i := 3) (N := some 30) #[true, true, true, true, false] rfl rfl (by kernel_rfl) (by decide) (fun K hK => ?_)
        refine goes_ Try.func77 (by kernel_rfl) rfl #[.agg #[.int .i64 t275, .int .i64 t276, .int .i64 t277, .slice Ao30 t278.length co30], .agg #[.int .i64 t286, .int .i64 t287, .int .i64 t288, .slice Ao38 t289.length co38]] (by rfl) rfl rfl (by (try simp only [List.map_toArray, List.map_cons, List.map_nil]); first | done | rfl | (simp only [List.length_drop, List.length_take]; rfl)) ?_
        with_reducible refine (laws_eqFrame.calls k t275 t276 t277 _ _ t278 t286 t287 t288 _ _ t289 true _ ?side1 ?side2 ?side3 ?side4 A14.out).mono ?_
        (case side1 => repeat (first | exact (Kd.R_reads' HO280.out).2.2 | (with_reducible refine Kd.C_alloc ?_ _) | (with_reducible refine Kd.C_drewN ?_ _) | (with_reducible refine Kd.C_drew ?_)))
        (case side2 => exact (Kd.R_reads' HO280.out).2.1)
        (case side3 => repeat (first | exact (Kd.R_reads' HO291.out).2.2 | (with_reducible refine Kd.C_alloc ?_ _) | (with_reducible refine Kd.C_drewN ?_ _) | (with_reducible refine Kd.C_drew ?_)))
        (case side4 => exact (Kd.R_reads' HO291.out).2.1)
        rintro e w39 ⟨rfl, hb⟩
        refine ⟨_, rfl, ?_⟩
        have n0_ := am (Kd.R_below (kqR HO271.out) hb)
        have n1_ := am (Kd.R_below (kqR HO274.out) hb)
        have n2_ := am (Kd.R_below (kqR HO280.out) hb)
        have n3_ := am (Kd.R_below (kqR HO284.out) hb)
        have n4_ := am (Kd.R_below (kqR HO291.out) hb)
        have n5_ := am (blk_below (g := gb264) (o := .cells #[.int .i64 a0_0, .int .i64 a0_1, .int .i64 a0_2, .slice A0_3 l0_3.length c0_3] 90 (0, 0)) (zq BK264.out) hb)
        have n6_ := am (blk_below (g := gb281) (o := .cells #[.int .i64 t275, .int .i64 t276, .int .i64 t277, .slice Ao30 t278.length co30] 93 (0, 0)) (zq BK281.out) hb)
        have n7_ := am (below_step (by repeat (first | (with_reducible first | exact HB.out | apply below_alloc | apply pw_below_drewN | apply below_drew1 | refine below_set ?_ GE264.out | refine below_set ?_ GE281.out) | exact HB.out)) hb)
        clear HO271
        clear HO274
        clear HO280
        clear HO284
        clear HO291
        clear BK264
        clear BK281
        clear HB
        have HO271 := n0_
        have HO274 := n1_
        have HO280 := n2_
        have HO284 := n3_
        have HO291 := n4_
        have BK264 := n5_
        have BK281 := n6_
        have HB := n7_
        clear n0_ n1_ n2_ n3_ n4_ n5_ n6_ n7_
        (try clear hb)
        (try clear hb2)
        (try clear hk)
        (try clear hi)
        refine hK.out _ _ ⟨(blk_cell BK281.out 0).trans rfl, (blk_cell BK281.out 1).trans rfl, (blk_cell BK281.out 2).trans rfl, (blk_cell BK281.out 3).trans rfl, (blk_cell BK264.out 0).trans rfl, (blk_cell BK264.out 1).trans rfl, (blk_cell BK264.out 2).trans rfl, (blk_cell BK264.out 3).trans rfl⟩ (fun hHeld => ?_)
        clear hK K
        refine norm_ (a' := ?_) ?_ ?_
        rotate_left
        · show Act.put _ (some 30) _ = _
          simp only [Act.put, List.setIfInBounds_toArray, List.set_cons_zero, List.set_cons_succ, i64_w, i32_w]
          rfl
        refine pure_ (i := 4) (N := some 31) (v := ?_) (a' := ?_) #[true, true, true, true, true] rfl rfl (by kernel_rfl) (fun _ _ _ h => h) (Or.inl ⟨by rfl, ?_⟩) ?_ ?_
        rotate_left
        · intro w'
          go_simp
          with_reducible rfl
        rotate_left
        · simp only [Act.put, List.setIfInBounds_toArray, List.set_cons_zero, List.set_cons_succ, i64_w, i32_w]
          rfl
        refine done_ (by kernel_rfl) ?_
        have hcz40_0 : w39.cell? ⟨gb281, 0, none⟩ = some (.int .i64 t275) := (blk_cell BK281.out 0).trans rfl
        have hcz40_1 : w39.cell? ⟨gb281, 1, none⟩ = some (.int .i64 t276) := (blk_cell BK281.out 1).trans rfl
        have hcz40_2 : w39.cell? ⟨gb281, 2, none⟩ = some (.int .i64 t277) := (blk_cell BK281.out 2).trans rfl
        have hcz40_3 : w39.cell? ⟨gb281, 3, none⟩ = some (.slice Ao30 t278.length co30) := (blk_cell BK281.out 3).trans rfl
        have hfz40_0 := blk_frozen BK281.out 0
        have hfz40_1 := blk_frozen BK281.out 1
        have hfz40_2 := blk_frozen BK281.out 2
        have hfz40_3 := blk_frozen BK281.out 3
        go_upto_region 14 with (first | ((with_reducible refine gate_callee (f := 78) rfl ?_); refine goesL_ (some 34) rfl rfl Try.func78 (by kernel_rfl) rfl #[.agg #[.int .i64 t275, .int .i64 t276, .int .i64 t277, .slice Ao30 t278.length co30], .int .i64 1] rfl (by (try simp only [List.map_toArray, List.map_cons, List.map_nil]); first | done | rfl | (simp only [List.length_drop, List.length_take]; rfl)) ?_; (with_reducible refine (laws_markFrame.calls k t275 t276 t277 (fun k_ => some k_ = (.slice Ao30 t278.length co30 : Value).ownBlock) (.slice Ao30 t278.length co30) t278 1 t293 t294 w _ ?side1 ?side2 A16.out).mono ?_); (case side1 => repeat (first | (with_reducible first | exact HB.out | apply below_alloc | apply pw_below_drewN | apply below_drew1 | refine below_set ?_ GE264.out | refine below_set ?_ GE281.out) | exact HB.out)); (case side2 => exact Kd.R_tight rfl HO280.out); rintro e w41 ⟨rfl, hy0, hb, hkp⟩; refine ⟨_, rfl, ?_⟩; have n0_ := am (blk_kept (zq BK264.out) hkp (fun hs_ => (fun e_ => (Kd.R_ne HO280.out BK264.out (by decide)) e_) hs_)); have n1_ := am (Kd.R_mono (ok' := fun k_ => some k_ ≠ (.slice Ao35 t272.length co35 : Value).ownBlock ∧ some k_ ≠ (.slice Ao30 t278.length co30 : Value).ownBlock ∧ some k_ ≠ (.slice Ao34 t282.length co34 : Value).ownBlock ∧ some k_ ≠ (.slice Ao38 t289.length co38 : Value).ownBlock) (Kd.R_keptB (HO271.out) hkp (fun k_ hk_ hs_ => (hk_.1.1.2) hs_)) (fun k_ hk_ => ⟨hk_.1.1.1.1, hk_.1.1.1.2, hk_.1.1.2, hk_.1.2⟩)); have n2_ := am (Kd.R_mono (ok' := fun k_ => some k_ ≠ (.slice Ao23 t269.length co23 : Value).ownBlock ∧ some k_ ≠ (.slice Ao30 t278.length co30 : Value).ownBlock ∧ some k_ ≠ (.slice Ao34 t282.length co34 : Value).ownBlock ∧ some k_ ≠ (.slice Ao38 t289.length co38 : Value).ownBlock) (Kd.R_keptB (HO274.out) hkp (fun k_ hk_ hs_ => (hk_.1.1.2) hs_)) (fun k_ hk_ => ⟨hk_.1.1.1.1, hk_.1.1.1.2, hk_.1.1.2, hk_.1.2⟩)); have n3_ := am (Kd.R_reok rfl hy0 (fun k_ e_ => HO280.out.1 k_ e_)); have n4_ := am (blk_kept (zq BK281.out) hkp (fun hs_ => (fun e_ => (Kd.R_ne HO280.out BK281.out (by decide)) e_) hs_)); have n5_ := am (Kd.R_mono (ok' := fun k_ => some k_ ≠ (.slice Ao23 t269.length co23 : Value).ownBlock ∧ some k_ ≠ (.slice Ao35 t272.length co35 : Value).ownBlock ∧ some k_ ≠ (.slice Ao30 t278.length co30 : Value).ownBlock ∧ some k_ ≠ (.slice Ao38 t289.length co38 : Value).ownBlock) (Kd.R_keptB (HO284.out) hkp (fun k_ hk_ hs_ => (hk_.1.2) hs_)) (fun k_ hk_ => ⟨hk_.1.1.1.1.2, hk_.1.1.1.2, hk_.1.1.2, hk_.1.2⟩)); have n6_ := am (Kd.R_mono (ok' := fun k_ => some k_ ≠ (.slice Ao23 t269.length co23 : Value).ownBlock ∧ some k_ ≠ (.slice Ao35 t272.length co35 : Value).ownBlock ∧ some k_ ≠ (.slice Ao30 t278.length co30 : Value).ownBlock ∧ some k_ ≠ (.slice Ao34 t282.length co34 : Value).ownBlock) (Kd.R_keptB (HO291.out) hkp (fun k_ hk_ hs_ => (hk_.1.2) hs_)) (fun k_ hk_ => ⟨hk_.1.1.1.1.2, hk_.1.1.1.2, hk_.1.1.2, hk_.1.2⟩)); have n7_ := am (hb); clear BK264; clear HO271; clear HO274; clear HO280; clear BK281; clear HO284; clear HO291; clear HB; have BK264 := n0_; have HO271 := n1_; have HO274 := n2_; have HO280 := n3_; have BK281 := n4_; have HO284 := n5_; have HO291 := n6_; have HB := n7_; clear n0_ n1_ n2_ n3_ n4_ n5_ n6_ n7_; (try clear hb); (try clear hkp); (try clear hy0)))
        (try simp only [Act.put, List.setIfInBounds_toArray, List.set_cons_zero, List.set_cons_succ])
        go_cut [42] (fun v42 wc => ∃ (kq : Nat) (x42_16 : Bool), v42 = .bool x42_16 ∧ Aside0 (laws_FnExactPutFrame.j0 kq t272 t282 x42_16 a0_0 a0_1 a0_2 l0_3 = some r) ∧ Aside0 (kq ≤ k) ∧ Aside0 (Kd.R (Kd.int .u8) 5 wc w.heap.size (fun k_ => some k_ ≠ ((.slice Ao34 t282.length co34) : Value).ownBlock ∧ some k_ ≠ ((.slice Ao30 t278.length co30) : Value).ownBlock) (.slice Ao35 t272.length co35) t272) ∧ Aside0 (Kd.R (Kd.int .u8) 5 wc w.heap.size (fun k_ => some k_ ≠ ((.slice Ao35 t272.length co35) : Value).ownBlock ∧ some k_ ≠ ((.slice Ao30 t278.length co30) : Value).ownBlock) (.slice Ao34 t282.length co34) t282) ∧ Aside0 (Kd.R (Kd.int .u8) 5 wc w.heap.size (fun k_ => some k_ ≠ ((.slice Ao35 t272.length co35) : Value).ownBlock ∧ some k_ ≠ ((.slice Ao34 t282.length co34) : Value).ownBlock) (.slice Ao30 t278.length co30) t294) ∧ Aside0 (wc.heap[gb264]? = some (.cells #[.int .i64 a0_0, .int .i64 a0_1, .int .i64 a0_2, (.slice A0_3 l0_3.length c0_3)] 90 (0, 0))) ∧ Aside0 (wc.heap[gb281]? = some (.cells #[.int .i64 t275, .int .i64 t276, .int .i64 t277, (.slice Ao30 t278.length co30)] 93 (0, 0))) ∧ Aside0 (Below w.heap.size w wc))
        case first =>
          have H := HC17.out
          clear HC17
          by_cases c42 : t293 < 0
          · rw [if_pos c42] at H
            have c42b0 : decide (t293 < 0) = true := decide_eq_true c42
            clear c42
            (first | rw [c42b0] | (simp only [i64_w, i32_w]; rw [c42b0]) | skip)
            have H' := am H
            clear H
            go_wp2
            go_meet
            case rel => exact ⟨_, (true), (by first | rfl | (simp; done) | (simp [*]; done)), H', ⟨by first | omega | exact Nat.le_refl _⟩, ⟨by (with_reducible repeat (first | apply Kd.R_alloc | apply Kd.R_drewN | apply Kd.R_drew)); exact Kd.R_mono HO274.out (fun _ hk => ⟨hk.2.2.1, hk.2.1⟩)⟩, ⟨by (with_reducible repeat (first | apply Kd.R_alloc | apply Kd.R_drewN | apply Kd.R_drew)); exact Kd.R_mono HO284.out (fun _ hk => ⟨hk.2.1, hk.2.2.1⟩)⟩, ⟨by (with_reducible repeat (first | apply Kd.R_alloc | apply Kd.R_drewN | apply Kd.R_drew)); exact Kd.R_mono HO280.out (fun _ hk => ⟨hk.1.1.2, hk.1.2⟩)⟩, ⟨zq BK264.out⟩, ⟨zq BK281.out⟩, ⟨by repeat (first | (with_reducible first | exact HB.out | apply below_alloc | apply pw_below_drewN | apply below_drew1 | refine below_set ?_ GE264.out | refine below_set ?_ GE281.out) | exact HB.out)⟩⟩
          · rw [if_neg c42] at H
            have c42b0 : decide (t293 < 0) = false := decide_eq_false c42
            clear c42
            (first | rw [c42b0] | (simp only [i64_w, i32_w]; rw [c42b0]) | skip)
            replace H := Option.bind_eq_some_iff.mp H
            obtain ⟨t295, A430, H⟩ := H
            replace H : (laws_FnExactPutFrame.j0 k t272 t282 (!t295) a0_0 a0_1 a0_2 l0_3) = some r := H
            have A43 := am A430
            clear A430
            have H' := am H
            clear H
            go_wp2_with (first | (go_at_call 47; (with_reducible refine (laws_eqByteS.calls k _ _ t282 _ _ t272 t295 _ ?side1 ?side2 ?side3 ?side4 A43.out).mono ?_); (case side1 => repeat (first | exact (Kd.R_reads' HO284.out).2.2 | (with_reducible refine Kd.C_alloc ?_ _) | (with_reducible refine Kd.C_drewN ?_ _) | (with_reducible refine Kd.C_drew ?_))); (case side2 => exact (Kd.R_reads' HO284.out).2.1); (case side3 => repeat (first | exact (Kd.R_reads' HO274.out).2.2 | (with_reducible refine Kd.C_alloc ?_ _) | (with_reducible refine Kd.C_drewN ?_ _) | (with_reducible refine Kd.C_drew ?_))); (case side4 => exact (Kd.R_reads' HO274.out).2.1); rintro e w' ⟨rfl, ⟨nd, rfl⟩⟩))
            go_meet
            case rel => exact ⟨_, (!t295), (by first | rfl | (simp; done) | (simp [*]; done)), H', ⟨by first | omega | exact Nat.le_refl _⟩, ⟨by (with_reducible repeat (first | apply Kd.R_alloc | apply Kd.R_drewN | apply Kd.R_drew)); exact Kd.R_mono HO274.out (fun _ hk => ⟨hk.2.2.1, hk.2.1⟩)⟩, ⟨by (with_reducible repeat (first | apply Kd.R_alloc | apply Kd.R_drewN | apply Kd.R_drew)); exact Kd.R_mono HO284.out (fun _ hk => ⟨hk.2.1, hk.2.2.1⟩)⟩, ⟨by (with_reducible repeat (first | apply Kd.R_alloc | apply Kd.R_drewN | apply Kd.R_drew)); exact Kd.R_mono HO280.out (fun _ hk => ⟨hk.1.1.2, hk.1.2⟩)⟩, ⟨zq BK264.out⟩, ⟨zq BK281.out⟩, ⟨by repeat (first | (with_reducible first | exact HB.out | apply below_alloc | apply pw_below_drewN | apply below_drew1 | refine below_set ?_ GE264.out | refine below_set ?_ GE281.out) | exact HB.out)⟩⟩
        case rest =>
          clear HC17
          try clear c1
          try clear c2
          try clear p2
          try clear c3
          try clear c3b0
          try clear c4
          try clear c7
          try clear c12
          try clear c14
          try clear c15
          try clear c28
          try clear c42
          try clear c42b0
          try clear hcz19_0
          try clear hcz19_1
          try clear hcz19_2
          try clear hcz19_3
          try clear hcz21_0
          try clear hcz21_1
          try clear hcz21_2
          try clear hcz21_3
          try clear hcz25_0
          try clear hcz25_1
          try clear hcz25_2
          try clear hcz25_3
          try clear hcz29_0
          try clear hcz29_1
          try clear hcz29_2
          try clear hcz29_3
          try clear hcz32_0
          try clear hcz32_1
          try clear hcz32_2
          try clear hcz32_3
          try clear hcz40_0
          try clear hcz40_1
          try clear hcz40_2
          try clear hcz40_3
          try clear hcz5_0
          try clear hcz5_1
          try clear hcz5_2
          try clear hcz5_3
          try clear hfz19_0
          try clear hfz19_1
          try clear hfz19_2
          try clear hfz19_3
          try clear hfz21_0
          try clear hfz21_1
          try clear hfz21_2
          try clear hfz21_3
          try clear hfz25_0
          try clear hfz25_1
          try clear hfz25_2
          try clear hfz25_3
          try clear hfz29_0
          try clear hfz29_1
          try clear hfz29_2
          try clear hfz29_3
          try clear hfz32_0
          try clear hfz32_1
          try clear hfz32_2
          try clear hfz32_3
          try clear hfz40_0
          try clear hfz40_1
          try clear hfz40_2
          try clear hfz40_3
          try clear hfz5_0
          try clear hfz5_1
          try clear hfz5_2
          try clear hfz5_3
          obtain ⟨kq, x42_16, rfl, HA, HJ16, HO_4, HO_6, HO_282003, BK264, BK281, HB⟩ := hcut
          have hl282003_16 := (Kd.R_reads' HO_282003.out).1
          rw [hl282003_16] at HO_282003
          (try simp only [hl282003_16])
          (try simp only [hl282003_16] at BK264)
          (try simp only [hl282003_16] at BK281)
          (try simp only [hl282003_16] at HO_4)
          (try simp only [hl282003_16] at HO_6)
          cases kq with
          | zero => exact absurd HA.out (by simp [laws_FnExactPutFrame.j0])
          | succ kj16 =>
            have H := HA.out
            clear HA
            simp only [laws_FnExactPutFrame.j0] at H
            by_cases c44 : x42_16 = true
            · subst c44
              have H1 : (some false) = some r := by rw [if_pos rfl] at H; exact H
              clear H
              have H := H1
              clear H1
              exact absurd ((Option.some.inj H).trans HRT.out) (by decide)
            · replace c44 := Bool.eq_false_iff.mpr c44
              subst c44
              have H1 : ((laws_markByteS.f kj16 t282 1).bind fun bt296 => ((laws_heldByteS.f kj16 bt296.2 1).bind fun t298 => (if t298 < 0 then (some false) else (if t298 = bt296.1 then ((laws_toFrame.f kj16 a0_0 a0_1 a0_2 l0_3).bind fun bt299 => ((impl_PutFrame.f kj16 bt299.1 bt299.2.1 bt299.2.2.1 bt299.2.2.2).bind fun t305 => ((laws_eqByteS.f kj16 t305 t272).bind fun t308 => (if t308 = true then ((laws_heldByteS.f kj16 bt296.2 1).bind fun t309 => (if t309 < 0 then (some false) else (if t309 = bt296.1 then (some true) else (some false)))) else (some false))))) else (some false))))) = some r := by rw [if_neg (show ¬ (false = true) by decide)] at H; exact H
              clear H
              have H := H1
              clear H1
              replace H := Option.bind_eq_some_iff.mp H
              obtain ⟨⟨t296, t297⟩, A450, H⟩ := H
              replace H : ((laws_heldByteS.f kj16 t297 1).bind fun t298 => (if t298 < 0 then (some false) else (if t298 = t296 then ((laws_toFrame.f kj16 a0_0 a0_1 a0_2 l0_3).bind fun bt299 => ((impl_PutFrame.f kj16 bt299.1 bt299.2.1 bt299.2.2.1 bt299.2.2.2).bind fun t305 => ((laws_eqByteS.f kj16 t305 t272).bind fun t308 => (if t308 = true then ((laws_heldByteS.f kj16 t297 1).bind fun t309 => (if t309 < 0 then (some false) else (if t309 = t296 then (some true) else (some false)))) else (some false))))) else (some false)))) = some r := H
              have A45 := am A450
              clear A450
              replace H := Option.bind_eq_some_iff.mp H
              obtain ⟨t298, A460, H⟩ := H
              replace H : (if t298 < 0 then (some false) else (if t298 = t296 then ((laws_toFrame.f kj16 a0_0 a0_1 a0_2 l0_3).bind fun bt299 => ((impl_PutFrame.f kj16 bt299.1 bt299.2.1 bt299.2.2.1 bt299.2.2.2).bind fun t305 => ((laws_eqByteS.f kj16 t305 t272).bind fun t308 => (if t308 = true then ((laws_heldByteS.f kj16 t297 1).bind fun t309 => (if t309 < 0 then (some false) else (if t309 = t296 then (some true) else (some false)))) else (some false))))) else (some false))) = some r := H
              have A46 := am A460
              clear A460
              by_cases c47 : t298 < 0
              · rw [if_pos c47] at H
                have c47b0 : decide (t298 < 0) = true := decide_eq_true c47
                clear c47
                exact absurd ((Option.some.inj H).trans HRT.out) (by decide)
              · rw [if_neg c47] at H
                have c47b0 : decide (t298 < 0) = false := decide_eq_false c47
                clear c47
                by_cases c48 : t298 = t296
                · rw [if_pos c48] at H
                  have c48b0 : (t298 == t296) = true := beq_iff_eq.mpr c48
                  have c48b1 : (t298 != t296) = false := bne_eq_false_iff_eq.mpr c48
                  clear c48
                  replace H := Option.bind_eq_some_iff.mp H
                  obtain ⟨⟨t299, t300, t301, t302⟩, A490, H⟩ := H
                  replace H : ((impl_PutFrame.f kj16 t299 t300 t301 t302).bind fun t305 => ((laws_eqByteS.f kj16 t305 t272).bind fun t308 => (if t308 = true then ((laws_heldByteS.f kj16 t297 1).bind fun t309 => (if t309 < 0 then (some false) else (if t309 = t296 then (some true) else (some false)))) else (some false)))) = some r := H
                  have A49 := am A490
                  clear A490
                  replace H := Option.bind_eq_some_iff.mp H
                  obtain ⟨t305, A500, H⟩ := H
                  replace H : ((laws_eqByteS.f kj16 t305 t272).bind fun t308 => (if t308 = true then ((laws_heldByteS.f kj16 t297 1).bind fun t309 => (if t309 < 0 then (some false) else (if t309 = t296 then (some true) else (some false)))) else (some false))) = some r := H
                  have A50 := am A500
                  clear A500
                  replace H := Option.bind_eq_some_iff.mp H
                  obtain ⟨t308, A510, H⟩ := H
                  replace H : (if t308 = true then ((laws_heldByteS.f kj16 t297 1).bind fun t309 => (if t309 < 0 then (some false) else (if t309 = t296 then (some true) else (some false)))) else (some false)) = some r := H
                  have A51 := am A510
                  clear A510
                  by_cases c52 : t308 = true
                  · subst c52
                    have H1 : ((laws_heldByteS.f kj16 t297 1).bind fun t309 => (if t309 < 0 then (some false) else (if t309 = t296 then (some true) else (some false)))) = some r := by rw [if_pos rfl] at H; exact H
                    clear H
                    have H := H1
                    clear H1
                    replace H := Option.bind_eq_some_iff.mp H
                    obtain ⟨t309, A530, H⟩ := H
                    replace H : (if t309 < 0 then (some false) else (if t309 = t296 then (some true) else (some false))) = some r := H
                    have A53 := am A530
                    clear A530
                    by_cases c54 : t309 < 0
                    · rw [if_pos c54] at H
                      have c54b0 : decide (t309 < 0) = true := decide_eq_true c54
                      clear c54
                      exact absurd ((Option.some.inj H).trans HRT.out) (by decide)
                    · rw [if_neg c54] at H
                      have c54b0 : decide (t309 < 0) = false := decide_eq_false c54
                      clear c54
                      by_cases c55 : t309 = t296
                      · rw [if_pos c55] at H
                        have c55b0 : (t309 == t296) = true := beq_iff_eq.mpr c55
                        have c55b1 : (t309 != t296) = false := bne_eq_false_iff_eq.mpr c55
                        clear c55
                        obtain rfl := Option.some.inj H
                        go_wp2_with (first | ((with_reducible refine gate_callee (f := 48) rfl ?_); refine goesL_ (some 45) rfl rfl Try.func48 (by kernel_rfl) rfl #[.slice Ao34 t282.length co34, .int .i64 1] rfl (by (try simp only [List.map_toArray, List.map_cons, List.map_nil]); first | done | rfl | (simp only [List.length_drop, List.length_take]; rfl)) ?_; (with_reducible refine (laws_markByteS.calls kj16 (fun k_ => some k_ = (.slice Ao34 t282.length co34 : Value).ownBlock) (.slice Ao34 t282.length co34) t282 1 t296 t297 w _ ?side1 ?side2 A45.out).mono ?_); (case side1 => repeat (first | (with_reducible first | exact HB.out | apply below_alloc | apply pw_below_drewN | apply below_drew1 | refine below_set ?_ GE264.out | refine below_set ?_ GE281.out) | exact HB.out)); (case side2 => exact Kd.R_tight rfl HO_6.out); rintro e w56 ⟨rfl, hy0, hb, hkp⟩; refine ⟨_, rfl, ?_⟩; have n0_ := am (Kd.R_mono (ok' := fun k_ => some k_ ≠ (.slice Ao34 t282.length co34 : Value).ownBlock ∧ some k_ ≠ (.slice Ao30 t294.length co30 : Value).ownBlock) (Kd.R_keptB (HO_4.out) hkp (fun k_ hk_ hs_ => (hk_.1) hs_)) (fun k_ hk_ => ⟨hk_.1.1, hk_.1.2⟩)); have n1_ := am (Kd.R_reok rfl hy0 (fun k_ e_ => HO_6.out.1 k_ e_)); have n2_ := am (Kd.R_mono (ok' := fun k_ => some k_ ≠ (.slice Ao35 t272.length co35 : Value).ownBlock ∧ some k_ ≠ (.slice Ao34 t282.length co34 : Value).ownBlock) (Kd.R_keptB (HO_282003.out) hkp (fun k_ hk_ hs_ => (hk_.2) hs_)) (fun k_ hk_ => ⟨hk_.1.1, hk_.1.2⟩)); have n3_ := am (blk_kept (zq BK264.out) hkp (fun hs_ => (fun e_ => (Kd.R_ne HO_6.out BK264.out (by decide)) e_) hs_)); have n4_ := am (blk_kept (zq BK281.out) hkp (fun hs_ => (fun e_ => (Kd.R_ne HO_6.out BK281.out (by decide)) e_) hs_)); have n5_ := am (hb); clear HO_4; clear HO_6; clear HO_282003; clear BK264; clear BK281; clear HB; have HO_4 := n0_; have HO_6 := n1_; have HO_282003 := n2_; have BK264 := n3_; have BK281 := n4_; have HB := n5_; clear n0_ n1_ n2_ n3_ n4_ n5_; (try clear hb); (try clear hkp); (try clear hy0)) | ((with_reducible refine gate_callee (f := 49) rfl ?_); refine goesL_ (some 48) rfl rfl Try.func49 (by kernel_rfl) rfl #[.slice Ao34 t297.length co34, .int .i64 1] rfl (by (try simp only [List.map_toArray, List.map_cons, List.map_nil]); first | done | (rw [show t297.length = t282.length from (Kd.R_reads' HO_6.out).1.symm] <;> rfl) | rfl | (simp only [List.length_drop, List.length_take]; rfl)) ?_; (with_reducible refine (laws_heldByteS.calls kj16 _ _ t297 1 t298 _ ?side1 ?side2 A46.out).mono ?_); (case side1 => repeat (first | exact (Kd.R_reads' HO_6.out).2.2 | (with_reducible refine Kd.C_alloc ?_ _) | (with_reducible refine Kd.C_drewN ?_ _) | (with_reducible refine Kd.C_drew ?_))); (case side2 => rw [show t297.length = t282.length from (Kd.R_reads' HO_6.out).1.symm]; exact (Kd.R_reads' HO_6.out).2.1); rintro e w' ⟨rfl, ⟨nd, rfl⟩⟩; refine ⟨_, rfl, ?_⟩; have hnb57 := NB264_281.out; have hnc57 := NB281_264.out; have hcz58_0 : w56.cell? ⟨gb264, 0, none⟩ = some (.int .i64 a0_0) := (blk_cell BK264.out 0).trans rfl; have hcz58_1 : w56.cell? ⟨gb264, 1, none⟩ = some (.int .i64 a0_1) := (blk_cell BK264.out 1).trans rfl; have hcz58_2 : w56.cell? ⟨gb264, 2, none⟩ = some (.int .i64 a0_2) := (blk_cell BK264.out 2).trans rfl; have hcz58_3 : w56.cell? ⟨gb264, 3, none⟩ = some (.slice A0_3 l0_3.length c0_3) := (blk_cell BK264.out 3).trans rfl; have hfz58_0 := blk_frozen BK264.out 0; have hfz58_1 := blk_frozen BK264.out 1; have hfz58_2 := blk_frozen BK264.out 2; have hfz58_3 := blk_frozen BK264.out 3) | ((with_reducible refine gate_callee (f := 75) rfl ?_); refine goesL_ (some 55) rfl rfl Try.func75 (by kernel_rfl) rfl #[.agg #[.int .i64 a0_0, .int .i64 a0_1, .int .i64 a0_2, .slice A0_3 l0_3.length c0_3]] rfl (by (try simp only [List.map_toArray, List.map_cons, List.map_nil]); first | done | rfl | (simp only [List.length_drop, List.length_take]; rfl)) ?_; (with_reducible refine (laws_toFrame.calls kj16 a0_0 a0_1 a0_2 _ _ l0_3 t299 t300 t301 t302 _ ?side1 ?side2 A49.out).mono ?_); (case side1 => repeat (first | exact (Kd.C_below HR0_3.out (by repeat (first | (with_reducible first | exact HB.out | apply below_alloc | apply pw_below_drewN | apply below_drew1 | refine below_set ?_ GE264.out | refine below_set ?_ GE281.out) | exact HB.out))) | (with_reducible refine Kd.C_alloc ?_ _) | (with_reducible refine Kd.C_drewN ?_ _) | (with_reducible refine Kd.C_drew ?_))); (case side2 => exact HC0_3.out); rintro e w59 ⟨v303, rfl, ho0, hb⟩; refine ⟨_, rfl, ?_⟩; have n0_ := am (Kd.R_elder' (kqR HO_4.out) (Kd.R_base ho0) hb); have n1_ := am (Kd.R_elder' (kqR HO_6.out) (Kd.R_base ho0) hb); have n2_ := am (Kd.R_elder' (kqR HO_282003.out) (Kd.R_base ho0) hb); have n3_ := am (Kd.R_lower (Kd.R_new' (Kd.R_new' (Kd.R_new' ho0 (Kd.R_lt (kqR HO_4.out))) (Kd.R_lt (kqR HO_6.out))) (Kd.R_lt (kqR HO_282003.out))) (below_size (by repeat (first | (with_reducible first | exact HB.out | apply below_alloc | apply pw_below_drewN | apply below_drew1 | refine below_set ?_ GE264.out | refine below_set ?_ GE281.out) | exact HB.out)))); have n4_ := am (blk_below (g := gb264) (o := .cells #[.int .i64 a0_0, .int .i64 a0_1, .int .i64 a0_2, .slice A0_3 l0_3.length c0_3] 90 (0, 0)) (zq BK264.out) hb); have n5_ := am (blk_below (g := gb281) (o := .cells #[.int .i64 t275, .int .i64 t276, .int .i64 t277, .slice Ao30 t294.length co30] 93 (0, 0)) (zq BK281.out) hb); have n6_ := am (below_step (by repeat (first | (with_reducible first | exact HB.out | apply below_alloc | apply pw_below_drewN | apply below_drew1 | refine below_set ?_ GE264.out | refine below_set ?_ GE281.out) | exact HB.out)) hb); clear HO_4; clear HO_6; clear HO_282003; clear BK264; clear BK281; clear HB; have HO_4 := n0_; have HO_6 := n1_; have HO_282003 := n2_; have HO304 := n3_; have BK264 := n4_; have BK281 := n5_; have HB := n6_; clear n0_ n1_ n2_ n3_ n4_ n5_ n6_; (try clear hb); (try clear hb2); (try clear hk); (try clear hi); (try clear ho0); obtain ⟨Ao60, co60, eo60⟩ := Kd.R_slice HO304.out; subst eo60) | ((with_reducible refine gate_callee (f := 76) rfl ?_); refine goesL_ (some 56) rfl rfl Try.func76 (by kernel_rfl) rfl #[.agg #[.int .i64 t299, .int .i64 t300, .int .i64 t301, .slice Ao60 t302.length co60]] rfl (by (try simp only [List.map_toArray, List.map_cons, List.map_nil]); first | done | rfl | (simp only [List.length_drop, List.length_take]; rfl)) ?_; (with_reducible refine (impl_PutFrame.calls kj16 t299 t300 t301 _ _ t302 t305 _ ?side1 ?side2 A50.out).mono ?_); (case side1 => repeat (first | exact (Kd.R_reads' HO304.out).2.2 | (with_reducible refine Kd.C_alloc ?_ _) | (with_reducible refine Kd.C_drewN ?_ _) | (with_reducible refine Kd.C_drew ?_))); (case side2 => exact (Kd.R_reads' HO304.out).2.1); rintro e w61 ⟨v306, rfl, ho0, hb⟩; refine ⟨_, rfl, ?_⟩; have n0_ := am (Kd.R_elder' (kqR HO_4.out) (Kd.R_base ho0) hb); have n1_ := am (Kd.R_elder' (kqR HO_6.out) (Kd.R_base ho0) hb); have n2_ := am (Kd.R_elder' (kqR HO_282003.out) (Kd.R_base ho0) hb); have n3_ := am (Kd.R_elder' (kqR HO304.out) (Kd.R_base ho0) hb); have n4_ := am (Kd.R_lower (Kd.R_new' (Kd.R_new' (Kd.R_new' (Kd.R_new' ho0 (Kd.R_lt (kqR HO_4.out))) (Kd.R_lt (kqR HO_6.out))) (Kd.R_lt (kqR HO_282003.out))) (Kd.R_lt (kqR HO304.out))) (below_size (by repeat (first | (with_reducible first | exact HB.out | apply below_alloc | apply pw_below_drewN | apply below_drew1 | refine below_set ?_ GE264.out | refine below_set ?_ GE281.out) | exact HB.out)))); have n5_ := am (blk_below (g := gb264) (o := .cells #[.int .i64 a0_0, .int .i64 a0_1, .int .i64 a0_2, .slice A0_3 l0_3.length c0_3] 90 (0, 0)) (zq BK264.out) hb); have n6_ := am (blk_below (g := gb281) (o := .cells #[.int .i64 t275, .int .i64 t276, .int .i64 t277, .slice Ao30 t294.length co30] 93 (0, 0)) (zq BK281.out) hb); have n7_ := am (below_step (by repeat (first | (with_reducible first | exact HB.out | apply below_alloc | apply pw_below_drewN | apply below_drew1 | refine below_set ?_ GE264.out | refine below_set ?_ GE281.out) | exact HB.out)) hb); clear HO_4; clear HO_6; clear HO_282003; clear HO304; clear BK264; clear BK281; clear HB; have HO_4 := n0_; have HO_6 := n1_; have HO_282003 := n2_; have HO304 := n3_; have HO307 := n4_; have BK264 := n5_; have BK281 := n6_; have HB := n7_; clear n0_ n1_ n2_ n3_ n4_ n5_ n6_ n7_; (try clear hb); (try clear hb2); (try clear hk); (try clear hi); (try clear ho0); obtain ⟨Ao62, co62, eo62⟩ := Kd.R_slice HO307.out; subst eo62) | ((with_reducible refine gate_callee (f := 47) rfl ?_); refine goesL_ (some 59) rfl rfl Try.func47 (by kernel_rfl) rfl #[.slice Ao62 t305.length co62, .slice Ao35 t272.length co35] rfl (by (try simp only [List.map_toArray, List.map_cons, List.map_nil]); first | done | rfl | (simp only [List.length_drop, List.length_take]; rfl)) ?_; (with_reducible refine (laws_eqByteS.calls kj16 _ _ t305 _ _ t272 true _ ?side1 ?side2 ?side3 ?side4 A51.out).mono ?_); (case side1 => repeat (first | exact (Kd.R_reads' HO307.out).2.2 | (with_reducible refine Kd.C_alloc ?_ _) | (with_reducible refine Kd.C_drewN ?_ _) | (with_reducible refine Kd.C_drew ?_))); (case side2 => exact (Kd.R_reads' HO307.out).2.1); (case side3 => repeat (first | exact (Kd.R_reads' HO_4.out).2.2 | (with_reducible refine Kd.C_alloc ?_ _) | (with_reducible refine Kd.C_drewN ?_ _) | (with_reducible refine Kd.C_drew ?_))); (case side4 => exact (Kd.R_reads' HO_4.out).2.1); rintro e w' ⟨rfl, ⟨nd, rfl⟩⟩; refine ⟨_, rfl, ?_⟩) | ((with_reducible refine gate_callee (f := 49) rfl ?_); refine goesL_ (some 63) rfl rfl Try.func49 (by kernel_rfl) rfl #[.slice Ao34 t297.length co34, .int .i64 1] rfl (by (try simp only [List.map_toArray, List.map_cons, List.map_nil]); first | done | (rw [show t297.length = t282.length from (Kd.R_reads' HO_6.out).1.symm] <;> rfl) | rfl | (simp only [List.length_drop, List.length_take]; rfl)) ?_; (with_reducible refine (laws_heldByteS.calls kj16 _ _ t297 1 t309 _ ?side1 ?side2 A53.out).mono ?_); (case side1 => repeat (first | exact (Kd.R_reads' HO_6.out).2.2 | (with_reducible refine Kd.C_alloc ?_ _) | (with_reducible refine Kd.C_drewN ?_ _) | (with_reducible refine Kd.C_drew ?_))); (case side2 => rw [show t297.length = t282.length from (Kd.R_reads' HO_6.out).1.symm]; exact (Kd.R_reads' HO_6.out).2.1); rintro e w' ⟨rfl, ⟨nd, rfl⟩⟩; refine ⟨_, rfl, ?_⟩))
                        go_ret
                        exact ⟨by first | rfl | (simp [errW_none, errW_some] <;> rfl) | (simp [*, errW_none, errW_some] <;> rfl), by repeat (first | (with_reducible first | exact HB.out | apply below_alloc | apply pw_below_drewN | apply below_drew1 | refine below_set ?_ GE264.out | refine below_set ?_ GE281.out) | exact HB.out)⟩
                      · rw [if_neg c55] at H
                        have c55b0 : (t309 == t296) = false := beq_eq_false_iff_ne.mpr c55
                        have c55b1 : (t309 != t296) = true := bne_iff_ne.mpr c55
                        exact absurd ((Option.some.inj H).trans HRT.out) (by decide)
                  · replace c52 := Bool.eq_false_iff.mpr c52
                    subst c52
                    have H1 : (some false) = some r := by rw [if_neg (show ¬ (false = true) by decide)] at H; exact H
                    clear H
                    have H := H1
                    clear H1
                    exact absurd ((Option.some.inj H).trans HRT.out) (by decide)
                · rw [if_neg c48] at H
                  have c48b0 : (t298 == t296) = false := beq_eq_false_iff_ne.mpr c48
                  have c48b1 : (t298 != t296) = true := bne_iff_ne.mpr c48
                  exact absurd ((Option.some.inj H).trans HRT.out) (by decide)
      · replace c15 := Bool.eq_false_iff.mpr c15
        subst c15
        have H1 : (some false) = some r := by rw [if_neg (show ¬ (false = true) by decide)] at H; exact H
        clear H
        have H := H1
        clear H1
        exact absurd ((Option.some.inj H).trans HRT.out) (by decide)
    · replace c12 := Bool.eq_false_iff.mpr c12
      subst c12
      have H1 : (some false) = some r := by rw [if_neg (show ¬ (false = true) by decide)] at H; exact H
      clear H
      have H := H1
      clear H1
      exact absurd ((Option.some.inj H).trans HRT.out) (by decide)

/-- THE ONE PURE STATEMENT of laws_FnExactPutFrame. -/
def wfS90 (x : S90) : Prop := (Lit.int .i64 x.f0).wf = true ∧ (Lit.int .i64 x.f1).wf = true ∧ (Lit.int .i64 x.f2).wf = true ∧ x.f3.length ≤ maxLen ∧ (∀ y ∈ x.f3, (Lit.int .u8 y).wf = true)
def laws_FnExactPutFrame.Pure : Prop := ∀ (a0_0 : Int) (a0_1 : Int) (a0_2 : Int) (l0_3 : List Int), (Lit.int .i64 a0_0).wf = true → (Lit.int .i64 a0_1).wf = true → (Lit.int .i64 a0_2).wf = true → l0_3.length ≤ maxLen → (∀ y ∈ l0_3, (Lit.int .u8 y).wf = true) → ∃ k, laws_FnExactPutFrame.f k a0_0 a0_1 a0_2 l0_3 = some true

end Go.Proofs.Ytndfokcnogpeiaa.XFnExactPutFrame
