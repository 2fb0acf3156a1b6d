/- The functions that one law reaches, as Lean functions, with their walks: printed by a program of this seat (wip/tools) out of the translation. -/
import Derived.Test.YthhnfmbfgplelaaXFnExactPutValx0
import Derived.Test.YthhnfmbfgplelaaXFnExactPutValx1
import Derived.Test.YthhnfmbfgplelaaXFnExactPutValx2
import Derived.Test.YthhnfmbfgplelaaXFnExactPutValx5
import Derived.Test.YthhnfmbfgplelaaXFnExactPutValx6
namespace Go.Proofs.Ythhnfmbfgplelaa.XFnExactPutVal
open Go.RowKit Go.Proofs.YthhnfmbfgplelaaW.PrintWords Go.Proofs.YthhnfmbfgplelaaW.PrintLast Go.Proofs.YthhnfmbfgplelaaW.PrintMore
attribute [local go_sem] max2_int min2_int max_two min_two max_three min_three max_four min_four   -- for this text's walks alone
set_option linter.unusedVariables false
set_option linter.unusedSimpArgs false

/-! ### laws_FnExactPutVal: function 3 -/
def laws_FnExactPutVal.j0 : Nat → List Int → List Int → List Int → Bool → Int → Int → ByteArray → List Int → Option (Bool)
 | 0, _, _, _, _, _, _, _, _ => none
 | k + 1, x0, x6, x9, x61, x321000, x321001, x321002, x321003 => if x61 = true then (some false) else ((laws_markByteS.f k x9 1).bind fun bt364 => ((laws_heldByteS.f k bt364.2 1).bind fun t366 => (if t366 < 0 then (some false) else (if t366 = bt364.1 then ((laws_toByteS.f k x0).bind fun t367 => ((laws_toVal.f k x321000 x321001 x321002 x321003).bind fun bt370 => ((impl_PutVal.f k t367 bt370.1 bt370.2.1 bt370.2.2.1 bt370.2.2.2).bind fun t376 => ((laws_eqByteS.f k t376 x6).bind fun t379 => (if t379 = true then ((laws_heldByteS.f k bt364.2 1).bind fun t380 => (if t380 < 0 then (some false) else (if t380 = bt364.1 then (some true) else (some false)))) else (some false)))))) else (some false)))))
def laws_FnExactPutVal.f (k : Nat) (l0 : List Int) (a1_0 : Int) (a1_1 : Int) (a1_2 : ByteArray) (l1_3 : List Int) : Option (Bool) := if (l0.length : Int) > 1048576 then (some true) else ((laws_szVal.f a1_0 a1_1 a1_2 l1_3 1048576).bind fun t321 => (if t321 < 0 then (some true) else ((laws_toByteS.f k l0).bind fun t322 => ((laws_toVal.f k a1_0 a1_1 a1_2 l1_3).bind fun bt325 => ((spec_PutVal.f k t322 bt325.1 bt325.2.1 bt325.2.2.1 bt325.2.2.2).bind fun t331 => ((laws_toByteS.f k l0).bind fun t334 => ((laws_toVal.f k a1_0 a1_1 a1_2 l1_3).bind fun bt337 => ((impl_PutVal.f k t334 bt337.1 bt337.2.1 bt337.2.2.1 bt337.2.2.2).bind fun t344 => ((laws_eqByteS.f k t344 t331).bind fun t347 => (if t347 = true then ((laws_toByteS.f k l0).bind fun t348 => ((laws_eqByteS.f k t334 t348).bind fun t351 => (if t351 = true then ((laws_toVal.f k a1_0 a1_1 a1_2 l1_3).bind fun bt352 => ((laws_eqVal.f k bt337.1 bt337.2.1 bt337.2.2.1 bt337.2.2.2 bt352.1 bt352.2.1 bt352.2.2.1 bt352.2.2.2).bind fun t358 => (if t358 = true then ((laws_markByteS.f k t334 1).bind fun bt359 => ((laws_markVal.f k bt337.1 bt337.2.1 bt337.2.2.1 bt337.2.2.2 bt359.1).bind fun bt361 => (if bt361.1 < 0 then (laws_FnExactPutVal.j0 k l0 t331 t344 true a1_0 a1_1 a1_2 l1_3) else ((laws_eqByteS.f k t344 t331).bind fun t363 => (laws_FnExactPutVal.j0 k l0 t331 t344 (!t363) a1_0 a1_1 a1_2 l1_3))))) else (some false)))) else (some false)))) else (some false)))))))))))
theorem laws_FnExactPutVal.mono_l : ∀ k, (∀ y0 y1 y2 y3 y4 y5 y6 y7, LeO (laws_FnExactPutVal.j0 k y0 y1 y2 y3 y4 y5 y6 y7) (laws_FnExactPutVal.j0 (k + 1) y0 y1 y2 y3 y4 y5 y6 y7))
 | 0 => fun _ _ _ _ _ _ _ _ r h => by simp [laws_FnExactPutVal.j0] at h
 | k + 1 => by
  have ih0 := laws_FnExactPutVal.mono_l k
  intro y0 y1 y2 y3 y4 y5 y6 y7
  unfold laws_FnExactPutVal.j0
  repeat' first
  | (with_reducible exact ih0 _ _ _ _ _ _ _ _)
  | (with_reducible exact impl_PutVal.mono _ _ _ _ _ _)
  | (with_reducible exact laws_eqByteS.mono _ _ _)
  | (with_reducible exact laws_eqVal.mono _ _ _ _ _ _ _ _ _)
  | (with_reducible exact laws_heldByteS.mono _ _ _)
  | (with_reducible exact laws_markByteS.mono _ _ _)
  | (with_reducible exact laws_markVal.mono _ _ _ _ _ _)
  | (with_reducible exact laws_toByteS.mono _ _)
  | (with_reducible exact laws_toVal.mono _ _ _ _ _)
  | (with_reducible exact spec_PutVal.mono _ _ _ _ _ _)
  | (with_reducible exact LeO.refl _)
  | (with_reducible exact LeO.none _)
  | (with_reducible refine LeO.ite ?_ ?_)
  | (with_reducible refine LeO.bind ?_ (fun _ => ?_))
  | exact ih0 _ _ _ _ _ _ _ _
  | exact impl_PutVal.mono _ _ _ _ _ _
  | exact laws_eqByteS.mono _ _ _
  | exact laws_eqVal.mono _ _ _ _ _ _ _ _ _
  | exact laws_heldByteS.mono _ _ _
  | exact laws_markByteS.mono _ _ _
  | exact laws_markVal.mono _ _ _ _ _ _
  | exact laws_toByteS.mono _ _
  | exact laws_toVal.mono _ _ _ _ _
  | exact spec_PutVal.mono _ _ _ _ _ _
  | exact LeO.none _
  | refine LeO.ite ?_ ?_
  | refine LeO.bind ?_ (fun _ => ?_)
theorem laws_FnExactPutVal.mono : ∀ a0 a1 a2 a3 a4 k, LeO (laws_FnExactPutVal.f k a0 a1 a2 a3 a4) (laws_FnExactPutVal.f (k + 1) a0 a1 a2 a3 a4) := by
 intro a0 a1 a2 a3 a4 k
 have ih0 := laws_FnExactPutVal.mono_l k
 unfold laws_FnExactPutVal.f
 repeat' first
  | (with_reducible exact ih0 _ _ _ _ _ _ _ _)
  | (with_reducible exact impl_PutVal.mono _ _ _ _ _ _)
  | (with_reducible exact laws_eqByteS.mono _ _ _)
  | (with_reducible exact laws_eqVal.mono _ _ _ _ _ _ _ _ _)
  | (with_reducible exact laws_heldByteS.mono _ _ _)
  | (with_reducible exact laws_markByteS.mono _ _ _)
  | (with_reducible exact laws_markVal.mono _ _ _ _ _ _)
  | (with_reducible exact laws_toByteS.mono _ _)
  | (with_reducible exact laws_toVal.mono _ _ _ _ _)
  | (with_reducible exact spec_PutVal.mono _ _ _ _ _ _)
  | (with_reducible exact LeO.refl _)
  | (with_reducible exact LeO.none _)
  | (with_reducible refine LeO.ite ?_ ?_)
  | (with_reducible refine LeO.bind ?_ (fun _ => ?_))
  | exact ih0 _ _ _ _ _ _ _ _
  | exact impl_PutVal.mono _ _ _ _ _ _
  | exact laws_eqByteS.mono _ _ _
  | exact laws_eqVal.mono _ _ _ _ _ _ _ _ _
  | exact laws_heldByteS.mono _ _ _
  | exact laws_markByteS.mono _ _ _
  | exact laws_markVal.mono _ _ _ _ _ _
  | exact laws_toByteS.mono _ _
  | exact laws_toVal.mono _ _ _ _ _
  | exact spec_PutVal.mono _ _ _ _ _ _
  | exact LeO.none _
  | refine LeO.ite ?_ ?_
  | refine LeO.bind ?_ (fun _ => ?_)
set_option maxHeartbeats 8000000 in
set_option maxRecDepth 100000 in
theorem laws_FnExactPutVal.calls (k : Nat) (A0 : Option Addr) (c0 : Nat) (l0 : List Int) (a1_0 : Int) (a1_1 : Int) (a1_2 : ByteArray) (A1_3 : Option Addr) (c1_3 : Nat) (l1_3 : List Int) (r : Bool) (w : World) (hr0 : Kd.C (Kd.int .u8) w A0 l0.length l0) (hc0 : l0.length ≤ c0) (hr1_3 : Kd.C (Kd.int .i64) w A1_3 l1_3.length l1_3) (hc1_3 : l1_3.length ≤ c1_3) (hr_ : r = true) (h : laws_FnExactPutVal.f k l0 a1_0 a1_1 a1_2 l1_3 = some r) :
 Calls Try.prog 3 #[.slice A0 l0.length c0, .agg #[.int .i64 a1_0, .int .i64 a1_1, .string a1_2, .slice A1_3 l1_3.length c1_3]] w fun e w' => e = .returned (.bool r) ∧ Below w.heap.size w w' := by
 have hu25 := Try.underlying25
 have hu29 := Try.underlying29
 have HRT := am hr_
 clear hr_
 have HR0 := am hr0
 have HC0 := am hc0
 clear hr0 hc0
 have HR1_3 := am hr1_3
 have HC1_3 := am hc1_3
 clear hr1_3 hc1_3
 have HB := am (Below.refl w.heap.size w)
 have H : (if (l0.length : Int) > 1048576 then (some true) else ((laws_szVal.f a1_0 a1_1 a1_2 l1_3 1048576).bind fun t321 => (if t321 < 0 then (some true) else ((laws_toByteS.f k l0).bind fun t322 => ((laws_toVal.f k a1_0 a1_1 a1_2 l1_3).bind fun bt325 => ((spec_PutVal.f k t322 bt325.1 bt325.2.1 bt325.2.2.1 bt325.2.2.2).bind fun t331 => ((laws_toByteS.f k l0).bind fun t334 => ((laws_toVal.f k a1_0 a1_1 a1_2 l1_3).bind fun bt337 => ((impl_PutVal.f k t334 bt337.1 bt337.2.1 bt337.2.2.1 bt337.2.2.2).bind fun t344 => ((laws_eqByteS.f k t344 t331).bind fun t347 => (if t347 = true then ((laws_toByteS.f k l0).bind fun t348 => ((laws_eqByteS.f k t334 t348).bind fun t351 => (if t351 = true then ((laws_toVal.f k a1_0 a1_1 a1_2 l1_3).bind fun bt352 => ((laws_eqVal.f k bt337.1 bt337.2.1 bt337.2.2.1 bt337.2.2.2 bt352.1 bt352.2.1 bt352.2.2.1 bt352.2.2.2).bind fun t358 => (if t358 = true then ((laws_markByteS.f k t334 1).bind fun bt359 => ((laws_markVal.f k bt337.1 bt337.2.1 bt337.2.2.1 bt337.2.2.2 bt359.1).bind fun bt361 => (if bt361.1 < 0 then (laws_FnExactPutVal.j0 k l0 t331 t344 true a1_0 a1_1 a1_2 l1_3) else ((laws_eqByteS.f k t344 t331).bind fun t363 => (laws_FnExactPutVal.j0 k l0 t331 t344 (!t363) a1_0 a1_1 a1_2 l1_3))))) else (some false)))) else (some false)))) else (some false)))))))))))) = some r := h
 clear h
 by_cases c3 : (l0.length : Int) > 1048576
 · rw [if_pos c3] at H
   have c3b0 : decide (1048576 < (l0.length : Int)) = true := decide_eq_true c3
   have c3b1 : decide (1048576 < l0.length) = true := decide_eq_true (by omega)
   clear c3
   obtain rfl := Option.some.inj H
   go_enter Try.func3, Try.ntmps3
   go_wp2_with (first | ((with_reducible refine gate_dst (N := 3) rfl ?_); refine box_event ?hg (N := 3) ?hd (cs := #[.int .i64 a1_0, .int .i64 a1_1, .string a1_2, .slice A1_3 l1_3.length c1_3]) (t := 25) ?hr ?_; (case hd => rfl); (case hg => rfl); (case hr => exact gs); intro gb320 hg w4 hbox hb; have n_ := ak4 (below_step (bq HB.out) hb) hbox ((by rw [hg]; exact (below_size (bq HB.out)) : w.heap.size ≤ gb320)) ((by rw [hg]; exact (below_size (bq HB.out)) : w.heap.size ≤ gb320)); clear HB; obtain ⟨HB, BK320, GW320, GE320⟩ := n_; clear hb hbox hg))
   go_ret
   exact ⟨rq, bq1 HB.out GE320.out⟩
 rw [if_neg c3] at H
 have c3b0 : decide (1048576 < (l0.length : Int)) = false := decide_eq_false c3
 have c3b1 : decide (1048576 < l0.length) = false := decide_eq_false (by omega)
 clear c3
 replace H := Option.bind_eq_some_iff.mp H
 obtain ⟨t321, A50, H⟩ := H
 replace H : (if t321 < 0 then (some true) else ((laws_toByteS.f k l0).bind fun t322 => ((laws_toVal.f k a1_0 a1_1 a1_2 l1_3).bind fun bt325 => ((spec_PutVal.f k t322 bt325.1 bt325.2.1 bt325.2.2.1 bt325.2.2.2).bind fun t331 => ((laws_toByteS.f k l0).bind fun t334 => ((laws_toVal.f k a1_0 a1_1 a1_2 l1_3).bind fun bt337 => ((impl_PutVal.f k t334 bt337.1 bt337.2.1 bt337.2.2.1 bt337.2.2.2).bind fun t344 => ((laws_eqByteS.f k t344 t331).bind fun t347 => (if t347 = true then ((laws_toByteS.f k l0).bind fun t348 => ((laws_eqByteS.f k t334 t348).bind fun t351 => (if t351 = true then ((laws_toVal.f k a1_0 a1_1 a1_2 l1_3).bind fun bt352 => ((laws_eqVal.f k bt337.1 bt337.2.1 bt337.2.2.1 bt337.2.2.2 bt352.1 bt352.2.1 bt352.2.2.1 bt352.2.2.2).bind fun t358 => (if t358 = true then ((laws_markByteS.f k t334 1).bind fun bt359 => ((laws_markVal.f k bt337.1 bt337.2.1 bt337.2.2.1 bt337.2.2.2 bt359.1).bind fun bt361 => (if bt361.1 < 0 then (laws_FnExactPutVal.j0 k l0 t331 t344 true a1_0 a1_1 a1_2 l1_3) else ((laws_eqByteS.f k t344 t331).bind fun t363 => (laws_FnExactPutVal.j0 k l0 t331 t344 (!t363) a1_0 a1_1 a1_2 l1_3))))) else (some false)))) else (some false)))) else (some false)))))))))) = some r := H
 have A5 := am A50
 clear A50
 by_cases c6 : t321 < 0
 · rw [if_pos c6] at H
   have c6b0 : decide (t321 < 0) = true := decide_eq_true c6
   clear c6
   obtain rfl := Option.some.inj H
   go_enter Try.func3, Try.ntmps3
   go_wp2_with (first | ((with_reducible refine gate_dst (N := 3) rfl ?_); refine box_event ?hg (N := 3) ?hd (cs := #[.int .i64 a1_0, .int .i64 a1_1, .string a1_2, .slice A1_3 l1_3.length c1_3]) (t := 25) ?hr ?_; (case hd => rfl); (case hg => rfl); (case hr => exact gs); intro gb320 hg w7 hbox hb; have n_ := ak4 (below_step (bq HB.out) hb) hbox ((by rw [hg]; exact (below_size (bq HB.out)) : w.heap.size ≤ gb320)) ((by rw [hg]; exact (below_size (bq HB.out)) : w.heap.size ≤ gb320)); clear HB; obtain ⟨HB, BK320, GW320, GE320⟩ := n_; clear hb hbox hg; have hcz8_0 : w7.cell? ⟨gb320, 0, none⟩ = some (.int .i64 a1_0) := (blk_cell BK320.out 0).trans rfl; have hcz8_1 : w7.cell? ⟨gb320, 1, none⟩ = some (.int .i64 a1_1) := (blk_cell BK320.out 1).trans rfl; have hcz8_2 : w7.cell? ⟨gb320, 2, none⟩ = some (.string a1_2) := (blk_cell BK320.out 2).trans rfl; have hcz8_3 : w7.cell? ⟨gb320, 3, none⟩ = some (.slice A1_3 l1_3.length c1_3) := (blk_cell BK320.out 3).trans rfl; have hfz8_0 := blk_frozen BK320.out 0; have hfz8_1 := blk_frozen BK320.out 1; have hfz8_2 := blk_frozen BK320.out 2; have hfz8_3 := blk_frozen BK320.out 3) | ((with_reducible refine gate_callee (f := 13) rfl ?_); refine goesL_ (some 19) rfl rfl Try.func13 (by kernel_rfl) rfl #[.agg #[.int .i64 a1_0, .int .i64 a1_1, .string a1_2, .slice A1_3 l1_3.length c1_3], .int .i64 1048576] rfl ga ?_; (with_reducible refine (laws_szVal.calls a1_0 a1_1 a1_2 _ _ l1_3 1048576 t321 _ ?side1 ?side2 A5.out).mono ?_); (case side1 => exact cq (Kd.C_below HR1_3.out HB.out)); (case side2 => exact HC1_3.out); rintro e w9 ⟨rfl, hb⟩; refine ⟨_, rfl, ?_⟩; have n_ := ak2 (blk_below (g := gb320) (o := .cells #[.int .i64 a1_0, .int .i64 a1_1, .string a1_2, .slice A1_3 l1_3.length c1_3] 25 (0, 0)) (zq BK320.out) hb) (below_step (bq1 HB.out GE320.out) hb); clear BK320 HB; obtain ⟨BK320, HB⟩ := n_; (try clear hb)))
   go_ret
   exact ⟨rq, bq1 HB.out GE320.out⟩
 rw [if_neg c6] at H
 have c6b0 : decide (t321 < 0) = false := decide_eq_false c6
 clear c6
 replace H := Option.bind_eq_some_iff.mp H
 obtain ⟨t322, A100, H⟩ := H
 replace H : ((laws_toVal.f k a1_0 a1_1 a1_2 l1_3).bind fun bt325 => ((spec_PutVal.f k t322 bt325.1 bt325.2.1 bt325.2.2.1 bt325.2.2.2).bind fun t331 => ((laws_toByteS.f k l0).bind fun t334 => ((laws_toVal.f k a1_0 a1_1 a1_2 l1_3).bind fun bt337 => ((impl_PutVal.f k t334 bt337.1 bt337.2.1 bt337.2.2.1 bt337.2.2.2).bind fun t344 => ((laws_eqByteS.f k t344 t331).bind fun t347 => (if t347 = true then ((laws_toByteS.f k l0).bind fun t348 => ((laws_eqByteS.f k t334 t348).bind fun t351 => (if t351 = true then ((laws_toVal.f k a1_0 a1_1 a1_2 l1_3).bind fun bt352 => ((laws_eqVal.f k bt337.1 bt337.2.1 bt337.2.2.1 bt337.2.2.2 bt352.1 bt352.2.1 bt352.2.2.1 bt352.2.2.2).bind fun t358 => (if t358 = true then ((laws_markByteS.f k t334 1).bind fun bt359 => ((laws_markVal.f k bt337.1 bt337.2.1 bt337.2.2.1 bt337.2.2.2 bt359.1).bind fun bt361 => (if bt361.1 < 0 then (laws_FnExactPutVal.j0 k l0 t331 t344 true a1_0 a1_1 a1_2 l1_3) else ((laws_eqByteS.f k t344 t331).bind fun t363 => (laws_FnExactPutVal.j0 k l0 t331 t344 (!t363) a1_0 a1_1 a1_2 l1_3))))) else (some false)))) else (some false)))) else (some false)))))))) = some r := H
 have A10 := am A100
 clear A100
 replace H := Option.bind_eq_some_iff.mp H
 obtain ⟨⟨t325, t326, t327, t328⟩, A110, H⟩ := H
 replace H : ((spec_PutVal.f k t322 t325 t326 t327 t328).bind fun t331 => ((laws_toByteS.f k l0).bind fun t334 => ((laws_toVal.f k a1_0 a1_1 a1_2 l1_3).bind fun bt337 => ((impl_PutVal.f k t334 bt337.1 bt337.2.1 bt337.2.2.1 bt337.2.2.2).bind fun t344 => ((laws_eqByteS.f k t344 t331).bind fun t347 => (if t347 = true then ((laws_toByteS.f k l0).bind fun t348 => ((laws_eqByteS.f k t334 t348).bind fun t351 => (if t351 = true then ((laws_toVal.f k a1_0 a1_1 a1_2 l1_3).bind fun bt352 => ((laws_eqVal.f k bt337.1 bt337.2.1 bt337.2.2.1 bt337.2.2.2 bt352.1 bt352.2.1 bt352.2.2.1 bt352.2.2.2).bind fun t358 => (if t358 = true then ((laws_markByteS.f k t334 1).bind fun bt359 => ((laws_markVal.f k bt337.1 bt337.2.1 bt337.2.2.1 bt337.2.2.2 bt359.1).bind fun bt361 => (if bt361.1 < 0 then (laws_FnExactPutVal.j0 k l0 t331 t344 true a1_0 a1_1 a1_2 l1_3) else ((laws_eqByteS.f k t344 t331).bind fun t363 => (laws_FnExactPutVal.j0 k l0 t331 t344 (!t363) a1_0 a1_1 a1_2 l1_3))))) else (some false)))) else (some false)))) else (some false))))))) = some r := H
 have A11 := am A110
 clear A110
 replace H := Option.bind_eq_some_iff.mp H
 obtain ⟨t331, A120, H⟩ := H
 replace H : ((laws_toByteS.f k l0).bind fun t334 => ((laws_toVal.f k a1_0 a1_1 a1_2 l1_3).bind fun bt337 => ((impl_PutVal.f k t334 bt337.1 bt337.2.1 bt337.2.2.1 bt337.2.2.2).bind fun t344 => ((laws_eqByteS.f k t344 t331).bind fun t347 => (if t347 = true then ((laws_toByteS.f k l0).bind fun t348 => ((laws_eqByteS.f k t334 t348).bind fun t351 => (if t351 = true then ((laws_toVal.f k a1_0 a1_1 a1_2 l1_3).bind fun bt352 => ((laws_eqVal.f k bt337.1 bt337.2.1 bt337.2.2.1 bt337.2.2.2 bt352.1 bt352.2.1 bt352.2.2.1 bt352.2.2.2).bind fun t358 => (if t358 = true then ((laws_markByteS.f k t334 1).bind fun bt359 => ((laws_markVal.f k bt337.1 bt337.2.1 bt337.2.2.1 bt337.2.2.2 bt359.1).bind fun bt361 => (if bt361.1 < 0 then (laws_FnExactPutVal.j0 k l0 t331 t344 true a1_0 a1_1 a1_2 l1_3) else ((laws_eqByteS.f k t344 t331).bind fun t363 => (laws_FnExactPutVal.j0 k l0 t331 t344 (!t363) a1_0 a1_1 a1_2 l1_3))))) else (some false)))) else (some false)))) else (some false)))))) = some r := H
 have A12 := am A120
 clear A120
 replace H := Option.bind_eq_some_iff.mp H
 obtain ⟨t334, A130, H⟩ := H
 replace H : ((laws_toVal.f k a1_0 a1_1 a1_2 l1_3).bind fun bt337 => ((impl_PutVal.f k t334 bt337.1 bt337.2.1 bt337.2.2.1 bt337.2.2.2).bind fun t344 => ((laws_eqByteS.f k t344 t331).bind fun t347 => (if t347 = true then ((laws_toByteS.f k l0).bind fun t348 => ((laws_eqByteS.f k t334 t348).bind fun t351 => (if t351 = true then ((laws_toVal.f k a1_0 a1_1 a1_2 l1_3).bind fun bt352 => ((laws_eqVal.f k bt337.1 bt337.2.1 bt337.2.2.1 bt337.2.2.2 bt352.1 bt352.2.1 bt352.2.2.1 bt352.2.2.2).bind fun t358 => (if t358 = true then ((laws_markByteS.f k t334 1).bind fun bt359 => ((laws_markVal.f k bt337.1 bt337.2.1 bt337.2.2.1 bt337.2.2.2 bt359.1).bind fun bt361 => (if bt361.1 < 0 then (laws_FnExactPutVal.j0 k l0 t331 t344 true a1_0 a1_1 a1_2 l1_3) else ((laws_eqByteS.f k t344 t331).bind fun t363 => (laws_FnExactPutVal.j0 k l0 t331 t344 (!t363) a1_0 a1_1 a1_2 l1_3))))) else (some false)))) else (some false)))) else (some false))))) = some r := H
 have A13 := am A130
 clear A130
 replace H := Option.bind_eq_some_iff.mp H
 obtain ⟨⟨t337, t338, t339, t340⟩, A140, H⟩ := H
 replace H : ((impl_PutVal.f k t334 t337 t338 t339 t340).bind fun t344 => ((laws_eqByteS.f k t344 t331).bind fun t347 => (if t347 = true then ((laws_toByteS.f k l0).bind fun t348 => ((laws_eqByteS.f k t334 t348).bind fun t351 => (if t351 = true then ((laws_toVal.f k a1_0 a1_1 a1_2 l1_3).bind fun bt352 => ((laws_eqVal.f k t337 t338 t339 t340 bt352.1 bt352.2.1 bt352.2.2.1 bt352.2.2.2).bind fun t358 => (if t358 = true then ((laws_markByteS.f k t334 1).bind fun bt359 => ((laws_markVal.f k t337 t338 t339 t340 bt359.1).bind fun bt361 => (if bt361.1 < 0 then (laws_FnExactPutVal.j0 k l0 t331 t344 true a1_0 a1_1 a1_2 l1_3) else ((laws_eqByteS.f k t344 t331).bind fun t363 => (laws_FnExactPutVal.j0 k l0 t331 t344 (!t363) a1_0 a1_1 a1_2 l1_3))))) else (some false)))) else (some false)))) else (some false)))) = some r := H
 have A14 := am A140
 clear A140
 replace H := Option.bind_eq_some_iff.mp H
 obtain ⟨t344, A150, H⟩ := H
 replace H : ((laws_eqByteS.f k t344 t331).bind fun t347 => (if t347 = true then ((laws_toByteS.f k l0).bind fun t348 => ((laws_eqByteS.f k t334 t348).bind fun t351 => (if t351 = true then ((laws_toVal.f k a1_0 a1_1 a1_2 l1_3).bind fun bt352 => ((laws_eqVal.f k t337 t338 t339 t340 bt352.1 bt352.2.1 bt352.2.2.1 bt352.2.2.2).bind fun t358 => (if t358 = true then ((laws_markByteS.f k t334 1).bind fun bt359 => ((laws_markVal.f k t337 t338 t339 t340 bt359.1).bind fun bt361 => (if bt361.1 < 0 then (laws_FnExactPutVal.j0 k l0 t331 t344 true a1_0 a1_1 a1_2 l1_3) else ((laws_eqByteS.f k t344 t331).bind fun t363 => (laws_FnExactPutVal.j0 k l0 t331 t344 (!t363) a1_0 a1_1 a1_2 l1_3))))) else (some false)))) else (some false)))) else (some false))) = some r := H
 have A15 := am A150
 clear A150
 replace H := Option.bind_eq_some_iff.mp H
 obtain ⟨t347, A160, H⟩ := H
 replace H : (if t347 = true then ((laws_toByteS.f k l0).bind fun t348 => ((laws_eqByteS.f k t334 t348).bind fun t351 => (if t351 = true then ((laws_toVal.f k a1_0 a1_1 a1_2 l1_3).bind fun bt352 => ((laws_eqVal.f k t337 t338 t339 t340 bt352.1 bt352.2.1 bt352.2.2.1 bt352.2.2.2).bind fun t358 => (if t358 = true then ((laws_markByteS.f k t334 1).bind fun bt359 => ((laws_markVal.f k t337 t338 t339 t340 bt359.1).bind fun bt361 => (if bt361.1 < 0 then (laws_FnExactPutVal.j0 k l0 t331 t344 true a1_0 a1_1 a1_2 l1_3) else ((laws_eqByteS.f k t344 t331).bind fun t363 => (laws_FnExactPutVal.j0 k l0 t331 t344 (!t363) a1_0 a1_1 a1_2 l1_3))))) else (some false)))) else (some false)))) else (some false)) = some r := H
 have A16 := am A160
 clear A160
 by_cases c17 : t347 = true
 · subst c17
   have H1 : ((laws_toByteS.f k l0).bind fun t348 => ((laws_eqByteS.f k t334 t348).bind fun t351 => (if t351 = true then ((laws_toVal.f k a1_0 a1_1 a1_2 l1_3).bind fun bt352 => ((laws_eqVal.f k t337 t338 t339 t340 bt352.1 bt352.2.1 bt352.2.2.1 bt352.2.2.2).bind fun t358 => (if t358 = true then ((laws_markByteS.f k t334 1).bind fun bt359 => ((laws_markVal.f k t337 t338 t339 t340 bt359.1).bind fun bt361 => (if bt361.1 < 0 then (laws_FnExactPutVal.j0 k l0 t331 t344 true a1_0 a1_1 a1_2 l1_3) else ((laws_eqByteS.f k t344 t331).bind fun t363 => (laws_FnExactPutVal.j0 k l0 t331 t344 (!t363) a1_0 a1_1 a1_2 l1_3))))) else (some false)))) else (some false)))) = some r := by rw [if_pos rfl] at H; exact H
   clear H
   have H := H1
   clear H1
   replace H := Option.bind_eq_some_iff.mp H
   obtain ⟨t348, A180, H⟩ := H
   replace H : ((laws_eqByteS.f k t334 t348).bind fun t351 => (if t351 = true then ((laws_toVal.f k a1_0 a1_1 a1_2 l1_3).bind fun bt352 => ((laws_eqVal.f k t337 t338 t339 t340 bt352.1 bt352.2.1 bt352.2.2.1 bt352.2.2.2).bind fun t358 => (if t358 = true then ((laws_markByteS.f k t334 1).bind fun bt359 => ((laws_markVal.f k t337 t338 t339 t340 bt359.1).bind fun bt361 => (if bt361.1 < 0 then (laws_FnExactPutVal.j0 k l0 t331 t344 true a1_0 a1_1 a1_2 l1_3) else ((laws_eqByteS.f k t344 t331).bind fun t363 => (laws_FnExactPutVal.j0 k l0 t331 t344 (!t363) a1_0 a1_1 a1_2 l1_3))))) else (some false)))) else (some false))) = some r := H
   have A18 := am A180
   clear A180
   replace H := Option.bind_eq_some_iff.mp H
   obtain ⟨t351, A190, H⟩ := H
   replace H : (if t351 = true then ((laws_toVal.f k a1_0 a1_1 a1_2 l1_3).bind fun bt352 => ((laws_eqVal.f k t337 t338 t339 t340 bt352.1 bt352.2.1 bt352.2.2.1 bt352.2.2.2).bind fun t358 => (if t358 = true then ((laws_markByteS.f k t334 1).bind fun bt359 => ((laws_markVal.f k t337 t338 t339 t340 bt359.1).bind fun bt361 => (if bt361.1 < 0 then (laws_FnExactPutVal.j0 k l0 t331 t344 true a1_0 a1_1 a1_2 l1_3) else ((laws_eqByteS.f k t344 t331).bind fun t363 => (laws_FnExactPutVal.j0 k l0 t331 t344 (!t363) a1_0 a1_1 a1_2 l1_3))))) else (some false)))) else (some false)) = some r := H
   have A19 := am A190
   clear A190
   by_cases c20 : t351 = true
   · subst c20
     have H1 : ((laws_toVal.f k a1_0 a1_1 a1_2 l1_3).bind fun bt352 => ((laws_eqVal.f k t337 t338 t339 t340 bt352.1 bt352.2.1 bt352.2.2.1 bt352.2.2.2).bind fun t358 => (if t358 = true then ((laws_markByteS.f k t334 1).bind fun bt359 => ((laws_markVal.f k t337 t338 t339 t340 bt359.1).bind fun bt361 => (if bt361.1 < 0 then (laws_FnExactPutVal.j0 k l0 t331 t344 true a1_0 a1_1 a1_2 l1_3) else ((laws_eqByteS.f k t344 t331).bind fun t363 => (laws_FnExactPutVal.j0 k l0 t331 t344 (!t363) a1_0 a1_1 a1_2 l1_3))))) else (some false)))) = some r := by rw [if_pos rfl] at H; exact H
     clear H
     have H := H1
     clear H1
     replace H := Option.bind_eq_some_iff.mp H
     obtain ⟨⟨t352, t353, t354, t355⟩, A210, H⟩ := H
     replace H : ((laws_eqVal.f k t337 t338 t339 t340 t352 t353 t354 t355).bind fun t358 => (if t358 = true then ((laws_markByteS.f k t334 1).bind fun bt359 => ((laws_markVal.f k t337 t338 t339 t340 bt359.1).bind fun bt361 => (if bt361.1 < 0 then (laws_FnExactPutVal.j0 k l0 t331 t344 true a1_0 a1_1 a1_2 l1_3) else ((laws_eqByteS.f k t344 t331).bind fun t363 => (laws_FnExactPutVal.j0 k l0 t331 t344 (!t363) a1_0 a1_1 a1_2 l1_3))))) else (some false))) = some r := H
     have A21 := am A210
     clear A210
     replace H := Option.bind_eq_some_iff.mp H
     obtain ⟨t358, A220, H⟩ := H
     replace H : (if t358 = true then ((laws_markByteS.f k t334 1).bind fun bt359 => ((laws_markVal.f k t337 t338 t339 t340 bt359.1).bind fun bt361 => (if bt361.1 < 0 then (laws_FnExactPutVal.j0 k l0 t331 t344 true a1_0 a1_1 a1_2 l1_3) else ((laws_eqByteS.f k t344 t331).bind fun t363 => (laws_FnExactPutVal.j0 k l0 t331 t344 (!t363) a1_0 a1_1 a1_2 l1_3))))) else (some false)) = some r := H
     have A22 := am A220
     clear A220
     by_cases c23 : t358 = true
     · subst c23
       have H1 : ((laws_markByteS.f k t334 1).bind fun bt359 => ((laws_markVal.f k t337 t338 t339 t340 bt359.1).bind fun bt361 => (if bt361.1 < 0 then (laws_FnExactPutVal.j0 k l0 t331 t344 true a1_0 a1_1 a1_2 l1_3) else ((laws_eqByteS.f k t344 t331).bind fun t363 => (laws_FnExactPutVal.j0 k l0 t331 t344 (!t363) a1_0 a1_1 a1_2 l1_3))))) = some r := by rw [if_pos rfl] at H; exact H
       clear H
       have H := H1
       clear H1
       replace H := Option.bind_eq_some_iff.mp H
       obtain ⟨⟨t359, t360⟩, A240, H⟩ := H
       replace H : ((laws_markVal.f k t337 t338 t339 t340 t359).bind fun bt361 => (if bt361.1 < 0 then (laws_FnExactPutVal.j0 k l0 t331 t344 true a1_0 a1_1 a1_2 l1_3) else ((laws_eqByteS.f k t344 t331).bind fun t363 => (laws_FnExactPutVal.j0 k l0 t331 t344 (!t363) a1_0 a1_1 a1_2 l1_3)))) = some r := H
       have A24 := am A240
       clear A240
       replace H := Option.bind_eq_some_iff.mp H
       obtain ⟨⟨t361, t362⟩, A250, H⟩ := H
       replace H : (if t361 < 0 then (laws_FnExactPutVal.j0 k l0 t331 t344 true a1_0 a1_1 a1_2 l1_3) else ((laws_eqByteS.f k t344 t331).bind fun t363 => (laws_FnExactPutVal.j0 k l0 t331 t344 (!t363) a1_0 a1_1 a1_2 l1_3))) = some r := H
       have A25 := am A250
       clear A250
       have HC26 := am H
       clear H
       go_enter Try.func3, Try.ntmps3
       try go_wp2_with (first | ((with_reducible refine gate_dst (N := 3) rfl ?_); refine box_event ?hg (N := 3) ?hd (cs := #[.int .i64 a1_0, .int .i64 a1_1, .string a1_2, .slice A1_3 l1_3.length c1_3]) (t := 25) ?hr ?_; (case hd => rfl); (case hg => rfl); (case hr => exact gs); intro gb320 hg w27 hbox hb; have n_ := ak4 (below_step (bq HB.out) hb) hbox ((by rw [hg]; exact (below_size (bq HB.out)) : w.heap.size ≤ gb320)) ((by rw [hg]; exact (below_size (bq HB.out)) : w.heap.size ≤ gb320)); clear HB; obtain ⟨HB, BK320, GW320, GE320⟩ := n_; clear hb hbox hg; have hcz28_0 : w27.cell? ⟨gb320, 0, none⟩ = some (.int .i64 a1_0) := (blk_cell BK320.out 0).trans rfl; have hcz28_1 : w27.cell? ⟨gb320, 1, none⟩ = some (.int .i64 a1_1) := (blk_cell BK320.out 1).trans rfl; have hcz28_2 : w27.cell? ⟨gb320, 2, none⟩ = some (.string a1_2) := (blk_cell BK320.out 2).trans rfl; have hcz28_3 : w27.cell? ⟨gb320, 3, none⟩ = some (.slice A1_3 l1_3.length c1_3) := (blk_cell BK320.out 3).trans rfl; have hfz28_0 := blk_frozen BK320.out 0; have hfz28_1 := blk_frozen BK320.out 1; have hfz28_2 := blk_frozen BK320.out 2; have hfz28_3 := blk_frozen BK320.out 3) | ((with_reducible refine gate_callee (f := 13) rfl ?_); refine goesL_ (some 19) rfl rfl Try.func13 (by kernel_rfl) rfl #[.agg #[.int .i64 a1_0, .int .i64 a1_1, .string a1_2, .slice A1_3 l1_3.length c1_3], .int .i64 1048576] rfl ga ?_; (with_reducible refine (laws_szVal.calls a1_0 a1_1 a1_2 _ _ l1_3 1048576 t321 _ ?side1 ?side2 A5.out).mono ?_); (case side1 => exact cq (Kd.C_below HR1_3.out HB.out)); (case side2 => exact HC1_3.out); rintro e w29 ⟨rfl, hb⟩; refine ⟨_, rfl, ?_⟩; have n_ := ak2 (blk_below (g := gb320) (o := .cells #[.int .i64 a1_0, .int .i64 a1_1, .string a1_2, .slice A1_3 l1_3.length c1_3] 25 (0, 0)) (zq BK320.out) hb) (below_step (bq1 HB.out GE320.out) hb); clear BK320 HB; obtain ⟨BK320, HB⟩ := n_; (try clear hb)))
       have n_ := ak2 (blk_drew BK320.out) (below_drew1 HB.out)
       clear BK320 HB
       obtain ⟨BK320, HB⟩ := n_
       refine start_ (n := 6) (S := fun w' => w'.cell? ⟨gb320, 0, none⟩ = some (.int .i64 a1_0) ∧ w'.cell? ⟨gb320, 1, none⟩ = some (.int .i64 a1_1) ∧ w'.cell? ⟨gb320, 2, none⟩ = some (.string a1_2) ∧ w'.cell? ⟨gb320, 3, none⟩ = some (.slice A1_3 l1_3.length c1_3)) (ds := []) #[false, false, false, false, false, false] (by kernel_rfl) rfl rfl ⟨(blk_cell BK320.out 0).trans rfl, (blk_cell BK320.out 1).trans rfl, (blk_cell BK320.out 2).trans rfl, (blk_cell BK320.out 3).trans rfl⟩ (fun hHeld => ?_)
       generalize w29.drew = w30 at BK320 HB hHeld ⊢
       refine pure_ (i := 0) (N := some 22) (v := ?_) (a' := ?_) #[true, false, false, false, false, false] rfl rfl (by kernel_rfl) (fun _ _ _ h => h) (Or.inl ⟨by rfl, ?_⟩) ?_ ?_
       rotate_left
       · intro w'
         go_simp
         with_reducible rfl
       rotate_left
       · simp only [Act.put, List.setIfInBounds_toArray, List.set_cons_zero, List.set_cons_succ, i64_w, i32_w]
         rfl
       refine take_ (i := 2) (N := some 24) (v := ?_) (a' := ?_) #[true, false, true, false, false, false] rfl rfl (by kernel_rfl) (fun _ _ _ h => h) (Or.inl ⟨by rfl, ?_⟩) hHeld ?_ ?_
       rotate_left
       · rintro w' ⟨s0, s1, s2, s3⟩
         go_simp
         with_reducible rfl
       rotate_left
       · simp only [Act.put, List.setIfInBounds_toArray, List.set_cons_zero, List.set_cons_succ, i64_w, i32_w]
         rfl
       refine one_ (i := 1) (N := some 23) #[true, true, true, false, false, false] rfl rfl (by kernel_rfl) (by decide) (fun K hK => ?_)
       refine goes_ Try.func15 (by kernel_rfl) rfl #[.slice A0 l0.length c0] (by rfl) rfl rfl ga ?_
       with_reducible refine (laws_toByteS.calls k _ _ l0 t322 _ ?side1 ?side2 A10.out).mono ?_
       (case side1 => exact cq (Kd.C_below HR0.out HB.out))
       (case side2 => exact HC0.out)
       rintro e w31 ⟨v323, rfl, ho0, hb⟩
       refine ⟨_, rfl, ?_⟩
       have n_ := ak3 (Kd.R_lower ho0 (below_size (bq1 HB.out GE320.out))) (blk_below (g := gb320) (o := .cells #[.int .i64 a1_0, .int .i64 a1_1, .string a1_2, .slice A1_3 l1_3.length c1_3] 25 (0, 0)) (zq BK320.out) hb) (below_step (bq1 HB.out GE320.out) hb)
       clear BK320 HB
       obtain ⟨HO324, BK320, HB⟩ := n_
       (try clear hb ho0)
       refine hK.out _ _ ⟨(blk_cell BK320.out 0).trans rfl, (blk_cell BK320.out 1).trans rfl, (blk_cell BK320.out 2).trans rfl, (blk_cell BK320.out 3).trans rfl⟩ (fun hHeld => ?_)
       clear hK K
       refine norm_ (a' := ?_) ?_ ?_
       rotate_left
       · show Act.put _ (some 23) _ = _
         simp only [Act.put, List.setIfInBounds_toArray, List.set_cons_zero, List.set_cons_succ, i64_w, i32_w]
         rfl
       refine one_ (i := 3) (N := some 25) #[true, true, true, true, false, false] rfl rfl (by kernel_rfl) (by decide) (fun K hK => ?_)
       refine goes_ Try.func16 (by kernel_rfl) rfl #[.agg #[.int .i64 a1_0, .int .i64 a1_1, .string a1_2, .slice A1_3 l1_3.length c1_3]] (by rfl) rfl rfl ga ?_
       with_reducible refine (laws_toVal.calls k a1_0 a1_1 a1_2 _ _ l1_3 t325 t326 t327 t328 _ ?side1 ?side2 A11.out).mono ?_
       (case side1 => exact cq (Kd.C_below HR1_3.out HB.out))
       (case side2 => exact HC1_3.out)
       rintro e w32 ⟨v329, rfl, ho0, hb⟩
       refine ⟨_, rfl, ?_⟩
       have n_ := ak4 (Kd.R_below (kqR HO324.out) hb) (Kd.R_lower ho0 (below_size (bq1 HB.out GE320.out))) (blk_below (g := gb320) (o := .cells #[.int .i64 a1_0, .int .i64 a1_1, .string a1_2, .slice A1_3 l1_3.length c1_3] 25 (0, 0)) (zq BK320.out) hb) (below_step (bq1 HB.out GE320.out) hb)
       clear HO324 BK320 HB
       obtain ⟨HO324, HO330, BK320, HB⟩ := n_
       (try clear hb ho0)
       obtain ⟨Ao33, co33, eo33⟩ := Kd.R_slice HO324.out
       (first | subst eo33 | (injection eo33 with f1_ f2_ f3_; have f4_ := f1_.symm; have f5_ := f3_.symm; clear f1_ f2_ f3_; subst f4_; subst f5_))
       obtain ⟨Ao34, co34, eo34⟩ := Kd.R_slice HO330.out
       (first | subst eo34 | (injection eo34 with f1_ f2_ f3_; have f4_ := f1_.symm; have f5_ := f3_.symm; clear f1_ f2_ f3_; subst f4_; subst f5_))
       refine hK.out _ _ ⟨(blk_cell BK320.out 0).trans rfl, (blk_cell BK320.out 1).trans rfl, (blk_cell BK320.out 2).trans rfl, (blk_cell BK320.out 3).trans rfl⟩ (fun hHeld => ?_)
       clear hK K
       refine norm_ (a' := ?_) ?_ ?_
       rotate_left
       · show Act.put _ (some 25) _ = _
         simp only [Act.put, List.setIfInBounds_toArray, List.set_cons_zero, List.set_cons_succ, i64_w, i32_w]
         rfl
       refine one_ (i := 4) (N := some 26) #[true, true, true, true, true, false] rfl rfl (by kernel_rfl) (by decide) (fun K hK => ?_)
       refine goes_ Try.func14 (by kernel_rfl) rfl #[.slice Ao33 t322.length co33, .agg #[.int .i64 t325, .int .i64 t326, .string t327, .slice Ao34 t328.length co34]] (by rfl) rfl rfl ga ?_
       with_reducible refine (spec_PutVal.calls k _ _ t322 t325 t326 t327 _ _ t328 t331 _ ?side1 ?side2 ?side3 ?side4 A12.out).mono ?_
       (case side1 => repeat (first | exact (Kd.R_reads' HO324.out).2.2 | (with_reducible refine Kd.C_alloc ?_ _) | (with_reducible refine Kd.C_drewN ?_ _) | (with_reducible refine Kd.C_drew ?_)))
       (case side2 => exact (Kd.R_reads' HO324.out).2.1)
       (case side3 => repeat (first | exact (Kd.R_reads' HO330.out).2.2 | (with_reducible refine Kd.C_alloc ?_ _) | (with_reducible refine Kd.C_drewN ?_ _) | (with_reducible refine Kd.C_drew ?_)))
       (case side4 => exact (Kd.R_reads' HO330.out).2.1)
       rintro e w35 ⟨v332, rfl, ho0, hb⟩
       refine ⟨_, rfl, ?_⟩
       have n_ := ak5 (Kd.R_elder' (kqR HO324.out) (Kd.R_base ho0) hb) (Kd.R_below (kqR HO330.out) hb) (Kd.R_lower (Kd.R_new' ho0 (Kd.R_lt (kqR HO324.out))) (below_size (bq1 HB.out GE320.out))) (blk_below (g := gb320) (o := .cells #[.int .i64 a1_0, .int .i64 a1_1, .string a1_2, .slice A1_3 l1_3.length c1_3] 25 (0, 0)) (zq BK320.out) hb) (below_step (bq1 HB.out GE320.out) hb)
       clear HO324 HO330 BK320 HB
       obtain ⟨HO324, HO330, HO333, BK320, HB⟩ := n_
       (try clear hb ho0)
       refine hK.out _ _ ⟨(blk_cell BK320.out 0).trans rfl, (blk_cell BK320.out 1).trans rfl, (blk_cell BK320.out 2).trans rfl, (blk_cell BK320.out 3).trans rfl⟩ (fun hHeld => ?_)
       clear hK K
       refine norm_ (a' := ?_) ?_ ?_
       rotate_left
       · show Act.put _ (some 26) _ = _
         simp only [Act.put, List.setIfInBounds_toArray, List.set_cons_zero, List.set_cons_succ, i64_w, i32_w]
         rfl
       refine pure_ (i := 5) (N := some 6) (v := ?_) (a' := ?_) #[true, true, true, true, true, true] rfl rfl (by kernel_rfl) (fun _ _ _ h => h) (Or.inl ⟨by rfl, ?_⟩) ?_ ?_
       rotate_left
       · intro w'
         go_simp
         with_reducible rfl
       rotate_left
       · simp only [Act.put, List.setIfInBounds_toArray, List.set_cons_zero, List.set_cons_succ, i64_w, i32_w]
         rfl
       refine done_ (by kernel_rfl) ?_
       try go_wp2_with (first | ((with_reducible refine gate_callee (f := 15) rfl ?_); refine goesL_ (some 28) rfl rfl Try.func15 (by kernel_rfl) rfl #[.slice A0 l0.length c0] rfl ga ?_; (with_reducible refine (laws_toByteS.calls k _ _ l0 t334 _ ?side1 ?side2 A13.out).mono ?_); (case side1 => exact cq (Kd.C_below HR0.out HB.out)); (case side2 => exact HC0.out); rintro e w36 ⟨v335, rfl, ho0, hb⟩; refine ⟨_, rfl, ?_⟩; have n_ := ak6 (Kd.R_elder' (kqR HO324.out) (Kd.R_base ho0) hb) (Kd.R_below (kqR HO330.out) hb) (Kd.R_elder' (kqR HO333.out) (Kd.R_base ho0) hb) (Kd.R_lower (Kd.R_new' (Kd.R_new' ho0 (Kd.R_lt (kqR HO324.out))) (Kd.R_lt (kqR HO333.out))) (below_size (bq1 HB.out GE320.out))) (blk_below (g := gb320) (o := .cells #[.int .i64 a1_0, .int .i64 a1_1, .string a1_2, .slice A1_3 l1_3.length c1_3] 25 (0, 0)) (zq BK320.out) hb) (below_step (bq1 HB.out GE320.out) hb); clear HO324 HO330 HO333 BK320 HB; obtain ⟨HO324, HO330, HO333, HO336, BK320, HB⟩ := n_; (try clear hb ho0); have hcz37_0 : w36.cell? ⟨gb320, 0, none⟩ = some (.int .i64 a1_0) := (blk_cell BK320.out 0).trans rfl; have hcz37_1 : w36.cell? ⟨gb320, 1, none⟩ = some (.int .i64 a1_1) := (blk_cell BK320.out 1).trans rfl; have hcz37_2 : w36.cell? ⟨gb320, 2, none⟩ = some (.string a1_2) := (blk_cell BK320.out 2).trans rfl; have hcz37_3 : w36.cell? ⟨gb320, 3, none⟩ = some (.slice A1_3 l1_3.length c1_3) := (blk_cell BK320.out 3).trans rfl; have hfz37_0 := blk_frozen BK320.out 0; have hfz37_1 := blk_frozen BK320.out 1; have hfz37_2 := blk_frozen BK320.out 2; have hfz37_3 := blk_frozen BK320.out 3) | ((with_reducible refine gate_callee (f := 16) rfl ?_); refine goesL_ (some 30) rfl rfl Try.func16 (by kernel_rfl) rfl #[.agg #[.int .i64 a1_0, .int .i64 a1_1, .string a1_2, .slice A1_3 l1_3.length c1_3]] rfl ga ?_; (with_reducible refine (laws_toVal.calls k a1_0 a1_1 a1_2 _ _ l1_3 t337 t338 t339 t340 _ ?side1 ?side2 A14.out).mono ?_); (case side1 => exact cq (Kd.C_below HR1_3.out HB.out)); (case side2 => exact HC1_3.out); rintro e w38 ⟨v341, rfl, ho0, hb⟩; refine ⟨_, rfl, ?_⟩; have n_ := ak7 (Kd.R_below (kqR HO324.out) hb) (Kd.R_elder' (kqR HO330.out) (Kd.R_base ho0) hb) (Kd.R_below (kqR HO333.out) hb) (Kd.R_below (kqR HO336.out) hb) (Kd.R_lower (Kd.R_new' ho0 (Kd.R_lt (kqR HO330.out))) (below_size (bq1 HB.out GE320.out))) (blk_below (g := gb320) (o := .cells #[.int .i64 a1_0, .int .i64 a1_1, .string a1_2, .slice A1_3 l1_3.length c1_3] 25 (0, 0)) (zq BK320.out) hb) (below_step (bq1 HB.out GE320.out) hb); clear HO324 HO330 HO333 HO336 BK320 HB; obtain ⟨HO324, HO330, HO333, HO336, HO342, BK320, HB⟩ := n_; (try clear hb ho0)) | ((with_reducible refine gate_dst (N := 8) rfl ?_); refine box_event ?hg (N := 8) ?hd (cs := #[.int .i64 0, .int .i64 0, .string (⟨#[]⟩ : ByteArray), .slice none 0 0]) (t := 29) ?hr ?_; (case hd => rfl); (case hg => rfl); (case hr => exact gs); intro gb343 hg w39 hbox hb; have n_ := ak12 (Kd.R_below (kqR HO324.out) hb) (Kd.R_below (kqR HO330.out) hb) (Kd.R_below (kqR HO333.out) hb) (Kd.R_below (kqR HO336.out) hb) (Kd.R_below (kqR HO342.out) hb) (blk_below (g := gb320) (o := .cells #[.int .i64 a1_0, .int .i64 a1_1, .string a1_2, .slice A1_3 l1_3.length c1_3] 25 (0, 0)) (zq BK320.out) hb) (below_step (bq1 HB.out GE320.out) hb) hbox ((by rw [hg]; exact (below_size (bq1 HB.out GE320.out)) : w.heap.size ≤ gb343)) ((by rw [hg]; exact (below_size (bq1 HB.out GE320.out)) : w.heap.size ≤ gb343)) ((by rw [hg]; exact Nat.ne_of_lt (blk_lt (g := gb320) (o := .cells #[.int .i64 a1_0, .int .i64 a1_1, .string a1_2, .slice A1_3 l1_3.length c1_3] 25 (0, 0)) (zq BK320.out)) : gb320 ≠ gb343)) ((by rw [hg]; exact Nat.ne_of_gt (blk_lt (g := gb320) (o := .cells #[.int .i64 a1_0, .int .i64 a1_1, .string a1_2, .slice A1_3 l1_3.length c1_3] 25 (0, 0)) (zq BK320.out)) : gb343 ≠ gb320)); clear HO324 HO330 HO333 HO336 HO342 BK320 HB; obtain ⟨HO324, HO330, HO333, HO336, HO342, BK320, HB, BK343, GW343, GE343, NB320_343, NB343_320⟩ := n_; clear hb hbox hg; have hnb40 := NB343_320.out; have hnc40 := NB320_343.out; have hcz41_0 : w39.cell? ⟨gb343, 0, none⟩ = some (.int .i64 0) := (blk_cell BK343.out 0).trans rfl; have hcz41_1 : w39.cell? ⟨gb343, 1, none⟩ = some (.int .i64 0) := (blk_cell BK343.out 1).trans rfl; have hcz41_2 : w39.cell? ⟨gb343, 2, none⟩ = some (.string (⟨#[]⟩ : ByteArray)) := (blk_cell BK343.out 2).trans rfl; have hcz41_3 : w39.cell? ⟨gb343, 3, none⟩ = some (.slice none 0 0) := (blk_cell BK343.out 3).trans rfl; have hfz41_0 := blk_frozen BK343.out 0; have hfz41_1 := blk_frozen BK343.out 1; have hfz41_2 := blk_frozen BK343.out 2; have hfz41_3 := blk_frozen BK343.out 3; obtain ⟨Ao42, co42, eo42⟩ := Kd.R_slice HO342.out; subst eo42) | ((with_reducible refine gate_store (t := 29) (p := 8) rfl ?_); refine store_event (t := 29) (p := 8) (v := ?vo_w43) (w1 := ((((w39.setCell ⟨gb343, 0, none⟩ (.int .i64 t337)).setCell ⟨gb343, 1, none⟩ (.int .i64 t338)).setCell ⟨gb343, 2, none⟩ (.string t339)).setCell ⟨gb343, 3, none⟩ (.slice Ao42 t340.length co42))) ?hg ?ho ?hn ?hr ?_; (case ho => rfl); (case hg => rfl); (case hn => rfl); (case hr => exact gs); intro w43 hw; have n0_ : Aside0 (Kd.R (Kd.int .u8) 5 w43 w.heap.size (fun k_ => some k_ ≠ (v332 : Value).ownBlock ∧ some k_ ≠ (v335 : Value).ownBlock) (.slice Ao33 t322.length co33) t322) := ⟨(by rw [hw]; exact (by (with_reducible repeat (first | apply Kd.R_alloc | apply Kd.R_drewN | apply Kd.R_drew)); exact Kd.R_mono (Kd.R_far (p := ⟨gb343, 3, none⟩) (Kd.R_far (p := ⟨gb343, 2, none⟩) (Kd.R_far (p := ⟨gb343, 1, none⟩) (Kd.R_far (p := ⟨gb343, 0, none⟩) (Kd.R_types HO324.out BK343.out (by decide)) (fun _ hk => hk.2) (.int .i64 t337)) (fun _ hk => hk.2) (.int .i64 t338)) (fun _ hk => hk.2) (.string t339)) (fun _ hk => hk.2) (.slice Ao42 t340.length co42)) (fun _ hk => ⟨hk.1.1.2, hk.1.2⟩)))⟩; have n1_ : Aside0 (Kd.R (Kd.int .i64) 3 w43 w.heap.size (fun k_ => some k_ ≠ (.slice Ao42 t340.length co42 : Value).ownBlock) (.slice Ao34 t328.length co34) t328) := ⟨(by rw [hw]; exact (by (with_reducible repeat (first | apply Kd.R_alloc | apply Kd.R_drewN | apply Kd.R_drew)); exact Kd.R_mono (Kd.R_far (p := ⟨gb343, 3, none⟩) (Kd.R_far (p := ⟨gb343, 2, none⟩) (Kd.R_far (p := ⟨gb343, 1, none⟩) (Kd.R_far (p := ⟨gb343, 0, none⟩) (Kd.R_types HO330.out BK343.out (by decide)) (fun _ hk => hk.2) (.int .i64 t337)) (fun _ hk => hk.2) (.int .i64 t338)) (fun _ hk => hk.2) (.string t339)) (fun _ hk => hk.2) (.slice Ao42 t340.length co42)) (fun _ hk => hk.1.2)))⟩; have n2_ : Aside0 (Kd.R (Kd.int .u8) 5 w43 w.heap.size (fun k_ => some k_ ≠ (.slice Ao33 t322.length co33 : Value).ownBlock ∧ some k_ ≠ (v335 : Value).ownBlock) v332 t331) := ⟨(by rw [hw]; exact (by (with_reducible repeat (first | apply Kd.R_alloc | apply Kd.R_drewN | apply Kd.R_drew)); exact Kd.R_mono (Kd.R_far (p := ⟨gb343, 3, none⟩) (Kd.R_far (p := ⟨gb343, 2, none⟩) (Kd.R_far (p := ⟨gb343, 1, none⟩) (Kd.R_far (p := ⟨gb343, 0, none⟩) (Kd.R_types HO333.out BK343.out (by decide)) (fun _ hk => hk.2) (.int .i64 t337)) (fun _ hk => hk.2) (.int .i64 t338)) (fun _ hk => hk.2) (.string t339)) (fun _ hk => hk.2) (.slice Ao42 t340.length co42)) (fun _ hk => ⟨hk.1.1.2, hk.1.2⟩)))⟩; have n3_ : Aside0 (Kd.R (Kd.int .u8) 5 w43 w.heap.size (fun k_ => some k_ ≠ (.slice Ao33 t322.length co33 : Value).ownBlock ∧ some k_ ≠ (v332 : Value).ownBlock) v335 t334) := ⟨(by rw [hw]; exact (by (with_reducible repeat (first | apply Kd.R_alloc | apply Kd.R_drewN | apply Kd.R_drew)); exact Kd.R_mono (Kd.R_far (p := ⟨gb343, 3, none⟩) (Kd.R_far (p := ⟨gb343, 2, none⟩) (Kd.R_far (p := ⟨gb343, 1, none⟩) (Kd.R_far (p := ⟨gb343, 0, none⟩) (Kd.R_types HO336.out BK343.out (by decide)) (fun _ hk => hk.2) (.int .i64 t337)) (fun _ hk => hk.2) (.int .i64 t338)) (fun _ hk => hk.2) (.string t339)) (fun _ hk => hk.2) (.slice Ao42 t340.length co42)) (fun _ hk => ⟨hk.1.1.2, hk.1.2⟩)))⟩; have n4_ : Aside0 (Kd.R (Kd.int .i64) 3 w43 w.heap.size (fun k_ => some k_ ≠ (.slice Ao34 t328.length co34 : Value).ownBlock) (.slice Ao42 t340.length co42) t340) := ⟨(by rw [hw]; exact (by (with_reducible repeat (first | apply Kd.R_alloc | apply Kd.R_drewN | apply Kd.R_drew)); exact Kd.R_mono (Kd.R_far (p := ⟨gb343, 3, none⟩) (Kd.R_far (p := ⟨gb343, 2, none⟩) (Kd.R_far (p := ⟨gb343, 1, none⟩) (Kd.R_far (p := ⟨gb343, 0, none⟩) (Kd.R_types HO342.out BK343.out (by decide)) (fun _ hk => hk.2) (.int .i64 t337)) (fun _ hk => hk.2) (.int .i64 t338)) (fun _ hk => hk.2) (.string t339)) (fun _ hk => hk.2) (.slice Ao42 t340.length co42)) (fun _ hk => hk.1.2)))⟩; have n5_ : Aside0 (w43.heap[gb320]? = some (.cells #[.int .i64 a1_0, .int .i64 a1_1, .string a1_2, .slice A1_3 l1_3.length c1_3] 25 (0, 0))) := ⟨(by rw [hw]; exact (by (with_reducible repeat (first | refine blk_drewN ?_ _ | refine blk_drew ?_ | refine blk_alloc ?_ _)); refine blk_far ?_ NB320_343.out _; (with_reducible repeat (first | refine blk_drewN ?_ _ | refine blk_drew ?_ | refine blk_alloc ?_ _)); refine blk_far ?_ NB320_343.out _; (with_reducible repeat (first | refine blk_drewN ?_ _ | refine blk_drew ?_ | refine blk_alloc ?_ _)); refine blk_far ?_ NB320_343.out _; (with_reducible repeat (first | refine blk_drewN ?_ _ | refine blk_drew ?_ | refine blk_alloc ?_ _)); refine blk_far ?_ NB320_343.out _; (with_reducible repeat (first | refine blk_drewN ?_ _ | refine blk_drew ?_ | refine blk_alloc ?_ _)); exact BK320.out))⟩; have n6_ : Aside0 (w43.heap[gb343]? = some (.cells #[.int .i64 t337, .int .i64 t338, .string t339, .slice Ao42 t340.length co42] 29 (0, 0))) := ⟨(by rw [hw]; exact (by (with_reducible repeat (first | refine blk_drewN ?_ _ | refine blk_drew ?_ | refine blk_alloc ?_ _)); refine blk_put (cs := #[.int .i64 t337, .int .i64 t338, .string t339, .slice none 0 0]) ?_ 3 _ rfl; (with_reducible repeat (first | refine blk_drewN ?_ _ | refine blk_drew ?_ | refine blk_alloc ?_ _)); refine blk_put (cs := #[.int .i64 t337, .int .i64 t338, .string (⟨#[]⟩ : ByteArray), .slice none 0 0]) ?_ 2 _ rfl; (with_reducible repeat (first | refine blk_drewN ?_ _ | refine blk_drew ?_ | refine blk_alloc ?_ _)); refine blk_put (cs := #[.int .i64 t337, .int .i64 0, .string (⟨#[]⟩ : ByteArray), .slice none 0 0]) ?_ 1 _ rfl; (with_reducible repeat (first | refine blk_drewN ?_ _ | refine blk_drew ?_ | refine blk_alloc ?_ _)); refine blk_put (cs := #[.int .i64 0, .int .i64 0, .string (⟨#[]⟩ : ByteArray), .slice none 0 0]) ?_ 0 _ rfl; (with_reducible repeat (first | refine blk_drewN ?_ _ | refine blk_drew ?_ | refine blk_alloc ?_ _)); exact BK343.out))⟩; have n7_ : Aside0 (Below w.heap.size w w43) := ⟨(by rw [hw]; exact (bq2 HB.out GE320.out GE343.out))⟩; clear hw; clear HO324; clear HO330; clear HO333; clear HO336; clear HO342; clear BK320; clear BK343; clear HB; have HO324 := n0_; have HO330 := n1_; have HO333 := n2_; have HO336 := n3_; have HO342 := n4_; have BK320 := n5_; have BK343 := n6_; have HB := n7_; clear n0_ n1_ n2_ n3_ n4_ n5_ n6_ n7_; have hcz44_0 : w43.cell? ⟨gb343, 0, none⟩ = some (.int .i64 t337) := (blk_cell BK343.out 0).trans rfl; have hcz44_1 : w43.cell? ⟨gb343, 1, none⟩ = some (.int .i64 t338) := (blk_cell BK343.out 1).trans rfl; have hcz44_2 : w43.cell? ⟨gb343, 2, none⟩ = some (.string t339) := (blk_cell BK343.out 2).trans rfl; have hcz44_3 : w43.cell? ⟨gb343, 3, none⟩ = some (.slice Ao42 t340.length co42) := (blk_cell BK343.out 3).trans rfl; have hfz44_0 := blk_frozen BK343.out 0; have hfz44_1 := blk_frozen BK343.out 1; have hfz44_2 := blk_frozen BK343.out 2; have hfz44_3 := blk_frozen BK343.out 3; obtain ⟨Ao45, co45, eo45⟩ := Kd.R_slice HO336.out; subst eo45) | ((with_reducible refine gate_callee (f := 17) rfl ?_); refine goesL_ (some 33) rfl rfl Try.func17 (by kernel_rfl) rfl #[.slice Ao45 t334.length co45, .agg #[.int .i64 t337, .int .i64 t338, .string t339, .slice Ao42 t340.length co42]] rfl ga ?_; (with_reducible refine (impl_PutVal.calls k _ _ t334 t337 t338 t339 _ _ t340 t344 _ ?side1 ?side2 ?side3 ?side4 A15.out).mono ?_); (case side1 => repeat (first | exact (Kd.R_reads' HO336.out).2.2 | (with_reducible refine Kd.C_alloc ?_ _) | (with_reducible refine Kd.C_drewN ?_ _) | (with_reducible refine Kd.C_drew ?_))); (case side2 => exact (Kd.R_reads' HO336.out).2.1); (case side3 => repeat (first | exact (Kd.R_reads' HO342.out).2.2 | (with_reducible refine Kd.C_alloc ?_ _) | (with_reducible refine Kd.C_drewN ?_ _) | (with_reducible refine Kd.C_drew ?_))); (case side4 => exact (Kd.R_reads' HO342.out).2.1); rintro e w46 ⟨v345, rfl, ho0, hb⟩; refine ⟨_, rfl, ?_⟩; have n_ := ak9 (Kd.R_elder' (kqR HO324.out) (Kd.R_base ho0) hb) (Kd.R_below (kqR HO330.out) hb) (Kd.R_elder' (kqR HO333.out) (Kd.R_base ho0) hb) (Kd.R_elder' (kqR HO336.out) (Kd.R_base ho0) hb) (Kd.R_below (kqR HO342.out) hb) (Kd.R_lower (Kd.R_new' (Kd.R_new' (Kd.R_new' ho0 (Kd.R_lt (kqR HO324.out))) (Kd.R_lt (kqR HO333.out))) (Kd.R_lt (kqR HO336.out))) (below_size (bq2 HB.out GE320.out GE343.out))) (blk_below (g := gb320) (o := .cells #[.int .i64 a1_0, .int .i64 a1_1, .string a1_2, .slice A1_3 l1_3.length c1_3] 25 (0, 0)) (zq BK320.out) hb) (blk_below (g := gb343) (o := .cells #[.int .i64 t337, .int .i64 t338, .string t339, .slice Ao42 t340.length co42] 29 (0, 0)) (zq BK343.out) hb) (below_step (bq2 HB.out GE320.out GE343.out) hb); clear HO324 HO330 HO333 HO336 HO342 BK320 BK343 HB; obtain ⟨HO324, HO330, HO333, HO336, HO342, HO346, BK320, BK343, HB⟩ := n_; (try clear hb ho0); obtain ⟨Ao47, co47, eo47⟩ := Kd.R_slice HO346.out; subst eo47; obtain ⟨Ao48, co48, eo48⟩ := Kd.R_slice HO333.out; subst eo48) | ((with_reducible refine gate_callee (f := 18) rfl ?_); refine goesL_ (some 36) rfl rfl Try.func18 (by kernel_rfl) rfl #[.slice Ao47 t344.length co47, .slice Ao48 t331.length co48] rfl ga ?_; (with_reducible refine (laws_eqByteS.calls k _ _ t344 _ _ t331 true _ ?side1 ?side2 ?side3 ?side4 A16.out).mono ?_); (case side1 => repeat (first | exact (Kd.R_reads' HO346.out).2.2 | (with_reducible refine Kd.C_alloc ?_ _) | (with_reducible refine Kd.C_drewN ?_ _) | (with_reducible refine Kd.C_drew ?_))); (case side2 => exact (Kd.R_reads' HO346.out).2.1); (case side3 => repeat (first | exact (Kd.R_reads' HO333.out).2.2 | (with_reducible refine Kd.C_alloc ?_ _) | (with_reducible refine Kd.C_drewN ?_ _) | (with_reducible refine Kd.C_drew ?_))); (case side4 => exact (Kd.R_reads' HO333.out).2.1); rintro e w' ⟨rfl, ⟨nd, rfl⟩⟩; refine ⟨_, rfl, ?_⟩) | ((with_reducible refine gate_callee (f := 15) rfl ?_); refine goesL_ (some 40) rfl rfl Try.func15 (by kernel_rfl) rfl #[.slice A0 l0.length c0] rfl ga ?_; (with_reducible refine (laws_toByteS.calls k _ _ l0 t348 _ ?side1 ?side2 A18.out).mono ?_); (case side1 => repeat (first | exact (Kd.C_below HR0.out (bq2 HB.out GE320.out GE343.out)) | (with_reducible refine Kd.C_alloc ?_ _) | (with_reducible refine Kd.C_drewN ?_ _) | (with_reducible refine Kd.C_drew ?_))); (case side2 => exact HC0.out); rintro e w49 ⟨v349, rfl, ho0, hb⟩; refine ⟨_, rfl, ?_⟩; have n_ := ak10 (Kd.R_elder' (kqR HO324.out) (Kd.R_base ho0) hb) (Kd.R_below (kqR HO330.out) hb) (Kd.R_elder' (kqR HO333.out) (Kd.R_base ho0) hb) (Kd.R_elder' (kqR HO336.out) (Kd.R_base ho0) hb) (Kd.R_below (kqR HO342.out) hb) (Kd.R_elder' (kqR HO346.out) (Kd.R_base ho0) hb) (Kd.R_lower (Kd.R_new' (Kd.R_new' (Kd.R_new' (Kd.R_new' ho0 (Kd.R_lt (kqR HO324.out))) (Kd.R_lt (kqR HO333.out))) (Kd.R_lt (kqR HO336.out))) (Kd.R_lt (kqR HO346.out))) (below_size (bq2 HB.out GE320.out GE343.out))) (blk_below (g := gb320) (o := .cells #[.int .i64 a1_0, .int .i64 a1_1, .string a1_2, .slice A1_3 l1_3.length c1_3] 25 (0, 0)) (zq BK320.out) hb) (blk_below (g := gb343) (o := .cells #[.int .i64 t337, .int .i64 t338, .string t339, .slice Ao42 t340.length co42] 29 (0, 0)) (zq BK343.out) hb) (below_step (bq2 HB.out GE320.out GE343.out) hb); clear HO324 HO330 HO333 HO336 HO342 HO346 BK320 BK343 HB; obtain ⟨HO324, HO330, HO333, HO336, HO342, HO346, HO350, BK320, BK343, HB⟩ := n_; (try clear hb ho0); obtain ⟨Ao50, co50, eo50⟩ := Kd.R_slice HO350.out; subst eo50) | ((with_reducible refine gate_callee (f := 18) rfl ?_); refine goesL_ (some 41) rfl rfl Try.func18 (by kernel_rfl) rfl #[.slice Ao45 t334.length co45, .slice Ao50 t348.length co50] rfl ga ?_; (with_reducible refine (laws_eqByteS.calls k _ _ t334 _ _ t348 true _ ?side1 ?side2 ?side3 ?side4 A19.out).mono ?_); (case side1 => repeat (first | exact (Kd.R_reads' HO336.out).2.2 | (with_reducible refine Kd.C_alloc ?_ _) | (with_reducible refine Kd.C_drewN ?_ _) | (with_reducible refine Kd.C_drew ?_))); (case side2 => exact (Kd.R_reads' HO336.out).2.1); (case side3 => repeat (first | exact (Kd.R_reads' HO350.out).2.2 | (with_reducible refine Kd.C_alloc ?_ _) | (with_reducible refine Kd.C_drewN ?_ _) | (with_reducible refine Kd.C_drew ?_))); (case side4 => exact (Kd.R_reads' HO350.out).2.1); rintro e w' ⟨rfl, ⟨nd, rfl⟩⟩; refine ⟨_, rfl, ?_⟩))
       have n_ := am (Kd.R_mono (ok' := (fun k_ => some k_ ≠ (.slice Ao48 t331.length co48 : Value).ownBlock ∧ some k_ ≠ (.slice Ao45 t334.length co45 : Value).ownBlock ∧ some k_ ≠ (.slice Ao47 t344.length co47 : Value).ownBlock ∧ some k_ ≠ (.slice Ao50 t348.length co50 : Value).ownBlock)) HO324.out (fun k_ hk => ⟨hk.1.1.1, ⟨hk.1.1.2, ⟨hk.1.2, hk.2⟩⟩⟩))
       clear HO324
       have HO324 := n_
       clear n_
       have n_ := am (Kd.R_mono (ok' := (fun k_ => some k_ ≠ (.slice Ao33 t322.length co33 : Value).ownBlock ∧ some k_ ≠ (.slice Ao45 t334.length co45 : Value).ownBlock ∧ some k_ ≠ (.slice Ao47 t344.length co47 : Value).ownBlock ∧ some k_ ≠ (.slice Ao50 t348.length co50 : Value).ownBlock)) HO333.out (fun k_ hk => ⟨hk.1.1.1, ⟨hk.1.1.2, ⟨hk.1.2, hk.2⟩⟩⟩))
       clear HO333
       have HO333 := n_
       clear n_
       have n_ := am (Kd.R_mono (ok' := (fun k_ => some k_ ≠ (.slice Ao33 t322.length co33 : Value).ownBlock ∧ some k_ ≠ (.slice Ao48 t331.length co48 : Value).ownBlock ∧ some k_ ≠ (.slice Ao47 t344.length co47 : Value).ownBlock ∧ some k_ ≠ (.slice Ao50 t348.length co50 : Value).ownBlock)) HO336.out (fun k_ hk => ⟨hk.1.1.1, ⟨hk.1.1.2, ⟨hk.1.2, hk.2⟩⟩⟩))
       clear HO336
       have HO336 := n_
       clear n_
       have n_ := am (Kd.R_mono (ok' := (fun k_ => some k_ ≠ (.slice Ao33 t322.length co33 : Value).ownBlock ∧ some k_ ≠ (.slice Ao48 t331.length co48 : Value).ownBlock ∧ some k_ ≠ (.slice Ao45 t334.length co45 : Value).ownBlock ∧ some k_ ≠ (.slice Ao50 t348.length co50 : Value).ownBlock)) HO346.out (fun k_ hk => ⟨hk.1.1.1.2, ⟨hk.1.1.2, ⟨hk.1.2, hk.2⟩⟩⟩))
       clear HO346
       have HO346 := n_
       clear n_
       have n_ := am (Kd.R_mono (ok' := (fun k_ => some k_ ≠ (.slice Ao33 t322.length co33 : Value).ownBlock ∧ some k_ ≠ (.slice Ao48 t331.length co48 : Value).ownBlock ∧ some k_ ≠ (.slice Ao45 t334.length co45 : Value).ownBlock ∧ some k_ ≠ (.slice Ao47 t344.length co47 : Value).ownBlock)) HO350.out (fun k_ hk => ⟨hk.1.1.1.2, ⟨hk.1.1.2, ⟨hk.1.2, hk.2⟩⟩⟩))
       clear HO350
       have HO350 := n_
       clear n_
       (try (rw [drewN_self w49]; generalize hq_ : World.drewN w49 _ = w49; have n0_ : Aside0 (Kd.R (Kd.int .u8) 5 w49 w.heap.size (fun k_ => some k_ ≠ (.slice Ao48 t331.length co48 : Value).ownBlock ∧ some k_ ≠ (.slice Ao45 t334.length co45 : Value).ownBlock ∧ some k_ ≠ (.slice Ao47 t344.length co47 : Value).ownBlock ∧ some k_ ≠ (.slice Ao50 t348.length co50 : Value).ownBlock) (.slice Ao33 t322.length co33) t322) := ⟨by rw [← hq_]; exact (kqR HO324.out)⟩; have n1_ : Aside0 (Kd.R (Kd.int .i64) 3 w49 w.heap.size (fun k_ => some k_ ≠ (.slice Ao42 t340.length co42 : Value).ownBlock) (.slice Ao34 t328.length co34) t328) := ⟨by rw [← hq_]; exact (kqR HO330.out)⟩; have n2_ : Aside0 (Kd.R (Kd.int .u8) 5 w49 w.heap.size (fun k_ => some k_ ≠ (.slice Ao33 t322.length co33 : Value).ownBlock ∧ some k_ ≠ (.slice Ao45 t334.length co45 : Value).ownBlock ∧ some k_ ≠ (.slice Ao47 t344.length co47 : Value).ownBlock ∧ some k_ ≠ (.slice Ao50 t348.length co50 : Value).ownBlock) (.slice Ao48 t331.length co48) t331) := ⟨by rw [← hq_]; exact (kqR HO333.out)⟩; have n3_ : Aside0 (Kd.R (Kd.int .u8) 5 w49 w.heap.size (fun k_ => some k_ ≠ (.slice Ao33 t322.length co33 : Value).ownBlock ∧ some k_ ≠ (.slice Ao48 t331.length co48 : Value).ownBlock ∧ some k_ ≠ (.slice Ao47 t344.length co47 : Value).ownBlock ∧ some k_ ≠ (.slice Ao50 t348.length co50 : Value).ownBlock) (.slice Ao45 t334.length co45) t334) := ⟨by rw [← hq_]; exact (kqR HO336.out)⟩; have n4_ : Aside0 (Kd.R (Kd.int .i64) 3 w49 w.heap.size (fun k_ => some k_ ≠ (.slice Ao34 t328.length co34 : Value).ownBlock) (.slice Ao42 t340.length co42) t340) := ⟨by rw [← hq_]; exact (kqR HO342.out)⟩; have n5_ : Aside0 (Kd.R (Kd.int .u8) 5 w49 w.heap.size (fun k_ => some k_ ≠ (.slice Ao33 t322.length co33 : Value).ownBlock ∧ some k_ ≠ (.slice Ao48 t331.length co48 : Value).ownBlock ∧ some k_ ≠ (.slice Ao45 t334.length co45 : Value).ownBlock ∧ some k_ ≠ (.slice Ao50 t348.length co50 : Value).ownBlock) (.slice Ao47 t344.length co47) t344) := ⟨by rw [← hq_]; exact (kqR HO346.out)⟩; have n6_ : Aside0 (Kd.R (Kd.int .u8) 5 w49 w.heap.size (fun k_ => some k_ ≠ (.slice Ao33 t322.length co33 : Value).ownBlock ∧ some k_ ≠ (.slice Ao48 t331.length co48 : Value).ownBlock ∧ some k_ ≠ (.slice Ao45 t334.length co45 : Value).ownBlock ∧ some k_ ≠ (.slice Ao47 t344.length co47 : Value).ownBlock) (.slice Ao50 t348.length co50) t348) := ⟨by rw [← hq_]; exact (kqR HO350.out)⟩; have n7_ : Aside0 (w49.heap[gb320]? = some (.cells #[.int .i64 a1_0, .int .i64 a1_1, .string a1_2, .slice A1_3 l1_3.length c1_3] 25 (0, 0))) := ⟨by rw [← hq_]; exact (zq BK320.out)⟩; have n8_ : Aside0 (w49.heap[gb343]? = some (.cells #[.int .i64 t337, .int .i64 t338, .string t339, .slice Ao42 t340.length co42] 29 (0, 0))) := ⟨by rw [← hq_]; exact (zq BK343.out)⟩; have n9_ : Aside0 (Below w.heap.size w w49) := ⟨by rw [← hq_]; exact (bq2 HB.out GE320.out GE343.out)⟩; clear HO324 HO330 HO333 HO336 HO342 HO346 HO350 BK320 BK343 HB hq_; have HO324 := n0_; have HO330 := n1_; have HO333 := n2_; have HO336 := n3_; have HO342 := n4_; have HO346 := n5_; have HO350 := n6_; have BK320 := n7_; have BK343 := n8_; have HB := n9_; clear n0_ n1_ n2_ n3_ n4_ n5_ n6_ n7_ n8_ n9_))
       have n_ := ak10 (Kd.R_drew HO324.out) (Kd.R_drew HO330.out) (Kd.R_drew HO333.out) (Kd.R_drew HO336.out) (Kd.R_drew HO342.out) (Kd.R_drew HO346.out) (Kd.R_drew HO350.out) (blk_drew BK320.out) (blk_drew BK343.out) (below_drew1 HB.out)
       clear HO324 HO330 HO333 HO336 HO342 HO346 HO350 BK320 BK343 HB
       obtain ⟨HO324, HO330, HO333, HO336, HO342, HO346, HO350, BK320, BK343, HB⟩ := n_
       refine start_ (n := 5) (S := fun w' => w'.cell? ⟨gb343, 0, none⟩ = some (.int .i64 t337) ∧ w'.cell? ⟨gb343, 1, none⟩ = some (.int .i64 t338) ∧ w'.cell? ⟨gb343, 2, none⟩ = some (.string t339) ∧ w'.cell? ⟨gb343, 3, none⟩ = some (.slice Ao42 t340.length co42) ∧ w'.cell? ⟨gb320, 0, none⟩ = some (.int .i64 a1_0) ∧ w'.cell? ⟨gb320, 1, none⟩ = some (.int .i64 a1_1) ∧ w'.cell? ⟨gb320, 2, none⟩ = some (.string a1_2) ∧ w'.cell? ⟨gb320, 3, none⟩ = some (.slice A1_3 l1_3.length c1_3)) (ds := []) #[false, false, false, false, false] (by kernel_rfl) rfl rfl ⟨(blk_cell BK343.out 0).trans rfl, (blk_cell BK343.out 1).trans rfl, (blk_cell BK343.out 2).trans rfl, (blk_cell BK343.out 3).trans rfl, (blk_cell BK320.out 0).trans rfl, (blk_cell BK320.out 1).trans rfl, (blk_cell BK320.out 2).trans rfl, (blk_cell BK320.out 3).trans rfl⟩ (fun hHeld => ?_)
       generalize w49.drew = w51 at HO324 HO330 HO333 HO336 HO342 HO346 HO350 BK320 BK343 HB hHeld ⊢
       refine take_ (i := 0) (N := some 43) (v := ?_) (a' := ?_) #[true, false, false, false, false] rfl rfl (by kernel_rfl) (fun _ _ _ h => h) (Or.inl ⟨by rfl, ?_⟩) hHeld ?_ ?_
       rotate_left
       · rintro w' ⟨s0, s1, s2, s3, s4, s5, s6, s7⟩
         go_simp
         with_reducible rfl
       rotate_left
       · simp only [Act.put, List.setIfInBounds_toArray, List.set_cons_zero, List.set_cons_succ, i64_w, i32_w]
         rfl
       refine take_ (i := 1) (N := some 44) (v := ?_) (a' := ?_) #[true, true, false, false, false] rfl rfl (by kernel_rfl) (fun _ _ _ h => h) (Or.inl ⟨by rfl, ?_⟩) hHeld ?_ ?_
       rotate_left
       · rintro w' ⟨s0, s1, s2, s3, s4, s5, s6, s7⟩
         go_simp
         with_reducible rfl
       rotate_left
       · simp only [Act.put, List.setIfInBounds_toArray, List.set_cons_zero, List.set_cons_succ, i64_w, i32_w]
         rfl
       refine one_ (i := 2) (N := some 45) #[true, true, true, false, false] rfl rfl (by kernel_rfl) (by decide) (fun K hK => ?_)
       refine goes_ Try.func16 (by kernel_rfl) rfl #[.agg #[.int .i64 a1_0, .int .i64 a1_1, .string a1_2, .slice A1_3 l1_3.length c1_3]] (by rfl) rfl rfl ga ?_
       with_reducible refine (laws_toVal.calls k a1_0 a1_1 a1_2 _ _ l1_3 t352 t353 t354 t355 _ ?side1 ?side2 A21.out).mono ?_
       (case side1 => exact cq (Kd.C_below HR1_3.out HB.out))
       (case side2 => exact HC1_3.out)
       rintro e w52 ⟨v356, rfl, ho0, hb⟩
       refine ⟨_, rfl, ?_⟩
       have n_ := ak11 (Kd.R_below (kqR HO324.out) hb) (Kd.R_elder' (kqR HO330.out) (Kd.R_base ho0) hb) (Kd.R_below (kqR HO333.out) hb) (Kd.R_below (kqR HO336.out) hb) (Kd.R_elder' (kqR HO342.out) (Kd.R_base ho0) hb) (Kd.R_below (kqR HO346.out) hb) (Kd.R_below (kqR HO350.out) hb) (Kd.R_lower (Kd.R_new' (Kd.R_new' ho0 (Kd.R_lt (kqR HO330.out))) (Kd.R_lt (kqR HO342.out))) (below_size (bq2 HB.out GE320.out GE343.out))) (blk_below (g := gb320) (o := .cells #[.int .i64 a1_0, .int .i64 a1_1, .string a1_2, .slice A1_3 l1_3.length c1_3] 25 (0, 0)) (zq BK320.out) hb) (blk_below (g := gb343) (o := .cells #[.int .i64 t337, .int .i64 t338, .string t339, .slice Ao42 t340.length co42] 29 (0, 0)) (zq BK343.out) hb) (below_step (bq2 HB.out GE320.out GE343.out) hb)
       clear HO324 HO330 HO333 HO336 HO342 HO346 HO350 BK320 BK343 HB
       obtain ⟨HO324, HO330, HO333, HO336, HO342, HO346, HO350, HO357, BK320, BK343, HB⟩ := n_
       (try clear hb ho0)
       obtain ⟨Ao53, co53, eo53⟩ := Kd.R_slice HO357.out
       (first | subst eo53 | (injection eo53 with f1_ f2_ f3_; have f4_ := f1_.symm; have f5_ := f3_.symm; clear f1_ f2_ f3_; subst f4_; subst f5_))
       refine hK.out _ _ ⟨(blk_cell BK343.out 0).trans rfl, (blk_cell BK343.out 1).trans rfl, (blk_cell BK343.out 2).trans rfl, (blk_cell BK343.out 3).trans rfl, (blk_cell BK320.out 0).trans rfl, (blk_cell BK320.out 1).trans rfl, (blk_cell BK320.out 2).trans rfl, (blk_cell BK320.out 3).trans rfl⟩ (fun hHeld => ?_)
       clear hK K
       refine norm_ (a' := ?_) ?_ ?_
       rotate_left
       · show Act.put _ (some 45) _ = _
         simp only [Act.put, List.setIfInBounds_toArray, List.set_cons_zero, List.set_cons_succ, i64_w, i32_w]
         rfl
       refine one_ (i := 3) (N := some 46) #[true, true, true, true, false] rfl rfl (by kernel_rfl) (by decide) (fun K hK => ?_)
       refine goes_ Try.func19 (by kernel_rfl) rfl #[.agg #[.int .i64 t337, .int .i64 t338, .string t339, .slice Ao42 t340.length co42], .agg #[.int .i64 t352, .int .i64 t353, .string t354, .slice Ao53 t355.length co53]] (by rfl) rfl rfl ga ?_
       with_reducible refine (laws_eqVal.calls k t337 t338 t339 _ _ t340 t352 t353 t354 _ _ t355 true _ ?side1 ?side2 ?side3 ?side4 A22.out).mono ?_
       (case side1 => repeat (first | exact (Kd.R_reads' HO342.out).2.2 | (with_reducible refine Kd.C_alloc ?_ _) | (with_reducible refine Kd.C_drewN ?_ _) | (with_reducible refine Kd.C_drew ?_)))
       (case side2 => exact (Kd.R_reads' HO342.out).2.1)
       (case side3 => repeat (first | exact (Kd.R_reads' HO357.out).2.2 | (with_reducible refine Kd.C_alloc ?_ _) | (with_reducible refine Kd.C_drewN ?_ _) | (with_reducible refine Kd.C_drew ?_)))
       (case side4 => exact (Kd.R_reads' HO357.out).2.1)
       rintro e w54 ⟨rfl, hb⟩
       refine ⟨_, rfl, ?_⟩
       have n_ := ak11 (Kd.R_below (kqR HO324.out) hb) (Kd.R_below (kqR HO330.out) hb) (Kd.R_below (kqR HO333.out) hb) (Kd.R_below (kqR HO336.out) hb) (Kd.R_below (kqR HO342.out) hb) (Kd.R_below (kqR HO346.out) hb) (Kd.R_below (kqR HO350.out) hb) (Kd.R_below (kqR HO357.out) hb) (blk_below (g := gb320) (o := .cells #[.int .i64 a1_0, .int .i64 a1_1, .string a1_2, .slice A1_3 l1_3.length c1_3] 25 (0, 0)) (zq BK320.out) hb) (blk_below (g := gb343) (o := .cells #[.int .i64 t337, .int .i64 t338, .string t339, .slice Ao42 t340.length co42] 29 (0, 0)) (zq BK343.out) hb) (below_step (bq2 HB.out GE320.out GE343.out) hb)
       clear HO324 HO330 HO333 HO336 HO342 HO346 HO350 HO357 BK320 BK343 HB
       obtain ⟨HO324, HO330, HO333, HO336, HO342, HO346, HO350, HO357, BK320, BK343, HB⟩ := n_
       (try clear hb)
       refine hK.out _ _ ⟨(blk_cell BK343.out 0).trans rfl, (blk_cell BK343.out 1).trans rfl, (blk_cell BK343.out 2).trans rfl, (blk_cell BK343.out 3).trans rfl, (blk_cell BK320.out 0).trans rfl, (blk_cell BK320.out 1).trans rfl, (blk_cell BK320.out 2).trans rfl, (blk_cell BK320.out 3).trans rfl⟩ (fun hHeld => ?_)
       clear hK K
       refine norm_ (a' := ?_) ?_ ?_
       rotate_left
       · show Act.put _ (some 46) _ = _
         simp only [Act.put, List.setIfInBounds_toArray, List.set_cons_zero, List.set_cons_succ, i64_w, i32_w]
         rfl
       refine pure_ (i := 4) (N := some 47) (v := ?_) (a' := ?_) #[true, true, true, true, true] rfl rfl (by kernel_rfl) (fun _ _ _ h => h) (Or.inl ⟨by rfl, ?_⟩) ?_ ?_
       rotate_left
       · intro w'
         go_simp
         with_reducible rfl
       rotate_left
       · simp only [Act.put, List.setIfInBounds_toArray, List.set_cons_zero, List.set_cons_succ, i64_w, i32_w]
         rfl
       refine done_ (by kernel_rfl) ?_
       go_upto_region 20 with (first | ((with_reducible refine gate_callee (f := 20) rfl ?_); refine goesL_ (some 50) rfl rfl Try.func20 (by kernel_rfl) rfl #[.slice Ao45 t334.length co45, .int .i64 1] rfl ga ?_; (with_reducible refine (laws_markByteS.calls k (fun k_ => some k_ = (.slice Ao45 t334.length co45 : Value).ownBlock) (.slice Ao45 t334.length co45) t334 1 t359 t360 w _ ?side1 ?side2 A24.out).mono ?_); (case side1 => exact bq2 HB.out GE320.out GE343.out); (case side2 => exact Kd.R_tight rfl HO336.out); rintro e w55 ⟨rfl, hy0, hb, hkp⟩; refine ⟨_, rfl, ?_⟩; have n_ := ak11 (blk_kept (zq BK320.out) hkp (fun hs_ => (fun e_ => (Kd.R_ne HO336.out BK320.out (by decide)) e_) hs_)) (Kd.R_mono (ok' := fun k_ => some k_ ≠ (.slice Ao48 t331.length co48 : Value).ownBlock ∧ some k_ ≠ (.slice Ao45 t334.length co45 : Value).ownBlock ∧ some k_ ≠ (.slice Ao47 t344.length co47 : Value).ownBlock ∧ some k_ ≠ (.slice Ao50 t348.length co50 : Value).ownBlock) (Kd.R_keptB (HO324.out) hkp (fun k_ hk_ hs_ => (hk_.2.1) hs_)) (fun k_ hk_ => ⟨hk_.1.1, hk_.1.2.1, hk_.1.2.2.1, hk_.1.2.2.2⟩)) (Kd.R_mono (ok' := fun k_ => some k_ ≠ (.slice Ao42 t340.length co42 : Value).ownBlock ∧ some k_ ≠ (.slice Ao53 t355.length co53 : Value).ownBlock) (Kd.R_keptB ((Kd.R_apart' HO330.out (Kd.R_typed HO336.out) (by decide))) hkp (fun k_ hk_ hs_ => (hk_.2) hs_)) (fun k_ hk_ => ⟨hk_.1.1.1, hk_.1.1.2⟩)) (Kd.R_mono (ok' := fun k_ => some k_ ≠ (.slice Ao33 t322.length co33 : Value).ownBlock ∧ some k_ ≠ (.slice Ao45 t334.length co45 : Value).ownBlock ∧ some k_ ≠ (.slice Ao47 t344.length co47 : Value).ownBlock ∧ some k_ ≠ (.slice Ao50 t348.length co50 : Value).ownBlock) (Kd.R_keptB (HO333.out) hkp (fun k_ hk_ hs_ => (hk_.2.1) hs_)) (fun k_ hk_ => ⟨hk_.1.1, hk_.1.2.1, hk_.1.2.2.1, hk_.1.2.2.2⟩)) (Kd.R_reok rfl hy0 (fun k_ e_ => HO336.out.1 k_ e_)) (Kd.R_mono (ok' := fun k_ => some k_ ≠ (.slice Ao34 t328.length co34 : Value).ownBlock ∧ some k_ ≠ (.slice Ao53 t355.length co53 : Value).ownBlock) (Kd.R_keptB ((Kd.R_apart' HO342.out (Kd.R_typed HO336.out) (by decide))) hkp (fun k_ hk_ hs_ => (hk_.2) hs_)) (fun k_ hk_ => ⟨hk_.1.1.1, hk_.1.1.2⟩)) (blk_kept (zq BK343.out) hkp (fun hs_ => (fun e_ => (Kd.R_ne HO336.out BK343.out (by decide)) e_) hs_)) (Kd.R_mono (ok' := fun k_ => some k_ ≠ (.slice Ao33 t322.length co33 : Value).ownBlock ∧ some k_ ≠ (.slice Ao48 t331.length co48 : Value).ownBlock ∧ some k_ ≠ (.slice Ao45 t334.length co45 : Value).ownBlock ∧ some k_ ≠ (.slice Ao50 t348.length co50 : Value).ownBlock) (Kd.R_keptB (HO346.out) hkp (fun k_ hk_ hs_ => (hk_.2.2.1) hs_)) (fun k_ hk_ => ⟨hk_.1.1, hk_.1.2.1, hk_.1.2.2.1, hk_.1.2.2.2⟩)) (Kd.R_mono (ok' := fun k_ => some k_ ≠ (.slice Ao33 t322.length co33 : Value).ownBlock ∧ some k_ ≠ (.slice Ao48 t331.length co48 : Value).ownBlock ∧ some k_ ≠ (.slice Ao45 t334.length co45 : Value).ownBlock ∧ some k_ ≠ (.slice Ao47 t344.length co47 : Value).ownBlock) (Kd.R_keptB (HO350.out) hkp (fun k_ hk_ hs_ => (hk_.2.2.1) hs_)) (fun k_ hk_ => ⟨hk_.1.1, hk_.1.2.1, hk_.1.2.2.1, hk_.1.2.2.2⟩)) (Kd.R_mono (ok' := fun k_ => some k_ ≠ (.slice Ao34 t328.length co34 : Value).ownBlock ∧ some k_ ≠ (.slice Ao42 t340.length co42 : Value).ownBlock) (Kd.R_keptB ((Kd.R_apart' HO357.out (Kd.R_typed HO336.out) (by decide))) hkp (fun k_ hk_ hs_ => (hk_.2) hs_)) (fun k_ hk_ => ⟨hk_.1.1.1.2, hk_.1.1.2⟩)) hb; clear BK320 HO324 HO330 HO333 HO336 HO342 BK343 HO346 HO350 HO357 HB; obtain ⟨BK320, HO324, HO330, HO333, HO336, HO342, BK343, HO346, HO350, HO357, HB⟩ := n_; (try clear hb hkp hy0); have hcz56_0 : w55.cell? ⟨gb343, 0, none⟩ = some (.int .i64 t337) := (blk_cell BK343.out 0).trans rfl; have hcz56_1 : w55.cell? ⟨gb343, 1, none⟩ = some (.int .i64 t338) := (blk_cell BK343.out 1).trans rfl; have hcz56_2 : w55.cell? ⟨gb343, 2, none⟩ = some (.string t339) := (blk_cell BK343.out 2).trans rfl; have hcz56_3 : w55.cell? ⟨gb343, 3, none⟩ = some (.slice Ao42 t340.length co42) := (blk_cell BK343.out 3).trans rfl; have hfz56_0 := blk_frozen BK343.out 0; have hfz56_1 := blk_frozen BK343.out 1; have hfz56_2 := blk_frozen BK343.out 2; have hfz56_3 := blk_frozen BK343.out 3) | ((with_reducible refine gate_callee (f := 21) rfl ?_); refine goesL_ (some 53) rfl rfl Try.func21 (by kernel_rfl) rfl #[.agg #[.int .i64 t337, .int .i64 t338, .string t339, .slice Ao42 t340.length co42], .int .i64 t359] rfl ga ?_; (with_reducible refine (laws_markVal.calls k t337 t338 t339 (fun k_ => some k_ = (.slice Ao42 t340.length co42 : Value).ownBlock) (.slice Ao42 t340.length co42) t340 t359 t361 t362 w _ ?side1 ?side2 A25.out).mono ?_); (case side1 => exact bq2 HB.out GE320.out GE343.out); (case side2 => exact Kd.R_tight rfl HO342.out); rintro e w57 ⟨rfl, hy0, hb, hkp⟩; refine ⟨_, rfl, ?_⟩; have n_ := ak11 (blk_kept (zq BK320.out) hkp (fun hs_ => (fun e_ => (Kd.R_ne HO342.out BK320.out (by decide)) e_) hs_)) (Kd.R_mono (ok' := fun k_ => some k_ ≠ (.slice Ao48 t331.length co48 : Value).ownBlock ∧ some k_ ≠ (.slice Ao45 t334.length co45 : Value).ownBlock ∧ some k_ ≠ (.slice Ao47 t344.length co47 : Value).ownBlock ∧ some k_ ≠ (.slice Ao50 t348.length co50 : Value).ownBlock) (Kd.R_keptB ((Kd.R_apart' HO324.out (Kd.R_typed HO342.out) (by decide))) hkp (fun k_ hk_ hs_ => (hk_.2) hs_)) (fun k_ hk_ => ⟨hk_.1.1.1, hk_.1.1.2.1, hk_.1.1.2.2.1, hk_.1.1.2.2.2⟩)) (Kd.R_mono (ok' := fun k_ => some k_ ≠ (.slice Ao42 t340.length co42 : Value).ownBlock ∧ some k_ ≠ (.slice Ao53 t355.length co53 : Value).ownBlock) (Kd.R_keptB (HO330.out) hkp (fun k_ hk_ hs_ => (hk_.1) hs_)) (fun k_ hk_ => ⟨hk_.1.1, hk_.1.2⟩)) (Kd.R_mono (ok' := fun k_ => some k_ ≠ (.slice Ao33 t322.length co33 : Value).ownBlock ∧ some k_ ≠ (.slice Ao45 t334.length co45 : Value).ownBlock ∧ some k_ ≠ (.slice Ao47 t344.length co47 : Value).ownBlock ∧ some k_ ≠ (.slice Ao50 t348.length co50 : Value).ownBlock) (Kd.R_keptB ((Kd.R_apart' HO333.out (Kd.R_typed HO342.out) (by decide))) hkp (fun k_ hk_ hs_ => (hk_.2) hs_)) (fun k_ hk_ => ⟨hk_.1.1.1, hk_.1.1.2.1, hk_.1.1.2.2.1, hk_.1.1.2.2.2⟩)) (Kd.R_mono (ok' := fun k_ => some k_ ≠ (.slice Ao33 t322.length co33 : Value).ownBlock ∧ some k_ ≠ (.slice Ao48 t331.length co48 : Value).ownBlock ∧ some k_ ≠ (.slice Ao47 t344.length co47 : Value).ownBlock ∧ some k_ ≠ (.slice Ao50 t348.length co50 : Value).ownBlock) (Kd.R_keptB ((Kd.R_apart' HO336.out (Kd.R_typed HO342.out) (by decide))) hkp (fun k_ hk_ hs_ => (hk_.2) hs_)) (fun k_ hk_ => ⟨hk_.1.1.1, hk_.1.1.2.1, hk_.1.1.2.2.1, hk_.1.1.2.2.2⟩)) (Kd.R_reok rfl hy0 (fun k_ e_ => HO342.out.1 k_ e_)) (blk_kept (zq BK343.out) hkp (fun hs_ => (fun e_ => (Kd.R_ne HO342.out BK343.out (by decide)) e_) hs_)) (Kd.R_mono (ok' := fun k_ => some k_ ≠ (.slice Ao33 t322.length co33 : Value).ownBlock ∧ some k_ ≠ (.slice Ao48 t331.length co48 : Value).ownBlock ∧ some k_ ≠ (.slice Ao45 t334.length co45 : Value).ownBlock ∧ some k_ ≠ (.slice Ao50 t348.length co50 : Value).ownBlock) (Kd.R_keptB ((Kd.R_apart' HO346.out (Kd.R_typed HO342.out) (by decide))) hkp (fun k_ hk_ hs_ => (hk_.2) hs_)) (fun k_ hk_ => ⟨hk_.1.1.1, hk_.1.1.2.1, hk_.1.1.2.2.1, hk_.1.1.2.2.2⟩)) (Kd.R_mono (ok' := fun k_ => some k_ ≠ (.slice Ao33 t322.length co33 : Value).ownBlock ∧ some k_ ≠ (.slice Ao48 t331.length co48 : Value).ownBlock ∧ some k_ ≠ (.slice Ao45 t334.length co45 : Value).ownBlock ∧ some k_ ≠ (.slice Ao47 t344.length co47 : Value).ownBlock) (Kd.R_keptB ((Kd.R_apart' HO350.out (Kd.R_typed HO342.out) (by decide))) hkp (fun k_ hk_ hs_ => (hk_.2) hs_)) (fun k_ hk_ => ⟨hk_.1.1.1, hk_.1.1.2.1, hk_.1.1.2.2.1, hk_.1.1.2.2.2⟩)) (Kd.R_mono (ok' := fun k_ => some k_ ≠ (.slice Ao34 t328.length co34 : Value).ownBlock ∧ some k_ ≠ (.slice Ao42 t340.length co42 : Value).ownBlock) (Kd.R_keptB (HO357.out) hkp (fun k_ hk_ hs_ => (hk_.2) hs_)) (fun k_ hk_ => ⟨hk_.1.1, hk_.1.2⟩)) hb; clear BK320 HO324 HO330 HO333 HO336 HO342 BK343 HO346 HO350 HO357 HB; obtain ⟨BK320, HO324, HO330, HO333, HO336, HO342, BK343, HO346, HO350, HO357, HB⟩ := n_; (try clear hb hkp hy0)))
       (try simp only [Act.put, List.setIfInBounds_toArray, List.set_cons_zero, List.set_cons_succ])
       go_cut [61] (fun v61 wc => ∃ (kq : Nat) (x61_25 : Bool), v61 = .bool x61_25 ∧ Aside0 (laws_FnExactPutVal.j0 kq l0 t331 t344 x61_25 a1_0 a1_1 a1_2 l1_3 = some r) ∧ Aside0 (kq ≤ k) ∧ Aside0 (Kd.R (Kd.int .u8) 5 wc w.heap.size (fun k_ => some k_ ≠ ((.slice Ao47 t344.length co47) : Value).ownBlock) (.slice Ao48 t331.length co48) t331) ∧ Aside0 (Kd.R (Kd.int .u8) 5 wc w.heap.size (fun k_ => some k_ ≠ ((.slice Ao48 t331.length co48) : Value).ownBlock) (.slice Ao47 t344.length co47) t344) ∧ Aside0 (Kd.R (Kd.int .i64) 3 wc w.heap.size (fun _ => True) (.slice Ao42 t340.length co42) t362) ∧ Aside0 (wc.heap[gb320]? = some (.cells #[.int .i64 a1_0, .int .i64 a1_1, .string a1_2, (.slice A1_3 l1_3.length c1_3)] 25 (0, 0))) ∧ Aside0 (wc.heap[gb343]? = some (.cells #[.int .i64 t337, .int .i64 t338, .string t339, (.slice Ao42 t340.length co42)] 29 (0, 0))) ∧ Aside0 (Below w.heap.size w wc))
       case first =>
        have H := HC26.out
        clear HC26
        by_cases c58 : t361 < 0
        · rw [if_pos c58] at H
          have c58b0 : decide (t361 < 0) = true := decide_eq_true c58
          clear c58
          (first | rw [c58b0] | (simp only [i64_w, i32_w]; rw [c58b0]) | skip)
          have H' := am H
          clear H
          go_wp2
          go_meet
          case rel => exact ⟨_, (true), sq, H', ⟨by first | omega | exact Nat.le_refl _⟩, ⟨by (with_reducible repeat (first | apply Kd.R_alloc | apply Kd.R_drewN | apply Kd.R_drew)); exact Kd.R_mono HO333.out (fun _ hk => hk.2.2.1)⟩, ⟨by (with_reducible repeat (first | apply Kd.R_alloc | apply Kd.R_drewN | apply Kd.R_drew)); exact Kd.R_mono HO346.out (fun _ hk => hk.2.1)⟩, ⟨by (with_reducible repeat (first | apply Kd.R_alloc | apply Kd.R_drewN | apply Kd.R_drew)); exact Kd.R_mono HO342.out (fun _ hk => trivial)⟩, ⟨zq BK320.out⟩, ⟨zq BK343.out⟩, ⟨bq2 HB.out GE320.out GE343.out⟩⟩
        rw [if_neg c58] at H
        have c58b0 : decide (t361 < 0) = false := decide_eq_false c58
        clear c58
        (first | rw [c58b0] | (simp only [i64_w, i32_w]; rw [c58b0]) | skip)
        replace H := Option.bind_eq_some_iff.mp H
        obtain ⟨t363, A590, H⟩ := H
        replace H : (laws_FnExactPutVal.j0 k l0 t331 t344 (!t363) a1_0 a1_1 a1_2 l1_3) = some r := H
        have A59 := am A590
        clear A590
        have H' := am H
        clear H
        go_wp2_with (first | (go_at_call 18; (with_reducible refine (laws_eqByteS.calls k _ _ t344 _ _ t331 t363 _ ?side1 ?side2 ?side3 ?side4 A59.out).mono ?_); (case side1 => repeat (first | exact (Kd.R_reads' HO346.out).2.2 | (with_reducible refine Kd.C_alloc ?_ _) | (with_reducible refine Kd.C_drewN ?_ _) | (with_reducible refine Kd.C_drew ?_))); (case side2 => exact (Kd.R_reads' HO346.out).2.1); (case side3 => repeat (first | exact (Kd.R_reads' HO333.out).2.2 | (with_reducible refine Kd.C_alloc ?_ _) | (with_reducible refine Kd.C_drewN ?_ _) | (with_reducible refine Kd.C_drew ?_))); (case side4 => exact (Kd.R_reads' HO333.out).2.1); rintro e w' ⟨rfl, ⟨nd, rfl⟩⟩))
        go_meet
        case rel => exact ⟨_, (!t363), sq, H', ⟨by first | omega | exact Nat.le_refl _⟩, ⟨by (with_reducible repeat (first | apply Kd.R_alloc | apply Kd.R_drewN | apply Kd.R_drew)); exact Kd.R_mono HO333.out (fun _ hk => hk.2.2.1)⟩, ⟨by (with_reducible repeat (first | apply Kd.R_alloc | apply Kd.R_drewN | apply Kd.R_drew)); exact Kd.R_mono HO346.out (fun _ hk => hk.2.1)⟩, ⟨by (with_reducible repeat (first | apply Kd.R_alloc | apply Kd.R_drewN | apply Kd.R_drew)); exact Kd.R_mono HO342.out (fun _ hk => trivial)⟩, ⟨zq BK320.out⟩, ⟨zq BK343.out⟩, ⟨bq2 HB.out GE320.out GE343.out⟩⟩
       case rest =>
        clear HC26
        try clear c1
        try clear c2
        try clear p2
        try clear c3
        try clear c3b0
        try clear c3b1
        try clear c4
        try clear c5
        try clear c6
        try clear c6b0
        try clear c13
        try clear c14
        try clear c15
        try clear c16
        try clear c17
        try clear c18
        try clear c19
        try clear c20
        try clear c21
        try clear c23
        try clear c40
        try clear c58
        try clear c58b0
        try clear hcz28_0
        try clear hcz28_1
        try clear hcz28_2
        try clear hcz28_3
        try clear hcz37_0
        try clear hcz37_1
        try clear hcz37_2
        try clear hcz37_3
        try clear hcz41_0
        try clear hcz41_1
        try clear hcz41_2
        try clear hcz41_3
        try clear hcz44_0
        try clear hcz44_1
        try clear hcz44_2
        try clear hcz44_3
        try clear hcz56_0
        try clear hcz56_1
        try clear hcz56_2
        try clear hcz56_3
        try clear hcz8_0
        try clear hcz8_1
        try clear hcz8_2
        try clear hcz8_3
        try clear hfz28_0
        try clear hfz28_1
        try clear hfz28_2
        try clear hfz28_3
        try clear hfz37_0
        try clear hfz37_1
        try clear hfz37_2
        try clear hfz37_3
        try clear hfz41_0
        try clear hfz41_1
        try clear hfz41_2
        try clear hfz41_3
        try clear hfz44_0
        try clear hfz44_1
        try clear hfz44_2
        try clear hfz44_3
        try clear hfz56_0
        try clear hfz56_1
        try clear hfz56_2
        try clear hfz56_3
        try clear hfz8_0
        try clear hfz8_1
        try clear hfz8_2
        try clear hfz8_3
        obtain ⟨kq, x61_25, rfl, HA, HJ25, HO_6, HO_9, HO_344003, BK320, BK343, HB⟩ := hcut
        have hl344003_25 := (Kd.R_reads' HO_344003.out).1
        rw [hl344003_25] at HO_344003
        (try simp only [hl344003_25])
        (try simp only [hl344003_25] at BK320)
        (try simp only [hl344003_25] at BK343)
        (try simp only [hl344003_25] at HO_6)
        (try simp only [hl344003_25] at HO_9)
        cases kq with
        | zero => exact absurd HA.out (by simp [laws_FnExactPutVal.j0])
        | succ kj25 =>
         have H := HA.out
         clear HA
         simp only [laws_FnExactPutVal.j0] at H
         by_cases c60 : x61_25 = true
         · subst c60
           have H1 : (some false) = some r := by rw [if_pos rfl] at H; exact H
           clear H
           have H := H1
           clear H1
           exact absurd ((Option.some.inj H).trans HRT.out) (by decide)
         replace c60 := Bool.eq_false_iff.mpr c60
         subst c60
         have H1 : ((laws_markByteS.f kj25 t344 1).bind fun bt364 => ((laws_heldByteS.f kj25 bt364.2 1).bind fun t366 => (if t366 < 0 then (some false) else (if t366 = bt364.1 then ((laws_toByteS.f kj25 l0).bind fun t367 => ((laws_toVal.f kj25 a1_0 a1_1 a1_2 l1_3).bind fun bt370 => ((impl_PutVal.f kj25 t367 bt370.1 bt370.2.1 bt370.2.2.1 bt370.2.2.2).bind fun t376 => ((laws_eqByteS.f kj25 t376 t331).bind fun t379 => (if t379 = true then ((laws_heldByteS.f kj25 bt364.2 1).bind fun t380 => (if t380 < 0 then (some false) else (if t380 = bt364.1 then (some true) else (some false)))) else (some false)))))) else (some false))))) = some r := by rw [if_neg (show ¬ (false = true) by decide)] at H; exact H
         clear H
         have H := H1
         clear H1
         replace H := Option.bind_eq_some_iff.mp H
         obtain ⟨⟨t364, t365⟩, A610, H⟩ := H
         replace H : ((laws_heldByteS.f kj25 t365 1).bind fun t366 => (if t366 < 0 then (some false) else (if t366 = t364 then ((laws_toByteS.f kj25 l0).bind fun t367 => ((laws_toVal.f kj25 a1_0 a1_1 a1_2 l1_3).bind fun bt370 => ((impl_PutVal.f kj25 t367 bt370.1 bt370.2.1 bt370.2.2.1 bt370.2.2.2).bind fun t376 => ((laws_eqByteS.f kj25 t376 t331).bind fun t379 => (if t379 = true then ((laws_heldByteS.f kj25 t365 1).bind fun t380 => (if t380 < 0 then (some false) else (if t380 = t364 then (some true) else (some false)))) else (some false)))))) else (some false)))) = some r := H
         have A61 := am A610
         clear A610
         replace H := Option.bind_eq_some_iff.mp H
         obtain ⟨t366, A620, H⟩ := H
         replace H : (if t366 < 0 then (some false) else (if t366 = t364 then ((laws_toByteS.f kj25 l0).bind fun t367 => ((laws_toVal.f kj25 a1_0 a1_1 a1_2 l1_3).bind fun bt370 => ((impl_PutVal.f kj25 t367 bt370.1 bt370.2.1 bt370.2.2.1 bt370.2.2.2).bind fun t376 => ((laws_eqByteS.f kj25 t376 t331).bind fun t379 => (if t379 = true then ((laws_heldByteS.f kj25 t365 1).bind fun t380 => (if t380 < 0 then (some false) else (if t380 = t364 then (some true) else (some false)))) else (some false)))))) else (some false))) = some r := H
         have A62 := am A620
         clear A620
         by_cases c63 : t366 < 0
         · rw [if_pos c63] at H
           have c63b0 : decide (t366 < 0) = true := decide_eq_true c63
           clear c63
           exact absurd ((Option.some.inj H).trans HRT.out) (by decide)
         rw [if_neg c63] at H
         have c63b0 : decide (t366 < 0) = false := decide_eq_false c63
         clear c63
         by_cases c64 : t366 = t364
         · rw [if_pos c64] at H
           have c64b0 : (t366 == t364) = true := beq_iff_eq.mpr c64
           have c64b1 : (t366 != t364) = false := bne_eq_false_iff_eq.mpr c64
           clear c64
           replace H := Option.bind_eq_some_iff.mp H
           obtain ⟨t367, A650, H⟩ := H
           replace H : ((laws_toVal.f kj25 a1_0 a1_1 a1_2 l1_3).bind fun bt370 => ((impl_PutVal.f kj25 t367 bt370.1 bt370.2.1 bt370.2.2.1 bt370.2.2.2).bind fun t376 => ((laws_eqByteS.f kj25 t376 t331).bind fun t379 => (if t379 = true then ((laws_heldByteS.f kj25 t365 1).bind fun t380 => (if t380 < 0 then (some false) else (if t380 = t364 then (some true) else (some false)))) else (some false))))) = some r := H
           have A65 := am A650
           clear A650
           replace H := Option.bind_eq_some_iff.mp H
           obtain ⟨⟨t370, t371, t372, t373⟩, A660, H⟩ := H
           replace H : ((impl_PutVal.f kj25 t367 t370 t371 t372 t373).bind fun t376 => ((laws_eqByteS.f kj25 t376 t331).bind fun t379 => (if t379 = true then ((laws_heldByteS.f kj25 t365 1).bind fun t380 => (if t380 < 0 then (some false) else (if t380 = t364 then (some true) else (some false)))) else (some false)))) = some r := H
           have A66 := am A660
           clear A660
           replace H := Option.bind_eq_some_iff.mp H
           obtain ⟨t376, A670, H⟩ := H
           replace H : ((laws_eqByteS.f kj25 t376 t331).bind fun t379 => (if t379 = true then ((laws_heldByteS.f kj25 t365 1).bind fun t380 => (if t380 < 0 then (some false) else (if t380 = t364 then (some true) else (some false)))) else (some false))) = some r := H
           have A67 := am A670
           clear A670
           replace H := Option.bind_eq_some_iff.mp H
           obtain ⟨t379, A680, H⟩ := H
           replace H : (if t379 = true then ((laws_heldByteS.f kj25 t365 1).bind fun t380 => (if t380 < 0 then (some false) else (if t380 = t364 then (some true) else (some false)))) else (some false)) = some r := H
           have A68 := am A680
           clear A680
           by_cases c69 : t379 = true
           · subst c69
             have H1 : ((laws_heldByteS.f kj25 t365 1).bind fun t380 => (if t380 < 0 then (some false) else (if t380 = t364 then (some true) else (some false)))) = some r := by rw [if_pos rfl] at H; exact H
             clear H
             have H := H1
             clear H1
             replace H := Option.bind_eq_some_iff.mp H
             obtain ⟨t380, A700, H⟩ := H
             replace H : (if t380 < 0 then (some false) else (if t380 = t364 then (some true) else (some false))) = some r := H
             have A70 := am A700
             clear A700
             by_cases c71 : t380 < 0
             · rw [if_pos c71] at H
               have c71b0 : decide (t380 < 0) = true := decide_eq_true c71
               clear c71
               exact absurd ((Option.some.inj H).trans HRT.out) (by decide)
             rw [if_neg c71] at H
             have c71b0 : decide (t380 < 0) = false := decide_eq_false c71
             clear c71
             by_cases c72 : t380 = t364
             · rw [if_pos c72] at H
               have c72b0 : (t380 == t364) = true := beq_iff_eq.mpr c72
               have c72b1 : (t380 != t364) = false := bne_eq_false_iff_eq.mpr c72
               clear c72
               obtain rfl := Option.some.inj H
               try go_wp2_with (first | ((with_reducible refine gate_callee (f := 20) rfl ?_); refine goesL_ (some 64) rfl rfl Try.func20 (by kernel_rfl) rfl #[.slice Ao47 t344.length co47, .int .i64 1] rfl ga ?_; (with_reducible refine (laws_markByteS.calls kj25 (fun k_ => some k_ = (.slice Ao47 t344.length co47 : Value).ownBlock) (.slice Ao47 t344.length co47) t344 1 t364 t365 w _ ?side1 ?side2 A61.out).mono ?_); (case side1 => exact bq2 HB.out GE320.out GE343.out); (case side2 => exact Kd.R_tight rfl HO_9.out); rintro e w73 ⟨rfl, hy0, hb, hkp⟩; refine ⟨_, rfl, ?_⟩; have n_ := ak6 (Kd.R_mono (ok' := fun k_ => some k_ ≠ (.slice Ao47 t344.length co47 : Value).ownBlock) (Kd.R_keptB (HO_6.out) hkp (fun k_ hk_ hs_ => (hk_) hs_)) (fun k_ hk_ => hk_.1)) (Kd.R_reok rfl hy0 (fun k_ e_ => HO_9.out.1 k_ e_)) (Kd.R_mono (ok' := fun k_ => True) (Kd.R_keptB ((Kd.R_apart' HO_344003.out (Kd.R_typed HO_9.out) (by decide))) hkp (fun k_ hk_ hs_ => (hk_.2) hs_)) (fun k_ hk_ => trivial)) (blk_kept (zq BK320.out) hkp (fun hs_ => (fun e_ => (Kd.R_ne HO_9.out BK320.out (by decide)) e_) hs_)) (blk_kept (zq BK343.out) hkp (fun hs_ => (fun e_ => (Kd.R_ne HO_9.out BK343.out (by decide)) e_) hs_)) hb; clear HO_6 HO_9 HO_344003 BK320 BK343 HB; obtain ⟨HO_6, HO_9, HO_344003, BK320, BK343, HB⟩ := n_; (try clear hb hkp hy0)) | ((with_reducible refine gate_callee (f := 22) rfl ?_); refine goesL_ (some 67) rfl rfl Try.func22 (by kernel_rfl) rfl #[.slice Ao47 t365.length co47, .int .i64 1] rfl (by (try simp only [List.map_toArray, List.map_cons, List.map_nil]); first | done | (rw [show t365.length = t344.length from (Kd.R_reads' HO_9.out).1.symm] <;> rfl) | rfl | (simp only [List.length_drop, List.length_take]; rfl)) ?_; (with_reducible refine (laws_heldByteS.calls kj25 _ _ t365 1 t366 _ ?side1 ?side2 A62.out).mono ?_); (case side1 => repeat (first | exact (Kd.R_reads' HO_9.out).2.2 | (with_reducible refine Kd.C_alloc ?_ _) | (with_reducible refine Kd.C_drewN ?_ _) | (with_reducible refine Kd.C_drew ?_))); (case side2 => rw [show t365.length = t344.length from (Kd.R_reads' HO_9.out).1.symm]; exact (Kd.R_reads' HO_9.out).2.1); rintro e w' ⟨rfl, ⟨nd, rfl⟩⟩; refine ⟨_, rfl, ?_⟩))
               (try (rw [drewN_self w73]; generalize hq_ : World.drewN w73 _ = w73; have n0_ : Aside0 (Kd.R (Kd.int .i64) 3 w73 w.heap.size (fun _ => True) (.slice Ao42 t362.length co42) t362) := ⟨by rw [← hq_]; exact (kqR HO_344003.out)⟩; have n1_ : Aside0 (Kd.R (Kd.int .u8) 5 w73 w.heap.size (fun k_ => some k_ ≠ (.slice Ao47 t344.length co47 : Value).ownBlock) (.slice Ao48 t331.length co48) t331) := ⟨by rw [← hq_]; exact (kqR HO_6.out)⟩; have n2_ : Aside0 (Kd.R (Kd.int .u8) 5 w73 w.heap.size (fun k_ => some k_ ≠ (.slice Ao48 t331.length co48 : Value).ownBlock) (.slice Ao47 t344.length co47) t365) := ⟨by rw [← hq_]; exact (kqR HO_9.out)⟩; have n3_ : Aside0 (w73.heap[gb320]? = some (.cells #[.int .i64 a1_0, .int .i64 a1_1, .string a1_2, .slice A1_3 l1_3.length c1_3] 25 (0, 0))) := ⟨by rw [← hq_]; exact (zq BK320.out)⟩; have n4_ : Aside0 (w73.heap[gb343]? = some (.cells #[.int .i64 t337, .int .i64 t338, .string t339, .slice Ao42 t362.length co42] 29 (0, 0))) := ⟨by rw [← hq_]; exact (zq BK343.out)⟩; have n5_ : Aside0 (Below w.heap.size w w73) := ⟨by rw [← hq_]; exact (bq2 HB.out GE320.out GE343.out)⟩; clear HO_344003 HO_6 HO_9 BK320 BK343 HB hq_; have HO_344003 := n0_; have HO_6 := n1_; have HO_9 := n2_; have BK320 := n3_; have BK343 := n4_; have HB := n5_; clear n0_ n1_ n2_ n3_ n4_ n5_))
               have n_ := ak6 (Kd.R_drew HO_6.out) (Kd.R_drew HO_9.out) (Kd.R_drew HO_344003.out) (blk_drew BK320.out) (blk_drew BK343.out) (below_drew1 HB.out)
               clear HO_6 HO_9 HO_344003 BK320 BK343 HB
               obtain ⟨HO_6, HO_9, HO_344003, BK320, BK343, HB⟩ := n_
               refine start_ (n := 6) (S := fun w' => w'.cell? ⟨gb320, 0, none⟩ = some (.int .i64 a1_0) ∧ w'.cell? ⟨gb320, 1, none⟩ = some (.int .i64 a1_1) ∧ w'.cell? ⟨gb320, 2, none⟩ = some (.string a1_2) ∧ w'.cell? ⟨gb320, 3, none⟩ = some (.slice A1_3 l1_3.length c1_3)) (ds := []) #[false, false, false, false, false, false] (by kernel_rfl) rfl rfl ⟨(blk_cell BK320.out 0).trans rfl, (blk_cell BK320.out 1).trans rfl, (blk_cell BK320.out 2).trans rfl, (blk_cell BK320.out 3).trans rfl⟩ (fun hHeld => ?_)
               generalize w73.drew = w74 at HO_6 HO_9 HO_344003 BK320 BK343 HB hHeld ⊢
               refine pure_ (i := 0) (N := some 73) (v := ?_) (a' := ?_) #[true, false, false, false, false, false] rfl rfl (by kernel_rfl) (fun _ _ _ h => h) (Or.inl ⟨by rfl, ?_⟩) ?_ ?_
               rotate_left
               · intro w'
                 go_simp
                 with_reducible rfl
               rotate_left
               · simp only [Act.put, List.setIfInBounds_toArray, List.set_cons_zero, List.set_cons_succ, i64_w, i32_w]
                 rfl
               refine take_ (i := 2) (N := some 75) (v := ?_) (a' := ?_) #[true, false, true, false, false, false] rfl rfl (by kernel_rfl) (fun _ _ _ h => h) (Or.inl ⟨by rfl, ?_⟩) hHeld ?_ ?_
               rotate_left
               · rintro w' ⟨s0, s1, s2, s3⟩
                 go_simp
                 with_reducible rfl
               rotate_left
               · simp only [Act.put, List.setIfInBounds_toArray, List.set_cons_zero, List.set_cons_succ, i64_w, i32_w]
                 rfl
               refine one_ (i := 1) (N := some 74) #[true, true, true, false, false, false] rfl rfl (by kernel_rfl) (by decide) (fun K hK => ?_)
               refine goes_ Try.func15 (by kernel_rfl) rfl #[.slice A0 l0.length c0] (by rfl) rfl rfl ga ?_
               with_reducible refine (laws_toByteS.calls kj25 _ _ l0 t367 _ ?side1 ?side2 A65.out).mono ?_
               (case side1 => exact cq (Kd.C_below HR0.out HB.out))
               (case side2 => exact HC0.out)
               rintro e w75 ⟨v368, rfl, ho0, hb⟩
               refine ⟨_, rfl, ?_⟩
               have n_ := ak7 (Kd.R_elder' (kqR HO_6.out) (Kd.R_base ho0) hb) (Kd.R_elder' (kqR HO_9.out) (Kd.R_base ho0) hb) (Kd.R_below (kqR HO_344003.out) hb) (Kd.R_lower (Kd.R_new' (Kd.R_new' ho0 (Kd.R_lt (kqR HO_6.out))) (Kd.R_lt (kqR HO_9.out))) (below_size (bq2 HB.out GE320.out GE343.out))) (blk_below (g := gb320) (o := .cells #[.int .i64 a1_0, .int .i64 a1_1, .string a1_2, .slice A1_3 l1_3.length c1_3] 25 (0, 0)) (zq BK320.out) hb) (blk_below (g := gb343) (o := .cells #[.int .i64 t337, .int .i64 t338, .string t339, .slice Ao42 t362.length co42] 29 (0, 0)) (zq BK343.out) hb) (below_step (bq2 HB.out GE320.out GE343.out) hb)
               clear HO_6 HO_9 HO_344003 BK320 BK343 HB
               obtain ⟨HO_6, HO_9, HO_344003, HO369, BK320, BK343, HB⟩ := n_
               (try clear hb ho0)
               refine hK.out _ _ ⟨(blk_cell BK320.out 0).trans rfl, (blk_cell BK320.out 1).trans rfl, (blk_cell BK320.out 2).trans rfl, (blk_cell BK320.out 3).trans rfl⟩ (fun hHeld => ?_)
               clear hK K
               refine norm_ (a' := ?_) ?_ ?_
               rotate_left
               · show Act.put _ (some 74) _ = _
                 simp only [Act.put, List.setIfInBounds_toArray, List.set_cons_zero, List.set_cons_succ, i64_w, i32_w]
                 rfl
               refine one_ (i := 3) (N := some 76) #[true, true, true, true, false, false] rfl rfl (by kernel_rfl) (by decide) (fun K hK => ?_)
               refine goes_ Try.func16 (by kernel_rfl) rfl #[.agg #[.int .i64 a1_0, .int .i64 a1_1, .string a1_2, .slice A1_3 l1_3.length c1_3]] (by rfl) rfl rfl ga ?_
               with_reducible refine (laws_toVal.calls kj25 a1_0 a1_1 a1_2 _ _ l1_3 t370 t371 t372 t373 _ ?side1 ?side2 A66.out).mono ?_
               (case side1 => exact cq (Kd.C_below HR1_3.out HB.out))
               (case side2 => exact HC1_3.out)
               rintro e w76 ⟨v374, rfl, ho0, hb⟩
               refine ⟨_, rfl, ?_⟩
               have n_ := ak8 (Kd.R_below (kqR HO_6.out) hb) (Kd.R_below (kqR HO_9.out) hb) (Kd.R_elder' (kqR HO_344003.out) (Kd.R_base ho0) hb) (Kd.R_below (kqR HO369.out) hb) (Kd.R_lower (Kd.R_new' ho0 (Kd.R_lt (kqR HO_344003.out))) (below_size (bq2 HB.out GE320.out GE343.out))) (blk_below (g := gb320) (o := .cells #[.int .i64 a1_0, .int .i64 a1_1, .string a1_2, .slice A1_3 l1_3.length c1_3] 25 (0, 0)) (zq BK320.out) hb) (blk_below (g := gb343) (o := .cells #[.int .i64 t337, .int .i64 t338, .string t339, .slice Ao42 t362.length co42] 29 (0, 0)) (zq BK343.out) hb) (below_step (bq2 HB.out GE320.out GE343.out) hb)
               clear HO_6 HO_9 HO_344003 HO369 BK320 BK343 HB
               obtain ⟨HO_6, HO_9, HO_344003, HO369, HO375, BK320, BK343, HB⟩ := n_
               (try clear hb ho0)
               obtain ⟨Ao77, co77, eo77⟩ := Kd.R_slice HO369.out
               (first | subst eo77 | (injection eo77 with f1_ f2_ f3_; have f4_ := f1_.symm; have f5_ := f3_.symm; clear f1_ f2_ f3_; subst f4_; subst f5_))
               obtain ⟨Ao78, co78, eo78⟩ := Kd.R_slice HO375.out
               (first | subst eo78 | (injection eo78 with f1_ f2_ f3_; have f4_ := f1_.symm; have f5_ := f3_.symm; clear f1_ f2_ f3_; subst f4_; subst f5_))
               refine hK.out _ _ ⟨(blk_cell BK320.out 0).trans rfl, (blk_cell BK320.out 1).trans rfl, (blk_cell BK320.out 2).trans rfl, (blk_cell BK320.out 3).trans rfl⟩ (fun hHeld => ?_)
               clear hK K
               refine norm_ (a' := ?_) ?_ ?_
               rotate_left
               · show Act.put _ (some 76) _ = _
                 simp only [Act.put, List.setIfInBounds_toArray, List.set_cons_zero, List.set_cons_succ, i64_w, i32_w]
                 rfl
               refine one_ (i := 4) (N := some 77) #[true, true, true, true, true, false] rfl rfl (by kernel_rfl) (by decide) (fun K hK => ?_)
               refine goes_ Try.func17 (by kernel_rfl) rfl #[.slice Ao77 t367.length co77, .agg #[.int .i64 t370, .int .i64 t371, .string t372, .slice Ao78 t373.length co78]] (by rfl) rfl rfl ga ?_
               with_reducible refine (impl_PutVal.calls kj25 _ _ t367 t370 t371 t372 _ _ t373 t376 _ ?side1 ?side2 ?side3 ?side4 A67.out).mono ?_
               (case side1 => repeat (first | exact (Kd.R_reads' HO369.out).2.2 | (with_reducible refine Kd.C_alloc ?_ _) | (with_reducible refine Kd.C_drewN ?_ _) | (with_reducible refine Kd.C_drew ?_)))
               (case side2 => exact (Kd.R_reads' HO369.out).2.1)
               (case side3 => repeat (first | exact (Kd.R_reads' HO375.out).2.2 | (with_reducible refine Kd.C_alloc ?_ _) | (with_reducible refine Kd.C_drewN ?_ _) | (with_reducible refine Kd.C_drew ?_)))
               (case side4 => exact (Kd.R_reads' HO375.out).2.1)
               rintro e w79 ⟨v377, rfl, ho0, hb⟩
               refine ⟨_, rfl, ?_⟩
               have n_ := ak9 (Kd.R_elder' (kqR HO_6.out) (Kd.R_base ho0) hb) (Kd.R_elder' (kqR HO_9.out) (Kd.R_base ho0) hb) (Kd.R_below (kqR HO_344003.out) hb) (Kd.R_elder' (kqR HO369.out) (Kd.R_base ho0) hb) (Kd.R_below (kqR HO375.out) hb) (Kd.R_lower (Kd.R_new' (Kd.R_new' (Kd.R_new' ho0 (Kd.R_lt (kqR HO_6.out))) (Kd.R_lt (kqR HO_9.out))) (Kd.R_lt (kqR HO369.out))) (below_size (bq2 HB.out GE320.out GE343.out))) (blk_below (g := gb320) (o := .cells #[.int .i64 a1_0, .int .i64 a1_1, .string a1_2, .slice A1_3 l1_3.length c1_3] 25 (0, 0)) (zq BK320.out) hb) (blk_below (g := gb343) (o := .cells #[.int .i64 t337, .int .i64 t338, .string t339, .slice Ao42 t362.length co42] 29 (0, 0)) (zq BK343.out) hb) (below_step (bq2 HB.out GE320.out GE343.out) hb)
               clear HO_6 HO_9 HO_344003 HO369 HO375 BK320 BK343 HB
               obtain ⟨HO_6, HO_9, HO_344003, HO369, HO375, HO378, BK320, BK343, HB⟩ := n_
               (try clear hb ho0)
               refine hK.out _ _ ⟨(blk_cell BK320.out 0).trans rfl, (blk_cell BK320.out 1).trans rfl, (blk_cell BK320.out 2).trans rfl, (blk_cell BK320.out 3).trans rfl⟩ (fun hHeld => ?_)
               clear hK K
               refine norm_ (a' := ?_) ?_ ?_
               rotate_left
               · show Act.put _ (some 77) _ = _
                 simp only [Act.put, List.setIfInBounds_toArray, List.set_cons_zero, List.set_cons_succ, i64_w, i32_w]
                 rfl
               refine pure_ (i := 5) (N := some 13) (v := ?_) (a' := ?_) #[true, true, true, true, true, true] rfl rfl (by kernel_rfl) (fun _ _ _ h => h) (Or.inl ⟨by rfl, ?_⟩) ?_ ?_
               rotate_left
               · intro w'
                 go_simp
                 with_reducible rfl
               rotate_left
               · simp only [Act.put, List.setIfInBounds_toArray, List.set_cons_zero, List.set_cons_succ, i64_w, i32_w]
                 rfl
               refine done_ (by kernel_rfl) ?_
               obtain ⟨Ao80, co80, eo80⟩ := Kd.R_slice HO378.out
               subst eo80
               try go_wp2_with (first | ((with_reducible refine gate_callee (f := 18) rfl ?_); refine goesL_ (some 80) rfl rfl Try.func18 (by kernel_rfl) rfl #[.slice Ao80 t376.length co80, .slice Ao48 t331.length co48] rfl ga ?_; (with_reducible refine (laws_eqByteS.calls kj25 _ _ t376 _ _ t331 true _ ?side1 ?side2 ?side3 ?side4 A68.out).mono ?_); (case side1 => repeat (first | exact (Kd.R_reads' HO378.out).2.2 | (with_reducible refine Kd.C_alloc ?_ _) | (with_reducible refine Kd.C_drewN ?_ _) | (with_reducible refine Kd.C_drew ?_))); (case side2 => exact (Kd.R_reads' HO378.out).2.1); (case side3 => repeat (first | exact (Kd.R_reads' HO_6.out).2.2 | (with_reducible refine Kd.C_alloc ?_ _) | (with_reducible refine Kd.C_drewN ?_ _) | (with_reducible refine Kd.C_drew ?_))); (case side4 => exact (Kd.R_reads' HO_6.out).2.1); rintro e w' ⟨rfl, ⟨nd, rfl⟩⟩; refine ⟨_, rfl, ?_⟩) | ((with_reducible refine gate_callee (f := 22) rfl ?_); refine goesL_ (some 84) rfl rfl Try.func22 (by kernel_rfl) rfl #[.slice Ao47 t365.length co47, .int .i64 1] rfl (by (try simp only [List.map_toArray, List.map_cons, List.map_nil]); first | done | (rw [show t365.length = t344.length from (Kd.R_reads' HO_9.out).1.symm] <;> rfl) | rfl | (simp only [List.length_drop, List.length_take]; rfl)) ?_; (with_reducible refine (laws_heldByteS.calls kj25 _ _ t365 1 t380 _ ?side1 ?side2 A70.out).mono ?_); (case side1 => repeat (first | exact (Kd.R_reads' HO_9.out).2.2 | (with_reducible refine Kd.C_alloc ?_ _) | (with_reducible refine Kd.C_drewN ?_ _) | (with_reducible refine Kd.C_drew ?_))); (case side2 => rw [show t365.length = t344.length from (Kd.R_reads' HO_9.out).1.symm]; exact (Kd.R_reads' HO_9.out).2.1); rintro e w' ⟨rfl, ⟨nd, rfl⟩⟩; refine ⟨_, rfl, ?_⟩))
               go_ret
               exact ⟨rq, bq2 HB.out GE320.out GE343.out⟩
             rw [if_neg c72] at H
             have c72b0 : (t380 == t364) = false := beq_eq_false_iff_ne.mpr c72
             have c72b1 : (t380 != t364) = true := bne_iff_ne.mpr c72
             exact absurd ((Option.some.inj H).trans HRT.out) (by decide)
           replace c69 := Bool.eq_false_iff.mpr c69
           subst c69
           have H1 : (some false) = some r := by rw [if_neg (show ¬ (false = true) by decide)] at H; exact H
           clear H
           have H := H1
           clear H1
           exact absurd ((Option.some.inj H).trans HRT.out) (by decide)
         rw [if_neg c64] at H
         have c64b0 : (t366 == t364) = false := beq_eq_false_iff_ne.mpr c64
         have c64b1 : (t366 != t364) = true := bne_iff_ne.mpr c64
         exact absurd ((Option.some.inj H).trans HRT.out) (by decide)
     replace c23 := Bool.eq_false_iff.mpr c23
     subst c23
     have H1 : (some false) = some r := by rw [if_neg (show ¬ (false = true) by decide)] at H; exact H
     clear H
     have H := H1
     clear H1
     exact absurd ((Option.some.inj H).trans HRT.out) (by decide)
   replace c20 := Bool.eq_false_iff.mpr c20
   subst c20
   have H1 : (some false) = some r := by rw [if_neg (show ¬ (false = true) by decide)] at H; exact H
   clear H
   have H := H1
   clear H1
   exact absurd ((Option.some.inj H).trans HRT.out) (by decide)
 replace c17 := Bool.eq_false_iff.mpr c17
 subst c17
 have H1 : (some false) = some r := by rw [if_neg (show ¬ (false = true) by decide)] at H; exact H
 clear H
 have H := H1
 clear H1
 exact absurd ((Option.some.inj H).trans HRT.out) (by decide)

/-- THE ONE PURE STATEMENT of laws_FnExactPutVal. -/
def wfS25 (x : S25) : Prop := (Lit.int .i64 x.f0).wf = true ∧ (Lit.int .i64 x.f1).wf = true ∧ x.f2.size ≤ maxLen ∧ x.f3.length ≤ maxLen ∧ (∀ y ∈ x.f3, (Lit.int .i64 y).wf = true)
def laws_FnExactPutVal.Pure : Prop := ∀ (l0 : List Int) (a1_0 : Int) (a1_1 : Int) (a1_2 : ByteArray) (l1_3 : List Int), l0.length ≤ maxLen → (∀ y ∈ l0, (Lit.int .u8 y).wf = true) → (Lit.int .i64 a1_0).wf = true → (Lit.int .i64 a1_1).wf = true → a1_2.size ≤ maxLen → l1_3.length ≤ maxLen → (∀ y ∈ l1_3, (Lit.int .i64 y).wf = true) → ∃ k, laws_FnExactPutVal.f k l0 a1_0 a1_1 a1_2 l1_3 = some true

end Go.Proofs.Ythhnfmbfgplelaa.XFnExactPutVal
