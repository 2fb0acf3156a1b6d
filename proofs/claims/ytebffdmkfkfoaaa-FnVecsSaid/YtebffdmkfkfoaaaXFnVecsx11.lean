/- The functions that one law reaches, as Lean functions, with their walks: printed by a program of this seat (wip/tools) out of the translation. -/
import Derived.Test.YtebffdmkfkfoaaaXFnVecsx0
import Derived.Test.YtebffdmkfkfoaaaXFnVecsx2
import Derived.Test.YtebffdmkfkfoaaaXFnVecsx5
import Derived.Test.YtebffdmkfkfoaaaXFnVecsx8
import Derived.Test.YtebffdmkfkfoaaaXFnVecsx9
import Derived.Test.YtebffdmkfkfoaaaXFnVecsx10
namespace Go.Proofs.Ytebffdmkfkfoaaa.XFnVecs
open Go.RowKit Go.Proofs.YtebffdmkfkfoaaaW.PrintWords Go.Proofs.YtebffdmkfkfoaaaW.PrintLast Go.Proofs.YtebffdmkfkfoaaaW.PrintMore
attribute [local go_sem] max2_int min2_int max_two min_two max_three min_three max_four min_four   -- for this text's walks alone
set_option linter.unusedVariables false
set_option linter.unusedSimpArgs false

/-! ### spec_PutVec: function 116 -/
def spec_PutVec.f (k : Nat) (a0_0 : Int) (a0_1 : Int) (a0_2 : Int) (a0_3 : Int) (a0_4 : Int) : Option (List Int) := (spec_VecOk.f a0_0 a0_1 a0_2 a0_3 a0_4).bind fun t457 => (if t457 = true then ((spec_PutInt.f k a0_0).bind fun t464 => ((spec_PutTlv.f k (([] : List Int)) 2 t464).bind fun t467 => ((spec_PutInt.f k a0_1).bind fun t470 => ((spec_PutTlv.f k t467 2 t470).bind fun t473 => ((spec_PutInt.f k a0_2).bind fun t476 => ((spec_PutTlv.f k t473 2 t476).bind fun t479 => ((spec_PutInt.f k a0_3).bind fun t482 => ((spec_PutTlv.f k t479 2 t482).bind fun t485 => ((spec_PutInt.f k a0_4).bind fun t488 => ((spec_PutTlv.f k t485 2 t488).bind fun t491 => (some t491))))))))))) else (some (([] : List Int))))
theorem spec_PutVec.mono : ∀ a0 a1 a2 a3 a4 k, LeO (spec_PutVec.f k a0 a1 a2 a3 a4) (spec_PutVec.f (k + 1) a0 a1 a2 a3 a4) := by
 intro a0 a1 a2 a3 a4 k
 unfold spec_PutVec.f
 repeat' first
  | (with_reducible exact spec_PutInt.mono _ _)
  | (with_reducible exact spec_PutTlv.mono _ _ _ _)
  | (with_reducible exact LeO.refl _)
  | (with_reducible exact LeO.none _)
  | (with_reducible refine LeO.ite ?_ ?_)
  | (with_reducible refine LeO.bind ?_ (fun _ => ?_))
  | exact spec_PutInt.mono _ _
  | exact spec_PutTlv.mono _ _ _ _
  | exact LeO.none _
  | refine LeO.ite ?_ ?_
  | refine LeO.bind ?_ (fun _ => ?_)
def spec_PutVec.T3 : Bool × List (List Nat × List Nat) := (true, [([], []), ([], []), ([1], [1]), ([2], [2]), ([0, 3, 3], [0, 3]), ([], []), ([5], [5]), ([6, 4], [6]), ([4, 7, 7], [4, 7]), ([], []), ([9], [9]), ([10, 8], [10]), ([8, 11, 11], [8, 11]), ([12, 12, 0, 1, 2, 3, 4, 5, 6, 7, 8, 9, 10, 11, 12], [12])])
def spec_PutVec.B3 : List Nat := [0, 0, 2, 6, 15, 0, 32, 127, 255, 0, 512, 2047, 4095, 8191]
theorem spec_PutVec.tab3 : rtab .any (opsOf Try.f116 3) = spec_PutVec.T3 := by kernel_rfl
theorem spec_PutVec.bits3 : waitsOk spec_PutVec.T3.2 spec_PutVec.B3 = true := by kernel_rfl
def spec_PutVec.T4 : Bool × List (List Nat × List Nat) := (true, [([], []), ([], []), ([1], [1]), ([2], [2]), ([0, 3, 3], [0, 3]), ([], []), ([5], [5]), ([6, 4], [6]), ([4, 7, 7], [4, 7]), ([8, 8, 0, 1, 2, 3, 4, 5, 6, 7, 8], [8])])
def spec_PutVec.B4 : List Nat := [0, 0, 2, 6, 15, 0, 32, 127, 255, 511]
theorem spec_PutVec.tab4 : rtab .any (opsOf Try.f116 4) = spec_PutVec.T4 := by kernel_rfl
theorem spec_PutVec.bits4 : waitsOk spec_PutVec.T4.2 spec_PutVec.B4 = true := by kernel_rfl
set_option maxHeartbeats 8000000 in
set_option maxRecDepth 100000 in
theorem spec_PutVec.calls (k : Nat) (a0_0 : Int) (a0_1 : Int) (a0_2 : Int) (a0_3 : Int) (a0_4 : Int) (r : List Int) (w : World) (h : spec_PutVec.f k a0_0 a0_1 a0_2 a0_3 a0_4 = some r) :
 Calls Try.prog 116 #[.agg #[.int .i64 a0_0, .int .i64 a0_1, .int .i64 a0_2, .int .i64 a0_3, .int .i64 a0_4]] w fun e w' => ∃ v0_ : Value, e = .returned (v0_) ∧ Kd.R (Kd.int .u8) 5 w' w.heap.size (fun _ => True) v0_ r ∧ Below w.heap.size w w' := by
 have hu47 := Try.underlying47
 have HB := am (Below.refl w.heap.size w)
 have H : ((spec_VecOk.f a0_0 a0_1 a0_2 a0_3 a0_4).bind fun t457 => (if t457 = true then ((spec_PutInt.f k a0_0).bind fun t464 => ((spec_PutTlv.f k (([] : List Int)) 2 t464).bind fun t467 => ((spec_PutInt.f k a0_1).bind fun t470 => ((spec_PutTlv.f k t467 2 t470).bind fun t473 => ((spec_PutInt.f k a0_2).bind fun t476 => ((spec_PutTlv.f k t473 2 t476).bind fun t479 => ((spec_PutInt.f k a0_3).bind fun t482 => ((spec_PutTlv.f k t479 2 t482).bind fun t485 => ((spec_PutInt.f k a0_4).bind fun t488 => ((spec_PutTlv.f k t485 2 t488).bind fun t491 => (some t491))))))))))) else (some (([] : List Int))))) = some r := h
 clear h
 replace H := Option.bind_eq_some_iff.mp H
 obtain ⟨t457, A20, H⟩ := H
 replace H : (if t457 = true then ((spec_PutInt.f k a0_0).bind fun t464 => ((spec_PutTlv.f k (([] : List Int)) 2 t464).bind fun t467 => ((spec_PutInt.f k a0_1).bind fun t470 => ((spec_PutTlv.f k t467 2 t470).bind fun t473 => ((spec_PutInt.f k a0_2).bind fun t476 => ((spec_PutTlv.f k t473 2 t476).bind fun t479 => ((spec_PutInt.f k a0_3).bind fun t482 => ((spec_PutTlv.f k t479 2 t482).bind fun t485 => ((spec_PutInt.f k a0_4).bind fun t488 => ((spec_PutTlv.f k t485 2 t488).bind fun t491 => (some t491))))))))))) else (some (([] : List Int)))) = some r := H
 have A2 := am A20
 clear A20
 by_cases c3 : t457 = true
 · subst c3
   have H1 : ((spec_PutInt.f k a0_0).bind fun t464 => ((spec_PutTlv.f k (([] : List Int)) 2 t464).bind fun t467 => ((spec_PutInt.f k a0_1).bind fun t470 => ((spec_PutTlv.f k t467 2 t470).bind fun t473 => ((spec_PutInt.f k a0_2).bind fun t476 => ((spec_PutTlv.f k t473 2 t476).bind fun t479 => ((spec_PutInt.f k a0_3).bind fun t482 => ((spec_PutTlv.f k t479 2 t482).bind fun t485 => ((spec_PutInt.f k a0_4).bind fun t488 => ((spec_PutTlv.f k t485 2 t488).bind fun t491 => (some t491))))))))))) = some r := by rw [if_pos rfl] at H; exact H
   clear H
   have H := H1
   clear H1
   obtain ⟨y461, hy461⟩ : ∃ y_ : List Int, y_ = (([] : List Int)) := ⟨_, rfl⟩
   replace H : ((spec_PutInt.f k a0_0).bind fun t464 => ((spec_PutTlv.f k y461 2 t464).bind fun t467 => ((spec_PutInt.f k a0_1).bind fun t470 => ((spec_PutTlv.f k t467 2 t470).bind fun t473 => ((spec_PutInt.f k a0_2).bind fun t476 => ((spec_PutTlv.f k t473 2 t476).bind fun t479 => ((spec_PutInt.f k a0_3).bind fun t482 => ((spec_PutTlv.f k t479 2 t482).bind fun t485 => ((spec_PutInt.f k a0_4).bind fun t488 => ((spec_PutTlv.f k t485 2 t488).bind fun t491 => (some t491))))))))))) = some r := by first | (rw [hy461]; with_reducible exact H) | (have H2_ := (Option.bind_some _ _).symm.trans H; rw [hy461]; with_reducible exact H2_) | (have H2_ := (Option.bind_some _ _).symm.trans H; with_reducible exact H2_) | with_reducible exact H | (rw [hy461]; exact H) | exact H
   have Ny461 := am hy461
   clear hy461
   replace H := Option.bind_eq_some_iff.mp H
   obtain ⟨t464, A40, H⟩ := H
   replace H : ((spec_PutTlv.f k y461 2 t464).bind fun t467 => ((spec_PutInt.f k a0_1).bind fun t470 => ((spec_PutTlv.f k t467 2 t470).bind fun t473 => ((spec_PutInt.f k a0_2).bind fun t476 => ((spec_PutTlv.f k t473 2 t476).bind fun t479 => ((spec_PutInt.f k a0_3).bind fun t482 => ((spec_PutTlv.f k t479 2 t482).bind fun t485 => ((spec_PutInt.f k a0_4).bind fun t488 => ((spec_PutTlv.f k t485 2 t488).bind fun t491 => (some t491)))))))))) = some r := H
   have A4 := am A40
   clear A40
   replace H := Option.bind_eq_some_iff.mp H
   obtain ⟨t467, A50, H⟩ := H
   replace H : ((spec_PutInt.f k a0_1).bind fun t470 => ((spec_PutTlv.f k t467 2 t470).bind fun t473 => ((spec_PutInt.f k a0_2).bind fun t476 => ((spec_PutTlv.f k t473 2 t476).bind fun t479 => ((spec_PutInt.f k a0_3).bind fun t482 => ((spec_PutTlv.f k t479 2 t482).bind fun t485 => ((spec_PutInt.f k a0_4).bind fun t488 => ((spec_PutTlv.f k t485 2 t488).bind fun t491 => (some t491))))))))) = some r := H
   have A5 := am A50
   clear A50
   replace H := Option.bind_eq_some_iff.mp H
   obtain ⟨t470, A60, H⟩ := H
   replace H : ((spec_PutTlv.f k t467 2 t470).bind fun t473 => ((spec_PutInt.f k a0_2).bind fun t476 => ((spec_PutTlv.f k t473 2 t476).bind fun t479 => ((spec_PutInt.f k a0_3).bind fun t482 => ((spec_PutTlv.f k t479 2 t482).bind fun t485 => ((spec_PutInt.f k a0_4).bind fun t488 => ((spec_PutTlv.f k t485 2 t488).bind fun t491 => (some t491)))))))) = some r := H
   have A6 := am A60
   clear A60
   replace H := Option.bind_eq_some_iff.mp H
   obtain ⟨t473, A70, H⟩ := H
   replace H : ((spec_PutInt.f k a0_2).bind fun t476 => ((spec_PutTlv.f k t473 2 t476).bind fun t479 => ((spec_PutInt.f k a0_3).bind fun t482 => ((spec_PutTlv.f k t479 2 t482).bind fun t485 => ((spec_PutInt.f k a0_4).bind fun t488 => ((spec_PutTlv.f k t485 2 t488).bind fun t491 => (some t491))))))) = some r := H
   have A7 := am A70
   clear A70
   replace H := Option.bind_eq_some_iff.mp H
   obtain ⟨t476, A80, H⟩ := H
   replace H : ((spec_PutTlv.f k t473 2 t476).bind fun t479 => ((spec_PutInt.f k a0_3).bind fun t482 => ((spec_PutTlv.f k t479 2 t482).bind fun t485 => ((spec_PutInt.f k a0_4).bind fun t488 => ((spec_PutTlv.f k t485 2 t488).bind fun t491 => (some t491)))))) = some r := H
   have A8 := am A80
   clear A80
   replace H := Option.bind_eq_some_iff.mp H
   obtain ⟨t479, A90, H⟩ := H
   replace H : ((spec_PutInt.f k a0_3).bind fun t482 => ((spec_PutTlv.f k t479 2 t482).bind fun t485 => ((spec_PutInt.f k a0_4).bind fun t488 => ((spec_PutTlv.f k t485 2 t488).bind fun t491 => (some t491))))) = some r := H
   have A9 := am A90
   clear A90
   replace H := Option.bind_eq_some_iff.mp H
   obtain ⟨t482, A100, H⟩ := H
   replace H : ((spec_PutTlv.f k t479 2 t482).bind fun t485 => ((spec_PutInt.f k a0_4).bind fun t488 => ((spec_PutTlv.f k t485 2 t488).bind fun t491 => (some t491)))) = some r := H
   have A10 := am A100
   clear A100
   replace H := Option.bind_eq_some_iff.mp H
   obtain ⟨t485, A110, H⟩ := H
   replace H : ((spec_PutInt.f k a0_4).bind fun t488 => ((spec_PutTlv.f k t485 2 t488).bind fun t491 => (some t491))) = some r := H
   have A11 := am A110
   clear A110
   replace H := Option.bind_eq_some_iff.mp H
   obtain ⟨t488, A120, H⟩ := H
   replace H : ((spec_PutTlv.f k t485 2 t488).bind fun t491 => (some t491)) = some r := H
   have A12 := am A120
   clear A120
   replace H := Option.bind_eq_some_iff.mp H
   obtain ⟨t491, A130, H⟩ := H
   replace H : (some t491) = some r := H
   have A13 := am A130
   clear A130
   obtain rfl := Option.some.inj H
   go_enter Try.func116, Try.ntmps116
   try go_wp2_with (first | ((with_reducible refine gate_dst (N := 1) rfl ?_); refine box_event ?hg (N := 1) ?hd (cs := #[.int .i64 a0_0, .int .i64 a0_1, .int .i64 a0_2, .int .i64 a0_3, .int .i64 a0_4]) (t := 47) ?hr ?_; (case hd => rfl); (case hg => rfl); (case hr => exact gs); intro gb456 hg w14 hbox hb; have n_ := ak4 (below_step (bq HB.out) hb) hbox ((by rw [hg]; exact (below_size (bq HB.out)) : w.heap.size ≤ gb456)) ((by rw [hg]; exact (below_size (bq HB.out)) : w.heap.size ≤ gb456)); clear HB; obtain ⟨HB, BK456, GW456, GE456⟩ := n_; clear hb hbox hg; have hcz15_0 : w14.cell? ⟨gb456, 0, none⟩ = some (.int .i64 a0_0) := (blk_cell BK456.out 0).trans rfl; have hcz15_1 : w14.cell? ⟨gb456, 1, none⟩ = some (.int .i64 a0_1) := (blk_cell BK456.out 1).trans rfl; have hcz15_2 : w14.cell? ⟨gb456, 2, none⟩ = some (.int .i64 a0_2) := (blk_cell BK456.out 2).trans rfl; have hcz15_3 : w14.cell? ⟨gb456, 3, none⟩ = some (.int .i64 a0_3) := (blk_cell BK456.out 3).trans rfl; have hcz15_4 : w14.cell? ⟨gb456, 4, none⟩ = some (.int .i64 a0_4) := (blk_cell BK456.out 4).trans rfl; have hfz15_0 := blk_frozen BK456.out 0; have hfz15_1 := blk_frozen BK456.out 1; have hfz15_2 := blk_frozen BK456.out 2; have hfz15_3 := blk_frozen BK456.out 3; have hfz15_4 := blk_frozen BK456.out 4) | ((with_reducible refine gate_callee (f := 67) rfl ?_); refine goesL_ (some 5) rfl rfl Try.func67 (by kernel_rfl) rfl #[.agg #[.int .i64 a0_0, .int .i64 a0_1, .int .i64 a0_2, .int .i64 a0_3, .int .i64 a0_4]] rfl ga ?_; (with_reducible refine (spec_VecOk.calls a0_0 a0_1 a0_2 a0_3 a0_4 true _ A2.out).mono ?_); rintro e w16 ⟨rfl, hb⟩; refine ⟨_, rfl, ?_⟩; have n_ := ak2 (blk_below (g := gb456) (o := .cells #[.int .i64 a0_0, .int .i64 a0_1, .int .i64 a0_2, .int .i64 a0_3, .int .i64 a0_4] 47 (0, 0)) (zq BK456.out) hb) (below_step (bq1 HB.out GE456.out) hb); clear BK456 HB; obtain ⟨BK456, HB⟩ := n_; (try clear hb)))
   have n_ := ak2 (blk_drew BK456.out) (below_drew1 HB.out)
   clear BK456 HB
   obtain ⟨BK456, HB⟩ := n_
   refine start_ (n := 14) (S := fun w' => w'.cell? ⟨gb456, 0, none⟩ = some (.int .i64 a0_0) ∧ w'.cell? ⟨gb456, 1, none⟩ = some (.int .i64 a0_1) ∧ w'.cell? ⟨gb456, 2, none⟩ = some (.int .i64 a0_2) ∧ w'.cell? ⟨gb456, 3, none⟩ = some (.int .i64 a0_3) ∧ w'.cell? ⟨gb456, 4, none⟩ = some (.int .i64 a0_4)) (ds := []) #[false, false, false, false, false, false, false, false, false, false, false, false, false, false] (by kernel_rfl) rfl rfl ⟨(blk_cell BK456.out 0).trans rfl, (blk_cell BK456.out 1).trans rfl, (blk_cell BK456.out 2).trans rfl, (blk_cell BK456.out 3).trans rfl, (blk_cell BK456.out 4).trans rfl⟩ (fun hHeld => ?_); refine with_tabW spec_PutVec.tab3 spec_PutVec.bits3 (fun HT_ HW_ => ?_)
   generalize w16.drew = w17 at BK456 HB hHeld ⊢
   refine pure_ (i := 1) (N := some 9) (v := ?_) (a' := ?_) #[false, true, false, false, false, false, false, false, false, false, false, false, false, false] rfl rfl (any_of HT_.out (by kernel_rfl)) (fun _ _ _ h => h) (Or.inl ⟨by rfl, ?_⟩) ?_ ?_
   rotate_left
   · intro w'
     go_simp
     with_reducible rfl
   rotate_left
   · simp only [Act.put, List.setIfInBounds_toArray, List.set_cons_zero, List.set_cons_succ, i64_w, i32_w]
     rfl
   refine pure_ (i := 5) (N := some 13) (v := ?_) (a' := ?_) #[false, true, false, false, false, true, false, false, false, false, false, false, false, false] rfl rfl (any_of HT_.out (by kernel_rfl)) (fun _ _ _ h => h) (Or.inl ⟨by rfl, ?_⟩) ?_ ?_
   rotate_left
   · intro w'
     go_simp
     with_reducible rfl
   rotate_left
   · simp only [Act.put, List.setIfInBounds_toArray, List.set_cons_zero, List.set_cons_succ, i64_w, i32_w]
     rfl
   refine pure_ (i := 9) (N := some 17) (v := ?_) (a' := ?_) #[false, true, false, false, false, true, false, false, false, true, false, false, false, false] rfl rfl (any_of HT_.out (by kernel_rfl)) (fun _ _ _ h => h) (Or.inl ⟨by rfl, ?_⟩) ?_ ?_
   rotate_left
   · intro w'
     go_simp
     with_reducible rfl
   rotate_left
   · simp only [Act.put, List.setIfInBounds_toArray, List.set_cons_zero, List.set_cons_succ, i64_w, i32_w]
     rfl
   refine take_ (i := 2) (N := some 10) (v := ?_) (a' := ?_) #[false, true, true, false, false, true, false, false, false, true, false, false, false, false] rfl rfl (take_ofW HT_.out HW_.out (by kernel_rfl)) (fun _ _ _ h => h) (Or.inl ⟨by rfl, ?_⟩) hHeld ?_ ?_
   rotate_left
   · rintro w' ⟨s0, s1, s2, s3, s4⟩
     go_simp
     with_reducible rfl
   rotate_left
   · simp only [Act.put, List.setIfInBounds_toArray, List.set_cons_zero, List.set_cons_succ, i64_w, i32_w]
     rfl
   refine take_ (i := 6) (N := some 14) (v := ?_) (a' := ?_) #[false, true, true, false, false, true, true, false, false, true, false, false, false, false] rfl rfl (take_ofW HT_.out HW_.out (by kernel_rfl)) (fun _ _ _ h => h) (Or.inl ⟨by rfl, ?_⟩) hHeld ?_ ?_
   rotate_left
   · rintro w' ⟨s0, s1, s2, s3, s4⟩
     go_simp
     with_reducible rfl
   rotate_left
   · simp only [Act.put, List.setIfInBounds_toArray, List.set_cons_zero, List.set_cons_succ, i64_w, i32_w]
     rfl
   refine take_ (i := 10) (N := some 18) (v := ?_) (a' := ?_) #[false, true, true, false, false, true, true, false, false, true, true, false, false, false] rfl rfl (take_ofW HT_.out HW_.out (by kernel_rfl)) (fun _ _ _ h => h) (Or.inl ⟨by rfl, ?_⟩) hHeld ?_ ?_
   rotate_left
   · rintro w' ⟨s0, s1, s2, s3, s4⟩
     go_simp
     with_reducible rfl
   rotate_left
   · simp only [Act.put, List.setIfInBounds_toArray, List.set_cons_zero, List.set_cons_succ, i64_w, i32_w]
     rfl
   refine join_ (σ := Value × Value) 6 #[true, true, true, true, false, true, true, false, false, true, true, false, false, false] (fun s_ => [(8, s_.1), (11, s_.2)]) (fun s_ w' => (w'.cell? ⟨gb456, 0, none⟩ = some (.int .i64 a0_0) ∧ w'.cell? ⟨gb456, 1, none⟩ = some (.int .i64 a0_1) ∧ w'.cell? ⟨gb456, 2, none⟩ = some (.int .i64 a0_2) ∧ w'.cell? ⟨gb456, 3, none⟩ = some (.int .i64 a0_3) ∧ w'.cell? ⟨gb456, 4, none⟩ = some (.int .i64 a0_4)) ∧ (Kd.R (Kd.int .u8) 5 w' w.heap.size (fun k_ => some k_ ≠ (s_.2 : Value).ownBlock) s_.1 y461) ∧ (Kd.R (Kd.int .u8) 5 w' w.heap.size (fun k_ => some k_ ≠ (s_.1 : Value).ownBlock) s_.2 t464) ∧ (w'.heap[gb456]? = some (.cells #[.int .i64 a0_0, .int .i64 a0_1, .int .i64 a0_2, .int .i64 a0_3, .int .i64 a0_4] 47 (0, 0))) ∧ (Below w.heap.size w w')) ?_ ?_
   rotate_left
   · intro hCont
     refine two_ (i := 0) (j := 3) (Ni := some 8) (Nj := some 11) #[true, true, true, false, false, true, true, false, false, true, true, false, false, false] #[false, true, true, true, false, true, true, false, false, true, true, false, false, false] rfl rfl rfl rfl (two_of HT_.out (by kernel_rfl)) (by decide) (by decide) (fun K hK => ?_) (fun K hK => ?_)
     · skip
       refine Kd.R_lit_step (Kd.int .u8) _ 5 ?hg (N := 8) ?hd (xs := ([] : List Int)) (inner := []) (ok := fun _ => True) (okp := fun _ => True) ?hr ?hp (fun _ hk => hk) trivial (Below.refl _ _) (Nat.le_refl _) (by simp) ?_; (case hd => rfl); (case hg => rfl); (case hr => exact gs); (case hp => exact (Reps.none _ _))
       intro v462 w18 ho19 hb hg_ hnew_
       clear hg_ hnew_
       (first | rw [← Ny461.out] at ho19 | (simp only [Int.reduceToNat] at ho19; rw [← Ny461.out] at ho19))
       have n_ := ak3 (Kd.R_lower ho19 (below_size (bq1 HB.out GE456.out))) (blk_below (g := gb456) (o := .cells #[.int .i64 a0_0, .int .i64 a0_1, .int .i64 a0_2, .int .i64 a0_3, .int .i64 a0_4] 47 (0, 0)) (zq BK456.out) hb) (below_step (bq1 HB.out GE456.out) hb)
       clear BK456 HB
       obtain ⟨HO463, BK456, HB⟩ := n_
       clear hb ho19
       refine hK.out _ _ ⟨(blk_cell BK456.out 0).trans rfl, (blk_cell BK456.out 1).trans rfl, (blk_cell BK456.out 2).trans rfl, (blk_cell BK456.out 3).trans rfl, (blk_cell BK456.out 4).trans rfl⟩ (fun hHeld => ?_)
       clear hK K
       refine norm_ (a' := ?_) ?_ ?_
       rotate_left
       · show Act.put _ (some 8) _ = _
         simp only [Act.put, List.setIfInBounds_toArray, List.set_cons_zero, List.set_cons_succ, i64_w, i32_w]
         rfl
       refine one_ (i := 3) (N := some 11) #[true, true, true, true, false, true, true, false, false, true, true, false, false, false] rfl rfl (one_of HT_.out (by kernel_rfl)) (by decide) (fun K hK => ?_)
       refine goes_ Try.func132 (by kernel_rfl) rfl #[.int .i64 a0_0] (by rfl) rfl rfl ga ?_
       with_reducible refine (spec_PutInt.calls k a0_0 t464 _ A4.out).mono ?_
       rintro e w20 ⟨v465, rfl, ho0, hb⟩
       refine ⟨_, rfl, ?_⟩
       have n_ := ak4 (Kd.R_elder' (kqR HO463.out) (Kd.R_base ho0) hb) (Kd.R_lower (Kd.R_new' ho0 (Kd.R_lt (kqR HO463.out))) (below_size (bq1 HB.out GE456.out))) (blk_below (g := gb456) (o := .cells #[.int .i64 a0_0, .int .i64 a0_1, .int .i64 a0_2, .int .i64 a0_3, .int .i64 a0_4] 47 (0, 0)) (zq BK456.out) hb) (below_step (bq1 HB.out GE456.out) hb)
       clear HO463 BK456 HB
       obtain ⟨HO463, HO466, BK456, HB⟩ := n_
       (try clear hb ho0)
       refine hK.out _ _ ⟨(blk_cell BK456.out 0).trans rfl, (blk_cell BK456.out 1).trans rfl, (blk_cell BK456.out 2).trans rfl, (blk_cell BK456.out 3).trans rfl, (blk_cell BK456.out 4).trans rfl⟩ (fun hHeld => ?_)
       clear hK K
       refine norm_ (a' := ?_) ?_ ?_
       rotate_left
       · show Act.put _ (some 11) _ = _
         simp only [Act.put, List.setIfInBounds_toArray, List.set_cons_zero, List.set_cons_succ, i64_w, i32_w]
         rfl
       exact norm_ (by simp only [putAll, Act.put, List.setIfInBounds_toArray, List.set_cons_zero, List.set_cons_succ]) (hCont (v462, v465) _ ⟨hHeld, (by (with_reducible repeat (first | apply Kd.R_alloc | apply Kd.R_drewN | apply Kd.R_drew)); exact Kd.R_mono HO463.out (fun _ hk => hk.2)), (by (with_reducible repeat (first | apply Kd.R_alloc | apply Kd.R_drewN | apply Kd.R_drew)); exact Kd.R_mono HO466.out (fun _ hk => hk.2)), (zq BK456.out), (bq1 HB.out GE456.out)⟩)
     skip
     refine goes_ Try.func132 (by kernel_rfl) rfl #[.int .i64 a0_0] (by rfl) rfl rfl ga ?_
     with_reducible refine (spec_PutInt.calls k a0_0 t464 _ A4.out).mono ?_
     rintro e w18 ⟨v465, rfl, ho0, hb⟩
     refine ⟨_, rfl, ?_⟩
     have n_ := ak3 (Kd.R_lower ho0 (below_size (bq1 HB.out GE456.out))) (blk_below (g := gb456) (o := .cells #[.int .i64 a0_0, .int .i64 a0_1, .int .i64 a0_2, .int .i64 a0_3, .int .i64 a0_4] 47 (0, 0)) (zq BK456.out) hb) (below_step (bq1 HB.out GE456.out) hb)
     clear BK456 HB
     obtain ⟨HO466, BK456, HB⟩ := n_
     (try clear hb ho0)
     refine hK.out _ _ ⟨(blk_cell BK456.out 0).trans rfl, (blk_cell BK456.out 1).trans rfl, (blk_cell BK456.out 2).trans rfl, (blk_cell BK456.out 3).trans rfl, (blk_cell BK456.out 4).trans rfl⟩ (fun hHeld => ?_)
     clear hK K
     refine norm_ (a' := ?_) ?_ ?_
     rotate_left
     · show Act.put _ (some 11) _ = _
       simp only [Act.put, List.setIfInBounds_toArray, List.set_cons_zero, List.set_cons_succ, i64_w, i32_w]
       rfl
     refine one_ (i := 0) (N := some 8) #[true, true, true, true, false, true, true, false, false, true, true, false, false, false] rfl rfl (one_of HT_.out (by kernel_rfl)) (by decide) (fun K hK => ?_)
     refine Kd.R_lit_step (Kd.int .u8) _ 5 ?hg (N := 8) ?hd (xs := ([] : List Int)) (inner := []) (ok := fun _ => True) (okp := fun _ => True) ?hr ?hp (fun _ hk => hk) trivial (Below.refl _ _) (Nat.le_refl _) (by simp) ?_; (case hd => rfl); (case hg => rfl); (case hr => exact gs); (case hp => exact (Reps.none _ _))
     intro v462 w19 ho20 hb hg_ hnew_
     clear hg_ hnew_
     (first | rw [← Ny461.out] at ho20 | (simp only [Int.reduceToNat] at ho20; rw [← Ny461.out] at ho20))
     have n_ := ak4 (Kd.R_elder' (kqR HO466.out) (Kd.R_base ho20) hb) (Kd.R_lower (Kd.R_new' ho20 (Kd.R_lt (kqR HO466.out))) (below_size (bq1 HB.out GE456.out))) (blk_below (g := gb456) (o := .cells #[.int .i64 a0_0, .int .i64 a0_1, .int .i64 a0_2, .int .i64 a0_3, .int .i64 a0_4] 47 (0, 0)) (zq BK456.out) hb) (below_step (bq1 HB.out GE456.out) hb)
     clear HO466 BK456 HB
     obtain ⟨HO466, HO463, BK456, HB⟩ := n_
     clear hb ho20
     refine hK.out _ _ ⟨(blk_cell BK456.out 0).trans rfl, (blk_cell BK456.out 1).trans rfl, (blk_cell BK456.out 2).trans rfl, (blk_cell BK456.out 3).trans rfl, (blk_cell BK456.out 4).trans rfl⟩ (fun hHeld => ?_)
     clear hK K
     refine norm_ (a' := ?_) ?_ ?_
     rotate_left
     · show Act.put _ (some 8) _ = _
       simp only [Act.put, List.setIfInBounds_toArray, List.set_cons_zero, List.set_cons_succ, i64_w, i32_w]
       rfl
     exact norm_ (by simp only [putAll, Act.put, List.setIfInBounds_toArray, List.set_cons_zero, List.set_cons_succ]) (hCont (v462, v465) _ ⟨hHeld, (by (with_reducible repeat (first | apply Kd.R_alloc | apply Kd.R_drewN | apply Kd.R_drew)); exact Kd.R_mono HO463.out (fun _ hk => hk.2)), (by (with_reducible repeat (first | apply Kd.R_alloc | apply Kd.R_drewN | apply Kd.R_drew)); exact Kd.R_mono HO466.out (fun _ hk => hk.2)), (zq BK456.out), (bq1 HB.out GE456.out)⟩)
   rintro ⟨v462, v465⟩ w21 ⟨hS_, h0_, h1_, h2_, h3_⟩
   have n0_ : Aside0 (Kd.R (Kd.int .u8) 5 w21 w.heap.size (fun k_ => some k_ ≠ (v465 : Value).ownBlock) v462 y461) := ⟨h0_⟩
   have n1_ : Aside0 (Kd.R (Kd.int .u8) 5 w21 w.heap.size (fun k_ => some k_ ≠ (v462 : Value).ownBlock) v465 t464) := ⟨h1_⟩
   have n2_ : Aside0 (w21.heap[gb456]? = some (.cells #[.int .i64 a0_0, .int .i64 a0_1, .int .i64 a0_2, .int .i64 a0_3, .int .i64 a0_4] 47 (0, 0))) := ⟨h2_⟩
   have n3_ : Aside0 (Below w.heap.size w w21) := ⟨h3_⟩
   clear BK456
   clear HB
   clear h0_ h1_ h2_ h3_
   have HO463 := n0_
   have HO466 := n1_
   have BK456 := n2_
   have HB := n3_
   clear n0_ n1_ n2_ n3_
   have hHeld : w21.cell? ⟨gb456, 0, none⟩ = some (.int .i64 a0_0) ∧ w21.cell? ⟨gb456, 1, none⟩ = some (.int .i64 a0_1) ∧ w21.cell? ⟨gb456, 2, none⟩ = some (.int .i64 a0_2) ∧ w21.cell? ⟨gb456, 3, none⟩ = some (.int .i64 a0_3) ∧ w21.cell? ⟨gb456, 4, none⟩ = some (.int .i64 a0_4) := hS_
   obtain ⟨Ao22, co22, eo22⟩ := Kd.R_slice HO463.out
   (first | subst eo22 | (injection eo22 with f1_ f2_ f3_; have f4_ := f1_.symm; have f5_ := f3_.symm; clear f1_ f2_ f3_; subst f4_; subst f5_))
   obtain ⟨Ao23, co23, eo23⟩ := Kd.R_slice HO466.out
   (first | subst eo23 | (injection eo23 with f1_ f2_ f3_; have f4_ := f1_.symm; have f5_ := f3_.symm; clear f1_ f2_ f3_; subst f4_; subst f5_))
   refine norm_ (a' := ?_) ?_ ?_
   rotate_left
   · simp only [putAll, Act.put, List.setIfInBounds_toArray, List.set_cons_zero, List.set_cons_succ]
     rfl
   refine one_ (i := 4) (N := some 12) #[true, true, true, true, true, true, true, false, false, true, true, false, false, false] rfl rfl (one_of HT_.out (by kernel_rfl)) (by decide) (fun K hK => ?_)
   refine goes_ Try.func131 (by kernel_rfl) rfl #[.slice Ao22 y461.length co22, .int .i64 2, .slice Ao23 t464.length co23] (by rfl) rfl rfl ga ?_
   with_reducible refine (spec_PutTlv.calls k _ _ y461 2 _ _ t464 t467 _ ?side1 ?side2 ?side3 ?side4 A5.out).mono ?_
   (case side1 => repeat (first | exact (Kd.R_reads' HO463.out).2.2 | (with_reducible refine Kd.C_alloc ?_ _) | (with_reducible refine Kd.C_drewN ?_ _) | (with_reducible refine Kd.C_drew ?_)))
   (case side2 => exact (Kd.R_reads' HO463.out).2.1)
   (case side3 => repeat (first | exact (Kd.R_reads' HO466.out).2.2 | (with_reducible refine Kd.C_alloc ?_ _) | (with_reducible refine Kd.C_drewN ?_ _) | (with_reducible refine Kd.C_drew ?_)))
   (case side4 => exact (Kd.R_reads' HO466.out).2.1)
   rintro e w24 ⟨v468, rfl, ho0, hb⟩
   refine ⟨_, rfl, ?_⟩
   have n_ := ak5 (Kd.R_elder' (kqR HO463.out) (Kd.R_base ho0) hb) (Kd.R_elder' (kqR HO466.out) (Kd.R_base ho0) hb) (Kd.R_lower (Kd.R_new' (Kd.R_new' ho0 (Kd.R_lt (kqR HO463.out))) (Kd.R_lt (kqR HO466.out))) (below_size (bq1 HB.out GE456.out))) (blk_below (g := gb456) (o := .cells #[.int .i64 a0_0, .int .i64 a0_1, .int .i64 a0_2, .int .i64 a0_3, .int .i64 a0_4] 47 (0, 0)) (zq BK456.out) hb) (below_step (bq1 HB.out GE456.out) hb)
   clear HO463 HO466 BK456 HB
   obtain ⟨HO463, HO466, HO469, BK456, HB⟩ := n_
   (try clear hb ho0)
   refine hK.out _ _ ⟨(blk_cell BK456.out 0).trans rfl, (blk_cell BK456.out 1).trans rfl, (blk_cell BK456.out 2).trans rfl, (blk_cell BK456.out 3).trans rfl, (blk_cell BK456.out 4).trans rfl⟩ (fun hHeld => ?_)
   clear hK K
   refine norm_ (a' := ?_) ?_ ?_
   rotate_left
   · show Act.put _ (some 12) _ = _
     simp only [Act.put, List.setIfInBounds_toArray, List.set_cons_zero, List.set_cons_succ, i64_w, i32_w]
     rfl
   refine one_ (i := 7) (N := some 15) #[true, true, true, true, true, true, true, true, false, true, true, false, false, false] rfl rfl (one_of HT_.out (by kernel_rfl)) (by decide) (fun K hK => ?_)
   refine goes_ Try.func132 (by kernel_rfl) rfl #[.int .i64 a0_1] (by rfl) rfl rfl ga ?_
   with_reducible refine (spec_PutInt.calls k a0_1 t470 _ A6.out).mono ?_
   rintro e w25 ⟨v471, rfl, ho0, hb⟩
   refine ⟨_, rfl, ?_⟩
   have n_ := ak6 (Kd.R_elder' (kqR HO463.out) (Kd.R_base ho0) hb) (Kd.R_elder' (kqR HO466.out) (Kd.R_base ho0) hb) (Kd.R_elder' (kqR HO469.out) (Kd.R_base ho0) hb) (Kd.R_lower (Kd.R_new' (Kd.R_new' (Kd.R_new' ho0 (Kd.R_lt (kqR HO463.out))) (Kd.R_lt (kqR HO466.out))) (Kd.R_lt (kqR HO469.out))) (below_size (bq1 HB.out GE456.out))) (blk_below (g := gb456) (o := .cells #[.int .i64 a0_0, .int .i64 a0_1, .int .i64 a0_2, .int .i64 a0_3, .int .i64 a0_4] 47 (0, 0)) (zq BK456.out) hb) (below_step (bq1 HB.out GE456.out) hb)
   clear HO463 HO466 HO469 BK456 HB
   obtain ⟨HO463, HO466, HO469, HO472, BK456, HB⟩ := n_
   (try clear hb ho0)
   obtain ⟨Ao26, co26, eo26⟩ := Kd.R_slice HO469.out
   (first | subst eo26 | (injection eo26 with f1_ f2_ f3_; have f4_ := f1_.symm; have f5_ := f3_.symm; clear f1_ f2_ f3_; subst f4_; subst f5_))
   obtain ⟨Ao27, co27, eo27⟩ := Kd.R_slice HO472.out
   (first | subst eo27 | (injection eo27 with f1_ f2_ f3_; have f4_ := f1_.symm; have f5_ := f3_.symm; clear f1_ f2_ f3_; subst f4_; subst f5_))
   refine hK.out _ _ ⟨(blk_cell BK456.out 0).trans rfl, (blk_cell BK456.out 1).trans rfl, (blk_cell BK456.out 2).trans rfl, (blk_cell BK456.out 3).trans rfl, (blk_cell BK456.out 4).trans rfl⟩ (fun hHeld => ?_)
   clear hK K
   refine norm_ (a' := ?_) ?_ ?_
   rotate_left
   · show Act.put _ (some 15) _ = _
     simp only [Act.put, List.setIfInBounds_toArray, List.set_cons_zero, List.set_cons_succ, i64_w, i32_w]
     rfl
   refine one_ (i := 8) (N := some 16) #[true, true, true, true, true, true, true, true, true, true, true, false, false, false] rfl rfl (one_of HT_.out (by kernel_rfl)) (by decide) (fun K hK => ?_)
   refine goes_ Try.func131 (by kernel_rfl) rfl #[.slice Ao26 t467.length co26, .int .i64 2, .slice Ao27 t470.length co27] (by rfl) rfl rfl ga ?_
   with_reducible refine (spec_PutTlv.calls k _ _ t467 2 _ _ t470 t473 _ ?side1 ?side2 ?side3 ?side4 A7.out).mono ?_
   (case side1 => repeat (first | exact (Kd.R_reads' HO469.out).2.2 | (with_reducible refine Kd.C_alloc ?_ _) | (with_reducible refine Kd.C_drewN ?_ _) | (with_reducible refine Kd.C_drew ?_)))
   (case side2 => exact (Kd.R_reads' HO469.out).2.1)
   (case side3 => repeat (first | exact (Kd.R_reads' HO472.out).2.2 | (with_reducible refine Kd.C_alloc ?_ _) | (with_reducible refine Kd.C_drewN ?_ _) | (with_reducible refine Kd.C_drew ?_)))
   (case side4 => exact (Kd.R_reads' HO472.out).2.1)
   rintro e w28 ⟨v474, rfl, ho0, hb⟩
   refine ⟨_, rfl, ?_⟩
   have n_ := ak7 (Kd.R_elder' (kqR HO463.out) (Kd.R_base ho0) hb) (Kd.R_elder' (kqR HO466.out) (Kd.R_base ho0) hb) (Kd.R_elder' (kqR HO469.out) (Kd.R_base ho0) hb) (Kd.R_elder' (kqR HO472.out) (Kd.R_base ho0) hb) (Kd.R_lower (Kd.R_new' (Kd.R_new' (Kd.R_new' (Kd.R_new' ho0 (Kd.R_lt (kqR HO463.out))) (Kd.R_lt (kqR HO466.out))) (Kd.R_lt (kqR HO469.out))) (Kd.R_lt (kqR HO472.out))) (below_size (bq1 HB.out GE456.out))) (blk_below (g := gb456) (o := .cells #[.int .i64 a0_0, .int .i64 a0_1, .int .i64 a0_2, .int .i64 a0_3, .int .i64 a0_4] 47 (0, 0)) (zq BK456.out) hb) (below_step (bq1 HB.out GE456.out) hb)
   clear HO463 HO466 HO469 HO472 BK456 HB
   obtain ⟨HO463, HO466, HO469, HO472, HO475, BK456, HB⟩ := n_
   (try clear hb ho0)
   refine hK.out _ _ ⟨(blk_cell BK456.out 0).trans rfl, (blk_cell BK456.out 1).trans rfl, (blk_cell BK456.out 2).trans rfl, (blk_cell BK456.out 3).trans rfl, (blk_cell BK456.out 4).trans rfl⟩ (fun hHeld => ?_)
   clear hK K
   refine norm_ (a' := ?_) ?_ ?_
   rotate_left
   · show Act.put _ (some 16) _ = _
     simp only [Act.put, List.setIfInBounds_toArray, List.set_cons_zero, List.set_cons_succ, i64_w, i32_w]
     rfl
   refine one_ (i := 11) (N := some 19) #[true, true, true, true, true, true, true, true, true, true, true, true, false, false] rfl rfl (one_of HT_.out (by kernel_rfl)) (by decide) (fun K hK => ?_)
   refine goes_ Try.func132 (by kernel_rfl) rfl #[.int .i64 a0_2] (by rfl) rfl rfl ga ?_
   with_reducible refine (spec_PutInt.calls k a0_2 t476 _ A8.out).mono ?_
   rintro e w29 ⟨v477, rfl, ho0, hb⟩
   refine ⟨_, rfl, ?_⟩
   have n_ := ak8 (Kd.R_elder' (kqR HO463.out) (Kd.R_base ho0) hb) (Kd.R_elder' (kqR HO466.out) (Kd.R_base ho0) hb) (Kd.R_elder' (kqR HO469.out) (Kd.R_base ho0) hb) (Kd.R_elder' (kqR HO472.out) (Kd.R_base ho0) hb) (Kd.R_elder' (kqR HO475.out) (Kd.R_base ho0) hb) (Kd.R_lower (Kd.R_new' (Kd.R_new' (Kd.R_new' (Kd.R_new' (Kd.R_new' ho0 (Kd.R_lt (kqR HO463.out))) (Kd.R_lt (kqR HO466.out))) (Kd.R_lt (kqR HO469.out))) (Kd.R_lt (kqR HO472.out))) (Kd.R_lt (kqR HO475.out))) (below_size (bq1 HB.out GE456.out))) (blk_below (g := gb456) (o := .cells #[.int .i64 a0_0, .int .i64 a0_1, .int .i64 a0_2, .int .i64 a0_3, .int .i64 a0_4] 47 (0, 0)) (zq BK456.out) hb) (below_step (bq1 HB.out GE456.out) hb)
   clear HO463 HO466 HO469 HO472 HO475 BK456 HB
   obtain ⟨HO463, HO466, HO469, HO472, HO475, HO478, BK456, HB⟩ := n_
   (try clear hb ho0)
   obtain ⟨Ao30, co30, eo30⟩ := Kd.R_slice HO475.out
   (first | subst eo30 | (injection eo30 with f1_ f2_ f3_; have f4_ := f1_.symm; have f5_ := f3_.symm; clear f1_ f2_ f3_; subst f4_; subst f5_))
   obtain ⟨Ao31, co31, eo31⟩ := Kd.R_slice HO478.out
   (first | subst eo31 | (injection eo31 with f1_ f2_ f3_; have f4_ := f1_.symm; have f5_ := f3_.symm; clear f1_ f2_ f3_; subst f4_; subst f5_))
   refine hK.out _ _ ⟨(blk_cell BK456.out 0).trans rfl, (blk_cell BK456.out 1).trans rfl, (blk_cell BK456.out 2).trans rfl, (blk_cell BK456.out 3).trans rfl, (blk_cell BK456.out 4).trans rfl⟩ (fun hHeld => ?_)
   clear hK K
   refine norm_ (a' := ?_) ?_ ?_
   rotate_left
   · show Act.put _ (some 19) _ = _
     simp only [Act.put, List.setIfInBounds_toArray, List.set_cons_zero, List.set_cons_succ, i64_w, i32_w]
     rfl
   refine one_ (i := 12) (N := some 20) #[true, true, true, true, true, true, true, true, true, true, true, true, true, false] rfl rfl (one_of HT_.out (by kernel_rfl)) (by decide) (fun K hK => ?_)
   refine goes_ Try.func131 (by kernel_rfl) rfl #[.slice Ao30 t473.length co30, .int .i64 2, .slice Ao31 t476.length co31] (by rfl) rfl rfl ga ?_
   with_reducible refine (spec_PutTlv.calls k _ _ t473 2 _ _ t476 t479 _ ?side1 ?side2 ?side3 ?side4 A9.out).mono ?_
   (case side1 => repeat (first | exact (Kd.R_reads' HO475.out).2.2 | (with_reducible refine Kd.C_alloc ?_ _) | (with_reducible refine Kd.C_drewN ?_ _) | (with_reducible refine Kd.C_drew ?_)))
   (case side2 => exact (Kd.R_reads' HO475.out).2.1)
   (case side3 => repeat (first | exact (Kd.R_reads' HO478.out).2.2 | (with_reducible refine Kd.C_alloc ?_ _) | (with_reducible refine Kd.C_drewN ?_ _) | (with_reducible refine Kd.C_drew ?_)))
   (case side4 => exact (Kd.R_reads' HO478.out).2.1)
   rintro e w32 ⟨v480, rfl, ho0, hb⟩
   refine ⟨_, rfl, ?_⟩
   have n_ := ak9 (Kd.R_elder' (kqR HO463.out) (Kd.R_base ho0) hb) (Kd.R_elder' (kqR HO466.out) (Kd.R_base ho0) hb) (Kd.R_elder' (kqR HO469.out) (Kd.R_base ho0) hb) (Kd.R_elder' (kqR HO472.out) (Kd.R_base ho0) hb) (Kd.R_elder' (kqR HO475.out) (Kd.R_base ho0) hb) (Kd.R_elder' (kqR HO478.out) (Kd.R_base ho0) hb) (Kd.R_lower (Kd.R_new' (Kd.R_new' (Kd.R_new' (Kd.R_new' (Kd.R_new' (Kd.R_new' ho0 (Kd.R_lt (kqR HO463.out))) (Kd.R_lt (kqR HO466.out))) (Kd.R_lt (kqR HO469.out))) (Kd.R_lt (kqR HO472.out))) (Kd.R_lt (kqR HO475.out))) (Kd.R_lt (kqR HO478.out))) (below_size (bq1 HB.out GE456.out))) (blk_below (g := gb456) (o := .cells #[.int .i64 a0_0, .int .i64 a0_1, .int .i64 a0_2, .int .i64 a0_3, .int .i64 a0_4] 47 (0, 0)) (zq BK456.out) hb) (below_step (bq1 HB.out GE456.out) hb)
   clear HO463 HO466 HO469 HO472 HO475 HO478 BK456 HB
   obtain ⟨HO463, HO466, HO469, HO472, HO475, HO478, HO481, BK456, HB⟩ := n_
   (try clear hb ho0)
   refine hK.out _ _ ⟨(blk_cell BK456.out 0).trans rfl, (blk_cell BK456.out 1).trans rfl, (blk_cell BK456.out 2).trans rfl, (blk_cell BK456.out 3).trans rfl, (blk_cell BK456.out 4).trans rfl⟩ (fun hHeld => ?_)
   clear hK K
   refine norm_ (a' := ?_) ?_ ?_
   rotate_left
   · show Act.put _ (some 20) _ = _
     simp only [Act.put, List.setIfInBounds_toArray, List.set_cons_zero, List.set_cons_succ, i64_w, i32_w]
     rfl
   refine pure_ (i := 13) (N := some 3) (v := ?_) (a' := ?_) #[true, true, true, true, true, true, true, true, true, true, true, true, true, true] rfl rfl (any_of HT_.out (by kernel_rfl)) (fun _ _ _ h => h) (Or.inl ⟨by rfl, ?_⟩) ?_ ?_
   rotate_left
   · intro w'
     go_simp
     with_reducible rfl
   rotate_left
   · simp only [Act.put, List.setIfInBounds_toArray, List.set_cons_zero, List.set_cons_succ, i64_w, i32_w]
     rfl
   refine done_ (done_of HT_.out (by kernel_rfl)) ?_
   try go_wp2
   have n_ := ak9 (Kd.R_drew HO463.out) (Kd.R_drew HO466.out) (Kd.R_drew HO469.out) (Kd.R_drew HO472.out) (Kd.R_drew HO475.out) (Kd.R_drew HO478.out) (Kd.R_drew HO481.out) (blk_drew BK456.out) (below_drew1 HB.out)
   clear HO463 HO466 HO469 HO472 HO475 HO478 HO481 BK456 HB
   obtain ⟨HO463, HO466, HO469, HO472, HO475, HO478, HO481, BK456, HB⟩ := n_
   refine start_ (n := 10) (S := fun w' => w'.cell? ⟨gb456, 0, none⟩ = some (.int .i64 a0_0) ∧ w'.cell? ⟨gb456, 1, none⟩ = some (.int .i64 a0_1) ∧ w'.cell? ⟨gb456, 2, none⟩ = some (.int .i64 a0_2) ∧ w'.cell? ⟨gb456, 3, none⟩ = some (.int .i64 a0_3) ∧ w'.cell? ⟨gb456, 4, none⟩ = some (.int .i64 a0_4)) (ds := []) #[false, false, false, false, false, false, false, false, false, false] (by kernel_rfl) rfl rfl ⟨(blk_cell BK456.out 0).trans rfl, (blk_cell BK456.out 1).trans rfl, (blk_cell BK456.out 2).trans rfl, (blk_cell BK456.out 3).trans rfl, (blk_cell BK456.out 4).trans rfl⟩ (fun hHeld => ?_); refine with_tabW spec_PutVec.tab4 spec_PutVec.bits4 (fun HT_ HW_ => ?_)
   generalize w32.drew = w33 at HO463 HO466 HO469 HO472 HO475 HO478 HO481 BK456 HB hHeld ⊢
   refine pure_ (i := 0) (N := some 21) (v := ?_) (a' := ?_) #[true, false, false, false, false, false, false, false, false, false] rfl rfl (any_of HT_.out (by kernel_rfl)) (fun _ _ _ h => h) (Or.inl ⟨by rfl, ?_⟩) ?_ ?_
   rotate_left
   · intro w'
     go_simp
     with_reducible rfl
   rotate_left
   · simp only [Act.put, List.setIfInBounds_toArray, List.set_cons_zero, List.set_cons_succ, i64_w, i32_w]
     rfl
   refine pure_ (i := 1) (N := some 22) (v := ?_) (a' := ?_) #[true, true, false, false, false, false, false, false, false, false] rfl rfl (any_of HT_.out (by kernel_rfl)) (fun _ _ _ h => h) (Or.inl ⟨by rfl, ?_⟩) ?_ ?_
   rotate_left
   · intro w'
     go_simp
     with_reducible rfl
   rotate_left
   · simp only [Act.put, List.setIfInBounds_toArray, List.set_cons_zero, List.set_cons_succ, i64_w, i32_w]
     rfl
   refine pure_ (i := 5) (N := some 26) (v := ?_) (a' := ?_) #[true, true, false, false, false, true, false, false, false, false] rfl rfl (any_of HT_.out (by kernel_rfl)) (fun _ _ _ h => h) (Or.inl ⟨by rfl, ?_⟩) ?_ ?_
   rotate_left
   · intro w'
     go_simp
     with_reducible rfl
   rotate_left
   · simp only [Act.put, List.setIfInBounds_toArray, List.set_cons_zero, List.set_cons_succ, i64_w, i32_w]
     rfl
   refine take_ (i := 2) (N := some 23) (v := ?_) (a' := ?_) #[true, true, true, false, false, true, false, false, false, false] rfl rfl (take_ofW HT_.out HW_.out (by kernel_rfl)) (fun _ _ _ h => h) (Or.inl ⟨by rfl, ?_⟩) hHeld ?_ ?_
   rotate_left
   · rintro w' ⟨s0, s1, s2, s3, s4⟩
     go_simp
     with_reducible rfl
   rotate_left
   · simp only [Act.put, List.setIfInBounds_toArray, List.set_cons_zero, List.set_cons_succ, i64_w, i32_w]
     rfl
   refine take_ (i := 6) (N := some 27) (v := ?_) (a' := ?_) #[true, true, true, false, false, true, true, false, false, false] rfl rfl (take_ofW HT_.out HW_.out (by kernel_rfl)) (fun _ _ _ h => h) (Or.inl ⟨by rfl, ?_⟩) hHeld ?_ ?_
   rotate_left
   · rintro w' ⟨s0, s1, s2, s3, s4⟩
     go_simp
     with_reducible rfl
   rotate_left
   · simp only [Act.put, List.setIfInBounds_toArray, List.set_cons_zero, List.set_cons_succ, i64_w, i32_w]
     rfl
   refine one_ (i := 3) (N := some 24) #[true, true, true, true, false, true, true, false, false, false] rfl rfl (one_of HT_.out (by kernel_rfl)) (by decide) (fun K hK => ?_)
   refine goes_ Try.func132 (by kernel_rfl) rfl #[.int .i64 a0_3] (by rfl) rfl rfl ga ?_
   with_reducible refine (spec_PutInt.calls k a0_3 t482 _ A10.out).mono ?_
   rintro e w34 ⟨v483, rfl, ho0, hb⟩
   refine ⟨_, rfl, ?_⟩
   have n_ := ak10 (Kd.R_elder' (kqR HO463.out) (Kd.R_base ho0) hb) (Kd.R_elder' (kqR HO466.out) (Kd.R_base ho0) hb) (Kd.R_elder' (kqR HO469.out) (Kd.R_base ho0) hb) (Kd.R_elder' (kqR HO472.out) (Kd.R_base ho0) hb) (Kd.R_elder' (kqR HO475.out) (Kd.R_base ho0) hb) (Kd.R_elder' (kqR HO478.out) (Kd.R_base ho0) hb) (Kd.R_elder' (kqR HO481.out) (Kd.R_base ho0) hb) (Kd.R_lower (Kd.R_new' (Kd.R_new' (Kd.R_new' (Kd.R_new' (Kd.R_new' (Kd.R_new' (Kd.R_new' ho0 (Kd.R_lt (kqR HO463.out))) (Kd.R_lt (kqR HO466.out))) (Kd.R_lt (kqR HO469.out))) (Kd.R_lt (kqR HO472.out))) (Kd.R_lt (kqR HO475.out))) (Kd.R_lt (kqR HO478.out))) (Kd.R_lt (kqR HO481.out))) (below_size (bq1 HB.out GE456.out))) (blk_below (g := gb456) (o := .cells #[.int .i64 a0_0, .int .i64 a0_1, .int .i64 a0_2, .int .i64 a0_3, .int .i64 a0_4] 47 (0, 0)) (zq BK456.out) hb) (below_step (bq1 HB.out GE456.out) hb)
   clear HO463 HO466 HO469 HO472 HO475 HO478 HO481 BK456 HB
   obtain ⟨HO463, HO466, HO469, HO472, HO475, HO478, HO481, HO484, BK456, HB⟩ := n_
   (try clear hb ho0)
   obtain ⟨Ao35, co35, eo35⟩ := Kd.R_slice HO481.out
   (first | subst eo35 | (injection eo35 with f1_ f2_ f3_; have f4_ := f1_.symm; have f5_ := f3_.symm; clear f1_ f2_ f3_; subst f4_; subst f5_))
   obtain ⟨Ao36, co36, eo36⟩ := Kd.R_slice HO484.out
   (first | subst eo36 | (injection eo36 with f1_ f2_ f3_; have f4_ := f1_.symm; have f5_ := f3_.symm; clear f1_ f2_ f3_; subst f4_; subst f5_))
   refine hK.out _ _ ⟨(blk_cell BK456.out 0).trans rfl, (blk_cell BK456.out 1).trans rfl, (blk_cell BK456.out 2).trans rfl, (blk_cell BK456.out 3).trans rfl, (blk_cell BK456.out 4).trans rfl⟩ (fun hHeld => ?_)
   clear hK K
   refine norm_ (a' := ?_) ?_ ?_
   rotate_left
   · show Act.put _ (some 24) _ = _
     simp only [Act.put, List.setIfInBounds_toArray, List.set_cons_zero, List.set_cons_succ, i64_w, i32_w]
     rfl
   refine one_ (i := 4) (N := some 25) #[true, true, true, true, true, true, true, false, false, false] rfl rfl (one_of HT_.out (by kernel_rfl)) (by decide) (fun K hK => ?_)
   refine goes_ Try.func131 (by kernel_rfl) rfl #[.slice Ao35 t479.length co35, .int .i64 2, .slice Ao36 t482.length co36] (by rfl) rfl rfl ga ?_
   with_reducible refine (spec_PutTlv.calls k _ _ t479 2 _ _ t482 t485 _ ?side1 ?side2 ?side3 ?side4 A11.out).mono ?_
   (case side1 => repeat (first | exact (Kd.R_reads' HO481.out).2.2 | (with_reducible refine Kd.C_alloc ?_ _) | (with_reducible refine Kd.C_drewN ?_ _) | (with_reducible refine Kd.C_drew ?_)))
   (case side2 => exact (Kd.R_reads' HO481.out).2.1)
   (case side3 => repeat (first | exact (Kd.R_reads' HO484.out).2.2 | (with_reducible refine Kd.C_alloc ?_ _) | (with_reducible refine Kd.C_drewN ?_ _) | (with_reducible refine Kd.C_drew ?_)))
   (case side4 => exact (Kd.R_reads' HO484.out).2.1)
   rintro e w37 ⟨v486, rfl, ho0, hb⟩
   refine ⟨_, rfl, ?_⟩
   have n_ := ak11 (Kd.R_elder' (kqR HO463.out) (Kd.R_base ho0) hb) (Kd.R_elder' (kqR HO466.out) (Kd.R_base ho0) hb) (Kd.R_elder' (kqR HO469.out) (Kd.R_base ho0) hb) (Kd.R_elder' (kqR HO472.out) (Kd.R_base ho0) hb) (Kd.R_elder' (kqR HO475.out) (Kd.R_base ho0) hb) (Kd.R_elder' (kqR HO478.out) (Kd.R_base ho0) hb) (Kd.R_elder' (kqR HO481.out) (Kd.R_base ho0) hb) (Kd.R_elder' (kqR HO484.out) (Kd.R_base ho0) hb) (Kd.R_lower (Kd.R_new' (Kd.R_new' (Kd.R_new' (Kd.R_new' (Kd.R_new' (Kd.R_new' (Kd.R_new' (Kd.R_new' ho0 (Kd.R_lt (kqR HO463.out))) (Kd.R_lt (kqR HO466.out))) (Kd.R_lt (kqR HO469.out))) (Kd.R_lt (kqR HO472.out))) (Kd.R_lt (kqR HO475.out))) (Kd.R_lt (kqR HO478.out))) (Kd.R_lt (kqR HO481.out))) (Kd.R_lt (kqR HO484.out))) (below_size (bq1 HB.out GE456.out))) (blk_below (g := gb456) (o := .cells #[.int .i64 a0_0, .int .i64 a0_1, .int .i64 a0_2, .int .i64 a0_3, .int .i64 a0_4] 47 (0, 0)) (zq BK456.out) hb) (below_step (bq1 HB.out GE456.out) hb)
   clear HO463 HO466 HO469 HO472 HO475 HO478 HO481 HO484 BK456 HB
   obtain ⟨HO463, HO466, HO469, HO472, HO475, HO478, HO481, HO484, HO487, BK456, HB⟩ := n_
   (try clear hb ho0)
   refine hK.out _ _ ⟨(blk_cell BK456.out 0).trans rfl, (blk_cell BK456.out 1).trans rfl, (blk_cell BK456.out 2).trans rfl, (blk_cell BK456.out 3).trans rfl, (blk_cell BK456.out 4).trans rfl⟩ (fun hHeld => ?_)
   clear hK K
   refine norm_ (a' := ?_) ?_ ?_
   rotate_left
   · show Act.put _ (some 25) _ = _
     simp only [Act.put, List.setIfInBounds_toArray, List.set_cons_zero, List.set_cons_succ, i64_w, i32_w]
     rfl
   refine one_ (i := 7) (N := some 28) #[true, true, true, true, true, true, true, true, false, false] rfl rfl (one_of HT_.out (by kernel_rfl)) (by decide) (fun K hK => ?_)
   refine goes_ Try.func132 (by kernel_rfl) rfl #[.int .i64 a0_4] (by rfl) rfl rfl ga ?_
   with_reducible refine (spec_PutInt.calls k a0_4 t488 _ A12.out).mono ?_
   rintro e w38 ⟨v489, rfl, ho0, hb⟩
   refine ⟨_, rfl, ?_⟩
   have n_ := ak12 (Kd.R_elder' (kqR HO463.out) (Kd.R_base ho0) hb) (Kd.R_elder' (kqR HO466.out) (Kd.R_base ho0) hb) (Kd.R_elder' (kqR HO469.out) (Kd.R_base ho0) hb) (Kd.R_elder' (kqR HO472.out) (Kd.R_base ho0) hb) (Kd.R_elder' (kqR HO475.out) (Kd.R_base ho0) hb) (Kd.R_elder' (kqR HO478.out) (Kd.R_base ho0) hb) (Kd.R_elder' (kqR HO481.out) (Kd.R_base ho0) hb) (Kd.R_elder' (kqR HO484.out) (Kd.R_base ho0) hb) (Kd.R_elder' (kqR HO487.out) (Kd.R_base ho0) hb) (Kd.R_lower (Kd.R_new' (Kd.R_new' (Kd.R_new' (Kd.R_new' (Kd.R_new' (Kd.R_new' (Kd.R_new' (Kd.R_new' (Kd.R_new' ho0 (Kd.R_lt (kqR HO463.out))) (Kd.R_lt (kqR HO466.out))) (Kd.R_lt (kqR HO469.out))) (Kd.R_lt (kqR HO472.out))) (Kd.R_lt (kqR HO475.out))) (Kd.R_lt (kqR HO478.out))) (Kd.R_lt (kqR HO481.out))) (Kd.R_lt (kqR HO484.out))) (Kd.R_lt (kqR HO487.out))) (below_size (bq1 HB.out GE456.out))) (blk_below (g := gb456) (o := .cells #[.int .i64 a0_0, .int .i64 a0_1, .int .i64 a0_2, .int .i64 a0_3, .int .i64 a0_4] 47 (0, 0)) (zq BK456.out) hb) (below_step (bq1 HB.out GE456.out) hb)
   clear HO463 HO466 HO469 HO472 HO475 HO478 HO481 HO484 HO487 BK456 HB
   obtain ⟨HO463, HO466, HO469, HO472, HO475, HO478, HO481, HO484, HO487, HO490, BK456, HB⟩ := n_
   (try clear hb ho0)
   obtain ⟨Ao39, co39, eo39⟩ := Kd.R_slice HO487.out
   (first | subst eo39 | (injection eo39 with f1_ f2_ f3_; have f4_ := f1_.symm; have f5_ := f3_.symm; clear f1_ f2_ f3_; subst f4_; subst f5_))
   obtain ⟨Ao40, co40, eo40⟩ := Kd.R_slice HO490.out
   (first | subst eo40 | (injection eo40 with f1_ f2_ f3_; have f4_ := f1_.symm; have f5_ := f3_.symm; clear f1_ f2_ f3_; subst f4_; subst f5_))
   refine hK.out _ _ ⟨(blk_cell BK456.out 0).trans rfl, (blk_cell BK456.out 1).trans rfl, (blk_cell BK456.out 2).trans rfl, (blk_cell BK456.out 3).trans rfl, (blk_cell BK456.out 4).trans rfl⟩ (fun hHeld => ?_)
   clear hK K
   refine norm_ (a' := ?_) ?_ ?_
   rotate_left
   · show Act.put _ (some 28) _ = _
     simp only [Act.put, List.setIfInBounds_toArray, List.set_cons_zero, List.set_cons_succ, i64_w, i32_w]
     rfl
   refine one_ (i := 8) (N := some 29) #[true, true, true, true, true, true, true, true, true, false] rfl rfl (one_of HT_.out (by kernel_rfl)) (by decide) (fun K hK => ?_)
   refine goes_ Try.func131 (by kernel_rfl) rfl #[.slice Ao39 t485.length co39, .int .i64 2, .slice Ao40 t488.length co40] (by rfl) rfl rfl ga ?_
   with_reducible refine (spec_PutTlv.calls k _ _ t485 2 _ _ t488 t491 _ ?side1 ?side2 ?side3 ?side4 A13.out).mono ?_
   (case side1 => repeat (first | exact (Kd.R_reads' HO487.out).2.2 | (with_reducible refine Kd.C_alloc ?_ _) | (with_reducible refine Kd.C_drewN ?_ _) | (with_reducible refine Kd.C_drew ?_)))
   (case side2 => exact (Kd.R_reads' HO487.out).2.1)
   (case side3 => repeat (first | exact (Kd.R_reads' HO490.out).2.2 | (with_reducible refine Kd.C_alloc ?_ _) | (with_reducible refine Kd.C_drewN ?_ _) | (with_reducible refine Kd.C_drew ?_)))
   (case side4 => exact (Kd.R_reads' HO490.out).2.1)
   rintro e w41 ⟨v492, rfl, ho0, hb⟩
   refine ⟨_, rfl, ?_⟩
   have n_ := ak13 (Kd.R_elder' (kqR HO463.out) (Kd.R_base ho0) hb) (Kd.R_elder' (kqR HO466.out) (Kd.R_base ho0) hb) (Kd.R_elder' (kqR HO469.out) (Kd.R_base ho0) hb) (Kd.R_elder' (kqR HO472.out) (Kd.R_base ho0) hb) (Kd.R_elder' (kqR HO475.out) (Kd.R_base ho0) hb) (Kd.R_elder' (kqR HO478.out) (Kd.R_base ho0) hb) (Kd.R_elder' (kqR HO481.out) (Kd.R_base ho0) hb) (Kd.R_elder' (kqR HO484.out) (Kd.R_base ho0) hb) (Kd.R_elder' (kqR HO487.out) (Kd.R_base ho0) hb) (Kd.R_elder' (kqR HO490.out) (Kd.R_base ho0) hb) (Kd.R_lower (Kd.R_new' (Kd.R_new' (Kd.R_new' (Kd.R_new' (Kd.R_new' (Kd.R_new' (Kd.R_new' (Kd.R_new' (Kd.R_new' (Kd.R_new' ho0 (Kd.R_lt (kqR HO463.out))) (Kd.R_lt (kqR HO466.out))) (Kd.R_lt (kqR HO469.out))) (Kd.R_lt (kqR HO472.out))) (Kd.R_lt (kqR HO475.out))) (Kd.R_lt (kqR HO478.out))) (Kd.R_lt (kqR HO481.out))) (Kd.R_lt (kqR HO484.out))) (Kd.R_lt (kqR HO487.out))) (Kd.R_lt (kqR HO490.out))) (below_size (bq1 HB.out GE456.out))) (blk_below (g := gb456) (o := .cells #[.int .i64 a0_0, .int .i64 a0_1, .int .i64 a0_2, .int .i64 a0_3, .int .i64 a0_4] 47 (0, 0)) (zq BK456.out) hb) (below_step (bq1 HB.out GE456.out) hb)
   clear HO463 HO466 HO469 HO472 HO475 HO478 HO481 HO484 HO487 HO490 BK456 HB
   obtain ⟨HO463, HO466, HO469, HO472, HO475, HO478, HO481, HO484, HO487, HO490, HO493, BK456, HB⟩ := n_
   (try clear hb ho0)
   refine hK.out _ _ ⟨(blk_cell BK456.out 0).trans rfl, (blk_cell BK456.out 1).trans rfl, (blk_cell BK456.out 2).trans rfl, (blk_cell BK456.out 3).trans rfl, (blk_cell BK456.out 4).trans rfl⟩ (fun hHeld => ?_)
   clear hK K
   refine norm_ (a' := ?_) ?_ ?_
   rotate_left
   · show Act.put _ (some 29) _ = _
     simp only [Act.put, List.setIfInBounds_toArray, List.set_cons_zero, List.set_cons_succ, i64_w, i32_w]
     rfl
   refine pure_ (i := 9) (N := some 2) (v := ?_) (a' := ?_) #[true, true, true, true, true, true, true, true, true, true] rfl rfl (any_of HT_.out (by kernel_rfl)) (fun _ _ _ h => h) (Or.inl ⟨by rfl, ?_⟩) ?_ ?_
   rotate_left
   · intro w'
     go_simp
     with_reducible rfl
   rotate_left
   · simp only [Act.put, List.setIfInBounds_toArray, List.set_cons_zero, List.set_cons_succ, i64_w, i32_w]
     rfl
   refine done_ (done_of HT_.out (by kernel_rfl)) ?_
   try go_wp2
   go_ret
   exact ⟨_, rq, by (with_reducible repeat (first | apply Kd.R_alloc | apply Kd.R_drewN | apply Kd.R_drew)); exact Kd.R_mono HO493.out (fun _ hk => trivial), bq1 HB.out GE456.out⟩
 replace c3 := Bool.eq_false_iff.mpr c3
 subst c3
 have H1 : (some (([] : List Int))) = some r := by rw [if_neg (show ¬ (false = true) by decide)] at H; exact H
 clear H
 have H := H1
 clear H1
 obtain ⟨y458, hy458⟩ : ∃ y_ : List Int, y_ = (([] : List Int)) := ⟨_, rfl⟩
 replace H : (some y458) = some r := by first | (rw [hy458]; with_reducible exact H) | (have H2_ := (Option.bind_some _ _).symm.trans H; rw [hy458]; with_reducible exact H2_) | (have H2_ := (Option.bind_some _ _).symm.trans H; with_reducible exact H2_) | with_reducible exact H | (rw [hy458]; exact H) | exact H
 have Ny458 := am hy458
 clear hy458
 obtain rfl := Option.some.inj H
 go_enter Try.func116, Try.ntmps116
 go_wp2_with (first | ((with_reducible refine gate_dst (N := 1) rfl ?_); refine box_event ?hg (N := 1) ?hd (cs := #[.int .i64 a0_0, .int .i64 a0_1, .int .i64 a0_2, .int .i64 a0_3, .int .i64 a0_4]) (t := 47) ?hr ?_; (case hd => rfl); (case hg => rfl); (case hr => exact gs); intro gb456 hg w42 hbox hb; have n_ := ak4 (below_step (bq HB.out) hb) hbox ((by rw [hg]; exact (below_size (bq HB.out)) : w.heap.size ≤ gb456)) ((by rw [hg]; exact (below_size (bq HB.out)) : w.heap.size ≤ gb456)); clear HB; obtain ⟨HB, BK456, GW456, GE456⟩ := n_; clear hb hbox hg; have hcz43_0 : w42.cell? ⟨gb456, 0, none⟩ = some (.int .i64 a0_0) := (blk_cell BK456.out 0).trans rfl; have hcz43_1 : w42.cell? ⟨gb456, 1, none⟩ = some (.int .i64 a0_1) := (blk_cell BK456.out 1).trans rfl; have hcz43_2 : w42.cell? ⟨gb456, 2, none⟩ = some (.int .i64 a0_2) := (blk_cell BK456.out 2).trans rfl; have hcz43_3 : w42.cell? ⟨gb456, 3, none⟩ = some (.int .i64 a0_3) := (blk_cell BK456.out 3).trans rfl; have hcz43_4 : w42.cell? ⟨gb456, 4, none⟩ = some (.int .i64 a0_4) := (blk_cell BK456.out 4).trans rfl; have hfz43_0 := blk_frozen BK456.out 0; have hfz43_1 := blk_frozen BK456.out 1; have hfz43_2 := blk_frozen BK456.out 2; have hfz43_3 := blk_frozen BK456.out 3; have hfz43_4 := blk_frozen BK456.out 4) | ((with_reducible refine gate_callee (f := 67) rfl ?_); refine goesL_ (some 5) rfl rfl Try.func67 (by kernel_rfl) rfl #[.agg #[.int .i64 a0_0, .int .i64 a0_1, .int .i64 a0_2, .int .i64 a0_3, .int .i64 a0_4]] rfl ga ?_; (with_reducible refine (spec_VecOk.calls a0_0 a0_1 a0_2 a0_3 a0_4 false _ A2.out).mono ?_); rintro e w44 ⟨rfl, hb⟩; refine ⟨_, rfl, ?_⟩; have n_ := ak2 (blk_below (g := gb456) (o := .cells #[.int .i64 a0_0, .int .i64 a0_1, .int .i64 a0_2, .int .i64 a0_3, .int .i64 a0_4] 47 (0, 0)) (zq BK456.out) hb) (below_step (bq1 HB.out GE456.out) hb); clear BK456 HB; obtain ⟨BK456, HB⟩ := n_; (try clear hb)) | ((with_reducible refine gate_dst (N := 7) rfl ?_); refine Kd.R_lit (Kd.int .u8) _ 5 ?hg (N := 7) ?hd (xs := ([] : List Int)) (inner := []) (ok := fun _ => True) (okp := fun _ => True) ?hr ?hp (fun _ hk => hk) trivial (Below.refl _ _) (Nat.le_refl _) (by simp) ?_; (case hd => rfl); (case hg => rfl); (case hr => exact gs); (case hp => exact (Reps.none _ _)); intro v459 w45 ho46 hb hg_ hnew_; clear hg_ hnew_; (first | rw [← Ny458.out] at ho46 | (simp only [Int.reduceToNat] at ho46; rw [← Ny458.out] at ho46)); have n_ := ak3 (Kd.R_lower ho46 (below_size (bq1 HB.out GE456.out))) (blk_below (g := gb456) (o := .cells #[.int .i64 a0_0, .int .i64 a0_1, .int .i64 a0_2, .int .i64 a0_3, .int .i64 a0_4] 47 (0, 0)) (zq BK456.out) hb) (below_step (bq1 HB.out GE456.out) hb); clear BK456 HB; obtain ⟨HO460, BK456, HB⟩ := n_; clear hb ho46))
 go_ret
 exact ⟨_, rq, kqR HO460.out, bq1 HB.out GE456.out⟩

/-! ### spec_DrawGetVec: function 64 -/
def spec_DrawGetVec.f (k : Nat) (l0 : List Int) : Option (List Int) := (spec_l1New.f k l0).bind fun bt494 => ((spec_l7Draw.f bt494.1 bt494.2.1 bt494.2.2).bind fun bt498 => ((spec_PutVec.f k bt498.1 bt498.2.1 bt498.2.2.1 bt498.2.2.2.1 bt498.2.2.2.2.1).bind fun t505 => ((spec_l1Bend.f bt494.1 bt498.2.2.2.2.2.1 bt498.2.2.2.2.2.2 t505).bind fun bt508 => (some bt508.1))))
theorem spec_DrawGetVec.mono : ∀ a0 k, LeO (spec_DrawGetVec.f k a0) (spec_DrawGetVec.f (k + 1) a0) := by
 intro a0 k
 unfold spec_DrawGetVec.f
 repeat' first
  | (with_reducible exact spec_PutVec.mono _ _ _ _ _ _)
  | (with_reducible exact spec_l1New.mono _ _)
  | (with_reducible exact LeO.refl _)
  | (with_reducible exact LeO.none _)
  | (with_reducible refine LeO.ite ?_ ?_)
  | (with_reducible refine LeO.bind ?_ (fun _ => ?_))
  | exact spec_PutVec.mono _ _ _ _ _ _
  | exact spec_l1New.mono _ _
  | exact LeO.none _
  | refine LeO.ite ?_ ?_
  | refine LeO.bind ?_ (fun _ => ?_)
set_option maxHeartbeats 8000000 in
set_option maxRecDepth 100000 in
theorem spec_DrawGetVec.calls (k : Nat) (A0 : Option Addr) (c0 : Nat) (l0 : List Int) (r : List Int) (w : World) (hr0 : Kd.C (Kd.int .u8) w A0 l0.length l0) (hc0 : l0.length ≤ c0) (h : spec_DrawGetVec.f k l0 = some r) :
 Calls Try.prog 64 #[.slice A0 l0.length c0] w fun e w' => ∃ v0_ : Value, e = .returned (v0_) ∧ Kd.R (Kd.int .u8) 5 w' w.heap.size (fun _ => True) v0_ r ∧ Below w.heap.size w w' := by
 have HR0 := am hr0
 have HC0 := am hc0
 clear hr0 hc0
 have HB := am (Below.refl w.heap.size w)
 have H : ((spec_l1New.f k l0).bind fun bt494 => ((spec_l7Draw.f bt494.1 bt494.2.1 bt494.2.2).bind fun bt498 => ((spec_PutVec.f k bt498.1 bt498.2.1 bt498.2.2.1 bt498.2.2.2.1 bt498.2.2.2.2.1).bind fun t505 => ((spec_l1Bend.f bt494.1 bt498.2.2.2.2.2.1 bt498.2.2.2.2.2.2 t505).bind fun bt508 => (some bt508.1))))) = some r := h
 clear h
 replace H := Option.bind_eq_some_iff.mp H
 obtain ⟨⟨t494, t495, t496⟩, A20, H⟩ := H
 replace H : ((spec_l7Draw.f t494 t495 t496).bind fun bt498 => ((spec_PutVec.f k bt498.1 bt498.2.1 bt498.2.2.1 bt498.2.2.2.1 bt498.2.2.2.2.1).bind fun t505 => ((spec_l1Bend.f t494 bt498.2.2.2.2.2.1 bt498.2.2.2.2.2.2 t505).bind fun bt508 => (some bt508.1)))) = some r := H
 have A2 := am A20
 clear A20
 replace H := Option.bind_eq_some_iff.mp H
 obtain ⟨⟨t498, t499, t500, t501, t502, t503, t504⟩, A30, H⟩ := H
 replace H : ((spec_PutVec.f k t498 t499 t500 t501 t502).bind fun t505 => ((spec_l1Bend.f t494 t503 t504 t505).bind fun bt508 => (some bt508.1))) = some r := H
 have A3 := am A30
 clear A30
 replace H := Option.bind_eq_some_iff.mp H
 obtain ⟨t505, A40, H⟩ := H
 replace H : ((spec_l1Bend.f t494 t503 t504 t505).bind fun bt508 => (some bt508.1)) = some r := H
 have A4 := am A40
 clear A40
 replace H := Option.bind_eq_some_iff.mp H
 obtain ⟨⟨t508, t511, t512⟩, A50, H⟩ := H
 replace H : (some t508) = some r := H
 have A5 := am A50
 clear A50
 obtain rfl := Option.some.inj H
 go_enter Try.func64, Try.ntmps64
 go_wp2_with (first | ((with_reducible refine gate_callee (f := 84) rfl ?_); refine goesL_ (some 5) rfl rfl Try.func84 (by kernel_rfl) rfl #[.slice A0 l0.length c0] rfl ga ?_; (with_reducible refine (spec_l1New.calls k _ _ l0 t494 t495 t496 w _ ?side1 ?side2 ?side3 A2.out).mono ?_); (case side1 => exact bq HB.out); (case side2 => exact HR0.out); (case side3 => exact HC0.out); rintro e w6 ⟨g497, rfl, hi, hb, hb2⟩; refine ⟨_, rfl, ?_⟩; have n_ := ak2 hb hi; clear HB; obtain ⟨HB, HI497⟩ := n_; (try clear hb hb2 hi)) | ((with_reducible refine gate_callee (f := 117) rfl ?_); refine goesL_ (some 8) rfl rfl Try.func117 (by kernel_rfl) rfl #[.pointer (some ⟨g497, 0, none⟩)] rfl ga ?_; (with_reducible refine (spec_l7Draw.calls g497 t494 t495 t496 t498 t499 t500 t501 t502 t503 t504 w _ ?side1 ?side2 A3.out).mono ?_); (case side1 => exact IsS133.q0 HI497.out); (case side2 => exact bq1 HB.out (IsS133.ge HI497.out)); rintro e w7 ⟨rfl, hi, hb, hk⟩; refine ⟨_, rfl, ?_⟩; have n_ := ak2 hb hi; clear HB HI497; obtain ⟨HB, HI497⟩ := n_; (try clear hb hk hi)) | ((with_reducible refine gate_callee (f := 116) rfl ?_); refine goesL_ (some 9) rfl rfl Try.func116 (by kernel_rfl) rfl #[.agg #[.int .i64 t498, .int .i64 t499, .int .i64 t500, .int .i64 t501, .int .i64 t502]] rfl ga ?_; (with_reducible refine (spec_PutVec.calls k t498 t499 t500 t501 t502 t505 _ A4.out).mono ?_); rintro e w8 ⟨v506, rfl, ho0, hb⟩; refine ⟨_, rfl, ?_⟩; have n_ := ak3 (Kd.R_lower ho0 (below_size (bq1 HB.out (IsS133.ge HI497.out)))) (IsS133.below (IsS133.q0 HI497.out) hb) (below_step (bq1 HB.out (IsS133.ge HI497.out)) hb); clear HI497 HB; obtain ⟨HO507, HI497, HB⟩ := n_; (try clear hb ho0); obtain ⟨Ao9, co9, eo9⟩ := Kd.R_slice HO507.out; subst eo9) | ((with_reducible refine gate_callee (f := 115) rfl ?_); refine goesL_ (some 10) rfl rfl Try.func115 (by kernel_rfl) rfl #[.pointer (some ⟨g497, 0, none⟩), .slice Ao9 t505.length co9] rfl ga ?_; (with_reducible refine (spec_l1Bend.calls g497 t494 t503 t504 (fun k_ => some k_ = (.slice Ao9 t505.length co9 : Value).ownBlock) (.slice Ao9 t505.length co9) t505 t508 t511 t512 w _ ?side1 ?side2 ?side3 A5.out).mono ?_); (case side1 => exact IsS133.q0 HI497.out); (case side2 => exact bq1 HB.out (IsS133.ge HI497.out)); (case side3 => exact Kd.R_tight rfl HO507.out); rintro e w10 ⟨v509, rfl, ho0, hi, hb, hkp⟩; refine ⟨_, rfl, ?_⟩; have n_ := ak3 hi (Kd.R_mono (ok' := fun k_ => True) ho0 (fun k_ hk_ => trivial)) hb; clear HI497 HB HO507; obtain ⟨HI497, HO510, HB⟩ := n_; (try clear hb hkp ho0)))
 go_ret
 exact ⟨_, rq, kqR HO510.out, bq1 HB.out (IsS133.ge HI497.out)⟩

end Go.Proofs.Ytebffdmkfkfoaaa.XFnVecs
