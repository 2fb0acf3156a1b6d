/- The functions that one law reaches, as Lean functions, with their walks: printed by a program of this seat (wip/tools) out of the translation. -/
import Derived.Test.YtebffdmkfkfoaaaXFnFdbsBentx0
import Derived.Test.YtebffdmkfkfoaaaXFnFdbsBentx2
import Derived.Test.YtebffdmkfkfoaaaXFnFdbsBentx12
import Derived.Test.YtebffdmkfkfoaaaXFnFdbsBentx13
namespace Go.Proofs.Ytebffdmkfkfoaaa.XFnFdbsBent
open Go.RowKit Go.Proofs.YtebffdmkfkfoaaaW.PrintWords Go.Proofs.YtebffdmkfkfoaaaW.PrintLast Go.Proofs.YtebffdmkfkfoaaaW.PrintMore
attribute [local go_sem] max2_int min2_int max_two min_two max_three min_three max_four min_four   -- for this text's walks alone
set_option linter.unusedVariables false
set_option linter.unusedSimpArgs false

/-! ### spec_DrawLookUp: function 111 -/
def spec_DrawLookUp.f (k : Nat) (l0 : List Int) : Option ((List (S44)) × Int × Int) := (spec_l1New.f k l0).bind fun bt438 => ((spec_l8Any.f k bt438.1 bt438.2.1 bt438.2.2).bind fun bt442 => ((spec_l1Below.f bt438.1 bt442.2.1 bt442.2.2 3).bind fun bt447 => ((spec_l6Mac.f bt438.1 bt447.2.1 bt447.2.2).bind fun bt450 => (some (bt442.1, wrap64 (1 + bt447.1), bt450.1)))))
theorem spec_DrawLookUp.mono : ∀ a0 k, LeO (spec_DrawLookUp.f k a0) (spec_DrawLookUp.f (k + 1) a0) := by
 intro a0 k
 unfold spec_DrawLookUp.f
 repeat' first
  | (with_reducible exact spec_l1New.mono _ _)
  | (with_reducible exact spec_l8Any.mono _ _ _ _)
  | (with_reducible exact LeO.refl _)
  | (with_reducible exact LeO.none _)
  | (with_reducible refine LeO.ite ?_ ?_)
  | (with_reducible refine LeO.bind ?_ (fun _ => ?_))
  | exact spec_l1New.mono _ _
  | exact spec_l8Any.mono _ _ _ _
  | exact LeO.none _
  | refine LeO.ite ?_ ?_
  | refine LeO.bind ?_ (fun _ => ?_)
set_option maxHeartbeats 8000000 in
set_option maxRecDepth 100000 in
theorem spec_DrawLookUp.calls (k : Nat) (A0 : Option Addr) (c0 : Nat) (l0 : List Int) (r1 : List (S44)) (r2 : Int) (r3 : Int) (w : World) (hr0 : Kd.C (Kd.int .u8) w A0 l0.length l0) (hc0 : l0.length ≤ c0) (h : spec_DrawLookUp.f k l0 = some (r1, r2, r3)) :
 Calls Try.prog 111 #[.slice A0 l0.length c0] w fun e w' => ∃ v0_ : Value, e = .returned (.tuple #[v0_, .int .i64 r2, .int .i64 r3]) ∧ Kd.R k44 44 w' w.heap.size (fun _ => True) v0_ r1 ∧ Below w.heap.size w w' := by
 have HR0 := am hr0
 have HC0 := am hc0
 clear hr0 hc0
 have HB := am (Below.refl w.heap.size w)
 have H : ((spec_l1New.f k l0).bind fun bt438 => ((spec_l8Any.f k bt438.1 bt438.2.1 bt438.2.2).bind fun bt442 => ((spec_l1Below.f bt438.1 bt442.2.1 bt442.2.2 3).bind fun bt447 => ((spec_l6Mac.f bt438.1 bt447.2.1 bt447.2.2).bind fun bt450 => (some (bt442.1, wrap64 (1 + bt447.1), bt450.1)))))) = some (r1, r2, r3) := h
 clear h
 replace H := Option.bind_eq_some_iff.mp H
 obtain ⟨⟨t438, t439, t440⟩, A20, H⟩ := H
 replace H : ((spec_l8Any.f k t438 t439 t440).bind fun bt442 => ((spec_l1Below.f t438 bt442.2.1 bt442.2.2 3).bind fun bt447 => ((spec_l6Mac.f t438 bt447.2.1 bt447.2.2).bind fun bt450 => (some (bt442.1, wrap64 (1 + bt447.1), bt450.1))))) = some (r1, r2, r3) := H
 have A2 := am A20
 clear A20
 replace H := Option.bind_eq_some_iff.mp H
 obtain ⟨⟨t442, t445, t446⟩, A30, H⟩ := H
 replace H : ((spec_l1Below.f t438 t445 t446 3).bind fun bt447 => ((spec_l6Mac.f t438 bt447.2.1 bt447.2.2).bind fun bt450 => (some (t442, wrap64 (1 + bt447.1), bt450.1)))) = some (r1, r2, r3) := H
 have A3 := am A30
 clear A30
 replace H := Option.bind_eq_some_iff.mp H
 obtain ⟨⟨t447, t448, t449⟩, A40, H⟩ := H
 replace H : ((spec_l6Mac.f t438 t448 t449).bind fun bt450 => (some (t442, wrap64 (1 + t447), bt450.1))) = some (r1, r2, r3) := H
 have A4 := am A40
 clear A40
 replace H := Option.bind_eq_some_iff.mp H
 obtain ⟨⟨t450, t451, t452⟩, A50, H⟩ := H
 replace H : (some (t442, wrap64 (1 + t447), t450)) = some (r1, r2, r3) := H
 have A5 := am A50
 clear A50
 simp only [Option.some.injEq, Prod.mk.injEq] at H
 obtain ⟨rfl, rfl, rfl⟩ := H
 go_enter Try.func111, Try.ntmps111
 go_wp2_with (first | ((with_reducible refine gate_callee (f := 84) rfl ?_); refine goesL_ (some 7) rfl rfl Try.func84 (by kernel_rfl) rfl #[.slice A0 l0.length c0] rfl ga ?_; (with_reducible refine (spec_l1New.calls k _ _ l0 t438 t439 t440 w _ ?side1 ?side2 ?side3 A2.out).mono ?_); (case side1 => exact bq HB.out); (case side2 => exact HR0.out); (case side3 => exact HC0.out); rintro e w6 ⟨g441, rfl, hi, hb, hb2⟩; refine ⟨_, rfl, ?_⟩; have n_ := ak2 hb hi; clear HB; obtain ⟨HB, HI441⟩ := n_; (try clear hb hb2 hi)) | ((with_reducible refine gate_callee (f := 109) rfl ?_); refine goesL_ (some 9) rfl rfl Try.func109 (by kernel_rfl) rfl #[.pointer (some ⟨g441, 0, none⟩)] rfl ga ?_; (with_reducible refine (spec_l8Any.calls k g441 t438 t439 t440 t442 t445 t446 w _ ?side1 ?side2 A3.out).mono ?_); (case side1 => exact IsS133.q0 HI441.out); (case side2 => exact bq1 HB.out (IsS133.ge HI441.out)); rintro e w7 ⟨v443, rfl, ho0, hi, hb, hk⟩; refine ⟨_, rfl, ?_⟩; have n_ := ak3 (Kd.R_lower ho0 (below_size (bq1 HB.out (IsS133.ge HI441.out)))) hb hi; clear HB HI441; obtain ⟨HO444, HB, HI441⟩ := n_; (try clear hb hk hi ho0)) | ((with_reducible refine gate_callee (f := 86) rfl ?_); refine goesL_ (some 11) rfl rfl Try.func86 (by kernel_rfl) rfl #[.pointer (some ⟨g441, 0, none⟩), .int .i64 3] rfl ga ?_; (with_reducible refine (spec_l1Below.calls g441 t438 t445 t446 3 t447 t448 t449 w _ ?side1 ?side2 A4.out).mono ?_); (case side1 => exact IsS133.q0 HI441.out); (case side2 => exact bq1 HB.out (IsS133.ge HI441.out)); rintro e w8 ⟨rfl, hi, hb, hk⟩; refine ⟨_, rfl, ?_⟩; have n_ := ak3 (Kd.R_mono (Kd.R_keep (IsS133.apart (show IsS133 w _ g441 t438 t445 t446 from IsS133.q0 HI441.out) (kqR HO444.out) (by decide)) hk (fun _ h => h.2)) (fun _ h => h.1)) hb hi; clear HO444 HB HI441; obtain ⟨HO444, HB, HI441⟩ := n_; (try clear hb hk hi)) | ((with_reducible refine gate_callee (f := 87) rfl ?_); refine goesL_ (some 14) rfl rfl Try.func87 (by kernel_rfl) rfl #[.pointer (some ⟨g441, 0, none⟩)] rfl ga ?_; (with_reducible refine (spec_l6Mac.calls g441 t438 t448 t449 t450 t451 t452 w _ ?side1 ?side2 A5.out).mono ?_); (case side1 => exact IsS133.q0 HI441.out); (case side2 => exact bq1 HB.out (IsS133.ge HI441.out)); rintro e w9 ⟨rfl, hi, hb, hk⟩; refine ⟨_, rfl, ?_⟩; have n_ := ak3 (Kd.R_mono (Kd.R_keep (IsS133.apart (show IsS133 w _ g441 t438 t448 t449 from IsS133.q0 HI441.out) (kqR HO444.out) (by decide)) hk (fun _ h => h.2)) (fun _ h => h.1)) hb hi; clear HO444 HB HI441; obtain ⟨HO444, HB, HI441⟩ := n_; (try clear hb hk hi)))
 go_ret3
 exact ⟨_, rq, kqR HO444.out, bq1 HB.out (IsS133.ge HI441.out)⟩

/-! ### spec_DrawDropStatic: function 55 -/
def spec_DrawDropStatic.f (k : Nat) (l0 : List Int) : Option ((List (S44)) × Int × Int) := (spec_DrawLookUp.f k l0).bind fun bt453 => (some (bt453.1, bt453.2.1, bt453.2.2))
theorem spec_DrawDropStatic.mono : ∀ a0 k, LeO (spec_DrawDropStatic.f k a0) (spec_DrawDropStatic.f (k + 1) a0) := by
 intro a0 k
 unfold spec_DrawDropStatic.f
 repeat' first
  | (with_reducible exact spec_DrawLookUp.mono _ _)
  | (with_reducible exact LeO.refl _)
  | (with_reducible exact LeO.none _)
  | (with_reducible refine LeO.ite ?_ ?_)
  | (with_reducible refine LeO.bind ?_ (fun _ => ?_))
  | exact spec_DrawLookUp.mono _ _
  | exact LeO.none _
  | refine LeO.ite ?_ ?_
  | refine LeO.bind ?_ (fun _ => ?_)
set_option maxHeartbeats 8000000 in
set_option maxRecDepth 100000 in
theorem spec_DrawDropStatic.calls (k : Nat) (A0 : Option Addr) (c0 : Nat) (l0 : List Int) (r1 : List (S44)) (r2 : Int) (r3 : Int) (w : World) (hr0 : Kd.C (Kd.int .u8) w A0 l0.length l0) (hc0 : l0.length ≤ c0) (h : spec_DrawDropStatic.f k l0 = some (r1, r2, r3)) :
 Calls Try.prog 55 #[.slice A0 l0.length c0] w fun e w' => ∃ v0_ : Value, e = .returned (.tuple #[v0_, .int .i64 r2, .int .i64 r3]) ∧ Kd.R k44 44 w' w.heap.size (fun _ => True) v0_ r1 ∧ Below w.heap.size w w' := by
 have HR0 := am hr0
 have HC0 := am hc0
 clear hr0 hc0
 have HB := am (Below.refl w.heap.size w)
 have H : ((spec_DrawLookUp.f k l0).bind fun bt453 => (some (bt453.1, bt453.2.1, bt453.2.2))) = some (r1, r2, r3) := h
 clear h
 replace H := Option.bind_eq_some_iff.mp H
 obtain ⟨⟨t453, t454, t455⟩, A20, H⟩ := H
 replace H : (some (t453, t454, t455)) = some (r1, r2, r3) := H
 have A2 := am A20
 clear A20
 simp only [Option.some.injEq, Prod.mk.injEq] at H
 obtain ⟨rfl, rfl, rfl⟩ := H
 go_enter Try.func55, Try.ntmps55
 go_wp2_with (first | ((with_reducible refine gate_callee (f := 111) rfl ?_); refine goesL_ (some 6) rfl rfl Try.func111 (by kernel_rfl) rfl #[.slice A0 l0.length c0] rfl ga ?_; (with_reducible refine (spec_DrawLookUp.calls k _ _ l0 t453 t454 t455 _ ?side1 ?side2 A2.out).mono ?_); (case side1 => exact cq HR0.out); (case side2 => exact HC0.out); rintro e w3 ⟨v456, rfl, ho0, hb⟩; refine ⟨_, rfl, ?_⟩; have n_ := ak2 (Kd.R_lower ho0 (below_size (bq HB.out))) (below_step (bq HB.out) hb); clear HB; obtain ⟨HO457, HB⟩ := n_; (try clear hb ho0)))
 go_ret3
 exact ⟨_, rq, kqR HO457.out, bq HB.out⟩

/-! ### spec_DropStatic: function 56 -/
def spec_DropStatic.l0 : Nat → List (S44) → Int → Int → List (S44) → Bool → Int → Option ((List (S44)) × Bool)
 | 0, _, _, _, _, _, _ => none
 | k + 1, x0, x1, x2, x8, x9, x10 => if x10 < (x0.length : Int) then (if x9 = true then (if 0 ≤ x10 then (if x8.length < 3518437208883 then (spec_DropStatic.l0 k x0 x1 x2 (x8 ++ [(⟨(rd_T44 x0 x10).f0, (rd_T44 x0 x10).f1, (rd_T44 x0 x10).f2, (rd_T44 x0 x10).f3, (rd_T44 x0 x10).f4⟩ : S44)]) x9 (wrap64 (x10 + 1))) else (none)) else (none)) else (if 0 ≤ x10 then (if (rd_T44 x0 x10).f4 = true then (if ((rd_T44 x0 x10).f0) = x1 then (if ((rd_T44 x0 x10).f1) = x2 then (spec_DropStatic.l0 k x0 x1 x2 x8 true (wrap64 (x10 + 1))) else (if x8.length < 3518437208883 then (spec_DropStatic.l0 k x0 x1 x2 (x8 ++ [(⟨(rd_T44 x0 x10).f0, (rd_T44 x0 x10).f1, (rd_T44 x0 x10).f2, (rd_T44 x0 x10).f3, (rd_T44 x0 x10).f4⟩ : S44)]) x9 (wrap64 (x10 + 1))) else (none))) else (if x8.length < 3518437208883 then (spec_DropStatic.l0 k x0 x1 x2 (x8 ++ [(⟨(rd_T44 x0 x10).f0, (rd_T44 x0 x10).f1, (rd_T44 x0 x10).f2, (rd_T44 x0 x10).f3, (rd_T44 x0 x10).f4⟩ : S44)]) x9 (wrap64 (x10 + 1))) else (none))) else (if x8.length < 3518437208883 then (spec_DropStatic.l0 k x0 x1 x2 (x8 ++ [(⟨(rd_T44 x0 x10).f0, (rd_T44 x0 x10).f1, (rd_T44 x0 x10).f2, (rd_T44 x0 x10).f3, (rd_T44 x0 x10).f4⟩ : S44)]) x9 (wrap64 (x10 + 1))) else (none))) else (none))) else (some (x8, x9))
def spec_DropStatic.f (k : Nat) (l0 : List (S44)) (a1 : Int) (a2 : Int) : Option ((List (S44)) × Bool) := spec_DropStatic.l0 k l0 a1 a2 (([] : List (S44))) false 0
theorem spec_DropStatic.mono_l : ∀ k, (∀ y0 y1 y2 y3 y4 y5, LeO (spec_DropStatic.l0 k y0 y1 y2 y3 y4 y5) (spec_DropStatic.l0 (k + 1) y0 y1 y2 y3 y4 y5))
 | 0 => fun _ _ _ _ _ _ r h => by simp [spec_DropStatic.l0] at h
 | k + 1 => by
  have ih0 := spec_DropStatic.mono_l k
  intro y0 y1 y2 y3 y4 y5
  unfold spec_DropStatic.l0
  repeat' first
  | (with_reducible exact ih0 _ _ _ _ _ _)
  | (with_reducible exact LeO.refl _)
  | (with_reducible exact LeO.none _)
  | (with_reducible refine LeO.ite ?_ ?_)
  | (with_reducible refine LeO.bind ?_ (fun _ => ?_))
  | exact ih0 _ _ _ _ _ _
  | exact LeO.none _
  | refine LeO.ite ?_ ?_
  | refine LeO.bind ?_ (fun _ => ?_)
theorem spec_DropStatic.mono : ∀ a0 a1 a2 k, LeO (spec_DropStatic.f k a0 a1 a2) (spec_DropStatic.f (k + 1) a0 a1 a2) := by
 intro a0 a1 a2 k
 have ih0 := spec_DropStatic.mono_l k
 unfold spec_DropStatic.f
 repeat' first
  | (with_reducible exact ih0 _ _ _ _ _ _)
  | (with_reducible exact LeO.refl _)
  | (with_reducible exact LeO.none _)
  | (with_reducible refine LeO.ite ?_ ?_)
  | (with_reducible refine LeO.bind ?_ (fun _ => ?_))
  | exact ih0 _ _ _ _ _ _
  | exact LeO.none _
  | refine LeO.ite ?_ ?_
  | refine LeO.bind ?_ (fun _ => ?_)
set_option maxHeartbeats 8000000 in
set_option maxRecDepth 100000 in
theorem spec_DropStatic.calls (k : Nat) (A0 : Option Addr) (c0 : Nat) (l0 : List (S44)) (a1 : Int) (a2 : Int) (r1 : List (S44)) (r2 : Bool) (w : World) (hr0 : Kd.C k44 w A0 l0.length l0) (hc0 : l0.length ≤ c0) (h : spec_DropStatic.f k l0 a1 a2 = some (r1, r2)) :
 Calls Try.prog 56 #[.slice A0 l0.length c0, .int .i64 a1, .int .i64 a2] w fun e w' => ∃ v0_ : Value, e = .returned (.tuple #[v0_, .bool r2]) ∧ Kd.R k44 44 w' w.heap.size (fun _ => True) v0_ r1 ∧ Below w.heap.size w w' := by
 have hu44 := Try.underlying44
 have HR0 := am hr0
 have HC0 := am hc0
 clear hr0 hc0
 have HB := am (Below.refl w.heap.size w)
 have H : (spec_DropStatic.l0 k l0 a1 a2 (([] : List (S44))) false 0) = some (r1, r2) := h
 clear h
 obtain ⟨y458, hy458⟩ : ∃ y_ : List (S44), y_ = (([] : List (S44))) := ⟨_, rfl⟩
 replace H : (spec_DropStatic.l0 k l0 a1 a2 y458 false 0) = some (r1, r2) := by first | (rw [hy458]; with_reducible exact H) | (have H2_ := (Option.bind_some _ _).symm.trans H; rw [hy458]; with_reducible exact H2_) | (have H2_ := (Option.bind_some _ _).symm.trans H; with_reducible exact H2_) | with_reducible exact H | (rw [hy458]; exact H) | exact H
 have Ny458 := am hy458
 clear hy458
 have H' := am H
 clear H
 go_enter Try.func56, Try.ntmps56
 go_wp2_with (first | ((with_reducible refine gate_dst (N := 11) rfl ?_); refine Kd.R_lit k44 _ 44 ?hg (N := 11) ?hd (xs := ([] : List (S44))) (inner := []) (ok := fun _ => True) (okp := fun _ => True) ?hr ?hp (fun _ hk => hk) trivial (Below.refl _ _) (Nat.le_refl _) (by simp) ?_; (case hd => rfl); (case hg => rfl); (case hr => exact gs); (case hp => exact (Reps.none _ _)); intro v459 w4 ho5 hb hg_ hnew_; clear hg_ hnew_; (first | rw [← Ny458.out] at ho5 | (simp only [Int.reduceToNat] at ho5; rw [← Ny458.out] at ho5)); have n_ := ak2 (Kd.R_lower ho5 (below_size (bq HB.out))) (below_step (bq HB.out) hb); clear HB; obtain ⟨HO460, HB⟩ := n_; clear hb ho5))
 go_loopg [8, 9, 10] k (fun kq v8 v9 v10 w' => ∃ (x8_1 : List (S44)) (x9_1 : Bool) (x10_1 : Int), v9 = .bool x9_1 ∧ v10 = .int .i64 x10_1 ∧ Aside0 (spec_DropStatic.l0 kq l0 a1 a2 x8_1 x9_1 x10_1 = some (r1, r2)) ∧ Aside0 (kq ≤ k) ∧ Aside0 (Kd.R k44 44 w' w.heap.size (fun _ => True) v8 x8_1) ∧ Aside0 (Below w.heap.size w w'))
 case atStart => exact ⟨(y458), (false), (0), sq, sq, H', ⟨Nat.le_refl _⟩, ⟨kqR HO460.out⟩, ⟨bq HB.out⟩⟩
 case round =>
  clear H'
  try clear p2
  try clear c5
  obtain ⟨x8_1, x9_1, x10_1, rfl, rfl, HA, HK1, HO_8, HB⟩ := hrel
  cases gk with
  | zero => exact absurd HA.out (by simp [spec_DropStatic.l0])
  | succ k1 =>
   have H := HA.out
   clear HA
   simp only [spec_DropStatic.l0] at H
   by_cases c6 : x10_1 < (l0.length : Int)
   · rw [if_pos c6] at H
     have c6b0 : decide (x10_1 < (l0.length : Int)) = true := decide_eq_true c6
     clear c6
     by_cases c7 : x9_1 = true
     · subst c7
       have H1 : (if 0 ≤ x10_1 then (if x8_1.length < 3518437208883 then (spec_DropStatic.l0 k1 l0 a1 a2 (x8_1 ++ [(⟨(rd_T44 l0 x10_1).f0, (rd_T44 l0 x10_1).f1, (rd_T44 l0 x10_1).f2, (rd_T44 l0 x10_1).f3, (rd_T44 l0 x10_1).f4⟩ : S44)]) true (wrap64 (x10_1 + 1))) else (none)) else (none)) = some (r1, r2) := by rw [if_pos rfl] at H; exact H
       clear H
       have H := H1
       clear H1
       by_cases c8 : 0 ≤ x10_1
       · rw [if_pos c8] at H
         have c8b0 : decide (0 ≤ x10_1) = true := decide_eq_true c8
         clear c8
         by_cases c9 : x8_1.length < 3518437208883
         · rw [if_pos c9] at H
           have LMc9 := am c9
           clear c9
           obtain ⟨y462, hy462⟩ : ∃ y_ : List (S44), y_ = (x8_1 ++ [(⟨(rd_T44 l0 x10_1).f0, (rd_T44 l0 x10_1).f1, (rd_T44 l0 x10_1).f2, (rd_T44 l0 x10_1).f3, (rd_T44 l0 x10_1).f4⟩ : S44)]) := ⟨_, rfl⟩
           replace H : (spec_DropStatic.l0 k1 l0 a1 a2 y462 true (wrap64 (x10_1 + 1))) = some (r1, r2) := by first | (rw [hy462]; with_reducible exact H) | (have H2_ := (Option.bind_some _ _).symm.trans H; rw [hy462]; with_reducible exact H2_) | (have H2_ := (Option.bind_some _ _).symm.trans H; with_reducible exact H2_) | with_reducible exact H | (rw [hy462]; exact H) | exact H
           have Ny462 := am hy462
           clear hy462
           have H' := am H
           clear H
           have p461 : 0 ≤ (x10_1 : Int) := oda
           have q461 : x10_1 < (l0.length : Int) := oda
           obtain ⟨ad461, e461, hx461_0, hx461_1, hx461_2, hx461_3, hx461_4⟩ := at_T44 HR0.out x10_1 p461 q461
           cases e461
           replace hx461_0 := (HB.out.cell (World.block_lt_of_cell? w _ hx461_0)).trans hx461_0
           replace hx461_1 := (HB.out.cell (World.block_lt_of_cell? w _ hx461_1)).trans hx461_1
           replace hx461_2 := (HB.out.cell (World.block_lt_of_cell? w _ hx461_2)).trans hx461_2
           replace hx461_3 := (HB.out.cell (World.block_lt_of_cell? w _ hx461_3)).trans hx461_3
           replace hx461_4 := (HB.out.cell (World.block_lt_of_cell? w _ hx461_4)).trans hx461_4
           replace p461 := eq_true p461
           replace q461 := eq_true q461
           go_wp2_with (first | ((with_reducible refine gate_builtin (b := .append) (xs := #[.tmp 45, .tmp 50]) rfl ?_); at_builtin; refine Kd.R_append k44 (w0 := w) w.heap.size rfl (.tmp 45) (.tmp 50) 30 44 (.agg #[(.int .i64 0), (.int .i64 0), (.int .i64 0), (.int .i64 0), (.bool false)]) 40 rfl Try.underlying30 info44 rfl (by decide) (by omega) u8 x8_1 (⟨(rd_T44 l0 x10_1).f0, (rd_T44 l0 x10_1).f1, (rd_T44 l0 x10_1).f2, (rd_T44 l0 x10_1).f3, (rd_T44 l0 x10_1).f4⟩ : S44) [.int .i64 ((rd_T44 l0 x10_1).f0), .int .i64 ((rd_T44 l0 x10_1).f1), .int .i64 ((rd_T44 l0 x10_1).f2), .int .i64 ((rd_T44 l0 x10_1).f3), .bool ((rd_T44 l0 x10_1).f4)] (fun _ => True) (fun _ => False) rfl rfl ?aP (fun _ hk => hk.elim) ?aF ?aO ?aB ?aS ?aL ?_; (case aP => exact k44_mkM _ _ _ (⟨(rd_T44 l0 x10_1).f0, (rd_T44 l0 x10_1).f1, (rd_T44 l0 x10_1).f2, (rd_T44 l0 x10_1).f3, (rd_T44 l0 x10_1).f4⟩ : S44)); (case aB => exact (bq HB.out)); (case aF => exact (fun _ _ => trivial)); (case aO => exact (kqR HO_8.out)); (case aS => exact (below_size (bq HB.out))); (case aL => have := LMc9.out; omega); intro v463 w10 ho hb hg hat; rw [← Ny462.out] at ho; have n_ := ak2 hb ho; clear HB HO_8; obtain ⟨HB, HO464⟩ := n_; clear ho hb hg hat))
           go_roundg k1
           case measure => have := HK1.out; omega
           case rel => exact ⟨(y462), (true), (wrap64 (x10_1 + 1)), sq, sq, H', ⟨by have := HK1.out; omega⟩, ⟨kqR HO464.out⟩, ⟨bq HB.out⟩⟩
         rw [if_neg c9] at H
         exact absurd H (by simp)
       rw [if_neg c8] at H
       exact absurd H (by simp)
     replace c7 := Bool.eq_false_iff.mpr c7
     subst c7
     have H1 : (if 0 ≤ x10_1 then (if (rd_T44 l0 x10_1).f4 = true then (if ((rd_T44 l0 x10_1).f0) = a1 then (if ((rd_T44 l0 x10_1).f1) = a2 then (spec_DropStatic.l0 k1 l0 a1 a2 x8_1 true (wrap64 (x10_1 + 1))) else (if x8_1.length < 3518437208883 then (spec_DropStatic.l0 k1 l0 a1 a2 (x8_1 ++ [(⟨(rd_T44 l0 x10_1).f0, (rd_T44 l0 x10_1).f1, (rd_T44 l0 x10_1).f2, (rd_T44 l0 x10_1).f3, (rd_T44 l0 x10_1).f4⟩ : S44)]) false (wrap64 (x10_1 + 1))) else (none))) else (if x8_1.length < 3518437208883 then (spec_DropStatic.l0 k1 l0 a1 a2 (x8_1 ++ [(⟨(rd_T44 l0 x10_1).f0, (rd_T44 l0 x10_1).f1, (rd_T44 l0 x10_1).f2, (rd_T44 l0 x10_1).f3, (rd_T44 l0 x10_1).f4⟩ : S44)]) false (wrap64 (x10_1 + 1))) else (none))) else (if x8_1.length < 3518437208883 then (spec_DropStatic.l0 k1 l0 a1 a2 (x8_1 ++ [(⟨(rd_T44 l0 x10_1).f0, (rd_T44 l0 x10_1).f1, (rd_T44 l0 x10_1).f2, (rd_T44 l0 x10_1).f3, (rd_T44 l0 x10_1).f4⟩ : S44)]) false (wrap64 (x10_1 + 1))) else (none))) else (none)) = some (r1, r2) := by rw [if_neg (show ¬ (false = true) by decide)] at H; exact H
     clear H
     have H := H1
     clear H1
     by_cases c11 : 0 ≤ x10_1
     · rw [if_pos c11] at H
       have c11b0 : decide (0 ≤ x10_1) = true := decide_eq_true c11
       clear c11
       obtain ⟨bq12, hbq12⟩ : ∃ b_ : Bool, b_ = ((rd_T44 l0 x10_1).f4) := ⟨_, rfl⟩
       replace H : (if bq12 = true then (if ((rd_T44 l0 x10_1).f0) = a1 then (if ((rd_T44 l0 x10_1).f1) = a2 then (spec_DropStatic.l0 k1 l0 a1 a2 x8_1 true (wrap64 (x10_1 + 1))) else (if x8_1.length < 3518437208883 then (spec_DropStatic.l0 k1 l0 a1 a2 (x8_1 ++ [(⟨(rd_T44 l0 x10_1).f0, (rd_T44 l0 x10_1).f1, (rd_T44 l0 x10_1).f2, (rd_T44 l0 x10_1).f3, bq12⟩ : S44)]) false (wrap64 (x10_1 + 1))) else (none))) else (if x8_1.length < 3518437208883 then (spec_DropStatic.l0 k1 l0 a1 a2 (x8_1 ++ [(⟨(rd_T44 l0 x10_1).f0, (rd_T44 l0 x10_1).f1, (rd_T44 l0 x10_1).f2, (rd_T44 l0 x10_1).f3, bq12⟩ : S44)]) false (wrap64 (x10_1 + 1))) else (none))) else (if x8_1.length < 3518437208883 then (spec_DropStatic.l0 k1 l0 a1 a2 (x8_1 ++ [(⟨(rd_T44 l0 x10_1).f0, (rd_T44 l0 x10_1).f1, (rd_T44 l0 x10_1).f2, (rd_T44 l0 x10_1).f3, bq12⟩ : S44)]) false (wrap64 (x10_1 + 1))) else (none))) = some (r1, r2) := by rw [← hbq12] at H; exact H
       have Nbq12 := am hbq12
       clear hbq12
       by_cases c13 : bq12 = true
       · subst c13
         have H1 : (if ((rd_T44 l0 x10_1).f0) = a1 then (if ((rd_T44 l0 x10_1).f1) = a2 then (spec_DropStatic.l0 k1 l0 a1 a2 x8_1 true (wrap64 (x10_1 + 1))) else (if x8_1.length < 3518437208883 then (spec_DropStatic.l0 k1 l0 a1 a2 (x8_1 ++ [(⟨(rd_T44 l0 x10_1).f0, (rd_T44 l0 x10_1).f1, (rd_T44 l0 x10_1).f2, (rd_T44 l0 x10_1).f3, true⟩ : S44)]) false (wrap64 (x10_1 + 1))) else (none))) else (if x8_1.length < 3518437208883 then (spec_DropStatic.l0 k1 l0 a1 a2 (x8_1 ++ [(⟨(rd_T44 l0 x10_1).f0, (rd_T44 l0 x10_1).f1, (rd_T44 l0 x10_1).f2, (rd_T44 l0 x10_1).f3, true⟩ : S44)]) false (wrap64 (x10_1 + 1))) else (none))) = some (r1, r2) := by rw [if_pos rfl] at H; exact H
         clear H
         have H := H1
         clear H1
         by_cases c14 : ((rd_T44 l0 x10_1).f0) = a1
         · rw [if_pos c14] at H
           have c14b0 : (((rd_T44 l0 x10_1).f0) == a1) = true := beq_iff_eq.mpr c14
           have c14b1 : (((rd_T44 l0 x10_1).f0) != a1) = false := bne_eq_false_iff_eq.mpr c14
           clear c14
           by_cases c15 : ((rd_T44 l0 x10_1).f1) = a2
           · rw [if_pos c15] at H
             have c15b0 : (((rd_T44 l0 x10_1).f1) == a2) = true := beq_iff_eq.mpr c15
             have c15b1 : (((rd_T44 l0 x10_1).f1) != a2) = false := bne_eq_false_iff_eq.mpr c15
             clear c15
             have H' := am H
             clear H
             have p465 : 0 ≤ (x10_1 : Int) := oda
             have q465 : x10_1 < (l0.length : Int) := oda
             obtain ⟨ad465, e465, hx465_0, hx465_1, hx465_2, hx465_3, hx465_4⟩ := at_T44 HR0.out x10_1 p465 q465
             (try rw [← Nbq12.out] at hx465_4)
             cases e465
             replace hx465_0 := (HB.out.cell (World.block_lt_of_cell? w _ hx465_0)).trans hx465_0
             replace hx465_1 := (HB.out.cell (World.block_lt_of_cell? w _ hx465_1)).trans hx465_1
             replace hx465_2 := (HB.out.cell (World.block_lt_of_cell? w _ hx465_2)).trans hx465_2
             replace hx465_3 := (HB.out.cell (World.block_lt_of_cell? w _ hx465_3)).trans hx465_3
             replace hx465_4 := (HB.out.cell (World.block_lt_of_cell? w _ hx465_4)).trans hx465_4
             replace p465 := eq_true p465
             replace q465 := eq_true q465
             have p466 : 0 ≤ (x10_1 : Int) := oda
             have q466 : x10_1 < (l0.length : Int) := oda
             obtain ⟨ad466, e466, hx466_0, hx466_1, hx466_2, hx466_3, hx466_4⟩ := at_T44 HR0.out x10_1 p466 q466
             (try rw [← Nbq12.out] at hx466_4)
             obtain rfl : ad465 = ad466 := (by injection e466)
             replace hx466_0 := (HB.out.cell (World.block_lt_of_cell? w _ hx466_0)).trans hx466_0
             replace hx466_1 := (HB.out.cell (World.block_lt_of_cell? w _ hx466_1)).trans hx466_1
             replace hx466_2 := (HB.out.cell (World.block_lt_of_cell? w _ hx466_2)).trans hx466_2
             replace hx466_3 := (HB.out.cell (World.block_lt_of_cell? w _ hx466_3)).trans hx466_3
             replace hx466_4 := (HB.out.cell (World.block_lt_of_cell? w _ hx466_4)).trans hx466_4
             replace p466 := eq_true p466
             replace q466 := eq_true q466
             have p467 : 0 ≤ (x10_1 : Int) := oda
             have q467 : x10_1 < (l0.length : Int) := oda
             obtain ⟨ad467, e467, hx467_0, hx467_1, hx467_2, hx467_3, hx467_4⟩ := at_T44 HR0.out x10_1 p467 q467
             (try rw [← Nbq12.out] at hx467_4)
             obtain rfl : ad465 = ad467 := (by injection e467)
             replace hx467_0 := (HB.out.cell (World.block_lt_of_cell? w _ hx467_0)).trans hx467_0
             replace hx467_1 := (HB.out.cell (World.block_lt_of_cell? w _ hx467_1)).trans hx467_1
             replace hx467_2 := (HB.out.cell (World.block_lt_of_cell? w _ hx467_2)).trans hx467_2
             replace hx467_3 := (HB.out.cell (World.block_lt_of_cell? w _ hx467_3)).trans hx467_3
             replace hx467_4 := (HB.out.cell (World.block_lt_of_cell? w _ hx467_4)).trans hx467_4
             replace p467 := eq_true p467
             replace q467 := eq_true q467
             go_wp2
             go_roundg k1
             case measure => have := HK1.out; omega
             case rel => exact ⟨(x8_1), (true), (wrap64 (x10_1 + 1)), sq, sq, H', ⟨by have := HK1.out; omega⟩, ⟨kqR HO_8.out⟩, ⟨bq HB.out⟩⟩
           rw [if_neg c15] at H
           have c15b0 : (((rd_T44 l0 x10_1).f1) == a2) = false := beq_eq_false_iff_ne.mpr c15
           have c15b1 : (((rd_T44 l0 x10_1).f1) != a2) = true := bne_iff_ne.mpr c15
           by_cases c16 : x8_1.length < 3518437208883
           · rw [if_pos c16] at H
             have LMc16 := am c16
             clear c16
             obtain ⟨y469, hy469⟩ : ∃ y_ : List (S44), y_ = (x8_1 ++ [(⟨(rd_T44 l0 x10_1).f0, (rd_T44 l0 x10_1).f1, (rd_T44 l0 x10_1).f2, (rd_T44 l0 x10_1).f3, true⟩ : S44)]) := ⟨_, rfl⟩
             replace H : (spec_DropStatic.l0 k1 l0 a1 a2 y469 false (wrap64 (x10_1 + 1))) = some (r1, r2) := by first | (rw [hy469]; with_reducible exact H) | (have H2_ := (Option.bind_some _ _).symm.trans H; rw [hy469]; with_reducible exact H2_) | (have H2_ := (Option.bind_some _ _).symm.trans H; with_reducible exact H2_) | with_reducible exact H | (rw [hy469]; exact H) | exact H
             have Ny469 := am hy469
             clear hy469
             have H' := am H
             clear H
             have p465 : 0 ≤ (x10_1 : Int) := oda
             have q465 : x10_1 < (l0.length : Int) := oda
             obtain ⟨ad465, e465, hx465_0, hx465_1, hx465_2, hx465_3, hx465_4⟩ := at_T44 HR0.out x10_1 p465 q465
             (try rw [← Nbq12.out] at hx465_4)
             cases e465
             replace hx465_0 := (HB.out.cell (World.block_lt_of_cell? w _ hx465_0)).trans hx465_0
             replace hx465_1 := (HB.out.cell (World.block_lt_of_cell? w _ hx465_1)).trans hx465_1
             replace hx465_2 := (HB.out.cell (World.block_lt_of_cell? w _ hx465_2)).trans hx465_2
             replace hx465_3 := (HB.out.cell (World.block_lt_of_cell? w _ hx465_3)).trans hx465_3
             replace hx465_4 := (HB.out.cell (World.block_lt_of_cell? w _ hx465_4)).trans hx465_4
             replace p465 := eq_true p465
             replace q465 := eq_true q465
             have p466 : 0 ≤ (x10_1 : Int) := oda
             have q466 : x10_1 < (l0.length : Int) := oda
             obtain ⟨ad466, e466, hx466_0, hx466_1, hx466_2, hx466_3, hx466_4⟩ := at_T44 HR0.out x10_1 p466 q466
             (try rw [← Nbq12.out] at hx466_4)
             obtain rfl : ad465 = ad466 := (by injection e466)
             replace hx466_0 := (HB.out.cell (World.block_lt_of_cell? w _ hx466_0)).trans hx466_0
             replace hx466_1 := (HB.out.cell (World.block_lt_of_cell? w _ hx466_1)).trans hx466_1
             replace hx466_2 := (HB.out.cell (World.block_lt_of_cell? w _ hx466_2)).trans hx466_2
             replace hx466_3 := (HB.out.cell (World.block_lt_of_cell? w _ hx466_3)).trans hx466_3
             replace hx466_4 := (HB.out.cell (World.block_lt_of_cell? w _ hx466_4)).trans hx466_4
             replace p466 := eq_true p466
             replace q466 := eq_true q466
             have p467 : 0 ≤ (x10_1 : Int) := oda
             have q467 : x10_1 < (l0.length : Int) := oda
             obtain ⟨ad467, e467, hx467_0, hx467_1, hx467_2, hx467_3, hx467_4⟩ := at_T44 HR0.out x10_1 p467 q467
             (try rw [← Nbq12.out] at hx467_4)
             obtain rfl : ad465 = ad467 := (by injection e467)
             replace hx467_0 := (HB.out.cell (World.block_lt_of_cell? w _ hx467_0)).trans hx467_0
             replace hx467_1 := (HB.out.cell (World.block_lt_of_cell? w _ hx467_1)).trans hx467_1
             replace hx467_2 := (HB.out.cell (World.block_lt_of_cell? w _ hx467_2)).trans hx467_2
             replace hx467_3 := (HB.out.cell (World.block_lt_of_cell? w _ hx467_3)).trans hx467_3
             replace hx467_4 := (HB.out.cell (World.block_lt_of_cell? w _ hx467_4)).trans hx467_4
             replace p467 := eq_true p467
             replace q467 := eq_true q467
             have p468 : 0 ≤ (x10_1 : Int) := oda
             have q468 : x10_1 < (l0.length : Int) := oda
             obtain ⟨ad468, e468, hx468_0, hx468_1, hx468_2, hx468_3, hx468_4⟩ := at_T44 HR0.out x10_1 p468 q468
             (try rw [← Nbq12.out] at hx468_4)
             obtain rfl : ad465 = ad468 := (by injection e468)
             replace hx468_0 := (HB.out.cell (World.block_lt_of_cell? w _ hx468_0)).trans hx468_0
             replace hx468_1 := (HB.out.cell (World.block_lt_of_cell? w _ hx468_1)).trans hx468_1
             replace hx468_2 := (HB.out.cell (World.block_lt_of_cell? w _ hx468_2)).trans hx468_2
             replace hx468_3 := (HB.out.cell (World.block_lt_of_cell? w _ hx468_3)).trans hx468_3
             replace hx468_4 := (HB.out.cell (World.block_lt_of_cell? w _ hx468_4)).trans hx468_4
             replace p468 := eq_true p468
             replace q468 := eq_true q468
             go_wp2_with (first | ((with_reducible refine gate_builtin (b := .append) (xs := #[.tmp 45, .tmp 50]) rfl ?_); at_builtin; refine Kd.R_append k44 (w0 := w) w.heap.size rfl (.tmp 45) (.tmp 50) 30 44 (.agg #[(.int .i64 0), (.int .i64 0), (.int .i64 0), (.int .i64 0), (.bool false)]) 40 rfl Try.underlying30 info44 rfl (by decide) (by omega) u8 x8_1 (⟨(rd_T44 l0 x10_1).f0, (rd_T44 l0 x10_1).f1, (rd_T44 l0 x10_1).f2, (rd_T44 l0 x10_1).f3, true⟩ : S44) [.int .i64 ((rd_T44 l0 x10_1).f0), .int .i64 ((rd_T44 l0 x10_1).f1), .int .i64 ((rd_T44 l0 x10_1).f2), .int .i64 ((rd_T44 l0 x10_1).f3), .bool true] (fun _ => True) (fun _ => False) rfl rfl ?aP (fun _ hk => hk.elim) ?aF ?aO ?aB ?aS ?aL ?_; (case aP => exact k44_mkM _ _ _ (⟨(rd_T44 l0 x10_1).f0, (rd_T44 l0 x10_1).f1, (rd_T44 l0 x10_1).f2, (rd_T44 l0 x10_1).f3, true⟩ : S44)); (case aB => exact (bq HB.out)); (case aF => exact (fun _ _ => trivial)); (case aO => exact (kqR HO_8.out)); (case aS => exact (below_size (bq HB.out))); (case aL => have := LMc16.out; omega); intro v470 w17 ho hb hg hat; rw [← Ny469.out] at ho; have n_ := ak2 hb ho; clear HB HO_8; obtain ⟨HB, HO471⟩ := n_; clear ho hb hg hat))
             go_roundg k1
             case measure => have := HK1.out; omega
             case rel => exact ⟨(y469), (false), (wrap64 (x10_1 + 1)), sq, sq, H', ⟨by have := HK1.out; omega⟩, ⟨kqR HO471.out⟩, ⟨bq HB.out⟩⟩
           rw [if_neg c16] at H
           exact absurd H (by simp)
         rw [if_neg c14] at H
         have c14b0 : (((rd_T44 l0 x10_1).f0) == a1) = false := beq_eq_false_iff_ne.mpr c14
         have c14b1 : (((rd_T44 l0 x10_1).f0) != a1) = true := bne_iff_ne.mpr c14
         by_cases c18 : x8_1.length < 3518437208883
         · rw [if_pos c18] at H
           have LMc18 := am c18
           clear c18
           obtain ⟨y473, hy473⟩ : ∃ y_ : List (S44), y_ = (x8_1 ++ [(⟨(rd_T44 l0 x10_1).f0, (rd_T44 l0 x10_1).f1, (rd_T44 l0 x10_1).f2, (rd_T44 l0 x10_1).f3, true⟩ : S44)]) := ⟨_, rfl⟩
           replace H : (spec_DropStatic.l0 k1 l0 a1 a2 y473 false (wrap64 (x10_1 + 1))) = some (r1, r2) := by first | (rw [hy473]; with_reducible exact H) | (have H2_ := (Option.bind_some _ _).symm.trans H; rw [hy473]; with_reducible exact H2_) | (have H2_ := (Option.bind_some _ _).symm.trans H; with_reducible exact H2_) | with_reducible exact H | (rw [hy473]; exact H) | exact H
           have Ny473 := am hy473
           clear hy473
           have H' := am H
           clear H
           have p465 : 0 ≤ (x10_1 : Int) := oda
           have q465 : x10_1 < (l0.length : Int) := oda
           obtain ⟨ad465, e465, hx465_0, hx465_1, hx465_2, hx465_3, hx465_4⟩ := at_T44 HR0.out x10_1 p465 q465
           (try rw [← Nbq12.out] at hx465_4)
           cases e465
           replace hx465_0 := (HB.out.cell (World.block_lt_of_cell? w _ hx465_0)).trans hx465_0
           replace hx465_1 := (HB.out.cell (World.block_lt_of_cell? w _ hx465_1)).trans hx465_1
           replace hx465_2 := (HB.out.cell (World.block_lt_of_cell? w _ hx465_2)).trans hx465_2
           replace hx465_3 := (HB.out.cell (World.block_lt_of_cell? w _ hx465_3)).trans hx465_3
           replace hx465_4 := (HB.out.cell (World.block_lt_of_cell? w _ hx465_4)).trans hx465_4
           replace p465 := eq_true p465
           replace q465 := eq_true q465
           have p466 : 0 ≤ (x10_1 : Int) := oda
           have q466 : x10_1 < (l0.length : Int) := oda
           obtain ⟨ad466, e466, hx466_0, hx466_1, hx466_2, hx466_3, hx466_4⟩ := at_T44 HR0.out x10_1 p466 q466
           (try rw [← Nbq12.out] at hx466_4)
           obtain rfl : ad465 = ad466 := (by injection e466)
           replace hx466_0 := (HB.out.cell (World.block_lt_of_cell? w _ hx466_0)).trans hx466_0
           replace hx466_1 := (HB.out.cell (World.block_lt_of_cell? w _ hx466_1)).trans hx466_1
           replace hx466_2 := (HB.out.cell (World.block_lt_of_cell? w _ hx466_2)).trans hx466_2
           replace hx466_3 := (HB.out.cell (World.block_lt_of_cell? w _ hx466_3)).trans hx466_3
           replace hx466_4 := (HB.out.cell (World.block_lt_of_cell? w _ hx466_4)).trans hx466_4
           replace p466 := eq_true p466
           replace q466 := eq_true q466
           have p472 : 0 ≤ (x10_1 : Int) := oda
           have q472 : x10_1 < (l0.length : Int) := oda
           obtain ⟨ad472, e472, hx472_0, hx472_1, hx472_2, hx472_3, hx472_4⟩ := at_T44 HR0.out x10_1 p472 q472
           (try rw [← Nbq12.out] at hx472_4)
           obtain rfl : ad465 = ad472 := (by injection e472)
           replace hx472_0 := (HB.out.cell (World.block_lt_of_cell? w _ hx472_0)).trans hx472_0
           replace hx472_1 := (HB.out.cell (World.block_lt_of_cell? w _ hx472_1)).trans hx472_1
           replace hx472_2 := (HB.out.cell (World.block_lt_of_cell? w _ hx472_2)).trans hx472_2
           replace hx472_3 := (HB.out.cell (World.block_lt_of_cell? w _ hx472_3)).trans hx472_3
           replace hx472_4 := (HB.out.cell (World.block_lt_of_cell? w _ hx472_4)).trans hx472_4
           replace p472 := eq_true p472
           replace q472 := eq_true q472
           go_wp2_with (first | ((with_reducible refine gate_builtin (b := .append) (xs := #[.tmp 45, .tmp 50]) rfl ?_); at_builtin; refine Kd.R_append k44 (w0 := w) w.heap.size rfl (.tmp 45) (.tmp 50) 30 44 (.agg #[(.int .i64 0), (.int .i64 0), (.int .i64 0), (.int .i64 0), (.bool false)]) 40 rfl Try.underlying30 info44 rfl (by decide) (by omega) u8 x8_1 (⟨(rd_T44 l0 x10_1).f0, (rd_T44 l0 x10_1).f1, (rd_T44 l0 x10_1).f2, (rd_T44 l0 x10_1).f3, true⟩ : S44) [.int .i64 ((rd_T44 l0 x10_1).f0), .int .i64 ((rd_T44 l0 x10_1).f1), .int .i64 ((rd_T44 l0 x10_1).f2), .int .i64 ((rd_T44 l0 x10_1).f3), .bool true] (fun _ => True) (fun _ => False) rfl rfl ?aP (fun _ hk => hk.elim) ?aF ?aO ?aB ?aS ?aL ?_; (case aP => exact k44_mkM _ _ _ (⟨(rd_T44 l0 x10_1).f0, (rd_T44 l0 x10_1).f1, (rd_T44 l0 x10_1).f2, (rd_T44 l0 x10_1).f3, true⟩ : S44)); (case aB => exact (bq HB.out)); (case aF => exact (fun _ _ => trivial)); (case aO => exact (kqR HO_8.out)); (case aS => exact (below_size (bq HB.out))); (case aL => have := LMc18.out; omega); intro v474 w19 ho hb hg hat; rw [← Ny473.out] at ho; have n_ := ak2 hb ho; clear HB HO_8; obtain ⟨HB, HO475⟩ := n_; clear ho hb hg hat))
           go_roundg k1
           case measure => have := HK1.out; omega
           case rel => exact ⟨(y473), (false), (wrap64 (x10_1 + 1)), sq, sq, H', ⟨by have := HK1.out; omega⟩, ⟨kqR HO475.out⟩, ⟨bq HB.out⟩⟩
         rw [if_neg c18] at H
         exact absurd H (by simp)
       replace c13 := Bool.eq_false_iff.mpr c13
       subst c13
       have H1 : (if x8_1.length < 3518437208883 then (spec_DropStatic.l0 k1 l0 a1 a2 (x8_1 ++ [(⟨(rd_T44 l0 x10_1).f0, (rd_T44 l0 x10_1).f1, (rd_T44 l0 x10_1).f2, (rd_T44 l0 x10_1).f3, false⟩ : S44)]) false (wrap64 (x10_1 + 1))) else (none)) = some (r1, r2) := by rw [if_neg (show ¬ (false = true) by decide)] at H; exact H
       clear H
       have H := H1
       clear H1
       by_cases c20 : x8_1.length < 3518437208883
       · rw [if_pos c20] at H
         have LMc20 := am c20
         clear c20
         obtain ⟨y477, hy477⟩ : ∃ y_ : List (S44), y_ = (x8_1 ++ [(⟨(rd_T44 l0 x10_1).f0, (rd_T44 l0 x10_1).f1, (rd_T44 l0 x10_1).f2, (rd_T44 l0 x10_1).f3, false⟩ : S44)]) := ⟨_, rfl⟩
         replace H : (spec_DropStatic.l0 k1 l0 a1 a2 y477 false (wrap64 (x10_1 + 1))) = some (r1, r2) := by first | (rw [hy477]; with_reducible exact H) | (have H2_ := (Option.bind_some _ _).symm.trans H; rw [hy477]; with_reducible exact H2_) | (have H2_ := (Option.bind_some _ _).symm.trans H; with_reducible exact H2_) | with_reducible exact H | (rw [hy477]; exact H) | exact H
         have Ny477 := am hy477
         clear hy477
         have H' := am H
         clear H
         have p465 : 0 ≤ (x10_1 : Int) := oda
         have q465 : x10_1 < (l0.length : Int) := oda
         obtain ⟨ad465, e465, hx465_0, hx465_1, hx465_2, hx465_3, hx465_4⟩ := at_T44 HR0.out x10_1 p465 q465
         (try rw [← Nbq12.out] at hx465_4)
         cases e465
         replace hx465_0 := (HB.out.cell (World.block_lt_of_cell? w _ hx465_0)).trans hx465_0
         replace hx465_1 := (HB.out.cell (World.block_lt_of_cell? w _ hx465_1)).trans hx465_1
         replace hx465_2 := (HB.out.cell (World.block_lt_of_cell? w _ hx465_2)).trans hx465_2
         replace hx465_3 := (HB.out.cell (World.block_lt_of_cell? w _ hx465_3)).trans hx465_3
         replace hx465_4 := (HB.out.cell (World.block_lt_of_cell? w _ hx465_4)).trans hx465_4
         replace p465 := eq_true p465
         replace q465 := eq_true q465
         have p476 : 0 ≤ (x10_1 : Int) := oda
         have q476 : x10_1 < (l0.length : Int) := oda
         obtain ⟨ad476, e476, hx476_0, hx476_1, hx476_2, hx476_3, hx476_4⟩ := at_T44 HR0.out x10_1 p476 q476
         (try rw [← Nbq12.out] at hx476_4)
         obtain rfl : ad465 = ad476 := (by injection e476)
         replace hx476_0 := (HB.out.cell (World.block_lt_of_cell? w _ hx476_0)).trans hx476_0
         replace hx476_1 := (HB.out.cell (World.block_lt_of_cell? w _ hx476_1)).trans hx476_1
         replace hx476_2 := (HB.out.cell (World.block_lt_of_cell? w _ hx476_2)).trans hx476_2
         replace hx476_3 := (HB.out.cell (World.block_lt_of_cell? w _ hx476_3)).trans hx476_3
         replace hx476_4 := (HB.out.cell (World.block_lt_of_cell? w _ hx476_4)).trans hx476_4
         replace p476 := eq_true p476
         replace q476 := eq_true q476
         go_wp2_with (first | ((with_reducible refine gate_builtin (b := .append) (xs := #[.tmp 45, .tmp 50]) rfl ?_); at_builtin; refine Kd.R_append k44 (w0 := w) w.heap.size rfl (.tmp 45) (.tmp 50) 30 44 (.agg #[(.int .i64 0), (.int .i64 0), (.int .i64 0), (.int .i64 0), (.bool false)]) 40 rfl Try.underlying30 info44 rfl (by decide) (by omega) u8 x8_1 (⟨(rd_T44 l0 x10_1).f0, (rd_T44 l0 x10_1).f1, (rd_T44 l0 x10_1).f2, (rd_T44 l0 x10_1).f3, false⟩ : S44) [.int .i64 ((rd_T44 l0 x10_1).f0), .int .i64 ((rd_T44 l0 x10_1).f1), .int .i64 ((rd_T44 l0 x10_1).f2), .int .i64 ((rd_T44 l0 x10_1).f3), .bool false] (fun _ => True) (fun _ => False) rfl rfl ?aP (fun _ hk => hk.elim) ?aF ?aO ?aB ?aS ?aL ?_; (case aP => exact k44_mkM _ _ _ (⟨(rd_T44 l0 x10_1).f0, (rd_T44 l0 x10_1).f1, (rd_T44 l0 x10_1).f2, (rd_T44 l0 x10_1).f3, false⟩ : S44)); (case aB => exact (bq HB.out)); (case aF => exact (fun _ _ => trivial)); (case aO => exact (kqR HO_8.out)); (case aS => exact (below_size (bq HB.out))); (case aL => have := LMc20.out; omega); intro v478 w21 ho hb hg hat; rw [← Ny477.out] at ho; have n_ := ak2 hb ho; clear HB HO_8; obtain ⟨HB, HO479⟩ := n_; clear ho hb hg hat))
         go_roundg k1
         case measure => have := HK1.out; omega
         case rel => exact ⟨(y477), (false), (wrap64 (x10_1 + 1)), sq, sq, H', ⟨by have := HK1.out; omega⟩, ⟨kqR HO479.out⟩, ⟨bq HB.out⟩⟩
       rw [if_neg c20] at H
       exact absurd H (by simp)
     rw [if_neg c11] at H
     exact absurd H (by simp)
   rw [if_neg c6] at H
   have c6b0 : decide (x10_1 < (l0.length : Int)) = false := decide_eq_false c6
   clear c6
   simp only [Option.some.injEq, Prod.mk.injEq] at H
   obtain ⟨rfl, rfl⟩ := H
   go_wp2
   go_ret2
   exact ⟨_, rq, kqR HO_8.out, bq HB.out⟩

/-! ### spec_DrawNextEnt: function 57 -/
def spec_DrawNextEnt.f (k : Nat) (l0 : List Int) : Option ((List (S44)) × Int × Int) := (spec_l1New.f k l0).bind fun bt480 => ((spec_l8Any.f k bt480.1 bt480.2.1 bt480.2.2).bind fun bt484 => ((spec_l1Below.f bt480.1 bt484.2.1 bt484.2.2 5).bind fun bt489 => ((spec_l1Int.f bt480.1 bt489.2.1 bt489.2.2 (([0, 11, 12, 13, 99] : List Int))).bind fun bt495 => (some (bt484.1, bt489.1, bt495.1)))))
theorem spec_DrawNextEnt.mono : ∀ a0 k, LeO (spec_DrawNextEnt.f k a0) (spec_DrawNextEnt.f (k + 1) a0) := by
 intro a0 k
 unfold spec_DrawNextEnt.f
 repeat' first
  | (with_reducible exact spec_l1New.mono _ _)
  | (with_reducible exact spec_l8Any.mono _ _ _ _)
  | (with_reducible exact LeO.refl _)
  | (with_reducible exact LeO.none _)
  | (with_reducible refine LeO.ite ?_ ?_)
  | (with_reducible refine LeO.bind ?_ (fun _ => ?_))
  | exact spec_l1New.mono _ _
  | exact spec_l8Any.mono _ _ _ _
  | exact LeO.none _
  | refine LeO.ite ?_ ?_
  | refine LeO.bind ?_ (fun _ => ?_)
set_option maxHeartbeats 8000000 in
set_option maxRecDepth 100000 in
theorem spec_DrawNextEnt.calls (k : Nat) (A0 : Option Addr) (c0 : Nat) (l0 : List Int) (r1 : List (S44)) (r2 : Int) (r3 : Int) (w : World) (hr0 : Kd.C (Kd.int .u8) w A0 l0.length l0) (hc0 : l0.length ≤ c0) (h : spec_DrawNextEnt.f k l0 = some (r1, r2, r3)) :
 Calls Try.prog 57 #[.slice A0 l0.length c0] w fun e w' => ∃ v0_ : Value, e = .returned (.tuple #[v0_, .int .i64 r2, .int .i64 r3]) ∧ Kd.R k44 44 w' w.heap.size (fun _ => True) v0_ r1 ∧ Below w.heap.size w w' := by
 have HR0 := am hr0
 have HC0 := am hc0
 clear hr0 hc0
 have HB := am (Below.refl w.heap.size w)
 have H : ((spec_l1New.f k l0).bind fun bt480 => ((spec_l8Any.f k bt480.1 bt480.2.1 bt480.2.2).bind fun bt484 => ((spec_l1Below.f bt480.1 bt484.2.1 bt484.2.2 5).bind fun bt489 => ((spec_l1Int.f bt480.1 bt489.2.1 bt489.2.2 (([0, 11, 12, 13, 99] : List Int))).bind fun bt495 => (some (bt484.1, bt489.1, bt495.1)))))) = some (r1, r2, r3) := h
 clear h
 replace H := Option.bind_eq_some_iff.mp H
 obtain ⟨⟨t480, t481, t482⟩, A20, H⟩ := H
 replace H : ((spec_l8Any.f k t480 t481 t482).bind fun bt484 => ((spec_l1Below.f t480 bt484.2.1 bt484.2.2 5).bind fun bt489 => ((spec_l1Int.f t480 bt489.2.1 bt489.2.2 (([0, 11, 12, 13, 99] : List Int))).bind fun bt495 => (some (bt484.1, bt489.1, bt495.1))))) = some (r1, r2, r3) := H
 have A2 := am A20
 clear A20
 replace H := Option.bind_eq_some_iff.mp H
 obtain ⟨⟨t484, t487, t488⟩, A30, H⟩ := H
 replace H : ((spec_l1Below.f t480 t487 t488 5).bind fun bt489 => ((spec_l1Int.f t480 bt489.2.1 bt489.2.2 (([0, 11, 12, 13, 99] : List Int))).bind fun bt495 => (some (t484, bt489.1, bt495.1)))) = some (r1, r2, r3) := H
 have A3 := am A30
 clear A30
 replace H := Option.bind_eq_some_iff.mp H
 obtain ⟨⟨t489, t490, t491⟩, A40, H⟩ := H
 replace H : ((spec_l1Int.f t480 t490 t491 (([0, 11, 12, 13, 99] : List Int))).bind fun bt495 => (some (t484, t489, bt495.1))) = some (r1, r2, r3) := H
 have A4 := am A40
 clear A40
 obtain ⟨y492, hy492⟩ : ∃ y_ : List Int, y_ = (([0, 11, 12, 13, 99] : List Int)) := ⟨_, rfl⟩
 replace H : ((spec_l1Int.f t480 t490 t491 y492).bind fun bt495 => (some (t484, t489, bt495.1))) = some (r1, r2, r3) := by first | (rw [hy492]; with_reducible exact H) | (have H2_ := (Option.bind_some _ _).symm.trans H; rw [hy492]; with_reducible exact H2_) | (have H2_ := (Option.bind_some _ _).symm.trans H; with_reducible exact H2_) | with_reducible exact H | (rw [hy492]; exact H) | exact H
 have Ny492 := am hy492
 clear hy492
 replace H := Option.bind_eq_some_iff.mp H
 obtain ⟨⟨t495, t496, t497⟩, A50, H⟩ := H
 replace H : (some (t484, t489, t495)) = some (r1, r2, r3) := H
 have A5 := am A50
 clear A50
 simp only [Option.some.injEq, Prod.mk.injEq] at H
 obtain ⟨rfl, rfl, rfl⟩ := H
 go_enter Try.func57, Try.ntmps57
 go_wp2_with (first | ((with_reducible refine gate_callee (f := 84) rfl ?_); refine goesL_ (some 7) rfl rfl Try.func84 (by kernel_rfl) rfl #[.slice A0 l0.length c0] rfl ga ?_; (with_reducible refine (spec_l1New.calls k _ _ l0 t480 t481 t482 w _ ?side1 ?side2 ?side3 A2.out).mono ?_); (case side1 => exact bq HB.out); (case side2 => exact HR0.out); (case side3 => exact HC0.out); rintro e w6 ⟨g483, rfl, hi, hb, hb2⟩; refine ⟨_, rfl, ?_⟩; have n_ := ak2 hb hi; clear HB; obtain ⟨HB, HI483⟩ := n_; (try clear hb hb2 hi)) | ((with_reducible refine gate_callee (f := 109) rfl ?_); refine goesL_ (some 9) rfl rfl Try.func109 (by kernel_rfl) rfl #[.pointer (some ⟨g483, 0, none⟩)] rfl ga ?_; (with_reducible refine (spec_l8Any.calls k g483 t480 t481 t482 t484 t487 t488 w _ ?side1 ?side2 A3.out).mono ?_); (case side1 => exact IsS133.q0 HI483.out); (case side2 => exact bq1 HB.out (IsS133.ge HI483.out)); rintro e w7 ⟨v485, rfl, ho0, hi, hb, hk⟩; refine ⟨_, rfl, ?_⟩; have n_ := ak3 (Kd.R_lower ho0 (below_size (bq1 HB.out (IsS133.ge HI483.out)))) hb hi; clear HB HI483; obtain ⟨HO486, HB, HI483⟩ := n_; (try clear hb hk hi ho0)) | ((with_reducible refine gate_callee (f := 86) rfl ?_); refine goesL_ (some 11) rfl rfl Try.func86 (by kernel_rfl) rfl #[.pointer (some ⟨g483, 0, none⟩), .int .i64 5] rfl ga ?_; (with_reducible refine (spec_l1Below.calls g483 t480 t487 t488 5 t489 t490 t491 w _ ?side1 ?side2 A4.out).mono ?_); (case side1 => exact IsS133.q0 HI483.out); (case side2 => exact bq1 HB.out (IsS133.ge HI483.out)); rintro e w8 ⟨rfl, hi, hb, hk⟩; refine ⟨_, rfl, ?_⟩; have n_ := ak3 (Kd.R_mono (Kd.R_keep (IsS133.apart (show IsS133 w _ g483 t480 t487 t488 from IsS133.q0 HI483.out) (kqR HO486.out) (by decide)) hk (fun _ h => h.2)) (fun _ h => h.1)) hb hi; clear HO486 HB HI483; obtain ⟨HO486, HB, HI483⟩ := n_; (try clear hb hk hi)) | ((with_reducible refine gate_dst (N := 13) rfl ?_); refine Kd.R_lit (Kd.int .i64) _ 3 ?hg (N := 13) ?hd (xs := ([0, 11, 12, 13, 99] : List Int)) (inner := [.int .i64 0, .int .i64 11, .int .i64 12, .int .i64 13, .int .i64 99]) (ok := fun _ => True) (okp := fun _ => True) ?hr ?hp (fun _ hk => hk) trivial (Below.refl _ _) (Nat.le_refl _) (by simp) ?_; (case hd => rfl); (case hg => rfl); (case hr => exact gs); (case hp => exact (Reps.one (show Kd.M (Kd.int .i64) _ _ _ 0 [.int .i64 0] from rfl) (Reps.one (show Kd.M (Kd.int .i64) _ _ _ 11 [.int .i64 11] from rfl) (Reps.one (show Kd.M (Kd.int .i64) _ _ _ 12 [.int .i64 12] from rfl) (Reps.one (show Kd.M (Kd.int .i64) _ _ _ 13 [.int .i64 13] from rfl) (Reps.one (show Kd.M (Kd.int .i64) _ _ _ 99 [.int .i64 99] from rfl) (Reps.none _ _))))))); intro v493 w9 ho10 hb hg_ hnew_; clear hg_ hnew_; (first | rw [← Ny492.out] at ho10 | (simp only [Int.reduceToNat] at ho10; rw [← Ny492.out] at ho10)); have n_ := ak4 (Kd.R_below (kqR HO486.out) hb) (Kd.R_lower ho10 (below_size (bq1 HB.out (IsS133.ge HI483.out)))) (IsS133.below (IsS133.q0 HI483.out) hb) (below_step (bq1 HB.out (IsS133.ge HI483.out)) hb); clear HO486 HI483 HB; obtain ⟨HO486, HO494, HI483, HB⟩ := n_; clear hb ho10; obtain ⟨Ao11, co11, eo11⟩ := Kd.R_slice HO494.out; subst eo11) | ((with_reducible refine gate_callee (f := 110) rfl ?_); refine goesL_ (some 14) rfl rfl Try.func110 (by kernel_rfl) rfl #[.pointer (some ⟨g483, 0, none⟩), .slice Ao11 y492.length co11] rfl ga ?_; (with_reducible refine (spec_l1Int.calls g483 t480 t490 t491 _ _ y492 t495 t496 t497 w _ ?side1 ?side2 ?side3 ?side4 ?side5 A5.out).mono ?_); (case side1 => exact IsS133.q0 HI483.out); (case side2 => exact bq1 HB.out (IsS133.ge HI483.out)); (case side3 => repeat (first | exact (Kd.R_reads' HO494.out).2.2 | (with_reducible refine Kd.C_alloc ?_ _) | (with_reducible refine Kd.C_drewN ?_ _) | (with_reducible refine Kd.C_drew ?_))); (case side4 => exact (Kd.R_reads' HO494.out).2.1); (case side5 => exact far_slice (IsS133.own_ne HI483.out HO494.out (by decide))); rintro e w12 ⟨rfl, hi, hb, hk⟩; refine ⟨_, rfl, ?_⟩; have n_ := ak4 (Kd.R_mono (Kd.R_keep (IsS133.apart (show IsS133 w _ g483 t480 t490 t491 from IsS133.q0 HI483.out) (kqR HO486.out) (by decide)) hk (fun _ h => h.2)) (fun _ h => h.1)) (Kd.R_mono (Kd.R_keep (IsS133.apart (show IsS133 w _ g483 t480 t490 t491 from IsS133.q0 HI483.out) (kqR HO494.out) (by decide)) hk (fun _ h => h.2)) (fun _ h => h.1)) hb hi; clear HO486 HO494 HB HI483; obtain ⟨HO486, HO494, HB, HI483⟩ := n_; (try clear hb hk hi)))
 go_ret3
 exact ⟨_, rq, kqR HO486.out, bq1 HB.out (IsS133.ge HI483.out)⟩

/-! ### spec_DrawFlushPort: function 58 -/
def spec_DrawFlushPort.f (k : Nat) (l0 : List Int) : Option ((List (S44)) × Int) := (spec_l1New.f k l0).bind fun bt498 => ((spec_l8Any.f k bt498.1 bt498.2.1 bt498.2.2).bind fun bt502 => ((spec_l1Int.f bt498.1 bt502.2.1 bt502.2.2 (([0, 1, 2, 3, (-1)] : List Int))).bind fun bt510 => (some (bt502.1, bt510.1))))
theorem spec_DrawFlushPort.mono : ∀ a0 k, LeO (spec_DrawFlushPort.f k a0) (spec_DrawFlushPort.f (k + 1) a0) := by
 intro a0 k
 unfold spec_DrawFlushPort.f
 repeat' first
  | (with_reducible exact spec_l1New.mono _ _)
  | (with_reducible exact spec_l8Any.mono _ _ _ _)
  | (with_reducible exact LeO.refl _)
  | (with_reducible exact LeO.none _)
  | (with_reducible refine LeO.ite ?_ ?_)
  | (with_reducible refine LeO.bind ?_ (fun _ => ?_))
  | exact spec_l1New.mono _ _
  | exact spec_l8Any.mono _ _ _ _
  | exact LeO.none _
  | refine LeO.ite ?_ ?_
  | refine LeO.bind ?_ (fun _ => ?_)
set_option maxHeartbeats 8000000 in
set_option maxRecDepth 100000 in
theorem spec_DrawFlushPort.calls (k : Nat) (A0 : Option Addr) (c0 : Nat) (l0 : List Int) (r1 : List (S44)) (r2 : Int) (w : World) (hr0 : Kd.C (Kd.int .u8) w A0 l0.length l0) (hc0 : l0.length ≤ c0) (h : spec_DrawFlushPort.f k l0 = some (r1, r2)) :
 Calls Try.prog 58 #[.slice A0 l0.length c0] w fun e w' => ∃ v0_ : Value, e = .returned (.tuple #[v0_, .int .i64 r2]) ∧ Kd.R k44 44 w' w.heap.size (fun _ => True) v0_ r1 ∧ Below w.heap.size w w' := by
 have HR0 := am hr0
 have HC0 := am hc0
 clear hr0 hc0
 have HB := am (Below.refl w.heap.size w)
 have H : ((spec_l1New.f k l0).bind fun bt498 => ((spec_l8Any.f k bt498.1 bt498.2.1 bt498.2.2).bind fun bt502 => ((spec_l1Int.f bt498.1 bt502.2.1 bt502.2.2 (([0, 1, 2, 3, (-1)] : List Int))).bind fun bt510 => (some (bt502.1, bt510.1))))) = some (r1, r2) := h
 clear h
 replace H := Option.bind_eq_some_iff.mp H
 obtain ⟨⟨t498, t499, t500⟩, A20, H⟩ := H
 replace H : ((spec_l8Any.f k t498 t499 t500).bind fun bt502 => ((spec_l1Int.f t498 bt502.2.1 bt502.2.2 (([0, 1, 2, 3, (-1)] : List Int))).bind fun bt510 => (some (bt502.1, bt510.1)))) = some (r1, r2) := H
 have A2 := am A20
 clear A20
 replace H := Option.bind_eq_some_iff.mp H
 obtain ⟨⟨t502, t505, t506⟩, A30, H⟩ := H
 replace H : ((spec_l1Int.f t498 t505 t506 (([0, 1, 2, 3, (-1)] : List Int))).bind fun bt510 => (some (t502, bt510.1))) = some (r1, r2) := H
 have A3 := am A30
 clear A30
 obtain ⟨y507, hy507⟩ : ∃ y_ : List Int, y_ = (([0, 1, 2, 3, (-1)] : List Int)) := ⟨_, rfl⟩
 replace H : ((spec_l1Int.f t498 t505 t506 y507).bind fun bt510 => (some (t502, bt510.1))) = some (r1, r2) := by first | (rw [hy507]; with_reducible exact H) | (have H2_ := (Option.bind_some _ _).symm.trans H; rw [hy507]; with_reducible exact H2_) | (have H2_ := (Option.bind_some _ _).symm.trans H; with_reducible exact H2_) | with_reducible exact H | (rw [hy507]; exact H) | exact H
 have Ny507 := am hy507
 clear hy507
 replace H := Option.bind_eq_some_iff.mp H
 obtain ⟨⟨t510, t511, t512⟩, A40, H⟩ := H
 replace H : (some (t502, t510)) = some (r1, r2) := H
 have A4 := am A40
 clear A40
 simp only [Option.some.injEq, Prod.mk.injEq] at H
 obtain ⟨rfl, rfl⟩ := H
 go_enter Try.func58, Try.ntmps58
 go_wp2_with (first | ((with_reducible refine gate_callee (f := 84) rfl ?_); refine goesL_ (some 6) rfl rfl Try.func84 (by kernel_rfl) rfl #[.slice A0 l0.length c0] rfl ga ?_; (with_reducible refine (spec_l1New.calls k _ _ l0 t498 t499 t500 w _ ?side1 ?side2 ?side3 A2.out).mono ?_); (case side1 => exact bq HB.out); (case side2 => exact HR0.out); (case side3 => exact HC0.out); rintro e w5 ⟨g501, rfl, hi, hb, hb2⟩; refine ⟨_, rfl, ?_⟩; have n_ := ak2 hb hi; clear HB; obtain ⟨HB, HI501⟩ := n_; (try clear hb hb2 hi)) | ((with_reducible refine gate_callee (f := 109) rfl ?_); refine goesL_ (some 8) rfl rfl Try.func109 (by kernel_rfl) rfl #[.pointer (some ⟨g501, 0, none⟩)] rfl ga ?_; (with_reducible refine (spec_l8Any.calls k g501 t498 t499 t500 t502 t505 t506 w _ ?side1 ?side2 A3.out).mono ?_); (case side1 => exact IsS133.q0 HI501.out); (case side2 => exact bq1 HB.out (IsS133.ge HI501.out)); rintro e w6 ⟨v503, rfl, ho0, hi, hb, hk⟩; refine ⟨_, rfl, ?_⟩; have n_ := ak3 (Kd.R_lower ho0 (below_size (bq1 HB.out (IsS133.ge HI501.out)))) hb hi; clear HB HI501; obtain ⟨HO504, HB, HI501⟩ := n_; (try clear hb hk hi ho0)) | ((with_reducible refine gate_dst (N := 10) rfl ?_); refine Kd.R_lit (Kd.int .i64) _ 3 ?hg (N := 10) ?hd (xs := ([0, 1, 2, 3, (-1)] : List Int)) (inner := [.int .i64 0, .int .i64 1, .int .i64 2, .int .i64 3, .int .i64 (-1)]) (ok := fun _ => True) (okp := fun _ => True) ?hr ?hp (fun _ hk => hk) trivial (Below.refl _ _) (Nat.le_refl _) (by simp) ?_; (case hd => rfl); (case hg => rfl); (case hr => exact gs); (case hp => exact (Reps.one (show Kd.M (Kd.int .i64) _ _ _ 0 [.int .i64 0] from rfl) (Reps.one (show Kd.M (Kd.int .i64) _ _ _ 1 [.int .i64 1] from rfl) (Reps.one (show Kd.M (Kd.int .i64) _ _ _ 2 [.int .i64 2] from rfl) (Reps.one (show Kd.M (Kd.int .i64) _ _ _ 3 [.int .i64 3] from rfl) (Reps.one (show Kd.M (Kd.int .i64) _ _ _ (-1) [.int .i64 (-1)] from rfl) (Reps.none _ _))))))); intro v508 w7 ho8 hb hg_ hnew_; clear hg_ hnew_; (first | rw [← Ny507.out] at ho8 | (simp only [Int.reduceToNat] at ho8; rw [← Ny507.out] at ho8)); have n_ := ak4 (Kd.R_below (kqR HO504.out) hb) (Kd.R_lower ho8 (below_size (bq1 HB.out (IsS133.ge HI501.out)))) (IsS133.below (IsS133.q0 HI501.out) hb) (below_step (bq1 HB.out (IsS133.ge HI501.out)) hb); clear HO504 HI501 HB; obtain ⟨HO504, HO509, HI501, HB⟩ := n_; clear hb ho8; obtain ⟨Ao9, co9, eo9⟩ := Kd.R_slice HO509.out; subst eo9) | ((with_reducible refine gate_callee (f := 110) rfl ?_); refine goesL_ (some 11) rfl rfl Try.func110 (by kernel_rfl) rfl #[.pointer (some ⟨g501, 0, none⟩), .slice Ao9 y507.length co9] rfl ga ?_; (with_reducible refine (spec_l1Int.calls g501 t498 t505 t506 _ _ y507 t510 t511 t512 w _ ?side1 ?side2 ?side3 ?side4 ?side5 A4.out).mono ?_); (case side1 => exact IsS133.q0 HI501.out); (case side2 => exact bq1 HB.out (IsS133.ge HI501.out)); (case side3 => repeat (first | exact (Kd.R_reads' HO509.out).2.2 | (with_reducible refine Kd.C_alloc ?_ _) | (with_reducible refine Kd.C_drewN ?_ _) | (with_reducible refine Kd.C_drew ?_))); (case side4 => exact (Kd.R_reads' HO509.out).2.1); (case side5 => exact far_slice (IsS133.own_ne HI501.out HO509.out (by decide))); rintro e w10 ⟨rfl, hi, hb, hk⟩; refine ⟨_, rfl, ?_⟩; have n_ := ak4 (Kd.R_mono (Kd.R_keep (IsS133.apart (show IsS133 w _ g501 t498 t505 t506 from IsS133.q0 HI501.out) (kqR HO504.out) (by decide)) hk (fun _ h => h.2)) (fun _ h => h.1)) (Kd.R_mono (Kd.R_keep (IsS133.apart (show IsS133 w _ g501 t498 t505 t506 from IsS133.q0 HI501.out) (kqR HO509.out) (by decide)) hk (fun _ h => h.2)) (fun _ h => h.1)) hb hi; clear HO504 HO509 HB HI501; obtain ⟨HO504, HO509, HB, HI501⟩ := n_; (try clear hb hk hi)))
 go_ret2
 exact ⟨_, rq, kqR HO504.out, bq1 HB.out (IsS133.ge HI501.out)⟩

/-! ### spec_NextEnt: function 59 -/
def spec_NextEnt.l0 : Nat → List (S44) → Int → Int → Int → Option (Int)
 | 0, _, _, _, _ => none
 | k + 1, x0, x1, x2, x7 => if x7 < (x0.length : Int) then (if 0 ≤ x7 then ((spec_l8Ahead.f ((rd_T44 x0 x7).f0) ((rd_T44 x0 x7).f1) ((rd_T44 x0 x7).f2) ((rd_T44 x0 x7).f3) ((rd_T44 x0 x7).f4) x1 x2).bind fun t514 => (if t514 = true then (spec_NextEnt.l0 k x0 x1 x2 (wrap64 (x7 + 1))) else (if ((rd_T44 x0 x7).f0) = x1 then (if ((rd_T44 x0 x7).f1) = x2 then (spec_NextEnt.l0 k x0 x1 x2 (wrap64 (x7 + 1))) else (some x7)) else (some x7)))) else (none)) else (some (-1))
def spec_NextEnt.f (k : Nat) (l0 : List (S44)) (a1 : Int) (a2 : Int) : Option (Int) := spec_NextEnt.l0 k l0 a1 a2 0
theorem spec_NextEnt.mono_l : ∀ k, (∀ y0 y1 y2 y3, LeO (spec_NextEnt.l0 k y0 y1 y2 y3) (spec_NextEnt.l0 (k + 1) y0 y1 y2 y3))
 | 0 => fun _ _ _ _ r h => by simp [spec_NextEnt.l0] at h
 | k + 1 => by
  have ih0 := spec_NextEnt.mono_l k
  intro y0 y1 y2 y3
  unfold spec_NextEnt.l0
  repeat' first
  | (with_reducible exact ih0 _ _ _ _)
  | (with_reducible exact LeO.refl _)
  | (with_reducible exact LeO.none _)
  | (with_reducible refine LeO.ite ?_ ?_)
  | (with_reducible refine LeO.bind ?_ (fun _ => ?_))
  | exact ih0 _ _ _ _
  | exact LeO.none _
  | refine LeO.ite ?_ ?_
  | refine LeO.bind ?_ (fun _ => ?_)
theorem spec_NextEnt.mono : ∀ a0 a1 a2 k, LeO (spec_NextEnt.f k a0 a1 a2) (spec_NextEnt.f (k + 1) a0 a1 a2) := by
 intro a0 a1 a2 k
 have ih0 := spec_NextEnt.mono_l k
 unfold spec_NextEnt.f
 repeat' first
  | (with_reducible exact ih0 _ _ _ _)
  | (with_reducible exact LeO.refl _)
  | (with_reducible exact LeO.none _)
  | (with_reducible refine LeO.ite ?_ ?_)
  | (with_reducible refine LeO.bind ?_ (fun _ => ?_))
  | exact ih0 _ _ _ _
  | exact LeO.none _
  | refine LeO.ite ?_ ?_
  | refine LeO.bind ?_ (fun _ => ?_)
set_option maxHeartbeats 8000000 in
set_option maxRecDepth 100000 in
theorem spec_NextEnt.calls (k : Nat) (A0 : Option Addr) (c0 : Nat) (l0 : List (S44)) (a1 : Int) (a2 : Int) (r : Int) (w : World) (hr0 : Kd.C k44 w A0 l0.length l0) (hc0 : l0.length ≤ c0) (h : spec_NextEnt.f k l0 a1 a2 = some r) :
 Calls Try.prog 59 #[.slice A0 l0.length c0, .int .i64 a1, .int .i64 a2] w fun e w' => e = .returned (.int .i64 r) ∧ Below w.heap.size w w' := by
 have hu44 := Try.underlying44
 have HR0 := am hr0
 have HC0 := am hc0
 clear hr0 hc0
 have HB := am (Below.refl w.heap.size w)
 have H : (spec_NextEnt.l0 k l0 a1 a2 0) = some r := h
 clear h
 have H' := am H
 clear H
 go_enter Try.func59, Try.ntmps59
 go_wp2
 go_loopg [7] k (fun kq v7 w' => ∃ (x7_1 : Int), v7 = .int .i64 x7_1 ∧ Aside0 (spec_NextEnt.l0 kq l0 a1 a2 x7_1 = some r) ∧ Aside0 (kq ≤ k) ∧ Aside0 (Below w.heap.size w w'))
 case atStart => exact ⟨(0), sq, H', ⟨Nat.le_refl _⟩, ⟨bq HB.out⟩⟩
 case round =>
  clear H'
  try clear p2
  obtain ⟨x7_1, rfl, HA, HK1, HB⟩ := hrel
  cases gk with
  | zero => exact absurd HA.out (by simp [spec_NextEnt.l0])
  | succ k1 =>
   have H := HA.out
   clear HA
   simp only [spec_NextEnt.l0] at H
   by_cases c4 : x7_1 < (l0.length : Int)
   · rw [if_pos c4] at H
     have c4b0 : decide (x7_1 < (l0.length : Int)) = true := decide_eq_true c4
     clear c4
     by_cases c5 : 0 ≤ x7_1
     · rw [if_pos c5] at H
       have c5b0 : decide (0 ≤ x7_1) = true := decide_eq_true c5
       clear c5
       replace H := Option.bind_eq_some_iff.mp H
       obtain ⟨t514, A60, H⟩ := H
       replace H : (if t514 = true then (spec_NextEnt.l0 k1 l0 a1 a2 (wrap64 (x7_1 + 1))) else (if ((rd_T44 l0 x7_1).f0) = a1 then (if ((rd_T44 l0 x7_1).f1) = a2 then (spec_NextEnt.l0 k1 l0 a1 a2 (wrap64 (x7_1 + 1))) else (some x7_1)) else (some x7_1))) = some r := H
       have A6 := am A60
       clear A60
       by_cases c7 : t514 = true
       · subst c7
         have H1 : (spec_NextEnt.l0 k1 l0 a1 a2 (wrap64 (x7_1 + 1))) = some r := by rw [if_pos rfl] at H; exact H
         clear H
         have H := H1
         clear H1
         have H' := am H
         clear H
         have p513 : 0 ≤ (x7_1 : Int) := oda
         have q513 : x7_1 < (l0.length : Int) := oda
         obtain ⟨ad513, e513, hx513_0, hx513_1, hx513_2, hx513_3, hx513_4⟩ := at_T44 HR0.out x7_1 p513 q513
         cases e513
         replace hx513_0 := (HB.out.cell (World.block_lt_of_cell? w _ hx513_0)).trans hx513_0
         replace hx513_1 := (HB.out.cell (World.block_lt_of_cell? w _ hx513_1)).trans hx513_1
         replace hx513_2 := (HB.out.cell (World.block_lt_of_cell? w _ hx513_2)).trans hx513_2
         replace hx513_3 := (HB.out.cell (World.block_lt_of_cell? w _ hx513_3)).trans hx513_3
         replace hx513_4 := (HB.out.cell (World.block_lt_of_cell? w _ hx513_4)).trans hx513_4
         replace p513 := eq_true p513
         replace q513 := eq_true q513
         go_wp2_with (first | ((with_reducible refine gate_callee (f := 112) rfl ?_); refine goesL_ (some 20) rfl rfl Try.func112 (by kernel_rfl) rfl #[.agg #[.int .i64 ((rd_T44 l0 x7_1).f0), .int .i64 ((rd_T44 l0 x7_1).f1), .int .i64 ((rd_T44 l0 x7_1).f2), .int .i64 ((rd_T44 l0 x7_1).f3), .bool ((rd_T44 l0 x7_1).f4)], .int .i64 a1, .int .i64 a2] rfl ga ?_; (with_reducible refine (spec_l8Ahead.calls ((rd_T44 l0 x7_1).f0) ((rd_T44 l0 x7_1).f1) ((rd_T44 l0 x7_1).f2) ((rd_T44 l0 x7_1).f3) ((rd_T44 l0 x7_1).f4) a1 a2 true _ A6.out).mono ?_); rintro e w8 ⟨rfl, hb⟩; refine ⟨_, rfl, ?_⟩; replace HB := am (below_step (bq HB.out) hb); (try clear hb)))
         go_roundg k1
         case measure => have := HK1.out; omega
         case rel => exact ⟨(wrap64 (x7_1 + 1)), sq, H', ⟨by have := HK1.out; omega⟩, ⟨bq HB.out⟩⟩
       replace c7 := Bool.eq_false_iff.mpr c7
       subst c7
       have H1 : (if ((rd_T44 l0 x7_1).f0) = a1 then (if ((rd_T44 l0 x7_1).f1) = a2 then (spec_NextEnt.l0 k1 l0 a1 a2 (wrap64 (x7_1 + 1))) else (some x7_1)) else (some x7_1)) = some r := by rw [if_neg (show ¬ (false = true) by decide)] at H; exact H
       clear H
       have H := H1
       clear H1
       by_cases c9 : ((rd_T44 l0 x7_1).f0) = a1
       · rw [if_pos c9] at H
         have c9b0 : (((rd_T44 l0 x7_1).f0) == a1) = true := beq_iff_eq.mpr c9
         have c9b1 : (((rd_T44 l0 x7_1).f0) != a1) = false := bne_eq_false_iff_eq.mpr c9
         clear c9
         by_cases c10 : ((rd_T44 l0 x7_1).f1) = a2
         · rw [if_pos c10] at H
           have c10b0 : (((rd_T44 l0 x7_1).f1) == a2) = true := beq_iff_eq.mpr c10
           have c10b1 : (((rd_T44 l0 x7_1).f1) != a2) = false := bne_eq_false_iff_eq.mpr c10
           clear c10
           have H' := am H
           clear H
           have p513 : 0 ≤ (x7_1 : Int) := oda
           have q513 : x7_1 < (l0.length : Int) := oda
           obtain ⟨ad513, e513, hx513_0, hx513_1, hx513_2, hx513_3, hx513_4⟩ := at_T44 HR0.out x7_1 p513 q513
           cases e513
           replace hx513_0 := (HB.out.cell (World.block_lt_of_cell? w _ hx513_0)).trans hx513_0
           replace hx513_1 := (HB.out.cell (World.block_lt_of_cell? w _ hx513_1)).trans hx513_1
           replace hx513_2 := (HB.out.cell (World.block_lt_of_cell? w _ hx513_2)).trans hx513_2
           replace hx513_3 := (HB.out.cell (World.block_lt_of_cell? w _ hx513_3)).trans hx513_3
           replace hx513_4 := (HB.out.cell (World.block_lt_of_cell? w _ hx513_4)).trans hx513_4
           replace p513 := eq_true p513
           replace q513 := eq_true q513
           go_wp2_with (first | ((with_reducible refine gate_callee (f := 112) rfl ?_); refine goesL_ (some 20) rfl rfl Try.func112 (by kernel_rfl) rfl #[.agg #[.int .i64 ((rd_T44 l0 x7_1).f0), .int .i64 ((rd_T44 l0 x7_1).f1), .int .i64 ((rd_T44 l0 x7_1).f2), .int .i64 ((rd_T44 l0 x7_1).f3), .bool ((rd_T44 l0 x7_1).f4)], .int .i64 a1, .int .i64 a2] rfl ga ?_; (with_reducible refine (spec_l8Ahead.calls ((rd_T44 l0 x7_1).f0) ((rd_T44 l0 x7_1).f1) ((rd_T44 l0 x7_1).f2) ((rd_T44 l0 x7_1).f3) ((rd_T44 l0 x7_1).f4) a1 a2 false _ A6.out).mono ?_); rintro e w11 ⟨rfl, hb⟩; refine ⟨_, rfl, ?_⟩; replace HB := am (below_step (bq HB.out) hb); (try clear hb); have p515 : 0 ≤ (x7_1 : Int) := oda; have q515 : x7_1 < (l0.length : Int) := oda; obtain ⟨ad515, e515, hx515_0, hx515_1, hx515_2, hx515_3, hx515_4⟩ := at_T44 HR0.out x7_1 p515 q515; obtain rfl : ad513 = ad515 := (by injection e515); replace hx515_0 := (HB.out.cell (World.block_lt_of_cell? w _ hx515_0)).trans hx515_0; replace hx515_1 := (HB.out.cell (World.block_lt_of_cell? w _ hx515_1)).trans hx515_1; replace hx515_2 := (HB.out.cell (World.block_lt_of_cell? w _ hx515_2)).trans hx515_2; replace hx515_3 := (HB.out.cell (World.block_lt_of_cell? w _ hx515_3)).trans hx515_3; replace hx515_4 := (HB.out.cell (World.block_lt_of_cell? w _ hx515_4)).trans hx515_4; replace p515 := eq_true p515; replace q515 := eq_true q515; have p516 : 0 ≤ (x7_1 : Int) := oda; have q516 : x7_1 < (l0.length : Int) := oda; obtain ⟨ad516, e516, hx516_0, hx516_1, hx516_2, hx516_3, hx516_4⟩ := at_T44 HR0.out x7_1 p516 q516; obtain rfl : ad513 = ad516 := (by injection e516); replace hx516_0 := (HB.out.cell (World.block_lt_of_cell? w _ hx516_0)).trans hx516_0; replace hx516_1 := (HB.out.cell (World.block_lt_of_cell? w _ hx516_1)).trans hx516_1; replace hx516_2 := (HB.out.cell (World.block_lt_of_cell? w _ hx516_2)).trans hx516_2; replace hx516_3 := (HB.out.cell (World.block_lt_of_cell? w _ hx516_3)).trans hx516_3; replace hx516_4 := (HB.out.cell (World.block_lt_of_cell? w _ hx516_4)).trans hx516_4; replace p516 := eq_true p516; replace q516 := eq_true q516))
           go_roundg k1
           case measure => have := HK1.out; omega
           case rel => exact ⟨(wrap64 (x7_1 + 1)), sq, H', ⟨by have := HK1.out; omega⟩, ⟨bq HB.out⟩⟩
         rw [if_neg c10] at H
         have c10b0 : (((rd_T44 l0 x7_1).f1) == a2) = false := beq_eq_false_iff_ne.mpr c10
         have c10b1 : (((rd_T44 l0 x7_1).f1) != a2) = true := bne_iff_ne.mpr c10
         obtain rfl := Option.some.inj H
         have p513 : 0 ≤ (x7_1 : Int) := oda
         have q513 : x7_1 < (l0.length : Int) := oda
         obtain ⟨ad513, e513, hx513_0, hx513_1, hx513_2, hx513_3, hx513_4⟩ := at_T44 HR0.out x7_1 p513 q513
         cases e513
         replace hx513_0 := (HB.out.cell (World.block_lt_of_cell? w _ hx513_0)).trans hx513_0
         replace hx513_1 := (HB.out.cell (World.block_lt_of_cell? w _ hx513_1)).trans hx513_1
         replace hx513_2 := (HB.out.cell (World.block_lt_of_cell? w _ hx513_2)).trans hx513_2
         replace hx513_3 := (HB.out.cell (World.block_lt_of_cell? w _ hx513_3)).trans hx513_3
         replace hx513_4 := (HB.out.cell (World.block_lt_of_cell? w _ hx513_4)).trans hx513_4
         replace p513 := eq_true p513
         replace q513 := eq_true q513
         go_wp2_with (first | ((with_reducible refine gate_callee (f := 112) rfl ?_); refine goesL_ (some 20) rfl rfl Try.func112 (by kernel_rfl) rfl #[.agg #[.int .i64 ((rd_T44 l0 x7_1).f0), .int .i64 ((rd_T44 l0 x7_1).f1), .int .i64 ((rd_T44 l0 x7_1).f2), .int .i64 ((rd_T44 l0 x7_1).f3), .bool ((rd_T44 l0 x7_1).f4)], .int .i64 a1, .int .i64 a2] rfl ga ?_; (with_reducible refine (spec_l8Ahead.calls ((rd_T44 l0 x7_1).f0) ((rd_T44 l0 x7_1).f1) ((rd_T44 l0 x7_1).f2) ((rd_T44 l0 x7_1).f3) ((rd_T44 l0 x7_1).f4) a1 a2 false _ A6.out).mono ?_); rintro e w12 ⟨rfl, hb⟩; refine ⟨_, rfl, ?_⟩; replace HB := am (below_step (bq HB.out) hb); (try clear hb); have p515 : 0 ≤ (x7_1 : Int) := oda; have q515 : x7_1 < (l0.length : Int) := oda; obtain ⟨ad515, e515, hx515_0, hx515_1, hx515_2, hx515_3, hx515_4⟩ := at_T44 HR0.out x7_1 p515 q515; obtain rfl : ad513 = ad515 := (by injection e515); replace hx515_0 := (HB.out.cell (World.block_lt_of_cell? w _ hx515_0)).trans hx515_0; replace hx515_1 := (HB.out.cell (World.block_lt_of_cell? w _ hx515_1)).trans hx515_1; replace hx515_2 := (HB.out.cell (World.block_lt_of_cell? w _ hx515_2)).trans hx515_2; replace hx515_3 := (HB.out.cell (World.block_lt_of_cell? w _ hx515_3)).trans hx515_3; replace hx515_4 := (HB.out.cell (World.block_lt_of_cell? w _ hx515_4)).trans hx515_4; replace p515 := eq_true p515; replace q515 := eq_true q515; have p516 : 0 ≤ (x7_1 : Int) := oda; have q516 : x7_1 < (l0.length : Int) := oda; obtain ⟨ad516, e516, hx516_0, hx516_1, hx516_2, hx516_3, hx516_4⟩ := at_T44 HR0.out x7_1 p516 q516; obtain rfl : ad513 = ad516 := (by injection e516); replace hx516_0 := (HB.out.cell (World.block_lt_of_cell? w _ hx516_0)).trans hx516_0; replace hx516_1 := (HB.out.cell (World.block_lt_of_cell? w _ hx516_1)).trans hx516_1; replace hx516_2 := (HB.out.cell (World.block_lt_of_cell? w _ hx516_2)).trans hx516_2; replace hx516_3 := (HB.out.cell (World.block_lt_of_cell? w _ hx516_3)).trans hx516_3; replace hx516_4 := (HB.out.cell (World.block_lt_of_cell? w _ hx516_4)).trans hx516_4; replace p516 := eq_true p516; replace q516 := eq_true q516))
         go_ret
         exact ⟨rq, bq HB.out⟩
       rw [if_neg c9] at H
       have c9b0 : (((rd_T44 l0 x7_1).f0) == a1) = false := beq_eq_false_iff_ne.mpr c9
       have c9b1 : (((rd_T44 l0 x7_1).f0) != a1) = true := bne_iff_ne.mpr c9
       obtain rfl := Option.some.inj H
       have p513 : 0 ≤ (x7_1 : Int) := oda
       have q513 : x7_1 < (l0.length : Int) := oda
       obtain ⟨ad513, e513, hx513_0, hx513_1, hx513_2, hx513_3, hx513_4⟩ := at_T44 HR0.out x7_1 p513 q513
       cases e513
       replace hx513_0 := (HB.out.cell (World.block_lt_of_cell? w _ hx513_0)).trans hx513_0
       replace hx513_1 := (HB.out.cell (World.block_lt_of_cell? w _ hx513_1)).trans hx513_1
       replace hx513_2 := (HB.out.cell (World.block_lt_of_cell? w _ hx513_2)).trans hx513_2
       replace hx513_3 := (HB.out.cell (World.block_lt_of_cell? w _ hx513_3)).trans hx513_3
       replace hx513_4 := (HB.out.cell (World.block_lt_of_cell? w _ hx513_4)).trans hx513_4
       replace p513 := eq_true p513
       replace q513 := eq_true q513
       go_wp2_with (first | ((with_reducible refine gate_callee (f := 112) rfl ?_); refine goesL_ (some 20) rfl rfl Try.func112 (by kernel_rfl) rfl #[.agg #[.int .i64 ((rd_T44 l0 x7_1).f0), .int .i64 ((rd_T44 l0 x7_1).f1), .int .i64 ((rd_T44 l0 x7_1).f2), .int .i64 ((rd_T44 l0 x7_1).f3), .bool ((rd_T44 l0 x7_1).f4)], .int .i64 a1, .int .i64 a2] rfl ga ?_; (with_reducible refine (spec_l8Ahead.calls ((rd_T44 l0 x7_1).f0) ((rd_T44 l0 x7_1).f1) ((rd_T44 l0 x7_1).f2) ((rd_T44 l0 x7_1).f3) ((rd_T44 l0 x7_1).f4) a1 a2 false _ A6.out).mono ?_); rintro e w13 ⟨rfl, hb⟩; refine ⟨_, rfl, ?_⟩; replace HB := am (below_step (bq HB.out) hb); (try clear hb); have p515 : 0 ≤ (x7_1 : Int) := oda; have q515 : x7_1 < (l0.length : Int) := oda; obtain ⟨ad515, e515, hx515_0, hx515_1, hx515_2, hx515_3, hx515_4⟩ := at_T44 HR0.out x7_1 p515 q515; obtain rfl : ad513 = ad515 := (by injection e515); replace hx515_0 := (HB.out.cell (World.block_lt_of_cell? w _ hx515_0)).trans hx515_0; replace hx515_1 := (HB.out.cell (World.block_lt_of_cell? w _ hx515_1)).trans hx515_1; replace hx515_2 := (HB.out.cell (World.block_lt_of_cell? w _ hx515_2)).trans hx515_2; replace hx515_3 := (HB.out.cell (World.block_lt_of_cell? w _ hx515_3)).trans hx515_3; replace hx515_4 := (HB.out.cell (World.block_lt_of_cell? w _ hx515_4)).trans hx515_4; replace p515 := eq_true p515; replace q515 := eq_true q515))
       go_ret
       exact ⟨rq, bq HB.out⟩
     rw [if_neg c5] at H
     exact absurd H (by simp)
   rw [if_neg c4] at H
   have c4b0 : decide (x7_1 < (l0.length : Int)) = false := decide_eq_false c4
   clear c4
   obtain rfl := Option.some.inj H
   go_wp2
   go_ret
   exact ⟨rq, bq HB.out⟩

end Go.Proofs.Ytebffdmkfkfoaaa.XFnFdbsBent
