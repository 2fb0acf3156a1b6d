/- The functions that one law reaches, as Lean functions, with their walks: printed by a program of this seat (wip/tools) out of the translation. -/
import Derived.Test.YthhnfmbfgplelaaXFnFramesx0
import Derived.Test.YthhnfmbfgplelaaXFnFramesx1
import Derived.Test.YthhnfmbfgplelaaXFnFramesx2
import Derived.Test.YthhnfmbfgplelaaXFnFramesx3
import Derived.Test.YthhnfmbfgplelaaXFnFramesx9
import Derived.Test.YthhnfmbfgplelaaXFnFramesx10
namespace Go.Proofs.Ythhnfmbfgplelaa.XFnFrames
open Go.RowKit Go.Proofs.YthhnfmbfgplelaaW.PrintWords Go.Proofs.YthhnfmbfgplelaaW.PrintLast Go.Proofs.YthhnfmbfgplelaaW.PrintMore
attribute [local go_sem] max2_int min2_int max_two min_two max_three min_three max_four min_four   -- for this text's walks alone
set_option linter.unusedVariables false
set_option linter.unusedSimpArgs false

/-! ### spec_GetInt: function 89 -/
mutual
def spec_GetInt.j0 : Nat → List Int → Int → Option (Int × Bool)
 | 0, _, _ => none
 | k + 1, x0, x4 => spec_GetInt.l0 k x0 x4 1
def spec_GetInt.l0 : Nat → List Int → Int → Int → Option (Int × Bool)
 | 0, _, _, _ => none
 | k + 1, x0, x4, x5 => if x5 < (x0.length : Int) then (if 0 ≤ x5 then (spec_GetInt.l0 k x0 (Go.bits .or .i64 (wrap64 (x4 * 256)) (wrap64 (rd x0 x5))) (wrap64 (x5 + 1))) else (none)) else ((spec_PutInt.f k x4).bind fun t512 => (if (t512.length : Int) = (x0.length : Int) then (some (x4, true)) else (some (0, false))))
end
def spec_GetInt.f (k : Nat) (l0 : List Int) : Option (Int × Bool) := (spec_l1In.f (l0.length : Int) 1 4).bind fun t509 => (if t509 = true then (if 0 < (l0.length : Int) then (if (wrap64 (rd l0 0)) > 127 then (spec_GetInt.j0 k l0 (wrap64 ((wrap64 (rd l0 0)) - 256))) else (spec_GetInt.j0 k l0 (wrap64 (rd l0 0)))) else (none)) else (some (0, false)))
theorem spec_GetInt.mono_l : ∀ k, (∀ y0 y1, LeO (spec_GetInt.j0 k y0 y1) (spec_GetInt.j0 (k + 1) y0 y1)) ∧ (∀ y0 y1 y2, LeO (spec_GetInt.l0 k y0 y1 y2) (spec_GetInt.l0 (k + 1) y0 y1 y2))
 | 0 => ⟨fun _ _ r h => by simp [spec_GetInt.j0] at h, fun _ _ _ r h => by simp [spec_GetInt.l0] at h⟩
 | k + 1 => by
  obtain ⟨ih0, ih1⟩ := spec_GetInt.mono_l k
  refine ⟨?_, ?_⟩
  · intro y0 y1
    unfold spec_GetInt.j0
    repeat' first
    | (with_reducible exact ih0 _ _)
    | (with_reducible exact ih1 _ _ _)
    | (with_reducible exact spec_PutInt.mono _ _)
    | (with_reducible exact LeO.refl _)
    | (with_reducible exact LeO.none _)
    | (with_reducible refine LeO.ite ?_ ?_)
    | (with_reducible refine LeO.bind ?_ (fun _ => ?_))
    | exact ih0 _ _
    | exact ih1 _ _ _
    | exact spec_PutInt.mono _ _
    | exact LeO.none _
    | refine LeO.ite ?_ ?_
    | refine LeO.bind ?_ (fun _ => ?_)
  intro y0 y1 y2
  unfold spec_GetInt.l0
  repeat' first
  | (with_reducible exact ih0 _ _)
  | (with_reducible exact ih1 _ _ _)
  | (with_reducible exact spec_PutInt.mono _ _)
  | (with_reducible exact LeO.refl _)
  | (with_reducible exact LeO.none _)
  | (with_reducible refine LeO.ite ?_ ?_)
  | (with_reducible refine LeO.bind ?_ (fun _ => ?_))
  | exact ih0 _ _
  | exact ih1 _ _ _
  | exact spec_PutInt.mono _ _
  | exact LeO.none _
  | refine LeO.ite ?_ ?_
  | refine LeO.bind ?_ (fun _ => ?_)
theorem spec_GetInt.mono : ∀ a0 k, LeO (spec_GetInt.f k a0) (spec_GetInt.f (k + 1) a0) := by
 intro a0 k
 obtain ⟨ih0, ih1⟩ := spec_GetInt.mono_l k
 unfold spec_GetInt.f
 repeat' first
  | (with_reducible exact ih0 _ _)
  | (with_reducible exact ih1 _ _ _)
  | (with_reducible exact spec_PutInt.mono _ _)
  | (with_reducible exact LeO.refl _)
  | (with_reducible exact LeO.none _)
  | (with_reducible refine LeO.ite ?_ ?_)
  | (with_reducible refine LeO.bind ?_ (fun _ => ?_))
  | exact ih0 _ _
  | exact ih1 _ _ _
  | exact spec_PutInt.mono _ _
  | exact LeO.none _
  | refine LeO.ite ?_ ?_
  | refine LeO.bind ?_ (fun _ => ?_)
set_option maxHeartbeats 8000000 in
set_option maxRecDepth 100000 in
theorem spec_GetInt.calls (k : Nat) (A0 : Option Addr) (c0 : Nat) (l0 : List Int) (r1 : Int) (r2 : Bool) (w : World) (hr0 : Kd.C (Kd.int .u8) w A0 l0.length l0) (hc0 : l0.length ≤ c0) (h : spec_GetInt.f k l0 = some (r1, r2)) :
 Calls Try.prog 89 #[.slice A0 l0.length c0] w fun e w' => e = .returned (.tuple #[.int .i64 r1, .bool r2]) ∧ Below w.heap.size w w' := by
 have HR0 := am hr0
 have HC0 := am hc0
 clear hr0 hc0
 have HB := am (Below.refl w.heap.size w)
 have H : ((spec_l1In.f (l0.length : Int) 1 4).bind fun t509 => (if t509 = true then (if 0 < (l0.length : Int) then (if (wrap64 (rd l0 0)) > 127 then (spec_GetInt.j0 k l0 (wrap64 ((wrap64 (rd l0 0)) - 256))) else (spec_GetInt.j0 k l0 (wrap64 (rd l0 0)))) else (none)) else (some (0, false)))) = some (r1, r2) := h
 clear h
 replace H := Option.bind_eq_some_iff.mp H
 obtain ⟨t509, A20, H⟩ := H
 replace H : (if t509 = true then (if 0 < (l0.length : Int) then (if (wrap64 (rd l0 0)) > 127 then (spec_GetInt.j0 k l0 (wrap64 ((wrap64 (rd l0 0)) - 256))) else (spec_GetInt.j0 k l0 (wrap64 (rd l0 0)))) else (none)) else (some (0, false))) = some (r1, r2) := H
 have A2 := am A20
 clear A20
 by_cases c3 : t509 = true
 · subst c3
   have H1 : (if 0 < (l0.length : Int) then (if (wrap64 (rd l0 0)) > 127 then (spec_GetInt.j0 k l0 (wrap64 ((wrap64 (rd l0 0)) - 256))) else (spec_GetInt.j0 k l0 (wrap64 (rd l0 0)))) else (none)) = some (r1, r2) := by rw [if_pos rfl] at H; exact H
   clear H
   have H := H1
   clear H1
   by_cases c4 : 0 < (l0.length : Int)
   · rw [if_pos c4] at H
     have c4b0 : decide (0 < (l0.length : Int)) = true := decide_eq_true c4
     have c4b1 : decide (0 < l0.length) = true := decide_eq_true (by omega)
     clear c4
     have HC5 := am H
     clear H
     go_enter Try.func89, Try.ntmps89
     go_upto_if 15 with (first | ((with_reducible refine gate_callee (f := 88) rfl ?_); refine goesL_ (some 8) rfl rfl Try.func88 (by kernel_rfl) rfl #[.int .i64 (l0.length : Int), .int .i64 1, .int .i64 4] rfl ga ?_; (with_reducible refine (spec_l1In.calls (l0.length : Int) 1 4 true _ A2.out).mono ?_); rintro e w' ⟨rfl, ⟨nd, rfl⟩⟩; refine ⟨_, rfl, ?_⟩; have p510 : 0 ≤ (0 : Int) := (by omega); have q510 : 0 < (l0.length : Int) := oda; obtain ⟨ad510, e510, hx510_0⟩ := Kd.at_int HR0.out 0 p510 q510; cases e510; have qi510 : (0 < l0.length) = True := eq_true (by omega); (try rw [show ((0 : Int)).toNat = 0 from rfl] at hx510_0); (try rw [Addr.add_zero'] at hx510_0); replace p510 := eq_true p510; replace q510 := eq_true q510))
     (try simp only [Act.put, List.setIfInBounds_toArray, List.set_cons_zero, List.set_cons_succ])
     go_cut [4] (fun v4 wc => ∃ (kq : Nat) (x4_4 : Int), v4 = .int .i64 x4_4 ∧ Aside0 (spec_GetInt.j0 kq l0 x4_4 = some (r1, r2)) ∧ Aside0 (kq ≤ k) ∧ Aside0 (Below w.heap.size w wc))
     case first =>
      have H := HC5.out
      clear HC5
      by_cases c6 : (wrap64 (rd l0 0)) > 127
      · rw [if_pos c6] at H
        have c6b0 : decide (127 < (wrap64 (rd l0 0))) = true := decide_eq_true c6
        clear c6
        (first | rw [c6b0] | (simp only [i64_w, i32_w]; rw [c6b0]) | skip)
        have H' := am H
        clear H
        go_wp2
        go_meet
        case rel => exact ⟨_, (wrap64 ((wrap64 (rd l0 0)) - 256)), sq, H', ⟨by first | omega | exact Nat.le_refl _⟩, ⟨bq HB.out⟩⟩
      rw [if_neg c6] at H
      have c6b0 : decide (127 < (wrap64 (rd l0 0))) = false := decide_eq_false c6
      clear c6
      (first | rw [c6b0] | (simp only [i64_w, i32_w]; rw [c6b0]) | skip)
      have H' := am H
      clear H
      go_wp2
      go_meet
      case rel => exact ⟨_, (wrap64 (rd l0 0)), sq, H', ⟨by first | omega | exact Nat.le_refl _⟩, ⟨bq HB.out⟩⟩
     case rest =>
      clear HC5
      try clear p2
      try clear c3
      try clear c4
      try clear c4b0
      try clear c4b1
      try clear p5
      try clear q5
      try clear hx5
      try clear qi5
      try clear c6
      try clear c6b0
      try clear p6
      try clear hx510_0
      try clear p510
      try clear q510
      obtain ⟨kq, x4_4, rfl, HA, HJ4, HB⟩ := hcut
      cases kq with
      | zero => exact absurd HA.out (by simp [spec_GetInt.j0])
      | succ kj4 =>
       have H := HA.out
       clear HA
       simp only [spec_GetInt.j0] at H
       have H' := am H
       clear H
       go_wp2
       go_loopg [4, 5] kj4 (fun kq v4 v5 w' => ∃ (x4_2 : Int) (x5_2 : Int), v4 = .int .i64 x4_2 ∧ v5 = .int .i64 x5_2 ∧ Aside0 (spec_GetInt.l0 kq l0 x4_2 x5_2 = some (r1, r2)) ∧ Aside0 (kq ≤ kj4) ∧ Aside0 (Below w.heap.size w w'))
       case atStart => exact ⟨(x4_4), (1), sq, sq, H', ⟨Nat.le_refl _⟩, ⟨bq HB.out⟩⟩
       case round =>
        clear H'
        try clear p2
        try clear c3
        try clear c4
        try clear c4b0
        try clear c4b1
        try clear p5
        try clear q5
        try clear hx5
        try clear qi5
        try clear c6
        try clear c6b0
        try clear p6
        try clear hx510_0
        try clear p2
        try clear p5
        try clear p510
        try clear p6
        try clear q5
        try clear q510
        obtain ⟨x4_2, x5_2, rfl, rfl, HA, HK2, HB⟩ := hrel
        cases gk with
        | zero => exact absurd HA.out (by simp [spec_GetInt.l0])
        | succ k2 =>
         have H := HA.out
         clear HA
         simp only [spec_GetInt.l0] at H
         by_cases c7 : x5_2 < (l0.length : Int)
         · rw [if_pos c7] at H
           have c7b0 : decide (x5_2 < (l0.length : Int)) = true := decide_eq_true c7
           clear c7
           by_cases c8 : 0 ≤ x5_2
           · rw [if_pos c8] at H
             have c8b0 : decide (0 ≤ x5_2) = true := decide_eq_true c8
             clear c8
             have H' := am H
             clear H
             have p511 : 0 ≤ (x5_2 : Int) := oda
             have q511 : x5_2 < (l0.length : Int) := oda
             obtain ⟨ad511, e511, hx511_0⟩ := Kd.at_int HR0.out x5_2 p511 q511
             obtain rfl : ad510 = ad511 := (by injection e511)
             replace hx511_0 := (HB.out.cell (World.block_lt_of_cell? w _ hx511_0)).trans hx511_0
             replace p511 := eq_true p511
             replace q511 := eq_true q511
             go_wp2
             go_roundg k2
             case measure => have := HJ4.out; have := HK2.out; omega
             case rel => exact ⟨(Go.bits .or .i64 (wrap64 (x4_2 * 256)) (wrap64 (rd l0 x5_2))), (wrap64 (x5_2 + 1)), sq, sq, H', ⟨by have := HJ4.out; have := HK2.out; omega⟩, ⟨bq HB.out⟩⟩
           rw [if_neg c8] at H
           exact absurd H (by simp)
         rw [if_neg c7] at H
         have c7b0 : decide (x5_2 < (l0.length : Int)) = false := decide_eq_false c7
         clear c7
         replace H := Option.bind_eq_some_iff.mp H
         obtain ⟨t512, A90, H⟩ := H
         replace H : (if (t512.length : Int) = (l0.length : Int) then (some (x4_2, true)) else (some (0, false))) = some (r1, r2) := H
         have A9 := am A90
         clear A90
         by_cases c10 : (t512.length : Int) = (l0.length : Int)
         · rw [if_pos c10] at H
           have c10b0 : ((t512.length : Int) == (l0.length : Int)) = true := beq_iff_eq.mpr c10
           have c10b1 : ((t512.length : Int) != (l0.length : Int)) = false := bne_eq_false_iff_eq.mpr c10
           have c10b2 : (t512.length == l0.length) = true := by first | simpa using c10 | (simp at c10 ⊢; omega)
           clear c10
           simp only [Option.some.injEq, Prod.mk.injEq] at H
           obtain ⟨rfl, rfl⟩ := H
           go_wp2_with (first | ((with_reducible refine gate_callee (f := 64) rfl ?_); refine goesL_ (some 33) rfl rfl Try.func64 (by kernel_rfl) rfl #[.int .i64 x4_2] rfl ga ?_; (with_reducible refine (spec_PutInt.calls k2 x4_2 t512 _ A9.out).mono ?_); rintro e w11 ⟨v513, rfl, ho0, hb⟩; refine ⟨_, rfl, ?_⟩; have n_ := ak2 (Kd.R_lower ho0 (below_size (bq HB.out))) (below_step (bq HB.out) hb); clear HB; obtain ⟨HO514, HB⟩ := n_; (try clear hb ho0); obtain ⟨Ao12, co12, eo12⟩ := Kd.R_slice HO514.out; subst eo12))
           go_ret2
           exact ⟨rq, bq HB.out⟩
         rw [if_neg c10] at H
         have c10b0 : ((t512.length : Int) == (l0.length : Int)) = false := beq_eq_false_iff_ne.mpr c10
         have c10b1 : ((t512.length : Int) != (l0.length : Int)) = true := bne_iff_ne.mpr c10
         have c10b2 : (t512.length == l0.length) = false := by first | simpa using c10 | (simp at c10 ⊢; omega)
         simp only [Option.some.injEq, Prod.mk.injEq] at H
         obtain ⟨rfl, rfl⟩ := H
         go_wp2_with (first | ((with_reducible refine gate_callee (f := 64) rfl ?_); refine goesL_ (some 33) rfl rfl Try.func64 (by kernel_rfl) rfl #[.int .i64 x4_2] rfl ga ?_; (with_reducible refine (spec_PutInt.calls k2 x4_2 t512 _ A9.out).mono ?_); rintro e w13 ⟨v513, rfl, ho0, hb⟩; refine ⟨_, rfl, ?_⟩; have n_ := ak2 (Kd.R_lower ho0 (below_size (bq HB.out))) (below_step (bq HB.out) hb); clear HB; obtain ⟨HO514, HB⟩ := n_; (try clear hb ho0); obtain ⟨Ao14, co14, eo14⟩ := Kd.R_slice HO514.out; subst eo14))
         go_ret2
         exact ⟨rq, bq HB.out⟩
   rw [if_neg c4] at H
   exact absurd H (by simp)
 replace c3 := Bool.eq_false_iff.mpr c3
 subst c3
 have H1 : (some (0, false)) = some (r1, r2) := by rw [if_neg (show ¬ (false = true) by decide)] at H; exact H
 clear H
 have H := H1
 clear H1
 simp only [Option.some.injEq, Prod.mk.injEq] at H
 obtain ⟨rfl, rfl⟩ := H
 go_enter Try.func89, Try.ntmps89
 go_wp2_with (first | ((with_reducible refine gate_callee (f := 88) rfl ?_); refine goesL_ (some 8) rfl rfl Try.func88 (by kernel_rfl) rfl #[.int .i64 (l0.length : Int), .int .i64 1, .int .i64 4] rfl ga ?_; (with_reducible refine (spec_l1In.calls (l0.length : Int) 1 4 false _ A2.out).mono ?_); rintro e w' ⟨rfl, ⟨nd, rfl⟩⟩; refine ⟨_, rfl, ?_⟩))
 go_ret2
 exact ⟨rq, bq HB.out⟩

/-! ### spec_l6Num: function 83 -/
def spec_l6Num.f (k : Nat) (s0_0 : List Int) (s0_1 : Int) (s0_2 : Bool) (a1 : Int) : Option (Int × Int × Bool) := (spec_l4Part.f k s0_0 s0_1 s0_2 a1).bind fun bt515 => ((spec_GetInt.f k bt515.1).bind fun bt520 => (if bt515.2.2 = true then (some (bt520.1, bt515.2.1, true)) else (some (bt520.1, bt515.2.1, !bt520.2))))
theorem spec_l6Num.mono : ∀ a0 a1 a2 a3 k, LeO (spec_l6Num.f k a0 a1 a2 a3) (spec_l6Num.f (k + 1) a0 a1 a2 a3) := by
 intro a0 a1 a2 a3 k
 unfold spec_l6Num.f
 repeat' first
  | (with_reducible exact spec_GetInt.mono _ _)
  | (with_reducible exact spec_l4Part.mono _ _ _ _ _)
  | (with_reducible exact LeO.refl _)
  | (with_reducible exact LeO.none _)
  | (with_reducible refine LeO.ite ?_ ?_)
  | (with_reducible refine LeO.bind ?_ (fun _ => ?_))
  | exact spec_GetInt.mono _ _
  | exact spec_l4Part.mono _ _ _ _ _
  | exact LeO.none _
  | refine LeO.ite ?_ ?_
  | refine LeO.bind ?_ (fun _ => ?_)
set_option maxHeartbeats 8000000 in
set_option maxRecDepth 100000 in
theorem spec_l6Num.calls (k : Nat) (g : Nat) (s0_0 : List Int) (s0_1 : Int) (s0_2 : Bool) (a1 : Int) (r1 : Int) (r2 : Int) (r3 : Bool) (w0 w : World) (hI : IsS99 w0 w g s0_0 s0_1 s0_2) (hB : Below w0.heap.size w0 w) (h : spec_l6Num.f k s0_0 s0_1 s0_2 a1 = some (r1, r2, r3)) :
 Calls Try.prog 83 #[.pointer (some ⟨g, 0, none⟩), .int .i64 a1] w fun e w' => e = .returned (.int .i64 r1) ∧ IsS99 w0 w' g s0_0 r2 r3 ∧ Below w0.heap.size w0 w' ∧ KeepBut w w' g none := by
 have HI0 := am hI
 have HK := am (KeepBut.refl w g none)
 have HL := am hB.size
 clear hI
 have HW0 := am hB.size
 have HB := am hB
 clear hB
 have H : ((spec_l4Part.f k s0_0 s0_1 s0_2 a1).bind fun bt515 => ((spec_GetInt.f k bt515.1).bind fun bt520 => (if bt515.2.2 = true then (some (bt520.1, bt515.2.1, true)) else (some (bt520.1, bt515.2.1, !bt520.2))))) = some (r1, r2, r3) := h
 clear h
 replace H := Option.bind_eq_some_iff.mp H
 obtain ⟨⟨t515, t518, t519⟩, A30, H⟩ := H
 replace H : ((spec_GetInt.f k t515).bind fun bt520 => (if t519 = true then (some (bt520.1, t518, true)) else (some (bt520.1, t518, !bt520.2)))) = some (r1, r2, r3) := H
 have A3 := am A30
 clear A30
 replace H := Option.bind_eq_some_iff.mp H
 obtain ⟨⟨t520, t521⟩, A40, H⟩ := H
 replace H : (if t519 = true then (some (t520, t518, true)) else (some (t520, t518, !t521))) = some (r1, r2, r3) := H
 have A4 := am A40
 clear A40
 by_cases c5 : t519 = true
 · subst c5
   have H1 : (some (t520, t518, true)) = some (r1, r2, r3) := by rw [if_pos rfl] at H; exact H
   clear H
   have H := H1
   clear H1
   simp only [Option.some.injEq, Prod.mk.injEq] at H
   obtain ⟨rfl, rfl, rfl⟩ := H
   go_enter Try.func83, Try.ntmps83
   go_wp2_with (first | ((with_reducible refine gate_callee (f := 85) rfl ?_); refine goesL_ (some 10) rfl rfl Try.func85 (by kernel_rfl) rfl #[.pointer (some ⟨g, 0, none⟩), .int .i64 a1] rfl ga ?_; (with_reducible refine (spec_l4Part.calls k g s0_0 s0_1 s0_2 a1 t515 t518 true w0 _ ?side1 ?side2 A3.out).mono ?_); (case side1 => exact IsS99.q0 HI0.out); (case side2 => exact bq1 HB.out (IsS99.ge HI0.out)); rintro e w6 ⟨v516, rfl, ho0, hi, hb, hk⟩; refine ⟨_, rfl, ?_⟩; have n_ := ak4 (Kd.R_lower ho0 (keep_size (w := w) (g := g) (row := none) (kp0 HK.out))) (KeepBut.trans (kp0 HK.out) hk (.inl rfl)) hb hi; clear HK HB HI0; obtain ⟨HO517, HK, HB, HI0⟩ := n_; (try clear hb hk hi ho0); obtain ⟨Ao7, co7, eo7⟩ := Kd.R_slice HO517.out; subst eo7) | ((with_reducible refine gate_callee (f := 89) rfl ?_); refine goesL_ (some 11) rfl rfl Try.func89 (by kernel_rfl) rfl #[.slice Ao7 t515.length co7] rfl ga ?_; (with_reducible refine (spec_GetInt.calls k _ _ t515 t520 t521 _ ?side1 ?side2 A4.out).mono ?_); (case side1 => repeat (first | exact (Kd.R_reads' HO517.out).2.2 | (with_reducible refine Kd.C_alloc ?_ _) | (with_reducible refine Kd.C_drewN ?_ _) | (with_reducible refine Kd.C_drew ?_))); (case side2 => exact (Kd.R_reads' HO517.out).2.1); rintro e w8 ⟨rfl, hb⟩; refine ⟨_, rfl, ?_⟩; have n_ := ak4 (Kd.R_below (kqR HO517.out) hb) (IsS99.below (IsS99.q0 HI0.out) hb) (KeepBut.trans (kp0 HK.out) (KeepBut.of_below hb g none) (.inl rfl)) (below_step (bq1 HB.out (IsS99.ge HI0.out)) hb); clear HO517 HI0 HK HB; obtain ⟨HO517, HI0, HK, HB⟩ := n_; (try clear hb); obtain ⟨ASz9_0, cSz9_0, HGz9, hgz9, HSz9_0⟩ := HI0.out; have hcz9_0 := cellS99_0 HGz9; have hcz9_1 := cellS99_1 HGz9; have hcz9_2 := cellS99_2 HGz9; have hfz9_1 := blk_frozen HGz9 1; have hfz9_2 := blk_frozen HGz9 2; clear HGz9 hgz9))
   go_ret
   exact ⟨rq, IsS99.q0 HI0.out, bq1 HB.out (IsS99.ge HI0.out), kp0 HK.out⟩
 replace c5 := Bool.eq_false_iff.mpr c5
 subst c5
 have H1 : (some (t520, t518, !t521)) = some (r1, r2, r3) := by rw [if_neg (show ¬ (false = true) by decide)] at H; exact H
 clear H
 have H := H1
 clear H1
 simp only [Option.some.injEq, Prod.mk.injEq] at H
 obtain ⟨rfl, rfl, rfl⟩ := H
 go_enter Try.func83, Try.ntmps83
 go_wp2_with (first | ((with_reducible refine gate_callee (f := 85) rfl ?_); refine goesL_ (some 10) rfl rfl Try.func85 (by kernel_rfl) rfl #[.pointer (some ⟨g, 0, none⟩), .int .i64 a1] rfl ga ?_; (with_reducible refine (spec_l4Part.calls k g s0_0 s0_1 s0_2 a1 t515 t518 false w0 _ ?side1 ?side2 A3.out).mono ?_); (case side1 => exact IsS99.q0 HI0.out); (case side2 => exact bq1 HB.out (IsS99.ge HI0.out)); rintro e w10 ⟨v516, rfl, ho0, hi, hb, hk⟩; refine ⟨_, rfl, ?_⟩; have n_ := ak4 (Kd.R_lower ho0 (keep_size (w := w) (g := g) (row := none) (kp0 HK.out))) (KeepBut.trans (kp0 HK.out) hk (.inl rfl)) hb hi; clear HK HB HI0; obtain ⟨HO517, HK, HB, HI0⟩ := n_; (try clear hb hk hi ho0); obtain ⟨Ao11, co11, eo11⟩ := Kd.R_slice HO517.out; subst eo11) | ((with_reducible refine gate_callee (f := 89) rfl ?_); refine goesL_ (some 11) rfl rfl Try.func89 (by kernel_rfl) rfl #[.slice Ao11 t515.length co11] rfl ga ?_; (with_reducible refine (spec_GetInt.calls k _ _ t515 t520 t521 _ ?side1 ?side2 A4.out).mono ?_); (case side1 => repeat (first | exact (Kd.R_reads' HO517.out).2.2 | (with_reducible refine Kd.C_alloc ?_ _) | (with_reducible refine Kd.C_drewN ?_ _) | (with_reducible refine Kd.C_drew ?_))); (case side2 => exact (Kd.R_reads' HO517.out).2.1); rintro e w12 ⟨rfl, hb⟩; refine ⟨_, rfl, ?_⟩; have n_ := ak4 (Kd.R_below (kqR HO517.out) hb) (IsS99.below (IsS99.q0 HI0.out) hb) (KeepBut.trans (kp0 HK.out) (KeepBut.of_below hb g none) (.inl rfl)) (below_step (bq1 HB.out (IsS99.ge HI0.out)) hb); clear HO517 HI0 HK HB; obtain ⟨HO517, HI0, HK, HB⟩ := n_; (try clear hb); obtain ⟨ASz13_0, cSz13_0, HGz13, hgz13, HSz13_0⟩ := HI0.out; have hcz13_0 := cellS99_0 HGz13; have hcz13_1 := cellS99_1 HGz13; have hcz13_2 := cellS99_2 HGz13; have hfz13_1 := blk_frozen HGz13 1; have hfz13_2 := blk_frozen HGz13 2; clear HGz13 hgz13))
 go_ret
 exact ⟨rq, IsS99.q0 HI0.out, bq1 HB.out (IsS99.ge HI0.out), kp0 HK.out⟩

/-! ### spec_GetFrame: function 28 -/
mutual
def spec_GetFrame.j0 : Nat → List Int → Bool → List Int → Int → Bool → Int → Int → Int → Option (Int × Int × Int × List Int × Bool)
 | 0, _, _, _, _, _, _, _, _ => none
 | k + 1, x0, x10, x524000, x524001, x524002, x525000, x525001, x525002 => if x10 = true then ((spec_l6Num.f k x524000 x524001 x524002 2).bind fun bt537 => (spec_GetFrame.j1 k x0 x10 x524000 bt537.2.1 bt537.2.2 x525000 x525001 bt537.1)) else (spec_GetFrame.j1 k x0 x10 x524000 x524001 x524002 x525000 x525001 x525002)
def spec_GetFrame.j1 : Nat → List Int → Bool → List Int → Int → Bool → Int → Int → Int → Option (Int × Int × Int × List Int × Bool)
 | 0, _, _, _, _, _, _, _, _ => none
 | k + 1, x0, x10, x524000, x524001, x524002, x525000, x525001, x525002 => (spec_l4Part.f k x524000 x524001 x524002 3).bind fun bt540 => (if bt540.2.2 = true then (some (0, 0, 0, ([] : List Int), false)) else (if bt540.2.1 = (x0.length : Int) then ((spec_FrameOk.f x525000 x525001 x525002 bt540.1).bind fun t545 => (if t545 = true then (if x10 = true then (if x525002 = 0 then (some (0, 0, 0, ([] : List Int), false)) else (some (x525000, x525001, x525002, bt540.1, true))) else (some (x525000, x525001, x525002, bt540.1, true))) else (some (0, 0, 0, ([] : List Int), false)))) else (some (0, 0, 0, ([] : List Int), false))))
end
def spec_GetFrame.f (k : Nat) (l0 : List Int) : Option (Int × Int × Int × List Int × Bool) := (spec_l6Num.f k l0 0 false 1).bind fun bt525 => ((spec_l6Num.f k l0 bt525.2.1 bt525.2.2 1).bind fun bt528 => ((spec_GetTlv.f k l0 bt528.2.1).bind fun bt531 => (if bt531.2.2.2 = true then (spec_GetFrame.j0 k l0 (bt531.1 == 2) l0 bt528.2.1 bt528.2.2 bt525.1 bt528.1 0) else (spec_GetFrame.j0 k l0 false l0 bt528.2.1 bt528.2.2 bt525.1 bt528.1 0))))
theorem spec_GetFrame.mono_l : ∀ k, (∀ y0 y1 y2 y3 y4 y5 y6 y7, LeO (spec_GetFrame.j0 k y0 y1 y2 y3 y4 y5 y6 y7) (spec_GetFrame.j0 (k + 1) y0 y1 y2 y3 y4 y5 y6 y7)) ∧ (∀ y0 y1 y2 y3 y4 y5 y6 y7, LeO (spec_GetFrame.j1 k y0 y1 y2 y3 y4 y5 y6 y7) (spec_GetFrame.j1 (k + 1) y0 y1 y2 y3 y4 y5 y6 y7))
 | 0 => ⟨fun _ _ _ _ _ _ _ _ r h => by simp [spec_GetFrame.j0] at h, fun _ _ _ _ _ _ _ _ r h => by simp [spec_GetFrame.j1] at h⟩
 | k + 1 => by
  obtain ⟨ih0, ih1⟩ := spec_GetFrame.mono_l k
  refine ⟨?_, ?_⟩
  · intro y0 y1 y2 y3 y4 y5 y6 y7
    unfold spec_GetFrame.j0
    repeat' first
    | (with_reducible exact ih0 _ _ _ _ _ _ _ _)
    | (with_reducible exact ih1 _ _ _ _ _ _ _ _)
    | (with_reducible exact spec_GetTlv.mono _ _ _)
    | (with_reducible exact spec_l4Part.mono _ _ _ _ _)
    | (with_reducible exact spec_l6Num.mono _ _ _ _ _)
    | (with_reducible exact LeO.refl _)
    | (with_reducible exact LeO.none _)
    | (with_reducible refine LeO.ite ?_ ?_)
    | (with_reducible refine LeO.bind ?_ (fun _ => ?_))
    | exact ih0 _ _ _ _ _ _ _ _
    | exact ih1 _ _ _ _ _ _ _ _
    | exact spec_GetTlv.mono _ _ _
    | exact spec_l4Part.mono _ _ _ _ _
    | exact spec_l6Num.mono _ _ _ _ _
    | exact LeO.none _
    | refine LeO.ite ?_ ?_
    | refine LeO.bind ?_ (fun _ => ?_)
  intro y0 y1 y2 y3 y4 y5 y6 y7
  unfold spec_GetFrame.j1
  repeat' first
  | (with_reducible exact ih0 _ _ _ _ _ _ _ _)
  | (with_reducible exact ih1 _ _ _ _ _ _ _ _)
  | (with_reducible exact spec_GetTlv.mono _ _ _)
  | (with_reducible exact spec_l4Part.mono _ _ _ _ _)
  | (with_reducible exact spec_l6Num.mono _ _ _ _ _)
  | (with_reducible exact LeO.refl _)
  | (with_reducible exact LeO.none _)
  | (with_reducible refine LeO.ite ?_ ?_)
  | (with_reducible refine LeO.bind ?_ (fun _ => ?_))
  | exact ih0 _ _ _ _ _ _ _ _
  | exact ih1 _ _ _ _ _ _ _ _
  | exact spec_GetTlv.mono _ _ _
  | exact spec_l4Part.mono _ _ _ _ _
  | exact spec_l6Num.mono _ _ _ _ _
  | exact LeO.none _
  | refine LeO.ite ?_ ?_
  | refine LeO.bind ?_ (fun _ => ?_)
theorem spec_GetFrame.mono : ∀ a0 k, LeO (spec_GetFrame.f k a0) (spec_GetFrame.f (k + 1) a0) := by
 intro a0 k
 obtain ⟨ih0, ih1⟩ := spec_GetFrame.mono_l k
 unfold spec_GetFrame.f
 repeat' first
  | (with_reducible exact ih0 _ _ _ _ _ _ _ _)
  | (with_reducible exact ih1 _ _ _ _ _ _ _ _)
  | (with_reducible exact spec_GetTlv.mono _ _ _)
  | (with_reducible exact spec_l4Part.mono _ _ _ _ _)
  | (with_reducible exact spec_l6Num.mono _ _ _ _ _)
  | (with_reducible exact LeO.refl _)
  | (with_reducible exact LeO.none _)
  | (with_reducible refine LeO.ite ?_ ?_)
  | (with_reducible refine LeO.bind ?_ (fun _ => ?_))
  | exact ih0 _ _ _ _ _ _ _ _
  | exact ih1 _ _ _ _ _ _ _ _
  | exact spec_GetTlv.mono _ _ _
  | exact spec_l4Part.mono _ _ _ _ _
  | exact spec_l6Num.mono _ _ _ _ _
  | exact LeO.none _
  | refine LeO.ite ?_ ?_
  | refine LeO.bind ?_ (fun _ => ?_)
set_option maxHeartbeats 8000000 in
set_option maxRecDepth 100000 in
theorem spec_GetFrame.calls (k : Nat) (A0 : Option Addr) (c0 : Nat) (l0 : List Int) (r1 : Int) (r2 : Int) (r3 : Int) (r4 : List Int) (r5 : Bool) (w : World) (hr0 : Kd.C (Kd.int .u8) w A0 l0.length l0) (hc0 : l0.length ≤ c0) (h : spec_GetFrame.f k l0 = some (r1, r2, r3, r4, r5)) :
 Calls Try.prog 28 #[.slice A0 l0.length c0] w fun e w' => ∃ v3_ : Value, e = .returned (.tuple #[.agg #[.int .i64 r1, .int .i64 r2, .int .i64 r3, v3_], .bool r5]) ∧ Kd.R (Kd.int .u8) 5 w' w.heap.size (fun _ => True) v3_ r4 ∧ Below w.heap.size w w' := by
 have hu38 := Try.underlying38
 have hu99 := Try.underlying99
 have HR0 := am hr0
 have HC0 := am hc0
 clear hr0 hc0
 have HB := am (Below.refl w.heap.size w)
 have H : ((spec_l6Num.f k l0 0 false 1).bind fun bt525 => ((spec_l6Num.f k l0 bt525.2.1 bt525.2.2 1).bind fun bt528 => ((spec_GetTlv.f k l0 bt528.2.1).bind fun bt531 => (if bt531.2.2.2 = true then (spec_GetFrame.j0 k l0 (bt531.1 == 2) l0 bt528.2.1 bt528.2.2 bt525.1 bt528.1 0) else (spec_GetFrame.j0 k l0 false l0 bt528.2.1 bt528.2.2 bt525.1 bt528.1 0))))) = some (r1, r2, r3, r4, r5) := h
 clear h
 replace H := Option.bind_eq_some_iff.mp H
 obtain ⟨⟨t525, t526, t527⟩, A20, H⟩ := H
 replace H : ((spec_l6Num.f k l0 t526 t527 1).bind fun bt528 => ((spec_GetTlv.f k l0 bt528.2.1).bind fun bt531 => (if bt531.2.2.2 = true then (spec_GetFrame.j0 k l0 (bt531.1 == 2) l0 bt528.2.1 bt528.2.2 t525 bt528.1 0) else (spec_GetFrame.j0 k l0 false l0 bt528.2.1 bt528.2.2 t525 bt528.1 0)))) = some (r1, r2, r3, r4, r5) := H
 have A2 := am A20
 clear A20
 replace H := Option.bind_eq_some_iff.mp H
 obtain ⟨⟨t528, t529, t530⟩, A30, H⟩ := H
 replace H : ((spec_GetTlv.f k l0 t529).bind fun bt531 => (if bt531.2.2.2 = true then (spec_GetFrame.j0 k l0 (bt531.1 == 2) l0 t529 t530 t525 t528 0) else (spec_GetFrame.j0 k l0 false l0 t529 t530 t525 t528 0))) = some (r1, r2, r3, r4, r5) := H
 have A3 := am A30
 clear A30
 replace H := Option.bind_eq_some_iff.mp H
 obtain ⟨⟨t531, t532, t533, t534⟩, A40, H⟩ := H
 replace H : (if t534 = true then (spec_GetFrame.j0 k l0 (t531 == 2) l0 t529 t530 t525 t528 0) else (spec_GetFrame.j0 k l0 false l0 t529 t530 t525 t528 0)) = some (r1, r2, r3, r4, r5) := H
 have A4 := am A40
 clear A40
 have HC5 := am H
 clear H
 go_enter Try.func28, Try.ntmps28
 go_upto_region 6 with (first | ((with_reducible refine gate_dst (N := 2) rfl ?_); (try (refine gate_guard (by rfl) ?_; dsimp only)); refine box_event ?hg (N := 2) ?hd (cs := #[.int .i64 0, .int .i64 0, .int .i64 0, .slice none 0 0]) (t := 38) ?hr ?_; (case hd => rfl); (case hg => rfl); (case hr => exact gs); intro gb522 hg w6 hbox hb; have n_ := ak4 (below_step (bq HB.out) hb) hbox ((by rw [hg]; exact (below_size (bq HB.out)) : w.heap.size ≤ gb522)) ((by rw [hg]; exact (below_size (bq HB.out)) : w.heap.size ≤ gb522)); clear HB; obtain ⟨HB, BK522, GW522, GE522⟩ := n_; clear hb hbox hg) | ((with_reducible refine gate_dst (N := 13) rfl ?_); (try (refine gate_guard (by rfl) ?_; dsimp only)); refine box_event ?hg (N := 13) ?hd (cs := #[.slice A0 l0.length c0, .int .i64 0, .bool false]) (t := 99) ?hr ?_; (case hd => rfl); (case hg => rfl); (case hr => exact gs); intro gb523 hg w7 hbox hb; have n_ := ak7 (blk_below (g := gb522) (o := .cells #[.int .i64 0, .int .i64 0, .int .i64 0, .slice none 0 0] 38 (0, 0)) (zq BK522.out) hb) (below_step (bq1 HB.out GE522.out) hb) hbox ((by rw [hg]; exact (below_size (bq1 HB.out GE522.out)) : w.heap.size ≤ gb523)) ((by rw [hg]; exact (below_size (bq1 HB.out GE522.out)) : w.heap.size ≤ gb523)) ((by rw [hg]; exact Nat.ne_of_lt (blk_lt (g := gb522) (o := .cells #[.int .i64 0, .int .i64 0, .int .i64 0, .slice none 0 0] 38 (0, 0)) (zq BK522.out)) : gb522 ≠ gb523)) ((by rw [hg]; exact Nat.ne_of_gt (blk_lt (g := gb522) (o := .cells #[.int .i64 0, .int .i64 0, .int .i64 0, .slice none 0 0] 38 (0, 0)) (zq BK522.out)) : gb523 ≠ gb522)); clear BK522 HB; obtain ⟨BK522, HB, BK523, GW523, GE523, NB522_523, NB523_522⟩ := n_; clear hb hbox hg) | ((with_reducible refine gate_dst (N := 5) rfl ?_); (try (refine gate_guard (by rfl) ?_; dsimp only)); refine box_event ?hg (N := 5) ?hd (cs := #[.int .i64 0, .int .i64 0, .int .i64 0, .slice none 0 0]) (t := 38) ?hr ?_; (case hd => rfl); (case hg => rfl); (case hr => exact gs); intro gb524 hg w8 hbox hb; have n_ := ak10 (blk_below (g := gb522) (o := .cells #[.int .i64 0, .int .i64 0, .int .i64 0, .slice none 0 0] 38 (0, 0)) (zq BK522.out) hb) (blk_below (g := gb523) (o := .cells #[.slice A0 l0.length c0, .int .i64 0, .bool false] 99 (0, 0)) (zq BK523.out) hb) (below_step (bq2 HB.out GE522.out GE523.out) hb) hbox ((by rw [hg]; exact (below_size (bq2 HB.out GE522.out GE523.out)) : w.heap.size ≤ gb524)) ((by rw [hg]; exact (below_size (bq2 HB.out GE522.out GE523.out)) : w.heap.size ≤ gb524)) ((by rw [hg]; exact Nat.ne_of_lt (blk_lt (g := gb522) (o := .cells #[.int .i64 0, .int .i64 0, .int .i64 0, .slice none 0 0] 38 (0, 0)) (zq BK522.out)) : gb522 ≠ gb524)) ((by rw [hg]; exact Nat.ne_of_gt (blk_lt (g := gb522) (o := .cells #[.int .i64 0, .int .i64 0, .int .i64 0, .slice none 0 0] 38 (0, 0)) (zq BK522.out)) : gb524 ≠ gb522)) ((by rw [hg]; exact Nat.ne_of_lt (blk_lt (g := gb523) (o := .cells #[.slice A0 l0.length c0, .int .i64 0, .bool false] 99 (0, 0)) (zq BK523.out)) : gb523 ≠ gb524)) ((by rw [hg]; exact Nat.ne_of_gt (blk_lt (g := gb523) (o := .cells #[.slice A0 l0.length c0, .int .i64 0, .bool false] 99 (0, 0)) (zq BK523.out)) : gb524 ≠ gb523)); clear BK522 BK523 HB; obtain ⟨BK522, BK523, HB, BK524, GW524, GE524, NB522_524, NB524_522, NB523_524, NB524_523⟩ := n_; clear hb hbox hg; have hnb9 := NB524_522.out; have hnc9 := NB522_524.out; have hnb10 := NB524_523.out; have hnc10 := NB523_524.out; have hcz11_0 : w8.cell? ⟨gb524, 0, none⟩ = some (.int .i64 0) := (blk_cell BK524.out 0).trans rfl; have hcz11_1 : w8.cell? ⟨gb524, 1, none⟩ = some (.int .i64 0) := (blk_cell BK524.out 1).trans rfl; have hcz11_2 : w8.cell? ⟨gb524, 2, none⟩ = some (.int .i64 0) := (blk_cell BK524.out 2).trans rfl; have hcz11_3 : w8.cell? ⟨gb524, 3, none⟩ = some (.slice none 0 0) := (blk_cell BK524.out 3).trans rfl; have hfz11_0 := blk_frozen BK524.out 0; have hfz11_1 := blk_frozen BK524.out 1; have hfz11_2 := blk_frozen BK524.out 2; have hfz11_3 := blk_frozen BK524.out 3) | ((with_reducible refine gate_store (t := 38) (p := 5) rfl ?_); refine store_event (t := 38) (p := 5) (v := ?vo_w12) (w1 := ((((w8.setCell ⟨gb524, 0, none⟩ (.int .i64 0)).setCell ⟨gb524, 1, none⟩ (.int .i64 0)).setCell ⟨gb524, 2, none⟩ (.int .i64 0)).setCell ⟨gb524, 3, none⟩ (.slice none 0 0))) ?hg ?ho ?hn ?hr ?_; (case ho => rfl); (case hg => rfl); (case hn => rfl); (case hr => exact gs); intro w12 hw; have n0_ : Aside0 (w12.heap[gb522]? = some (.cells #[.int .i64 0, .int .i64 0, .int .i64 0, .slice none 0 0] 38 (0, 0))) := ⟨(by rw [hw]; exact (by (with_reducible repeat (first | refine blk_drewN ?_ _ | refine blk_drew ?_ | refine blk_alloc ?_ _)); refine blk_far ?_ NB522_524.out _; (with_reducible repeat (first | refine blk_drewN ?_ _ | refine blk_drew ?_ | refine blk_alloc ?_ _)); refine blk_far ?_ NB522_524.out _; (with_reducible repeat (first | refine blk_drewN ?_ _ | refine blk_drew ?_ | refine blk_alloc ?_ _)); refine blk_far ?_ NB522_524.out _; (with_reducible repeat (first | refine blk_drewN ?_ _ | refine blk_drew ?_ | refine blk_alloc ?_ _)); refine blk_far ?_ NB522_524.out _; (with_reducible repeat (first | refine blk_drewN ?_ _ | refine blk_drew ?_ | refine blk_alloc ?_ _)); exact BK522.out))⟩; have n1_ : Aside0 (w12.heap[gb523]? = some (.cells #[.slice A0 l0.length c0, .int .i64 0, .bool false] 99 (0, 0))) := ⟨(by rw [hw]; exact (by (with_reducible repeat (first | refine blk_drewN ?_ _ | refine blk_drew ?_ | refine blk_alloc ?_ _)); refine blk_far ?_ NB523_524.out _; (with_reducible repeat (first | refine blk_drewN ?_ _ | refine blk_drew ?_ | refine blk_alloc ?_ _)); refine blk_far ?_ NB523_524.out _; (with_reducible repeat (first | refine blk_drewN ?_ _ | refine blk_drew ?_ | refine blk_alloc ?_ _)); refine blk_far ?_ NB523_524.out _; (with_reducible repeat (first | refine blk_drewN ?_ _ | refine blk_drew ?_ | refine blk_alloc ?_ _)); refine blk_far ?_ NB523_524.out _; (with_reducible repeat (first | refine blk_drewN ?_ _ | refine blk_drew ?_ | refine blk_alloc ?_ _)); exact BK523.out))⟩; have n2_ : Aside0 (w12.heap[gb524]? = some (.cells #[.int .i64 0, .int .i64 0, .int .i64 0, .slice none 0 0] 38 (0, 0))) := ⟨(by rw [hw]; exact (by (with_reducible repeat (first | refine blk_drewN ?_ _ | refine blk_drew ?_ | refine blk_alloc ?_ _)); refine blk_put (cs := #[.int .i64 0, .int .i64 0, .int .i64 0, .slice none 0 0]) ?_ 3 _ rfl; (with_reducible repeat (first | refine blk_drewN ?_ _ | refine blk_drew ?_ | refine blk_alloc ?_ _)); refine blk_put (cs := #[.int .i64 0, .int .i64 0, .int .i64 0, .slice none 0 0]) ?_ 2 _ rfl; (with_reducible repeat (first | refine blk_drewN ?_ _ | refine blk_drew ?_ | refine blk_alloc ?_ _)); refine blk_put (cs := #[.int .i64 0, .int .i64 0, .int .i64 0, .slice none 0 0]) ?_ 1 _ rfl; (with_reducible repeat (first | refine blk_drewN ?_ _ | refine blk_drew ?_ | refine blk_alloc ?_ _)); refine blk_put (cs := #[.int .i64 0, .int .i64 0, .int .i64 0, .slice none 0 0]) ?_ 0 _ rfl; (with_reducible repeat (first | refine blk_drewN ?_ _ | refine blk_drew ?_ | refine blk_alloc ?_ _)); exact BK524.out))⟩; have n3_ : Aside0 (Below w.heap.size w w12) := ⟨(by rw [hw]; exact (bq3 HB.out GE522.out GE523.out GE524.out))⟩; clear hw; clear BK522; clear BK523; clear BK524; clear HB; have BK522 := n0_; have BK523 := n1_; have BK524 := n2_; have HB := n3_; clear n0_ n1_ n2_ n3_; have HI523 := am (show IsS99 w w12 gb523 l0 0 false from ⟨_, _, BK523.out, GE523.out, ⟨HR0.out, HC0.out⟩⟩); clear BK523) | ((with_reducible refine gate_callee (f := 83) rfl ?_); refine goesL_ (some 16) rfl rfl Try.func83 (by kernel_rfl) rfl #[.pointer (some ⟨gb523, 0, none⟩), .int .i64 1] rfl ga ?_; (with_reducible refine (spec_l6Num.calls k gb523 l0 0 false 1 t525 t526 t527 w _ ?side1 ?side2 A2.out).mono ?_); (case side1 => exact IsS99.q2 HI523.out NB523_522.out NB523_524.out); (case side2 => exact bq3 HB.out (IsS99.ge HI523.out) GE522.out GE524.out); rintro e w13 ⟨rfl, hi, hb, hk⟩; refine ⟨_, rfl, ?_⟩; have n_ := ak4 (KeepBut.blk hk (g' := gb522) (o := .cells #[.int .i64 0, .int .i64 0, .int .i64 0, .slice none 0 0] 38 (0, 0)) (zq BK522.out) NB522_523.out (by simp)) (KeepBut.blk hk (g' := gb524) (o := .cells #[.int .i64 0, .int .i64 0, .int .i64 0, .slice none 0 0] 38 (0, 0)) (zq BK524.out) NB524_523.out (by simp)) hb hi; clear BK522 BK524 HB HI523; obtain ⟨BK522, BK524, HB, HI523⟩ := n_; (try clear hb hk hi); have hcz14_0 : w13.cell? ⟨gb524, 0, none⟩ = some (.int .i64 0) := (blk_cell BK524.out 0).trans rfl; have hcz14_1 : w13.cell? ⟨gb524, 1, none⟩ = some (.int .i64 0) := (blk_cell BK524.out 1).trans rfl; have hcz14_2 : w13.cell? ⟨gb524, 2, none⟩ = some (.int .i64 0) := (blk_cell BK524.out 2).trans rfl; have hcz14_3 : w13.cell? ⟨gb524, 3, none⟩ = some (.slice none 0 0) := (blk_cell BK524.out 3).trans rfl; have hfz14_0 := blk_frozen BK524.out 0; have hfz14_1 := blk_frozen BK524.out 1; have hfz14_2 := blk_frozen BK524.out 2; have hfz14_3 := blk_frozen BK524.out 3) | ((with_reducible refine gate_callee (f := 83) rfl ?_); refine goesL_ (some 19) rfl rfl Try.func83 (by kernel_rfl) rfl #[.pointer (some ⟨gb523, 0, none⟩), .int .i64 1] rfl ga ?_; (with_reducible refine (spec_l6Num.calls k gb523 l0 t526 t527 1 t528 t529 t530 w _ ?side1 ?side2 A3.out).mono ?_); (case side1 => exact IsS99.q2 HI523.out NB523_522.out NB523_524.out); (case side2 => exact bq3 HB.out (IsS99.ge HI523.out) GE522.out GE524.out); rintro e w15 ⟨rfl, hi, hb, hk⟩; refine ⟨_, rfl, ?_⟩; have n_ := ak4 (KeepBut.blk hk (g' := gb522) (o := .cells #[.int .i64 0, .int .i64 0, .int .i64 0, .slice none 0 0] 38 (0, 0)) (by (with_reducible repeat (first | refine blk_drewN ?_ _ | refine blk_drew ?_ | refine blk_alloc ?_ _)); refine blk_far ?_ NB522_524.out _; (with_reducible repeat (first | refine blk_drewN ?_ _ | refine blk_drew ?_ | refine blk_alloc ?_ _)); exact BK522.out) NB522_523.out (by simp)) (KeepBut.blk hk (g' := gb524) (o := .cells #[.int .i64 t525, .int .i64 0, .int .i64 0, .slice none 0 0] 38 (0, 0)) (by (with_reducible repeat (first | refine blk_drewN ?_ _ | refine blk_drew ?_ | refine blk_alloc ?_ _)); refine blk_put (cs := #[.int .i64 0, .int .i64 0, .int .i64 0, .slice none 0 0]) ?_ 0 _ rfl; (with_reducible repeat (first | refine blk_drewN ?_ _ | refine blk_drew ?_ | refine blk_alloc ?_ _)); exact BK524.out) NB524_523.out (by simp)) hb hi; clear BK522 BK524 HB HI523; obtain ⟨BK522, BK524, HB, HI523⟩ := n_; (try clear hb hk hi); have hcz16_0 : w15.cell? ⟨gb524, 0, none⟩ = some (.int .i64 t525) := (blk_cell BK524.out 0).trans rfl; have hcz16_1 : w15.cell? ⟨gb524, 1, none⟩ = some (.int .i64 0) := (blk_cell BK524.out 1).trans rfl; have hcz16_2 : w15.cell? ⟨gb524, 2, none⟩ = some (.int .i64 0) := (blk_cell BK524.out 2).trans rfl; have hcz16_3 : w15.cell? ⟨gb524, 3, none⟩ = some (.slice none 0 0) := (blk_cell BK524.out 3).trans rfl; have hfz16_0 := blk_frozen BK524.out 0; have hfz16_1 := blk_frozen BK524.out 1; have hfz16_2 := blk_frozen BK524.out 2; have hfz16_3 := blk_frozen BK524.out 3; obtain ⟨ASz17_0, cSz17_0, HGz17, hgz17, HSz17_0⟩ := HI523.out; have hcz17_0 := cellS99_0 HGz17; have hcz17_1 := cellS99_1 HGz17; have hcz17_2 := cellS99_2 HGz17; have hfz17_1 := blk_frozen HGz17 1; have hfz17_2 := blk_frozen HGz17 2; clear HGz17 hgz17) | ((with_reducible refine gate_callee (f := 84) rfl ?_); refine goesL_ (some 27) rfl rfl Try.func84 (by kernel_rfl) rfl #[.slice A0 l0.length c0, .int .i64 t529] rfl ga ?_; (with_reducible refine (spec_GetTlv.calls k _ _ l0 t529 t531 t532 t533 t534 _ ?side1 ?side2 A4.out).mono ?_); (case side1 => exact Kd.C_below HR0.out (bq3 HB.out (IsS99.ge HI523.out) GE522.out GE524.out)); (case side2 => exact HC0.out); rintro e w18 ⟨v535, rfl, ho0, hb⟩; refine ⟨_, rfl, ?_⟩; have n_ := ak5 (Kd.R_lower ho0 (below_size (bq3 HB.out (IsS99.ge HI523.out) GE522.out GE524.out))) (blk_below (g := gb522) (o := .cells #[.int .i64 0, .int .i64 0, .int .i64 0, .slice none 0 0] 38 (0, 0)) (by (with_reducible repeat (first | refine blk_drewN ?_ _ | refine blk_drew ?_ | refine blk_alloc ?_ _)); refine blk_far ?_ NB522_524.out _; (with_reducible repeat (first | refine blk_drewN ?_ _ | refine blk_drew ?_ | refine blk_alloc ?_ _)); exact BK522.out) hb) (blk_below (g := gb524) (o := .cells #[.int .i64 t525, .int .i64 t528, .int .i64 0, .slice none 0 0] 38 (0, 0)) (by (with_reducible repeat (first | refine blk_drewN ?_ _ | refine blk_drew ?_ | refine blk_alloc ?_ _)); refine blk_put (cs := #[.int .i64 t525, .int .i64 0, .int .i64 0, .slice none 0 0]) ?_ 1 _ rfl; (with_reducible repeat (first | refine blk_drewN ?_ _ | refine blk_drew ?_ | refine blk_alloc ?_ _)); exact BK524.out) hb) (IsS99.below (show IsS99 w (w15.setCell ⟨gb524, 1, none⟩ (.int .i64 t528)) gb523 l0 t529 t530 from IsS99.q2 HI523.out NB523_522.out NB523_524.out) hb) (below_step (bq3 HB.out (IsS99.ge HI523.out) GE522.out GE524.out) hb); clear BK522 BK524 HI523 HB; obtain ⟨HO536, BK522, BK524, HI523, HB⟩ := n_; (try clear hb ho0)))
 (try simp only [Act.put, List.setIfInBounds_toArray, List.set_cons_zero, List.set_cons_succ])
 go_cut [10] (fun v10 wc => ∃ (kq : Nat) (x10_4 : Bool), v10 = .bool x10_4 ∧ Aside0 (spec_GetFrame.j0 kq l0 x10_4 l0 t529 t530 t525 t528 0 = some (r1, r2, r3, r4, r5)) ∧ Aside0 (kq ≤ k) ∧ Aside0 (wc.heap[gb522]? = some (.cells #[.int .i64 0, .int .i64 0, .int .i64 0, (.slice none 0 0)] 38 (0, 0))) ∧ Aside0 (wc.heap[gb524]? = some (.cells #[.int .i64 t525, .int .i64 t528, .int .i64 0, (.slice none 0 0)] 38 (0, 0))) ∧ Aside0 (IsS99 w wc gb523 l0 t529 t530) ∧ Aside0 (Below w.heap.size w wc))
 case first =>
  have H := HC5.out
  clear HC5
  by_cases c19 : t534 = true
  · subst c19
    have H1 : (spec_GetFrame.j0 k l0 (t531 == 2) l0 t529 t530 t525 t528 0) = some (r1, r2, r3, r4, r5) := by rw [if_pos rfl] at H; exact H
    clear H
    have H := H1
    clear H1
    have H' := am H
    clear H
    go_wp2
    go_meet
    case rel => exact ⟨_, ((t531 == 2)), sq, H', ⟨by first | omega | exact Nat.le_refl _⟩, ⟨zq BK522.out⟩, ⟨zq BK524.out⟩, ⟨IsS99.q2 HI523.out NB523_522.out NB523_524.out⟩, ⟨bq3 HB.out (IsS99.ge HI523.out) GE522.out GE524.out⟩⟩
  replace c19 := Bool.eq_false_iff.mpr c19
  subst c19
  have H1 : (spec_GetFrame.j0 k l0 false l0 t529 t530 t525 t528 0) = some (r1, r2, r3, r4, r5) := by rw [if_neg (show ¬ (false = true) by decide)] at H; exact H
  clear H
  have H := H1
  clear H1
  have H' := am H
  clear H
  go_wp2
  go_meet
  case rel => exact ⟨_, (false), sq, H', ⟨by first | omega | exact Nat.le_refl _⟩, ⟨zq BK522.out⟩, ⟨zq BK524.out⟩, ⟨IsS99.q2 HI523.out NB523_522.out NB523_524.out⟩, ⟨bq3 HB.out (IsS99.ge HI523.out) GE522.out GE524.out⟩⟩
 case rest =>
  clear HC5
  try clear c1
  try clear c2
  try clear p2
  try clear c8
  try clear c9
  try clear c10
  try clear c19
  try clear hcz11_0
  try clear hcz11_1
  try clear hcz11_2
  try clear hcz11_3
  try clear hcz14_0
  try clear hcz14_1
  try clear hcz14_2
  try clear hcz14_3
  try clear hcz16_0
  try clear hcz16_1
  try clear hcz16_2
  try clear hcz16_3
  try clear hcz17_0
  try clear hcz17_1
  try clear hcz17_2
  try clear hfz11_0
  try clear hfz11_1
  try clear hfz11_2
  try clear hfz11_3
  try clear hfz14_0
  try clear hfz14_1
  try clear hfz14_2
  try clear hfz14_3
  try clear hfz16_0
  try clear hfz16_1
  try clear hfz16_2
  try clear hfz16_3
  try clear hfz17_1
  try clear hfz17_2
  obtain ⟨kq, x10_4, rfl, HA, HJ4, BK522, BK524, HI523, HB⟩ := hcut
  cases kq with
  | zero => exact absurd HA.out (by simp [spec_GetFrame.j0])
  | succ kj4 =>
   have H := HA.out
   clear HA
   simp only [spec_GetFrame.j0] at H
   have HC20 := am H
   clear H
   go_upto_if 37 with (fail)
   go_cut [] (fun wc => ∃ (kq : Nat) (x524001_19 : Int) (x524002_19 : Bool) (x525002_19 : Int), Aside0 (spec_GetFrame.j1 kq l0 x10_4 l0 x524001_19 x524002_19 t525 t528 x525002_19 = some (r1, r2, r3, r4, r5)) ∧ Aside0 (kq ≤ kj4) ∧ Aside0 (wc.heap[gb522]? = some (.cells #[.int .i64 0, .int .i64 0, .int .i64 0, (.slice none 0 0)] 38 (0, 0))) ∧ Aside0 (wc.heap[gb524]? = some (.cells #[.int .i64 t525, .int .i64 t528, .int .i64 x525002_19, (.slice none 0 0)] 38 (0, 0))) ∧ Aside0 (IsS99 w wc gb523 l0 x524001_19 x524002_19) ∧ Aside0 (Below w.heap.size w wc))
   case first =>
    have H := HC20.out
    clear HC20
    by_cases c21 : x10_4 = true
    · subst c21
      have H1 : ((spec_l6Num.f kj4 l0 t529 t530 2).bind fun bt537 => (spec_GetFrame.j1 kj4 l0 true l0 bt537.2.1 bt537.2.2 t525 t528 bt537.1)) = some (r1, r2, r3, r4, r5) := by rw [if_pos rfl] at H; exact H
      clear H
      have H := H1
      clear H1
      replace H := Option.bind_eq_some_iff.mp H
      obtain ⟨⟨t537, t538, t539⟩, A220, H⟩ := H
      replace H : (spec_GetFrame.j1 kj4 l0 true l0 t538 t539 t525 t528 t537) = some (r1, r2, r3, r4, r5) := H
      have A22 := am A220
      clear A220
      have H' := am H
      clear H
      go_wp2_with (first | ((with_reducible refine gate_callee (f := 83) rfl ?_); refine goesL_ (some 39) rfl rfl Try.func83 (by kernel_rfl) rfl #[.pointer (some ⟨gb523, 0, none⟩), .int .i64 2] rfl ga ?_; (with_reducible refine (spec_l6Num.calls kj4 gb523 l0 t529 t530 2 t537 t538 t539 w _ ?side1 ?side2 A22.out).mono ?_); (case side1 => exact IsS99.q2 HI523.out NB523_522.out NB523_524.out); (case side2 => exact bq3 HB.out (IsS99.ge HI523.out) GE522.out GE524.out); rintro e w23 ⟨rfl, hi, hb, hk⟩; refine ⟨_, rfl, ?_⟩; have n_ := ak4 (KeepBut.blk hk (g' := gb522) (o := .cells #[.int .i64 0, .int .i64 0, .int .i64 0, .slice none 0 0] 38 (0, 0)) (zq BK522.out) NB522_523.out (by simp)) (KeepBut.blk hk (g' := gb524) (o := .cells #[.int .i64 t525, .int .i64 t528, .int .i64 0, .slice none 0 0] 38 (0, 0)) (zq BK524.out) NB524_523.out (by simp)) hb hi; clear BK522 BK524 HB HI523; obtain ⟨BK522, BK524, HB, HI523⟩ := n_; (try clear hb hk hi); have hnb24 := NB524_522.out; have hnc24 := NB522_524.out; have hnb25 := NB524_523.out; have hnc25 := NB523_524.out; have hcz26_0 : w23.cell? ⟨gb524, 0, none⟩ = some (.int .i64 t525) := (blk_cell BK524.out 0).trans rfl; have hcz26_1 : w23.cell? ⟨gb524, 1, none⟩ = some (.int .i64 t528) := (blk_cell BK524.out 1).trans rfl; have hcz26_2 : w23.cell? ⟨gb524, 2, none⟩ = some (.int .i64 0) := (blk_cell BK524.out 2).trans rfl; have hcz26_3 : w23.cell? ⟨gb524, 3, none⟩ = some (.slice none 0 0) := (blk_cell BK524.out 3).trans rfl; have hfz26_0 := blk_frozen BK524.out 0; have hfz26_1 := blk_frozen BK524.out 1; have hfz26_2 := blk_frozen BK524.out 2; have hfz26_3 := blk_frozen BK524.out 3))
      go_meet
      case rel => exact ⟨_, (t538), (t539), (t537), H', ⟨by have := HJ4.out; first | omega | exact Nat.le_refl _⟩, ⟨by (with_reducible repeat (first | refine blk_drewN ?_ _ | refine blk_drew ?_ | refine blk_alloc ?_ _)); refine blk_far ?_ NB522_524.out _; (with_reducible repeat (first | refine blk_drewN ?_ _ | refine blk_drew ?_ | refine blk_alloc ?_ _)); exact BK522.out⟩, ⟨by (with_reducible repeat (first | refine blk_drewN ?_ _ | refine blk_drew ?_ | refine blk_alloc ?_ _)); refine blk_put (cs := #[.int .i64 t525, .int .i64 t528, .int .i64 0, .slice none 0 0]) ?_ 2 _ rfl; (with_reducible repeat (first | refine blk_drewN ?_ _ | refine blk_drew ?_ | refine blk_alloc ?_ _)); exact BK524.out⟩, ⟨IsS99.q2 HI523.out NB523_522.out NB523_524.out⟩, ⟨bq3 HB.out (IsS99.ge HI523.out) GE522.out GE524.out⟩⟩
    replace c21 := Bool.eq_false_iff.mpr c21
    subst c21
    have H1 : (spec_GetFrame.j1 kj4 l0 false l0 t529 t530 t525 t528 0) = some (r1, r2, r3, r4, r5) := by rw [if_neg (show ¬ (false = true) by decide)] at H; exact H
    clear H
    have H := H1
    clear H1
    have H' := am H
    clear H
    go_wp2
    go_meet
    case rel => exact ⟨_, (t529), (t530), (0), H', ⟨by have := HJ4.out; first | omega | exact Nat.le_refl _⟩, ⟨zq BK522.out⟩, ⟨zq BK524.out⟩, ⟨IsS99.q2 HI523.out NB523_522.out NB523_524.out⟩, ⟨bq3 HB.out (IsS99.ge HI523.out) GE522.out GE524.out⟩⟩
   case rest =>
    clear HC20
    try clear c1
    try clear c2
    try clear p2
    try clear c8
    try clear c9
    try clear c10
    try clear c19
    try clear c21
    try clear c24
    try clear c25
    try clear hcz11_0
    try clear hcz11_1
    try clear hcz11_2
    try clear hcz11_3
    try clear hcz14_0
    try clear hcz14_1
    try clear hcz14_2
    try clear hcz14_3
    try clear hcz16_0
    try clear hcz16_1
    try clear hcz16_2
    try clear hcz16_3
    try clear hcz17_0
    try clear hcz17_1
    try clear hcz17_2
    try clear hcz26_0
    try clear hcz26_1
    try clear hcz26_2
    try clear hcz26_3
    try clear hfz11_0
    try clear hfz11_1
    try clear hfz11_2
    try clear hfz11_3
    try clear hfz14_0
    try clear hfz14_1
    try clear hfz14_2
    try clear hfz14_3
    try clear hfz16_0
    try clear hfz16_1
    try clear hfz16_2
    try clear hfz16_3
    try clear hfz17_1
    try clear hfz17_2
    try clear hfz26_0
    try clear hfz26_1
    try clear hfz26_2
    try clear hfz26_3
    try clear p2
    obtain ⟨kq, x524001_19, x524002_19, x525002_19, HA, HJ19, BK522, BK524, HI523, HB⟩ := hcut
    cases kq with
    | zero => exact absurd HA.out (by simp [spec_GetFrame.j1])
    | succ kj19 =>
     have H := HA.out
     clear HA
     simp only [spec_GetFrame.j1] at H
     replace H := Option.bind_eq_some_iff.mp H
     obtain ⟨⟨t540, t543, t544⟩, A270, H⟩ := H
     replace H : (if t544 = true then (some (0, 0, 0, ([] : List Int), false)) else (if t543 = (l0.length : Int) then ((spec_FrameOk.f t525 t528 x525002_19 t540).bind fun t545 => (if t545 = true then (if x10_4 = true then (if x525002_19 = 0 then (some (0, 0, 0, ([] : List Int), false)) else (some (t525, t528, x525002_19, t540, true))) else (some (t525, t528, x525002_19, t540, true))) else (some (0, 0, 0, ([] : List Int), false)))) else (some (0, 0, 0, ([] : List Int), false)))) = some (r1, r2, r3, r4, r5) := H
     have A27 := am A270
     clear A270
     by_cases c28 : t544 = true
     · subst c28
       have H1 : (some (0, 0, 0, ([] : List Int), false)) = some (r1, r2, r3, r4, r5) := by rw [if_pos rfl] at H; exact H
       clear H
       have H := H1
       clear H1
       simp only [Option.some.injEq, Prod.mk.injEq] at H
       obtain ⟨rfl, rfl, rfl, rfl, rfl⟩ := H
       go_wp2_with (first | ((with_reducible refine gate_callee (f := 85) rfl ?_); refine goesL_ (some 42) rfl rfl Try.func85 (by kernel_rfl) rfl #[.pointer (some ⟨gb523, 0, none⟩), .int .i64 3] rfl ga ?_; (with_reducible refine (spec_l4Part.calls kj19 gb523 l0 x524001_19 x524002_19 3 t540 t543 true w _ ?side1 ?side2 A27.out).mono ?_); (case side1 => exact IsS99.q2 HI523.out NB523_522.out NB523_524.out); (case side2 => exact bq3 HB.out (IsS99.ge HI523.out) GE522.out GE524.out); rintro e w29 ⟨v541, rfl, ho0, hi, hb, hk⟩; refine ⟨_, rfl, ?_⟩; have n_ := ak5 (KeepBut.blk hk (g' := gb522) (o := .cells #[.int .i64 0, .int .i64 0, .int .i64 0, .slice none 0 0] 38 (0, 0)) (zq BK522.out) NB522_523.out (by simp)) (KeepBut.blk hk (g' := gb524) (o := .cells #[.int .i64 t525, .int .i64 t528, .int .i64 x525002_19, .slice none 0 0] 38 (0, 0)) (zq BK524.out) NB524_523.out (by simp)) (Kd.R_lower ho0 (below_size (bq3 HB.out (IsS99.ge HI523.out) GE522.out GE524.out))) hb hi; clear BK522 BK524 HB HI523; obtain ⟨BK522, BK524, HO542, HB, HI523⟩ := n_; (try clear hb hk hi ho0); obtain ⟨Ao30, co30, eo30⟩ := Kd.R_slice HO542.out; subst eo30; have hnb31 := NB524_522.out; have hnc31 := NB522_524.out; have hnb32 := NB524_523.out; have hnc32 := NB523_524.out; have hcz33_0 : w29.cell? ⟨gb524, 0, none⟩ = some (.int .i64 t525) := (blk_cell BK524.out 0).trans rfl; have hcz33_1 : w29.cell? ⟨gb524, 1, none⟩ = some (.int .i64 t528) := (blk_cell BK524.out 1).trans rfl; have hcz33_2 : w29.cell? ⟨gb524, 2, none⟩ = some (.int .i64 x525002_19) := (blk_cell BK524.out 2).trans rfl; have hcz33_3 : w29.cell? ⟨gb524, 3, none⟩ = some (.slice none 0 0) := (blk_cell BK524.out 3).trans rfl; have hfz33_0 := blk_frozen BK524.out 0; have hfz33_1 := blk_frozen BK524.out 1; have hfz33_2 := blk_frozen BK524.out 2; have hfz33_3 := blk_frozen BK524.out 3; obtain ⟨ASz34_0, cSz34_0, HGz34, hgz34, HSz34_0⟩ := HI523.out; have hcz34_0 := cellS99_0 HGz34; have hcz34_1 := cellS99_1 HGz34; have hcz34_2 := cellS99_2 HGz34; have hfz34_1 := blk_frozen HGz34 1; have hfz34_2 := blk_frozen HGz34 2; clear HGz34 hgz34; have hnb35 := NB522_523.out; have hnc35 := NB523_522.out; have hcz36_0 : w29.cell? ⟨gb522, 0, none⟩ = some (.int .i64 0) := (blk_cell BK522.out 0).trans rfl; have hcz36_1 : w29.cell? ⟨gb522, 1, none⟩ = some (.int .i64 0) := (blk_cell BK522.out 1).trans rfl; have hcz36_2 : w29.cell? ⟨gb522, 2, none⟩ = some (.int .i64 0) := (blk_cell BK522.out 2).trans rfl; have hcz36_3 : w29.cell? ⟨gb522, 3, none⟩ = some (.slice none 0 0) := (blk_cell BK522.out 3).trans rfl; have hfz36_0 := blk_frozen BK522.out 0; have hfz36_1 := blk_frozen BK522.out 1; have hfz36_2 := blk_frozen BK522.out 2; have hfz36_3 := blk_frozen BK522.out 3) | ((with_reducible refine gate_store (t := 38) (p := 2) rfl ?_); refine store_event (t := 38) (p := 2) (v := ?vo_w37) (w1 := (((((w29.setCell ⟨gb524, 3, none⟩ (.slice Ao30 t540.length co30)).setCell ⟨gb522, 0, none⟩ (.int .i64 0)).setCell ⟨gb522, 1, none⟩ (.int .i64 0)).setCell ⟨gb522, 2, none⟩ (.int .i64 0)).setCell ⟨gb522, 3, none⟩ (.slice none 0 0))) ?hg ?ho ?hn ?hr ?_; (case ho => rfl); (case hg => rfl); (case hn => rfl); (case hr => exact gs); intro w37 hw; have n0_ : Aside0 (Kd.R (Kd.int .u8) 5 w37 w.heap.size (fun _ => True) (.slice Ao30 t540.length co30) t540) := ⟨(by rw [hw]; exact (by (with_reducible repeat (first | apply Kd.R_alloc | apply Kd.R_drewN | apply Kd.R_drew)); exact Kd.R_mono (Kd.R_far (p := ⟨gb522, 3, none⟩) (Kd.R_far (p := ⟨gb522, 2, none⟩) (Kd.R_far (p := ⟨gb522, 1, none⟩) (Kd.R_far (p := ⟨gb522, 0, none⟩) (Kd.R_far (p := ⟨gb524, 3, none⟩) (Kd.R_types (Kd.R_types HO542.out BK524.out (by decide)) BK522.out (by decide)) (fun _ hk => hk.1.2) (.slice Ao30 t540.length co30)) (fun _ hk => hk.2) (.int .i64 0)) (fun _ hk => hk.2) (.int .i64 0)) (fun _ hk => hk.2) (.int .i64 0)) (fun _ hk => hk.2) (.slice none 0 0)) (fun _ hk => trivial)))⟩; have n1_ : Aside0 (w37.heap[gb522]? = some (.cells #[.int .i64 0, .int .i64 0, .int .i64 0, .slice none 0 0] 38 (0, 0))) := ⟨(by rw [hw]; exact (by (with_reducible repeat (first | refine blk_drewN ?_ _ | refine blk_drew ?_ | refine blk_alloc ?_ _)); refine blk_put (cs := #[.int .i64 0, .int .i64 0, .int .i64 0, .slice none 0 0]) ?_ 3 _ rfl; (with_reducible repeat (first | refine blk_drewN ?_ _ | refine blk_drew ?_ | refine blk_alloc ?_ _)); refine blk_put (cs := #[.int .i64 0, .int .i64 0, .int .i64 0, .slice none 0 0]) ?_ 2 _ rfl; (with_reducible repeat (first | refine blk_drewN ?_ _ | refine blk_drew ?_ | refine blk_alloc ?_ _)); refine blk_put (cs := #[.int .i64 0, .int .i64 0, .int .i64 0, .slice none 0 0]) ?_ 1 _ rfl; (with_reducible repeat (first | refine blk_drewN ?_ _ | refine blk_drew ?_ | refine blk_alloc ?_ _)); refine blk_put (cs := #[.int .i64 0, .int .i64 0, .int .i64 0, .slice none 0 0]) ?_ 0 _ rfl; (with_reducible repeat (first | refine blk_drewN ?_ _ | refine blk_drew ?_ | refine blk_alloc ?_ _)); refine blk_far ?_ NB522_524.out _; (with_reducible repeat (first | refine blk_drewN ?_ _ | refine blk_drew ?_ | refine blk_alloc ?_ _)); exact BK522.out))⟩; have n2_ : Aside0 (w37.heap[gb524]? = some (.cells #[.int .i64 t525, .int .i64 t528, .int .i64 x525002_19, .slice Ao30 t540.length co30] 38 (0, 0))) := ⟨(by rw [hw]; exact (by (with_reducible repeat (first | refine blk_drewN ?_ _ | refine blk_drew ?_ | refine blk_alloc ?_ _)); refine blk_far ?_ NB524_522.out _; (with_reducible repeat (first | refine blk_drewN ?_ _ | refine blk_drew ?_ | refine blk_alloc ?_ _)); refine blk_far ?_ NB524_522.out _; (with_reducible repeat (first | refine blk_drewN ?_ _ | refine blk_drew ?_ | refine blk_alloc ?_ _)); refine blk_far ?_ NB524_522.out _; (with_reducible repeat (first | refine blk_drewN ?_ _ | refine blk_drew ?_ | refine blk_alloc ?_ _)); refine blk_far ?_ NB524_522.out _; (with_reducible repeat (first | refine blk_drewN ?_ _ | refine blk_drew ?_ | refine blk_alloc ?_ _)); refine blk_put (cs := #[.int .i64 t525, .int .i64 t528, .int .i64 x525002_19, .slice none 0 0]) ?_ 3 _ rfl; (with_reducible repeat (first | refine blk_drewN ?_ _ | refine blk_drew ?_ | refine blk_alloc ?_ _)); exact BK524.out))⟩; have n3_ : Aside0 (IsS99 w w37 gb523 l0 t543 true) := ⟨(by rw [hw]; exact (IsS99.q2 HI523.out NB523_522.out NB523_524.out))⟩; have n4_ : Aside0 (Below w.heap.size w w37) := ⟨(by rw [hw]; exact (bq3 HB.out (IsS99.ge HI523.out) GE522.out GE524.out))⟩; clear hw; clear HO542; clear BK522; clear BK524; clear HI523; clear HB; have HO542 := n0_; have BK522 := n1_; have BK524 := n2_; have HI523 := n3_; have HB := n4_; clear n0_ n1_ n2_ n3_ n4_))
       refine bodyPost_ret (results_ct rfl _ _ gb522 38 #[.int .i64 0, .int .i64 0, .int .i64 0, .slice none 0 0] (0, 0) _ rfl (zq BK522.out) Try.underlying38 rfl (by kernel_rfl)) rfl ?_
       exact ⟨_, rq, by first | exact Kd.R_nil _ _ _ _ _ | exact Kd.N_nil _ _ _ _ _ | exact Kd.V_nil _ _ _ _ _ | exact Kd.Q_nil _ _ _ _ _ | exact Kd.S_nil _ _ _ _ _, bq3 HB.out (IsS99.ge HI523.out) GE522.out GE524.out⟩
     replace c28 := Bool.eq_false_iff.mpr c28
     subst c28
     have H1 : (if t543 = (l0.length : Int) then ((spec_FrameOk.f t525 t528 x525002_19 t540).bind fun t545 => (if t545 = true then (if x10_4 = true then (if x525002_19 = 0 then (some (0, 0, 0, ([] : List Int), false)) else (some (t525, t528, x525002_19, t540, true))) else (some (t525, t528, x525002_19, t540, true))) else (some (0, 0, 0, ([] : List Int), false)))) else (some (0, 0, 0, ([] : List Int), false))) = some (r1, r2, r3, r4, r5) := by rw [if_neg (show ¬ (false = true) by decide)] at H; exact H
     clear H
     have H := H1
     clear H1
     by_cases c38 : t543 = (l0.length : Int)
     · rw [if_pos c38] at H
       have c38b0 : (t543 == (l0.length : Int)) = true := beq_iff_eq.mpr c38
       have c38b1 : (t543 != (l0.length : Int)) = false := bne_eq_false_iff_eq.mpr c38
       clear c38
       replace H := Option.bind_eq_some_iff.mp H
       obtain ⟨t545, A390, H⟩ := H
       replace H : (if t545 = true then (if x10_4 = true then (if x525002_19 = 0 then (some (0, 0, 0, ([] : List Int), false)) else (some (t525, t528, x525002_19, t540, true))) else (some (t525, t528, x525002_19, t540, true))) else (some (0, 0, 0, ([] : List Int), false))) = some (r1, r2, r3, r4, r5) := H
       have A39 := am A390
       clear A390
       by_cases c40 : t545 = true
       · subst c40
         have H1 : (if x10_4 = true then (if x525002_19 = 0 then (some (0, 0, 0, ([] : List Int), false)) else (some (t525, t528, x525002_19, t540, true))) else (some (t525, t528, x525002_19, t540, true))) = some (r1, r2, r3, r4, r5) := by rw [if_pos rfl] at H; exact H
         clear H
         have H := H1
         clear H1
         by_cases c41 : x10_4 = true
         · subst c41
           have H1 : (if x525002_19 = 0 then (some (0, 0, 0, ([] : List Int), false)) else (some (t525, t528, x525002_19, t540, true))) = some (r1, r2, r3, r4, r5) := by rw [if_pos rfl] at H; exact H
           clear H
           have H := H1
           clear H1
           by_cases c42 : x525002_19 = 0
           · rw [if_pos c42] at H
             have c42b0 : (x525002_19 == 0) = true := beq_iff_eq.mpr c42
             have c42b1 : (x525002_19 != 0) = false := bne_eq_false_iff_eq.mpr c42
             clear c42
             simp only [Option.some.injEq, Prod.mk.injEq] at H
             obtain ⟨rfl, rfl, rfl, rfl, rfl⟩ := H
             go_wp2_with (first | ((with_reducible refine gate_callee (f := 85) rfl ?_); refine goesL_ (some 42) rfl rfl Try.func85 (by kernel_rfl) rfl #[.pointer (some ⟨gb523, 0, none⟩), .int .i64 3] rfl ga ?_; (with_reducible refine (spec_l4Part.calls kj19 gb523 l0 x524001_19 x524002_19 3 t540 t543 false w _ ?side1 ?side2 A27.out).mono ?_); (case side1 => exact IsS99.q2 HI523.out NB523_522.out NB523_524.out); (case side2 => exact bq3 HB.out (IsS99.ge HI523.out) GE522.out GE524.out); rintro e w43 ⟨v541, rfl, ho0, hi, hb, hk⟩; refine ⟨_, rfl, ?_⟩; have n_ := ak5 (KeepBut.blk hk (g' := gb522) (o := .cells #[.int .i64 0, .int .i64 0, .int .i64 0, .slice none 0 0] 38 (0, 0)) (zq BK522.out) NB522_523.out (by simp)) (KeepBut.blk hk (g' := gb524) (o := .cells #[.int .i64 t525, .int .i64 t528, .int .i64 x525002_19, .slice none 0 0] 38 (0, 0)) (zq BK524.out) NB524_523.out (by simp)) (Kd.R_lower ho0 (below_size (bq3 HB.out (IsS99.ge HI523.out) GE522.out GE524.out))) hb hi; clear BK522 BK524 HB HI523; obtain ⟨BK522, BK524, HO542, HB, HI523⟩ := n_; (try clear hb hk hi ho0); obtain ⟨Ao44, co44, eo44⟩ := Kd.R_slice HO542.out; subst eo44; have hnb45 := NB524_522.out; have hnc45 := NB522_524.out; have hnb46 := NB524_523.out; have hnc46 := NB523_524.out; have hcz47_0 : w43.cell? ⟨gb524, 0, none⟩ = some (.int .i64 t525) := (blk_cell BK524.out 0).trans rfl; have hcz47_1 : w43.cell? ⟨gb524, 1, none⟩ = some (.int .i64 t528) := (blk_cell BK524.out 1).trans rfl; have hcz47_2 : w43.cell? ⟨gb524, 2, none⟩ = some (.int .i64 x525002_19) := (blk_cell BK524.out 2).trans rfl; have hcz47_3 : w43.cell? ⟨gb524, 3, none⟩ = some (.slice none 0 0) := (blk_cell BK524.out 3).trans rfl; have hfz47_0 := blk_frozen BK524.out 0; have hfz47_1 := blk_frozen BK524.out 1; have hfz47_2 := blk_frozen BK524.out 2; have hfz47_3 := blk_frozen BK524.out 3; obtain ⟨ASz48_0, cSz48_0, HGz48, hgz48, HSz48_0⟩ := HI523.out; have hcz48_0 := cellS99_0 HGz48; have hcz48_1 := cellS99_1 HGz48; have hcz48_2 := cellS99_2 HGz48; have hfz48_1 := blk_frozen HGz48 1; have hfz48_2 := blk_frozen HGz48 2; clear HGz48 hgz48) | (go_at_call 33; (with_reducible refine (spec_FrameOk.calls t525 t528 x525002_19 _ _ t540 true _ ?side1 ?side2 A39.out).mono ?_); (case side1 => refine (Kd.R_reads' (e := 5) (base := w.heap.size) (ok := fun k_ => True) (n := t540.length) (c := co44) ?_).2.2; exact (by (with_reducible repeat (first | apply Kd.R_alloc | apply Kd.R_drewN | apply Kd.R_drew)); exact (Kd.R_mono (Kd.R_far (p := ⟨gb524, 3, none⟩) (Kd.R_types HO542.out BK524.out (by decide)) (fun _ hk => hk.2) (.slice Ao44 t540.length co44)) (fun _ h_ => h_.1)))); (case side2 => exact (Kd.R_reads' HO542.out).2.1); rintro e w49 ⟨rfl, hb⟩; have n_ := ak5 (Kd.R_below (by (with_reducible repeat (first | apply Kd.R_alloc | apply Kd.R_drewN | apply Kd.R_drew)); exact (Kd.R_mono (Kd.R_far (p := ⟨gb524, 3, none⟩) (Kd.R_types HO542.out BK524.out (by decide)) (fun _ hk => hk.2) (.slice Ao44 t540.length co44)) (fun _ h_ => h_.1))) hb) (blk_below (g := gb522) (o := .cells #[.int .i64 0, .int .i64 0, .int .i64 0, .slice none 0 0] 38 (0, 0)) (by (with_reducible repeat (first | refine blk_drewN ?_ _ | refine blk_drew ?_ | refine blk_alloc ?_ _)); refine blk_far ?_ NB522_524.out _; (with_reducible repeat (first | refine blk_drewN ?_ _ | refine blk_drew ?_ | refine blk_alloc ?_ _)); exact BK522.out) hb) (blk_below (g := gb524) (o := .cells #[.int .i64 t525, .int .i64 t528, .int .i64 x525002_19, .slice Ao44 t540.length co44] 38 (0, 0)) (by (with_reducible repeat (first | refine blk_drewN ?_ _ | refine blk_drew ?_ | refine blk_alloc ?_ _)); refine blk_put (cs := #[.int .i64 t525, .int .i64 t528, .int .i64 x525002_19, .slice none 0 0]) ?_ 3 _ rfl; (with_reducible repeat (first | refine blk_drewN ?_ _ | refine blk_drew ?_ | refine blk_alloc ?_ _)); exact BK524.out) hb) (IsS99.below (show IsS99 w (w43.setCell ⟨gb524, 3, none⟩ (.slice Ao44 t540.length co44)) gb523 l0 t543 false from IsS99.q2 HI523.out NB523_522.out NB523_524.out) hb) (below_step (bq3 HB.out (IsS99.ge HI523.out) GE522.out GE524.out) hb); clear HO542 BK522 BK524 HI523 HB; obtain ⟨HO542, BK522, BK524, HI523, HB⟩ := n_; (try clear hb); have hcz50_0 : w49.cell? ⟨gb524, 0, none⟩ = some (.int .i64 t525) := (blk_cell BK524.out 0).trans rfl; have hcz50_1 : w49.cell? ⟨gb524, 1, none⟩ = some (.int .i64 t528) := (blk_cell BK524.out 1).trans rfl; have hcz50_2 : w49.cell? ⟨gb524, 2, none⟩ = some (.int .i64 x525002_19) := (blk_cell BK524.out 2).trans rfl; have hcz50_3 : w49.cell? ⟨gb524, 3, none⟩ = some (.slice Ao44 t540.length co44) := (blk_cell BK524.out 3).trans rfl; have hfz50_0 := blk_frozen BK524.out 0; have hfz50_1 := blk_frozen BK524.out 1; have hfz50_2 := blk_frozen BK524.out 2; have hfz50_3 := blk_frozen BK524.out 3; have hnb51 := NB522_523.out; have hnc51 := NB523_522.out; have hcz52_0 : w49.cell? ⟨gb522, 0, none⟩ = some (.int .i64 0) := (blk_cell BK522.out 0).trans rfl; have hcz52_1 : w49.cell? ⟨gb522, 1, none⟩ = some (.int .i64 0) := (blk_cell BK522.out 1).trans rfl; have hcz52_2 : w49.cell? ⟨gb522, 2, none⟩ = some (.int .i64 0) := (blk_cell BK522.out 2).trans rfl; have hcz52_3 : w49.cell? ⟨gb522, 3, none⟩ = some (.slice none 0 0) := (blk_cell BK522.out 3).trans rfl; have hfz52_0 := blk_frozen BK522.out 0; have hfz52_1 := blk_frozen BK522.out 1; have hfz52_2 := blk_frozen BK522.out 2; have hfz52_3 := blk_frozen BK522.out 3) | ((with_reducible refine gate_store (t := 38) (p := 2) rfl ?_); refine store_event (t := 38) (p := 2) (v := ?vo_w53) (w1 := ((((w49.setCell ⟨gb522, 0, none⟩ (.int .i64 0)).setCell ⟨gb522, 1, none⟩ (.int .i64 0)).setCell ⟨gb522, 2, none⟩ (.int .i64 0)).setCell ⟨gb522, 3, none⟩ (.slice none 0 0))) ?hg ?ho ?hn ?hr ?_; (case ho => rfl); (case hg => rfl); (case hn => rfl); (case hr => exact gs); intro w53 hw; have n0_ : Aside0 (Kd.R (Kd.int .u8) 5 w53 w.heap.size (fun _ => True) (.slice Ao44 t540.length co44) t540) := ⟨(by rw [hw]; exact (by (with_reducible repeat (first | apply Kd.R_alloc | apply Kd.R_drewN | apply Kd.R_drew)); exact Kd.R_mono (Kd.R_far (p := ⟨gb522, 3, none⟩) (Kd.R_far (p := ⟨gb522, 2, none⟩) (Kd.R_far (p := ⟨gb522, 1, none⟩) (Kd.R_far (p := ⟨gb522, 0, none⟩) (Kd.R_types HO542.out BK522.out (by decide)) (fun _ hk => hk.2) (.int .i64 0)) (fun _ hk => hk.2) (.int .i64 0)) (fun _ hk => hk.2) (.int .i64 0)) (fun _ hk => hk.2) (.slice none 0 0)) (fun _ hk => trivial)))⟩; have n1_ : Aside0 (w53.heap[gb522]? = some (.cells #[.int .i64 0, .int .i64 0, .int .i64 0, .slice none 0 0] 38 (0, 0))) := ⟨(by rw [hw]; exact (by (with_reducible repeat (first | refine blk_drewN ?_ _ | refine blk_drew ?_ | refine blk_alloc ?_ _)); refine blk_put (cs := #[.int .i64 0, .int .i64 0, .int .i64 0, .slice none 0 0]) ?_ 3 _ rfl; (with_reducible repeat (first | refine blk_drewN ?_ _ | refine blk_drew ?_ | refine blk_alloc ?_ _)); refine blk_put (cs := #[.int .i64 0, .int .i64 0, .int .i64 0, .slice none 0 0]) ?_ 2 _ rfl; (with_reducible repeat (first | refine blk_drewN ?_ _ | refine blk_drew ?_ | refine blk_alloc ?_ _)); refine blk_put (cs := #[.int .i64 0, .int .i64 0, .int .i64 0, .slice none 0 0]) ?_ 1 _ rfl; (with_reducible repeat (first | refine blk_drewN ?_ _ | refine blk_drew ?_ | refine blk_alloc ?_ _)); refine blk_put (cs := #[.int .i64 0, .int .i64 0, .int .i64 0, .slice none 0 0]) ?_ 0 _ rfl; (with_reducible repeat (first | refine blk_drewN ?_ _ | refine blk_drew ?_ | refine blk_alloc ?_ _)); exact BK522.out))⟩; have n2_ : Aside0 (w53.heap[gb524]? = some (.cells #[.int .i64 t525, .int .i64 t528, .int .i64 x525002_19, .slice Ao44 t540.length co44] 38 (0, 0))) := ⟨(by rw [hw]; exact (by (with_reducible repeat (first | refine blk_drewN ?_ _ | refine blk_drew ?_ | refine blk_alloc ?_ _)); refine blk_far ?_ NB524_522.out _; (with_reducible repeat (first | refine blk_drewN ?_ _ | refine blk_drew ?_ | refine blk_alloc ?_ _)); refine blk_far ?_ NB524_522.out _; (with_reducible repeat (first | refine blk_drewN ?_ _ | refine blk_drew ?_ | refine blk_alloc ?_ _)); refine blk_far ?_ NB524_522.out _; (with_reducible repeat (first | refine blk_drewN ?_ _ | refine blk_drew ?_ | refine blk_alloc ?_ _)); refine blk_far ?_ NB524_522.out _; (with_reducible repeat (first | refine blk_drewN ?_ _ | refine blk_drew ?_ | refine blk_alloc ?_ _)); exact BK524.out))⟩; have n3_ : Aside0 (IsS99 w w53 gb523 l0 t543 false) := ⟨(by rw [hw]; exact (IsS99.q2 HI523.out NB523_522.out NB523_524.out))⟩; have n4_ : Aside0 (Below w.heap.size w w53) := ⟨(by rw [hw]; exact (bq3 HB.out (IsS99.ge HI523.out) GE522.out GE524.out))⟩; clear hw; clear HO542; clear BK522; clear BK524; clear HI523; clear HB; have HO542 := n0_; have BK522 := n1_; have BK524 := n2_; have HI523 := n3_; have HB := n4_; clear n0_ n1_ n2_ n3_ n4_))
             refine bodyPost_ret (results_ct rfl _ _ gb522 38 #[.int .i64 0, .int .i64 0, .int .i64 0, .slice none 0 0] (0, 0) _ rfl (zq BK522.out) Try.underlying38 rfl (by kernel_rfl)) rfl ?_
             exact ⟨_, rq, by first | exact Kd.R_nil _ _ _ _ _ | exact Kd.N_nil _ _ _ _ _ | exact Kd.V_nil _ _ _ _ _ | exact Kd.Q_nil _ _ _ _ _ | exact Kd.S_nil _ _ _ _ _, bq3 HB.out (IsS99.ge HI523.out) GE522.out GE524.out⟩
           rw [if_neg c42] at H
           have c42b0 : (x525002_19 == 0) = false := beq_eq_false_iff_ne.mpr c42
           have c42b1 : (x525002_19 != 0) = true := bne_iff_ne.mpr c42
           simp only [Option.some.injEq, Prod.mk.injEq] at H
           obtain ⟨rfl, rfl, rfl, rfl, rfl⟩ := H
           go_wp2_with (first | ((with_reducible refine gate_callee (f := 85) rfl ?_); refine goesL_ (some 42) rfl rfl Try.func85 (by kernel_rfl) rfl #[.pointer (some ⟨gb523, 0, none⟩), .int .i64 3] rfl ga ?_; (with_reducible refine (spec_l4Part.calls kj19 gb523 l0 x524001_19 x524002_19 3 t540 t543 false w _ ?side1 ?side2 A27.out).mono ?_); (case side1 => exact IsS99.q2 HI523.out NB523_522.out NB523_524.out); (case side2 => exact bq3 HB.out (IsS99.ge HI523.out) GE522.out GE524.out); rintro e w54 ⟨v541, rfl, ho0, hi, hb, hk⟩; refine ⟨_, rfl, ?_⟩; have n_ := ak5 (KeepBut.blk hk (g' := gb522) (o := .cells #[.int .i64 0, .int .i64 0, .int .i64 0, .slice none 0 0] 38 (0, 0)) (zq BK522.out) NB522_523.out (by simp)) (KeepBut.blk hk (g' := gb524) (o := .cells #[.int .i64 t525, .int .i64 t528, .int .i64 x525002_19, .slice none 0 0] 38 (0, 0)) (zq BK524.out) NB524_523.out (by simp)) (Kd.R_lower ho0 (below_size (bq3 HB.out (IsS99.ge HI523.out) GE522.out GE524.out))) hb hi; clear BK522 BK524 HB HI523; obtain ⟨BK522, BK524, HO542, HB, HI523⟩ := n_; (try clear hb hk hi ho0); obtain ⟨Ao55, co55, eo55⟩ := Kd.R_slice HO542.out; subst eo55; have hnb56 := NB524_522.out; have hnc56 := NB522_524.out; have hnb57 := NB524_523.out; have hnc57 := NB523_524.out; have hcz58_0 : w54.cell? ⟨gb524, 0, none⟩ = some (.int .i64 t525) := (blk_cell BK524.out 0).trans rfl; have hcz58_1 : w54.cell? ⟨gb524, 1, none⟩ = some (.int .i64 t528) := (blk_cell BK524.out 1).trans rfl; have hcz58_2 : w54.cell? ⟨gb524, 2, none⟩ = some (.int .i64 x525002_19) := (blk_cell BK524.out 2).trans rfl; have hcz58_3 : w54.cell? ⟨gb524, 3, none⟩ = some (.slice none 0 0) := (blk_cell BK524.out 3).trans rfl; have hfz58_0 := blk_frozen BK524.out 0; have hfz58_1 := blk_frozen BK524.out 1; have hfz58_2 := blk_frozen BK524.out 2; have hfz58_3 := blk_frozen BK524.out 3; obtain ⟨ASz59_0, cSz59_0, HGz59, hgz59, HSz59_0⟩ := HI523.out; have hcz59_0 := cellS99_0 HGz59; have hcz59_1 := cellS99_1 HGz59; have hcz59_2 := cellS99_2 HGz59; have hfz59_1 := blk_frozen HGz59 1; have hfz59_2 := blk_frozen HGz59 2; clear HGz59 hgz59) | (go_at_call 33; (with_reducible refine (spec_FrameOk.calls t525 t528 x525002_19 _ _ t540 true _ ?side1 ?side2 A39.out).mono ?_); (case side1 => refine (Kd.R_reads' (e := 5) (base := w.heap.size) (ok := fun k_ => True) (n := t540.length) (c := co55) ?_).2.2; exact (by (with_reducible repeat (first | apply Kd.R_alloc | apply Kd.R_drewN | apply Kd.R_drew)); exact (Kd.R_mono (Kd.R_far (p := ⟨gb524, 3, none⟩) (Kd.R_types HO542.out BK524.out (by decide)) (fun _ hk => hk.2) (.slice Ao55 t540.length co55)) (fun _ h_ => h_.1)))); (case side2 => exact (Kd.R_reads' HO542.out).2.1); rintro e w60 ⟨rfl, hb⟩; have n_ := ak5 (Kd.R_below (by (with_reducible repeat (first | apply Kd.R_alloc | apply Kd.R_drewN | apply Kd.R_drew)); exact (Kd.R_mono (Kd.R_far (p := ⟨gb524, 3, none⟩) (Kd.R_types HO542.out BK524.out (by decide)) (fun _ hk => hk.2) (.slice Ao55 t540.length co55)) (fun _ h_ => h_.1))) hb) (blk_below (g := gb522) (o := .cells #[.int .i64 0, .int .i64 0, .int .i64 0, .slice none 0 0] 38 (0, 0)) (by (with_reducible repeat (first | refine blk_drewN ?_ _ | refine blk_drew ?_ | refine blk_alloc ?_ _)); refine blk_far ?_ NB522_524.out _; (with_reducible repeat (first | refine blk_drewN ?_ _ | refine blk_drew ?_ | refine blk_alloc ?_ _)); exact BK522.out) hb) (blk_below (g := gb524) (o := .cells #[.int .i64 t525, .int .i64 t528, .int .i64 x525002_19, .slice Ao55 t540.length co55] 38 (0, 0)) (by (with_reducible repeat (first | refine blk_drewN ?_ _ | refine blk_drew ?_ | refine blk_alloc ?_ _)); refine blk_put (cs := #[.int .i64 t525, .int .i64 t528, .int .i64 x525002_19, .slice none 0 0]) ?_ 3 _ rfl; (with_reducible repeat (first | refine blk_drewN ?_ _ | refine blk_drew ?_ | refine blk_alloc ?_ _)); exact BK524.out) hb) (IsS99.below (show IsS99 w (w54.setCell ⟨gb524, 3, none⟩ (.slice Ao55 t540.length co55)) gb523 l0 t543 false from IsS99.q2 HI523.out NB523_522.out NB523_524.out) hb) (below_step (bq3 HB.out (IsS99.ge HI523.out) GE522.out GE524.out) hb); clear HO542 BK522 BK524 HI523 HB; obtain ⟨HO542, BK522, BK524, HI523, HB⟩ := n_; (try clear hb); have hcz61_0 : w60.cell? ⟨gb524, 0, none⟩ = some (.int .i64 t525) := (blk_cell BK524.out 0).trans rfl; have hcz61_1 : w60.cell? ⟨gb524, 1, none⟩ = some (.int .i64 t528) := (blk_cell BK524.out 1).trans rfl; have hcz61_2 : w60.cell? ⟨gb524, 2, none⟩ = some (.int .i64 x525002_19) := (blk_cell BK524.out 2).trans rfl; have hcz61_3 : w60.cell? ⟨gb524, 3, none⟩ = some (.slice Ao55 t540.length co55) := (blk_cell BK524.out 3).trans rfl; have hfz61_0 := blk_frozen BK524.out 0; have hfz61_1 := blk_frozen BK524.out 1; have hfz61_2 := blk_frozen BK524.out 2; have hfz61_3 := blk_frozen BK524.out 3; have hnb62 := NB522_523.out; have hnc62 := NB523_522.out; have hcz63_0 : w60.cell? ⟨gb522, 0, none⟩ = some (.int .i64 0) := (blk_cell BK522.out 0).trans rfl; have hcz63_1 : w60.cell? ⟨gb522, 1, none⟩ = some (.int .i64 0) := (blk_cell BK522.out 1).trans rfl; have hcz63_2 : w60.cell? ⟨gb522, 2, none⟩ = some (.int .i64 0) := (blk_cell BK522.out 2).trans rfl; have hcz63_3 : w60.cell? ⟨gb522, 3, none⟩ = some (.slice none 0 0) := (blk_cell BK522.out 3).trans rfl; have hfz63_0 := blk_frozen BK522.out 0; have hfz63_1 := blk_frozen BK522.out 1; have hfz63_2 := blk_frozen BK522.out 2; have hfz63_3 := blk_frozen BK522.out 3) | ((with_reducible refine gate_store (t := 38) (p := 2) rfl ?_); refine store_event (t := 38) (p := 2) (v := ?vo_w64) (w1 := ((((w60.setCell ⟨gb522, 0, none⟩ (.int .i64 t525)).setCell ⟨gb522, 1, none⟩ (.int .i64 t528)).setCell ⟨gb522, 2, none⟩ (.int .i64 x525002_19)).setCell ⟨gb522, 3, none⟩ (.slice Ao55 t540.length co55))) ?hg ?ho ?hn ?hr ?_; (case ho => rfl); (case hg => rfl); (case hn => rfl); (case hr => exact gs); intro w64 hw; have n0_ : Aside0 (Kd.R (Kd.int .u8) 5 w64 w.heap.size (fun _ => True) (.slice Ao55 t540.length co55) t540) := ⟨(by rw [hw]; exact (by (with_reducible repeat (first | apply Kd.R_alloc | apply Kd.R_drewN | apply Kd.R_drew)); exact Kd.R_mono (Kd.R_far (p := ⟨gb522, 3, none⟩) (Kd.R_far (p := ⟨gb522, 2, none⟩) (Kd.R_far (p := ⟨gb522, 1, none⟩) (Kd.R_far (p := ⟨gb522, 0, none⟩) (Kd.R_types HO542.out BK522.out (by decide)) (fun _ hk => hk.2) (.int .i64 t525)) (fun _ hk => hk.2) (.int .i64 t528)) (fun _ hk => hk.2) (.int .i64 x525002_19)) (fun _ hk => hk.2) (.slice Ao55 t540.length co55)) (fun _ hk => trivial)))⟩; have n1_ : Aside0 (w64.heap[gb522]? = some (.cells #[.int .i64 t525, .int .i64 t528, .int .i64 x525002_19, .slice Ao55 t540.length co55] 38 (0, 0))) := ⟨(by rw [hw]; exact (by (with_reducible repeat (first | refine blk_drewN ?_ _ | refine blk_drew ?_ | refine blk_alloc ?_ _)); refine blk_put (cs := #[.int .i64 t525, .int .i64 t528, .int .i64 x525002_19, .slice none 0 0]) ?_ 3 _ rfl; (with_reducible repeat (first | refine blk_drewN ?_ _ | refine blk_drew ?_ | refine blk_alloc ?_ _)); refine blk_put (cs := #[.int .i64 t525, .int .i64 t528, .int .i64 0, .slice none 0 0]) ?_ 2 _ rfl; (with_reducible repeat (first | refine blk_drewN ?_ _ | refine blk_drew ?_ | refine blk_alloc ?_ _)); refine blk_put (cs := #[.int .i64 t525, .int .i64 0, .int .i64 0, .slice none 0 0]) ?_ 1 _ rfl; (with_reducible repeat (first | refine blk_drewN ?_ _ | refine blk_drew ?_ | refine blk_alloc ?_ _)); refine blk_put (cs := #[.int .i64 0, .int .i64 0, .int .i64 0, .slice none 0 0]) ?_ 0 _ rfl; (with_reducible repeat (first | refine blk_drewN ?_ _ | refine blk_drew ?_ | refine blk_alloc ?_ _)); exact BK522.out))⟩; have n2_ : Aside0 (w64.heap[gb524]? = some (.cells #[.int .i64 t525, .int .i64 t528, .int .i64 x525002_19, .slice Ao55 t540.length co55] 38 (0, 0))) := ⟨(by rw [hw]; exact (by (with_reducible repeat (first | refine blk_drewN ?_ _ | refine blk_drew ?_ | refine blk_alloc ?_ _)); refine blk_far ?_ NB524_522.out _; (with_reducible repeat (first | refine blk_drewN ?_ _ | refine blk_drew ?_ | refine blk_alloc ?_ _)); refine blk_far ?_ NB524_522.out _; (with_reducible repeat (first | refine blk_drewN ?_ _ | refine blk_drew ?_ | refine blk_alloc ?_ _)); refine blk_far ?_ NB524_522.out _; (with_reducible repeat (first | refine blk_drewN ?_ _ | refine blk_drew ?_ | refine blk_alloc ?_ _)); refine blk_far ?_ NB524_522.out _; (with_reducible repeat (first | refine blk_drewN ?_ _ | refine blk_drew ?_ | refine blk_alloc ?_ _)); exact BK524.out))⟩; have n3_ : Aside0 (IsS99 w w64 gb523 l0 t543 false) := ⟨(by rw [hw]; exact (IsS99.q2 HI523.out NB523_522.out NB523_524.out))⟩; have n4_ : Aside0 (Below w.heap.size w w64) := ⟨(by rw [hw]; exact (bq3 HB.out (IsS99.ge HI523.out) GE522.out GE524.out))⟩; clear hw; clear HO542; clear BK522; clear BK524; clear HI523; clear HB; have HO542 := n0_; have BK522 := n1_; have BK524 := n2_; have HI523 := n3_; have HB := n4_; clear n0_ n1_ n2_ n3_ n4_))
           refine bodyPost_ret (results_ct rfl _ _ gb522 38 #[.int .i64 t525, .int .i64 t528, .int .i64 x525002_19, .slice Ao55 t540.length co55] (0, 0) _ rfl (zq BK522.out) Try.underlying38 rfl (by kernel_rfl)) rfl ?_
           exact ⟨_, rq, kqR HO542.out, bq3 HB.out (IsS99.ge HI523.out) GE522.out GE524.out⟩
         replace c41 := Bool.eq_false_iff.mpr c41
         subst c41
         have H1 : (some (t525, t528, x525002_19, t540, true)) = some (r1, r2, r3, r4, r5) := by rw [if_neg (show ¬ (false = true) by decide)] at H; exact H
         clear H
         have H := H1
         clear H1
         simp only [Option.some.injEq, Prod.mk.injEq] at H
         obtain ⟨rfl, rfl, rfl, rfl, rfl⟩ := H
         go_wp2_with (first | ((with_reducible refine gate_callee (f := 85) rfl ?_); refine goesL_ (some 42) rfl rfl Try.func85 (by kernel_rfl) rfl #[.pointer (some ⟨gb523, 0, none⟩), .int .i64 3] rfl ga ?_; (with_reducible refine (spec_l4Part.calls kj19 gb523 l0 x524001_19 x524002_19 3 t540 t543 false w _ ?side1 ?side2 A27.out).mono ?_); (case side1 => exact IsS99.q2 HI523.out NB523_522.out NB523_524.out); (case side2 => exact bq3 HB.out (IsS99.ge HI523.out) GE522.out GE524.out); rintro e w65 ⟨v541, rfl, ho0, hi, hb, hk⟩; refine ⟨_, rfl, ?_⟩; have n_ := ak5 (KeepBut.blk hk (g' := gb522) (o := .cells #[.int .i64 0, .int .i64 0, .int .i64 0, .slice none 0 0] 38 (0, 0)) (zq BK522.out) NB522_523.out (by simp)) (KeepBut.blk hk (g' := gb524) (o := .cells #[.int .i64 t525, .int .i64 t528, .int .i64 x525002_19, .slice none 0 0] 38 (0, 0)) (zq BK524.out) NB524_523.out (by simp)) (Kd.R_lower ho0 (below_size (bq3 HB.out (IsS99.ge HI523.out) GE522.out GE524.out))) hb hi; clear BK522 BK524 HB HI523; obtain ⟨BK522, BK524, HO542, HB, HI523⟩ := n_; (try clear hb hk hi ho0); obtain ⟨Ao66, co66, eo66⟩ := Kd.R_slice HO542.out; subst eo66; have hnb67 := NB524_522.out; have hnc67 := NB522_524.out; have hnb68 := NB524_523.out; have hnc68 := NB523_524.out; have hcz69_0 : w65.cell? ⟨gb524, 0, none⟩ = some (.int .i64 t525) := (blk_cell BK524.out 0).trans rfl; have hcz69_1 : w65.cell? ⟨gb524, 1, none⟩ = some (.int .i64 t528) := (blk_cell BK524.out 1).trans rfl; have hcz69_2 : w65.cell? ⟨gb524, 2, none⟩ = some (.int .i64 x525002_19) := (blk_cell BK524.out 2).trans rfl; have hcz69_3 : w65.cell? ⟨gb524, 3, none⟩ = some (.slice none 0 0) := (blk_cell BK524.out 3).trans rfl; have hfz69_0 := blk_frozen BK524.out 0; have hfz69_1 := blk_frozen BK524.out 1; have hfz69_2 := blk_frozen BK524.out 2; have hfz69_3 := blk_frozen BK524.out 3; obtain ⟨ASz70_0, cSz70_0, HGz70, hgz70, HSz70_0⟩ := HI523.out; have hcz70_0 := cellS99_0 HGz70; have hcz70_1 := cellS99_1 HGz70; have hcz70_2 := cellS99_2 HGz70; have hfz70_1 := blk_frozen HGz70 1; have hfz70_2 := blk_frozen HGz70 2; clear HGz70 hgz70) | (go_at_call 33; (with_reducible refine (spec_FrameOk.calls t525 t528 x525002_19 _ _ t540 true _ ?side1 ?side2 A39.out).mono ?_); (case side1 => refine (Kd.R_reads' (e := 5) (base := w.heap.size) (ok := fun k_ => True) (n := t540.length) (c := co66) ?_).2.2; exact (by (with_reducible repeat (first | apply Kd.R_alloc | apply Kd.R_drewN | apply Kd.R_drew)); exact (Kd.R_mono (Kd.R_far (p := ⟨gb524, 3, none⟩) (Kd.R_types HO542.out BK524.out (by decide)) (fun _ hk => hk.2) (.slice Ao66 t540.length co66)) (fun _ h_ => h_.1)))); (case side2 => exact (Kd.R_reads' HO542.out).2.1); rintro e w71 ⟨rfl, hb⟩; have n_ := ak5 (Kd.R_below (by (with_reducible repeat (first | apply Kd.R_alloc | apply Kd.R_drewN | apply Kd.R_drew)); exact (Kd.R_mono (Kd.R_far (p := ⟨gb524, 3, none⟩) (Kd.R_types HO542.out BK524.out (by decide)) (fun _ hk => hk.2) (.slice Ao66 t540.length co66)) (fun _ h_ => h_.1))) hb) (blk_below (g := gb522) (o := .cells #[.int .i64 0, .int .i64 0, .int .i64 0, .slice none 0 0] 38 (0, 0)) (by (with_reducible repeat (first | refine blk_drewN ?_ _ | refine blk_drew ?_ | refine blk_alloc ?_ _)); refine blk_far ?_ NB522_524.out _; (with_reducible repeat (first | refine blk_drewN ?_ _ | refine blk_drew ?_ | refine blk_alloc ?_ _)); exact BK522.out) hb) (blk_below (g := gb524) (o := .cells #[.int .i64 t525, .int .i64 t528, .int .i64 x525002_19, .slice Ao66 t540.length co66] 38 (0, 0)) (by (with_reducible repeat (first | refine blk_drewN ?_ _ | refine blk_drew ?_ | refine blk_alloc ?_ _)); refine blk_put (cs := #[.int .i64 t525, .int .i64 t528, .int .i64 x525002_19, .slice none 0 0]) ?_ 3 _ rfl; (with_reducible repeat (first | refine blk_drewN ?_ _ | refine blk_drew ?_ | refine blk_alloc ?_ _)); exact BK524.out) hb) (IsS99.below (show IsS99 w (w65.setCell ⟨gb524, 3, none⟩ (.slice Ao66 t540.length co66)) gb523 l0 t543 false from IsS99.q2 HI523.out NB523_522.out NB523_524.out) hb) (below_step (bq3 HB.out (IsS99.ge HI523.out) GE522.out GE524.out) hb); clear HO542 BK522 BK524 HI523 HB; obtain ⟨HO542, BK522, BK524, HI523, HB⟩ := n_; (try clear hb); have hcz72_0 : w71.cell? ⟨gb524, 0, none⟩ = some (.int .i64 t525) := (blk_cell BK524.out 0).trans rfl; have hcz72_1 : w71.cell? ⟨gb524, 1, none⟩ = some (.int .i64 t528) := (blk_cell BK524.out 1).trans rfl; have hcz72_2 : w71.cell? ⟨gb524, 2, none⟩ = some (.int .i64 x525002_19) := (blk_cell BK524.out 2).trans rfl; have hcz72_3 : w71.cell? ⟨gb524, 3, none⟩ = some (.slice Ao66 t540.length co66) := (blk_cell BK524.out 3).trans rfl; have hfz72_0 := blk_frozen BK524.out 0; have hfz72_1 := blk_frozen BK524.out 1; have hfz72_2 := blk_frozen BK524.out 2; have hfz72_3 := blk_frozen BK524.out 3; have hnb73 := NB522_523.out; have hnc73 := NB523_522.out; have hcz74_0 : w71.cell? ⟨gb522, 0, none⟩ = some (.int .i64 0) := (blk_cell BK522.out 0).trans rfl; have hcz74_1 : w71.cell? ⟨gb522, 1, none⟩ = some (.int .i64 0) := (blk_cell BK522.out 1).trans rfl; have hcz74_2 : w71.cell? ⟨gb522, 2, none⟩ = some (.int .i64 0) := (blk_cell BK522.out 2).trans rfl; have hcz74_3 : w71.cell? ⟨gb522, 3, none⟩ = some (.slice none 0 0) := (blk_cell BK522.out 3).trans rfl; have hfz74_0 := blk_frozen BK522.out 0; have hfz74_1 := blk_frozen BK522.out 1; have hfz74_2 := blk_frozen BK522.out 2; have hfz74_3 := blk_frozen BK522.out 3) | ((with_reducible refine gate_store (t := 38) (p := 2) rfl ?_); refine store_event (t := 38) (p := 2) (v := ?vo_w75) (w1 := ((((w71.setCell ⟨gb522, 0, none⟩ (.int .i64 t525)).setCell ⟨gb522, 1, none⟩ (.int .i64 t528)).setCell ⟨gb522, 2, none⟩ (.int .i64 x525002_19)).setCell ⟨gb522, 3, none⟩ (.slice Ao66 t540.length co66))) ?hg ?ho ?hn ?hr ?_; (case ho => rfl); (case hg => rfl); (case hn => rfl); (case hr => exact gs); intro w75 hw; have n0_ : Aside0 (Kd.R (Kd.int .u8) 5 w75 w.heap.size (fun _ => True) (.slice Ao66 t540.length co66) t540) := ⟨(by rw [hw]; exact (by (with_reducible repeat (first | apply Kd.R_alloc | apply Kd.R_drewN | apply Kd.R_drew)); exact Kd.R_mono (Kd.R_far (p := ⟨gb522, 3, none⟩) (Kd.R_far (p := ⟨gb522, 2, none⟩) (Kd.R_far (p := ⟨gb522, 1, none⟩) (Kd.R_far (p := ⟨gb522, 0, none⟩) (Kd.R_types HO542.out BK522.out (by decide)) (fun _ hk => hk.2) (.int .i64 t525)) (fun _ hk => hk.2) (.int .i64 t528)) (fun _ hk => hk.2) (.int .i64 x525002_19)) (fun _ hk => hk.2) (.slice Ao66 t540.length co66)) (fun _ hk => trivial)))⟩; have n1_ : Aside0 (w75.heap[gb522]? = some (.cells #[.int .i64 t525, .int .i64 t528, .int .i64 x525002_19, .slice Ao66 t540.length co66] 38 (0, 0))) := ⟨(by rw [hw]; exact (by (with_reducible repeat (first | refine blk_drewN ?_ _ | refine blk_drew ?_ | refine blk_alloc ?_ _)); refine blk_put (cs := #[.int .i64 t525, .int .i64 t528, .int .i64 x525002_19, .slice none 0 0]) ?_ 3 _ rfl; (with_reducible repeat (first | refine blk_drewN ?_ _ | refine blk_drew ?_ | refine blk_alloc ?_ _)); refine blk_put (cs := #[.int .i64 t525, .int .i64 t528, .int .i64 0, .slice none 0 0]) ?_ 2 _ rfl; (with_reducible repeat (first | refine blk_drewN ?_ _ | refine blk_drew ?_ | refine blk_alloc ?_ _)); refine blk_put (cs := #[.int .i64 t525, .int .i64 0, .int .i64 0, .slice none 0 0]) ?_ 1 _ rfl; (with_reducible repeat (first | refine blk_drewN ?_ _ | refine blk_drew ?_ | refine blk_alloc ?_ _)); refine blk_put (cs := #[.int .i64 0, .int .i64 0, .int .i64 0, .slice none 0 0]) ?_ 0 _ rfl; (with_reducible repeat (first | refine blk_drewN ?_ _ | refine blk_drew ?_ | refine blk_alloc ?_ _)); exact BK522.out))⟩; have n2_ : Aside0 (w75.heap[gb524]? = some (.cells #[.int .i64 t525, .int .i64 t528, .int .i64 x525002_19, .slice Ao66 t540.length co66] 38 (0, 0))) := ⟨(by rw [hw]; exact (by (with_reducible repeat (first | refine blk_drewN ?_ _ | refine blk_drew ?_ | refine blk_alloc ?_ _)); refine blk_far ?_ NB524_522.out _; (with_reducible repeat (first | refine blk_drewN ?_ _ | refine blk_drew ?_ | refine blk_alloc ?_ _)); refine blk_far ?_ NB524_522.out _; (with_reducible repeat (first | refine blk_drewN ?_ _ | refine blk_drew ?_ | refine blk_alloc ?_ _)); refine blk_far ?_ NB524_522.out _; (with_reducible repeat (first | refine blk_drewN ?_ _ | refine blk_drew ?_ | refine blk_alloc ?_ _)); refine blk_far ?_ NB524_522.out _; (with_reducible repeat (first | refine blk_drewN ?_ _ | refine blk_drew ?_ | refine blk_alloc ?_ _)); exact BK524.out))⟩; have n3_ : Aside0 (IsS99 w w75 gb523 l0 t543 false) := ⟨(by rw [hw]; exact (IsS99.q2 HI523.out NB523_522.out NB523_524.out))⟩; have n4_ : Aside0 (Below w.heap.size w w75) := ⟨(by rw [hw]; exact (bq3 HB.out (IsS99.ge HI523.out) GE522.out GE524.out))⟩; clear hw; clear HO542; clear BK522; clear BK524; clear HI523; clear HB; have HO542 := n0_; have BK522 := n1_; have BK524 := n2_; have HI523 := n3_; have HB := n4_; clear n0_ n1_ n2_ n3_ n4_))
         refine bodyPost_ret (results_ct rfl _ _ gb522 38 #[.int .i64 t525, .int .i64 t528, .int .i64 x525002_19, .slice Ao66 t540.length co66] (0, 0) _ rfl (zq BK522.out) Try.underlying38 rfl (by kernel_rfl)) rfl ?_
         exact ⟨_, rq, kqR HO542.out, bq3 HB.out (IsS99.ge HI523.out) GE522.out GE524.out⟩
       replace c40 := Bool.eq_false_iff.mpr c40
       subst c40
       have H1 : (some (0, 0, 0, ([] : List Int), false)) = some (r1, r2, r3, r4, r5) := by rw [if_neg (show ¬ (false = true) by decide)] at H; exact H
       clear H
       have H := H1
       clear H1
       simp only [Option.some.injEq, Prod.mk.injEq] at H
       obtain ⟨rfl, rfl, rfl, rfl, rfl⟩ := H
       go_wp2_with (first | ((with_reducible refine gate_callee (f := 85) rfl ?_); refine goesL_ (some 42) rfl rfl Try.func85 (by kernel_rfl) rfl #[.pointer (some ⟨gb523, 0, none⟩), .int .i64 3] rfl ga ?_; (with_reducible refine (spec_l4Part.calls kj19 gb523 l0 x524001_19 x524002_19 3 t540 t543 false w _ ?side1 ?side2 A27.out).mono ?_); (case side1 => exact IsS99.q2 HI523.out NB523_522.out NB523_524.out); (case side2 => exact bq3 HB.out (IsS99.ge HI523.out) GE522.out GE524.out); rintro e w76 ⟨v541, rfl, ho0, hi, hb, hk⟩; refine ⟨_, rfl, ?_⟩; have n_ := ak5 (KeepBut.blk hk (g' := gb522) (o := .cells #[.int .i64 0, .int .i64 0, .int .i64 0, .slice none 0 0] 38 (0, 0)) (zq BK522.out) NB522_523.out (by simp)) (KeepBut.blk hk (g' := gb524) (o := .cells #[.int .i64 t525, .int .i64 t528, .int .i64 x525002_19, .slice none 0 0] 38 (0, 0)) (zq BK524.out) NB524_523.out (by simp)) (Kd.R_lower ho0 (below_size (bq3 HB.out (IsS99.ge HI523.out) GE522.out GE524.out))) hb hi; clear BK522 BK524 HB HI523; obtain ⟨BK522, BK524, HO542, HB, HI523⟩ := n_; (try clear hb hk hi ho0); obtain ⟨Ao77, co77, eo77⟩ := Kd.R_slice HO542.out; subst eo77; have hnb78 := NB524_522.out; have hnc78 := NB522_524.out; have hnb79 := NB524_523.out; have hnc79 := NB523_524.out; have hcz80_0 : w76.cell? ⟨gb524, 0, none⟩ = some (.int .i64 t525) := (blk_cell BK524.out 0).trans rfl; have hcz80_1 : w76.cell? ⟨gb524, 1, none⟩ = some (.int .i64 t528) := (blk_cell BK524.out 1).trans rfl; have hcz80_2 : w76.cell? ⟨gb524, 2, none⟩ = some (.int .i64 x525002_19) := (blk_cell BK524.out 2).trans rfl; have hcz80_3 : w76.cell? ⟨gb524, 3, none⟩ = some (.slice none 0 0) := (blk_cell BK524.out 3).trans rfl; have hfz80_0 := blk_frozen BK524.out 0; have hfz80_1 := blk_frozen BK524.out 1; have hfz80_2 := blk_frozen BK524.out 2; have hfz80_3 := blk_frozen BK524.out 3; obtain ⟨ASz81_0, cSz81_0, HGz81, hgz81, HSz81_0⟩ := HI523.out; have hcz81_0 := cellS99_0 HGz81; have hcz81_1 := cellS99_1 HGz81; have hcz81_2 := cellS99_2 HGz81; have hfz81_1 := blk_frozen HGz81 1; have hfz81_2 := blk_frozen HGz81 2; clear HGz81 hgz81) | (go_at_call 33; (with_reducible refine (spec_FrameOk.calls t525 t528 x525002_19 _ _ t540 false _ ?side1 ?side2 A39.out).mono ?_); (case side1 => refine (Kd.R_reads' (e := 5) (base := w.heap.size) (ok := fun k_ => True) (n := t540.length) (c := co77) ?_).2.2; exact (by (with_reducible repeat (first | apply Kd.R_alloc | apply Kd.R_drewN | apply Kd.R_drew)); exact (Kd.R_mono (Kd.R_far (p := ⟨gb524, 3, none⟩) (Kd.R_types HO542.out BK524.out (by decide)) (fun _ hk => hk.2) (.slice Ao77 t540.length co77)) (fun _ h_ => h_.1)))); (case side2 => exact (Kd.R_reads' HO542.out).2.1); rintro e w82 ⟨rfl, hb⟩; have n_ := ak5 (Kd.R_below (by (with_reducible repeat (first | apply Kd.R_alloc | apply Kd.R_drewN | apply Kd.R_drew)); exact (Kd.R_mono (Kd.R_far (p := ⟨gb524, 3, none⟩) (Kd.R_types HO542.out BK524.out (by decide)) (fun _ hk => hk.2) (.slice Ao77 t540.length co77)) (fun _ h_ => h_.1))) hb) (blk_below (g := gb522) (o := .cells #[.int .i64 0, .int .i64 0, .int .i64 0, .slice none 0 0] 38 (0, 0)) (by (with_reducible repeat (first | refine blk_drewN ?_ _ | refine blk_drew ?_ | refine blk_alloc ?_ _)); refine blk_far ?_ NB522_524.out _; (with_reducible repeat (first | refine blk_drewN ?_ _ | refine blk_drew ?_ | refine blk_alloc ?_ _)); exact BK522.out) hb) (blk_below (g := gb524) (o := .cells #[.int .i64 t525, .int .i64 t528, .int .i64 x525002_19, .slice Ao77 t540.length co77] 38 (0, 0)) (by (with_reducible repeat (first | refine blk_drewN ?_ _ | refine blk_drew ?_ | refine blk_alloc ?_ _)); refine blk_put (cs := #[.int .i64 t525, .int .i64 t528, .int .i64 x525002_19, .slice none 0 0]) ?_ 3 _ rfl; (with_reducible repeat (first | refine blk_drewN ?_ _ | refine blk_drew ?_ | refine blk_alloc ?_ _)); exact BK524.out) hb) (IsS99.below (show IsS99 w (w76.setCell ⟨gb524, 3, none⟩ (.slice Ao77 t540.length co77)) gb523 l0 t543 false from IsS99.q2 HI523.out NB523_522.out NB523_524.out) hb) (below_step (bq3 HB.out (IsS99.ge HI523.out) GE522.out GE524.out) hb); clear HO542 BK522 BK524 HI523 HB; obtain ⟨HO542, BK522, BK524, HI523, HB⟩ := n_; (try clear hb); have hnb83 := NB522_523.out; have hnc83 := NB523_522.out; have hcz84_0 : w82.cell? ⟨gb522, 0, none⟩ = some (.int .i64 0) := (blk_cell BK522.out 0).trans rfl; have hcz84_1 : w82.cell? ⟨gb522, 1, none⟩ = some (.int .i64 0) := (blk_cell BK522.out 1).trans rfl; have hcz84_2 : w82.cell? ⟨gb522, 2, none⟩ = some (.int .i64 0) := (blk_cell BK522.out 2).trans rfl; have hcz84_3 : w82.cell? ⟨gb522, 3, none⟩ = some (.slice none 0 0) := (blk_cell BK522.out 3).trans rfl; have hfz84_0 := blk_frozen BK522.out 0; have hfz84_1 := blk_frozen BK522.out 1; have hfz84_2 := blk_frozen BK522.out 2; have hfz84_3 := blk_frozen BK522.out 3) | ((with_reducible refine gate_store (t := 38) (p := 2) rfl ?_); refine store_event (t := 38) (p := 2) (v := ?vo_w85) (w1 := ((((w82.setCell ⟨gb522, 0, none⟩ (.int .i64 0)).setCell ⟨gb522, 1, none⟩ (.int .i64 0)).setCell ⟨gb522, 2, none⟩ (.int .i64 0)).setCell ⟨gb522, 3, none⟩ (.slice none 0 0))) ?hg ?ho ?hn ?hr ?_; (case ho => rfl); (case hg => rfl); (case hn => rfl); (case hr => exact gs); intro w85 hw; have n0_ : Aside0 (Kd.R (Kd.int .u8) 5 w85 w.heap.size (fun _ => True) (.slice Ao77 t540.length co77) t540) := ⟨(by rw [hw]; exact (by (with_reducible repeat (first | apply Kd.R_alloc | apply Kd.R_drewN | apply Kd.R_drew)); exact Kd.R_mono (Kd.R_far (p := ⟨gb522, 3, none⟩) (Kd.R_far (p := ⟨gb522, 2, none⟩) (Kd.R_far (p := ⟨gb522, 1, none⟩) (Kd.R_far (p := ⟨gb522, 0, none⟩) (Kd.R_types HO542.out BK522.out (by decide)) (fun _ hk => hk.2) (.int .i64 0)) (fun _ hk => hk.2) (.int .i64 0)) (fun _ hk => hk.2) (.int .i64 0)) (fun _ hk => hk.2) (.slice none 0 0)) (fun _ hk => trivial)))⟩; have n1_ : Aside0 (w85.heap[gb522]? = some (.cells #[.int .i64 0, .int .i64 0, .int .i64 0, .slice none 0 0] 38 (0, 0))) := ⟨(by rw [hw]; exact (by (with_reducible repeat (first | refine blk_drewN ?_ _ | refine blk_drew ?_ | refine blk_alloc ?_ _)); refine blk_put (cs := #[.int .i64 0, .int .i64 0, .int .i64 0, .slice none 0 0]) ?_ 3 _ rfl; (with_reducible repeat (first | refine blk_drewN ?_ _ | refine blk_drew ?_ | refine blk_alloc ?_ _)); refine blk_put (cs := #[.int .i64 0, .int .i64 0, .int .i64 0, .slice none 0 0]) ?_ 2 _ rfl; (with_reducible repeat (first | refine blk_drewN ?_ _ | refine blk_drew ?_ | refine blk_alloc ?_ _)); refine blk_put (cs := #[.int .i64 0, .int .i64 0, .int .i64 0, .slice none 0 0]) ?_ 1 _ rfl; (with_reducible repeat (first | refine blk_drewN ?_ _ | refine blk_drew ?_ | refine blk_alloc ?_ _)); refine blk_put (cs := #[.int .i64 0, .int .i64 0, .int .i64 0, .slice none 0 0]) ?_ 0 _ rfl; (with_reducible repeat (first | refine blk_drewN ?_ _ | refine blk_drew ?_ | refine blk_alloc ?_ _)); exact BK522.out))⟩; have n2_ : Aside0 (w85.heap[gb524]? = some (.cells #[.int .i64 t525, .int .i64 t528, .int .i64 x525002_19, .slice Ao77 t540.length co77] 38 (0, 0))) := ⟨(by rw [hw]; exact (by (with_reducible repeat (first | refine blk_drewN ?_ _ | refine blk_drew ?_ | refine blk_alloc ?_ _)); refine blk_far ?_ NB524_522.out _; (with_reducible repeat (first | refine blk_drewN ?_ _ | refine blk_drew ?_ | refine blk_alloc ?_ _)); refine blk_far ?_ NB524_522.out _; (with_reducible repeat (first | refine blk_drewN ?_ _ | refine blk_drew ?_ | refine blk_alloc ?_ _)); refine blk_far ?_ NB524_522.out _; (with_reducible repeat (first | refine blk_drewN ?_ _ | refine blk_drew ?_ | refine blk_alloc ?_ _)); refine blk_far ?_ NB524_522.out _; (with_reducible repeat (first | refine blk_drewN ?_ _ | refine blk_drew ?_ | refine blk_alloc ?_ _)); exact BK524.out))⟩; have n3_ : Aside0 (IsS99 w w85 gb523 l0 t543 false) := ⟨(by rw [hw]; exact (IsS99.q2 HI523.out NB523_522.out NB523_524.out))⟩; have n4_ : Aside0 (Below w.heap.size w w85) := ⟨(by rw [hw]; exact (bq3 HB.out (IsS99.ge HI523.out) GE522.out GE524.out))⟩; clear hw; clear HO542; clear BK522; clear BK524; clear HI523; clear HB; have HO542 := n0_; have BK522 := n1_; have BK524 := n2_; have HI523 := n3_; have HB := n4_; clear n0_ n1_ n2_ n3_ n4_))
       refine bodyPost_ret (results_ct rfl _ _ gb522 38 #[.int .i64 0, .int .i64 0, .int .i64 0, .slice none 0 0] (0, 0) _ rfl (zq BK522.out) Try.underlying38 rfl (by kernel_rfl)) rfl ?_
       exact ⟨_, rq, by first | exact Kd.R_nil _ _ _ _ _ | exact Kd.N_nil _ _ _ _ _ | exact Kd.V_nil _ _ _ _ _ | exact Kd.Q_nil _ _ _ _ _ | exact Kd.S_nil _ _ _ _ _, bq3 HB.out (IsS99.ge HI523.out) GE522.out GE524.out⟩
     rw [if_neg c38] at H
     have c38b0 : (t543 == (l0.length : Int)) = false := beq_eq_false_iff_ne.mpr c38
     have c38b1 : (t543 != (l0.length : Int)) = true := bne_iff_ne.mpr c38
     simp only [Option.some.injEq, Prod.mk.injEq] at H
     obtain ⟨rfl, rfl, rfl, rfl, rfl⟩ := H
     go_wp2_with (first | ((with_reducible refine gate_callee (f := 85) rfl ?_); refine goesL_ (some 42) rfl rfl Try.func85 (by kernel_rfl) rfl #[.pointer (some ⟨gb523, 0, none⟩), .int .i64 3] rfl ga ?_; (with_reducible refine (spec_l4Part.calls kj19 gb523 l0 x524001_19 x524002_19 3 t540 t543 false w _ ?side1 ?side2 A27.out).mono ?_); (case side1 => exact IsS99.q2 HI523.out NB523_522.out NB523_524.out); (case side2 => exact bq3 HB.out (IsS99.ge HI523.out) GE522.out GE524.out); rintro e w86 ⟨v541, rfl, ho0, hi, hb, hk⟩; refine ⟨_, rfl, ?_⟩; have n_ := ak5 (KeepBut.blk hk (g' := gb522) (o := .cells #[.int .i64 0, .int .i64 0, .int .i64 0, .slice none 0 0] 38 (0, 0)) (zq BK522.out) NB522_523.out (by simp)) (KeepBut.blk hk (g' := gb524) (o := .cells #[.int .i64 t525, .int .i64 t528, .int .i64 x525002_19, .slice none 0 0] 38 (0, 0)) (zq BK524.out) NB524_523.out (by simp)) (Kd.R_lower ho0 (below_size (bq3 HB.out (IsS99.ge HI523.out) GE522.out GE524.out))) hb hi; clear BK522 BK524 HB HI523; obtain ⟨BK522, BK524, HO542, HB, HI523⟩ := n_; (try clear hb hk hi ho0); obtain ⟨Ao87, co87, eo87⟩ := Kd.R_slice HO542.out; subst eo87; have hnb88 := NB524_522.out; have hnc88 := NB522_524.out; have hnb89 := NB524_523.out; have hnc89 := NB523_524.out; have hcz90_0 : w86.cell? ⟨gb524, 0, none⟩ = some (.int .i64 t525) := (blk_cell BK524.out 0).trans rfl; have hcz90_1 : w86.cell? ⟨gb524, 1, none⟩ = some (.int .i64 t528) := (blk_cell BK524.out 1).trans rfl; have hcz90_2 : w86.cell? ⟨gb524, 2, none⟩ = some (.int .i64 x525002_19) := (blk_cell BK524.out 2).trans rfl; have hcz90_3 : w86.cell? ⟨gb524, 3, none⟩ = some (.slice none 0 0) := (blk_cell BK524.out 3).trans rfl; have hfz90_0 := blk_frozen BK524.out 0; have hfz90_1 := blk_frozen BK524.out 1; have hfz90_2 := blk_frozen BK524.out 2; have hfz90_3 := blk_frozen BK524.out 3; obtain ⟨ASz91_0, cSz91_0, HGz91, hgz91, HSz91_0⟩ := HI523.out; have hcz91_0 := cellS99_0 HGz91; have hcz91_1 := cellS99_1 HGz91; have hcz91_2 := cellS99_2 HGz91; have hfz91_1 := blk_frozen HGz91 1; have hfz91_2 := blk_frozen HGz91 2; clear HGz91 hgz91; have hnb92 := NB522_523.out; have hnc92 := NB523_522.out; have hcz93_0 : w86.cell? ⟨gb522, 0, none⟩ = some (.int .i64 0) := (blk_cell BK522.out 0).trans rfl; have hcz93_1 : w86.cell? ⟨gb522, 1, none⟩ = some (.int .i64 0) := (blk_cell BK522.out 1).trans rfl; have hcz93_2 : w86.cell? ⟨gb522, 2, none⟩ = some (.int .i64 0) := (blk_cell BK522.out 2).trans rfl; have hcz93_3 : w86.cell? ⟨gb522, 3, none⟩ = some (.slice none 0 0) := (blk_cell BK522.out 3).trans rfl; have hfz93_0 := blk_frozen BK522.out 0; have hfz93_1 := blk_frozen BK522.out 1; have hfz93_2 := blk_frozen BK522.out 2; have hfz93_3 := blk_frozen BK522.out 3) | ((with_reducible refine gate_store (t := 38) (p := 2) rfl ?_); refine store_event (t := 38) (p := 2) (v := ?vo_w94) (w1 := (((((w86.setCell ⟨gb524, 3, none⟩ (.slice Ao87 t540.length co87)).setCell ⟨gb522, 0, none⟩ (.int .i64 0)).setCell ⟨gb522, 1, none⟩ (.int .i64 0)).setCell ⟨gb522, 2, none⟩ (.int .i64 0)).setCell ⟨gb522, 3, none⟩ (.slice none 0 0))) ?hg ?ho ?hn ?hr ?_; (case ho => rfl); (case hg => rfl); (case hn => rfl); (case hr => exact gs); intro w94 hw; have n0_ : Aside0 (Kd.R (Kd.int .u8) 5 w94 w.heap.size (fun _ => True) (.slice Ao87 t540.length co87) t540) := ⟨(by rw [hw]; exact (by (with_reducible repeat (first | apply Kd.R_alloc | apply Kd.R_drewN | apply Kd.R_drew)); exact Kd.R_mono (Kd.R_far (p := ⟨gb522, 3, none⟩) (Kd.R_far (p := ⟨gb522, 2, none⟩) (Kd.R_far (p := ⟨gb522, 1, none⟩) (Kd.R_far (p := ⟨gb522, 0, none⟩) (Kd.R_far (p := ⟨gb524, 3, none⟩) (Kd.R_types (Kd.R_types HO542.out BK524.out (by decide)) BK522.out (by decide)) (fun _ hk => hk.1.2) (.slice Ao87 t540.length co87)) (fun _ hk => hk.2) (.int .i64 0)) (fun _ hk => hk.2) (.int .i64 0)) (fun _ hk => hk.2) (.int .i64 0)) (fun _ hk => hk.2) (.slice none 0 0)) (fun _ hk => trivial)))⟩; have n1_ : Aside0 (w94.heap[gb522]? = some (.cells #[.int .i64 0, .int .i64 0, .int .i64 0, .slice none 0 0] 38 (0, 0))) := ⟨(by rw [hw]; exact (by (with_reducible repeat (first | refine blk_drewN ?_ _ | refine blk_drew ?_ | refine blk_alloc ?_ _)); refine blk_put (cs := #[.int .i64 0, .int .i64 0, .int .i64 0, .slice none 0 0]) ?_ 3 _ rfl; (with_reducible repeat (first | refine blk_drewN ?_ _ | refine blk_drew ?_ | refine blk_alloc ?_ _)); refine blk_put (cs := #[.int .i64 0, .int .i64 0, .int .i64 0, .slice none 0 0]) ?_ 2 _ rfl; (with_reducible repeat (first | refine blk_drewN ?_ _ | refine blk_drew ?_ | refine blk_alloc ?_ _)); refine blk_put (cs := #[.int .i64 0, .int .i64 0, .int .i64 0, .slice none 0 0]) ?_ 1 _ rfl; (with_reducible repeat (first | refine blk_drewN ?_ _ | refine blk_drew ?_ | refine blk_alloc ?_ _)); refine blk_put (cs := #[.int .i64 0, .int .i64 0, .int .i64 0, .slice none 0 0]) ?_ 0 _ rfl; (with_reducible repeat (first | refine blk_drewN ?_ _ | refine blk_drew ?_ | refine blk_alloc ?_ _)); refine blk_far ?_ NB522_524.out _; (with_reducible repeat (first | refine blk_drewN ?_ _ | refine blk_drew ?_ | refine blk_alloc ?_ _)); exact BK522.out))⟩; have n2_ : Aside0 (w94.heap[gb524]? = some (.cells #[.int .i64 t525, .int .i64 t528, .int .i64 x525002_19, .slice Ao87 t540.length co87] 38 (0, 0))) := ⟨(by rw [hw]; exact (by (with_reducible repeat (first | refine blk_drewN ?_ _ | refine blk_drew ?_ | refine blk_alloc ?_ _)); refine blk_far ?_ NB524_522.out _; (with_reducible repeat (first | refine blk_drewN ?_ _ | refine blk_drew ?_ | refine blk_alloc ?_ _)); refine blk_far ?_ NB524_522.out _; (with_reducible repeat (first | refine blk_drewN ?_ _ | refine blk_drew ?_ | refine blk_alloc ?_ _)); refine blk_far ?_ NB524_522.out _; (with_reducible repeat (first | refine blk_drewN ?_ _ | refine blk_drew ?_ | refine blk_alloc ?_ _)); refine blk_far ?_ NB524_522.out _; (with_reducible repeat (first | refine blk_drewN ?_ _ | refine blk_drew ?_ | refine blk_alloc ?_ _)); refine blk_put (cs := #[.int .i64 t525, .int .i64 t528, .int .i64 x525002_19, .slice none 0 0]) ?_ 3 _ rfl; (with_reducible repeat (first | refine blk_drewN ?_ _ | refine blk_drew ?_ | refine blk_alloc ?_ _)); exact BK524.out))⟩; have n3_ : Aside0 (IsS99 w w94 gb523 l0 t543 false) := ⟨(by rw [hw]; exact (IsS99.q2 HI523.out NB523_522.out NB523_524.out))⟩; have n4_ : Aside0 (Below w.heap.size w w94) := ⟨(by rw [hw]; exact (bq3 HB.out (IsS99.ge HI523.out) GE522.out GE524.out))⟩; clear hw; clear HO542; clear BK522; clear BK524; clear HI523; clear HB; have HO542 := n0_; have BK522 := n1_; have BK524 := n2_; have HI523 := n3_; have HB := n4_; clear n0_ n1_ n2_ n3_ n4_))
     refine bodyPost_ret (results_ct rfl _ _ gb522 38 #[.int .i64 0, .int .i64 0, .int .i64 0, .slice none 0 0] (0, 0) _ rfl (zq BK522.out) Try.underlying38 rfl (by kernel_rfl)) rfl ?_
     exact ⟨_, rq, by first | exact Kd.R_nil _ _ _ _ _ | exact Kd.N_nil _ _ _ _ _ | exact Kd.V_nil _ _ _ _ _ | exact Kd.Q_nil _ _ _ _ _ | exact Kd.S_nil _ _ _ _ _, bq3 HB.out (IsS99.ge HI523.out) GE522.out GE524.out⟩

/-! ### spec_DrawTagged: function 29 -/
def spec_DrawTagged.f (k : Nat) (l0 : List Int) : Option (Int × Int × Int × List Int × Int) := (spec_l1New.f k l0).bind fun bt547 => ((spec_l6Any.f k bt547.1 bt547.2.1 bt547.2.2).bind fun bt551 => ((spec_l1Int.f bt547.1 bt551.2.2.2.2.1 bt551.2.2.2.2.2 (([0, 1, 5, (-1)] : List Int))).bind fun bt562 => (some (bt551.1, bt551.2.1, bt551.2.2.1, bt551.2.2.2.1, bt562.1))))
theorem spec_DrawTagged.mono : ∀ a0 k, LeO (spec_DrawTagged.f k a0) (spec_DrawTagged.f (k + 1) a0) := by
 intro a0 k
 unfold spec_DrawTagged.f
 repeat' first
  | (with_reducible exact spec_l1New.mono _ _)
  | (with_reducible exact spec_l6Any.mono _ _ _ _)
  | (with_reducible exact LeO.refl _)
  | (with_reducible exact LeO.none _)
  | (with_reducible refine LeO.ite ?_ ?_)
  | (with_reducible refine LeO.bind ?_ (fun _ => ?_))
  | exact spec_l1New.mono _ _
  | exact spec_l6Any.mono _ _ _ _
  | exact LeO.none _
  | refine LeO.ite ?_ ?_
  | refine LeO.bind ?_ (fun _ => ?_)
set_option maxHeartbeats 8000000 in
set_option maxRecDepth 100000 in
theorem spec_DrawTagged.calls (k : Nat) (A0 : Option Addr) (c0 : Nat) (l0 : List Int) (r1 : Int) (r2 : Int) (r3 : Int) (r4 : List Int) (r5 : Int) (w : World) (hr0 : Kd.C (Kd.int .u8) w A0 l0.length l0) (hc0 : l0.length ≤ c0) (h : spec_DrawTagged.f k l0 = some (r1, r2, r3, r4, r5)) :
 Calls Try.prog 29 #[.slice A0 l0.length c0] w fun e w' => ∃ v3_ : Value, e = .returned (.tuple #[.agg #[.int .i64 r1, .int .i64 r2, .int .i64 r3, v3_], .int .i64 r5]) ∧ Kd.R (Kd.int .u8) 5 w' w.heap.size (fun _ => True) v3_ r4 ∧ Below w.heap.size w w' := by
 have hu38 := Try.underlying38
 have HR0 := am hr0
 have HC0 := am hc0
 clear hr0 hc0
 have HB := am (Below.refl w.heap.size w)
 have H : ((spec_l1New.f k l0).bind fun bt547 => ((spec_l6Any.f k bt547.1 bt547.2.1 bt547.2.2).bind fun bt551 => ((spec_l1Int.f bt547.1 bt551.2.2.2.2.1 bt551.2.2.2.2.2 (([0, 1, 5, (-1)] : List Int))).bind fun bt562 => (some (bt551.1, bt551.2.1, bt551.2.2.1, bt551.2.2.2.1, bt562.1))))) = some (r1, r2, r3, r4, r5) := h
 clear h
 replace H := Option.bind_eq_some_iff.mp H
 obtain ⟨⟨t547, t548, t549⟩, A20, H⟩ := H
 replace H : ((spec_l6Any.f k t547 t548 t549).bind fun bt551 => ((spec_l1Int.f t547 bt551.2.2.2.2.1 bt551.2.2.2.2.2 (([0, 1, 5, (-1)] : List Int))).bind fun bt562 => (some (bt551.1, bt551.2.1, bt551.2.2.1, bt551.2.2.2.1, bt562.1)))) = some (r1, r2, r3, r4, r5) := H
 have A2 := am A20
 clear A20
 replace H := Option.bind_eq_some_iff.mp H
 obtain ⟨⟨t551, t552, t553, t554, t557, t558⟩, A30, H⟩ := H
 replace H : ((spec_l1Int.f t547 t557 t558 (([0, 1, 5, (-1)] : List Int))).bind fun bt562 => (some (t551, t552, t553, t554, bt562.1))) = some (r1, r2, r3, r4, r5) := H
 have A3 := am A30
 clear A30
 obtain ⟨y559, hy559⟩ : ∃ y_ : List Int, y_ = (([0, 1, 5, (-1)] : List Int)) := ⟨_, rfl⟩
 replace H : ((spec_l1Int.f t547 t557 t558 y559).bind fun bt562 => (some (t551, t552, t553, t554, bt562.1))) = some (r1, r2, r3, r4, r5) := by first | (rw [hy559]; with_reducible exact H) | (have H2_ := (Option.bind_some _ _).symm.trans H; rw [hy559]; with_reducible exact H2_) | (have H2_ := (Option.bind_some _ _).symm.trans H; with_reducible exact H2_) | with_reducible exact H | (rw [hy559]; exact H) | exact H
 have Ny559 := am hy559
 clear hy559
 replace H := Option.bind_eq_some_iff.mp H
 obtain ⟨⟨t562, t563, t564⟩, A40, H⟩ := H
 replace H : (some (t551, t552, t553, t554, t562)) = some (r1, r2, r3, r4, r5) := H
 have A4 := am A40
 clear A40
 simp only [Option.some.injEq, Prod.mk.injEq] at H
 obtain ⟨rfl, rfl, rfl, rfl, rfl⟩ := H
 go_enter Try.func29, Try.ntmps29
 go_wp2_with (first | ((with_reducible refine gate_dst (N := 2) rfl ?_); refine box_event ?hg (N := 2) ?hd (cs := #[.int .i64 0, .int .i64 0, .int .i64 0, .slice none 0 0]) (t := 38) ?hr ?_; (case hd => rfl); (case hg => rfl); (case hr => exact gs); intro gb546 hg w5 hbox hb; have n_ := ak4 (below_step (bq HB.out) hb) hbox ((by rw [hg]; exact (below_size (bq HB.out)) : w.heap.size ≤ gb546)) ((by rw [hg]; exact (below_size (bq HB.out)) : w.heap.size ≤ gb546)); clear HB; obtain ⟨HB, BK546, GW546, GE546⟩ := n_; clear hb hbox hg) | ((with_reducible refine gate_callee (f := 74) rfl ?_); refine goesL_ (some 6) rfl rfl Try.func74 (by kernel_rfl) rfl #[.slice A0 l0.length c0] rfl ga ?_; (with_reducible refine (spec_l1New.calls k _ _ l0 t547 t548 t549 w _ ?side1 ?side2 ?side3 A2.out).mono ?_); (case side1 => exact bq1 HB.out GE546.out); (case side2 => exact HR0.out); (case side3 => exact HC0.out); rintro e w6 ⟨g550, rfl, hi, hb, hb2⟩; refine ⟨_, rfl, ?_⟩; have n_ := ak5 (blk_below (g := gb546) (o := .cells #[.int .i64 0, .int .i64 0, .int .i64 0, .slice none 0 0] 38 (0, 0)) (zq BK546.out) hb2) hb hi (IsS135.ne_blk hi (blk_below (g := gb546) (o := .cells #[.int .i64 0, .int .i64 0, .int .i64 0, .slice none 0 0] 38 (0, 0)) (zq BK546.out) hb2) (by decide)) (Ne.symm (IsS135.ne_blk hi (blk_below (g := gb546) (o := .cells #[.int .i64 0, .int .i64 0, .int .i64 0, .slice none 0 0] 38 (0, 0)) (zq BK546.out) hb2) (by decide))); clear BK546 HB; obtain ⟨BK546, HB, HI550, NB550_546, NB546_550⟩ := n_; (try clear hb hb2 hi)) | ((with_reducible refine gate_callee (f := 75) rfl ?_); refine goesL_ (some 8) rfl rfl Try.func75 (by kernel_rfl) rfl #[.pointer (some ⟨g550, 0, none⟩)] rfl ga ?_; (with_reducible refine (spec_l6Any.calls k g550 t547 t548 t549 t551 t552 t553 t554 t557 t558 w _ ?side1 ?side2 A3.out).mono ?_); (case side1 => exact IsS135.q1 HI550.out NB550_546.out); (case side2 => exact bq2 HB.out (IsS135.ge HI550.out) GE546.out); rintro e w7 ⟨v555, rfl, ho0, hi, hb, hk⟩; refine ⟨_, rfl, ?_⟩; have n_ := ak4 (KeepBut.blk hk (g' := gb546) (o := .cells #[.int .i64 0, .int .i64 0, .int .i64 0, .slice none 0 0] 38 (0, 0)) (zq BK546.out) NB546_550.out (by simp)) (Kd.R_lower ho0 (below_size (bq2 HB.out (IsS135.ge HI550.out) GE546.out))) hb hi; clear BK546 HB HI550; obtain ⟨BK546, HO556, HB, HI550⟩ := n_; (try clear hb hk hi ho0)) | ((with_reducible refine gate_dst (N := 10) rfl ?_); refine Kd.R_lit (Kd.int .i64) _ 3 ?hg (N := 10) ?hd (xs := ([0, 1, 5, (-1)] : List Int)) (inner := [.int .i64 0, .int .i64 1, .int .i64 5, .int .i64 (-1)]) (ok := fun _ => True) (okp := fun _ => True) ?hr ?hp (fun _ hk => hk) trivial (Below.refl _ _) (Nat.le_refl _) (by simp) ?_; (case hd => rfl); (case hg => rfl); (case hr => exact gs); (case hp => exact (Reps.one (show Kd.M (Kd.int .i64) _ _ _ 0 [.int .i64 0] from rfl) (Reps.one (show Kd.M (Kd.int .i64) _ _ _ 1 [.int .i64 1] from rfl) (Reps.one (show Kd.M (Kd.int .i64) _ _ _ 5 [.int .i64 5] from rfl) (Reps.one (show Kd.M (Kd.int .i64) _ _ _ (-1) [.int .i64 (-1)] from rfl) (Reps.none _ _)))))); intro v560 w8 ho9 hb hg_ hnew_; clear hg_ hnew_; (first | rw [← Ny559.out] at ho9 | (simp only [Int.reduceToNat] at ho9; rw [← Ny559.out] at ho9)); have n_ := ak5 (Kd.R_below (kqR HO556.out) hb) (Kd.R_lower ho9 (below_size (bq2 HB.out (IsS135.ge HI550.out) GE546.out))) (blk_below (g := gb546) (o := .cells #[.int .i64 0, .int .i64 0, .int .i64 0, .slice none 0 0] 38 (0, 0)) (zq BK546.out) hb) (IsS135.below (IsS135.q1 HI550.out NB550_546.out) hb) (below_step (bq2 HB.out (IsS135.ge HI550.out) GE546.out) hb); clear HO556 BK546 HI550 HB; obtain ⟨HO556, HO561, BK546, HI550, HB⟩ := n_; clear hb ho9; obtain ⟨Ao10, co10, eo10⟩ := Kd.R_slice HO561.out; subst eo10) | ((with_reducible refine gate_callee (f := 86) rfl ?_); refine goesL_ (some 11) rfl rfl Try.func86 (by kernel_rfl) rfl #[.pointer (some ⟨g550, 0, none⟩), .slice Ao10 y559.length co10] rfl ga ?_; (with_reducible refine (spec_l1Int.calls g550 t547 t557 t558 _ _ y559 t562 t563 t564 w _ ?side1 ?side2 ?side3 ?side4 ?side5 A4.out).mono ?_); (case side1 => exact IsS135.q1 HI550.out NB550_546.out); (case side2 => exact bq2 HB.out (IsS135.ge HI550.out) GE546.out); (case side3 => repeat (first | exact (Kd.R_reads' HO561.out).2.2 | (with_reducible refine Kd.C_alloc ?_ _) | (with_reducible refine Kd.C_drewN ?_ _) | (with_reducible refine Kd.C_drew ?_))); (case side4 => exact (Kd.R_reads' HO561.out).2.1); (case side5 => exact far_slice (IsS135.own_ne HI550.out HO561.out (by decide))); rintro e w11 ⟨rfl, hi, hb, hk⟩; refine ⟨_, rfl, ?_⟩; have n_ := ak5 (KeepBut.blk hk (g' := gb546) (o := .cells #[.int .i64 0, .int .i64 0, .int .i64 0, .slice none 0 0] 38 (0, 0)) (zq BK546.out) NB546_550.out (by simp)) (Kd.R_mono (Kd.R_keep (IsS135.apart (show IsS135 w _ g550 t547 t557 t558 from IsS135.q1 HI550.out NB550_546.out) (kqR HO556.out) (by decide)) hk (fun _ h => h.2)) (fun _ h => h.1)) (Kd.R_mono (Kd.R_keep (IsS135.apart (show IsS135 w _ g550 t547 t557 t558 from IsS135.q1 HI550.out NB550_546.out) (kqR HO561.out) (by decide)) hk (fun _ h => h.2)) (fun _ h => h.1)) hb hi; clear BK546 HO556 HO561 HB HI550; obtain ⟨BK546, HO556, HO561, HB, HI550⟩ := n_; (try clear hb hk hi); have hnb12 := NB546_550.out; have hnc12 := NB550_546.out; have hcz13_0 : w11.cell? ⟨gb546, 0, none⟩ = some (.int .i64 0) := (blk_cell BK546.out 0).trans rfl; have hcz13_1 : w11.cell? ⟨gb546, 1, none⟩ = some (.int .i64 0) := (blk_cell BK546.out 1).trans rfl; have hcz13_2 : w11.cell? ⟨gb546, 2, none⟩ = some (.int .i64 0) := (blk_cell BK546.out 2).trans rfl; have hcz13_3 : w11.cell? ⟨gb546, 3, none⟩ = some (.slice none 0 0) := (blk_cell BK546.out 3).trans rfl; have hfz13_0 := blk_frozen BK546.out 0; have hfz13_1 := blk_frozen BK546.out 1; have hfz13_2 := blk_frozen BK546.out 2; have hfz13_3 := blk_frozen BK546.out 3; obtain ⟨Ao14, co14, eo14⟩ := Kd.R_slice HO556.out; subst eo14) | ((with_reducible refine gate_store (t := 38) (p := 2) rfl ?_); refine store_event (t := 38) (p := 2) (v := ?vo_w15) (w1 := ((((w11.setCell ⟨gb546, 0, none⟩ (.int .i64 t551)).setCell ⟨gb546, 1, none⟩ (.int .i64 t552)).setCell ⟨gb546, 2, none⟩ (.int .i64 t553)).setCell ⟨gb546, 3, none⟩ (.slice Ao14 t554.length co14))) ?hg ?ho ?hn ?hr ?_; (case ho => rfl); (case hg => rfl); (case hn => rfl); (case hr => exact gs); intro w15 hw; have n0_ : Aside0 (Kd.R (Kd.int .u8) 5 w15 w.heap.size (fun _ => True) (.slice Ao14 t554.length co14) t554) := ⟨(by rw [hw]; exact (by (with_reducible repeat (first | apply Kd.R_alloc | apply Kd.R_drewN | apply Kd.R_drew)); exact Kd.R_mono (Kd.R_far (p := ⟨gb546, 3, none⟩) (Kd.R_far (p := ⟨gb546, 2, none⟩) (Kd.R_far (p := ⟨gb546, 1, none⟩) (Kd.R_far (p := ⟨gb546, 0, none⟩) (Kd.R_types HO556.out BK546.out (by decide)) (fun _ hk => hk.2) (.int .i64 t551)) (fun _ hk => hk.2) (.int .i64 t552)) (fun _ hk => hk.2) (.int .i64 t553)) (fun _ hk => hk.2) (.slice Ao14 t554.length co14)) (fun _ hk => trivial)))⟩; have n1_ : Aside0 (Kd.R (Kd.int .i64) 3 w15 w.heap.size (fun _ => True) (.slice Ao10 y559.length co10) y559) := ⟨(by rw [hw]; exact (by (with_reducible repeat (first | apply Kd.R_alloc | apply Kd.R_drewN | apply Kd.R_drew)); exact Kd.R_mono (Kd.R_far (p := ⟨gb546, 3, none⟩) (Kd.R_far (p := ⟨gb546, 2, none⟩) (Kd.R_far (p := ⟨gb546, 1, none⟩) (Kd.R_far (p := ⟨gb546, 0, none⟩) (Kd.R_types HO561.out BK546.out (by decide)) (fun _ hk => hk.2) (.int .i64 t551)) (fun _ hk => hk.2) (.int .i64 t552)) (fun _ hk => hk.2) (.int .i64 t553)) (fun _ hk => hk.2) (.slice Ao14 t554.length co14)) (fun _ hk => trivial)))⟩; have n2_ : Aside0 (w15.heap[gb546]? = some (.cells #[.int .i64 t551, .int .i64 t552, .int .i64 t553, .slice Ao14 t554.length co14] 38 (0, 0))) := ⟨(by rw [hw]; exact (by (with_reducible repeat (first | refine blk_drewN ?_ _ | refine blk_drew ?_ | refine blk_alloc ?_ _)); refine blk_put (cs := #[.int .i64 t551, .int .i64 t552, .int .i64 t553, .slice none 0 0]) ?_ 3 _ rfl; (with_reducible repeat (first | refine blk_drewN ?_ _ | refine blk_drew ?_ | refine blk_alloc ?_ _)); refine blk_put (cs := #[.int .i64 t551, .int .i64 t552, .int .i64 0, .slice none 0 0]) ?_ 2 _ rfl; (with_reducible repeat (first | refine blk_drewN ?_ _ | refine blk_drew ?_ | refine blk_alloc ?_ _)); refine blk_put (cs := #[.int .i64 t551, .int .i64 0, .int .i64 0, .slice none 0 0]) ?_ 1 _ rfl; (with_reducible repeat (first | refine blk_drewN ?_ _ | refine blk_drew ?_ | refine blk_alloc ?_ _)); refine blk_put (cs := #[.int .i64 0, .int .i64 0, .int .i64 0, .slice none 0 0]) ?_ 0 _ rfl; (with_reducible repeat (first | refine blk_drewN ?_ _ | refine blk_drew ?_ | refine blk_alloc ?_ _)); exact BK546.out))⟩; have n3_ : Aside0 (IsS135 w w15 g550 t547 t563 t564) := ⟨(by rw [hw]; exact (IsS135.q1 HI550.out NB550_546.out))⟩; have n4_ : Aside0 (Below w.heap.size w w15) := ⟨(by rw [hw]; exact (bq2 HB.out (IsS135.ge HI550.out) GE546.out))⟩; clear hw; clear HO556; clear HO561; clear BK546; clear HI550; clear HB; have HO556 := n0_; have HO561 := n1_; have BK546 := n2_; have HI550 := n3_; have HB := n4_; clear n0_ n1_ n2_ n3_ n4_))
 refine bodyPost_ret (results_ct rfl _ _ gb546 38 #[.int .i64 t551, .int .i64 t552, .int .i64 t553, .slice Ao14 t554.length co14] (0, 0) _ rfl (zq BK546.out) Try.underlying38 rfl (by kernel_rfl)) rfl ?_
 exact ⟨_, rq, kqR HO556.out, bq2 HB.out (IsS135.ge HI550.out) GE546.out⟩

/-! ### impl_Tagged: function 30 -/
def impl_Tagged.f (a0_0 : Int) (a0_1 : Int) (a0_2 : Int) (l0_3 : List Int) (a1 : Int) : Option (Int × Int × Int × List Int) := (impl_copyBytes.f l0_3).bind fun t567 => (some (a0_0, a0_1, a1, t567))
set_option maxHeartbeats 8000000 in
set_option maxRecDepth 100000 in
theorem impl_Tagged.calls (a0_0 : Int) (a0_1 : Int) (a0_2 : Int) (A0_3 : Option Addr) (c0_3 : Nat) (l0_3 : List Int) (a1 : Int) (r1 : Int) (r2 : Int) (r3 : Int) (r4 : List Int) (w : World) (hr0_3 : Kd.C (Kd.int .u8) w A0_3 l0_3.length l0_3) (hc0_3 : l0_3.length ≤ c0_3) (h : impl_Tagged.f a0_0 a0_1 a0_2 l0_3 a1 = some (r1, r2, r3, r4)) :
 Calls Try.prog 30 #[.agg #[.int .i64 a0_0, .int .i64 a0_1, .int .i64 a0_2, .slice A0_3 l0_3.length c0_3], .int .i64 a1] w fun e w' => ∃ v3_ : Value, e = .returned (.agg #[.int .i64 r1, .int .i64 r2, .int .i64 r3, v3_]) ∧ Kd.R (Kd.int .u8) 5 w' w.heap.size (fun _ => True) v3_ r4 ∧ Below w.heap.size w w' := by
 have hu38 := Try.underlying38
 have HR0_3 := am hr0_3
 have HC0_3 := am hc0_3
 clear hr0_3 hc0_3
 have HB := am (Below.refl w.heap.size w)
 have H : ((impl_copyBytes.f l0_3).bind fun t567 => (some (a0_0, a0_1, a1, t567))) = some (r1, r2, r3, r4) := h
 clear h
 replace H := Option.bind_eq_some_iff.mp H
 obtain ⟨t567, A30, H⟩ := H
 replace H : (some (a0_0, a0_1, a1, t567)) = some (r1, r2, r3, r4) := H
 have A3 := am A30
 clear A30
 simp only [Option.some.injEq, Prod.mk.injEq] at H
 obtain ⟨rfl, rfl, rfl, rfl⟩ := H
 go_enter Try.func30, Try.ntmps30
 go_wp2_with (first | ((with_reducible refine gate_dst (N := 2) rfl ?_); refine box_event ?hg (N := 2) ?hd (cs := #[.int .i64 a0_0, .int .i64 a0_1, .int .i64 a0_2, .slice A0_3 l0_3.length c0_3]) (t := 38) ?hr ?_; (case hd => rfl); (case hg => rfl); (case hr => exact gs); intro gb565 hg w4 hbox hb; have n_ := ak4 (below_step (bq HB.out) hb) hbox ((by rw [hg]; exact (below_size (bq HB.out)) : w.heap.size ≤ gb565)) ((by rw [hg]; exact (below_size (bq HB.out)) : w.heap.size ≤ gb565)); clear HB; obtain ⟨HB, BK565, GW565, GE565⟩ := n_; clear hb hbox hg) | ((with_reducible refine gate_dst (N := 4) rfl ?_); refine box_event ?hg (N := 4) ?hd (cs := #[.int .i64 0, .int .i64 0, .int .i64 0, .slice none 0 0]) (t := 38) ?hr ?_; (case hd => rfl); (case hg => rfl); (case hr => exact gs); intro gb566 hg w5 hbox hb; have n_ := ak7 (blk_below (g := gb565) (o := .cells #[.int .i64 a0_0, .int .i64 a0_1, .int .i64 a0_2, .slice A0_3 l0_3.length c0_3] 38 (0, 0)) (zq BK565.out) hb) (below_step (bq1 HB.out GE565.out) hb) hbox ((by rw [hg]; exact (below_size (bq1 HB.out GE565.out)) : w.heap.size ≤ gb566)) ((by rw [hg]; exact (below_size (bq1 HB.out GE565.out)) : w.heap.size ≤ gb566)) ((by rw [hg]; exact Nat.ne_of_lt (blk_lt (g := gb565) (o := .cells #[.int .i64 a0_0, .int .i64 a0_1, .int .i64 a0_2, .slice A0_3 l0_3.length c0_3] 38 (0, 0)) (zq BK565.out)) : gb565 ≠ gb566)) ((by rw [hg]; exact Nat.ne_of_gt (blk_lt (g := gb565) (o := .cells #[.int .i64 a0_0, .int .i64 a0_1, .int .i64 a0_2, .slice A0_3 l0_3.length c0_3] 38 (0, 0)) (zq BK565.out)) : gb566 ≠ gb565)); clear BK565 HB; obtain ⟨BK565, HB, BK566, GW566, GE566, NB565_566, NB566_565⟩ := n_; clear hb hbox hg; have hnb6 := NB565_566.out; have hnc6 := NB566_565.out; have hcz7_0 : w5.cell? ⟨gb565, 0, none⟩ = some (.int .i64 a0_0) := (blk_cell BK565.out 0).trans rfl; have hcz7_1 : w5.cell? ⟨gb565, 1, none⟩ = some (.int .i64 a0_1) := (blk_cell BK565.out 1).trans rfl; have hcz7_2 : w5.cell? ⟨gb565, 2, none⟩ = some (.int .i64 a0_2) := (blk_cell BK565.out 2).trans rfl; have hcz7_3 : w5.cell? ⟨gb565, 3, none⟩ = some (.slice A0_3 l0_3.length c0_3) := (blk_cell BK565.out 3).trans rfl; have hfz7_0 := blk_frozen BK565.out 0; have hfz7_1 := blk_frozen BK565.out 1; have hfz7_2 := blk_frozen BK565.out 2; have hfz7_3 := blk_frozen BK565.out 3) | ((with_reducible refine gate_callee (f := 68) rfl ?_); refine goesL_ (some 7) rfl rfl Try.func68 (by kernel_rfl) rfl #[.slice A0_3 l0_3.length c0_3] rfl ga ?_; (with_reducible refine (impl_copyBytes.calls _ _ l0_3 t567 _ ?side1 ?side2 A3.out).mono ?_); (case side1 => exact cq (Kd.C_below HR0_3.out HB.out)); (case side2 => exact HC0_3.out); rintro e w8 ⟨v568, rfl, ho0, hb⟩; refine ⟨_, rfl, ?_⟩; have n_ := ak4 (Kd.R_lower ho0 (below_size (bq2 HB.out GE565.out GE566.out))) (blk_below (g := gb565) (o := .cells #[.int .i64 a0_0, .int .i64 a0_1, .int .i64 a0_2, .slice A0_3 l0_3.length c0_3] 38 (0, 0)) (zq BK565.out) hb) (blk_below (g := gb566) (o := .cells #[.int .i64 0, .int .i64 0, .int .i64 0, .slice none 0 0] 38 (0, 0)) (zq BK566.out) hb) (below_step (bq2 HB.out GE565.out GE566.out) hb); clear BK565 BK566 HB; obtain ⟨HO569, BK565, BK566, HB⟩ := n_; (try clear hb ho0); obtain ⟨Ao9, co9, eo9⟩ := Kd.R_slice HO569.out; subst eo9; have hcz10_0 : w8.cell? ⟨gb565, 0, none⟩ = some (.int .i64 a0_0) := (blk_cell BK565.out 0).trans rfl; have hcz10_1 : w8.cell? ⟨gb565, 1, none⟩ = some (.int .i64 a0_1) := (blk_cell BK565.out 1).trans rfl; have hcz10_2 : w8.cell? ⟨gb565, 2, none⟩ = some (.int .i64 a0_2) := (blk_cell BK565.out 2).trans rfl; have hcz10_3 : w8.cell? ⟨gb565, 3, none⟩ = some (.slice A0_3 l0_3.length c0_3) := (blk_cell BK565.out 3).trans rfl; have hfz10_0 := blk_frozen BK565.out 0; have hfz10_1 := blk_frozen BK565.out 1; have hfz10_2 := blk_frozen BK565.out 2; have hfz10_3 := blk_frozen BK565.out 3; have hcz11_0 : w8.cell? ⟨gb566, 0, none⟩ = some (.int .i64 0) := (blk_cell BK566.out 0).trans rfl; have hcz11_1 : w8.cell? ⟨gb566, 1, none⟩ = some (.int .i64 0) := (blk_cell BK566.out 1).trans rfl; have hcz11_2 : w8.cell? ⟨gb566, 2, none⟩ = some (.int .i64 0) := (blk_cell BK566.out 2).trans rfl; have hcz11_3 : w8.cell? ⟨gb566, 3, none⟩ = some (.slice none 0 0) := (blk_cell BK566.out 3).trans rfl; have hfz11_0 := blk_frozen BK566.out 0; have hfz11_1 := blk_frozen BK566.out 1; have hfz11_2 := blk_frozen BK566.out 2; have hfz11_3 := blk_frozen BK566.out 3) | ((with_reducible refine gate_store (t := 38) (p := 4) rfl ?_); refine store_event (t := 38) (p := 4) (v := ?vo_w12) (w1 := ((((((w8.setCell ⟨gb565, 3, none⟩ (.slice Ao9 t567.length co9)).setCell ⟨gb565, 2, none⟩ (.int .i64 a1)).setCell ⟨gb566, 0, none⟩ (.int .i64 a0_0)).setCell ⟨gb566, 1, none⟩ (.int .i64 a0_1)).setCell ⟨gb566, 2, none⟩ (.int .i64 a1)).setCell ⟨gb566, 3, none⟩ (.slice Ao9 t567.length co9))) ?hg ?ho ?hn ?hr ?_; (case ho => rfl); (case hg => rfl); (case hn => rfl); (case hr => exact gs); intro w12 hw; have n0_ : Aside0 (Kd.R (Kd.int .u8) 5 w12 w.heap.size (fun _ => True) (.slice Ao9 t567.length co9) t567) := ⟨(by rw [hw]; exact (by (with_reducible repeat (first | apply Kd.R_alloc | apply Kd.R_drewN | apply Kd.R_drew)); exact Kd.R_mono (Kd.R_far (p := ⟨gb566, 3, none⟩) (Kd.R_far (p := ⟨gb566, 2, none⟩) (Kd.R_far (p := ⟨gb566, 1, none⟩) (Kd.R_far (p := ⟨gb566, 0, none⟩) (Kd.R_far (p := ⟨gb565, 2, none⟩) (Kd.R_far (p := ⟨gb565, 3, none⟩) (Kd.R_types (Kd.R_types HO569.out BK565.out (by decide)) BK566.out (by decide)) (fun _ hk => hk.1.2) (.slice Ao9 t567.length co9)) (fun _ hk => hk.1.2) (.int .i64 a1)) (fun _ hk => hk.2) (.int .i64 a0_0)) (fun _ hk => hk.2) (.int .i64 a0_1)) (fun _ hk => hk.2) (.int .i64 a1)) (fun _ hk => hk.2) (.slice Ao9 t567.length co9)) (fun _ hk => trivial)))⟩; have n1_ : Aside0 (w12.heap[gb565]? = some (.cells #[.int .i64 a0_0, .int .i64 a0_1, .int .i64 a1, .slice Ao9 t567.length co9] 38 (0, 0))) := ⟨(by rw [hw]; exact (by (with_reducible repeat (first | refine blk_drewN ?_ _ | refine blk_drew ?_ | refine blk_alloc ?_ _)); refine blk_far ?_ NB565_566.out _; (with_reducible repeat (first | refine blk_drewN ?_ _ | refine blk_drew ?_ | refine blk_alloc ?_ _)); refine blk_far ?_ NB565_566.out _; (with_reducible repeat (first | refine blk_drewN ?_ _ | refine blk_drew ?_ | refine blk_alloc ?_ _)); refine blk_far ?_ NB565_566.out _; (with_reducible repeat (first | refine blk_drewN ?_ _ | refine blk_drew ?_ | refine blk_alloc ?_ _)); refine blk_far ?_ NB565_566.out _; (with_reducible repeat (first | refine blk_drewN ?_ _ | refine blk_drew ?_ | refine blk_alloc ?_ _)); refine blk_put (cs := #[.int .i64 a0_0, .int .i64 a0_1, .int .i64 a0_2, .slice Ao9 t567.length co9]) ?_ 2 _ rfl; (with_reducible repeat (first | refine blk_drewN ?_ _ | refine blk_drew ?_ | refine blk_alloc ?_ _)); refine blk_put (cs := #[.int .i64 a0_0, .int .i64 a0_1, .int .i64 a0_2, .slice A0_3 l0_3.length c0_3]) ?_ 3 _ rfl; (with_reducible repeat (first | refine blk_drewN ?_ _ | refine blk_drew ?_ | refine blk_alloc ?_ _)); exact BK565.out))⟩; have n2_ : Aside0 (w12.heap[gb566]? = some (.cells #[.int .i64 a0_0, .int .i64 a0_1, .int .i64 a1, .slice Ao9 t567.length co9] 38 (0, 0))) := ⟨(by rw [hw]; exact (by (with_reducible repeat (first | refine blk_drewN ?_ _ | refine blk_drew ?_ | refine blk_alloc ?_ _)); refine blk_put (cs := #[.int .i64 a0_0, .int .i64 a0_1, .int .i64 a1, .slice none 0 0]) ?_ 3 _ rfl; (with_reducible repeat (first | refine blk_drewN ?_ _ | refine blk_drew ?_ | refine blk_alloc ?_ _)); refine blk_put (cs := #[.int .i64 a0_0, .int .i64 a0_1, .int .i64 0, .slice none 0 0]) ?_ 2 _ rfl; (with_reducible repeat (first | refine blk_drewN ?_ _ | refine blk_drew ?_ | refine blk_alloc ?_ _)); refine blk_put (cs := #[.int .i64 a0_0, .int .i64 0, .int .i64 0, .slice none 0 0]) ?_ 1 _ rfl; (with_reducible repeat (first | refine blk_drewN ?_ _ | refine blk_drew ?_ | refine blk_alloc ?_ _)); refine blk_put (cs := #[.int .i64 0, .int .i64 0, .int .i64 0, .slice none 0 0]) ?_ 0 _ rfl; (with_reducible repeat (first | refine blk_drewN ?_ _ | refine blk_drew ?_ | refine blk_alloc ?_ _)); refine blk_far ?_ NB566_565.out _; (with_reducible repeat (first | refine blk_drewN ?_ _ | refine blk_drew ?_ | refine blk_alloc ?_ _)); refine blk_far ?_ NB566_565.out _; (with_reducible repeat (first | refine blk_drewN ?_ _ | refine blk_drew ?_ | refine blk_alloc ?_ _)); exact BK566.out))⟩; have n3_ : Aside0 (Below w.heap.size w w12) := ⟨(by rw [hw]; exact (bq2 HB.out GE565.out GE566.out))⟩; clear hw; clear HO569; clear BK565; clear BK566; clear HB; have HO569 := n0_; have BK565 := n1_; have BK566 := n2_; have HB := n3_; clear n0_ n1_ n2_ n3_))
 refine bodyPost_ret (results_cell_row rfl _ _ gb566 38 #[.int .i64 a0_0, .int .i64 a0_1, .int .i64 a1, .slice Ao9 t567.length co9] (0, 0) _ rfl (zq BK566.out) Try.underlying38 rfl (by kernel_rfl)) rfl ?_
 exact ⟨_, rq, kqR HO569.out, bq2 HB.out GE565.out GE566.out⟩

/-! ### laws_sameBytes: function 32 -/
def laws_sameBytes.l0 : Nat → List Int → List Int → Int → Option (Bool)
 | 0, _, _, _ => none
 | k + 1, x0, x1, x5 => if x5 < (x0.length : Int) then (if 0 ≤ x5 then (if x5 < (x1.length : Int) then (if (rd x0 x5) = (rd x1 x5) then (laws_sameBytes.l0 k x0 x1 (wrap64 (x5 + 1))) else (some false)) else (none)) else (none)) else (some true)
def laws_sameBytes.f (k : Nat) (l0 : List Int) (l1 : List Int) : Option (Bool) := if (l0.length : Int) = (l1.length : Int) then (laws_sameBytes.l0 k l0 l1 0) else (some false)
theorem laws_sameBytes.mono_l : ∀ k, (∀ y0 y1 y2, LeO (laws_sameBytes.l0 k y0 y1 y2) (laws_sameBytes.l0 (k + 1) y0 y1 y2))
 | 0 => fun _ _ _ r h => by simp [laws_sameBytes.l0] at h
 | k + 1 => by
  have ih0 := laws_sameBytes.mono_l k
  intro y0 y1 y2
  unfold laws_sameBytes.l0
  repeat' first
  | (with_reducible exact ih0 _ _ _)
  | (with_reducible exact LeO.refl _)
  | (with_reducible exact LeO.none _)
  | (with_reducible refine LeO.ite ?_ ?_)
  | (with_reducible refine LeO.bind ?_ (fun _ => ?_))
  | exact ih0 _ _ _
  | exact LeO.none _
  | refine LeO.ite ?_ ?_
  | refine LeO.bind ?_ (fun _ => ?_)
theorem laws_sameBytes.mono : ∀ a0 a1 k, LeO (laws_sameBytes.f k a0 a1) (laws_sameBytes.f (k + 1) a0 a1) := by
 intro a0 a1 k
 have ih0 := laws_sameBytes.mono_l k
 unfold laws_sameBytes.f
 repeat' first
  | (with_reducible exact ih0 _ _ _)
  | (with_reducible exact LeO.refl _)
  | (with_reducible exact LeO.none _)
  | (with_reducible refine LeO.ite ?_ ?_)
  | (with_reducible refine LeO.bind ?_ (fun _ => ?_))
  | exact ih0 _ _ _
  | exact LeO.none _
  | refine LeO.ite ?_ ?_
  | refine LeO.bind ?_ (fun _ => ?_)
set_option maxHeartbeats 8000000 in
set_option maxRecDepth 100000 in
theorem laws_sameBytes.calls (k : Nat) (A0 : Option Addr) (c0 : Nat) (l0 : List Int) (A1 : Option Addr) (c1 : Nat) (l1 : List Int) (r : Bool) (w : World) (hr0 : Kd.C (Kd.int .u8) w A0 l0.length l0) (hc0 : l0.length ≤ c0) (hr1 : Kd.C (Kd.int .u8) w A1 l1.length l1) (hc1 : l1.length ≤ c1) (h : laws_sameBytes.f k l0 l1 = some r) :
 Calls Try.prog 32 #[.slice A0 l0.length c0, .slice A1 l1.length c1] w fun e w' => e = .returned (.bool r) ∧ Drawn0 w w' := by
 have HR0 := am hr0
 have HC0 := am hc0
 clear hr0 hc0
 have HR1 := am hr1
 have HC1 := am hc1
 clear hr1 hc1
 have H : (if (l0.length : Int) = (l1.length : Int) then (laws_sameBytes.l0 k l0 l1 0) else (some false)) = some r := h
 clear h
 by_cases c3 : (l0.length : Int) = (l1.length : Int)
 · rw [if_pos c3] at H
   have c3b0 : ((l0.length : Int) == (l1.length : Int)) = true := beq_iff_eq.mpr c3
   have c3b1 : ((l0.length : Int) != (l1.length : Int)) = false := bne_eq_false_iff_eq.mpr c3
   have c3b2 : (l0.length == l1.length) = true := by first | simpa using c3 | (simp at c3 ⊢; omega)
   clear c3
   have H' := am H
   clear H
   go_enter Try.func32, Try.ntmps32
   go_wp2
   repeat (go_quiet (fail); try go_wp2)
   go_loopg [5] k (fun kq v5 w' => ∃ (x5_1 : Int), v5 = .int .i64 x5_1 ∧ Aside0 (laws_sameBytes.l0 kq l0 l1 x5_1 = some r) ∧ Aside0 (kq ≤ k) ∧ Drawn0 w w')
   case atStart => exact ⟨(0), sq, H', ⟨Nat.le_refl _⟩, by repeat (first | exact Drawn0.refl _ | apply Drawn0.step)⟩
   case round =>
    clear H'
    try clear c1
    try clear p2
    try clear c3
    try clear c3b0
    try clear c3b1
    try clear c3b2
    obtain ⟨x5_1, rfl, HA, HK1, ⟨m1, rfl⟩⟩ := hrel
    cases gk with
    | zero => exact absurd HA.out (by simp [laws_sameBytes.l0])
    | succ k1 =>
     have H := HA.out
     clear HA
     simp only [laws_sameBytes.l0] at H
     by_cases c4 : x5_1 < (l0.length : Int)
     · rw [if_pos c4] at H
       have c4b0 : decide (x5_1 < (l0.length : Int)) = true := decide_eq_true c4
       clear c4
       by_cases c5 : 0 ≤ x5_1
       · rw [if_pos c5] at H
         have c5b0 : decide (0 ≤ x5_1) = true := decide_eq_true c5
         clear c5
         by_cases c6 : x5_1 < (l1.length : Int)
         · rw [if_pos c6] at H
           have c6b0 : decide (x5_1 < (l1.length : Int)) = true := decide_eq_true c6
           clear c6
           by_cases c7 : (rd l0 x5_1) = (rd l1 x5_1)
           · rw [if_pos c7] at H
             have c7b0 : ((rd l0 x5_1) == (rd l1 x5_1)) = true := beq_iff_eq.mpr c7
             have c7b1 : ((rd l0 x5_1) != (rd l1 x5_1)) = false := bne_eq_false_iff_eq.mpr c7
             clear c7
             have H' := am H
             clear H
             have p570 : 0 ≤ (x5_1 : Int) := oda
             have q570 : x5_1 < (l0.length : Int) := oda
             obtain ⟨ad570, e570, hx570_0⟩ := Kd.at_int HR0.out x5_1 p570 q570
             cases e570
             replace p570 := eq_true p570
             replace q570 := eq_true q570
             have p571 : 0 ≤ (x5_1 : Int) := oda
             have q571 : x5_1 < (l1.length : Int) := oda
             obtain ⟨ad571, e571, hx571_0⟩ := Kd.at_int HR1.out x5_1 p571 q571
             cases e571
             replace p571 := eq_true p571
             replace q571 := eq_true q571
             go_wp2
             repeat (go_quiet (fail); try go_wp2)
             go_roundg k1
             case measure => have := HK1.out; omega
             case rel => exact ⟨(wrap64 (x5_1 + 1)), sq, H', ⟨by have := HK1.out; omega⟩, by repeat (first | exact Drawn0.refl _ | apply Drawn0.step)⟩
           rw [if_neg c7] at H
           have c7b0 : ((rd l0 x5_1) == (rd l1 x5_1)) = false := beq_eq_false_iff_ne.mpr c7
           have c7b1 : ((rd l0 x5_1) != (rd l1 x5_1)) = true := bne_iff_ne.mpr c7
           obtain rfl := Option.some.inj H
           have p570 : 0 ≤ (x5_1 : Int) := oda
           have q570 : x5_1 < (l0.length : Int) := oda
           obtain ⟨ad570, e570, hx570_0⟩ := Kd.at_int HR0.out x5_1 p570 q570
           cases e570
           replace p570 := eq_true p570
           replace q570 := eq_true q570
           have p571 : 0 ≤ (x5_1 : Int) := oda
           have q571 : x5_1 < (l1.length : Int) := oda
           obtain ⟨ad571, e571, hx571_0⟩ := Kd.at_int HR1.out x5_1 p571 q571
           cases e571
           replace p571 := eq_true p571
           replace q571 := eq_true q571
           go_wp2
           repeat (go_quiet (fail); try go_wp2)
           go_ret
           exact ⟨by first | rfl | (simp; done) | (simp [*]; done), by repeat (first | exact Drawn0.refl _ | apply Drawn0.step)⟩
         rw [if_neg c6] at H
         exact absurd H (by simp)
       rw [if_neg c5] at H
       exact absurd H (by simp)
     rw [if_neg c4] at H
     have c4b0 : decide (x5_1 < (l0.length : Int)) = false := decide_eq_false c4
     clear c4
     obtain rfl := Option.some.inj H
     go_wp2
     repeat (go_quiet (fail); try go_wp2)
     go_ret
     exact ⟨by first | rfl | (simp; done) | (simp [*]; done), by repeat (first | exact Drawn0.refl _ | apply Drawn0.step)⟩
 rw [if_neg c3] at H
 have c3b0 : ((l0.length : Int) == (l1.length : Int)) = false := beq_eq_false_iff_ne.mpr c3
 have c3b1 : ((l0.length : Int) != (l1.length : Int)) = true := bne_iff_ne.mpr c3
 have c3b2 : (l0.length == l1.length) = false := by first | simpa using c3 | (simp at c3 ⊢; omega)
 obtain rfl := Option.some.inj H
 go_enter Try.func32, Try.ntmps32
 go_wp2
 repeat (go_quiet (fail); try go_wp2)
 go_ret
 exact ⟨by first | rfl | (simp; done) | (simp [*]; done), by repeat (first | exact Drawn0.refl _ | apply Drawn0.step)⟩

end Go.Proofs.Ythhnfmbfgplelaa.XFnFrames
