/- The functions that one law reaches, as Lean functions, with their walks: printed by a program of this seat (wip/tools) out of the translation. -/
import Derived.Test.YthhnfmbfgplelaaXFnFramesx0
import Derived.Test.YthhnfmbfgplelaaXFnFramesx1
import Derived.Test.YthhnfmbfgplelaaXFnFramesx2
import Derived.Test.YthhnfmbfgplelaaXFnFramesx3
import Derived.Test.YthhnfmbfgplelaaXFnFramesx7
namespace Go.Proofs.Ythhnfmbfgplelaa.XFnFrames
open Go.RowKit Go.Proofs.YthhnfmbfgplelaaW.PrintWords Go.Proofs.YthhnfmbfgplelaaW.PrintLast Go.Proofs.YthhnfmbfgplelaaW.PrintMore
attribute [local go_sem] max2_int min2_int max_two min_two max_three min_three max_four min_four   -- for this text's walks alone
set_option linter.unusedVariables false
set_option linter.unusedSimpArgs false

/-! ### impl_GetInt: function 92 -/
def impl_GetInt.l0 : Nat → List Int → Int → List Int → Int → Int → Option (Int × Bool)
 | 0, _, _, _, _, _ => none
 | k + 1, x0, x4, x17, x18, x19 => if x19 < x18 then (if 0 ≤ x19 then (if x19 < (x17.length : Int) then (impl_GetInt.l0 k x0 (Go.bits .or .i64 (wrap64 (x4 * 256)) (wrap64 (rd x17 x19))) x17 x18 (wrap64 (x19 + 1))) else (none)) else (none)) else ((impl_PutInt.f k x4).bind fun t423 => (if (t423.length : Int) = (x0.length : Int) then (some (x4, true)) else (some (0, false))))
def impl_GetInt.f (k : Nat) (l0 : List Int) : Option (Int × Bool) := (impl_in.f (l0.length : Int) 1 4).bind fun t419 => (if t419 = true then (if 0 < (l0.length : Int) then (if 1 ≤ (l0.length : Int) then (impl_GetInt.l0 k l0 (wrap64 (IntKind.i8.wrap (rd l0 0))) (l0.drop 1) ((l0.drop 1).length : Int) 0) else (none)) else (none)) else (some (0, false)))
theorem impl_GetInt.mono_l : ∀ k, (∀ y0 y1 y2 y3 y4, LeO (impl_GetInt.l0 k y0 y1 y2 y3 y4) (impl_GetInt.l0 (k + 1) y0 y1 y2 y3 y4))
 | 0 => fun _ _ _ _ _ r h => by simp [impl_GetInt.l0] at h
 | k + 1 => by
  have ih0 := impl_GetInt.mono_l k
  intro y0 y1 y2 y3 y4
  unfold impl_GetInt.l0
  repeat' first
  | (with_reducible exact ih0 _ _ _ _ _)
  | (with_reducible exact impl_PutInt.mono _ _)
  | (with_reducible exact LeO.refl _)
  | (with_reducible exact LeO.none _)
  | (with_reducible refine LeO.ite ?_ ?_)
  | (with_reducible refine LeO.bind ?_ (fun _ => ?_))
  | exact ih0 _ _ _ _ _
  | exact impl_PutInt.mono _ _
  | exact LeO.none _
  | refine LeO.ite ?_ ?_
  | refine LeO.bind ?_ (fun _ => ?_)
theorem impl_GetInt.mono : ∀ a0 k, LeO (impl_GetInt.f k a0) (impl_GetInt.f (k + 1) a0) := by
 intro a0 k
 have ih0 := impl_GetInt.mono_l k
 unfold impl_GetInt.f
 repeat' first
  | (with_reducible exact ih0 _ _ _ _ _)
  | (with_reducible exact impl_PutInt.mono _ _)
  | (with_reducible exact LeO.refl _)
  | (with_reducible exact LeO.none _)
  | (with_reducible refine LeO.ite ?_ ?_)
  | (with_reducible refine LeO.bind ?_ (fun _ => ?_))
  | exact ih0 _ _ _ _ _
  | exact impl_PutInt.mono _ _
  | exact LeO.none _
  | refine LeO.ite ?_ ?_
  | refine LeO.bind ?_ (fun _ => ?_)
set_option maxHeartbeats 8000000 in
set_option maxRecDepth 100000 in
theorem impl_GetInt.calls (k : Nat) (A0 : Option Addr) (c0 : Nat) (l0 : List Int) (r1 : Int) (r2 : Bool) (w : World) (hr0 : Kd.C (Kd.int .u8) w A0 l0.length l0) (hc0 : l0.length ≤ c0) (h : impl_GetInt.f k l0 = some (r1, r2)) :
 Calls Try.prog 92 #[.slice A0 l0.length c0] w fun e w' => e = .returned (.tuple #[.int .i64 r1, .bool r2]) ∧ Below w.heap.size w w' := by
 have HR0 := am hr0
 have HC0 := am hc0
 clear hr0 hc0
 have HB := am (Below.refl w.heap.size w)
 have H : ((impl_in.f (l0.length : Int) 1 4).bind fun t419 => (if t419 = true then (if 0 < (l0.length : Int) then (if 1 ≤ (l0.length : Int) then (impl_GetInt.l0 k l0 (wrap64 (IntKind.i8.wrap (rd l0 0))) (l0.drop 1) ((l0.drop 1).length : Int) 0) else (none)) else (none)) else (some (0, false)))) = some (r1, r2) := h
 clear h
 replace H := Option.bind_eq_some_iff.mp H
 obtain ⟨t419, A20, H⟩ := H
 replace H : (if t419 = true then (if 0 < (l0.length : Int) then (if 1 ≤ (l0.length : Int) then (impl_GetInt.l0 k l0 (wrap64 (IntKind.i8.wrap (rd l0 0))) (l0.drop 1) ((l0.drop 1).length : Int) 0) else (none)) else (none)) else (some (0, false))) = some (r1, r2) := H
 have A2 := am A20
 clear A20
 by_cases c3 : t419 = true
 · subst c3
   have H1 : (if 0 < (l0.length : Int) then (if 1 ≤ (l0.length : Int) then (impl_GetInt.l0 k l0 (wrap64 (IntKind.i8.wrap (rd l0 0))) (l0.drop 1) ((l0.drop 1).length : Int) 0) else (none)) else (none)) = some (r1, r2) := by rw [if_pos rfl] at H; exact H
   clear H
   have H := H1
   clear H1
   by_cases c4 : 0 < (l0.length : Int)
   · rw [if_pos c4] at H
     have c4b0 : decide (0 < (l0.length : Int)) = true := decide_eq_true c4
     have c4b1 : decide (0 < l0.length) = true := decide_eq_true (by omega)
     clear c4
     by_cases c5 : 1 ≤ (l0.length : Int)
     · rw [if_pos c5] at H
       have c5b0 := eq_true c5
       have c5b1 : decide (1 ≤ (l0.length : Int)) = true := decide_eq_true c5
       clear c5
       have H' := am H
       clear H
       go_enter Try.func92, Try.ntmps92
       go_wp2_with (first | ((with_reducible refine gate_callee (f := 87) rfl ?_); refine goesL_ (some 9) rfl rfl Try.func87 (by kernel_rfl) rfl #[.int .i64 (l0.length : Int), .int .i64 1, .int .i64 4] rfl ga ?_; (with_reducible refine (impl_in.calls (l0.length : Int) 1 4 true _ A2.out).mono ?_); rintro e w' ⟨rfl, ⟨nd, rfl⟩⟩; refine ⟨_, rfl, ?_⟩; have p420 : 0 ≤ (0 : Int) := (by omega); have q420 : 0 < (l0.length : Int) := oda; obtain ⟨ad420, e420, hx420_0⟩ := Kd.at_int HR0.out 0 p420 q420; cases e420; have qi420 : (0 < l0.length) = True := eq_true (by omega); (try rw [show ((0 : Int)).toNat = 0 from rfl] at hx420_0); (try rw [Addr.add_zero'] at hx420_0); replace p420 := eq_true p420; replace q420 := eq_true q420; obtain ⟨i06, hi06, _, hsz6, _⟩ := info_parts info5; obtain ⟨A6, hcut6, hA6, hC6⟩ := print_drop_of (P := Try.prog) (Value.int .u8) 0 22 5 .i64 Try.underlying22 hi06 hsz6 (some ad420) c0 l0 1 (by omega) (oda) HC0.out; have HR421 := am (Kd.C_of_reads (h1 := fun _ => rfl) (hA6 _ (Kd.reads_of_C HR0.out))); have HC421 := am hC6; clear hA6 hC6 hi06 hsz6))
       go_loopg [4, 19] k (fun kq v4 v19 w' => ∃ (x4_1 : Int) (x19_1 : Int), v4 = .int .i64 x4_1 ∧ v19 = .int .i64 x19_1 ∧ Aside0 (impl_GetInt.l0 kq l0 x4_1 (l0.drop 1) ((l0.drop 1).length : Int) x19_1 = some (r1, r2)) ∧ Aside0 (kq ≤ k) ∧ Aside0 (Below w.heap.size w w'))
       case atStart => exact ⟨(wrap64 (IntKind.i8.wrap (rd l0 0))), (0), sq, sq, H', ⟨Nat.le_refl _⟩, ⟨bq HB.out⟩⟩
       case round =>
        clear H'
        try clear p2
        try clear c3
        try clear c4
        try clear c4b0
        try clear c4b1
        try clear p4
        try clear q4
        try clear hx4
        try clear qi4
        try clear c5
        try clear c5b0
        try clear c5b1
        try clear p6
        try clear hx420_0
        try clear p420
        try clear q420
        obtain ⟨x4_1, x19_1, rfl, rfl, HA, HK1, HB⟩ := hrel
        cases gk with
        | zero => exact absurd HA.out (by simp [impl_GetInt.l0])
        | succ k1 =>
         have H := HA.out
         clear HA
         simp only [impl_GetInt.l0] at H
         by_cases c7 : x19_1 < ((l0.drop 1).length : Int)
         · rw [if_pos c7] at H
           have c7b0 : decide (x19_1 < ((l0.drop 1).length : Int)) = true := decide_eq_true c7
           have c7b0z : decide (x19_1 < ((l0.length - 1 : Nat) : Int)) = true := by have h_ := c7b0; rw [List.length_drop] at h_; exact h_
           clear c7
           by_cases c8 : 0 ≤ x19_1
           · rw [if_pos c8] at H
             have c8b0 : decide (0 ≤ x19_1) = true := decide_eq_true c8
             clear c8
             by_cases c9 : x19_1 < ((l0.drop 1).length : Int)
             · rw [if_pos c9] at H
               have c9b0 : decide (x19_1 < ((l0.drop 1).length : Int)) = true := decide_eq_true c9
               have c9b0z : decide (x19_1 < ((l0.length - 1 : Nat) : Int)) = true := by have h_ := c9b0; rw [List.length_drop] at h_; exact h_
               clear c9
               have H' := am H
               clear H
               have p422 : 0 ≤ (x19_1 : Int) := oda
               have q422 : x19_1 < ((l0.drop 1).length : Int) := oda
               obtain ⟨ad422, e422, hx422_0⟩ := Kd.at_int HR421.out x19_1 p422 q422
               cases e422
               replace hx422_0 := (HB.out.cell (World.block_lt_of_cell? w _ hx422_0)).trans hx422_0
               replace p422 := eq_true p422
               replace q422 := eq_true q422
               have q422z : (x19_1 < ((l0.length - 1 : Nat) : Int)) = True := by have h_ := of_eq_true q422; rw [List.length_drop] at h_; exact eq_true h_
               go_wp2
               go_roundg k1
               case measure => have := HK1.out; omega
               case rel => exact ⟨(Go.bits .or .i64 (wrap64 (x4_1 * 256)) (wrap64 (rd (l0.drop 1) x19_1))), (wrap64 (x19_1 + 1)), sq, sq, H', ⟨by have := HK1.out; omega⟩, ⟨bq HB.out⟩⟩
             rw [if_neg c9] at H
             exact absurd H (by simp)
           rw [if_neg c8] at H
           exact absurd H (by simp)
         rw [if_neg c7] at H
         have c7b0 : decide (x19_1 < ((l0.drop 1).length : Int)) = false := decide_eq_false c7
         have c7b0z : decide (x19_1 < ((l0.length - 1 : Nat) : Int)) = false := by have h_ := c7b0; rw [List.length_drop] at h_; exact h_
         clear c7
         replace H := Option.bind_eq_some_iff.mp H
         obtain ⟨t423, A100, H⟩ := H
         replace H : (if (t423.length : Int) = (l0.length : Int) then (some (x4_1, true)) else (some (0, false))) = some (r1, r2) := H
         have A10 := am A100
         clear A100
         by_cases c11 : (t423.length : Int) = (l0.length : Int)
         · rw [if_pos c11] at H
           have c11b0 : ((t423.length : Int) == (l0.length : Int)) = true := beq_iff_eq.mpr c11
           have c11b1 : ((t423.length : Int) != (l0.length : Int)) = false := bne_eq_false_iff_eq.mpr c11
           have c11b2 : (t423.length == l0.length) = true := by first | simpa using c11 | (simp at c11 ⊢; omega)
           clear c11
           simp only [Option.some.injEq, Prod.mk.injEq] at H
           obtain ⟨rfl, rfl⟩ := H
           go_wp2_with (first | ((with_reducible refine gate_callee (f := 69) rfl ?_); refine goesL_ (some 30) rfl rfl Try.func69 (by kernel_rfl) rfl #[.int .i64 x4_1] rfl ga ?_; (with_reducible refine (impl_PutInt.calls k1 x4_1 t423 _ A10.out).mono ?_); rintro e w12 ⟨v424, rfl, ho0, hb⟩; refine ⟨_, rfl, ?_⟩; have n_ := ak2 (Kd.R_lower ho0 (below_size (bq HB.out))) (below_step (bq HB.out) hb); clear HB; obtain ⟨HO425, HB⟩ := n_; (try clear hb ho0); obtain ⟨Ao13, co13, eo13⟩ := Kd.R_slice HO425.out; subst eo13))
           go_ret2
           exact ⟨rq, bq HB.out⟩
         rw [if_neg c11] at H
         have c11b0 : ((t423.length : Int) == (l0.length : Int)) = false := beq_eq_false_iff_ne.mpr c11
         have c11b1 : ((t423.length : Int) != (l0.length : Int)) = true := bne_iff_ne.mpr c11
         have c11b2 : (t423.length == l0.length) = false := by first | simpa using c11 | (simp at c11 ⊢; omega)
         simp only [Option.some.injEq, Prod.mk.injEq] at H
         obtain ⟨rfl, rfl⟩ := H
         go_wp2_with (first | ((with_reducible refine gate_callee (f := 69) rfl ?_); refine goesL_ (some 30) rfl rfl Try.func69 (by kernel_rfl) rfl #[.int .i64 x4_1] rfl ga ?_; (with_reducible refine (impl_PutInt.calls k1 x4_1 t423 _ A10.out).mono ?_); rintro e w14 ⟨v424, rfl, ho0, hb⟩; refine ⟨_, rfl, ?_⟩; have n_ := ak2 (Kd.R_lower ho0 (below_size (bq HB.out))) (below_step (bq HB.out) hb); clear HB; obtain ⟨HO425, HB⟩ := n_; (try clear hb ho0); obtain ⟨Ao15, co15, eo15⟩ := Kd.R_slice HO425.out; subst eo15))
         go_ret2
         exact ⟨rq, bq HB.out⟩
     rw [if_neg c5] at H
     exact absurd H (by simp)
   rw [if_neg c4] at H
   exact absurd H (by simp)
 replace c3 := Bool.eq_false_iff.mpr c3
 subst c3
 have H1 : (some (0, false)) = some (r1, r2) := by rw [if_neg (show ¬ (false = true) by decide)] at H; exact H
 clear H
 have H := H1
 clear H1
 simp only [Option.some.injEq, Prod.mk.injEq] at H
 obtain ⟨rfl, rfl⟩ := H
 go_enter Try.func92, Try.ntmps92
 go_wp2_with (first | ((with_reducible refine gate_callee (f := 87) rfl ?_); refine goesL_ (some 9) rfl rfl Try.func87 (by kernel_rfl) rfl #[.int .i64 (l0.length : Int), .int .i64 1, .int .i64 4] rfl ga ?_; (with_reducible refine (impl_in.calls (l0.length : Int) 1 4 false _ A2.out).mono ?_); rintro e w' ⟨rfl, ⟨nd, rfl⟩⟩; refine ⟨_, rfl, ?_⟩))
 go_ret2
 exact ⟨rq, bq HB.out⟩

/-! ### impl_parts_num: function 80 -/
def impl_parts_num.f (k : Nat) (s0_0 : List Int) (s0_1 : Int) (s0_2 : Bool) (a1 : Int) : Option (Int × Int × Bool) := (impl_parts_part.f k s0_0 s0_1 s0_2 a1).bind fun bt426 => ((impl_GetInt.f k bt426.1).bind fun bt431 => (if bt426.2.2 = true then (some (bt431.1, bt426.2.1, true)) else (some (bt431.1, bt426.2.1, !bt431.2))))
theorem impl_parts_num.mono : ∀ a0 a1 a2 a3 k, LeO (impl_parts_num.f k a0 a1 a2 a3) (impl_parts_num.f (k + 1) a0 a1 a2 a3) := by
 intro a0 a1 a2 a3 k
 unfold impl_parts_num.f
 repeat' first
  | (with_reducible exact impl_GetInt.mono _ _)
  | (with_reducible exact impl_parts_part.mono _ _ _ _ _)
  | (with_reducible exact LeO.refl _)
  | (with_reducible exact LeO.none _)
  | (with_reducible refine LeO.ite ?_ ?_)
  | (with_reducible refine LeO.bind ?_ (fun _ => ?_))
  | exact impl_GetInt.mono _ _
  | exact impl_parts_part.mono _ _ _ _ _
  | exact LeO.none _
  | refine LeO.ite ?_ ?_
  | refine LeO.bind ?_ (fun _ => ?_)
set_option maxHeartbeats 8000000 in
set_option maxRecDepth 100000 in
theorem impl_parts_num.calls (k : Nat) (g : Nat) (s0_0 : List Int) (s0_1 : Int) (s0_2 : Bool) (a1 : Int) (r1 : Int) (r2 : Int) (r3 : Bool) (w0 w : World) (hI : IsS94 w0 w g s0_0 s0_1 s0_2) (hB : Below w0.heap.size w0 w) (h : impl_parts_num.f k s0_0 s0_1 s0_2 a1 = some (r1, r2, r3)) :
 Calls Try.prog 80 #[.pointer (some ⟨g, 0, none⟩), .int .i64 a1] w fun e w' => e = .returned (.int .i64 r1) ∧ IsS94 w0 w' g s0_0 r2 r3 ∧ Below w0.heap.size w0 w' ∧ KeepBut w w' g none := by
 have HI0 := am hI
 have HK := am (KeepBut.refl w g none)
 have HL := am hB.size
 clear hI
 have HW0 := am hB.size
 have HB := am hB
 clear hB
 have H : ((impl_parts_part.f k s0_0 s0_1 s0_2 a1).bind fun bt426 => ((impl_GetInt.f k bt426.1).bind fun bt431 => (if bt426.2.2 = true then (some (bt431.1, bt426.2.1, true)) else (some (bt431.1, bt426.2.1, !bt431.2))))) = some (r1, r2, r3) := h
 clear h
 replace H := Option.bind_eq_some_iff.mp H
 obtain ⟨⟨t426, t429, t430⟩, A30, H⟩ := H
 replace H : ((impl_GetInt.f k t426).bind fun bt431 => (if t430 = true then (some (bt431.1, t429, true)) else (some (bt431.1, t429, !bt431.2)))) = some (r1, r2, r3) := H
 have A3 := am A30
 clear A30
 replace H := Option.bind_eq_some_iff.mp H
 obtain ⟨⟨t431, t432⟩, A40, H⟩ := H
 replace H : (if t430 = true then (some (t431, t429, true)) else (some (t431, t429, !t432))) = some (r1, r2, r3) := H
 have A4 := am A40
 clear A40
 by_cases c5 : t430 = true
 · subst c5
   have H1 : (some (t431, t429, true)) = some (r1, r2, r3) := by rw [if_pos rfl] at H; exact H
   clear H
   have H := H1
   clear H1
   simp only [Option.some.injEq, Prod.mk.injEq] at H
   obtain ⟨rfl, rfl, rfl⟩ := H
   go_enter Try.func80, Try.ntmps80
   go_wp2_with (first | ((with_reducible refine gate_callee (f := 81) rfl ?_); refine goesL_ (some 10) rfl rfl Try.func81 (by kernel_rfl) rfl #[.pointer (some ⟨g, 0, none⟩), .int .i64 a1] rfl ga ?_; (with_reducible refine (impl_parts_part.calls k g s0_0 s0_1 s0_2 a1 t426 t429 true w0 _ ?side1 ?side2 A3.out).mono ?_); (case side1 => exact IsS94.q0 HI0.out); (case side2 => exact bq1 HB.out (IsS94.ge HI0.out)); rintro e w6 ⟨v427, rfl, ho0, hi, hb, hk⟩; refine ⟨_, rfl, ?_⟩; have n_ := ak4 (Kd.R_lower ho0 (keep_size (w := w) (g := g) (row := none) (kp0 HK.out))) (KeepBut.trans (kp0 HK.out) hk (.inl rfl)) hb hi; clear HK HB HI0; obtain ⟨HO428, HK, HB, HI0⟩ := n_; (try clear hb hk hi ho0); obtain ⟨Ao7, co7, eo7⟩ := Kd.R_slice HO428.out; subst eo7) | ((with_reducible refine gate_callee (f := 92) rfl ?_); refine goesL_ (some 11) rfl rfl Try.func92 (by kernel_rfl) rfl #[.slice Ao7 t426.length co7] rfl ga ?_; (with_reducible refine (impl_GetInt.calls k _ _ t426 t431 t432 _ ?side1 ?side2 A4.out).mono ?_); (case side1 => repeat (first | exact (Kd.R_reads' HO428.out).2.2 | (with_reducible refine Kd.C_alloc ?_ _) | (with_reducible refine Kd.C_drewN ?_ _) | (with_reducible refine Kd.C_drew ?_))); (case side2 => exact (Kd.R_reads' HO428.out).2.1); rintro e w8 ⟨rfl, hb⟩; refine ⟨_, rfl, ?_⟩; have n_ := ak4 (Kd.R_below (kqR HO428.out) hb) (IsS94.below (IsS94.q0 HI0.out) hb) (KeepBut.trans (kp0 HK.out) (KeepBut.of_below hb g none) (.inl rfl)) (below_step (bq1 HB.out (IsS94.ge HI0.out)) hb); clear HO428 HI0 HK HB; obtain ⟨HO428, HI0, HK, HB⟩ := n_; (try clear hb); obtain ⟨ASz9_0, cSz9_0, HGz9, hgz9, HSz9_0⟩ := HI0.out; have hcz9_0 := cellS94_0 HGz9; have hcz9_1 := cellS94_1 HGz9; have hcz9_2 := cellS94_2 HGz9; have hfz9_1 := blk_frozen HGz9 1; have hfz9_2 := blk_frozen HGz9 2; clear HGz9 hgz9))
   go_ret
   exact ⟨rq, IsS94.q0 HI0.out, bq1 HB.out (IsS94.ge HI0.out), kp0 HK.out⟩
 replace c5 := Bool.eq_false_iff.mpr c5
 subst c5
 have H1 : (some (t431, t429, !t432)) = some (r1, r2, r3) := by rw [if_neg (show ¬ (false = true) by decide)] at H; exact H
 clear H
 have H := H1
 clear H1
 simp only [Option.some.injEq, Prod.mk.injEq] at H
 obtain ⟨rfl, rfl, rfl⟩ := H
 go_enter Try.func80, Try.ntmps80
 go_wp2_with (first | ((with_reducible refine gate_callee (f := 81) rfl ?_); refine goesL_ (some 10) rfl rfl Try.func81 (by kernel_rfl) rfl #[.pointer (some ⟨g, 0, none⟩), .int .i64 a1] rfl ga ?_; (with_reducible refine (impl_parts_part.calls k g s0_0 s0_1 s0_2 a1 t426 t429 false w0 _ ?side1 ?side2 A3.out).mono ?_); (case side1 => exact IsS94.q0 HI0.out); (case side2 => exact bq1 HB.out (IsS94.ge HI0.out)); rintro e w10 ⟨v427, rfl, ho0, hi, hb, hk⟩; refine ⟨_, rfl, ?_⟩; have n_ := ak4 (Kd.R_lower ho0 (keep_size (w := w) (g := g) (row := none) (kp0 HK.out))) (KeepBut.trans (kp0 HK.out) hk (.inl rfl)) hb hi; clear HK HB HI0; obtain ⟨HO428, HK, HB, HI0⟩ := n_; (try clear hb hk hi ho0); obtain ⟨Ao11, co11, eo11⟩ := Kd.R_slice HO428.out; subst eo11) | ((with_reducible refine gate_callee (f := 92) rfl ?_); refine goesL_ (some 11) rfl rfl Try.func92 (by kernel_rfl) rfl #[.slice Ao11 t426.length co11] rfl ga ?_; (with_reducible refine (impl_GetInt.calls k _ _ t426 t431 t432 _ ?side1 ?side2 A4.out).mono ?_); (case side1 => repeat (first | exact (Kd.R_reads' HO428.out).2.2 | (with_reducible refine Kd.C_alloc ?_ _) | (with_reducible refine Kd.C_drewN ?_ _) | (with_reducible refine Kd.C_drew ?_))); (case side2 => exact (Kd.R_reads' HO428.out).2.1); rintro e w12 ⟨rfl, hb⟩; refine ⟨_, rfl, ?_⟩; have n_ := ak4 (Kd.R_below (kqR HO428.out) hb) (IsS94.below (IsS94.q0 HI0.out) hb) (KeepBut.trans (kp0 HK.out) (KeepBut.of_below hb g none) (.inl rfl)) (below_step (bq1 HB.out (IsS94.ge HI0.out)) hb); clear HO428 HI0 HK HB; obtain ⟨HO428, HI0, HK, HB⟩ := n_; (try clear hb); obtain ⟨ASz13_0, cSz13_0, HGz13, hgz13, HSz13_0⟩ := HI0.out; have hcz13_0 := cellS94_0 HGz13; have hcz13_1 := cellS94_1 HGz13; have hcz13_2 := cellS94_2 HGz13; have hfz13_1 := blk_frozen HGz13 1; have hfz13_2 := blk_frozen HGz13 2; clear HGz13 hgz13))
 go_ret
 exact ⟨rq, IsS94.q0 HI0.out, bq1 HB.out (IsS94.ge HI0.out), kp0 HK.out⟩

/-! ### impl_parts_done: function 82 -/
def impl_parts_done.f (s0_0 : List Int) (s0_1 : Int) (s0_2 : Bool) : Option (Bool × Int × Bool) := if s0_2 = true then (some (false, s0_1, s0_2)) else (some ((s0_1 == (s0_0.length : Int)), s0_1, s0_2))
set_option maxHeartbeats 8000000 in
set_option maxRecDepth 100000 in
theorem impl_parts_done.calls (g : Nat) (s0_0 : List Int) (s0_1 : Int) (s0_2 : Bool) (r1 : Bool) (r2 : Int) (r3 : Bool) (w0 w : World) (hI : IsS94 w0 w g s0_0 s0_1 s0_2) (hB : Below w0.heap.size w0 w) (h : impl_parts_done.f s0_0 s0_1 s0_2 = some (r1, r2, r3)) :
 Calls Try.prog 82 #[.pointer (some ⟨g, 0, none⟩)] w fun e w' => e = .returned (.bool r1) ∧ IsS94 w0 w' g s0_0 r2 r3 ∧ Below w0.heap.size w0 w' ∧ KeepBut w w' g none := by
 have HI0 := am hI
 have HK := am (KeepBut.refl w g none)
 have HL := am hB.size
 clear hI
 have HW0 := am hB.size
 have HB := am hB
 clear hB
 have H : (if s0_2 = true then (some (false, s0_1, s0_2)) else (some ((s0_1 == (s0_0.length : Int)), s0_1, s0_2))) = some (r1, r2, r3) := h
 clear h
 by_cases c2 : s0_2 = true
 · subst c2
   have H1 : (some (false, s0_1, true)) = some (r1, r2, r3) := by rw [if_pos rfl] at H; exact H
   clear H
   have H := H1
   clear H1
   simp only [Option.some.injEq, Prod.mk.injEq] at H
   obtain ⟨rfl, rfl, rfl⟩ := H
   obtain ⟨ASz3_0, cSz3_0, HGz3, hgz3, HSz3_0⟩ := HI0.out
   have hcz3_0 := cellS94_0 HGz3
   have hcz3_1 := cellS94_1 HGz3
   have hcz3_2 := cellS94_2 HGz3
   have hfz3_1 := blk_frozen HGz3 1
   have hfz3_2 := blk_frozen HGz3 2
   clear HGz3 hgz3
   go_enter Try.func82, Try.ntmps82
   go_wp2
   repeat (go_quiet (fail); try go_wp2)
   go_ret
   exact ⟨rq, IsS94.q0 HI0.out, bq1 HB.out (IsS94.ge HI0.out), kp0 HK.out⟩
 replace c2 := Bool.eq_false_iff.mpr c2
 subst c2
 have H1 : (some ((s0_1 == (s0_0.length : Int)), s0_1, false)) = some (r1, r2, r3) := by rw [if_neg (show ¬ (false = true) by decide)] at H; exact H
 clear H
 have H := H1
 clear H1
 simp only [Option.some.injEq, Prod.mk.injEq] at H
 obtain ⟨rfl, rfl, rfl⟩ := H
 obtain ⟨ASz4_0, cSz4_0, HGz4, hgz4, HSz4_0⟩ := HI0.out
 have hcz4_0 := cellS94_0 HGz4
 have hcz4_1 := cellS94_1 HGz4
 have hcz4_2 := cellS94_2 HGz4
 have hfz4_1 := blk_frozen HGz4 1
 have hfz4_2 := blk_frozen HGz4 2
 clear HGz4 hgz4
 go_enter Try.func82, Try.ntmps82
 go_wp2
 repeat (go_quiet (fail); try go_wp2)
 go_ret
 exact ⟨rq, IsS94.q0 HI0.out, bq1 HB.out (IsS94.ge HI0.out), kp0 HK.out⟩

/-! ### impl_GetFrame: function 27 -/
mutual
def impl_GetFrame.j0 : Nat → List Int → Bool → List Int → Int → Bool → Int → Int → Int → Option (Int × Int × Int × List Int × Bool)
 | 0, _, _, _, _, _, _, _, _ => none
 | k + 1, x0, x39, x435000, x435001, x435002, x436000, x436001, x436002 => if x39 = true then ((impl_parts_num.f k x435000 x435001 x435002 2).bind fun bt443 => (impl_GetFrame.j1 k x0 x435000 bt443.2.1 bt443.2.2 x436000 x436001 bt443.1)) else (impl_GetFrame.j1 k x0 x435000 x435001 x435002 x436000 x436001 x436002)
def impl_GetFrame.j1 : Nat → List Int → List Int → Int → Bool → Int → Int → Int → Option (Int × Int × Int × List Int × Bool)
 | 0, _, _, _, _, _, _, _ => none
 | k + 1, x0, x435000, x435001, x435002, x436000, x436001, x436002 => (impl_parts_part.f k x435000 x435001 x435002 3).bind fun bt446 => ((impl_PutFrame.f k x436000 x436001 x436002 bt446.1).bind fun t451 => ((impl_parts_done.f x435000 bt446.2.1 bt446.2.2).bind fun bt454 => (if bt454.1 = true then (if (t451.length : Int) = 0 then (some (0, 0, 0, ([] : List Int), false)) else (if (strOfNums t451).toList = (strOfNums x0).toList then (some (x436000, x436001, x436002, bt446.1, true)) else (some (0, 0, 0, ([] : List Int), false)))) else (some (0, 0, 0, ([] : List Int), false)))))
end
def impl_GetFrame.f (k : Nat) (l0 : List Int) : Option (Int × Int × Int × List Int × Bool) := (impl_parts_num.f k l0 0 false 1).bind fun bt436 => ((impl_parts_num.f k l0 bt436.2.1 bt436.2.2 1).bind fun bt439 => (if bt439.2.2 = true then (impl_GetFrame.j0 k l0 false l0 bt439.2.1 bt439.2.2 bt436.1 bt439.1 0) else (if bt439.2.1 < (l0.length : Int) then (if 0 ≤ bt439.2.1 then (impl_GetFrame.j0 k l0 ((rd l0 bt439.2.1) == 2) l0 bt439.2.1 bt439.2.2 bt436.1 bt439.1 0) else (none)) else (impl_GetFrame.j0 k l0 false l0 bt439.2.1 bt439.2.2 bt436.1 bt439.1 0))))
theorem impl_GetFrame.mono_l : ∀ k, (∀ y0 y1 y2 y3 y4 y5 y6 y7, LeO (impl_GetFrame.j0 k y0 y1 y2 y3 y4 y5 y6 y7) (impl_GetFrame.j0 (k + 1) y0 y1 y2 y3 y4 y5 y6 y7)) ∧ (∀ y0 y1 y2 y3 y4 y5 y6, LeO (impl_GetFrame.j1 k y0 y1 y2 y3 y4 y5 y6) (impl_GetFrame.j1 (k + 1) y0 y1 y2 y3 y4 y5 y6))
 | 0 => ⟨fun _ _ _ _ _ _ _ _ r h => by simp [impl_GetFrame.j0] at h, fun _ _ _ _ _ _ _ r h => by simp [impl_GetFrame.j1] at h⟩
 | k + 1 => by
  obtain ⟨ih0, ih1⟩ := impl_GetFrame.mono_l k
  refine ⟨?_, ?_⟩
  · intro y0 y1 y2 y3 y4 y5 y6 y7
    unfold impl_GetFrame.j0
    repeat' first
    | (with_reducible exact ih0 _ _ _ _ _ _ _ _)
    | (with_reducible exact ih1 _ _ _ _ _ _ _)
    | (with_reducible exact impl_PutFrame.mono _ _ _ _ _)
    | (with_reducible exact impl_parts_num.mono _ _ _ _ _)
    | (with_reducible exact impl_parts_part.mono _ _ _ _ _)
    | (with_reducible exact LeO.refl _)
    | (with_reducible exact LeO.none _)
    | (with_reducible refine LeO.ite ?_ ?_)
    | (with_reducible refine LeO.bind ?_ (fun _ => ?_))
    | exact ih0 _ _ _ _ _ _ _ _
    | exact ih1 _ _ _ _ _ _ _
    | exact impl_PutFrame.mono _ _ _ _ _
    | exact impl_parts_num.mono _ _ _ _ _
    | exact impl_parts_part.mono _ _ _ _ _
    | exact LeO.none _
    | refine LeO.ite ?_ ?_
    | refine LeO.bind ?_ (fun _ => ?_)
  intro y0 y1 y2 y3 y4 y5 y6
  unfold impl_GetFrame.j1
  repeat' first
  | (with_reducible exact ih0 _ _ _ _ _ _ _ _)
  | (with_reducible exact ih1 _ _ _ _ _ _ _)
  | (with_reducible exact impl_PutFrame.mono _ _ _ _ _)
  | (with_reducible exact impl_parts_num.mono _ _ _ _ _)
  | (with_reducible exact impl_parts_part.mono _ _ _ _ _)
  | (with_reducible exact LeO.refl _)
  | (with_reducible exact LeO.none _)
  | (with_reducible refine LeO.ite ?_ ?_)
  | (with_reducible refine LeO.bind ?_ (fun _ => ?_))
  | exact ih0 _ _ _ _ _ _ _ _
  | exact ih1 _ _ _ _ _ _ _
  | exact impl_PutFrame.mono _ _ _ _ _
  | exact impl_parts_num.mono _ _ _ _ _
  | exact impl_parts_part.mono _ _ _ _ _
  | exact LeO.none _
  | refine LeO.ite ?_ ?_
  | refine LeO.bind ?_ (fun _ => ?_)
theorem impl_GetFrame.mono : ∀ a0 k, LeO (impl_GetFrame.f k a0) (impl_GetFrame.f (k + 1) a0) := by
 intro a0 k
 obtain ⟨ih0, ih1⟩ := impl_GetFrame.mono_l k
 unfold impl_GetFrame.f
 repeat' first
  | (with_reducible exact ih0 _ _ _ _ _ _ _ _)
  | (with_reducible exact ih1 _ _ _ _ _ _ _)
  | (with_reducible exact impl_PutFrame.mono _ _ _ _ _)
  | (with_reducible exact impl_parts_num.mono _ _ _ _ _)
  | (with_reducible exact impl_parts_part.mono _ _ _ _ _)
  | (with_reducible exact LeO.refl _)
  | (with_reducible exact LeO.none _)
  | (with_reducible refine LeO.ite ?_ ?_)
  | (with_reducible refine LeO.bind ?_ (fun _ => ?_))
  | exact ih0 _ _ _ _ _ _ _ _
  | exact ih1 _ _ _ _ _ _ _
  | exact impl_PutFrame.mono _ _ _ _ _
  | exact impl_parts_num.mono _ _ _ _ _
  | exact impl_parts_part.mono _ _ _ _ _
  | exact LeO.none _
  | refine LeO.ite ?_ ?_
  | refine LeO.bind ?_ (fun _ => ?_)
set_option maxHeartbeats 8000000 in
set_option maxRecDepth 100000 in
theorem impl_GetFrame.calls (k : Nat) (A0 : Option Addr) (c0 : Nat) (l0 : List Int) (r1 : Int) (r2 : Int) (r3 : Int) (r4 : List Int) (r5 : Bool) (w : World) (hr0 : Kd.C (Kd.int .u8) w A0 l0.length l0) (hc0 : l0.length ≤ c0) (h : impl_GetFrame.f k l0 = some (r1, r2, r3, r4, r5)) :
 Calls Try.prog 27 #[.slice A0 l0.length c0] w fun e w' => ∃ v3_ : Value, e = .returned (.tuple #[.agg #[.int .i64 r1, .int .i64 r2, .int .i64 r3, v3_], .bool r5]) ∧ Kd.R (Kd.int .u8) 5 w' w.heap.size (fun _ => True) v3_ r4 ∧ Below w.heap.size w w' := by
 have hu38 := Try.underlying38
 have hu94 := Try.underlying94
 have HR0 := am hr0
 have HC0 := am hc0
 clear hr0 hc0
 have HB := am (Below.refl w.heap.size w)
 have H : ((impl_parts_num.f k l0 0 false 1).bind fun bt436 => ((impl_parts_num.f k l0 bt436.2.1 bt436.2.2 1).bind fun bt439 => (if bt439.2.2 = true then (impl_GetFrame.j0 k l0 false l0 bt439.2.1 bt439.2.2 bt436.1 bt439.1 0) else (if bt439.2.1 < (l0.length : Int) then (if 0 ≤ bt439.2.1 then (impl_GetFrame.j0 k l0 ((rd l0 bt439.2.1) == 2) l0 bt439.2.1 bt439.2.2 bt436.1 bt439.1 0) else (none)) else (impl_GetFrame.j0 k l0 false l0 bt439.2.1 bt439.2.2 bt436.1 bt439.1 0))))) = some (r1, r2, r3, r4, r5) := h
 clear h
 replace H := Option.bind_eq_some_iff.mp H
 obtain ⟨⟨t436, t437, t438⟩, A20, H⟩ := H
 replace H : ((impl_parts_num.f k l0 t437 t438 1).bind fun bt439 => (if bt439.2.2 = true then (impl_GetFrame.j0 k l0 false l0 bt439.2.1 bt439.2.2 t436 bt439.1 0) else (if bt439.2.1 < (l0.length : Int) then (if 0 ≤ bt439.2.1 then (impl_GetFrame.j0 k l0 ((rd l0 bt439.2.1) == 2) l0 bt439.2.1 bt439.2.2 t436 bt439.1 0) else (none)) else (impl_GetFrame.j0 k l0 false l0 bt439.2.1 bt439.2.2 t436 bt439.1 0)))) = some (r1, r2, r3, r4, r5) := H
 have A2 := am A20
 clear A20
 replace H := Option.bind_eq_some_iff.mp H
 obtain ⟨⟨t439, t440, t441⟩, A30, H⟩ := H
 replace H : (if t441 = true then (impl_GetFrame.j0 k l0 false l0 t440 t441 t436 t439 0) else (if t440 < (l0.length : Int) then (if 0 ≤ t440 then (impl_GetFrame.j0 k l0 ((rd l0 t440) == 2) l0 t440 t441 t436 t439 0) else (none)) else (impl_GetFrame.j0 k l0 false l0 t440 t441 t436 t439 0))) = some (r1, r2, r3, r4, r5) := H
 have A3 := am A30
 clear A30
 have HC4 := am H
 clear H
 go_enter Try.func27, Try.ntmps27
 go_upto_region 5 with (first | ((with_reducible refine gate_dst (N := 2) rfl ?_); (try (refine gate_guard (by rfl) ?_; dsimp only)); refine box_event ?hg (N := 2) ?hd (cs := #[.int .i64 0, .int .i64 0, .int .i64 0, .slice none 0 0]) (t := 38) ?hr ?_; (case hd => rfl); (case hg => rfl); (case hr => exact gs); intro gb433 hg w5 hbox hb; have n_ := ak4 (below_step (bq HB.out) hb) hbox ((by rw [hg]; exact (below_size (bq HB.out)) : w.heap.size ≤ gb433)) ((by rw [hg]; exact (below_size (bq HB.out)) : w.heap.size ≤ gb433)); clear HB; obtain ⟨HB, BK433, GW433, GE433⟩ := n_; clear hb hbox hg) | ((with_reducible refine gate_dst (N := 9) rfl ?_); (try (refine gate_guard (by rfl) ?_; dsimp only)); refine box_event ?hg (N := 9) ?hd (cs := #[.slice A0 l0.length c0, .int .i64 0, .bool false]) (t := 94) ?hr ?_; (case hd => rfl); (case hg => rfl); (case hr => exact gs); intro gb434 hg w6 hbox hb; have n_ := ak7 (blk_below (g := gb433) (o := .cells #[.int .i64 0, .int .i64 0, .int .i64 0, .slice none 0 0] 38 (0, 0)) (zq BK433.out) hb) (below_step (bq1 HB.out GE433.out) hb) hbox ((by rw [hg]; exact (below_size (bq1 HB.out GE433.out)) : w.heap.size ≤ gb434)) ((by rw [hg]; exact (below_size (bq1 HB.out GE433.out)) : w.heap.size ≤ gb434)) ((by rw [hg]; exact Nat.ne_of_lt (blk_lt (g := gb433) (o := .cells #[.int .i64 0, .int .i64 0, .int .i64 0, .slice none 0 0] 38 (0, 0)) (zq BK433.out)) : gb433 ≠ gb434)) ((by rw [hg]; exact Nat.ne_of_gt (blk_lt (g := gb433) (o := .cells #[.int .i64 0, .int .i64 0, .int .i64 0, .slice none 0 0] 38 (0, 0)) (zq BK433.out)) : gb434 ≠ gb433)); clear BK433 HB; obtain ⟨BK433, HB, BK434, GW434, GE434, NB433_434, NB434_433⟩ := n_; clear hb hbox hg) | ((with_reducible refine gate_dst (N := 5) rfl ?_); (try (refine gate_guard (by rfl) ?_; dsimp only)); refine box_event ?hg (N := 5) ?hd (cs := #[.int .i64 0, .int .i64 0, .int .i64 0, .slice none 0 0]) (t := 38) ?hr ?_; (case hd => rfl); (case hg => rfl); (case hr => exact gs); intro gb435 hg w7 hbox hb; have n_ := ak10 (blk_below (g := gb433) (o := .cells #[.int .i64 0, .int .i64 0, .int .i64 0, .slice none 0 0] 38 (0, 0)) (zq BK433.out) hb) (blk_below (g := gb434) (o := .cells #[.slice A0 l0.length c0, .int .i64 0, .bool false] 94 (0, 0)) (zq BK434.out) hb) (below_step (bq2 HB.out GE433.out GE434.out) hb) hbox ((by rw [hg]; exact (below_size (bq2 HB.out GE433.out GE434.out)) : w.heap.size ≤ gb435)) ((by rw [hg]; exact (below_size (bq2 HB.out GE433.out GE434.out)) : w.heap.size ≤ gb435)) ((by rw [hg]; exact Nat.ne_of_lt (blk_lt (g := gb433) (o := .cells #[.int .i64 0, .int .i64 0, .int .i64 0, .slice none 0 0] 38 (0, 0)) (zq BK433.out)) : gb433 ≠ gb435)) ((by rw [hg]; exact Nat.ne_of_gt (blk_lt (g := gb433) (o := .cells #[.int .i64 0, .int .i64 0, .int .i64 0, .slice none 0 0] 38 (0, 0)) (zq BK433.out)) : gb435 ≠ gb433)) ((by rw [hg]; exact Nat.ne_of_lt (blk_lt (g := gb434) (o := .cells #[.slice A0 l0.length c0, .int .i64 0, .bool false] 94 (0, 0)) (zq BK434.out)) : gb434 ≠ gb435)) ((by rw [hg]; exact Nat.ne_of_gt (blk_lt (g := gb434) (o := .cells #[.slice A0 l0.length c0, .int .i64 0, .bool false] 94 (0, 0)) (zq BK434.out)) : gb435 ≠ gb434)); clear BK433 BK434 HB; obtain ⟨BK433, BK434, HB, BK435, GW435, GE435, NB433_435, NB435_433, NB434_435, NB435_434⟩ := n_; clear hb hbox hg; have HI434 := am (show IsS94 w w7 gb434 l0 0 false from ⟨_, _, BK434.out, GE434.out, ⟨HR0.out, HC0.out⟩⟩); clear BK434) | ((with_reducible refine gate_callee (f := 80) rfl ?_); refine goesL_ (some 11) rfl rfl Try.func80 (by kernel_rfl) rfl #[.pointer (some ⟨gb434, 0, none⟩), .int .i64 1] rfl ga ?_; (with_reducible refine (impl_parts_num.calls k gb434 l0 0 false 1 t436 t437 t438 w _ ?side1 ?side2 A2.out).mono ?_); (case side1 => exact IsS94.q2 HI434.out NB434_433.out NB434_435.out); (case side2 => exact bq3 HB.out (IsS94.ge HI434.out) GE433.out GE435.out); rintro e w8 ⟨rfl, hi, hb, hk⟩; refine ⟨_, rfl, ?_⟩; have n_ := ak4 (KeepBut.blk hk (g' := gb433) (o := .cells #[.int .i64 0, .int .i64 0, .int .i64 0, .slice none 0 0] 38 (0, 0)) (zq BK433.out) NB433_434.out (by simp)) (KeepBut.blk hk (g' := gb435) (o := .cells #[.int .i64 0, .int .i64 0, .int .i64 0, .slice none 0 0] 38 (0, 0)) (zq BK435.out) NB435_434.out (by simp)) hb hi; clear BK433 BK435 HB HI434; obtain ⟨BK433, BK435, HB, HI434⟩ := n_; (try clear hb hk hi); have hnb9 := NB435_433.out; have hnc9 := NB433_435.out; have hnb10 := NB435_434.out; have hnc10 := NB434_435.out; have hcz11_0 : w8.cell? ⟨gb435, 0, none⟩ = some (.int .i64 0) := (blk_cell BK435.out 0).trans rfl; have hcz11_1 : w8.cell? ⟨gb435, 1, none⟩ = some (.int .i64 0) := (blk_cell BK435.out 1).trans rfl; have hcz11_2 : w8.cell? ⟨gb435, 2, none⟩ = some (.int .i64 0) := (blk_cell BK435.out 2).trans rfl; have hcz11_3 : w8.cell? ⟨gb435, 3, none⟩ = some (.slice none 0 0) := (blk_cell BK435.out 3).trans rfl; have hfz11_0 := blk_frozen BK435.out 0; have hfz11_1 := blk_frozen BK435.out 1; have hfz11_2 := blk_frozen BK435.out 2; have hfz11_3 := blk_frozen BK435.out 3) | ((with_reducible refine gate_callee (f := 80) rfl ?_); refine goesL_ (some 14) rfl rfl Try.func80 (by kernel_rfl) rfl #[.pointer (some ⟨gb434, 0, none⟩), .int .i64 1] rfl ga ?_; (with_reducible refine (impl_parts_num.calls k gb434 l0 t437 t438 1 t439 t440 t441 w _ ?side1 ?side2 A3.out).mono ?_); (case side1 => exact IsS94.q2 HI434.out NB434_433.out NB434_435.out); (case side2 => exact bq3 HB.out (IsS94.ge HI434.out) GE433.out GE435.out); rintro e w12 ⟨rfl, hi, hb, hk⟩; refine ⟨_, rfl, ?_⟩; have n_ := ak4 (KeepBut.blk hk (g' := gb433) (o := .cells #[.int .i64 0, .int .i64 0, .int .i64 0, .slice none 0 0] 38 (0, 0)) (by (with_reducible repeat (first | refine blk_drewN ?_ _ | refine blk_drew ?_ | refine blk_alloc ?_ _)); refine blk_far ?_ NB433_435.out _; (with_reducible repeat (first | refine blk_drewN ?_ _ | refine blk_drew ?_ | refine blk_alloc ?_ _)); exact BK433.out) NB433_434.out (by simp)) (KeepBut.blk hk (g' := gb435) (o := .cells #[.int .i64 t436, .int .i64 0, .int .i64 0, .slice none 0 0] 38 (0, 0)) (by (with_reducible repeat (first | refine blk_drewN ?_ _ | refine blk_drew ?_ | refine blk_alloc ?_ _)); refine blk_put (cs := #[.int .i64 0, .int .i64 0, .int .i64 0, .slice none 0 0]) ?_ 0 _ rfl; (with_reducible repeat (first | refine blk_drewN ?_ _ | refine blk_drew ?_ | refine blk_alloc ?_ _)); exact BK435.out) NB435_434.out (by simp)) hb hi; clear BK433 BK435 HB HI434; obtain ⟨BK433, BK435, HB, HI434⟩ := n_; (try clear hb hk hi); have hcz13_0 : w12.cell? ⟨gb435, 0, none⟩ = some (.int .i64 t436) := (blk_cell BK435.out 0).trans rfl; have hcz13_1 : w12.cell? ⟨gb435, 1, none⟩ = some (.int .i64 0) := (blk_cell BK435.out 1).trans rfl; have hcz13_2 : w12.cell? ⟨gb435, 2, none⟩ = some (.int .i64 0) := (blk_cell BK435.out 2).trans rfl; have hcz13_3 : w12.cell? ⟨gb435, 3, none⟩ = some (.slice none 0 0) := (blk_cell BK435.out 3).trans rfl; have hfz13_0 := blk_frozen BK435.out 0; have hfz13_1 := blk_frozen BK435.out 1; have hfz13_2 := blk_frozen BK435.out 2; have hfz13_3 := blk_frozen BK435.out 3))
 (try simp only [Act.put, List.setIfInBounds_toArray, List.set_cons_zero, List.set_cons_succ])
 go_cut [39] (fun v39 wc => ∃ (kq : Nat) (x39_3 : Bool), v39 = .bool x39_3 ∧ Aside0 (impl_GetFrame.j0 kq l0 x39_3 l0 t440 t441 t436 t439 0 = some (r1, r2, r3, r4, r5)) ∧ Aside0 (kq ≤ k) ∧ Aside0 (wc.heap[gb433]? = some (.cells #[.int .i64 0, .int .i64 0, .int .i64 0, (.slice none 0 0)] 38 (0, 0))) ∧ Aside0 (wc.heap[gb435]? = some (.cells #[.int .i64 t436, .int .i64 t439, .int .i64 0, (.slice none 0 0)] 38 (0, 0))) ∧ Aside0 (IsS94 w wc gb434 l0 t440 t441) ∧ Aside0 (Below w.heap.size w wc))
 case first =>
  have H := HC4.out
  clear HC4
  by_cases c14 : t441 = true
  · subst c14
    have H1 : (impl_GetFrame.j0 k l0 false l0 t440 true t436 t439 0) = some (r1, r2, r3, r4, r5) := by rw [if_pos rfl] at H; exact H
    clear H
    have H := H1
    clear H1
    have H' := am H
    clear H
    obtain ⟨ASz15_0, cSz15_0, HGz15, hgz15, HSz15_0⟩ := HI434.out
    have hcz15_0 := cellS94_0 HGz15
    have hcz15_1 := cellS94_1 HGz15
    have hcz15_2 := cellS94_2 HGz15
    have hfz15_1 := blk_frozen HGz15 1
    have hfz15_2 := blk_frozen HGz15 2
    clear HGz15 hgz15
    go_wp2
    go_meet
    case rel => exact ⟨_, (false), sq, H', ⟨by first | omega | exact Nat.le_refl _⟩, ⟨by (with_reducible repeat (first | refine blk_drewN ?_ _ | refine blk_drew ?_ | refine blk_alloc ?_ _)); refine blk_far ?_ NB433_435.out _; (with_reducible repeat (first | refine blk_drewN ?_ _ | refine blk_drew ?_ | refine blk_alloc ?_ _)); exact BK433.out⟩, ⟨by (with_reducible repeat (first | refine blk_drewN ?_ _ | refine blk_drew ?_ | refine blk_alloc ?_ _)); refine blk_put (cs := #[.int .i64 t436, .int .i64 0, .int .i64 0, .slice none 0 0]) ?_ 1 _ rfl; (with_reducible repeat (first | refine blk_drewN ?_ _ | refine blk_drew ?_ | refine blk_alloc ?_ _)); exact BK435.out⟩, ⟨IsS94.q2 HI434.out NB434_433.out NB434_435.out⟩, ⟨bq3 HB.out (IsS94.ge HI434.out) GE433.out GE435.out⟩⟩
  replace c14 := Bool.eq_false_iff.mpr c14
  subst c14
  have H1 : (if t440 < (l0.length : Int) then (if 0 ≤ t440 then (impl_GetFrame.j0 k l0 ((rd l0 t440) == 2) l0 t440 false t436 t439 0) else (none)) else (impl_GetFrame.j0 k l0 false l0 t440 false t436 t439 0)) = some (r1, r2, r3, r4, r5) := by rw [if_neg (show ¬ (false = true) by decide)] at H; exact H
  clear H
  have H := H1
  clear H1
  by_cases c16 : t440 < (l0.length : Int)
  · rw [if_pos c16] at H
    have c16b0 : decide (t440 < (l0.length : Int)) = true := decide_eq_true c16
    clear c16
    (first | rw [c16b0] | (simp only [i64_w, i32_w]; rw [c16b0]) | skip)
    by_cases c17 : 0 ≤ t440
    · rw [if_pos c17] at H
      have c17b0 : decide (0 ≤ t440) = true := decide_eq_true c17
      clear c17
      have H' := am H
      clear H
      obtain ⟨ASz18_0, cSz18_0, HGz18, hgz18, HSz18_0⟩ := HI434.out
      have hcz18_0 := cellS94_0 HGz18
      have hcz18_1 := cellS94_1 HGz18
      have hcz18_2 := cellS94_2 HGz18
      have hfz18_1 := blk_frozen HGz18 1
      have hfz18_2 := blk_frozen HGz18 2
      clear HGz18 hgz18
      have p442 : 0 ≤ (t440 : Int) := oda
      have q442 : t440 < (l0.length : Int) := oda
      obtain ⟨ad442, e442, hx442_0⟩ := Kd.at_int HR0.out t440 p442 q442
      cases e442
      have hn442_0 : ad442.block ≠ gb435 := Nat.ne_of_lt (Nat.lt_of_lt_of_le (by have := World.block_lt_of_cell? _ _ hx442_0; first | rwa [add_block] at this | exact this) GW435.out)
      replace hx442_0 := (HB.out.cell (World.block_lt_of_cell? w _ hx442_0)).trans hx442_0
      replace hx442_0 := (cell_far (p := ⟨gb435, 1, none⟩) (by first | (rw [add_block]; exact hn442_0) | (show (Addr.add _ _).block ≠ _; rw [add_block]; exact hn442_0) | exact hn442_0) (.int .i64 t439)).trans hx442_0
      clear hn442_0
      replace p442 := eq_true p442
      replace q442 := eq_true q442
      go_wp2
      go_meet
      case rel => exact ⟨_, (((rd l0 t440) == 2)), sq, H', ⟨by first | omega | exact Nat.le_refl _⟩, ⟨by (with_reducible repeat (first | refine blk_drewN ?_ _ | refine blk_drew ?_ | refine blk_alloc ?_ _)); refine blk_far ?_ NB433_435.out _; (with_reducible repeat (first | refine blk_drewN ?_ _ | refine blk_drew ?_ | refine blk_alloc ?_ _)); exact BK433.out⟩, ⟨by (with_reducible repeat (first | refine blk_drewN ?_ _ | refine blk_drew ?_ | refine blk_alloc ?_ _)); refine blk_put (cs := #[.int .i64 t436, .int .i64 0, .int .i64 0, .slice none 0 0]) ?_ 1 _ rfl; (with_reducible repeat (first | refine blk_drewN ?_ _ | refine blk_drew ?_ | refine blk_alloc ?_ _)); exact BK435.out⟩, ⟨IsS94.q2 HI434.out NB434_433.out NB434_435.out⟩, ⟨bq3 HB.out (IsS94.ge HI434.out) GE433.out GE435.out⟩⟩
    rw [if_neg c17] at H
    exact absurd H (by simp)
  rw [if_neg c16] at H
  have c16b0 : decide (t440 < (l0.length : Int)) = false := decide_eq_false c16
  clear c16
  (first | rw [c16b0] | (simp only [i64_w, i32_w]; rw [c16b0]) | skip)
  have H' := am H
  clear H
  obtain ⟨ASz19_0, cSz19_0, HGz19, hgz19, HSz19_0⟩ := HI434.out
  have hcz19_0 := cellS94_0 HGz19
  have hcz19_1 := cellS94_1 HGz19
  have hcz19_2 := cellS94_2 HGz19
  have hfz19_1 := blk_frozen HGz19 1
  have hfz19_2 := blk_frozen HGz19 2
  clear HGz19 hgz19
  go_wp2
  go_meet
  case rel => exact ⟨_, (false), sq, H', ⟨by first | omega | exact Nat.le_refl _⟩, ⟨by (with_reducible repeat (first | refine blk_drewN ?_ _ | refine blk_drew ?_ | refine blk_alloc ?_ _)); refine blk_far ?_ NB433_435.out _; (with_reducible repeat (first | refine blk_drewN ?_ _ | refine blk_drew ?_ | refine blk_alloc ?_ _)); exact BK433.out⟩, ⟨by (with_reducible repeat (first | refine blk_drewN ?_ _ | refine blk_drew ?_ | refine blk_alloc ?_ _)); refine blk_put (cs := #[.int .i64 t436, .int .i64 0, .int .i64 0, .slice none 0 0]) ?_ 1 _ rfl; (with_reducible repeat (first | refine blk_drewN ?_ _ | refine blk_drew ?_ | refine blk_alloc ?_ _)); exact BK435.out⟩, ⟨IsS94.q2 HI434.out NB434_433.out NB434_435.out⟩, ⟨bq3 HB.out (IsS94.ge HI434.out) GE433.out GE435.out⟩⟩
 case rest =>
  clear HC4
  try clear c1
  try clear c2
  try clear p2
  try clear p4
  try clear q4
  try clear hx4
  try clear c8
  try clear c9
  try clear c10
  try clear c14
  try clear c16
  try clear c16b0
  try clear c17
  try clear c17b0
  try clear hcz11_0
  try clear hcz11_1
  try clear hcz11_2
  try clear hcz11_3
  try clear hcz13_0
  try clear hcz13_1
  try clear hcz13_2
  try clear hcz13_3
  try clear hcz15_0
  try clear hcz15_1
  try clear hcz15_2
  try clear hcz18_0
  try clear hcz18_1
  try clear hcz18_2
  try clear hcz19_0
  try clear hcz19_1
  try clear hcz19_2
  try clear hfz11_0
  try clear hfz11_1
  try clear hfz11_2
  try clear hfz11_3
  try clear hfz13_0
  try clear hfz13_1
  try clear hfz13_2
  try clear hfz13_3
  try clear hfz15_1
  try clear hfz15_2
  try clear hfz18_1
  try clear hfz18_2
  try clear hfz19_1
  try clear hfz19_2
  try clear hx442_0
  try clear p442
  try clear q442
  obtain ⟨kq, x39_3, rfl, HA, HJ3, BK433, BK435, HI434, HB⟩ := hcut
  cases kq with
  | zero => exact absurd HA.out (by simp [impl_GetFrame.j0])
  | succ kj3 =>
   have H := HA.out
   clear HA
   simp only [impl_GetFrame.j0] at H
   have HC20 := am H
   clear H
   go_upto_if 39 with (fail)
   go_cut [] (fun wc => ∃ (kq : Nat) (x435001_19 : Int) (x435002_19 : Bool) (x436002_19 : Int), Aside0 (impl_GetFrame.j1 kq l0 l0 x435001_19 x435002_19 t436 t439 x436002_19 = some (r1, r2, r3, r4, r5)) ∧ Aside0 (kq ≤ kj3) ∧ Aside0 (wc.heap[gb433]? = some (.cells #[.int .i64 0, .int .i64 0, .int .i64 0, (.slice none 0 0)] 38 (0, 0))) ∧ Aside0 (wc.heap[gb435]? = some (.cells #[.int .i64 t436, .int .i64 t439, .int .i64 x436002_19, (.slice none 0 0)] 38 (0, 0))) ∧ Aside0 (IsS94 w wc gb434 l0 x435001_19 x435002_19) ∧ Aside0 (Below w.heap.size w wc))
   case first =>
    have H := HC20.out
    clear HC20
    by_cases c21 : x39_3 = true
    · subst c21
      have H1 : ((impl_parts_num.f kj3 l0 t440 t441 2).bind fun bt443 => (impl_GetFrame.j1 kj3 l0 l0 bt443.2.1 bt443.2.2 t436 t439 bt443.1)) = some (r1, r2, r3, r4, r5) := by rw [if_pos rfl] at H; exact H
      clear H
      have H := H1
      clear H1
      replace H := Option.bind_eq_some_iff.mp H
      obtain ⟨⟨t443, t444, t445⟩, A220, H⟩ := H
      replace H : (impl_GetFrame.j1 kj3 l0 l0 t444 t445 t436 t439 t443) = some (r1, r2, r3, r4, r5) := H
      have A22 := am A220
      clear A220
      have H' := am H
      clear H
      go_wp2_with (first | ((with_reducible refine gate_callee (f := 80) rfl ?_); refine goesL_ (some 41) rfl rfl Try.func80 (by kernel_rfl) rfl #[.pointer (some ⟨gb434, 0, none⟩), .int .i64 2] rfl ga ?_; (with_reducible refine (impl_parts_num.calls kj3 gb434 l0 t440 t441 2 t443 t444 t445 w _ ?side1 ?side2 A22.out).mono ?_); (case side1 => exact IsS94.q2 HI434.out NB434_433.out NB434_435.out); (case side2 => exact bq3 HB.out (IsS94.ge HI434.out) GE433.out GE435.out); rintro e w23 ⟨rfl, hi, hb, hk⟩; refine ⟨_, rfl, ?_⟩; have n_ := ak4 (KeepBut.blk hk (g' := gb433) (o := .cells #[.int .i64 0, .int .i64 0, .int .i64 0, .slice none 0 0] 38 (0, 0)) (zq BK433.out) NB433_434.out (by simp)) (KeepBut.blk hk (g' := gb435) (o := .cells #[.int .i64 t436, .int .i64 t439, .int .i64 0, .slice none 0 0] 38 (0, 0)) (zq BK435.out) NB435_434.out (by simp)) hb hi; clear BK433 BK435 HB HI434; obtain ⟨BK433, BK435, HB, HI434⟩ := n_; (try clear hb hk hi); have hnb24 := NB435_433.out; have hnc24 := NB433_435.out; have hnb25 := NB435_434.out; have hnc25 := NB434_435.out; have hcz26_0 : w23.cell? ⟨gb435, 0, none⟩ = some (.int .i64 t436) := (blk_cell BK435.out 0).trans rfl; have hcz26_1 : w23.cell? ⟨gb435, 1, none⟩ = some (.int .i64 t439) := (blk_cell BK435.out 1).trans rfl; have hcz26_2 : w23.cell? ⟨gb435, 2, none⟩ = some (.int .i64 0) := (blk_cell BK435.out 2).trans rfl; have hcz26_3 : w23.cell? ⟨gb435, 3, none⟩ = some (.slice none 0 0) := (blk_cell BK435.out 3).trans rfl; have hfz26_0 := blk_frozen BK435.out 0; have hfz26_1 := blk_frozen BK435.out 1; have hfz26_2 := blk_frozen BK435.out 2; have hfz26_3 := blk_frozen BK435.out 3))
      go_meet
      case rel => exact ⟨_, (t444), (t445), (t443), H', ⟨by have := HJ3.out; first | omega | exact Nat.le_refl _⟩, ⟨by (with_reducible repeat (first | refine blk_drewN ?_ _ | refine blk_drew ?_ | refine blk_alloc ?_ _)); refine blk_far ?_ NB433_435.out _; (with_reducible repeat (first | refine blk_drewN ?_ _ | refine blk_drew ?_ | refine blk_alloc ?_ _)); exact BK433.out⟩, ⟨by (with_reducible repeat (first | refine blk_drewN ?_ _ | refine blk_drew ?_ | refine blk_alloc ?_ _)); refine blk_put (cs := #[.int .i64 t436, .int .i64 t439, .int .i64 0, .slice none 0 0]) ?_ 2 _ rfl; (with_reducible repeat (first | refine blk_drewN ?_ _ | refine blk_drew ?_ | refine blk_alloc ?_ _)); exact BK435.out⟩, ⟨IsS94.q2 HI434.out NB434_433.out NB434_435.out⟩, ⟨bq3 HB.out (IsS94.ge HI434.out) GE433.out GE435.out⟩⟩
    replace c21 := Bool.eq_false_iff.mpr c21
    subst c21
    have H1 : (impl_GetFrame.j1 kj3 l0 l0 t440 t441 t436 t439 0) = some (r1, r2, r3, r4, r5) := by rw [if_neg (show ¬ (false = true) by decide)] at H; exact H
    clear H
    have H := H1
    clear H1
    have H' := am H
    clear H
    go_wp2
    go_meet
    case rel => exact ⟨_, (t440), (t441), (0), H', ⟨by have := HJ3.out; first | omega | exact Nat.le_refl _⟩, ⟨zq BK433.out⟩, ⟨zq BK435.out⟩, ⟨IsS94.q2 HI434.out NB434_433.out NB434_435.out⟩, ⟨bq3 HB.out (IsS94.ge HI434.out) GE433.out GE435.out⟩⟩
   case rest =>
    clear HC20
    try clear c1
    try clear c2
    try clear p2
    try clear p4
    try clear q4
    try clear hx4
    try clear c8
    try clear c9
    try clear c10
    try clear c14
    try clear c16
    try clear c16b0
    try clear c17
    try clear c17b0
    try clear c21
    try clear c24
    try clear c25
    try clear hcz11_0
    try clear hcz11_1
    try clear hcz11_2
    try clear hcz11_3
    try clear hcz13_0
    try clear hcz13_1
    try clear hcz13_2
    try clear hcz13_3
    try clear hcz15_0
    try clear hcz15_1
    try clear hcz15_2
    try clear hcz18_0
    try clear hcz18_1
    try clear hcz18_2
    try clear hcz19_0
    try clear hcz19_1
    try clear hcz19_2
    try clear hcz26_0
    try clear hcz26_1
    try clear hcz26_2
    try clear hcz26_3
    try clear hfz11_0
    try clear hfz11_1
    try clear hfz11_2
    try clear hfz11_3
    try clear hfz13_0
    try clear hfz13_1
    try clear hfz13_2
    try clear hfz13_3
    try clear hfz15_1
    try clear hfz15_2
    try clear hfz18_1
    try clear hfz18_2
    try clear hfz19_1
    try clear hfz19_2
    try clear hfz26_0
    try clear hfz26_1
    try clear hfz26_2
    try clear hfz26_3
    try clear hx442_0
    try clear p2
    try clear p4
    try clear p442
    try clear q4
    try clear q442
    obtain ⟨kq, x435001_19, x435002_19, x436002_19, HA, HJ19, BK433, BK435, HI434, HB⟩ := hcut
    cases kq with
    | zero => exact absurd HA.out (by simp [impl_GetFrame.j1])
    | succ kj19 =>
     have H := HA.out
     clear HA
     simp only [impl_GetFrame.j1] at H
     replace H := Option.bind_eq_some_iff.mp H
     obtain ⟨⟨t446, t449, t450⟩, A270, H⟩ := H
     replace H : ((impl_PutFrame.f kj19 t436 t439 x436002_19 t446).bind fun t451 => ((impl_parts_done.f l0 t449 t450).bind fun bt454 => (if bt454.1 = true then (if (t451.length : Int) = 0 then (some (0, 0, 0, ([] : List Int), false)) else (if (strOfNums t451).toList = (strOfNums l0).toList then (some (t436, t439, x436002_19, t446, true)) else (some (0, 0, 0, ([] : List Int), false)))) else (some (0, 0, 0, ([] : List Int), false))))) = some (r1, r2, r3, r4, r5) := H
     have A27 := am A270
     clear A270
     replace H := Option.bind_eq_some_iff.mp H
     obtain ⟨t451, A280, H⟩ := H
     replace H : ((impl_parts_done.f l0 t449 t450).bind fun bt454 => (if bt454.1 = true then (if (t451.length : Int) = 0 then (some (0, 0, 0, ([] : List Int), false)) else (if (strOfNums t451).toList = (strOfNums l0).toList then (some (t436, t439, x436002_19, t446, true)) else (some (0, 0, 0, ([] : List Int), false)))) else (some (0, 0, 0, ([] : List Int), false)))) = some (r1, r2, r3, r4, r5) := H
     have A28 := am A280
     clear A280
     replace H := Option.bind_eq_some_iff.mp H
     obtain ⟨⟨t454, t455, t456⟩, A290, H⟩ := H
     replace H : (if t454 = true then (if (t451.length : Int) = 0 then (some (0, 0, 0, ([] : List Int), false)) else (if (strOfNums t451).toList = (strOfNums l0).toList then (some (t436, t439, x436002_19, t446, true)) else (some (0, 0, 0, ([] : List Int), false)))) else (some (0, 0, 0, ([] : List Int), false))) = some (r1, r2, r3, r4, r5) := H
     have A29 := am A290
     clear A290
     by_cases c30 : t454 = true
     · subst c30
       have H1 : (if (t451.length : Int) = 0 then (some (0, 0, 0, ([] : List Int), false)) else (if (strOfNums t451).toList = (strOfNums l0).toList then (some (t436, t439, x436002_19, t446, true)) else (some (0, 0, 0, ([] : List Int), false)))) = some (r1, r2, r3, r4, r5) := by rw [if_pos rfl] at H; exact H
       clear H
       have H := H1
       clear H1
       by_cases c31 : (t451.length : Int) = 0
       · rw [if_pos c31] at H
         have c31b0 : ((t451.length : Int) == 0) = true := beq_iff_eq.mpr c31
         have c31b1 : ((t451.length : Int) != 0) = false := bne_eq_false_iff_eq.mpr c31
         clear c31
         simp only [Option.some.injEq, Prod.mk.injEq] at H
         obtain ⟨rfl, rfl, rfl, rfl, rfl⟩ := H
         go_wp2_with (first | ((with_reducible refine gate_callee (f := 81) rfl ?_); refine goesL_ (some 44) rfl rfl Try.func81 (by kernel_rfl) rfl #[.pointer (some ⟨gb434, 0, none⟩), .int .i64 3] rfl ga ?_; (with_reducible refine (impl_parts_part.calls kj19 gb434 l0 x435001_19 x435002_19 3 t446 t449 t450 w _ ?side1 ?side2 A27.out).mono ?_); (case side1 => exact IsS94.q2 HI434.out NB434_433.out NB434_435.out); (case side2 => exact bq3 HB.out (IsS94.ge HI434.out) GE433.out GE435.out); rintro e w32 ⟨v447, rfl, ho0, hi, hb, hk⟩; refine ⟨_, rfl, ?_⟩; have n_ := ak5 (KeepBut.blk hk (g' := gb433) (o := .cells #[.int .i64 0, .int .i64 0, .int .i64 0, .slice none 0 0] 38 (0, 0)) (zq BK433.out) NB433_434.out (by simp)) (KeepBut.blk hk (g' := gb435) (o := .cells #[.int .i64 t436, .int .i64 t439, .int .i64 x436002_19, .slice none 0 0] 38 (0, 0)) (zq BK435.out) NB435_434.out (by simp)) (Kd.R_lower ho0 (below_size (bq3 HB.out (IsS94.ge HI434.out) GE433.out GE435.out))) hb hi; clear BK433 BK435 HB HI434; obtain ⟨BK433, BK435, HO448, HB, HI434⟩ := n_; (try clear hb hk hi ho0); obtain ⟨Ao33, co33, eo33⟩ := Kd.R_slice HO448.out; subst eo33; have hnb34 := NB435_433.out; have hnc34 := NB433_435.out; have hnb35 := NB435_434.out; have hnc35 := NB434_435.out; have hcz36_0 : w32.cell? ⟨gb435, 0, none⟩ = some (.int .i64 t436) := (blk_cell BK435.out 0).trans rfl; have hcz36_1 : w32.cell? ⟨gb435, 1, none⟩ = some (.int .i64 t439) := (blk_cell BK435.out 1).trans rfl; have hcz36_2 : w32.cell? ⟨gb435, 2, none⟩ = some (.int .i64 x436002_19) := (blk_cell BK435.out 2).trans rfl; have hcz36_3 : w32.cell? ⟨gb435, 3, none⟩ = some (.slice none 0 0) := (blk_cell BK435.out 3).trans rfl; have hfz36_0 := blk_frozen BK435.out 0; have hfz36_1 := blk_frozen BK435.out 1; have hfz36_2 := blk_frozen BK435.out 2; have hfz36_3 := blk_frozen BK435.out 3) | ((with_reducible refine gate_callee (f := 25) rfl ?_); refine goesL_ (some 47) rfl rfl Try.func25 (by kernel_rfl) rfl #[.agg #[.int .i64 t436, .int .i64 t439, .int .i64 x436002_19, .slice Ao33 t446.length co33]] rfl ga ?_; (with_reducible refine (impl_PutFrame.calls kj19 t436 t439 x436002_19 _ _ t446 t451 _ ?side1 ?side2 A28.out).mono ?_); (case side1 => refine (Kd.R_reads' (e := 5) (base := w.heap.size) (ok := fun k_ => True) (n := t446.length) (c := co33) ?_).2.2; exact (by (with_reducible repeat (first | apply Kd.R_alloc | apply Kd.R_drewN | apply Kd.R_drew)); exact (Kd.R_mono (Kd.R_far (p := ⟨gb435, 3, none⟩) (Kd.R_types HO448.out BK435.out (by decide)) (fun _ hk => hk.2) (.slice Ao33 t446.length co33)) (fun _ h_ => h_.1)))); (case side2 => exact (Kd.R_reads' HO448.out).2.1); rintro e w37 ⟨v452, rfl, ho0, hb⟩; refine ⟨_, rfl, ?_⟩; have n_ := ak6 (Kd.R_elder' (by (with_reducible repeat (first | apply Kd.R_alloc | apply Kd.R_drewN | apply Kd.R_drew)); exact (Kd.R_mono (Kd.R_far (p := ⟨gb435, 3, none⟩) (Kd.R_types HO448.out BK435.out (by decide)) (fun _ hk => hk.2) (.slice Ao33 t446.length co33)) (fun _ h_ => h_.1))) (Kd.R_base ho0) hb) (Kd.R_lower (Kd.R_new' ho0 (Kd.R_lt (by (with_reducible repeat (first | apply Kd.R_alloc | apply Kd.R_drewN | apply Kd.R_drew)); exact (Kd.R_mono (Kd.R_far (p := ⟨gb435, 3, none⟩) (Kd.R_types HO448.out BK435.out (by decide)) (fun _ hk => hk.2) (.slice Ao33 t446.length co33)) (fun _ h_ => h_.1))))) (below_size (bq3 HB.out (IsS94.ge HI434.out) GE433.out GE435.out))) (blk_below (g := gb433) (o := .cells #[.int .i64 0, .int .i64 0, .int .i64 0, .slice none 0 0] 38 (0, 0)) (by (with_reducible repeat (first | refine blk_drewN ?_ _ | refine blk_drew ?_ | refine blk_alloc ?_ _)); refine blk_far ?_ NB433_435.out _; (with_reducible repeat (first | refine blk_drewN ?_ _ | refine blk_drew ?_ | refine blk_alloc ?_ _)); exact BK433.out) hb) (blk_below (g := gb435) (o := .cells #[.int .i64 t436, .int .i64 t439, .int .i64 x436002_19, .slice Ao33 t446.length co33] 38 (0, 0)) (by (with_reducible repeat (first | refine blk_drewN ?_ _ | refine blk_drew ?_ | refine blk_alloc ?_ _)); refine blk_put (cs := #[.int .i64 t436, .int .i64 t439, .int .i64 x436002_19, .slice none 0 0]) ?_ 3 _ rfl; (with_reducible repeat (first | refine blk_drewN ?_ _ | refine blk_drew ?_ | refine blk_alloc ?_ _)); exact BK435.out) hb) (IsS94.below (show IsS94 w (w32.setCell ⟨gb435, 3, none⟩ (.slice Ao33 t446.length co33)) gb434 l0 t449 t450 from IsS94.q2 HI434.out NB434_433.out NB434_435.out) hb) (below_step (bq3 HB.out (IsS94.ge HI434.out) GE433.out GE435.out) hb); clear HO448 BK433 BK435 HI434 HB; obtain ⟨HO448, HO453, BK433, BK435, HI434, HB⟩ := n_; (try clear hb ho0)) | ((with_reducible refine gate_callee (f := 82) rfl ?_); refine goesL_ (some 49) rfl rfl Try.func82 (by kernel_rfl) rfl #[.pointer (some ⟨gb434, 0, none⟩)] rfl ga ?_; (with_reducible refine (impl_parts_done.calls gb434 l0 t449 t450 true t455 t456 w _ ?side1 ?side2 A29.out).mono ?_); (case side1 => exact IsS94.q2 HI434.out NB434_433.out NB434_435.out); (case side2 => exact bq3 HB.out (IsS94.ge HI434.out) GE433.out GE435.out); rintro e w38 ⟨rfl, hi, hb, hk⟩; refine ⟨_, rfl, ?_⟩; have n_ := ak6 (KeepBut.blk hk (g' := gb433) (o := .cells #[.int .i64 0, .int .i64 0, .int .i64 0, .slice none 0 0] 38 (0, 0)) (zq BK433.out) NB433_434.out (by simp)) (KeepBut.blk hk (g' := gb435) (o := .cells #[.int .i64 t436, .int .i64 t439, .int .i64 x436002_19, .slice Ao33 t446.length co33] 38 (0, 0)) (zq BK435.out) NB435_434.out (by simp)) (Kd.R_mono (Kd.R_keep (IsS94.apart (show IsS94 w _ gb434 l0 t449 t450 from IsS94.q2 HI434.out NB434_433.out NB434_435.out) (kqR HO448.out) (by decide)) hk (fun _ h => h.2)) (fun _ h => h.1)) (Kd.R_mono (Kd.R_keep (IsS94.apart (show IsS94 w _ gb434 l0 t449 t450 from IsS94.q2 HI434.out NB434_433.out NB434_435.out) (kqR HO453.out) (by decide)) hk (fun _ h => h.2)) (fun _ h => h.1)) hb hi; clear BK433 BK435 HO448 HO453 HB HI434; obtain ⟨BK433, BK435, HO448, HO453, HB, HI434⟩ := n_; (try clear hb hk hi); obtain ⟨Ao39, co39, eo39⟩ := Kd.R_slice HO453.out; subst eo39; have hnb40 := NB433_434.out; have hnc40 := NB434_433.out; have hcz41_0 : w38.cell? ⟨gb433, 0, none⟩ = some (.int .i64 0) := (blk_cell BK433.out 0).trans rfl; have hcz41_1 : w38.cell? ⟨gb433, 1, none⟩ = some (.int .i64 0) := (blk_cell BK433.out 1).trans rfl; have hcz41_2 : w38.cell? ⟨gb433, 2, none⟩ = some (.int .i64 0) := (blk_cell BK433.out 2).trans rfl; have hcz41_3 : w38.cell? ⟨gb433, 3, none⟩ = some (.slice none 0 0) := (blk_cell BK433.out 3).trans rfl; have hfz41_0 := blk_frozen BK433.out 0; have hfz41_1 := blk_frozen BK433.out 1; have hfz41_2 := blk_frozen BK433.out 2; have hfz41_3 := blk_frozen BK433.out 3) | ((with_reducible refine gate_store (t := 38) (p := 2) rfl ?_); refine store_event (t := 38) (p := 2) (v := ?vo_w42) (w1 := ((((w38.setCell ⟨gb433, 0, none⟩ (.int .i64 0)).setCell ⟨gb433, 1, none⟩ (.int .i64 0)).setCell ⟨gb433, 2, none⟩ (.int .i64 0)).setCell ⟨gb433, 3, none⟩ (.slice none 0 0))) ?hg ?ho ?hn ?hr ?_; (case ho => rfl); (case hg => rfl); (case hn => rfl); (case hr => exact gs); intro w42 hw; have n0_ : Aside0 (Kd.R (Kd.int .u8) 5 w42 w.heap.size (fun k_ => some k_ ≠ (.slice Ao39 t451.length co39 : Value).ownBlock) (.slice Ao33 t446.length co33) t446) := ⟨(by rw [hw]; exact (by (with_reducible repeat (first | apply Kd.R_alloc | apply Kd.R_drewN | apply Kd.R_drew)); exact Kd.R_mono (Kd.R_far (p := ⟨gb433, 3, none⟩) (Kd.R_far (p := ⟨gb433, 2, none⟩) (Kd.R_far (p := ⟨gb433, 1, none⟩) (Kd.R_far (p := ⟨gb433, 0, none⟩) (Kd.R_types HO448.out BK433.out (by decide)) (fun _ hk => hk.2) (.int .i64 0)) (fun _ hk => hk.2) (.int .i64 0)) (fun _ hk => hk.2) (.int .i64 0)) (fun _ hk => hk.2) (.slice none 0 0)) (fun _ hk => hk.1.2)))⟩; have n1_ : Aside0 (Kd.R (Kd.int .u8) 5 w42 w.heap.size (fun k_ => some k_ ≠ (.slice Ao33 t446.length co33 : Value).ownBlock) (.slice Ao39 t451.length co39) t451) := ⟨(by rw [hw]; exact (by (with_reducible repeat (first | apply Kd.R_alloc | apply Kd.R_drewN | apply Kd.R_drew)); exact Kd.R_mono (Kd.R_far (p := ⟨gb433, 3, none⟩) (Kd.R_far (p := ⟨gb433, 2, none⟩) (Kd.R_far (p := ⟨gb433, 1, none⟩) (Kd.R_far (p := ⟨gb433, 0, none⟩) (Kd.R_types HO453.out BK433.out (by decide)) (fun _ hk => hk.2) (.int .i64 0)) (fun _ hk => hk.2) (.int .i64 0)) (fun _ hk => hk.2) (.int .i64 0)) (fun _ hk => hk.2) (.slice none 0 0)) (fun _ hk => hk.1.2)))⟩; have n2_ : Aside0 (w42.heap[gb433]? = some (.cells #[.int .i64 0, .int .i64 0, .int .i64 0, .slice none 0 0] 38 (0, 0))) := ⟨(by rw [hw]; exact (by (with_reducible repeat (first | refine blk_drewN ?_ _ | refine blk_drew ?_ | refine blk_alloc ?_ _)); refine blk_put (cs := #[.int .i64 0, .int .i64 0, .int .i64 0, .slice none 0 0]) ?_ 3 _ rfl; (with_reducible repeat (first | refine blk_drewN ?_ _ | refine blk_drew ?_ | refine blk_alloc ?_ _)); refine blk_put (cs := #[.int .i64 0, .int .i64 0, .int .i64 0, .slice none 0 0]) ?_ 2 _ rfl; (with_reducible repeat (first | refine blk_drewN ?_ _ | refine blk_drew ?_ | refine blk_alloc ?_ _)); refine blk_put (cs := #[.int .i64 0, .int .i64 0, .int .i64 0, .slice none 0 0]) ?_ 1 _ rfl; (with_reducible repeat (first | refine blk_drewN ?_ _ | refine blk_drew ?_ | refine blk_alloc ?_ _)); refine blk_put (cs := #[.int .i64 0, .int .i64 0, .int .i64 0, .slice none 0 0]) ?_ 0 _ rfl; (with_reducible repeat (first | refine blk_drewN ?_ _ | refine blk_drew ?_ | refine blk_alloc ?_ _)); exact BK433.out))⟩; have n3_ : Aside0 (w42.heap[gb435]? = some (.cells #[.int .i64 t436, .int .i64 t439, .int .i64 x436002_19, .slice Ao33 t446.length co33] 38 (0, 0))) := ⟨(by rw [hw]; exact (by (with_reducible repeat (first | refine blk_drewN ?_ _ | refine blk_drew ?_ | refine blk_alloc ?_ _)); refine blk_far ?_ NB435_433.out _; (with_reducible repeat (first | refine blk_drewN ?_ _ | refine blk_drew ?_ | refine blk_alloc ?_ _)); refine blk_far ?_ NB435_433.out _; (with_reducible repeat (first | refine blk_drewN ?_ _ | refine blk_drew ?_ | refine blk_alloc ?_ _)); refine blk_far ?_ NB435_433.out _; (with_reducible repeat (first | refine blk_drewN ?_ _ | refine blk_drew ?_ | refine blk_alloc ?_ _)); refine blk_far ?_ NB435_433.out _; (with_reducible repeat (first | refine blk_drewN ?_ _ | refine blk_drew ?_ | refine blk_alloc ?_ _)); exact BK435.out))⟩; have n4_ : Aside0 (IsS94 w w42 gb434 l0 t455 t456) := ⟨(by rw [hw]; exact (IsS94.q2 HI434.out NB434_433.out NB434_435.out))⟩; have n5_ : Aside0 (Below w.heap.size w w42) := ⟨(by rw [hw]; exact (bq3 HB.out (IsS94.ge HI434.out) GE433.out GE435.out))⟩; clear hw; clear HO448; clear HO453; clear BK433; clear BK435; clear HI434; clear HB; have HO448 := n0_; have HO453 := n1_; have BK433 := n2_; have BK435 := n3_; have HI434 := n4_; have HB := n5_; clear n0_ n1_ n2_ n3_ n4_ n5_))
         refine bodyPost_ret (results_ct rfl _ _ gb433 38 #[.int .i64 0, .int .i64 0, .int .i64 0, .slice none 0 0] (0, 0) _ rfl (zq BK433.out) Try.underlying38 rfl (by kernel_rfl)) rfl ?_
         exact ⟨_, rq, by first | exact Kd.R_nil _ _ _ _ _ | exact Kd.N_nil _ _ _ _ _ | exact Kd.V_nil _ _ _ _ _ | exact Kd.Q_nil _ _ _ _ _ | exact Kd.S_nil _ _ _ _ _, bq3 HB.out (IsS94.ge HI434.out) GE433.out GE435.out⟩
       rw [if_neg c31] at H
       have c31b0 : ((t451.length : Int) == 0) = false := beq_eq_false_iff_ne.mpr c31
       have c31b1 : ((t451.length : Int) != 0) = true := bne_iff_ne.mpr c31
       have c31b2 : ¬ (t451 = []) := fun h_ => c31 (by rw [h_]; rfl)
       by_cases c43 : (strOfNums t451).toList = (strOfNums l0).toList
       · rw [if_pos c43] at H
         have c43b0 : ((strOfNums t451).toList == (strOfNums l0).toList) = true := beq_iff_eq.mpr c43
         have c43b1 : ((strOfNums t451).toList != (strOfNums l0).toList) = false := bne_eq_false_iff_eq.mpr c43
         clear c43
         simp only [Option.some.injEq, Prod.mk.injEq] at H
         obtain ⟨rfl, rfl, rfl, rfl, rfl⟩ := H
         go_wp2_with (first | ((with_reducible refine gate_callee (f := 81) rfl ?_); refine goesL_ (some 44) rfl rfl Try.func81 (by kernel_rfl) rfl #[.pointer (some ⟨gb434, 0, none⟩), .int .i64 3] rfl ga ?_; (with_reducible refine (impl_parts_part.calls kj19 gb434 l0 x435001_19 x435002_19 3 t446 t449 t450 w _ ?side1 ?side2 A27.out).mono ?_); (case side1 => exact IsS94.q2 HI434.out NB434_433.out NB434_435.out); (case side2 => exact bq3 HB.out (IsS94.ge HI434.out) GE433.out GE435.out); rintro e w44 ⟨v447, rfl, ho0, hi, hb, hk⟩; refine ⟨_, rfl, ?_⟩; have n_ := ak5 (KeepBut.blk hk (g' := gb433) (o := .cells #[.int .i64 0, .int .i64 0, .int .i64 0, .slice none 0 0] 38 (0, 0)) (zq BK433.out) NB433_434.out (by simp)) (KeepBut.blk hk (g' := gb435) (o := .cells #[.int .i64 t436, .int .i64 t439, .int .i64 x436002_19, .slice none 0 0] 38 (0, 0)) (zq BK435.out) NB435_434.out (by simp)) (Kd.R_lower ho0 (below_size (bq3 HB.out (IsS94.ge HI434.out) GE433.out GE435.out))) hb hi; clear BK433 BK435 HB HI434; obtain ⟨BK433, BK435, HO448, HB, HI434⟩ := n_; (try clear hb hk hi ho0); obtain ⟨Ao45, co45, eo45⟩ := Kd.R_slice HO448.out; subst eo45; have hnb46 := NB435_433.out; have hnc46 := NB433_435.out; have hnb47 := NB435_434.out; have hnc47 := NB434_435.out; have hcz48_0 : w44.cell? ⟨gb435, 0, none⟩ = some (.int .i64 t436) := (blk_cell BK435.out 0).trans rfl; have hcz48_1 : w44.cell? ⟨gb435, 1, none⟩ = some (.int .i64 t439) := (blk_cell BK435.out 1).trans rfl; have hcz48_2 : w44.cell? ⟨gb435, 2, none⟩ = some (.int .i64 x436002_19) := (blk_cell BK435.out 2).trans rfl; have hcz48_3 : w44.cell? ⟨gb435, 3, none⟩ = some (.slice none 0 0) := (blk_cell BK435.out 3).trans rfl; have hfz48_0 := blk_frozen BK435.out 0; have hfz48_1 := blk_frozen BK435.out 1; have hfz48_2 := blk_frozen BK435.out 2; have hfz48_3 := blk_frozen BK435.out 3) | ((with_reducible refine gate_callee (f := 25) rfl ?_); refine goesL_ (some 47) rfl rfl Try.func25 (by kernel_rfl) rfl #[.agg #[.int .i64 t436, .int .i64 t439, .int .i64 x436002_19, .slice Ao45 t446.length co45]] rfl ga ?_; (with_reducible refine (impl_PutFrame.calls kj19 t436 t439 x436002_19 _ _ t446 t451 _ ?side1 ?side2 A28.out).mono ?_); (case side1 => refine (Kd.R_reads' (e := 5) (base := w.heap.size) (ok := fun k_ => True) (n := t446.length) (c := co45) ?_).2.2; exact (by (with_reducible repeat (first | apply Kd.R_alloc | apply Kd.R_drewN | apply Kd.R_drew)); exact (Kd.R_mono (Kd.R_far (p := ⟨gb435, 3, none⟩) (Kd.R_types HO448.out BK435.out (by decide)) (fun _ hk => hk.2) (.slice Ao45 t446.length co45)) (fun _ h_ => h_.1)))); (case side2 => exact (Kd.R_reads' HO448.out).2.1); rintro e w49 ⟨v452, rfl, ho0, hb⟩; refine ⟨_, rfl, ?_⟩; have n_ := ak6 (Kd.R_elder' (by (with_reducible repeat (first | apply Kd.R_alloc | apply Kd.R_drewN | apply Kd.R_drew)); exact (Kd.R_mono (Kd.R_far (p := ⟨gb435, 3, none⟩) (Kd.R_types HO448.out BK435.out (by decide)) (fun _ hk => hk.2) (.slice Ao45 t446.length co45)) (fun _ h_ => h_.1))) (Kd.R_base ho0) hb) (Kd.R_lower (Kd.R_new' ho0 (Kd.R_lt (by (with_reducible repeat (first | apply Kd.R_alloc | apply Kd.R_drewN | apply Kd.R_drew)); exact (Kd.R_mono (Kd.R_far (p := ⟨gb435, 3, none⟩) (Kd.R_types HO448.out BK435.out (by decide)) (fun _ hk => hk.2) (.slice Ao45 t446.length co45)) (fun _ h_ => h_.1))))) (below_size (bq3 HB.out (IsS94.ge HI434.out) GE433.out GE435.out))) (blk_below (g := gb433) (o := .cells #[.int .i64 0, .int .i64 0, .int .i64 0, .slice none 0 0] 38 (0, 0)) (by (with_reducible repeat (first | refine blk_drewN ?_ _ | refine blk_drew ?_ | refine blk_alloc ?_ _)); refine blk_far ?_ NB433_435.out _; (with_reducible repeat (first | refine blk_drewN ?_ _ | refine blk_drew ?_ | refine blk_alloc ?_ _)); exact BK433.out) hb) (blk_below (g := gb435) (o := .cells #[.int .i64 t436, .int .i64 t439, .int .i64 x436002_19, .slice Ao45 t446.length co45] 38 (0, 0)) (by (with_reducible repeat (first | refine blk_drewN ?_ _ | refine blk_drew ?_ | refine blk_alloc ?_ _)); refine blk_put (cs := #[.int .i64 t436, .int .i64 t439, .int .i64 x436002_19, .slice none 0 0]) ?_ 3 _ rfl; (with_reducible repeat (first | refine blk_drewN ?_ _ | refine blk_drew ?_ | refine blk_alloc ?_ _)); exact BK435.out) hb) (IsS94.below (show IsS94 w (w44.setCell ⟨gb435, 3, none⟩ (.slice Ao45 t446.length co45)) gb434 l0 t449 t450 from IsS94.q2 HI434.out NB434_433.out NB434_435.out) hb) (below_step (bq3 HB.out (IsS94.ge HI434.out) GE433.out GE435.out) hb); clear HO448 BK433 BK435 HI434 HB; obtain ⟨HO448, HO453, BK433, BK435, HI434, HB⟩ := n_; (try clear hb ho0)) | ((with_reducible refine gate_callee (f := 82) rfl ?_); refine goesL_ (some 49) rfl rfl Try.func82 (by kernel_rfl) rfl #[.pointer (some ⟨gb434, 0, none⟩)] rfl ga ?_; (with_reducible refine (impl_parts_done.calls gb434 l0 t449 t450 true t455 t456 w _ ?side1 ?side2 A29.out).mono ?_); (case side1 => exact IsS94.q2 HI434.out NB434_433.out NB434_435.out); (case side2 => exact bq3 HB.out (IsS94.ge HI434.out) GE433.out GE435.out); rintro e w50 ⟨rfl, hi, hb, hk⟩; refine ⟨_, rfl, ?_⟩; have n_ := ak6 (KeepBut.blk hk (g' := gb433) (o := .cells #[.int .i64 0, .int .i64 0, .int .i64 0, .slice none 0 0] 38 (0, 0)) (zq BK433.out) NB433_434.out (by simp)) (KeepBut.blk hk (g' := gb435) (o := .cells #[.int .i64 t436, .int .i64 t439, .int .i64 x436002_19, .slice Ao45 t446.length co45] 38 (0, 0)) (zq BK435.out) NB435_434.out (by simp)) (Kd.R_mono (Kd.R_keep (IsS94.apart (show IsS94 w _ gb434 l0 t449 t450 from IsS94.q2 HI434.out NB434_433.out NB434_435.out) (kqR HO448.out) (by decide)) hk (fun _ h => h.2)) (fun _ h => h.1)) (Kd.R_mono (Kd.R_keep (IsS94.apart (show IsS94 w _ gb434 l0 t449 t450 from IsS94.q2 HI434.out NB434_433.out NB434_435.out) (kqR HO453.out) (by decide)) hk (fun _ h => h.2)) (fun _ h => h.1)) hb hi; clear BK433 BK435 HO448 HO453 HB HI434; obtain ⟨BK433, BK435, HO448, HO453, HB, HI434⟩ := n_; (try clear hb hk hi); obtain ⟨Ao51, co51, eo51⟩ := Kd.R_slice HO453.out; subst eo51; have hcv52 := own_string (P := Try.prog) Try.underlying22 Try.underlying5 Try.underlying9 (Kd.own_of_R HO453.out); have hcv53 := Kd.C_string (P := Try.prog) (A := A0) (c := c0) Try.underlying22 Try.underlying5 Try.underlying9 (Kd.C_below HR0.out HB.out); have hcz54_0 : w50.cell? ⟨gb435, 0, none⟩ = some (.int .i64 t436) := (blk_cell BK435.out 0).trans rfl; have hcz54_1 : w50.cell? ⟨gb435, 1, none⟩ = some (.int .i64 t439) := (blk_cell BK435.out 1).trans rfl; have hcz54_2 : w50.cell? ⟨gb435, 2, none⟩ = some (.int .i64 x436002_19) := (blk_cell BK435.out 2).trans rfl; have hcz54_3 : w50.cell? ⟨gb435, 3, none⟩ = some (.slice Ao45 t446.length co45) := (blk_cell BK435.out 3).trans rfl; have hfz54_0 := blk_frozen BK435.out 0; have hfz54_1 := blk_frozen BK435.out 1; have hfz54_2 := blk_frozen BK435.out 2; have hfz54_3 := blk_frozen BK435.out 3; have hnb55 := NB433_434.out; have hnc55 := NB434_433.out; have hcz56_0 : w50.cell? ⟨gb433, 0, none⟩ = some (.int .i64 0) := (blk_cell BK433.out 0).trans rfl; have hcz56_1 : w50.cell? ⟨gb433, 1, none⟩ = some (.int .i64 0) := (blk_cell BK433.out 1).trans rfl; have hcz56_2 : w50.cell? ⟨gb433, 2, none⟩ = some (.int .i64 0) := (blk_cell BK433.out 2).trans rfl; have hcz56_3 : w50.cell? ⟨gb433, 3, none⟩ = some (.slice none 0 0) := (blk_cell BK433.out 3).trans rfl; have hfz56_0 := blk_frozen BK433.out 0; have hfz56_1 := blk_frozen BK433.out 1; have hfz56_2 := blk_frozen BK433.out 2; have hfz56_3 := blk_frozen BK433.out 3) | ((with_reducible refine gate_store (t := 38) (p := 2) rfl ?_); refine store_event (t := 38) (p := 2) (v := ?vo_w57) (w1 := ((((w50.setCell ⟨gb433, 0, none⟩ (.int .i64 t436)).setCell ⟨gb433, 1, none⟩ (.int .i64 t439)).setCell ⟨gb433, 2, none⟩ (.int .i64 x436002_19)).setCell ⟨gb433, 3, none⟩ (.slice Ao45 t446.length co45))) ?hg ?ho ?hn ?hr ?_; (case ho => rfl); (case hg => rfl); (case hn => rfl); (case hr => exact gs); intro w57 hw; have n0_ : Aside0 (Kd.R (Kd.int .u8) 5 w57 w.heap.size (fun k_ => some k_ ≠ (.slice Ao51 t451.length co51 : Value).ownBlock) (.slice Ao45 t446.length co45) t446) := ⟨(by rw [hw]; exact (by (with_reducible repeat (first | apply Kd.R_alloc | apply Kd.R_drewN | apply Kd.R_drew)); exact Kd.R_mono (Kd.R_far (p := ⟨gb433, 3, none⟩) (Kd.R_far (p := ⟨gb433, 2, none⟩) (Kd.R_far (p := ⟨gb433, 1, none⟩) (Kd.R_far (p := ⟨gb433, 0, none⟩) (Kd.R_types HO448.out BK433.out (by decide)) (fun _ hk => hk.2) (.int .i64 t436)) (fun _ hk => hk.2) (.int .i64 t439)) (fun _ hk => hk.2) (.int .i64 x436002_19)) (fun _ hk => hk.2) (.slice Ao45 t446.length co45)) (fun _ hk => hk.1.2)))⟩; have n1_ : Aside0 (Kd.R (Kd.int .u8) 5 w57 w.heap.size (fun k_ => some k_ ≠ (.slice Ao45 t446.length co45 : Value).ownBlock) (.slice Ao51 t451.length co51) t451) := ⟨(by rw [hw]; exact (by (with_reducible repeat (first | apply Kd.R_alloc | apply Kd.R_drewN | apply Kd.R_drew)); exact Kd.R_mono (Kd.R_far (p := ⟨gb433, 3, none⟩) (Kd.R_far (p := ⟨gb433, 2, none⟩) (Kd.R_far (p := ⟨gb433, 1, none⟩) (Kd.R_far (p := ⟨gb433, 0, none⟩) (Kd.R_types HO453.out BK433.out (by decide)) (fun _ hk => hk.2) (.int .i64 t436)) (fun _ hk => hk.2) (.int .i64 t439)) (fun _ hk => hk.2) (.int .i64 x436002_19)) (fun _ hk => hk.2) (.slice Ao45 t446.length co45)) (fun _ hk => hk.1.2)))⟩; have n2_ : Aside0 (w57.heap[gb433]? = some (.cells #[.int .i64 t436, .int .i64 t439, .int .i64 x436002_19, .slice Ao45 t446.length co45] 38 (0, 0))) := ⟨(by rw [hw]; exact (by (with_reducible repeat (first | refine blk_drewN ?_ _ | refine blk_drew ?_ | refine blk_alloc ?_ _)); refine blk_put (cs := #[.int .i64 t436, .int .i64 t439, .int .i64 x436002_19, .slice none 0 0]) ?_ 3 _ rfl; (with_reducible repeat (first | refine blk_drewN ?_ _ | refine blk_drew ?_ | refine blk_alloc ?_ _)); refine blk_put (cs := #[.int .i64 t436, .int .i64 t439, .int .i64 0, .slice none 0 0]) ?_ 2 _ rfl; (with_reducible repeat (first | refine blk_drewN ?_ _ | refine blk_drew ?_ | refine blk_alloc ?_ _)); refine blk_put (cs := #[.int .i64 t436, .int .i64 0, .int .i64 0, .slice none 0 0]) ?_ 1 _ rfl; (with_reducible repeat (first | refine blk_drewN ?_ _ | refine blk_drew ?_ | refine blk_alloc ?_ _)); refine blk_put (cs := #[.int .i64 0, .int .i64 0, .int .i64 0, .slice none 0 0]) ?_ 0 _ rfl; (with_reducible repeat (first | refine blk_drewN ?_ _ | refine blk_drew ?_ | refine blk_alloc ?_ _)); exact BK433.out))⟩; have n3_ : Aside0 (w57.heap[gb435]? = some (.cells #[.int .i64 t436, .int .i64 t439, .int .i64 x436002_19, .slice Ao45 t446.length co45] 38 (0, 0))) := ⟨(by rw [hw]; exact (by (with_reducible repeat (first | refine blk_drewN ?_ _ | refine blk_drew ?_ | refine blk_alloc ?_ _)); refine blk_far ?_ NB435_433.out _; (with_reducible repeat (first | refine blk_drewN ?_ _ | refine blk_drew ?_ | refine blk_alloc ?_ _)); refine blk_far ?_ NB435_433.out _; (with_reducible repeat (first | refine blk_drewN ?_ _ | refine blk_drew ?_ | refine blk_alloc ?_ _)); refine blk_far ?_ NB435_433.out _; (with_reducible repeat (first | refine blk_drewN ?_ _ | refine blk_drew ?_ | refine blk_alloc ?_ _)); refine blk_far ?_ NB435_433.out _; (with_reducible repeat (first | refine blk_drewN ?_ _ | refine blk_drew ?_ | refine blk_alloc ?_ _)); exact BK435.out))⟩; have n4_ : Aside0 (IsS94 w w57 gb434 l0 t455 t456) := ⟨(by rw [hw]; exact (IsS94.q2 HI434.out NB434_433.out NB434_435.out))⟩; have n5_ : Aside0 (Below w.heap.size w w57) := ⟨(by rw [hw]; exact (bq3 HB.out (IsS94.ge HI434.out) GE433.out GE435.out))⟩; clear hw; clear HO448; clear HO453; clear BK433; clear BK435; clear HI434; clear HB; have HO448 := n0_; have HO453 := n1_; have BK433 := n2_; have BK435 := n3_; have HI434 := n4_; have HB := n5_; clear n0_ n1_ n2_ n3_ n4_ n5_))
         refine bodyPost_ret (results_ct rfl _ _ gb433 38 #[.int .i64 t436, .int .i64 t439, .int .i64 x436002_19, .slice Ao45 t446.length co45] (0, 0) _ rfl (zq BK433.out) Try.underlying38 rfl (by kernel_rfl)) rfl ?_
         exact ⟨_, rq, by (with_reducible repeat (first | apply Kd.R_alloc | apply Kd.R_drewN | apply Kd.R_drew)); exact Kd.R_mono HO448.out (fun _ hk => trivial), bq3 HB.out (IsS94.ge HI434.out) GE433.out GE435.out⟩
       rw [if_neg c43] at H
       have c43b0 : ((strOfNums t451).toList == (strOfNums l0).toList) = false := beq_eq_false_iff_ne.mpr c43
       have c43b1 : ((strOfNums t451).toList != (strOfNums l0).toList) = true := bne_iff_ne.mpr c43
       simp only [Option.some.injEq, Prod.mk.injEq] at H
       obtain ⟨rfl, rfl, rfl, rfl, rfl⟩ := H
       go_wp2_with (first | ((with_reducible refine gate_callee (f := 81) rfl ?_); refine goesL_ (some 44) rfl rfl Try.func81 (by kernel_rfl) rfl #[.pointer (some ⟨gb434, 0, none⟩), .int .i64 3] rfl ga ?_; (with_reducible refine (impl_parts_part.calls kj19 gb434 l0 x435001_19 x435002_19 3 t446 t449 t450 w _ ?side1 ?side2 A27.out).mono ?_); (case side1 => exact IsS94.q2 HI434.out NB434_433.out NB434_435.out); (case side2 => exact bq3 HB.out (IsS94.ge HI434.out) GE433.out GE435.out); rintro e w58 ⟨v447, rfl, ho0, hi, hb, hk⟩; refine ⟨_, rfl, ?_⟩; have n_ := ak5 (KeepBut.blk hk (g' := gb433) (o := .cells #[.int .i64 0, .int .i64 0, .int .i64 0, .slice none 0 0] 38 (0, 0)) (zq BK433.out) NB433_434.out (by simp)) (KeepBut.blk hk (g' := gb435) (o := .cells #[.int .i64 t436, .int .i64 t439, .int .i64 x436002_19, .slice none 0 0] 38 (0, 0)) (zq BK435.out) NB435_434.out (by simp)) (Kd.R_lower ho0 (below_size (bq3 HB.out (IsS94.ge HI434.out) GE433.out GE435.out))) hb hi; clear BK433 BK435 HB HI434; obtain ⟨BK433, BK435, HO448, HB, HI434⟩ := n_; (try clear hb hk hi ho0); obtain ⟨Ao59, co59, eo59⟩ := Kd.R_slice HO448.out; subst eo59; have hnb60 := NB435_433.out; have hnc60 := NB433_435.out; have hnb61 := NB435_434.out; have hnc61 := NB434_435.out; have hcz62_0 : w58.cell? ⟨gb435, 0, none⟩ = some (.int .i64 t436) := (blk_cell BK435.out 0).trans rfl; have hcz62_1 : w58.cell? ⟨gb435, 1, none⟩ = some (.int .i64 t439) := (blk_cell BK435.out 1).trans rfl; have hcz62_2 : w58.cell? ⟨gb435, 2, none⟩ = some (.int .i64 x436002_19) := (blk_cell BK435.out 2).trans rfl; have hcz62_3 : w58.cell? ⟨gb435, 3, none⟩ = some (.slice none 0 0) := (blk_cell BK435.out 3).trans rfl; have hfz62_0 := blk_frozen BK435.out 0; have hfz62_1 := blk_frozen BK435.out 1; have hfz62_2 := blk_frozen BK435.out 2; have hfz62_3 := blk_frozen BK435.out 3) | ((with_reducible refine gate_callee (f := 25) rfl ?_); refine goesL_ (some 47) rfl rfl Try.func25 (by kernel_rfl) rfl #[.agg #[.int .i64 t436, .int .i64 t439, .int .i64 x436002_19, .slice Ao59 t446.length co59]] rfl ga ?_; (with_reducible refine (impl_PutFrame.calls kj19 t436 t439 x436002_19 _ _ t446 t451 _ ?side1 ?side2 A28.out).mono ?_); (case side1 => refine (Kd.R_reads' (e := 5) (base := w.heap.size) (ok := fun k_ => True) (n := t446.length) (c := co59) ?_).2.2; exact (by (with_reducible repeat (first | apply Kd.R_alloc | apply Kd.R_drewN | apply Kd.R_drew)); exact (Kd.R_mono (Kd.R_far (p := ⟨gb435, 3, none⟩) (Kd.R_types HO448.out BK435.out (by decide)) (fun _ hk => hk.2) (.slice Ao59 t446.length co59)) (fun _ h_ => h_.1)))); (case side2 => exact (Kd.R_reads' HO448.out).2.1); rintro e w63 ⟨v452, rfl, ho0, hb⟩; refine ⟨_, rfl, ?_⟩; have n_ := ak6 (Kd.R_elder' (by (with_reducible repeat (first | apply Kd.R_alloc | apply Kd.R_drewN | apply Kd.R_drew)); exact (Kd.R_mono (Kd.R_far (p := ⟨gb435, 3, none⟩) (Kd.R_types HO448.out BK435.out (by decide)) (fun _ hk => hk.2) (.slice Ao59 t446.length co59)) (fun _ h_ => h_.1))) (Kd.R_base ho0) hb) (Kd.R_lower (Kd.R_new' ho0 (Kd.R_lt (by (with_reducible repeat (first | apply Kd.R_alloc | apply Kd.R_drewN | apply Kd.R_drew)); exact (Kd.R_mono (Kd.R_far (p := ⟨gb435, 3, none⟩) (Kd.R_types HO448.out BK435.out (by decide)) (fun _ hk => hk.2) (.slice Ao59 t446.length co59)) (fun _ h_ => h_.1))))) (below_size (bq3 HB.out (IsS94.ge HI434.out) GE433.out GE435.out))) (blk_below (g := gb433) (o := .cells #[.int .i64 0, .int .i64 0, .int .i64 0, .slice none 0 0] 38 (0, 0)) (by (with_reducible repeat (first | refine blk_drewN ?_ _ | refine blk_drew ?_ | refine blk_alloc ?_ _)); refine blk_far ?_ NB433_435.out _; (with_reducible repeat (first | refine blk_drewN ?_ _ | refine blk_drew ?_ | refine blk_alloc ?_ _)); exact BK433.out) hb) (blk_below (g := gb435) (o := .cells #[.int .i64 t436, .int .i64 t439, .int .i64 x436002_19, .slice Ao59 t446.length co59] 38 (0, 0)) (by (with_reducible repeat (first | refine blk_drewN ?_ _ | refine blk_drew ?_ | refine blk_alloc ?_ _)); refine blk_put (cs := #[.int .i64 t436, .int .i64 t439, .int .i64 x436002_19, .slice none 0 0]) ?_ 3 _ rfl; (with_reducible repeat (first | refine blk_drewN ?_ _ | refine blk_drew ?_ | refine blk_alloc ?_ _)); exact BK435.out) hb) (IsS94.below (show IsS94 w (w58.setCell ⟨gb435, 3, none⟩ (.slice Ao59 t446.length co59)) gb434 l0 t449 t450 from IsS94.q2 HI434.out NB434_433.out NB434_435.out) hb) (below_step (bq3 HB.out (IsS94.ge HI434.out) GE433.out GE435.out) hb); clear HO448 BK433 BK435 HI434 HB; obtain ⟨HO448, HO453, BK433, BK435, HI434, HB⟩ := n_; (try clear hb ho0)) | ((with_reducible refine gate_callee (f := 82) rfl ?_); refine goesL_ (some 49) rfl rfl Try.func82 (by kernel_rfl) rfl #[.pointer (some ⟨gb434, 0, none⟩)] rfl ga ?_; (with_reducible refine (impl_parts_done.calls gb434 l0 t449 t450 true t455 t456 w _ ?side1 ?side2 A29.out).mono ?_); (case side1 => exact IsS94.q2 HI434.out NB434_433.out NB434_435.out); (case side2 => exact bq3 HB.out (IsS94.ge HI434.out) GE433.out GE435.out); rintro e w64 ⟨rfl, hi, hb, hk⟩; refine ⟨_, rfl, ?_⟩; have n_ := ak6 (KeepBut.blk hk (g' := gb433) (o := .cells #[.int .i64 0, .int .i64 0, .int .i64 0, .slice none 0 0] 38 (0, 0)) (zq BK433.out) NB433_434.out (by simp)) (KeepBut.blk hk (g' := gb435) (o := .cells #[.int .i64 t436, .int .i64 t439, .int .i64 x436002_19, .slice Ao59 t446.length co59] 38 (0, 0)) (zq BK435.out) NB435_434.out (by simp)) (Kd.R_mono (Kd.R_keep (IsS94.apart (show IsS94 w _ gb434 l0 t449 t450 from IsS94.q2 HI434.out NB434_433.out NB434_435.out) (kqR HO448.out) (by decide)) hk (fun _ h => h.2)) (fun _ h => h.1)) (Kd.R_mono (Kd.R_keep (IsS94.apart (show IsS94 w _ gb434 l0 t449 t450 from IsS94.q2 HI434.out NB434_433.out NB434_435.out) (kqR HO453.out) (by decide)) hk (fun _ h => h.2)) (fun _ h => h.1)) hb hi; clear BK433 BK435 HO448 HO453 HB HI434; obtain ⟨BK433, BK435, HO448, HO453, HB, HI434⟩ := n_; (try clear hb hk hi); obtain ⟨Ao65, co65, eo65⟩ := Kd.R_slice HO453.out; subst eo65; have hcv66 := own_string (P := Try.prog) Try.underlying22 Try.underlying5 Try.underlying9 (Kd.own_of_R HO453.out); have hcv67 := Kd.C_string (P := Try.prog) (A := A0) (c := c0) Try.underlying22 Try.underlying5 Try.underlying9 (Kd.C_below HR0.out HB.out); have hnb68 := NB433_434.out; have hnc68 := NB434_433.out; have hcz69_0 : w64.cell? ⟨gb433, 0, none⟩ = some (.int .i64 0) := (blk_cell BK433.out 0).trans rfl; have hcz69_1 : w64.cell? ⟨gb433, 1, none⟩ = some (.int .i64 0) := (blk_cell BK433.out 1).trans rfl; have hcz69_2 : w64.cell? ⟨gb433, 2, none⟩ = some (.int .i64 0) := (blk_cell BK433.out 2).trans rfl; have hcz69_3 : w64.cell? ⟨gb433, 3, none⟩ = some (.slice none 0 0) := (blk_cell BK433.out 3).trans rfl; have hfz69_0 := blk_frozen BK433.out 0; have hfz69_1 := blk_frozen BK433.out 1; have hfz69_2 := blk_frozen BK433.out 2; have hfz69_3 := blk_frozen BK433.out 3) | ((with_reducible refine gate_store (t := 38) (p := 2) rfl ?_); refine store_event (t := 38) (p := 2) (v := ?vo_w70) (w1 := ((((w64.setCell ⟨gb433, 0, none⟩ (.int .i64 0)).setCell ⟨gb433, 1, none⟩ (.int .i64 0)).setCell ⟨gb433, 2, none⟩ (.int .i64 0)).setCell ⟨gb433, 3, none⟩ (.slice none 0 0))) ?hg ?ho ?hn ?hr ?_; (case ho => rfl); (case hg => rfl); (case hn => rfl); (case hr => exact gs); intro w70 hw; have n0_ : Aside0 (Kd.R (Kd.int .u8) 5 w70 w.heap.size (fun k_ => some k_ ≠ (.slice Ao65 t451.length co65 : Value).ownBlock) (.slice Ao59 t446.length co59) t446) := ⟨(by rw [hw]; exact (by (with_reducible repeat (first | apply Kd.R_alloc | apply Kd.R_drewN | apply Kd.R_drew)); exact Kd.R_mono (Kd.R_far (p := ⟨gb433, 3, none⟩) (Kd.R_far (p := ⟨gb433, 2, none⟩) (Kd.R_far (p := ⟨gb433, 1, none⟩) (Kd.R_far (p := ⟨gb433, 0, none⟩) (Kd.R_types HO448.out BK433.out (by decide)) (fun _ hk => hk.2) (.int .i64 0)) (fun _ hk => hk.2) (.int .i64 0)) (fun _ hk => hk.2) (.int .i64 0)) (fun _ hk => hk.2) (.slice none 0 0)) (fun _ hk => hk.1.2)))⟩; have n1_ : Aside0 (Kd.R (Kd.int .u8) 5 w70 w.heap.size (fun k_ => some k_ ≠ (.slice Ao59 t446.length co59 : Value).ownBlock) (.slice Ao65 t451.length co65) t451) := ⟨(by rw [hw]; exact (by (with_reducible repeat (first | apply Kd.R_alloc | apply Kd.R_drewN | apply Kd.R_drew)); exact Kd.R_mono (Kd.R_far (p := ⟨gb433, 3, none⟩) (Kd.R_far (p := ⟨gb433, 2, none⟩) (Kd.R_far (p := ⟨gb433, 1, none⟩) (Kd.R_far (p := ⟨gb433, 0, none⟩) (Kd.R_types HO453.out BK433.out (by decide)) (fun _ hk => hk.2) (.int .i64 0)) (fun _ hk => hk.2) (.int .i64 0)) (fun _ hk => hk.2) (.int .i64 0)) (fun _ hk => hk.2) (.slice none 0 0)) (fun _ hk => hk.1.2)))⟩; have n2_ : Aside0 (w70.heap[gb433]? = some (.cells #[.int .i64 0, .int .i64 0, .int .i64 0, .slice none 0 0] 38 (0, 0))) := ⟨(by rw [hw]; exact (by (with_reducible repeat (first | refine blk_drewN ?_ _ | refine blk_drew ?_ | refine blk_alloc ?_ _)); refine blk_put (cs := #[.int .i64 0, .int .i64 0, .int .i64 0, .slice none 0 0]) ?_ 3 _ rfl; (with_reducible repeat (first | refine blk_drewN ?_ _ | refine blk_drew ?_ | refine blk_alloc ?_ _)); refine blk_put (cs := #[.int .i64 0, .int .i64 0, .int .i64 0, .slice none 0 0]) ?_ 2 _ rfl; (with_reducible repeat (first | refine blk_drewN ?_ _ | refine blk_drew ?_ | refine blk_alloc ?_ _)); refine blk_put (cs := #[.int .i64 0, .int .i64 0, .int .i64 0, .slice none 0 0]) ?_ 1 _ rfl; (with_reducible repeat (first | refine blk_drewN ?_ _ | refine blk_drew ?_ | refine blk_alloc ?_ _)); refine blk_put (cs := #[.int .i64 0, .int .i64 0, .int .i64 0, .slice none 0 0]) ?_ 0 _ rfl; (with_reducible repeat (first | refine blk_drewN ?_ _ | refine blk_drew ?_ | refine blk_alloc ?_ _)); exact BK433.out))⟩; have n3_ : Aside0 (w70.heap[gb435]? = some (.cells #[.int .i64 t436, .int .i64 t439, .int .i64 x436002_19, .slice Ao59 t446.length co59] 38 (0, 0))) := ⟨(by rw [hw]; exact (by (with_reducible repeat (first | refine blk_drewN ?_ _ | refine blk_drew ?_ | refine blk_alloc ?_ _)); refine blk_far ?_ NB435_433.out _; (with_reducible repeat (first | refine blk_drewN ?_ _ | refine blk_drew ?_ | refine blk_alloc ?_ _)); refine blk_far ?_ NB435_433.out _; (with_reducible repeat (first | refine blk_drewN ?_ _ | refine blk_drew ?_ | refine blk_alloc ?_ _)); refine blk_far ?_ NB435_433.out _; (with_reducible repeat (first | refine blk_drewN ?_ _ | refine blk_drew ?_ | refine blk_alloc ?_ _)); refine blk_far ?_ NB435_433.out _; (with_reducible repeat (first | refine blk_drewN ?_ _ | refine blk_drew ?_ | refine blk_alloc ?_ _)); exact BK435.out))⟩; have n4_ : Aside0 (IsS94 w w70 gb434 l0 t455 t456) := ⟨(by rw [hw]; exact (IsS94.q2 HI434.out NB434_433.out NB434_435.out))⟩; have n5_ : Aside0 (Below w.heap.size w w70) := ⟨(by rw [hw]; exact (bq3 HB.out (IsS94.ge HI434.out) GE433.out GE435.out))⟩; clear hw; clear HO448; clear HO453; clear BK433; clear BK435; clear HI434; clear HB; have HO448 := n0_; have HO453 := n1_; have BK433 := n2_; have BK435 := n3_; have HI434 := n4_; have HB := n5_; clear n0_ n1_ n2_ n3_ n4_ n5_))
       refine bodyPost_ret (results_ct rfl _ _ gb433 38 #[.int .i64 0, .int .i64 0, .int .i64 0, .slice none 0 0] (0, 0) _ rfl (zq BK433.out) Try.underlying38 rfl (by kernel_rfl)) rfl ?_
       exact ⟨_, rq, by first | exact Kd.R_nil _ _ _ _ _ | exact Kd.N_nil _ _ _ _ _ | exact Kd.V_nil _ _ _ _ _ | exact Kd.Q_nil _ _ _ _ _ | exact Kd.S_nil _ _ _ _ _, bq3 HB.out (IsS94.ge HI434.out) GE433.out GE435.out⟩
     replace c30 := Bool.eq_false_iff.mpr c30
     subst c30
     have H1 : (some (0, 0, 0, ([] : List Int), false)) = some (r1, r2, r3, r4, r5) := by rw [if_neg (show ¬ (false = true) by decide)] at H; exact H
     clear H
     have H := H1
     clear H1
     simp only [Option.some.injEq, Prod.mk.injEq] at H
     obtain ⟨rfl, rfl, rfl, rfl, rfl⟩ := H
     go_wp2_with (first | ((with_reducible refine gate_callee (f := 81) rfl ?_); refine goesL_ (some 44) rfl rfl Try.func81 (by kernel_rfl) rfl #[.pointer (some ⟨gb434, 0, none⟩), .int .i64 3] rfl ga ?_; (with_reducible refine (impl_parts_part.calls kj19 gb434 l0 x435001_19 x435002_19 3 t446 t449 t450 w _ ?side1 ?side2 A27.out).mono ?_); (case side1 => exact IsS94.q2 HI434.out NB434_433.out NB434_435.out); (case side2 => exact bq3 HB.out (IsS94.ge HI434.out) GE433.out GE435.out); rintro e w71 ⟨v447, rfl, ho0, hi, hb, hk⟩; refine ⟨_, rfl, ?_⟩; have n_ := ak5 (KeepBut.blk hk (g' := gb433) (o := .cells #[.int .i64 0, .int .i64 0, .int .i64 0, .slice none 0 0] 38 (0, 0)) (zq BK433.out) NB433_434.out (by simp)) (KeepBut.blk hk (g' := gb435) (o := .cells #[.int .i64 t436, .int .i64 t439, .int .i64 x436002_19, .slice none 0 0] 38 (0, 0)) (zq BK435.out) NB435_434.out (by simp)) (Kd.R_lower ho0 (below_size (bq3 HB.out (IsS94.ge HI434.out) GE433.out GE435.out))) hb hi; clear BK433 BK435 HB HI434; obtain ⟨BK433, BK435, HO448, HB, HI434⟩ := n_; (try clear hb hk hi ho0); obtain ⟨Ao72, co72, eo72⟩ := Kd.R_slice HO448.out; subst eo72; have hnb73 := NB435_433.out; have hnc73 := NB433_435.out; have hnb74 := NB435_434.out; have hnc74 := NB434_435.out; have hcz75_0 : w71.cell? ⟨gb435, 0, none⟩ = some (.int .i64 t436) := (blk_cell BK435.out 0).trans rfl; have hcz75_1 : w71.cell? ⟨gb435, 1, none⟩ = some (.int .i64 t439) := (blk_cell BK435.out 1).trans rfl; have hcz75_2 : w71.cell? ⟨gb435, 2, none⟩ = some (.int .i64 x436002_19) := (blk_cell BK435.out 2).trans rfl; have hcz75_3 : w71.cell? ⟨gb435, 3, none⟩ = some (.slice none 0 0) := (blk_cell BK435.out 3).trans rfl; have hfz75_0 := blk_frozen BK435.out 0; have hfz75_1 := blk_frozen BK435.out 1; have hfz75_2 := blk_frozen BK435.out 2; have hfz75_3 := blk_frozen BK435.out 3) | ((with_reducible refine gate_callee (f := 25) rfl ?_); refine goesL_ (some 47) rfl rfl Try.func25 (by kernel_rfl) rfl #[.agg #[.int .i64 t436, .int .i64 t439, .int .i64 x436002_19, .slice Ao72 t446.length co72]] rfl ga ?_; (with_reducible refine (impl_PutFrame.calls kj19 t436 t439 x436002_19 _ _ t446 t451 _ ?side1 ?side2 A28.out).mono ?_); (case side1 => refine (Kd.R_reads' (e := 5) (base := w.heap.size) (ok := fun k_ => True) (n := t446.length) (c := co72) ?_).2.2; exact (by (with_reducible repeat (first | apply Kd.R_alloc | apply Kd.R_drewN | apply Kd.R_drew)); exact (Kd.R_mono (Kd.R_far (p := ⟨gb435, 3, none⟩) (Kd.R_types HO448.out BK435.out (by decide)) (fun _ hk => hk.2) (.slice Ao72 t446.length co72)) (fun _ h_ => h_.1)))); (case side2 => exact (Kd.R_reads' HO448.out).2.1); rintro e w76 ⟨v452, rfl, ho0, hb⟩; refine ⟨_, rfl, ?_⟩; have n_ := ak6 (Kd.R_elder' (by (with_reducible repeat (first | apply Kd.R_alloc | apply Kd.R_drewN | apply Kd.R_drew)); exact (Kd.R_mono (Kd.R_far (p := ⟨gb435, 3, none⟩) (Kd.R_types HO448.out BK435.out (by decide)) (fun _ hk => hk.2) (.slice Ao72 t446.length co72)) (fun _ h_ => h_.1))) (Kd.R_base ho0) hb) (Kd.R_lower (Kd.R_new' ho0 (Kd.R_lt (by (with_reducible repeat (first | apply Kd.R_alloc | apply Kd.R_drewN | apply Kd.R_drew)); exact (Kd.R_mono (Kd.R_far (p := ⟨gb435, 3, none⟩) (Kd.R_types HO448.out BK435.out (by decide)) (fun _ hk => hk.2) (.slice Ao72 t446.length co72)) (fun _ h_ => h_.1))))) (below_size (bq3 HB.out (IsS94.ge HI434.out) GE433.out GE435.out))) (blk_below (g := gb433) (o := .cells #[.int .i64 0, .int .i64 0, .int .i64 0, .slice none 0 0] 38 (0, 0)) (by (with_reducible repeat (first | refine blk_drewN ?_ _ | refine blk_drew ?_ | refine blk_alloc ?_ _)); refine blk_far ?_ NB433_435.out _; (with_reducible repeat (first | refine blk_drewN ?_ _ | refine blk_drew ?_ | refine blk_alloc ?_ _)); exact BK433.out) hb) (blk_below (g := gb435) (o := .cells #[.int .i64 t436, .int .i64 t439, .int .i64 x436002_19, .slice Ao72 t446.length co72] 38 (0, 0)) (by (with_reducible repeat (first | refine blk_drewN ?_ _ | refine blk_drew ?_ | refine blk_alloc ?_ _)); refine blk_put (cs := #[.int .i64 t436, .int .i64 t439, .int .i64 x436002_19, .slice none 0 0]) ?_ 3 _ rfl; (with_reducible repeat (first | refine blk_drewN ?_ _ | refine blk_drew ?_ | refine blk_alloc ?_ _)); exact BK435.out) hb) (IsS94.below (show IsS94 w (w71.setCell ⟨gb435, 3, none⟩ (.slice Ao72 t446.length co72)) gb434 l0 t449 t450 from IsS94.q2 HI434.out NB434_433.out NB434_435.out) hb) (below_step (bq3 HB.out (IsS94.ge HI434.out) GE433.out GE435.out) hb); clear HO448 BK433 BK435 HI434 HB; obtain ⟨HO448, HO453, BK433, BK435, HI434, HB⟩ := n_; (try clear hb ho0)) | ((with_reducible refine gate_callee (f := 82) rfl ?_); refine goesL_ (some 49) rfl rfl Try.func82 (by kernel_rfl) rfl #[.pointer (some ⟨gb434, 0, none⟩)] rfl ga ?_; (with_reducible refine (impl_parts_done.calls gb434 l0 t449 t450 false t455 t456 w _ ?side1 ?side2 A29.out).mono ?_); (case side1 => exact IsS94.q2 HI434.out NB434_433.out NB434_435.out); (case side2 => exact bq3 HB.out (IsS94.ge HI434.out) GE433.out GE435.out); rintro e w77 ⟨rfl, hi, hb, hk⟩; refine ⟨_, rfl, ?_⟩; have n_ := ak6 (KeepBut.blk hk (g' := gb433) (o := .cells #[.int .i64 0, .int .i64 0, .int .i64 0, .slice none 0 0] 38 (0, 0)) (zq BK433.out) NB433_434.out (by simp)) (KeepBut.blk hk (g' := gb435) (o := .cells #[.int .i64 t436, .int .i64 t439, .int .i64 x436002_19, .slice Ao72 t446.length co72] 38 (0, 0)) (zq BK435.out) NB435_434.out (by simp)) (Kd.R_mono (Kd.R_keep (IsS94.apart (show IsS94 w _ gb434 l0 t449 t450 from IsS94.q2 HI434.out NB434_433.out NB434_435.out) (kqR HO448.out) (by decide)) hk (fun _ h => h.2)) (fun _ h => h.1)) (Kd.R_mono (Kd.R_keep (IsS94.apart (show IsS94 w _ gb434 l0 t449 t450 from IsS94.q2 HI434.out NB434_433.out NB434_435.out) (kqR HO453.out) (by decide)) hk (fun _ h => h.2)) (fun _ h => h.1)) hb hi; clear BK433 BK435 HO448 HO453 HB HI434; obtain ⟨BK433, BK435, HO448, HO453, HB, HI434⟩ := n_; (try clear hb hk hi); have hnb78 := NB433_434.out; have hnc78 := NB434_433.out; have hcz79_0 : w77.cell? ⟨gb433, 0, none⟩ = some (.int .i64 0) := (blk_cell BK433.out 0).trans rfl; have hcz79_1 : w77.cell? ⟨gb433, 1, none⟩ = some (.int .i64 0) := (blk_cell BK433.out 1).trans rfl; have hcz79_2 : w77.cell? ⟨gb433, 2, none⟩ = some (.int .i64 0) := (blk_cell BK433.out 2).trans rfl; have hcz79_3 : w77.cell? ⟨gb433, 3, none⟩ = some (.slice none 0 0) := (blk_cell BK433.out 3).trans rfl; have hfz79_0 := blk_frozen BK433.out 0; have hfz79_1 := blk_frozen BK433.out 1; have hfz79_2 := blk_frozen BK433.out 2; have hfz79_3 := blk_frozen BK433.out 3) | ((with_reducible refine gate_store (t := 38) (p := 2) rfl ?_); refine store_event (t := 38) (p := 2) (v := ?vo_w80) (w1 := ((((w77.setCell ⟨gb433, 0, none⟩ (.int .i64 0)).setCell ⟨gb433, 1, none⟩ (.int .i64 0)).setCell ⟨gb433, 2, none⟩ (.int .i64 0)).setCell ⟨gb433, 3, none⟩ (.slice none 0 0))) ?hg ?ho ?hn ?hr ?_; (case ho => rfl); (case hg => rfl); (case hn => rfl); (case hr => exact gs); intro w80 hw; have n0_ : Aside0 (Kd.R (Kd.int .u8) 5 w80 w.heap.size (fun k_ => some k_ ≠ (v452 : Value).ownBlock) (.slice Ao72 t446.length co72) t446) := ⟨(by rw [hw]; exact (by (with_reducible repeat (first | apply Kd.R_alloc | apply Kd.R_drewN | apply Kd.R_drew)); exact Kd.R_mono (Kd.R_far (p := ⟨gb433, 3, none⟩) (Kd.R_far (p := ⟨gb433, 2, none⟩) (Kd.R_far (p := ⟨gb433, 1, none⟩) (Kd.R_far (p := ⟨gb433, 0, none⟩) (Kd.R_types HO448.out BK433.out (by decide)) (fun _ hk => hk.2) (.int .i64 0)) (fun _ hk => hk.2) (.int .i64 0)) (fun _ hk => hk.2) (.int .i64 0)) (fun _ hk => hk.2) (.slice none 0 0)) (fun _ hk => hk.1.2)))⟩; have n1_ : Aside0 (Kd.R (Kd.int .u8) 5 w80 w.heap.size (fun k_ => some k_ ≠ (.slice Ao72 t446.length co72 : Value).ownBlock) v452 t451) := ⟨(by rw [hw]; exact (by (with_reducible repeat (first | apply Kd.R_alloc | apply Kd.R_drewN | apply Kd.R_drew)); exact Kd.R_mono (Kd.R_far (p := ⟨gb433, 3, none⟩) (Kd.R_far (p := ⟨gb433, 2, none⟩) (Kd.R_far (p := ⟨gb433, 1, none⟩) (Kd.R_far (p := ⟨gb433, 0, none⟩) (Kd.R_types HO453.out BK433.out (by decide)) (fun _ hk => hk.2) (.int .i64 0)) (fun _ hk => hk.2) (.int .i64 0)) (fun _ hk => hk.2) (.int .i64 0)) (fun _ hk => hk.2) (.slice none 0 0)) (fun _ hk => hk.1.2)))⟩; have n2_ : Aside0 (w80.heap[gb433]? = some (.cells #[.int .i64 0, .int .i64 0, .int .i64 0, .slice none 0 0] 38 (0, 0))) := ⟨(by rw [hw]; exact (by (with_reducible repeat (first | refine blk_drewN ?_ _ | refine blk_drew ?_ | refine blk_alloc ?_ _)); refine blk_put (cs := #[.int .i64 0, .int .i64 0, .int .i64 0, .slice none 0 0]) ?_ 3 _ rfl; (with_reducible repeat (first | refine blk_drewN ?_ _ | refine blk_drew ?_ | refine blk_alloc ?_ _)); refine blk_put (cs := #[.int .i64 0, .int .i64 0, .int .i64 0, .slice none 0 0]) ?_ 2 _ rfl; (with_reducible repeat (first | refine blk_drewN ?_ _ | refine blk_drew ?_ | refine blk_alloc ?_ _)); refine blk_put (cs := #[.int .i64 0, .int .i64 0, .int .i64 0, .slice none 0 0]) ?_ 1 _ rfl; (with_reducible repeat (first | refine blk_drewN ?_ _ | refine blk_drew ?_ | refine blk_alloc ?_ _)); refine blk_put (cs := #[.int .i64 0, .int .i64 0, .int .i64 0, .slice none 0 0]) ?_ 0 _ rfl; (with_reducible repeat (first | refine blk_drewN ?_ _ | refine blk_drew ?_ | refine blk_alloc ?_ _)); exact BK433.out))⟩; have n3_ : Aside0 (w80.heap[gb435]? = some (.cells #[.int .i64 t436, .int .i64 t439, .int .i64 x436002_19, .slice Ao72 t446.length co72] 38 (0, 0))) := ⟨(by rw [hw]; exact (by (with_reducible repeat (first | refine blk_drewN ?_ _ | refine blk_drew ?_ | refine blk_alloc ?_ _)); refine blk_far ?_ NB435_433.out _; (with_reducible repeat (first | refine blk_drewN ?_ _ | refine blk_drew ?_ | refine blk_alloc ?_ _)); refine blk_far ?_ NB435_433.out _; (with_reducible repeat (first | refine blk_drewN ?_ _ | refine blk_drew ?_ | refine blk_alloc ?_ _)); refine blk_far ?_ NB435_433.out _; (with_reducible repeat (first | refine blk_drewN ?_ _ | refine blk_drew ?_ | refine blk_alloc ?_ _)); refine blk_far ?_ NB435_433.out _; (with_reducible repeat (first | refine blk_drewN ?_ _ | refine blk_drew ?_ | refine blk_alloc ?_ _)); exact BK435.out))⟩; have n4_ : Aside0 (IsS94 w w80 gb434 l0 t455 t456) := ⟨(by rw [hw]; exact (IsS94.q2 HI434.out NB434_433.out NB434_435.out))⟩; have n5_ : Aside0 (Below w.heap.size w w80) := ⟨(by rw [hw]; exact (bq3 HB.out (IsS94.ge HI434.out) GE433.out GE435.out))⟩; clear hw; clear HO448; clear HO453; clear BK433; clear BK435; clear HI434; clear HB; have HO448 := n0_; have HO453 := n1_; have BK433 := n2_; have BK435 := n3_; have HI434 := n4_; have HB := n5_; clear n0_ n1_ n2_ n3_ n4_ n5_))
     refine bodyPost_ret (results_ct rfl _ _ gb433 38 #[.int .i64 0, .int .i64 0, .int .i64 0, .slice none 0 0] (0, 0) _ rfl (zq BK433.out) Try.underlying38 rfl (by kernel_rfl)) rfl ?_
     exact ⟨_, rq, by first | exact Kd.R_nil _ _ _ _ _ | exact Kd.N_nil _ _ _ _ _ | exact Kd.V_nil _ _ _ _ _ | exact Kd.Q_nil _ _ _ _ _ | exact Kd.S_nil _ _ _ _ _, bq3 HB.out (IsS94.ge HI434.out) GE433.out GE435.out⟩

end Go.Proofs.Ythhnfmbfgplelaa.XFnFrames
