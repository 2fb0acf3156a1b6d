/- The functions that one law reaches, as Lean functions, with their walks: printed by a program of this seat (wip/tools) out of the translation. -/
import Derived.Test.YthhnfmbfgplelaaXFnValsx0
import Derived.Test.YthhnfmbfgplelaaXFnValsx1
import Derived.Test.YthhnfmbfgplelaaXFnValsx2
import Derived.Test.YthhnfmbfgplelaaXFnValsx7
namespace Go.Proofs.Ythhnfmbfgplelaa.XFnVals
open Go.RowKit Go.Proofs.YthhnfmbfgplelaaW.PrintWords Go.Proofs.YthhnfmbfgplelaaW.PrintLast Go.Proofs.YthhnfmbfgplelaaW.PrintMore
attribute [local go_sem] max2_int min2_int max_two min_two max_three min_three max_four min_four   -- for this text's walks alone
set_option linter.unusedVariables false
set_option linter.unusedSimpArgs false
set_option maxHeartbeats 8000000
set_option maxRecDepth 100000
def impl_GetInt.l0 : Nat → List Int → Int → List Int → Int → Int → Option (Int × Bool)
 | 0, _, _, _, _, _ => none
 | k + 1, x0, x4, x17, x18, x19 => if x19 < x18 then (if 0 ≤ x19 then (if x19 < (x17.length : Int) then (impl_GetInt.l0 k x0 (Go.bits .or .i64 (wrap64 (x4 * 256)) (wrap64 (rd x17 x19))) x17 x18 (wrap64 (x19 + 1))) else (none)) else (none)) else ((impl_PutInt.f k x4).bind fun t328 => (if (t328.length : Int) = (x0.length : Int) then (some (x4, true)) else (some (0, false))))
def impl_GetInt.f (k : Nat) (l0 : List Int) : Option (Int × Bool) := (impl_in.f (l0.length : Int) 1 4).bind fun t324 => (if t324 = true then (if 0 < (l0.length : Int) then (if 1 ≤ (l0.length : Int) then (impl_GetInt.l0 k l0 (wrap64 (IntKind.i8.wrap (rd l0 0))) (l0.drop 1) ((l0.drop 1).length : Int) 0) else (none)) else (none)) else (some (0, false)))
theorem impl_GetInt.mono_l : ∀ k, (∀ y0 y1 y2 y3 y4, LeO (impl_GetInt.l0 k y0 y1 y2 y3 y4) (impl_GetInt.l0 (k + 1) y0 y1 y2 y3 y4))
 | 0 => fun _ _ _ _ _ r h => by simp [impl_GetInt.l0] at h
 | k + 1 => by
  have ih0 := impl_GetInt.mono_l k
  intro y0 y1 y2 y3 y4
  unfold impl_GetInt.l0
  repeat' first
  | (with_reducible exact ih0 _ _ _ _ _)
  | (with_reducible exact impl_PutInt.mono _ _)
  | (with_reducible exact LeO.refl _)
  | (with_reducible exact LeO.none _)
  | (with_reducible refine LeO.ite ?_ ?_)
  | (with_reducible refine LeO.bind ?_ (fun _ => ?_))
  | exact ih0 _ _ _ _ _
  | exact impl_PutInt.mono _ _
  | exact LeO.none _
  | refine LeO.ite ?_ ?_
  | refine LeO.bind ?_ (fun _ => ?_)
theorem impl_GetInt.mono : ∀ a0 k, LeO (impl_GetInt.f k a0) (impl_GetInt.f (k + 1) a0) := by
 intro a0 k
 have ih0 := impl_GetInt.mono_l k
 unfold impl_GetInt.f
 repeat' first
  | (with_reducible exact ih0 _ _ _ _ _)
  | (with_reducible exact impl_PutInt.mono _ _)
  | (with_reducible exact LeO.refl _)
  | (with_reducible exact LeO.none _)
  | (with_reducible refine LeO.ite ?_ ?_)
  | (with_reducible refine LeO.bind ?_ (fun _ => ?_))
  | exact ih0 _ _ _ _ _
  | exact impl_PutInt.mono _ _
  | exact LeO.none _
  | refine LeO.ite ?_ ?_
  | refine LeO.bind ?_ (fun _ => ?_)
theorem impl_GetInt.calls (k : Nat) (A0 : Option Addr) (c0 : Nat) (l0 : List Int) (r1 : Int) (r2 : Bool) (w : World) (hr0 : Kd.C (Kd.int .u8) w A0 l0.length l0) (hc0 : l0.length ≤ c0) (h : impl_GetInt.f k l0 = some (r1, r2)) :
 Calls Try.prog 92 #[.slice A0 l0.length c0] w fun e w' => e = .returned (.tuple #[.int .i64 r1, .bool r2]) ∧ Below w.heap.size w w' := by
 have HR0 := am hr0
 have HC0 := am hc0
 clear hr0 hc0
 have HB := am (Below.refl w.heap.size w)
 have H : ((impl_in.f (l0.length : Int) 1 4).bind fun t324 => (if t324 = true then (if 0 < (l0.length : Int) then (if 1 ≤ (l0.length : Int) then (impl_GetInt.l0 k l0 (wrap64 (IntKind.i8.wrap (rd l0 0))) (l0.drop 1) ((l0.drop 1).length : Int) 0) else (none)) else (none)) else (some (0, false)))) = some (r1, r2) := h
 clear h
 replace H := Option.bind_eq_some_iff.mp H
 obtain ⟨t324, A20, H⟩ := H
 replace H : (if t324 = true then (if 0 < (l0.length : Int) then (if 1 ≤ (l0.length : Int) then (impl_GetInt.l0 k l0 (wrap64 (IntKind.i8.wrap (rd l0 0))) (l0.drop 1) ((l0.drop 1).length : Int) 0) else (none)) else (none)) else (some (0, false))) = some (r1, r2) := H
 have A2 := am A20
 clear A20
 by_cases c3 : t324 = true
 rotate_left
 · replace c3 := Bool.eq_false_iff.mpr c3
   subst c3
   replace H : (some (0, false)) = some (r1, r2) := by rw [if_neg (show ¬ (false = true) by decide)] at H; exact H
   simp only [Option.some.injEq, Prod.mk.injEq] at H
   obtain ⟨rfl, rfl⟩ := H
   go_enter Try.func92, Try.ntmps92
   go_wp2_with (first | ((with_reducible refine gate_callee (f := 87) rfl ?_); refine goesL_ (some 9) rfl rfl Try.func87 (by kernel_rfl) rfl #[.int .i64 (l0.length : Int), .int .i64 1, .int .i64 4] rfl ga ?_; (with_reducible refine (impl_in.calls (l0.length : Int) 1 4 false _ A2.out).mono ?_); rintro e w' ⟨rfl, ⟨nd, rfl⟩⟩; refine ⟨_, rfl, ?_⟩))
   go_ret2
   exact ⟨rq, bq HB.out⟩
 subst c3
 replace H : (if 0 < (l0.length : Int) then (if 1 ≤ (l0.length : Int) then (impl_GetInt.l0 k l0 (wrap64 (IntKind.i8.wrap (rd l0 0))) (l0.drop 1) ((l0.drop 1).length : Int) 0) else (none)) else (none)) = some (r1, r2) := by rw [if_pos rfl] at H; exact H
 by_cases c4 : 0 < (l0.length : Int)
 rotate_left
 · rw [if_neg c4] at H
   exact absurd H (by simp)
 rw [if_pos c4] at H
 have c4b0 : decide (0 < (l0.length : Int)) = true := decide_eq_true c4
 have c4b1 : decide (0 < l0.length) = true := decide_eq_true (by omega)
 clear c4
 by_cases c5 : 1 ≤ (l0.length : Int)
 rotate_left
 · rw [if_neg c5] at H
   exact absurd H (by simp)
 rw [if_pos c5] at H
 have c5b0 := eq_true c5
 have c5b1 : decide (1 ≤ (l0.length : Int)) = true := decide_eq_true c5
 clear c5
 have H' := am H
 clear H
 go_enter Try.func92, Try.ntmps92
 go_wp2_with (first | ((with_reducible refine gate_callee (f := 87) rfl ?_); refine goesL_ (some 9) rfl rfl Try.func87 (by kernel_rfl) rfl #[.int .i64 (l0.length : Int), .int .i64 1, .int .i64 4] rfl ga ?_; (with_reducible refine (impl_in.calls (l0.length : Int) 1 4 true _ A2.out).mono ?_); rintro e w' ⟨rfl, ⟨nd, rfl⟩⟩; refine ⟨_, rfl, ?_⟩; have p325 : 0 ≤ (0 : Int) := (by omega); have q325 : 0 < (l0.length : Int) := oda; obtain ⟨ad325, e325, hx325_0⟩ := Kd.at_int HR0.out 0 p325 q325; cases e325; have qi325 : (0 < l0.length) = True := eq_true (by omega); (try rw [show ((0 : Int)).toNat = 0 from rfl] at hx325_0); (try rw [Addr.add_zero'] at hx325_0); replace p325 := eq_true p325; replace q325 := eq_true q325; obtain ⟨i06, hi06, _, hsz6, _⟩ := info_parts info5; obtain ⟨A6, hcut6, hA6, hC6⟩ := print_drop_of (P := Try.prog) (Value.int .u8) 0 22 5 .i64 Try.underlying22 hi06 hsz6 (some ad325) c0 l0 1 (by omega) (oda) HC0.out; have HR326 := am (Kd.C_of_reads (h1 := fun _ => rfl) (hA6 _ (Kd.reads_of_C HR0.out))); have HC326 := am hC6; clear hA6 hC6 hi06 hsz6))
 go_loopg [4, 19] k (fun kq v4 v19 w' => ∃ (x4_1 : Int) (x19_1 : Int), v4 = .int .i64 x4_1 ∧ v19 = .int .i64 x19_1 ∧ Aside0 (impl_GetInt.l0 kq l0 x4_1 (l0.drop 1) ((l0.drop 1).length : Int) x19_1 = some (r1, r2)) ∧ Aside0 (kq ≤ k) ∧ Aside0 (Below w.heap.size w w'))
 case atStart => exact ⟨(wrap64 (IntKind.i8.wrap (rd l0 0))), (0), sq, sq, H', ⟨Nat.le_refl _⟩, ⟨bq HB.out⟩⟩
 case round =>
  clear H'
  try clear p2
  try clear c3
  try clear p3
  try clear q3
  try clear hx3
  try clear qi3
  try clear c4
  try clear c4b0
  try clear c4b1
  try clear c5
  try clear c5b0
  try clear c5b1
  try clear p6
  try clear hx325_0
  try clear p325
  try clear q325
  obtain ⟨x4_1, x19_1, rfl, rfl, HA, HK1, HB⟩ := hrel
  cases gk with
  | zero => exact absurd HA.out (by simp [impl_GetInt.l0])
  | succ k1 =>
   have H := HA.out
   clear HA
   simp only [impl_GetInt.l0] at H
   by_cases c7 : x19_1 < ((l0.drop 1).length : Int)
   · rw [if_pos c7] at H
     have c7b0 : decide (x19_1 < ((l0.drop 1).length : Int)) = true := decide_eq_true c7
     have c7b0z : decide (x19_1 < ((l0.length - 1 : Nat) : Int)) = true := by have h_ := c7b0; rw [List.length_drop] at h_; exact h_
     clear c7
     by_cases c8 : 0 ≤ x19_1
     rotate_left
     · rw [if_neg c8] at H
       exact absurd H (by simp)
     rw [if_pos c8] at H
     have c8b0 : decide (0 ≤ x19_1) = true := decide_eq_true c8
     clear c8
     by_cases c9 : x19_1 < ((l0.drop 1).length : Int)
     rotate_left
     · rw [if_neg c9] at H
       exact absurd H (by simp)
     rw [if_pos c9] at H
     have c9b0 : decide (x19_1 < ((l0.drop 1).length : Int)) = true := decide_eq_true c9
     have c9b0z : decide (x19_1 < ((l0.length - 1 : Nat) : Int)) = true := by have h_ := c9b0; rw [List.length_drop] at h_; exact h_
     clear c9
     have H' := am H
     clear H
     have p327 : 0 ≤ (x19_1 : Int) := oda
     have q327 : x19_1 < ((l0.drop 1).length : Int) := oda
     obtain ⟨ad327, e327, hx327_0⟩ := Kd.at_int HR326.out x19_1 p327 q327
     cases e327
     replace hx327_0 := (HB.out.cell (World.block_lt_of_cell? w _ hx327_0)).trans hx327_0
     replace p327 := eq_true p327
     replace q327 := eq_true q327
     have q327z : (x19_1 < ((l0.length - 1 : Nat) : Int)) = True := by have h_ := of_eq_true q327; rw [List.length_drop] at h_; exact eq_true h_
     go_wp2
     go_roundg k1
     case measure => have := HK1.out; omega
     case rel => exact ⟨(Go.bits .or .i64 (wrap64 (x4_1 * 256)) (wrap64 (rd (l0.drop 1) x19_1))), (wrap64 (x19_1 + 1)), sq, sq, H', ⟨by have := HK1.out; omega⟩, ⟨bq HB.out⟩⟩
   rw [if_neg c7] at H
   have c7b0 : decide (x19_1 < ((l0.drop 1).length : Int)) = false := decide_eq_false c7
   have c7b0z : decide (x19_1 < ((l0.length - 1 : Nat) : Int)) = false := by have h_ := c7b0; rw [List.length_drop] at h_; exact h_
   clear c7
   replace H := Option.bind_eq_some_iff.mp H
   obtain ⟨t328, A100, H⟩ := H
   replace H : (if (t328.length : Int) = (l0.length : Int) then (some (x4_1, true)) else (some (0, false))) = some (r1, r2) := H
   have A10 := am A100
   clear A100
   by_cases c11 : (t328.length : Int) = (l0.length : Int)
   rotate_left
   · rw [if_neg c11] at H
     have c11b0 : ((t328.length : Int) == (l0.length : Int)) = false := beq_eq_false_iff_ne.mpr c11
     have c11b1 : ((t328.length : Int) != (l0.length : Int)) = true := bne_iff_ne.mpr c11
     have c11b2 : (t328.length == l0.length) = false := by first | simpa using c11 | (simp at c11 ⊢; omega)
     simp only [Option.some.injEq, Prod.mk.injEq] at H
     obtain ⟨rfl, rfl⟩ := H
     go_wp2_with (first | ((with_reducible refine gate_callee (f := 69) rfl ?_); refine goesL_ (some 30) rfl rfl Try.func69 (by kernel_rfl) rfl #[.int .i64 x4_1] rfl ga ?_; (with_reducible refine (impl_PutInt.calls k1 x4_1 t328 _ A10.out).mono ?_); rintro e w14 ⟨v329, rfl, ho0, hb⟩; refine ⟨_, rfl, ?_⟩; have n_ := ak2 (Kd.R_lower ho0 (below_size (bq HB.out))) (below_step (bq HB.out) hb); clear HB; obtain ⟨HO330, HB⟩ := n_; (try clear hb ho0); obtain ⟨Ao15, co15, eo15⟩ := Kd.R_slice HO330.out; subst eo15))
     go_ret2
     exact ⟨rq, bq HB.out⟩
   rw [if_pos c11] at H
   have c11b0 : ((t328.length : Int) == (l0.length : Int)) = true := beq_iff_eq.mpr c11
   have c11b1 : ((t328.length : Int) != (l0.length : Int)) = false := bne_eq_false_iff_eq.mpr c11
   have c11b2 : (t328.length == l0.length) = true := by first | simpa using c11 | (simp at c11 ⊢; omega)
   clear c11
   simp only [Option.some.injEq, Prod.mk.injEq] at H
   obtain ⟨rfl, rfl⟩ := H
   go_wp2_with (first | ((with_reducible refine gate_callee (f := 69) rfl ?_); refine goesL_ (some 30) rfl rfl Try.func69 (by kernel_rfl) rfl #[.int .i64 x4_1] rfl ga ?_; (with_reducible refine (impl_PutInt.calls k1 x4_1 t328 _ A10.out).mono ?_); rintro e w12 ⟨v329, rfl, ho0, hb⟩; refine ⟨_, rfl, ?_⟩; have n_ := ak2 (Kd.R_lower ho0 (below_size (bq HB.out))) (below_step (bq HB.out) hb); clear HB; obtain ⟨HO330, HB⟩ := n_; (try clear hb ho0); obtain ⟨Ao13, co13, eo13⟩ := Kd.R_slice HO330.out; subst eo13))
   go_ret2
   exact ⟨rq, bq HB.out⟩
def impl_GetOid.l0 : Nat → List Int → List Int → Int → List Int → Int → Int → Option (List Int × Bool)
 | 0, _, _, _, _, _, _ => none
 | k + 1, x0, x4, x5, x9, x10, x11 => if x11 < x10 then (if 0 ≤ x11 then (if x11 < (x9.length : Int) then (if x11 ≥ 40 then (some (([] : List Int), false)) else (if (rd x9 x11) < 128 then (if x4.length < 17592186044416 then (impl_GetOid.l0 k x0 (x4 ++ [Go.bits .or .i64 (wrap64 ((mn x5 1048576) * 128)) (wrap64 (Go.bits .and .u8 (rd x9 x11) 127))]) 0 x9 x10 (wrap64 (x11 + 1))) else (none)) else (impl_GetOid.l0 k x0 x4 (Go.bits .or .i64 (wrap64 ((mn x5 1048576) * 128)) (wrap64 (Go.bits .and .u8 (rd x9 x11) 127))) x9 x10 (wrap64 (x11 + 1))))) else (none)) else (none)) else ((impl_PutOid.f k x4).bind fun t331 => (if (t331.length : Int) = 0 then (some (([] : List Int), false)) else (if (strOfNums t331).toList = (strOfNums x0).toList then (some (x4, true)) else (some (([] : List Int), false)))))
def impl_GetOid.f (k : Nat) (l0 : List Int) : Option (List Int × Bool) := impl_GetOid.l0 k l0 ([] : List Int) 0 l0 (l0.length : Int) 0
theorem impl_GetOid.mono_l : ∀ k, (∀ y0 y1 y2 y3 y4 y5, LeO (impl_GetOid.l0 k y0 y1 y2 y3 y4 y5) (impl_GetOid.l0 (k + 1) y0 y1 y2 y3 y4 y5))
 | 0 => fun _ _ _ _ _ _ r h => by simp [impl_GetOid.l0] at h
 | k + 1 => by
  have ih0 := impl_GetOid.mono_l k
  intro y0 y1 y2 y3 y4 y5
  unfold impl_GetOid.l0
  repeat' first
  | (with_reducible exact ih0 _ _ _ _ _ _)
  | (with_reducible exact impl_PutOid.mono _ _)
  | (with_reducible exact LeO.refl _)
  | (with_reducible exact LeO.none _)
  | (with_reducible refine LeO.ite ?_ ?_)
  | (with_reducible refine LeO.bind ?_ (fun _ => ?_))
  | exact ih0 _ _ _ _ _ _
  | exact impl_PutOid.mono _ _
  | exact LeO.none _
  | refine LeO.ite ?_ ?_
  | refine LeO.bind ?_ (fun _ => ?_)
theorem impl_GetOid.mono : ∀ a0 k, LeO (impl_GetOid.f k a0) (impl_GetOid.f (k + 1) a0) := by
 intro a0 k
 have ih0 := impl_GetOid.mono_l k
 unfold impl_GetOid.f
 repeat' first
  | (with_reducible exact ih0 _ _ _ _ _ _)
  | (with_reducible exact impl_PutOid.mono _ _)
  | (with_reducible exact LeO.refl _)
  | (with_reducible exact LeO.none _)
  | (with_reducible refine LeO.ite ?_ ?_)
  | (with_reducible refine LeO.bind ?_ (fun _ => ?_))
  | exact ih0 _ _ _ _ _ _
  | exact impl_PutOid.mono _ _
  | exact LeO.none _
  | refine LeO.ite ?_ ?_
  | refine LeO.bind ?_ (fun _ => ?_)
theorem impl_GetOid.calls (k : Nat) (A0 : Option Addr) (c0 : Nat) (l0 : List Int) (r1 : List Int) (r2 : Bool) (w : World) (hr0 : Kd.C (Kd.int .u8) w A0 l0.length l0) (hc0 : l0.length ≤ c0) (h : impl_GetOid.f k l0 = some (r1, r2)) :
 Calls Try.prog 93 #[.slice A0 l0.length c0] w fun e w' => ∃ v0_ : Value, e = .returned (.tuple #[v0_, .bool r2]) ∧ Kd.R (Kd.int .i64) 3 w' w.heap.size (fun _ => True) v0_ r1 ∧ Below w.heap.size w w' := by
 have HR0 := am hr0
 have HC0 := am hc0
 clear hr0 hc0
 have HB := am (Below.refl w.heap.size w)
 have H : (impl_GetOid.l0 k l0 ([] : List Int) 0 l0 (l0.length : Int) 0) = some (r1, r2) := h
 clear h
 have H' := am H
 clear H
 go_enter Try.func93, Try.ntmps93
 go_wp2
 go_loopg [4, 5, 11] k (fun kq v4 v5 v11 w' => ∃ (x4_1 : List Int) (x5_1 : Int) (x11_1 : Int), v5 = .int .i64 x5_1 ∧ v11 = .int .i64 x11_1 ∧ Aside0 (impl_GetOid.l0 kq l0 x4_1 x5_1 l0 (l0.length : Int) x11_1 = some (r1, r2)) ∧ Aside0 (kq ≤ k) ∧ Aside0 (Kd.R (Kd.int .i64) 3 w' w.heap.size (fun _ => True) v4 x4_1) ∧ Aside0 (Below w.heap.size w w'))
 case atStart => exact ⟨(([] : List Int)), (0), (0), sq, sq, H', ⟨Nat.le_refl _⟩, ⟨rn⟩, ⟨bq HB.out⟩⟩
 case round =>
  clear H'
  obtain ⟨x4_1, x5_1, x11_1, rfl, rfl, HA, HK1, HO_4, HB⟩ := hrel
  cases gk with
  | zero => exact absurd HA.out (by simp [impl_GetOid.l0])
  | succ k1 =>
   have H := HA.out
   clear HA
   simp only [impl_GetOid.l0] at H
   by_cases c2 : x11_1 < (l0.length : Int)
   rotate_left
   · rw [if_neg c2] at H
     have c2b0 : decide (x11_1 < (l0.length : Int)) = false := decide_eq_false c2
     clear c2
     replace H := Option.bind_eq_some_iff.mp H
     obtain ⟨t331, A100, H⟩ := H
     replace H : (if (t331.length : Int) = 0 then (some (([] : List Int), false)) else (if (strOfNums t331).toList = (strOfNums l0).toList then (some (x4_1, true)) else (some (([] : List Int), false)))) = some (r1, r2) := H
     have A10 := am A100
     clear A100
     by_cases c11 : (t331.length : Int) = 0
     · rw [if_pos c11] at H
       have c11b0 : ((t331.length : Int) == 0) = true := beq_iff_eq.mpr c11
       have c11b1 : ((t331.length : Int) != 0) = false := bne_eq_false_iff_eq.mpr c11
       clear c11
       simp only [Option.some.injEq, Prod.mk.injEq] at H
       obtain ⟨rfl, rfl⟩ := H
       obtain ⟨Ao12, co12, eo12⟩ := Kd.R_slice HO_4.out
       subst eo12
       go_wp2_with (first | ((with_reducible refine gate_callee (f := 70) rfl ?_); refine goesL_ (some 33) rfl rfl Try.func70 (by kernel_rfl) rfl #[.slice Ao12 x4_1.length co12] rfl ga ?_; (with_reducible refine (impl_PutOid.calls k1 _ _ x4_1 t331 _ ?side1 ?side2 A10.out).mono ?_); (case side1 => repeat (first | exact (Kd.R_reads' HO_4.out).2.2 | (with_reducible refine Kd.C_alloc ?_ _) | (with_reducible refine Kd.C_drewN ?_ _) | (with_reducible refine Kd.C_drew ?_))); (case side2 => exact (Kd.R_reads' HO_4.out).2.1); rintro e w13 ⟨v332, rfl, ho0, hb⟩; refine ⟨_, rfl, ?_⟩; have n_ := ak3 (Kd.R_below (kqR HO_4.out) hb) (Kd.R_lower ho0 (below_size (bq HB.out))) (below_step (bq HB.out) hb); clear HO_4 HB; obtain ⟨HO_4, HO333, HB⟩ := n_; (try clear hb ho0); obtain ⟨Ao14, co14, eo14⟩ := Kd.R_slice HO333.out; subst eo14))
       go_ret2
       exact ⟨_, rq, rn, bq HB.out⟩
     rw [if_neg c11] at H
     have c11b0 : ((t331.length : Int) == 0) = false := beq_eq_false_iff_ne.mpr c11
     have c11b1 : ((t331.length : Int) != 0) = true := bne_iff_ne.mpr c11
     have c11b2 : ¬ (t331 = []) := fun h_ => c11 (by rw [h_]; rfl)
     by_cases c15 : (strOfNums t331).toList = (strOfNums l0).toList
     rotate_left
     · rw [if_neg c15] at H
       have c15b0 : ((strOfNums t331).toList == (strOfNums l0).toList) = false := beq_eq_false_iff_ne.mpr c15
       have c15b1 : ((strOfNums t331).toList != (strOfNums l0).toList) = true := bne_iff_ne.mpr c15
       simp only [Option.some.injEq, Prod.mk.injEq] at H
       obtain ⟨rfl, rfl⟩ := H
       obtain ⟨Ao21, co21, eo21⟩ := Kd.R_slice HO_4.out
       subst eo21
       go_wp2_with (first | ((with_reducible refine gate_callee (f := 70) rfl ?_); refine goesL_ (some 33) rfl rfl Try.func70 (by kernel_rfl) rfl #[.slice Ao21 x4_1.length co21] rfl ga ?_; (with_reducible refine (impl_PutOid.calls k1 _ _ x4_1 t331 _ ?side1 ?side2 A10.out).mono ?_); (case side1 => repeat (first | exact (Kd.R_reads' HO_4.out).2.2 | (with_reducible refine Kd.C_alloc ?_ _) | (with_reducible refine Kd.C_drewN ?_ _) | (with_reducible refine Kd.C_drew ?_))); (case side2 => exact (Kd.R_reads' HO_4.out).2.1); rintro e w22 ⟨v332, rfl, ho0, hb⟩; refine ⟨_, rfl, ?_⟩; have n_ := ak3 (Kd.R_below (kqR HO_4.out) hb) (Kd.R_lower ho0 (below_size (bq HB.out))) (below_step (bq HB.out) hb); clear HO_4 HB; obtain ⟨HO_4, HO333, HB⟩ := n_; (try clear hb ho0); obtain ⟨Ao23, co23, eo23⟩ := Kd.R_slice HO333.out; subst eo23; have hcv24 := own_string (P := Try.prog) Try.underlying22 Try.underlying5 Try.underlying9 (Kd.own_of_R HO333.out); have hcv25 := Kd.C_string (P := Try.prog) (A := A0) (c := c0) Try.underlying22 Try.underlying5 Try.underlying9 (Kd.C_below HR0.out HB.out)))
       go_ret2
       exact ⟨_, rq, rn, bq HB.out⟩
     rw [if_pos c15] at H
     have c15b0 : ((strOfNums t331).toList == (strOfNums l0).toList) = true := beq_iff_eq.mpr c15
     have c15b1 : ((strOfNums t331).toList != (strOfNums l0).toList) = false := bne_eq_false_iff_eq.mpr c15
     clear c15
     simp only [Option.some.injEq, Prod.mk.injEq] at H
     obtain ⟨rfl, rfl⟩ := H
     obtain ⟨Ao16, co16, eo16⟩ := Kd.R_slice HO_4.out
     subst eo16
     go_wp2_with (first | ((with_reducible refine gate_callee (f := 70) rfl ?_); refine goesL_ (some 33) rfl rfl Try.func70 (by kernel_rfl) rfl #[.slice Ao16 x4_1.length co16] rfl ga ?_; (with_reducible refine (impl_PutOid.calls k1 _ _ x4_1 t331 _ ?side1 ?side2 A10.out).mono ?_); (case side1 => repeat (first | exact (Kd.R_reads' HO_4.out).2.2 | (with_reducible refine Kd.C_alloc ?_ _) | (with_reducible refine Kd.C_drewN ?_ _) | (with_reducible refine Kd.C_drew ?_))); (case side2 => exact (Kd.R_reads' HO_4.out).2.1); rintro e w17 ⟨v332, rfl, ho0, hb⟩; refine ⟨_, rfl, ?_⟩; have n_ := ak3 (Kd.R_below (kqR HO_4.out) hb) (Kd.R_lower ho0 (below_size (bq HB.out))) (below_step (bq HB.out) hb); clear HO_4 HB; obtain ⟨HO_4, HO333, HB⟩ := n_; (try clear hb ho0); obtain ⟨Ao18, co18, eo18⟩ := Kd.R_slice HO333.out; subst eo18; have hcv19 := own_string (P := Try.prog) Try.underlying22 Try.underlying5 Try.underlying9 (Kd.own_of_R HO333.out); have hcv20 := Kd.C_string (P := Try.prog) (A := A0) (c := c0) Try.underlying22 Try.underlying5 Try.underlying9 (Kd.C_below HR0.out HB.out)))
     go_ret2
     exact ⟨_, rq, kqR HO_4.out, bq HB.out⟩
   rw [if_pos c2] at H
   have c2b0 : decide (x11_1 < (l0.length : Int)) = true := decide_eq_true c2
   clear c2
   by_cases c3 : 0 ≤ x11_1
   rotate_left
   · rw [if_neg c3] at H
     exact absurd H (by simp)
   rw [if_pos c3] at H
   have c3b0 : decide (0 ≤ x11_1) = true := decide_eq_true c3
   clear c3
   by_cases c4 : x11_1 < (l0.length : Int)
   rotate_left
   · rw [if_neg c4] at H
     exact absurd H (by simp)
   rw [if_pos c4] at H
   have c4b0 : decide (x11_1 < (l0.length : Int)) = true := decide_eq_true c4
   clear c4
   by_cases c5 : x11_1 ≥ 40
   · rw [if_pos c5] at H
     have c5b0 : decide (40 ≤ x11_1) = true := decide_eq_true c5
     clear c5
     simp only [Option.some.injEq, Prod.mk.injEq] at H
     obtain ⟨rfl, rfl⟩ := H
     have p334 : 0 ≤ (x11_1 : Int) := oda
     have q334 : x11_1 < (l0.length : Int) := oda
     obtain ⟨ad334, e334, hx334_0⟩ := Kd.at_int HR0.out x11_1 p334 q334
     cases e334
     replace hx334_0 := (HB.out.cell (World.block_lt_of_cell? w _ hx334_0)).trans hx334_0
     replace p334 := eq_true p334
     replace q334 := eq_true q334
     go_wp2
     go_ret2
     exact ⟨_, rq, rn, bq HB.out⟩
   rw [if_neg c5] at H
   have c5b0 : decide (40 ≤ x11_1) = false := decide_eq_false c5
   clear c5
   obtain ⟨ji6, hji6⟩ : ∃ j_ : Int, (mn x5_1 1048576) = j_ := ⟨_, rfl⟩
   replace H : (if (rd l0 x11_1) < 128 then (if x4_1.length < 17592186044416 then (impl_GetOid.l0 k1 l0 (x4_1 ++ [Go.bits .or .i64 (wrap64 ((ji6) * 128)) (wrap64 (Go.bits .and .u8 (rd l0 x11_1) 127))]) 0 l0 (l0.length : Int) (wrap64 (x11_1 + 1))) else (none)) else (impl_GetOid.l0 k1 l0 x4_1 (Go.bits .or .i64 (wrap64 ((ji6) * 128)) (wrap64 (Go.bits .and .u8 (rd l0 x11_1) 127))) l0 (l0.length : Int) (wrap64 (x11_1 + 1)))) = some (r1, r2) := by first | (rw [hji6] at H; exact H) | (simp only [hji6] at H ⊢; exact H)
   have hji6_ : (if 1048576 < x5_1 then 1048576 else x5_1) = ji6 := hji6
   by_cases c7 : (rd l0 x11_1) < 128
   rotate_left
   · rw [if_neg c7] at H
     have c7b0 : decide ((rd l0 x11_1) < 128) = false := decide_eq_false c7
     clear c7
     have H' := am H
     clear H
     have p334 : 0 ≤ (x11_1 : Int) := oda
     have q334 : x11_1 < (l0.length : Int) := oda
     obtain ⟨ad334, e334, hx334_0⟩ := Kd.at_int HR0.out x11_1 p334 q334
     cases e334
     replace hx334_0 := (HB.out.cell (World.block_lt_of_cell? w _ hx334_0)).trans hx334_0
     replace p334 := eq_true p334
     replace q334 := eq_true q334
     go_wp2
     go_roundg k1
     case measure => have := HK1.out; omega
     case rel => exact ⟨(x4_1), (Go.bits .or .i64 (wrap64 ((ji6) * 128)) (wrap64 (Go.bits .and .u8 (rd l0 x11_1) 127))), (wrap64 (x11_1 + 1)), (by first | rfl | (simp; done) | (simp only [← hji6] <;> (first | rfl | simp)) | (simp [*]; done)), sq, H', ⟨by have := HK1.out; omega⟩, ⟨kqR HO_4.out⟩, ⟨bq HB.out⟩⟩
   rw [if_pos c7] at H
   have c7b0 : decide ((rd l0 x11_1) < 128) = true := decide_eq_true c7
   clear c7
   by_cases c8 : x4_1.length < 17592186044416
   rotate_left
   · rw [if_neg c8] at H
     exact absurd H (by simp)
   rw [if_pos c8] at H
   have LMc8 := am c8
   clear c8
   obtain ⟨y335, hy335⟩ : ∃ y_ : List Int, y_ = (x4_1 ++ [Go.bits .or .i64 (wrap64 ((ji6) * 128)) (wrap64 (Go.bits .and .u8 (rd l0 x11_1) 127))]) := ⟨_, rfl⟩
   replace H : (impl_GetOid.l0 k1 l0 y335 0 l0 (l0.length : Int) (wrap64 (x11_1 + 1))) = some (r1, r2) := hx H hy335
   have Ny335 := am hy335
   clear hy335
   have H' := am H
   clear H
   have p334 : 0 ≤ (x11_1 : Int) := oda
   have q334 : x11_1 < (l0.length : Int) := oda
   obtain ⟨ad334, e334, hx334_0⟩ := Kd.at_int HR0.out x11_1 p334 q334
   cases e334
   replace hx334_0 := (HB.out.cell (World.block_lt_of_cell? w _ hx334_0)).trans hx334_0
   replace p334 := eq_true p334
   replace q334 := eq_true q334
   go_wp2_with (first | ((with_reducible refine gate_builtin (b := .append) (xs := #[.tmp 27, .tmp 29]) rfl ?_); at_builtin; refine Kd.R_append (Kd.int .i64) (w0 := w) w.heap.size rfl (.tmp 27) (.tmp 29) 23 3 (.int .i64 0) 8 rfl Try.underlying23 info3 rfl (by decide) (by omega) u4 x4_1 (Go.bits .or .i64 (wrap64 ((ji6) * 128)) (wrap64 (Go.bits .and .u8 (rd l0 x11_1) 127))) [.int .i64 (Go.bits .or .i64 (wrap64 ((ji6) * 128)) (wrap64 (Go.bits .and .u8 (rd l0 x11_1) 127)))] (fun _ => True) (fun _ => False) rfl rfl ?aP (fun _ hk => hk.elim) ?aF ?aO ?aB ?aS ?aL ?_; (case aP => exact rfl); (case aB => exact (bq HB.out)); (case aF => exact (fun _ _ => trivial)); (case aO => exact (kqR HO_4.out)); (case aS => exact (below_size (bq HB.out))); (case aL => have := LMc8.out; omega); intro v336 w9 ho hb hg hat; rw [← Ny335.out] at ho; have n_ := ak2 hb ho; clear HB HO_4; obtain ⟨HB, HO337⟩ := n_; clear ho hb hg hat))
   go_roundg k1
   case measure => have := HK1.out; omega
   case rel => exact ⟨(y335), (0), (wrap64 (x11_1 + 1)), sq, sq, H', ⟨by have := HK1.out; omega⟩, ⟨kqR HO337.out⟩, ⟨bq HB.out⟩⟩
def impl_GetVal.f (k : Nat) (l0 : List Int) (a1 : Int) : Option (Int × Int × ByteArray × List Int × Int × Bool) := (impl_GetTlv.f k l0 a1).bind fun bt339 => (if bt339.2.2.2 = true then (if bt339.1 = 2 then ((impl_GetInt.f k bt339.2.1).bind fun bt346 => (if bt346.2 = true then ((impl_ValOk.f k bt339.1 bt346.1 (⟨#[]⟩ : ByteArray) ([] : List Int)).bind fun t348 => (if t348 = true then (some (bt339.1, bt346.1, (⟨#[]⟩ : ByteArray), ([] : List Int), bt339.2.2.1, true)) else (some (0, 0, (⟨#[]⟩ : ByteArray), ([] : List Int), 0, false)))) else (some (0, 0, (⟨#[]⟩ : ByteArray), ([] : List Int), 0, false)))) else (if bt339.1 = 4 then ((impl_ValOk.f k bt339.1 0 (strOfNums bt339.2.1) ([] : List Int)).bind fun t349 => (if t349 = true then (some (bt339.1, 0, strOfNums bt339.2.1, ([] : List Int), bt339.2.2.1, true)) else (some (0, 0, (⟨#[]⟩ : ByteArray), ([] : List Int), 0, false)))) else (if bt339.1 = 6 then ((impl_GetOid.f k bt339.2.1).bind fun bt350 => (if bt350.2 = true then ((impl_ValOk.f k bt339.1 0 (⟨#[]⟩ : ByteArray) bt350.1).bind fun t354 => (if t354 = true then (some (bt339.1, 0, (⟨#[]⟩ : ByteArray), bt350.1, bt339.2.2.1, true)) else (some (0, 0, (⟨#[]⟩ : ByteArray), ([] : List Int), 0, false)))) else (some (0, 0, (⟨#[]⟩ : ByteArray), ([] : List Int), 0, false)))) else (if ((bt339.2.1.length : Int) = 0) then ((impl_ValOk.f k bt339.1 0 (⟨#[]⟩ : ByteArray) ([] : List Int)).bind fun t355 => (if t355 = true then (some (bt339.1, 0, (⟨#[]⟩ : ByteArray), ([] : List Int), bt339.2.2.1, true)) else (some (0, 0, (⟨#[]⟩ : ByteArray), ([] : List Int), 0, false)))) else (some (0, 0, (⟨#[]⟩ : ByteArray), ([] : List Int), 0, false)))))) else (some (0, 0, (⟨#[]⟩ : ByteArray), ([] : List Int), 0, false)))
theorem impl_GetVal.mono : ∀ a0 a1 k, LeO (impl_GetVal.f k a0 a1) (impl_GetVal.f (k + 1) a0 a1) := by
 intro a0 a1 k
 unfold impl_GetVal.f
 repeat' first
  | (with_reducible exact impl_GetInt.mono _ _)
  | (with_reducible exact impl_GetOid.mono _ _)
  | (with_reducible exact impl_GetTlv.mono _ _ _)
  | (with_reducible exact impl_ValOk.mono _ _ _ _ _)
  | (with_reducible exact LeO.refl _)
  | (with_reducible exact LeO.none _)
  | (with_reducible refine LeO.ite ?_ ?_)
  | (with_reducible refine LeO.bind ?_ (fun _ => ?_))
  | exact impl_GetInt.mono _ _
  | exact impl_GetOid.mono _ _
  | exact impl_GetTlv.mono _ _ _
  | exact impl_ValOk.mono _ _ _ _ _
  | exact LeO.none _
  | refine LeO.ite ?_ ?_
  | refine LeO.bind ?_ (fun _ => ?_)
theorem impl_GetVal.calls (k : Nat) (A0 : Option Addr) (c0 : Nat) (l0 : List Int) (a1 : Int) (r1 : Int) (r2 : Int) (r3 : ByteArray) (r4 : List Int) (r5 : Int) (r6 : Bool) (w : World) (hr0 : Kd.C (Kd.int .u8) w A0 l0.length l0) (hc0 : l0.length ≤ c0) (h : impl_GetVal.f k l0 a1 = some (r1, r2, r3, r4, r5, r6)) :
 Calls Try.prog 36 #[.slice A0 l0.length c0, .int .i64 a1] w fun e w' => ∃ v3_ : Value, e = .returned (.tuple #[.agg #[.int .i64 r1, .int .i64 r2, .string r3, v3_], .int .i64 r5, .bool r6]) ∧ Kd.R (Kd.int .i64) 3 w' w.heap.size (fun _ => True) v3_ r4 ∧ Below w.heap.size w w' := by
 have hu29 := Try.underlying29
 have HR0 := am hr0
 have HC0 := am hc0
 clear hr0 hc0
 have HB := am (Below.refl w.heap.size w)
 have H : ((impl_GetTlv.f k l0 a1).bind fun bt339 => (if bt339.2.2.2 = true then (if bt339.1 = 2 then ((impl_GetInt.f k bt339.2.1).bind fun bt346 => (if bt346.2 = true then ((impl_ValOk.f k bt339.1 bt346.1 (⟨#[]⟩ : ByteArray) ([] : List Int)).bind fun t348 => (if t348 = true then (some (bt339.1, bt346.1, (⟨#[]⟩ : ByteArray), ([] : List Int), bt339.2.2.1, true)) else (some (0, 0, (⟨#[]⟩ : ByteArray), ([] : List Int), 0, false)))) else (some (0, 0, (⟨#[]⟩ : ByteArray), ([] : List Int), 0, false)))) else (if bt339.1 = 4 then ((impl_ValOk.f k bt339.1 0 (strOfNums bt339.2.1) ([] : List Int)).bind fun t349 => (if t349 = true then (some (bt339.1, 0, strOfNums bt339.2.1, ([] : List Int), bt339.2.2.1, true)) else (some (0, 0, (⟨#[]⟩ : ByteArray), ([] : List Int), 0, false)))) else (if bt339.1 = 6 then ((impl_GetOid.f k bt339.2.1).bind fun bt350 => (if bt350.2 = true then ((impl_ValOk.f k bt339.1 0 (⟨#[]⟩ : ByteArray) bt350.1).bind fun t354 => (if t354 = true then (some (bt339.1, 0, (⟨#[]⟩ : ByteArray), bt350.1, bt339.2.2.1, true)) else (some (0, 0, (⟨#[]⟩ : ByteArray), ([] : List Int), 0, false)))) else (some (0, 0, (⟨#[]⟩ : ByteArray), ([] : List Int), 0, false)))) else (if ((bt339.2.1.length : Int) = 0) then ((impl_ValOk.f k bt339.1 0 (⟨#[]⟩ : ByteArray) ([] : List Int)).bind fun t355 => (if t355 = true then (some (bt339.1, 0, (⟨#[]⟩ : ByteArray), ([] : List Int), bt339.2.2.1, true)) else (some (0, 0, (⟨#[]⟩ : ByteArray), ([] : List Int), 0, false)))) else (some (0, 0, (⟨#[]⟩ : ByteArray), ([] : List Int), 0, false)))))) else (some (0, 0, (⟨#[]⟩ : ByteArray), ([] : List Int), 0, false)))) = some (r1, r2, r3, r4, r5, r6) := h
 clear h
 replace H := Option.bind_eq_some_iff.mp H
 obtain ⟨⟨t339, t340, t341, t342⟩, A30, H⟩ := H
 replace H : (if t342 = true then (if t339 = 2 then ((impl_GetInt.f k t340).bind fun bt346 => (if bt346.2 = true then ((impl_ValOk.f k t339 bt346.1 (⟨#[]⟩ : ByteArray) ([] : List Int)).bind fun t348 => (if t348 = true then (some (t339, bt346.1, (⟨#[]⟩ : ByteArray), ([] : List Int), t341, true)) else (some (0, 0, (⟨#[]⟩ : ByteArray), ([] : List Int), 0, false)))) else (some (0, 0, (⟨#[]⟩ : ByteArray), ([] : List Int), 0, false)))) else (if t339 = 4 then ((impl_ValOk.f k t339 0 (strOfNums t340) ([] : List Int)).bind fun t349 => (if t349 = true then (some (t339, 0, strOfNums t340, ([] : List Int), t341, true)) else (some (0, 0, (⟨#[]⟩ : ByteArray), ([] : List Int), 0, false)))) else (if t339 = 6 then ((impl_GetOid.f k t340).bind fun bt350 => (if bt350.2 = true then ((impl_ValOk.f k t339 0 (⟨#[]⟩ : ByteArray) bt350.1).bind fun t354 => (if t354 = true then (some (t339, 0, (⟨#[]⟩ : ByteArray), bt350.1, t341, true)) else (some (0, 0, (⟨#[]⟩ : ByteArray), ([] : List Int), 0, false)))) else (some (0, 0, (⟨#[]⟩ : ByteArray), ([] : List Int), 0, false)))) else (if ((t340.length : Int) = 0) then ((impl_ValOk.f k t339 0 (⟨#[]⟩ : ByteArray) ([] : List Int)).bind fun t355 => (if t355 = true then (some (t339, 0, (⟨#[]⟩ : ByteArray), ([] : List Int), t341, true)) else (some (0, 0, (⟨#[]⟩ : ByteArray), ([] : List Int), 0, false)))) else (some (0, 0, (⟨#[]⟩ : ByteArray), ([] : List Int), 0, false)))))) else (some (0, 0, (⟨#[]⟩ : ByteArray), ([] : List Int), 0, false))) = some (r1, r2, r3, r4, r5, r6) := H
 have A3 := am A30
 clear A30
 by_cases c4 : t342 = true
 rotate_left
 · replace c4 := Bool.eq_false_iff.mpr c4
   subst c4
   replace H : (some (0, 0, (⟨#[]⟩ : ByteArray), ([] : List Int), 0, false)) = some (r1, r2, r3, r4, r5, r6) := by rw [if_neg (show ¬ (false = true) by decide)] at H; exact H
   simp only [Option.some.injEq, Prod.mk.injEq] at H
   obtain ⟨rfl, rfl, rfl, rfl, rfl, rfl⟩ := H
   go_enter Try.func36, Try.ntmps36
   go_wp2_with (first | ((with_reducible refine gate_dst (N := 4) rfl ?_); refine bxe 4 #[.int .i64 0, .int .i64 0, .string (⟨#[]⟩ : ByteArray), .slice none 0 0] 29 ?_; intro gb338 hg w151 hbox hb; have n_ := ak4 (below_step (bq HB.out) hb) hbox ((by rw [hg]; exact (below_size (bq HB.out)) : w.heap.size ≤ gb338)) ((by rw [hg]; exact (below_size (bq HB.out)) : w.heap.size ≤ gb338)); clear HB; obtain ⟨HB, BK338, GW338, GE338⟩ := n_; clear hb hbox hg) | ((with_reducible refine gate_callee (f := 91) rfl ?_); refine goesL_ (some 15) rfl rfl Try.func91 (by kernel_rfl) rfl #[.slice A0 l0.length c0, .int .i64 a1] rfl ga ?_; (with_reducible refine (impl_GetTlv.calls k _ _ l0 a1 t339 t340 t341 false _ ?side1 ?side2 A3.out).mono ?_); (case side1 => exact cq (Kd.C_below HR0.out HB.out)); (case side2 => exact HC0.out); rintro e w152 ⟨v343, rfl, ho0, hb⟩; refine ⟨_, rfl, ?_⟩; have n_ := ak3 (Kd.R_lower ho0 (below_size (bq1 HB.out GE338.out))) (blk_below (zb BK338.out) hb) (below_step (bq1 HB.out GE338.out) hb); clear BK338 HB; obtain ⟨HO344, BK338, HB⟩ := n_; (try clear hb ho0)) | ((with_reducible refine gate_dst (N := 11) rfl ?_); refine bxe 11 #[.int .i64 0, .int .i64 0, .string (⟨#[]⟩ : ByteArray), .slice none 0 0] 29 ?_; intro gb345 hg w153 hbox hb; have n_ := ak8 (Kd.R_below (kqR HO344.out) hb) (blk_below (zb BK338.out) hb) (below_step (bq1 HB.out GE338.out) hb) hbox ((by rw [hg]; exact (below_size (bq1 HB.out GE338.out)) : w.heap.size ≤ gb345)) ((by rw [hg]; exact (below_size (bq1 HB.out GE338.out)) : w.heap.size ≤ gb345)) ((nlt hg (zb BK338.out) : gb338 ≠ gb345)) ((ngt hg (zb BK338.out) : gb345 ≠ gb338)); clear HO344 BK338 HB; obtain ⟨HO344, BK338, HB, BK345, GW345, GE345, NB338_345, NB345_338⟩ := n_; clear hb hbox hg; have hnb154 := NB345_338.out; have hnc154 := NB338_345.out; obtain ⟨hcz155_0, hcz155_1, hcz155_2, hcz155_3, hfz155_0, hfz155_1, hfz155_2, hfz155_3⟩ := cl4 BK345.out) | ((with_reducible refine gate_store (t := 29) (p := 11) rfl ?_); refine store_event (t := 29) (p := 11) (v := ?vo_w156) (w1 := ((((w153.setCell ⟨gb345, 0, none⟩ (.int .i64 t339)).setCell ⟨gb345, 1, none⟩ (.int .i64 0)).setCell ⟨gb345, 2, none⟩ (.string (⟨#[]⟩ : ByteArray))).setCell ⟨gb345, 3, none⟩ (.slice none 0 0))) ?hg ?ho ?hn ?hr ?_; (case ho => rfl); (case hg => rfl); (case hn => rfl); (case hr => exact gs); intro w156 hw; have n_ : Aside0 (Kd.R (Kd.int .u8) 5 w156 w.heap.size (fun _ => True) v343 t340) ∧ Aside0 (w156.heap[gb338]? = some (.cells #[.int .i64 0, .int .i64 0, .string (⟨#[]⟩ : ByteArray), .slice none 0 0] 29 (0, 0))) ∧ Aside0 (w156.heap[gb345]? = some (.cells #[.int .i64 t339, .int .i64 0, .string (⟨#[]⟩ : ByteArray), .slice none 0 0] 29 (0, 0))) ∧ Aside0 (Below w.heap.size w w156) := ⟨⟨(by rw [hw]; exact (by refine kr ?_; exact Kd.R_mono (rf4 gb345 (.int .i64 t339) (.int .i64 0) (.string (⟨#[]⟩ : ByteArray)) (.slice none 0 0) (Kd.R_types HO344.out BK345.out (by decide)) (fun _ hk => hk.2)) (fun _ hk => trivial)))⟩, ⟨(by rw [hw]; exact (by refine zr ?_; refine blk_far ?_ NB338_345.out _; refine zr ?_; refine blk_far ?_ NB338_345.out _; refine zr ?_; refine blk_far ?_ NB338_345.out _; refine zr ?_; refine blk_far ?_ NB338_345.out _; refine zr ?_; exact BK338.out))⟩, ⟨(by rw [hw]; exact (by refine zr ?_; exact bp4 (zb BK345.out)))⟩, ⟨(by rw [hw]; exact (bq2 HB.out GE338.out GE345.out))⟩⟩; clear hw HO344 BK338 BK345 HB; obtain ⟨HO344, BK338, BK345, HB⟩ := n_; obtain ⟨hcz157_0, hcz157_1, hcz157_2, hcz157_3, hfz157_0, hfz157_1, hfz157_2, hfz157_3⟩ := cl4 BK338.out) | ((with_reducible refine gate_store (t := 29) (p := 4) rfl ?_); refine store_event (t := 29) (p := 4) (v := ?vo_w158) (w1 := ((((w156.setCell ⟨gb338, 0, none⟩ (.int .i64 0)).setCell ⟨gb338, 1, none⟩ (.int .i64 0)).setCell ⟨gb338, 2, none⟩ (.string (⟨#[]⟩ : ByteArray))).setCell ⟨gb338, 3, none⟩ (.slice none 0 0))) ?hg ?ho ?hn ?hr ?_; (case ho => rfl); (case hg => rfl); (case hn => rfl); (case hr => exact gs); intro w158 hw; have n_ : Aside0 (Kd.R (Kd.int .u8) 5 w158 w.heap.size (fun _ => True) v343 t340) ∧ Aside0 (w158.heap[gb338]? = some (.cells #[.int .i64 0, .int .i64 0, .string (⟨#[]⟩ : ByteArray), .slice none 0 0] 29 (0, 0))) ∧ Aside0 (w158.heap[gb345]? = some (.cells #[.int .i64 t339, .int .i64 0, .string (⟨#[]⟩ : ByteArray), .slice none 0 0] 29 (0, 0))) ∧ Aside0 (Below w.heap.size w w158) := ⟨⟨(by rw [hw]; exact (by refine kr ?_; exact Kd.R_mono (rf4 gb338 (.int .i64 0) (.int .i64 0) (.string (⟨#[]⟩ : ByteArray)) (.slice none 0 0) (Kd.R_types HO344.out BK338.out (by decide)) (fun _ hk => hk.2)) (fun _ hk => trivial)))⟩, ⟨(by rw [hw]; exact (by refine zr ?_; exact bp4 (zb BK338.out)))⟩, ⟨(by rw [hw]; exact (by refine zr ?_; refine blk_far ?_ NB345_338.out _; refine zr ?_; refine blk_far ?_ NB345_338.out _; refine zr ?_; refine blk_far ?_ NB345_338.out _; refine zr ?_; refine blk_far ?_ NB345_338.out _; refine zr ?_; exact BK345.out))⟩, ⟨(by rw [hw]; exact (bq2 HB.out GE338.out GE345.out))⟩⟩; clear hw HO344 BK338 BK345 HB; obtain ⟨HO344, BK338, BK345, HB⟩ := n_))
   refine bodyPost_ret (results_ctt rfl _ _ gb338 29 #[.int .i64 0, .int .i64 0, .string (⟨#[]⟩ : ByteArray), .slice none 0 0] (0, 0) _ rfl (zq BK338.out) Try.underlying29 rfl (by kernel_rfl)) rfl ?_
   exact ⟨_, rq, rn, bq2 HB.out GE338.out GE345.out⟩
 subst c4
 replace H : (if t339 = 2 then ((impl_GetInt.f k t340).bind fun bt346 => (if bt346.2 = true then ((impl_ValOk.f k t339 bt346.1 (⟨#[]⟩ : ByteArray) ([] : List Int)).bind fun t348 => (if t348 = true then (some (t339, bt346.1, (⟨#[]⟩ : ByteArray), ([] : List Int), t341, true)) else (some (0, 0, (⟨#[]⟩ : ByteArray), ([] : List Int), 0, false)))) else (some (0, 0, (⟨#[]⟩ : ByteArray), ([] : List Int), 0, false)))) else (if t339 = 4 then ((impl_ValOk.f k t339 0 (strOfNums t340) ([] : List Int)).bind fun t349 => (if t349 = true then (some (t339, 0, strOfNums t340, ([] : List Int), t341, true)) else (some (0, 0, (⟨#[]⟩ : ByteArray), ([] : List Int), 0, false)))) else (if t339 = 6 then ((impl_GetOid.f k t340).bind fun bt350 => (if bt350.2 = true then ((impl_ValOk.f k t339 0 (⟨#[]⟩ : ByteArray) bt350.1).bind fun t354 => (if t354 = true then (some (t339, 0, (⟨#[]⟩ : ByteArray), bt350.1, t341, true)) else (some (0, 0, (⟨#[]⟩ : ByteArray), ([] : List Int), 0, false)))) else (some (0, 0, (⟨#[]⟩ : ByteArray), ([] : List Int), 0, false)))) else (if ((t340.length : Int) = 0) then ((impl_ValOk.f k t339 0 (⟨#[]⟩ : ByteArray) ([] : List Int)).bind fun t355 => (if t355 = true then (some (t339, 0, (⟨#[]⟩ : ByteArray), ([] : List Int), t341, true)) else (some (0, 0, (⟨#[]⟩ : ByteArray), ([] : List Int), 0, false)))) else (some (0, 0, (⟨#[]⟩ : ByteArray), ([] : List Int), 0, false)))))) = some (r1, r2, r3, r4, r5, r6) := by rw [if_pos rfl] at H; exact H
 by_cases c5 : t339 = 2
 · rw [if_pos c5] at H
   have c5b0 : (t339 == 2) = true := beq_iff_eq.mpr c5
   have c5b1 : (t339 != 2) = false := bne_eq_false_iff_eq.mpr c5
   clear c5
   replace H := Option.bind_eq_some_iff.mp H
   obtain ⟨⟨t346, t347⟩, A60, H⟩ := H
   replace H : (if t347 = true then ((impl_ValOk.f k t339 t346 (⟨#[]⟩ : ByteArray) ([] : List Int)).bind fun t348 => (if t348 = true then (some (t339, t346, (⟨#[]⟩ : ByteArray), ([] : List Int), t341, true)) else (some (0, 0, (⟨#[]⟩ : ByteArray), ([] : List Int), 0, false)))) else (some (0, 0, (⟨#[]⟩ : ByteArray), ([] : List Int), 0, false))) = some (r1, r2, r3, r4, r5, r6) := H
   have A6 := am A60
   clear A60
   by_cases c7 : t347 = true
   rotate_left
   · replace c7 := Bool.eq_false_iff.mpr c7
     subst c7
     replace H : (some (0, 0, (⟨#[]⟩ : ByteArray), ([] : List Int), 0, false)) = some (r1, r2, r3, r4, r5, r6) := by rw [if_neg (show ¬ (false = true) by decide)] at H; exact H
     simp only [Option.some.injEq, Prod.mk.injEq] at H
     obtain ⟨rfl, rfl, rfl, rfl, rfl, rfl⟩ := H
     go_enter Try.func36, Try.ntmps36
     go_wp2_with (first | ((with_reducible refine gate_dst (N := 4) rfl ?_); refine bxe 4 #[.int .i64 0, .int .i64 0, .string (⟨#[]⟩ : ByteArray), .slice none 0 0] 29 ?_; intro gb338 hg w35 hbox hb; have n_ := ak4 (below_step (bq HB.out) hb) hbox ((by rw [hg]; exact (below_size (bq HB.out)) : w.heap.size ≤ gb338)) ((by rw [hg]; exact (below_size (bq HB.out)) : w.heap.size ≤ gb338)); clear HB; obtain ⟨HB, BK338, GW338, GE338⟩ := n_; clear hb hbox hg) | ((with_reducible refine gate_callee (f := 91) rfl ?_); refine goesL_ (some 15) rfl rfl Try.func91 (by kernel_rfl) rfl #[.slice A0 l0.length c0, .int .i64 a1] rfl ga ?_; (with_reducible refine (impl_GetTlv.calls k _ _ l0 a1 t339 t340 t341 true _ ?side1 ?side2 A3.out).mono ?_); (case side1 => exact cq (Kd.C_below HR0.out HB.out)); (case side2 => exact HC0.out); rintro e w36 ⟨v343, rfl, ho0, hb⟩; refine ⟨_, rfl, ?_⟩; have n_ := ak3 (Kd.R_lower ho0 (below_size (bq1 HB.out GE338.out))) (blk_below (zb BK338.out) hb) (below_step (bq1 HB.out GE338.out) hb); clear BK338 HB; obtain ⟨HO344, BK338, HB⟩ := n_; (try clear hb ho0)) | ((with_reducible refine gate_dst (N := 11) rfl ?_); refine bxe 11 #[.int .i64 0, .int .i64 0, .string (⟨#[]⟩ : ByteArray), .slice none 0 0] 29 ?_; intro gb345 hg w37 hbox hb; have n_ := ak8 (Kd.R_below (kqR HO344.out) hb) (blk_below (zb BK338.out) hb) (below_step (bq1 HB.out GE338.out) hb) hbox ((by rw [hg]; exact (below_size (bq1 HB.out GE338.out)) : w.heap.size ≤ gb345)) ((by rw [hg]; exact (below_size (bq1 HB.out GE338.out)) : w.heap.size ≤ gb345)) ((nlt hg (zb BK338.out) : gb338 ≠ gb345)) ((ngt hg (zb BK338.out) : gb345 ≠ gb338)); clear HO344 BK338 HB; obtain ⟨HO344, BK338, HB, BK345, GW345, GE345, NB338_345, NB345_338⟩ := n_; clear hb hbox hg; have hnb38 := NB345_338.out; have hnc38 := NB338_345.out; obtain ⟨hcz39_0, hcz39_1, hcz39_2, hcz39_3, hfz39_0, hfz39_1, hfz39_2, hfz39_3⟩ := cl4 BK345.out) | ((with_reducible refine gate_store (t := 29) (p := 11) rfl ?_); refine store_event (t := 29) (p := 11) (v := ?vo_w40) (w1 := ((((w37.setCell ⟨gb345, 0, none⟩ (.int .i64 t339)).setCell ⟨gb345, 1, none⟩ (.int .i64 0)).setCell ⟨gb345, 2, none⟩ (.string (⟨#[]⟩ : ByteArray))).setCell ⟨gb345, 3, none⟩ (.slice none 0 0))) ?hg ?ho ?hn ?hr ?_; (case ho => rfl); (case hg => rfl); (case hn => rfl); (case hr => exact gs); intro w40 hw; have n_ : Aside0 (Kd.R (Kd.int .u8) 5 w40 w.heap.size (fun _ => True) v343 t340) ∧ Aside0 (w40.heap[gb338]? = some (.cells #[.int .i64 0, .int .i64 0, .string (⟨#[]⟩ : ByteArray), .slice none 0 0] 29 (0, 0))) ∧ Aside0 (w40.heap[gb345]? = some (.cells #[.int .i64 t339, .int .i64 0, .string (⟨#[]⟩ : ByteArray), .slice none 0 0] 29 (0, 0))) ∧ Aside0 (Below w.heap.size w w40) := ⟨⟨(by rw [hw]; exact (by refine kr ?_; exact Kd.R_mono (rf4 gb345 (.int .i64 t339) (.int .i64 0) (.string (⟨#[]⟩ : ByteArray)) (.slice none 0 0) (Kd.R_types HO344.out BK345.out (by decide)) (fun _ hk => hk.2)) (fun _ hk => trivial)))⟩, ⟨(by rw [hw]; exact (by refine zr ?_; refine blk_far ?_ NB338_345.out _; refine zr ?_; refine blk_far ?_ NB338_345.out _; refine zr ?_; refine blk_far ?_ NB338_345.out _; refine zr ?_; refine blk_far ?_ NB338_345.out _; refine zr ?_; exact BK338.out))⟩, ⟨(by rw [hw]; exact (by refine zr ?_; exact bp4 (zb BK345.out)))⟩, ⟨(by rw [hw]; exact (bq2 HB.out GE338.out GE345.out))⟩⟩; clear hw HO344 BK338 BK345 HB; obtain ⟨HO344, BK338, BK345, HB⟩ := n_; obtain ⟨Ao41, co41, eo41⟩ := Kd.R_slice HO344.out; subst eo41) | ((with_reducible refine gate_callee (f := 92) rfl ?_); refine goesL_ (some 33) rfl rfl Try.func92 (by kernel_rfl) rfl #[.slice Ao41 t340.length co41] rfl ga ?_; (with_reducible refine (impl_GetInt.calls k _ _ t340 t346 false _ ?side1 ?side2 A6.out).mono ?_); (case side1 => repeat (first | exact (Kd.R_reads' HO344.out).2.2 | (with_reducible refine Kd.C_alloc ?_ _) | (with_reducible refine Kd.C_drewN ?_ _) | (with_reducible refine Kd.C_drew ?_))); (case side2 => exact (Kd.R_reads' HO344.out).2.1); rintro e w42 ⟨rfl, hb⟩; refine ⟨_, rfl, ?_⟩; have n_ := ak4 (Kd.R_below (kqR HO344.out) hb) (blk_below (zb BK338.out) hb) (blk_below (zb BK345.out) hb) (below_step (bq2 HB.out GE338.out GE345.out) hb); clear HO344 BK338 BK345 HB; obtain ⟨HO344, BK338, BK345, HB⟩ := n_; (try clear hb); obtain ⟨hcz43_0, hcz43_1, hcz43_2, hcz43_3, hfz43_0, hfz43_1, hfz43_2, hfz43_3⟩ := cl4 BK345.out; obtain ⟨hcz44_0, hcz44_1, hcz44_2, hcz44_3, hfz44_0, hfz44_1, hfz44_2, hfz44_3⟩ := cl4 BK338.out) | ((with_reducible refine gate_store (t := 29) (p := 4) rfl ?_); refine store_event (t := 29) (p := 4) (v := ?vo_w45) (w1 := (((((w42.setCell ⟨gb345, 1, none⟩ (.int .i64 t346)).setCell ⟨gb338, 0, none⟩ (.int .i64 0)).setCell ⟨gb338, 1, none⟩ (.int .i64 0)).setCell ⟨gb338, 2, none⟩ (.string (⟨#[]⟩ : ByteArray))).setCell ⟨gb338, 3, none⟩ (.slice none 0 0))) ?hg ?ho ?hn ?hr ?_; (case ho => rfl); (case hg => rfl); (case hn => rfl); (case hr => exact gs); intro w45 hw; have n_ : Aside0 (Kd.R (Kd.int .u8) 5 w45 w.heap.size (fun _ => True) (.slice Ao41 t340.length co41) t340) ∧ Aside0 (w45.heap[gb338]? = some (.cells #[.int .i64 0, .int .i64 0, .string (⟨#[]⟩ : ByteArray), .slice none 0 0] 29 (0, 0))) ∧ Aside0 (w45.heap[gb345]? = some (.cells #[.int .i64 t339, .int .i64 t346, .string (⟨#[]⟩ : ByteArray), .slice none 0 0] 29 (0, 0))) ∧ Aside0 (Below w.heap.size w w45) := ⟨⟨(by rw [hw]; exact (by refine kr ?_; exact Kd.R_mono (rf4 gb338 (.int .i64 0) (.int .i64 0) (.string (⟨#[]⟩ : ByteArray)) (.slice none 0 0) (Kd.R_far (p := ⟨gb345, 1, none⟩) (Kd.R_types (Kd.R_types HO344.out BK345.out (by decide)) BK338.out (by decide)) (fun _ hk => hk.1.2) (.int .i64 t346)) (fun _ hk => hk.2)) (fun _ hk => trivial)))⟩, ⟨(by rw [hw]; exact (by refine zr ?_; refine blk_put (cs := #[.int .i64 0, .int .i64 0, .string (⟨#[]⟩ : ByteArray), .slice none 0 0]) ?_ 3 _ rfl; refine zr ?_; refine blk_put (cs := #[.int .i64 0, .int .i64 0, .string (⟨#[]⟩ : ByteArray), .slice none 0 0]) ?_ 2 _ rfl; refine zr ?_; refine blk_put (cs := #[.int .i64 0, .int .i64 0, .string (⟨#[]⟩ : ByteArray), .slice none 0 0]) ?_ 1 _ rfl; refine zr ?_; refine blk_put (cs := #[.int .i64 0, .int .i64 0, .string (⟨#[]⟩ : ByteArray), .slice none 0 0]) ?_ 0 _ rfl; refine zr ?_; refine blk_far ?_ NB338_345.out _; refine zr ?_; exact BK338.out))⟩, ⟨(by rw [hw]; exact (by refine zr ?_; refine blk_far ?_ NB345_338.out _; refine zr ?_; refine blk_far ?_ NB345_338.out _; refine zr ?_; refine blk_far ?_ NB345_338.out _; refine zr ?_; refine blk_far ?_ NB345_338.out _; refine zr ?_; refine blk_put (cs := #[.int .i64 t339, .int .i64 0, .string (⟨#[]⟩ : ByteArray), .slice none 0 0]) ?_ 1 _ rfl; refine zr ?_; exact BK345.out))⟩, ⟨(by rw [hw]; exact (bq2 HB.out GE338.out GE345.out))⟩⟩; clear hw HO344 BK338 BK345 HB; obtain ⟨HO344, BK338, BK345, HB⟩ := n_))
     refine bodyPost_ret (results_ctt rfl _ _ gb338 29 #[.int .i64 0, .int .i64 0, .string (⟨#[]⟩ : ByteArray), .slice none 0 0] (0, 0) _ rfl (zq BK338.out) Try.underlying29 rfl (by kernel_rfl)) rfl ?_
     exact ⟨_, rq, rn, bq2 HB.out GE338.out GE345.out⟩
   subst c7
   replace H : ((impl_ValOk.f k t339 t346 (⟨#[]⟩ : ByteArray) ([] : List Int)).bind fun t348 => (if t348 = true then (some (t339, t346, (⟨#[]⟩ : ByteArray), ([] : List Int), t341, true)) else (some (0, 0, (⟨#[]⟩ : ByteArray), ([] : List Int), 0, false)))) = some (r1, r2, r3, r4, r5, r6) := by rw [if_pos rfl] at H; exact H
   replace H := Option.bind_eq_some_iff.mp H
   obtain ⟨t348, A80, H⟩ := H
   replace H : (if t348 = true then (some (t339, t346, (⟨#[]⟩ : ByteArray), ([] : List Int), t341, true)) else (some (0, 0, (⟨#[]⟩ : ByteArray), ([] : List Int), 0, false))) = some (r1, r2, r3, r4, r5, r6) := H
   have A8 := am A80
   clear A80
   by_cases c9 : t348 = true
   rotate_left
   · replace c9 := Bool.eq_false_iff.mpr c9
     subst c9
     replace H : (some (0, 0, (⟨#[]⟩ : ByteArray), ([] : List Int), 0, false)) = some (r1, r2, r3, r4, r5, r6) := by rw [if_neg (show ¬ (false = true) by decide)] at H; exact H
     simp only [Option.some.injEq, Prod.mk.injEq] at H
     obtain ⟨rfl, rfl, rfl, rfl, rfl, rfl⟩ := H
     go_enter Try.func36, Try.ntmps36
     go_wp2_with (first | ((with_reducible refine gate_dst (N := 4) rfl ?_); refine bxe 4 #[.int .i64 0, .int .i64 0, .string (⟨#[]⟩ : ByteArray), .slice none 0 0] 29 ?_; intro gb338 hg w23 hbox hb; have n_ := ak4 (below_step (bq HB.out) hb) hbox ((by rw [hg]; exact (below_size (bq HB.out)) : w.heap.size ≤ gb338)) ((by rw [hg]; exact (below_size (bq HB.out)) : w.heap.size ≤ gb338)); clear HB; obtain ⟨HB, BK338, GW338, GE338⟩ := n_; clear hb hbox hg) | ((with_reducible refine gate_callee (f := 91) rfl ?_); refine goesL_ (some 15) rfl rfl Try.func91 (by kernel_rfl) rfl #[.slice A0 l0.length c0, .int .i64 a1] rfl ga ?_; (with_reducible refine (impl_GetTlv.calls k _ _ l0 a1 t339 t340 t341 true _ ?side1 ?side2 A3.out).mono ?_); (case side1 => exact cq (Kd.C_below HR0.out HB.out)); (case side2 => exact HC0.out); rintro e w24 ⟨v343, rfl, ho0, hb⟩; refine ⟨_, rfl, ?_⟩; have n_ := ak3 (Kd.R_lower ho0 (below_size (bq1 HB.out GE338.out))) (blk_below (zb BK338.out) hb) (below_step (bq1 HB.out GE338.out) hb); clear BK338 HB; obtain ⟨HO344, BK338, HB⟩ := n_; (try clear hb ho0)) | ((with_reducible refine gate_dst (N := 11) rfl ?_); refine bxe 11 #[.int .i64 0, .int .i64 0, .string (⟨#[]⟩ : ByteArray), .slice none 0 0] 29 ?_; intro gb345 hg w25 hbox hb; have n_ := ak8 (Kd.R_below (kqR HO344.out) hb) (blk_below (zb BK338.out) hb) (below_step (bq1 HB.out GE338.out) hb) hbox ((by rw [hg]; exact (below_size (bq1 HB.out GE338.out)) : w.heap.size ≤ gb345)) ((by rw [hg]; exact (below_size (bq1 HB.out GE338.out)) : w.heap.size ≤ gb345)) ((nlt hg (zb BK338.out) : gb338 ≠ gb345)) ((ngt hg (zb BK338.out) : gb345 ≠ gb338)); clear HO344 BK338 HB; obtain ⟨HO344, BK338, HB, BK345, GW345, GE345, NB338_345, NB345_338⟩ := n_; clear hb hbox hg; have hnb26 := NB345_338.out; have hnc26 := NB338_345.out; obtain ⟨hcz27_0, hcz27_1, hcz27_2, hcz27_3, hfz27_0, hfz27_1, hfz27_2, hfz27_3⟩ := cl4 BK345.out) | ((with_reducible refine gate_store (t := 29) (p := 11) rfl ?_); refine store_event (t := 29) (p := 11) (v := ?vo_w28) (w1 := ((((w25.setCell ⟨gb345, 0, none⟩ (.int .i64 t339)).setCell ⟨gb345, 1, none⟩ (.int .i64 0)).setCell ⟨gb345, 2, none⟩ (.string (⟨#[]⟩ : ByteArray))).setCell ⟨gb345, 3, none⟩ (.slice none 0 0))) ?hg ?ho ?hn ?hr ?_; (case ho => rfl); (case hg => rfl); (case hn => rfl); (case hr => exact gs); intro w28 hw; have n_ : Aside0 (Kd.R (Kd.int .u8) 5 w28 w.heap.size (fun _ => True) v343 t340) ∧ Aside0 (w28.heap[gb338]? = some (.cells #[.int .i64 0, .int .i64 0, .string (⟨#[]⟩ : ByteArray), .slice none 0 0] 29 (0, 0))) ∧ Aside0 (w28.heap[gb345]? = some (.cells #[.int .i64 t339, .int .i64 0, .string (⟨#[]⟩ : ByteArray), .slice none 0 0] 29 (0, 0))) ∧ Aside0 (Below w.heap.size w w28) := ⟨⟨(by rw [hw]; exact (by refine kr ?_; exact Kd.R_mono (rf4 gb345 (.int .i64 t339) (.int .i64 0) (.string (⟨#[]⟩ : ByteArray)) (.slice none 0 0) (Kd.R_types HO344.out BK345.out (by decide)) (fun _ hk => hk.2)) (fun _ hk => trivial)))⟩, ⟨(by rw [hw]; exact (by refine zr ?_; refine blk_far ?_ NB338_345.out _; refine zr ?_; refine blk_far ?_ NB338_345.out _; refine zr ?_; refine blk_far ?_ NB338_345.out _; refine zr ?_; refine blk_far ?_ NB338_345.out _; refine zr ?_; exact BK338.out))⟩, ⟨(by rw [hw]; exact (by refine zr ?_; exact bp4 (zb BK345.out)))⟩, ⟨(by rw [hw]; exact (bq2 HB.out GE338.out GE345.out))⟩⟩; clear hw HO344 BK338 BK345 HB; obtain ⟨HO344, BK338, BK345, HB⟩ := n_; obtain ⟨Ao29, co29, eo29⟩ := Kd.R_slice HO344.out; subst eo29) | ((with_reducible refine gate_callee (f := 92) rfl ?_); refine goesL_ (some 33) rfl rfl Try.func92 (by kernel_rfl) rfl #[.slice Ao29 t340.length co29] rfl ga ?_; (with_reducible refine (impl_GetInt.calls k _ _ t340 t346 true _ ?side1 ?side2 A6.out).mono ?_); (case side1 => repeat (first | exact (Kd.R_reads' HO344.out).2.2 | (with_reducible refine Kd.C_alloc ?_ _) | (with_reducible refine Kd.C_drewN ?_ _) | (with_reducible refine Kd.C_drew ?_))); (case side2 => exact (Kd.R_reads' HO344.out).2.1); rintro e w30 ⟨rfl, hb⟩; refine ⟨_, rfl, ?_⟩; have n_ := ak4 (Kd.R_below (kqR HO344.out) hb) (blk_below (zb BK338.out) hb) (blk_below (zb BK345.out) hb) (below_step (bq2 HB.out GE338.out GE345.out) hb); clear HO344 BK338 BK345 HB; obtain ⟨HO344, BK338, BK345, HB⟩ := n_; (try clear hb); obtain ⟨hcz31_0, hcz31_1, hcz31_2, hcz31_3, hfz31_0, hfz31_1, hfz31_2, hfz31_3⟩ := cl4 BK345.out) | (go_at_call 46; (refine (impl_ValOk.calls k t339 t346 (⟨#[]⟩ : ByteArray) _ _ ([] : List Int) false _ ?side1 ?side2 A8.out).mono ?_); (case side1 => exact Kd.C_nil _ _); (case side2 => exact Nat.le_refl _); rintro e w32 ⟨rfl, hb⟩; have n_ := ak4 (Kd.R_below (by refine kr ?_; exact (Kd.R_mono (Kd.R_far (p := ⟨gb345, 1, none⟩) (Kd.R_types HO344.out BK345.out (by decide)) (fun _ hk => hk.2) (.int .i64 t346)) (fun _ h_ => h_.1))) hb) (blk_below (g := gb338) (o := .cells #[.int .i64 0, .int .i64 0, .string (⟨#[]⟩ : ByteArray), .slice none 0 0] 29 (0, 0)) (by refine zr ?_; refine blk_far ?_ NB338_345.out _; refine zr ?_; exact BK338.out) hb) (blk_below (g := gb345) (o := .cells #[.int .i64 t339, .int .i64 t346, .string (⟨#[]⟩ : ByteArray), .slice none 0 0] 29 (0, 0)) (by refine zr ?_; refine blk_put (cs := #[.int .i64 t339, .int .i64 0, .string (⟨#[]⟩ : ByteArray), .slice none 0 0]) ?_ 1 _ rfl; refine zr ?_; exact BK345.out) hb) (below_step (bq2 HB.out GE338.out GE345.out) hb); clear HO344 BK338 BK345 HB; obtain ⟨HO344, BK338, BK345, HB⟩ := n_; (try clear hb); obtain ⟨hcz33_0, hcz33_1, hcz33_2, hcz33_3, hfz33_0, hfz33_1, hfz33_2, hfz33_3⟩ := cl4 BK338.out) | ((with_reducible refine gate_store (t := 29) (p := 4) rfl ?_); refine store_event (t := 29) (p := 4) (v := ?vo_w34) (w1 := ((((w32.setCell ⟨gb338, 0, none⟩ (.int .i64 0)).setCell ⟨gb338, 1, none⟩ (.int .i64 0)).setCell ⟨gb338, 2, none⟩ (.string (⟨#[]⟩ : ByteArray))).setCell ⟨gb338, 3, none⟩ (.slice none 0 0))) ?hg ?ho ?hn ?hr ?_; (case ho => rfl); (case hg => rfl); (case hn => rfl); (case hr => exact gs); intro w34 hw; have n_ : Aside0 (Kd.R (Kd.int .u8) 5 w34 w.heap.size (fun _ => True) (.slice Ao29 t340.length co29) t340) ∧ Aside0 (w34.heap[gb338]? = some (.cells #[.int .i64 0, .int .i64 0, .string (⟨#[]⟩ : ByteArray), .slice none 0 0] 29 (0, 0))) ∧ Aside0 (w34.heap[gb345]? = some (.cells #[.int .i64 t339, .int .i64 t346, .string (⟨#[]⟩ : ByteArray), .slice none 0 0] 29 (0, 0))) ∧ Aside0 (Below w.heap.size w w34) := ⟨⟨(by rw [hw]; exact (by refine kr ?_; exact Kd.R_mono (rf4 gb338 (.int .i64 0) (.int .i64 0) (.string (⟨#[]⟩ : ByteArray)) (.slice none 0 0) (Kd.R_types HO344.out BK338.out (by decide)) (fun _ hk => hk.2)) (fun _ hk => trivial)))⟩, ⟨(by rw [hw]; exact (by refine zr ?_; exact bp4 (zb BK338.out)))⟩, ⟨(by rw [hw]; exact (by refine zr ?_; refine blk_far ?_ NB345_338.out _; refine zr ?_; refine blk_far ?_ NB345_338.out _; refine zr ?_; refine blk_far ?_ NB345_338.out _; refine zr ?_; refine blk_far ?_ NB345_338.out _; refine zr ?_; exact BK345.out))⟩, ⟨(by rw [hw]; exact (bq2 HB.out GE338.out GE345.out))⟩⟩; clear hw HO344 BK338 BK345 HB; obtain ⟨HO344, BK338, BK345, HB⟩ := n_))
     refine bodyPost_ret (results_ctt rfl _ _ gb338 29 #[.int .i64 0, .int .i64 0, .string (⟨#[]⟩ : ByteArray), .slice none 0 0] (0, 0) _ rfl (zq BK338.out) Try.underlying29 rfl (by kernel_rfl)) rfl ?_
     exact ⟨_, rq, rn, bq2 HB.out GE338.out GE345.out⟩
   subst c9
   replace H : (some (t339, t346, (⟨#[]⟩ : ByteArray), ([] : List Int), t341, true)) = some (r1, r2, r3, r4, r5, r6) := by rw [if_pos rfl] at H; exact H
   simp only [Option.some.injEq, Prod.mk.injEq] at H
   obtain ⟨rfl, rfl, rfl, rfl, rfl, rfl⟩ := H
   go_enter Try.func36, Try.ntmps36
   go_wp2_with (first | ((with_reducible refine gate_dst (N := 4) rfl ?_); refine bxe 4 #[.int .i64 0, .int .i64 0, .string (⟨#[]⟩ : ByteArray), .slice none 0 0] 29 ?_; intro gb338 hg w10 hbox hb; have n_ := ak4 (below_step (bq HB.out) hb) hbox ((by rw [hg]; exact (below_size (bq HB.out)) : w.heap.size ≤ gb338)) ((by rw [hg]; exact (below_size (bq HB.out)) : w.heap.size ≤ gb338)); clear HB; obtain ⟨HB, BK338, GW338, GE338⟩ := n_; clear hb hbox hg) | ((with_reducible refine gate_callee (f := 91) rfl ?_); refine goesL_ (some 15) rfl rfl Try.func91 (by kernel_rfl) rfl #[.slice A0 l0.length c0, .int .i64 a1] rfl ga ?_; (with_reducible refine (impl_GetTlv.calls k _ _ l0 a1 t339 t340 t341 true _ ?side1 ?side2 A3.out).mono ?_); (case side1 => exact cq (Kd.C_below HR0.out HB.out)); (case side2 => exact HC0.out); rintro e w11 ⟨v343, rfl, ho0, hb⟩; refine ⟨_, rfl, ?_⟩; have n_ := ak3 (Kd.R_lower ho0 (below_size (bq1 HB.out GE338.out))) (blk_below (zb BK338.out) hb) (below_step (bq1 HB.out GE338.out) hb); clear BK338 HB; obtain ⟨HO344, BK338, HB⟩ := n_; (try clear hb ho0)) | ((with_reducible refine gate_dst (N := 11) rfl ?_); refine bxe 11 #[.int .i64 0, .int .i64 0, .string (⟨#[]⟩ : ByteArray), .slice none 0 0] 29 ?_; intro gb345 hg w12 hbox hb; have n_ := ak8 (Kd.R_below (kqR HO344.out) hb) (blk_below (zb BK338.out) hb) (below_step (bq1 HB.out GE338.out) hb) hbox ((by rw [hg]; exact (below_size (bq1 HB.out GE338.out)) : w.heap.size ≤ gb345)) ((by rw [hg]; exact (below_size (bq1 HB.out GE338.out)) : w.heap.size ≤ gb345)) ((nlt hg (zb BK338.out) : gb338 ≠ gb345)) ((ngt hg (zb BK338.out) : gb345 ≠ gb338)); clear HO344 BK338 HB; obtain ⟨HO344, BK338, HB, BK345, GW345, GE345, NB338_345, NB345_338⟩ := n_; clear hb hbox hg; have hnb13 := NB345_338.out; have hnc13 := NB338_345.out; obtain ⟨hcz14_0, hcz14_1, hcz14_2, hcz14_3, hfz14_0, hfz14_1, hfz14_2, hfz14_3⟩ := cl4 BK345.out) | ((with_reducible refine gate_store (t := 29) (p := 11) rfl ?_); refine store_event (t := 29) (p := 11) (v := ?vo_w15) (w1 := ((((w12.setCell ⟨gb345, 0, none⟩ (.int .i64 t339)).setCell ⟨gb345, 1, none⟩ (.int .i64 0)).setCell ⟨gb345, 2, none⟩ (.string (⟨#[]⟩ : ByteArray))).setCell ⟨gb345, 3, none⟩ (.slice none 0 0))) ?hg ?ho ?hn ?hr ?_; (case ho => rfl); (case hg => rfl); (case hn => rfl); (case hr => exact gs); intro w15 hw; have n_ : Aside0 (Kd.R (Kd.int .u8) 5 w15 w.heap.size (fun _ => True) v343 t340) ∧ Aside0 (w15.heap[gb338]? = some (.cells #[.int .i64 0, .int .i64 0, .string (⟨#[]⟩ : ByteArray), .slice none 0 0] 29 (0, 0))) ∧ Aside0 (w15.heap[gb345]? = some (.cells #[.int .i64 t339, .int .i64 0, .string (⟨#[]⟩ : ByteArray), .slice none 0 0] 29 (0, 0))) ∧ Aside0 (Below w.heap.size w w15) := ⟨⟨(by rw [hw]; exact (by refine kr ?_; exact Kd.R_mono (rf4 gb345 (.int .i64 t339) (.int .i64 0) (.string (⟨#[]⟩ : ByteArray)) (.slice none 0 0) (Kd.R_types HO344.out BK345.out (by decide)) (fun _ hk => hk.2)) (fun _ hk => trivial)))⟩, ⟨(by rw [hw]; exact (by refine zr ?_; refine blk_far ?_ NB338_345.out _; refine zr ?_; refine blk_far ?_ NB338_345.out _; refine zr ?_; refine blk_far ?_ NB338_345.out _; refine zr ?_; refine blk_far ?_ NB338_345.out _; refine zr ?_; exact BK338.out))⟩, ⟨(by rw [hw]; exact (by refine zr ?_; exact bp4 (zb BK345.out)))⟩, ⟨(by rw [hw]; exact (bq2 HB.out GE338.out GE345.out))⟩⟩; clear hw HO344 BK338 BK345 HB; obtain ⟨HO344, BK338, BK345, HB⟩ := n_; obtain ⟨Ao16, co16, eo16⟩ := Kd.R_slice HO344.out; subst eo16) | ((with_reducible refine gate_callee (f := 92) rfl ?_); refine goesL_ (some 33) rfl rfl Try.func92 (by kernel_rfl) rfl #[.slice Ao16 t340.length co16] rfl ga ?_; (with_reducible refine (impl_GetInt.calls k _ _ t340 t346 true _ ?side1 ?side2 A6.out).mono ?_); (case side1 => repeat (first | exact (Kd.R_reads' HO344.out).2.2 | (with_reducible refine Kd.C_alloc ?_ _) | (with_reducible refine Kd.C_drewN ?_ _) | (with_reducible refine Kd.C_drew ?_))); (case side2 => exact (Kd.R_reads' HO344.out).2.1); rintro e w17 ⟨rfl, hb⟩; refine ⟨_, rfl, ?_⟩; have n_ := ak4 (Kd.R_below (kqR HO344.out) hb) (blk_below (zb BK338.out) hb) (blk_below (zb BK345.out) hb) (below_step (bq2 HB.out GE338.out GE345.out) hb); clear HO344 BK338 BK345 HB; obtain ⟨HO344, BK338, BK345, HB⟩ := n_; (try clear hb); obtain ⟨hcz18_0, hcz18_1, hcz18_2, hcz18_3, hfz18_0, hfz18_1, hfz18_2, hfz18_3⟩ := cl4 BK345.out) | (go_at_call 46; (refine (impl_ValOk.calls k t339 t346 (⟨#[]⟩ : ByteArray) _ _ ([] : List Int) true _ ?side1 ?side2 A8.out).mono ?_); (case side1 => exact Kd.C_nil _ _); (case side2 => exact Nat.le_refl _); rintro e w19 ⟨rfl, hb⟩; have n_ := ak4 (Kd.R_below (by refine kr ?_; exact (Kd.R_mono (Kd.R_far (p := ⟨gb345, 1, none⟩) (Kd.R_types HO344.out BK345.out (by decide)) (fun _ hk => hk.2) (.int .i64 t346)) (fun _ h_ => h_.1))) hb) (blk_below (g := gb338) (o := .cells #[.int .i64 0, .int .i64 0, .string (⟨#[]⟩ : ByteArray), .slice none 0 0] 29 (0, 0)) (by refine zr ?_; refine blk_far ?_ NB338_345.out _; refine zr ?_; exact BK338.out) hb) (blk_below (g := gb345) (o := .cells #[.int .i64 t339, .int .i64 t346, .string (⟨#[]⟩ : ByteArray), .slice none 0 0] 29 (0, 0)) (by refine zr ?_; refine blk_put (cs := #[.int .i64 t339, .int .i64 0, .string (⟨#[]⟩ : ByteArray), .slice none 0 0]) ?_ 1 _ rfl; refine zr ?_; exact BK345.out) hb) (below_step (bq2 HB.out GE338.out GE345.out) hb); clear HO344 BK338 BK345 HB; obtain ⟨HO344, BK338, BK345, HB⟩ := n_; (try clear hb); obtain ⟨hcz20_0, hcz20_1, hcz20_2, hcz20_3, hfz20_0, hfz20_1, hfz20_2, hfz20_3⟩ := cl4 BK345.out; obtain ⟨hcz21_0, hcz21_1, hcz21_2, hcz21_3, hfz21_0, hfz21_1, hfz21_2, hfz21_3⟩ := cl4 BK338.out) | ((with_reducible refine gate_store (t := 29) (p := 4) rfl ?_); refine store_event (t := 29) (p := 4) (v := ?vo_w22) (w1 := ((((w19.setCell ⟨gb338, 0, none⟩ (.int .i64 t339)).setCell ⟨gb338, 1, none⟩ (.int .i64 t346)).setCell ⟨gb338, 2, none⟩ (.string (⟨#[]⟩ : ByteArray))).setCell ⟨gb338, 3, none⟩ (.slice none 0 0))) ?hg ?ho ?hn ?hr ?_; (case ho => rfl); (case hg => rfl); (case hn => rfl); (case hr => exact gs); intro w22 hw; have n_ : Aside0 (Kd.R (Kd.int .u8) 5 w22 w.heap.size (fun _ => True) (.slice Ao16 t340.length co16) t340) ∧ Aside0 (w22.heap[gb338]? = some (.cells #[.int .i64 t339, .int .i64 t346, .string (⟨#[]⟩ : ByteArray), .slice none 0 0] 29 (0, 0))) ∧ Aside0 (w22.heap[gb345]? = some (.cells #[.int .i64 t339, .int .i64 t346, .string (⟨#[]⟩ : ByteArray), .slice none 0 0] 29 (0, 0))) ∧ Aside0 (Below w.heap.size w w22) := ⟨⟨(by rw [hw]; exact (by refine kr ?_; exact Kd.R_mono (rf4 gb338 (.int .i64 t339) (.int .i64 t346) (.string (⟨#[]⟩ : ByteArray)) (.slice none 0 0) (Kd.R_types HO344.out BK338.out (by decide)) (fun _ hk => hk.2)) (fun _ hk => trivial)))⟩, ⟨(by rw [hw]; exact (by refine zr ?_; exact bp4 (zb BK338.out)))⟩, ⟨(by rw [hw]; exact (by refine zr ?_; refine blk_far ?_ NB345_338.out _; refine zr ?_; refine blk_far ?_ NB345_338.out _; refine zr ?_; refine blk_far ?_ NB345_338.out _; refine zr ?_; refine blk_far ?_ NB345_338.out _; refine zr ?_; exact BK345.out))⟩, ⟨(by rw [hw]; exact (bq2 HB.out GE338.out GE345.out))⟩⟩; clear hw HO344 BK338 BK345 HB; obtain ⟨HO344, BK338, BK345, HB⟩ := n_))
   refine bodyPost_ret (results_ctt rfl _ _ gb338 29 #[.int .i64 t339, .int .i64 t346, .string (⟨#[]⟩ : ByteArray), .slice none 0 0] (0, 0) _ rfl (zq BK338.out) Try.underlying29 rfl (by kernel_rfl)) rfl ?_
   exact ⟨_, rq, rn, bq2 HB.out GE338.out GE345.out⟩
 rw [if_neg c5] at H
 have c5b0 : (t339 == 2) = false := beq_eq_false_iff_ne.mpr c5
 have c5b1 : (t339 != 2) = true := bne_iff_ne.mpr c5
 by_cases c46 : t339 = 4
 · rw [if_pos c46] at H
   have c46b0 : (t339 == 4) = true := beq_iff_eq.mpr c46
   have c46b1 : (t339 != 4) = false := bne_eq_false_iff_eq.mpr c46
   clear c46
   replace H := Option.bind_eq_some_iff.mp H
   obtain ⟨t349, A470, H⟩ := H
   replace H : (if t349 = true then (some (t339, 0, strOfNums t340, ([] : List Int), t341, true)) else (some (0, 0, (⟨#[]⟩ : ByteArray), ([] : List Int), 0, false))) = some (r1, r2, r3, r4, r5, r6) := H
   have A47 := am A470
   clear A470
   by_cases c48 : t349 = true
   rotate_left
   · replace c48 := Bool.eq_false_iff.mpr c48
     subst c48
     replace H : (some (0, 0, (⟨#[]⟩ : ByteArray), ([] : List Int), 0, false)) = some (r1, r2, r3, r4, r5, r6) := by rw [if_neg (show ¬ (false = true) by decide)] at H; exact H
     simp only [Option.some.injEq, Prod.mk.injEq] at H
     obtain ⟨rfl, rfl, rfl, rfl, rfl, rfl⟩ := H
     go_enter Try.func36, Try.ntmps36
     go_wp2_with (first | ((with_reducible refine gate_dst (N := 4) rfl ?_); refine bxe 4 #[.int .i64 0, .int .i64 0, .string (⟨#[]⟩ : ByteArray), .slice none 0 0] 29 ?_; intro gb338 hg w61 hbox hb; have n_ := ak4 (below_step (bq HB.out) hb) hbox ((by rw [hg]; exact (below_size (bq HB.out)) : w.heap.size ≤ gb338)) ((by rw [hg]; exact (below_size (bq HB.out)) : w.heap.size ≤ gb338)); clear HB; obtain ⟨HB, BK338, GW338, GE338⟩ := n_; clear hb hbox hg) | ((with_reducible refine gate_callee (f := 91) rfl ?_); refine goesL_ (some 15) rfl rfl Try.func91 (by kernel_rfl) rfl #[.slice A0 l0.length c0, .int .i64 a1] rfl ga ?_; (with_reducible refine (impl_GetTlv.calls k _ _ l0 a1 t339 t340 t341 true _ ?side1 ?side2 A3.out).mono ?_); (case side1 => exact cq (Kd.C_below HR0.out HB.out)); (case side2 => exact HC0.out); rintro e w62 ⟨v343, rfl, ho0, hb⟩; refine ⟨_, rfl, ?_⟩; have n_ := ak3 (Kd.R_lower ho0 (below_size (bq1 HB.out GE338.out))) (blk_below (zb BK338.out) hb) (below_step (bq1 HB.out GE338.out) hb); clear BK338 HB; obtain ⟨HO344, BK338, HB⟩ := n_; (try clear hb ho0)) | ((with_reducible refine gate_dst (N := 11) rfl ?_); refine bxe 11 #[.int .i64 0, .int .i64 0, .string (⟨#[]⟩ : ByteArray), .slice none 0 0] 29 ?_; intro gb345 hg w63 hbox hb; have n_ := ak8 (Kd.R_below (kqR HO344.out) hb) (blk_below (zb BK338.out) hb) (below_step (bq1 HB.out GE338.out) hb) hbox ((by rw [hg]; exact (below_size (bq1 HB.out GE338.out)) : w.heap.size ≤ gb345)) ((by rw [hg]; exact (below_size (bq1 HB.out GE338.out)) : w.heap.size ≤ gb345)) ((nlt hg (zb BK338.out) : gb338 ≠ gb345)) ((ngt hg (zb BK338.out) : gb345 ≠ gb338)); clear HO344 BK338 HB; obtain ⟨HO344, BK338, HB, BK345, GW345, GE345, NB338_345, NB345_338⟩ := n_; clear hb hbox hg; have hnb64 := NB345_338.out; have hnc64 := NB338_345.out; obtain ⟨hcz65_0, hcz65_1, hcz65_2, hcz65_3, hfz65_0, hfz65_1, hfz65_2, hfz65_3⟩ := cl4 BK345.out) | ((with_reducible refine gate_store (t := 29) (p := 11) rfl ?_); refine store_event (t := 29) (p := 11) (v := ?vo_w66) (w1 := ((((w63.setCell ⟨gb345, 0, none⟩ (.int .i64 t339)).setCell ⟨gb345, 1, none⟩ (.int .i64 0)).setCell ⟨gb345, 2, none⟩ (.string (⟨#[]⟩ : ByteArray))).setCell ⟨gb345, 3, none⟩ (.slice none 0 0))) ?hg ?ho ?hn ?hr ?_; (case ho => rfl); (case hg => rfl); (case hn => rfl); (case hr => exact gs); intro w66 hw; have n_ : Aside0 (Kd.R (Kd.int .u8) 5 w66 w.heap.size (fun _ => True) v343 t340) ∧ Aside0 (w66.heap[gb338]? = some (.cells #[.int .i64 0, .int .i64 0, .string (⟨#[]⟩ : ByteArray), .slice none 0 0] 29 (0, 0))) ∧ Aside0 (w66.heap[gb345]? = some (.cells #[.int .i64 t339, .int .i64 0, .string (⟨#[]⟩ : ByteArray), .slice none 0 0] 29 (0, 0))) ∧ Aside0 (Below w.heap.size w w66) := ⟨⟨(by rw [hw]; exact (by refine kr ?_; exact Kd.R_mono (rf4 gb345 (.int .i64 t339) (.int .i64 0) (.string (⟨#[]⟩ : ByteArray)) (.slice none 0 0) (Kd.R_types HO344.out BK345.out (by decide)) (fun _ hk => hk.2)) (fun _ hk => trivial)))⟩, ⟨(by rw [hw]; exact (by refine zr ?_; refine blk_far ?_ NB338_345.out _; refine zr ?_; refine blk_far ?_ NB338_345.out _; refine zr ?_; refine blk_far ?_ NB338_345.out _; refine zr ?_; refine blk_far ?_ NB338_345.out _; refine zr ?_; exact BK338.out))⟩, ⟨(by rw [hw]; exact (by refine zr ?_; exact bp4 (zb BK345.out)))⟩, ⟨(by rw [hw]; exact (bq2 HB.out GE338.out GE345.out))⟩⟩; clear hw HO344 BK338 BK345 HB; obtain ⟨HO344, BK338, BK345, HB⟩ := n_; have hcv67 := own_string (P := Try.prog) Try.underlying22 Try.underlying5 Try.underlying9 (Kd.own_of_R HO344.out); obtain ⟨hcz68_0, hcz68_1, hcz68_2, hcz68_3, hfz68_0, hfz68_1, hfz68_2, hfz68_3⟩ := cl4 BK345.out) | (go_at_call 46; (refine (impl_ValOk.calls k t339 0 (strOfNums t340) _ _ ([] : List Int) false _ ?side1 ?side2 A47.out).mono ?_); (case side1 => exact Kd.C_nil _ _); (case side2 => exact Nat.le_refl _); rintro e w69 ⟨rfl, hb⟩; have n_ := ak4 (Kd.R_below (by refine kr ?_; exact (Kd.R_mono (Kd.R_far (p := ⟨gb345, 2, none⟩) (Kd.R_types HO344.out BK345.out (by decide)) (fun _ hk => hk.2) (.string (strOfNums t340))) (fun _ h_ => h_.1))) hb) (blk_below (g := gb338) (o := .cells #[.int .i64 0, .int .i64 0, .string (⟨#[]⟩ : ByteArray), .slice none 0 0] 29 (0, 0)) (by refine zr ?_; refine blk_far ?_ NB338_345.out _; refine zr ?_; exact BK338.out) hb) (blk_below (g := gb345) (o := .cells #[.int .i64 t339, .int .i64 0, .string (strOfNums t340), .slice none 0 0] 29 (0, 0)) (by refine zr ?_; refine blk_put (cs := #[.int .i64 t339, .int .i64 0, .string (⟨#[]⟩ : ByteArray), .slice none 0 0]) ?_ 2 _ rfl; refine zr ?_; exact BK345.out) hb) (below_step (bq2 HB.out GE338.out GE345.out) hb); clear HO344 BK338 BK345 HB; obtain ⟨HO344, BK338, BK345, HB⟩ := n_; (try clear hb); obtain ⟨hcz70_0, hcz70_1, hcz70_2, hcz70_3, hfz70_0, hfz70_1, hfz70_2, hfz70_3⟩ := cl4 BK338.out) | ((with_reducible refine gate_store (t := 29) (p := 4) rfl ?_); refine store_event (t := 29) (p := 4) (v := ?vo_w71) (w1 := ((((w69.setCell ⟨gb338, 0, none⟩ (.int .i64 0)).setCell ⟨gb338, 1, none⟩ (.int .i64 0)).setCell ⟨gb338, 2, none⟩ (.string (⟨#[]⟩ : ByteArray))).setCell ⟨gb338, 3, none⟩ (.slice none 0 0))) ?hg ?ho ?hn ?hr ?_; (case ho => rfl); (case hg => rfl); (case hn => rfl); (case hr => exact gs); intro w71 hw; have n_ : Aside0 (Kd.R (Kd.int .u8) 5 w71 w.heap.size (fun _ => True) v343 t340) ∧ Aside0 (w71.heap[gb338]? = some (.cells #[.int .i64 0, .int .i64 0, .string (⟨#[]⟩ : ByteArray), .slice none 0 0] 29 (0, 0))) ∧ Aside0 (w71.heap[gb345]? = some (.cells #[.int .i64 t339, .int .i64 0, .string (strOfNums t340), .slice none 0 0] 29 (0, 0))) ∧ Aside0 (Below w.heap.size w w71) := ⟨⟨(by rw [hw]; exact (by refine kr ?_; exact Kd.R_mono (rf4 gb338 (.int .i64 0) (.int .i64 0) (.string (⟨#[]⟩ : ByteArray)) (.slice none 0 0) (Kd.R_types HO344.out BK338.out (by decide)) (fun _ hk => hk.2)) (fun _ hk => trivial)))⟩, ⟨(by rw [hw]; exact (by refine zr ?_; exact bp4 (zb BK338.out)))⟩, ⟨(by rw [hw]; exact (by refine zr ?_; refine blk_far ?_ NB345_338.out _; refine zr ?_; refine blk_far ?_ NB345_338.out _; refine zr ?_; refine blk_far ?_ NB345_338.out _; refine zr ?_; refine blk_far ?_ NB345_338.out _; refine zr ?_; exact BK345.out))⟩, ⟨(by rw [hw]; exact (bq2 HB.out GE338.out GE345.out))⟩⟩; clear hw HO344 BK338 BK345 HB; obtain ⟨HO344, BK338, BK345, HB⟩ := n_))
     refine bodyPost_ret (results_ctt rfl _ _ gb338 29 #[.int .i64 0, .int .i64 0, .string (⟨#[]⟩ : ByteArray), .slice none 0 0] (0, 0) _ rfl (zq BK338.out) Try.underlying29 rfl (by kernel_rfl)) rfl ?_
     exact ⟨_, rq, rn, bq2 HB.out GE338.out GE345.out⟩
   subst c48
   replace H : (some (t339, 0, strOfNums t340, ([] : List Int), t341, true)) = some (r1, r2, r3, r4, r5, r6) := by rw [if_pos rfl] at H; exact H
   simp only [Option.some.injEq, Prod.mk.injEq] at H
   obtain ⟨rfl, rfl, rfl, rfl, rfl, rfl⟩ := H
   go_enter Try.func36, Try.ntmps36
   go_wp2_with (first | ((with_reducible refine gate_dst (N := 4) rfl ?_); refine bxe 4 #[.int .i64 0, .int .i64 0, .string (⟨#[]⟩ : ByteArray), .slice none 0 0] 29 ?_; intro gb338 hg w49 hbox hb; have n_ := ak4 (below_step (bq HB.out) hb) hbox ((by rw [hg]; exact (below_size (bq HB.out)) : w.heap.size ≤ gb338)) ((by rw [hg]; exact (below_size (bq HB.out)) : w.heap.size ≤ gb338)); clear HB; obtain ⟨HB, BK338, GW338, GE338⟩ := n_; clear hb hbox hg) | ((with_reducible refine gate_callee (f := 91) rfl ?_); refine goesL_ (some 15) rfl rfl Try.func91 (by kernel_rfl) rfl #[.slice A0 l0.length c0, .int .i64 a1] rfl ga ?_; (with_reducible refine (impl_GetTlv.calls k _ _ l0 a1 t339 t340 t341 true _ ?side1 ?side2 A3.out).mono ?_); (case side1 => exact cq (Kd.C_below HR0.out HB.out)); (case side2 => exact HC0.out); rintro e w50 ⟨v343, rfl, ho0, hb⟩; refine ⟨_, rfl, ?_⟩; have n_ := ak3 (Kd.R_lower ho0 (below_size (bq1 HB.out GE338.out))) (blk_below (zb BK338.out) hb) (below_step (bq1 HB.out GE338.out) hb); clear BK338 HB; obtain ⟨HO344, BK338, HB⟩ := n_; (try clear hb ho0)) | ((with_reducible refine gate_dst (N := 11) rfl ?_); refine bxe 11 #[.int .i64 0, .int .i64 0, .string (⟨#[]⟩ : ByteArray), .slice none 0 0] 29 ?_; intro gb345 hg w51 hbox hb; have n_ := ak8 (Kd.R_below (kqR HO344.out) hb) (blk_below (zb BK338.out) hb) (below_step (bq1 HB.out GE338.out) hb) hbox ((by rw [hg]; exact (below_size (bq1 HB.out GE338.out)) : w.heap.size ≤ gb345)) ((by rw [hg]; exact (below_size (bq1 HB.out GE338.out)) : w.heap.size ≤ gb345)) ((nlt hg (zb BK338.out) : gb338 ≠ gb345)) ((ngt hg (zb BK338.out) : gb345 ≠ gb338)); clear HO344 BK338 HB; obtain ⟨HO344, BK338, HB, BK345, GW345, GE345, NB338_345, NB345_338⟩ := n_; clear hb hbox hg; have hnb52 := NB345_338.out; have hnc52 := NB338_345.out; obtain ⟨hcz53_0, hcz53_1, hcz53_2, hcz53_3, hfz53_0, hfz53_1, hfz53_2, hfz53_3⟩ := cl4 BK345.out) | ((with_reducible refine gate_store (t := 29) (p := 11) rfl ?_); refine store_event (t := 29) (p := 11) (v := ?vo_w54) (w1 := ((((w51.setCell ⟨gb345, 0, none⟩ (.int .i64 t339)).setCell ⟨gb345, 1, none⟩ (.int .i64 0)).setCell ⟨gb345, 2, none⟩ (.string (⟨#[]⟩ : ByteArray))).setCell ⟨gb345, 3, none⟩ (.slice none 0 0))) ?hg ?ho ?hn ?hr ?_; (case ho => rfl); (case hg => rfl); (case hn => rfl); (case hr => exact gs); intro w54 hw; have n_ : Aside0 (Kd.R (Kd.int .u8) 5 w54 w.heap.size (fun _ => True) v343 t340) ∧ Aside0 (w54.heap[gb338]? = some (.cells #[.int .i64 0, .int .i64 0, .string (⟨#[]⟩ : ByteArray), .slice none 0 0] 29 (0, 0))) ∧ Aside0 (w54.heap[gb345]? = some (.cells #[.int .i64 t339, .int .i64 0, .string (⟨#[]⟩ : ByteArray), .slice none 0 0] 29 (0, 0))) ∧ Aside0 (Below w.heap.size w w54) := ⟨⟨(by rw [hw]; exact (by refine kr ?_; exact Kd.R_mono (rf4 gb345 (.int .i64 t339) (.int .i64 0) (.string (⟨#[]⟩ : ByteArray)) (.slice none 0 0) (Kd.R_types HO344.out BK345.out (by decide)) (fun _ hk => hk.2)) (fun _ hk => trivial)))⟩, ⟨(by rw [hw]; exact (by refine zr ?_; refine blk_far ?_ NB338_345.out _; refine zr ?_; refine blk_far ?_ NB338_345.out _; refine zr ?_; refine blk_far ?_ NB338_345.out _; refine zr ?_; refine blk_far ?_ NB338_345.out _; refine zr ?_; exact BK338.out))⟩, ⟨(by rw [hw]; exact (by refine zr ?_; exact bp4 (zb BK345.out)))⟩, ⟨(by rw [hw]; exact (bq2 HB.out GE338.out GE345.out))⟩⟩; clear hw HO344 BK338 BK345 HB; obtain ⟨HO344, BK338, BK345, HB⟩ := n_; have hcv55 := own_string (P := Try.prog) Try.underlying22 Try.underlying5 Try.underlying9 (Kd.own_of_R HO344.out); obtain ⟨hcz56_0, hcz56_1, hcz56_2, hcz56_3, hfz56_0, hfz56_1, hfz56_2, hfz56_3⟩ := cl4 BK345.out) | (go_at_call 46; (refine (impl_ValOk.calls k t339 0 (strOfNums t340) _ _ ([] : List Int) true _ ?side1 ?side2 A47.out).mono ?_); (case side1 => exact Kd.C_nil _ _); (case side2 => exact Nat.le_refl _); rintro e w57 ⟨rfl, hb⟩; have n_ := ak4 (Kd.R_below (by refine kr ?_; exact (Kd.R_mono (Kd.R_far (p := ⟨gb345, 2, none⟩) (Kd.R_types HO344.out BK345.out (by decide)) (fun _ hk => hk.2) (.string (strOfNums t340))) (fun _ h_ => h_.1))) hb) (blk_below (g := gb338) (o := .cells #[.int .i64 0, .int .i64 0, .string (⟨#[]⟩ : ByteArray), .slice none 0 0] 29 (0, 0)) (by refine zr ?_; refine blk_far ?_ NB338_345.out _; refine zr ?_; exact BK338.out) hb) (blk_below (g := gb345) (o := .cells #[.int .i64 t339, .int .i64 0, .string (strOfNums t340), .slice none 0 0] 29 (0, 0)) (by refine zr ?_; refine blk_put (cs := #[.int .i64 t339, .int .i64 0, .string (⟨#[]⟩ : ByteArray), .slice none 0 0]) ?_ 2 _ rfl; refine zr ?_; exact BK345.out) hb) (below_step (bq2 HB.out GE338.out GE345.out) hb); clear HO344 BK338 BK345 HB; obtain ⟨HO344, BK338, BK345, HB⟩ := n_; (try clear hb); obtain ⟨hcz58_0, hcz58_1, hcz58_2, hcz58_3, hfz58_0, hfz58_1, hfz58_2, hfz58_3⟩ := cl4 BK345.out; obtain ⟨hcz59_0, hcz59_1, hcz59_2, hcz59_3, hfz59_0, hfz59_1, hfz59_2, hfz59_3⟩ := cl4 BK338.out) | ((with_reducible refine gate_store (t := 29) (p := 4) rfl ?_); refine store_event (t := 29) (p := 4) (v := ?vo_w60) (w1 := ((((w57.setCell ⟨gb338, 0, none⟩ (.int .i64 t339)).setCell ⟨gb338, 1, none⟩ (.int .i64 0)).setCell ⟨gb338, 2, none⟩ (.string (strOfNums t340))).setCell ⟨gb338, 3, none⟩ (.slice none 0 0))) ?hg ?ho ?hn ?hr ?_; (case ho => rfl); (case hg => rfl); (case hn => rfl); (case hr => exact gs); intro w60 hw; have n_ : Aside0 (Kd.R (Kd.int .u8) 5 w60 w.heap.size (fun _ => True) v343 t340) ∧ Aside0 (w60.heap[gb338]? = some (.cells #[.int .i64 t339, .int .i64 0, .string (strOfNums t340), .slice none 0 0] 29 (0, 0))) ∧ Aside0 (w60.heap[gb345]? = some (.cells #[.int .i64 t339, .int .i64 0, .string (strOfNums t340), .slice none 0 0] 29 (0, 0))) ∧ Aside0 (Below w.heap.size w w60) := ⟨⟨(by rw [hw]; exact (by refine kr ?_; exact Kd.R_mono (rf4 gb338 (.int .i64 t339) (.int .i64 0) (.string (strOfNums t340)) (.slice none 0 0) (Kd.R_types HO344.out BK338.out (by decide)) (fun _ hk => hk.2)) (fun _ hk => trivial)))⟩, ⟨(by rw [hw]; exact (by refine zr ?_; exact bp4 (zb BK338.out)))⟩, ⟨(by rw [hw]; exact (by refine zr ?_; refine blk_far ?_ NB345_338.out _; refine zr ?_; refine blk_far ?_ NB345_338.out _; refine zr ?_; refine blk_far ?_ NB345_338.out _; refine zr ?_; refine blk_far ?_ NB345_338.out _; refine zr ?_; exact BK345.out))⟩, ⟨(by rw [hw]; exact (bq2 HB.out GE338.out GE345.out))⟩⟩; clear hw HO344 BK338 BK345 HB; obtain ⟨HO344, BK338, BK345, HB⟩ := n_))
   refine bodyPost_ret (results_ctt rfl _ _ gb338 29 #[.int .i64 t339, .int .i64 0, .string (strOfNums t340), .slice none 0 0] (0, 0) _ rfl (zq BK338.out) Try.underlying29 rfl (by kernel_rfl)) rfl ?_
   exact ⟨_, rq, rn, bq2 HB.out GE338.out GE345.out⟩
 rw [if_neg c46] at H
 have c46b0 : (t339 == 4) = false := beq_eq_false_iff_ne.mpr c46
 have c46b1 : (t339 != 4) = true := bne_iff_ne.mpr c46
 by_cases c72 : t339 = 6
 rotate_left
 · rw [if_neg c72] at H
   have c72b0 : (t339 == 6) = false := beq_eq_false_iff_ne.mpr c72
   have c72b1 : (t339 != 6) = true := bne_iff_ne.mpr c72
   by_cases c116 : ((t340.length : Int) = 0)
   rotate_left
   · rw [if_neg c116] at H
     have c116b0 : ((t340.length : Int) == 0) = false := beq_eq_false_iff_ne.mpr c116
     have c116b1 : ((t340.length : Int) != 0) = true := bne_iff_ne.mpr c116
     have c116b2 : ¬ (t340 = []) := fun h_ => c116 (by rw [h_]; rfl)
     simp only [Option.some.injEq, Prod.mk.injEq] at H
     obtain ⟨rfl, rfl, rfl, rfl, rfl, rfl⟩ := H
     go_enter Try.func36, Try.ntmps36
     go_wp2_with (first | ((with_reducible refine gate_dst (N := 4) rfl ?_); refine bxe 4 #[.int .i64 0, .int .i64 0, .string (⟨#[]⟩ : ByteArray), .slice none 0 0] 29 ?_; intro gb338 hg w142 hbox hb; have n_ := ak4 (below_step (bq HB.out) hb) hbox ((by rw [hg]; exact (below_size (bq HB.out)) : w.heap.size ≤ gb338)) ((by rw [hg]; exact (below_size (bq HB.out)) : w.heap.size ≤ gb338)); clear HB; obtain ⟨HB, BK338, GW338, GE338⟩ := n_; clear hb hbox hg) | ((with_reducible refine gate_callee (f := 91) rfl ?_); refine goesL_ (some 15) rfl rfl Try.func91 (by kernel_rfl) rfl #[.slice A0 l0.length c0, .int .i64 a1] rfl ga ?_; (with_reducible refine (impl_GetTlv.calls k _ _ l0 a1 t339 t340 t341 true _ ?side1 ?side2 A3.out).mono ?_); (case side1 => exact cq (Kd.C_below HR0.out HB.out)); (case side2 => exact HC0.out); rintro e w143 ⟨v343, rfl, ho0, hb⟩; refine ⟨_, rfl, ?_⟩; have n_ := ak3 (Kd.R_lower ho0 (below_size (bq1 HB.out GE338.out))) (blk_below (zb BK338.out) hb) (below_step (bq1 HB.out GE338.out) hb); clear BK338 HB; obtain ⟨HO344, BK338, HB⟩ := n_; (try clear hb ho0)) | ((with_reducible refine gate_dst (N := 11) rfl ?_); refine bxe 11 #[.int .i64 0, .int .i64 0, .string (⟨#[]⟩ : ByteArray), .slice none 0 0] 29 ?_; intro gb345 hg w144 hbox hb; have n_ := ak8 (Kd.R_below (kqR HO344.out) hb) (blk_below (zb BK338.out) hb) (below_step (bq1 HB.out GE338.out) hb) hbox ((by rw [hg]; exact (below_size (bq1 HB.out GE338.out)) : w.heap.size ≤ gb345)) ((by rw [hg]; exact (below_size (bq1 HB.out GE338.out)) : w.heap.size ≤ gb345)) ((nlt hg (zb BK338.out) : gb338 ≠ gb345)) ((ngt hg (zb BK338.out) : gb345 ≠ gb338)); clear HO344 BK338 HB; obtain ⟨HO344, BK338, HB, BK345, GW345, GE345, NB338_345, NB345_338⟩ := n_; clear hb hbox hg; have hnb145 := NB345_338.out; have hnc145 := NB338_345.out; obtain ⟨hcz146_0, hcz146_1, hcz146_2, hcz146_3, hfz146_0, hfz146_1, hfz146_2, hfz146_3⟩ := cl4 BK345.out) | ((with_reducible refine gate_store (t := 29) (p := 11) rfl ?_); refine store_event (t := 29) (p := 11) (v := ?vo_w147) (w1 := ((((w144.setCell ⟨gb345, 0, none⟩ (.int .i64 t339)).setCell ⟨gb345, 1, none⟩ (.int .i64 0)).setCell ⟨gb345, 2, none⟩ (.string (⟨#[]⟩ : ByteArray))).setCell ⟨gb345, 3, none⟩ (.slice none 0 0))) ?hg ?ho ?hn ?hr ?_; (case ho => rfl); (case hg => rfl); (case hn => rfl); (case hr => exact gs); intro w147 hw; have n_ : Aside0 (Kd.R (Kd.int .u8) 5 w147 w.heap.size (fun _ => True) v343 t340) ∧ Aside0 (w147.heap[gb338]? = some (.cells #[.int .i64 0, .int .i64 0, .string (⟨#[]⟩ : ByteArray), .slice none 0 0] 29 (0, 0))) ∧ Aside0 (w147.heap[gb345]? = some (.cells #[.int .i64 t339, .int .i64 0, .string (⟨#[]⟩ : ByteArray), .slice none 0 0] 29 (0, 0))) ∧ Aside0 (Below w.heap.size w w147) := ⟨⟨(by rw [hw]; exact (by refine kr ?_; exact Kd.R_mono (rf4 gb345 (.int .i64 t339) (.int .i64 0) (.string (⟨#[]⟩ : ByteArray)) (.slice none 0 0) (Kd.R_types HO344.out BK345.out (by decide)) (fun _ hk => hk.2)) (fun _ hk => trivial)))⟩, ⟨(by rw [hw]; exact (by refine zr ?_; refine blk_far ?_ NB338_345.out _; refine zr ?_; refine blk_far ?_ NB338_345.out _; refine zr ?_; refine blk_far ?_ NB338_345.out _; refine zr ?_; refine blk_far ?_ NB338_345.out _; refine zr ?_; exact BK338.out))⟩, ⟨(by rw [hw]; exact (by refine zr ?_; exact bp4 (zb BK345.out)))⟩, ⟨(by rw [hw]; exact (bq2 HB.out GE338.out GE345.out))⟩⟩; clear hw HO344 BK338 BK345 HB; obtain ⟨HO344, BK338, BK345, HB⟩ := n_; obtain ⟨Ao148, co148, eo148⟩ := Kd.R_slice HO344.out; subst eo148; obtain ⟨hcz149_0, hcz149_1, hcz149_2, hcz149_3, hfz149_0, hfz149_1, hfz149_2, hfz149_3⟩ := cl4 BK338.out) | ((with_reducible refine gate_store (t := 29) (p := 4) rfl ?_); refine store_event (t := 29) (p := 4) (v := ?vo_w150) (w1 := ((((w147.setCell ⟨gb338, 0, none⟩ (.int .i64 0)).setCell ⟨gb338, 1, none⟩ (.int .i64 0)).setCell ⟨gb338, 2, none⟩ (.string (⟨#[]⟩ : ByteArray))).setCell ⟨gb338, 3, none⟩ (.slice none 0 0))) ?hg ?ho ?hn ?hr ?_; (case ho => rfl); (case hg => rfl); (case hn => rfl); (case hr => exact gs); intro w150 hw; have n_ : Aside0 (Kd.R (Kd.int .u8) 5 w150 w.heap.size (fun _ => True) (.slice Ao148 t340.length co148) t340) ∧ Aside0 (w150.heap[gb338]? = some (.cells #[.int .i64 0, .int .i64 0, .string (⟨#[]⟩ : ByteArray), .slice none 0 0] 29 (0, 0))) ∧ Aside0 (w150.heap[gb345]? = some (.cells #[.int .i64 t339, .int .i64 0, .string (⟨#[]⟩ : ByteArray), .slice none 0 0] 29 (0, 0))) ∧ Aside0 (Below w.heap.size w w150) := ⟨⟨(by rw [hw]; exact (by refine kr ?_; exact Kd.R_mono (rf4 gb338 (.int .i64 0) (.int .i64 0) (.string (⟨#[]⟩ : ByteArray)) (.slice none 0 0) (Kd.R_types HO344.out BK338.out (by decide)) (fun _ hk => hk.2)) (fun _ hk => trivial)))⟩, ⟨(by rw [hw]; exact (by refine zr ?_; exact bp4 (zb BK338.out)))⟩, ⟨(by rw [hw]; exact (by refine zr ?_; refine blk_far ?_ NB345_338.out _; refine zr ?_; refine blk_far ?_ NB345_338.out _; refine zr ?_; refine blk_far ?_ NB345_338.out _; refine zr ?_; refine blk_far ?_ NB345_338.out _; refine zr ?_; exact BK345.out))⟩, ⟨(by rw [hw]; exact (bq2 HB.out GE338.out GE345.out))⟩⟩; clear hw HO344 BK338 BK345 HB; obtain ⟨HO344, BK338, BK345, HB⟩ := n_))
     refine bodyPost_ret (results_ctt rfl _ _ gb338 29 #[.int .i64 0, .int .i64 0, .string (⟨#[]⟩ : ByteArray), .slice none 0 0] (0, 0) _ rfl (zq BK338.out) Try.underlying29 rfl (by kernel_rfl)) rfl ?_
     exact ⟨_, rq, rn, bq2 HB.out GE338.out GE345.out⟩
   rw [if_pos c116] at H
   have c116b0 : ((t340.length : Int) == 0) = true := beq_iff_eq.mpr c116
   have c116b1 : ((t340.length : Int) != 0) = false := bne_eq_false_iff_eq.mpr c116
   clear c116
   replace H := Option.bind_eq_some_iff.mp H
   obtain ⟨t355, A1170, H⟩ := H
   replace H : (if t355 = true then (some (t339, 0, (⟨#[]⟩ : ByteArray), ([] : List Int), t341, true)) else (some (0, 0, (⟨#[]⟩ : ByteArray), ([] : List Int), 0, false))) = some (r1, r2, r3, r4, r5, r6) := H
   have A117 := am A1170
   clear A1170
   by_cases c118 : t355 = true
   rotate_left
   · replace c118 := Bool.eq_false_iff.mpr c118
     subst c118
     replace H : (some (0, 0, (⟨#[]⟩ : ByteArray), ([] : List Int), 0, false)) = some (r1, r2, r3, r4, r5, r6) := by rw [if_neg (show ¬ (false = true) by decide)] at H; exact H
     simp only [Option.some.injEq, Prod.mk.injEq] at H
     obtain ⟨rfl, rfl, rfl, rfl, rfl, rfl⟩ := H
     go_enter Try.func36, Try.ntmps36
     go_wp2_with (first | ((with_reducible refine gate_dst (N := 4) rfl ?_); refine bxe 4 #[.int .i64 0, .int .i64 0, .string (⟨#[]⟩ : ByteArray), .slice none 0 0] 29 ?_; intro gb338 hg w131 hbox hb; have n_ := ak4 (below_step (bq HB.out) hb) hbox ((by rw [hg]; exact (below_size (bq HB.out)) : w.heap.size ≤ gb338)) ((by rw [hg]; exact (below_size (bq HB.out)) : w.heap.size ≤ gb338)); clear HB; obtain ⟨HB, BK338, GW338, GE338⟩ := n_; clear hb hbox hg) | ((with_reducible refine gate_callee (f := 91) rfl ?_); refine goesL_ (some 15) rfl rfl Try.func91 (by kernel_rfl) rfl #[.slice A0 l0.length c0, .int .i64 a1] rfl ga ?_; (with_reducible refine (impl_GetTlv.calls k _ _ l0 a1 t339 t340 t341 true _ ?side1 ?side2 A3.out).mono ?_); (case side1 => exact cq (Kd.C_below HR0.out HB.out)); (case side2 => exact HC0.out); rintro e w132 ⟨v343, rfl, ho0, hb⟩; refine ⟨_, rfl, ?_⟩; have n_ := ak3 (Kd.R_lower ho0 (below_size (bq1 HB.out GE338.out))) (blk_below (zb BK338.out) hb) (below_step (bq1 HB.out GE338.out) hb); clear BK338 HB; obtain ⟨HO344, BK338, HB⟩ := n_; (try clear hb ho0)) | ((with_reducible refine gate_dst (N := 11) rfl ?_); refine bxe 11 #[.int .i64 0, .int .i64 0, .string (⟨#[]⟩ : ByteArray), .slice none 0 0] 29 ?_; intro gb345 hg w133 hbox hb; have n_ := ak8 (Kd.R_below (kqR HO344.out) hb) (blk_below (zb BK338.out) hb) (below_step (bq1 HB.out GE338.out) hb) hbox ((by rw [hg]; exact (below_size (bq1 HB.out GE338.out)) : w.heap.size ≤ gb345)) ((by rw [hg]; exact (below_size (bq1 HB.out GE338.out)) : w.heap.size ≤ gb345)) ((nlt hg (zb BK338.out) : gb338 ≠ gb345)) ((ngt hg (zb BK338.out) : gb345 ≠ gb338)); clear HO344 BK338 HB; obtain ⟨HO344, BK338, HB, BK345, GW345, GE345, NB338_345, NB345_338⟩ := n_; clear hb hbox hg; have hnb134 := NB345_338.out; have hnc134 := NB338_345.out; obtain ⟨hcz135_0, hcz135_1, hcz135_2, hcz135_3, hfz135_0, hfz135_1, hfz135_2, hfz135_3⟩ := cl4 BK345.out) | ((with_reducible refine gate_store (t := 29) (p := 11) rfl ?_); refine store_event (t := 29) (p := 11) (v := ?vo_w136) (w1 := ((((w133.setCell ⟨gb345, 0, none⟩ (.int .i64 t339)).setCell ⟨gb345, 1, none⟩ (.int .i64 0)).setCell ⟨gb345, 2, none⟩ (.string (⟨#[]⟩ : ByteArray))).setCell ⟨gb345, 3, none⟩ (.slice none 0 0))) ?hg ?ho ?hn ?hr ?_; (case ho => rfl); (case hg => rfl); (case hn => rfl); (case hr => exact gs); intro w136 hw; have n_ : Aside0 (Kd.R (Kd.int .u8) 5 w136 w.heap.size (fun _ => True) v343 t340) ∧ Aside0 (w136.heap[gb338]? = some (.cells #[.int .i64 0, .int .i64 0, .string (⟨#[]⟩ : ByteArray), .slice none 0 0] 29 (0, 0))) ∧ Aside0 (w136.heap[gb345]? = some (.cells #[.int .i64 t339, .int .i64 0, .string (⟨#[]⟩ : ByteArray), .slice none 0 0] 29 (0, 0))) ∧ Aside0 (Below w.heap.size w w136) := ⟨⟨(by rw [hw]; exact (by refine kr ?_; exact Kd.R_mono (rf4 gb345 (.int .i64 t339) (.int .i64 0) (.string (⟨#[]⟩ : ByteArray)) (.slice none 0 0) (Kd.R_types HO344.out BK345.out (by decide)) (fun _ hk => hk.2)) (fun _ hk => trivial)))⟩, ⟨(by rw [hw]; exact (by refine zr ?_; refine blk_far ?_ NB338_345.out _; refine zr ?_; refine blk_far ?_ NB338_345.out _; refine zr ?_; refine blk_far ?_ NB338_345.out _; refine zr ?_; refine blk_far ?_ NB338_345.out _; refine zr ?_; exact BK338.out))⟩, ⟨(by rw [hw]; exact (by refine zr ?_; exact bp4 (zb BK345.out)))⟩, ⟨(by rw [hw]; exact (bq2 HB.out GE338.out GE345.out))⟩⟩; clear hw HO344 BK338 BK345 HB; obtain ⟨HO344, BK338, BK345, HB⟩ := n_; obtain ⟨Ao137, co137, eo137⟩ := Kd.R_slice HO344.out; subst eo137; obtain ⟨hcz138_0, hcz138_1, hcz138_2, hcz138_3, hfz138_0, hfz138_1, hfz138_2, hfz138_3⟩ := cl4 BK345.out) | (go_at_call 46; (refine (impl_ValOk.calls k t339 0 (⟨#[]⟩ : ByteArray) _ _ ([] : List Int) false _ ?side1 ?side2 A117.out).mono ?_); (case side1 => exact Kd.C_nil _ _); (case side2 => exact Nat.le_refl _); rintro e w139 ⟨rfl, hb⟩; have n_ := ak4 (Kd.R_below (kqR HO344.out) hb) (blk_below (zb BK338.out) hb) (blk_below (zb BK345.out) hb) (below_step (bq2 HB.out GE338.out GE345.out) hb); clear HO344 BK338 BK345 HB; obtain ⟨HO344, BK338, BK345, HB⟩ := n_; (try clear hb); obtain ⟨hcz140_0, hcz140_1, hcz140_2, hcz140_3, hfz140_0, hfz140_1, hfz140_2, hfz140_3⟩ := cl4 BK338.out) | ((with_reducible refine gate_store (t := 29) (p := 4) rfl ?_); refine store_event (t := 29) (p := 4) (v := ?vo_w141) (w1 := ((((w139.setCell ⟨gb338, 0, none⟩ (.int .i64 0)).setCell ⟨gb338, 1, none⟩ (.int .i64 0)).setCell ⟨gb338, 2, none⟩ (.string (⟨#[]⟩ : ByteArray))).setCell ⟨gb338, 3, none⟩ (.slice none 0 0))) ?hg ?ho ?hn ?hr ?_; (case ho => rfl); (case hg => rfl); (case hn => rfl); (case hr => exact gs); intro w141 hw; have n_ : Aside0 (Kd.R (Kd.int .u8) 5 w141 w.heap.size (fun _ => True) (.slice Ao137 t340.length co137) t340) ∧ Aside0 (w141.heap[gb338]? = some (.cells #[.int .i64 0, .int .i64 0, .string (⟨#[]⟩ : ByteArray), .slice none 0 0] 29 (0, 0))) ∧ Aside0 (w141.heap[gb345]? = some (.cells #[.int .i64 t339, .int .i64 0, .string (⟨#[]⟩ : ByteArray), .slice none 0 0] 29 (0, 0))) ∧ Aside0 (Below w.heap.size w w141) := ⟨⟨(by rw [hw]; exact (by refine kr ?_; exact Kd.R_mono (rf4 gb338 (.int .i64 0) (.int .i64 0) (.string (⟨#[]⟩ : ByteArray)) (.slice none 0 0) (Kd.R_types HO344.out BK338.out (by decide)) (fun _ hk => hk.2)) (fun _ hk => trivial)))⟩, ⟨(by rw [hw]; exact (by refine zr ?_; exact bp4 (zb BK338.out)))⟩, ⟨(by rw [hw]; exact (by refine zr ?_; refine blk_far ?_ NB345_338.out _; refine zr ?_; refine blk_far ?_ NB345_338.out _; refine zr ?_; refine blk_far ?_ NB345_338.out _; refine zr ?_; refine blk_far ?_ NB345_338.out _; refine zr ?_; exact BK345.out))⟩, ⟨(by rw [hw]; exact (bq2 HB.out GE338.out GE345.out))⟩⟩; clear hw HO344 BK338 BK345 HB; obtain ⟨HO344, BK338, BK345, HB⟩ := n_))
     refine bodyPost_ret (results_ctt rfl _ _ gb338 29 #[.int .i64 0, .int .i64 0, .string (⟨#[]⟩ : ByteArray), .slice none 0 0] (0, 0) _ rfl (zq BK338.out) Try.underlying29 rfl (by kernel_rfl)) rfl ?_
     exact ⟨_, rq, rn, bq2 HB.out GE338.out GE345.out⟩
   subst c118
   replace H : (some (t339, 0, (⟨#[]⟩ : ByteArray), ([] : List Int), t341, true)) = some (r1, r2, r3, r4, r5, r6) := by rw [if_pos rfl] at H; exact H
   simp only [Option.some.injEq, Prod.mk.injEq] at H
   obtain ⟨rfl, rfl, rfl, rfl, rfl, rfl⟩ := H
   go_enter Try.func36, Try.ntmps36
   go_wp2_with (first | ((with_reducible refine gate_dst (N := 4) rfl ?_); refine bxe 4 #[.int .i64 0, .int .i64 0, .string (⟨#[]⟩ : ByteArray), .slice none 0 0] 29 ?_; intro gb338 hg w119 hbox hb; have n_ := ak4 (below_step (bq HB.out) hb) hbox ((by rw [hg]; exact (below_size (bq HB.out)) : w.heap.size ≤ gb338)) ((by rw [hg]; exact (below_size (bq HB.out)) : w.heap.size ≤ gb338)); clear HB; obtain ⟨HB, BK338, GW338, GE338⟩ := n_; clear hb hbox hg) | ((with_reducible refine gate_callee (f := 91) rfl ?_); refine goesL_ (some 15) rfl rfl Try.func91 (by kernel_rfl) rfl #[.slice A0 l0.length c0, .int .i64 a1] rfl ga ?_; (with_reducible refine (impl_GetTlv.calls k _ _ l0 a1 t339 t340 t341 true _ ?side1 ?side2 A3.out).mono ?_); (case side1 => exact cq (Kd.C_below HR0.out HB.out)); (case side2 => exact HC0.out); rintro e w120 ⟨v343, rfl, ho0, hb⟩; refine ⟨_, rfl, ?_⟩; have n_ := ak3 (Kd.R_lower ho0 (below_size (bq1 HB.out GE338.out))) (blk_below (zb BK338.out) hb) (below_step (bq1 HB.out GE338.out) hb); clear BK338 HB; obtain ⟨HO344, BK338, HB⟩ := n_; (try clear hb ho0)) | ((with_reducible refine gate_dst (N := 11) rfl ?_); refine bxe 11 #[.int .i64 0, .int .i64 0, .string (⟨#[]⟩ : ByteArray), .slice none 0 0] 29 ?_; intro gb345 hg w121 hbox hb; have n_ := ak8 (Kd.R_below (kqR HO344.out) hb) (blk_below (zb BK338.out) hb) (below_step (bq1 HB.out GE338.out) hb) hbox ((by rw [hg]; exact (below_size (bq1 HB.out GE338.out)) : w.heap.size ≤ gb345)) ((by rw [hg]; exact (below_size (bq1 HB.out GE338.out)) : w.heap.size ≤ gb345)) ((nlt hg (zb BK338.out) : gb338 ≠ gb345)) ((ngt hg (zb BK338.out) : gb345 ≠ gb338)); clear HO344 BK338 HB; obtain ⟨HO344, BK338, HB, BK345, GW345, GE345, NB338_345, NB345_338⟩ := n_; clear hb hbox hg; have hnb122 := NB345_338.out; have hnc122 := NB338_345.out; obtain ⟨hcz123_0, hcz123_1, hcz123_2, hcz123_3, hfz123_0, hfz123_1, hfz123_2, hfz123_3⟩ := cl4 BK345.out) | ((with_reducible refine gate_store (t := 29) (p := 11) rfl ?_); refine store_event (t := 29) (p := 11) (v := ?vo_w124) (w1 := ((((w121.setCell ⟨gb345, 0, none⟩ (.int .i64 t339)).setCell ⟨gb345, 1, none⟩ (.int .i64 0)).setCell ⟨gb345, 2, none⟩ (.string (⟨#[]⟩ : ByteArray))).setCell ⟨gb345, 3, none⟩ (.slice none 0 0))) ?hg ?ho ?hn ?hr ?_; (case ho => rfl); (case hg => rfl); (case hn => rfl); (case hr => exact gs); intro w124 hw; have n_ : Aside0 (Kd.R (Kd.int .u8) 5 w124 w.heap.size (fun _ => True) v343 t340) ∧ Aside0 (w124.heap[gb338]? = some (.cells #[.int .i64 0, .int .i64 0, .string (⟨#[]⟩ : ByteArray), .slice none 0 0] 29 (0, 0))) ∧ Aside0 (w124.heap[gb345]? = some (.cells #[.int .i64 t339, .int .i64 0, .string (⟨#[]⟩ : ByteArray), .slice none 0 0] 29 (0, 0))) ∧ Aside0 (Below w.heap.size w w124) := ⟨⟨(by rw [hw]; exact (by refine kr ?_; exact Kd.R_mono (rf4 gb345 (.int .i64 t339) (.int .i64 0) (.string (⟨#[]⟩ : ByteArray)) (.slice none 0 0) (Kd.R_types HO344.out BK345.out (by decide)) (fun _ hk => hk.2)) (fun _ hk => trivial)))⟩, ⟨(by rw [hw]; exact (by refine zr ?_; refine blk_far ?_ NB338_345.out _; refine zr ?_; refine blk_far ?_ NB338_345.out _; refine zr ?_; refine blk_far ?_ NB338_345.out _; refine zr ?_; refine blk_far ?_ NB338_345.out _; refine zr ?_; exact BK338.out))⟩, ⟨(by rw [hw]; exact (by refine zr ?_; exact bp4 (zb BK345.out)))⟩, ⟨(by rw [hw]; exact (bq2 HB.out GE338.out GE345.out))⟩⟩; clear hw HO344 BK338 BK345 HB; obtain ⟨HO344, BK338, BK345, HB⟩ := n_; obtain ⟨Ao125, co125, eo125⟩ := Kd.R_slice HO344.out; subst eo125; obtain ⟨hcz126_0, hcz126_1, hcz126_2, hcz126_3, hfz126_0, hfz126_1, hfz126_2, hfz126_3⟩ := cl4 BK345.out) | (go_at_call 46; (refine (impl_ValOk.calls k t339 0 (⟨#[]⟩ : ByteArray) _ _ ([] : List Int) true _ ?side1 ?side2 A117.out).mono ?_); (case side1 => exact Kd.C_nil _ _); (case side2 => exact Nat.le_refl _); rintro e w127 ⟨rfl, hb⟩; have n_ := ak4 (Kd.R_below (kqR HO344.out) hb) (blk_below (zb BK338.out) hb) (blk_below (zb BK345.out) hb) (below_step (bq2 HB.out GE338.out GE345.out) hb); clear HO344 BK338 BK345 HB; obtain ⟨HO344, BK338, BK345, HB⟩ := n_; (try clear hb); obtain ⟨hcz128_0, hcz128_1, hcz128_2, hcz128_3, hfz128_0, hfz128_1, hfz128_2, hfz128_3⟩ := cl4 BK345.out; obtain ⟨hcz129_0, hcz129_1, hcz129_2, hcz129_3, hfz129_0, hfz129_1, hfz129_2, hfz129_3⟩ := cl4 BK338.out) | ((with_reducible refine gate_store (t := 29) (p := 4) rfl ?_); refine store_event (t := 29) (p := 4) (v := ?vo_w130) (w1 := ((((w127.setCell ⟨gb338, 0, none⟩ (.int .i64 t339)).setCell ⟨gb338, 1, none⟩ (.int .i64 0)).setCell ⟨gb338, 2, none⟩ (.string (⟨#[]⟩ : ByteArray))).setCell ⟨gb338, 3, none⟩ (.slice none 0 0))) ?hg ?ho ?hn ?hr ?_; (case ho => rfl); (case hg => rfl); (case hn => rfl); (case hr => exact gs); intro w130 hw; have n_ : Aside0 (Kd.R (Kd.int .u8) 5 w130 w.heap.size (fun _ => True) (.slice Ao125 t340.length co125) t340) ∧ Aside0 (w130.heap[gb338]? = some (.cells #[.int .i64 t339, .int .i64 0, .string (⟨#[]⟩ : ByteArray), .slice none 0 0] 29 (0, 0))) ∧ Aside0 (w130.heap[gb345]? = some (.cells #[.int .i64 t339, .int .i64 0, .string (⟨#[]⟩ : ByteArray), .slice none 0 0] 29 (0, 0))) ∧ Aside0 (Below w.heap.size w w130) := ⟨⟨(by rw [hw]; exact (by refine kr ?_; exact Kd.R_mono (rf4 gb338 (.int .i64 t339) (.int .i64 0) (.string (⟨#[]⟩ : ByteArray)) (.slice none 0 0) (Kd.R_types HO344.out BK338.out (by decide)) (fun _ hk => hk.2)) (fun _ hk => trivial)))⟩, ⟨(by rw [hw]; exact (by refine zr ?_; exact bp4 (zb BK338.out)))⟩, ⟨(by rw [hw]; exact (by refine zr ?_; refine blk_far ?_ NB345_338.out _; refine zr ?_; refine blk_far ?_ NB345_338.out _; refine zr ?_; refine blk_far ?_ NB345_338.out _; refine zr ?_; refine blk_far ?_ NB345_338.out _; refine zr ?_; exact BK345.out))⟩, ⟨(by rw [hw]; exact (bq2 HB.out GE338.out GE345.out))⟩⟩; clear hw HO344 BK338 BK345 HB; obtain ⟨HO344, BK338, BK345, HB⟩ := n_))
   refine bodyPost_ret (results_ctt rfl _ _ gb338 29 #[.int .i64 t339, .int .i64 0, .string (⟨#[]⟩ : ByteArray), .slice none 0 0] (0, 0) _ rfl (zq BK338.out) Try.underlying29 rfl (by kernel_rfl)) rfl ?_
   exact ⟨_, rq, rn, bq2 HB.out GE338.out GE345.out⟩
 rw [if_pos c72] at H
 have c72b0 : (t339 == 6) = true := beq_iff_eq.mpr c72
 have c72b1 : (t339 != 6) = false := bne_eq_false_iff_eq.mpr c72
 clear c72
 replace H := Option.bind_eq_some_iff.mp H
 obtain ⟨⟨t350, t351⟩, A730, H⟩ := H
 replace H : (if t351 = true then ((impl_ValOk.f k t339 0 (⟨#[]⟩ : ByteArray) t350).bind fun t354 => (if t354 = true then (some (t339, 0, (⟨#[]⟩ : ByteArray), t350, t341, true)) else (some (0, 0, (⟨#[]⟩ : ByteArray), ([] : List Int), 0, false)))) else (some (0, 0, (⟨#[]⟩ : ByteArray), ([] : List Int), 0, false))) = some (r1, r2, r3, r4, r5, r6) := H
 have A73 := am A730
 clear A730
 by_cases c74 : t351 = true
 rotate_left
 · replace c74 := Bool.eq_false_iff.mpr c74
   subst c74
   replace H : (some (0, 0, (⟨#[]⟩ : ByteArray), ([] : List Int), 0, false)) = some (r1, r2, r3, r4, r5, r6) := by rw [if_neg (show ¬ (false = true) by decide)] at H; exact H
   simp only [Option.some.injEq, Prod.mk.injEq] at H
   obtain ⟨rfl, rfl, rfl, rfl, rfl, rfl⟩ := H
   go_enter Try.func36, Try.ntmps36
   go_wp2_with (first | ((with_reducible refine gate_dst (N := 4) rfl ?_); refine bxe 4 #[.int .i64 0, .int .i64 0, .string (⟨#[]⟩ : ByteArray), .slice none 0 0] 29 ?_; intro gb338 hg w104 hbox hb; have n_ := ak4 (below_step (bq HB.out) hb) hbox ((by rw [hg]; exact (below_size (bq HB.out)) : w.heap.size ≤ gb338)) ((by rw [hg]; exact (below_size (bq HB.out)) : w.heap.size ≤ gb338)); clear HB; obtain ⟨HB, BK338, GW338, GE338⟩ := n_; clear hb hbox hg) | ((with_reducible refine gate_callee (f := 91) rfl ?_); refine goesL_ (some 15) rfl rfl Try.func91 (by kernel_rfl) rfl #[.slice A0 l0.length c0, .int .i64 a1] rfl ga ?_; (with_reducible refine (impl_GetTlv.calls k _ _ l0 a1 t339 t340 t341 true _ ?side1 ?side2 A3.out).mono ?_); (case side1 => exact cq (Kd.C_below HR0.out HB.out)); (case side2 => exact HC0.out); rintro e w105 ⟨v343, rfl, ho0, hb⟩; refine ⟨_, rfl, ?_⟩; have n_ := ak3 (Kd.R_lower ho0 (below_size (bq1 HB.out GE338.out))) (blk_below (zb BK338.out) hb) (below_step (bq1 HB.out GE338.out) hb); clear BK338 HB; obtain ⟨HO344, BK338, HB⟩ := n_; (try clear hb ho0)) | ((with_reducible refine gate_dst (N := 11) rfl ?_); refine bxe 11 #[.int .i64 0, .int .i64 0, .string (⟨#[]⟩ : ByteArray), .slice none 0 0] 29 ?_; intro gb345 hg w106 hbox hb; have n_ := ak8 (Kd.R_below (kqR HO344.out) hb) (blk_below (zb BK338.out) hb) (below_step (bq1 HB.out GE338.out) hb) hbox ((by rw [hg]; exact (below_size (bq1 HB.out GE338.out)) : w.heap.size ≤ gb345)) ((by rw [hg]; exact (below_size (bq1 HB.out GE338.out)) : w.heap.size ≤ gb345)) ((nlt hg (zb BK338.out) : gb338 ≠ gb345)) ((ngt hg (zb BK338.out) : gb345 ≠ gb338)); clear HO344 BK338 HB; obtain ⟨HO344, BK338, HB, BK345, GW345, GE345, NB338_345, NB345_338⟩ := n_; clear hb hbox hg; have hnb107 := NB345_338.out; have hnc107 := NB338_345.out; obtain ⟨hcz108_0, hcz108_1, hcz108_2, hcz108_3, hfz108_0, hfz108_1, hfz108_2, hfz108_3⟩ := cl4 BK345.out) | ((with_reducible refine gate_store (t := 29) (p := 11) rfl ?_); refine store_event (t := 29) (p := 11) (v := ?vo_w109) (w1 := ((((w106.setCell ⟨gb345, 0, none⟩ (.int .i64 t339)).setCell ⟨gb345, 1, none⟩ (.int .i64 0)).setCell ⟨gb345, 2, none⟩ (.string (⟨#[]⟩ : ByteArray))).setCell ⟨gb345, 3, none⟩ (.slice none 0 0))) ?hg ?ho ?hn ?hr ?_; (case ho => rfl); (case hg => rfl); (case hn => rfl); (case hr => exact gs); intro w109 hw; have n_ : Aside0 (Kd.R (Kd.int .u8) 5 w109 w.heap.size (fun _ => True) v343 t340) ∧ Aside0 (w109.heap[gb338]? = some (.cells #[.int .i64 0, .int .i64 0, .string (⟨#[]⟩ : ByteArray), .slice none 0 0] 29 (0, 0))) ∧ Aside0 (w109.heap[gb345]? = some (.cells #[.int .i64 t339, .int .i64 0, .string (⟨#[]⟩ : ByteArray), .slice none 0 0] 29 (0, 0))) ∧ Aside0 (Below w.heap.size w w109) := ⟨⟨(by rw [hw]; exact (by refine kr ?_; exact Kd.R_mono (rf4 gb345 (.int .i64 t339) (.int .i64 0) (.string (⟨#[]⟩ : ByteArray)) (.slice none 0 0) (Kd.R_types HO344.out BK345.out (by decide)) (fun _ hk => hk.2)) (fun _ hk => trivial)))⟩, ⟨(by rw [hw]; exact (by refine zr ?_; refine blk_far ?_ NB338_345.out _; refine zr ?_; refine blk_far ?_ NB338_345.out _; refine zr ?_; refine blk_far ?_ NB338_345.out _; refine zr ?_; refine blk_far ?_ NB338_345.out _; refine zr ?_; exact BK338.out))⟩, ⟨(by rw [hw]; exact (by refine zr ?_; exact bp4 (zb BK345.out)))⟩, ⟨(by rw [hw]; exact (bq2 HB.out GE338.out GE345.out))⟩⟩; clear hw HO344 BK338 BK345 HB; obtain ⟨HO344, BK338, BK345, HB⟩ := n_; obtain ⟨Ao110, co110, eo110⟩ := Kd.R_slice HO344.out; subst eo110) | ((with_reducible refine gate_callee (f := 93) rfl ?_); refine goesL_ (some 46) rfl rfl Try.func93 (by kernel_rfl) rfl #[.slice Ao110 t340.length co110] rfl ga ?_; (with_reducible refine (impl_GetOid.calls k _ _ t340 t350 false _ ?side1 ?side2 A73.out).mono ?_); (case side1 => repeat (first | exact (Kd.R_reads' HO344.out).2.2 | (with_reducible refine Kd.C_alloc ?_ _) | (with_reducible refine Kd.C_drewN ?_ _) | (with_reducible refine Kd.C_drew ?_))); (case side2 => exact (Kd.R_reads' HO344.out).2.1); rintro e w111 ⟨v352, rfl, ho0, hb⟩; refine ⟨_, rfl, ?_⟩; have n_ := ak5 (Kd.R_below (kqR HO344.out) hb) (Kd.R_lower ho0 (below_size (bq2 HB.out GE338.out GE345.out))) (blk_below (zb BK338.out) hb) (blk_below (zb BK345.out) hb) (below_step (bq2 HB.out GE338.out GE345.out) hb); clear HO344 BK338 BK345 HB; obtain ⟨HO344, HO353, BK338, BK345, HB⟩ := n_; (try clear hb ho0); obtain ⟨Ao112, co112, eo112⟩ := Kd.R_slice HO353.out; subst eo112; obtain ⟨hcz113_0, hcz113_1, hcz113_2, hcz113_3, hfz113_0, hfz113_1, hfz113_2, hfz113_3⟩ := cl4 BK345.out; obtain ⟨hcz114_0, hcz114_1, hcz114_2, hcz114_3, hfz114_0, hfz114_1, hfz114_2, hfz114_3⟩ := cl4 BK338.out) | ((with_reducible refine gate_store (t := 29) (p := 4) rfl ?_); refine store_event (t := 29) (p := 4) (v := ?vo_w115) (w1 := (((((w111.setCell ⟨gb345, 3, none⟩ (.slice Ao112 t350.length co112)).setCell ⟨gb338, 0, none⟩ (.int .i64 0)).setCell ⟨gb338, 1, none⟩ (.int .i64 0)).setCell ⟨gb338, 2, none⟩ (.string (⟨#[]⟩ : ByteArray))).setCell ⟨gb338, 3, none⟩ (.slice none 0 0))) ?hg ?ho ?hn ?hr ?_; (case ho => rfl); (case hg => rfl); (case hn => rfl); (case hr => exact gs); intro w115 hw; have n_ : Aside0 (Kd.R (Kd.int .u8) 5 w115 w.heap.size (fun _ => True) (.slice Ao110 t340.length co110) t340) ∧ Aside0 (Kd.R (Kd.int .i64) 3 w115 w.heap.size (fun _ => True) (.slice Ao112 t350.length co112) t350) ∧ Aside0 (w115.heap[gb338]? = some (.cells #[.int .i64 0, .int .i64 0, .string (⟨#[]⟩ : ByteArray), .slice none 0 0] 29 (0, 0))) ∧ Aside0 (w115.heap[gb345]? = some (.cells #[.int .i64 t339, .int .i64 0, .string (⟨#[]⟩ : ByteArray), .slice Ao112 t350.length co112] 29 (0, 0))) ∧ Aside0 (Below w.heap.size w w115) := ⟨⟨(by rw [hw]; exact (by refine kr ?_; exact Kd.R_mono (rf4 gb338 (.int .i64 0) (.int .i64 0) (.string (⟨#[]⟩ : ByteArray)) (.slice none 0 0) (Kd.R_far (p := ⟨gb345, 3, none⟩) (Kd.R_types (Kd.R_types HO344.out BK345.out (by decide)) BK338.out (by decide)) (fun _ hk => hk.1.2) (.slice Ao112 t350.length co112)) (fun _ hk => hk.2)) (fun _ hk => trivial)))⟩, ⟨(by rw [hw]; exact (by refine kr ?_; exact Kd.R_mono (rf4 gb338 (.int .i64 0) (.int .i64 0) (.string (⟨#[]⟩ : ByteArray)) (.slice none 0 0) (Kd.R_far (p := ⟨gb345, 3, none⟩) (Kd.R_types (Kd.R_types HO353.out BK345.out (by decide)) BK338.out (by decide)) (fun _ hk => hk.1.2) (.slice Ao112 t350.length co112)) (fun _ hk => hk.2)) (fun _ hk => trivial)))⟩, ⟨(by rw [hw]; exact (by refine zr ?_; refine blk_put (cs := #[.int .i64 0, .int .i64 0, .string (⟨#[]⟩ : ByteArray), .slice none 0 0]) ?_ 3 _ rfl; refine zr ?_; refine blk_put (cs := #[.int .i64 0, .int .i64 0, .string (⟨#[]⟩ : ByteArray), .slice none 0 0]) ?_ 2 _ rfl; refine zr ?_; refine blk_put (cs := #[.int .i64 0, .int .i64 0, .string (⟨#[]⟩ : ByteArray), .slice none 0 0]) ?_ 1 _ rfl; refine zr ?_; refine blk_put (cs := #[.int .i64 0, .int .i64 0, .string (⟨#[]⟩ : ByteArray), .slice none 0 0]) ?_ 0 _ rfl; refine zr ?_; refine blk_far ?_ NB338_345.out _; refine zr ?_; exact BK338.out))⟩, ⟨(by rw [hw]; exact (by refine zr ?_; refine blk_far ?_ NB345_338.out _; refine zr ?_; refine blk_far ?_ NB345_338.out _; refine zr ?_; refine blk_far ?_ NB345_338.out _; refine zr ?_; refine blk_far ?_ NB345_338.out _; refine zr ?_; refine blk_put (cs := #[.int .i64 t339, .int .i64 0, .string (⟨#[]⟩ : ByteArray), .slice none 0 0]) ?_ 3 _ rfl; refine zr ?_; exact BK345.out))⟩, ⟨(by rw [hw]; exact (bq2 HB.out GE338.out GE345.out))⟩⟩; clear hw HO344 HO353 BK338 BK345 HB; obtain ⟨HO344, HO353, BK338, BK345, HB⟩ := n_))
   refine bodyPost_ret (results_ctt rfl _ _ gb338 29 #[.int .i64 0, .int .i64 0, .string (⟨#[]⟩ : ByteArray), .slice none 0 0] (0, 0) _ rfl (zq BK338.out) Try.underlying29 rfl (by kernel_rfl)) rfl ?_
   exact ⟨_, rq, rn, bq2 HB.out GE338.out GE345.out⟩
 subst c74
 replace H : ((impl_ValOk.f k t339 0 (⟨#[]⟩ : ByteArray) t350).bind fun t354 => (if t354 = true then (some (t339, 0, (⟨#[]⟩ : ByteArray), t350, t341, true)) else (some (0, 0, (⟨#[]⟩ : ByteArray), ([] : List Int), 0, false)))) = some (r1, r2, r3, r4, r5, r6) := by rw [if_pos rfl] at H; exact H
 replace H := Option.bind_eq_some_iff.mp H
 obtain ⟨t354, A750, H⟩ := H
 replace H : (if t354 = true then (some (t339, 0, (⟨#[]⟩ : ByteArray), t350, t341, true)) else (some (0, 0, (⟨#[]⟩ : ByteArray), ([] : List Int), 0, false))) = some (r1, r2, r3, r4, r5, r6) := H
 have A75 := am A750
 clear A750
 by_cases c76 : t354 = true
 rotate_left
 · replace c76 := Bool.eq_false_iff.mpr c76
   subst c76
   replace H : (some (0, 0, (⟨#[]⟩ : ByteArray), ([] : List Int), 0, false)) = some (r1, r2, r3, r4, r5, r6) := by rw [if_neg (show ¬ (false = true) by decide)] at H; exact H
   simp only [Option.some.injEq, Prod.mk.injEq] at H
   obtain ⟨rfl, rfl, rfl, rfl, rfl, rfl⟩ := H
   go_enter Try.func36, Try.ntmps36
   go_wp2_with (first | ((with_reducible refine gate_dst (N := 4) rfl ?_); refine bxe 4 #[.int .i64 0, .int .i64 0, .string (⟨#[]⟩ : ByteArray), .slice none 0 0] 29 ?_; intro gb338 hg w91 hbox hb; have n_ := ak4 (below_step (bq HB.out) hb) hbox ((by rw [hg]; exact (below_size (bq HB.out)) : w.heap.size ≤ gb338)) ((by rw [hg]; exact (below_size (bq HB.out)) : w.heap.size ≤ gb338)); clear HB; obtain ⟨HB, BK338, GW338, GE338⟩ := n_; clear hb hbox hg) | ((with_reducible refine gate_callee (f := 91) rfl ?_); refine goesL_ (some 15) rfl rfl Try.func91 (by kernel_rfl) rfl #[.slice A0 l0.length c0, .int .i64 a1] rfl ga ?_; (with_reducible refine (impl_GetTlv.calls k _ _ l0 a1 t339 t340 t341 true _ ?side1 ?side2 A3.out).mono ?_); (case side1 => exact cq (Kd.C_below HR0.out HB.out)); (case side2 => exact HC0.out); rintro e w92 ⟨v343, rfl, ho0, hb⟩; refine ⟨_, rfl, ?_⟩; have n_ := ak3 (Kd.R_lower ho0 (below_size (bq1 HB.out GE338.out))) (blk_below (zb BK338.out) hb) (below_step (bq1 HB.out GE338.out) hb); clear BK338 HB; obtain ⟨HO344, BK338, HB⟩ := n_; (try clear hb ho0)) | ((with_reducible refine gate_dst (N := 11) rfl ?_); refine bxe 11 #[.int .i64 0, .int .i64 0, .string (⟨#[]⟩ : ByteArray), .slice none 0 0] 29 ?_; intro gb345 hg w93 hbox hb; have n_ := ak8 (Kd.R_below (kqR HO344.out) hb) (blk_below (zb BK338.out) hb) (below_step (bq1 HB.out GE338.out) hb) hbox ((by rw [hg]; exact (below_size (bq1 HB.out GE338.out)) : w.heap.size ≤ gb345)) ((by rw [hg]; exact (below_size (bq1 HB.out GE338.out)) : w.heap.size ≤ gb345)) ((nlt hg (zb BK338.out) : gb338 ≠ gb345)) ((ngt hg (zb BK338.out) : gb345 ≠ gb338)); clear HO344 BK338 HB; obtain ⟨HO344, BK338, HB, BK345, GW345, GE345, NB338_345, NB345_338⟩ := n_; clear hb hbox hg; have hnb94 := NB345_338.out; have hnc94 := NB338_345.out; obtain ⟨hcz95_0, hcz95_1, hcz95_2, hcz95_3, hfz95_0, hfz95_1, hfz95_2, hfz95_3⟩ := cl4 BK345.out) | ((with_reducible refine gate_store (t := 29) (p := 11) rfl ?_); refine store_event (t := 29) (p := 11) (v := ?vo_w96) (w1 := ((((w93.setCell ⟨gb345, 0, none⟩ (.int .i64 t339)).setCell ⟨gb345, 1, none⟩ (.int .i64 0)).setCell ⟨gb345, 2, none⟩ (.string (⟨#[]⟩ : ByteArray))).setCell ⟨gb345, 3, none⟩ (.slice none 0 0))) ?hg ?ho ?hn ?hr ?_; (case ho => rfl); (case hg => rfl); (case hn => rfl); (case hr => exact gs); intro w96 hw; have n_ : Aside0 (Kd.R (Kd.int .u8) 5 w96 w.heap.size (fun _ => True) v343 t340) ∧ Aside0 (w96.heap[gb338]? = some (.cells #[.int .i64 0, .int .i64 0, .string (⟨#[]⟩ : ByteArray), .slice none 0 0] 29 (0, 0))) ∧ Aside0 (w96.heap[gb345]? = some (.cells #[.int .i64 t339, .int .i64 0, .string (⟨#[]⟩ : ByteArray), .slice none 0 0] 29 (0, 0))) ∧ Aside0 (Below w.heap.size w w96) := ⟨⟨(by rw [hw]; exact (by refine kr ?_; exact Kd.R_mono (rf4 gb345 (.int .i64 t339) (.int .i64 0) (.string (⟨#[]⟩ : ByteArray)) (.slice none 0 0) (Kd.R_types HO344.out BK345.out (by decide)) (fun _ hk => hk.2)) (fun _ hk => trivial)))⟩, ⟨(by rw [hw]; exact (by refine zr ?_; refine blk_far ?_ NB338_345.out _; refine zr ?_; refine blk_far ?_ NB338_345.out _; refine zr ?_; refine blk_far ?_ NB338_345.out _; refine zr ?_; refine blk_far ?_ NB338_345.out _; refine zr ?_; exact BK338.out))⟩, ⟨(by rw [hw]; exact (by refine zr ?_; exact bp4 (zb BK345.out)))⟩, ⟨(by rw [hw]; exact (bq2 HB.out GE338.out GE345.out))⟩⟩; clear hw HO344 BK338 BK345 HB; obtain ⟨HO344, BK338, BK345, HB⟩ := n_; obtain ⟨Ao97, co97, eo97⟩ := Kd.R_slice HO344.out; subst eo97) | ((with_reducible refine gate_callee (f := 93) rfl ?_); refine goesL_ (some 46) rfl rfl Try.func93 (by kernel_rfl) rfl #[.slice Ao97 t340.length co97] rfl ga ?_; (with_reducible refine (impl_GetOid.calls k _ _ t340 t350 true _ ?side1 ?side2 A73.out).mono ?_); (case side1 => repeat (first | exact (Kd.R_reads' HO344.out).2.2 | (with_reducible refine Kd.C_alloc ?_ _) | (with_reducible refine Kd.C_drewN ?_ _) | (with_reducible refine Kd.C_drew ?_))); (case side2 => exact (Kd.R_reads' HO344.out).2.1); rintro e w98 ⟨v352, rfl, ho0, hb⟩; refine ⟨_, rfl, ?_⟩; have n_ := ak5 (Kd.R_below (kqR HO344.out) hb) (Kd.R_lower ho0 (below_size (bq2 HB.out GE338.out GE345.out))) (blk_below (zb BK338.out) hb) (blk_below (zb BK345.out) hb) (below_step (bq2 HB.out GE338.out GE345.out) hb); clear HO344 BK338 BK345 HB; obtain ⟨HO344, HO353, BK338, BK345, HB⟩ := n_; (try clear hb ho0); obtain ⟨Ao99, co99, eo99⟩ := Kd.R_slice HO353.out; subst eo99; obtain ⟨hcz100_0, hcz100_1, hcz100_2, hcz100_3, hfz100_0, hfz100_1, hfz100_2, hfz100_3⟩ := cl4 BK345.out) | (go_at_call 46; (with_reducible refine (impl_ValOk.calls k t339 0 (⟨#[]⟩ : ByteArray) _ _ t350 false _ ?side1 ?side2 A75.out).mono ?_); (case side1 => refine (Kd.R_reads' (e := 3) (base := w.heap.size) (ok := fun k_ => True) (n := t350.length) (c := co99) ?_).2.2; exact (by refine kr ?_; exact (Kd.R_mono (Kd.R_far (p := ⟨gb345, 3, none⟩) (Kd.R_types HO353.out BK345.out (by decide)) (fun _ hk => hk.2) (.slice Ao99 t350.length co99)) (fun _ h_ => h_.1)))); (case side2 => exact (Kd.R_reads' HO353.out).2.1); rintro e w101 ⟨rfl, hb⟩; have n_ := ak5 (Kd.R_below (by refine kr ?_; exact (Kd.R_mono (Kd.R_far (p := ⟨gb345, 3, none⟩) (Kd.R_types HO344.out BK345.out (by decide)) (fun _ hk => hk.2) (.slice Ao99 t350.length co99)) (fun _ h_ => h_.1))) hb) (Kd.R_below (by refine kr ?_; exact (Kd.R_mono (Kd.R_far (p := ⟨gb345, 3, none⟩) (Kd.R_types HO353.out BK345.out (by decide)) (fun _ hk => hk.2) (.slice Ao99 t350.length co99)) (fun _ h_ => h_.1))) hb) (blk_below (g := gb338) (o := .cells #[.int .i64 0, .int .i64 0, .string (⟨#[]⟩ : ByteArray), .slice none 0 0] 29 (0, 0)) (by refine zr ?_; refine blk_far ?_ NB338_345.out _; refine zr ?_; exact BK338.out) hb) (blk_below (g := gb345) (o := .cells #[.int .i64 t339, .int .i64 0, .string (⟨#[]⟩ : ByteArray), .slice Ao99 t350.length co99] 29 (0, 0)) (by refine zr ?_; refine blk_put (cs := #[.int .i64 t339, .int .i64 0, .string (⟨#[]⟩ : ByteArray), .slice none 0 0]) ?_ 3 _ rfl; refine zr ?_; exact BK345.out) hb) (below_step (bq2 HB.out GE338.out GE345.out) hb); clear HO344 HO353 BK338 BK345 HB; obtain ⟨HO344, HO353, BK338, BK345, HB⟩ := n_; (try clear hb); obtain ⟨hcz102_0, hcz102_1, hcz102_2, hcz102_3, hfz102_0, hfz102_1, hfz102_2, hfz102_3⟩ := cl4 BK338.out) | ((with_reducible refine gate_store (t := 29) (p := 4) rfl ?_); refine store_event (t := 29) (p := 4) (v := ?vo_w103) (w1 := ((((w101.setCell ⟨gb338, 0, none⟩ (.int .i64 0)).setCell ⟨gb338, 1, none⟩ (.int .i64 0)).setCell ⟨gb338, 2, none⟩ (.string (⟨#[]⟩ : ByteArray))).setCell ⟨gb338, 3, none⟩ (.slice none 0 0))) ?hg ?ho ?hn ?hr ?_; (case ho => rfl); (case hg => rfl); (case hn => rfl); (case hr => exact gs); intro w103 hw; have n_ : Aside0 (Kd.R (Kd.int .u8) 5 w103 w.heap.size (fun _ => True) (.slice Ao97 t340.length co97) t340) ∧ Aside0 (Kd.R (Kd.int .i64) 3 w103 w.heap.size (fun _ => True) (.slice Ao99 t350.length co99) t350) ∧ Aside0 (w103.heap[gb338]? = some (.cells #[.int .i64 0, .int .i64 0, .string (⟨#[]⟩ : ByteArray), .slice none 0 0] 29 (0, 0))) ∧ Aside0 (w103.heap[gb345]? = some (.cells #[.int .i64 t339, .int .i64 0, .string (⟨#[]⟩ : ByteArray), .slice Ao99 t350.length co99] 29 (0, 0))) ∧ Aside0 (Below w.heap.size w w103) := ⟨⟨(by rw [hw]; exact (by refine kr ?_; exact Kd.R_mono (rf4 gb338 (.int .i64 0) (.int .i64 0) (.string (⟨#[]⟩ : ByteArray)) (.slice none 0 0) (Kd.R_types HO344.out BK338.out (by decide)) (fun _ hk => hk.2)) (fun _ hk => trivial)))⟩, ⟨(by rw [hw]; exact (by refine kr ?_; exact Kd.R_mono (rf4 gb338 (.int .i64 0) (.int .i64 0) (.string (⟨#[]⟩ : ByteArray)) (.slice none 0 0) (Kd.R_types HO353.out BK338.out (by decide)) (fun _ hk => hk.2)) (fun _ hk => trivial)))⟩, ⟨(by rw [hw]; exact (by refine zr ?_; exact bp4 (zb BK338.out)))⟩, ⟨(by rw [hw]; exact (by refine zr ?_; refine blk_far ?_ NB345_338.out _; refine zr ?_; refine blk_far ?_ NB345_338.out _; refine zr ?_; refine blk_far ?_ NB345_338.out _; refine zr ?_; refine blk_far ?_ NB345_338.out _; refine zr ?_; exact BK345.out))⟩, ⟨(by rw [hw]; exact (bq2 HB.out GE338.out GE345.out))⟩⟩; clear hw HO344 HO353 BK338 BK345 HB; obtain ⟨HO344, HO353, BK338, BK345, HB⟩ := n_))
   refine bodyPost_ret (results_ctt rfl _ _ gb338 29 #[.int .i64 0, .int .i64 0, .string (⟨#[]⟩ : ByteArray), .slice none 0 0] (0, 0) _ rfl (zq BK338.out) Try.underlying29 rfl (by kernel_rfl)) rfl ?_
   exact ⟨_, rq, rn, bq2 HB.out GE338.out GE345.out⟩
 subst c76
 replace H : (some (t339, 0, (⟨#[]⟩ : ByteArray), t350, t341, true)) = some (r1, r2, r3, r4, r5, r6) := by rw [if_pos rfl] at H; exact H
 simp only [Option.some.injEq, Prod.mk.injEq] at H
 obtain ⟨rfl, rfl, rfl, rfl, rfl, rfl⟩ := H
 go_enter Try.func36, Try.ntmps36
 go_wp2_with (first | ((with_reducible refine gate_dst (N := 4) rfl ?_); refine bxe 4 #[.int .i64 0, .int .i64 0, .string (⟨#[]⟩ : ByteArray), .slice none 0 0] 29 ?_; intro gb338 hg w77 hbox hb; have n_ := ak4 (below_step (bq HB.out) hb) hbox ((by rw [hg]; exact (below_size (bq HB.out)) : w.heap.size ≤ gb338)) ((by rw [hg]; exact (below_size (bq HB.out)) : w.heap.size ≤ gb338)); clear HB; obtain ⟨HB, BK338, GW338, GE338⟩ := n_; clear hb hbox hg) | ((with_reducible refine gate_callee (f := 91) rfl ?_); refine goesL_ (some 15) rfl rfl Try.func91 (by kernel_rfl) rfl #[.slice A0 l0.length c0, .int .i64 a1] rfl ga ?_; (with_reducible refine (impl_GetTlv.calls k _ _ l0 a1 t339 t340 t341 true _ ?side1 ?side2 A3.out).mono ?_); (case side1 => exact cq (Kd.C_below HR0.out HB.out)); (case side2 => exact HC0.out); rintro e w78 ⟨v343, rfl, ho0, hb⟩; refine ⟨_, rfl, ?_⟩; have n_ := ak3 (Kd.R_lower ho0 (below_size (bq1 HB.out GE338.out))) (blk_below (zb BK338.out) hb) (below_step (bq1 HB.out GE338.out) hb); clear BK338 HB; obtain ⟨HO344, BK338, HB⟩ := n_; (try clear hb ho0)) | ((with_reducible refine gate_dst (N := 11) rfl ?_); refine bxe 11 #[.int .i64 0, .int .i64 0, .string (⟨#[]⟩ : ByteArray), .slice none 0 0] 29 ?_; intro gb345 hg w79 hbox hb; have n_ := ak8 (Kd.R_below (kqR HO344.out) hb) (blk_below (zb BK338.out) hb) (below_step (bq1 HB.out GE338.out) hb) hbox ((by rw [hg]; exact (below_size (bq1 HB.out GE338.out)) : w.heap.size ≤ gb345)) ((by rw [hg]; exact (below_size (bq1 HB.out GE338.out)) : w.heap.size ≤ gb345)) ((nlt hg (zb BK338.out) : gb338 ≠ gb345)) ((ngt hg (zb BK338.out) : gb345 ≠ gb338)); clear HO344 BK338 HB; obtain ⟨HO344, BK338, HB, BK345, GW345, GE345, NB338_345, NB345_338⟩ := n_; clear hb hbox hg; have hnb80 := NB345_338.out; have hnc80 := NB338_345.out; obtain ⟨hcz81_0, hcz81_1, hcz81_2, hcz81_3, hfz81_0, hfz81_1, hfz81_2, hfz81_3⟩ := cl4 BK345.out) | ((with_reducible refine gate_store (t := 29) (p := 11) rfl ?_); refine store_event (t := 29) (p := 11) (v := ?vo_w82) (w1 := ((((w79.setCell ⟨gb345, 0, none⟩ (.int .i64 t339)).setCell ⟨gb345, 1, none⟩ (.int .i64 0)).setCell ⟨gb345, 2, none⟩ (.string (⟨#[]⟩ : ByteArray))).setCell ⟨gb345, 3, none⟩ (.slice none 0 0))) ?hg ?ho ?hn ?hr ?_; (case ho => rfl); (case hg => rfl); (case hn => rfl); (case hr => exact gs); intro w82 hw; have n_ : Aside0 (Kd.R (Kd.int .u8) 5 w82 w.heap.size (fun _ => True) v343 t340) ∧ Aside0 (w82.heap[gb338]? = some (.cells #[.int .i64 0, .int .i64 0, .string (⟨#[]⟩ : ByteArray), .slice none 0 0] 29 (0, 0))) ∧ Aside0 (w82.heap[gb345]? = some (.cells #[.int .i64 t339, .int .i64 0, .string (⟨#[]⟩ : ByteArray), .slice none 0 0] 29 (0, 0))) ∧ Aside0 (Below w.heap.size w w82) := ⟨⟨(by rw [hw]; exact (by refine kr ?_; exact Kd.R_mono (rf4 gb345 (.int .i64 t339) (.int .i64 0) (.string (⟨#[]⟩ : ByteArray)) (.slice none 0 0) (Kd.R_types HO344.out BK345.out (by decide)) (fun _ hk => hk.2)) (fun _ hk => trivial)))⟩, ⟨(by rw [hw]; exact (by refine zr ?_; refine blk_far ?_ NB338_345.out _; refine zr ?_; refine blk_far ?_ NB338_345.out _; refine zr ?_; refine blk_far ?_ NB338_345.out _; refine zr ?_; refine blk_far ?_ NB338_345.out _; refine zr ?_; exact BK338.out))⟩, ⟨(by rw [hw]; exact (by refine zr ?_; exact bp4 (zb BK345.out)))⟩, ⟨(by rw [hw]; exact (bq2 HB.out GE338.out GE345.out))⟩⟩; clear hw HO344 BK338 BK345 HB; obtain ⟨HO344, BK338, BK345, HB⟩ := n_; obtain ⟨Ao83, co83, eo83⟩ := Kd.R_slice HO344.out; subst eo83) | ((with_reducible refine gate_callee (f := 93) rfl ?_); refine goesL_ (some 46) rfl rfl Try.func93 (by kernel_rfl) rfl #[.slice Ao83 t340.length co83] rfl ga ?_; (with_reducible refine (impl_GetOid.calls k _ _ t340 t350 true _ ?side1 ?side2 A73.out).mono ?_); (case side1 => repeat (first | exact (Kd.R_reads' HO344.out).2.2 | (with_reducible refine Kd.C_alloc ?_ _) | (with_reducible refine Kd.C_drewN ?_ _) | (with_reducible refine Kd.C_drew ?_))); (case side2 => exact (Kd.R_reads' HO344.out).2.1); rintro e w84 ⟨v352, rfl, ho0, hb⟩; refine ⟨_, rfl, ?_⟩; have n_ := ak5 (Kd.R_below (kqR HO344.out) hb) (Kd.R_lower ho0 (below_size (bq2 HB.out GE338.out GE345.out))) (blk_below (zb BK338.out) hb) (blk_below (zb BK345.out) hb) (below_step (bq2 HB.out GE338.out GE345.out) hb); clear HO344 BK338 BK345 HB; obtain ⟨HO344, HO353, BK338, BK345, HB⟩ := n_; (try clear hb ho0); obtain ⟨Ao85, co85, eo85⟩ := Kd.R_slice HO353.out; subst eo85; obtain ⟨hcz86_0, hcz86_1, hcz86_2, hcz86_3, hfz86_0, hfz86_1, hfz86_2, hfz86_3⟩ := cl4 BK345.out) | (go_at_call 46; (with_reducible refine (impl_ValOk.calls k t339 0 (⟨#[]⟩ : ByteArray) _ _ t350 true _ ?side1 ?side2 A75.out).mono ?_); (case side1 => refine (Kd.R_reads' (e := 3) (base := w.heap.size) (ok := fun k_ => True) (n := t350.length) (c := co85) ?_).2.2; exact (by refine kr ?_; exact (Kd.R_mono (Kd.R_far (p := ⟨gb345, 3, none⟩) (Kd.R_types HO353.out BK345.out (by decide)) (fun _ hk => hk.2) (.slice Ao85 t350.length co85)) (fun _ h_ => h_.1)))); (case side2 => exact (Kd.R_reads' HO353.out).2.1); rintro e w87 ⟨rfl, hb⟩; have n_ := ak5 (Kd.R_below (by refine kr ?_; exact (Kd.R_mono (Kd.R_far (p := ⟨gb345, 3, none⟩) (Kd.R_types HO344.out BK345.out (by decide)) (fun _ hk => hk.2) (.slice Ao85 t350.length co85)) (fun _ h_ => h_.1))) hb) (Kd.R_below (by refine kr ?_; exact (Kd.R_mono (Kd.R_far (p := ⟨gb345, 3, none⟩) (Kd.R_types HO353.out BK345.out (by decide)) (fun _ hk => hk.2) (.slice Ao85 t350.length co85)) (fun _ h_ => h_.1))) hb) (blk_below (g := gb338) (o := .cells #[.int .i64 0, .int .i64 0, .string (⟨#[]⟩ : ByteArray), .slice none 0 0] 29 (0, 0)) (by refine zr ?_; refine blk_far ?_ NB338_345.out _; refine zr ?_; exact BK338.out) hb) (blk_below (g := gb345) (o := .cells #[.int .i64 t339, .int .i64 0, .string (⟨#[]⟩ : ByteArray), .slice Ao85 t350.length co85] 29 (0, 0)) (by refine zr ?_; refine blk_put (cs := #[.int .i64 t339, .int .i64 0, .string (⟨#[]⟩ : ByteArray), .slice none 0 0]) ?_ 3 _ rfl; refine zr ?_; exact BK345.out) hb) (below_step (bq2 HB.out GE338.out GE345.out) hb); clear HO344 HO353 BK338 BK345 HB; obtain ⟨HO344, HO353, BK338, BK345, HB⟩ := n_; (try clear hb); obtain ⟨hcz88_0, hcz88_1, hcz88_2, hcz88_3, hfz88_0, hfz88_1, hfz88_2, hfz88_3⟩ := cl4 BK345.out; obtain ⟨hcz89_0, hcz89_1, hcz89_2, hcz89_3, hfz89_0, hfz89_1, hfz89_2, hfz89_3⟩ := cl4 BK338.out) | ((with_reducible refine gate_store (t := 29) (p := 4) rfl ?_); refine store_event (t := 29) (p := 4) (v := ?vo_w90) (w1 := ((((w87.setCell ⟨gb338, 0, none⟩ (.int .i64 t339)).setCell ⟨gb338, 1, none⟩ (.int .i64 0)).setCell ⟨gb338, 2, none⟩ (.string (⟨#[]⟩ : ByteArray))).setCell ⟨gb338, 3, none⟩ (.slice Ao85 t350.length co85))) ?hg ?ho ?hn ?hr ?_; (case ho => rfl); (case hg => rfl); (case hn => rfl); (case hr => exact gs); intro w90 hw; have n_ : Aside0 (Kd.R (Kd.int .u8) 5 w90 w.heap.size (fun _ => True) (.slice Ao83 t340.length co83) t340) ∧ Aside0 (Kd.R (Kd.int .i64) 3 w90 w.heap.size (fun _ => True) (.slice Ao85 t350.length co85) t350) ∧ Aside0 (w90.heap[gb338]? = some (.cells #[.int .i64 t339, .int .i64 0, .string (⟨#[]⟩ : ByteArray), .slice Ao85 t350.length co85] 29 (0, 0))) ∧ Aside0 (w90.heap[gb345]? = some (.cells #[.int .i64 t339, .int .i64 0, .string (⟨#[]⟩ : ByteArray), .slice Ao85 t350.length co85] 29 (0, 0))) ∧ Aside0 (Below w.heap.size w w90) := ⟨⟨(by rw [hw]; exact (by refine kr ?_; exact Kd.R_mono (rf4 gb338 (.int .i64 t339) (.int .i64 0) (.string (⟨#[]⟩ : ByteArray)) (.slice Ao85 t350.length co85) (Kd.R_types HO344.out BK338.out (by decide)) (fun _ hk => hk.2)) (fun _ hk => trivial)))⟩, ⟨(by rw [hw]; exact (by refine kr ?_; exact Kd.R_mono (rf4 gb338 (.int .i64 t339) (.int .i64 0) (.string (⟨#[]⟩ : ByteArray)) (.slice Ao85 t350.length co85) (Kd.R_types HO353.out BK338.out (by decide)) (fun _ hk => hk.2)) (fun _ hk => trivial)))⟩, ⟨(by rw [hw]; exact (by refine zr ?_; exact bp4 (zb BK338.out)))⟩, ⟨(by rw [hw]; exact (by refine zr ?_; refine blk_far ?_ NB345_338.out _; refine zr ?_; refine blk_far ?_ NB345_338.out _; refine zr ?_; refine blk_far ?_ NB345_338.out _; refine zr ?_; refine blk_far ?_ NB345_338.out _; refine zr ?_; exact BK345.out))⟩, ⟨(by rw [hw]; exact (bq2 HB.out GE338.out GE345.out))⟩⟩; clear hw HO344 HO353 BK338 BK345 HB; obtain ⟨HO344, HO353, BK338, BK345, HB⟩ := n_))
 refine bodyPost_ret (results_ctt rfl _ _ gb338 29 #[.int .i64 t339, .int .i64 0, .string (⟨#[]⟩ : ByteArray), .slice Ao85 t350.length co85] (0, 0) _ rfl (zq BK338.out) Try.underlying29 rfl (by kernel_rfl)) rfl ?_
 exact ⟨_, rq, kqR HO353.out, bq2 HB.out GE338.out GE345.out⟩
/-- A state of type 135 at block g of W; what its slices lead to came in by w0. -/
def IsS135 (w0 W : World) (g : Nat) (f0 : List Int) (f1 : Int) (f2 : Int) : Prop := ∃ A0 c0, W.heap[g]? = some (.cells #[.slice A0 f0.length c0, .int .i64 f1, .int .i64 f2] 135 (0, 0)) ∧ w0.heap.size ≤ g ∧ (Kd.C (Kd.int .u8) w0 A0 f0.length f0 ∧ f0.length ≤ c0)
theorem IsS135.grown {w0 W : World} {g : Nat} {f0 : List Int} {f1 : Int} {f2 : Int} {W1 : World} {row : Option Nat} (h : IsS135 w0 W g f0 f1 f2) (hw : W.grownBy W1 row) (hne : some g ≠ row) : IsS135 w0 W1 g f0 f1 f2 := by
 obtain ⟨A0, c0, hb, hg, hr0⟩ := h
 exact ⟨A0, c0, blk_grown hb hw hne, hg, hr0⟩
theorem IsS135.own_neN {w0 W : World} {g : Nat} {f0 : List Int} {f1 : Int} {f2 : Int} {α : Type} {d : Kd α} {e : Nat} {base : Nat} {ok : Nat → Prop} {v : Value} {xs : List α} (h : IsS135 w0 W g f0 f1 f2) (ho : Kd.N d e W base ok v xs) (ht : e ≠ 135) : some g ≠ v.ownBlock := by
 obtain ⟨A0, c0, hb, hg, hr0⟩ := h
 exact Kd.N_ne ho hb ht
theorem IsS135.fresh {w0 W : World} {g : Nat} {f0 : List Int} {f1 : Int} {f2 : Int} (h : IsS135 w0 W g f0 f1 f2) : ∀ k, W.heap.size ≤ k → k ≠ g := by
 obtain ⟨A0, c0, hb, hg, hr0⟩ := h
 exact Kd.freshB hb
theorem IsS135.kept {w0 W : World} {g : Nat} {f0 : List Int} {f1 : Int} {f2 : Int} {W1 : World} {S : Nat → Prop} (h : IsS135 w0 W g f0 f1 f2) (hk : Kept W W1 S) (hne : ¬ S g) : IsS135 w0 W1 g f0 f1 f2 := by
 obtain ⟨A0, c0, hb, hg, hr0⟩ := h
 exact ⟨A0, c0, blk_kept hb hk hne, hg, hr0⟩
theorem IsS135.below {w0 W : World} {g : Nat} {f0 : List Int} {f1 : Int} {f2 : Int} {W1 : World} (h : IsS135 w0 W g f0 f1 f2) (hw : Below W.heap.size W W1) : IsS135 w0 W1 g f0 f1 f2 := h.grown (grown_of_below hw none) (by simp)
theorem IsS135.alloc {w0 W : World} {g : Nat} {f0 : List Int} {f1 : Int} {f2 : Int} (h : IsS135 w0 W g f0 f1 f2) (o : Obj) : IsS135 w0 (W.alloc o) g f0 f1 f2 := h.below (below_alloc (Below.refl _ _) o)
theorem IsS135.drewN {w0 W : World} {g : Nat} {f0 : List Int} {f1 : Int} {f2 : Int} (h : IsS135 w0 W g f0 f1 f2) (m : Nat) : IsS135 w0 (W.drewN m) g f0 f1 f2 := h
theorem IsS135.drew {w0 W : World} {g : Nat} {f0 : List Int} {f1 : Int} {f2 : Int} (h : IsS135 w0 W g f0 f1 f2) : IsS135 w0 W.drew g f0 f1 f2 := h
theorem IsS135.at_ {w0 W : World} {g : Nat} {f0 : List Int} {f1 : Int} {f2 : Int} {w' : World} {m : Nat} (hq : W.drewN m = w') (h : IsS135 w0 W g f0 f1 f2) : IsS135 w0 w' g f0 f1 f2 := by subst hq; exact IsS135.drewN h m
theorem IsS135.apart {w0 W : World} {g : Nat} {f0 : List Int} {f1 : Int} {f2 : Int} {α : Type} {d : Kd α} {e : Nat} {base : Nat} {ok : Nat → Prop} {v : Value} {xs : List α} (h : IsS135 w0 W g f0 f1 f2) (ho : d.R e W base ok v xs) (ht : ∀ q, q ∈ e :: d.E → q ≠ 135) : d.R e W base (fun k => ok k ∧ k ≠ g) v xs := by
 obtain ⟨A0, c0, hb, hg, hr0⟩ := h
 exact Kd.R_types ho hb ht
theorem IsS135.own_ne {w0 W : World} {g : Nat} {f0 : List Int} {f1 : Int} {f2 : Int} {α : Type} {d : Kd α} {e : Nat} {base : Nat} {ok : Nat → Prop} {v : Value} {xs : List α} (h : IsS135 w0 W g f0 f1 f2) (ho : d.R e W base ok v xs) (ht : e ≠ 135) : some g ≠ v.ownBlock := by
 obtain ⟨A0, c0, hb, hg, hr0⟩ := h
 exact Kd.R_ne ho hb ht
theorem IsS135.apartQ {w0 W : World} {g : Nat} {f0 : List Int} {f1 : Int} {f2 : Int} {α : Type} {d : Kd α} {e : Nat} {base : Nat} {ok : Nat → Prop} {v : Value} {xs : List α} (h : IsS135 w0 W g f0 f1 f2) (ho : d.Q e W base ok v xs) (ht : ∀ q, q ∈ e :: d.E → q ≠ 135) : d.Q e W base (fun k => ok k ∧ k ≠ g) v xs := by
 obtain ⟨A0, c0, hb, hg, hr0⟩ := h
 exact Kd.Q_types ho hb ht
theorem IsS135.own_neQ {w0 W : World} {g : Nat} {f0 : List Int} {f1 : Int} {f2 : Int} {α : Type} {d : Kd α} {e : Nat} {base : Nat} {ok : Nat → Prop} {v : Value} {xs : List α} (h : IsS135 w0 W g f0 f1 f2) (ho : d.Q e W base ok v xs) (ht : e ≠ 135) : some g ≠ v.ownBlock := by
 obtain ⟨A0, c0, hb, hg, hr0⟩ := h
 exact Kd.Q_ne ho hb ht
theorem IsS135.apartS {w0 W : World} {g : Nat} {f0 : List Int} {f1 : Int} {f2 : Int} {α : Type} {d : Kd α} {e : Nat} {base : Nat} {ok : Nat → Prop} {v : Value} {xs : List α} (h : IsS135 w0 W g f0 f1 f2) (ho : d.S e W base ok v xs) (ht : ∀ q, q ∈ e :: d.E → q ≠ 135) : d.S e W base (fun k => ok k ∧ k ≠ g) v xs := by
 obtain ⟨A0, c0, hb, hg, hr0⟩ := h
 exact Kd.S_types ho hb ht
theorem IsS135.own_neS {w0 W : World} {g : Nat} {f0 : List Int} {f1 : Int} {f2 : Int} {α : Type} {d : Kd α} {e : Nat} {base : Nat} {ok : Nat → Prop} {v : Value} {xs : List α} (h : IsS135 w0 W g f0 f1 f2) (ho : d.S e W base ok v xs) (ht : e ≠ 135) : some g ≠ v.ownBlock := by
 obtain ⟨A0, c0, hb, hg, hr0⟩ := h
 exact Kd.S_ne ho hb ht
theorem IsS135.lt {w0 W : World} {g : Nat} {f0 : List Int} {f1 : Int} {f2 : Int} (h : IsS135 w0 W g f0 f1 f2) : g < W.heap.size := by
 obtain ⟨A0, c0, hb, hg, hr0⟩ := h
 exact blk_lt hb
theorem IsS135.ge {w0 W : World} {g : Nat} {f0 : List Int} {f1 : Int} {f2 : Int} (h : IsS135 w0 W g f0 f1 f2) : w0.heap.size ≤ g := by
 obtain ⟨A0, c0, hb, hg, hr0⟩ := h
 exact hg
theorem IsS135.ne_blk {w0 W : World} {g : Nat} {f0 : List Int} {f1 : Int} {f2 : Int} {a : Nat} {cs : Array Value} {t : TypeId} {fr : Nat × Nat} (h : IsS135 w0 W g f0 f1 f2) (hb2 : W.heap[a]? = some (.cells cs t fr)) (ht : t ≠ 135) : g ≠ a := by
 obtain ⟨A0, c0, hb, hg, hr0⟩ := h
 rintro rfl
 rw [hb] at hb2
 injection hb2 with hb2
 injection hb2 with _ ht2
 exact ht ht2.symm
theorem IsS135.far {w0 W : World} {g : Nat} {f0 : List Int} {f1 : Int} {f2 : Int} {p : Addr} (h : IsS135 w0 W g f0 f1 f2) (hne : g ≠ p.block) (u : Value) : IsS135 w0 (W.setCell p u) g f0 f1 f2 := by
 obtain ⟨A0, c0, hb, hg, hr0⟩ := h
 exact ⟨A0, c0, blk_far hb hne u, hg, hr0⟩
theorem cellS135_0 {W : World} {g : Nat} {A0 : Option Addr} {c0 : Nat} {f0 : List Int} {f1 : Int} {f2 : Int} (h : W.heap[g]? = some (.cells #[.slice A0 f0.length c0, .int .i64 f1, .int .i64 f2] 135 (0, 0))) : W.cell? ⟨g, 0, none⟩ = some (.slice A0 f0.length c0) := (blk_cell h 0).trans rfl
theorem cellS135_1 {W : World} {g : Nat} {A0 : Option Addr} {c0 : Nat} {f0 : List Int} {f1 : Int} {f2 : Int} (h : W.heap[g]? = some (.cells #[.slice A0 f0.length c0, .int .i64 f1, .int .i64 f2] 135 (0, 0))) : W.cell? ⟨g, 1, none⟩ = some (.int .i64 f1) := (blk_cell h 1).trans rfl
theorem IsS135.set_1 {w0 W : World} {g : Nat} {f0 : List Int} {f1 : Int} {f2 : Int} (h : IsS135 w0 W g f0 f1 f2) (x : Int) : IsS135 w0 (W.setCell ⟨g, 1, none⟩ (.int .i64 x)) g f0 x f2 := by
 obtain ⟨A0, c0, hb, hg, hr0⟩ := h
 exact ⟨A0, c0, by simpa using blk_set hb 1 (.int .i64 x), hg, hr0⟩
theorem cellS135_2 {W : World} {g : Nat} {A0 : Option Addr} {c0 : Nat} {f0 : List Int} {f1 : Int} {f2 : Int} (h : W.heap[g]? = some (.cells #[.slice A0 f0.length c0, .int .i64 f1, .int .i64 f2] 135 (0, 0))) : W.cell? ⟨g, 2, none⟩ = some (.int .i64 f2) := (blk_cell h 2).trans rfl
theorem IsS135.set_2 {w0 W : World} {g : Nat} {f0 : List Int} {f1 : Int} {f2 : Int} (h : IsS135 w0 W g f0 f1 f2) (x : Int) : IsS135 w0 (W.setCell ⟨g, 2, none⟩ (.int .i64 x)) g f0 f1 x := by
 obtain ⟨A0, c0, hb, hg, hr0⟩ := h
 exact ⟨A0, c0, by simpa using blk_set hb 2 (.int .i64 x), hg, hr0⟩
theorem IsS135.new (w0 W : World) (A0 : Option Addr) (c0 : Nat) (f0 : List Int) (f1 : Int) (f2 : Int) (hB : Below w0.heap.size w0 W) (hr0 : Kd.C (Kd.int .u8) w0 A0 f0.length f0 ∧ f0.length ≤ c0) : IsS135 w0 (W.alloc (.cells #[.slice A0 f0.length c0, .int .i64 f1, .int .i64 f2] 135)) W.heap.size f0 f1 f2 := ⟨A0, c0, by simpa using heap_alloc_new W _, hB.size, hr0⟩
theorem IsS135.q0 {a b : Prop} (h : a) (g : a → b := by intro h_; repeat (first | (with_reducible first | exact h_ | apply IsS135.alloc | apply IsS135.drewN | apply IsS135.drew | apply IsS135.set_1 | apply IsS135.set_2) | exact h_)) : b := g h
theorem IsS135.q1 {a b : Prop} {c0 : Prop} (h : a) (h0 : c0) (g : a → c0 → b := by intro h_ h0_; repeat (first | (with_reducible first | exact h_ | apply IsS135.alloc | apply IsS135.drewN | apply IsS135.drew | apply IsS135.set_1 | apply IsS135.set_2 | refine IsS135.far ?_ h0_ _) | exact h_)) : b := g h h0
theorem IsS135.q2 {a b : Prop} {c0 : Prop} {c1 : Prop} (h : a) (h0 : c0) (h1 : c1) (g : a → c0 → c1 → b := by intro h_ h0_ h1_; repeat (first | (with_reducible first | exact h_ | apply IsS135.alloc | apply IsS135.drewN | apply IsS135.drew | apply IsS135.set_1 | apply IsS135.set_2 | refine IsS135.far ?_ h0_ _ | refine IsS135.far ?_ h1_ _) | exact h_)) : b := g h h0 h1
theorem IsS135.q3 {a b : Prop} {c0 : Prop} {c1 : Prop} {c2 : Prop} (h : a) (h0 : c0) (h1 : c1) (h2 : c2) (g : a → c0 → c1 → c2 → b := by intro h_ h0_ h1_ h2_; repeat (first | (with_reducible first | exact h_ | apply IsS135.alloc | apply IsS135.drewN | apply IsS135.drew | apply IsS135.set_1 | apply IsS135.set_2 | refine IsS135.far ?_ h0_ _ | refine IsS135.far ?_ h1_ _ | refine IsS135.far ?_ h2_ _) | exact h_)) : b := g h h0 h1 h2
def spec_l1New.l0 : Nat → List Int → Int → Int → Option (List Int × Int × Int)
 | 0, _, _, _ => none
 | k + 1, x0, x3, x4 => if x4 < (x0.length : Int) then (if x4 < 4000 then (if 0 ≤ x4 then (spec_l1New.l0 k x0 (Go.bits .and .i64 (wrap64 ((wrap64 ((wrap64 (x3 * 137)) + (wrap64 (rd x0 x4)))) + 11)) 1073741823) (wrap64 (x4 + 1))) else (none)) else (some (x0, 0, x3))) else (some (x0, 0, x3))
def spec_l1New.f (k : Nat) (l0 : List Int) : Option (List Int × Int × Int) := spec_l1New.l0 k l0 (wrap64 (762762 + (l0.length : Int))) 0
theorem spec_l1New.mono_l : ∀ k, (∀ y0 y1 y2, LeO (spec_l1New.l0 k y0 y1 y2) (spec_l1New.l0 (k + 1) y0 y1 y2))
 | 0 => fun _ _ _ r h => by simp [spec_l1New.l0] at h
 | k + 1 => by
  have ih0 := spec_l1New.mono_l k
  intro y0 y1 y2
  unfold spec_l1New.l0
  repeat' first
  | (with_reducible exact ih0 _ _ _)
  | (with_reducible exact LeO.refl _)
  | (with_reducible exact LeO.none _)
  | (with_reducible refine LeO.ite ?_ ?_)
  | (with_reducible refine LeO.bind ?_ (fun _ => ?_))
  | exact ih0 _ _ _
  | exact LeO.none _
  | refine LeO.ite ?_ ?_
  | refine LeO.bind ?_ (fun _ => ?_)
theorem spec_l1New.mono : ∀ a0 k, LeO (spec_l1New.f k a0) (spec_l1New.f (k + 1) a0) := by
 intro a0 k
 have ih0 := spec_l1New.mono_l k
 unfold spec_l1New.f
 repeat' first
  | (with_reducible exact ih0 _ _ _)
  | (with_reducible exact LeO.refl _)
  | (with_reducible exact LeO.none _)
  | (with_reducible refine LeO.ite ?_ ?_)
  | (with_reducible refine LeO.bind ?_ (fun _ => ?_))
  | exact ih0 _ _ _
  | exact LeO.none _
  | refine LeO.ite ?_ ?_
  | refine LeO.bind ?_ (fun _ => ?_)
theorem spec_l1New.calls (k : Nat) (A0 : Option Addr) (c0 : Nat) (l0 : List Int) (r1 : List Int) (r2 : Int) (r3 : Int) (w0 w : World) (hB : Below w0.heap.size w0 w) (hr0 : Kd.C (Kd.int .u8) w0 A0 l0.length l0) (hc0 : l0.length ≤ c0) (h : spec_l1New.f k l0 = some (r1, r2, r3)) :
 Calls Try.prog 74 #[.slice A0 l0.length c0] w fun e w' => ∃ g_ : Nat, e = .returned (.pointer (some ⟨g_, 0, none⟩)) ∧ IsS135 w0 w' g_ r1 r2 r3 ∧ Below w0.heap.size w0 w' ∧ Below w.heap.size w w' := by
 have hu135 := Try.underlying135
 have HR0 := am hr0
 have HC0 := am hc0
 clear hr0 hc0
 have HBW := am (Below.refl w.heap.size w)
 have HW0 := am hB.size
 have HB := am hB
 clear hB
 have H : (spec_l1New.l0 k l0 (wrap64 (762762 + (l0.length : Int))) 0) = some (r1, r2, r3) := h
 clear h
 have H' := am H
 clear H
 go_enter Try.func74, Try.ntmps74
 go_wp2
 go_loopg [3, 4] k (fun kq v3 v4 w' => ∃ (x3_1 : Int) (x4_1 : Int), v3 = .int .i64 x3_1 ∧ v4 = .int .i64 x4_1 ∧ Aside0 (spec_l1New.l0 kq l0 x3_1 x4_1 = some (r1, r2, r3)) ∧ Aside0 (kq ≤ k) ∧ Aside0 (Below w0.heap.size w0 w') ∧ Aside0 (Below w.heap.size w w'))
 case atStart => exact ⟨(wrap64 (762762 + (l0.length : Int))), (0), sq, sq, H', ⟨Nat.le_refl _⟩, ⟨bq HB.out⟩, ⟨bq HBW.out⟩⟩
 case round =>
  clear H' HBW
  obtain ⟨x3_1, x4_1, rfl, rfl, HA, HK1, HB, HBW⟩ := hrel
  cases gk with
  | zero => exact absurd HA.out (by simp [spec_l1New.l0])
  | succ k1 =>
   have H := HA.out
   clear HA
   simp only [spec_l1New.l0] at H
   by_cases c2 : x4_1 < (l0.length : Int)
   rotate_left
   · rw [if_neg c2] at H
     have c2b0 : decide (x4_1 < (l0.length : Int)) = false := decide_eq_false c2
     clear c2
     simp only [Option.some.injEq, Prod.mk.injEq] at H
     obtain ⟨rfl, rfl, rfl⟩ := H
     go_wp2_with (first | ((with_reducible refine gate_dst (N := 31) rfl ?_); refine bxe 31 #[.slice A0 l0.length c0, .int .i64 0, .int .i64 x3_1] 135 ?_; intro gb358 hg w6 hbox hb; have n_ := ak5 (below_step HBW.out hb) (below_step (bq HB.out) hb) hbox ((by rw [hg]; exact (below_size (bq HBW.out)) : w.heap.size ≤ gb358)) ((Nat.le_trans HW0.out (by rw [hg]; exact (below_size (bq HBW.out)) : w.heap.size ≤ gb358) : w0.heap.size ≤ gb358)); clear HBW HB; obtain ⟨HBW, HB, BK358, GW358, GE358⟩ := n_; clear hb hbox hg))
     go_ret
     exact ⟨_, rfl, (show IsS135 w0 _ gb358 l0 0 x3_1 from ⟨_, _, zq BK358.out, GE358.out, ⟨HR0.out, HC0.out⟩⟩), bq1 HB.out GE358.out, bq1 HBW.out GW358.out⟩
   rw [if_pos c2] at H
   have c2b0 : decide (x4_1 < (l0.length : Int)) = true := decide_eq_true c2
   clear c2
   by_cases c3 : x4_1 < 4000
   rotate_left
   · rw [if_neg c3] at H
     have c3b0 : decide (x4_1 < 4000) = false := decide_eq_false c3
     clear c3
     simp only [Option.some.injEq, Prod.mk.injEq] at H
     obtain ⟨rfl, rfl, rfl⟩ := H
     go_wp2_with (first | ((with_reducible refine gate_dst (N := 31) rfl ?_); refine bxe 31 #[.slice A0 l0.length c0, .int .i64 0, .int .i64 x3_1] 135 ?_; intro gb357 hg w5 hbox hb; have n_ := ak5 (below_step HBW.out hb) (below_step (bq HB.out) hb) hbox ((by rw [hg]; exact (below_size (bq HBW.out)) : w.heap.size ≤ gb357)) ((Nat.le_trans HW0.out (by rw [hg]; exact (below_size (bq HBW.out)) : w.heap.size ≤ gb357) : w0.heap.size ≤ gb357)); clear HBW HB; obtain ⟨HBW, HB, BK357, GW357, GE357⟩ := n_; clear hb hbox hg))
     go_ret
     exact ⟨_, rfl, (show IsS135 w0 _ gb357 l0 0 x3_1 from ⟨_, _, zq BK357.out, GE357.out, ⟨HR0.out, HC0.out⟩⟩), bq1 HB.out GE357.out, bq1 HBW.out GW357.out⟩
   rw [if_pos c3] at H
   have c3b0 : decide (x4_1 < 4000) = true := decide_eq_true c3
   clear c3
   by_cases c4 : 0 ≤ x4_1
   rotate_left
   · rw [if_neg c4] at H
     exact absurd H (by simp)
   rw [if_pos c4] at H
   have c4b0 : decide (0 ≤ x4_1) = true := decide_eq_true c4
   clear c4
   have H' := am H
   clear H
   have p356 : 0 ≤ (x4_1 : Int) := oda
   have q356 : x4_1 < (l0.length : Int) := oda
   obtain ⟨ad356, e356, hx356_0⟩ := Kd.at_int HR0.out x4_1 p356 q356
   cases e356
   replace hx356_0 := pw_cell_below HB.out hx356_0
   replace p356 := eq_true p356
   replace q356 := eq_true q356
   go_wp2
   go_roundg k1
   case measure => have := HK1.out; omega
   case rel => exact ⟨(Go.bits .and .i64 (wrap64 ((wrap64 ((wrap64 (x3_1 * 137)) + (wrap64 (rd l0 x4_1)))) + 11)) 1073741823), (wrap64 (x4_1 + 1)), sq, sq, H', ⟨by have := HK1.out; omega⟩, ⟨bq HB.out⟩, ⟨bq HBW.out⟩⟩
def spec_l1Byte.f (s0_0 : List Int) (s0_1 : Int) (s0_2 : Int) : Option (Int × Int × Int) := if s0_1 < (s0_0.length : Int) then (if 0 ≤ s0_1 then (some (Go.bits .and .i64 (wrap64 ((Go.bits .and .i64 (Go.bits .xor .i64 ((wrap64 ((wrap64 (s0_2 * 6364136223846793005)) + 1442695040888963407)) / 8589934592) ((wrap64 ((wrap64 (s0_2 * 6364136223846793005)) + 1442695040888963407)) / 140737488355328)) 255) + (wrap64 (rd s0_0 s0_1)))) 255, wrap64 (s0_1 + 1), wrap64 ((wrap64 (s0_2 * 6364136223846793005)) + 1442695040888963407))) else (none)) else (some (Go.bits .and .i64 (Go.bits .xor .i64 ((wrap64 ((wrap64 (s0_2 * 6364136223846793005)) + 1442695040888963407)) / 8589934592) ((wrap64 ((wrap64 (s0_2 * 6364136223846793005)) + 1442695040888963407)) / 140737488355328)) 255, s0_1, wrap64 ((wrap64 (s0_2 * 6364136223846793005)) + 1442695040888963407)))
theorem spec_l1Byte.calls (g : Nat) (s0_0 : List Int) (s0_1 : Int) (s0_2 : Int) (r1 : Int) (r2 : Int) (r3 : Int) (w0 w : World) (hI : IsS135 w0 w g s0_0 s0_1 s0_2) (hB : Below w0.heap.size w0 w) (h : spec_l1Byte.f s0_0 s0_1 s0_2 = some (r1, r2, r3)) :
 Calls Try.prog 137 #[.pointer (some ⟨g, 0, none⟩)] w fun e w' => e = .returned (.int .i64 r1) ∧ IsS135 w0 w' g s0_0 r2 r3 ∧ Below w0.heap.size w0 w' ∧ KeepBut w w' g none := by
 have HI0 := am hI
 have HK := am (KeepBut.refl w g none)
 have HL := am hB.size
 clear hI
 have HW0 := am hB.size
 have HB := am hB
 clear hB
 have H : (if s0_1 < (s0_0.length : Int) then (if 0 ≤ s0_1 then (some (Go.bits .and .i64 (wrap64 ((Go.bits .and .i64 (Go.bits .xor .i64 ((wrap64 ((wrap64 (s0_2 * 6364136223846793005)) + 1442695040888963407)) / 8589934592) ((wrap64 ((wrap64 (s0_2 * 6364136223846793005)) + 1442695040888963407)) / 140737488355328)) 255) + (wrap64 (rd s0_0 s0_1)))) 255, wrap64 (s0_1 + 1), wrap64 ((wrap64 (s0_2 * 6364136223846793005)) + 1442695040888963407))) else (none)) else (some (Go.bits .and .i64 (Go.bits .xor .i64 ((wrap64 ((wrap64 (s0_2 * 6364136223846793005)) + 1442695040888963407)) / 8589934592) ((wrap64 ((wrap64 (s0_2 * 6364136223846793005)) + 1442695040888963407)) / 140737488355328)) 255, s0_1, wrap64 ((wrap64 (s0_2 * 6364136223846793005)) + 1442695040888963407)))) = some (r1, r2, r3) := h
 clear h
 by_cases c2 : s0_1 < (s0_0.length : Int)
 rotate_left
 · rw [if_neg c2] at H
   have c2b0 : decide (s0_1 < (s0_0.length : Int)) = false := decide_eq_false c2
   clear c2
   simp only [Option.some.injEq, Prod.mk.injEq] at H
   obtain ⟨rfl, rfl, rfl⟩ := H
   obtain ⟨ASz5_0, cSz5_0, HGz5, hgz5, HSz5_0⟩ := HI0.out
   have hcz5_0 := cellS135_0 HGz5
   have hcz5_1 := cellS135_1 HGz5
   have hcz5_2 := cellS135_2 HGz5
   have hfz5_1 := blk_frozen HGz5 1
   have hfz5_2 := blk_frozen HGz5 2
   clear HGz5 hgz5
   go_enter Try.func137, Try.ntmps137
   go_wp2
   repeat (go_quiet (fail); try go_wp2)
   go_ret
   exact ⟨rq, IsS135.q0 HI0.out, bq1 HB.out (IsS135.ge HI0.out), kp0 HK.out⟩
 rw [if_pos c2] at H
 have c2b0 : decide (s0_1 < (s0_0.length : Int)) = true := decide_eq_true c2
 clear c2
 by_cases c3 : 0 ≤ s0_1
 rotate_left
 · rw [if_neg c3] at H
   exact absurd H (by simp)
 rw [if_pos c3] at H
 have c3b0 : decide (0 ≤ s0_1) = true := decide_eq_true c3
 clear c3
 simp only [Option.some.injEq, Prod.mk.injEq] at H
 obtain ⟨rfl, rfl, rfl⟩ := H
 obtain ⟨ASz4_0, cSz4_0, HGz4, hgz4, HSz4_0⟩ := HI0.out
 have hcz4_0 := cellS135_0 HGz4
 have hcz4_1 := cellS135_1 HGz4
 have hcz4_2 := cellS135_2 HGz4
 have hfz4_1 := blk_frozen HGz4 1
 have hfz4_2 := blk_frozen HGz4 2
 clear HGz4 hgz4
 have p359 : 0 ≤ (s0_1 : Int) := oda
 have q359 : s0_1 < (s0_0.length : Int) := oda
 obtain ⟨ad359, e359, hx359_0⟩ := Kd.at_int HSz4_0.1 s0_1 p359 q359
 cases e359
 have hn359_0 : ad359.block ≠ g := Nat.ne_of_lt (Nat.lt_of_lt_of_le (by have := World.block_lt_of_cell? _ _ hx359_0; first | rwa [add_block] at this | exact this) (IsS135.ge HI0.out))
 replace hx359_0 := pw_cell_below HB.out hx359_0
 replace hx359_0 := (cell_far (p := ⟨g, 2, none⟩) (by first | (rw [add_block]; exact hn359_0) | (show (Addr.add _ _).block ≠ _; rw [add_block]; exact hn359_0) | exact hn359_0) (.int .i64 (wrap64 ((wrap64 (s0_2 * 6364136223846793005)) + 1442695040888963407)))).trans hx359_0
 (try have hy359_0 := fun (n_ : Nat) => (show (((w.drewN n_).setCell ⟨g, 2, none⟩ (.int .i64 (wrap64 ((wrap64 (s0_2 * 6364136223846793005)) + 1442695040888963407))))).cell? _ = some _ from hx359_0))
 clear hn359_0
 replace p359 := eq_true p359
 replace q359 := eq_true q359
 go_enter Try.func137, Try.ntmps137
 go_wp2
 repeat (go_quiet (fail); try go_wp2)
 go_ret
 exact ⟨rq, IsS135.q0 HI0.out, bq1 HB.out (IsS135.ge HI0.out), kp0 HK.out⟩
end Go.Proofs.Ythhnfmbfgplelaa.XFnVals
