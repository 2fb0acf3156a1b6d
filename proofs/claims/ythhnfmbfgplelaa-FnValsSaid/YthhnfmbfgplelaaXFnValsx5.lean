/- The functions that one law reaches, as Lean functions, with their walks: printed by a program of this seat (wip/tools) out of the translation. -/
import Derived.Test.YthhnfmbfgplelaaXFnValsx0
import Derived.Test.YthhnfmbfgplelaaXFnValsx3
namespace Go.Proofs.Ythhnfmbfgplelaa.XFnVals
open Go.RowKit Go.Proofs.YthhnfmbfgplelaaW.PrintWords Go.Proofs.YthhnfmbfgplelaaW.PrintLast Go.Proofs.YthhnfmbfgplelaaW.PrintMore
attribute [local go_sem] max2_int min2_int max_two min_two max_three min_three max_four min_four   -- for this text's walks alone
set_option linter.unusedVariables false
set_option linter.unusedSimpArgs false
set_option maxHeartbeats 8000000
set_option maxRecDepth 100000
def spec_PutInt.l0 : Nat → Int → List Int → Option (List Int)
 | 0, _, _ => none
 | k + 1, x0, x3 => if x0 < (-128) then ((some (([(x0 / 256) % 256] : List Int) : List Int)).bind fun y239 => (if y239.length + x3.length < 140737488355328 then (spec_PutInt.l0 k (x0 / 256) (y239 ++ x3)) else (none))) else (if x0 > 127 then ((some (([(x0 / 256) % 256] : List Int) : List Int)).bind fun y245 => (if y245.length + x3.length < 140737488355328 then (spec_PutInt.l0 k (x0 / 256) (y245 ++ x3)) else (none))) else (some x3))
def spec_PutInt.f (k : Nat) (a0 : Int) : Option (List Int) := (spec_l1Clip.f a0).bind fun t235 => (spec_PutInt.l0 k t235 (([(t235) % 256] : List Int)))
theorem spec_PutInt.mono_l : ∀ k, (∀ y0 y1, LeO (spec_PutInt.l0 k y0 y1) (spec_PutInt.l0 (k + 1) y0 y1))
 | 0 => fun _ _ r h => by simp [spec_PutInt.l0] at h
 | k + 1 => by
  have ih0 := spec_PutInt.mono_l k
  intro y0 y1
  unfold spec_PutInt.l0
  repeat' first
  | (with_reducible exact ih0 _ _)
  | (with_reducible exact LeO.refl _)
  | (with_reducible exact LeO.none _)
  | (with_reducible refine LeO.ite ?_ ?_)
  | (with_reducible refine LeO.bind ?_ (fun _ => ?_))
  | exact ih0 _ _
  | exact LeO.none _
  | refine LeO.ite ?_ ?_
  | refine LeO.bind ?_ (fun _ => ?_)
theorem spec_PutInt.mono : ∀ a0 k, LeO (spec_PutInt.f k a0) (spec_PutInt.f (k + 1) a0) := by
 intro a0 k
 have ih0 := spec_PutInt.mono_l k
 unfold spec_PutInt.f
 repeat' first
  | (with_reducible exact ih0 _ _)
  | (with_reducible exact LeO.refl _)
  | (with_reducible exact LeO.none _)
  | (with_reducible refine LeO.ite ?_ ?_)
  | (with_reducible refine LeO.bind ?_ (fun _ => ?_))
  | exact ih0 _ _
  | exact LeO.none _
  | refine LeO.ite ?_ ?_
  | refine LeO.bind ?_ (fun _ => ?_)
theorem spec_PutInt.calls (k : Nat) (a0 : Int) (r : List Int) (w : World) (h : spec_PutInt.f k a0 = some r) :
 Calls Try.prog 64 #[.int .i64 a0] w fun e w' => ∃ v0_ : Value, e = .returned (v0_) ∧ Kd.R (Kd.int .u8) 5 w' w.heap.size (fun _ => True) v0_ r ∧ Below w.heap.size w w' := by
 have HB := am (Below.refl w.heap.size w)
 have H : ((spec_l1Clip.f a0).bind fun t235 => (spec_PutInt.l0 k t235 (([(t235) % 256] : List Int)))) = some r := h
 clear h
 replace H := Option.bind_eq_some_iff.mp H
 obtain ⟨t235, A20, H⟩ := H
 replace H : (spec_PutInt.l0 k t235 (([(t235) % 256] : List Int))) = some r := H
 have A2 := am A20
 clear A20
 obtain ⟨y236, hy236⟩ : ∃ y_ : List Int, y_ = (([(t235) % 256] : List Int)) := ⟨_, rfl⟩
 replace H : (spec_PutInt.l0 k t235 y236) = some r := hx H hy236
 have Ny236 := am hy236
 clear hy236
 have H' := am H
 clear H
 go_enter Try.func64, Try.ntmps64
 go_wp2_with (first | ((with_reducible refine gate_callee (f := 109) rfl ?_); refine goesL_ (some 5) rfl rfl Try.func109 (by kernel_rfl) rfl #[.int .i64 a0] rfl ga ?_; (with_reducible refine (spec_l1Clip.calls a0 t235 _ A2.out).mono ?_); rintro e w' ⟨rfl, ⟨nd, rfl⟩⟩; refine ⟨_, rfl, ?_⟩) | ((with_reducible refine gate_dst (N := 8) rfl ?_); refine Kd.R_lit (Kd.int .u8) _ 5 ?hg (N := 8) ?hd (xs := ([(t235) % 256] : List Int)) (inner := [.int .u8 ((t235) % 256)]) (ok := fun _ => True) (okp := fun _ => True) ?hr ?hp (fun _ hk => hk) trivial (Below.refl _ _) (Nat.le_refl _) (by simp) ?_; (case hd => rfl); (case hg => rfl); (case hr => exact gs); (case hp => exact (Reps.one (show Kd.M (Kd.int .u8) _ _ _ ((t235) % 256) [.int .u8 ((t235) % 256)] from rfl) (Reps.none _ _))); intro v237 w3 ho4 hb hg_ hnew_; clear hg_ hnew_; (first | rw [← Ny236.out] at ho4 | (simp only [Int.reduceToNat] at ho4; rw [← Ny236.out] at ho4)); have n_ := ak2 (Kd.R_lower ho4 (below_size (bq HB.out))) (below_step (bq HB.out) hb); clear HB; obtain ⟨HO238, HB⟩ := n_; clear hb ho4))
 go_loopg [0, 3] k (fun kq v0 v3 w' => ∃ (x0_1 : Int) (x3_1 : List Int), v0 = .int .i64 x0_1 ∧ Aside0 (spec_PutInt.l0 kq x0_1 x3_1 = some r) ∧ Aside0 (kq ≤ k) ∧ Aside0 (Kd.R (Kd.int .u8) 5 w' w.heap.size (fun _ => True) v3 x3_1) ∧ Aside0 (Below w.heap.size w w'))
 case atStart => exact ⟨(t235), (y236), sq, H', ⟨Nat.le_refl _⟩, ⟨kqR HO238.out⟩, ⟨bq HB.out⟩⟩
 case round =>
  clear H'
  try clear c1
  try clear p2
  obtain ⟨x0_1, x3_1, rfl, HA, HK1, HO_3, HB⟩ := hrel
  cases gk with
  | zero => exact absurd HA.out (by simp [spec_PutInt.l0])
  | succ k1 =>
   have H := HA.out
   clear HA
   simp only [spec_PutInt.l0] at H
   by_cases c5 : x0_1 < (-128)
   · rw [if_pos c5] at H
     have c5b0 : decide (x0_1 < (-128)) = true := decide_eq_true c5
     clear c5
     obtain ⟨y239, hy239⟩ : ∃ y_ : List Int, y_ = (([(x0_1 / 256) % 256] : List Int)) := ⟨_, rfl⟩
     replace H : (if y239.length + x3_1.length < 140737488355328 then (spec_PutInt.l0 k1 (x0_1 / 256) (y239 ++ x3_1)) else (none)) = some r := hx H hy239
     have Ny239 := am hy239
     clear hy239
     by_cases c6 : y239.length + x3_1.length < 140737488355328
     rotate_left
     · rw [if_neg c6] at H
       exact absurd H (by simp)
     rw [if_pos c6] at H
     have LMc6 := am c6
     clear c6
     obtain ⟨y242, hy242⟩ : ∃ y_ : List Int, y_ = (y239 ++ x3_1) := ⟨_, rfl⟩
     replace H : (spec_PutInt.l0 k1 (x0_1 / 256) y242) = some r := hx H hy242
     have Ny242 := am hy242
     clear hy242
     have H' := am H
     clear H
     go_wp2_with (first | ((with_reducible refine gate_dst (N := 19) rfl ?_); refine Kd.R_lit (Kd.int .u8) _ 5 ?hg (N := 19) ?hd (xs := ([(x0_1 / 256) % 256] : List Int)) (inner := [.int .u8 ((x0_1 / 256) % 256)]) (ok := fun _ => True) (okp := fun _ => True) ?hr ?hp (fun _ hk => hk) trivial (Below.refl _ _) (Nat.le_refl _) (by simp) ?_; (case hd => rfl); (case hg => rfl); (case hr => exact gs); (case hp => exact (Reps.one (show Kd.M (Kd.int .u8) _ _ _ ((x0_1 / 256) % 256) [.int .u8 ((x0_1 / 256) % 256)] from rfl) (Reps.none _ _))); intro v240 w7 ho8 hb hg_ hnew_; clear hg_ hnew_; (first | rw [← Ny239.out] at ho8 | (simp only [Int.reduceToNat] at ho8; rw [← Ny239.out] at ho8)); have n_ := ak3 (Kd.R_elder' (kqR HO_3.out) (Kd.R_base ho8) hb) (Kd.R_lower (Kd.R_new' ho8 (Kd.R_lt (kqR HO_3.out))) (below_size (bq HB.out))) (below_step (bq HB.out) hb); clear HO_3 HB; obtain ⟨HO_3, HO241, HB⟩ := n_; clear hb ho8; obtain ⟨Ao10, co10, eo10⟩ := Kd.R_slice HO_3.out; subst eo10) | ((with_reducible refine gate_builtin (b := .append) (xs := #[.tmp 19, .tmp 20]) rfl ?_); at_builtin; refine Kd.R_append_rows (Kd.int .u8) (w0 := w) w.heap.size rfl (.tmp 19) (.tmp 20) 22 5 (.int .u8 0) 1 rfl Try.underlying22 info5 rfl (by decide) (by omega) v240 y239 x3_1 _ _ _ (fun k_ => some k_ ≠ (.slice Ao10 x3_1.length co10 : Value).ownBlock) (fun _ => False) rfl rfl ?aO ?aR (fun _ _ h => h) (fun _ h => h.elim) ?aF ?aB ?aS ?aL ?_; (case aR => repeat (first | exact (Kd.R_reads' HO_3.out).2.2 | (with_reducible refine Kd.C_alloc ?_ _) | (with_reducible refine Kd.C_drewN ?_ _) | (with_reducible refine Kd.C_drew ?_))); (case aB => exact (bq HB.out)); (case aF => exact (fun k_ hk => Kd.fresh' (Kd.R_lt (kqR HO_3.out)) k_ hk)); (case aO => exact (by refine kr ?_; exact Kd.R_mono HO241.out (fun _ hk => hk.2))); (case aS => exact (below_size (bq HB.out))); (case aL => have := LMc6.out; omega); intro v243 w9 ho hb hg hat; rw [← Ny242.out] at ho; have n_ := ak3 (Kd.R_after (ok := (fun _ => True)) (kqR HO_3.out) hg hat) hb ho; clear HO_3 HB HO241; obtain ⟨HO_3, HB, HO244⟩ := n_; clear ho hb hg hat))
     go_roundg k1
     case measure => have := HK1.out; omega
     case rel => exact ⟨(x0_1 / 256), (y242), sq, H', ⟨by have := HK1.out; omega⟩, ⟨by refine kr ?_; exact Kd.R_mono HO244.out (fun _ hk => trivial)⟩, ⟨bq HB.out⟩⟩
   rw [if_neg c5] at H
   have c5b0 : decide (x0_1 < (-128)) = false := decide_eq_false c5
   clear c5
   by_cases c11 : x0_1 > 127
   rotate_left
   · rw [if_neg c11] at H
     have c11b0 : decide (127 < x0_1) = false := decide_eq_false c11
     clear c11
     obtain rfl := Option.some.inj H
     go_wp2
     go_ret
     exact ⟨_, rq, kqR HO_3.out, bq HB.out⟩
   rw [if_pos c11] at H
   have c11b0 : decide (127 < x0_1) = true := decide_eq_true c11
   clear c11
   obtain ⟨y245, hy245⟩ : ∃ y_ : List Int, y_ = (([(x0_1 / 256) % 256] : List Int)) := ⟨_, rfl⟩
   replace H : (if y245.length + x3_1.length < 140737488355328 then (spec_PutInt.l0 k1 (x0_1 / 256) (y245 ++ x3_1)) else (none)) = some r := hx H hy245
   have Ny245 := am hy245
   clear hy245
   by_cases c12 : y245.length + x3_1.length < 140737488355328
   rotate_left
   · rw [if_neg c12] at H
     exact absurd H (by simp)
   rw [if_pos c12] at H
   have LMc12 := am c12
   clear c12
   obtain ⟨y248, hy248⟩ : ∃ y_ : List Int, y_ = (y245 ++ x3_1) := ⟨_, rfl⟩
   replace H : (spec_PutInt.l0 k1 (x0_1 / 256) y248) = some r := hx H hy248
   have Ny248 := am hy248
   clear hy248
   have H' := am H
   clear H
   go_wp2_with (first | ((with_reducible refine gate_dst (N := 19) rfl ?_); refine Kd.R_lit (Kd.int .u8) _ 5 ?hg (N := 19) ?hd (xs := ([(x0_1 / 256) % 256] : List Int)) (inner := [.int .u8 ((x0_1 / 256) % 256)]) (ok := fun _ => True) (okp := fun _ => True) ?hr ?hp (fun _ hk => hk) trivial (Below.refl _ _) (Nat.le_refl _) (by simp) ?_; (case hd => rfl); (case hg => rfl); (case hr => exact gs); (case hp => exact (Reps.one (show Kd.M (Kd.int .u8) _ _ _ ((x0_1 / 256) % 256) [.int .u8 ((x0_1 / 256) % 256)] from rfl) (Reps.none _ _))); intro v246 w13 ho14 hb hg_ hnew_; clear hg_ hnew_; (first | rw [← Ny245.out] at ho14 | (simp only [Int.reduceToNat] at ho14; rw [← Ny245.out] at ho14)); have n_ := ak3 (Kd.R_elder' (kqR HO_3.out) (Kd.R_base ho14) hb) (Kd.R_lower (Kd.R_new' ho14 (Kd.R_lt (kqR HO_3.out))) (below_size (bq HB.out))) (below_step (bq HB.out) hb); clear HO_3 HB; obtain ⟨HO_3, HO247, HB⟩ := n_; clear hb ho14; obtain ⟨Ao16, co16, eo16⟩ := Kd.R_slice HO_3.out; subst eo16) | ((with_reducible refine gate_builtin (b := .append) (xs := #[.tmp 19, .tmp 20]) rfl ?_); at_builtin; refine Kd.R_append_rows (Kd.int .u8) (w0 := w) w.heap.size rfl (.tmp 19) (.tmp 20) 22 5 (.int .u8 0) 1 rfl Try.underlying22 info5 rfl (by decide) (by omega) v246 y245 x3_1 _ _ _ (fun k_ => some k_ ≠ (.slice Ao16 x3_1.length co16 : Value).ownBlock) (fun _ => False) rfl rfl ?aO ?aR (fun _ _ h => h) (fun _ h => h.elim) ?aF ?aB ?aS ?aL ?_; (case aR => repeat (first | exact (Kd.R_reads' HO_3.out).2.2 | (with_reducible refine Kd.C_alloc ?_ _) | (with_reducible refine Kd.C_drewN ?_ _) | (with_reducible refine Kd.C_drew ?_))); (case aB => exact (bq HB.out)); (case aF => exact (fun k_ hk => Kd.fresh' (Kd.R_lt (kqR HO_3.out)) k_ hk)); (case aO => exact (by refine kr ?_; exact Kd.R_mono HO247.out (fun _ hk => hk.2))); (case aS => exact (below_size (bq HB.out))); (case aL => have := LMc12.out; omega); intro v249 w15 ho hb hg hat; rw [← Ny248.out] at ho; have n_ := ak3 (Kd.R_after (ok := (fun _ => True)) (kqR HO_3.out) hg hat) hb ho; clear HO_3 HB HO247; obtain ⟨HO_3, HB, HO250⟩ := n_; clear ho hb hg hat))
   go_roundg k1
   case measure => have := HK1.out; omega
   case rel => exact ⟨(x0_1 / 256), (y248), sq, H', ⟨by have := HK1.out; omega⟩, ⟨by refine kr ?_; exact Kd.R_mono HO250.out (fun _ hk => trivial)⟩, ⟨bq HB.out⟩⟩
mutual
def spec_GetInt.j0 : Nat → List Int → Int → Option (Int × Bool)
 | 0, _, _ => none
 | k + 1, x0, x4 => spec_GetInt.l0 k x0 x4 1
def spec_GetInt.l0 : Nat → List Int → Int → Int → Option (Int × Bool)
 | 0, _, _, _ => none
 | k + 1, x0, x4, x5 => if x5 < (x0.length : Int) then (if 0 ≤ x5 then (spec_GetInt.l0 k x0 (Go.bits .or .i64 (wrap64 (x4 * 256)) (wrap64 (rd x0 x5))) (wrap64 (x5 + 1))) else (none)) else ((spec_PutInt.f k x4).bind fun t254 => (if (t254.length : Int) = (x0.length : Int) then (some (x4, true)) else (some (0, false))))
end
def spec_GetInt.f (k : Nat) (l0 : List Int) : Option (Int × Bool) := (spec_l1In.f (l0.length : Int) 1 4).bind fun t251 => (if t251 = true then (if 0 < (l0.length : Int) then (if (wrap64 (rd l0 0)) > 127 then (spec_GetInt.j0 k l0 (wrap64 ((wrap64 (rd l0 0)) - 256))) else (spec_GetInt.j0 k l0 (wrap64 (rd l0 0)))) else (none)) else (some (0, false)))
theorem spec_GetInt.mono_l : ∀ k, (∀ y0 y1, LeO (spec_GetInt.j0 k y0 y1) (spec_GetInt.j0 (k + 1) y0 y1)) ∧ (∀ y0 y1 y2, LeO (spec_GetInt.l0 k y0 y1 y2) (spec_GetInt.l0 (k + 1) y0 y1 y2))
 | 0 => ⟨fun _ _ r h => by simp [spec_GetInt.j0] at h, fun _ _ _ r h => by simp [spec_GetInt.l0] at h⟩
 | k + 1 => by
  obtain ⟨ih0, ih1⟩ := spec_GetInt.mono_l k
  refine ⟨?_, ?_⟩
  · intro y0 y1
    unfold spec_GetInt.j0
    repeat' first
    | (with_reducible exact ih0 _ _)
    | (with_reducible exact ih1 _ _ _)
    | (with_reducible exact spec_PutInt.mono _ _)
    | (with_reducible exact LeO.refl _)
    | (with_reducible exact LeO.none _)
    | (with_reducible refine LeO.ite ?_ ?_)
    | (with_reducible refine LeO.bind ?_ (fun _ => ?_))
    | exact ih0 _ _
    | exact ih1 _ _ _
    | exact spec_PutInt.mono _ _
    | exact LeO.none _
    | refine LeO.ite ?_ ?_
    | refine LeO.bind ?_ (fun _ => ?_)
  intro y0 y1 y2
  unfold spec_GetInt.l0
  repeat' first
  | (with_reducible exact ih0 _ _)
  | (with_reducible exact ih1 _ _ _)
  | (with_reducible exact spec_PutInt.mono _ _)
  | (with_reducible exact LeO.refl _)
  | (with_reducible exact LeO.none _)
  | (with_reducible refine LeO.ite ?_ ?_)
  | (with_reducible refine LeO.bind ?_ (fun _ => ?_))
  | exact ih0 _ _
  | exact ih1 _ _ _
  | exact spec_PutInt.mono _ _
  | exact LeO.none _
  | refine LeO.ite ?_ ?_
  | refine LeO.bind ?_ (fun _ => ?_)
theorem spec_GetInt.mono : ∀ a0 k, LeO (spec_GetInt.f k a0) (spec_GetInt.f (k + 1) a0) := by
 intro a0 k
 obtain ⟨ih0, ih1⟩ := spec_GetInt.mono_l k
 unfold spec_GetInt.f
 repeat' first
  | (with_reducible exact ih0 _ _)
  | (with_reducible exact ih1 _ _ _)
  | (with_reducible exact spec_PutInt.mono _ _)
  | (with_reducible exact LeO.refl _)
  | (with_reducible exact LeO.none _)
  | (with_reducible refine LeO.ite ?_ ?_)
  | (with_reducible refine LeO.bind ?_ (fun _ => ?_))
  | exact ih0 _ _
  | exact ih1 _ _ _
  | exact spec_PutInt.mono _ _
  | exact LeO.none _
  | refine LeO.ite ?_ ?_
  | refine LeO.bind ?_ (fun _ => ?_)
theorem spec_GetInt.calls (k : Nat) (A0 : Option Addr) (c0 : Nat) (l0 : List Int) (r1 : Int) (r2 : Bool) (w : World) (hr0 : Kd.C (Kd.int .u8) w A0 l0.length l0) (hc0 : l0.length ≤ c0) (h : spec_GetInt.f k l0 = some (r1, r2)) :
 Calls Try.prog 89 #[.slice A0 l0.length c0] w fun e w' => e = .returned (.tuple #[.int .i64 r1, .bool r2]) ∧ Below w.heap.size w w' := by
 have HR0 := am hr0
 have HC0 := am hc0
 clear hr0 hc0
 have HB := am (Below.refl w.heap.size w)
 have H : ((spec_l1In.f (l0.length : Int) 1 4).bind fun t251 => (if t251 = true then (if 0 < (l0.length : Int) then (if (wrap64 (rd l0 0)) > 127 then (spec_GetInt.j0 k l0 (wrap64 ((wrap64 (rd l0 0)) - 256))) else (spec_GetInt.j0 k l0 (wrap64 (rd l0 0)))) else (none)) else (some (0, false)))) = some (r1, r2) := h
 clear h
 replace H := Option.bind_eq_some_iff.mp H
 obtain ⟨t251, A20, H⟩ := H
 replace H : (if t251 = true then (if 0 < (l0.length : Int) then (if (wrap64 (rd l0 0)) > 127 then (spec_GetInt.j0 k l0 (wrap64 ((wrap64 (rd l0 0)) - 256))) else (spec_GetInt.j0 k l0 (wrap64 (rd l0 0)))) else (none)) else (some (0, false))) = some (r1, r2) := H
 have A2 := am A20
 clear A20
 by_cases c3 : t251 = true
 rotate_left
 · replace c3 := Bool.eq_false_iff.mpr c3
   subst c3
   replace H : (some (0, false)) = some (r1, r2) := by rw [if_neg (show ¬ (false = true) by decide)] at H; exact H
   simp only [Option.some.injEq, Prod.mk.injEq] at H
   obtain ⟨rfl, rfl⟩ := H
   go_enter Try.func89, Try.ntmps89
   go_wp2_with (first | ((with_reducible refine gate_callee (f := 88) rfl ?_); refine goesL_ (some 8) rfl rfl Try.func88 (by kernel_rfl) rfl #[.int .i64 (l0.length : Int), .int .i64 1, .int .i64 4] rfl ga ?_; (with_reducible refine (spec_l1In.calls (l0.length : Int) 1 4 false _ A2.out).mono ?_); rintro e w' ⟨rfl, ⟨nd, rfl⟩⟩; refine ⟨_, rfl, ?_⟩))
   go_ret2
   exact ⟨rq, bq HB.out⟩
 subst c3
 replace H : (if 0 < (l0.length : Int) then (if (wrap64 (rd l0 0)) > 127 then (spec_GetInt.j0 k l0 (wrap64 ((wrap64 (rd l0 0)) - 256))) else (spec_GetInt.j0 k l0 (wrap64 (rd l0 0)))) else (none)) = some (r1, r2) := by rw [if_pos rfl] at H; exact H
 by_cases c4 : 0 < (l0.length : Int)
 rotate_left
 · rw [if_neg c4] at H
   exact absurd H (by simp)
 rw [if_pos c4] at H
 have c4b0 : decide (0 < (l0.length : Int)) = true := decide_eq_true c4
 have c4b1 : decide (0 < l0.length) = true := decide_eq_true (by omega)
 clear c4
 have HC5 := am H
 clear H
 go_enter Try.func89, Try.ntmps89
 go_upto_if 15 with (first | ((with_reducible refine gate_callee (f := 88) rfl ?_); refine goesL_ (some 8) rfl rfl Try.func88 (by kernel_rfl) rfl #[.int .i64 (l0.length : Int), .int .i64 1, .int .i64 4] rfl ga ?_; (with_reducible refine (spec_l1In.calls (l0.length : Int) 1 4 true _ A2.out).mono ?_); rintro e w' ⟨rfl, ⟨nd, rfl⟩⟩; refine ⟨_, rfl, ?_⟩; have p252 : 0 ≤ (0 : Int) := (by omega); have q252 : 0 < (l0.length : Int) := oda; obtain ⟨ad252, e252, hx252_0⟩ := Kd.at_int HR0.out 0 p252 q252; cases e252; have qi252 : (0 < l0.length) = True := eq_true (by omega); (try rw [show ((0 : Int)).toNat = 0 from rfl] at hx252_0); (try rw [Addr.add_zero'] at hx252_0); replace p252 := eq_true p252; replace q252 := eq_true q252))
 (try simp only [Act.put, List.setIfInBounds_toArray, List.set_cons_zero, List.set_cons_succ])
 go_cut [4] (fun v4 wc => ∃ (kq : Nat) (x4_4 : Int), v4 = .int .i64 x4_4 ∧ Aside0 (spec_GetInt.j0 kq l0 x4_4 = some (r1, r2)) ∧ Aside0 (kq ≤ k) ∧ Aside0 (Below w.heap.size w wc))
 case first =>
  have H := HC5.out
  clear HC5
  by_cases c6 : (wrap64 (rd l0 0)) > 127
  rotate_left
  · rw [if_neg c6] at H
    have c6b0 : decide (127 < (wrap64 (rd l0 0))) = false := decide_eq_false c6
    clear c6
    (first | rw [c6b0] | (simp only [i64_w, i32_w]; rw [c6b0]) | skip)
    have H' := am H
    clear H
    go_wp2
    go_meet
    case rel => exact ⟨_, (wrap64 (rd l0 0)), sq, H', ⟨by first | omega | exact Nat.le_refl _⟩, ⟨bq HB.out⟩⟩
  rw [if_pos c6] at H
  have c6b0 : decide (127 < (wrap64 (rd l0 0))) = true := decide_eq_true c6
  clear c6
  (first | rw [c6b0] | (simp only [i64_w, i32_w]; rw [c6b0]) | skip)
  have H' := am H
  clear H
  go_wp2
  go_meet
  case rel => exact ⟨_, (wrap64 ((wrap64 (rd l0 0)) - 256)), sq, H', ⟨by first | omega | exact Nat.le_refl _⟩, ⟨bq HB.out⟩⟩
 case rest =>
  clear HC5
  try clear p2
  try clear q2
  try clear hx2
  try clear qi2
  try clear c3
  try clear c4
  try clear c4b0
  try clear c4b1
  try clear c6
  try clear c6b0
  try clear p6
  try clear hx252_0
  try clear p252
  try clear q252
  obtain ⟨kq, x4_4, rfl, HA, HJ4, HB⟩ := hcut
  cases kq with
  | zero => exact absurd HA.out (by simp [spec_GetInt.j0])
  | succ kj4 =>
   have H := HA.out
   clear HA
   simp only [spec_GetInt.j0] at H
   have H' := am H
   clear H
   go_wp2
   go_loopg [4, 5] kj4 (fun kq v4 v5 w' => ∃ (x4_2 : Int) (x5_2 : Int), v4 = .int .i64 x4_2 ∧ v5 = .int .i64 x5_2 ∧ Aside0 (spec_GetInt.l0 kq l0 x4_2 x5_2 = some (r1, r2)) ∧ Aside0 (kq ≤ kj4) ∧ Aside0 (Below w.heap.size w w'))
   case atStart => exact ⟨(x4_4), (1), sq, sq, H', ⟨Nat.le_refl _⟩, ⟨bq HB.out⟩⟩
   case round =>
    clear H'
    try clear p2
    try clear q2
    try clear hx2
    try clear qi2
    try clear c3
    try clear c4
    try clear c4b0
    try clear c4b1
    try clear c6
    try clear c6b0
    try clear p6
    try clear hx252_0
    try clear p2
    try clear p252
    try clear p6
    try clear q2
    try clear q252
    obtain ⟨x4_2, x5_2, rfl, rfl, HA, HK2, HB⟩ := hrel
    cases gk with
    | zero => exact absurd HA.out (by simp [spec_GetInt.l0])
    | succ k2 =>
     have H := HA.out
     clear HA
     simp only [spec_GetInt.l0] at H
     by_cases c7 : x5_2 < (l0.length : Int)
     · rw [if_pos c7] at H
       have c7b0 : decide (x5_2 < (l0.length : Int)) = true := decide_eq_true c7
       clear c7
       by_cases c8 : 0 ≤ x5_2
       rotate_left
       · rw [if_neg c8] at H
         exact absurd H (by simp)
       rw [if_pos c8] at H
       have c8b0 : decide (0 ≤ x5_2) = true := decide_eq_true c8
       clear c8
       have H' := am H
       clear H
       have p253 : 0 ≤ (x5_2 : Int) := oda
       have q253 : x5_2 < (l0.length : Int) := oda
       obtain ⟨ad253, e253, hx253_0⟩ := Kd.at_int HR0.out x5_2 p253 q253
       obtain rfl : ad252 = ad253 := (by injection e253)
       replace hx253_0 := (HB.out.cell (World.block_lt_of_cell? w _ hx253_0)).trans hx253_0
       replace p253 := eq_true p253
       replace q253 := eq_true q253
       go_wp2
       go_roundg k2
       case measure => have := HJ4.out; have := HK2.out; omega
       case rel => exact ⟨(Go.bits .or .i64 (wrap64 (x4_2 * 256)) (wrap64 (rd l0 x5_2))), (wrap64 (x5_2 + 1)), sq, sq, H', ⟨by have := HJ4.out; have := HK2.out; omega⟩, ⟨bq HB.out⟩⟩
     rw [if_neg c7] at H
     have c7b0 : decide (x5_2 < (l0.length : Int)) = false := decide_eq_false c7
     clear c7
     replace H := Option.bind_eq_some_iff.mp H
     obtain ⟨t254, A90, H⟩ := H
     replace H : (if (t254.length : Int) = (l0.length : Int) then (some (x4_2, true)) else (some (0, false))) = some (r1, r2) := H
     have A9 := am A90
     clear A90
     by_cases c10 : (t254.length : Int) = (l0.length : Int)
     rotate_left
     · rw [if_neg c10] at H
       have c10b0 : ((t254.length : Int) == (l0.length : Int)) = false := beq_eq_false_iff_ne.mpr c10
       have c10b1 : ((t254.length : Int) != (l0.length : Int)) = true := bne_iff_ne.mpr c10
       have c10b2 : (t254.length == l0.length) = false := by first | simpa using c10 | (simp at c10 ⊢; omega)
       simp only [Option.some.injEq, Prod.mk.injEq] at H
       obtain ⟨rfl, rfl⟩ := H
       go_wp2_with (first | ((with_reducible refine gate_callee (f := 64) rfl ?_); refine goesL_ (some 33) rfl rfl Try.func64 (by kernel_rfl) rfl #[.int .i64 x4_2] rfl ga ?_; (with_reducible refine (spec_PutInt.calls k2 x4_2 t254 _ A9.out).mono ?_); rintro e w13 ⟨v255, rfl, ho0, hb⟩; refine ⟨_, rfl, ?_⟩; have n_ := ak2 (Kd.R_lower ho0 (below_size (bq HB.out))) (below_step (bq HB.out) hb); clear HB; obtain ⟨HO256, HB⟩ := n_; (try clear hb ho0); obtain ⟨Ao14, co14, eo14⟩ := Kd.R_slice HO256.out; subst eo14))
       go_ret2
       exact ⟨rq, bq HB.out⟩
     rw [if_pos c10] at H
     have c10b0 : ((t254.length : Int) == (l0.length : Int)) = true := beq_iff_eq.mpr c10
     have c10b1 : ((t254.length : Int) != (l0.length : Int)) = false := bne_eq_false_iff_eq.mpr c10
     have c10b2 : (t254.length == l0.length) = true := by first | simpa using c10 | (simp at c10 ⊢; omega)
     clear c10
     simp only [Option.some.injEq, Prod.mk.injEq] at H
     obtain ⟨rfl, rfl⟩ := H
     go_wp2_with (first | ((with_reducible refine gate_callee (f := 64) rfl ?_); refine goesL_ (some 33) rfl rfl Try.func64 (by kernel_rfl) rfl #[.int .i64 x4_2] rfl ga ?_; (with_reducible refine (spec_PutInt.calls k2 x4_2 t254 _ A9.out).mono ?_); rintro e w11 ⟨v255, rfl, ho0, hb⟩; refine ⟨_, rfl, ?_⟩; have n_ := ak2 (Kd.R_lower ho0 (below_size (bq HB.out))) (below_step (bq HB.out) hb); clear HB; obtain ⟨HO256, HB⟩ := n_; (try clear hb ho0); obtain ⟨Ao12, co12, eo12⟩ := Kd.R_slice HO256.out; subst eo12))
     go_ret2
     exact ⟨rq, bq HB.out⟩
def spec_l2Group.l0 : Nat → Int → List Int → Option (List Int)
 | 0, _, _ => none
 | k + 1, x0, x3 => if x0 > 127 then ((some (([(Go.bits .or .i64 (Go.bits .and .i64 (x0 / 128) 127) 128) % 256] : List Int) : List Int)).bind fun y260 => (if y260.length + x3.length < 140737488355328 then (spec_l2Group.l0 k (x0 / 128) (y260 ++ x3)) else (none))) else (some x3)
def spec_l2Group.f (k : Nat) (a0 : Int) : Option (List Int) := spec_l2Group.l0 k a0 (([(Go.bits .and .i64 a0 127) % 256] : List Int))
theorem spec_l2Group.mono_l : ∀ k, (∀ y0 y1, LeO (spec_l2Group.l0 k y0 y1) (spec_l2Group.l0 (k + 1) y0 y1))
 | 0 => fun _ _ r h => by simp [spec_l2Group.l0] at h
 | k + 1 => by
  have ih0 := spec_l2Group.mono_l k
  intro y0 y1
  unfold spec_l2Group.l0
  repeat' first
  | (with_reducible exact ih0 _ _)
  | (with_reducible exact LeO.refl _)
  | (with_reducible exact LeO.none _)
  | (with_reducible refine LeO.ite ?_ ?_)
  | (with_reducible refine LeO.bind ?_ (fun _ => ?_))
  | exact ih0 _ _
  | exact LeO.none _
  | refine LeO.ite ?_ ?_
  | refine LeO.bind ?_ (fun _ => ?_)
theorem spec_l2Group.mono : ∀ a0 k, LeO (spec_l2Group.f k a0) (spec_l2Group.f (k + 1) a0) := by
 intro a0 k
 have ih0 := spec_l2Group.mono_l k
 unfold spec_l2Group.f
 repeat' first
  | (with_reducible exact ih0 _ _)
  | (with_reducible exact LeO.refl _)
  | (with_reducible exact LeO.none _)
  | (with_reducible refine LeO.ite ?_ ?_)
  | (with_reducible refine LeO.bind ?_ (fun _ => ?_))
  | exact ih0 _ _
  | exact LeO.none _
  | refine LeO.ite ?_ ?_
  | refine LeO.bind ?_ (fun _ => ?_)
theorem spec_l2Group.calls (k : Nat) (a0 : Int) (r : List Int) (w : World) (h : spec_l2Group.f k a0 = some r) :
 Calls Try.prog 124 #[.int .i64 a0] w fun e w' => ∃ v0_ : Value, e = .returned (v0_) ∧ Kd.R (Kd.int .u8) 5 w' w.heap.size (fun _ => True) v0_ r ∧ Below w.heap.size w w' := by
 have HB := am (Below.refl w.heap.size w)
 have H : (spec_l2Group.l0 k a0 (([(Go.bits .and .i64 a0 127) % 256] : List Int))) = some r := h
 clear h
 obtain ⟨y257, hy257⟩ : ∃ y_ : List Int, y_ = (([(Go.bits .and .i64 a0 127) % 256] : List Int)) := ⟨_, rfl⟩
 replace H : (spec_l2Group.l0 k a0 y257) = some r := hx H hy257
 have Ny257 := am hy257
 clear hy257
 have H' := am H
 clear H
 go_enter Try.func124, Try.ntmps124
 go_wp2_with (first | ((with_reducible refine gate_dst (N := 7) rfl ?_); refine Kd.R_lit (Kd.int .u8) _ 5 ?hg (N := 7) ?hd (xs := ([(Go.bits .and .i64 a0 127) % 256] : List Int)) (inner := [.int .u8 ((Go.bits .and .i64 a0 127) % 256)]) (ok := fun _ => True) (okp := fun _ => True) ?hr ?hp (fun _ hk => hk) trivial (Below.refl _ _) (Nat.le_refl _) (by simp) ?_; (case hd => rfl); (case hg => rfl); (case hr => exact gs); (case hp => exact (Reps.one (show Kd.M (Kd.int .u8) _ _ _ ((Go.bits .and .i64 a0 127) % 256) [.int .u8 ((Go.bits .and .i64 a0 127) % 256)] from rfl) (Reps.none _ _))); intro v258 w2 ho3 hb hg_ hnew_; clear hg_ hnew_; (first | rw [← Ny257.out] at ho3 | (simp only [Int.reduceToNat] at ho3; rw [← Ny257.out] at ho3)); have n_ := ak2 (Kd.R_lower ho3 (below_size (bq HB.out))) (below_step (bq HB.out) hb); clear HB; obtain ⟨HO259, HB⟩ := n_; clear hb ho3))
 go_loopg [0, 3] k (fun kq v0 v3 w' => ∃ (x0_1 : Int) (x3_1 : List Int), v0 = .int .i64 x0_1 ∧ Aside0 (spec_l2Group.l0 kq x0_1 x3_1 = some r) ∧ Aside0 (kq ≤ k) ∧ Aside0 (Kd.R (Kd.int .u8) 5 w' w.heap.size (fun _ => True) v3 x3_1) ∧ Aside0 (Below w.heap.size w w'))
 case atStart => exact ⟨(a0), (y257), sq, H', ⟨Nat.le_refl _⟩, ⟨kqR HO259.out⟩, ⟨bq HB.out⟩⟩
 case round =>
  clear H'
  try clear c1
  try clear p2
  obtain ⟨x0_1, x3_1, rfl, HA, HK1, HO_3, HB⟩ := hrel
  cases gk with
  | zero => exact absurd HA.out (by simp [spec_l2Group.l0])
  | succ k1 =>
   have H := HA.out
   clear HA
   simp only [spec_l2Group.l0] at H
   by_cases c4 : x0_1 > 127
   rotate_left
   · rw [if_neg c4] at H
     have c4b0 : decide (127 < x0_1) = false := decide_eq_false c4
     clear c4
     obtain rfl := Option.some.inj H
     go_wp2
     go_ret
     exact ⟨_, rq, kqR HO_3.out, bq HB.out⟩
   rw [if_pos c4] at H
   have c4b0 : decide (127 < x0_1) = true := decide_eq_true c4
   clear c4
   obtain ⟨y260, hy260⟩ : ∃ y_ : List Int, y_ = (([(Go.bits .or .i64 (Go.bits .and .i64 (x0_1 / 128) 127) 128) % 256] : List Int)) := ⟨_, rfl⟩
   replace H : (if y260.length + x3_1.length < 140737488355328 then (spec_l2Group.l0 k1 (x0_1 / 128) (y260 ++ x3_1)) else (none)) = some r := hx H hy260
   have Ny260 := am hy260
   clear hy260
   by_cases c5 : y260.length + x3_1.length < 140737488355328
   rotate_left
   · rw [if_neg c5] at H
     exact absurd H (by simp)
   rw [if_pos c5] at H
   have LMc5 := am c5
   clear c5
   obtain ⟨y263, hy263⟩ : ∃ y_ : List Int, y_ = (y260 ++ x3_1) := ⟨_, rfl⟩
   replace H : (spec_l2Group.l0 k1 (x0_1 / 128) y263) = some r := hx H hy263
   have Ny263 := am hy263
   clear hy263
   have H' := am H
   clear H
   go_wp2_with (first | ((with_reducible refine gate_dst (N := 16) rfl ?_); refine Kd.R_lit (Kd.int .u8) _ 5 ?hg (N := 16) ?hd (xs := ([(Go.bits .or .i64 (Go.bits .and .i64 (x0_1 / 128) 127) 128) % 256] : List Int)) (inner := [.int .u8 ((Go.bits .or .i64 (Go.bits .and .i64 (x0_1 / 128) 127) 128) % 256)]) (ok := fun _ => True) (okp := fun _ => True) ?hr ?hp (fun _ hk => hk) trivial (Below.refl _ _) (Nat.le_refl _) (by simp) ?_; (case hd => rfl); (case hg => rfl); (case hr => exact gs); (case hp => exact (Reps.one (show Kd.M (Kd.int .u8) _ _ _ ((Go.bits .or .i64 (Go.bits .and .i64 (x0_1 / 128) 127) 128) % 256) [.int .u8 ((Go.bits .or .i64 (Go.bits .and .i64 (x0_1 / 128) 127) 128) % 256)] from rfl) (Reps.none _ _))); intro v261 w6 ho7 hb hg_ hnew_; clear hg_ hnew_; (first | rw [← Ny260.out] at ho7 | (simp only [Int.reduceToNat] at ho7; rw [← Ny260.out] at ho7)); have n_ := ak3 (Kd.R_elder' (kqR HO_3.out) (Kd.R_base ho7) hb) (Kd.R_lower (Kd.R_new' ho7 (Kd.R_lt (kqR HO_3.out))) (below_size (bq HB.out))) (below_step (bq HB.out) hb); clear HO_3 HB; obtain ⟨HO_3, HO262, HB⟩ := n_; clear hb ho7; obtain ⟨Ao9, co9, eo9⟩ := Kd.R_slice HO_3.out; subst eo9) | ((with_reducible refine gate_builtin (b := .append) (xs := #[.tmp 16, .tmp 17]) rfl ?_); at_builtin; refine Kd.R_append_rows (Kd.int .u8) (w0 := w) w.heap.size rfl (.tmp 16) (.tmp 17) 22 5 (.int .u8 0) 1 rfl Try.underlying22 info5 rfl (by decide) (by omega) v261 y260 x3_1 _ _ _ (fun k_ => some k_ ≠ (.slice Ao9 x3_1.length co9 : Value).ownBlock) (fun _ => False) rfl rfl ?aO ?aR (fun _ _ h => h) (fun _ h => h.elim) ?aF ?aB ?aS ?aL ?_; (case aR => repeat (first | exact (Kd.R_reads' HO_3.out).2.2 | (with_reducible refine Kd.C_alloc ?_ _) | (with_reducible refine Kd.C_drewN ?_ _) | (with_reducible refine Kd.C_drew ?_))); (case aB => exact (bq HB.out)); (case aF => exact (fun k_ hk => Kd.fresh' (Kd.R_lt (kqR HO_3.out)) k_ hk)); (case aO => exact (by refine kr ?_; exact Kd.R_mono HO262.out (fun _ hk => hk.2))); (case aS => exact (below_size (bq HB.out))); (case aL => have := LMc5.out; omega); intro v264 w8 ho hb hg hat; rw [← Ny263.out] at ho; have n_ := ak3 (Kd.R_after (ok := (fun _ => True)) (kqR HO_3.out) hg hat) hb ho; clear HO_3 HB HO262; obtain ⟨HO_3, HB, HO265⟩ := n_; clear ho hb hg hat))
   go_roundg k1
   case measure => have := HK1.out; omega
   case rel => exact ⟨(x0_1 / 128), (y263), sq, H', ⟨by have := HK1.out; omega⟩, ⟨by refine kr ?_; exact Kd.R_mono HO265.out (fun _ hk => trivial)⟩, ⟨bq HB.out⟩⟩
mutual
def spec_GetOid.l0 : Nat → List Int → List Int → Int → Option (List Int × Bool)
 | 0, _, _, _ => none
 | k + 1, x0, x4, x5 => if x5 < (x0.length : Int) then (spec_GetOid.j1 k x0 x4 x5 (decide ((x4.length : Int) ≤ 10))) else (spec_GetOid.j1 k x0 x4 x5 false)
def spec_GetOid.j1 : Nat → List Int → List Int → Int → Bool → Option (List Int × Bool)
 | 0, _, _, _, _ => none
 | k + 1, x0, x4, x5, x18 => if x18 = true then (spec_GetOid.l1 k x0 x4 x5 0 0 true) else (if x5 = (x0.length : Int) then ((spec_OidOk.f k x4).bind fun t269 => (if t269 = true then (some (x4, true)) else (some ((([] : List Int)), false)))) else (some ((([] : List Int)), false)))
def spec_GetOid.l1 : Nat → List Int → List Int → Int → Int → Int → Bool → Option (List Int × Bool)
 | 0, _, _, _, _, _, _ => none
 | k + 1, x0, x4, x5, x6, x7, x8 => if x8 = true then (if x5 < (x0.length : Int) then (if x7 < 4 then (if 0 ≤ x5 then (spec_GetOid.l1 k x0 x4 (wrap64 (x5 + 1)) (Go.bits .or .i64 (wrap64 (x6 * 128)) (wrap64 (Go.bits .and .u8 (rd x0 x5) 127))) (wrap64 (x7 + 1)) (decide ((rd x0 x5) > 127))) else (none)) else (some ((([] : List Int)), false))) else (some ((([] : List Int)), false))) else ((spec_l2Group.f k x6).bind fun t284 => (if (t284.length : Int) = x7 then (if x4.length < 17592186044416 then (spec_GetOid.l0 k x0 (x4 ++ [x6]) x5) else (none)) else (some ((([] : List Int)), false))))
end
def spec_GetOid.f (k : Nat) (l0 : List Int) : Option (List Int × Bool) := spec_GetOid.l0 k l0 (([] : List Int)) 0
theorem spec_GetOid.mono_l : ∀ k, (∀ y0 y1 y2, LeO (spec_GetOid.l0 k y0 y1 y2) (spec_GetOid.l0 (k + 1) y0 y1 y2)) ∧ (∀ y0 y1 y2 y3, LeO (spec_GetOid.j1 k y0 y1 y2 y3) (spec_GetOid.j1 (k + 1) y0 y1 y2 y3)) ∧ (∀ y0 y1 y2 y3 y4 y5, LeO (spec_GetOid.l1 k y0 y1 y2 y3 y4 y5) (spec_GetOid.l1 (k + 1) y0 y1 y2 y3 y4 y5))
 | 0 => ⟨fun _ _ _ r h => by simp [spec_GetOid.l0] at h, fun _ _ _ _ r h => by simp [spec_GetOid.j1] at h, fun _ _ _ _ _ _ r h => by simp [spec_GetOid.l1] at h⟩
 | k + 1 => by
  obtain ⟨ih0, ih1, ih2⟩ := spec_GetOid.mono_l k
  refine ⟨?_, ?_, ?_⟩
  · intro y0 y1 y2
    unfold spec_GetOid.l0
    repeat' first
    | (with_reducible exact ih0 _ _ _)
    | (with_reducible exact ih1 _ _ _ _)
    | (with_reducible exact ih2 _ _ _ _ _ _)
    | (with_reducible exact spec_OidOk.mono _ _)
    | (with_reducible exact spec_l2Group.mono _ _)
    | (with_reducible exact LeO.refl _)
    | (with_reducible exact LeO.none _)
    | (with_reducible refine LeO.ite ?_ ?_)
    | (with_reducible refine LeO.bind ?_ (fun _ => ?_))
    | exact ih0 _ _ _
    | exact ih1 _ _ _ _
    | exact ih2 _ _ _ _ _ _
    | exact spec_OidOk.mono _ _
    | exact spec_l2Group.mono _ _
    | exact LeO.none _
    | refine LeO.ite ?_ ?_
    | refine LeO.bind ?_ (fun _ => ?_)
  · intro y0 y1 y2 y3
    unfold spec_GetOid.j1
    repeat' first
    | (with_reducible exact ih0 _ _ _)
    | (with_reducible exact ih1 _ _ _ _)
    | (with_reducible exact ih2 _ _ _ _ _ _)
    | (with_reducible exact spec_OidOk.mono _ _)
    | (with_reducible exact spec_l2Group.mono _ _)
    | (with_reducible exact LeO.refl _)
    | (with_reducible exact LeO.none _)
    | (with_reducible refine LeO.ite ?_ ?_)
    | (with_reducible refine LeO.bind ?_ (fun _ => ?_))
    | exact ih0 _ _ _
    | exact ih1 _ _ _ _
    | exact ih2 _ _ _ _ _ _
    | exact spec_OidOk.mono _ _
    | exact spec_l2Group.mono _ _
    | exact LeO.none _
    | refine LeO.ite ?_ ?_
    | refine LeO.bind ?_ (fun _ => ?_)
  intro y0 y1 y2 y3 y4 y5
  unfold spec_GetOid.l1
  repeat' first
  | (with_reducible exact ih0 _ _ _)
  | (with_reducible exact ih1 _ _ _ _)
  | (with_reducible exact ih2 _ _ _ _ _ _)
  | (with_reducible exact spec_OidOk.mono _ _)
  | (with_reducible exact spec_l2Group.mono _ _)
  | (with_reducible exact LeO.refl _)
  | (with_reducible exact LeO.none _)
  | (with_reducible refine LeO.ite ?_ ?_)
  | (with_reducible refine LeO.bind ?_ (fun _ => ?_))
  | exact ih0 _ _ _
  | exact ih1 _ _ _ _
  | exact ih2 _ _ _ _ _ _
  | exact spec_OidOk.mono _ _
  | exact spec_l2Group.mono _ _
  | exact LeO.none _
  | refine LeO.ite ?_ ?_
  | refine LeO.bind ?_ (fun _ => ?_)
theorem spec_GetOid.mono : ∀ a0 k, LeO (spec_GetOid.f k a0) (spec_GetOid.f (k + 1) a0) := by
 intro a0 k
 obtain ⟨ih0, ih1, ih2⟩ := spec_GetOid.mono_l k
 unfold spec_GetOid.f
 repeat' first
  | (with_reducible exact ih0 _ _ _)
  | (with_reducible exact ih1 _ _ _ _)
  | (with_reducible exact ih2 _ _ _ _ _ _)
  | (with_reducible exact spec_OidOk.mono _ _)
  | (with_reducible exact spec_l2Group.mono _ _)
  | (with_reducible exact LeO.refl _)
  | (with_reducible exact LeO.none _)
  | (with_reducible refine LeO.ite ?_ ?_)
  | (with_reducible refine LeO.bind ?_ (fun _ => ?_))
  | exact ih0 _ _ _
  | exact ih1 _ _ _ _
  | exact ih2 _ _ _ _ _ _
  | exact spec_OidOk.mono _ _
  | exact spec_l2Group.mono _ _
  | exact LeO.none _
  | refine LeO.ite ?_ ?_
  | refine LeO.bind ?_ (fun _ => ?_)
theorem spec_GetOid.calls (k : Nat) (A0 : Option Addr) (c0 : Nat) (l0 : List Int) (r1 : List Int) (r2 : Bool) (w : World) (hr0 : Kd.C (Kd.int .u8) w A0 l0.length l0) (hc0 : l0.length ≤ c0) (h : spec_GetOid.f k l0 = some (r1, r2)) :
 Calls Try.prog 90 #[.slice A0 l0.length c0] w fun e w' => ∃ v0_ : Value, e = .returned (.tuple #[v0_, .bool r2]) ∧ Kd.R (Kd.int .i64) 3 w' w.heap.size (fun _ => True) v0_ r1 ∧ Below w.heap.size w w' := by
 have HR0 := am hr0
 have HC0 := am hc0
 clear hr0 hc0
 have HB := am (Below.refl w.heap.size w)
 have H : (spec_GetOid.l0 k l0 (([] : List Int)) 0) = some (r1, r2) := h
 clear h
 obtain ⟨y266, hy266⟩ : ∃ y_ : List Int, y_ = (([] : List Int)) := ⟨_, rfl⟩
 replace H : (spec_GetOid.l0 k l0 y266 0) = some (r1, r2) := hx H hy266
 have Ny266 := am hy266
 clear hy266
 have H' := am H
 clear H
 go_enter Try.func90, Try.ntmps90
 go_wp2_with (first | ((with_reducible refine gate_dst (N := 9) rfl ?_); (try (refine gate_guard (by rfl) ?_; dsimp only)); refine Kd.R_lit (Kd.int .i64) _ 3 ?hg (N := 9) ?hd (xs := ([] : List Int)) (inner := []) (ok := fun _ => True) (okp := fun _ => True) ?hr ?hp (fun _ hk => hk) trivial (Below.refl _ _) (Nat.le_refl _) (by simp) ?_; (case hd => rfl); (case hg => rfl); (case hr => exact gs); (case hp => exact (Reps.none _ _)); intro v267 w2 ho3 hb hg_ hnew_; clear hg_ hnew_; (first | rw [← Ny266.out] at ho3 | (simp only [Int.reduceToNat] at ho3; rw [← Ny266.out] at ho3)); have n_ := ak2 (Kd.R_lower ho3 (below_size (bq HB.out))) (below_step (bq HB.out) hb); clear HB; obtain ⟨HO268, HB⟩ := n_; clear hb ho3))
 go_loopg [4, 5] k (fun kq v4 v5 w' => ∃ (x4_1 : List Int) (x5_1 : Int), v5 = .int .i64 x5_1 ∧ Aside0 (spec_GetOid.l0 kq l0 x4_1 x5_1 = some (r1, r2)) ∧ Aside0 (kq ≤ k) ∧ Aside0 (Kd.R (Kd.int .i64) 3 w' w.heap.size (fun _ => True) v4 x4_1) ∧ Aside0 (Below w.heap.size w w'))
 case atStart => exact ⟨(y266), (0), sq, H', ⟨Nat.le_refl _⟩, ⟨kqR HO268.out⟩, ⟨bq HB.out⟩⟩
 case round =>
  clear H'
  try clear p2
  obtain ⟨x4_1, x5_1, rfl, HA, HK1, HO_4, HB⟩ := hrel
  cases gk with
  | zero => exact absurd HA.out (by simp [spec_GetOid.l0])
  | succ k1 =>
   have H := HA.out
   clear HA
   simp only [spec_GetOid.l0] at H
   have HC4 := am H
   clear H
   go_upto_region 3 with (fail)
   go_cut [18] (fun v18 wc => ∃ (kq : Nat) (x18_3 : Bool), v18 = .bool x18_3 ∧ Aside0 (spec_GetOid.j1 kq l0 x4_1 x5_1 x18_3 = some (r1, r2)) ∧ Aside0 (kq ≤ k1) ∧ Aside0 (Kd.R (Kd.int .i64) 3 wc w.heap.size (fun _ => True) u4 x4_1) ∧ Aside0 (Below w.heap.size w wc))
   case first =>
    have H := HC4.out
    clear HC4
    by_cases c5 : x5_1 < (l0.length : Int)
    rotate_left
    · rw [if_neg c5] at H
      have c5b0 : decide (x5_1 < (l0.length : Int)) = false := decide_eq_false c5
      clear c5
      (first | rw [c5b0] | (simp only [i64_w, i32_w]; rw [c5b0]) | skip)
      have H' := am H
      clear H
      go_wp2
      go_meet
      case rel => exact ⟨_, (false), sq, H', ⟨by have := HK1.out; first | omega | exact Nat.le_refl _⟩, ⟨kqR HO_4.out⟩, ⟨bq HB.out⟩⟩
    rw [if_pos c5] at H
    have c5b0 : decide (x5_1 < (l0.length : Int)) = true := decide_eq_true c5
    clear c5
    (first | rw [c5b0] | (simp only [i64_w, i32_w]; rw [c5b0]) | skip)
    have H' := am H
    clear H
    obtain ⟨Ao6, co6, eo6⟩ := Kd.R_slice HO_4.out
    subst eo6
    go_wp2
    go_meet
    case rel => exact ⟨_, (decide ((x4_1.length : Int) ≤ 10)), sq, H', ⟨by have := HK1.out; first | omega | exact Nat.le_refl _⟩, ⟨kqR HO_4.out⟩, ⟨bq HB.out⟩⟩
   case rest =>
    clear HC4
    try clear p2
    try clear c5
    try clear c5b0
    try clear p2
    obtain ⟨kq, x18_3, rfl, HA, HJ3, HO_4, HB⟩ := hcut
    cases kq with
    | zero => exact absurd HA.out (by simp [spec_GetOid.j1])
    | succ kj3 =>
     have H := HA.out
     clear HA
     simp only [spec_GetOid.j1] at H
     by_cases c7 : x18_3 = true
     rotate_left
     · replace c7 := Bool.eq_false_iff.mpr c7
       subst c7
       replace H : (if x5_1 = (l0.length : Int) then ((spec_OidOk.f kj3 x4_1).bind fun t269 => (if t269 = true then (some (x4_1, true)) else (some ((([] : List Int)), false)))) else (some ((([] : List Int)), false))) = some (r1, r2) := by rw [if_neg (show ¬ (false = true) by decide)] at H; exact H
       by_cases c26 : x5_1 = (l0.length : Int)
       rotate_left
       · rw [if_neg c26] at H
         have c26b0 : (x5_1 == (l0.length : Int)) = false := beq_eq_false_iff_ne.mpr c26
         have c26b1 : (x5_1 != (l0.length : Int)) = true := bne_iff_ne.mpr c26
         obtain ⟨y273, hy273⟩ : ∃ y_ : List Int, y_ = (([] : List Int)) := ⟨_, rfl⟩
         replace H : (some (y273, false)) = some (r1, r2) := hx H hy273
         have Ny273 := am hy273
         clear hy273
         simp only [Option.some.injEq, Prod.mk.injEq] at H
         obtain ⟨rfl, rfl⟩ := H
         go_wp2_with (first | ((with_reducible refine gate_dst (N := 70) rfl ?_); (try (refine gate_guard (by rfl) ?_; dsimp only)); refine Kd.R_lit (Kd.int .i64) _ 3 ?hg (N := 70) ?hd (xs := ([] : List Int)) (inner := []) (ok := fun _ => True) (okp := fun _ => True) ?hr ?hp (fun _ hk => hk) trivial (Below.refl _ _) (Nat.le_refl _) (by simp) ?_; (case hd => rfl); (case hg => rfl); (case hr => exact gs); (case hp => exact (Reps.none _ _)); intro v274 w33 ho34 hb hg_ hnew_; clear hg_ hnew_; (first | rw [← Ny273.out] at ho34 | (simp only [Int.reduceToNat] at ho34; rw [← Ny273.out] at ho34)); have n_ := ak3 (Kd.R_elder' (kqR HO_4.out) (Kd.R_base ho34) hb) (Kd.R_lower (Kd.R_new' ho34 (Kd.R_lt (kqR HO_4.out))) (below_size (bq HB.out))) (below_step (bq HB.out) hb); clear HO_4 HB; obtain ⟨HO_4, HO275, HB⟩ := n_; clear hb ho34))
         go_ret2
         exact ⟨_, rq, by refine kr ?_; exact Kd.R_mono HO275.out (fun _ hk => trivial), bq HB.out⟩
       rw [if_pos c26] at H
       have c26b0 : (x5_1 == (l0.length : Int)) = true := beq_iff_eq.mpr c26
       have c26b1 : (x5_1 != (l0.length : Int)) = false := bne_eq_false_iff_eq.mpr c26
       clear c26
       replace H := Option.bind_eq_some_iff.mp H
       obtain ⟨t269, A270, H⟩ := H
       replace H : (if t269 = true then (some (x4_1, true)) else (some ((([] : List Int)), false))) = some (r1, r2) := H
       have A27 := am A270
       clear A270
       by_cases c28 : t269 = true
       · subst c28
         replace H : (some (x4_1, true)) = some (r1, r2) := by rw [if_pos rfl] at H; exact H
         simp only [Option.some.injEq, Prod.mk.injEq] at H
         obtain ⟨rfl, rfl⟩ := H
         obtain ⟨Ao29, co29, eo29⟩ := Kd.R_slice HO_4.out
         subst eo29
         go_wp2_with (first | (go_at_call 110; (with_reducible refine (spec_OidOk.calls kj3 _ _ x4_1 true _ ?side1 ?side2 A27.out).mono ?_); (case side1 => repeat (first | exact (Kd.R_reads' HO_4.out).2.2 | (with_reducible refine Kd.C_alloc ?_ _) | (with_reducible refine Kd.C_drewN ?_ _) | (with_reducible refine Kd.C_drew ?_))); (case side2 => exact (Kd.R_reads' HO_4.out).2.1); rintro e w' ⟨rfl, ⟨nd, rfl⟩⟩))
         go_ret2
         exact ⟨_, rq, kqR HO_4.out, bq HB.out⟩
       replace c28 := Bool.eq_false_iff.mpr c28
       subst c28
       replace H : (some ((([] : List Int)), false)) = some (r1, r2) := by rw [if_neg (show ¬ (false = true) by decide)] at H; exact H
       obtain ⟨y270, hy270⟩ : ∃ y_ : List Int, y_ = (([] : List Int)) := ⟨_, rfl⟩
       replace H : (some (y270, false)) = some (r1, r2) := hx H hy270
       have Ny270 := am hy270
       clear hy270
       simp only [Option.some.injEq, Prod.mk.injEq] at H
       obtain ⟨rfl, rfl⟩ := H
       obtain ⟨Ao30, co30, eo30⟩ := Kd.R_slice HO_4.out
       subst eo30
       go_wp2_with (first | (go_at_call 110; (with_reducible refine (spec_OidOk.calls kj3 _ _ x4_1 false _ ?side1 ?side2 A27.out).mono ?_); (case side1 => repeat (first | exact (Kd.R_reads' HO_4.out).2.2 | (with_reducible refine Kd.C_alloc ?_ _) | (with_reducible refine Kd.C_drewN ?_ _) | (with_reducible refine Kd.C_drew ?_))); (case side2 => exact (Kd.R_reads' HO_4.out).2.1); rintro e w' ⟨rfl, ⟨nd, rfl⟩⟩) | ((with_reducible refine gate_dst (N := 70) rfl ?_); (try (refine gate_guard (by rfl) ?_; dsimp only)); refine Kd.R_lit (Kd.int .i64) _ 3 ?hg (N := 70) ?hd (xs := ([] : List Int)) (inner := []) (ok := fun _ => True) (okp := fun _ => True) ?hr ?hp (fun _ hk => hk) trivial (Below.refl _ _) (Nat.le_refl _) (by simp) ?_; (case hd => rfl); (case hg => rfl); (case hr => exact gs); (case hp => exact (Reps.none _ _)); intro v271 w31 ho32 hb hg_ hnew_; clear hg_ hnew_; (first | rw [← Ny270.out] at ho32 | (simp only [Int.reduceToNat] at ho32; rw [← Ny270.out] at ho32)); have n_ := ak3 (Kd.R_elder' (kqR HO_4.out) (Kd.R_base ho32) hb) (Kd.R_lower (Kd.R_new' ho32 (Kd.R_lt (kqR HO_4.out))) (below_size (bq HB.out))) (below_step (bq HB.out) hb); clear HO_4 HB; obtain ⟨HO_4, HO272, HB⟩ := n_; clear hb ho32))
       go_ret2
       exact ⟨_, rq, by refine kr ?_; exact Kd.R_mono HO272.out (fun _ hk => trivial), bq HB.out⟩
     subst c7
     replace H : (spec_GetOid.l1 kj3 l0 x4_1 x5_1 0 0 true) = some (r1, r2) := by rw [if_pos rfl] at H; exact H
     have H' := am H
     clear H
     go_wp2
     go_loopg [5, 6, 7, 8] kj3 (fun kq v5 v6 v7 v8 w' => ∃ (x5_3 : Int) (x6_3 : Int) (x7_3 : Int) (x8_3 : Bool), v5 = .int .i64 x5_3 ∧ v6 = .int .i64 x6_3 ∧ v7 = .int .i64 x7_3 ∧ v8 = .bool x8_3 ∧ Aside0 (spec_GetOid.l1 kq l0 x4_1 x5_3 x6_3 x7_3 x8_3 = some (r1, r2)) ∧ Aside0 (kq ≤ kj3) ∧ Aside0 (Kd.R (Kd.int .i64) 3 w' w.heap.size (fun _ => True) u4 x4_1) ∧ Aside0 (Below w.heap.size w w'))
     case atStart => exact ⟨(x5_1), (0), (0), (true), sq, sq, sq, sq, H', ⟨Nat.le_refl _⟩, ⟨kqR HO_4.out⟩, ⟨bq HB.out⟩⟩
     case round =>
      clear H'
      try clear p2
      try clear c5
      try clear c5b0
      try clear c7
      try clear p2
      obtain ⟨x5_3, x6_3, x7_3, x8_3, rfl, rfl, rfl, rfl, HA, HK3, HO_4, HB⟩ := hrel
      cases gk with
      | zero => exact absurd HA.out (by simp [spec_GetOid.l1])
      | succ k3 =>
       have H := HA.out
       clear HA
       simp only [spec_GetOid.l1] at H
       by_cases c8 : x8_3 = true
       rotate_left
       · replace c8 := Bool.eq_false_iff.mpr c8
         subst c8
         replace H : ((spec_l2Group.f k3 x6_3).bind fun t284 => (if (t284.length : Int) = x7_3 then (if x4_1.length < 17592186044416 then (spec_GetOid.l0 k3 l0 (x4_1 ++ [x6_3]) x5_3) else (none)) else (some ((([] : List Int)), false)))) = some (r1, r2) := by rw [if_neg (show ¬ (false = true) by decide)] at H; exact H
         replace H := Option.bind_eq_some_iff.mp H
         obtain ⟨t284, A160, H⟩ := H
         replace H : (if (t284.length : Int) = x7_3 then (if x4_1.length < 17592186044416 then (spec_GetOid.l0 k3 l0 (x4_1 ++ [x6_3]) x5_3) else (none)) else (some ((([] : List Int)), false))) = some (r1, r2) := H
         have A16 := am A160
         clear A160
         by_cases c17 : (t284.length : Int) = x7_3
         rotate_left
         · rw [if_neg c17] at H
           have c17b0 : ((t284.length : Int) == x7_3) = false := beq_eq_false_iff_ne.mpr c17
           have c17b1 : ((t284.length : Int) != x7_3) = true := bne_iff_ne.mpr c17
           obtain ⟨y290, hy290⟩ : ∃ y_ : List Int, y_ = (([] : List Int)) := ⟨_, rfl⟩
           replace H : (some (y290, false)) = some (r1, r2) := hx H hy290
           have Ny290 := am hy290
           clear hy290
           simp only [Option.some.injEq, Prod.mk.injEq] at H
           obtain ⟨rfl, rfl⟩ := H
           go_wp2_with (first | (go_at_call 124; (with_reducible refine (spec_l2Group.calls k3 x6_3 t284 _ A16.out).mono ?_); rintro e w22 ⟨v285, rfl, ho0, hb⟩; have n_ := ak3 (Kd.R_below (kqR HO_4.out) hb) (Kd.R_lower ho0 (below_size (bq HB.out))) (below_step (bq HB.out) hb); clear HO_4 HB; obtain ⟨HO_4, HO286, HB⟩ := n_; (try clear hb ho0); obtain ⟨Ao23, co23, eo23⟩ := Kd.R_slice HO286.out; subst eo23) | ((with_reducible refine gate_dst (N := 56) rfl ?_); (try (refine gate_guard (by rfl) ?_; dsimp only)); refine Kd.R_lit (Kd.int .i64) _ 3 ?hg (N := 56) ?hd (xs := ([] : List Int)) (inner := []) (ok := fun _ => True) (okp := fun _ => True) ?hr ?hp (fun _ hk => hk) trivial (Below.refl _ _) (Nat.le_refl _) (by simp) ?_; (case hd => rfl); (case hg => rfl); (case hr => exact gs); (case hp => exact (Reps.none _ _)); intro v291 w24 ho25 hb hg_ hnew_; clear hg_ hnew_; (first | rw [← Ny290.out] at ho25 | (simp only [Int.reduceToNat] at ho25; rw [← Ny290.out] at ho25)); have n_ := ak4 (Kd.R_elder' (kqR HO_4.out) (Kd.R_base ho25) hb) (Kd.R_below (kqR HO286.out) hb) (Kd.R_lower (Kd.R_new' ho25 (Kd.R_lt (kqR HO_4.out))) (below_size (bq HB.out))) (below_step (bq HB.out) hb); clear HO_4 HO286 HB; obtain ⟨HO_4, HO286, HO292, HB⟩ := n_; clear hb ho25))
           go_ret2
           exact ⟨_, rq, by refine kr ?_; exact Kd.R_mono HO292.out (fun _ hk => trivial), bq HB.out⟩
         rw [if_pos c17] at H
         have c17b0 : ((t284.length : Int) == x7_3) = true := beq_iff_eq.mpr c17
         have c17b1 : ((t284.length : Int) != x7_3) = false := bne_eq_false_iff_eq.mpr c17
         clear c17
         by_cases c18 : x4_1.length < 17592186044416
         rotate_left
         · rw [if_neg c18] at H
           exact absurd H (by simp)
         rw [if_pos c18] at H
         have LMc18 := am c18
         clear c18
         obtain ⟨y287, hy287⟩ : ∃ y_ : List Int, y_ = (x4_1 ++ [x6_3]) := ⟨_, rfl⟩
         replace H : (spec_GetOid.l0 k3 l0 y287 x5_3) = some (r1, r2) := hx H hy287
         have Ny287 := am hy287
         clear hy287
         have H' := am H
         clear H
         go_wp2_with (first | (go_at_call 124; (with_reducible refine (spec_l2Group.calls k3 x6_3 t284 _ A16.out).mono ?_); rintro e w19 ⟨v285, rfl, ho0, hb⟩; have n_ := ak3 (Kd.R_below (kqR HO_4.out) hb) (Kd.R_lower ho0 (below_size (bq HB.out))) (below_step (bq HB.out) hb); clear HO_4 HB; obtain ⟨HO_4, HO286, HB⟩ := n_; (try clear hb ho0); obtain ⟨Ao20, co20, eo20⟩ := Kd.R_slice HO286.out; subst eo20) | ((with_reducible refine gate_builtin (b := .append) (xs := #[.tmp 57, .tmp 59]) rfl ?_); (try (refine gate_guard (by rfl) ?_; dsimp only)); at_builtin; refine Kd.R_append (Kd.int .i64) (w0 := w) w.heap.size rfl (.tmp 57) (.tmp 59) 23 3 (.int .i64 0) 8 rfl Try.underlying23 info3 rfl (by decide) (by omega) u4 x4_1 x6_3 [.int .i64 x6_3] (fun _ => True) (fun _ => False) rfl rfl ?aP (fun _ hk => hk.elim) ?aF ?aO ?aB ?aS ?aL ?_; (case aP => exact rfl); (case aB => exact (bq HB.out)); (case aF => exact (fun _ _ => trivial)); (case aO => exact (kqR HO_4.out)); (case aS => exact (below_size (bq HB.out))); (case aL => have := LMc18.out; omega); intro v288 w21 ho hb hg hat; rw [← Ny287.out] at ho; have n_ := ak3 (Kd.R_over' (kqR HO286.out) (Kd.R_typed (kqR HO_4.out)) (by decide) hg) hb ho; clear HO286 HB HO_4; obtain ⟨HO286, HB, HO289⟩ := n_; clear ho hb hg hat))
         go_roundg k3
         case measure => have := HK1.out; have := HJ3.out; have := HK3.out; omega
         case rel => exact ⟨(y287), (x5_3), sq, H', ⟨by have := HK1.out; have := HJ3.out; have := HK3.out; omega⟩, ⟨kqR HO289.out⟩, ⟨bq HB.out⟩⟩
       subst c8
       replace H : (if x5_3 < (l0.length : Int) then (if x7_3 < 4 then (if 0 ≤ x5_3 then (spec_GetOid.l1 k3 l0 x4_1 (wrap64 (x5_3 + 1)) (Go.bits .or .i64 (wrap64 (x6_3 * 128)) (wrap64 (Go.bits .and .u8 (rd l0 x5_3) 127))) (wrap64 (x7_3 + 1)) (decide ((rd l0 x5_3) > 127))) else (none)) else (some ((([] : List Int)), false))) else (some ((([] : List Int)), false))) = some (r1, r2) := by rw [if_pos rfl] at H; exact H
       by_cases c9 : x5_3 < (l0.length : Int)
       rotate_left
       · rw [if_neg c9] at H
         have c9b0 : decide (x5_3 < (l0.length : Int)) = false := decide_eq_false c9
         clear c9
         obtain ⟨y281, hy281⟩ : ∃ y_ : List Int, y_ = (([] : List Int)) := ⟨_, rfl⟩
         replace H : (some (y281, false)) = some (r1, r2) := hx H hy281
         have Ny281 := am hy281
         clear hy281
         simp only [Option.some.injEq, Prod.mk.injEq] at H
         obtain ⟨rfl, rfl⟩ := H
         go_wp2_with (first | ((with_reducible refine gate_dst (N := 56) rfl ?_); (try (refine gate_guard (by rfl) ?_; dsimp only)); refine Kd.R_lit (Kd.int .i64) _ 3 ?hg (N := 56) ?hd (xs := ([] : List Int)) (inner := []) (ok := fun _ => True) (okp := fun _ => True) ?hr ?hp (fun _ hk => hk) trivial (Below.refl _ _) (Nat.le_refl _) (by simp) ?_; (case hd => rfl); (case hg => rfl); (case hr => exact gs); (case hp => exact (Reps.none _ _)); intro v282 w14 ho15 hb hg_ hnew_; clear hg_ hnew_; (first | rw [← Ny281.out] at ho15 | (simp only [Int.reduceToNat] at ho15; rw [← Ny281.out] at ho15)); have n_ := ak3 (Kd.R_elder' (kqR HO_4.out) (Kd.R_base ho15) hb) (Kd.R_lower (Kd.R_new' ho15 (Kd.R_lt (kqR HO_4.out))) (below_size (bq HB.out))) (below_step (bq HB.out) hb); clear HO_4 HB; obtain ⟨HO_4, HO283, HB⟩ := n_; clear hb ho15))
         go_ret2
         exact ⟨_, rq, by refine kr ?_; exact Kd.R_mono HO283.out (fun _ hk => trivial), bq HB.out⟩
       rw [if_pos c9] at H
       have c9b0 : decide (x5_3 < (l0.length : Int)) = true := decide_eq_true c9
       clear c9
       by_cases c10 : x7_3 < 4
       rotate_left
       · rw [if_neg c10] at H
         have c10b0 : decide (x7_3 < 4) = false := decide_eq_false c10
         clear c10
         obtain ⟨y278, hy278⟩ : ∃ y_ : List Int, y_ = (([] : List Int)) := ⟨_, rfl⟩
         replace H : (some (y278, false)) = some (r1, r2) := hx H hy278
         have Ny278 := am hy278
         clear hy278
         simp only [Option.some.injEq, Prod.mk.injEq] at H
         obtain ⟨rfl, rfl⟩ := H
         go_wp2_with (first | ((with_reducible refine gate_dst (N := 56) rfl ?_); (try (refine gate_guard (by rfl) ?_; dsimp only)); refine Kd.R_lit (Kd.int .i64) _ 3 ?hg (N := 56) ?hd (xs := ([] : List Int)) (inner := []) (ok := fun _ => True) (okp := fun _ => True) ?hr ?hp (fun _ hk => hk) trivial (Below.refl _ _) (Nat.le_refl _) (by simp) ?_; (case hd => rfl); (case hg => rfl); (case hr => exact gs); (case hp => exact (Reps.none _ _)); intro v279 w12 ho13 hb hg_ hnew_; clear hg_ hnew_; (first | rw [← Ny278.out] at ho13 | (simp only [Int.reduceToNat] at ho13; rw [← Ny278.out] at ho13)); have n_ := ak3 (Kd.R_elder' (kqR HO_4.out) (Kd.R_base ho13) hb) (Kd.R_lower (Kd.R_new' ho13 (Kd.R_lt (kqR HO_4.out))) (below_size (bq HB.out))) (below_step (bq HB.out) hb); clear HO_4 HB; obtain ⟨HO_4, HO280, HB⟩ := n_; clear hb ho13))
         go_ret2
         exact ⟨_, rq, by refine kr ?_; exact Kd.R_mono HO280.out (fun _ hk => trivial), bq HB.out⟩
       rw [if_pos c10] at H
       have c10b0 : decide (x7_3 < 4) = true := decide_eq_true c10
       clear c10
       by_cases c11 : 0 ≤ x5_3
       rotate_left
       · rw [if_neg c11] at H
         exact absurd H (by simp)
       rw [if_pos c11] at H
       have c11b0 : decide (0 ≤ x5_3) = true := decide_eq_true c11
       clear c11
       have H' := am H
       clear H
       have p276 : 0 ≤ (x5_3 : Int) := oda
       have q276 : x5_3 < (l0.length : Int) := oda
       obtain ⟨ad276, e276, hx276_0⟩ := Kd.at_int HR0.out x5_3 p276 q276
       cases e276
       replace hx276_0 := (HB.out.cell (World.block_lt_of_cell? w _ hx276_0)).trans hx276_0
       replace p276 := eq_true p276
       replace q276 := eq_true q276
       have p277 : 0 ≤ (x5_3 : Int) := oda
       have q277 : x5_3 < (l0.length : Int) := oda
       obtain ⟨ad277, e277, hx277_0⟩ := Kd.at_int HR0.out x5_3 p277 q277
       obtain rfl : ad276 = ad277 := (by injection e277)
       replace hx277_0 := (HB.out.cell (World.block_lt_of_cell? w _ hx277_0)).trans hx277_0
       replace p277 := eq_true p277
       replace q277 := eq_true q277
       go_wp2
       go_roundg k3
       case measure => have := HK1.out; have := HJ3.out; have := HK3.out; omega
       case rel => exact ⟨(wrap64 (x5_3 + 1)), (Go.bits .or .i64 (wrap64 (x6_3 * 128)) (wrap64 (Go.bits .and .u8 (rd l0 x5_3) 127))), (wrap64 (x7_3 + 1)), (decide ((rd l0 x5_3) > 127)), sq, sq, sq, sq, H', ⟨by have := HK1.out; have := HJ3.out; have := HK3.out; omega⟩, ⟨kqR HO_4.out⟩, ⟨bq HB.out⟩⟩
end Go.Proofs.Ythhnfmbfgplelaa.XFnVals
