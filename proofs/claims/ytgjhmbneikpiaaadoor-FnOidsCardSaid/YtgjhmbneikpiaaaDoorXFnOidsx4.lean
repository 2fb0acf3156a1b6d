/- The functions that one law reaches, as Lean functions, with their walks: printed by a program of this seat (wip/tools) out of the translation. -/
import Derived.Test.YtgjhmbneikpiaaaDoorXFnOidsx0
import Derived.Test.YtgjhmbneikpiaaaDoorXFnOidsx1
import Derived.Test.YtgjhmbneikpiaaaDoorXFnOidsx2
import Derived.Test.YtgjhmbneikpiaaaDoorXFnOidsx3
namespace Go.Proofs.YtgjhmbneikpiaaaDoor.XFnOids
open Go.RowKit Go.Proofs.YtgjhmbneikpiaaaDoorW.PrintWords Go.Proofs.YtgjhmbneikpiaaaDoorW.PrintLast Go.Proofs.YtgjhmbneikpiaaaDoorW.PrintMore
attribute [local go_sem] max2_int min2_int max_two min_two max_three min_three max_four min_four   -- for this text's walks alone
set_option linter.unusedVariables false
set_option linter.unusedSimpArgs false

/-! ### spec_l2Group: function 36 -/
def spec_l2Group.l0 : Nat → Int → List Int → Option (List Int)
 | 0, _, _ => none
 | k + 1, x0, x3 => if x0 > 127 then ((some (([(Go.bits .or .i64 (Go.bits .and .i64 (x0 / 128) 127) 128) % 256] : List Int) : List Int)).bind fun y252 => (if y252.length + x3.length < 140737488355328 then (spec_l2Group.l0 k (x0 / 128) (y252 ++ x3)) else (none))) else (some x3)
def spec_l2Group.f (k : Nat) (a0 : Int) : Option (List Int) := spec_l2Group.l0 k a0 (([(Go.bits .and .i64 a0 127) % 256] : List Int))
theorem spec_l2Group.mono_l : ∀ k, (∀ y0 y1, LeO (spec_l2Group.l0 k y0 y1) (spec_l2Group.l0 (k + 1) y0 y1))
 | 0 => fun _ _ r h => by simp [spec_l2Group.l0] at h
 | k + 1 => by
  have ih0 := spec_l2Group.mono_l k
  intro y0 y1
  unfold spec_l2Group.l0
  repeat' first
  | (with_reducible exact ih0 _ _)
  | (with_reducible exact LeO.refl _)
  | (with_reducible exact LeO.none _)
  | (with_reducible refine LeO.ite ?_ ?_)
  | (with_reducible refine LeO.bind ?_ (fun _ => ?_))
  | exact ih0 _ _
  | exact LeO.none _
  | refine LeO.ite ?_ ?_
  | refine LeO.bind ?_ (fun _ => ?_)
theorem spec_l2Group.mono : ∀ a0 k, LeO (spec_l2Group.f k a0) (spec_l2Group.f (k + 1) a0) := by
 intro a0 k
 have ih0 := spec_l2Group.mono_l k
 unfold spec_l2Group.f
 repeat' first
  | (with_reducible exact ih0 _ _)
  | (with_reducible exact LeO.refl _)
  | (with_reducible exact LeO.none _)
  | (with_reducible refine LeO.ite ?_ ?_)
  | (with_reducible refine LeO.bind ?_ (fun _ => ?_))
  | exact ih0 _ _
  | exact LeO.none _
  | refine LeO.ite ?_ ?_
  | refine LeO.bind ?_ (fun _ => ?_)
set_option maxHeartbeats 8000000 in
set_option maxRecDepth 100000 in
theorem spec_l2Group.calls (k : Nat) (a0 : Int) (r : List Int) (w : World) (h : spec_l2Group.f k a0 = some r) :
 Calls Tryd.prog 36 #[.int .i64 a0] w fun e w' => ∃ v0_ : Value, e = .returned (v0_) ∧ Kd.R (Kd.int .u8) 5 w' w.heap.size (fun _ => True) v0_ r ∧ Below w.heap.size w w' := by
 have HB := am (Below.refl w.heap.size w)
 have H : (spec_l2Group.l0 k a0 (([(Go.bits .and .i64 a0 127) % 256] : List Int))) = some r := h
 clear h
 obtain ⟨y249, hy249⟩ : ∃ y_ : List Int, y_ = (([(Go.bits .and .i64 a0 127) % 256] : List Int)) := ⟨_, rfl⟩
 replace H : (spec_l2Group.l0 k a0 y249) = some r := hx H hy249
 have Ny249 := am hy249
 clear hy249
 have H' := am H
 clear H
 go_enter Tryd.func36, Tryd.ntmps36
 go_wp2_with (first | ((with_reducible refine gate_dst (N := 7) rfl ?_); refine Kd.R_lit (Kd.int .u8) _ 5 ?hg (N := 7) ?hd (xs := ([(Go.bits .and .i64 a0 127) % 256] : List Int)) (inner := [.int .u8 ((Go.bits .and .i64 a0 127) % 256)]) (ok := fun _ => True) (okp := fun _ => True) ?hr ?hp (fun _ hk => hk) trivial (Below.refl _ _) (Nat.le_refl _) (by simp) ?_; (case hd => rfl); (case hg => rfl); (case hr => exact gs); (case hp => exact (Reps.one (show Kd.M (Kd.int .u8) _ _ _ ((Go.bits .and .i64 a0 127) % 256) [.int .u8 ((Go.bits .and .i64 a0 127) % 256)] from rfl) (Reps.none _ _))); intro v250 w2 ho3 hb hg_ hnew_; clear hg_ hnew_; (first | rw [← Ny249.out] at ho3 | (simp only [Int.reduceToNat] at ho3; rw [← Ny249.out] at ho3)); have n_ := ak2 (Kd.R_lower ho3 (below_size (bq HB.out))) (below_step (bq HB.out) hb); clear HB; obtain ⟨HO251, HB⟩ := n_; clear hb ho3))
 go_loopg [0, 3] k (fun kq v0 v3 w' => ∃ (x0_1 : Int) (x3_1 : List Int), v0 = .int .i64 x0_1 ∧ Aside0 (spec_l2Group.l0 kq x0_1 x3_1 = some r) ∧ Aside0 (kq ≤ k) ∧ Aside0 (Kd.R (Kd.int .u8) 5 w' w.heap.size (fun _ => True) v3 x3_1) ∧ Aside0 (Below w.heap.size w w'))
 case atStart => exact ⟨(a0), (y249), sq, H', ⟨Nat.le_refl _⟩, ⟨kqR HO251.out⟩, ⟨bq HB.out⟩⟩
 case round =>
  clear H'
  try clear p2
  try clear c3
  obtain ⟨x0_1, x3_1, rfl, HA, HK1, HO_3, HB⟩ := hrel
  cases gk with
  | zero => exact absurd HA.out (by simp [spec_l2Group.l0])
  | succ k1 =>
   have H := HA.out
   clear HA
   simp only [spec_l2Group.l0] at H
   by_cases c4 : x0_1 > 127
   rotate_left
   · rw [if_neg c4] at H
     have c4b0 : decide (127 < x0_1) = false := decide_eq_false c4
     clear c4
     obtain rfl := Option.some.inj H
     go_wp2
     go_ret
     exact ⟨_, rq, kqR HO_3.out, bq HB.out⟩
   rw [if_pos c4] at H
   have c4b0 : decide (127 < x0_1) = true := decide_eq_true c4
   clear c4
   obtain ⟨y252, hy252⟩ : ∃ y_ : List Int, y_ = (([(Go.bits .or .i64 (Go.bits .and .i64 (x0_1 / 128) 127) 128) % 256] : List Int)) := ⟨_, rfl⟩
   replace H : (if y252.length + x3_1.length < 140737488355328 then (spec_l2Group.l0 k1 (x0_1 / 128) (y252 ++ x3_1)) else (none)) = some r := hx H hy252
   have Ny252 := am hy252
   clear hy252
   by_cases c5 : y252.length + x3_1.length < 140737488355328
   rotate_left
   · rw [if_neg c5] at H
     exact absurd H (by simp)
   rw [if_pos c5] at H
   have LMc5 := am c5
   clear c5
   obtain ⟨y255, hy255⟩ : ∃ y_ : List Int, y_ = (y252 ++ x3_1) := ⟨_, rfl⟩
   replace H : (spec_l2Group.l0 k1 (x0_1 / 128) y255) = some r := hx H hy255
   have Ny255 := am hy255
   clear hy255
   have H' := am H
   clear H
   go_wp2_with (first | ((with_reducible refine gate_dst (N := 16) rfl ?_); refine Kd.R_lit (Kd.int .u8) _ 5 ?hg (N := 16) ?hd (xs := ([(Go.bits .or .i64 (Go.bits .and .i64 (x0_1 / 128) 127) 128) % 256] : List Int)) (inner := [.int .u8 ((Go.bits .or .i64 (Go.bits .and .i64 (x0_1 / 128) 127) 128) % 256)]) (ok := fun _ => True) (okp := fun _ => True) ?hr ?hp (fun _ hk => hk) trivial (Below.refl _ _) (Nat.le_refl _) (by simp) ?_; (case hd => rfl); (case hg => rfl); (case hr => exact gs); (case hp => exact (Reps.one (show Kd.M (Kd.int .u8) _ _ _ ((Go.bits .or .i64 (Go.bits .and .i64 (x0_1 / 128) 127) 128) % 256) [.int .u8 ((Go.bits .or .i64 (Go.bits .and .i64 (x0_1 / 128) 127) 128) % 256)] from rfl) (Reps.none _ _))); intro v253 w6 ho7 hb hg_ hnew_; clear hg_ hnew_; (first | rw [← Ny252.out] at ho7 | (simp only [Int.reduceToNat] at ho7; rw [← Ny252.out] at ho7)); have n_ := ak3 (Kd.R_elder' (kqR HO_3.out) (Kd.R_base ho7) hb) (Kd.R_lower (Kd.R_new' ho7 (Kd.R_lt (kqR HO_3.out))) (below_size (bq HB.out))) (below_step (bq HB.out) hb); clear HO_3 HB; obtain ⟨HO_3, HO254, HB⟩ := n_; clear hb ho7; obtain ⟨Ao9, co9, eo9⟩ := Kd.R_slice HO_3.out; subst eo9) | ((with_reducible refine gate_builtin (b := .append) (xs := #[.tmp 16, .tmp 17]) rfl ?_); at_builtin; refine Kd.R_append_rows (Kd.int .u8) (w0 := w) w.heap.size rfl (.tmp 16) (.tmp 17) 28 5 (.int .u8 0) 1 rfl Tryd.underlying28 info5 rfl (by decide) (by omega) v253 y252 x3_1 _ _ _ (fun k_ => some k_ ≠ (.slice Ao9 x3_1.length co9 : Value).ownBlock) (fun _ => False) rfl rfl ?aO ?aR (fun _ _ h => h) (fun _ h => h.elim) ?aF ?aB ?aS ?aL ?_; (case aR => repeat (first | exact (Kd.R_reads' HO_3.out).2.2 | (with_reducible refine Kd.C_alloc ?_ _) | (with_reducible refine Kd.C_drewN ?_ _) | (with_reducible refine Kd.C_drew ?_))); (case aB => exact (bq HB.out)); (case aF => exact (fun k_ hk => Kd.fresh' (Kd.R_lt (kqR HO_3.out)) k_ hk)); (case aO => exact (by refine kr ?_; exact Kd.R_mono HO254.out (fun _ hk => hk.2))); (case aS => exact (below_size (bq HB.out))); (case aL => have := LMc5.out; omega); intro v256 w8 ho hb hg hat; rw [← Ny255.out] at ho; have n_ := ak3 (Kd.R_after (ok := (fun _ => True)) (kqR HO_3.out) hg hat) hb ho; clear HO_3 HB HO254; obtain ⟨HO_3, HB, HO257⟩ := n_; clear ho hb hg hat))
   go_roundg k1
   case measure => have := HK1.out; omega
   case rel => exact ⟨(x0_1 / 128), (y255), sq, H', ⟨by have := HK1.out; omega⟩, ⟨by refine kr ?_; exact Kd.R_mono HO257.out (fun _ hk => trivial)⟩, ⟨bq HB.out⟩⟩

/-! ### spec_PutOid: function 31 -/
def spec_PutOid.l0 : Nat → List Int → List Int → Int → Option (List Int)
 | 0, _, _, _ => none
 | k + 1, x0, x3, x4 => if x4 < (x0.length : Int) then (if 0 ≤ x4 then ((spec_l2Group.f k (rd x0 x4)).bind fun t263 => (if x3.length + t263.length < 140737488355328 then (spec_PutOid.l0 k x0 (x3 ++ t263) (wrap64 (x4 + 1))) else (none))) else (none)) else (some x3)
def spec_PutOid.f (k : Nat) (l0 : List Int) : Option (List Int) := (some (([] : List Int) : List Int)).bind fun y258 => ((spec_OidOk.f k l0).bind fun t261 => (if t261 = true then (spec_PutOid.l0 k l0 y258 0) else (some y258)))
theorem spec_PutOid.mono_l : ∀ k, (∀ y0 y1 y2, LeO (spec_PutOid.l0 k y0 y1 y2) (spec_PutOid.l0 (k + 1) y0 y1 y2))
 | 0 => fun _ _ _ r h => by simp [spec_PutOid.l0] at h
 | k + 1 => by
  have ih0 := spec_PutOid.mono_l k
  intro y0 y1 y2
  unfold spec_PutOid.l0
  repeat' first
  | (with_reducible exact ih0 _ _ _)
  | (with_reducible exact spec_OidOk.mono _ _)
  | (with_reducible exact spec_l2Group.mono _ _)
  | (with_reducible exact LeO.refl _)
  | (with_reducible exact LeO.none _)
  | (with_reducible refine LeO.ite ?_ ?_)
  | (with_reducible refine LeO.bind ?_ (fun _ => ?_))
  | exact ih0 _ _ _
  | exact spec_OidOk.mono _ _
  | exact spec_l2Group.mono _ _
  | exact LeO.none _
  | refine LeO.ite ?_ ?_
  | refine LeO.bind ?_ (fun _ => ?_)
theorem spec_PutOid.mono : ∀ a0 k, LeO (spec_PutOid.f k a0) (spec_PutOid.f (k + 1) a0) := by
 intro a0 k
 have ih0 := spec_PutOid.mono_l k
 unfold spec_PutOid.f
 repeat' first
  | (with_reducible exact ih0 _ _ _)
  | (with_reducible exact spec_OidOk.mono _ _)
  | (with_reducible exact spec_l2Group.mono _ _)
  | (with_reducible exact LeO.refl _)
  | (with_reducible exact LeO.none _)
  | (with_reducible refine LeO.ite ?_ ?_)
  | (with_reducible refine LeO.bind ?_ (fun _ => ?_))
  | exact ih0 _ _ _
  | exact spec_OidOk.mono _ _
  | exact spec_l2Group.mono _ _
  | exact LeO.none _
  | refine LeO.ite ?_ ?_
  | refine LeO.bind ?_ (fun _ => ?_)
set_option maxHeartbeats 8000000 in
set_option maxRecDepth 100000 in
theorem spec_PutOid.calls (k : Nat) (A0 : Option Addr) (c0 : Nat) (l0 : List Int) (r : List Int) (w : World) (hr0 : Kd.C (Kd.int .i64) w A0 l0.length l0) (hc0 : l0.length ≤ c0) (h : spec_PutOid.f k l0 = some r) :
 Calls Tryd.prog 31 #[.slice A0 l0.length c0] w fun e w' => ∃ v0_ : Value, e = .returned (v0_) ∧ Kd.R (Kd.int .u8) 5 w' w.heap.size (fun _ => True) v0_ r ∧ Below w.heap.size w w' := by
 have HR0 := am hr0
 have HC0 := am hc0
 clear hr0 hc0
 have HB := am (Below.refl w.heap.size w)
 have H : ((some (([] : List Int) : List Int)).bind fun y258 => ((spec_OidOk.f k l0).bind fun t261 => (if t261 = true then (spec_PutOid.l0 k l0 y258 0) else (some y258)))) = some r := h
 clear h
 obtain ⟨y258, hy258⟩ : ∃ y_ : List Int, y_ = (([] : List Int)) := ⟨_, rfl⟩
 replace H : ((spec_OidOk.f k l0).bind fun t261 => (if t261 = true then (spec_PutOid.l0 k l0 y258 0) else (some y258))) = some r := hx H hy258
 have Ny258 := am hy258
 clear hy258
 replace H := Option.bind_eq_some_iff.mp H
 obtain ⟨t261, A20, H⟩ := H
 replace H : (if t261 = true then (spec_PutOid.l0 k l0 y258 0) else (some y258)) = some r := H
 have A2 := am A20
 clear A20
 by_cases c3 : t261 = true
 rotate_left
 · replace c3 := Bool.eq_false_iff.mpr c3
   subst c3
   replace H : (some y258) = some r := by rw [if_neg (show ¬ (false = true) by decide)] at H; exact H
   obtain rfl := Option.some.inj H
   go_enter Tryd.func31, Tryd.ntmps31
   go_wp2_with (first | ((with_reducible refine gate_dst (N := 5) rfl ?_); refine Kd.R_lit (Kd.int .u8) _ 5 ?hg (N := 5) ?hd (xs := ([] : List Int)) (inner := []) (ok := fun _ => True) (okp := fun _ => True) ?hr ?hp (fun _ hk => hk) trivial (Below.refl _ _) (Nat.le_refl _) (by simp) ?_; (case hd => rfl); (case hg => rfl); (case hr => exact gs); (case hp => exact (Reps.none _ _)); intro v259 w13 ho14 hb hg_ hnew_; clear hg_ hnew_; (first | rw [← Ny258.out] at ho14 | (simp only [Int.reduceToNat] at ho14; rw [← Ny258.out] at ho14)); have n_ := ak2 (Kd.R_lower ho14 (below_size (bq HB.out))) (below_step (bq HB.out) hb); clear HB; obtain ⟨HO260, HB⟩ := n_; clear hb ho14) | ((with_reducible refine gate_callee (f := 19) rfl ?_); refine goesL_ (some 7) rfl rfl Tryd.func19 (by kernel_rfl) rfl #[.slice A0 l0.length c0] rfl ga ?_; (with_reducible refine (spec_OidOk.calls k _ _ l0 false _ ?side1 ?side2 A2.out).mono ?_); (case side1 => exact cq (Kd.C_below HR0.out HB.out)); (case side2 => exact HC0.out); rintro e w' ⟨rfl, ⟨nd, rfl⟩⟩; refine ⟨_, rfl, ?_⟩))
   go_ret
   exact ⟨_, rq, kqR HO260.out, bq HB.out⟩
 subst c3
 replace H : (spec_PutOid.l0 k l0 y258 0) = some r := by rw [if_pos rfl] at H; exact H
 have H' := am H
 clear H
 go_enter Tryd.func31, Tryd.ntmps31
 go_wp2_with (first | ((with_reducible refine gate_dst (N := 5) rfl ?_); refine Kd.R_lit (Kd.int .u8) _ 5 ?hg (N := 5) ?hd (xs := ([] : List Int)) (inner := []) (ok := fun _ => True) (okp := fun _ => True) ?hr ?hp (fun _ hk => hk) trivial (Below.refl _ _) (Nat.le_refl _) (by simp) ?_; (case hd => rfl); (case hg => rfl); (case hr => exact gs); (case hp => exact (Reps.none _ _)); intro v259 w4 ho5 hb hg_ hnew_; clear hg_ hnew_; (first | rw [← Ny258.out] at ho5 | (simp only [Int.reduceToNat] at ho5; rw [← Ny258.out] at ho5)); have n_ := ak2 (Kd.R_lower ho5 (below_size (bq HB.out))) (below_step (bq HB.out) hb); clear HB; obtain ⟨HO260, HB⟩ := n_; clear hb ho5) | ((with_reducible refine gate_callee (f := 19) rfl ?_); refine goesL_ (some 7) rfl rfl Tryd.func19 (by kernel_rfl) rfl #[.slice A0 l0.length c0] rfl ga ?_; (with_reducible refine (spec_OidOk.calls k _ _ l0 true _ ?side1 ?side2 A2.out).mono ?_); (case side1 => exact cq (Kd.C_below HR0.out HB.out)); (case side2 => exact HC0.out); rintro e w' ⟨rfl, ⟨nd, rfl⟩⟩; refine ⟨_, rfl, ?_⟩))
 go_loopg [3, 4] k (fun kq v3 v4 w' => ∃ (x3_1 : List Int) (x4_1 : Int), v4 = .int .i64 x4_1 ∧ Aside0 (spec_PutOid.l0 kq l0 x3_1 x4_1 = some r) ∧ Aside0 (kq ≤ k) ∧ Aside0 (Kd.R (Kd.int .u8) 5 w' w.heap.size (fun _ => True) v3 x3_1) ∧ Aside0 (Below w.heap.size w w'))
 case atStart => exact ⟨(y258), (0), sq, H', ⟨Nat.le_refl _⟩, ⟨kqR HO260.out⟩, ⟨bq HB.out⟩⟩
 case round =>
  clear H'
  try clear c1
  try clear p2
  try clear c3
  obtain ⟨x3_1, x4_1, rfl, HA, HK1, HO_3, HB⟩ := hrel
  cases gk with
  | zero => exact absurd HA.out (by simp [spec_PutOid.l0])
  | succ k1 =>
   have H := HA.out
   clear HA
   simp only [spec_PutOid.l0] at H
   by_cases c6 : x4_1 < (l0.length : Int)
   rotate_left
   · rw [if_neg c6] at H
     have c6b0 : decide (x4_1 < (l0.length : Int)) = false := decide_eq_false c6
     clear c6
     obtain rfl := Option.some.inj H
     go_wp2
     go_ret
     exact ⟨_, rq, kqR HO_3.out, bq HB.out⟩
   rw [if_pos c6] at H
   have c6b0 : decide (x4_1 < (l0.length : Int)) = true := decide_eq_true c6
   clear c6
   by_cases c7 : 0 ≤ x4_1
   rotate_left
   · rw [if_neg c7] at H
     exact absurd H (by simp)
   rw [if_pos c7] at H
   have c7b0 : decide (0 ≤ x4_1) = true := decide_eq_true c7
   clear c7
   replace H := Option.bind_eq_some_iff.mp H
   obtain ⟨t263, A80, H⟩ := H
   replace H : (if x3_1.length + t263.length < 140737488355328 then (spec_PutOid.l0 k1 l0 (x3_1 ++ t263) (wrap64 (x4_1 + 1))) else (none)) = some r := H
   have A8 := am A80
   clear A80
   by_cases c9 : x3_1.length + t263.length < 140737488355328
   rotate_left
   · rw [if_neg c9] at H
     exact absurd H (by simp)
   rw [if_pos c9] at H
   have LMc9 := am c9
   clear c9
   obtain ⟨y266, hy266⟩ : ∃ y_ : List Int, y_ = (x3_1 ++ t263) := ⟨_, rfl⟩
   replace H : (spec_PutOid.l0 k1 l0 y266 (wrap64 (x4_1 + 1))) = some r := hx H hy266
   have Ny266 := am hy266
   clear hy266
   have H' := am H
   clear H
   have p262 : 0 ≤ (x4_1 : Int) := oda
   have q262 : x4_1 < (l0.length : Int) := oda
   obtain ⟨ad262, e262, hx262_0⟩ := Kd.at_int HR0.out x4_1 p262 q262
   cases e262
   replace hx262_0 := (HB.out.cell (World.block_lt_of_cell? w _ hx262_0)).trans hx262_0
   replace p262 := eq_true p262
   replace q262 := eq_true q262
   go_wp2_with (first | ((with_reducible refine gate_callee (f := 36) rfl ?_); refine goesL_ (some 21) rfl rfl Tryd.func36 (by kernel_rfl) rfl #[.int .i64 (rd l0 x4_1)] rfl ga ?_; (with_reducible refine (spec_l2Group.calls k1 (rd l0 x4_1) t263 _ A8.out).mono ?_); rintro e w10 ⟨v264, rfl, ho0, hb⟩; refine ⟨_, rfl, ?_⟩; have n_ := ak3 (Kd.R_elder' (kqR HO_3.out) (Kd.R_base ho0) hb) (Kd.R_lower (Kd.R_new' ho0 (Kd.R_lt (kqR HO_3.out))) (below_size (bq HB.out))) (below_step (bq HB.out) hb); clear HO_3 HB; obtain ⟨HO_3, HO265, HB⟩ := n_; (try clear hb ho0); obtain ⟨Ao12, co12, eo12⟩ := Kd.R_slice HO265.out; subst eo12) | ((with_reducible refine gate_builtin (b := .append) (xs := #[.tmp 16, .tmp 21]) rfl ?_); at_builtin; refine Kd.R_append_rows (Kd.int .u8) (w0 := w) w.heap.size rfl (.tmp 16) (.tmp 21) 28 5 (.int .u8 0) 1 rfl Tryd.underlying28 info5 rfl (by decide) (by omega) u3 x3_1 t263 _ _ _ (fun k_ => some k_ ≠ (.slice Ao12 t263.length co12 : Value).ownBlock) (fun _ => False) rfl rfl ?aO ?aR (fun _ _ h => h) (fun _ h => h.elim) ?aF ?aB ?aS ?aL ?_; (case aR => repeat (first | exact (Kd.R_reads' HO265.out).2.2 | (with_reducible refine Kd.C_alloc ?_ _) | (with_reducible refine Kd.C_drewN ?_ _) | (with_reducible refine Kd.C_drew ?_))); (case aB => exact (bq HB.out)); (case aF => exact (fun k_ hk => Kd.fresh' (Kd.R_lt (kqR HO265.out)) k_ hk)); (case aO => exact (by refine kr ?_; exact Kd.R_mono HO_3.out (fun _ hk => hk.2))); (case aS => exact (below_size (bq HB.out))); (case aL => have := LMc9.out; omega); intro v267 w11 ho hb hg hat; rw [← Ny266.out] at ho; have n_ := ak3 (Kd.R_after (ok := (fun _ => True)) (kqR HO265.out) hg hat) hb ho; clear HO265 HB HO_3; obtain ⟨HO265, HB, HO268⟩ := n_; clear ho hb hg hat))
   go_roundg k1
   case measure => have := HK1.out; omega
   case rel => exact ⟨(y266), (wrap64 (x4_1 + 1)), sq, H', ⟨by have := HK1.out; omega⟩, ⟨by refine kr ?_; exact Kd.R_mono HO268.out (fun _ hk => trivial)⟩, ⟨bq HB.out⟩⟩

/-! ### spec_DrawGetOid: function 14 -/
def spec_DrawGetOid.f (k : Nat) (l0 : List Int) : Option (List Int) := (spec_l1New.f k l0).bind fun bt269 => ((spec_l2Draw.f k bt269.1 bt269.2.1 bt269.2.2).bind fun bt273 => ((spec_PutOid.f k bt273.1).bind fun t278 => ((spec_l1Bend.f bt269.1 bt273.2.1 bt273.2.2 t278).bind fun bt281 => (some bt281.1))))
theorem spec_DrawGetOid.mono : ∀ a0 k, LeO (spec_DrawGetOid.f k a0) (spec_DrawGetOid.f (k + 1) a0) := by
 intro a0 k
 unfold spec_DrawGetOid.f
 repeat' first
  | (with_reducible exact spec_PutOid.mono _ _)
  | (with_reducible exact spec_l1New.mono _ _)
  | (with_reducible exact spec_l2Draw.mono _ _ _ _)
  | (with_reducible exact LeO.refl _)
  | (with_reducible exact LeO.none _)
  | (with_reducible refine LeO.ite ?_ ?_)
  | (with_reducible refine LeO.bind ?_ (fun _ => ?_))
  | exact spec_PutOid.mono _ _
  | exact spec_l1New.mono _ _
  | exact spec_l2Draw.mono _ _ _ _
  | exact LeO.none _
  | refine LeO.ite ?_ ?_
  | refine LeO.bind ?_ (fun _ => ?_)
set_option maxHeartbeats 8000000 in
set_option maxRecDepth 100000 in
theorem spec_DrawGetOid.calls (k : Nat) (A0 : Option Addr) (c0 : Nat) (l0 : List Int) (r : List Int) (w : World) (hr0 : Kd.C (Kd.int .u8) w A0 l0.length l0) (hc0 : l0.length ≤ c0) (h : spec_DrawGetOid.f k l0 = some r) :
 Calls Tryd.prog 14 #[.slice A0 l0.length c0] w fun e w' => ∃ v0_ : Value, e = .returned (v0_) ∧ Kd.R (Kd.int .u8) 5 w' w.heap.size (fun _ => True) v0_ r ∧ Below w.heap.size w w' := by
 have HR0 := am hr0
 have HC0 := am hc0
 clear hr0 hc0
 have HB := am (Below.refl w.heap.size w)
 have H : ((spec_l1New.f k l0).bind fun bt269 => ((spec_l2Draw.f k bt269.1 bt269.2.1 bt269.2.2).bind fun bt273 => ((spec_PutOid.f k bt273.1).bind fun t278 => ((spec_l1Bend.f bt269.1 bt273.2.1 bt273.2.2 t278).bind fun bt281 => (some bt281.1))))) = some r := h
 clear h
 replace H := Option.bind_eq_some_iff.mp H
 obtain ⟨⟨t269, t270, t271⟩, A20, H⟩ := H
 replace H : ((spec_l2Draw.f k t269 t270 t271).bind fun bt273 => ((spec_PutOid.f k bt273.1).bind fun t278 => ((spec_l1Bend.f t269 bt273.2.1 bt273.2.2 t278).bind fun bt281 => (some bt281.1)))) = some r := H
 have A2 := am A20
 clear A20
 replace H := Option.bind_eq_some_iff.mp H
 obtain ⟨⟨t273, t276, t277⟩, A30, H⟩ := H
 replace H : ((spec_PutOid.f k t273).bind fun t278 => ((spec_l1Bend.f t269 t276 t277 t278).bind fun bt281 => (some bt281.1))) = some r := H
 have A3 := am A30
 clear A30
 replace H := Option.bind_eq_some_iff.mp H
 obtain ⟨t278, A40, H⟩ := H
 replace H : ((spec_l1Bend.f t269 t276 t277 t278).bind fun bt281 => (some bt281.1)) = some r := H
 have A4 := am A40
 clear A40
 replace H := Option.bind_eq_some_iff.mp H
 obtain ⟨⟨t281, t284, t285⟩, A50, H⟩ := H
 replace H : (some t281) = some r := H
 have A5 := am A50
 clear A50
 obtain rfl := Option.some.inj H
 go_enter Tryd.func14, Tryd.ntmps14
 go_wp2_with (first | ((with_reducible refine gate_callee (f := 26) rfl ?_); refine goesL_ (some 5) rfl rfl Tryd.func26 (by kernel_rfl) rfl #[.slice A0 l0.length c0] rfl ga ?_; (with_reducible refine (spec_l1New.calls k _ _ l0 t269 t270 t271 w _ ?side1 ?side2 ?side3 A2.out).mono ?_); (case side1 => exact bq HB.out); (case side2 => exact HR0.out); (case side3 => exact HC0.out); rintro e w6 ⟨g272, rfl, hi, hb, hb2⟩; refine ⟨_, rfl, ?_⟩; have n_ := ak2 hb hi; clear HB; obtain ⟨HB, HI272⟩ := n_; (try clear hb hb2 hi)) | ((with_reducible refine gate_callee (f := 32) rfl ?_); refine goesL_ (some 8) rfl rfl Tryd.func32 (by kernel_rfl) rfl #[.pointer (some ⟨g272, 0, none⟩)] rfl ga ?_; (with_reducible refine (spec_l2Draw.calls k g272 t269 t270 t271 t273 t276 t277 w _ ?side1 ?side2 A3.out).mono ?_); (case side1 => exact IsS60.q0 HI272.out); (case side2 => exact bq1 HB.out (IsS60.ge HI272.out)); rintro e w7 ⟨v274, rfl, ho0, hi, hb, hk⟩; refine ⟨_, rfl, ?_⟩; have n_ := ak3 (Kd.R_lower ho0 (below_size (bq1 HB.out (IsS60.ge HI272.out)))) hb hi; clear HB HI272; obtain ⟨HO275, HB, HI272⟩ := n_; (try clear hb hk hi ho0); obtain ⟨Ao8, co8, eo8⟩ := Kd.R_slice HO275.out; subst eo8) | ((with_reducible refine gate_callee (f := 31) rfl ?_); refine goesL_ (some 9) rfl rfl Tryd.func31 (by kernel_rfl) rfl #[.slice Ao8 t273.length co8] rfl ga ?_; (with_reducible refine (spec_PutOid.calls k _ _ t273 t278 _ ?side1 ?side2 A4.out).mono ?_); (case side1 => repeat (first | exact (Kd.R_reads' HO275.out).2.2 | (with_reducible refine Kd.C_alloc ?_ _) | (with_reducible refine Kd.C_drewN ?_ _) | (with_reducible refine Kd.C_drew ?_))); (case side2 => exact (Kd.R_reads' HO275.out).2.1); rintro e w9 ⟨v279, rfl, ho0, hb⟩; refine ⟨_, rfl, ?_⟩; have n_ := ak4 (Kd.R_below (kqR HO275.out) hb) (Kd.R_lower ho0 (below_size (bq1 HB.out (IsS60.ge HI272.out)))) (IsS60.below (IsS60.q0 HI272.out) hb) (below_step (bq1 HB.out (IsS60.ge HI272.out)) hb); clear HO275 HI272 HB; obtain ⟨HO275, HO280, HI272, HB⟩ := n_; (try clear hb ho0); obtain ⟨Ao10, co10, eo10⟩ := Kd.R_slice HO280.out; subst eo10) | ((with_reducible refine gate_callee (f := 30) rfl ?_); refine goesL_ (some 10) rfl rfl Tryd.func30 (by kernel_rfl) rfl #[.pointer (some ⟨g272, 0, none⟩), .slice Ao10 t278.length co10] rfl ga ?_; (with_reducible refine (spec_l1Bend.calls g272 t269 t276 t277 (fun k_ => some k_ = (.slice Ao10 t278.length co10 : Value).ownBlock) (.slice Ao10 t278.length co10) t278 t281 t284 t285 w _ ?side1 ?side2 ?side3 A5.out).mono ?_); (case side1 => exact IsS60.q0 HI272.out); (case side2 => exact bq1 HB.out (IsS60.ge HI272.out)); (case side3 => exact Kd.R_tight rfl HO280.out); rintro e w11 ⟨v282, rfl, ho0, hi, hb, hkp⟩; refine ⟨_, rfl, ?_⟩; have n_ := ak4 hi (Kd.R_mono (ok' := fun k_ => True) (Kd.R_keptB ((IsS60.apart HI272.out (Kd.R_apart' HO275.out (Kd.R_typed HO280.out) (by decide)) (by decide))) hkp (fun k_ hk_ hs_ => Or.elim hs_ (fun hs_ => (hk_.1.2) hs_) (fun e_ => (hk_.2) e_))) (fun k_ hk_ => trivial)) (Kd.R_mono (ok' := fun k_ => True) ho0 (fun k_ hk_ => trivial)) hb; clear HI272 HO275 HB HO280; obtain ⟨HI272, HO275, HO283, HB⟩ := n_; (try clear hb hkp ho0)))
 go_ret
 exact ⟨_, rq, kqR HO283.out, bq1 HB.out (IsS60.ge HI272.out)⟩

/-! ### spec_l2Num: function 47 -/
def spec_l2Num.f : Nat → Int → Option (ByteArray)
 | 0, _ => none
 | k + 1, a0 => if a0 < 0 then ((spec_l2Num.f k (wrap64 (-a0))).bind fun t286 => (if 1 + t286.size ≤ 9223372036854775807 then (some ((⟨#[45]⟩ : ByteArray) ++ t286)) else (none))) else (if a0 < 10 then (some (strOfNums (([(wrap64 (48 + a0)) % 256] : List Int)))) else ((spec_l2Num.f k (wrap64 (Int.tdiv a0 10))).bind fun t290 => ((some (([(wrap64 (48 + (Int.tmod a0 10))) % 256] : List Int) : List Int)).bind fun y291 => (if t290.size + (strOfNums y291).size ≤ 9223372036854775807 then (some (t290 ++ (strOfNums y291))) else (none)))))
theorem spec_l2Num.mono_l : ∀ k, (∀ y0, LeO (spec_l2Num.f k y0) (spec_l2Num.f (k + 1) y0))
 | 0 => fun _ r h => by simp [spec_l2Num.f] at h
 | k + 1 => by
  have ih0 := spec_l2Num.mono_l k
  intro y0
  unfold spec_l2Num.f
  repeat' first
  | (with_reducible exact ih0 _)
  | (with_reducible exact LeO.refl _)
  | (with_reducible exact LeO.none _)
  | (with_reducible refine LeO.ite ?_ ?_)
  | (with_reducible refine LeO.bind ?_ (fun _ => ?_))
  | exact ih0 _
  | exact LeO.none _
  | refine LeO.ite ?_ ?_
  | refine LeO.bind ?_ (fun _ => ?_)
theorem spec_l2Num.mono : ∀ a0 k, LeO (spec_l2Num.f k a0) (spec_l2Num.f (k + 1) a0) := by
 intro a0 k
 have ih0 := spec_l2Num.mono_l k
 exact ih0 a0
def spec_l2Num.T5 : Bool × List (List Nat × List Nat) := (true, [([], []), ([0], [0]), ([1], [1]), ([], []), ([3], [3]), ([4], [4]), ([5], [5]), ([6], [6]), ([7], [7]), ([2, 8], [2, 8]), ([9, 2, 0, 1, 2, 3, 4, 5, 6, 7, 8, 9], [9])])
def spec_l2Num.B5 : List Nat := [0, 1, 3, 0, 8, 24, 56, 120, 248, 511, 1023]
theorem spec_l2Num.tab5 : rtab .any (opsOf Tryd.f47 5) = spec_l2Num.T5 := by kernel_rfl
theorem spec_l2Num.bits5 : waitsOk spec_l2Num.T5.2 spec_l2Num.B5 = true := by kernel_rfl
set_option maxHeartbeats 8000000 in
set_option maxRecDepth 100000 in
theorem spec_l2Num.calls (k : Nat) : ∀ (a0 : Int) (r : ByteArray) (w : World) (h : spec_l2Num.f k a0 = some r),
 Calls Tryd.prog 47 #[.int .i64 a0] w fun e w' => e = .returned (.string r) ∧ Below w.heap.size w w' := by
 induction k using Nat.strongRecOn with
 | _ k ih =>
 intro a0 r w h
 cases k with
 | zero => exact absurd h (by simp [spec_l2Num.f])
 | succ k =>
 simp only [spec_l2Num.f] at h
 have HB := am (Below.refl w.heap.size w)
 have H : (if a0 < 0 then ((spec_l2Num.f k (wrap64 (-a0))).bind fun t286 => (if 1 + t286.size ≤ 9223372036854775807 then (some ((⟨#[45]⟩ : ByteArray) ++ t286)) else (none))) else (if a0 < 10 then (some (strOfNums (([(wrap64 (48 + a0)) % 256] : List Int)))) else ((spec_l2Num.f k (wrap64 (Int.tdiv a0 10))).bind fun t290 => ((some (([(wrap64 (48 + (Int.tmod a0 10))) % 256] : List Int) : List Int)).bind fun y291 => (if t290.size + (strOfNums y291).size ≤ 9223372036854775807 then (some (t290 ++ (strOfNums y291))) else (none)))))) = some r := h
 clear h
 by_cases c2 : a0 < 0
 · rw [if_pos c2] at H
   have c2b0 : decide (a0 < 0) = true := decide_eq_true c2
   clear c2
   replace H := Option.bind_eq_some_iff.mp H
   obtain ⟨t286, A30, H⟩ := H
   replace H : (if 1 + t286.size ≤ 9223372036854775807 then (some ((⟨#[45]⟩ : ByteArray) ++ t286)) else (none)) = some r := H
   have A3 := am A30
   clear A30
   by_cases c4 : 1 + t286.size ≤ 9223372036854775807
   rotate_left
   · rw [if_neg c4] at H
     exact absurd H (by simp)
   rw [if_pos c4] at H
   have c4b0 := eq_true c4
   have c4b1 : decide (1 + t286.size ≤ 9223372036854775807) = true := decide_eq_true c4
   try have c4b2 : (9223372036854775807 < 1 + t286.size) = False := eq_false (Nat.not_lt.2 c4)
   obtain rfl := Option.some.inj H
   go_enter Tryd.func47, Tryd.ntmps47
   go_wp2_with (first | ((with_reducible refine gate_callee (f := 47) rfl ?_); refine goesL_ (some 7) rfl rfl Tryd.func47 (by kernel_rfl) rfl #[.int .i64 (wrap64 (-a0))] rfl ga ?_; (with_reducible refine (ih k (by omega) (wrap64 (-a0)) t286 _ A3.out).mono ?_); rintro e w5 ⟨rfl, hb⟩; refine ⟨_, rfl, ?_⟩; replace HB := am (below_step (bq HB.out) hb); (try clear hb)))
   go_ret
   exact ⟨rq, bq HB.out⟩
 rw [if_neg c2] at H
 have c2b0 : decide (a0 < 0) = false := decide_eq_false c2
 clear c2
 by_cases c6 : a0 < 10
 · rw [if_pos c6] at H
   have c6b0 : decide (a0 < 10) = true := decide_eq_true c6
   clear c6
   obtain ⟨y287, hy287⟩ : ∃ y_ : List Int, y_ = (([(wrap64 (48 + a0)) % 256] : List Int)) := ⟨_, rfl⟩
   replace H : (some (strOfNums y287)) = some r := hx H hy287
   have Ny287 := am hy287
   clear hy287
   obtain rfl := Option.some.inj H
   go_enter Tryd.func47, Tryd.ntmps47
   go_wp2_with (first | ((with_reducible refine gate_dst (N := 14) rfl ?_); refine Kd.R_lit (Kd.int .u8) _ 5 ?hg (N := 14) ?hd (xs := ([(wrap64 (48 + a0)) % 256] : List Int)) (inner := [.int .u8 ((wrap64 (48 + a0)) % 256)]) (ok := fun _ => True) (okp := fun _ => True) ?hr ?hp (fun _ hk => hk) trivial (Below.refl _ _) (Nat.le_refl _) (by simp) ?_; (case hd => rfl); (case hg => rfl); (case hr => exact gs); (case hp => exact (Reps.one (show Kd.M (Kd.int .u8) _ _ _ ((wrap64 (48 + a0)) % 256) [.int .u8 ((wrap64 (48 + a0)) % 256)] from rfl) (Reps.none _ _))); intro v288 w7 ho8 hb hg_ hnew_; clear hg_ hnew_; (first | rw [← Ny287.out] at ho8 | (simp only [Int.reduceToNat] at ho8; rw [← Ny287.out] at ho8)); have n_ := ak2 (Kd.R_lower ho8 (below_size (bq HB.out))) (below_step (bq HB.out) hb); clear HB; obtain ⟨HO289, HB⟩ := n_; clear hb ho8; have hcv9 := own_string (P := Tryd.prog) Tryd.underlying28 Tryd.underlying5 Tryd.underlying9 (Kd.own_of_R HO289.out)))
   go_ret
   exact ⟨rq, bq HB.out⟩
 rw [if_neg c6] at H
 have c6b0 : decide (a0 < 10) = false := decide_eq_false c6
 clear c6
 replace H := Option.bind_eq_some_iff.mp H
 obtain ⟨t290, A100, H⟩ := H
 replace H : ((some (([(wrap64 (48 + (Int.tmod a0 10))) % 256] : List Int) : List Int)).bind fun y291 => (if t290.size + (strOfNums y291).size ≤ 9223372036854775807 then (some (t290 ++ (strOfNums y291))) else (none))) = some r := H
 have A10 := am A100
 clear A100
 obtain ⟨y291, hy291⟩ : ∃ y_ : List Int, y_ = (([(wrap64 (48 + (Int.tmod a0 10))) % 256] : List Int)) := ⟨_, rfl⟩
 replace H : (if t290.size + (strOfNums y291).size ≤ 9223372036854775807 then (some (t290 ++ (strOfNums y291))) else (none)) = some r := hx H hy291
 have Ny291 := am hy291
 clear hy291
 by_cases c11 : t290.size + (strOfNums y291).size ≤ 9223372036854775807
 rotate_left
 · rw [if_neg c11] at H
   exact absurd H (by simp)
 rw [if_pos c11] at H
 have c11b0 := eq_true c11
 have c11b1 : decide (t290.size + (strOfNums y291).size ≤ 9223372036854775807) = true := decide_eq_true c11
 try have c11b2 : (9223372036854775807 < t290.size + (strOfNums y291).size) = False := eq_false (Nat.not_lt.2 c11)
 obtain rfl := Option.some.inj H
 go_enter Tryd.func47, Tryd.ntmps47
 try go_wp2
 replace HB := am (below_drew1 HB.out)
 refine start_ (n := 11) (S := fun w' => True) (ds := []) #[false, false, false, false, false, false, false, false, false, false, false] (by kernel_rfl) rfl rfl trivial (fun hHeld => ?_); refine with_tabW spec_l2Num.tab5 spec_l2Num.bits5 (fun HT_ HW_ => ?_)
 generalize w.drew = w12 at HB hHeld ⊢
 refine pu 0 (some 16) #[true, false, false, false, false, false, false, false, false, false, false] rfl rfl (any_of HT_.out (by kernel_rfl)) (Or.inl ⟨by rfl, by intro w'; go_simp; with_reducible rfl⟩) ?_
 refine pu 1 (some 17) #[true, true, false, false, false, false, false, false, false, false, false] rfl rfl (any_of HT_.out (by kernel_rfl)) (Or.inl ⟨by rfl, by intro w'; go_simp; with_reducible rfl⟩) ?_
 refine pu 3 (some 19) #[true, true, false, true, false, false, false, false, false, false, false] rfl rfl (any_of HT_.out (by kernel_rfl)) (Or.inl ⟨by rfl, by intro w'; go_simp; with_reducible rfl⟩) ?_
 refine pu 4 (some 20) #[true, true, false, true, true, false, false, false, false, false, false] rfl rfl (any_of HT_.out (by kernel_rfl)) (Or.inl ⟨by rfl, by intro w'; go_simp; with_reducible rfl⟩) ?_
 refine pu 5 (some 21) #[true, true, false, true, true, true, false, false, false, false, false] rfl rfl (any_of HT_.out (by kernel_rfl)) (Or.inl ⟨by rfl, by intro w'; go_simp; with_reducible rfl⟩) ?_
 refine pu 6 (some 22) #[true, true, false, true, true, true, true, false, false, false, false] rfl rfl (any_of HT_.out (by kernel_rfl)) (Or.inl ⟨by rfl, by intro w'; go_simp; with_reducible rfl⟩) ?_
 refine join_ (σ := Value) 2 #[true, true, true, true, true, true, true, true, true, false, false] (fun s_ => [(18, .string t290), (23, s_), (24, .string (strOfNums y291))]) (fun s_ w' => (Kd.R (Kd.int .u8) 5 w' w.heap.size (fun _ => True) s_ y291) ∧ (Below w.heap.size w w')) ?_ ?_
 rotate_left
 · intro hCont
   refine two_ (i := 2) (j := 7) (Ni := some 18) (Nj := some 23) #[true, true, true, true, true, true, true, false, false, false, false] #[true, true, false, true, true, true, true, true, false, false, false] rfl rfl rfl rfl (two_of HT_.out (by kernel_rfl)) (by decide) (by decide) (fun K hK => ?_) (fun K hK => ?_)
   · skip
     refine goes_ Tryd.func47 (by kernel_rfl) rfl #[.int .i64 (wrap64 (Int.tdiv a0 10))] (by rfl) rfl rfl ga ?_
     with_reducible refine (ih k (by omega) (wrap64 (Int.tdiv a0 10)) t290 _ A10.out).mono ?_
     rintro e w13 ⟨rfl, hb⟩
     refine ⟨_, rfl, ?_⟩
     replace HB := am (below_step (bq HB.out) hb)
     (try clear hb)
     refine hK.out _ _ trivial (fun hHeld => ?_)
     clear hK K
     refine norm_ (a' := ?_) ?_ ?_
     rotate_left
     · show Act.put _ (some 18) _ = _
       simp only [Act.put, List.setIfInBounds_toArray, List.set_cons_zero, List.set_cons_succ, i64_w, i32_w]
       rfl
     refine one_ (i := 7) (N := some 23) #[true, true, true, true, true, true, true, true, false, false, false] rfl rfl (one_of HT_.out (by kernel_rfl)) (by decide) (fun K hK => ?_)
     refine Kd.R_lit_step (Kd.int .u8) _ 5 ?hg (N := 23) ?hd (xs := ([(wrap64 (48 + (Int.tmod a0 10))) % 256] : List Int)) (inner := [.int .u8 ((wrap64 (48 + (Int.tmod a0 10))) % 256)]) (ok := fun _ => True) (okp := fun _ => True) ?hr ?hp (fun _ hk => hk) trivial (Below.refl _ _) (Nat.le_refl _) (by simp) ?_; (case hd => rfl); (case hg => rfl); (case hr => exact gs); (case hp => exact (Reps.one (show Kd.M (Kd.int .u8) _ _ _ ((wrap64 (48 + (Int.tmod a0 10))) % 256) [.int .u8 ((wrap64 (48 + (Int.tmod a0 10))) % 256)] from rfl) (Reps.none _ _)))
     intro v292 w14 ho15 hb hg_ hnew_
     clear hg_ hnew_
     (first | rw [← Ny291.out] at ho15 | (simp only [Int.reduceToNat] at ho15; rw [← Ny291.out] at ho15))
     have n_ := ak2 (Kd.R_lower ho15 (below_size (bq HB.out))) (below_step (bq HB.out) hb)
     clear HB
     obtain ⟨HO293, HB⟩ := n_
     clear hb ho15
     refine hK.out _ _ trivial (fun hHeld => ?_)
     clear hK K
     refine norm_ (a' := ?_) ?_ ?_
     rotate_left
     · show Act.put _ (some 23) _ = _
       simp only [Act.put, List.setIfInBounds_toArray, List.set_cons_zero, List.set_cons_succ, i64_w, i32_w]
       rfl
     refine one_ (i := 8) (N := some 24) #[true, true, true, true, true, true, true, true, true, false, false] rfl rfl (one_of HT_.out (by kernel_rfl)) (by decide) (fun K hK => ?_)
     have hcv16 := own_string (P := Tryd.prog) Tryd.underlying28 Tryd.underlying5 Tryd.underlying9 (Kd.own_of_R HO293.out)
     refine value_ (w1 := ?_) (v := ?_) (by rfl) rfl ?_ ?_
     rotate_left 2
     · go_simp
       constructor
       · rfl
       rfl
     clear hcv16
     refine hK.out _ _ trivial (fun hHeld => ?_)
     clear hK K
     refine norm_ (a' := ?_) ?_ ?_
     rotate_left
     · show Act.put _ (some 24) _ = _
       simp only [Act.put, List.setIfInBounds_toArray, List.set_cons_zero, List.set_cons_succ, i64_w, i32_w]
       rfl
     exact norm_ (by simp only [putAll, Act.put, List.setIfInBounds_toArray, List.set_cons_zero, List.set_cons_succ]) (hCont (v292) _ ⟨(kqR HO293.out), (bq HB.out)⟩)
   skip
   refine Kd.R_lit_step (Kd.int .u8) _ 5 ?hg (N := 23) ?hd (xs := ([(wrap64 (48 + (Int.tmod a0 10))) % 256] : List Int)) (inner := [.int .u8 ((wrap64 (48 + (Int.tmod a0 10))) % 256)]) (ok := fun _ => True) (okp := fun _ => True) ?hr ?hp (fun _ hk => hk) trivial (Below.refl _ _) (Nat.le_refl _) (by simp) ?_; (case hd => rfl); (case hg => rfl); (case hr => exact gs); (case hp => exact (Reps.one (show Kd.M (Kd.int .u8) _ _ _ ((wrap64 (48 + (Int.tmod a0 10))) % 256) [.int .u8 ((wrap64 (48 + (Int.tmod a0 10))) % 256)] from rfl) (Reps.none _ _)))
   intro v292 w13 ho14 hb hg_ hnew_
   clear hg_ hnew_
   (first | rw [← Ny291.out] at ho14 | (simp only [Int.reduceToNat] at ho14; rw [← Ny291.out] at ho14))
   have n_ := ak2 (Kd.R_lower ho14 (below_size (bq HB.out))) (below_step (bq HB.out) hb)
   clear HB
   obtain ⟨HO293, HB⟩ := n_
   clear hb ho14
   refine hK.out _ _ trivial (fun hHeld => ?_)
   clear hK K
   refine norm_ (a' := ?_) ?_ ?_
   rotate_left
   · show Act.put _ (some 23) _ = _
     simp only [Act.put, List.setIfInBounds_toArray, List.set_cons_zero, List.set_cons_succ, i64_w, i32_w]
     rfl
   refine two_ (i := 2) (j := 8) (Ni := some 18) (Nj := some 24) #[true, true, true, true, true, true, true, true, false, false, false] #[true, true, false, true, true, true, true, true, true, false, false] rfl rfl rfl rfl (two_of HT_.out (by kernel_rfl)) (by decide) (by decide) (fun K hK => ?_) (fun K hK => ?_)
   · skip
     refine goes_ Tryd.func47 (by kernel_rfl) rfl #[.int .i64 (wrap64 (Int.tdiv a0 10))] (by rfl) rfl rfl ga ?_
     with_reducible refine (ih k (by omega) (wrap64 (Int.tdiv a0 10)) t290 _ A10.out).mono ?_
     rintro e w15 ⟨rfl, hb⟩
     refine ⟨_, rfl, ?_⟩
     have n_ := ak2 (Kd.R_below (kqR HO293.out) hb) (below_step (bq HB.out) hb)
     clear HO293 HB
     obtain ⟨HO293, HB⟩ := n_
     (try clear hb)
     refine hK.out _ _ trivial (fun hHeld => ?_)
     clear hK K
     refine norm_ (a' := ?_) ?_ ?_
     rotate_left
     · show Act.put _ (some 18) _ = _
       simp only [Act.put, List.setIfInBounds_toArray, List.set_cons_zero, List.set_cons_succ, i64_w, i32_w]
       rfl
     refine one_ (i := 8) (N := some 24) #[true, true, true, true, true, true, true, true, true, false, false] rfl rfl (one_of HT_.out (by kernel_rfl)) (by decide) (fun K hK => ?_)
     have hcv16 := own_string (P := Tryd.prog) Tryd.underlying28 Tryd.underlying5 Tryd.underlying9 (Kd.own_of_R HO293.out)
     refine value_ (w1 := ?_) (v := ?_) (by rfl) rfl ?_ ?_
     rotate_left 2
     · go_simp
       constructor
       · rfl
       rfl
     clear hcv16
     refine hK.out _ _ trivial (fun hHeld => ?_)
     clear hK K
     refine norm_ (a' := ?_) ?_ ?_
     rotate_left
     · show Act.put _ (some 24) _ = _
       simp only [Act.put, List.setIfInBounds_toArray, List.set_cons_zero, List.set_cons_succ, i64_w, i32_w]
       rfl
     exact norm_ (by simp only [putAll, Act.put, List.setIfInBounds_toArray, List.set_cons_zero, List.set_cons_succ]) (hCont (v292) _ ⟨(kqR HO293.out), (bq HB.out)⟩)
   skip
   have hcv15 := own_string (P := Tryd.prog) Tryd.underlying28 Tryd.underlying5 Tryd.underlying9 (Kd.own_of_R HO293.out)
   refine value_ (w1 := ?_) (v := ?_) (by rfl) rfl ?_ ?_
   rotate_left 2
   · go_simp
     constructor
     · rfl
     rfl
   clear hcv15
   refine hK.out _ _ trivial (fun hHeld => ?_)
   clear hK K
   refine norm_ (a' := ?_) ?_ ?_
   rotate_left
   · show Act.put _ (some 24) _ = _
     simp only [Act.put, List.setIfInBounds_toArray, List.set_cons_zero, List.set_cons_succ, i64_w, i32_w]
     rfl
   refine one_ (i := 2) (N := some 18) #[true, true, true, true, true, true, true, true, true, false, false] rfl rfl (one_of HT_.out (by kernel_rfl)) (by decide) (fun K hK => ?_)
   refine goes_ Tryd.func47 (by kernel_rfl) rfl #[.int .i64 (wrap64 (Int.tdiv a0 10))] (by rfl) rfl rfl ga ?_
   with_reducible refine (ih k (by omega) (wrap64 (Int.tdiv a0 10)) t290 _ A10.out).mono ?_
   rintro e w16 ⟨rfl, hb⟩
   refine ⟨_, rfl, ?_⟩
   have n_ := ak2 (Kd.R_below (kqR HO293.out) hb) (below_step (bq HB.out) hb)
   clear HO293 HB
   obtain ⟨HO293, HB⟩ := n_
   (try clear hb)
   refine hK.out _ _ trivial (fun hHeld => ?_)
   clear hK K
   refine norm_ (a' := ?_) ?_ ?_
   rotate_left
   · show Act.put _ (some 18) _ = _
     simp only [Act.put, List.setIfInBounds_toArray, List.set_cons_zero, List.set_cons_succ, i64_w, i32_w]
     rfl
   exact norm_ (by simp only [putAll, Act.put, List.setIfInBounds_toArray, List.set_cons_zero, List.set_cons_succ]) (hCont (v292) _ ⟨(kqR HO293.out), (bq HB.out)⟩)
 rintro v292 w17 ⟨h0_, h1_⟩
 have n_ : Aside0 (Kd.R (Kd.int .u8) 5 w17 w.heap.size (fun _ => True) v292 y291) ∧ Aside0 (Below w.heap.size w w17) := ⟨⟨h0_⟩, ⟨h1_⟩⟩
 clear HB h0_ h1_
 obtain ⟨HO293, HB⟩ := n_
 have hHeld := trivial
 refine norm_ (a' := ?_) ?_ ?_
 rotate_left
 · simp only [putAll, Act.put, List.setIfInBounds_toArray, List.set_cons_zero, List.set_cons_succ]
   rfl
 refine pu 9 (some 25) #[true, true, true, true, true, true, true, true, true, true, false] rfl rfl (any_of HT_.out (by kernel_rfl)) (Or.inl ⟨by rfl, by intro w'; go_simp; with_reducible rfl⟩) ?_
 refine pu 10 (some 2) #[true, true, true, true, true, true, true, true, true, true, true] rfl rfl (any_of HT_.out (by kernel_rfl)) (Or.inl ⟨by rfl, by intro w'; go_simp; with_reducible rfl⟩) ?_
 refine done_ (done_of HT_.out (by kernel_rfl)) ?_
 try go_wp2
 go_ret
 exact ⟨rq, bq HB.out⟩

/-! ### spec_OidText: function 33 -/
def spec_OidText.l0 : Nat → List Int → ByteArray → Int → Option (ByteArray)
 | 0, _, _, _ => none
 | k + 1, x0, x3, x4 => if x4 < (x0.length : Int) then (if x4 > 0 then (if x3.size + 1 ≤ 9223372036854775807 then (if 0 ≤ x4 then ((spec_l2Num.f k (rd x0 x4)).bind fun t296 => (if (x3 ++ (⟨#[46]⟩ : ByteArray)).size + t296.size ≤ 9223372036854775807 then (spec_OidText.l0 k x0 ((x3 ++ (⟨#[46]⟩ : ByteArray)) ++ t296) (wrap64 (x4 + 1))) else (none))) else (none)) else (none)) else (if 0 ≤ x4 then ((spec_l2Num.f k (rd x0 x4)).bind fun t298 => (if x3.size + t298.size ≤ 9223372036854775807 then (spec_OidText.l0 k x0 (x3 ++ t298) (wrap64 (x4 + 1))) else (none))) else (none))) else (some x3)
def spec_OidText.f (k : Nat) (l0 : List Int) : Option (ByteArray) := (spec_OidOk.f k l0).bind fun t294 => (if t294 = true then (spec_OidText.l0 k l0 (⟨#[]⟩ : ByteArray) 0) else (some (⟨#[]⟩ : ByteArray)))
theorem spec_OidText.mono_l : ∀ k, (∀ y0 y1 y2, LeO (spec_OidText.l0 k y0 y1 y2) (spec_OidText.l0 (k + 1) y0 y1 y2))
 | 0 => fun _ _ _ r h => by simp [spec_OidText.l0] at h
 | k + 1 => by
  have ih0 := spec_OidText.mono_l k
  intro y0 y1 y2
  unfold spec_OidText.l0
  repeat' first
  | (with_reducible exact ih0 _ _ _)
  | (with_reducible exact spec_OidOk.mono _ _)
  | (with_reducible exact spec_l2Num.mono _ _)
  | (with_reducible exact LeO.refl _)
  | (with_reducible exact LeO.none _)
  | (with_reducible refine LeO.ite ?_ ?_)
  | (with_reducible refine LeO.bind ?_ (fun _ => ?_))
  | exact ih0 _ _ _
  | exact spec_OidOk.mono _ _
  | exact spec_l2Num.mono _ _
  | exact LeO.none _
  | refine LeO.ite ?_ ?_
  | refine LeO.bind ?_ (fun _ => ?_)
theorem spec_OidText.mono : ∀ a0 k, LeO (spec_OidText.f k a0) (spec_OidText.f (k + 1) a0) := by
 intro a0 k
 have ih0 := spec_OidText.mono_l k
 unfold spec_OidText.f
 repeat' first
  | (with_reducible exact ih0 _ _ _)
  | (with_reducible exact spec_OidOk.mono _ _)
  | (with_reducible exact spec_l2Num.mono _ _)
  | (with_reducible exact LeO.refl _)
  | (with_reducible exact LeO.none _)
  | (with_reducible refine LeO.ite ?_ ?_)
  | (with_reducible refine LeO.bind ?_ (fun _ => ?_))
  | exact ih0 _ _ _
  | exact spec_OidOk.mono _ _
  | exact spec_l2Num.mono _ _
  | exact LeO.none _
  | refine LeO.ite ?_ ?_
  | refine LeO.bind ?_ (fun _ => ?_)
set_option maxHeartbeats 8000000 in
set_option maxRecDepth 100000 in
theorem spec_OidText.calls (k : Nat) (A0 : Option Addr) (c0 : Nat) (l0 : List Int) (r : ByteArray) (w : World) (hr0 : Kd.C (Kd.int .i64) w A0 l0.length l0) (hc0 : l0.length ≤ c0) (h : spec_OidText.f k l0 = some r) :
 Calls Tryd.prog 33 #[.slice A0 l0.length c0] w fun e w' => e = .returned (.string r) ∧ Below w.heap.size w w' := by
 have HR0 := am hr0
 have HC0 := am hc0
 clear hr0 hc0
 have HB := am (Below.refl w.heap.size w)
 have H : ((spec_OidOk.f k l0).bind fun t294 => (if t294 = true then (spec_OidText.l0 k l0 (⟨#[]⟩ : ByteArray) 0) else (some (⟨#[]⟩ : ByteArray)))) = some r := h
 clear h
 replace H := Option.bind_eq_some_iff.mp H
 obtain ⟨t294, A20, H⟩ := H
 replace H : (if t294 = true then (spec_OidText.l0 k l0 (⟨#[]⟩ : ByteArray) 0) else (some (⟨#[]⟩ : ByteArray))) = some r := H
 have A2 := am A20
 clear A20
 by_cases c3 : t294 = true
 rotate_left
 · replace c3 := Bool.eq_false_iff.mpr c3
   subst c3
   replace H : (some (⟨#[]⟩ : ByteArray)) = some r := by rw [if_neg (show ¬ (false = true) by decide)] at H; exact H
   obtain rfl := Option.some.inj H
   go_enter Tryd.func33, Tryd.ntmps33
   go_wp2_with (first | ((with_reducible refine gate_callee (f := 19) rfl ?_); refine goesL_ (some 6) rfl rfl Tryd.func19 (by kernel_rfl) rfl #[.slice A0 l0.length c0] rfl ga ?_; (with_reducible refine (spec_OidOk.calls k _ _ l0 false _ ?side1 ?side2 A2.out).mono ?_); (case side1 => exact cq HR0.out); (case side2 => exact HC0.out); rintro e w' ⟨rfl, ⟨nd, rfl⟩⟩; refine ⟨_, rfl, ?_⟩))
   go_ret
   exact ⟨rq, bq HB.out⟩
 subst c3
 replace H : (spec_OidText.l0 k l0 (⟨#[]⟩ : ByteArray) 0) = some r := by rw [if_pos rfl] at H; exact H
 have H' := am H
 clear H
 go_enter Tryd.func33, Tryd.ntmps33
 go_wp2_with (first | ((with_reducible refine gate_callee (f := 19) rfl ?_); refine goesL_ (some 6) rfl rfl Tryd.func19 (by kernel_rfl) rfl #[.slice A0 l0.length c0] rfl ga ?_; (with_reducible refine (spec_OidOk.calls k _ _ l0 true _ ?side1 ?side2 A2.out).mono ?_); (case side1 => exact cq HR0.out); (case side2 => exact HC0.out); rintro e w' ⟨rfl, ⟨nd, rfl⟩⟩; refine ⟨_, rfl, ?_⟩))
 go_loopg [3, 4] k (fun kq v3 v4 w' => ∃ (x3_1 : ByteArray) (x4_1 : Int), v3 = .string x3_1 ∧ v4 = .int .i64 x4_1 ∧ Aside0 (spec_OidText.l0 kq l0 x3_1 x4_1 = some r) ∧ Aside0 (kq ≤ k) ∧ Aside0 (Below w.heap.size w w'))
 case atStart => exact ⟨((⟨#[]⟩ : ByteArray)), (0), sq, sq, H', ⟨Nat.le_refl _⟩, ⟨bq HB.out⟩⟩
 case round =>
  clear H'
  try clear c1
  try clear p2
  try clear c3
  obtain ⟨x3_1, x4_1, rfl, rfl, HA, HK1, HB⟩ := hrel
  cases gk with
  | zero => exact absurd HA.out (by simp [spec_OidText.l0])
  | succ k1 =>
   have H := HA.out
   clear HA
   simp only [spec_OidText.l0] at H
   by_cases c4 : x4_1 < (l0.length : Int)
   rotate_left
   · rw [if_neg c4] at H
     have c4b0 : decide (x4_1 < (l0.length : Int)) = false := decide_eq_false c4
     clear c4
     obtain rfl := Option.some.inj H
     go_wp2
     go_ret
     exact ⟨rq, bq HB.out⟩
   rw [if_pos c4] at H
   have c4b0 : decide (x4_1 < (l0.length : Int)) = true := decide_eq_true c4
   clear c4
   by_cases c5 : x4_1 > 0
   rotate_left
   · rw [if_neg c5] at H
     have c5b0 : decide (0 < x4_1) = false := decide_eq_false c5
     clear c5
     by_cases c11 : 0 ≤ x4_1
     rotate_left
     · rw [if_neg c11] at H
       exact absurd H (by simp)
     rw [if_pos c11] at H
     have c11b0 : decide (0 ≤ x4_1) = true := decide_eq_true c11
     clear c11
     replace H := Option.bind_eq_some_iff.mp H
     obtain ⟨t298, A120, H⟩ := H
     replace H : (if x3_1.size + t298.size ≤ 9223372036854775807 then (spec_OidText.l0 k1 l0 (x3_1 ++ t298) (wrap64 (x4_1 + 1))) else (none)) = some r := H
     have A12 := am A120
     clear A120
     by_cases c13 : x3_1.size + t298.size ≤ 9223372036854775807
     rotate_left
     · rw [if_neg c13] at H
       exact absurd H (by simp)
     rw [if_pos c13] at H
     have c13b0 := eq_true c13
     have c13b1 : decide (x3_1.size + t298.size ≤ 9223372036854775807) = true := decide_eq_true c13
     try have c13b2 : (9223372036854775807 < x3_1.size + t298.size) = False := eq_false (Nat.not_lt.2 c13)
     have H' := am H
     clear H
     have p297 : 0 ≤ (x4_1 : Int) := oda
     have q297 : x4_1 < (l0.length : Int) := oda
     obtain ⟨ad297, e297, hx297_0⟩ := Kd.at_int HR0.out x4_1 p297 q297
     cases e297
     replace hx297_0 := (HB.out.cell (World.block_lt_of_cell? w _ hx297_0)).trans hx297_0
     replace p297 := eq_true p297
     replace q297 := eq_true q297
     go_wp2_with (first | ((with_reducible refine gate_callee (f := 47) rfl ?_); refine goesL_ (some 24) rfl rfl Tryd.func47 (by kernel_rfl) rfl #[.int .i64 (rd l0 x4_1)] rfl ga ?_; (with_reducible refine (spec_l2Num.calls k1 (rd l0 x4_1) t298 _ A12.out).mono ?_); rintro e w14 ⟨rfl, hb⟩; refine ⟨_, rfl, ?_⟩; replace HB := am (below_step (bq HB.out) hb); (try clear hb)))
     go_roundg k1
     case measure => have := HK1.out; omega
     case rel => exact ⟨(x3_1 ++ t298), (wrap64 (x4_1 + 1)), sq, sq, H', ⟨by have := HK1.out; omega⟩, ⟨bq HB.out⟩⟩
   rw [if_pos c5] at H
   have c5b0 : decide (0 < x4_1) = true := decide_eq_true c5
   clear c5
   by_cases c6 : x3_1.size + 1 ≤ 9223372036854775807
   rotate_left
   · rw [if_neg c6] at H
     exact absurd H (by simp)
   rw [if_pos c6] at H
   have c6b0 := eq_true c6
   have c6b1 : decide (x3_1.size + 1 ≤ 9223372036854775807) = true := decide_eq_true c6
   try have c6b2 : (9223372036854775807 < x3_1.size + 1) = False := eq_false (Nat.not_lt.2 c6)
   by_cases c7 : 0 ≤ x4_1
   rotate_left
   · rw [if_neg c7] at H
     exact absurd H (by simp)
   rw [if_pos c7] at H
   have c7b0 : decide (0 ≤ x4_1) = true := decide_eq_true c7
   clear c7
   replace H := Option.bind_eq_some_iff.mp H
   obtain ⟨t296, A80, H⟩ := H
   replace H : (if (x3_1 ++ (⟨#[46]⟩ : ByteArray)).size + t296.size ≤ 9223372036854775807 then (spec_OidText.l0 k1 l0 ((x3_1 ++ (⟨#[46]⟩ : ByteArray)) ++ t296) (wrap64 (x4_1 + 1))) else (none)) = some r := H
   have A8 := am A80
   clear A80
   by_cases c9 : (x3_1 ++ (⟨#[46]⟩ : ByteArray)).size + t296.size ≤ 9223372036854775807
   rotate_left
   · rw [if_neg c9] at H
     exact absurd H (by simp)
   rw [if_pos c9] at H
   have c9b0 := eq_true c9
   have c9b1 : decide ((x3_1 ++ (⟨#[46]⟩ : ByteArray)).size + t296.size ≤ 9223372036854775807) = true := decide_eq_true c9
   try have c9b2 : (9223372036854775807 < (x3_1 ++ (⟨#[46]⟩ : ByteArray)).size + t296.size) = False := eq_false (Nat.not_lt.2 c9)
   have hsz_ : (x3_1 ++ (⟨#[46]⟩ : ByteArray)).size = x3_1.size + 1 := by rw [ByteArray.size_append]; rfl
   have c9b3 : (9223372036854775807 < x3_1.size + 1 + t296.size) = False := by rw [← hsz_]; exact eq_false (Nat.not_lt.2 c9)
   have c9b4 : decide (x3_1.size + 1 + t296.size ≤ 9223372036854775807) = true := by rw [← hsz_]; exact decide_eq_true c9
   have H' := am H
   clear H
   have p295 : 0 ≤ (x4_1 : Int) := oda
   have q295 : x4_1 < (l0.length : Int) := oda
   obtain ⟨ad295, e295, hx295_0⟩ := Kd.at_int HR0.out x4_1 p295 q295
   cases e295
   replace hx295_0 := (HB.out.cell (World.block_lt_of_cell? w _ hx295_0)).trans hx295_0
   replace p295 := eq_true p295
   replace q295 := eq_true q295
   go_wp2_with (first | ((with_reducible refine gate_callee (f := 47) rfl ?_); refine goesL_ (some 24) rfl rfl Tryd.func47 (by kernel_rfl) rfl #[.int .i64 (rd l0 x4_1)] rfl ga ?_; (with_reducible refine (spec_l2Num.calls k1 (rd l0 x4_1) t296 _ A8.out).mono ?_); rintro e w10 ⟨rfl, hb⟩; refine ⟨_, rfl, ?_⟩; replace HB := am (below_step (bq HB.out) hb); (try clear hb)))
   go_roundg k1
   case measure => have := HK1.out; omega
   case rel => exact ⟨((x3_1 ++ (⟨#[46]⟩ : ByteArray)) ++ t296), (wrap64 (x4_1 + 1)), sq, sq, H', ⟨by have := HK1.out; omega⟩, ⟨bq HB.out⟩⟩

/-! ### spec_l1Str: function 35 -/
def spec_l1Str.f (s0_0 : List Int) (s0_1 : Int) (s0_2 : Int) (l1 : List ByteArray) : Option (ByteArray × Int × Int) := (spec_l1Below.f s0_0 s0_1 s0_2 (l1.length : Int)).bind fun bt299 => (if 0 ≤ bt299.1 then (if bt299.1 < (l1.length : Int) then (some (rdOf ByteArray.empty l1 bt299.1, bt299.2.1, bt299.2.2)) else (none)) else (none))
set_option maxHeartbeats 8000000 in
set_option maxRecDepth 100000 in
theorem spec_l1Str.calls (g : Nat) (s0_0 : List Int) (s0_1 : Int) (s0_2 : Int) (A1 : Option Addr) (c1 : Nat) (l1 : List ByteArray) (r1 : ByteArray) (r2 : Int) (r3 : Int) (w0 w : World) (hI : IsS60 w0 w g s0_0 s0_1 s0_2) (hB : Below w0.heap.size w0 w) (hr1 : Kd.C Kd.string w A1 l1.length l1) (hc1 : l1.length ≤ c1) (hf1 : ∀ ad, A1 = some ad → 0 < l1.length → ad.block ≠ g) (h : spec_l1Str.f s0_0 s0_1 s0_2 l1 = some (r1, r2, r3)) :
 Calls Tryd.prog 35 #[.pointer (some ⟨g, 0, none⟩), .slice A1 l1.length c1] w fun e w' => e = .returned (.string r1) ∧ IsS60 w0 w' g s0_0 r2 r3 ∧ Below w0.heap.size w0 w' ∧ KeepBut w w' g none := by
 have HR1 := am hr1
 have HC1 := am hc1
 clear hr1 hc1
 have HI0 := am hI
 have HK := am (KeepBut.refl w g none)
 have HL := am hB.size
 clear hI
 have HW0 := am hB.size
 have HB := am hB
 clear hB
 have H : ((spec_l1Below.f s0_0 s0_1 s0_2 (l1.length : Int)).bind fun bt299 => (if 0 ≤ bt299.1 then (if bt299.1 < (l1.length : Int) then (some (rdOf ByteArray.empty l1 bt299.1, bt299.2.1, bt299.2.2)) else (none)) else (none))) = some (r1, r2, r3) := h
 clear h
 replace H := Option.bind_eq_some_iff.mp H
 obtain ⟨⟨t299, t300, t301⟩, A30, H⟩ := H
 replace H : (if 0 ≤ t299 then (if t299 < (l1.length : Int) then (some (rdOf ByteArray.empty l1 t299, t300, t301)) else (none)) else (none)) = some (r1, r2, r3) := H
 have A3 := am A30
 clear A30
 by_cases c4 : 0 ≤ t299
 rotate_left
 · rw [if_neg c4] at H
   exact absurd H (by simp)
 rw [if_pos c4] at H
 have c4b0 : decide (0 ≤ t299) = true := decide_eq_true c4
 clear c4
 by_cases c5 : t299 < (l1.length : Int)
 rotate_left
 · rw [if_neg c5] at H
   exact absurd H (by simp)
 rw [if_pos c5] at H
 have c5b0 : decide (t299 < (l1.length : Int)) = true := decide_eq_true c5
 clear c5
 simp only [Option.some.injEq, Prod.mk.injEq] at H
 obtain ⟨rfl, rfl, rfl⟩ := H
 go_enter Tryd.func35, Tryd.ntmps35
 go_wp2_with (first | ((with_reducible refine gate_callee (f := 34) rfl ?_); refine goesL_ (some 9) rfl rfl Tryd.func34 (by kernel_rfl) rfl #[.pointer (some ⟨g, 0, none⟩), .int .i64 (l1.length : Int)] rfl ga ?_; (with_reducible refine (spec_l1Below.calls g s0_0 s0_1 s0_2 (l1.length : Int) t299 t300 t301 w0 _ ?side1 ?side2 A3.out).mono ?_); (case side1 => exact IsS60.q0 HI0.out); (case side2 => exact bq1 HB.out (IsS60.ge HI0.out)); rintro e w6 ⟨rfl, hi, hb, hk⟩; refine ⟨_, rfl, ?_⟩; have n_ := ak3 (KeepBut.trans (kp0 HK.out) hk (.inl rfl)) hb hi; clear HK HB HI0; obtain ⟨HK, HB, HI0⟩ := n_; (try clear hb hk hi); have p302 : 0 ≤ (t299 : Int) := oda; have q302 : t299 < (l1.length : Int) := oda; obtain ⟨ad302, e302, hx302_0⟩ := Kd.at_string HR1.out t299 p302 q302; cases e302; replace hx302_0 := keep_cell HK.out hx302_0 (by first | (rw [add_block]; exact hf1 _ rfl (by omega)) | exact hf1 _ rfl (by omega) | exact hf1 ad302 rfl (by omega)); replace p302 := eq_true p302; replace q302 := eq_true q302))
 go_ret
 exact ⟨rq, IsS60.q0 HI0.out, bq1 HB.out (IsS60.ge HI0.out), kp0 HK.out⟩

end Go.Proofs.YtgjhmbneikpiaaaDoor.XFnOids
