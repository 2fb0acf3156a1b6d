/- The functions that one law reaches, as Lean functions, with their walks: printed by a program of this seat (wip/tools) out of the translation. -/
import Derived.Test.YthhnfmbfgplelaaXFnExactPutMsgx0
import Derived.Test.YthhnfmbfgplelaaXFnExactPutMsgx4
import Derived.Test.YthhnfmbfgplelaaXFnExactPutMsgx5
import Derived.Test.YthhnfmbfgplelaaXFnExactPutMsgx6
namespace Go.Proofs.Ythhnfmbfgplelaa.XFnExactPutMsg
open Go.RowKit Go.Proofs.YthhnfmbfgplelaaW.PrintWords Go.Proofs.YthhnfmbfgplelaaW.PrintLast Go.Proofs.YthhnfmbfgplelaaW.PrintMore
attribute [local go_sem] max2_int min2_int max_two min_two max_three min_three max_four min_four   -- for this text's walks alone
set_option linter.unusedVariables false
set_option linter.unusedSimpArgs false

/-! ### spec_PutOid: function 65 -/
def spec_PutOid.l0 : Nat → List Int → List Int → Int → Option (List Int)
 | 0, _, _, _ => none
 | k + 1, x0, x3, x4 => if x4 < (x0.length : Int) then (if 0 ≤ x4 then ((spec_l2Group.f k (rd x0 x4)).bind fun t247 => (if x3.length + t247.length < 140737488355328 then (spec_PutOid.l0 k x0 (x3 ++ t247) (wrap64 (x4 + 1))) else (none))) else (none)) else (some x3)
def spec_PutOid.f (k : Nat) (l0 : List Int) : Option (List Int) := (some (([] : List Int) : List Int)).bind fun y242 => ((spec_OidOk.f k l0).bind fun t245 => (if t245 = true then (spec_PutOid.l0 k l0 y242 0) else (some y242)))
theorem spec_PutOid.mono_l : ∀ k, (∀ y0 y1 y2, LeO (spec_PutOid.l0 k y0 y1 y2) (spec_PutOid.l0 (k + 1) y0 y1 y2))
 | 0 => fun _ _ _ r h => by simp [spec_PutOid.l0] at h
 | k + 1 => by
  have ih0 := spec_PutOid.mono_l k
  intro y0 y1 y2
  unfold spec_PutOid.l0
  repeat' first
  | (with_reducible exact ih0 _ _ _)
  | (with_reducible exact spec_OidOk.mono _ _)
  | (with_reducible exact spec_l2Group.mono _ _)
  | (with_reducible exact LeO.refl _)
  | (with_reducible exact LeO.none _)
  | (with_reducible refine LeO.ite ?_ ?_)
  | (with_reducible refine LeO.bind ?_ (fun _ => ?_))
  | exact ih0 _ _ _
  | exact spec_OidOk.mono _ _
  | exact spec_l2Group.mono _ _
  | exact LeO.none _
  | refine LeO.ite ?_ ?_
  | refine LeO.bind ?_ (fun _ => ?_)
theorem spec_PutOid.mono : ∀ a0 k, LeO (spec_PutOid.f k a0) (spec_PutOid.f (k + 1) a0) := by
 intro a0 k
 have ih0 := spec_PutOid.mono_l k
 unfold spec_PutOid.f
 repeat' first
  | (with_reducible exact ih0 _ _ _)
  | (with_reducible exact spec_OidOk.mono _ _)
  | (with_reducible exact spec_l2Group.mono _ _)
  | (with_reducible exact LeO.refl _)
  | (with_reducible exact LeO.none _)
  | (with_reducible refine LeO.ite ?_ ?_)
  | (with_reducible refine LeO.bind ?_ (fun _ => ?_))
  | exact ih0 _ _ _
  | exact spec_OidOk.mono _ _
  | exact spec_l2Group.mono _ _
  | exact LeO.none _
  | refine LeO.ite ?_ ?_
  | refine LeO.bind ?_ (fun _ => ?_)
set_option maxHeartbeats 8000000 in
set_option maxRecDepth 100000 in
theorem spec_PutOid.calls (k : Nat) (A0 : Option Addr) (c0 : Nat) (l0 : List Int) (r : List Int) (w : World) (hr0 : Kd.C (Kd.int .i64) w A0 l0.length l0) (hc0 : l0.length ≤ c0) (h : spec_PutOid.f k l0 = some r) :
 Calls Try.prog 65 #[.slice A0 l0.length c0] w fun e w' => ∃ v0_ : Value, e = .returned (v0_) ∧ Kd.R (Kd.int .u8) 5 w' w.heap.size (fun _ => True) v0_ r ∧ Below w.heap.size w w' := by
 have HR0 := am hr0
 have HC0 := am hc0
 clear hr0 hc0
 have HB := am (Below.refl w.heap.size w)
 have H : ((some (([] : List Int) : List Int)).bind fun y242 => ((spec_OidOk.f k l0).bind fun t245 => (if t245 = true then (spec_PutOid.l0 k l0 y242 0) else (some y242)))) = some r := h
 clear h
 obtain ⟨y242, hy242⟩ : ∃ y_ : List Int, y_ = (([] : List Int)) := ⟨_, rfl⟩
 replace H : ((spec_OidOk.f k l0).bind fun t245 => (if t245 = true then (spec_PutOid.l0 k l0 y242 0) else (some y242))) = some r := hx H hy242
 have Ny242 := am hy242
 clear hy242
 replace H := Option.bind_eq_some_iff.mp H
 obtain ⟨t245, A20, H⟩ := H
 replace H : (if t245 = true then (spec_PutOid.l0 k l0 y242 0) else (some y242)) = some r := H
 have A2 := am A20
 clear A20
 by_cases c3 : t245 = true
 rotate_left
 · replace c3 := Bool.eq_false_iff.mpr c3
   subst c3
   replace H : (some y242) = some r := by rw [if_neg (show ¬ (false = true) by decide)] at H; exact H
   obtain rfl := Option.some.inj H
   go_enter Try.func65, Try.ntmps65
   go_wp2_with (first | ((with_reducible refine gate_dst (N := 5) rfl ?_); refine Kd.R_lit (Kd.int .u8) _ 5 ?hg (N := 5) ?hd (xs := ([] : List Int)) (inner := []) (ok := fun _ => True) (okp := fun _ => True) ?hr ?hp (fun _ hk => hk) trivial (Below.refl _ _) (Nat.le_refl _) (by simp) ?_; (case hd => rfl); (case hg => rfl); (case hr => exact gs); (case hp => exact (Reps.none _ _)); intro v243 w13 ho14 hb hg_ hnew_; clear hg_ hnew_; (first | rw [← Ny242.out] at ho14 | (simp only [Int.reduceToNat] at ho14; rw [← Ny242.out] at ho14)); have n_ := ak2 (Kd.R_lower ho14 (below_size (bq HB.out))) (below_step (bq HB.out) hb); clear HB; obtain ⟨HO244, HB⟩ := n_; clear hb ho14) | ((with_reducible refine gate_callee (f := 110) rfl ?_); refine goesL_ (some 7) rfl rfl Try.func110 (by kernel_rfl) rfl #[.slice A0 l0.length c0] rfl ga ?_; (with_reducible refine (spec_OidOk.calls k _ _ l0 false _ ?side1 ?side2 A2.out).mono ?_); (case side1 => exact cq (Kd.C_below HR0.out HB.out)); (case side2 => exact HC0.out); rintro e w' ⟨rfl, ⟨nd, rfl⟩⟩; refine ⟨_, rfl, ?_⟩))
   go_ret
   exact ⟨_, rq, kqR HO244.out, bq HB.out⟩
 subst c3
 replace H : (spec_PutOid.l0 k l0 y242 0) = some r := by rw [if_pos rfl] at H; exact H
 have H' := am H
 clear H
 go_enter Try.func65, Try.ntmps65
 go_wp2_with (first | ((with_reducible refine gate_dst (N := 5) rfl ?_); refine Kd.R_lit (Kd.int .u8) _ 5 ?hg (N := 5) ?hd (xs := ([] : List Int)) (inner := []) (ok := fun _ => True) (okp := fun _ => True) ?hr ?hp (fun _ hk => hk) trivial (Below.refl _ _) (Nat.le_refl _) (by simp) ?_; (case hd => rfl); (case hg => rfl); (case hr => exact gs); (case hp => exact (Reps.none _ _)); intro v243 w4 ho5 hb hg_ hnew_; clear hg_ hnew_; (first | rw [← Ny242.out] at ho5 | (simp only [Int.reduceToNat] at ho5; rw [← Ny242.out] at ho5)); have n_ := ak2 (Kd.R_lower ho5 (below_size (bq HB.out))) (below_step (bq HB.out) hb); clear HB; obtain ⟨HO244, HB⟩ := n_; clear hb ho5) | ((with_reducible refine gate_callee (f := 110) rfl ?_); refine goesL_ (some 7) rfl rfl Try.func110 (by kernel_rfl) rfl #[.slice A0 l0.length c0] rfl ga ?_; (with_reducible refine (spec_OidOk.calls k _ _ l0 true _ ?side1 ?side2 A2.out).mono ?_); (case side1 => exact cq (Kd.C_below HR0.out HB.out)); (case side2 => exact HC0.out); rintro e w' ⟨rfl, ⟨nd, rfl⟩⟩; refine ⟨_, rfl, ?_⟩))
 go_loopg [3, 4] k (fun kq v3 v4 w' => ∃ (x3_1 : List Int) (x4_1 : Int), v4 = .int .i64 x4_1 ∧ Aside0 (spec_PutOid.l0 kq l0 x3_1 x4_1 = some r) ∧ Aside0 (kq ≤ k) ∧ Aside0 (Kd.R (Kd.int .u8) 5 w' w.heap.size (fun _ => True) v3 x3_1) ∧ Aside0 (Below w.heap.size w w'))
 case atStart => exact ⟨(y242), (0), sq, H', ⟨Nat.le_refl _⟩, ⟨kqR HO244.out⟩, ⟨bq HB.out⟩⟩
 case round =>
  clear H'
  try clear c1
  try clear p2
  try clear c3
  obtain ⟨x3_1, x4_1, rfl, HA, HK1, HO_3, HB⟩ := hrel
  cases gk with
  | zero => exact absurd HA.out (by simp [spec_PutOid.l0])
  | succ k1 =>
   have H := HA.out
   clear HA
   simp only [spec_PutOid.l0] at H
   by_cases c6 : x4_1 < (l0.length : Int)
   rotate_left
   · rw [if_neg c6] at H
     have c6b0 : decide (x4_1 < (l0.length : Int)) = false := decide_eq_false c6
     clear c6
     obtain rfl := Option.some.inj H
     go_wp2
     go_ret
     exact ⟨_, rq, kqR HO_3.out, bq HB.out⟩
   rw [if_pos c6] at H
   have c6b0 : decide (x4_1 < (l0.length : Int)) = true := decide_eq_true c6
   clear c6
   by_cases c7 : 0 ≤ x4_1
   rotate_left
   · rw [if_neg c7] at H
     exact absurd H (by simp)
   rw [if_pos c7] at H
   have c7b0 : decide (0 ≤ x4_1) = true := decide_eq_true c7
   clear c7
   replace H := Option.bind_eq_some_iff.mp H
   obtain ⟨t247, A80, H⟩ := H
   replace H : (if x3_1.length + t247.length < 140737488355328 then (spec_PutOid.l0 k1 l0 (x3_1 ++ t247) (wrap64 (x4_1 + 1))) else (none)) = some r := H
   have A8 := am A80
   clear A80
   by_cases c9 : x3_1.length + t247.length < 140737488355328
   rotate_left
   · rw [if_neg c9] at H
     exact absurd H (by simp)
   rw [if_pos c9] at H
   have LMc9 := am c9
   clear c9
   obtain ⟨y250, hy250⟩ : ∃ y_ : List Int, y_ = (x3_1 ++ t247) := ⟨_, rfl⟩
   replace H : (spec_PutOid.l0 k1 l0 y250 (wrap64 (x4_1 + 1))) = some r := hx H hy250
   have Ny250 := am hy250
   clear hy250
   have H' := am H
   clear H
   have p246 : 0 ≤ (x4_1 : Int) := oda
   have q246 : x4_1 < (l0.length : Int) := oda
   obtain ⟨ad246, e246, hx246_0⟩ := Kd.at_int HR0.out x4_1 p246 q246
   cases e246
   replace hx246_0 := (HB.out.cell (World.block_lt_of_cell? w _ hx246_0)).trans hx246_0
   replace p246 := eq_true p246
   replace q246 := eq_true q246
   go_wp2_with (first | ((with_reducible refine gate_callee (f := 124) rfl ?_); refine goesL_ (some 21) rfl rfl Try.func124 (by kernel_rfl) rfl #[.int .i64 (rd l0 x4_1)] rfl ga ?_; (with_reducible refine (spec_l2Group.calls k1 (rd l0 x4_1) t247 _ A8.out).mono ?_); rintro e w10 ⟨v248, rfl, ho0, hb⟩; refine ⟨_, rfl, ?_⟩; have n_ := ak3 (Kd.R_elder' (kqR HO_3.out) (Kd.R_base ho0) hb) (Kd.R_lower (Kd.R_new' ho0 (Kd.R_lt (kqR HO_3.out))) (below_size (bq HB.out))) (below_step (bq HB.out) hb); clear HO_3 HB; obtain ⟨HO_3, HO249, HB⟩ := n_; (try clear hb ho0); obtain ⟨Ao12, co12, eo12⟩ := Kd.R_slice HO249.out; subst eo12) | ((with_reducible refine gate_builtin (b := .append) (xs := #[.tmp 16, .tmp 21]) rfl ?_); at_builtin; refine Kd.R_append_rows (Kd.int .u8) (w0 := w) w.heap.size rfl (.tmp 16) (.tmp 21) 22 5 (.int .u8 0) 1 rfl Try.underlying22 info5 rfl (by decide) (by omega) u3 x3_1 t247 _ _ _ (fun k_ => some k_ ≠ (.slice Ao12 t247.length co12 : Value).ownBlock) (fun _ => False) rfl rfl ?aO ?aR (fun _ _ h => h) (fun _ h => h.elim) ?aF ?aB ?aS ?aL ?_; (case aR => repeat (first | exact (Kd.R_reads' HO249.out).2.2 | (with_reducible refine Kd.C_alloc ?_ _) | (with_reducible refine Kd.C_drewN ?_ _) | (with_reducible refine Kd.C_drew ?_))); (case aB => exact (bq HB.out)); (case aF => exact (fun k_ hk => Kd.fresh' (Kd.R_lt (kqR HO249.out)) k_ hk)); (case aO => exact (by refine kr ?_; exact Kd.R_mono HO_3.out (fun _ hk => hk.2))); (case aS => exact (below_size (bq HB.out))); (case aL => have := LMc9.out; omega); intro v251 w11 ho hb hg hat; rw [← Ny250.out] at ho; have n_ := ak3 (Kd.R_after (ok := (fun _ => True)) (kqR HO249.out) hg hat) hb ho; clear HO249 HB HO_3; obtain ⟨HO249, HB, HO252⟩ := n_; clear ho hb hg hat))
   go_roundg k1
   case measure => have := HK1.out; omega
   case rel => exact ⟨(y250), (wrap64 (x4_1 + 1)), sq, H', ⟨by have := HK1.out; omega⟩, ⟨by refine kr ?_; exact Kd.R_mono HO252.out (fun _ hk => trivial)⟩, ⟨bq HB.out⟩⟩

/-! ### spec_PutVal: function 14 -/
def spec_PutVal.f (k : Nat) (l0 : List Int) (a1_0 : Int) (a1_1 : Int) (a1_2 : ByteArray) (l1_3 : List Int) : Option (List Int) := (spec_ValOk.f k a1_0 a1_1 a1_2 l1_3).bind fun t254 => (if t254 = true then (if a1_0 = 2 then ((spec_PutInt.f k a1_1).bind fun t264 => ((spec_PutTlv.f k l0 a1_0 t264).bind fun t267 => (some t267))) else (if a1_0 = 4 then (if (a1_2.size : Int) < 140737488355328 then ((spec_PutTlv.f k l0 a1_0 (bytesOf a1_2)).bind fun t273 => (some t273)) else (none)) else (if a1_0 = 6 then ((spec_PutOid.f k l1_3).bind fun t276 => ((spec_PutTlv.f k l0 a1_0 t276).bind fun t279 => (some t279))) else ((spec_PutTlv.f k l0 a1_0 (([] : List Int))).bind fun t282 => (some t282))))) else ((some (([] : List Int) : List Int)).bind fun y255 => (if y255.length + l0.length < 140737488355328 then (some (y255 ++ l0)) else (none))))
theorem spec_PutVal.mono : ∀ a0 a1 a2 a3 a4 k, LeO (spec_PutVal.f k a0 a1 a2 a3 a4) (spec_PutVal.f (k + 1) a0 a1 a2 a3 a4) := by
 intro a0 a1 a2 a3 a4 k
 unfold spec_PutVal.f
 repeat' first
  | (with_reducible exact spec_PutInt.mono _ _)
  | (with_reducible exact spec_PutOid.mono _ _)
  | (with_reducible exact spec_PutTlv.mono _ _ _ _)
  | (with_reducible exact spec_ValOk.mono _ _ _ _ _)
  | (with_reducible exact LeO.refl _)
  | (with_reducible exact LeO.none _)
  | (with_reducible refine LeO.ite ?_ ?_)
  | (with_reducible refine LeO.bind ?_ (fun _ => ?_))
  | exact spec_PutInt.mono _ _
  | exact spec_PutOid.mono _ _
  | exact spec_PutTlv.mono _ _ _ _
  | exact spec_ValOk.mono _ _ _ _ _
  | exact LeO.none _
  | refine LeO.ite ?_ ?_
  | refine LeO.bind ?_ (fun _ => ?_)
set_option maxHeartbeats 8000000 in
set_option maxRecDepth 100000 in
theorem spec_PutVal.calls (k : Nat) (A0 : Option Addr) (c0 : Nat) (l0 : List Int) (a1_0 : Int) (a1_1 : Int) (a1_2 : ByteArray) (A1_3 : Option Addr) (c1_3 : Nat) (l1_3 : List Int) (r : List Int) (w : World) (hr0 : Kd.C (Kd.int .u8) w A0 l0.length l0) (hc0 : l0.length ≤ c0) (hr1_3 : Kd.C (Kd.int .i64) w A1_3 l1_3.length l1_3) (hc1_3 : l1_3.length ≤ c1_3) (h : spec_PutVal.f k l0 a1_0 a1_1 a1_2 l1_3 = some r) :
 Calls Try.prog 14 #[.slice A0 l0.length c0, .agg #[.int .i64 a1_0, .int .i64 a1_1, .string a1_2, .slice A1_3 l1_3.length c1_3]] w fun e w' => ∃ v0_ : Value, e = .returned (v0_) ∧ Kd.R (Kd.int .u8) 5 w' w.heap.size (fun _ => True) v0_ r ∧ Below w.heap.size w w' := by
 have hu29 := Try.underlying29
 have HR0 := am hr0
 have HC0 := am hc0
 clear hr0 hc0
 have HR1_3 := am hr1_3
 have HC1_3 := am hc1_3
 clear hr1_3 hc1_3
 have HB := am (Below.refl w.heap.size w)
 have H : ((spec_ValOk.f k a1_0 a1_1 a1_2 l1_3).bind fun t254 => (if t254 = true then (if a1_0 = 2 then ((spec_PutInt.f k a1_1).bind fun t264 => ((spec_PutTlv.f k l0 a1_0 t264).bind fun t267 => (some t267))) else (if a1_0 = 4 then (if (a1_2.size : Int) < 140737488355328 then ((spec_PutTlv.f k l0 a1_0 (bytesOf a1_2)).bind fun t273 => (some t273)) else (none)) else (if a1_0 = 6 then ((spec_PutOid.f k l1_3).bind fun t276 => ((spec_PutTlv.f k l0 a1_0 t276).bind fun t279 => (some t279))) else ((spec_PutTlv.f k l0 a1_0 (([] : List Int))).bind fun t282 => (some t282))))) else ((some (([] : List Int) : List Int)).bind fun y255 => (if y255.length + l0.length < 140737488355328 then (some (y255 ++ l0)) else (none))))) = some r := h
 clear h
 replace H := Option.bind_eq_some_iff.mp H
 obtain ⟨t254, A30, H⟩ := H
 replace H : (if t254 = true then (if a1_0 = 2 then ((spec_PutInt.f k a1_1).bind fun t264 => ((spec_PutTlv.f k l0 a1_0 t264).bind fun t267 => (some t267))) else (if a1_0 = 4 then (if (a1_2.size : Int) < 140737488355328 then ((spec_PutTlv.f k l0 a1_0 (bytesOf a1_2)).bind fun t273 => (some t273)) else (none)) else (if a1_0 = 6 then ((spec_PutOid.f k l1_3).bind fun t276 => ((spec_PutTlv.f k l0 a1_0 t276).bind fun t279 => (some t279))) else ((spec_PutTlv.f k l0 a1_0 (([] : List Int))).bind fun t282 => (some t282))))) else ((some (([] : List Int) : List Int)).bind fun y255 => (if y255.length + l0.length < 140737488355328 then (some (y255 ++ l0)) else (none)))) = some r := H
 have A3 := am A30
 clear A30
 by_cases c4 : t254 = true
 rotate_left
 · replace c4 := Bool.eq_false_iff.mpr c4
   subst c4
   replace H : ((some (([] : List Int) : List Int)).bind fun y255 => (if y255.length + l0.length < 140737488355328 then (some (y255 ++ l0)) else (none))) = some r := by rw [if_neg (show ¬ (false = true) by decide)] at H; exact H
   obtain ⟨y255, hy255⟩ : ∃ y_ : List Int, y_ = (([] : List Int)) := ⟨_, rfl⟩
   replace H : (if y255.length + l0.length < 140737488355328 then (some (y255 ++ l0)) else (none)) = some r := hx H hy255
   have Ny255 := am hy255
   clear hy255
   by_cases c52 : y255.length + l0.length < 140737488355328
   rotate_left
   · rw [if_neg c52] at H
     exact absurd H (by simp)
   rw [if_pos c52] at H
   have LMc52 := am c52
   clear c52
   obtain ⟨y258, hy258⟩ : ∃ y_ : List Int, y_ = (y255 ++ l0) := ⟨_, rfl⟩
   replace H : (some y258) = some r := hx H hy258
   have Ny258 := am hy258
   clear hy258
   obtain rfl := Option.some.inj H
   go_enter Try.func14, Try.ntmps14
   go_wp2_with (first | ((with_reducible refine gate_dst (N := 3) rfl ?_); refine bxe 3 #[.int .i64 a1_0, .int .i64 a1_1, .string a1_2, .slice A1_3 l1_3.length c1_3] 29 ?_; intro gb253 hg w53 hbox hb; have n_ := ak4 (below_step (bq HB.out) hb) hbox ((by rw [hg]; exact (below_size (bq HB.out)) : w.heap.size ≤ gb253)) ((by rw [hg]; exact (below_size (bq HB.out)) : w.heap.size ≤ gb253)); clear HB; obtain ⟨HB, BK253, GW253, GE253⟩ := n_; clear hb hbox hg; obtain ⟨hcz54_0, hcz54_1, hcz54_2, hcz54_3, hfz54_0, hfz54_1, hfz54_2, hfz54_3⟩ := cl4 BK253.out) | ((with_reducible refine gate_callee (f := 47) rfl ?_); refine goesL_ (some 7) rfl rfl Try.func47 (by kernel_rfl) rfl #[.agg #[.int .i64 a1_0, .int .i64 a1_1, .string a1_2, .slice A1_3 l1_3.length c1_3]] rfl ga ?_; (with_reducible refine (spec_ValOk.calls k a1_0 a1_1 a1_2 _ _ l1_3 false _ ?side1 ?side2 A3.out).mono ?_); (case side1 => exact cq (Kd.C_below HR1_3.out HB.out)); (case side2 => exact HC1_3.out); rintro e w55 ⟨rfl, hb⟩; refine ⟨_, rfl, ?_⟩; have n_ := ak2 (blk_below (zb BK253.out) hb) (below_step (bq1 HB.out GE253.out) hb); clear BK253 HB; obtain ⟨BK253, HB⟩ := n_; (try clear hb)) | ((with_reducible refine gate_dst (N := 9) rfl ?_); refine Kd.R_lit (Kd.int .u8) _ 5 ?hg (N := 9) ?hd (xs := ([] : List Int)) (inner := []) (ok := fun _ => True) (okp := fun _ => True) ?hr ?hp (fun _ hk => hk) trivial (Below.refl _ _) (Nat.le_refl _) (by simp) ?_; (case hd => rfl); (case hg => rfl); (case hr => exact gs); (case hp => exact (Reps.none _ _)); intro v256 w56 ho57 hb hg_ hnew_; clear hg_ hnew_; (first | rw [← Ny255.out] at ho57 | (simp only [Int.reduceToNat] at ho57; rw [← Ny255.out] at ho57)); have n_ := ak3 (Kd.R_lower ho57 (below_size (bq1 HB.out GE253.out))) (blk_below (zb BK253.out) hb) (below_step (bq1 HB.out GE253.out) hb); clear BK253 HB; obtain ⟨HO257, BK253, HB⟩ := n_; clear hb ho57) | ((with_reducible refine gate_builtin (b := .append) (xs := #[.tmp 9, .tmp 10]) rfl ?_); at_builtin; refine Kd.R_append_rows (Kd.int .u8) (w0 := w) w.heap.size rfl (.tmp 9) (.tmp 10) 22 5 (.int .u8 0) 1 rfl Try.underlying22 info5 rfl (by decide) (by omega) v256 y255 l0 _ _ _ (fun _ => True) (fun _ => False) rfl rfl ?aO ?aR (fun _ _ h => h) (fun _ h => h.elim) ?aF ?aB ?aS ?aL ?_; (case aR => exact cq (Kd.C_below HR0.out HB.out)); (case aB => exact (bq1 HB.out GE253.out)); (case aF => exact (fun _ _ => trivial)); (case aO => exact (kqR HO257.out)); (case aS => exact (below_size (bq1 HB.out GE253.out))); (case aL => have := LMc52.out; omega); intro v259 w58 ho hb hg hat; rw [← Ny258.out] at ho; have n_ := ak3 (blk_grown (g := gb253) (o := .cells #[.int .i64 a1_0, .int .i64 a1_1, .string a1_2, .slice A1_3 l1_3.length c1_3] 29 (0, 0)) (zq BK253.out) hg (Kd.R_ne HO257.out BK253.out (by decide))) hb ho; clear BK253 HB HO257; obtain ⟨BK253, HB, HO260⟩ := n_; clear ho hb hg hat))
   go_ret
   exact ⟨_, rq, kqR HO260.out, bq1 HB.out GE253.out⟩
 subst c4
 replace H : (if a1_0 = 2 then ((spec_PutInt.f k a1_1).bind fun t264 => ((spec_PutTlv.f k l0 a1_0 t264).bind fun t267 => (some t267))) else (if a1_0 = 4 then (if (a1_2.size : Int) < 140737488355328 then ((spec_PutTlv.f k l0 a1_0 (bytesOf a1_2)).bind fun t273 => (some t273)) else (none)) else (if a1_0 = 6 then ((spec_PutOid.f k l1_3).bind fun t276 => ((spec_PutTlv.f k l0 a1_0 t276).bind fun t279 => (some t279))) else ((spec_PutTlv.f k l0 a1_0 (([] : List Int))).bind fun t282 => (some t282))))) = some r := by rw [if_pos rfl] at H; exact H
 obtain ⟨y261, hy261⟩ : ∃ y_ : List Int, y_ = (([] : List Int)) := ⟨_, rfl⟩
 replace H : (if a1_0 = 2 then ((spec_PutInt.f k a1_1).bind fun t264 => ((spec_PutTlv.f k l0 a1_0 t264).bind fun t267 => (some t267))) else (if a1_0 = 4 then (if (a1_2.size : Int) < 140737488355328 then ((spec_PutTlv.f k l0 a1_0 (bytesOf a1_2)).bind fun t273 => (some t273)) else (none)) else (if a1_0 = 6 then ((spec_PutOid.f k l1_3).bind fun t276 => ((spec_PutTlv.f k l0 a1_0 t276).bind fun t279 => (some t279))) else ((spec_PutTlv.f k l0 a1_0 y261).bind fun t282 => (some t282))))) = some r := hx H hy261
 have Ny261 := am hy261
 clear hy261
 by_cases c5 : a1_0 = 2
 · rw [if_pos c5] at H
   have c5b0 : (a1_0 == 2) = true := beq_iff_eq.mpr c5
   have c5b1 : (a1_0 != 2) = false := bne_eq_false_iff_eq.mpr c5
   clear c5
   replace H := Option.bind_eq_some_iff.mp H
   obtain ⟨t264, A60, H⟩ := H
   replace H : ((spec_PutTlv.f k l0 a1_0 t264).bind fun t267 => (some t267)) = some r := H
   have A6 := am A60
   clear A60
   replace H := Option.bind_eq_some_iff.mp H
   obtain ⟨t267, A70, H⟩ := H
   replace H : (some t267) = some r := H
   have A7 := am A70
   clear A70
   obtain rfl := Option.some.inj H
   go_enter Try.func14, Try.ntmps14
   go_wp2_with (first | ((with_reducible refine gate_dst (N := 3) rfl ?_); refine bxe 3 #[.int .i64 a1_0, .int .i64 a1_1, .string a1_2, .slice A1_3 l1_3.length c1_3] 29 ?_; intro gb253 hg w8 hbox hb; have n_ := ak4 (below_step (bq HB.out) hb) hbox ((by rw [hg]; exact (below_size (bq HB.out)) : w.heap.size ≤ gb253)) ((by rw [hg]; exact (below_size (bq HB.out)) : w.heap.size ≤ gb253)); clear HB; obtain ⟨HB, BK253, GW253, GE253⟩ := n_; clear hb hbox hg; obtain ⟨hcz9_0, hcz9_1, hcz9_2, hcz9_3, hfz9_0, hfz9_1, hfz9_2, hfz9_3⟩ := cl4 BK253.out) | ((with_reducible refine gate_callee (f := 47) rfl ?_); refine goesL_ (some 7) rfl rfl Try.func47 (by kernel_rfl) rfl #[.agg #[.int .i64 a1_0, .int .i64 a1_1, .string a1_2, .slice A1_3 l1_3.length c1_3]] rfl ga ?_; (with_reducible refine (spec_ValOk.calls k a1_0 a1_1 a1_2 _ _ l1_3 true _ ?side1 ?side2 A3.out).mono ?_); (case side1 => exact cq (Kd.C_below HR1_3.out HB.out)); (case side2 => exact HC1_3.out); rintro e w10 ⟨rfl, hb⟩; refine ⟨_, rfl, ?_⟩; have n_ := ak2 (blk_below (zb BK253.out) hb) (below_step (bq1 HB.out GE253.out) hb); clear BK253 HB; obtain ⟨BK253, HB⟩ := n_; (try clear hb)) | ((with_reducible refine gate_dst (N := 12) rfl ?_); refine Kd.R_lit (Kd.int .u8) _ 5 ?hg (N := 12) ?hd (xs := ([] : List Int)) (inner := []) (ok := fun _ => True) (okp := fun _ => True) ?hr ?hp (fun _ hk => hk) trivial (Below.refl _ _) (Nat.le_refl _) (by simp) ?_; (case hd => rfl); (case hg => rfl); (case hr => exact gs); (case hp => exact (Reps.none _ _)); intro v262 w11 ho12 hb hg_ hnew_; clear hg_ hnew_; (first | rw [← Ny261.out] at ho12 | (simp only [Int.reduceToNat] at ho12; rw [← Ny261.out] at ho12)); have n_ := ak3 (Kd.R_lower ho12 (below_size (bq1 HB.out GE253.out))) (blk_below (zb BK253.out) hb) (below_step (bq1 HB.out GE253.out) hb); clear BK253 HB; obtain ⟨HO263, BK253, HB⟩ := n_; clear hb ho12; obtain ⟨hcz13_0, hcz13_1, hcz13_2, hcz13_3, hfz13_0, hfz13_1, hfz13_2, hfz13_3⟩ := cl4 BK253.out) | ((with_reducible refine gate_callee (f := 64) rfl ?_); refine goesL_ (some 19) rfl rfl Try.func64 (by kernel_rfl) rfl #[.int .i64 a1_1] rfl ga ?_; (with_reducible refine (spec_PutInt.calls k a1_1 t264 _ A6.out).mono ?_); rintro e w14 ⟨v265, rfl, ho0, hb⟩; refine ⟨_, rfl, ?_⟩; have n_ := ak4 (Kd.R_elder' (kqR HO263.out) (Kd.R_base ho0) hb) (Kd.R_lower (Kd.R_new' ho0 (Kd.R_lt (kqR HO263.out))) (below_size (bq1 HB.out GE253.out))) (blk_below (zb BK253.out) hb) (below_step (bq1 HB.out GE253.out) hb); clear HO263 BK253 HB; obtain ⟨HO263, HO266, BK253, HB⟩ := n_; (try clear hb ho0); obtain ⟨hcz15_0, hcz15_1, hcz15_2, hcz15_3, hfz15_0, hfz15_1, hfz15_2, hfz15_3⟩ := cl4 BK253.out; obtain ⟨Ao16, co16, eo16⟩ := Kd.R_slice HO266.out; subst eo16) | ((with_reducible refine gate_callee (f := 66) rfl ?_); refine goesL_ (some 34) rfl rfl Try.func66 (by kernel_rfl) rfl #[.slice A0 l0.length c0, .int .i64 a1_0, .slice Ao16 t264.length co16] rfl ga ?_; (with_reducible refine (spec_PutTlv.calls k _ _ l0 a1_0 _ _ t264 t267 _ ?side1 ?side2 ?side3 ?side4 A7.out).mono ?_); (case side1 => exact cq (Kd.C_below HR0.out HB.out)); (case side2 => exact HC0.out); (case side3 => repeat (first | exact (Kd.R_reads' HO266.out).2.2 | (with_reducible refine Kd.C_alloc ?_ _) | (with_reducible refine Kd.C_drewN ?_ _) | (with_reducible refine Kd.C_drew ?_))); (case side4 => exact (Kd.R_reads' HO266.out).2.1); rintro e w17 ⟨v268, rfl, ho0, hb⟩; refine ⟨_, rfl, ?_⟩; have n_ := ak5 (Kd.R_elder' (kqR HO263.out) (Kd.R_base ho0) hb) (Kd.R_elder' (kqR HO266.out) (Kd.R_base ho0) hb) (Kd.R_lower (Kd.R_new' (Kd.R_new' ho0 (Kd.R_lt (kqR HO263.out))) (Kd.R_lt (kqR HO266.out))) (below_size (bq1 HB.out GE253.out))) (blk_below (zb BK253.out) hb) (below_step (bq1 HB.out GE253.out) hb); clear HO263 HO266 BK253 HB; obtain ⟨HO263, HO266, HO269, BK253, HB⟩ := n_; (try clear hb ho0)))
   go_ret
   exact ⟨_, rq, by refine kr ?_; exact Kd.R_mono HO269.out (fun _ hk => trivial), bq1 HB.out GE253.out⟩
 rw [if_neg c5] at H
 have c5b0 : (a1_0 == 2) = false := beq_eq_false_iff_ne.mpr c5
 have c5b1 : (a1_0 != 2) = true := bne_iff_ne.mpr c5
 by_cases c18 : a1_0 = 4
 · rw [if_pos c18] at H
   have c18b0 : (a1_0 == 4) = true := beq_iff_eq.mpr c18
   have c18b1 : (a1_0 != 4) = false := bne_eq_false_iff_eq.mpr c18
   clear c18
   by_cases c19 : (a1_2.size : Int) < 140737488355328
   rotate_left
   · rw [if_neg c19] at H
     exact absurd H (by simp)
   rw [if_pos c19] at H
   have c19b0 := eq_true c19
   have c19b1 : decide ((a1_2.size : Int) < 140737488355328) = true := decide_eq_true c19
   clear c19
   obtain ⟨y270, hy270⟩ : ∃ y_ : List Int, y_ = (bytesOf a1_2) := ⟨_, rfl⟩
   replace H : ((spec_PutTlv.f k l0 a1_0 y270).bind fun t273 => (some t273)) = some r := hx H hy270
   have Ny270 := am hy270
   clear hy270
   replace H := Option.bind_eq_some_iff.mp H
   obtain ⟨t273, A200, H⟩ := H
   replace H : (some t273) = some r := H
   have A20 := am A200
   clear A200
   obtain rfl := Option.some.inj H
   go_enter Try.func14, Try.ntmps14
   go_wp2_with (first | ((with_reducible refine gate_dst (N := 3) rfl ?_); refine bxe 3 #[.int .i64 a1_0, .int .i64 a1_1, .string a1_2, .slice A1_3 l1_3.length c1_3] 29 ?_; intro gb253 hg w21 hbox hb; have n_ := ak4 (below_step (bq HB.out) hb) hbox ((by rw [hg]; exact (below_size (bq HB.out)) : w.heap.size ≤ gb253)) ((by rw [hg]; exact (below_size (bq HB.out)) : w.heap.size ≤ gb253)); clear HB; obtain ⟨HB, BK253, GW253, GE253⟩ := n_; clear hb hbox hg; obtain ⟨hcz22_0, hcz22_1, hcz22_2, hcz22_3, hfz22_0, hfz22_1, hfz22_2, hfz22_3⟩ := cl4 BK253.out) | ((with_reducible refine gate_callee (f := 47) rfl ?_); refine goesL_ (some 7) rfl rfl Try.func47 (by kernel_rfl) rfl #[.agg #[.int .i64 a1_0, .int .i64 a1_1, .string a1_2, .slice A1_3 l1_3.length c1_3]] rfl ga ?_; (with_reducible refine (spec_ValOk.calls k a1_0 a1_1 a1_2 _ _ l1_3 true _ ?side1 ?side2 A3.out).mono ?_); (case side1 => exact cq (Kd.C_below HR1_3.out HB.out)); (case side2 => exact HC1_3.out); rintro e w23 ⟨rfl, hb⟩; refine ⟨_, rfl, ?_⟩; have n_ := ak2 (blk_below (zb BK253.out) hb) (below_step (bq1 HB.out GE253.out) hb); clear BK253 HB; obtain ⟨BK253, HB⟩ := n_; (try clear hb)) | ((with_reducible refine gate_dst (N := 12) rfl ?_); refine Kd.R_lit (Kd.int .u8) _ 5 ?hg (N := 12) ?hd (xs := ([] : List Int)) (inner := []) (ok := fun _ => True) (okp := fun _ => True) ?hr ?hp (fun _ hk => hk) trivial (Below.refl _ _) (Nat.le_refl _) (by simp) ?_; (case hd => rfl); (case hg => rfl); (case hr => exact gs); (case hp => exact (Reps.none _ _)); intro v262 w24 ho25 hb hg_ hnew_; clear hg_ hnew_; (first | rw [← Ny261.out] at ho25 | (simp only [Int.reduceToNat] at ho25; rw [← Ny261.out] at ho25)); have n_ := ak3 (Kd.R_lower ho25 (below_size (bq1 HB.out GE253.out))) (blk_below (zb BK253.out) hb) (below_step (bq1 HB.out GE253.out) hb); clear BK253 HB; obtain ⟨HO263, BK253, HB⟩ := n_; clear hb ho25; obtain ⟨hcz26_0, hcz26_1, hcz26_2, hcz26_3, hfz26_0, hfz26_1, hfz26_2, hfz26_3⟩ := cl4 BK253.out) | ((with_reducible refine gate_dst (N := 24) rfl ?_); refine strb_event ?hg (N := 24) ?hd 9 22 5 (x := .tmp 23) ?ho (s := a1_2) (y := y270) Ny270.out ?hx Try.underlying9 Try.underlying22 Try.underlying5 (by have h_ : (a1_2.size : Int) < (140737488355328 : Int) := oda; omega) ?_; (case hd => rfl); (case hg => rfl); (case ho => rfl); (case hx => first | (go_simp; done) | (go_simp; rfl)); intro As270 cs270 w27 hs_ hl_ hb; have n_ := ak5 (Kd.R_below (kqR HO263.out) hb) (blk_below (zb BK253.out) hb) (below_step (bq1 HB.out GE253.out) hb) hs_ hl_; clear HO263 BK253 HB; obtain ⟨HO263, BK253, HB, HRs270, HCs270⟩ := n_; clear hb hs_ hl_; obtain ⟨hcz28_0, hcz28_1, hcz28_2, hcz28_3, hfz28_0, hfz28_1, hfz28_2, hfz28_3⟩ := cl4 BK253.out) | ((with_reducible refine gate_callee (f := 66) rfl ?_); refine goesL_ (some 34) rfl rfl Try.func66 (by kernel_rfl) rfl #[.slice A0 l0.length c0, .int .i64 a1_0, .slice As270 y270.length cs270] rfl ga ?_; (with_reducible refine (spec_PutTlv.calls k _ _ l0 a1_0 _ _ y270 t273 _ ?side1 ?side2 ?side3 ?side4 A20.out).mono ?_); (case side1 => exact cq (Kd.C_below HR0.out HB.out)); (case side2 => exact HC0.out); (case side3 => repeat (first | exact (by repeat (first | (with_reducible exact HRs270.out) | (with_reducible refine Kd.C_alloc ?_ _) | (with_reducible refine Kd.C_drewN ?_ _) | (with_reducible refine Kd.C_drew ?_) | exact HRs270.out)) | (with_reducible refine Kd.C_alloc ?_ _) | (with_reducible refine Kd.C_drewN ?_ _) | (with_reducible refine Kd.C_drew ?_))); (case side4 => exact HCs270.out); rintro e w29 ⟨v274, rfl, ho0, hb⟩; refine ⟨_, rfl, ?_⟩; have n_ := ak5 (Kd.R_elder' (kqR HO263.out) (Kd.R_base ho0) hb) (Kd.R_lower (Kd.R_new' ho0 (Kd.R_lt (kqR HO263.out))) (below_size (bq1 HB.out GE253.out))) (blk_below (zb BK253.out) hb) (Kd.C_below (by repeat (first | (with_reducible exact HRs270.out) | (with_reducible refine Kd.C_alloc ?_ _) | (with_reducible refine Kd.C_drewN ?_ _) | (with_reducible refine Kd.C_drew ?_) | exact HRs270.out)) hb) (below_step (bq1 HB.out GE253.out) hb); clear HO263 BK253 HRs270 HB; obtain ⟨HO263, HO275, BK253, HRs270, HB⟩ := n_; (try clear hb ho0)))
   go_ret
   exact ⟨_, rq, by refine kr ?_; exact Kd.R_mono HO275.out (fun _ hk => trivial), bq1 HB.out GE253.out⟩
 rw [if_neg c18] at H
 have c18b0 : (a1_0 == 4) = false := beq_eq_false_iff_ne.mpr c18
 have c18b1 : (a1_0 != 4) = true := bne_iff_ne.mpr c18
 by_cases c30 : a1_0 = 6
 rotate_left
 · rw [if_neg c30] at H
   have c30b0 : (a1_0 == 6) = false := beq_eq_false_iff_ne.mpr c30
   have c30b1 : (a1_0 != 6) = true := bne_iff_ne.mpr c30
   replace H := Option.bind_eq_some_iff.mp H
   obtain ⟨t282, A430, H⟩ := H
   replace H : (some t282) = some r := H
   have A43 := am A430
   clear A430
   obtain rfl := Option.some.inj H
   go_enter Try.func14, Try.ntmps14
   go_wp2_with (first | ((with_reducible refine gate_dst (N := 3) rfl ?_); refine bxe 3 #[.int .i64 a1_0, .int .i64 a1_1, .string a1_2, .slice A1_3 l1_3.length c1_3] 29 ?_; intro gb253 hg w44 hbox hb; have n_ := ak4 (below_step (bq HB.out) hb) hbox ((by rw [hg]; exact (below_size (bq HB.out)) : w.heap.size ≤ gb253)) ((by rw [hg]; exact (below_size (bq HB.out)) : w.heap.size ≤ gb253)); clear HB; obtain ⟨HB, BK253, GW253, GE253⟩ := n_; clear hb hbox hg; obtain ⟨hcz45_0, hcz45_1, hcz45_2, hcz45_3, hfz45_0, hfz45_1, hfz45_2, hfz45_3⟩ := cl4 BK253.out) | ((with_reducible refine gate_callee (f := 47) rfl ?_); refine goesL_ (some 7) rfl rfl Try.func47 (by kernel_rfl) rfl #[.agg #[.int .i64 a1_0, .int .i64 a1_1, .string a1_2, .slice A1_3 l1_3.length c1_3]] rfl ga ?_; (with_reducible refine (spec_ValOk.calls k a1_0 a1_1 a1_2 _ _ l1_3 true _ ?side1 ?side2 A3.out).mono ?_); (case side1 => exact cq (Kd.C_below HR1_3.out HB.out)); (case side2 => exact HC1_3.out); rintro e w46 ⟨rfl, hb⟩; refine ⟨_, rfl, ?_⟩; have n_ := ak2 (blk_below (zb BK253.out) hb) (below_step (bq1 HB.out GE253.out) hb); clear BK253 HB; obtain ⟨BK253, HB⟩ := n_; (try clear hb)) | ((with_reducible refine gate_dst (N := 12) rfl ?_); refine Kd.R_lit (Kd.int .u8) _ 5 ?hg (N := 12) ?hd (xs := ([] : List Int)) (inner := []) (ok := fun _ => True) (okp := fun _ => True) ?hr ?hp (fun _ hk => hk) trivial (Below.refl _ _) (Nat.le_refl _) (by simp) ?_; (case hd => rfl); (case hg => rfl); (case hr => exact gs); (case hp => exact (Reps.none _ _)); intro v262 w47 ho48 hb hg_ hnew_; clear hg_ hnew_; (first | rw [← Ny261.out] at ho48 | (simp only [Int.reduceToNat] at ho48; rw [← Ny261.out] at ho48)); have n_ := ak3 (Kd.R_lower ho48 (below_size (bq1 HB.out GE253.out))) (blk_below (zb BK253.out) hb) (below_step (bq1 HB.out GE253.out) hb); clear BK253 HB; obtain ⟨HO263, BK253, HB⟩ := n_; clear hb ho48; obtain ⟨hcz49_0, hcz49_1, hcz49_2, hcz49_3, hfz49_0, hfz49_1, hfz49_2, hfz49_3⟩ := cl4 BK253.out; obtain ⟨Ao50, co50, eo50⟩ := Kd.R_slice HO263.out; subst eo50) | ((with_reducible refine gate_callee (f := 66) rfl ?_); refine goesL_ (some 34) rfl rfl Try.func66 (by kernel_rfl) rfl #[.slice A0 l0.length c0, .int .i64 a1_0, .slice Ao50 y261.length co50] rfl ga ?_; (with_reducible refine (spec_PutTlv.calls k _ _ l0 a1_0 _ _ y261 t282 _ ?side1 ?side2 ?side3 ?side4 A43.out).mono ?_); (case side1 => exact cq (Kd.C_below HR0.out HB.out)); (case side2 => exact HC0.out); (case side3 => repeat (first | exact (Kd.R_reads' HO263.out).2.2 | (with_reducible refine Kd.C_alloc ?_ _) | (with_reducible refine Kd.C_drewN ?_ _) | (with_reducible refine Kd.C_drew ?_))); (case side4 => exact (Kd.R_reads' HO263.out).2.1); rintro e w51 ⟨v283, rfl, ho0, hb⟩; refine ⟨_, rfl, ?_⟩; have n_ := ak4 (Kd.R_elder' (kqR HO263.out) (Kd.R_base ho0) hb) (Kd.R_lower (Kd.R_new' ho0 (Kd.R_lt (kqR HO263.out))) (below_size (bq1 HB.out GE253.out))) (blk_below (zb BK253.out) hb) (below_step (bq1 HB.out GE253.out) hb); clear HO263 BK253 HB; obtain ⟨HO263, HO284, BK253, HB⟩ := n_; (try clear hb ho0)))
   go_ret
   exact ⟨_, rq, by refine kr ?_; exact Kd.R_mono HO284.out (fun _ hk => trivial), bq1 HB.out GE253.out⟩
 rw [if_pos c30] at H
 have c30b0 : (a1_0 == 6) = true := beq_iff_eq.mpr c30
 have c30b1 : (a1_0 != 6) = false := bne_eq_false_iff_eq.mpr c30
 clear c30
 replace H := Option.bind_eq_some_iff.mp H
 obtain ⟨t276, A310, H⟩ := H
 replace H : ((spec_PutTlv.f k l0 a1_0 t276).bind fun t279 => (some t279)) = some r := H
 have A31 := am A310
 clear A310
 replace H := Option.bind_eq_some_iff.mp H
 obtain ⟨t279, A320, H⟩ := H
 replace H : (some t279) = some r := H
 have A32 := am A320
 clear A320
 obtain rfl := Option.some.inj H
 go_enter Try.func14, Try.ntmps14
 go_wp2_with (first | ((with_reducible refine gate_dst (N := 3) rfl ?_); refine bxe 3 #[.int .i64 a1_0, .int .i64 a1_1, .string a1_2, .slice A1_3 l1_3.length c1_3] 29 ?_; intro gb253 hg w33 hbox hb; have n_ := ak4 (below_step (bq HB.out) hb) hbox ((by rw [hg]; exact (below_size (bq HB.out)) : w.heap.size ≤ gb253)) ((by rw [hg]; exact (below_size (bq HB.out)) : w.heap.size ≤ gb253)); clear HB; obtain ⟨HB, BK253, GW253, GE253⟩ := n_; clear hb hbox hg; obtain ⟨hcz34_0, hcz34_1, hcz34_2, hcz34_3, hfz34_0, hfz34_1, hfz34_2, hfz34_3⟩ := cl4 BK253.out) | ((with_reducible refine gate_callee (f := 47) rfl ?_); refine goesL_ (some 7) rfl rfl Try.func47 (by kernel_rfl) rfl #[.agg #[.int .i64 a1_0, .int .i64 a1_1, .string a1_2, .slice A1_3 l1_3.length c1_3]] rfl ga ?_; (with_reducible refine (spec_ValOk.calls k a1_0 a1_1 a1_2 _ _ l1_3 true _ ?side1 ?side2 A3.out).mono ?_); (case side1 => exact cq (Kd.C_below HR1_3.out HB.out)); (case side2 => exact HC1_3.out); rintro e w35 ⟨rfl, hb⟩; refine ⟨_, rfl, ?_⟩; have n_ := ak2 (blk_below (zb BK253.out) hb) (below_step (bq1 HB.out GE253.out) hb); clear BK253 HB; obtain ⟨BK253, HB⟩ := n_; (try clear hb)) | ((with_reducible refine gate_dst (N := 12) rfl ?_); refine Kd.R_lit (Kd.int .u8) _ 5 ?hg (N := 12) ?hd (xs := ([] : List Int)) (inner := []) (ok := fun _ => True) (okp := fun _ => True) ?hr ?hp (fun _ hk => hk) trivial (Below.refl _ _) (Nat.le_refl _) (by simp) ?_; (case hd => rfl); (case hg => rfl); (case hr => exact gs); (case hp => exact (Reps.none _ _)); intro v262 w36 ho37 hb hg_ hnew_; clear hg_ hnew_; (first | rw [← Ny261.out] at ho37 | (simp only [Int.reduceToNat] at ho37; rw [← Ny261.out] at ho37)); have n_ := ak3 (Kd.R_lower ho37 (below_size (bq1 HB.out GE253.out))) (blk_below (zb BK253.out) hb) (below_step (bq1 HB.out GE253.out) hb); clear BK253 HB; obtain ⟨HO263, BK253, HB⟩ := n_; clear hb ho37; obtain ⟨hcz38_0, hcz38_1, hcz38_2, hcz38_3, hfz38_0, hfz38_1, hfz38_2, hfz38_3⟩ := cl4 BK253.out) | ((with_reducible refine gate_callee (f := 65) rfl ?_); refine goesL_ (some 29) rfl rfl Try.func65 (by kernel_rfl) rfl #[.slice A1_3 l1_3.length c1_3] rfl ga ?_; (with_reducible refine (spec_PutOid.calls k _ _ l1_3 t276 _ ?side1 ?side2 A31.out).mono ?_); (case side1 => exact cq (Kd.C_below HR1_3.out HB.out)); (case side2 => exact HC1_3.out); rintro e w39 ⟨v277, rfl, ho0, hb⟩; refine ⟨_, rfl, ?_⟩; have n_ := ak4 (Kd.R_elder' (kqR HO263.out) (Kd.R_base ho0) hb) (Kd.R_lower (Kd.R_new' ho0 (Kd.R_lt (kqR HO263.out))) (below_size (bq1 HB.out GE253.out))) (blk_below (zb BK253.out) hb) (below_step (bq1 HB.out GE253.out) hb); clear HO263 BK253 HB; obtain ⟨HO263, HO278, BK253, HB⟩ := n_; (try clear hb ho0); obtain ⟨hcz40_0, hcz40_1, hcz40_2, hcz40_3, hfz40_0, hfz40_1, hfz40_2, hfz40_3⟩ := cl4 BK253.out; obtain ⟨Ao41, co41, eo41⟩ := Kd.R_slice HO278.out; subst eo41) | ((with_reducible refine gate_callee (f := 66) rfl ?_); refine goesL_ (some 34) rfl rfl Try.func66 (by kernel_rfl) rfl #[.slice A0 l0.length c0, .int .i64 a1_0, .slice Ao41 t276.length co41] rfl ga ?_; (with_reducible refine (spec_PutTlv.calls k _ _ l0 a1_0 _ _ t276 t279 _ ?side1 ?side2 ?side3 ?side4 A32.out).mono ?_); (case side1 => exact cq (Kd.C_below HR0.out HB.out)); (case side2 => exact HC0.out); (case side3 => repeat (first | exact (Kd.R_reads' HO278.out).2.2 | (with_reducible refine Kd.C_alloc ?_ _) | (with_reducible refine Kd.C_drewN ?_ _) | (with_reducible refine Kd.C_drew ?_))); (case side4 => exact (Kd.R_reads' HO278.out).2.1); rintro e w42 ⟨v280, rfl, ho0, hb⟩; refine ⟨_, rfl, ?_⟩; have n_ := ak5 (Kd.R_elder' (kqR HO263.out) (Kd.R_base ho0) hb) (Kd.R_elder' (kqR HO278.out) (Kd.R_base ho0) hb) (Kd.R_lower (Kd.R_new' (Kd.R_new' ho0 (Kd.R_lt (kqR HO263.out))) (Kd.R_lt (kqR HO278.out))) (below_size (bq1 HB.out GE253.out))) (blk_below (zb BK253.out) hb) (below_step (bq1 HB.out GE253.out) hb); clear HO263 HO278 BK253 HB; obtain ⟨HO263, HO278, HO281, BK253, HB⟩ := n_; (try clear hb ho0)))
 go_ret
 exact ⟨_, rq, by refine kr ?_; exact Kd.R_mono HO281.out (fun _ hk => trivial), bq1 HB.out GE253.out⟩

/-! ### spec_l4Binds: function 128 -/
def spec_l4Binds.l0 : Nat → List (S116) → List Int → Int → Option (List Int)
 | 0, _, _, _ => none
 | k + 1, x0, x3, x4 => if x4 < (x0.length : Int) then (if 0 ≤ x4 then ((spec_PutOid.f k ((rd_T116 x0 x4).f0)).bind fun t292 => ((spec_PutTlv.f k (([] : List Int)) 6 t292).bind fun t295 => ((spec_PutVal.f k t295 ((rd_T116 x0 x4).f1.f0) ((rd_T116 x0 x4).f1.f1) ((rd_T116 x0 x4).f1.f2) ((rd_T116 x0 x4).f1.f3)).bind fun t299 => ((spec_PutTlv.f k x3 48 t299).bind fun t302 => (spec_l4Binds.l0 k x0 t302 (wrap64 (x4 + 1))))))) else (none)) else (some x3)
def spec_l4Binds.f (k : Nat) (l0 : List (S116)) : Option (List Int) := spec_l4Binds.l0 k l0 (([] : List Int)) 0
theorem spec_l4Binds.mono_l : ∀ k, (∀ y0 y1 y2, LeO (spec_l4Binds.l0 k y0 y1 y2) (spec_l4Binds.l0 (k + 1) y0 y1 y2))
 | 0 => fun _ _ _ r h => by simp [spec_l4Binds.l0] at h
 | k + 1 => by
  have ih0 := spec_l4Binds.mono_l k
  intro y0 y1 y2
  unfold spec_l4Binds.l0
  repeat' first
  | (with_reducible exact ih0 _ _ _)
  | (with_reducible exact spec_PutOid.mono _ _)
  | (with_reducible exact spec_PutTlv.mono _ _ _ _)
  | (with_reducible exact spec_PutVal.mono _ _ _ _ _ _)
  | (with_reducible exact LeO.refl _)
  | (with_reducible exact LeO.none _)
  | (with_reducible refine LeO.ite ?_ ?_)
  | (with_reducible refine LeO.bind ?_ (fun _ => ?_))
  | exact ih0 _ _ _
  | exact spec_PutOid.mono _ _
  | exact spec_PutTlv.mono _ _ _ _
  | exact spec_PutVal.mono _ _ _ _ _ _
  | exact LeO.none _
  | refine LeO.ite ?_ ?_
  | refine LeO.bind ?_ (fun _ => ?_)
theorem spec_l4Binds.mono : ∀ a0 k, LeO (spec_l4Binds.f k a0) (spec_l4Binds.f (k + 1) a0) := by
 intro a0 k
 have ih0 := spec_l4Binds.mono_l k
 unfold spec_l4Binds.f
 repeat' first
  | (with_reducible exact ih0 _ _ _)
  | (with_reducible exact spec_PutOid.mono _ _)
  | (with_reducible exact spec_PutTlv.mono _ _ _ _)
  | (with_reducible exact spec_PutVal.mono _ _ _ _ _ _)
  | (with_reducible exact LeO.refl _)
  | (with_reducible exact LeO.none _)
  | (with_reducible refine LeO.ite ?_ ?_)
  | (with_reducible refine LeO.bind ?_ (fun _ => ?_))
  | exact ih0 _ _ _
  | exact spec_PutOid.mono _ _
  | exact spec_PutTlv.mono _ _ _ _
  | exact spec_PutVal.mono _ _ _ _ _ _
  | exact LeO.none _
  | refine LeO.ite ?_ ?_
  | refine LeO.bind ?_ (fun _ => ?_)
def spec_l4Binds.T5 : Bool × List (List Nat × List Nat) := (true, [([], []), ([], []), ([], []), ([1, 2], [1, 2]), ([3], [3]), ([4], [4]), ([5], [5]), ([0, 6, 6], [0, 6]), ([], []), ([], []), ([8, 9], [8, 9]), ([10], [10]), ([11], [11]), ([7, 12, 7], [7, 12]), ([13, 13, 0, 1, 2, 3, 4, 5, 6, 7, 8, 9, 10, 11, 12, 13], [13])])
def spec_l4Binds.B5 : List Nat := [0, 0, 0, 6, 14, 30, 62, 127, 0, 0, 768, 1792, 3840, 8191, 16383]
theorem spec_l4Binds.tab5 : rtab .any (opsOf Try.f128 5) = spec_l4Binds.T5 := by kernel_rfl
theorem spec_l4Binds.bits5 : waitsOk spec_l4Binds.T5.2 spec_l4Binds.B5 = true := by kernel_rfl
set_option maxHeartbeats 8000000 in
set_option maxRecDepth 100000 in
theorem spec_l4Binds.calls (k : Nat) (A0 : Option Addr) (c0 : Nat) (l0 : List (S116)) (r : List Int) (w : World) (hr0 : Kd.C k116 w A0 l0.length l0) (hc0 : l0.length ≤ c0) (h : spec_l4Binds.f k l0 = some r) :
 Calls Try.prog 128 #[.slice A0 l0.length c0] w fun e w' => ∃ v0_ : Value, e = .returned (v0_) ∧ Kd.R (Kd.int .u8) 5 w' w.heap.size (fun _ => True) v0_ r ∧ Below w.heap.size w w' := by
 have hu29 := Try.underlying29
 have HR0 := am hr0
 have HC0 := am hc0
 clear hr0 hc0
 have HB := am (Below.refl w.heap.size w)
 have H : (spec_l4Binds.l0 k l0 (([] : List Int)) 0) = some r := h
 clear h
 obtain ⟨y285, hy285⟩ : ∃ y_ : List Int, y_ = (([] : List Int)) := ⟨_, rfl⟩
 replace H : (spec_l4Binds.l0 k l0 y285 0) = some r := hx H hy285
 have Ny285 := am hy285
 clear hy285
 have H' := am H
 clear H
 go_enter Try.func128, Try.ntmps128
 go_wp2_with (first | ((with_reducible refine gate_dst (N := 6) rfl ?_); refine Kd.R_lit (Kd.int .u8) _ 5 ?hg (N := 6) ?hd (xs := ([] : List Int)) (inner := []) (ok := fun _ => True) (okp := fun _ => True) ?hr ?hp (fun _ hk => hk) trivial (Below.refl _ _) (Nat.le_refl _) (by simp) ?_; (case hd => rfl); (case hg => rfl); (case hr => exact gs); (case hp => exact (Reps.none _ _)); intro v286 w2 ho3 hb hg_ hnew_; clear hg_ hnew_; (first | rw [← Ny285.out] at ho3 | (simp only [Int.reduceToNat] at ho3; rw [← Ny285.out] at ho3)); have n_ := ak2 (Kd.R_lower ho3 (below_size (bq HB.out))) (below_step (bq HB.out) hb); clear HB; obtain ⟨HO287, HB⟩ := n_; clear hb ho3))
 go_loopg [3, 4] k (fun kq v3 v4 w' => ∃ (x3_1 : List Int) (x4_1 : Int), v4 = .int .i64 x4_1 ∧ Aside0 (spec_l4Binds.l0 kq l0 x3_1 x4_1 = some r) ∧ Aside0 (kq ≤ k) ∧ Aside0 (Kd.R (Kd.int .u8) 5 w' w.heap.size (fun _ => True) v3 x3_1) ∧ Aside0 (Below w.heap.size w w'))
 case atStart => exact ⟨(y285), (0), sq, H', ⟨Nat.le_refl _⟩, ⟨kqR HO287.out⟩, ⟨bq HB.out⟩⟩
 case round =>
  clear H'
  try clear c1
  try clear p2
  obtain ⟨x3_1, x4_1, rfl, HA, HK1, HO_3, HB⟩ := hrel
  cases gk with
  | zero => exact absurd HA.out (by simp [spec_l4Binds.l0])
  | succ k1 =>
   have H := HA.out
   clear HA
   simp only [spec_l4Binds.l0] at H
   by_cases c4 : x4_1 < (l0.length : Int)
   rotate_left
   · rw [if_neg c4] at H
     have c4b0 : decide (x4_1 < (l0.length : Int)) = false := decide_eq_false c4
     clear c4
     obtain rfl := Option.some.inj H
     go_wp2
     go_ret
     exact ⟨_, rq, kqR HO_3.out, bq HB.out⟩
   rw [if_pos c4] at H
   have c4b0 : decide (x4_1 < (l0.length : Int)) = true := decide_eq_true c4
   clear c4
   obtain ⟨y288, hy288⟩ : ∃ y_ : List Int, y_ = (([] : List Int)) := ⟨_, rfl⟩
   replace H : (if 0 ≤ x4_1 then ((spec_PutOid.f k1 ((rd_T116 l0 x4_1).f0)).bind fun t292 => ((spec_PutTlv.f k1 y288 6 t292).bind fun t295 => ((spec_PutVal.f k1 t295 ((rd_T116 l0 x4_1).f1.f0) ((rd_T116 l0 x4_1).f1.f1) ((rd_T116 l0 x4_1).f1.f2) ((rd_T116 l0 x4_1).f1.f3)).bind fun t299 => ((spec_PutTlv.f k1 x3_1 48 t299).bind fun t302 => (spec_l4Binds.l0 k1 l0 t302 (wrap64 (x4_1 + 1))))))) else (none)) = some r := hx H hy288
   have Ny288 := am hy288
   clear hy288
   by_cases c5 : 0 ≤ x4_1
   rotate_left
   · rw [if_neg c5] at H
     exact absurd H (by simp)
   rw [if_pos c5] at H
   have c5b0 : decide (0 ≤ x4_1) = true := decide_eq_true c5
   clear c5
   replace H := Option.bind_eq_some_iff.mp H
   obtain ⟨t292, A60, H⟩ := H
   replace H : ((spec_PutTlv.f k1 y288 6 t292).bind fun t295 => ((spec_PutVal.f k1 t295 ((rd_T116 l0 x4_1).f1.f0) ((rd_T116 l0 x4_1).f1.f1) ((rd_T116 l0 x4_1).f1.f2) ((rd_T116 l0 x4_1).f1.f3)).bind fun t299 => ((spec_PutTlv.f k1 x3_1 48 t299).bind fun t302 => (spec_l4Binds.l0 k1 l0 t302 (wrap64 (x4_1 + 1)))))) = some r := H
   have A6 := am A60
   clear A60
   replace H := Option.bind_eq_some_iff.mp H
   obtain ⟨t295, A70, H⟩ := H
   replace H : ((spec_PutVal.f k1 t295 ((rd_T116 l0 x4_1).f1.f0) ((rd_T116 l0 x4_1).f1.f1) ((rd_T116 l0 x4_1).f1.f2) ((rd_T116 l0 x4_1).f1.f3)).bind fun t299 => ((spec_PutTlv.f k1 x3_1 48 t299).bind fun t302 => (spec_l4Binds.l0 k1 l0 t302 (wrap64 (x4_1 + 1))))) = some r := H
   have A7 := am A70
   clear A70
   replace H := Option.bind_eq_some_iff.mp H
   obtain ⟨t299, A80, H⟩ := H
   replace H : ((spec_PutTlv.f k1 x3_1 48 t299).bind fun t302 => (spec_l4Binds.l0 k1 l0 t302 (wrap64 (x4_1 + 1)))) = some r := H
   have A8 := am A80
   clear A80
   replace H := Option.bind_eq_some_iff.mp H
   obtain ⟨t302, A90, H⟩ := H
   replace H : (spec_l4Binds.l0 k1 l0 t302 (wrap64 (x4_1 + 1))) = some r := H
   have A9 := am A90
   clear A90
   have H' := am H
   clear H
   try go_wp2
   have n_ := ak2 (Kd.R_drew HO_3.out) (below_drew1 HB.out)
   clear HO_3 HB
   obtain ⟨HO_3, HB⟩ := n_
   have p291 : 0 ≤ (x4_1 : Int) := oda
   have q291 : x4_1 < (l0.length : Int) := oda
   obtain ⟨ad291, A291_0, c291_0, A291_4, c291_4, e291, hx291_0, hx291_1, hx291_2, hx291_3, hx291_4, hl291_0, hi291_0, hl291_4, hi291_4⟩ := at_T116 HR0.out x4_1 p291 q291
   have hw291_4 := hx291_4
   have hw291_3 := hx291_3
   have hw291_2 := hx291_2
   have hw291_1 := hx291_1
   have hw291_0 := hx291_0
   cases e291
   replace hx291_0 := (HB.out.cell (World.block_lt_of_cell? w _ hx291_0)).trans hx291_0
   replace hx291_1 := (HB.out.cell (World.block_lt_of_cell? w _ hx291_1)).trans hx291_1
   replace hx291_2 := (HB.out.cell (World.block_lt_of_cell? w _ hx291_2)).trans hx291_2
   replace hx291_3 := (HB.out.cell (World.block_lt_of_cell? w _ hx291_3)).trans hx291_3
   replace hx291_4 := (HB.out.cell (World.block_lt_of_cell? w _ hx291_4)).trans hx291_4
   have HR291_0 := am hi291_0
   have HC291_0 := am hl291_0
   clear hi291_0 hl291_0
   have HR291_4 := am hi291_4
   have HC291_4 := am hl291_4
   clear hi291_4 hl291_4
   replace p291 := eq_true p291
   replace q291 := eq_true q291
   have p298 : 0 ≤ (x4_1 : Int) := oda
   have q298 : x4_1 < (l0.length : Int) := oda
   obtain ⟨ad298, A298_0, c298_0, A298_4, c298_4, e298, hx298_0, hx298_1, hx298_2, hx298_3, hx298_4, hl298_0, hi298_0, hl298_4, hi298_4⟩ := at_T116 HR0.out x4_1 p298 q298
   have hw298_4 := hx298_4
   have hw298_3 := hx298_3
   have hw298_2 := hx298_2
   have hw298_1 := hx298_1
   have hw298_0 := hx298_0
   obtain rfl : ad291 = ad298 := (by injection e298)
   replace hx298_0 := (HB.out.cell (World.block_lt_of_cell? w _ hx298_0)).trans hx298_0
   replace hx298_1 := (HB.out.cell (World.block_lt_of_cell? w _ hx298_1)).trans hx298_1
   replace hx298_2 := (HB.out.cell (World.block_lt_of_cell? w _ hx298_2)).trans hx298_2
   replace hx298_3 := (HB.out.cell (World.block_lt_of_cell? w _ hx298_3)).trans hx298_3
   replace hx298_4 := (HB.out.cell (World.block_lt_of_cell? w _ hx298_4)).trans hx298_4
   have HR298_0 := am hi298_0
   have HC298_0 := am hl298_0
   clear hi298_0 hl298_0
   have HR298_4 := am hi298_4
   have HC298_4 := am hl298_4
   clear hi298_4 hl298_4
   replace p298 := eq_true p298
   replace q298 := eq_true q298
   have ea_ := Option.some.inj (hx291_0.symm.trans hx298_0)
   injection ea_ with ea_ en_ ec_
   subst ea_
   subst ec_
   clear en_
   have ea_ := Option.some.inj (hx291_4.symm.trans hx298_4)
   injection ea_ with ea_ en_ ec_
   subst ea_
   subst ec_
   clear en_
   refine start_ (n := 15) (S := fun w' => w'.cell? (ad291.add ((x4_1).toNat * 5)) = some (.slice A291_0 ((rd_T116 l0 x4_1).f0).length c291_0) ∧ w'.cell? ⟨(ad291.add ((x4_1).toNat * 5)).block, (ad291.add ((x4_1).toNat * 5)).off + 1, none⟩ = some (.int .i64 ((rd_T116 l0 x4_1).f1.f0)) ∧ w'.cell? ⟨(ad291.add ((x4_1).toNat * 5)).block, (ad291.add ((x4_1).toNat * 5)).off + 2, none⟩ = some (.int .i64 ((rd_T116 l0 x4_1).f1.f1)) ∧ w'.cell? ⟨(ad291.add ((x4_1).toNat * 5)).block, (ad291.add ((x4_1).toNat * 5)).off + 3, none⟩ = some (.string ((rd_T116 l0 x4_1).f1.f2)) ∧ w'.cell? ⟨(ad291.add ((x4_1).toNat * 5)).block, (ad291.add ((x4_1).toNat * 5)).off + 4, none⟩ = some (.slice A291_4 ((rd_T116 l0 x4_1).f1.f3).length c291_4) ∧ w'.cell? (ad291.add ((x4_1).toNat * 5)) = some (.slice A291_0 ((rd_T116 l0 x4_1).f0).length c291_0) ∧ w'.cell? ⟨(ad291.add ((x4_1).toNat * 5)).block, (ad291.add ((x4_1).toNat * 5)).off + 1, none⟩ = some (.int .i64 ((rd_T116 l0 x4_1).f1.f0)) ∧ w'.cell? ⟨(ad291.add ((x4_1).toNat * 5)).block, (ad291.add ((x4_1).toNat * 5)).off + 2, none⟩ = some (.int .i64 ((rd_T116 l0 x4_1).f1.f1)) ∧ w'.cell? ⟨(ad291.add ((x4_1).toNat * 5)).block, (ad291.add ((x4_1).toNat * 5)).off + 3, none⟩ = some (.string ((rd_T116 l0 x4_1).f1.f2)) ∧ w'.cell? ⟨(ad291.add ((x4_1).toNat * 5)).block, (ad291.add ((x4_1).toNat * 5)).off + 4, none⟩ = some (.slice A291_4 ((rd_T116 l0 x4_1).f1.f3).length c291_4)) (ds := []) #[false, false, false, false, false, false, false, false, false, false, false, false, false, false, false] (by kernel_rfl) rfl rfl ⟨((HB.out.cell (World.block_lt_of_cell? w _ hw291_0)).trans hw291_0), ((HB.out.cell (World.block_lt_of_cell? w _ hw291_1)).trans hw291_1), ((HB.out.cell (World.block_lt_of_cell? w _ hw291_2)).trans hw291_2), ((HB.out.cell (World.block_lt_of_cell? w _ hw291_3)).trans hw291_3), ((HB.out.cell (World.block_lt_of_cell? w _ hw291_4)).trans hw291_4), ((HB.out.cell (World.block_lt_of_cell? w _ hw298_0)).trans hw298_0), ((HB.out.cell (World.block_lt_of_cell? w _ hw298_1)).trans hw298_1), ((HB.out.cell (World.block_lt_of_cell? w _ hw298_2)).trans hw298_2), ((HB.out.cell (World.block_lt_of_cell? w _ hw298_3)).trans hw298_3), ((HB.out.cell (World.block_lt_of_cell? w _ hw298_4)).trans hw298_4)⟩ (fun hHeld => ?_); refine with_tabW spec_l4Binds.tab5 spec_l4Binds.bits5 (fun HT_ HW_ => ?_)
   generalize wr.drew = w10 at HO_3 HB HR291_0 HR291_4 HR298_0 HR298_4 hx291_0 hx291_1 hx291_2 hx291_3 hx291_4 hx298_0 hx298_1 hx298_2 hx298_3 hx298_4 hHeld ⊢
   refine pu 1 (some 14) #[false, true, false, false, false, false, false, false, false, false, false, false, false, false, false] rfl rfl (any_of HT_.out (by kernel_rfl)) (Or.inl ⟨by rfl, by intro w'; go_simp; with_reducible rfl⟩) ?_
   refine pu 2 (some 15) #[false, true, true, false, false, false, false, false, false, false, false, false, false, false, false] rfl rfl (any_of HT_.out (by kernel_rfl)) (Or.inl ⟨by rfl, by intro w'; go_simp; with_reducible rfl⟩) ?_
   refine pu 3 (some 16) #[false, true, true, true, false, false, false, false, false, false, false, false, false, false, false] rfl rfl (any_of HT_.out (by kernel_rfl)) (Or.inl ⟨by rfl, by intro w'; go_simp; with_reducible rfl⟩) ?_
   refine pu 4 (some 17) #[false, true, true, true, true, false, false, false, false, false, false, false, false, false, false] rfl rfl (any_of HT_.out (by kernel_rfl)) (Or.inl ⟨by rfl, by intro w'; go_simp; with_reducible rfl⟩) ?_
   refine pu 8 (some 21) #[false, true, true, true, true, false, false, false, true, false, false, false, false, false, false] rfl rfl (any_of HT_.out (by kernel_rfl)) (Or.inl ⟨by rfl, by intro w'; go_simp; with_reducible rfl⟩) ?_
   refine pu 9 (some 22) #[false, true, true, true, true, false, false, false, true, true, false, false, false, false, false] rfl rfl (any_of HT_.out (by kernel_rfl)) (Or.inl ⟨by rfl, by intro w'; go_simp; with_reducible rfl⟩) ?_
   refine pu 10 (some 23) #[false, true, true, true, true, false, false, false, true, true, true, false, false, false, false] rfl rfl (any_of HT_.out (by kernel_rfl)) (Or.inl ⟨by rfl, by intro w'; go_simp; with_reducible rfl⟩) ?_
   refine pu 11 (some 24) #[false, true, true, true, true, false, false, false, true, true, true, true, false, false, false] rfl rfl (any_of HT_.out (by kernel_rfl)) (Or.inl ⟨by rfl, by intro w'; go_simp; with_reducible rfl⟩) ?_
   refine tk 5 (some 18) #[false, true, true, true, true, true, false, false, true, true, true, true, false, false, false] rfl rfl (take_ofW HT_.out HW_.out (by kernel_rfl)) hHeld (Or.inl ⟨by rfl, by rintro w' ⟨s0, s1, s2, s3, s4, s5, s6, s7, s8, s9⟩; go_simp; with_reducible rfl⟩) ?_
   refine tk 12 (some 25) #[false, true, true, true, true, true, false, false, true, true, true, true, true, false, false] rfl rfl (take_ofW HT_.out HW_.out (by kernel_rfl)) hHeld (Or.inl ⟨by rfl, by rintro w' ⟨s0, s1, s2, s3, s4, s5, s6, s7, s8, s9⟩; go_simp; with_reducible rfl⟩) ?_
   refine join_ (σ := Value × Value) 3 #[true, true, true, true, true, true, true, false, true, true, true, true, true, false, false] (fun s_ => [(13, s_.1), (19, s_.2)]) (fun s_ w' => (w'.cell? (ad291.add ((x4_1).toNat * 5)) = some (.slice A291_0 ((rd_T116 l0 x4_1).f0).length c291_0) ∧ w'.cell? ⟨(ad291.add ((x4_1).toNat * 5)).block, (ad291.add ((x4_1).toNat * 5)).off + 1, none⟩ = some (.int .i64 ((rd_T116 l0 x4_1).f1.f0)) ∧ w'.cell? ⟨(ad291.add ((x4_1).toNat * 5)).block, (ad291.add ((x4_1).toNat * 5)).off + 2, none⟩ = some (.int .i64 ((rd_T116 l0 x4_1).f1.f1)) ∧ w'.cell? ⟨(ad291.add ((x4_1).toNat * 5)).block, (ad291.add ((x4_1).toNat * 5)).off + 3, none⟩ = some (.string ((rd_T116 l0 x4_1).f1.f2)) ∧ w'.cell? ⟨(ad291.add ((x4_1).toNat * 5)).block, (ad291.add ((x4_1).toNat * 5)).off + 4, none⟩ = some (.slice A291_4 ((rd_T116 l0 x4_1).f1.f3).length c291_4) ∧ w'.cell? (ad291.add ((x4_1).toNat * 5)) = some (.slice A291_0 ((rd_T116 l0 x4_1).f0).length c291_0) ∧ w'.cell? ⟨(ad291.add ((x4_1).toNat * 5)).block, (ad291.add ((x4_1).toNat * 5)).off + 1, none⟩ = some (.int .i64 ((rd_T116 l0 x4_1).f1.f0)) ∧ w'.cell? ⟨(ad291.add ((x4_1).toNat * 5)).block, (ad291.add ((x4_1).toNat * 5)).off + 2, none⟩ = some (.int .i64 ((rd_T116 l0 x4_1).f1.f1)) ∧ w'.cell? ⟨(ad291.add ((x4_1).toNat * 5)).block, (ad291.add ((x4_1).toNat * 5)).off + 3, none⟩ = some (.string ((rd_T116 l0 x4_1).f1.f2)) ∧ w'.cell? ⟨(ad291.add ((x4_1).toNat * 5)).block, (ad291.add ((x4_1).toNat * 5)).off + 4, none⟩ = some (.slice A291_4 ((rd_T116 l0 x4_1).f1.f3).length c291_4)) ∧ (Kd.R (Kd.int .u8) 5 w' w.heap.size (fun k_ => some k_ ≠ (s_.2 : Value).ownBlock ∧ some k_ ≠ (u3 : Value).ownBlock) s_.1 y288) ∧ (Kd.R (Kd.int .u8) 5 w' w.heap.size (fun k_ => some k_ ≠ (s_.1 : Value).ownBlock ∧ some k_ ≠ (u3 : Value).ownBlock) s_.2 t292) ∧ (Kd.R (Kd.int .u8) 5 w' w.heap.size (fun k_ => some k_ ≠ (s_.1 : Value).ownBlock ∧ some k_ ≠ (s_.2 : Value).ownBlock) u3 x3_1) ∧ (Below w.heap.size w w')) ?_ ?_
   rotate_left
   · intro hCont
     refine two_ (i := 0) (j := 6) (Ni := some 13) (Nj := some 19) #[true, true, true, true, true, true, false, false, true, true, true, true, true, false, false] #[false, true, true, true, true, true, true, false, true, true, true, true, true, false, false] rfl rfl rfl rfl (two_of HT_.out (by kernel_rfl)) (by decide) (by decide) (fun K hK => ?_) (fun K hK => ?_)
     · skip
       refine Kd.R_lit_step (Kd.int .u8) _ 5 ?hg (N := 13) ?hd (xs := ([] : List Int)) (inner := []) (ok := fun _ => True) (okp := fun _ => True) ?hr ?hp (fun _ hk => hk) trivial (Below.refl _ _) (Nat.le_refl _) (by simp) ?_; (case hd => rfl); (case hg => rfl); (case hr => exact gs); (case hp => exact (Reps.none _ _))
       intro v289 w11 ho12 hb hg_ hnew_
       clear hg_ hnew_
       (first | rw [← Ny288.out] at ho12 | (simp only [Int.reduceToNat] at ho12; rw [← Ny288.out] at ho12))
       have n_ := ak3 (Kd.R_elder' (kqR HO_3.out) (Kd.R_base ho12) hb) (Kd.R_lower (Kd.R_new' ho12 (Kd.R_lt (kqR HO_3.out))) (below_size (bq HB.out))) (below_step (bq HB.out) hb)
       clear HO_3 HB
       obtain ⟨HO_3, HO290, HB⟩ := n_
       clear hb ho12
       refine hK.out _ _ ⟨((HB.out.cell (World.block_lt_of_cell? w _ hw291_0)).trans hw291_0), ((HB.out.cell (World.block_lt_of_cell? w _ hw291_1)).trans hw291_1), ((HB.out.cell (World.block_lt_of_cell? w _ hw291_2)).trans hw291_2), ((HB.out.cell (World.block_lt_of_cell? w _ hw291_3)).trans hw291_3), ((HB.out.cell (World.block_lt_of_cell? w _ hw291_4)).trans hw291_4), ((HB.out.cell (World.block_lt_of_cell? w _ hw298_0)).trans hw298_0), ((HB.out.cell (World.block_lt_of_cell? w _ hw298_1)).trans hw298_1), ((HB.out.cell (World.block_lt_of_cell? w _ hw298_2)).trans hw298_2), ((HB.out.cell (World.block_lt_of_cell? w _ hw298_3)).trans hw298_3), ((HB.out.cell (World.block_lt_of_cell? w _ hw298_4)).trans hw298_4)⟩ (fun hHeld => ?_)
       clear hK K
       refine norm_ (a' := ?_) ?_ ?_
       rotate_left
       · show Act.put _ (some 13) _ = _
         simp only [Act.put, List.setIfInBounds_toArray, List.set_cons_zero, List.set_cons_succ, i64_w, i32_w]
         rfl
       refine one_ (i := 6) (N := some 19) #[true, true, true, true, true, true, true, false, true, true, true, true, true, false, false] rfl rfl (one_of HT_.out (by kernel_rfl)) (by decide) (fun K hK => ?_)
       refine goes_ Try.func65 (by kernel_rfl) rfl #[.slice A291_0 ((rd_T116 l0 x4_1).f0).length c291_0] (by rfl) rfl rfl ga ?_
       with_reducible refine (spec_PutOid.calls k1 _ _ ((rd_T116 l0 x4_1).f0) t292 _ ?side1 ?side2 A6.out).mono ?_
       (case side1 => exact cq (Kd.C_below HR291_0.out HB.out))
       (case side2 => exact HC291_0.out)
       rintro e w13 ⟨v293, rfl, ho0, hb⟩
       refine ⟨_, rfl, ?_⟩
       have n_ := ak4 (Kd.R_elder' (kqR HO_3.out) (Kd.R_base ho0) hb) (Kd.R_elder' (kqR HO290.out) (Kd.R_base ho0) hb) (Kd.R_lower (Kd.R_new' (Kd.R_new' ho0 (Kd.R_lt (kqR HO_3.out))) (Kd.R_lt (kqR HO290.out))) (below_size (bq HB.out))) (below_step (bq HB.out) hb)
       clear HO_3 HO290 HB
       obtain ⟨HO_3, HO290, HO294, HB⟩ := n_
       (try clear hb ho0)
       refine hK.out _ _ ⟨((HB.out.cell (World.block_lt_of_cell? w _ hw291_0)).trans hw291_0), ((HB.out.cell (World.block_lt_of_cell? w _ hw291_1)).trans hw291_1), ((HB.out.cell (World.block_lt_of_cell? w _ hw291_2)).trans hw291_2), ((HB.out.cell (World.block_lt_of_cell? w _ hw291_3)).trans hw291_3), ((HB.out.cell (World.block_lt_of_cell? w _ hw291_4)).trans hw291_4), ((HB.out.cell (World.block_lt_of_cell? w _ hw298_0)).trans hw298_0), ((HB.out.cell (World.block_lt_of_cell? w _ hw298_1)).trans hw298_1), ((HB.out.cell (World.block_lt_of_cell? w _ hw298_2)).trans hw298_2), ((HB.out.cell (World.block_lt_of_cell? w _ hw298_3)).trans hw298_3), ((HB.out.cell (World.block_lt_of_cell? w _ hw298_4)).trans hw298_4)⟩ (fun hHeld => ?_)
       clear hK K
       refine norm_ (a' := ?_) ?_ ?_
       rotate_left
       · show Act.put _ (some 19) _ = _
         simp only [Act.put, List.setIfInBounds_toArray, List.set_cons_zero, List.set_cons_succ, i64_w, i32_w]
         rfl
       exact norm_ (by simp only [putAll, Act.put, List.setIfInBounds_toArray, List.set_cons_zero, List.set_cons_succ]) (hCont (v289, v293) _ ⟨hHeld, (by refine kr ?_; exact Kd.R_mono HO290.out (fun _ hk => ⟨hk.2, hk.1.2⟩)), (by refine kr ?_; exact Kd.R_mono HO294.out (fun _ hk => ⟨hk.2, hk.1.2⟩)), (by refine kr ?_; exact Kd.R_mono HO_3.out (fun _ hk => ⟨hk.1.2, hk.2⟩)), (bq HB.out)⟩)
     skip
     refine goes_ Try.func65 (by kernel_rfl) rfl #[.slice A291_0 ((rd_T116 l0 x4_1).f0).length c291_0] (by rfl) rfl rfl ga ?_
     with_reducible refine (spec_PutOid.calls k1 _ _ ((rd_T116 l0 x4_1).f0) t292 _ ?side1 ?side2 A6.out).mono ?_
     (case side1 => exact cq (Kd.C_below HR291_0.out HB.out))
     (case side2 => exact HC291_0.out)
     rintro e w11 ⟨v293, rfl, ho0, hb⟩
     refine ⟨_, rfl, ?_⟩
     have n_ := ak3 (Kd.R_elder' (kqR HO_3.out) (Kd.R_base ho0) hb) (Kd.R_lower (Kd.R_new' ho0 (Kd.R_lt (kqR HO_3.out))) (below_size (bq HB.out))) (below_step (bq HB.out) hb)
     clear HO_3 HB
     obtain ⟨HO_3, HO294, HB⟩ := n_
     (try clear hb ho0)
     refine hK.out _ _ ⟨((HB.out.cell (World.block_lt_of_cell? w _ hw291_0)).trans hw291_0), ((HB.out.cell (World.block_lt_of_cell? w _ hw291_1)).trans hw291_1), ((HB.out.cell (World.block_lt_of_cell? w _ hw291_2)).trans hw291_2), ((HB.out.cell (World.block_lt_of_cell? w _ hw291_3)).trans hw291_3), ((HB.out.cell (World.block_lt_of_cell? w _ hw291_4)).trans hw291_4), ((HB.out.cell (World.block_lt_of_cell? w _ hw298_0)).trans hw298_0), ((HB.out.cell (World.block_lt_of_cell? w _ hw298_1)).trans hw298_1), ((HB.out.cell (World.block_lt_of_cell? w _ hw298_2)).trans hw298_2), ((HB.out.cell (World.block_lt_of_cell? w _ hw298_3)).trans hw298_3), ((HB.out.cell (World.block_lt_of_cell? w _ hw298_4)).trans hw298_4)⟩ (fun hHeld => ?_)
     clear hK K
     refine norm_ (a' := ?_) ?_ ?_
     rotate_left
     · show Act.put _ (some 19) _ = _
       simp only [Act.put, List.setIfInBounds_toArray, List.set_cons_zero, List.set_cons_succ, i64_w, i32_w]
       rfl
     refine one_ (i := 0) (N := some 13) #[true, true, true, true, true, true, true, false, true, true, true, true, true, false, false] rfl rfl (one_of HT_.out (by kernel_rfl)) (by decide) (fun K hK => ?_)
     refine Kd.R_lit_step (Kd.int .u8) _ 5 ?hg (N := 13) ?hd (xs := ([] : List Int)) (inner := []) (ok := fun _ => True) (okp := fun _ => True) ?hr ?hp (fun _ hk => hk) trivial (Below.refl _ _) (Nat.le_refl _) (by simp) ?_; (case hd => rfl); (case hg => rfl); (case hr => exact gs); (case hp => exact (Reps.none _ _))
     intro v289 w12 ho13 hb hg_ hnew_
     clear hg_ hnew_
     (first | rw [← Ny288.out] at ho13 | (simp only [Int.reduceToNat] at ho13; rw [← Ny288.out] at ho13))
     have n_ := ak4 (Kd.R_elder' (kqR HO_3.out) (Kd.R_base ho13) hb) (Kd.R_elder' (kqR HO294.out) (Kd.R_base ho13) hb) (Kd.R_lower (Kd.R_new' (Kd.R_new' ho13 (Kd.R_lt (kqR HO_3.out))) (Kd.R_lt (kqR HO294.out))) (below_size (bq HB.out))) (below_step (bq HB.out) hb)
     clear HO_3 HO294 HB
     obtain ⟨HO_3, HO294, HO290, HB⟩ := n_
     clear hb ho13
     refine hK.out _ _ ⟨((HB.out.cell (World.block_lt_of_cell? w _ hw291_0)).trans hw291_0), ((HB.out.cell (World.block_lt_of_cell? w _ hw291_1)).trans hw291_1), ((HB.out.cell (World.block_lt_of_cell? w _ hw291_2)).trans hw291_2), ((HB.out.cell (World.block_lt_of_cell? w _ hw291_3)).trans hw291_3), ((HB.out.cell (World.block_lt_of_cell? w _ hw291_4)).trans hw291_4), ((HB.out.cell (World.block_lt_of_cell? w _ hw298_0)).trans hw298_0), ((HB.out.cell (World.block_lt_of_cell? w _ hw298_1)).trans hw298_1), ((HB.out.cell (World.block_lt_of_cell? w _ hw298_2)).trans hw298_2), ((HB.out.cell (World.block_lt_of_cell? w _ hw298_3)).trans hw298_3), ((HB.out.cell (World.block_lt_of_cell? w _ hw298_4)).trans hw298_4)⟩ (fun hHeld => ?_)
     clear hK K
     refine norm_ (a' := ?_) ?_ ?_
     rotate_left
     · show Act.put _ (some 13) _ = _
       simp only [Act.put, List.setIfInBounds_toArray, List.set_cons_zero, List.set_cons_succ, i64_w, i32_w]
       rfl
     exact norm_ (by simp only [putAll, Act.put, List.setIfInBounds_toArray, List.set_cons_zero, List.set_cons_succ]) (hCont (v289, v293) _ ⟨hHeld, (by refine kr ?_; exact Kd.R_mono HO290.out (fun _ hk => ⟨hk.2, hk.1.2⟩)), (by refine kr ?_; exact Kd.R_mono HO294.out (fun _ hk => ⟨hk.2, hk.1.2⟩)), (by refine kr ?_; exact Kd.R_mono HO_3.out (fun _ hk => ⟨hk.2, hk.1.2⟩)), (bq HB.out)⟩)
   rintro ⟨v289, v293⟩ w14 ⟨hS_, h0_, h1_, h2_, h3_⟩
   have n_ : Aside0 (Kd.R (Kd.int .u8) 5 w14 w.heap.size (fun k_ => some k_ ≠ (v293 : Value).ownBlock ∧ some k_ ≠ (u3 : Value).ownBlock) v289 y288) ∧ Aside0 (Kd.R (Kd.int .u8) 5 w14 w.heap.size (fun k_ => some k_ ≠ (v289 : Value).ownBlock ∧ some k_ ≠ (u3 : Value).ownBlock) v293 t292) ∧ Aside0 (Kd.R (Kd.int .u8) 5 w14 w.heap.size (fun k_ => some k_ ≠ (v289 : Value).ownBlock ∧ some k_ ≠ (v293 : Value).ownBlock) u3 x3_1) ∧ Aside0 (Below w.heap.size w w14) := ⟨⟨h0_⟩, ⟨h1_⟩, ⟨h2_⟩, ⟨h3_⟩⟩
   clear HO_3 HB h0_ h1_ h2_ h3_
   obtain ⟨HO290, HO294, HO_3, HB⟩ := n_
   have hHeld : w14.cell? (ad291.add ((x4_1).toNat * 5)) = some (.slice A291_0 ((rd_T116 l0 x4_1).f0).length c291_0) ∧ w14.cell? ⟨(ad291.add ((x4_1).toNat * 5)).block, (ad291.add ((x4_1).toNat * 5)).off + 1, none⟩ = some (.int .i64 ((rd_T116 l0 x4_1).f1.f0)) ∧ w14.cell? ⟨(ad291.add ((x4_1).toNat * 5)).block, (ad291.add ((x4_1).toNat * 5)).off + 2, none⟩ = some (.int .i64 ((rd_T116 l0 x4_1).f1.f1)) ∧ w14.cell? ⟨(ad291.add ((x4_1).toNat * 5)).block, (ad291.add ((x4_1).toNat * 5)).off + 3, none⟩ = some (.string ((rd_T116 l0 x4_1).f1.f2)) ∧ w14.cell? ⟨(ad291.add ((x4_1).toNat * 5)).block, (ad291.add ((x4_1).toNat * 5)).off + 4, none⟩ = some (.slice A291_4 ((rd_T116 l0 x4_1).f1.f3).length c291_4) ∧ w14.cell? (ad291.add ((x4_1).toNat * 5)) = some (.slice A291_0 ((rd_T116 l0 x4_1).f0).length c291_0) ∧ w14.cell? ⟨(ad291.add ((x4_1).toNat * 5)).block, (ad291.add ((x4_1).toNat * 5)).off + 1, none⟩ = some (.int .i64 ((rd_T116 l0 x4_1).f1.f0)) ∧ w14.cell? ⟨(ad291.add ((x4_1).toNat * 5)).block, (ad291.add ((x4_1).toNat * 5)).off + 2, none⟩ = some (.int .i64 ((rd_T116 l0 x4_1).f1.f1)) ∧ w14.cell? ⟨(ad291.add ((x4_1).toNat * 5)).block, (ad291.add ((x4_1).toNat * 5)).off + 3, none⟩ = some (.string ((rd_T116 l0 x4_1).f1.f2)) ∧ w14.cell? ⟨(ad291.add ((x4_1).toNat * 5)).block, (ad291.add ((x4_1).toNat * 5)).off + 4, none⟩ = some (.slice A291_4 ((rd_T116 l0 x4_1).f1.f3).length c291_4) := hS_
   obtain ⟨Ao15, co15, eo15⟩ := Kd.R_slice HO290.out
   (first | subst eo15 | (injection eo15 with f1_ f2_ f3_; have f4_ := f1_.symm; have f5_ := f3_.symm; clear f1_ f2_ f3_; subst f4_; subst f5_))
   obtain ⟨Ao16, co16, eo16⟩ := Kd.R_slice HO294.out
   (first | subst eo16 | (injection eo16 with f1_ f2_ f3_; have f4_ := f1_.symm; have f5_ := f3_.symm; clear f1_ f2_ f3_; subst f4_; subst f5_))
   refine norm_ (a' := ?_) ?_ ?_
   rotate_left
   · simp only [putAll, Act.put, List.setIfInBounds_toArray, List.set_cons_zero, List.set_cons_succ]
     rfl
   refine one_ (i := 7) (N := some 20) #[true, true, true, true, true, true, true, true, true, true, true, true, true, false, false] rfl rfl (one_of HT_.out (by kernel_rfl)) (by decide) (fun K hK => ?_)
   refine goes_ Try.func66 (by kernel_rfl) rfl #[.slice Ao15 y288.length co15, .int .i64 6, .slice Ao16 t292.length co16] (by rfl) rfl rfl ga ?_
   with_reducible refine (spec_PutTlv.calls k1 _ _ y288 6 _ _ t292 t295 _ ?side1 ?side2 ?side3 ?side4 A7.out).mono ?_
   (case side1 => repeat (first | exact (Kd.R_reads' HO290.out).2.2 | (with_reducible refine Kd.C_alloc ?_ _) | (with_reducible refine Kd.C_drewN ?_ _) | (with_reducible refine Kd.C_drew ?_)))
   (case side2 => exact (Kd.R_reads' HO290.out).2.1)
   (case side3 => repeat (first | exact (Kd.R_reads' HO294.out).2.2 | (with_reducible refine Kd.C_alloc ?_ _) | (with_reducible refine Kd.C_drewN ?_ _) | (with_reducible refine Kd.C_drew ?_)))
   (case side4 => exact (Kd.R_reads' HO294.out).2.1)
   rintro e w17 ⟨v296, rfl, ho0, hb⟩
   refine ⟨_, rfl, ?_⟩
   have n_ := ak5 (Kd.R_elder' (kqR HO_3.out) (Kd.R_base ho0) hb) (Kd.R_elder' (kqR HO290.out) (Kd.R_base ho0) hb) (Kd.R_elder' (kqR HO294.out) (Kd.R_base ho0) hb) (Kd.R_lower (Kd.R_new' (Kd.R_new' (Kd.R_new' ho0 (Kd.R_lt (kqR HO_3.out))) (Kd.R_lt (kqR HO290.out))) (Kd.R_lt (kqR HO294.out))) (below_size (bq HB.out))) (below_step (bq HB.out) hb)
   clear HO_3 HO290 HO294 HB
   obtain ⟨HO_3, HO290, HO294, HO297, HB⟩ := n_
   (try clear hb ho0)
   obtain ⟨Ao18, co18, eo18⟩ := Kd.R_slice HO297.out
   (first | subst eo18 | (injection eo18 with f1_ f2_ f3_; have f4_ := f1_.symm; have f5_ := f3_.symm; clear f1_ f2_ f3_; subst f4_; subst f5_))
   refine hK.out _ _ ⟨((HB.out.cell (World.block_lt_of_cell? w _ hw291_0)).trans hw291_0), ((HB.out.cell (World.block_lt_of_cell? w _ hw291_1)).trans hw291_1), ((HB.out.cell (World.block_lt_of_cell? w _ hw291_2)).trans hw291_2), ((HB.out.cell (World.block_lt_of_cell? w _ hw291_3)).trans hw291_3), ((HB.out.cell (World.block_lt_of_cell? w _ hw291_4)).trans hw291_4), ((HB.out.cell (World.block_lt_of_cell? w _ hw298_0)).trans hw298_0), ((HB.out.cell (World.block_lt_of_cell? w _ hw298_1)).trans hw298_1), ((HB.out.cell (World.block_lt_of_cell? w _ hw298_2)).trans hw298_2), ((HB.out.cell (World.block_lt_of_cell? w _ hw298_3)).trans hw298_3), ((HB.out.cell (World.block_lt_of_cell? w _ hw298_4)).trans hw298_4)⟩ (fun hHeld => ?_)
   clear hK K
   refine norm_ (a' := ?_) ?_ ?_
   rotate_left
   · show Act.put _ (some 20) _ = _
     simp only [Act.put, List.setIfInBounds_toArray, List.set_cons_zero, List.set_cons_succ, i64_w, i32_w]
     rfl
   refine one_ (i := 13) (N := some 26) #[true, true, true, true, true, true, true, true, true, true, true, true, true, true, false] rfl rfl (one_of HT_.out (by kernel_rfl)) (by decide) (fun K hK => ?_)
   refine goes_ Try.func14 (by kernel_rfl) rfl #[.slice Ao18 t295.length co18, .agg #[.int .i64 ((rd_T116 l0 x4_1).f1.f0), .int .i64 ((rd_T116 l0 x4_1).f1.f1), .string ((rd_T116 l0 x4_1).f1.f2), .slice A291_4 ((rd_T116 l0 x4_1).f1.f3).length c291_4]] (by rfl) rfl rfl ga ?_
   with_reducible refine (spec_PutVal.calls k1 _ _ t295 ((rd_T116 l0 x4_1).f1.f0) ((rd_T116 l0 x4_1).f1.f1) ((rd_T116 l0 x4_1).f1.f2) _ _ ((rd_T116 l0 x4_1).f1.f3) t299 _ ?side1 ?side2 ?side3 ?side4 A8.out).mono ?_
   (case side1 => repeat (first | exact (Kd.R_reads' HO297.out).2.2 | (with_reducible refine Kd.C_alloc ?_ _) | (with_reducible refine Kd.C_drewN ?_ _) | (with_reducible refine Kd.C_drew ?_)))
   (case side2 => exact (Kd.R_reads' HO297.out).2.1)
   (case side3 => exact cq (Kd.C_below HR298_4.out HB.out))
   (case side4 => exact HC298_4.out)
   rintro e w19 ⟨v300, rfl, ho0, hb⟩
   refine ⟨_, rfl, ?_⟩
   have n_ := ak6 (Kd.R_elder' (kqR HO_3.out) (Kd.R_base ho0) hb) (Kd.R_elder' (kqR HO290.out) (Kd.R_base ho0) hb) (Kd.R_elder' (kqR HO294.out) (Kd.R_base ho0) hb) (Kd.R_elder' (kqR HO297.out) (Kd.R_base ho0) hb) (Kd.R_lower (Kd.R_new' (Kd.R_new' (Kd.R_new' (Kd.R_new' ho0 (Kd.R_lt (kqR HO_3.out))) (Kd.R_lt (kqR HO290.out))) (Kd.R_lt (kqR HO294.out))) (Kd.R_lt (kqR HO297.out))) (below_size (bq HB.out))) (below_step (bq HB.out) hb)
   clear HO_3 HO290 HO294 HO297 HB
   obtain ⟨HO_3, HO290, HO294, HO297, HO301, HB⟩ := n_
   (try clear hb ho0)
   refine hK.out _ _ ⟨((HB.out.cell (World.block_lt_of_cell? w _ hw291_0)).trans hw291_0), ((HB.out.cell (World.block_lt_of_cell? w _ hw291_1)).trans hw291_1), ((HB.out.cell (World.block_lt_of_cell? w _ hw291_2)).trans hw291_2), ((HB.out.cell (World.block_lt_of_cell? w _ hw291_3)).trans hw291_3), ((HB.out.cell (World.block_lt_of_cell? w _ hw291_4)).trans hw291_4), ((HB.out.cell (World.block_lt_of_cell? w _ hw298_0)).trans hw298_0), ((HB.out.cell (World.block_lt_of_cell? w _ hw298_1)).trans hw298_1), ((HB.out.cell (World.block_lt_of_cell? w _ hw298_2)).trans hw298_2), ((HB.out.cell (World.block_lt_of_cell? w _ hw298_3)).trans hw298_3), ((HB.out.cell (World.block_lt_of_cell? w _ hw298_4)).trans hw298_4)⟩ (fun hHeld => ?_)
   clear hK K
   refine norm_ (a' := ?_) ?_ ?_
   rotate_left
   · show Act.put _ (some 26) _ = _
     simp only [Act.put, List.setIfInBounds_toArray, List.set_cons_zero, List.set_cons_succ, i64_w, i32_w]
     rfl
   refine pu 14 (some 5) #[true, true, true, true, true, true, true, true, true, true, true, true, true, true, true] rfl rfl (any_of HT_.out (by kernel_rfl)) (Or.inl ⟨by rfl, by intro w'; go_simp; with_reducible rfl⟩) ?_
   refine done_ (done_of HT_.out (by kernel_rfl)) ?_
   obtain ⟨Ao20, co20, eo20⟩ := Kd.R_slice HO_3.out
   subst eo20
   obtain ⟨Ao21, co21, eo21⟩ := Kd.R_slice HO301.out
   subst eo21
   try go_wp2_with (first | ((with_reducible refine gate_callee (f := 66) rfl ?_); refine goesL_ (some 29) rfl rfl Try.func66 (by kernel_rfl) rfl #[.slice Ao20 x3_1.length co20, .int .i64 48, .slice Ao21 t299.length co21] rfl ga ?_; (with_reducible refine (spec_PutTlv.calls k1 _ _ x3_1 48 _ _ t299 t302 _ ?side1 ?side2 ?side3 ?side4 A9.out).mono ?_); (case side1 => repeat (first | exact (Kd.R_reads' HO_3.out).2.2 | (with_reducible refine Kd.C_alloc ?_ _) | (with_reducible refine Kd.C_drewN ?_ _) | (with_reducible refine Kd.C_drew ?_))); (case side2 => exact (Kd.R_reads' HO_3.out).2.1); (case side3 => repeat (first | exact (Kd.R_reads' HO301.out).2.2 | (with_reducible refine Kd.C_alloc ?_ _) | (with_reducible refine Kd.C_drewN ?_ _) | (with_reducible refine Kd.C_drew ?_))); (case side4 => exact (Kd.R_reads' HO301.out).2.1); rintro e w22 ⟨v303, rfl, ho0, hb⟩; refine ⟨_, rfl, ?_⟩; have n_ := ak7 (Kd.R_elder' (kqR HO_3.out) (Kd.R_base ho0) hb) (Kd.R_elder' (kqR HO290.out) (Kd.R_base ho0) hb) (Kd.R_elder' (kqR HO294.out) (Kd.R_base ho0) hb) (Kd.R_elder' (kqR HO297.out) (Kd.R_base ho0) hb) (Kd.R_elder' (kqR HO301.out) (Kd.R_base ho0) hb) (Kd.R_lower (Kd.R_new' (Kd.R_new' (Kd.R_new' (Kd.R_new' (Kd.R_new' ho0 (Kd.R_lt (kqR HO_3.out))) (Kd.R_lt (kqR HO290.out))) (Kd.R_lt (kqR HO294.out))) (Kd.R_lt (kqR HO297.out))) (Kd.R_lt (kqR HO301.out))) (below_size (bq HB.out))) (below_step (bq HB.out) hb); clear HO_3 HO290 HO294 HO297 HO301 HB; obtain ⟨HO_3, HO290, HO294, HO297, HO301, HO304, HB⟩ := n_; (try clear hb ho0)))
   go_roundg k1
   case measure => have := HK1.out; omega
   case rel => exact ⟨(t302), (wrap64 (x4_1 + 1)), sq, H', ⟨by have := HK1.out; omega⟩, ⟨by refine kr ?_; exact Kd.R_mono HO304.out (fun _ hk => trivial)⟩, ⟨bq HB.out⟩⟩

end Go.Proofs.Ythhnfmbfgplelaa.XFnExactPutMsg
