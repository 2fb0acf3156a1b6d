/- The functions that one law reaches, as Lean functions, with their walks: printed by a program of this seat (wip/tools) out of the translation. -/
import Derived.Test.YtgjhmbneikpiaaaDoorXFnOidsx0
import Derived.Test.YtgjhmbneikpiaaaDoorXFnOidsx1
import Derived.Test.YtgjhmbneikpiaaaDoorXFnOidsx2
namespace Go.Proofs.YtgjhmbneikpiaaaDoor.XFnOids
open Go.RowKit Go.Proofs.YtgjhmbneikpiaaaDoorW.PrintWords Go.Proofs.YtgjhmbneikpiaaaDoorW.PrintLast Go.Proofs.YtgjhmbneikpiaaaDoorW.PrintMore
attribute [local go_sem] max2_int min2_int max_two min_two max_three min_three max_four min_four   -- for this text's walks alone
set_option linter.unusedVariables false
set_option linter.unusedSimpArgs false

/-! ### spec_l2Draw: function 32 -/
def spec_l2Draw.l0 : Nat → List Int → Int → List Int → Int → Int → Option (List Int × Int × Int)
 | 0, _, _, _, _, _ => none
 | k + 1, x3, x4, x1000, x1001, x1002 => if x4 > 0 then ((spec_l1Int.f x1000 x1001 x1002 (([0, 1, 2, 3, 127, 128, 16384, 100000] : List Int))).bind fun bt180 => (if x3.length < 17592186044416 then (spec_l2Draw.l0 k (x3 ++ [bt180.1]) (wrap64 (x4 - 1)) x1000 bt180.2.1 bt180.2.2) else (none))) else (some (x3, x1001, x1002))
def spec_l2Draw.f (k : Nat) (s0_0 : List Int) (s0_1 : Int) (s0_2 : Int) : Option (List Int × Int × Int) := (spec_l1Below.f s0_0 s0_1 s0_2 6).bind fun bt174 => (spec_l2Draw.l0 k (([] : List Int)) (wrap64 (1 + bt174.1)) s0_0 bt174.2.1 bt174.2.2)
theorem spec_l2Draw.mono_l : ∀ k, (∀ y0 y1 y2 y3 y4, LeO (spec_l2Draw.l0 k y0 y1 y2 y3 y4) (spec_l2Draw.l0 (k + 1) y0 y1 y2 y3 y4))
 | 0 => fun _ _ _ _ _ r h => by simp [spec_l2Draw.l0] at h
 | k + 1 => by
  have ih0 := spec_l2Draw.mono_l k
  intro y0 y1 y2 y3 y4
  unfold spec_l2Draw.l0
  repeat' first
  | (with_reducible exact ih0 _ _ _ _ _)
  | (with_reducible exact LeO.refl _)
  | (with_reducible exact LeO.none _)
  | (with_reducible refine LeO.ite ?_ ?_)
  | (with_reducible refine LeO.bind ?_ (fun _ => ?_))
  | exact ih0 _ _ _ _ _
  | exact LeO.none _
  | refine LeO.ite ?_ ?_
  | refine LeO.bind ?_ (fun _ => ?_)
theorem spec_l2Draw.mono : ∀ a0 a1 a2 k, LeO (spec_l2Draw.f k a0 a1 a2) (spec_l2Draw.f (k + 1) a0 a1 a2) := by
 intro a0 a1 a2 k
 have ih0 := spec_l2Draw.mono_l k
 unfold spec_l2Draw.f
 repeat' first
  | (with_reducible exact ih0 _ _ _ _ _)
  | (with_reducible exact LeO.refl _)
  | (with_reducible exact LeO.none _)
  | (with_reducible refine LeO.ite ?_ ?_)
  | (with_reducible refine LeO.bind ?_ (fun _ => ?_))
  | exact ih0 _ _ _ _ _
  | exact LeO.none _
  | refine LeO.ite ?_ ?_
  | refine LeO.bind ?_ (fun _ => ?_)
set_option maxHeartbeats 8000000 in
set_option maxRecDepth 100000 in
theorem spec_l2Draw.calls (k : Nat) (g : Nat) (s0_0 : List Int) (s0_1 : Int) (s0_2 : Int) (r1 : List Int) (r2 : Int) (r3 : Int) (w0 w : World) (hI : IsS60 w0 w g s0_0 s0_1 s0_2) (hB : Below w0.heap.size w0 w) (h : spec_l2Draw.f k s0_0 s0_1 s0_2 = some (r1, r2, r3)) :
 Calls Tryd.prog 32 #[.pointer (some ⟨g, 0, none⟩)] w fun e w' => ∃ v0_ : Value, e = .returned (v0_) ∧ Kd.R (Kd.int .i64) 3 w' w.heap.size (fun _ => True) v0_ r1 ∧ IsS60 w0 w' g s0_0 r2 r3 ∧ Below w0.heap.size w0 w' ∧ KeepBut w w' g none := by
 have HI0 := am hI
 have HK := am (KeepBut.refl w g none)
 have HL := am hB.size
 clear hI
 have HW0 := am hB.size
 have HB := am hB
 clear hB
 have H : ((spec_l1Below.f s0_0 s0_1 s0_2 6).bind fun bt174 => (spec_l2Draw.l0 k (([] : List Int)) (wrap64 (1 + bt174.1)) s0_0 bt174.2.1 bt174.2.2)) = some (r1, r2, r3) := h
 clear h
 obtain ⟨y171, hy171⟩ : ∃ y_ : List Int, y_ = (([] : List Int)) := ⟨_, rfl⟩
 replace H : ((spec_l1Below.f s0_0 s0_1 s0_2 6).bind fun bt174 => (spec_l2Draw.l0 k y171 (wrap64 (1 + bt174.1)) s0_0 bt174.2.1 bt174.2.2)) = some (r1, r2, r3) := hx H hy171
 have Ny171 := am hy171
 clear hy171
 replace H := Option.bind_eq_some_iff.mp H
 obtain ⟨⟨t174, t175, t176⟩, A20, H⟩ := H
 replace H : (spec_l2Draw.l0 k y171 (wrap64 (1 + t174)) s0_0 t175 t176) = some (r1, r2, r3) := H
 have A2 := am A20
 clear A20
 have H' := am H
 clear H
 go_enter Tryd.func32, Tryd.ntmps32
 go_wp2_with (first | ((with_reducible refine gate_dst (N := 5) rfl ?_); refine Kd.R_lit (Kd.int .i64) _ 3 ?hg (N := 5) ?hd (xs := ([] : List Int)) (inner := []) (ok := fun _ => True) (okp := fun _ => True) ?hr ?hp (fun _ hk => hk) trivial (Below.refl _ _) (Nat.le_refl _) (by simp) ?_; (case hd => rfl); (case hg => rfl); (case hr => exact gs); (case hp => exact (Reps.none _ _)); intro v172 w3 ho4 hb hg_ hnew_; clear hg_ hnew_; (first | rw [← Ny171.out] at ho4 | (simp only [Int.reduceToNat] at ho4; rw [← Ny171.out] at ho4)); have n_ := ak4 (Kd.R_lower ho4 (keep_size (w := w) (g := g) (row := none) (kp0 HK.out))) (IsS60.below (IsS60.q0 HI0.out) hb) (KeepBut.trans (kp0 HK.out) (KeepBut.of_below hb g none) (.inl rfl)) (below_step (bq1 HB.out (IsS60.ge HI0.out)) hb); clear HI0 HK HB; obtain ⟨HO173, HI0, HK, HB⟩ := n_; clear hb ho4) | ((with_reducible refine gate_callee (f := 34) rfl ?_); refine goesL_ (some 7) rfl rfl Tryd.func34 (by kernel_rfl) rfl #[.pointer (some ⟨g, 0, none⟩), .int .i64 6] rfl ga ?_; (with_reducible refine (spec_l1Below.calls g s0_0 s0_1 s0_2 6 t174 t175 t176 w0 _ ?side1 ?side2 A2.out).mono ?_); (case side1 => exact IsS60.q0 HI0.out); (case side2 => exact bq1 HB.out (IsS60.ge HI0.out)); rintro e w5 ⟨rfl, hi, hb, hk⟩; refine ⟨_, rfl, ?_⟩; have n_ := ak4 (Kd.R_mono (Kd.R_keep (IsS60.apart (show IsS60 w0 _ g s0_0 s0_1 s0_2 from IsS60.q0 HI0.out) (kqR HO173.out) (by decide)) hk (fun _ h => h.2)) (fun _ h => h.1)) (KeepBut.trans (kp0 HK.out) hk (.inl rfl)) hb hi; clear HO173 HK HB HI0; obtain ⟨HO173, HK, HB, HI0⟩ := n_; (try clear hb hk hi)))
 go_loopg [3, 4] k (fun kq v3 v4 w' => ∃ (x3_1 : List Int) (x4_1 : Int) (x1001_1 : Int) (x1002_1 : Int), v4 = .int .i64 x4_1 ∧ Aside0 (spec_l2Draw.l0 kq x3_1 x4_1 s0_0 x1001_1 x1002_1 = some (r1, r2, r3)) ∧ Aside0 (kq ≤ k) ∧ Aside0 (Kd.R (Kd.int .i64) 3 w' w.heap.size (fun _ => True) v3 x3_1) ∧ Aside0 (IsS60 w0 w' g s0_0 x1001_1 x1002_1) ∧ Aside0 (KeepBut w w' g none) ∧ Aside0 (Below w0.heap.size w0 w'))
 case atStart => exact ⟨(y171), (wrap64 (1 + t174)), (t175), (t176), sq, H', ⟨Nat.le_refl _⟩, ⟨kqR HO173.out⟩, ⟨IsS60.q0 HI0.out⟩, ⟨kp0 HK.out⟩, ⟨bq1 HB.out (IsS60.ge HI0.out)⟩⟩
 case round =>
  clear H'
  try clear p2
  try clear c3
  obtain ⟨x3_1, x4_1, x1001_1, x1002_1, rfl, HA, HK1, HO_3, HI0, HK, HB⟩ := hrel
  cases gk with
  | zero => exact absurd HA.out (by simp [spec_l2Draw.l0])
  | succ k1 =>
   have H := HA.out
   clear HA
   simp only [spec_l2Draw.l0] at H
   by_cases c6 : x4_1 > 0
   rotate_left
   · rw [if_neg c6] at H
     have c6b0 : decide (0 < x4_1) = false := decide_eq_false c6
     clear c6
     simp only [Option.some.injEq, Prod.mk.injEq] at H
     obtain ⟨rfl, rfl, rfl⟩ := H
     go_wp2
     go_ret
     exact ⟨_, rq, kqR HO_3.out, IsS60.q0 HI0.out, bq1 HB.out (IsS60.ge HI0.out), kp0 HK.out⟩
   rw [if_pos c6] at H
   have c6b0 : decide (0 < x4_1) = true := decide_eq_true c6
   clear c6
   obtain ⟨y177, hy177⟩ : ∃ y_ : List Int, y_ = (([0, 1, 2, 3, 127, 128, 16384, 100000] : List Int)) := ⟨_, rfl⟩
   replace H : ((spec_l1Int.f s0_0 x1001_1 x1002_1 y177).bind fun bt180 => (if x3_1.length < 17592186044416 then (spec_l2Draw.l0 k1 (x3_1 ++ [bt180.1]) (wrap64 (x4_1 - 1)) s0_0 bt180.2.1 bt180.2.2) else (none))) = some (r1, r2, r3) := hx H hy177
   have Ny177 := am hy177
   clear hy177
   replace H := Option.bind_eq_some_iff.mp H
   obtain ⟨⟨t180, t181, t182⟩, A70, H⟩ := H
   replace H : (if x3_1.length < 17592186044416 then (spec_l2Draw.l0 k1 (x3_1 ++ [t180]) (wrap64 (x4_1 - 1)) s0_0 t181 t182) else (none)) = some (r1, r2, r3) := H
   have A7 := am A70
   clear A70
   by_cases c8 : x3_1.length < 17592186044416
   rotate_left
   · rw [if_neg c8] at H
     exact absurd H (by simp)
   rw [if_pos c8] at H
   have LMc8 := am c8
   clear c8
   obtain ⟨y183, hy183⟩ : ∃ y_ : List Int, y_ = (x3_1 ++ [t180]) := ⟨_, rfl⟩
   replace H : (spec_l2Draw.l0 k1 y183 (wrap64 (x4_1 - 1)) s0_0 t181 t182) = some (r1, r2, r3) := hx H hy183
   have Ny183 := am hy183
   clear hy183
   have H' := am H
   clear H
   go_wp2_with (first | ((with_reducible refine gate_dst (N := 15) rfl ?_); refine Kd.R_lit (Kd.int .i64) _ 3 ?hg (N := 15) ?hd (xs := ([0, 1, 2, 3, 127, 128, 16384, 100000] : List Int)) (inner := [.int .i64 0, .int .i64 1, .int .i64 2, .int .i64 3, .int .i64 127, .int .i64 128, .int .i64 16384, .int .i64 100000]) (ok := fun _ => True) (okp := fun _ => True) ?hr ?hp (fun _ hk => hk) trivial (Below.refl _ _) (Nat.le_refl _) (by simp) ?_; (case hd => rfl); (case hg => rfl); (case hr => exact gs); (case hp => exact (Reps.one (ri 0) (Reps.one (ri 1) (Reps.one (ri 2) (Reps.one (ri 3) (Reps.one (ri 127) (Reps.one (ri 128) (Reps.one (ri 16384) (Reps.one (ri 100000) (Reps.none _ _)))))))))); intro v178 w9 ho10 hb hg_ hnew_; clear hg_ hnew_; (first | rw [← Ny177.out] at ho10 | (simp only [Int.reduceToNat] at ho10; rw [← Ny177.out] at ho10)); have n_ := ak5 (Kd.R_elder' (kqR HO_3.out) (Kd.R_base ho10) hb) (Kd.R_lower (Kd.R_new' ho10 (Kd.R_lt (kqR HO_3.out))) (keep_size (w := w) (g := g) (row := none) (kp0 HK.out))) (IsS60.below (IsS60.q0 HI0.out) hb) (KeepBut.trans (kp0 HK.out) (KeepBut.of_below hb g none) (.inl rfl)) (below_step (bq1 HB.out (IsS60.ge HI0.out)) hb); clear HO_3 HI0 HK HB; obtain ⟨HO_3, HO179, HI0, HK, HB⟩ := n_; clear hb ho10; obtain ⟨Ao11, co11, eo11⟩ := Kd.R_slice HO179.out; subst eo11) | ((with_reducible refine gate_callee (f := 42) rfl ?_); refine goesL_ (some 16) rfl rfl Tryd.func42 (by kernel_rfl) rfl #[.pointer (some ⟨g, 0, none⟩), .slice Ao11 y177.length co11] rfl ga ?_; (with_reducible refine (spec_l1Int.calls g s0_0 x1001_1 x1002_1 _ _ y177 t180 t181 t182 w0 _ ?side1 ?side2 ?side3 ?side4 ?side5 A7.out).mono ?_); (case side1 => exact IsS60.q0 HI0.out); (case side2 => exact bq1 HB.out (IsS60.ge HI0.out)); (case side3 => repeat (first | exact (Kd.R_reads' HO179.out).2.2 | (with_reducible refine Kd.C_alloc ?_ _) | (with_reducible refine Kd.C_drewN ?_ _) | (with_reducible refine Kd.C_drew ?_))); (case side4 => exact (Kd.R_reads' HO179.out).2.1); (case side5 => exact far_slice (IsS60.own_ne HI0.out HO179.out (by decide))); rintro e w12 ⟨rfl, hi, hb, hk⟩; refine ⟨_, rfl, ?_⟩; have n_ := ak5 (Kd.R_mono (Kd.R_keep (IsS60.apart (show IsS60 w0 _ g s0_0 x1001_1 x1002_1 from IsS60.q0 HI0.out) (kqR HO_3.out) (by decide)) hk (fun _ h => h.2)) (fun _ h => h.1)) (Kd.R_mono (Kd.R_keep (IsS60.apart (show IsS60 w0 _ g s0_0 x1001_1 x1002_1 from IsS60.q0 HI0.out) (kqR HO179.out) (by decide)) hk (fun _ h => h.2)) (fun _ h => h.1)) (KeepBut.trans (kp0 HK.out) hk (.inl rfl)) hb hi; clear HO_3 HO179 HK HB HI0; obtain ⟨HO_3, HO179, HK, HB, HI0⟩ := n_; (try clear hb hk hi)) | ((with_reducible refine gate_builtin (b := .append) (xs := #[.tmp 13, .tmp 17]) rfl ?_); at_builtin; refine Kd.R_append (Kd.int .i64) w.heap.size rfl (.tmp 13) (.tmp 17) 22 3 (.int .i64 0) 8 rfl Tryd.underlying22 info3 rfl (by decide) (by omega) u3 x3_1 t180 [.int .i64 t180] (fun k_ => some k_ ≠ (.slice Ao11 y177.length co11 : Value).ownBlock) (fun _ => False) rfl rfl ?aP (fun _ hk => hk.elim) ?aF ?aO (Below.refl _ _) ?aS ?aL ?_; (case aP => exact rfl); (case aF => exact (fun k_ hk => Kd.fresh' (Kd.R_lt (kqR HO179.out)) k_ hk)); (case aO => exact (by refine kr ?_; exact Kd.R_mono HO_3.out (fun _ hk => hk.2))); (case aS => exact (keep_size (w := w) (g := g) (row := none) (kp0 HK.out))); (case aL => have := LMc8.out; omega); intro v184 w13 ho hb hg hat; rw [← Ny183.out] at ho; have n_ := ak5 (IsS60.grown (IsS60.q0 HI0.out) hg (IsS60.own_ne HI0.out HO_3.out (by decide))) (Kd.R_after (ok := (fun _ => True)) (kqR HO179.out) hg hat) (below_weaken (bq1 HB.out (IsS60.ge HI0.out)) HL.out hb) (KeepBut.trans (kp0 HK.out) (KeepBut.of_grown hg g) (Kd.R_base2 HO_3.out)) ho; clear HI0 HO179 HB HK HO_3; obtain ⟨HI0, HO179, HB, HK, HO185⟩ := n_; clear ho hb hg hat))
   go_roundg k1
   case measure => have := HK1.out; omega
   case rel => exact ⟨(y183), (wrap64 (x4_1 - 1)), (t181), (t182), sq, H', ⟨by have := HK1.out; omega⟩, ⟨by refine kr ?_; exact Kd.R_mono HO185.out (fun _ hk => trivial)⟩, ⟨IsS60.q0 HI0.out⟩, ⟨kp0 HK.out⟩, ⟨bq1 HB.out (IsS60.ge HI0.out)⟩⟩

/-! ### spec_l2Any: function 27 -/
def spec_l2Any.l0 : Nat → List Int → List Int → Int → Int → Option (List Int × Int × Int)
 | 0, _, _, _, _ => none
 | k + 1, x3, x1000, x1001, x1002 => (spec_l1Below.f x1000 x1001 x1002 2).bind fun bt204 => (if (x3.length : Int) < (wrap64 (10 + bt204.1)) then (if x3.length < 17592186044416 then (spec_l2Any.l0 k (x3 ++ [1]) x1000 bt204.2.1 bt204.2.2) else (none)) else (some (x3, bt204.2.1, bt204.2.2)))
def spec_l2Any.f (k : Nat) (s0_0 : List Int) (s0_1 : Int) (s0_2 : Int) : Option (List Int × Int × Int) := (spec_l2Draw.f k s0_0 s0_1 s0_2).bind fun bt186 => ((spec_l1Below.f s0_0 bt186.2.1 bt186.2.2 10).bind fun bt191 => (if bt191.1 = 0 then (some ((([] : List Int)), bt191.2.1, bt191.2.2)) else (if bt191.1 = 1 then ((spec_l1Int.f s0_0 bt191.2.1 bt191.2.2 (([(-1), 100001] : List Int))).bind fun bt200 => (if 0 < (bt186.1.length : Int) then (some ((bt186.1.set (0 : Int).toNat bt200.1), bt200.2.1, bt200.2.2)) else (none))) else (if bt191.1 = 2 then (spec_l2Any.l0 k bt186.1 s0_0 bt191.2.1 bt191.2.2) else (some (bt186.1, bt191.2.1, bt191.2.2))))))
theorem spec_l2Any.mono_l : ∀ k, (∀ y0 y1 y2 y3, LeO (spec_l2Any.l0 k y0 y1 y2 y3) (spec_l2Any.l0 (k + 1) y0 y1 y2 y3))
 | 0 => fun _ _ _ _ r h => by simp [spec_l2Any.l0] at h
 | k + 1 => by
  have ih0 := spec_l2Any.mono_l k
  intro y0 y1 y2 y3
  unfold spec_l2Any.l0
  repeat' first
  | (with_reducible exact ih0 _ _ _ _)
  | (with_reducible exact spec_l2Draw.mono _ _ _ _)
  | (with_reducible exact LeO.refl _)
  | (with_reducible exact LeO.none _)
  | (with_reducible refine LeO.ite ?_ ?_)
  | (with_reducible refine LeO.bind ?_ (fun _ => ?_))
  | exact ih0 _ _ _ _
  | exact spec_l2Draw.mono _ _ _ _
  | exact LeO.none _
  | refine LeO.ite ?_ ?_
  | refine LeO.bind ?_ (fun _ => ?_)
theorem spec_l2Any.mono : ∀ a0 a1 a2 k, LeO (spec_l2Any.f k a0 a1 a2) (spec_l2Any.f (k + 1) a0 a1 a2) := by
 intro a0 a1 a2 k
 have ih0 := spec_l2Any.mono_l k
 unfold spec_l2Any.f
 repeat' first
  | (with_reducible exact ih0 _ _ _ _)
  | (with_reducible exact spec_l2Draw.mono _ _ _ _)
  | (with_reducible exact LeO.refl _)
  | (with_reducible exact LeO.none _)
  | (with_reducible refine LeO.ite ?_ ?_)
  | (with_reducible refine LeO.bind ?_ (fun _ => ?_))
  | exact ih0 _ _ _ _
  | exact spec_l2Draw.mono _ _ _ _
  | exact LeO.none _
  | refine LeO.ite ?_ ?_
  | refine LeO.bind ?_ (fun _ => ?_)
set_option maxHeartbeats 8000000 in
set_option maxRecDepth 100000 in
theorem spec_l2Any.calls (k : Nat) (g : Nat) (s0_0 : List Int) (s0_1 : Int) (s0_2 : Int) (r1 : List Int) (r2 : Int) (r3 : Int) (w0 w : World) (hI : IsS60 w0 w g s0_0 s0_1 s0_2) (hB : Below w0.heap.size w0 w) (h : spec_l2Any.f k s0_0 s0_1 s0_2 = some (r1, r2, r3)) :
 Calls Tryd.prog 27 #[.pointer (some ⟨g, 0, none⟩)] w fun e w' => ∃ v0_ : Value, e = .returned (v0_) ∧ Kd.R (Kd.int .i64) 3 w' w.heap.size (fun _ => True) v0_ r1 ∧ IsS60 w0 w' g s0_0 r2 r3 ∧ Below w0.heap.size w0 w' ∧ KeepBut w w' g none := by
 have HI0 := am hI
 have HK := am (KeepBut.refl w g none)
 have HL := am hB.size
 clear hI
 have HW0 := am hB.size
 have HB := am hB
 clear hB
 have H : ((spec_l2Draw.f k s0_0 s0_1 s0_2).bind fun bt186 => ((spec_l1Below.f s0_0 bt186.2.1 bt186.2.2 10).bind fun bt191 => (if bt191.1 = 0 then (some ((([] : List Int)), bt191.2.1, bt191.2.2)) else (if bt191.1 = 1 then ((spec_l1Int.f s0_0 bt191.2.1 bt191.2.2 (([(-1), 100001] : List Int))).bind fun bt200 => (if 0 < (bt186.1.length : Int) then (some ((bt186.1.set (0 : Int).toNat bt200.1), bt200.2.1, bt200.2.2)) else (none))) else (if bt191.1 = 2 then (spec_l2Any.l0 k bt186.1 s0_0 bt191.2.1 bt191.2.2) else (some (bt186.1, bt191.2.1, bt191.2.2))))))) = some (r1, r2, r3) := h
 clear h
 replace H := Option.bind_eq_some_iff.mp H
 obtain ⟨⟨t186, t189, t190⟩, A20, H⟩ := H
 replace H : ((spec_l1Below.f s0_0 t189 t190 10).bind fun bt191 => (if bt191.1 = 0 then (some ((([] : List Int)), bt191.2.1, bt191.2.2)) else (if bt191.1 = 1 then ((spec_l1Int.f s0_0 bt191.2.1 bt191.2.2 (([(-1), 100001] : List Int))).bind fun bt200 => (if 0 < (t186.length : Int) then (some ((t186.set (0 : Int).toNat bt200.1), bt200.2.1, bt200.2.2)) else (none))) else (if bt191.1 = 2 then (spec_l2Any.l0 k t186 s0_0 bt191.2.1 bt191.2.2) else (some (t186, bt191.2.1, bt191.2.2)))))) = some (r1, r2, r3) := H
 have A2 := am A20
 clear A20
 replace H := Option.bind_eq_some_iff.mp H
 obtain ⟨⟨t191, t192, t193⟩, A30, H⟩ := H
 replace H : (if t191 = 0 then (some ((([] : List Int)), t192, t193)) else (if t191 = 1 then ((spec_l1Int.f s0_0 t192 t193 (([(-1), 100001] : List Int))).bind fun bt200 => (if 0 < (t186.length : Int) then (some ((t186.set (0 : Int).toNat bt200.1), bt200.2.1, bt200.2.2)) else (none))) else (if t191 = 2 then (spec_l2Any.l0 k t186 s0_0 t192 t193) else (some (t186, t192, t193))))) = some (r1, r2, r3) := H
 have A3 := am A30
 clear A30
 by_cases c4 : t191 = 0
 · rw [if_pos c4] at H
   have c4b0 : (t191 == 0) = true := beq_iff_eq.mpr c4
   have c4b1 : (t191 != 0) = false := bne_eq_false_iff_eq.mpr c4
   clear c4
   obtain ⟨y194, hy194⟩ : ∃ y_ : List Int, y_ = (([] : List Int)) := ⟨_, rfl⟩
   replace H : (some (y194, t192, t193)) = some (r1, r2, r3) := hx H hy194
   have Ny194 := am hy194
   clear hy194
   simp only [Option.some.injEq, Prod.mk.injEq] at H
   obtain ⟨rfl, rfl, rfl⟩ := H
   go_enter Tryd.func27, Tryd.ntmps27
   go_wp2_with (first | ((with_reducible refine gate_callee (f := 32) rfl ?_); refine goesL_ (some 5) rfl rfl Tryd.func32 (by kernel_rfl) rfl #[.pointer (some ⟨g, 0, none⟩)] rfl ga ?_; (with_reducible refine (spec_l2Draw.calls k g s0_0 s0_1 s0_2 t186 t189 t190 w0 _ ?side1 ?side2 A2.out).mono ?_); (case side1 => exact IsS60.q0 HI0.out); (case side2 => exact bq1 HB.out (IsS60.ge HI0.out)); rintro e w5 ⟨v187, rfl, ho0, hi, hb, hk⟩; refine ⟨_, rfl, ?_⟩; have n_ := ak4 (Kd.R_lower ho0 (keep_size (w := w) (g := g) (row := none) (kp0 HK.out))) (KeepBut.trans (kp0 HK.out) hk (.inl rfl)) hb hi; clear HK HB HI0; obtain ⟨HO188, HK, HB, HI0⟩ := n_; (try clear hb hk hi ho0)) | ((with_reducible refine gate_callee (f := 34) rfl ?_); refine goesL_ (some 7) rfl rfl Tryd.func34 (by kernel_rfl) rfl #[.pointer (some ⟨g, 0, none⟩), .int .i64 10] rfl ga ?_; (with_reducible refine (spec_l1Below.calls g s0_0 t189 t190 10 t191 t192 t193 w0 _ ?side1 ?side2 A3.out).mono ?_); (case side1 => exact IsS60.q0 HI0.out); (case side2 => exact bq1 HB.out (IsS60.ge HI0.out)); rintro e w6 ⟨rfl, hi, hb, hk⟩; refine ⟨_, rfl, ?_⟩; have n_ := ak4 (Kd.R_mono (Kd.R_keep (IsS60.apart (show IsS60 w0 _ g s0_0 t189 t190 from IsS60.q0 HI0.out) (kqR HO188.out) (by decide)) hk (fun _ h => h.2)) (fun _ h => h.1)) (KeepBut.trans (kp0 HK.out) hk (.inl rfl)) hb hi; clear HO188 HK HB HI0; obtain ⟨HO188, HK, HB, HI0⟩ := n_; (try clear hb hk hi)) | ((with_reducible refine gate_dst (N := 10) rfl ?_); refine Kd.R_lit (Kd.int .i64) _ 3 ?hg (N := 10) ?hd (xs := ([] : List Int)) (inner := []) (ok := fun _ => True) (okp := fun _ => True) ?hr ?hp (fun _ hk => hk) trivial (Below.refl _ _) (Nat.le_refl _) (by simp) ?_; (case hd => rfl); (case hg => rfl); (case hr => exact gs); (case hp => exact (Reps.none _ _)); intro v195 w7 ho8 hb hg_ hnew_; clear hg_ hnew_; (first | rw [← Ny194.out] at ho8 | (simp only [Int.reduceToNat] at ho8; rw [← Ny194.out] at ho8)); have n_ := ak5 (Kd.R_elder' (kqR HO188.out) (Kd.R_base ho8) hb) (Kd.R_lower (Kd.R_new' ho8 (Kd.R_lt (kqR HO188.out))) (keep_size (w := w) (g := g) (row := none) (kp0 HK.out))) (IsS60.below (IsS60.q0 HI0.out) hb) (KeepBut.trans (kp0 HK.out) (KeepBut.of_below hb g none) (.inl rfl)) (below_step (bq1 HB.out (IsS60.ge HI0.out)) hb); clear HO188 HI0 HK HB; obtain ⟨HO188, HO196, HI0, HK, HB⟩ := n_; clear hb ho8))
   go_ret
   exact ⟨_, rq, by refine kr ?_; exact Kd.R_mono HO196.out (fun _ hk => trivial), IsS60.q0 HI0.out, bq1 HB.out (IsS60.ge HI0.out), kp0 HK.out⟩
 rw [if_neg c4] at H
 have c4b0 : (t191 == 0) = false := beq_eq_false_iff_ne.mpr c4
 have c4b1 : (t191 != 0) = true := bne_iff_ne.mpr c4
 by_cases c9 : t191 = 1
 · rw [if_pos c9] at H
   have c9b0 : (t191 == 1) = true := beq_iff_eq.mpr c9
   have c9b1 : (t191 != 1) = false := bne_eq_false_iff_eq.mpr c9
   clear c9
   obtain ⟨y197, hy197⟩ : ∃ y_ : List Int, y_ = (([(-1), 100001] : List Int)) := ⟨_, rfl⟩
   replace H : ((spec_l1Int.f s0_0 t192 t193 y197).bind fun bt200 => (if 0 < (t186.length : Int) then (some ((t186.set (0 : Int).toNat bt200.1), bt200.2.1, bt200.2.2)) else (none))) = some (r1, r2, r3) := hx H hy197
   have Ny197 := am hy197
   clear hy197
   replace H := Option.bind_eq_some_iff.mp H
   obtain ⟨⟨t200, t201, t202⟩, A100, H⟩ := H
   replace H : (if 0 < (t186.length : Int) then (some ((t186.set (0 : Int).toNat t200), t201, t202)) else (none)) = some (r1, r2, r3) := H
   have A10 := am A100
   clear A100
   by_cases c11 : 0 < (t186.length : Int)
   rotate_left
   · rw [if_neg c11] at H
     exact absurd H (by simp)
   rw [if_pos c11] at H
   have c11b0 : decide (0 < (t186.length : Int)) = true := decide_eq_true c11
   have c11b1 : decide (0 < t186.length) = true := decide_eq_true (by omega)
   clear c11
   obtain ⟨y203, hy203⟩ : ∃ y_ : List Int, y_ = (t186.set (0 : Int).toNat t200) := ⟨_, rfl⟩
   replace H : (some (y203, t201, t202)) = some (r1, r2, r3) := hx H hy203
   have Ny203 := am hy203
   clear hy203
   simp only [Option.some.injEq, Prod.mk.injEq] at H
   obtain ⟨rfl, rfl, rfl⟩ := H
   go_enter Tryd.func27, Tryd.ntmps27
   go_wp2_with (first | ((with_reducible refine gate_callee (f := 32) rfl ?_); refine goesL_ (some 5) rfl rfl Tryd.func32 (by kernel_rfl) rfl #[.pointer (some ⟨g, 0, none⟩)] rfl ga ?_; (with_reducible refine (spec_l2Draw.calls k g s0_0 s0_1 s0_2 t186 t189 t190 w0 _ ?side1 ?side2 A2.out).mono ?_); (case side1 => exact IsS60.q0 HI0.out); (case side2 => exact bq1 HB.out (IsS60.ge HI0.out)); rintro e w13 ⟨v187, rfl, ho0, hi, hb, hk⟩; refine ⟨_, rfl, ?_⟩; have n_ := ak4 (Kd.R_lower ho0 (keep_size (w := w) (g := g) (row := none) (kp0 HK.out))) (KeepBut.trans (kp0 HK.out) hk (.inl rfl)) hb hi; clear HK HB HI0; obtain ⟨HO188, HK, HB, HI0⟩ := n_; (try clear hb hk hi ho0)) | ((with_reducible refine gate_callee (f := 34) rfl ?_); refine goesL_ (some 7) rfl rfl Tryd.func34 (by kernel_rfl) rfl #[.pointer (some ⟨g, 0, none⟩), .int .i64 10] rfl ga ?_; (with_reducible refine (spec_l1Below.calls g s0_0 t189 t190 10 t191 t192 t193 w0 _ ?side1 ?side2 A3.out).mono ?_); (case side1 => exact IsS60.q0 HI0.out); (case side2 => exact bq1 HB.out (IsS60.ge HI0.out)); rintro e w14 ⟨rfl, hi, hb, hk⟩; refine ⟨_, rfl, ?_⟩; have n_ := ak4 (Kd.R_mono (Kd.R_keep (IsS60.apart (show IsS60 w0 _ g s0_0 t189 t190 from IsS60.q0 HI0.out) (kqR HO188.out) (by decide)) hk (fun _ h => h.2)) (fun _ h => h.1)) (KeepBut.trans (kp0 HK.out) hk (.inl rfl)) hb hi; clear HO188 HK HB HI0; obtain ⟨HO188, HK, HB, HI0⟩ := n_; (try clear hb hk hi)) | ((with_reducible refine gate_dst (N := 15) rfl ?_); refine Kd.R_lit (Kd.int .i64) _ 3 ?hg (N := 15) ?hd (xs := ([(-1), 100001] : List Int)) (inner := [.int .i64 (-1), .int .i64 100001]) (ok := fun _ => True) (okp := fun _ => True) ?hr ?hp (fun _ hk => hk) trivial (Below.refl _ _) (Nat.le_refl _) (by simp) ?_; (case hd => rfl); (case hg => rfl); (case hr => exact gs); (case hp => exact (Reps.one (ri (-1)) (Reps.one (ri 100001) (Reps.none _ _)))); intro v198 w15 ho16 hb hg_ hnew_; clear hg_ hnew_; (first | rw [← Ny197.out] at ho16 | (simp only [Int.reduceToNat] at ho16; rw [← Ny197.out] at ho16)); have n_ := ak5 (Kd.R_elder' (kqR HO188.out) (Kd.R_base ho16) hb) (Kd.R_lower (Kd.R_new' ho16 (Kd.R_lt (kqR HO188.out))) (keep_size (w := w) (g := g) (row := none) (kp0 HK.out))) (IsS60.below (IsS60.q0 HI0.out) hb) (KeepBut.trans (kp0 HK.out) (KeepBut.of_below hb g none) (.inl rfl)) (below_step (bq1 HB.out (IsS60.ge HI0.out)) hb); clear HO188 HI0 HK HB; obtain ⟨HO188, HO199, HI0, HK, HB⟩ := n_; clear hb ho16; obtain ⟨Ao17, co17, eo17⟩ := Kd.R_slice HO199.out; subst eo17) | ((with_reducible refine gate_callee (f := 42) rfl ?_); refine goesL_ (some 16) rfl rfl Tryd.func42 (by kernel_rfl) rfl #[.pointer (some ⟨g, 0, none⟩), .slice Ao17 y197.length co17] rfl ga ?_; (with_reducible refine (spec_l1Int.calls g s0_0 t192 t193 _ _ y197 t200 t201 t202 w0 _ ?side1 ?side2 ?side3 ?side4 ?side5 A10.out).mono ?_); (case side1 => exact IsS60.q0 HI0.out); (case side2 => exact bq1 HB.out (IsS60.ge HI0.out)); (case side3 => repeat (first | exact (Kd.R_reads' HO199.out).2.2 | (with_reducible refine Kd.C_alloc ?_ _) | (with_reducible refine Kd.C_drewN ?_ _) | (with_reducible refine Kd.C_drew ?_))); (case side4 => exact (Kd.R_reads' HO199.out).2.1); (case side5 => exact far_slice (IsS60.own_ne HI0.out HO199.out (by decide))); rintro e w18 ⟨rfl, hi, hb, hk⟩; refine ⟨_, rfl, ?_⟩; have n_ := ak5 (Kd.R_mono (Kd.R_keep (IsS60.apart (show IsS60 w0 _ g s0_0 t192 t193 from IsS60.q0 HI0.out) (kqR HO188.out) (by decide)) hk (fun _ h => h.2)) (fun _ h => h.1)) (Kd.R_mono (Kd.R_keep (IsS60.apart (show IsS60 w0 _ g s0_0 t192 t193 from IsS60.q0 HI0.out) (kqR HO199.out) (by decide)) hk (fun _ h => h.2)) (fun _ h => h.1)) (KeepBut.trans (kp0 HK.out) hk (.inl rfl)) hb hi; clear HO188 HO199 HK HB HI0; obtain ⟨HO188, HO199, HK, HB, HI0⟩ := n_; (try clear hb hk hi); have p12 : 0 ≤ (0 : Int) := (by omega); have q12 : (0 : Int) < ((t186.length : Int) : Int) := oda; have qi12 : (0 < t186.length) = True := eq_true (by omega); obtain ⟨go12, co12, eo12, gb12, gl12, cl12, HG12⟩ := Kd.R_form HO188.out (by omega); (first | cases eo12 | (injection eo12 with ea_ en_ ec_; (first | subst ea_ | (injection ea_ with ea_; subst ea_)); subst ec_; clear en_)); have GB12 := am gb12; have GG12 := am HG12; clear gb12 gl12 HG12; obtain ⟨hx12_0, hf12_0⟩ := Kd.R_celln 0 HO188.out (0 : Int) p12 q12; (try rw [show ((0 : Int)).toNat = 0 from rfl] at hx12_0); (try simp only [Nat.reduceMul, Nat.zero_mul, Nat.zero_add, Nat.reduceAdd] at hx12_0); (try rw [show ((0 : Int)).toNat = 0 from rfl] at hf12_0); (try simp only [Nat.reduceMul, Nat.zero_mul, Nat.zero_add, Nat.reduceAdd] at hf12_0); replace p12 := eq_true p12; replace q12 := eq_true q12; have n_ := am (Kd.R_mono (ok' := (fun k_ => some k_ ≠ (.slice Ao17 y197.length co17 : Value).ownBlock)) HO188.out (fun k_ hk => hk.2)); clear HO188; have HO188 := n_; clear n_; obtain ⟨hy19_, hz19_⟩ := Kd.R_celln 0 HO188.out (0 : Int) (by omega) (oda); (try simp only [Int.reduceToNat, Int.toNat_zero, Int.toNat_ofNat, Nat.reduceMul, Nat.zero_mul, Nat.zero_add] at hy19_ hz19_); (try rw [show ((0 : Int)).toNat = 0 from rfl] at hy19_); (try rw [show ((0 : Int)).toNat = 0 from rfl] at hz19_); have HP19 := Kd.R_putg HO188.out (0 : Int) t200) | ((with_reducible refine gate_store (t := 3) (p := 17) rfl ?_); refine store_event (t := 3) (p := 17) (v := ?vo_w20) (w1 := (w18.setCell ⟨go12, (0 : Int).toNat, none⟩ (.int .i64 t200))) ?hg ?ho ?hn ?hr ?_; (case ho => rfl); (case hg => rfl); (case hn => rfl); (case hr => exact gs); intro w20 hw; have hg : w18.grownBy w20 (some go12) := (by rw [hw]; exact HP19.2); have hp_ : Kd.R (Kd.int .i64) 3 w20 w.heap.size (fun k_ => some k_ ≠ (.slice Ao17 y197.length co17 : Value).ownBlock) (.slice (some ⟨go12, 0, none⟩) t186.length co12) y203 := (by rw [hw, Ny203.out]; exact HP19.1); clear HP19; have n_ := ak5 (IsS60.grown (IsS60.q0 HI0.out) hg (IsS60.own_ne HI0.out HO188.out (by decide))) hp_ (Kd.R_after (v := (.slice (some ⟨go12, 0, none⟩) t186.length co12)) (v1 := (.slice (some ⟨go12, 0, none⟩) t186.length co12)) (ok := (fun _ => True)) (kqR HO199.out) hg (.inl rfl)) ((by rw [hw]; exact below_set (HB.out) (Nat.le_trans HL.out GB12.out) : Below w0.heap.size w0 w20)) (KeepBut.trans (kp0 HK.out) (KeepBut.of_grown hg g) (Kd.R_base2 HO188.out)); clear HI0 HO188 HO199 HB HK; obtain ⟨HI0, HO188, HO199, HB, HK⟩ := n_; clear hg hw hp_))
   go_ret
   exact ⟨_, rq, by refine kr ?_; exact Kd.R_mono HO188.out (fun _ hk => trivial), IsS60.q0 HI0.out, bq1 HB.out (IsS60.ge HI0.out), kp0 HK.out⟩
 rw [if_neg c9] at H
 have c9b0 : (t191 == 1) = false := beq_eq_false_iff_ne.mpr c9
 have c9b1 : (t191 != 1) = true := bne_iff_ne.mpr c9
 by_cases c21 : t191 = 2
 rotate_left
 · rw [if_neg c21] at H
   have c21b0 : (t191 == 2) = false := beq_eq_false_iff_ne.mpr c21
   have c21b1 : (t191 != 2) = true := bne_iff_ne.mpr c21
   simp only [Option.some.injEq, Prod.mk.injEq] at H
   obtain ⟨rfl, rfl, rfl⟩ := H
   go_enter Tryd.func27, Tryd.ntmps27
   go_wp2_with (first | ((with_reducible refine gate_callee (f := 32) rfl ?_); refine goesL_ (some 5) rfl rfl Tryd.func32 (by kernel_rfl) rfl #[.pointer (some ⟨g, 0, none⟩)] rfl ga ?_; (with_reducible refine (spec_l2Draw.calls k g s0_0 s0_1 s0_2 t186 t189 t190 w0 _ ?side1 ?side2 A2.out).mono ?_); (case side1 => exact IsS60.q0 HI0.out); (case side2 => exact bq1 HB.out (IsS60.ge HI0.out)); rintro e w32 ⟨v187, rfl, ho0, hi, hb, hk⟩; refine ⟨_, rfl, ?_⟩; have n_ := ak4 (Kd.R_lower ho0 (keep_size (w := w) (g := g) (row := none) (kp0 HK.out))) (KeepBut.trans (kp0 HK.out) hk (.inl rfl)) hb hi; clear HK HB HI0; obtain ⟨HO188, HK, HB, HI0⟩ := n_; (try clear hb hk hi ho0)) | ((with_reducible refine gate_callee (f := 34) rfl ?_); refine goesL_ (some 7) rfl rfl Tryd.func34 (by kernel_rfl) rfl #[.pointer (some ⟨g, 0, none⟩), .int .i64 10] rfl ga ?_; (with_reducible refine (spec_l1Below.calls g s0_0 t189 t190 10 t191 t192 t193 w0 _ ?side1 ?side2 A3.out).mono ?_); (case side1 => exact IsS60.q0 HI0.out); (case side2 => exact bq1 HB.out (IsS60.ge HI0.out)); rintro e w33 ⟨rfl, hi, hb, hk⟩; refine ⟨_, rfl, ?_⟩; have n_ := ak4 (Kd.R_mono (Kd.R_keep (IsS60.apart (show IsS60 w0 _ g s0_0 t189 t190 from IsS60.q0 HI0.out) (kqR HO188.out) (by decide)) hk (fun _ h => h.2)) (fun _ h => h.1)) (KeepBut.trans (kp0 HK.out) hk (.inl rfl)) hb hi; clear HO188 HK HB HI0; obtain ⟨HO188, HK, HB, HI0⟩ := n_; (try clear hb hk hi)))
   go_ret
   exact ⟨_, rq, kqR HO188.out, IsS60.q0 HI0.out, bq1 HB.out (IsS60.ge HI0.out), kp0 HK.out⟩
 rw [if_pos c21] at H
 have c21b0 : (t191 == 2) = true := beq_iff_eq.mpr c21
 have c21b1 : (t191 != 2) = false := bne_eq_false_iff_eq.mpr c21
 clear c21
 have H' := am H
 clear H
 go_enter Tryd.func27, Tryd.ntmps27
 go_wp2_with (first | ((with_reducible refine gate_callee (f := 32) rfl ?_); refine goesL_ (some 5) rfl rfl Tryd.func32 (by kernel_rfl) rfl #[.pointer (some ⟨g, 0, none⟩)] rfl ga ?_; (with_reducible refine (spec_l2Draw.calls k g s0_0 s0_1 s0_2 t186 t189 t190 w0 _ ?side1 ?side2 A2.out).mono ?_); (case side1 => exact IsS60.q0 HI0.out); (case side2 => exact bq1 HB.out (IsS60.ge HI0.out)); rintro e w22 ⟨v187, rfl, ho0, hi, hb, hk⟩; refine ⟨_, rfl, ?_⟩; have n_ := ak4 (Kd.R_lower ho0 (keep_size (w := w) (g := g) (row := none) (kp0 HK.out))) (KeepBut.trans (kp0 HK.out) hk (.inl rfl)) hb hi; clear HK HB HI0; obtain ⟨HO188, HK, HB, HI0⟩ := n_; (try clear hb hk hi ho0)) | ((with_reducible refine gate_callee (f := 34) rfl ?_); refine goesL_ (some 7) rfl rfl Tryd.func34 (by kernel_rfl) rfl #[.pointer (some ⟨g, 0, none⟩), .int .i64 10] rfl ga ?_; (with_reducible refine (spec_l1Below.calls g s0_0 t189 t190 10 t191 t192 t193 w0 _ ?side1 ?side2 A3.out).mono ?_); (case side1 => exact IsS60.q0 HI0.out); (case side2 => exact bq1 HB.out (IsS60.ge HI0.out)); rintro e w23 ⟨rfl, hi, hb, hk⟩; refine ⟨_, rfl, ?_⟩; have n_ := ak4 (Kd.R_mono (Kd.R_keep (IsS60.apart (show IsS60 w0 _ g s0_0 t189 t190 from IsS60.q0 HI0.out) (kqR HO188.out) (by decide)) hk (fun _ h => h.2)) (fun _ h => h.1)) (KeepBut.trans (kp0 HK.out) hk (.inl rfl)) hb hi; clear HO188 HK HB HI0; obtain ⟨HO188, HK, HB, HI0⟩ := n_; (try clear hb hk hi)))
 go_loopg [3] k (fun kq v3 w' => ∃ (x3_1 : List Int) (x1001_1 : Int) (x1002_1 : Int), Aside0 (spec_l2Any.l0 kq x3_1 s0_0 x1001_1 x1002_1 = some (r1, r2, r3)) ∧ Aside0 (kq ≤ k) ∧ Aside0 (Kd.R (Kd.int .i64) 3 w' w.heap.size (fun _ => True) v3 x3_1) ∧ Aside0 (IsS60 w0 w' g s0_0 x1001_1 x1002_1) ∧ Aside0 (KeepBut w w' g none) ∧ Aside0 (Below w0.heap.size w0 w'))
 case atStart => exact ⟨(t186), (t192), (t193), H', ⟨Nat.le_refl _⟩, ⟨kqR HO188.out⟩, ⟨IsS60.q0 HI0.out⟩, ⟨kp0 HK.out⟩, ⟨bq1 HB.out (IsS60.ge HI0.out)⟩⟩
 case round =>
  clear H'
  try clear c1
  try clear p1
  try clear q1
  try clear hx1
  try clear qi1
  try clear hf1
  try clear c2
  try clear p2
  try clear c3
  try clear c4
  try clear c4b0
  try clear c4b1
  try clear c9
  try clear c9b0
  try clear c9b1
  try clear c11
  try clear c11b0
  try clear c11b1
  try clear p12
  try clear q12
  try clear hx12
  try clear qi12
  try clear hf12
  try clear c21
  try clear c21b0
  try clear c21b1
  try clear hx12_0
  try clear p12
  try clear q12
  obtain ⟨x3_1, x1001_1, x1002_1, HA, HK1, HO_3, HI0, HK, HB⟩ := hrel
  cases gk with
  | zero => exact absurd HA.out (by simp [spec_l2Any.l0])
  | succ k1 =>
   have H := HA.out
   clear HA
   simp only [spec_l2Any.l0] at H
   replace H := Option.bind_eq_some_iff.mp H
   obtain ⟨⟨t204, t205, t206⟩, A240, H⟩ := H
   replace H : (if (x3_1.length : Int) < (wrap64 (10 + t204)) then (if x3_1.length < 17592186044416 then (spec_l2Any.l0 k1 (x3_1 ++ [1]) s0_0 t205 t206) else (none)) else (some (x3_1, t205, t206))) = some (r1, r2, r3) := H
   have A24 := am A240
   clear A240
   by_cases c25 : (x3_1.length : Int) < (wrap64 (10 + t204))
   rotate_left
   · rw [if_neg c25] at H
     have c25b0 : decide ((x3_1.length : Int) < (wrap64 (10 + t204))) = false := decide_eq_false c25
     clear c25
     simp only [Option.some.injEq, Prod.mk.injEq] at H
     obtain ⟨rfl, rfl, rfl⟩ := H
     obtain ⟨Ao30, co30, eo30⟩ := Kd.R_slice HO_3.out
     subst eo30
     go_wp2_with (first | ((with_reducible refine gate_callee (f := 34) rfl ?_); refine goesL_ (some 23) rfl rfl Tryd.func34 (by kernel_rfl) rfl #[.pointer (some ⟨g, 0, none⟩), .int .i64 2] rfl ga ?_; (with_reducible refine (spec_l1Below.calls g s0_0 x1001_1 x1002_1 2 t204 t205 t206 w0 _ ?side1 ?side2 A24.out).mono ?_); (case side1 => exact IsS60.q0 HI0.out); (case side2 => exact bq1 HB.out (IsS60.ge HI0.out)); rintro e w31 ⟨rfl, hi, hb, hk⟩; refine ⟨_, rfl, ?_⟩; have n_ := ak4 (Kd.R_mono (Kd.R_keep (IsS60.apart (show IsS60 w0 _ g s0_0 x1001_1 x1002_1 from IsS60.q0 HI0.out) (kqR HO_3.out) (by decide)) hk (fun _ h => h.2)) (fun _ h => h.1)) (KeepBut.trans (kp0 HK.out) hk (.inl rfl)) hb hi; clear HO_3 HK HB HI0; obtain ⟨HO_3, HK, HB, HI0⟩ := n_; (try clear hb hk hi)))
     go_ret
     exact ⟨_, rq, kqR HO_3.out, IsS60.q0 HI0.out, bq1 HB.out (IsS60.ge HI0.out), kp0 HK.out⟩
   rw [if_pos c25] at H
   have c25b0 : decide ((x3_1.length : Int) < (wrap64 (10 + t204))) = true := decide_eq_true c25
   clear c25
   by_cases c26 : x3_1.length < 17592186044416
   rotate_left
   · rw [if_neg c26] at H
     exact absurd H (by simp)
   rw [if_pos c26] at H
   have LMc26 := am c26
   clear c26
   obtain ⟨y207, hy207⟩ : ∃ y_ : List Int, y_ = (x3_1 ++ [1]) := ⟨_, rfl⟩
   replace H : (spec_l2Any.l0 k1 y207 s0_0 t205 t206) = some (r1, r2, r3) := hx H hy207
   have Ny207 := am hy207
   clear hy207
   have H' := am H
   clear H
   obtain ⟨Ao27, co27, eo27⟩ := Kd.R_slice HO_3.out
   subst eo27
   go_wp2_with (first | ((with_reducible refine gate_callee (f := 34) rfl ?_); refine goesL_ (some 23) rfl rfl Tryd.func34 (by kernel_rfl) rfl #[.pointer (some ⟨g, 0, none⟩), .int .i64 2] rfl ga ?_; (with_reducible refine (spec_l1Below.calls g s0_0 x1001_1 x1002_1 2 t204 t205 t206 w0 _ ?side1 ?side2 A24.out).mono ?_); (case side1 => exact IsS60.q0 HI0.out); (case side2 => exact bq1 HB.out (IsS60.ge HI0.out)); rintro e w28 ⟨rfl, hi, hb, hk⟩; refine ⟨_, rfl, ?_⟩; have n_ := ak4 (Kd.R_mono (Kd.R_keep (IsS60.apart (show IsS60 w0 _ g s0_0 x1001_1 x1002_1 from IsS60.q0 HI0.out) (kqR HO_3.out) (by decide)) hk (fun _ h => h.2)) (fun _ h => h.1)) (KeepBut.trans (kp0 HK.out) hk (.inl rfl)) hb hi; clear HO_3 HK HB HI0; obtain ⟨HO_3, HK, HB, HI0⟩ := n_; (try clear hb hk hi)) | ((with_reducible refine gate_builtin (b := .append) (xs := #[.tmp 26, .tmp 27]) rfl ?_); at_builtin; refine Kd.R_append (Kd.int .i64) w.heap.size rfl (.tmp 26) (.tmp 27) 22 3 (.int .i64 0) 8 rfl Tryd.underlying22 info3 rfl (by decide) (by omega) (.slice Ao27 x3_1.length co27) x3_1 1 [.int .i64 1] (fun _ => True) (fun _ => False) rfl rfl ?aP (fun _ hk => hk.elim) ?aF ?aO (Below.refl _ _) ?aS ?aL ?_; (case aP => exact rfl); (case aF => exact (fun _ _ => trivial)); (case aO => exact (kqR HO_3.out)); (case aS => exact (keep_size (w := w) (g := g) (row := none) (kp0 HK.out))); (case aL => have := LMc26.out; omega); intro v208 w29 ho hb hg hat; rw [← Ny207.out] at ho; have n_ := ak4 (IsS60.grown (IsS60.q0 HI0.out) hg (IsS60.own_ne HI0.out HO_3.out (by decide))) (below_weaken (bq1 HB.out (IsS60.ge HI0.out)) HL.out hb) (KeepBut.trans (kp0 HK.out) (KeepBut.of_grown hg g) (Kd.R_base2 HO_3.out)) ho; clear HI0 HB HK HO_3; obtain ⟨HI0, HB, HK, HO209⟩ := n_; clear ho hb hg hat))
   go_roundg k1
   case measure => have := HK1.out; omega
   case rel => exact ⟨(y207), (t205), (t206), H', ⟨by have := HK1.out; omega⟩, ⟨kqR HO209.out⟩, ⟨IsS60.q0 HI0.out⟩, ⟨kp0 HK.out⟩, ⟨bq1 HB.out (IsS60.ge HI0.out)⟩⟩

/-! ### spec_DrawPutOid: function 11 -/
def spec_DrawPutOid.f (k : Nat) (l0 : List Int) : Option (List Int) := (spec_l1New.f k l0).bind fun bt210 => ((spec_l2Any.f k bt210.1 bt210.2.1 bt210.2.2).bind fun bt214 => (some bt214.1))
theorem spec_DrawPutOid.mono : ∀ a0 k, LeO (spec_DrawPutOid.f k a0) (spec_DrawPutOid.f (k + 1) a0) := by
 intro a0 k
 unfold spec_DrawPutOid.f
 repeat' first
  | (with_reducible exact spec_l1New.mono _ _)
  | (with_reducible exact spec_l2Any.mono _ _ _ _)
  | (with_reducible exact LeO.refl _)
  | (with_reducible exact LeO.none _)
  | (with_reducible refine LeO.ite ?_ ?_)
  | (with_reducible refine LeO.bind ?_ (fun _ => ?_))
  | exact spec_l1New.mono _ _
  | exact spec_l2Any.mono _ _ _ _
  | exact LeO.none _
  | refine LeO.ite ?_ ?_
  | refine LeO.bind ?_ (fun _ => ?_)
set_option maxHeartbeats 8000000 in
set_option maxRecDepth 100000 in
theorem spec_DrawPutOid.calls (k : Nat) (A0 : Option Addr) (c0 : Nat) (l0 : List Int) (r : List Int) (w : World) (hr0 : Kd.C (Kd.int .u8) w A0 l0.length l0) (hc0 : l0.length ≤ c0) (h : spec_DrawPutOid.f k l0 = some r) :
 Calls Tryd.prog 11 #[.slice A0 l0.length c0] w fun e w' => ∃ v0_ : Value, e = .returned (v0_) ∧ Kd.R (Kd.int .i64) 3 w' w.heap.size (fun _ => True) v0_ r ∧ Below w.heap.size w w' := by
 have HR0 := am hr0
 have HC0 := am hc0
 clear hr0 hc0
 have HB := am (Below.refl w.heap.size w)
 have H : ((spec_l1New.f k l0).bind fun bt210 => ((spec_l2Any.f k bt210.1 bt210.2.1 bt210.2.2).bind fun bt214 => (some bt214.1))) = some r := h
 clear h
 replace H := Option.bind_eq_some_iff.mp H
 obtain ⟨⟨t210, t211, t212⟩, A20, H⟩ := H
 replace H : ((spec_l2Any.f k t210 t211 t212).bind fun bt214 => (some bt214.1)) = some r := H
 have A2 := am A20
 clear A20
 replace H := Option.bind_eq_some_iff.mp H
 obtain ⟨⟨t214, t217, t218⟩, A30, H⟩ := H
 replace H : (some t214) = some r := H
 have A3 := am A30
 clear A30
 obtain rfl := Option.some.inj H
 go_enter Tryd.func11, Tryd.ntmps11
 go_wp2_with (first | ((with_reducible refine gate_callee (f := 26) rfl ?_); refine goesL_ (some 5) rfl rfl Tryd.func26 (by kernel_rfl) rfl #[.slice A0 l0.length c0] rfl ga ?_; (with_reducible refine (spec_l1New.calls k _ _ l0 t210 t211 t212 w _ ?side1 ?side2 ?side3 A2.out).mono ?_); (case side1 => exact bq HB.out); (case side2 => exact HR0.out); (case side3 => exact HC0.out); rintro e w4 ⟨g213, rfl, hi, hb, hb2⟩; refine ⟨_, rfl, ?_⟩; have n_ := ak2 hb hi; clear HB; obtain ⟨HB, HI213⟩ := n_; (try clear hb hb2 hi)) | ((with_reducible refine gate_callee (f := 27) rfl ?_); refine goesL_ (some 7) rfl rfl Tryd.func27 (by kernel_rfl) rfl #[.pointer (some ⟨g213, 0, none⟩)] rfl ga ?_; (with_reducible refine (spec_l2Any.calls k g213 t210 t211 t212 t214 t217 t218 w _ ?side1 ?side2 A3.out).mono ?_); (case side1 => exact IsS60.q0 HI213.out); (case side2 => exact bq1 HB.out (IsS60.ge HI213.out)); rintro e w5 ⟨v215, rfl, ho0, hi, hb, hk⟩; refine ⟨_, rfl, ?_⟩; have n_ := ak3 (Kd.R_lower ho0 (below_size (bq1 HB.out (IsS60.ge HI213.out)))) hb hi; clear HB HI213; obtain ⟨HO216, HB, HI213⟩ := n_; (try clear hb hk hi ho0)))
 go_ret
 exact ⟨_, rq, kqR HO216.out, bq1 HB.out (IsS60.ge HI213.out)⟩

/-! ### impl_PutOid: function 12 -/
mutual
def impl_PutOid.l0 : Nat → List Int → List Int → Int → Int → Option (List Int)
 | 0, _, _, _, _ => none
 | k + 1, x3, x10, x11, x12 => if x12 < x11 then (if 0 ≤ x12 then (if x12 < (x10.length : Int) then (impl_PutOid.l1 k x3 (rd x10 x12) 0 x10 x11 x12) else (none)) else (none)) else (some x3)
def impl_PutOid.l1 : Nat → List Int → Int → Int → List Int → Int → Int → Option (List Int)
 | 0, _, _, _, _, _, _ => none
 | k + 1, x3, x5, x6, x10, x11, x12 => if 0 ≤ (wrap64 (7 * x6)) then (if (shr .i64 x5 (wrap64 (7 * x6))) > 127 then (impl_PutOid.l1 k x3 x5 (wrap64 (x6 + 1)) x10 x11 x12) else (impl_PutOid.l2 k x3 x5 x6 x10 x11 x12)) else (none)
def impl_PutOid.l2 : Nat → List Int → Int → Int → List Int → Int → Int → Option (List Int)
 | 0, _, _, _, _, _, _ => none
 | k + 1, x3, x5, x6, x10, x11, x12 => if x6 > 0 then (if 0 ≤ (wrap64 (7 * x6)) then (if x3.length < 140737488355328 then (impl_PutOid.l2 k (x3 ++ [(wrap64 ((Go.bits .and .i64 (shr .i64 x5 (wrap64 (7 * x6))) 127) + 128)) % 256]) x5 (wrap64 (x6 - 1)) x10 x11 x12) else (none)) else (none)) else (if x3.length < 140737488355328 then (impl_PutOid.l0 k (x3 ++ [(Go.bits .and .i64 x5 127) % 256]) x10 x11 (wrap64 (x12 + 1))) else (none))
end
def impl_PutOid.f (k : Nat) (l0 : List Int) : Option (List Int) := (impl_OidOk.f k l0).bind fun t219 => (if t219 = true then (impl_PutOid.l0 k ([] : List Int) l0 (l0.length : Int) 0) else (some ([] : List Int)))
theorem impl_PutOid.mono_l : ∀ k, (∀ y0 y1 y2 y3, LeO (impl_PutOid.l0 k y0 y1 y2 y3) (impl_PutOid.l0 (k + 1) y0 y1 y2 y3)) ∧ (∀ y0 y1 y2 y3 y4 y5, LeO (impl_PutOid.l1 k y0 y1 y2 y3 y4 y5) (impl_PutOid.l1 (k + 1) y0 y1 y2 y3 y4 y5)) ∧ (∀ y0 y1 y2 y3 y4 y5, LeO (impl_PutOid.l2 k y0 y1 y2 y3 y4 y5) (impl_PutOid.l2 (k + 1) y0 y1 y2 y3 y4 y5))
 | 0 => ⟨fun _ _ _ _ r h => by simp [impl_PutOid.l0] at h, fun _ _ _ _ _ _ r h => by simp [impl_PutOid.l1] at h, fun _ _ _ _ _ _ r h => by simp [impl_PutOid.l2] at h⟩
 | k + 1 => by
  obtain ⟨ih0, ih1, ih2⟩ := impl_PutOid.mono_l k
  refine ⟨?_, ?_, ?_⟩
  · intro y0 y1 y2 y3
    unfold impl_PutOid.l0
    repeat' first
    | (with_reducible exact ih0 _ _ _ _)
    | (with_reducible exact ih1 _ _ _ _ _ _)
    | (with_reducible exact ih2 _ _ _ _ _ _)
    | (with_reducible exact impl_OidOk.mono _ _)
    | (with_reducible exact LeO.refl _)
    | (with_reducible exact LeO.none _)
    | (with_reducible refine LeO.ite ?_ ?_)
    | (with_reducible refine LeO.bind ?_ (fun _ => ?_))
    | exact ih0 _ _ _ _
    | exact ih1 _ _ _ _ _ _
    | exact ih2 _ _ _ _ _ _
    | exact impl_OidOk.mono _ _
    | exact LeO.none _
    | refine LeO.ite ?_ ?_
    | refine LeO.bind ?_ (fun _ => ?_)
  · intro y0 y1 y2 y3 y4 y5
    unfold impl_PutOid.l1
    repeat' first
    | (with_reducible exact ih0 _ _ _ _)
    | (with_reducible exact ih1 _ _ _ _ _ _)
    | (with_reducible exact ih2 _ _ _ _ _ _)
    | (with_reducible exact impl_OidOk.mono _ _)
    | (with_reducible exact LeO.refl _)
    | (with_reducible exact LeO.none _)
    | (with_reducible refine LeO.ite ?_ ?_)
    | (with_reducible refine LeO.bind ?_ (fun _ => ?_))
    | exact ih0 _ _ _ _
    | exact ih1 _ _ _ _ _ _
    | exact ih2 _ _ _ _ _ _
    | exact impl_OidOk.mono _ _
    | exact LeO.none _
    | refine LeO.ite ?_ ?_
    | refine LeO.bind ?_ (fun _ => ?_)
  intro y0 y1 y2 y3 y4 y5
  unfold impl_PutOid.l2
  repeat' first
  | (with_reducible exact ih0 _ _ _ _)
  | (with_reducible exact ih1 _ _ _ _ _ _)
  | (with_reducible exact ih2 _ _ _ _ _ _)
  | (with_reducible exact impl_OidOk.mono _ _)
  | (with_reducible exact LeO.refl _)
  | (with_reducible exact LeO.none _)
  | (with_reducible refine LeO.ite ?_ ?_)
  | (with_reducible refine LeO.bind ?_ (fun _ => ?_))
  | exact ih0 _ _ _ _
  | exact ih1 _ _ _ _ _ _
  | exact ih2 _ _ _ _ _ _
  | exact impl_OidOk.mono _ _
  | exact LeO.none _
  | refine LeO.ite ?_ ?_
  | refine LeO.bind ?_ (fun _ => ?_)
theorem impl_PutOid.mono : ∀ a0 k, LeO (impl_PutOid.f k a0) (impl_PutOid.f (k + 1) a0) := by
 intro a0 k
 obtain ⟨ih0, ih1, ih2⟩ := impl_PutOid.mono_l k
 unfold impl_PutOid.f
 repeat' first
  | (with_reducible exact ih0 _ _ _ _)
  | (with_reducible exact ih1 _ _ _ _ _ _)
  | (with_reducible exact ih2 _ _ _ _ _ _)
  | (with_reducible exact impl_OidOk.mono _ _)
  | (with_reducible exact LeO.refl _)
  | (with_reducible exact LeO.none _)
  | (with_reducible refine LeO.ite ?_ ?_)
  | (with_reducible refine LeO.bind ?_ (fun _ => ?_))
  | exact ih0 _ _ _ _
  | exact ih1 _ _ _ _ _ _
  | exact ih2 _ _ _ _ _ _
  | exact impl_OidOk.mono _ _
  | exact LeO.none _
  | refine LeO.ite ?_ ?_
  | refine LeO.bind ?_ (fun _ => ?_)
set_option maxHeartbeats 8000000 in
set_option maxRecDepth 100000 in
theorem impl_PutOid.calls (k : Nat) (A0 : Option Addr) (c0 : Nat) (l0 : List Int) (r : List Int) (w : World) (hr0 : Kd.C (Kd.int .i64) w A0 l0.length l0) (hc0 : l0.length ≤ c0) (h : impl_PutOid.f k l0 = some r) :
 Calls Tryd.prog 12 #[.slice A0 l0.length c0] w fun e w' => ∃ v0_ : Value, e = .returned (v0_) ∧ Kd.R (Kd.int .u8) 5 w' w.heap.size (fun _ => True) v0_ r ∧ Below w.heap.size w w' := by
 have HR0 := am hr0
 have HC0 := am hc0
 clear hr0 hc0
 have HB := am (Below.refl w.heap.size w)
 have H : ((impl_OidOk.f k l0).bind fun t219 => (if t219 = true then (impl_PutOid.l0 k ([] : List Int) l0 (l0.length : Int) 0) else (some ([] : List Int)))) = some r := h
 clear h
 replace H := Option.bind_eq_some_iff.mp H
 obtain ⟨t219, A20, H⟩ := H
 replace H : (if t219 = true then (impl_PutOid.l0 k ([] : List Int) l0 (l0.length : Int) 0) else (some ([] : List Int))) = some r := H
 have A2 := am A20
 clear A20
 by_cases c3 : t219 = true
 rotate_left
 · replace c3 := Bool.eq_false_iff.mpr c3
   subst c3
   replace H : (some ([] : List Int)) = some r := by rw [if_neg (show ¬ (false = true) by decide)] at H; exact H
   obtain rfl := Option.some.inj H
   go_enter Tryd.func12, Tryd.ntmps12
   go_wp2_with (first | ((with_reducible refine gate_callee (f := 20) rfl ?_); refine goesL_ (some 8) rfl rfl Tryd.func20 (by kernel_rfl) rfl #[.slice A0 l0.length c0] rfl ga ?_; (with_reducible refine (impl_OidOk.calls k _ _ l0 false _ ?side1 ?side2 A2.out).mono ?_); (case side1 => exact cq HR0.out); (case side2 => exact HC0.out); rintro e w' ⟨rfl, ⟨nd, rfl⟩⟩; refine ⟨_, rfl, ?_⟩))
   go_ret
   exact ⟨_, rq, rn, bq HB.out⟩
 subst c3
 replace H : (impl_PutOid.l0 k ([] : List Int) l0 (l0.length : Int) 0) = some r := by rw [if_pos rfl] at H; exact H
 have H' := am H
 clear H
 go_enter Tryd.func12, Tryd.ntmps12
 go_wp2_with (first | ((with_reducible refine gate_callee (f := 20) rfl ?_); refine goesL_ (some 8) rfl rfl Tryd.func20 (by kernel_rfl) rfl #[.slice A0 l0.length c0] rfl ga ?_; (with_reducible refine (impl_OidOk.calls k _ _ l0 true _ ?side1 ?side2 A2.out).mono ?_); (case side1 => exact cq HR0.out); (case side2 => exact HC0.out); rintro e w' ⟨rfl, ⟨nd, rfl⟩⟩; refine ⟨_, rfl, ?_⟩))
 go_loopg [3, 12] k (fun kq v3 v12 w' => ∃ (x3_1 : List Int) (x12_1 : Int), v12 = .int .i64 x12_1 ∧ Aside0 (impl_PutOid.l0 kq x3_1 l0 (l0.length : Int) x12_1 = some r) ∧ Aside0 (kq ≤ k) ∧ Aside0 (Kd.R (Kd.int .u8) 5 w' w.heap.size (fun _ => True) v3 x3_1) ∧ Aside0 (Below w.heap.size w w'))
 case atStart => exact ⟨(([] : List Int)), (0), sq, H', ⟨Nat.le_refl _⟩, ⟨rn⟩, ⟨bq HB.out⟩⟩
 case round =>
  clear H'
  try clear c1
  try clear c2
  try clear p2
  try clear c3
  obtain ⟨x3_1, x12_1, rfl, HA, HK1, HO_3, HB⟩ := hrel
  cases gk with
  | zero => exact absurd HA.out (by simp [impl_PutOid.l0])
  | succ k1 =>
   have H := HA.out
   clear HA
   simp only [impl_PutOid.l0] at H
   by_cases c4 : x12_1 < (l0.length : Int)
   rotate_left
   · rw [if_neg c4] at H
     have c4b0 : decide (x12_1 < (l0.length : Int)) = false := decide_eq_false c4
     clear c4
     obtain rfl := Option.some.inj H
     go_wp2
     go_ret
     exact ⟨_, rq, kqR HO_3.out, bq HB.out⟩
   rw [if_pos c4] at H
   have c4b0 : decide (x12_1 < (l0.length : Int)) = true := decide_eq_true c4
   clear c4
   by_cases c5 : 0 ≤ x12_1
   rotate_left
   · rw [if_neg c5] at H
     exact absurd H (by simp)
   rw [if_pos c5] at H
   have c5b0 : decide (0 ≤ x12_1) = true := decide_eq_true c5
   clear c5
   by_cases c6 : x12_1 < (l0.length : Int)
   rotate_left
   · rw [if_neg c6] at H
     exact absurd H (by simp)
   rw [if_pos c6] at H
   have c6b0 : decide (x12_1 < (l0.length : Int)) = true := decide_eq_true c6
   clear c6
   have H' := am H
   clear H
   have p220 : 0 ≤ (x12_1 : Int) := oda
   have q220 : x12_1 < (l0.length : Int) := oda
   obtain ⟨ad220, e220, hx220_0⟩ := Kd.at_int HR0.out x12_1 p220 q220
   cases e220
   replace hx220_0 := (HB.out.cell (World.block_lt_of_cell? w _ hx220_0)).trans hx220_0
   replace p220 := eq_true p220
   replace q220 := eq_true q220
   go_wp2
   go_loopg [6] k1 (fun kq v6 w' => ∃ (x6_2 : Int), v6 = .int .i64 x6_2 ∧ Aside0 (impl_PutOid.l1 kq x3_1 (rd l0 x12_1) x6_2 l0 (l0.length : Int) x12_1 = some r) ∧ Aside0 (kq ≤ k1) ∧ Aside0 (Kd.R (Kd.int .u8) 5 w' w.heap.size (fun _ => True) u3 x3_1) ∧ Aside0 (Below w.heap.size w w'))
   case atStart => exact ⟨(0), sq, H', ⟨Nat.le_refl _⟩, ⟨kqR HO_3.out⟩, ⟨bq HB.out⟩⟩
   case round =>
    clear H'
    try clear c1
    try clear c2
    try clear p2
    try clear q2
    try clear hx2
    try clear c3
    try clear c4
    try clear c4b0
    try clear c5
    try clear c5b0
    try clear c6
    try clear c6b0
    try clear hx220_0
    try clear p2
    try clear p220
    try clear q220
    obtain ⟨x6_2, rfl, HA, HK2, HO_3, HB⟩ := hrel
    cases gk with
    | zero => exact absurd HA.out (by simp [impl_PutOid.l1])
    | succ k2 =>
     have H := HA.out
     clear HA
     simp only [impl_PutOid.l1] at H
     obtain ⟨ji7, hji7⟩ : ∃ j_ : Int, (wrap64 (7 * x6_2)) = j_ := ⟨_, rfl⟩
     replace H : (if 0 ≤ (ji7) then (if (shr .i64 (rd l0 x12_1) (ji7)) > 127 then (impl_PutOid.l1 k2 x3_1 (rd l0 x12_1) (wrap64 (x6_2 + 1)) l0 (l0.length : Int) x12_1) else (impl_PutOid.l2 k2 x3_1 (rd l0 x12_1) x6_2 l0 (l0.length : Int) x12_1)) else (none)) = some r := by first | (rw [hji7] at H; exact H) | (simp only [hji7] at H ⊢; exact H)
     have hji7w : (IntKind.i64.wrap (7 * x6_2)) = ji7 := (i64_w _).trans hji7
     by_cases c8 : 0 ≤ (ji7)
     rotate_left
     · rw [if_neg c8] at H
       exact absurd H (by simp)
     rw [if_pos c8] at H
     have c8b0 := eq_true c8
     have c8b1 : decide (0 ≤ (ji7)) = true := decide_eq_true c8
     clear c8
     obtain ⟨ji9, hji9⟩ : ∃ j_ : Int, (shr .i64 (rd l0 x12_1) (ji7)) = j_ := ⟨_, rfl⟩
     replace H : (if (ji9) > 127 then (impl_PutOid.l1 k2 x3_1 (rd l0 x12_1) (wrap64 (x6_2 + 1)) l0 (l0.length : Int) x12_1) else (impl_PutOid.l2 k2 x3_1 (rd l0 x12_1) x6_2 l0 (l0.length : Int) x12_1)) = some r := by first | (rw [hji9] at H; exact H) | (simp only [hji9] at H ⊢; exact H)
     have hji9_ : ((rd l0 x12_1) / 2 ^ min (ji7).toNat 64) = ji9 := hji9
     have hji9z : (ji7) ≤ 64 → ((rd l0 x12_1) / 2 ^ (ji7).toNat) = ji9 := shr_small hji9
     by_cases c10 : (ji9) > 127
     · rw [if_pos c10] at H
       have c10b0 : decide (127 < (ji9)) = true := decide_eq_true c10
       clear c10
       have H' := am H
       clear H
       go_wp2
       go_roundg k2
       case measure => have := HK1.out; have := HK2.out; omega
       case rel => exact ⟨(wrap64 (x6_2 + 1)), sq, H', ⟨by have := HK1.out; have := HK2.out; omega⟩, ⟨kqR HO_3.out⟩, ⟨bq HB.out⟩⟩
     rw [if_neg c10] at H
     have c10b0 : decide (127 < (ji9)) = false := decide_eq_false c10
     clear c10
     have H' := am H
     clear H
     go_wp2
     go_loopg [3, 6] k2 (fun kq v3 v6 w' => ∃ (x3_3 : List Int) (x6_3 : Int), v6 = .int .i64 x6_3 ∧ Aside0 (impl_PutOid.l2 kq x3_3 (rd l0 x12_1) x6_3 l0 (l0.length : Int) x12_1 = some r) ∧ Aside0 (kq ≤ k2) ∧ Aside0 (Kd.R (Kd.int .u8) 5 w' w.heap.size (fun _ => True) v3 x3_3) ∧ Aside0 (Below w.heap.size w w'))
     case atStart => exact ⟨(x3_1), (x6_2), sq, H', ⟨Nat.le_refl _⟩, ⟨kqR HO_3.out⟩, ⟨bq HB.out⟩⟩
     case round =>
      clear H'
      try clear c1
      try clear c2
      try clear p2
      try clear q2
      try clear hx2
      try clear c3
      try clear c4
      try clear c4b0
      try clear c5
      try clear c5b0
      try clear c6
      try clear c6b0
      try clear p6
      try clear c8
      try clear c8b0
      try clear c8b1
      try clear c10
      try clear c10b0
      try clear hx220_0
      try clear p2
      try clear p220
      try clear q2
      try clear q220
      obtain ⟨x3_3, x6_3, rfl, HA, HK3, HO_3, HB⟩ := hrel
      cases gk with
      | zero => exact absurd HA.out (by simp [impl_PutOid.l2])
      | succ k3 =>
       have H := HA.out
       clear HA
       simp only [impl_PutOid.l2] at H
       by_cases c11 : x6_3 > 0
       rotate_left
       · rw [if_neg c11] at H
         have c11b0 : decide (0 < x6_3) = false := decide_eq_false c11
         clear c11
         by_cases c17 : x3_3.length < 140737488355328
         rotate_left
         · rw [if_neg c17] at H
           exact absurd H (by simp)
         rw [if_pos c17] at H
         have LMc17 := am c17
         clear c17
         obtain ⟨y224, hy224⟩ : ∃ y_ : List Int, y_ = (x3_3 ++ [(Go.bits .and .i64 (rd l0 x12_1) 127) % 256]) := ⟨_, rfl⟩
         replace H : (impl_PutOid.l0 k3 y224 l0 (l0.length : Int) (wrap64 (x12_1 + 1))) = some r := hx H hy224
         have Ny224 := am hy224
         clear hy224
         have H' := am H
         clear H
         go_wp2_with (first | ((with_reducible refine gate_builtin (b := .append) (xs := #[.tmp 37, .tmp 41]) rfl ?_); at_builtin; refine Kd.R_append (Kd.int .u8) (w0 := w) w.heap.size rfl (.tmp 37) (.tmp 41) 28 5 (.int .u8 0) 1 rfl Tryd.underlying28 info5 rfl (by decide) (by omega) u3 x3_3 ((Go.bits .and .i64 (rd l0 x12_1) 127) % 256) [.int .u8 ((Go.bits .and .i64 (rd l0 x12_1) 127) % 256)] (fun _ => True) (fun _ => False) rfl rfl ?aP (fun _ hk => hk.elim) ?aF ?aO ?aB ?aS ?aL ?_; (case aP => exact rfl); (case aB => exact (bq HB.out)); (case aF => exact (fun _ _ => trivial)); (case aO => exact (kqR HO_3.out)); (case aS => exact (below_size (bq HB.out))); (case aL => have := LMc17.out; omega); intro v225 w18 ho hb hg hat; rw [← Ny224.out] at ho; have n_ := ak2 hb ho; clear HB HO_3; obtain ⟨HB, HO226⟩ := n_; clear ho hb hg hat))
         go_roundg k3
         case measure => have := HK1.out; have := HK2.out; have := HK3.out; omega
         case rel => exact ⟨(y224), (wrap64 (x12_1 + 1)), sq, H', ⟨by have := HK1.out; have := HK2.out; have := HK3.out; omega⟩, ⟨kqR HO226.out⟩, ⟨bq HB.out⟩⟩
       rw [if_pos c11] at H
       have c11b0 : decide (0 < x6_3) = true := decide_eq_true c11
       clear c11
       obtain ⟨ji12, hji12⟩ : ∃ j_ : Int, (wrap64 (7 * x6_3)) = j_ := ⟨_, rfl⟩
       replace H : (if 0 ≤ (ji12) then (if x3_3.length < 140737488355328 then (impl_PutOid.l2 k3 (x3_3 ++ [(wrap64 ((Go.bits .and .i64 (shr .i64 (rd l0 x12_1) (ji12)) 127) + 128)) % 256]) (rd l0 x12_1) (wrap64 (x6_3 - 1)) l0 (l0.length : Int) x12_1) else (none)) else (none)) = some r := by first | (rw [hji12] at H; exact H) | (simp only [hji12] at H ⊢; exact H)
       have hji12w : (IntKind.i64.wrap (7 * x6_3)) = ji12 := (i64_w _).trans hji12
       by_cases c13 : 0 ≤ (ji12)
       rotate_left
       · rw [if_neg c13] at H
         exact absurd H (by simp)
       rw [if_pos c13] at H
       have c13b0 := eq_true c13
       have c13b1 : decide (0 ≤ (ji12)) = true := decide_eq_true c13
       clear c13
       obtain ⟨ji14, hji14⟩ : ∃ j_ : Int, (shr .i64 (rd l0 x12_1) (ji12)) = j_ := ⟨_, rfl⟩
       replace H : (if x3_3.length < 140737488355328 then (impl_PutOid.l2 k3 (x3_3 ++ [(wrap64 ((Go.bits .and .i64 (ji14) 127) + 128)) % 256]) (rd l0 x12_1) (wrap64 (x6_3 - 1)) l0 (l0.length : Int) x12_1) else (none)) = some r := by first | (rw [hji14] at H; exact H) | (simp only [hji14] at H ⊢; exact H)
       have hji14_ : ((rd l0 x12_1) / 2 ^ min (ji12).toNat 64) = ji14 := hji14
       have hji14z : (ji12) ≤ 64 → ((rd l0 x12_1) / 2 ^ (ji12).toNat) = ji14 := shr_small hji14
       by_cases c15 : x3_3.length < 140737488355328
       rotate_left
       · rw [if_neg c15] at H
         exact absurd H (by simp)
       rw [if_pos c15] at H
       have LMc15 := am c15
       clear c15
       obtain ⟨y221, hy221⟩ : ∃ y_ : List Int, y_ = (x3_3 ++ [(wrap64 ((Go.bits .and .i64 (ji14) 127) + 128)) % 256]) := ⟨_, rfl⟩
       replace H : (impl_PutOid.l2 k3 y221 (rd l0 x12_1) (wrap64 (x6_3 - 1)) l0 (l0.length : Int) x12_1) = some r := hx H hy221
       have Ny221 := am hy221
       clear hy221
       have H' := am H
       clear H
       go_wp2_with (first | ((with_reducible refine gate_builtin (b := .append) (xs := #[.tmp 27, .tmp 35]) rfl ?_); at_builtin; refine Kd.R_append (Kd.int .u8) (w0 := w) w.heap.size rfl (.tmp 27) (.tmp 35) 28 5 (.int .u8 0) 1 rfl Tryd.underlying28 info5 rfl (by decide) (by omega) u3 x3_3 ((wrap64 ((Go.bits .and .i64 (ji14) 127) + 128)) % 256) [.int .u8 ((wrap64 ((Go.bits .and .i64 (ji14) 127) + 128)) % 256)] (fun _ => True) (fun _ => False) rfl rfl ?aP (fun _ hk => hk.elim) ?aF ?aO ?aB ?aS ?aL ?_; (case aP => exact rfl); (case aB => exact (bq HB.out)); (case aF => exact (fun _ _ => trivial)); (case aO => exact (kqR HO_3.out)); (case aS => exact (below_size (bq HB.out))); (case aL => have := LMc15.out; omega); intro v222 w16 ho hb hg hat; rw [← Ny221.out] at ho; have n_ := ak2 hb ho; clear HB HO_3; obtain ⟨HB, HO223⟩ := n_; clear ho hb hg hat))
       go_roundg k3
       case measure => have := HK1.out; have := HK2.out; have := HK3.out; omega
       case rel => exact ⟨(y221), (wrap64 (x6_3 - 1)), sq, H', ⟨by have := HK1.out; have := HK2.out; have := HK3.out; omega⟩, ⟨kqR HO223.out⟩, ⟨bq HB.out⟩⟩

/-! ### spec_l1Bend: function 30 -/
def spec_l1Bend.f (s0_0 : List Int) (s0_1 : Int) (s0_2 : Int) (l1 : List Int) : Option (List Int × Int × Int) := if (l1.length : Int) = 0 then (some (l1, s0_1, s0_2)) else ((spec_l1Below.f s0_0 s0_1 s0_2 5).bind fun bt227 => (if bt227.1 = 0 then ((spec_l1Below.f s0_0 bt227.2.1 bt227.2.2 (l1.length : Int)).bind fun bt230 => ((spec_l1Int.f s0_0 bt230.2.1 bt230.2.2 (([0, 1, 2, 4, 5, 6, 48, 127, 128, 129, 160, 255] : List Int))).bind fun bt236 => (if 0 ≤ bt230.1 then (if bt230.1 < (l1.length : Int) then (some ((l1.set (bt230.1 : Int).toNat ((bt236.1) % 256)), bt236.2.1, bt236.2.2)) else (none)) else (none)))) else (if bt227.1 = 1 then (if l1.length < 140737488355328 then (some ((l1 ++ [3]), bt227.2.1, bt227.2.2)) else (none)) else (if bt227.1 = 2 then ((spec_l1Below.f s0_0 bt227.2.1 bt227.2.2 (l1.length : Int)).bind fun bt243 => (if 0 ≤ bt243.1 then (if bt243.1 ≤ (l1.length : Int) then (some ((l1.take (bt243.1 : Int).toNat), bt243.2.1, bt243.2.2)) else (none)) else (none))) else (some (l1, bt227.2.1, bt227.2.2))))))
set_option maxHeartbeats 8000000 in
set_option maxRecDepth 100000 in
theorem spec_l1Bend.calls (g : Nat) (s0_0 : List Int) (s0_1 : Int) (s0_2 : Int) (P1_ : Nat → Prop) (u9000_ : Value) (l1 : List Int) (r1 : List Int) (r2 : Int) (r3 : Int) (w0 w : World) (hI : IsS60 w0 w g s0_0 s0_1 s0_2) (hB : Below w0.heap.size w0 w) (ho1 : Kd.R (Kd.int .u8) 5 w w0.heap.size P1_ u9000_ l1) (h : spec_l1Bend.f s0_0 s0_1 s0_2 l1 = some (r1, r2, r3)) :
 Calls Tryd.prog 30 #[.pointer (some ⟨g, 0, none⟩), u9000_] w fun e w' => ∃ v0_ : Value, e = .returned (v0_) ∧ Kd.R (Kd.int .u8) 5 w' w0.heap.size (fun k_ => (P1_ k_ ∨ w.heap.size ≤ k_)) v0_ r1 ∧ IsS60 w0 w' g s0_0 r2 r3 ∧ Below w0.heap.size w0 w' ∧ Kept w w' (fun k_ => (P1_ k_) ∨ k_ = g) := by
 have HO1 := am (show Kd.R (Kd.int .u8) 5 w w0.heap.size (fun k_ => (P1_ k_ ∨ w.heap.size ≤ k_)) u9000_ l1 from Kd.R_mono ho1 (fun k_ hk => (.inl hk)))
 have HI0 := am hI
 have HL := am hB.size
 clear hI
 have HK := am (Kept.refl w (fun k_ => (P1_ k_) ∨ k_ = g))
 have HW0 := am hB.size
 have HB := am hB
 clear hB
 have H : (if (l1.length : Int) = 0 then (some (l1, s0_1, s0_2)) else ((spec_l1Below.f s0_0 s0_1 s0_2 5).bind fun bt227 => (if bt227.1 = 0 then ((spec_l1Below.f s0_0 bt227.2.1 bt227.2.2 (l1.length : Int)).bind fun bt230 => ((spec_l1Int.f s0_0 bt230.2.1 bt230.2.2 (([0, 1, 2, 4, 5, 6, 48, 127, 128, 129, 160, 255] : List Int))).bind fun bt236 => (if 0 ≤ bt230.1 then (if bt230.1 < (l1.length : Int) then (some ((l1.set (bt230.1 : Int).toNat ((bt236.1) % 256)), bt236.2.1, bt236.2.2)) else (none)) else (none)))) else (if bt227.1 = 1 then (if l1.length < 140737488355328 then (some ((l1 ++ [3]), bt227.2.1, bt227.2.2)) else (none)) else (if bt227.1 = 2 then ((spec_l1Below.f s0_0 bt227.2.1 bt227.2.2 (l1.length : Int)).bind fun bt243 => (if 0 ≤ bt243.1 then (if bt243.1 ≤ (l1.length : Int) then (some ((l1.take (bt243.1 : Int).toNat), bt243.2.1, bt243.2.2)) else (none)) else (none))) else (some (l1, bt227.2.1, bt227.2.2))))))) = some (r1, r2, r3) := h
 clear h
 by_cases c3 : (l1.length : Int) = 0
 · rw [if_pos c3] at H
   have c3b0 : ((l1.length : Int) == 0) = true := beq_iff_eq.mpr c3
   have c3b1 : ((l1.length : Int) != 0) = false := bne_eq_false_iff_eq.mpr c3
   clear c3
   simp only [Option.some.injEq, Prod.mk.injEq] at H
   obtain ⟨rfl, rfl, rfl⟩ := H
   obtain ⟨Ao4, co4, eo4⟩ := Kd.R_slice HO1.out
   subst eo4
   go_enter Tryd.func30, Tryd.ntmps30
   go_wp2
   go_ret
   exact ⟨_, rq, kqR HO1.out, IsS60.q0 HI0.out, bq1 HB.out (IsS60.ge HI0.out), by repeat (first | (with_reducible first | exact HK.out | apply Kept.alloc | apply Kept.drewN | apply Kept.drew | refine Kept.setCell ?_ (.inl (.inr rfl)) _) | exact HK.out)⟩
 rw [if_neg c3] at H
 have c3b0 : ((l1.length : Int) == 0) = false := beq_eq_false_iff_ne.mpr c3
 have c3b1 : ((l1.length : Int) != 0) = true := bne_iff_ne.mpr c3
 have c3b2 : ¬ (l1 = []) := fun h_ => c3 (by rw [h_]; rfl)
 replace H := Option.bind_eq_some_iff.mp H
 obtain ⟨⟨t227, t228, t229⟩, A50, H⟩ := H
 replace H : (if t227 = 0 then ((spec_l1Below.f s0_0 t228 t229 (l1.length : Int)).bind fun bt230 => ((spec_l1Int.f s0_0 bt230.2.1 bt230.2.2 (([0, 1, 2, 4, 5, 6, 48, 127, 128, 129, 160, 255] : List Int))).bind fun bt236 => (if 0 ≤ bt230.1 then (if bt230.1 < (l1.length : Int) then (some ((l1.set (bt230.1 : Int).toNat ((bt236.1) % 256)), bt236.2.1, bt236.2.2)) else (none)) else (none)))) else (if t227 = 1 then (if l1.length < 140737488355328 then (some ((l1 ++ [3]), t228, t229)) else (none)) else (if t227 = 2 then ((spec_l1Below.f s0_0 t228 t229 (l1.length : Int)).bind fun bt243 => (if 0 ≤ bt243.1 then (if bt243.1 ≤ (l1.length : Int) then (some ((l1.take (bt243.1 : Int).toNat), bt243.2.1, bt243.2.2)) else (none)) else (none))) else (some (l1, t228, t229))))) = some (r1, r2, r3) := H
 have A5 := am A50
 clear A50
 by_cases c6 : t227 = 0
 · rw [if_pos c6] at H
   have c6b0 : (t227 == 0) = true := beq_iff_eq.mpr c6
   have c6b1 : (t227 != 0) = false := bne_eq_false_iff_eq.mpr c6
   clear c6
   replace H := Option.bind_eq_some_iff.mp H
   obtain ⟨⟨t230, t231, t232⟩, A70, H⟩ := H
   replace H : ((spec_l1Int.f s0_0 t231 t232 (([0, 1, 2, 4, 5, 6, 48, 127, 128, 129, 160, 255] : List Int))).bind fun bt236 => (if 0 ≤ t230 then (if t230 < (l1.length : Int) then (some ((l1.set (t230 : Int).toNat ((bt236.1) % 256)), bt236.2.1, bt236.2.2)) else (none)) else (none))) = some (r1, r2, r3) := H
   have A7 := am A70
   clear A70
   obtain ⟨y233, hy233⟩ : ∃ y_ : List Int, y_ = (([0, 1, 2, 4, 5, 6, 48, 127, 128, 129, 160, 255] : List Int)) := ⟨_, rfl⟩
   replace H : ((spec_l1Int.f s0_0 t231 t232 y233).bind fun bt236 => (if 0 ≤ t230 then (if t230 < (l1.length : Int) then (some ((l1.set (t230 : Int).toNat ((bt236.1) % 256)), bt236.2.1, bt236.2.2)) else (none)) else (none))) = some (r1, r2, r3) := hx H hy233
   have Ny233 := am hy233
   clear hy233
   replace H := Option.bind_eq_some_iff.mp H
   obtain ⟨⟨t236, t237, t238⟩, A80, H⟩ := H
   replace H : (if 0 ≤ t230 then (if t230 < (l1.length : Int) then (some ((l1.set (t230 : Int).toNat ((t236) % 256)), t237, t238)) else (none)) else (none)) = some (r1, r2, r3) := H
   have A8 := am A80
   clear A80
   by_cases c9 : 0 ≤ t230
   rotate_left
   · rw [if_neg c9] at H
     exact absurd H (by simp)
   rw [if_pos c9] at H
   have c9b0 : decide (0 ≤ t230) = true := decide_eq_true c9
   clear c9
   by_cases c10 : t230 < (l1.length : Int)
   rotate_left
   · rw [if_neg c10] at H
     exact absurd H (by simp)
   rw [if_pos c10] at H
   have c10b0 : decide (t230 < (l1.length : Int)) = true := decide_eq_true c10
   clear c10
   obtain ⟨y239, hy239⟩ : ∃ y_ : List Int, y_ = (l1.set (t230 : Int).toNat ((t236) % 256)) := ⟨_, rfl⟩
   replace H : (some (y239, t237, t238)) = some (r1, r2, r3) := hx H hy239
   have Ny239 := am hy239
   clear hy239
   simp only [Option.some.injEq, Prod.mk.injEq] at H
   obtain ⟨rfl, rfl, rfl⟩ := H
   obtain ⟨Ao12, co12, eo12⟩ := Kd.R_slice HO1.out
   subst eo12
   go_enter Tryd.func30, Tryd.ntmps30
   go_wp2_with (first | ((with_reducible refine gate_callee (f := 34) rfl ?_); refine goesL_ (some 10) rfl rfl Tryd.func34 (by kernel_rfl) rfl #[.pointer (some ⟨g, 0, none⟩), .int .i64 5] rfl ga ?_; (with_reducible refine (spec_l1Below.calls g s0_0 s0_1 s0_2 5 t227 t228 t229 w0 _ ?side1 ?side2 A5.out).mono ?_); (case side1 => exact IsS60.q0 HI0.out); (case side2 => exact bq1 HB.out (IsS60.ge HI0.out)); rintro e w13 ⟨rfl, hi, hb, hk⟩; refine ⟨_, rfl, ?_⟩; have n_ := ak4 (Kd.R_mono (Kd.R_keep (IsS60.apart (show IsS60 w0 _ g s0_0 s0_1 s0_2 from IsS60.q0 HI0.out) (kqR HO1.out) (by decide)) hk (fun _ h => h.2)) (fun _ h => h.1)) (Kept.of_keep (S := (fun k_ => (P1_ k_) ∨ k_ = g)) (by repeat (first | (with_reducible first | exact HK.out | apply Kept.alloc | apply Kept.drewN | apply Kept.drew | refine Kept.setCell ?_ (.inl (.inr rfl)) _) | exact HK.out)) hk (.inl (.inr rfl))) hb hi; clear HO1 HK HB HI0; obtain ⟨HO1, HK, HB, HI0⟩ := n_; (try clear hb hk hi)) | ((with_reducible refine gate_callee (f := 34) rfl ?_); refine goesL_ (some 17) rfl rfl Tryd.func34 (by kernel_rfl) rfl #[.pointer (some ⟨g, 0, none⟩), .int .i64 (l1.length : Int)] rfl ga ?_; (with_reducible refine (spec_l1Below.calls g s0_0 t228 t229 (l1.length : Int) t230 t231 t232 w0 _ ?side1 ?side2 A7.out).mono ?_); (case side1 => exact IsS60.q0 HI0.out); (case side2 => exact bq1 HB.out (IsS60.ge HI0.out)); rintro e w14 ⟨rfl, hi, hb, hk⟩; refine ⟨_, rfl, ?_⟩; have n_ := ak4 (Kd.R_mono (Kd.R_keep (IsS60.apart (show IsS60 w0 _ g s0_0 t228 t229 from IsS60.q0 HI0.out) (kqR HO1.out) (by decide)) hk (fun _ h => h.2)) (fun _ h => h.1)) (Kept.of_keep (S := (fun k_ => (P1_ k_) ∨ k_ = g)) (by repeat (first | (with_reducible first | exact HK.out | apply Kept.alloc | apply Kept.drewN | apply Kept.drew | refine Kept.setCell ?_ (.inl (.inr rfl)) _) | exact HK.out)) hk (.inl (.inr rfl))) hb hi; clear HO1 HK HB HI0; obtain ⟨HO1, HK, HB, HI0⟩ := n_; (try clear hb hk hi)) | ((with_reducible refine gate_dst (N := 19) rfl ?_); refine Kd.R_lit (Kd.int .i64) _ 3 ?hg (N := 19) ?hd (xs := ([0, 1, 2, 4, 5, 6, 48, 127, 128, 129, 160, 255] : List Int)) (inner := [.int .i64 0, .int .i64 1, .int .i64 2, .int .i64 4, .int .i64 5, .int .i64 6, .int .i64 48, .int .i64 127, .int .i64 128, .int .i64 129, .int .i64 160, .int .i64 255]) (ok := fun _ => True) (okp := fun _ => True) ?hr ?hp (fun _ hk => hk) trivial (Below.refl _ _) (Nat.le_refl _) (by simp) ?_; (case hd => rfl); (case hg => rfl); (case hr => exact gs); (case hp => exact (Reps.one (ri 0) (Reps.one (ri 1) (Reps.one (ri 2) (Reps.one (ri 4) (Reps.one (ri 5) (Reps.one (ri 6) (Reps.one (ri 48) (Reps.one (ri 127) (Reps.one (ri 128) (Reps.one (ri 129) (Reps.one (ri 160) (Reps.one (ri 255) (Reps.none _ _)))))))))))))); intro v234 w15 ho16 hb hg_ hnew_; clear hg_ hnew_; (first | rw [← Ny233.out] at ho16 | (simp only [Int.reduceToNat] at ho16; rw [← Ny233.out] at ho16)); have n_ := ak5 (Kd.R_below (kqR HO1.out) hb) (Kd.R_lower (Kd.R_newM (M := fun k_ => (P1_ k_ ∨ w.heap.size ≤ k_)) ho16 (by first | exact HK.out.1 | exact (show Kept w _ (fun k_ => (P1_ k_) ∨ k_ = g) from by repeat (first | (with_reducible first | exact HK.out | apply Kept.alloc | apply Kept.drewN | apply Kept.drew | refine Kept.setCell ?_ (.inl (.inr rfl)) _) | exact HK.out)).1) (fun k_ h_ => .inr h_)) (below_size (bq1 HB.out (IsS60.ge HI0.out)))) (IsS60.below (IsS60.q0 HI0.out) hb) (Kept.below (S := (fun k_ => (P1_ k_) ∨ k_ = g)) (by repeat (first | (with_reducible first | exact HK.out | apply Kept.alloc | apply Kept.drewN | apply Kept.drew | refine Kept.setCell ?_ (.inl (.inr rfl)) _) | exact HK.out)) hb) (below_step (bq1 HB.out (IsS60.ge HI0.out)) hb); clear HO1 HI0 HK HB; obtain ⟨HO1, HO235, HI0, HK, HB⟩ := n_; clear hb ho16; obtain ⟨Ao17, co17, eo17⟩ := Kd.R_slice HO235.out; subst eo17) | ((with_reducible refine gate_callee (f := 42) rfl ?_); refine goesL_ (some 20) rfl rfl Tryd.func42 (by kernel_rfl) rfl #[.pointer (some ⟨g, 0, none⟩), .slice Ao17 y233.length co17] rfl ga ?_; (with_reducible refine (spec_l1Int.calls g s0_0 t231 t232 _ _ y233 t236 t237 t238 w0 _ ?side1 ?side2 ?side3 ?side4 ?side5 A8.out).mono ?_); (case side1 => exact IsS60.q0 HI0.out); (case side2 => exact bq1 HB.out (IsS60.ge HI0.out)); (case side3 => repeat (first | exact (Kd.R_reads' HO235.out).2.2 | (with_reducible refine Kd.C_alloc ?_ _) | (with_reducible refine Kd.C_drewN ?_ _) | (with_reducible refine Kd.C_drew ?_))); (case side4 => exact (Kd.R_reads' HO235.out).2.1); (case side5 => exact far_slice (IsS60.own_ne HI0.out HO235.out (by decide))); rintro e w18 ⟨rfl, hi, hb, hk⟩; refine ⟨_, rfl, ?_⟩; have n_ := ak5 (Kd.R_mono (Kd.R_keep (IsS60.apart (show IsS60 w0 _ g s0_0 t231 t232 from IsS60.q0 HI0.out) (kqR HO1.out) (by decide)) hk (fun _ h => h.2)) (fun _ h => h.1)) (Kd.R_mono (Kd.R_keep (IsS60.apart (show IsS60 w0 _ g s0_0 t231 t232 from IsS60.q0 HI0.out) (kqR HO235.out) (by decide)) hk (fun _ h => h.2)) (fun _ h => h.1)) (Kept.of_keep (S := (fun k_ => (P1_ k_) ∨ k_ = g)) (by repeat (first | (with_reducible first | exact HK.out | apply Kept.alloc | apply Kept.drewN | apply Kept.drew | refine Kept.setCell ?_ (.inl (.inr rfl)) _) | exact HK.out)) hk (.inl (.inr rfl))) hb hi; clear HO1 HO235 HK HB HI0; obtain ⟨HO1, HO235, HK, HB, HI0⟩ := n_; (try clear hb hk hi); have p11 : 0 ≤ (t230 : Int) := oda; have q11 : (t230 : Int) < ((l1.length : Int) : Int) := oda; obtain ⟨go11, co11, eo11, gb11, gl11, cl11, HG11⟩ := Kd.R_form HO1.out (by omega); (first | cases eo11 | (injection eo11 with ea_ en_ ec_; (first | subst ea_ | (injection ea_ with ea_; subst ea_)); subst ec_; clear en_)); have GB11 := am gb11; have GG11 := am HG11; clear gb11 gl11 HG11; have HMgo11 := am (show (P1_ go11 ∨ w.heap.size ≤ go11) from (HO1.out.1 _ rfl)); obtain ⟨hx11_0, hf11_0⟩ := Kd.R_celln 0 HO1.out (t230 : Int) p11 q11; replace p11 := eq_true p11; replace q11 := eq_true q11; obtain ⟨hy19_, hz19_⟩ := Kd.R_celln 0 HO1.out (t230 : Int) (oda) (oda); have HP19 := Kd.R_putg HO1.out (t230 : Int) ((t236) % 256)) | ((with_reducible refine gate_store (t := 5) (p := 22) rfl ?_); refine store_event (t := 5) (p := 22) (v := ?vo_w20) (w1 := (w18.setCell ⟨go11, (t230 : Int).toNat, none⟩ (.int .u8 ((t236) % 256)))) ?hg ?ho ?hn ?hr ?_; (case ho => rfl); (case hg => rfl); (case hn => rfl); (case hr => exact gs); intro w20 hw; have hg : w18.grownBy w20 (some go11) := (by rw [hw]; exact HP19.2); have hp_ : Kd.R (Kd.int .u8) 5 w20 w0.heap.size (fun k_ => (P1_ k_ ∨ w.heap.size ≤ k_)) (.slice (some ⟨go11, 0, none⟩) l1.length co12) y239 := (by rw [hw, Ny239.out]; exact HP19.1); clear HP19; have n_ := ak5 (IsS60.grown (IsS60.q0 HI0.out) hg (IsS60.own_ne HI0.out HO1.out (by decide))) hp_ (Kd.R_over' (v := (.slice (some ⟨go11, 0, none⟩) l1.length co12)) (kqR HO235.out) (Kd.R_typed HO1.out) (by decide) hg) ((by rw [hw]; exact below_set (HB.out) GB11.out : Below w0.heap.size w0 w20)) (Kept.of_grown (S := (fun k_ => (P1_ k_) ∨ k_ = g)) hg (by repeat (first | (with_reducible first | exact HK.out | apply Kept.alloc | apply Kept.drewN | apply Kept.drew | refine Kept.setCell ?_ (.inl (.inr rfl)) _) | exact HK.out)) (fun k_ e_ => Or.imp_left Or.inl ((HO1.out.1 k_ e_)))); clear HI0 HO1 HO235 HB HK; obtain ⟨HI0, HO1, HO235, HB, HK⟩ := n_; clear hg hw hp_))
   go_ret
   exact ⟨_, rq, kqR HO1.out, IsS60.q0 HI0.out, bq1 HB.out (IsS60.ge HI0.out), by repeat (first | (with_reducible first | exact HK.out | apply Kept.alloc | apply Kept.drewN | apply Kept.drew | refine Kept.setCell ?_ (.inl (.inr rfl)) _) | exact HK.out)⟩
 rw [if_neg c6] at H
 have c6b0 : (t227 == 0) = false := beq_eq_false_iff_ne.mpr c6
 have c6b1 : (t227 != 0) = true := bne_iff_ne.mpr c6
 by_cases c21 : t227 = 1
 · rw [if_pos c21] at H
   have c21b0 : (t227 == 1) = true := beq_iff_eq.mpr c21
   have c21b1 : (t227 != 1) = false := bne_eq_false_iff_eq.mpr c21
   clear c21
   by_cases c22 : l1.length < 140737488355328
   rotate_left
   · rw [if_neg c22] at H
     exact absurd H (by simp)
   rw [if_pos c22] at H
   have LMc22 := am c22
   clear c22
   obtain ⟨y240, hy240⟩ : ∃ y_ : List Int, y_ = (l1 ++ [3]) := ⟨_, rfl⟩
   replace H : (some (y240, t228, t229)) = some (r1, r2, r3) := hx H hy240
   have Ny240 := am hy240
   clear hy240
   simp only [Option.some.injEq, Prod.mk.injEq] at H
   obtain ⟨rfl, rfl, rfl⟩ := H
   obtain ⟨Ao23, co23, eo23⟩ := Kd.R_slice HO1.out
   subst eo23
   go_enter Tryd.func30, Tryd.ntmps30
   go_wp2_with (first | ((with_reducible refine gate_callee (f := 34) rfl ?_); refine goesL_ (some 10) rfl rfl Tryd.func34 (by kernel_rfl) rfl #[.pointer (some ⟨g, 0, none⟩), .int .i64 5] rfl ga ?_; (with_reducible refine (spec_l1Below.calls g s0_0 s0_1 s0_2 5 t227 t228 t229 w0 _ ?side1 ?side2 A5.out).mono ?_); (case side1 => exact IsS60.q0 HI0.out); (case side2 => exact bq1 HB.out (IsS60.ge HI0.out)); rintro e w24 ⟨rfl, hi, hb, hk⟩; refine ⟨_, rfl, ?_⟩; have n_ := ak4 (Kd.R_mono (Kd.R_keep (IsS60.apart (show IsS60 w0 _ g s0_0 s0_1 s0_2 from IsS60.q0 HI0.out) (kqR HO1.out) (by decide)) hk (fun _ h => h.2)) (fun _ h => h.1)) (Kept.of_keep (S := (fun k_ => (P1_ k_) ∨ k_ = g)) (by repeat (first | (with_reducible first | exact HK.out | apply Kept.alloc | apply Kept.drewN | apply Kept.drew | refine Kept.setCell ?_ (.inl (.inr rfl)) _) | exact HK.out)) hk (.inl (.inr rfl))) hb hi; clear HO1 HK HB HI0; obtain ⟨HO1, HK, HB, HI0⟩ := n_; (try clear hb hk hi)) | ((with_reducible refine gate_builtin (b := .append) (xs := #[.tmp 25, .tmp 26]) rfl ?_); at_builtin; refine Kd.R_append (Kd.int .u8) (w0 := w0) w0.heap.size rfl (.tmp 25) (.tmp 26) 28 5 (.int .u8 0) 1 rfl Tryd.underlying28 info5 rfl (by decide) (by omega) (.slice Ao23 l1.length co23) l1 3 [.int .u8 3] (fun k_ => (P1_ k_ ∨ w.heap.size ≤ k_)) (fun _ => False) rfl rfl ?aP (fun _ hk => hk.elim) ?aF ?aO ?aB ?aS ?aL ?_; (case aP => exact rfl); (case aB => exact (bq1 HB.out (IsS60.ge HI0.out))); (case aF => exact (fun k_ hk => (.inr (Nat.le_trans (by first | exact HK.out.1 | exact (show Kept w _ (fun k_ => (P1_ k_) ∨ k_ = g) from by repeat (first | (with_reducible first | exact HK.out | apply Kept.alloc | apply Kept.drewN | apply Kept.drew | refine Kept.setCell ?_ (.inl (.inr rfl)) _) | exact HK.out)).1) hk)))); (case aO => exact (kqR HO1.out)); (case aS => exact (below_size (bq1 HB.out (IsS60.ge HI0.out)))); (case aL => have := LMc22.out; omega); intro v241 w25 ho hb hg hat; rw [← Ny240.out] at ho; have n_ := ak4 (IsS60.grown (IsS60.q0 HI0.out) hg (IsS60.own_ne HI0.out HO1.out (by decide))) hb (Kept.of_grown (S := (fun k_ => (P1_ k_) ∨ k_ = g)) hg (by repeat (first | (with_reducible first | exact HK.out | apply Kept.alloc | apply Kept.drewN | apply Kept.drew | refine Kept.setCell ?_ (.inl (.inr rfl)) _) | exact HK.out)) (fun k_ e_ => Or.imp_left Or.inl ((HO1.out.1 k_ e_)))) ho; clear HI0 HB HK HO1; obtain ⟨HI0, HB, HK, HO242⟩ := n_; clear ho hb hg hat))
   go_ret
   exact ⟨_, rq, kqR HO242.out, IsS60.q0 HI0.out, bq1 HB.out (IsS60.ge HI0.out), by repeat (first | (with_reducible first | exact HK.out | apply Kept.alloc | apply Kept.drewN | apply Kept.drew | refine Kept.setCell ?_ (.inl (.inr rfl)) _) | exact HK.out)⟩
 rw [if_neg c21] at H
 have c21b0 : (t227 == 1) = false := beq_eq_false_iff_ne.mpr c21
 have c21b1 : (t227 != 1) = true := bne_iff_ne.mpr c21
 by_cases c26 : t227 = 2
 rotate_left
 · rw [if_neg c26] at H
   have c26b0 : (t227 == 2) = false := beq_eq_false_iff_ne.mpr c26
   have c26b1 : (t227 != 2) = true := bne_iff_ne.mpr c26
   simp only [Option.some.injEq, Prod.mk.injEq] at H
   obtain ⟨rfl, rfl, rfl⟩ := H
   obtain ⟨Ao34, co34, eo34⟩ := Kd.R_slice HO1.out
   subst eo34
   go_enter Tryd.func30, Tryd.ntmps30
   go_wp2_with (first | ((with_reducible refine gate_callee (f := 34) rfl ?_); refine goesL_ (some 10) rfl rfl Tryd.func34 (by kernel_rfl) rfl #[.pointer (some ⟨g, 0, none⟩), .int .i64 5] rfl ga ?_; (with_reducible refine (spec_l1Below.calls g s0_0 s0_1 s0_2 5 t227 t228 t229 w0 _ ?side1 ?side2 A5.out).mono ?_); (case side1 => exact IsS60.q0 HI0.out); (case side2 => exact bq1 HB.out (IsS60.ge HI0.out)); rintro e w35 ⟨rfl, hi, hb, hk⟩; refine ⟨_, rfl, ?_⟩; have n_ := ak4 (Kd.R_mono (Kd.R_keep (IsS60.apart (show IsS60 w0 _ g s0_0 s0_1 s0_2 from IsS60.q0 HI0.out) (kqR HO1.out) (by decide)) hk (fun _ h => h.2)) (fun _ h => h.1)) (Kept.of_keep (S := (fun k_ => (P1_ k_) ∨ k_ = g)) (by repeat (first | (with_reducible first | exact HK.out | apply Kept.alloc | apply Kept.drewN | apply Kept.drew | refine Kept.setCell ?_ (.inl (.inr rfl)) _) | exact HK.out)) hk (.inl (.inr rfl))) hb hi; clear HO1 HK HB HI0; obtain ⟨HO1, HK, HB, HI0⟩ := n_; (try clear hb hk hi)))
   go_ret
   exact ⟨_, rq, kqR HO1.out, IsS60.q0 HI0.out, bq1 HB.out (IsS60.ge HI0.out), by repeat (first | (with_reducible first | exact HK.out | apply Kept.alloc | apply Kept.drewN | apply Kept.drew | refine Kept.setCell ?_ (.inl (.inr rfl)) _) | exact HK.out)⟩
 rw [if_pos c26] at H
 have c26b0 : (t227 == 2) = true := beq_iff_eq.mpr c26
 have c26b1 : (t227 != 2) = false := bne_eq_false_iff_eq.mpr c26
 clear c26
 replace H := Option.bind_eq_some_iff.mp H
 obtain ⟨⟨t243, t244, t245⟩, A270, H⟩ := H
 replace H : (if 0 ≤ t243 then (if t243 ≤ (l1.length : Int) then (some ((l1.take (t243 : Int).toNat), t244, t245)) else (none)) else (none)) = some (r1, r2, r3) := H
 have A27 := am A270
 clear A270
 by_cases c28 : 0 ≤ t243
 rotate_left
 · rw [if_neg c28] at H
   exact absurd H (by simp)
 rw [if_pos c28] at H
 have c28b0 := eq_true c28
 have c28b1 : decide (0 ≤ t243) = true := decide_eq_true c28
 clear c28
 by_cases c29 : t243 ≤ (l1.length : Int)
 rotate_left
 · rw [if_neg c29] at H
   exact absurd H (by simp)
 rw [if_pos c29] at H
 have c29b0 := eq_true c29
 have c29b1 : decide (t243 ≤ (l1.length : Int)) = true := decide_eq_true c29
 clear c29
 obtain ⟨y246, hy246⟩ : ∃ y_ : List Int, y_ = (l1.take (t243 : Int).toNat) := ⟨_, rfl⟩
 replace H : (some (y246, t244, t245)) = some (r1, r2, r3) := hx H hy246
 have Ny246 := am hy246
 clear hy246
 simp only [Option.some.injEq, Prod.mk.injEq] at H
 obtain ⟨rfl, rfl, rfl⟩ := H
 obtain ⟨Ao30, co30, eo30⟩ := Kd.R_slice HO1.out
 subst eo30
 go_enter Tryd.func30, Tryd.ntmps30
 go_wp2_with (first | ((with_reducible refine gate_callee (f := 34) rfl ?_); refine goesL_ (some 10) rfl rfl Tryd.func34 (by kernel_rfl) rfl #[.pointer (some ⟨g, 0, none⟩), .int .i64 5] rfl ga ?_; (with_reducible refine (spec_l1Below.calls g s0_0 s0_1 s0_2 5 t227 t228 t229 w0 _ ?side1 ?side2 A5.out).mono ?_); (case side1 => exact IsS60.q0 HI0.out); (case side2 => exact bq1 HB.out (IsS60.ge HI0.out)); rintro e w31 ⟨rfl, hi, hb, hk⟩; refine ⟨_, rfl, ?_⟩; have n_ := ak4 (Kd.R_mono (Kd.R_keep (IsS60.apart (show IsS60 w0 _ g s0_0 s0_1 s0_2 from IsS60.q0 HI0.out) (kqR HO1.out) (by decide)) hk (fun _ h => h.2)) (fun _ h => h.1)) (Kept.of_keep (S := (fun k_ => (P1_ k_) ∨ k_ = g)) (by repeat (first | (with_reducible first | exact HK.out | apply Kept.alloc | apply Kept.drewN | apply Kept.drew | refine Kept.setCell ?_ (.inl (.inr rfl)) _) | exact HK.out)) hk (.inl (.inr rfl))) hb hi; clear HO1 HK HB HI0; obtain ⟨HO1, HK, HB, HI0⟩ := n_; (try clear hb hk hi)) | ((with_reducible refine gate_callee (f := 34) rfl ?_); refine goesL_ (some 34) rfl rfl Tryd.func34 (by kernel_rfl) rfl #[.pointer (some ⟨g, 0, none⟩), .int .i64 (l1.length : Int)] rfl ga ?_; (with_reducible refine (spec_l1Below.calls g s0_0 t228 t229 (l1.length : Int) t243 t244 t245 w0 _ ?side1 ?side2 A27.out).mono ?_); (case side1 => exact IsS60.q0 HI0.out); (case side2 => exact bq1 HB.out (IsS60.ge HI0.out)); rintro e w32 ⟨rfl, hi, hb, hk⟩; refine ⟨_, rfl, ?_⟩; have n_ := ak4 (Kd.R_mono (Kd.R_keep (IsS60.apart (show IsS60 w0 _ g s0_0 t228 t229 from IsS60.q0 HI0.out) (kqR HO1.out) (by decide)) hk (fun _ h => h.2)) (fun _ h => h.1)) (Kept.of_keep (S := (fun k_ => (P1_ k_) ∨ k_ = g)) (by repeat (first | (with_reducible first | exact HK.out | apply Kept.alloc | apply Kept.drewN | apply Kept.drew | refine Kept.setCell ?_ (.inl (.inr rfl)) _) | exact HK.out)) hk (.inl (.inr rfl))) hb hi; clear HO1 HK HB HI0; obtain ⟨HO1, HK, HB, HI0⟩ := n_; (try clear hb hk hi); have q33 : (t243 : Int) ≤ ((l1.length : Int) : Int) := oda; obtain ⟨i033, hi033, _, hsz33, _⟩ := info_parts info5; have hcut33 := cut_to (P := Tryd.prog) 28 5 .i64 Tryd.underlying28 hi033 Ao30 l1.length co30 t243 (oda) q33 (Kd.R_reads' HO1.out).2.1; have hr33 := Kd.R_take (m := (t243 : Int).toNat) HO1.out (by omega); have hy33 : y246.length = (t243 : Int).toNat := (by rw [Ny246.out, List.length_take]; omega); rw [← Ny246.out] at hr33; rw [← hy33] at hr33 hcut33; clear hy33 hi033 hsz33 HO1; have HO248 := am hr33; clear hr33; replace q33 := eq_true q33))
 go_ret
 exact ⟨_, rq, kqR HO248.out, IsS60.q0 HI0.out, bq1 HB.out (IsS60.ge HI0.out), by repeat (first | (with_reducible first | exact HK.out | apply Kept.alloc | apply Kept.drewN | apply Kept.drew | refine Kept.setCell ?_ (.inl (.inr rfl)) _) | exact HK.out)⟩

end Go.Proofs.YtgjhmbneikpiaaaDoor.XFnOids
