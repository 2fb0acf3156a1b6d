/- The functions that one law reaches, as Lean functions, with their walks: printed by a program of this seat (wip/tools) out of the translation. -/
import Derived.Test.YtgjhmbneikpiaaaDoorXFnExactParseOidx0
import Derived.Test.YtgjhmbneikpiaaaDoorXFnExactParseOidx1
import Derived.Test.YtgjhmbneikpiaaaDoorXFnExactParseOidx2
namespace Go.Proofs.YtgjhmbneikpiaaaDoor.XFnExactParseOid
open Go.RowKit Go.Proofs.YtgjhmbneikpiaaaDoorW.PrintWords Go.Proofs.YtgjhmbneikpiaaaDoorW.PrintLast Go.Proofs.YtgjhmbneikpiaaaDoorW.PrintMore
attribute [local go_sem] max2_int min2_int max_two min_two max_three min_three max_four min_four   -- for this text's walks alone
set_option linter.unusedVariables false
set_option linter.unusedSimpArgs false

/-! ### laws_FnExactParseOid: function 3 -/
mutual
def laws_FnExactParseOid.j0 : Nat → ByteArray → List Int → Bool → List Int → Bool → Option (Bool)
 | 0, _, _, _, _, _ => none
 | k + 1, x0, x3, x4, x5, x32 => if x32 = true then (some false) else ((laws_markIntS.f k x5 1).bind fun bt164 => ((laws_heldIntS.f k bt164.2 1).bind fun t166 => (if t166 < 0 then (some false) else (if t166 = bt164.1 then ((impl_ParseOid.f k x0).bind fun bt167 => ((laws_eqIntS.f k bt167.1 x3).bind fun t171 => (if t171 = true then (laws_FnExactParseOid.j1 k bt164.2 bt164.1 (bt167.2 != x4)) else (laws_FnExactParseOid.j1 k bt164.2 bt164.1 true)))) else (some false)))))
def laws_FnExactParseOid.j1 : Nat → List Int → Int → Bool → Option (Bool)
 | 0, _, _, _ => none
 | k + 1, x5, x7, x57 => if x57 = true then (some false) else ((laws_heldIntS.f k x5 1).bind fun t172 => (if t172 < 0 then (some false) else (if t172 = x7 then (some true) else (some false))))
end
def laws_FnExactParseOid.f (k : Nat) (a0 : ByteArray) : Option (Bool) := if (a0.size : Int) > 1048576 then (some true) else ((spec_ParseOid.f k a0).bind fun bt155 => ((impl_ParseOid.f k a0).bind fun bt159 => ((laws_eqIntS.f k bt159.1 bt155.1).bind fun t163 => (if t163 = true then (laws_FnExactParseOid.j0 k a0 bt155.1 bt155.2 bt159.1 (bt159.2 != bt155.2)) else (laws_FnExactParseOid.j0 k a0 bt155.1 bt155.2 bt159.1 true)))))
theorem laws_FnExactParseOid.mono_l : ∀ k, (∀ y0 y1 y2 y3 y4, LeO (laws_FnExactParseOid.j0 k y0 y1 y2 y3 y4) (laws_FnExactParseOid.j0 (k + 1) y0 y1 y2 y3 y4)) ∧ (∀ y0 y1 y2, LeO (laws_FnExactParseOid.j1 k y0 y1 y2) (laws_FnExactParseOid.j1 (k + 1) y0 y1 y2))
 | 0 => ⟨fun _ _ _ _ _ r h => by simp [laws_FnExactParseOid.j0] at h, fun _ _ _ r h => by simp [laws_FnExactParseOid.j1] at h⟩
 | k + 1 => by
  obtain ⟨ih0, ih1⟩ := laws_FnExactParseOid.mono_l k
  refine ⟨?_, ?_⟩
  · intro y0 y1 y2 y3 y4
    unfold laws_FnExactParseOid.j0
    repeat' first
    | (with_reducible exact ih0 _ _ _ _ _)
    | (with_reducible exact ih1 _ _ _)
    | (with_reducible exact impl_ParseOid.mono _ _)
    | (with_reducible exact laws_eqIntS.mono _ _ _)
    | (with_reducible exact laws_heldIntS.mono _ _ _)
    | (with_reducible exact laws_markIntS.mono _ _ _)
    | (with_reducible exact spec_ParseOid.mono _ _)
    | (with_reducible exact LeO.refl _)
    | (with_reducible exact LeO.none _)
    | (with_reducible refine LeO.ite ?_ ?_)
    | (with_reducible refine LeO.bind ?_ (fun _ => ?_))
    | exact ih0 _ _ _ _ _
    | exact ih1 _ _ _
    | exact impl_ParseOid.mono _ _
    | exact laws_eqIntS.mono _ _ _
    | exact laws_heldIntS.mono _ _ _
    | exact laws_markIntS.mono _ _ _
    | exact spec_ParseOid.mono _ _
    | exact LeO.none _
    | refine LeO.ite ?_ ?_
    | refine LeO.bind ?_ (fun _ => ?_)
  intro y0 y1 y2
  unfold laws_FnExactParseOid.j1
  repeat' first
  | (with_reducible exact ih0 _ _ _ _ _)
  | (with_reducible exact ih1 _ _ _)
  | (with_reducible exact impl_ParseOid.mono _ _)
  | (with_reducible exact laws_eqIntS.mono _ _ _)
  | (with_reducible exact laws_heldIntS.mono _ _ _)
  | (with_reducible exact laws_markIntS.mono _ _ _)
  | (with_reducible exact spec_ParseOid.mono _ _)
  | (with_reducible exact LeO.refl _)
  | (with_reducible exact LeO.none _)
  | (with_reducible refine LeO.ite ?_ ?_)
  | (with_reducible refine LeO.bind ?_ (fun _ => ?_))
  | exact ih0 _ _ _ _ _
  | exact ih1 _ _ _
  | exact impl_ParseOid.mono _ _
  | exact laws_eqIntS.mono _ _ _
  | exact laws_heldIntS.mono _ _ _
  | exact laws_markIntS.mono _ _ _
  | exact spec_ParseOid.mono _ _
  | exact LeO.none _
  | refine LeO.ite ?_ ?_
  | refine LeO.bind ?_ (fun _ => ?_)
theorem laws_FnExactParseOid.mono : ∀ a0 k, LeO (laws_FnExactParseOid.f k a0) (laws_FnExactParseOid.f (k + 1) a0) := by
 intro a0 k
 obtain ⟨ih0, ih1⟩ := laws_FnExactParseOid.mono_l k
 unfold laws_FnExactParseOid.f
 repeat' first
  | (with_reducible exact ih0 _ _ _ _ _)
  | (with_reducible exact ih1 _ _ _)
  | (with_reducible exact impl_ParseOid.mono _ _)
  | (with_reducible exact laws_eqIntS.mono _ _ _)
  | (with_reducible exact laws_heldIntS.mono _ _ _)
  | (with_reducible exact laws_markIntS.mono _ _ _)
  | (with_reducible exact spec_ParseOid.mono _ _)
  | (with_reducible exact LeO.refl _)
  | (with_reducible exact LeO.none _)
  | (with_reducible refine LeO.ite ?_ ?_)
  | (with_reducible refine LeO.bind ?_ (fun _ => ?_))
  | exact ih0 _ _ _ _ _
  | exact ih1 _ _ _
  | exact impl_ParseOid.mono _ _
  | exact laws_eqIntS.mono _ _ _
  | exact laws_heldIntS.mono _ _ _
  | exact laws_markIntS.mono _ _ _
  | exact spec_ParseOid.mono _ _
  | exact LeO.none _
  | refine LeO.ite ?_ ?_
  | refine LeO.bind ?_ (fun _ => ?_)
set_option maxHeartbeats 8000000 in
set_option maxRecDepth 100000 in
theorem laws_FnExactParseOid.calls (k : Nat) (a0 : ByteArray) (r : Bool) (w : World) (hr_ : r = true) (hT_ : HTab w) (h : laws_FnExactParseOid.f k a0 = some r) :
 Calls Tryd.prog 3 #[.string a0] w fun e w' => e = .returned (.bool r) ∧ Below w.heap.size w w' := by
 have HRT := am hr_
 clear hr_
 have HB := am (Below.refl w.heap.size w)
 have H : (if (a0.size : Int) > 1048576 then (some true) else ((spec_ParseOid.f k a0).bind fun bt155 => ((impl_ParseOid.f k a0).bind fun bt159 => ((laws_eqIntS.f k bt159.1 bt155.1).bind fun t163 => (if t163 = true then (laws_FnExactParseOid.j0 k a0 bt155.1 bt155.2 bt159.1 (bt159.2 != bt155.2)) else (laws_FnExactParseOid.j0 k a0 bt155.1 bt155.2 bt159.1 true)))))) = some r := h
 clear h
 by_cases c2 : (a0.size : Int) > 1048576
 · rw [if_pos c2] at H
   have c2b0 : decide (1048576 < (a0.size : Int)) = true := decide_eq_true c2
   have c2b1 : decide (1048576 < a0.size) = true := decide_eq_true (by omega)
   clear c2
   obtain rfl := Option.some.inj H
   go_enter Tryd.func3, Tryd.ntmps3
   go_wp2
   go_ret
   exact ⟨rq, bq HB.out⟩
 rw [if_neg c2] at H
 have c2b0 : decide (1048576 < (a0.size : Int)) = false := decide_eq_false c2
 have c2b1 : decide (1048576 < a0.size) = false := decide_eq_false (by omega)
 clear c2
 replace H := Option.bind_eq_some_iff.mp H
 obtain ⟨⟨t155, t156⟩, A30, H⟩ := H
 replace H : ((impl_ParseOid.f k a0).bind fun bt159 => ((laws_eqIntS.f k bt159.1 t155).bind fun t163 => (if t163 = true then (laws_FnExactParseOid.j0 k a0 t155 t156 bt159.1 (bt159.2 != t156)) else (laws_FnExactParseOid.j0 k a0 t155 t156 bt159.1 true)))) = some r := H
 have A3 := am A30
 clear A30
 replace H := Option.bind_eq_some_iff.mp H
 obtain ⟨⟨t159, t160⟩, A40, H⟩ := H
 replace H : ((laws_eqIntS.f k t159 t155).bind fun t163 => (if t163 = true then (laws_FnExactParseOid.j0 k a0 t155 t156 t159 (t160 != t156)) else (laws_FnExactParseOid.j0 k a0 t155 t156 t159 true))) = some r := H
 have A4 := am A40
 clear A40
 have HC5 := am H
 clear H
 go_enter Tryd.func3, Tryd.ntmps3
 go_upto_region 5 with (first | ((with_reducible refine gate_callee (f := 5) rfl ?_); refine goesL_ (some 16) rfl rfl Tryd.func5 (by kernel_rfl) rfl #[.string a0] rfl ga ?_; (with_reducible refine (spec_ParseOid.calls k a0 t155 t156 _ A3.out).mono ?_); rintro e w6 ⟨v157, rfl, ho0, hb⟩; refine ⟨_, rfl, ?_⟩; have n_ := ak2 (Kd.R_lower ho0 (below_size (bq HB.out))) (below_step (bq HB.out) hb); clear HB; obtain ⟨HO158, HB⟩ := n_; (try clear hb ho0)) | ((with_reducible refine gate_callee (f := 6) rfl ?_); refine goesL_ (some 21) rfl rfl Tryd.func6 (by kernel_rfl) rfl #[.string a0] rfl ga ?_; (with_reducible refine (impl_ParseOid.calls k a0 t159 t160 _ (tab_below hT_ (bq HB.out)) A4.out).mono ?_); rintro e w7 ⟨v161, rfl, ho0, hb⟩; refine ⟨_, rfl, ?_⟩; have n_ := ak3 (Kd.R_elder' (kqR HO158.out) (Kd.R_base ho0) hb) (Kd.R_lower (Kd.R_new' ho0 (Kd.R_lt (kqR HO158.out))) (below_size (bq HB.out))) (below_step (bq HB.out) hb); clear HO158 HB; obtain ⟨HO158, HO162, HB⟩ := n_; (try clear hb ho0)))
 (try simp only [Act.put, List.setIfInBounds_toArray, List.set_cons_zero, List.set_cons_succ])
 go_cut [32] (fun v32 wc => ∃ (kq : Nat) (x32_4 : Bool), v32 = .bool x32_4 ∧ Aside0 (laws_FnExactParseOid.j0 kq a0 t155 t156 t159 x32_4 = some r) ∧ Aside0 (kq ≤ k) ∧ Aside0 (Kd.R (Kd.int .i64) 3 wc w.heap.size (fun k_ => some k_ ≠ (v161 : Value).ownBlock) v157 t155) ∧ Aside0 (Kd.R (Kd.int .i64) 3 wc w.heap.size (fun k_ => some k_ ≠ (v157 : Value).ownBlock) v161 t159) ∧ Aside0 (Below w.heap.size w wc))
 case first =>
  have H := HC5.out
  clear HC5
  replace H := Option.bind_eq_some_iff.mp H
  obtain ⟨t163, A80, H⟩ := H
  replace H : (if t163 = true then (laws_FnExactParseOid.j0 k a0 t155 t156 t159 (t160 != t156)) else (laws_FnExactParseOid.j0 k a0 t155 t156 t159 true)) = some r := H
  have A8 := am A80
  clear A80
  by_cases c9 : t163 = true
  · subst c9
    replace H : (laws_FnExactParseOid.j0 k a0 t155 t156 t159 (t160 != t156)) = some r := by rw [if_pos rfl] at H; exact H
    have H' := am H
    clear H
    obtain ⟨Ao10, co10, eo10⟩ := Kd.R_slice HO162.out
    subst eo10
    obtain ⟨Ao11, co11, eo11⟩ := Kd.R_slice HO158.out
    subst eo11
    go_wp2_with (first | ((with_reducible refine gate_callee (f := 7) rfl ?_); refine goesL_ (some 26) rfl rfl Tryd.func7 (by kernel_rfl) rfl #[.slice Ao10 t159.length co10, .slice Ao11 t155.length co11] rfl ga ?_; (with_reducible refine (laws_eqIntS.calls k _ _ t159 _ _ t155 true _ ?side1 ?side2 ?side3 ?side4 A8.out).mono ?_); (case side1 => repeat (first | exact (Kd.R_reads' HO162.out).2.2 | (with_reducible refine Kd.C_alloc ?_ _) | (with_reducible refine Kd.C_drewN ?_ _) | (with_reducible refine Kd.C_drew ?_))); (case side2 => exact (Kd.R_reads' HO162.out).2.1); (case side3 => repeat (first | exact (Kd.R_reads' HO158.out).2.2 | (with_reducible refine Kd.C_alloc ?_ _) | (with_reducible refine Kd.C_drewN ?_ _) | (with_reducible refine Kd.C_drew ?_))); (case side4 => exact (Kd.R_reads' HO158.out).2.1); rintro e w' ⟨rfl, ⟨nd, rfl⟩⟩; refine ⟨_, rfl, ?_⟩))
    go_meet
    case rel => exact ⟨_, ((t160 != t156)), sq, H', ⟨by first | omega | exact Nat.le_refl _⟩, ⟨by refine kr ?_; exact Kd.R_mono HO158.out (fun _ hk => hk.2)⟩, ⟨by refine kr ?_; exact Kd.R_mono HO162.out (fun _ hk => hk.2)⟩, ⟨bq HB.out⟩⟩
  replace c9 := Bool.eq_false_iff.mpr c9
  subst c9
  replace H : (laws_FnExactParseOid.j0 k a0 t155 t156 t159 true) = some r := by rw [if_neg (show ¬ (false = true) by decide)] at H; exact H
  have H' := am H
  clear H
  obtain ⟨Ao12, co12, eo12⟩ := Kd.R_slice HO162.out
  subst eo12
  obtain ⟨Ao13, co13, eo13⟩ := Kd.R_slice HO158.out
  subst eo13
  go_wp2_with (first | ((with_reducible refine gate_callee (f := 7) rfl ?_); refine goesL_ (some 26) rfl rfl Tryd.func7 (by kernel_rfl) rfl #[.slice Ao12 t159.length co12, .slice Ao13 t155.length co13] rfl ga ?_; (with_reducible refine (laws_eqIntS.calls k _ _ t159 _ _ t155 false _ ?side1 ?side2 ?side3 ?side4 A8.out).mono ?_); (case side1 => repeat (first | exact (Kd.R_reads' HO162.out).2.2 | (with_reducible refine Kd.C_alloc ?_ _) | (with_reducible refine Kd.C_drewN ?_ _) | (with_reducible refine Kd.C_drew ?_))); (case side2 => exact (Kd.R_reads' HO162.out).2.1); (case side3 => repeat (first | exact (Kd.R_reads' HO158.out).2.2 | (with_reducible refine Kd.C_alloc ?_ _) | (with_reducible refine Kd.C_drewN ?_ _) | (with_reducible refine Kd.C_drew ?_))); (case side4 => exact (Kd.R_reads' HO158.out).2.1); rintro e w' ⟨rfl, ⟨nd, rfl⟩⟩; refine ⟨_, rfl, ?_⟩))
  go_meet
  case rel => exact ⟨_, (true), sq, H', ⟨by first | omega | exact Nat.le_refl _⟩, ⟨by refine kr ?_; exact Kd.R_mono HO158.out (fun _ hk => hk.2)⟩, ⟨by refine kr ?_; exact Kd.R_mono HO162.out (fun _ hk => hk.2)⟩, ⟨bq HB.out⟩⟩
 case rest =>
  clear HC5
  try clear c2
  try clear c2b0
  try clear c2b1
  try clear p2
  try clear c3
  try clear c5
  try clear c6
  try clear c7
  try clear c9
  obtain ⟨kq, x32_4, rfl, HA, HJ4, HO_3, HO_5, HB⟩ := hcut
  cases kq with
  | zero => exact absurd HA.out (by simp [laws_FnExactParseOid.j0])
  | succ kj4 =>
   have H := HA.out
   clear HA
   simp only [laws_FnExactParseOid.j0] at H
   by_cases c14 : x32_4 = true
   · subst c14
     replace H : (some false) = some r := by rw [if_pos rfl] at H; exact H
     exact absurd ((Option.some.inj H).trans HRT.out) (by decide)
   replace c14 := Bool.eq_false_iff.mpr c14
   subst c14
   replace H : ((laws_markIntS.f kj4 t159 1).bind fun bt164 => ((laws_heldIntS.f kj4 bt164.2 1).bind fun t166 => (if t166 < 0 then (some false) else (if t166 = bt164.1 then ((impl_ParseOid.f kj4 a0).bind fun bt167 => ((laws_eqIntS.f kj4 bt167.1 t155).bind fun t171 => (if t171 = true then (laws_FnExactParseOid.j1 kj4 bt164.2 bt164.1 (bt167.2 != t156)) else (laws_FnExactParseOid.j1 kj4 bt164.2 bt164.1 true)))) else (some false))))) = some r := by rw [if_neg (show ¬ (false = true) by decide)] at H; exact H
   replace H := Option.bind_eq_some_iff.mp H
   obtain ⟨⟨t164, t165⟩, A150, H⟩ := H
   replace H : ((laws_heldIntS.f kj4 t165 1).bind fun t166 => (if t166 < 0 then (some false) else (if t166 = t164 then ((impl_ParseOid.f kj4 a0).bind fun bt167 => ((laws_eqIntS.f kj4 bt167.1 t155).bind fun t171 => (if t171 = true then (laws_FnExactParseOid.j1 kj4 t165 t164 (bt167.2 != t156)) else (laws_FnExactParseOid.j1 kj4 t165 t164 true)))) else (some false)))) = some r := H
   have A15 := am A150
   clear A150
   replace H := Option.bind_eq_some_iff.mp H
   obtain ⟨t166, A160, H⟩ := H
   replace H : (if t166 < 0 then (some false) else (if t166 = t164 then ((impl_ParseOid.f kj4 a0).bind fun bt167 => ((laws_eqIntS.f kj4 bt167.1 t155).bind fun t171 => (if t171 = true then (laws_FnExactParseOid.j1 kj4 t165 t164 (bt167.2 != t156)) else (laws_FnExactParseOid.j1 kj4 t165 t164 true)))) else (some false))) = some r := H
   have A16 := am A160
   clear A160
   by_cases c17 : t166 < 0
   · rw [if_pos c17] at H
     have c17b0 : decide (t166 < 0) = true := decide_eq_true c17
     clear c17
     exact absurd ((Option.some.inj H).trans HRT.out) (by decide)
   rw [if_neg c17] at H
   have c17b0 : decide (t166 < 0) = false := decide_eq_false c17
   clear c17
   by_cases c18 : t166 = t164
   rotate_left
   · rw [if_neg c18] at H
     have c18b0 : (t166 == t164) = false := beq_eq_false_iff_ne.mpr c18
     have c18b1 : (t166 != t164) = true := bne_iff_ne.mpr c18
     exact absurd ((Option.some.inj H).trans HRT.out) (by decide)
   rw [if_pos c18] at H
   have c18b0 : (t166 == t164) = true := beq_iff_eq.mpr c18
   have c18b1 : (t166 != t164) = false := bne_eq_false_iff_eq.mpr c18
   clear c18
   replace H := Option.bind_eq_some_iff.mp H
   obtain ⟨⟨t167, t168⟩, A190, H⟩ := H
   replace H : ((laws_eqIntS.f kj4 t167 t155).bind fun t171 => (if t171 = true then (laws_FnExactParseOid.j1 kj4 t165 t164 (t168 != t156)) else (laws_FnExactParseOid.j1 kj4 t165 t164 true))) = some r := H
   have A19 := am A190
   clear A190
   have HC20 := am H
   clear H
   obtain ⟨Ao21, co21, eo21⟩ := Kd.R_slice HO_5.out
   subst eo21
   go_upto_region 16 with (first | ((with_reducible refine gate_callee (f := 8) rfl ?_); refine goesL_ (some 35) rfl rfl Tryd.func8 (by kernel_rfl) rfl #[.slice Ao21 t159.length co21, .int .i64 1] rfl ga ?_; (with_reducible refine (laws_markIntS.calls kj4 (fun k_ => some k_ = (.slice Ao21 t159.length co21 : Value).ownBlock) (.slice Ao21 t159.length co21) t159 1 t164 t165 w _ ?side1 ?side2 A15.out).mono ?_); (case side1 => exact bq HB.out); (case side2 => exact Kd.R_tight rfl HO_5.out); rintro e w22 ⟨rfl, hy0, hb, hkp⟩; refine ⟨_, rfl, ?_⟩; have n_ := ak3 (Kd.R_mono (ok' := fun k_ => some k_ ≠ (.slice Ao21 t159.length co21 : Value).ownBlock) (Kd.R_keptB (HO_3.out) hkp (fun k_ hk_ hs_ => (hk_) hs_)) (fun k_ hk_ => hk_.1)) (Kd.R_reok rfl hy0 (fun k_ e_ => HO_5.out.1 k_ e_)) hb; clear HO_3 HO_5 HB; obtain ⟨HO_3, HO_5, HB⟩ := n_; (try clear hb hkp hy0)) | ((with_reducible refine gate_callee (f := 9) rfl ?_); refine goesL_ (some 38) rfl rfl Tryd.func9 (by kernel_rfl) rfl #[.slice Ao21 t165.length co21, .int .i64 1] rfl (by (try simp only [List.map_toArray, List.map_cons, List.map_nil]); first | done | (rw [show t165.length = t159.length from (Kd.R_reads' HO_5.out).1.symm] <;> rfl) | rfl | (simp only [List.length_drop, List.length_take]; rfl)) ?_; (with_reducible refine (laws_heldIntS.calls kj4 _ _ t165 1 t166 _ ?side1 ?side2 A16.out).mono ?_); (case side1 => repeat (first | exact (Kd.R_reads' HO_5.out).2.2 | (with_reducible refine Kd.C_alloc ?_ _) | (with_reducible refine Kd.C_drewN ?_ _) | (with_reducible refine Kd.C_drew ?_))); (case side2 => rw [show t165.length = t159.length from (Kd.R_reads' HO_5.out).1.symm]; exact (Kd.R_reads' HO_5.out).2.1); rintro e w' ⟨rfl, ⟨nd, rfl⟩⟩; refine ⟨_, rfl, ?_⟩) | ((with_reducible refine gate_callee (f := 6) rfl ?_); refine goesL_ (some 46) rfl rfl Tryd.func6 (by kernel_rfl) rfl #[.string a0] rfl ga ?_; (with_reducible refine (impl_ParseOid.calls kj4 a0 t167 t168 _ (tab_below hT_ (bq HB.out)) A19.out).mono ?_); rintro e w23 ⟨v169, rfl, ho0, hb⟩; refine ⟨_, rfl, ?_⟩; have n_ := ak4 (Kd.R_elder' (kqR HO_3.out) (Kd.R_base ho0) hb) (Kd.R_elder' (kqR HO_5.out) (Kd.R_base ho0) hb) (Kd.R_lower (Kd.R_new' (Kd.R_new' ho0 (Kd.R_lt (kqR HO_3.out))) (Kd.R_lt (kqR HO_5.out))) (below_size (bq HB.out))) (below_step (bq HB.out) hb); clear HO_3 HO_5 HB; obtain ⟨HO_3, HO_5, HO170, HB⟩ := n_; (try clear hb ho0)))
   (try simp only [Act.put, List.setIfInBounds_toArray, List.set_cons_zero, List.set_cons_succ])
   go_cut [57] (fun v57 wc => ∃ (kq : Nat) (x57_19 : Bool), v57 = .bool x57_19 ∧ Aside0 (laws_FnExactParseOid.j1 kq t165 t164 x57_19 = some r) ∧ Aside0 (kq ≤ kj4) ∧ Aside0 (Kd.R (Kd.int .i64) 3 wc w.heap.size (fun _ => True) (.slice Ao21 t159.length co21) t165) ∧ Aside0 (Below w.heap.size w wc))
   case first =>
    have H := HC20.out
    clear HC20
    replace H := Option.bind_eq_some_iff.mp H
    obtain ⟨t171, A240, H⟩ := H
    replace H : (if t171 = true then (laws_FnExactParseOid.j1 kj4 t165 t164 (t168 != t156)) else (laws_FnExactParseOid.j1 kj4 t165 t164 true)) = some r := H
    have A24 := am A240
    clear A240
    by_cases c25 : t171 = true
    · subst c25
      replace H : (laws_FnExactParseOid.j1 kj4 t165 t164 (t168 != t156)) = some r := by rw [if_pos rfl] at H; exact H
      have H' := am H
      clear H
      obtain ⟨Ao26, co26, eo26⟩ := Kd.R_slice HO170.out
      subst eo26
      obtain ⟨Ao27, co27, eo27⟩ := Kd.R_slice HO_3.out
      subst eo27
      go_wp2_with (first | ((with_reducible refine gate_callee (f := 7) rfl ?_); refine goesL_ (some 51) rfl rfl Tryd.func7 (by kernel_rfl) rfl #[.slice Ao26 t167.length co26, .slice Ao27 t155.length co27] rfl ga ?_; (with_reducible refine (laws_eqIntS.calls kj4 _ _ t167 _ _ t155 true _ ?side1 ?side2 ?side3 ?side4 A24.out).mono ?_); (case side1 => repeat (first | exact (Kd.R_reads' HO170.out).2.2 | (with_reducible refine Kd.C_alloc ?_ _) | (with_reducible refine Kd.C_drewN ?_ _) | (with_reducible refine Kd.C_drew ?_))); (case side2 => exact (Kd.R_reads' HO170.out).2.1); (case side3 => repeat (first | exact (Kd.R_reads' HO_3.out).2.2 | (with_reducible refine Kd.C_alloc ?_ _) | (with_reducible refine Kd.C_drewN ?_ _) | (with_reducible refine Kd.C_drew ?_))); (case side4 => exact (Kd.R_reads' HO_3.out).2.1); rintro e w' ⟨rfl, ⟨nd, rfl⟩⟩; refine ⟨_, rfl, ?_⟩))
      go_meet
      case rel => exact ⟨_, ((t168 != t156)), sq, H', ⟨by have := HJ4.out; first | omega | exact Nat.le_refl _⟩, ⟨by refine kr ?_; exact Kd.R_mono HO_5.out (fun _ hk => trivial)⟩, ⟨bq HB.out⟩⟩
    replace c25 := Bool.eq_false_iff.mpr c25
    subst c25
    replace H : (laws_FnExactParseOid.j1 kj4 t165 t164 true) = some r := by rw [if_neg (show ¬ (false = true) by decide)] at H; exact H
    have H' := am H
    clear H
    obtain ⟨Ao28, co28, eo28⟩ := Kd.R_slice HO170.out
    subst eo28
    obtain ⟨Ao29, co29, eo29⟩ := Kd.R_slice HO_3.out
    subst eo29
    go_wp2_with (first | ((with_reducible refine gate_callee (f := 7) rfl ?_); refine goesL_ (some 51) rfl rfl Tryd.func7 (by kernel_rfl) rfl #[.slice Ao28 t167.length co28, .slice Ao29 t155.length co29] rfl ga ?_; (with_reducible refine (laws_eqIntS.calls kj4 _ _ t167 _ _ t155 false _ ?side1 ?side2 ?side3 ?side4 A24.out).mono ?_); (case side1 => repeat (first | exact (Kd.R_reads' HO170.out).2.2 | (with_reducible refine Kd.C_alloc ?_ _) | (with_reducible refine Kd.C_drewN ?_ _) | (with_reducible refine Kd.C_drew ?_))); (case side2 => exact (Kd.R_reads' HO170.out).2.1); (case side3 => repeat (first | exact (Kd.R_reads' HO_3.out).2.2 | (with_reducible refine Kd.C_alloc ?_ _) | (with_reducible refine Kd.C_drewN ?_ _) | (with_reducible refine Kd.C_drew ?_))); (case side4 => exact (Kd.R_reads' HO_3.out).2.1); rintro e w' ⟨rfl, ⟨nd, rfl⟩⟩; refine ⟨_, rfl, ?_⟩))
    go_meet
    case rel => exact ⟨_, (true), sq, H', ⟨by have := HJ4.out; first | omega | exact Nat.le_refl _⟩, ⟨by refine kr ?_; exact Kd.R_mono HO_5.out (fun _ hk => trivial)⟩, ⟨bq HB.out⟩⟩
   case rest =>
    clear HC20
    try clear c1
    try clear c2
    try clear c2b0
    try clear c2b1
    try clear p2
    try clear c3
    try clear c5
    try clear c6
    try clear c7
    try clear c8
    try clear c9
    try clear c14
    try clear c17
    try clear c17b0
    try clear c18
    try clear c18b0
    try clear c18b1
    try clear c25
    try clear p2
    obtain ⟨kq, x57_19, rfl, HA, HJ19, HO_5, HB⟩ := hcut
    have hl5_19 := (Kd.R_reads' HO_5.out).1
    rw [hl5_19] at HO_5
    (try simp only [hl5_19])
    cases kq with
    | zero => exact absurd HA.out (by simp [laws_FnExactParseOid.j1])
    | succ kj19 =>
     have H := HA.out
     clear HA
     simp only [laws_FnExactParseOid.j1] at H
     by_cases c30 : x57_19 = true
     · subst c30
       replace H : (some false) = some r := by rw [if_pos rfl] at H; exact H
       exact absurd ((Option.some.inj H).trans HRT.out) (by decide)
     replace c30 := Bool.eq_false_iff.mpr c30
     subst c30
     replace H : ((laws_heldIntS.f kj19 t165 1).bind fun t172 => (if t172 < 0 then (some false) else (if t172 = t164 then (some true) else (some false)))) = some r := by rw [if_neg (show ¬ (false = true) by decide)] at H; exact H
     replace H := Option.bind_eq_some_iff.mp H
     obtain ⟨t172, A310, H⟩ := H
     replace H : (if t172 < 0 then (some false) else (if t172 = t164 then (some true) else (some false))) = some r := H
     have A31 := am A310
     clear A310
     by_cases c32 : t172 < 0
     · rw [if_pos c32] at H
       have c32b0 : decide (t172 < 0) = true := decide_eq_true c32
       clear c32
       exact absurd ((Option.some.inj H).trans HRT.out) (by decide)
     rw [if_neg c32] at H
     have c32b0 : decide (t172 < 0) = false := decide_eq_false c32
     clear c32
     by_cases c33 : t172 = t164
     rotate_left
     · rw [if_neg c33] at H
       have c33b0 : (t172 == t164) = false := beq_eq_false_iff_ne.mpr c33
       have c33b1 : (t172 != t164) = true := bne_iff_ne.mpr c33
       exact absurd ((Option.some.inj H).trans HRT.out) (by decide)
     rw [if_pos c33] at H
     have c33b0 : (t172 == t164) = true := beq_iff_eq.mpr c33
     have c33b1 : (t172 != t164) = false := bne_eq_false_iff_eq.mpr c33
     clear c33
     obtain rfl := Option.some.inj H
     go_wp2_with (first | ((with_reducible refine gate_callee (f := 9) rfl ?_); refine goesL_ (some 60) rfl rfl Tryd.func9 (by kernel_rfl) rfl #[.slice Ao21 t165.length co21, .int .i64 1] rfl ga ?_; (with_reducible refine (laws_heldIntS.calls kj19 _ _ t165 1 t172 _ ?side1 ?side2 A31.out).mono ?_); (case side1 => repeat (first | exact (Kd.R_reads' HO_5.out).2.2 | (with_reducible refine Kd.C_alloc ?_ _) | (with_reducible refine Kd.C_drewN ?_ _) | (with_reducible refine Kd.C_drew ?_))); (case side2 => exact (Kd.R_reads' HO_5.out).2.1); rintro e w' ⟨rfl, ⟨nd, rfl⟩⟩; refine ⟨_, rfl, ?_⟩))
     go_ret
     exact ⟨rq, bq HB.out⟩

/-- THE ONE PURE STATEMENT of laws_FnExactParseOid. -/
def laws_FnExactParseOid.Pure : Prop := ∀ (a0 : ByteArray), a0.size ≤ maxLen → ∃ k, laws_FnExactParseOid.f k a0 = some true

end Go.Proofs.YtgjhmbneikpiaaaDoor.XFnExactParseOid
