/- The functions that one law reaches, as Lean functions, with their walks: printed by a program of this seat (wip/tools) out of the translation. -/
import Derived.Test.YtebffdmkfkfoaaaXFnForgetsx0
import Derived.Test.YtebffdmkfkfoaaaXFnForgetsx2
import Derived.Test.YtebffdmkfkfoaaaXFnForgetsx6
import Derived.Test.YtebffdmkfkfoaaaXFnForgetsx7
import Derived.Test.YtebffdmkfkfoaaaXFnForgetsx8
import Derived.Test.YtebffdmkfkfoaaaXFnForgetsx11
namespace Go.Proofs.Ytebffdmkfkfoaaa.XFnForgets
open Go.RowKit Go.Proofs.YtebffdmkfkfoaaaW.PrintWords Go.Proofs.YtebffdmkfkfoaaaW.PrintLast Go.Proofs.YtebffdmkfkfoaaaW.PrintMore
attribute [local go_sem] max2_int min2_int max_two min_two max_three min_three max_four min_four   -- for this text's walks alone
set_option linter.unusedVariables false
set_option linter.unusedSimpArgs false

/-! ### laws_FnForgets: function 8 -/
mutual
def laws_FnForgets.l0 : Nat → List (S44) → Int → List (S44) → Int → Option (Bool)
 | 0, _, _, _, _ => none
 | k + 1, x3, x6, x7, x8 => if x8 < (x7.length : Int) then (if 0 ≤ x8 then (if ((rd_T44 x7 x8).f2) = x6 then (if ((rd_T44 x7 x8).f4 = true) then (laws_FnForgets.l0 k x3 x6 x7 (wrap64 (x8 + 1))) else (some false)) else (laws_FnForgets.l0 k x3 x6 x7 (wrap64 (x8 + 1)))) else (none)) else (laws_FnForgets.l1 k x3 x7 x3 0)
def laws_FnForgets.l1 : Nat → List (S44) → List (S44) → List (S44) → Int → Option (Bool)
 | 0, _, _, _, _ => none
 | k + 1, x3, x7, x9, x10 => if x10 < 5 then ((impl_AgeAll.f k x9).bind fun t379 => ((impl_FdbOk.f k t379).bind fun t382 => (if t382 = true then (laws_FnForgets.l1 k x3 x7 t379 (wrap64 (x10 + 1))) else (some false)))) else (laws_FnForgets.l2 k x3 x7 x9 0 0)
def laws_FnForgets.l2 : Nat → List (S44) → List (S44) → List (S44) → Int → Int → Option (Bool)
 | 0, _, _, _, _, _ => none
 | k + 1, x3, x7, x9, x11, x12 => if x12 < (x3.length : Int) then (if 0 ≤ x12 then (if (rd_T44 x3 x12).f4 = true then (laws_FnForgets.l2 k x3 x7 x9 (wrap64 (x11 + 1)) (wrap64 (x12 + 1))) else (laws_FnForgets.l2 k x3 x7 x9 x11 (wrap64 (x12 + 1)))) else (none)) else (if (x9.length : Int) = x11 then ((impl_FdbOk.f k x7).bind fun t384 => (if t384 = true then ((impl_AgeAll.f k x3).bind fun t385 => ((spec_AgeAll.f k x3).bind fun t388 => ((laws_sameFdb.f k t385 t388).bind fun t391 => (some t391)))) else (some false))) else (some false))
end
def laws_FnForgets.f (k : Nat) (l0 : List Int) : Option (Bool) := (laws_big.f l0).bind fun t364 => (if t364 = true then (some true) else ((spec_DrawFdb.f k l0).bind fun bt365 => ((impl_Learn.f k bt365.1 bt365.2.1 bt365.2.2.1 bt365.2.2.2).bind fun t371 => ((impl_FlushPort.f k t371 bt365.2.2.2).bind fun t374 => (laws_FnForgets.l0 k bt365.1 bt365.2.2.2 t374 0)))))
theorem laws_FnForgets.mono_l : ∀ k, (∀ y0 y1 y2 y3, LeO (laws_FnForgets.l0 k y0 y1 y2 y3) (laws_FnForgets.l0 (k + 1) y0 y1 y2 y3)) ∧ (∀ y0 y1 y2 y3, LeO (laws_FnForgets.l1 k y0 y1 y2 y3) (laws_FnForgets.l1 (k + 1) y0 y1 y2 y3)) ∧ (∀ y0 y1 y2 y3 y4, LeO (laws_FnForgets.l2 k y0 y1 y2 y3 y4) (laws_FnForgets.l2 (k + 1) y0 y1 y2 y3 y4))
 | 0 => ⟨fun _ _ _ _ r h => by simp [laws_FnForgets.l0] at h, fun _ _ _ _ r h => by simp [laws_FnForgets.l1] at h, fun _ _ _ _ _ r h => by simp [laws_FnForgets.l2] at h⟩
 | k + 1 => by
  obtain ⟨ih0, ih1, ih2⟩ := laws_FnForgets.mono_l k
  refine ⟨?_, ?_, ?_⟩
  · intro y0 y1 y2 y3
    unfold laws_FnForgets.l0
    repeat' first
    | (with_reducible exact ih0 _ _ _ _)
    | (with_reducible exact ih1 _ _ _ _)
    | (with_reducible exact ih2 _ _ _ _ _)
    | (with_reducible exact impl_AgeAll.mono _ _)
    | (with_reducible exact impl_FdbOk.mono _ _)
    | (with_reducible exact impl_FlushPort.mono _ _ _)
    | (with_reducible exact impl_Learn.mono _ _ _ _ _)
    | (with_reducible exact laws_sameFdb.mono _ _ _)
    | (with_reducible exact spec_AgeAll.mono _ _)
    | (with_reducible exact spec_DrawFdb.mono _ _)
    | (with_reducible exact LeO.refl _)
    | (with_reducible exact LeO.none _)
    | (with_reducible refine LeO.ite ?_ ?_)
    | (with_reducible refine LeO.bind ?_ (fun _ => ?_))
    | exact ih0 _ _ _ _
    | exact ih1 _ _ _ _
    | exact ih2 _ _ _ _ _
    | exact impl_AgeAll.mono _ _
    | exact impl_FdbOk.mono _ _
    | exact impl_FlushPort.mono _ _ _
    | exact impl_Learn.mono _ _ _ _ _
    | exact laws_sameFdb.mono _ _ _
    | exact spec_AgeAll.mono _ _
    | exact spec_DrawFdb.mono _ _
    | exact LeO.none _
    | refine LeO.ite ?_ ?_
    | refine LeO.bind ?_ (fun _ => ?_)
  · intro y0 y1 y2 y3
    unfold laws_FnForgets.l1
    repeat' first
    | (with_reducible exact ih0 _ _ _ _)
    | (with_reducible exact ih1 _ _ _ _)
    | (with_reducible exact ih2 _ _ _ _ _)
    | (with_reducible exact impl_AgeAll.mono _ _)
    | (with_reducible exact impl_FdbOk.mono _ _)
    | (with_reducible exact impl_FlushPort.mono _ _ _)
    | (with_reducible exact impl_Learn.mono _ _ _ _ _)
    | (with_reducible exact laws_sameFdb.mono _ _ _)
    | (with_reducible exact spec_AgeAll.mono _ _)
    | (with_reducible exact spec_DrawFdb.mono _ _)
    | (with_reducible exact LeO.refl _)
    | (with_reducible exact LeO.none _)
    | (with_reducible refine LeO.ite ?_ ?_)
    | (with_reducible refine LeO.bind ?_ (fun _ => ?_))
    | exact ih0 _ _ _ _
    | exact ih1 _ _ _ _
    | exact ih2 _ _ _ _ _
    | exact impl_AgeAll.mono _ _
    | exact impl_FdbOk.mono _ _
    | exact impl_FlushPort.mono _ _ _
    | exact impl_Learn.mono _ _ _ _ _
    | exact laws_sameFdb.mono _ _ _
    | exact spec_AgeAll.mono _ _
    | exact spec_DrawFdb.mono _ _
    | exact LeO.none _
    | refine LeO.ite ?_ ?_
    | refine LeO.bind ?_ (fun _ => ?_)
  intro y0 y1 y2 y3 y4
  unfold laws_FnForgets.l2
  repeat' first
  | (with_reducible exact ih0 _ _ _ _)
  | (with_reducible exact ih1 _ _ _ _)
  | (with_reducible exact ih2 _ _ _ _ _)
  | (with_reducible exact impl_AgeAll.mono _ _)
  | (with_reducible exact impl_FdbOk.mono _ _)
  | (with_reducible exact impl_FlushPort.mono _ _ _)
  | (with_reducible exact impl_Learn.mono _ _ _ _ _)
  | (with_reducible exact laws_sameFdb.mono _ _ _)
  | (with_reducible exact spec_AgeAll.mono _ _)
  | (with_reducible exact spec_DrawFdb.mono _ _)
  | (with_reducible exact LeO.refl _)
  | (with_reducible exact LeO.none _)
  | (with_reducible refine LeO.ite ?_ ?_)
  | (with_reducible refine LeO.bind ?_ (fun _ => ?_))
  | exact ih0 _ _ _ _
  | exact ih1 _ _ _ _
  | exact ih2 _ _ _ _ _
  | exact impl_AgeAll.mono _ _
  | exact impl_FdbOk.mono _ _
  | exact impl_FlushPort.mono _ _ _
  | exact impl_Learn.mono _ _ _ _ _
  | exact laws_sameFdb.mono _ _ _
  | exact spec_AgeAll.mono _ _
  | exact spec_DrawFdb.mono _ _
  | exact LeO.none _
  | refine LeO.ite ?_ ?_
  | refine LeO.bind ?_ (fun _ => ?_)
theorem laws_FnForgets.mono : ∀ a0 k, LeO (laws_FnForgets.f k a0) (laws_FnForgets.f (k + 1) a0) := by
 intro a0 k
 obtain ⟨ih0, ih1, ih2⟩ := laws_FnForgets.mono_l k
 unfold laws_FnForgets.f
 repeat' first
  | (with_reducible exact ih0 _ _ _ _)
  | (with_reducible exact ih1 _ _ _ _)
  | (with_reducible exact ih2 _ _ _ _ _)
  | (with_reducible exact impl_AgeAll.mono _ _)
  | (with_reducible exact impl_FdbOk.mono _ _)
  | (with_reducible exact impl_FlushPort.mono _ _ _)
  | (with_reducible exact impl_Learn.mono _ _ _ _ _)
  | (with_reducible exact laws_sameFdb.mono _ _ _)
  | (with_reducible exact spec_AgeAll.mono _ _)
  | (with_reducible exact spec_DrawFdb.mono _ _)
  | (with_reducible exact LeO.refl _)
  | (with_reducible exact LeO.none _)
  | (with_reducible refine LeO.ite ?_ ?_)
  | (with_reducible refine LeO.bind ?_ (fun _ => ?_))
  | exact ih0 _ _ _ _
  | exact ih1 _ _ _ _
  | exact ih2 _ _ _ _ _
  | exact impl_AgeAll.mono _ _
  | exact impl_FdbOk.mono _ _
  | exact impl_FlushPort.mono _ _ _
  | exact impl_Learn.mono _ _ _ _ _
  | exact laws_sameFdb.mono _ _ _
  | exact spec_AgeAll.mono _ _
  | exact spec_DrawFdb.mono _ _
  | exact LeO.none _
  | refine LeO.ite ?_ ?_
  | refine LeO.bind ?_ (fun _ => ?_)
set_option maxHeartbeats 8000000 in
set_option maxRecDepth 100000 in
theorem laws_FnForgets.calls (k : Nat) (A0 : Option Addr) (c0 : Nat) (l0 : List Int) (r : Bool) (w : World) (hr0 : Kd.C (Kd.int .u8) w A0 l0.length l0) (hc0 : l0.length ≤ c0) (hr_ : r = true) (h : laws_FnForgets.f k l0 = some r) :
 Calls Try.prog 8 #[.slice A0 l0.length c0] w fun e w' => e = .returned (.bool r) ∧ Below w.heap.size w w' := by
 have HRT := am hr_
 clear hr_
 have HR0 := am hr0
 have HC0 := am hc0
 clear hr0 hc0
 have HB := am (Below.refl w.heap.size w)
 have H : ((laws_big.f l0).bind fun t364 => (if t364 = true then (some true) else ((spec_DrawFdb.f k l0).bind fun bt365 => ((impl_Learn.f k bt365.1 bt365.2.1 bt365.2.2.1 bt365.2.2.2).bind fun t371 => ((impl_FlushPort.f k t371 bt365.2.2.2).bind fun t374 => (laws_FnForgets.l0 k bt365.1 bt365.2.2.2 t374 0)))))) = some r := h
 clear h
 replace H := Option.bind_eq_some_iff.mp H
 obtain ⟨t364, A20, H⟩ := H
 replace H : (if t364 = true then (some true) else ((spec_DrawFdb.f k l0).bind fun bt365 => ((impl_Learn.f k bt365.1 bt365.2.1 bt365.2.2.1 bt365.2.2.2).bind fun t371 => ((impl_FlushPort.f k t371 bt365.2.2.2).bind fun t374 => (laws_FnForgets.l0 k bt365.1 bt365.2.2.2 t374 0))))) = some r := H
 have A2 := am A20
 clear A20
 by_cases c3 : t364 = true
 · subst c3
   have H1 : (some true) = some r := by rw [if_pos rfl] at H; exact H
   clear H
   have H := H1
   clear H1
   obtain rfl := Option.some.inj H
   go_enter Try.func8, Try.ntmps8
   go_wp2_with (first | ((with_reducible refine gate_callee (f := 26) rfl ?_); refine goesL_ (some 14) rfl rfl Try.func26 (by kernel_rfl) rfl #[.slice A0 l0.length c0] rfl ga ?_; (with_reducible refine (laws_big.calls _ _ l0 true _ ?side1 ?side2 A2.out).mono ?_); (case side1 => exact cq HR0.out); (case side2 => exact HC0.out); rintro e w' ⟨rfl, ⟨nd, rfl⟩⟩; refine ⟨_, rfl, ?_⟩))
   go_ret
   exact ⟨rq, bq HB.out⟩
 replace c3 := Bool.eq_false_iff.mpr c3
 subst c3
 have H1 : ((spec_DrawFdb.f k l0).bind fun bt365 => ((impl_Learn.f k bt365.1 bt365.2.1 bt365.2.2.1 bt365.2.2.2).bind fun t371 => ((impl_FlushPort.f k t371 bt365.2.2.2).bind fun t374 => (laws_FnForgets.l0 k bt365.1 bt365.2.2.2 t374 0)))) = some r := by rw [if_neg (show ¬ (false = true) by decide)] at H; exact H
 clear H
 have H := H1
 clear H1
 replace H := Option.bind_eq_some_iff.mp H
 obtain ⟨⟨t365, t366, t367, t368⟩, A40, H⟩ := H
 replace H : ((impl_Learn.f k t365 t366 t367 t368).bind fun t371 => ((impl_FlushPort.f k t371 t368).bind fun t374 => (laws_FnForgets.l0 k t365 t368 t374 0))) = some r := H
 have A4 := am A40
 clear A40
 replace H := Option.bind_eq_some_iff.mp H
 obtain ⟨t371, A50, H⟩ := H
 replace H : ((impl_FlushPort.f k t371 t368).bind fun t374 => (laws_FnForgets.l0 k t365 t368 t374 0)) = some r := H
 have A5 := am A50
 clear A50
 replace H := Option.bind_eq_some_iff.mp H
 obtain ⟨t374, A60, H⟩ := H
 replace H : (laws_FnForgets.l0 k t365 t368 t374 0) = some r := H
 have A6 := am A60
 clear A60
 have H' := am H
 clear H
 go_enter Try.func8, Try.ntmps8
 go_wp2_with (first | ((with_reducible refine gate_callee (f := 26) rfl ?_); refine goesL_ (some 14) rfl rfl Try.func26 (by kernel_rfl) rfl #[.slice A0 l0.length c0] rfl ga ?_; (with_reducible refine (laws_big.calls _ _ l0 false _ ?side1 ?side2 A2.out).mono ?_); (case side1 => exact cq HR0.out); (case side2 => exact HC0.out); rintro e w' ⟨rfl, ⟨nd, rfl⟩⟩; refine ⟨_, rfl, ?_⟩) | ((with_reducible refine gate_callee (f := 27) rfl ?_); refine goesL_ (some 17) rfl rfl Try.func27 (by kernel_rfl) rfl #[.slice A0 l0.length c0] rfl ga ?_; (with_reducible refine (spec_DrawFdb.calls k _ _ l0 t365 t366 t367 t368 _ ?side1 ?side2 A4.out).mono ?_); (case side1 => exact cq HR0.out); (case side2 => exact HC0.out); rintro e w7 ⟨v369, rfl, ho0, hb⟩; refine ⟨_, rfl, ?_⟩; have n_ := ak2 (Kd.R_lower ho0 (below_size (bq HB.out))) (below_step (bq HB.out) hb); clear HB; obtain ⟨HO370, HB⟩ := n_; (try clear hb ho0); obtain ⟨Ao8, co8, eo8⟩ := Kd.R_slice HO370.out; subst eo8) | ((with_reducible refine gate_callee (f := 28) rfl ?_); refine goesL_ (some 26) rfl rfl Try.func28 (by kernel_rfl) rfl #[.slice Ao8 t365.length co8, .int .i64 t366, .int .i64 t367, .int .i64 t368] rfl ga ?_; (with_reducible refine (impl_Learn.calls k _ _ t365 t366 t367 t368 t371 _ ?side1 ?side2 A5.out).mono ?_); (case side1 => repeat (first | exact (Kd.R_reads' HO370.out).2.2 | (with_reducible refine Kd.C_alloc ?_ _) | (with_reducible refine Kd.C_drewN ?_ _) | (with_reducible refine Kd.C_drew ?_))); (case side2 => exact (Kd.R_reads' HO370.out).2.1); rintro e w9 ⟨v372, rfl, ho0, hb⟩; refine ⟨_, rfl, ?_⟩; have n_ := ak3 (Kd.R_elder' (kqR HO370.out) (Kd.R_base ho0) hb) (Kd.R_lower (Kd.R_new' ho0 (Kd.R_lt (kqR HO370.out))) (below_size (bq HB.out))) (below_step (bq HB.out) hb); clear HO370 HB; obtain ⟨HO370, HO373, HB⟩ := n_; (try clear hb ho0); obtain ⟨Ao10, co10, eo10⟩ := Kd.R_slice HO373.out; subst eo10) | ((with_reducible refine gate_callee (f := 38) rfl ?_); refine goesL_ (some 28) rfl rfl Try.func38 (by kernel_rfl) rfl #[.slice Ao10 t371.length co10, .int .i64 t368] rfl ga ?_; (with_reducible refine (impl_FlushPort.calls k _ _ t371 t368 t374 _ ?side1 ?side2 A6.out).mono ?_); (case side1 => repeat (first | exact (Kd.R_reads' HO373.out).2.2 | (with_reducible refine Kd.C_alloc ?_ _) | (with_reducible refine Kd.C_drewN ?_ _) | (with_reducible refine Kd.C_drew ?_))); (case side2 => exact (Kd.R_reads' HO373.out).2.1); rintro e w11 ⟨v375, rfl, ho0, hb⟩; refine ⟨_, rfl, ?_⟩; have n_ := ak4 (Kd.R_elder' (kqR HO370.out) (Kd.R_base ho0) hb) (Kd.R_elder' (kqR HO373.out) (Kd.R_base ho0) hb) (Kd.R_lower (Kd.R_new' (Kd.R_new' ho0 (Kd.R_lt (kqR HO370.out))) (Kd.R_lt (kqR HO373.out))) (below_size (bq HB.out))) (below_step (bq HB.out) hb); clear HO370 HO373 HB; obtain ⟨HO370, HO373, HO376, HB⟩ := n_; (try clear hb ho0)))
 go_loopg [8] k (fun kq v8 w' => ∃ (x8_1 : Int), v8 = .int .i64 x8_1 ∧ Aside0 (laws_FnForgets.l0 kq t365 t368 t374 x8_1 = some r) ∧ Aside0 (kq ≤ k) ∧ Aside0 (Kd.R k44 44 w' w.heap.size (fun k_ => some k_ ≠ (v375 : Value).ownBlock) (.slice Ao8 t365.length co8) t365) ∧ Aside0 (Kd.R k44 44 w' w.heap.size (fun k_ => some k_ ≠ ((.slice Ao8 t365.length co8) : Value).ownBlock) v375 t374) ∧ Aside0 (Below w.heap.size w w'))
 case atStart => exact ⟨(0), sq, H', ⟨Nat.le_refl _⟩, ⟨by (with_reducible repeat (first | apply Kd.R_alloc | apply Kd.R_drewN | apply Kd.R_drew)); exact Kd.R_mono HO370.out (fun _ hk => hk.2)⟩, ⟨by (with_reducible repeat (first | apply Kd.R_alloc | apply Kd.R_drewN | apply Kd.R_drew)); exact Kd.R_mono HO376.out (fun _ hk => hk.1.2)⟩, ⟨bq HB.out⟩⟩
 case round =>
  clear H'
  try clear c2
  try clear p2
  try clear c3
  try clear c8
  obtain ⟨x8_1, rfl, HA, HK1, HO_3, HO_7, HB⟩ := hrel
  cases gk with
  | zero => exact absurd HA.out (by simp [laws_FnForgets.l0])
  | succ k1 =>
   have H := HA.out
   clear HA
   simp only [laws_FnForgets.l0] at H
   by_cases c12 : x8_1 < (t374.length : Int)
   · rw [if_pos c12] at H
     have c12b0 : decide (x8_1 < (t374.length : Int)) = true := decide_eq_true c12
     clear c12
     by_cases c13 : 0 ≤ x8_1
     · rw [if_pos c13] at H
       have c13b0 : decide (0 ≤ x8_1) = true := decide_eq_true c13
       clear c13
       by_cases c14 : ((rd_T44 t374 x8_1).f2) = t368
       · rw [if_pos c14] at H
         have c14b0 : (((rd_T44 t374 x8_1).f2) == t368) = true := beq_iff_eq.mpr c14
         have c14b1 : (((rd_T44 t374 x8_1).f2) != t368) = false := bne_eq_false_iff_eq.mpr c14
         clear c14
         obtain ⟨bq15, hbq15⟩ : ∃ b_ : Bool, b_ = ((rd_T44 t374 x8_1).f4) := ⟨_, rfl⟩
         replace H : (if (bq15 = true) then (laws_FnForgets.l0 k1 t365 t368 t374 (wrap64 (x8_1 + 1))) else (some false)) = some r := by rw [← hbq15] at H; exact H
         have Nbq15 := am hbq15
         clear hbq15
         by_cases c16 : (bq15 = true)
         · subst c16
           have H1 : (laws_FnForgets.l0 k1 t365 t368 t374 (wrap64 (x8_1 + 1))) = some r := by rw [if_pos rfl] at H; exact H
           clear H
           have H := H1
           clear H1
           have H' := am H
           clear H
           obtain ⟨Ao17, co17, eo17⟩ := Kd.R_slice HO_7.out
           subst eo17
           have p377 : 0 ≤ (x8_1 : Int) := oda
           have q377 : x8_1 < (t374.length : Int) := oda
           obtain ⟨ad377, e377, hx377_0, hx377_1, hx377_2, hx377_3, hx377_4⟩ := at_T44 (Kd.R_reads' HO_7.out).2.2 x8_1 p377 q377
           (try rw [← Nbq15.out] at hx377_4)
           cases e377
           replace p377 := eq_true p377
           replace q377 := eq_true q377
           have p378 : 0 ≤ (x8_1 : Int) := oda
           have q378 : x8_1 < (t374.length : Int) := oda
           obtain ⟨ad378, e378, hx378_0, hx378_1, hx378_2, hx378_3, hx378_4⟩ := at_T44 (Kd.R_reads' HO_7.out).2.2 x8_1 p378 q378
           (try rw [← Nbq15.out] at hx378_4)
           obtain rfl : ad377 = ad378 := (by injection e378)
           replace p378 := eq_true p378
           replace q378 := eq_true q378
           go_wp2
           go_roundg k1
           case measure => have := HK1.out; omega
           case rel => exact ⟨(wrap64 (x8_1 + 1)), sq, H', ⟨by have := HK1.out; omega⟩, ⟨kqR HO_3.out⟩, ⟨kqR HO_7.out⟩, ⟨bq HB.out⟩⟩
         replace c16 := Bool.eq_false_iff.mpr c16
         subst c16
         have H1 : (some false) = some r := by rw [if_neg (show ¬ (false = true) by decide)] at H; exact H
         clear H
         have H := H1
         clear H1
         exact absurd ((Option.some.inj H).trans HRT.out) (by decide)
       rw [if_neg c14] at H
       have c14b0 : (((rd_T44 t374 x8_1).f2) == t368) = false := beq_eq_false_iff_ne.mpr c14
       have c14b1 : (((rd_T44 t374 x8_1).f2) != t368) = true := bne_iff_ne.mpr c14
       have H' := am H
       clear H
       obtain ⟨Ao18, co18, eo18⟩ := Kd.R_slice HO_7.out
       subst eo18
       have p377 : 0 ≤ (x8_1 : Int) := oda
       have q377 : x8_1 < (t374.length : Int) := oda
       obtain ⟨ad377, e377, hx377_0, hx377_1, hx377_2, hx377_3, hx377_4⟩ := at_T44 (Kd.R_reads' HO_7.out).2.2 x8_1 p377 q377
       cases e377
       replace p377 := eq_true p377
       replace q377 := eq_true q377
       go_wp2
       go_roundg k1
       case measure => have := HK1.out; omega
       case rel => exact ⟨(wrap64 (x8_1 + 1)), sq, H', ⟨by have := HK1.out; omega⟩, ⟨kqR HO_3.out⟩, ⟨kqR HO_7.out⟩, ⟨bq HB.out⟩⟩
     rw [if_neg c13] at H
     exact absurd H (by simp)
   rw [if_neg c12] at H
   have c12b0 : decide (x8_1 < (t374.length : Int)) = false := decide_eq_false c12
   clear c12
   have H' := am H
   clear H
   obtain ⟨Ao19, co19, eo19⟩ := Kd.R_slice HO_7.out
   subst eo19
   go_wp2
   go_loopg [9, 10] k1 (fun kq v9 v10 w' => ∃ (x9_2 : List (S44)) (x10_2 : Int), v10 = .int .i64 x10_2 ∧ Aside0 (laws_FnForgets.l1 kq t365 t374 x9_2 x10_2 = some r) ∧ Aside0 (kq ≤ k1) ∧ Aside0 (Kd.R k44 44 w' w.heap.size (fun k_ => some k_ ≠ ((.slice Ao19 t374.length co19) : Value).ownBlock) (.slice Ao8 t365.length co8) t365) ∧ Aside0 (Kd.R k44 44 w' w.heap.size (fun k_ => some k_ ≠ ((.slice Ao8 t365.length co8) : Value).ownBlock ∧ some k_ ≠ (v9 : Value).ownBlock) (.slice Ao19 t374.length co19) t374) ∧ Aside0 (Kd.R k44 44 w' w.heap.size (fun k_ => some k_ ≠ ((.slice Ao19 t374.length co19) : Value).ownBlock) v9 x9_2) ∧ Aside0 (Below w.heap.size w w'))
   case atStart => exact ⟨(t365), (0), sq, H', ⟨Nat.le_refl _⟩, ⟨kqR HO_3.out⟩, ⟨by (with_reducible repeat (first | apply Kd.R_alloc | apply Kd.R_drewN | apply Kd.R_drew)); exact Kd.R_mono HO_7.out (fun _ hk => ⟨hk, hk⟩)⟩, ⟨kqR HO_3.out⟩, ⟨bq HB.out⟩⟩
   case round =>
    clear H'
    try clear c1
    try clear q1
    try clear c2
    try clear p2
    try clear c3
    try clear p3
    try clear q3
    try clear hx3
    try clear p6
    try clear c8
    try clear c12
    try clear c12b0
    try clear c13
    try clear c13b0
    try clear c14
    try clear c14b0
    try clear c14b1
    try clear q15
    try clear c16
    try clear hx377_0
    try clear hx377_1
    try clear hx377_2
    try clear hx377_3
    try clear hx377_4
    try clear hx378_0
    try clear hx378_1
    try clear hx378_2
    try clear hx378_3
    try clear hx378_4
    try clear p2
    try clear p377
    try clear p378
    try clear q377
    try clear q378
    obtain ⟨x9_2, x10_2, rfl, HA, HK2, HO_3, HO_7, HO_9, HB⟩ := hrel
    cases gk with
    | zero => exact absurd HA.out (by simp [laws_FnForgets.l1])
    | succ k2 =>
     have H := HA.out
     clear HA
     simp only [laws_FnForgets.l1] at H
     by_cases c20 : x10_2 < 5
     · rw [if_pos c20] at H
       have c20b0 : decide (x10_2 < 5) = true := decide_eq_true c20
       clear c20
       replace H := Option.bind_eq_some_iff.mp H
       obtain ⟨t379, A210, H⟩ := H
       replace H : ((impl_FdbOk.f k2 t379).bind fun t382 => (if t382 = true then (laws_FnForgets.l1 k2 t365 t374 t379 (wrap64 (x10_2 + 1))) else (some false))) = some r := H
       have A21 := am A210
       clear A210
       replace H := Option.bind_eq_some_iff.mp H
       obtain ⟨t382, A220, H⟩ := H
       replace H : (if t382 = true then (laws_FnForgets.l1 k2 t365 t374 t379 (wrap64 (x10_2 + 1))) else (some false)) = some r := H
       have A22 := am A220
       clear A220
       by_cases c23 : t382 = true
       · subst c23
         have H1 : (laws_FnForgets.l1 k2 t365 t374 t379 (wrap64 (x10_2 + 1))) = some r := by rw [if_pos rfl] at H; exact H
         clear H
         have H := H1
         clear H1
         have H' := am H
         clear H
         obtain ⟨Ao24, co24, eo24⟩ := Kd.R_slice HO_9.out
         subst eo24
         go_wp2_with (first | ((with_reducible refine gate_callee (f := 39) rfl ?_); refine goesL_ (some 56) rfl rfl Try.func39 (by kernel_rfl) rfl #[.slice Ao24 x9_2.length co24] rfl ga ?_; (with_reducible refine (impl_AgeAll.calls k2 _ _ x9_2 t379 _ ?side1 ?side2 A21.out).mono ?_); (case side1 => repeat (first | exact (Kd.R_reads' HO_9.out).2.2 | (with_reducible refine Kd.C_alloc ?_ _) | (with_reducible refine Kd.C_drewN ?_ _) | (with_reducible refine Kd.C_drew ?_))); (case side2 => exact (Kd.R_reads' HO_9.out).2.1); rintro e w25 ⟨v380, rfl, ho0, hb⟩; refine ⟨_, rfl, ?_⟩; have n_ := ak5 (Kd.R_elder' (kqR HO_3.out) (Kd.R_base ho0) hb) (Kd.R_elder' (kqR HO_7.out) (Kd.R_base ho0) hb) (Kd.R_elder' (kqR HO_9.out) (Kd.R_base ho0) hb) (Kd.R_lower (Kd.R_new' (Kd.R_new' (Kd.R_new' ho0 (Kd.R_lt (kqR HO_3.out))) (Kd.R_lt (kqR HO_7.out))) (Kd.R_lt (kqR HO_9.out))) (below_size (bq HB.out))) (below_step (bq HB.out) hb); clear HO_3 HO_7 HO_9 HB; obtain ⟨HO_3, HO_7, HO_9, HO381, HB⟩ := n_; (try clear hb ho0); obtain ⟨Ao26, co26, eo26⟩ := Kd.R_slice HO381.out; subst eo26) | ((with_reducible refine gate_callee (f := 30) rfl ?_); refine goesL_ (some 58) rfl rfl Try.func30 (by kernel_rfl) rfl #[.slice Ao26 t379.length co26] rfl ga ?_; (with_reducible refine (impl_FdbOk.calls k2 _ _ t379 true _ ?side1 ?side2 A22.out).mono ?_); (case side1 => repeat (first | exact (Kd.R_reads' HO381.out).2.2 | (with_reducible refine Kd.C_alloc ?_ _) | (with_reducible refine Kd.C_drewN ?_ _) | (with_reducible refine Kd.C_drew ?_))); (case side2 => exact (Kd.R_reads' HO381.out).2.1); rintro e w27 ⟨rfl, hb⟩; refine ⟨_, rfl, ?_⟩; have n_ := ak5 (Kd.R_below (kqR HO_3.out) hb) (Kd.R_below (kqR HO_7.out) hb) (Kd.R_below (kqR HO_9.out) hb) (Kd.R_below (kqR HO381.out) hb) (below_step (bq HB.out) hb); clear HO_3 HO_7 HO_9 HO381 HB; obtain ⟨HO_3, HO_7, HO_9, HO381, HB⟩ := n_; (try clear hb)))
         go_roundg k2
         case measure => have := HK1.out; have := HK2.out; omega
         case rel => exact ⟨(t379), (wrap64 (x10_2 + 1)), sq, H', ⟨by have := HK1.out; have := HK2.out; omega⟩, ⟨by (with_reducible repeat (first | apply Kd.R_alloc | apply Kd.R_drewN | apply Kd.R_drew)); exact Kd.R_mono HO_3.out (fun _ hk => hk.1)⟩, ⟨by (with_reducible repeat (first | apply Kd.R_alloc | apply Kd.R_drewN | apply Kd.R_drew)); exact Kd.R_mono HO_7.out (fun _ hk => ⟨hk.1.1, hk.2⟩)⟩, ⟨by (with_reducible repeat (first | apply Kd.R_alloc | apply Kd.R_drewN | apply Kd.R_drew)); exact Kd.R_mono HO381.out (fun _ hk => hk.1.2)⟩, ⟨bq HB.out⟩⟩
       replace c23 := Bool.eq_false_iff.mpr c23
       subst c23
       have H1 : (some false) = some r := by rw [if_neg (show ¬ (false = true) by decide)] at H; exact H
       clear H
       have H := H1
       clear H1
       exact absurd ((Option.some.inj H).trans HRT.out) (by decide)
     rw [if_neg c20] at H
     have c20b0 : decide (x10_2 < 5) = false := decide_eq_false c20
     clear c20
     have H' := am H
     clear H
     go_wp2
     go_loopg [11, 12] k2 (fun kq v11 v12 w' => ∃ (x11_3 : Int) (x12_3 : Int), v11 = .int .i64 x11_3 ∧ v12 = .int .i64 x12_3 ∧ Aside0 (laws_FnForgets.l2 kq t365 t374 x9_2 x11_3 x12_3 = some r) ∧ Aside0 (kq ≤ k2) ∧ Aside0 (Kd.R k44 44 w' w.heap.size (fun k_ => some k_ ≠ ((.slice Ao19 t374.length co19) : Value).ownBlock) (.slice Ao8 t365.length co8) t365) ∧ Aside0 (Kd.R k44 44 w' w.heap.size (fun k_ => some k_ ≠ ((.slice Ao8 t365.length co8) : Value).ownBlock ∧ some k_ ≠ (u9 : Value).ownBlock) (.slice Ao19 t374.length co19) t374) ∧ Aside0 (Kd.R k44 44 w' w.heap.size (fun k_ => some k_ ≠ ((.slice Ao19 t374.length co19) : Value).ownBlock) u9 x9_2) ∧ Aside0 (Below w.heap.size w w'))
     case atStart => exact ⟨(0), (0), sq, sq, H', ⟨Nat.le_refl _⟩, ⟨kqR HO_3.out⟩, ⟨kqR HO_7.out⟩, ⟨kqR HO_9.out⟩, ⟨bq HB.out⟩⟩
     case round =>
      clear H'
      try clear c1
      try clear q1
      try clear c2
      try clear p2
      try clear c3
      try clear p3
      try clear q3
      try clear hx3
      try clear p6
      try clear c8
      try clear c12
      try clear c12b0
      try clear c13
      try clear c13b0
      try clear c14
      try clear c14b0
      try clear c14b1
      try clear q15
      try clear c16
      try clear c20
      try clear c20b0
      try clear c23
      try clear c26
      try clear c27
      try clear hx377_0
      try clear hx377_1
      try clear hx377_2
      try clear hx377_3
      try clear hx377_4
      try clear hx378_0
      try clear hx378_1
      try clear hx378_2
      try clear hx378_3
      try clear hx378_4
      try clear p2
      try clear p3
      try clear p377
      try clear p378
      try clear p6
      try clear q1
      try clear q15
      try clear q3
      try clear q377
      try clear q378
      obtain ⟨x11_3, x12_3, rfl, rfl, HA, HK3, HO_3, HO_7, HO_9, HB⟩ := hrel
      cases gk with
      | zero => exact absurd HA.out (by simp [laws_FnForgets.l2])
      | succ k3 =>
       have H := HA.out
       clear HA
       simp only [laws_FnForgets.l2] at H
       by_cases c28 : x12_3 < (t365.length : Int)
       · rw [if_pos c28] at H
         have c28b0 : decide (x12_3 < (t365.length : Int)) = true := decide_eq_true c28
         clear c28
         by_cases c29 : 0 ≤ x12_3
         · rw [if_pos c29] at H
           have c29b0 : decide (0 ≤ x12_3) = true := decide_eq_true c29
           clear c29
           obtain ⟨bq30, hbq30⟩ : ∃ b_ : Bool, b_ = ((rd_T44 t365 x12_3).f4) := ⟨_, rfl⟩
           replace H : (if bq30 = true then (laws_FnForgets.l2 k3 t365 t374 x9_2 (wrap64 (x11_3 + 1)) (wrap64 (x12_3 + 1))) else (laws_FnForgets.l2 k3 t365 t374 x9_2 x11_3 (wrap64 (x12_3 + 1)))) = some r := by rw [← hbq30] at H; exact H
           have Nbq30 := am hbq30
           clear hbq30
           by_cases c31 : bq30 = true
           · subst c31
             have H1 : (laws_FnForgets.l2 k3 t365 t374 x9_2 (wrap64 (x11_3 + 1)) (wrap64 (x12_3 + 1))) = some r := by rw [if_pos rfl] at H; exact H
             clear H
             have H := H1
             clear H1
             have H' := am H
             clear H
             have p383 : 0 ≤ (x12_3 : Int) := oda
             have q383 : x12_3 < (t365.length : Int) := oda
             obtain ⟨ad383, e383, hx383_0, hx383_1, hx383_2, hx383_3, hx383_4⟩ := at_T44 (Kd.R_reads' HO_3.out).2.2 x12_3 p383 q383
             (try rw [← Nbq30.out] at hx383_4)
             cases e383
             replace p383 := eq_true p383
             replace q383 := eq_true q383
             go_wp2
             go_roundg k3
             case measure => have := HK1.out; have := HK2.out; have := HK3.out; omega
             case rel => exact ⟨(wrap64 (x11_3 + 1)), (wrap64 (x12_3 + 1)), sq, sq, H', ⟨by have := HK1.out; have := HK2.out; have := HK3.out; omega⟩, ⟨kqR HO_3.out⟩, ⟨kqR HO_7.out⟩, ⟨kqR HO_9.out⟩, ⟨bq HB.out⟩⟩
           replace c31 := Bool.eq_false_iff.mpr c31
           subst c31
           have H1 : (laws_FnForgets.l2 k3 t365 t374 x9_2 x11_3 (wrap64 (x12_3 + 1))) = some r := by rw [if_neg (show ¬ (false = true) by decide)] at H; exact H
           clear H
           have H := H1
           clear H1
           have H' := am H
           clear H
           have p383 : 0 ≤ (x12_3 : Int) := oda
           have q383 : x12_3 < (t365.length : Int) := oda
           obtain ⟨ad383, e383, hx383_0, hx383_1, hx383_2, hx383_3, hx383_4⟩ := at_T44 (Kd.R_reads' HO_3.out).2.2 x12_3 p383 q383
           (try rw [← Nbq30.out] at hx383_4)
           cases e383
           replace p383 := eq_true p383
           replace q383 := eq_true q383
           go_wp2
           go_roundg k3
           case measure => have := HK1.out; have := HK2.out; have := HK3.out; omega
           case rel => exact ⟨(x11_3), (wrap64 (x12_3 + 1)), sq, sq, H', ⟨by have := HK1.out; have := HK2.out; have := HK3.out; omega⟩, ⟨kqR HO_3.out⟩, ⟨kqR HO_7.out⟩, ⟨kqR HO_9.out⟩, ⟨bq HB.out⟩⟩
         rw [if_neg c29] at H
         exact absurd H (by simp)
       rw [if_neg c28] at H
       have c28b0 : decide (x12_3 < (t365.length : Int)) = false := decide_eq_false c28
       clear c28
       by_cases c32 : (x9_2.length : Int) = x11_3
       · rw [if_pos c32] at H
         have c32b0 : ((x9_2.length : Int) == x11_3) = true := beq_iff_eq.mpr c32
         have c32b1 : ((x9_2.length : Int) != x11_3) = false := bne_eq_false_iff_eq.mpr c32
         clear c32
         replace H := Option.bind_eq_some_iff.mp H
         obtain ⟨t384, A330, H⟩ := H
         replace H : (if t384 = true then ((impl_AgeAll.f k3 t365).bind fun t385 => ((spec_AgeAll.f k3 t365).bind fun t388 => ((laws_sameFdb.f k3 t385 t388).bind fun t391 => (some t391)))) else (some false)) = some r := H
         have A33 := am A330
         clear A330
         by_cases c34 : t384 = true
         · subst c34
           have H1 : ((impl_AgeAll.f k3 t365).bind fun t385 => ((spec_AgeAll.f k3 t365).bind fun t388 => ((laws_sameFdb.f k3 t385 t388).bind fun t391 => (some t391)))) = some r := by rw [if_pos rfl] at H; exact H
           clear H
           have H := H1
           clear H1
           replace H := Option.bind_eq_some_iff.mp H
           obtain ⟨t385, A350, H⟩ := H
           replace H : ((spec_AgeAll.f k3 t365).bind fun t388 => ((laws_sameFdb.f k3 t385 t388).bind fun t391 => (some t391))) = some r := H
           have A35 := am A350
           clear A350
           replace H := Option.bind_eq_some_iff.mp H
           obtain ⟨t388, A360, H⟩ := H
           replace H : ((laws_sameFdb.f k3 t385 t388).bind fun t391 => (some t391)) = some r := H
           have A36 := am A360
           clear A360
           replace H := Option.bind_eq_some_iff.mp H
           obtain ⟨t391, A370, H⟩ := H
           replace H : (some t391) = some r := H
           have A37 := am A370
           clear A370
           obtain rfl := Option.some.inj H
           obtain ⟨Ao38, co38, eo38⟩ := Kd.R_slice HO_9.out
           subst eo38
           go_wp2_with (first | (go_at_call 30; (with_reducible refine (impl_FdbOk.calls k3 _ _ t374 true _ ?side1 ?side2 A33.out).mono ?_); (case side1 => repeat (first | exact (Kd.R_reads' HO_7.out).2.2 | (with_reducible refine Kd.C_alloc ?_ _) | (with_reducible refine Kd.C_drewN ?_ _) | (with_reducible refine Kd.C_drew ?_))); (case side2 => exact (Kd.R_reads' HO_7.out).2.1); rintro e w39 ⟨rfl, hb⟩; have n_ := ak4 (Kd.R_below (kqR HO_3.out) hb) (Kd.R_below (kqR HO_7.out) hb) (Kd.R_below (kqR HO_9.out) hb) (below_step (bq HB.out) hb); clear HO_3 HO_7 HO_9 HB; obtain ⟨HO_3, HO_7, HO_9, HB⟩ := n_; (try clear hb)) | (go_at_call 39; (with_reducible refine (impl_AgeAll.calls k3 _ _ t365 t385 _ ?side1 ?side2 A35.out).mono ?_); (case side1 => repeat (first | exact (Kd.R_reads' HO_3.out).2.2 | (with_reducible refine Kd.C_alloc ?_ _) | (with_reducible refine Kd.C_drewN ?_ _) | (with_reducible refine Kd.C_drew ?_))); (case side2 => exact (Kd.R_reads' HO_3.out).2.1); rintro e w40 ⟨v386, rfl, ho0, hb⟩; have n_ := ak5 (Kd.R_elder' (kqR HO_3.out) (Kd.R_base ho0) hb) (Kd.R_elder' (kqR HO_7.out) (Kd.R_base ho0) hb) (Kd.R_elder' (kqR HO_9.out) (Kd.R_base ho0) hb) (Kd.R_lower (Kd.R_new' (Kd.R_new' (Kd.R_new' ho0 (Kd.R_lt (kqR HO_3.out))) (Kd.R_lt (kqR HO_7.out))) (Kd.R_lt (kqR HO_9.out))) (below_size (bq HB.out))) (below_step (bq HB.out) hb); clear HO_3 HO_7 HO_9 HB; obtain ⟨HO_3, HO_7, HO_9, HO387, HB⟩ := n_; (try clear hb ho0)) | (go_at_call 40; (with_reducible refine (spec_AgeAll.calls k3 _ _ t365 t388 _ ?side1 ?side2 A36.out).mono ?_); (case side1 => repeat (first | exact (Kd.R_reads' HO_3.out).2.2 | (with_reducible refine Kd.C_alloc ?_ _) | (with_reducible refine Kd.C_drewN ?_ _) | (with_reducible refine Kd.C_drew ?_))); (case side2 => exact (Kd.R_reads' HO_3.out).2.1); rintro e w41 ⟨v389, rfl, ho0, hb⟩; have n_ := ak6 (Kd.R_elder' (kqR HO_3.out) (Kd.R_base ho0) hb) (Kd.R_elder' (kqR HO_7.out) (Kd.R_base ho0) hb) (Kd.R_elder' (kqR HO_9.out) (Kd.R_base ho0) hb) (Kd.R_elder' (kqR HO387.out) (Kd.R_base ho0) hb) (Kd.R_lower (Kd.R_new' (Kd.R_new' (Kd.R_new' (Kd.R_new' ho0 (Kd.R_lt (kqR HO_3.out))) (Kd.R_lt (kqR HO_7.out))) (Kd.R_lt (kqR HO_9.out))) (Kd.R_lt (kqR HO387.out))) (below_size (bq HB.out))) (below_step (bq HB.out) hb); clear HO_3 HO_7 HO_9 HO387 HB; obtain ⟨HO_3, HO_7, HO_9, HO387, HO390, HB⟩ := n_; (try clear hb ho0); obtain ⟨Ao42, co42, eo42⟩ := Kd.R_slice HO387.out; subst eo42; obtain ⟨Ao43, co43, eo43⟩ := Kd.R_slice HO390.out; subst eo43) | (go_at_call 31; (with_reducible refine (laws_sameFdb.calls k3 _ _ t385 _ _ t388 t391 _ ?side1 ?side2 ?side3 ?side4 A37.out).mono ?_); (case side1 => repeat (first | exact (Kd.R_reads' HO387.out).2.2 | (with_reducible refine Kd.C_alloc ?_ _) | (with_reducible refine Kd.C_drewN ?_ _) | (with_reducible refine Kd.C_drew ?_))); (case side2 => exact (Kd.R_reads' HO387.out).2.1); (case side3 => repeat (first | exact (Kd.R_reads' HO390.out).2.2 | (with_reducible refine Kd.C_alloc ?_ _) | (with_reducible refine Kd.C_drewN ?_ _) | (with_reducible refine Kd.C_drew ?_))); (case side4 => exact (Kd.R_reads' HO390.out).2.1); rintro e w' ⟨rfl, ⟨nd, rfl⟩⟩))
           go_ret
           exact ⟨rq, bq HB.out⟩
         replace c34 := Bool.eq_false_iff.mpr c34
         subst c34
         have H1 : (some false) = some r := by rw [if_neg (show ¬ (false = true) by decide)] at H; exact H
         clear H
         have H := H1
         clear H1
         exact absurd ((Option.some.inj H).trans HRT.out) (by decide)
       rw [if_neg c32] at H
       have c32b0 : ((x9_2.length : Int) == x11_3) = false := beq_eq_false_iff_ne.mpr c32
       have c32b1 : ((x9_2.length : Int) != x11_3) = true := bne_iff_ne.mpr c32
       exact absurd ((Option.some.inj H).trans HRT.out) (by decide)

/-- THE ONE PURE STATEMENT of laws_FnForgets. -/
def laws_FnForgets.Pure : Prop := ∀ (l0 : List Int), l0.length ≤ maxLen → (∀ y ∈ l0, (Lit.int .u8 y).wf = true) → ∃ k, laws_FnForgets.f k l0 = some true

end Go.Proofs.Ytebffdmkfkfoaaa.XFnForgets
