/- The functions that one law reaches, as Lean functions, with their walks: printed by a program of this seat (wip/tools) out of the translation. -/
import Derived.Test.YtgjhmbneikpiaaaDoorXFnOidsx0
import Derived.Test.YtgjhmbneikpiaaaDoorXFnOidsx1
import Derived.Test.YtgjhmbneikpiaaaDoorXFnOidsx2
import Derived.Test.YtgjhmbneikpiaaaDoorXFnOidsx3
import Derived.Test.YtgjhmbneikpiaaaDoorXFnOidsx4
namespace Go.Proofs.YtgjhmbneikpiaaaDoor.XFnOids
open Go.RowKit Go.Proofs.YtgjhmbneikpiaaaDoorW.PrintWords Go.Proofs.YtgjhmbneikpiaaaDoorW.PrintLast Go.Proofs.YtgjhmbneikpiaaaDoorW.PrintMore
attribute [local go_sem] max2_int min2_int max_two min_two max_three min_three max_four min_four   -- for this text's walks alone
set_option linter.unusedVariables false
set_option linter.unusedSimpArgs false

/-! ### spec_DrawParseOid: function 15 -/
def spec_DrawParseOid.f (k : Nat) (l0 : List Int) : Option (ByteArray) := (spec_l1New.f k l0).bind fun bt303 => ((spec_l2Draw.f k bt303.1 bt303.2.1 bt303.2.2).bind fun bt307 => ((spec_OidText.f k bt307.1).bind fun t312 => ((spec_l1Below.f bt303.1 bt307.2.1 bt307.2.2 4).bind fun bt313 => (if bt313.1 = 0 then ((spec_l1Str.f bt303.1 bt313.2.1 bt313.2.2 (([(⟨#[]⟩ : ByteArray), (⟨#[46]⟩ : ByteArray), (⟨#[49, 46]⟩ : ByteArray), (⟨#[48, 49, 46, 50]⟩ : ByteArray), (⟨#[49, 46, 46, 50]⟩ : ByteArray), (⟨#[49, 48, 48, 48, 48, 49]⟩ : ByteArray), (⟨#[120]⟩ : ByteArray), (⟨#[49, 46, 50, 46, 51, 46, 52, 46, 53, 46, 54, 46, 55, 46, 56, 46, 57, 46, 49, 48, 46, 49, 49]⟩ : ByteArray), (⟨#[57, 57, 57, 57, 57, 57, 57, 57]⟩ : ByteArray)] : List ByteArray))).bind fun bt319 => (some bt319.1)) else (if bt313.1 = 1 then ((spec_l1Str.f bt303.1 bt313.2.1 bt313.2.2 (([(⟨#[46]⟩ : ByteArray), (⟨#[48]⟩ : ByteArray), (⟨#[46, 120]⟩ : ByteArray), (⟨#[46, 48]⟩ : ByteArray)] : List ByteArray))).bind fun bt325 => (if t312.size + bt325.1.size ≤ 9223372036854775807 then (some (t312 ++ bt325.1)) else (none))) else (some t312))))))
theorem spec_DrawParseOid.mono : ∀ a0 k, LeO (spec_DrawParseOid.f k a0) (spec_DrawParseOid.f (k + 1) a0) := by
 intro a0 k
 unfold spec_DrawParseOid.f
 repeat' first
  | (with_reducible exact spec_OidText.mono _ _)
  | (with_reducible exact spec_l1New.mono _ _)
  | (with_reducible exact spec_l2Draw.mono _ _ _ _)
  | (with_reducible exact LeO.refl _)
  | (with_reducible exact LeO.none _)
  | (with_reducible refine LeO.ite ?_ ?_)
  | (with_reducible refine LeO.bind ?_ (fun _ => ?_))
  | exact spec_OidText.mono _ _
  | exact spec_l1New.mono _ _
  | exact spec_l2Draw.mono _ _ _ _
  | exact LeO.none _
  | refine LeO.ite ?_ ?_
  | refine LeO.bind ?_ (fun _ => ?_)
set_option maxHeartbeats 8000000 in
set_option maxRecDepth 100000 in
theorem spec_DrawParseOid.calls (k : Nat) (A0 : Option Addr) (c0 : Nat) (l0 : List Int) (r : ByteArray) (w : World) (hr0 : Kd.C (Kd.int .u8) w A0 l0.length l0) (hc0 : l0.length ≤ c0) (h : spec_DrawParseOid.f k l0 = some r) :
 Calls Tryd.prog 15 #[.slice A0 l0.length c0] w fun e w' => e = .returned (.string r) ∧ Below w.heap.size w w' := by
 have HR0 := am hr0
 have HC0 := am hc0
 clear hr0 hc0
 have HB := am (Below.refl w.heap.size w)
 have H : ((spec_l1New.f k l0).bind fun bt303 => ((spec_l2Draw.f k bt303.1 bt303.2.1 bt303.2.2).bind fun bt307 => ((spec_OidText.f k bt307.1).bind fun t312 => ((spec_l1Below.f bt303.1 bt307.2.1 bt307.2.2 4).bind fun bt313 => (if bt313.1 = 0 then ((spec_l1Str.f bt303.1 bt313.2.1 bt313.2.2 (([(⟨#[]⟩ : ByteArray), (⟨#[46]⟩ : ByteArray), (⟨#[49, 46]⟩ : ByteArray), (⟨#[48, 49, 46, 50]⟩ : ByteArray), (⟨#[49, 46, 46, 50]⟩ : ByteArray), (⟨#[49, 48, 48, 48, 48, 49]⟩ : ByteArray), (⟨#[120]⟩ : ByteArray), (⟨#[49, 46, 50, 46, 51, 46, 52, 46, 53, 46, 54, 46, 55, 46, 56, 46, 57, 46, 49, 48, 46, 49, 49]⟩ : ByteArray), (⟨#[57, 57, 57, 57, 57, 57, 57, 57]⟩ : ByteArray)] : List ByteArray))).bind fun bt319 => (some bt319.1)) else (if bt313.1 = 1 then ((spec_l1Str.f bt303.1 bt313.2.1 bt313.2.2 (([(⟨#[46]⟩ : ByteArray), (⟨#[48]⟩ : ByteArray), (⟨#[46, 120]⟩ : ByteArray), (⟨#[46, 48]⟩ : ByteArray)] : List ByteArray))).bind fun bt325 => (if t312.size + bt325.1.size ≤ 9223372036854775807 then (some (t312 ++ bt325.1)) else (none))) else (some t312))))))) = some r := h
 clear h
 replace H := Option.bind_eq_some_iff.mp H
 obtain ⟨⟨t303, t304, t305⟩, A20, H⟩ := H
 replace H : ((spec_l2Draw.f k t303 t304 t305).bind fun bt307 => ((spec_OidText.f k bt307.1).bind fun t312 => ((spec_l1Below.f t303 bt307.2.1 bt307.2.2 4).bind fun bt313 => (if bt313.1 = 0 then ((spec_l1Str.f t303 bt313.2.1 bt313.2.2 (([(⟨#[]⟩ : ByteArray), (⟨#[46]⟩ : ByteArray), (⟨#[49, 46]⟩ : ByteArray), (⟨#[48, 49, 46, 50]⟩ : ByteArray), (⟨#[49, 46, 46, 50]⟩ : ByteArray), (⟨#[49, 48, 48, 48, 48, 49]⟩ : ByteArray), (⟨#[120]⟩ : ByteArray), (⟨#[49, 46, 50, 46, 51, 46, 52, 46, 53, 46, 54, 46, 55, 46, 56, 46, 57, 46, 49, 48, 46, 49, 49]⟩ : ByteArray), (⟨#[57, 57, 57, 57, 57, 57, 57, 57]⟩ : ByteArray)] : List ByteArray))).bind fun bt319 => (some bt319.1)) else (if bt313.1 = 1 then ((spec_l1Str.f t303 bt313.2.1 bt313.2.2 (([(⟨#[46]⟩ : ByteArray), (⟨#[48]⟩ : ByteArray), (⟨#[46, 120]⟩ : ByteArray), (⟨#[46, 48]⟩ : ByteArray)] : List ByteArray))).bind fun bt325 => (if t312.size + bt325.1.size ≤ 9223372036854775807 then (some (t312 ++ bt325.1)) else (none))) else (some t312)))))) = some r := H
 have A2 := am A20
 clear A20
 replace H := Option.bind_eq_some_iff.mp H
 obtain ⟨⟨t307, t310, t311⟩, A30, H⟩ := H
 replace H : ((spec_OidText.f k t307).bind fun t312 => ((spec_l1Below.f t303 t310 t311 4).bind fun bt313 => (if bt313.1 = 0 then ((spec_l1Str.f t303 bt313.2.1 bt313.2.2 (([(⟨#[]⟩ : ByteArray), (⟨#[46]⟩ : ByteArray), (⟨#[49, 46]⟩ : ByteArray), (⟨#[48, 49, 46, 50]⟩ : ByteArray), (⟨#[49, 46, 46, 50]⟩ : ByteArray), (⟨#[49, 48, 48, 48, 48, 49]⟩ : ByteArray), (⟨#[120]⟩ : ByteArray), (⟨#[49, 46, 50, 46, 51, 46, 52, 46, 53, 46, 54, 46, 55, 46, 56, 46, 57, 46, 49, 48, 46, 49, 49]⟩ : ByteArray), (⟨#[57, 57, 57, 57, 57, 57, 57, 57]⟩ : ByteArray)] : List ByteArray))).bind fun bt319 => (some bt319.1)) else (if bt313.1 = 1 then ((spec_l1Str.f t303 bt313.2.1 bt313.2.2 (([(⟨#[46]⟩ : ByteArray), (⟨#[48]⟩ : ByteArray), (⟨#[46, 120]⟩ : ByteArray), (⟨#[46, 48]⟩ : ByteArray)] : List ByteArray))).bind fun bt325 => (if t312.size + bt325.1.size ≤ 9223372036854775807 then (some (t312 ++ bt325.1)) else (none))) else (some t312))))) = some r := H
 have A3 := am A30
 clear A30
 replace H := Option.bind_eq_some_iff.mp H
 obtain ⟨t312, A40, H⟩ := H
 replace H : ((spec_l1Below.f t303 t310 t311 4).bind fun bt313 => (if bt313.1 = 0 then ((spec_l1Str.f t303 bt313.2.1 bt313.2.2 (([(⟨#[]⟩ : ByteArray), (⟨#[46]⟩ : ByteArray), (⟨#[49, 46]⟩ : ByteArray), (⟨#[48, 49, 46, 50]⟩ : ByteArray), (⟨#[49, 46, 46, 50]⟩ : ByteArray), (⟨#[49, 48, 48, 48, 48, 49]⟩ : ByteArray), (⟨#[120]⟩ : ByteArray), (⟨#[49, 46, 50, 46, 51, 46, 52, 46, 53, 46, 54, 46, 55, 46, 56, 46, 57, 46, 49, 48, 46, 49, 49]⟩ : ByteArray), (⟨#[57, 57, 57, 57, 57, 57, 57, 57]⟩ : ByteArray)] : List ByteArray))).bind fun bt319 => (some bt319.1)) else (if bt313.1 = 1 then ((spec_l1Str.f t303 bt313.2.1 bt313.2.2 (([(⟨#[46]⟩ : ByteArray), (⟨#[48]⟩ : ByteArray), (⟨#[46, 120]⟩ : ByteArray), (⟨#[46, 48]⟩ : ByteArray)] : List ByteArray))).bind fun bt325 => (if t312.size + bt325.1.size ≤ 9223372036854775807 then (some (t312 ++ bt325.1)) else (none))) else (some t312)))) = some r := H
 have A4 := am A40
 clear A40
 replace H := Option.bind_eq_some_iff.mp H
 obtain ⟨⟨t313, t314, t315⟩, A50, H⟩ := H
 replace H : (if t313 = 0 then ((spec_l1Str.f t303 t314 t315 (([(⟨#[]⟩ : ByteArray), (⟨#[46]⟩ : ByteArray), (⟨#[49, 46]⟩ : ByteArray), (⟨#[48, 49, 46, 50]⟩ : ByteArray), (⟨#[49, 46, 46, 50]⟩ : ByteArray), (⟨#[49, 48, 48, 48, 48, 49]⟩ : ByteArray), (⟨#[120]⟩ : ByteArray), (⟨#[49, 46, 50, 46, 51, 46, 52, 46, 53, 46, 54, 46, 55, 46, 56, 46, 57, 46, 49, 48, 46, 49, 49]⟩ : ByteArray), (⟨#[57, 57, 57, 57, 57, 57, 57, 57]⟩ : ByteArray)] : List ByteArray))).bind fun bt319 => (some bt319.1)) else (if t313 = 1 then ((spec_l1Str.f t303 t314 t315 (([(⟨#[46]⟩ : ByteArray), (⟨#[48]⟩ : ByteArray), (⟨#[46, 120]⟩ : ByteArray), (⟨#[46, 48]⟩ : ByteArray)] : List ByteArray))).bind fun bt325 => (if t312.size + bt325.1.size ≤ 9223372036854775807 then (some (t312 ++ bt325.1)) else (none))) else (some t312))) = some r := H
 have A5 := am A50
 clear A50
 by_cases c6 : t313 = 0
 · rw [if_pos c6] at H
   have c6b0 : (t313 == 0) = true := beq_iff_eq.mpr c6
   have c6b1 : (t313 != 0) = false := bne_eq_false_iff_eq.mpr c6
   clear c6
   obtain ⟨y316, hy316⟩ : ∃ y_ : List ByteArray, y_ = (([(⟨#[]⟩ : ByteArray), (⟨#[46]⟩ : ByteArray), (⟨#[49, 46]⟩ : ByteArray), (⟨#[48, 49, 46, 50]⟩ : ByteArray), (⟨#[49, 46, 46, 50]⟩ : ByteArray), (⟨#[49, 48, 48, 48, 48, 49]⟩ : ByteArray), (⟨#[120]⟩ : ByteArray), (⟨#[49, 46, 50, 46, 51, 46, 52, 46, 53, 46, 54, 46, 55, 46, 56, 46, 57, 46, 49, 48, 46, 49, 49]⟩ : ByteArray), (⟨#[57, 57, 57, 57, 57, 57, 57, 57]⟩ : ByteArray)] : List ByteArray)) := ⟨_, rfl⟩
   replace H : ((spec_l1Str.f t303 t314 t315 y316).bind fun bt319 => (some bt319.1)) = some r := hx H hy316
   have Ny316 := am hy316
   clear hy316
   replace H := Option.bind_eq_some_iff.mp H
   obtain ⟨⟨t319, t320, t321⟩, A70, H⟩ := H
   replace H : (some t319) = some r := H
   have A7 := am A70
   clear A70
   obtain rfl := Option.some.inj H
   go_enter Tryd.func15, Tryd.ntmps15
   go_wp2_with (first | ((with_reducible refine gate_callee (f := 26) rfl ?_); refine goesL_ (some 6) rfl rfl Tryd.func26 (by kernel_rfl) rfl #[.slice A0 l0.length c0] rfl ga ?_; (with_reducible refine (spec_l1New.calls k _ _ l0 t303 t304 t305 w _ ?side1 ?side2 ?side3 A2.out).mono ?_); (case side1 => exact bq HB.out); (case side2 => exact HR0.out); (case side3 => exact HC0.out); rintro e w8 ⟨g306, rfl, hi, hb, hb2⟩; refine ⟨_, rfl, ?_⟩; have n_ := ak2 hb hi; clear HB; obtain ⟨HB, HI306⟩ := n_; (try clear hb hb2 hi)) | ((with_reducible refine gate_callee (f := 32) rfl ?_); refine goesL_ (some 8) rfl rfl Tryd.func32 (by kernel_rfl) rfl #[.pointer (some ⟨g306, 0, none⟩)] rfl ga ?_; (with_reducible refine (spec_l2Draw.calls k g306 t303 t304 t305 t307 t310 t311 w _ ?side1 ?side2 A3.out).mono ?_); (case side1 => exact IsS60.q0 HI306.out); (case side2 => exact bq1 HB.out (IsS60.ge HI306.out)); rintro e w9 ⟨v308, rfl, ho0, hi, hb, hk⟩; refine ⟨_, rfl, ?_⟩; have n_ := ak3 (Kd.R_lower ho0 (below_size (bq1 HB.out (IsS60.ge HI306.out)))) hb hi; clear HB HI306; obtain ⟨HO309, HB, HI306⟩ := n_; (try clear hb hk hi ho0); obtain ⟨Ao10, co10, eo10⟩ := Kd.R_slice HO309.out; subst eo10) | ((with_reducible refine gate_callee (f := 33) rfl ?_); refine goesL_ (some 9) rfl rfl Tryd.func33 (by kernel_rfl) rfl #[.slice Ao10 t307.length co10] rfl ga ?_; (with_reducible refine (spec_OidText.calls k _ _ t307 t312 _ ?side1 ?side2 A4.out).mono ?_); (case side1 => repeat (first | exact (Kd.R_reads' HO309.out).2.2 | (with_reducible refine Kd.C_alloc ?_ _) | (with_reducible refine Kd.C_drewN ?_ _) | (with_reducible refine Kd.C_drew ?_))); (case side2 => exact (Kd.R_reads' HO309.out).2.1); rintro e w11 ⟨rfl, hb⟩; refine ⟨_, rfl, ?_⟩; have n_ := ak3 (Kd.R_below (kqR HO309.out) hb) (IsS60.below (IsS60.q0 HI306.out) hb) (below_step (bq1 HB.out (IsS60.ge HI306.out)) hb); clear HO309 HI306 HB; obtain ⟨HO309, HI306, HB⟩ := n_; (try clear hb)) | ((with_reducible refine gate_callee (f := 34) rfl ?_); refine goesL_ (some 11) rfl rfl Tryd.func34 (by kernel_rfl) rfl #[.pointer (some ⟨g306, 0, none⟩), .int .i64 4] rfl ga ?_; (with_reducible refine (spec_l1Below.calls g306 t303 t310 t311 4 t313 t314 t315 w _ ?side1 ?side2 A5.out).mono ?_); (case side1 => exact IsS60.q0 HI306.out); (case side2 => exact bq1 HB.out (IsS60.ge HI306.out)); rintro e w12 ⟨rfl, hi, hb, hk⟩; refine ⟨_, rfl, ?_⟩; have n_ := ak3 (Kd.R_mono (Kd.R_keep (IsS60.apart (show IsS60 w _ g306 t303 t310 t311 from IsS60.q0 HI306.out) (kqR HO309.out) (by decide)) hk (fun _ h => h.2)) (fun _ h => h.1)) hb hi; clear HO309 HB HI306; obtain ⟨HO309, HB, HI306⟩ := n_; (try clear hb hk hi)) | ((with_reducible refine gate_dst (N := 15) rfl ?_); refine Kd.R_lit Kd.string _ 9 ?hg (N := 15) ?hd (xs := ([(⟨#[]⟩ : ByteArray), (⟨#[46]⟩ : ByteArray), (⟨#[49, 46]⟩ : ByteArray), (⟨#[48, 49, 46, 50]⟩ : ByteArray), (⟨#[49, 46, 46, 50]⟩ : ByteArray), (⟨#[49, 48, 48, 48, 48, 49]⟩ : ByteArray), (⟨#[120]⟩ : ByteArray), (⟨#[49, 46, 50, 46, 51, 46, 52, 46, 53, 46, 54, 46, 55, 46, 56, 46, 57, 46, 49, 48, 46, 49, 49]⟩ : ByteArray), (⟨#[57, 57, 57, 57, 57, 57, 57, 57]⟩ : ByteArray)] : List ByteArray)) (inner := [.string (⟨#[]⟩ : ByteArray), .string (⟨#[46]⟩ : ByteArray), .string (⟨#[49, 46]⟩ : ByteArray), .string (⟨#[48, 49, 46, 50]⟩ : ByteArray), .string (⟨#[49, 46, 46, 50]⟩ : ByteArray), .string (⟨#[49, 48, 48, 48, 48, 49]⟩ : ByteArray), .string (⟨#[120]⟩ : ByteArray), .string (⟨#[49, 46, 50, 46, 51, 46, 52, 46, 53, 46, 54, 46, 55, 46, 56, 46, 57, 46, 49, 48, 46, 49, 49]⟩ : ByteArray), .string (⟨#[57, 57, 57, 57, 57, 57, 57, 57]⟩ : ByteArray)]) (ok := fun _ => True) (okp := fun _ => True) ?hr ?hp (fun _ hk => hk) trivial (Below.refl _ _) (Nat.le_refl _) (by simp) ?_; (case hd => rfl); (case hg => rfl); (case hr => exact gs); (case hp => exact (Reps.one (show Kd.M Kd.string _ _ _ (⟨#[]⟩ : ByteArray) [.string (⟨#[]⟩ : ByteArray)] from rfl) (Reps.one (show Kd.M Kd.string _ _ _ (⟨#[46]⟩ : ByteArray) [.string (⟨#[46]⟩ : ByteArray)] from rfl) (Reps.one (show Kd.M Kd.string _ _ _ (⟨#[49, 46]⟩ : ByteArray) [.string (⟨#[49, 46]⟩ : ByteArray)] from rfl) (Reps.one (show Kd.M Kd.string _ _ _ (⟨#[48, 49, 46, 50]⟩ : ByteArray) [.string (⟨#[48, 49, 46, 50]⟩ : ByteArray)] from rfl) (Reps.one (show Kd.M Kd.string _ _ _ (⟨#[49, 46, 46, 50]⟩ : ByteArray) [.string (⟨#[49, 46, 46, 50]⟩ : ByteArray)] from rfl) (Reps.one (show Kd.M Kd.string _ _ _ (⟨#[49, 48, 48, 48, 48, 49]⟩ : ByteArray) [.string (⟨#[49, 48, 48, 48, 48, 49]⟩ : ByteArray)] from rfl) (Reps.one (show Kd.M Kd.string _ _ _ (⟨#[120]⟩ : ByteArray) [.string (⟨#[120]⟩ : ByteArray)] from rfl) (Reps.one (show Kd.M Kd.string _ _ _ (⟨#[49, 46, 50, 46, 51, 46, 52, 46, 53, 46, 54, 46, 55, 46, 56, 46, 57, 46, 49, 48, 46, 49, 49]⟩ : ByteArray) [.string (⟨#[49, 46, 50, 46, 51, 46, 52, 46, 53, 46, 54, 46, 55, 46, 56, 46, 57, 46, 49, 48, 46, 49, 49]⟩ : ByteArray)] from rfl) (Reps.one (show Kd.M Kd.string _ _ _ (⟨#[57, 57, 57, 57, 57, 57, 57, 57]⟩ : ByteArray) [.string (⟨#[57, 57, 57, 57, 57, 57, 57, 57]⟩ : ByteArray)] from rfl) (Reps.none _ _))))))))))); intro v317 w13 ho14 hb hg_ hnew_; clear hg_ hnew_; (first | rw [← Ny316.out] at ho14 | (simp only [Int.reduceToNat] at ho14; rw [← Ny316.out] at ho14)); have n_ := ak4 (Kd.R_below (kqR HO309.out) hb) (Kd.R_lower ho14 (below_size (bq1 HB.out (IsS60.ge HI306.out)))) (IsS60.below (IsS60.q0 HI306.out) hb) (below_step (bq1 HB.out (IsS60.ge HI306.out)) hb); clear HO309 HI306 HB; obtain ⟨HO309, HO318, HI306, HB⟩ := n_; clear hb ho14; obtain ⟨Ao15, co15, eo15⟩ := Kd.R_slice HO318.out; subst eo15) | ((with_reducible refine gate_callee (f := 35) rfl ?_); refine goesL_ (some 16) rfl rfl Tryd.func35 (by kernel_rfl) rfl #[.pointer (some ⟨g306, 0, none⟩), .slice Ao15 y316.length co15] rfl ga ?_; (with_reducible refine (spec_l1Str.calls g306 t303 t314 t315 _ _ y316 t319 t320 t321 w _ ?side1 ?side2 ?side3 ?side4 ?side5 A7.out).mono ?_); (case side1 => exact IsS60.q0 HI306.out); (case side2 => exact bq1 HB.out (IsS60.ge HI306.out)); (case side3 => repeat (first | exact (Kd.R_reads' HO318.out).2.2 | (with_reducible refine Kd.C_alloc ?_ _) | (with_reducible refine Kd.C_drewN ?_ _) | (with_reducible refine Kd.C_drew ?_))); (case side4 => exact (Kd.R_reads' HO318.out).2.1); (case side5 => exact far_slice (IsS60.own_ne HI306.out HO318.out (by decide))); rintro e w16 ⟨rfl, hi, hb, hk⟩; refine ⟨_, rfl, ?_⟩; have n_ := ak4 (Kd.R_mono (Kd.R_keep (IsS60.apart (show IsS60 w _ g306 t303 t314 t315 from IsS60.q0 HI306.out) (kqR HO309.out) (by decide)) hk (fun _ h => h.2)) (fun _ h => h.1)) (Kd.R_mono (Kd.R_keep (IsS60.apart (show IsS60 w _ g306 t303 t314 t315 from IsS60.q0 HI306.out) (kqR HO318.out) (by decide)) hk (fun _ h => h.2)) (fun _ h => h.1)) hb hi; clear HO309 HO318 HB HI306; obtain ⟨HO309, HO318, HB, HI306⟩ := n_; (try clear hb hk hi)))
   go_ret
   exact ⟨rq, bq1 HB.out (IsS60.ge HI306.out)⟩
 rw [if_neg c6] at H
 have c6b0 : (t313 == 0) = false := beq_eq_false_iff_ne.mpr c6
 have c6b1 : (t313 != 0) = true := bne_iff_ne.mpr c6
 by_cases c17 : t313 = 1
 rotate_left
 · rw [if_neg c17] at H
   have c17b0 : (t313 == 1) = false := beq_eq_false_iff_ne.mpr c17
   have c17b1 : (t313 != 1) = true := bne_iff_ne.mpr c17
   obtain rfl := Option.some.inj H
   go_enter Tryd.func15, Tryd.ntmps15
   go_wp2_with (first | ((with_reducible refine gate_callee (f := 26) rfl ?_); refine goesL_ (some 6) rfl rfl Tryd.func26 (by kernel_rfl) rfl #[.slice A0 l0.length c0] rfl ga ?_; (with_reducible refine (spec_l1New.calls k _ _ l0 t303 t304 t305 w _ ?side1 ?side2 ?side3 A2.out).mono ?_); (case side1 => exact bq HB.out); (case side2 => exact HR0.out); (case side3 => exact HC0.out); rintro e w29 ⟨g306, rfl, hi, hb, hb2⟩; refine ⟨_, rfl, ?_⟩; have n_ := ak2 hb hi; clear HB; obtain ⟨HB, HI306⟩ := n_; (try clear hb hb2 hi)) | ((with_reducible refine gate_callee (f := 32) rfl ?_); refine goesL_ (some 8) rfl rfl Tryd.func32 (by kernel_rfl) rfl #[.pointer (some ⟨g306, 0, none⟩)] rfl ga ?_; (with_reducible refine (spec_l2Draw.calls k g306 t303 t304 t305 t307 t310 t311 w _ ?side1 ?side2 A3.out).mono ?_); (case side1 => exact IsS60.q0 HI306.out); (case side2 => exact bq1 HB.out (IsS60.ge HI306.out)); rintro e w30 ⟨v308, rfl, ho0, hi, hb, hk⟩; refine ⟨_, rfl, ?_⟩; have n_ := ak3 (Kd.R_lower ho0 (below_size (bq1 HB.out (IsS60.ge HI306.out)))) hb hi; clear HB HI306; obtain ⟨HO309, HB, HI306⟩ := n_; (try clear hb hk hi ho0); obtain ⟨Ao31, co31, eo31⟩ := Kd.R_slice HO309.out; subst eo31) | ((with_reducible refine gate_callee (f := 33) rfl ?_); refine goesL_ (some 9) rfl rfl Tryd.func33 (by kernel_rfl) rfl #[.slice Ao31 t307.length co31] rfl ga ?_; (with_reducible refine (spec_OidText.calls k _ _ t307 t312 _ ?side1 ?side2 A4.out).mono ?_); (case side1 => repeat (first | exact (Kd.R_reads' HO309.out).2.2 | (with_reducible refine Kd.C_alloc ?_ _) | (with_reducible refine Kd.C_drewN ?_ _) | (with_reducible refine Kd.C_drew ?_))); (case side2 => exact (Kd.R_reads' HO309.out).2.1); rintro e w32 ⟨rfl, hb⟩; refine ⟨_, rfl, ?_⟩; have n_ := ak3 (Kd.R_below (kqR HO309.out) hb) (IsS60.below (IsS60.q0 HI306.out) hb) (below_step (bq1 HB.out (IsS60.ge HI306.out)) hb); clear HO309 HI306 HB; obtain ⟨HO309, HI306, HB⟩ := n_; (try clear hb)) | ((with_reducible refine gate_callee (f := 34) rfl ?_); refine goesL_ (some 11) rfl rfl Tryd.func34 (by kernel_rfl) rfl #[.pointer (some ⟨g306, 0, none⟩), .int .i64 4] rfl ga ?_; (with_reducible refine (spec_l1Below.calls g306 t303 t310 t311 4 t313 t314 t315 w _ ?side1 ?side2 A5.out).mono ?_); (case side1 => exact IsS60.q0 HI306.out); (case side2 => exact bq1 HB.out (IsS60.ge HI306.out)); rintro e w33 ⟨rfl, hi, hb, hk⟩; refine ⟨_, rfl, ?_⟩; have n_ := ak3 (Kd.R_mono (Kd.R_keep (IsS60.apart (show IsS60 w _ g306 t303 t310 t311 from IsS60.q0 HI306.out) (kqR HO309.out) (by decide)) hk (fun _ h => h.2)) (fun _ h => h.1)) hb hi; clear HO309 HB HI306; obtain ⟨HO309, HB, HI306⟩ := n_; (try clear hb hk hi)))
   go_ret
   exact ⟨rq, bq1 HB.out (IsS60.ge HI306.out)⟩
 rw [if_pos c17] at H
 have c17b0 : (t313 == 1) = true := beq_iff_eq.mpr c17
 have c17b1 : (t313 != 1) = false := bne_eq_false_iff_eq.mpr c17
 clear c17
 obtain ⟨y322, hy322⟩ : ∃ y_ : List ByteArray, y_ = (([(⟨#[46]⟩ : ByteArray), (⟨#[48]⟩ : ByteArray), (⟨#[46, 120]⟩ : ByteArray), (⟨#[46, 48]⟩ : ByteArray)] : List ByteArray)) := ⟨_, rfl⟩
 replace H : ((spec_l1Str.f t303 t314 t315 y322).bind fun bt325 => (if t312.size + bt325.1.size ≤ 9223372036854775807 then (some (t312 ++ bt325.1)) else (none))) = some r := hx H hy322
 have Ny322 := am hy322
 clear hy322
 replace H := Option.bind_eq_some_iff.mp H
 obtain ⟨⟨t325, t326, t327⟩, A180, H⟩ := H
 replace H : (if t312.size + t325.size ≤ 9223372036854775807 then (some (t312 ++ t325)) else (none)) = some r := H
 have A18 := am A180
 clear A180
 by_cases c19 : t312.size + t325.size ≤ 9223372036854775807
 rotate_left
 · rw [if_neg c19] at H
   exact absurd H (by simp)
 rw [if_pos c19] at H
 have c19b0 := eq_true c19
 have c19b1 : decide (t312.size + t325.size ≤ 9223372036854775807) = true := decide_eq_true c19
 try have c19b2 : (9223372036854775807 < t312.size + t325.size) = False := eq_false (Nat.not_lt.2 c19)
 obtain rfl := Option.some.inj H
 go_enter Tryd.func15, Tryd.ntmps15
 go_wp2_with (first | ((with_reducible refine gate_callee (f := 26) rfl ?_); refine goesL_ (some 6) rfl rfl Tryd.func26 (by kernel_rfl) rfl #[.slice A0 l0.length c0] rfl ga ?_; (with_reducible refine (spec_l1New.calls k _ _ l0 t303 t304 t305 w _ ?side1 ?side2 ?side3 A2.out).mono ?_); (case side1 => exact bq HB.out); (case side2 => exact HR0.out); (case side3 => exact HC0.out); rintro e w20 ⟨g306, rfl, hi, hb, hb2⟩; refine ⟨_, rfl, ?_⟩; have n_ := ak2 hb hi; clear HB; obtain ⟨HB, HI306⟩ := n_; (try clear hb hb2 hi)) | ((with_reducible refine gate_callee (f := 32) rfl ?_); refine goesL_ (some 8) rfl rfl Tryd.func32 (by kernel_rfl) rfl #[.pointer (some ⟨g306, 0, none⟩)] rfl ga ?_; (with_reducible refine (spec_l2Draw.calls k g306 t303 t304 t305 t307 t310 t311 w _ ?side1 ?side2 A3.out).mono ?_); (case side1 => exact IsS60.q0 HI306.out); (case side2 => exact bq1 HB.out (IsS60.ge HI306.out)); rintro e w21 ⟨v308, rfl, ho0, hi, hb, hk⟩; refine ⟨_, rfl, ?_⟩; have n_ := ak3 (Kd.R_lower ho0 (below_size (bq1 HB.out (IsS60.ge HI306.out)))) hb hi; clear HB HI306; obtain ⟨HO309, HB, HI306⟩ := n_; (try clear hb hk hi ho0); obtain ⟨Ao22, co22, eo22⟩ := Kd.R_slice HO309.out; subst eo22) | ((with_reducible refine gate_callee (f := 33) rfl ?_); refine goesL_ (some 9) rfl rfl Tryd.func33 (by kernel_rfl) rfl #[.slice Ao22 t307.length co22] rfl ga ?_; (with_reducible refine (spec_OidText.calls k _ _ t307 t312 _ ?side1 ?side2 A4.out).mono ?_); (case side1 => repeat (first | exact (Kd.R_reads' HO309.out).2.2 | (with_reducible refine Kd.C_alloc ?_ _) | (with_reducible refine Kd.C_drewN ?_ _) | (with_reducible refine Kd.C_drew ?_))); (case side2 => exact (Kd.R_reads' HO309.out).2.1); rintro e w23 ⟨rfl, hb⟩; refine ⟨_, rfl, ?_⟩; have n_ := ak3 (Kd.R_below (kqR HO309.out) hb) (IsS60.below (IsS60.q0 HI306.out) hb) (below_step (bq1 HB.out (IsS60.ge HI306.out)) hb); clear HO309 HI306 HB; obtain ⟨HO309, HI306, HB⟩ := n_; (try clear hb)) | ((with_reducible refine gate_callee (f := 34) rfl ?_); refine goesL_ (some 11) rfl rfl Tryd.func34 (by kernel_rfl) rfl #[.pointer (some ⟨g306, 0, none⟩), .int .i64 4] rfl ga ?_; (with_reducible refine (spec_l1Below.calls g306 t303 t310 t311 4 t313 t314 t315 w _ ?side1 ?side2 A5.out).mono ?_); (case side1 => exact IsS60.q0 HI306.out); (case side2 => exact bq1 HB.out (IsS60.ge HI306.out)); rintro e w24 ⟨rfl, hi, hb, hk⟩; refine ⟨_, rfl, ?_⟩; have n_ := ak3 (Kd.R_mono (Kd.R_keep (IsS60.apart (show IsS60 w _ g306 t303 t310 t311 from IsS60.q0 HI306.out) (kqR HO309.out) (by decide)) hk (fun _ h => h.2)) (fun _ h => h.1)) hb hi; clear HO309 HB HI306; obtain ⟨HO309, HB, HI306⟩ := n_; (try clear hb hk hi)) | ((with_reducible refine gate_dst (N := 21) rfl ?_); refine Kd.R_lit Kd.string _ 9 ?hg (N := 21) ?hd (xs := ([(⟨#[46]⟩ : ByteArray), (⟨#[48]⟩ : ByteArray), (⟨#[46, 120]⟩ : ByteArray), (⟨#[46, 48]⟩ : ByteArray)] : List ByteArray)) (inner := [.string (⟨#[46]⟩ : ByteArray), .string (⟨#[48]⟩ : ByteArray), .string (⟨#[46, 120]⟩ : ByteArray), .string (⟨#[46, 48]⟩ : ByteArray)]) (ok := fun _ => True) (okp := fun _ => True) ?hr ?hp (fun _ hk => hk) trivial (Below.refl _ _) (Nat.le_refl _) (by simp) ?_; (case hd => rfl); (case hg => rfl); (case hr => exact gs); (case hp => exact (Reps.one (show Kd.M Kd.string _ _ _ (⟨#[46]⟩ : ByteArray) [.string (⟨#[46]⟩ : ByteArray)] from rfl) (Reps.one (show Kd.M Kd.string _ _ _ (⟨#[48]⟩ : ByteArray) [.string (⟨#[48]⟩ : ByteArray)] from rfl) (Reps.one (show Kd.M Kd.string _ _ _ (⟨#[46, 120]⟩ : ByteArray) [.string (⟨#[46, 120]⟩ : ByteArray)] from rfl) (Reps.one (show Kd.M Kd.string _ _ _ (⟨#[46, 48]⟩ : ByteArray) [.string (⟨#[46, 48]⟩ : ByteArray)] from rfl) (Reps.none _ _)))))); intro v323 w25 ho26 hb hg_ hnew_; clear hg_ hnew_; (first | rw [← Ny322.out] at ho26 | (simp only [Int.reduceToNat] at ho26; rw [← Ny322.out] at ho26)); have n_ := ak4 (Kd.R_below (kqR HO309.out) hb) (Kd.R_lower ho26 (below_size (bq1 HB.out (IsS60.ge HI306.out)))) (IsS60.below (IsS60.q0 HI306.out) hb) (below_step (bq1 HB.out (IsS60.ge HI306.out)) hb); clear HO309 HI306 HB; obtain ⟨HO309, HO324, HI306, HB⟩ := n_; clear hb ho26; obtain ⟨Ao27, co27, eo27⟩ := Kd.R_slice HO324.out; subst eo27) | ((with_reducible refine gate_callee (f := 35) rfl ?_); refine goesL_ (some 22) rfl rfl Tryd.func35 (by kernel_rfl) rfl #[.pointer (some ⟨g306, 0, none⟩), .slice Ao27 y322.length co27] rfl ga ?_; (with_reducible refine (spec_l1Str.calls g306 t303 t314 t315 _ _ y322 t325 t326 t327 w _ ?side1 ?side2 ?side3 ?side4 ?side5 A18.out).mono ?_); (case side1 => exact IsS60.q0 HI306.out); (case side2 => exact bq1 HB.out (IsS60.ge HI306.out)); (case side3 => repeat (first | exact (Kd.R_reads' HO324.out).2.2 | (with_reducible refine Kd.C_alloc ?_ _) | (with_reducible refine Kd.C_drewN ?_ _) | (with_reducible refine Kd.C_drew ?_))); (case side4 => exact (Kd.R_reads' HO324.out).2.1); (case side5 => exact far_slice (IsS60.own_ne HI306.out HO324.out (by decide))); rintro e w28 ⟨rfl, hi, hb, hk⟩; refine ⟨_, rfl, ?_⟩; have n_ := ak4 (Kd.R_mono (Kd.R_keep (IsS60.apart (show IsS60 w _ g306 t303 t314 t315 from IsS60.q0 HI306.out) (kqR HO309.out) (by decide)) hk (fun _ h => h.2)) (fun _ h => h.1)) (Kd.R_mono (Kd.R_keep (IsS60.apart (show IsS60 w _ g306 t303 t314 t315 from IsS60.q0 HI306.out) (kqR HO324.out) (by decide)) hk (fun _ h => h.2)) (fun _ h => h.1)) hb hi; clear HO309 HO324 HB HI306; obtain ⟨HO309, HO324, HB, HI306⟩ := n_; (try clear hb hk hi)))
 go_ret
 exact ⟨rq, bq1 HB.out (IsS60.ge HI306.out)⟩

/-! ### impl_GetOid: function 16 -/
def impl_GetOid.l0 : Nat → List Int → List Int → Int → List Int → Int → Int → Option (List Int × Bool)
 | 0, _, _, _, _, _, _ => none
 | k + 1, x0, x4, x5, x9, x10, x11 => if x11 < x10 then (if 0 ≤ x11 then (if x11 < (x9.length : Int) then (if x11 ≥ 40 then (some (([] : List Int), false)) else (if (rd x9 x11) < 128 then (if x4.length < 17592186044416 then (impl_GetOid.l0 k x0 (x4 ++ [Go.bits .or .i64 (wrap64 ((mn x5 1048576) * 128)) (wrap64 (Go.bits .and .u8 (rd x9 x11) 127))]) 0 x9 x10 (wrap64 (x11 + 1))) else (none)) else (impl_GetOid.l0 k x0 x4 (Go.bits .or .i64 (wrap64 ((mn x5 1048576) * 128)) (wrap64 (Go.bits .and .u8 (rd x9 x11) 127))) x9 x10 (wrap64 (x11 + 1))))) else (none)) else (none)) else ((impl_PutOid.f k x4).bind fun t328 => (if (t328.length : Int) = 0 then (some (([] : List Int), false)) else (if (strOfNums t328).toList = (strOfNums x0).toList then (some (x4, true)) else (some (([] : List Int), false)))))
def impl_GetOid.f (k : Nat) (l0 : List Int) : Option (List Int × Bool) := impl_GetOid.l0 k l0 ([] : List Int) 0 l0 (l0.length : Int) 0
theorem impl_GetOid.mono_l : ∀ k, (∀ y0 y1 y2 y3 y4 y5, LeO (impl_GetOid.l0 k y0 y1 y2 y3 y4 y5) (impl_GetOid.l0 (k + 1) y0 y1 y2 y3 y4 y5))
 | 0 => fun _ _ _ _ _ _ r h => by simp [impl_GetOid.l0] at h
 | k + 1 => by
  have ih0 := impl_GetOid.mono_l k
  intro y0 y1 y2 y3 y4 y5
  unfold impl_GetOid.l0
  repeat' first
  | (with_reducible exact ih0 _ _ _ _ _ _)
  | (with_reducible exact impl_PutOid.mono _ _)
  | (with_reducible exact LeO.refl _)
  | (with_reducible exact LeO.none _)
  | (with_reducible refine LeO.ite ?_ ?_)
  | (with_reducible refine LeO.bind ?_ (fun _ => ?_))
  | exact ih0 _ _ _ _ _ _
  | exact impl_PutOid.mono _ _
  | exact LeO.none _
  | refine LeO.ite ?_ ?_
  | refine LeO.bind ?_ (fun _ => ?_)
theorem impl_GetOid.mono : ∀ a0 k, LeO (impl_GetOid.f k a0) (impl_GetOid.f (k + 1) a0) := by
 intro a0 k
 have ih0 := impl_GetOid.mono_l k
 unfold impl_GetOid.f
 repeat' first
  | (with_reducible exact ih0 _ _ _ _ _ _)
  | (with_reducible exact impl_PutOid.mono _ _)
  | (with_reducible exact LeO.refl _)
  | (with_reducible exact LeO.none _)
  | (with_reducible refine LeO.ite ?_ ?_)
  | (with_reducible refine LeO.bind ?_ (fun _ => ?_))
  | exact ih0 _ _ _ _ _ _
  | exact impl_PutOid.mono _ _
  | exact LeO.none _
  | refine LeO.ite ?_ ?_
  | refine LeO.bind ?_ (fun _ => ?_)
set_option maxHeartbeats 8000000 in
set_option maxRecDepth 100000 in
theorem impl_GetOid.calls (k : Nat) (A0 : Option Addr) (c0 : Nat) (l0 : List Int) (r1 : List Int) (r2 : Bool) (w : World) (hr0 : Kd.C (Kd.int .u8) w A0 l0.length l0) (hc0 : l0.length ≤ c0) (h : impl_GetOid.f k l0 = some (r1, r2)) :
 Calls Tryd.prog 16 #[.slice A0 l0.length c0] w fun e w' => ∃ v0_ : Value, e = .returned (.tuple #[v0_, .bool r2]) ∧ Kd.R (Kd.int .i64) 3 w' w.heap.size (fun _ => True) v0_ r1 ∧ Below w.heap.size w w' := by
 have HR0 := am hr0
 have HC0 := am hc0
 clear hr0 hc0
 have HB := am (Below.refl w.heap.size w)
 have H : (impl_GetOid.l0 k l0 ([] : List Int) 0 l0 (l0.length : Int) 0) = some (r1, r2) := h
 clear h
 have H' := am H
 clear H
 go_enter Tryd.func16, Tryd.ntmps16
 go_wp2
 go_loopg [4, 5, 11] k (fun kq v4 v5 v11 w' => ∃ (x4_1 : List Int) (x5_1 : Int) (x11_1 : Int), v5 = .int .i64 x5_1 ∧ v11 = .int .i64 x11_1 ∧ Aside0 (impl_GetOid.l0 kq l0 x4_1 x5_1 l0 (l0.length : Int) x11_1 = some (r1, r2)) ∧ Aside0 (kq ≤ k) ∧ Aside0 (Kd.R (Kd.int .i64) 3 w' w.heap.size (fun _ => True) v4 x4_1) ∧ Aside0 (Below w.heap.size w w'))
 case atStart => exact ⟨(([] : List Int)), (0), (0), sq, sq, H', ⟨Nat.le_refl _⟩, ⟨rn⟩, ⟨bq HB.out⟩⟩
 case round =>
  clear H'
  try clear c1
  obtain ⟨x4_1, x5_1, x11_1, rfl, rfl, HA, HK1, HO_4, HB⟩ := hrel
  cases gk with
  | zero => exact absurd HA.out (by simp [impl_GetOid.l0])
  | succ k1 =>
   have H := HA.out
   clear HA
   simp only [impl_GetOid.l0] at H
   by_cases c2 : x11_1 < (l0.length : Int)
   rotate_left
   · rw [if_neg c2] at H
     have c2b0 : decide (x11_1 < (l0.length : Int)) = false := decide_eq_false c2
     clear c2
     replace H := Option.bind_eq_some_iff.mp H
     obtain ⟨t328, A100, H⟩ := H
     replace H : (if (t328.length : Int) = 0 then (some (([] : List Int), false)) else (if (strOfNums t328).toList = (strOfNums l0).toList then (some (x4_1, true)) else (some (([] : List Int), false)))) = some (r1, r2) := H
     have A10 := am A100
     clear A100
     by_cases c11 : (t328.length : Int) = 0
     · rw [if_pos c11] at H
       have c11b0 : ((t328.length : Int) == 0) = true := beq_iff_eq.mpr c11
       have c11b1 : ((t328.length : Int) != 0) = false := bne_eq_false_iff_eq.mpr c11
       clear c11
       simp only [Option.some.injEq, Prod.mk.injEq] at H
       obtain ⟨rfl, rfl⟩ := H
       obtain ⟨Ao12, co12, eo12⟩ := Kd.R_slice HO_4.out
       subst eo12
       go_wp2_with (first | ((with_reducible refine gate_callee (f := 12) rfl ?_); refine goesL_ (some 33) rfl rfl Tryd.func12 (by kernel_rfl) rfl #[.slice Ao12 x4_1.length co12] rfl ga ?_; (with_reducible refine (impl_PutOid.calls k1 _ _ x4_1 t328 _ ?side1 ?side2 A10.out).mono ?_); (case side1 => repeat (first | exact (Kd.R_reads' HO_4.out).2.2 | (with_reducible refine Kd.C_alloc ?_ _) | (with_reducible refine Kd.C_drewN ?_ _) | (with_reducible refine Kd.C_drew ?_))); (case side2 => exact (Kd.R_reads' HO_4.out).2.1); rintro e w13 ⟨v329, rfl, ho0, hb⟩; refine ⟨_, rfl, ?_⟩; have n_ := ak3 (Kd.R_below (kqR HO_4.out) hb) (Kd.R_lower ho0 (below_size (bq HB.out))) (below_step (bq HB.out) hb); clear HO_4 HB; obtain ⟨HO_4, HO330, HB⟩ := n_; (try clear hb ho0); obtain ⟨Ao14, co14, eo14⟩ := Kd.R_slice HO330.out; subst eo14))
       go_ret2
       exact ⟨_, rq, rn, bq HB.out⟩
     rw [if_neg c11] at H
     have c11b0 : ((t328.length : Int) == 0) = false := beq_eq_false_iff_ne.mpr c11
     have c11b1 : ((t328.length : Int) != 0) = true := bne_iff_ne.mpr c11
     have c11b2 : ¬ (t328 = []) := fun h_ => c11 (by rw [h_]; rfl)
     by_cases c15 : (strOfNums t328).toList = (strOfNums l0).toList
     rotate_left
     · rw [if_neg c15] at H
       have c15b0 : ((strOfNums t328).toList == (strOfNums l0).toList) = false := beq_eq_false_iff_ne.mpr c15
       have c15b1 : ((strOfNums t328).toList != (strOfNums l0).toList) = true := bne_iff_ne.mpr c15
       simp only [Option.some.injEq, Prod.mk.injEq] at H
       obtain ⟨rfl, rfl⟩ := H
       obtain ⟨Ao21, co21, eo21⟩ := Kd.R_slice HO_4.out
       subst eo21
       go_wp2_with (first | ((with_reducible refine gate_callee (f := 12) rfl ?_); refine goesL_ (some 33) rfl rfl Tryd.func12 (by kernel_rfl) rfl #[.slice Ao21 x4_1.length co21] rfl ga ?_; (with_reducible refine (impl_PutOid.calls k1 _ _ x4_1 t328 _ ?side1 ?side2 A10.out).mono ?_); (case side1 => repeat (first | exact (Kd.R_reads' HO_4.out).2.2 | (with_reducible refine Kd.C_alloc ?_ _) | (with_reducible refine Kd.C_drewN ?_ _) | (with_reducible refine Kd.C_drew ?_))); (case side2 => exact (Kd.R_reads' HO_4.out).2.1); rintro e w22 ⟨v329, rfl, ho0, hb⟩; refine ⟨_, rfl, ?_⟩; have n_ := ak3 (Kd.R_below (kqR HO_4.out) hb) (Kd.R_lower ho0 (below_size (bq HB.out))) (below_step (bq HB.out) hb); clear HO_4 HB; obtain ⟨HO_4, HO330, HB⟩ := n_; (try clear hb ho0); obtain ⟨Ao23, co23, eo23⟩ := Kd.R_slice HO330.out; subst eo23; have hcv24 := own_string (P := Tryd.prog) Tryd.underlying28 Tryd.underlying5 Tryd.underlying9 (Kd.own_of_R HO330.out); have hcv25 := Kd.C_string (P := Tryd.prog) (A := A0) (c := c0) Tryd.underlying28 Tryd.underlying5 Tryd.underlying9 (Kd.C_below HR0.out HB.out)))
       go_ret2
       exact ⟨_, rq, rn, bq HB.out⟩
     rw [if_pos c15] at H
     have c15b0 : ((strOfNums t328).toList == (strOfNums l0).toList) = true := beq_iff_eq.mpr c15
     have c15b1 : ((strOfNums t328).toList != (strOfNums l0).toList) = false := bne_eq_false_iff_eq.mpr c15
     clear c15
     simp only [Option.some.injEq, Prod.mk.injEq] at H
     obtain ⟨rfl, rfl⟩ := H
     obtain ⟨Ao16, co16, eo16⟩ := Kd.R_slice HO_4.out
     subst eo16
     go_wp2_with (first | ((with_reducible refine gate_callee (f := 12) rfl ?_); refine goesL_ (some 33) rfl rfl Tryd.func12 (by kernel_rfl) rfl #[.slice Ao16 x4_1.length co16] rfl ga ?_; (with_reducible refine (impl_PutOid.calls k1 _ _ x4_1 t328 _ ?side1 ?side2 A10.out).mono ?_); (case side1 => repeat (first | exact (Kd.R_reads' HO_4.out).2.2 | (with_reducible refine Kd.C_alloc ?_ _) | (with_reducible refine Kd.C_drewN ?_ _) | (with_reducible refine Kd.C_drew ?_))); (case side2 => exact (Kd.R_reads' HO_4.out).2.1); rintro e w17 ⟨v329, rfl, ho0, hb⟩; refine ⟨_, rfl, ?_⟩; have n_ := ak3 (Kd.R_below (kqR HO_4.out) hb) (Kd.R_lower ho0 (below_size (bq HB.out))) (below_step (bq HB.out) hb); clear HO_4 HB; obtain ⟨HO_4, HO330, HB⟩ := n_; (try clear hb ho0); obtain ⟨Ao18, co18, eo18⟩ := Kd.R_slice HO330.out; subst eo18; have hcv19 := own_string (P := Tryd.prog) Tryd.underlying28 Tryd.underlying5 Tryd.underlying9 (Kd.own_of_R HO330.out); have hcv20 := Kd.C_string (P := Tryd.prog) (A := A0) (c := c0) Tryd.underlying28 Tryd.underlying5 Tryd.underlying9 (Kd.C_below HR0.out HB.out)))
     go_ret2
     exact ⟨_, rq, kqR HO_4.out, bq HB.out⟩
   rw [if_pos c2] at H
   have c2b0 : decide (x11_1 < (l0.length : Int)) = true := decide_eq_true c2
   clear c2
   by_cases c3 : 0 ≤ x11_1
   rotate_left
   · rw [if_neg c3] at H
     exact absurd H (by simp)
   rw [if_pos c3] at H
   have c3b0 : decide (0 ≤ x11_1) = true := decide_eq_true c3
   clear c3
   by_cases c4 : x11_1 < (l0.length : Int)
   rotate_left
   · rw [if_neg c4] at H
     exact absurd H (by simp)
   rw [if_pos c4] at H
   have c4b0 : decide (x11_1 < (l0.length : Int)) = true := decide_eq_true c4
   clear c4
   by_cases c5 : x11_1 ≥ 40
   · rw [if_pos c5] at H
     have c5b0 : decide (40 ≤ x11_1) = true := decide_eq_true c5
     clear c5
     simp only [Option.some.injEq, Prod.mk.injEq] at H
     obtain ⟨rfl, rfl⟩ := H
     have p331 : 0 ≤ (x11_1 : Int) := oda
     have q331 : x11_1 < (l0.length : Int) := oda
     obtain ⟨ad331, e331, hx331_0⟩ := Kd.at_int HR0.out x11_1 p331 q331
     cases e331
     replace hx331_0 := (HB.out.cell (World.block_lt_of_cell? w _ hx331_0)).trans hx331_0
     replace p331 := eq_true p331
     replace q331 := eq_true q331
     go_wp2
     go_ret2
     exact ⟨_, rq, rn, bq HB.out⟩
   rw [if_neg c5] at H
   have c5b0 : decide (40 ≤ x11_1) = false := decide_eq_false c5
   clear c5
   obtain ⟨ji6, hji6⟩ : ∃ j_ : Int, (mn x5_1 1048576) = j_ := ⟨_, rfl⟩
   replace H : (if (rd l0 x11_1) < 128 then (if x4_1.length < 17592186044416 then (impl_GetOid.l0 k1 l0 (x4_1 ++ [Go.bits .or .i64 (wrap64 ((ji6) * 128)) (wrap64 (Go.bits .and .u8 (rd l0 x11_1) 127))]) 0 l0 (l0.length : Int) (wrap64 (x11_1 + 1))) else (none)) else (impl_GetOid.l0 k1 l0 x4_1 (Go.bits .or .i64 (wrap64 ((ji6) * 128)) (wrap64 (Go.bits .and .u8 (rd l0 x11_1) 127))) l0 (l0.length : Int) (wrap64 (x11_1 + 1)))) = some (r1, r2) := by first | (rw [hji6] at H; exact H) | (simp only [hji6] at H ⊢; exact H)
   have hji6_ : (if 1048576 < x5_1 then 1048576 else x5_1) = ji6 := hji6
   by_cases c7 : (rd l0 x11_1) < 128
   rotate_left
   · rw [if_neg c7] at H
     have c7b0 : decide ((rd l0 x11_1) < 128) = false := decide_eq_false c7
     clear c7
     have H' := am H
     clear H
     have p331 : 0 ≤ (x11_1 : Int) := oda
     have q331 : x11_1 < (l0.length : Int) := oda
     obtain ⟨ad331, e331, hx331_0⟩ := Kd.at_int HR0.out x11_1 p331 q331
     cases e331
     replace hx331_0 := (HB.out.cell (World.block_lt_of_cell? w _ hx331_0)).trans hx331_0
     replace p331 := eq_true p331
     replace q331 := eq_true q331
     go_wp2
     go_roundg k1
     case measure => have := HK1.out; omega
     case rel => exact ⟨(x4_1), (Go.bits .or .i64 (wrap64 ((ji6) * 128)) (wrap64 (Go.bits .and .u8 (rd l0 x11_1) 127))), (wrap64 (x11_1 + 1)), (by first | rfl | (simp; done) | (simp only [← hji6] <;> (first | rfl | simp)) | (simp [*]; done)), sq, H', ⟨by have := HK1.out; omega⟩, ⟨kqR HO_4.out⟩, ⟨bq HB.out⟩⟩
   rw [if_pos c7] at H
   have c7b0 : decide ((rd l0 x11_1) < 128) = true := decide_eq_true c7
   clear c7
   by_cases c8 : x4_1.length < 17592186044416
   rotate_left
   · rw [if_neg c8] at H
     exact absurd H (by simp)
   rw [if_pos c8] at H
   have LMc8 := am c8
   clear c8
   obtain ⟨y332, hy332⟩ : ∃ y_ : List Int, y_ = (x4_1 ++ [Go.bits .or .i64 (wrap64 ((ji6) * 128)) (wrap64 (Go.bits .and .u8 (rd l0 x11_1) 127))]) := ⟨_, rfl⟩
   replace H : (impl_GetOid.l0 k1 l0 y332 0 l0 (l0.length : Int) (wrap64 (x11_1 + 1))) = some (r1, r2) := hx H hy332
   have Ny332 := am hy332
   clear hy332
   have H' := am H
   clear H
   have p331 : 0 ≤ (x11_1 : Int) := oda
   have q331 : x11_1 < (l0.length : Int) := oda
   obtain ⟨ad331, e331, hx331_0⟩ := Kd.at_int HR0.out x11_1 p331 q331
   cases e331
   replace hx331_0 := (HB.out.cell (World.block_lt_of_cell? w _ hx331_0)).trans hx331_0
   replace p331 := eq_true p331
   replace q331 := eq_true q331
   go_wp2_with (first | ((with_reducible refine gate_builtin (b := .append) (xs := #[.tmp 27, .tmp 29]) rfl ?_); at_builtin; refine Kd.R_append (Kd.int .i64) (w0 := w) w.heap.size rfl (.tmp 27) (.tmp 29) 22 3 (.int .i64 0) 8 rfl Tryd.underlying22 info3 rfl (by decide) (by omega) u4 x4_1 (Go.bits .or .i64 (wrap64 ((ji6) * 128)) (wrap64 (Go.bits .and .u8 (rd l0 x11_1) 127))) [.int .i64 (Go.bits .or .i64 (wrap64 ((ji6) * 128)) (wrap64 (Go.bits .and .u8 (rd l0 x11_1) 127)))] (fun _ => True) (fun _ => False) rfl rfl ?aP (fun _ hk => hk.elim) ?aF ?aO ?aB ?aS ?aL ?_; (case aP => exact rfl); (case aB => exact (bq HB.out)); (case aF => exact (fun _ _ => trivial)); (case aO => exact (kqR HO_4.out)); (case aS => exact (below_size (bq HB.out))); (case aL => have := LMc8.out; omega); intro v333 w9 ho hb hg hat; rw [← Ny332.out] at ho; have n_ := ak2 hb ho; clear HB HO_4; obtain ⟨HB, HO334⟩ := n_; clear ho hb hg hat))
   go_roundg k1
   case measure => have := HK1.out; omega
   case rel => exact ⟨(y332), (0), (wrap64 (x11_1 + 1)), sq, sq, H', ⟨by have := HK1.out; omega⟩, ⟨kqR HO334.out⟩, ⟨bq HB.out⟩⟩

/-! ### spec_GetOid: function 17 -/
mutual
def spec_GetOid.l0 : Nat → List Int → List Int → Int → Option (List Int × Bool)
 | 0, _, _, _ => none
 | k + 1, x0, x4, x5 => if x5 < (x0.length : Int) then (spec_GetOid.j1 k x0 x4 x5 (decide ((x4.length : Int) ≤ 10))) else (spec_GetOid.j1 k x0 x4 x5 false)
def spec_GetOid.j1 : Nat → List Int → List Int → Int → Bool → Option (List Int × Bool)
 | 0, _, _, _, _ => none
 | k + 1, x0, x4, x5, x18 => if x18 = true then (spec_GetOid.l1 k x0 x4 x5 0 0 true) else (if x5 = (x0.length : Int) then ((spec_OidOk.f k x4).bind fun t338 => (if t338 = true then (some (x4, true)) else (some ((([] : List Int)), false)))) else (some ((([] : List Int)), false)))
def spec_GetOid.l1 : Nat → List Int → List Int → Int → Int → Int → Bool → Option (List Int × Bool)
 | 0, _, _, _, _, _, _ => none
 | k + 1, x0, x4, x5, x6, x7, x8 => if x8 = true then (if x5 < (x0.length : Int) then (if x7 < 4 then (if 0 ≤ x5 then (spec_GetOid.l1 k x0 x4 (wrap64 (x5 + 1)) (Go.bits .or .i64 (wrap64 (x6 * 128)) (wrap64 (Go.bits .and .u8 (rd x0 x5) 127))) (wrap64 (x7 + 1)) (decide ((rd x0 x5) > 127))) else (none)) else (some ((([] : List Int)), false))) else (some ((([] : List Int)), false))) else ((spec_l2Group.f k x6).bind fun t353 => (if (t353.length : Int) = x7 then (if x4.length < 17592186044416 then (spec_GetOid.l0 k x0 (x4 ++ [x6]) x5) else (none)) else (some ((([] : List Int)), false))))
end
def spec_GetOid.f (k : Nat) (l0 : List Int) : Option (List Int × Bool) := spec_GetOid.l0 k l0 (([] : List Int)) 0
theorem spec_GetOid.mono_l : ∀ k, (∀ y0 y1 y2, LeO (spec_GetOid.l0 k y0 y1 y2) (spec_GetOid.l0 (k + 1) y0 y1 y2)) ∧ (∀ y0 y1 y2 y3, LeO (spec_GetOid.j1 k y0 y1 y2 y3) (spec_GetOid.j1 (k + 1) y0 y1 y2 y3)) ∧ (∀ y0 y1 y2 y3 y4 y5, LeO (spec_GetOid.l1 k y0 y1 y2 y3 y4 y5) (spec_GetOid.l1 (k + 1) y0 y1 y2 y3 y4 y5))
 | 0 => ⟨fun _ _ _ r h => by simp [spec_GetOid.l0] at h, fun _ _ _ _ r h => by simp [spec_GetOid.j1] at h, fun _ _ _ _ _ _ r h => by simp [spec_GetOid.l1] at h⟩
 | k + 1 => by
  obtain ⟨ih0, ih1, ih2⟩ := spec_GetOid.mono_l k
  refine ⟨?_, ?_, ?_⟩
  · intro y0 y1 y2
    unfold spec_GetOid.l0
    repeat' first
    | (with_reducible exact ih0 _ _ _)
    | (with_reducible exact ih1 _ _ _ _)
    | (with_reducible exact ih2 _ _ _ _ _ _)
    | (with_reducible exact spec_OidOk.mono _ _)
    | (with_reducible exact spec_l2Group.mono _ _)
    | (with_reducible exact LeO.refl _)
    | (with_reducible exact LeO.none _)
    | (with_reducible refine LeO.ite ?_ ?_)
    | (with_reducible refine LeO.bind ?_ (fun _ => ?_))
    | exact ih0 _ _ _
    | exact ih1 _ _ _ _
    | exact ih2 _ _ _ _ _ _
    | exact spec_OidOk.mono _ _
    | exact spec_l2Group.mono _ _
    | exact LeO.none _
    | refine LeO.ite ?_ ?_
    | refine LeO.bind ?_ (fun _ => ?_)
  · intro y0 y1 y2 y3
    unfold spec_GetOid.j1
    repeat' first
    | (with_reducible exact ih0 _ _ _)
    | (with_reducible exact ih1 _ _ _ _)
    | (with_reducible exact ih2 _ _ _ _ _ _)
    | (with_reducible exact spec_OidOk.mono _ _)
    | (with_reducible exact spec_l2Group.mono _ _)
    | (with_reducible exact LeO.refl _)
    | (with_reducible exact LeO.none _)
    | (with_reducible refine LeO.ite ?_ ?_)
    | (with_reducible refine LeO.bind ?_ (fun _ => ?_))
    | exact ih0 _ _ _
    | exact ih1 _ _ _ _
    | exact ih2 _ _ _ _ _ _
    | exact spec_OidOk.mono _ _
    | exact spec_l2Group.mono _ _
    | exact LeO.none _
    | refine LeO.ite ?_ ?_
    | refine LeO.bind ?_ (fun _ => ?_)
  intro y0 y1 y2 y3 y4 y5
  unfold spec_GetOid.l1
  repeat' first
  | (with_reducible exact ih0 _ _ _)
  | (with_reducible exact ih1 _ _ _ _)
  | (with_reducible exact ih2 _ _ _ _ _ _)
  | (with_reducible exact spec_OidOk.mono _ _)
  | (with_reducible exact spec_l2Group.mono _ _)
  | (with_reducible exact LeO.refl _)
  | (with_reducible exact LeO.none _)
  | (with_reducible refine LeO.ite ?_ ?_)
  | (with_reducible refine LeO.bind ?_ (fun _ => ?_))
  | exact ih0 _ _ _
  | exact ih1 _ _ _ _
  | exact ih2 _ _ _ _ _ _
  | exact spec_OidOk.mono _ _
  | exact spec_l2Group.mono _ _
  | exact LeO.none _
  | refine LeO.ite ?_ ?_
  | refine LeO.bind ?_ (fun _ => ?_)
theorem spec_GetOid.mono : ∀ a0 k, LeO (spec_GetOid.f k a0) (spec_GetOid.f (k + 1) a0) := by
 intro a0 k
 obtain ⟨ih0, ih1, ih2⟩ := spec_GetOid.mono_l k
 unfold spec_GetOid.f
 repeat' first
  | (with_reducible exact ih0 _ _ _)
  | (with_reducible exact ih1 _ _ _ _)
  | (with_reducible exact ih2 _ _ _ _ _ _)
  | (with_reducible exact spec_OidOk.mono _ _)
  | (with_reducible exact spec_l2Group.mono _ _)
  | (with_reducible exact LeO.refl _)
  | (with_reducible exact LeO.none _)
  | (with_reducible refine LeO.ite ?_ ?_)
  | (with_reducible refine LeO.bind ?_ (fun _ => ?_))
  | exact ih0 _ _ _
  | exact ih1 _ _ _ _
  | exact ih2 _ _ _ _ _ _
  | exact spec_OidOk.mono _ _
  | exact spec_l2Group.mono _ _
  | exact LeO.none _
  | refine LeO.ite ?_ ?_
  | refine LeO.bind ?_ (fun _ => ?_)
set_option maxHeartbeats 8000000 in
set_option maxRecDepth 100000 in
theorem spec_GetOid.calls (k : Nat) (A0 : Option Addr) (c0 : Nat) (l0 : List Int) (r1 : List Int) (r2 : Bool) (w : World) (hr0 : Kd.C (Kd.int .u8) w A0 l0.length l0) (hc0 : l0.length ≤ c0) (h : spec_GetOid.f k l0 = some (r1, r2)) :
 Calls Tryd.prog 17 #[.slice A0 l0.length c0] w fun e w' => ∃ v0_ : Value, e = .returned (.tuple #[v0_, .bool r2]) ∧ Kd.R (Kd.int .i64) 3 w' w.heap.size (fun _ => True) v0_ r1 ∧ Below w.heap.size w w' := by
 have HR0 := am hr0
 have HC0 := am hc0
 clear hr0 hc0
 have HB := am (Below.refl w.heap.size w)
 have H : (spec_GetOid.l0 k l0 (([] : List Int)) 0) = some (r1, r2) := h
 clear h
 obtain ⟨y335, hy335⟩ : ∃ y_ : List Int, y_ = (([] : List Int)) := ⟨_, rfl⟩
 replace H : (spec_GetOid.l0 k l0 y335 0) = some (r1, r2) := hx H hy335
 have Ny335 := am hy335
 clear hy335
 have H' := am H
 clear H
 go_enter Tryd.func17, Tryd.ntmps17
 go_wp2_with (first | ((with_reducible refine gate_dst (N := 9) rfl ?_); (try (refine gate_guard (by rfl) ?_; dsimp only)); refine Kd.R_lit (Kd.int .i64) _ 3 ?hg (N := 9) ?hd (xs := ([] : List Int)) (inner := []) (ok := fun _ => True) (okp := fun _ => True) ?hr ?hp (fun _ hk => hk) trivial (Below.refl _ _) (Nat.le_refl _) (by simp) ?_; (case hd => rfl); (case hg => rfl); (case hr => exact gs); (case hp => exact (Reps.none _ _)); intro v336 w2 ho3 hb hg_ hnew_; clear hg_ hnew_; (first | rw [← Ny335.out] at ho3 | (simp only [Int.reduceToNat] at ho3; rw [← Ny335.out] at ho3)); have n_ := ak2 (Kd.R_lower ho3 (below_size (bq HB.out))) (below_step (bq HB.out) hb); clear HB; obtain ⟨HO337, HB⟩ := n_; clear hb ho3))
 go_loopg [4, 5] k (fun kq v4 v5 w' => ∃ (x4_1 : List Int) (x5_1 : Int), v5 = .int .i64 x5_1 ∧ Aside0 (spec_GetOid.l0 kq l0 x4_1 x5_1 = some (r1, r2)) ∧ Aside0 (kq ≤ k) ∧ Aside0 (Kd.R (Kd.int .i64) 3 w' w.heap.size (fun _ => True) v4 x4_1) ∧ Aside0 (Below w.heap.size w w'))
 case atStart => exact ⟨(y335), (0), sq, H', ⟨Nat.le_refl _⟩, ⟨kqR HO337.out⟩, ⟨bq HB.out⟩⟩
 case round =>
  clear H'
  try clear c1
  try clear p2
  obtain ⟨x4_1, x5_1, rfl, HA, HK1, HO_4, HB⟩ := hrel
  cases gk with
  | zero => exact absurd HA.out (by simp [spec_GetOid.l0])
  | succ k1 =>
   have H := HA.out
   clear HA
   simp only [spec_GetOid.l0] at H
   have HC4 := am H
   clear H
   go_upto_region 3 with (fail)
   go_cut [18] (fun v18 wc => ∃ (kq : Nat) (x18_3 : Bool), v18 = .bool x18_3 ∧ Aside0 (spec_GetOid.j1 kq l0 x4_1 x5_1 x18_3 = some (r1, r2)) ∧ Aside0 (kq ≤ k1) ∧ Aside0 (Kd.R (Kd.int .i64) 3 wc w.heap.size (fun _ => True) u4 x4_1) ∧ Aside0 (Below w.heap.size w wc))
   case first =>
    have H := HC4.out
    clear HC4
    by_cases c5 : x5_1 < (l0.length : Int)
    rotate_left
    · rw [if_neg c5] at H
      have c5b0 : decide (x5_1 < (l0.length : Int)) = false := decide_eq_false c5
      clear c5
      (first | rw [c5b0] | (simp only [i64_w, i32_w]; rw [c5b0]) | skip)
      have H' := am H
      clear H
      go_wp2
      go_meet
      case rel => exact ⟨_, (false), sq, H', ⟨by have := HK1.out; first | omega | exact Nat.le_refl _⟩, ⟨kqR HO_4.out⟩, ⟨bq HB.out⟩⟩
    rw [if_pos c5] at H
    have c5b0 : decide (x5_1 < (l0.length : Int)) = true := decide_eq_true c5
    clear c5
    (first | rw [c5b0] | (simp only [i64_w, i32_w]; rw [c5b0]) | skip)
    have H' := am H
    clear H
    obtain ⟨Ao6, co6, eo6⟩ := Kd.R_slice HO_4.out
    subst eo6
    go_wp2
    go_meet
    case rel => exact ⟨_, (decide ((x4_1.length : Int) ≤ 10)), sq, H', ⟨by have := HK1.out; first | omega | exact Nat.le_refl _⟩, ⟨kqR HO_4.out⟩, ⟨bq HB.out⟩⟩
   case rest =>
    clear HC4
    try clear c1
    try clear p2
    try clear c5
    try clear c5b0
    try clear p2
    obtain ⟨kq, x18_3, rfl, HA, HJ3, HO_4, HB⟩ := hcut
    cases kq with
    | zero => exact absurd HA.out (by simp [spec_GetOid.j1])
    | succ kj3 =>
     have H := HA.out
     clear HA
     simp only [spec_GetOid.j1] at H
     by_cases c7 : x18_3 = true
     rotate_left
     · replace c7 := Bool.eq_false_iff.mpr c7
       subst c7
       replace H : (if x5_1 = (l0.length : Int) then ((spec_OidOk.f kj3 x4_1).bind fun t338 => (if t338 = true then (some (x4_1, true)) else (some ((([] : List Int)), false)))) else (some ((([] : List Int)), false))) = some (r1, r2) := by rw [if_neg (show ¬ (false = true) by decide)] at H; exact H
       by_cases c26 : x5_1 = (l0.length : Int)
       rotate_left
       · rw [if_neg c26] at H
         have c26b0 : (x5_1 == (l0.length : Int)) = false := beq_eq_false_iff_ne.mpr c26
         have c26b1 : (x5_1 != (l0.length : Int)) = true := bne_iff_ne.mpr c26
         obtain ⟨y342, hy342⟩ : ∃ y_ : List Int, y_ = (([] : List Int)) := ⟨_, rfl⟩
         replace H : (some (y342, false)) = some (r1, r2) := hx H hy342
         have Ny342 := am hy342
         clear hy342
         simp only [Option.some.injEq, Prod.mk.injEq] at H
         obtain ⟨rfl, rfl⟩ := H
         go_wp2_with (first | ((with_reducible refine gate_dst (N := 70) rfl ?_); (try (refine gate_guard (by rfl) ?_; dsimp only)); refine Kd.R_lit (Kd.int .i64) _ 3 ?hg (N := 70) ?hd (xs := ([] : List Int)) (inner := []) (ok := fun _ => True) (okp := fun _ => True) ?hr ?hp (fun _ hk => hk) trivial (Below.refl _ _) (Nat.le_refl _) (by simp) ?_; (case hd => rfl); (case hg => rfl); (case hr => exact gs); (case hp => exact (Reps.none _ _)); intro v343 w33 ho34 hb hg_ hnew_; clear hg_ hnew_; (first | rw [← Ny342.out] at ho34 | (simp only [Int.reduceToNat] at ho34; rw [← Ny342.out] at ho34)); have n_ := ak3 (Kd.R_elder' (kqR HO_4.out) (Kd.R_base ho34) hb) (Kd.R_lower (Kd.R_new' ho34 (Kd.R_lt (kqR HO_4.out))) (below_size (bq HB.out))) (below_step (bq HB.out) hb); clear HO_4 HB; obtain ⟨HO_4, HO344, HB⟩ := n_; clear hb ho34))
         go_ret2
         exact ⟨_, rq, by refine kr ?_; exact Kd.R_mono HO344.out (fun _ hk => trivial), bq HB.out⟩
       rw [if_pos c26] at H
       have c26b0 : (x5_1 == (l0.length : Int)) = true := beq_iff_eq.mpr c26
       have c26b1 : (x5_1 != (l0.length : Int)) = false := bne_eq_false_iff_eq.mpr c26
       clear c26
       replace H := Option.bind_eq_some_iff.mp H
       obtain ⟨t338, A270, H⟩ := H
       replace H : (if t338 = true then (some (x4_1, true)) else (some ((([] : List Int)), false))) = some (r1, r2) := H
       have A27 := am A270
       clear A270
       by_cases c28 : t338 = true
       · subst c28
         replace H : (some (x4_1, true)) = some (r1, r2) := by rw [if_pos rfl] at H; exact H
         simp only [Option.some.injEq, Prod.mk.injEq] at H
         obtain ⟨rfl, rfl⟩ := H
         obtain ⟨Ao29, co29, eo29⟩ := Kd.R_slice HO_4.out
         subst eo29
         go_wp2_with (first | (go_at_call 19; (with_reducible refine (spec_OidOk.calls kj3 _ _ x4_1 true _ ?side1 ?side2 A27.out).mono ?_); (case side1 => repeat (first | exact (Kd.R_reads' HO_4.out).2.2 | (with_reducible refine Kd.C_alloc ?_ _) | (with_reducible refine Kd.C_drewN ?_ _) | (with_reducible refine Kd.C_drew ?_))); (case side2 => exact (Kd.R_reads' HO_4.out).2.1); rintro e w' ⟨rfl, ⟨nd, rfl⟩⟩))
         go_ret2
         exact ⟨_, rq, kqR HO_4.out, bq HB.out⟩
       replace c28 := Bool.eq_false_iff.mpr c28
       subst c28
       replace H : (some ((([] : List Int)), false)) = some (r1, r2) := by rw [if_neg (show ¬ (false = true) by decide)] at H; exact H
       obtain ⟨y339, hy339⟩ : ∃ y_ : List Int, y_ = (([] : List Int)) := ⟨_, rfl⟩
       replace H : (some (y339, false)) = some (r1, r2) := hx H hy339
       have Ny339 := am hy339
       clear hy339
       simp only [Option.some.injEq, Prod.mk.injEq] at H
       obtain ⟨rfl, rfl⟩ := H
       obtain ⟨Ao30, co30, eo30⟩ := Kd.R_slice HO_4.out
       subst eo30
       go_wp2_with (first | (go_at_call 19; (with_reducible refine (spec_OidOk.calls kj3 _ _ x4_1 false _ ?side1 ?side2 A27.out).mono ?_); (case side1 => repeat (first | exact (Kd.R_reads' HO_4.out).2.2 | (with_reducible refine Kd.C_alloc ?_ _) | (with_reducible refine Kd.C_drewN ?_ _) | (with_reducible refine Kd.C_drew ?_))); (case side2 => exact (Kd.R_reads' HO_4.out).2.1); rintro e w' ⟨rfl, ⟨nd, rfl⟩⟩) | ((with_reducible refine gate_dst (N := 70) rfl ?_); (try (refine gate_guard (by rfl) ?_; dsimp only)); refine Kd.R_lit (Kd.int .i64) _ 3 ?hg (N := 70) ?hd (xs := ([] : List Int)) (inner := []) (ok := fun _ => True) (okp := fun _ => True) ?hr ?hp (fun _ hk => hk) trivial (Below.refl _ _) (Nat.le_refl _) (by simp) ?_; (case hd => rfl); (case hg => rfl); (case hr => exact gs); (case hp => exact (Reps.none _ _)); intro v340 w31 ho32 hb hg_ hnew_; clear hg_ hnew_; (first | rw [← Ny339.out] at ho32 | (simp only [Int.reduceToNat] at ho32; rw [← Ny339.out] at ho32)); have n_ := ak3 (Kd.R_elder' (kqR HO_4.out) (Kd.R_base ho32) hb) (Kd.R_lower (Kd.R_new' ho32 (Kd.R_lt (kqR HO_4.out))) (below_size (bq HB.out))) (below_step (bq HB.out) hb); clear HO_4 HB; obtain ⟨HO_4, HO341, HB⟩ := n_; clear hb ho32))
       go_ret2
       exact ⟨_, rq, by refine kr ?_; exact Kd.R_mono HO341.out (fun _ hk => trivial), bq HB.out⟩
     subst c7
     replace H : (spec_GetOid.l1 kj3 l0 x4_1 x5_1 0 0 true) = some (r1, r2) := by rw [if_pos rfl] at H; exact H
     have H' := am H
     clear H
     go_wp2
     go_loopg [5, 6, 7, 8] kj3 (fun kq v5 v6 v7 v8 w' => ∃ (x5_3 : Int) (x6_3 : Int) (x7_3 : Int) (x8_3 : Bool), v5 = .int .i64 x5_3 ∧ v6 = .int .i64 x6_3 ∧ v7 = .int .i64 x7_3 ∧ v8 = .bool x8_3 ∧ Aside0 (spec_GetOid.l1 kq l0 x4_1 x5_3 x6_3 x7_3 x8_3 = some (r1, r2)) ∧ Aside0 (kq ≤ kj3) ∧ Aside0 (Kd.R (Kd.int .i64) 3 w' w.heap.size (fun _ => True) u4 x4_1) ∧ Aside0 (Below w.heap.size w w'))
     case atStart => exact ⟨(x5_1), (0), (0), (true), sq, sq, sq, sq, H', ⟨Nat.le_refl _⟩, ⟨kqR HO_4.out⟩, ⟨bq HB.out⟩⟩
     case round =>
      clear H'
      try clear c1
      try clear p2
      try clear c5
      try clear c5b0
      try clear c7
      try clear p2
      obtain ⟨x5_3, x6_3, x7_3, x8_3, rfl, rfl, rfl, rfl, HA, HK3, HO_4, HB⟩ := hrel
      cases gk with
      | zero => exact absurd HA.out (by simp [spec_GetOid.l1])
      | succ k3 =>
       have H := HA.out
       clear HA
       simp only [spec_GetOid.l1] at H
       by_cases c8 : x8_3 = true
       rotate_left
       · replace c8 := Bool.eq_false_iff.mpr c8
         subst c8
         replace H : ((spec_l2Group.f k3 x6_3).bind fun t353 => (if (t353.length : Int) = x7_3 then (if x4_1.length < 17592186044416 then (spec_GetOid.l0 k3 l0 (x4_1 ++ [x6_3]) x5_3) else (none)) else (some ((([] : List Int)), false)))) = some (r1, r2) := by rw [if_neg (show ¬ (false = true) by decide)] at H; exact H
         replace H := Option.bind_eq_some_iff.mp H
         obtain ⟨t353, A160, H⟩ := H
         replace H : (if (t353.length : Int) = x7_3 then (if x4_1.length < 17592186044416 then (spec_GetOid.l0 k3 l0 (x4_1 ++ [x6_3]) x5_3) else (none)) else (some ((([] : List Int)), false))) = some (r1, r2) := H
         have A16 := am A160
         clear A160
         by_cases c17 : (t353.length : Int) = x7_3
         rotate_left
         · rw [if_neg c17] at H
           have c17b0 : ((t353.length : Int) == x7_3) = false := beq_eq_false_iff_ne.mpr c17
           have c17b1 : ((t353.length : Int) != x7_3) = true := bne_iff_ne.mpr c17
           obtain ⟨y359, hy359⟩ : ∃ y_ : List Int, y_ = (([] : List Int)) := ⟨_, rfl⟩
           replace H : (some (y359, false)) = some (r1, r2) := hx H hy359
           have Ny359 := am hy359
           clear hy359
           simp only [Option.some.injEq, Prod.mk.injEq] at H
           obtain ⟨rfl, rfl⟩ := H
           go_wp2_with (first | (go_at_call 36; (with_reducible refine (spec_l2Group.calls k3 x6_3 t353 _ A16.out).mono ?_); rintro e w22 ⟨v354, rfl, ho0, hb⟩; have n_ := ak3 (Kd.R_below (kqR HO_4.out) hb) (Kd.R_lower ho0 (below_size (bq HB.out))) (below_step (bq HB.out) hb); clear HO_4 HB; obtain ⟨HO_4, HO355, HB⟩ := n_; (try clear hb ho0); obtain ⟨Ao23, co23, eo23⟩ := Kd.R_slice HO355.out; subst eo23) | ((with_reducible refine gate_dst (N := 56) rfl ?_); (try (refine gate_guard (by rfl) ?_; dsimp only)); refine Kd.R_lit (Kd.int .i64) _ 3 ?hg (N := 56) ?hd (xs := ([] : List Int)) (inner := []) (ok := fun _ => True) (okp := fun _ => True) ?hr ?hp (fun _ hk => hk) trivial (Below.refl _ _) (Nat.le_refl _) (by simp) ?_; (case hd => rfl); (case hg => rfl); (case hr => exact gs); (case hp => exact (Reps.none _ _)); intro v360 w24 ho25 hb hg_ hnew_; clear hg_ hnew_; (first | rw [← Ny359.out] at ho25 | (simp only [Int.reduceToNat] at ho25; rw [← Ny359.out] at ho25)); have n_ := ak4 (Kd.R_elder' (kqR HO_4.out) (Kd.R_base ho25) hb) (Kd.R_below (kqR HO355.out) hb) (Kd.R_lower (Kd.R_new' ho25 (Kd.R_lt (kqR HO_4.out))) (below_size (bq HB.out))) (below_step (bq HB.out) hb); clear HO_4 HO355 HB; obtain ⟨HO_4, HO355, HO361, HB⟩ := n_; clear hb ho25))
           go_ret2
           exact ⟨_, rq, by refine kr ?_; exact Kd.R_mono HO361.out (fun _ hk => trivial), bq HB.out⟩
         rw [if_pos c17] at H
         have c17b0 : ((t353.length : Int) == x7_3) = true := beq_iff_eq.mpr c17
         have c17b1 : ((t353.length : Int) != x7_3) = false := bne_eq_false_iff_eq.mpr c17
         clear c17
         by_cases c18 : x4_1.length < 17592186044416
         rotate_left
         · rw [if_neg c18] at H
           exact absurd H (by simp)
         rw [if_pos c18] at H
         have LMc18 := am c18
         clear c18
         obtain ⟨y356, hy356⟩ : ∃ y_ : List Int, y_ = (x4_1 ++ [x6_3]) := ⟨_, rfl⟩
         replace H : (spec_GetOid.l0 k3 l0 y356 x5_3) = some (r1, r2) := hx H hy356
         have Ny356 := am hy356
         clear hy356
         have H' := am H
         clear H
         go_wp2_with (first | (go_at_call 36; (with_reducible refine (spec_l2Group.calls k3 x6_3 t353 _ A16.out).mono ?_); rintro e w19 ⟨v354, rfl, ho0, hb⟩; have n_ := ak3 (Kd.R_below (kqR HO_4.out) hb) (Kd.R_lower ho0 (below_size (bq HB.out))) (below_step (bq HB.out) hb); clear HO_4 HB; obtain ⟨HO_4, HO355, HB⟩ := n_; (try clear hb ho0); obtain ⟨Ao20, co20, eo20⟩ := Kd.R_slice HO355.out; subst eo20) | ((with_reducible refine gate_builtin (b := .append) (xs := #[.tmp 57, .tmp 59]) rfl ?_); (try (refine gate_guard (by rfl) ?_; dsimp only)); at_builtin; refine Kd.R_append (Kd.int .i64) (w0 := w) w.heap.size rfl (.tmp 57) (.tmp 59) 22 3 (.int .i64 0) 8 rfl Tryd.underlying22 info3 rfl (by decide) (by omega) u4 x4_1 x6_3 [.int .i64 x6_3] (fun _ => True) (fun _ => False) rfl rfl ?aP (fun _ hk => hk.elim) ?aF ?aO ?aB ?aS ?aL ?_; (case aP => exact rfl); (case aB => exact (bq HB.out)); (case aF => exact (fun _ _ => trivial)); (case aO => exact (kqR HO_4.out)); (case aS => exact (below_size (bq HB.out))); (case aL => have := LMc18.out; omega); intro v357 w21 ho hb hg hat; rw [← Ny356.out] at ho; have n_ := ak3 (Kd.R_over' (kqR HO355.out) (Kd.R_typed (kqR HO_4.out)) (by decide) hg) hb ho; clear HO355 HB HO_4; obtain ⟨HO355, HB, HO358⟩ := n_; clear ho hb hg hat))
         go_roundg k3
         case measure => have := HK1.out; have := HJ3.out; have := HK3.out; omega
         case rel => exact ⟨(y356), (x5_3), sq, H', ⟨by have := HK1.out; have := HJ3.out; have := HK3.out; omega⟩, ⟨kqR HO358.out⟩, ⟨bq HB.out⟩⟩
       subst c8
       replace H : (if x5_3 < (l0.length : Int) then (if x7_3 < 4 then (if 0 ≤ x5_3 then (spec_GetOid.l1 k3 l0 x4_1 (wrap64 (x5_3 + 1)) (Go.bits .or .i64 (wrap64 (x6_3 * 128)) (wrap64 (Go.bits .and .u8 (rd l0 x5_3) 127))) (wrap64 (x7_3 + 1)) (decide ((rd l0 x5_3) > 127))) else (none)) else (some ((([] : List Int)), false))) else (some ((([] : List Int)), false))) = some (r1, r2) := by rw [if_pos rfl] at H; exact H
       by_cases c9 : x5_3 < (l0.length : Int)
       rotate_left
       · rw [if_neg c9] at H
         have c9b0 : decide (x5_3 < (l0.length : Int)) = false := decide_eq_false c9
         clear c9
         obtain ⟨y350, hy350⟩ : ∃ y_ : List Int, y_ = (([] : List Int)) := ⟨_, rfl⟩
         replace H : (some (y350, false)) = some (r1, r2) := hx H hy350
         have Ny350 := am hy350
         clear hy350
         simp only [Option.some.injEq, Prod.mk.injEq] at H
         obtain ⟨rfl, rfl⟩ := H
         go_wp2_with (first | ((with_reducible refine gate_dst (N := 56) rfl ?_); (try (refine gate_guard (by rfl) ?_; dsimp only)); refine Kd.R_lit (Kd.int .i64) _ 3 ?hg (N := 56) ?hd (xs := ([] : List Int)) (inner := []) (ok := fun _ => True) (okp := fun _ => True) ?hr ?hp (fun _ hk => hk) trivial (Below.refl _ _) (Nat.le_refl _) (by simp) ?_; (case hd => rfl); (case hg => rfl); (case hr => exact gs); (case hp => exact (Reps.none _ _)); intro v351 w14 ho15 hb hg_ hnew_; clear hg_ hnew_; (first | rw [← Ny350.out] at ho15 | (simp only [Int.reduceToNat] at ho15; rw [← Ny350.out] at ho15)); have n_ := ak3 (Kd.R_elder' (kqR HO_4.out) (Kd.R_base ho15) hb) (Kd.R_lower (Kd.R_new' ho15 (Kd.R_lt (kqR HO_4.out))) (below_size (bq HB.out))) (below_step (bq HB.out) hb); clear HO_4 HB; obtain ⟨HO_4, HO352, HB⟩ := n_; clear hb ho15))
         go_ret2
         exact ⟨_, rq, by refine kr ?_; exact Kd.R_mono HO352.out (fun _ hk => trivial), bq HB.out⟩
       rw [if_pos c9] at H
       have c9b0 : decide (x5_3 < (l0.length : Int)) = true := decide_eq_true c9
       clear c9
       by_cases c10 : x7_3 < 4
       rotate_left
       · rw [if_neg c10] at H
         have c10b0 : decide (x7_3 < 4) = false := decide_eq_false c10
         clear c10
         obtain ⟨y347, hy347⟩ : ∃ y_ : List Int, y_ = (([] : List Int)) := ⟨_, rfl⟩
         replace H : (some (y347, false)) = some (r1, r2) := hx H hy347
         have Ny347 := am hy347
         clear hy347
         simp only [Option.some.injEq, Prod.mk.injEq] at H
         obtain ⟨rfl, rfl⟩ := H
         go_wp2_with (first | ((with_reducible refine gate_dst (N := 56) rfl ?_); (try (refine gate_guard (by rfl) ?_; dsimp only)); refine Kd.R_lit (Kd.int .i64) _ 3 ?hg (N := 56) ?hd (xs := ([] : List Int)) (inner := []) (ok := fun _ => True) (okp := fun _ => True) ?hr ?hp (fun _ hk => hk) trivial (Below.refl _ _) (Nat.le_refl _) (by simp) ?_; (case hd => rfl); (case hg => rfl); (case hr => exact gs); (case hp => exact (Reps.none _ _)); intro v348 w12 ho13 hb hg_ hnew_; clear hg_ hnew_; (first | rw [← Ny347.out] at ho13 | (simp only [Int.reduceToNat] at ho13; rw [← Ny347.out] at ho13)); have n_ := ak3 (Kd.R_elder' (kqR HO_4.out) (Kd.R_base ho13) hb) (Kd.R_lower (Kd.R_new' ho13 (Kd.R_lt (kqR HO_4.out))) (below_size (bq HB.out))) (below_step (bq HB.out) hb); clear HO_4 HB; obtain ⟨HO_4, HO349, HB⟩ := n_; clear hb ho13))
         go_ret2
         exact ⟨_, rq, by refine kr ?_; exact Kd.R_mono HO349.out (fun _ hk => trivial), bq HB.out⟩
       rw [if_pos c10] at H
       have c10b0 : decide (x7_3 < 4) = true := decide_eq_true c10
       clear c10
       by_cases c11 : 0 ≤ x5_3
       rotate_left
       · rw [if_neg c11] at H
         exact absurd H (by simp)
       rw [if_pos c11] at H
       have c11b0 : decide (0 ≤ x5_3) = true := decide_eq_true c11
       clear c11
       have H' := am H
       clear H
       have p345 : 0 ≤ (x5_3 : Int) := oda
       have q345 : x5_3 < (l0.length : Int) := oda
       obtain ⟨ad345, e345, hx345_0⟩ := Kd.at_int HR0.out x5_3 p345 q345
       cases e345
       replace hx345_0 := (HB.out.cell (World.block_lt_of_cell? w _ hx345_0)).trans hx345_0
       replace p345 := eq_true p345
       replace q345 := eq_true q345
       have p346 : 0 ≤ (x5_3 : Int) := oda
       have q346 : x5_3 < (l0.length : Int) := oda
       obtain ⟨ad346, e346, hx346_0⟩ := Kd.at_int HR0.out x5_3 p346 q346
       obtain rfl : ad345 = ad346 := (by injection e346)
       replace hx346_0 := (HB.out.cell (World.block_lt_of_cell? w _ hx346_0)).trans hx346_0
       replace p346 := eq_true p346
       replace q346 := eq_true q346
       go_wp2
       go_roundg k3
       case measure => have := HK1.out; have := HJ3.out; have := HK3.out; omega
       case rel => exact ⟨(wrap64 (x5_3 + 1)), (Go.bits .or .i64 (wrap64 (x6_3 * 128)) (wrap64 (Go.bits .and .u8 (rd l0 x5_3) 127))), (wrap64 (x7_3 + 1)), (decide ((rd l0 x5_3) > 127)), sq, sq, sq, sq, H', ⟨by have := HK1.out; have := HJ3.out; have := HK3.out; omega⟩, ⟨kqR HO_4.out⟩, ⟨bq HB.out⟩⟩

/-! ### laws_sameBytes: function 18 -/
def laws_sameBytes.l0 : Nat → List Int → List Int → Int → Option (Bool)
 | 0, _, _, _ => none
 | k + 1, x0, x1, x5 => if x5 < (x0.length : Int) then (if 0 ≤ x5 then (if x5 < (x1.length : Int) then (if (rd x0 x5) = (rd x1 x5) then (laws_sameBytes.l0 k x0 x1 (wrap64 (x5 + 1))) else (some false)) else (none)) else (none)) else (some true)
def laws_sameBytes.f (k : Nat) (l0 : List Int) (l1 : List Int) : Option (Bool) := if (l0.length : Int) = (l1.length : Int) then (laws_sameBytes.l0 k l0 l1 0) else (some false)
theorem laws_sameBytes.mono_l : ∀ k, (∀ y0 y1 y2, LeO (laws_sameBytes.l0 k y0 y1 y2) (laws_sameBytes.l0 (k + 1) y0 y1 y2))
 | 0 => fun _ _ _ r h => by simp [laws_sameBytes.l0] at h
 | k + 1 => by
  have ih0 := laws_sameBytes.mono_l k
  intro y0 y1 y2
  unfold laws_sameBytes.l0
  repeat' first
  | (with_reducible exact ih0 _ _ _)
  | (with_reducible exact LeO.refl _)
  | (with_reducible exact LeO.none _)
  | (with_reducible refine LeO.ite ?_ ?_)
  | (with_reducible refine LeO.bind ?_ (fun _ => ?_))
  | exact ih0 _ _ _
  | exact LeO.none _
  | refine LeO.ite ?_ ?_
  | refine LeO.bind ?_ (fun _ => ?_)
theorem laws_sameBytes.mono : ∀ a0 a1 k, LeO (laws_sameBytes.f k a0 a1) (laws_sameBytes.f (k + 1) a0 a1) := by
 intro a0 a1 k
 have ih0 := laws_sameBytes.mono_l k
 unfold laws_sameBytes.f
 repeat' first
  | (with_reducible exact ih0 _ _ _)
  | (with_reducible exact LeO.refl _)
  | (with_reducible exact LeO.none _)
  | (with_reducible refine LeO.ite ?_ ?_)
  | (with_reducible refine LeO.bind ?_ (fun _ => ?_))
  | exact ih0 _ _ _
  | exact LeO.none _
  | refine LeO.ite ?_ ?_
  | refine LeO.bind ?_ (fun _ => ?_)
set_option maxHeartbeats 8000000 in
set_option maxRecDepth 100000 in
theorem laws_sameBytes.calls (k : Nat) (A0 : Option Addr) (c0 : Nat) (l0 : List Int) (A1 : Option Addr) (c1 : Nat) (l1 : List Int) (r : Bool) (w : World) (hr0 : Kd.C (Kd.int .u8) w A0 l0.length l0) (hc0 : l0.length ≤ c0) (hr1 : Kd.C (Kd.int .u8) w A1 l1.length l1) (hc1 : l1.length ≤ c1) (h : laws_sameBytes.f k l0 l1 = some r) :
 Calls Tryd.prog 18 #[.slice A0 l0.length c0, .slice A1 l1.length c1] w fun e w' => e = .returned (.bool r) ∧ Drawn0 w w' := by
 have HR0 := am hr0
 have HC0 := am hc0
 clear hr0 hc0
 have HR1 := am hr1
 have HC1 := am hc1
 clear hr1 hc1
 have H : (if (l0.length : Int) = (l1.length : Int) then (laws_sameBytes.l0 k l0 l1 0) else (some false)) = some r := h
 clear h
 by_cases c3 : (l0.length : Int) = (l1.length : Int)
 rotate_left
 · rw [if_neg c3] at H
   have c3b0 : ((l0.length : Int) == (l1.length : Int)) = false := beq_eq_false_iff_ne.mpr c3
   have c3b1 : ((l0.length : Int) != (l1.length : Int)) = true := bne_iff_ne.mpr c3
   have c3b2 : (l0.length == l1.length) = false := by first | simpa using c3 | (simp at c3 ⊢; omega)
   obtain rfl := Option.some.inj H
   go_enter Tryd.func18, Tryd.ntmps18
   go_wp2
   repeat (go_quiet (fail); try go_wp2)
   go_ret
   exact ⟨by first | rfl | (simp; done) | (simp [*]; done), by repeat (first | exact Drawn0.refl _ | apply Drawn0.step)⟩
 rw [if_pos c3] at H
 have c3b0 : ((l0.length : Int) == (l1.length : Int)) = true := beq_iff_eq.mpr c3
 have c3b1 : ((l0.length : Int) != (l1.length : Int)) = false := bne_eq_false_iff_eq.mpr c3
 have c3b2 : (l0.length == l1.length) = true := by first | simpa using c3 | (simp at c3 ⊢; omega)
 clear c3
 have H' := am H
 clear H
 go_enter Tryd.func18, Tryd.ntmps18
 go_wp2
 repeat (go_quiet (fail); try go_wp2)
 go_loopg [5] k (fun kq v5 w' => ∃ (x5_1 : Int), v5 = .int .i64 x5_1 ∧ Aside0 (laws_sameBytes.l0 kq l0 l1 x5_1 = some r) ∧ Aside0 (kq ≤ k) ∧ Drawn0 w w')
 case atStart => exact ⟨(0), sq, H', ⟨Nat.le_refl _⟩, by repeat (first | exact Drawn0.refl _ | apply Drawn0.step)⟩
 case round =>
  clear H'
  try clear c1
  try clear p2
  try clear c3
  try clear c3b0
  try clear c3b1
  try clear c3b2
  obtain ⟨x5_1, rfl, HA, HK1, ⟨m1, rfl⟩⟩ := hrel
  cases gk with
  | zero => exact absurd HA.out (by simp [laws_sameBytes.l0])
  | succ k1 =>
   have H := HA.out
   clear HA
   simp only [laws_sameBytes.l0] at H
   by_cases c4 : x5_1 < (l0.length : Int)
   rotate_left
   · rw [if_neg c4] at H
     have c4b0 : decide (x5_1 < (l0.length : Int)) = false := decide_eq_false c4
     clear c4
     obtain rfl := Option.some.inj H
     go_wp2
     repeat (go_quiet (fail); try go_wp2)
     go_ret
     exact ⟨by first | rfl | (simp; done) | (simp [*]; done), by repeat (first | exact Drawn0.refl _ | apply Drawn0.step)⟩
   rw [if_pos c4] at H
   have c4b0 : decide (x5_1 < (l0.length : Int)) = true := decide_eq_true c4
   clear c4
   by_cases c5 : 0 ≤ x5_1
   rotate_left
   · rw [if_neg c5] at H
     exact absurd H (by simp)
   rw [if_pos c5] at H
   have c5b0 : decide (0 ≤ x5_1) = true := decide_eq_true c5
   clear c5
   by_cases c6 : x5_1 < (l1.length : Int)
   rotate_left
   · rw [if_neg c6] at H
     exact absurd H (by simp)
   rw [if_pos c6] at H
   have c6b0 : decide (x5_1 < (l1.length : Int)) = true := decide_eq_true c6
   clear c6
   by_cases c7 : (rd l0 x5_1) = (rd l1 x5_1)
   rotate_left
   · rw [if_neg c7] at H
     have c7b0 : ((rd l0 x5_1) == (rd l1 x5_1)) = false := beq_eq_false_iff_ne.mpr c7
     have c7b1 : ((rd l0 x5_1) != (rd l1 x5_1)) = true := bne_iff_ne.mpr c7
     obtain rfl := Option.some.inj H
     have p362 : 0 ≤ (x5_1 : Int) := oda
     have q362 : x5_1 < (l0.length : Int) := oda
     obtain ⟨ad362, e362, hx362_0⟩ := Kd.at_int HR0.out x5_1 p362 q362
     cases e362
     replace p362 := eq_true p362
     replace q362 := eq_true q362
     have p363 : 0 ≤ (x5_1 : Int) := oda
     have q363 : x5_1 < (l1.length : Int) := oda
     obtain ⟨ad363, e363, hx363_0⟩ := Kd.at_int HR1.out x5_1 p363 q363
     cases e363
     replace p363 := eq_true p363
     replace q363 := eq_true q363
     go_wp2
     repeat (go_quiet (fail); try go_wp2)
     go_ret
     exact ⟨by first | rfl | (simp; done) | (simp [*]; done), by repeat (first | exact Drawn0.refl _ | apply Drawn0.step)⟩
   rw [if_pos c7] at H
   have c7b0 : ((rd l0 x5_1) == (rd l1 x5_1)) = true := beq_iff_eq.mpr c7
   have c7b1 : ((rd l0 x5_1) != (rd l1 x5_1)) = false := bne_eq_false_iff_eq.mpr c7
   clear c7
   have H' := am H
   clear H
   have p362 : 0 ≤ (x5_1 : Int) := oda
   have q362 : x5_1 < (l0.length : Int) := oda
   obtain ⟨ad362, e362, hx362_0⟩ := Kd.at_int HR0.out x5_1 p362 q362
   cases e362
   replace p362 := eq_true p362
   replace q362 := eq_true q362
   have p363 : 0 ≤ (x5_1 : Int) := oda
   have q363 : x5_1 < (l1.length : Int) := oda
   obtain ⟨ad363, e363, hx363_0⟩ := Kd.at_int HR1.out x5_1 p363 q363
   cases e363
   replace p363 := eq_true p363
   replace q363 := eq_true q363
   go_wp2
   repeat (go_quiet (fail); try go_wp2)
   go_roundg k1
   case measure => have := HK1.out; omega
   case rel => exact ⟨(wrap64 (x5_1 + 1)), sq, H', ⟨by have := HK1.out; omega⟩, by repeat (first | exact Drawn0.refl _ | apply Drawn0.step)⟩

end Go.Proofs.YtgjhmbneikpiaaaDoor.XFnOids
