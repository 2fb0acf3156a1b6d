/- The functions that one law reaches, as Lean functions, with their walks: printed by a program of this seat (wip/tools) out of the translation. -/
import Derived.Test.YtebffdmkfkfoaaaXFnVecsx0
import Derived.Test.YtebffdmkfkfoaaaXFnVecsx5
import Derived.Test.YtebffdmkfkfoaaaXFnVecsx8
namespace Go.Proofs.Ytebffdmkfkfoaaa.XFnVecs
open Go.RowKit Go.Proofs.YtebffdmkfkfoaaaW.PrintWords Go.Proofs.YtebffdmkfkfoaaaW.PrintLast Go.Proofs.YtebffdmkfkfoaaaW.PrintMore
attribute [local go_sem] max2_int min2_int max_two min_two max_three min_three max_four min_four   -- for this text's walks alone
set_option linter.unusedVariables false
set_option linter.unusedSimpArgs false

/-! ### spec_l1Byte: function 124 -/
def spec_l1Byte.f (s0_0 : List Int) (s0_1 : Int) (s0_2 : Int) : Option (Int × Int × Int) := if s0_1 < (s0_0.length : Int) then (if 0 ≤ s0_1 then (some (Go.bits .and .i64 (wrap64 ((Go.bits .and .i64 (Go.bits .xor .i64 ((wrap64 ((wrap64 (s0_2 * 6364136223846793005)) + 1442695040888963407)) / 8589934592) ((wrap64 ((wrap64 (s0_2 * 6364136223846793005)) + 1442695040888963407)) / 140737488355328)) 255) + (wrap64 (rd s0_0 s0_1)))) 255, wrap64 (s0_1 + 1), wrap64 ((wrap64 (s0_2 * 6364136223846793005)) + 1442695040888963407))) else (none)) else (some (Go.bits .and .i64 (Go.bits .xor .i64 ((wrap64 ((wrap64 (s0_2 * 6364136223846793005)) + 1442695040888963407)) / 8589934592) ((wrap64 ((wrap64 (s0_2 * 6364136223846793005)) + 1442695040888963407)) / 140737488355328)) 255, s0_1, wrap64 ((wrap64 (s0_2 * 6364136223846793005)) + 1442695040888963407)))
set_option maxHeartbeats 8000000 in
set_option maxRecDepth 100000 in
theorem spec_l1Byte.calls (g : Nat) (s0_0 : List Int) (s0_1 : Int) (s0_2 : Int) (r1 : Int) (r2 : Int) (r3 : Int) (w0 w : World) (hI : IsS133 w0 w g s0_0 s0_1 s0_2) (hB : Below w0.heap.size w0 w) (h : spec_l1Byte.f s0_0 s0_1 s0_2 = some (r1, r2, r3)) :
 Calls Try.prog 124 #[.pointer (some ⟨g, 0, none⟩)] w fun e w' => e = .returned (.int .i64 r1) ∧ IsS133 w0 w' g s0_0 r2 r3 ∧ Below w0.heap.size w0 w' ∧ KeepBut w w' g none := by
 have HI0 := am hI
 have HK := am (KeepBut.refl w g none)
 have HL := am hB.size
 clear hI
 have HW0 := am hB.size
 have HB := am hB
 clear hB
 have H : (if s0_1 < (s0_0.length : Int) then (if 0 ≤ s0_1 then (some (Go.bits .and .i64 (wrap64 ((Go.bits .and .i64 (Go.bits .xor .i64 ((wrap64 ((wrap64 (s0_2 * 6364136223846793005)) + 1442695040888963407)) / 8589934592) ((wrap64 ((wrap64 (s0_2 * 6364136223846793005)) + 1442695040888963407)) / 140737488355328)) 255) + (wrap64 (rd s0_0 s0_1)))) 255, wrap64 (s0_1 + 1), wrap64 ((wrap64 (s0_2 * 6364136223846793005)) + 1442695040888963407))) else (none)) else (some (Go.bits .and .i64 (Go.bits .xor .i64 ((wrap64 ((wrap64 (s0_2 * 6364136223846793005)) + 1442695040888963407)) / 8589934592) ((wrap64 ((wrap64 (s0_2 * 6364136223846793005)) + 1442695040888963407)) / 140737488355328)) 255, s0_1, wrap64 ((wrap64 (s0_2 * 6364136223846793005)) + 1442695040888963407)))) = some (r1, r2, r3) := h
 clear h
 by_cases c2 : s0_1 < (s0_0.length : Int)
 · rw [if_pos c2] at H
   have c2b0 : decide (s0_1 < (s0_0.length : Int)) = true := decide_eq_true c2
   clear c2
   by_cases c3 : 0 ≤ s0_1
   · rw [if_pos c3] at H
     have c3b0 : decide (0 ≤ s0_1) = true := decide_eq_true c3
     clear c3
     simp only [Option.some.injEq, Prod.mk.injEq] at H
     obtain ⟨rfl, rfl, rfl⟩ := H
     obtain ⟨ASz4_0, cSz4_0, HGz4, hgz4, HSz4_0⟩ := HI0.out
     have hcz4_0 := cellS133_0 HGz4
     have hcz4_1 := cellS133_1 HGz4
     have hcz4_2 := cellS133_2 HGz4
     have hfz4_1 := blk_frozen HGz4 1
     have hfz4_2 := blk_frozen HGz4 2
     clear HGz4 hgz4
     have p278 : 0 ≤ (s0_1 : Int) := oda
     have q278 : s0_1 < (s0_0.length : Int) := oda
     obtain ⟨ad278, e278, hx278_0⟩ := Kd.at_int HSz4_0.1 s0_1 p278 q278
     cases e278
     have hn278_0 : ad278.block ≠ g := Nat.ne_of_lt (Nat.lt_of_lt_of_le (by have := World.block_lt_of_cell? _ _ hx278_0; first | rwa [add_block] at this | exact this) (IsS133.ge HI0.out))
     replace hx278_0 := pw_cell_below HB.out hx278_0
     replace hx278_0 := (cell_far (p := ⟨g, 2, none⟩) (by first | (rw [add_block]; exact hn278_0) | (show (Addr.add _ _).block ≠ _; rw [add_block]; exact hn278_0) | exact hn278_0) (.int .i64 (wrap64 ((wrap64 (s0_2 * 6364136223846793005)) + 1442695040888963407)))).trans hx278_0
     (try have hy278_0 := fun (n_ : Nat) => (show (((w.drewN n_).setCell ⟨g, 2, none⟩ (.int .i64 (wrap64 ((wrap64 (s0_2 * 6364136223846793005)) + 1442695040888963407))))).cell? _ = some _ from hx278_0))
     clear hn278_0
     replace p278 := eq_true p278
     replace q278 := eq_true q278
     go_enter Try.func124, Try.ntmps124
     go_wp2
     repeat (go_quiet (fail); try go_wp2)
     go_ret
     exact ⟨rq, IsS133.q0 HI0.out, bq1 HB.out (IsS133.ge HI0.out), kp0 HK.out⟩
   rw [if_neg c3] at H
   exact absurd H (by simp)
 rw [if_neg c2] at H
 have c2b0 : decide (s0_1 < (s0_0.length : Int)) = false := decide_eq_false c2
 clear c2
 simp only [Option.some.injEq, Prod.mk.injEq] at H
 obtain ⟨rfl, rfl, rfl⟩ := H
 obtain ⟨ASz5_0, cSz5_0, HGz5, hgz5, HSz5_0⟩ := HI0.out
 have hcz5_0 := cellS133_0 HGz5
 have hcz5_1 := cellS133_1 HGz5
 have hcz5_2 := cellS133_2 HGz5
 have hfz5_1 := blk_frozen HGz5 1
 have hfz5_2 := blk_frozen HGz5 2
 clear HGz5 hgz5
 go_enter Try.func124, Try.ntmps124
 go_wp2
 repeat (go_quiet (fail); try go_wp2)
 go_ret
 exact ⟨rq, IsS133.q0 HI0.out, bq1 HB.out (IsS133.ge HI0.out), kp0 HK.out⟩

/-! ### spec_l1Below: function 86 -/
def spec_l1Below.f (s0_0 : List Int) (s0_1 : Int) (s0_2 : Int) (a1 : Int) : Option (Int × Int × Int) := if a1 ≤ 0 then (some (0, s0_1, s0_2)) else (if a1 ≤ 256 then ((spec_l1Byte.f s0_0 s0_1 s0_2).bind fun bt279 => (if a1 = 0 then (none) else (some (Int.tmod bt279.1 a1, bt279.2.1, bt279.2.2)))) else ((spec_l1Byte.f s0_0 s0_1 s0_2).bind fun bt282 => ((spec_l1Byte.f s0_0 bt282.2.1 bt282.2.2).bind fun bt285 => ((spec_l1Byte.f s0_0 bt285.2.1 bt285.2.2).bind fun bt288 => (if a1 = 0 then (none) else (some (Int.tmod (wrap64 ((wrap64 ((wrap64 (bt282.1 * 65536)) + (wrap64 (bt285.1 * 256)))) + bt288.1)) a1, bt288.2.1, bt288.2.2)))))))
set_option maxHeartbeats 8000000 in
set_option maxRecDepth 100000 in
theorem spec_l1Below.calls (g : Nat) (s0_0 : List Int) (s0_1 : Int) (s0_2 : Int) (a1 : Int) (r1 : Int) (r2 : Int) (r3 : Int) (w0 w : World) (hI : IsS133 w0 w g s0_0 s0_1 s0_2) (hB : Below w0.heap.size w0 w) (h : spec_l1Below.f s0_0 s0_1 s0_2 a1 = some (r1, r2, r3)) :
 Calls Try.prog 86 #[.pointer (some ⟨g, 0, none⟩), .int .i64 a1] w fun e w' => e = .returned (.int .i64 r1) ∧ IsS133 w0 w' g s0_0 r2 r3 ∧ Below w0.heap.size w0 w' ∧ KeepBut w w' g none := by
 have HI0 := am hI
 have HK := am (KeepBut.refl w g none)
 have HL := am hB.size
 clear hI
 have HW0 := am hB.size
 have HB := am hB
 clear hB
 have H : (if a1 ≤ 0 then (some (0, s0_1, s0_2)) else (if a1 ≤ 256 then ((spec_l1Byte.f s0_0 s0_1 s0_2).bind fun bt279 => (if a1 = 0 then (none) else (some (Int.tmod bt279.1 a1, bt279.2.1, bt279.2.2)))) else ((spec_l1Byte.f s0_0 s0_1 s0_2).bind fun bt282 => ((spec_l1Byte.f s0_0 bt282.2.1 bt282.2.2).bind fun bt285 => ((spec_l1Byte.f s0_0 bt285.2.1 bt285.2.2).bind fun bt288 => (if a1 = 0 then (none) else (some (Int.tmod (wrap64 ((wrap64 ((wrap64 (bt282.1 * 65536)) + (wrap64 (bt285.1 * 256)))) + bt288.1)) a1, bt288.2.1, bt288.2.2)))))))) = some (r1, r2, r3) := h
 clear h
 by_cases c3 : a1 ≤ 0
 · rw [if_pos c3] at H
   have c3b0 : decide (a1 ≤ 0) = true := decide_eq_true c3
   clear c3
   simp only [Option.some.injEq, Prod.mk.injEq] at H
   obtain ⟨rfl, rfl, rfl⟩ := H
   go_enter Try.func86, Try.ntmps86
   go_wp2
   go_ret
   exact ⟨rq, IsS133.q0 HI0.out, bq1 HB.out (IsS133.ge HI0.out), kp0 HK.out⟩
 rw [if_neg c3] at H
 have c3b0 : decide (a1 ≤ 0) = false := decide_eq_false c3
 clear c3
 by_cases c4 : a1 ≤ 256
 · rw [if_pos c4] at H
   have c4b0 : decide (a1 ≤ 256) = true := decide_eq_true c4
   clear c4
   replace H := Option.bind_eq_some_iff.mp H
   obtain ⟨⟨t279, t280, t281⟩, A50, H⟩ := H
   replace H : (if a1 = 0 then (none) else (some (Int.tmod t279 a1, t280, t281))) = some (r1, r2, r3) := H
   have A5 := am A50
   clear A50
   by_cases c6 : a1 = 0
   · rw [if_pos c6] at H
     exact absurd H (by simp)
   rw [if_neg c6] at H
   have c6b0 : (a1 == 0) = false := beq_eq_false_iff_ne.mpr c6
   have c6b1 : (a1 != 0) = true := bne_iff_ne.mpr c6
   simp only [Option.some.injEq, Prod.mk.injEq] at H
   obtain ⟨rfl, rfl, rfl⟩ := H
   go_enter Try.func86, Try.ntmps86
   go_wp2_with (first | ((with_reducible refine gate_callee (f := 124) rfl ?_); refine goesL_ (some 13) rfl rfl Try.func124 (by kernel_rfl) rfl #[.pointer (some ⟨g, 0, none⟩)] rfl ga ?_; (with_reducible refine (spec_l1Byte.calls g s0_0 s0_1 s0_2 t279 t280 t281 w0 _ ?side1 ?side2 A5.out).mono ?_); (case side1 => exact IsS133.q0 HI0.out); (case side2 => exact bq1 HB.out (IsS133.ge HI0.out)); rintro e w7 ⟨rfl, hi, hb, hk⟩; refine ⟨_, rfl, ?_⟩; have n_ := ak3 (KeepBut.trans (kp0 HK.out) hk (.inl rfl)) hb hi; clear HK HB HI0; obtain ⟨HK, HB, HI0⟩ := n_; (try clear hb hk hi)))
   go_ret
   exact ⟨rq, IsS133.q0 HI0.out, bq1 HB.out (IsS133.ge HI0.out), kp0 HK.out⟩
 rw [if_neg c4] at H
 have c4b0 : decide (a1 ≤ 256) = false := decide_eq_false c4
 clear c4
 replace H := Option.bind_eq_some_iff.mp H
 obtain ⟨⟨t282, t283, t284⟩, A80, H⟩ := H
 replace H : ((spec_l1Byte.f s0_0 t283 t284).bind fun bt285 => ((spec_l1Byte.f s0_0 bt285.2.1 bt285.2.2).bind fun bt288 => (if a1 = 0 then (none) else (some (Int.tmod (wrap64 ((wrap64 ((wrap64 (t282 * 65536)) + (wrap64 (bt285.1 * 256)))) + bt288.1)) a1, bt288.2.1, bt288.2.2))))) = some (r1, r2, r3) := H
 have A8 := am A80
 clear A80
 replace H := Option.bind_eq_some_iff.mp H
 obtain ⟨⟨t285, t286, t287⟩, A90, H⟩ := H
 replace H : ((spec_l1Byte.f s0_0 t286 t287).bind fun bt288 => (if a1 = 0 then (none) else (some (Int.tmod (wrap64 ((wrap64 ((wrap64 (t282 * 65536)) + (wrap64 (t285 * 256)))) + bt288.1)) a1, bt288.2.1, bt288.2.2)))) = some (r1, r2, r3) := H
 have A9 := am A90
 clear A90
 replace H := Option.bind_eq_some_iff.mp H
 obtain ⟨⟨t288, t289, t290⟩, A100, H⟩ := H
 replace H : (if a1 = 0 then (none) else (some (Int.tmod (wrap64 ((wrap64 ((wrap64 (t282 * 65536)) + (wrap64 (t285 * 256)))) + t288)) a1, t289, t290))) = some (r1, r2, r3) := H
 have A10 := am A100
 clear A100
 by_cases c11 : a1 = 0
 · rw [if_pos c11] at H
   exact absurd H (by simp)
 rw [if_neg c11] at H
 have c11b0 : (a1 == 0) = false := beq_eq_false_iff_ne.mpr c11
 have c11b1 : (a1 != 0) = true := bne_iff_ne.mpr c11
 simp only [Option.some.injEq, Prod.mk.injEq] at H
 obtain ⟨rfl, rfl, rfl⟩ := H
 go_enter Try.func86, Try.ntmps86
 go_wp2_with (first | ((with_reducible refine gate_callee (f := 124) rfl ?_); refine goesL_ (some 17) rfl rfl Try.func124 (by kernel_rfl) rfl #[.pointer (some ⟨g, 0, none⟩)] rfl ga ?_; (with_reducible refine (spec_l1Byte.calls g s0_0 s0_1 s0_2 t282 t283 t284 w0 _ ?side1 ?side2 A8.out).mono ?_); (case side1 => exact IsS133.q0 HI0.out); (case side2 => exact bq1 HB.out (IsS133.ge HI0.out)); rintro e w12 ⟨rfl, hi, hb, hk⟩; refine ⟨_, rfl, ?_⟩; have n_ := ak3 (KeepBut.trans (kp0 HK.out) hk (.inl rfl)) hb hi; clear HK HB HI0; obtain ⟨HK, HB, HI0⟩ := n_; (try clear hb hk hi)) | ((with_reducible refine gate_callee (f := 124) rfl ?_); refine goesL_ (some 19) rfl rfl Try.func124 (by kernel_rfl) rfl #[.pointer (some ⟨g, 0, none⟩)] rfl ga ?_; (with_reducible refine (spec_l1Byte.calls g s0_0 t283 t284 t285 t286 t287 w0 _ ?side1 ?side2 A9.out).mono ?_); (case side1 => exact IsS133.q0 HI0.out); (case side2 => exact bq1 HB.out (IsS133.ge HI0.out)); rintro e w13 ⟨rfl, hi, hb, hk⟩; refine ⟨_, rfl, ?_⟩; have n_ := ak3 (KeepBut.trans (kp0 HK.out) hk (.inl rfl)) hb hi; clear HK HB HI0; obtain ⟨HK, HB, HI0⟩ := n_; (try clear hb hk hi)) | ((with_reducible refine gate_callee (f := 124) rfl ?_); refine goesL_ (some 21) rfl rfl Try.func124 (by kernel_rfl) rfl #[.pointer (some ⟨g, 0, none⟩)] rfl ga ?_; (with_reducible refine (spec_l1Byte.calls g s0_0 t286 t287 t288 t289 t290 w0 _ ?side1 ?side2 A10.out).mono ?_); (case side1 => exact IsS133.q0 HI0.out); (case side2 => exact bq1 HB.out (IsS133.ge HI0.out)); rintro e w14 ⟨rfl, hi, hb, hk⟩; refine ⟨_, rfl, ?_⟩; have n_ := ak3 (KeepBut.trans (kp0 HK.out) hk (.inl rfl)) hb hi; clear HK HB HI0; obtain ⟨HK, HB, HI0⟩ := n_; (try clear hb hk hi)))
 go_ret
 exact ⟨rq, IsS133.q0 HI0.out, bq1 HB.out (IsS133.ge HI0.out), kp0 HK.out⟩

/-! ### spec_l1Int: function 110 -/
def spec_l1Int.f (s0_0 : List Int) (s0_1 : Int) (s0_2 : Int) (l1 : List Int) : Option (Int × Int × Int) := (spec_l1Below.f s0_0 s0_1 s0_2 (l1.length : Int)).bind fun bt291 => (if 0 ≤ bt291.1 then (if bt291.1 < (l1.length : Int) then (some (rd l1 bt291.1, bt291.2.1, bt291.2.2)) else (none)) else (none))
set_option maxHeartbeats 8000000 in
set_option maxRecDepth 100000 in
theorem spec_l1Int.calls (g : Nat) (s0_0 : List Int) (s0_1 : Int) (s0_2 : Int) (A1 : Option Addr) (c1 : Nat) (l1 : List Int) (r1 : Int) (r2 : Int) (r3 : Int) (w0 w : World) (hI : IsS133 w0 w g s0_0 s0_1 s0_2) (hB : Below w0.heap.size w0 w) (hr1 : Kd.C (Kd.int .i64) w A1 l1.length l1) (hc1 : l1.length ≤ c1) (hf1 : ∀ ad, A1 = some ad → 0 < l1.length → ad.block ≠ g) (h : spec_l1Int.f s0_0 s0_1 s0_2 l1 = some (r1, r2, r3)) :
 Calls Try.prog 110 #[.pointer (some ⟨g, 0, none⟩), .slice A1 l1.length c1] w fun e w' => e = .returned (.int .i64 r1) ∧ IsS133 w0 w' g s0_0 r2 r3 ∧ Below w0.heap.size w0 w' ∧ KeepBut w w' g none := by
 have HR1 := am hr1
 have HC1 := am hc1
 clear hr1 hc1
 have HI0 := am hI
 have HK := am (KeepBut.refl w g none)
 have HL := am hB.size
 clear hI
 have HW0 := am hB.size
 have HB := am hB
 clear hB
 have H : ((spec_l1Below.f s0_0 s0_1 s0_2 (l1.length : Int)).bind fun bt291 => (if 0 ≤ bt291.1 then (if bt291.1 < (l1.length : Int) then (some (rd l1 bt291.1, bt291.2.1, bt291.2.2)) else (none)) else (none))) = some (r1, r2, r3) := h
 clear h
 replace H := Option.bind_eq_some_iff.mp H
 obtain ⟨⟨t291, t292, t293⟩, A30, H⟩ := H
 replace H : (if 0 ≤ t291 then (if t291 < (l1.length : Int) then (some (rd l1 t291, t292, t293)) else (none)) else (none)) = some (r1, r2, r3) := H
 have A3 := am A30
 clear A30
 by_cases c4 : 0 ≤ t291
 · rw [if_pos c4] at H
   have c4b0 : decide (0 ≤ t291) = true := decide_eq_true c4
   clear c4
   by_cases c5 : t291 < (l1.length : Int)
   · rw [if_pos c5] at H
     have c5b0 : decide (t291 < (l1.length : Int)) = true := decide_eq_true c5
     clear c5
     simp only [Option.some.injEq, Prod.mk.injEq] at H
     obtain ⟨rfl, rfl, rfl⟩ := H
     go_enter Try.func110, Try.ntmps110
     go_wp2_with (first | ((with_reducible refine gate_callee (f := 86) rfl ?_); refine goesL_ (some 9) rfl rfl Try.func86 (by kernel_rfl) rfl #[.pointer (some ⟨g, 0, none⟩), .int .i64 (l1.length : Int)] rfl ga ?_; (with_reducible refine (spec_l1Below.calls g s0_0 s0_1 s0_2 (l1.length : Int) t291 t292 t293 w0 _ ?side1 ?side2 A3.out).mono ?_); (case side1 => exact IsS133.q0 HI0.out); (case side2 => exact bq1 HB.out (IsS133.ge HI0.out)); rintro e w6 ⟨rfl, hi, hb, hk⟩; refine ⟨_, rfl, ?_⟩; have n_ := ak3 (KeepBut.trans (kp0 HK.out) hk (.inl rfl)) hb hi; clear HK HB HI0; obtain ⟨HK, HB, HI0⟩ := n_; (try clear hb hk hi); have p294 : 0 ≤ (t291 : Int) := oda; have q294 : t291 < (l1.length : Int) := oda; obtain ⟨ad294, e294, hx294_0⟩ := Kd.at_int HR1.out t291 p294 q294; cases e294; replace hx294_0 := keep_cell HK.out hx294_0 (by first | (rw [add_block]; exact hf1 _ rfl (by omega)) | exact hf1 _ rfl (by omega) | exact hf1 ad294 rfl (by omega)); replace p294 := eq_true p294; replace q294 := eq_true q294))
     go_ret
     exact ⟨rq, IsS133.q0 HI0.out, bq1 HB.out (IsS133.ge HI0.out), kp0 HK.out⟩
   rw [if_neg c5] at H
   exact absurd H (by simp)
 rw [if_neg c4] at H
 exact absurd H (by simp)

/-! ### spec_l7Draw: function 117 -/
def spec_l7Draw.f (s0_0 : List Int) (s0_1 : Int) (s0_2 : Int) : Option (Int × Int × Int × Int × Int × Int × Int) := (spec_l1Below.f s0_0 s0_1 s0_2 5).bind fun bt296 => ((spec_l1Int.f s0_0 bt296.2.1 bt296.2.2 (([0, 1, 2, 5, 10, 100] : List Int))).bind fun bt302 => ((spec_l1Int.f s0_0 bt302.2.1 bt302.2.2 (([0, 1, 2, 9, 10] : List Int))).bind fun bt308 => ((spec_l1Below.f s0_0 bt308.2.1 bt308.2.2 5).bind fun bt311 => ((spec_l1Below.f s0_0 bt311.2.1 bt311.2.2 4).bind fun bt314 => (some (wrap64 (1 + bt296.1), bt302.1, bt308.1, wrap64 (1 + bt311.1), bt314.1, bt314.2.1, bt314.2.2))))))
set_option maxHeartbeats 8000000 in
set_option maxRecDepth 100000 in
theorem spec_l7Draw.calls (g : Nat) (s0_0 : List Int) (s0_1 : Int) (s0_2 : Int) (r1 : Int) (r2 : Int) (r3 : Int) (r4 : Int) (r5 : Int) (r6 : Int) (r7 : Int) (w0 w : World) (hI : IsS133 w0 w g s0_0 s0_1 s0_2) (hB : Below w0.heap.size w0 w) (h : spec_l7Draw.f s0_0 s0_1 s0_2 = some (r1, r2, r3, r4, r5, r6, r7)) :
 Calls Try.prog 117 #[.pointer (some ⟨g, 0, none⟩)] w fun e w' => e = .returned (.agg #[.int .i64 r1, .int .i64 r2, .int .i64 r3, .int .i64 r4, .int .i64 r5]) ∧ IsS133 w0 w' g s0_0 r6 r7 ∧ Below w0.heap.size w0 w' ∧ KeepBut w w' g none := by
 have hu47 := Try.underlying47
 have HI0 := am hI
 have HK := am (KeepBut.refl w g none)
 have HL := am hB.size
 clear hI
 have HW0 := am hB.size
 have HB := am hB
 clear hB
 have H : ((spec_l1Below.f s0_0 s0_1 s0_2 5).bind fun bt296 => ((spec_l1Int.f s0_0 bt296.2.1 bt296.2.2 (([0, 1, 2, 5, 10, 100] : List Int))).bind fun bt302 => ((spec_l1Int.f s0_0 bt302.2.1 bt302.2.2 (([0, 1, 2, 9, 10] : List Int))).bind fun bt308 => ((spec_l1Below.f s0_0 bt308.2.1 bt308.2.2 5).bind fun bt311 => ((spec_l1Below.f s0_0 bt311.2.1 bt311.2.2 4).bind fun bt314 => (some (wrap64 (1 + bt296.1), bt302.1, bt308.1, wrap64 (1 + bt311.1), bt314.1, bt314.2.1, bt314.2.2))))))) = some (r1, r2, r3, r4, r5, r6, r7) := h
 clear h
 replace H := Option.bind_eq_some_iff.mp H
 obtain ⟨⟨t296, t297, t298⟩, A20, H⟩ := H
 replace H : ((spec_l1Int.f s0_0 t297 t298 (([0, 1, 2, 5, 10, 100] : List Int))).bind fun bt302 => ((spec_l1Int.f s0_0 bt302.2.1 bt302.2.2 (([0, 1, 2, 9, 10] : List Int))).bind fun bt308 => ((spec_l1Below.f s0_0 bt308.2.1 bt308.2.2 5).bind fun bt311 => ((spec_l1Below.f s0_0 bt311.2.1 bt311.2.2 4).bind fun bt314 => (some (wrap64 (1 + t296), bt302.1, bt308.1, wrap64 (1 + bt311.1), bt314.1, bt314.2.1, bt314.2.2)))))) = some (r1, r2, r3, r4, r5, r6, r7) := H
 have A2 := am A20
 clear A20
 obtain ⟨y299, hy299⟩ : ∃ y_ : List Int, y_ = (([0, 1, 2, 5, 10, 100] : List Int)) := ⟨_, rfl⟩
 replace H : ((spec_l1Int.f s0_0 t297 t298 y299).bind fun bt302 => ((spec_l1Int.f s0_0 bt302.2.1 bt302.2.2 (([0, 1, 2, 9, 10] : List Int))).bind fun bt308 => ((spec_l1Below.f s0_0 bt308.2.1 bt308.2.2 5).bind fun bt311 => ((spec_l1Below.f s0_0 bt311.2.1 bt311.2.2 4).bind fun bt314 => (some (wrap64 (1 + t296), bt302.1, bt308.1, wrap64 (1 + bt311.1), bt314.1, bt314.2.1, bt314.2.2)))))) = some (r1, r2, r3, r4, r5, r6, r7) := by first | (rw [hy299]; with_reducible exact H) | (have H2_ := (Option.bind_some _ _).symm.trans H; rw [hy299]; with_reducible exact H2_) | (have H2_ := (Option.bind_some _ _).symm.trans H; with_reducible exact H2_) | with_reducible exact H | (rw [hy299]; exact H) | exact H
 have Ny299 := am hy299
 clear hy299
 replace H := Option.bind_eq_some_iff.mp H
 obtain ⟨⟨t302, t303, t304⟩, A30, H⟩ := H
 replace H : ((spec_l1Int.f s0_0 t303 t304 (([0, 1, 2, 9, 10] : List Int))).bind fun bt308 => ((spec_l1Below.f s0_0 bt308.2.1 bt308.2.2 5).bind fun bt311 => ((spec_l1Below.f s0_0 bt311.2.1 bt311.2.2 4).bind fun bt314 => (some (wrap64 (1 + t296), t302, bt308.1, wrap64 (1 + bt311.1), bt314.1, bt314.2.1, bt314.2.2))))) = some (r1, r2, r3, r4, r5, r6, r7) := H
 have A3 := am A30
 clear A30
 obtain ⟨y305, hy305⟩ : ∃ y_ : List Int, y_ = (([0, 1, 2, 9, 10] : List Int)) := ⟨_, rfl⟩
 replace H : ((spec_l1Int.f s0_0 t303 t304 y305).bind fun bt308 => ((spec_l1Below.f s0_0 bt308.2.1 bt308.2.2 5).bind fun bt311 => ((spec_l1Below.f s0_0 bt311.2.1 bt311.2.2 4).bind fun bt314 => (some (wrap64 (1 + t296), t302, bt308.1, wrap64 (1 + bt311.1), bt314.1, bt314.2.1, bt314.2.2))))) = some (r1, r2, r3, r4, r5, r6, r7) := by first | (rw [hy305]; with_reducible exact H) | (have H2_ := (Option.bind_some _ _).symm.trans H; rw [hy305]; with_reducible exact H2_) | (have H2_ := (Option.bind_some _ _).symm.trans H; with_reducible exact H2_) | with_reducible exact H | (rw [hy305]; exact H) | exact H
 have Ny305 := am hy305
 clear hy305
 replace H := Option.bind_eq_some_iff.mp H
 obtain ⟨⟨t308, t309, t310⟩, A40, H⟩ := H
 replace H : ((spec_l1Below.f s0_0 t309 t310 5).bind fun bt311 => ((spec_l1Below.f s0_0 bt311.2.1 bt311.2.2 4).bind fun bt314 => (some (wrap64 (1 + t296), t302, t308, wrap64 (1 + bt311.1), bt314.1, bt314.2.1, bt314.2.2)))) = some (r1, r2, r3, r4, r5, r6, r7) := H
 have A4 := am A40
 clear A40
 replace H := Option.bind_eq_some_iff.mp H
 obtain ⟨⟨t311, t312, t313⟩, A50, H⟩ := H
 replace H : ((spec_l1Below.f s0_0 t312 t313 4).bind fun bt314 => (some (wrap64 (1 + t296), t302, t308, wrap64 (1 + t311), bt314.1, bt314.2.1, bt314.2.2))) = some (r1, r2, r3, r4, r5, r6, r7) := H
 have A5 := am A50
 clear A50
 replace H := Option.bind_eq_some_iff.mp H
 obtain ⟨⟨t314, t315, t316⟩, A60, H⟩ := H
 replace H : (some (wrap64 (1 + t296), t302, t308, wrap64 (1 + t311), t314, t315, t316)) = some (r1, r2, r3, r4, r5, r6, r7) := H
 have A6 := am A60
 clear A60
 simp only [Option.some.injEq, Prod.mk.injEq] at H
 obtain ⟨rfl, rfl, rfl, rfl, rfl, rfl, rfl⟩ := H
 go_enter Try.func117, Try.ntmps117
 go_wp2_with (first | ((with_reducible refine gate_dst (N := 2) rfl ?_); refine box_event ?hg (N := 2) ?hd (cs := #[.int .i64 0, .int .i64 0, .int .i64 0, .int .i64 0, .int .i64 0]) (t := 47) ?hr ?_; (case hd => rfl); (case hg => rfl); (case hr => exact gs); intro gb295 hg w7 hbox hb; have n_ := ak8 (IsS133.below (IsS133.q0 HI0.out) hb) (KeepBut.trans (kp0 HK.out) (KeepBut.of_below hb g none) (.inl rfl)) (below_step (bq1 HB.out (IsS133.ge HI0.out)) hb) hbox ((by rw [hg]; exact (keep_size (w := w) (g := g) (row := none) (kp0 HK.out)) : w.heap.size ≤ gb295)) ((Nat.le_trans HW0.out (by rw [hg]; exact (keep_size (w := w) (g := g) (row := none) (kp0 HK.out)) : w.heap.size ≤ gb295) : w0.heap.size ≤ gb295)) ((by rw [hg]; exact Nat.ne_of_lt (IsS133.lt (show IsS133 w0 _ g s0_0 s0_1 s0_2 from IsS133.q0 HI0.out)) : g ≠ gb295)) ((by rw [hg]; exact Nat.ne_of_gt (IsS133.lt (show IsS133 w0 _ g s0_0 s0_1 s0_2 from IsS133.q0 HI0.out)) : gb295 ≠ g)); clear HI0 HK HB; obtain ⟨HI0, HK, HB, BK295, GW295, GE295, NB0_295, NB295_0⟩ := n_; clear hb hbox hg) | ((with_reducible refine gate_callee (f := 86) rfl ?_); refine goesL_ (some 4) rfl rfl Try.func86 (by kernel_rfl) rfl #[.pointer (some ⟨g, 0, none⟩), .int .i64 5] rfl ga ?_; (with_reducible refine (spec_l1Below.calls g s0_0 s0_1 s0_2 5 t296 t297 t298 w0 _ ?side1 ?side2 A2.out).mono ?_); (case side1 => exact IsS133.q1 HI0.out NB0_295.out); (case side2 => exact bq2 HB.out (IsS133.ge HI0.out) GE295.out); rintro e w8 ⟨rfl, hi, hb, hk⟩; refine ⟨_, rfl, ?_⟩; have n_ := ak4 (KeepBut.blk hk (g' := gb295) (o := .cells #[.int .i64 0, .int .i64 0, .int .i64 0, .int .i64 0, .int .i64 0] 47 (0, 0)) (zq BK295.out) NB295_0.out (by simp)) (KeepBut.trans (kp1 HK.out GW295.out) hk (.inl rfl)) hb hi; clear BK295 HK HB HI0; obtain ⟨BK295, HK, HB, HI0⟩ := n_; (try clear hb hk hi)) | ((with_reducible refine gate_dst (N := 7) rfl ?_); refine Kd.R_lit (Kd.int .i64) _ 3 ?hg (N := 7) ?hd (xs := ([0, 1, 2, 5, 10, 100] : List Int)) (inner := [.int .i64 0, .int .i64 1, .int .i64 2, .int .i64 5, .int .i64 10, .int .i64 100]) (ok := fun _ => True) (okp := fun _ => True) ?hr ?hp (fun _ hk => hk) trivial (Below.refl _ _) (Nat.le_refl _) (by simp) ?_; (case hd => rfl); (case hg => rfl); (case hr => exact gs); (case hp => exact (Reps.one (show Kd.M (Kd.int .i64) _ _ _ 0 [.int .i64 0] from rfl) (Reps.one (show Kd.M (Kd.int .i64) _ _ _ 1 [.int .i64 1] from rfl) (Reps.one (show Kd.M (Kd.int .i64) _ _ _ 2 [.int .i64 2] from rfl) (Reps.one (show Kd.M (Kd.int .i64) _ _ _ 5 [.int .i64 5] from rfl) (Reps.one (show Kd.M (Kd.int .i64) _ _ _ 10 [.int .i64 10] from rfl) (Reps.one (show Kd.M (Kd.int .i64) _ _ _ 100 [.int .i64 100] from rfl) (Reps.none _ _)))))))); intro v300 w9 ho10 hb hg_ hnew_; clear hg_ hnew_; (first | rw [← Ny299.out] at ho10 | (simp only [Int.reduceToNat] at ho10; rw [← Ny299.out] at ho10)); have n_ := ak5 (Kd.R_lower ho10 (keep_size (w := w) (g := g) (row := none) (kp1 HK.out GW295.out))) (IsS133.below (IsS133.q1 HI0.out NB0_295.out) hb) (blk_below (g := gb295) (o := .cells #[.int .i64 0, .int .i64 0, .int .i64 0, .int .i64 0, .int .i64 0] 47 (0, 0)) (zq BK295.out) hb) (KeepBut.trans (kp1 HK.out GW295.out) (KeepBut.of_below hb g none) (.inl rfl)) (below_step (bq2 HB.out (IsS133.ge HI0.out) GE295.out) hb); clear HI0 BK295 HK HB; obtain ⟨HO301, HI0, BK295, HK, HB⟩ := n_; clear hb ho10; obtain ⟨Ao11, co11, eo11⟩ := Kd.R_slice HO301.out; subst eo11) | ((with_reducible refine gate_callee (f := 110) rfl ?_); refine goesL_ (some 8) rfl rfl Try.func110 (by kernel_rfl) rfl #[.pointer (some ⟨g, 0, none⟩), .slice Ao11 y299.length co11] rfl ga ?_; (with_reducible refine (spec_l1Int.calls g s0_0 t297 t298 _ _ y299 t302 t303 t304 w0 _ ?side1 ?side2 ?side3 ?side4 ?side5 A3.out).mono ?_); (case side1 => exact IsS133.q1 HI0.out NB0_295.out); (case side2 => exact bq2 HB.out (IsS133.ge HI0.out) GE295.out); (case side3 => repeat (first | exact (Kd.R_reads' HO301.out).2.2 | (with_reducible refine Kd.C_alloc ?_ _) | (with_reducible refine Kd.C_drewN ?_ _) | (with_reducible refine Kd.C_drew ?_))); (case side4 => exact (Kd.R_reads' HO301.out).2.1); (case side5 => exact far_slice (IsS133.own_ne HI0.out HO301.out (by decide))); rintro e w12 ⟨rfl, hi, hb, hk⟩; refine ⟨_, rfl, ?_⟩; have n_ := ak5 (KeepBut.blk hk (g' := gb295) (o := .cells #[.int .i64 0, .int .i64 0, .int .i64 0, .int .i64 0, .int .i64 0] 47 (0, 0)) (zq BK295.out) NB295_0.out (by simp)) (Kd.R_mono (Kd.R_keep (IsS133.apart (show IsS133 w0 _ g s0_0 t297 t298 from IsS133.q1 HI0.out NB0_295.out) (kqR HO301.out) (by decide)) hk (fun _ h => h.2)) (fun _ h => h.1)) (KeepBut.trans (kp1 HK.out GW295.out) hk (.inl rfl)) hb hi; clear BK295 HO301 HK HB HI0; obtain ⟨BK295, HO301, HK, HB, HI0⟩ := n_; (try clear hb hk hi)) | ((with_reducible refine gate_dst (N := 10) rfl ?_); refine Kd.R_lit (Kd.int .i64) _ 3 ?hg (N := 10) ?hd (xs := ([0, 1, 2, 9, 10] : List Int)) (inner := [.int .i64 0, .int .i64 1, .int .i64 2, .int .i64 9, .int .i64 10]) (ok := fun _ => True) (okp := fun _ => True) ?hr ?hp (fun _ hk => hk) trivial (Below.refl _ _) (Nat.le_refl _) (by simp) ?_; (case hd => rfl); (case hg => rfl); (case hr => exact gs); (case hp => exact (Reps.one (show Kd.M (Kd.int .i64) _ _ _ 0 [.int .i64 0] from rfl) (Reps.one (show Kd.M (Kd.int .i64) _ _ _ 1 [.int .i64 1] from rfl) (Reps.one (show Kd.M (Kd.int .i64) _ _ _ 2 [.int .i64 2] from rfl) (Reps.one (show Kd.M (Kd.int .i64) _ _ _ 9 [.int .i64 9] from rfl) (Reps.one (show Kd.M (Kd.int .i64) _ _ _ 10 [.int .i64 10] from rfl) (Reps.none _ _))))))); intro v306 w13 ho14 hb hg_ hnew_; clear hg_ hnew_; (first | rw [← Ny305.out] at ho14 | (simp only [Int.reduceToNat] at ho14; rw [← Ny305.out] at ho14)); have n_ := ak6 (Kd.R_elder' (kqR HO301.out) (Kd.R_base ho14) hb) (Kd.R_lower (Kd.R_new' ho14 (Kd.R_lt (kqR HO301.out))) (keep_size (w := w) (g := g) (row := none) (kp1 HK.out GW295.out))) (IsS133.below (IsS133.q1 HI0.out NB0_295.out) hb) (blk_below (g := gb295) (o := .cells #[.int .i64 0, .int .i64 0, .int .i64 0, .int .i64 0, .int .i64 0] 47 (0, 0)) (zq BK295.out) hb) (KeepBut.trans (kp1 HK.out GW295.out) (KeepBut.of_below hb g none) (.inl rfl)) (below_step (bq2 HB.out (IsS133.ge HI0.out) GE295.out) hb); clear HO301 HI0 BK295 HK HB; obtain ⟨HO301, HO307, HI0, BK295, HK, HB⟩ := n_; clear hb ho14; obtain ⟨Ao15, co15, eo15⟩ := Kd.R_slice HO307.out; subst eo15) | ((with_reducible refine gate_callee (f := 110) rfl ?_); refine goesL_ (some 11) rfl rfl Try.func110 (by kernel_rfl) rfl #[.pointer (some ⟨g, 0, none⟩), .slice Ao15 y305.length co15] rfl ga ?_; (with_reducible refine (spec_l1Int.calls g s0_0 t303 t304 _ _ y305 t308 t309 t310 w0 _ ?side1 ?side2 ?side3 ?side4 ?side5 A4.out).mono ?_); (case side1 => exact IsS133.q1 HI0.out NB0_295.out); (case side2 => exact bq2 HB.out (IsS133.ge HI0.out) GE295.out); (case side3 => repeat (first | exact (Kd.R_reads' HO307.out).2.2 | (with_reducible refine Kd.C_alloc ?_ _) | (with_reducible refine Kd.C_drewN ?_ _) | (with_reducible refine Kd.C_drew ?_))); (case side4 => exact (Kd.R_reads' HO307.out).2.1); (case side5 => exact far_slice (IsS133.own_ne HI0.out HO307.out (by decide))); rintro e w16 ⟨rfl, hi, hb, hk⟩; refine ⟨_, rfl, ?_⟩; have n_ := ak6 (KeepBut.blk hk (g' := gb295) (o := .cells #[.int .i64 0, .int .i64 0, .int .i64 0, .int .i64 0, .int .i64 0] 47 (0, 0)) (zq BK295.out) NB295_0.out (by simp)) (Kd.R_mono (Kd.R_keep (IsS133.apart (show IsS133 w0 _ g s0_0 t303 t304 from IsS133.q1 HI0.out NB0_295.out) (kqR HO301.out) (by decide)) hk (fun _ h => h.2)) (fun _ h => h.1)) (Kd.R_mono (Kd.R_keep (IsS133.apart (show IsS133 w0 _ g s0_0 t303 t304 from IsS133.q1 HI0.out NB0_295.out) (kqR HO307.out) (by decide)) hk (fun _ h => h.2)) (fun _ h => h.1)) (KeepBut.trans (kp1 HK.out GW295.out) hk (.inl rfl)) hb hi; clear BK295 HO301 HO307 HK HB HI0; obtain ⟨BK295, HO301, HO307, HK, HB, HI0⟩ := n_; (try clear hb hk hi)) | ((with_reducible refine gate_callee (f := 86) rfl ?_); refine goesL_ (some 13) rfl rfl Try.func86 (by kernel_rfl) rfl #[.pointer (some ⟨g, 0, none⟩), .int .i64 5] rfl ga ?_; (with_reducible refine (spec_l1Below.calls g s0_0 t309 t310 5 t311 t312 t313 w0 _ ?side1 ?side2 A5.out).mono ?_); (case side1 => exact IsS133.q1 HI0.out NB0_295.out); (case side2 => exact bq2 HB.out (IsS133.ge HI0.out) GE295.out); rintro e w17 ⟨rfl, hi, hb, hk⟩; refine ⟨_, rfl, ?_⟩; have n_ := ak6 (KeepBut.blk hk (g' := gb295) (o := .cells #[.int .i64 0, .int .i64 0, .int .i64 0, .int .i64 0, .int .i64 0] 47 (0, 0)) (zq BK295.out) NB295_0.out (by simp)) (Kd.R_mono (Kd.R_keep (IsS133.apart (show IsS133 w0 _ g s0_0 t309 t310 from IsS133.q1 HI0.out NB0_295.out) (kqR HO301.out) (by decide)) hk (fun _ h => h.2)) (fun _ h => h.1)) (Kd.R_mono (Kd.R_keep (IsS133.apart (show IsS133 w0 _ g s0_0 t309 t310 from IsS133.q1 HI0.out NB0_295.out) (kqR HO307.out) (by decide)) hk (fun _ h => h.2)) (fun _ h => h.1)) (KeepBut.trans (kp1 HK.out GW295.out) hk (.inl rfl)) hb hi; clear BK295 HO301 HO307 HK HB HI0; obtain ⟨BK295, HO301, HO307, HK, HB, HI0⟩ := n_; (try clear hb hk hi)) | ((with_reducible refine gate_callee (f := 86) rfl ?_); refine goesL_ (some 16) rfl rfl Try.func86 (by kernel_rfl) rfl #[.pointer (some ⟨g, 0, none⟩), .int .i64 4] rfl ga ?_; (with_reducible refine (spec_l1Below.calls g s0_0 t312 t313 4 t314 t315 t316 w0 _ ?side1 ?side2 A6.out).mono ?_); (case side1 => exact IsS133.q1 HI0.out NB0_295.out); (case side2 => exact bq2 HB.out (IsS133.ge HI0.out) GE295.out); rintro e w18 ⟨rfl, hi, hb, hk⟩; refine ⟨_, rfl, ?_⟩; have n_ := ak6 (KeepBut.blk hk (g' := gb295) (o := .cells #[.int .i64 0, .int .i64 0, .int .i64 0, .int .i64 0, .int .i64 0] 47 (0, 0)) (zq BK295.out) NB295_0.out (by simp)) (Kd.R_mono (Kd.R_keep (IsS133.apart (show IsS133 w0 _ g s0_0 t312 t313 from IsS133.q1 HI0.out NB0_295.out) (kqR HO301.out) (by decide)) hk (fun _ h => h.2)) (fun _ h => h.1)) (Kd.R_mono (Kd.R_keep (IsS133.apart (show IsS133 w0 _ g s0_0 t312 t313 from IsS133.q1 HI0.out NB0_295.out) (kqR HO307.out) (by decide)) hk (fun _ h => h.2)) (fun _ h => h.1)) (KeepBut.trans (kp1 HK.out GW295.out) hk (.inl rfl)) hb hi; clear BK295 HO301 HO307 HK HB HI0; obtain ⟨BK295, HO301, HO307, HK, HB, HI0⟩ := n_; (try clear hb hk hi); have hnb19 := NB295_0.out; have hnc19 := NB0_295.out; have hcz20_0 : w18.cell? ⟨gb295, 0, none⟩ = some (.int .i64 0) := (blk_cell BK295.out 0).trans rfl; have hcz20_1 : w18.cell? ⟨gb295, 1, none⟩ = some (.int .i64 0) := (blk_cell BK295.out 1).trans rfl; have hcz20_2 : w18.cell? ⟨gb295, 2, none⟩ = some (.int .i64 0) := (blk_cell BK295.out 2).trans rfl; have hcz20_3 : w18.cell? ⟨gb295, 3, none⟩ = some (.int .i64 0) := (blk_cell BK295.out 3).trans rfl; have hcz20_4 : w18.cell? ⟨gb295, 4, none⟩ = some (.int .i64 0) := (blk_cell BK295.out 4).trans rfl; have hfz20_0 := blk_frozen BK295.out 0; have hfz20_1 := blk_frozen BK295.out 1; have hfz20_2 := blk_frozen BK295.out 2; have hfz20_3 := blk_frozen BK295.out 3; have hfz20_4 := blk_frozen BK295.out 4))
 refine bodyPost_ret (results_cell_row rfl _ _ gb295 47 #[.int .i64 (wrap64 (1 + t296)), .int .i64 t302, .int .i64 t308, .int .i64 (wrap64 (1 + t311)), .int .i64 t314] (0, 0) _ rfl (by (with_reducible repeat (first | refine blk_drewN ?_ _ | refine blk_drew ?_ | refine blk_alloc ?_ _)); refine blk_put (cs := #[.int .i64 (wrap64 (1 + t296)), .int .i64 t302, .int .i64 t308, .int .i64 (wrap64 (1 + t311)), .int .i64 0]) ?_ 4 _ rfl; (with_reducible repeat (first | refine blk_drewN ?_ _ | refine blk_drew ?_ | refine blk_alloc ?_ _)); refine blk_put (cs := #[.int .i64 (wrap64 (1 + t296)), .int .i64 t302, .int .i64 t308, .int .i64 0, .int .i64 0]) ?_ 3 _ rfl; (with_reducible repeat (first | refine blk_drewN ?_ _ | refine blk_drew ?_ | refine blk_alloc ?_ _)); refine blk_put (cs := #[.int .i64 (wrap64 (1 + t296)), .int .i64 t302, .int .i64 0, .int .i64 0, .int .i64 0]) ?_ 2 _ rfl; (with_reducible repeat (first | refine blk_drewN ?_ _ | refine blk_drew ?_ | refine blk_alloc ?_ _)); refine blk_put (cs := #[.int .i64 (wrap64 (1 + t296)), .int .i64 0, .int .i64 0, .int .i64 0, .int .i64 0]) ?_ 1 _ rfl; (with_reducible repeat (first | refine blk_drewN ?_ _ | refine blk_drew ?_ | refine blk_alloc ?_ _)); refine blk_put (cs := #[.int .i64 0, .int .i64 0, .int .i64 0, .int .i64 0, .int .i64 0]) ?_ 0 _ rfl; (with_reducible repeat (first | refine blk_drewN ?_ _ | refine blk_drew ?_ | refine blk_alloc ?_ _)); exact BK295.out) Try.underlying47 rfl (by kernel_rfl)) rfl ?_
 exact ⟨rq, IsS133.q1 HI0.out NB0_295.out, bq2 HB.out (IsS133.ge HI0.out) GE295.out, kp1 HK.out GW295.out⟩

/-! ### spec_l7Any: function 113 -/
def spec_l7Any.f (s0_0 : List Int) (s0_1 : Int) (s0_2 : Int) : Option (Int × Int × Int × Int × Int × Int × Int) := (spec_l7Draw.f s0_0 s0_1 s0_2).bind fun bt318 => ((spec_l1Below.f s0_0 bt318.2.2.2.2.2.1 bt318.2.2.2.2.2.2 12).bind fun bt326 => (if bt326.1 = 0 then ((spec_l1Int.f s0_0 bt326.2.1 bt326.2.2 (([0, 99, 100] : List Int))).bind fun bt332 => (some (bt332.1, bt318.2.1, bt318.2.2.1, bt318.2.2.2.1, bt318.2.2.2.2.1, bt332.2.1, bt332.2.2))) else (if bt326.1 = 1 then ((spec_l1Int.f s0_0 bt326.2.1 bt326.2.2 (([(-1), 99999, 100000, 100001] : List Int))).bind fun bt338 => (some (bt318.1, bt338.1, bt318.2.2.1, bt318.2.2.2.1, bt318.2.2.2.2.1, bt338.2.1, bt338.2.2))) else (if bt326.1 = 2 then ((spec_l1Int.f s0_0 bt326.2.1 bt326.2.2 (([(-1), 11] : List Int))).bind fun bt344 => (some (bt318.1, bt318.2.1, bt344.1, bt318.2.2.2.1, bt318.2.2.2.2.1, bt344.2.1, bt344.2.2))) else (if bt326.1 = 3 then ((spec_l1Int.f s0_0 bt326.2.1 bt326.2.2 (([(-1), 7, 8] : List Int))).bind fun bt350 => (some (bt318.1, bt318.2.1, bt318.2.2.1, bt318.2.2.2.1, bt350.1, bt350.2.1, bt350.2.2))) else (some (bt318.1, bt318.2.1, bt318.2.2.1, bt318.2.2.2.1, bt318.2.2.2.2.1, bt326.2.1, bt326.2.2)))))))
set_option maxHeartbeats 8000000 in
set_option maxRecDepth 100000 in
theorem spec_l7Any.calls (g : Nat) (s0_0 : List Int) (s0_1 : Int) (s0_2 : Int) (r1 : Int) (r2 : Int) (r3 : Int) (r4 : Int) (r5 : Int) (r6 : Int) (r7 : Int) (w0 w : World) (hI : IsS133 w0 w g s0_0 s0_1 s0_2) (hB : Below w0.heap.size w0 w) (h : spec_l7Any.f s0_0 s0_1 s0_2 = some (r1, r2, r3, r4, r5, r6, r7)) :
 Calls Try.prog 113 #[.pointer (some ⟨g, 0, none⟩)] w fun e w' => e = .returned (.agg #[.int .i64 r1, .int .i64 r2, .int .i64 r3, .int .i64 r4, .int .i64 r5]) ∧ IsS133 w0 w' g s0_0 r6 r7 ∧ Below w0.heap.size w0 w' ∧ KeepBut w w' g none := by
 have hu47 := Try.underlying47
 have HI0 := am hI
 have HK := am (KeepBut.refl w g none)
 have HL := am hB.size
 clear hI
 have HW0 := am hB.size
 have HB := am hB
 clear hB
 have H : ((spec_l7Draw.f s0_0 s0_1 s0_2).bind fun bt318 => ((spec_l1Below.f s0_0 bt318.2.2.2.2.2.1 bt318.2.2.2.2.2.2 12).bind fun bt326 => (if bt326.1 = 0 then ((spec_l1Int.f s0_0 bt326.2.1 bt326.2.2 (([0, 99, 100] : List Int))).bind fun bt332 => (some (bt332.1, bt318.2.1, bt318.2.2.1, bt318.2.2.2.1, bt318.2.2.2.2.1, bt332.2.1, bt332.2.2))) else (if bt326.1 = 1 then ((spec_l1Int.f s0_0 bt326.2.1 bt326.2.2 (([(-1), 99999, 100000, 100001] : List Int))).bind fun bt338 => (some (bt318.1, bt338.1, bt318.2.2.1, bt318.2.2.2.1, bt318.2.2.2.2.1, bt338.2.1, bt338.2.2))) else (if bt326.1 = 2 then ((spec_l1Int.f s0_0 bt326.2.1 bt326.2.2 (([(-1), 11] : List Int))).bind fun bt344 => (some (bt318.1, bt318.2.1, bt344.1, bt318.2.2.2.1, bt318.2.2.2.2.1, bt344.2.1, bt344.2.2))) else (if bt326.1 = 3 then ((spec_l1Int.f s0_0 bt326.2.1 bt326.2.2 (([(-1), 7, 8] : List Int))).bind fun bt350 => (some (bt318.1, bt318.2.1, bt318.2.2.1, bt318.2.2.2.1, bt350.1, bt350.2.1, bt350.2.2))) else (some (bt318.1, bt318.2.1, bt318.2.2.1, bt318.2.2.2.1, bt318.2.2.2.2.1, bt326.2.1, bt326.2.2)))))))) = some (r1, r2, r3, r4, r5, r6, r7) := h
 clear h
 replace H := Option.bind_eq_some_iff.mp H
 obtain ⟨⟨t318, t319, t320, t321, t322, t323, t324⟩, A20, H⟩ := H
 replace H : ((spec_l1Below.f s0_0 t323 t324 12).bind fun bt326 => (if bt326.1 = 0 then ((spec_l1Int.f s0_0 bt326.2.1 bt326.2.2 (([0, 99, 100] : List Int))).bind fun bt332 => (some (bt332.1, t319, t320, t321, t322, bt332.2.1, bt332.2.2))) else (if bt326.1 = 1 then ((spec_l1Int.f s0_0 bt326.2.1 bt326.2.2 (([(-1), 99999, 100000, 100001] : List Int))).bind fun bt338 => (some (t318, bt338.1, t320, t321, t322, bt338.2.1, bt338.2.2))) else (if bt326.1 = 2 then ((spec_l1Int.f s0_0 bt326.2.1 bt326.2.2 (([(-1), 11] : List Int))).bind fun bt344 => (some (t318, t319, bt344.1, t321, t322, bt344.2.1, bt344.2.2))) else (if bt326.1 = 3 then ((spec_l1Int.f s0_0 bt326.2.1 bt326.2.2 (([(-1), 7, 8] : List Int))).bind fun bt350 => (some (t318, t319, t320, t321, bt350.1, bt350.2.1, bt350.2.2))) else (some (t318, t319, t320, t321, t322, bt326.2.1, bt326.2.2))))))) = some (r1, r2, r3, r4, r5, r6, r7) := H
 have A2 := am A20
 clear A20
 replace H := Option.bind_eq_some_iff.mp H
 obtain ⟨⟨t326, t327, t328⟩, A30, H⟩ := H
 replace H : (if t326 = 0 then ((spec_l1Int.f s0_0 t327 t328 (([0, 99, 100] : List Int))).bind fun bt332 => (some (bt332.1, t319, t320, t321, t322, bt332.2.1, bt332.2.2))) else (if t326 = 1 then ((spec_l1Int.f s0_0 t327 t328 (([(-1), 99999, 100000, 100001] : List Int))).bind fun bt338 => (some (t318, bt338.1, t320, t321, t322, bt338.2.1, bt338.2.2))) else (if t326 = 2 then ((spec_l1Int.f s0_0 t327 t328 (([(-1), 11] : List Int))).bind fun bt344 => (some (t318, t319, bt344.1, t321, t322, bt344.2.1, bt344.2.2))) else (if t326 = 3 then ((spec_l1Int.f s0_0 t327 t328 (([(-1), 7, 8] : List Int))).bind fun bt350 => (some (t318, t319, t320, t321, bt350.1, bt350.2.1, bt350.2.2))) else (some (t318, t319, t320, t321, t322, t327, t328)))))) = some (r1, r2, r3, r4, r5, r6, r7) := H
 have A3 := am A30
 clear A30
 by_cases c4 : t326 = 0
 · rw [if_pos c4] at H
   have c4b0 : (t326 == 0) = true := beq_iff_eq.mpr c4
   have c4b1 : (t326 != 0) = false := bne_eq_false_iff_eq.mpr c4
   clear c4
   obtain ⟨y329, hy329⟩ : ∃ y_ : List Int, y_ = (([0, 99, 100] : List Int)) := ⟨_, rfl⟩
   replace H : ((spec_l1Int.f s0_0 t327 t328 y329).bind fun bt332 => (some (bt332.1, t319, t320, t321, t322, bt332.2.1, bt332.2.2))) = some (r1, r2, r3, r4, r5, r6, r7) := by first | (rw [hy329]; with_reducible exact H) | (have H2_ := (Option.bind_some _ _).symm.trans H; rw [hy329]; with_reducible exact H2_) | (have H2_ := (Option.bind_some _ _).symm.trans H; with_reducible exact H2_) | with_reducible exact H | (rw [hy329]; exact H) | exact H
   have Ny329 := am hy329
   clear hy329
   replace H := Option.bind_eq_some_iff.mp H
   obtain ⟨⟨t332, t333, t334⟩, A50, H⟩ := H
   replace H : (some (t332, t319, t320, t321, t322, t333, t334)) = some (r1, r2, r3, r4, r5, r6, r7) := H
   have A5 := am A50
   clear A50
   simp only [Option.some.injEq, Prod.mk.injEq] at H
   obtain ⟨rfl, rfl, rfl, rfl, rfl, rfl, rfl⟩ := H
   go_enter Try.func113, Try.ntmps113
   go_wp2_with (first | ((with_reducible refine gate_dst (N := 2) rfl ?_); refine box_event ?hg (N := 2) ?hd (cs := #[.int .i64 0, .int .i64 0, .int .i64 0, .int .i64 0, .int .i64 0]) (t := 47) ?hr ?_; (case hd => rfl); (case hg => rfl); (case hr => exact gs); intro gb317 hg w6 hbox hb; have n_ := ak8 (IsS133.below (IsS133.q0 HI0.out) hb) (KeepBut.trans (kp0 HK.out) (KeepBut.of_below hb g none) (.inl rfl)) (below_step (bq1 HB.out (IsS133.ge HI0.out)) hb) hbox ((by rw [hg]; exact (keep_size (w := w) (g := g) (row := none) (kp0 HK.out)) : w.heap.size ≤ gb317)) ((Nat.le_trans HW0.out (by rw [hg]; exact (keep_size (w := w) (g := g) (row := none) (kp0 HK.out)) : w.heap.size ≤ gb317) : w0.heap.size ≤ gb317)) ((by rw [hg]; exact Nat.ne_of_lt (IsS133.lt (show IsS133 w0 _ g s0_0 s0_1 s0_2 from IsS133.q0 HI0.out)) : g ≠ gb317)) ((by rw [hg]; exact Nat.ne_of_gt (IsS133.lt (show IsS133 w0 _ g s0_0 s0_1 s0_2 from IsS133.q0 HI0.out)) : gb317 ≠ g)); clear HI0 HK HB; obtain ⟨HI0, HK, HB, BK317, GW317, GE317, NB0_317, NB317_0⟩ := n_; clear hb hbox hg) | ((with_reducible refine gate_callee (f := 117) rfl ?_); refine goesL_ (some 5) rfl rfl Try.func117 (by kernel_rfl) rfl #[.pointer (some ⟨g, 0, none⟩)] rfl ga ?_; (with_reducible refine (spec_l7Draw.calls g s0_0 s0_1 s0_2 t318 t319 t320 t321 t322 t323 t324 w0 _ ?side1 ?side2 A2.out).mono ?_); (case side1 => exact IsS133.q1 HI0.out NB0_317.out); (case side2 => exact bq2 HB.out (IsS133.ge HI0.out) GE317.out); rintro e w7 ⟨rfl, hi, hb, hk⟩; refine ⟨_, rfl, ?_⟩; have n_ := ak4 (KeepBut.blk hk (g' := gb317) (o := .cells #[.int .i64 0, .int .i64 0, .int .i64 0, .int .i64 0, .int .i64 0] 47 (0, 0)) (zq BK317.out) NB317_0.out (by simp)) (KeepBut.trans (kp1 HK.out GW317.out) hk (.inl rfl)) hb hi; clear BK317 HK HB HI0; obtain ⟨BK317, HK, HB, HI0⟩ := n_; (try clear hb hk hi)) | ((with_reducible refine gate_dst (N := 3) rfl ?_); refine box_event ?hg (N := 3) ?hd (cs := #[.int .i64 0, .int .i64 0, .int .i64 0, .int .i64 0, .int .i64 0]) (t := 47) ?hr ?_; (case hd => rfl); (case hg => rfl); (case hr => exact gs); intro gb325 hg w8 hbox hb; have n_ := ak11 (IsS133.below (IsS133.q1 HI0.out NB0_317.out) hb) (blk_below (g := gb317) (o := .cells #[.int .i64 0, .int .i64 0, .int .i64 0, .int .i64 0, .int .i64 0] 47 (0, 0)) (zq BK317.out) hb) (KeepBut.trans (kp1 HK.out GW317.out) (KeepBut.of_below hb g none) (.inl rfl)) (below_step (bq2 HB.out (IsS133.ge HI0.out) GE317.out) hb) hbox ((by rw [hg]; exact (keep_size (w := w) (g := g) (row := none) (kp1 HK.out GW317.out)) : w.heap.size ≤ gb325)) ((Nat.le_trans HW0.out (by rw [hg]; exact (keep_size (w := w) (g := g) (row := none) (kp1 HK.out GW317.out)) : w.heap.size ≤ gb325) : w0.heap.size ≤ gb325)) ((by rw [hg]; exact Nat.ne_of_lt (blk_lt (g := gb317) (o := .cells #[.int .i64 0, .int .i64 0, .int .i64 0, .int .i64 0, .int .i64 0] 47 (0, 0)) (zq BK317.out)) : gb317 ≠ gb325)) ((by rw [hg]; exact Nat.ne_of_gt (blk_lt (g := gb317) (o := .cells #[.int .i64 0, .int .i64 0, .int .i64 0, .int .i64 0, .int .i64 0] 47 (0, 0)) (zq BK317.out)) : gb325 ≠ gb317)) ((by rw [hg]; exact Nat.ne_of_lt (IsS133.lt (show IsS133 w0 _ g s0_0 t323 t324 from IsS133.q1 HI0.out NB0_317.out)) : g ≠ gb325)) ((by rw [hg]; exact Nat.ne_of_gt (IsS133.lt (show IsS133 w0 _ g s0_0 t323 t324 from IsS133.q1 HI0.out NB0_317.out)) : gb325 ≠ g)); clear HI0 BK317 HK HB; obtain ⟨HI0, BK317, HK, HB, BK325, GW325, GE325, NB317_325, NB325_317, NB0_325, NB325_0⟩ := n_; clear hb hbox hg; have hnb9 := NB325_317.out; have hnc9 := NB317_325.out; have hnb10 := NB325_0.out; have hnc10 := NB0_325.out; have hcz11_0 : w8.cell? ⟨gb325, 0, none⟩ = some (.int .i64 0) := (blk_cell BK325.out 0).trans rfl; have hcz11_1 : w8.cell? ⟨gb325, 1, none⟩ = some (.int .i64 0) := (blk_cell BK325.out 1).trans rfl; have hcz11_2 : w8.cell? ⟨gb325, 2, none⟩ = some (.int .i64 0) := (blk_cell BK325.out 2).trans rfl; have hcz11_3 : w8.cell? ⟨gb325, 3, none⟩ = some (.int .i64 0) := (blk_cell BK325.out 3).trans rfl; have hcz11_4 : w8.cell? ⟨gb325, 4, none⟩ = some (.int .i64 0) := (blk_cell BK325.out 4).trans rfl; have hfz11_0 := blk_frozen BK325.out 0; have hfz11_1 := blk_frozen BK325.out 1; have hfz11_2 := blk_frozen BK325.out 2; have hfz11_3 := blk_frozen BK325.out 3; have hfz11_4 := blk_frozen BK325.out 4) | ((with_reducible refine gate_callee (f := 86) rfl ?_); refine goesL_ (some 7) rfl rfl Try.func86 (by kernel_rfl) rfl #[.pointer (some ⟨g, 0, none⟩), .int .i64 12] rfl ga ?_; (with_reducible refine (spec_l1Below.calls g s0_0 t323 t324 12 t326 t327 t328 w0 _ ?side1 ?side2 A3.out).mono ?_); (case side1 => exact IsS133.q2 HI0.out NB0_317.out NB0_325.out); (case side2 => exact bq3 HB.out (IsS133.ge HI0.out) GE317.out GE325.out); rintro e w12 ⟨rfl, hi, hb, hk⟩; refine ⟨_, rfl, ?_⟩; have n_ := ak5 (KeepBut.blk hk (g' := gb317) (o := .cells #[.int .i64 0, .int .i64 0, .int .i64 0, .int .i64 0, .int .i64 0] 47 (0, 0)) (by (with_reducible repeat (first | refine blk_drewN ?_ _ | refine blk_drew ?_ | refine blk_alloc ?_ _)); refine blk_far ?_ NB317_325.out _; (with_reducible repeat (first | refine blk_drewN ?_ _ | refine blk_drew ?_ | refine blk_alloc ?_ _)); refine blk_far ?_ NB317_325.out _; (with_reducible repeat (first | refine blk_drewN ?_ _ | refine blk_drew ?_ | refine blk_alloc ?_ _)); refine blk_far ?_ NB317_325.out _; (with_reducible repeat (first | refine blk_drewN ?_ _ | refine blk_drew ?_ | refine blk_alloc ?_ _)); refine blk_far ?_ NB317_325.out _; (with_reducible repeat (first | refine blk_drewN ?_ _ | refine blk_drew ?_ | refine blk_alloc ?_ _)); refine blk_far ?_ NB317_325.out _; (with_reducible repeat (first | refine blk_drewN ?_ _ | refine blk_drew ?_ | refine blk_alloc ?_ _)); exact BK317.out) NB317_0.out (by simp)) (KeepBut.blk hk (g' := gb325) (o := .cells #[.int .i64 t318, .int .i64 t319, .int .i64 t320, .int .i64 t321, .int .i64 t322] 47 (0, 0)) (by (with_reducible repeat (first | refine blk_drewN ?_ _ | refine blk_drew ?_ | refine blk_alloc ?_ _)); refine blk_put (cs := #[.int .i64 t318, .int .i64 t319, .int .i64 t320, .int .i64 t321, .int .i64 0]) ?_ 4 _ rfl; (with_reducible repeat (first | refine blk_drewN ?_ _ | refine blk_drew ?_ | refine blk_alloc ?_ _)); refine blk_put (cs := #[.int .i64 t318, .int .i64 t319, .int .i64 t320, .int .i64 0, .int .i64 0]) ?_ 3 _ rfl; (with_reducible repeat (first | refine blk_drewN ?_ _ | refine blk_drew ?_ | refine blk_alloc ?_ _)); refine blk_put (cs := #[.int .i64 t318, .int .i64 t319, .int .i64 0, .int .i64 0, .int .i64 0]) ?_ 2 _ rfl; (with_reducible repeat (first | refine blk_drewN ?_ _ | refine blk_drew ?_ | refine blk_alloc ?_ _)); refine blk_put (cs := #[.int .i64 t318, .int .i64 0, .int .i64 0, .int .i64 0, .int .i64 0]) ?_ 1 _ rfl; (with_reducible repeat (first | refine blk_drewN ?_ _ | refine blk_drew ?_ | refine blk_alloc ?_ _)); refine blk_put (cs := #[.int .i64 0, .int .i64 0, .int .i64 0, .int .i64 0, .int .i64 0]) ?_ 0 _ rfl; (with_reducible repeat (first | refine blk_drewN ?_ _ | refine blk_drew ?_ | refine blk_alloc ?_ _)); exact BK325.out) NB325_0.out (by simp)) (KeepBut.trans (kp2 HK.out GW317.out GW325.out) hk (.inl rfl)) hb hi; clear BK317 BK325 HK HB HI0; obtain ⟨BK317, BK325, HK, HB, HI0⟩ := n_; (try clear hb hk hi)) | ((with_reducible refine gate_dst (N := 11) rfl ?_); refine Kd.R_lit (Kd.int .i64) _ 3 ?hg (N := 11) ?hd (xs := ([0, 99, 100] : List Int)) (inner := [.int .i64 0, .int .i64 99, .int .i64 100]) (ok := fun _ => True) (okp := fun _ => True) ?hr ?hp (fun _ hk => hk) trivial (Below.refl _ _) (Nat.le_refl _) (by simp) ?_; (case hd => rfl); (case hg => rfl); (case hr => exact gs); (case hp => exact (Reps.one (show Kd.M (Kd.int .i64) _ _ _ 0 [.int .i64 0] from rfl) (Reps.one (show Kd.M (Kd.int .i64) _ _ _ 99 [.int .i64 99] from rfl) (Reps.one (show Kd.M (Kd.int .i64) _ _ _ 100 [.int .i64 100] from rfl) (Reps.none _ _))))); intro v330 w13 ho14 hb hg_ hnew_; clear hg_ hnew_; (first | rw [← Ny329.out] at ho14 | (simp only [Int.reduceToNat] at ho14; rw [← Ny329.out] at ho14)); have n_ := ak6 (Kd.R_lower ho14 (keep_size (w := w) (g := g) (row := none) (kp2 HK.out GW317.out GW325.out))) (IsS133.below (IsS133.q2 HI0.out NB0_317.out NB0_325.out) hb) (blk_below (g := gb317) (o := .cells #[.int .i64 0, .int .i64 0, .int .i64 0, .int .i64 0, .int .i64 0] 47 (0, 0)) (zq BK317.out) hb) (blk_below (g := gb325) (o := .cells #[.int .i64 t318, .int .i64 t319, .int .i64 t320, .int .i64 t321, .int .i64 t322] 47 (0, 0)) (zq BK325.out) hb) (KeepBut.trans (kp2 HK.out GW317.out GW325.out) (KeepBut.of_below hb g none) (.inl rfl)) (below_step (bq3 HB.out (IsS133.ge HI0.out) GE317.out GE325.out) hb); clear HI0 BK317 BK325 HK HB; obtain ⟨HO331, HI0, BK317, BK325, HK, HB⟩ := n_; clear hb ho14; obtain ⟨Ao15, co15, eo15⟩ := Kd.R_slice HO331.out; subst eo15) | ((with_reducible refine gate_callee (f := 110) rfl ?_); refine goesL_ (some 12) rfl rfl Try.func110 (by kernel_rfl) rfl #[.pointer (some ⟨g, 0, none⟩), .slice Ao15 y329.length co15] rfl ga ?_; (with_reducible refine (spec_l1Int.calls g s0_0 t327 t328 _ _ y329 t332 t333 t334 w0 _ ?side1 ?side2 ?side3 ?side4 ?side5 A5.out).mono ?_); (case side1 => exact IsS133.q2 HI0.out NB0_317.out NB0_325.out); (case side2 => exact bq3 HB.out (IsS133.ge HI0.out) GE317.out GE325.out); (case side3 => repeat (first | exact (Kd.R_reads' HO331.out).2.2 | (with_reducible refine Kd.C_alloc ?_ _) | (with_reducible refine Kd.C_drewN ?_ _) | (with_reducible refine Kd.C_drew ?_))); (case side4 => exact (Kd.R_reads' HO331.out).2.1); (case side5 => exact far_slice (IsS133.own_ne HI0.out HO331.out (by decide))); rintro e w16 ⟨rfl, hi, hb, hk⟩; refine ⟨_, rfl, ?_⟩; have n_ := ak6 (KeepBut.blk hk (g' := gb317) (o := .cells #[.int .i64 0, .int .i64 0, .int .i64 0, .int .i64 0, .int .i64 0] 47 (0, 0)) (zq BK317.out) NB317_0.out (by simp)) (KeepBut.blk hk (g' := gb325) (o := .cells #[.int .i64 t318, .int .i64 t319, .int .i64 t320, .int .i64 t321, .int .i64 t322] 47 (0, 0)) (zq BK325.out) NB325_0.out (by simp)) (Kd.R_mono (Kd.R_keep (IsS133.apart (show IsS133 w0 _ g s0_0 t327 t328 from IsS133.q2 HI0.out NB0_317.out NB0_325.out) (kqR HO331.out) (by decide)) hk (fun _ h => h.2)) (fun _ h => h.1)) (KeepBut.trans (kp2 HK.out GW317.out GW325.out) hk (.inl rfl)) hb hi; clear BK317 BK325 HO331 HK HB HI0; obtain ⟨BK317, BK325, HO331, HK, HB, HI0⟩ := n_; (try clear hb hk hi); have hcz17_0 : w16.cell? ⟨gb325, 0, none⟩ = some (.int .i64 t318) := (blk_cell BK325.out 0).trans rfl; have hcz17_1 : w16.cell? ⟨gb325, 1, none⟩ = some (.int .i64 t319) := (blk_cell BK325.out 1).trans rfl; have hcz17_2 : w16.cell? ⟨gb325, 2, none⟩ = some (.int .i64 t320) := (blk_cell BK325.out 2).trans rfl; have hcz17_3 : w16.cell? ⟨gb325, 3, none⟩ = some (.int .i64 t321) := (blk_cell BK325.out 3).trans rfl; have hcz17_4 : w16.cell? ⟨gb325, 4, none⟩ = some (.int .i64 t322) := (blk_cell BK325.out 4).trans rfl; have hfz17_0 := blk_frozen BK325.out 0; have hfz17_1 := blk_frozen BK325.out 1; have hfz17_2 := blk_frozen BK325.out 2; have hfz17_3 := blk_frozen BK325.out 3; have hfz17_4 := blk_frozen BK325.out 4; have hnb18 := NB317_0.out; have hnc18 := NB0_317.out; have hcz19_0 : w16.cell? ⟨gb317, 0, none⟩ = some (.int .i64 0) := (blk_cell BK317.out 0).trans rfl; have hcz19_1 : w16.cell? ⟨gb317, 1, none⟩ = some (.int .i64 0) := (blk_cell BK317.out 1).trans rfl; have hcz19_2 : w16.cell? ⟨gb317, 2, none⟩ = some (.int .i64 0) := (blk_cell BK317.out 2).trans rfl; have hcz19_3 : w16.cell? ⟨gb317, 3, none⟩ = some (.int .i64 0) := (blk_cell BK317.out 3).trans rfl; have hcz19_4 : w16.cell? ⟨gb317, 4, none⟩ = some (.int .i64 0) := (blk_cell BK317.out 4).trans rfl; have hfz19_0 := blk_frozen BK317.out 0; have hfz19_1 := blk_frozen BK317.out 1; have hfz19_2 := blk_frozen BK317.out 2; have hfz19_3 := blk_frozen BK317.out 3; have hfz19_4 := blk_frozen BK317.out 4))
   refine bodyPost_ret (results_cell_row rfl _ _ gb317 47 #[.int .i64 t332, .int .i64 t319, .int .i64 t320, .int .i64 t321, .int .i64 t322] (0, 0) _ rfl (by (with_reducible repeat (first | refine blk_drewN ?_ _ | refine blk_drew ?_ | refine blk_alloc ?_ _)); refine blk_put (cs := #[.int .i64 t332, .int .i64 t319, .int .i64 t320, .int .i64 t321, .int .i64 0]) ?_ 4 _ rfl; (with_reducible repeat (first | refine blk_drewN ?_ _ | refine blk_drew ?_ | refine blk_alloc ?_ _)); refine blk_put (cs := #[.int .i64 t332, .int .i64 t319, .int .i64 t320, .int .i64 0, .int .i64 0]) ?_ 3 _ rfl; (with_reducible repeat (first | refine blk_drewN ?_ _ | refine blk_drew ?_ | refine blk_alloc ?_ _)); refine blk_put (cs := #[.int .i64 t332, .int .i64 t319, .int .i64 0, .int .i64 0, .int .i64 0]) ?_ 2 _ rfl; (with_reducible repeat (first | refine blk_drewN ?_ _ | refine blk_drew ?_ | refine blk_alloc ?_ _)); refine blk_put (cs := #[.int .i64 t332, .int .i64 0, .int .i64 0, .int .i64 0, .int .i64 0]) ?_ 1 _ rfl; (with_reducible repeat (first | refine blk_drewN ?_ _ | refine blk_drew ?_ | refine blk_alloc ?_ _)); refine blk_put (cs := #[.int .i64 0, .int .i64 0, .int .i64 0, .int .i64 0, .int .i64 0]) ?_ 0 _ rfl; (with_reducible repeat (first | refine blk_drewN ?_ _ | refine blk_drew ?_ | refine blk_alloc ?_ _)); refine blk_far ?_ NB317_325.out _; (with_reducible repeat (first | refine blk_drewN ?_ _ | refine blk_drew ?_ | refine blk_alloc ?_ _)); exact BK317.out) Try.underlying47 rfl (by kernel_rfl)) rfl ?_
   exact ⟨rq, IsS133.q2 HI0.out NB0_317.out NB0_325.out, bq3 HB.out (IsS133.ge HI0.out) GE317.out GE325.out, kp2 HK.out GW317.out GW325.out⟩
 rw [if_neg c4] at H
 have c4b0 : (t326 == 0) = false := beq_eq_false_iff_ne.mpr c4
 have c4b1 : (t326 != 0) = true := bne_iff_ne.mpr c4
 by_cases c20 : t326 = 1
 · rw [if_pos c20] at H
   have c20b0 : (t326 == 1) = true := beq_iff_eq.mpr c20
   have c20b1 : (t326 != 1) = false := bne_eq_false_iff_eq.mpr c20
   clear c20
   obtain ⟨y335, hy335⟩ : ∃ y_ : List Int, y_ = (([(-1), 99999, 100000, 100001] : List Int)) := ⟨_, rfl⟩
   replace H : ((spec_l1Int.f s0_0 t327 t328 y335).bind fun bt338 => (some (t318, bt338.1, t320, t321, t322, bt338.2.1, bt338.2.2))) = some (r1, r2, r3, r4, r5, r6, r7) := by first | (rw [hy335]; with_reducible exact H) | (have H2_ := (Option.bind_some _ _).symm.trans H; rw [hy335]; with_reducible exact H2_) | (have H2_ := (Option.bind_some _ _).symm.trans H; with_reducible exact H2_) | with_reducible exact H | (rw [hy335]; exact H) | exact H
   have Ny335 := am hy335
   clear hy335
   replace H := Option.bind_eq_some_iff.mp H
   obtain ⟨⟨t338, t339, t340⟩, A210, H⟩ := H
   replace H : (some (t318, t338, t320, t321, t322, t339, t340)) = some (r1, r2, r3, r4, r5, r6, r7) := H
   have A21 := am A210
   clear A210
   simp only [Option.some.injEq, Prod.mk.injEq] at H
   obtain ⟨rfl, rfl, rfl, rfl, rfl, rfl, rfl⟩ := H
   go_enter Try.func113, Try.ntmps113
   go_wp2_with (first | ((with_reducible refine gate_dst (N := 2) rfl ?_); refine box_event ?hg (N := 2) ?hd (cs := #[.int .i64 0, .int .i64 0, .int .i64 0, .int .i64 0, .int .i64 0]) (t := 47) ?hr ?_; (case hd => rfl); (case hg => rfl); (case hr => exact gs); intro gb317 hg w22 hbox hb; have n_ := ak8 (IsS133.below (IsS133.q0 HI0.out) hb) (KeepBut.trans (kp0 HK.out) (KeepBut.of_below hb g none) (.inl rfl)) (below_step (bq1 HB.out (IsS133.ge HI0.out)) hb) hbox ((by rw [hg]; exact (keep_size (w := w) (g := g) (row := none) (kp0 HK.out)) : w.heap.size ≤ gb317)) ((Nat.le_trans HW0.out (by rw [hg]; exact (keep_size (w := w) (g := g) (row := none) (kp0 HK.out)) : w.heap.size ≤ gb317) : w0.heap.size ≤ gb317)) ((by rw [hg]; exact Nat.ne_of_lt (IsS133.lt (show IsS133 w0 _ g s0_0 s0_1 s0_2 from IsS133.q0 HI0.out)) : g ≠ gb317)) ((by rw [hg]; exact Nat.ne_of_gt (IsS133.lt (show IsS133 w0 _ g s0_0 s0_1 s0_2 from IsS133.q0 HI0.out)) : gb317 ≠ g)); clear HI0 HK HB; obtain ⟨HI0, HK, HB, BK317, GW317, GE317, NB0_317, NB317_0⟩ := n_; clear hb hbox hg) | ((with_reducible refine gate_callee (f := 117) rfl ?_); refine goesL_ (some 5) rfl rfl Try.func117 (by kernel_rfl) rfl #[.pointer (some ⟨g, 0, none⟩)] rfl ga ?_; (with_reducible refine (spec_l7Draw.calls g s0_0 s0_1 s0_2 t318 t319 t320 t321 t322 t323 t324 w0 _ ?side1 ?side2 A2.out).mono ?_); (case side1 => exact IsS133.q1 HI0.out NB0_317.out); (case side2 => exact bq2 HB.out (IsS133.ge HI0.out) GE317.out); rintro e w23 ⟨rfl, hi, hb, hk⟩; refine ⟨_, rfl, ?_⟩; have n_ := ak4 (KeepBut.blk hk (g' := gb317) (o := .cells #[.int .i64 0, .int .i64 0, .int .i64 0, .int .i64 0, .int .i64 0] 47 (0, 0)) (zq BK317.out) NB317_0.out (by simp)) (KeepBut.trans (kp1 HK.out GW317.out) hk (.inl rfl)) hb hi; clear BK317 HK HB HI0; obtain ⟨BK317, HK, HB, HI0⟩ := n_; (try clear hb hk hi)) | ((with_reducible refine gate_dst (N := 3) rfl ?_); refine box_event ?hg (N := 3) ?hd (cs := #[.int .i64 0, .int .i64 0, .int .i64 0, .int .i64 0, .int .i64 0]) (t := 47) ?hr ?_; (case hd => rfl); (case hg => rfl); (case hr => exact gs); intro gb325 hg w24 hbox hb; have n_ := ak11 (IsS133.below (IsS133.q1 HI0.out NB0_317.out) hb) (blk_below (g := gb317) (o := .cells #[.int .i64 0, .int .i64 0, .int .i64 0, .int .i64 0, .int .i64 0] 47 (0, 0)) (zq BK317.out) hb) (KeepBut.trans (kp1 HK.out GW317.out) (KeepBut.of_below hb g none) (.inl rfl)) (below_step (bq2 HB.out (IsS133.ge HI0.out) GE317.out) hb) hbox ((by rw [hg]; exact (keep_size (w := w) (g := g) (row := none) (kp1 HK.out GW317.out)) : w.heap.size ≤ gb325)) ((Nat.le_trans HW0.out (by rw [hg]; exact (keep_size (w := w) (g := g) (row := none) (kp1 HK.out GW317.out)) : w.heap.size ≤ gb325) : w0.heap.size ≤ gb325)) ((by rw [hg]; exact Nat.ne_of_lt (blk_lt (g := gb317) (o := .cells #[.int .i64 0, .int .i64 0, .int .i64 0, .int .i64 0, .int .i64 0] 47 (0, 0)) (zq BK317.out)) : gb317 ≠ gb325)) ((by rw [hg]; exact Nat.ne_of_gt (blk_lt (g := gb317) (o := .cells #[.int .i64 0, .int .i64 0, .int .i64 0, .int .i64 0, .int .i64 0] 47 (0, 0)) (zq BK317.out)) : gb325 ≠ gb317)) ((by rw [hg]; exact Nat.ne_of_lt (IsS133.lt (show IsS133 w0 _ g s0_0 t323 t324 from IsS133.q1 HI0.out NB0_317.out)) : g ≠ gb325)) ((by rw [hg]; exact Nat.ne_of_gt (IsS133.lt (show IsS133 w0 _ g s0_0 t323 t324 from IsS133.q1 HI0.out NB0_317.out)) : gb325 ≠ g)); clear HI0 BK317 HK HB; obtain ⟨HI0, BK317, HK, HB, BK325, GW325, GE325, NB317_325, NB325_317, NB0_325, NB325_0⟩ := n_; clear hb hbox hg; have hnb25 := NB325_317.out; have hnc25 := NB317_325.out; have hnb26 := NB325_0.out; have hnc26 := NB0_325.out; have hcz27_0 : w24.cell? ⟨gb325, 0, none⟩ = some (.int .i64 0) := (blk_cell BK325.out 0).trans rfl; have hcz27_1 : w24.cell? ⟨gb325, 1, none⟩ = some (.int .i64 0) := (blk_cell BK325.out 1).trans rfl; have hcz27_2 : w24.cell? ⟨gb325, 2, none⟩ = some (.int .i64 0) := (blk_cell BK325.out 2).trans rfl; have hcz27_3 : w24.cell? ⟨gb325, 3, none⟩ = some (.int .i64 0) := (blk_cell BK325.out 3).trans rfl; have hcz27_4 : w24.cell? ⟨gb325, 4, none⟩ = some (.int .i64 0) := (blk_cell BK325.out 4).trans rfl; have hfz27_0 := blk_frozen BK325.out 0; have hfz27_1 := blk_frozen BK325.out 1; have hfz27_2 := blk_frozen BK325.out 2; have hfz27_3 := blk_frozen BK325.out 3; have hfz27_4 := blk_frozen BK325.out 4) | ((with_reducible refine gate_callee (f := 86) rfl ?_); refine goesL_ (some 7) rfl rfl Try.func86 (by kernel_rfl) rfl #[.pointer (some ⟨g, 0, none⟩), .int .i64 12] rfl ga ?_; (with_reducible refine (spec_l1Below.calls g s0_0 t323 t324 12 t326 t327 t328 w0 _ ?side1 ?side2 A3.out).mono ?_); (case side1 => exact IsS133.q2 HI0.out NB0_317.out NB0_325.out); (case side2 => exact bq3 HB.out (IsS133.ge HI0.out) GE317.out GE325.out); rintro e w28 ⟨rfl, hi, hb, hk⟩; refine ⟨_, rfl, ?_⟩; have n_ := ak5 (KeepBut.blk hk (g' := gb317) (o := .cells #[.int .i64 0, .int .i64 0, .int .i64 0, .int .i64 0, .int .i64 0] 47 (0, 0)) (by (with_reducible repeat (first | refine blk_drewN ?_ _ | refine blk_drew ?_ | refine blk_alloc ?_ _)); refine blk_far ?_ NB317_325.out _; (with_reducible repeat (first | refine blk_drewN ?_ _ | refine blk_drew ?_ | refine blk_alloc ?_ _)); refine blk_far ?_ NB317_325.out _; (with_reducible repeat (first | refine blk_drewN ?_ _ | refine blk_drew ?_ | refine blk_alloc ?_ _)); refine blk_far ?_ NB317_325.out _; (with_reducible repeat (first | refine blk_drewN ?_ _ | refine blk_drew ?_ | refine blk_alloc ?_ _)); refine blk_far ?_ NB317_325.out _; (with_reducible repeat (first | refine blk_drewN ?_ _ | refine blk_drew ?_ | refine blk_alloc ?_ _)); refine blk_far ?_ NB317_325.out _; (with_reducible repeat (first | refine blk_drewN ?_ _ | refine blk_drew ?_ | refine blk_alloc ?_ _)); exact BK317.out) NB317_0.out (by simp)) (KeepBut.blk hk (g' := gb325) (o := .cells #[.int .i64 t318, .int .i64 t319, .int .i64 t320, .int .i64 t321, .int .i64 t322] 47 (0, 0)) (by (with_reducible repeat (first | refine blk_drewN ?_ _ | refine blk_drew ?_ | refine blk_alloc ?_ _)); refine blk_put (cs := #[.int .i64 t318, .int .i64 t319, .int .i64 t320, .int .i64 t321, .int .i64 0]) ?_ 4 _ rfl; (with_reducible repeat (first | refine blk_drewN ?_ _ | refine blk_drew ?_ | refine blk_alloc ?_ _)); refine blk_put (cs := #[.int .i64 t318, .int .i64 t319, .int .i64 t320, .int .i64 0, .int .i64 0]) ?_ 3 _ rfl; (with_reducible repeat (first | refine blk_drewN ?_ _ | refine blk_drew ?_ | refine blk_alloc ?_ _)); refine blk_put (cs := #[.int .i64 t318, .int .i64 t319, .int .i64 0, .int .i64 0, .int .i64 0]) ?_ 2 _ rfl; (with_reducible repeat (first | refine blk_drewN ?_ _ | refine blk_drew ?_ | refine blk_alloc ?_ _)); refine blk_put (cs := #[.int .i64 t318, .int .i64 0, .int .i64 0, .int .i64 0, .int .i64 0]) ?_ 1 _ rfl; (with_reducible repeat (first | refine blk_drewN ?_ _ | refine blk_drew ?_ | refine blk_alloc ?_ _)); refine blk_put (cs := #[.int .i64 0, .int .i64 0, .int .i64 0, .int .i64 0, .int .i64 0]) ?_ 0 _ rfl; (with_reducible repeat (first | refine blk_drewN ?_ _ | refine blk_drew ?_ | refine blk_alloc ?_ _)); exact BK325.out) NB325_0.out (by simp)) (KeepBut.trans (kp2 HK.out GW317.out GW325.out) hk (.inl rfl)) hb hi; clear BK317 BK325 HK HB HI0; obtain ⟨BK317, BK325, HK, HB, HI0⟩ := n_; (try clear hb hk hi)) | ((with_reducible refine gate_dst (N := 17) rfl ?_); refine Kd.R_lit (Kd.int .i64) _ 3 ?hg (N := 17) ?hd (xs := ([(-1), 99999, 100000, 100001] : List Int)) (inner := [.int .i64 (-1), .int .i64 99999, .int .i64 100000, .int .i64 100001]) (ok := fun _ => True) (okp := fun _ => True) ?hr ?hp (fun _ hk => hk) trivial (Below.refl _ _) (Nat.le_refl _) (by simp) ?_; (case hd => rfl); (case hg => rfl); (case hr => exact gs); (case hp => exact (Reps.one (show Kd.M (Kd.int .i64) _ _ _ (-1) [.int .i64 (-1)] from rfl) (Reps.one (show Kd.M (Kd.int .i64) _ _ _ 99999 [.int .i64 99999] from rfl) (Reps.one (show Kd.M (Kd.int .i64) _ _ _ 100000 [.int .i64 100000] from rfl) (Reps.one (show Kd.M (Kd.int .i64) _ _ _ 100001 [.int .i64 100001] from rfl) (Reps.none _ _)))))); intro v336 w29 ho30 hb hg_ hnew_; clear hg_ hnew_; (first | rw [← Ny335.out] at ho30 | (simp only [Int.reduceToNat] at ho30; rw [← Ny335.out] at ho30)); have n_ := ak6 (Kd.R_lower ho30 (keep_size (w := w) (g := g) (row := none) (kp2 HK.out GW317.out GW325.out))) (IsS133.below (IsS133.q2 HI0.out NB0_317.out NB0_325.out) hb) (blk_below (g := gb317) (o := .cells #[.int .i64 0, .int .i64 0, .int .i64 0, .int .i64 0, .int .i64 0] 47 (0, 0)) (zq BK317.out) hb) (blk_below (g := gb325) (o := .cells #[.int .i64 t318, .int .i64 t319, .int .i64 t320, .int .i64 t321, .int .i64 t322] 47 (0, 0)) (zq BK325.out) hb) (KeepBut.trans (kp2 HK.out GW317.out GW325.out) (KeepBut.of_below hb g none) (.inl rfl)) (below_step (bq3 HB.out (IsS133.ge HI0.out) GE317.out GE325.out) hb); clear HI0 BK317 BK325 HK HB; obtain ⟨HO337, HI0, BK317, BK325, HK, HB⟩ := n_; clear hb ho30; obtain ⟨Ao31, co31, eo31⟩ := Kd.R_slice HO337.out; subst eo31) | ((with_reducible refine gate_callee (f := 110) rfl ?_); refine goesL_ (some 18) rfl rfl Try.func110 (by kernel_rfl) rfl #[.pointer (some ⟨g, 0, none⟩), .slice Ao31 y335.length co31] rfl ga ?_; (with_reducible refine (spec_l1Int.calls g s0_0 t327 t328 _ _ y335 t338 t339 t340 w0 _ ?side1 ?side2 ?side3 ?side4 ?side5 A21.out).mono ?_); (case side1 => exact IsS133.q2 HI0.out NB0_317.out NB0_325.out); (case side2 => exact bq3 HB.out (IsS133.ge HI0.out) GE317.out GE325.out); (case side3 => repeat (first | exact (Kd.R_reads' HO337.out).2.2 | (with_reducible refine Kd.C_alloc ?_ _) | (with_reducible refine Kd.C_drewN ?_ _) | (with_reducible refine Kd.C_drew ?_))); (case side4 => exact (Kd.R_reads' HO337.out).2.1); (case side5 => exact far_slice (IsS133.own_ne HI0.out HO337.out (by decide))); rintro e w32 ⟨rfl, hi, hb, hk⟩; refine ⟨_, rfl, ?_⟩; have n_ := ak6 (KeepBut.blk hk (g' := gb317) (o := .cells #[.int .i64 0, .int .i64 0, .int .i64 0, .int .i64 0, .int .i64 0] 47 (0, 0)) (zq BK317.out) NB317_0.out (by simp)) (KeepBut.blk hk (g' := gb325) (o := .cells #[.int .i64 t318, .int .i64 t319, .int .i64 t320, .int .i64 t321, .int .i64 t322] 47 (0, 0)) (zq BK325.out) NB325_0.out (by simp)) (Kd.R_mono (Kd.R_keep (IsS133.apart (show IsS133 w0 _ g s0_0 t327 t328 from IsS133.q2 HI0.out NB0_317.out NB0_325.out) (kqR HO337.out) (by decide)) hk (fun _ h => h.2)) (fun _ h => h.1)) (KeepBut.trans (kp2 HK.out GW317.out GW325.out) hk (.inl rfl)) hb hi; clear BK317 BK325 HO337 HK HB HI0; obtain ⟨BK317, BK325, HO337, HK, HB, HI0⟩ := n_; (try clear hb hk hi); have hcz33_0 : w32.cell? ⟨gb325, 0, none⟩ = some (.int .i64 t318) := (blk_cell BK325.out 0).trans rfl; have hcz33_1 : w32.cell? ⟨gb325, 1, none⟩ = some (.int .i64 t319) := (blk_cell BK325.out 1).trans rfl; have hcz33_2 : w32.cell? ⟨gb325, 2, none⟩ = some (.int .i64 t320) := (blk_cell BK325.out 2).trans rfl; have hcz33_3 : w32.cell? ⟨gb325, 3, none⟩ = some (.int .i64 t321) := (blk_cell BK325.out 3).trans rfl; have hcz33_4 : w32.cell? ⟨gb325, 4, none⟩ = some (.int .i64 t322) := (blk_cell BK325.out 4).trans rfl; have hfz33_0 := blk_frozen BK325.out 0; have hfz33_1 := blk_frozen BK325.out 1; have hfz33_2 := blk_frozen BK325.out 2; have hfz33_3 := blk_frozen BK325.out 3; have hfz33_4 := blk_frozen BK325.out 4; have hnb34 := NB317_0.out; have hnc34 := NB0_317.out; have hcz35_0 : w32.cell? ⟨gb317, 0, none⟩ = some (.int .i64 0) := (blk_cell BK317.out 0).trans rfl; have hcz35_1 : w32.cell? ⟨gb317, 1, none⟩ = some (.int .i64 0) := (blk_cell BK317.out 1).trans rfl; have hcz35_2 : w32.cell? ⟨gb317, 2, none⟩ = some (.int .i64 0) := (blk_cell BK317.out 2).trans rfl; have hcz35_3 : w32.cell? ⟨gb317, 3, none⟩ = some (.int .i64 0) := (blk_cell BK317.out 3).trans rfl; have hcz35_4 : w32.cell? ⟨gb317, 4, none⟩ = some (.int .i64 0) := (blk_cell BK317.out 4).trans rfl; have hfz35_0 := blk_frozen BK317.out 0; have hfz35_1 := blk_frozen BK317.out 1; have hfz35_2 := blk_frozen BK317.out 2; have hfz35_3 := blk_frozen BK317.out 3; have hfz35_4 := blk_frozen BK317.out 4))
   refine bodyPost_ret (results_cell_row rfl _ _ gb317 47 #[.int .i64 t318, .int .i64 t338, .int .i64 t320, .int .i64 t321, .int .i64 t322] (0, 0) _ rfl (by (with_reducible repeat (first | refine blk_drewN ?_ _ | refine blk_drew ?_ | refine blk_alloc ?_ _)); refine blk_put (cs := #[.int .i64 t318, .int .i64 t338, .int .i64 t320, .int .i64 t321, .int .i64 0]) ?_ 4 _ rfl; (with_reducible repeat (first | refine blk_drewN ?_ _ | refine blk_drew ?_ | refine blk_alloc ?_ _)); refine blk_put (cs := #[.int .i64 t318, .int .i64 t338, .int .i64 t320, .int .i64 0, .int .i64 0]) ?_ 3 _ rfl; (with_reducible repeat (first | refine blk_drewN ?_ _ | refine blk_drew ?_ | refine blk_alloc ?_ _)); refine blk_put (cs := #[.int .i64 t318, .int .i64 t338, .int .i64 0, .int .i64 0, .int .i64 0]) ?_ 2 _ rfl; (with_reducible repeat (first | refine blk_drewN ?_ _ | refine blk_drew ?_ | refine blk_alloc ?_ _)); refine blk_put (cs := #[.int .i64 t318, .int .i64 0, .int .i64 0, .int .i64 0, .int .i64 0]) ?_ 1 _ rfl; (with_reducible repeat (first | refine blk_drewN ?_ _ | refine blk_drew ?_ | refine blk_alloc ?_ _)); refine blk_put (cs := #[.int .i64 0, .int .i64 0, .int .i64 0, .int .i64 0, .int .i64 0]) ?_ 0 _ rfl; (with_reducible repeat (first | refine blk_drewN ?_ _ | refine blk_drew ?_ | refine blk_alloc ?_ _)); refine blk_far ?_ NB317_325.out _; (with_reducible repeat (first | refine blk_drewN ?_ _ | refine blk_drew ?_ | refine blk_alloc ?_ _)); exact BK317.out) Try.underlying47 rfl (by kernel_rfl)) rfl ?_
   exact ⟨rq, IsS133.q2 HI0.out NB0_317.out NB0_325.out, bq3 HB.out (IsS133.ge HI0.out) GE317.out GE325.out, kp2 HK.out GW317.out GW325.out⟩
 rw [if_neg c20] at H
 have c20b0 : (t326 == 1) = false := beq_eq_false_iff_ne.mpr c20
 have c20b1 : (t326 != 1) = true := bne_iff_ne.mpr c20
 by_cases c36 : t326 = 2
 · rw [if_pos c36] at H
   have c36b0 : (t326 == 2) = true := beq_iff_eq.mpr c36
   have c36b1 : (t326 != 2) = false := bne_eq_false_iff_eq.mpr c36
   clear c36
   obtain ⟨y341, hy341⟩ : ∃ y_ : List Int, y_ = (([(-1), 11] : List Int)) := ⟨_, rfl⟩
   replace H : ((spec_l1Int.f s0_0 t327 t328 y341).bind fun bt344 => (some (t318, t319, bt344.1, t321, t322, bt344.2.1, bt344.2.2))) = some (r1, r2, r3, r4, r5, r6, r7) := by first | (rw [hy341]; with_reducible exact H) | (have H2_ := (Option.bind_some _ _).symm.trans H; rw [hy341]; with_reducible exact H2_) | (have H2_ := (Option.bind_some _ _).symm.trans H; with_reducible exact H2_) | with_reducible exact H | (rw [hy341]; exact H) | exact H
   have Ny341 := am hy341
   clear hy341
   replace H := Option.bind_eq_some_iff.mp H
   obtain ⟨⟨t344, t345, t346⟩, A370, H⟩ := H
   replace H : (some (t318, t319, t344, t321, t322, t345, t346)) = some (r1, r2, r3, r4, r5, r6, r7) := H
   have A37 := am A370
   clear A370
   simp only [Option.some.injEq, Prod.mk.injEq] at H
   obtain ⟨rfl, rfl, rfl, rfl, rfl, rfl, rfl⟩ := H
   go_enter Try.func113, Try.ntmps113
   go_wp2_with (first | ((with_reducible refine gate_dst (N := 2) rfl ?_); refine box_event ?hg (N := 2) ?hd (cs := #[.int .i64 0, .int .i64 0, .int .i64 0, .int .i64 0, .int .i64 0]) (t := 47) ?hr ?_; (case hd => rfl); (case hg => rfl); (case hr => exact gs); intro gb317 hg w38 hbox hb; have n_ := ak8 (IsS133.below (IsS133.q0 HI0.out) hb) (KeepBut.trans (kp0 HK.out) (KeepBut.of_below hb g none) (.inl rfl)) (below_step (bq1 HB.out (IsS133.ge HI0.out)) hb) hbox ((by rw [hg]; exact (keep_size (w := w) (g := g) (row := none) (kp0 HK.out)) : w.heap.size ≤ gb317)) ((Nat.le_trans HW0.out (by rw [hg]; exact (keep_size (w := w) (g := g) (row := none) (kp0 HK.out)) : w.heap.size ≤ gb317) : w0.heap.size ≤ gb317)) ((by rw [hg]; exact Nat.ne_of_lt (IsS133.lt (show IsS133 w0 _ g s0_0 s0_1 s0_2 from IsS133.q0 HI0.out)) : g ≠ gb317)) ((by rw [hg]; exact Nat.ne_of_gt (IsS133.lt (show IsS133 w0 _ g s0_0 s0_1 s0_2 from IsS133.q0 HI0.out)) : gb317 ≠ g)); clear HI0 HK HB; obtain ⟨HI0, HK, HB, BK317, GW317, GE317, NB0_317, NB317_0⟩ := n_; clear hb hbox hg) | ((with_reducible refine gate_callee (f := 117) rfl ?_); refine goesL_ (some 5) rfl rfl Try.func117 (by kernel_rfl) rfl #[.pointer (some ⟨g, 0, none⟩)] rfl ga ?_; (with_reducible refine (spec_l7Draw.calls g s0_0 s0_1 s0_2 t318 t319 t320 t321 t322 t323 t324 w0 _ ?side1 ?side2 A2.out).mono ?_); (case side1 => exact IsS133.q1 HI0.out NB0_317.out); (case side2 => exact bq2 HB.out (IsS133.ge HI0.out) GE317.out); rintro e w39 ⟨rfl, hi, hb, hk⟩; refine ⟨_, rfl, ?_⟩; have n_ := ak4 (KeepBut.blk hk (g' := gb317) (o := .cells #[.int .i64 0, .int .i64 0, .int .i64 0, .int .i64 0, .int .i64 0] 47 (0, 0)) (zq BK317.out) NB317_0.out (by simp)) (KeepBut.trans (kp1 HK.out GW317.out) hk (.inl rfl)) hb hi; clear BK317 HK HB HI0; obtain ⟨BK317, HK, HB, HI0⟩ := n_; (try clear hb hk hi)) | ((with_reducible refine gate_dst (N := 3) rfl ?_); refine box_event ?hg (N := 3) ?hd (cs := #[.int .i64 0, .int .i64 0, .int .i64 0, .int .i64 0, .int .i64 0]) (t := 47) ?hr ?_; (case hd => rfl); (case hg => rfl); (case hr => exact gs); intro gb325 hg w40 hbox hb; have n_ := ak11 (IsS133.below (IsS133.q1 HI0.out NB0_317.out) hb) (blk_below (g := gb317) (o := .cells #[.int .i64 0, .int .i64 0, .int .i64 0, .int .i64 0, .int .i64 0] 47 (0, 0)) (zq BK317.out) hb) (KeepBut.trans (kp1 HK.out GW317.out) (KeepBut.of_below hb g none) (.inl rfl)) (below_step (bq2 HB.out (IsS133.ge HI0.out) GE317.out) hb) hbox ((by rw [hg]; exact (keep_size (w := w) (g := g) (row := none) (kp1 HK.out GW317.out)) : w.heap.size ≤ gb325)) ((Nat.le_trans HW0.out (by rw [hg]; exact (keep_size (w := w) (g := g) (row := none) (kp1 HK.out GW317.out)) : w.heap.size ≤ gb325) : w0.heap.size ≤ gb325)) ((by rw [hg]; exact Nat.ne_of_lt (blk_lt (g := gb317) (o := .cells #[.int .i64 0, .int .i64 0, .int .i64 0, .int .i64 0, .int .i64 0] 47 (0, 0)) (zq BK317.out)) : gb317 ≠ gb325)) ((by rw [hg]; exact Nat.ne_of_gt (blk_lt (g := gb317) (o := .cells #[.int .i64 0, .int .i64 0, .int .i64 0, .int .i64 0, .int .i64 0] 47 (0, 0)) (zq BK317.out)) : gb325 ≠ gb317)) ((by rw [hg]; exact Nat.ne_of_lt (IsS133.lt (show IsS133 w0 _ g s0_0 t323 t324 from IsS133.q1 HI0.out NB0_317.out)) : g ≠ gb325)) ((by rw [hg]; exact Nat.ne_of_gt (IsS133.lt (show IsS133 w0 _ g s0_0 t323 t324 from IsS133.q1 HI0.out NB0_317.out)) : gb325 ≠ g)); clear HI0 BK317 HK HB; obtain ⟨HI0, BK317, HK, HB, BK325, GW325, GE325, NB317_325, NB325_317, NB0_325, NB325_0⟩ := n_; clear hb hbox hg; have hnb41 := NB325_317.out; have hnc41 := NB317_325.out; have hnb42 := NB325_0.out; have hnc42 := NB0_325.out; have hcz43_0 : w40.cell? ⟨gb325, 0, none⟩ = some (.int .i64 0) := (blk_cell BK325.out 0).trans rfl; have hcz43_1 : w40.cell? ⟨gb325, 1, none⟩ = some (.int .i64 0) := (blk_cell BK325.out 1).trans rfl; have hcz43_2 : w40.cell? ⟨gb325, 2, none⟩ = some (.int .i64 0) := (blk_cell BK325.out 2).trans rfl; have hcz43_3 : w40.cell? ⟨gb325, 3, none⟩ = some (.int .i64 0) := (blk_cell BK325.out 3).trans rfl; have hcz43_4 : w40.cell? ⟨gb325, 4, none⟩ = some (.int .i64 0) := (blk_cell BK325.out 4).trans rfl; have hfz43_0 := blk_frozen BK325.out 0; have hfz43_1 := blk_frozen BK325.out 1; have hfz43_2 := blk_frozen BK325.out 2; have hfz43_3 := blk_frozen BK325.out 3; have hfz43_4 := blk_frozen BK325.out 4) | ((with_reducible refine gate_callee (f := 86) rfl ?_); refine goesL_ (some 7) rfl rfl Try.func86 (by kernel_rfl) rfl #[.pointer (some ⟨g, 0, none⟩), .int .i64 12] rfl ga ?_; (with_reducible refine (spec_l1Below.calls g s0_0 t323 t324 12 t326 t327 t328 w0 _ ?side1 ?side2 A3.out).mono ?_); (case side1 => exact IsS133.q2 HI0.out NB0_317.out NB0_325.out); (case side2 => exact bq3 HB.out (IsS133.ge HI0.out) GE317.out GE325.out); rintro e w44 ⟨rfl, hi, hb, hk⟩; refine ⟨_, rfl, ?_⟩; have n_ := ak5 (KeepBut.blk hk (g' := gb317) (o := .cells #[.int .i64 0, .int .i64 0, .int .i64 0, .int .i64 0, .int .i64 0] 47 (0, 0)) (by (with_reducible repeat (first | refine blk_drewN ?_ _ | refine blk_drew ?_ | refine blk_alloc ?_ _)); refine blk_far ?_ NB317_325.out _; (with_reducible repeat (first | refine blk_drewN ?_ _ | refine blk_drew ?_ | refine blk_alloc ?_ _)); refine blk_far ?_ NB317_325.out _; (with_reducible repeat (first | refine blk_drewN ?_ _ | refine blk_drew ?_ | refine blk_alloc ?_ _)); refine blk_far ?_ NB317_325.out _; (with_reducible repeat (first | refine blk_drewN ?_ _ | refine blk_drew ?_ | refine blk_alloc ?_ _)); refine blk_far ?_ NB317_325.out _; (with_reducible repeat (first | refine blk_drewN ?_ _ | refine blk_drew ?_ | refine blk_alloc ?_ _)); refine blk_far ?_ NB317_325.out _; (with_reducible repeat (first | refine blk_drewN ?_ _ | refine blk_drew ?_ | refine blk_alloc ?_ _)); exact BK317.out) NB317_0.out (by simp)) (KeepBut.blk hk (g' := gb325) (o := .cells #[.int .i64 t318, .int .i64 t319, .int .i64 t320, .int .i64 t321, .int .i64 t322] 47 (0, 0)) (by (with_reducible repeat (first | refine blk_drewN ?_ _ | refine blk_drew ?_ | refine blk_alloc ?_ _)); refine blk_put (cs := #[.int .i64 t318, .int .i64 t319, .int .i64 t320, .int .i64 t321, .int .i64 0]) ?_ 4 _ rfl; (with_reducible repeat (first | refine blk_drewN ?_ _ | refine blk_drew ?_ | refine blk_alloc ?_ _)); refine blk_put (cs := #[.int .i64 t318, .int .i64 t319, .int .i64 t320, .int .i64 0, .int .i64 0]) ?_ 3 _ rfl; (with_reducible repeat (first | refine blk_drewN ?_ _ | refine blk_drew ?_ | refine blk_alloc ?_ _)); refine blk_put (cs := #[.int .i64 t318, .int .i64 t319, .int .i64 0, .int .i64 0, .int .i64 0]) ?_ 2 _ rfl; (with_reducible repeat (first | refine blk_drewN ?_ _ | refine blk_drew ?_ | refine blk_alloc ?_ _)); refine blk_put (cs := #[.int .i64 t318, .int .i64 0, .int .i64 0, .int .i64 0, .int .i64 0]) ?_ 1 _ rfl; (with_reducible repeat (first | refine blk_drewN ?_ _ | refine blk_drew ?_ | refine blk_alloc ?_ _)); refine blk_put (cs := #[.int .i64 0, .int .i64 0, .int .i64 0, .int .i64 0, .int .i64 0]) ?_ 0 _ rfl; (with_reducible repeat (first | refine blk_drewN ?_ _ | refine blk_drew ?_ | refine blk_alloc ?_ _)); exact BK325.out) NB325_0.out (by simp)) (KeepBut.trans (kp2 HK.out GW317.out GW325.out) hk (.inl rfl)) hb hi; clear BK317 BK325 HK HB HI0; obtain ⟨BK317, BK325, HK, HB, HI0⟩ := n_; (try clear hb hk hi)) | ((with_reducible refine gate_dst (N := 23) rfl ?_); refine Kd.R_lit (Kd.int .i64) _ 3 ?hg (N := 23) ?hd (xs := ([(-1), 11] : List Int)) (inner := [.int .i64 (-1), .int .i64 11]) (ok := fun _ => True) (okp := fun _ => True) ?hr ?hp (fun _ hk => hk) trivial (Below.refl _ _) (Nat.le_refl _) (by simp) ?_; (case hd => rfl); (case hg => rfl); (case hr => exact gs); (case hp => exact (Reps.one (show Kd.M (Kd.int .i64) _ _ _ (-1) [.int .i64 (-1)] from rfl) (Reps.one (show Kd.M (Kd.int .i64) _ _ _ 11 [.int .i64 11] from rfl) (Reps.none _ _)))); intro v342 w45 ho46 hb hg_ hnew_; clear hg_ hnew_; (first | rw [← Ny341.out] at ho46 | (simp only [Int.reduceToNat] at ho46; rw [← Ny341.out] at ho46)); have n_ := ak6 (Kd.R_lower ho46 (keep_size (w := w) (g := g) (row := none) (kp2 HK.out GW317.out GW325.out))) (IsS133.below (IsS133.q2 HI0.out NB0_317.out NB0_325.out) hb) (blk_below (g := gb317) (o := .cells #[.int .i64 0, .int .i64 0, .int .i64 0, .int .i64 0, .int .i64 0] 47 (0, 0)) (zq BK317.out) hb) (blk_below (g := gb325) (o := .cells #[.int .i64 t318, .int .i64 t319, .int .i64 t320, .int .i64 t321, .int .i64 t322] 47 (0, 0)) (zq BK325.out) hb) (KeepBut.trans (kp2 HK.out GW317.out GW325.out) (KeepBut.of_below hb g none) (.inl rfl)) (below_step (bq3 HB.out (IsS133.ge HI0.out) GE317.out GE325.out) hb); clear HI0 BK317 BK325 HK HB; obtain ⟨HO343, HI0, BK317, BK325, HK, HB⟩ := n_; clear hb ho46; obtain ⟨Ao47, co47, eo47⟩ := Kd.R_slice HO343.out; subst eo47) | ((with_reducible refine gate_callee (f := 110) rfl ?_); refine goesL_ (some 24) rfl rfl Try.func110 (by kernel_rfl) rfl #[.pointer (some ⟨g, 0, none⟩), .slice Ao47 y341.length co47] rfl ga ?_; (with_reducible refine (spec_l1Int.calls g s0_0 t327 t328 _ _ y341 t344 t345 t346 w0 _ ?side1 ?side2 ?side3 ?side4 ?side5 A37.out).mono ?_); (case side1 => exact IsS133.q2 HI0.out NB0_317.out NB0_325.out); (case side2 => exact bq3 HB.out (IsS133.ge HI0.out) GE317.out GE325.out); (case side3 => repeat (first | exact (Kd.R_reads' HO343.out).2.2 | (with_reducible refine Kd.C_alloc ?_ _) | (with_reducible refine Kd.C_drewN ?_ _) | (with_reducible refine Kd.C_drew ?_))); (case side4 => exact (Kd.R_reads' HO343.out).2.1); (case side5 => exact far_slice (IsS133.own_ne HI0.out HO343.out (by decide))); rintro e w48 ⟨rfl, hi, hb, hk⟩; refine ⟨_, rfl, ?_⟩; have n_ := ak6 (KeepBut.blk hk (g' := gb317) (o := .cells #[.int .i64 0, .int .i64 0, .int .i64 0, .int .i64 0, .int .i64 0] 47 (0, 0)) (zq BK317.out) NB317_0.out (by simp)) (KeepBut.blk hk (g' := gb325) (o := .cells #[.int .i64 t318, .int .i64 t319, .int .i64 t320, .int .i64 t321, .int .i64 t322] 47 (0, 0)) (zq BK325.out) NB325_0.out (by simp)) (Kd.R_mono (Kd.R_keep (IsS133.apart (show IsS133 w0 _ g s0_0 t327 t328 from IsS133.q2 HI0.out NB0_317.out NB0_325.out) (kqR HO343.out) (by decide)) hk (fun _ h => h.2)) (fun _ h => h.1)) (KeepBut.trans (kp2 HK.out GW317.out GW325.out) hk (.inl rfl)) hb hi; clear BK317 BK325 HO343 HK HB HI0; obtain ⟨BK317, BK325, HO343, HK, HB, HI0⟩ := n_; (try clear hb hk hi); have hcz49_0 : w48.cell? ⟨gb325, 0, none⟩ = some (.int .i64 t318) := (blk_cell BK325.out 0).trans rfl; have hcz49_1 : w48.cell? ⟨gb325, 1, none⟩ = some (.int .i64 t319) := (blk_cell BK325.out 1).trans rfl; have hcz49_2 : w48.cell? ⟨gb325, 2, none⟩ = some (.int .i64 t320) := (blk_cell BK325.out 2).trans rfl; have hcz49_3 : w48.cell? ⟨gb325, 3, none⟩ = some (.int .i64 t321) := (blk_cell BK325.out 3).trans rfl; have hcz49_4 : w48.cell? ⟨gb325, 4, none⟩ = some (.int .i64 t322) := (blk_cell BK325.out 4).trans rfl; have hfz49_0 := blk_frozen BK325.out 0; have hfz49_1 := blk_frozen BK325.out 1; have hfz49_2 := blk_frozen BK325.out 2; have hfz49_3 := blk_frozen BK325.out 3; have hfz49_4 := blk_frozen BK325.out 4; have hnb50 := NB317_0.out; have hnc50 := NB0_317.out; have hcz51_0 : w48.cell? ⟨gb317, 0, none⟩ = some (.int .i64 0) := (blk_cell BK317.out 0).trans rfl; have hcz51_1 : w48.cell? ⟨gb317, 1, none⟩ = some (.int .i64 0) := (blk_cell BK317.out 1).trans rfl; have hcz51_2 : w48.cell? ⟨gb317, 2, none⟩ = some (.int .i64 0) := (blk_cell BK317.out 2).trans rfl; have hcz51_3 : w48.cell? ⟨gb317, 3, none⟩ = some (.int .i64 0) := (blk_cell BK317.out 3).trans rfl; have hcz51_4 : w48.cell? ⟨gb317, 4, none⟩ = some (.int .i64 0) := (blk_cell BK317.out 4).trans rfl; have hfz51_0 := blk_frozen BK317.out 0; have hfz51_1 := blk_frozen BK317.out 1; have hfz51_2 := blk_frozen BK317.out 2; have hfz51_3 := blk_frozen BK317.out 3; have hfz51_4 := blk_frozen BK317.out 4))
   refine bodyPost_ret (results_cell_row rfl _ _ gb317 47 #[.int .i64 t318, .int .i64 t319, .int .i64 t344, .int .i64 t321, .int .i64 t322] (0, 0) _ rfl (by (with_reducible repeat (first | refine blk_drewN ?_ _ | refine blk_drew ?_ | refine blk_alloc ?_ _)); refine blk_put (cs := #[.int .i64 t318, .int .i64 t319, .int .i64 t344, .int .i64 t321, .int .i64 0]) ?_ 4 _ rfl; (with_reducible repeat (first | refine blk_drewN ?_ _ | refine blk_drew ?_ | refine blk_alloc ?_ _)); refine blk_put (cs := #[.int .i64 t318, .int .i64 t319, .int .i64 t344, .int .i64 0, .int .i64 0]) ?_ 3 _ rfl; (with_reducible repeat (first | refine blk_drewN ?_ _ | refine blk_drew ?_ | refine blk_alloc ?_ _)); refine blk_put (cs := #[.int .i64 t318, .int .i64 t319, .int .i64 0, .int .i64 0, .int .i64 0]) ?_ 2 _ rfl; (with_reducible repeat (first | refine blk_drewN ?_ _ | refine blk_drew ?_ | refine blk_alloc ?_ _)); refine blk_put (cs := #[.int .i64 t318, .int .i64 0, .int .i64 0, .int .i64 0, .int .i64 0]) ?_ 1 _ rfl; (with_reducible repeat (first | refine blk_drewN ?_ _ | refine blk_drew ?_ | refine blk_alloc ?_ _)); refine blk_put (cs := #[.int .i64 0, .int .i64 0, .int .i64 0, .int .i64 0, .int .i64 0]) ?_ 0 _ rfl; (with_reducible repeat (first | refine blk_drewN ?_ _ | refine blk_drew ?_ | refine blk_alloc ?_ _)); refine blk_far ?_ NB317_325.out _; (with_reducible repeat (first | refine blk_drewN ?_ _ | refine blk_drew ?_ | refine blk_alloc ?_ _)); exact BK317.out) Try.underlying47 rfl (by kernel_rfl)) rfl ?_
   exact ⟨rq, IsS133.q2 HI0.out NB0_317.out NB0_325.out, bq3 HB.out (IsS133.ge HI0.out) GE317.out GE325.out, kp2 HK.out GW317.out GW325.out⟩
 rw [if_neg c36] at H
 have c36b0 : (t326 == 2) = false := beq_eq_false_iff_ne.mpr c36
 have c36b1 : (t326 != 2) = true := bne_iff_ne.mpr c36
 by_cases c52 : t326 = 3
 · rw [if_pos c52] at H
   have c52b0 : (t326 == 3) = true := beq_iff_eq.mpr c52
   have c52b1 : (t326 != 3) = false := bne_eq_false_iff_eq.mpr c52
   clear c52
   obtain ⟨y347, hy347⟩ : ∃ y_ : List Int, y_ = (([(-1), 7, 8] : List Int)) := ⟨_, rfl⟩
   replace H : ((spec_l1Int.f s0_0 t327 t328 y347).bind fun bt350 => (some (t318, t319, t320, t321, bt350.1, bt350.2.1, bt350.2.2))) = some (r1, r2, r3, r4, r5, r6, r7) := by first | (rw [hy347]; with_reducible exact H) | (have H2_ := (Option.bind_some _ _).symm.trans H; rw [hy347]; with_reducible exact H2_) | (have H2_ := (Option.bind_some _ _).symm.trans H; with_reducible exact H2_) | with_reducible exact H | (rw [hy347]; exact H) | exact H
   have Ny347 := am hy347
   clear hy347
   replace H := Option.bind_eq_some_iff.mp H
   obtain ⟨⟨t350, t351, t352⟩, A530, H⟩ := H
   replace H : (some (t318, t319, t320, t321, t350, t351, t352)) = some (r1, r2, r3, r4, r5, r6, r7) := H
   have A53 := am A530
   clear A530
   simp only [Option.some.injEq, Prod.mk.injEq] at H
   obtain ⟨rfl, rfl, rfl, rfl, rfl, rfl, rfl⟩ := H
   go_enter Try.func113, Try.ntmps113
   go_wp2_with (first | ((with_reducible refine gate_dst (N := 2) rfl ?_); refine box_event ?hg (N := 2) ?hd (cs := #[.int .i64 0, .int .i64 0, .int .i64 0, .int .i64 0, .int .i64 0]) (t := 47) ?hr ?_; (case hd => rfl); (case hg => rfl); (case hr => exact gs); intro gb317 hg w54 hbox hb; have n_ := ak8 (IsS133.below (IsS133.q0 HI0.out) hb) (KeepBut.trans (kp0 HK.out) (KeepBut.of_below hb g none) (.inl rfl)) (below_step (bq1 HB.out (IsS133.ge HI0.out)) hb) hbox ((by rw [hg]; exact (keep_size (w := w) (g := g) (row := none) (kp0 HK.out)) : w.heap.size ≤ gb317)) ((Nat.le_trans HW0.out (by rw [hg]; exact (keep_size (w := w) (g := g) (row := none) (kp0 HK.out)) : w.heap.size ≤ gb317) : w0.heap.size ≤ gb317)) ((by rw [hg]; exact Nat.ne_of_lt (IsS133.lt (show IsS133 w0 _ g s0_0 s0_1 s0_2 from IsS133.q0 HI0.out)) : g ≠ gb317)) ((by rw [hg]; exact Nat.ne_of_gt (IsS133.lt (show IsS133 w0 _ g s0_0 s0_1 s0_2 from IsS133.q0 HI0.out)) : gb317 ≠ g)); clear HI0 HK HB; obtain ⟨HI0, HK, HB, BK317, GW317, GE317, NB0_317, NB317_0⟩ := n_; clear hb hbox hg) | ((with_reducible refine gate_callee (f := 117) rfl ?_); refine goesL_ (some 5) rfl rfl Try.func117 (by kernel_rfl) rfl #[.pointer (some ⟨g, 0, none⟩)] rfl ga ?_; (with_reducible refine (spec_l7Draw.calls g s0_0 s0_1 s0_2 t318 t319 t320 t321 t322 t323 t324 w0 _ ?side1 ?side2 A2.out).mono ?_); (case side1 => exact IsS133.q1 HI0.out NB0_317.out); (case side2 => exact bq2 HB.out (IsS133.ge HI0.out) GE317.out); rintro e w55 ⟨rfl, hi, hb, hk⟩; refine ⟨_, rfl, ?_⟩; have n_ := ak4 (KeepBut.blk hk (g' := gb317) (o := .cells #[.int .i64 0, .int .i64 0, .int .i64 0, .int .i64 0, .int .i64 0] 47 (0, 0)) (zq BK317.out) NB317_0.out (by simp)) (KeepBut.trans (kp1 HK.out GW317.out) hk (.inl rfl)) hb hi; clear BK317 HK HB HI0; obtain ⟨BK317, HK, HB, HI0⟩ := n_; (try clear hb hk hi)) | ((with_reducible refine gate_dst (N := 3) rfl ?_); refine box_event ?hg (N := 3) ?hd (cs := #[.int .i64 0, .int .i64 0, .int .i64 0, .int .i64 0, .int .i64 0]) (t := 47) ?hr ?_; (case hd => rfl); (case hg => rfl); (case hr => exact gs); intro gb325 hg w56 hbox hb; have n_ := ak11 (IsS133.below (IsS133.q1 HI0.out NB0_317.out) hb) (blk_below (g := gb317) (o := .cells #[.int .i64 0, .int .i64 0, .int .i64 0, .int .i64 0, .int .i64 0] 47 (0, 0)) (zq BK317.out) hb) (KeepBut.trans (kp1 HK.out GW317.out) (KeepBut.of_below hb g none) (.inl rfl)) (below_step (bq2 HB.out (IsS133.ge HI0.out) GE317.out) hb) hbox ((by rw [hg]; exact (keep_size (w := w) (g := g) (row := none) (kp1 HK.out GW317.out)) : w.heap.size ≤ gb325)) ((Nat.le_trans HW0.out (by rw [hg]; exact (keep_size (w := w) (g := g) (row := none) (kp1 HK.out GW317.out)) : w.heap.size ≤ gb325) : w0.heap.size ≤ gb325)) ((by rw [hg]; exact Nat.ne_of_lt (blk_lt (g := gb317) (o := .cells #[.int .i64 0, .int .i64 0, .int .i64 0, .int .i64 0, .int .i64 0] 47 (0, 0)) (zq BK317.out)) : gb317 ≠ gb325)) ((by rw [hg]; exact Nat.ne_of_gt (blk_lt (g := gb317) (o := .cells #[.int .i64 0, .int .i64 0, .int .i64 0, .int .i64 0, .int .i64 0] 47 (0, 0)) (zq BK317.out)) : gb325 ≠ gb317)) ((by rw [hg]; exact Nat.ne_of_lt (IsS133.lt (show IsS133 w0 _ g s0_0 t323 t324 from IsS133.q1 HI0.out NB0_317.out)) : g ≠ gb325)) ((by rw [hg]; exact Nat.ne_of_gt (IsS133.lt (show IsS133 w0 _ g s0_0 t323 t324 from IsS133.q1 HI0.out NB0_317.out)) : gb325 ≠ g)); clear HI0 BK317 HK HB; obtain ⟨HI0, BK317, HK, HB, BK325, GW325, GE325, NB317_325, NB325_317, NB0_325, NB325_0⟩ := n_; clear hb hbox hg; have hnb57 := NB325_317.out; have hnc57 := NB317_325.out; have hnb58 := NB325_0.out; have hnc58 := NB0_325.out; have hcz59_0 : w56.cell? ⟨gb325, 0, none⟩ = some (.int .i64 0) := (blk_cell BK325.out 0).trans rfl; have hcz59_1 : w56.cell? ⟨gb325, 1, none⟩ = some (.int .i64 0) := (blk_cell BK325.out 1).trans rfl; have hcz59_2 : w56.cell? ⟨gb325, 2, none⟩ = some (.int .i64 0) := (blk_cell BK325.out 2).trans rfl; have hcz59_3 : w56.cell? ⟨gb325, 3, none⟩ = some (.int .i64 0) := (blk_cell BK325.out 3).trans rfl; have hcz59_4 : w56.cell? ⟨gb325, 4, none⟩ = some (.int .i64 0) := (blk_cell BK325.out 4).trans rfl; have hfz59_0 := blk_frozen BK325.out 0; have hfz59_1 := blk_frozen BK325.out 1; have hfz59_2 := blk_frozen BK325.out 2; have hfz59_3 := blk_frozen BK325.out 3; have hfz59_4 := blk_frozen BK325.out 4) | ((with_reducible refine gate_callee (f := 86) rfl ?_); refine goesL_ (some 7) rfl rfl Try.func86 (by kernel_rfl) rfl #[.pointer (some ⟨g, 0, none⟩), .int .i64 12] rfl ga ?_; (with_reducible refine (spec_l1Below.calls g s0_0 t323 t324 12 t326 t327 t328 w0 _ ?side1 ?side2 A3.out).mono ?_); (case side1 => exact IsS133.q2 HI0.out NB0_317.out NB0_325.out); (case side2 => exact bq3 HB.out (IsS133.ge HI0.out) GE317.out GE325.out); rintro e w60 ⟨rfl, hi, hb, hk⟩; refine ⟨_, rfl, ?_⟩; have n_ := ak5 (KeepBut.blk hk (g' := gb317) (o := .cells #[.int .i64 0, .int .i64 0, .int .i64 0, .int .i64 0, .int .i64 0] 47 (0, 0)) (by (with_reducible repeat (first | refine blk_drewN ?_ _ | refine blk_drew ?_ | refine blk_alloc ?_ _)); refine blk_far ?_ NB317_325.out _; (with_reducible repeat (first | refine blk_drewN ?_ _ | refine blk_drew ?_ | refine blk_alloc ?_ _)); refine blk_far ?_ NB317_325.out _; (with_reducible repeat (first | refine blk_drewN ?_ _ | refine blk_drew ?_ | refine blk_alloc ?_ _)); refine blk_far ?_ NB317_325.out _; (with_reducible repeat (first | refine blk_drewN ?_ _ | refine blk_drew ?_ | refine blk_alloc ?_ _)); refine blk_far ?_ NB317_325.out _; (with_reducible repeat (first | refine blk_drewN ?_ _ | refine blk_drew ?_ | refine blk_alloc ?_ _)); refine blk_far ?_ NB317_325.out _; (with_reducible repeat (first | refine blk_drewN ?_ _ | refine blk_drew ?_ | refine blk_alloc ?_ _)); exact BK317.out) NB317_0.out (by simp)) (KeepBut.blk hk (g' := gb325) (o := .cells #[.int .i64 t318, .int .i64 t319, .int .i64 t320, .int .i64 t321, .int .i64 t322] 47 (0, 0)) (by (with_reducible repeat (first | refine blk_drewN ?_ _ | refine blk_drew ?_ | refine blk_alloc ?_ _)); refine blk_put (cs := #[.int .i64 t318, .int .i64 t319, .int .i64 t320, .int .i64 t321, .int .i64 0]) ?_ 4 _ rfl; (with_reducible repeat (first | refine blk_drewN ?_ _ | refine blk_drew ?_ | refine blk_alloc ?_ _)); refine blk_put (cs := #[.int .i64 t318, .int .i64 t319, .int .i64 t320, .int .i64 0, .int .i64 0]) ?_ 3 _ rfl; (with_reducible repeat (first | refine blk_drewN ?_ _ | refine blk_drew ?_ | refine blk_alloc ?_ _)); refine blk_put (cs := #[.int .i64 t318, .int .i64 t319, .int .i64 0, .int .i64 0, .int .i64 0]) ?_ 2 _ rfl; (with_reducible repeat (first | refine blk_drewN ?_ _ | refine blk_drew ?_ | refine blk_alloc ?_ _)); refine blk_put (cs := #[.int .i64 t318, .int .i64 0, .int .i64 0, .int .i64 0, .int .i64 0]) ?_ 1 _ rfl; (with_reducible repeat (first | refine blk_drewN ?_ _ | refine blk_drew ?_ | refine blk_alloc ?_ _)); refine blk_put (cs := #[.int .i64 0, .int .i64 0, .int .i64 0, .int .i64 0, .int .i64 0]) ?_ 0 _ rfl; (with_reducible repeat (first | refine blk_drewN ?_ _ | refine blk_drew ?_ | refine blk_alloc ?_ _)); exact BK325.out) NB325_0.out (by simp)) (KeepBut.trans (kp2 HK.out GW317.out GW325.out) hk (.inl rfl)) hb hi; clear BK317 BK325 HK HB HI0; obtain ⟨BK317, BK325, HK, HB, HI0⟩ := n_; (try clear hb hk hi)) | ((with_reducible refine gate_dst (N := 29) rfl ?_); refine Kd.R_lit (Kd.int .i64) _ 3 ?hg (N := 29) ?hd (xs := ([(-1), 7, 8] : List Int)) (inner := [.int .i64 (-1), .int .i64 7, .int .i64 8]) (ok := fun _ => True) (okp := fun _ => True) ?hr ?hp (fun _ hk => hk) trivial (Below.refl _ _) (Nat.le_refl _) (by simp) ?_; (case hd => rfl); (case hg => rfl); (case hr => exact gs); (case hp => exact (Reps.one (show Kd.M (Kd.int .i64) _ _ _ (-1) [.int .i64 (-1)] from rfl) (Reps.one (show Kd.M (Kd.int .i64) _ _ _ 7 [.int .i64 7] from rfl) (Reps.one (show Kd.M (Kd.int .i64) _ _ _ 8 [.int .i64 8] from rfl) (Reps.none _ _))))); intro v348 w61 ho62 hb hg_ hnew_; clear hg_ hnew_; (first | rw [← Ny347.out] at ho62 | (simp only [Int.reduceToNat] at ho62; rw [← Ny347.out] at ho62)); have n_ := ak6 (Kd.R_lower ho62 (keep_size (w := w) (g := g) (row := none) (kp2 HK.out GW317.out GW325.out))) (IsS133.below (IsS133.q2 HI0.out NB0_317.out NB0_325.out) hb) (blk_below (g := gb317) (o := .cells #[.int .i64 0, .int .i64 0, .int .i64 0, .int .i64 0, .int .i64 0] 47 (0, 0)) (zq BK317.out) hb) (blk_below (g := gb325) (o := .cells #[.int .i64 t318, .int .i64 t319, .int .i64 t320, .int .i64 t321, .int .i64 t322] 47 (0, 0)) (zq BK325.out) hb) (KeepBut.trans (kp2 HK.out GW317.out GW325.out) (KeepBut.of_below hb g none) (.inl rfl)) (below_step (bq3 HB.out (IsS133.ge HI0.out) GE317.out GE325.out) hb); clear HI0 BK317 BK325 HK HB; obtain ⟨HO349, HI0, BK317, BK325, HK, HB⟩ := n_; clear hb ho62; obtain ⟨Ao63, co63, eo63⟩ := Kd.R_slice HO349.out; subst eo63) | ((with_reducible refine gate_callee (f := 110) rfl ?_); refine goesL_ (some 30) rfl rfl Try.func110 (by kernel_rfl) rfl #[.pointer (some ⟨g, 0, none⟩), .slice Ao63 y347.length co63] rfl ga ?_; (with_reducible refine (spec_l1Int.calls g s0_0 t327 t328 _ _ y347 t350 t351 t352 w0 _ ?side1 ?side2 ?side3 ?side4 ?side5 A53.out).mono ?_); (case side1 => exact IsS133.q2 HI0.out NB0_317.out NB0_325.out); (case side2 => exact bq3 HB.out (IsS133.ge HI0.out) GE317.out GE325.out); (case side3 => repeat (first | exact (Kd.R_reads' HO349.out).2.2 | (with_reducible refine Kd.C_alloc ?_ _) | (with_reducible refine Kd.C_drewN ?_ _) | (with_reducible refine Kd.C_drew ?_))); (case side4 => exact (Kd.R_reads' HO349.out).2.1); (case side5 => exact far_slice (IsS133.own_ne HI0.out HO349.out (by decide))); rintro e w64 ⟨rfl, hi, hb, hk⟩; refine ⟨_, rfl, ?_⟩; have n_ := ak6 (KeepBut.blk hk (g' := gb317) (o := .cells #[.int .i64 0, .int .i64 0, .int .i64 0, .int .i64 0, .int .i64 0] 47 (0, 0)) (zq BK317.out) NB317_0.out (by simp)) (KeepBut.blk hk (g' := gb325) (o := .cells #[.int .i64 t318, .int .i64 t319, .int .i64 t320, .int .i64 t321, .int .i64 t322] 47 (0, 0)) (zq BK325.out) NB325_0.out (by simp)) (Kd.R_mono (Kd.R_keep (IsS133.apart (show IsS133 w0 _ g s0_0 t327 t328 from IsS133.q2 HI0.out NB0_317.out NB0_325.out) (kqR HO349.out) (by decide)) hk (fun _ h => h.2)) (fun _ h => h.1)) (KeepBut.trans (kp2 HK.out GW317.out GW325.out) hk (.inl rfl)) hb hi; clear BK317 BK325 HO349 HK HB HI0; obtain ⟨BK317, BK325, HO349, HK, HB, HI0⟩ := n_; (try clear hb hk hi); have hcz65_0 : w64.cell? ⟨gb325, 0, none⟩ = some (.int .i64 t318) := (blk_cell BK325.out 0).trans rfl; have hcz65_1 : w64.cell? ⟨gb325, 1, none⟩ = some (.int .i64 t319) := (blk_cell BK325.out 1).trans rfl; have hcz65_2 : w64.cell? ⟨gb325, 2, none⟩ = some (.int .i64 t320) := (blk_cell BK325.out 2).trans rfl; have hcz65_3 : w64.cell? ⟨gb325, 3, none⟩ = some (.int .i64 t321) := (blk_cell BK325.out 3).trans rfl; have hcz65_4 : w64.cell? ⟨gb325, 4, none⟩ = some (.int .i64 t322) := (blk_cell BK325.out 4).trans rfl; have hfz65_0 := blk_frozen BK325.out 0; have hfz65_1 := blk_frozen BK325.out 1; have hfz65_2 := blk_frozen BK325.out 2; have hfz65_3 := blk_frozen BK325.out 3; have hfz65_4 := blk_frozen BK325.out 4; have hnb66 := NB317_0.out; have hnc66 := NB0_317.out; have hcz67_0 : w64.cell? ⟨gb317, 0, none⟩ = some (.int .i64 0) := (blk_cell BK317.out 0).trans rfl; have hcz67_1 : w64.cell? ⟨gb317, 1, none⟩ = some (.int .i64 0) := (blk_cell BK317.out 1).trans rfl; have hcz67_2 : w64.cell? ⟨gb317, 2, none⟩ = some (.int .i64 0) := (blk_cell BK317.out 2).trans rfl; have hcz67_3 : w64.cell? ⟨gb317, 3, none⟩ = some (.int .i64 0) := (blk_cell BK317.out 3).trans rfl; have hcz67_4 : w64.cell? ⟨gb317, 4, none⟩ = some (.int .i64 0) := (blk_cell BK317.out 4).trans rfl; have hfz67_0 := blk_frozen BK317.out 0; have hfz67_1 := blk_frozen BK317.out 1; have hfz67_2 := blk_frozen BK317.out 2; have hfz67_3 := blk_frozen BK317.out 3; have hfz67_4 := blk_frozen BK317.out 4))
   refine bodyPost_ret (results_cell_row rfl _ _ gb317 47 #[.int .i64 t318, .int .i64 t319, .int .i64 t320, .int .i64 t321, .int .i64 t350] (0, 0) _ rfl (by (with_reducible repeat (first | refine blk_drewN ?_ _ | refine blk_drew ?_ | refine blk_alloc ?_ _)); refine blk_put (cs := #[.int .i64 t318, .int .i64 t319, .int .i64 t320, .int .i64 t321, .int .i64 0]) ?_ 4 _ rfl; (with_reducible repeat (first | refine blk_drewN ?_ _ | refine blk_drew ?_ | refine blk_alloc ?_ _)); refine blk_put (cs := #[.int .i64 t318, .int .i64 t319, .int .i64 t320, .int .i64 0, .int .i64 0]) ?_ 3 _ rfl; (with_reducible repeat (first | refine blk_drewN ?_ _ | refine blk_drew ?_ | refine blk_alloc ?_ _)); refine blk_put (cs := #[.int .i64 t318, .int .i64 t319, .int .i64 0, .int .i64 0, .int .i64 0]) ?_ 2 _ rfl; (with_reducible repeat (first | refine blk_drewN ?_ _ | refine blk_drew ?_ | refine blk_alloc ?_ _)); refine blk_put (cs := #[.int .i64 t318, .int .i64 0, .int .i64 0, .int .i64 0, .int .i64 0]) ?_ 1 _ rfl; (with_reducible repeat (first | refine blk_drewN ?_ _ | refine blk_drew ?_ | refine blk_alloc ?_ _)); refine blk_put (cs := #[.int .i64 0, .int .i64 0, .int .i64 0, .int .i64 0, .int .i64 0]) ?_ 0 _ rfl; (with_reducible repeat (first | refine blk_drewN ?_ _ | refine blk_drew ?_ | refine blk_alloc ?_ _)); refine blk_far ?_ NB317_325.out _; (with_reducible repeat (first | refine blk_drewN ?_ _ | refine blk_drew ?_ | refine blk_alloc ?_ _)); exact BK317.out) Try.underlying47 rfl (by kernel_rfl)) rfl ?_
   exact ⟨rq, IsS133.q2 HI0.out NB0_317.out NB0_325.out, bq3 HB.out (IsS133.ge HI0.out) GE317.out GE325.out, kp2 HK.out GW317.out GW325.out⟩
 rw [if_neg c52] at H
 have c52b0 : (t326 == 3) = false := beq_eq_false_iff_ne.mpr c52
 have c52b1 : (t326 != 3) = true := bne_iff_ne.mpr c52
 simp only [Option.some.injEq, Prod.mk.injEq] at H
 obtain ⟨rfl, rfl, rfl, rfl, rfl, rfl, rfl⟩ := H
 go_enter Try.func113, Try.ntmps113
 go_wp2_with (first | ((with_reducible refine gate_dst (N := 2) rfl ?_); refine box_event ?hg (N := 2) ?hd (cs := #[.int .i64 0, .int .i64 0, .int .i64 0, .int .i64 0, .int .i64 0]) (t := 47) ?hr ?_; (case hd => rfl); (case hg => rfl); (case hr => exact gs); intro gb317 hg w68 hbox hb; have n_ := ak8 (IsS133.below (IsS133.q0 HI0.out) hb) (KeepBut.trans (kp0 HK.out) (KeepBut.of_below hb g none) (.inl rfl)) (below_step (bq1 HB.out (IsS133.ge HI0.out)) hb) hbox ((by rw [hg]; exact (keep_size (w := w) (g := g) (row := none) (kp0 HK.out)) : w.heap.size ≤ gb317)) ((Nat.le_trans HW0.out (by rw [hg]; exact (keep_size (w := w) (g := g) (row := none) (kp0 HK.out)) : w.heap.size ≤ gb317) : w0.heap.size ≤ gb317)) ((by rw [hg]; exact Nat.ne_of_lt (IsS133.lt (show IsS133 w0 _ g s0_0 s0_1 s0_2 from IsS133.q0 HI0.out)) : g ≠ gb317)) ((by rw [hg]; exact Nat.ne_of_gt (IsS133.lt (show IsS133 w0 _ g s0_0 s0_1 s0_2 from IsS133.q0 HI0.out)) : gb317 ≠ g)); clear HI0 HK HB; obtain ⟨HI0, HK, HB, BK317, GW317, GE317, NB0_317, NB317_0⟩ := n_; clear hb hbox hg) | ((with_reducible refine gate_callee (f := 117) rfl ?_); refine goesL_ (some 5) rfl rfl Try.func117 (by kernel_rfl) rfl #[.pointer (some ⟨g, 0, none⟩)] rfl ga ?_; (with_reducible refine (spec_l7Draw.calls g s0_0 s0_1 s0_2 t318 t319 t320 t321 t322 t323 t324 w0 _ ?side1 ?side2 A2.out).mono ?_); (case side1 => exact IsS133.q1 HI0.out NB0_317.out); (case side2 => exact bq2 HB.out (IsS133.ge HI0.out) GE317.out); rintro e w69 ⟨rfl, hi, hb, hk⟩; refine ⟨_, rfl, ?_⟩; have n_ := ak4 (KeepBut.blk hk (g' := gb317) (o := .cells #[.int .i64 0, .int .i64 0, .int .i64 0, .int .i64 0, .int .i64 0] 47 (0, 0)) (zq BK317.out) NB317_0.out (by simp)) (KeepBut.trans (kp1 HK.out GW317.out) hk (.inl rfl)) hb hi; clear BK317 HK HB HI0; obtain ⟨BK317, HK, HB, HI0⟩ := n_; (try clear hb hk hi)) | ((with_reducible refine gate_dst (N := 3) rfl ?_); refine box_event ?hg (N := 3) ?hd (cs := #[.int .i64 0, .int .i64 0, .int .i64 0, .int .i64 0, .int .i64 0]) (t := 47) ?hr ?_; (case hd => rfl); (case hg => rfl); (case hr => exact gs); intro gb325 hg w70 hbox hb; have n_ := ak11 (IsS133.below (IsS133.q1 HI0.out NB0_317.out) hb) (blk_below (g := gb317) (o := .cells #[.int .i64 0, .int .i64 0, .int .i64 0, .int .i64 0, .int .i64 0] 47 (0, 0)) (zq BK317.out) hb) (KeepBut.trans (kp1 HK.out GW317.out) (KeepBut.of_below hb g none) (.inl rfl)) (below_step (bq2 HB.out (IsS133.ge HI0.out) GE317.out) hb) hbox ((by rw [hg]; exact (keep_size (w := w) (g := g) (row := none) (kp1 HK.out GW317.out)) : w.heap.size ≤ gb325)) ((Nat.le_trans HW0.out (by rw [hg]; exact (keep_size (w := w) (g := g) (row := none) (kp1 HK.out GW317.out)) : w.heap.size ≤ gb325) : w0.heap.size ≤ gb325)) ((by rw [hg]; exact Nat.ne_of_lt (blk_lt (g := gb317) (o := .cells #[.int .i64 0, .int .i64 0, .int .i64 0, .int .i64 0, .int .i64 0] 47 (0, 0)) (zq BK317.out)) : gb317 ≠ gb325)) ((by rw [hg]; exact Nat.ne_of_gt (blk_lt (g := gb317) (o := .cells #[.int .i64 0, .int .i64 0, .int .i64 0, .int .i64 0, .int .i64 0] 47 (0, 0)) (zq BK317.out)) : gb325 ≠ gb317)) ((by rw [hg]; exact Nat.ne_of_lt (IsS133.lt (show IsS133 w0 _ g s0_0 t323 t324 from IsS133.q1 HI0.out NB0_317.out)) : g ≠ gb325)) ((by rw [hg]; exact Nat.ne_of_gt (IsS133.lt (show IsS133 w0 _ g s0_0 t323 t324 from IsS133.q1 HI0.out NB0_317.out)) : gb325 ≠ g)); clear HI0 BK317 HK HB; obtain ⟨HI0, BK317, HK, HB, BK325, GW325, GE325, NB317_325, NB325_317, NB0_325, NB325_0⟩ := n_; clear hb hbox hg; have hnb71 := NB325_317.out; have hnc71 := NB317_325.out; have hnb72 := NB325_0.out; have hnc72 := NB0_325.out; have hcz73_0 : w70.cell? ⟨gb325, 0, none⟩ = some (.int .i64 0) := (blk_cell BK325.out 0).trans rfl; have hcz73_1 : w70.cell? ⟨gb325, 1, none⟩ = some (.int .i64 0) := (blk_cell BK325.out 1).trans rfl; have hcz73_2 : w70.cell? ⟨gb325, 2, none⟩ = some (.int .i64 0) := (blk_cell BK325.out 2).trans rfl; have hcz73_3 : w70.cell? ⟨gb325, 3, none⟩ = some (.int .i64 0) := (blk_cell BK325.out 3).trans rfl; have hcz73_4 : w70.cell? ⟨gb325, 4, none⟩ = some (.int .i64 0) := (blk_cell BK325.out 4).trans rfl; have hfz73_0 := blk_frozen BK325.out 0; have hfz73_1 := blk_frozen BK325.out 1; have hfz73_2 := blk_frozen BK325.out 2; have hfz73_3 := blk_frozen BK325.out 3; have hfz73_4 := blk_frozen BK325.out 4) | ((with_reducible refine gate_callee (f := 86) rfl ?_); refine goesL_ (some 7) rfl rfl Try.func86 (by kernel_rfl) rfl #[.pointer (some ⟨g, 0, none⟩), .int .i64 12] rfl ga ?_; (with_reducible refine (spec_l1Below.calls g s0_0 t323 t324 12 t326 t327 t328 w0 _ ?side1 ?side2 A3.out).mono ?_); (case side1 => exact IsS133.q2 HI0.out NB0_317.out NB0_325.out); (case side2 => exact bq3 HB.out (IsS133.ge HI0.out) GE317.out GE325.out); rintro e w74 ⟨rfl, hi, hb, hk⟩; refine ⟨_, rfl, ?_⟩; have n_ := ak5 (KeepBut.blk hk (g' := gb317) (o := .cells #[.int .i64 0, .int .i64 0, .int .i64 0, .int .i64 0, .int .i64 0] 47 (0, 0)) (by (with_reducible repeat (first | refine blk_drewN ?_ _ | refine blk_drew ?_ | refine blk_alloc ?_ _)); refine blk_far ?_ NB317_325.out _; (with_reducible repeat (first | refine blk_drewN ?_ _ | refine blk_drew ?_ | refine blk_alloc ?_ _)); refine blk_far ?_ NB317_325.out _; (with_reducible repeat (first | refine blk_drewN ?_ _ | refine blk_drew ?_ | refine blk_alloc ?_ _)); refine blk_far ?_ NB317_325.out _; (with_reducible repeat (first | refine blk_drewN ?_ _ | refine blk_drew ?_ | refine blk_alloc ?_ _)); refine blk_far ?_ NB317_325.out _; (with_reducible repeat (first | refine blk_drewN ?_ _ | refine blk_drew ?_ | refine blk_alloc ?_ _)); refine blk_far ?_ NB317_325.out _; (with_reducible repeat (first | refine blk_drewN ?_ _ | refine blk_drew ?_ | refine blk_alloc ?_ _)); exact BK317.out) NB317_0.out (by simp)) (KeepBut.blk hk (g' := gb325) (o := .cells #[.int .i64 t318, .int .i64 t319, .int .i64 t320, .int .i64 t321, .int .i64 t322] 47 (0, 0)) (by (with_reducible repeat (first | refine blk_drewN ?_ _ | refine blk_drew ?_ | refine blk_alloc ?_ _)); refine blk_put (cs := #[.int .i64 t318, .int .i64 t319, .int .i64 t320, .int .i64 t321, .int .i64 0]) ?_ 4 _ rfl; (with_reducible repeat (first | refine blk_drewN ?_ _ | refine blk_drew ?_ | refine blk_alloc ?_ _)); refine blk_put (cs := #[.int .i64 t318, .int .i64 t319, .int .i64 t320, .int .i64 0, .int .i64 0]) ?_ 3 _ rfl; (with_reducible repeat (first | refine blk_drewN ?_ _ | refine blk_drew ?_ | refine blk_alloc ?_ _)); refine blk_put (cs := #[.int .i64 t318, .int .i64 t319, .int .i64 0, .int .i64 0, .int .i64 0]) ?_ 2 _ rfl; (with_reducible repeat (first | refine blk_drewN ?_ _ | refine blk_drew ?_ | refine blk_alloc ?_ _)); refine blk_put (cs := #[.int .i64 t318, .int .i64 0, .int .i64 0, .int .i64 0, .int .i64 0]) ?_ 1 _ rfl; (with_reducible repeat (first | refine blk_drewN ?_ _ | refine blk_drew ?_ | refine blk_alloc ?_ _)); refine blk_put (cs := #[.int .i64 0, .int .i64 0, .int .i64 0, .int .i64 0, .int .i64 0]) ?_ 0 _ rfl; (with_reducible repeat (first | refine blk_drewN ?_ _ | refine blk_drew ?_ | refine blk_alloc ?_ _)); exact BK325.out) NB325_0.out (by simp)) (KeepBut.trans (kp2 HK.out GW317.out GW325.out) hk (.inl rfl)) hb hi; clear BK317 BK325 HK HB HI0; obtain ⟨BK317, BK325, HK, HB, HI0⟩ := n_; (try clear hb hk hi); have hcz75_0 : w74.cell? ⟨gb325, 0, none⟩ = some (.int .i64 t318) := (blk_cell BK325.out 0).trans rfl; have hcz75_1 : w74.cell? ⟨gb325, 1, none⟩ = some (.int .i64 t319) := (blk_cell BK325.out 1).trans rfl; have hcz75_2 : w74.cell? ⟨gb325, 2, none⟩ = some (.int .i64 t320) := (blk_cell BK325.out 2).trans rfl; have hcz75_3 : w74.cell? ⟨gb325, 3, none⟩ = some (.int .i64 t321) := (blk_cell BK325.out 3).trans rfl; have hcz75_4 : w74.cell? ⟨gb325, 4, none⟩ = some (.int .i64 t322) := (blk_cell BK325.out 4).trans rfl; have hfz75_0 := blk_frozen BK325.out 0; have hfz75_1 := blk_frozen BK325.out 1; have hfz75_2 := blk_frozen BK325.out 2; have hfz75_3 := blk_frozen BK325.out 3; have hfz75_4 := blk_frozen BK325.out 4; have hnb76 := NB317_0.out; have hnc76 := NB0_317.out; have hcz77_0 : w74.cell? ⟨gb317, 0, none⟩ = some (.int .i64 0) := (blk_cell BK317.out 0).trans rfl; have hcz77_1 : w74.cell? ⟨gb317, 1, none⟩ = some (.int .i64 0) := (blk_cell BK317.out 1).trans rfl; have hcz77_2 : w74.cell? ⟨gb317, 2, none⟩ = some (.int .i64 0) := (blk_cell BK317.out 2).trans rfl; have hcz77_3 : w74.cell? ⟨gb317, 3, none⟩ = some (.int .i64 0) := (blk_cell BK317.out 3).trans rfl; have hcz77_4 : w74.cell? ⟨gb317, 4, none⟩ = some (.int .i64 0) := (blk_cell BK317.out 4).trans rfl; have hfz77_0 := blk_frozen BK317.out 0; have hfz77_1 := blk_frozen BK317.out 1; have hfz77_2 := blk_frozen BK317.out 2; have hfz77_3 := blk_frozen BK317.out 3; have hfz77_4 := blk_frozen BK317.out 4))
 refine bodyPost_ret (results_cell_row rfl _ _ gb317 47 #[.int .i64 t318, .int .i64 t319, .int .i64 t320, .int .i64 t321, .int .i64 t322] (0, 0) _ rfl (by (with_reducible repeat (first | refine blk_drewN ?_ _ | refine blk_drew ?_ | refine blk_alloc ?_ _)); refine blk_put (cs := #[.int .i64 t318, .int .i64 t319, .int .i64 t320, .int .i64 t321, .int .i64 0]) ?_ 4 _ rfl; (with_reducible repeat (first | refine blk_drewN ?_ _ | refine blk_drew ?_ | refine blk_alloc ?_ _)); refine blk_put (cs := #[.int .i64 t318, .int .i64 t319, .int .i64 t320, .int .i64 0, .int .i64 0]) ?_ 3 _ rfl; (with_reducible repeat (first | refine blk_drewN ?_ _ | refine blk_drew ?_ | refine blk_alloc ?_ _)); refine blk_put (cs := #[.int .i64 t318, .int .i64 t319, .int .i64 0, .int .i64 0, .int .i64 0]) ?_ 2 _ rfl; (with_reducible repeat (first | refine blk_drewN ?_ _ | refine blk_drew ?_ | refine blk_alloc ?_ _)); refine blk_put (cs := #[.int .i64 t318, .int .i64 0, .int .i64 0, .int .i64 0, .int .i64 0]) ?_ 1 _ rfl; (with_reducible repeat (first | refine blk_drewN ?_ _ | refine blk_drew ?_ | refine blk_alloc ?_ _)); refine blk_put (cs := #[.int .i64 0, .int .i64 0, .int .i64 0, .int .i64 0, .int .i64 0]) ?_ 0 _ rfl; (with_reducible repeat (first | refine blk_drewN ?_ _ | refine blk_drew ?_ | refine blk_alloc ?_ _)); exact BK317.out) Try.underlying47 rfl (by kernel_rfl)) rfl ?_
 exact ⟨rq, IsS133.q2 HI0.out NB0_317.out NB0_325.out, bq3 HB.out (IsS133.ge HI0.out) GE317.out GE325.out, kp2 HK.out GW317.out GW325.out⟩

/-! ### spec_DrawPutVec: function 62 -/
def spec_DrawPutVec.f (k : Nat) (l0 : List Int) : Option (Int × Int × Int × Int × Int) := (spec_l1New.f k l0).bind fun bt354 => ((spec_l7Any.f bt354.1 bt354.2.1 bt354.2.2).bind fun bt358 => (some (bt358.1, bt358.2.1, bt358.2.2.1, bt358.2.2.2.1, bt358.2.2.2.2.1)))
theorem spec_DrawPutVec.mono : ∀ a0 k, LeO (spec_DrawPutVec.f k a0) (spec_DrawPutVec.f (k + 1) a0) := by
 intro a0 k
 unfold spec_DrawPutVec.f
 repeat' first
  | (with_reducible exact spec_l1New.mono _ _)
  | (with_reducible exact LeO.refl _)
  | (with_reducible exact LeO.none _)
  | (with_reducible refine LeO.ite ?_ ?_)
  | (with_reducible refine LeO.bind ?_ (fun _ => ?_))
  | exact spec_l1New.mono _ _
  | exact LeO.none _
  | refine LeO.ite ?_ ?_
  | refine LeO.bind ?_ (fun _ => ?_)
set_option maxHeartbeats 8000000 in
set_option maxRecDepth 100000 in
theorem spec_DrawPutVec.calls (k : Nat) (A0 : Option Addr) (c0 : Nat) (l0 : List Int) (r1 : Int) (r2 : Int) (r3 : Int) (r4 : Int) (r5 : Int) (w : World) (hr0 : Kd.C (Kd.int .u8) w A0 l0.length l0) (hc0 : l0.length ≤ c0) (h : spec_DrawPutVec.f k l0 = some (r1, r2, r3, r4, r5)) :
 Calls Try.prog 62 #[.slice A0 l0.length c0] w fun e w' => e = .returned (.agg #[.int .i64 r1, .int .i64 r2, .int .i64 r3, .int .i64 r4, .int .i64 r5]) ∧ Below w.heap.size w w' := by
 have hu47 := Try.underlying47
 have HR0 := am hr0
 have HC0 := am hc0
 clear hr0 hc0
 have HB := am (Below.refl w.heap.size w)
 have H : ((spec_l1New.f k l0).bind fun bt354 => ((spec_l7Any.f bt354.1 bt354.2.1 bt354.2.2).bind fun bt358 => (some (bt358.1, bt358.2.1, bt358.2.2.1, bt358.2.2.2.1, bt358.2.2.2.2.1)))) = some (r1, r2, r3, r4, r5) := h
 clear h
 replace H := Option.bind_eq_some_iff.mp H
 obtain ⟨⟨t354, t355, t356⟩, A20, H⟩ := H
 replace H : ((spec_l7Any.f t354 t355 t356).bind fun bt358 => (some (bt358.1, bt358.2.1, bt358.2.2.1, bt358.2.2.2.1, bt358.2.2.2.2.1))) = some (r1, r2, r3, r4, r5) := H
 have A2 := am A20
 clear A20
 replace H := Option.bind_eq_some_iff.mp H
 obtain ⟨⟨t358, t359, t360, t361, t362, t363, t364⟩, A30, H⟩ := H
 replace H : (some (t358, t359, t360, t361, t362)) = some (r1, r2, r3, r4, r5) := H
 have A3 := am A30
 clear A30
 simp only [Option.some.injEq, Prod.mk.injEq] at H
 obtain ⟨rfl, rfl, rfl, rfl, rfl⟩ := H
 go_enter Try.func62, Try.ntmps62
 go_wp2_with (first | ((with_reducible refine gate_dst (N := 2) rfl ?_); refine box_event ?hg (N := 2) ?hd (cs := #[.int .i64 0, .int .i64 0, .int .i64 0, .int .i64 0, .int .i64 0]) (t := 47) ?hr ?_; (case hd => rfl); (case hg => rfl); (case hr => exact gs); intro gb353 hg w4 hbox hb; have n_ := ak4 (below_step (bq HB.out) hb) hbox ((by rw [hg]; exact (below_size (bq HB.out)) : w.heap.size ≤ gb353)) ((by rw [hg]; exact (below_size (bq HB.out)) : w.heap.size ≤ gb353)); clear HB; obtain ⟨HB, BK353, GW353, GE353⟩ := n_; clear hb hbox hg) | ((with_reducible refine gate_callee (f := 84) rfl ?_); refine goesL_ (some 5) rfl rfl Try.func84 (by kernel_rfl) rfl #[.slice A0 l0.length c0] rfl ga ?_; (with_reducible refine (spec_l1New.calls k _ _ l0 t354 t355 t356 w _ ?side1 ?side2 ?side3 A2.out).mono ?_); (case side1 => exact bq1 HB.out GE353.out); (case side2 => exact HR0.out); (case side3 => exact HC0.out); rintro e w5 ⟨g357, rfl, hi, hb, hb2⟩; refine ⟨_, rfl, ?_⟩; have n_ := ak5 (blk_below (g := gb353) (o := .cells #[.int .i64 0, .int .i64 0, .int .i64 0, .int .i64 0, .int .i64 0] 47 (0, 0)) (zq BK353.out) hb2) hb hi (IsS133.ne_blk hi (blk_below (g := gb353) (o := .cells #[.int .i64 0, .int .i64 0, .int .i64 0, .int .i64 0, .int .i64 0] 47 (0, 0)) (zq BK353.out) hb2) (by decide)) (Ne.symm (IsS133.ne_blk hi (blk_below (g := gb353) (o := .cells #[.int .i64 0, .int .i64 0, .int .i64 0, .int .i64 0, .int .i64 0] 47 (0, 0)) (zq BK353.out) hb2) (by decide))); clear BK353 HB; obtain ⟨BK353, HB, HI357, NB357_353, NB353_357⟩ := n_; (try clear hb hb2 hi)) | ((with_reducible refine gate_callee (f := 113) rfl ?_); refine goesL_ (some 7) rfl rfl Try.func113 (by kernel_rfl) rfl #[.pointer (some ⟨g357, 0, none⟩)] rfl ga ?_; (with_reducible refine (spec_l7Any.calls g357 t354 t355 t356 t358 t359 t360 t361 t362 t363 t364 w _ ?side1 ?side2 A3.out).mono ?_); (case side1 => exact IsS133.q1 HI357.out NB357_353.out); (case side2 => exact bq2 HB.out (IsS133.ge HI357.out) GE353.out); rintro e w6 ⟨rfl, hi, hb, hk⟩; refine ⟨_, rfl, ?_⟩; have n_ := ak3 (KeepBut.blk hk (g' := gb353) (o := .cells #[.int .i64 0, .int .i64 0, .int .i64 0, .int .i64 0, .int .i64 0] 47 (0, 0)) (zq BK353.out) NB353_357.out (by simp)) hb hi; clear BK353 HB HI357; obtain ⟨BK353, HB, HI357⟩ := n_; (try clear hb hk hi); have hnb7 := NB353_357.out; have hnc7 := NB357_353.out; have hcz8_0 : w6.cell? ⟨gb353, 0, none⟩ = some (.int .i64 0) := (blk_cell BK353.out 0).trans rfl; have hcz8_1 : w6.cell? ⟨gb353, 1, none⟩ = some (.int .i64 0) := (blk_cell BK353.out 1).trans rfl; have hcz8_2 : w6.cell? ⟨gb353, 2, none⟩ = some (.int .i64 0) := (blk_cell BK353.out 2).trans rfl; have hcz8_3 : w6.cell? ⟨gb353, 3, none⟩ = some (.int .i64 0) := (blk_cell BK353.out 3).trans rfl; have hcz8_4 : w6.cell? ⟨gb353, 4, none⟩ = some (.int .i64 0) := (blk_cell BK353.out 4).trans rfl; have hfz8_0 := blk_frozen BK353.out 0; have hfz8_1 := blk_frozen BK353.out 1; have hfz8_2 := blk_frozen BK353.out 2; have hfz8_3 := blk_frozen BK353.out 3; have hfz8_4 := blk_frozen BK353.out 4) | ((with_reducible refine gate_store (t := 47) (p := 2) rfl ?_); refine store_event (t := 47) (p := 2) (v := ?vo_w9) (w1 := (((((w6.setCell ⟨gb353, 0, none⟩ (.int .i64 t358)).setCell ⟨gb353, 1, none⟩ (.int .i64 t359)).setCell ⟨gb353, 2, none⟩ (.int .i64 t360)).setCell ⟨gb353, 3, none⟩ (.int .i64 t361)).setCell ⟨gb353, 4, none⟩ (.int .i64 t362))) ?hg ?ho ?hn ?hr ?_; (case ho => rfl); (case hg => rfl); (case hn => rfl); (case hr => exact gs); intro w9 hw; have n0_ : Aside0 (w9.heap[gb353]? = some (.cells #[.int .i64 t358, .int .i64 t359, .int .i64 t360, .int .i64 t361, .int .i64 t362] 47 (0, 0))) := ⟨(by rw [hw]; exact (by (with_reducible repeat (first | refine blk_drewN ?_ _ | refine blk_drew ?_ | refine blk_alloc ?_ _)); refine blk_put (cs := #[.int .i64 t358, .int .i64 t359, .int .i64 t360, .int .i64 t361, .int .i64 0]) ?_ 4 _ rfl; (with_reducible repeat (first | refine blk_drewN ?_ _ | refine blk_drew ?_ | refine blk_alloc ?_ _)); refine blk_put (cs := #[.int .i64 t358, .int .i64 t359, .int .i64 t360, .int .i64 0, .int .i64 0]) ?_ 3 _ rfl; (with_reducible repeat (first | refine blk_drewN ?_ _ | refine blk_drew ?_ | refine blk_alloc ?_ _)); refine blk_put (cs := #[.int .i64 t358, .int .i64 t359, .int .i64 0, .int .i64 0, .int .i64 0]) ?_ 2 _ rfl; (with_reducible repeat (first | refine blk_drewN ?_ _ | refine blk_drew ?_ | refine blk_alloc ?_ _)); refine blk_put (cs := #[.int .i64 t358, .int .i64 0, .int .i64 0, .int .i64 0, .int .i64 0]) ?_ 1 _ rfl; (with_reducible repeat (first | refine blk_drewN ?_ _ | refine blk_drew ?_ | refine blk_alloc ?_ _)); refine blk_put (cs := #[.int .i64 0, .int .i64 0, .int .i64 0, .int .i64 0, .int .i64 0]) ?_ 0 _ rfl; (with_reducible repeat (first | refine blk_drewN ?_ _ | refine blk_drew ?_ | refine blk_alloc ?_ _)); exact BK353.out))⟩; have n1_ : Aside0 (IsS133 w w9 g357 t354 t363 t364) := ⟨(by rw [hw]; exact (IsS133.q1 HI357.out NB357_353.out))⟩; have n2_ : Aside0 (Below w.heap.size w w9) := ⟨(by rw [hw]; exact (bq2 HB.out (IsS133.ge HI357.out) GE353.out))⟩; clear hw; clear BK353; clear HI357; clear HB; have BK353 := n0_; have HI357 := n1_; have HB := n2_; clear n0_ n1_ n2_))
 refine bodyPost_ret (results_cell_row rfl _ _ gb353 47 #[.int .i64 t358, .int .i64 t359, .int .i64 t360, .int .i64 t361, .int .i64 t362] (0, 0) _ rfl (zq BK353.out) Try.underlying47 rfl (by kernel_rfl)) rfl ?_
 exact ⟨rq, bq2 HB.out (IsS133.ge HI357.out) GE353.out⟩

/-! ### impl_tlv: function 134 -/
def impl_tlv.j0 : Nat → Int → List Int → Bool → Option (List Int × Bool)
 | 0, _, _, _ => none
 | k + 1, x0, x1, x14 => if x14 = true then (some (([] : List Int), false)) else ((some (([(x0) % 256] : List Int) : List Int)).bind fun y366 => (if (x1.length : Int) ≥ 128 then (if y366.length < 140737488355328 then ((some (y366 ++ [129] : List Int)).bind fun y369 => (if y369.length < 140737488355328 then ((some (y369 ++ [((x1.length : Int)) % 256] : List Int)).bind fun y372 => (if y372.length + x1.length < 140737488355328 then (some ((y372 ++ x1), true)) else (none))) else (none))) else (none)) else (if y366.length < 140737488355328 then ((some (y366 ++ [((x1.length : Int)) % 256] : List Int)).bind fun y378 => (if y378.length + x1.length < 140737488355328 then (some ((y378 ++ x1), true)) else (none))) else (none))))
def impl_tlv.f (k : Nat) (a0 : Int) (l1 : List Int) : Option (List Int × Bool) := (impl_in.f a0 0 255).bind fun t365 => (if t365 = true then (impl_tlv.j0 k a0 l1 (decide ((l1.length : Int) > 250))) else (impl_tlv.j0 k a0 l1 true))
theorem impl_tlv.mono_l : ∀ k, (∀ y0 y1 y2, LeO (impl_tlv.j0 k y0 y1 y2) (impl_tlv.j0 (k + 1) y0 y1 y2))
 | 0 => fun _ _ _ r h => by simp [impl_tlv.j0] at h
 | k + 1 => by
  have ih0 := impl_tlv.mono_l k
  intro y0 y1 y2
  unfold impl_tlv.j0
  repeat' first
  | (with_reducible exact ih0 _ _ _)
  | (with_reducible exact LeO.refl _)
  | (with_reducible exact LeO.none _)
  | (with_reducible refine LeO.ite ?_ ?_)
  | (with_reducible refine LeO.bind ?_ (fun _ => ?_))
  | exact ih0 _ _ _
  | exact LeO.none _
  | refine LeO.ite ?_ ?_
  | refine LeO.bind ?_ (fun _ => ?_)
theorem impl_tlv.mono : ∀ a0 a1 k, LeO (impl_tlv.f k a0 a1) (impl_tlv.f (k + 1) a0 a1) := by
 intro a0 a1 k
 have ih0 := impl_tlv.mono_l k
 unfold impl_tlv.f
 repeat' first
  | (with_reducible exact ih0 _ _ _)
  | (with_reducible exact LeO.refl _)
  | (with_reducible exact LeO.none _)
  | (with_reducible refine LeO.ite ?_ ?_)
  | (with_reducible refine LeO.bind ?_ (fun _ => ?_))
  | exact ih0 _ _ _
  | exact LeO.none _
  | refine LeO.ite ?_ ?_
  | refine LeO.bind ?_ (fun _ => ?_)
set_option maxHeartbeats 8000000 in
set_option maxRecDepth 100000 in
theorem impl_tlv.calls (k : Nat) (a0 : Int) (A1 : Option Addr) (c1 : Nat) (l1 : List Int) (r1 : List Int) (r2 : Bool) (w : World) (hr1 : Kd.C (Kd.int .u8) w A1 l1.length l1) (hc1 : l1.length ≤ c1) (h : impl_tlv.f k a0 l1 = some (r1, r2)) :
 Calls Try.prog 134 #[.int .i64 a0, .slice A1 l1.length c1] w fun e w' => ∃ v0_ : Value, e = .returned (.tuple #[v0_, .bool r2]) ∧ Kd.R (Kd.int .u8) 5 w' w.heap.size (fun _ => True) v0_ r1 ∧ Below w.heap.size w w' := by
 have HR1 := am hr1
 have HC1 := am hc1
 clear hr1 hc1
 have HB := am (Below.refl w.heap.size w)
 have H : ((impl_in.f a0 0 255).bind fun t365 => (if t365 = true then (impl_tlv.j0 k a0 l1 (decide ((l1.length : Int) > 250))) else (impl_tlv.j0 k a0 l1 true))) = some (r1, r2) := h
 clear h
 have HC3 := am H
 clear H
 go_enter Try.func134, Try.ntmps134
 go_upto_region 1 with (fail)
 go_cut [14] (fun v14 wc => ∃ (kq : Nat) (x14_2 : Bool), v14 = .bool x14_2 ∧ Aside0 (impl_tlv.j0 kq a0 l1 x14_2 = some (r1, r2)) ∧ Aside0 (kq ≤ k) ∧ Aside0 (Below w.heap.size w wc))
 case first =>
  have H := HC3.out
  clear HC3
  replace H := Option.bind_eq_some_iff.mp H
  obtain ⟨t365, A40, H⟩ := H
  replace H : (if t365 = true then (impl_tlv.j0 k a0 l1 (decide ((l1.length : Int) > 250))) else (impl_tlv.j0 k a0 l1 true)) = some (r1, r2) := H
  have A4 := am A40
  clear A40
  by_cases c5 : t365 = true
  · subst c5
    have H1 : (impl_tlv.j0 k a0 l1 (decide ((l1.length : Int) > 250))) = some (r1, r2) := by rw [if_pos rfl] at H; exact H
    clear H
    have H := H1
    clear H1
    have H' := am H
    clear H
    go_wp2_with (first | ((with_reducible refine gate_callee (f := 105) rfl ?_); refine goesL_ (some 8) rfl rfl Try.func105 (by kernel_rfl) rfl #[.int .i64 a0, .int .i64 0, .int .i64 255] rfl ga ?_; (with_reducible refine (impl_in.calls a0 0 255 true _ A4.out).mono ?_); rintro e w' ⟨rfl, ⟨nd, rfl⟩⟩; refine ⟨_, rfl, ?_⟩))
    go_meet
    case rel => exact ⟨_, (decide ((l1.length : Int) > 250)), sq, H', ⟨by first | omega | exact Nat.le_refl _⟩, ⟨bq HB.out⟩⟩
  replace c5 := Bool.eq_false_iff.mpr c5
  subst c5
  have H1 : (impl_tlv.j0 k a0 l1 true) = some (r1, r2) := by rw [if_neg (show ¬ (false = true) by decide)] at H; exact H
  clear H
  have H := H1
  clear H1
  have H' := am H
  clear H
  go_wp2_with (first | ((with_reducible refine gate_callee (f := 105) rfl ?_); refine goesL_ (some 8) rfl rfl Try.func105 (by kernel_rfl) rfl #[.int .i64 a0, .int .i64 0, .int .i64 255] rfl ga ?_; (with_reducible refine (impl_in.calls a0 0 255 false _ A4.out).mono ?_); rintro e w' ⟨rfl, ⟨nd, rfl⟩⟩; refine ⟨_, rfl, ?_⟩))
  go_meet
  case rel => exact ⟨_, (true), sq, H', ⟨by first | omega | exact Nat.le_refl _⟩, ⟨bq HB.out⟩⟩
 case rest =>
  clear HC3
  try clear c1
  try clear p2
  try clear c5
  obtain ⟨kq, x14_2, rfl, HA, HJ2, HB⟩ := hcut
  cases kq with
  | zero => exact absurd HA.out (by simp [impl_tlv.j0])
  | succ kj2 =>
   have H := HA.out
   clear HA
   simp only [impl_tlv.j0] at H
   by_cases c6 : x14_2 = true
   · subst c6
     have H1 : (some (([] : List Int), false)) = some (r1, r2) := by rw [if_pos rfl] at H; exact H
     clear H
     have H := H1
     clear H1
     simp only [Option.some.injEq, Prod.mk.injEq] at H
     obtain ⟨rfl, rfl⟩ := H
     go_wp2
     go_ret2
     exact ⟨_, rq, by first | exact Kd.R_nil _ _ _ _ _ | exact Kd.N_nil _ _ _ _ _ | exact Kd.V_nil _ _ _ _ _ | exact Kd.Q_nil _ _ _ _ _ | exact Kd.S_nil _ _ _ _ _, bq HB.out⟩
   replace c6 := Bool.eq_false_iff.mpr c6
   subst c6
   have H1 : ((some (([(a0) % 256] : List Int) : List Int)).bind fun y366 => (if (l1.length : Int) ≥ 128 then (if y366.length < 140737488355328 then ((some (y366 ++ [129] : List Int)).bind fun y369 => (if y369.length < 140737488355328 then ((some (y369 ++ [((l1.length : Int)) % 256] : List Int)).bind fun y372 => (if y372.length + l1.length < 140737488355328 then (some ((y372 ++ l1), true)) else (none))) else (none))) else (none)) else (if y366.length < 140737488355328 then ((some (y366 ++ [((l1.length : Int)) % 256] : List Int)).bind fun y378 => (if y378.length + l1.length < 140737488355328 then (some ((y378 ++ l1), true)) else (none))) else (none)))) = some (r1, r2) := by rw [if_neg (show ¬ (false = true) by decide)] at H; exact H
   clear H
   have H := H1
   clear H1
   obtain ⟨y366, hy366⟩ : ∃ y_ : List Int, y_ = (([(a0) % 256] : List Int)) := ⟨_, rfl⟩
   replace H : (if (l1.length : Int) ≥ 128 then (if y366.length < 140737488355328 then ((some (y366 ++ [129] : List Int)).bind fun y369 => (if y369.length < 140737488355328 then ((some (y369 ++ [((l1.length : Int)) % 256] : List Int)).bind fun y372 => (if y372.length + l1.length < 140737488355328 then (some ((y372 ++ l1), true)) else (none))) else (none))) else (none)) else (if y366.length < 140737488355328 then ((some (y366 ++ [((l1.length : Int)) % 256] : List Int)).bind fun y378 => (if y378.length + l1.length < 140737488355328 then (some ((y378 ++ l1), true)) else (none))) else (none))) = some (r1, r2) := by first | (rw [hy366]; with_reducible exact H) | (have H2_ := (Option.bind_some _ _).symm.trans H; rw [hy366]; with_reducible exact H2_) | (have H2_ := (Option.bind_some _ _).symm.trans H; with_reducible exact H2_) | with_reducible exact H | (rw [hy366]; exact H) | exact H
   have Ny366 := am hy366
   clear hy366
   by_cases c7 : (l1.length : Int) ≥ 128
   · rw [if_pos c7] at H
     have c7b0 : decide (128 ≤ (l1.length : Int)) = true := decide_eq_true c7
     have c7b1 : decide (128 ≤ l1.length) = true := decide_eq_true (by omega)
     clear c7
     by_cases c8 : y366.length < 140737488355328
     · rw [if_pos c8] at H
       have LMc8 := am c8
       clear c8
       obtain ⟨y369, hy369⟩ : ∃ y_ : List Int, y_ = (y366 ++ [129]) := ⟨_, rfl⟩
       replace H : (if y369.length < 140737488355328 then ((some (y369 ++ [((l1.length : Int)) % 256] : List Int)).bind fun y372 => (if y372.length + l1.length < 140737488355328 then (some ((y372 ++ l1), true)) else (none))) else (none)) = some (r1, r2) := by first | (rw [hy369]; with_reducible exact H) | (have H2_ := (Option.bind_some _ _).symm.trans H; rw [hy369]; with_reducible exact H2_) | (have H2_ := (Option.bind_some _ _).symm.trans H; with_reducible exact H2_) | with_reducible exact H | (rw [hy369]; exact H) | exact H
       have Ny369 := am hy369
       clear hy369
       by_cases c9 : y369.length < 140737488355328
       · rw [if_pos c9] at H
         have LMc9 := am c9
         clear c9
         obtain ⟨y372, hy372⟩ : ∃ y_ : List Int, y_ = (y369 ++ [((l1.length : Int)) % 256]) := ⟨_, rfl⟩
         replace H : (if y372.length + l1.length < 140737488355328 then (some ((y372 ++ l1), true)) else (none)) = some (r1, r2) := by first | (rw [hy372]; with_reducible exact H) | (have H2_ := (Option.bind_some _ _).symm.trans H; rw [hy372]; with_reducible exact H2_) | (have H2_ := (Option.bind_some _ _).symm.trans H; with_reducible exact H2_) | with_reducible exact H | (rw [hy372]; exact H) | exact H
         have Ny372 := am hy372
         clear hy372
         by_cases c10 : y372.length + l1.length < 140737488355328
         · rw [if_pos c10] at H
           have LMc10 := am c10
           clear c10
           obtain ⟨y375, hy375⟩ : ∃ y_ : List Int, y_ = (y372 ++ l1) := ⟨_, rfl⟩
           replace H : (some (y375, true)) = some (r1, r2) := by first | (rw [hy375]; with_reducible exact H) | (have H2_ := (Option.bind_some _ _).symm.trans H; rw [hy375]; with_reducible exact H2_) | (have H2_ := (Option.bind_some _ _).symm.trans H; with_reducible exact H2_) | with_reducible exact H | (rw [hy375]; exact H) | exact H
           have Ny375 := am hy375
           clear hy375
           simp only [Option.some.injEq, Prod.mk.injEq] at H
           obtain ⟨rfl, rfl⟩ := H
           go_wp2_with (first | ((with_reducible refine gate_dst (N := 17) rfl ?_); (try (refine gate_guard (by rfl) ?_; dsimp only)); refine Kd.R_lit (Kd.int .u8) _ 5 ?hg (N := 17) ?hd (xs := ([(a0) % 256] : List Int)) (inner := [.int .u8 ((a0) % 256)]) (ok := fun _ => True) (okp := fun _ => True) ?hr ?hp (fun _ hk => hk) trivial (Below.refl _ _) (Nat.le_refl _) (by simp) ?_; (case hd => rfl); (case hg => rfl); (case hr => exact gs); (case hp => exact (Reps.one (show Kd.M (Kd.int .u8) _ _ _ ((a0) % 256) [.int .u8 ((a0) % 256)] from rfl) (Reps.none _ _))); intro v367 w11 ho12 hb hg_ hnew_; clear hg_ hnew_; (first | rw [← Ny366.out] at ho12 | (simp only [Int.reduceToNat] at ho12; rw [← Ny366.out] at ho12)); have n_ := ak2 (Kd.R_lower ho12 (below_size (bq HB.out))) (below_step (bq HB.out) hb); clear HB; obtain ⟨HO368, HB⟩ := n_; clear hb ho12) | ((with_reducible refine gate_builtin (b := .append) (xs := #[.tmp 21, .tmp 22]) rfl ?_); (try (refine gate_guard (by rfl) ?_; dsimp only)); at_builtin; refine Kd.R_append (Kd.int .u8) (w0 := w) w.heap.size rfl (.tmp 21) (.tmp 22) 37 5 (.int .u8 0) 1 rfl Try.underlying37 info5 rfl (by decide) (by omega) v367 y366 129 [.int .u8 129] (fun _ => True) (fun _ => False) rfl rfl ?aP (fun _ hk => hk.elim) ?aF ?aO ?aB ?aS ?aL ?_; (case aP => exact rfl); (case aB => exact (bq HB.out)); (case aF => exact (fun _ _ => trivial)); (case aO => exact (kqR HO368.out)); (case aS => exact (below_size (bq HB.out))); (case aL => have := LMc8.out; omega); intro v370 w13 ho hb hg hat; rw [← Ny369.out] at ho; have n_ := ak2 hb ho; clear HB HO368; obtain ⟨HB, HO371⟩ := n_; clear ho hb hg hat) | ((with_reducible refine gate_builtin (b := .append) (xs := #[.tmp 24, .tmp 28]) rfl ?_); (try (refine gate_guard (by rfl) ?_; dsimp only)); at_builtin; refine Kd.R_append (Kd.int .u8) (w0 := w) w.heap.size rfl (.tmp 24) (.tmp 28) 37 5 (.int .u8 0) 1 rfl Try.underlying37 info5 rfl (by decide) (by omega) v370 y369 (((l1.length : Int)) % 256) [.int .u8 (((l1.length : Int)) % 256)] (fun _ => True) (fun _ => False) rfl rfl ?aP (fun _ hk => hk.elim) ?aF ?aO ?aB ?aS ?aL ?_; (case aP => exact rfl); (case aB => exact (bq HB.out)); (case aF => exact (fun _ _ => trivial)); (case aO => exact (kqR HO371.out)); (case aS => exact (below_size (bq HB.out))); (case aL => have := LMc9.out; omega); intro v373 w14 ho hb hg hat; rw [← Ny372.out] at ho; have n_ := ak2 hb ho; clear HB HO371; obtain ⟨HB, HO374⟩ := n_; clear ho hb hg hat) | ((with_reducible refine gate_builtin (b := .append) (xs := #[.tmp 29, .tmp 30]) rfl ?_); (try (refine gate_guard (by rfl) ?_; dsimp only)); at_builtin; refine Kd.R_append_rows (Kd.int .u8) (w0 := w) w.heap.size rfl (.tmp 29) (.tmp 30) 37 5 (.int .u8 0) 1 rfl Try.underlying37 info5 rfl (by decide) (by omega) v373 y372 l1 _ _ _ (fun _ => True) (fun _ => False) rfl rfl ?aO ?aR (fun _ _ h => h) (fun _ h => h.elim) ?aF ?aB ?aS ?aL ?_; (case aR => exact cq (Kd.C_below HR1.out HB.out)); (case aB => exact (bq HB.out)); (case aF => exact (fun _ _ => trivial)); (case aO => exact (kqR HO374.out)); (case aS => exact (below_size (bq HB.out))); (case aL => have := LMc10.out; omega); intro v376 w15 ho hb hg hat; rw [← Ny375.out] at ho; have n_ := ak2 hb ho; clear HB HO374; obtain ⟨HB, HO377⟩ := n_; clear ho hb hg hat))
           go_ret2
           exact ⟨_, rq, kqR HO377.out, bq HB.out⟩
         rw [if_neg c10] at H
         exact absurd H (by simp)
       rw [if_neg c9] at H
       exact absurd H (by simp)
     rw [if_neg c8] at H
     exact absurd H (by simp)
   rw [if_neg c7] at H
   have c7b0 : decide (128 ≤ (l1.length : Int)) = false := decide_eq_false c7
   have c7b1 : decide (128 ≤ l1.length) = false := decide_eq_false (by omega)
   clear c7
   by_cases c16 : y366.length < 140737488355328
   · rw [if_pos c16] at H
     have LMc16 := am c16
     clear c16
     obtain ⟨y378, hy378⟩ : ∃ y_ : List Int, y_ = (y366 ++ [((l1.length : Int)) % 256]) := ⟨_, rfl⟩
     replace H : (if y378.length + l1.length < 140737488355328 then (some ((y378 ++ l1), true)) else (none)) = some (r1, r2) := by first | (rw [hy378]; with_reducible exact H) | (have H2_ := (Option.bind_some _ _).symm.trans H; rw [hy378]; with_reducible exact H2_) | (have H2_ := (Option.bind_some _ _).symm.trans H; with_reducible exact H2_) | with_reducible exact H | (rw [hy378]; exact H) | exact H
     have Ny378 := am hy378
     clear hy378
     by_cases c17 : y378.length + l1.length < 140737488355328
     · rw [if_pos c17] at H
       have LMc17 := am c17
       clear c17
       obtain ⟨y381, hy381⟩ : ∃ y_ : List Int, y_ = (y378 ++ l1) := ⟨_, rfl⟩
       replace H : (some (y381, true)) = some (r1, r2) := by first | (rw [hy381]; with_reducible exact H) | (have H2_ := (Option.bind_some _ _).symm.trans H; rw [hy381]; with_reducible exact H2_) | (have H2_ := (Option.bind_some _ _).symm.trans H; with_reducible exact H2_) | with_reducible exact H | (rw [hy381]; exact H) | exact H
       have Ny381 := am hy381
       clear hy381
       simp only [Option.some.injEq, Prod.mk.injEq] at H
       obtain ⟨rfl, rfl⟩ := H
       go_wp2_with (first | ((with_reducible refine gate_dst (N := 17) rfl ?_); (try (refine gate_guard (by rfl) ?_; dsimp only)); refine Kd.R_lit (Kd.int .u8) _ 5 ?hg (N := 17) ?hd (xs := ([(a0) % 256] : List Int)) (inner := [.int .u8 ((a0) % 256)]) (ok := fun _ => True) (okp := fun _ => True) ?hr ?hp (fun _ hk => hk) trivial (Below.refl _ _) (Nat.le_refl _) (by simp) ?_; (case hd => rfl); (case hg => rfl); (case hr => exact gs); (case hp => exact (Reps.one (show Kd.M (Kd.int .u8) _ _ _ ((a0) % 256) [.int .u8 ((a0) % 256)] from rfl) (Reps.none _ _))); intro v367 w18 ho19 hb hg_ hnew_; clear hg_ hnew_; (first | rw [← Ny366.out] at ho19 | (simp only [Int.reduceToNat] at ho19; rw [← Ny366.out] at ho19)); have n_ := ak2 (Kd.R_lower ho19 (below_size (bq HB.out))) (below_step (bq HB.out) hb); clear HB; obtain ⟨HO368, HB⟩ := n_; clear hb ho19) | ((with_reducible refine gate_builtin (b := .append) (xs := #[.tmp 24, .tmp 28]) rfl ?_); (try (refine gate_guard (by rfl) ?_; dsimp only)); at_builtin; refine Kd.R_append (Kd.int .u8) (w0 := w) w.heap.size rfl (.tmp 24) (.tmp 28) 37 5 (.int .u8 0) 1 rfl Try.underlying37 info5 rfl (by decide) (by omega) v367 y366 (((l1.length : Int)) % 256) [.int .u8 (((l1.length : Int)) % 256)] (fun _ => True) (fun _ => False) rfl rfl ?aP (fun _ hk => hk.elim) ?aF ?aO ?aB ?aS ?aL ?_; (case aP => exact rfl); (case aB => exact (bq HB.out)); (case aF => exact (fun _ _ => trivial)); (case aO => exact (kqR HO368.out)); (case aS => exact (below_size (bq HB.out))); (case aL => have := LMc16.out; omega); intro v379 w20 ho hb hg hat; rw [← Ny378.out] at ho; have n_ := ak2 hb ho; clear HB HO368; obtain ⟨HB, HO380⟩ := n_; clear ho hb hg hat) | ((with_reducible refine gate_builtin (b := .append) (xs := #[.tmp 29, .tmp 30]) rfl ?_); (try (refine gate_guard (by rfl) ?_; dsimp only)); at_builtin; refine Kd.R_append_rows (Kd.int .u8) (w0 := w) w.heap.size rfl (.tmp 29) (.tmp 30) 37 5 (.int .u8 0) 1 rfl Try.underlying37 info5 rfl (by decide) (by omega) v379 y378 l1 _ _ _ (fun _ => True) (fun _ => False) rfl rfl ?aO ?aR (fun _ _ h => h) (fun _ h => h.elim) ?aF ?aB ?aS ?aL ?_; (case aR => exact cq (Kd.C_below HR1.out HB.out)); (case aB => exact (bq HB.out)); (case aF => exact (fun _ _ => trivial)); (case aO => exact (kqR HO380.out)); (case aS => exact (below_size (bq HB.out))); (case aL => have := LMc17.out; omega); intro v382 w21 ho hb hg hat; rw [← Ny381.out] at ho; have n_ := ak2 hb ho; clear HB HO380; obtain ⟨HB, HO383⟩ := n_; clear ho hb hg hat))
       go_ret2
       exact ⟨_, rq, kqR HO383.out, bq HB.out⟩
     rw [if_neg c17] at H
     exact absurd H (by simp)
   rw [if_neg c16] at H
   exact absurd H (by simp)

/-! ### impl_PutTlv: function 129 -/
def impl_PutTlv.f (k : Nat) (l0 : List Int) (a1 : Int) (l2 : List Int) : Option (List Int) := (impl_tlv.f k a1 l2).bind fun bt384 => ((impl_copyBytes.f l0).bind fun t388 => (if t388.length + bt384.1.length < 140737488355328 then (some (t388 ++ bt384.1)) else (none)))
theorem impl_PutTlv.mono : ∀ a0 a1 a2 k, LeO (impl_PutTlv.f k a0 a1 a2) (impl_PutTlv.f (k + 1) a0 a1 a2) := by
 intro a0 a1 a2 k
 unfold impl_PutTlv.f
 repeat' first
  | (with_reducible exact impl_tlv.mono _ _ _)
  | (with_reducible exact LeO.refl _)
  | (with_reducible exact LeO.none _)
  | (with_reducible refine LeO.ite ?_ ?_)
  | (with_reducible refine LeO.bind ?_ (fun _ => ?_))
  | exact impl_tlv.mono _ _ _
  | exact LeO.none _
  | refine LeO.ite ?_ ?_
  | refine LeO.bind ?_ (fun _ => ?_)
set_option maxHeartbeats 8000000 in
set_option maxRecDepth 100000 in
theorem impl_PutTlv.calls (k : Nat) (A0 : Option Addr) (c0 : Nat) (l0 : List Int) (a1 : Int) (A2 : Option Addr) (c2 : Nat) (l2 : List Int) (r : List Int) (w : World) (hr0 : Kd.C (Kd.int .u8) w A0 l0.length l0) (hc0 : l0.length ≤ c0) (hr2 : Kd.C (Kd.int .u8) w A2 l2.length l2) (hc2 : l2.length ≤ c2) (h : impl_PutTlv.f k l0 a1 l2 = some r) :
 Calls Try.prog 129 #[.slice A0 l0.length c0, .int .i64 a1, .slice A2 l2.length c2] w fun e w' => ∃ v0_ : Value, e = .returned (v0_) ∧ Kd.R (Kd.int .u8) 5 w' w.heap.size (fun _ => True) v0_ r ∧ Below w.heap.size w w' := by
 have HR0 := am hr0
 have HC0 := am hc0
 clear hr0 hc0
 have HR2 := am hr2
 have HC2 := am hc2
 clear hr2 hc2
 have HB := am (Below.refl w.heap.size w)
 have H : ((impl_tlv.f k a1 l2).bind fun bt384 => ((impl_copyBytes.f l0).bind fun t388 => (if t388.length + bt384.1.length < 140737488355328 then (some (t388 ++ bt384.1)) else (none)))) = some r := h
 clear h
 replace H := Option.bind_eq_some_iff.mp H
 obtain ⟨⟨t384, t385⟩, A40, H⟩ := H
 replace H : ((impl_copyBytes.f l0).bind fun t388 => (if t388.length + t384.length < 140737488355328 then (some (t388 ++ t384)) else (none))) = some r := H
 have A4 := am A40
 clear A40
 replace H := Option.bind_eq_some_iff.mp H
 obtain ⟨t388, A50, H⟩ := H
 replace H : (if t388.length + t384.length < 140737488355328 then (some (t388 ++ t384)) else (none)) = some r := H
 have A5 := am A50
 clear A50
 by_cases c6 : t388.length + t384.length < 140737488355328
 · rw [if_pos c6] at H
   have LMc6 := am c6
   clear c6
   obtain ⟨y391, hy391⟩ : ∃ y_ : List Int, y_ = (t388 ++ t384) := ⟨_, rfl⟩
   replace H : (some y391) = some r := by first | (rw [hy391]; with_reducible exact H) | (have H2_ := (Option.bind_some _ _).symm.trans H; rw [hy391]; with_reducible exact H2_) | (have H2_ := (Option.bind_some _ _).symm.trans H; with_reducible exact H2_) | with_reducible exact H | (rw [hy391]; exact H) | exact H
   have Ny391 := am hy391
   clear hy391
   obtain rfl := Option.some.inj H
   go_enter Try.func129, Try.ntmps129
   go_wp2_with (first | ((with_reducible refine gate_callee (f := 134) rfl ?_); refine goesL_ (some 12) rfl rfl Try.func134 (by kernel_rfl) rfl #[.int .i64 a1, .slice A2 l2.length c2] rfl ga ?_; (with_reducible refine (impl_tlv.calls k a1 _ _ l2 t384 t385 _ ?side1 ?side2 A4.out).mono ?_); (case side1 => exact cq HR2.out); (case side2 => exact HC2.out); rintro e w7 ⟨v386, rfl, ho0, hb⟩; refine ⟨_, rfl, ?_⟩; have n_ := ak2 (Kd.R_lower ho0 (below_size (bq HB.out))) (below_step (bq HB.out) hb); clear HB; obtain ⟨HO387, HB⟩ := n_; (try clear hb ho0)) | ((with_reducible refine gate_callee (f := 133) rfl ?_); refine goesL_ (some 16) rfl rfl Try.func133 (by kernel_rfl) rfl #[.slice A0 l0.length c0] rfl ga ?_; (with_reducible refine (impl_copyBytes.calls _ _ l0 t388 _ ?side1 ?side2 A5.out).mono ?_); (case side1 => exact cq (Kd.C_below HR0.out HB.out)); (case side2 => exact HC0.out); rintro e w8 ⟨v389, rfl, ho0, hb⟩; refine ⟨_, rfl, ?_⟩; have n_ := ak3 (Kd.R_elder' (kqR HO387.out) (Kd.R_base ho0) hb) (Kd.R_lower (Kd.R_new' ho0 (Kd.R_lt (kqR HO387.out))) (below_size (bq HB.out))) (below_step (bq HB.out) hb); clear HO387 HB; obtain ⟨HO387, HO390, HB⟩ := n_; (try clear hb ho0); obtain ⟨Ao10, co10, eo10⟩ := Kd.R_slice HO387.out; subst eo10) | ((with_reducible refine gate_builtin (b := .append) (xs := #[.tmp 16, .tmp 17]) rfl ?_); at_builtin; refine Kd.R_append_rows (Kd.int .u8) (w0 := w) w.heap.size rfl (.tmp 16) (.tmp 17) 37 5 (.int .u8 0) 1 rfl Try.underlying37 info5 rfl (by decide) (by omega) v389 t388 t384 _ _ _ (fun k_ => some k_ ≠ (.slice Ao10 t384.length co10 : Value).ownBlock) (fun _ => False) rfl rfl ?aO ?aR (fun _ _ h => h) (fun _ h => h.elim) ?aF ?aB ?aS ?aL ?_; (case aR => repeat (first | exact (Kd.R_reads' HO387.out).2.2 | (with_reducible refine Kd.C_alloc ?_ _) | (with_reducible refine Kd.C_drewN ?_ _) | (with_reducible refine Kd.C_drew ?_))); (case aB => exact (bq HB.out)); (case aF => exact (fun k_ hk => Kd.fresh' (Kd.R_lt (kqR HO387.out)) k_ hk)); (case aO => exact (by (with_reducible repeat (first | apply Kd.R_alloc | apply Kd.R_drewN | apply Kd.R_drew)); exact Kd.R_mono HO390.out (fun _ hk => hk.2))); (case aS => exact (below_size (bq HB.out))); (case aL => have := LMc6.out; omega); intro v392 w9 ho hb hg hat; rw [← Ny391.out] at ho; have n_ := ak3 (Kd.R_after (ok := (fun _ => True)) (kqR HO387.out) hg hat) hb ho; clear HO387 HB HO390; obtain ⟨HO387, HB, HO393⟩ := n_; clear ho hb hg hat))
   go_ret
   exact ⟨_, rq, by (with_reducible repeat (first | apply Kd.R_alloc | apply Kd.R_drewN | apply Kd.R_drew)); exact Kd.R_mono HO393.out (fun _ hk => trivial), bq HB.out⟩
 rw [if_neg c6] at H
 exact absurd H (by simp)

/-! ### impl_addNum: function 114 -/
def impl_addNum.f (k : Nat) (l0 : List Int) (a1 : Int) (a2 : Int) : Option (List Int) := (impl_PutInt.f k a2).bind fun t394 => ((impl_PutTlv.f k l0 a1 t394).bind fun t397 => (some t397))
theorem impl_addNum.mono : ∀ a0 a1 a2 k, LeO (impl_addNum.f k a0 a1 a2) (impl_addNum.f (k + 1) a0 a1 a2) := by
 intro a0 a1 a2 k
 unfold impl_addNum.f
 repeat' first
  | (with_reducible exact impl_PutInt.mono _ _)
  | (with_reducible exact impl_PutTlv.mono _ _ _ _)
  | (with_reducible exact LeO.refl _)
  | (with_reducible exact LeO.none _)
  | (with_reducible refine LeO.ite ?_ ?_)
  | (with_reducible refine LeO.bind ?_ (fun _ => ?_))
  | exact impl_PutInt.mono _ _
  | exact impl_PutTlv.mono _ _ _ _
  | exact LeO.none _
  | refine LeO.ite ?_ ?_
  | refine LeO.bind ?_ (fun _ => ?_)
set_option maxHeartbeats 8000000 in
set_option maxRecDepth 100000 in
theorem impl_addNum.calls (k : Nat) (A0 : Option Addr) (c0 : Nat) (l0 : List Int) (a1 : Int) (a2 : Int) (r : List Int) (w : World) (hr0 : Kd.C (Kd.int .u8) w A0 l0.length l0) (hc0 : l0.length ≤ c0) (h : impl_addNum.f k l0 a1 a2 = some r) :
 Calls Try.prog 114 #[.slice A0 l0.length c0, .int .i64 a1, .int .i64 a2] w fun e w' => ∃ v0_ : Value, e = .returned (v0_) ∧ Kd.R (Kd.int .u8) 5 w' w.heap.size (fun _ => True) v0_ r ∧ Below w.heap.size w w' := by
 have HR0 := am hr0
 have HC0 := am hc0
 clear hr0 hc0
 have HB := am (Below.refl w.heap.size w)
 have H : ((impl_PutInt.f k a2).bind fun t394 => ((impl_PutTlv.f k l0 a1 t394).bind fun t397 => (some t397))) = some r := h
 clear h
 replace H := Option.bind_eq_some_iff.mp H
 obtain ⟨t394, A40, H⟩ := H
 replace H : ((impl_PutTlv.f k l0 a1 t394).bind fun t397 => (some t397)) = some r := H
 have A4 := am A40
 clear A40
 replace H := Option.bind_eq_some_iff.mp H
 obtain ⟨t397, A50, H⟩ := H
 replace H : (some t397) = some r := H
 have A5 := am A50
 clear A50
 obtain rfl := Option.some.inj H
 go_enter Try.func114, Try.ntmps114
 go_wp2_with (first | ((with_reducible refine gate_callee (f := 130) rfl ?_); refine goesL_ (some 10) rfl rfl Try.func130 (by kernel_rfl) rfl #[.int .i64 a2] rfl ga ?_; (with_reducible refine (impl_PutInt.calls k a2 t394 _ A4.out).mono ?_); rintro e w6 ⟨v395, rfl, ho0, hb⟩; refine ⟨_, rfl, ?_⟩; have n_ := ak2 (Kd.R_lower ho0 (below_size (bq HB.out))) (below_step (bq HB.out) hb); clear HB; obtain ⟨HO396, HB⟩ := n_; (try clear hb ho0); obtain ⟨Ao7, co7, eo7⟩ := Kd.R_slice HO396.out; subst eo7) | ((with_reducible refine gate_callee (f := 129) rfl ?_); refine goesL_ (some 11) rfl rfl Try.func129 (by kernel_rfl) rfl #[.slice A0 l0.length c0, .int .i64 a1, .slice Ao7 t394.length co7] rfl ga ?_; (with_reducible refine (impl_PutTlv.calls k _ _ l0 a1 _ _ t394 t397 _ ?side1 ?side2 ?side3 ?side4 A5.out).mono ?_); (case side1 => exact cq (Kd.C_below HR0.out HB.out)); (case side2 => exact HC0.out); (case side3 => repeat (first | exact (Kd.R_reads' HO396.out).2.2 | (with_reducible refine Kd.C_alloc ?_ _) | (with_reducible refine Kd.C_drewN ?_ _) | (with_reducible refine Kd.C_drew ?_))); (case side4 => exact (Kd.R_reads' HO396.out).2.1); rintro e w8 ⟨v398, rfl, ho0, hb⟩; refine ⟨_, rfl, ?_⟩; have n_ := ak3 (Kd.R_elder' (kqR HO396.out) (Kd.R_base ho0) hb) (Kd.R_lower (Kd.R_new' ho0 (Kd.R_lt (kqR HO396.out))) (below_size (bq HB.out))) (below_step (bq HB.out) hb); clear HO396 HB; obtain ⟨HO396, HO399, HB⟩ := n_; (try clear hb ho0)))
 go_ret
 exact ⟨_, rq, by (with_reducible repeat (first | apply Kd.R_alloc | apply Kd.R_drewN | apply Kd.R_drew)); exact Kd.R_mono HO399.out (fun _ hk => trivial), bq HB.out⟩

/-! ### impl_PutVec: function 63 -/
def impl_PutVec.l0 : Nat → List Int → List Int → Int → Int → Option (List Int)
 | 0, _, _, _, _ => none
 | k + 1, x3, x19, x20, x21 => if x21 < x20 then (if 0 ≤ x21 then (if x21 < (x19.length : Int) then ((impl_addNum.f k x3 2 (rd x19 x21)).bind fun t406 => (impl_PutVec.l0 k t406 x19 x20 (wrap64 (x21 + 1)))) else (none)) else (none)) else (some x3)
def impl_PutVec.f (k : Nat) (a0_0 : Int) (a0_1 : Int) (a0_2 : Int) (a0_3 : Int) (a0_4 : Int) : Option (List Int) := (impl_VecOk.f a0_0 a0_1 a0_2 a0_3 a0_4).bind fun t401 => (if t401 = true then ((some (([a0_0, a0_1, a0_2, a0_3, a0_4] : List Int) : List Int)).bind fun y402 => (impl_PutVec.l0 k ([] : List Int) y402 (y402.length : Int) 0)) else (some ([] : List Int)))
theorem impl_PutVec.mono_l : ∀ k, (∀ y0 y1 y2 y3, LeO (impl_PutVec.l0 k y0 y1 y2 y3) (impl_PutVec.l0 (k + 1) y0 y1 y2 y3))
 | 0 => fun _ _ _ _ r h => by simp [impl_PutVec.l0] at h
 | k + 1 => by
  have ih0 := impl_PutVec.mono_l k
  intro y0 y1 y2 y3
  unfold impl_PutVec.l0
  repeat' first
  | (with_reducible exact ih0 _ _ _ _)
  | (with_reducible exact impl_addNum.mono _ _ _ _)
  | (with_reducible exact LeO.refl _)
  | (with_reducible exact LeO.none _)
  | (with_reducible refine LeO.ite ?_ ?_)
  | (with_reducible refine LeO.bind ?_ (fun _ => ?_))
  | exact ih0 _ _ _ _
  | exact impl_addNum.mono _ _ _ _
  | exact LeO.none _
  | refine LeO.ite ?_ ?_
  | refine LeO.bind ?_ (fun _ => ?_)
theorem impl_PutVec.mono : ∀ a0 a1 a2 a3 a4 k, LeO (impl_PutVec.f k a0 a1 a2 a3 a4) (impl_PutVec.f (k + 1) a0 a1 a2 a3 a4) := by
 intro a0 a1 a2 a3 a4 k
 have ih0 := impl_PutVec.mono_l k
 unfold impl_PutVec.f
 repeat' first
  | (with_reducible exact ih0 _ _ _ _)
  | (with_reducible exact impl_addNum.mono _ _ _ _)
  | (with_reducible exact LeO.refl _)
  | (with_reducible exact LeO.none _)
  | (with_reducible refine LeO.ite ?_ ?_)
  | (with_reducible refine LeO.bind ?_ (fun _ => ?_))
  | exact ih0 _ _ _ _
  | exact impl_addNum.mono _ _ _ _
  | exact LeO.none _
  | refine LeO.ite ?_ ?_
  | refine LeO.bind ?_ (fun _ => ?_)
set_option maxHeartbeats 8000000 in
set_option maxRecDepth 100000 in
theorem impl_PutVec.calls (k : Nat) (a0_0 : Int) (a0_1 : Int) (a0_2 : Int) (a0_3 : Int) (a0_4 : Int) (r : List Int) (w : World) (h : impl_PutVec.f k a0_0 a0_1 a0_2 a0_3 a0_4 = some r) :
 Calls Try.prog 63 #[.agg #[.int .i64 a0_0, .int .i64 a0_1, .int .i64 a0_2, .int .i64 a0_3, .int .i64 a0_4]] w fun e w' => ∃ v0_ : Value, e = .returned (v0_) ∧ Kd.R (Kd.int .u8) 5 w' w.heap.size (fun _ => True) v0_ r ∧ Below w.heap.size w w' := by
 have hu47 := Try.underlying47
 have HB := am (Below.refl w.heap.size w)
 have H : ((impl_VecOk.f a0_0 a0_1 a0_2 a0_3 a0_4).bind fun t401 => (if t401 = true then ((some (([a0_0, a0_1, a0_2, a0_3, a0_4] : List Int) : List Int)).bind fun y402 => (impl_PutVec.l0 k ([] : List Int) y402 (y402.length : Int) 0)) else (some ([] : List Int)))) = some r := h
 clear h
 replace H := Option.bind_eq_some_iff.mp H
 obtain ⟨t401, A20, H⟩ := H
 replace H : (if t401 = true then ((some (([a0_0, a0_1, a0_2, a0_3, a0_4] : List Int) : List Int)).bind fun y402 => (impl_PutVec.l0 k ([] : List Int) y402 (y402.length : Int) 0)) else (some ([] : List Int))) = some r := H
 have A2 := am A20
 clear A20
 by_cases c3 : t401 = true
 · subst c3
   have H1 : ((some (([a0_0, a0_1, a0_2, a0_3, a0_4] : List Int) : List Int)).bind fun y402 => (impl_PutVec.l0 k ([] : List Int) y402 (y402.length : Int) 0)) = some r := by rw [if_pos rfl] at H; exact H
   clear H
   have H := H1
   clear H1
   obtain ⟨y402, hy402⟩ : ∃ y_ : List Int, y_ = (([a0_0, a0_1, a0_2, a0_3, a0_4] : List Int)) := ⟨_, rfl⟩
   replace H : (impl_PutVec.l0 k ([] : List Int) y402 (y402.length : Int) 0) = some r := by first | (rw [hy402]; with_reducible exact H) | (have H2_ := (Option.bind_some _ _).symm.trans H; rw [hy402]; with_reducible exact H2_) | (have H2_ := (Option.bind_some _ _).symm.trans H; with_reducible exact H2_) | with_reducible exact H | (rw [hy402]; exact H) | exact H
   have Ny402 := am hy402
   clear hy402
   have H' := am H
   clear H
   go_enter Try.func63, Try.ntmps63
   go_wp2_with (first | ((with_reducible refine gate_dst (N := 1) rfl ?_); refine box_event ?hg (N := 1) ?hd (cs := #[.int .i64 a0_0, .int .i64 a0_1, .int .i64 a0_2, .int .i64 a0_3, .int .i64 a0_4]) (t := 47) ?hr ?_; (case hd => rfl); (case hg => rfl); (case hr => exact gs); intro gb400 hg w4 hbox hb; have n_ := ak4 (below_step (bq HB.out) hb) hbox ((by rw [hg]; exact (below_size (bq HB.out)) : w.heap.size ≤ gb400)) ((by rw [hg]; exact (below_size (bq HB.out)) : w.heap.size ≤ gb400)); clear HB; obtain ⟨HB, BK400, GW400, GE400⟩ := n_; clear hb hbox hg; have hcz5_0 : w4.cell? ⟨gb400, 0, none⟩ = some (.int .i64 a0_0) := (blk_cell BK400.out 0).trans rfl; have hcz5_1 : w4.cell? ⟨gb400, 1, none⟩ = some (.int .i64 a0_1) := (blk_cell BK400.out 1).trans rfl; have hcz5_2 : w4.cell? ⟨gb400, 2, none⟩ = some (.int .i64 a0_2) := (blk_cell BK400.out 2).trans rfl; have hcz5_3 : w4.cell? ⟨gb400, 3, none⟩ = some (.int .i64 a0_3) := (blk_cell BK400.out 3).trans rfl; have hcz5_4 : w4.cell? ⟨gb400, 4, none⟩ = some (.int .i64 a0_4) := (blk_cell BK400.out 4).trans rfl; have hfz5_0 := blk_frozen BK400.out 0; have hfz5_1 := blk_frozen BK400.out 1; have hfz5_2 := blk_frozen BK400.out 2; have hfz5_3 := blk_frozen BK400.out 3; have hfz5_4 := blk_frozen BK400.out 4) | ((with_reducible refine gate_callee (f := 65) rfl ?_); refine goesL_ (some 7) rfl rfl Try.func65 (by kernel_rfl) rfl #[.agg #[.int .i64 a0_0, .int .i64 a0_1, .int .i64 a0_2, .int .i64 a0_3, .int .i64 a0_4]] rfl ga ?_; (with_reducible refine (impl_VecOk.calls a0_0 a0_1 a0_2 a0_3 a0_4 true _ A2.out).mono ?_); rintro e w6 ⟨rfl, hb⟩; refine ⟨_, rfl, ?_⟩; have n_ := ak2 (blk_below (g := gb400) (o := .cells #[.int .i64 a0_0, .int .i64 a0_1, .int .i64 a0_2, .int .i64 a0_3, .int .i64 a0_4] 47 (0, 0)) (zq BK400.out) hb) (below_step (bq1 HB.out GE400.out) hb); clear BK400 HB; obtain ⟨BK400, HB⟩ := n_; (try clear hb); have hcz7_0 : w6.cell? ⟨gb400, 0, none⟩ = some (.int .i64 a0_0) := (blk_cell BK400.out 0).trans rfl; have hcz7_1 : w6.cell? ⟨gb400, 1, none⟩ = some (.int .i64 a0_1) := (blk_cell BK400.out 1).trans rfl; have hcz7_2 : w6.cell? ⟨gb400, 2, none⟩ = some (.int .i64 a0_2) := (blk_cell BK400.out 2).trans rfl; have hcz7_3 : w6.cell? ⟨gb400, 3, none⟩ = some (.int .i64 a0_3) := (blk_cell BK400.out 3).trans rfl; have hcz7_4 : w6.cell? ⟨gb400, 4, none⟩ = some (.int .i64 a0_4) := (blk_cell BK400.out 4).trans rfl; have hfz7_0 := blk_frozen BK400.out 0; have hfz7_1 := blk_frozen BK400.out 1; have hfz7_2 := blk_frozen BK400.out 2; have hfz7_3 := blk_frozen BK400.out 3; have hfz7_4 := blk_frozen BK400.out 4) | ((with_reducible refine gate_dst (N := 19) rfl ?_); refine Kd.R_lit (Kd.int .i64) _ 3 ?hg (N := 19) ?hd (xs := ([a0_0, a0_1, a0_2, a0_3, a0_4] : List Int)) (inner := [.int .i64 a0_0, .int .i64 a0_1, .int .i64 a0_2, .int .i64 a0_3, .int .i64 a0_4]) (ok := fun _ => True) (okp := fun _ => True) ?hr ?hp (fun _ hk => hk) trivial (Below.refl _ _) (Nat.le_refl _) (by simp) ?_; (case hd => rfl); (case hg => rfl); (case hr => exact gs); (case hp => exact (Reps.one (show Kd.M (Kd.int .i64) _ _ _ a0_0 [.int .i64 a0_0] from rfl) (Reps.one (show Kd.M (Kd.int .i64) _ _ _ a0_1 [.int .i64 a0_1] from rfl) (Reps.one (show Kd.M (Kd.int .i64) _ _ _ a0_2 [.int .i64 a0_2] from rfl) (Reps.one (show Kd.M (Kd.int .i64) _ _ _ a0_3 [.int .i64 a0_3] from rfl) (Reps.one (show Kd.M (Kd.int .i64) _ _ _ a0_4 [.int .i64 a0_4] from rfl) (Reps.none _ _))))))); intro v403 w8 ho9 hb hg_ hnew_; clear hg_ hnew_; (first | rw [← Ny402.out] at ho9 | (simp only [Int.reduceToNat] at ho9; rw [← Ny402.out] at ho9)); have n_ := ak3 (Kd.R_lower ho9 (below_size (bq1 HB.out GE400.out))) (blk_below (g := gb400) (o := .cells #[.int .i64 a0_0, .int .i64 a0_1, .int .i64 a0_2, .int .i64 a0_3, .int .i64 a0_4] 47 (0, 0)) (zq BK400.out) hb) (below_step (bq1 HB.out GE400.out) hb); clear BK400 HB; obtain ⟨HO404, BK400, HB⟩ := n_; clear hb ho9; obtain ⟨Ao10, co10, eo10⟩ := Kd.R_slice HO404.out; subst eo10))
   go_loopg [3, 21] k (fun kq v3 v21 w' => ∃ (x3_1 : List Int) (x21_1 : Int), v21 = .int .i64 x21_1 ∧ Aside0 (impl_PutVec.l0 kq x3_1 y402 (y402.length : Int) x21_1 = some r) ∧ Aside0 (kq ≤ k) ∧ Aside0 (Kd.R (Kd.int .u8) 5 w' w.heap.size (fun _ => True) v3 x3_1) ∧ Aside0 (Kd.R (Kd.int .i64) 3 w' w.heap.size (fun _ => True) (.slice Ao10 y402.length co10) y402) ∧ Aside0 (w'.heap[gb400]? = some (.cells #[.int .i64 a0_0, .int .i64 a0_1, .int .i64 a0_2, .int .i64 a0_3, .int .i64 a0_4] 47 (0, 0))) ∧ Aside0 (Below w.heap.size w w'))
   case atStart => exact ⟨(([] : List Int)), (0), sq, H', ⟨Nat.le_refl _⟩, ⟨by first | exact Kd.R_nil _ _ _ _ _ | exact Kd.N_nil _ _ _ _ _ | exact Kd.V_nil _ _ _ _ _ | exact Kd.Q_nil _ _ _ _ _ | exact Kd.S_nil _ _ _ _ _⟩, ⟨kqR HO404.out⟩, ⟨zq BK400.out⟩, ⟨bq1 HB.out GE400.out⟩⟩
   case round =>
    clear H'
    try clear p2
    try clear c3
    try clear c6
    try clear hcz5_0
    try clear hcz5_1
    try clear hcz5_2
    try clear hcz5_3
    try clear hcz5_4
    try clear hcz7_0
    try clear hcz7_1
    try clear hcz7_2
    try clear hcz7_3
    try clear hcz7_4
    try clear hfz5_0
    try clear hfz5_1
    try clear hfz5_2
    try clear hfz5_3
    try clear hfz5_4
    try clear hfz7_0
    try clear hfz7_1
    try clear hfz7_2
    try clear hfz7_3
    try clear hfz7_4
    obtain ⟨x3_1, x21_1, rfl, HA, HK1, HO_3, HO_19, BK400, HB⟩ := hrel
    cases gk with
    | zero => exact absurd HA.out (by simp [impl_PutVec.l0])
    | succ k1 =>
     have H := HA.out
     clear HA
     simp only [impl_PutVec.l0] at H
     by_cases c11 : x21_1 < (y402.length : Int)
     · rw [if_pos c11] at H
       have c11b0 : decide (x21_1 < (y402.length : Int)) = true := decide_eq_true c11
       clear c11
       by_cases c12 : 0 ≤ x21_1
       · rw [if_pos c12] at H
         have c12b0 : decide (0 ≤ x21_1) = true := decide_eq_true c12
         clear c12
         by_cases c13 : x21_1 < (y402.length : Int)
         · rw [if_pos c13] at H
           have c13b0 : decide (x21_1 < (y402.length : Int)) = true := decide_eq_true c13
           clear c13
           replace H := Option.bind_eq_some_iff.mp H
           obtain ⟨t406, A140, H⟩ := H
           replace H : (impl_PutVec.l0 k1 t406 y402 (y402.length : Int) (wrap64 (x21_1 + 1))) = some r := H
           have A14 := am A140
           clear A140
           have H' := am H
           clear H
           have p405 : 0 ≤ (x21_1 : Int) := oda
           have q405 : x21_1 < (y402.length : Int) := oda
           obtain ⟨ad405, e405, hx405_0⟩ := Kd.at_int (Kd.R_reads' HO_19.out).2.2 x21_1 p405 q405
           cases e405
           replace p405 := eq_true p405
           replace q405 := eq_true q405
           obtain ⟨Ao15, co15, eo15⟩ := Kd.R_slice HO_3.out
           subst eo15
           go_wp2_with (first | ((with_reducible refine gate_callee (f := 114) rfl ?_); refine goesL_ (some 27) rfl rfl Try.func114 (by kernel_rfl) rfl #[.slice Ao15 x3_1.length co15, .int .i64 2, .int .i64 (rd y402 x21_1)] rfl ga ?_; (with_reducible refine (impl_addNum.calls k1 _ _ x3_1 2 (rd y402 x21_1) t406 _ ?side1 ?side2 A14.out).mono ?_); (case side1 => repeat (first | exact (Kd.R_reads' HO_3.out).2.2 | (with_reducible refine Kd.C_alloc ?_ _) | (with_reducible refine Kd.C_drewN ?_ _) | (with_reducible refine Kd.C_drew ?_))); (case side2 => exact (Kd.R_reads' HO_3.out).2.1); rintro e w16 ⟨v407, rfl, ho0, hb⟩; refine ⟨_, rfl, ?_⟩; have n_ := ak5 (Kd.R_elder' (kqR HO_3.out) (Kd.R_base ho0) hb) (Kd.R_below (kqR HO_19.out) hb) (Kd.R_lower (Kd.R_new' ho0 (Kd.R_lt (kqR HO_3.out))) (below_size (bq1 HB.out GE400.out))) (blk_below (g := gb400) (o := .cells #[.int .i64 a0_0, .int .i64 a0_1, .int .i64 a0_2, .int .i64 a0_3, .int .i64 a0_4] 47 (0, 0)) (zq BK400.out) hb) (below_step (bq1 HB.out GE400.out) hb); clear HO_3 HO_19 BK400 HB; obtain ⟨HO_3, HO_19, HO408, BK400, HB⟩ := n_; (try clear hb ho0)))
           go_roundg k1
           case measure => have := HK1.out; omega
           case rel => exact ⟨(t406), (wrap64 (x21_1 + 1)), sq, H', ⟨by have := HK1.out; omega⟩, ⟨by (with_reducible repeat (first | apply Kd.R_alloc | apply Kd.R_drewN | apply Kd.R_drew)); exact Kd.R_mono HO408.out (fun _ hk => trivial)⟩, ⟨kqR HO_19.out⟩, ⟨zq BK400.out⟩, ⟨bq1 HB.out GE400.out⟩⟩
         rw [if_neg c13] at H
         exact absurd H (by simp)
       rw [if_neg c12] at H
       exact absurd H (by simp)
     rw [if_neg c11] at H
     have c11b0 : decide (x21_1 < (y402.length : Int)) = false := decide_eq_false c11
     clear c11
     obtain rfl := Option.some.inj H
     go_wp2
     go_ret
     exact ⟨_, rq, kqR HO_3.out, bq1 HB.out GE400.out⟩
 replace c3 := Bool.eq_false_iff.mpr c3
 subst c3
 have H1 : (some ([] : List Int)) = some r := by rw [if_neg (show ¬ (false = true) by decide)] at H; exact H
 clear H
 have H := H1
 clear H1
 obtain rfl := Option.some.inj H
 go_enter Try.func63, Try.ntmps63
 go_wp2_with (first | ((with_reducible refine gate_dst (N := 1) rfl ?_); refine box_event ?hg (N := 1) ?hd (cs := #[.int .i64 a0_0, .int .i64 a0_1, .int .i64 a0_2, .int .i64 a0_3, .int .i64 a0_4]) (t := 47) ?hr ?_; (case hd => rfl); (case hg => rfl); (case hr => exact gs); intro gb400 hg w17 hbox hb; have n_ := ak4 (below_step (bq HB.out) hb) hbox ((by rw [hg]; exact (below_size (bq HB.out)) : w.heap.size ≤ gb400)) ((by rw [hg]; exact (below_size (bq HB.out)) : w.heap.size ≤ gb400)); clear HB; obtain ⟨HB, BK400, GW400, GE400⟩ := n_; clear hb hbox hg; have hcz18_0 : w17.cell? ⟨gb400, 0, none⟩ = some (.int .i64 a0_0) := (blk_cell BK400.out 0).trans rfl; have hcz18_1 : w17.cell? ⟨gb400, 1, none⟩ = some (.int .i64 a0_1) := (blk_cell BK400.out 1).trans rfl; have hcz18_2 : w17.cell? ⟨gb400, 2, none⟩ = some (.int .i64 a0_2) := (blk_cell BK400.out 2).trans rfl; have hcz18_3 : w17.cell? ⟨gb400, 3, none⟩ = some (.int .i64 a0_3) := (blk_cell BK400.out 3).trans rfl; have hcz18_4 : w17.cell? ⟨gb400, 4, none⟩ = some (.int .i64 a0_4) := (blk_cell BK400.out 4).trans rfl; have hfz18_0 := blk_frozen BK400.out 0; have hfz18_1 := blk_frozen BK400.out 1; have hfz18_2 := blk_frozen BK400.out 2; have hfz18_3 := blk_frozen BK400.out 3; have hfz18_4 := blk_frozen BK400.out 4) | ((with_reducible refine gate_callee (f := 65) rfl ?_); refine goesL_ (some 7) rfl rfl Try.func65 (by kernel_rfl) rfl #[.agg #[.int .i64 a0_0, .int .i64 a0_1, .int .i64 a0_2, .int .i64 a0_3, .int .i64 a0_4]] rfl ga ?_; (with_reducible refine (impl_VecOk.calls a0_0 a0_1 a0_2 a0_3 a0_4 false _ A2.out).mono ?_); rintro e w19 ⟨rfl, hb⟩; refine ⟨_, rfl, ?_⟩; have n_ := ak2 (blk_below (g := gb400) (o := .cells #[.int .i64 a0_0, .int .i64 a0_1, .int .i64 a0_2, .int .i64 a0_3, .int .i64 a0_4] 47 (0, 0)) (zq BK400.out) hb) (below_step (bq1 HB.out GE400.out) hb); clear BK400 HB; obtain ⟨BK400, HB⟩ := n_; (try clear hb)))
 go_ret
 exact ⟨_, rq, by first | exact Kd.R_nil _ _ _ _ _ | exact Kd.N_nil _ _ _ _ _ | exact Kd.V_nil _ _ _ _ _ | exact Kd.Q_nil _ _ _ _ _ | exact Kd.S_nil _ _ _ _ _, bq1 HB.out GE400.out⟩

end Go.Proofs.Ytebffdmkfkfoaaa.XFnVecs
