/- The functions that one law reaches, as Lean functions, with their walks: printed by a program of this seat (wip/tools) out of the translation. -/
import Derived.Test.YthhnfmbfgplelaaXFnExactPutMsgx0
import Derived.Test.YthhnfmbfgplelaaXFnExactPutMsgx9
namespace Go.Proofs.Ythhnfmbfgplelaa.XFnExactPutMsg
open Go.RowKit Go.Proofs.YthhnfmbfgplelaaW.PrintWords Go.Proofs.YthhnfmbfgplelaaW.PrintLast Go.Proofs.YthhnfmbfgplelaaW.PrintMore
attribute [local go_sem] max2_int min2_int max_two min_two max_three min_three max_four min_four   -- for this text's walks alone
set_option linter.unusedVariables false
set_option linter.unusedSimpArgs false

/-! ### impl_PduOk: function 99 -/
mutual
def impl_PduOk.j2 : Nat → Int → Int → Int → Int → List (S116) → Option (Bool)
 | 0, _, _, _, _, _ => none
 | k + 1, x484000, x484001, x484002, x484003, x484004 => impl_PduOk.l0 k x484004 (x484004.length : Int) 0 x484000 x484001 x484002 x484003 x484004
def impl_PduOk.l0 : Nat → List (S116) → Int → Int → Int → Int → Int → Int → List (S116) → Option (Bool)
 | 0, _, _, _, _, _, _, _, _ => none
 | k + 1, x33, x34, x35, x484000, x484001, x484002, x484003, x484004 => if x35 < x34 then (if 0 ≤ x35 then (if x35 < (x33.length : Int) then (if x35 ≥ 10 then (some false) else ((impl_OidOk.f k ((rd_T116 x33 x35).f0)).bind fun t489 => (if t489 = true then ((impl_ValOk.f k ((rd_T116 x33 x35).f1.f0) ((rd_T116 x33 x35).f1.f1) ((rd_T116 x33 x35).f1.f2) ((rd_T116 x33 x35).f1.f3)).bind fun t490 => (if t490 = true then (impl_PduOk.l0 k x33 x34 (wrap64 (x35 + 1)) x484000 x484001 x484002 x484003 x484004) else (some false))) else (some false)))) else (none)) else (none)) else ((impl_isInt.f x484001).bind fun t486 => (some t486))
def impl_PduOk.j0 : Nat → Int → Bool → Int → Int → Int → Int → List (S116) → Option (Bool)
 | 0, _, _, _, _, _, _, _ => none
 | k + 1, x6, x7, x484000, x484001, x484002, x484003, x484004 => if x7 = true then (if x484002 = 0 then (if x484003 = 0 then (impl_PduOk.j2 k x484000 x484001 x484002 x484003 x484004) else (some false)) else (some false)) else (if x6 = 162 then (impl_PduOk.j1 k (x6 == 162) x484000 x484001 x484002 x484003 x484004) else (impl_PduOk.j1 k (x6 == 165) x484000 x484001 x484002 x484003 x484004))
def impl_PduOk.j1 : Nat → Bool → Int → Int → Int → Int → List (S116) → Option (Bool)
 | 0, _, _, _, _, _, _ => none
 | k + 1, x19, x484000, x484001, x484002, x484003, x484004 => if x19 = true then ((impl_in.f x484002 0 1000).bind fun t484 => (if t484 = true then ((impl_in.f x484003 0 1000).bind fun t485 => (if t485 = true then (impl_PduOk.j2 k x484000 x484001 x484002 x484003 x484004) else (some false))) else (some false))) else (some false)
end
def impl_PduOk.f (k : Nat) (a0_0 : Int) (a0_1 : Int) (a0_2 : Int) (a0_3 : Int) (l0_4 : List (S116)) : Option (Bool) := if a0_0 = 160 then (impl_PduOk.j0 k a0_0 (a0_0 == 160) a0_0 a0_1 a0_2 a0_3 l0_4) else (if a0_0 = 161 then (impl_PduOk.j0 k a0_0 (a0_0 == 161) a0_0 a0_1 a0_2 a0_3 l0_4) else (impl_PduOk.j0 k a0_0 (a0_0 == 163) a0_0 a0_1 a0_2 a0_3 l0_4))
theorem impl_PduOk.mono_l : ∀ k, (∀ y0 y1 y2 y3 y4, LeO (impl_PduOk.j2 k y0 y1 y2 y3 y4) (impl_PduOk.j2 (k + 1) y0 y1 y2 y3 y4)) ∧ (∀ y0 y1 y2 y3 y4 y5 y6 y7, LeO (impl_PduOk.l0 k y0 y1 y2 y3 y4 y5 y6 y7) (impl_PduOk.l0 (k + 1) y0 y1 y2 y3 y4 y5 y6 y7)) ∧ (∀ y0 y1 y2 y3 y4 y5 y6, LeO (impl_PduOk.j0 k y0 y1 y2 y3 y4 y5 y6) (impl_PduOk.j0 (k + 1) y0 y1 y2 y3 y4 y5 y6)) ∧ (∀ y0 y1 y2 y3 y4 y5, LeO (impl_PduOk.j1 k y0 y1 y2 y3 y4 y5) (impl_PduOk.j1 (k + 1) y0 y1 y2 y3 y4 y5))
 | 0 => ⟨fun _ _ _ _ _ r h => by simp [impl_PduOk.j2] at h, fun _ _ _ _ _ _ _ _ r h => by simp [impl_PduOk.l0] at h, fun _ _ _ _ _ _ _ r h => by simp [impl_PduOk.j0] at h, fun _ _ _ _ _ _ r h => by simp [impl_PduOk.j1] at h⟩
 | k + 1 => by
  obtain ⟨ih0, ih1, ih2, ih3⟩ := impl_PduOk.mono_l k
  refine ⟨?_, ?_, ?_, ?_⟩
  · intro y0 y1 y2 y3 y4
    unfold impl_PduOk.j2
    repeat' first
    | (with_reducible exact ih0 _ _ _ _ _)
    | (with_reducible exact ih1 _ _ _ _ _ _ _ _)
    | (with_reducible exact ih2 _ _ _ _ _ _ _)
    | (with_reducible exact ih3 _ _ _ _ _ _)
    | (with_reducible exact impl_OidOk.mono _ _)
    | (with_reducible exact impl_ValOk.mono _ _ _ _ _)
    | (with_reducible exact LeO.refl _)
    | (with_reducible exact LeO.none _)
    | (with_reducible refine LeO.ite ?_ ?_)
    | (with_reducible refine LeO.bind ?_ (fun _ => ?_))
    | exact ih0 _ _ _ _ _
    | exact ih1 _ _ _ _ _ _ _ _
    | exact ih2 _ _ _ _ _ _ _
    | exact ih3 _ _ _ _ _ _
    | exact impl_OidOk.mono _ _
    | exact impl_ValOk.mono _ _ _ _ _
    | exact LeO.none _
    | refine LeO.ite ?_ ?_
    | refine LeO.bind ?_ (fun _ => ?_)
  · intro y0 y1 y2 y3 y4 y5 y6 y7
    unfold impl_PduOk.l0
    repeat' first
    | (with_reducible exact ih0 _ _ _ _ _)
    | (with_reducible exact ih1 _ _ _ _ _ _ _ _)
    | (with_reducible exact ih2 _ _ _ _ _ _ _)
    | (with_reducible exact ih3 _ _ _ _ _ _)
    | (with_reducible exact impl_OidOk.mono _ _)
    | (with_reducible exact impl_ValOk.mono _ _ _ _ _)
    | (with_reducible exact LeO.refl _)
    | (with_reducible exact LeO.none _)
    | (with_reducible refine LeO.ite ?_ ?_)
    | (with_reducible refine LeO.bind ?_ (fun _ => ?_))
    | exact ih0 _ _ _ _ _
    | exact ih1 _ _ _ _ _ _ _ _
    | exact ih2 _ _ _ _ _ _ _
    | exact ih3 _ _ _ _ _ _
    | exact impl_OidOk.mono _ _
    | exact impl_ValOk.mono _ _ _ _ _
    | exact LeO.none _
    | refine LeO.ite ?_ ?_
    | refine LeO.bind ?_ (fun _ => ?_)
  · intro y0 y1 y2 y3 y4 y5 y6
    unfold impl_PduOk.j0
    repeat' first
    | (with_reducible exact ih0 _ _ _ _ _)
    | (with_reducible exact ih1 _ _ _ _ _ _ _ _)
    | (with_reducible exact ih2 _ _ _ _ _ _ _)
    | (with_reducible exact ih3 _ _ _ _ _ _)
    | (with_reducible exact impl_OidOk.mono _ _)
    | (with_reducible exact impl_ValOk.mono _ _ _ _ _)
    | (with_reducible exact LeO.refl _)
    | (with_reducible exact LeO.none _)
    | (with_reducible refine LeO.ite ?_ ?_)
    | (with_reducible refine LeO.bind ?_ (fun _ => ?_))
    | exact ih0 _ _ _ _ _
    | exact ih1 _ _ _ _ _ _ _ _
    | exact ih2 _ _ _ _ _ _ _
    | exact ih3 _ _ _ _ _ _
    | exact impl_OidOk.mono _ _
    | exact impl_ValOk.mono _ _ _ _ _
    | exact LeO.none _
    | refine LeO.ite ?_ ?_
    | refine LeO.bind ?_ (fun _ => ?_)
  intro y0 y1 y2 y3 y4 y5
  unfold impl_PduOk.j1
  repeat' first
  | (with_reducible exact ih0 _ _ _ _ _)
  | (with_reducible exact ih1 _ _ _ _ _ _ _ _)
  | (with_reducible exact ih2 _ _ _ _ _ _ _)
  | (with_reducible exact ih3 _ _ _ _ _ _)
  | (with_reducible exact impl_OidOk.mono _ _)
  | (with_reducible exact impl_ValOk.mono _ _ _ _ _)
  | (with_reducible exact LeO.refl _)
  | (with_reducible exact LeO.none _)
  | (with_reducible refine LeO.ite ?_ ?_)
  | (with_reducible refine LeO.bind ?_ (fun _ => ?_))
  | exact ih0 _ _ _ _ _
  | exact ih1 _ _ _ _ _ _ _ _
  | exact ih2 _ _ _ _ _ _ _
  | exact ih3 _ _ _ _ _ _
  | exact impl_OidOk.mono _ _
  | exact impl_ValOk.mono _ _ _ _ _
  | exact LeO.none _
  | refine LeO.ite ?_ ?_
  | refine LeO.bind ?_ (fun _ => ?_)
theorem impl_PduOk.mono : ∀ a0 a1 a2 a3 a4 k, LeO (impl_PduOk.f k a0 a1 a2 a3 a4) (impl_PduOk.f (k + 1) a0 a1 a2 a3 a4) := by
 intro a0 a1 a2 a3 a4 k
 obtain ⟨ih0, ih1, ih2, ih3⟩ := impl_PduOk.mono_l k
 unfold impl_PduOk.f
 repeat' first
  | (with_reducible exact ih0 _ _ _ _ _)
  | (with_reducible exact ih1 _ _ _ _ _ _ _ _)
  | (with_reducible exact ih2 _ _ _ _ _ _ _)
  | (with_reducible exact ih3 _ _ _ _ _ _)
  | (with_reducible exact impl_OidOk.mono _ _)
  | (with_reducible exact impl_ValOk.mono _ _ _ _ _)
  | (with_reducible exact LeO.refl _)
  | (with_reducible exact LeO.none _)
  | (with_reducible refine LeO.ite ?_ ?_)
  | (with_reducible refine LeO.bind ?_ (fun _ => ?_))
  | exact ih0 _ _ _ _ _
  | exact ih1 _ _ _ _ _ _ _ _
  | exact ih2 _ _ _ _ _ _ _
  | exact ih3 _ _ _ _ _ _
  | exact impl_OidOk.mono _ _
  | exact impl_ValOk.mono _ _ _ _ _
  | exact LeO.none _
  | refine LeO.ite ?_ ?_
  | refine LeO.bind ?_ (fun _ => ?_)
set_option maxHeartbeats 8000000 in
set_option maxRecDepth 100000 in
theorem impl_PduOk.calls (k : Nat) (a0_0 : Int) (a0_1 : Int) (a0_2 : Int) (a0_3 : Int) (A0_4 : Option Addr) (c0_4 : Nat) (l0_4 : List (S116)) (r : Bool) (w : World) (hr0_4 : Kd.C k116 w A0_4 l0_4.length l0_4) (hc0_4 : l0_4.length ≤ c0_4) (h : impl_PduOk.f k a0_0 a0_1 a0_2 a0_3 l0_4 = some r) :
 Calls Try.prog 99 #[.agg #[.int .i64 a0_0, .int .i64 a0_1, .int .i64 a0_2, .int .i64 a0_3, .slice A0_4 l0_4.length c0_4]] w fun e w' => e = .returned (.bool r) ∧ Below w.heap.size w w' := by
 have hu58 := Try.underlying58
 have hu116 := Try.underlying116
 have hu29 := Try.underlying29
 have HR0_4 := am hr0_4
 have HC0_4 := am hc0_4
 clear hr0_4 hc0_4
 have HB := am (Below.refl w.heap.size w)
 have H : (if a0_0 = 160 then (impl_PduOk.j0 k a0_0 (a0_0 == 160) a0_0 a0_1 a0_2 a0_3 l0_4) else (if a0_0 = 161 then (impl_PduOk.j0 k a0_0 (a0_0 == 161) a0_0 a0_1 a0_2 a0_3 l0_4) else (impl_PduOk.j0 k a0_0 (a0_0 == 163) a0_0 a0_1 a0_2 a0_3 l0_4))) = some r := h
 clear h
 have HC2 := am H
 clear H
 go_enter Try.func99, Try.ntmps99
 go_upto_block 0 with (first | ((with_reducible refine gate_dst (N := 1) rfl ?_); refine bxe 1 #[.int .i64 a0_0, .int .i64 a0_1, .int .i64 a0_2, .int .i64 a0_3, .slice A0_4 l0_4.length c0_4] 58 ?_; intro gb483 hg w3 hbox hb; have n_ := ak4 (below_step (bq HB.out) hb) hbox ((by rw [hg]; exact (below_size (bq HB.out)) : w.heap.size ≤ gb483)) ((by rw [hg]; exact (below_size (bq HB.out)) : w.heap.size ≤ gb483)); clear HB; obtain ⟨HB, BK483, GW483, GE483⟩ := n_; clear hb hbox hg; obtain ⟨hcz4_0, hcz4_1, hcz4_2, hcz4_3, hcz4_4, hfz4_0, hfz4_1, hfz4_2, hfz4_3, hfz4_4⟩ := cl5 BK483.out))
 (try simp only [Act.put, List.setIfInBounds_toArray, List.set_cons_zero, List.set_cons_succ])
 go_cut [] (fun wc => ∃ (kq : Nat), Aside0 (impl_PduOk.j2 kq a0_0 a0_1 a0_2 a0_3 l0_4 = some r) ∧ Aside0 (kq ≤ k) ∧ Aside0 (wc.heap[gb483]? = some (.cells #[.int .i64 a0_0, .int .i64 a0_1, .int .i64 a0_2, .int .i64 a0_3, (.slice A0_4 l0_4.length c0_4)] 58 (0, 0))) ∧ Aside0 (Below w.heap.size w wc))
 case first =>
  have H := HC2.out
  clear HC2
  have HC5 := am H
  clear H
  go_upto_if 7 with (fail)
  go_cut [7] (fun v7 wc => ∃ (kq : Nat) (x7_4 : Bool), v7 = .bool x7_4 ∧ Aside0 (impl_PduOk.j0 kq a0_0 x7_4 a0_0 a0_1 a0_2 a0_3 l0_4 = some r) ∧ Aside0 (kq ≤ k) ∧ Aside0 (wc.heap[gb483]? = some (.cells #[.int .i64 a0_0, .int .i64 a0_1, .int .i64 a0_2, .int .i64 a0_3, (.slice A0_4 l0_4.length c0_4)] 58 (0, 0))) ∧ Aside0 (Below w.heap.size w wc))
  case first =>
   have H := HC5.out
   clear HC5
   by_cases c6 : a0_0 = 160
   · rw [if_pos c6] at H
     have c6b0 : (a0_0 == 160) = true := beq_iff_eq.mpr c6
     have c6b1 : (a0_0 != 160) = false := bne_eq_false_iff_eq.mpr c6
     clear c6
     (first | rw [c6b0] | (simp only [i64_w, i32_w]; rw [c6b0]) | skip)
     have H' := am H
     clear H
     go_wp2
     go_meet
     case rel => exact ⟨_, ((a0_0 == 160)), sq, H', ⟨by first | omega | exact Nat.le_refl _⟩, ⟨zq BK483.out⟩, ⟨bq1 HB.out GE483.out⟩⟩
   rw [if_neg c6] at H
   have c6b0 : (a0_0 == 160) = false := beq_eq_false_iff_ne.mpr c6
   have c6b1 : (a0_0 != 160) = true := bne_iff_ne.mpr c6
   (first | rw [c6b0] | (simp only [i64_w, i32_w]; rw [c6b0]) | skip)
   by_cases c7 : a0_0 = 161
   rotate_left
   · rw [if_neg c7] at H
     have c7b0 : (a0_0 == 161) = false := beq_eq_false_iff_ne.mpr c7
     have c7b1 : (a0_0 != 161) = true := bne_iff_ne.mpr c7
     have H' := am H
     clear H
     go_wp2
     go_meet
     case rel => exact ⟨_, ((a0_0 == 163)), sq, H', ⟨by first | omega | exact Nat.le_refl _⟩, ⟨zq BK483.out⟩, ⟨bq1 HB.out GE483.out⟩⟩
   rw [if_pos c7] at H
   have c7b0 : (a0_0 == 161) = true := beq_iff_eq.mpr c7
   have c7b1 : (a0_0 != 161) = false := bne_eq_false_iff_eq.mpr c7
   clear c7
   have H' := am H
   clear H
   go_wp2
   go_meet
   case rel => exact ⟨_, ((a0_0 == 161)), sq, H', ⟨by first | omega | exact Nat.le_refl _⟩, ⟨zq BK483.out⟩, ⟨bq1 HB.out GE483.out⟩⟩
  case rest =>
   clear HC5
   try clear p2
   try clear c6
   try clear c6b0
   try clear c6b1
   try clear c7
   try clear c7b0
   try clear c7b1
   try clear hcz4_0
   try clear hcz4_1
   try clear hcz4_2
   try clear hcz4_3
   try clear hcz4_4
   try clear hfz4_0
   try clear hfz4_1
   try clear hfz4_2
   try clear hfz4_3
   try clear hfz4_4
   obtain ⟨kq, x7_4, rfl, HA, HJ4, BK483, HB⟩ := hcut
   cases kq with
   | zero => exact absurd HA.out (by simp [impl_PduOk.j0])
   | succ kj4 =>
    have H := HA.out
    clear HA
    simp only [impl_PduOk.j0] at H
    by_cases c8 : x7_4 = true
    · subst c8
      replace H : (if a0_2 = 0 then (if a0_3 = 0 then (impl_PduOk.j2 kj4 a0_0 a0_1 a0_2 a0_3 l0_4) else (some false)) else (some false)) = some r := by rw [if_pos rfl] at H; exact H
      by_cases c9 : a0_2 = 0
      rotate_left
      · rw [if_neg c9] at H
        have c9b0 : (a0_2 == 0) = false := beq_eq_false_iff_ne.mpr c9
        have c9b1 : (a0_2 != 0) = true := bne_iff_ne.mpr c9
        obtain rfl := Option.some.inj H
        obtain ⟨hcz13_0, hcz13_1, hcz13_2, hcz13_3, hcz13_4, hfz13_0, hfz13_1, hfz13_2, hfz13_3, hfz13_4⟩ := cl5 BK483.out
        go_wp2
        go_ret
        exact ⟨rq, bq1 HB.out GE483.out⟩
      rw [if_pos c9] at H
      have c9b0 : (a0_2 == 0) = true := beq_iff_eq.mpr c9
      have c9b1 : (a0_2 != 0) = false := bne_eq_false_iff_eq.mpr c9
      clear c9
      by_cases c10 : a0_3 = 0
      rotate_left
      · rw [if_neg c10] at H
        have c10b0 : (a0_3 == 0) = false := beq_eq_false_iff_ne.mpr c10
        have c10b1 : (a0_3 != 0) = true := bne_iff_ne.mpr c10
        obtain rfl := Option.some.inj H
        obtain ⟨hcz12_0, hcz12_1, hcz12_2, hcz12_3, hcz12_4, hfz12_0, hfz12_1, hfz12_2, hfz12_3, hfz12_4⟩ := cl5 BK483.out
        go_wp2
        go_ret
        exact ⟨rq, bq1 HB.out GE483.out⟩
      rw [if_pos c10] at H
      have c10b0 : (a0_3 == 0) = true := beq_iff_eq.mpr c10
      have c10b1 : (a0_3 != 0) = false := bne_eq_false_iff_eq.mpr c10
      clear c10
      have H' := am H
      clear H
      obtain ⟨hcz11_0, hcz11_1, hcz11_2, hcz11_3, hcz11_4, hfz11_0, hfz11_1, hfz11_2, hfz11_3, hfz11_4⟩ := cl5 BK483.out
      go_wp2
      go_meet
      case rel => exact ⟨_, H', ⟨by have := HJ4.out; first | omega | exact Nat.le_refl _⟩, ⟨zq BK483.out⟩, ⟨bq1 HB.out GE483.out⟩⟩
    replace c8 := Bool.eq_false_iff.mpr c8
    subst c8
    replace H : (if a0_0 = 162 then (impl_PduOk.j1 kj4 (a0_0 == 162) a0_0 a0_1 a0_2 a0_3 l0_4) else (impl_PduOk.j1 kj4 (a0_0 == 165) a0_0 a0_1 a0_2 a0_3 l0_4)) = some r := by rw [if_neg (show ¬ (false = true) by decide)] at H; exact H
    have HC14 := am H
    clear H
    go_upto_if 19 with (fail)
    go_cut [19] (fun v19 wc => ∃ (kq : Nat) (x19_13 : Bool), v19 = .bool x19_13 ∧ Aside0 (impl_PduOk.j1 kq x19_13 a0_0 a0_1 a0_2 a0_3 l0_4 = some r) ∧ Aside0 (kq ≤ kj4) ∧ Aside0 (wc.heap[gb483]? = some (.cells #[.int .i64 a0_0, .int .i64 a0_1, .int .i64 a0_2, .int .i64 a0_3, (.slice A0_4 l0_4.length c0_4)] 58 (0, 0))) ∧ Aside0 (Below w.heap.size w wc))
    case first =>
     have H := HC14.out
     clear HC14
     by_cases c15 : a0_0 = 162
     rotate_left
     · rw [if_neg c15] at H
       have c15b0 : (a0_0 == 162) = false := beq_eq_false_iff_ne.mpr c15
       have c15b1 : (a0_0 != 162) = true := bne_iff_ne.mpr c15
       (first | rw [c15b0] | (simp only [i64_w, i32_w]; rw [c15b0]) | skip)
       have H' := am H
       clear H
       go_wp2
       go_meet
       case rel => exact ⟨_, ((a0_0 == 165)), sq, H', ⟨by have := HJ4.out; first | omega | exact Nat.le_refl _⟩, ⟨zq BK483.out⟩, ⟨bq1 HB.out GE483.out⟩⟩
     rw [if_pos c15] at H
     have c15b0 : (a0_0 == 162) = true := beq_iff_eq.mpr c15
     have c15b1 : (a0_0 != 162) = false := bne_eq_false_iff_eq.mpr c15
     clear c15
     (first | rw [c15b0] | (simp only [i64_w, i32_w]; rw [c15b0]) | skip)
     have H' := am H
     clear H
     go_wp2
     go_meet
     case rel => exact ⟨_, ((a0_0 == 162)), sq, H', ⟨by have := HJ4.out; first | omega | exact Nat.le_refl _⟩, ⟨zq BK483.out⟩, ⟨bq1 HB.out GE483.out⟩⟩
    case rest =>
     clear HC14
     try clear c1
     try clear p2
     try clear c6
     try clear c6b0
     try clear c6b1
     try clear c7
     try clear c7b0
     try clear c7b1
     try clear c8
     try clear c9
     try clear c9b0
     try clear c9b1
     try clear c10
     try clear c10b0
     try clear c10b1
     try clear c15
     try clear c15b0
     try clear c15b1
     try clear hcz11_0
     try clear hcz11_1
     try clear hcz11_2
     try clear hcz11_3
     try clear hcz11_4
     try clear hcz12_0
     try clear hcz12_1
     try clear hcz12_2
     try clear hcz12_3
     try clear hcz12_4
     try clear hcz13_0
     try clear hcz13_1
     try clear hcz13_2
     try clear hcz13_3
     try clear hcz13_4
     try clear hcz4_0
     try clear hcz4_1
     try clear hcz4_2
     try clear hcz4_3
     try clear hcz4_4
     try clear hfz11_0
     try clear hfz11_1
     try clear hfz11_2
     try clear hfz11_3
     try clear hfz11_4
     try clear hfz12_0
     try clear hfz12_1
     try clear hfz12_2
     try clear hfz12_3
     try clear hfz12_4
     try clear hfz13_0
     try clear hfz13_1
     try clear hfz13_2
     try clear hfz13_3
     try clear hfz13_4
     try clear hfz4_0
     try clear hfz4_1
     try clear hfz4_2
     try clear hfz4_3
     try clear hfz4_4
     try clear p2
     obtain ⟨kq, x19_13, rfl, HA, HJ13, BK483, HB⟩ := hcut
     cases kq with
     | zero => exact absurd HA.out (by simp [impl_PduOk.j1])
     | succ kj13 =>
      have H := HA.out
      clear HA
      simp only [impl_PduOk.j1] at H
      by_cases c16 : x19_13 = true
      rotate_left
      · replace c16 := Bool.eq_false_iff.mpr c16
        subst c16
        replace H : (some false) = some r := by rw [if_neg (show ¬ (false = true) by decide)] at H; exact H
        obtain rfl := Option.some.inj H
        go_wp2
        go_ret
        exact ⟨rq, bq1 HB.out GE483.out⟩
      subst c16
      replace H : ((impl_in.f a0_2 0 1000).bind fun t484 => (if t484 = true then ((impl_in.f a0_3 0 1000).bind fun t485 => (if t485 = true then (impl_PduOk.j2 kj13 a0_0 a0_1 a0_2 a0_3 l0_4) else (some false))) else (some false))) = some r := by rw [if_pos rfl] at H; exact H
      replace H := Option.bind_eq_some_iff.mp H
      obtain ⟨t484, A170, H⟩ := H
      replace H : (if t484 = true then ((impl_in.f a0_3 0 1000).bind fun t485 => (if t485 = true then (impl_PduOk.j2 kj13 a0_0 a0_1 a0_2 a0_3 l0_4) else (some false))) else (some false)) = some r := H
      have A17 := am A170
      clear A170
      by_cases c18 : t484 = true
      rotate_left
      · replace c18 := Bool.eq_false_iff.mpr c18
        subst c18
        replace H : (some false) = some r := by rw [if_neg (show ¬ (false = true) by decide)] at H; exact H
        obtain rfl := Option.some.inj H
        obtain ⟨hcz23_0, hcz23_1, hcz23_2, hcz23_3, hcz23_4, hfz23_0, hfz23_1, hfz23_2, hfz23_3, hfz23_4⟩ := cl5 BK483.out
        go_wp2_with (first | ((with_reducible refine gate_callee (f := 87) rfl ?_); refine goesL_ (some 24) rfl rfl Try.func87 (by kernel_rfl) rfl #[.int .i64 a0_2, .int .i64 0, .int .i64 1000] rfl ga ?_; (with_reducible refine (impl_in.calls a0_2 0 1000 false _ A17.out).mono ?_); rintro e w' ⟨rfl, ⟨nd, rfl⟩⟩; refine ⟨_, rfl, ?_⟩))
        go_ret
        exact ⟨rq, bq1 HB.out GE483.out⟩
      subst c18
      replace H : ((impl_in.f a0_3 0 1000).bind fun t485 => (if t485 = true then (impl_PduOk.j2 kj13 a0_0 a0_1 a0_2 a0_3 l0_4) else (some false))) = some r := by rw [if_pos rfl] at H; exact H
      replace H := Option.bind_eq_some_iff.mp H
      obtain ⟨t485, A190, H⟩ := H
      replace H : (if t485 = true then (impl_PduOk.j2 kj13 a0_0 a0_1 a0_2 a0_3 l0_4) else (some false)) = some r := H
      have A19 := am A190
      clear A190
      by_cases c20 : t485 = true
      rotate_left
      · replace c20 := Bool.eq_false_iff.mpr c20
        subst c20
        replace H : (some false) = some r := by rw [if_neg (show ¬ (false = true) by decide)] at H; exact H
        obtain rfl := Option.some.inj H
        obtain ⟨hcz22_0, hcz22_1, hcz22_2, hcz22_3, hcz22_4, hfz22_0, hfz22_1, hfz22_2, hfz22_3, hfz22_4⟩ := cl5 BK483.out
        go_wp2_with (first | ((with_reducible refine gate_callee (f := 87) rfl ?_); refine goesL_ (some 24) rfl rfl Try.func87 (by kernel_rfl) rfl #[.int .i64 a0_2, .int .i64 0, .int .i64 1000] rfl ga ?_; (with_reducible refine (impl_in.calls a0_2 0 1000 true _ A17.out).mono ?_); rintro e w' ⟨rfl, ⟨nd, rfl⟩⟩; refine ⟨_, rfl, ?_⟩) | (go_at_call 87; (with_reducible refine (impl_in.calls a0_3 0 1000 false _ A19.out).mono ?_); rintro e w' ⟨rfl, ⟨nd, rfl⟩⟩))
        go_ret
        exact ⟨rq, bq1 HB.out GE483.out⟩
      subst c20
      replace H : (impl_PduOk.j2 kj13 a0_0 a0_1 a0_2 a0_3 l0_4) = some r := by rw [if_pos rfl] at H; exact H
      have H' := am H
      clear H
      obtain ⟨hcz21_0, hcz21_1, hcz21_2, hcz21_3, hcz21_4, hfz21_0, hfz21_1, hfz21_2, hfz21_3, hfz21_4⟩ := cl5 BK483.out
      go_wp2_with (first | ((with_reducible refine gate_callee (f := 87) rfl ?_); refine goesL_ (some 24) rfl rfl Try.func87 (by kernel_rfl) rfl #[.int .i64 a0_2, .int .i64 0, .int .i64 1000] rfl ga ?_; (with_reducible refine (impl_in.calls a0_2 0 1000 true _ A17.out).mono ?_); rintro e w' ⟨rfl, ⟨nd, rfl⟩⟩; refine ⟨_, rfl, ?_⟩) | (go_at_call 87; (with_reducible refine (impl_in.calls a0_3 0 1000 true _ A19.out).mono ?_); rintro e w' ⟨rfl, ⟨nd, rfl⟩⟩))
      go_meet
      case rel => exact ⟨_, H', ⟨by have := HJ4.out; have := HJ13.out; first | omega | exact Nat.le_refl _⟩, ⟨zq BK483.out⟩, ⟨bq1 HB.out GE483.out⟩⟩
 case rest =>
  clear HC2
  try clear c1
  try clear c2
  try clear p2
  try clear c6
  try clear c6b0
  try clear c6b1
  try clear c7
  try clear c7b0
  try clear c7b1
  try clear c8
  try clear c9
  try clear c9b0
  try clear c9b1
  try clear c10
  try clear c10b0
  try clear c10b1
  try clear c15
  try clear c15b0
  try clear c15b1
  try clear c16
  try clear c18
  try clear c20
  try clear hcz11_0
  try clear hcz11_1
  try clear hcz11_2
  try clear hcz11_3
  try clear hcz11_4
  try clear hcz12_0
  try clear hcz12_1
  try clear hcz12_2
  try clear hcz12_3
  try clear hcz12_4
  try clear hcz13_0
  try clear hcz13_1
  try clear hcz13_2
  try clear hcz13_3
  try clear hcz13_4
  try clear hcz21_0
  try clear hcz21_1
  try clear hcz21_2
  try clear hcz21_3
  try clear hcz21_4
  try clear hcz22_0
  try clear hcz22_1
  try clear hcz22_2
  try clear hcz22_3
  try clear hcz22_4
  try clear hcz23_0
  try clear hcz23_1
  try clear hcz23_2
  try clear hcz23_3
  try clear hcz23_4
  try clear hcz4_0
  try clear hcz4_1
  try clear hcz4_2
  try clear hcz4_3
  try clear hcz4_4
  try clear hfz11_0
  try clear hfz11_1
  try clear hfz11_2
  try clear hfz11_3
  try clear hfz11_4
  try clear hfz12_0
  try clear hfz12_1
  try clear hfz12_2
  try clear hfz12_3
  try clear hfz12_4
  try clear hfz13_0
  try clear hfz13_1
  try clear hfz13_2
  try clear hfz13_3
  try clear hfz13_4
  try clear hfz21_0
  try clear hfz21_1
  try clear hfz21_2
  try clear hfz21_3
  try clear hfz21_4
  try clear hfz22_0
  try clear hfz22_1
  try clear hfz22_2
  try clear hfz22_3
  try clear hfz22_4
  try clear hfz23_0
  try clear hfz23_1
  try clear hfz23_2
  try clear hfz23_3
  try clear hfz23_4
  try clear hfz4_0
  try clear hfz4_1
  try clear hfz4_2
  try clear hfz4_3
  try clear hfz4_4
  try clear p2
  obtain ⟨kq, HA, HJ1, BK483, HB⟩ := hcut
  cases kq with
  | zero => exact absurd HA.out (by simp [impl_PduOk.j2])
  | succ kj1 =>
   have H := HA.out
   clear HA
   simp only [impl_PduOk.j2] at H
   have H' := am H
   clear H
   obtain ⟨hcz24_0, hcz24_1, hcz24_2, hcz24_3, hcz24_4, hfz24_0, hfz24_1, hfz24_2, hfz24_3, hfz24_4⟩ := cl5 BK483.out
   go_wp2
   go_loopg [35] kj1 (fun kq v35 w' => ∃ (x35_2 : Int), v35 = .int .i64 x35_2 ∧ Aside0 (impl_PduOk.l0 kq l0_4 (l0_4.length : Int) x35_2 a0_0 a0_1 a0_2 a0_3 l0_4 = some r) ∧ Aside0 (kq ≤ kj1) ∧ Aside0 (w'.heap[gb483]? = some (.cells #[.int .i64 a0_0, .int .i64 a0_1, .int .i64 a0_2, .int .i64 a0_3, (.slice A0_4 l0_4.length c0_4)] 58 (0, 0))) ∧ Aside0 (Below w.heap.size w w'))
   case atStart => exact ⟨(0), sq, H', ⟨Nat.le_refl _⟩, ⟨zq BK483.out⟩, ⟨bq1 HB.out GE483.out⟩⟩
   case round =>
    clear H'
    try clear c1
    try clear c2
    try clear p2
    try clear c6
    try clear c6b0
    try clear c6b1
    try clear c7
    try clear c7b0
    try clear c7b1
    try clear c8
    try clear c9
    try clear c9b0
    try clear c9b1
    try clear c10
    try clear c10b0
    try clear c10b1
    try clear c15
    try clear c15b0
    try clear c15b1
    try clear c16
    try clear c18
    try clear c20
    try clear hcz11_0
    try clear hcz11_1
    try clear hcz11_2
    try clear hcz11_3
    try clear hcz11_4
    try clear hcz12_0
    try clear hcz12_1
    try clear hcz12_2
    try clear hcz12_3
    try clear hcz12_4
    try clear hcz13_0
    try clear hcz13_1
    try clear hcz13_2
    try clear hcz13_3
    try clear hcz13_4
    try clear hcz21_0
    try clear hcz21_1
    try clear hcz21_2
    try clear hcz21_3
    try clear hcz21_4
    try clear hcz22_0
    try clear hcz22_1
    try clear hcz22_2
    try clear hcz22_3
    try clear hcz22_4
    try clear hcz23_0
    try clear hcz23_1
    try clear hcz23_2
    try clear hcz23_3
    try clear hcz23_4
    try clear hcz24_0
    try clear hcz24_1
    try clear hcz24_2
    try clear hcz24_3
    try clear hcz24_4
    try clear hcz4_0
    try clear hcz4_1
    try clear hcz4_2
    try clear hcz4_3
    try clear hcz4_4
    try clear hfz11_0
    try clear hfz11_1
    try clear hfz11_2
    try clear hfz11_3
    try clear hfz11_4
    try clear hfz12_0
    try clear hfz12_1
    try clear hfz12_2
    try clear hfz12_3
    try clear hfz12_4
    try clear hfz13_0
    try clear hfz13_1
    try clear hfz13_2
    try clear hfz13_3
    try clear hfz13_4
    try clear hfz21_0
    try clear hfz21_1
    try clear hfz21_2
    try clear hfz21_3
    try clear hfz21_4
    try clear hfz22_0
    try clear hfz22_1
    try clear hfz22_2
    try clear hfz22_3
    try clear hfz22_4
    try clear hfz23_0
    try clear hfz23_1
    try clear hfz23_2
    try clear hfz23_3
    try clear hfz23_4
    try clear hfz24_0
    try clear hfz24_1
    try clear hfz24_2
    try clear hfz24_3
    try clear hfz24_4
    try clear hfz4_0
    try clear hfz4_1
    try clear hfz4_2
    try clear hfz4_3
    try clear hfz4_4
    try clear p2
    obtain ⟨x35_2, rfl, HA, HK2, BK483, HB⟩ := hrel
    cases gk with
    | zero => exact absurd HA.out (by simp [impl_PduOk.l0])
    | succ k2 =>
     have H := HA.out
     clear HA
     simp only [impl_PduOk.l0] at H
     by_cases c25 : x35_2 < (l0_4.length : Int)
     rotate_left
     · rw [if_neg c25] at H
       have c25b0 : decide (x35_2 < (l0_4.length : Int)) = false := decide_eq_false c25
       clear c25
       replace H := Option.bind_eq_some_iff.mp H
       obtain ⟨t486, A540, H⟩ := H
       replace H : (some t486) = some r := H
       have A54 := am A540
       clear A540
       obtain rfl := Option.some.inj H
       obtain ⟨hcz55_0, hcz55_1, hcz55_2, hcz55_3, hcz55_4, hfz55_0, hfz55_1, hfz55_2, hfz55_3, hfz55_4⟩ := cl5 BK483.out
       go_wp2_with (first | ((with_reducible refine gate_callee (f := 107) rfl ?_); refine goesL_ (some 57) rfl rfl Try.func107 (by kernel_rfl) rfl #[.int .i64 a0_1] rfl ga ?_; (with_reducible refine (impl_isInt.calls a0_1 t486 _ A54.out).mono ?_); rintro e w' ⟨rfl, ⟨nd, rfl⟩⟩; refine ⟨_, rfl, ?_⟩))
       go_ret
       exact ⟨rq, bq1 HB.out GE483.out⟩
     rw [if_pos c25] at H
     have c25b0 : decide (x35_2 < (l0_4.length : Int)) = true := decide_eq_true c25
     clear c25
     by_cases c26 : 0 ≤ x35_2
     rotate_left
     · rw [if_neg c26] at H
       exact absurd H (by simp)
     rw [if_pos c26] at H
     have c26b0 : decide (0 ≤ x35_2) = true := decide_eq_true c26
     clear c26
     by_cases c27 : x35_2 < (l0_4.length : Int)
     rotate_left
     · rw [if_neg c27] at H
       exact absurd H (by simp)
     rw [if_pos c27] at H
     have c27b0 : decide (x35_2 < (l0_4.length : Int)) = true := decide_eq_true c27
     clear c27
     by_cases c28 : x35_2 ≥ 10
     · rw [if_pos c28] at H
       have c28b0 : decide (10 ≤ x35_2) = true := decide_eq_true c28
       clear c28
       obtain rfl := Option.some.inj H
       have p487 : 0 ≤ (x35_2 : Int) := oda
       have q487 : x35_2 < (l0_4.length : Int) := oda
       obtain ⟨ad487, A487_0, c487_0, A487_4, c487_4, e487, hx487_0, hx487_1, hx487_2, hx487_3, hx487_4, hl487_0, hi487_0, hl487_4, hi487_4⟩ := at_T116 HR0_4.out x35_2 p487 q487
       cases e487
       replace hx487_0 := (HB.out.cell (World.block_lt_of_cell? w _ hx487_0)).trans hx487_0
       replace hx487_1 := (HB.out.cell (World.block_lt_of_cell? w _ hx487_1)).trans hx487_1
       replace hx487_2 := (HB.out.cell (World.block_lt_of_cell? w _ hx487_2)).trans hx487_2
       replace hx487_3 := (HB.out.cell (World.block_lt_of_cell? w _ hx487_3)).trans hx487_3
       replace hx487_4 := (HB.out.cell (World.block_lt_of_cell? w _ hx487_4)).trans hx487_4
       have HR487_0 := am hi487_0
       have HC487_0 := am hl487_0
       clear hi487_0 hl487_0
       have HR487_4 := am hi487_4
       have HC487_4 := am hl487_4
       clear hi487_4 hl487_4
       replace p487 := eq_true p487
       replace q487 := eq_true q487
       go_wp2_with (first | ((with_reducible refine gate_dst (N := 4) rfl ?_); refine bxe 4 #[.slice none 0 0, .int .i64 0, .int .i64 0, .string (⟨#[]⟩ : ByteArray), .slice none 0 0] 116 ?_; intro gb488 hg w29 hbox hb; have n_ := ak7 (blk_below (zb BK483.out) hb) (below_step (bq1 HB.out GE483.out) hb) hbox ((by rw [hg]; exact (below_size (bq1 HB.out GE483.out)) : w.heap.size ≤ gb488)) ((by rw [hg]; exact (below_size (bq1 HB.out GE483.out)) : w.heap.size ≤ gb488)) ((nlt hg (zb BK483.out) : gb483 ≠ gb488)) ((ngt hg (zb BK483.out) : gb488 ≠ gb483)); clear BK483 HB; obtain ⟨BK483, HB, BK488, GW488, GE488, NB483_488, NB488_483⟩ := n_; clear hb hbox hg; have hnb30 := NB488_483.out; have hnc30 := NB483_488.out; obtain ⟨hcz31_0, hcz31_1, hcz31_2, hcz31_3, hcz31_4, hfz31_0, hfz31_1, hfz31_2, hfz31_3, hfz31_4⟩ := cl5 BK488.out) | ((with_reducible refine gate_store (t := 116) (p := 4) rfl ?_); refine store_event (t := 116) (p := 4) (v := ?vo_w32) (w1 := (((((w29.setCell ⟨gb488, 0, none⟩ (.slice A487_0 ((rd_T116 l0_4 x35_2).f0).length c487_0)).setCell ⟨gb488, 1, none⟩ (.int .i64 ((rd_T116 l0_4 x35_2).f1.f0))).setCell ⟨gb488, 2, none⟩ (.int .i64 ((rd_T116 l0_4 x35_2).f1.f1))).setCell ⟨gb488, 3, none⟩ (.string ((rd_T116 l0_4 x35_2).f1.f2))).setCell ⟨gb488, 4, none⟩ (.slice A487_4 ((rd_T116 l0_4 x35_2).f1.f3).length c487_4))) ?hg ?ho ?hn ?hr ?_; (case ho => rfl); (case hg => rfl); (case hn => rfl); (case hr => exact gs); intro w32 hw; have n_ : Aside0 (w32.heap[gb483]? = some (.cells #[.int .i64 a0_0, .int .i64 a0_1, .int .i64 a0_2, .int .i64 a0_3, .slice (some ad487) l0_4.length c0_4] 58 (0, 0))) ∧ Aside0 (w32.heap[gb488]? = some (.cells #[.slice A487_0 ((rd_T116 l0_4 x35_2).f0).length c487_0, .int .i64 ((rd_T116 l0_4 x35_2).f1.f0), .int .i64 ((rd_T116 l0_4 x35_2).f1.f1), .string ((rd_T116 l0_4 x35_2).f1.f2), .slice A487_4 ((rd_T116 l0_4 x35_2).f1.f3).length c487_4] 116 (0, 0))) ∧ Aside0 (Below w.heap.size w w32) := ⟨⟨(by rw [hw]; exact (by refine zr ?_; refine blk_far ?_ NB483_488.out _; refine zr ?_; refine blk_far ?_ NB483_488.out _; refine zr ?_; refine blk_far ?_ NB483_488.out _; refine zr ?_; refine blk_far ?_ NB483_488.out _; refine zr ?_; refine blk_far ?_ NB483_488.out _; refine zr ?_; exact BK483.out))⟩, ⟨(by rw [hw]; exact (by refine zr ?_; exact bp5 (zb BK488.out)))⟩, ⟨(by rw [hw]; exact (bq2 HB.out GE483.out GE488.out))⟩⟩; clear hw BK483 BK488 HB; obtain ⟨BK483, BK488, HB⟩ := n_))
       go_ret
       exact ⟨rq, bq2 HB.out GE483.out GE488.out⟩
     rw [if_neg c28] at H
     have c28b0 : decide (10 ≤ x35_2) = false := decide_eq_false c28
     clear c28
     replace H := Option.bind_eq_some_iff.mp H
     obtain ⟨t489, A330, H⟩ := H
     replace H : (if t489 = true then ((impl_ValOk.f k2 ((rd_T116 l0_4 x35_2).f1.f0) ((rd_T116 l0_4 x35_2).f1.f1) ((rd_T116 l0_4 x35_2).f1.f2) ((rd_T116 l0_4 x35_2).f1.f3)).bind fun t490 => (if t490 = true then (impl_PduOk.l0 k2 l0_4 (l0_4.length : Int) (wrap64 (x35_2 + 1)) a0_0 a0_1 a0_2 a0_3 l0_4) else (some false))) else (some false)) = some r := H
     have A33 := am A330
     clear A330
     by_cases c34 : t489 = true
     rotate_left
     · replace c34 := Bool.eq_false_iff.mpr c34
       subst c34
       replace H : (some false) = some r := by rw [if_neg (show ¬ (false = true) by decide)] at H; exact H
       obtain rfl := Option.some.inj H
       have p487 : 0 ≤ (x35_2 : Int) := oda
       have q487 : x35_2 < (l0_4.length : Int) := oda
       obtain ⟨ad487, A487_0, c487_0, A487_4, c487_4, e487, hx487_0, hx487_1, hx487_2, hx487_3, hx487_4, hl487_0, hi487_0, hl487_4, hi487_4⟩ := at_T116 HR0_4.out x35_2 p487 q487
       cases e487
       replace hx487_0 := (HB.out.cell (World.block_lt_of_cell? w _ hx487_0)).trans hx487_0
       replace hx487_1 := (HB.out.cell (World.block_lt_of_cell? w _ hx487_1)).trans hx487_1
       replace hx487_2 := (HB.out.cell (World.block_lt_of_cell? w _ hx487_2)).trans hx487_2
       replace hx487_3 := (HB.out.cell (World.block_lt_of_cell? w _ hx487_3)).trans hx487_3
       replace hx487_4 := (HB.out.cell (World.block_lt_of_cell? w _ hx487_4)).trans hx487_4
       have HR487_0 := am hi487_0
       have HC487_0 := am hl487_0
       clear hi487_0 hl487_0
       have HR487_4 := am hi487_4
       have HC487_4 := am hl487_4
       clear hi487_4 hl487_4
       replace p487 := eq_true p487
       replace q487 := eq_true q487
       go_wp2_with (first | ((with_reducible refine gate_dst (N := 4) rfl ?_); refine bxe 4 #[.slice none 0 0, .int .i64 0, .int .i64 0, .string (⟨#[]⟩ : ByteArray), .slice none 0 0] 116 ?_; intro gb488 hg w49 hbox hb; have n_ := ak7 (blk_below (zb BK483.out) hb) (below_step (bq1 HB.out GE483.out) hb) hbox ((by rw [hg]; exact (below_size (bq1 HB.out GE483.out)) : w.heap.size ≤ gb488)) ((by rw [hg]; exact (below_size (bq1 HB.out GE483.out)) : w.heap.size ≤ gb488)) ((nlt hg (zb BK483.out) : gb483 ≠ gb488)) ((ngt hg (zb BK483.out) : gb488 ≠ gb483)); clear BK483 HB; obtain ⟨BK483, HB, BK488, GW488, GE488, NB483_488, NB488_483⟩ := n_; clear hb hbox hg; have hnb50 := NB488_483.out; have hnc50 := NB483_488.out; obtain ⟨hcz51_0, hcz51_1, hcz51_2, hcz51_3, hcz51_4, hfz51_0, hfz51_1, hfz51_2, hfz51_3, hfz51_4⟩ := cl5 BK488.out) | ((with_reducible refine gate_store (t := 116) (p := 4) rfl ?_); refine store_event (t := 116) (p := 4) (v := ?vo_w52) (w1 := (((((w49.setCell ⟨gb488, 0, none⟩ (.slice A487_0 ((rd_T116 l0_4 x35_2).f0).length c487_0)).setCell ⟨gb488, 1, none⟩ (.int .i64 ((rd_T116 l0_4 x35_2).f1.f0))).setCell ⟨gb488, 2, none⟩ (.int .i64 ((rd_T116 l0_4 x35_2).f1.f1))).setCell ⟨gb488, 3, none⟩ (.string ((rd_T116 l0_4 x35_2).f1.f2))).setCell ⟨gb488, 4, none⟩ (.slice A487_4 ((rd_T116 l0_4 x35_2).f1.f3).length c487_4))) ?hg ?ho ?hn ?hr ?_; (case ho => rfl); (case hg => rfl); (case hn => rfl); (case hr => exact gs); intro w52 hw; have n_ : Aside0 (w52.heap[gb483]? = some (.cells #[.int .i64 a0_0, .int .i64 a0_1, .int .i64 a0_2, .int .i64 a0_3, .slice (some ad487) l0_4.length c0_4] 58 (0, 0))) ∧ Aside0 (w52.heap[gb488]? = some (.cells #[.slice A487_0 ((rd_T116 l0_4 x35_2).f0).length c487_0, .int .i64 ((rd_T116 l0_4 x35_2).f1.f0), .int .i64 ((rd_T116 l0_4 x35_2).f1.f1), .string ((rd_T116 l0_4 x35_2).f1.f2), .slice A487_4 ((rd_T116 l0_4 x35_2).f1.f3).length c487_4] 116 (0, 0))) ∧ Aside0 (Below w.heap.size w w52) := ⟨⟨(by rw [hw]; exact (by refine zr ?_; refine blk_far ?_ NB483_488.out _; refine zr ?_; refine blk_far ?_ NB483_488.out _; refine zr ?_; refine blk_far ?_ NB483_488.out _; refine zr ?_; refine blk_far ?_ NB483_488.out _; refine zr ?_; refine blk_far ?_ NB483_488.out _; refine zr ?_; exact BK483.out))⟩, ⟨(by rw [hw]; exact (by refine zr ?_; exact bp5 (zb BK488.out)))⟩, ⟨(by rw [hw]; exact (bq2 HB.out GE483.out GE488.out))⟩⟩; clear hw BK483 BK488 HB; obtain ⟨BK483, BK488, HB⟩ := n_; obtain ⟨hcz53_0, hcz53_1, hcz53_2, hcz53_3, hcz53_4, hfz53_0, hfz53_1, hfz53_2, hfz53_3, hfz53_4⟩ := cl5 BK488.out) | (go_at_call 108; (with_reducible refine (impl_OidOk.calls k2 _ _ ((rd_T116 l0_4 x35_2).f0) false _ ?side1 ?side2 A33.out).mono ?_); (case side1 => exact cq (Kd.C_below HR487_0.out HB.out)); (case side2 => exact HC487_0.out); rintro e w' ⟨rfl, ⟨nd, rfl⟩⟩))
       go_ret
       exact ⟨rq, bq2 HB.out GE483.out GE488.out⟩
     subst c34
     replace H : ((impl_ValOk.f k2 ((rd_T116 l0_4 x35_2).f1.f0) ((rd_T116 l0_4 x35_2).f1.f1) ((rd_T116 l0_4 x35_2).f1.f2) ((rd_T116 l0_4 x35_2).f1.f3)).bind fun t490 => (if t490 = true then (impl_PduOk.l0 k2 l0_4 (l0_4.length : Int) (wrap64 (x35_2 + 1)) a0_0 a0_1 a0_2 a0_3 l0_4) else (some false))) = some r := by rw [if_pos rfl] at H; exact H
     replace H := Option.bind_eq_some_iff.mp H
     obtain ⟨t490, A350, H⟩ := H
     replace H : (if t490 = true then (impl_PduOk.l0 k2 l0_4 (l0_4.length : Int) (wrap64 (x35_2 + 1)) a0_0 a0_1 a0_2 a0_3 l0_4) else (some false)) = some r := H
     have A35 := am A350
     clear A350
     by_cases c36 : t490 = true
     rotate_left
     · replace c36 := Bool.eq_false_iff.mpr c36
       subst c36
       replace H : (some false) = some r := by rw [if_neg (show ¬ (false = true) by decide)] at H; exact H
       obtain rfl := Option.some.inj H
       have p487 : 0 ≤ (x35_2 : Int) := oda
       have q487 : x35_2 < (l0_4.length : Int) := oda
       obtain ⟨ad487, A487_0, c487_0, A487_4, c487_4, e487, hx487_0, hx487_1, hx487_2, hx487_3, hx487_4, hl487_0, hi487_0, hl487_4, hi487_4⟩ := at_T116 HR0_4.out x35_2 p487 q487
       cases e487
       replace hx487_0 := (HB.out.cell (World.block_lt_of_cell? w _ hx487_0)).trans hx487_0
       replace hx487_1 := (HB.out.cell (World.block_lt_of_cell? w _ hx487_1)).trans hx487_1
       replace hx487_2 := (HB.out.cell (World.block_lt_of_cell? w _ hx487_2)).trans hx487_2
       replace hx487_3 := (HB.out.cell (World.block_lt_of_cell? w _ hx487_3)).trans hx487_3
       replace hx487_4 := (HB.out.cell (World.block_lt_of_cell? w _ hx487_4)).trans hx487_4
       have HR487_0 := am hi487_0
       have HC487_0 := am hl487_0
       clear hi487_0 hl487_0
       have HR487_4 := am hi487_4
       have HC487_4 := am hl487_4
       clear hi487_4 hl487_4
       replace p487 := eq_true p487
       replace q487 := eq_true q487
       go_wp2_with (first | ((with_reducible refine gate_dst (N := 4) rfl ?_); refine bxe 4 #[.slice none 0 0, .int .i64 0, .int .i64 0, .string (⟨#[]⟩ : ByteArray), .slice none 0 0] 116 ?_; intro gb488 hg w43 hbox hb; have n_ := ak7 (blk_below (zb BK483.out) hb) (below_step (bq1 HB.out GE483.out) hb) hbox ((by rw [hg]; exact (below_size (bq1 HB.out GE483.out)) : w.heap.size ≤ gb488)) ((by rw [hg]; exact (below_size (bq1 HB.out GE483.out)) : w.heap.size ≤ gb488)) ((nlt hg (zb BK483.out) : gb483 ≠ gb488)) ((ngt hg (zb BK483.out) : gb488 ≠ gb483)); clear BK483 HB; obtain ⟨BK483, HB, BK488, GW488, GE488, NB483_488, NB488_483⟩ := n_; clear hb hbox hg; have hnb44 := NB488_483.out; have hnc44 := NB483_488.out; obtain ⟨hcz45_0, hcz45_1, hcz45_2, hcz45_3, hcz45_4, hfz45_0, hfz45_1, hfz45_2, hfz45_3, hfz45_4⟩ := cl5 BK488.out) | ((with_reducible refine gate_store (t := 116) (p := 4) rfl ?_); refine store_event (t := 116) (p := 4) (v := ?vo_w46) (w1 := (((((w43.setCell ⟨gb488, 0, none⟩ (.slice A487_0 ((rd_T116 l0_4 x35_2).f0).length c487_0)).setCell ⟨gb488, 1, none⟩ (.int .i64 ((rd_T116 l0_4 x35_2).f1.f0))).setCell ⟨gb488, 2, none⟩ (.int .i64 ((rd_T116 l0_4 x35_2).f1.f1))).setCell ⟨gb488, 3, none⟩ (.string ((rd_T116 l0_4 x35_2).f1.f2))).setCell ⟨gb488, 4, none⟩ (.slice A487_4 ((rd_T116 l0_4 x35_2).f1.f3).length c487_4))) ?hg ?ho ?hn ?hr ?_; (case ho => rfl); (case hg => rfl); (case hn => rfl); (case hr => exact gs); intro w46 hw; have n_ : Aside0 (w46.heap[gb483]? = some (.cells #[.int .i64 a0_0, .int .i64 a0_1, .int .i64 a0_2, .int .i64 a0_3, .slice (some ad487) l0_4.length c0_4] 58 (0, 0))) ∧ Aside0 (w46.heap[gb488]? = some (.cells #[.slice A487_0 ((rd_T116 l0_4 x35_2).f0).length c487_0, .int .i64 ((rd_T116 l0_4 x35_2).f1.f0), .int .i64 ((rd_T116 l0_4 x35_2).f1.f1), .string ((rd_T116 l0_4 x35_2).f1.f2), .slice A487_4 ((rd_T116 l0_4 x35_2).f1.f3).length c487_4] 116 (0, 0))) ∧ Aside0 (Below w.heap.size w w46) := ⟨⟨(by rw [hw]; exact (by refine zr ?_; refine blk_far ?_ NB483_488.out _; refine zr ?_; refine blk_far ?_ NB483_488.out _; refine zr ?_; refine blk_far ?_ NB483_488.out _; refine zr ?_; refine blk_far ?_ NB483_488.out _; refine zr ?_; refine blk_far ?_ NB483_488.out _; refine zr ?_; exact BK483.out))⟩, ⟨(by rw [hw]; exact (by refine zr ?_; exact bp5 (zb BK488.out)))⟩, ⟨(by rw [hw]; exact (bq2 HB.out GE483.out GE488.out))⟩⟩; clear hw BK483 BK488 HB; obtain ⟨BK483, BK488, HB⟩ := n_; obtain ⟨hcz47_0, hcz47_1, hcz47_2, hcz47_3, hcz47_4, hfz47_0, hfz47_1, hfz47_2, hfz47_3, hfz47_4⟩ := cl5 BK488.out) | (go_at_call 108; (with_reducible refine (impl_OidOk.calls k2 _ _ ((rd_T116 l0_4 x35_2).f0) true _ ?side1 ?side2 A33.out).mono ?_); (case side1 => exact cq (Kd.C_below HR487_0.out HB.out)); (case side2 => exact HC487_0.out); rintro e w' ⟨rfl, ⟨nd, rfl⟩⟩) | (go_at_call 46; (with_reducible refine (impl_ValOk.calls k2 ((rd_T116 l0_4 x35_2).f1.f0) ((rd_T116 l0_4 x35_2).f1.f1) ((rd_T116 l0_4 x35_2).f1.f2) _ _ ((rd_T116 l0_4 x35_2).f1.f3) false _ ?side1 ?side2 A35.out).mono ?_); (case side1 => repeat (first | exact (Kd.C_below HR487_4.out (bq2 HB.out GE483.out GE488.out)) | (with_reducible refine Kd.C_alloc ?_ _) | (with_reducible refine Kd.C_drewN ?_ _) | (with_reducible refine Kd.C_drew ?_))); (case side2 => exact HC487_4.out); rintro e w48 ⟨rfl, hb⟩; have n_ := ak3 (blk_below (zb BK483.out) hb) (blk_below (zb BK488.out) hb) (below_step (bq2 HB.out GE483.out GE488.out) hb); clear BK483 BK488 HB; obtain ⟨BK483, BK488, HB⟩ := n_; (try clear hb)))
       go_ret
       exact ⟨rq, bq2 HB.out GE483.out GE488.out⟩
     subst c36
     replace H : (impl_PduOk.l0 k2 l0_4 (l0_4.length : Int) (wrap64 (x35_2 + 1)) a0_0 a0_1 a0_2 a0_3 l0_4) = some r := by rw [if_pos rfl] at H; exact H
     have H' := am H
     clear H
     have p487 : 0 ≤ (x35_2 : Int) := oda
     have q487 : x35_2 < (l0_4.length : Int) := oda
     obtain ⟨ad487, A487_0, c487_0, A487_4, c487_4, e487, hx487_0, hx487_1, hx487_2, hx487_3, hx487_4, hl487_0, hi487_0, hl487_4, hi487_4⟩ := at_T116 HR0_4.out x35_2 p487 q487
     cases e487
     replace hx487_0 := (HB.out.cell (World.block_lt_of_cell? w _ hx487_0)).trans hx487_0
     replace hx487_1 := (HB.out.cell (World.block_lt_of_cell? w _ hx487_1)).trans hx487_1
     replace hx487_2 := (HB.out.cell (World.block_lt_of_cell? w _ hx487_2)).trans hx487_2
     replace hx487_3 := (HB.out.cell (World.block_lt_of_cell? w _ hx487_3)).trans hx487_3
     replace hx487_4 := (HB.out.cell (World.block_lt_of_cell? w _ hx487_4)).trans hx487_4
     have HR487_0 := am hi487_0
     have HC487_0 := am hl487_0
     clear hi487_0 hl487_0
     have HR487_4 := am hi487_4
     have HC487_4 := am hl487_4
     clear hi487_4 hl487_4
     replace p487 := eq_true p487
     replace q487 := eq_true q487
     go_wp2_with (first | ((with_reducible refine gate_dst (N := 4) rfl ?_); refine bxe 4 #[.slice none 0 0, .int .i64 0, .int .i64 0, .string (⟨#[]⟩ : ByteArray), .slice none 0 0] 116 ?_; intro gb488 hg w37 hbox hb; have n_ := ak7 (blk_below (zb BK483.out) hb) (below_step (bq1 HB.out GE483.out) hb) hbox ((by rw [hg]; exact (below_size (bq1 HB.out GE483.out)) : w.heap.size ≤ gb488)) ((by rw [hg]; exact (below_size (bq1 HB.out GE483.out)) : w.heap.size ≤ gb488)) ((nlt hg (zb BK483.out) : gb483 ≠ gb488)) ((ngt hg (zb BK483.out) : gb488 ≠ gb483)); clear BK483 HB; obtain ⟨BK483, HB, BK488, GW488, GE488, NB483_488, NB488_483⟩ := n_; clear hb hbox hg; have hnb38 := NB488_483.out; have hnc38 := NB483_488.out; obtain ⟨hcz39_0, hcz39_1, hcz39_2, hcz39_3, hcz39_4, hfz39_0, hfz39_1, hfz39_2, hfz39_3, hfz39_4⟩ := cl5 BK488.out) | ((with_reducible refine gate_store (t := 116) (p := 4) rfl ?_); refine store_event (t := 116) (p := 4) (v := ?vo_w40) (w1 := (((((w37.setCell ⟨gb488, 0, none⟩ (.slice A487_0 ((rd_T116 l0_4 x35_2).f0).length c487_0)).setCell ⟨gb488, 1, none⟩ (.int .i64 ((rd_T116 l0_4 x35_2).f1.f0))).setCell ⟨gb488, 2, none⟩ (.int .i64 ((rd_T116 l0_4 x35_2).f1.f1))).setCell ⟨gb488, 3, none⟩ (.string ((rd_T116 l0_4 x35_2).f1.f2))).setCell ⟨gb488, 4, none⟩ (.slice A487_4 ((rd_T116 l0_4 x35_2).f1.f3).length c487_4))) ?hg ?ho ?hn ?hr ?_; (case ho => rfl); (case hg => rfl); (case hn => rfl); (case hr => exact gs); intro w40 hw; have n_ : Aside0 (w40.heap[gb483]? = some (.cells #[.int .i64 a0_0, .int .i64 a0_1, .int .i64 a0_2, .int .i64 a0_3, .slice (some ad487) l0_4.length c0_4] 58 (0, 0))) ∧ Aside0 (w40.heap[gb488]? = some (.cells #[.slice A487_0 ((rd_T116 l0_4 x35_2).f0).length c487_0, .int .i64 ((rd_T116 l0_4 x35_2).f1.f0), .int .i64 ((rd_T116 l0_4 x35_2).f1.f1), .string ((rd_T116 l0_4 x35_2).f1.f2), .slice A487_4 ((rd_T116 l0_4 x35_2).f1.f3).length c487_4] 116 (0, 0))) ∧ Aside0 (Below w.heap.size w w40) := ⟨⟨(by rw [hw]; exact (by refine zr ?_; refine blk_far ?_ NB483_488.out _; refine zr ?_; refine blk_far ?_ NB483_488.out _; refine zr ?_; refine blk_far ?_ NB483_488.out _; refine zr ?_; refine blk_far ?_ NB483_488.out _; refine zr ?_; refine blk_far ?_ NB483_488.out _; refine zr ?_; exact BK483.out))⟩, ⟨(by rw [hw]; exact (by refine zr ?_; exact bp5 (zb BK488.out)))⟩, ⟨(by rw [hw]; exact (bq2 HB.out GE483.out GE488.out))⟩⟩; clear hw BK483 BK488 HB; obtain ⟨BK483, BK488, HB⟩ := n_; obtain ⟨hcz41_0, hcz41_1, hcz41_2, hcz41_3, hcz41_4, hfz41_0, hfz41_1, hfz41_2, hfz41_3, hfz41_4⟩ := cl5 BK488.out) | (go_at_call 108; (with_reducible refine (impl_OidOk.calls k2 _ _ ((rd_T116 l0_4 x35_2).f0) true _ ?side1 ?side2 A33.out).mono ?_); (case side1 => exact cq (Kd.C_below HR487_0.out HB.out)); (case side2 => exact HC487_0.out); rintro e w' ⟨rfl, ⟨nd, rfl⟩⟩) | (go_at_call 46; (with_reducible refine (impl_ValOk.calls k2 ((rd_T116 l0_4 x35_2).f1.f0) ((rd_T116 l0_4 x35_2).f1.f1) ((rd_T116 l0_4 x35_2).f1.f2) _ _ ((rd_T116 l0_4 x35_2).f1.f3) true _ ?side1 ?side2 A35.out).mono ?_); (case side1 => repeat (first | exact (Kd.C_below HR487_4.out (bq2 HB.out GE483.out GE488.out)) | (with_reducible refine Kd.C_alloc ?_ _) | (with_reducible refine Kd.C_drewN ?_ _) | (with_reducible refine Kd.C_drew ?_))); (case side2 => exact HC487_4.out); rintro e w42 ⟨rfl, hb⟩; have n_ := ak3 (blk_below (zb BK483.out) hb) (blk_below (zb BK488.out) hb) (below_step (bq2 HB.out GE483.out GE488.out) hb); clear BK483 BK488 HB; obtain ⟨BK483, BK488, HB⟩ := n_; (try clear hb)))
     go_roundg k2
     case measure => have := HJ1.out; have := HK2.out; omega
     case rel => exact ⟨(wrap64 (x35_2 + 1)), sq, H', ⟨by have := HJ1.out; have := HK2.out; omega⟩, ⟨zq BK483.out⟩, ⟨bq2 HB.out GE483.out GE488.out⟩⟩

end Go.Proofs.Ythhnfmbfgplelaa.XFnExactPutMsg
