/- The functions that one law reaches, as Lean functions, with their walks: printed by a program of this seat (wip/tools) out of the translation. -/
import Derived.Test.YthhnfmbfgplelaaXFnExactPutMsgx0
import Derived.Test.YthhnfmbfgplelaaXFnExactPutMsgx4
namespace Go.Proofs.Ythhnfmbfgplelaa.XFnExactPutMsg
open Go.RowKit Go.Proofs.YthhnfmbfgplelaaW.PrintWords Go.Proofs.YthhnfmbfgplelaaW.PrintLast Go.Proofs.YthhnfmbfgplelaaW.PrintMore
attribute [local go_sem] max2_int min2_int max_two min_two max_three min_three max_four min_four   -- for this text's walks alone
set_option linter.unusedVariables false
set_option linter.unusedSimpArgs false

/-! ### spec_ValOk: function 47 -/
def spec_ValOk.j0 : Nat → Int → Bool → Int → Int → ByteArray → List Int → Option (Bool)
 | 0, _, _, _, _, _, _ => none
 | k + 1, x4, x5, x206000, x206001, x206002, x206003 => if x5 = true then (if x206001 = 0 then (if x206002.toList = ([] : List UInt8) then (some ((x206003.length : Int) == 0)) else (some false)) else (some false)) else (if x4 = 2 then ((spec_l1Clip.f x206001).bind fun t206 => (if t206 = x206001 then (if x206002.toList = ([] : List UInt8) then (some ((x206003.length : Int) == 0)) else (some false)) else (some false))) else (if x4 = 4 then (if (x206002.size : Int) ≤ 20 then (if x206001 = 0 then (some ((x206003.length : Int) == 0)) else (some false)) else (some false)) else (if x4 = 6 then ((spec_OidOk.f k x206003).bind fun t207 => (if t207 = true then (if x206001 = 0 then (some (x206002.toList == ([] : List UInt8))) else (some false)) else (some false))) else (some false))))
def spec_ValOk.f (k : Nat) (a0_0 : Int) (a0_1 : Int) (a0_2 : ByteArray) (l0_3 : List Int) : Option (Bool) := if a0_0 = 5 then (spec_ValOk.j0 k a0_0 (a0_0 == 5) a0_0 a0_1 a0_2 l0_3) else (if a0_0 = 128 then (spec_ValOk.j0 k a0_0 (a0_0 == 128) a0_0 a0_1 a0_2 l0_3) else (spec_ValOk.j0 k a0_0 (a0_0 == 130) a0_0 a0_1 a0_2 l0_3))
theorem spec_ValOk.mono_l : ∀ k, (∀ y0 y1 y2 y3 y4 y5, LeO (spec_ValOk.j0 k y0 y1 y2 y3 y4 y5) (spec_ValOk.j0 (k + 1) y0 y1 y2 y3 y4 y5))
 | 0 => fun _ _ _ _ _ _ r h => by simp [spec_ValOk.j0] at h
 | k + 1 => by
  have ih0 := spec_ValOk.mono_l k
  intro y0 y1 y2 y3 y4 y5
  unfold spec_ValOk.j0
  repeat' first
  | (with_reducible exact ih0 _ _ _ _ _ _)
  | (with_reducible exact spec_OidOk.mono _ _)
  | (with_reducible exact LeO.refl _)
  | (with_reducible exact LeO.none _)
  | (with_reducible refine LeO.ite ?_ ?_)
  | (with_reducible refine LeO.bind ?_ (fun _ => ?_))
  | exact ih0 _ _ _ _ _ _
  | exact spec_OidOk.mono _ _
  | exact LeO.none _
  | refine LeO.ite ?_ ?_
  | refine LeO.bind ?_ (fun _ => ?_)
theorem spec_ValOk.mono : ∀ a0 a1 a2 a3 k, LeO (spec_ValOk.f k a0 a1 a2 a3) (spec_ValOk.f (k + 1) a0 a1 a2 a3) := by
 intro a0 a1 a2 a3 k
 have ih0 := spec_ValOk.mono_l k
 unfold spec_ValOk.f
 repeat' first
  | (with_reducible exact ih0 _ _ _ _ _ _)
  | (with_reducible exact spec_OidOk.mono _ _)
  | (with_reducible exact LeO.refl _)
  | (with_reducible exact LeO.none _)
  | (with_reducible refine LeO.ite ?_ ?_)
  | (with_reducible refine LeO.bind ?_ (fun _ => ?_))
  | exact ih0 _ _ _ _ _ _
  | exact spec_OidOk.mono _ _
  | exact LeO.none _
  | refine LeO.ite ?_ ?_
  | refine LeO.bind ?_ (fun _ => ?_)
set_option maxHeartbeats 8000000 in
set_option maxRecDepth 100000 in
theorem spec_ValOk.calls (k : Nat) (a0_0 : Int) (a0_1 : Int) (a0_2 : ByteArray) (A0_3 : Option Addr) (c0_3 : Nat) (l0_3 : List Int) (r : Bool) (w : World) (hr0_3 : Kd.C (Kd.int .i64) w A0_3 l0_3.length l0_3) (hc0_3 : l0_3.length ≤ c0_3) (h : spec_ValOk.f k a0_0 a0_1 a0_2 l0_3 = some r) :
 Calls Try.prog 47 #[.agg #[.int .i64 a0_0, .int .i64 a0_1, .string a0_2, .slice A0_3 l0_3.length c0_3]] w fun e w' => e = .returned (.bool r) ∧ Below w.heap.size w w' := by
 have hu29 := Try.underlying29
 have HR0_3 := am hr0_3
 have HC0_3 := am hc0_3
 clear hr0_3 hc0_3
 have HB := am (Below.refl w.heap.size w)
 have H : (if a0_0 = 5 then (spec_ValOk.j0 k a0_0 (a0_0 == 5) a0_0 a0_1 a0_2 l0_3) else (if a0_0 = 128 then (spec_ValOk.j0 k a0_0 (a0_0 == 128) a0_0 a0_1 a0_2 l0_3) else (spec_ValOk.j0 k a0_0 (a0_0 == 130) a0_0 a0_1 a0_2 l0_3))) = some r := h
 clear h
 have HC2 := am H
 clear H
 go_enter Try.func47, Try.ntmps47
 go_upto_if 5 with (first | ((with_reducible refine gate_dst (N := 1) rfl ?_); (try (refine gate_guard (by rfl) ?_; dsimp only)); refine bxe 1 #[.int .i64 a0_0, .int .i64 a0_1, .string a0_2, .slice A0_3 l0_3.length c0_3] 29 ?_; intro gb205 hg w3 hbox hb; have n_ := ak4 (below_step (bq HB.out) hb) hbox ((by rw [hg]; exact (below_size (bq HB.out)) : w.heap.size ≤ gb205)) ((by rw [hg]; exact (below_size (bq HB.out)) : w.heap.size ≤ gb205)); clear HB; obtain ⟨HB, BK205, GW205, GE205⟩ := n_; clear hb hbox hg; obtain ⟨hcz4_0, hcz4_1, hcz4_2, hcz4_3, hfz4_0, hfz4_1, hfz4_2, hfz4_3⟩ := cl4 BK205.out))
 repeat (go_quiet (first | ((with_reducible refine gate_dst (N := 1) rfl ?_); (try (refine gate_guard (by rfl) ?_; dsimp only)); refine bxe 1 #[.int .i64 a0_0, .int .i64 a0_1, .string a0_2, .slice A0_3 l0_3.length c0_3] 29 ?_; intro gb205 hg w3 hbox hb; have n_ := ak4 (below_step (bq HB.out) hb) hbox ((by rw [hg]; exact (below_size (bq HB.out)) : w.heap.size ≤ gb205)) ((by rw [hg]; exact (below_size (bq HB.out)) : w.heap.size ≤ gb205)); clear HB; obtain ⟨HB, BK205, GW205, GE205⟩ := n_; clear hb hbox hg; obtain ⟨hcz4_0, hcz4_1, hcz4_2, hcz4_3, hfz4_0, hfz4_1, hfz4_2, hfz4_3⟩ := cl4 BK205.out)); go_upto_if 5 with (first | ((with_reducible refine gate_dst (N := 1) rfl ?_); (try (refine gate_guard (by rfl) ?_; dsimp only)); refine bxe 1 #[.int .i64 a0_0, .int .i64 a0_1, .string a0_2, .slice A0_3 l0_3.length c0_3] 29 ?_; intro gb205 hg w3 hbox hb; have n_ := ak4 (below_step (bq HB.out) hb) hbox ((by rw [hg]; exact (below_size (bq HB.out)) : w.heap.size ≤ gb205)) ((by rw [hg]; exact (below_size (bq HB.out)) : w.heap.size ≤ gb205)); clear HB; obtain ⟨HB, BK205, GW205, GE205⟩ := n_; clear hb hbox hg; obtain ⟨hcz4_0, hcz4_1, hcz4_2, hcz4_3, hfz4_0, hfz4_1, hfz4_2, hfz4_3⟩ := cl4 BK205.out)))
 (try simp only [Act.put, List.setIfInBounds_toArray, List.set_cons_zero, List.set_cons_succ])
 go_cut [5] (fun v5 wc => ∃ (kq : Nat) (x5_1 : Bool), v5 = .bool x5_1 ∧ Aside0 (spec_ValOk.j0 kq a0_0 x5_1 a0_0 a0_1 a0_2 l0_3 = some r) ∧ Aside0 (kq ≤ k) ∧ Aside0 (wc.heap[gb205]? = some (.cells #[.int .i64 a0_0, .int .i64 a0_1, .string a0_2, (.slice A0_3 l0_3.length c0_3)] 29 (0, 0))) ∧ Aside0 (Below w.heap.size w wc))
 case first =>
  have H := HC2.out
  clear HC2
  by_cases c5 : a0_0 = 5
  · rw [if_pos c5] at H
    have c5b0 : (a0_0 == 5) = true := beq_iff_eq.mpr c5
    have c5b1 : (a0_0 != 5) = false := bne_eq_false_iff_eq.mpr c5
    clear c5
    (first | rw [c5b0] | (simp only [i64_w, i32_w]; rw [c5b0]) | skip)
    have H' := am H
    clear H
    go_wp2
    repeat (go_quiet (fail); try go_wp2)
    go_meet
    case rel => exact ⟨_, ((a0_0 == 5)), sq, H', ⟨by first | omega | exact Nat.le_refl _⟩, ⟨zq BK205.out⟩, ⟨bq1 HB.out GE205.out⟩⟩
  rw [if_neg c5] at H
  have c5b0 : (a0_0 == 5) = false := beq_eq_false_iff_ne.mpr c5
  have c5b1 : (a0_0 != 5) = true := bne_iff_ne.mpr c5
  (first | rw [c5b0] | (simp only [i64_w, i32_w]; rw [c5b0]) | skip)
  by_cases c6 : a0_0 = 128
  rotate_left
  · rw [if_neg c6] at H
    have c6b0 : (a0_0 == 128) = false := beq_eq_false_iff_ne.mpr c6
    have c6b1 : (a0_0 != 128) = true := bne_iff_ne.mpr c6
    have H' := am H
    clear H
    go_wp2
    repeat (go_quiet (fail); try go_wp2)
    go_meet
    case rel => exact ⟨_, ((a0_0 == 130)), sq, H', ⟨by first | omega | exact Nat.le_refl _⟩, ⟨zq BK205.out⟩, ⟨bq1 HB.out GE205.out⟩⟩
  rw [if_pos c6] at H
  have c6b0 : (a0_0 == 128) = true := beq_iff_eq.mpr c6
  have c6b1 : (a0_0 != 128) = false := bne_eq_false_iff_eq.mpr c6
  clear c6
  have H' := am H
  clear H
  go_wp2
  repeat (go_quiet (fail); try go_wp2)
  go_meet
  case rel => exact ⟨_, ((a0_0 == 128)), sq, H', ⟨by first | omega | exact Nat.le_refl _⟩, ⟨zq BK205.out⟩, ⟨bq1 HB.out GE205.out⟩⟩
 case rest =>
  clear HC2
  try clear p2
  try clear c4
  try clear c5
  try clear c5b0
  try clear c5b1
  try clear c6
  try clear c6b0
  try clear c6b1
  try clear hcz4_0
  try clear hcz4_1
  try clear hcz4_2
  try clear hcz4_3
  try clear hfz4_0
  try clear hfz4_1
  try clear hfz4_2
  try clear hfz4_3
  obtain ⟨kq, x5_1, rfl, HA, HJ1, BK205, HB⟩ := hcut
  cases kq with
  | zero => exact absurd HA.out (by simp [spec_ValOk.j0])
  | succ kj1 =>
   have H := HA.out
   clear HA
   simp only [spec_ValOk.j0] at H
   by_cases c7 : x5_1 = true
   · subst c7
     replace H : (if a0_1 = 0 then (if a0_2.toList = ([] : List UInt8) then (some ((l0_3.length : Int) == 0)) else (some false)) else (some false)) = some r := by rw [if_pos rfl] at H; exact H
     by_cases c8 : a0_1 = 0
     rotate_left
     · rw [if_neg c8] at H
       have c8b0 : (a0_1 == 0) = false := beq_eq_false_iff_ne.mpr c8
       have c8b1 : (a0_1 != 0) = true := bne_iff_ne.mpr c8
       obtain rfl := Option.some.inj H
       obtain ⟨hcz12_0, hcz12_1, hcz12_2, hcz12_3, hfz12_0, hfz12_1, hfz12_2, hfz12_3⟩ := cl4 BK205.out
       go_wp2
       repeat (go_quiet (fail); try go_wp2)
       go_ret
       exact ⟨rq, bq1 HB.out GE205.out⟩
     rw [if_pos c8] at H
     have c8b0 : (a0_1 == 0) = true := beq_iff_eq.mpr c8
     have c8b1 : (a0_1 != 0) = false := bne_eq_false_iff_eq.mpr c8
     clear c8
     by_cases c9 : a0_2.toList = ([] : List UInt8)
     rotate_left
     · rw [if_neg c9] at H
       have c9b0 : (a0_2.toList == ([] : List UInt8)) = false := beq_eq_false_iff_ne.mpr c9
       have c9b1 : (a0_2.toList != ([] : List UInt8)) = true := bne_iff_ne.mpr c9
       obtain rfl := Option.some.inj H
       obtain ⟨hcz11_0, hcz11_1, hcz11_2, hcz11_3, hfz11_0, hfz11_1, hfz11_2, hfz11_3⟩ := cl4 BK205.out
       go_wp2
       repeat (go_quiet (fail); try go_wp2)
       go_ret
       exact ⟨rq, bq1 HB.out GE205.out⟩
     rw [if_pos c9] at H
     have c9b0 : (a0_2.toList == ([] : List UInt8)) = true := beq_iff_eq.mpr c9
     have c9b1 : (a0_2.toList != ([] : List UInt8)) = false := bne_eq_false_iff_eq.mpr c9
     clear c9
     obtain rfl := Option.some.inj H
     obtain ⟨hcz10_0, hcz10_1, hcz10_2, hcz10_3, hfz10_0, hfz10_1, hfz10_2, hfz10_3⟩ := cl4 BK205.out
     go_wp2
     repeat (go_quiet (fail); try go_wp2)
     go_ret
     exact ⟨rq, bq1 HB.out GE205.out⟩
   replace c7 := Bool.eq_false_iff.mpr c7
   subst c7
   replace H : (if a0_0 = 2 then ((spec_l1Clip.f a0_1).bind fun t206 => (if t206 = a0_1 then (if a0_2.toList = ([] : List UInt8) then (some ((l0_3.length : Int) == 0)) else (some false)) else (some false))) else (if a0_0 = 4 then (if (a0_2.size : Int) ≤ 20 then (if a0_1 = 0 then (some ((l0_3.length : Int) == 0)) else (some false)) else (some false)) else (if a0_0 = 6 then ((spec_OidOk.f kj1 l0_3).bind fun t207 => (if t207 = true then (if a0_1 = 0 then (some (a0_2.toList == ([] : List UInt8))) else (some false)) else (some false))) else (some false)))) = some r := by rw [if_neg (show ¬ (false = true) by decide)] at H; exact H
   by_cases c13 : a0_0 = 2
   · rw [if_pos c13] at H
     have c13b0 : (a0_0 == 2) = true := beq_iff_eq.mpr c13
     have c13b1 : (a0_0 != 2) = false := bne_eq_false_iff_eq.mpr c13
     clear c13
     replace H := Option.bind_eq_some_iff.mp H
     obtain ⟨t206, A140, H⟩ := H
     replace H : (if t206 = a0_1 then (if a0_2.toList = ([] : List UInt8) then (some ((l0_3.length : Int) == 0)) else (some false)) else (some false)) = some r := H
     have A14 := am A140
     clear A140
     by_cases c15 : t206 = a0_1
     rotate_left
     · rw [if_neg c15] at H
       have c15b0 : (t206 == a0_1) = false := beq_eq_false_iff_ne.mpr c15
       have c15b1 : (t206 != a0_1) = true := bne_iff_ne.mpr c15
       obtain rfl := Option.some.inj H
       obtain ⟨hcz19_0, hcz19_1, hcz19_2, hcz19_3, hfz19_0, hfz19_1, hfz19_2, hfz19_3⟩ := cl4 BK205.out
       go_wp2_with (first | (go_at_call 109; (with_reducible refine (spec_l1Clip.calls a0_1 t206 _ A14.out).mono ?_); rintro e w' ⟨rfl, ⟨nd, rfl⟩⟩; (try first | exact ⟨rfl, _, World.drewN_drewN _ _ _⟩ | exact ⟨rfl, _, Eq.trans (World.drewN_drewN _ _ _) (congrArg (World.drewN _) (Nat.add_assoc _ _ _))⟩)))
       repeat (go_quiet (first | (go_at_call 109; (with_reducible refine (spec_l1Clip.calls a0_1 t206 _ A14.out).mono ?_); rintro e w' ⟨rfl, ⟨nd, rfl⟩⟩; (try first | exact ⟨rfl, _, World.drewN_drewN _ _ _⟩ | exact ⟨rfl, _, Eq.trans (World.drewN_drewN _ _ _) (congrArg (World.drewN _) (Nat.add_assoc _ _ _))⟩))); try go_wp2_with (first | (go_at_call 109; (with_reducible refine (spec_l1Clip.calls a0_1 t206 _ A14.out).mono ?_); rintro e w' ⟨rfl, ⟨nd, rfl⟩⟩; (try first | exact ⟨rfl, _, World.drewN_drewN _ _ _⟩ | exact ⟨rfl, _, Eq.trans (World.drewN_drewN _ _ _) (congrArg (World.drewN _) (Nat.add_assoc _ _ _))⟩))))
       go_ret
       exact ⟨rq, bq1 HB.out GE205.out⟩
     rw [if_pos c15] at H
     have c15b0 : (t206 == a0_1) = true := beq_iff_eq.mpr c15
     have c15b1 : (t206 != a0_1) = false := bne_eq_false_iff_eq.mpr c15
     clear c15
     by_cases c16 : a0_2.toList = ([] : List UInt8)
     rotate_left
     · rw [if_neg c16] at H
       have c16b0 : (a0_2.toList == ([] : List UInt8)) = false := beq_eq_false_iff_ne.mpr c16
       have c16b1 : (a0_2.toList != ([] : List UInt8)) = true := bne_iff_ne.mpr c16
       obtain rfl := Option.some.inj H
       obtain ⟨hcz18_0, hcz18_1, hcz18_2, hcz18_3, hfz18_0, hfz18_1, hfz18_2, hfz18_3⟩ := cl4 BK205.out
       go_wp2_with (first | (go_at_call 109; (with_reducible refine (spec_l1Clip.calls a0_1 t206 _ A14.out).mono ?_); rintro e w' ⟨rfl, ⟨nd, rfl⟩⟩; (try first | exact ⟨rfl, _, World.drewN_drewN _ _ _⟩ | exact ⟨rfl, _, Eq.trans (World.drewN_drewN _ _ _) (congrArg (World.drewN _) (Nat.add_assoc _ _ _))⟩)))
       repeat (go_quiet (first | (go_at_call 109; (with_reducible refine (spec_l1Clip.calls a0_1 t206 _ A14.out).mono ?_); rintro e w' ⟨rfl, ⟨nd, rfl⟩⟩; (try first | exact ⟨rfl, _, World.drewN_drewN _ _ _⟩ | exact ⟨rfl, _, Eq.trans (World.drewN_drewN _ _ _) (congrArg (World.drewN _) (Nat.add_assoc _ _ _))⟩))); try go_wp2_with (first | (go_at_call 109; (with_reducible refine (spec_l1Clip.calls a0_1 t206 _ A14.out).mono ?_); rintro e w' ⟨rfl, ⟨nd, rfl⟩⟩; (try first | exact ⟨rfl, _, World.drewN_drewN _ _ _⟩ | exact ⟨rfl, _, Eq.trans (World.drewN_drewN _ _ _) (congrArg (World.drewN _) (Nat.add_assoc _ _ _))⟩))))
       go_ret
       exact ⟨rq, bq1 HB.out GE205.out⟩
     rw [if_pos c16] at H
     have c16b0 : (a0_2.toList == ([] : List UInt8)) = true := beq_iff_eq.mpr c16
     have c16b1 : (a0_2.toList != ([] : List UInt8)) = false := bne_eq_false_iff_eq.mpr c16
     clear c16
     obtain rfl := Option.some.inj H
     obtain ⟨hcz17_0, hcz17_1, hcz17_2, hcz17_3, hfz17_0, hfz17_1, hfz17_2, hfz17_3⟩ := cl4 BK205.out
     go_wp2_with (first | (go_at_call 109; (with_reducible refine (spec_l1Clip.calls a0_1 t206 _ A14.out).mono ?_); rintro e w' ⟨rfl, ⟨nd, rfl⟩⟩; (try first | exact ⟨rfl, _, World.drewN_drewN _ _ _⟩ | exact ⟨rfl, _, Eq.trans (World.drewN_drewN _ _ _) (congrArg (World.drewN _) (Nat.add_assoc _ _ _))⟩)))
     repeat (go_quiet (first | (go_at_call 109; (with_reducible refine (spec_l1Clip.calls a0_1 t206 _ A14.out).mono ?_); rintro e w' ⟨rfl, ⟨nd, rfl⟩⟩; (try first | exact ⟨rfl, _, World.drewN_drewN _ _ _⟩ | exact ⟨rfl, _, Eq.trans (World.drewN_drewN _ _ _) (congrArg (World.drewN _) (Nat.add_assoc _ _ _))⟩))); try go_wp2_with (first | (go_at_call 109; (with_reducible refine (spec_l1Clip.calls a0_1 t206 _ A14.out).mono ?_); rintro e w' ⟨rfl, ⟨nd, rfl⟩⟩; (try first | exact ⟨rfl, _, World.drewN_drewN _ _ _⟩ | exact ⟨rfl, _, Eq.trans (World.drewN_drewN _ _ _) (congrArg (World.drewN _) (Nat.add_assoc _ _ _))⟩))))
     go_ret
     exact ⟨rq, bq1 HB.out GE205.out⟩
   rw [if_neg c13] at H
   have c13b0 : (a0_0 == 2) = false := beq_eq_false_iff_ne.mpr c13
   have c13b1 : (a0_0 != 2) = true := bne_iff_ne.mpr c13
   by_cases c20 : a0_0 = 4
   · rw [if_pos c20] at H
     have c20b0 : (a0_0 == 4) = true := beq_iff_eq.mpr c20
     have c20b1 : (a0_0 != 4) = false := bne_eq_false_iff_eq.mpr c20
     clear c20
     by_cases c21 : (a0_2.size : Int) ≤ 20
     rotate_left
     · rw [if_neg c21] at H
       have c21b0 : decide ((a0_2.size : Int) ≤ 20) = false := decide_eq_false c21
       have c21b1 : decide (a0_2.size ≤ 20) = false := decide_eq_false (by omega)
       clear c21
       obtain rfl := Option.some.inj H
       obtain ⟨hcz25_0, hcz25_1, hcz25_2, hcz25_3, hfz25_0, hfz25_1, hfz25_2, hfz25_3⟩ := cl4 BK205.out
       go_wp2
       repeat (go_quiet (fail); try go_wp2)
       go_ret
       exact ⟨rq, bq1 HB.out GE205.out⟩
     rw [if_pos c21] at H
     have c21b0 : decide ((a0_2.size : Int) ≤ 20) = true := decide_eq_true c21
     have c21b1 : decide (a0_2.size ≤ 20) = true := decide_eq_true (by omega)
     clear c21
     by_cases c22 : a0_1 = 0
     rotate_left
     · rw [if_neg c22] at H
       have c22b0 : (a0_1 == 0) = false := beq_eq_false_iff_ne.mpr c22
       have c22b1 : (a0_1 != 0) = true := bne_iff_ne.mpr c22
       obtain rfl := Option.some.inj H
       obtain ⟨hcz24_0, hcz24_1, hcz24_2, hcz24_3, hfz24_0, hfz24_1, hfz24_2, hfz24_3⟩ := cl4 BK205.out
       go_wp2
       repeat (go_quiet (fail); try go_wp2)
       go_ret
       exact ⟨rq, bq1 HB.out GE205.out⟩
     rw [if_pos c22] at H
     have c22b0 : (a0_1 == 0) = true := beq_iff_eq.mpr c22
     have c22b1 : (a0_1 != 0) = false := bne_eq_false_iff_eq.mpr c22
     clear c22
     obtain rfl := Option.some.inj H
     obtain ⟨hcz23_0, hcz23_1, hcz23_2, hcz23_3, hfz23_0, hfz23_1, hfz23_2, hfz23_3⟩ := cl4 BK205.out
     go_wp2
     repeat (go_quiet (fail); try go_wp2)
     go_ret
     exact ⟨rq, bq1 HB.out GE205.out⟩
   rw [if_neg c20] at H
   have c20b0 : (a0_0 == 4) = false := beq_eq_false_iff_ne.mpr c20
   have c20b1 : (a0_0 != 4) = true := bne_iff_ne.mpr c20
   by_cases c26 : a0_0 = 6
   rotate_left
   · rw [if_neg c26] at H
     have c26b0 : (a0_0 == 6) = false := beq_eq_false_iff_ne.mpr c26
     have c26b1 : (a0_0 != 6) = true := bne_iff_ne.mpr c26
     obtain rfl := Option.some.inj H
     go_wp2
     repeat (go_quiet (fail); try go_wp2)
     go_ret
     exact ⟨rq, bq1 HB.out GE205.out⟩
   rw [if_pos c26] at H
   have c26b0 : (a0_0 == 6) = true := beq_iff_eq.mpr c26
   have c26b1 : (a0_0 != 6) = false := bne_eq_false_iff_eq.mpr c26
   clear c26
   replace H := Option.bind_eq_some_iff.mp H
   obtain ⟨t207, A270, H⟩ := H
   replace H : (if t207 = true then (if a0_1 = 0 then (some (a0_2.toList == ([] : List UInt8))) else (some false)) else (some false)) = some r := H
   have A27 := am A270
   clear A270
   by_cases c28 : t207 = true
   rotate_left
   · replace c28 := Bool.eq_false_iff.mpr c28
     subst c28
     replace H : (some false) = some r := by rw [if_neg (show ¬ (false = true) by decide)] at H; exact H
     obtain rfl := Option.some.inj H
     obtain ⟨hcz32_0, hcz32_1, hcz32_2, hcz32_3, hfz32_0, hfz32_1, hfz32_2, hfz32_3⟩ := cl4 BK205.out
     go_wp2_with (first | (go_at_call 110; (with_reducible refine (spec_OidOk.calls kj1 _ _ l0_3 false _ ?side1 ?side2 A27.out).mono ?_); (case side1 => exact cq (Kd.C_below HR0_3.out HB.out)); (case side2 => exact HC0_3.out); rintro e w' ⟨rfl, ⟨nd, rfl⟩⟩; (try first | exact ⟨rfl, _, World.drewN_drewN _ _ _⟩ | exact ⟨rfl, _, Eq.trans (World.drewN_drewN _ _ _) (congrArg (World.drewN _) (Nat.add_assoc _ _ _))⟩)))
     repeat (go_quiet (first | (go_at_call 110; (with_reducible refine (spec_OidOk.calls kj1 _ _ l0_3 false _ ?side1 ?side2 A27.out).mono ?_); (case side1 => exact cq (Kd.C_below HR0_3.out HB.out)); (case side2 => exact HC0_3.out); rintro e w' ⟨rfl, ⟨nd, rfl⟩⟩; (try first | exact ⟨rfl, _, World.drewN_drewN _ _ _⟩ | exact ⟨rfl, _, Eq.trans (World.drewN_drewN _ _ _) (congrArg (World.drewN _) (Nat.add_assoc _ _ _))⟩))); try go_wp2_with (first | (go_at_call 110; (with_reducible refine (spec_OidOk.calls kj1 _ _ l0_3 false _ ?side1 ?side2 A27.out).mono ?_); (case side1 => exact cq (Kd.C_below HR0_3.out HB.out)); (case side2 => exact HC0_3.out); rintro e w' ⟨rfl, ⟨nd, rfl⟩⟩; (try first | exact ⟨rfl, _, World.drewN_drewN _ _ _⟩ | exact ⟨rfl, _, Eq.trans (World.drewN_drewN _ _ _) (congrArg (World.drewN _) (Nat.add_assoc _ _ _))⟩))))
     go_ret
     exact ⟨rq, bq1 HB.out GE205.out⟩
   subst c28
   replace H : (if a0_1 = 0 then (some (a0_2.toList == ([] : List UInt8))) else (some false)) = some r := by rw [if_pos rfl] at H; exact H
   by_cases c29 : a0_1 = 0
   rotate_left
   · rw [if_neg c29] at H
     have c29b0 : (a0_1 == 0) = false := beq_eq_false_iff_ne.mpr c29
     have c29b1 : (a0_1 != 0) = true := bne_iff_ne.mpr c29
     obtain rfl := Option.some.inj H
     obtain ⟨hcz31_0, hcz31_1, hcz31_2, hcz31_3, hfz31_0, hfz31_1, hfz31_2, hfz31_3⟩ := cl4 BK205.out
     go_wp2_with (first | (go_at_call 110; (with_reducible refine (spec_OidOk.calls kj1 _ _ l0_3 true _ ?side1 ?side2 A27.out).mono ?_); (case side1 => exact cq (Kd.C_below HR0_3.out HB.out)); (case side2 => exact HC0_3.out); rintro e w' ⟨rfl, ⟨nd, rfl⟩⟩; (try first | exact ⟨rfl, _, World.drewN_drewN _ _ _⟩ | exact ⟨rfl, _, Eq.trans (World.drewN_drewN _ _ _) (congrArg (World.drewN _) (Nat.add_assoc _ _ _))⟩)))
     repeat (go_quiet (first | (go_at_call 110; (with_reducible refine (spec_OidOk.calls kj1 _ _ l0_3 true _ ?side1 ?side2 A27.out).mono ?_); (case side1 => exact cq (Kd.C_below HR0_3.out HB.out)); (case side2 => exact HC0_3.out); rintro e w' ⟨rfl, ⟨nd, rfl⟩⟩; (try first | exact ⟨rfl, _, World.drewN_drewN _ _ _⟩ | exact ⟨rfl, _, Eq.trans (World.drewN_drewN _ _ _) (congrArg (World.drewN _) (Nat.add_assoc _ _ _))⟩))); try go_wp2_with (first | (go_at_call 110; (with_reducible refine (spec_OidOk.calls kj1 _ _ l0_3 true _ ?side1 ?side2 A27.out).mono ?_); (case side1 => exact cq (Kd.C_below HR0_3.out HB.out)); (case side2 => exact HC0_3.out); rintro e w' ⟨rfl, ⟨nd, rfl⟩⟩; (try first | exact ⟨rfl, _, World.drewN_drewN _ _ _⟩ | exact ⟨rfl, _, Eq.trans (World.drewN_drewN _ _ _) (congrArg (World.drewN _) (Nat.add_assoc _ _ _))⟩))))
     go_ret
     exact ⟨rq, bq1 HB.out GE205.out⟩
   rw [if_pos c29] at H
   have c29b0 : (a0_1 == 0) = true := beq_iff_eq.mpr c29
   have c29b1 : (a0_1 != 0) = false := bne_eq_false_iff_eq.mpr c29
   clear c29
   obtain rfl := Option.some.inj H
   obtain ⟨hcz30_0, hcz30_1, hcz30_2, hcz30_3, hfz30_0, hfz30_1, hfz30_2, hfz30_3⟩ := cl4 BK205.out
   go_wp2_with (first | (go_at_call 110; (with_reducible refine (spec_OidOk.calls kj1 _ _ l0_3 true _ ?side1 ?side2 A27.out).mono ?_); (case side1 => exact cq (Kd.C_below HR0_3.out HB.out)); (case side2 => exact HC0_3.out); rintro e w' ⟨rfl, ⟨nd, rfl⟩⟩; (try first | exact ⟨rfl, _, World.drewN_drewN _ _ _⟩ | exact ⟨rfl, _, Eq.trans (World.drewN_drewN _ _ _) (congrArg (World.drewN _) (Nat.add_assoc _ _ _))⟩)))
   repeat (go_quiet (first | (go_at_call 110; (with_reducible refine (spec_OidOk.calls kj1 _ _ l0_3 true _ ?side1 ?side2 A27.out).mono ?_); (case side1 => exact cq (Kd.C_below HR0_3.out HB.out)); (case side2 => exact HC0_3.out); rintro e w' ⟨rfl, ⟨nd, rfl⟩⟩; (try first | exact ⟨rfl, _, World.drewN_drewN _ _ _⟩ | exact ⟨rfl, _, Eq.trans (World.drewN_drewN _ _ _) (congrArg (World.drewN _) (Nat.add_assoc _ _ _))⟩))); try go_wp2_with (first | (go_at_call 110; (with_reducible refine (spec_OidOk.calls kj1 _ _ l0_3 true _ ?side1 ?side2 A27.out).mono ?_); (case side1 => exact cq (Kd.C_below HR0_3.out HB.out)); (case side2 => exact HC0_3.out); rintro e w' ⟨rfl, ⟨nd, rfl⟩⟩; (try first | exact ⟨rfl, _, World.drewN_drewN _ _ _⟩ | exact ⟨rfl, _, Eq.trans (World.drewN_drewN _ _ _) (congrArg (World.drewN _) (Nat.add_assoc _ _ _))⟩))))
   go_ret
   exact ⟨rq, bq1 HB.out GE205.out⟩

/-! ### spec_l4Kind: function 127 -/
def spec_l4Kind.f (a0 : Int) : Option (Bool) := if a0 = 160 then (some true) else (if a0 = 161 then (some true) else (if a0 = 162 then (some true) else (if a0 = 163 then (some true) else (some (a0 == 165)))))
set_option maxHeartbeats 8000000 in
set_option maxRecDepth 100000 in
theorem spec_l4Kind.calls (a0 : Int) (r : Bool) (w : World) (h : spec_l4Kind.f a0 = some r) :
 Calls Try.prog 127 #[.int .i64 a0] w fun e w' => e = .returned (.bool r) ∧ Drawn0 w w' := by
 have H : (if a0 = 160 then (some true) else (if a0 = 161 then (some true) else (if a0 = 162 then (some true) else (if a0 = 163 then (some true) else (some (a0 == 165)))))) = some r := h
 clear h
 by_cases c2 : a0 = 160
 · rw [if_pos c2] at H
   have c2b0 : (a0 == 160) = true := beq_iff_eq.mpr c2
   have c2b1 : (a0 != 160) = false := bne_eq_false_iff_eq.mpr c2
   clear c2
   obtain rfl := Option.some.inj H
   go_enter Try.func127, Try.ntmps127
   go_wp2
   go_ret
   exact ⟨by first | rfl | (simp; done) | (simp [*]; done), by repeat (first | exact Drawn0.refl _ | apply Drawn0.step)⟩
 rw [if_neg c2] at H
 have c2b0 : (a0 == 160) = false := beq_eq_false_iff_ne.mpr c2
 have c2b1 : (a0 != 160) = true := bne_iff_ne.mpr c2
 by_cases c3 : a0 = 161
 · rw [if_pos c3] at H
   have c3b0 : (a0 == 161) = true := beq_iff_eq.mpr c3
   have c3b1 : (a0 != 161) = false := bne_eq_false_iff_eq.mpr c3
   clear c3
   obtain rfl := Option.some.inj H
   go_enter Try.func127, Try.ntmps127
   go_wp2
   go_ret
   exact ⟨by first | rfl | (simp; done) | (simp [*]; done), by repeat (first | exact Drawn0.refl _ | apply Drawn0.step)⟩
 rw [if_neg c3] at H
 have c3b0 : (a0 == 161) = false := beq_eq_false_iff_ne.mpr c3
 have c3b1 : (a0 != 161) = true := bne_iff_ne.mpr c3
 by_cases c4 : a0 = 162
 · rw [if_pos c4] at H
   have c4b0 : (a0 == 162) = true := beq_iff_eq.mpr c4
   have c4b1 : (a0 != 162) = false := bne_eq_false_iff_eq.mpr c4
   clear c4
   obtain rfl := Option.some.inj H
   go_enter Try.func127, Try.ntmps127
   go_wp2
   go_ret
   exact ⟨by first | rfl | (simp; done) | (simp [*]; done), by repeat (first | exact Drawn0.refl _ | apply Drawn0.step)⟩
 rw [if_neg c4] at H
 have c4b0 : (a0 == 162) = false := beq_eq_false_iff_ne.mpr c4
 have c4b1 : (a0 != 162) = true := bne_iff_ne.mpr c4
 by_cases c5 : a0 = 163
 rotate_left
 · rw [if_neg c5] at H
   have c5b0 : (a0 == 163) = false := beq_eq_false_iff_ne.mpr c5
   have c5b1 : (a0 != 163) = true := bne_iff_ne.mpr c5
   obtain rfl := Option.some.inj H
   go_enter Try.func127, Try.ntmps127
   go_wp2
   go_ret
   exact ⟨by first | rfl | (simp; done) | (simp [*]; done), by repeat (first | exact Drawn0.refl _ | apply Drawn0.step)⟩
 rw [if_pos c5] at H
 have c5b0 : (a0 == 163) = true := beq_iff_eq.mpr c5
 have c5b1 : (a0 != 163) = false := bne_eq_false_iff_eq.mpr c5
 clear c5
 obtain rfl := Option.some.inj H
 go_enter Try.func127, Try.ntmps127
 go_wp2
 go_ret
 exact ⟨by first | rfl | (simp; done) | (simp [*]; done), by repeat (first | exact Drawn0.refl _ | apply Drawn0.step)⟩

end Go.Proofs.Ythhnfmbfgplelaa.XFnExactPutMsg
