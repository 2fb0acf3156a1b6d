/- The functions that one law reaches, as Lean functions, with their walks: printed by a program of this seat (wip/tools) out of the translation. -/
import Derived.Test.YthhnfmbfgplelaaXFnMsgsx0
import Derived.Test.YthhnfmbfgplelaaXFnMsgsx6
namespace Go.Proofs.Ythhnfmbfgplelaa.XFnMsgs
open Go.RowKit Go.Proofs.YthhnfmbfgplelaaW.PrintWords Go.Proofs.YthhnfmbfgplelaaW.PrintLast Go.Proofs.YthhnfmbfgplelaaW.PrintMore
attribute [local go_sem] max2_int min2_int max_two min_two max_three min_three max_four min_four   -- for this text's walks alone
set_option linter.unusedVariables false
set_option linter.unusedSimpArgs false

/-! ### impl_PduOk: function 99 -/
mutual
def impl_PduOk.j2 : Nat → Int → Int → Int → Int → List (S116) → Option (Bool)
 | 0, _, _, _, _, _ => none
 | k + 1, x410000, x410001, x410002, x410003, x410004 => impl_PduOk.l0 k x410004 (x410004.length : Int) 0 x410000 x410001 x410002 x410003 x410004
def impl_PduOk.l0 : Nat → List (S116) → Int → Int → Int → Int → Int → Int → List (S116) → Option (Bool)
 | 0, _, _, _, _, _, _, _, _ => none
 | k + 1, x33, x34, x35, x410000, x410001, x410002, x410003, x410004 => if x35 < x34 then (if 0 ≤ x35 then (if x35 < (x33.length : Int) then (if x35 ≥ 10 then (some false) else ((impl_OidOk.f k ((rd_T116 x33 x35).f0)).bind fun t415 => (if t415 = true then ((impl_ValOk.f k ((rd_T116 x33 x35).f1.f0) ((rd_T116 x33 x35).f1.f1) ((rd_T116 x33 x35).f1.f2) ((rd_T116 x33 x35).f1.f3)).bind fun t416 => (if t416 = true then (impl_PduOk.l0 k x33 x34 (wrap64 (x35 + 1)) x410000 x410001 x410002 x410003 x410004) else (some false))) else (some false)))) else (none)) else (none)) else ((impl_isInt.f x410001).bind fun t412 => (some t412))
def impl_PduOk.j0 : Nat → Int → Bool → Int → Int → Int → Int → List (S116) → Option (Bool)
 | 0, _, _, _, _, _, _, _ => none
 | k + 1, x6, x7, x410000, x410001, x410002, x410003, x410004 => if x7 = true then (if x410002 = 0 then (if x410003 = 0 then (impl_PduOk.j2 k x410000 x410001 x410002 x410003 x410004) else (some false)) else (some false)) else (if x6 = 162 then (impl_PduOk.j1 k (x6 == 162) x410000 x410001 x410002 x410003 x410004) else (impl_PduOk.j1 k (x6 == 165) x410000 x410001 x410002 x410003 x410004))
def impl_PduOk.j1 : Nat → Bool → Int → Int → Int → Int → List (S116) → Option (Bool)
 | 0, _, _, _, _, _, _ => none
 | k + 1, x19, x410000, x410001, x410002, x410003, x410004 => if x19 = true then ((impl_in.f x410002 0 1000).bind fun t410 => (if t410 = true then ((impl_in.f x410003 0 1000).bind fun t411 => (if t411 = true then (impl_PduOk.j2 k x410000 x410001 x410002 x410003 x410004) else (some false))) else (some false))) else (some false)
end
def impl_PduOk.f (k : Nat) (a0_0 : Int) (a0_1 : Int) (a0_2 : Int) (a0_3 : Int) (l0_4 : List (S116)) : Option (Bool) := if a0_0 = 160 then (impl_PduOk.j0 k a0_0 (a0_0 == 160) a0_0 a0_1 a0_2 a0_3 l0_4) else (if a0_0 = 161 then (impl_PduOk.j0 k a0_0 (a0_0 == 161) a0_0 a0_1 a0_2 a0_3 l0_4) else (impl_PduOk.j0 k a0_0 (a0_0 == 163) a0_0 a0_1 a0_2 a0_3 l0_4))
set_option maxHeartbeats 8000000 in
set_option maxRecDepth 100000 in
theorem impl_PduOk.calls (k : Nat) (a0_0 : Int) (a0_1 : Int) (a0_2 : Int) (a0_3 : Int) (A0_4 : Option Addr) (c0_4 : Nat) (l0_4 : List (S116)) (r : Bool) (w : World) (hr0_4 : Kd.C k116 w A0_4 l0_4.length l0_4) (hc0_4 : l0_4.length ≤ c0_4) (h : impl_PduOk.f k a0_0 a0_1 a0_2 a0_3 l0_4 = some r) :
 Calls Try.prog 99 #[.agg #[.int .i64 a0_0, .int .i64 a0_1, .int .i64 a0_2, .int .i64 a0_3, .slice A0_4 l0_4.length c0_4]] w fun e w' => e = .returned (.bool r) ∧ Below w.heap.size w w' := by
 have hu58 := Try.underlying58
 have hu116 := Try.underlying116
 have hu29 := Try.underlying29
 have HR0_4 := am hr0_4
 have HC0_4 := am hc0_4
 clear hr0_4 hc0_4
 have HB := am (Below.refl w.heap.size w)
 have H := h
 clear h
 unfold impl_PduOk.f at H
 have HC2 := am H
 clear H
 go_enter Try.func99, Try.ntmps99
 go_upto_block 0 with (first | ((with_reducible refine gate_dst (N := 1) rfl ?_); refine bxe 1 #[.int .i64 a0_0, .int .i64 a0_1, .int .i64 a0_2, .int .i64 a0_3, .slice A0_4 l0_4.length c0_4] 58 ?_; intro gb409 hg w3 hbox hb; have n_ := ak4 (below_step (bq HB.out) hb) hbox (bz hg (bq HB.out)) (bz hg (bq HB.out)); clear HB; obtain ⟨HB, BK409, GW409, GE409⟩ := n_; clear hb hbox hg; obtain ⟨hcz4_0, hcz4_1, hcz4_2, hcz4_3, hcz4_4, hfz4_0, hfz4_1, hfz4_2, hfz4_3, hfz4_4⟩ := cl5 BK409.out))
 (try simp only [Act.put, List.setIfInBounds_toArray, List.set_cons_zero, List.set_cons_succ])
 go_cut [] (fun wc => ∃ (kq : Nat), Aside0 (impl_PduOk.j2 kq a0_0 a0_1 a0_2 a0_3 l0_4 = some r) ∧ Aside0 (kq ≤ k) ∧ Aside0 (wc.heap[gb409]? = some (.cells #[.int .i64 a0_0, .int .i64 a0_1, .int .i64 a0_2, .int .i64 a0_3, (.slice A0_4 l0_4.length c0_4)] 58 (0, 0))) ∧ Aside0 (Below w.heap.size w wc))
 case first =>
  have H := HC2.out
  clear HC2
  have HC5 := am H
  clear H
  go_upto_if 7 with (fail)
  go_cut [7] (fun v7 wc => ∃ (kq : Nat) (x7_4 : Bool), v7 = .bool x7_4 ∧ Aside0 (impl_PduOk.j0 kq a0_0 x7_4 a0_0 a0_1 a0_2 a0_3 l0_4 = some r) ∧ Aside0 (kq ≤ k) ∧ Aside0 (wc.heap[gb409]? = some (.cells #[.int .i64 a0_0, .int .i64 a0_1, .int .i64 a0_2, .int .i64 a0_3, (.slice A0_4 l0_4.length c0_4)] 58 (0, 0))) ∧ Aside0 (Below w.heap.size w wc))
  case first =>
   have H := HC5.out
   clear HC5
   replace H := iq H
   rcases H with ⟨-, c6b0, c6b1, H⟩ | ⟨c6, c6b0, c6b1, H⟩
   · (first | rw [c6b0] | (simp only [i64_w, i32_w]; rw [c6b0]) | skip)
     have H' := am H
     clear H
     go_wp2
     go_meet
     case rel => exact ⟨_, ((a0_0 == 160)), sq, H', ⟨by first | omega | exact Nat.le_refl _⟩, ⟨zq BK409.out⟩, ⟨bq1 HB.out GE409.out⟩⟩
   (first | rw [c6b0] | (simp only [i64_w, i32_w]; rw [c6b0]) | skip)
   replace H := iq' H
   rcases H with ⟨c7, c7b0, c7b1, H⟩ | ⟨-, c7b0, c7b1, H⟩
   · have H' := am H
     clear H
     go_wp2
     go_meet
     case rel => exact ⟨_, ((a0_0 == 163)), sq, H', ⟨by first | omega | exact Nat.le_refl _⟩, ⟨zq BK409.out⟩, ⟨bq1 HB.out GE409.out⟩⟩
   have H' := am H
   clear H
   go_wp2
   go_meet
   case rel => exact ⟨_, ((a0_0 == 161)), sq, H', ⟨by first | omega | exact Nat.le_refl _⟩, ⟨zq BK409.out⟩, ⟨bq1 HB.out GE409.out⟩⟩
  case rest =>
   clear HC5
   try clear p2
   try clear c6
   try clear c6b0
   try clear c6b1
   try clear c7
   try clear c7b0
   try clear c7b1
   try clear hcz4_0
   try clear hcz4_1
   try clear hcz4_2
   try clear hcz4_3
   try clear hcz4_4
   try clear hfz4_0
   try clear hfz4_1
   try clear hfz4_2
   try clear hfz4_3
   try clear hfz4_4
   obtain ⟨kq, x7_4, rfl, HA, HJ4, BK409, HB⟩ := hcut
   cases kq with
   | zero => exact absurd HA.out (by simp [impl_PduOk.j0])
   | succ kj4 =>
    have H := HA.out
    clear HA
    simp only [impl_PduOk.j0] at H
    rcases Decidable.em (x7_4 = true) with c8 | c8
    · subst c8
      replace H : (if a0_2 = 0 then (if a0_3 = 0 then (impl_PduOk.j2 kj4 a0_0 a0_1 a0_2 a0_3 l0_4) else (some false)) else (some false)) = some r := by rw [if_pos rfl] at H; exact H
      replace H := iq' H
      rcases H with ⟨c9, c9b0, c9b1, H⟩ | ⟨-, c9b0, c9b1, H⟩
      · obtain rfl := Option.some.inj H
        obtain ⟨hcz13_0, hcz13_1, hcz13_2, hcz13_3, hcz13_4, hfz13_0, hfz13_1, hfz13_2, hfz13_3, hfz13_4⟩ := cl5 BK409.out
        go_wp2
        go_ret
        exact ⟨rq, bq1 HB.out GE409.out⟩
      replace H := iq' H
      rcases H with ⟨c10, c10b0, c10b1, H⟩ | ⟨-, c10b0, c10b1, H⟩
      · obtain rfl := Option.some.inj H
        obtain ⟨hcz12_0, hcz12_1, hcz12_2, hcz12_3, hcz12_4, hfz12_0, hfz12_1, hfz12_2, hfz12_3, hfz12_4⟩ := cl5 BK409.out
        go_wp2
        go_ret
        exact ⟨rq, bq1 HB.out GE409.out⟩
      have H' := am H
      clear H
      obtain ⟨hcz11_0, hcz11_1, hcz11_2, hcz11_3, hcz11_4, hfz11_0, hfz11_1, hfz11_2, hfz11_3, hfz11_4⟩ := cl5 BK409.out
      go_wp2
      go_meet
      case rel => exact ⟨_, H', ⟨by have := HJ4.out; first | omega | exact Nat.le_refl _⟩, ⟨zq BK409.out⟩, ⟨bq1 HB.out GE409.out⟩⟩
    replace c8 := Bool.eq_false_iff.mpr c8
    subst c8
    replace H : (if a0_0 = 162 then (impl_PduOk.j1 kj4 (a0_0 == 162) a0_0 a0_1 a0_2 a0_3 l0_4) else (impl_PduOk.j1 kj4 (a0_0 == 165) a0_0 a0_1 a0_2 a0_3 l0_4)) = some r := by rw [if_neg (show ¬ (false = true) by decide)] at H; exact H
    have HC14 := am H
    clear H
    go_upto_if 19 with (fail)
    go_cut [19] (fun v19 wc => ∃ (kq : Nat) (x19_13 : Bool), v19 = .bool x19_13 ∧ Aside0 (impl_PduOk.j1 kq x19_13 a0_0 a0_1 a0_2 a0_3 l0_4 = some r) ∧ Aside0 (kq ≤ kj4) ∧ Aside0 (wc.heap[gb409]? = some (.cells #[.int .i64 a0_0, .int .i64 a0_1, .int .i64 a0_2, .int .i64 a0_3, (.slice A0_4 l0_4.length c0_4)] 58 (0, 0))) ∧ Aside0 (Below w.heap.size w wc))
    case first =>
     have H := HC14.out
     clear HC14
     replace H := iq' H
     rcases H with ⟨c15, c15b0, c15b1, H⟩ | ⟨-, c15b0, c15b1, H⟩
     · (first | rw [c15b0] | (simp only [i64_w, i32_w]; rw [c15b0]) | skip)
       have H' := am H
       clear H
       go_wp2
       go_meet
       case rel => exact ⟨_, ((a0_0 == 165)), sq, H', ⟨by have := HJ4.out; first | omega | exact Nat.le_refl _⟩, ⟨zq BK409.out⟩, ⟨bq1 HB.out GE409.out⟩⟩
     (first | rw [c15b0] | (simp only [i64_w, i32_w]; rw [c15b0]) | skip)
     have H' := am H
     clear H
     go_wp2
     go_meet
     case rel => exact ⟨_, ((a0_0 == 162)), sq, H', ⟨by have := HJ4.out; first | omega | exact Nat.le_refl _⟩, ⟨zq BK409.out⟩, ⟨bq1 HB.out GE409.out⟩⟩
    case rest =>
     clear HC14
     try clear c1
     try clear p2
     try clear c6
     try clear c6b0
     try clear c6b1
     try clear c7
     try clear c7b0
     try clear c7b1
     try clear c8
     try clear c9
     try clear c9b0
     try clear c9b1
     try clear c10
     try clear c10b0
     try clear c10b1
     try clear c15
     try clear c15b0
     try clear c15b1
     try clear hcz11_0
     try clear hcz11_1
     try clear hcz11_2
     try clear hcz11_3
     try clear hcz11_4
     try clear hcz12_0
     try clear hcz12_1
     try clear hcz12_2
     try clear hcz12_3
     try clear hcz12_4
     try clear hcz13_0
     try clear hcz13_1
     try clear hcz13_2
     try clear hcz13_3
     try clear hcz13_4
     try clear hcz4_0
     try clear hcz4_1
     try clear hcz4_2
     try clear hcz4_3
     try clear hcz4_4
     try clear hfz11_0
     try clear hfz11_1
     try clear hfz11_2
     try clear hfz11_3
     try clear hfz11_4
     try clear hfz12_0
     try clear hfz12_1
     try clear hfz12_2
     try clear hfz12_3
     try clear hfz12_4
     try clear hfz13_0
     try clear hfz13_1
     try clear hfz13_2
     try clear hfz13_3
     try clear hfz13_4
     try clear hfz4_0
     try clear hfz4_1
     try clear hfz4_2
     try clear hfz4_3
     try clear hfz4_4
     try clear p2
     obtain ⟨kq, x19_13, rfl, HA, HJ13, BK409, HB⟩ := hcut
     cases kq with
     | zero => exact absurd HA.out (by simp [impl_PduOk.j1])
     | succ kj13 =>
      have H := HA.out
      clear HA
      simp only [impl_PduOk.j1] at H
      rcases (Decidable.em (x19_13 = true)).symm with c16 | c16
      · replace c16 := Bool.eq_false_iff.mpr c16
        subst c16
        replace H : (some false) = some r := by rw [if_neg (show ¬ (false = true) by decide)] at H; exact H
        obtain rfl := Option.some.inj H
        go_wp2
        go_ret
        exact ⟨rq, bq1 HB.out GE409.out⟩
      subst c16
      replace H : ((impl_in.f a0_2 0 1000).bind fun qa1_0 => (if qa1_0 = true then ((impl_in.f a0_3 0 1000).bind fun qa2_0 => (if qa2_0 = true then (impl_PduOk.j2 kj13 a0_0 a0_1 a0_2 a0_3 l0_4) else (some false))) else (some false))) = some r := by rw [if_pos rfl] at H; exact H
      replace H := be H
      obtain ⟨qa1_0, Qa1, H⟩ := H
      cases qa1_0
      · replace H := iF H
        obtain rfl := Option.some.inj H
        obtain ⟨hcz23_0, hcz23_1, hcz23_2, hcz23_3, hcz23_4, hfz23_0, hfz23_1, hfz23_2, hfz23_3, hfz23_4⟩ := cl5 BK409.out
        go_wp2_with (first | ((with_reducible refine gate_callee (f := 87) rfl ?_); refine gc (some 24) (impl_in.calls a0_2 0 1000 false _ Qa1.out) Try.func87 ?_; rintro e w' ⟨rfl, ⟨nd, rfl⟩⟩; refine ⟨_, rfl, ?_⟩))
        go_ret
        exact ⟨rq, bq1 HB.out GE409.out⟩
      replace H := iT H
      replace H := be H
      obtain ⟨qa2_0, Qa2, H⟩ := H
      cases qa2_0
      · replace H := iF H
        obtain rfl := Option.some.inj H
        obtain ⟨hcz22_0, hcz22_1, hcz22_2, hcz22_3, hcz22_4, hfz22_0, hfz22_1, hfz22_2, hfz22_3, hfz22_4⟩ := cl5 BK409.out
        go_wp2_with (first | ((with_reducible refine gate_callee (f := 87) rfl ?_); refine gc (some 24) (impl_in.calls a0_2 0 1000 true _ Qa1.out) Try.func87 ?_; rintro e w' ⟨rfl, ⟨nd, rfl⟩⟩; refine ⟨_, rfl, ?_⟩) | (go_at_call 87; refine cm (impl_in.calls a0_3 0 1000 false _ Qa2.out) ?_; rintro e w' ⟨rfl, ⟨nd, rfl⟩⟩))
        go_ret
        exact ⟨rq, bq1 HB.out GE409.out⟩
      replace H := iT H
      have H' := am H
      clear H
      obtain ⟨hcz21_0, hcz21_1, hcz21_2, hcz21_3, hcz21_4, hfz21_0, hfz21_1, hfz21_2, hfz21_3, hfz21_4⟩ := cl5 BK409.out
      go_wp2_with (first | ((with_reducible refine gate_callee (f := 87) rfl ?_); refine gc (some 24) (impl_in.calls a0_2 0 1000 true _ Qa1.out) Try.func87 ?_; rintro e w' ⟨rfl, ⟨nd, rfl⟩⟩; refine ⟨_, rfl, ?_⟩) | (go_at_call 87; refine cm (impl_in.calls a0_3 0 1000 true _ Qa2.out) ?_; rintro e w' ⟨rfl, ⟨nd, rfl⟩⟩))
      go_meet
      case rel => exact ⟨_, H', ⟨by have := HJ4.out; have := HJ13.out; first | omega | exact Nat.le_refl _⟩, ⟨zq BK409.out⟩, ⟨bq1 HB.out GE409.out⟩⟩
 case rest =>
  clear HC2
  try clear c1
  try clear c2
  try clear p2
  try clear c6
  try clear c6b0
  try clear c6b1
  try clear c7
  try clear c7b0
  try clear c7b1
  try clear c8
  try clear c9
  try clear c9b0
  try clear c9b1
  try clear c10
  try clear c10b0
  try clear c10b1
  try clear c15
  try clear c15b0
  try clear c15b1
  try clear c16
  try clear c18
  try clear c20
  try clear hcz11_0
  try clear hcz11_1
  try clear hcz11_2
  try clear hcz11_3
  try clear hcz11_4
  try clear hcz12_0
  try clear hcz12_1
  try clear hcz12_2
  try clear hcz12_3
  try clear hcz12_4
  try clear hcz13_0
  try clear hcz13_1
  try clear hcz13_2
  try clear hcz13_3
  try clear hcz13_4
  try clear hcz21_0
  try clear hcz21_1
  try clear hcz21_2
  try clear hcz21_3
  try clear hcz21_4
  try clear hcz22_0
  try clear hcz22_1
  try clear hcz22_2
  try clear hcz22_3
  try clear hcz22_4
  try clear hcz23_0
  try clear hcz23_1
  try clear hcz23_2
  try clear hcz23_3
  try clear hcz23_4
  try clear hcz4_0
  try clear hcz4_1
  try clear hcz4_2
  try clear hcz4_3
  try clear hcz4_4
  try clear hfz11_0
  try clear hfz11_1
  try clear hfz11_2
  try clear hfz11_3
  try clear hfz11_4
  try clear hfz12_0
  try clear hfz12_1
  try clear hfz12_2
  try clear hfz12_3
  try clear hfz12_4
  try clear hfz13_0
  try clear hfz13_1
  try clear hfz13_2
  try clear hfz13_3
  try clear hfz13_4
  try clear hfz21_0
  try clear hfz21_1
  try clear hfz21_2
  try clear hfz21_3
  try clear hfz21_4
  try clear hfz22_0
  try clear hfz22_1
  try clear hfz22_2
  try clear hfz22_3
  try clear hfz22_4
  try clear hfz23_0
  try clear hfz23_1
  try clear hfz23_2
  try clear hfz23_3
  try clear hfz23_4
  try clear hfz4_0
  try clear hfz4_1
  try clear hfz4_2
  try clear hfz4_3
  try clear hfz4_4
  try clear p2
  obtain ⟨kq, HA, HJ1, BK409, HB⟩ := hcut
  cases kq with
  | zero => exact absurd HA.out (by simp [impl_PduOk.j2])
  | succ kj1 =>
   have H := HA.out
   clear HA
   simp only [impl_PduOk.j2] at H
   have H' := am H
   clear H
   obtain ⟨hcz24_0, hcz24_1, hcz24_2, hcz24_3, hcz24_4, hfz24_0, hfz24_1, hfz24_2, hfz24_3, hfz24_4⟩ := cl5 BK409.out
   go_wp2
   go_loopg [35] kj1 (fun kq v35 w' => ∃ (x35_2 : Int), v35 = .int .i64 x35_2 ∧ Aside0 (impl_PduOk.l0 kq l0_4 (l0_4.length : Int) x35_2 a0_0 a0_1 a0_2 a0_3 l0_4 = some r) ∧ Aside0 (kq ≤ kj1) ∧ Aside0 (w'.heap[gb409]? = some (.cells #[.int .i64 a0_0, .int .i64 a0_1, .int .i64 a0_2, .int .i64 a0_3, (.slice A0_4 l0_4.length c0_4)] 58 (0, 0))) ∧ Aside0 (Below w.heap.size w w'))
   case atStart => exact ⟨(0), sq, H', ⟨Nat.le_refl _⟩, ⟨zq BK409.out⟩, ⟨bq1 HB.out GE409.out⟩⟩
   case round =>
    clear H'
    try clear c1
    try clear c2
    try clear p2
    try clear c6
    try clear c6b0
    try clear c6b1
    try clear c7
    try clear c7b0
    try clear c7b1
    try clear c8
    try clear c9
    try clear c9b0
    try clear c9b1
    try clear c10
    try clear c10b0
    try clear c10b1
    try clear c15
    try clear c15b0
    try clear c15b1
    try clear c16
    try clear c18
    try clear c20
    try clear hcz11_0
    try clear hcz11_1
    try clear hcz11_2
    try clear hcz11_3
    try clear hcz11_4
    try clear hcz12_0
    try clear hcz12_1
    try clear hcz12_2
    try clear hcz12_3
    try clear hcz12_4
    try clear hcz13_0
    try clear hcz13_1
    try clear hcz13_2
    try clear hcz13_3
    try clear hcz13_4
    try clear hcz21_0
    try clear hcz21_1
    try clear hcz21_2
    try clear hcz21_3
    try clear hcz21_4
    try clear hcz22_0
    try clear hcz22_1
    try clear hcz22_2
    try clear hcz22_3
    try clear hcz22_4
    try clear hcz23_0
    try clear hcz23_1
    try clear hcz23_2
    try clear hcz23_3
    try clear hcz23_4
    try clear hcz24_0
    try clear hcz24_1
    try clear hcz24_2
    try clear hcz24_3
    try clear hcz24_4
    try clear hcz4_0
    try clear hcz4_1
    try clear hcz4_2
    try clear hcz4_3
    try clear hcz4_4
    try clear hfz11_0
    try clear hfz11_1
    try clear hfz11_2
    try clear hfz11_3
    try clear hfz11_4
    try clear hfz12_0
    try clear hfz12_1
    try clear hfz12_2
    try clear hfz12_3
    try clear hfz12_4
    try clear hfz13_0
    try clear hfz13_1
    try clear hfz13_2
    try clear hfz13_3
    try clear hfz13_4
    try clear hfz21_0
    try clear hfz21_1
    try clear hfz21_2
    try clear hfz21_3
    try clear hfz21_4
    try clear hfz22_0
    try clear hfz22_1
    try clear hfz22_2
    try clear hfz22_3
    try clear hfz22_4
    try clear hfz23_0
    try clear hfz23_1
    try clear hfz23_2
    try clear hfz23_3
    try clear hfz23_4
    try clear hfz24_0
    try clear hfz24_1
    try clear hfz24_2
    try clear hfz24_3
    try clear hfz24_4
    try clear hfz4_0
    try clear hfz4_1
    try clear hfz4_2
    try clear hfz4_3
    try clear hfz4_4
    try clear p2
    obtain ⟨x35_2, rfl, HA, HK2, BK409, HB⟩ := hrel
    cases gk with
    | zero => exact absurd HA.out (by simp [impl_PduOk.l0])
    | succ k2 =>
     have H := HA.out
     clear HA
     simp only [impl_PduOk.l0] at H
     replace H := il' H
     rcases H with ⟨-, c25b0, H⟩ | ⟨-, c25b0, H⟩
     replace H := be H
     obtain ⟨t412, A54, H⟩ := H
     obtain rfl := Option.some.inj H
     obtain ⟨hcz55_0, hcz55_1, hcz55_2, hcz55_3, hcz55_4, hfz55_0, hfz55_1, hfz55_2, hfz55_3, hfz55_4⟩ := cl5 BK409.out
     have z0 := trivial
     rotate_left
     replace H := nl H
     obtain ⟨-, c26b0, H⟩ := H
     replace H := nl H
     obtain ⟨-, c27b0, H⟩ := H
     replace H := ip H
     rcases H with ⟨c28, H⟩ | ⟨c28, H⟩
     have c28b0 : decide (10 ≤ x35_2) = true := decide_eq_true c28
     clear c28
     obtain rfl := Option.some.inj H
     have p413 : 0 ≤ (x35_2 : Int) := oda
     have q413 : x35_2 < (l0_4.length : Int) := oda
     obtain ⟨ad413, A413_0, c413_0, A413_4, c413_4, e413, hx413_0, hx413_1, hx413_2, hx413_3, hx413_4, hl413_0, hi413_0, hl413_4, hi413_4⟩ := at_T116 HR0_4.out x35_2 p413 q413
     cases e413
     replace hx413_0 := (HB.out.cell (World.block_lt_of_cell? w _ hx413_0)).trans hx413_0
     replace hx413_1 := (HB.out.cell (World.block_lt_of_cell? w _ hx413_1)).trans hx413_1
     replace hx413_2 := (HB.out.cell (World.block_lt_of_cell? w _ hx413_2)).trans hx413_2
     replace hx413_3 := (HB.out.cell (World.block_lt_of_cell? w _ hx413_3)).trans hx413_3
     replace hx413_4 := (HB.out.cell (World.block_lt_of_cell? w _ hx413_4)).trans hx413_4
     have HR413_0 := am hi413_0
     have HC413_0 := am hl413_0
     clear hi413_0 hl413_0
     have HR413_4 := am hi413_4
     have HC413_4 := am hl413_4
     clear hi413_4 hl413_4
     replace p413 := eq_true p413
     replace q413 := eq_true q413
     have z0 := trivial
     rotate_left
     have c28b0 : decide (10 ≤ x35_2) = false := decide_eq_false c28
     clear c28
     replace H := be H
     obtain ⟨t415, A33, H⟩ := H
     cases t415
     replace H := iF H
     obtain rfl := Option.some.inj H
     have p413 : 0 ≤ (x35_2 : Int) := oda
     have q413 : x35_2 < (l0_4.length : Int) := oda
     obtain ⟨ad413, A413_0, c413_0, A413_4, c413_4, e413, hx413_0, hx413_1, hx413_2, hx413_3, hx413_4, hl413_0, hi413_0, hl413_4, hi413_4⟩ := at_T116 HR0_4.out x35_2 p413 q413
     cases e413
     replace hx413_0 := (HB.out.cell (World.block_lt_of_cell? w _ hx413_0)).trans hx413_0
     replace hx413_1 := (HB.out.cell (World.block_lt_of_cell? w _ hx413_1)).trans hx413_1
     replace hx413_2 := (HB.out.cell (World.block_lt_of_cell? w _ hx413_2)).trans hx413_2
     replace hx413_3 := (HB.out.cell (World.block_lt_of_cell? w _ hx413_3)).trans hx413_3
     replace hx413_4 := (HB.out.cell (World.block_lt_of_cell? w _ hx413_4)).trans hx413_4
     have HR413_0 := am hi413_0
     have HC413_0 := am hl413_0
     clear hi413_0 hl413_0
     have HR413_4 := am hi413_4
     have HC413_4 := am hl413_4
     clear hi413_4 hl413_4
     replace p413 := eq_true p413
     replace q413 := eq_true q413
     have z1 := trivial
     rotate_left
     replace H := iT H
     replace H := be H
     obtain ⟨qb1_0, Qb1, H⟩ := H
     cases qb1_0
     replace H := iF H
     obtain rfl := Option.some.inj H
     have p413 : 0 ≤ (x35_2 : Int) := oda
     have q413 : x35_2 < (l0_4.length : Int) := oda
     obtain ⟨ad413, A413_0, c413_0, A413_4, c413_4, e413, hx413_0, hx413_1, hx413_2, hx413_3, hx413_4, hl413_0, hi413_0, hl413_4, hi413_4⟩ := at_T116 HR0_4.out x35_2 p413 q413
     cases e413
     replace hx413_0 := (HB.out.cell (World.block_lt_of_cell? w _ hx413_0)).trans hx413_0
     replace hx413_1 := (HB.out.cell (World.block_lt_of_cell? w _ hx413_1)).trans hx413_1
     replace hx413_2 := (HB.out.cell (World.block_lt_of_cell? w _ hx413_2)).trans hx413_2
     replace hx413_3 := (HB.out.cell (World.block_lt_of_cell? w _ hx413_3)).trans hx413_3
     replace hx413_4 := (HB.out.cell (World.block_lt_of_cell? w _ hx413_4)).trans hx413_4
     have HR413_0 := am hi413_0
     have HC413_0 := am hl413_0
     clear hi413_0 hl413_0
     have HR413_4 := am hi413_4
     have HC413_4 := am hl413_4
     clear hi413_4 hl413_4
     replace p413 := eq_true p413
     replace q413 := eq_true q413
     have z2 := trivial
     rotate_left
     · replace H := iT H
       have H' := am H
       clear H
       have p413 : 0 ≤ (x35_2 : Int) := oda
       have q413 : x35_2 < (l0_4.length : Int) := oda
       obtain ⟨ad413, A413_0, c413_0, A413_4, c413_4, e413, hx413_0, hx413_1, hx413_2, hx413_3, hx413_4, hl413_0, hi413_0, hl413_4, hi413_4⟩ := at_T116 HR0_4.out x35_2 p413 q413
       cases e413
       replace hx413_0 := (HB.out.cell (World.block_lt_of_cell? w _ hx413_0)).trans hx413_0
       replace hx413_1 := (HB.out.cell (World.block_lt_of_cell? w _ hx413_1)).trans hx413_1
       replace hx413_2 := (HB.out.cell (World.block_lt_of_cell? w _ hx413_2)).trans hx413_2
       replace hx413_3 := (HB.out.cell (World.block_lt_of_cell? w _ hx413_3)).trans hx413_3
       replace hx413_4 := (HB.out.cell (World.block_lt_of_cell? w _ hx413_4)).trans hx413_4
       have HR413_0 := am hi413_0
       have HC413_0 := am hl413_0
       clear hi413_0 hl413_0
       have HR413_4 := am hi413_4
       have HC413_4 := am hl413_4
       clear hi413_4 hl413_4
       replace p413 := eq_true p413
       replace q413 := eq_true q413
       go_wp2_with (first | ((with_reducible refine gate_dst (N := 4) rfl ?_); refine bxe 4 #[.slice none 0 0, .int .i64 0, .int .i64 0, .string (⟨#[]⟩ : ByteArray), .slice none 0 0] 116 ?_; intro gb414 hg w37 hbox hb; have n_ := ak7 (kb BK409 hb) (below_step (bq1 HB.out GE409.out) hb) hbox (bz hg (bq1 HB.out GE409.out)) (bz hg (bq1 HB.out GE409.out)) (nL hg BK409) (nG hg BK409); clear BK409 HB; obtain ⟨BK409, HB, BK414, GW414, GE414, NB409_414, NB414_409⟩ := n_; clear hb hbox hg; have hnb38 := NB414_409.out; have hnc38 := NB409_414.out; obtain ⟨hcz39_0, hcz39_1, hcz39_2, hcz39_3, hcz39_4, hfz39_0, hfz39_1, hfz39_2, hfz39_3, hfz39_4⟩ := cl5 BK414.out) | ((with_reducible refine gate_store (t := 116) (p := 4) rfl ?_); refine se 116 4 (s5 w37 gb414 (.slice A413_0 ((rd_T116 l0_4 x35_2).f0).length c413_0) (.int .i64 ((rd_T116 l0_4 x35_2).f1.f0)) (.int .i64 ((rd_T116 l0_4 x35_2).f1.f1)) (.string ((rd_T116 l0_4 x35_2).f1.f2)) (.slice A413_4 ((rd_T116 l0_4 x35_2).f1.f3).length c413_4)) ?_; intro w40 hw; have n_ := ak3 (sf5 hw BK409 NB409_414) (sc5 hw BK414) (sb hw (bq2 HB.out GE409.out GE414.out)); clear hw BK409 BK414 HB; obtain ⟨BK409, BK414, HB⟩ := n_; obtain ⟨hcz41_0, hcz41_1, hcz41_2, hcz41_3, hcz41_4, hfz41_0, hfz41_1, hfz41_2, hfz41_3, hfz41_4⟩ := cl5 BK414.out) | (go_at_call 108; refine cm (impl_OidOk.calls k2 _ _ ((rd_T116 l0_4 x35_2).f0) true _ (cq (Kd.C_below HR413_0.out HB.out)) HC413_0.out A33.out) ?_; rintro e w' ⟨rfl, ⟨nd, rfl⟩⟩) | (go_at_call 46; refine cm (impl_ValOk.calls k2 ((rd_T116 l0_4 x35_2).f1.f0) ((rd_T116 l0_4 x35_2).f1.f1) ((rd_T116 l0_4 x35_2).f1.f2) _ _ ((rd_T116 l0_4 x35_2).f1.f3) true _ (cq (Kd.C_below HR413_4.out (bq2 HB.out GE409.out GE414.out))) HC413_4.out Qb1.out) ?_; rintro e w42 ⟨rfl, hb⟩; have n_ := ak3 (kb BK409 hb) (kb BK414 hb) (below_step (bq2 HB.out GE409.out GE414.out) hb); clear BK409 BK414 HB; obtain ⟨BK409, BK414, HB⟩ := n_; (try clear hb)))
       go_roundg k2
       case measure => have := HJ1.out; have := HK2.out; omega
       case rel => exact ⟨(wrap64 (x35_2 + 1)), sq, H', ⟨by have := HJ1.out; have := HK2.out; omega⟩, ⟨zq BK409.out⟩, ⟨bq2 HB.out GE409.out GE414.out⟩⟩
     rotate_right
     rotate_right
     rotate_right
     rotate_right
     all_goals
      go_wp2_with (first | ((with_reducible refine gate_callee (f := 107) rfl ?_); refine gc (some 57) (impl_isInt.calls a0_1 t412 _ A54.out) Try.func107 ?_; rintro e w' ⟨rfl, ⟨nd, rfl⟩⟩; refine ⟨_, rfl, ?_⟩) | ((with_reducible refine gate_dst (N := 4) rfl ?_); refine bxe 4 #[.slice none 0 0, .int .i64 0, .int .i64 0, .string (⟨#[]⟩ : ByteArray), .slice none 0 0] 116 ?_; intro gb414 hg w_ hbox hb; have n_ := ak7 (kb BK409 hb) (below_step (bq1 HB.out GE409.out) hb) hbox (bz hg (bq1 HB.out GE409.out)) (bz hg (bq1 HB.out GE409.out)) (nL hg BK409) (nG hg BK409); clear BK409 HB; obtain ⟨BK409, HB, BK414, GW414, GE414, NB409_414, NB414_409⟩ := n_; clear hb hbox hg; have hNB414_409 := NB414_409.out; have hNB409_414 := NB409_414.out; obtain ⟨hcz_414_0, hcz_414_1, hcz_414_2, hcz_414_3, hcz_414_4, hfz_414_0, hfz_414_1, hfz_414_2, hfz_414_3, hfz_414_4⟩ := cl5 BK414.out) | ((with_reducible refine gate_store (t := 116) (p := 4) rfl ?_); refine se 116 4 (s5 w_ gb414 (.slice A413_0 ((rd_T116 l0_4 x35_2).f0).length c413_0) (.int .i64 ((rd_T116 l0_4 x35_2).f1.f0)) (.int .i64 ((rd_T116 l0_4 x35_2).f1.f1)) (.string ((rd_T116 l0_4 x35_2).f1.f2)) (.slice A413_4 ((rd_T116 l0_4 x35_2).f1.f3).length c413_4)) ?_; intro w_ hw; have n_ := ak3 (sf5 hw BK409 NB409_414) (sc5 hw BK414) (sb hw (bq2 HB.out GE409.out GE414.out)); clear hw BK409 BK414 HB; obtain ⟨BK409, BK414, HB⟩ := n_; obtain ⟨hcz_414_0, hcz_414_1, hcz_414_2, hcz_414_3, hcz_414_4, hfz_414_0, hfz_414_1, hfz_414_2, hfz_414_3, hfz_414_4⟩ := cl5 BK414.out) | (go_at_call 108; have := z1; refine cm (impl_OidOk.calls k2 _ _ ((rd_T116 l0_4 x35_2).f0) false _ (cq (Kd.C_below HR413_0.out HB.out)) HC413_0.out A33.out) ?_; rintro e w' ⟨rfl, ⟨nd, rfl⟩⟩) | (go_at_call 108; have := z2; refine cm (impl_OidOk.calls k2 _ _ ((rd_T116 l0_4 x35_2).f0) true _ (cq (Kd.C_below HR413_0.out HB.out)) HC413_0.out A33.out) ?_; rintro e w' ⟨rfl, ⟨nd, rfl⟩⟩) | (go_at_call 46; refine cm (impl_ValOk.calls k2 ((rd_T116 l0_4 x35_2).f1.f0) ((rd_T116 l0_4 x35_2).f1.f1) ((rd_T116 l0_4 x35_2).f1.f2) _ _ ((rd_T116 l0_4 x35_2).f1.f3) false _ (cq (Kd.C_below HR413_4.out (bq2 HB.out GE409.out GE414.out))) HC413_4.out Qb1.out) ?_; rintro e w_ ⟨rfl, hb⟩; have n_ := ak3 (kb BK409 hb) (kb BK414 hb) (below_step (bq2 HB.out GE409.out GE414.out) hb); clear BK409 BK414 HB; obtain ⟨BK409, BK414, HB⟩ := n_; (try clear hb)))
      first
      | go_ret
        exact ⟨rq, bq2 HB.out GE409.out GE414.out⟩
      | go_ret
        exact ⟨rq, bq1 HB.out GE409.out⟩
end Go.Proofs.Ythhnfmbfgplelaa.XFnMsgs
