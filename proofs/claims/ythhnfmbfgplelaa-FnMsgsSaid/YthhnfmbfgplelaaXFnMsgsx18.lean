/- The functions that one law reaches, as Lean functions, with their walks: printed by a program of this seat (wip/tools) out of the translation. -/
import Derived.Test.YthhnfmbfgplelaaXFnMsgsx0
import Derived.Test.YthhnfmbfgplelaaXFnMsgsx6
import Derived.Test.YthhnfmbfgplelaaXFnMsgsx7
import Derived.Test.YthhnfmbfgplelaaXFnMsgsx16
import Derived.Test.YthhnfmbfgplelaaXFnMsgsx17
namespace Go.Proofs.Ythhnfmbfgplelaa.XFnMsgs
open Go.RowKit Go.Proofs.YthhnfmbfgplelaaW.PrintWords Go.Proofs.YthhnfmbfgplelaaW.PrintLast Go.Proofs.YthhnfmbfgplelaaW.PrintMore
attribute [local go_sem] max2_int min2_int max_two min_two max_three min_three max_four min_four   -- for this text's walks alone
set_option linter.unusedVariables false
set_option linter.unusedSimpArgs false

/-! ### impl_GetInt: function 92 -/
def impl_GetInt.l0 : Nat → List Int → Int → List Int → Int → Int → Option (Int × Bool)
 | 0, _, _, _, _, _ => none
 | k + 1, x0, x4, x17, x18, x19 => if x19 < x18 then (if 0 ≤ x19 then (if x19 < (x17.length : Int) then (impl_GetInt.l0 k x0 (Go.bits .or .i64 (wrap64 (x4 * 256)) (wrap64 (rd x17 x19))) x17 x18 (wrap64 (x19 + 1))) else (none)) else (none)) else ((impl_PutInt.f k x4).bind fun t744 => (if (t744.length : Int) = (x0.length : Int) then (some (x4, true)) else (some (0, false))))
def impl_GetInt.f (k : Nat) (l0 : List Int) : Option (Int × Bool) := (impl_in.f (l0.length : Int) 1 4).bind fun t740 => (if t740 = true then (if 0 < (l0.length : Int) then (if 1 ≤ (l0.length : Int) then (impl_GetInt.l0 k l0 (wrap64 (IntKind.i8.wrap (rd l0 0))) (l0.drop 1) ((l0.drop 1).length : Int) 0) else (none)) else (none)) else (some (0, false)))
set_option maxHeartbeats 8000000 in
set_option maxRecDepth 100000 in
theorem impl_GetInt.calls (k : Nat) (A0 : Option Addr) (c0 : Nat) (l0 : List Int) (r1 : Int) (r2 : Bool) (w : World) (hr0 : Kd.C (Kd.int .u8) w A0 l0.length l0) (hc0 : l0.length ≤ c0) (h : impl_GetInt.f k l0 = some (r1, r2)) :
 Calls Try.prog 92 #[.slice A0 l0.length c0] w fun e w' => e = .returned (.tuple #[.int .i64 r1, .bool r2]) ∧ Below w.heap.size w w' := by
 have HR0 := am hr0
 have HC0 := am hc0
 clear hr0 hc0
 have HB := am (Below.refl w.heap.size w)
 have H := h
 clear h
 unfold impl_GetInt.f at H
 replace H := be H
 obtain ⟨qa1_0, Qa1, H⟩ := H
 cases qa1_0
 · replace H := iF H
   simp only [Option.some.injEq, Prod.mk.injEq] at H
   obtain ⟨rfl, rfl⟩ := H
   go_enter Try.func92, Try.ntmps92
   go_wp2_with (first | ((with_reducible refine gate_callee (f := 87) rfl ?_); refine gc (some 9) (impl_in.calls (l0.length : Int) 1 4 false _ Qa1.out) Try.func87 ?_; rintro e w' ⟨rfl, ⟨nd, rfl⟩⟩; refine ⟨_, rfl, ?_⟩))
   go_ret2
   exact ⟨rq, bq HB.out⟩
 replace H := iT H
 replace H := nl H
 obtain ⟨c4, c4b0, H⟩ := H
 have c4b1 : decide (0 < l0.length) = true := decide_eq_true (by omega)
 clear c4
 replace H := nq H
 obtain ⟨c5, H⟩ := H
 have c5b0 := eq_true c5
 have c5b1 : decide (1 ≤ (l0.length : Int)) = true := decide_eq_true c5
 clear c5
 have H' := am H
 clear H
 go_enter Try.func92, Try.ntmps92
 go_wp2_with (first | ((with_reducible refine gate_callee (f := 87) rfl ?_); refine gc (some 9) (impl_in.calls (l0.length : Int) 1 4 true _ Qa1.out) Try.func87 ?_; rintro e w' ⟨rfl, ⟨nd, rfl⟩⟩; refine ⟨_, rfl, ?_⟩; have p741 : 0 ≤ (0 : Int) := (by omega); have q741 : 0 < (l0.length : Int) := oda; obtain ⟨ad741, e741, hx741_0⟩ := Kd.at_int HR0.out 0 p741 q741; cases e741; have qi741 : (0 < l0.length) = True := eq_true (by omega); (try rw [show ((0 : Int)).toNat = 0 from rfl] at hx741_0); (try rw [Addr.add_zero'] at hx741_0); replace p741 := eq_true p741; replace q741 := eq_true q741; obtain ⟨i06, hi06, _, hsz6, _⟩ := info_parts info5; obtain ⟨A6, hcut6, hA6, hC6⟩ := print_drop_of (P := Try.prog) (Value.int .u8) 0 22 5 .i64 Try.underlying22 hi06 hsz6 (some ad741) c0 l0 1 (by omega) (oda) HC0.out; have HR742 := am (Kd.C_of_reads (h1 := fun _ => rfl) (hA6 _ (Kd.reads_of_C HR0.out))); have HC742 := am hC6; clear hA6 hC6 hi06 hsz6))
 go_loopg [4, 19] k (fun kq v4 v19 w' => ∃ (x4_1 : Int) (x19_1 : Int), v4 = .int .i64 x4_1 ∧ v19 = .int .i64 x19_1 ∧ Aside0 (impl_GetInt.l0 kq l0 x4_1 (l0.drop 1) ((l0.drop 1).length : Int) x19_1 = some (r1, r2)) ∧ Aside0 (kq ≤ k) ∧ Aside0 (Below w.heap.size w w'))
 case atStart => exact ⟨(wrap64 (IntKind.i8.wrap (rd l0 0))), (0), sq, sq, H', ⟨Nat.le_refl _⟩, ⟨bq HB.out⟩⟩
 case round =>
  clear H'
  try clear p2
  try clear c3
  try clear c4
  try clear c4b0
  try clear c4b1
  try clear c5
  try clear c5b0
  try clear c5b1
  try clear p6
  try clear hx741_0
  try clear p741
  try clear q741
  obtain ⟨x4_1, x19_1, rfl, rfl, HA, HK1, HB⟩ := hrel
  cases gk with
  | zero => exact absurd HA.out (by simp [impl_GetInt.l0])
  | succ k1 =>
   have H := HA.out
   clear HA
   simp only [impl_GetInt.l0] at H
   replace H := il H
   rcases H with ⟨c7, c7b0, H⟩ | ⟨c7, c7b0, H⟩
   · have c7b0z : decide (x19_1 < ((l0.length - 1 : Nat) : Int)) = true := by have h_ := c7b0; rw [List.length_drop] at h_; exact h_
     clear c7
     replace H := nl H
     obtain ⟨-, c8b0, H⟩ := H
     replace H := nl H
     obtain ⟨c9, c9b0, H⟩ := H
     have c9b0z : decide (x19_1 < ((l0.length - 1 : Nat) : Int)) = true := by have h_ := c9b0; rw [List.length_drop] at h_; exact h_
     clear c9
     have H' := am H
     clear H
     have p743 : 0 ≤ (x19_1 : Int) := oda
     have q743 : x19_1 < ((l0.drop 1).length : Int) := oda
     obtain ⟨ad743, e743, hx743_0⟩ := Kd.at_int HR742.out x19_1 p743 q743
     cases e743
     replace hx743_0 := (HB.out.cell (World.block_lt_of_cell? w _ hx743_0)).trans hx743_0
     replace p743 := eq_true p743
     replace q743 := eq_true q743
     have q743z : (x19_1 < ((l0.length - 1 : Nat) : Int)) = True := by have h_ := of_eq_true q743; rw [List.length_drop] at h_; exact eq_true h_
     go_wp2
     go_roundg k1
     case measure => have := HK1.out; omega
     case rel => exact ⟨(Go.bits .or .i64 (wrap64 (x4_1 * 256)) (wrap64 (rd (l0.drop 1) x19_1))), (wrap64 (x19_1 + 1)), sq, sq, H', ⟨by have := HK1.out; omega⟩, ⟨bq HB.out⟩⟩
   have c7b0z : decide (x19_1 < ((l0.length - 1 : Nat) : Int)) = false := by have h_ := c7b0; rw [List.length_drop] at h_; exact h_
   clear c7
   replace H := be H
   obtain ⟨t744, A10, H⟩ := H
   replace H := iq' H
   rcases H with ⟨c11, c11b0, c11b1, H⟩ | ⟨c11, c11b0, c11b1, H⟩
   have c11b2 : (t744.length == l0.length) = false := by first | simpa using c11 | (simp at c11 ⊢; omega)
   rotate_left
   have c11b2 : (t744.length == l0.length) = true := by first | simpa using c11 | (simp at c11 ⊢; omega)
   clear c11
   rotate_right
   all_goals
    simp only [Option.some.injEq, Prod.mk.injEq] at H
    obtain ⟨rfl, rfl⟩ := H
    go_wp2_with (first | ((with_reducible refine gate_callee (f := 69) rfl ?_); refine gc (some 30) (impl_PutInt.calls k1 x4_1 t744 _ A10.out) Try.func69 ?_; rintro e w_ ⟨v745, rfl, ho_, hb⟩; refine ⟨_, rfl, ?_⟩; have n_ := ak2 (rl ho_ (bq HB.out)) (below_step (bq HB.out) hb); clear HB; obtain ⟨HO746, HB⟩ := n_; (try clear hb ho_); obtain ⟨Ao_746, co_746, eo_746⟩ := Kd.R_slice HO746.out; subst eo_746))
    go_ret2
    exact ⟨rq, bq HB.out⟩
/-! ### impl_parts_num: function 80 -/
def impl_parts_num.f (k : Nat) (s0_0 : List Int) (s0_1 : Int) (s0_2 : Bool) (a1 : Int) : Option (Int × Int × Bool) := (impl_parts_part.f k s0_0 s0_1 s0_2 a1).bind fun bt747 => ((impl_GetInt.f k bt747.1).bind fun bt752 => (if bt747.2.2 = true then (some (bt752.1, bt747.2.1, true)) else (some (bt752.1, bt747.2.1, !bt752.2))))
set_option maxHeartbeats 8000000 in
set_option maxRecDepth 100000 in
theorem impl_parts_num.calls (k : Nat) (g : Nat) (s0_0 : List Int) (s0_1 : Int) (s0_2 : Bool) (a1 : Int) (r1 : Int) (r2 : Int) (r3 : Bool) (w0 w : World) {Z : Option Addr → Nat → Prop} (hI : IsS94 Z w0 w g s0_0 s0_1 s0_2) (hB : Below w0.heap.size w0 w) (h : impl_parts_num.f k s0_0 s0_1 s0_2 a1 = some (r1, r2, r3)) :
 Calls Try.prog 80 #[.pointer (some ⟨g, 0, none⟩), .int .i64 a1] w fun e w' => e = .returned (.int .i64 r1) ∧ IsS94 Z w0 w' g s0_0 r2 r3 ∧ Below w0.heap.size w0 w' ∧ KeepBut w w' g none := by
 have HI0 := am hI
 have HK := am (KeepBut.refl w g none)
 have HL := am hB.size
 clear hI
 have HW0 := am hB.size
 have HB := am hB
 clear hB
 have H := h
 clear h
 unfold impl_parts_num.f at H
 replace H := be H
 obtain ⟨⟨qa1_0, qa1_1, qa1_2⟩, Qa1, H⟩ := H
 try dsimp only at H
 replace H := be H
 obtain ⟨⟨qb1_0, qb1_1⟩, Qb1, H⟩ := H
 try dsimp only at H
 rcases bt qa1_2 with rfl | rfl
 replace H := iT H
 have z0 := trivial
 rotate_left
 replace H := iF H
 have z1 := trivial
 rotate_right
 all_goals
  simp only [Option.some.injEq, Prod.mk.injEq] at H
  obtain ⟨rfl, rfl, rfl⟩ := H
  go_enter Try.func80, Try.ntmps80
  go_wp2_with (first | ((with_reducible refine gate_callee (f := 81) rfl ?_); have := z1; refine gc (some 10) (impl_parts_part.calls (Z := Z) k g s0_0 s0_1 s0_2 a1 qa1_0 qa1_1 false w0 _ (IsS94.q0 HI0.out) (bq1 HB.out (IsS94.ge HI0.out)) Qa1.out) Try.func81 ?_; rintro e w_ ⟨v748, rfl, ho_, hi, hb, hk⟩; refine ⟨_, rfl, ?_⟩; have n_ := ak4 (Kd.R_lower ho_ (keep_size (w := w) (g := g) (row := none) (kp0 HK.out))) (KeepBut.trans (kp0 HK.out) hk (.inl rfl)) hb hi; clear HK HB HI0; obtain ⟨HO749, HK, HB, HI0⟩ := n_; (try clear hb hk hi ho_); obtain ⟨Ao_749, co_749, eo_749⟩ := Kd.R_slice HO749.out; subst eo_749) | ((with_reducible refine gate_callee (f := 81) rfl ?_); have := z0; refine gc (some 10) (impl_parts_part.calls (Z := Z) k g s0_0 s0_1 s0_2 a1 qa1_0 qa1_1 true w0 _ (IsS94.q0 HI0.out) (bq1 HB.out (IsS94.ge HI0.out)) Qa1.out) Try.func81 ?_; rintro e w_ ⟨v748, rfl, ho_, hi, hb, hk⟩; refine ⟨_, rfl, ?_⟩; have n_ := ak4 (Kd.R_lower ho_ (keep_size (w := w) (g := g) (row := none) (kp0 HK.out))) (KeepBut.trans (kp0 HK.out) hk (.inl rfl)) hb hi; clear HK HB HI0; obtain ⟨HO749, HK, HB, HI0⟩ := n_; (try clear hb hk hi ho_); obtain ⟨Ao_749, co_749, eo_749⟩ := Kd.R_slice HO749.out; subst eo_749) | ((with_reducible refine gate_callee (f := 92) rfl ?_); have := z1; refine gc (some 11) (impl_GetInt.calls k _ _ qa1_0 qb1_0 qb1_1 _ (cq (Kd.R_reads' HO749.out).2.2) ((Kd.R_reads' HO749.out).2.1) Qb1.out) Try.func92 ?_; rintro e w_ ⟨rfl, hb⟩; refine ⟨_, rfl, ?_⟩; have n_ := ak4 (rb HO749 hb) (IsS94.below (IsS94.q0 HI0.out) hb) (KeepBut.trans (kp0 HK.out) (KeepBut.of_below hb g none) (.inl rfl)) (below_step (bq1 HB.out (IsS94.ge HI0.out)) hb); clear HO749 HI0 HK HB; obtain ⟨HO749, HI0, HK, HB⟩ := n_; (try clear hb); obtain ⟨ASz13_0, cSz13_0, HGz13, hgz13, HSz13_0⟩ := HI0.out; have hcz13_0 := cellS94_0 HGz13; have hcz13_1 := cellS94_1 HGz13; have hcz13_2 := cellS94_2 HGz13; have hfz13_1 := blk_frozen HGz13 1; have hfz13_2 := blk_frozen HGz13 2; clear HGz13 hgz13) | ((with_reducible refine gate_callee (f := 92) rfl ?_); have := z0; refine gc (some 11) (impl_GetInt.calls k _ _ qa1_0 qb1_0 qb1_1 _ (cq (Kd.R_reads' HO749.out).2.2) ((Kd.R_reads' HO749.out).2.1) Qb1.out) Try.func92 ?_; rintro e w_ ⟨rfl, hb⟩; refine ⟨_, rfl, ?_⟩; have n_ := ak4 (rb HO749 hb) (IsS94.below (IsS94.q0 HI0.out) hb) (KeepBut.trans (kp0 HK.out) (KeepBut.of_below hb g none) (.inl rfl)) (below_step (bq1 HB.out (IsS94.ge HI0.out)) hb); clear HO749 HI0 HK HB; obtain ⟨HO749, HI0, HK, HB⟩ := n_; (try clear hb); obtain ⟨ASz9_0, cSz9_0, HGz9, hgz9, HSz9_0⟩ := HI0.out; have hcz9_0 := cellS94_0 HGz9; have hcz9_1 := cellS94_1 HGz9; have hcz9_2 := cellS94_2 HGz9; have hfz9_1 := blk_frozen HGz9 1; have hfz9_2 := blk_frozen HGz9 2; clear HGz9 hgz9))
  go_ret
  exact ⟨rq, IsS94.q0 HI0.out, bq1 HB.out (IsS94.ge HI0.out), kp0 HK.out⟩
theorem impl_parts_num.box (k : Nat) (g : Nat) (s0_0 : List Int) (s0_1 : Int) (s0_2 : Bool) (a1 : Int) (r1 : Int) (r2 : Int) (r3 : Bool) (w : World) (A : Option Addr) (c : Nat) (hb : w.heap[g]? = some (.cells #[.slice A s0_0.length c, .int .i64 s0_1, .bool s0_2] 94 (0, 0))) (hC : Kd.C (Kd.int .u8) (tr w g) A s0_0.length s0_0) (hc : s0_0.length ≤ c) (h : impl_parts_num.f k s0_0 s0_1 s0_2 a1 = some (r1, r2, r3)) :
 Calls Try.prog 80 #[.pointer (some ⟨g, 0, none⟩), .int .i64 a1] w fun e w' => e = .returned (.int .i64 r1) ∧ w'.heap[g]? = some (.cells #[.slice A s0_0.length c, .int .i64 r2, .bool r3] 94 (0, 0)) ∧ Kq w w' g := by
 have hg : g ≤ w.heap.size := Nat.le_of_lt (blk_lt hb)
 refine (impl_parts_num.calls (Z := fun A' c' => A' = A ∧ c' = c) k g s0_0 s0_1 s0_2 a1 r1 r2 r3 (tr w g) w ⟨A, c, hb, by rw [tr_size hg]; exact Nat.le_refl _, ⟨hC, hc⟩, rfl, rfl⟩ (tr_below hg) h).mono ?_
 rintro e w' ⟨rfl, ⟨A', c', hb', _, _, hA, hc'⟩, hB, hk⟩
 exact ⟨rfl, by rw [hA, hc'] at hb'; exact hb', Kq.of hg hB hk⟩
/-! ### impl_parts_done: function 82 -/
def impl_parts_done.f (s0_0 : List Int) (s0_1 : Int) (s0_2 : Bool) : Option (Bool × Int × Bool) := if s0_2 = true then (some (false, s0_1, s0_2)) else (some ((s0_1 == (s0_0.length : Int)), s0_1, s0_2))
set_option maxHeartbeats 8000000 in
set_option maxRecDepth 100000 in
theorem impl_parts_done.calls (g : Nat) (s0_0 : List Int) (s0_1 : Int) (s0_2 : Bool) (r1 : Bool) (r2 : Int) (r3 : Bool) (w0 w : World) {Z : Option Addr → Nat → Prop} (hI : IsS94 Z w0 w g s0_0 s0_1 s0_2) (hB : Below w0.heap.size w0 w) (h : impl_parts_done.f s0_0 s0_1 s0_2 = some (r1, r2, r3)) :
 Calls Try.prog 82 #[.pointer (some ⟨g, 0, none⟩)] w fun e w' => e = .returned (.bool r1) ∧ IsS94 Z w0 w' g s0_0 r2 r3 ∧ Below w0.heap.size w0 w' ∧ KeepBut w w' g none := by
 have HI0 := am hI
 have HK := am (KeepBut.refl w g none)
 have HL := am hB.size
 clear hI
 have HW0 := am hB.size
 have HB := am hB
 clear hB
 have H := h
 clear h
 unfold impl_parts_done.f at H
 rcases Decidable.em (s0_2 = true) with c2 | c2
 · subst c2
   replace H : (some (false, s0_1, true)) = some (r1, r2, r3) := by rw [if_pos rfl] at H; exact H
   simp only [Option.some.injEq, Prod.mk.injEq] at H
   obtain ⟨rfl, rfl, rfl⟩ := H
   obtain ⟨ASz3_0, cSz3_0, HGz3, hgz3, HSz3_0⟩ := HI0.out
   have hcz3_0 := cellS94_0 HGz3
   have hcz3_1 := cellS94_1 HGz3
   have hcz3_2 := cellS94_2 HGz3
   have hfz3_1 := blk_frozen HGz3 1
   have hfz3_2 := blk_frozen HGz3 2
   clear HGz3 hgz3
   go_enter Try.func82, Try.ntmps82
   try go_wp2
   repeat (go_quiet (fail); try go_wp2)
   go_ret
   exact ⟨rq, IsS94.q0 HI0.out, bq1 HB.out (IsS94.ge HI0.out), kp0 HK.out⟩
 replace c2 := Bool.eq_false_iff.mpr c2
 subst c2
 replace H : (some ((s0_1 == (s0_0.length : Int)), s0_1, false)) = some (r1, r2, r3) := by rw [if_neg (show ¬ (false = true) by decide)] at H; exact H
 simp only [Option.some.injEq, Prod.mk.injEq] at H
 obtain ⟨rfl, rfl, rfl⟩ := H
 obtain ⟨ASz4_0, cSz4_0, HGz4, hgz4, HSz4_0⟩ := HI0.out
 have hcz4_0 := cellS94_0 HGz4
 have hcz4_1 := cellS94_1 HGz4
 have hcz4_2 := cellS94_2 HGz4
 have hfz4_1 := blk_frozen HGz4 1
 have hfz4_2 := blk_frozen HGz4 2
 clear HGz4 hgz4
 go_enter Try.func82, Try.ntmps82
 try go_wp2
 repeat (go_quiet (fail); try go_wp2)
 go_ret
 exact ⟨rq, IsS94.q0 HI0.out, bq1 HB.out (IsS94.ge HI0.out), kp0 HK.out⟩
theorem impl_parts_done.box (g : Nat) (s0_0 : List Int) (s0_1 : Int) (s0_2 : Bool) (r1 : Bool) (r2 : Int) (r3 : Bool) (w : World) (A : Option Addr) (c : Nat) (hb : w.heap[g]? = some (.cells #[.slice A s0_0.length c, .int .i64 s0_1, .bool s0_2] 94 (0, 0))) (hC : Kd.C (Kd.int .u8) (tr w g) A s0_0.length s0_0) (hc : s0_0.length ≤ c) (h : impl_parts_done.f s0_0 s0_1 s0_2 = some (r1, r2, r3)) :
 Calls Try.prog 82 #[.pointer (some ⟨g, 0, none⟩)] w fun e w' => e = .returned (.bool r1) ∧ w'.heap[g]? = some (.cells #[.slice A s0_0.length c, .int .i64 r2, .bool r3] 94 (0, 0)) ∧ Kq w w' g := by
 have hg : g ≤ w.heap.size := Nat.le_of_lt (blk_lt hb)
 refine (impl_parts_done.calls (Z := fun A' c' => A' = A ∧ c' = c) g s0_0 s0_1 s0_2 r1 r2 r3 (tr w g) w ⟨A, c, hb, by rw [tr_size hg]; exact Nat.le_refl _, ⟨hC, hc⟩, rfl, rfl⟩ (tr_below hg) h).mono ?_
 rintro e w' ⟨rfl, ⟨A', c', hb', _, _, hA, hc'⟩, hB, hk⟩
 exact ⟨rfl, by rw [hA, hc'] at hb'; exact hb', Kq.of hg hB hk⟩
/-! ### impl_GetOid: function 93 -/
def impl_GetOid.l0 : Nat → List Int → List Int → Int → List Int → Int → Int → Option (List Int × Bool)
 | 0, _, _, _, _, _, _ => none
 | k + 1, x0, x4, x5, x9, x10, x11 => if x11 < x10 then (if 0 ≤ x11 then (if x11 < (x9.length : Int) then (if x11 ≥ 40 then (some (([] : List Int), false)) else (if (rd x9 x11) < 128 then (if x4.length < 17592186044416 then (impl_GetOid.l0 k x0 (x4 ++ [Go.bits .or .i64 (wrap64 ((mn x5 1048576) * 128)) (wrap64 (Go.bits .and .u8 (rd x9 x11) 127))]) 0 x9 x10 (wrap64 (x11 + 1))) else (none)) else (impl_GetOid.l0 k x0 x4 (Go.bits .or .i64 (wrap64 ((mn x5 1048576) * 128)) (wrap64 (Go.bits .and .u8 (rd x9 x11) 127))) x9 x10 (wrap64 (x11 + 1))))) else (none)) else (none)) else ((impl_PutOid.f k x4).bind fun t754 => (if (t754.length : Int) = 0 then (some (([] : List Int), false)) else (if (strOfNums t754).toList = (strOfNums x0).toList then (some (x4, true)) else (some (([] : List Int), false)))))
def impl_GetOid.f (k : Nat) (l0 : List Int) : Option (List Int × Bool) := impl_GetOid.l0 k l0 ([] : List Int) 0 l0 (l0.length : Int) 0
set_option maxHeartbeats 8000000 in
set_option maxRecDepth 100000 in
theorem impl_GetOid.calls (k : Nat) (A0 : Option Addr) (c0 : Nat) (l0 : List Int) (r1 : List Int) (r2 : Bool) (w : World) (hr0 : Kd.C (Kd.int .u8) w A0 l0.length l0) (hc0 : l0.length ≤ c0) (h : impl_GetOid.f k l0 = some (r1, r2)) :
 Calls Try.prog 93 #[.slice A0 l0.length c0] w fun e w' => ∃ v0_ : Value, e = .returned (.tuple #[v0_, .bool r2]) ∧ Kd.R (Kd.int .i64) 3 w' w.heap.size (fun _ => True) v0_ r1 ∧ Below w.heap.size w w' := by
 have HR0 := am hr0
 have HC0 := am hc0
 clear hr0 hc0
 have HB := am (Below.refl w.heap.size w)
 have H := h
 clear h
 unfold impl_GetOid.f at H
 have H' := am H
 clear H
 go_enter Try.func93, Try.ntmps93
 go_wp2
 go_loopg [4, 5, 11] k (fun kq v4 v5 v11 w' => ∃ (x4_1 : List Int) (x5_1 : Int) (x11_1 : Int), v5 = .int .i64 x5_1 ∧ v11 = .int .i64 x11_1 ∧ Aside0 (impl_GetOid.l0 kq l0 x4_1 x5_1 l0 (l0.length : Int) x11_1 = some (r1, r2)) ∧ Aside0 (kq ≤ k) ∧ Aside0 (Kd.R (Kd.int .i64) 3 w' w.heap.size (fun _ => True) v4 x4_1) ∧ Aside0 (Below w.heap.size w w'))
 case atStart => exact ⟨(([] : List Int)), (0), (0), sq, sq, H', ⟨Nat.le_refl _⟩, ⟨rn⟩, ⟨bq HB.out⟩⟩
 case round =>
  clear H'
  obtain ⟨x4_1, x5_1, x11_1, rfl, rfl, HA, HK1, HO_4, HB⟩ := hrel
  cases gk with
  | zero => exact absurd HA.out (by simp [impl_GetOid.l0])
  | succ k1 =>
   have H := HA.out
   clear HA
   simp only [impl_GetOid.l0] at H
   replace H := il' H
   rcases H with ⟨-, c2b0, H⟩ | ⟨-, c2b0, H⟩
   · replace H := be H
     obtain ⟨t754, A10, H⟩ := H
     replace H := iq H
     rcases H with ⟨-, c11b0, c11b1, H⟩ | ⟨c11, c11b0, c11b1, H⟩
     · simp only [Option.some.injEq, Prod.mk.injEq] at H
       obtain ⟨rfl, rfl⟩ := H
       obtain ⟨Ao12, co12, eo12⟩ := Kd.R_slice HO_4.out
       subst eo12
       go_wp2_with (first | ((with_reducible refine gate_callee (f := 70) rfl ?_); refine gc (some 33) (impl_PutOid.calls k1 _ _ x4_1 t754 _ (cq (Kd.R_reads' HO_4.out).2.2) ((Kd.R_reads' HO_4.out).2.1) A10.out) Try.func70 ?_; rintro e w13 ⟨v755, rfl, ho0, hb⟩; refine ⟨_, rfl, ?_⟩; have n_ := ak3 (rb HO_4 hb) (rl ho0 (bq HB.out)) (below_step (bq HB.out) hb); clear HO_4 HB; obtain ⟨HO_4, HO756, HB⟩ := n_; (try clear hb ho0); obtain ⟨Ao14, co14, eo14⟩ := Kd.R_slice HO756.out; subst eo14))
       go_ret2
       exact ⟨_, rq, rn, bq HB.out⟩
     have c11b2 : ¬ (t754 = []) := fun h_ => c11 (by rw [h_]; rfl)
     replace H := iq' H
     rcases H with ⟨c15, c15b0, c15b1, H⟩ | ⟨-, c15b0, c15b1, H⟩
     · simp only [Option.some.injEq, Prod.mk.injEq] at H
       obtain ⟨rfl, rfl⟩ := H
       obtain ⟨Ao21, co21, eo21⟩ := Kd.R_slice HO_4.out
       subst eo21
       go_wp2_with (first | ((with_reducible refine gate_callee (f := 70) rfl ?_); refine gc (some 33) (impl_PutOid.calls k1 _ _ x4_1 t754 _ (cq (Kd.R_reads' HO_4.out).2.2) ((Kd.R_reads' HO_4.out).2.1) A10.out) Try.func70 ?_; rintro e w22 ⟨v755, rfl, ho0, hb⟩; refine ⟨_, rfl, ?_⟩; have n_ := ak3 (rb HO_4 hb) (rl ho0 (bq HB.out)) (below_step (bq HB.out) hb); clear HO_4 HB; obtain ⟨HO_4, HO756, HB⟩ := n_; (try clear hb ho0); obtain ⟨Ao23, co23, eo23⟩ := Kd.R_slice HO756.out; subst eo23; have hcv24 := own_string (P := Try.prog) Try.underlying22 Try.underlying5 Try.underlying9 (Kd.own_of_R HO756.out); have hcv25 := Kd.C_string (P := Try.prog) (A := A0) (c := c0) Try.underlying22 Try.underlying5 Try.underlying9 (Kd.C_below HR0.out HB.out)))
       go_ret2
       exact ⟨_, rq, rn, bq HB.out⟩
     simp only [Option.some.injEq, Prod.mk.injEq] at H
     obtain ⟨rfl, rfl⟩ := H
     obtain ⟨Ao16, co16, eo16⟩ := Kd.R_slice HO_4.out
     subst eo16
     go_wp2_with (first | ((with_reducible refine gate_callee (f := 70) rfl ?_); refine gc (some 33) (impl_PutOid.calls k1 _ _ x4_1 t754 _ (cq (Kd.R_reads' HO_4.out).2.2) ((Kd.R_reads' HO_4.out).2.1) A10.out) Try.func70 ?_; rintro e w17 ⟨v755, rfl, ho0, hb⟩; refine ⟨_, rfl, ?_⟩; have n_ := ak3 (rb HO_4 hb) (rl ho0 (bq HB.out)) (below_step (bq HB.out) hb); clear HO_4 HB; obtain ⟨HO_4, HO756, HB⟩ := n_; (try clear hb ho0); obtain ⟨Ao18, co18, eo18⟩ := Kd.R_slice HO756.out; subst eo18; have hcv19 := own_string (P := Try.prog) Try.underlying22 Try.underlying5 Try.underlying9 (Kd.own_of_R HO756.out); have hcv20 := Kd.C_string (P := Try.prog) (A := A0) (c := c0) Try.underlying22 Try.underlying5 Try.underlying9 (Kd.C_below HR0.out HB.out)))
     go_ret2
     exact ⟨_, rq, kqR HO_4.out, bq HB.out⟩
   replace H := nl H
   obtain ⟨-, c3b0, H⟩ := H
   replace H := nl H
   obtain ⟨-, c4b0, H⟩ := H
   replace H := ip H
   rcases H with ⟨c5, H⟩ | ⟨c5, H⟩
   · have c5b0 : decide (40 ≤ x11_1) = true := decide_eq_true c5
     clear c5
     simp only [Option.some.injEq, Prod.mk.injEq] at H
     obtain ⟨rfl, rfl⟩ := H
     have p757 : 0 ≤ (x11_1 : Int) := oda
     have q757 : x11_1 < (l0.length : Int) := oda
     obtain ⟨ad757, e757, hx757_0⟩ := Kd.at_int HR0.out x11_1 p757 q757
     cases e757
     replace hx757_0 := (HB.out.cell (World.block_lt_of_cell? w _ hx757_0)).trans hx757_0
     replace p757 := eq_true p757
     replace q757 := eq_true q757
     go_wp2
     go_ret2
     exact ⟨_, rq, rn, bq HB.out⟩
   have c5b0 : decide (40 ≤ x11_1) = false := decide_eq_false c5
   clear c5
   obtain ⟨ji6, hji6⟩ : ∃ j_ : Int, (mn x5_1 1048576) = j_ := ⟨_, rfl⟩
   first | rw [hji6] at H | simp only [hji6] at H
   have hji6_ : (if 1048576 < x5_1 then 1048576 else x5_1) = ji6 := hji6
   replace H := il' H
   rcases H with ⟨-, c7b0, H⟩ | ⟨-, c7b0, H⟩
   · have H' := am H
     clear H
     have p757 : 0 ≤ (x11_1 : Int) := oda
     have q757 : x11_1 < (l0.length : Int) := oda
     obtain ⟨ad757, e757, hx757_0⟩ := Kd.at_int HR0.out x11_1 p757 q757
     cases e757
     replace hx757_0 := (HB.out.cell (World.block_lt_of_cell? w _ hx757_0)).trans hx757_0
     replace p757 := eq_true p757
     replace q757 := eq_true q757
     go_wp2
     go_roundg k1
     case measure => have := HK1.out; omega
     case rel => exact ⟨(x4_1), (Go.bits .or .i64 (wrap64 ((ji6) * 128)) (wrap64 (Go.bits .and .u8 (rd l0 x11_1) 127))), (wrap64 (x11_1 + 1)), (by first | rfl | (simp; done) | (simp only [← hji6] <;> (first | rfl | simp)) | (simp [*]; done)), sq, H', ⟨by have := HK1.out; omega⟩, ⟨kqR HO_4.out⟩, ⟨bq HB.out⟩⟩
   replace H := nq H
   obtain ⟨c8, H⟩ := H
   have LMc8 := am c8
   clear c8
   generalize hy758 : ((x4_1 ++ [Go.bits .or .i64 (wrap64 ((ji6) * 128)) (wrap64 (Go.bits .and .u8 (rd l0 x11_1) 127))]) : List Int) = y758 at H
   have Ny758 := am hy758.symm
   clear hy758
   have H' := am H
   clear H
   have p757 : 0 ≤ (x11_1 : Int) := oda
   have q757 : x11_1 < (l0.length : Int) := oda
   obtain ⟨ad757, e757, hx757_0⟩ := Kd.at_int HR0.out x11_1 p757 q757
   cases e757
   replace hx757_0 := (HB.out.cell (World.block_lt_of_cell? w _ hx757_0)).trans hx757_0
   replace p757 := eq_true p757
   replace q757 := eq_true q757
   go_wp2_with (first | ((with_reducible refine gate_builtin (b := .append) (xs := #[.tmp 27, .tmp 29]) rfl ?_); at_builtin; refine Kd.R_append (Kd.int .i64) (w0 := w) w.heap.size rfl (.tmp 27) (.tmp 29) 23 3 (.int .i64 0) 8 rfl Try.underlying23 info3 rfl (by decide) (by omega) u4 x4_1 (Go.bits .or .i64 (wrap64 ((ji6) * 128)) (wrap64 (Go.bits .and .u8 (rd l0 x11_1) 127))) [.int .i64 (Go.bits .or .i64 (wrap64 ((ji6) * 128)) (wrap64 (Go.bits .and .u8 (rd l0 x11_1) 127)))] (fun _ => True) (fun _ => False) rfl rfl ?aP (fun _ hk => hk.elim) ?aF ?aO ?aB ?aS ?aL ?_; (case aP => exact rfl); (case aB => exact (bq HB.out)); (case aF => exact (fun _ _ => trivial)); (case aO => exact (kqR HO_4.out)); (case aS => exact (below_size (bq HB.out))); (case aL => have := LMc8.out; omega); intro v759 w9 ho hb hg hat; rw [← Ny758.out] at ho; have n_ := ak2 hb ho; clear HB HO_4; obtain ⟨HB, HO760⟩ := n_; clear ho hb hg hat))
   go_roundg k1
   case measure => have := HK1.out; omega
   case rel => exact ⟨(y758), (0), (wrap64 (x11_1 + 1)), sq, sq, H', ⟨by have := HK1.out; omega⟩, ⟨kqR HO760.out⟩, ⟨bq HB.out⟩⟩
/-! ### impl_GetVal: function 36 -/
def impl_GetVal.f (k : Nat) (l0 : List Int) (a1 : Int) : Option (Int × Int × ByteArray × List Int × Int × Bool) := (impl_GetTlv.f k l0 a1).bind fun bt762 => (if bt762.2.2.2 = true then (if bt762.1 = 2 then ((impl_GetInt.f k bt762.2.1).bind fun bt769 => (if bt769.2 = true then ((impl_ValOk.f k bt762.1 bt769.1 (⟨#[]⟩ : ByteArray) ([] : List Int)).bind fun t771 => (if t771 = true then (some (bt762.1, bt769.1, (⟨#[]⟩ : ByteArray), ([] : List Int), bt762.2.2.1, true)) else (some (0, 0, (⟨#[]⟩ : ByteArray), ([] : List Int), 0, false)))) else (some (0, 0, (⟨#[]⟩ : ByteArray), ([] : List Int), 0, false)))) else (if bt762.1 = 4 then ((impl_ValOk.f k bt762.1 0 (strOfNums bt762.2.1) ([] : List Int)).bind fun t772 => (if t772 = true then (some (bt762.1, 0, strOfNums bt762.2.1, ([] : List Int), bt762.2.2.1, true)) else (some (0, 0, (⟨#[]⟩ : ByteArray), ([] : List Int), 0, false)))) else (if bt762.1 = 6 then ((impl_GetOid.f k bt762.2.1).bind fun bt773 => (if bt773.2 = true then ((impl_ValOk.f k bt762.1 0 (⟨#[]⟩ : ByteArray) bt773.1).bind fun t777 => (if t777 = true then (some (bt762.1, 0, (⟨#[]⟩ : ByteArray), bt773.1, bt762.2.2.1, true)) else (some (0, 0, (⟨#[]⟩ : ByteArray), ([] : List Int), 0, false)))) else (some (0, 0, (⟨#[]⟩ : ByteArray), ([] : List Int), 0, false)))) else (if ((bt762.2.1.length : Int) = 0) then ((impl_ValOk.f k bt762.1 0 (⟨#[]⟩ : ByteArray) ([] : List Int)).bind fun t778 => (if t778 = true then (some (bt762.1, 0, (⟨#[]⟩ : ByteArray), ([] : List Int), bt762.2.2.1, true)) else (some (0, 0, (⟨#[]⟩ : ByteArray), ([] : List Int), 0, false)))) else (some (0, 0, (⟨#[]⟩ : ByteArray), ([] : List Int), 0, false)))))) else (some (0, 0, (⟨#[]⟩ : ByteArray), ([] : List Int), 0, false)))
set_option maxHeartbeats 8000000 in
set_option maxRecDepth 100000 in
theorem impl_GetVal.calls (k : Nat) (A0 : Option Addr) (c0 : Nat) (l0 : List Int) (a1 : Int) (r1 : Int) (r2 : Int) (r3 : ByteArray) (r4 : List Int) (r5 : Int) (r6 : Bool) (w : World) (hr0 : Kd.C (Kd.int .u8) w A0 l0.length l0) (hc0 : l0.length ≤ c0) (h : impl_GetVal.f k l0 a1 = some (r1, r2, r3, r4, r5, r6)) :
 Calls Try.prog 36 #[.slice A0 l0.length c0, .int .i64 a1] w fun e w' => ∃ v3_ : Value, e = .returned (.tuple #[.agg #[.int .i64 r1, .int .i64 r2, .string r3, v3_], .int .i64 r5, .bool r6]) ∧ Kd.R (Kd.int .i64) 3 w' w.heap.size (fun _ => True) v3_ r4 ∧ Below w.heap.size w w' := by
 have hu29 := Try.underlying29
 have HR0 := am hr0
 have HC0 := am hc0
 clear hr0 hc0
 have HB := am (Below.refl w.heap.size w)
 have H := h
 clear h
 unfold impl_GetVal.f at H
 replace H := be H
 obtain ⟨⟨qa1_0, qa1_1, qa1_2, qa1_3⟩, Qa1, H⟩ := H
 try dsimp only at H
 cases qa1_3
 replace H := iF H
 have z0 := trivial
 rotate_left
 replace H := iT H
 replace H := iq H
 rcases H with ⟨-, c5b0, c5b1, H⟩ | ⟨c5, c5b0, c5b1, H⟩
 replace H := be H
 obtain ⟨⟨qb1_0, qb1_1⟩, Qb1, H⟩ := H
 try dsimp only at H
 cases qb1_1
 replace H := iF H
 have z1 := trivial
 rotate_left
 replace H := iT H
 replace H := be H
 obtain ⟨qc1_0, Qc1, H⟩ := H
 cases qc1_0
 replace H := iF H
 have z2 := trivial
 rotate_left
 replace H := iT H
 have z3 := trivial
 rotate_right
 rotate_right
 rotate_left 3
 replace H := iq H
 rcases H with ⟨-, c46b0, c46b1, H⟩ | ⟨c46, c46b0, c46b1, H⟩
 replace H := be H
 obtain ⟨qc1_0, Qc1, H⟩ := H
 cases qc1_0
 replace H := iF H
 have z4 := trivial
 rotate_left
 replace H := iT H
 have z5 := trivial
 rotate_right
 rotate_left 2
 replace H := iq' H
 rcases H with ⟨c72, c72b0, c72b1, H⟩ | ⟨-, c72b0, c72b1, H⟩
 replace H := iq' H
 rcases H with ⟨c116, c116b0, c116b1, H⟩ | ⟨-, c116b0, c116b1, H⟩
 have c116b2 : ¬ (qa1_1 = []) := fun h_ => c116 (by rw [h_]; rfl)
 have z6 := trivial
 rotate_left
 replace H := be H
 obtain ⟨qc1_0, Qc1, H⟩ := H
 cases qc1_0
 replace H := iF H
 have z7 := trivial
 rotate_left
 replace H := iT H
 have z8 := trivial
 rotate_right
 rotate_right
 rotate_left 3
 replace H := be H
 obtain ⟨⟨qd1_0, qd1_1⟩, Qd1, H⟩ := H
 try dsimp only at H
 cases qd1_1
 replace H := iF H
 have z9 := trivial
 rotate_left
 replace H := iT H
 replace H := be H
 obtain ⟨qc1_0, Qc1, H⟩ := H
 cases qc1_0
 replace H := iF H
 have z10 := trivial
 rotate_left
 replace H := iT H
 have z11 := trivial
 rotate_right
 rotate_right
 rotate_right 3
 rotate_right 2
 rotate_right 3
 rotate_right
 all_goals
  simp only [Option.some.injEq, Prod.mk.injEq] at H
  obtain ⟨rfl, rfl, rfl, rfl, rfl, rfl⟩ := H
  go_enter Try.func36, Try.ntmps36
  go_wp2_with (first | ((with_reducible refine gate_dst (N := 4) rfl ?_); refine bxe 4 #[.int .i64 0, .int .i64 0, .string (⟨#[]⟩ : ByteArray), .slice none 0 0] 29 ?_; intro gb761 hg w_ hbox hb; have n_ := ak4 (below_step (bq HB.out) hb) hbox (bz hg (bq HB.out)) (bz hg (bq HB.out)); clear HB; obtain ⟨HB, BK761, GW761, GE761⟩ := n_; clear hb hbox hg) | ((with_reducible refine gate_callee (f := 91) rfl ?_); have := z0; refine gc (some 15) (impl_GetTlv.calls k _ _ l0 a1 qa1_0 qa1_1 qa1_2 false _ (cq (Kd.C_below HR0.out HB.out)) HC0.out Qa1.out) Try.func91 ?_; rintro e w_ ⟨v766, rfl, ho_, hb⟩; refine ⟨_, rfl, ?_⟩; have n_ := ak3 (rl ho_ (bq1 HB.out GE761.out)) (kb BK761 hb) (below_step (bq1 HB.out GE761.out) hb); clear BK761 HB; obtain ⟨HO767, BK761, HB⟩ := n_; (try clear hb ho_); obtain ⟨Ao_767, co_767, eo_767⟩ := Kd.R_slice HO767.out; subst eo_767) | ((with_reducible refine gate_callee (f := 91) rfl ?_); (first | have := z1 | have := z2 | have := z3 | have := z4 | have := z5 | have := z6 | have := z7 | have := z8 | have := z9 | have := z10 | have := z11); refine gc (some 15) (impl_GetTlv.calls k _ _ l0 a1 qa1_0 qa1_1 qa1_2 true _ (cq (Kd.C_below HR0.out HB.out)) HC0.out Qa1.out) Try.func91 ?_; rintro e w_ ⟨v766, rfl, ho_, hb⟩; refine ⟨_, rfl, ?_⟩; have n_ := ak3 (rl ho_ (bq1 HB.out GE761.out)) (kb BK761 hb) (below_step (bq1 HB.out GE761.out) hb); clear BK761 HB; obtain ⟨HO767, BK761, HB⟩ := n_; (try clear hb ho_); obtain ⟨Ao_767, co_767, eo_767⟩ := Kd.R_slice HO767.out; subst eo_767) | ((with_reducible refine gate_dst (N := 11) rfl ?_); refine bxe 11 #[.int .i64 0, .int .i64 0, .string (⟨#[]⟩ : ByteArray), .slice none 0 0] 29 ?_; intro gb768 hg w_ hbox hb; have n_ := ak8 (rb HO767 hb) (kb BK761 hb) (below_step (bq1 HB.out GE761.out) hb) hbox (bz hg (bq1 HB.out GE761.out)) (bz hg (bq1 HB.out GE761.out)) (nL hg BK761) (nG hg BK761); clear HO767 BK761 HB; obtain ⟨HO767, BK761, HB, BK768, GW768, GE768, NB761_768, NB768_761⟩ := n_; clear hb hbox hg; have hNB768_761 := NB768_761.out; have hNB761_768 := NB761_768.out; obtain ⟨hcz_768_0, hcz_768_1, hcz_768_2, hcz_768_3, hfz_768_0, hfz_768_1, hfz_768_2, hfz_768_3⟩ := cl4 BK768.out) | ((with_reducible refine gate_store (t := 29) (p := 11) rfl ?_); refine se 29 11 (s4 w_ gb768 (.int .i64 qa1_0) (.int .i64 0) (.string (⟨#[]⟩ : ByteArray)) (.slice none 0 0)) ?_; intro w_ hw; have n_ := ak4 (sr4 hw HO767 BK768) (sf4 hw BK761 NB761_768) (sc4 hw BK768) (sb hw (bq2 HB.out GE761.out GE768.out)); clear hw HO767 BK761 BK768 HB; obtain ⟨HO767, BK761, BK768, HB⟩ := n_; obtain ⟨hcz_761_0, hcz_761_1, hcz_761_2, hcz_761_3, hfz_761_0, hfz_761_1, hfz_761_2, hfz_761_3⟩ := cl4 BK761.out; have hcv_767 := own_string (P := Try.prog) Try.underlying22 Try.underlying5 Try.underlying9 (Kd.own_of_R HO767.out); obtain ⟨hcz_768_0, hcz_768_1, hcz_768_2, hcz_768_3, hfz_768_0, hfz_768_1, hfz_768_2, hfz_768_3⟩ := cl4 BK768.out) | ((with_reducible refine gate_store (t := 29) (p := 4) rfl ?_); have := z9; refine se 29 4 (((((w_.setCell ⟨gb768, 3, none⟩ (.slice Ao_776 qd1_0.length co_776)).setCell ⟨gb761, 0, none⟩ (.int .i64 0)).setCell ⟨gb761, 1, none⟩ (.int .i64 0)).setCell ⟨gb761, 2, none⟩ (.string (⟨#[]⟩ : ByteArray))).setCell ⟨gb761, 3, none⟩ (.slice none 0 0)) ?_; intro w_ hw; have n_ : Aside0 (Kd.R (Kd.int .u8) 5 w_ w.heap.size (fun _ => True) (.slice Ao_767 qa1_1.length co_767) qa1_1) ∧ Aside0 (Kd.R (Kd.int .i64) 3 w_ w.heap.size (fun _ => True) (.slice Ao_776 qd1_0.length co_776) qd1_0) ∧ Aside0 (w_.heap[gb761]? = some (.cells #[.int .i64 0, .int .i64 0, .string (⟨#[]⟩ : ByteArray), .slice none 0 0] 29 (0, 0))) ∧ Aside0 (w_.heap[gb768]? = some (.cells #[.int .i64 qa1_0, .int .i64 0, .string (⟨#[]⟩ : ByteArray), .slice Ao_776 qd1_0.length co_776] 29 (0, 0))) ∧ Aside0 (Below w.heap.size w w_) := ⟨⟨(by rw [hw]; exact (by refine kr ?_; exact Kd.R_mono (rf4 gb761 (.int .i64 0) (.int .i64 0) (.string (⟨#[]⟩ : ByteArray)) (.slice none 0 0) (Kd.R_far (p := ⟨gb768, 3, none⟩) (Kd.R_types (Kd.R_types HO767.out BK768.out (by decide)) BK761.out (by decide)) (fun _ hk => hk.1.2) (.slice Ao_776 qd1_0.length co_776)) (fun _ hk => hk.2)) (fun _ hk => trivial)))⟩, ⟨(by rw [hw]; exact (by refine kr ?_; exact Kd.R_mono (rf4 gb761 (.int .i64 0) (.int .i64 0) (.string (⟨#[]⟩ : ByteArray)) (.slice none 0 0) (Kd.R_far (p := ⟨gb768, 3, none⟩) (Kd.R_types (Kd.R_types HO776.out BK768.out (by decide)) BK761.out (by decide)) (fun _ hk => hk.1.2) (.slice Ao_776 qd1_0.length co_776)) (fun _ hk => hk.2)) (fun _ hk => trivial)))⟩, ⟨(by rw [hw]; exact (by refine zr ?_; refine blk_put (cs := #[.int .i64 0, .int .i64 0, .string (⟨#[]⟩ : ByteArray), .slice none 0 0]) ?_ 3 _ rfl; refine zr ?_; refine blk_put (cs := #[.int .i64 0, .int .i64 0, .string (⟨#[]⟩ : ByteArray), .slice none 0 0]) ?_ 2 _ rfl; refine zr ?_; refine blk_put (cs := #[.int .i64 0, .int .i64 0, .string (⟨#[]⟩ : ByteArray), .slice none 0 0]) ?_ 1 _ rfl; refine zr ?_; refine blk_put (cs := #[.int .i64 0, .int .i64 0, .string (⟨#[]⟩ : ByteArray), .slice none 0 0]) ?_ 0 _ rfl; refine zr ?_; refine blk_far ?_ NB761_768.out _; refine zr ?_; exact BK761.out))⟩, ⟨(by rw [hw]; exact (by refine zr ?_; refine blk_far ?_ NB768_761.out _; refine zr ?_; refine blk_far ?_ NB768_761.out _; refine zr ?_; refine blk_far ?_ NB768_761.out _; refine zr ?_; refine blk_far ?_ NB768_761.out _; refine zr ?_; refine blk_put (cs := #[.int .i64 qa1_0, .int .i64 0, .string (⟨#[]⟩ : ByteArray), .slice none 0 0]) ?_ 3 _ rfl; refine zr ?_; exact BK768.out))⟩, ⟨(by rw [hw]; exact (bq2 HB.out GE761.out GE768.out))⟩⟩; clear hw HO767 HO776 BK761 BK768 HB; obtain ⟨HO767, HO776, BK761, BK768, HB⟩ := n_) | ((with_reducible refine gate_store (t := 29) (p := 4) rfl ?_); have := z1; refine se 29 4 (((((w_.setCell ⟨gb768, 1, none⟩ (.int .i64 qb1_0)).setCell ⟨gb761, 0, none⟩ (.int .i64 0)).setCell ⟨gb761, 1, none⟩ (.int .i64 0)).setCell ⟨gb761, 2, none⟩ (.string (⟨#[]⟩ : ByteArray))).setCell ⟨gb761, 3, none⟩ (.slice none 0 0)) ?_; intro w_ hw; have n_ : Aside0 (Kd.R (Kd.int .u8) 5 w_ w.heap.size (fun _ => True) (.slice Ao_767 qa1_1.length co_767) qa1_1) ∧ Aside0 (w_.heap[gb761]? = some (.cells #[.int .i64 0, .int .i64 0, .string (⟨#[]⟩ : ByteArray), .slice none 0 0] 29 (0, 0))) ∧ Aside0 (w_.heap[gb768]? = some (.cells #[.int .i64 qa1_0, .int .i64 qb1_0, .string (⟨#[]⟩ : ByteArray), .slice none 0 0] 29 (0, 0))) ∧ Aside0 (Below w.heap.size w w_) := ⟨⟨(by rw [hw]; exact (by refine kr ?_; exact Kd.R_mono (rf4 gb761 (.int .i64 0) (.int .i64 0) (.string (⟨#[]⟩ : ByteArray)) (.slice none 0 0) (Kd.R_far (p := ⟨gb768, 1, none⟩) (Kd.R_types (Kd.R_types HO767.out BK768.out (by decide)) BK761.out (by decide)) (fun _ hk => hk.1.2) (.int .i64 qb1_0)) (fun _ hk => hk.2)) (fun _ hk => trivial)))⟩, ⟨(by rw [hw]; exact (by refine zr ?_; refine blk_put (cs := #[.int .i64 0, .int .i64 0, .string (⟨#[]⟩ : ByteArray), .slice none 0 0]) ?_ 3 _ rfl; refine zr ?_; refine blk_put (cs := #[.int .i64 0, .int .i64 0, .string (⟨#[]⟩ : ByteArray), .slice none 0 0]) ?_ 2 _ rfl; refine zr ?_; refine blk_put (cs := #[.int .i64 0, .int .i64 0, .string (⟨#[]⟩ : ByteArray), .slice none 0 0]) ?_ 1 _ rfl; refine zr ?_; refine blk_put (cs := #[.int .i64 0, .int .i64 0, .string (⟨#[]⟩ : ByteArray), .slice none 0 0]) ?_ 0 _ rfl; refine zr ?_; refine blk_far ?_ NB761_768.out _; refine zr ?_; exact BK761.out))⟩, ⟨(by rw [hw]; exact (by refine zr ?_; refine blk_far ?_ NB768_761.out _; refine zr ?_; refine blk_far ?_ NB768_761.out _; refine zr ?_; refine blk_far ?_ NB768_761.out _; refine zr ?_; refine blk_far ?_ NB768_761.out _; refine zr ?_; refine blk_put (cs := #[.int .i64 qa1_0, .int .i64 0, .string (⟨#[]⟩ : ByteArray), .slice none 0 0]) ?_ 1 _ rfl; refine zr ?_; exact BK768.out))⟩, ⟨(by rw [hw]; exact (bq2 HB.out GE761.out GE768.out))⟩⟩; clear hw HO767 BK761 BK768 HB; obtain ⟨HO767, BK761, BK768, HB⟩ := n_) | ((with_reducible refine gate_store (t := 29) (p := 4) rfl ?_); have := z11; refine se 29 4 (s4 w_ gb761 (.int .i64 qa1_0) (.int .i64 0) (.string (⟨#[]⟩ : ByteArray)) (.slice Ao_776 qd1_0.length co_776)) ?_; intro w_ hw; have n_ := ak5 (sr4 hw HO767 BK761) (sr4 hw HO776 BK761) (sc4 hw BK761) (sf4 hw BK768 NB768_761) (sb hw (bq2 HB.out GE761.out GE768.out)); clear hw HO767 HO776 BK761 BK768 HB; obtain ⟨HO767, HO776, BK761, BK768, HB⟩ := n_) | ((with_reducible refine gate_store (t := 29) (p := 4) rfl ?_); have := z10; refine se 29 4 (s4 w_ gb761 (.int .i64 0) (.int .i64 0) (.string (⟨#[]⟩ : ByteArray)) (.slice none 0 0)) ?_; intro w_ hw; have n_ := ak5 (sr4 hw HO767 BK761) (sr4 hw HO776 BK761) (sc4 hw BK761) (sf4 hw BK768 NB768_761) (sb hw (bq2 HB.out GE761.out GE768.out)); clear hw HO767 HO776 BK761 BK768 HB; obtain ⟨HO767, HO776, BK761, BK768, HB⟩ := n_) | ((with_reducible refine gate_store (t := 29) (p := 4) rfl ?_); have := z3; refine se 29 4 (s4 w_ gb761 (.int .i64 qa1_0) (.int .i64 qb1_0) (.string (⟨#[]⟩ : ByteArray)) (.slice none 0 0)) ?_; intro w_ hw; have n_ := ak4 (sr4 hw HO767 BK761) (sc4 hw BK761) (sf4 hw BK768 NB768_761) (sb hw (bq2 HB.out GE761.out GE768.out)); clear hw HO767 BK761 BK768 HB; obtain ⟨HO767, BK761, BK768, HB⟩ := n_) | ((with_reducible refine gate_store (t := 29) (p := 4) rfl ?_); have := z8; refine se 29 4 (s4 w_ gb761 (.int .i64 qa1_0) (.int .i64 0) (.string (⟨#[]⟩ : ByteArray)) (.slice none 0 0)) ?_; intro w_ hw; have n_ := ak4 (sr4 hw HO767 BK761) (sc4 hw BK761) (sf4 hw BK768 NB768_761) (sb hw (bq2 HB.out GE761.out GE768.out)); clear hw HO767 BK761 BK768 HB; obtain ⟨HO767, BK761, BK768, HB⟩ := n_) | ((with_reducible refine gate_store (t := 29) (p := 4) rfl ?_); have := z5; refine se 29 4 (s4 w_ gb761 (.int .i64 qa1_0) (.int .i64 0) (.string (strOfNums qa1_1)) (.slice none 0 0)) ?_; intro w_ hw; have n_ := ak4 (sr4 hw HO767 BK761) (sc4 hw BK761) (sf4 hw BK768 NB768_761) (sb hw (bq2 HB.out GE761.out GE768.out)); clear hw HO767 BK761 BK768 HB; obtain ⟨HO767, BK761, BK768, HB⟩ := n_) | ((with_reducible refine gate_store (t := 29) (p := 4) rfl ?_); (first | have := z0 | have := z2 | have := z4 | have := z6 | have := z7); refine se 29 4 (s4 w_ gb761 (.int .i64 0) (.int .i64 0) (.string (⟨#[]⟩ : ByteArray)) (.slice none 0 0)) ?_; intro w_ hw; have n_ := ak4 (sr4 hw HO767 BK761) (sc4 hw BK761) (sf4 hw BK768 NB768_761) (sb hw (bq2 HB.out GE761.out GE768.out)); clear hw HO767 BK761 BK768 HB; obtain ⟨HO767, BK761, BK768, HB⟩ := n_) | ((with_reducible refine gate_callee (f := 92) rfl ?_); have := z1; refine gc (some 33) (impl_GetInt.calls k _ _ qa1_1 qb1_0 false _ (cq (Kd.R_reads' HO767.out).2.2) ((Kd.R_reads' HO767.out).2.1) Qb1.out) Try.func92 ?_; rintro e w_ ⟨rfl, hb⟩; refine ⟨_, rfl, ?_⟩; have n_ := ak4 (rb HO767 hb) (kb BK761 hb) (kb BK768 hb) (below_step (bq2 HB.out GE761.out GE768.out) hb); clear HO767 BK761 BK768 HB; obtain ⟨HO767, BK761, BK768, HB⟩ := n_; (try clear hb); obtain ⟨hcz_768_0, hcz_768_1, hcz_768_2, hcz_768_3, hfz_768_0, hfz_768_1, hfz_768_2, hfz_768_3⟩ := cl4 BK768.out; obtain ⟨hcz_761_0, hcz_761_1, hcz_761_2, hcz_761_3, hfz_761_0, hfz_761_1, hfz_761_2, hfz_761_3⟩ := cl4 BK761.out) | ((with_reducible refine gate_callee (f := 92) rfl ?_); (first | have := z2 | have := z3); refine gc (some 33) (impl_GetInt.calls k _ _ qa1_1 qb1_0 true _ (cq (Kd.R_reads' HO767.out).2.2) ((Kd.R_reads' HO767.out).2.1) Qb1.out) Try.func92 ?_; rintro e w_ ⟨rfl, hb⟩; refine ⟨_, rfl, ?_⟩; have n_ := ak4 (rb HO767 hb) (kb BK761 hb) (kb BK768 hb) (below_step (bq2 HB.out GE761.out GE768.out) hb); clear HO767 BK761 BK768 HB; obtain ⟨HO767, BK761, BK768, HB⟩ := n_; (try clear hb); obtain ⟨hcz_768_0, hcz_768_1, hcz_768_2, hcz_768_3, hfz_768_0, hfz_768_1, hfz_768_2, hfz_768_3⟩ := cl4 BK768.out) | (go_at_call 46; have := z11; refine cm (impl_ValOk.calls k qa1_0 0 (⟨#[]⟩ : ByteArray) _ _ qd1_0 true _ (by refine (Kd.R_reads' (e := 3) (base := w.heap.size) (ok := fun k_ => True) (n := qd1_0.length) (c := co_776) ?_).2.2; exact (by refine kr ?_; exact (Kd.R_mono (Kd.R_far (p := ⟨gb768, 3, none⟩) (Kd.R_types HO776.out BK768.out (by decide)) (fun _ hk => hk.2) (.slice Ao_776 qd1_0.length co_776)) (fun _ h_ => h_.1)))) ((Kd.R_reads' HO776.out).2.1) Qc1.out) ?_; rintro e w_ ⟨rfl, hb⟩; have n_ := ak5 (Kd.R_below (by refine kr ?_; exact (Kd.R_mono (Kd.R_far (p := ⟨gb768, 3, none⟩) (Kd.R_types HO767.out BK768.out (by decide)) (fun _ hk => hk.2) (.slice Ao_776 qd1_0.length co_776)) (fun _ h_ => h_.1))) hb) (Kd.R_below (by refine kr ?_; exact (Kd.R_mono (Kd.R_far (p := ⟨gb768, 3, none⟩) (Kd.R_types HO776.out BK768.out (by decide)) (fun _ hk => hk.2) (.slice Ao_776 qd1_0.length co_776)) (fun _ h_ => h_.1))) hb) (blk_below (g := gb761) (o := .cells #[.int .i64 0, .int .i64 0, .string (⟨#[]⟩ : ByteArray), .slice none 0 0] 29 (0, 0)) (by refine zr ?_; refine blk_far ?_ NB761_768.out _; refine zr ?_; exact BK761.out) hb) (blk_below (g := gb768) (o := .cells #[.int .i64 qa1_0, .int .i64 0, .string (⟨#[]⟩ : ByteArray), .slice Ao_776 qd1_0.length co_776] 29 (0, 0)) (by refine zr ?_; refine blk_put (cs := #[.int .i64 qa1_0, .int .i64 0, .string (⟨#[]⟩ : ByteArray), .slice none 0 0]) ?_ 3 _ rfl; refine zr ?_; exact BK768.out) hb) (below_step (bq2 HB.out GE761.out GE768.out) hb); clear HO767 HO776 BK761 BK768 HB; obtain ⟨HO767, HO776, BK761, BK768, HB⟩ := n_; (try clear hb); obtain ⟨hcz_768_0, hcz_768_1, hcz_768_2, hcz_768_3, hfz_768_0, hfz_768_1, hfz_768_2, hfz_768_3⟩ := cl4 BK768.out; obtain ⟨hcz_761_0, hcz_761_1, hcz_761_2, hcz_761_3, hfz_761_0, hfz_761_1, hfz_761_2, hfz_761_3⟩ := cl4 BK761.out) | (go_at_call 46; have := z10; refine cm (impl_ValOk.calls k qa1_0 0 (⟨#[]⟩ : ByteArray) _ _ qd1_0 false _ (by refine (Kd.R_reads' (e := 3) (base := w.heap.size) (ok := fun k_ => True) (n := qd1_0.length) (c := co_776) ?_).2.2; exact (by refine kr ?_; exact (Kd.R_mono (Kd.R_far (p := ⟨gb768, 3, none⟩) (Kd.R_types HO776.out BK768.out (by decide)) (fun _ hk => hk.2) (.slice Ao_776 qd1_0.length co_776)) (fun _ h_ => h_.1)))) ((Kd.R_reads' HO776.out).2.1) Qc1.out) ?_; rintro e w_ ⟨rfl, hb⟩; have n_ := ak5 (Kd.R_below (by refine kr ?_; exact (Kd.R_mono (Kd.R_far (p := ⟨gb768, 3, none⟩) (Kd.R_types HO767.out BK768.out (by decide)) (fun _ hk => hk.2) (.slice Ao_776 qd1_0.length co_776)) (fun _ h_ => h_.1))) hb) (Kd.R_below (by refine kr ?_; exact (Kd.R_mono (Kd.R_far (p := ⟨gb768, 3, none⟩) (Kd.R_types HO776.out BK768.out (by decide)) (fun _ hk => hk.2) (.slice Ao_776 qd1_0.length co_776)) (fun _ h_ => h_.1))) hb) (blk_below (g := gb761) (o := .cells #[.int .i64 0, .int .i64 0, .string (⟨#[]⟩ : ByteArray), .slice none 0 0] 29 (0, 0)) (by refine zr ?_; refine blk_far ?_ NB761_768.out _; refine zr ?_; exact BK761.out) hb) (blk_below (g := gb768) (o := .cells #[.int .i64 qa1_0, .int .i64 0, .string (⟨#[]⟩ : ByteArray), .slice Ao_776 qd1_0.length co_776] 29 (0, 0)) (by refine zr ?_; refine blk_put (cs := #[.int .i64 qa1_0, .int .i64 0, .string (⟨#[]⟩ : ByteArray), .slice none 0 0]) ?_ 3 _ rfl; refine zr ?_; exact BK768.out) hb) (below_step (bq2 HB.out GE761.out GE768.out) hb); clear HO767 HO776 BK761 BK768 HB; obtain ⟨HO767, HO776, BK761, BK768, HB⟩ := n_; (try clear hb); obtain ⟨hcz_761_0, hcz_761_1, hcz_761_2, hcz_761_3, hfz_761_0, hfz_761_1, hfz_761_2, hfz_761_3⟩ := cl4 BK761.out) | (go_at_call 46; have := z3; refine cm (impl_ValOk.calls k qa1_0 qb1_0 (⟨#[]⟩ : ByteArray) _ _ ([] : List Int) true _ (Kd.C_nil _ _) (Nat.le_refl _) Qc1.out) ?_; rintro e w_ ⟨rfl, hb⟩; have n_ := ak4 (Kd.R_below (by refine kr ?_; exact (Kd.R_mono (Kd.R_far (p := ⟨gb768, 1, none⟩) (Kd.R_types HO767.out BK768.out (by decide)) (fun _ hk => hk.2) (.int .i64 qb1_0)) (fun _ h_ => h_.1))) hb) (blk_below (g := gb761) (o := .cells #[.int .i64 0, .int .i64 0, .string (⟨#[]⟩ : ByteArray), .slice none 0 0] 29 (0, 0)) (by refine zr ?_; refine blk_far ?_ NB761_768.out _; refine zr ?_; exact BK761.out) hb) (blk_below (g := gb768) (o := .cells #[.int .i64 qa1_0, .int .i64 qb1_0, .string (⟨#[]⟩ : ByteArray), .slice none 0 0] 29 (0, 0)) (by refine zr ?_; refine blk_put (cs := #[.int .i64 qa1_0, .int .i64 0, .string (⟨#[]⟩ : ByteArray), .slice none 0 0]) ?_ 1 _ rfl; refine zr ?_; exact BK768.out) hb) (below_step (bq2 HB.out GE761.out GE768.out) hb); clear HO767 BK761 BK768 HB; obtain ⟨HO767, BK761, BK768, HB⟩ := n_; (try clear hb); obtain ⟨hcz_768_0, hcz_768_1, hcz_768_2, hcz_768_3, hfz_768_0, hfz_768_1, hfz_768_2, hfz_768_3⟩ := cl4 BK768.out; obtain ⟨hcz_761_0, hcz_761_1, hcz_761_2, hcz_761_3, hfz_761_0, hfz_761_1, hfz_761_2, hfz_761_3⟩ := cl4 BK761.out) | (go_at_call 46; have := z5; refine cm (impl_ValOk.calls k qa1_0 0 (strOfNums qa1_1) _ _ ([] : List Int) true _ (Kd.C_nil _ _) (Nat.le_refl _) Qc1.out) ?_; rintro e w_ ⟨rfl, hb⟩; have n_ := ak4 (Kd.R_below (by refine kr ?_; exact (Kd.R_mono (Kd.R_far (p := ⟨gb768, 2, none⟩) (Kd.R_types HO767.out BK768.out (by decide)) (fun _ hk => hk.2) (.string (strOfNums qa1_1))) (fun _ h_ => h_.1))) hb) (blk_below (g := gb761) (o := .cells #[.int .i64 0, .int .i64 0, .string (⟨#[]⟩ : ByteArray), .slice none 0 0] 29 (0, 0)) (by refine zr ?_; refine blk_far ?_ NB761_768.out _; refine zr ?_; exact BK761.out) hb) (blk_below (g := gb768) (o := .cells #[.int .i64 qa1_0, .int .i64 0, .string (strOfNums qa1_1), .slice none 0 0] 29 (0, 0)) (by refine zr ?_; refine blk_put (cs := #[.int .i64 qa1_0, .int .i64 0, .string (⟨#[]⟩ : ByteArray), .slice none 0 0]) ?_ 2 _ rfl; refine zr ?_; exact BK768.out) hb) (below_step (bq2 HB.out GE761.out GE768.out) hb); clear HO767 BK761 BK768 HB; obtain ⟨HO767, BK761, BK768, HB⟩ := n_; (try clear hb); obtain ⟨hcz_768_0, hcz_768_1, hcz_768_2, hcz_768_3, hfz_768_0, hfz_768_1, hfz_768_2, hfz_768_3⟩ := cl4 BK768.out; obtain ⟨hcz_761_0, hcz_761_1, hcz_761_2, hcz_761_3, hfz_761_0, hfz_761_1, hfz_761_2, hfz_761_3⟩ := cl4 BK761.out) | (go_at_call 46; have := z2; refine cm (impl_ValOk.calls k qa1_0 qb1_0 (⟨#[]⟩ : ByteArray) _ _ ([] : List Int) false _ (Kd.C_nil _ _) (Nat.le_refl _) Qc1.out) ?_; rintro e w_ ⟨rfl, hb⟩; have n_ := ak4 (Kd.R_below (by refine kr ?_; exact (Kd.R_mono (Kd.R_far (p := ⟨gb768, 1, none⟩) (Kd.R_types HO767.out BK768.out (by decide)) (fun _ hk => hk.2) (.int .i64 qb1_0)) (fun _ h_ => h_.1))) hb) (blk_below (g := gb761) (o := .cells #[.int .i64 0, .int .i64 0, .string (⟨#[]⟩ : ByteArray), .slice none 0 0] 29 (0, 0)) (by refine zr ?_; refine blk_far ?_ NB761_768.out _; refine zr ?_; exact BK761.out) hb) (blk_below (g := gb768) (o := .cells #[.int .i64 qa1_0, .int .i64 qb1_0, .string (⟨#[]⟩ : ByteArray), .slice none 0 0] 29 (0, 0)) (by refine zr ?_; refine blk_put (cs := #[.int .i64 qa1_0, .int .i64 0, .string (⟨#[]⟩ : ByteArray), .slice none 0 0]) ?_ 1 _ rfl; refine zr ?_; exact BK768.out) hb) (below_step (bq2 HB.out GE761.out GE768.out) hb); clear HO767 BK761 BK768 HB; obtain ⟨HO767, BK761, BK768, HB⟩ := n_; (try clear hb); obtain ⟨hcz_761_0, hcz_761_1, hcz_761_2, hcz_761_3, hfz_761_0, hfz_761_1, hfz_761_2, hfz_761_3⟩ := cl4 BK761.out) | (go_at_call 46; have := z4; refine cm (impl_ValOk.calls k qa1_0 0 (strOfNums qa1_1) _ _ ([] : List Int) false _ (Kd.C_nil _ _) (Nat.le_refl _) Qc1.out) ?_; rintro e w_ ⟨rfl, hb⟩; have n_ := ak4 (Kd.R_below (by refine kr ?_; exact (Kd.R_mono (Kd.R_far (p := ⟨gb768, 2, none⟩) (Kd.R_types HO767.out BK768.out (by decide)) (fun _ hk => hk.2) (.string (strOfNums qa1_1))) (fun _ h_ => h_.1))) hb) (blk_below (g := gb761) (o := .cells #[.int .i64 0, .int .i64 0, .string (⟨#[]⟩ : ByteArray), .slice none 0 0] 29 (0, 0)) (by refine zr ?_; refine blk_far ?_ NB761_768.out _; refine zr ?_; exact BK761.out) hb) (blk_below (g := gb768) (o := .cells #[.int .i64 qa1_0, .int .i64 0, .string (strOfNums qa1_1), .slice none 0 0] 29 (0, 0)) (by refine zr ?_; refine blk_put (cs := #[.int .i64 qa1_0, .int .i64 0, .string (⟨#[]⟩ : ByteArray), .slice none 0 0]) ?_ 2 _ rfl; refine zr ?_; exact BK768.out) hb) (below_step (bq2 HB.out GE761.out GE768.out) hb); clear HO767 BK761 BK768 HB; obtain ⟨HO767, BK761, BK768, HB⟩ := n_; (try clear hb); obtain ⟨hcz_761_0, hcz_761_1, hcz_761_2, hcz_761_3, hfz_761_0, hfz_761_1, hfz_761_2, hfz_761_3⟩ := cl4 BK761.out) | (go_at_call 46; have := z8; refine cm (impl_ValOk.calls k qa1_0 0 (⟨#[]⟩ : ByteArray) _ _ ([] : List Int) true _ (Kd.C_nil _ _) (Nat.le_refl _) Qc1.out) ?_; rintro e w_ ⟨rfl, hb⟩; have n_ := ak4 (rb HO767 hb) (kb BK761 hb) (kb BK768 hb) (below_step (bq2 HB.out GE761.out GE768.out) hb); clear HO767 BK761 BK768 HB; obtain ⟨HO767, BK761, BK768, HB⟩ := n_; (try clear hb); obtain ⟨hcz_768_0, hcz_768_1, hcz_768_2, hcz_768_3, hfz_768_0, hfz_768_1, hfz_768_2, hfz_768_3⟩ := cl4 BK768.out; obtain ⟨hcz_761_0, hcz_761_1, hcz_761_2, hcz_761_3, hfz_761_0, hfz_761_1, hfz_761_2, hfz_761_3⟩ := cl4 BK761.out) | (go_at_call 46; have := z7; refine cm (impl_ValOk.calls k qa1_0 0 (⟨#[]⟩ : ByteArray) _ _ ([] : List Int) false _ (Kd.C_nil _ _) (Nat.le_refl _) Qc1.out) ?_; rintro e w_ ⟨rfl, hb⟩; have n_ := ak4 (rb HO767 hb) (kb BK761 hb) (kb BK768 hb) (below_step (bq2 HB.out GE761.out GE768.out) hb); clear HO767 BK761 BK768 HB; obtain ⟨HO767, BK761, BK768, HB⟩ := n_; (try clear hb); obtain ⟨hcz_761_0, hcz_761_1, hcz_761_2, hcz_761_3, hfz_761_0, hfz_761_1, hfz_761_2, hfz_761_3⟩ := cl4 BK761.out) | ((with_reducible refine gate_callee (f := 93) rfl ?_); have := z9; refine gc (some 46) (impl_GetOid.calls k _ _ qa1_1 qd1_0 false _ (cq (Kd.R_reads' HO767.out).2.2) ((Kd.R_reads' HO767.out).2.1) Qd1.out) Try.func93 ?_; rintro e w_ ⟨v775, rfl, ho_, hb⟩; refine ⟨_, rfl, ?_⟩; have n_ := ak5 (rb HO767 hb) (rl ho_ (bq2 HB.out GE761.out GE768.out)) (kb BK761 hb) (kb BK768 hb) (below_step (bq2 HB.out GE761.out GE768.out) hb); clear HO767 BK761 BK768 HB; obtain ⟨HO767, HO776, BK761, BK768, HB⟩ := n_; (try clear hb ho_); obtain ⟨Ao_776, co_776, eo_776⟩ := Kd.R_slice HO776.out; subst eo_776; obtain ⟨hcz_768_0, hcz_768_1, hcz_768_2, hcz_768_3, hfz_768_0, hfz_768_1, hfz_768_2, hfz_768_3⟩ := cl4 BK768.out; obtain ⟨hcz_761_0, hcz_761_1, hcz_761_2, hcz_761_3, hfz_761_0, hfz_761_1, hfz_761_2, hfz_761_3⟩ := cl4 BK761.out) | ((with_reducible refine gate_callee (f := 93) rfl ?_); (first | have := z10 | have := z11); refine gc (some 46) (impl_GetOid.calls k _ _ qa1_1 qd1_0 true _ (cq (Kd.R_reads' HO767.out).2.2) ((Kd.R_reads' HO767.out).2.1) Qd1.out) Try.func93 ?_; rintro e w_ ⟨v775, rfl, ho_, hb⟩; refine ⟨_, rfl, ?_⟩; have n_ := ak5 (rb HO767 hb) (rl ho_ (bq2 HB.out GE761.out GE768.out)) (kb BK761 hb) (kb BK768 hb) (below_step (bq2 HB.out GE761.out GE768.out) hb); clear HO767 BK761 BK768 HB; obtain ⟨HO767, HO776, BK761, BK768, HB⟩ := n_; (try clear hb ho_); obtain ⟨Ao_776, co_776, eo_776⟩ := Kd.R_slice HO776.out; subst eo_776; obtain ⟨hcz_768_0, hcz_768_1, hcz_768_2, hcz_768_3, hfz_768_0, hfz_768_1, hfz_768_2, hfz_768_3⟩ := cl4 BK768.out))
  first
  | refine bodyPost_ret (results_ctt rfl _ _ gb761 29 _ (0, 0) _ rfl (zq BK761.out) Try.underlying29 rfl (by kernel_rfl)) rfl ?_
    exact ⟨_, rq, kqR HO776.out, bq2 HB.out GE761.out GE768.out⟩
  | refine bodyPost_ret (results_ctt rfl _ _ gb761 29 _ (0, 0) _ rfl (zq BK761.out) Try.underlying29 rfl (by kernel_rfl)) rfl ?_
    exact ⟨_, rq, rn, bq2 HB.out GE761.out GE768.out⟩
/-! ### impl_bindOf: function 119 -/
def impl_bindOf.f (k : Nat) (l0 : List Int) : Option (List Int × Int × Int × ByteArray × List Int × Bool) := (impl_parts_part.f k l0 0 false 6).bind fun bt781 => ((impl_GetOid.f k bt781.1).bind fun bt786 => ((impl_GetVal.f k l0 bt781.2.1).bind fun bt790 => (if bt781.2.2 = true then (some (([] : List Int), 0, 0, (⟨#[]⟩ : ByteArray), ([] : List Int), false)) else (if bt786.2 = true then (if bt790.2.2.2.2.2 = true then (if bt790.2.2.2.2.1 = (l0.length : Int) then (some (bt786.1, bt790.1, bt790.2.1, bt790.2.2.1, bt790.2.2.2.1, true)) else (some (([] : List Int), 0, 0, (⟨#[]⟩ : ByteArray), ([] : List Int), false))) else (some (([] : List Int), 0, 0, (⟨#[]⟩ : ByteArray), ([] : List Int), false))) else (some (([] : List Int), 0, 0, (⟨#[]⟩ : ByteArray), ([] : List Int), false))))))
set_option maxHeartbeats 8000000 in
set_option maxRecDepth 100000 in
theorem impl_bindOf.calls (k : Nat) (A0 : Option Addr) (c0 : Nat) (l0 : List Int) (r1 : List Int) (r2 : Int) (r3 : Int) (r4 : ByteArray) (r5 : List Int) (r6 : Bool) (w : World) (hr0 : Kd.C (Kd.int .u8) w A0 l0.length l0) (hc0 : l0.length ≤ c0) (h : impl_bindOf.f k l0 = some (r1, r2, r3, r4, r5, r6)) :
 Calls Try.prog 119 #[.slice A0 l0.length c0] w fun e w' => ∃ v0_ v4_ : Value, e = .returned (.tuple #[.agg #[v0_, .int .i64 r2, .int .i64 r3, .string r4, v4_], .bool r6]) ∧ Kd.R (Kd.int .i64) 3 w' w.heap.size (fun k_ => some k_ ≠ (v4_ : Value).ownBlock) v0_ r1 ∧ Kd.R (Kd.int .i64) 3 w' w.heap.size (fun k_ => some k_ ≠ (v0_ : Value).ownBlock) v4_ r5 ∧ Below w.heap.size w w' := by
 have hu116 := Try.underlying116
 have hu94 := Try.underlying94
 have hu29 := Try.underlying29
 have HR0 := am hr0
 have HC0 := am hc0
 clear hr0 hc0
 have HB := am (Below.refl w.heap.size w)
 have H := h
 clear h
 unfold impl_bindOf.f at H
 replace H := be H
 obtain ⟨⟨qa1_0, qa1_1, qa1_2⟩, Qa1, H⟩ := H
 try dsimp only at H
 replace H := be H
 obtain ⟨⟨qb1_0, qb1_1⟩, Qb1, H⟩ := H
 try dsimp only at H
 replace H := be H
 obtain ⟨⟨qc1_0, qc1_1, qc1_2, qc1_3, qc1_4, qc1_5⟩, Qc1, H⟩ := H
 try dsimp only at H
 rcases bt qa1_2 with rfl | rfl
 replace H := iT H
 have z0 := trivial
 rotate_left
 replace H := iF H
 cases qb1_1
 replace H := iF H
 have z1 := trivial
 rotate_left
 replace H := iT H
 cases qc1_5
 replace H := iF H
 have z2 := trivial
 rotate_left
 replace H := iT H
 replace H := iq' H
 rcases H with ⟨c25, c25b0, c25b1, H⟩ | ⟨-, c25b0, c25b1, H⟩
 have z3 := trivial
 rotate_left
 have z4 := trivial
 rotate_right
 rotate_right
 rotate_right
 rotate_right
 all_goals
  simp only [Option.some.injEq, Prod.mk.injEq] at H
  obtain ⟨rfl, rfl, rfl, rfl, rfl, rfl⟩ := H
  go_enter Try.func119, Try.ntmps119
  go_wp2_with (first | ((with_reducible refine gate_dst (N := 2) rfl ?_); (try (refine gate_guard (by rfl) ?_; dsimp only)); refine bxe 2 #[.slice none 0 0, .int .i64 0, .int .i64 0, .string (⟨#[]⟩ : ByteArray), .slice none 0 0] 116 ?_; intro gb779 hg w_ hbox hb; have n_ := ak4 (below_step (bq HB.out) hb) hbox (bz hg (bq HB.out)) (bz hg (bq HB.out)); clear HB; obtain ⟨HB, BK779, GW779, GE779⟩ := n_; clear hb hbox hg) | ((with_reducible refine gate_dst (N := 12) rfl ?_); (try (refine gate_guard (by rfl) ?_; dsimp only)); refine bxe 12 #[.slice A0 l0.length c0, .int .i64 0, .bool false] 94 ?_; intro gb780 hg w_ hbox hb; have n_ := ak7 (kb BK779 hb) (below_step (bq1 HB.out GE779.out) hb) hbox (bz hg (bq1 HB.out GE779.out)) (bz hg (bq1 HB.out GE779.out)) (nL hg BK779) (nG hg BK779); clear BK779 HB; obtain ⟨BK779, HB, BK780, GW780, GE780, NB779_780, NB780_779⟩ := n_; clear hb hbox hg; have HI780 := am (show IsS94 (fun _ _ => True) w w_ gb780 l0 0 false from ⟨_, _, BK780.out, GE780.out, ⟨⟨HR0.out, HC0.out⟩, trivial⟩⟩); clear BK780) | ((with_reducible refine gate_callee (f := 81) rfl ?_); (first | have := z1 | have := z2 | have := z3 | have := z4); refine gc (some 15) (impl_parts_part.calls (Z := fun _ _ => True) k gb780 l0 0 false 6 qa1_0 qa1_1 false w _ (IsS94.q1 HI780.out NB780_779.out) (bq2 HB.out (IsS94.ge HI780.out) GE779.out) Qa1.out) Try.func81 ?_; rintro e w_ ⟨v782, rfl, ho_, hi, hb, hk⟩; refine ⟨_, rfl, ?_⟩; have n_ := ak4 (KeepBut.blk hk (zb BK779.out) NB779_780.out (by simp)) (rl ho_ (bq2 HB.out (IsS94.ge HI780.out) GE779.out)) hb hi; clear BK779 HB HI780; obtain ⟨BK779, HO783, HB, HI780⟩ := n_; (try clear hb hk hi ho_); obtain ⟨Ao_783, co_783, eo_783⟩ := Kd.R_slice HO783.out; subst eo_783) | ((with_reducible refine gate_callee (f := 81) rfl ?_); have := z0; refine gc (some 15) (impl_parts_part.calls (Z := fun _ _ => True) k gb780 l0 0 false 6 qa1_0 qa1_1 true w _ (IsS94.q1 HI780.out NB780_779.out) (bq2 HB.out (IsS94.ge HI780.out) GE779.out) Qa1.out) Try.func81 ?_; rintro e w_ ⟨v782, rfl, ho_, hi, hb, hk⟩; refine ⟨_, rfl, ?_⟩; have n_ := ak4 (KeepBut.blk hk (zb BK779.out) NB779_780.out (by simp)) (rl ho_ (bq2 HB.out (IsS94.ge HI780.out) GE779.out)) hb hi; clear BK779 HB HI780; obtain ⟨BK779, HO783, HB, HI780⟩ := n_; (try clear hb hk hi ho_); obtain ⟨Ao_783, co_783, eo_783⟩ := Kd.R_slice HO783.out; subst eo_783) | ((with_reducible refine gate_callee (f := 93) rfl ?_); have := z0; refine gc (some 16) (impl_GetOid.calls k _ _ qa1_0 qb1_0 qb1_1 _ (cq (Kd.R_reads' HO783.out).2.2) ((Kd.R_reads' HO783.out).2.1) Qb1.out) Try.func93 ?_; rintro e w_ ⟨v788, rfl, ho_, hb⟩; refine ⟨_, rfl, ?_⟩; have n_ := ak5 (rb HO783 hb) (rl ho_ (bq2 HB.out (IsS94.ge HI780.out) GE779.out)) (kb BK779 hb) (IsS94.below (IsS94.q1 HI780.out NB780_779.out) hb) (below_step (bq2 HB.out (IsS94.ge HI780.out) GE779.out) hb); clear HO783 BK779 HI780 HB; obtain ⟨HO783, HO789, BK779, HI780, HB⟩ := n_; (try clear hb ho_); obtain ⟨ASz11_0, cSz11_0, HGz11, hgz11, HSz11_0⟩ := HI780.out; have hcz11_0 := cellS94_0 HGz11; have hcz11_1 := cellS94_1 HGz11; have hcz11_2 := cellS94_2 HGz11; have hfz11_1 := blk_frozen HGz11 1; have hfz11_2 := blk_frozen HGz11 2; clear HGz11 hgz11; obtain ⟨Ao_789, co_789, eo_789⟩ := Kd.R_slice HO789.out; subst eo_789) | ((with_reducible refine gate_callee (f := 93) rfl ?_); have := z1; refine gc (some 16) (impl_GetOid.calls k _ _ qa1_0 qb1_0 false _ (cq (Kd.R_reads' HO783.out).2.2) ((Kd.R_reads' HO783.out).2.1) Qb1.out) Try.func93 ?_; rintro e w_ ⟨v788, rfl, ho_, hb⟩; refine ⟨_, rfl, ?_⟩; have n_ := ak5 (rb HO783 hb) (rl ho_ (bq2 HB.out (IsS94.ge HI780.out) GE779.out)) (kb BK779 hb) (IsS94.below (IsS94.q1 HI780.out NB780_779.out) hb) (below_step (bq2 HB.out (IsS94.ge HI780.out) GE779.out) hb); clear HO783 BK779 HI780 HB; obtain ⟨HO783, HO789, BK779, HI780, HB⟩ := n_; (try clear hb ho_); obtain ⟨ASz84_0, cSz84_0, HGz84, hgz84, HSz84_0⟩ := HI780.out; have hcz84_0 := cellS94_0 HGz84; have hcz84_1 := cellS94_1 HGz84; have hcz84_2 := cellS94_2 HGz84; have hfz84_1 := blk_frozen HGz84 1; have hfz84_2 := blk_frozen HGz84 2; clear HGz84 hgz84; obtain ⟨Ao_789, co_789, eo_789⟩ := Kd.R_slice HO789.out; subst eo_789) | ((with_reducible refine gate_callee (f := 93) rfl ?_); have := z2; refine gc (some 16) (impl_GetOid.calls k _ _ qa1_0 qb1_0 true _ (cq (Kd.R_reads' HO783.out).2.2) ((Kd.R_reads' HO783.out).2.1) Qb1.out) Try.func93 ?_; rintro e w_ ⟨v788, rfl, ho_, hb⟩; refine ⟨_, rfl, ?_⟩; have n_ := ak5 (rb HO783 hb) (rl ho_ (bq2 HB.out (IsS94.ge HI780.out) GE779.out)) (kb BK779 hb) (IsS94.below (IsS94.q1 HI780.out NB780_779.out) hb) (below_step (bq2 HB.out (IsS94.ge HI780.out) GE779.out) hb); clear HO783 BK779 HI780 HB; obtain ⟨HO783, HO789, BK779, HI780, HB⟩ := n_; (try clear hb ho_); obtain ⟨ASz67_0, cSz67_0, HGz67, hgz67, HSz67_0⟩ := HI780.out; have hcz67_0 := cellS94_0 HGz67; have hcz67_1 := cellS94_1 HGz67; have hcz67_2 := cellS94_2 HGz67; have hfz67_1 := blk_frozen HGz67 1; have hfz67_2 := blk_frozen HGz67 2; clear HGz67 hgz67; obtain ⟨Ao_789, co_789, eo_789⟩ := Kd.R_slice HO789.out; subst eo_789) | ((with_reducible refine gate_callee (f := 93) rfl ?_); have := z3; refine gc (some 16) (impl_GetOid.calls k _ _ qa1_0 qb1_0 true _ (cq (Kd.R_reads' HO783.out).2.2) ((Kd.R_reads' HO783.out).2.1) Qb1.out) Try.func93 ?_; rintro e w_ ⟨v788, rfl, ho_, hb⟩; refine ⟨_, rfl, ?_⟩; have n_ := ak5 (rb HO783 hb) (rl ho_ (bq2 HB.out (IsS94.ge HI780.out) GE779.out)) (kb BK779 hb) (IsS94.below (IsS94.q1 HI780.out NB780_779.out) hb) (below_step (bq2 HB.out (IsS94.ge HI780.out) GE779.out) hb); clear HO783 BK779 HI780 HB; obtain ⟨HO783, HO789, BK779, HI780, HB⟩ := n_; (try clear hb ho_); obtain ⟨ASz50_0, cSz50_0, HGz50, hgz50, HSz50_0⟩ := HI780.out; have hcz50_0 := cellS94_0 HGz50; have hcz50_1 := cellS94_1 HGz50; have hcz50_2 := cellS94_2 HGz50; have hfz50_1 := blk_frozen HGz50 1; have hfz50_2 := blk_frozen HGz50 2; clear HGz50 hgz50; obtain ⟨Ao_789, co_789, eo_789⟩ := Kd.R_slice HO789.out; subst eo_789) | ((with_reducible refine gate_callee (f := 93) rfl ?_); have := z4; refine gc (some 16) (impl_GetOid.calls k _ _ qa1_0 qb1_0 true _ (cq (Kd.R_reads' HO783.out).2.2) ((Kd.R_reads' HO783.out).2.1) Qb1.out) Try.func93 ?_; rintro e w_ ⟨v788, rfl, ho_, hb⟩; refine ⟨_, rfl, ?_⟩; have n_ := ak5 (rb HO783 hb) (rl ho_ (bq2 HB.out (IsS94.ge HI780.out) GE779.out)) (kb BK779 hb) (IsS94.below (IsS94.q1 HI780.out NB780_779.out) hb) (below_step (bq2 HB.out (IsS94.ge HI780.out) GE779.out) hb); clear HO783 BK779 HI780 HB; obtain ⟨HO783, HO789, BK779, HI780, HB⟩ := n_; (try clear hb ho_); obtain ⟨ASz31_0, cSz31_0, HGz31, hgz31, HSz31_0⟩ := HI780.out; have hcz31_0 := cellS94_0 HGz31; have hcz31_1 := cellS94_1 HGz31; have hcz31_2 := cellS94_2 HGz31; have hfz31_1 := blk_frozen HGz31 1; have hfz31_2 := blk_frozen HGz31 2; clear HGz31 hgz31; obtain ⟨Ao_789, co_789, eo_789⟩ := Kd.R_slice HO789.out; subst eo_789) | ((with_reducible refine gate_callee (f := 36) rfl ?_); (first | have := z0 | have := z1); refine gc (some 25) (impl_GetVal.calls k _ _ l0 qa1_1 qc1_0 qc1_1 qc1_2 qc1_3 qc1_4 qc1_5 _ (cq (Kd.C_below HR0.out HB.out)) HC0.out Qc1.out) Try.func36 ?_; rintro e w_ ⟨v794, rfl, ho_, hb⟩; refine ⟨_, rfl, ?_⟩; have n_ := ak6 (rb HO783 hb) (re_ HO789 ho_ hb) (rn_ ho_ HO789 (bq2 HB.out (IsS94.ge HI780.out) GE779.out)) (kb BK779 hb) (IsS94.below (IsS94.q1 HI780.out NB780_779.out) hb) (below_step (bq2 HB.out (IsS94.ge HI780.out) GE779.out) hb); clear HO783 HO789 BK779 HI780 HB; obtain ⟨HO783, HO789, HO795, BK779, HI780, HB⟩ := n_; (try clear hb ho_); obtain ⟨Ao_795, co_795, eo_795⟩ := Kd.R_slice HO795.out; subst eo_795) | ((with_reducible refine gate_callee (f := 36) rfl ?_); have := z2; refine gc (some 25) (impl_GetVal.calls k _ _ l0 qa1_1 qc1_0 qc1_1 qc1_2 qc1_3 qc1_4 false _ (cq (Kd.C_below HR0.out HB.out)) HC0.out Qc1.out) Try.func36 ?_; rintro e w_ ⟨v794, rfl, ho_, hb⟩; refine ⟨_, rfl, ?_⟩; have n_ := ak6 (rb HO783 hb) (re_ HO789 ho_ hb) (rn_ ho_ HO789 (bq2 HB.out (IsS94.ge HI780.out) GE779.out)) (kb BK779 hb) (IsS94.below (IsS94.q1 HI780.out NB780_779.out) hb) (below_step (bq2 HB.out (IsS94.ge HI780.out) GE779.out) hb); clear HO783 HO789 BK779 HI780 HB; obtain ⟨HO783, HO789, HO795, BK779, HI780, HB⟩ := n_; (try clear hb ho_); obtain ⟨Ao_795, co_795, eo_795⟩ := Kd.R_slice HO795.out; subst eo_795) | ((with_reducible refine gate_callee (f := 36) rfl ?_); (first | have := z3 | have := z4); refine gc (some 25) (impl_GetVal.calls k _ _ l0 qa1_1 qc1_0 qc1_1 qc1_2 qc1_3 qc1_4 true _ (cq (Kd.C_below HR0.out HB.out)) HC0.out Qc1.out) Try.func36 ?_; rintro e w_ ⟨v794, rfl, ho_, hb⟩; refine ⟨_, rfl, ?_⟩; have n_ := ak6 (rb HO783 hb) (re_ HO789 ho_ hb) (rn_ ho_ HO789 (bq2 HB.out (IsS94.ge HI780.out) GE779.out)) (kb BK779 hb) (IsS94.below (IsS94.q1 HI780.out NB780_779.out) hb) (below_step (bq2 HB.out (IsS94.ge HI780.out) GE779.out) hb); clear HO783 HO789 BK779 HI780 HB; obtain ⟨HO783, HO789, HO795, BK779, HI780, HB⟩ := n_; (try clear hb ho_); obtain ⟨Ao_795, co_795, eo_795⟩ := Kd.R_slice HO795.out; subst eo_795) | ((with_reducible refine gate_dst (N := 7) rfl ?_); (first | have := z1 | have := z2 | have := z3 | have := z4); (try (refine gate_guard (by rfl) ?_; dsimp only)); refine bxe 7 #[.int .i64 0, .int .i64 0, .string (⟨#[]⟩ : ByteArray), .slice none 0 0] 29 ?_; intro gb798 hg w_ hbox hb; have n_ := ak13 (rb HO783 hb) (rb HO789 hb) (rb HO795 hb) (kb BK779 hb) (IsS94.below (IsS94.q1 HI780.out NB780_779.out) hb) (below_step (bq2 HB.out (IsS94.ge HI780.out) GE779.out) hb) hbox (bz hg (bq2 HB.out (IsS94.ge HI780.out) GE779.out)) (bz hg (bq2 HB.out (IsS94.ge HI780.out) GE779.out)) (nL hg BK779) (nG hg BK779) ((by rw [hg]; exact Nat.ne_of_lt (IsS94.lt (show IsS94 (fun _ _ => True) w _ gb780 l0 qa1_1 false from IsS94.q1 HI780.out NB780_779.out)) : gb780 ≠ gb798)) ((by rw [hg]; exact Nat.ne_of_gt (IsS94.lt (show IsS94 (fun _ _ => True) w _ gb780 l0 qa1_1 false from IsS94.q1 HI780.out NB780_779.out)) : gb798 ≠ gb780)); clear HO783 HO789 HO795 BK779 HI780 HB; obtain ⟨HO783, HO789, HO795, BK779, HI780, HB, BK798, GW798, GE798, NB779_798, NB798_779, NB780_798, NB798_780⟩ := n_; clear hb hbox hg; have hNB798_779 := NB798_779.out; have hNB779_798 := NB779_798.out; have hNB798_780 := NB798_780.out; have hNB780_798 := NB780_798.out; obtain ⟨hcz_798_0, hcz_798_1, hcz_798_2, hcz_798_3, hfz_798_0, hfz_798_1, hfz_798_2, hfz_798_3⟩ := cl4 BK798.out) | ((with_reducible refine gate_dst (N := 7) rfl ?_); have := z0; (try (refine gate_guard (by rfl) ?_; dsimp only)); refine bxe 7 #[.int .i64 0, .int .i64 0, .string (⟨#[]⟩ : ByteArray), .slice none 0 0] 29 ?_; intro gb798 hg w_ hbox hb; have n_ := ak13 (rb HO783 hb) (rb HO789 hb) (rb HO795 hb) (kb BK779 hb) (IsS94.below (IsS94.q1 HI780.out NB780_779.out) hb) (below_step (bq2 HB.out (IsS94.ge HI780.out) GE779.out) hb) hbox (bz hg (bq2 HB.out (IsS94.ge HI780.out) GE779.out)) (bz hg (bq2 HB.out (IsS94.ge HI780.out) GE779.out)) (nL hg BK779) (nG hg BK779) ((by rw [hg]; exact Nat.ne_of_lt (IsS94.lt (show IsS94 (fun _ _ => True) w _ gb780 l0 qa1_1 true from IsS94.q1 HI780.out NB780_779.out)) : gb780 ≠ gb798)) ((by rw [hg]; exact Nat.ne_of_gt (IsS94.lt (show IsS94 (fun _ _ => True) w _ gb780 l0 qa1_1 true from IsS94.q1 HI780.out NB780_779.out)) : gb798 ≠ gb780)); clear HO783 HO789 HO795 BK779 HI780 HB; obtain ⟨HO783, HO789, HO795, BK779, HI780, HB, BK798, GW798, GE798, NB779_798, NB798_779, NB780_798, NB798_780⟩ := n_; clear hb hbox hg; have hNB798_779 := NB798_779.out; have hNB779_798 := NB779_798.out; have hNB798_780 := NB798_780.out; have hNB780_798 := NB780_798.out; obtain ⟨hcz_798_0, hcz_798_1, hcz_798_2, hcz_798_3, hfz_798_0, hfz_798_1, hfz_798_2, hfz_798_3⟩ := cl4 BK798.out) | ((with_reducible refine gate_store (t := 29) (p := 7) rfl ?_); have := z4; refine se 29 7 (s4 w_ gb798 (.int .i64 qc1_0) (.int .i64 qc1_1) (.string qc1_2) (.slice Ao_795 qc1_3.length co_795)) ?_; intro w_ hw; have n_ := ak7 (sr4 hw HO783 BK798) (show Kd.R (Kd.int .i64) 3 w_ w.heap.size (fun k_ => some k_ ≠ (.slice Ao_795 qc1_3.length co_795 : Value).ownBlock) (.slice Ao_789 qb1_0.length co_789) qb1_0 by rw [hw]; exact (by refine kr ?_; exact Kd.R_mono (rf4 gb798 (.int .i64 qc1_0) (.int .i64 qc1_1) (.string qc1_2) (.slice Ao_795 qc1_3.length co_795) (Kd.R_types HO789.out BK798.out (by decide)) (fun _ hk => hk.2)) (fun _ hk => hk.1.2))) (show Kd.R (Kd.int .i64) 3 w_ w.heap.size (fun k_ => some k_ ≠ ((.slice Ao_789 qb1_0.length co_789) : Value).ownBlock) (.slice Ao_795 qc1_3.length co_795) qc1_3 by rw [hw]; exact (by refine kr ?_; exact Kd.R_mono (rf4 gb798 (.int .i64 qc1_0) (.int .i64 qc1_1) (.string qc1_2) (.slice Ao_795 qc1_3.length co_795) (Kd.R_types HO795.out BK798.out (by decide)) (fun _ hk => hk.2)) (fun _ hk => hk.1.2))) (sf4 hw BK779 NB779_798) (sc4 hw BK798) (show IsS94 (fun _ _ => True) w w_ gb780 l0 qa1_1 false by rw [hw]; exact (IsS94.q2 HI780.out NB780_779.out NB780_798.out)) (sb hw (bq3 HB.out (IsS94.ge HI780.out) GE779.out GE798.out)); clear hw HO783 HO789 HO795 BK779 BK798 HI780 HB; obtain ⟨HO783, HO789, HO795, BK779, BK798, HI780, HB⟩ := n_; obtain ⟨ASz39_0, cSz39_0, HGz39, hgz39, HSz39_0⟩ := HI780.out; have hcz39_0 := cellS94_0 HGz39; have hcz39_1 := cellS94_1 HGz39; have hcz39_2 := cellS94_2 HGz39; have hfz39_1 := blk_frozen HGz39 1; have hfz39_2 := blk_frozen HGz39 2; clear HGz39 hgz39; obtain ⟨hcz_798_0, hcz_798_1, hcz_798_2, hcz_798_3, hfz_798_0, hfz_798_1, hfz_798_2, hfz_798_3⟩ := cl4 BK798.out; have hNB779_780 := NB779_780.out; have hNB780_779 := NB780_779.out; obtain ⟨hcz_779_0, hcz_779_1, hcz_779_2, hcz_779_3, hcz_779_4, hfz_779_0, hfz_779_1, hfz_779_2, hfz_779_3, hfz_779_4⟩ := cl5 BK779.out) | ((with_reducible refine gate_store (t := 29) (p := 7) rfl ?_); have := z1; refine se 29 7 (s4 w_ gb798 (.int .i64 qc1_0) (.int .i64 qc1_1) (.string qc1_2) (.slice Ao_795 qc1_3.length co_795)) ?_; intro w_ hw; have n_ := ak7 (sr4 hw HO783 BK798) (show Kd.R (Kd.int .i64) 3 w_ w.heap.size (fun k_ => some k_ ≠ (.slice Ao_795 qc1_3.length co_795 : Value).ownBlock) (.slice Ao_789 qb1_0.length co_789) qb1_0 by rw [hw]; exact (by refine kr ?_; exact Kd.R_mono (rf4 gb798 (.int .i64 qc1_0) (.int .i64 qc1_1) (.string qc1_2) (.slice Ao_795 qc1_3.length co_795) (Kd.R_types HO789.out BK798.out (by decide)) (fun _ hk => hk.2)) (fun _ hk => hk.1.2))) (show Kd.R (Kd.int .i64) 3 w_ w.heap.size (fun k_ => some k_ ≠ ((.slice Ao_789 qb1_0.length co_789) : Value).ownBlock) (.slice Ao_795 qc1_3.length co_795) qc1_3 by rw [hw]; exact (by refine kr ?_; exact Kd.R_mono (rf4 gb798 (.int .i64 qc1_0) (.int .i64 qc1_1) (.string qc1_2) (.slice Ao_795 qc1_3.length co_795) (Kd.R_types HO795.out BK798.out (by decide)) (fun _ hk => hk.2)) (fun _ hk => hk.1.2))) (sf4 hw BK779 NB779_798) (sc4 hw BK798) (show IsS94 (fun _ _ => True) w w_ gb780 l0 qa1_1 false by rw [hw]; exact (IsS94.q2 HI780.out NB780_779.out NB780_798.out)) (sb hw (bq3 HB.out (IsS94.ge HI780.out) GE779.out GE798.out)); clear hw HO783 HO789 HO795 BK779 BK798 HI780 HB; obtain ⟨HO783, HO789, HO795, BK779, BK798, HI780, HB⟩ := n_; obtain ⟨ASz92_0, cSz92_0, HGz92, hgz92, HSz92_0⟩ := HI780.out; have hcz92_0 := cellS94_0 HGz92; have hcz92_1 := cellS94_1 HGz92; have hcz92_2 := cellS94_2 HGz92; have hfz92_1 := blk_frozen HGz92 1; have hfz92_2 := blk_frozen HGz92 2; clear HGz92 hgz92; have hNB779_780 := NB779_780.out; have hNB780_779 := NB780_779.out; obtain ⟨hcz_779_0, hcz_779_1, hcz_779_2, hcz_779_3, hcz_779_4, hfz_779_0, hfz_779_1, hfz_779_2, hfz_779_3, hfz_779_4⟩ := cl5 BK779.out) | ((with_reducible refine gate_store (t := 29) (p := 7) rfl ?_); have := z2; refine se 29 7 (s4 w_ gb798 (.int .i64 qc1_0) (.int .i64 qc1_1) (.string qc1_2) (.slice Ao_795 qc1_3.length co_795)) ?_; intro w_ hw; have n_ := ak7 (sr4 hw HO783 BK798) (show Kd.R (Kd.int .i64) 3 w_ w.heap.size (fun k_ => some k_ ≠ (.slice Ao_795 qc1_3.length co_795 : Value).ownBlock) (.slice Ao_789 qb1_0.length co_789) qb1_0 by rw [hw]; exact (by refine kr ?_; exact Kd.R_mono (rf4 gb798 (.int .i64 qc1_0) (.int .i64 qc1_1) (.string qc1_2) (.slice Ao_795 qc1_3.length co_795) (Kd.R_types HO789.out BK798.out (by decide)) (fun _ hk => hk.2)) (fun _ hk => hk.1.2))) (show Kd.R (Kd.int .i64) 3 w_ w.heap.size (fun k_ => some k_ ≠ ((.slice Ao_789 qb1_0.length co_789) : Value).ownBlock) (.slice Ao_795 qc1_3.length co_795) qc1_3 by rw [hw]; exact (by refine kr ?_; exact Kd.R_mono (rf4 gb798 (.int .i64 qc1_0) (.int .i64 qc1_1) (.string qc1_2) (.slice Ao_795 qc1_3.length co_795) (Kd.R_types HO795.out BK798.out (by decide)) (fun _ hk => hk.2)) (fun _ hk => hk.1.2))) (sf4 hw BK779 NB779_798) (sc4 hw BK798) (show IsS94 (fun _ _ => True) w w_ gb780 l0 qa1_1 false by rw [hw]; exact (IsS94.q2 HI780.out NB780_779.out NB780_798.out)) (sb hw (bq3 HB.out (IsS94.ge HI780.out) GE779.out GE798.out)); clear hw HO783 HO789 HO795 BK779 BK798 HI780 HB; obtain ⟨HO783, HO789, HO795, BK779, BK798, HI780, HB⟩ := n_; obtain ⟨ASz75_0, cSz75_0, HGz75, hgz75, HSz75_0⟩ := HI780.out; have hcz75_0 := cellS94_0 HGz75; have hcz75_1 := cellS94_1 HGz75; have hcz75_2 := cellS94_2 HGz75; have hfz75_1 := blk_frozen HGz75 1; have hfz75_2 := blk_frozen HGz75 2; clear HGz75 hgz75; have hNB779_780 := NB779_780.out; have hNB780_779 := NB780_779.out; obtain ⟨hcz_779_0, hcz_779_1, hcz_779_2, hcz_779_3, hcz_779_4, hfz_779_0, hfz_779_1, hfz_779_2, hfz_779_3, hfz_779_4⟩ := cl5 BK779.out) | ((with_reducible refine gate_store (t := 29) (p := 7) rfl ?_); have := z3; refine se 29 7 (s4 w_ gb798 (.int .i64 qc1_0) (.int .i64 qc1_1) (.string qc1_2) (.slice Ao_795 qc1_3.length co_795)) ?_; intro w_ hw; have n_ := ak7 (sr4 hw HO783 BK798) (show Kd.R (Kd.int .i64) 3 w_ w.heap.size (fun k_ => some k_ ≠ (.slice Ao_795 qc1_3.length co_795 : Value).ownBlock) (.slice Ao_789 qb1_0.length co_789) qb1_0 by rw [hw]; exact (by refine kr ?_; exact Kd.R_mono (rf4 gb798 (.int .i64 qc1_0) (.int .i64 qc1_1) (.string qc1_2) (.slice Ao_795 qc1_3.length co_795) (Kd.R_types HO789.out BK798.out (by decide)) (fun _ hk => hk.2)) (fun _ hk => hk.1.2))) (show Kd.R (Kd.int .i64) 3 w_ w.heap.size (fun k_ => some k_ ≠ ((.slice Ao_789 qb1_0.length co_789) : Value).ownBlock) (.slice Ao_795 qc1_3.length co_795) qc1_3 by rw [hw]; exact (by refine kr ?_; exact Kd.R_mono (rf4 gb798 (.int .i64 qc1_0) (.int .i64 qc1_1) (.string qc1_2) (.slice Ao_795 qc1_3.length co_795) (Kd.R_types HO795.out BK798.out (by decide)) (fun _ hk => hk.2)) (fun _ hk => hk.1.2))) (sf4 hw BK779 NB779_798) (sc4 hw BK798) (show IsS94 (fun _ _ => True) w w_ gb780 l0 qa1_1 false by rw [hw]; exact (IsS94.q2 HI780.out NB780_779.out NB780_798.out)) (sb hw (bq3 HB.out (IsS94.ge HI780.out) GE779.out GE798.out)); clear hw HO783 HO789 HO795 BK779 BK798 HI780 HB; obtain ⟨HO783, HO789, HO795, BK779, BK798, HI780, HB⟩ := n_; obtain ⟨ASz58_0, cSz58_0, HGz58, hgz58, HSz58_0⟩ := HI780.out; have hcz58_0 := cellS94_0 HGz58; have hcz58_1 := cellS94_1 HGz58; have hcz58_2 := cellS94_2 HGz58; have hfz58_1 := blk_frozen HGz58 1; have hfz58_2 := blk_frozen HGz58 2; clear HGz58 hgz58; have hNB779_780 := NB779_780.out; have hNB780_779 := NB780_779.out; obtain ⟨hcz_779_0, hcz_779_1, hcz_779_2, hcz_779_3, hcz_779_4, hfz_779_0, hfz_779_1, hfz_779_2, hfz_779_3, hfz_779_4⟩ := cl5 BK779.out) | ((with_reducible refine gate_store (t := 29) (p := 7) rfl ?_); have := z0; refine se 29 7 (s4 w_ gb798 (.int .i64 qc1_0) (.int .i64 qc1_1) (.string qc1_2) (.slice Ao_795 qc1_3.length co_795)) ?_; intro w_ hw; have n_ := ak7 (sr4 hw HO783 BK798) (show Kd.R (Kd.int .i64) 3 w_ w.heap.size (fun k_ => some k_ ≠ (.slice Ao_795 qc1_3.length co_795 : Value).ownBlock) (.slice Ao_789 qb1_0.length co_789) qb1_0 by rw [hw]; exact (by refine kr ?_; exact Kd.R_mono (rf4 gb798 (.int .i64 qc1_0) (.int .i64 qc1_1) (.string qc1_2) (.slice Ao_795 qc1_3.length co_795) (Kd.R_types HO789.out BK798.out (by decide)) (fun _ hk => hk.2)) (fun _ hk => hk.1.2))) (show Kd.R (Kd.int .i64) 3 w_ w.heap.size (fun k_ => some k_ ≠ ((.slice Ao_789 qb1_0.length co_789) : Value).ownBlock) (.slice Ao_795 qc1_3.length co_795) qc1_3 by rw [hw]; exact (by refine kr ?_; exact Kd.R_mono (rf4 gb798 (.int .i64 qc1_0) (.int .i64 qc1_1) (.string qc1_2) (.slice Ao_795 qc1_3.length co_795) (Kd.R_types HO795.out BK798.out (by decide)) (fun _ hk => hk.2)) (fun _ hk => hk.1.2))) (sf4 hw BK779 NB779_798) (sc4 hw BK798) (show IsS94 (fun _ _ => True) w w_ gb780 l0 qa1_1 true by rw [hw]; exact (IsS94.q2 HI780.out NB780_779.out NB780_798.out)) (sb hw (bq3 HB.out (IsS94.ge HI780.out) GE779.out GE798.out)); clear hw HO783 HO789 HO795 BK779 BK798 HI780 HB; obtain ⟨HO783, HO789, HO795, BK779, BK798, HI780, HB⟩ := n_; obtain ⟨ASz19_0, cSz19_0, HGz19, hgz19, HSz19_0⟩ := HI780.out; have hcz19_0 := cellS94_0 HGz19; have hcz19_1 := cellS94_1 HGz19; have hcz19_2 := cellS94_2 HGz19; have hfz19_1 := blk_frozen HGz19 1; have hfz19_2 := blk_frozen HGz19 2; clear HGz19 hgz19; have hNB779_780 := NB779_780.out; have hNB780_779 := NB780_779.out; obtain ⟨hcz_779_0, hcz_779_1, hcz_779_2, hcz_779_3, hcz_779_4, hfz_779_0, hfz_779_1, hfz_779_2, hfz_779_3, hfz_779_4⟩ := cl5 BK779.out) | ((with_reducible refine gate_store (t := 116) (p := 2) rfl ?_); have := z4; refine se 116 2 (s5 w_ gb779 (.slice Ao_789 qb1_0.length co_789) (.int .i64 qc1_0) (.int .i64 qc1_1) (.string qc1_2) (.slice Ao_795 qc1_3.length co_795)) ?_; intro w_ hw; have n_ := ak7 (sr5 hw HO783 BK779) (sr5 hw HO789 BK779) (sr5 hw HO795 BK779) (sc5 hw BK779) (sf5 hw BK798 NB798_779) (show IsS94 (fun _ _ => True) w w_ gb780 l0 qa1_1 false by rw [hw]; exact (IsS94.q2 HI780.out NB780_779.out NB780_798.out)) (sb hw (bq3 HB.out (IsS94.ge HI780.out) GE779.out GE798.out)); clear hw HO783 HO789 HO795 BK779 BK798 HI780 HB; obtain ⟨HO783, HO789, HO795, BK779, BK798, HI780, HB⟩ := n_) | ((with_reducible refine gate_store (t := 116) (p := 2) rfl ?_); (first | have := z1 | have := z2 | have := z3); refine se 116 2 (s5 w_ gb779 (.slice none 0 0) (.int .i64 0) (.int .i64 0) (.string (⟨#[]⟩ : ByteArray)) (.slice none 0 0)) ?_; intro w_ hw; have n_ := ak7 (sr5 hw HO783 BK779) (sr5 hw HO789 BK779) (sr5 hw HO795 BK779) (sc5 hw BK779) (sf5 hw BK798 NB798_779) (show IsS94 (fun _ _ => True) w w_ gb780 l0 qa1_1 false by rw [hw]; exact (IsS94.q2 HI780.out NB780_779.out NB780_798.out)) (sb hw (bq3 HB.out (IsS94.ge HI780.out) GE779.out GE798.out)); clear hw HO783 HO789 HO795 BK779 BK798 HI780 HB; obtain ⟨HO783, HO789, HO795, BK779, BK798, HI780, HB⟩ := n_) | ((with_reducible refine gate_store (t := 116) (p := 2) rfl ?_); have := z0; refine se 116 2 (s5 w_ gb779 (.slice none 0 0) (.int .i64 0) (.int .i64 0) (.string (⟨#[]⟩ : ByteArray)) (.slice none 0 0)) ?_; intro w_ hw; have n_ := ak7 (sr5 hw HO783 BK779) (sr5 hw HO789 BK779) (sr5 hw HO795 BK779) (sc5 hw BK779) (sf5 hw BK798 NB798_779) (show IsS94 (fun _ _ => True) w w_ gb780 l0 qa1_1 true by rw [hw]; exact (IsS94.q2 HI780.out NB780_779.out NB780_798.out)) (sb hw (bq3 HB.out (IsS94.ge HI780.out) GE779.out GE798.out)); clear hw HO783 HO789 HO795 BK779 BK798 HI780 HB; obtain ⟨HO783, HO789, HO795, BK779, BK798, HI780, HB⟩ := n_))
  first
  | refine bodyPost_ret (results_ct rfl _ _ gb779 116 #[.slice Ao_789 qb1_0.length co_789, .int .i64 qc1_0, .int .i64 qc1_1, .string qc1_2, .slice Ao_795 qc1_3.length co_795] (0, 0) _ rfl (zq BK779.out) Try.underlying116 rfl (by kernel_rfl)) rfl ?_
    exact ⟨_, _, rq, kqR HO789.out, kqR HO795.out, bq3 HB.out (IsS94.ge HI780.out) GE779.out GE798.out⟩
  | refine bodyPost_ret (results_ct rfl _ _ gb779 116 #[.slice none 0 0, .int .i64 0, .int .i64 0, .string (⟨#[]⟩ : ByteArray), .slice none 0 0] (0, 0) _ rfl (zq BK779.out) Try.underlying116 rfl (by kernel_rfl)) rfl ?_
    exact ⟨_, _, rq, rn, rn, bq3 HB.out (IsS94.ge HI780.out) GE779.out GE798.out⟩
end Go.Proofs.Ythhnfmbfgplelaa.XFnMsgs
