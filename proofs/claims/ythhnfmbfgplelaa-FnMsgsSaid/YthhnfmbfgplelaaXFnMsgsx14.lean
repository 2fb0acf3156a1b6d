/- The functions that one law reaches, as Lean functions, with their walks: printed by a program of this seat (wip/tools) out of the translation. -/
import Derived.Test.YthhnfmbfgplelaaXFnMsgsx0
import Derived.Test.YthhnfmbfgplelaaXFnMsgsx11
import Derived.Test.YthhnfmbfgplelaaXFnMsgsx12
import Derived.Test.YthhnfmbfgplelaaXFnMsgsx13
namespace Go.Proofs.Ythhnfmbfgplelaa.XFnMsgs
open Go.RowKit Go.Proofs.YthhnfmbfgplelaaW.PrintWords Go.Proofs.YthhnfmbfgplelaaW.PrintLast Go.Proofs.YthhnfmbfgplelaaW.PrintMore
attribute [local go_sem] max2_int min2_int max_two min_two max_three min_three max_four min_four   -- for this text's walks alone
set_option linter.unusedVariables false
set_option linter.unusedSimpArgs false

/-! ### spec_l4Any: function 115 -/
def spec_l4Any.l0 : Nat → List Int → Int → Int → Int → Int → Int → Int → List (S116) → Option (Int × Int × Int × Int × (List (S116)) × Int × Int)
 | 0, _, _, _, _, _, _, _, _ => none
 | k + 1, x1000, x1001, x1002, x662000, x662001, x662002, x662003, x662004 => (spec_l1Below.f x1000 x1001 x1002 2).bind fun bt690 => (if (x662004.length : Int) < (wrap64 (10 + bt690.1)) then ((spec_l2Draw.f k x1000 bt690.2.1 bt690.2.2).bind fun bt693 => (if x662004.length < 1759218604441 then (spec_l4Any.l0 k x1000 bt693.2.1 bt693.2.2 x662000 x662001 x662002 x662003 (x662004 ++ [(⟨bt693.1, (⟨4, 0, (⟨#[116, 119, 101, 110, 116, 121, 45, 98, 121, 116, 101, 115, 45, 111, 102, 45, 116, 101, 120, 116]⟩ : ByteArray), ([] : List Int)⟩ : S29)⟩ : S116)])) else (none))) else (some (x662000, x662001, x662002, x662003, x662004, bt690.2.1, bt690.2.2)))
def spec_l4Any.f (k : Nat) (s0_0 : List Int) (s0_1 : Int) (s0_2 : Int) : Option (Int × Int × Int × Int × (List (S116)) × Int × Int) := (spec_l4Draw.f k s0_0 s0_1 s0_2).bind fun bt652 => ((spec_l1Below.f s0_0 bt652.2.2.2.2.2.1 bt652.2.2.2.2.2.2 12).bind fun bt662 => (if bt662.1 = 0 then ((spec_l1Below.f s0_0 bt662.2.1 bt662.2.2 256).bind fun bt665 => (some (bt665.1, bt652.2.1, bt652.2.2.1, bt652.2.2.2.1, bt652.2.2.2.2.1, bt665.2.1, bt665.2.2))) else (if bt662.1 = 1 then ((spec_l1Int.f s0_0 bt662.2.1 bt662.2.2 (([(-1), 1, 1000, 1001] : List Int))).bind fun bt671 => (some (bt652.1, bt652.2.1, bt671.1, bt652.2.2.2.1, bt652.2.2.2.2.1, bt671.2.1, bt671.2.2))) else (if bt662.1 = 2 then ((spec_l2Any.f k s0_0 bt662.2.1 bt662.2.2).bind fun bt674 => ((spec_l3Any.f k s0_0 bt674.2.1 bt674.2.2).bind fun bt679 => (if bt652.2.2.2.2.1.length < 1759218604441 then (some (bt652.1, bt652.2.1, bt652.2.2.1, bt652.2.2.2.1, (bt652.2.2.2.2.1 ++ [(⟨bt674.1, (⟨bt679.1, bt679.2.1, bt679.2.2.1, bt679.2.2.2.1⟩ : S29)⟩ : S116)]), bt679.2.2.2.2.1, bt679.2.2.2.2.2)) else (none)))) else (if bt662.1 = 3 then (spec_l4Any.l0 k s0_0 bt662.2.1 bt662.2.2 bt652.1 bt652.2.1 bt652.2.2.1 bt652.2.2.2.1 bt652.2.2.2.2.1) else (some (bt652.1, bt652.2.1, bt652.2.2.1, bt652.2.2.2.1, bt652.2.2.2.2.1, bt662.2.1, bt662.2.2)))))))
def spec_l4Any.T8 : Bool × List (List Nat × List Nat) := (true, [([], []), ([0], [0]), ([], []), ([2], [2]), ([], []), ([4, 3], [4]), ([3, 5], [3, 5]), ([6], [6]), ([1, 7, 5], [1, 7]), ([0, 1, 2, 3, 4, 5, 6, 7, 8], []), ([9, 8, 8, 0, 1, 2, 3, 4, 5, 6, 7, 8], [8, 9])])
def spec_l4Any.B8 : List Nat := [0, 1, 0, 4, 0, 28, 60, 124, 255, 511, 1023]
theorem spec_l4Any.tab8 : rtab .any (opsOf Try.f115 8) = spec_l4Any.T8 := by kernel_rfl
theorem spec_l4Any.bits8 : waitsOk spec_l4Any.T8.2 spec_l4Any.B8 = true := by kernel_rfl
def spec_l4Any.T11 : Bool × List (List Nat × List Nat) := (true, [([], []), ([0], [0]), ([], []), ([2], [2]), ([], []), ([3, 4], [3, 4]), ([5], [5]), ([1, 6, 3], [1, 6]), ([0, 1, 2, 3, 4, 5, 6, 7], []), ([8, 7, 7, 0, 1, 2, 3, 4, 5, 6, 7], [7, 8])])
def spec_l4Any.B11 : List Nat := [0, 1, 0, 4, 0, 28, 60, 127, 255, 511]
theorem spec_l4Any.tab11 : rtab .any (opsOf Try.f115 11) = spec_l4Any.T11 := by kernel_rfl
theorem spec_l4Any.bits11 : waitsOk spec_l4Any.T11.2 spec_l4Any.B11 = true := by kernel_rfl
set_option maxHeartbeats 8000000 in
set_option maxRecDepth 100000 in
theorem spec_l4Any.calls (k : Nat) (g : Nat) (s0_0 : List Int) (s0_1 : Int) (s0_2 : Int) (r1 : Int) (r2 : Int) (r3 : Int) (r4 : Int) (r5 : List (S116)) (r6 : Int) (r7 : Int) (w0 w : World) (hI : IsS135 w0 w g s0_0 s0_1 s0_2) (hB : Below w0.heap.size w0 w) (h : spec_l4Any.f k s0_0 s0_1 s0_2 = some (r1, r2, r3, r4, r5, r6, r7)) :
 Calls Try.prog 115 #[.pointer (some ⟨g, 0, none⟩)] w fun e w' => ∃ v4_ : Value, e = .returned (.agg #[.int .i64 r1, .int .i64 r2, .int .i64 r3, .int .i64 r4, v4_]) ∧ Kd.S k116 116 w' w.heap.size (fun _ => True) v4_ r5 ∧ IsS135 w0 w' g s0_0 r6 r7 ∧ Below w0.heap.size w0 w' ∧ KeepBut w w' g none := by
 have hu58 := Try.underlying58
 have hu116 := Try.underlying116
 have hu29 := Try.underlying29
 have HI0 := am hI
 have HK := am (KeepBut.refl w g none)
 have HL := am hB.size
 clear hI
 have HW0 := am hB.size
 have HB := am hB
 clear hB
 have H := h
 clear h
 unfold spec_l4Any.f at H
 replace H := be H
 obtain ⟨⟨qa1_0, qa1_1, qa1_2, qa1_3, qa1_4, qa1_5, qa1_6⟩, Qa1, H⟩ := H
 try dsimp only at H
 replace H := be H
 obtain ⟨⟨qb1_0, qb1_1, qb1_2⟩, Qb1, H⟩ := H
 try dsimp only at H
 replace H := iq H
 rcases H with ⟨-, c4b0, c4b1, H⟩ | ⟨c4, c4b0, c4b1, H⟩
 replace H := be H
 obtain ⟨⟨qb2_0, qb2_1, qb2_2⟩, Qb2, H⟩ := H
 try dsimp only at H
 have z0 := trivial
 rotate_left
 replace H := iq H
 rcases H with ⟨-, c18b0, c18b1, H⟩ | ⟨c18, c18b0, c18b1, H⟩
 generalize hy668 : ((([(-1), 1, 1000, 1001] : List Int)) : List Int) = y668 at H
 have Ny668 := am hy668.symm
 clear hy668
 replace H := be H
 obtain ⟨⟨qc1_0, qc1_1, qc1_2⟩, Qc1, H⟩ := H
 try dsimp only at H
 have z1 := trivial
 rotate_left
 replace H := iq H
 rcases H with ⟨-, c35b0, c35b1, H⟩ | ⟨c35, c35b0, c35b1, H⟩
 · replace H := be H
   obtain ⟨⟨qd1_0, qd1_1, qd1_2⟩, Qd1, H⟩ := H
   try dsimp only at H
   replace H := be H
   obtain ⟨⟨qe1_0, qe1_1, qe1_2, qe1_3, qe1_4, qe1_5⟩, Qe1, H⟩ := H
   try dsimp only at H
   replace H := nq H
   obtain ⟨c38, H⟩ := H
   have LMc38 := am c38
   clear c38
   generalize hy687 : ((qa1_4 ++ [(⟨qd1_0, (⟨qe1_0, qe1_1, qe1_2, qe1_3⟩ : S29)⟩ : S116)]) : List (S116)) = y687 at H
   have Ny687 := am hy687.symm
   clear hy687
   simp only [Option.some.injEq, Prod.mk.injEq] at H
   obtain ⟨rfl, rfl, rfl, rfl, rfl, rfl, rfl⟩ := H
   go_enter Try.func115, Try.ntmps115
   try go_wp2_with (first | ((with_reducible refine gate_dst (N := 2) rfl ?_); refine bxe 2 #[.int .i64 0, .int .i64 0, .int .i64 0, .int .i64 0, .slice none 0 0] 58 ?_; intro gb651 hg w39 hbox hb; have n_ := ak8 (IsS135.below (IsS135.q0 HI0.out) hb) (KeepBut.trans (kp0 HK.out) (KeepBut.of_below hb g none) (.inl rfl)) (below_step (bq1 HB.out (IsS135.ge HI0.out)) hb) hbox ((by rw [hg]; exact (keep_size (w := w) (g := g) (row := none) (kp0 HK.out)) : w.heap.size ≤ gb651)) ((Nat.le_trans HW0.out (by rw [hg]; exact (keep_size (w := w) (g := g) (row := none) (kp0 HK.out)) : w.heap.size ≤ gb651) : w0.heap.size ≤ gb651)) ((by rw [hg]; exact Nat.ne_of_lt (IsS135.lt (show IsS135 w0 _ g s0_0 s0_1 s0_2 from IsS135.q0 HI0.out)) : g ≠ gb651)) ((by rw [hg]; exact Nat.ne_of_gt (IsS135.lt (show IsS135 w0 _ g s0_0 s0_1 s0_2 from IsS135.q0 HI0.out)) : gb651 ≠ g)); clear HI0 HK HB; obtain ⟨HI0, HK, HB, BK651, GW651, GE651, NB0_651, NB651_0⟩ := n_; clear hb hbox hg) | ((with_reducible refine gate_callee (f := 121) rfl ?_); refine gc (some 5) (spec_l4Draw.calls k g s0_0 s0_1 s0_2 qa1_0 qa1_1 qa1_2 qa1_3 qa1_4 qa1_5 qa1_6 w0 _ (IsS135.q1 HI0.out NB0_651.out) (bq2 HB.out (IsS135.ge HI0.out) GE651.out) Qa1.out) Try.func121 ?_; rintro e w40 ⟨v657, rfl, ho0, hi, hb, hk⟩; refine ⟨_, rfl, ?_⟩; have n_ := ak5 (KeepBut.blk hk (zb BK651.out) NB651_0.out (by simp)) (Kd.S_lower ho0 (keep_size (w := w) (g := g) (row := none) (kp1 HK.out GW651.out))) (KeepBut.trans (kp1 HK.out GW651.out) hk (.inl rfl)) hb hi; clear BK651 HK HB HI0; obtain ⟨BK651, HO658, HK, HB, HI0⟩ := n_; (try clear hb hk hi ho0)) | ((with_reducible refine gate_dst (N := 3) rfl ?_); refine bxe 3 #[.int .i64 0, .int .i64 0, .int .i64 0, .int .i64 0, .slice none 0 0] 58 ?_; intro gb661 hg w41 hbox hb; have n_ := ak12 (Kd.S_below (kqS HO658.out) hb) (IsS135.below (IsS135.q1 HI0.out NB0_651.out) hb) (kb BK651 hb) (KeepBut.trans (kp1 HK.out GW651.out) (KeepBut.of_below hb g none) (.inl rfl)) (below_step (bq2 HB.out (IsS135.ge HI0.out) GE651.out) hb) hbox ((by rw [hg]; exact (keep_size (w := w) (g := g) (row := none) (kp1 HK.out GW651.out)) : w.heap.size ≤ gb661)) ((Nat.le_trans HW0.out (by rw [hg]; exact (keep_size (w := w) (g := g) (row := none) (kp1 HK.out GW651.out)) : w.heap.size ≤ gb661) : w0.heap.size ≤ gb661)) (nL hg BK651) (nG hg BK651) ((by rw [hg]; exact Nat.ne_of_lt (IsS135.lt (show IsS135 w0 _ g s0_0 qa1_5 qa1_6 from IsS135.q1 HI0.out NB0_651.out)) : g ≠ gb661)) ((by rw [hg]; exact Nat.ne_of_gt (IsS135.lt (show IsS135 w0 _ g s0_0 qa1_5 qa1_6 from IsS135.q1 HI0.out NB0_651.out)) : gb661 ≠ g)); clear HO658 HI0 BK651 HK HB; obtain ⟨HO658, HI0, BK651, HK, HB, BK661, GW661, GE661, NB651_661, NB661_651, NB0_661, NB661_0⟩ := n_; clear hb hbox hg; have hnb42 := NB661_651.out; have hnc42 := NB651_661.out; have hnb43 := NB661_0.out; have hnc43 := NB0_661.out; obtain ⟨hcz44_0, hcz44_1, hcz44_2, hcz44_3, hcz44_4, hfz44_0, hfz44_1, hfz44_2, hfz44_3, hfz44_4⟩ := cl5 BK661.out; obtain ⟨Ao45, co45, eo45⟩ := Kd.S_slice HO658.out; subst eo45) | ((with_reducible refine gate_callee (f := 122) rfl ?_); refine gc (some 7) (spec_l1Below.calls g s0_0 qa1_5 qa1_6 12 qb1_0 qb1_1 qb1_2 w0 _ (IsS135.q2 HI0.out NB0_651.out NB0_661.out) (bq3 HB.out (IsS135.ge HI0.out) GE651.out GE661.out) Qb1.out) Try.func122 ?_; rintro e w46 ⟨rfl, hi, hb, hk⟩; refine ⟨_, rfl, ?_⟩; have n_ := ak6 (KeepBut.blk hk (g' := gb651) (o := .cells #[.int .i64 0, .int .i64 0, .int .i64 0, .int .i64 0, .slice none 0 0] 58 (0, 0)) (by refine zr ?_; refine blk_far ?_ NB651_661.out _; refine zr ?_; refine blk_far ?_ NB651_661.out _; refine zr ?_; refine blk_far ?_ NB651_661.out _; refine zr ?_; refine blk_far ?_ NB651_661.out _; refine zr ?_; refine blk_far ?_ NB651_661.out _; refine zr ?_; exact BK651.out) NB651_0.out (by simp)) (Kd.S_mono (Kd.S_keep (IsS135.apartS (show IsS135 w0 _ g s0_0 qa1_5 qa1_6 from IsS135.q2 HI0.out NB0_651.out NB0_661.out) (by (with_reducible repeat (first | apply Kd.S_alloc | apply Kd.S_drewN | apply Kd.S_drew)); exact (Kd.S_mono (Kd.S_far (p := ⟨gb661, 4, none⟩) (Kd.S_far (p := ⟨gb661, 3, none⟩) (Kd.S_far (p := ⟨gb661, 2, none⟩) (Kd.S_far (p := ⟨gb661, 1, none⟩) (Kd.S_far (p := ⟨gb661, 0, none⟩) (Kd.S_types HO658.out BK661.out (by decide)) (fun _ hk => hk.2) (.int .i64 qa1_0)) (fun _ hk => hk.2) (.int .i64 qa1_1)) (fun _ hk => hk.2) (.int .i64 qa1_2)) (fun _ hk => hk.2) (.int .i64 qa1_3)) (fun _ hk => hk.2) (.slice Ao45 qa1_4.length co45)) (fun _ h_ => h_.1))) (by decide)) hk (fun _ h => h.2)) (fun _ h => h.1)) (KeepBut.blk hk (g' := gb661) (o := .cells #[.int .i64 qa1_0, .int .i64 qa1_1, .int .i64 qa1_2, .int .i64 qa1_3, .slice Ao45 qa1_4.length co45] 58 (0, 0)) (by refine zr ?_; exact bp5 (zb BK661.out)) NB661_0.out (by simp)) (KeepBut.trans (kp2 HK.out GW651.out GW661.out) hk (.inl rfl)) hb hi; clear BK651 HO658 BK661 HK HB HI0; obtain ⟨BK651, HO658, BK661, HK, HB, HI0⟩ := n_; (try clear hb hk hi)))
   have n_ := ak6 (Kd.S_drew HO658.out) (blk_drew BK651.out) (blk_drew BK661.out) (IsS135.drew HI0.out) (keep_drew HK.out) (below_drew1 HB.out)
   clear HO658 BK651 BK661 HI0 HK HB
   obtain ⟨HO658, BK651, BK661, HI0, HK, HB⟩ := n_
   refine start_ (n := 11) (S := fun w' => w'.cell? ⟨gb661, 0, none⟩ = some (.int .i64 qa1_0) ∧ w'.cell? ⟨gb661, 1, none⟩ = some (.int .i64 qa1_1) ∧ w'.cell? ⟨gb661, 2, none⟩ = some (.int .i64 qa1_2) ∧ w'.cell? ⟨gb661, 3, none⟩ = some (.int .i64 qa1_3) ∧ w'.cell? ⟨gb661, 4, none⟩ = some (.slice Ao45 qa1_4.length co45)) (ds := [10]) #[F,F,F,F,F,F,F,F,F,F,F] (by kernel_rfl) rfl rfl ⟨(blk_cell BK661.out 0).trans rfl, (blk_cell BK661.out 1).trans rfl, (blk_cell BK661.out 2).trans rfl, (blk_cell BK661.out 3).trans rfl, (blk_cell BK661.out 4).trans rfl⟩ (fun hHeld => ?_); refine with_tabW spec_l4Any.tab8 spec_l4Any.bits8 (fun HT_ HW_ => ?_)
   generalize w46.drew = w47 at HO658 BK651 BK661 HI0 HK HB hHeld ⊢
   refine pv HT_ 0 (some 21) #[T,F,F,F,F,F,F,F,F,F,F] ?_
   refine pv HT_ 2 (some 23) #[T,F,T,F,F,F,F,F,F,F,F] ?_
   refine pv HT_ 4 (some 25) #[T,F,T,F,T,F,F,F,F,F,F] ?_
   refine tk 1 (some 22) #[T,T,T,F,T,F,F,F,F,F,F] rfl rfl (take_ofW HT_.out HW_.out (by kernel_rfl)) hHeld (Or.inl ⟨by rfl, by rintro w' ⟨s0, s1, s2, s3, s4⟩; go_simp; with_reducible rfl⟩) ?_
   refine one_ (i := 3) (N := some 24) #[T,T,T,T,T,F,F,F,F,F,F] rfl rfl (one_of HT_.out (by kernel_rfl)) (by decide) (fun K hK => ?_)
   refine goes_ Try.func134 (by kernel_rfl) rfl #[.pointer (some ⟨g, 0, none⟩)] (by rfl) rfl rfl ga ?_
   with_reducible refine (spec_l2Any.calls k g s0_0 qb1_1 qb1_2 qd1_0 qd1_1 qd1_2 w0 _ ?side1 ?side2 Qd1.out).mono ?_
   (case side1 => exact IsS135.q2 HI0.out NB0_651.out NB0_661.out)
   (case side2 => exact bq3 HB.out (IsS135.ge HI0.out) GE651.out GE661.out)
   rintro e w48 ⟨v675, rfl, ho0, hi, hb, hk⟩
   refine ⟨_, rfl, ?_⟩
   have n_ := ak7 (KeepBut.blk hk (zb BK651.out) NB651_0.out (by simp)) (Kd.S_mono (Kd.S_told (Kd.S_oldK (IsS135.apartS (show IsS135 w0 _ g s0_0 qb1_1 qb1_2 from IsS135.q2 HI0.out NB0_651.out NB0_661.out) (kqS HO658.out) (by decide)) hk) (Kd.R_base ho0)) (fun _ h_ => h_.1)) (KeepBut.blk hk (zb BK661.out) NB661_0.out (by simp)) (Kd.R_lower ho0 (keep_size (w := w) (g := g) (row := none) (kp2 HK.out GW651.out GW661.out))) (KeepBut.trans (kp2 HK.out GW651.out GW661.out) hk (.inl rfl)) hb hi
   clear BK651 HO658 BK661 HK HB HI0
   obtain ⟨BK651, HO658, BK661, HO676, HK, HB, HI0⟩ := n_
   (try clear hb hk hi ho0)
   refine hK.out _ _ ⟨(blk_cell BK661.out 0).trans rfl, (blk_cell BK661.out 1).trans rfl, (blk_cell BK661.out 2).trans rfl, (blk_cell BK661.out 3).trans rfl, (blk_cell BK661.out 4).trans rfl⟩ (fun hHeld => ?_)
   clear hK K
   refine norm_ (a' := ?_) ?_ ?_
   rotate_left
   · show Act.put _ (some 24) _ = _
     simp only [Act.put, List.setIfInBounds_toArray, List.set_cons_zero, List.set_cons_succ, i64_w, i32_w]
     rfl
   refine one_ (i := 5) (N := some 26) #[T,T,T,T,T,T,F,F,F,F,F] rfl rfl (one_of HT_.out (by kernel_rfl)) (by decide) (fun K hK => ?_)
   refine goes_ Try.func104 (by kernel_rfl) rfl #[.pointer (some ⟨g, 0, none⟩)] (by rfl) rfl rfl ga ?_
   with_reducible refine (spec_l3Any.calls k g s0_0 qd1_1 qd1_2 qe1_0 qe1_1 qe1_2 qe1_3 qe1_4 qe1_5 w0 _ ?side1 ?side2 Qe1.out).mono ?_
   (case side1 => exact IsS135.q2 HI0.out NB0_651.out NB0_661.out)
   (case side2 => exact bq3 HB.out (IsS135.ge HI0.out) GE651.out GE661.out)
   rintro e w49 ⟨v683, rfl, ho0, hi, hb, hk⟩
   refine ⟨_, rfl, ?_⟩
   have n_ := ak8 (KeepBut.blk hk (zb BK651.out) NB651_0.out (by simp)) (Kd.S_mono (Kd.S_told (Kd.S_oldK (IsS135.apartS (show IsS135 w0 _ g s0_0 qd1_1 qd1_2 from IsS135.q2 HI0.out NB0_651.out NB0_661.out) (kqS HO658.out) (by decide)) hk) (Kd.R_base ho0)) (fun _ h_ => h_.1)) (KeepBut.blk hk (zb BK661.out) NB661_0.out (by simp)) (Kd.R_mono (Kd.R_told (Kd.R_oldK (IsS135.apart (show IsS135 w0 _ g s0_0 qd1_1 qd1_2 from IsS135.q2 HI0.out NB0_651.out NB0_661.out) (kqR HO676.out) (by decide)) hk) (Kd.R_base ho0)) (fun _ h_ => h_.1)) (Kd.R_lower (Kd.R_new' ho0 (Kd.R_lt (kqR HO676.out))) (keep_size (w := w) (g := g) (row := none) (kp2 HK.out GW651.out GW661.out))) (KeepBut.trans (kp2 HK.out GW651.out GW661.out) hk (.inl rfl)) hb hi
   clear BK651 HO658 BK661 HO676 HK HB HI0
   obtain ⟨BK651, HO658, BK661, HO676, HO684, HK, HB, HI0⟩ := n_
   (try clear hb hk hi ho0)
   obtain ⟨Ao50, co50, eo50⟩ := Kd.R_slice HO684.out
   (first | subst eo50 | (injection eo50 with f1_ f2_ f3_; have f4_ := f1_.symm; have f5_ := f3_.symm; clear f1_ f2_ f3_; subst f4_; subst f5_))
   obtain ⟨Ao51, co51, eo51⟩ := Kd.R_slice HO676.out
   (first | subst eo51 | (injection eo51 with f1_ f2_ f3_; have f4_ := f1_.symm; have f5_ := f3_.symm; clear f1_ f2_ f3_; subst f4_; subst f5_))
   refine hK.out _ _ ⟨(blk_cell BK661.out 0).trans rfl, (blk_cell BK661.out 1).trans rfl, (blk_cell BK661.out 2).trans rfl, (blk_cell BK661.out 3).trans rfl, (blk_cell BK661.out 4).trans rfl⟩ (fun hHeld => ?_)
   clear hK K
   refine norm_ (a' := ?_) ?_ ?_
   rotate_left
   · show Act.put _ (some 26) _ = _
     simp only [Act.put, List.setIfInBounds_toArray, List.set_cons_zero, List.set_cons_succ, i64_w, i32_w]
     rfl
   refine pv HT_ 6 (some 27) #[T,T,T,T,T,T,T,F,F,F,F] ?_
   refine one_ (i := 7) (N := some 28) #[T,T,T,T,T,T,T,T,F,F,F] rfl rfl (one_of HT_.out (by kernel_rfl)) (by decide) (fun K hK => ?_)
   refine value_ (w1 := ?_) (v := ?_) (by rfl) rfl ?_ ?_
   rotate_left 2
   · go_simp
     constructor
     · rfl
     rfl
   refine hK.out _ _ ⟨(blk_cell (blk_alloc BK661.out _) 0).trans rfl, (blk_cell (blk_alloc BK661.out _) 1).trans rfl, (blk_cell (blk_alloc BK661.out _) 2).trans rfl, (blk_cell (blk_alloc BK661.out _) 3).trans rfl, (blk_cell (blk_alloc BK661.out _) 4).trans rfl⟩ (fun hHeld => ?_)
   clear hK K
   refine norm_ (a' := ?_) ?_ ?_
   rotate_left
   · show Act.put _ (some 28) _ = _
     simp only [Act.put, List.setIfInBounds_toArray, List.set_cons_zero, List.set_cons_succ, i64_w, i32_w]
     rfl
   refine one_ (i := 8) (N := some 29) #[T,T,T,T,T,T,T,T,T,F,F] rfl rfl (one_of HT_.out (by kernel_rfl)) (by decide) (fun K hK => ?_)
   refine Kd.S_append_step k116 w.heap.size (by rfl) (.tmp 22) (.tmp 28) 56 116 (.agg #[(.slice none 0 0), (.int .i64 0), (.int .i64 0), (.string ⟨#[]⟩), (.slice none 0 0)]) 80 rfl Try.underlying56 info116 rfl (by decide) (by omega) (.slice Ao45 qa1_4.length co45) qa1_4 (⟨qd1_0, (⟨qe1_0, qe1_1, qe1_2, qe1_3⟩ : S29)⟩ : S116) [.slice Ao51 qd1_0.length co51, .int .i64 qe1_0, .int .i64 qe1_1, .string qe1_2, .slice Ao50 qe1_3.length co50] (fun _ => True) (fun k_ => some k_ = (.slice Ao51 qd1_0.length co51 : Value).ownBlock ∨ some k_ = (.slice Ao50 qe1_3.length co50 : Value).ownBlock) rfl rfl ?aP (fun k_ hk_ => hk_.elim (fun h_ => ((Kd.R_mono (ok' := fun k_ => ((fun _ => True)) k_ ∧ some k_ ≠ (.slice Ao45 qa1_4.length co45 : Value).ownBlock) (Kd.R_apart' (HO676.out) (Kd.S_typed HO658.out) (by decide)) (fun k_ hk => ⟨trivial, hk.2⟩))).1 k_ h_.symm) (fun h_ => ((Kd.R_mono (ok' := fun k_ => ((fun _ => True)) k_ ∧ some k_ ≠ (.slice Ao45 qa1_4.length co45 : Value).ownBlock) (Kd.R_apart' (HO684.out) (Kd.S_typed HO658.out) (by decide)) (fun k_ hk => ⟨trivial, hk.2⟩))).1 k_ h_.symm)) ?aF ?aO (Below.refl _ _) ?aS ?aL ?_
   (case aP => exact k116_mkM _ _ _ (⟨qd1_0, (⟨qe1_0, qe1_1, qe1_2, qe1_3⟩ : S29)⟩ : S116) (Kd.R_mono (Kd.R_tight rfl (Kd.R_mono (ok' := fun k_ => ((fun _ => True)) k_ ∧ some k_ ≠ (.slice Ao45 qa1_4.length co45 : Value).ownBlock) (Kd.R_apart' (HO676.out) (Kd.S_typed HO658.out) (by decide)) (fun k_ hk => ⟨trivial, hk.2⟩))) (fun _ h_ => Or.inl h_)) (Kd.R_mono (Kd.R_tight rfl (Kd.R_mono (ok' := fun k_ => ((fun _ => True)) k_ ∧ some k_ ≠ (.slice Ao45 qa1_4.length co45 : Value).ownBlock) (Kd.R_apart' (HO684.out) (Kd.S_typed HO658.out) (by decide)) (fun k_ hk => ⟨trivial, hk.2⟩))) (fun _ h_ => Or.inr (h_))))
   (case aF => exact (fun _ _ => trivial))
   (case aO => exact (by (with_reducible repeat (first | apply Kd.S_alloc | apply Kd.S_drewN | apply Kd.S_drew)); exact Kd.S_mono HO658.out (fun k_ hk => ⟨trivial, fun e_ => e_.elim (fun h_ => hk.1.2 h_) (fun h_ => hk.2 h_)⟩)))
   (case aS => exact (keep_size (w := w) (g := g) (row := none) (kp2 HK.out GW651.out GW661.out)))
   (case aL => have := LMc38.out; omega)
   intro v688 w52 ho hb hg hat
   rw [← Ny687.out] at ho
   have n_ := ak6 (IsS135.grown (IsS135.q2 HI0.out NB0_651.out NB0_661.out) hg (IsS135.own_neS HI0.out HO658.out (by decide))) (blk_grown (g := gb651) (o := .cells #[.int .i64 0, .int .i64 0, .int .i64 0, .int .i64 0, .slice none 0 0] 58 (0, 0)) (zq BK651.out) hg (Kd.S_ne HO658.out BK651.out (by decide))) (blk_grown (g := gb661) (o := .cells #[.int .i64 qa1_0, .int .i64 qa1_1, .int .i64 qa1_2, .int .i64 qa1_3, .slice Ao45 qa1_4.length co45] 58 (0, 0)) (zq BK661.out) hg (Kd.S_ne HO658.out BK661.out (by decide))) (below_weaken (bq3 HB.out (IsS135.ge HI0.out) GE651.out GE661.out) HL.out hb) (KeepBut.trans (kp2 HK.out GW651.out GW661.out) (KeepBut.of_grown hg g) (Kd.S_base2 HO658.out)) ho
   clear HI0 BK651 BK661 HB HK HO658 HO676 HO684
   obtain ⟨HI0, BK651, BK661, HB, HK, HO689⟩ := n_
   clear ho hb hg hat
   obtain ⟨Ao53, co53, eo53⟩ := Kd.S_slice HO689.out
   (first | subst eo53 | (injection eo53 with f1_ f2_ f3_; have f4_ := f1_.symm; have f5_ := f3_.symm; clear f1_ f2_ f3_; subst f4_; subst f5_))
   refine hK.out _ _ ⟨(blk_cell BK661.out 0).trans rfl, (blk_cell BK661.out 1).trans rfl, (blk_cell BK661.out 2).trans rfl, (blk_cell BK661.out 3).trans rfl, (blk_cell BK661.out 4).trans rfl⟩ (fun hHeld => ?_)
   clear hK K
   refine norm_ (a' := ?_) ?_ ?_
   rotate_left
   · show Act.put _ (some 29) _ = _
     simp only [Act.put, List.setIfInBounds_toArray, List.set_cons_zero, List.set_cons_succ, i64_w, i32_w]
     rfl
   refine pv HT_ 9 (some 30) #[T,T,T,T,T,T,T,T,T,T,F] ?_
   refine last_ (i := 10) (N := none) #[T,T,T,T,T,T,T,T,T,T,T] rfl rfl (one_of HT_.out (by kernel_rfl)) (by decide) (fun K hK => ?_)
   have hs54 : w52.cell? ⟨gb661, 4, none⟩ = some (.slice Ao45 qa1_4.length co45) := (blk_cell BK661.out 4).trans rfl
   have hfs54 := blk_frozen BK661.out 4
   have hns54_0 := NB651_661.out
   have hms54_0 := NB661_651.out
   refine skip_ (w1 := ?_) (by rfl) rfl ?_ ?_
   rotate_left
   · go_simp
     rfl
   refine hK.out _ _ ?_
   clear hK K
   refine done_ (done_of HT_.out (by kernel_rfl)) ?_
   obtain ⟨hcz55_0, hcz55_1, hcz55_2, hcz55_3, hcz55_4, hfz55_0, hfz55_1, hfz55_2, hfz55_3, hfz55_4⟩ := cl5 BK661.out
   have hnb56 := NB651_0.out
   have hnc56 := NB0_651.out
   obtain ⟨hcz57_0, hcz57_1, hcz57_2, hcz57_3, hcz57_4, hfz57_0, hfz57_1, hfz57_2, hfz57_3, hfz57_4⟩ := cl5 BK651.out
   try go_wp2
   refine bodyPost_ret (results_cell_row rfl _ _ gb651 58 #[.int .i64 qa1_0, .int .i64 qa1_1, .int .i64 qa1_2, .int .i64 qa1_3, .slice Ao53 y687.length co53] (0, 0) _ rfl (by refine zr ?_; refine blk_put (cs := #[.int .i64 qa1_0, .int .i64 qa1_1, .int .i64 qa1_2, .int .i64 qa1_3, .slice none 0 0]) ?_ 4 _ rfl; refine zr ?_; refine blk_put (cs := #[.int .i64 qa1_0, .int .i64 qa1_1, .int .i64 qa1_2, .int .i64 0, .slice none 0 0]) ?_ 3 _ rfl; refine zr ?_; refine blk_put (cs := #[.int .i64 qa1_0, .int .i64 qa1_1, .int .i64 0, .int .i64 0, .slice none 0 0]) ?_ 2 _ rfl; refine zr ?_; refine blk_put (cs := #[.int .i64 qa1_0, .int .i64 0, .int .i64 0, .int .i64 0, .slice none 0 0]) ?_ 1 _ rfl; refine zr ?_; refine blk_put (cs := #[.int .i64 0, .int .i64 0, .int .i64 0, .int .i64 0, .slice none 0 0]) ?_ 0 _ rfl; refine zr ?_; refine blk_far ?_ NB651_661.out _; refine zr ?_; exact BK651.out) Try.underlying58 rfl (by kernel_rfl)) rfl ?_
   exact ⟨_, rq, by (with_reducible repeat (first | apply Kd.S_alloc | apply Kd.S_drewN | apply Kd.S_drew)); exact Kd.S_mono (Kd.S_far (p := ⟨gb651, 4, none⟩) (Kd.S_far (p := ⟨gb651, 3, none⟩) (Kd.S_far (p := ⟨gb651, 2, none⟩) (Kd.S_far (p := ⟨gb651, 1, none⟩) (Kd.S_far (p := ⟨gb651, 0, none⟩) (Kd.S_far (p := ⟨gb661, 4, none⟩) (Kd.S_types (Kd.S_types HO689.out BK661.out (by decide)) BK651.out (by decide)) (fun _ hk => hk.1.2) (.slice Ao53 y687.length co53)) (fun _ hk => hk.2) (.int .i64 qa1_0)) (fun _ hk => hk.2) (.int .i64 qa1_1)) (fun _ hk => hk.2) (.int .i64 qa1_2)) (fun _ hk => hk.2) (.int .i64 qa1_3)) (fun _ hk => hk.2) (.slice Ao53 y687.length co53)) (fun _ hk => trivial), IsS135.q2 HI0.out NB0_651.out NB0_661.out, bq3 HB.out (IsS135.ge HI0.out) GE651.out GE661.out, kp2 HK.out GW651.out GW661.out⟩
 replace H := iq' H
 rcases H with ⟨c58, c58b0, c58b1, H⟩ | ⟨-, c58b0, c58b1, H⟩
 have z1 := trivial
 rotate_left
 · have H' := am H
   clear H
   go_enter Try.func115, Try.ntmps115
   go_wp2_with (first | ((with_reducible refine gate_dst (N := 2) rfl ?_); refine bxe 2 #[.int .i64 0, .int .i64 0, .int .i64 0, .int .i64 0, .slice none 0 0] 58 ?_; intro gb651 hg w59 hbox hb; have n_ := ak8 (IsS135.below (IsS135.q0 HI0.out) hb) (KeepBut.trans (kp0 HK.out) (KeepBut.of_below hb g none) (.inl rfl)) (below_step (bq1 HB.out (IsS135.ge HI0.out)) hb) hbox ((by rw [hg]; exact (keep_size (w := w) (g := g) (row := none) (kp0 HK.out)) : w.heap.size ≤ gb651)) ((Nat.le_trans HW0.out (by rw [hg]; exact (keep_size (w := w) (g := g) (row := none) (kp0 HK.out)) : w.heap.size ≤ gb651) : w0.heap.size ≤ gb651)) ((by rw [hg]; exact Nat.ne_of_lt (IsS135.lt (show IsS135 w0 _ g s0_0 s0_1 s0_2 from IsS135.q0 HI0.out)) : g ≠ gb651)) ((by rw [hg]; exact Nat.ne_of_gt (IsS135.lt (show IsS135 w0 _ g s0_0 s0_1 s0_2 from IsS135.q0 HI0.out)) : gb651 ≠ g)); clear HI0 HK HB; obtain ⟨HI0, HK, HB, BK651, GW651, GE651, NB0_651, NB651_0⟩ := n_; clear hb hbox hg) | ((with_reducible refine gate_callee (f := 121) rfl ?_); refine gc (some 5) (spec_l4Draw.calls k g s0_0 s0_1 s0_2 qa1_0 qa1_1 qa1_2 qa1_3 qa1_4 qa1_5 qa1_6 w0 _ (IsS135.q1 HI0.out NB0_651.out) (bq2 HB.out (IsS135.ge HI0.out) GE651.out) Qa1.out) Try.func121 ?_; rintro e w60 ⟨v657, rfl, ho0, hi, hb, hk⟩; refine ⟨_, rfl, ?_⟩; have n_ := ak5 (KeepBut.blk hk (zb BK651.out) NB651_0.out (by simp)) (Kd.S_lower ho0 (keep_size (w := w) (g := g) (row := none) (kp1 HK.out GW651.out))) (KeepBut.trans (kp1 HK.out GW651.out) hk (.inl rfl)) hb hi; clear BK651 HK HB HI0; obtain ⟨BK651, HO658, HK, HB, HI0⟩ := n_; (try clear hb hk hi ho0)) | ((with_reducible refine gate_dst (N := 3) rfl ?_); refine bxe 3 #[.int .i64 0, .int .i64 0, .int .i64 0, .int .i64 0, .slice none 0 0] 58 ?_; intro gb661 hg w61 hbox hb; have n_ := ak12 (Kd.S_below (kqS HO658.out) hb) (IsS135.below (IsS135.q1 HI0.out NB0_651.out) hb) (kb BK651 hb) (KeepBut.trans (kp1 HK.out GW651.out) (KeepBut.of_below hb g none) (.inl rfl)) (below_step (bq2 HB.out (IsS135.ge HI0.out) GE651.out) hb) hbox ((by rw [hg]; exact (keep_size (w := w) (g := g) (row := none) (kp1 HK.out GW651.out)) : w.heap.size ≤ gb661)) ((Nat.le_trans HW0.out (by rw [hg]; exact (keep_size (w := w) (g := g) (row := none) (kp1 HK.out GW651.out)) : w.heap.size ≤ gb661) : w0.heap.size ≤ gb661)) (nL hg BK651) (nG hg BK651) ((by rw [hg]; exact Nat.ne_of_lt (IsS135.lt (show IsS135 w0 _ g s0_0 qa1_5 qa1_6 from IsS135.q1 HI0.out NB0_651.out)) : g ≠ gb661)) ((by rw [hg]; exact Nat.ne_of_gt (IsS135.lt (show IsS135 w0 _ g s0_0 qa1_5 qa1_6 from IsS135.q1 HI0.out NB0_651.out)) : gb661 ≠ g)); clear HO658 HI0 BK651 HK HB; obtain ⟨HO658, HI0, BK651, HK, HB, BK661, GW661, GE661, NB651_661, NB661_651, NB0_661, NB661_0⟩ := n_; clear hb hbox hg; have hnb62 := NB661_651.out; have hnc62 := NB651_661.out; have hnb63 := NB661_0.out; have hnc63 := NB0_661.out; obtain ⟨hcz64_0, hcz64_1, hcz64_2, hcz64_3, hcz64_4, hfz64_0, hfz64_1, hfz64_2, hfz64_3, hfz64_4⟩ := cl5 BK661.out; obtain ⟨Ao65, co65, eo65⟩ := Kd.S_slice HO658.out; subst eo65) | ((with_reducible refine gate_callee (f := 122) rfl ?_); refine gc (some 7) (spec_l1Below.calls g s0_0 qa1_5 qa1_6 12 qb1_0 qb1_1 qb1_2 w0 _ (IsS135.q2 HI0.out NB0_651.out NB0_661.out) (bq3 HB.out (IsS135.ge HI0.out) GE651.out GE661.out) Qb1.out) Try.func122 ?_; rintro e w66 ⟨rfl, hi, hb, hk⟩; refine ⟨_, rfl, ?_⟩; have n_ := ak6 (KeepBut.blk hk (g' := gb651) (o := .cells #[.int .i64 0, .int .i64 0, .int .i64 0, .int .i64 0, .slice none 0 0] 58 (0, 0)) (by refine zr ?_; refine blk_far ?_ NB651_661.out _; refine zr ?_; refine blk_far ?_ NB651_661.out _; refine zr ?_; refine blk_far ?_ NB651_661.out _; refine zr ?_; refine blk_far ?_ NB651_661.out _; refine zr ?_; refine blk_far ?_ NB651_661.out _; refine zr ?_; exact BK651.out) NB651_0.out (by simp)) (Kd.S_mono (Kd.S_keep (IsS135.apartS (show IsS135 w0 _ g s0_0 qa1_5 qa1_6 from IsS135.q2 HI0.out NB0_651.out NB0_661.out) (by (with_reducible repeat (first | apply Kd.S_alloc | apply Kd.S_drewN | apply Kd.S_drew)); exact (Kd.S_mono (Kd.S_far (p := ⟨gb661, 4, none⟩) (Kd.S_far (p := ⟨gb661, 3, none⟩) (Kd.S_far (p := ⟨gb661, 2, none⟩) (Kd.S_far (p := ⟨gb661, 1, none⟩) (Kd.S_far (p := ⟨gb661, 0, none⟩) (Kd.S_types HO658.out BK661.out (by decide)) (fun _ hk => hk.2) (.int .i64 qa1_0)) (fun _ hk => hk.2) (.int .i64 qa1_1)) (fun _ hk => hk.2) (.int .i64 qa1_2)) (fun _ hk => hk.2) (.int .i64 qa1_3)) (fun _ hk => hk.2) (.slice Ao65 qa1_4.length co65)) (fun _ h_ => h_.1))) (by decide)) hk (fun _ h => h.2)) (fun _ h => h.1)) (KeepBut.blk hk (g' := gb661) (o := .cells #[.int .i64 qa1_0, .int .i64 qa1_1, .int .i64 qa1_2, .int .i64 qa1_3, .slice Ao65 qa1_4.length co65] 58 (0, 0)) (by refine zr ?_; exact bp5 (zb BK661.out)) NB661_0.out (by simp)) (KeepBut.trans (kp2 HK.out GW651.out GW661.out) hk (.inl rfl)) hb hi; clear BK651 HO658 BK661 HK HB HI0; obtain ⟨BK651, HO658, BK661, HK, HB, HI0⟩ := n_; (try clear hb hk hi)))
   go_loopg [] k (fun kq w' => ∃ (x1001_1 : Int) (x1002_1 : Int) (x662004_1 : List (S116)) (u662004 : Value), Aside0 (spec_l4Any.l0 kq s0_0 x1001_1 x1002_1 qa1_0 qa1_1 qa1_2 qa1_3 x662004_1 = some (r1, r2, r3, r4, r5, r6, r7)) ∧ Aside0 (kq ≤ k) ∧ Aside0 (Kd.S k116 116 w' w.heap.size (fun _ => True) u662004 x662004_1) ∧ Aside0 (w'.heap[gb651]? = some (.cells #[.int .i64 0, .int .i64 0, .int .i64 0, .int .i64 0, (.slice none 0 0)] 58 (0, 0))) ∧ Aside0 (w'.heap[gb661]? = some (.cells #[.int .i64 qa1_0, .int .i64 qa1_1, .int .i64 qa1_2, .int .i64 qa1_3, u662004] 58 (0, 0))) ∧ Aside0 (IsS135 w0 w' g s0_0 x1001_1 x1002_1) ∧ Aside0 (KeepBut w w' g none) ∧ Aside0 (Below w0.heap.size w0 w'))
   case atStart => exact ⟨(qb1_1), (qb1_2), (qa1_4), (.slice Ao65 qa1_4.length co65), H', ⟨Nat.le_refl _⟩, ⟨kqS HO658.out⟩, ⟨zq BK651.out⟩, ⟨zq BK661.out⟩, ⟨IsS135.q2 HI0.out NB0_651.out NB0_661.out⟩, ⟨kp2 HK.out GW651.out GW661.out⟩, ⟨bq3 HB.out (IsS135.ge HI0.out) GE651.out GE661.out⟩⟩
   case round =>
    clear H'
    try clear c1
    try clear c2
    try clear p2
    try clear c3
    try clear c4
    try clear c4b0
    try clear c4b1
    try clear c5
    try clear c6
    try clear c8
    try clear c9
    try clear c10
    try clear c11
    try clear c12
    try clear c13
    try clear c16
    try clear c18
    try clear c18b0
    try clear c18b1
    try clear c23
    try clear c24
    try clear c33
    try clear c35
    try clear c35b0
    try clear c35b1
    try clear c38
    try clear c42
    try clear c43
    try clear c56
    try clear c58
    try clear c58b0
    try clear c58b1
    try clear c62
    try clear c63
    try clear hcz11_0
    try clear hcz11_1
    try clear hcz11_2
    try clear hcz11_3
    try clear hcz11_4
    try clear hcz15_0
    try clear hcz15_1
    try clear hcz15_2
    try clear hcz15_3
    try clear hcz15_4
    try clear hcz17_0
    try clear hcz17_1
    try clear hcz17_2
    try clear hcz17_3
    try clear hcz17_4
    try clear hcz25_0
    try clear hcz25_1
    try clear hcz25_2
    try clear hcz25_3
    try clear hcz25_4
    try clear hcz32_0
    try clear hcz32_1
    try clear hcz32_2
    try clear hcz32_3
    try clear hcz32_4
    try clear hcz34_0
    try clear hcz34_1
    try clear hcz34_2
    try clear hcz34_3
    try clear hcz34_4
    try clear hcz44_0
    try clear hcz44_1
    try clear hcz44_2
    try clear hcz44_3
    try clear hcz44_4
    try clear hcz55_0
    try clear hcz55_1
    try clear hcz55_2
    try clear hcz55_3
    try clear hcz55_4
    try clear hcz57_0
    try clear hcz57_1
    try clear hcz57_2
    try clear hcz57_3
    try clear hcz57_4
    try clear hcz64_0
    try clear hcz64_1
    try clear hcz64_2
    try clear hcz64_3
    try clear hcz64_4
    try clear hfz11_0
    try clear hfz11_1
    try clear hfz11_2
    try clear hfz11_3
    try clear hfz11_4
    try clear hfz15_0
    try clear hfz15_1
    try clear hfz15_2
    try clear hfz15_3
    try clear hfz15_4
    try clear hfz17_0
    try clear hfz17_1
    try clear hfz17_2
    try clear hfz17_3
    try clear hfz17_4
    try clear hfz25_0
    try clear hfz25_1
    try clear hfz25_2
    try clear hfz25_3
    try clear hfz25_4
    try clear hfz32_0
    try clear hfz32_1
    try clear hfz32_2
    try clear hfz32_3
    try clear hfz32_4
    try clear hfz34_0
    try clear hfz34_1
    try clear hfz34_2
    try clear hfz34_3
    try clear hfz34_4
    try clear hfz44_0
    try clear hfz44_1
    try clear hfz44_2
    try clear hfz44_3
    try clear hfz44_4
    try clear hfz55_0
    try clear hfz55_1
    try clear hfz55_2
    try clear hfz55_3
    try clear hfz55_4
    try clear hfz57_0
    try clear hfz57_1
    try clear hfz57_2
    try clear hfz57_3
    try clear hfz57_4
    try clear hfz64_0
    try clear hfz64_1
    try clear hfz64_2
    try clear hfz64_3
    try clear hfz64_4
    obtain ⟨x1001_1, x1002_1, x662004_1, u662004, HA, HK1, HO_662004, BK651, BK661, HI0, HK, HB⟩ := hrel
    cases gk with
    | zero => exact absurd HA.out (by simp [spec_l4Any.l0])
    | succ k1 =>
     have H := HA.out
     clear HA
     simp only [spec_l4Any.l0] at H
     replace H := be H
     obtain ⟨⟨t690, t691, t692⟩, A67, H⟩ := H
     try dsimp only at H
     replace H := il' H
     rcases H with ⟨-, c68b0, H⟩ | ⟨-, c68b0, H⟩
     · simp only [Option.some.injEq, Prod.mk.injEq] at H
       obtain ⟨rfl, rfl, rfl, rfl, rfl, rfl, rfl⟩ := H
       try go_wp2
       have n_ := ak6 (Kd.S_drew HO_662004.out) (blk_drew BK651.out) (blk_drew BK661.out) (IsS135.drew HI0.out) (keep_drew HK.out) (below_drew1 HB.out)
       clear HO_662004 BK651 BK661 HI0 HK HB
       obtain ⟨HO_662004, BK651, BK661, HI0, HK, HB⟩ := n_
       obtain ⟨Ao81, co81, eo81⟩ := Kd.S_slice HO_662004.out
       (first | subst eo81 | (injection eo81 with f1_ f2_ f3_; have f4_ := f1_.symm; have f5_ := f3_.symm; clear f1_ f2_ f3_; subst f4_; subst f5_))
       refine start_ (n := 7) (S := fun w' => w'.cell? ⟨gb661, 0, none⟩ = some (.int .i64 qa1_0) ∧ w'.cell? ⟨gb661, 1, none⟩ = some (.int .i64 qa1_1) ∧ w'.cell? ⟨gb661, 2, none⟩ = some (.int .i64 qa1_2) ∧ w'.cell? ⟨gb661, 3, none⟩ = some (.int .i64 qa1_3) ∧ w'.cell? ⟨gb661, 4, none⟩ = some (.slice Ao81 x662004_1.length co81)) (ds := []) #[F,F,F,F,F,F,F] (by kernel_rfl) rfl rfl ⟨(blk_cell BK661.out 0).trans rfl, (blk_cell BK661.out 1).trans rfl, (blk_cell BK661.out 2).trans rfl, (blk_cell BK661.out 3).trans rfl, (blk_cell BK661.out 4).trans rfl⟩ (fun hHeld => ?_)
       generalize wr.drew = w80 at HO_662004 BK651 BK661 HI0 HK HB hHeld ⊢
       refine pu 0 (some 33) #[T,F,F,F,F,F,F] rfl rfl (by kernel_rfl) (Or.inl ⟨by rfl, by intro w'; go_simp; with_reducible rfl⟩) ?_
       refine pu 3 (some 36) #[T,F,F,T,F,F,F] rfl rfl (by kernel_rfl) (Or.inl ⟨by rfl, by intro w'; go_simp; with_reducible rfl⟩) ?_
       refine tk 1 (some 34) #[T,T,F,T,F,F,F] rfl rfl (by kernel_rfl) hHeld (Or.inl ⟨by rfl, by rintro w' ⟨s0, s1, s2, s3, s4⟩; go_simp; with_reducible rfl⟩) ?_
       refine pu 2 (some 35) #[T,T,T,T,F,F,F] rfl rfl (by kernel_rfl) (Or.inl ⟨by rfl, by intro w'; go_simp; with_reducible rfl⟩) ?_
       refine one_ (i := 4) (N := some 37) #[T,T,T,T,T,F,F] rfl rfl (by kernel_rfl) (by decide) (fun K hK => ?_)
       refine goes_ Try.func122 (by kernel_rfl) rfl #[.pointer (some ⟨g, 0, none⟩), .int .i64 2] (by rfl) rfl rfl ga ?_
       with_reducible refine (spec_l1Below.calls g s0_0 x1001_1 x1002_1 2 t690 t691 t692 w0 _ ?side1 ?side2 A67.out).mono ?_
       (case side1 => exact IsS135.q2 HI0.out NB0_651.out NB0_661.out)
       (case side2 => exact bq3 HB.out (IsS135.ge HI0.out) GE651.out GE661.out)
       rintro e w82 ⟨rfl, hi, hb, hk⟩
       refine ⟨_, rfl, ?_⟩
       have n_ := ak6 (Kd.S_mono (Kd.S_keep (IsS135.apartS (show IsS135 w0 _ g s0_0 x1001_1 x1002_1 from IsS135.q2 HI0.out NB0_651.out NB0_661.out) (kqS HO_662004.out) (by decide)) hk (fun _ h => h.2)) (fun _ h => h.1)) (KeepBut.blk hk (zb BK651.out) NB651_0.out (by simp)) (KeepBut.blk hk (zb BK661.out) NB661_0.out (by simp)) (KeepBut.trans (kp2 HK.out GW651.out GW661.out) hk (.inl rfl)) hb hi
       clear HO_662004 BK651 BK661 HK HB HI0
       obtain ⟨HO_662004, BK651, BK661, HK, HB, HI0⟩ := n_
       (try clear hb hk hi)
       refine hK.out _ _ ⟨(blk_cell BK661.out 0).trans rfl, (blk_cell BK661.out 1).trans rfl, (blk_cell BK661.out 2).trans rfl, (blk_cell BK661.out 3).trans rfl, (blk_cell BK661.out 4).trans rfl⟩ (fun hHeld => ?_)
       clear hK K
       refine norm_ (a' := ?_) ?_ ?_
       rotate_left
       · show Act.put _ (some 37) _ = _
         simp only [Act.put, List.setIfInBounds_toArray, List.set_cons_zero, List.set_cons_succ, i64_w, i32_w]
         rfl
       refine pu 5 (some 38) #[T,T,T,T,T,T,F] rfl rfl (by kernel_rfl) (Or.inl ⟨by rfl, by intro w'; go_simp; with_reducible rfl⟩) ?_
       refine pu 6 (some 39) #[T,T,T,T,T,T,T] rfl rfl (by kernel_rfl) (Or.inl ⟨by rfl, by intro w'; go_simp; with_reducible rfl⟩) ?_
       refine done_ (by kernel_rfl) ?_
       have hnb83 := NB661_651.out
       have hnc83 := NB651_661.out
       have hnb84 := NB661_0.out
       have hnc84 := NB0_661.out
       obtain ⟨hcz85_0, hcz85_1, hcz85_2, hcz85_3, hcz85_4, hfz85_0, hfz85_1, hfz85_2, hfz85_3, hfz85_4⟩ := cl5 BK661.out
       have hnb86 := NB651_0.out
       have hnc86 := NB0_651.out
       obtain ⟨hcz87_0, hcz87_1, hcz87_2, hcz87_3, hcz87_4, hfz87_0, hfz87_1, hfz87_2, hfz87_3, hfz87_4⟩ := cl5 BK651.out
       try go_wp2
       refine bodyPost_ret (results_cell_row rfl _ _ gb651 58 #[.int .i64 qa1_0, .int .i64 qa1_1, .int .i64 qa1_2, .int .i64 qa1_3, .slice Ao81 x662004_1.length co81] (0, 0) _ rfl (by refine zr ?_; exact bp5 (zb BK651.out)) Try.underlying58 rfl (by kernel_rfl)) rfl ?_
       exact ⟨_, rq, by (with_reducible repeat (first | apply Kd.S_alloc | apply Kd.S_drewN | apply Kd.S_drew)); exact Kd.S_mono (Kd.S_far (p := ⟨gb651, 4, none⟩) (Kd.S_far (p := ⟨gb651, 3, none⟩) (Kd.S_far (p := ⟨gb651, 2, none⟩) (Kd.S_far (p := ⟨gb651, 1, none⟩) (Kd.S_far (p := ⟨gb651, 0, none⟩) (Kd.S_types HO_662004.out BK651.out (by decide)) (fun _ hk => hk.2) (.int .i64 qa1_0)) (fun _ hk => hk.2) (.int .i64 qa1_1)) (fun _ hk => hk.2) (.int .i64 qa1_2)) (fun _ hk => hk.2) (.int .i64 qa1_3)) (fun _ hk => hk.2) (.slice Ao81 x662004_1.length co81)) (fun _ hk => trivial), IsS135.q2 HI0.out NB0_651.out NB0_661.out, bq3 HB.out (IsS135.ge HI0.out) GE651.out GE661.out, kp2 HK.out GW651.out GW661.out⟩
     replace H := be H
     obtain ⟨⟨qf1_0, qf1_1, qf1_2⟩, Qf1, H⟩ := H
     try dsimp only at H
     replace H := nq H
     obtain ⟨c70, H⟩ := H
     have LMc70 := am c70
     clear c70
     generalize hy698 : ((x662004_1 ++ [(⟨qf1_0, (⟨4, 0, (⟨#[116, 119, 101, 110, 116, 121, 45, 98, 121, 116, 101, 115, 45, 111, 102, 45, 116, 101, 120, 116]⟩ : ByteArray), ([] : List Int)⟩ : S29)⟩ : S116)]) : List (S116)) = y698 at H
     have Ny698 := am hy698.symm
     clear hy698
     have H' := am H
     clear H
     try go_wp2
     have n_ := ak6 (Kd.S_drew HO_662004.out) (blk_drew BK651.out) (blk_drew BK661.out) (IsS135.drew HI0.out) (keep_drew HK.out) (below_drew1 HB.out)
     clear HO_662004 BK651 BK661 HI0 HK HB
     obtain ⟨HO_662004, BK651, BK661, HI0, HK, HB⟩ := n_
     obtain ⟨Ao72, co72, eo72⟩ := Kd.S_slice HO_662004.out
     (first | subst eo72 | (injection eo72 with f1_ f2_ f3_; have f4_ := f1_.symm; have f5_ := f3_.symm; clear f1_ f2_ f3_; subst f4_; subst f5_))
     refine start_ (n := 7) (S := fun w' => w'.cell? ⟨gb661, 0, none⟩ = some (.int .i64 qa1_0) ∧ w'.cell? ⟨gb661, 1, none⟩ = some (.int .i64 qa1_1) ∧ w'.cell? ⟨gb661, 2, none⟩ = some (.int .i64 qa1_2) ∧ w'.cell? ⟨gb661, 3, none⟩ = some (.int .i64 qa1_3) ∧ w'.cell? ⟨gb661, 4, none⟩ = some (.slice Ao72 x662004_1.length co72)) (ds := []) #[F,F,F,F,F,F,F] (by kernel_rfl) rfl rfl ⟨(blk_cell BK661.out 0).trans rfl, (blk_cell BK661.out 1).trans rfl, (blk_cell BK661.out 2).trans rfl, (blk_cell BK661.out 3).trans rfl, (blk_cell BK661.out 4).trans rfl⟩ (fun hHeld => ?_)
     generalize wr.drew = w71 at HO_662004 BK651 BK661 HI0 HK HB hHeld ⊢
     refine pu 0 (some 33) #[T,F,F,F,F,F,F] rfl rfl (by kernel_rfl) (Or.inl ⟨by rfl, by intro w'; go_simp; with_reducible rfl⟩) ?_
     refine pu 3 (some 36) #[T,F,F,T,F,F,F] rfl rfl (by kernel_rfl) (Or.inl ⟨by rfl, by intro w'; go_simp; with_reducible rfl⟩) ?_
     refine tk 1 (some 34) #[T,T,F,T,F,F,F] rfl rfl (by kernel_rfl) hHeld (Or.inl ⟨by rfl, by rintro w' ⟨s0, s1, s2, s3, s4⟩; go_simp; with_reducible rfl⟩) ?_
     refine pu 2 (some 35) #[T,T,T,T,F,F,F] rfl rfl (by kernel_rfl) (Or.inl ⟨by rfl, by intro w'; go_simp; with_reducible rfl⟩) ?_
     refine one_ (i := 4) (N := some 37) #[T,T,T,T,T,F,F] rfl rfl (by kernel_rfl) (by decide) (fun K hK => ?_)
     refine goes_ Try.func122 (by kernel_rfl) rfl #[.pointer (some ⟨g, 0, none⟩), .int .i64 2] (by rfl) rfl rfl ga ?_
     with_reducible refine (spec_l1Below.calls g s0_0 x1001_1 x1002_1 2 t690 t691 t692 w0 _ ?side1 ?side2 A67.out).mono ?_
     (case side1 => exact IsS135.q2 HI0.out NB0_651.out NB0_661.out)
     (case side2 => exact bq3 HB.out (IsS135.ge HI0.out) GE651.out GE661.out)
     rintro e w73 ⟨rfl, hi, hb, hk⟩
     refine ⟨_, rfl, ?_⟩
     have n_ := ak6 (Kd.S_mono (Kd.S_keep (IsS135.apartS (show IsS135 w0 _ g s0_0 x1001_1 x1002_1 from IsS135.q2 HI0.out NB0_651.out NB0_661.out) (kqS HO_662004.out) (by decide)) hk (fun _ h => h.2)) (fun _ h => h.1)) (KeepBut.blk hk (zb BK651.out) NB651_0.out (by simp)) (KeepBut.blk hk (zb BK661.out) NB661_0.out (by simp)) (KeepBut.trans (kp2 HK.out GW651.out GW661.out) hk (.inl rfl)) hb hi
     clear HO_662004 BK651 BK661 HK HB HI0
     obtain ⟨HO_662004, BK651, BK661, HK, HB, HI0⟩ := n_
     (try clear hb hk hi)
     refine hK.out _ _ ⟨(blk_cell BK661.out 0).trans rfl, (blk_cell BK661.out 1).trans rfl, (blk_cell BK661.out 2).trans rfl, (blk_cell BK661.out 3).trans rfl, (blk_cell BK661.out 4).trans rfl⟩ (fun hHeld => ?_)
     clear hK K
     refine norm_ (a' := ?_) ?_ ?_
     rotate_left
     · show Act.put _ (some 37) _ = _
       simp only [Act.put, List.setIfInBounds_toArray, List.set_cons_zero, List.set_cons_succ, i64_w, i32_w]
       rfl
     refine pu 5 (some 38) #[T,T,T,T,T,T,F] rfl rfl (by kernel_rfl) (Or.inl ⟨by rfl, by intro w'; go_simp; with_reducible rfl⟩) ?_
     refine pu 6 (some 39) #[T,T,T,T,T,T,T] rfl rfl (by kernel_rfl) (Or.inl ⟨by rfl, by intro w'; go_simp; with_reducible rfl⟩) ?_
     refine done_ (by kernel_rfl) ?_
     try go_wp2
     have n_ := ak6 (Kd.S_drew HO_662004.out) (blk_drew BK651.out) (blk_drew BK661.out) (IsS135.drew HI0.out) (keep_drew HK.out) (below_drew1 HB.out)
     clear HO_662004 BK651 BK661 HI0 HK HB
     obtain ⟨HO_662004, BK651, BK661, HI0, HK, HB⟩ := n_
     refine start_ (n := 10) (S := fun w' => w'.cell? ⟨gb661, 0, none⟩ = some (.int .i64 qa1_0) ∧ w'.cell? ⟨gb661, 1, none⟩ = some (.int .i64 qa1_1) ∧ w'.cell? ⟨gb661, 2, none⟩ = some (.int .i64 qa1_2) ∧ w'.cell? ⟨gb661, 3, none⟩ = some (.int .i64 qa1_3) ∧ w'.cell? ⟨gb661, 4, none⟩ = some (.slice Ao72 x662004_1.length co72)) (ds := [9]) #[F,F,F,F,F,F,F,F,F,F] (by kernel_rfl) rfl rfl ⟨(blk_cell BK661.out 0).trans rfl, (blk_cell BK661.out 1).trans rfl, (blk_cell BK661.out 2).trans rfl, (blk_cell BK661.out 3).trans rfl, (blk_cell BK661.out 4).trans rfl⟩ (fun hHeld => ?_); refine with_tabW spec_l4Any.tab11 spec_l4Any.bits11 (fun HT_ HW_ => ?_)
     generalize w73.drew = w74 at HO_662004 BK651 BK661 HI0 HK HB hHeld ⊢
     refine pv HT_ 0 (some 40) #[T,F,F,F,F,F,F,F,F,F] ?_
     refine pv HT_ 2 (some 42) #[T,F,T,F,F,F,F,F,F,F] ?_
     refine pv HT_ 4 (some 44) #[T,F,T,F,T,F,F,F,F,F] ?_
     refine tk 1 (some 41) #[T,T,T,F,T,F,F,F,F,F] rfl rfl (take_ofW HT_.out HW_.out (by kernel_rfl)) hHeld (Or.inl ⟨by rfl, by rintro w' ⟨s0, s1, s2, s3, s4⟩; go_simp; with_reducible rfl⟩) ?_
     refine one_ (i := 3) (N := some 43) #[T,T,T,T,T,F,F,F,F,F] rfl rfl (one_of HT_.out (by kernel_rfl)) (by decide) (fun K hK => ?_)
     refine goes_ Try.func136 (by kernel_rfl) rfl #[.pointer (some ⟨g, 0, none⟩)] (by rfl) rfl rfl ga ?_
     with_reducible refine (spec_l2Draw.calls k1 g s0_0 t691 t692 qf1_0 qf1_1 qf1_2 w0 _ ?side1 ?side2 Qf1.out).mono ?_
     (case side1 => exact IsS135.q2 HI0.out NB0_651.out NB0_661.out)
     (case side2 => exact bq3 HB.out (IsS135.ge HI0.out) GE651.out GE661.out)
     rintro e w75 ⟨v694, rfl, ho0, hi, hb, hk⟩
     refine ⟨_, rfl, ?_⟩
     have n_ := ak7 (Kd.S_mono (Kd.S_told (Kd.S_oldK (IsS135.apartS (show IsS135 w0 _ g s0_0 t691 t692 from IsS135.q2 HI0.out NB0_651.out NB0_661.out) (kqS HO_662004.out) (by decide)) hk) (Kd.R_base ho0)) (fun _ h_ => h_.1)) (KeepBut.blk hk (zb BK651.out) NB651_0.out (by simp)) (KeepBut.blk hk (zb BK661.out) NB661_0.out (by simp)) (Kd.R_lower ho0 (keep_size (w := w) (g := g) (row := none) (kp2 HK.out GW651.out GW661.out))) (KeepBut.trans (kp2 HK.out GW651.out GW661.out) hk (.inl rfl)) hb hi
     clear HO_662004 BK651 BK661 HK HB HI0
     obtain ⟨HO_662004, BK651, BK661, HO695, HK, HB, HI0⟩ := n_
     (try clear hb hk hi ho0)
     obtain ⟨Ao76, co76, eo76⟩ := Kd.R_slice HO695.out
     (first | subst eo76 | (injection eo76 with f1_ f2_ f3_; have f4_ := f1_.symm; have f5_ := f3_.symm; clear f1_ f2_ f3_; subst f4_; subst f5_))
     refine hK.out _ _ ⟨(blk_cell BK661.out 0).trans rfl, (blk_cell BK661.out 1).trans rfl, (blk_cell BK661.out 2).trans rfl, (blk_cell BK661.out 3).trans rfl, (blk_cell BK661.out 4).trans rfl⟩ (fun hHeld => ?_)
     clear hK K
     refine norm_ (a' := ?_) ?_ ?_
     rotate_left
     · show Act.put _ (some 43) _ = _
       simp only [Act.put, List.setIfInBounds_toArray, List.set_cons_zero, List.set_cons_succ, i64_w, i32_w]
       rfl
     refine pv HT_ 5 (some 45) #[T,T,T,T,T,T,F,F,F,F] ?_
     refine one_ (i := 6) (N := some 46) #[T,T,T,T,T,T,T,F,F,F] rfl rfl (one_of HT_.out (by kernel_rfl)) (by decide) (fun K hK => ?_)
     refine value_ (w1 := ?_) (v := ?_) (by rfl) rfl ?_ ?_
     rotate_left 2
     · go_simp
       constructor
       · rfl
       rfl
     refine hK.out _ _ ⟨(blk_cell (blk_alloc BK661.out _) 0).trans rfl, (blk_cell (blk_alloc BK661.out _) 1).trans rfl, (blk_cell (blk_alloc BK661.out _) 2).trans rfl, (blk_cell (blk_alloc BK661.out _) 3).trans rfl, (blk_cell (blk_alloc BK661.out _) 4).trans rfl⟩ (fun hHeld => ?_)
     clear hK K
     refine norm_ (a' := ?_) ?_ ?_
     rotate_left
     · show Act.put _ (some 46) _ = _
       simp only [Act.put, List.setIfInBounds_toArray, List.set_cons_zero, List.set_cons_succ, i64_w, i32_w]
       rfl
     refine one_ (i := 7) (N := some 47) #[T,T,T,T,T,T,T,T,F,F] rfl rfl (one_of HT_.out (by kernel_rfl)) (by decide) (fun K hK => ?_)
     refine Kd.S_append_step k116 w.heap.size (by rfl) (.tmp 41) (.tmp 46) 56 116 (.agg #[(.slice none 0 0), (.int .i64 0), (.int .i64 0), (.string ⟨#[]⟩), (.slice none 0 0)]) 80 rfl Try.underlying56 info116 rfl (by decide) (by omega) (.slice Ao72 x662004_1.length co72) x662004_1 (⟨qf1_0, (⟨4, 0, (⟨#[116, 119, 101, 110, 116, 121, 45, 98, 121, 116, 101, 115, 45, 111, 102, 45, 116, 101, 120, 116]⟩ : ByteArray), ([] : List Int)⟩ : S29)⟩ : S116) [.slice Ao76 qf1_0.length co76, .int .i64 4, .int .i64 0, .string (⟨#[116, 119, 101, 110, 116, 121, 45, 98, 121, 116, 101, 115, 45, 111, 102, 45, 116, 101, 120, 116]⟩ : ByteArray), .slice none 0 0] (fun _ => True) (fun k_ => some k_ = (.slice Ao76 qf1_0.length co76 : Value).ownBlock) rfl rfl ?aP (fun k_ hk_ => ((Kd.R_mono (ok' := fun k_ => ((fun _ => True)) k_ ∧ some k_ ≠ (.slice Ao72 x662004_1.length co72 : Value).ownBlock) (Kd.R_apart' (HO695.out) (Kd.S_typed HO_662004.out) (by decide)) (fun k_ hk => ⟨trivial, hk.2⟩))).1 k_ hk_.symm) ?aF ?aO (Below.refl _ _) ?aS ?aL ?_
     (case aP => exact k116_mkM _ _ _ (⟨qf1_0, (⟨4, 0, (⟨#[116, 119, 101, 110, 116, 121, 45, 98, 121, 116, 101, 115, 45, 111, 102, 45, 116, 101, 120, 116]⟩ : ByteArray), ([] : List Int)⟩ : S29)⟩ : S116) (Kd.R_mono (Kd.R_tight rfl (Kd.R_mono (ok' := fun k_ => ((fun _ => True)) k_ ∧ some k_ ≠ (.slice Ao72 x662004_1.length co72 : Value).ownBlock) (Kd.R_apart' (HO695.out) (Kd.S_typed HO_662004.out) (by decide)) (fun k_ hk => ⟨trivial, hk.2⟩))) (fun _ h_ => h_)) (Kd.R_nil _ _ _ _ _))
     (case aF => exact (fun _ _ => trivial))
     (case aO => exact (by (with_reducible repeat (first | apply Kd.S_alloc | apply Kd.S_drewN | apply Kd.S_drew)); exact Kd.S_mono HO_662004.out (fun k_ hk => ⟨trivial, fun e_ => hk.2 e_⟩)))
     (case aS => exact (keep_size (w := w) (g := g) (row := none) (kp2 HK.out GW651.out GW661.out)))
     (case aL => have := LMc70.out; omega)
     intro v699 w77 ho hb hg hat
     rw [← Ny698.out] at ho
     have n_ := ak6 (blk_grown (g := gb651) (o := .cells #[.int .i64 0, .int .i64 0, .int .i64 0, .int .i64 0, .slice none 0 0] 58 (0, 0)) (zq BK651.out) hg (Kd.S_ne HO_662004.out BK651.out (by decide))) (blk_grown (g := gb661) (o := .cells #[.int .i64 qa1_0, .int .i64 qa1_1, .int .i64 qa1_2, .int .i64 qa1_3, .slice Ao72 x662004_1.length co72] 58 (0, 0)) (zq BK661.out) hg (Kd.S_ne HO_662004.out BK661.out (by decide))) (IsS135.grown (IsS135.q2 HI0.out NB0_651.out NB0_661.out) hg (IsS135.own_neS HI0.out HO_662004.out (by decide))) (below_weaken (bq3 HB.out (IsS135.ge HI0.out) GE651.out GE661.out) HL.out hb) (KeepBut.trans (kp2 HK.out GW651.out GW661.out) (KeepBut.of_grown hg g) (Kd.S_base2 HO_662004.out)) ho
     clear BK651 BK661 HI0 HB HK HO_662004 HO695
     obtain ⟨BK651, BK661, HI0, HB, HK, HO700⟩ := n_
     clear ho hb hg hat
     obtain ⟨Ao78, co78, eo78⟩ := Kd.S_slice HO700.out
     (first | subst eo78 | (injection eo78 with f1_ f2_ f3_; have f4_ := f1_.symm; have f5_ := f3_.symm; clear f1_ f2_ f3_; subst f4_; subst f5_))
     refine hK.out _ _ ⟨(blk_cell BK661.out 0).trans rfl, (blk_cell BK661.out 1).trans rfl, (blk_cell BK661.out 2).trans rfl, (blk_cell BK661.out 3).trans rfl, (blk_cell BK661.out 4).trans rfl⟩ (fun hHeld => ?_)
     clear hK K
     refine norm_ (a' := ?_) ?_ ?_
     rotate_left
     · show Act.put _ (some 47) _ = _
       simp only [Act.put, List.setIfInBounds_toArray, List.set_cons_zero, List.set_cons_succ, i64_w, i32_w]
       rfl
     refine pv HT_ 8 (some 48) #[T,T,T,T,T,T,T,T,T,F] ?_
     refine last_ (i := 9) (N := none) #[T,T,T,T,T,T,T,T,T,T] rfl rfl (one_of HT_.out (by kernel_rfl)) (by decide) (fun K hK => ?_)
     have hs79 : w77.cell? ⟨gb661, 4, none⟩ = some (.slice Ao72 x662004_1.length co72) := (blk_cell BK661.out 4).trans rfl
     have hfs79 := blk_frozen BK661.out 4
     have hns79_0 := NB651_661.out
     have hms79_0 := NB661_651.out
     refine skip_ (w1 := ?_) (by rfl) rfl ?_ ?_
     rotate_left
     · go_simp
       rfl
     refine hK.out _ _ ?_
     clear hK K
     refine done_ (done_of HT_.out (by kernel_rfl)) ?_
     try go_wp2
     go_roundg k1
     case measure => have := HK1.out; omega
     case rel => exact ⟨(qf1_1), (qf1_2), (y698), (.slice Ao78 y698.length co78), H', ⟨by have := HK1.out; omega⟩, ⟨by (with_reducible repeat (first | apply Kd.S_alloc | apply Kd.S_drewN | apply Kd.S_drew)); exact Kd.S_mono (Kd.S_far (p := ⟨gb661, 4, none⟩) (Kd.S_types HO700.out BK661.out (by decide)) (fun _ hk => hk.2) (.slice Ao78 y698.length co78)) (fun _ hk => trivial)⟩, ⟨by refine zr ?_; refine blk_far ?_ NB651_661.out _; refine zr ?_; exact BK651.out⟩, ⟨by refine zr ?_; refine blk_put (cs := #[.int .i64 qa1_0, .int .i64 qa1_1, .int .i64 qa1_2, .int .i64 qa1_3, .slice Ao72 x662004_1.length co72]) ?_ 4 _ rfl; refine zr ?_; exact BK661.out⟩, ⟨IsS135.q2 HI0.out NB0_651.out NB0_661.out⟩, ⟨kp2 HK.out GW651.out GW661.out⟩, ⟨bq3 HB.out (IsS135.ge HI0.out) GE651.out GE661.out⟩⟩
 rotate_right
 rotate_right
 rotate_right
 all_goals
  simp only [Option.some.injEq, Prod.mk.injEq] at H
  obtain ⟨rfl, rfl, rfl, rfl, rfl, rfl, rfl⟩ := H
  go_enter Try.func115, Try.ntmps115
  go_wp2_with (first | ((with_reducible refine gate_dst (N := 2) rfl ?_); refine bxe 2 #[.int .i64 0, .int .i64 0, .int .i64 0, .int .i64 0, .slice none 0 0] 58 ?_; intro gb651 hg w_ hbox hb; have n_ := ak8 (IsS135.below (IsS135.q0 HI0.out) hb) (KeepBut.trans (kp0 HK.out) (KeepBut.of_below hb g none) (.inl rfl)) (below_step (bq1 HB.out (IsS135.ge HI0.out)) hb) hbox ((by rw [hg]; exact (keep_size (w := w) (g := g) (row := none) (kp0 HK.out)) : w.heap.size ≤ gb651)) ((Nat.le_trans HW0.out (by rw [hg]; exact (keep_size (w := w) (g := g) (row := none) (kp0 HK.out)) : w.heap.size ≤ gb651) : w0.heap.size ≤ gb651)) ((by rw [hg]; exact Nat.ne_of_lt (IsS135.lt (show IsS135 w0 _ g s0_0 s0_1 s0_2 from IsS135.q0 HI0.out)) : g ≠ gb651)) ((by rw [hg]; exact Nat.ne_of_gt (IsS135.lt (show IsS135 w0 _ g s0_0 s0_1 s0_2 from IsS135.q0 HI0.out)) : gb651 ≠ g)); clear HI0 HK HB; obtain ⟨HI0, HK, HB, BK651, GW651, GE651, NB0_651, NB651_0⟩ := n_; clear hb hbox hg) | ((with_reducible refine gate_callee (f := 121) rfl ?_); refine gc (some 5) (spec_l4Draw.calls k g s0_0 s0_1 s0_2 qa1_0 qa1_1 qa1_2 qa1_3 qa1_4 qa1_5 qa1_6 w0 _ (IsS135.q1 HI0.out NB0_651.out) (bq2 HB.out (IsS135.ge HI0.out) GE651.out) Qa1.out) Try.func121 ?_; rintro e w_ ⟨v657, rfl, ho_, hi, hb, hk⟩; refine ⟨_, rfl, ?_⟩; have n_ := ak5 (KeepBut.blk hk (zb BK651.out) NB651_0.out (by simp)) (Kd.S_lower ho_ (keep_size (w := w) (g := g) (row := none) (kp1 HK.out GW651.out))) (KeepBut.trans (kp1 HK.out GW651.out) hk (.inl rfl)) hb hi; clear BK651 HK HB HI0; obtain ⟨BK651, HO658, HK, HB, HI0⟩ := n_; (try clear hb hk hi ho_)) | ((with_reducible refine gate_dst (N := 3) rfl ?_); refine bxe 3 #[.int .i64 0, .int .i64 0, .int .i64 0, .int .i64 0, .slice none 0 0] 58 ?_; intro gb661 hg w_ hbox hb; have n_ := ak12 (Kd.S_below (kqS HO658.out) hb) (IsS135.below (IsS135.q1 HI0.out NB0_651.out) hb) (kb BK651 hb) (KeepBut.trans (kp1 HK.out GW651.out) (KeepBut.of_below hb g none) (.inl rfl)) (below_step (bq2 HB.out (IsS135.ge HI0.out) GE651.out) hb) hbox ((by rw [hg]; exact (keep_size (w := w) (g := g) (row := none) (kp1 HK.out GW651.out)) : w.heap.size ≤ gb661)) ((Nat.le_trans HW0.out (by rw [hg]; exact (keep_size (w := w) (g := g) (row := none) (kp1 HK.out GW651.out)) : w.heap.size ≤ gb661) : w0.heap.size ≤ gb661)) (nL hg BK651) (nG hg BK651) ((by rw [hg]; exact Nat.ne_of_lt (IsS135.lt (show IsS135 w0 _ g s0_0 qa1_5 qa1_6 from IsS135.q1 HI0.out NB0_651.out)) : g ≠ gb661)) ((by rw [hg]; exact Nat.ne_of_gt (IsS135.lt (show IsS135 w0 _ g s0_0 qa1_5 qa1_6 from IsS135.q1 HI0.out NB0_651.out)) : gb661 ≠ g)); clear HO658 HI0 BK651 HK HB; obtain ⟨HO658, HI0, BK651, HK, HB, BK661, GW661, GE661, NB651_661, NB661_651, NB0_661, NB661_0⟩ := n_; clear hb hbox hg; have hNB661_651 := NB661_651.out; have hNB651_661 := NB651_661.out; have hNB661_0 := NB661_0.out; have hNB0_661 := NB0_661.out; obtain ⟨hcz_661_0, hcz_661_1, hcz_661_2, hcz_661_3, hcz_661_4, hfz_661_0, hfz_661_1, hfz_661_2, hfz_661_3, hfz_661_4⟩ := cl5 BK661.out; obtain ⟨Ao_658, co_658, eo_658⟩ := Kd.S_slice HO658.out; subst eo_658) | ((with_reducible refine gate_callee (f := 122) rfl ?_); (first | have := z0 | have := z1); refine gc (some 7) (spec_l1Below.calls g s0_0 qa1_5 qa1_6 12 qb1_0 qb1_1 qb1_2 w0 _ (IsS135.q2 HI0.out NB0_651.out NB0_661.out) (bq3 HB.out (IsS135.ge HI0.out) GE651.out GE661.out) Qb1.out) Try.func122 ?_; rintro e w_ ⟨rfl, hi, hb, hk⟩; refine ⟨_, rfl, ?_⟩; have n_ := ak6 (KeepBut.blk hk (g' := gb651) (o := .cells #[.int .i64 0, .int .i64 0, .int .i64 0, .int .i64 0, .slice none 0 0] 58 (0, 0)) (by refine zr ?_; refine blk_far ?_ NB651_661.out _; refine zr ?_; refine blk_far ?_ NB651_661.out _; refine zr ?_; refine blk_far ?_ NB651_661.out _; refine zr ?_; refine blk_far ?_ NB651_661.out _; refine zr ?_; refine blk_far ?_ NB651_661.out _; refine zr ?_; exact BK651.out) NB651_0.out (by simp)) (Kd.S_mono (Kd.S_keep (IsS135.apartS (show IsS135 w0 _ g s0_0 qa1_5 qa1_6 from IsS135.q2 HI0.out NB0_651.out NB0_661.out) (by (with_reducible repeat (first | apply Kd.S_alloc | apply Kd.S_drewN | apply Kd.S_drew)); exact (Kd.S_mono (Kd.S_far (p := ⟨gb661, 4, none⟩) (Kd.S_far (p := ⟨gb661, 3, none⟩) (Kd.S_far (p := ⟨gb661, 2, none⟩) (Kd.S_far (p := ⟨gb661, 1, none⟩) (Kd.S_far (p := ⟨gb661, 0, none⟩) (Kd.S_types HO658.out BK661.out (by decide)) (fun _ hk => hk.2) (.int .i64 qa1_0)) (fun _ hk => hk.2) (.int .i64 qa1_1)) (fun _ hk => hk.2) (.int .i64 qa1_2)) (fun _ hk => hk.2) (.int .i64 qa1_3)) (fun _ hk => hk.2) (.slice Ao_658 qa1_4.length co_658)) (fun _ h_ => h_.1))) (by decide)) hk (fun _ h => h.2)) (fun _ h => h.1)) (KeepBut.blk hk (g' := gb661) (o := .cells #[.int .i64 qa1_0, .int .i64 qa1_1, .int .i64 qa1_2, .int .i64 qa1_3, .slice Ao_658 qa1_4.length co_658] 58 (0, 0)) (by refine zr ?_; exact bp5 (zb BK661.out)) NB661_0.out (by simp)) (KeepBut.trans (kp2 HK.out GW651.out GW661.out) hk (.inl rfl)) hb hi; clear BK651 HO658 BK661 HK HB HI0; obtain ⟨BK651, HO658, BK661, HK, HB, HI0⟩ := n_; (try clear hb hk hi); obtain ⟨hcz_661_0, hcz_661_1, hcz_661_2, hcz_661_3, hcz_661_4, hfz_661_0, hfz_661_1, hfz_661_2, hfz_661_3, hfz_661_4⟩ := cl5 BK661.out; have hNB651_0 := NB651_0.out; have hNB0_651 := NB0_651.out; obtain ⟨hcz_651_0, hcz_651_1, hcz_651_2, hcz_651_3, hcz_651_4, hfz_651_0, hfz_651_1, hfz_651_2, hfz_651_3, hfz_651_4⟩ := cl5 BK651.out) | ((with_reducible refine gate_callee (f := 122) rfl ?_); have := z0; refine gc (some 11) (spec_l1Below.calls g s0_0 qb1_1 qb1_2 256 qb2_0 qb2_1 qb2_2 w0 _ (IsS135.q2 HI0.out NB0_651.out NB0_661.out) (bq3 HB.out (IsS135.ge HI0.out) GE651.out GE661.out) Qb2.out) Try.func122 ?_; rintro e w_ ⟨rfl, hi, hb, hk⟩; refine ⟨_, rfl, ?_⟩; have n_ := ak6 (KeepBut.blk hk (zb BK651.out) NB651_0.out (by simp)) (Kd.S_mono (Kd.S_keep (IsS135.apartS (show IsS135 w0 _ g s0_0 qb1_1 qb1_2 from IsS135.q2 HI0.out NB0_651.out NB0_661.out) (kqS HO658.out) (by decide)) hk (fun _ h => h.2)) (fun _ h => h.1)) (KeepBut.blk hk (zb BK661.out) NB661_0.out (by simp)) (KeepBut.trans (kp2 HK.out GW651.out GW661.out) hk (.inl rfl)) hb hi; clear BK651 HO658 BK661 HK HB HI0; obtain ⟨BK651, HO658, BK661, HK, HB, HI0⟩ := n_; (try clear hb hk hi); obtain ⟨hcz_661_0, hcz_661_1, hcz_661_2, hcz_661_3, hcz_661_4, hfz_661_0, hfz_661_1, hfz_661_2, hfz_661_3, hfz_661_4⟩ := cl5 BK661.out; have hNB651_0 := NB651_0.out; have hNB0_651 := NB0_651.out; obtain ⟨hcz_651_0, hcz_651_1, hcz_651_2, hcz_651_3, hcz_651_4, hfz_651_0, hfz_651_1, hfz_651_2, hfz_651_3, hfz_651_4⟩ := cl5 BK651.out) | ((with_reducible refine gate_dst (N := 16) rfl ?_); refine Kd.R_lit (Kd.int .i64) _ 3 ?hg (N := 16) ?hd (xs := ([(-1), 1, 1000, 1001] : List Int)) (inner := [.int .i64 (-1), .int .i64 1, .int .i64 1000, .int .i64 1001]) (ok := fun _ => True) (okp := fun _ => True) ?hr ?hp (fun _ hk => hk) trivial (Below.refl _ _) (Nat.le_refl _) (by simp) ?_; (case hd => rfl); (case hg => rfl); (case hr => exact gs); (case hp => exact (Reps.one (ri (-1)) (Reps.one (ri 1) (Reps.one (ri 1000) (Reps.one (ri 1001) (Reps.none _ _)))))); intro v669 w_ ho_ hb hg_ hnew_; clear hg_ hnew_; (first | rw [← Ny668.out] at ho_ | (simp only [Int.reduceToNat] at ho_; rw [← Ny668.out] at ho_)); have n_ := ak7 (Kd.S_elder' (kqS HO658.out) (Kd.R_base ho_) hb) (Kd.R_lower ho_ (keep_size (w := w) (g := g) (row := none) (kp2 HK.out GW651.out GW661.out))) (IsS135.below (IsS135.q2 HI0.out NB0_651.out NB0_661.out) hb) (kb BK651 hb) (kb BK661 hb) (KeepBut.trans (kp2 HK.out GW651.out GW661.out) (KeepBut.of_below hb g none) (.inl rfl)) (below_step (bq3 HB.out (IsS135.ge HI0.out) GE651.out GE661.out) hb); clear HO658 HI0 BK651 BK661 HK HB; obtain ⟨HO658, HO670, HI0, BK651, BK661, HK, HB⟩ := n_; clear hb ho_; obtain ⟨Ao_670, co_670, eo_670⟩ := Kd.R_slice HO670.out; subst eo_670) | ((with_reducible refine gate_callee (f := 86) rfl ?_); refine gc (some 17) (spec_l1Int.calls g s0_0 qb1_1 qb1_2 _ _ y668 qc1_0 qc1_1 qc1_2 w0 _ (IsS135.q2 HI0.out NB0_651.out NB0_661.out) (bq3 HB.out (IsS135.ge HI0.out) GE651.out GE661.out) (cq (Kd.R_reads' HO670.out).2.2) ((Kd.R_reads' HO670.out).2.1) (far_slice (IsS135.own_ne HI0.out HO670.out (by decide))) Qc1.out) Try.func86 ?_; rintro e w_ ⟨rfl, hi, hb, hk⟩; refine ⟨_, rfl, ?_⟩; have n_ := ak7 (KeepBut.blk hk (zb BK651.out) NB651_0.out (by simp)) (Kd.S_mono (Kd.S_keep (IsS135.apartS (show IsS135 w0 _ g s0_0 qb1_1 qb1_2 from IsS135.q2 HI0.out NB0_651.out NB0_661.out) (kqS HO658.out) (by decide)) hk (fun _ h => h.2)) (fun _ h => h.1)) (KeepBut.blk hk (zb BK661.out) NB661_0.out (by simp)) (Kd.R_mono (Kd.R_keep (IsS135.apart (show IsS135 w0 _ g s0_0 qb1_1 qb1_2 from IsS135.q2 HI0.out NB0_651.out NB0_661.out) (kqR HO670.out) (by decide)) hk (fun _ h => h.2)) (fun _ h => h.1)) (KeepBut.trans (kp2 HK.out GW651.out GW661.out) hk (.inl rfl)) hb hi; clear BK651 HO658 BK661 HO670 HK HB HI0; obtain ⟨BK651, HO658, BK661, HO670, HK, HB, HI0⟩ := n_; (try clear hb hk hi); obtain ⟨hcz_661_0, hcz_661_1, hcz_661_2, hcz_661_3, hcz_661_4, hfz_661_0, hfz_661_1, hfz_661_2, hfz_661_3, hfz_661_4⟩ := cl5 BK661.out; have hNB651_0 := NB651_0.out; have hNB0_651 := NB0_651.out; obtain ⟨hcz_651_0, hcz_651_1, hcz_651_2, hcz_651_3, hcz_651_4, hfz_651_0, hfz_651_1, hfz_651_2, hfz_651_3, hfz_651_4⟩ := cl5 BK651.out))
  first
  | refine bodyPost_ret (results_cell_row rfl _ _ gb651 58 #[.int .i64 qb2_0, .int .i64 qa1_1, .int .i64 qa1_2, .int .i64 qa1_3, .slice Ao_658 qa1_4.length co_658] (0, 0) _ rfl (by refine zr ?_; refine blk_put (cs := #[.int .i64 qb2_0, .int .i64 qa1_1, .int .i64 qa1_2, .int .i64 qa1_3, .slice none 0 0]) ?_ 4 _ rfl; refine zr ?_; refine blk_put (cs := #[.int .i64 qb2_0, .int .i64 qa1_1, .int .i64 qa1_2, .int .i64 0, .slice none 0 0]) ?_ 3 _ rfl; refine zr ?_; refine blk_put (cs := #[.int .i64 qb2_0, .int .i64 qa1_1, .int .i64 0, .int .i64 0, .slice none 0 0]) ?_ 2 _ rfl; refine zr ?_; refine blk_put (cs := #[.int .i64 qb2_0, .int .i64 0, .int .i64 0, .int .i64 0, .slice none 0 0]) ?_ 1 _ rfl; refine zr ?_; refine blk_put (cs := #[.int .i64 0, .int .i64 0, .int .i64 0, .int .i64 0, .slice none 0 0]) ?_ 0 _ rfl; refine zr ?_; refine blk_far ?_ NB651_661.out _; refine zr ?_; exact BK651.out) Try.underlying58 rfl (by kernel_rfl)) rfl ?_
    exact ⟨_, rq, by (with_reducible repeat (first | apply Kd.S_alloc | apply Kd.S_drewN | apply Kd.S_drew)); exact Kd.S_mono (Kd.S_far (p := ⟨gb651, 4, none⟩) (Kd.S_far (p := ⟨gb651, 3, none⟩) (Kd.S_far (p := ⟨gb651, 2, none⟩) (Kd.S_far (p := ⟨gb651, 1, none⟩) (Kd.S_far (p := ⟨gb651, 0, none⟩) (Kd.S_far (p := ⟨gb661, 0, none⟩) (Kd.S_types (Kd.S_types HO658.out BK661.out (by decide)) BK651.out (by decide)) (fun _ hk => hk.1.2) (.int .i64 qb2_0)) (fun _ hk => hk.2) (.int .i64 qb2_0)) (fun _ hk => hk.2) (.int .i64 qa1_1)) (fun _ hk => hk.2) (.int .i64 qa1_2)) (fun _ hk => hk.2) (.int .i64 qa1_3)) (fun _ hk => hk.2) (.slice Ao_658 qa1_4.length co_658)) (fun _ hk => trivial), IsS135.q2 HI0.out NB0_651.out NB0_661.out, bq3 HB.out (IsS135.ge HI0.out) GE651.out GE661.out, kp2 HK.out GW651.out GW661.out⟩
  | refine bodyPost_ret (results_cell_row rfl _ _ gb651 58 #[.int .i64 qa1_0, .int .i64 qa1_1, .int .i64 qc1_0, .int .i64 qa1_3, .slice Ao_658 qa1_4.length co_658] (0, 0) _ rfl (by refine zr ?_; refine blk_put (cs := #[.int .i64 qa1_0, .int .i64 qa1_1, .int .i64 qc1_0, .int .i64 qa1_3, .slice none 0 0]) ?_ 4 _ rfl; refine zr ?_; refine blk_put (cs := #[.int .i64 qa1_0, .int .i64 qa1_1, .int .i64 qc1_0, .int .i64 0, .slice none 0 0]) ?_ 3 _ rfl; refine zr ?_; refine blk_put (cs := #[.int .i64 qa1_0, .int .i64 qa1_1, .int .i64 0, .int .i64 0, .slice none 0 0]) ?_ 2 _ rfl; refine zr ?_; refine blk_put (cs := #[.int .i64 qa1_0, .int .i64 0, .int .i64 0, .int .i64 0, .slice none 0 0]) ?_ 1 _ rfl; refine zr ?_; refine blk_put (cs := #[.int .i64 0, .int .i64 0, .int .i64 0, .int .i64 0, .slice none 0 0]) ?_ 0 _ rfl; refine zr ?_; refine blk_far ?_ NB651_661.out _; refine zr ?_; exact BK651.out) Try.underlying58 rfl (by kernel_rfl)) rfl ?_
    exact ⟨_, rq, by (with_reducible repeat (first | apply Kd.S_alloc | apply Kd.S_drewN | apply Kd.S_drew)); exact Kd.S_mono (Kd.S_far (p := ⟨gb651, 4, none⟩) (Kd.S_far (p := ⟨gb651, 3, none⟩) (Kd.S_far (p := ⟨gb651, 2, none⟩) (Kd.S_far (p := ⟨gb651, 1, none⟩) (Kd.S_far (p := ⟨gb651, 0, none⟩) (Kd.S_far (p := ⟨gb661, 2, none⟩) (Kd.S_types (Kd.S_types HO658.out BK661.out (by decide)) BK651.out (by decide)) (fun _ hk => hk.1.2) (.int .i64 qc1_0)) (fun _ hk => hk.2) (.int .i64 qa1_0)) (fun _ hk => hk.2) (.int .i64 qa1_1)) (fun _ hk => hk.2) (.int .i64 qc1_0)) (fun _ hk => hk.2) (.int .i64 qa1_3)) (fun _ hk => hk.2) (.slice Ao_658 qa1_4.length co_658)) (fun _ hk => trivial), IsS135.q2 HI0.out NB0_651.out NB0_661.out, bq3 HB.out (IsS135.ge HI0.out) GE651.out GE661.out, kp2 HK.out GW651.out GW661.out⟩
  | refine bodyPost_ret (results_cell_row rfl _ _ gb651 58 #[.int .i64 qa1_0, .int .i64 qa1_1, .int .i64 qa1_2, .int .i64 qa1_3, .slice Ao_658 qa1_4.length co_658] (0, 0) _ rfl (by refine zr ?_; exact bp5 (zb BK651.out)) Try.underlying58 rfl (by kernel_rfl)) rfl ?_
    exact ⟨_, rq, by (with_reducible repeat (first | apply Kd.S_alloc | apply Kd.S_drewN | apply Kd.S_drew)); exact Kd.S_mono (Kd.S_far (p := ⟨gb651, 4, none⟩) (Kd.S_far (p := ⟨gb651, 3, none⟩) (Kd.S_far (p := ⟨gb651, 2, none⟩) (Kd.S_far (p := ⟨gb651, 1, none⟩) (Kd.S_far (p := ⟨gb651, 0, none⟩) (Kd.S_types HO658.out BK651.out (by decide)) (fun _ hk => hk.2) (.int .i64 qa1_0)) (fun _ hk => hk.2) (.int .i64 qa1_1)) (fun _ hk => hk.2) (.int .i64 qa1_2)) (fun _ hk => hk.2) (.int .i64 qa1_3)) (fun _ hk => hk.2) (.slice Ao_658 qa1_4.length co_658)) (fun _ hk => trivial), IsS135.q2 HI0.out NB0_651.out NB0_661.out, bq3 HB.out (IsS135.ge HI0.out) GE651.out GE661.out, kp2 HK.out GW651.out GW661.out⟩
end Go.Proofs.Ythhnfmbfgplelaa.XFnMsgs
