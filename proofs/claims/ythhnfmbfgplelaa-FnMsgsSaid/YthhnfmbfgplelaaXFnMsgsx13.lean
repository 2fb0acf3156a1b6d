/- The functions that one law reaches, as Lean functions, with their walks: printed by a program of this seat (wip/tools) out of the translation. -/
import Derived.Test.YthhnfmbfgplelaaXFnMsgsx0
import Derived.Test.YthhnfmbfgplelaaXFnMsgsx1
import Derived.Test.YthhnfmbfgplelaaXFnMsgsx11
import Derived.Test.YthhnfmbfgplelaaXFnMsgsx12
namespace Go.Proofs.Ythhnfmbfgplelaa.XFnMsgs
open Go.RowKit Go.Proofs.YthhnfmbfgplelaaW.PrintWords Go.Proofs.YthhnfmbfgplelaaW.PrintLast Go.Proofs.YthhnfmbfgplelaaW.PrintMore
attribute [local go_sem] max2_int min2_int max_two min_two max_three min_three max_four min_four   -- for this text's walks alone
set_option linter.unusedVariables false
set_option linter.unusedSimpArgs false

/-! ### spec_l4Draw: function 121 -/
mutual
def spec_l4Draw.j0 : Nat → Bool → List Int → Int → Int → Int → Int → Int → Int → Option (Int × Int × Int × Int × (List (S116)) × Int × Int)
 | 0, _, _, _, _, _, _, _, _ => none
 | k + 1, x19, x1000, x1001, x1002, x626000, x626001, x626002, x626003 => if x19 = true then ((spec_l1Below.f x1000 x1001 x1002 4).bind fun bt626 => ((spec_l1Below.f x1000 bt626.2.1 bt626.2.2 5).bind fun bt629 => (spec_l4Draw.j1 k x1000 bt629.2.1 bt629.2.2 x626000 x626001 bt626.1 bt629.1))) else (spec_l4Draw.j1 k x1000 x1001 x1002 x626000 x626001 x626002 x626003)
def spec_l4Draw.j1 : Nat → List Int → Int → Int → Int → Int → Int → Int → Option (Int × Int × Int × Int × (List (S116)) × Int × Int)
 | 0, _, _, _, _, _, _, _ => none
 | k + 1, x1000, x1001, x1002, x626000, x626001, x626002, x626003 => (spec_l1Below.f x1000 x1001 x1002 4).bind fun bt632 => (spec_l4Draw.l0 k bt632.1 x1000 bt632.2.1 bt632.2.2 x626000 x626001 x626002 x626003 ([] : List (S116)))
def spec_l4Draw.l0 : Nat → Int → List Int → Int → Int → Int → Int → Int → Int → List (S116) → Option (Int × Int × Int × Int × (List (S116)) × Int × Int)
 | 0, _, _, _, _, _, _, _, _, _ => none
 | k + 1, x4, x1000, x1001, x1002, x626000, x626001, x626002, x626003, x626004 => if x4 > 0 then ((spec_l2Draw.f k x1000 x1001 x1002).bind fun bt635 => ((spec_l3Draw.f k x1000 bt635.2.1 bt635.2.2).bind fun bt640 => (if x626004.length < 1759218604441 then (spec_l4Draw.l0 k (wrap64 (x4 - 1)) x1000 bt640.2.2.2.2.1 bt640.2.2.2.2.2 x626000 x626001 x626002 x626003 (x626004 ++ [(⟨bt635.1, (⟨bt640.1, bt640.2.1, bt640.2.2.1, bt640.2.2.2.1⟩ : S29)⟩ : S116)])) else (none)))) else (some (x626000, x626001, x626002, x626003, x626004, x1001, x1002))
end
def spec_l4Draw.f (k : Nat) (s0_0 : List Int) (s0_1 : Int) (s0_2 : Int) : Option (Int × Int × Int × Int × (List (S116)) × Int × Int) := (spec_l1Int.f s0_0 s0_1 s0_2 (([160, 161, 162, 163, 165] : List Int))).bind fun bt618 => ((spec_l1Num.f s0_0 bt618.2.1 bt618.2.2).bind fun bt621 => ((spec_l1Clip.f bt621.1).bind fun t624 => (if bt618.1 = 162 then (spec_l4Draw.j0 k true s0_0 bt621.2.1 bt621.2.2 bt618.1 t624 0 0) else (spec_l4Draw.j0 k (bt618.1 == 165) s0_0 bt621.2.1 bt621.2.2 bt618.1 t624 0 0))))
def spec_l4Draw.T8 : Bool × List (List Nat × List Nat) := (true, [([], []), ([0], [0]), ([], []), ([2], [2]), ([], []), ([4, 3], [4]), ([3, 5], [3, 5]), ([6], [6]), ([1, 7, 5], [1, 7]), ([0, 1, 2, 3, 4, 5, 6, 7, 8], []), ([9, 8, 8, 0, 1, 2, 3, 4, 5, 6, 7, 8], [8, 9])])
def spec_l4Draw.B8 : List Nat := [0, 1, 0, 4, 0, 28, 60, 124, 255, 511, 1023]
theorem spec_l4Draw.tab8 : rtab .any (opsOf Try.f121 8) = spec_l4Draw.T8 := by kernel_rfl
theorem spec_l4Draw.bits8 : waitsOk spec_l4Draw.T8.2 spec_l4Draw.B8 = true := by kernel_rfl
set_option maxHeartbeats 8000000 in
set_option maxRecDepth 100000 in
theorem spec_l4Draw.calls (k : Nat) (g : Nat) (s0_0 : List Int) (s0_1 : Int) (s0_2 : Int) (r1 : Int) (r2 : Int) (r3 : Int) (r4 : Int) (r5 : List (S116)) (r6 : Int) (r7 : Int) (w0 w : World) (hI : IsS135 w0 w g s0_0 s0_1 s0_2) (hB : Below w0.heap.size w0 w) (h : spec_l4Draw.f k s0_0 s0_1 s0_2 = some (r1, r2, r3, r4, r5, r6, r7)) :
 Calls Try.prog 121 #[.pointer (some ⟨g, 0, none⟩)] w fun e w' => ∃ v4_ : Value, e = .returned (.agg #[.int .i64 r1, .int .i64 r2, .int .i64 r3, .int .i64 r4, v4_]) ∧ Kd.S k116 116 w' w.heap.size (fun _ => True) v4_ r5 ∧ IsS135 w0 w' g s0_0 r6 r7 ∧ Below w0.heap.size w0 w' ∧ KeepBut w w' g none := by
 have hu58 := Try.underlying58
 have hu116 := Try.underlying116
 have HI0 := am hI
 have HK := am (KeepBut.refl w g none)
 have HL := am hB.size
 clear hI
 have HW0 := am hB.size
 have HB := am hB
 clear hB
 have H := h
 clear h
 unfold spec_l4Draw.f at H
 generalize hy615 : ((([160, 161, 162, 163, 165] : List Int)) : List Int) = y615 at H
 have Ny615 := am hy615.symm
 clear hy615
 replace H := be H
 obtain ⟨⟨qa1_0, qa1_1, qa1_2⟩, Qa1, H⟩ := H
 try dsimp only at H
 replace H := be H
 obtain ⟨⟨qb1_0, qb1_1, qb1_2⟩, Qb1, H⟩ := H
 try dsimp only at H
 replace H := be H
 obtain ⟨qc1_0, Qc1, H⟩ := H
 have HC5 := am H
 clear H
 go_enter Try.func121, Try.ntmps121
 go_upto_region 2 with (first | ((with_reducible refine gate_dst (N := 2) rfl ?_); refine bxe 2 #[.int .i64 0, .int .i64 0, .int .i64 0, .int .i64 0, .slice none 0 0] 58 ?_; intro gb614 hg w6 hbox hb; have n_ := ak8 (IsS135.below (IsS135.q0 HI0.out) hb) (KeepBut.trans (kp0 HK.out) (KeepBut.of_below hb g none) (.inl rfl)) (below_step (bq1 HB.out (IsS135.ge HI0.out)) hb) hbox ((by rw [hg]; exact (keep_size (w := w) (g := g) (row := none) (kp0 HK.out)) : w.heap.size ≤ gb614)) ((Nat.le_trans HW0.out (by rw [hg]; exact (keep_size (w := w) (g := g) (row := none) (kp0 HK.out)) : w.heap.size ≤ gb614) : w0.heap.size ≤ gb614)) ((by rw [hg]; exact Nat.ne_of_lt (IsS135.lt (show IsS135 w0 _ g s0_0 s0_1 s0_2 from IsS135.q0 HI0.out)) : g ≠ gb614)) ((by rw [hg]; exact Nat.ne_of_gt (IsS135.lt (show IsS135 w0 _ g s0_0 s0_1 s0_2 from IsS135.q0 HI0.out)) : gb614 ≠ g)); clear HI0 HK HB; obtain ⟨HI0, HK, HB, BK614, GW614, GE614, NB0_614, NB614_0⟩ := n_; clear hb hbox hg) | ((with_reducible refine gate_dst (N := 6) rfl ?_); refine Kd.R_lit (Kd.int .i64) _ 3 ?hg (N := 6) ?hd (xs := ([160, 161, 162, 163, 165] : List Int)) (inner := [.int .i64 160, .int .i64 161, .int .i64 162, .int .i64 163, .int .i64 165]) (ok := fun _ => True) (okp := fun _ => True) ?hr ?hp (fun _ hk => hk) trivial (Below.refl _ _) (Nat.le_refl _) (by simp) ?_; (case hd => rfl); (case hg => rfl); (case hr => exact gs); (case hp => exact (Reps.one (ri 160) (Reps.one (ri 161) (Reps.one (ri 162) (Reps.one (ri 163) (Reps.one (ri 165) (Reps.none _ _))))))); intro v616 w7 ho8 hb hg_ hnew_; clear hg_ hnew_; (first | rw [← Ny615.out] at ho8 | (simp only [Int.reduceToNat] at ho8; rw [← Ny615.out] at ho8)); have n_ := ak5 (Kd.R_lower ho8 (keep_size (w := w) (g := g) (row := none) (kp1 HK.out GW614.out))) (IsS135.below (IsS135.q1 HI0.out NB0_614.out) hb) (kb BK614 hb) (KeepBut.trans (kp1 HK.out GW614.out) (KeepBut.of_below hb g none) (.inl rfl)) (below_step (bq2 HB.out (IsS135.ge HI0.out) GE614.out) hb); clear HI0 BK614 HK HB; obtain ⟨HO617, HI0, BK614, HK, HB⟩ := n_; clear hb ho8; obtain ⟨Ao9, co9, eo9⟩ := Kd.R_slice HO617.out; subst eo9) | ((with_reducible refine gate_callee (f := 86) rfl ?_); refine gc (some 7) (spec_l1Int.calls g s0_0 s0_1 s0_2 _ _ y615 qa1_0 qa1_1 qa1_2 w0 _ (IsS135.q1 HI0.out NB0_614.out) (bq2 HB.out (IsS135.ge HI0.out) GE614.out) (cq (Kd.R_reads' HO617.out).2.2) ((Kd.R_reads' HO617.out).2.1) (far_slice (IsS135.own_ne HI0.out HO617.out (by decide))) Qa1.out) Try.func86 ?_; rintro e w10 ⟨rfl, hi, hb, hk⟩; refine ⟨_, rfl, ?_⟩; have n_ := ak5 (KeepBut.blk hk (zb BK614.out) NB614_0.out (by simp)) (Kd.R_mono (Kd.R_keep (IsS135.apart (show IsS135 w0 _ g s0_0 s0_1 s0_2 from IsS135.q1 HI0.out NB0_614.out) (kqR HO617.out) (by decide)) hk (fun _ h => h.2)) (fun _ h => h.1)) (KeepBut.trans (kp1 HK.out GW614.out) hk (.inl rfl)) hb hi; clear BK614 HO617 HK HB HI0; obtain ⟨BK614, HO617, HK, HB, HI0⟩ := n_; (try clear hb hk hi)) | ((with_reducible refine gate_callee (f := 133) rfl ?_); refine gc (some 9) (spec_l1Num.calls g s0_0 qa1_1 qa1_2 qb1_0 qb1_1 qb1_2 w0 _ (IsS135.q1 HI0.out NB0_614.out) (bq2 HB.out (IsS135.ge HI0.out) GE614.out) Qb1.out) Try.func133 ?_; rintro e w11 ⟨rfl, hi, hb, hk⟩; refine ⟨_, rfl, ?_⟩; have n_ := ak5 (KeepBut.blk hk (zb BK614.out) NB614_0.out (by simp)) (Kd.R_mono (Kd.R_keep (IsS135.apart (show IsS135 w0 _ g s0_0 qa1_1 qa1_2 from IsS135.q1 HI0.out NB0_614.out) (kqR HO617.out) (by decide)) hk (fun _ h => h.2)) (fun _ h => h.1)) (KeepBut.trans (kp1 HK.out GW614.out) hk (.inl rfl)) hb hi; clear BK614 HO617 HK HB HI0; obtain ⟨BK614, HO617, HK, HB, HI0⟩ := n_; (try clear hb hk hi)) | ((with_reducible refine gate_callee (f := 109) rfl ?_); refine gc (some 10) (spec_l1Clip.calls qb1_0 qc1_0 _ Qc1.out) Try.func109 ?_; rintro e w' ⟨rfl, ⟨nd, rfl⟩⟩; refine ⟨_, rfl, ?_⟩; (try (rw [drewN_self w11]; generalize hq_ : World.drewN w11 _ = w11; have n_ : Aside0 (Kd.R (Kd.int .i64) 3 w11 w.heap.size (fun _ => True) (.slice Ao9 y615.length co9) y615) ∧ Aside0 (w11.heap[gb614]? = some (.cells #[.int .i64 0, .int .i64 0, .int .i64 0, .int .i64 0, .slice none 0 0] 58 (0, 0))) ∧ Aside0 (IsS135 w0 w11 g s0_0 qb1_1 qb1_2) ∧ Aside0 (KeepBut w w11 g none) ∧ Aside0 (Below w0.heap.size w0 w11) := ⟨⟨by rw [← hq_]; exact (kqR HO617.out)⟩, ⟨by rw [← hq_]; exact (zq BK614.out)⟩, ⟨by rw [← hq_]; exact (IsS135.q1 HI0.out NB0_614.out)⟩, ⟨by rw [← hq_]; exact (kp1 HK.out GW614.out)⟩, ⟨by rw [← hq_]; exact (bq2 HB.out (IsS135.ge HI0.out) GE614.out)⟩⟩; clear HO617 BK614 HI0 HK HB hq_; obtain ⟨HO617, BK614, HI0, HK, HB⟩ := n_))) | ((with_reducible refine gate_dst (N := 3) rfl ?_); refine bxe 3 #[.int .i64 0, .int .i64 0, .int .i64 0, .int .i64 0, .slice none 0 0] 58 ?_; intro gb625 hg w12 hbox hb; have n_ := ak12 (rb HO617 hb) (IsS135.below (IsS135.q1 HI0.out NB0_614.out) hb) (kb BK614 hb) (KeepBut.trans (kp1 HK.out GW614.out) (KeepBut.of_below hb g none) (.inl rfl)) (below_step (bq2 HB.out (IsS135.ge HI0.out) GE614.out) hb) hbox ((by rw [hg]; exact (keep_size (w := w) (g := g) (row := none) (kp1 HK.out GW614.out)) : w.heap.size ≤ gb625)) ((Nat.le_trans HW0.out (by rw [hg]; exact (keep_size (w := w) (g := g) (row := none) (kp1 HK.out GW614.out)) : w.heap.size ≤ gb625) : w0.heap.size ≤ gb625)) (nL hg BK614) (nG hg BK614) ((by rw [hg]; exact Nat.ne_of_lt (IsS135.lt (show IsS135 w0 _ g s0_0 qb1_1 qb1_2 from IsS135.q1 HI0.out NB0_614.out)) : g ≠ gb625)) ((by rw [hg]; exact Nat.ne_of_gt (IsS135.lt (show IsS135 w0 _ g s0_0 qb1_1 qb1_2 from IsS135.q1 HI0.out NB0_614.out)) : gb625 ≠ g)); clear HO617 HI0 BK614 HK HB; obtain ⟨HO617, HI0, BK614, HK, HB, BK625, GW625, GE625, NB614_625, NB625_614, NB0_625, NB625_0⟩ := n_; clear hb hbox hg; have hnb13 := NB625_614.out; have hnc13 := NB614_625.out; have hnb14 := NB625_0.out; have hnc14 := NB0_625.out; obtain ⟨hcz15_0, hcz15_1, hcz15_2, hcz15_3, hcz15_4, hfz15_0, hfz15_1, hfz15_2, hfz15_3, hfz15_4⟩ := cl5 BK625.out))
 (try simp only [Act.put, List.setIfInBounds_toArray, List.set_cons_zero, List.set_cons_succ])
 go_cut [19] (fun v19 wc => ∃ (kq : Nat) (x19_4 : Bool), v19 = .bool x19_4 ∧ Aside0 (spec_l4Draw.j0 kq x19_4 s0_0 qb1_1 qb1_2 qa1_0 qc1_0 0 0 = some (r1, r2, r3, r4, r5, r6, r7)) ∧ Aside0 (kq ≤ k) ∧ Aside0 (wc.heap[gb614]? = some (.cells #[.int .i64 0, .int .i64 0, .int .i64 0, .int .i64 0, (.slice none 0 0)] 58 (0, 0))) ∧ Aside0 (wc.heap[gb625]? = some (.cells #[.int .i64 qa1_0, .int .i64 qc1_0, .int .i64 0, .int .i64 0, (.slice none 0 0)] 58 (0, 0))) ∧ Aside0 (IsS135 w0 wc g s0_0 qb1_1 qb1_2) ∧ Aside0 (KeepBut w wc g none) ∧ Aside0 (Below w0.heap.size w0 wc))
 case first =>
  have H := HC5.out
  clear HC5
  replace H := iq' H
  rcases H with ⟨c16, c16b0, c16b1, H⟩ | ⟨-, c16b0, c16b1, H⟩
  · (first | rw [c16b0] | (simp only [i64_w, i32_w]; rw [c16b0]) | skip)
    have H' := am H
    clear H
    have hnb20 := NB625_614.out
    have hnc20 := NB614_625.out
    have hnb21 := NB625_0.out
    have hnc21 := NB0_625.out
    obtain ⟨hcz22_0, hcz22_1, hcz22_2, hcz22_3, hcz22_4, hfz22_0, hfz22_1, hfz22_2, hfz22_3, hfz22_4⟩ := cl5 BK625.out
    go_wp2
    go_meet
    case rel => exact ⟨_, ((qa1_0 == 165)), sq, H', ⟨by first | omega | exact Nat.le_refl _⟩, ⟨by refine zr ?_; refine blk_far ?_ NB614_625.out _; refine zr ?_; refine blk_far ?_ NB614_625.out _; refine zr ?_; refine blk_far ?_ NB614_625.out _; refine zr ?_; refine blk_far ?_ NB614_625.out _; refine zr ?_; refine blk_far ?_ NB614_625.out _; refine zr ?_; exact BK614.out⟩, ⟨by refine zr ?_; exact bp5 (zb BK625.out)⟩, ⟨IsS135.q2 HI0.out NB0_614.out NB0_625.out⟩, ⟨kp2 HK.out GW614.out GW625.out⟩, ⟨bq3 HB.out (IsS135.ge HI0.out) GE614.out GE625.out⟩⟩
  (first | rw [c16b0] | (simp only [i64_w, i32_w]; rw [c16b0]) | skip)
  have H' := am H
  clear H
  have hnb17 := NB625_614.out
  have hnc17 := NB614_625.out
  have hnb18 := NB625_0.out
  have hnc18 := NB0_625.out
  obtain ⟨hcz19_0, hcz19_1, hcz19_2, hcz19_3, hcz19_4, hfz19_0, hfz19_1, hfz19_2, hfz19_3, hfz19_4⟩ := cl5 BK625.out
  go_wp2
  go_meet
  case rel => exact ⟨_, (true), sq, H', ⟨by first | omega | exact Nat.le_refl _⟩, ⟨by refine zr ?_; refine blk_far ?_ NB614_625.out _; refine zr ?_; refine blk_far ?_ NB614_625.out _; refine zr ?_; refine blk_far ?_ NB614_625.out _; refine zr ?_; refine blk_far ?_ NB614_625.out _; refine zr ?_; refine blk_far ?_ NB614_625.out _; refine zr ?_; exact BK614.out⟩, ⟨by refine zr ?_; exact bp5 (zb BK625.out)⟩, ⟨IsS135.q2 HI0.out NB0_614.out NB0_625.out⟩, ⟨kp2 HK.out GW614.out GW625.out⟩, ⟨bq3 HB.out (IsS135.ge HI0.out) GE614.out GE625.out⟩⟩
 case rest =>
  clear HC5
  try clear c1
  try clear c2
  try clear p2
  try clear c8
  try clear c10
  try clear c12
  try clear c13
  try clear c14
  try clear c16
  try clear c16b0
  try clear c16b1
  try clear c17
  try clear c18
  try clear c20
  try clear c21
  try clear hcz15_0
  try clear hcz15_1
  try clear hcz15_2
  try clear hcz15_3
  try clear hcz15_4
  try clear hcz19_0
  try clear hcz19_1
  try clear hcz19_2
  try clear hcz19_3
  try clear hcz19_4
  try clear hcz22_0
  try clear hcz22_1
  try clear hcz22_2
  try clear hcz22_3
  try clear hcz22_4
  try clear hfz15_0
  try clear hfz15_1
  try clear hfz15_2
  try clear hfz15_3
  try clear hfz15_4
  try clear hfz19_0
  try clear hfz19_1
  try clear hfz19_2
  try clear hfz19_3
  try clear hfz19_4
  try clear hfz22_0
  try clear hfz22_1
  try clear hfz22_2
  try clear hfz22_3
  try clear hfz22_4
  obtain ⟨kq, x19_4, rfl, HA, HJ4, BK614, BK625, HI0, HK, HB⟩ := hcut
  cases kq with
  | zero => exact absurd HA.out (by simp [spec_l4Draw.j0])
  | succ kj4 =>
   have H := HA.out
   clear HA
   simp only [spec_l4Draw.j0] at H
   have HC23 := am H
   clear H
   go_upto_if 19 with (fail)
   go_cut [] (fun wc => ∃ (kq : Nat) (x1001_22 : Int) (x1002_22 : Int) (x626002_22 : Int) (x626003_22 : Int), Aside0 (spec_l4Draw.j1 kq s0_0 x1001_22 x1002_22 qa1_0 qc1_0 x626002_22 x626003_22 = some (r1, r2, r3, r4, r5, r6, r7)) ∧ Aside0 (kq ≤ kj4) ∧ Aside0 (wc.heap[gb614]? = some (.cells #[.int .i64 0, .int .i64 0, .int .i64 0, .int .i64 0, (.slice none 0 0)] 58 (0, 0))) ∧ Aside0 (wc.heap[gb625]? = some (.cells #[.int .i64 qa1_0, .int .i64 qc1_0, .int .i64 x626002_22, .int .i64 x626003_22, (.slice none 0 0)] 58 (0, 0))) ∧ Aside0 (IsS135 w0 wc g s0_0 x1001_22 x1002_22) ∧ Aside0 (KeepBut w wc g none) ∧ Aside0 (Below w0.heap.size w0 wc))
   case first =>
    have H := HC23.out
    clear HC23
    rcases (Decidable.em (x19_4 = true)).symm with c24 | c24
    · replace c24 := Bool.eq_false_iff.mpr c24
      subst c24
      replace H : (spec_l4Draw.j1 kj4 s0_0 qb1_1 qb1_2 qa1_0 qc1_0 0 0) = some (r1, r2, r3, r4, r5, r6, r7) := by rw [if_neg (show ¬ (false = true) by decide)] at H; exact H
      have H' := am H
      clear H
      go_wp2
      go_meet
      case rel => exact ⟨_, (qb1_1), (qb1_2), (0), (0), H', ⟨by have := HJ4.out; first | omega | exact Nat.le_refl _⟩, ⟨zq BK614.out⟩, ⟨zq BK625.out⟩, ⟨IsS135.q2 HI0.out NB0_614.out NB0_625.out⟩, ⟨kp2 HK.out GW614.out GW625.out⟩, ⟨bq3 HB.out (IsS135.ge HI0.out) GE614.out GE625.out⟩⟩
    subst c24
    replace H : ((spec_l1Below.f s0_0 qb1_1 qb1_2 4).bind fun bt626 => ((spec_l1Below.f s0_0 bt626.2.1 bt626.2.2 5).bind fun bt629 => (spec_l4Draw.j1 kj4 s0_0 bt629.2.1 bt629.2.2 qa1_0 qc1_0 bt626.1 bt629.1))) = some (r1, r2, r3, r4, r5, r6, r7) := by rw [if_pos rfl] at H; exact H
    replace H := be H
    obtain ⟨⟨qd1_0, qd1_1, qd1_2⟩, Qd1, H⟩ := H
    try dsimp only at H
    replace H := be H
    obtain ⟨⟨qd2_0, qd2_1, qd2_2⟩, Qd2, H⟩ := H
    try dsimp only at H
    have H' := am H
    clear H
    go_wp2_with (first | ((with_reducible refine gate_callee (f := 122) rfl ?_); refine gc (some 21) (spec_l1Below.calls g s0_0 qb1_1 qb1_2 4 qd1_0 qd1_1 qd1_2 w0 _ (IsS135.q2 HI0.out NB0_614.out NB0_625.out) (bq3 HB.out (IsS135.ge HI0.out) GE614.out GE625.out) Qd1.out) Try.func122 ?_; rintro e w27 ⟨rfl, hi, hb, hk⟩; refine ⟨_, rfl, ?_⟩; have n_ := ak5 (KeepBut.blk hk (zb BK614.out) NB614_0.out (by simp)) (KeepBut.blk hk (zb BK625.out) NB625_0.out (by simp)) (KeepBut.trans (kp2 HK.out GW614.out GW625.out) hk (.inl rfl)) hb hi; clear BK614 BK625 HK HB HI0; obtain ⟨BK614, BK625, HK, HB, HI0⟩ := n_; (try clear hb hk hi); have hnb28 := NB625_614.out; have hnc28 := NB614_625.out; have hnb29 := NB625_0.out; have hnc29 := NB0_625.out; obtain ⟨hcz30_0, hcz30_1, hcz30_2, hcz30_3, hcz30_4, hfz30_0, hfz30_1, hfz30_2, hfz30_3, hfz30_4⟩ := cl5 BK625.out) | ((with_reducible refine gate_callee (f := 122) rfl ?_); refine gc (some 24) (spec_l1Below.calls g s0_0 qd1_1 qd1_2 5 qd2_0 qd2_1 qd2_2 w0 _ (IsS135.q2 HI0.out NB0_614.out NB0_625.out) (bq3 HB.out (IsS135.ge HI0.out) GE614.out GE625.out) Qd2.out) Try.func122 ?_; rintro e w31 ⟨rfl, hi, hb, hk⟩; refine ⟨_, rfl, ?_⟩; have n_ := ak5 (KeepBut.blk hk (g' := gb614) (o := .cells #[.int .i64 0, .int .i64 0, .int .i64 0, .int .i64 0, .slice none 0 0] 58 (0, 0)) (by refine zr ?_; refine blk_far ?_ NB614_625.out _; refine zr ?_; exact BK614.out) NB614_0.out (by simp)) (KeepBut.blk hk (g' := gb625) (o := .cells #[.int .i64 qa1_0, .int .i64 qc1_0, .int .i64 qd1_0, .int .i64 0, .slice none 0 0] 58 (0, 0)) (by refine zr ?_; refine blk_put (cs := #[.int .i64 qa1_0, .int .i64 qc1_0, .int .i64 0, .int .i64 0, .slice none 0 0]) ?_ 2 _ rfl; refine zr ?_; exact BK625.out) NB625_0.out (by simp)) (KeepBut.trans (kp2 HK.out GW614.out GW625.out) hk (.inl rfl)) hb hi; clear BK614 BK625 HK HB HI0; obtain ⟨BK614, BK625, HK, HB, HI0⟩ := n_; (try clear hb hk hi); obtain ⟨hcz32_0, hcz32_1, hcz32_2, hcz32_3, hcz32_4, hfz32_0, hfz32_1, hfz32_2, hfz32_3, hfz32_4⟩ := cl5 BK625.out))
    go_meet
    case rel => exact ⟨_, (qd2_1), (qd2_2), (qd1_0), (qd2_0), H', ⟨by have := HJ4.out; first | omega | exact Nat.le_refl _⟩, ⟨by refine zr ?_; refine blk_far ?_ NB614_625.out _; refine zr ?_; exact BK614.out⟩, ⟨by refine zr ?_; refine blk_put (cs := #[.int .i64 qa1_0, .int .i64 qc1_0, .int .i64 qd1_0, .int .i64 0, .slice none 0 0]) ?_ 3 _ rfl; refine zr ?_; exact BK625.out⟩, ⟨IsS135.q2 HI0.out NB0_614.out NB0_625.out⟩, ⟨kp2 HK.out GW614.out GW625.out⟩, ⟨bq3 HB.out (IsS135.ge HI0.out) GE614.out GE625.out⟩⟩
   case rest =>
    clear HC23
    try clear c1
    try clear c2
    try clear p2
    try clear c8
    try clear c10
    try clear c12
    try clear c13
    try clear c14
    try clear c16
    try clear c16b0
    try clear c16b1
    try clear c17
    try clear c18
    try clear c20
    try clear c21
    try clear c24
    try clear c28
    try clear c29
    try clear hcz15_0
    try clear hcz15_1
    try clear hcz15_2
    try clear hcz15_3
    try clear hcz15_4
    try clear hcz19_0
    try clear hcz19_1
    try clear hcz19_2
    try clear hcz19_3
    try clear hcz19_4
    try clear hcz22_0
    try clear hcz22_1
    try clear hcz22_2
    try clear hcz22_3
    try clear hcz22_4
    try clear hcz30_0
    try clear hcz30_1
    try clear hcz30_2
    try clear hcz30_3
    try clear hcz30_4
    try clear hcz32_0
    try clear hcz32_1
    try clear hcz32_2
    try clear hcz32_3
    try clear hcz32_4
    try clear hfz15_0
    try clear hfz15_1
    try clear hfz15_2
    try clear hfz15_3
    try clear hfz15_4
    try clear hfz19_0
    try clear hfz19_1
    try clear hfz19_2
    try clear hfz19_3
    try clear hfz19_4
    try clear hfz22_0
    try clear hfz22_1
    try clear hfz22_2
    try clear hfz22_3
    try clear hfz22_4
    try clear hfz30_0
    try clear hfz30_1
    try clear hfz30_2
    try clear hfz30_3
    try clear hfz30_4
    try clear hfz32_0
    try clear hfz32_1
    try clear hfz32_2
    try clear hfz32_3
    try clear hfz32_4
    try clear p2
    obtain ⟨kq, x1001_22, x1002_22, x626002_22, x626003_22, HA, HJ22, BK614, BK625, HI0, HK, HB⟩ := hcut
    cases kq with
    | zero => exact absurd HA.out (by simp [spec_l4Draw.j1])
    | succ kj22 =>
     have H := HA.out
     clear HA
     simp only [spec_l4Draw.j1] at H
     replace H := be H
     obtain ⟨⟨t632, t633, t634⟩, A33, H⟩ := H
     try dsimp only at H
     have H' := am H
     clear H
     go_wp2_with (first | ((with_reducible refine gate_callee (f := 122) rfl ?_); refine gc (some 27) (spec_l1Below.calls g s0_0 x1001_22 x1002_22 4 t632 t633 t634 w0 _ (IsS135.q2 HI0.out NB0_614.out NB0_625.out) (bq3 HB.out (IsS135.ge HI0.out) GE614.out GE625.out) A33.out) Try.func122 ?_; rintro e w34 ⟨rfl, hi, hb, hk⟩; refine ⟨_, rfl, ?_⟩; have n_ := ak5 (KeepBut.blk hk (zb BK614.out) NB614_0.out (by simp)) (KeepBut.blk hk (zb BK625.out) NB625_0.out (by simp)) (KeepBut.trans (kp2 HK.out GW614.out GW625.out) hk (.inl rfl)) hb hi; clear BK614 BK625 HK HB HI0; obtain ⟨BK614, BK625, HK, HB, HI0⟩ := n_; (try clear hb hk hi)))
     go_loopg [4] kj22 (fun kq v4 w' => ∃ (x4_3 : Int) (x1001_3 : Int) (x1002_3 : Int) (x626004_3 : List (S116)) (u626004 : Value), v4 = .int .i64 x4_3 ∧ Aside0 (spec_l4Draw.l0 kq x4_3 s0_0 x1001_3 x1002_3 qa1_0 qc1_0 x626002_22 x626003_22 x626004_3 = some (r1, r2, r3, r4, r5, r6, r7)) ∧ Aside0 (kq ≤ kj22) ∧ Aside0 (Kd.S k116 116 w' w.heap.size (fun _ => True) u626004 x626004_3) ∧ Aside0 (w'.heap[gb614]? = some (.cells #[.int .i64 0, .int .i64 0, .int .i64 0, .int .i64 0, (.slice none 0 0)] 58 (0, 0))) ∧ Aside0 (w'.heap[gb625]? = some (.cells #[.int .i64 qa1_0, .int .i64 qc1_0, .int .i64 x626002_22, .int .i64 x626003_22, u626004] 58 (0, 0))) ∧ Aside0 (IsS135 w0 w' g s0_0 x1001_3 x1002_3) ∧ Aside0 (KeepBut w w' g none) ∧ Aside0 (Below w0.heap.size w0 w'))
     case atStart => exact ⟨(t632), (t633), (t634), (([] : List (S116))), (.slice none 0 0), sq, H', ⟨Nat.le_refl _⟩, ⟨by first | exact Kd.S_nil _ _ _ _ _ | exact Kd.N_nil _ _ _ _ _ | exact Kd.V_nil _ _ _ _ _ | exact Kd.Q_nil _ _ _ _ _ | exact Kd.R_nil _ _ _ _ _⟩, ⟨zq BK614.out⟩, ⟨zq BK625.out⟩, ⟨IsS135.q2 HI0.out NB0_614.out NB0_625.out⟩, ⟨kp2 HK.out GW614.out GW625.out⟩, ⟨bq3 HB.out (IsS135.ge HI0.out) GE614.out GE625.out⟩⟩
     case round =>
      clear H'
      try clear c1
      try clear c2
      try clear p2
      try clear c8
      try clear c10
      try clear c12
      try clear c13
      try clear c14
      try clear c16
      try clear c16b0
      try clear c16b1
      try clear c17
      try clear c18
      try clear c20
      try clear c21
      try clear c24
      try clear c28
      try clear c29
      try clear hcz15_0
      try clear hcz15_1
      try clear hcz15_2
      try clear hcz15_3
      try clear hcz15_4
      try clear hcz19_0
      try clear hcz19_1
      try clear hcz19_2
      try clear hcz19_3
      try clear hcz19_4
      try clear hcz22_0
      try clear hcz22_1
      try clear hcz22_2
      try clear hcz22_3
      try clear hcz22_4
      try clear hcz30_0
      try clear hcz30_1
      try clear hcz30_2
      try clear hcz30_3
      try clear hcz30_4
      try clear hcz32_0
      try clear hcz32_1
      try clear hcz32_2
      try clear hcz32_3
      try clear hcz32_4
      try clear hfz15_0
      try clear hfz15_1
      try clear hfz15_2
      try clear hfz15_3
      try clear hfz15_4
      try clear hfz19_0
      try clear hfz19_1
      try clear hfz19_2
      try clear hfz19_3
      try clear hfz19_4
      try clear hfz22_0
      try clear hfz22_1
      try clear hfz22_2
      try clear hfz22_3
      try clear hfz22_4
      try clear hfz30_0
      try clear hfz30_1
      try clear hfz30_2
      try clear hfz30_3
      try clear hfz30_4
      try clear hfz32_0
      try clear hfz32_1
      try clear hfz32_2
      try clear hfz32_3
      try clear hfz32_4
      try clear p2
      obtain ⟨x4_3, x1001_3, x1002_3, x626004_3, u626004, rfl, HA, HK3, HO_626004, BK614, BK625, HI0, HK, HB⟩ := hrel
      cases gk with
      | zero => exact absurd HA.out (by simp [spec_l4Draw.l0])
      | succ k3 =>
       have H := HA.out
       clear HA
       simp only [spec_l4Draw.l0] at H
       replace H := ig' H
       rcases H with ⟨-, c35b0, H⟩ | ⟨-, c35b0, H⟩
       · simp only [Option.some.injEq, Prod.mk.injEq] at H
         obtain ⟨rfl, rfl, rfl, rfl, rfl, rfl, rfl⟩ := H
         have hnb47 := NB625_614.out
         have hnc47 := NB614_625.out
         have hnb48 := NB625_0.out
         have hnc48 := NB0_625.out
         obtain ⟨hcz49_0, hcz49_1, hcz49_2, hcz49_3, hcz49_4, hfz49_0, hfz49_1, hfz49_2, hfz49_3, hfz49_4⟩ := cl5 BK625.out
         have hnb50 := NB614_0.out
         have hnc50 := NB0_614.out
         obtain ⟨hcz51_0, hcz51_1, hcz51_2, hcz51_3, hcz51_4, hfz51_0, hfz51_1, hfz51_2, hfz51_3, hfz51_4⟩ := cl5 BK614.out
         obtain ⟨Ao52, co52, eo52⟩ := Kd.S_slice HO_626004.out
         subst eo52
         go_wp2
         refine bodyPost_ret (results_cell_row rfl _ _ gb614 58 #[.int .i64 qa1_0, .int .i64 qc1_0, .int .i64 x626002_22, .int .i64 x626003_22, .slice Ao52 x626004_3.length co52] (0, 0) _ rfl (by refine zr ?_; exact bp5 (zb BK614.out)) Try.underlying58 rfl (by kernel_rfl)) rfl ?_
         exact ⟨_, rq, by (with_reducible repeat (first | apply Kd.S_alloc | apply Kd.S_drewN | apply Kd.S_drew)); exact Kd.S_mono (Kd.S_far (p := ⟨gb614, 4, none⟩) (Kd.S_far (p := ⟨gb614, 3, none⟩) (Kd.S_far (p := ⟨gb614, 2, none⟩) (Kd.S_far (p := ⟨gb614, 1, none⟩) (Kd.S_far (p := ⟨gb614, 0, none⟩) (Kd.S_types HO_626004.out BK614.out (by decide)) (fun _ hk => hk.2) (.int .i64 qa1_0)) (fun _ hk => hk.2) (.int .i64 qc1_0)) (fun _ hk => hk.2) (.int .i64 x626002_22)) (fun _ hk => hk.2) (.int .i64 x626003_22)) (fun _ hk => hk.2) (.slice Ao52 x626004_3.length co52)) (fun _ hk => trivial), IsS135.q2 HI0.out NB0_614.out NB0_625.out, bq3 HB.out (IsS135.ge HI0.out) GE614.out GE625.out, kp2 HK.out GW614.out GW625.out⟩
       replace H := be H
       obtain ⟨⟨t635, t638, t639⟩, A36, H⟩ := H
       try dsimp only at H
       replace H := be H
       obtain ⟨⟨qe1_0, qe1_1, qe1_2, qe1_3, qe1_4, qe1_5⟩, Qe1, H⟩ := H
       try dsimp only at H
       replace H := nq H
       obtain ⟨c38, H⟩ := H
       have LMc38 := am c38
       clear c38
       generalize hy648 : ((x626004_3 ++ [(⟨t635, (⟨qe1_0, qe1_1, qe1_2, qe1_3⟩ : S29)⟩ : S116)]) : List (S116)) = y648 at H
       have Ny648 := am hy648.symm
       clear hy648
       have H' := am H
       clear H
       try go_wp2
       have n_ := ak6 (Kd.S_drew HO_626004.out) (blk_drew BK614.out) (blk_drew BK625.out) (IsS135.drew HI0.out) (keep_drew HK.out) (below_drew1 HB.out)
       clear HO_626004 BK614 BK625 HI0 HK HB
       obtain ⟨HO_626004, BK614, BK625, HI0, HK, HB⟩ := n_
       refine start_ (n := 11) (S := fun w' => w'.cell? ⟨gb625, 0, none⟩ = some (.int .i64 qa1_0) ∧ w'.cell? ⟨gb625, 1, none⟩ = some (.int .i64 qc1_0) ∧ w'.cell? ⟨gb625, 2, none⟩ = some (.int .i64 x626002_22) ∧ w'.cell? ⟨gb625, 3, none⟩ = some (.int .i64 x626003_22) ∧ w'.cell? ⟨gb625, 4, none⟩ = some (u626004)) (ds := [10]) #[F,F,F,F,F,F,F,F,F,F,F] (by kernel_rfl) rfl rfl ⟨(blk_cell BK625.out 0).trans rfl, (blk_cell BK625.out 1).trans rfl, (blk_cell BK625.out 2).trans rfl, (blk_cell BK625.out 3).trans rfl, (blk_cell BK625.out 4).trans rfl⟩ (fun hHeld => ?_); refine with_tabW spec_l4Draw.tab8 spec_l4Draw.bits8 (fun HT_ HW_ => ?_)
       generalize wr.drew = w39 at HO_626004 BK614 BK625 HI0 HK HB hHeld ⊢
       refine pv HT_ 0 (some 32) #[T,F,F,F,F,F,F,F,F,F,F] ?_
       refine pv HT_ 2 (some 34) #[T,F,T,F,F,F,F,F,F,F,F] ?_
       refine pv HT_ 4 (some 36) #[T,F,T,F,T,F,F,F,F,F,F] ?_
       refine tk 1 (some 33) #[T,T,T,F,T,F,F,F,F,F,F] rfl rfl (take_ofW HT_.out HW_.out (by kernel_rfl)) hHeld (Or.inl ⟨by rfl, by rintro w' ⟨s0, s1, s2, s3, s4⟩; go_simp; with_reducible rfl⟩) ?_
       refine one_ (i := 3) (N := some 35) #[T,T,T,T,T,F,F,F,F,F,F] rfl rfl (one_of HT_.out (by kernel_rfl)) (by decide) (fun K hK => ?_)
       refine goes_ Try.func136 (by kernel_rfl) rfl #[.pointer (some ⟨g, 0, none⟩)] (by rfl) rfl rfl ga ?_
       with_reducible refine (spec_l2Draw.calls k3 g s0_0 x1001_3 x1002_3 t635 t638 t639 w0 _ ?side1 ?side2 A36.out).mono ?_
       (case side1 => exact IsS135.q2 HI0.out NB0_614.out NB0_625.out)
       (case side2 => exact bq3 HB.out (IsS135.ge HI0.out) GE614.out GE625.out)
       rintro e w40 ⟨v636, rfl, ho0, hi, hb, hk⟩
       refine ⟨_, rfl, ?_⟩
       have n_ := ak7 (Kd.S_mono (Kd.S_told (Kd.S_oldK (IsS135.apartS (show IsS135 w0 _ g s0_0 x1001_3 x1002_3 from IsS135.q2 HI0.out NB0_614.out NB0_625.out) (kqS HO_626004.out) (by decide)) hk) (Kd.R_base ho0)) (fun _ h_ => h_.1)) (KeepBut.blk hk (zb BK614.out) NB614_0.out (by simp)) (KeepBut.blk hk (zb BK625.out) NB625_0.out (by simp)) (Kd.R_lower ho0 (keep_size (w := w) (g := g) (row := none) (kp2 HK.out GW614.out GW625.out))) (KeepBut.trans (kp2 HK.out GW614.out GW625.out) hk (.inl rfl)) hb hi
       clear HO_626004 BK614 BK625 HK HB HI0
       obtain ⟨HO_626004, BK614, BK625, HO637, HK, HB, HI0⟩ := n_
       (try clear hb hk hi ho0)
       refine hK.out _ _ ⟨(blk_cell BK625.out 0).trans rfl, (blk_cell BK625.out 1).trans rfl, (blk_cell BK625.out 2).trans rfl, (blk_cell BK625.out 3).trans rfl, (blk_cell BK625.out 4).trans rfl⟩ (fun hHeld => ?_)
       clear hK K
       refine norm_ (a' := ?_) ?_ ?_
       rotate_left
       · show Act.put _ (some 35) _ = _
         simp only [Act.put, List.setIfInBounds_toArray, List.set_cons_zero, List.set_cons_succ, i64_w, i32_w]
         rfl
       refine one_ (i := 5) (N := some 37) #[T,T,T,T,T,T,F,F,F,F,F] rfl rfl (one_of HT_.out (by kernel_rfl)) (by decide) (fun K hK => ?_)
       refine goes_ Try.func105 (by kernel_rfl) rfl #[.pointer (some ⟨g, 0, none⟩)] (by rfl) rfl rfl ga ?_
       with_reducible refine (spec_l3Draw.calls k3 g s0_0 t638 t639 qe1_0 qe1_1 qe1_2 qe1_3 qe1_4 qe1_5 w0 _ ?side1 ?side2 Qe1.out).mono ?_
       (case side1 => exact IsS135.q2 HI0.out NB0_614.out NB0_625.out)
       (case side2 => exact bq3 HB.out (IsS135.ge HI0.out) GE614.out GE625.out)
       rintro e w41 ⟨v644, rfl, ho0, hi, hb, hk⟩
       refine ⟨_, rfl, ?_⟩
       have n_ := ak8 (Kd.S_mono (Kd.S_told (Kd.S_oldK (IsS135.apartS (show IsS135 w0 _ g s0_0 t638 t639 from IsS135.q2 HI0.out NB0_614.out NB0_625.out) (kqS HO_626004.out) (by decide)) hk) (Kd.R_base ho0)) (fun _ h_ => h_.1)) (KeepBut.blk hk (zb BK614.out) NB614_0.out (by simp)) (KeepBut.blk hk (zb BK625.out) NB625_0.out (by simp)) (Kd.R_mono (Kd.R_told (Kd.R_oldK (IsS135.apart (show IsS135 w0 _ g s0_0 t638 t639 from IsS135.q2 HI0.out NB0_614.out NB0_625.out) (kqR HO637.out) (by decide)) hk) (Kd.R_base ho0)) (fun _ h_ => h_.1)) (Kd.R_lower (Kd.R_new' ho0 (Kd.R_lt (kqR HO637.out))) (keep_size (w := w) (g := g) (row := none) (kp2 HK.out GW614.out GW625.out))) (KeepBut.trans (kp2 HK.out GW614.out GW625.out) hk (.inl rfl)) hb hi
       clear HO_626004 BK614 BK625 HO637 HK HB HI0
       obtain ⟨HO_626004, BK614, BK625, HO637, HO645, HK, HB, HI0⟩ := n_
       (try clear hb hk hi ho0)
       obtain ⟨Ao42, co42, eo42⟩ := Kd.R_slice HO645.out
       (first | subst eo42 | (injection eo42 with f1_ f2_ f3_; have f4_ := f1_.symm; have f5_ := f3_.symm; clear f1_ f2_ f3_; subst f4_; subst f5_))
       obtain ⟨Ao43, co43, eo43⟩ := Kd.R_slice HO637.out
       (first | subst eo43 | (injection eo43 with f1_ f2_ f3_; have f4_ := f1_.symm; have f5_ := f3_.symm; clear f1_ f2_ f3_; subst f4_; subst f5_))
       refine hK.out _ _ ⟨(blk_cell BK625.out 0).trans rfl, (blk_cell BK625.out 1).trans rfl, (blk_cell BK625.out 2).trans rfl, (blk_cell BK625.out 3).trans rfl, (blk_cell BK625.out 4).trans rfl⟩ (fun hHeld => ?_)
       clear hK K
       refine norm_ (a' := ?_) ?_ ?_
       rotate_left
       · show Act.put _ (some 37) _ = _
         simp only [Act.put, List.setIfInBounds_toArray, List.set_cons_zero, List.set_cons_succ, i64_w, i32_w]
         rfl
       refine pv HT_ 6 (some 38) #[T,T,T,T,T,T,T,F,F,F,F] ?_
       refine one_ (i := 7) (N := some 39) #[T,T,T,T,T,T,T,T,F,F,F] rfl rfl (one_of HT_.out (by kernel_rfl)) (by decide) (fun K hK => ?_)
       refine value_ (w1 := ?_) (v := ?_) (by rfl) rfl ?_ ?_
       rotate_left 2
       · go_simp
         constructor
         · rfl
         rfl
       refine hK.out _ _ ⟨(blk_cell (blk_alloc BK625.out _) 0).trans rfl, (blk_cell (blk_alloc BK625.out _) 1).trans rfl, (blk_cell (blk_alloc BK625.out _) 2).trans rfl, (blk_cell (blk_alloc BK625.out _) 3).trans rfl, (blk_cell (blk_alloc BK625.out _) 4).trans rfl⟩ (fun hHeld => ?_)
       clear hK K
       refine norm_ (a' := ?_) ?_ ?_
       rotate_left
       · show Act.put _ (some 39) _ = _
         simp only [Act.put, List.setIfInBounds_toArray, List.set_cons_zero, List.set_cons_succ, i64_w, i32_w]
         rfl
       refine one_ (i := 8) (N := some 40) #[T,T,T,T,T,T,T,T,T,F,F] rfl rfl (one_of HT_.out (by kernel_rfl)) (by decide) (fun K hK => ?_)
       refine Kd.S_append_step k116 w.heap.size (by rfl) (.tmp 33) (.tmp 39) 56 116 (.agg #[(.slice none 0 0), (.int .i64 0), (.int .i64 0), (.string ⟨#[]⟩), (.slice none 0 0)]) 80 rfl Try.underlying56 info116 rfl (by decide) (by omega) u626004 x626004_3 (⟨t635, (⟨qe1_0, qe1_1, qe1_2, qe1_3⟩ : S29)⟩ : S116) [.slice Ao43 t635.length co43, .int .i64 qe1_0, .int .i64 qe1_1, .string qe1_2, .slice Ao42 qe1_3.length co42] (fun _ => True) (fun k_ => some k_ = (.slice Ao43 t635.length co43 : Value).ownBlock ∨ some k_ = (.slice Ao42 qe1_3.length co42 : Value).ownBlock) rfl rfl ?aP (fun k_ hk_ => hk_.elim (fun h_ => ((Kd.R_mono (ok' := fun k_ => ((fun _ => True)) k_ ∧ some k_ ≠ (u626004 : Value).ownBlock) (Kd.R_apart' (HO637.out) (Kd.S_typed HO_626004.out) (by decide)) (fun k_ hk => ⟨trivial, hk.2⟩))).1 k_ h_.symm) (fun h_ => ((Kd.R_mono (ok' := fun k_ => ((fun _ => True)) k_ ∧ some k_ ≠ (u626004 : Value).ownBlock) (Kd.R_apart' (HO645.out) (Kd.S_typed HO_626004.out) (by decide)) (fun k_ hk => ⟨trivial, hk.2⟩))).1 k_ h_.symm)) ?aF ?aO (Below.refl _ _) ?aS ?aL ?_
       (case aP => exact k116_mkM _ _ _ (⟨t635, (⟨qe1_0, qe1_1, qe1_2, qe1_3⟩ : S29)⟩ : S116) (Kd.R_mono (Kd.R_tight rfl (Kd.R_mono (ok' := fun k_ => ((fun _ => True)) k_ ∧ some k_ ≠ (u626004 : Value).ownBlock) (Kd.R_apart' (HO637.out) (Kd.S_typed HO_626004.out) (by decide)) (fun k_ hk => ⟨trivial, hk.2⟩))) (fun _ h_ => Or.inl h_)) (Kd.R_mono (Kd.R_tight rfl (Kd.R_mono (ok' := fun k_ => ((fun _ => True)) k_ ∧ some k_ ≠ (u626004 : Value).ownBlock) (Kd.R_apart' (HO645.out) (Kd.S_typed HO_626004.out) (by decide)) (fun k_ hk => ⟨trivial, hk.2⟩))) (fun _ h_ => Or.inr (h_))))
       (case aF => exact (fun _ _ => trivial))
       (case aO => exact (by (with_reducible repeat (first | apply Kd.S_alloc | apply Kd.S_drewN | apply Kd.S_drew)); exact Kd.S_mono HO_626004.out (fun k_ hk => ⟨trivial, fun e_ => e_.elim (fun h_ => hk.1.2 h_) (fun h_ => hk.2 h_)⟩)))
       (case aS => exact (keep_size (w := w) (g := g) (row := none) (kp2 HK.out GW614.out GW625.out)))
       (case aL => have := LMc38.out; omega)
       intro v649 w44 ho hb hg hat
       rw [← Ny648.out] at ho
       have n_ := ak6 (blk_grown (g := gb614) (o := .cells #[.int .i64 0, .int .i64 0, .int .i64 0, .int .i64 0, .slice none 0 0] 58 (0, 0)) (zq BK614.out) hg (Kd.S_ne HO_626004.out BK614.out (by decide))) (blk_grown (g := gb625) (o := .cells #[.int .i64 qa1_0, .int .i64 qc1_0, .int .i64 x626002_22, .int .i64 x626003_22, u626004] 58 (0, 0)) (zq BK625.out) hg (Kd.S_ne HO_626004.out BK625.out (by decide))) (IsS135.grown (IsS135.q2 HI0.out NB0_614.out NB0_625.out) hg (IsS135.own_neS HI0.out HO_626004.out (by decide))) (below_weaken (bq3 HB.out (IsS135.ge HI0.out) GE614.out GE625.out) HL.out hb) (KeepBut.trans (kp2 HK.out GW614.out GW625.out) (KeepBut.of_grown hg g) (Kd.S_base2 HO_626004.out)) ho
       clear BK614 BK625 HI0 HB HK HO_626004 HO637 HO645
       obtain ⟨BK614, BK625, HI0, HB, HK, HO650⟩ := n_
       clear ho hb hg hat
       obtain ⟨Ao45, co45, eo45⟩ := Kd.S_slice HO650.out
       (first | subst eo45 | (injection eo45 with f1_ f2_ f3_; have f4_ := f1_.symm; have f5_ := f3_.symm; clear f1_ f2_ f3_; subst f4_; subst f5_))
       refine hK.out _ _ ⟨(blk_cell BK625.out 0).trans rfl, (blk_cell BK625.out 1).trans rfl, (blk_cell BK625.out 2).trans rfl, (blk_cell BK625.out 3).trans rfl, (blk_cell BK625.out 4).trans rfl⟩ (fun hHeld => ?_)
       clear hK K
       refine norm_ (a' := ?_) ?_ ?_
       rotate_left
       · show Act.put _ (some 40) _ = _
         simp only [Act.put, List.setIfInBounds_toArray, List.set_cons_zero, List.set_cons_succ, i64_w, i32_w]
         rfl
       refine pv HT_ 9 (some 41) #[T,T,T,T,T,T,T,T,T,T,F] ?_
       refine last_ (i := 10) (N := none) #[T,T,T,T,T,T,T,T,T,T,T] rfl rfl (one_of HT_.out (by kernel_rfl)) (by decide) (fun K hK => ?_)
       have hs46 : w44.cell? ⟨gb625, 4, none⟩ = some (u626004) := (blk_cell BK625.out 4).trans rfl
       have hfs46 := blk_frozen BK625.out 4
       have hns46_0 := NB614_625.out
       have hms46_0 := NB625_614.out
       refine skip_ (w1 := ?_) (by rfl) rfl ?_ ?_
       rotate_left
       · go_simp
         rfl
       refine hK.out _ _ ?_
       clear hK K
       refine done_ (done_of HT_.out (by kernel_rfl)) ?_
       try go_wp2
       go_roundg k3
       case measure => have := HJ4.out; have := HJ22.out; have := HK3.out; omega
       case rel => exact ⟨(wrap64 (x4_3 - 1)), (qe1_4), (qe1_5), (y648), (.slice Ao45 y648.length co45), sq, H', ⟨by have := HJ4.out; have := HJ22.out; have := HK3.out; omega⟩, ⟨by (with_reducible repeat (first | apply Kd.S_alloc | apply Kd.S_drewN | apply Kd.S_drew)); exact Kd.S_mono (Kd.S_far (p := ⟨gb625, 4, none⟩) (Kd.S_types HO650.out BK625.out (by decide)) (fun _ hk => hk.2) (.slice Ao45 y648.length co45)) (fun _ hk => trivial)⟩, ⟨by refine zr ?_; refine blk_far ?_ NB614_625.out _; refine zr ?_; exact BK614.out⟩, ⟨by refine zr ?_; refine blk_put (cs := #[.int .i64 qa1_0, .int .i64 qc1_0, .int .i64 x626002_22, .int .i64 x626003_22, u626004]) ?_ 4 _ rfl; refine zr ?_; exact BK625.out⟩, ⟨IsS135.q2 HI0.out NB0_614.out NB0_625.out⟩, ⟨kp2 HK.out GW614.out GW625.out⟩, ⟨bq3 HB.out (IsS135.ge HI0.out) GE614.out GE625.out⟩⟩
end Go.Proofs.Ythhnfmbfgplelaa.XFnMsgs
