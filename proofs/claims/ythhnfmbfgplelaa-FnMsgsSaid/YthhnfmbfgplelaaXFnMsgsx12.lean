/- The functions that one law reaches, as Lean functions, with their walks: printed by a program of this seat (wip/tools) out of the translation. -/
import Derived.Test.YthhnfmbfgplelaaXFnMsgsx0
import Derived.Test.YthhnfmbfgplelaaXFnMsgsx1
import Derived.Test.YthhnfmbfgplelaaXFnMsgsx11
namespace Go.Proofs.Ythhnfmbfgplelaa.XFnMsgs
open Go.RowKit Go.Proofs.YthhnfmbfgplelaaW.PrintWords Go.Proofs.YthhnfmbfgplelaaW.PrintLast Go.Proofs.YthhnfmbfgplelaaW.PrintMore
attribute [local go_sem] max2_int min2_int max_two min_two max_three min_three max_four min_four   -- for this text's walks alone
set_option linter.unusedVariables false
set_option linter.unusedSimpArgs false

/-! ### spec_l3Draw: function 105 -/
def spec_l3Draw.j0 : Nat → Int → Bool → List Int → Int → Int → Option (Int × Int × ByteArray × List Int × Int × Int)
 | 0, _, _, _, _, _ => none
 | k + 1, x4, x8, x1000, x1001, x1002 => if x8 = true then ((spec_l1Num.f x1000 x1001 x1002).bind fun bt530 => ((spec_l1Clip.f bt530.1).bind fun t533 => ((spec_l3Int.f t533).bind fun bt534 => (some (bt534.1, bt534.2.1, bt534.2.2.1, bt534.2.2.2, bt530.2.1, bt530.2.2))))) else (if x4 = 3 then ((spec_l1Str.f x1000 x1001 x1002 (([(⟨#[]⟩ : ByteArray), (⟨#[97]⟩ : ByteArray), (⟨#[121, 97, 114, 100]⟩ : ByteArray), (⟨#[0]⟩ : ByteArray)] : List ByteArray))).bind fun bt543 => (some (4, 0, bt543.1, ([] : List Int), bt543.2.1, bt543.2.2))) else (if x4 = 4 then ((spec_l2Draw.f k x1000 x1001 x1002).bind fun bt546 => (some (6, 0, (⟨#[]⟩ : ByteArray), bt546.1, bt546.2.1, bt546.2.2))) else ((spec_l1Int.f x1000 x1001 x1002 (([128, 130] : List Int))).bind fun bt554 => (some (bt554.1, 0, (⟨#[]⟩ : ByteArray), ([] : List Int), bt554.2.1, bt554.2.2)))))
def spec_l3Draw.f (k : Nat) (s0_0 : List Int) (s0_1 : Int) (s0_2 : Int) : Option (Int × Int × ByteArray × List Int × Int × Int) := (spec_l1Below.f s0_0 s0_1 s0_2 6).bind fun bt527 => (if bt527.1 = 0 then (some (5, 0, (⟨#[]⟩ : ByteArray), ([] : List Int), bt527.2.1, bt527.2.2)) else (if bt527.1 = 1 then (spec_l3Draw.j0 k bt527.1 (bt527.1 == 1) s0_0 bt527.2.1 bt527.2.2) else (spec_l3Draw.j0 k bt527.1 (bt527.1 == 2) s0_0 bt527.2.1 bt527.2.2)))
set_option maxHeartbeats 8000000 in
set_option maxRecDepth 100000 in
theorem spec_l3Draw.calls (k : Nat) (g : Nat) (s0_0 : List Int) (s0_1 : Int) (s0_2 : Int) (r1 : Int) (r2 : Int) (r3 : ByteArray) (r4 : List Int) (r5 : Int) (r6 : Int) (w0 w : World) (hI : IsS135 w0 w g s0_0 s0_1 s0_2) (hB : Below w0.heap.size w0 w) (h : spec_l3Draw.f k s0_0 s0_1 s0_2 = some (r1, r2, r3, r4, r5, r6)) :
 Calls Try.prog 105 #[.pointer (some ⟨g, 0, none⟩)] w fun e w' => ∃ v3_ : Value, e = .returned (.agg #[.int .i64 r1, .int .i64 r2, .string r3, v3_]) ∧ Kd.R (Kd.int .i64) 3 w' w.heap.size (fun _ => True) v3_ r4 ∧ IsS135 w0 w' g s0_0 r5 r6 ∧ Below w0.heap.size w0 w' ∧ KeepBut w w' g none := by
 have hu29 := Try.underlying29
 have HI0 := am hI
 have HK := am (KeepBut.refl w g none)
 have HL := am hB.size
 clear hI
 have HW0 := am hB.size
 have HB := am hB
 clear hB
 have H := h
 clear h
 unfold spec_l3Draw.f at H
 replace H := be H
 obtain ⟨⟨qa1_0, qa1_1, qa1_2⟩, Qa1, H⟩ := H
 try dsimp only at H
 replace H := iq H
 rcases H with ⟨-, c3b0, c3b1, H⟩ | ⟨c3, c3b0, c3b1, H⟩
 · simp only [Option.some.injEq, Prod.mk.injEq] at H
   obtain ⟨rfl, rfl, rfl, rfl, rfl, rfl⟩ := H
   go_enter Try.func105, Try.ntmps105
   go_wp2_with (first | ((with_reducible refine gate_dst (N := 2) rfl ?_); refine bxe 2 #[.int .i64 0, .int .i64 0, .string (⟨#[]⟩ : ByteArray), .slice none 0 0] 29 ?_; intro gb526 hg w4 hbox hb; have n_ := ak8 (IsS135.below (IsS135.q0 HI0.out) hb) (KeepBut.trans (kp0 HK.out) (KeepBut.of_below hb g none) (.inl rfl)) (below_step (bq1 HB.out (IsS135.ge HI0.out)) hb) hbox ((by rw [hg]; exact (keep_size (w := w) (g := g) (row := none) (kp0 HK.out)) : w.heap.size ≤ gb526)) ((Nat.le_trans HW0.out (by rw [hg]; exact (keep_size (w := w) (g := g) (row := none) (kp0 HK.out)) : w.heap.size ≤ gb526) : w0.heap.size ≤ gb526)) ((by rw [hg]; exact Nat.ne_of_lt (IsS135.lt (show IsS135 w0 _ g s0_0 s0_1 s0_2 from IsS135.q0 HI0.out)) : g ≠ gb526)) ((by rw [hg]; exact Nat.ne_of_gt (IsS135.lt (show IsS135 w0 _ g s0_0 s0_1 s0_2 from IsS135.q0 HI0.out)) : gb526 ≠ g)); clear HI0 HK HB; obtain ⟨HI0, HK, HB, BK526, GW526, GE526, NB0_526, NB526_0⟩ := n_; clear hb hbox hg) | ((with_reducible refine gate_callee (f := 122) rfl ?_); refine gc (some 4) (spec_l1Below.calls g s0_0 s0_1 s0_2 6 qa1_0 qa1_1 qa1_2 w0 _ (IsS135.q1 HI0.out NB0_526.out) (bq2 HB.out (IsS135.ge HI0.out) GE526.out) Qa1.out) Try.func122 ?_; rintro e w5 ⟨rfl, hi, hb, hk⟩; refine ⟨_, rfl, ?_⟩; have n_ := ak4 (KeepBut.blk hk (zb BK526.out) NB526_0.out (by simp)) (KeepBut.trans (kp1 HK.out GW526.out) hk (.inl rfl)) hb hi; clear BK526 HK HB HI0; obtain ⟨BK526, HK, HB, HI0⟩ := n_; (try clear hb hk hi); have hnb6 := NB526_0.out; have hnc6 := NB0_526.out; obtain ⟨hcz7_0, hcz7_1, hcz7_2, hcz7_3, hfz7_0, hfz7_1, hfz7_2, hfz7_3⟩ := cl4 BK526.out))
   refine bodyPost_ret (results_cell_row rfl _ _ gb526 29 #[.int .i64 5, .int .i64 0, .string (⟨#[]⟩ : ByteArray), .slice none 0 0] (0, 0) _ rfl (by refine zr ?_; exact bp4 (zb BK526.out)) Try.underlying29 rfl (by kernel_rfl)) rfl ?_
   exact ⟨_, rq, rn, IsS135.q1 HI0.out NB0_526.out, bq2 HB.out (IsS135.ge HI0.out) GE526.out, kp1 HK.out GW526.out⟩
 have HC8 := am H
 clear H
 go_enter Try.func105, Try.ntmps105
 go_upto_if 8 with (first | ((with_reducible refine gate_dst (N := 2) rfl ?_); refine bxe 2 #[.int .i64 0, .int .i64 0, .string (⟨#[]⟩ : ByteArray), .slice none 0 0] 29 ?_; intro gb526 hg w9 hbox hb; have n_ := ak8 (IsS135.below (IsS135.q0 HI0.out) hb) (KeepBut.trans (kp0 HK.out) (KeepBut.of_below hb g none) (.inl rfl)) (below_step (bq1 HB.out (IsS135.ge HI0.out)) hb) hbox ((by rw [hg]; exact (keep_size (w := w) (g := g) (row := none) (kp0 HK.out)) : w.heap.size ≤ gb526)) ((Nat.le_trans HW0.out (by rw [hg]; exact (keep_size (w := w) (g := g) (row := none) (kp0 HK.out)) : w.heap.size ≤ gb526) : w0.heap.size ≤ gb526)) ((by rw [hg]; exact Nat.ne_of_lt (IsS135.lt (show IsS135 w0 _ g s0_0 s0_1 s0_2 from IsS135.q0 HI0.out)) : g ≠ gb526)) ((by rw [hg]; exact Nat.ne_of_gt (IsS135.lt (show IsS135 w0 _ g s0_0 s0_1 s0_2 from IsS135.q0 HI0.out)) : gb526 ≠ g)); clear HI0 HK HB; obtain ⟨HI0, HK, HB, BK526, GW526, GE526, NB0_526, NB526_0⟩ := n_; clear hb hbox hg) | ((with_reducible refine gate_callee (f := 122) rfl ?_); refine gc (some 4) (spec_l1Below.calls g s0_0 s0_1 s0_2 6 qa1_0 qa1_1 qa1_2 w0 _ (IsS135.q1 HI0.out NB0_526.out) (bq2 HB.out (IsS135.ge HI0.out) GE526.out) Qa1.out) Try.func122 ?_; rintro e w10 ⟨rfl, hi, hb, hk⟩; refine ⟨_, rfl, ?_⟩; have n_ := ak4 (KeepBut.blk hk (zb BK526.out) NB526_0.out (by simp)) (KeepBut.trans (kp1 HK.out GW526.out) hk (.inl rfl)) hb hi; clear BK526 HK HB HI0; obtain ⟨BK526, HK, HB, HI0⟩ := n_; (try clear hb hk hi)))
 (try simp only [Act.put, List.setIfInBounds_toArray, List.set_cons_zero, List.set_cons_succ])
 go_cut [8] (fun v8 wc => ∃ (kq : Nat) (x8_7 : Bool), v8 = .bool x8_7 ∧ Aside0 (spec_l3Draw.j0 kq qa1_0 x8_7 s0_0 qa1_1 qa1_2 = some (r1, r2, r3, r4, r5, r6)) ∧ Aside0 (kq ≤ k) ∧ Aside0 (wc.heap[gb526]? = some (.cells #[.int .i64 0, .int .i64 0, .string (⟨#[]⟩ : ByteArray), (.slice none 0 0)] 29 (0, 0))) ∧ Aside0 (IsS135 w0 wc g s0_0 qa1_1 qa1_2) ∧ Aside0 (KeepBut w wc g none) ∧ Aside0 (Below w0.heap.size w0 wc))
 case first =>
  have H := HC8.out
  clear HC8
  replace H := iq' H
  rcases H with ⟨c11, c11b0, c11b1, H⟩ | ⟨-, c11b0, c11b1, H⟩
  · (first | rw [c11b0] | (simp only [i64_w, i32_w]; rw [c11b0]) | skip)
    have H' := am H
    clear H
    go_wp2
    go_meet
    case rel => exact ⟨_, ((qa1_0 == 2)), sq, H', ⟨by first | omega | exact Nat.le_refl _⟩, ⟨zq BK526.out⟩, ⟨IsS135.q1 HI0.out NB0_526.out⟩, ⟨kp1 HK.out GW526.out⟩, ⟨bq2 HB.out (IsS135.ge HI0.out) GE526.out⟩⟩
  (first | rw [c11b0] | (simp only [i64_w, i32_w]; rw [c11b0]) | skip)
  have H' := am H
  clear H
  go_wp2
  go_meet
  case rel => exact ⟨_, ((qa1_0 == 1)), sq, H', ⟨by first | omega | exact Nat.le_refl _⟩, ⟨zq BK526.out⟩, ⟨IsS135.q1 HI0.out NB0_526.out⟩, ⟨kp1 HK.out GW526.out⟩, ⟨bq2 HB.out (IsS135.ge HI0.out) GE526.out⟩⟩
 case rest =>
  clear HC8
  try clear c1
  try clear p2
  try clear c3
  try clear c3b0
  try clear c3b1
  try clear c6
  try clear c10
  try clear c11
  try clear c11b0
  try clear c11b1
  try clear hcz7_0
  try clear hcz7_1
  try clear hcz7_2
  try clear hcz7_3
  try clear hfz7_0
  try clear hfz7_1
  try clear hfz7_2
  try clear hfz7_3
  obtain ⟨kq, x8_7, rfl, HA, HJ7, BK526, HI0, HK, HB⟩ := hcut
  cases kq with
  | zero => exact absurd HA.out (by simp [spec_l3Draw.j0])
  | succ kj7 =>
   have H := HA.out
   clear HA
   simp only [spec_l3Draw.j0] at H
   rcases Decidable.em (x8_7 = true) with c12 | c12
   subst c12
   replace H : ((spec_l1Num.f s0_0 qa1_1 qa1_2).bind fun bt530 => ((spec_l1Clip.f bt530.1).bind fun qc1_0 => ((spec_l3Int.f qc1_0).bind fun bt534 => (some (bt534.1, bt534.2.1, bt534.2.2.1, bt534.2.2.2, bt530.2.1, bt530.2.2))))) = some (r1, r2, r3, r4, r5, r6) := by rw [if_pos rfl] at H; exact H
   replace H := be H
   obtain ⟨⟨qb1_0, qb1_1, qb1_2⟩, Qb1, H⟩ := H
   try dsimp only at H
   replace H := be H
   obtain ⟨qc1_0, Qc1, H⟩ := H
   replace H := be H
   obtain ⟨⟨qd1_0, qd1_1, qd1_2, qd1_3⟩, Qd1, H⟩ := H
   try dsimp only at H
   rotate_left
   replace c12 := Bool.eq_false_iff.mpr c12
   subst c12
   replace H : (if qa1_0 = 3 then ((spec_l1Str.f s0_0 qa1_1 qa1_2 (([(⟨#[]⟩ : ByteArray), (⟨#[97]⟩ : ByteArray), (⟨#[121, 97, 114, 100]⟩ : ByteArray), (⟨#[0]⟩ : ByteArray)] : List ByteArray))).bind fun bt543 => (some (4, 0, bt543.1, ([] : List Int), bt543.2.1, bt543.2.2))) else (if qa1_0 = 4 then ((spec_l2Draw.f kj7 s0_0 qa1_1 qa1_2).bind fun bt546 => (some (6, 0, (⟨#[]⟩ : ByteArray), bt546.1, bt546.2.1, bt546.2.2))) else ((spec_l1Int.f s0_0 qa1_1 qa1_2 (([128, 130] : List Int))).bind fun bt554 => (some (bt554.1, 0, (⟨#[]⟩ : ByteArray), ([] : List Int), bt554.2.1, bt554.2.2))))) = some (r1, r2, r3, r4, r5, r6) := by rw [if_neg (show ¬ (false = true) by decide)] at H; exact H
   replace H := iq H
   rcases H with ⟨-, c21b0, c21b1, H⟩ | ⟨c21, c21b0, c21b1, H⟩
   generalize hy540 : ((([(⟨#[]⟩ : ByteArray), (⟨#[97]⟩ : ByteArray), (⟨#[121, 97, 114, 100]⟩ : ByteArray), (⟨#[0]⟩ : ByteArray)] : List ByteArray)) : List ByteArray) = y540 at H
   have Ny540 := am hy540.symm
   clear hy540
   replace H := be H
   obtain ⟨⟨qe1_0, qe1_1, qe1_2⟩, Qe1, H⟩ := H
   try dsimp only at H
   rotate_left
   replace H := iq H
   rcases H with ⟨-, c29b0, c29b1, H⟩ | ⟨c29, c29b0, c29b1, H⟩
   replace H := be H
   obtain ⟨⟨qf1_0, qf1_1, qf1_2⟩, Qf1, H⟩ := H
   try dsimp only at H
   rotate_left
   generalize hy551 : ((([128, 130] : List Int)) : List Int) = y551 at H
   have Ny551 := am hy551.symm
   clear hy551
   replace H := be H
   obtain ⟨⟨qg1_0, qg1_1, qg1_2⟩, Qg1, H⟩ := H
   try dsimp only at H
   rotate_right
   rotate_right
   rotate_right
   all_goals
    simp only [Option.some.injEq, Prod.mk.injEq] at H
    obtain ⟨rfl, rfl, rfl, rfl, rfl, rfl⟩ := H
    go_wp2_with (first | ((with_reducible refine gate_callee (f := 133) rfl ?_); refine gc (some 12) (spec_l1Num.calls g s0_0 qa1_1 qa1_2 qb1_0 qb1_1 qb1_2 w0 _ (IsS135.q1 HI0.out NB0_526.out) (bq2 HB.out (IsS135.ge HI0.out) GE526.out) Qb1.out) Try.func133 ?_; rintro e w_ ⟨rfl, hi, hb, hk⟩; refine ⟨_, rfl, ?_⟩; have n_ := ak4 (KeepBut.blk hk (zb BK526.out) NB526_0.out (by simp)) (KeepBut.trans (kp1 HK.out GW526.out) hk (.inl rfl)) hb hi; clear BK526 HK HB HI0; obtain ⟨BK526, HK, HB, HI0⟩ := n_; (try clear hb hk hi)) | ((with_reducible refine gate_callee (f := 109) rfl ?_); refine gc (some 13) (spec_l1Clip.calls qb1_0 qc1_0 _ Qc1.out) Try.func109 ?_; rintro e w' ⟨rfl, ⟨nd, rfl⟩⟩; refine ⟨_, rfl, ?_⟩; (try (rw [drewN_self w_]; generalize hq_ : World.drewN w_ _ = w_; have n_ : Aside0 (w_.heap[gb526]? = some (.cells #[.int .i64 0, .int .i64 0, .string (⟨#[]⟩ : ByteArray), .slice none 0 0] 29 (0, 0))) ∧ Aside0 (IsS135 w0 w_ g s0_0 qb1_1 qb1_2) ∧ Aside0 (KeepBut w w_ g none) ∧ Aside0 (Below w0.heap.size w0 w_) := ⟨⟨by rw [← hq_]; exact (zq BK526.out)⟩, ⟨by rw [← hq_]; exact (IsS135.q1 HI0.out NB0_526.out)⟩, ⟨by rw [← hq_]; exact (kp1 HK.out GW526.out)⟩, ⟨by rw [← hq_]; exact (bq2 HB.out (IsS135.ge HI0.out) GE526.out)⟩⟩; clear BK526 HI0 HK HB hq_; obtain ⟨BK526, HI0, HK, HB⟩ := n_))) | ((with_reducible refine gate_callee (f := 135) rfl ?_); refine gc (some 14) (spec_l3Int.calls qc1_0 qd1_0 qd1_1 qd1_2 qd1_3 _ Qd1.out) Try.func135 ?_; rintro e w_ ⟨v538, rfl, ho_, hb⟩; refine ⟨_, rfl, ?_⟩; have n_ := ak5 (Kd.R_lower ho_ (keep_size (w := w) (g := g) (row := none) (kp1 HK.out GW526.out))) (kb BK526 hb) (IsS135.below (IsS135.q1 HI0.out NB0_526.out) hb) (KeepBut.trans (kp1 HK.out GW526.out) (KeepBut.of_below hb g none) (.inl rfl)) (below_step (bq2 HB.out (IsS135.ge HI0.out) GE526.out) hb); clear BK526 HI0 HK HB; obtain ⟨HO539, BK526, HI0, HK, HB⟩ := n_; (try clear hb ho_); obtain ⟨Ao_539, co_539, eo_539⟩ := Kd.R_slice HO539.out; subst eo_539; have hNB526_0 := NB526_0.out; have hNB0_526 := NB0_526.out; obtain ⟨hcz_526_0, hcz_526_1, hcz_526_2, hcz_526_3, hfz_526_0, hfz_526_1, hfz_526_2, hfz_526_3⟩ := cl4 BK526.out) | ((with_reducible refine gate_dst (N := 18) rfl ?_); refine Kd.R_lit Kd.string _ 9 ?hg (N := 18) ?hd (xs := ([(⟨#[]⟩ : ByteArray), (⟨#[97]⟩ : ByteArray), (⟨#[121, 97, 114, 100]⟩ : ByteArray), (⟨#[0]⟩ : ByteArray)] : List ByteArray)) (inner := [.string (⟨#[]⟩ : ByteArray), .string (⟨#[97]⟩ : ByteArray), .string (⟨#[121, 97, 114, 100]⟩ : ByteArray), .string (⟨#[0]⟩ : ByteArray)]) (ok := fun _ => True) (okp := fun _ => True) ?hr ?hp (fun _ hk => hk) trivial (Below.refl _ _) (Nat.le_refl _) (by simp) ?_; (case hd => rfl); (case hg => rfl); (case hr => exact gs); (case hp => exact (Reps.one (show Kd.M Kd.string _ _ _ (⟨#[]⟩ : ByteArray) [.string (⟨#[]⟩ : ByteArray)] from rfl) (Reps.one (show Kd.M Kd.string _ _ _ (⟨#[97]⟩ : ByteArray) [.string (⟨#[97]⟩ : ByteArray)] from rfl) (Reps.one (show Kd.M Kd.string _ _ _ (⟨#[121, 97, 114, 100]⟩ : ByteArray) [.string (⟨#[121, 97, 114, 100]⟩ : ByteArray)] from rfl) (Reps.one (show Kd.M Kd.string _ _ _ (⟨#[0]⟩ : ByteArray) [.string (⟨#[0]⟩ : ByteArray)] from rfl) (Reps.none _ _)))))); intro v541 w_ ho_ hb hg_ hnew_; clear hg_ hnew_; (first | rw [← Ny540.out] at ho_ | (simp only [Int.reduceToNat] at ho_; rw [← Ny540.out] at ho_)); have n_ := ak5 (Kd.R_lower ho_ (keep_size (w := w) (g := g) (row := none) (kp1 HK.out GW526.out))) (kb BK526 hb) (IsS135.below (IsS135.q1 HI0.out NB0_526.out) hb) (KeepBut.trans (kp1 HK.out GW526.out) (KeepBut.of_below hb g none) (.inl rfl)) (below_step (bq2 HB.out (IsS135.ge HI0.out) GE526.out) hb); clear BK526 HI0 HK HB; obtain ⟨HO542, BK526, HI0, HK, HB⟩ := n_; clear hb ho_; obtain ⟨Ao_542, co_542, eo_542⟩ := Kd.R_slice HO542.out; subst eo_542) | ((with_reducible refine gate_callee (f := 114) rfl ?_); refine gc (some 19) (spec_l1Str.calls g s0_0 qa1_1 qa1_2 _ _ y540 qe1_0 qe1_1 qe1_2 w0 _ (IsS135.q1 HI0.out NB0_526.out) (bq2 HB.out (IsS135.ge HI0.out) GE526.out) (cq (Kd.R_reads' HO542.out).2.2) ((Kd.R_reads' HO542.out).2.1) (far_slice (IsS135.own_ne HI0.out HO542.out (by decide))) Qe1.out) Try.func114 ?_; rintro e w_ ⟨rfl, hi, hb, hk⟩; refine ⟨_, rfl, ?_⟩; have n_ := ak5 (KeepBut.blk hk (zb BK526.out) NB526_0.out (by simp)) (Kd.R_mono (Kd.R_keep (IsS135.apart (show IsS135 w0 _ g s0_0 qa1_1 qa1_2 from IsS135.q1 HI0.out NB0_526.out) (kqR HO542.out) (by decide)) hk (fun _ h => h.2)) (fun _ h => h.1)) (KeepBut.trans (kp1 HK.out GW526.out) hk (.inl rfl)) hb hi; clear BK526 HO542 HK HB HI0; obtain ⟨BK526, HO542, HK, HB, HI0⟩ := n_; (try clear hb hk hi); have hNB526_0 := NB526_0.out; have hNB0_526 := NB0_526.out; obtain ⟨hcz_526_0, hcz_526_1, hcz_526_2, hcz_526_3, hfz_526_0, hfz_526_1, hfz_526_2, hfz_526_3⟩ := cl4 BK526.out) | ((with_reducible refine gate_callee (f := 136) rfl ?_); refine gc (some 24) (spec_l2Draw.calls kj7 g s0_0 qa1_1 qa1_2 qf1_0 qf1_1 qf1_2 w0 _ (IsS135.q1 HI0.out NB0_526.out) (bq2 HB.out (IsS135.ge HI0.out) GE526.out) Qf1.out) Try.func136 ?_; rintro e w_ ⟨v547, rfl, ho_, hi, hb, hk⟩; refine ⟨_, rfl, ?_⟩; have n_ := ak5 (KeepBut.blk hk (zb BK526.out) NB526_0.out (by simp)) (Kd.R_lower ho_ (keep_size (w := w) (g := g) (row := none) (kp1 HK.out GW526.out))) (KeepBut.trans (kp1 HK.out GW526.out) hk (.inl rfl)) hb hi; clear BK526 HK HB HI0; obtain ⟨BK526, HO548, HK, HB, HI0⟩ := n_; (try clear hb hk hi ho_); obtain ⟨Ao_548, co_548, eo_548⟩ := Kd.R_slice HO548.out; subst eo_548; have hNB526_0 := NB526_0.out; have hNB0_526 := NB0_526.out; obtain ⟨hcz_526_0, hcz_526_1, hcz_526_2, hcz_526_3, hfz_526_0, hfz_526_1, hfz_526_2, hfz_526_3⟩ := cl4 BK526.out) | ((with_reducible refine gate_dst (N := 27) rfl ?_); refine Kd.R_lit (Kd.int .i64) _ 3 ?hg (N := 27) ?hd (xs := ([128, 130] : List Int)) (inner := [.int .i64 128, .int .i64 130]) (ok := fun _ => True) (okp := fun _ => True) ?hr ?hp (fun _ hk => hk) trivial (Below.refl _ _) (Nat.le_refl _) (by simp) ?_; (case hd => rfl); (case hg => rfl); (case hr => exact gs); (case hp => exact (Reps.one (ri 128) (Reps.one (ri 130) (Reps.none _ _)))); intro v552 w_ ho_ hb hg_ hnew_; clear hg_ hnew_; (first | rw [← Ny551.out] at ho_ | (simp only [Int.reduceToNat] at ho_; rw [← Ny551.out] at ho_)); have n_ := ak5 (Kd.R_lower ho_ (keep_size (w := w) (g := g) (row := none) (kp1 HK.out GW526.out))) (kb BK526 hb) (IsS135.below (IsS135.q1 HI0.out NB0_526.out) hb) (KeepBut.trans (kp1 HK.out GW526.out) (KeepBut.of_below hb g none) (.inl rfl)) (below_step (bq2 HB.out (IsS135.ge HI0.out) GE526.out) hb); clear BK526 HI0 HK HB; obtain ⟨HO553, BK526, HI0, HK, HB⟩ := n_; clear hb ho_; obtain ⟨Ao_553, co_553, eo_553⟩ := Kd.R_slice HO553.out; subst eo_553) | ((with_reducible refine gate_callee (f := 86) rfl ?_); refine gc (some 28) (spec_l1Int.calls g s0_0 qa1_1 qa1_2 _ _ y551 qg1_0 qg1_1 qg1_2 w0 _ (IsS135.q1 HI0.out NB0_526.out) (bq2 HB.out (IsS135.ge HI0.out) GE526.out) (cq (Kd.R_reads' HO553.out).2.2) ((Kd.R_reads' HO553.out).2.1) (far_slice (IsS135.own_ne HI0.out HO553.out (by decide))) Qg1.out) Try.func86 ?_; rintro e w_ ⟨rfl, hi, hb, hk⟩; refine ⟨_, rfl, ?_⟩; have n_ := ak5 (KeepBut.blk hk (zb BK526.out) NB526_0.out (by simp)) (Kd.R_mono (Kd.R_keep (IsS135.apart (show IsS135 w0 _ g s0_0 qa1_1 qa1_2 from IsS135.q1 HI0.out NB0_526.out) (kqR HO553.out) (by decide)) hk (fun _ h => h.2)) (fun _ h => h.1)) (KeepBut.trans (kp1 HK.out GW526.out) hk (.inl rfl)) hb hi; clear BK526 HO553 HK HB HI0; obtain ⟨BK526, HO553, HK, HB, HI0⟩ := n_; (try clear hb hk hi); have hNB526_0 := NB526_0.out; have hNB0_526 := NB0_526.out; obtain ⟨hcz_526_0, hcz_526_1, hcz_526_2, hcz_526_3, hfz_526_0, hfz_526_1, hfz_526_2, hfz_526_3⟩ := cl4 BK526.out))
    first
    | refine bodyPost_ret (results_cell_row rfl _ _ gb526 29 #[.int .i64 6, .int .i64 0, .string (⟨#[]⟩ : ByteArray), .slice Ao_548 qf1_0.length co_548] (0, 0) _ rfl (by refine zr ?_; exact bp4 (zb BK526.out)) Try.underlying29 rfl (by kernel_rfl)) rfl ?_
      exact ⟨_, rq, by refine kr ?_; exact Kd.R_mono (rf4 gb526 (.int .i64 6) (.int .i64 0) (.string (⟨#[]⟩ : ByteArray)) (.slice Ao_548 qf1_0.length co_548) (Kd.R_types HO548.out BK526.out (by decide)) (fun _ hk => hk.2)) (fun _ hk => trivial), IsS135.q1 HI0.out NB0_526.out, bq2 HB.out (IsS135.ge HI0.out) GE526.out, kp1 HK.out GW526.out⟩
    | refine bodyPost_ret (results_cell_row rfl _ _ gb526 29 #[.int .i64 qd1_0, .int .i64 qd1_1, .string qd1_2, .slice Ao_539 qd1_3.length co_539] (0, 0) _ rfl (by refine zr ?_; exact bp4 (zb BK526.out)) Try.underlying29 rfl (by kernel_rfl)) rfl ?_
      exact ⟨_, rq, by refine kr ?_; exact Kd.R_mono (rf4 gb526 (.int .i64 qd1_0) (.int .i64 qd1_1) (.string qd1_2) (.slice Ao_539 qd1_3.length co_539) (Kd.R_types HO539.out BK526.out (by decide)) (fun _ hk => hk.2)) (fun _ hk => trivial), IsS135.q1 HI0.out NB0_526.out, bq2 HB.out (IsS135.ge HI0.out) GE526.out, kp1 HK.out GW526.out⟩
    | refine bodyPost_ret (results_cell_row rfl _ _ gb526 29 #[.int .i64 qg1_0, .int .i64 0, .string (⟨#[]⟩ : ByteArray), .slice none 0 0] (0, 0) _ rfl (by refine zr ?_; exact bp4 (zb BK526.out)) Try.underlying29 rfl (by kernel_rfl)) rfl ?_
      exact ⟨_, rq, rn, IsS135.q1 HI0.out NB0_526.out, bq2 HB.out (IsS135.ge HI0.out) GE526.out, kp1 HK.out GW526.out⟩
    | refine bodyPost_ret (results_cell_row rfl _ _ gb526 29 #[.int .i64 4, .int .i64 0, .string qe1_0, .slice none 0 0] (0, 0) _ rfl (by refine zr ?_; exact bp4 (zb BK526.out)) Try.underlying29 rfl (by kernel_rfl)) rfl ?_
      exact ⟨_, rq, rn, IsS135.q1 HI0.out NB0_526.out, bq2 HB.out (IsS135.ge HI0.out) GE526.out, kp1 HK.out GW526.out⟩
/-! ### spec_l2Any: function 134 -/
def spec_l2Any.l0 : Nat → List Int → List Int → Int → Int → Option (List Int × Int × Int)
 | 0, _, _, _, _ => none
 | k + 1, x3, x1000, x1001, x1002 => (spec_l1Below.f x1000 x1001 x1002 2).bind fun bt575 => (if (x3.length : Int) < (wrap64 (10 + bt575.1)) then (if x3.length < 17592186044416 then (spec_l2Any.l0 k (x3 ++ [1]) x1000 bt575.2.1 bt575.2.2) else (none)) else (some (x3, bt575.2.1, bt575.2.2)))
def spec_l2Any.f (k : Nat) (s0_0 : List Int) (s0_1 : Int) (s0_2 : Int) : Option (List Int × Int × Int) := (spec_l2Draw.f k s0_0 s0_1 s0_2).bind fun bt557 => ((spec_l1Below.f s0_0 bt557.2.1 bt557.2.2 10).bind fun bt562 => (if bt562.1 = 0 then (some ((([] : List Int)), bt562.2.1, bt562.2.2)) else (if bt562.1 = 1 then ((spec_l1Int.f s0_0 bt562.2.1 bt562.2.2 (([(-1), 100001] : List Int))).bind fun bt571 => (if 0 < (bt557.1.length : Int) then (some ((bt557.1.set (0 : Int).toNat bt571.1), bt571.2.1, bt571.2.2)) else (none))) else (if bt562.1 = 2 then (spec_l2Any.l0 k bt557.1 s0_0 bt562.2.1 bt562.2.2) else (some (bt557.1, bt562.2.1, bt562.2.2))))))
set_option maxHeartbeats 8000000 in
set_option maxRecDepth 100000 in
theorem spec_l2Any.calls (k : Nat) (g : Nat) (s0_0 : List Int) (s0_1 : Int) (s0_2 : Int) (r1 : List Int) (r2 : Int) (r3 : Int) (w0 w : World) (hI : IsS135 w0 w g s0_0 s0_1 s0_2) (hB : Below w0.heap.size w0 w) (h : spec_l2Any.f k s0_0 s0_1 s0_2 = some (r1, r2, r3)) :
 Calls Try.prog 134 #[.pointer (some ⟨g, 0, none⟩)] w fun e w' => ∃ v0_ : Value, e = .returned (v0_) ∧ Kd.R (Kd.int .i64) 3 w' w.heap.size (fun _ => True) v0_ r1 ∧ IsS135 w0 w' g s0_0 r2 r3 ∧ Below w0.heap.size w0 w' ∧ KeepBut w w' g none := by
 have HI0 := am hI
 have HK := am (KeepBut.refl w g none)
 have HL := am hB.size
 clear hI
 have HW0 := am hB.size
 have HB := am hB
 clear hB
 have H := h
 clear h
 unfold spec_l2Any.f at H
 replace H := be H
 obtain ⟨⟨qa1_0, qa1_1, qa1_2⟩, Qa1, H⟩ := H
 try dsimp only at H
 replace H := be H
 obtain ⟨⟨qb1_0, qb1_1, qb1_2⟩, Qb1, H⟩ := H
 try dsimp only at H
 replace H := iq H
 rcases H with ⟨-, c4b0, c4b1, H⟩ | ⟨c4, c4b0, c4b1, H⟩
 generalize hy565 : ((([] : List Int)) : List Int) = y565 at H
 have Ny565 := am hy565.symm
 clear hy565
 rotate_left
 replace H := iq H
 rcases H with ⟨-, c9b0, c9b1, H⟩ | ⟨c9, c9b0, c9b1, H⟩
 · generalize hy568 : ((([(-1), 100001] : List Int)) : List Int) = y568 at H
   have Ny568 := am hy568.symm
   clear hy568
   replace H := be H
   obtain ⟨⟨qc1_0, qc1_1, qc1_2⟩, Qc1, H⟩ := H
   try dsimp only at H
   replace H := nl H
   obtain ⟨c11, c11b0, H⟩ := H
   have c11b1 : decide (0 < qa1_0.length) = true := decide_eq_true (by omega)
   clear c11
   generalize hy574 : ((qa1_0.set (0 : Int).toNat qc1_0) : List Int) = y574 at H
   have Ny574 := am hy574.symm
   clear hy574
   simp only [Option.some.injEq, Prod.mk.injEq] at H
   obtain ⟨rfl, rfl, rfl⟩ := H
   go_enter Try.func134, Try.ntmps134
   go_wp2_with (first | ((with_reducible refine gate_callee (f := 136) rfl ?_); refine gc (some 5) (spec_l2Draw.calls k g s0_0 s0_1 s0_2 qa1_0 qa1_1 qa1_2 w0 _ (IsS135.q0 HI0.out) (bq1 HB.out (IsS135.ge HI0.out)) Qa1.out) Try.func136 ?_; rintro e w13 ⟨v558, rfl, ho0, hi, hb, hk⟩; refine ⟨_, rfl, ?_⟩; have n_ := ak4 (Kd.R_lower ho0 (keep_size (w := w) (g := g) (row := none) (kp0 HK.out))) (KeepBut.trans (kp0 HK.out) hk (.inl rfl)) hb hi; clear HK HB HI0; obtain ⟨HO559, HK, HB, HI0⟩ := n_; (try clear hb hk hi ho0)) | ((with_reducible refine gate_callee (f := 122) rfl ?_); refine gc (some 7) (spec_l1Below.calls g s0_0 qa1_1 qa1_2 10 qb1_0 qb1_1 qb1_2 w0 _ (IsS135.q0 HI0.out) (bq1 HB.out (IsS135.ge HI0.out)) Qb1.out) Try.func122 ?_; rintro e w14 ⟨rfl, hi, hb, hk⟩; refine ⟨_, rfl, ?_⟩; have n_ := ak4 (Kd.R_mono (Kd.R_keep (IsS135.apart (show IsS135 w0 _ g s0_0 qa1_1 qa1_2 from IsS135.q0 HI0.out) (kqR HO559.out) (by decide)) hk (fun _ h => h.2)) (fun _ h => h.1)) (KeepBut.trans (kp0 HK.out) hk (.inl rfl)) hb hi; clear HO559 HK HB HI0; obtain ⟨HO559, HK, HB, HI0⟩ := n_; (try clear hb hk hi)) | ((with_reducible refine gate_dst (N := 15) rfl ?_); refine Kd.R_lit (Kd.int .i64) _ 3 ?hg (N := 15) ?hd (xs := ([(-1), 100001] : List Int)) (inner := [.int .i64 (-1), .int .i64 100001]) (ok := fun _ => True) (okp := fun _ => True) ?hr ?hp (fun _ hk => hk) trivial (Below.refl _ _) (Nat.le_refl _) (by simp) ?_; (case hd => rfl); (case hg => rfl); (case hr => exact gs); (case hp => exact (Reps.one (ri (-1)) (Reps.one (ri 100001) (Reps.none _ _)))); intro v569 w15 ho16 hb hg_ hnew_; clear hg_ hnew_; (first | rw [← Ny568.out] at ho16 | (simp only [Int.reduceToNat] at ho16; rw [← Ny568.out] at ho16)); have n_ := ak5 (re_ HO559 ho16 hb) (Kd.R_lower (Kd.R_new' ho16 (Kd.R_lt (kqR HO559.out))) (keep_size (w := w) (g := g) (row := none) (kp0 HK.out))) (IsS135.below (IsS135.q0 HI0.out) hb) (KeepBut.trans (kp0 HK.out) (KeepBut.of_below hb g none) (.inl rfl)) (below_step (bq1 HB.out (IsS135.ge HI0.out)) hb); clear HO559 HI0 HK HB; obtain ⟨HO559, HO570, HI0, HK, HB⟩ := n_; clear hb ho16; obtain ⟨Ao17, co17, eo17⟩ := Kd.R_slice HO570.out; subst eo17) | ((with_reducible refine gate_callee (f := 86) rfl ?_); refine gc (some 16) (spec_l1Int.calls g s0_0 qb1_1 qb1_2 _ _ y568 qc1_0 qc1_1 qc1_2 w0 _ (IsS135.q0 HI0.out) (bq1 HB.out (IsS135.ge HI0.out)) (cq (Kd.R_reads' HO570.out).2.2) ((Kd.R_reads' HO570.out).2.1) (far_slice (IsS135.own_ne HI0.out HO570.out (by decide))) Qc1.out) Try.func86 ?_; rintro e w18 ⟨rfl, hi, hb, hk⟩; refine ⟨_, rfl, ?_⟩; have n_ := ak5 (Kd.R_mono (Kd.R_keep (IsS135.apart (show IsS135 w0 _ g s0_0 qb1_1 qb1_2 from IsS135.q0 HI0.out) (kqR HO559.out) (by decide)) hk (fun _ h => h.2)) (fun _ h => h.1)) (Kd.R_mono (Kd.R_keep (IsS135.apart (show IsS135 w0 _ g s0_0 qb1_1 qb1_2 from IsS135.q0 HI0.out) (kqR HO570.out) (by decide)) hk (fun _ h => h.2)) (fun _ h => h.1)) (KeepBut.trans (kp0 HK.out) hk (.inl rfl)) hb hi; clear HO559 HO570 HK HB HI0; obtain ⟨HO559, HO570, HK, HB, HI0⟩ := n_; (try clear hb hk hi); have p12 : 0 ≤ (0 : Int) := (by omega); have q12 : (0 : Int) < ((qa1_0.length : Int) : Int) := oda; have qi12 : (0 < qa1_0.length) = True := eq_true (by omega); obtain ⟨go12, co12, eo12, gb12, gl12, cl12, HG12⟩ := Kd.R_form HO559.out (by omega); (first | cases eo12 | (injection eo12 with ea_ en_ ec_; (first | subst ea_ | (injection ea_ with ea_; subst ea_)); subst ec_; clear en_)); have GB12 := am gb12; have GG12 := am HG12; clear gb12 gl12 HG12; obtain ⟨hx12_0, hf12_0⟩ := Kd.R_celln 0 HO559.out (0 : Int) p12 q12; (try rw [show ((0 : Int)).toNat = 0 from rfl] at hx12_0); (try simp only [Nat.reduceMul, Nat.zero_mul, Nat.zero_add, Nat.reduceAdd] at hx12_0); (try rw [show ((0 : Int)).toNat = 0 from rfl] at hf12_0); (try simp only [Nat.reduceMul, Nat.zero_mul, Nat.zero_add, Nat.reduceAdd] at hf12_0); replace p12 := eq_true p12; replace q12 := eq_true q12; have n_ := am (Kd.R_mono (ok' := (fun k_ => some k_ ≠ (.slice Ao17 y568.length co17 : Value).ownBlock)) HO559.out (fun k_ hk => hk.2)); clear HO559; have HO559 := n_; clear n_; obtain ⟨hy19_, hz19_⟩ := Kd.R_celln 0 HO559.out (0 : Int) (by omega) (oda); (try simp only [Int.reduceToNat, Int.toNat_zero, Int.toNat_ofNat, Nat.reduceMul, Nat.zero_mul, Nat.zero_add] at hy19_ hz19_); (try rw [show ((0 : Int)).toNat = 0 from rfl] at hy19_); (try rw [show ((0 : Int)).toNat = 0 from rfl] at hz19_); have HP19 := Kd.R_putg HO559.out (0 : Int) qc1_0) | ((with_reducible refine gate_store (t := 3) (p := 17) rfl ?_); refine se 3 17 (w18.setCell ⟨go12, (0 : Int).toNat, none⟩ (.int .i64 qc1_0)) ?_; intro w20 hw; have hg : w18.grownBy w20 (some go12) := (by rw [hw]; exact HP19.2); have hp_ : Kd.R (Kd.int .i64) 3 w20 w.heap.size (fun k_ => some k_ ≠ (.slice Ao17 y568.length co17 : Value).ownBlock) (.slice (some ⟨go12, 0, none⟩) qa1_0.length co12) y574 := (by rw [hw, Ny574.out]; exact HP19.1); clear HP19; have n_ := ak5 (IsS135.grown (IsS135.q0 HI0.out) hg (IsS135.own_ne HI0.out HO559.out (by decide))) hp_ (Kd.R_after (v := (.slice (some ⟨go12, 0, none⟩) qa1_0.length co12)) (v1 := (.slice (some ⟨go12, 0, none⟩) qa1_0.length co12)) (ok := (fun _ => True)) (kqR HO570.out) hg (.inl rfl)) ((by rw [hw]; exact below_set (HB.out) (Nat.le_trans HL.out GB12.out) : Below w0.heap.size w0 w20)) (KeepBut.trans (kp0 HK.out) (KeepBut.of_grown hg g) (Kd.R_base2 HO559.out)); clear HI0 HO559 HO570 HB HK; obtain ⟨HI0, HO559, HO570, HB, HK⟩ := n_; clear hg hw hp_))
   go_ret
   exact ⟨_, rq, by refine kr ?_; exact Kd.R_mono HO559.out (fun _ hk => trivial), IsS135.q0 HI0.out, bq1 HB.out (IsS135.ge HI0.out), kp0 HK.out⟩
 replace H := iq' H
 rcases H with ⟨c21, c21b0, c21b1, H⟩ | ⟨-, c21b0, c21b1, H⟩
 rotate_left
 · have H' := am H
   clear H
   go_enter Try.func134, Try.ntmps134
   go_wp2_with (first | ((with_reducible refine gate_callee (f := 136) rfl ?_); refine gc (some 5) (spec_l2Draw.calls k g s0_0 s0_1 s0_2 qa1_0 qa1_1 qa1_2 w0 _ (IsS135.q0 HI0.out) (bq1 HB.out (IsS135.ge HI0.out)) Qa1.out) Try.func136 ?_; rintro e w22 ⟨v558, rfl, ho0, hi, hb, hk⟩; refine ⟨_, rfl, ?_⟩; have n_ := ak4 (Kd.R_lower ho0 (keep_size (w := w) (g := g) (row := none) (kp0 HK.out))) (KeepBut.trans (kp0 HK.out) hk (.inl rfl)) hb hi; clear HK HB HI0; obtain ⟨HO559, HK, HB, HI0⟩ := n_; (try clear hb hk hi ho0)) | ((with_reducible refine gate_callee (f := 122) rfl ?_); refine gc (some 7) (spec_l1Below.calls g s0_0 qa1_1 qa1_2 10 qb1_0 qb1_1 qb1_2 w0 _ (IsS135.q0 HI0.out) (bq1 HB.out (IsS135.ge HI0.out)) Qb1.out) Try.func122 ?_; rintro e w23 ⟨rfl, hi, hb, hk⟩; refine ⟨_, rfl, ?_⟩; have n_ := ak4 (Kd.R_mono (Kd.R_keep (IsS135.apart (show IsS135 w0 _ g s0_0 qa1_1 qa1_2 from IsS135.q0 HI0.out) (kqR HO559.out) (by decide)) hk (fun _ h => h.2)) (fun _ h => h.1)) (KeepBut.trans (kp0 HK.out) hk (.inl rfl)) hb hi; clear HO559 HK HB HI0; obtain ⟨HO559, HK, HB, HI0⟩ := n_; (try clear hb hk hi)))
   go_loopg [3] k (fun kq v3 w' => ∃ (x3_1 : List Int) (x1001_1 : Int) (x1002_1 : Int), Aside0 (spec_l2Any.l0 kq x3_1 s0_0 x1001_1 x1002_1 = some (r1, r2, r3)) ∧ Aside0 (kq ≤ k) ∧ Aside0 (Kd.R (Kd.int .i64) 3 w' w.heap.size (fun _ => True) v3 x3_1) ∧ Aside0 (IsS135 w0 w' g s0_0 x1001_1 x1002_1) ∧ Aside0 (KeepBut w w' g none) ∧ Aside0 (Below w0.heap.size w0 w'))
   case atStart => exact ⟨(qa1_0), (qb1_1), (qb1_2), H', ⟨Nat.le_refl _⟩, ⟨kqR HO559.out⟩, ⟨IsS135.q0 HI0.out⟩, ⟨kp0 HK.out⟩, ⟨bq1 HB.out (IsS135.ge HI0.out)⟩⟩
   case round =>
    clear H'
    try clear c1
    try clear p1
    try clear q1
    try clear hx1
    try clear qi1
    try clear hf1
    try clear c2
    try clear p2
    try clear c4
    try clear c4b0
    try clear c4b1
    try clear c8
    try clear c9
    try clear c9b0
    try clear c9b1
    try clear c11
    try clear c11b0
    try clear c11b1
    try clear c12
    try clear p12
    try clear q12
    try clear hx12
    try clear qi12
    try clear hf12
    try clear c13
    try clear c21
    try clear c21b0
    try clear c21b1
    try clear hx12_0
    try clear p12
    try clear q12
    obtain ⟨x3_1, x1001_1, x1002_1, HA, HK1, HO_3, HI0, HK, HB⟩ := hrel
    cases gk with
    | zero => exact absurd HA.out (by simp [spec_l2Any.l0])
    | succ k1 =>
     have H := HA.out
     clear HA
     simp only [spec_l2Any.l0] at H
     replace H := be H
     obtain ⟨⟨t575, t576, t577⟩, A24, H⟩ := H
     try dsimp only at H
     replace H := il' H
     rcases H with ⟨-, c25b0, H⟩ | ⟨-, c25b0, H⟩
     · simp only [Option.some.injEq, Prod.mk.injEq] at H
       obtain ⟨rfl, rfl, rfl⟩ := H
       obtain ⟨Ao30, co30, eo30⟩ := Kd.R_slice HO_3.out
       subst eo30
       go_wp2_with (first | ((with_reducible refine gate_callee (f := 122) rfl ?_); refine gc (some 23) (spec_l1Below.calls g s0_0 x1001_1 x1002_1 2 t575 t576 t577 w0 _ (IsS135.q0 HI0.out) (bq1 HB.out (IsS135.ge HI0.out)) A24.out) Try.func122 ?_; rintro e w31 ⟨rfl, hi, hb, hk⟩; refine ⟨_, rfl, ?_⟩; have n_ := ak4 (Kd.R_mono (Kd.R_keep (IsS135.apart (show IsS135 w0 _ g s0_0 x1001_1 x1002_1 from IsS135.q0 HI0.out) (kqR HO_3.out) (by decide)) hk (fun _ h => h.2)) (fun _ h => h.1)) (KeepBut.trans (kp0 HK.out) hk (.inl rfl)) hb hi; clear HO_3 HK HB HI0; obtain ⟨HO_3, HK, HB, HI0⟩ := n_; (try clear hb hk hi)))
       go_ret
       exact ⟨_, rq, kqR HO_3.out, IsS135.q0 HI0.out, bq1 HB.out (IsS135.ge HI0.out), kp0 HK.out⟩
     replace H := nq H
     obtain ⟨c26, H⟩ := H
     have LMc26 := am c26
     clear c26
     generalize hy578 : ((x3_1 ++ [1]) : List Int) = y578 at H
     have Ny578 := am hy578.symm
     clear hy578
     have H' := am H
     clear H
     obtain ⟨Ao27, co27, eo27⟩ := Kd.R_slice HO_3.out
     subst eo27
     go_wp2_with (first | ((with_reducible refine gate_callee (f := 122) rfl ?_); refine gc (some 23) (spec_l1Below.calls g s0_0 x1001_1 x1002_1 2 t575 t576 t577 w0 _ (IsS135.q0 HI0.out) (bq1 HB.out (IsS135.ge HI0.out)) A24.out) Try.func122 ?_; rintro e w28 ⟨rfl, hi, hb, hk⟩; refine ⟨_, rfl, ?_⟩; have n_ := ak4 (Kd.R_mono (Kd.R_keep (IsS135.apart (show IsS135 w0 _ g s0_0 x1001_1 x1002_1 from IsS135.q0 HI0.out) (kqR HO_3.out) (by decide)) hk (fun _ h => h.2)) (fun _ h => h.1)) (KeepBut.trans (kp0 HK.out) hk (.inl rfl)) hb hi; clear HO_3 HK HB HI0; obtain ⟨HO_3, HK, HB, HI0⟩ := n_; (try clear hb hk hi)) | ((with_reducible refine gate_builtin (b := .append) (xs := #[.tmp 26, .tmp 27]) rfl ?_); at_builtin; refine Kd.R_append (Kd.int .i64) w.heap.size rfl (.tmp 26) (.tmp 27) 23 3 (.int .i64 0) 8 rfl Try.underlying23 info3 rfl (by decide) (by omega) (.slice Ao27 x3_1.length co27) x3_1 1 [.int .i64 1] (fun _ => True) (fun _ => False) rfl rfl ?aP (fun _ hk => hk.elim) ?aF ?aO (Below.refl _ _) ?aS ?aL ?_; (case aP => exact rfl); (case aF => exact (fun _ _ => trivial)); (case aO => exact (kqR HO_3.out)); (case aS => exact (keep_size (w := w) (g := g) (row := none) (kp0 HK.out))); (case aL => have := LMc26.out; omega); intro v579 w29 ho hb hg hat; rw [← Ny578.out] at ho; have n_ := ak4 (IsS135.grown (IsS135.q0 HI0.out) hg (IsS135.own_ne HI0.out HO_3.out (by decide))) (below_weaken (bq1 HB.out (IsS135.ge HI0.out)) HL.out hb) (KeepBut.trans (kp0 HK.out) (KeepBut.of_grown hg g) (Kd.R_base2 HO_3.out)) ho; clear HI0 HB HK HO_3; obtain ⟨HI0, HB, HK, HO580⟩ := n_; clear ho hb hg hat))
     go_roundg k1
     case measure => have := HK1.out; omega
     case rel => exact ⟨(y578), (t576), (t577), H', ⟨by have := HK1.out; omega⟩, ⟨kqR HO580.out⟩, ⟨IsS135.q0 HI0.out⟩, ⟨kp0 HK.out⟩, ⟨bq1 HB.out (IsS135.ge HI0.out)⟩⟩
 rotate_right
 rotate_right
 all_goals
  simp only [Option.some.injEq, Prod.mk.injEq] at H
  obtain ⟨rfl, rfl, rfl⟩ := H
  go_enter Try.func134, Try.ntmps134
  go_wp2_with (first | ((with_reducible refine gate_callee (f := 136) rfl ?_); refine gc (some 5) (spec_l2Draw.calls k g s0_0 s0_1 s0_2 qa1_0 qa1_1 qa1_2 w0 _ (IsS135.q0 HI0.out) (bq1 HB.out (IsS135.ge HI0.out)) Qa1.out) Try.func136 ?_; rintro e w_ ⟨v558, rfl, ho_, hi, hb, hk⟩; refine ⟨_, rfl, ?_⟩; have n_ := ak4 (Kd.R_lower ho_ (keep_size (w := w) (g := g) (row := none) (kp0 HK.out))) (KeepBut.trans (kp0 HK.out) hk (.inl rfl)) hb hi; clear HK HB HI0; obtain ⟨HO559, HK, HB, HI0⟩ := n_; (try clear hb hk hi ho_)) | ((with_reducible refine gate_callee (f := 122) rfl ?_); refine gc (some 7) (spec_l1Below.calls g s0_0 qa1_1 qa1_2 10 qb1_0 qb1_1 qb1_2 w0 _ (IsS135.q0 HI0.out) (bq1 HB.out (IsS135.ge HI0.out)) Qb1.out) Try.func122 ?_; rintro e w_ ⟨rfl, hi, hb, hk⟩; refine ⟨_, rfl, ?_⟩; have n_ := ak4 (Kd.R_mono (Kd.R_keep (IsS135.apart (show IsS135 w0 _ g s0_0 qa1_1 qa1_2 from IsS135.q0 HI0.out) (kqR HO559.out) (by decide)) hk (fun _ h => h.2)) (fun _ h => h.1)) (KeepBut.trans (kp0 HK.out) hk (.inl rfl)) hb hi; clear HO559 HK HB HI0; obtain ⟨HO559, HK, HB, HI0⟩ := n_; (try clear hb hk hi)) | ((with_reducible refine gate_dst (N := 10) rfl ?_); refine Kd.R_lit (Kd.int .i64) _ 3 ?hg (N := 10) ?hd (xs := ([] : List Int)) (inner := []) (ok := fun _ => True) (okp := fun _ => True) ?hr ?hp (fun _ hk => hk) trivial (Below.refl _ _) (Nat.le_refl _) (by simp) ?_; (case hd => rfl); (case hg => rfl); (case hr => exact gs); (case hp => exact (Reps.none _ _)); intro v566 w_ ho_ hb hg_ hnew_; clear hg_ hnew_; (first | rw [← Ny565.out] at ho_ | (simp only [Int.reduceToNat] at ho_; rw [← Ny565.out] at ho_)); have n_ := ak5 (re_ HO559 ho_ hb) (Kd.R_lower (Kd.R_new' ho_ (Kd.R_lt (kqR HO559.out))) (keep_size (w := w) (g := g) (row := none) (kp0 HK.out))) (IsS135.below (IsS135.q0 HI0.out) hb) (KeepBut.trans (kp0 HK.out) (KeepBut.of_below hb g none) (.inl rfl)) (below_step (bq1 HB.out (IsS135.ge HI0.out)) hb); clear HO559 HI0 HK HB; obtain ⟨HO559, HO567, HI0, HK, HB⟩ := n_; clear hb ho_))
  first
  | go_ret
    exact ⟨_, rq, by refine kr ?_; exact Kd.R_mono HO567.out (fun _ hk => trivial), IsS135.q0 HI0.out, bq1 HB.out (IsS135.ge HI0.out), kp0 HK.out⟩
  | go_ret
    exact ⟨_, rq, kqR HO559.out, IsS135.q0 HI0.out, bq1 HB.out (IsS135.ge HI0.out), kp0 HK.out⟩
/-! ### spec_l3Any: function 104 -/
def spec_l3Any.f (k : Nat) (s0_0 : List Int) (s0_1 : Int) (s0_2 : Int) : Option (Int × Int × ByteArray × List Int × Int × Int) := (spec_l3Draw.f k s0_0 s0_1 s0_2).bind fun bt582 => ((spec_l1Below.f s0_0 bt582.2.2.2.2.1 bt582.2.2.2.2.2 12).bind fun bt591 => (if bt591.1 = 0 then ((spec_l1Int.f s0_0 bt591.2.1 bt591.2.2 (([0, 1, 2, 4, 5, 6, 128, 129, 130] : List Int))).bind fun bt597 => (some (bt597.1, bt582.2.1, bt582.2.2.1, bt582.2.2.2.1, bt597.2.1, bt597.2.2))) else (if bt591.1 = 1 then ((spec_l1Num.f s0_0 bt591.2.1 bt591.2.2).bind fun bt600 => (some (bt582.1, bt600.1, bt582.2.2.1, bt582.2.2.2.1, bt600.2.1, bt600.2.2))) else (if bt591.1 = 2 then ((spec_l1Below.f s0_0 bt591.2.1 bt591.2.2 2).bind fun bt603 => (if 0 ≤ (wrap64 (20 + bt603.1)) then (if (wrap64 (20 + bt603.1) : Int).toNat ≤ 281474976710656 then (some (bt582.1, bt582.2.1, strOfNums (List.replicate (wrap64 (20 + bt603.1) : Int).toNat 0), bt582.2.2.2.1, bt603.2.1, bt603.2.2)) else (none)) else (none))) else (if bt591.1 = 3 then ((spec_l2Any.f k s0_0 bt591.2.1 bt591.2.2).bind fun bt609 => (some (bt582.1, bt582.2.1, bt582.2.2.1, bt609.1, bt609.2.1, bt609.2.2))) else (some (bt582.1, bt582.2.1, bt582.2.2.1, bt582.2.2.2.1, bt591.2.1, bt591.2.2)))))))
set_option maxHeartbeats 8000000 in
set_option maxRecDepth 100000 in
theorem spec_l3Any.calls (k : Nat) (g : Nat) (s0_0 : List Int) (s0_1 : Int) (s0_2 : Int) (r1 : Int) (r2 : Int) (r3 : ByteArray) (r4 : List Int) (r5 : Int) (r6 : Int) (w0 w : World) (hI : IsS135 w0 w g s0_0 s0_1 s0_2) (hB : Below w0.heap.size w0 w) (h : spec_l3Any.f k s0_0 s0_1 s0_2 = some (r1, r2, r3, r4, r5, r6)) :
 Calls Try.prog 104 #[.pointer (some ⟨g, 0, none⟩)] w fun e w' => ∃ v3_ : Value, e = .returned (.agg #[.int .i64 r1, .int .i64 r2, .string r3, v3_]) ∧ Kd.R (Kd.int .i64) 3 w' w.heap.size (fun _ => True) v3_ r4 ∧ IsS135 w0 w' g s0_0 r5 r6 ∧ Below w0.heap.size w0 w' ∧ KeepBut w w' g none := by
 have hu29 := Try.underlying29
 have HI0 := am hI
 have HK := am (KeepBut.refl w g none)
 have HL := am hB.size
 clear hI
 have HW0 := am hB.size
 have HB := am hB
 clear hB
 have H := h
 clear h
 unfold spec_l3Any.f at H
 replace H := be H
 obtain ⟨⟨qa1_0, qa1_1, qa1_2, qa1_3, qa1_4, qa1_5⟩, Qa1, H⟩ := H
 try dsimp only at H
 replace H := be H
 obtain ⟨⟨qb1_0, qb1_1, qb1_2⟩, Qb1, H⟩ := H
 try dsimp only at H
 replace H := iq H
 rcases H with ⟨-, c4b0, c4b1, H⟩ | ⟨c4, c4b0, c4b1, H⟩
 generalize hy594 : ((([0, 1, 2, 4, 5, 6, 128, 129, 130] : List Int)) : List Int) = y594 at H
 have Ny594 := am hy594.symm
 clear hy594
 replace H := be H
 obtain ⟨⟨qc1_0, qc1_1, qc1_2⟩, Qc1, H⟩ := H
 try dsimp only at H
 have z0 := trivial
 rotate_left
 replace H := iq H
 rcases H with ⟨-, c21b0, c21b1, H⟩ | ⟨c21, c21b0, c21b1, H⟩
 replace H := be H
 obtain ⟨⟨qd1_0, qd1_1, qd1_2⟩, Qd1, H⟩ := H
 try dsimp only at H
 have z0 := trivial
 rotate_left
 replace H := iq H
 rcases H with ⟨-, c35b0, c35b1, H⟩ | ⟨c35, c35b0, c35b1, H⟩
 replace H := be H
 obtain ⟨⟨qb2_0, qb2_1, qb2_2⟩, Qb2, H⟩ := H
 try dsimp only at H
 obtain ⟨ji37, hji37⟩ : ∃ j_ : Int, (wrap64 (20 + qb2_0)) = j_ := ⟨_, rfl⟩
 first | rw [hji37] at H | simp only [hji37] at H
 (try rw [hji37] at Qa1)
 (try rw [hji37] at Qb1)
 (try rw [hji37] at Qb2)
 have hji37w : (IntKind.i64.wrap (20 + qb2_0)) = ji37 := (i64_w _).trans hji37
 replace H := nq H
 obtain ⟨c38, H⟩ := H
 have c38b0 := eq_true c38
 have c38b1 : decide (0 ≤ (ji37)) = true := decide_eq_true c38
 clear c38
 replace H := nq H
 obtain ⟨c39, H⟩ := H
 have c39b0 := eq_true c39
 have c39b1 : decide ((ji37 : Int).toNat ≤ 281474976710656) = true := decide_eq_true c39
 clear c39
 generalize hy606 : ((List.replicate (ji37 : Int).toNat 0) : List Int) = y606 at H
 have Ny606 := am hy606.symm
 clear hy606
 have z1 := trivial
 rotate_left
 replace H := iq' H
 rcases H with ⟨c55, c55b0, c55b1, H⟩ | ⟨-, c55b0, c55b1, H⟩
 have z0 := trivial
 rotate_left
 replace H := be H
 obtain ⟨⟨qe1_0, qe1_1, qe1_2⟩, Qe1, H⟩ := H
 try dsimp only at H
 have z0 := trivial
 rotate_right
 rotate_right
 rotate_right
 rotate_right
 all_goals
  simp only [Option.some.injEq, Prod.mk.injEq] at H
  obtain ⟨rfl, rfl, rfl, rfl, rfl, rfl⟩ := H
  go_enter Try.func104, Try.ntmps104
  go_wp2_with (first | ((with_reducible refine gate_dst (N := 2) rfl ?_); refine bxe 2 #[.int .i64 0, .int .i64 0, .string (⟨#[]⟩ : ByteArray), .slice none 0 0] 29 ?_; intro gb581 hg w_ hbox hb; have n_ := ak8 (IsS135.below (IsS135.q0 HI0.out) hb) (KeepBut.trans (kp0 HK.out) (KeepBut.of_below hb g none) (.inl rfl)) (below_step (bq1 HB.out (IsS135.ge HI0.out)) hb) hbox ((by rw [hg]; exact (keep_size (w := w) (g := g) (row := none) (kp0 HK.out)) : w.heap.size ≤ gb581)) ((Nat.le_trans HW0.out (by rw [hg]; exact (keep_size (w := w) (g := g) (row := none) (kp0 HK.out)) : w.heap.size ≤ gb581) : w0.heap.size ≤ gb581)) ((by rw [hg]; exact Nat.ne_of_lt (IsS135.lt (show IsS135 w0 _ g s0_0 s0_1 s0_2 from IsS135.q0 HI0.out)) : g ≠ gb581)) ((by rw [hg]; exact Nat.ne_of_gt (IsS135.lt (show IsS135 w0 _ g s0_0 s0_1 s0_2 from IsS135.q0 HI0.out)) : gb581 ≠ g)); clear HI0 HK HB; obtain ⟨HI0, HK, HB, BK581, GW581, GE581, NB0_581, NB581_0⟩ := n_; clear hb hbox hg) | ((with_reducible refine gate_callee (f := 105) rfl ?_); refine gc (some 5) (spec_l3Draw.calls k g s0_0 s0_1 s0_2 qa1_0 qa1_1 qa1_2 qa1_3 qa1_4 qa1_5 w0 _ (IsS135.q1 HI0.out NB0_581.out) (bq2 HB.out (IsS135.ge HI0.out) GE581.out) Qa1.out) Try.func105 ?_; rintro e w_ ⟨v586, rfl, ho_, hi, hb, hk⟩; refine ⟨_, rfl, ?_⟩; have n_ := ak5 (KeepBut.blk hk (zb BK581.out) NB581_0.out (by simp)) (Kd.R_lower ho_ (keep_size (w := w) (g := g) (row := none) (kp1 HK.out GW581.out))) (KeepBut.trans (kp1 HK.out GW581.out) hk (.inl rfl)) hb hi; clear BK581 HK HB HI0; obtain ⟨BK581, HO587, HK, HB, HI0⟩ := n_; (try clear hb hk hi ho_); obtain ⟨Ao_587, co_587, eo_587⟩ := Kd.R_slice HO587.out; subst eo_587) | ((with_reducible refine gate_dst (N := 3) rfl ?_); refine bxe 3 #[.int .i64 0, .int .i64 0, .string (⟨#[]⟩ : ByteArray), .slice none 0 0] 29 ?_; intro gb590 hg w_ hbox hb; have n_ := ak12 (rb HO587 hb) (IsS135.below (IsS135.q1 HI0.out NB0_581.out) hb) (kb BK581 hb) (KeepBut.trans (kp1 HK.out GW581.out) (KeepBut.of_below hb g none) (.inl rfl)) (below_step (bq2 HB.out (IsS135.ge HI0.out) GE581.out) hb) hbox ((by rw [hg]; exact (keep_size (w := w) (g := g) (row := none) (kp1 HK.out GW581.out)) : w.heap.size ≤ gb590)) ((Nat.le_trans HW0.out (by rw [hg]; exact (keep_size (w := w) (g := g) (row := none) (kp1 HK.out GW581.out)) : w.heap.size ≤ gb590) : w0.heap.size ≤ gb590)) (nL hg BK581) (nG hg BK581) ((by rw [hg]; exact Nat.ne_of_lt (IsS135.lt (show IsS135 w0 _ g s0_0 qa1_4 qa1_5 from IsS135.q1 HI0.out NB0_581.out)) : g ≠ gb590)) ((by rw [hg]; exact Nat.ne_of_gt (IsS135.lt (show IsS135 w0 _ g s0_0 qa1_4 qa1_5 from IsS135.q1 HI0.out NB0_581.out)) : gb590 ≠ g)); clear HO587 HI0 BK581 HK HB; obtain ⟨HO587, HI0, BK581, HK, HB, BK590, GW590, GE590, NB581_590, NB590_581, NB0_590, NB590_0⟩ := n_; clear hb hbox hg; have hNB590_581 := NB590_581.out; have hNB581_590 := NB581_590.out; have hNB590_0 := NB590_0.out; have hNB0_590 := NB0_590.out; obtain ⟨hcz_590_0, hcz_590_1, hcz_590_2, hcz_590_3, hfz_590_0, hfz_590_1, hfz_590_2, hfz_590_3⟩ := cl4 BK590.out) | ((with_reducible refine gate_callee (f := 122) rfl ?_); (first | have := z0 | have := z1); refine gc (some 7) (spec_l1Below.calls g s0_0 qa1_4 qa1_5 12 qb1_0 qb1_1 qb1_2 w0 _ (IsS135.q2 HI0.out NB0_581.out NB0_590.out) (bq3 HB.out (IsS135.ge HI0.out) GE581.out GE590.out) Qb1.out) Try.func122 ?_; rintro e w_ ⟨rfl, hi, hb, hk⟩; refine ⟨_, rfl, ?_⟩; have n_ := ak6 (KeepBut.blk hk (g' := gb581) (o := .cells #[.int .i64 0, .int .i64 0, .string (⟨#[]⟩ : ByteArray), .slice none 0 0] 29 (0, 0)) (by refine zr ?_; refine blk_far ?_ NB581_590.out _; refine zr ?_; refine blk_far ?_ NB581_590.out _; refine zr ?_; refine blk_far ?_ NB581_590.out _; refine zr ?_; refine blk_far ?_ NB581_590.out _; refine zr ?_; exact BK581.out) NB581_0.out (by simp)) (Kd.R_mono (Kd.R_keep (IsS135.apart (show IsS135 w0 _ g s0_0 qa1_4 qa1_5 from IsS135.q2 HI0.out NB0_581.out NB0_590.out) (by refine kr ?_; exact (Kd.R_mono (rf4 gb590 (.int .i64 qa1_0) (.int .i64 qa1_1) (.string qa1_2) (.slice Ao_587 qa1_3.length co_587) (Kd.R_types HO587.out BK590.out (by decide)) (fun _ hk => hk.2)) (fun _ h_ => h_.1))) (by decide)) hk (fun _ h => h.2)) (fun _ h => h.1)) (KeepBut.blk hk (g' := gb590) (o := .cells #[.int .i64 qa1_0, .int .i64 qa1_1, .string qa1_2, .slice Ao_587 qa1_3.length co_587] 29 (0, 0)) (by refine zr ?_; exact bp4 (zb BK590.out)) NB590_0.out (by simp)) (KeepBut.trans (kp2 HK.out GW581.out GW590.out) hk (.inl rfl)) hb hi; clear BK581 HO587 BK590 HK HB HI0; obtain ⟨BK581, HO587, BK590, HK, HB, HI0⟩ := n_; (try clear hb hk hi); obtain ⟨hcz_590_0, hcz_590_1, hcz_590_2, hcz_590_3, hfz_590_0, hfz_590_1, hfz_590_2, hfz_590_3⟩ := cl4 BK590.out; have hNB581_0 := NB581_0.out; have hNB0_581 := NB0_581.out; obtain ⟨hcz_581_0, hcz_581_1, hcz_581_2, hcz_581_3, hfz_581_0, hfz_581_1, hfz_581_2, hfz_581_3⟩ := cl4 BK581.out) | ((with_reducible refine gate_callee (f := 122) rfl ?_); have := z1; refine gc (some 22) (spec_l1Below.calls g s0_0 qb1_1 qb1_2 2 qb2_0 qb2_1 qb2_2 w0 _ (IsS135.q2 HI0.out NB0_581.out NB0_590.out) (bq3 HB.out (IsS135.ge HI0.out) GE581.out GE590.out) Qb2.out) Try.func122 ?_; rintro e w_ ⟨rfl, hi, hb, hk⟩; refine ⟨_, rfl, ?_⟩; have n_ := ak6 (KeepBut.blk hk (zb BK581.out) NB581_0.out (by simp)) (Kd.R_mono (Kd.R_keep (IsS135.apart (show IsS135 w0 _ g s0_0 qb1_1 qb1_2 from IsS135.q2 HI0.out NB0_581.out NB0_590.out) (kqR HO587.out) (by decide)) hk (fun _ h => h.2)) (fun _ h => h.1)) (KeepBut.blk hk (zb BK590.out) NB590_0.out (by simp)) (KeepBut.trans (kp2 HK.out GW581.out GW590.out) hk (.inl rfl)) hb hi; clear BK581 HO587 BK590 HK HB HI0; obtain ⟨BK581, HO587, BK590, HK, HB, HI0⟩ := n_; (try clear hb hk hi)) | ((with_reducible refine gate_dst (N := 11) rfl ?_); refine Kd.R_lit (Kd.int .i64) _ 3 ?hg (N := 11) ?hd (xs := ([0, 1, 2, 4, 5, 6, 128, 129, 130] : List Int)) (inner := [.int .i64 0, .int .i64 1, .int .i64 2, .int .i64 4, .int .i64 5, .int .i64 6, .int .i64 128, .int .i64 129, .int .i64 130]) (ok := fun _ => True) (okp := fun _ => True) ?hr ?hp (fun _ hk => hk) trivial (Below.refl _ _) (Nat.le_refl _) (by simp) ?_; (case hd => rfl); (case hg => rfl); (case hr => exact gs); (case hp => exact (Reps.one (ri 0) (Reps.one (ri 1) (Reps.one (ri 2) (Reps.one (ri 4) (Reps.one (ri 5) (Reps.one (ri 6) (Reps.one (ri 128) (Reps.one (ri 129) (Reps.one (ri 130) (Reps.none _ _))))))))))); intro v595 w_ ho_ hb hg_ hnew_; clear hg_ hnew_; (first | rw [← Ny594.out] at ho_ | (simp only [Int.reduceToNat] at ho_; rw [← Ny594.out] at ho_)); have n_ := ak7 (re_ HO587 ho_ hb) (Kd.R_lower (Kd.R_new' ho_ (Kd.R_lt (kqR HO587.out))) (keep_size (w := w) (g := g) (row := none) (kp2 HK.out GW581.out GW590.out))) (IsS135.below (IsS135.q2 HI0.out NB0_581.out NB0_590.out) hb) (kb BK581 hb) (kb BK590 hb) (KeepBut.trans (kp2 HK.out GW581.out GW590.out) (KeepBut.of_below hb g none) (.inl rfl)) (below_step (bq3 HB.out (IsS135.ge HI0.out) GE581.out GE590.out) hb); clear HO587 HI0 BK581 BK590 HK HB; obtain ⟨HO587, HO596, HI0, BK581, BK590, HK, HB⟩ := n_; clear hb ho_; obtain ⟨Ao_596, co_596, eo_596⟩ := Kd.R_slice HO596.out; subst eo_596) | ((with_reducible refine gate_callee (f := 86) rfl ?_); refine gc (some 12) (spec_l1Int.calls g s0_0 qb1_1 qb1_2 _ _ y594 qc1_0 qc1_1 qc1_2 w0 _ (IsS135.q2 HI0.out NB0_581.out NB0_590.out) (bq3 HB.out (IsS135.ge HI0.out) GE581.out GE590.out) (cq (Kd.R_reads' HO596.out).2.2) ((Kd.R_reads' HO596.out).2.1) (far_slice (IsS135.own_ne HI0.out HO596.out (by decide))) Qc1.out) Try.func86 ?_; rintro e w_ ⟨rfl, hi, hb, hk⟩; refine ⟨_, rfl, ?_⟩; have n_ := ak7 (KeepBut.blk hk (zb BK581.out) NB581_0.out (by simp)) (Kd.R_mono (Kd.R_keep (IsS135.apart (show IsS135 w0 _ g s0_0 qb1_1 qb1_2 from IsS135.q2 HI0.out NB0_581.out NB0_590.out) (kqR HO587.out) (by decide)) hk (fun _ h => h.2)) (fun _ h => h.1)) (KeepBut.blk hk (zb BK590.out) NB590_0.out (by simp)) (Kd.R_mono (Kd.R_keep (IsS135.apart (show IsS135 w0 _ g s0_0 qb1_1 qb1_2 from IsS135.q2 HI0.out NB0_581.out NB0_590.out) (kqR HO596.out) (by decide)) hk (fun _ h => h.2)) (fun _ h => h.1)) (KeepBut.trans (kp2 HK.out GW581.out GW590.out) hk (.inl rfl)) hb hi; clear BK581 HO587 BK590 HO596 HK HB HI0; obtain ⟨BK581, HO587, BK590, HO596, HK, HB, HI0⟩ := n_; (try clear hb hk hi); obtain ⟨hcz_590_0, hcz_590_1, hcz_590_2, hcz_590_3, hfz_590_0, hfz_590_1, hfz_590_2, hfz_590_3⟩ := cl4 BK590.out; have hNB581_0 := NB581_0.out; have hNB0_581 := NB0_581.out; obtain ⟨hcz_581_0, hcz_581_1, hcz_581_2, hcz_581_3, hfz_581_0, hfz_581_1, hfz_581_2, hfz_581_3⟩ := cl4 BK581.out) | ((with_reducible refine gate_callee (f := 133) rfl ?_); refine gc (some 17) (spec_l1Num.calls g s0_0 qb1_1 qb1_2 qd1_0 qd1_1 qd1_2 w0 _ (IsS135.q2 HI0.out NB0_581.out NB0_590.out) (bq3 HB.out (IsS135.ge HI0.out) GE581.out GE590.out) Qd1.out) Try.func133 ?_; rintro e w_ ⟨rfl, hi, hb, hk⟩; refine ⟨_, rfl, ?_⟩; have n_ := ak6 (KeepBut.blk hk (zb BK581.out) NB581_0.out (by simp)) (Kd.R_mono (Kd.R_keep (IsS135.apart (show IsS135 w0 _ g s0_0 qb1_1 qb1_2 from IsS135.q2 HI0.out NB0_581.out NB0_590.out) (kqR HO587.out) (by decide)) hk (fun _ h => h.2)) (fun _ h => h.1)) (KeepBut.blk hk (zb BK590.out) NB590_0.out (by simp)) (KeepBut.trans (kp2 HK.out GW581.out GW590.out) hk (.inl rfl)) hb hi; clear BK581 HO587 BK590 HK HB HI0; obtain ⟨BK581, HO587, BK590, HK, HB, HI0⟩ := n_; (try clear hb hk hi); obtain ⟨hcz_590_0, hcz_590_1, hcz_590_2, hcz_590_3, hfz_590_0, hfz_590_1, hfz_590_2, hfz_590_3⟩ := cl4 BK590.out; have hNB581_0 := NB581_0.out; have hNB0_581 := NB0_581.out; obtain ⟨hcz_581_0, hcz_581_1, hcz_581_2, hcz_581_3, hfz_581_0, hfz_581_1, hfz_581_2, hfz_581_3⟩ := cl4 BK581.out) | ((with_reducible refine gate_dst (N := 24) rfl ?_); refine Kd.R_make (Kd.int .u8) _ 5 rfl (N := 24) rfl 22 _ _ rfl ji37 rfl rfl Try.underlying22 (.int .u8 0) 1 info5 rfl (by decide) (by omega) 0 (ok := fun _ => True) (okp := fun _ => True) rfl (fun _ hk => hk) trivial (oda) (Nat.le_trans (Nat.mul_le_mul_right _ (oda : ji37.toNat ≤ 281474976710656)) (by omega)) (Below.refl _ _) (Nat.le_refl _) ?_; intro v607 w_ ho_ hb hg_ hnew_; clear hg_ hnew_; (first | rw [← Ny606.out] at ho_ | (simp only [Int.reduceToNat] at ho_; rw [← Ny606.out] at ho_)); have n_ := ak7 (rb HO587 hb) (Kd.R_lower ho_ (keep_size (w := w) (g := g) (row := none) (kp2 HK.out GW581.out GW590.out))) (IsS135.below (IsS135.q2 HI0.out NB0_581.out NB0_590.out) hb) (kb BK581 hb) (kb BK590 hb) (KeepBut.trans (kp2 HK.out GW581.out GW590.out) (KeepBut.of_below hb g none) (.inl rfl)) (below_step (bq3 HB.out (IsS135.ge HI0.out) GE581.out GE590.out) hb); clear HO587 HI0 BK581 BK590 HK HB; obtain ⟨HO587, HO608, HI0, BK581, BK590, HK, HB⟩ := n_; clear hb ho_; have hcv_608 := own_string (P := Try.prog) Try.underlying22 Try.underlying5 Try.underlying9 (Kd.own_of_R HO608.out); obtain ⟨hcz_590_0, hcz_590_1, hcz_590_2, hcz_590_3, hfz_590_0, hfz_590_1, hfz_590_2, hfz_590_3⟩ := cl4 BK590.out; have hNB581_0 := NB581_0.out; have hNB0_581 := NB0_581.out; obtain ⟨hcz_581_0, hcz_581_1, hcz_581_2, hcz_581_3, hfz_581_0, hfz_581_1, hfz_581_2, hfz_581_3⟩ := cl4 BK581.out) | ((with_reducible refine gate_callee (f := 134) rfl ?_); refine gc (some 30) (spec_l2Any.calls k g s0_0 qb1_1 qb1_2 qe1_0 qe1_1 qe1_2 w0 _ (IsS135.q2 HI0.out NB0_581.out NB0_590.out) (bq3 HB.out (IsS135.ge HI0.out) GE581.out GE590.out) Qe1.out) Try.func134 ?_; rintro e w_ ⟨v610, rfl, ho_, hi, hb, hk⟩; refine ⟨_, rfl, ?_⟩; have n_ := ak7 (KeepBut.blk hk (zb BK581.out) NB581_0.out (by simp)) (Kd.R_mono (Kd.R_told (Kd.R_oldK (IsS135.apart (show IsS135 w0 _ g s0_0 qb1_1 qb1_2 from IsS135.q2 HI0.out NB0_581.out NB0_590.out) (kqR HO587.out) (by decide)) hk) (Kd.R_base ho_)) (fun _ h_ => h_.1)) (KeepBut.blk hk (zb BK590.out) NB590_0.out (by simp)) (Kd.R_lower (Kd.R_new' ho_ (Kd.R_lt (kqR HO587.out))) (keep_size (w := w) (g := g) (row := none) (kp2 HK.out GW581.out GW590.out))) (KeepBut.trans (kp2 HK.out GW581.out GW590.out) hk (.inl rfl)) hb hi; clear BK581 HO587 BK590 HK HB HI0; obtain ⟨BK581, HO587, BK590, HO611, HK, HB, HI0⟩ := n_; (try clear hb hk hi ho_); obtain ⟨Ao_611, co_611, eo_611⟩ := Kd.R_slice HO611.out; subst eo_611; obtain ⟨hcz_590_0, hcz_590_1, hcz_590_2, hcz_590_3, hfz_590_0, hfz_590_1, hfz_590_2, hfz_590_3⟩ := cl4 BK590.out; have hNB581_0 := NB581_0.out; have hNB0_581 := NB0_581.out; obtain ⟨hcz_581_0, hcz_581_1, hcz_581_2, hcz_581_3, hfz_581_0, hfz_581_1, hfz_581_2, hfz_581_3⟩ := cl4 BK581.out))
  first
  | refine bodyPost_ret (results_cell_row rfl _ _ gb581 29 #[.int .i64 qa1_0, .int .i64 qa1_1, .string (strOfNums y606), .slice Ao_587 qa1_3.length co_587] (0, 0) _ rfl (by refine zr ?_; refine blk_put (cs := #[.int .i64 qa1_0, .int .i64 qa1_1, .string (strOfNums y606), .slice none 0 0]) ?_ 3 _ rfl; refine zr ?_; refine blk_put (cs := #[.int .i64 qa1_0, .int .i64 qa1_1, .string (⟨#[]⟩ : ByteArray), .slice none 0 0]) ?_ 2 _ rfl; refine zr ?_; refine blk_put (cs := #[.int .i64 qa1_0, .int .i64 0, .string (⟨#[]⟩ : ByteArray), .slice none 0 0]) ?_ 1 _ rfl; refine zr ?_; refine blk_put (cs := #[.int .i64 0, .int .i64 0, .string (⟨#[]⟩ : ByteArray), .slice none 0 0]) ?_ 0 _ rfl; refine zr ?_; refine blk_far ?_ NB581_590.out _; refine zr ?_; exact BK581.out) Try.underlying29 rfl (by kernel_rfl)) rfl ?_
    exact ⟨_, by first | rfl | (simp [errW_none, errW_some] <;> rfl) | (simp only [← hji37]; first | rfl | (simp [errW_none, errW_some] <;> rfl)) | (simp [*, errW_none, errW_some] <;> rfl), by refine kr ?_; exact Kd.R_mono (rf4 gb581 (.int .i64 qa1_0) (.int .i64 qa1_1) (.string (strOfNums y606)) (.slice Ao_587 qa1_3.length co_587) (Kd.R_far (p := ⟨gb590, 2, none⟩) (Kd.R_types (Kd.R_types HO587.out BK590.out (by decide)) BK581.out (by decide)) (fun _ hk => hk.1.2) (.string (strOfNums y606))) (fun _ hk => hk.2)) (fun _ hk => trivial), IsS135.q2 HI0.out NB0_581.out NB0_590.out, bq3 HB.out (IsS135.ge HI0.out) GE581.out GE590.out, kp2 HK.out GW581.out GW590.out⟩
  | refine bodyPost_ret (results_cell_row rfl _ _ gb581 29 #[.int .i64 qa1_0, .int .i64 qa1_1, .string qa1_2, .slice Ao_611 qe1_0.length co_611] (0, 0) _ rfl (by refine zr ?_; refine blk_put (cs := #[.int .i64 qa1_0, .int .i64 qa1_1, .string qa1_2, .slice none 0 0]) ?_ 3 _ rfl; refine zr ?_; refine blk_put (cs := #[.int .i64 qa1_0, .int .i64 qa1_1, .string (⟨#[]⟩ : ByteArray), .slice none 0 0]) ?_ 2 _ rfl; refine zr ?_; refine blk_put (cs := #[.int .i64 qa1_0, .int .i64 0, .string (⟨#[]⟩ : ByteArray), .slice none 0 0]) ?_ 1 _ rfl; refine zr ?_; refine blk_put (cs := #[.int .i64 0, .int .i64 0, .string (⟨#[]⟩ : ByteArray), .slice none 0 0]) ?_ 0 _ rfl; refine zr ?_; refine blk_far ?_ NB581_590.out _; refine zr ?_; exact BK581.out) Try.underlying29 rfl (by kernel_rfl)) rfl ?_
    exact ⟨_, rq, by refine kr ?_; exact Kd.R_mono (rf4 gb581 (.int .i64 qa1_0) (.int .i64 qa1_1) (.string qa1_2) (.slice Ao_611 qe1_0.length co_611) (Kd.R_far (p := ⟨gb590, 3, none⟩) (Kd.R_types (Kd.R_types HO611.out BK590.out (by decide)) BK581.out (by decide)) (fun _ hk => hk.1.2) (.slice Ao_611 qe1_0.length co_611)) (fun _ hk => hk.2)) (fun _ hk => trivial), IsS135.q2 HI0.out NB0_581.out NB0_590.out, bq3 HB.out (IsS135.ge HI0.out) GE581.out GE590.out, kp2 HK.out GW581.out GW590.out⟩
  | refine bodyPost_ret (results_cell_row rfl _ _ gb581 29 #[.int .i64 qc1_0, .int .i64 qa1_1, .string qa1_2, .slice Ao_587 qa1_3.length co_587] (0, 0) _ rfl (by refine zr ?_; refine blk_put (cs := #[.int .i64 qc1_0, .int .i64 qa1_1, .string qa1_2, .slice none 0 0]) ?_ 3 _ rfl; refine zr ?_; refine blk_put (cs := #[.int .i64 qc1_0, .int .i64 qa1_1, .string (⟨#[]⟩ : ByteArray), .slice none 0 0]) ?_ 2 _ rfl; refine zr ?_; refine blk_put (cs := #[.int .i64 qc1_0, .int .i64 0, .string (⟨#[]⟩ : ByteArray), .slice none 0 0]) ?_ 1 _ rfl; refine zr ?_; refine blk_put (cs := #[.int .i64 0, .int .i64 0, .string (⟨#[]⟩ : ByteArray), .slice none 0 0]) ?_ 0 _ rfl; refine zr ?_; refine blk_far ?_ NB581_590.out _; refine zr ?_; exact BK581.out) Try.underlying29 rfl (by kernel_rfl)) rfl ?_
    exact ⟨_, rq, by refine kr ?_; exact Kd.R_mono (rf4 gb581 (.int .i64 qc1_0) (.int .i64 qa1_1) (.string qa1_2) (.slice Ao_587 qa1_3.length co_587) (Kd.R_far (p := ⟨gb590, 0, none⟩) (Kd.R_types (Kd.R_types HO587.out BK590.out (by decide)) BK581.out (by decide)) (fun _ hk => hk.1.2) (.int .i64 qc1_0)) (fun _ hk => hk.2)) (fun _ hk => trivial), IsS135.q2 HI0.out NB0_581.out NB0_590.out, bq3 HB.out (IsS135.ge HI0.out) GE581.out GE590.out, kp2 HK.out GW581.out GW590.out⟩
  | refine bodyPost_ret (results_cell_row rfl _ _ gb581 29 #[.int .i64 qa1_0, .int .i64 qd1_0, .string qa1_2, .slice Ao_587 qa1_3.length co_587] (0, 0) _ rfl (by refine zr ?_; refine blk_put (cs := #[.int .i64 qa1_0, .int .i64 qd1_0, .string qa1_2, .slice none 0 0]) ?_ 3 _ rfl; refine zr ?_; refine blk_put (cs := #[.int .i64 qa1_0, .int .i64 qd1_0, .string (⟨#[]⟩ : ByteArray), .slice none 0 0]) ?_ 2 _ rfl; refine zr ?_; refine blk_put (cs := #[.int .i64 qa1_0, .int .i64 0, .string (⟨#[]⟩ : ByteArray), .slice none 0 0]) ?_ 1 _ rfl; refine zr ?_; refine blk_put (cs := #[.int .i64 0, .int .i64 0, .string (⟨#[]⟩ : ByteArray), .slice none 0 0]) ?_ 0 _ rfl; refine zr ?_; refine blk_far ?_ NB581_590.out _; refine zr ?_; exact BK581.out) Try.underlying29 rfl (by kernel_rfl)) rfl ?_
    exact ⟨_, rq, by refine kr ?_; exact Kd.R_mono (rf4 gb581 (.int .i64 qa1_0) (.int .i64 qd1_0) (.string qa1_2) (.slice Ao_587 qa1_3.length co_587) (Kd.R_far (p := ⟨gb590, 1, none⟩) (Kd.R_types (Kd.R_types HO587.out BK590.out (by decide)) BK581.out (by decide)) (fun _ hk => hk.1.2) (.int .i64 qd1_0)) (fun _ hk => hk.2)) (fun _ hk => trivial), IsS135.q2 HI0.out NB0_581.out NB0_590.out, bq3 HB.out (IsS135.ge HI0.out) GE581.out GE590.out, kp2 HK.out GW581.out GW590.out⟩
  | refine bodyPost_ret (results_cell_row rfl _ _ gb581 29 #[.int .i64 qa1_0, .int .i64 qa1_1, .string qa1_2, .slice Ao_587 qa1_3.length co_587] (0, 0) _ rfl (by refine zr ?_; exact bp4 (zb BK581.out)) Try.underlying29 rfl (by kernel_rfl)) rfl ?_
    exact ⟨_, rq, by refine kr ?_; exact Kd.R_mono (rf4 gb581 (.int .i64 qa1_0) (.int .i64 qa1_1) (.string qa1_2) (.slice Ao_587 qa1_3.length co_587) (Kd.R_types HO587.out BK581.out (by decide)) (fun _ hk => hk.2)) (fun _ hk => trivial), IsS135.q2 HI0.out NB0_581.out NB0_590.out, bq3 HB.out (IsS135.ge HI0.out) GE581.out GE590.out, kp2 HK.out GW581.out GW590.out⟩
end Go.Proofs.Ythhnfmbfgplelaa.XFnMsgs
