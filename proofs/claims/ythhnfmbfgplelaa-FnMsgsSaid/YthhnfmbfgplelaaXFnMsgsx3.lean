/- The functions that one law reaches, as Lean functions, with their walks: printed by a program of this seat (wip/tools) out of the translation. -/
import Derived.Test.YthhnfmbfgplelaaXFnMsgsx0
import Derived.Test.YthhnfmbfgplelaaXFnMsgsx1
import Derived.Test.YthhnfmbfgplelaaXFnMsgsx2
namespace Go.Proofs.Ythhnfmbfgplelaa.XFnMsgs
open Go.RowKit Go.Proofs.YthhnfmbfgplelaaW.PrintWords Go.Proofs.YthhnfmbfgplelaaW.PrintLast Go.Proofs.YthhnfmbfgplelaaW.PrintMore
attribute [local go_sem] max2_int min2_int max_two min_two max_three min_three max_four min_four   -- for this text's walks alone
set_option linter.unusedVariables false
set_option linter.unusedSimpArgs false

/-! ### spec_PduOk: function 96 -/
mutual
def spec_PduOk.l0 : Nat → Int → Int → Int → Int → Int → List (S116) → Option (Bool)
 | 0, _, _, _, _, _, _ => none
 | k + 1, x3, x135000, x135001, x135002, x135003, x135004 => if x3 < (x135004.length : Int) then (if 0 ≤ x3 then ((spec_OidOk.f k ((rd_T116 x135004 x3).f0)).bind fun t136 => (if t136 = true then ((spec_ValOk.f k ((rd_T116 x135004 x3).f1.f0) ((rd_T116 x135004 x3).f1.f1) ((rd_T116 x135004 x3).f1.f2) ((rd_T116 x135004 x3).f1.f3)).bind fun t138 => (if t138 = true then (spec_PduOk.l0 k (wrap64 (x3 + 1)) x135000 x135001 x135002 x135003 x135004) else (some false))) else (some false))) else (none)) else (if x135000 = 162 then (spec_PduOk.j1 k false x135000 x135001 x135002 x135003 x135004) else (if x135000 = 165 then (spec_PduOk.j1 k false x135000 x135001 x135002 x135003 x135004) else (if x135002 = 0 then (spec_PduOk.j1 k (x135003 != 0) x135000 x135001 x135002 x135003 x135004) else (spec_PduOk.j1 k true x135000 x135001 x135002 x135003 x135004))))
def spec_PduOk.j1 : Nat → Bool → Int → Int → Int → Int → List (S116) → Option (Bool)
 | 0, _, _, _, _, _, _ => none
 | k + 1, x46, x135000, x135001, x135002, x135003, x135004 => if x46 = true then (some false) else ((spec_l4Kind.f x135000).bind fun t139 => (if t139 = true then ((spec_l1Clip.f x135001).bind fun t140 => (if t140 = x135001 then ((spec_l1In.f x135002 0 1000).bind fun t141 => (if t141 = true then ((spec_l1In.f x135003 0 1000).bind fun t142 => (if t142 = true then (some (decide ((x135004.length : Int) ≤ 10))) else (some false))) else (some false))) else (some false))) else (some false)))
end
def spec_PduOk.f (k : Nat) (a0_0 : Int) (a0_1 : Int) (a0_2 : Int) (a0_3 : Int) (l0_4 : List (S116)) : Option (Bool) := spec_PduOk.l0 k 0 a0_0 a0_1 a0_2 a0_3 l0_4
set_option maxHeartbeats 8000000 in
set_option maxRecDepth 100000 in
theorem spec_PduOk.calls (k : Nat) (a0_0 : Int) (a0_1 : Int) (a0_2 : Int) (a0_3 : Int) (A0_4 : Option Addr) (c0_4 : Nat) (l0_4 : List (S116)) (r : Bool) (w : World) (hr0_4 : Kd.C k116 w A0_4 l0_4.length l0_4) (hc0_4 : l0_4.length ≤ c0_4) (h : spec_PduOk.f k a0_0 a0_1 a0_2 a0_3 l0_4 = some r) :
 Calls Try.prog 96 #[.agg #[.int .i64 a0_0, .int .i64 a0_1, .int .i64 a0_2, .int .i64 a0_3, .slice A0_4 l0_4.length c0_4]] w fun e w' => e = .returned (.bool r) ∧ Below w.heap.size w w' := by
 have hu58 := Try.underlying58
 have hu29 := Try.underlying29
 have HR0_4 := am hr0_4
 have HC0_4 := am hc0_4
 clear hr0_4 hc0_4
 have HB := am (Below.refl w.heap.size w)
 have H := h
 clear h
 unfold spec_PduOk.f at H
 have H' := am H
 clear H
 go_enter Try.func96, Try.ntmps96
 go_wp2_with (first | ((with_reducible refine gate_dst (N := 1) rfl ?_); (try (refine gate_guard (by rfl) ?_; dsimp only)); refine bxe 1 #[.int .i64 a0_0, .int .i64 a0_1, .int .i64 a0_2, .int .i64 a0_3, .slice A0_4 l0_4.length c0_4] 58 ?_; intro gb134 hg w2 hbox hb; have n_ := ak4 (below_step (bq HB.out) hb) hbox (bz hg (bq HB.out)) (bz hg (bq HB.out)); clear HB; obtain ⟨HB, BK134, GW134, GE134⟩ := n_; clear hb hbox hg))
 go_loopg [3] k (fun kq v3 w' => ∃ (x3_1 : Int), v3 = .int .i64 x3_1 ∧ Aside0 (spec_PduOk.l0 kq x3_1 a0_0 a0_1 a0_2 a0_3 l0_4 = some r) ∧ Aside0 (kq ≤ k) ∧ Aside0 (w'.heap[gb134]? = some (.cells #[.int .i64 a0_0, .int .i64 a0_1, .int .i64 a0_2, .int .i64 a0_3, (.slice A0_4 l0_4.length c0_4)] 58 (0, 0))) ∧ Aside0 (Below w.heap.size w w'))
 case atStart => exact ⟨(0), sq, H', ⟨Nat.le_refl _⟩, ⟨zq BK134.out⟩, ⟨bq1 HB.out GE134.out⟩⟩
 case round =>
  clear H'
  try clear p2
  obtain ⟨x3_1, rfl, HA, HK1, BK134, HB⟩ := hrel
  cases gk with
  | zero => exact absurd HA.out (by simp [spec_PduOk.l0])
  | succ k1 =>
   have H := HA.out
   clear HA
   simp only [spec_PduOk.l0] at H
   replace H := il H
   rcases H with ⟨-, c3b0, H⟩ | ⟨-, c3b0, H⟩
   · replace H := nl H
     obtain ⟨-, c4b0, H⟩ := H
     replace H := be H
     obtain ⟨t136, A5, H⟩ := H
     cases t136
     · replace H := iF H
       obtain rfl := Option.some.inj H
       obtain ⟨hcz13_0, hcz13_1, hcz13_2, hcz13_3, hcz13_4, hfz13_0, hfz13_1, hfz13_2, hfz13_3, hfz13_4⟩ := cl5 BK134.out
       have p135 : 0 ≤ (x3_1 : Int) := oda
       have q135 : x3_1 < (l0_4.length : Int) := oda
       obtain ⟨ad135, A135_0, c135_0, A135_4, c135_4, e135, hx135_0, hx135_1, hx135_2, hx135_3, hx135_4, hl135_0, hi135_0, hl135_4, hi135_4⟩ := at_T116 HR0_4.out x3_1 p135 q135
       cases e135
       replace hx135_0 := (HB.out.cell (World.block_lt_of_cell? w _ hx135_0)).trans hx135_0
       replace hx135_1 := (HB.out.cell (World.block_lt_of_cell? w _ hx135_1)).trans hx135_1
       replace hx135_2 := (HB.out.cell (World.block_lt_of_cell? w _ hx135_2)).trans hx135_2
       replace hx135_3 := (HB.out.cell (World.block_lt_of_cell? w _ hx135_3)).trans hx135_3
       replace hx135_4 := (HB.out.cell (World.block_lt_of_cell? w _ hx135_4)).trans hx135_4
       have HR135_0 := am hi135_0
       have HC135_0 := am hl135_0
       clear hi135_0 hl135_0
       have HR135_4 := am hi135_4
       have HC135_4 := am hl135_4
       clear hi135_4 hl135_4
       replace p135 := eq_true p135
       replace q135 := eq_true q135
       go_wp2_with (first | (go_at_call 110; refine cm (spec_OidOk.calls k1 _ _ ((rd_T116 l0_4 x3_1).f0) false _ (cq (Kd.C_below HR135_0.out HB.out)) HC135_0.out A5.out) ?_; rintro e w' ⟨rfl, ⟨nd, rfl⟩⟩; (try first | exact ⟨rfl, _, World.drewN_drewN _ _ _⟩ | exact ⟨rfl, _, Eq.trans (World.drewN_drewN _ _ _) (congrArg (World.drewN _) (Nat.add_assoc _ _ _))⟩)))
       go_ret
       exact ⟨rq, bq1 HB.out GE134.out⟩
     replace H := iT H
     replace H := be H
     obtain ⟨qa1_0, Qa1, H⟩ := H
     cases qa1_0
     · replace H := iF H
       obtain rfl := Option.some.inj H
       obtain ⟨hcz11_0, hcz11_1, hcz11_2, hcz11_3, hcz11_4, hfz11_0, hfz11_1, hfz11_2, hfz11_3, hfz11_4⟩ := cl5 BK134.out
       have p135 : 0 ≤ (x3_1 : Int) := oda
       have q135 : x3_1 < (l0_4.length : Int) := oda
       obtain ⟨ad135, A135_0, c135_0, A135_4, c135_4, e135, hx135_0, hx135_1, hx135_2, hx135_3, hx135_4, hl135_0, hi135_0, hl135_4, hi135_4⟩ := at_T116 HR0_4.out x3_1 p135 q135
       cases e135
       replace hx135_0 := (HB.out.cell (World.block_lt_of_cell? w _ hx135_0)).trans hx135_0
       replace hx135_1 := (HB.out.cell (World.block_lt_of_cell? w _ hx135_1)).trans hx135_1
       replace hx135_2 := (HB.out.cell (World.block_lt_of_cell? w _ hx135_2)).trans hx135_2
       replace hx135_3 := (HB.out.cell (World.block_lt_of_cell? w _ hx135_3)).trans hx135_3
       replace hx135_4 := (HB.out.cell (World.block_lt_of_cell? w _ hx135_4)).trans hx135_4
       have HR135_0 := am hi135_0
       have HC135_0 := am hl135_0
       clear hi135_0 hl135_0
       have HR135_4 := am hi135_4
       have HC135_4 := am hl135_4
       clear hi135_4 hl135_4
       replace p135 := eq_true p135
       replace q135 := eq_true q135
       go_wp2_with (first | (go_at_call 110; refine cm (spec_OidOk.calls k1 _ _ ((rd_T116 l0_4 x3_1).f0) true _ (cq (Kd.C_below HR135_0.out HB.out)) HC135_0.out A5.out) ?_; rintro e w' ⟨rfl, ⟨nd, rfl⟩⟩; (try first | exact ⟨rfl, _, World.drewN_drewN _ _ _⟩ | exact ⟨rfl, _, Eq.trans (World.drewN_drewN _ _ _) (congrArg (World.drewN _) (Nat.add_assoc _ _ _))⟩); have p137 : 0 ≤ (x3_1 : Int) := oda; have q137 : x3_1 < (l0_4.length : Int) := oda; obtain ⟨ad137, A137_0, c137_0, A137_4, c137_4, e137, hx137_0, hx137_1, hx137_2, hx137_3, hx137_4, hl137_0, hi137_0, hl137_4, hi137_4⟩ := at_T116 HR0_4.out x3_1 p137 q137; obtain rfl : ad135 = ad137 := (by injection e137); replace hx137_0 := (HB.out.cell (World.block_lt_of_cell? w _ hx137_0)).trans hx137_0; replace hx137_1 := (HB.out.cell (World.block_lt_of_cell? w _ hx137_1)).trans hx137_1; replace hx137_2 := (HB.out.cell (World.block_lt_of_cell? w _ hx137_2)).trans hx137_2; replace hx137_3 := (HB.out.cell (World.block_lt_of_cell? w _ hx137_3)).trans hx137_3; replace hx137_4 := (HB.out.cell (World.block_lt_of_cell? w _ hx137_4)).trans hx137_4; have HR137_0 := am hi137_0; have HC137_0 := am hl137_0; clear hi137_0 hl137_0; have HR137_4 := am hi137_4; have HC137_4 := am hl137_4; clear hi137_4 hl137_4; replace p137 := eq_true p137; replace q137 := eq_true q137; have ea_ := Option.some.inj (hx135_0.symm.trans hx137_0); injection ea_ with ea_ en_ ec_; subst ea_; subst ec_; clear en_; have ea_ := Option.some.inj (hx135_4.symm.trans hx137_4); injection ea_ with ea_ en_ ec_; subst ea_; subst ec_; clear en_) | (go_at_call 47; refine cm (spec_ValOk.calls k1 ((rd_T116 l0_4 x3_1).f1.f0) ((rd_T116 l0_4 x3_1).f1.f1) ((rd_T116 l0_4 x3_1).f1.f2) _ _ ((rd_T116 l0_4 x3_1).f1.f3) false _ (cq (Kd.C_below HR137_4.out (bq1 HB.out GE134.out))) HC137_4.out Qa1.out) ?_; rintro e w12 ⟨rfl, hb⟩; have n_ := ak2 (kb BK134 hb) (below_step (bq1 HB.out GE134.out) hb); clear BK134 HB; obtain ⟨BK134, HB⟩ := n_; (try clear hb)))
       go_ret
       exact ⟨rq, bq1 HB.out GE134.out⟩
     replace H := iT H
     have H' := am H
     clear H
     obtain ⟨hcz9_0, hcz9_1, hcz9_2, hcz9_3, hcz9_4, hfz9_0, hfz9_1, hfz9_2, hfz9_3, hfz9_4⟩ := cl5 BK134.out
     have p135 : 0 ≤ (x3_1 : Int) := oda
     have q135 : x3_1 < (l0_4.length : Int) := oda
     obtain ⟨ad135, A135_0, c135_0, A135_4, c135_4, e135, hx135_0, hx135_1, hx135_2, hx135_3, hx135_4, hl135_0, hi135_0, hl135_4, hi135_4⟩ := at_T116 HR0_4.out x3_1 p135 q135
     cases e135
     replace hx135_0 := (HB.out.cell (World.block_lt_of_cell? w _ hx135_0)).trans hx135_0
     replace hx135_1 := (HB.out.cell (World.block_lt_of_cell? w _ hx135_1)).trans hx135_1
     replace hx135_2 := (HB.out.cell (World.block_lt_of_cell? w _ hx135_2)).trans hx135_2
     replace hx135_3 := (HB.out.cell (World.block_lt_of_cell? w _ hx135_3)).trans hx135_3
     replace hx135_4 := (HB.out.cell (World.block_lt_of_cell? w _ hx135_4)).trans hx135_4
     have HR135_0 := am hi135_0
     have HC135_0 := am hl135_0
     clear hi135_0 hl135_0
     have HR135_4 := am hi135_4
     have HC135_4 := am hl135_4
     clear hi135_4 hl135_4
     replace p135 := eq_true p135
     replace q135 := eq_true q135
     go_wp2_with (first | (go_at_call 110; refine cm (spec_OidOk.calls k1 _ _ ((rd_T116 l0_4 x3_1).f0) true _ (cq (Kd.C_below HR135_0.out HB.out)) HC135_0.out A5.out) ?_; rintro e w' ⟨rfl, ⟨nd, rfl⟩⟩; (try first | exact ⟨rfl, _, World.drewN_drewN _ _ _⟩ | exact ⟨rfl, _, Eq.trans (World.drewN_drewN _ _ _) (congrArg (World.drewN _) (Nat.add_assoc _ _ _))⟩); have p137 : 0 ≤ (x3_1 : Int) := oda; have q137 : x3_1 < (l0_4.length : Int) := oda; obtain ⟨ad137, A137_0, c137_0, A137_4, c137_4, e137, hx137_0, hx137_1, hx137_2, hx137_3, hx137_4, hl137_0, hi137_0, hl137_4, hi137_4⟩ := at_T116 HR0_4.out x3_1 p137 q137; obtain rfl : ad135 = ad137 := (by injection e137); replace hx137_0 := (HB.out.cell (World.block_lt_of_cell? w _ hx137_0)).trans hx137_0; replace hx137_1 := (HB.out.cell (World.block_lt_of_cell? w _ hx137_1)).trans hx137_1; replace hx137_2 := (HB.out.cell (World.block_lt_of_cell? w _ hx137_2)).trans hx137_2; replace hx137_3 := (HB.out.cell (World.block_lt_of_cell? w _ hx137_3)).trans hx137_3; replace hx137_4 := (HB.out.cell (World.block_lt_of_cell? w _ hx137_4)).trans hx137_4; have HR137_0 := am hi137_0; have HC137_0 := am hl137_0; clear hi137_0 hl137_0; have HR137_4 := am hi137_4; have HC137_4 := am hl137_4; clear hi137_4 hl137_4; replace p137 := eq_true p137; replace q137 := eq_true q137; have ea_ := Option.some.inj (hx135_0.symm.trans hx137_0); injection ea_ with ea_ en_ ec_; subst ea_; subst ec_; clear en_; have ea_ := Option.some.inj (hx135_4.symm.trans hx137_4); injection ea_ with ea_ en_ ec_; subst ea_; subst ec_; clear en_) | (go_at_call 47; refine cm (spec_ValOk.calls k1 ((rd_T116 l0_4 x3_1).f1.f0) ((rd_T116 l0_4 x3_1).f1.f1) ((rd_T116 l0_4 x3_1).f1.f2) _ _ ((rd_T116 l0_4 x3_1).f1.f3) true _ (cq (Kd.C_below HR137_4.out (bq1 HB.out GE134.out))) HC137_4.out Qa1.out) ?_; rintro e w10 ⟨rfl, hb⟩; have n_ := ak2 (kb BK134 hb) (below_step (bq1 HB.out GE134.out) hb); clear BK134 HB; obtain ⟨BK134, HB⟩ := n_; (try clear hb)))
     go_roundg k1
     case measure => have := HK1.out; omega
     case rel => exact ⟨(wrap64 (x3_1 + 1)), sq, H', ⟨by have := HK1.out; omega⟩, ⟨zq BK134.out⟩, ⟨bq1 HB.out GE134.out⟩⟩
   have HC14 := am H
   clear H
   obtain ⟨hcz15_0, hcz15_1, hcz15_2, hcz15_3, hcz15_4, hfz15_0, hfz15_1, hfz15_2, hfz15_3, hfz15_4⟩ := cl5 BK134.out
   go_upto_region 6 with (fail)
   repeat (go_quiet (fail); go_upto_region 6 with (fail))
   go_cut [46] (fun v46 wc => ∃ (kq : Nat) (x46_13 : Bool), v46 = .bool x46_13 ∧ Aside0 (spec_PduOk.j1 kq x46_13 a0_0 a0_1 a0_2 a0_3 l0_4 = some r) ∧ Aside0 (kq ≤ k1) ∧ Aside0 (wc.heap[gb134]? = some (.cells #[.int .i64 a0_0, .int .i64 a0_1, .int .i64 a0_2, .int .i64 a0_3, (.slice A0_4 l0_4.length c0_4)] 58 (0, 0))) ∧ Aside0 (Below w.heap.size w wc))
   case first =>
    have H := HC14.out
    clear HC14
    replace H := iq H
    rcases H with ⟨-, c16b0, c16b1, H⟩ | ⟨c16, c16b0, c16b1, H⟩
    (first | rw [c16b0] | (simp only [i64_w, i32_w]; rw [c16b0]) | skip)
    have H' := am H
    clear H
    obtain ⟨hcz17_0, hcz17_1, hcz17_2, hcz17_3, hcz17_4, hfz17_0, hfz17_1, hfz17_2, hfz17_3, hfz17_4⟩ := cl5 BK134.out
    rotate_left
    (first | rw [c16b0] | (simp only [i64_w, i32_w]; rw [c16b0]) | skip)
    replace H := iq H
    rcases H with ⟨-, c18b0, c18b1, H⟩ | ⟨c18, c18b0, c18b1, H⟩
    have H' := am H
    clear H
    obtain ⟨hcz19_0, hcz19_1, hcz19_2, hcz19_3, hcz19_4, hfz19_0, hfz19_1, hfz19_2, hfz19_3, hfz19_4⟩ := cl5 BK134.out
    rotate_left
    replace H := iq' H
    rcases H with ⟨c20, c20b0, c20b1, H⟩ | ⟨-, c20b0, c20b1, H⟩
    have H' := am H
    clear H
    obtain ⟨hcz22_0, hcz22_1, hcz22_2, hcz22_3, hcz22_4, hfz22_0, hfz22_1, hfz22_2, hfz22_3, hfz22_4⟩ := cl5 BK134.out
    rotate_left
    have H' := am H
    clear H
    obtain ⟨hcz21_0, hcz21_1, hcz21_2, hcz21_3, hcz21_4, hfz21_0, hfz21_1, hfz21_2, hfz21_3, hfz21_4⟩ := cl5 BK134.out
    rotate_right
    rotate_right
    rotate_right
    all_goals
     go_wp2
     first
     | go_meet
       case rel => exact ⟨_, ((a0_3 != 0)), sq, H', ⟨by have := HK1.out; first | omega | exact Nat.le_refl _⟩, ⟨zq BK134.out⟩, ⟨bq1 HB.out GE134.out⟩⟩
     | go_meet
       case rel => exact ⟨_, (false), sq, H', ⟨by have := HK1.out; first | omega | exact Nat.le_refl _⟩, ⟨zq BK134.out⟩, ⟨bq1 HB.out GE134.out⟩⟩
     | go_meet
       case rel => exact ⟨_, (true), sq, H', ⟨by have := HK1.out; first | omega | exact Nat.le_refl _⟩, ⟨zq BK134.out⟩, ⟨bq1 HB.out GE134.out⟩⟩
   case rest =>
    clear HC14
    try clear c1
    try clear p1
    try clear q1
    try clear hx1
    try clear c2
    try clear p2
    try clear c3
    try clear c3b0
    try clear c4
    try clear c4b0
    try clear c6
    try clear p6
    try clear c8
    try clear c9
    try clear c13
    try clear p13
    try clear q13
    try clear hx13
    try clear c16
    try clear c16b0
    try clear c16b1
    try clear c18
    try clear c18b0
    try clear c18b1
    try clear c20
    try clear c20b0
    try clear c20b1
    try clear hcz11_0
    try clear hcz11_1
    try clear hcz11_2
    try clear hcz11_3
    try clear hcz11_4
    try clear hcz13_0
    try clear hcz13_1
    try clear hcz13_2
    try clear hcz13_3
    try clear hcz13_4
    try clear hcz15_0
    try clear hcz15_1
    try clear hcz15_2
    try clear hcz15_3
    try clear hcz15_4
    try clear hcz17_0
    try clear hcz17_1
    try clear hcz17_2
    try clear hcz17_3
    try clear hcz17_4
    try clear hcz19_0
    try clear hcz19_1
    try clear hcz19_2
    try clear hcz19_3
    try clear hcz19_4
    try clear hcz21_0
    try clear hcz21_1
    try clear hcz21_2
    try clear hcz21_3
    try clear hcz21_4
    try clear hcz22_0
    try clear hcz22_1
    try clear hcz22_2
    try clear hcz22_3
    try clear hcz22_4
    try clear hcz9_0
    try clear hcz9_1
    try clear hcz9_2
    try clear hcz9_3
    try clear hcz9_4
    try clear hfz11_0
    try clear hfz11_1
    try clear hfz11_2
    try clear hfz11_3
    try clear hfz11_4
    try clear hfz13_0
    try clear hfz13_1
    try clear hfz13_2
    try clear hfz13_3
    try clear hfz13_4
    try clear hfz15_0
    try clear hfz15_1
    try clear hfz15_2
    try clear hfz15_3
    try clear hfz15_4
    try clear hfz17_0
    try clear hfz17_1
    try clear hfz17_2
    try clear hfz17_3
    try clear hfz17_4
    try clear hfz19_0
    try clear hfz19_1
    try clear hfz19_2
    try clear hfz19_3
    try clear hfz19_4
    try clear hfz21_0
    try clear hfz21_1
    try clear hfz21_2
    try clear hfz21_3
    try clear hfz21_4
    try clear hfz22_0
    try clear hfz22_1
    try clear hfz22_2
    try clear hfz22_3
    try clear hfz22_4
    try clear hfz9_0
    try clear hfz9_1
    try clear hfz9_2
    try clear hfz9_3
    try clear hfz9_4
    try clear hx135_0
    try clear hx135_1
    try clear hx135_2
    try clear hx135_3
    try clear hx135_4
    try clear hx137_0
    try clear hx137_1
    try clear hx137_2
    try clear hx137_3
    try clear hx137_4
    try clear p135
    try clear p137
    try clear p2
    try clear q135
    try clear q137
    obtain ⟨kq, x46_13, rfl, HA, HJ13, BK134, HB⟩ := hcut
    cases kq with
    | zero => exact absurd HA.out (by simp [spec_PduOk.j1])
    | succ kj13 =>
     have H := HA.out
     clear HA
     simp only [spec_PduOk.j1] at H
     rcases Decidable.em (x46_13 = true) with c23 | c23
     · subst c23
       replace H : (some false) = some r := by rw [if_pos rfl] at H; exact H
       obtain rfl := Option.some.inj H
       go_wp2
       go_ret
       exact ⟨rq, bq1 HB.out GE134.out⟩
     replace c23 := Bool.eq_false_iff.mpr c23
     subst c23
     replace H : ((spec_l4Kind.f a0_0).bind fun qb1_0 => (if qb1_0 = true then ((spec_l1Clip.f a0_1).bind fun qc1_0 => (if qc1_0 = a0_1 then ((spec_l1In.f a0_2 0 1000).bind fun qd1_0 => (if qd1_0 = true then ((spec_l1In.f a0_3 0 1000).bind fun qd2_0 => (if qd2_0 = true then (some (decide ((l0_4.length : Int) ≤ 10))) else (some false))) else (some false))) else (some false))) else (some false))) = some r := by rw [if_neg (show ¬ (false = true) by decide)] at H; exact H
     replace H := be H
     obtain ⟨qb1_0, Qb1, H⟩ := H
     cases qb1_0
     · replace H := iF H
       obtain rfl := Option.some.inj H
       obtain ⟨hcz36_0, hcz36_1, hcz36_2, hcz36_3, hcz36_4, hfz36_0, hfz36_1, hfz36_2, hfz36_3, hfz36_4⟩ := cl5 BK134.out
       try go_wp2
       repeat (go_quiet (first | (go_at_call 127; (with_reducible refine (spec_l4Kind.calls a0_0 false _ Qb1.out).mono ?_); rintro e w' ⟨rfl, ⟨nd, rfl⟩⟩; (try first | exact ⟨rfl, _, World.drewN_drewN _ _ _⟩ | exact ⟨rfl, _, Eq.trans (World.drewN_drewN _ _ _) (congrArg (World.drewN _) (Nat.add_assoc _ _ _))⟩))); try go_wp2)
       go_ret
       exact ⟨rq, bq1 HB.out GE134.out⟩
     replace H := iT H
     replace H := be H
     obtain ⟨qc1_0, Qc1, H⟩ := H
     replace H := iq' H
     rcases H with ⟨c27, c27b0, c27b1, H⟩ | ⟨-, c27b0, c27b1, H⟩
     · obtain rfl := Option.some.inj H
       obtain ⟨hcz35_0, hcz35_1, hcz35_2, hcz35_3, hcz35_4, hfz35_0, hfz35_1, hfz35_2, hfz35_3, hfz35_4⟩ := cl5 BK134.out
       try go_wp2
       repeat (go_quiet (first | (go_at_call 127; (with_reducible refine (spec_l4Kind.calls a0_0 true _ Qb1.out).mono ?_); rintro e w' ⟨rfl, ⟨nd, rfl⟩⟩; (try first | exact ⟨rfl, _, World.drewN_drewN _ _ _⟩ | exact ⟨rfl, _, Eq.trans (World.drewN_drewN _ _ _) (congrArg (World.drewN _) (Nat.add_assoc _ _ _))⟩)) | (go_at_call 109; (with_reducible refine (spec_l1Clip.calls a0_1 qc1_0 _ Qc1.out).mono ?_); rintro e w' ⟨rfl, ⟨nd, rfl⟩⟩; (try first | exact ⟨rfl, _, World.drewN_drewN _ _ _⟩ | exact ⟨rfl, _, Eq.trans (World.drewN_drewN _ _ _) (congrArg (World.drewN _) (Nat.add_assoc _ _ _))⟩))); try go_wp2)
       go_ret
       exact ⟨rq, bq1 HB.out GE134.out⟩
     replace H := be H
     obtain ⟨qd1_0, Qd1, H⟩ := H
     cases qd1_0
     · replace H := iF H
       obtain rfl := Option.some.inj H
       obtain ⟨hcz34_0, hcz34_1, hcz34_2, hcz34_3, hcz34_4, hfz34_0, hfz34_1, hfz34_2, hfz34_3, hfz34_4⟩ := cl5 BK134.out
       try go_wp2
       repeat (go_quiet (first | (go_at_call 127; (with_reducible refine (spec_l4Kind.calls a0_0 true _ Qb1.out).mono ?_); rintro e w' ⟨rfl, ⟨nd, rfl⟩⟩; (try first | exact ⟨rfl, _, World.drewN_drewN _ _ _⟩ | exact ⟨rfl, _, Eq.trans (World.drewN_drewN _ _ _) (congrArg (World.drewN _) (Nat.add_assoc _ _ _))⟩)) | (go_at_call 109; (with_reducible refine (spec_l1Clip.calls a0_1 qc1_0 _ Qc1.out).mono ?_); rintro e w' ⟨rfl, ⟨nd, rfl⟩⟩; (try first | exact ⟨rfl, _, World.drewN_drewN _ _ _⟩ | exact ⟨rfl, _, Eq.trans (World.drewN_drewN _ _ _) (congrArg (World.drewN _) (Nat.add_assoc _ _ _))⟩)) | (go_at_call 88; (with_reducible refine (spec_l1In.calls a0_2 0 1000 false _ Qd1.out).mono ?_); rintro e w' ⟨rfl, ⟨nd, rfl⟩⟩; (try first | exact ⟨rfl, _, World.drewN_drewN _ _ _⟩ | exact ⟨rfl, _, Eq.trans (World.drewN_drewN _ _ _) (congrArg (World.drewN _) (Nat.add_assoc _ _ _))⟩))); try go_wp2)
       go_ret
       exact ⟨rq, bq1 HB.out GE134.out⟩
     replace H := iT H
     replace H := be H
     obtain ⟨qd2_0, Qd2, H⟩ := H
     rcases bt qd2_0 with rfl | rfl
     · replace H := iT H
       obtain rfl := Option.some.inj H
       obtain ⟨hcz32_0, hcz32_1, hcz32_2, hcz32_3, hcz32_4, hfz32_0, hfz32_1, hfz32_2, hfz32_3, hfz32_4⟩ := cl5 BK134.out
       try go_wp2
       repeat (go_quiet (first | (go_at_call 127; (with_reducible refine (spec_l4Kind.calls a0_0 true _ Qb1.out).mono ?_); rintro e w' ⟨rfl, ⟨nd, rfl⟩⟩; (try first | exact ⟨rfl, _, World.drewN_drewN _ _ _⟩ | exact ⟨rfl, _, Eq.trans (World.drewN_drewN _ _ _) (congrArg (World.drewN _) (Nat.add_assoc _ _ _))⟩)) | (go_at_call 109; (with_reducible refine (spec_l1Clip.calls a0_1 qc1_0 _ Qc1.out).mono ?_); rintro e w' ⟨rfl, ⟨nd, rfl⟩⟩; (try first | exact ⟨rfl, _, World.drewN_drewN _ _ _⟩ | exact ⟨rfl, _, Eq.trans (World.drewN_drewN _ _ _) (congrArg (World.drewN _) (Nat.add_assoc _ _ _))⟩)) | (go_at_call 88; (with_reducible refine (spec_l1In.calls a0_2 0 1000 true _ Qd1.out).mono ?_); rintro e w' ⟨rfl, ⟨nd, rfl⟩⟩; (try first | exact ⟨rfl, _, World.drewN_drewN _ _ _⟩ | exact ⟨rfl, _, Eq.trans (World.drewN_drewN _ _ _) (congrArg (World.drewN _) (Nat.add_assoc _ _ _))⟩)) | (go_at_call 88; (with_reducible refine (spec_l1In.calls a0_3 0 1000 true _ Qd2.out).mono ?_); rintro e w' ⟨rfl, ⟨nd, rfl⟩⟩; (try first | exact ⟨rfl, _, World.drewN_drewN _ _ _⟩ | exact ⟨rfl, _, Eq.trans (World.drewN_drewN _ _ _) (congrArg (World.drewN _) (Nat.add_assoc _ _ _))⟩))); try go_wp2)
       go_ret
       exact ⟨rq, bq1 HB.out GE134.out⟩
     replace H := iF H
     obtain rfl := Option.some.inj H
     obtain ⟨hcz33_0, hcz33_1, hcz33_2, hcz33_3, hcz33_4, hfz33_0, hfz33_1, hfz33_2, hfz33_3, hfz33_4⟩ := cl5 BK134.out
     try go_wp2
     repeat (go_quiet (first | (go_at_call 127; (with_reducible refine (spec_l4Kind.calls a0_0 true _ Qb1.out).mono ?_); rintro e w' ⟨rfl, ⟨nd, rfl⟩⟩; (try first | exact ⟨rfl, _, World.drewN_drewN _ _ _⟩ | exact ⟨rfl, _, Eq.trans (World.drewN_drewN _ _ _) (congrArg (World.drewN _) (Nat.add_assoc _ _ _))⟩)) | (go_at_call 109; (with_reducible refine (spec_l1Clip.calls a0_1 qc1_0 _ Qc1.out).mono ?_); rintro e w' ⟨rfl, ⟨nd, rfl⟩⟩; (try first | exact ⟨rfl, _, World.drewN_drewN _ _ _⟩ | exact ⟨rfl, _, Eq.trans (World.drewN_drewN _ _ _) (congrArg (World.drewN _) (Nat.add_assoc _ _ _))⟩)) | (go_at_call 88; (with_reducible refine (spec_l1In.calls a0_2 0 1000 true _ Qd1.out).mono ?_); rintro e w' ⟨rfl, ⟨nd, rfl⟩⟩; (try first | exact ⟨rfl, _, World.drewN_drewN _ _ _⟩ | exact ⟨rfl, _, Eq.trans (World.drewN_drewN _ _ _) (congrArg (World.drewN _) (Nat.add_assoc _ _ _))⟩)) | (go_at_call 88; (with_reducible refine (spec_l1In.calls a0_3 0 1000 false _ Qd2.out).mono ?_); rintro e w' ⟨rfl, ⟨nd, rfl⟩⟩; (try first | exact ⟨rfl, _, World.drewN_drewN _ _ _⟩ | exact ⟨rfl, _, Eq.trans (World.drewN_drewN _ _ _) (congrArg (World.drewN _) (Nat.add_assoc _ _ _))⟩))); try go_wp2)
     go_ret
     exact ⟨rq, bq1 HB.out GE134.out⟩
/-! ### spec_PutInt: function 64 -/
def spec_PutInt.l0 : Nat → Int → List Int → Option (List Int)
 | 0, _, _ => none
 | k + 1, x0, x3 => if x0 < (-128) then ((some (([(x0 / 256) % 256] : List Int) : List Int)).bind fun y147 => (if y147.length + x3.length < 140737488355328 then (spec_PutInt.l0 k (x0 / 256) (y147 ++ x3)) else (none))) else (if x0 > 127 then ((some (([(x0 / 256) % 256] : List Int) : List Int)).bind fun y153 => (if y153.length + x3.length < 140737488355328 then (spec_PutInt.l0 k (x0 / 256) (y153 ++ x3)) else (none))) else (some x3))
def spec_PutInt.f (k : Nat) (a0 : Int) : Option (List Int) := (spec_l1Clip.f a0).bind fun t143 => (spec_PutInt.l0 k t143 (([(t143) % 256] : List Int)))
set_option maxHeartbeats 8000000 in
set_option maxRecDepth 100000 in
theorem spec_PutInt.calls (k : Nat) (a0 : Int) (r : List Int) (w : World) (h : spec_PutInt.f k a0 = some r) :
 Calls Try.prog 64 #[.int .i64 a0] w fun e w' => ∃ v0_ : Value, e = .returned (v0_) ∧ Kd.R (Kd.int .u8) 5 w' w.heap.size (fun _ => True) v0_ r ∧ Below w.heap.size w w' := by
 have HB := am (Below.refl w.heap.size w)
 have H := h
 clear h
 unfold spec_PutInt.f at H
 replace H := be H
 obtain ⟨qa1_0, Qa1, H⟩ := H
 generalize hy144 : ((([(qa1_0) % 256] : List Int)) : List Int) = y144 at H
 have Ny144 := am hy144.symm
 clear hy144
 have H' := am H
 clear H
 go_enter Try.func64, Try.ntmps64
 go_wp2_with (first | ((with_reducible refine gate_callee (f := 109) rfl ?_); refine gc (some 5) (spec_l1Clip.calls a0 qa1_0 _ Qa1.out) Try.func109 ?_; rintro e w' ⟨rfl, ⟨nd, rfl⟩⟩; refine ⟨_, rfl, ?_⟩) | ((with_reducible refine gate_dst (N := 8) rfl ?_); refine Kd.R_lit (Kd.int .u8) _ 5 ?hg (N := 8) ?hd (xs := ([(qa1_0) % 256] : List Int)) (inner := [.int .u8 ((qa1_0) % 256)]) (ok := fun _ => True) (okp := fun _ => True) ?hr ?hp (fun _ hk => hk) trivial (Below.refl _ _) (Nat.le_refl _) (by simp) ?_; (case hd => rfl); (case hg => rfl); (case hr => exact gs); (case hp => exact (Reps.one (show Kd.M (Kd.int .u8) _ _ _ ((qa1_0) % 256) [.int .u8 ((qa1_0) % 256)] from rfl) (Reps.none _ _))); intro v145 w3 ho4 hb hg_ hnew_; clear hg_ hnew_; (first | rw [← Ny144.out] at ho4 | (simp only [Int.reduceToNat] at ho4; rw [← Ny144.out] at ho4)); have n_ := ak2 (rl ho4 (bq HB.out)) (below_step (bq HB.out) hb); clear HB; obtain ⟨HO146, HB⟩ := n_; clear hb ho4))
 go_loopg [0, 3] k (fun kq v0 v3 w' => ∃ (x0_1 : Int) (x3_1 : List Int), v0 = .int .i64 x0_1 ∧ Aside0 (spec_PutInt.l0 kq x0_1 x3_1 = some r) ∧ Aside0 (kq ≤ k) ∧ Aside0 (Kd.R (Kd.int .u8) 5 w' w.heap.size (fun _ => True) v3 x3_1) ∧ Aside0 (Below w.heap.size w w'))
 case atStart => exact ⟨(qa1_0), (y144), sq, H', ⟨Nat.le_refl _⟩, ⟨kqR HO146.out⟩, ⟨bq HB.out⟩⟩
 case round =>
  clear H'
  try clear c1
  try clear p2
  obtain ⟨x0_1, x3_1, rfl, HA, HK1, HO_3, HB⟩ := hrel
  cases gk with
  | zero => exact absurd HA.out (by simp [spec_PutInt.l0])
  | succ k1 =>
   have H := HA.out
   clear HA
   simp only [spec_PutInt.l0] at H
   replace H := il H
   rcases H with ⟨-, c5b0, H⟩ | ⟨-, c5b0, H⟩
   · generalize hy147 : ((([(x0_1 / 256) % 256] : List Int)) : List Int) = y147 at H
     have Ny147 := am hy147.symm
     clear hy147
     replace H := nq H
     obtain ⟨c6, H⟩ := H
     have LMc6 := am c6
     clear c6
     generalize hy150 : ((y147 ++ x3_1) : List Int) = y150 at H
     have Ny150 := am hy150.symm
     clear hy150
     have H' := am H
     clear H
     go_wp2_with (first | ((with_reducible refine gate_dst (N := 19) rfl ?_); refine Kd.R_lit (Kd.int .u8) _ 5 ?hg (N := 19) ?hd (xs := ([(x0_1 / 256) % 256] : List Int)) (inner := [.int .u8 ((x0_1 / 256) % 256)]) (ok := fun _ => True) (okp := fun _ => True) ?hr ?hp (fun _ hk => hk) trivial (Below.refl _ _) (Nat.le_refl _) (by simp) ?_; (case hd => rfl); (case hg => rfl); (case hr => exact gs); (case hp => exact (Reps.one (show Kd.M (Kd.int .u8) _ _ _ ((x0_1 / 256) % 256) [.int .u8 ((x0_1 / 256) % 256)] from rfl) (Reps.none _ _))); intro v148 w7 ho8 hb hg_ hnew_; clear hg_ hnew_; (first | rw [← Ny147.out] at ho8 | (simp only [Int.reduceToNat] at ho8; rw [← Ny147.out] at ho8)); have n_ := ak3 (re_ HO_3 ho8 hb) (rn_ ho8 HO_3 (bq HB.out)) (below_step (bq HB.out) hb); clear HO_3 HB; obtain ⟨HO_3, HO149, HB⟩ := n_; clear hb ho8; obtain ⟨Ao10, co10, eo10⟩ := Kd.R_slice HO_3.out; subst eo10) | ((with_reducible refine gate_builtin (b := .append) (xs := #[.tmp 19, .tmp 20]) rfl ?_); at_builtin; refine Kd.R_append_rows (Kd.int .u8) (w0 := w) w.heap.size rfl (.tmp 19) (.tmp 20) 22 5 (.int .u8 0) 1 rfl Try.underlying22 info5 rfl (by decide) (by omega) v148 y147 x3_1 _ _ _ (fun k_ => some k_ ≠ (.slice Ao10 x3_1.length co10 : Value).ownBlock) (fun _ => False) rfl rfl ?aO ?aR (fun _ _ h => h) (fun _ h => h.elim) ?aF ?aB ?aS ?aL ?_; (case aR => repeat (first | exact (Kd.R_reads' HO_3.out).2.2 | (with_reducible refine Kd.C_alloc ?_ _) | (with_reducible refine Kd.C_drewN ?_ _) | (with_reducible refine Kd.C_drew ?_))); (case aB => exact (bq HB.out)); (case aF => exact (fun k_ hk => Kd.fresh' (Kd.R_lt (kqR HO_3.out)) k_ hk)); (case aO => exact (by refine kr ?_; exact Kd.R_mono HO149.out (fun _ hk => hk.2))); (case aS => exact (below_size (bq HB.out))); (case aL => have := LMc6.out; omega); intro v151 w9 ho hb hg hat; rw [← Ny150.out] at ho; have n_ := ak3 (Kd.R_after (ok := (fun _ => True)) (kqR HO_3.out) hg hat) hb ho; clear HO_3 HB HO149; obtain ⟨HO_3, HB, HO152⟩ := n_; clear ho hb hg hat))
     go_roundg k1
     case measure => have := HK1.out; omega
     case rel => exact ⟨(x0_1 / 256), (y150), sq, H', ⟨by have := HK1.out; omega⟩, ⟨by refine kr ?_; exact Kd.R_mono HO152.out (fun _ hk => trivial)⟩, ⟨bq HB.out⟩⟩
   replace H := ig' H
   rcases H with ⟨-, c11b0, H⟩ | ⟨-, c11b0, H⟩
   · obtain rfl := Option.some.inj H
     go_wp2
     go_ret
     exact ⟨_, rq, kqR HO_3.out, bq HB.out⟩
   generalize hy153 : ((([(x0_1 / 256) % 256] : List Int)) : List Int) = y153 at H
   have Ny153 := am hy153.symm
   clear hy153
   replace H := nq H
   obtain ⟨c12, H⟩ := H
   have LMc12 := am c12
   clear c12
   generalize hy156 : ((y153 ++ x3_1) : List Int) = y156 at H
   have Ny156 := am hy156.symm
   clear hy156
   have H' := am H
   clear H
   go_wp2_with (first | ((with_reducible refine gate_dst (N := 19) rfl ?_); refine Kd.R_lit (Kd.int .u8) _ 5 ?hg (N := 19) ?hd (xs := ([(x0_1 / 256) % 256] : List Int)) (inner := [.int .u8 ((x0_1 / 256) % 256)]) (ok := fun _ => True) (okp := fun _ => True) ?hr ?hp (fun _ hk => hk) trivial (Below.refl _ _) (Nat.le_refl _) (by simp) ?_; (case hd => rfl); (case hg => rfl); (case hr => exact gs); (case hp => exact (Reps.one (show Kd.M (Kd.int .u8) _ _ _ ((x0_1 / 256) % 256) [.int .u8 ((x0_1 / 256) % 256)] from rfl) (Reps.none _ _))); intro v154 w13 ho14 hb hg_ hnew_; clear hg_ hnew_; (first | rw [← Ny153.out] at ho14 | (simp only [Int.reduceToNat] at ho14; rw [← Ny153.out] at ho14)); have n_ := ak3 (re_ HO_3 ho14 hb) (rn_ ho14 HO_3 (bq HB.out)) (below_step (bq HB.out) hb); clear HO_3 HB; obtain ⟨HO_3, HO155, HB⟩ := n_; clear hb ho14; obtain ⟨Ao16, co16, eo16⟩ := Kd.R_slice HO_3.out; subst eo16) | ((with_reducible refine gate_builtin (b := .append) (xs := #[.tmp 19, .tmp 20]) rfl ?_); at_builtin; refine Kd.R_append_rows (Kd.int .u8) (w0 := w) w.heap.size rfl (.tmp 19) (.tmp 20) 22 5 (.int .u8 0) 1 rfl Try.underlying22 info5 rfl (by decide) (by omega) v154 y153 x3_1 _ _ _ (fun k_ => some k_ ≠ (.slice Ao16 x3_1.length co16 : Value).ownBlock) (fun _ => False) rfl rfl ?aO ?aR (fun _ _ h => h) (fun _ h => h.elim) ?aF ?aB ?aS ?aL ?_; (case aR => repeat (first | exact (Kd.R_reads' HO_3.out).2.2 | (with_reducible refine Kd.C_alloc ?_ _) | (with_reducible refine Kd.C_drewN ?_ _) | (with_reducible refine Kd.C_drew ?_))); (case aB => exact (bq HB.out)); (case aF => exact (fun k_ hk => Kd.fresh' (Kd.R_lt (kqR HO_3.out)) k_ hk)); (case aO => exact (by refine kr ?_; exact Kd.R_mono HO155.out (fun _ hk => hk.2))); (case aS => exact (below_size (bq HB.out))); (case aL => have := LMc12.out; omega); intro v157 w15 ho hb hg hat; rw [← Ny156.out] at ho; have n_ := ak3 (Kd.R_after (ok := (fun _ => True)) (kqR HO_3.out) hg hat) hb ho; clear HO_3 HB HO155; obtain ⟨HO_3, HB, HO158⟩ := n_; clear ho hb hg hat))
   go_roundg k1
   case measure => have := HK1.out; omega
   case rel => exact ⟨(x0_1 / 256), (y156), sq, H', ⟨by have := HK1.out; omega⟩, ⟨by refine kr ?_; exact Kd.R_mono HO158.out (fun _ hk => trivial)⟩, ⟨bq HB.out⟩⟩
/-! ### spec_l2Group: function 124 -/
def spec_l2Group.l0 : Nat → Int → List Int → Option (List Int)
 | 0, _, _ => none
 | k + 1, x0, x3 => if x0 > 127 then ((some (([(Go.bits .or .i64 (Go.bits .and .i64 (x0 / 128) 127) 128) % 256] : List Int) : List Int)).bind fun y162 => (if y162.length + x3.length < 140737488355328 then (spec_l2Group.l0 k (x0 / 128) (y162 ++ x3)) else (none))) else (some x3)
def spec_l2Group.f (k : Nat) (a0 : Int) : Option (List Int) := spec_l2Group.l0 k a0 (([(Go.bits .and .i64 a0 127) % 256] : List Int))
set_option maxHeartbeats 8000000 in
set_option maxRecDepth 100000 in
theorem spec_l2Group.calls (k : Nat) (a0 : Int) (r : List Int) (w : World) (h : spec_l2Group.f k a0 = some r) :
 Calls Try.prog 124 #[.int .i64 a0] w fun e w' => ∃ v0_ : Value, e = .returned (v0_) ∧ Kd.R (Kd.int .u8) 5 w' w.heap.size (fun _ => True) v0_ r ∧ Below w.heap.size w w' := by
 have HB := am (Below.refl w.heap.size w)
 have H := h
 clear h
 unfold spec_l2Group.f at H
 generalize hy159 : ((([(Go.bits .and .i64 a0 127) % 256] : List Int)) : List Int) = y159 at H
 have Ny159 := am hy159.symm
 clear hy159
 have H' := am H
 clear H
 go_enter Try.func124, Try.ntmps124
 go_wp2_with (first | ((with_reducible refine gate_dst (N := 7) rfl ?_); refine Kd.R_lit (Kd.int .u8) _ 5 ?hg (N := 7) ?hd (xs := ([(Go.bits .and .i64 a0 127) % 256] : List Int)) (inner := [.int .u8 ((Go.bits .and .i64 a0 127) % 256)]) (ok := fun _ => True) (okp := fun _ => True) ?hr ?hp (fun _ hk => hk) trivial (Below.refl _ _) (Nat.le_refl _) (by simp) ?_; (case hd => rfl); (case hg => rfl); (case hr => exact gs); (case hp => exact (Reps.one (show Kd.M (Kd.int .u8) _ _ _ ((Go.bits .and .i64 a0 127) % 256) [.int .u8 ((Go.bits .and .i64 a0 127) % 256)] from rfl) (Reps.none _ _))); intro v160 w2 ho3 hb hg_ hnew_; clear hg_ hnew_; (first | rw [← Ny159.out] at ho3 | (simp only [Int.reduceToNat] at ho3; rw [← Ny159.out] at ho3)); have n_ := ak2 (rl ho3 (bq HB.out)) (below_step (bq HB.out) hb); clear HB; obtain ⟨HO161, HB⟩ := n_; clear hb ho3))
 go_loopg [0, 3] k (fun kq v0 v3 w' => ∃ (x0_1 : Int) (x3_1 : List Int), v0 = .int .i64 x0_1 ∧ Aside0 (spec_l2Group.l0 kq x0_1 x3_1 = some r) ∧ Aside0 (kq ≤ k) ∧ Aside0 (Kd.R (Kd.int .u8) 5 w' w.heap.size (fun _ => True) v3 x3_1) ∧ Aside0 (Below w.heap.size w w'))
 case atStart => exact ⟨(a0), (y159), sq, H', ⟨Nat.le_refl _⟩, ⟨kqR HO161.out⟩, ⟨bq HB.out⟩⟩
 case round =>
  clear H'
  try clear c1
  try clear p2
  obtain ⟨x0_1, x3_1, rfl, HA, HK1, HO_3, HB⟩ := hrel
  cases gk with
  | zero => exact absurd HA.out (by simp [spec_l2Group.l0])
  | succ k1 =>
   have H := HA.out
   clear HA
   simp only [spec_l2Group.l0] at H
   replace H := ig' H
   rcases H with ⟨-, c4b0, H⟩ | ⟨-, c4b0, H⟩
   · obtain rfl := Option.some.inj H
     go_wp2
     go_ret
     exact ⟨_, rq, kqR HO_3.out, bq HB.out⟩
   generalize hy162 : ((([(Go.bits .or .i64 (Go.bits .and .i64 (x0_1 / 128) 127) 128) % 256] : List Int)) : List Int) = y162 at H
   have Ny162 := am hy162.symm
   clear hy162
   replace H := nq H
   obtain ⟨c5, H⟩ := H
   have LMc5 := am c5
   clear c5
   generalize hy165 : ((y162 ++ x3_1) : List Int) = y165 at H
   have Ny165 := am hy165.symm
   clear hy165
   have H' := am H
   clear H
   go_wp2_with (first | ((with_reducible refine gate_dst (N := 16) rfl ?_); refine Kd.R_lit (Kd.int .u8) _ 5 ?hg (N := 16) ?hd (xs := ([(Go.bits .or .i64 (Go.bits .and .i64 (x0_1 / 128) 127) 128) % 256] : List Int)) (inner := [.int .u8 ((Go.bits .or .i64 (Go.bits .and .i64 (x0_1 / 128) 127) 128) % 256)]) (ok := fun _ => True) (okp := fun _ => True) ?hr ?hp (fun _ hk => hk) trivial (Below.refl _ _) (Nat.le_refl _) (by simp) ?_; (case hd => rfl); (case hg => rfl); (case hr => exact gs); (case hp => exact (Reps.one (show Kd.M (Kd.int .u8) _ _ _ ((Go.bits .or .i64 (Go.bits .and .i64 (x0_1 / 128) 127) 128) % 256) [.int .u8 ((Go.bits .or .i64 (Go.bits .and .i64 (x0_1 / 128) 127) 128) % 256)] from rfl) (Reps.none _ _))); intro v163 w6 ho7 hb hg_ hnew_; clear hg_ hnew_; (first | rw [← Ny162.out] at ho7 | (simp only [Int.reduceToNat] at ho7; rw [← Ny162.out] at ho7)); have n_ := ak3 (re_ HO_3 ho7 hb) (rn_ ho7 HO_3 (bq HB.out)) (below_step (bq HB.out) hb); clear HO_3 HB; obtain ⟨HO_3, HO164, HB⟩ := n_; clear hb ho7; obtain ⟨Ao9, co9, eo9⟩ := Kd.R_slice HO_3.out; subst eo9) | ((with_reducible refine gate_builtin (b := .append) (xs := #[.tmp 16, .tmp 17]) rfl ?_); at_builtin; refine Kd.R_append_rows (Kd.int .u8) (w0 := w) w.heap.size rfl (.tmp 16) (.tmp 17) 22 5 (.int .u8 0) 1 rfl Try.underlying22 info5 rfl (by decide) (by omega) v163 y162 x3_1 _ _ _ (fun k_ => some k_ ≠ (.slice Ao9 x3_1.length co9 : Value).ownBlock) (fun _ => False) rfl rfl ?aO ?aR (fun _ _ h => h) (fun _ h => h.elim) ?aF ?aB ?aS ?aL ?_; (case aR => repeat (first | exact (Kd.R_reads' HO_3.out).2.2 | (with_reducible refine Kd.C_alloc ?_ _) | (with_reducible refine Kd.C_drewN ?_ _) | (with_reducible refine Kd.C_drew ?_))); (case aB => exact (bq HB.out)); (case aF => exact (fun k_ hk => Kd.fresh' (Kd.R_lt (kqR HO_3.out)) k_ hk)); (case aO => exact (by refine kr ?_; exact Kd.R_mono HO164.out (fun _ hk => hk.2))); (case aS => exact (below_size (bq HB.out))); (case aL => have := LMc5.out; omega); intro v166 w8 ho hb hg hat; rw [← Ny165.out] at ho; have n_ := ak3 (Kd.R_after (ok := (fun _ => True)) (kqR HO_3.out) hg hat) hb ho; clear HO_3 HB HO164; obtain ⟨HO_3, HB, HO167⟩ := n_; clear ho hb hg hat))
   go_roundg k1
   case measure => have := HK1.out; omega
   case rel => exact ⟨(x0_1 / 128), (y165), sq, H', ⟨by have := HK1.out; omega⟩, ⟨by refine kr ?_; exact Kd.R_mono HO167.out (fun _ hk => trivial)⟩, ⟨bq HB.out⟩⟩
end Go.Proofs.Ythhnfmbfgplelaa.XFnMsgs
