/- The functions that one law reaches, as Lean functions, with their walks: printed by a program of this seat (wip/tools) out of the translation. -/
import Derived.Test.YthhnfmbfgplelaaXFnMsgsx0
import Derived.Test.YthhnfmbfgplelaaXFnMsgsx7
import Derived.Test.YthhnfmbfgplelaaXFnMsgsx8
import Derived.Test.YthhnfmbfgplelaaXFnMsgsx10
namespace Go.Proofs.Ythhnfmbfgplelaa.XFnMsgs
open Go.RowKit Go.Proofs.YthhnfmbfgplelaaW.PrintWords Go.Proofs.YthhnfmbfgplelaaW.PrintLast Go.Proofs.YthhnfmbfgplelaaW.PrintMore
attribute [local go_sem] max2_int min2_int max_two min_two max_three min_three max_four min_four   -- for this text's walks alone
set_option linter.unusedVariables false
set_option linter.unusedSimpArgs false

/-! ### impl_PutMsg: function 52 -/
def impl_PutMsg.j0 : Nat → ByteArray → List Int → Bool → Option (List Int)
 | 0, _, _, _ => none
 | k + 1, x0, x5, x17 => if x17 = true then (some ([] : List Int)) else ((impl_addNum.f k ([] : List Int) 2 1).bind fun t461 => (if (x0.size : Int) < 140737488355328 then ((impl_PutTlv.f k t461 4 (bytesOf x0)).bind fun t467 => (if t467.length + x5.length < 140737488355328 then ((impl_tlv.f k 48 (t467 ++ x5)).bind fun bt473 => (if bt473.2 = true then (some bt473.1) else (some ([] : List Int)))) else (none))) else (none)))
def impl_PutMsg.f (k : Nat) (a0 : ByteArray) (a1_0 : Int) (a1_1 : Int) (a1_2 : Int) (a1_3 : Int) (l1_4 : List (S116)) : Option (List Int) := (impl_PutPdu.f k a1_0 a1_1 a1_2 a1_3 l1_4).bind fun t458 => (if (t458.length : Int) = 0 then (impl_PutMsg.j0 k a0 t458 true) else (impl_PutMsg.j0 k a0 t458 (decide ((a0.size : Int) > 20))))
set_option maxHeartbeats 8000000 in
set_option maxRecDepth 100000 in
theorem impl_PutMsg.calls (k : Nat) (a0 : ByteArray) (a1_0 : Int) (a1_1 : Int) (a1_2 : Int) (a1_3 : Int) (A1_4 : Option Addr) (c1_4 : Nat) (l1_4 : List (S116)) (r : List Int) (w : World) (hr1_4 : Kd.C k116 w A1_4 l1_4.length l1_4) (hc1_4 : l1_4.length ≤ c1_4) (h : impl_PutMsg.f k a0 a1_0 a1_1 a1_2 a1_3 l1_4 = some r) :
 Calls Try.prog 52 #[.string a0, .agg #[.int .i64 a1_0, .int .i64 a1_1, .int .i64 a1_2, .int .i64 a1_3, .slice A1_4 l1_4.length c1_4]] w fun e w' => ∃ v0_ : Value, e = .returned (v0_) ∧ Kd.R (Kd.int .u8) 5 w' w.heap.size (fun _ => True) v0_ r ∧ Below w.heap.size w w' := by
 have hu58 := Try.underlying58
 have HR1_4 := am hr1_4
 have HC1_4 := am hc1_4
 clear hr1_4 hc1_4
 have HB := am (Below.refl w.heap.size w)
 have H := h
 clear h
 unfold impl_PutMsg.f at H
 replace H := be H
 obtain ⟨qa1_0, Qa1, H⟩ := H
 have HC4 := am H
 clear H
 go_enter Try.func52, Try.ntmps52
 go_upto_region 2 with (first | ((with_reducible refine gate_dst (N := 3) rfl ?_); (try (refine gate_guard (by rfl) ?_; dsimp only)); refine bxe 3 #[.int .i64 a1_0, .int .i64 a1_1, .int .i64 a1_2, .int .i64 a1_3, .slice A1_4 l1_4.length c1_4] 58 ?_; intro gb457 hg w5 hbox hb; have n_ := ak4 (below_step (bq HB.out) hb) hbox (bz hg (bq HB.out)) (bz hg (bq HB.out)); clear HB; obtain ⟨HB, BK457, GW457, GE457⟩ := n_; clear hb hbox hg; obtain ⟨hcz6_0, hcz6_1, hcz6_2, hcz6_3, hcz6_4, hfz6_0, hfz6_1, hfz6_2, hfz6_3, hfz6_4⟩ := cl5 BK457.out) | ((with_reducible refine gate_callee (f := 41) rfl ?_); refine gc (some 9) (impl_PutPdu.calls k a1_0 a1_1 a1_2 a1_3 _ _ l1_4 qa1_0 _ (cq (Kd.C_below HR1_4.out HB.out)) HC1_4.out Qa1.out) Try.func41 ?_; rintro e w7 ⟨v459, rfl, ho0, hb⟩; refine ⟨_, rfl, ?_⟩; have n_ := ak3 (rl ho0 (bq1 HB.out GE457.out)) (kb BK457 hb) (below_step (bq1 HB.out GE457.out) hb); clear BK457 HB; obtain ⟨HO460, BK457, HB⟩ := n_; (try clear hb ho0)))
 (try simp only [Act.put, List.setIfInBounds_toArray, List.set_cons_zero, List.set_cons_succ])
 go_cut [17] (fun v17 wc => ∃ (kq : Nat) (x17_3 : Bool), v17 = .bool x17_3 ∧ Aside0 (impl_PutMsg.j0 kq a0 qa1_0 x17_3 = some r) ∧ Aside0 (kq ≤ k) ∧ Aside0 (Kd.R (Kd.int .u8) 5 wc w.heap.size (fun _ => True) v459 qa1_0) ∧ Aside0 (wc.heap[gb457]? = some (.cells #[.int .i64 a1_0, .int .i64 a1_1, .int .i64 a1_2, .int .i64 a1_3, (.slice A1_4 l1_4.length c1_4)] 58 (0, 0))) ∧ Aside0 (Below w.heap.size w wc))
 case first =>
  have H := HC4.out
  clear HC4
  replace H := iq H
  rcases H with ⟨-, c8b0, c8b1, H⟩ | ⟨c8, c8b0, c8b1, H⟩
  · (first | rw [c8b0] | (simp only [i64_w, i32_w]; rw [c8b0]) | skip)
    have H' := am H
    clear H
    obtain ⟨Ao9, co9, eo9⟩ := Kd.R_slice HO460.out
    subst eo9
    go_wp2
    go_meet
    case rel => exact ⟨_, (true), sq, H', ⟨by first | omega | exact Nat.le_refl _⟩, ⟨kqR HO460.out⟩, ⟨zq BK457.out⟩, ⟨bq1 HB.out GE457.out⟩⟩
  have c8b2 : ¬ (qa1_0 = []) := fun h_ => c8 (by rw [h_]; rfl)
  (first | rw [c8b0] | (simp only [i64_w, i32_w]; rw [c8b0]) | skip)
  have H' := am H
  clear H
  obtain ⟨Ao10, co10, eo10⟩ := Kd.R_slice HO460.out
  subst eo10
  go_wp2
  go_meet
  case rel => exact ⟨_, (decide ((a0.size : Int) > 20)), sq, H', ⟨by first | omega | exact Nat.le_refl _⟩, ⟨kqR HO460.out⟩, ⟨zq BK457.out⟩, ⟨bq1 HB.out GE457.out⟩⟩
 case rest =>
  clear HC4
  try clear c1
  try clear p2
  try clear c4
  try clear c5
  try clear c8
  try clear c8b0
  try clear c8b1
  try clear c8b2
  try clear hcz6_0
  try clear hcz6_1
  try clear hcz6_2
  try clear hcz6_3
  try clear hcz6_4
  try clear hfz6_0
  try clear hfz6_1
  try clear hfz6_2
  try clear hfz6_3
  try clear hfz6_4
  obtain ⟨kq, x17_3, rfl, HA, HJ3, HO_5, BK457, HB⟩ := hcut
  cases kq with
  | zero => exact absurd HA.out (by simp [impl_PutMsg.j0])
  | succ kj3 =>
   have H := HA.out
   clear HA
   simp only [impl_PutMsg.j0] at H
   rcases Decidable.em (x17_3 = true) with c11 | c11
   subst c11
   replace H : (some ([] : List Int)) = some r := by rw [if_pos rfl] at H; exact H
   have z0 := trivial
   rotate_left
   replace c11 := Bool.eq_false_iff.mpr c11
   subst c11
   replace H : ((impl_addNum.f kj3 ([] : List Int) 2 1).bind fun qb1_0 => (if (a0.size : Int) < 140737488355328 then ((impl_PutTlv.f kj3 qb1_0 4 (bytesOf a0)).bind fun qc1_0 => (if qc1_0.length + qa1_0.length < 140737488355328 then ((impl_tlv.f kj3 48 (qc1_0 ++ qa1_0)).bind fun bt473 => (if bt473.2 = true then (some bt473.1) else (some ([] : List Int)))) else (none))) else (none))) = some r := by rw [if_neg (show ¬ (false = true) by decide)] at H; exact H
   replace H := be H
   obtain ⟨qb1_0, Qb1, H⟩ := H
   replace H := nq H
   obtain ⟨c13, H⟩ := H
   have c13b0 := eq_true c13
   have c13b1 : decide ((a0.size : Int) < 140737488355328) = true := decide_eq_true c13
   clear c13
   generalize hy464 : ((bytesOf a0) : List Int) = y464 at H
   have Ny464 := am hy464.symm
   clear hy464
   replace H := be H
   obtain ⟨qc1_0, Qc1, H⟩ := H
   replace H := nq H
   obtain ⟨c15, H⟩ := H
   have LMc15 := am c15
   clear c15
   generalize hy470 : ((qc1_0 ++ qa1_0) : List Int) = y470 at H
   have Ny470 := am hy470.symm
   clear hy470
   replace H := be H
   obtain ⟨⟨qd1_0, qd1_1⟩, Qd1, H⟩ := H
   try dsimp only at H
   rcases bt qd1_1 with rfl | rfl
   replace H := iT H
   have z1 := trivial
   rotate_left
   replace H := iF H
   have z2 := trivial
   rotate_right
   rotate_right
   all_goals
    obtain rfl := Option.some.inj H
    go_wp2_with (first | ((with_reducible refine gate_callee (f := 76) rfl ?_); refine gc (some 19) (impl_addNum.calls kj3 _ _ ([] : List Int) 2 1 qb1_0 _ (Kd.C_nil _ _) (Nat.le_refl _) Qb1.out) Try.func76 ?_; rintro e w_ ⟨v462, rfl, ho_, hb⟩; refine ⟨_, rfl, ?_⟩; have n_ := ak4 (re_ HO_5 ho_ hb) (rn_ ho_ HO_5 (bq1 HB.out GE457.out)) (kb BK457 hb) (below_step (bq1 HB.out GE457.out) hb); clear HO_5 BK457 HB; obtain ⟨HO_5, HO463, BK457, HB⟩ := n_; (try clear hb ho_); obtain ⟨Ao_463, co_463, eo_463⟩ := Kd.R_slice HO463.out; subst eo_463) | ((with_reducible refine gate_dst (N := 21) rfl ?_); (try (refine gate_guard (by rfl) ?_; dsimp only)); refine strb_event ?hg (N := 21) ?hd 9 22 5 (x := .tmp 20) ?ho (s := a0) (y := y464) Ny464.out ?hx Try.underlying9 Try.underlying22 Try.underlying5 (by have h_ : (a0.size : Int) < (140737488355328 : Int) := oda; omega) ?_; (case hd => rfl); (case hg => rfl); (case ho => rfl); (case hx => first | (go_simp; done) | (go_simp; rfl)); intro As464 cs464 w_ hs_ hl_ hb; have n_ := ak6 (rb HO_5 hb) (rb HO463 hb) (kb BK457 hb) (below_step (bq1 HB.out GE457.out) hb) hs_ hl_; clear HO_5 HO463 BK457 HB; obtain ⟨HO_5, HO463, BK457, HB, HRs464, HCs464⟩ := n_; clear hb hs_ hl_) | ((with_reducible refine gate_callee (f := 71) rfl ?_); refine gc (some 22) (impl_PutTlv.calls kj3 _ _ qb1_0 4 _ _ y464 qc1_0 _ (cq (Kd.R_reads' HO463.out).2.2) ((Kd.R_reads' HO463.out).2.1) (by repeat (first | exact (by repeat (first | (with_reducible exact HRs464.out) | (with_reducible refine Kd.C_alloc ?_ _) | (with_reducible refine Kd.C_drewN ?_ _) | (with_reducible refine Kd.C_drew ?_) | exact HRs464.out)) | (with_reducible refine Kd.C_alloc ?_ _) | (with_reducible refine Kd.C_drewN ?_ _) | (with_reducible refine Kd.C_drew ?_))) HCs464.out Qc1.out) Try.func71 ?_; rintro e w_ ⟨v468, rfl, ho_, hb⟩; refine ⟨_, rfl, ?_⟩; have n_ := ak6 (re_ HO_5 ho_ hb) (re_ HO463 ho_ hb) (Kd.R_lower (Kd.R_new' (Kd.R_new' ho_ (Kd.R_lt (kqR HO_5.out))) (Kd.R_lt (kqR HO463.out))) (below_size (bq1 HB.out GE457.out))) (kb BK457 hb) (Kd.C_below (by repeat (first | (with_reducible exact HRs464.out) | (with_reducible refine Kd.C_alloc ?_ _) | (with_reducible refine Kd.C_drewN ?_ _) | (with_reducible refine Kd.C_drew ?_) | exact HRs464.out)) hb) (below_step (bq1 HB.out GE457.out) hb); clear HO_5 HO463 BK457 HRs464 HB; obtain ⟨HO_5, HO463, HO469, BK457, HRs464, HB⟩ := n_; (try clear hb ho_); obtain ⟨Ao__5, co__5, eo__5⟩ := Kd.R_slice HO_5.out; subst eo__5) | ((with_reducible refine gate_builtin (b := .append) (xs := #[.tmp 22, .tmp 23]) rfl ?_); (try (refine gate_guard (by rfl) ?_; dsimp only)); at_builtin; refine Kd.R_append_rows (Kd.int .u8) (w0 := w) w.heap.size rfl (.tmp 22) (.tmp 23) 22 5 (.int .u8 0) 1 rfl Try.underlying22 info5 rfl (by decide) (by omega) v468 qc1_0 qa1_0 _ _ _ (fun k_ => some k_ ≠ (.slice Ao__5 qa1_0.length co__5 : Value).ownBlock ∧ some k_ ≠ (.slice Ao_463 qb1_0.length co_463 : Value).ownBlock) (fun _ => False) rfl rfl ?aO ?aR (fun _ _ h => h) (fun _ h => h.elim) ?aF ?aB ?aS ?aL ?_; (case aR => repeat (first | exact (Kd.R_reads' HO_5.out).2.2 | (with_reducible refine Kd.C_alloc ?_ _) | (with_reducible refine Kd.C_drewN ?_ _) | (with_reducible refine Kd.C_drew ?_))); (case aB => exact (bq1 HB.out GE457.out)); (case aF => exact (fun k_ hk => ⟨Kd.fresh' (Kd.R_lt (kqR HO_5.out)) k_ hk, Kd.fresh' (Kd.R_lt (kqR HO463.out)) k_ hk⟩)); (case aO => exact (by refine kr ?_; exact Kd.R_mono HO469.out (fun _ hk => ⟨hk.1.2, hk.2⟩))); (case aS => exact (below_size (bq1 HB.out GE457.out))); (case aL => have := LMc15.out; omega); intro v471 w_ ho hb hg hat; rw [← Ny470.out] at ho; have n_ := ak5 (Kd.R_after (ok := (fun k_ => some k_ ≠ (.slice Ao_463 qb1_0.length co_463 : Value).ownBlock)) (by refine kr ?_; exact Kd.R_mono HO_5.out (fun _ hk => ⟨hk.1.2, hk.2⟩)) hg hat) (blk_grown (g := gb457) (o := .cells #[.int .i64 a1_0, .int .i64 a1_1, .int .i64 a1_2, .int .i64 a1_3, .slice A1_4 l1_4.length c1_4] 58 (0, 0)) (zq BK457.out) hg (Kd.R_ne HO469.out BK457.out (by decide))) (Kd.R_after (ok := (fun k_ => some k_ ≠ (.slice Ao__5 qa1_0.length co__5 : Value).ownBlock)) (by refine kr ?_; exact Kd.R_mono HO463.out (fun _ hk => ⟨hk.1.2, hk.2⟩)) hg hat) hb ho; clear HO_5 BK457 HO463 HB HO469; obtain ⟨HO_5, BK457, HO463, HB, HO472⟩ := n_; clear ho hb hg hat; obtain ⟨Ao_472, co_472, eo_472⟩ := Kd.R_slice HO472.out; subst eo_472) | ((with_reducible refine gate_callee (f := 100) rfl ?_); have := z2; refine gc (some 25) (impl_tlv.calls kj3 48 _ _ y470 qd1_0 false _ (cq (Kd.R_reads' HO472.out).2.2) ((Kd.R_reads' HO472.out).2.1) Qd1.out) Try.func100 ?_; rintro e w_ ⟨v475, rfl, ho_, hb⟩; refine ⟨_, rfl, ?_⟩; have n_ := ak6 (re_ HO_5 ho_ hb) (re_ HO463 ho_ hb) (re_ HO472 ho_ hb) (Kd.R_lower (Kd.R_new' (Kd.R_new' (Kd.R_new' ho_ (Kd.R_lt (kqR HO_5.out))) (Kd.R_lt (kqR HO463.out))) (Kd.R_lt (kqR HO472.out))) (below_size (bq1 HB.out GE457.out))) (kb BK457 hb) (below_step (bq1 HB.out GE457.out) hb); clear HO_5 HO463 HO472 BK457 HB; obtain ⟨HO_5, HO463, HO472, HO476, BK457, HB⟩ := n_; (try clear hb ho_)) | ((with_reducible refine gate_callee (f := 100) rfl ?_); have := z1; refine gc (some 25) (impl_tlv.calls kj3 48 _ _ y470 qd1_0 true _ (cq (Kd.R_reads' HO472.out).2.2) ((Kd.R_reads' HO472.out).2.1) Qd1.out) Try.func100 ?_; rintro e w_ ⟨v475, rfl, ho_, hb⟩; refine ⟨_, rfl, ?_⟩; have n_ := ak6 (re_ HO_5 ho_ hb) (re_ HO463 ho_ hb) (re_ HO472 ho_ hb) (Kd.R_lower (Kd.R_new' (Kd.R_new' (Kd.R_new' ho_ (Kd.R_lt (kqR HO_5.out))) (Kd.R_lt (kqR HO463.out))) (Kd.R_lt (kqR HO472.out))) (below_size (bq1 HB.out GE457.out))) (kb BK457 hb) (below_step (bq1 HB.out GE457.out) hb); clear HO_5 HO463 HO472 BK457 HB; obtain ⟨HO_5, HO463, HO472, HO476, BK457, HB⟩ := n_; (try clear hb ho_)))
    first
    | go_ret
      exact ⟨_, rq, by refine kr ?_; exact Kd.R_mono HO476.out (fun _ hk => trivial), bq1 HB.out GE457.out⟩
    | go_ret
      exact ⟨_, rq, rn, bq1 HB.out GE457.out⟩
/-- A state of type 135 at block g of W; what its slices lead to came in by w0. -/
def IsS135 (w0 W : World) (g : Nat) (f0 : List Int) (f1 : Int) (f2 : Int) : Prop := ∃ A0 c0, W.heap[g]? = some (.cells #[.slice A0 f0.length c0, .int .i64 f1, .int .i64 f2] 135 (0, 0)) ∧ w0.heap.size ≤ g ∧ (Kd.C (Kd.int .u8) w0 A0 f0.length f0 ∧ f0.length ≤ c0)
theorem IsS135.grown {w0 W : World} {g : Nat} {f0 : List Int} {f1 : Int} {f2 : Int} {W1 : World} {row : Option Nat} (h : IsS135 w0 W g f0 f1 f2) (hw : W.grownBy W1 row) (hne : some g ≠ row) : IsS135 w0 W1 g f0 f1 f2 := by
 obtain ⟨A0, c0, hb, hg, hr0⟩ := h
 exact ⟨A0, c0, blk_grown hb hw hne, hg, hr0⟩
theorem IsS135.own_neN {w0 W : World} {g : Nat} {f0 : List Int} {f1 : Int} {f2 : Int} {α : Type} {d : Kd α} {e : Nat} {base : Nat} {ok : Nat → Prop} {v : Value} {xs : List α} (h : IsS135 w0 W g f0 f1 f2) (ho : Kd.N d e W base ok v xs) (ht : e ≠ 135) : some g ≠ v.ownBlock := by
 obtain ⟨A0, c0, hb, hg, hr0⟩ := h
 exact Kd.N_ne ho hb ht
theorem IsS135.fresh {w0 W : World} {g : Nat} {f0 : List Int} {f1 : Int} {f2 : Int} (h : IsS135 w0 W g f0 f1 f2) : ∀ k, W.heap.size ≤ k → k ≠ g := by
 obtain ⟨A0, c0, hb, hg, hr0⟩ := h
 exact Kd.freshB hb
theorem IsS135.kept {w0 W : World} {g : Nat} {f0 : List Int} {f1 : Int} {f2 : Int} {W1 : World} {S : Nat → Prop} (h : IsS135 w0 W g f0 f1 f2) (hk : Kept W W1 S) (hne : ¬ S g) : IsS135 w0 W1 g f0 f1 f2 := by
 obtain ⟨A0, c0, hb, hg, hr0⟩ := h
 exact ⟨A0, c0, blk_kept hb hk hne, hg, hr0⟩
theorem IsS135.below {w0 W : World} {g : Nat} {f0 : List Int} {f1 : Int} {f2 : Int} {W1 : World} (h : IsS135 w0 W g f0 f1 f2) (hw : Below W.heap.size W W1) : IsS135 w0 W1 g f0 f1 f2 := h.grown (grown_of_below hw none) (by simp)
theorem IsS135.alloc {w0 W : World} {g : Nat} {f0 : List Int} {f1 : Int} {f2 : Int} (h : IsS135 w0 W g f0 f1 f2) (o : Obj) : IsS135 w0 (W.alloc o) g f0 f1 f2 := h.below (below_alloc (Below.refl _ _) o)
theorem IsS135.drewN {w0 W : World} {g : Nat} {f0 : List Int} {f1 : Int} {f2 : Int} (h : IsS135 w0 W g f0 f1 f2) (m : Nat) : IsS135 w0 (W.drewN m) g f0 f1 f2 := h
theorem IsS135.drew {w0 W : World} {g : Nat} {f0 : List Int} {f1 : Int} {f2 : Int} (h : IsS135 w0 W g f0 f1 f2) : IsS135 w0 W.drew g f0 f1 f2 := h
theorem IsS135.at_ {w0 W : World} {g : Nat} {f0 : List Int} {f1 : Int} {f2 : Int} {w' : World} {m : Nat} (hq : W.drewN m = w') (h : IsS135 w0 W g f0 f1 f2) : IsS135 w0 w' g f0 f1 f2 := by subst hq; exact IsS135.drewN h m
theorem IsS135.apart {w0 W : World} {g : Nat} {f0 : List Int} {f1 : Int} {f2 : Int} {α : Type} {d : Kd α} {e : Nat} {base : Nat} {ok : Nat → Prop} {v : Value} {xs : List α} (h : IsS135 w0 W g f0 f1 f2) (ho : d.R e W base ok v xs) (ht : ∀ q, q ∈ e :: d.E → q ≠ 135) : d.R e W base (fun k => ok k ∧ k ≠ g) v xs := by
 obtain ⟨A0, c0, hb, hg, hr0⟩ := h
 exact Kd.R_types ho hb ht
theorem IsS135.own_ne {w0 W : World} {g : Nat} {f0 : List Int} {f1 : Int} {f2 : Int} {α : Type} {d : Kd α} {e : Nat} {base : Nat} {ok : Nat → Prop} {v : Value} {xs : List α} (h : IsS135 w0 W g f0 f1 f2) (ho : d.R e W base ok v xs) (ht : e ≠ 135) : some g ≠ v.ownBlock := by
 obtain ⟨A0, c0, hb, hg, hr0⟩ := h
 exact Kd.R_ne ho hb ht
theorem IsS135.apartQ {w0 W : World} {g : Nat} {f0 : List Int} {f1 : Int} {f2 : Int} {α : Type} {d : Kd α} {e : Nat} {base : Nat} {ok : Nat → Prop} {v : Value} {xs : List α} (h : IsS135 w0 W g f0 f1 f2) (ho : d.Q e W base ok v xs) (ht : ∀ q, q ∈ e :: d.E → q ≠ 135) : d.Q e W base (fun k => ok k ∧ k ≠ g) v xs := by
 obtain ⟨A0, c0, hb, hg, hr0⟩ := h
 exact Kd.Q_types ho hb ht
theorem IsS135.own_neQ {w0 W : World} {g : Nat} {f0 : List Int} {f1 : Int} {f2 : Int} {α : Type} {d : Kd α} {e : Nat} {base : Nat} {ok : Nat → Prop} {v : Value} {xs : List α} (h : IsS135 w0 W g f0 f1 f2) (ho : d.Q e W base ok v xs) (ht : e ≠ 135) : some g ≠ v.ownBlock := by
 obtain ⟨A0, c0, hb, hg, hr0⟩ := h
 exact Kd.Q_ne ho hb ht
theorem IsS135.apartS {w0 W : World} {g : Nat} {f0 : List Int} {f1 : Int} {f2 : Int} {α : Type} {d : Kd α} {e : Nat} {base : Nat} {ok : Nat → Prop} {v : Value} {xs : List α} (h : IsS135 w0 W g f0 f1 f2) (ho : d.S e W base ok v xs) (ht : ∀ q, q ∈ e :: d.E → q ≠ 135) : d.S e W base (fun k => ok k ∧ k ≠ g) v xs := by
 obtain ⟨A0, c0, hb, hg, hr0⟩ := h
 exact Kd.S_types ho hb ht
theorem IsS135.own_neS {w0 W : World} {g : Nat} {f0 : List Int} {f1 : Int} {f2 : Int} {α : Type} {d : Kd α} {e : Nat} {base : Nat} {ok : Nat → Prop} {v : Value} {xs : List α} (h : IsS135 w0 W g f0 f1 f2) (ho : d.S e W base ok v xs) (ht : e ≠ 135) : some g ≠ v.ownBlock := by
 obtain ⟨A0, c0, hb, hg, hr0⟩ := h
 exact Kd.S_ne ho hb ht
theorem IsS135.lt {w0 W : World} {g : Nat} {f0 : List Int} {f1 : Int} {f2 : Int} (h : IsS135 w0 W g f0 f1 f2) : g < W.heap.size := by
 obtain ⟨A0, c0, hb, hg, hr0⟩ := h
 exact blk_lt hb
theorem IsS135.ge {w0 W : World} {g : Nat} {f0 : List Int} {f1 : Int} {f2 : Int} (h : IsS135 w0 W g f0 f1 f2) : w0.heap.size ≤ g := by
 obtain ⟨A0, c0, hb, hg, hr0⟩ := h
 exact hg
theorem IsS135.ne_blk {w0 W : World} {g : Nat} {f0 : List Int} {f1 : Int} {f2 : Int} {a : Nat} {cs : Array Value} {t : TypeId} {fr : Nat × Nat} (h : IsS135 w0 W g f0 f1 f2) (hb2 : W.heap[a]? = some (.cells cs t fr)) (ht : t ≠ 135) : g ≠ a := by
 obtain ⟨A0, c0, hb, hg, hr0⟩ := h
 rintro rfl
 rw [hb] at hb2
 injection hb2 with hb2
 injection hb2 with _ ht2
 exact ht ht2.symm
theorem IsS135.far {w0 W : World} {g : Nat} {f0 : List Int} {f1 : Int} {f2 : Int} {p : Addr} (h : IsS135 w0 W g f0 f1 f2) (hne : g ≠ p.block) (u : Value) : IsS135 w0 (W.setCell p u) g f0 f1 f2 := by
 obtain ⟨A0, c0, hb, hg, hr0⟩ := h
 exact ⟨A0, c0, blk_far hb hne u, hg, hr0⟩
theorem cellS135_0 {W : World} {g : Nat} {A0 : Option Addr} {c0 : Nat} {f0 : List Int} {f1 : Int} {f2 : Int} (h : W.heap[g]? = some (.cells #[.slice A0 f0.length c0, .int .i64 f1, .int .i64 f2] 135 (0, 0))) : W.cell? ⟨g, 0, none⟩ = some (.slice A0 f0.length c0) := (blk_cell h 0).trans rfl
theorem cellS135_1 {W : World} {g : Nat} {A0 : Option Addr} {c0 : Nat} {f0 : List Int} {f1 : Int} {f2 : Int} (h : W.heap[g]? = some (.cells #[.slice A0 f0.length c0, .int .i64 f1, .int .i64 f2] 135 (0, 0))) : W.cell? ⟨g, 1, none⟩ = some (.int .i64 f1) := (blk_cell h 1).trans rfl
theorem IsS135.set_1 {w0 W : World} {g : Nat} {f0 : List Int} {f1 : Int} {f2 : Int} (h : IsS135 w0 W g f0 f1 f2) (x : Int) : IsS135 w0 (W.setCell ⟨g, 1, none⟩ (.int .i64 x)) g f0 x f2 := by
 obtain ⟨A0, c0, hb, hg, hr0⟩ := h
 exact ⟨A0, c0, by simpa using blk_set hb 1 (.int .i64 x), hg, hr0⟩
theorem cellS135_2 {W : World} {g : Nat} {A0 : Option Addr} {c0 : Nat} {f0 : List Int} {f1 : Int} {f2 : Int} (h : W.heap[g]? = some (.cells #[.slice A0 f0.length c0, .int .i64 f1, .int .i64 f2] 135 (0, 0))) : W.cell? ⟨g, 2, none⟩ = some (.int .i64 f2) := (blk_cell h 2).trans rfl
theorem IsS135.set_2 {w0 W : World} {g : Nat} {f0 : List Int} {f1 : Int} {f2 : Int} (h : IsS135 w0 W g f0 f1 f2) (x : Int) : IsS135 w0 (W.setCell ⟨g, 2, none⟩ (.int .i64 x)) g f0 f1 x := by
 obtain ⟨A0, c0, hb, hg, hr0⟩ := h
 exact ⟨A0, c0, by simpa using blk_set hb 2 (.int .i64 x), hg, hr0⟩
theorem IsS135.new (w0 W : World) (A0 : Option Addr) (c0 : Nat) (f0 : List Int) (f1 : Int) (f2 : Int) (hB : Below w0.heap.size w0 W) (hr0 : Kd.C (Kd.int .u8) w0 A0 f0.length f0 ∧ f0.length ≤ c0) : IsS135 w0 (W.alloc (.cells #[.slice A0 f0.length c0, .int .i64 f1, .int .i64 f2] 135)) W.heap.size f0 f1 f2 := ⟨A0, c0, by simpa using heap_alloc_new W _, hB.size, hr0⟩
theorem IsS135.q0 {a b : Prop} (h : a) (g : a → b := by intro h_; repeat (first | (with_reducible first | exact h_ | apply IsS135.alloc | apply IsS135.drewN | apply IsS135.drew | apply IsS135.set_1 | apply IsS135.set_2) | exact h_)) : b := g h
theorem IsS135.q1 {a b : Prop} {c0 : Prop} (h : a) (h0 : c0) (g : a → c0 → b := by intro h_ h0_; repeat (first | (with_reducible first | exact h_ | apply IsS135.alloc | apply IsS135.drewN | apply IsS135.drew | apply IsS135.set_1 | apply IsS135.set_2 | refine IsS135.far ?_ h0_ _) | exact h_)) : b := g h h0
theorem IsS135.q2 {a b : Prop} {c0 : Prop} {c1 : Prop} (h : a) (h0 : c0) (h1 : c1) (g : a → c0 → c1 → b := by intro h_ h0_ h1_; repeat (first | (with_reducible first | exact h_ | apply IsS135.alloc | apply IsS135.drewN | apply IsS135.drew | apply IsS135.set_1 | apply IsS135.set_2 | refine IsS135.far ?_ h0_ _ | refine IsS135.far ?_ h1_ _) | exact h_)) : b := g h h0 h1
theorem IsS135.q3 {a b : Prop} {c0 : Prop} {c1 : Prop} {c2 : Prop} (h : a) (h0 : c0) (h1 : c1) (h2 : c2) (g : a → c0 → c1 → c2 → b := by intro h_ h0_ h1_ h2_; repeat (first | (with_reducible first | exact h_ | apply IsS135.alloc | apply IsS135.drewN | apply IsS135.drew | apply IsS135.set_1 | apply IsS135.set_2 | refine IsS135.far ?_ h0_ _ | refine IsS135.far ?_ h1_ _ | refine IsS135.far ?_ h2_ _) | exact h_)) : b := g h h0 h1 h2

/-! ### spec_l1New: function 74 -/
def spec_l1New.l0 : Nat → List Int → Int → Int → Option (List Int × Int × Int)
 | 0, _, _, _ => none
 | k + 1, x0, x3, x4 => if x4 < (x0.length : Int) then (if x4 < 4000 then (if 0 ≤ x4 then (spec_l1New.l0 k x0 (Go.bits .and .i64 (wrap64 ((wrap64 ((wrap64 (x3 * 137)) + (wrap64 (rd x0 x4)))) + 11)) 1073741823) (wrap64 (x4 + 1))) else (none)) else (some (x0, 0, x3))) else (some (x0, 0, x3))
def spec_l1New.f (k : Nat) (l0 : List Int) : Option (List Int × Int × Int) := spec_l1New.l0 k l0 (wrap64 (762762 + (l0.length : Int))) 0
set_option maxHeartbeats 8000000 in
set_option maxRecDepth 100000 in
theorem spec_l1New.calls (k : Nat) (A0 : Option Addr) (c0 : Nat) (l0 : List Int) (r1 : List Int) (r2 : Int) (r3 : Int) (w0 w : World) (hB : Below w0.heap.size w0 w) (hr0 : Kd.C (Kd.int .u8) w0 A0 l0.length l0) (hc0 : l0.length ≤ c0) (h : spec_l1New.f k l0 = some (r1, r2, r3)) :
 Calls Try.prog 74 #[.slice A0 l0.length c0] w fun e w' => ∃ g_ : Nat, e = .returned (.pointer (some ⟨g_, 0, none⟩)) ∧ IsS135 w0 w' g_ r1 r2 r3 ∧ Below w0.heap.size w0 w' ∧ Below w.heap.size w w' := by
 have hu135 := Try.underlying135
 have HR0 := am hr0
 have HC0 := am hc0
 clear hr0 hc0
 have HBW := am (Below.refl w.heap.size w)
 have HW0 := am hB.size
 have HB := am hB
 clear hB
 have H := h
 clear h
 unfold spec_l1New.f at H
 have H' := am H
 clear H
 go_enter Try.func74, Try.ntmps74
 go_wp2
 go_loopg [3, 4] k (fun kq v3 v4 w' => ∃ (x3_1 : Int) (x4_1 : Int), v3 = .int .i64 x3_1 ∧ v4 = .int .i64 x4_1 ∧ Aside0 (spec_l1New.l0 kq l0 x3_1 x4_1 = some (r1, r2, r3)) ∧ Aside0 (kq ≤ k) ∧ Aside0 (Below w0.heap.size w0 w') ∧ Aside0 (Below w.heap.size w w'))
 case atStart => exact ⟨(wrap64 (762762 + (l0.length : Int))), (0), sq, sq, H', ⟨Nat.le_refl _⟩, ⟨bq HB.out⟩, ⟨bq HBW.out⟩⟩
 case round =>
  clear H' HBW
  obtain ⟨x3_1, x4_1, rfl, rfl, HA, HK1, HB, HBW⟩ := hrel
  cases gk with
  | zero => exact absurd HA.out (by simp [spec_l1New.l0])
  | succ k1 =>
   have H := HA.out
   clear HA
   simp only [spec_l1New.l0] at H
   replace H := il' H
   rcases H with ⟨-, c2b0, H⟩ | ⟨-, c2b0, H⟩
   · simp only [Option.some.injEq, Prod.mk.injEq] at H
     obtain ⟨rfl, rfl, rfl⟩ := H
     go_wp2_with (first | ((with_reducible refine gate_dst (N := 31) rfl ?_); refine bxe 31 #[.slice A0 l0.length c0, .int .i64 0, .int .i64 x3_1] 135 ?_; intro gb479 hg w6 hbox hb; have n_ := ak5 (below_step HBW.out hb) (below_step (bq HB.out) hb) hbox (bz hg (bq HBW.out)) ((Nat.le_trans HW0.out (by rw [hg]; exact (below_size (bq HBW.out)) : w.heap.size ≤ gb479) : w0.heap.size ≤ gb479)); clear HBW HB; obtain ⟨HBW, HB, BK479, GW479, GE479⟩ := n_; clear hb hbox hg))
     go_ret
     exact ⟨_, rfl, (show IsS135 w0 _ gb479 l0 0 x3_1 from ⟨_, _, zq BK479.out, GE479.out, ⟨HR0.out, HC0.out⟩⟩), bq1 HB.out GE479.out, bq1 HBW.out GW479.out⟩
   replace H := il' H
   rcases H with ⟨-, c3b0, H⟩ | ⟨-, c3b0, H⟩
   · simp only [Option.some.injEq, Prod.mk.injEq] at H
     obtain ⟨rfl, rfl, rfl⟩ := H
     go_wp2_with (first | ((with_reducible refine gate_dst (N := 31) rfl ?_); refine bxe 31 #[.slice A0 l0.length c0, .int .i64 0, .int .i64 x3_1] 135 ?_; intro gb478 hg w5 hbox hb; have n_ := ak5 (below_step HBW.out hb) (below_step (bq HB.out) hb) hbox (bz hg (bq HBW.out)) ((Nat.le_trans HW0.out (by rw [hg]; exact (below_size (bq HBW.out)) : w.heap.size ≤ gb478) : w0.heap.size ≤ gb478)); clear HBW HB; obtain ⟨HBW, HB, BK478, GW478, GE478⟩ := n_; clear hb hbox hg))
     go_ret
     exact ⟨_, rfl, (show IsS135 w0 _ gb478 l0 0 x3_1 from ⟨_, _, zq BK478.out, GE478.out, ⟨HR0.out, HC0.out⟩⟩), bq1 HB.out GE478.out, bq1 HBW.out GW478.out⟩
   replace H := nl H
   obtain ⟨-, c4b0, H⟩ := H
   have H' := am H
   clear H
   have p477 : 0 ≤ (x4_1 : Int) := oda
   have q477 : x4_1 < (l0.length : Int) := oda
   obtain ⟨ad477, e477, hx477_0⟩ := Kd.at_int HR0.out x4_1 p477 q477
   cases e477
   replace hx477_0 := pw_cell_below HB.out hx477_0
   replace p477 := eq_true p477
   replace q477 := eq_true q477
   go_wp2
   go_roundg k1
   case measure => have := HK1.out; omega
   case rel => exact ⟨(Go.bits .and .i64 (wrap64 ((wrap64 ((wrap64 (x3_1 * 137)) + (wrap64 (rd l0 x4_1)))) + 11)) 1073741823), (wrap64 (x4_1 + 1)), sq, sq, H', ⟨by have := HK1.out; omega⟩, ⟨bq HB.out⟩, ⟨bq HBW.out⟩⟩
/-! ### spec_l1Byte: function 137 -/
def spec_l1Byte.f (s0_0 : List Int) (s0_1 : Int) (s0_2 : Int) : Option (Int × Int × Int) := if s0_1 < (s0_0.length : Int) then (if 0 ≤ s0_1 then (some (Go.bits .and .i64 (wrap64 ((Go.bits .and .i64 (Go.bits .xor .i64 ((wrap64 ((wrap64 (s0_2 * 6364136223846793005)) + 1442695040888963407)) / 8589934592) ((wrap64 ((wrap64 (s0_2 * 6364136223846793005)) + 1442695040888963407)) / 140737488355328)) 255) + (wrap64 (rd s0_0 s0_1)))) 255, wrap64 (s0_1 + 1), wrap64 ((wrap64 (s0_2 * 6364136223846793005)) + 1442695040888963407))) else (none)) else (some (Go.bits .and .i64 (Go.bits .xor .i64 ((wrap64 ((wrap64 (s0_2 * 6364136223846793005)) + 1442695040888963407)) / 8589934592) ((wrap64 ((wrap64 (s0_2 * 6364136223846793005)) + 1442695040888963407)) / 140737488355328)) 255, s0_1, wrap64 ((wrap64 (s0_2 * 6364136223846793005)) + 1442695040888963407)))
set_option maxHeartbeats 8000000 in
set_option maxRecDepth 100000 in
theorem spec_l1Byte.calls (g : Nat) (s0_0 : List Int) (s0_1 : Int) (s0_2 : Int) (r1 : Int) (r2 : Int) (r3 : Int) (w0 w : World) (hI : IsS135 w0 w g s0_0 s0_1 s0_2) (hB : Below w0.heap.size w0 w) (h : spec_l1Byte.f s0_0 s0_1 s0_2 = some (r1, r2, r3)) :
 Calls Try.prog 137 #[.pointer (some ⟨g, 0, none⟩)] w fun e w' => e = .returned (.int .i64 r1) ∧ IsS135 w0 w' g s0_0 r2 r3 ∧ Below w0.heap.size w0 w' ∧ KeepBut w w' g none := by
 have HI0 := am hI
 have HK := am (KeepBut.refl w g none)
 have HL := am hB.size
 clear hI
 have HW0 := am hB.size
 have HB := am hB
 clear hB
 have H := h
 clear h
 unfold spec_l1Byte.f at H
 replace H := il' H
 rcases H with ⟨-, c2b0, H⟩ | ⟨-, c2b0, H⟩
 · simp only [Option.some.injEq, Prod.mk.injEq] at H
   obtain ⟨rfl, rfl, rfl⟩ := H
   obtain ⟨ASz5_0, cSz5_0, HGz5, hgz5, HSz5_0⟩ := HI0.out
   have hcz5_0 := cellS135_0 HGz5
   have hcz5_1 := cellS135_1 HGz5
   have hcz5_2 := cellS135_2 HGz5
   have hfz5_1 := blk_frozen HGz5 1
   have hfz5_2 := blk_frozen HGz5 2
   clear HGz5 hgz5
   go_enter Try.func137, Try.ntmps137
   try go_wp2
   repeat (go_quiet (fail); try go_wp2)
   go_ret
   exact ⟨rq, IsS135.q0 HI0.out, bq1 HB.out (IsS135.ge HI0.out), kp0 HK.out⟩
 replace H := nl H
 obtain ⟨-, c3b0, H⟩ := H
 simp only [Option.some.injEq, Prod.mk.injEq] at H
 obtain ⟨rfl, rfl, rfl⟩ := H
 obtain ⟨ASz4_0, cSz4_0, HGz4, hgz4, HSz4_0⟩ := HI0.out
 have hcz4_0 := cellS135_0 HGz4
 have hcz4_1 := cellS135_1 HGz4
 have hcz4_2 := cellS135_2 HGz4
 have hfz4_1 := blk_frozen HGz4 1
 have hfz4_2 := blk_frozen HGz4 2
 clear HGz4 hgz4
 have p480 : 0 ≤ (s0_1 : Int) := oda
 have q480 : s0_1 < (s0_0.length : Int) := oda
 obtain ⟨ad480, e480, hx480_0⟩ := Kd.at_int HSz4_0.1 s0_1 p480 q480
 cases e480
 have hn480_0 : ad480.block ≠ g := Nat.ne_of_lt (Nat.lt_of_lt_of_le (by have := World.block_lt_of_cell? _ _ hx480_0; first | rwa [add_block] at this | exact this) (IsS135.ge HI0.out))
 replace hx480_0 := pw_cell_below HB.out hx480_0
 replace hx480_0 := (cell_far (p := ⟨g, 2, none⟩) (by first | (rw [add_block]; exact hn480_0) | (show (Addr.add _ _).block ≠ _; rw [add_block]; exact hn480_0) | exact hn480_0) (.int .i64 (wrap64 ((wrap64 (s0_2 * 6364136223846793005)) + 1442695040888963407)))).trans hx480_0
 (try have hy480_0 := fun (n_ : Nat) => (show (((w.drewN n_).setCell ⟨g, 2, none⟩ (.int .i64 (wrap64 ((wrap64 (s0_2 * 6364136223846793005)) + 1442695040888963407))))).cell? _ = some _ from hx480_0))
 clear hn480_0
 replace p480 := eq_true p480
 replace q480 := eq_true q480
 go_enter Try.func137, Try.ntmps137
 try go_wp2
 repeat (go_quiet (fail); try go_wp2)
 go_ret
 exact ⟨rq, IsS135.q0 HI0.out, bq1 HB.out (IsS135.ge HI0.out), kp0 HK.out⟩
/-! ### spec_l1Below: function 122 -/
def spec_l1Below.f (s0_0 : List Int) (s0_1 : Int) (s0_2 : Int) (a1 : Int) : Option (Int × Int × Int) := if a1 ≤ 0 then (some (0, s0_1, s0_2)) else (if a1 ≤ 256 then ((spec_l1Byte.f s0_0 s0_1 s0_2).bind fun bt481 => (if a1 = 0 then (none) else (some (Int.tmod bt481.1 a1, bt481.2.1, bt481.2.2)))) else ((spec_l1Byte.f s0_0 s0_1 s0_2).bind fun bt484 => ((spec_l1Byte.f s0_0 bt484.2.1 bt484.2.2).bind fun bt487 => ((spec_l1Byte.f s0_0 bt487.2.1 bt487.2.2).bind fun bt490 => (if a1 = 0 then (none) else (some (Int.tmod (wrap64 ((wrap64 ((wrap64 (bt484.1 * 65536)) + (wrap64 (bt487.1 * 256)))) + bt490.1)) a1, bt490.2.1, bt490.2.2)))))))
set_option maxHeartbeats 8000000 in
set_option maxRecDepth 100000 in
theorem spec_l1Below.calls (g : Nat) (s0_0 : List Int) (s0_1 : Int) (s0_2 : Int) (a1 : Int) (r1 : Int) (r2 : Int) (r3 : Int) (w0 w : World) (hI : IsS135 w0 w g s0_0 s0_1 s0_2) (hB : Below w0.heap.size w0 w) (h : spec_l1Below.f s0_0 s0_1 s0_2 a1 = some (r1, r2, r3)) :
 Calls Try.prog 122 #[.pointer (some ⟨g, 0, none⟩), .int .i64 a1] w fun e w' => e = .returned (.int .i64 r1) ∧ IsS135 w0 w' g s0_0 r2 r3 ∧ Below w0.heap.size w0 w' ∧ KeepBut w w' g none := by
 have HI0 := am hI
 have HK := am (KeepBut.refl w g none)
 have HL := am hB.size
 clear hI
 have HW0 := am hB.size
 have HB := am hB
 clear hB
 have H := h
 clear h
 unfold spec_l1Below.f at H
 replace H := il H
 rcases H with ⟨-, c3b0, H⟩ | ⟨-, c3b0, H⟩
 have z0 := trivial
 rotate_left
 replace H := il H
 rcases H with ⟨-, c4b0, H⟩ | ⟨-, c4b0, H⟩
 replace H := be H
 obtain ⟨⟨qa1_0, qa1_1, qa1_2⟩, Qa1, H⟩ := H
 try dsimp only at H
 replace H := ip H
 rcases H with ⟨c6, H⟩ | ⟨c6, H⟩
 · exact absurd H (by simp)
 have c6b0 : (a1 == 0) = false := beq_eq_false_iff_ne.mpr c6
 have c6b1 : (a1 != 0) = true := bne_iff_ne.mpr c6
 have z1 := trivial
 rotate_left
 replace H := be H
 obtain ⟨⟨qa1_0, qa1_1, qa1_2⟩, Qa1, H⟩ := H
 try dsimp only at H
 replace H := be H
 obtain ⟨⟨qa2_0, qa2_1, qa2_2⟩, Qa2, H⟩ := H
 try dsimp only at H
 replace H := be H
 obtain ⟨⟨qa3_0, qa3_1, qa3_2⟩, Qa3, H⟩ := H
 try dsimp only at H
 replace H := ip H
 rcases H with ⟨c11, H⟩ | ⟨c11, H⟩
 · exact absurd H (by simp)
 have c11b0 : (a1 == 0) = false := beq_eq_false_iff_ne.mpr c11
 have c11b1 : (a1 != 0) = true := bne_iff_ne.mpr c11
 have z2 := trivial
 rotate_right
 rotate_right
 all_goals
  simp only [Option.some.injEq, Prod.mk.injEq] at H
  obtain ⟨rfl, rfl, rfl⟩ := H
  go_enter Try.func122, Try.ntmps122
  go_wp2_with (first | ((with_reducible refine gate_callee (f := 137) rfl ?_); have := z2; refine gc (some 19) (spec_l1Byte.calls g s0_0 qa1_1 qa1_2 qa2_0 qa2_1 qa2_2 w0 _ (IsS135.q0 HI0.out) (bq1 HB.out (IsS135.ge HI0.out)) Qa2.out) Try.func137 ?_; rintro e w_ ⟨rfl, hi, hb, hk⟩; refine ⟨_, rfl, ?_⟩; have n_ := ak3 (KeepBut.trans (kp0 HK.out) hk (.inl rfl)) hb hi; clear HK HB HI0; obtain ⟨HK, HB, HI0⟩ := n_; (try clear hb hk hi)) | ((with_reducible refine gate_callee (f := 137) rfl ?_); have := z2; refine gc (some 21) (spec_l1Byte.calls g s0_0 qa2_1 qa2_2 qa3_0 qa3_1 qa3_2 w0 _ (IsS135.q0 HI0.out) (bq1 HB.out (IsS135.ge HI0.out)) Qa3.out) Try.func137 ?_; rintro e w_ ⟨rfl, hi, hb, hk⟩; refine ⟨_, rfl, ?_⟩; have n_ := ak3 (KeepBut.trans (kp0 HK.out) hk (.inl rfl)) hb hi; clear HK HB HI0; obtain ⟨HK, HB, HI0⟩ := n_; (try clear hb hk hi)) | ((with_reducible refine gate_callee (f := 137) rfl ?_); have := z1; refine gc (some 13) (spec_l1Byte.calls g s0_0 s0_1 s0_2 qa1_0 qa1_1 qa1_2 w0 _ (IsS135.q0 HI0.out) (bq1 HB.out (IsS135.ge HI0.out)) Qa1.out) Try.func137 ?_; rintro e w_ ⟨rfl, hi, hb, hk⟩; refine ⟨_, rfl, ?_⟩; have n_ := ak3 (KeepBut.trans (kp0 HK.out) hk (.inl rfl)) hb hi; clear HK HB HI0; obtain ⟨HK, HB, HI0⟩ := n_; (try clear hb hk hi)) | ((with_reducible refine gate_callee (f := 137) rfl ?_); have := z2; refine gc (some 17) (spec_l1Byte.calls g s0_0 s0_1 s0_2 qa1_0 qa1_1 qa1_2 w0 _ (IsS135.q0 HI0.out) (bq1 HB.out (IsS135.ge HI0.out)) Qa1.out) Try.func137 ?_; rintro e w_ ⟨rfl, hi, hb, hk⟩; refine ⟨_, rfl, ?_⟩; have n_ := ak3 (KeepBut.trans (kp0 HK.out) hk (.inl rfl)) hb hi; clear HK HB HI0; obtain ⟨HK, HB, HI0⟩ := n_; (try clear hb hk hi)))
  go_ret
  exact ⟨rq, IsS135.q0 HI0.out, bq1 HB.out (IsS135.ge HI0.out), kp0 HK.out⟩
/-! ### spec_l1Str: function 114 -/
def spec_l1Str.f (s0_0 : List Int) (s0_1 : Int) (s0_2 : Int) (l1 : List ByteArray) : Option (ByteArray × Int × Int) := (spec_l1Below.f s0_0 s0_1 s0_2 (l1.length : Int)).bind fun bt493 => (if 0 ≤ bt493.1 then (if bt493.1 < (l1.length : Int) then (some (rdOf ByteArray.empty l1 bt493.1, bt493.2.1, bt493.2.2)) else (none)) else (none))
set_option maxHeartbeats 8000000 in
set_option maxRecDepth 100000 in
theorem spec_l1Str.calls (g : Nat) (s0_0 : List Int) (s0_1 : Int) (s0_2 : Int) (A1 : Option Addr) (c1 : Nat) (l1 : List ByteArray) (r1 : ByteArray) (r2 : Int) (r3 : Int) (w0 w : World) (hI : IsS135 w0 w g s0_0 s0_1 s0_2) (hB : Below w0.heap.size w0 w) (hr1 : Kd.C Kd.string w A1 l1.length l1) (hc1 : l1.length ≤ c1) (hf1 : ∀ ad, A1 = some ad → 0 < l1.length → ad.block ≠ g) (h : spec_l1Str.f s0_0 s0_1 s0_2 l1 = some (r1, r2, r3)) :
 Calls Try.prog 114 #[.pointer (some ⟨g, 0, none⟩), .slice A1 l1.length c1] w fun e w' => e = .returned (.string r1) ∧ IsS135 w0 w' g s0_0 r2 r3 ∧ Below w0.heap.size w0 w' ∧ KeepBut w w' g none := by
 have HR1 := am hr1
 have HC1 := am hc1
 clear hr1 hc1
 have HI0 := am hI
 have HK := am (KeepBut.refl w g none)
 have HL := am hB.size
 clear hI
 have HW0 := am hB.size
 have HB := am hB
 clear hB
 have H := h
 clear h
 unfold spec_l1Str.f at H
 replace H := be H
 obtain ⟨⟨qa1_0, qa1_1, qa1_2⟩, Qa1, H⟩ := H
 try dsimp only at H
 replace H := nl H
 obtain ⟨-, c4b0, H⟩ := H
 replace H := nl H
 obtain ⟨-, c5b0, H⟩ := H
 simp only [Option.some.injEq, Prod.mk.injEq] at H
 obtain ⟨rfl, rfl, rfl⟩ := H
 go_enter Try.func114, Try.ntmps114
 go_wp2_with (first | ((with_reducible refine gate_callee (f := 122) rfl ?_); refine gc (some 9) (spec_l1Below.calls g s0_0 s0_1 s0_2 (l1.length : Int) qa1_0 qa1_1 qa1_2 w0 _ (IsS135.q0 HI0.out) (bq1 HB.out (IsS135.ge HI0.out)) Qa1.out) Try.func122 ?_; rintro e w6 ⟨rfl, hi, hb, hk⟩; refine ⟨_, rfl, ?_⟩; have n_ := ak3 (KeepBut.trans (kp0 HK.out) hk (.inl rfl)) hb hi; clear HK HB HI0; obtain ⟨HK, HB, HI0⟩ := n_; (try clear hb hk hi); have p496 : 0 ≤ (qa1_0 : Int) := oda; have q496 : qa1_0 < (l1.length : Int) := oda; obtain ⟨ad496, e496, hx496_0⟩ := Kd.at_string HR1.out qa1_0 p496 q496; cases e496; replace hx496_0 := keep_cell HK.out hx496_0 (by first | (rw [add_block]; exact hf1 _ rfl (by omega)) | exact hf1 _ rfl (by omega) | exact hf1 ad496 rfl (by omega)); replace p496 := eq_true p496; replace q496 := eq_true q496))
 go_ret
 exact ⟨rq, IsS135.q0 HI0.out, bq1 HB.out (IsS135.ge HI0.out), kp0 HK.out⟩
/-! ### spec_l1Int: function 86 -/
def spec_l1Int.f (s0_0 : List Int) (s0_1 : Int) (s0_2 : Int) (l1 : List Int) : Option (Int × Int × Int) := (spec_l1Below.f s0_0 s0_1 s0_2 (l1.length : Int)).bind fun bt497 => (if 0 ≤ bt497.1 then (if bt497.1 < (l1.length : Int) then (some (rd l1 bt497.1, bt497.2.1, bt497.2.2)) else (none)) else (none))
set_option maxHeartbeats 8000000 in
set_option maxRecDepth 100000 in
theorem spec_l1Int.calls (g : Nat) (s0_0 : List Int) (s0_1 : Int) (s0_2 : Int) (A1 : Option Addr) (c1 : Nat) (l1 : List Int) (r1 : Int) (r2 : Int) (r3 : Int) (w0 w : World) (hI : IsS135 w0 w g s0_0 s0_1 s0_2) (hB : Below w0.heap.size w0 w) (hr1 : Kd.C (Kd.int .i64) w A1 l1.length l1) (hc1 : l1.length ≤ c1) (hf1 : ∀ ad, A1 = some ad → 0 < l1.length → ad.block ≠ g) (h : spec_l1Int.f s0_0 s0_1 s0_2 l1 = some (r1, r2, r3)) :
 Calls Try.prog 86 #[.pointer (some ⟨g, 0, none⟩), .slice A1 l1.length c1] w fun e w' => e = .returned (.int .i64 r1) ∧ IsS135 w0 w' g s0_0 r2 r3 ∧ Below w0.heap.size w0 w' ∧ KeepBut w w' g none := by
 have HR1 := am hr1
 have HC1 := am hc1
 clear hr1 hc1
 have HI0 := am hI
 have HK := am (KeepBut.refl w g none)
 have HL := am hB.size
 clear hI
 have HW0 := am hB.size
 have HB := am hB
 clear hB
 have H := h
 clear h
 unfold spec_l1Int.f at H
 replace H := be H
 obtain ⟨⟨qa1_0, qa1_1, qa1_2⟩, Qa1, H⟩ := H
 try dsimp only at H
 replace H := nl H
 obtain ⟨-, c4b0, H⟩ := H
 replace H := nl H
 obtain ⟨-, c5b0, H⟩ := H
 simp only [Option.some.injEq, Prod.mk.injEq] at H
 obtain ⟨rfl, rfl, rfl⟩ := H
 go_enter Try.func86, Try.ntmps86
 go_wp2_with (first | ((with_reducible refine gate_callee (f := 122) rfl ?_); refine gc (some 9) (spec_l1Below.calls g s0_0 s0_1 s0_2 (l1.length : Int) qa1_0 qa1_1 qa1_2 w0 _ (IsS135.q0 HI0.out) (bq1 HB.out (IsS135.ge HI0.out)) Qa1.out) Try.func122 ?_; rintro e w6 ⟨rfl, hi, hb, hk⟩; refine ⟨_, rfl, ?_⟩; have n_ := ak3 (KeepBut.trans (kp0 HK.out) hk (.inl rfl)) hb hi; clear HK HB HI0; obtain ⟨HK, HB, HI0⟩ := n_; (try clear hb hk hi); have p500 : 0 ≤ (qa1_0 : Int) := oda; have q500 : qa1_0 < (l1.length : Int) := oda; obtain ⟨ad500, e500, hx500_0⟩ := Kd.at_int HR1.out qa1_0 p500 q500; cases e500; replace hx500_0 := keep_cell HK.out hx500_0 (by first | (rw [add_block]; exact hf1 _ rfl (by omega)) | exact hf1 _ rfl (by omega) | exact hf1 ad500 rfl (by omega)); replace p500 := eq_true p500; replace q500 := eq_true q500))
 go_ret
 exact ⟨rq, IsS135.q0 HI0.out, bq1 HB.out (IsS135.ge HI0.out), kp0 HK.out⟩
/-! ### spec_l1Num: function 133 -/
def spec_l1Num.f (s0_0 : List Int) (s0_1 : Int) (s0_2 : Int) : Option (Int × Int × Int) := (spec_l1Below.f s0_0 s0_1 s0_2 1000).bind fun bt501 => ((spec_l1Int.f s0_0 bt501.2.1 bt501.2.2 (([0, 1, (-1), 127, 128, (-128), (-129), 255, 256, 32767, 32768, (-32769), 8388608, 2147483647, (-2147483648), 2147483648, (-2147483649), 9223372036854775807, (-9223372036854775808), bt501.1] : List Int))).bind fun bt507 => (some (bt507.1, bt507.2.1, bt507.2.2)))
set_option maxHeartbeats 8000000 in
set_option maxRecDepth 100000 in
theorem spec_l1Num.calls (g : Nat) (s0_0 : List Int) (s0_1 : Int) (s0_2 : Int) (r1 : Int) (r2 : Int) (r3 : Int) (w0 w : World) (hI : IsS135 w0 w g s0_0 s0_1 s0_2) (hB : Below w0.heap.size w0 w) (h : spec_l1Num.f s0_0 s0_1 s0_2 = some (r1, r2, r3)) :
 Calls Try.prog 133 #[.pointer (some ⟨g, 0, none⟩)] w fun e w' => e = .returned (.int .i64 r1) ∧ IsS135 w0 w' g s0_0 r2 r3 ∧ Below w0.heap.size w0 w' ∧ KeepBut w w' g none := by
 have HI0 := am hI
 have HK := am (KeepBut.refl w g none)
 have HL := am hB.size
 clear hI
 have HW0 := am hB.size
 have HB := am hB
 clear hB
 have H := h
 clear h
 unfold spec_l1Num.f at H
 replace H := be H
 obtain ⟨⟨qa1_0, qa1_1, qa1_2⟩, Qa1, H⟩ := H
 try dsimp only at H
 generalize hy504 : ((([0, 1, (-1), 127, 128, (-128), (-129), 255, 256, 32767, 32768, (-32769), 8388608, 2147483647, (-2147483648), 2147483648, (-2147483649), 9223372036854775807, (-9223372036854775808), qa1_0] : List Int)) : List Int) = y504 at H
 have Ny504 := am hy504.symm
 clear hy504
 replace H := be H
 obtain ⟨⟨qb1_0, qb1_1, qb1_2⟩, Qb1, H⟩ := H
 try dsimp only at H
 simp only [Option.some.injEq, Prod.mk.injEq] at H
 obtain ⟨rfl, rfl, rfl⟩ := H
 go_enter Try.func133, Try.ntmps133
 go_wp2_with (first | ((with_reducible refine gate_callee (f := 122) rfl ?_); refine gc (some 5) (spec_l1Below.calls g s0_0 s0_1 s0_2 1000 qa1_0 qa1_1 qa1_2 w0 _ (IsS135.q0 HI0.out) (bq1 HB.out (IsS135.ge HI0.out)) Qa1.out) Try.func122 ?_; rintro e w4 ⟨rfl, hi, hb, hk⟩; refine ⟨_, rfl, ?_⟩; have n_ := ak3 (KeepBut.trans (kp0 HK.out) hk (.inl rfl)) hb hi; clear HK HB HI0; obtain ⟨HK, HB, HI0⟩ := n_; (try clear hb hk hi)) | ((with_reducible refine gate_dst (N := 6) rfl ?_); refine Kd.R_lit (Kd.int .i64) _ 3 ?hg (N := 6) ?hd (xs := ([0, 1, (-1), 127, 128, (-128), (-129), 255, 256, 32767, 32768, (-32769), 8388608, 2147483647, (-2147483648), 2147483648, (-2147483649), 9223372036854775807, (-9223372036854775808), qa1_0] : List Int)) (inner := [.int .i64 0, .int .i64 1, .int .i64 (-1), .int .i64 127, .int .i64 128, .int .i64 (-128), .int .i64 (-129), .int .i64 255, .int .i64 256, .int .i64 32767, .int .i64 32768, .int .i64 (-32769), .int .i64 8388608, .int .i64 2147483647, .int .i64 (-2147483648), .int .i64 2147483648, .int .i64 (-2147483649), .int .i64 9223372036854775807, .int .i64 (-9223372036854775808), .int .i64 qa1_0]) (ok := fun _ => True) (okp := fun _ => True) ?hr ?hp (fun _ hk => hk) trivial (Below.refl _ _) (Nat.le_refl _) (by simp) ?_; (case hd => rfl); (case hg => rfl); (case hr => exact gs); (case hp => exact (Reps.one (ri 0) (Reps.one (ri 1) (Reps.one (ri (-1)) (Reps.one (ri 127) (Reps.one (ri 128) (Reps.one (ri (-128)) (Reps.one (ri (-129)) (Reps.one (ri 255) (Reps.one (ri 256) (Reps.one (ri 32767) (Reps.one (ri 32768) (Reps.one (ri (-32769)) (Reps.one (ri 8388608) (Reps.one (ri 2147483647) (Reps.one (ri (-2147483648)) (Reps.one (ri 2147483648) (Reps.one (ri (-2147483649)) (Reps.one (ri 9223372036854775807) (Reps.one (ri (-9223372036854775808)) (Reps.one (show Kd.M (Kd.int .i64) _ _ _ qa1_0 [.int .i64 qa1_0] from rfl) (Reps.none _ _)))))))))))))))))))))); intro v505 w5 ho6 hb hg_ hnew_; clear hg_ hnew_; (first | rw [← Ny504.out] at ho6 | (simp only [Int.reduceToNat] at ho6; rw [← Ny504.out] at ho6)); have n_ := ak4 (Kd.R_lower ho6 (keep_size (w := w) (g := g) (row := none) (kp0 HK.out))) (IsS135.below (IsS135.q0 HI0.out) hb) (KeepBut.trans (kp0 HK.out) (KeepBut.of_below hb g none) (.inl rfl)) (below_step (bq1 HB.out (IsS135.ge HI0.out)) hb); clear HI0 HK HB; obtain ⟨HO506, HI0, HK, HB⟩ := n_; clear hb ho6; obtain ⟨Ao7, co7, eo7⟩ := Kd.R_slice HO506.out; subst eo7) | ((with_reducible refine gate_callee (f := 86) rfl ?_); refine gc (some 7) (spec_l1Int.calls g s0_0 qa1_1 qa1_2 _ _ y504 qb1_0 qb1_1 qb1_2 w0 _ (IsS135.q0 HI0.out) (bq1 HB.out (IsS135.ge HI0.out)) (cq (Kd.R_reads' HO506.out).2.2) ((Kd.R_reads' HO506.out).2.1) (far_slice (IsS135.own_ne HI0.out HO506.out (by decide))) Qb1.out) Try.func86 ?_; rintro e w8 ⟨rfl, hi, hb, hk⟩; refine ⟨_, rfl, ?_⟩; have n_ := ak4 (Kd.R_mono (Kd.R_keep (IsS135.apart (show IsS135 w0 _ g s0_0 qa1_1 qa1_2 from IsS135.q0 HI0.out) (kqR HO506.out) (by decide)) hk (fun _ h => h.2)) (fun _ h => h.1)) (KeepBut.trans (kp0 HK.out) hk (.inl rfl)) hb hi; clear HO506 HK HB HI0; obtain ⟨HO506, HK, HB, HI0⟩ := n_; (try clear hb hk hi)))
 go_ret
 exact ⟨rq, IsS135.q0 HI0.out, bq1 HB.out (IsS135.ge HI0.out), kp0 HK.out⟩
/-! ### spec_l3Int: function 135 -/
def spec_l3Int.f (a0 : Int) : Option (Int × Int × ByteArray × List Int) := some (2, a0, (⟨#[]⟩ : ByteArray), ([] : List Int))
set_option maxHeartbeats 8000000 in
set_option maxRecDepth 100000 in
theorem spec_l3Int.calls (a0 : Int) (r1 : Int) (r2 : Int) (r3 : ByteArray) (r4 : List Int) (w : World) (h : spec_l3Int.f a0 = some (r1, r2, r3, r4)) :
 Calls Try.prog 135 #[.int .i64 a0] w fun e w' => ∃ v3_ : Value, e = .returned (.agg #[.int .i64 r1, .int .i64 r2, .string r3, v3_]) ∧ Kd.R (Kd.int .i64) 3 w' w.heap.size (fun _ => True) v3_ r4 ∧ Below w.heap.size w w' := by
 have hu29 := Try.underlying29
 have HB := am (Below.refl w.heap.size w)
 have H := h
 clear h
 unfold spec_l3Int.f at H
 simp only [Option.some.injEq, Prod.mk.injEq] at H
 obtain ⟨rfl, rfl, rfl, rfl⟩ := H
 go_enter Try.func135, Try.ntmps135
 go_wp2_with (first | ((with_reducible refine gate_dst (N := 2) rfl ?_); refine bxe 2 #[.int .i64 0, .int .i64 0, .string (⟨#[]⟩ : ByteArray), .slice none 0 0] 29 ?_; intro gb510 hg w2 hbox hb; have n_ := ak4 (below_step (bq HB.out) hb) hbox (bz hg (bq HB.out)) (bz hg (bq HB.out)); clear HB; obtain ⟨HB, BK510, GW510, GE510⟩ := n_; clear hb hbox hg; obtain ⟨hcz3_0, hcz3_1, hcz3_2, hcz3_3, hfz3_0, hfz3_1, hfz3_2, hfz3_3⟩ := cl4 BK510.out) | ((with_reducible refine gate_store (t := 29) (p := 2) rfl ?_); refine se 29 2 (s4 w2 gb510 (.int .i64 2) (.int .i64 a0) (.string (⟨#[]⟩ : ByteArray)) (.slice none 0 0)) ?_; intro w4 hw; have n_ := ak2 (sc4 hw BK510) (sb hw (bq1 HB.out GE510.out)); clear hw BK510 HB; obtain ⟨BK510, HB⟩ := n_))
 refine bodyPost_ret (results_cell_row rfl _ _ gb510 29 #[.int .i64 2, .int .i64 a0, .string (⟨#[]⟩ : ByteArray), .slice none 0 0] (0, 0) _ rfl (zq BK510.out) Try.underlying29 rfl (by kernel_rfl)) rfl ?_
 exact ⟨_, rq, rn, bq1 HB.out GE510.out⟩
/-! ### spec_l2Draw: function 136 -/
def spec_l2Draw.l0 : Nat → List Int → Int → List Int → Int → Int → Option (List Int × Int × Int)
 | 0, _, _, _, _, _ => none
 | k + 1, x3, x4, x1000, x1001, x1002 => if x4 > 0 then ((spec_l1Int.f x1000 x1001 x1002 (([0, 1, 2, 3, 127, 128, 16384, 100000] : List Int))).bind fun bt520 => (if x3.length < 17592186044416 then (spec_l2Draw.l0 k (x3 ++ [bt520.1]) (wrap64 (x4 - 1)) x1000 bt520.2.1 bt520.2.2) else (none))) else (some (x3, x1001, x1002))
def spec_l2Draw.f (k : Nat) (s0_0 : List Int) (s0_1 : Int) (s0_2 : Int) : Option (List Int × Int × Int) := (spec_l1Below.f s0_0 s0_1 s0_2 6).bind fun bt514 => (spec_l2Draw.l0 k (([] : List Int)) (wrap64 (1 + bt514.1)) s0_0 bt514.2.1 bt514.2.2)
set_option maxHeartbeats 8000000 in
set_option maxRecDepth 100000 in
theorem spec_l2Draw.calls (k : Nat) (g : Nat) (s0_0 : List Int) (s0_1 : Int) (s0_2 : Int) (r1 : List Int) (r2 : Int) (r3 : Int) (w0 w : World) (hI : IsS135 w0 w g s0_0 s0_1 s0_2) (hB : Below w0.heap.size w0 w) (h : spec_l2Draw.f k s0_0 s0_1 s0_2 = some (r1, r2, r3)) :
 Calls Try.prog 136 #[.pointer (some ⟨g, 0, none⟩)] w fun e w' => ∃ v0_ : Value, e = .returned (v0_) ∧ Kd.R (Kd.int .i64) 3 w' w.heap.size (fun _ => True) v0_ r1 ∧ IsS135 w0 w' g s0_0 r2 r3 ∧ Below w0.heap.size w0 w' ∧ KeepBut w w' g none := by
 have HI0 := am hI
 have HK := am (KeepBut.refl w g none)
 have HL := am hB.size
 clear hI
 have HW0 := am hB.size
 have HB := am hB
 clear hB
 have H := h
 clear h
 unfold spec_l2Draw.f at H
 generalize hy511 : ((([] : List Int)) : List Int) = y511 at H
 have Ny511 := am hy511.symm
 clear hy511
 replace H := be H
 obtain ⟨⟨qa1_0, qa1_1, qa1_2⟩, Qa1, H⟩ := H
 try dsimp only at H
 have H' := am H
 clear H
 go_enter Try.func136, Try.ntmps136
 go_wp2_with (first | ((with_reducible refine gate_dst (N := 5) rfl ?_); refine Kd.R_lit (Kd.int .i64) _ 3 ?hg (N := 5) ?hd (xs := ([] : List Int)) (inner := []) (ok := fun _ => True) (okp := fun _ => True) ?hr ?hp (fun _ hk => hk) trivial (Below.refl _ _) (Nat.le_refl _) (by simp) ?_; (case hd => rfl); (case hg => rfl); (case hr => exact gs); (case hp => exact (Reps.none _ _)); intro v512 w3 ho4 hb hg_ hnew_; clear hg_ hnew_; (first | rw [← Ny511.out] at ho4 | (simp only [Int.reduceToNat] at ho4; rw [← Ny511.out] at ho4)); have n_ := ak4 (Kd.R_lower ho4 (keep_size (w := w) (g := g) (row := none) (kp0 HK.out))) (IsS135.below (IsS135.q0 HI0.out) hb) (KeepBut.trans (kp0 HK.out) (KeepBut.of_below hb g none) (.inl rfl)) (below_step (bq1 HB.out (IsS135.ge HI0.out)) hb); clear HI0 HK HB; obtain ⟨HO513, HI0, HK, HB⟩ := n_; clear hb ho4) | ((with_reducible refine gate_callee (f := 122) rfl ?_); refine gc (some 7) (spec_l1Below.calls g s0_0 s0_1 s0_2 6 qa1_0 qa1_1 qa1_2 w0 _ (IsS135.q0 HI0.out) (bq1 HB.out (IsS135.ge HI0.out)) Qa1.out) Try.func122 ?_; rintro e w5 ⟨rfl, hi, hb, hk⟩; refine ⟨_, rfl, ?_⟩; have n_ := ak4 (Kd.R_mono (Kd.R_keep (IsS135.apart (show IsS135 w0 _ g s0_0 s0_1 s0_2 from IsS135.q0 HI0.out) (kqR HO513.out) (by decide)) hk (fun _ h => h.2)) (fun _ h => h.1)) (KeepBut.trans (kp0 HK.out) hk (.inl rfl)) hb hi; clear HO513 HK HB HI0; obtain ⟨HO513, HK, HB, HI0⟩ := n_; (try clear hb hk hi)))
 go_loopg [3, 4] k (fun kq v3 v4 w' => ∃ (x3_1 : List Int) (x4_1 : Int) (x1001_1 : Int) (x1002_1 : Int), v4 = .int .i64 x4_1 ∧ Aside0 (spec_l2Draw.l0 kq x3_1 x4_1 s0_0 x1001_1 x1002_1 = some (r1, r2, r3)) ∧ Aside0 (kq ≤ k) ∧ Aside0 (Kd.R (Kd.int .i64) 3 w' w.heap.size (fun _ => True) v3 x3_1) ∧ Aside0 (IsS135 w0 w' g s0_0 x1001_1 x1002_1) ∧ Aside0 (KeepBut w w' g none) ∧ Aside0 (Below w0.heap.size w0 w'))
 case atStart => exact ⟨(y511), (wrap64 (1 + qa1_0)), (qa1_1), (qa1_2), sq, H', ⟨Nat.le_refl _⟩, ⟨kqR HO513.out⟩, ⟨IsS135.q0 HI0.out⟩, ⟨kp0 HK.out⟩, ⟨bq1 HB.out (IsS135.ge HI0.out)⟩⟩
 case round =>
  clear H'
  try clear c1
  try clear p2
  obtain ⟨x3_1, x4_1, x1001_1, x1002_1, rfl, HA, HK1, HO_3, HI0, HK, HB⟩ := hrel
  cases gk with
  | zero => exact absurd HA.out (by simp [spec_l2Draw.l0])
  | succ k1 =>
   have H := HA.out
   clear HA
   simp only [spec_l2Draw.l0] at H
   replace H := ig' H
   rcases H with ⟨-, c6b0, H⟩ | ⟨-, c6b0, H⟩
   · simp only [Option.some.injEq, Prod.mk.injEq] at H
     obtain ⟨rfl, rfl, rfl⟩ := H
     go_wp2
     go_ret
     exact ⟨_, rq, kqR HO_3.out, IsS135.q0 HI0.out, bq1 HB.out (IsS135.ge HI0.out), kp0 HK.out⟩
   generalize hy517 : ((([0, 1, 2, 3, 127, 128, 16384, 100000] : List Int)) : List Int) = y517 at H
   have Ny517 := am hy517.symm
   clear hy517
   replace H := be H
   obtain ⟨⟨qb1_0, qb1_1, qb1_2⟩, Qb1, H⟩ := H
   try dsimp only at H
   replace H := nq H
   obtain ⟨c8, H⟩ := H
   have LMc8 := am c8
   clear c8
   generalize hy523 : ((x3_1 ++ [qb1_0]) : List Int) = y523 at H
   have Ny523 := am hy523.symm
   clear hy523
   have H' := am H
   clear H
   go_wp2_with (first | ((with_reducible refine gate_dst (N := 15) rfl ?_); refine Kd.R_lit (Kd.int .i64) _ 3 ?hg (N := 15) ?hd (xs := ([0, 1, 2, 3, 127, 128, 16384, 100000] : List Int)) (inner := [.int .i64 0, .int .i64 1, .int .i64 2, .int .i64 3, .int .i64 127, .int .i64 128, .int .i64 16384, .int .i64 100000]) (ok := fun _ => True) (okp := fun _ => True) ?hr ?hp (fun _ hk => hk) trivial (Below.refl _ _) (Nat.le_refl _) (by simp) ?_; (case hd => rfl); (case hg => rfl); (case hr => exact gs); (case hp => exact (Reps.one (ri 0) (Reps.one (ri 1) (Reps.one (ri 2) (Reps.one (ri 3) (Reps.one (ri 127) (Reps.one (ri 128) (Reps.one (ri 16384) (Reps.one (ri 100000) (Reps.none _ _)))))))))); intro v518 w9 ho10 hb hg_ hnew_; clear hg_ hnew_; (first | rw [← Ny517.out] at ho10 | (simp only [Int.reduceToNat] at ho10; rw [← Ny517.out] at ho10)); have n_ := ak5 (re_ HO_3 ho10 hb) (Kd.R_lower (Kd.R_new' ho10 (Kd.R_lt (kqR HO_3.out))) (keep_size (w := w) (g := g) (row := none) (kp0 HK.out))) (IsS135.below (IsS135.q0 HI0.out) hb) (KeepBut.trans (kp0 HK.out) (KeepBut.of_below hb g none) (.inl rfl)) (below_step (bq1 HB.out (IsS135.ge HI0.out)) hb); clear HO_3 HI0 HK HB; obtain ⟨HO_3, HO519, HI0, HK, HB⟩ := n_; clear hb ho10; obtain ⟨Ao11, co11, eo11⟩ := Kd.R_slice HO519.out; subst eo11) | ((with_reducible refine gate_callee (f := 86) rfl ?_); refine gc (some 16) (spec_l1Int.calls g s0_0 x1001_1 x1002_1 _ _ y517 qb1_0 qb1_1 qb1_2 w0 _ (IsS135.q0 HI0.out) (bq1 HB.out (IsS135.ge HI0.out)) (cq (Kd.R_reads' HO519.out).2.2) ((Kd.R_reads' HO519.out).2.1) (far_slice (IsS135.own_ne HI0.out HO519.out (by decide))) Qb1.out) Try.func86 ?_; rintro e w12 ⟨rfl, hi, hb, hk⟩; refine ⟨_, rfl, ?_⟩; have n_ := ak5 (Kd.R_mono (Kd.R_keep (IsS135.apart (show IsS135 w0 _ g s0_0 x1001_1 x1002_1 from IsS135.q0 HI0.out) (kqR HO_3.out) (by decide)) hk (fun _ h => h.2)) (fun _ h => h.1)) (Kd.R_mono (Kd.R_keep (IsS135.apart (show IsS135 w0 _ g s0_0 x1001_1 x1002_1 from IsS135.q0 HI0.out) (kqR HO519.out) (by decide)) hk (fun _ h => h.2)) (fun _ h => h.1)) (KeepBut.trans (kp0 HK.out) hk (.inl rfl)) hb hi; clear HO_3 HO519 HK HB HI0; obtain ⟨HO_3, HO519, HK, HB, HI0⟩ := n_; (try clear hb hk hi)) | ((with_reducible refine gate_builtin (b := .append) (xs := #[.tmp 13, .tmp 17]) rfl ?_); at_builtin; refine Kd.R_append (Kd.int .i64) w.heap.size rfl (.tmp 13) (.tmp 17) 23 3 (.int .i64 0) 8 rfl Try.underlying23 info3 rfl (by decide) (by omega) u3 x3_1 qb1_0 [.int .i64 qb1_0] (fun k_ => some k_ ≠ (.slice Ao11 y517.length co11 : Value).ownBlock) (fun _ => False) rfl rfl ?aP (fun _ hk => hk.elim) ?aF ?aO (Below.refl _ _) ?aS ?aL ?_; (case aP => exact rfl); (case aF => exact (fun k_ hk => Kd.fresh' (Kd.R_lt (kqR HO519.out)) k_ hk)); (case aO => exact (by refine kr ?_; exact Kd.R_mono HO_3.out (fun _ hk => hk.2))); (case aS => exact (keep_size (w := w) (g := g) (row := none) (kp0 HK.out))); (case aL => have := LMc8.out; omega); intro v524 w13 ho hb hg hat; rw [← Ny523.out] at ho; have n_ := ak5 (IsS135.grown (IsS135.q0 HI0.out) hg (IsS135.own_ne HI0.out HO_3.out (by decide))) (Kd.R_after (ok := (fun _ => True)) (kqR HO519.out) hg hat) (below_weaken (bq1 HB.out (IsS135.ge HI0.out)) HL.out hb) (KeepBut.trans (kp0 HK.out) (KeepBut.of_grown hg g) (Kd.R_base2 HO_3.out)) ho; clear HI0 HO519 HB HK HO_3; obtain ⟨HI0, HO519, HB, HK, HO525⟩ := n_; clear ho hb hg hat))
   go_roundg k1
   case measure => have := HK1.out; omega
   case rel => exact ⟨(y523), (wrap64 (x4_1 - 1)), (qb1_1), (qb1_2), sq, H', ⟨by have := HK1.out; omega⟩, ⟨by refine kr ?_; exact Kd.R_mono HO525.out (fun _ hk => trivial)⟩, ⟨IsS135.q0 HI0.out⟩, ⟨kp0 HK.out⟩, ⟨bq1 HB.out (IsS135.ge HI0.out)⟩⟩
end Go.Proofs.Ythhnfmbfgplelaa.XFnMsgs
