/- The functions that one law reaches, as Lean functions, with their walks: printed by a program of this seat (wip/tools) out of the translation. -/
import Derived.Test.YthhnfmbfgplelaaXFnMsgsx0
import Derived.Test.YthhnfmbfgplelaaXFnMsgsx1
import Derived.Test.YthhnfmbfgplelaaXFnMsgsx2
import Derived.Test.YthhnfmbfgplelaaXFnMsgsx3
namespace Go.Proofs.Ythhnfmbfgplelaa.XFnMsgs
open Go.RowKit Go.Proofs.YthhnfmbfgplelaaW.PrintWords Go.Proofs.YthhnfmbfgplelaaW.PrintLast Go.Proofs.YthhnfmbfgplelaaW.PrintMore
attribute [local go_sem] max2_int min2_int max_two min_two max_three min_three max_four min_four   -- for this text's walks alone
set_option linter.unusedVariables false
set_option linter.unusedSimpArgs false

/-! ### spec_PutOid: function 65 -/
def spec_PutOid.l0 : Nat → List Int → List Int → Int → Option (List Int)
 | 0, _, _, _ => none
 | k + 1, x0, x3, x4 => if x4 < (x0.length : Int) then (if 0 ≤ x4 then ((spec_l2Group.f k (rd x0 x4)).bind fun t173 => (if x3.length + t173.length < 140737488355328 then (spec_PutOid.l0 k x0 (x3 ++ t173) (wrap64 (x4 + 1))) else (none))) else (none)) else (some x3)
def spec_PutOid.f (k : Nat) (l0 : List Int) : Option (List Int) := (some (([] : List Int) : List Int)).bind fun y168 => ((spec_OidOk.f k l0).bind fun t171 => (if t171 = true then (spec_PutOid.l0 k l0 y168 0) else (some y168)))
set_option maxHeartbeats 8000000 in
set_option maxRecDepth 100000 in
theorem spec_PutOid.calls (k : Nat) (A0 : Option Addr) (c0 : Nat) (l0 : List Int) (r : List Int) (w : World) (hr0 : Kd.C (Kd.int .i64) w A0 l0.length l0) (hc0 : l0.length ≤ c0) (h : spec_PutOid.f k l0 = some r) :
 Calls Try.prog 65 #[.slice A0 l0.length c0] w fun e w' => ∃ v0_ : Value, e = .returned (v0_) ∧ Kd.R (Kd.int .u8) 5 w' w.heap.size (fun _ => True) v0_ r ∧ Below w.heap.size w w' := by
 have HR0 := am hr0
 have HC0 := am hc0
 clear hr0 hc0
 have HB := am (Below.refl w.heap.size w)
 have H := h
 clear h
 unfold spec_PutOid.f at H
 replace H := bs H
 obtain ⟨y168, Ny168, H⟩ := H
 replace H := be H
 obtain ⟨qa1_0, Qa1, H⟩ := H
 cases qa1_0
 · replace H := iF H
   obtain rfl := Option.some.inj H
   go_enter Try.func65, Try.ntmps65
   go_wp2_with (first | ((with_reducible refine gate_dst (N := 5) rfl ?_); refine Kd.R_lit (Kd.int .u8) _ 5 ?hg (N := 5) ?hd (xs := ([] : List Int)) (inner := []) (ok := fun _ => True) (okp := fun _ => True) ?hr ?hp (fun _ hk => hk) trivial (Below.refl _ _) (Nat.le_refl _) (by simp) ?_; (case hd => rfl); (case hg => rfl); (case hr => exact gs); (case hp => exact (Reps.none _ _)); intro v169 w13 ho14 hb hg_ hnew_; clear hg_ hnew_; (first | rw [← Ny168.out] at ho14 | (simp only [Int.reduceToNat] at ho14; rw [← Ny168.out] at ho14)); have n_ := ak2 (rl ho14 (bq HB.out)) (below_step (bq HB.out) hb); clear HB; obtain ⟨HO170, HB⟩ := n_; clear hb ho14) | ((with_reducible refine gate_callee (f := 110) rfl ?_); refine gc (some 7) (spec_OidOk.calls k _ _ l0 false _ (cq (Kd.C_below HR0.out HB.out)) HC0.out Qa1.out) Try.func110 ?_; rintro e w' ⟨rfl, ⟨nd, rfl⟩⟩; refine ⟨_, rfl, ?_⟩))
   go_ret
   exact ⟨_, rq, kqR HO170.out, bq HB.out⟩
 replace H := iT H
 have H' := am H
 clear H
 go_enter Try.func65, Try.ntmps65
 go_wp2_with (first | ((with_reducible refine gate_dst (N := 5) rfl ?_); refine Kd.R_lit (Kd.int .u8) _ 5 ?hg (N := 5) ?hd (xs := ([] : List Int)) (inner := []) (ok := fun _ => True) (okp := fun _ => True) ?hr ?hp (fun _ hk => hk) trivial (Below.refl _ _) (Nat.le_refl _) (by simp) ?_; (case hd => rfl); (case hg => rfl); (case hr => exact gs); (case hp => exact (Reps.none _ _)); intro v169 w4 ho5 hb hg_ hnew_; clear hg_ hnew_; (first | rw [← Ny168.out] at ho5 | (simp only [Int.reduceToNat] at ho5; rw [← Ny168.out] at ho5)); have n_ := ak2 (rl ho5 (bq HB.out)) (below_step (bq HB.out) hb); clear HB; obtain ⟨HO170, HB⟩ := n_; clear hb ho5) | ((with_reducible refine gate_callee (f := 110) rfl ?_); refine gc (some 7) (spec_OidOk.calls k _ _ l0 true _ (cq (Kd.C_below HR0.out HB.out)) HC0.out Qa1.out) Try.func110 ?_; rintro e w' ⟨rfl, ⟨nd, rfl⟩⟩; refine ⟨_, rfl, ?_⟩))
 go_loopg [3, 4] k (fun kq v3 v4 w' => ∃ (x3_1 : List Int) (x4_1 : Int), v4 = .int .i64 x4_1 ∧ Aside0 (spec_PutOid.l0 kq l0 x3_1 x4_1 = some r) ∧ Aside0 (kq ≤ k) ∧ Aside0 (Kd.R (Kd.int .u8) 5 w' w.heap.size (fun _ => True) v3 x3_1) ∧ Aside0 (Below w.heap.size w w'))
 case atStart => exact ⟨(y168), (0), sq, H', ⟨Nat.le_refl _⟩, ⟨kqR HO170.out⟩, ⟨bq HB.out⟩⟩
 case round =>
  clear H'
  try clear c1
  try clear p2
  try clear c3
  obtain ⟨x3_1, x4_1, rfl, HA, HK1, HO_3, HB⟩ := hrel
  cases gk with
  | zero => exact absurd HA.out (by simp [spec_PutOid.l0])
  | succ k1 =>
   have H := HA.out
   clear HA
   simp only [spec_PutOid.l0] at H
   replace H := il' H
   rcases H with ⟨-, c6b0, H⟩ | ⟨-, c6b0, H⟩
   · obtain rfl := Option.some.inj H
     go_wp2
     go_ret
     exact ⟨_, rq, kqR HO_3.out, bq HB.out⟩
   replace H := nl H
   obtain ⟨-, c7b0, H⟩ := H
   replace H := be H
   obtain ⟨t173, A8, H⟩ := H
   replace H := nq H
   obtain ⟨c9, H⟩ := H
   have LMc9 := am c9
   clear c9
   generalize hy176 : ((x3_1 ++ t173) : List Int) = y176 at H
   have Ny176 := am hy176.symm
   clear hy176
   have H' := am H
   clear H
   have p172 : 0 ≤ (x4_1 : Int) := oda
   have q172 : x4_1 < (l0.length : Int) := oda
   obtain ⟨ad172, e172, hx172_0⟩ := Kd.at_int HR0.out x4_1 p172 q172
   cases e172
   replace hx172_0 := (HB.out.cell (World.block_lt_of_cell? w _ hx172_0)).trans hx172_0
   replace p172 := eq_true p172
   replace q172 := eq_true q172
   go_wp2_with (first | ((with_reducible refine gate_callee (f := 124) rfl ?_); refine gc (some 21) (spec_l2Group.calls k1 (rd l0 x4_1) t173 _ A8.out) Try.func124 ?_; rintro e w10 ⟨v174, rfl, ho0, hb⟩; refine ⟨_, rfl, ?_⟩; have n_ := ak3 (re_ HO_3 ho0 hb) (rn_ ho0 HO_3 (bq HB.out)) (below_step (bq HB.out) hb); clear HO_3 HB; obtain ⟨HO_3, HO175, HB⟩ := n_; (try clear hb ho0); obtain ⟨Ao12, co12, eo12⟩ := Kd.R_slice HO175.out; subst eo12) | ((with_reducible refine gate_builtin (b := .append) (xs := #[.tmp 16, .tmp 21]) rfl ?_); at_builtin; refine Kd.R_append_rows (Kd.int .u8) (w0 := w) w.heap.size rfl (.tmp 16) (.tmp 21) 22 5 (.int .u8 0) 1 rfl Try.underlying22 info5 rfl (by decide) (by omega) u3 x3_1 t173 _ _ _ (fun k_ => some k_ ≠ (.slice Ao12 t173.length co12 : Value).ownBlock) (fun _ => False) rfl rfl ?aO ?aR (fun _ _ h => h) (fun _ h => h.elim) ?aF ?aB ?aS ?aL ?_; (case aR => repeat (first | exact (Kd.R_reads' HO175.out).2.2 | (with_reducible refine Kd.C_alloc ?_ _) | (with_reducible refine Kd.C_drewN ?_ _) | (with_reducible refine Kd.C_drew ?_))); (case aB => exact (bq HB.out)); (case aF => exact (fun k_ hk => Kd.fresh' (Kd.R_lt (kqR HO175.out)) k_ hk)); (case aO => exact (by refine kr ?_; exact Kd.R_mono HO_3.out (fun _ hk => hk.2))); (case aS => exact (below_size (bq HB.out))); (case aL => have := LMc9.out; omega); intro v177 w11 ho hb hg hat; rw [← Ny176.out] at ho; have n_ := ak3 (Kd.R_after (ok := (fun _ => True)) (kqR HO175.out) hg hat) hb ho; clear HO175 HB HO_3; obtain ⟨HO175, HB, HO178⟩ := n_; clear ho hb hg hat))
   go_roundg k1
   case measure => have := HK1.out; omega
   case rel => exact ⟨(y176), (wrap64 (x4_1 + 1)), sq, H', ⟨by have := HK1.out; omega⟩, ⟨by refine kr ?_; exact Kd.R_mono HO178.out (fun _ hk => trivial)⟩, ⟨bq HB.out⟩⟩
/-! ### spec_PutVal: function 14 -/
def spec_PutVal.f (k : Nat) (l0 : List Int) (a1_0 : Int) (a1_1 : Int) (a1_2 : ByteArray) (l1_3 : List Int) : Option (List Int) := (spec_ValOk.f k a1_0 a1_1 a1_2 l1_3).bind fun t180 => (if t180 = true then (if a1_0 = 2 then ((spec_PutInt.f k a1_1).bind fun t190 => ((spec_PutTlv.f k l0 a1_0 t190).bind fun t193 => (some t193))) else (if a1_0 = 4 then (if (a1_2.size : Int) < 140737488355328 then ((spec_PutTlv.f k l0 a1_0 (bytesOf a1_2)).bind fun t199 => (some t199)) else (none)) else (if a1_0 = 6 then ((spec_PutOid.f k l1_3).bind fun t202 => ((spec_PutTlv.f k l0 a1_0 t202).bind fun t205 => (some t205))) else ((spec_PutTlv.f k l0 a1_0 (([] : List Int))).bind fun t208 => (some t208))))) else ((some (([] : List Int) : List Int)).bind fun y181 => (if y181.length + l0.length < 140737488355328 then (some (y181 ++ l0)) else (none))))
set_option maxHeartbeats 8000000 in
set_option maxRecDepth 100000 in
theorem spec_PutVal.calls (k : Nat) (A0 : Option Addr) (c0 : Nat) (l0 : List Int) (a1_0 : Int) (a1_1 : Int) (a1_2 : ByteArray) (A1_3 : Option Addr) (c1_3 : Nat) (l1_3 : List Int) (r : List Int) (w : World) (hr0 : Kd.C (Kd.int .u8) w A0 l0.length l0) (hc0 : l0.length ≤ c0) (hr1_3 : Kd.C (Kd.int .i64) w A1_3 l1_3.length l1_3) (hc1_3 : l1_3.length ≤ c1_3) (h : spec_PutVal.f k l0 a1_0 a1_1 a1_2 l1_3 = some r) :
 Calls Try.prog 14 #[.slice A0 l0.length c0, .agg #[.int .i64 a1_0, .int .i64 a1_1, .string a1_2, .slice A1_3 l1_3.length c1_3]] w fun e w' => ∃ v0_ : Value, e = .returned (v0_) ∧ Kd.R (Kd.int .u8) 5 w' w.heap.size (fun _ => True) v0_ r ∧ Below w.heap.size w w' := by
 have hu29 := Try.underlying29
 have HR0 := am hr0
 have HC0 := am hc0
 clear hr0 hc0
 have HR1_3 := am hr1_3
 have HC1_3 := am hc1_3
 clear hr1_3 hc1_3
 have HB := am (Below.refl w.heap.size w)
 have H := h
 clear h
 unfold spec_PutVal.f at H
 replace H := be H
 obtain ⟨qa1_0, Qa1, H⟩ := H
 cases qa1_0
 replace H := iF H
 replace H := bs H
 obtain ⟨y181, Ny181, H⟩ := H
 replace H := nq H
 obtain ⟨c52, H⟩ := H
 have LMc52 := am c52
 clear c52
 generalize hy184 : ((y181 ++ l0) : List Int) = y184 at H
 have Ny184 := am hy184.symm
 clear hy184
 have z0 := trivial
 rotate_left
 replace H := iT H
 generalize hy187 : ((([] : List Int)) : List Int) = y187 at H
 have Ny187 := am hy187.symm
 clear hy187
 replace H := iq H
 rcases H with ⟨-, c5b0, c5b1, H⟩ | ⟨c5, c5b0, c5b1, H⟩
 replace H := be H
 obtain ⟨qb1_0, Qb1, H⟩ := H
 replace H := be H
 obtain ⟨qc1_0, Qc1, H⟩ := H
 have z1 := trivial
 rotate_left
 replace H := iq H
 rcases H with ⟨-, c18b0, c18b1, H⟩ | ⟨c18, c18b0, c18b1, H⟩
 replace H := nq H
 obtain ⟨c19, H⟩ := H
 have c19b0 := eq_true c19
 have c19b1 : decide ((a1_2.size : Int) < 140737488355328) = true := decide_eq_true c19
 clear c19
 generalize hy196 : ((bytesOf a1_2) : List Int) = y196 at H
 have Ny196 := am hy196.symm
 clear hy196
 replace H := be H
 obtain ⟨qc1_0, Qc1, H⟩ := H
 have z2 := trivial
 rotate_left
 replace H := iq' H
 rcases H with ⟨c30, c30b0, c30b1, H⟩ | ⟨-, c30b0, c30b1, H⟩
 replace H := be H
 obtain ⟨qc1_0, Qc1, H⟩ := H
 have z3 := trivial
 rotate_left
 replace H := be H
 obtain ⟨qd1_0, Qd1, H⟩ := H
 replace H := be H
 obtain ⟨qc1_0, Qc1, H⟩ := H
 have z4 := trivial
 rotate_right
 rotate_right
 rotate_right
 rotate_right
 all_goals
  obtain rfl := Option.some.inj H
  go_enter Try.func14, Try.ntmps14
  go_wp2_with (first | ((with_reducible refine gate_dst (N := 3) rfl ?_); refine bxe 3 #[.int .i64 a1_0, .int .i64 a1_1, .string a1_2, .slice A1_3 l1_3.length c1_3] 29 ?_; intro gb179 hg w_ hbox hb; have n_ := ak4 (below_step (bq HB.out) hb) hbox (bz hg (bq HB.out)) (bz hg (bq HB.out)); clear HB; obtain ⟨HB, BK179, GW179, GE179⟩ := n_; clear hb hbox hg; obtain ⟨hcz_179_0, hcz_179_1, hcz_179_2, hcz_179_3, hfz_179_0, hfz_179_1, hfz_179_2, hfz_179_3⟩ := cl4 BK179.out) | ((with_reducible refine gate_callee (f := 47) rfl ?_); have := z0; refine gc (some 7) (spec_ValOk.calls k a1_0 a1_1 a1_2 _ _ l1_3 false _ (cq (Kd.C_below HR1_3.out HB.out)) HC1_3.out Qa1.out) Try.func47 ?_; rintro e w_ ⟨rfl, hb⟩; refine ⟨_, rfl, ?_⟩; have n_ := ak2 (kb BK179 hb) (below_step (bq1 HB.out GE179.out) hb); clear BK179 HB; obtain ⟨BK179, HB⟩ := n_; (try clear hb)) | ((with_reducible refine gate_callee (f := 47) rfl ?_); (first | have := z1 | have := z2 | have := z3 | have := z4); refine gc (some 7) (spec_ValOk.calls k a1_0 a1_1 a1_2 _ _ l1_3 true _ (cq (Kd.C_below HR1_3.out HB.out)) HC1_3.out Qa1.out) Try.func47 ?_; rintro e w_ ⟨rfl, hb⟩; refine ⟨_, rfl, ?_⟩; have n_ := ak2 (kb BK179 hb) (below_step (bq1 HB.out GE179.out) hb); clear BK179 HB; obtain ⟨BK179, HB⟩ := n_; (try clear hb)) | ((with_reducible refine gate_dst (N := 9) rfl ?_); refine Kd.R_lit (Kd.int .u8) _ 5 ?hg (N := 9) ?hd (xs := ([] : List Int)) (inner := []) (ok := fun _ => True) (okp := fun _ => True) ?hr ?hp (fun _ hk => hk) trivial (Below.refl _ _) (Nat.le_refl _) (by simp) ?_; (case hd => rfl); (case hg => rfl); (case hr => exact gs); (case hp => exact (Reps.none _ _)); intro v182 w_ ho_ hb hg_ hnew_; clear hg_ hnew_; (first | rw [← Ny181.out] at ho_ | (simp only [Int.reduceToNat] at ho_; rw [← Ny181.out] at ho_)); have n_ := ak3 (rl ho_ (bq1 HB.out GE179.out)) (kb BK179 hb) (below_step (bq1 HB.out GE179.out) hb); clear BK179 HB; obtain ⟨HO183, BK179, HB⟩ := n_; clear hb ho_) | ((with_reducible refine gate_builtin (b := .append) (xs := #[.tmp 9, .tmp 10]) rfl ?_); at_builtin; refine Kd.R_append_rows (Kd.int .u8) (w0 := w) w.heap.size rfl (.tmp 9) (.tmp 10) 22 5 (.int .u8 0) 1 rfl Try.underlying22 info5 rfl (by decide) (by omega) v182 y181 l0 _ _ _ (fun _ => True) (fun _ => False) rfl rfl ?aO ?aR (fun _ _ h => h) (fun _ h => h.elim) ?aF ?aB ?aS ?aL ?_; (case aR => exact cq (Kd.C_below HR0.out HB.out)); (case aB => exact (bq1 HB.out GE179.out)); (case aF => exact (fun _ _ => trivial)); (case aO => exact (kqR HO183.out)); (case aS => exact (below_size (bq1 HB.out GE179.out))); (case aL => have := LMc52.out; omega); intro v185 w_ ho hb hg hat; rw [← Ny184.out] at ho; have n_ := ak3 (blk_grown (g := gb179) (o := .cells #[.int .i64 a1_0, .int .i64 a1_1, .string a1_2, .slice A1_3 l1_3.length c1_3] 29 (0, 0)) (zq BK179.out) hg (Kd.R_ne HO183.out BK179.out (by decide))) hb ho; clear BK179 HB HO183; obtain ⟨BK179, HB, HO186⟩ := n_; clear ho hb hg hat) | ((with_reducible refine gate_dst (N := 12) rfl ?_); refine Kd.R_lit (Kd.int .u8) _ 5 ?hg (N := 12) ?hd (xs := ([] : List Int)) (inner := []) (ok := fun _ => True) (okp := fun _ => True) ?hr ?hp (fun _ hk => hk) trivial (Below.refl _ _) (Nat.le_refl _) (by simp) ?_; (case hd => rfl); (case hg => rfl); (case hr => exact gs); (case hp => exact (Reps.none _ _)); intro v188 w_ ho_ hb hg_ hnew_; clear hg_ hnew_; (first | rw [← Ny187.out] at ho_ | (simp only [Int.reduceToNat] at ho_; rw [← Ny187.out] at ho_)); have n_ := ak3 (rl ho_ (bq1 HB.out GE179.out)) (kb BK179 hb) (below_step (bq1 HB.out GE179.out) hb); clear BK179 HB; obtain ⟨HO189, BK179, HB⟩ := n_; clear hb ho_; obtain ⟨Ao_189, co_189, eo_189⟩ := Kd.R_slice HO189.out; subst eo_189; obtain ⟨hcz_179_0, hcz_179_1, hcz_179_2, hcz_179_3, hfz_179_0, hfz_179_1, hfz_179_2, hfz_179_3⟩ := cl4 BK179.out) | ((with_reducible refine gate_callee (f := 64) rfl ?_); refine gc (some 19) (spec_PutInt.calls k a1_1 qb1_0 _ Qb1.out) Try.func64 ?_; rintro e w_ ⟨v191, rfl, ho_, hb⟩; refine ⟨_, rfl, ?_⟩; have n_ := ak4 (re_ HO189 ho_ hb) (rn_ ho_ HO189 (bq1 HB.out GE179.out)) (kb BK179 hb) (below_step (bq1 HB.out GE179.out) hb); clear HO189 BK179 HB; obtain ⟨HO189, HO192, BK179, HB⟩ := n_; (try clear hb ho_); obtain ⟨Ao_192, co_192, eo_192⟩ := Kd.R_slice HO192.out; subst eo_192; obtain ⟨hcz_179_0, hcz_179_1, hcz_179_2, hcz_179_3, hfz_179_0, hfz_179_1, hfz_179_2, hfz_179_3⟩ := cl4 BK179.out) | ((with_reducible refine gate_callee (f := 66) rfl ?_); have := z2; refine gc (some 34) (spec_PutTlv.calls k _ _ l0 a1_0 _ _ y196 qc1_0 _ (cq (Kd.C_below HR0.out HB.out)) HC0.out (by repeat (first | exact (by repeat (first | (with_reducible exact HRs196.out) | (with_reducible refine Kd.C_alloc ?_ _) | (with_reducible refine Kd.C_drewN ?_ _) | (with_reducible refine Kd.C_drew ?_) | exact HRs196.out)) | (with_reducible refine Kd.C_alloc ?_ _) | (with_reducible refine Kd.C_drewN ?_ _) | (with_reducible refine Kd.C_drew ?_))) HCs196.out Qc1.out) Try.func66 ?_; rintro e w_ ⟨v200, rfl, ho_, hb⟩; refine ⟨_, rfl, ?_⟩; have n_ := ak5 (re_ HO189 ho_ hb) (rn_ ho_ HO189 (bq1 HB.out GE179.out)) (kb BK179 hb) (Kd.C_below (by repeat (first | (with_reducible exact HRs196.out) | (with_reducible refine Kd.C_alloc ?_ _) | (with_reducible refine Kd.C_drewN ?_ _) | (with_reducible refine Kd.C_drew ?_) | exact HRs196.out)) hb) (below_step (bq1 HB.out GE179.out) hb); clear HO189 BK179 HRs196 HB; obtain ⟨HO189, HO201, BK179, HRs196, HB⟩ := n_; (try clear hb ho_)) | ((with_reducible refine gate_callee (f := 66) rfl ?_); have := z1; refine gc (some 34) (spec_PutTlv.calls k _ _ l0 a1_0 _ _ qb1_0 qc1_0 _ (cq (Kd.C_below HR0.out HB.out)) HC0.out (cq (Kd.R_reads' HO192.out).2.2) ((Kd.R_reads' HO192.out).2.1) Qc1.out) Try.func66 ?_; rintro e w_ ⟨v194, rfl, ho_, hb⟩; refine ⟨_, rfl, ?_⟩; have n_ := ak5 (re_ HO189 ho_ hb) (re_ HO192 ho_ hb) (Kd.R_lower (Kd.R_new' (Kd.R_new' ho_ (Kd.R_lt (kqR HO189.out))) (Kd.R_lt (kqR HO192.out))) (below_size (bq1 HB.out GE179.out))) (kb BK179 hb) (below_step (bq1 HB.out GE179.out) hb); clear HO189 HO192 BK179 HB; obtain ⟨HO189, HO192, HO195, BK179, HB⟩ := n_; (try clear hb ho_)) | ((with_reducible refine gate_callee (f := 66) rfl ?_); have := z4; refine gc (some 34) (spec_PutTlv.calls k _ _ l0 a1_0 _ _ qd1_0 qc1_0 _ (cq (Kd.C_below HR0.out HB.out)) HC0.out (cq (Kd.R_reads' HO204.out).2.2) ((Kd.R_reads' HO204.out).2.1) Qc1.out) Try.func66 ?_; rintro e w_ ⟨v206, rfl, ho_, hb⟩; refine ⟨_, rfl, ?_⟩; have n_ := ak5 (re_ HO189 ho_ hb) (re_ HO204 ho_ hb) (Kd.R_lower (Kd.R_new' (Kd.R_new' ho_ (Kd.R_lt (kqR HO189.out))) (Kd.R_lt (kqR HO204.out))) (below_size (bq1 HB.out GE179.out))) (kb BK179 hb) (below_step (bq1 HB.out GE179.out) hb); clear HO189 HO204 BK179 HB; obtain ⟨HO189, HO204, HO207, BK179, HB⟩ := n_; (try clear hb ho_)) | ((with_reducible refine gate_callee (f := 66) rfl ?_); have := z3; refine gc (some 34) (spec_PutTlv.calls k _ _ l0 a1_0 _ _ y187 qc1_0 _ (cq (Kd.C_below HR0.out HB.out)) HC0.out (cq (Kd.R_reads' HO189.out).2.2) ((Kd.R_reads' HO189.out).2.1) Qc1.out) Try.func66 ?_; rintro e w_ ⟨v209, rfl, ho_, hb⟩; refine ⟨_, rfl, ?_⟩; have n_ := ak4 (re_ HO189 ho_ hb) (rn_ ho_ HO189 (bq1 HB.out GE179.out)) (kb BK179 hb) (below_step (bq1 HB.out GE179.out) hb); clear HO189 BK179 HB; obtain ⟨HO189, HO210, BK179, HB⟩ := n_; (try clear hb ho_)) | ((with_reducible refine gate_dst (N := 24) rfl ?_); refine strb_event ?hg (N := 24) ?hd 9 22 5 (x := .tmp 23) ?ho (s := a1_2) (y := y196) Ny196.out ?hx Try.underlying9 Try.underlying22 Try.underlying5 (by have h_ : (a1_2.size : Int) < (140737488355328 : Int) := oda; omega) ?_; (case hd => rfl); (case hg => rfl); (case ho => rfl); (case hx => first | (go_simp; done) | (go_simp; rfl)); intro As196 cs196 w_ hs_ hl_ hb; have n_ := ak5 (rb HO189 hb) (kb BK179 hb) (below_step (bq1 HB.out GE179.out) hb) hs_ hl_; clear HO189 BK179 HB; obtain ⟨HO189, BK179, HB, HRs196, HCs196⟩ := n_; clear hb hs_ hl_; obtain ⟨hcz_179_0, hcz_179_1, hcz_179_2, hcz_179_3, hfz_179_0, hfz_179_1, hfz_179_2, hfz_179_3⟩ := cl4 BK179.out) | ((with_reducible refine gate_callee (f := 65) rfl ?_); refine gc (some 29) (spec_PutOid.calls k _ _ l1_3 qd1_0 _ (cq (Kd.C_below HR1_3.out HB.out)) HC1_3.out Qd1.out) Try.func65 ?_; rintro e w_ ⟨v203, rfl, ho_, hb⟩; refine ⟨_, rfl, ?_⟩; have n_ := ak4 (re_ HO189 ho_ hb) (rn_ ho_ HO189 (bq1 HB.out GE179.out)) (kb BK179 hb) (below_step (bq1 HB.out GE179.out) hb); clear HO189 BK179 HB; obtain ⟨HO189, HO204, BK179, HB⟩ := n_; (try clear hb ho_); obtain ⟨Ao_204, co_204, eo_204⟩ := Kd.R_slice HO204.out; subst eo_204; obtain ⟨hcz_179_0, hcz_179_1, hcz_179_2, hcz_179_3, hfz_179_0, hfz_179_1, hfz_179_2, hfz_179_3⟩ := cl4 BK179.out))
  first
  | go_ret
    exact ⟨_, rq, by refine kr ?_; exact Kd.R_mono HO195.out (fun _ hk => trivial), bq1 HB.out GE179.out⟩
  | go_ret
    exact ⟨_, rq, by refine kr ?_; exact Kd.R_mono HO201.out (fun _ hk => trivial), bq1 HB.out GE179.out⟩
  | go_ret
    exact ⟨_, rq, by refine kr ?_; exact Kd.R_mono HO210.out (fun _ hk => trivial), bq1 HB.out GE179.out⟩
  | go_ret
    exact ⟨_, rq, by refine kr ?_; exact Kd.R_mono HO207.out (fun _ hk => trivial), bq1 HB.out GE179.out⟩
  | go_ret
    exact ⟨_, rq, kqR HO186.out, bq1 HB.out GE179.out⟩
/-! ### spec_l4Binds: function 128 -/
def spec_l4Binds.l0 : Nat → List (S116) → List Int → Int → Option (List Int)
 | 0, _, _, _ => none
 | k + 1, x0, x3, x4 => if x4 < (x0.length : Int) then (if 0 ≤ x4 then ((spec_PutOid.f k ((rd_T116 x0 x4).f0)).bind fun t218 => ((spec_PutTlv.f k (([] : List Int)) 6 t218).bind fun t221 => ((spec_PutVal.f k t221 ((rd_T116 x0 x4).f1.f0) ((rd_T116 x0 x4).f1.f1) ((rd_T116 x0 x4).f1.f2) ((rd_T116 x0 x4).f1.f3)).bind fun t225 => ((spec_PutTlv.f k x3 48 t225).bind fun t228 => (spec_l4Binds.l0 k x0 t228 (wrap64 (x4 + 1))))))) else (none)) else (some x3)
def spec_l4Binds.f (k : Nat) (l0 : List (S116)) : Option (List Int) := spec_l4Binds.l0 k l0 (([] : List Int)) 0
def spec_l4Binds.T5 : Bool × List (List Nat × List Nat) := (true, [([], []), ([], []), ([], []), ([1, 2], [1, 2]), ([3], [3]), ([4], [4]), ([5], [5]), ([0, 6, 6], [0, 6]), ([], []), ([], []), ([8, 9], [8, 9]), ([10], [10]), ([11], [11]), ([7, 12, 7], [7, 12]), ([13, 13, 0, 1, 2, 3, 4, 5, 6, 7, 8, 9, 10, 11, 12, 13], [13])])
def spec_l4Binds.B5 : List Nat := [0, 0, 0, 6, 14, 30, 62, 127, 0, 0, 768, 1792, 3840, 8191, 16383]
theorem spec_l4Binds.tab5 : rtab .any (opsOf Try.f128 5) = spec_l4Binds.T5 := by kernel_rfl
theorem spec_l4Binds.bits5 : waitsOk spec_l4Binds.T5.2 spec_l4Binds.B5 = true := by kernel_rfl
set_option maxHeartbeats 8000000 in
set_option maxRecDepth 100000 in
theorem spec_l4Binds.calls (k : Nat) (A0 : Option Addr) (c0 : Nat) (l0 : List (S116)) (r : List Int) (w : World) (hr0 : Kd.C k116 w A0 l0.length l0) (hc0 : l0.length ≤ c0) (h : spec_l4Binds.f k l0 = some r) :
 Calls Try.prog 128 #[.slice A0 l0.length c0] w fun e w' => ∃ v0_ : Value, e = .returned (v0_) ∧ Kd.R (Kd.int .u8) 5 w' w.heap.size (fun _ => True) v0_ r ∧ Below w.heap.size w w' := by
 have hu29 := Try.underlying29
 have HR0 := am hr0
 have HC0 := am hc0
 clear hr0 hc0
 have HB := am (Below.refl w.heap.size w)
 have H := h
 clear h
 unfold spec_l4Binds.f at H
 generalize hy211 : ((([] : List Int)) : List Int) = y211 at H
 have Ny211 := am hy211.symm
 clear hy211
 have H' := am H
 clear H
 go_enter Try.func128, Try.ntmps128
 go_wp2_with (first | ((with_reducible refine gate_dst (N := 6) rfl ?_); refine Kd.R_lit (Kd.int .u8) _ 5 ?hg (N := 6) ?hd (xs := ([] : List Int)) (inner := []) (ok := fun _ => True) (okp := fun _ => True) ?hr ?hp (fun _ hk => hk) trivial (Below.refl _ _) (Nat.le_refl _) (by simp) ?_; (case hd => rfl); (case hg => rfl); (case hr => exact gs); (case hp => exact (Reps.none _ _)); intro v212 w2 ho3 hb hg_ hnew_; clear hg_ hnew_; (first | rw [← Ny211.out] at ho3 | (simp only [Int.reduceToNat] at ho3; rw [← Ny211.out] at ho3)); have n_ := ak2 (rl ho3 (bq HB.out)) (below_step (bq HB.out) hb); clear HB; obtain ⟨HO213, HB⟩ := n_; clear hb ho3))
 go_loopg [3, 4] k (fun kq v3 v4 w' => ∃ (x3_1 : List Int) (x4_1 : Int), v4 = .int .i64 x4_1 ∧ Aside0 (spec_l4Binds.l0 kq l0 x3_1 x4_1 = some r) ∧ Aside0 (kq ≤ k) ∧ Aside0 (Kd.R (Kd.int .u8) 5 w' w.heap.size (fun _ => True) v3 x3_1) ∧ Aside0 (Below w.heap.size w w'))
 case atStart => exact ⟨(y211), (0), sq, H', ⟨Nat.le_refl _⟩, ⟨kqR HO213.out⟩, ⟨bq HB.out⟩⟩
 case round =>
  clear H'
  try clear c1
  try clear p2
  obtain ⟨x3_1, x4_1, rfl, HA, HK1, HO_3, HB⟩ := hrel
  cases gk with
  | zero => exact absurd HA.out (by simp [spec_l4Binds.l0])
  | succ k1 =>
   have H := HA.out
   clear HA
   simp only [spec_l4Binds.l0] at H
   replace H := il' H
   rcases H with ⟨-, c4b0, H⟩ | ⟨-, c4b0, H⟩
   · obtain rfl := Option.some.inj H
     go_wp2
     go_ret
     exact ⟨_, rq, kqR HO_3.out, bq HB.out⟩
   generalize hy214 : ((([] : List Int)) : List Int) = y214 at H
   have Ny214 := am hy214.symm
   clear hy214
   replace H := nl H
   obtain ⟨-, c5b0, H⟩ := H
   replace H := be H
   obtain ⟨qa1_0, Qa1, H⟩ := H
   replace H := be H
   obtain ⟨qb1_0, Qb1, H⟩ := H
   replace H := be H
   obtain ⟨qc1_0, Qc1, H⟩ := H
   replace H := be H
   obtain ⟨qb2_0, Qb2, H⟩ := H
   have H' := am H
   clear H
   try go_wp2
   have n_ := ak2 (Kd.R_drew HO_3.out) (below_drew1 HB.out)
   clear HO_3 HB
   obtain ⟨HO_3, HB⟩ := n_
   have p217 : 0 ≤ (x4_1 : Int) := oda
   have q217 : x4_1 < (l0.length : Int) := oda
   obtain ⟨ad217, A217_0, c217_0, A217_4, c217_4, e217, hx217_0, hx217_1, hx217_2, hx217_3, hx217_4, hl217_0, hi217_0, hl217_4, hi217_4⟩ := at_T116 HR0.out x4_1 p217 q217
   have hw217_4 := hx217_4
   have hw217_3 := hx217_3
   have hw217_2 := hx217_2
   have hw217_1 := hx217_1
   have hw217_0 := hx217_0
   cases e217
   replace hx217_0 := (HB.out.cell (World.block_lt_of_cell? w _ hx217_0)).trans hx217_0
   replace hx217_1 := (HB.out.cell (World.block_lt_of_cell? w _ hx217_1)).trans hx217_1
   replace hx217_2 := (HB.out.cell (World.block_lt_of_cell? w _ hx217_2)).trans hx217_2
   replace hx217_3 := (HB.out.cell (World.block_lt_of_cell? w _ hx217_3)).trans hx217_3
   replace hx217_4 := (HB.out.cell (World.block_lt_of_cell? w _ hx217_4)).trans hx217_4
   have HR217_0 := am hi217_0
   have HC217_0 := am hl217_0
   clear hi217_0 hl217_0
   have HR217_4 := am hi217_4
   have HC217_4 := am hl217_4
   clear hi217_4 hl217_4
   replace p217 := eq_true p217
   replace q217 := eq_true q217
   have p224 : 0 ≤ (x4_1 : Int) := oda
   have q224 : x4_1 < (l0.length : Int) := oda
   obtain ⟨ad224, A224_0, c224_0, A224_4, c224_4, e224, hx224_0, hx224_1, hx224_2, hx224_3, hx224_4, hl224_0, hi224_0, hl224_4, hi224_4⟩ := at_T116 HR0.out x4_1 p224 q224
   have hw224_4 := hx224_4
   have hw224_3 := hx224_3
   have hw224_2 := hx224_2
   have hw224_1 := hx224_1
   have hw224_0 := hx224_0
   obtain rfl : ad217 = ad224 := (by injection e224)
   replace hx224_0 := (HB.out.cell (World.block_lt_of_cell? w _ hx224_0)).trans hx224_0
   replace hx224_1 := (HB.out.cell (World.block_lt_of_cell? w _ hx224_1)).trans hx224_1
   replace hx224_2 := (HB.out.cell (World.block_lt_of_cell? w _ hx224_2)).trans hx224_2
   replace hx224_3 := (HB.out.cell (World.block_lt_of_cell? w _ hx224_3)).trans hx224_3
   replace hx224_4 := (HB.out.cell (World.block_lt_of_cell? w _ hx224_4)).trans hx224_4
   have HR224_0 := am hi224_0
   have HC224_0 := am hl224_0
   clear hi224_0 hl224_0
   have HR224_4 := am hi224_4
   have HC224_4 := am hl224_4
   clear hi224_4 hl224_4
   replace p224 := eq_true p224
   replace q224 := eq_true q224
   have ea_ := Option.some.inj (hx217_0.symm.trans hx224_0)
   injection ea_ with ea_ en_ ec_
   subst ea_
   subst ec_
   clear en_
   have ea_ := Option.some.inj (hx217_4.symm.trans hx224_4)
   injection ea_ with ea_ en_ ec_
   subst ea_
   subst ec_
   clear en_
   refine start_ (n := 15) (S := fun w' => w'.cell? (ad217.add ((x4_1).toNat * 5)) = some (.slice A217_0 ((rd_T116 l0 x4_1).f0).length c217_0) ∧ w'.cell? ⟨(ad217.add ((x4_1).toNat * 5)).block, (ad217.add ((x4_1).toNat * 5)).off + 1, none⟩ = some (.int .i64 ((rd_T116 l0 x4_1).f1.f0)) ∧ w'.cell? ⟨(ad217.add ((x4_1).toNat * 5)).block, (ad217.add ((x4_1).toNat * 5)).off + 2, none⟩ = some (.int .i64 ((rd_T116 l0 x4_1).f1.f1)) ∧ w'.cell? ⟨(ad217.add ((x4_1).toNat * 5)).block, (ad217.add ((x4_1).toNat * 5)).off + 3, none⟩ = some (.string ((rd_T116 l0 x4_1).f1.f2)) ∧ w'.cell? ⟨(ad217.add ((x4_1).toNat * 5)).block, (ad217.add ((x4_1).toNat * 5)).off + 4, none⟩ = some (.slice A217_4 ((rd_T116 l0 x4_1).f1.f3).length c217_4) ∧ w'.cell? (ad217.add ((x4_1).toNat * 5)) = some (.slice A217_0 ((rd_T116 l0 x4_1).f0).length c217_0) ∧ w'.cell? ⟨(ad217.add ((x4_1).toNat * 5)).block, (ad217.add ((x4_1).toNat * 5)).off + 1, none⟩ = some (.int .i64 ((rd_T116 l0 x4_1).f1.f0)) ∧ w'.cell? ⟨(ad217.add ((x4_1).toNat * 5)).block, (ad217.add ((x4_1).toNat * 5)).off + 2, none⟩ = some (.int .i64 ((rd_T116 l0 x4_1).f1.f1)) ∧ w'.cell? ⟨(ad217.add ((x4_1).toNat * 5)).block, (ad217.add ((x4_1).toNat * 5)).off + 3, none⟩ = some (.string ((rd_T116 l0 x4_1).f1.f2)) ∧ w'.cell? ⟨(ad217.add ((x4_1).toNat * 5)).block, (ad217.add ((x4_1).toNat * 5)).off + 4, none⟩ = some (.slice A217_4 ((rd_T116 l0 x4_1).f1.f3).length c217_4)) (ds := []) #[F,F,F,F,F,F,F,F,F,F,F,F,F,F,F] (by kernel_rfl) rfl rfl ⟨((HB.out.cell (World.block_lt_of_cell? w _ hw217_0)).trans hw217_0), ((HB.out.cell (World.block_lt_of_cell? w _ hw217_1)).trans hw217_1), ((HB.out.cell (World.block_lt_of_cell? w _ hw217_2)).trans hw217_2), ((HB.out.cell (World.block_lt_of_cell? w _ hw217_3)).trans hw217_3), ((HB.out.cell (World.block_lt_of_cell? w _ hw217_4)).trans hw217_4), ((HB.out.cell (World.block_lt_of_cell? w _ hw224_0)).trans hw224_0), ((HB.out.cell (World.block_lt_of_cell? w _ hw224_1)).trans hw224_1), ((HB.out.cell (World.block_lt_of_cell? w _ hw224_2)).trans hw224_2), ((HB.out.cell (World.block_lt_of_cell? w _ hw224_3)).trans hw224_3), ((HB.out.cell (World.block_lt_of_cell? w _ hw224_4)).trans hw224_4)⟩ (fun hHeld => ?_); refine with_tabW spec_l4Binds.tab5 spec_l4Binds.bits5 (fun HT_ HW_ => ?_)
   generalize wr.drew = w10 at HO_3 HB HR217_0 HR217_4 HR224_0 HR224_4 hx217_0 hx217_1 hx217_2 hx217_3 hx217_4 hx224_0 hx224_1 hx224_2 hx224_3 hx224_4 hHeld ⊢
   refine pv HT_ 1 (some 14) #[F,T,F,F,F,F,F,F,F,F,F,F,F,F,F] ?_
   refine pv HT_ 2 (some 15) #[F,T,T,F,F,F,F,F,F,F,F,F,F,F,F] ?_
   refine pv HT_ 3 (some 16) #[F,T,T,T,F,F,F,F,F,F,F,F,F,F,F] ?_
   refine pv HT_ 4 (some 17) #[F,T,T,T,T,F,F,F,F,F,F,F,F,F,F] ?_
   refine pv HT_ 8 (some 21) #[F,T,T,T,T,F,F,F,T,F,F,F,F,F,F] ?_
   refine pv HT_ 9 (some 22) #[F,T,T,T,T,F,F,F,T,T,F,F,F,F,F] ?_
   refine pv HT_ 10 (some 23) #[F,T,T,T,T,F,F,F,T,T,T,F,F,F,F] ?_
   refine pv HT_ 11 (some 24) #[F,T,T,T,T,F,F,F,T,T,T,T,F,F,F] ?_
   refine tk 5 (some 18) #[F,T,T,T,T,T,F,F,T,T,T,T,F,F,F] rfl rfl (take_ofW HT_.out HW_.out (by kernel_rfl)) hHeld (Or.inl ⟨by rfl, by rintro w' ⟨s0, s1, s2, s3, s4, s5, s6, s7, s8, s9⟩; go_simp; with_reducible rfl⟩) ?_
   refine tk 12 (some 25) #[F,T,T,T,T,T,F,F,T,T,T,T,T,F,F] rfl rfl (take_ofW HT_.out HW_.out (by kernel_rfl)) hHeld (Or.inl ⟨by rfl, by rintro w' ⟨s0, s1, s2, s3, s4, s5, s6, s7, s8, s9⟩; go_simp; with_reducible rfl⟩) ?_
   refine join_ (σ := Value × Value) 3 #[T,T,T,T,T,T,T,F,T,T,T,T,T,F,F] (fun s_ => [(13, s_.1), (19, s_.2)]) (fun s_ w' => (w'.cell? (ad217.add ((x4_1).toNat * 5)) = some (.slice A217_0 ((rd_T116 l0 x4_1).f0).length c217_0) ∧ w'.cell? ⟨(ad217.add ((x4_1).toNat * 5)).block, (ad217.add ((x4_1).toNat * 5)).off + 1, none⟩ = some (.int .i64 ((rd_T116 l0 x4_1).f1.f0)) ∧ w'.cell? ⟨(ad217.add ((x4_1).toNat * 5)).block, (ad217.add ((x4_1).toNat * 5)).off + 2, none⟩ = some (.int .i64 ((rd_T116 l0 x4_1).f1.f1)) ∧ w'.cell? ⟨(ad217.add ((x4_1).toNat * 5)).block, (ad217.add ((x4_1).toNat * 5)).off + 3, none⟩ = some (.string ((rd_T116 l0 x4_1).f1.f2)) ∧ w'.cell? ⟨(ad217.add ((x4_1).toNat * 5)).block, (ad217.add ((x4_1).toNat * 5)).off + 4, none⟩ = some (.slice A217_4 ((rd_T116 l0 x4_1).f1.f3).length c217_4) ∧ w'.cell? (ad217.add ((x4_1).toNat * 5)) = some (.slice A217_0 ((rd_T116 l0 x4_1).f0).length c217_0) ∧ w'.cell? ⟨(ad217.add ((x4_1).toNat * 5)).block, (ad217.add ((x4_1).toNat * 5)).off + 1, none⟩ = some (.int .i64 ((rd_T116 l0 x4_1).f1.f0)) ∧ w'.cell? ⟨(ad217.add ((x4_1).toNat * 5)).block, (ad217.add ((x4_1).toNat * 5)).off + 2, none⟩ = some (.int .i64 ((rd_T116 l0 x4_1).f1.f1)) ∧ w'.cell? ⟨(ad217.add ((x4_1).toNat * 5)).block, (ad217.add ((x4_1).toNat * 5)).off + 3, none⟩ = some (.string ((rd_T116 l0 x4_1).f1.f2)) ∧ w'.cell? ⟨(ad217.add ((x4_1).toNat * 5)).block, (ad217.add ((x4_1).toNat * 5)).off + 4, none⟩ = some (.slice A217_4 ((rd_T116 l0 x4_1).f1.f3).length c217_4)) ∧ (Kd.R (Kd.int .u8) 5 w' w.heap.size (fun k_ => some k_ ≠ (s_.2 : Value).ownBlock ∧ some k_ ≠ (u3 : Value).ownBlock) s_.1 y214) ∧ (Kd.R (Kd.int .u8) 5 w' w.heap.size (fun k_ => some k_ ≠ (s_.1 : Value).ownBlock ∧ some k_ ≠ (u3 : Value).ownBlock) s_.2 qa1_0) ∧ (Kd.R (Kd.int .u8) 5 w' w.heap.size (fun k_ => some k_ ≠ (s_.1 : Value).ownBlock ∧ some k_ ≠ (s_.2 : Value).ownBlock) u3 x3_1) ∧ (Below w.heap.size w w')) ?_ ?_
   rotate_left
   · intro hCont
     refine two_ (i := 0) (j := 6) (Ni := some 13) (Nj := some 19) #[T,T,T,T,T,T,F,F,T,T,T,T,T,F,F] #[F,T,T,T,T,T,T,F,T,T,T,T,T,F,F] rfl rfl rfl rfl (two_of HT_.out (by kernel_rfl)) (by decide) (by decide) (fun K hK => ?_) (fun K hK => ?_)
     · skip
       refine Kd.R_lit_step (Kd.int .u8) _ 5 ?hg (N := 13) ?hd (xs := ([] : List Int)) (inner := []) (ok := fun _ => True) (okp := fun _ => True) ?hr ?hp (fun _ hk => hk) trivial (Below.refl _ _) (Nat.le_refl _) (by simp) ?_; (case hd => rfl); (case hg => rfl); (case hr => exact gs); (case hp => exact (Reps.none _ _))
       intro v215 w11 ho12 hb hg_ hnew_
       clear hg_ hnew_
       (first | rw [← Ny214.out] at ho12 | (simp only [Int.reduceToNat] at ho12; rw [← Ny214.out] at ho12))
       have n_ := ak3 (re_ HO_3 ho12 hb) (rn_ ho12 HO_3 (bq HB.out)) (below_step (bq HB.out) hb)
       clear HO_3 HB
       obtain ⟨HO_3, HO216, HB⟩ := n_
       clear hb ho12
       refine hK.out _ _ ⟨((HB.out.cell (World.block_lt_of_cell? w _ hw217_0)).trans hw217_0), ((HB.out.cell (World.block_lt_of_cell? w _ hw217_1)).trans hw217_1), ((HB.out.cell (World.block_lt_of_cell? w _ hw217_2)).trans hw217_2), ((HB.out.cell (World.block_lt_of_cell? w _ hw217_3)).trans hw217_3), ((HB.out.cell (World.block_lt_of_cell? w _ hw217_4)).trans hw217_4), ((HB.out.cell (World.block_lt_of_cell? w _ hw224_0)).trans hw224_0), ((HB.out.cell (World.block_lt_of_cell? w _ hw224_1)).trans hw224_1), ((HB.out.cell (World.block_lt_of_cell? w _ hw224_2)).trans hw224_2), ((HB.out.cell (World.block_lt_of_cell? w _ hw224_3)).trans hw224_3), ((HB.out.cell (World.block_lt_of_cell? w _ hw224_4)).trans hw224_4)⟩ (fun hHeld => ?_)
       clear hK K
       refine norm_ (a' := ?_) ?_ ?_
       rotate_left
       · show Act.put _ (some 13) _ = _
         simp only [Act.put, List.setIfInBounds_toArray, List.set_cons_zero, List.set_cons_succ, i64_w, i32_w]
         rfl
       refine one_ (i := 6) (N := some 19) #[T,T,T,T,T,T,T,F,T,T,T,T,T,F,F] rfl rfl (one_of HT_.out (by kernel_rfl)) (by decide) (fun K hK => ?_)
       refine goes_ Try.func65 (by kernel_rfl) rfl #[.slice A217_0 ((rd_T116 l0 x4_1).f0).length c217_0] (by rfl) rfl rfl ga ?_
       with_reducible refine (spec_PutOid.calls k1 _ _ ((rd_T116 l0 x4_1).f0) qa1_0 _ ?side1 ?side2 Qa1.out).mono ?_
       (case side1 => exact cq (Kd.C_below HR217_0.out HB.out))
       (case side2 => exact HC217_0.out)
       rintro e w13 ⟨v219, rfl, ho0, hb⟩
       refine ⟨_, rfl, ?_⟩
       have n_ := ak4 (re_ HO_3 ho0 hb) (re_ HO216 ho0 hb) (Kd.R_lower (Kd.R_new' (Kd.R_new' ho0 (Kd.R_lt (kqR HO_3.out))) (Kd.R_lt (kqR HO216.out))) (below_size (bq HB.out))) (below_step (bq HB.out) hb)
       clear HO_3 HO216 HB
       obtain ⟨HO_3, HO216, HO220, HB⟩ := n_
       (try clear hb ho0)
       refine hK.out _ _ ⟨((HB.out.cell (World.block_lt_of_cell? w _ hw217_0)).trans hw217_0), ((HB.out.cell (World.block_lt_of_cell? w _ hw217_1)).trans hw217_1), ((HB.out.cell (World.block_lt_of_cell? w _ hw217_2)).trans hw217_2), ((HB.out.cell (World.block_lt_of_cell? w _ hw217_3)).trans hw217_3), ((HB.out.cell (World.block_lt_of_cell? w _ hw217_4)).trans hw217_4), ((HB.out.cell (World.block_lt_of_cell? w _ hw224_0)).trans hw224_0), ((HB.out.cell (World.block_lt_of_cell? w _ hw224_1)).trans hw224_1), ((HB.out.cell (World.block_lt_of_cell? w _ hw224_2)).trans hw224_2), ((HB.out.cell (World.block_lt_of_cell? w _ hw224_3)).trans hw224_3), ((HB.out.cell (World.block_lt_of_cell? w _ hw224_4)).trans hw224_4)⟩ (fun hHeld => ?_)
       clear hK K
       refine norm_ (a' := ?_) ?_ ?_
       rotate_left
       · show Act.put _ (some 19) _ = _
         simp only [Act.put, List.setIfInBounds_toArray, List.set_cons_zero, List.set_cons_succ, i64_w, i32_w]
         rfl
       exact norm_ (by simp only [putAll, Act.put, List.setIfInBounds_toArray, List.set_cons_zero, List.set_cons_succ]) (hCont (v215, v219) _ ⟨hHeld, (by refine kr ?_; exact Kd.R_mono HO216.out (fun _ hk => ⟨hk.2, hk.1.2⟩)), (by refine kr ?_; exact Kd.R_mono HO220.out (fun _ hk => ⟨hk.2, hk.1.2⟩)), (by refine kr ?_; exact Kd.R_mono HO_3.out (fun _ hk => ⟨hk.1.2, hk.2⟩)), (bq HB.out)⟩)
     skip
     refine goes_ Try.func65 (by kernel_rfl) rfl #[.slice A217_0 ((rd_T116 l0 x4_1).f0).length c217_0] (by rfl) rfl rfl ga ?_
     with_reducible refine (spec_PutOid.calls k1 _ _ ((rd_T116 l0 x4_1).f0) qa1_0 _ ?side1 ?side2 Qa1.out).mono ?_
     (case side1 => exact cq (Kd.C_below HR217_0.out HB.out))
     (case side2 => exact HC217_0.out)
     rintro e w11 ⟨v219, rfl, ho0, hb⟩
     refine ⟨_, rfl, ?_⟩
     have n_ := ak3 (re_ HO_3 ho0 hb) (rn_ ho0 HO_3 (bq HB.out)) (below_step (bq HB.out) hb)
     clear HO_3 HB
     obtain ⟨HO_3, HO220, HB⟩ := n_
     (try clear hb ho0)
     refine hK.out _ _ ⟨((HB.out.cell (World.block_lt_of_cell? w _ hw217_0)).trans hw217_0), ((HB.out.cell (World.block_lt_of_cell? w _ hw217_1)).trans hw217_1), ((HB.out.cell (World.block_lt_of_cell? w _ hw217_2)).trans hw217_2), ((HB.out.cell (World.block_lt_of_cell? w _ hw217_3)).trans hw217_3), ((HB.out.cell (World.block_lt_of_cell? w _ hw217_4)).trans hw217_4), ((HB.out.cell (World.block_lt_of_cell? w _ hw224_0)).trans hw224_0), ((HB.out.cell (World.block_lt_of_cell? w _ hw224_1)).trans hw224_1), ((HB.out.cell (World.block_lt_of_cell? w _ hw224_2)).trans hw224_2), ((HB.out.cell (World.block_lt_of_cell? w _ hw224_3)).trans hw224_3), ((HB.out.cell (World.block_lt_of_cell? w _ hw224_4)).trans hw224_4)⟩ (fun hHeld => ?_)
     clear hK K
     refine norm_ (a' := ?_) ?_ ?_
     rotate_left
     · show Act.put _ (some 19) _ = _
       simp only [Act.put, List.setIfInBounds_toArray, List.set_cons_zero, List.set_cons_succ, i64_w, i32_w]
       rfl
     refine one_ (i := 0) (N := some 13) #[T,T,T,T,T,T,T,F,T,T,T,T,T,F,F] rfl rfl (one_of HT_.out (by kernel_rfl)) (by decide) (fun K hK => ?_)
     refine Kd.R_lit_step (Kd.int .u8) _ 5 ?hg (N := 13) ?hd (xs := ([] : List Int)) (inner := []) (ok := fun _ => True) (okp := fun _ => True) ?hr ?hp (fun _ hk => hk) trivial (Below.refl _ _) (Nat.le_refl _) (by simp) ?_; (case hd => rfl); (case hg => rfl); (case hr => exact gs); (case hp => exact (Reps.none _ _))
     intro v215 w12 ho13 hb hg_ hnew_
     clear hg_ hnew_
     (first | rw [← Ny214.out] at ho13 | (simp only [Int.reduceToNat] at ho13; rw [← Ny214.out] at ho13))
     have n_ := ak4 (re_ HO_3 ho13 hb) (re_ HO220 ho13 hb) (Kd.R_lower (Kd.R_new' (Kd.R_new' ho13 (Kd.R_lt (kqR HO_3.out))) (Kd.R_lt (kqR HO220.out))) (below_size (bq HB.out))) (below_step (bq HB.out) hb)
     clear HO_3 HO220 HB
     obtain ⟨HO_3, HO220, HO216, HB⟩ := n_
     clear hb ho13
     refine hK.out _ _ ⟨((HB.out.cell (World.block_lt_of_cell? w _ hw217_0)).trans hw217_0), ((HB.out.cell (World.block_lt_of_cell? w _ hw217_1)).trans hw217_1), ((HB.out.cell (World.block_lt_of_cell? w _ hw217_2)).trans hw217_2), ((HB.out.cell (World.block_lt_of_cell? w _ hw217_3)).trans hw217_3), ((HB.out.cell (World.block_lt_of_cell? w _ hw217_4)).trans hw217_4), ((HB.out.cell (World.block_lt_of_cell? w _ hw224_0)).trans hw224_0), ((HB.out.cell (World.block_lt_of_cell? w _ hw224_1)).trans hw224_1), ((HB.out.cell (World.block_lt_of_cell? w _ hw224_2)).trans hw224_2), ((HB.out.cell (World.block_lt_of_cell? w _ hw224_3)).trans hw224_3), ((HB.out.cell (World.block_lt_of_cell? w _ hw224_4)).trans hw224_4)⟩ (fun hHeld => ?_)
     clear hK K
     refine norm_ (a' := ?_) ?_ ?_
     rotate_left
     · show Act.put _ (some 13) _ = _
       simp only [Act.put, List.setIfInBounds_toArray, List.set_cons_zero, List.set_cons_succ, i64_w, i32_w]
       rfl
     exact norm_ (by simp only [putAll, Act.put, List.setIfInBounds_toArray, List.set_cons_zero, List.set_cons_succ]) (hCont (v215, v219) _ ⟨hHeld, (by refine kr ?_; exact Kd.R_mono HO216.out (fun _ hk => ⟨hk.2, hk.1.2⟩)), (by refine kr ?_; exact Kd.R_mono HO220.out (fun _ hk => ⟨hk.2, hk.1.2⟩)), (by refine kr ?_; exact Kd.R_mono HO_3.out (fun _ hk => ⟨hk.2, hk.1.2⟩)), (bq HB.out)⟩)
   rintro ⟨v215, v219⟩ w14 ⟨hS_, h0_, h1_, h2_, h3_⟩
   have n_ : Aside0 (Kd.R (Kd.int .u8) 5 w14 w.heap.size (fun k_ => some k_ ≠ (v219 : Value).ownBlock ∧ some k_ ≠ (u3 : Value).ownBlock) v215 y214) ∧ Aside0 (Kd.R (Kd.int .u8) 5 w14 w.heap.size (fun k_ => some k_ ≠ (v215 : Value).ownBlock ∧ some k_ ≠ (u3 : Value).ownBlock) v219 qa1_0) ∧ Aside0 (Kd.R (Kd.int .u8) 5 w14 w.heap.size (fun k_ => some k_ ≠ (v215 : Value).ownBlock ∧ some k_ ≠ (v219 : Value).ownBlock) u3 x3_1) ∧ Aside0 (Below w.heap.size w w14) := ⟨⟨h0_⟩, ⟨h1_⟩, ⟨h2_⟩, ⟨h3_⟩⟩
   clear HO_3 HB h0_ h1_ h2_ h3_
   obtain ⟨HO216, HO220, HO_3, HB⟩ := n_
   have hHeld : w14.cell? (ad217.add ((x4_1).toNat * 5)) = some (.slice A217_0 ((rd_T116 l0 x4_1).f0).length c217_0) ∧ w14.cell? ⟨(ad217.add ((x4_1).toNat * 5)).block, (ad217.add ((x4_1).toNat * 5)).off + 1, none⟩ = some (.int .i64 ((rd_T116 l0 x4_1).f1.f0)) ∧ w14.cell? ⟨(ad217.add ((x4_1).toNat * 5)).block, (ad217.add ((x4_1).toNat * 5)).off + 2, none⟩ = some (.int .i64 ((rd_T116 l0 x4_1).f1.f1)) ∧ w14.cell? ⟨(ad217.add ((x4_1).toNat * 5)).block, (ad217.add ((x4_1).toNat * 5)).off + 3, none⟩ = some (.string ((rd_T116 l0 x4_1).f1.f2)) ∧ w14.cell? ⟨(ad217.add ((x4_1).toNat * 5)).block, (ad217.add ((x4_1).toNat * 5)).off + 4, none⟩ = some (.slice A217_4 ((rd_T116 l0 x4_1).f1.f3).length c217_4) ∧ w14.cell? (ad217.add ((x4_1).toNat * 5)) = some (.slice A217_0 ((rd_T116 l0 x4_1).f0).length c217_0) ∧ w14.cell? ⟨(ad217.add ((x4_1).toNat * 5)).block, (ad217.add ((x4_1).toNat * 5)).off + 1, none⟩ = some (.int .i64 ((rd_T116 l0 x4_1).f1.f0)) ∧ w14.cell? ⟨(ad217.add ((x4_1).toNat * 5)).block, (ad217.add ((x4_1).toNat * 5)).off + 2, none⟩ = some (.int .i64 ((rd_T116 l0 x4_1).f1.f1)) ∧ w14.cell? ⟨(ad217.add ((x4_1).toNat * 5)).block, (ad217.add ((x4_1).toNat * 5)).off + 3, none⟩ = some (.string ((rd_T116 l0 x4_1).f1.f2)) ∧ w14.cell? ⟨(ad217.add ((x4_1).toNat * 5)).block, (ad217.add ((x4_1).toNat * 5)).off + 4, none⟩ = some (.slice A217_4 ((rd_T116 l0 x4_1).f1.f3).length c217_4) := hS_
   obtain ⟨Ao15, co15, eo15⟩ := Kd.R_slice HO216.out
   (first | subst eo15 | (injection eo15 with f1_ f2_ f3_; have f4_ := f1_.symm; have f5_ := f3_.symm; clear f1_ f2_ f3_; subst f4_; subst f5_))
   obtain ⟨Ao16, co16, eo16⟩ := Kd.R_slice HO220.out
   (first | subst eo16 | (injection eo16 with f1_ f2_ f3_; have f4_ := f1_.symm; have f5_ := f3_.symm; clear f1_ f2_ f3_; subst f4_; subst f5_))
   refine norm_ (a' := ?_) ?_ ?_
   rotate_left
   · simp only [putAll, Act.put, List.setIfInBounds_toArray, List.set_cons_zero, List.set_cons_succ]
     rfl
   refine one_ (i := 7) (N := some 20) #[T,T,T,T,T,T,T,T,T,T,T,T,T,F,F] rfl rfl (one_of HT_.out (by kernel_rfl)) (by decide) (fun K hK => ?_)
   refine goes_ Try.func66 (by kernel_rfl) rfl #[.slice Ao15 y214.length co15, .int .i64 6, .slice Ao16 qa1_0.length co16] (by rfl) rfl rfl ga ?_
   with_reducible refine (spec_PutTlv.calls k1 _ _ y214 6 _ _ qa1_0 qb1_0 _ ?side1 ?side2 ?side3 ?side4 Qb1.out).mono ?_
   (case side1 => repeat (first | exact (Kd.R_reads' HO216.out).2.2 | (with_reducible refine Kd.C_alloc ?_ _) | (with_reducible refine Kd.C_drewN ?_ _) | (with_reducible refine Kd.C_drew ?_)))
   (case side2 => exact (Kd.R_reads' HO216.out).2.1)
   (case side3 => repeat (first | exact (Kd.R_reads' HO220.out).2.2 | (with_reducible refine Kd.C_alloc ?_ _) | (with_reducible refine Kd.C_drewN ?_ _) | (with_reducible refine Kd.C_drew ?_)))
   (case side4 => exact (Kd.R_reads' HO220.out).2.1)
   rintro e w17 ⟨v222, rfl, ho0, hb⟩
   refine ⟨_, rfl, ?_⟩
   have n_ := ak5 (re_ HO_3 ho0 hb) (re_ HO216 ho0 hb) (re_ HO220 ho0 hb) (Kd.R_lower (Kd.R_new' (Kd.R_new' (Kd.R_new' ho0 (Kd.R_lt (kqR HO_3.out))) (Kd.R_lt (kqR HO216.out))) (Kd.R_lt (kqR HO220.out))) (below_size (bq HB.out))) (below_step (bq HB.out) hb)
   clear HO_3 HO216 HO220 HB
   obtain ⟨HO_3, HO216, HO220, HO223, HB⟩ := n_
   (try clear hb ho0)
   obtain ⟨Ao18, co18, eo18⟩ := Kd.R_slice HO223.out
   (first | subst eo18 | (injection eo18 with f1_ f2_ f3_; have f4_ := f1_.symm; have f5_ := f3_.symm; clear f1_ f2_ f3_; subst f4_; subst f5_))
   refine hK.out _ _ ⟨((HB.out.cell (World.block_lt_of_cell? w _ hw217_0)).trans hw217_0), ((HB.out.cell (World.block_lt_of_cell? w _ hw217_1)).trans hw217_1), ((HB.out.cell (World.block_lt_of_cell? w _ hw217_2)).trans hw217_2), ((HB.out.cell (World.block_lt_of_cell? w _ hw217_3)).trans hw217_3), ((HB.out.cell (World.block_lt_of_cell? w _ hw217_4)).trans hw217_4), ((HB.out.cell (World.block_lt_of_cell? w _ hw224_0)).trans hw224_0), ((HB.out.cell (World.block_lt_of_cell? w _ hw224_1)).trans hw224_1), ((HB.out.cell (World.block_lt_of_cell? w _ hw224_2)).trans hw224_2), ((HB.out.cell (World.block_lt_of_cell? w _ hw224_3)).trans hw224_3), ((HB.out.cell (World.block_lt_of_cell? w _ hw224_4)).trans hw224_4)⟩ (fun hHeld => ?_)
   clear hK K
   refine norm_ (a' := ?_) ?_ ?_
   rotate_left
   · show Act.put _ (some 20) _ = _
     simp only [Act.put, List.setIfInBounds_toArray, List.set_cons_zero, List.set_cons_succ, i64_w, i32_w]
     rfl
   refine one_ (i := 13) (N := some 26) #[T,T,T,T,T,T,T,T,T,T,T,T,T,T,F] rfl rfl (one_of HT_.out (by kernel_rfl)) (by decide) (fun K hK => ?_)
   refine goes_ Try.func14 (by kernel_rfl) rfl #[.slice Ao18 qb1_0.length co18, .agg #[.int .i64 ((rd_T116 l0 x4_1).f1.f0), .int .i64 ((rd_T116 l0 x4_1).f1.f1), .string ((rd_T116 l0 x4_1).f1.f2), .slice A217_4 ((rd_T116 l0 x4_1).f1.f3).length c217_4]] (by rfl) rfl rfl ga ?_
   with_reducible refine (spec_PutVal.calls k1 _ _ qb1_0 ((rd_T116 l0 x4_1).f1.f0) ((rd_T116 l0 x4_1).f1.f1) ((rd_T116 l0 x4_1).f1.f2) _ _ ((rd_T116 l0 x4_1).f1.f3) qc1_0 _ ?side1 ?side2 ?side3 ?side4 Qc1.out).mono ?_
   (case side1 => repeat (first | exact (Kd.R_reads' HO223.out).2.2 | (with_reducible refine Kd.C_alloc ?_ _) | (with_reducible refine Kd.C_drewN ?_ _) | (with_reducible refine Kd.C_drew ?_)))
   (case side2 => exact (Kd.R_reads' HO223.out).2.1)
   (case side3 => exact cq (Kd.C_below HR224_4.out HB.out))
   (case side4 => exact HC224_4.out)
   rintro e w19 ⟨v226, rfl, ho0, hb⟩
   refine ⟨_, rfl, ?_⟩
   have n_ := ak6 (re_ HO_3 ho0 hb) (re_ HO216 ho0 hb) (re_ HO220 ho0 hb) (re_ HO223 ho0 hb) (Kd.R_lower (Kd.R_new' (Kd.R_new' (Kd.R_new' (Kd.R_new' ho0 (Kd.R_lt (kqR HO_3.out))) (Kd.R_lt (kqR HO216.out))) (Kd.R_lt (kqR HO220.out))) (Kd.R_lt (kqR HO223.out))) (below_size (bq HB.out))) (below_step (bq HB.out) hb)
   clear HO_3 HO216 HO220 HO223 HB
   obtain ⟨HO_3, HO216, HO220, HO223, HO227, HB⟩ := n_
   (try clear hb ho0)
   refine hK.out _ _ ⟨((HB.out.cell (World.block_lt_of_cell? w _ hw217_0)).trans hw217_0), ((HB.out.cell (World.block_lt_of_cell? w _ hw217_1)).trans hw217_1), ((HB.out.cell (World.block_lt_of_cell? w _ hw217_2)).trans hw217_2), ((HB.out.cell (World.block_lt_of_cell? w _ hw217_3)).trans hw217_3), ((HB.out.cell (World.block_lt_of_cell? w _ hw217_4)).trans hw217_4), ((HB.out.cell (World.block_lt_of_cell? w _ hw224_0)).trans hw224_0), ((HB.out.cell (World.block_lt_of_cell? w _ hw224_1)).trans hw224_1), ((HB.out.cell (World.block_lt_of_cell? w _ hw224_2)).trans hw224_2), ((HB.out.cell (World.block_lt_of_cell? w _ hw224_3)).trans hw224_3), ((HB.out.cell (World.block_lt_of_cell? w _ hw224_4)).trans hw224_4)⟩ (fun hHeld => ?_)
   clear hK K
   refine norm_ (a' := ?_) ?_ ?_
   rotate_left
   · show Act.put _ (some 26) _ = _
     simp only [Act.put, List.setIfInBounds_toArray, List.set_cons_zero, List.set_cons_succ, i64_w, i32_w]
     rfl
   refine pv HT_ 14 (some 5) #[T,T,T,T,T,T,T,T,T,T,T,T,T,T,T] ?_
   refine done_ (done_of HT_.out (by kernel_rfl)) ?_
   obtain ⟨Ao20, co20, eo20⟩ := Kd.R_slice HO_3.out
   subst eo20
   obtain ⟨Ao21, co21, eo21⟩ := Kd.R_slice HO227.out
   subst eo21
   try go_wp2_with (first | ((with_reducible refine gate_callee (f := 66) rfl ?_); refine gc (some 29) (spec_PutTlv.calls k1 _ _ x3_1 48 _ _ qc1_0 qb2_0 _ (cq (Kd.R_reads' HO_3.out).2.2) ((Kd.R_reads' HO_3.out).2.1) (cq (Kd.R_reads' HO227.out).2.2) ((Kd.R_reads' HO227.out).2.1) Qb2.out) Try.func66 ?_; rintro e w22 ⟨v229, rfl, ho0, hb⟩; refine ⟨_, rfl, ?_⟩; have n_ := ak7 (re_ HO_3 ho0 hb) (re_ HO216 ho0 hb) (re_ HO220 ho0 hb) (re_ HO223 ho0 hb) (re_ HO227 ho0 hb) (Kd.R_lower (Kd.R_new' (Kd.R_new' (Kd.R_new' (Kd.R_new' (Kd.R_new' ho0 (Kd.R_lt (kqR HO_3.out))) (Kd.R_lt (kqR HO216.out))) (Kd.R_lt (kqR HO220.out))) (Kd.R_lt (kqR HO223.out))) (Kd.R_lt (kqR HO227.out))) (below_size (bq HB.out))) (below_step (bq HB.out) hb); clear HO_3 HO216 HO220 HO223 HO227 HB; obtain ⟨HO_3, HO216, HO220, HO223, HO227, HO230, HB⟩ := n_; (try clear hb ho0)))
   go_roundg k1
   case measure => have := HK1.out; omega
   case rel => exact ⟨(qb2_0), (wrap64 (x4_1 + 1)), sq, H', ⟨by have := HK1.out; omega⟩, ⟨by refine kr ?_; exact Kd.R_mono HO230.out (fun _ hk => trivial)⟩, ⟨bq HB.out⟩⟩
end Go.Proofs.Ythhnfmbfgplelaa.XFnMsgs
