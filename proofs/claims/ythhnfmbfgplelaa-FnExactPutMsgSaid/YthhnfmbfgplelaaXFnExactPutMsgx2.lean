/- The functions that one law reaches, as Lean functions, with their walks: printed by a program of this seat (wip/tools) out of the translation. -/
import Derived.Test.YthhnfmbfgplelaaXFnExactPutMsgx0
import Derived.Test.YthhnfmbfgplelaaXFnExactPutMsgx1
namespace Go.Proofs.Ythhnfmbfgplelaa.XFnExactPutMsg
open Go.RowKit Go.Proofs.YthhnfmbfgplelaaW.PrintWords Go.Proofs.YthhnfmbfgplelaaW.PrintLast Go.Proofs.YthhnfmbfgplelaaW.PrintMore
attribute [local go_sem] max2_int min2_int max_two min_two max_three min_three max_four min_four   -- for this text's walks alone
set_option linter.unusedVariables false
set_option linter.unusedSimpArgs false

/-! ### laws_toBind: function 129 -/
def laws_toBind.f (k : Nat) (l0_0 : List Int) (a0_1 : Int) (a0_2 : Int) (a0_3 : ByteArray) (l0_4 : List Int) : Option (List Int × Int × Int × ByteArray × List Int) := (laws_toIntS.f k l0_0).bind fun t128 => ((laws_toVal.f k a0_1 a0_2 a0_3 l0_4).bind fun bt131 => (some (t128, bt131.1, bt131.2.1, bt131.2.2.1, bt131.2.2.2)))
theorem laws_toBind.mono : ∀ a0 a1 a2 a3 a4 k, LeO (laws_toBind.f k a0 a1 a2 a3 a4) (laws_toBind.f (k + 1) a0 a1 a2 a3 a4) := by
 intro a0 a1 a2 a3 a4 k
 unfold laws_toBind.f
 repeat' first
  | (with_reducible exact laws_toIntS.mono _ _)
  | (with_reducible exact laws_toVal.mono _ _ _ _ _)
  | (with_reducible exact LeO.refl _)
  | (with_reducible exact LeO.none _)
  | (with_reducible refine LeO.ite ?_ ?_)
  | (with_reducible refine LeO.bind ?_ (fun _ => ?_))
  | exact laws_toIntS.mono _ _
  | exact laws_toVal.mono _ _ _ _ _
  | exact LeO.none _
  | refine LeO.ite ?_ ?_
  | refine LeO.bind ?_ (fun _ => ?_)
set_option maxHeartbeats 8000000 in
set_option maxRecDepth 100000 in
theorem laws_toBind.calls (k : Nat) (A0_0 : Option Addr) (c0_0 : Nat) (l0_0 : List Int) (a0_1 : Int) (a0_2 : Int) (a0_3 : ByteArray) (A0_4 : Option Addr) (c0_4 : Nat) (l0_4 : List Int) (r1 : List Int) (r2 : Int) (r3 : Int) (r4 : ByteArray) (r5 : List Int) (w : World) (hr0_0 : Kd.C (Kd.int .i64) w A0_0 l0_0.length l0_0) (hc0_0 : l0_0.length ≤ c0_0) (hr0_4 : Kd.C (Kd.int .i64) w A0_4 l0_4.length l0_4) (hc0_4 : l0_4.length ≤ c0_4) (h : laws_toBind.f k l0_0 a0_1 a0_2 a0_3 l0_4 = some (r1, r2, r3, r4, r5)) :
 Calls Try.prog 129 #[.agg #[.slice A0_0 l0_0.length c0_0, .int .i64 a0_1, .int .i64 a0_2, .string a0_3, .slice A0_4 l0_4.length c0_4]] w fun e w' => ∃ v0_ v4_ : Value, e = .returned (.agg #[v0_, .int .i64 r2, .int .i64 r3, .string r4, v4_]) ∧ Kd.R (Kd.int .i64) 3 w' w.heap.size (fun k_ => some k_ ≠ (v4_ : Value).ownBlock) v0_ r1 ∧ Kd.R (Kd.int .i64) 3 w' w.heap.size (fun k_ => some k_ ≠ (v0_ : Value).ownBlock) v4_ r5 ∧ Below w.heap.size w w' := by
 have hu140 := Try.underlying140
 have hu116 := Try.underlying116
 have hu25 := Try.underlying25
 have hu29 := Try.underlying29
 have HR0_0 := am hr0_0
 have HC0_0 := am hc0_0
 clear hr0_0 hc0_0
 have HR0_4 := am hr0_4
 have HC0_4 := am hc0_4
 clear hr0_4 hc0_4
 have HB := am (Below.refl w.heap.size w)
 have H : ((laws_toIntS.f k l0_0).bind fun t128 => ((laws_toVal.f k a0_1 a0_2 a0_3 l0_4).bind fun bt131 => (some (t128, bt131.1, bt131.2.1, bt131.2.2.1, bt131.2.2.2)))) = some (r1, r2, r3, r4, r5) := h
 clear h
 replace H := Option.bind_eq_some_iff.mp H
 obtain ⟨t128, A20, H⟩ := H
 replace H : ((laws_toVal.f k a0_1 a0_2 a0_3 l0_4).bind fun bt131 => (some (t128, bt131.1, bt131.2.1, bt131.2.2.1, bt131.2.2.2))) = some (r1, r2, r3, r4, r5) := H
 have A2 := am A20
 clear A20
 replace H := Option.bind_eq_some_iff.mp H
 obtain ⟨⟨t131, t132, t133, t134⟩, A30, H⟩ := H
 replace H : (some (t128, t131, t132, t133, t134)) = some (r1, r2, r3, r4, r5) := H
 have A3 := am A30
 clear A30
 simp only [Option.some.injEq, Prod.mk.injEq] at H
 obtain ⟨rfl, rfl, rfl, rfl, rfl⟩ := H
 go_enter Try.func129, Try.ntmps129
 go_wp2_with (first | ((with_reducible refine gate_dst (N := 1) rfl ?_); refine bxe 1 #[.slice A0_0 l0_0.length c0_0, .int .i64 a0_1, .int .i64 a0_2, .string a0_3, .slice A0_4 l0_4.length c0_4] 140 ?_; intro gb125 hg w4 hbox hb; have n_ := ak4 (below_step (bq HB.out) hb) hbox ((by rw [hg]; exact (below_size (bq HB.out)) : w.heap.size ≤ gb125)) ((by rw [hg]; exact (below_size (bq HB.out)) : w.heap.size ≤ gb125)); clear HB; obtain ⟨HB, BK125, GW125, GE125⟩ := n_; clear hb hbox hg) | ((with_reducible refine gate_dst (N := 2) rfl ?_); refine bxe 2 #[.slice none 0 0, .int .i64 0, .int .i64 0, .string (⟨#[]⟩ : ByteArray), .slice none 0 0] 116 ?_; intro gb126 hg w5 hbox hb; have n_ := ak7 (blk_below (zb BK125.out) hb) (below_step (bq1 HB.out GE125.out) hb) hbox ((by rw [hg]; exact (below_size (bq1 HB.out GE125.out)) : w.heap.size ≤ gb126)) ((by rw [hg]; exact (below_size (bq1 HB.out GE125.out)) : w.heap.size ≤ gb126)) ((nlt hg (zb BK125.out) : gb125 ≠ gb126)) ((ngt hg (zb BK125.out) : gb126 ≠ gb125)); clear BK125 HB; obtain ⟨BK125, HB, BK126, GW126, GE126, NB125_126, NB126_125⟩ := n_; clear hb hbox hg) | ((with_reducible refine gate_dst (N := 3) rfl ?_); refine bxe 3 #[.slice none 0 0, .int .i64 0, .int .i64 0, .string (⟨#[]⟩ : ByteArray), .slice none 0 0] 116 ?_; intro gb127 hg w6 hbox hb; have n_ := ak10 (blk_below (zb BK125.out) hb) (blk_below (zb BK126.out) hb) (below_step (bq2 HB.out GE125.out GE126.out) hb) hbox ((by rw [hg]; exact (below_size (bq2 HB.out GE125.out GE126.out)) : w.heap.size ≤ gb127)) ((by rw [hg]; exact (below_size (bq2 HB.out GE125.out GE126.out)) : w.heap.size ≤ gb127)) ((nlt hg (zb BK125.out) : gb125 ≠ gb127)) ((ngt hg (zb BK125.out) : gb127 ≠ gb125)) ((nlt hg (zb BK126.out) : gb126 ≠ gb127)) ((ngt hg (zb BK126.out) : gb127 ≠ gb126)); clear BK125 BK126 HB; obtain ⟨BK125, BK126, HB, BK127, GW127, GE127, NB125_127, NB127_125, NB126_127, NB127_126⟩ := n_; clear hb hbox hg; have hnb7 := NB125_126.out; have hnc7 := NB126_125.out; have hnb8 := NB125_127.out; have hnc8 := NB127_125.out; obtain ⟨hcz9_0, hcz9_1, hcz9_2, hcz9_3, hcz9_4, hfz9_0, hfz9_1, hfz9_2, hfz9_3, hfz9_4⟩ := cl5 BK125.out) | ((with_reducible refine gate_callee (f := 67) rfl ?_); refine goesL_ (some 6) rfl rfl Try.func67 (by kernel_rfl) rfl #[.slice A0_0 l0_0.length c0_0] rfl ga ?_; (with_reducible refine (laws_toIntS.calls k _ _ l0_0 t128 _ ?side1 ?side2 A2.out).mono ?_); (case side1 => exact cq (Kd.C_below HR0_0.out HB.out)); (case side2 => exact HC0_0.out); rintro e w10 ⟨v129, rfl, ho0, hb⟩; refine ⟨_, rfl, ?_⟩; have n_ := ak5 (Kd.R_lower ho0 (below_size (bq3 HB.out GE125.out GE126.out GE127.out))) (blk_below (zb BK125.out) hb) (blk_below (zb BK126.out) hb) (blk_below (zb BK127.out) hb) (below_step (bq3 HB.out GE125.out GE126.out GE127.out) hb); clear BK125 BK126 BK127 HB; obtain ⟨HO130, BK125, BK126, BK127, HB⟩ := n_; (try clear hb ho0); obtain ⟨Ao11, co11, eo11⟩ := Kd.R_slice HO130.out; subst eo11; have hnb12 := NB127_126.out; have hnc12 := NB126_127.out; obtain ⟨hcz13_0, hcz13_1, hcz13_2, hcz13_3, hcz13_4, hfz13_0, hfz13_1, hfz13_2, hfz13_3, hfz13_4⟩ := cl5 BK127.out; obtain ⟨hcz14_0, hcz14_1, hcz14_2, hcz14_3, hcz14_4, hfz14_0, hfz14_1, hfz14_2, hfz14_3, hfz14_4⟩ := cl5 BK125.out) | ((with_reducible refine gate_callee (f := 16) rfl ?_); refine goesL_ (some 10) rfl rfl Try.func16 (by kernel_rfl) rfl #[.agg #[.int .i64 a0_1, .int .i64 a0_2, .string a0_3, .slice A0_4 l0_4.length c0_4]] rfl ga ?_; (with_reducible refine (laws_toVal.calls k a0_1 a0_2 a0_3 _ _ l0_4 t131 t132 t133 t134 _ ?side1 ?side2 A3.out).mono ?_); (case side1 => exact Kd.C_below HR0_4.out (bq3 HB.out GE125.out GE126.out GE127.out)); (case side2 => exact HC0_4.out); rintro e w15 ⟨v135, rfl, ho0, hb⟩; refine ⟨_, rfl, ?_⟩; have n_ := ak6 (Kd.R_elder' (by refine kr ?_; exact (Kd.R_mono (Kd.R_far (p := ⟨gb127, 0, none⟩) (Kd.R_types HO130.out BK127.out (by decide)) (fun _ hk => hk.2) (.slice Ao11 t128.length co11)) (fun _ h_ => h_.1))) (Kd.R_base ho0) hb) (Kd.R_lower (Kd.R_new' ho0 (Kd.R_lt (by refine kr ?_; exact (Kd.R_mono (Kd.R_far (p := ⟨gb127, 0, none⟩) (Kd.R_types HO130.out BK127.out (by decide)) (fun _ hk => hk.2) (.slice Ao11 t128.length co11)) (fun _ h_ => h_.1))))) (below_size (bq3 HB.out GE125.out GE126.out GE127.out))) (blk_below (g := gb125) (o := .cells #[.slice A0_0 l0_0.length c0_0, .int .i64 a0_1, .int .i64 a0_2, .string a0_3, .slice A0_4 l0_4.length c0_4] 140 (0, 0)) (by refine zr ?_; refine blk_far ?_ NB125_127.out _; refine zr ?_; exact BK125.out) hb) (blk_below (g := gb126) (o := .cells #[.slice none 0 0, .int .i64 0, .int .i64 0, .string (⟨#[]⟩ : ByteArray), .slice none 0 0] 116 (0, 0)) (by refine zr ?_; refine blk_far ?_ NB126_127.out _; refine zr ?_; exact BK126.out) hb) (blk_below (g := gb127) (o := .cells #[.slice Ao11 t128.length co11, .int .i64 0, .int .i64 0, .string (⟨#[]⟩ : ByteArray), .slice none 0 0] 116 (0, 0)) (by refine zr ?_; refine blk_put (cs := #[.slice none 0 0, .int .i64 0, .int .i64 0, .string (⟨#[]⟩ : ByteArray), .slice none 0 0]) ?_ 0 _ rfl; refine zr ?_; exact BK127.out) hb) (below_step (bq3 HB.out GE125.out GE126.out GE127.out) hb); clear HO130 BK125 BK126 BK127 HB; obtain ⟨HO130, HO136, BK125, BK126, BK127, HB⟩ := n_; (try clear hb ho0); obtain ⟨hcz16_0, hcz16_1, hcz16_2, hcz16_3, hcz16_4, hfz16_0, hfz16_1, hfz16_2, hfz16_3, hfz16_4⟩ := cl5 BK127.out; obtain ⟨Ao17, co17, eo17⟩ := Kd.R_slice HO136.out; subst eo17) | ((with_reducible refine gate_store (t := 29) (p := 11) rfl ?_); refine store_event (t := 29) (p := 11) (v := ?vo_w18) (w1 := ((((w15.setCell ⟨gb127, 1, none⟩ (.int .i64 t131)).setCell ⟨gb127, 2, none⟩ (.int .i64 t132)).setCell ⟨gb127, 3, none⟩ (.string t133)).setCell ⟨gb127, 4, none⟩ (.slice Ao17 t134.length co17))) ?hg ?ho ?hn ?hr ?_; (case ho => rfl); (case hg => rfl); (case hn => rfl); (case hr => exact gs); intro w18 hw; have n_ : Aside0 (Kd.R (Kd.int .i64) 3 w18 w.heap.size (fun k_ => some k_ ≠ (.slice Ao17 t134.length co17 : Value).ownBlock) (.slice Ao11 t128.length co11) t128) ∧ Aside0 (Kd.R (Kd.int .i64) 3 w18 w.heap.size (fun k_ => some k_ ≠ (.slice Ao11 t128.length co11 : Value).ownBlock) (.slice Ao17 t134.length co17) t134) ∧ Aside0 (w18.heap[gb125]? = some (.cells #[.slice A0_0 l0_0.length c0_0, .int .i64 a0_1, .int .i64 a0_2, .string a0_3, .slice A0_4 l0_4.length c0_4] 140 (0, 0))) ∧ Aside0 (w18.heap[gb126]? = some (.cells #[.slice none 0 0, .int .i64 0, .int .i64 0, .string (⟨#[]⟩ : ByteArray), .slice none 0 0] 116 (0, 0))) ∧ Aside0 (w18.heap[gb127]? = some (.cells #[.slice Ao11 t128.length co11, .int .i64 t131, .int .i64 t132, .string t133, .slice Ao17 t134.length co17] 116 (0, 0))) ∧ Aside0 (Below w.heap.size w w18) := ⟨⟨(by rw [hw]; exact (by refine kr ?_; exact Kd.R_mono (Kd.R_far (p := ⟨gb127, 4, none⟩) (Kd.R_far (p := ⟨gb127, 3, none⟩) (Kd.R_far (p := ⟨gb127, 2, none⟩) (Kd.R_far (p := ⟨gb127, 1, none⟩) (Kd.R_types HO130.out BK127.out (by decide)) (fun _ hk => hk.2) (.int .i64 t131)) (fun _ hk => hk.2) (.int .i64 t132)) (fun _ hk => hk.2) (.string t133)) (fun _ hk => hk.2) (.slice Ao17 t134.length co17)) (fun _ hk => hk.1.2)))⟩, ⟨(by rw [hw]; exact (by refine kr ?_; exact Kd.R_mono (Kd.R_far (p := ⟨gb127, 4, none⟩) (Kd.R_far (p := ⟨gb127, 3, none⟩) (Kd.R_far (p := ⟨gb127, 2, none⟩) (Kd.R_far (p := ⟨gb127, 1, none⟩) (Kd.R_types HO136.out BK127.out (by decide)) (fun _ hk => hk.2) (.int .i64 t131)) (fun _ hk => hk.2) (.int .i64 t132)) (fun _ hk => hk.2) (.string t133)) (fun _ hk => hk.2) (.slice Ao17 t134.length co17)) (fun _ hk => hk.1.2)))⟩, ⟨(by rw [hw]; exact (by refine zr ?_; refine blk_far ?_ NB125_127.out _; refine zr ?_; refine blk_far ?_ NB125_127.out _; refine zr ?_; refine blk_far ?_ NB125_127.out _; refine zr ?_; refine blk_far ?_ NB125_127.out _; refine zr ?_; exact BK125.out))⟩, ⟨(by rw [hw]; exact (by refine zr ?_; refine blk_far ?_ NB126_127.out _; refine zr ?_; refine blk_far ?_ NB126_127.out _; refine zr ?_; refine blk_far ?_ NB126_127.out _; refine zr ?_; refine blk_far ?_ NB126_127.out _; refine zr ?_; exact BK126.out))⟩, ⟨(by rw [hw]; exact (by refine zr ?_; refine blk_put (cs := #[.slice Ao11 t128.length co11, .int .i64 t131, .int .i64 t132, .string t133, .slice none 0 0]) ?_ 4 _ rfl; refine zr ?_; refine blk_put (cs := #[.slice Ao11 t128.length co11, .int .i64 t131, .int .i64 t132, .string (⟨#[]⟩ : ByteArray), .slice none 0 0]) ?_ 3 _ rfl; refine zr ?_; refine blk_put (cs := #[.slice Ao11 t128.length co11, .int .i64 t131, .int .i64 0, .string (⟨#[]⟩ : ByteArray), .slice none 0 0]) ?_ 2 _ rfl; refine zr ?_; refine blk_put (cs := #[.slice Ao11 t128.length co11, .int .i64 0, .int .i64 0, .string (⟨#[]⟩ : ByteArray), .slice none 0 0]) ?_ 1 _ rfl; refine zr ?_; exact BK127.out))⟩, ⟨(by rw [hw]; exact (bq3 HB.out GE125.out GE126.out GE127.out))⟩⟩; clear hw HO130 HO136 BK125 BK126 BK127 HB; obtain ⟨HO130, HO136, BK125, BK126, BK127, HB⟩ := n_; obtain ⟨hcz19_0, hcz19_1, hcz19_2, hcz19_3, hcz19_4, hfz19_0, hfz19_1, hfz19_2, hfz19_3, hfz19_4⟩ := cl5 BK127.out; obtain ⟨hcz20_0, hcz20_1, hcz20_2, hcz20_3, hcz20_4, hfz20_0, hfz20_1, hfz20_2, hfz20_3, hfz20_4⟩ := cl5 BK126.out) | ((with_reducible refine gate_store (t := 116) (p := 2) rfl ?_); refine store_event (t := 116) (p := 2) (v := ?vo_w21) (w1 := (((((w18.setCell ⟨gb126, 0, none⟩ (.slice Ao11 t128.length co11)).setCell ⟨gb126, 1, none⟩ (.int .i64 t131)).setCell ⟨gb126, 2, none⟩ (.int .i64 t132)).setCell ⟨gb126, 3, none⟩ (.string t133)).setCell ⟨gb126, 4, none⟩ (.slice Ao17 t134.length co17))) ?hg ?ho ?hn ?hr ?_; (case ho => rfl); (case hg => rfl); (case hn => rfl); (case hr => exact gs); intro w21 hw; have n_ : Aside0 (Kd.R (Kd.int .i64) 3 w21 w.heap.size (fun k_ => some k_ ≠ (.slice Ao17 t134.length co17 : Value).ownBlock) (.slice Ao11 t128.length co11) t128) ∧ Aside0 (Kd.R (Kd.int .i64) 3 w21 w.heap.size (fun k_ => some k_ ≠ (.slice Ao11 t128.length co11 : Value).ownBlock) (.slice Ao17 t134.length co17) t134) ∧ Aside0 (w21.heap[gb125]? = some (.cells #[.slice A0_0 l0_0.length c0_0, .int .i64 a0_1, .int .i64 a0_2, .string a0_3, .slice A0_4 l0_4.length c0_4] 140 (0, 0))) ∧ Aside0 (w21.heap[gb126]? = some (.cells #[.slice Ao11 t128.length co11, .int .i64 t131, .int .i64 t132, .string t133, .slice Ao17 t134.length co17] 116 (0, 0))) ∧ Aside0 (w21.heap[gb127]? = some (.cells #[.slice Ao11 t128.length co11, .int .i64 t131, .int .i64 t132, .string t133, .slice Ao17 t134.length co17] 116 (0, 0))) ∧ Aside0 (Below w.heap.size w w21) := ⟨⟨(by rw [hw]; exact (by refine kr ?_; exact Kd.R_mono (rf5 gb126 (.slice Ao11 t128.length co11) (.int .i64 t131) (.int .i64 t132) (.string t133) (.slice Ao17 t134.length co17) (Kd.R_types HO130.out BK126.out (by decide)) (fun _ hk => hk.2)) (fun _ hk => hk.1)))⟩, ⟨(by rw [hw]; exact (by refine kr ?_; exact Kd.R_mono (rf5 gb126 (.slice Ao11 t128.length co11) (.int .i64 t131) (.int .i64 t132) (.string t133) (.slice Ao17 t134.length co17) (Kd.R_types HO136.out BK126.out (by decide)) (fun _ hk => hk.2)) (fun _ hk => hk.1)))⟩, ⟨(by rw [hw]; exact (by refine zr ?_; refine blk_far ?_ NB125_126.out _; refine zr ?_; refine blk_far ?_ NB125_126.out _; refine zr ?_; refine blk_far ?_ NB125_126.out _; refine zr ?_; refine blk_far ?_ NB125_126.out _; refine zr ?_; refine blk_far ?_ NB125_126.out _; refine zr ?_; exact BK125.out))⟩, ⟨(by rw [hw]; exact (by refine zr ?_; exact bp5 (zb BK126.out)))⟩, ⟨(by rw [hw]; exact (by refine zr ?_; refine blk_far ?_ NB127_126.out _; refine zr ?_; refine blk_far ?_ NB127_126.out _; refine zr ?_; refine blk_far ?_ NB127_126.out _; refine zr ?_; refine blk_far ?_ NB127_126.out _; refine zr ?_; refine blk_far ?_ NB127_126.out _; refine zr ?_; exact BK127.out))⟩, ⟨(by rw [hw]; exact (bq3 HB.out GE125.out GE126.out GE127.out))⟩⟩; clear hw HO130 HO136 BK125 BK126 BK127 HB; obtain ⟨HO130, HO136, BK125, BK126, BK127, HB⟩ := n_))
 refine bodyPost_ret (results_cell_row rfl _ _ gb126 116 #[.slice Ao11 t128.length co11, .int .i64 t131, .int .i64 t132, .string t133, .slice Ao17 t134.length co17] (0, 0) _ rfl (zq BK126.out) Try.underlying116 rfl (by kernel_rfl)) rfl ?_
 exact ⟨_, _, rq, kqR HO130.out, kqR HO136.out, bq3 HB.out GE125.out GE126.out GE127.out⟩

/-! ### laws_toBindS: function 98 -/
def laws_toBindS.l0 : Nat → List (S140) → List (S116) → Int → Option ((List (S116)))
 | 0, _, _, _ => none
 | k + 1, x0, x3, x4 => if x4 < (x0.length : Int) then (if 0 ≤ x4 then ((laws_toBind.f k ((rd_T140 x0 x4).f0) ((rd_T140 x0 x4).f1.f0) ((rd_T140 x0 x4).f1.f1) ((rd_T140 x0 x4).f1.f2) ((rd_T140 x0 x4).f1.f3)).bind fun bt141 => (if x4 < (x3.length : Int) then (laws_toBindS.l0 k x0 (x3.set (x4 : Int).toNat (⟨bt141.1, (⟨bt141.2.1, bt141.2.2.1, bt141.2.2.2.1, bt141.2.2.2.2⟩ : S29)⟩ : S116)) (wrap64 (x4 + 1))) else (none))) else (none)) else (some x3)
def laws_toBindS.f (k : Nat) (l0 : List (S140)) : Option ((List (S116))) := if 0 ≤ (l0.length : Int) then (if ((l0.length : Int) : Int).toNat ≤ 3518437208883 then (laws_toBindS.l0 k l0 (List.replicate ((l0.length : Int) : Int).toNat z116) 0) else (none)) else (none)
theorem laws_toBindS.mono_l : ∀ k, (∀ y0 y1 y2, LeO (laws_toBindS.l0 k y0 y1 y2) (laws_toBindS.l0 (k + 1) y0 y1 y2))
 | 0 => fun _ _ _ r h => by simp [laws_toBindS.l0] at h
 | k + 1 => by
  have ih0 := laws_toBindS.mono_l k
  intro y0 y1 y2
  unfold laws_toBindS.l0
  repeat' first
  | (with_reducible exact ih0 _ _ _)
  | (with_reducible exact laws_toBind.mono _ _ _ _ _ _)
  | (with_reducible exact LeO.refl _)
  | (with_reducible exact LeO.none _)
  | (with_reducible refine LeO.ite ?_ ?_)
  | (with_reducible refine LeO.bind ?_ (fun _ => ?_))
  | exact ih0 _ _ _
  | exact laws_toBind.mono _ _ _ _ _ _
  | exact LeO.none _
  | refine LeO.ite ?_ ?_
  | refine LeO.bind ?_ (fun _ => ?_)
theorem laws_toBindS.mono : ∀ a0 k, LeO (laws_toBindS.f k a0) (laws_toBindS.f (k + 1) a0) := by
 intro a0 k
 have ih0 := laws_toBindS.mono_l k
 unfold laws_toBindS.f
 repeat' first
  | (with_reducible exact ih0 _ _ _)
  | (with_reducible exact laws_toBind.mono _ _ _ _ _ _)
  | (with_reducible exact LeO.refl _)
  | (with_reducible exact LeO.none _)
  | (with_reducible refine LeO.ite ?_ ?_)
  | (with_reducible refine LeO.bind ?_ (fun _ => ?_))
  | exact ih0 _ _ _
  | exact laws_toBind.mono _ _ _ _ _ _
  | exact LeO.none _
  | refine LeO.ite ?_ ?_
  | refine LeO.bind ?_ (fun _ => ?_)
set_option maxHeartbeats 8000000 in
set_option maxRecDepth 100000 in
theorem laws_toBindS.calls (k : Nat) (A0 : Option Addr) (c0 : Nat) (l0 : List (S140)) (r : List (S116)) (w : World) (hr0 : Kd.C k140 w A0 l0.length l0) (hc0 : l0.length ≤ c0) (h : laws_toBindS.f k l0 = some r) :
 Calls Try.prog 98 #[.slice A0 l0.length c0] w fun e w' => ∃ v0_ : Value, e = .returned (v0_) ∧ Kd.S k116 116 w' w.heap.size (fun _ => True) v0_ r ∧ Below w.heap.size w w' := by
 have hu140 := Try.underlying140
 have hu116 := Try.underlying116
 have HR0 := am hr0
 have HC0 := am hc0
 clear hr0 hc0
 have HB := am (Below.refl w.heap.size w)
 have H : (if 0 ≤ (l0.length : Int) then (if ((l0.length : Int) : Int).toNat ≤ 3518437208883 then (laws_toBindS.l0 k l0 (List.replicate ((l0.length : Int) : Int).toNat z116) 0) else (none)) else (none)) = some r := h
 clear h
 by_cases c2 : 0 ≤ (l0.length : Int)
 rotate_left
 · rw [if_neg c2] at H
   exact absurd H (by simp)
 rw [if_pos c2] at H
 have c2b0 := eq_true c2
 have c2b1 : decide (0 ≤ (l0.length : Int)) = true := decide_eq_true c2
 clear c2
 by_cases c3 : ((l0.length : Int) : Int).toNat ≤ 3518437208883
 rotate_left
 · rw [if_neg c3] at H
   exact absurd H (by simp)
 rw [if_pos c3] at H
 have c3b0 := eq_true c3
 have c3b1 : decide (((l0.length : Int) : Int).toNat ≤ 3518437208883) = true := decide_eq_true c3
 clear c3
 obtain ⟨y137, hy137⟩ : ∃ y_ : List (S116), y_ = (List.replicate ((l0.length : Int) : Int).toNat z116) := ⟨_, rfl⟩
 replace H : (laws_toBindS.l0 k l0 y137 0) = some r := hx H hy137
 have Ny137 := am hy137
 clear hy137
 have H' := am H
 clear H
 go_enter Try.func98, Try.ntmps98
 go_wp2_with (first | ((with_reducible refine gate_dst (N := 7) rfl ?_); refine Kd.S_make k116 _ 116 rfl (N := 7) rfl 56 _ _ rfl (l0.length : Int) rfl rfl Try.underlying56 (.agg #[(.slice none 0 0), (.int .i64 0), (.int .i64 0), (.string ⟨#[]⟩), (.slice none 0 0)]) 80 info116 rfl (by decide) (by omega) z116 (ok := fun _ => True) (okp := fun _ => True) (k116_mkM _ _ _ z116 (Kd.R_nil _ _ _ _ _) (Kd.R_nil _ _ _ _ _)) (fun _ hk => hk) trivial (oda) (Nat.le_trans (Nat.mul_le_mul_right _ (oda : (l0.length : Int).toNat ≤ 3518437208883)) (by omega)) (Below.refl _ _) (Nat.le_refl _) ?_; intro v138 w4 ho5 hb hg_ hnew_; clear hg_ hnew_; (first | rw [← Ny137.out] at ho5 | (simp only [Int.reduceToNat] at ho5; rw [← Ny137.out] at ho5)); have n_ := ak2 (Kd.S_lower ho5 (below_size (bq HB.out))) (below_step (bq HB.out) hb); clear HB; obtain ⟨HO139, HB⟩ := n_; clear hb ho5))
 go_loopg [4] k (fun kq v4 w' => ∃ (x3_1 : List (S116)) (x4_1 : Int), v4 = .int .i64 x4_1 ∧ Aside0 (laws_toBindS.l0 kq l0 x3_1 x4_1 = some r) ∧ Aside0 (kq ≤ k) ∧ Aside0 (Kd.S k116 116 w' w.heap.size (fun _ => True) v138 x3_1) ∧ Aside0 (Below w.heap.size w w'))
 case atStart => exact ⟨(y137), (0), sq, H', ⟨Nat.le_refl _⟩, ⟨kqS HO139.out⟩, ⟨bq HB.out⟩⟩
 case round =>
  clear H'
  try clear c2
  try clear c2b0
  try clear c2b1
  try clear p2
  try clear c3
  try clear c3b0
  try clear c3b1
  obtain ⟨x3_1, x4_1, rfl, HA, HK1, HO_3, HB⟩ := hrel
  cases gk with
  | zero => exact absurd HA.out (by simp [laws_toBindS.l0])
  | succ k1 =>
   have H := HA.out
   clear HA
   simp only [laws_toBindS.l0] at H
   by_cases c6 : x4_1 < (l0.length : Int)
   rotate_left
   · rw [if_neg c6] at H
     have c6b0 : decide (x4_1 < (l0.length : Int)) = false := decide_eq_false c6
     clear c6
     obtain rfl := Option.some.inj H
     go_wp2
     go_ret
     exact ⟨_, rq, kqS HO_3.out, bq HB.out⟩
   rw [if_pos c6] at H
   have c6b0 : decide (x4_1 < (l0.length : Int)) = true := decide_eq_true c6
   clear c6
   by_cases c7 : 0 ≤ x4_1
   rotate_left
   · rw [if_neg c7] at H
     exact absurd H (by simp)
   rw [if_pos c7] at H
   have c7b0 : decide (0 ≤ x4_1) = true := decide_eq_true c7
   clear c7
   replace H := Option.bind_eq_some_iff.mp H
   obtain ⟨⟨t141, t144, t145, t146, t147⟩, A80, H⟩ := H
   replace H : (if x4_1 < (x3_1.length : Int) then (laws_toBindS.l0 k1 l0 (x3_1.set (x4_1 : Int).toNat (⟨t141, (⟨t144, t145, t146, t147⟩ : S29)⟩ : S116)) (wrap64 (x4_1 + 1))) else (none)) = some r := H
   have A8 := am A80
   clear A80
   by_cases c9 : x4_1 < (x3_1.length : Int)
   rotate_left
   · rw [if_neg c9] at H
     exact absurd H (by simp)
   rw [if_pos c9] at H
   have c9b0 : decide (x4_1 < (x3_1.length : Int)) = true := decide_eq_true c9
   clear c9
   obtain ⟨y150, hy150⟩ : ∃ y_ : List (S116), y_ = (x3_1.set (x4_1 : Int).toNat (⟨t141, (⟨t144, t145, t146, t147⟩ : S29)⟩ : S116)) := ⟨_, rfl⟩
   replace H : (laws_toBindS.l0 k1 l0 y150 (wrap64 (x4_1 + 1))) = some r := hx H hy150
   have Ny150 := am hy150
   clear hy150
   have H' := am H
   clear H
   have p140 : 0 ≤ (x4_1 : Int) := oda
   have q140 : x4_1 < (l0.length : Int) := oda
   obtain ⟨ad140, A140_0, c140_0, A140_4, c140_4, e140, hx140_0, hx140_1, hx140_2, hx140_3, hx140_4, hl140_0, hi140_0, hl140_4, hi140_4⟩ := at_T140 HR0.out x4_1 p140 q140
   cases e140
   replace hx140_0 := (HB.out.cell (World.block_lt_of_cell? w _ hx140_0)).trans hx140_0
   replace hx140_1 := (HB.out.cell (World.block_lt_of_cell? w _ hx140_1)).trans hx140_1
   replace hx140_2 := (HB.out.cell (World.block_lt_of_cell? w _ hx140_2)).trans hx140_2
   replace hx140_3 := (HB.out.cell (World.block_lt_of_cell? w _ hx140_3)).trans hx140_3
   replace hx140_4 := (HB.out.cell (World.block_lt_of_cell? w _ hx140_4)).trans hx140_4
   have HR140_0 := am hi140_0
   have HC140_0 := am hl140_0
   clear hi140_0 hl140_0
   have HR140_4 := am hi140_4
   have HC140_4 := am hl140_4
   clear hi140_4 hl140_4
   replace p140 := eq_true p140
   replace q140 := eq_true q140
   go_wp2_with (first | ((with_reducible refine gate_callee (f := 129) rfl ?_); refine goesL_ (some 20) rfl rfl Try.func129 (by kernel_rfl) rfl #[.agg #[.slice A140_0 ((rd_T140 l0 x4_1).f0).length c140_0, .int .i64 ((rd_T140 l0 x4_1).f1.f0), .int .i64 ((rd_T140 l0 x4_1).f1.f1), .string ((rd_T140 l0 x4_1).f1.f2), .slice A140_4 ((rd_T140 l0 x4_1).f1.f3).length c140_4]] rfl ga ?_; (with_reducible refine (laws_toBind.calls k1 _ _ ((rd_T140 l0 x4_1).f0) ((rd_T140 l0 x4_1).f1.f0) ((rd_T140 l0 x4_1).f1.f1) ((rd_T140 l0 x4_1).f1.f2) _ _ ((rd_T140 l0 x4_1).f1.f3) t141 t144 t145 t146 t147 _ ?side1 ?side2 ?side3 ?side4 A8.out).mono ?_); (case side1 => exact cq (Kd.C_below HR140_0.out HB.out)); (case side2 => exact HC140_0.out); (case side3 => exact cq (Kd.C_below HR140_4.out HB.out)); (case side4 => exact HC140_4.out); rintro e w11 ⟨v142, v148, rfl, ho0, ho1, hb⟩; refine ⟨_, rfl, ?_⟩; have n_ := ak4 (Kd.S_mono (Kd.S_told (Kd.S_told (Kd.S_old (kqS HO_3.out) hb) (Kd.R_base ho0)) (Kd.R_base ho1)) (fun _ h_ => h_.1)) (Kd.R_lower ho0 (below_size (bq HB.out))) (Kd.R_lower ho1 (below_size (bq HB.out))) (below_step (bq HB.out) hb); clear HO_3 HB; obtain ⟨HO_3, HO143, HO149, HB⟩ := n_; (try clear hb ho0 ho1); have p10 : 0 ≤ (x4_1 : Int) := oda; have q10 : (x4_1 : Int) < ((x3_1.length : Int) : Int) := oda; obtain ⟨go10, co10, eo10, gb10, gl10, cl10, HG10⟩ := Kd.S_form HO_3.out (by omega); (first | cases eo10 | (injection eo10 with ea_ en_ ec_; (first | subst ea_ | (injection ea_ with ea_; subst ea_)); subst ec_; clear en_)); have GB10 := am gb10; have GG10 := am HG10; clear gb10 gl10 HG10; obtain ⟨_, ce10, hcl10, hM10, hcc10, hfr10, _, _⟩ := Kd.S_elem HO_3.out z116 (x4_1 : Int) p10 q10; obtain ⟨ve10_0, ve10_4, rfl, ge10_0, ge10_4⟩ := k116_openM hM10; have hx10_0 : w11.cell? ⟨go10, (x4_1 : Int).toNat * 5, none⟩ = some (ve10_0) := hcc10 0 _ rfl; have hx10_1 : w11.cell? ⟨go10, (x4_1 : Int).toNat * 5 + 1, none⟩ = some (.int .i64 ((rd_T116 x3_1 x4_1).f1.f0)) := hcc10 1 _ rfl; have hx10_2 : w11.cell? ⟨go10, (x4_1 : Int).toNat * 5 + 2, none⟩ = some (.int .i64 ((rd_T116 x3_1 x4_1).f1.f1)) := hcc10 2 _ rfl; have hx10_3 : w11.cell? ⟨go10, (x4_1 : Int).toNat * 5 + 3, none⟩ = some (.string ((rd_T116 x3_1 x4_1).f1.f2)) := hcc10 3 _ rfl; have hx10_4 : w11.cell? ⟨go10, (x4_1 : Int).toNat * 5 + 4, none⟩ = some (ve10_4) := hcc10 4 _ rfl; have hf10_0 : w11.frozen? ⟨go10, (x4_1 : Int).toNat * 5, none⟩ = false := hfr10 0; have hf10_1 : w11.frozen? ⟨go10, (x4_1 : Int).toNat * 5 + 1, none⟩ = false := hfr10 1; have hf10_2 : w11.frozen? ⟨go10, (x4_1 : Int).toNat * 5 + 2, none⟩ = false := hfr10 2; have hf10_3 : w11.frozen? ⟨go10, (x4_1 : Int).toNat * 5 + 3, none⟩ = false := hfr10 3; have hf10_4 : w11.frozen? ⟨go10, (x4_1 : Int).toNat * 5 + 4, none⟩ = false := hfr10 4; clear hcl10 hcc10 hfr10 hM10; replace p10 := eq_true p10; replace q10 := eq_true q10; have n_ := am (Kd.S_mono (ok' := (fun k_ => some k_ ≠ (v142 : Value).ownBlock ∧ some k_ ≠ (v148 : Value).ownBlock)) HO_3.out (fun k_ hk => ⟨hk.1.2, hk.2⟩)); clear HO_3; have HO_3 := n_; clear n_; have HX12 := am (show Kd.S k116 116 w11 w.heap.size (fun k_ => ((fun _ => True)) k_ ∧ ¬ ((fun k_ => some k_ = (v142 : Value).ownBlock ∨ some k_ = (v148 : Value).ownBlock)) k_) (.slice (some ⟨go10, 0, none⟩) x3_1.length co10) x3_1 from (by (with_reducible repeat (first | apply Kd.S_alloc | apply Kd.S_drewN | apply Kd.S_drew)); exact Kd.S_mono HO_3.out (fun k_ hk => ⟨trivial, fun e_ => e_.elim (fun h_ => hk.1 h_) (fun h_ => hk.2 h_)⟩))); obtain ⟨oki12, ce12, hcl12, hM12, hcc12, hfr12, hoki12, hH12⟩ := Kd.S_elem HX12.out z116 (x4_1 : Int) (oda) (by have h_ : (x4_1 : Int) < ((x3_1.length : Int) : Int) := oda; first | exact h_ | (have e_ := (Kd.S_reads' HO_3.out).1; omega) | simpa using h_); obtain ⟨ve12_0, ve12_4, rfl, ge12_0, ge12_4⟩ := k116_openM hM12; have HP12 := Kd.S_seg hH12 (oda) (by have h_ : (x4_1 : Int) < ((x3_1.length : Int) : Int) := oda; first | exact h_ | (have e_ := (Kd.S_reads' HO_3.out).1; omega) | simpa using h_) (seg := [v142, .int .i64 t144, .int .i64 t145, .string t146, v148]) (j := 0) (show 5 ≤ 5 from by decide) (x' := (⟨t141, (⟨t144, t145, t146, t147⟩ : S29)⟩ : S116)) (k116_mkM _ _ _ (⟨t141, (⟨t144, t145, t146, t147⟩ : S29)⟩ : S116) (Kd.R_mono (Kd.R_tight rfl (Kd.R_mono (ok' := fun k_ => ((fun _ => True)) k_ ∧ k_ ≠ go10) (Kd.R_apart' (HO143.out) (Kd.S_typed HO_3.out) (by decide)) (fun k_ hk => ⟨trivial, fun e_ => (hk.2) (by rw [e_]; rfl)⟩))) (fun _ h_ => Or.inr (Or.inl h_))) (Kd.R_mono (Kd.R_tight rfl (Kd.R_mono (ok' := fun k_ => ((fun _ => True)) k_ ∧ k_ ≠ go10) (Kd.R_apart' (HO149.out) (Kd.S_typed HO_3.out) (by decide)) (fun k_ hk => ⟨trivial, fun e_ => (hk.2) (by rw [e_]; rfl)⟩))) (fun _ h_ => Or.inr (Or.inr (h_))))) (fun _ hk => hk) (fun k_ hk_ => hk_.elim (fun h_ => ((Kd.R_mono (ok' := fun k_ => ((fun _ => True)) k_ ∧ k_ ≠ go10) (Kd.R_apart' (HO143.out) (Kd.S_typed HO_3.out) (by decide)) (fun k_ hk => ⟨trivial, fun e_ => (hk.2) (by rw [e_]; rfl)⟩))).1 k_ h_.symm) (fun h_ => ((Kd.R_mono (ok' := fun k_ => ((fun _ => True)) k_ ∧ k_ ≠ go10) (Kd.R_apart' (HO149.out) (Kd.S_typed HO_3.out) (by decide)) (fun k_ hk => ⟨trivial, fun e_ => (hk.2) (by rw [e_]; rfl)⟩))).1 k_ h_.symm)); have hx12_0 := hcc12 0 _ rfl; (try simp only [show (k116).sz = 5 from rfl, Nat.mul_one, Nat.add_zero] at hx12_0); have hf12_0 := hfr12 0; (try simp only [show (k116).sz = 5 from rfl, Nat.mul_one, Nat.add_zero] at hf12_0); have hx12_1 := hcc12 1 _ rfl; (try simp only [show (k116).sz = 5 from rfl, Nat.mul_one, Nat.add_zero] at hx12_1); have hf12_1 := hfr12 1; (try simp only [show (k116).sz = 5 from rfl, Nat.mul_one, Nat.add_zero] at hf12_1); have hx12_2 := hcc12 2 _ rfl; (try simp only [show (k116).sz = 5 from rfl, Nat.mul_one, Nat.add_zero] at hx12_2); have hf12_2 := hfr12 2; (try simp only [show (k116).sz = 5 from rfl, Nat.mul_one, Nat.add_zero] at hf12_2); have hx12_3 := hcc12 3 _ rfl; (try simp only [show (k116).sz = 5 from rfl, Nat.mul_one, Nat.add_zero] at hx12_3); have hf12_3 := hfr12 3; (try simp only [show (k116).sz = 5 from rfl, Nat.mul_one, Nat.add_zero] at hf12_3); have hx12_4 := hcc12 4 _ rfl; (try simp only [show (k116).sz = 5 from rfl, Nat.mul_one, Nat.add_zero] at hx12_4); have hf12_4 := hfr12 4; (try simp only [show (k116).sz = 5 from rfl, Nat.mul_one, Nat.add_zero] at hf12_4); clear hcl12 hcc12 hfr12 hM12 hoki12 hH12) | ((with_reducible refine gate_store (t := 116) (p := 21) rfl ?_); refine store_event (t := 116) (p := 21) (v := ?vo_w13) (w1 := (((((w11.setCell ⟨go10, (x4_1 : Int).toNat * 5, none⟩ (v142)).setCell ⟨go10, (x4_1 : Int).toNat * 5 + 1, none⟩ (.int .i64 t144)).setCell ⟨go10, (x4_1 : Int).toNat * 5 + 2, none⟩ (.int .i64 t145)).setCell ⟨go10, (x4_1 : Int).toNat * 5 + 3, none⟩ (.string t146)).setCell ⟨go10, (x4_1 : Int).toNat * 5 + 4, none⟩ (v148))) ?hg ?ho ?hn ?hr ?_; (case ho => rfl); (case hg => rfl); (case hn => rfl); (case hr => obtain ⟨_, _, ev0_⟩ := Kd.R_slice HO143.out; subst ev0_; obtain ⟨_, _, ev4_⟩ := Kd.R_slice HO149.out; subst ev4_; first | (go_simp; done) | (go_simp; rfl)); intro w13 hw; have hg : w11.grownBy w13 (some go10) := (by rw [hw]; exact HP12.2); have hp_ : Kd.S k116 116 w13 w.heap.size (fun _ => True) (.slice (some ⟨go10, 0, none⟩) x3_1.length co10) y150 := (by rw [hw, Ny150.out]; exact HP12.1); clear HP12; have n_ := ak2 hp_ ((by rw [hw]; exact below_set (below_set (below_set (below_set (below_set (HB.out) GB10.out) GB10.out) GB10.out) GB10.out) GB10.out : Below w.heap.size w w13)); clear HO_3 HB HO143 HO149; obtain ⟨HO_3, HB⟩ := n_; clear hg hw hp_))
   go_roundg k1
   case measure => have := HK1.out; omega
   case rel => exact ⟨(y150), (wrap64 (x4_1 + 1)), sq, H', ⟨by have := HK1.out; omega⟩, ⟨kqS HO_3.out⟩, ⟨bq HB.out⟩⟩

/-! ### laws_toPdu: function 40 -/
def laws_toPdu.f (k : Nat) (a0_0 : Int) (a0_1 : Int) (a0_2 : Int) (a0_3 : Int) (l0_4 : List (S140)) : Option (Int × Int × Int × Int × (List (S116))) := (laws_toBindS.f k l0_4).bind fun t154 => (some (a0_0, a0_1, a0_2, a0_3, t154))
theorem laws_toPdu.mono : ∀ a0 a1 a2 a3 a4 k, LeO (laws_toPdu.f k a0 a1 a2 a3 a4) (laws_toPdu.f (k + 1) a0 a1 a2 a3 a4) := by
 intro a0 a1 a2 a3 a4 k
 unfold laws_toPdu.f
 repeat' first
  | (with_reducible exact laws_toBindS.mono _ _)
  | (with_reducible exact LeO.refl _)
  | (with_reducible exact LeO.none _)
  | (with_reducible refine LeO.ite ?_ ?_)
  | (with_reducible refine LeO.bind ?_ (fun _ => ?_))
  | exact laws_toBindS.mono _ _
  | exact LeO.none _
  | refine LeO.ite ?_ ?_
  | refine LeO.bind ?_ (fun _ => ?_)
set_option maxHeartbeats 8000000 in
set_option maxRecDepth 100000 in
theorem laws_toPdu.calls (k : Nat) (a0_0 : Int) (a0_1 : Int) (a0_2 : Int) (a0_3 : Int) (A0_4 : Option Addr) (c0_4 : Nat) (l0_4 : List (S140)) (r1 : Int) (r2 : Int) (r3 : Int) (r4 : Int) (r5 : List (S116)) (w : World) (hr0_4 : Kd.C k140 w A0_4 l0_4.length l0_4) (hc0_4 : l0_4.length ≤ c0_4) (h : laws_toPdu.f k a0_0 a0_1 a0_2 a0_3 l0_4 = some (r1, r2, r3, r4, r5)) :
 Calls Try.prog 40 #[.agg #[.int .i64 a0_0, .int .i64 a0_1, .int .i64 a0_2, .int .i64 a0_3, .slice A0_4 l0_4.length c0_4]] w fun e w' => ∃ v4_ : Value, e = .returned (.agg #[.int .i64 r1, .int .i64 r2, .int .i64 r3, .int .i64 r4, v4_]) ∧ Kd.S k116 116 w' w.heap.size (fun _ => True) v4_ r5 ∧ Below w.heap.size w w' := by
 have hu53 := Try.underlying53
 have hu58 := Try.underlying58
 have HR0_4 := am hr0_4
 have HC0_4 := am hc0_4
 clear hr0_4 hc0_4
 have HB := am (Below.refl w.heap.size w)
 have H : ((laws_toBindS.f k l0_4).bind fun t154 => (some (a0_0, a0_1, a0_2, a0_3, t154))) = some (r1, r2, r3, r4, r5) := h
 clear h
 replace H := Option.bind_eq_some_iff.mp H
 obtain ⟨t154, A20, H⟩ := H
 replace H : (some (a0_0, a0_1, a0_2, a0_3, t154)) = some (r1, r2, r3, r4, r5) := H
 have A2 := am A20
 clear A20
 simp only [Option.some.injEq, Prod.mk.injEq] at H
 obtain ⟨rfl, rfl, rfl, rfl, rfl⟩ := H
 go_enter Try.func40, Try.ntmps40
 go_wp2_with (first | ((with_reducible refine gate_dst (N := 1) rfl ?_); refine bxe 1 #[.int .i64 a0_0, .int .i64 a0_1, .int .i64 a0_2, .int .i64 a0_3, .slice A0_4 l0_4.length c0_4] 53 ?_; intro gb151 hg w3 hbox hb; have n_ := ak4 (below_step (bq HB.out) hb) hbox ((by rw [hg]; exact (below_size (bq HB.out)) : w.heap.size ≤ gb151)) ((by rw [hg]; exact (below_size (bq HB.out)) : w.heap.size ≤ gb151)); clear HB; obtain ⟨HB, BK151, GW151, GE151⟩ := n_; clear hb hbox hg) | ((with_reducible refine gate_dst (N := 2) rfl ?_); refine bxe 2 #[.int .i64 0, .int .i64 0, .int .i64 0, .int .i64 0, .slice none 0 0] 58 ?_; intro gb152 hg w4 hbox hb; have n_ := ak7 (blk_below (zb BK151.out) hb) (below_step (bq1 HB.out GE151.out) hb) hbox ((by rw [hg]; exact (below_size (bq1 HB.out GE151.out)) : w.heap.size ≤ gb152)) ((by rw [hg]; exact (below_size (bq1 HB.out GE151.out)) : w.heap.size ≤ gb152)) ((nlt hg (zb BK151.out) : gb151 ≠ gb152)) ((ngt hg (zb BK151.out) : gb152 ≠ gb151)); clear BK151 HB; obtain ⟨BK151, HB, BK152, GW152, GE152, NB151_152, NB152_151⟩ := n_; clear hb hbox hg) | ((with_reducible refine gate_dst (N := 3) rfl ?_); refine bxe 3 #[.int .i64 0, .int .i64 0, .int .i64 0, .int .i64 0, .slice none 0 0] 58 ?_; intro gb153 hg w5 hbox hb; have n_ := ak10 (blk_below (zb BK151.out) hb) (blk_below (zb BK152.out) hb) (below_step (bq2 HB.out GE151.out GE152.out) hb) hbox ((by rw [hg]; exact (below_size (bq2 HB.out GE151.out GE152.out)) : w.heap.size ≤ gb153)) ((by rw [hg]; exact (below_size (bq2 HB.out GE151.out GE152.out)) : w.heap.size ≤ gb153)) ((nlt hg (zb BK151.out) : gb151 ≠ gb153)) ((ngt hg (zb BK151.out) : gb153 ≠ gb151)) ((nlt hg (zb BK152.out) : gb152 ≠ gb153)) ((ngt hg (zb BK152.out) : gb153 ≠ gb152)); clear BK151 BK152 HB; obtain ⟨BK151, BK152, HB, BK153, GW153, GE153, NB151_153, NB153_151, NB152_153, NB153_152⟩ := n_; clear hb hbox hg; have hnb6 := NB151_152.out; have hnc6 := NB152_151.out; have hnb7 := NB151_153.out; have hnc7 := NB153_151.out; obtain ⟨hcz8_0, hcz8_1, hcz8_2, hcz8_3, hcz8_4, hfz8_0, hfz8_1, hfz8_2, hfz8_3, hfz8_4⟩ := cl5 BK151.out; have hnb9 := NB153_152.out; have hnc9 := NB152_153.out; obtain ⟨hcz10_0, hcz10_1, hcz10_2, hcz10_3, hcz10_4, hfz10_0, hfz10_1, hfz10_2, hfz10_3, hfz10_4⟩ := cl5 BK153.out) | ((with_reducible refine gate_store (t := 3) (p := 12) rfl ?_); refine store_event (t := 3) (p := 12) (v := ?vo_w11) (w1 := (((w5.setCell ⟨gb153, 0, none⟩ (.int .i64 a0_0)).setCell ⟨gb153, 1, none⟩ (.int .i64 a0_1)).setCell ⟨gb153, 2, none⟩ (.int .i64 a0_2))) ?hg ?ho ?hn ?hr ?_; (case ho => rfl); (case hg => rfl); (case hn => rfl); (case hr => exact gs); intro w11 hw; have n_ : Aside0 (w11.heap[gb151]? = some (.cells #[.int .i64 a0_0, .int .i64 a0_1, .int .i64 a0_2, .int .i64 a0_3, .slice A0_4 l0_4.length c0_4] 53 (0, 0))) ∧ Aside0 (w11.heap[gb152]? = some (.cells #[.int .i64 0, .int .i64 0, .int .i64 0, .int .i64 0, .slice none 0 0] 58 (0, 0))) ∧ Aside0 (w11.heap[gb153]? = some (.cells #[.int .i64 a0_0, .int .i64 a0_1, .int .i64 a0_2, .int .i64 0, .slice none 0 0] 58 (0, 0))) ∧ Aside0 (Below w.heap.size w w11) := ⟨⟨(by rw [hw]; exact (by refine zr ?_; refine blk_far ?_ NB151_153.out _; refine zr ?_; refine blk_far ?_ NB151_153.out _; refine zr ?_; refine blk_far ?_ NB151_153.out _; refine zr ?_; exact BK151.out))⟩, ⟨(by rw [hw]; exact (by refine zr ?_; refine blk_far ?_ NB152_153.out _; refine zr ?_; refine blk_far ?_ NB152_153.out _; refine zr ?_; refine blk_far ?_ NB152_153.out _; refine zr ?_; exact BK152.out))⟩, ⟨(by rw [hw]; exact (by refine zr ?_; refine blk_put (cs := #[.int .i64 a0_0, .int .i64 a0_1, .int .i64 0, .int .i64 0, .slice none 0 0]) ?_ 2 _ rfl; refine zr ?_; refine blk_put (cs := #[.int .i64 a0_0, .int .i64 0, .int .i64 0, .int .i64 0, .slice none 0 0]) ?_ 1 _ rfl; refine zr ?_; refine blk_put (cs := #[.int .i64 0, .int .i64 0, .int .i64 0, .int .i64 0, .slice none 0 0]) ?_ 0 _ rfl; refine zr ?_; exact BK153.out))⟩, ⟨(by rw [hw]; exact (bq3 HB.out GE151.out GE152.out GE153.out))⟩⟩; clear hw BK151 BK152 BK153 HB; obtain ⟨BK151, BK152, BK153, HB⟩ := n_; obtain ⟨hcz12_0, hcz12_1, hcz12_2, hcz12_3, hcz12_4, hfz12_0, hfz12_1, hfz12_2, hfz12_3, hfz12_4⟩ := cl5 BK151.out; obtain ⟨hcz13_0, hcz13_1, hcz13_2, hcz13_3, hcz13_4, hfz13_0, hfz13_1, hfz13_2, hfz13_3, hfz13_4⟩ := cl5 BK153.out) | ((with_reducible refine gate_callee (f := 98) rfl ?_); refine goesL_ (some 18) rfl rfl Try.func98 (by kernel_rfl) rfl #[.slice A0_4 l0_4.length c0_4] rfl ga ?_; (with_reducible refine (laws_toBindS.calls k _ _ l0_4 t154 _ ?side1 ?side2 A2.out).mono ?_); (case side1 => exact Kd.C_below HR0_4.out (bq3 HB.out GE151.out GE152.out GE153.out)); (case side2 => exact HC0_4.out); rintro e w14 ⟨v155, rfl, ho0, hb⟩; refine ⟨_, rfl, ?_⟩; have n_ := ak5 (Kd.S_lower ho0 (below_size (bq3 HB.out GE151.out GE152.out GE153.out))) (blk_below (g := gb151) (o := .cells #[.int .i64 a0_0, .int .i64 a0_1, .int .i64 a0_2, .int .i64 a0_3, .slice A0_4 l0_4.length c0_4] 53 (0, 0)) (by refine zr ?_; refine blk_far ?_ NB151_153.out _; refine zr ?_; exact BK151.out) hb) (blk_below (g := gb152) (o := .cells #[.int .i64 0, .int .i64 0, .int .i64 0, .int .i64 0, .slice none 0 0] 58 (0, 0)) (by refine zr ?_; refine blk_far ?_ NB152_153.out _; refine zr ?_; exact BK152.out) hb) (blk_below (g := gb153) (o := .cells #[.int .i64 a0_0, .int .i64 a0_1, .int .i64 a0_2, .int .i64 a0_3, .slice none 0 0] 58 (0, 0)) (by refine zr ?_; refine blk_put (cs := #[.int .i64 a0_0, .int .i64 a0_1, .int .i64 a0_2, .int .i64 0, .slice none 0 0]) ?_ 3 _ rfl; refine zr ?_; exact BK153.out) hb) (below_step (bq3 HB.out GE151.out GE152.out GE153.out) hb); clear BK151 BK152 BK153 HB; obtain ⟨HO156, BK151, BK152, BK153, HB⟩ := n_; (try clear hb ho0); obtain ⟨Ao15, co15, eo15⟩ := Kd.S_slice HO156.out; subst eo15; obtain ⟨hcz16_0, hcz16_1, hcz16_2, hcz16_3, hcz16_4, hfz16_0, hfz16_1, hfz16_2, hfz16_3, hfz16_4⟩ := cl5 BK153.out; obtain ⟨hcz17_0, hcz17_1, hcz17_2, hcz17_3, hcz17_4, hfz17_0, hfz17_1, hfz17_2, hfz17_3, hfz17_4⟩ := cl5 BK152.out) | ((with_reducible refine gate_store (t := 58) (p := 2) rfl ?_); refine store_event (t := 58) (p := 2) (v := ?vo_w18) (w1 := ((((((w14.setCell ⟨gb153, 4, none⟩ (.slice Ao15 t154.length co15)).setCell ⟨gb152, 0, none⟩ (.int .i64 a0_0)).setCell ⟨gb152, 1, none⟩ (.int .i64 a0_1)).setCell ⟨gb152, 2, none⟩ (.int .i64 a0_2)).setCell ⟨gb152, 3, none⟩ (.int .i64 a0_3)).setCell ⟨gb152, 4, none⟩ (.slice Ao15 t154.length co15))) ?hg ?ho ?hn ?hr ?_; (case ho => rfl); (case hg => rfl); (case hn => rfl); (case hr => exact gs); intro w18 hw; have n_ : Aside0 (Kd.S k116 116 w18 w.heap.size (fun _ => True) (.slice Ao15 t154.length co15) t154) ∧ Aside0 (w18.heap[gb151]? = some (.cells #[.int .i64 a0_0, .int .i64 a0_1, .int .i64 a0_2, .int .i64 a0_3, .slice A0_4 l0_4.length c0_4] 53 (0, 0))) ∧ Aside0 (w18.heap[gb152]? = some (.cells #[.int .i64 a0_0, .int .i64 a0_1, .int .i64 a0_2, .int .i64 a0_3, .slice Ao15 t154.length co15] 58 (0, 0))) ∧ Aside0 (w18.heap[gb153]? = some (.cells #[.int .i64 a0_0, .int .i64 a0_1, .int .i64 a0_2, .int .i64 a0_3, .slice Ao15 t154.length co15] 58 (0, 0))) ∧ Aside0 (Below w.heap.size w w18) := ⟨⟨(by rw [hw]; exact (by (with_reducible repeat (first | apply Kd.S_alloc | apply Kd.S_drewN | apply Kd.S_drew)); exact Kd.S_mono (Kd.S_far (p := ⟨gb152, 4, none⟩) (Kd.S_far (p := ⟨gb152, 3, none⟩) (Kd.S_far (p := ⟨gb152, 2, none⟩) (Kd.S_far (p := ⟨gb152, 1, none⟩) (Kd.S_far (p := ⟨gb152, 0, none⟩) (Kd.S_far (p := ⟨gb153, 4, none⟩) (Kd.S_types (Kd.S_types HO156.out BK153.out (by decide)) BK152.out (by decide)) (fun _ hk => hk.1.2) (.slice Ao15 t154.length co15)) (fun _ hk => hk.2) (.int .i64 a0_0)) (fun _ hk => hk.2) (.int .i64 a0_1)) (fun _ hk => hk.2) (.int .i64 a0_2)) (fun _ hk => hk.2) (.int .i64 a0_3)) (fun _ hk => hk.2) (.slice Ao15 t154.length co15)) (fun _ hk => trivial)))⟩, ⟨(by rw [hw]; exact (by refine zr ?_; refine blk_far ?_ NB151_152.out _; refine zr ?_; refine blk_far ?_ NB151_152.out _; refine zr ?_; refine blk_far ?_ NB151_152.out _; refine zr ?_; refine blk_far ?_ NB151_152.out _; refine zr ?_; refine blk_far ?_ NB151_152.out _; refine zr ?_; refine blk_far ?_ NB151_153.out _; refine zr ?_; exact BK151.out))⟩, ⟨(by rw [hw]; exact (by refine zr ?_; refine blk_put (cs := #[.int .i64 a0_0, .int .i64 a0_1, .int .i64 a0_2, .int .i64 a0_3, .slice none 0 0]) ?_ 4 _ rfl; refine zr ?_; refine blk_put (cs := #[.int .i64 a0_0, .int .i64 a0_1, .int .i64 a0_2, .int .i64 0, .slice none 0 0]) ?_ 3 _ rfl; refine zr ?_; refine blk_put (cs := #[.int .i64 a0_0, .int .i64 a0_1, .int .i64 0, .int .i64 0, .slice none 0 0]) ?_ 2 _ rfl; refine zr ?_; refine blk_put (cs := #[.int .i64 a0_0, .int .i64 0, .int .i64 0, .int .i64 0, .slice none 0 0]) ?_ 1 _ rfl; refine zr ?_; refine blk_put (cs := #[.int .i64 0, .int .i64 0, .int .i64 0, .int .i64 0, .slice none 0 0]) ?_ 0 _ rfl; refine zr ?_; refine blk_far ?_ NB152_153.out _; refine zr ?_; exact BK152.out))⟩, ⟨(by rw [hw]; exact (by refine zr ?_; refine blk_far ?_ NB153_152.out _; refine zr ?_; refine blk_far ?_ NB153_152.out _; refine zr ?_; refine blk_far ?_ NB153_152.out _; refine zr ?_; refine blk_far ?_ NB153_152.out _; refine zr ?_; refine blk_far ?_ NB153_152.out _; refine zr ?_; refine blk_put (cs := #[.int .i64 a0_0, .int .i64 a0_1, .int .i64 a0_2, .int .i64 a0_3, .slice none 0 0]) ?_ 4 _ rfl; refine zr ?_; exact BK153.out))⟩, ⟨(by rw [hw]; exact (bq3 HB.out GE151.out GE152.out GE153.out))⟩⟩; clear hw HO156 BK151 BK152 BK153 HB; obtain ⟨HO156, BK151, BK152, BK153, HB⟩ := n_))
 refine bodyPost_ret (results_cell_row rfl _ _ gb152 58 #[.int .i64 a0_0, .int .i64 a0_1, .int .i64 a0_2, .int .i64 a0_3, .slice Ao15 t154.length co15] (0, 0) _ rfl (zq BK152.out) Try.underlying58 rfl (by kernel_rfl)) rfl ?_
 exact ⟨_, rq, kqS HO156.out, bq3 HB.out GE151.out GE152.out GE153.out⟩

/-! ### laws_eqIntS: function 72 -/
def laws_eqIntS.l0 : Nat → List Int → List Int → Int → Option (Bool)
 | 0, _, _, _ => none
 | k + 1, x0, x1, x5 => if x5 < (x0.length : Int) then (if 0 ≤ x5 then (if x5 < (x1.length : Int) then (if (rd x0 x5) = (rd x1 x5) then (laws_eqIntS.l0 k x0 x1 (wrap64 (x5 + 1))) else (some false)) else (none)) else (none)) else (some true)
def laws_eqIntS.f (k : Nat) (l0 : List Int) (l1 : List Int) : Option (Bool) := if (l0.length : Int) = (l1.length : Int) then (laws_eqIntS.l0 k l0 l1 0) else (some false)
theorem laws_eqIntS.mono_l : ∀ k, (∀ y0 y1 y2, LeO (laws_eqIntS.l0 k y0 y1 y2) (laws_eqIntS.l0 (k + 1) y0 y1 y2))
 | 0 => fun _ _ _ r h => by simp [laws_eqIntS.l0] at h
 | k + 1 => by
  have ih0 := laws_eqIntS.mono_l k
  intro y0 y1 y2
  unfold laws_eqIntS.l0
  repeat' first
  | (with_reducible exact ih0 _ _ _)
  | (with_reducible exact LeO.refl _)
  | (with_reducible exact LeO.none _)
  | (with_reducible refine LeO.ite ?_ ?_)
  | (with_reducible refine LeO.bind ?_ (fun _ => ?_))
  | exact ih0 _ _ _
  | exact LeO.none _
  | refine LeO.ite ?_ ?_
  | refine LeO.bind ?_ (fun _ => ?_)
theorem laws_eqIntS.mono : ∀ a0 a1 k, LeO (laws_eqIntS.f k a0 a1) (laws_eqIntS.f (k + 1) a0 a1) := by
 intro a0 a1 k
 have ih0 := laws_eqIntS.mono_l k
 unfold laws_eqIntS.f
 repeat' first
  | (with_reducible exact ih0 _ _ _)
  | (with_reducible exact LeO.refl _)
  | (with_reducible exact LeO.none _)
  | (with_reducible refine LeO.ite ?_ ?_)
  | (with_reducible refine LeO.bind ?_ (fun _ => ?_))
  | exact ih0 _ _ _
  | exact LeO.none _
  | refine LeO.ite ?_ ?_
  | refine LeO.bind ?_ (fun _ => ?_)
set_option maxHeartbeats 8000000 in
set_option maxRecDepth 100000 in
theorem laws_eqIntS.calls (k : Nat) (A0 : Option Addr) (c0 : Nat) (l0 : List Int) (A1 : Option Addr) (c1 : Nat) (l1 : List Int) (r : Bool) (w : World) (hr0 : Kd.C (Kd.int .i64) w A0 l0.length l0) (hc0 : l0.length ≤ c0) (hr1 : Kd.C (Kd.int .i64) w A1 l1.length l1) (hc1 : l1.length ≤ c1) (h : laws_eqIntS.f k l0 l1 = some r) :
 Calls Try.prog 72 #[.slice A0 l0.length c0, .slice A1 l1.length c1] w fun e w' => e = .returned (.bool r) ∧ Drawn0 w w' := by
 have HR0 := am hr0
 have HC0 := am hc0
 clear hr0 hc0
 have HR1 := am hr1
 have HC1 := am hc1
 clear hr1 hc1
 have H : (if (l0.length : Int) = (l1.length : Int) then (laws_eqIntS.l0 k l0 l1 0) else (some false)) = some r := h
 clear h
 by_cases c3 : (l0.length : Int) = (l1.length : Int)
 rotate_left
 · rw [if_neg c3] at H
   have c3b0 : ((l0.length : Int) == (l1.length : Int)) = false := beq_eq_false_iff_ne.mpr c3
   have c3b1 : ((l0.length : Int) != (l1.length : Int)) = true := bne_iff_ne.mpr c3
   have c3b2 : (l0.length == l1.length) = false := by first | simpa using c3 | (simp at c3 ⊢; omega)
   obtain rfl := Option.some.inj H
   go_enter Try.func72, Try.ntmps72
   go_wp2
   repeat (go_quiet (fail); try go_wp2)
   go_ret
   exact ⟨by first | rfl | (simp; done) | (simp [*]; done), by repeat (first | exact Drawn0.refl _ | apply Drawn0.step)⟩
 rw [if_pos c3] at H
 have c3b0 : ((l0.length : Int) == (l1.length : Int)) = true := beq_iff_eq.mpr c3
 have c3b1 : ((l0.length : Int) != (l1.length : Int)) = false := bne_eq_false_iff_eq.mpr c3
 have c3b2 : (l0.length == l1.length) = true := by first | simpa using c3 | (simp at c3 ⊢; omega)
 clear c3
 have H' := am H
 clear H
 go_enter Try.func72, Try.ntmps72
 go_wp2
 repeat (go_quiet (fail); try go_wp2)
 go_loopg [5] k (fun kq v5 w' => ∃ (x5_1 : Int), v5 = .int .i64 x5_1 ∧ Aside0 (laws_eqIntS.l0 kq l0 l1 x5_1 = some r) ∧ Aside0 (kq ≤ k) ∧ Drawn0 w w')
 case atStart => exact ⟨(0), sq, H', ⟨Nat.le_refl _⟩, by repeat (first | exact Drawn0.refl _ | apply Drawn0.step)⟩
 case round =>
  clear H'
  try clear c1
  try clear p2
  try clear c3
  try clear c3b0
  try clear c3b1
  try clear c3b2
  obtain ⟨x5_1, rfl, HA, HK1, ⟨m1, rfl⟩⟩ := hrel
  cases gk with
  | zero => exact absurd HA.out (by simp [laws_eqIntS.l0])
  | succ k1 =>
   have H := HA.out
   clear HA
   simp only [laws_eqIntS.l0] at H
   by_cases c4 : x5_1 < (l0.length : Int)
   rotate_left
   · rw [if_neg c4] at H
     have c4b0 : decide (x5_1 < (l0.length : Int)) = false := decide_eq_false c4
     clear c4
     obtain rfl := Option.some.inj H
     go_wp2
     repeat (go_quiet (fail); try go_wp2)
     go_ret
     exact ⟨by first | rfl | (simp; done) | (simp [*]; done), by repeat (first | exact Drawn0.refl _ | apply Drawn0.step)⟩
   rw [if_pos c4] at H
   have c4b0 : decide (x5_1 < (l0.length : Int)) = true := decide_eq_true c4
   clear c4
   by_cases c5 : 0 ≤ x5_1
   rotate_left
   · rw [if_neg c5] at H
     exact absurd H (by simp)
   rw [if_pos c5] at H
   have c5b0 : decide (0 ≤ x5_1) = true := decide_eq_true c5
   clear c5
   by_cases c6 : x5_1 < (l1.length : Int)
   rotate_left
   · rw [if_neg c6] at H
     exact absurd H (by simp)
   rw [if_pos c6] at H
   have c6b0 : decide (x5_1 < (l1.length : Int)) = true := decide_eq_true c6
   clear c6
   by_cases c7 : (rd l0 x5_1) = (rd l1 x5_1)
   rotate_left
   · rw [if_neg c7] at H
     have c7b0 : ((rd l0 x5_1) == (rd l1 x5_1)) = false := beq_eq_false_iff_ne.mpr c7
     have c7b1 : ((rd l0 x5_1) != (rd l1 x5_1)) = true := bne_iff_ne.mpr c7
     obtain rfl := Option.some.inj H
     have p157 : 0 ≤ (x5_1 : Int) := oda
     have q157 : x5_1 < (l0.length : Int) := oda
     obtain ⟨ad157, e157, hx157_0⟩ := Kd.at_int HR0.out x5_1 p157 q157
     cases e157
     replace p157 := eq_true p157
     replace q157 := eq_true q157
     have p158 : 0 ≤ (x5_1 : Int) := oda
     have q158 : x5_1 < (l1.length : Int) := oda
     obtain ⟨ad158, e158, hx158_0⟩ := Kd.at_int HR1.out x5_1 p158 q158
     cases e158
     replace p158 := eq_true p158
     replace q158 := eq_true q158
     go_wp2
     repeat (go_quiet (fail); try go_wp2)
     go_ret
     exact ⟨by first | rfl | (simp; done) | (simp [*]; done), by repeat (first | exact Drawn0.refl _ | apply Drawn0.step)⟩
   rw [if_pos c7] at H
   have c7b0 : ((rd l0 x5_1) == (rd l1 x5_1)) = true := beq_iff_eq.mpr c7
   have c7b1 : ((rd l0 x5_1) != (rd l1 x5_1)) = false := bne_eq_false_iff_eq.mpr c7
   clear c7
   have H' := am H
   clear H
   have p157 : 0 ≤ (x5_1 : Int) := oda
   have q157 : x5_1 < (l0.length : Int) := oda
   obtain ⟨ad157, e157, hx157_0⟩ := Kd.at_int HR0.out x5_1 p157 q157
   cases e157
   replace p157 := eq_true p157
   replace q157 := eq_true q157
   have p158 : 0 ≤ (x5_1 : Int) := oda
   have q158 : x5_1 < (l1.length : Int) := oda
   obtain ⟨ad158, e158, hx158_0⟩ := Kd.at_int HR1.out x5_1 p158 q158
   cases e158
   replace p158 := eq_true p158
   replace q158 := eq_true q158
   go_wp2
   repeat (go_quiet (fail); try go_wp2)
   go_roundg k1
   case measure => have := HK1.out; omega
   case rel => exact ⟨(wrap64 (x5_1 + 1)), sq, H', ⟨by have := HK1.out; omega⟩, by repeat (first | exact Drawn0.refl _ | apply Drawn0.step)⟩

/-! ### laws_eqVal: function 19 -/
def laws_eqVal.f (k : Nat) (a0_0 : Int) (a0_1 : Int) (a0_2 : ByteArray) (l0_3 : List Int) (a1_0 : Int) (a1_1 : Int) (a1_2 : ByteArray) (l1_3 : List Int) : Option (Bool) := if a0_0 = a1_0 then (if a0_1 = a1_1 then (if a0_2.toList = a1_2.toList then ((laws_eqIntS.f k l0_3 l1_3).bind fun t161 => (if t161 = true then (some true) else (some false))) else (some false)) else (some false)) else (some false)
theorem laws_eqVal.mono : ∀ a0 a1 a2 a3 a4 a5 a6 a7 k, LeO (laws_eqVal.f k a0 a1 a2 a3 a4 a5 a6 a7) (laws_eqVal.f (k + 1) a0 a1 a2 a3 a4 a5 a6 a7) := by
 intro a0 a1 a2 a3 a4 a5 a6 a7 k
 unfold laws_eqVal.f
 repeat' first
  | (with_reducible exact laws_eqIntS.mono _ _ _)
  | (with_reducible exact LeO.refl _)
  | (with_reducible exact LeO.none _)
  | (with_reducible refine LeO.ite ?_ ?_)
  | (with_reducible refine LeO.bind ?_ (fun _ => ?_))
  | exact laws_eqIntS.mono _ _ _
  | exact LeO.none _
  | refine LeO.ite ?_ ?_
  | refine LeO.bind ?_ (fun _ => ?_)
set_option maxHeartbeats 8000000 in
set_option maxRecDepth 100000 in
theorem laws_eqVal.calls (k : Nat) (a0_0 : Int) (a0_1 : Int) (a0_2 : ByteArray) (A0_3 : Option Addr) (c0_3 : Nat) (l0_3 : List Int) (a1_0 : Int) (a1_1 : Int) (a1_2 : ByteArray) (A1_3 : Option Addr) (c1_3 : Nat) (l1_3 : List Int) (r : Bool) (w : World) (hr0_3 : Kd.C (Kd.int .i64) w A0_3 l0_3.length l0_3) (hc0_3 : l0_3.length ≤ c0_3) (hr1_3 : Kd.C (Kd.int .i64) w A1_3 l1_3.length l1_3) (hc1_3 : l1_3.length ≤ c1_3) (h : laws_eqVal.f k a0_0 a0_1 a0_2 l0_3 a1_0 a1_1 a1_2 l1_3 = some r) :
 Calls Try.prog 19 #[.agg #[.int .i64 a0_0, .int .i64 a0_1, .string a0_2, .slice A0_3 l0_3.length c0_3], .agg #[.int .i64 a1_0, .int .i64 a1_1, .string a1_2, .slice A1_3 l1_3.length c1_3]] w fun e w' => e = .returned (.bool r) ∧ Below w.heap.size w w' := by
 have hu29 := Try.underlying29
 have HR0_3 := am hr0_3
 have HC0_3 := am hc0_3
 clear hr0_3 hc0_3
 have HR1_3 := am hr1_3
 have HC1_3 := am hc1_3
 clear hr1_3 hc1_3
 have HB := am (Below.refl w.heap.size w)
 have H : (if a0_0 = a1_0 then (if a0_1 = a1_1 then (if a0_2.toList = a1_2.toList then ((laws_eqIntS.f k l0_3 l1_3).bind fun t161 => (if t161 = true then (some true) else (some false))) else (some false)) else (some false)) else (some false)) = some r := h
 clear h
 by_cases c3 : a0_0 = a1_0
 rotate_left
 · rw [if_neg c3] at H
   have c3b0 : (a0_0 == a1_0) = false := beq_eq_false_iff_ne.mpr c3
   have c3b1 : (a0_0 != a1_0) = true := bne_iff_ne.mpr c3
   obtain rfl := Option.some.inj H
   go_enter Try.func19, Try.ntmps19
   go_wp2_with (first | ((with_reducible refine gate_dst (N := 2) rfl ?_); refine bxe 2 #[.int .i64 a0_0, .int .i64 a0_1, .string a0_2, .slice A0_3 l0_3.length c0_3] 29 ?_; intro gb159 hg w28 hbox hb; have n_ := ak4 (below_step (bq HB.out) hb) hbox ((by rw [hg]; exact (below_size (bq HB.out)) : w.heap.size ≤ gb159)) ((by rw [hg]; exact (below_size (bq HB.out)) : w.heap.size ≤ gb159)); clear HB; obtain ⟨HB, BK159, GW159, GE159⟩ := n_; clear hb hbox hg) | ((with_reducible refine gate_dst (N := 3) rfl ?_); refine bxe 3 #[.int .i64 a1_0, .int .i64 a1_1, .string a1_2, .slice A1_3 l1_3.length c1_3] 29 ?_; intro gb160 hg w29 hbox hb; have n_ := ak7 (blk_below (zb BK159.out) hb) (below_step (bq1 HB.out GE159.out) hb) hbox ((by rw [hg]; exact (below_size (bq1 HB.out GE159.out)) : w.heap.size ≤ gb160)) ((by rw [hg]; exact (below_size (bq1 HB.out GE159.out)) : w.heap.size ≤ gb160)) ((nlt hg (zb BK159.out) : gb159 ≠ gb160)) ((ngt hg (zb BK159.out) : gb160 ≠ gb159)); clear BK159 HB; obtain ⟨BK159, HB, BK160, GW160, GE160, NB159_160, NB160_159⟩ := n_; clear hb hbox hg; have hnb30 := NB159_160.out; have hnc30 := NB160_159.out; obtain ⟨hcz31_0, hcz31_1, hcz31_2, hcz31_3, hfz31_0, hfz31_1, hfz31_2, hfz31_3⟩ := cl4 BK159.out; obtain ⟨hcz32_0, hcz32_1, hcz32_2, hcz32_3, hfz32_0, hfz32_1, hfz32_2, hfz32_3⟩ := cl4 BK160.out))
   go_ret
   exact ⟨rq, bq2 HB.out GE159.out GE160.out⟩
 rw [if_pos c3] at H
 have c3b0 : (a0_0 == a1_0) = true := beq_iff_eq.mpr c3
 have c3b1 : (a0_0 != a1_0) = false := bne_eq_false_iff_eq.mpr c3
 clear c3
 by_cases c4 : a0_1 = a1_1
 rotate_left
 · rw [if_neg c4] at H
   have c4b0 : (a0_1 == a1_1) = false := beq_eq_false_iff_ne.mpr c4
   have c4b1 : (a0_1 != a1_1) = true := bne_iff_ne.mpr c4
   obtain rfl := Option.some.inj H
   go_enter Try.func19, Try.ntmps19
   go_wp2_with (first | ((with_reducible refine gate_dst (N := 2) rfl ?_); refine bxe 2 #[.int .i64 a0_0, .int .i64 a0_1, .string a0_2, .slice A0_3 l0_3.length c0_3] 29 ?_; intro gb159 hg w23 hbox hb; have n_ := ak4 (below_step (bq HB.out) hb) hbox ((by rw [hg]; exact (below_size (bq HB.out)) : w.heap.size ≤ gb159)) ((by rw [hg]; exact (below_size (bq HB.out)) : w.heap.size ≤ gb159)); clear HB; obtain ⟨HB, BK159, GW159, GE159⟩ := n_; clear hb hbox hg) | ((with_reducible refine gate_dst (N := 3) rfl ?_); refine bxe 3 #[.int .i64 a1_0, .int .i64 a1_1, .string a1_2, .slice A1_3 l1_3.length c1_3] 29 ?_; intro gb160 hg w24 hbox hb; have n_ := ak7 (blk_below (zb BK159.out) hb) (below_step (bq1 HB.out GE159.out) hb) hbox ((by rw [hg]; exact (below_size (bq1 HB.out GE159.out)) : w.heap.size ≤ gb160)) ((by rw [hg]; exact (below_size (bq1 HB.out GE159.out)) : w.heap.size ≤ gb160)) ((nlt hg (zb BK159.out) : gb159 ≠ gb160)) ((ngt hg (zb BK159.out) : gb160 ≠ gb159)); clear BK159 HB; obtain ⟨BK159, HB, BK160, GW160, GE160, NB159_160, NB160_159⟩ := n_; clear hb hbox hg; have hnb25 := NB159_160.out; have hnc25 := NB160_159.out; obtain ⟨hcz26_0, hcz26_1, hcz26_2, hcz26_3, hfz26_0, hfz26_1, hfz26_2, hfz26_3⟩ := cl4 BK159.out; obtain ⟨hcz27_0, hcz27_1, hcz27_2, hcz27_3, hfz27_0, hfz27_1, hfz27_2, hfz27_3⟩ := cl4 BK160.out))
   go_ret
   exact ⟨rq, bq2 HB.out GE159.out GE160.out⟩
 rw [if_pos c4] at H
 have c4b0 : (a0_1 == a1_1) = true := beq_iff_eq.mpr c4
 have c4b1 : (a0_1 != a1_1) = false := bne_eq_false_iff_eq.mpr c4
 clear c4
 by_cases c5 : a0_2.toList = a1_2.toList
 rotate_left
 · rw [if_neg c5] at H
   have c5b0 : (a0_2.toList == a1_2.toList) = false := beq_eq_false_iff_ne.mpr c5
   have c5b1 : (a0_2.toList != a1_2.toList) = true := bne_iff_ne.mpr c5
   obtain rfl := Option.some.inj H
   go_enter Try.func19, Try.ntmps19
   go_wp2_with (first | ((with_reducible refine gate_dst (N := 2) rfl ?_); refine bxe 2 #[.int .i64 a0_0, .int .i64 a0_1, .string a0_2, .slice A0_3 l0_3.length c0_3] 29 ?_; intro gb159 hg w18 hbox hb; have n_ := ak4 (below_step (bq HB.out) hb) hbox ((by rw [hg]; exact (below_size (bq HB.out)) : w.heap.size ≤ gb159)) ((by rw [hg]; exact (below_size (bq HB.out)) : w.heap.size ≤ gb159)); clear HB; obtain ⟨HB, BK159, GW159, GE159⟩ := n_; clear hb hbox hg) | ((with_reducible refine gate_dst (N := 3) rfl ?_); refine bxe 3 #[.int .i64 a1_0, .int .i64 a1_1, .string a1_2, .slice A1_3 l1_3.length c1_3] 29 ?_; intro gb160 hg w19 hbox hb; have n_ := ak7 (blk_below (zb BK159.out) hb) (below_step (bq1 HB.out GE159.out) hb) hbox ((by rw [hg]; exact (below_size (bq1 HB.out GE159.out)) : w.heap.size ≤ gb160)) ((by rw [hg]; exact (below_size (bq1 HB.out GE159.out)) : w.heap.size ≤ gb160)) ((nlt hg (zb BK159.out) : gb159 ≠ gb160)) ((ngt hg (zb BK159.out) : gb160 ≠ gb159)); clear BK159 HB; obtain ⟨BK159, HB, BK160, GW160, GE160, NB159_160, NB160_159⟩ := n_; clear hb hbox hg; have hnb20 := NB159_160.out; have hnc20 := NB160_159.out; obtain ⟨hcz21_0, hcz21_1, hcz21_2, hcz21_3, hfz21_0, hfz21_1, hfz21_2, hfz21_3⟩ := cl4 BK159.out; obtain ⟨hcz22_0, hcz22_1, hcz22_2, hcz22_3, hfz22_0, hfz22_1, hfz22_2, hfz22_3⟩ := cl4 BK160.out))
   go_ret
   exact ⟨rq, bq2 HB.out GE159.out GE160.out⟩
 rw [if_pos c5] at H
 have c5b0 : (a0_2.toList == a1_2.toList) = true := beq_iff_eq.mpr c5
 have c5b1 : (a0_2.toList != a1_2.toList) = false := bne_eq_false_iff_eq.mpr c5
 clear c5
 replace H := Option.bind_eq_some_iff.mp H
 obtain ⟨t161, A60, H⟩ := H
 replace H : (if t161 = true then (some true) else (some false)) = some r := H
 have A6 := am A60
 clear A60
 by_cases c7 : t161 = true
 · subst c7
   replace H : (some true) = some r := by rw [if_pos rfl] at H; exact H
   obtain rfl := Option.some.inj H
   go_enter Try.func19, Try.ntmps19
   go_wp2_with (first | ((with_reducible refine gate_dst (N := 2) rfl ?_); refine bxe 2 #[.int .i64 a0_0, .int .i64 a0_1, .string a0_2, .slice A0_3 l0_3.length c0_3] 29 ?_; intro gb159 hg w8 hbox hb; have n_ := ak4 (below_step (bq HB.out) hb) hbox ((by rw [hg]; exact (below_size (bq HB.out)) : w.heap.size ≤ gb159)) ((by rw [hg]; exact (below_size (bq HB.out)) : w.heap.size ≤ gb159)); clear HB; obtain ⟨HB, BK159, GW159, GE159⟩ := n_; clear hb hbox hg) | ((with_reducible refine gate_dst (N := 3) rfl ?_); refine bxe 3 #[.int .i64 a1_0, .int .i64 a1_1, .string a1_2, .slice A1_3 l1_3.length c1_3] 29 ?_; intro gb160 hg w9 hbox hb; have n_ := ak7 (blk_below (zb BK159.out) hb) (below_step (bq1 HB.out GE159.out) hb) hbox ((by rw [hg]; exact (below_size (bq1 HB.out GE159.out)) : w.heap.size ≤ gb160)) ((by rw [hg]; exact (below_size (bq1 HB.out GE159.out)) : w.heap.size ≤ gb160)) ((nlt hg (zb BK159.out) : gb159 ≠ gb160)) ((ngt hg (zb BK159.out) : gb160 ≠ gb159)); clear BK159 HB; obtain ⟨BK159, HB, BK160, GW160, GE160, NB159_160, NB160_159⟩ := n_; clear hb hbox hg; have hnb10 := NB159_160.out; have hnc10 := NB160_159.out; obtain ⟨hcz11_0, hcz11_1, hcz11_2, hcz11_3, hfz11_0, hfz11_1, hfz11_2, hfz11_3⟩ := cl4 BK159.out; obtain ⟨hcz12_0, hcz12_1, hcz12_2, hcz12_3, hfz12_0, hfz12_1, hfz12_2, hfz12_3⟩ := cl4 BK160.out) | ((with_reducible refine gate_callee (f := 72) rfl ?_); refine goesL_ (some 24) rfl rfl Try.func72 (by kernel_rfl) rfl #[.slice A0_3 l0_3.length c0_3, .slice A1_3 l1_3.length c1_3] rfl ga ?_; (with_reducible refine (laws_eqIntS.calls k _ _ l0_3 _ _ l1_3 true _ ?side1 ?side2 ?side3 ?side4 A6.out).mono ?_); (case side1 => exact cq (Kd.C_below HR0_3.out HB.out)); (case side2 => exact HC0_3.out); (case side3 => exact cq (Kd.C_below HR1_3.out HB.out)); (case side4 => exact HC1_3.out); rintro e w' ⟨rfl, ⟨nd, rfl⟩⟩; refine ⟨_, rfl, ?_⟩))
   go_ret
   exact ⟨rq, bq2 HB.out GE159.out GE160.out⟩
 replace c7 := Bool.eq_false_iff.mpr c7
 subst c7
 replace H : (some false) = some r := by rw [if_neg (show ¬ (false = true) by decide)] at H; exact H
 obtain rfl := Option.some.inj H
 go_enter Try.func19, Try.ntmps19
 go_wp2_with (first | ((with_reducible refine gate_dst (N := 2) rfl ?_); refine bxe 2 #[.int .i64 a0_0, .int .i64 a0_1, .string a0_2, .slice A0_3 l0_3.length c0_3] 29 ?_; intro gb159 hg w13 hbox hb; have n_ := ak4 (below_step (bq HB.out) hb) hbox ((by rw [hg]; exact (below_size (bq HB.out)) : w.heap.size ≤ gb159)) ((by rw [hg]; exact (below_size (bq HB.out)) : w.heap.size ≤ gb159)); clear HB; obtain ⟨HB, BK159, GW159, GE159⟩ := n_; clear hb hbox hg) | ((with_reducible refine gate_dst (N := 3) rfl ?_); refine bxe 3 #[.int .i64 a1_0, .int .i64 a1_1, .string a1_2, .slice A1_3 l1_3.length c1_3] 29 ?_; intro gb160 hg w14 hbox hb; have n_ := ak7 (blk_below (zb BK159.out) hb) (below_step (bq1 HB.out GE159.out) hb) hbox ((by rw [hg]; exact (below_size (bq1 HB.out GE159.out)) : w.heap.size ≤ gb160)) ((by rw [hg]; exact (below_size (bq1 HB.out GE159.out)) : w.heap.size ≤ gb160)) ((nlt hg (zb BK159.out) : gb159 ≠ gb160)) ((ngt hg (zb BK159.out) : gb160 ≠ gb159)); clear BK159 HB; obtain ⟨BK159, HB, BK160, GW160, GE160, NB159_160, NB160_159⟩ := n_; clear hb hbox hg; have hnb15 := NB159_160.out; have hnc15 := NB160_159.out; obtain ⟨hcz16_0, hcz16_1, hcz16_2, hcz16_3, hfz16_0, hfz16_1, hfz16_2, hfz16_3⟩ := cl4 BK159.out; obtain ⟨hcz17_0, hcz17_1, hcz17_2, hcz17_3, hfz17_0, hfz17_1, hfz17_2, hfz17_3⟩ := cl4 BK160.out) | ((with_reducible refine gate_callee (f := 72) rfl ?_); refine goesL_ (some 24) rfl rfl Try.func72 (by kernel_rfl) rfl #[.slice A0_3 l0_3.length c0_3, .slice A1_3 l1_3.length c1_3] rfl ga ?_; (with_reducible refine (laws_eqIntS.calls k _ _ l0_3 _ _ l1_3 false _ ?side1 ?side2 ?side3 ?side4 A6.out).mono ?_); (case side1 => exact cq (Kd.C_below HR0_3.out HB.out)); (case side2 => exact HC0_3.out); (case side3 => exact cq (Kd.C_below HR1_3.out HB.out)); (case side4 => exact HC1_3.out); rintro e w' ⟨rfl, ⟨nd, rfl⟩⟩; refine ⟨_, rfl, ?_⟩))
 go_ret
 exact ⟨rq, bq2 HB.out GE159.out GE160.out⟩

/-! ### laws_eqBind: function 130 -/
def laws_eqBind.f (k : Nat) (l0_0 : List Int) (a0_1 : Int) (a0_2 : Int) (a0_3 : ByteArray) (l0_4 : List Int) (l1_0 : List Int) (a1_1 : Int) (a1_2 : Int) (a1_3 : ByteArray) (l1_4 : List Int) : Option (Bool) := (laws_eqIntS.f k l0_0 l1_0).bind fun t164 => (if t164 = true then ((laws_eqVal.f k a0_1 a0_2 a0_3 l0_4 a1_1 a1_2 a1_3 l1_4).bind fun t165 => (if t165 = true then (some true) else (some false))) else (some false))
theorem laws_eqBind.mono : ∀ a0 a1 a2 a3 a4 a5 a6 a7 a8 a9 k, LeO (laws_eqBind.f k a0 a1 a2 a3 a4 a5 a6 a7 a8 a9) (laws_eqBind.f (k + 1) a0 a1 a2 a3 a4 a5 a6 a7 a8 a9) := by
 intro a0 a1 a2 a3 a4 a5 a6 a7 a8 a9 k
 unfold laws_eqBind.f
 repeat' first
  | (with_reducible exact laws_eqIntS.mono _ _ _)
  | (with_reducible exact laws_eqVal.mono _ _ _ _ _ _ _ _ _)
  | (with_reducible exact LeO.refl _)
  | (with_reducible exact LeO.none _)
  | (with_reducible refine LeO.ite ?_ ?_)
  | (with_reducible refine LeO.bind ?_ (fun _ => ?_))
  | exact laws_eqIntS.mono _ _ _
  | exact laws_eqVal.mono _ _ _ _ _ _ _ _ _
  | exact LeO.none _
  | refine LeO.ite ?_ ?_
  | refine LeO.bind ?_ (fun _ => ?_)
set_option maxHeartbeats 8000000 in
set_option maxRecDepth 100000 in
theorem laws_eqBind.calls (k : Nat) (A0_0 : Option Addr) (c0_0 : Nat) (l0_0 : List Int) (a0_1 : Int) (a0_2 : Int) (a0_3 : ByteArray) (A0_4 : Option Addr) (c0_4 : Nat) (l0_4 : List Int) (A1_0 : Option Addr) (c1_0 : Nat) (l1_0 : List Int) (a1_1 : Int) (a1_2 : Int) (a1_3 : ByteArray) (A1_4 : Option Addr) (c1_4 : Nat) (l1_4 : List Int) (r : Bool) (w : World) (hr0_0 : Kd.C (Kd.int .i64) w A0_0 l0_0.length l0_0) (hc0_0 : l0_0.length ≤ c0_0) (hr0_4 : Kd.C (Kd.int .i64) w A0_4 l0_4.length l0_4) (hc0_4 : l0_4.length ≤ c0_4) (hr1_0 : Kd.C (Kd.int .i64) w A1_0 l1_0.length l1_0) (hc1_0 : l1_0.length ≤ c1_0) (hr1_4 : Kd.C (Kd.int .i64) w A1_4 l1_4.length l1_4) (hc1_4 : l1_4.length ≤ c1_4) (h : laws_eqBind.f k l0_0 a0_1 a0_2 a0_3 l0_4 l1_0 a1_1 a1_2 a1_3 l1_4 = some r) :
 Calls Try.prog 130 #[.agg #[.slice A0_0 l0_0.length c0_0, .int .i64 a0_1, .int .i64 a0_2, .string a0_3, .slice A0_4 l0_4.length c0_4], .agg #[.slice A1_0 l1_0.length c1_0, .int .i64 a1_1, .int .i64 a1_2, .string a1_3, .slice A1_4 l1_4.length c1_4]] w fun e w' => e = .returned (.bool r) ∧ Below w.heap.size w w' := by
 have hu116 := Try.underlying116
 have hu29 := Try.underlying29
 have HR0_0 := am hr0_0
 have HC0_0 := am hc0_0
 clear hr0_0 hc0_0
 have HR0_4 := am hr0_4
 have HC0_4 := am hc0_4
 clear hr0_4 hc0_4
 have HR1_0 := am hr1_0
 have HC1_0 := am hc1_0
 clear hr1_0 hc1_0
 have HR1_4 := am hr1_4
 have HC1_4 := am hc1_4
 clear hr1_4 hc1_4
 have HB := am (Below.refl w.heap.size w)
 have H : ((laws_eqIntS.f k l0_0 l1_0).bind fun t164 => (if t164 = true then ((laws_eqVal.f k a0_1 a0_2 a0_3 l0_4 a1_1 a1_2 a1_3 l1_4).bind fun t165 => (if t165 = true then (some true) else (some false))) else (some false))) = some r := h
 clear h
 replace H := Option.bind_eq_some_iff.mp H
 obtain ⟨t164, A30, H⟩ := H
 replace H : (if t164 = true then ((laws_eqVal.f k a0_1 a0_2 a0_3 l0_4 a1_1 a1_2 a1_3 l1_4).bind fun t165 => (if t165 = true then (some true) else (some false))) else (some false)) = some r := H
 have A3 := am A30
 clear A30
 by_cases c4 : t164 = true
 rotate_left
 · replace c4 := Bool.eq_false_iff.mpr c4
   subst c4
   replace H : (some false) = some r := by rw [if_neg (show ¬ (false = true) by decide)] at H; exact H
   obtain rfl := Option.some.inj H
   go_enter Try.func130, Try.ntmps130
   go_wp2_with (first | ((with_reducible refine gate_dst (N := 2) rfl ?_); refine bxe 2 #[.slice A0_0 l0_0.length c0_0, .int .i64 a0_1, .int .i64 a0_2, .string a0_3, .slice A0_4 l0_4.length c0_4] 116 ?_; intro gb162 hg w19 hbox hb; have n_ := ak4 (below_step (bq HB.out) hb) hbox ((by rw [hg]; exact (below_size (bq HB.out)) : w.heap.size ≤ gb162)) ((by rw [hg]; exact (below_size (bq HB.out)) : w.heap.size ≤ gb162)); clear HB; obtain ⟨HB, BK162, GW162, GE162⟩ := n_; clear hb hbox hg) | ((with_reducible refine gate_dst (N := 3) rfl ?_); refine bxe 3 #[.slice A1_0 l1_0.length c1_0, .int .i64 a1_1, .int .i64 a1_2, .string a1_3, .slice A1_4 l1_4.length c1_4] 116 ?_; intro gb163 hg w20 hbox hb; have n_ := ak7 (blk_below (zb BK162.out) hb) (below_step (bq1 HB.out GE162.out) hb) hbox ((by rw [hg]; exact (below_size (bq1 HB.out GE162.out)) : w.heap.size ≤ gb163)) ((by rw [hg]; exact (below_size (bq1 HB.out GE162.out)) : w.heap.size ≤ gb163)) ((nlt hg (zb BK162.out) : gb162 ≠ gb163)) ((ngt hg (zb BK162.out) : gb163 ≠ gb162)); clear BK162 HB; obtain ⟨BK162, HB, BK163, GW163, GE163, NB162_163, NB163_162⟩ := n_; clear hb hbox hg; have hnb21 := NB162_163.out; have hnc21 := NB163_162.out; obtain ⟨hcz22_0, hcz22_1, hcz22_2, hcz22_3, hcz22_4, hfz22_0, hfz22_1, hfz22_2, hfz22_3, hfz22_4⟩ := cl5 BK162.out; obtain ⟨hcz23_0, hcz23_1, hcz23_2, hcz23_3, hcz23_4, hfz23_0, hfz23_1, hfz23_2, hfz23_3, hfz23_4⟩ := cl5 BK163.out) | ((with_reducible refine gate_callee (f := 72) rfl ?_); refine goesL_ (some 9) rfl rfl Try.func72 (by kernel_rfl) rfl #[.slice A0_0 l0_0.length c0_0, .slice A1_0 l1_0.length c1_0] rfl ga ?_; (with_reducible refine (laws_eqIntS.calls k _ _ l0_0 _ _ l1_0 false _ ?side1 ?side2 ?side3 ?side4 A3.out).mono ?_); (case side1 => exact cq (Kd.C_below HR0_0.out HB.out)); (case side2 => exact HC0_0.out); (case side3 => exact cq (Kd.C_below HR1_0.out HB.out)); (case side4 => exact HC1_0.out); rintro e w' ⟨rfl, ⟨nd, rfl⟩⟩; refine ⟨_, rfl, ?_⟩))
   go_ret
   exact ⟨rq, bq2 HB.out GE162.out GE163.out⟩
 subst c4
 replace H : ((laws_eqVal.f k a0_1 a0_2 a0_3 l0_4 a1_1 a1_2 a1_3 l1_4).bind fun t165 => (if t165 = true then (some true) else (some false))) = some r := by rw [if_pos rfl] at H; exact H
 replace H := Option.bind_eq_some_iff.mp H
 obtain ⟨t165, A50, H⟩ := H
 replace H : (if t165 = true then (some true) else (some false)) = some r := H
 have A5 := am A50
 clear A50
 by_cases c6 : t165 = true
 · subst c6
   replace H : (some true) = some r := by rw [if_pos rfl] at H; exact H
   obtain rfl := Option.some.inj H
   go_enter Try.func130, Try.ntmps130
   go_wp2_with (first | ((with_reducible refine gate_dst (N := 2) rfl ?_); refine bxe 2 #[.slice A0_0 l0_0.length c0_0, .int .i64 a0_1, .int .i64 a0_2, .string a0_3, .slice A0_4 l0_4.length c0_4] 116 ?_; intro gb162 hg w7 hbox hb; have n_ := ak4 (below_step (bq HB.out) hb) hbox ((by rw [hg]; exact (below_size (bq HB.out)) : w.heap.size ≤ gb162)) ((by rw [hg]; exact (below_size (bq HB.out)) : w.heap.size ≤ gb162)); clear HB; obtain ⟨HB, BK162, GW162, GE162⟩ := n_; clear hb hbox hg) | ((with_reducible refine gate_dst (N := 3) rfl ?_); refine bxe 3 #[.slice A1_0 l1_0.length c1_0, .int .i64 a1_1, .int .i64 a1_2, .string a1_3, .slice A1_4 l1_4.length c1_4] 116 ?_; intro gb163 hg w8 hbox hb; have n_ := ak7 (blk_below (zb BK162.out) hb) (below_step (bq1 HB.out GE162.out) hb) hbox ((by rw [hg]; exact (below_size (bq1 HB.out GE162.out)) : w.heap.size ≤ gb163)) ((by rw [hg]; exact (below_size (bq1 HB.out GE162.out)) : w.heap.size ≤ gb163)) ((nlt hg (zb BK162.out) : gb162 ≠ gb163)) ((ngt hg (zb BK162.out) : gb163 ≠ gb162)); clear BK162 HB; obtain ⟨BK162, HB, BK163, GW163, GE163, NB162_163, NB163_162⟩ := n_; clear hb hbox hg; have hnb9 := NB162_163.out; have hnc9 := NB163_162.out; obtain ⟨hcz10_0, hcz10_1, hcz10_2, hcz10_3, hcz10_4, hfz10_0, hfz10_1, hfz10_2, hfz10_3, hfz10_4⟩ := cl5 BK162.out; obtain ⟨hcz11_0, hcz11_1, hcz11_2, hcz11_3, hcz11_4, hfz11_0, hfz11_1, hfz11_2, hfz11_3, hfz11_4⟩ := cl5 BK163.out) | ((with_reducible refine gate_callee (f := 72) rfl ?_); refine goesL_ (some 9) rfl rfl Try.func72 (by kernel_rfl) rfl #[.slice A0_0 l0_0.length c0_0, .slice A1_0 l1_0.length c1_0] rfl ga ?_; (with_reducible refine (laws_eqIntS.calls k _ _ l0_0 _ _ l1_0 true _ ?side1 ?side2 ?side3 ?side4 A3.out).mono ?_); (case side1 => exact cq (Kd.C_below HR0_0.out HB.out)); (case side2 => exact HC0_0.out); (case side3 => exact cq (Kd.C_below HR1_0.out HB.out)); (case side4 => exact HC1_0.out); rintro e w' ⟨rfl, ⟨nd, rfl⟩⟩; refine ⟨_, rfl, ?_⟩) | ((with_reducible refine gate_callee (f := 19) rfl ?_); refine goesL_ (some 15) rfl rfl Try.func19 (by kernel_rfl) rfl #[.agg #[.int .i64 a0_1, .int .i64 a0_2, .string a0_3, .slice A0_4 l0_4.length c0_4], .agg #[.int .i64 a1_1, .int .i64 a1_2, .string a1_3, .slice A1_4 l1_4.length c1_4]] rfl ga ?_; (with_reducible refine (laws_eqVal.calls k a0_1 a0_2 a0_3 _ _ l0_4 a1_1 a1_2 a1_3 _ _ l1_4 true _ ?side1 ?side2 ?side3 ?side4 A5.out).mono ?_); (case side1 => repeat (first | exact (Kd.C_below HR0_4.out (bq2 HB.out GE162.out GE163.out)) | (with_reducible refine Kd.C_alloc ?_ _) | (with_reducible refine Kd.C_drewN ?_ _) | (with_reducible refine Kd.C_drew ?_))); (case side2 => exact HC0_4.out); (case side3 => repeat (first | exact (Kd.C_below HR1_4.out (bq2 HB.out GE162.out GE163.out)) | (with_reducible refine Kd.C_alloc ?_ _) | (with_reducible refine Kd.C_drewN ?_ _) | (with_reducible refine Kd.C_drew ?_))); (case side4 => exact HC1_4.out); rintro e w12 ⟨rfl, hb⟩; refine ⟨_, rfl, ?_⟩; have n_ := ak3 (blk_below (zb BK162.out) hb) (blk_below (zb BK163.out) hb) (below_step (bq2 HB.out GE162.out GE163.out) hb); clear BK162 BK163 HB; obtain ⟨BK162, BK163, HB⟩ := n_; (try clear hb)))
   go_ret
   exact ⟨rq, bq2 HB.out GE162.out GE163.out⟩
 replace c6 := Bool.eq_false_iff.mpr c6
 subst c6
 replace H : (some false) = some r := by rw [if_neg (show ¬ (false = true) by decide)] at H; exact H
 obtain rfl := Option.some.inj H
 go_enter Try.func130, Try.ntmps130
 go_wp2_with (first | ((with_reducible refine gate_dst (N := 2) rfl ?_); refine bxe 2 #[.slice A0_0 l0_0.length c0_0, .int .i64 a0_1, .int .i64 a0_2, .string a0_3, .slice A0_4 l0_4.length c0_4] 116 ?_; intro gb162 hg w13 hbox hb; have n_ := ak4 (below_step (bq HB.out) hb) hbox ((by rw [hg]; exact (below_size (bq HB.out)) : w.heap.size ≤ gb162)) ((by rw [hg]; exact (below_size (bq HB.out)) : w.heap.size ≤ gb162)); clear HB; obtain ⟨HB, BK162, GW162, GE162⟩ := n_; clear hb hbox hg) | ((with_reducible refine gate_dst (N := 3) rfl ?_); refine bxe 3 #[.slice A1_0 l1_0.length c1_0, .int .i64 a1_1, .int .i64 a1_2, .string a1_3, .slice A1_4 l1_4.length c1_4] 116 ?_; intro gb163 hg w14 hbox hb; have n_ := ak7 (blk_below (zb BK162.out) hb) (below_step (bq1 HB.out GE162.out) hb) hbox ((by rw [hg]; exact (below_size (bq1 HB.out GE162.out)) : w.heap.size ≤ gb163)) ((by rw [hg]; exact (below_size (bq1 HB.out GE162.out)) : w.heap.size ≤ gb163)) ((nlt hg (zb BK162.out) : gb162 ≠ gb163)) ((ngt hg (zb BK162.out) : gb163 ≠ gb162)); clear BK162 HB; obtain ⟨BK162, HB, BK163, GW163, GE163, NB162_163, NB163_162⟩ := n_; clear hb hbox hg; have hnb15 := NB162_163.out; have hnc15 := NB163_162.out; obtain ⟨hcz16_0, hcz16_1, hcz16_2, hcz16_3, hcz16_4, hfz16_0, hfz16_1, hfz16_2, hfz16_3, hfz16_4⟩ := cl5 BK162.out; obtain ⟨hcz17_0, hcz17_1, hcz17_2, hcz17_3, hcz17_4, hfz17_0, hfz17_1, hfz17_2, hfz17_3, hfz17_4⟩ := cl5 BK163.out) | ((with_reducible refine gate_callee (f := 72) rfl ?_); refine goesL_ (some 9) rfl rfl Try.func72 (by kernel_rfl) rfl #[.slice A0_0 l0_0.length c0_0, .slice A1_0 l1_0.length c1_0] rfl ga ?_; (with_reducible refine (laws_eqIntS.calls k _ _ l0_0 _ _ l1_0 true _ ?side1 ?side2 ?side3 ?side4 A3.out).mono ?_); (case side1 => exact cq (Kd.C_below HR0_0.out HB.out)); (case side2 => exact HC0_0.out); (case side3 => exact cq (Kd.C_below HR1_0.out HB.out)); (case side4 => exact HC1_0.out); rintro e w' ⟨rfl, ⟨nd, rfl⟩⟩; refine ⟨_, rfl, ?_⟩) | ((with_reducible refine gate_callee (f := 19) rfl ?_); refine goesL_ (some 15) rfl rfl Try.func19 (by kernel_rfl) rfl #[.agg #[.int .i64 a0_1, .int .i64 a0_2, .string a0_3, .slice A0_4 l0_4.length c0_4], .agg #[.int .i64 a1_1, .int .i64 a1_2, .string a1_3, .slice A1_4 l1_4.length c1_4]] rfl ga ?_; (with_reducible refine (laws_eqVal.calls k a0_1 a0_2 a0_3 _ _ l0_4 a1_1 a1_2 a1_3 _ _ l1_4 false _ ?side1 ?side2 ?side3 ?side4 A5.out).mono ?_); (case side1 => repeat (first | exact (Kd.C_below HR0_4.out (bq2 HB.out GE162.out GE163.out)) | (with_reducible refine Kd.C_alloc ?_ _) | (with_reducible refine Kd.C_drewN ?_ _) | (with_reducible refine Kd.C_drew ?_))); (case side2 => exact HC0_4.out); (case side3 => repeat (first | exact (Kd.C_below HR1_4.out (bq2 HB.out GE162.out GE163.out)) | (with_reducible refine Kd.C_alloc ?_ _) | (with_reducible refine Kd.C_drewN ?_ _) | (with_reducible refine Kd.C_drew ?_))); (case side4 => exact HC1_4.out); rintro e w18 ⟨rfl, hb⟩; refine ⟨_, rfl, ?_⟩; have n_ := ak3 (blk_below (zb BK162.out) hb) (blk_below (zb BK163.out) hb) (below_step (bq2 HB.out GE162.out GE163.out) hb); clear BK162 BK163 HB; obtain ⟨BK162, BK163, HB⟩ := n_; (try clear hb)))
 go_ret
 exact ⟨rq, bq2 HB.out GE162.out GE163.out⟩

end Go.Proofs.Ythhnfmbfgplelaa.XFnExactPutMsg
