/- The functions that one law reaches, as Lean functions, with their walks: printed by a program of this seat (wip/tools) out of the translation. -/
import Derived.Test.YthhnfmbfgplelaaXFnMsgsx0
import Derived.Test.YthhnfmbfgplelaaXFnMsgsx6
namespace Go.Proofs.Ythhnfmbfgplelaa.XFnMsgs
open Go.RowKit Go.Proofs.YthhnfmbfgplelaaW.PrintWords Go.Proofs.YthhnfmbfgplelaaW.PrintLast Go.Proofs.YthhnfmbfgplelaaW.PrintMore
attribute [local go_sem] max2_int min2_int max_two min_two max_three min_three max_four min_four   -- for this text's walks alone
set_option linter.unusedVariables false
set_option linter.unusedSimpArgs false

/-! ### impl_SameBinds: function 116 -/
def impl_SameBinds.l0 : Nat → List (S116) → List (S116) → Int → Int → Option (Bool)
 | 0, _, _, _, _ => none
 | k + 1, x0, x1, x12, x13 => if x13 < x12 then (if 0 ≤ x13 then (if x13 < (x0.length : Int) then (if x13 < (x1.length : Int) then ((impl_SameOid.f k ((rd_T116 x0 x13).f0) ((rd_T116 x1 x13).f0)).bind fun t880 => (if t880 = true then ((impl_SameVal.f k ((rd_T116 x0 x13).f1.f0) ((rd_T116 x0 x13).f1.f1) ((rd_T116 x0 x13).f1.f2) ((rd_T116 x0 x13).f1.f3) ((rd_T116 x1 x13).f1.f0) ((rd_T116 x1 x13).f1.f1) ((rd_T116 x1 x13).f1.f2) ((rd_T116 x1 x13).f1.f3)).bind fun t883 => (if t883 = true then (impl_SameBinds.l0 k x0 x1 x12 (wrap64 (x13 + 1))) else (some false))) else (some false))) else (none)) else (none)) else (none)) else (some true)
def impl_SameBinds.f (k : Nat) (l0 : List (S116)) (l1 : List (S116)) : Option (Bool) := if (l0.length : Int) = (l1.length : Int) then (impl_SameBinds.l0 k l0 l1 (l0.length : Int) 0) else (some false)
def impl_SameBinds.T6 : Bool × List (List Nat × List Nat) := (true, [([], []), ([], []), ([0, 1], [0, 1]), ([2], [2]), ([3], [3]), ([], []), ([], []), ([5, 6], [5, 6]), ([7], [7]), ([8], [8]), ([4, 9], [4, 9]), ([10], [10]), ([11, 10], [11]), ([12], [12]), ([12], [12]), ([13, 14, 12], [12, 13, 14]), ([15, 12], [12, 15]), ([16, 12], [12, 16]), ([12], [12]), ([12], [12]), ([18, 19, 12], [12, 18, 19]), ([20, 12], [12, 20]), ([21, 12], [12, 21]), ([17, 22, 12, 12], [12, 17, 22]), ([23, 12], [12, 23]), ([12, 24], [12, 24])])
def impl_SameBinds.B6 : List Nat := [0, 0, 3, 7, 15, 0, 0, 96, 224, 480, 1023, 2047, 4095, 8191, 8191, 32767, 65535, 131071, 8191, 8191, 794623, 1843199, 3940351, 8388607, 16777215, 33554431]
theorem impl_SameBinds.tab6 : rtab .any (opsOf Try.f116 6) = impl_SameBinds.T6 := by kernel_rfl
theorem impl_SameBinds.bits6 : waitsOk impl_SameBinds.T6.2 impl_SameBinds.B6 = true := by kernel_rfl
set_option maxHeartbeats 8000000 in
set_option maxRecDepth 100000 in
theorem impl_SameBinds.calls (k : Nat) (A0 : Option Addr) (c0 : Nat) (l0 : List (S116)) (A1 : Option Addr) (c1 : Nat) (l1 : List (S116)) (r : Bool) (w : World) (hr0 : Kd.C k116 w A0 l0.length l0) (hc0 : l0.length ≤ c0) (hr1 : Kd.C k116 w A1 l1.length l1) (hc1 : l1.length ≤ c1) (h : impl_SameBinds.f k l0 l1 = some r) :
 Calls Try.prog 116 #[.slice A0 l0.length c0, .slice A1 l1.length c1] w fun e w' => e = .returned (.bool r) ∧ Below w.heap.size w w' := by
 have hu29 := Try.underlying29
 have HR0 := am hr0
 have HC0 := am hc0
 clear hr0 hc0
 have HR1 := am hr1
 have HC1 := am hc1
 clear hr1 hc1
 have HB := am (Below.refl w.heap.size w)
 have H := h
 clear h
 unfold impl_SameBinds.f at H
 replace H := iq' H
 rcases H with ⟨c3, c3b0, c3b1, H⟩ | ⟨c3, c3b0, c3b1, H⟩
 · have c3b2 : (l0.length == l1.length) = false := by first | simpa using c3 | (simp at c3 ⊢; omega)
   obtain rfl := Option.some.inj H
   go_enter Try.func116, Try.ntmps116
   go_wp2
   go_ret
   exact ⟨rq, bq HB.out⟩
 have c3b2 : (l0.length == l1.length) = true := by first | simpa using c3 | (simp at c3 ⊢; omega)
 clear c3
 have H' := am H
 clear H
 go_enter Try.func116, Try.ntmps116
 go_wp2
 go_loopg [13] k (fun kq v13 w' => ∃ (x13_1 : Int), v13 = .int .i64 x13_1 ∧ Aside0 (impl_SameBinds.l0 kq l0 l1 (l0.length : Int) x13_1 = some r) ∧ Aside0 (kq ≤ k) ∧ Aside0 (Below w.heap.size w w'))
 case atStart => exact ⟨(0), sq, H', ⟨Nat.le_refl _⟩, ⟨bq HB.out⟩⟩
 case round =>
  clear H'
  try clear c1
  try clear p2
  try clear c3
  try clear c3b0
  try clear c3b1
  try clear c3b2
  obtain ⟨x13_1, rfl, HA, HK1, HB⟩ := hrel
  cases gk with
  | zero => exact absurd HA.out (by simp [impl_SameBinds.l0])
  | succ k1 =>
   have H := HA.out
   clear HA
   simp only [impl_SameBinds.l0] at H
   replace H := il' H
   rcases H with ⟨-, c4b0, H⟩ | ⟨-, c4b0, H⟩
   · obtain rfl := Option.some.inj H
     go_wp2
     go_ret
     exact ⟨rq, bq HB.out⟩
   replace H := nl H
   obtain ⟨-, c5b0, H⟩ := H
   replace H := nl H
   obtain ⟨-, c6b0, H⟩ := H
   replace H := nl H
   obtain ⟨-, c7b0, H⟩ := H
   replace H := be H
   obtain ⟨t880, A8, H⟩ := H
   cases t880
   · replace H := iF H
     obtain rfl := Option.some.inj H
     try go_wp2
     replace HB := am (below_drew1 HB.out)
     have p878 : 0 ≤ (x13_1 : Int) := oda
     have q878 : x13_1 < (l0.length : Int) := oda
     obtain ⟨ad878, A878_0, c878_0, A878_4, c878_4, e878, hx878_0, hx878_1, hx878_2, hx878_3, hx878_4, hl878_0, hi878_0, hl878_4, hi878_4⟩ := at_T116 HR0.out x13_1 p878 q878
     have hw878_4 := hx878_4
     have hw878_3 := hx878_3
     have hw878_2 := hx878_2
     have hw878_1 := hx878_1
     have hw878_0 := hx878_0
     cases e878
     replace hx878_0 := (HB.out.cell (World.block_lt_of_cell? w _ hx878_0)).trans hx878_0
     replace hx878_1 := (HB.out.cell (World.block_lt_of_cell? w _ hx878_1)).trans hx878_1
     replace hx878_2 := (HB.out.cell (World.block_lt_of_cell? w _ hx878_2)).trans hx878_2
     replace hx878_3 := (HB.out.cell (World.block_lt_of_cell? w _ hx878_3)).trans hx878_3
     replace hx878_4 := (HB.out.cell (World.block_lt_of_cell? w _ hx878_4)).trans hx878_4
     have HR878_0 := am hi878_0
     have HC878_0 := am hl878_0
     clear hi878_0 hl878_0
     have HR878_4 := am hi878_4
     have HC878_4 := am hl878_4
     clear hi878_4 hl878_4
     replace p878 := eq_true p878
     replace q878 := eq_true q878
     have p879 : 0 ≤ (x13_1 : Int) := oda
     have q879 : x13_1 < (l1.length : Int) := oda
     obtain ⟨ad879, A879_0, c879_0, A879_4, c879_4, e879, hx879_0, hx879_1, hx879_2, hx879_3, hx879_4, hl879_0, hi879_0, hl879_4, hi879_4⟩ := at_T116 HR1.out x13_1 p879 q879
     have hw879_4 := hx879_4
     have hw879_3 := hx879_3
     have hw879_2 := hx879_2
     have hw879_1 := hx879_1
     have hw879_0 := hx879_0
     cases e879
     replace hx879_0 := (HB.out.cell (World.block_lt_of_cell? w _ hx879_0)).trans hx879_0
     replace hx879_1 := (HB.out.cell (World.block_lt_of_cell? w _ hx879_1)).trans hx879_1
     replace hx879_2 := (HB.out.cell (World.block_lt_of_cell? w _ hx879_2)).trans hx879_2
     replace hx879_3 := (HB.out.cell (World.block_lt_of_cell? w _ hx879_3)).trans hx879_3
     replace hx879_4 := (HB.out.cell (World.block_lt_of_cell? w _ hx879_4)).trans hx879_4
     have HR879_0 := am hi879_0
     have HC879_0 := am hl879_0
     clear hi879_0 hl879_0
     have HR879_4 := am hi879_4
     have HC879_4 := am hl879_4
     clear hi879_4 hl879_4
     replace p879 := eq_true p879
     replace q879 := eq_true q879
     refine start_ (n := 26) (S := fun w' => w'.cell? (ad878.add ((x13_1).toNat * 5)) = some (.slice A878_0 ((rd_T116 l0 x13_1).f0).length c878_0) ∧ w'.cell? ⟨(ad878.add ((x13_1).toNat * 5)).block, (ad878.add ((x13_1).toNat * 5)).off + 1, none⟩ = some (.int .i64 ((rd_T116 l0 x13_1).f1.f0)) ∧ w'.cell? ⟨(ad878.add ((x13_1).toNat * 5)).block, (ad878.add ((x13_1).toNat * 5)).off + 2, none⟩ = some (.int .i64 ((rd_T116 l0 x13_1).f1.f1)) ∧ w'.cell? ⟨(ad878.add ((x13_1).toNat * 5)).block, (ad878.add ((x13_1).toNat * 5)).off + 3, none⟩ = some (.string ((rd_T116 l0 x13_1).f1.f2)) ∧ w'.cell? ⟨(ad878.add ((x13_1).toNat * 5)).block, (ad878.add ((x13_1).toNat * 5)).off + 4, none⟩ = some (.slice A878_4 ((rd_T116 l0 x13_1).f1.f3).length c878_4) ∧ w'.cell? (ad879.add ((x13_1).toNat * 5)) = some (.slice A879_0 ((rd_T116 l1 x13_1).f0).length c879_0) ∧ w'.cell? ⟨(ad879.add ((x13_1).toNat * 5)).block, (ad879.add ((x13_1).toNat * 5)).off + 1, none⟩ = some (.int .i64 ((rd_T116 l1 x13_1).f1.f0)) ∧ w'.cell? ⟨(ad879.add ((x13_1).toNat * 5)).block, (ad879.add ((x13_1).toNat * 5)).off + 2, none⟩ = some (.int .i64 ((rd_T116 l1 x13_1).f1.f1)) ∧ w'.cell? ⟨(ad879.add ((x13_1).toNat * 5)).block, (ad879.add ((x13_1).toNat * 5)).off + 3, none⟩ = some (.string ((rd_T116 l1 x13_1).f1.f2)) ∧ w'.cell? ⟨(ad879.add ((x13_1).toNat * 5)).block, (ad879.add ((x13_1).toNat * 5)).off + 4, none⟩ = some (.slice A879_4 ((rd_T116 l1 x13_1).f1.f3).length c879_4)) (ds := []) #[F,F,F,F,F,F,F,F,F,F,F,F,F,F,F,F,F,F,F,F,F,F,F,F,F,F] (by kernel_rfl) rfl rfl ⟨((HB.out.cell (World.block_lt_of_cell? w _ hw878_0)).trans hw878_0), ((HB.out.cell (World.block_lt_of_cell? w _ hw878_1)).trans hw878_1), ((HB.out.cell (World.block_lt_of_cell? w _ hw878_2)).trans hw878_2), ((HB.out.cell (World.block_lt_of_cell? w _ hw878_3)).trans hw878_3), ((HB.out.cell (World.block_lt_of_cell? w _ hw878_4)).trans hw878_4), ((HB.out.cell (World.block_lt_of_cell? w _ hw879_0)).trans hw879_0), ((HB.out.cell (World.block_lt_of_cell? w _ hw879_1)).trans hw879_1), ((HB.out.cell (World.block_lt_of_cell? w _ hw879_2)).trans hw879_2), ((HB.out.cell (World.block_lt_of_cell? w _ hw879_3)).trans hw879_3), ((HB.out.cell (World.block_lt_of_cell? w _ hw879_4)).trans hw879_4)⟩ (fun hHeld => ?_); refine with_tabW impl_SameBinds.tab6 impl_SameBinds.bits6 (fun HT_ HW_ => ?_)
     generalize wr.drew = w16 at HB HR878_0 HR878_4 HR879_0 HR879_4 hx878_0 hx878_1 hx878_2 hx878_3 hx878_4 hx879_0 hx879_1 hx879_2 hx879_3 hx879_4 hHeld ⊢
     refine pv HT_ 0 (some 16) #[T,F,F,F,F,F,F,F,F,F,F,F,F,F,F,F,F,F,F,F,F,F,F,F,F,F] ?_
     refine pv HT_ 1 (some 17) #[T,T,F,F,F,F,F,F,F,F,F,F,F,F,F,F,F,F,F,F,F,F,F,F,F,F] ?_
     refine pv HT_ 2 (some 18) #[T,T,T,F,F,F,F,F,F,F,F,F,F,F,F,F,F,F,F,F,F,F,F,F,F,F] ?_
     refine pv HT_ 3 (some 19) #[T,T,T,T,F,F,F,F,F,F,F,F,F,F,F,F,F,F,F,F,F,F,F,F,F,F] ?_
     refine pv HT_ 5 (some 21) #[T,T,T,T,F,T,F,F,F,F,F,F,F,F,F,F,F,F,F,F,F,F,F,F,F,F] ?_
     refine pv HT_ 6 (some 22) #[T,T,T,T,F,T,T,F,F,F,F,F,F,F,F,F,F,F,F,F,F,F,F,F,F,F] ?_
     refine pv HT_ 7 (some 23) #[T,T,T,T,F,T,T,T,F,F,F,F,F,F,F,F,F,F,F,F,F,F,F,F,F,F] ?_
     refine pv HT_ 8 (some 24) #[T,T,T,T,F,T,T,T,T,F,F,F,F,F,F,F,F,F,F,F,F,F,F,F,F,F] ?_
     refine tk 4 (some 20) #[T,T,T,T,T,T,T,T,T,F,F,F,F,F,F,F,F,F,F,F,F,F,F,F,F,F] rfl rfl (take_ofW HT_.out HW_.out (by kernel_rfl)) hHeld (Or.inl ⟨by rfl, by rintro w' ⟨s0, s1, s2, s3, s4, s5, s6, s7, s8, s9⟩; go_simp; with_reducible rfl⟩) ?_
     refine tk 9 (some 25) #[T,T,T,T,T,T,T,T,T,T,F,F,F,F,F,F,F,F,F,F,F,F,F,F,F,F] rfl rfl (take_ofW HT_.out HW_.out (by kernel_rfl)) hHeld (Or.inl ⟨by rfl, by rintro w' ⟨s0, s1, s2, s3, s4, s5, s6, s7, s8, s9⟩; go_simp; with_reducible rfl⟩) ?_
     refine one_ (i := 10) (N := some 26) #[T,T,T,T,T,T,T,T,T,T,T,F,F,F,F,F,F,F,F,F,F,F,F,F,F,F] rfl rfl (one_of HT_.out (by kernel_rfl)) (by decide) (fun K hK => ?_)
     refine goes_ Try.func112 (by kernel_rfl) rfl #[.slice A878_0 ((rd_T116 l0 x13_1).f0).length c878_0, .slice A879_0 ((rd_T116 l1 x13_1).f0).length c879_0] (by rfl) rfl rfl ga ?_
     with_reducible refine (impl_SameOid.calls k1 _ _ ((rd_T116 l0 x13_1).f0) _ _ ((rd_T116 l1 x13_1).f0) false _ ?side1 ?side2 ?side3 ?side4 A8.out).mono ?_
     (case side1 => exact cq (Kd.C_below HR878_0.out HB.out))
     (case side2 => exact HC878_0.out)
     (case side3 => exact cq (Kd.C_below HR879_0.out HB.out))
     (case side4 => exact HC879_0.out)
     rintro e w' ⟨rfl, ⟨nd, rfl⟩⟩
     refine ⟨_, rfl, ?_⟩
     refine hK.out _ _ ⟨((HB.out.cell (World.block_lt_of_cell? w _ hw878_0)).trans hw878_0), ((HB.out.cell (World.block_lt_of_cell? w _ hw878_1)).trans hw878_1), ((HB.out.cell (World.block_lt_of_cell? w _ hw878_2)).trans hw878_2), ((HB.out.cell (World.block_lt_of_cell? w _ hw878_3)).trans hw878_3), ((HB.out.cell (World.block_lt_of_cell? w _ hw878_4)).trans hw878_4), ((HB.out.cell (World.block_lt_of_cell? w _ hw879_0)).trans hw879_0), ((HB.out.cell (World.block_lt_of_cell? w _ hw879_1)).trans hw879_1), ((HB.out.cell (World.block_lt_of_cell? w _ hw879_2)).trans hw879_2), ((HB.out.cell (World.block_lt_of_cell? w _ hw879_3)).trans hw879_3), ((HB.out.cell (World.block_lt_of_cell? w _ hw879_4)).trans hw879_4)⟩ (fun hHeld => ?_)
     clear hK K
     refine norm_ (a' := ?_) ?_ ?_
     rotate_left
     · show Act.put _ (some 26) _ = _
       simp only [Act.put, List.setIfInBounds_toArray, List.set_cons_zero, List.set_cons_succ, i64_w, i32_w]
       rfl
     refine pv HT_ 11 (some 27) #[T,T,T,T,T,T,T,T,T,T,T,T,F,F,F,F,F,F,F,F,F,F,F,F,F,F] ?_
     refine pv HT_ 12 (some 28) #[T,T,T,T,T,T,T,T,T,T,T,T,T,F,F,F,F,F,F,F,F,F,F,F,F,F] ?_
     refine pure_ (i := 13) (N := some 29) (v := undef) (a' := ?_) #[T,T,T,T,T,T,T,T,T,T,T,T,T,T,F,F,F,F,F,F,F,F,F,F,F,F] rfl rfl (any_of HT_.out (by kernel_rfl)) (fun _ _ _ h => h) (Or.inr ⟨by rfl, rfl⟩) ?_ ?_
     rotate_left
     · simp only [Act.put, List.setIfInBounds_toArray, List.set_cons_zero, List.set_cons_succ, i64_w, i32_w]
       rfl
     refine pure_ (i := 14) (N := some 30) (v := undef) (a' := ?_) #[T,T,T,T,T,T,T,T,T,T,T,T,T,T,T,F,F,F,F,F,F,F,F,F,F,F] rfl rfl (any_of HT_.out (by kernel_rfl)) (fun _ _ _ h => h) (Or.inr ⟨by rfl, rfl⟩) ?_ ?_
     rotate_left
     · simp only [Act.put, List.setIfInBounds_toArray, List.set_cons_zero, List.set_cons_succ, i64_w, i32_w]
       rfl
     refine pure_ (i := 15) (N := some 31) (v := undef) (a' := ?_) #[T,T,T,T,T,T,T,T,T,T,T,T,T,T,T,T,F,F,F,F,F,F,F,F,F,F] rfl rfl (any_of HT_.out (by kernel_rfl)) (fun _ _ _ h => h) (Or.inr ⟨by rfl, rfl⟩) ?_ ?_
     rotate_left
     · simp only [Act.put, List.setIfInBounds_toArray, List.set_cons_zero, List.set_cons_succ, i64_w, i32_w]
       rfl
     refine pure_ (i := 16) (N := some 32) (v := undef) (a' := ?_) #[T,T,T,T,T,T,T,T,T,T,T,T,T,T,T,T,T,F,F,F,F,F,F,F,F,F] rfl rfl (any_of HT_.out (by kernel_rfl)) (fun _ _ _ h => h) (Or.inr ⟨by rfl, rfl⟩) ?_ ?_
     rotate_left
     · simp only [Act.put, List.setIfInBounds_toArray, List.set_cons_zero, List.set_cons_succ, i64_w, i32_w]
       rfl
     refine pure_ (i := 17) (N := some 33) (v := undef) (a' := ?_) #[T,T,T,T,T,T,T,T,T,T,T,T,T,T,T,T,T,T,F,F,F,F,F,F,F,F] rfl rfl (any_of HT_.out (by kernel_rfl)) (fun _ _ _ h => h) (Or.inr ⟨by rfl, rfl⟩) ?_ ?_
     rotate_left
     · simp only [Act.put, List.setIfInBounds_toArray, List.set_cons_zero, List.set_cons_succ, i64_w, i32_w]
       rfl
     refine pure_ (i := 18) (N := some 34) (v := undef) (a' := ?_) #[T,T,T,T,T,T,T,T,T,T,T,T,T,T,T,T,T,T,T,F,F,F,F,F,F,F] rfl rfl (any_of HT_.out (by kernel_rfl)) (fun _ _ _ h => h) (Or.inr ⟨by rfl, rfl⟩) ?_ ?_
     rotate_left
     · simp only [Act.put, List.setIfInBounds_toArray, List.set_cons_zero, List.set_cons_succ, i64_w, i32_w]
       rfl
     refine pure_ (i := 19) (N := some 35) (v := undef) (a' := ?_) #[T,T,T,T,T,T,T,T,T,T,T,T,T,T,T,T,T,T,T,T,F,F,F,F,F,F] rfl rfl (any_of HT_.out (by kernel_rfl)) (fun _ _ _ h => h) (Or.inr ⟨by rfl, rfl⟩) ?_ ?_
     rotate_left
     · simp only [Act.put, List.setIfInBounds_toArray, List.set_cons_zero, List.set_cons_succ, i64_w, i32_w]
       rfl
     refine pure_ (i := 20) (N := some 36) (v := undef) (a' := ?_) #[T,T,T,T,T,T,T,T,T,T,T,T,T,T,T,T,T,T,T,T,T,F,F,F,F,F] rfl rfl (any_of HT_.out (by kernel_rfl)) (fun _ _ _ h => h) (Or.inr ⟨by rfl, rfl⟩) ?_ ?_
     rotate_left
     · simp only [Act.put, List.setIfInBounds_toArray, List.set_cons_zero, List.set_cons_succ, i64_w, i32_w]
       rfl
     refine pure_ (i := 21) (N := some 37) (v := undef) (a' := ?_) #[T,T,T,T,T,T,T,T,T,T,T,T,T,T,T,T,T,T,T,T,T,T,F,F,F,F] rfl rfl (any_of HT_.out (by kernel_rfl)) (fun _ _ _ h => h) (Or.inr ⟨by rfl, rfl⟩) ?_ ?_
     rotate_left
     · simp only [Act.put, List.setIfInBounds_toArray, List.set_cons_zero, List.set_cons_succ, i64_w, i32_w]
       rfl
     refine pure_ (i := 22) (N := some 38) (v := undef) (a' := ?_) #[T,T,T,T,T,T,T,T,T,T,T,T,T,T,T,T,T,T,T,T,T,T,T,F,F,F] rfl rfl (any_of HT_.out (by kernel_rfl)) (fun _ _ _ h => h) (Or.inr ⟨by rfl, rfl⟩) ?_ ?_
     rotate_left
     · simp only [Act.put, List.setIfInBounds_toArray, List.set_cons_zero, List.set_cons_succ, i64_w, i32_w]
       rfl
     refine pure_ (i := 23) (N := some 39) (v := undef) (a' := ?_) #[T,T,T,T,T,T,T,T,T,T,T,T,T,T,T,T,T,T,T,T,T,T,T,T,F,F] rfl rfl (any_of HT_.out (by kernel_rfl)) (fun _ _ _ h => h) (Or.inr ⟨by rfl, rfl⟩) ?_ ?_
     rotate_left
     · simp only [Act.put, List.setIfInBounds_toArray, List.set_cons_zero, List.set_cons_succ, i64_w, i32_w]
       rfl
     refine pure_ (i := 24) (N := some 40) (v := undef) (a' := ?_) #[T,T,T,T,T,T,T,T,T,T,T,T,T,T,T,T,T,T,T,T,T,T,T,T,T,F] rfl rfl (any_of HT_.out (by kernel_rfl)) (fun _ _ _ h => h) (Or.inr ⟨by rfl, rfl⟩) ?_ ?_
     rotate_left
     · simp only [Act.put, List.setIfInBounds_toArray, List.set_cons_zero, List.set_cons_succ, i64_w, i32_w]
       rfl
     refine pv HT_ 25 (some 41) #[T,T,T,T,T,T,T,T,T,T,T,T,T,T,T,T,T,T,T,T,T,T,T,T,T,T] ?_
     refine done_ (done_of HT_.out (by kernel_rfl)) ?_
     try go_wp2
     go_ret
     exact ⟨rq, bq HB.out⟩
   replace H := iT H
   replace H := be H
   obtain ⟨qa1_0, Qa1, H⟩ := H
   cases qa1_0
   · replace H := iF H
     obtain rfl := Option.some.inj H
     try go_wp2
     replace HB := am (below_drew1 HB.out)
     have p878 : 0 ≤ (x13_1 : Int) := oda
     have q878 : x13_1 < (l0.length : Int) := oda
     obtain ⟨ad878, A878_0, c878_0, A878_4, c878_4, e878, hx878_0, hx878_1, hx878_2, hx878_3, hx878_4, hl878_0, hi878_0, hl878_4, hi878_4⟩ := at_T116 HR0.out x13_1 p878 q878
     have hw878_4 := hx878_4
     have hw878_3 := hx878_3
     have hw878_2 := hx878_2
     have hw878_1 := hx878_1
     have hw878_0 := hx878_0
     cases e878
     replace hx878_0 := (HB.out.cell (World.block_lt_of_cell? w _ hx878_0)).trans hx878_0
     replace hx878_1 := (HB.out.cell (World.block_lt_of_cell? w _ hx878_1)).trans hx878_1
     replace hx878_2 := (HB.out.cell (World.block_lt_of_cell? w _ hx878_2)).trans hx878_2
     replace hx878_3 := (HB.out.cell (World.block_lt_of_cell? w _ hx878_3)).trans hx878_3
     replace hx878_4 := (HB.out.cell (World.block_lt_of_cell? w _ hx878_4)).trans hx878_4
     have HR878_0 := am hi878_0
     have HC878_0 := am hl878_0
     clear hi878_0 hl878_0
     have HR878_4 := am hi878_4
     have HC878_4 := am hl878_4
     clear hi878_4 hl878_4
     replace p878 := eq_true p878
     replace q878 := eq_true q878
     have p879 : 0 ≤ (x13_1 : Int) := oda
     have q879 : x13_1 < (l1.length : Int) := oda
     obtain ⟨ad879, A879_0, c879_0, A879_4, c879_4, e879, hx879_0, hx879_1, hx879_2, hx879_3, hx879_4, hl879_0, hi879_0, hl879_4, hi879_4⟩ := at_T116 HR1.out x13_1 p879 q879
     have hw879_4 := hx879_4
     have hw879_3 := hx879_3
     have hw879_2 := hx879_2
     have hw879_1 := hx879_1
     have hw879_0 := hx879_0
     cases e879
     replace hx879_0 := (HB.out.cell (World.block_lt_of_cell? w _ hx879_0)).trans hx879_0
     replace hx879_1 := (HB.out.cell (World.block_lt_of_cell? w _ hx879_1)).trans hx879_1
     replace hx879_2 := (HB.out.cell (World.block_lt_of_cell? w _ hx879_2)).trans hx879_2
     replace hx879_3 := (HB.out.cell (World.block_lt_of_cell? w _ hx879_3)).trans hx879_3
     replace hx879_4 := (HB.out.cell (World.block_lt_of_cell? w _ hx879_4)).trans hx879_4
     have HR879_0 := am hi879_0
     have HC879_0 := am hl879_0
     clear hi879_0 hl879_0
     have HR879_4 := am hi879_4
     have HC879_4 := am hl879_4
     clear hi879_4 hl879_4
     replace p879 := eq_true p879
     replace q879 := eq_true q879
     have p881 : 0 ≤ (x13_1 : Int) := oda
     have q881 : x13_1 < (l0.length : Int) := oda
     obtain ⟨ad881, A881_0, c881_0, A881_4, c881_4, e881, hx881_0, hx881_1, hx881_2, hx881_3, hx881_4, hl881_0, hi881_0, hl881_4, hi881_4⟩ := at_T116 HR0.out x13_1 p881 q881
     have hw881_4 := hx881_4
     have hw881_3 := hx881_3
     have hw881_2 := hx881_2
     have hw881_1 := hx881_1
     have hw881_0 := hx881_0
     obtain rfl : ad878 = ad881 := (by injection e881)
     replace hx881_0 := (HB.out.cell (World.block_lt_of_cell? w _ hx881_0)).trans hx881_0
     replace hx881_1 := (HB.out.cell (World.block_lt_of_cell? w _ hx881_1)).trans hx881_1
     replace hx881_2 := (HB.out.cell (World.block_lt_of_cell? w _ hx881_2)).trans hx881_2
     replace hx881_3 := (HB.out.cell (World.block_lt_of_cell? w _ hx881_3)).trans hx881_3
     replace hx881_4 := (HB.out.cell (World.block_lt_of_cell? w _ hx881_4)).trans hx881_4
     have HR881_0 := am hi881_0
     have HC881_0 := am hl881_0
     clear hi881_0 hl881_0
     have HR881_4 := am hi881_4
     have HC881_4 := am hl881_4
     clear hi881_4 hl881_4
     replace p881 := eq_true p881
     replace q881 := eq_true q881
     have ea_ := Option.some.inj (hx878_0.symm.trans hx881_0)
     injection ea_ with ea_ en_ ec_
     subst ea_
     subst ec_
     clear en_
     have ea_ := Option.some.inj (hx878_4.symm.trans hx881_4)
     injection ea_ with ea_ en_ ec_
     subst ea_
     subst ec_
     clear en_
     have p882 : 0 ≤ (x13_1 : Int) := oda
     have q882 : x13_1 < (l1.length : Int) := oda
     obtain ⟨ad882, A882_0, c882_0, A882_4, c882_4, e882, hx882_0, hx882_1, hx882_2, hx882_3, hx882_4, hl882_0, hi882_0, hl882_4, hi882_4⟩ := at_T116 HR1.out x13_1 p882 q882
     have hw882_4 := hx882_4
     have hw882_3 := hx882_3
     have hw882_2 := hx882_2
     have hw882_1 := hx882_1
     have hw882_0 := hx882_0
     obtain rfl : ad879 = ad882 := (by injection e882)
     replace hx882_0 := (HB.out.cell (World.block_lt_of_cell? w _ hx882_0)).trans hx882_0
     replace hx882_1 := (HB.out.cell (World.block_lt_of_cell? w _ hx882_1)).trans hx882_1
     replace hx882_2 := (HB.out.cell (World.block_lt_of_cell? w _ hx882_2)).trans hx882_2
     replace hx882_3 := (HB.out.cell (World.block_lt_of_cell? w _ hx882_3)).trans hx882_3
     replace hx882_4 := (HB.out.cell (World.block_lt_of_cell? w _ hx882_4)).trans hx882_4
     have HR882_0 := am hi882_0
     have HC882_0 := am hl882_0
     clear hi882_0 hl882_0
     have HR882_4 := am hi882_4
     have HC882_4 := am hl882_4
     clear hi882_4 hl882_4
     replace p882 := eq_true p882
     replace q882 := eq_true q882
     have ea_ := Option.some.inj (hx879_0.symm.trans hx882_0)
     injection ea_ with ea_ en_ ec_
     subst ea_
     subst ec_
     clear en_
     have ea_ := Option.some.inj (hx879_4.symm.trans hx882_4)
     injection ea_ with ea_ en_ ec_
     subst ea_
     subst ec_
     clear en_
     refine start_ (n := 26) (S := fun w' => w'.cell? (ad878.add ((x13_1).toNat * 5)) = some (.slice A878_0 ((rd_T116 l0 x13_1).f0).length c878_0) ∧ w'.cell? ⟨(ad878.add ((x13_1).toNat * 5)).block, (ad878.add ((x13_1).toNat * 5)).off + 1, none⟩ = some (.int .i64 ((rd_T116 l0 x13_1).f1.f0)) ∧ w'.cell? ⟨(ad878.add ((x13_1).toNat * 5)).block, (ad878.add ((x13_1).toNat * 5)).off + 2, none⟩ = some (.int .i64 ((rd_T116 l0 x13_1).f1.f1)) ∧ w'.cell? ⟨(ad878.add ((x13_1).toNat * 5)).block, (ad878.add ((x13_1).toNat * 5)).off + 3, none⟩ = some (.string ((rd_T116 l0 x13_1).f1.f2)) ∧ w'.cell? ⟨(ad878.add ((x13_1).toNat * 5)).block, (ad878.add ((x13_1).toNat * 5)).off + 4, none⟩ = some (.slice A878_4 ((rd_T116 l0 x13_1).f1.f3).length c878_4) ∧ w'.cell? (ad879.add ((x13_1).toNat * 5)) = some (.slice A879_0 ((rd_T116 l1 x13_1).f0).length c879_0) ∧ w'.cell? ⟨(ad879.add ((x13_1).toNat * 5)).block, (ad879.add ((x13_1).toNat * 5)).off + 1, none⟩ = some (.int .i64 ((rd_T116 l1 x13_1).f1.f0)) ∧ w'.cell? ⟨(ad879.add ((x13_1).toNat * 5)).block, (ad879.add ((x13_1).toNat * 5)).off + 2, none⟩ = some (.int .i64 ((rd_T116 l1 x13_1).f1.f1)) ∧ w'.cell? ⟨(ad879.add ((x13_1).toNat * 5)).block, (ad879.add ((x13_1).toNat * 5)).off + 3, none⟩ = some (.string ((rd_T116 l1 x13_1).f1.f2)) ∧ w'.cell? ⟨(ad879.add ((x13_1).toNat * 5)).block, (ad879.add ((x13_1).toNat * 5)).off + 4, none⟩ = some (.slice A879_4 ((rd_T116 l1 x13_1).f1.f3).length c879_4) ∧ w'.cell? (ad878.add ((x13_1).toNat * 5)) = some (.slice A878_0 ((rd_T116 l0 x13_1).f0).length c878_0) ∧ w'.cell? ⟨(ad878.add ((x13_1).toNat * 5)).block, (ad878.add ((x13_1).toNat * 5)).off + 1, none⟩ = some (.int .i64 ((rd_T116 l0 x13_1).f1.f0)) ∧ w'.cell? ⟨(ad878.add ((x13_1).toNat * 5)).block, (ad878.add ((x13_1).toNat * 5)).off + 2, none⟩ = some (.int .i64 ((rd_T116 l0 x13_1).f1.f1)) ∧ w'.cell? ⟨(ad878.add ((x13_1).toNat * 5)).block, (ad878.add ((x13_1).toNat * 5)).off + 3, none⟩ = some (.string ((rd_T116 l0 x13_1).f1.f2)) ∧ w'.cell? ⟨(ad878.add ((x13_1).toNat * 5)).block, (ad878.add ((x13_1).toNat * 5)).off + 4, none⟩ = some (.slice A878_4 ((rd_T116 l0 x13_1).f1.f3).length c878_4) ∧ w'.cell? (ad879.add ((x13_1).toNat * 5)) = some (.slice A879_0 ((rd_T116 l1 x13_1).f0).length c879_0) ∧ w'.cell? ⟨(ad879.add ((x13_1).toNat * 5)).block, (ad879.add ((x13_1).toNat * 5)).off + 1, none⟩ = some (.int .i64 ((rd_T116 l1 x13_1).f1.f0)) ∧ w'.cell? ⟨(ad879.add ((x13_1).toNat * 5)).block, (ad879.add ((x13_1).toNat * 5)).off + 2, none⟩ = some (.int .i64 ((rd_T116 l1 x13_1).f1.f1)) ∧ w'.cell? ⟨(ad879.add ((x13_1).toNat * 5)).block, (ad879.add ((x13_1).toNat * 5)).off + 3, none⟩ = some (.string ((rd_T116 l1 x13_1).f1.f2)) ∧ w'.cell? ⟨(ad879.add ((x13_1).toNat * 5)).block, (ad879.add ((x13_1).toNat * 5)).off + 4, none⟩ = some (.slice A879_4 ((rd_T116 l1 x13_1).f1.f3).length c879_4)) (ds := []) #[F,F,F,F,F,F,F,F,F,F,F,F,F,F,F,F,F,F,F,F,F,F,F,F,F,F] (by kernel_rfl) rfl rfl ⟨((HB.out.cell (World.block_lt_of_cell? w _ hw878_0)).trans hw878_0), ((HB.out.cell (World.block_lt_of_cell? w _ hw878_1)).trans hw878_1), ((HB.out.cell (World.block_lt_of_cell? w _ hw878_2)).trans hw878_2), ((HB.out.cell (World.block_lt_of_cell? w _ hw878_3)).trans hw878_3), ((HB.out.cell (World.block_lt_of_cell? w _ hw878_4)).trans hw878_4), ((HB.out.cell (World.block_lt_of_cell? w _ hw879_0)).trans hw879_0), ((HB.out.cell (World.block_lt_of_cell? w _ hw879_1)).trans hw879_1), ((HB.out.cell (World.block_lt_of_cell? w _ hw879_2)).trans hw879_2), ((HB.out.cell (World.block_lt_of_cell? w _ hw879_3)).trans hw879_3), ((HB.out.cell (World.block_lt_of_cell? w _ hw879_4)).trans hw879_4), ((HB.out.cell (World.block_lt_of_cell? w _ hw881_0)).trans hw881_0), ((HB.out.cell (World.block_lt_of_cell? w _ hw881_1)).trans hw881_1), ((HB.out.cell (World.block_lt_of_cell? w _ hw881_2)).trans hw881_2), ((HB.out.cell (World.block_lt_of_cell? w _ hw881_3)).trans hw881_3), ((HB.out.cell (World.block_lt_of_cell? w _ hw881_4)).trans hw881_4), ((HB.out.cell (World.block_lt_of_cell? w _ hw882_0)).trans hw882_0), ((HB.out.cell (World.block_lt_of_cell? w _ hw882_1)).trans hw882_1), ((HB.out.cell (World.block_lt_of_cell? w _ hw882_2)).trans hw882_2), ((HB.out.cell (World.block_lt_of_cell? w _ hw882_3)).trans hw882_3), ((HB.out.cell (World.block_lt_of_cell? w _ hw882_4)).trans hw882_4)⟩ (fun hHeld => ?_); refine with_tabW impl_SameBinds.tab6 impl_SameBinds.bits6 (fun HT_ HW_ => ?_)
     generalize wr.drew = w14 at HB HR878_0 HR878_4 HR879_0 HR879_4 HR881_0 HR881_4 HR882_0 HR882_4 hx878_0 hx878_1 hx878_2 hx878_3 hx878_4 hx879_0 hx879_1 hx879_2 hx879_3 hx879_4 hx881_0 hx881_1 hx881_2 hx881_3 hx881_4 hx882_0 hx882_1 hx882_2 hx882_3 hx882_4 hHeld ⊢
     refine pv HT_ 0 (some 16) #[T,F,F,F,F,F,F,F,F,F,F,F,F,F,F,F,F,F,F,F,F,F,F,F,F,F] ?_
     refine pv HT_ 1 (some 17) #[T,T,F,F,F,F,F,F,F,F,F,F,F,F,F,F,F,F,F,F,F,F,F,F,F,F] ?_
     refine pv HT_ 2 (some 18) #[T,T,T,F,F,F,F,F,F,F,F,F,F,F,F,F,F,F,F,F,F,F,F,F,F,F] ?_
     refine pv HT_ 3 (some 19) #[T,T,T,T,F,F,F,F,F,F,F,F,F,F,F,F,F,F,F,F,F,F,F,F,F,F] ?_
     refine pv HT_ 5 (some 21) #[T,T,T,T,F,T,F,F,F,F,F,F,F,F,F,F,F,F,F,F,F,F,F,F,F,F] ?_
     refine pv HT_ 6 (some 22) #[T,T,T,T,F,T,T,F,F,F,F,F,F,F,F,F,F,F,F,F,F,F,F,F,F,F] ?_
     refine pv HT_ 7 (some 23) #[T,T,T,T,F,T,T,T,F,F,F,F,F,F,F,F,F,F,F,F,F,F,F,F,F,F] ?_
     refine pv HT_ 8 (some 24) #[T,T,T,T,F,T,T,T,T,F,F,F,F,F,F,F,F,F,F,F,F,F,F,F,F,F] ?_
     refine tk 4 (some 20) #[T,T,T,T,T,T,T,T,T,F,F,F,F,F,F,F,F,F,F,F,F,F,F,F,F,F] rfl rfl (take_ofW HT_.out HW_.out (by kernel_rfl)) hHeld (Or.inl ⟨by rfl, by rintro w' ⟨s0, s1, s2, s3, s4, s5, s6, s7, s8, s9, s10, s11, s12, s13, s14, s15, s16, s17, s18, s19⟩; go_simp; with_reducible rfl⟩) ?_
     refine tk 9 (some 25) #[T,T,T,T,T,T,T,T,T,T,F,F,F,F,F,F,F,F,F,F,F,F,F,F,F,F] rfl rfl (take_ofW HT_.out HW_.out (by kernel_rfl)) hHeld (Or.inl ⟨by rfl, by rintro w' ⟨s0, s1, s2, s3, s4, s5, s6, s7, s8, s9, s10, s11, s12, s13, s14, s15, s16, s17, s18, s19⟩; go_simp; with_reducible rfl⟩) ?_
     refine one_ (i := 10) (N := some 26) #[T,T,T,T,T,T,T,T,T,T,T,F,F,F,F,F,F,F,F,F,F,F,F,F,F,F] rfl rfl (one_of HT_.out (by kernel_rfl)) (by decide) (fun K hK => ?_)
     refine goes_ Try.func112 (by kernel_rfl) rfl #[.slice A878_0 ((rd_T116 l0 x13_1).f0).length c878_0, .slice A879_0 ((rd_T116 l1 x13_1).f0).length c879_0] (by rfl) rfl rfl ga ?_
     with_reducible refine (impl_SameOid.calls k1 _ _ ((rd_T116 l0 x13_1).f0) _ _ ((rd_T116 l1 x13_1).f0) true _ ?side1 ?side2 ?side3 ?side4 A8.out).mono ?_
     (case side1 => exact cq (Kd.C_below HR878_0.out HB.out))
     (case side2 => exact HC878_0.out)
     (case side3 => exact cq (Kd.C_below HR879_0.out HB.out))
     (case side4 => exact HC879_0.out)
     rintro e w' ⟨rfl, ⟨nd, rfl⟩⟩
     refine ⟨_, rfl, ?_⟩
     refine hK.out _ _ ⟨((HB.out.cell (World.block_lt_of_cell? w _ hw878_0)).trans hw878_0), ((HB.out.cell (World.block_lt_of_cell? w _ hw878_1)).trans hw878_1), ((HB.out.cell (World.block_lt_of_cell? w _ hw878_2)).trans hw878_2), ((HB.out.cell (World.block_lt_of_cell? w _ hw878_3)).trans hw878_3), ((HB.out.cell (World.block_lt_of_cell? w _ hw878_4)).trans hw878_4), ((HB.out.cell (World.block_lt_of_cell? w _ hw879_0)).trans hw879_0), ((HB.out.cell (World.block_lt_of_cell? w _ hw879_1)).trans hw879_1), ((HB.out.cell (World.block_lt_of_cell? w _ hw879_2)).trans hw879_2), ((HB.out.cell (World.block_lt_of_cell? w _ hw879_3)).trans hw879_3), ((HB.out.cell (World.block_lt_of_cell? w _ hw879_4)).trans hw879_4), ((HB.out.cell (World.block_lt_of_cell? w _ hw881_0)).trans hw881_0), ((HB.out.cell (World.block_lt_of_cell? w _ hw881_1)).trans hw881_1), ((HB.out.cell (World.block_lt_of_cell? w _ hw881_2)).trans hw881_2), ((HB.out.cell (World.block_lt_of_cell? w _ hw881_3)).trans hw881_3), ((HB.out.cell (World.block_lt_of_cell? w _ hw881_4)).trans hw881_4), ((HB.out.cell (World.block_lt_of_cell? w _ hw882_0)).trans hw882_0), ((HB.out.cell (World.block_lt_of_cell? w _ hw882_1)).trans hw882_1), ((HB.out.cell (World.block_lt_of_cell? w _ hw882_2)).trans hw882_2), ((HB.out.cell (World.block_lt_of_cell? w _ hw882_3)).trans hw882_3), ((HB.out.cell (World.block_lt_of_cell? w _ hw882_4)).trans hw882_4)⟩ (fun hHeld => ?_)
     clear hK K
     refine norm_ (a' := ?_) ?_ ?_
     rotate_left
     · show Act.put _ (some 26) _ = _
       simp only [Act.put, List.setIfInBounds_toArray, List.set_cons_zero, List.set_cons_succ, i64_w, i32_w]
       rfl
     refine pv HT_ 11 (some 27) #[T,T,T,T,T,T,T,T,T,T,T,T,F,F,F,F,F,F,F,F,F,F,F,F,F,F] ?_
     refine pv HT_ 12 (some 28) #[T,T,T,T,T,T,T,T,T,T,T,T,T,F,F,F,F,F,F,F,F,F,F,F,F,F] ?_
     refine pv HT_ 13 (some 29) #[T,T,T,T,T,T,T,T,T,T,T,T,T,T,F,F,F,F,F,F,F,F,F,F,F,F] ?_
     refine pv HT_ 14 (some 30) #[T,T,T,T,T,T,T,T,T,T,T,T,T,T,T,F,F,F,F,F,F,F,F,F,F,F] ?_
     refine pv HT_ 15 (some 31) #[T,T,T,T,T,T,T,T,T,T,T,T,T,T,T,T,F,F,F,F,F,F,F,F,F,F] ?_
     refine pv HT_ 16 (some 32) #[T,T,T,T,T,T,T,T,T,T,T,T,T,T,T,T,T,F,F,F,F,F,F,F,F,F] ?_
     refine pv HT_ 18 (some 34) #[T,T,T,T,T,T,T,T,T,T,T,T,T,T,T,T,T,F,T,F,F,F,F,F,F,F] ?_
     refine pv HT_ 19 (some 35) #[T,T,T,T,T,T,T,T,T,T,T,T,T,T,T,T,T,F,T,T,F,F,F,F,F,F] ?_
     refine pv HT_ 20 (some 36) #[T,T,T,T,T,T,T,T,T,T,T,T,T,T,T,T,T,F,T,T,T,F,F,F,F,F] ?_
     refine pv HT_ 21 (some 37) #[T,T,T,T,T,T,T,T,T,T,T,T,T,T,T,T,T,F,T,T,T,T,F,F,F,F] ?_
     refine tk 17 (some 33) #[T,T,T,T,T,T,T,T,T,T,T,T,T,T,T,T,T,T,T,T,T,T,F,F,F,F] rfl rfl (take_ofW HT_.out HW_.out (by kernel_rfl)) hHeld (Or.inl ⟨by rfl, by rintro w' ⟨s0, s1, s2, s3, s4, s5, s6, s7, s8, s9, s10, s11, s12, s13, s14, s15, s16, s17, s18, s19⟩; go_simp; with_reducible rfl⟩) ?_
     refine tk 22 (some 38) #[T,T,T,T,T,T,T,T,T,T,T,T,T,T,T,T,T,T,T,T,T,T,T,F,F,F] rfl rfl (take_ofW HT_.out HW_.out (by kernel_rfl)) hHeld (Or.inl ⟨by rfl, by rintro w' ⟨s0, s1, s2, s3, s4, s5, s6, s7, s8, s9, s10, s11, s12, s13, s14, s15, s16, s17, s18, s19⟩; go_simp; with_reducible rfl⟩) ?_
     refine one_ (i := 23) (N := some 39) #[T,T,T,T,T,T,T,T,T,T,T,T,T,T,T,T,T,T,T,T,T,T,T,T,F,F] rfl rfl (one_of HT_.out (by kernel_rfl)) (by decide) (fun K hK => ?_)
     refine goes_ Try.func49 (by kernel_rfl) rfl #[.agg #[.int .i64 ((rd_T116 l0 x13_1).f1.f0), .int .i64 ((rd_T116 l0 x13_1).f1.f1), .string ((rd_T116 l0 x13_1).f1.f2), .slice A878_4 ((rd_T116 l0 x13_1).f1.f3).length c878_4], .agg #[.int .i64 ((rd_T116 l1 x13_1).f1.f0), .int .i64 ((rd_T116 l1 x13_1).f1.f1), .string ((rd_T116 l1 x13_1).f1.f2), .slice A879_4 ((rd_T116 l1 x13_1).f1.f3).length c879_4]] (by rfl) rfl rfl ga ?_
     with_reducible refine (impl_SameVal.calls k1 ((rd_T116 l0 x13_1).f1.f0) ((rd_T116 l0 x13_1).f1.f1) ((rd_T116 l0 x13_1).f1.f2) _ _ ((rd_T116 l0 x13_1).f1.f3) ((rd_T116 l1 x13_1).f1.f0) ((rd_T116 l1 x13_1).f1.f1) ((rd_T116 l1 x13_1).f1.f2) _ _ ((rd_T116 l1 x13_1).f1.f3) false _ ?side1 ?side2 ?side3 ?side4 Qa1.out).mono ?_
     (case side1 => exact cq (Kd.C_below HR881_4.out (bq HB.out)))
     (case side2 => exact HC881_4.out)
     (case side3 => exact cq (Kd.C_below HR882_4.out (bq HB.out)))
     (case side4 => exact HC882_4.out)
     rintro e w15 ⟨rfl, hb⟩
     refine ⟨_, rfl, ?_⟩
     replace HB := am (below_step (bq HB.out) hb)
     (try clear hb)
     refine hK.out _ _ ⟨((HB.out.cell (World.block_lt_of_cell? w _ hw878_0)).trans hw878_0), ((HB.out.cell (World.block_lt_of_cell? w _ hw878_1)).trans hw878_1), ((HB.out.cell (World.block_lt_of_cell? w _ hw878_2)).trans hw878_2), ((HB.out.cell (World.block_lt_of_cell? w _ hw878_3)).trans hw878_3), ((HB.out.cell (World.block_lt_of_cell? w _ hw878_4)).trans hw878_4), ((HB.out.cell (World.block_lt_of_cell? w _ hw879_0)).trans hw879_0), ((HB.out.cell (World.block_lt_of_cell? w _ hw879_1)).trans hw879_1), ((HB.out.cell (World.block_lt_of_cell? w _ hw879_2)).trans hw879_2), ((HB.out.cell (World.block_lt_of_cell? w _ hw879_3)).trans hw879_3), ((HB.out.cell (World.block_lt_of_cell? w _ hw879_4)).trans hw879_4), ((HB.out.cell (World.block_lt_of_cell? w _ hw881_0)).trans hw881_0), ((HB.out.cell (World.block_lt_of_cell? w _ hw881_1)).trans hw881_1), ((HB.out.cell (World.block_lt_of_cell? w _ hw881_2)).trans hw881_2), ((HB.out.cell (World.block_lt_of_cell? w _ hw881_3)).trans hw881_3), ((HB.out.cell (World.block_lt_of_cell? w _ hw881_4)).trans hw881_4), ((HB.out.cell (World.block_lt_of_cell? w _ hw882_0)).trans hw882_0), ((HB.out.cell (World.block_lt_of_cell? w _ hw882_1)).trans hw882_1), ((HB.out.cell (World.block_lt_of_cell? w _ hw882_2)).trans hw882_2), ((HB.out.cell (World.block_lt_of_cell? w _ hw882_3)).trans hw882_3), ((HB.out.cell (World.block_lt_of_cell? w _ hw882_4)).trans hw882_4)⟩ (fun hHeld => ?_)
     clear hK K
     refine norm_ (a' := ?_) ?_ ?_
     rotate_left
     · show Act.put _ (some 39) _ = _
       simp only [Act.put, List.setIfInBounds_toArray, List.set_cons_zero, List.set_cons_succ, i64_w, i32_w]
       rfl
     refine pv HT_ 24 (some 40) #[T,T,T,T,T,T,T,T,T,T,T,T,T,T,T,T,T,T,T,T,T,T,T,T,T,F] ?_
     refine pv HT_ 25 (some 41) #[T,T,T,T,T,T,T,T,T,T,T,T,T,T,T,T,T,T,T,T,T,T,T,T,T,T] ?_
     refine done_ (done_of HT_.out (by kernel_rfl)) ?_
     try go_wp2
     go_ret
     exact ⟨rq, bq HB.out⟩
   replace H := iT H
   have H' := am H
   clear H
   try go_wp2
   replace HB := am (below_drew1 HB.out)
   have p878 : 0 ≤ (x13_1 : Int) := oda
   have q878 : x13_1 < (l0.length : Int) := oda
   obtain ⟨ad878, A878_0, c878_0, A878_4, c878_4, e878, hx878_0, hx878_1, hx878_2, hx878_3, hx878_4, hl878_0, hi878_0, hl878_4, hi878_4⟩ := at_T116 HR0.out x13_1 p878 q878
   have hw878_4 := hx878_4
   have hw878_3 := hx878_3
   have hw878_2 := hx878_2
   have hw878_1 := hx878_1
   have hw878_0 := hx878_0
   cases e878
   replace hx878_0 := (HB.out.cell (World.block_lt_of_cell? w _ hx878_0)).trans hx878_0
   replace hx878_1 := (HB.out.cell (World.block_lt_of_cell? w _ hx878_1)).trans hx878_1
   replace hx878_2 := (HB.out.cell (World.block_lt_of_cell? w _ hx878_2)).trans hx878_2
   replace hx878_3 := (HB.out.cell (World.block_lt_of_cell? w _ hx878_3)).trans hx878_3
   replace hx878_4 := (HB.out.cell (World.block_lt_of_cell? w _ hx878_4)).trans hx878_4
   have HR878_0 := am hi878_0
   have HC878_0 := am hl878_0
   clear hi878_0 hl878_0
   have HR878_4 := am hi878_4
   have HC878_4 := am hl878_4
   clear hi878_4 hl878_4
   replace p878 := eq_true p878
   replace q878 := eq_true q878
   have p879 : 0 ≤ (x13_1 : Int) := oda
   have q879 : x13_1 < (l1.length : Int) := oda
   obtain ⟨ad879, A879_0, c879_0, A879_4, c879_4, e879, hx879_0, hx879_1, hx879_2, hx879_3, hx879_4, hl879_0, hi879_0, hl879_4, hi879_4⟩ := at_T116 HR1.out x13_1 p879 q879
   have hw879_4 := hx879_4
   have hw879_3 := hx879_3
   have hw879_2 := hx879_2
   have hw879_1 := hx879_1
   have hw879_0 := hx879_0
   cases e879
   replace hx879_0 := (HB.out.cell (World.block_lt_of_cell? w _ hx879_0)).trans hx879_0
   replace hx879_1 := (HB.out.cell (World.block_lt_of_cell? w _ hx879_1)).trans hx879_1
   replace hx879_2 := (HB.out.cell (World.block_lt_of_cell? w _ hx879_2)).trans hx879_2
   replace hx879_3 := (HB.out.cell (World.block_lt_of_cell? w _ hx879_3)).trans hx879_3
   replace hx879_4 := (HB.out.cell (World.block_lt_of_cell? w _ hx879_4)).trans hx879_4
   have HR879_0 := am hi879_0
   have HC879_0 := am hl879_0
   clear hi879_0 hl879_0
   have HR879_4 := am hi879_4
   have HC879_4 := am hl879_4
   clear hi879_4 hl879_4
   replace p879 := eq_true p879
   replace q879 := eq_true q879
   have p881 : 0 ≤ (x13_1 : Int) := oda
   have q881 : x13_1 < (l0.length : Int) := oda
   obtain ⟨ad881, A881_0, c881_0, A881_4, c881_4, e881, hx881_0, hx881_1, hx881_2, hx881_3, hx881_4, hl881_0, hi881_0, hl881_4, hi881_4⟩ := at_T116 HR0.out x13_1 p881 q881
   have hw881_4 := hx881_4
   have hw881_3 := hx881_3
   have hw881_2 := hx881_2
   have hw881_1 := hx881_1
   have hw881_0 := hx881_0
   obtain rfl : ad878 = ad881 := (by injection e881)
   replace hx881_0 := (HB.out.cell (World.block_lt_of_cell? w _ hx881_0)).trans hx881_0
   replace hx881_1 := (HB.out.cell (World.block_lt_of_cell? w _ hx881_1)).trans hx881_1
   replace hx881_2 := (HB.out.cell (World.block_lt_of_cell? w _ hx881_2)).trans hx881_2
   replace hx881_3 := (HB.out.cell (World.block_lt_of_cell? w _ hx881_3)).trans hx881_3
   replace hx881_4 := (HB.out.cell (World.block_lt_of_cell? w _ hx881_4)).trans hx881_4
   have HR881_0 := am hi881_0
   have HC881_0 := am hl881_0
   clear hi881_0 hl881_0
   have HR881_4 := am hi881_4
   have HC881_4 := am hl881_4
   clear hi881_4 hl881_4
   replace p881 := eq_true p881
   replace q881 := eq_true q881
   have ea_ := Option.some.inj (hx878_0.symm.trans hx881_0)
   injection ea_ with ea_ en_ ec_
   subst ea_
   subst ec_
   clear en_
   have ea_ := Option.some.inj (hx878_4.symm.trans hx881_4)
   injection ea_ with ea_ en_ ec_
   subst ea_
   subst ec_
   clear en_
   have p882 : 0 ≤ (x13_1 : Int) := oda
   have q882 : x13_1 < (l1.length : Int) := oda
   obtain ⟨ad882, A882_0, c882_0, A882_4, c882_4, e882, hx882_0, hx882_1, hx882_2, hx882_3, hx882_4, hl882_0, hi882_0, hl882_4, hi882_4⟩ := at_T116 HR1.out x13_1 p882 q882
   have hw882_4 := hx882_4
   have hw882_3 := hx882_3
   have hw882_2 := hx882_2
   have hw882_1 := hx882_1
   have hw882_0 := hx882_0
   obtain rfl : ad879 = ad882 := (by injection e882)
   replace hx882_0 := (HB.out.cell (World.block_lt_of_cell? w _ hx882_0)).trans hx882_0
   replace hx882_1 := (HB.out.cell (World.block_lt_of_cell? w _ hx882_1)).trans hx882_1
   replace hx882_2 := (HB.out.cell (World.block_lt_of_cell? w _ hx882_2)).trans hx882_2
   replace hx882_3 := (HB.out.cell (World.block_lt_of_cell? w _ hx882_3)).trans hx882_3
   replace hx882_4 := (HB.out.cell (World.block_lt_of_cell? w _ hx882_4)).trans hx882_4
   have HR882_0 := am hi882_0
   have HC882_0 := am hl882_0
   clear hi882_0 hl882_0
   have HR882_4 := am hi882_4
   have HC882_4 := am hl882_4
   clear hi882_4 hl882_4
   replace p882 := eq_true p882
   replace q882 := eq_true q882
   have ea_ := Option.some.inj (hx879_0.symm.trans hx882_0)
   injection ea_ with ea_ en_ ec_
   subst ea_
   subst ec_
   clear en_
   have ea_ := Option.some.inj (hx879_4.symm.trans hx882_4)
   injection ea_ with ea_ en_ ec_
   subst ea_
   subst ec_
   clear en_
   refine start_ (n := 26) (S := fun w' => w'.cell? (ad878.add ((x13_1).toNat * 5)) = some (.slice A878_0 ((rd_T116 l0 x13_1).f0).length c878_0) ∧ w'.cell? ⟨(ad878.add ((x13_1).toNat * 5)).block, (ad878.add ((x13_1).toNat * 5)).off + 1, none⟩ = some (.int .i64 ((rd_T116 l0 x13_1).f1.f0)) ∧ w'.cell? ⟨(ad878.add ((x13_1).toNat * 5)).block, (ad878.add ((x13_1).toNat * 5)).off + 2, none⟩ = some (.int .i64 ((rd_T116 l0 x13_1).f1.f1)) ∧ w'.cell? ⟨(ad878.add ((x13_1).toNat * 5)).block, (ad878.add ((x13_1).toNat * 5)).off + 3, none⟩ = some (.string ((rd_T116 l0 x13_1).f1.f2)) ∧ w'.cell? ⟨(ad878.add ((x13_1).toNat * 5)).block, (ad878.add ((x13_1).toNat * 5)).off + 4, none⟩ = some (.slice A878_4 ((rd_T116 l0 x13_1).f1.f3).length c878_4) ∧ w'.cell? (ad879.add ((x13_1).toNat * 5)) = some (.slice A879_0 ((rd_T116 l1 x13_1).f0).length c879_0) ∧ w'.cell? ⟨(ad879.add ((x13_1).toNat * 5)).block, (ad879.add ((x13_1).toNat * 5)).off + 1, none⟩ = some (.int .i64 ((rd_T116 l1 x13_1).f1.f0)) ∧ w'.cell? ⟨(ad879.add ((x13_1).toNat * 5)).block, (ad879.add ((x13_1).toNat * 5)).off + 2, none⟩ = some (.int .i64 ((rd_T116 l1 x13_1).f1.f1)) ∧ w'.cell? ⟨(ad879.add ((x13_1).toNat * 5)).block, (ad879.add ((x13_1).toNat * 5)).off + 3, none⟩ = some (.string ((rd_T116 l1 x13_1).f1.f2)) ∧ w'.cell? ⟨(ad879.add ((x13_1).toNat * 5)).block, (ad879.add ((x13_1).toNat * 5)).off + 4, none⟩ = some (.slice A879_4 ((rd_T116 l1 x13_1).f1.f3).length c879_4) ∧ w'.cell? (ad878.add ((x13_1).toNat * 5)) = some (.slice A878_0 ((rd_T116 l0 x13_1).f0).length c878_0) ∧ w'.cell? ⟨(ad878.add ((x13_1).toNat * 5)).block, (ad878.add ((x13_1).toNat * 5)).off + 1, none⟩ = some (.int .i64 ((rd_T116 l0 x13_1).f1.f0)) ∧ w'.cell? ⟨(ad878.add ((x13_1).toNat * 5)).block, (ad878.add ((x13_1).toNat * 5)).off + 2, none⟩ = some (.int .i64 ((rd_T116 l0 x13_1).f1.f1)) ∧ w'.cell? ⟨(ad878.add ((x13_1).toNat * 5)).block, (ad878.add ((x13_1).toNat * 5)).off + 3, none⟩ = some (.string ((rd_T116 l0 x13_1).f1.f2)) ∧ w'.cell? ⟨(ad878.add ((x13_1).toNat * 5)).block, (ad878.add ((x13_1).toNat * 5)).off + 4, none⟩ = some (.slice A878_4 ((rd_T116 l0 x13_1).f1.f3).length c878_4) ∧ w'.cell? (ad879.add ((x13_1).toNat * 5)) = some (.slice A879_0 ((rd_T116 l1 x13_1).f0).length c879_0) ∧ w'.cell? ⟨(ad879.add ((x13_1).toNat * 5)).block, (ad879.add ((x13_1).toNat * 5)).off + 1, none⟩ = some (.int .i64 ((rd_T116 l1 x13_1).f1.f0)) ∧ w'.cell? ⟨(ad879.add ((x13_1).toNat * 5)).block, (ad879.add ((x13_1).toNat * 5)).off + 2, none⟩ = some (.int .i64 ((rd_T116 l1 x13_1).f1.f1)) ∧ w'.cell? ⟨(ad879.add ((x13_1).toNat * 5)).block, (ad879.add ((x13_1).toNat * 5)).off + 3, none⟩ = some (.string ((rd_T116 l1 x13_1).f1.f2)) ∧ w'.cell? ⟨(ad879.add ((x13_1).toNat * 5)).block, (ad879.add ((x13_1).toNat * 5)).off + 4, none⟩ = some (.slice A879_4 ((rd_T116 l1 x13_1).f1.f3).length c879_4)) (ds := []) #[F,F,F,F,F,F,F,F,F,F,F,F,F,F,F,F,F,F,F,F,F,F,F,F,F,F] (by kernel_rfl) rfl rfl ⟨((HB.out.cell (World.block_lt_of_cell? w _ hw878_0)).trans hw878_0), ((HB.out.cell (World.block_lt_of_cell? w _ hw878_1)).trans hw878_1), ((HB.out.cell (World.block_lt_of_cell? w _ hw878_2)).trans hw878_2), ((HB.out.cell (World.block_lt_of_cell? w _ hw878_3)).trans hw878_3), ((HB.out.cell (World.block_lt_of_cell? w _ hw878_4)).trans hw878_4), ((HB.out.cell (World.block_lt_of_cell? w _ hw879_0)).trans hw879_0), ((HB.out.cell (World.block_lt_of_cell? w _ hw879_1)).trans hw879_1), ((HB.out.cell (World.block_lt_of_cell? w _ hw879_2)).trans hw879_2), ((HB.out.cell (World.block_lt_of_cell? w _ hw879_3)).trans hw879_3), ((HB.out.cell (World.block_lt_of_cell? w _ hw879_4)).trans hw879_4), ((HB.out.cell (World.block_lt_of_cell? w _ hw881_0)).trans hw881_0), ((HB.out.cell (World.block_lt_of_cell? w _ hw881_1)).trans hw881_1), ((HB.out.cell (World.block_lt_of_cell? w _ hw881_2)).trans hw881_2), ((HB.out.cell (World.block_lt_of_cell? w _ hw881_3)).trans hw881_3), ((HB.out.cell (World.block_lt_of_cell? w _ hw881_4)).trans hw881_4), ((HB.out.cell (World.block_lt_of_cell? w _ hw882_0)).trans hw882_0), ((HB.out.cell (World.block_lt_of_cell? w _ hw882_1)).trans hw882_1), ((HB.out.cell (World.block_lt_of_cell? w _ hw882_2)).trans hw882_2), ((HB.out.cell (World.block_lt_of_cell? w _ hw882_3)).trans hw882_3), ((HB.out.cell (World.block_lt_of_cell? w _ hw882_4)).trans hw882_4)⟩ (fun hHeld => ?_); refine with_tabW impl_SameBinds.tab6 impl_SameBinds.bits6 (fun HT_ HW_ => ?_)
   generalize wr.drew = w12 at HB HR878_0 HR878_4 HR879_0 HR879_4 HR881_0 HR881_4 HR882_0 HR882_4 hx878_0 hx878_1 hx878_2 hx878_3 hx878_4 hx879_0 hx879_1 hx879_2 hx879_3 hx879_4 hx881_0 hx881_1 hx881_2 hx881_3 hx881_4 hx882_0 hx882_1 hx882_2 hx882_3 hx882_4 hHeld ⊢
   refine pv HT_ 0 (some 16) #[T,F,F,F,F,F,F,F,F,F,F,F,F,F,F,F,F,F,F,F,F,F,F,F,F,F] ?_
   refine pv HT_ 1 (some 17) #[T,T,F,F,F,F,F,F,F,F,F,F,F,F,F,F,F,F,F,F,F,F,F,F,F,F] ?_
   refine pv HT_ 2 (some 18) #[T,T,T,F,F,F,F,F,F,F,F,F,F,F,F,F,F,F,F,F,F,F,F,F,F,F] ?_
   refine pv HT_ 3 (some 19) #[T,T,T,T,F,F,F,F,F,F,F,F,F,F,F,F,F,F,F,F,F,F,F,F,F,F] ?_
   refine pv HT_ 5 (some 21) #[T,T,T,T,F,T,F,F,F,F,F,F,F,F,F,F,F,F,F,F,F,F,F,F,F,F] ?_
   refine pv HT_ 6 (some 22) #[T,T,T,T,F,T,T,F,F,F,F,F,F,F,F,F,F,F,F,F,F,F,F,F,F,F] ?_
   refine pv HT_ 7 (some 23) #[T,T,T,T,F,T,T,T,F,F,F,F,F,F,F,F,F,F,F,F,F,F,F,F,F,F] ?_
   refine pv HT_ 8 (some 24) #[T,T,T,T,F,T,T,T,T,F,F,F,F,F,F,F,F,F,F,F,F,F,F,F,F,F] ?_
   refine tk 4 (some 20) #[T,T,T,T,T,T,T,T,T,F,F,F,F,F,F,F,F,F,F,F,F,F,F,F,F,F] rfl rfl (take_ofW HT_.out HW_.out (by kernel_rfl)) hHeld (Or.inl ⟨by rfl, by rintro w' ⟨s0, s1, s2, s3, s4, s5, s6, s7, s8, s9, s10, s11, s12, s13, s14, s15, s16, s17, s18, s19⟩; go_simp; with_reducible rfl⟩) ?_
   refine tk 9 (some 25) #[T,T,T,T,T,T,T,T,T,T,F,F,F,F,F,F,F,F,F,F,F,F,F,F,F,F] rfl rfl (take_ofW HT_.out HW_.out (by kernel_rfl)) hHeld (Or.inl ⟨by rfl, by rintro w' ⟨s0, s1, s2, s3, s4, s5, s6, s7, s8, s9, s10, s11, s12, s13, s14, s15, s16, s17, s18, s19⟩; go_simp; with_reducible rfl⟩) ?_
   refine one_ (i := 10) (N := some 26) #[T,T,T,T,T,T,T,T,T,T,T,F,F,F,F,F,F,F,F,F,F,F,F,F,F,F] rfl rfl (one_of HT_.out (by kernel_rfl)) (by decide) (fun K hK => ?_)
   refine goes_ Try.func112 (by kernel_rfl) rfl #[.slice A878_0 ((rd_T116 l0 x13_1).f0).length c878_0, .slice A879_0 ((rd_T116 l1 x13_1).f0).length c879_0] (by rfl) rfl rfl ga ?_
   with_reducible refine (impl_SameOid.calls k1 _ _ ((rd_T116 l0 x13_1).f0) _ _ ((rd_T116 l1 x13_1).f0) true _ ?side1 ?side2 ?side3 ?side4 A8.out).mono ?_
   (case side1 => exact cq (Kd.C_below HR878_0.out HB.out))
   (case side2 => exact HC878_0.out)
   (case side3 => exact cq (Kd.C_below HR879_0.out HB.out))
   (case side4 => exact HC879_0.out)
   rintro e w' ⟨rfl, ⟨nd, rfl⟩⟩
   refine ⟨_, rfl, ?_⟩
   refine hK.out _ _ ⟨((HB.out.cell (World.block_lt_of_cell? w _ hw878_0)).trans hw878_0), ((HB.out.cell (World.block_lt_of_cell? w _ hw878_1)).trans hw878_1), ((HB.out.cell (World.block_lt_of_cell? w _ hw878_2)).trans hw878_2), ((HB.out.cell (World.block_lt_of_cell? w _ hw878_3)).trans hw878_3), ((HB.out.cell (World.block_lt_of_cell? w _ hw878_4)).trans hw878_4), ((HB.out.cell (World.block_lt_of_cell? w _ hw879_0)).trans hw879_0), ((HB.out.cell (World.block_lt_of_cell? w _ hw879_1)).trans hw879_1), ((HB.out.cell (World.block_lt_of_cell? w _ hw879_2)).trans hw879_2), ((HB.out.cell (World.block_lt_of_cell? w _ hw879_3)).trans hw879_3), ((HB.out.cell (World.block_lt_of_cell? w _ hw879_4)).trans hw879_4), ((HB.out.cell (World.block_lt_of_cell? w _ hw881_0)).trans hw881_0), ((HB.out.cell (World.block_lt_of_cell? w _ hw881_1)).trans hw881_1), ((HB.out.cell (World.block_lt_of_cell? w _ hw881_2)).trans hw881_2), ((HB.out.cell (World.block_lt_of_cell? w _ hw881_3)).trans hw881_3), ((HB.out.cell (World.block_lt_of_cell? w _ hw881_4)).trans hw881_4), ((HB.out.cell (World.block_lt_of_cell? w _ hw882_0)).trans hw882_0), ((HB.out.cell (World.block_lt_of_cell? w _ hw882_1)).trans hw882_1), ((HB.out.cell (World.block_lt_of_cell? w _ hw882_2)).trans hw882_2), ((HB.out.cell (World.block_lt_of_cell? w _ hw882_3)).trans hw882_3), ((HB.out.cell (World.block_lt_of_cell? w _ hw882_4)).trans hw882_4)⟩ (fun hHeld => ?_)
   clear hK K
   refine norm_ (a' := ?_) ?_ ?_
   rotate_left
   · show Act.put _ (some 26) _ = _
     simp only [Act.put, List.setIfInBounds_toArray, List.set_cons_zero, List.set_cons_succ, i64_w, i32_w]
     rfl
   refine pv HT_ 11 (some 27) #[T,T,T,T,T,T,T,T,T,T,T,T,F,F,F,F,F,F,F,F,F,F,F,F,F,F] ?_
   refine pv HT_ 12 (some 28) #[T,T,T,T,T,T,T,T,T,T,T,T,T,F,F,F,F,F,F,F,F,F,F,F,F,F] ?_
   refine pv HT_ 13 (some 29) #[T,T,T,T,T,T,T,T,T,T,T,T,T,T,F,F,F,F,F,F,F,F,F,F,F,F] ?_
   refine pv HT_ 14 (some 30) #[T,T,T,T,T,T,T,T,T,T,T,T,T,T,T,F,F,F,F,F,F,F,F,F,F,F] ?_
   refine pv HT_ 15 (some 31) #[T,T,T,T,T,T,T,T,T,T,T,T,T,T,T,T,F,F,F,F,F,F,F,F,F,F] ?_
   refine pv HT_ 16 (some 32) #[T,T,T,T,T,T,T,T,T,T,T,T,T,T,T,T,T,F,F,F,F,F,F,F,F,F] ?_
   refine pv HT_ 18 (some 34) #[T,T,T,T,T,T,T,T,T,T,T,T,T,T,T,T,T,F,T,F,F,F,F,F,F,F] ?_
   refine pv HT_ 19 (some 35) #[T,T,T,T,T,T,T,T,T,T,T,T,T,T,T,T,T,F,T,T,F,F,F,F,F,F] ?_
   refine pv HT_ 20 (some 36) #[T,T,T,T,T,T,T,T,T,T,T,T,T,T,T,T,T,F,T,T,T,F,F,F,F,F] ?_
   refine pv HT_ 21 (some 37) #[T,T,T,T,T,T,T,T,T,T,T,T,T,T,T,T,T,F,T,T,T,T,F,F,F,F] ?_
   refine tk 17 (some 33) #[T,T,T,T,T,T,T,T,T,T,T,T,T,T,T,T,T,T,T,T,T,T,F,F,F,F] rfl rfl (take_ofW HT_.out HW_.out (by kernel_rfl)) hHeld (Or.inl ⟨by rfl, by rintro w' ⟨s0, s1, s2, s3, s4, s5, s6, s7, s8, s9, s10, s11, s12, s13, s14, s15, s16, s17, s18, s19⟩; go_simp; with_reducible rfl⟩) ?_
   refine tk 22 (some 38) #[T,T,T,T,T,T,T,T,T,T,T,T,T,T,T,T,T,T,T,T,T,T,T,F,F,F] rfl rfl (take_ofW HT_.out HW_.out (by kernel_rfl)) hHeld (Or.inl ⟨by rfl, by rintro w' ⟨s0, s1, s2, s3, s4, s5, s6, s7, s8, s9, s10, s11, s12, s13, s14, s15, s16, s17, s18, s19⟩; go_simp; with_reducible rfl⟩) ?_
   refine one_ (i := 23) (N := some 39) #[T,T,T,T,T,T,T,T,T,T,T,T,T,T,T,T,T,T,T,T,T,T,T,T,F,F] rfl rfl (one_of HT_.out (by kernel_rfl)) (by decide) (fun K hK => ?_)
   refine goes_ Try.func49 (by kernel_rfl) rfl #[.agg #[.int .i64 ((rd_T116 l0 x13_1).f1.f0), .int .i64 ((rd_T116 l0 x13_1).f1.f1), .string ((rd_T116 l0 x13_1).f1.f2), .slice A878_4 ((rd_T116 l0 x13_1).f1.f3).length c878_4], .agg #[.int .i64 ((rd_T116 l1 x13_1).f1.f0), .int .i64 ((rd_T116 l1 x13_1).f1.f1), .string ((rd_T116 l1 x13_1).f1.f2), .slice A879_4 ((rd_T116 l1 x13_1).f1.f3).length c879_4]] (by rfl) rfl rfl ga ?_
   with_reducible refine (impl_SameVal.calls k1 ((rd_T116 l0 x13_1).f1.f0) ((rd_T116 l0 x13_1).f1.f1) ((rd_T116 l0 x13_1).f1.f2) _ _ ((rd_T116 l0 x13_1).f1.f3) ((rd_T116 l1 x13_1).f1.f0) ((rd_T116 l1 x13_1).f1.f1) ((rd_T116 l1 x13_1).f1.f2) _ _ ((rd_T116 l1 x13_1).f1.f3) true _ ?side1 ?side2 ?side3 ?side4 Qa1.out).mono ?_
   (case side1 => exact cq (Kd.C_below HR881_4.out (bq HB.out)))
   (case side2 => exact HC881_4.out)
   (case side3 => exact cq (Kd.C_below HR882_4.out (bq HB.out)))
   (case side4 => exact HC882_4.out)
   rintro e w13 ⟨rfl, hb⟩
   refine ⟨_, rfl, ?_⟩
   replace HB := am (below_step (bq HB.out) hb)
   (try clear hb)
   refine hK.out _ _ ⟨((HB.out.cell (World.block_lt_of_cell? w _ hw878_0)).trans hw878_0), ((HB.out.cell (World.block_lt_of_cell? w _ hw878_1)).trans hw878_1), ((HB.out.cell (World.block_lt_of_cell? w _ hw878_2)).trans hw878_2), ((HB.out.cell (World.block_lt_of_cell? w _ hw878_3)).trans hw878_3), ((HB.out.cell (World.block_lt_of_cell? w _ hw878_4)).trans hw878_4), ((HB.out.cell (World.block_lt_of_cell? w _ hw879_0)).trans hw879_0), ((HB.out.cell (World.block_lt_of_cell? w _ hw879_1)).trans hw879_1), ((HB.out.cell (World.block_lt_of_cell? w _ hw879_2)).trans hw879_2), ((HB.out.cell (World.block_lt_of_cell? w _ hw879_3)).trans hw879_3), ((HB.out.cell (World.block_lt_of_cell? w _ hw879_4)).trans hw879_4), ((HB.out.cell (World.block_lt_of_cell? w _ hw881_0)).trans hw881_0), ((HB.out.cell (World.block_lt_of_cell? w _ hw881_1)).trans hw881_1), ((HB.out.cell (World.block_lt_of_cell? w _ hw881_2)).trans hw881_2), ((HB.out.cell (World.block_lt_of_cell? w _ hw881_3)).trans hw881_3), ((HB.out.cell (World.block_lt_of_cell? w _ hw881_4)).trans hw881_4), ((HB.out.cell (World.block_lt_of_cell? w _ hw882_0)).trans hw882_0), ((HB.out.cell (World.block_lt_of_cell? w _ hw882_1)).trans hw882_1), ((HB.out.cell (World.block_lt_of_cell? w _ hw882_2)).trans hw882_2), ((HB.out.cell (World.block_lt_of_cell? w _ hw882_3)).trans hw882_3), ((HB.out.cell (World.block_lt_of_cell? w _ hw882_4)).trans hw882_4)⟩ (fun hHeld => ?_)
   clear hK K
   refine norm_ (a' := ?_) ?_ ?_
   rotate_left
   · show Act.put _ (some 39) _ = _
     simp only [Act.put, List.setIfInBounds_toArray, List.set_cons_zero, List.set_cons_succ, i64_w, i32_w]
     rfl
   refine pv HT_ 24 (some 40) #[T,T,T,T,T,T,T,T,T,T,T,T,T,T,T,T,T,T,T,T,T,T,T,T,T,F] ?_
   refine pv HT_ 25 (some 41) #[T,T,T,T,T,T,T,T,T,T,T,T,T,T,T,T,T,T,T,T,T,T,T,T,T,T] ?_
   refine done_ (done_of HT_.out (by kernel_rfl)) ?_
   try go_wp2
   go_roundg k1
   case measure => have := HK1.out; omega
   case rel => exact ⟨(wrap64 (x13_1 + 1)), sq, H', ⟨by have := HK1.out; omega⟩, ⟨bq HB.out⟩⟩
end Go.Proofs.Ythhnfmbfgplelaa.XFnMsgs
