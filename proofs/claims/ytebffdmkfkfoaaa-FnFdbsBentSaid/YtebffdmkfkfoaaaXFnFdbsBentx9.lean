/- The functions that one law reaches, as Lean functions, with their walks: printed by a program of this seat (wip/tools) out of the translation. -/
import Derived.Test.YtebffdmkfkfoaaaXFnFdbsBentx0
import Derived.Test.YtebffdmkfkfoaaaXFnFdbsBentx6
import Derived.Test.YtebffdmkfkfoaaaXFnFdbsBentx8
namespace Go.Proofs.Ytebffdmkfkfoaaa.XFnFdbsBent
open Go.RowKit Go.Proofs.YtebffdmkfkfoaaaW.PrintWords Go.Proofs.YtebffdmkfkfoaaaW.PrintLast Go.Proofs.YtebffdmkfkfoaaaW.PrintMore
attribute [local go_sem] max2_int min2_int max_two min_two max_three min_three max_four min_four   -- for this text's walks alone
set_option linter.unusedVariables false
set_option linter.unusedSimpArgs false

/-! ### impl_put: function 82 -/
def impl_put.l0 : Nat → List (S44) → Int → Int → Int → Int → Int → Bool → Option ((List (S44)) × Bool)
 | 0, _, _, _, _, _, _, _ => none
 | k + 1, x0, x8, x181000, x181001, x181002, x181003, x181004 => if x8 < (x0.length : Int) then (if 0 ≤ x8 then ((impl_behind.f ((rd_T44 x0 x8).f0) ((rd_T44 x0 x8).f1) ((rd_T44 x0 x8).f2) ((rd_T44 x0 x8).f3) ((rd_T44 x0 x8).f4) x181000 x181001).bind fun t187 => (if t187 = true then (if x8 ≤ (x0.length : Int) then ((impl_copyFdb.f (x0.take (x8 : Int).toNat)).bind fun t192 => ((some (([(⟨x181000, x181001, x181002, x181003, x181004⟩ : S44)] : List (S44)) : List (S44))).bind fun y195 => (if t192.length + y195.length < 3518437208883 then ((some (t192 ++ y195 : List (S44))).bind fun y198 => ((some (x0.drop (x8 : Int).toNat : List (S44))).bind fun y201 => (if y198.length + y201.length < 3518437208883 then (some ((y198 ++ y201), true)) else (none)))) else (none)))) else (none)) else (impl_put.l0 k x0 (wrap64 (x8 + 1)) x181000 x181001 x181002 x181003 x181004))) else (none)) else (if 0 ≤ x8 then (if x8 ≤ (x0.length : Int) then ((impl_copyFdb.f (x0.take (x8 : Int).toNat)).bind fun t212 => ((some (([(⟨x181000, x181001, x181002, x181003, x181004⟩ : S44)] : List (S44)) : List (S44))).bind fun y215 => (if t212.length + y215.length < 3518437208883 then ((some (t212 ++ y215 : List (S44))).bind fun y218 => ((some (x0.drop (x8 : Int).toNat : List (S44))).bind fun y221 => (if y218.length + y221.length < 3518437208883 then (some ((y218 ++ y221), true)) else (none)))) else (none)))) else (none)) else (none))
def impl_put.f (k : Nat) (l0 : List (S44)) (a1_0 : Int) (a1_1 : Int) (a1_2 : Int) (a1_3 : Int) (a1_4 : Bool) : Option ((List (S44)) × Bool) := (impl_copyFdb.f l0).bind fun t181 => ((impl_entAt.f k l0 a1_0 a1_1).bind fun t184 => (if t184 ≥ 0 then (if 0 ≤ t184 then (if t184 < (t181.length : Int) then (some ((t181.set (t184 : Int).toNat (⟨a1_0, a1_1, a1_2, a1_3, a1_4⟩ : S44)), true)) else (none)) else (none)) else (if (l0.length : Int) ≥ 12 then (some (t181, false)) else (impl_put.l0 k l0 0 a1_0 a1_1 a1_2 a1_3 a1_4))))
theorem impl_put.mono_l : ∀ k, (∀ y0 y1 y2 y3 y4 y5 y6, LeO (impl_put.l0 k y0 y1 y2 y3 y4 y5 y6) (impl_put.l0 (k + 1) y0 y1 y2 y3 y4 y5 y6))
 | 0 => fun _ _ _ _ _ _ _ r h => by simp [impl_put.l0] at h
 | k + 1 => by
  have ih0 := impl_put.mono_l k
  intro y0 y1 y2 y3 y4 y5 y6
  unfold impl_put.l0
  repeat' first
  | (with_reducible exact ih0 _ _ _ _ _ _ _)
  | (with_reducible exact impl_entAt.mono _ _ _ _)
  | (with_reducible exact LeO.refl _)
  | (with_reducible exact LeO.none _)
  | (with_reducible refine LeO.ite ?_ ?_)
  | (with_reducible refine LeO.bind ?_ (fun _ => ?_))
  | exact ih0 _ _ _ _ _ _ _
  | exact impl_entAt.mono _ _ _ _
  | exact LeO.none _
  | refine LeO.ite ?_ ?_
  | refine LeO.bind ?_ (fun _ => ?_)
theorem impl_put.mono : ∀ a0 a1 a2 a3 a4 a5 k, LeO (impl_put.f k a0 a1 a2 a3 a4 a5) (impl_put.f (k + 1) a0 a1 a2 a3 a4 a5) := by
 intro a0 a1 a2 a3 a4 a5 k
 have ih0 := impl_put.mono_l k
 unfold impl_put.f
 repeat' first
  | (with_reducible exact ih0 _ _ _ _ _ _ _)
  | (with_reducible exact impl_entAt.mono _ _ _ _)
  | (with_reducible exact LeO.refl _)
  | (with_reducible exact LeO.none _)
  | (with_reducible refine LeO.ite ?_ ?_)
  | (with_reducible refine LeO.bind ?_ (fun _ => ?_))
  | exact ih0 _ _ _ _ _ _ _
  | exact impl_entAt.mono _ _ _ _
  | exact LeO.none _
  | refine LeO.ite ?_ ?_
  | refine LeO.bind ?_ (fun _ => ?_)
def impl_put.T9 : Bool × List (List Nat × List Nat) := (true, [([], []), ([], []), ([1], [1]), ([0, 2], [0, 2]), ([3], [3]), ([4], [4]), ([4], [4]), ([5, 6, 4], [4, 5, 6]), ([7, 4], [4, 7]), ([4], [4]), ([9, 4], [4, 9]), ([4], [4]), ([11, 4], [4, 11]), ([8, 10, 12, 4, 4], [4, 8, 10, 12]), ([13, 4], [4, 13]), ([4, 14], [4, 14])])
def impl_put.B9 : List Nat := [0, 0, 2, 7, 15, 31, 31, 127, 255, 31, 543, 31, 2079, 8191, 16383, 32767]
theorem impl_put.tab9 : rtab .any (opsOf Try.f82 9) = impl_put.T9 := by kernel_rfl
theorem impl_put.bits9 : waitsOk impl_put.T9.2 impl_put.B9 = true := by kernel_rfl
def impl_put.T11 : Bool × List (List Nat × List Nat) := (true, [([], []), ([], []), ([0, 1], [0, 1]), ([2], [2]), ([], []), ([4], [4]), ([3, 5, 3], [3, 5]), ([], []), ([], []), ([7, 8], [7, 8]), ([6, 9, 6], [6, 9]), ([10, 10, 0, 1, 2, 3, 4, 5, 6, 7, 8, 9, 10], [10]), ([11, 0, 1, 2, 3, 4, 5, 6, 7, 8, 9, 10, 11], [])])
def impl_put.B11 : List Nat := [0, 0, 3, 7, 0, 16, 63, 0, 0, 384, 1023, 2047, 4095]
theorem impl_put.tab11 : rtab .any (opsOf Try.f82 11) = impl_put.T11 := by kernel_rfl
theorem impl_put.bits11 : waitsOk impl_put.T11.2 impl_put.B11 = true := by kernel_rfl
set_option maxHeartbeats 8000000 in
set_option maxRecDepth 100000 in
theorem impl_put.calls (k : Nat) (A0 : Option Addr) (c0 : Nat) (l0 : List (S44)) (a1_0 : Int) (a1_1 : Int) (a1_2 : Int) (a1_3 : Int) (a1_4 : Bool) (r1 : List (S44)) (r2 : Bool) (w : World) (hr0 : Kd.C k44 w A0 l0.length l0) (hc0 : l0.length ≤ c0) (h : impl_put.f k l0 a1_0 a1_1 a1_2 a1_3 a1_4 = some (r1, r2)) :
 Calls Try.prog 82 #[.slice A0 l0.length c0, .agg #[.int .i64 a1_0, .int .i64 a1_1, .int .i64 a1_2, .int .i64 a1_3, .bool a1_4]] w fun e w' => ∃ v0_ : Value, e = .returned (.tuple #[v0_, .bool r2]) ∧ Kd.R k44 44 w' w.heap.size (fun _ => True) v0_ r1 ∧ Below w.heap.size w w' := by
 have hu44 := Try.underlying44
 have HR0 := am hr0
 have HC0 := am hc0
 clear hr0 hc0
 have HB := am (Below.refl w.heap.size w)
 have H : ((impl_copyFdb.f l0).bind fun t181 => ((impl_entAt.f k l0 a1_0 a1_1).bind fun t184 => (if t184 ≥ 0 then (if 0 ≤ t184 then (if t184 < (t181.length : Int) then (some ((t181.set (t184 : Int).toNat (⟨a1_0, a1_1, a1_2, a1_3, a1_4⟩ : S44)), true)) else (none)) else (none)) else (if (l0.length : Int) ≥ 12 then (some (t181, false)) else (impl_put.l0 k l0 0 a1_0 a1_1 a1_2 a1_3 a1_4))))) = some (r1, r2) := h
 clear h
 replace H := Option.bind_eq_some_iff.mp H
 obtain ⟨t181, A30, H⟩ := H
 replace H : ((impl_entAt.f k l0 a1_0 a1_1).bind fun t184 => (if t184 ≥ 0 then (if 0 ≤ t184 then (if t184 < (t181.length : Int) then (some ((t181.set (t184 : Int).toNat (⟨a1_0, a1_1, a1_2, a1_3, a1_4⟩ : S44)), true)) else (none)) else (none)) else (if (l0.length : Int) ≥ 12 then (some (t181, false)) else (impl_put.l0 k l0 0 a1_0 a1_1 a1_2 a1_3 a1_4)))) = some (r1, r2) := H
 have A3 := am A30
 clear A30
 replace H := Option.bind_eq_some_iff.mp H
 obtain ⟨t184, A40, H⟩ := H
 replace H : (if t184 ≥ 0 then (if 0 ≤ t184 then (if t184 < (t181.length : Int) then (some ((t181.set (t184 : Int).toNat (⟨a1_0, a1_1, a1_2, a1_3, a1_4⟩ : S44)), true)) else (none)) else (none)) else (if (l0.length : Int) ≥ 12 then (some (t181, false)) else (impl_put.l0 k l0 0 a1_0 a1_1 a1_2 a1_3 a1_4))) = some (r1, r2) := H
 have A4 := am A40
 clear A40
 by_cases c5 : t184 ≥ 0
 · rw [if_pos c5] at H
   have c5b0 : decide (0 ≤ t184) = true := decide_eq_true c5
   clear c5
   by_cases c6 : 0 ≤ t184
   · rw [if_pos c6] at H
     have c6b0 : decide (0 ≤ t184) = true := decide_eq_true c6
     clear c6
     by_cases c7 : t184 < (t181.length : Int)
     · rw [if_pos c7] at H
       have c7b0 : decide (t184 < (t181.length : Int)) = true := decide_eq_true c7
       clear c7
       obtain ⟨y185, hy185⟩ : ∃ y_ : List (S44), y_ = (t181.set (t184 : Int).toNat (⟨a1_0, a1_1, a1_2, a1_3, a1_4⟩ : S44)) := ⟨_, rfl⟩
       replace H : (some (y185, true)) = some (r1, r2) := by first | (rw [hy185]; with_reducible exact H) | (have H2_ := (Option.bind_some _ _).symm.trans H; rw [hy185]; with_reducible exact H2_) | (have H2_ := (Option.bind_some _ _).symm.trans H; with_reducible exact H2_) | with_reducible exact H | (rw [hy185]; exact H) | exact H
       have Ny185 := am hy185
       clear hy185
       simp only [Option.some.injEq, Prod.mk.injEq] at H
       obtain ⟨rfl, rfl⟩ := H
       go_enter Try.func82, Try.ntmps82
       go_wp2_with (first | ((with_reducible refine gate_dst (N := 3) rfl ?_); refine box_event ?hg (N := 3) ?hd (cs := #[.int .i64 a1_0, .int .i64 a1_1, .int .i64 a1_2, .int .i64 a1_3, .bool a1_4]) (t := 44) ?hr ?_; (case hd => rfl); (case hg => rfl); (case hr => exact gs); intro gb180 hg w9 hbox hb; have n_ := ak4 (below_step (bq HB.out) hb) hbox ((by rw [hg]; exact (below_size (bq HB.out)) : w.heap.size ≤ gb180)) ((by rw [hg]; exact (below_size (bq HB.out)) : w.heap.size ≤ gb180)); clear HB; obtain ⟨HB, BK180, GW180, GE180⟩ := n_; clear hb hbox hg) | ((with_reducible refine gate_callee (f := 81) rfl ?_); refine goesL_ (some 10) rfl rfl Try.func81 (by kernel_rfl) rfl #[.slice A0 l0.length c0] rfl ga ?_; (with_reducible refine (impl_copyFdb.calls _ _ l0 t181 _ ?side1 ?side2 A3.out).mono ?_); (case side1 => exact cq (Kd.C_below HR0.out HB.out)); (case side2 => exact HC0.out); rintro e w10 ⟨v182, rfl, ho0, hb⟩; refine ⟨_, rfl, ?_⟩; have n_ := ak3 (Kd.R_lower (Kd.R_newB ho0 (g := gb180) (o := .cells #[.int .i64 a1_0, .int .i64 a1_1, .int .i64 a1_2, .int .i64 a1_3, .bool a1_4] 44 (0, 0)) (zq BK180.out)) (below_size (bq1 HB.out GE180.out))) (blk_below (g := gb180) (o := .cells #[.int .i64 a1_0, .int .i64 a1_1, .int .i64 a1_2, .int .i64 a1_3, .bool a1_4] 44 (0, 0)) (zq BK180.out) hb) (below_step (bq1 HB.out GE180.out) hb); clear BK180 HB; obtain ⟨HO183, BK180, HB⟩ := n_; (try clear hb ho0); have hcz11_0 : w10.cell? ⟨gb180, 0, none⟩ = some (.int .i64 a1_0) := (blk_cell BK180.out 0).trans rfl; have hcz11_1 : w10.cell? ⟨gb180, 1, none⟩ = some (.int .i64 a1_1) := (blk_cell BK180.out 1).trans rfl; have hcz11_2 : w10.cell? ⟨gb180, 2, none⟩ = some (.int .i64 a1_2) := (blk_cell BK180.out 2).trans rfl; have hcz11_3 : w10.cell? ⟨gb180, 3, none⟩ = some (.int .i64 a1_3) := (blk_cell BK180.out 3).trans rfl; have hcz11_4 : w10.cell? ⟨gb180, 4, none⟩ = some (.bool a1_4) := (blk_cell BK180.out 4).trans rfl; have hfz11_0 := blk_frozen BK180.out 0; have hfz11_1 := blk_frozen BK180.out 1; have hfz11_2 := blk_frozen BK180.out 2; have hfz11_3 := blk_frozen BK180.out 3; have hfz11_4 := blk_frozen BK180.out 4) | ((with_reducible refine gate_callee (f := 88) rfl ?_); refine goesL_ (some 16) rfl rfl Try.func88 (by kernel_rfl) rfl #[.slice A0 l0.length c0, .int .i64 a1_0, .int .i64 a1_1] rfl ga ?_; (with_reducible refine (impl_entAt.calls k _ _ l0 a1_0 a1_1 t184 _ ?side1 ?side2 A4.out).mono ?_); (case side1 => exact cq (Kd.C_below HR0.out HB.out)); (case side2 => exact HC0.out); rintro e w12 ⟨rfl, hb⟩; refine ⟨_, rfl, ?_⟩; have n_ := ak3 (Kd.R_below (kqR HO183.out) hb) (blk_below (g := gb180) (o := .cells #[.int .i64 a1_0, .int .i64 a1_1, .int .i64 a1_2, .int .i64 a1_3, .bool a1_4] 44 (0, 0)) (zq BK180.out) hb) (below_step (bq1 HB.out GE180.out) hb); clear HO183 BK180 HB; obtain ⟨HO183, BK180, HB⟩ := n_; (try clear hb); have hcz13_0 : w12.cell? ⟨gb180, 0, none⟩ = some (.int .i64 a1_0) := (blk_cell BK180.out 0).trans rfl; have hcz13_1 : w12.cell? ⟨gb180, 1, none⟩ = some (.int .i64 a1_1) := (blk_cell BK180.out 1).trans rfl; have hcz13_2 : w12.cell? ⟨gb180, 2, none⟩ = some (.int .i64 a1_2) := (blk_cell BK180.out 2).trans rfl; have hcz13_3 : w12.cell? ⟨gb180, 3, none⟩ = some (.int .i64 a1_3) := (blk_cell BK180.out 3).trans rfl; have hcz13_4 : w12.cell? ⟨gb180, 4, none⟩ = some (.bool a1_4) := (blk_cell BK180.out 4).trans rfl; have hfz13_0 := blk_frozen BK180.out 0; have hfz13_1 := blk_frozen BK180.out 1; have hfz13_2 := blk_frozen BK180.out 2; have hfz13_3 := blk_frozen BK180.out 3; have hfz13_4 := blk_frozen BK180.out 4; have p8 : 0 ≤ (t184 : Int) := oda; have q8 : (t184 : Int) < ((t181.length : Int) : Int) := oda; obtain ⟨go8, co8, eo8, gb8, gl8, cl8, HG8⟩ := Kd.R_form HO183.out (by omega); (first | cases eo8 | (injection eo8 with ea_ en_ ec_; (first | subst ea_ | (injection ea_ with ea_; subst ea_)); subst ec_; clear en_)); have GB8 := am gb8; have GG8 := am HG8; clear gb8 gl8 HG8; obtain ⟨ce8, hcl8, hM8, hcc8, hfr8⟩ := Kd.R_elem HO183.out z44 (t184 : Int) p8 q8; obtain rfl := k44_openM hM8; have hx8_0 : w12.cell? ⟨go8, (t184 : Int).toNat * 5, none⟩ = some (.int .i64 ((rd_T44 t181 t184).f0)) := hcc8 0 _ rfl; have hx8_1 : w12.cell? ⟨go8, (t184 : Int).toNat * 5 + 1, none⟩ = some (.int .i64 ((rd_T44 t181 t184).f1)) := hcc8 1 _ rfl; have hx8_2 : w12.cell? ⟨go8, (t184 : Int).toNat * 5 + 2, none⟩ = some (.int .i64 ((rd_T44 t181 t184).f2)) := hcc8 2 _ rfl; have hx8_3 : w12.cell? ⟨go8, (t184 : Int).toNat * 5 + 3, none⟩ = some (.int .i64 ((rd_T44 t181 t184).f3)) := hcc8 3 _ rfl; have hx8_4 : w12.cell? ⟨go8, (t184 : Int).toNat * 5 + 4, none⟩ = some (.bool ((rd_T44 t181 t184).f4)) := hcc8 4 _ rfl; have hf8_0 : w12.frozen? ⟨go8, (t184 : Int).toNat * 5, none⟩ = false := hfr8 0; have hf8_1 : w12.frozen? ⟨go8, (t184 : Int).toNat * 5 + 1, none⟩ = false := hfr8 1; have hf8_2 : w12.frozen? ⟨go8, (t184 : Int).toNat * 5 + 2, none⟩ = false := hfr8 2; have hf8_3 : w12.frozen? ⟨go8, (t184 : Int).toNat * 5 + 3, none⟩ = false := hfr8 3; have hf8_4 : w12.frozen? ⟨go8, (t184 : Int).toNat * 5 + 4, none⟩ = false := hfr8 4; clear hcl8 hcc8 hfr8 hM8; replace p8 := eq_true p8; replace q8 := eq_true q8; have n_ := am (Kd.R_mono (ok' := (fun k_ => k_ ≠ gb180)) HO183.out (fun k_ hk => hk.2)); clear HO183; have HO183 := n_; clear n_; have HX14 := am (show Kd.R k44 44 w12 w.heap.size (fun k_ => k_ ≠ gb180) (.slice (some ⟨go8, 0, none⟩) t181.length co8) t181 from (kqR HO183.out)); obtain ⟨ce14, hcl14, hM14, hcc14, hfr14⟩ := Kd.R_elem HX14.out z44 (t184 : Int) (oda) (by have h_ : (t184 : Int) < ((t181.length : Int) : Int) := oda; first | exact h_ | (have e_ := (Kd.R_reads' HO183.out).1; omega) | simpa using h_); obtain rfl := k44_openM hM14; have HP14 := Kd.R_seg HX14.out (t184 : Int) (oda) (by have h_ : (t184 : Int) < ((t181.length : Int) : Int) := oda; first | exact h_ | (have e_ := (Kd.R_reads' HO183.out).1; omega) | simpa using h_) (seg := [.int .i64 a1_0, .int .i64 a1_1, .int .i64 a1_2, .int .i64 a1_3, .bool a1_4]) (j := 0) hcl14 hcc14 (show 5 ≤ 5 from by decide) (x' := (⟨a1_0, a1_1, a1_2, a1_3, a1_4⟩ : S44)) (k44_mkM _ _ _ (⟨a1_0, a1_1, a1_2, a1_3, a1_4⟩ : S44) ) (fun _ hk => hk); have hx14_0 := hcc14 0 _ rfl; (try simp only [show (k44).sz = 5 from rfl, Nat.mul_one, Nat.add_zero] at hx14_0); have hf14_0 := hfr14 0; (try simp only [show (k44).sz = 5 from rfl, Nat.mul_one, Nat.add_zero] at hf14_0); have hx14_1 := hcc14 1 _ rfl; (try simp only [show (k44).sz = 5 from rfl, Nat.mul_one, Nat.add_zero] at hx14_1); have hf14_1 := hfr14 1; (try simp only [show (k44).sz = 5 from rfl, Nat.mul_one, Nat.add_zero] at hf14_1); have hx14_2 := hcc14 2 _ rfl; (try simp only [show (k44).sz = 5 from rfl, Nat.mul_one, Nat.add_zero] at hx14_2); have hf14_2 := hfr14 2; (try simp only [show (k44).sz = 5 from rfl, Nat.mul_one, Nat.add_zero] at hf14_2); have hx14_3 := hcc14 3 _ rfl; (try simp only [show (k44).sz = 5 from rfl, Nat.mul_one, Nat.add_zero] at hx14_3); have hf14_3 := hfr14 3; (try simp only [show (k44).sz = 5 from rfl, Nat.mul_one, Nat.add_zero] at hf14_3); have hx14_4 := hcc14 4 _ rfl; (try simp only [show (k44).sz = 5 from rfl, Nat.mul_one, Nat.add_zero] at hx14_4); have hf14_4 := hfr14 4; (try simp only [show (k44).sz = 5 from rfl, Nat.mul_one, Nat.add_zero] at hf14_4); clear hcl14 hcc14 hfr14 hM14) | ((with_reducible refine gate_store (t := 44) (p := 22) rfl ?_); refine store_event (t := 44) (p := 22) (v := ?vo_w15) (w1 := (((((w12.setCell ⟨go8, (t184 : Int).toNat * 5, none⟩ (.int .i64 a1_0)).setCell ⟨go8, (t184 : Int).toNat * 5 + 1, none⟩ (.int .i64 a1_1)).setCell ⟨go8, (t184 : Int).toNat * 5 + 2, none⟩ (.int .i64 a1_2)).setCell ⟨go8, (t184 : Int).toNat * 5 + 3, none⟩ (.int .i64 a1_3)).setCell ⟨go8, (t184 : Int).toNat * 5 + 4, none⟩ (.bool a1_4))) ?hg ?ho ?hn ?hr ?_; (case ho => rfl); (case hg => rfl); (case hn => rfl); (case hr => exact gs); intro w15 hw; have hg : w12.grownBy w15 (some go8) := (by rw [hw]; exact HP14.2); have hp_ : Kd.R k44 44 w15 w.heap.size (fun k_ => k_ ≠ gb180) (.slice (some ⟨go8, 0, none⟩) t181.length co8) y185 := (by rw [hw, Ny185.out]; exact HP14.1); clear HP14; have n_ := ak3 (blk_grown (g := gb180) (o := .cells #[.int .i64 a1_0, .int .i64 a1_1, .int .i64 a1_2, .int .i64 a1_3, .bool a1_4] 44 (0, 0)) (zq BK180.out) hg (Kd.R_away HO183.out (fun _ hk => hk))) hp_ ((by rw [hw]; exact below_set (below_set (below_set (below_set (below_set (HB.out) GB8.out) GB8.out) GB8.out) GB8.out) GB8.out : Below w.heap.size w w15)); clear BK180 HO183 HB; obtain ⟨BK180, HO183, HB⟩ := n_; clear hg hw hp_))
       go_ret2
       exact ⟨_, rq, by (with_reducible repeat (first | apply Kd.R_alloc | apply Kd.R_drewN | apply Kd.R_drew)); exact Kd.R_mono HO183.out (fun _ hk => trivial), bq1 HB.out GE180.out⟩
     rw [if_neg c7] at H
     exact absurd H (by simp)
   rw [if_neg c6] at H
   exact absurd H (by simp)
 rw [if_neg c5] at H
 have c5b0 : decide (0 ≤ t184) = false := decide_eq_false c5
 clear c5
 by_cases c16 : (l0.length : Int) ≥ 12
 · rw [if_pos c16] at H
   have c16b0 : decide (12 ≤ (l0.length : Int)) = true := decide_eq_true c16
   have c16b1 : decide (12 ≤ l0.length) = true := decide_eq_true (by omega)
   clear c16
   simp only [Option.some.injEq, Prod.mk.injEq] at H
   obtain ⟨rfl, rfl⟩ := H
   go_enter Try.func82, Try.ntmps82
   go_wp2_with (first | ((with_reducible refine gate_dst (N := 3) rfl ?_); refine box_event ?hg (N := 3) ?hd (cs := #[.int .i64 a1_0, .int .i64 a1_1, .int .i64 a1_2, .int .i64 a1_3, .bool a1_4]) (t := 44) ?hr ?_; (case hd => rfl); (case hg => rfl); (case hr => exact gs); intro gb180 hg w17 hbox hb; have n_ := ak4 (below_step (bq HB.out) hb) hbox ((by rw [hg]; exact (below_size (bq HB.out)) : w.heap.size ≤ gb180)) ((by rw [hg]; exact (below_size (bq HB.out)) : w.heap.size ≤ gb180)); clear HB; obtain ⟨HB, BK180, GW180, GE180⟩ := n_; clear hb hbox hg) | ((with_reducible refine gate_callee (f := 81) rfl ?_); refine goesL_ (some 10) rfl rfl Try.func81 (by kernel_rfl) rfl #[.slice A0 l0.length c0] rfl ga ?_; (with_reducible refine (impl_copyFdb.calls _ _ l0 t181 _ ?side1 ?side2 A3.out).mono ?_); (case side1 => exact cq (Kd.C_below HR0.out HB.out)); (case side2 => exact HC0.out); rintro e w18 ⟨v182, rfl, ho0, hb⟩; refine ⟨_, rfl, ?_⟩; have n_ := ak3 (Kd.R_lower (Kd.R_newB ho0 (g := gb180) (o := .cells #[.int .i64 a1_0, .int .i64 a1_1, .int .i64 a1_2, .int .i64 a1_3, .bool a1_4] 44 (0, 0)) (zq BK180.out)) (below_size (bq1 HB.out GE180.out))) (blk_below (g := gb180) (o := .cells #[.int .i64 a1_0, .int .i64 a1_1, .int .i64 a1_2, .int .i64 a1_3, .bool a1_4] 44 (0, 0)) (zq BK180.out) hb) (below_step (bq1 HB.out GE180.out) hb); clear BK180 HB; obtain ⟨HO183, BK180, HB⟩ := n_; (try clear hb ho0); have hcz19_0 : w18.cell? ⟨gb180, 0, none⟩ = some (.int .i64 a1_0) := (blk_cell BK180.out 0).trans rfl; have hcz19_1 : w18.cell? ⟨gb180, 1, none⟩ = some (.int .i64 a1_1) := (blk_cell BK180.out 1).trans rfl; have hcz19_2 : w18.cell? ⟨gb180, 2, none⟩ = some (.int .i64 a1_2) := (blk_cell BK180.out 2).trans rfl; have hcz19_3 : w18.cell? ⟨gb180, 3, none⟩ = some (.int .i64 a1_3) := (blk_cell BK180.out 3).trans rfl; have hcz19_4 : w18.cell? ⟨gb180, 4, none⟩ = some (.bool a1_4) := (blk_cell BK180.out 4).trans rfl; have hfz19_0 := blk_frozen BK180.out 0; have hfz19_1 := blk_frozen BK180.out 1; have hfz19_2 := blk_frozen BK180.out 2; have hfz19_3 := blk_frozen BK180.out 3; have hfz19_4 := blk_frozen BK180.out 4) | ((with_reducible refine gate_callee (f := 88) rfl ?_); refine goesL_ (some 16) rfl rfl Try.func88 (by kernel_rfl) rfl #[.slice A0 l0.length c0, .int .i64 a1_0, .int .i64 a1_1] rfl ga ?_; (with_reducible refine (impl_entAt.calls k _ _ l0 a1_0 a1_1 t184 _ ?side1 ?side2 A4.out).mono ?_); (case side1 => exact cq (Kd.C_below HR0.out HB.out)); (case side2 => exact HC0.out); rintro e w20 ⟨rfl, hb⟩; refine ⟨_, rfl, ?_⟩; have n_ := ak3 (Kd.R_below (kqR HO183.out) hb) (blk_below (g := gb180) (o := .cells #[.int .i64 a1_0, .int .i64 a1_1, .int .i64 a1_2, .int .i64 a1_3, .bool a1_4] 44 (0, 0)) (zq BK180.out) hb) (below_step (bq1 HB.out GE180.out) hb); clear HO183 BK180 HB; obtain ⟨HO183, BK180, HB⟩ := n_; (try clear hb)))
   go_ret2
   exact ⟨_, rq, by (with_reducible repeat (first | apply Kd.R_alloc | apply Kd.R_drewN | apply Kd.R_drew)); exact Kd.R_mono HO183.out (fun _ hk => trivial), bq1 HB.out GE180.out⟩
 rw [if_neg c16] at H
 have c16b0 : decide (12 ≤ (l0.length : Int)) = false := decide_eq_false c16
 have c16b1 : decide (12 ≤ l0.length) = false := decide_eq_false (by omega)
 clear c16
 have H' := am H
 clear H
 go_enter Try.func82, Try.ntmps82
 go_wp2_with (first | ((with_reducible refine gate_dst (N := 3) rfl ?_); refine box_event ?hg (N := 3) ?hd (cs := #[.int .i64 a1_0, .int .i64 a1_1, .int .i64 a1_2, .int .i64 a1_3, .bool a1_4]) (t := 44) ?hr ?_; (case hd => rfl); (case hg => rfl); (case hr => exact gs); intro gb180 hg w21 hbox hb; have n_ := ak4 (below_step (bq HB.out) hb) hbox ((by rw [hg]; exact (below_size (bq HB.out)) : w.heap.size ≤ gb180)) ((by rw [hg]; exact (below_size (bq HB.out)) : w.heap.size ≤ gb180)); clear HB; obtain ⟨HB, BK180, GW180, GE180⟩ := n_; clear hb hbox hg) | ((with_reducible refine gate_callee (f := 81) rfl ?_); refine goesL_ (some 10) rfl rfl Try.func81 (by kernel_rfl) rfl #[.slice A0 l0.length c0] rfl ga ?_; (with_reducible refine (impl_copyFdb.calls _ _ l0 t181 _ ?side1 ?side2 A3.out).mono ?_); (case side1 => exact cq (Kd.C_below HR0.out HB.out)); (case side2 => exact HC0.out); rintro e w22 ⟨v182, rfl, ho0, hb⟩; refine ⟨_, rfl, ?_⟩; have n_ := ak3 (Kd.R_lower (Kd.R_newB ho0 (g := gb180) (o := .cells #[.int .i64 a1_0, .int .i64 a1_1, .int .i64 a1_2, .int .i64 a1_3, .bool a1_4] 44 (0, 0)) (zq BK180.out)) (below_size (bq1 HB.out GE180.out))) (blk_below (g := gb180) (o := .cells #[.int .i64 a1_0, .int .i64 a1_1, .int .i64 a1_2, .int .i64 a1_3, .bool a1_4] 44 (0, 0)) (zq BK180.out) hb) (below_step (bq1 HB.out GE180.out) hb); clear BK180 HB; obtain ⟨HO183, BK180, HB⟩ := n_; (try clear hb ho0); have hcz23_0 : w22.cell? ⟨gb180, 0, none⟩ = some (.int .i64 a1_0) := (blk_cell BK180.out 0).trans rfl; have hcz23_1 : w22.cell? ⟨gb180, 1, none⟩ = some (.int .i64 a1_1) := (blk_cell BK180.out 1).trans rfl; have hcz23_2 : w22.cell? ⟨gb180, 2, none⟩ = some (.int .i64 a1_2) := (blk_cell BK180.out 2).trans rfl; have hcz23_3 : w22.cell? ⟨gb180, 3, none⟩ = some (.int .i64 a1_3) := (blk_cell BK180.out 3).trans rfl; have hcz23_4 : w22.cell? ⟨gb180, 4, none⟩ = some (.bool a1_4) := (blk_cell BK180.out 4).trans rfl; have hfz23_0 := blk_frozen BK180.out 0; have hfz23_1 := blk_frozen BK180.out 1; have hfz23_2 := blk_frozen BK180.out 2; have hfz23_3 := blk_frozen BK180.out 3; have hfz23_4 := blk_frozen BK180.out 4) | ((with_reducible refine gate_callee (f := 88) rfl ?_); refine goesL_ (some 16) rfl rfl Try.func88 (by kernel_rfl) rfl #[.slice A0 l0.length c0, .int .i64 a1_0, .int .i64 a1_1] rfl ga ?_; (with_reducible refine (impl_entAt.calls k _ _ l0 a1_0 a1_1 t184 _ ?side1 ?side2 A4.out).mono ?_); (case side1 => exact cq (Kd.C_below HR0.out HB.out)); (case side2 => exact HC0.out); rintro e w24 ⟨rfl, hb⟩; refine ⟨_, rfl, ?_⟩; have n_ := ak3 (Kd.R_below (kqR HO183.out) hb) (blk_below (g := gb180) (o := .cells #[.int .i64 a1_0, .int .i64 a1_1, .int .i64 a1_2, .int .i64 a1_3, .bool a1_4] 44 (0, 0)) (zq BK180.out) hb) (below_step (bq1 HB.out GE180.out) hb); clear HO183 BK180 HB; obtain ⟨HO183, BK180, HB⟩ := n_; (try clear hb)))
 go_loopg [8] k (fun kq v8 w' => ∃ (x8_1 : Int), v8 = .int .i64 x8_1 ∧ Aside0 (impl_put.l0 kq l0 x8_1 a1_0 a1_1 a1_2 a1_3 a1_4 = some (r1, r2)) ∧ Aside0 (kq ≤ k) ∧ Aside0 (w'.heap[gb180]? = some (.cells #[.int .i64 a1_0, .int .i64 a1_1, .int .i64 a1_2, .int .i64 a1_3, .bool a1_4] 44 (0, 0))) ∧ Aside0 (Below w.heap.size w w'))
 case atStart => exact ⟨(0), sq, H', ⟨Nat.le_refl _⟩, ⟨zq BK180.out⟩, ⟨bq1 HB.out GE180.out⟩⟩
 case round =>
  clear H'
  try clear c1
  try clear hx1
  try clear p2
  try clear c5
  try clear c5b0
  try clear c6
  try clear c6b0
  try clear c7
  try clear c7b0
  try clear c8
  try clear p8
  try clear q8
  try clear hx8
  try clear hf8
  try clear c14
  try clear hx14
  try clear hf14
  try clear c16
  try clear c16b0
  try clear c16b1
  try clear hcz11_0
  try clear hcz11_1
  try clear hcz11_2
  try clear hcz11_3
  try clear hcz11_4
  try clear hcz13_0
  try clear hcz13_1
  try clear hcz13_2
  try clear hcz13_3
  try clear hcz13_4
  try clear hcz19_0
  try clear hcz19_1
  try clear hcz19_2
  try clear hcz19_3
  try clear hcz19_4
  try clear hcz23_0
  try clear hcz23_1
  try clear hcz23_2
  try clear hcz23_3
  try clear hcz23_4
  try clear hfz11_0
  try clear hfz11_1
  try clear hfz11_2
  try clear hfz11_3
  try clear hfz11_4
  try clear hfz13_0
  try clear hfz13_1
  try clear hfz13_2
  try clear hfz13_3
  try clear hfz13_4
  try clear hfz19_0
  try clear hfz19_1
  try clear hfz19_2
  try clear hfz19_3
  try clear hfz19_4
  try clear hfz23_0
  try clear hfz23_1
  try clear hfz23_2
  try clear hfz23_3
  try clear hfz23_4
  try clear hx14_0
  try clear hx14_1
  try clear hx14_2
  try clear hx14_3
  try clear hx14_4
  try clear hx8_0
  try clear hx8_1
  try clear hx8_2
  try clear hx8_3
  try clear hx8_4
  try clear p8
  try clear q8
  obtain ⟨x8_1, rfl, HA, HK1, BK180, HB⟩ := hrel
  cases gk with
  | zero => exact absurd HA.out (by simp [impl_put.l0])
  | succ k1 =>
   have H := HA.out
   clear HA
   simp only [impl_put.l0] at H
   by_cases c25 : x8_1 < (l0.length : Int)
   · rw [if_pos c25] at H
     have c25b0 : decide (x8_1 < (l0.length : Int)) = true := decide_eq_true c25
     clear c25
     by_cases c26 : 0 ≤ x8_1
     · rw [if_pos c26] at H
       have c26b0 : decide (0 ≤ x8_1) = true := decide_eq_true c26
       clear c26
       replace H := Option.bind_eq_some_iff.mp H
       obtain ⟨t187, A270, H⟩ := H
       replace H : (if t187 = true then (if x8_1 ≤ (l0.length : Int) then ((impl_copyFdb.f (l0.take (x8_1 : Int).toNat)).bind fun t192 => ((some (([(⟨a1_0, a1_1, a1_2, a1_3, a1_4⟩ : S44)] : List (S44)) : List (S44))).bind fun y195 => (if t192.length + y195.length < 3518437208883 then ((some (t192 ++ y195 : List (S44))).bind fun y198 => ((some (l0.drop (x8_1 : Int).toNat : List (S44))).bind fun y201 => (if y198.length + y201.length < 3518437208883 then (some ((y198 ++ y201), true)) else (none)))) else (none)))) else (none)) else (impl_put.l0 k1 l0 (wrap64 (x8_1 + 1)) a1_0 a1_1 a1_2 a1_3 a1_4)) = some (r1, r2) := H
       have A27 := am A270
       clear A270
       by_cases c28 : t187 = true
       · subst c28
         have H1 : (if x8_1 ≤ (l0.length : Int) then ((impl_copyFdb.f (l0.take (x8_1 : Int).toNat)).bind fun t192 => ((some (([(⟨a1_0, a1_1, a1_2, a1_3, a1_4⟩ : S44)] : List (S44)) : List (S44))).bind fun y195 => (if t192.length + y195.length < 3518437208883 then ((some (t192 ++ y195 : List (S44))).bind fun y198 => ((some (l0.drop (x8_1 : Int).toNat : List (S44))).bind fun y201 => (if y198.length + y201.length < 3518437208883 then (some ((y198 ++ y201), true)) else (none)))) else (none)))) else (none)) = some (r1, r2) := by rw [if_pos rfl] at H; exact H
         clear H
         have H := H1
         clear H1
         have c29b0 := eq_true (oda : 0 ≤ x8_1)
         by_cases c30 : x8_1 ≤ (l0.length : Int)
         · rw [if_pos c30] at H
           have c30b0 := eq_true c30
           have c30b1 : decide (x8_1 ≤ (l0.length : Int)) = true := decide_eq_true c30
           clear c30
           obtain ⟨y188, hy188⟩ : ∃ y_ : List (S44), y_ = (l0.take (x8_1 : Int).toNat) := ⟨_, rfl⟩
           replace H : ((impl_copyFdb.f y188).bind fun t192 => ((some (([(⟨a1_0, a1_1, a1_2, a1_3, a1_4⟩ : S44)] : List (S44)) : List (S44))).bind fun y195 => (if t192.length + y195.length < 3518437208883 then ((some (t192 ++ y195 : List (S44))).bind fun y198 => ((some (l0.drop (x8_1 : Int).toNat : List (S44))).bind fun y201 => (if y198.length + y201.length < 3518437208883 then (some ((y198 ++ y201), true)) else (none)))) else (none)))) = some (r1, r2) := by first | (rw [hy188]; with_reducible exact H) | (have H2_ := (Option.bind_some _ _).symm.trans H; rw [hy188]; with_reducible exact H2_) | (have H2_ := (Option.bind_some _ _).symm.trans H; with_reducible exact H2_) | with_reducible exact H | (rw [hy188]; exact H) | exact H
           have Ny188 := am hy188
           clear hy188
           replace H := Option.bind_eq_some_iff.mp H
           obtain ⟨t192, A310, H⟩ := H
           replace H : ((some (([(⟨a1_0, a1_1, a1_2, a1_3, a1_4⟩ : S44)] : List (S44)) : List (S44))).bind fun y195 => (if t192.length + y195.length < 3518437208883 then ((some (t192 ++ y195 : List (S44))).bind fun y198 => ((some (l0.drop (x8_1 : Int).toNat : List (S44))).bind fun y201 => (if y198.length + y201.length < 3518437208883 then (some ((y198 ++ y201), true)) else (none)))) else (none))) = some (r1, r2) := H
           have A31 := am A310
           clear A310
           obtain ⟨y195, hy195⟩ : ∃ y_ : List (S44), y_ = (([(⟨a1_0, a1_1, a1_2, a1_3, a1_4⟩ : S44)] : List (S44))) := ⟨_, rfl⟩
           replace H : (if t192.length + y195.length < 3518437208883 then ((some (t192 ++ y195 : List (S44))).bind fun y198 => ((some (l0.drop (x8_1 : Int).toNat : List (S44))).bind fun y201 => (if y198.length + y201.length < 3518437208883 then (some ((y198 ++ y201), true)) else (none)))) else (none)) = some (r1, r2) := by first | (rw [hy195]; with_reducible exact H) | (have H2_ := (Option.bind_some _ _).symm.trans H; rw [hy195]; with_reducible exact H2_) | (have H2_ := (Option.bind_some _ _).symm.trans H; with_reducible exact H2_) | with_reducible exact H | (rw [hy195]; exact H) | exact H
           have Ny195 := am hy195
           clear hy195
           by_cases c32 : t192.length + y195.length < 3518437208883
           · rw [if_pos c32] at H
             have LMc32 := am c32
             clear c32
             obtain ⟨y198, hy198⟩ : ∃ y_ : List (S44), y_ = (t192 ++ y195) := ⟨_, rfl⟩
             replace H : ((some (l0.drop (x8_1 : Int).toNat : List (S44))).bind fun y201 => (if y198.length + y201.length < 3518437208883 then (some ((y198 ++ y201), true)) else (none))) = some (r1, r2) := by first | (rw [hy198]; with_reducible exact H) | (have H2_ := (Option.bind_some _ _).symm.trans H; rw [hy198]; with_reducible exact H2_) | (have H2_ := (Option.bind_some _ _).symm.trans H; with_reducible exact H2_) | with_reducible exact H | (rw [hy198]; exact H) | exact H
             have Ny198 := am hy198
             clear hy198
             have c33b0 := eq_true (oda : 0 ≤ x8_1)
             have c34b0 := eq_true (oda : x8_1 ≤ (l0.length : Int))
             obtain ⟨y201, hy201⟩ : ∃ y_ : List (S44), y_ = (l0.drop (x8_1 : Int).toNat) := ⟨_, rfl⟩
             replace H : (if y198.length + y201.length < 3518437208883 then (some ((y198 ++ y201), true)) else (none)) = some (r1, r2) := by first | (rw [hy201]; with_reducible exact H) | (have H2_ := (Option.bind_some _ _).symm.trans H; rw [hy201]; with_reducible exact H2_) | (have H2_ := (Option.bind_some _ _).symm.trans H; with_reducible exact H2_) | with_reducible exact H | (rw [hy201]; exact H) | exact H
             have Ny201 := am hy201
             clear hy201
             by_cases c35 : y198.length + y201.length < 3518437208883
             · rw [if_pos c35] at H
               have LMc35 := am c35
               clear c35
               obtain ⟨y205, hy205⟩ : ∃ y_ : List (S44), y_ = (y198 ++ y201) := ⟨_, rfl⟩
               replace H : (some (y205, true)) = some (r1, r2) := by first | (rw [hy205]; with_reducible exact H) | (have H2_ := (Option.bind_some _ _).symm.trans H; rw [hy205]; with_reducible exact H2_) | (have H2_ := (Option.bind_some _ _).symm.trans H; with_reducible exact H2_) | with_reducible exact H | (rw [hy205]; exact H) | exact H
               have Ny205 := am hy205
               clear hy205
               simp only [Option.some.injEq, Prod.mk.injEq] at H
               obtain ⟨rfl, rfl⟩ := H
               try go_wp2
               have n_ := ak2 (blk_drew BK180.out) (below_drew1 HB.out)
               clear BK180 HB
               obtain ⟨BK180, HB⟩ := n_
               have p186 : 0 ≤ (x8_1 : Int) := oda
               have q186 : x8_1 < (l0.length : Int) := oda
               obtain ⟨ad186, e186, hx186_0, hx186_1, hx186_2, hx186_3, hx186_4⟩ := at_T44 HR0.out x8_1 p186 q186
               have hw186_4 := hx186_4
               have hw186_3 := hx186_3
               have hw186_2 := hx186_2
               have hw186_1 := hx186_1
               have hw186_0 := hx186_0
               cases e186
               replace hx186_0 := (HB.out.cell (World.block_lt_of_cell? w _ hx186_0)).trans hx186_0
               replace hx186_1 := (HB.out.cell (World.block_lt_of_cell? w _ hx186_1)).trans hx186_1
               replace hx186_2 := (HB.out.cell (World.block_lt_of_cell? w _ hx186_2)).trans hx186_2
               replace hx186_3 := (HB.out.cell (World.block_lt_of_cell? w _ hx186_3)).trans hx186_3
               replace hx186_4 := (HB.out.cell (World.block_lt_of_cell? w _ hx186_4)).trans hx186_4
               replace p186 := eq_true p186
               replace q186 := eq_true q186
               refine start_ (n := 16) (S := fun w' => w'.cell? ⟨gb180, 0, none⟩ = some (.int .i64 a1_0) ∧ w'.cell? ⟨gb180, 1, none⟩ = some (.int .i64 a1_1) ∧ w'.cell? ⟨gb180, 2, none⟩ = some (.int .i64 a1_2) ∧ w'.cell? ⟨gb180, 3, none⟩ = some (.int .i64 a1_3) ∧ w'.cell? ⟨gb180, 4, none⟩ = some (.bool a1_4) ∧ w'.cell? (ad186.add ((x8_1).toNat * 5)) = some (.int .i64 ((rd_T44 l0 x8_1).f0)) ∧ w'.cell? ⟨(ad186.add ((x8_1).toNat * 5)).block, (ad186.add ((x8_1).toNat * 5)).off + 1, none⟩ = some (.int .i64 ((rd_T44 l0 x8_1).f1)) ∧ w'.cell? ⟨(ad186.add ((x8_1).toNat * 5)).block, (ad186.add ((x8_1).toNat * 5)).off + 2, none⟩ = some (.int .i64 ((rd_T44 l0 x8_1).f2)) ∧ w'.cell? ⟨(ad186.add ((x8_1).toNat * 5)).block, (ad186.add ((x8_1).toNat * 5)).off + 3, none⟩ = some (.int .i64 ((rd_T44 l0 x8_1).f3)) ∧ w'.cell? ⟨(ad186.add ((x8_1).toNat * 5)).block, (ad186.add ((x8_1).toNat * 5)).off + 4, none⟩ = some (.bool ((rd_T44 l0 x8_1).f4))) (ds := []) #[false, false, false, false, false, false, false, false, false, false, false, false, false, false, false, false] (by kernel_rfl) rfl rfl ⟨(blk_cell BK180.out 0).trans rfl, (blk_cell BK180.out 1).trans rfl, (blk_cell BK180.out 2).trans rfl, (blk_cell BK180.out 3).trans rfl, (blk_cell BK180.out 4).trans rfl, ((HB.out.cell (World.block_lt_of_cell? w _ hw186_0)).trans hw186_0), ((HB.out.cell (World.block_lt_of_cell? w _ hw186_1)).trans hw186_1), ((HB.out.cell (World.block_lt_of_cell? w _ hw186_2)).trans hw186_2), ((HB.out.cell (World.block_lt_of_cell? w _ hw186_3)).trans hw186_3), ((HB.out.cell (World.block_lt_of_cell? w _ hw186_4)).trans hw186_4)⟩ (fun hHeld => ?_); refine with_tabW impl_put.tab9 impl_put.bits9 (fun HT_ HW_ => ?_)
               generalize wr.drew = w36 at BK180 HB hx186_0 hx186_1 hx186_2 hx186_3 hx186_4 hHeld ⊢
               refine pure_ (i := 0) (N := some 28) (v := ?_) (a' := ?_) #[true, false, false, false, false, false, false, false, false, false, false, false, false, false, false, false] rfl rfl (any_of HT_.out (by kernel_rfl)) (fun _ _ _ h => h) (Or.inl ⟨by rfl, ?_⟩) ?_ ?_
               rotate_left
               · intro w'
                 go_simp
                 with_reducible rfl
               rotate_left
               · simp only [Act.put, List.setIfInBounds_toArray, List.set_cons_zero, List.set_cons_succ, i64_w, i32_w]
                 rfl
               refine pure_ (i := 1) (N := some 29) (v := ?_) (a' := ?_) #[true, true, false, false, false, false, false, false, false, false, false, false, false, false, false, false] rfl rfl (any_of HT_.out (by kernel_rfl)) (fun _ _ _ h => h) (Or.inl ⟨by rfl, ?_⟩) ?_ ?_
               rotate_left
               · intro w'
                 go_simp
                 with_reducible rfl
               rotate_left
               · simp only [Act.put, List.setIfInBounds_toArray, List.set_cons_zero, List.set_cons_succ, i64_w, i32_w]
                 rfl
               refine pure_ (i := 2) (N := some 30) (v := ?_) (a' := ?_) #[true, true, true, false, false, false, false, false, false, false, false, false, false, false, false, false] rfl rfl (any_of HT_.out (by kernel_rfl)) (fun _ _ _ h => h) (Or.inl ⟨by rfl, ?_⟩) ?_ ?_
               rotate_left
               · intro w'
                 go_simp
                 with_reducible rfl
               rotate_left
               · simp only [Act.put, List.setIfInBounds_toArray, List.set_cons_zero, List.set_cons_succ, i64_w, i32_w]
                 rfl
               refine pure_ (i := 3) (N := some 31) (v := ?_) (a' := ?_) #[true, true, true, true, false, false, false, false, false, false, false, false, false, false, false, false] rfl rfl (any_of HT_.out (by kernel_rfl)) (fun _ _ _ h => h) (Or.inl ⟨by rfl, ?_⟩) ?_ ?_
               rotate_left
               · intro w'
                 go_simp
                 with_reducible rfl
               rotate_left
               · simp only [Act.put, List.setIfInBounds_toArray, List.set_cons_zero, List.set_cons_succ, i64_w, i32_w]
                 rfl
               refine pure_ (i := 4) (N := some 32) (v := ?_) (a' := ?_) #[true, true, true, true, true, false, false, false, false, false, false, false, false, false, false, false] rfl rfl (any_of HT_.out (by kernel_rfl)) (fun _ _ _ h => h) (Or.inl ⟨by rfl, ?_⟩) ?_ ?_
               rotate_left
               · intro w'
                 go_simp
                 with_reducible rfl
               rotate_left
               · simp only [Act.put, List.setIfInBounds_toArray, List.set_cons_zero, List.set_cons_succ, i64_w, i32_w]
                 rfl
               refine pure_ (i := 5) (N := some 33) (v := ?_) (a' := ?_) #[true, true, true, true, true, true, false, false, false, false, false, false, false, false, false, false] rfl rfl (any_of HT_.out (by kernel_rfl)) (fun _ _ _ h => h) (Or.inl ⟨by rfl, ?_⟩) ?_ ?_
               rotate_left
               · intro w'
                 go_simp
                 with_reducible rfl
               rotate_left
               · simp only [Act.put, List.setIfInBounds_toArray, List.set_cons_zero, List.set_cons_succ, i64_w, i32_w]
                 rfl
               refine pure_ (i := 6) (N := some 34) (v := ?_) (a' := ?_) #[true, true, true, true, true, true, true, false, false, false, false, false, false, false, false, false] rfl rfl (any_of HT_.out (by kernel_rfl)) (fun _ _ _ h => h) (Or.inl ⟨by rfl, ?_⟩) ?_ ?_
               rotate_left
               · intro w'
                 go_simp
                 with_reducible rfl
               rotate_left
               · simp only [Act.put, List.setIfInBounds_toArray, List.set_cons_zero, List.set_cons_succ, i64_w, i32_w]
                 rfl
               refine pure_ (i := 7) (N := some 35) (v := ?_) (a' := ?_) #[true, true, true, true, true, true, true, true, false, false, false, false, false, false, false, false] rfl rfl (any_of HT_.out (by kernel_rfl)) (fun _ _ _ h => h) (Or.inl ⟨by rfl, ?_⟩) ?_ ?_
               rotate_left
               · intro w'
                 go_simp
                 with_reducible rfl
               rotate_left
               · simp only [Act.put, List.setIfInBounds_toArray, List.set_cons_zero, List.set_cons_succ, i64_w, i32_w]
                 rfl
               refine pure_ (i := 9) (N := some 37) (v := ?_) (a' := ?_) #[true, true, true, true, true, true, true, true, false, true, false, false, false, false, false, false] rfl rfl (any_of HT_.out (by kernel_rfl)) (fun _ _ _ h => h) (Or.inl ⟨by rfl, ?_⟩) ?_ ?_
               rotate_left
               · intro w'
                 go_simp
                 with_reducible rfl
               rotate_left
               · simp only [Act.put, List.setIfInBounds_toArray, List.set_cons_zero, List.set_cons_succ, i64_w, i32_w]
                 rfl
               refine pure_ (i := 11) (N := some 39) (v := ?_) (a' := ?_) #[true, true, true, true, true, true, true, true, false, true, false, true, false, false, false, false] rfl rfl (any_of HT_.out (by kernel_rfl)) (fun _ _ _ h => h) (Or.inl ⟨by rfl, ?_⟩) ?_ ?_
               rotate_left
               · intro w'
                 go_simp
                 with_reducible rfl
               rotate_left
               · simp only [Act.put, List.setIfInBounds_toArray, List.set_cons_zero, List.set_cons_succ, i64_w, i32_w]
                 rfl
               refine take_ (i := 8) (N := some 36) (v := ?_) (a' := ?_) #[true, true, true, true, true, true, true, true, true, true, false, true, false, false, false, false] rfl rfl (take_ofW HT_.out HW_.out (by kernel_rfl)) (fun _ _ _ h => h) (Or.inl ⟨by rfl, ?_⟩) hHeld ?_ ?_
               rotate_left
               · rintro w' ⟨s0, s1, s2, s3, s4, s5, s6, s7, s8, s9⟩
                 go_simp
                 with_reducible rfl
               rotate_left
               · simp only [Act.put, List.setIfInBounds_toArray, List.set_cons_zero, List.set_cons_succ, i64_w, i32_w]
                 rfl
               refine take_ (i := 10) (N := some 38) (v := ?_) (a' := ?_) #[true, true, true, true, true, true, true, true, true, true, true, true, false, false, false, false] rfl rfl (take_ofW HT_.out HW_.out (by kernel_rfl)) (fun _ _ _ h => h) (Or.inl ⟨by rfl, ?_⟩) hHeld ?_ ?_
               rotate_left
               · rintro w' ⟨s0, s1, s2, s3, s4, s5, s6, s7, s8, s9⟩
                 go_simp
                 with_reducible rfl
               rotate_left
               · simp only [Act.put, List.setIfInBounds_toArray, List.set_cons_zero, List.set_cons_succ, i64_w, i32_w]
                 rfl
               refine take_ (i := 12) (N := some 40) (v := ?_) (a' := ?_) #[true, true, true, true, true, true, true, true, true, true, true, true, true, false, false, false] rfl rfl (take_ofW HT_.out HW_.out (by kernel_rfl)) (fun _ _ _ h => h) (Or.inl ⟨by rfl, ?_⟩) hHeld ?_ ?_
               rotate_left
               · rintro w' ⟨s0, s1, s2, s3, s4, s5, s6, s7, s8, s9⟩
                 go_simp
                 with_reducible rfl
               rotate_left
               · simp only [Act.put, List.setIfInBounds_toArray, List.set_cons_zero, List.set_cons_succ, i64_w, i32_w]
                 rfl
               refine one_ (i := 13) (N := some 41) #[true, true, true, true, true, true, true, true, true, true, true, true, true, true, false, false] rfl rfl (one_of HT_.out (by kernel_rfl)) (by decide) (fun K hK => ?_)
               refine goes_ Try.func89 (by kernel_rfl) rfl #[.agg #[.int .i64 ((rd_T44 l0 x8_1).f0), .int .i64 ((rd_T44 l0 x8_1).f1), .int .i64 ((rd_T44 l0 x8_1).f2), .int .i64 ((rd_T44 l0 x8_1).f3), .bool ((rd_T44 l0 x8_1).f4)], .int .i64 a1_0, .int .i64 a1_1] (by rfl) rfl rfl ga ?_
               with_reducible refine (impl_behind.calls ((rd_T44 l0 x8_1).f0) ((rd_T44 l0 x8_1).f1) ((rd_T44 l0 x8_1).f2) ((rd_T44 l0 x8_1).f3) ((rd_T44 l0 x8_1).f4) a1_0 a1_1 true _ A27.out).mono ?_
               rintro e w37 ⟨rfl, hb⟩
               refine ⟨_, rfl, ?_⟩
               have n_ := ak2 (blk_below (g := gb180) (o := .cells #[.int .i64 a1_0, .int .i64 a1_1, .int .i64 a1_2, .int .i64 a1_3, .bool a1_4] 44 (0, 0)) (zq BK180.out) hb) (below_step (bq1 HB.out GE180.out) hb)
               clear BK180 HB
               obtain ⟨BK180, HB⟩ := n_
               (try clear hb)
               refine hK.out _ _ ⟨(blk_cell BK180.out 0).trans rfl, (blk_cell BK180.out 1).trans rfl, (blk_cell BK180.out 2).trans rfl, (blk_cell BK180.out 3).trans rfl, (blk_cell BK180.out 4).trans rfl, ((HB.out.cell (World.block_lt_of_cell? w _ hw186_0)).trans hw186_0), ((HB.out.cell (World.block_lt_of_cell? w _ hw186_1)).trans hw186_1), ((HB.out.cell (World.block_lt_of_cell? w _ hw186_2)).trans hw186_2), ((HB.out.cell (World.block_lt_of_cell? w _ hw186_3)).trans hw186_3), ((HB.out.cell (World.block_lt_of_cell? w _ hw186_4)).trans hw186_4)⟩ (fun hHeld => ?_)
               clear hK K
               refine norm_ (a' := ?_) ?_ ?_
               rotate_left
               · show Act.put _ (some 41) _ = _
                 simp only [Act.put, List.setIfInBounds_toArray, List.set_cons_zero, List.set_cons_succ, i64_w, i32_w]
                 rfl
               refine pure_ (i := 14) (N := some 42) (v := ?_) (a' := ?_) #[true, true, true, true, true, true, true, true, true, true, true, true, true, true, true, false] rfl rfl (any_of HT_.out (by kernel_rfl)) (fun _ _ _ h => h) (Or.inl ⟨by rfl, ?_⟩) ?_ ?_
               rotate_left
               · intro w'
                 go_simp
                 with_reducible rfl
               rotate_left
               · simp only [Act.put, List.setIfInBounds_toArray, List.set_cons_zero, List.set_cons_succ, i64_w, i32_w]
                 rfl
               refine pure_ (i := 15) (N := some 43) (v := ?_) (a' := ?_) #[true, true, true, true, true, true, true, true, true, true, true, true, true, true, true, true] rfl rfl (any_of HT_.out (by kernel_rfl)) (fun _ _ _ h => h) (Or.inl ⟨by rfl, ?_⟩) ?_ ?_
               rotate_left
               · intro w'
                 go_simp
                 with_reducible rfl
               rotate_left
               · simp only [Act.put, List.setIfInBounds_toArray, List.set_cons_zero, List.set_cons_succ, i64_w, i32_w]
                 rfl
               refine done_ (done_of HT_.out (by kernel_rfl)) ?_
               try go_wp2
               have n_ := ak2 (blk_drew BK180.out) (below_drew1 HB.out)
               clear BK180 HB
               obtain ⟨BK180, HB⟩ := n_
               have q39 : (x8_1 : Int) ≤ ((l0.length : Int) : Int) := oda
               obtain ⟨i039, hi039, _, hsz39, _⟩ := info_parts info44
               have hroom39 : l0.length ≤ c0 := HC0.out
               have hC39 : Kd.C k44 _ (some ad186) l0.length l0 := HR0.out
               have hcut39 := cut_to (P := Try.prog) 30 44 .i64 Try.underlying30 hi039 (some ad186) l0.length c0 x8_1 (oda) q39 hroom39
               have hr39 := Kd.C_take (m := (x8_1 : Int).toNat) hC39 (by omega)
               have hy39 : y188.length = (x8_1 : Int).toNat := (by rw [Ny188.out, List.length_take]; omega)
               rw [← Ny188.out] at hr39
               rw [← hy39] at hcut39
               have HR191 := am hr39
               have HC191 := am (show y188.length ≤ c0 from by omega)
               clear hr39 hC39 hroom39 hi039 hsz39
               have KY39 := am hy39
               clear hy39
               replace q39 := eq_true q39
               have q40 : (x8_1 : Int) ≤ ((l0.length : Int) : Int) := oda
               obtain ⟨i040, hi040, _, hsz40, _⟩ := info_parts info44
               have hroom40 : l0.length ≤ c0 := HC0.out
               have hC40 : Kd.C k44 _ (some ad186) l0.length l0 := HR0.out
               have q040 : (0 : Int) ≤ (x8_1 : Int) := oda
               have hcut40 := cut_from (P := Try.prog) 30 44 .i64 Try.underlying30 hi040 5 hsz40 (some ad186) l0.length c0 x8_1 q040 q40
               have hr40 := Kd.C_drop (m := (x8_1 : Int).toNat) (c := c0) hC40 (by omega) hroom40
               obtain ⟨A40, hA40⟩ : ∃ A1, A1 = (if c0 = (x8_1 : Int).toNat then (some ad186) else ((some ad186) : Option Addr).map (·.add ((x8_1 : Int).toNat * 5))) := ⟨_, rfl⟩
               obtain ⟨c40, hc40⟩ : ∃ c1, c1 = c0 - (x8_1 : Int).toNat := ⟨_, rfl⟩
               have hy40 : y201.length = l0.length - (x8_1 : Int).toNat := (by rw [Ny201.out, List.length_drop] <;> omega)
               rw [show (l0).drop (x8_1 : Int).toNat = y201 from Ny201.out.symm] at hr40
               replace hr40 : Kd.C k44 _ A40 y201.length y201 := (by rw [hA40]; exact hr40)
               rw [← hy40, ← hA40, ← hc40] at hcut40
               have HR204 := am hr40
               have HC204 := am (show y201.length ≤ c40 from by rw [hy40, hc40]; exact Nat.sub_le_sub_right hroom40 _)
               clear hr40 hC40 hroom40 hi040 hsz40 hc40
               have KY40 := am hy40
               have KA40 := am hA40
               clear hy40 hA40
               replace q40 := eq_true q40
               refine start_ (n := 13) (S := fun w' => w'.cell? ⟨gb180, 0, none⟩ = some (.int .i64 a1_0) ∧ w'.cell? ⟨gb180, 1, none⟩ = some (.int .i64 a1_1) ∧ w'.cell? ⟨gb180, 2, none⟩ = some (.int .i64 a1_2) ∧ w'.cell? ⟨gb180, 3, none⟩ = some (.int .i64 a1_3) ∧ w'.cell? ⟨gb180, 4, none⟩ = some (.bool a1_4)) (ds := []) #[false, false, false, false, false, false, false, false, false, false, false, false, false] (by kernel_rfl) rfl rfl ⟨(blk_cell BK180.out 0).trans rfl, (blk_cell BK180.out 1).trans rfl, (blk_cell BK180.out 2).trans rfl, (blk_cell BK180.out 3).trans rfl, (blk_cell BK180.out 4).trans rfl⟩ (fun hHeld => ?_); refine with_tabW impl_put.tab11 impl_put.bits11 (fun HT_ HW_ => ?_)
               generalize w37.drew = w38 at BK180 HB HR191 HR204 hHeld ⊢
               refine pure_ (i := 0) (N := some 46) (v := ?_) (a' := ?_) #[true, false, false, false, false, false, false, false, false, false, false, false, false] rfl rfl (any_of HT_.out (by kernel_rfl)) (fun _ _ _ h => h) (Or.inl ⟨by rfl, ?_⟩) ?_ ?_
               rotate_left
               · intro w'
                 go_simp
                 with_reducible rfl
               rotate_left
               · simp only [Act.put, List.setIfInBounds_toArray, List.set_cons_zero, List.set_cons_succ, i64_w, i32_w]
                 rfl
               refine pure_ (i := 1) (N := some 47) (v := ?_) (a' := ?_) #[true, true, false, false, false, false, false, false, false, false, false, false, false] rfl rfl (any_of HT_.out (by kernel_rfl)) (fun _ _ _ h => h) (Or.inl ⟨by rfl, ?_⟩) ?_ ?_
               rotate_left
               · intro w'
                 go_simp
                 with_reducible rfl
               rotate_left
               · simp only [Act.put, List.setIfInBounds_toArray, List.set_cons_zero, List.set_cons_succ, i64_w, i32_w]
                 rfl
               refine pure_ (i := 2) (N := some 48) (v := ?_) (a' := ?_) #[true, true, true, false, false, false, false, false, false, false, false, false, false] rfl rfl (any_of HT_.out (by kernel_rfl)) (fun _ _ _ h => h) (Or.inl ⟨by rfl, ?_⟩) ?_ ?_
               rotate_left
               · intro w'
                 go_simp
                 with_reducible rfl
               rotate_left
               · simp only [Act.put, List.setIfInBounds_toArray, List.set_cons_zero, List.set_cons_succ, i64_w, i32_w]
                 rfl
               refine pure_ (i := 7) (N := some 53) (v := ?_) (a' := ?_) #[true, true, true, false, false, false, false, true, false, false, false, false, false] rfl rfl (any_of HT_.out (by kernel_rfl)) (fun _ _ _ h => h) (Or.inl ⟨by rfl, ?_⟩) ?_ ?_
               rotate_left
               · intro w'
                 go_simp
                 with_reducible rfl
               rotate_left
               · simp only [Act.put, List.setIfInBounds_toArray, List.set_cons_zero, List.set_cons_succ, i64_w, i32_w]
                 rfl
               refine pure_ (i := 8) (N := some 54) (v := ?_) (a' := ?_) #[true, true, true, false, false, false, false, true, true, false, false, false, false] rfl rfl (any_of HT_.out (by kernel_rfl)) (fun _ _ _ h => h) (Or.inl ⟨by rfl, ?_⟩) ?_ ?_
               rotate_left
               · intro w'
                 go_simp
                 with_reducible rfl
               rotate_left
               · simp only [Act.put, List.setIfInBounds_toArray, List.set_cons_zero, List.set_cons_succ, i64_w, i32_w]
                 rfl
               refine pure_ (i := 9) (N := some 55) (v := ?_) (a' := ?_) #[true, true, true, false, false, false, false, true, true, true, false, false, false] rfl rfl (any_of HT_.out (by kernel_rfl)) (fun _ _ _ h => h) (Or.inl ⟨by rfl, ?_⟩) ?_ ?_
               rotate_left
               · intro w'
                 go_simp
                 with_reducible rfl
               rotate_left
               · simp only [Act.put, List.setIfInBounds_toArray, List.set_cons_zero, List.set_cons_succ, i64_w, i32_w]
                 rfl
               refine take_ (i := 4) (N := some 50) (v := ?_) (a' := ?_) #[true, true, true, false, true, false, false, true, true, true, false, false, false] rfl rfl (take_ofW HT_.out HW_.out (by kernel_rfl)) (fun _ _ _ h => h) (Or.inl ⟨by rfl, ?_⟩) hHeld ?_ ?_
               rotate_left
               · rintro w' ⟨s0, s1, s2, s3, s4⟩
                 go_simp
                 with_reducible rfl
               rotate_left
               · simp only [Act.put, List.setIfInBounds_toArray, List.set_cons_zero, List.set_cons_succ, i64_w, i32_w]
                 rfl
               refine join_ (σ := Value × Value) 4 #[true, true, true, true, true, true, false, true, true, true, false, false, false] (fun s_ => [(49, s_.1), (51, s_.2)]) (fun s_ w' => (w'.cell? ⟨gb180, 0, none⟩ = some (.int .i64 a1_0) ∧ w'.cell? ⟨gb180, 1, none⟩ = some (.int .i64 a1_1) ∧ w'.cell? ⟨gb180, 2, none⟩ = some (.int .i64 a1_2) ∧ w'.cell? ⟨gb180, 3, none⟩ = some (.int .i64 a1_3) ∧ w'.cell? ⟨gb180, 4, none⟩ = some (.bool a1_4)) ∧ (Kd.R k44 44 w' w.heap.size (fun k_ => some k_ ≠ (s_.2 : Value).ownBlock ∧ k_ ≠ gb180) s_.1 t192) ∧ (Kd.R k44 44 w' w.heap.size (fun k_ => some k_ ≠ (s_.1 : Value).ownBlock ∧ k_ ≠ gb180) s_.2 y195) ∧ (w'.heap[gb180]? = some (.cells #[.int .i64 a1_0, .int .i64 a1_1, .int .i64 a1_2, .int .i64 a1_3, .bool a1_4] 44 (0, 0))) ∧ (Below w.heap.size w w')) ?_ ?_
               rotate_left
               · intro hCont
                 refine two_ (i := 3) (j := 5) (Ni := some 49) (Nj := some 51) #[true, true, true, true, true, false, false, true, true, true, false, false, false] #[true, true, true, false, true, true, false, true, true, true, false, false, false] rfl rfl rfl rfl (two_of HT_.out (by kernel_rfl)) (by decide) (by decide) (fun K hK => ?_) (fun K hK => ?_)
                 · skip
                   refine goes_ Try.func81 (by kernel_rfl) rfl #[.slice (some ad186) y188.length c0] (by rfl) rfl rfl ga ?_
                   with_reducible refine (impl_copyFdb.calls _ _ y188 t192 _ ?side1 ?side2 A31.out).mono ?_
                   (case side1 => exact cq (Kd.C_below HR191.out HB.out))
                   (case side2 => exact HC191.out)
                   rintro e w41 ⟨v193, rfl, ho0, hb⟩
                   refine ⟨_, rfl, ?_⟩
                   have n_ := ak3 (Kd.R_lower (Kd.R_newB ho0 (g := gb180) (o := .cells #[.int .i64 a1_0, .int .i64 a1_1, .int .i64 a1_2, .int .i64 a1_3, .bool a1_4] 44 (0, 0)) (zq BK180.out)) (below_size (bq1 HB.out GE180.out))) (blk_below (g := gb180) (o := .cells #[.int .i64 a1_0, .int .i64 a1_1, .int .i64 a1_2, .int .i64 a1_3, .bool a1_4] 44 (0, 0)) (zq BK180.out) hb) (below_step (bq1 HB.out GE180.out) hb)
                   clear BK180 HB
                   obtain ⟨HO194, BK180, HB⟩ := n_
                   (try clear hb ho0)
                   refine hK.out _ _ ⟨(blk_cell BK180.out 0).trans rfl, (blk_cell BK180.out 1).trans rfl, (blk_cell BK180.out 2).trans rfl, (blk_cell BK180.out 3).trans rfl, (blk_cell BK180.out 4).trans rfl⟩ (fun hHeld => ?_)
                   clear hK K
                   refine norm_ (a' := ?_) ?_ ?_
                   rotate_left
                   · show Act.put _ (some 49) _ = _
                     simp only [Act.put, List.setIfInBounds_toArray, List.set_cons_zero, List.set_cons_succ, i64_w, i32_w]
                     rfl
                   refine one_ (i := 5) (N := some 51) #[true, true, true, true, true, true, false, true, true, true, false, false, false] rfl rfl (one_of HT_.out (by kernel_rfl)) (by decide) (fun K hK => ?_)
                   refine Kd.R_lit_step k44 _ 44 ?hg (N := 51) ?hd (xs := ([(⟨a1_0, a1_1, a1_2, a1_3, a1_4⟩ : S44)] : List (S44))) (inner := [.int .i64 a1_0, .int .i64 a1_1, .int .i64 a1_2, .int .i64 a1_3, .bool a1_4]) (ok := fun _ => True) (okp := fun _ => True) ?hr ?hp (fun _ hk => hk) trivial (Below.refl _ _) (Nat.le_refl _) (by simp) ?_; (case hd => rfl); (case hg => rfl); (case hr => exact gs); (case hp => exact (Reps.c5 (show Kd.M k44 _ _ _ (⟨a1_0, a1_1, a1_2, a1_3, a1_4⟩ : S44) [.int .i64 a1_0, .int .i64 a1_1, .int .i64 a1_2, .int .i64 a1_3, .bool a1_4] from (k44_mkM _ _ _ (⟨a1_0, a1_1, a1_2, a1_3, a1_4⟩ : S44) )) (Reps.none _ _)))
                   intro v196 w42 ho43 hb hg_ hnew_
                   clear hg_ hnew_
                   (first | rw [← Ny195.out] at ho43 | (simp only [Int.reduceToNat] at ho43; rw [← Ny195.out] at ho43))
                   have n_ := ak4 (Kd.R_elder' (kqR HO194.out) (Kd.R_base ho43) hb) (Kd.R_lower (Kd.R_newB (Kd.R_new' ho43 (Kd.R_lt (kqR HO194.out))) (g := gb180) (o := .cells #[.int .i64 a1_0, .int .i64 a1_1, .int .i64 a1_2, .int .i64 a1_3, .bool a1_4] 44 (0, 0)) (zq BK180.out)) (below_size (bq1 HB.out GE180.out))) (blk_below (g := gb180) (o := .cells #[.int .i64 a1_0, .int .i64 a1_1, .int .i64 a1_2, .int .i64 a1_3, .bool a1_4] 44 (0, 0)) (zq BK180.out) hb) (below_step (bq1 HB.out GE180.out) hb)
                   clear HO194 BK180 HB
                   obtain ⟨HO194, HO197, BK180, HB⟩ := n_
                   clear hb ho43
                   refine hK.out _ _ ⟨(blk_cell BK180.out 0).trans rfl, (blk_cell BK180.out 1).trans rfl, (blk_cell BK180.out 2).trans rfl, (blk_cell BK180.out 3).trans rfl, (blk_cell BK180.out 4).trans rfl⟩ (fun hHeld => ?_)
                   clear hK K
                   refine norm_ (a' := ?_) ?_ ?_
                   rotate_left
                   · show Act.put _ (some 51) _ = _
                     simp only [Act.put, List.setIfInBounds_toArray, List.set_cons_zero, List.set_cons_succ, i64_w, i32_w]
                     rfl
                   exact norm_ (by simp only [putAll, Act.put, List.setIfInBounds_toArray, List.set_cons_zero, List.set_cons_succ]) (hCont (v193, v196) _ ⟨hHeld, (by (with_reducible repeat (first | apply Kd.R_alloc | apply Kd.R_drewN | apply Kd.R_drew)); exact Kd.R_mono HO194.out (fun _ hk => ⟨hk.2, hk.1.2⟩)), (by (with_reducible repeat (first | apply Kd.R_alloc | apply Kd.R_drewN | apply Kd.R_drew)); exact Kd.R_mono HO197.out (fun _ hk => ⟨hk.1.2, hk.2⟩)), (zq BK180.out), (bq1 HB.out GE180.out)⟩)
                 skip
                 refine Kd.R_lit_step k44 _ 44 ?hg (N := 51) ?hd (xs := ([(⟨a1_0, a1_1, a1_2, a1_3, a1_4⟩ : S44)] : List (S44))) (inner := [.int .i64 a1_0, .int .i64 a1_1, .int .i64 a1_2, .int .i64 a1_3, .bool a1_4]) (ok := fun _ => True) (okp := fun _ => True) ?hr ?hp (fun _ hk => hk) trivial (Below.refl _ _) (Nat.le_refl _) (by simp) ?_; (case hd => rfl); (case hg => rfl); (case hr => exact gs); (case hp => exact (Reps.c5 (show Kd.M k44 _ _ _ (⟨a1_0, a1_1, a1_2, a1_3, a1_4⟩ : S44) [.int .i64 a1_0, .int .i64 a1_1, .int .i64 a1_2, .int .i64 a1_3, .bool a1_4] from (k44_mkM _ _ _ (⟨a1_0, a1_1, a1_2, a1_3, a1_4⟩ : S44) )) (Reps.none _ _)))
                 intro v196 w41 ho42 hb hg_ hnew_
                 clear hg_ hnew_
                 (first | rw [← Ny195.out] at ho42 | (simp only [Int.reduceToNat] at ho42; rw [← Ny195.out] at ho42))
                 have n_ := ak3 (Kd.R_lower (Kd.R_newB ho42 (g := gb180) (o := .cells #[.int .i64 a1_0, .int .i64 a1_1, .int .i64 a1_2, .int .i64 a1_3, .bool a1_4] 44 (0, 0)) (zq BK180.out)) (below_size (bq1 HB.out GE180.out))) (blk_below (g := gb180) (o := .cells #[.int .i64 a1_0, .int .i64 a1_1, .int .i64 a1_2, .int .i64 a1_3, .bool a1_4] 44 (0, 0)) (zq BK180.out) hb) (below_step (bq1 HB.out GE180.out) hb)
                 clear BK180 HB
                 obtain ⟨HO197, BK180, HB⟩ := n_
                 clear hb ho42
                 refine hK.out _ _ ⟨(blk_cell BK180.out 0).trans rfl, (blk_cell BK180.out 1).trans rfl, (blk_cell BK180.out 2).trans rfl, (blk_cell BK180.out 3).trans rfl, (blk_cell BK180.out 4).trans rfl⟩ (fun hHeld => ?_)
                 clear hK K
                 refine norm_ (a' := ?_) ?_ ?_
                 rotate_left
                 · show Act.put _ (some 51) _ = _
                   simp only [Act.put, List.setIfInBounds_toArray, List.set_cons_zero, List.set_cons_succ, i64_w, i32_w]
                   rfl
                 refine one_ (i := 3) (N := some 49) #[true, true, true, true, true, true, false, true, true, true, false, false, false] rfl rfl (one_of HT_.out (by kernel_rfl)) (by decide) (fun K hK => ?_)
                 refine goes_ Try.func81 (by kernel_rfl) rfl #[.slice (some ad186) y188.length c0] (by rfl) rfl rfl ga ?_
                 with_reducible refine (impl_copyFdb.calls _ _ y188 t192 _ ?side1 ?side2 A31.out).mono ?_
                 (case side1 => exact cq (Kd.C_below HR191.out HB.out))
                 (case side2 => exact HC191.out)
                 rintro e w43 ⟨v193, rfl, ho0, hb⟩
                 refine ⟨_, rfl, ?_⟩
                 have n_ := ak4 (Kd.R_elder' (kqR HO197.out) (Kd.R_base ho0) hb) (Kd.R_lower (Kd.R_newB (Kd.R_new' ho0 (Kd.R_lt (kqR HO197.out))) (g := gb180) (o := .cells #[.int .i64 a1_0, .int .i64 a1_1, .int .i64 a1_2, .int .i64 a1_3, .bool a1_4] 44 (0, 0)) (zq BK180.out)) (below_size (bq1 HB.out GE180.out))) (blk_below (g := gb180) (o := .cells #[.int .i64 a1_0, .int .i64 a1_1, .int .i64 a1_2, .int .i64 a1_3, .bool a1_4] 44 (0, 0)) (zq BK180.out) hb) (below_step (bq1 HB.out GE180.out) hb)
                 clear HO197 BK180 HB
                 obtain ⟨HO197, HO194, BK180, HB⟩ := n_
                 (try clear hb ho0)
                 refine hK.out _ _ ⟨(blk_cell BK180.out 0).trans rfl, (blk_cell BK180.out 1).trans rfl, (blk_cell BK180.out 2).trans rfl, (blk_cell BK180.out 3).trans rfl, (blk_cell BK180.out 4).trans rfl⟩ (fun hHeld => ?_)
                 clear hK K
                 refine norm_ (a' := ?_) ?_ ?_
                 rotate_left
                 · show Act.put _ (some 49) _ = _
                   simp only [Act.put, List.setIfInBounds_toArray, List.set_cons_zero, List.set_cons_succ, i64_w, i32_w]
                   rfl
                 exact norm_ (by simp only [putAll, Act.put, List.setIfInBounds_toArray, List.set_cons_zero, List.set_cons_succ]) (hCont (v193, v196) _ ⟨hHeld, (by (with_reducible repeat (first | apply Kd.R_alloc | apply Kd.R_drewN | apply Kd.R_drew)); exact Kd.R_mono HO194.out (fun _ hk => ⟨hk.1.2, hk.2⟩)), (by (with_reducible repeat (first | apply Kd.R_alloc | apply Kd.R_drewN | apply Kd.R_drew)); exact Kd.R_mono HO197.out (fun _ hk => ⟨hk.2, hk.1.2⟩)), (zq BK180.out), (bq1 HB.out GE180.out)⟩)
               rintro ⟨v193, v196⟩ w44 ⟨hS_, h0_, h1_, h2_, h3_⟩
               have n0_ : Aside0 (Kd.R k44 44 w44 w.heap.size (fun k_ => some k_ ≠ (v196 : Value).ownBlock ∧ k_ ≠ gb180) v193 t192) := ⟨h0_⟩
               have n1_ : Aside0 (Kd.R k44 44 w44 w.heap.size (fun k_ => some k_ ≠ (v193 : Value).ownBlock ∧ k_ ≠ gb180) v196 y195) := ⟨h1_⟩
               have n2_ : Aside0 (w44.heap[gb180]? = some (.cells #[.int .i64 a1_0, .int .i64 a1_1, .int .i64 a1_2, .int .i64 a1_3, .bool a1_4] 44 (0, 0))) := ⟨h2_⟩
               have n3_ : Aside0 (Below w.heap.size w w44) := ⟨h3_⟩
               clear BK180
               clear HB
               clear h0_ h1_ h2_ h3_
               have HO194 := n0_
               have HO197 := n1_
               have BK180 := n2_
               have HB := n3_
               clear n0_ n1_ n2_ n3_
               have hHeld : w44.cell? ⟨gb180, 0, none⟩ = some (.int .i64 a1_0) ∧ w44.cell? ⟨gb180, 1, none⟩ = some (.int .i64 a1_1) ∧ w44.cell? ⟨gb180, 2, none⟩ = some (.int .i64 a1_2) ∧ w44.cell? ⟨gb180, 3, none⟩ = some (.int .i64 a1_3) ∧ w44.cell? ⟨gb180, 4, none⟩ = some (.bool a1_4) := hS_
               obtain ⟨Ao46, co46, eo46⟩ := Kd.R_slice HO197.out
               (first | subst eo46 | (injection eo46 with f1_ f2_ f3_; have f4_ := f1_.symm; have f5_ := f3_.symm; clear f1_ f2_ f3_; subst f4_; subst f5_))
               refine norm_ (a' := ?_) ?_ ?_
               rotate_left
               · simp only [putAll, Act.put, List.setIfInBounds_toArray, List.set_cons_zero, List.set_cons_succ]
                 rfl
               refine one_ (i := 6) (N := some 52) #[true, true, true, true, true, true, true, true, true, true, false, false, false] rfl rfl (one_of HT_.out (by kernel_rfl)) (by decide) (fun K hK => ?_)
               refine Kd.R_append_rows_step k44 (w0 := w) w.heap.size (by rfl) (.tmp 49) (.tmp 51) 30 44 (.agg #[(.int .i64 0), (.int .i64 0), (.int .i64 0), (.int .i64 0), (.bool false)]) 40 rfl Try.underlying30 info44 rfl (by decide) (by omega) v193 t192 y195 _ _ _ (fun k_ => some k_ ≠ (.slice Ao46 y195.length co46 : Value).ownBlock ∧ k_ ≠ gb180) (fun _ => False) rfl rfl ?aO ?aR (fun _ _ h => h) (fun _ h => h.elim) ?aF ?aB ?aS ?aL ?_
               (case aR => repeat (first | exact (Kd.R_reads' HO197.out).2.2 | (with_reducible refine Kd.C_alloc ?_ _) | (with_reducible refine Kd.C_drewN ?_ _) | (with_reducible refine Kd.C_drew ?_)))
               (case aB => exact (bq1 HB.out GE180.out))
               (case aF => exact (fun k_ hk => ⟨Kd.fresh' (Kd.R_lt (kqR HO197.out)) k_ hk, Kd.freshB (g := gb180) (o := .cells #[.int .i64 a1_0, .int .i64 a1_1, .int .i64 a1_2, .int .i64 a1_3, .bool a1_4] 44 (0, 0)) (zq BK180.out) k_ hk⟩))
               (case aO => exact (kqR HO194.out))
               (case aS => exact (below_size (bq1 HB.out GE180.out)))
               (case aL => have := LMc32.out; omega)
               intro v199 w45 ho hb hg hat
               rw [← Ny198.out] at ho
               have n_ := ak4 (blk_grown (g := gb180) (o := .cells #[.int .i64 a1_0, .int .i64 a1_1, .int .i64 a1_2, .int .i64 a1_3, .bool a1_4] 44 (0, 0)) (zq BK180.out) hg (Kd.R_away HO194.out (fun _ hk => hk.2))) (Kd.R_after (ok := (fun k_ => k_ ≠ gb180)) (by (with_reducible repeat (first | apply Kd.R_alloc | apply Kd.R_drewN | apply Kd.R_drew)); exact Kd.R_mono HO197.out (fun _ hk => ⟨hk.2, hk.1⟩)) hg hat) hb ho
               clear BK180 HO197 HB HO194
               obtain ⟨BK180, HO197, HB, HO200⟩ := n_
               clear ho hb hg hat
               refine hK.out _ _ ⟨(blk_cell BK180.out 0).trans rfl, (blk_cell BK180.out 1).trans rfl, (blk_cell BK180.out 2).trans rfl, (blk_cell BK180.out 3).trans rfl, (blk_cell BK180.out 4).trans rfl⟩ (fun hHeld => ?_)
               clear hK K
               refine norm_ (a' := ?_) ?_ ?_
               rotate_left
               · show Act.put _ (some 52) _ = _
                 simp only [Act.put, List.setIfInBounds_toArray, List.set_cons_zero, List.set_cons_succ, i64_w, i32_w]
                 rfl
               refine one_ (i := 10) (N := some 56) #[true, true, true, true, true, true, true, true, true, true, true, false, false] rfl rfl (one_of HT_.out (by kernel_rfl)) (by decide) (fun K hK => ?_)
               refine Kd.R_append_rows_step k44 (w0 := w) w.heap.size (by rfl) (.tmp 52) (.tmp 55) 30 44 (.agg #[(.int .i64 0), (.int .i64 0), (.int .i64 0), (.int .i64 0), (.bool false)]) 40 rfl Try.underlying30 info44 rfl (by decide) (by omega) v199 y198 y201 _ _ _ (fun k_ => some k_ ≠ (.slice Ao46 y195.length co46 : Value).ownBlock ∧ k_ ≠ gb180) (fun _ => False) rfl rfl ?aO ?aR (fun _ _ h => h) (fun _ h => h.elim) ?aF ?aB ?aS ?aL ?_
               (case aR => exact cq (Kd.C_below HR204.out HB.out))
               (case aB => exact (bq1 HB.out GE180.out))
               (case aF => exact (fun k_ hk => ⟨Kd.fresh' (Kd.R_lt (kqR HO197.out)) k_ hk, Kd.freshB (g := gb180) (o := .cells #[.int .i64 a1_0, .int .i64 a1_1, .int .i64 a1_2, .int .i64 a1_3, .bool a1_4] 44 (0, 0)) (zq BK180.out) k_ hk⟩))
               (case aO => exact (kqR HO200.out))
               (case aS => exact (below_size (bq1 HB.out GE180.out)))
               (case aL => have := LMc35.out; omega)
               intro v206 w47 ho hb hg hat
               rw [← Ny205.out] at ho
               have n_ := ak4 (blk_grown (g := gb180) (o := .cells #[.int .i64 a1_0, .int .i64 a1_1, .int .i64 a1_2, .int .i64 a1_3, .bool a1_4] 44 (0, 0)) (zq BK180.out) hg (Kd.R_away HO200.out (fun _ hk => hk.2))) (Kd.R_after (ok := (fun k_ => k_ ≠ gb180)) (kqR HO197.out) hg hat) hb ho
               clear BK180 HO197 HB HO200
               obtain ⟨BK180, HO197, HB, HO207⟩ := n_
               clear ho hb hg hat
               refine hK.out _ _ ⟨(blk_cell BK180.out 0).trans rfl, (blk_cell BK180.out 1).trans rfl, (blk_cell BK180.out 2).trans rfl, (blk_cell BK180.out 3).trans rfl, (blk_cell BK180.out 4).trans rfl⟩ (fun hHeld => ?_)
               clear hK K
               refine norm_ (a' := ?_) ?_ ?_
               rotate_left
               · show Act.put _ (some 56) _ = _
                 simp only [Act.put, List.setIfInBounds_toArray, List.set_cons_zero, List.set_cons_succ, i64_w, i32_w]
                 rfl
               refine pure_ (i := 11) (N := some 4) (v := ?_) (a' := ?_) #[true, true, true, true, true, true, true, true, true, true, true, true, false] rfl rfl (any_of HT_.out (by kernel_rfl)) (fun _ _ _ h => h) (Or.inl ⟨by rfl, ?_⟩) ?_ ?_
               rotate_left
               · intro w'
                 go_simp
                 with_reducible rfl
               rotate_left
               · simp only [Act.put, List.setIfInBounds_toArray, List.set_cons_zero, List.set_cons_succ, i64_w, i32_w]
                 rfl
               refine pure_ (i := 12) (N := some 5) (v := ?_) (a' := ?_) #[true, true, true, true, true, true, true, true, true, true, true, true, true] rfl rfl (any_of HT_.out (by kernel_rfl)) (fun _ _ _ h => h) (Or.inl ⟨by rfl, ?_⟩) ?_ ?_
               rotate_left
               · intro w'
                 go_simp
                 with_reducible rfl
               rotate_left
               · simp only [Act.put, List.setIfInBounds_toArray, List.set_cons_zero, List.set_cons_succ, i64_w, i32_w]
                 rfl
               refine done_ (done_of HT_.out (by kernel_rfl)) ?_
               try go_wp2
               go_ret2
               exact ⟨_, rq, by (with_reducible repeat (first | apply Kd.R_alloc | apply Kd.R_drewN | apply Kd.R_drew)); exact Kd.R_mono HO207.out (fun _ hk => trivial), bq1 HB.out GE180.out⟩
             rw [if_neg c35] at H
             exact absurd H (by simp)
           rw [if_neg c32] at H
           exact absurd H (by simp)
         rw [if_neg c30] at H
         exact absurd H (by simp)
       replace c28 := Bool.eq_false_iff.mpr c28
       subst c28
       have H1 : (impl_put.l0 k1 l0 (wrap64 (x8_1 + 1)) a1_0 a1_1 a1_2 a1_3 a1_4) = some (r1, r2) := by rw [if_neg (show ¬ (false = true) by decide)] at H; exact H
       clear H
       have H := H1
       clear H1
       have H' := am H
       clear H
       try go_wp2
       have n_ := ak2 (blk_drew BK180.out) (below_drew1 HB.out)
       clear BK180 HB
       obtain ⟨BK180, HB⟩ := n_
       have p186 : 0 ≤ (x8_1 : Int) := oda
       have q186 : x8_1 < (l0.length : Int) := oda
       obtain ⟨ad186, e186, hx186_0, hx186_1, hx186_2, hx186_3, hx186_4⟩ := at_T44 HR0.out x8_1 p186 q186
       have hw186_4 := hx186_4
       have hw186_3 := hx186_3
       have hw186_2 := hx186_2
       have hw186_1 := hx186_1
       have hw186_0 := hx186_0
       cases e186
       replace hx186_0 := (HB.out.cell (World.block_lt_of_cell? w _ hx186_0)).trans hx186_0
       replace hx186_1 := (HB.out.cell (World.block_lt_of_cell? w _ hx186_1)).trans hx186_1
       replace hx186_2 := (HB.out.cell (World.block_lt_of_cell? w _ hx186_2)).trans hx186_2
       replace hx186_3 := (HB.out.cell (World.block_lt_of_cell? w _ hx186_3)).trans hx186_3
       replace hx186_4 := (HB.out.cell (World.block_lt_of_cell? w _ hx186_4)).trans hx186_4
       replace p186 := eq_true p186
       replace q186 := eq_true q186
       refine start_ (n := 16) (S := fun w' => w'.cell? ⟨gb180, 0, none⟩ = some (.int .i64 a1_0) ∧ w'.cell? ⟨gb180, 1, none⟩ = some (.int .i64 a1_1) ∧ w'.cell? ⟨gb180, 2, none⟩ = some (.int .i64 a1_2) ∧ w'.cell? ⟨gb180, 3, none⟩ = some (.int .i64 a1_3) ∧ w'.cell? ⟨gb180, 4, none⟩ = some (.bool a1_4) ∧ w'.cell? (ad186.add ((x8_1).toNat * 5)) = some (.int .i64 ((rd_T44 l0 x8_1).f0)) ∧ w'.cell? ⟨(ad186.add ((x8_1).toNat * 5)).block, (ad186.add ((x8_1).toNat * 5)).off + 1, none⟩ = some (.int .i64 ((rd_T44 l0 x8_1).f1)) ∧ w'.cell? ⟨(ad186.add ((x8_1).toNat * 5)).block, (ad186.add ((x8_1).toNat * 5)).off + 2, none⟩ = some (.int .i64 ((rd_T44 l0 x8_1).f2)) ∧ w'.cell? ⟨(ad186.add ((x8_1).toNat * 5)).block, (ad186.add ((x8_1).toNat * 5)).off + 3, none⟩ = some (.int .i64 ((rd_T44 l0 x8_1).f3)) ∧ w'.cell? ⟨(ad186.add ((x8_1).toNat * 5)).block, (ad186.add ((x8_1).toNat * 5)).off + 4, none⟩ = some (.bool ((rd_T44 l0 x8_1).f4))) (ds := []) #[false, false, false, false, false, false, false, false, false, false, false, false, false, false, false, false] (by kernel_rfl) rfl rfl ⟨(blk_cell BK180.out 0).trans rfl, (blk_cell BK180.out 1).trans rfl, (blk_cell BK180.out 2).trans rfl, (blk_cell BK180.out 3).trans rfl, (blk_cell BK180.out 4).trans rfl, ((HB.out.cell (World.block_lt_of_cell? w _ hw186_0)).trans hw186_0), ((HB.out.cell (World.block_lt_of_cell? w _ hw186_1)).trans hw186_1), ((HB.out.cell (World.block_lt_of_cell? w _ hw186_2)).trans hw186_2), ((HB.out.cell (World.block_lt_of_cell? w _ hw186_3)).trans hw186_3), ((HB.out.cell (World.block_lt_of_cell? w _ hw186_4)).trans hw186_4)⟩ (fun hHeld => ?_); refine with_tabW impl_put.tab9 impl_put.bits9 (fun HT_ HW_ => ?_)
       generalize wr.drew = w48 at BK180 HB hx186_0 hx186_1 hx186_2 hx186_3 hx186_4 hHeld ⊢
       refine pure_ (i := 0) (N := some 28) (v := ?_) (a' := ?_) #[true, false, false, false, false, false, false, false, false, false, false, false, false, false, false, false] rfl rfl (any_of HT_.out (by kernel_rfl)) (fun _ _ _ h => h) (Or.inl ⟨by rfl, ?_⟩) ?_ ?_
       rotate_left
       · intro w'
         go_simp
         with_reducible rfl
       rotate_left
       · simp only [Act.put, List.setIfInBounds_toArray, List.set_cons_zero, List.set_cons_succ, i64_w, i32_w]
         rfl
       refine pure_ (i := 1) (N := some 29) (v := ?_) (a' := ?_) #[true, true, false, false, false, false, false, false, false, false, false, false, false, false, false, false] rfl rfl (any_of HT_.out (by kernel_rfl)) (fun _ _ _ h => h) (Or.inl ⟨by rfl, ?_⟩) ?_ ?_
       rotate_left
       · intro w'
         go_simp
         with_reducible rfl
       rotate_left
       · simp only [Act.put, List.setIfInBounds_toArray, List.set_cons_zero, List.set_cons_succ, i64_w, i32_w]
         rfl
       refine pure_ (i := 2) (N := some 30) (v := ?_) (a' := ?_) #[true, true, true, false, false, false, false, false, false, false, false, false, false, false, false, false] rfl rfl (any_of HT_.out (by kernel_rfl)) (fun _ _ _ h => h) (Or.inl ⟨by rfl, ?_⟩) ?_ ?_
       rotate_left
       · intro w'
         go_simp
         with_reducible rfl
       rotate_left
       · simp only [Act.put, List.setIfInBounds_toArray, List.set_cons_zero, List.set_cons_succ, i64_w, i32_w]
         rfl
       refine pure_ (i := 3) (N := some 31) (v := ?_) (a' := ?_) #[true, true, true, true, false, false, false, false, false, false, false, false, false, false, false, false] rfl rfl (any_of HT_.out (by kernel_rfl)) (fun _ _ _ h => h) (Or.inl ⟨by rfl, ?_⟩) ?_ ?_
       rotate_left
       · intro w'
         go_simp
         with_reducible rfl
       rotate_left
       · simp only [Act.put, List.setIfInBounds_toArray, List.set_cons_zero, List.set_cons_succ, i64_w, i32_w]
         rfl
       refine pure_ (i := 4) (N := some 32) (v := ?_) (a' := ?_) #[true, true, true, true, true, false, false, false, false, false, false, false, false, false, false, false] rfl rfl (any_of HT_.out (by kernel_rfl)) (fun _ _ _ h => h) (Or.inl ⟨by rfl, ?_⟩) ?_ ?_
       rotate_left
       · intro w'
         go_simp
         with_reducible rfl
       rotate_left
       · simp only [Act.put, List.setIfInBounds_toArray, List.set_cons_zero, List.set_cons_succ, i64_w, i32_w]
         rfl
       refine pure_ (i := 5) (N := some 33) (v := ?_) (a' := ?_) #[true, true, true, true, true, true, false, false, false, false, false, false, false, false, false, false] rfl rfl (any_of HT_.out (by kernel_rfl)) (fun _ _ _ h => h) (Or.inl ⟨by rfl, ?_⟩) ?_ ?_
       rotate_left
       · intro w'
         go_simp
         with_reducible rfl
       rotate_left
       · simp only [Act.put, List.setIfInBounds_toArray, List.set_cons_zero, List.set_cons_succ, i64_w, i32_w]
         rfl
       refine pure_ (i := 6) (N := some 34) (v := ?_) (a' := ?_) #[true, true, true, true, true, true, true, false, false, false, false, false, false, false, false, false] rfl rfl (any_of HT_.out (by kernel_rfl)) (fun _ _ _ h => h) (Or.inl ⟨by rfl, ?_⟩) ?_ ?_
       rotate_left
       · intro w'
         go_simp
         with_reducible rfl
       rotate_left
       · simp only [Act.put, List.setIfInBounds_toArray, List.set_cons_zero, List.set_cons_succ, i64_w, i32_w]
         rfl
       refine pure_ (i := 7) (N := some 35) (v := ?_) (a' := ?_) #[true, true, true, true, true, true, true, true, false, false, false, false, false, false, false, false] rfl rfl (any_of HT_.out (by kernel_rfl)) (fun _ _ _ h => h) (Or.inl ⟨by rfl, ?_⟩) ?_ ?_
       rotate_left
       · intro w'
         go_simp
         with_reducible rfl
       rotate_left
       · simp only [Act.put, List.setIfInBounds_toArray, List.set_cons_zero, List.set_cons_succ, i64_w, i32_w]
         rfl
       refine pure_ (i := 9) (N := some 37) (v := ?_) (a' := ?_) #[true, true, true, true, true, true, true, true, false, true, false, false, false, false, false, false] rfl rfl (any_of HT_.out (by kernel_rfl)) (fun _ _ _ h => h) (Or.inl ⟨by rfl, ?_⟩) ?_ ?_
       rotate_left
       · intro w'
         go_simp
         with_reducible rfl
       rotate_left
       · simp only [Act.put, List.setIfInBounds_toArray, List.set_cons_zero, List.set_cons_succ, i64_w, i32_w]
         rfl
       refine pure_ (i := 11) (N := some 39) (v := ?_) (a' := ?_) #[true, true, true, true, true, true, true, true, false, true, false, true, false, false, false, false] rfl rfl (any_of HT_.out (by kernel_rfl)) (fun _ _ _ h => h) (Or.inl ⟨by rfl, ?_⟩) ?_ ?_
       rotate_left
       · intro w'
         go_simp
         with_reducible rfl
       rotate_left
       · simp only [Act.put, List.setIfInBounds_toArray, List.set_cons_zero, List.set_cons_succ, i64_w, i32_w]
         rfl
       refine take_ (i := 8) (N := some 36) (v := ?_) (a' := ?_) #[true, true, true, true, true, true, true, true, true, true, false, true, false, false, false, false] rfl rfl (take_ofW HT_.out HW_.out (by kernel_rfl)) (fun _ _ _ h => h) (Or.inl ⟨by rfl, ?_⟩) hHeld ?_ ?_
       rotate_left
       · rintro w' ⟨s0, s1, s2, s3, s4, s5, s6, s7, s8, s9⟩
         go_simp
         with_reducible rfl
       rotate_left
       · simp only [Act.put, List.setIfInBounds_toArray, List.set_cons_zero, List.set_cons_succ, i64_w, i32_w]
         rfl
       refine take_ (i := 10) (N := some 38) (v := ?_) (a' := ?_) #[true, true, true, true, true, true, true, true, true, true, true, true, false, false, false, false] rfl rfl (take_ofW HT_.out HW_.out (by kernel_rfl)) (fun _ _ _ h => h) (Or.inl ⟨by rfl, ?_⟩) hHeld ?_ ?_
       rotate_left
       · rintro w' ⟨s0, s1, s2, s3, s4, s5, s6, s7, s8, s9⟩
         go_simp
         with_reducible rfl
       rotate_left
       · simp only [Act.put, List.setIfInBounds_toArray, List.set_cons_zero, List.set_cons_succ, i64_w, i32_w]
         rfl
       refine take_ (i := 12) (N := some 40) (v := ?_) (a' := ?_) #[true, true, true, true, true, true, true, true, true, true, true, true, true, false, false, false] rfl rfl (take_ofW HT_.out HW_.out (by kernel_rfl)) (fun _ _ _ h => h) (Or.inl ⟨by rfl, ?_⟩) hHeld ?_ ?_
       rotate_left
       · rintro w' ⟨s0, s1, s2, s3, s4, s5, s6, s7, s8, s9⟩
         go_simp
         with_reducible rfl
       rotate_left
       · simp only [Act.put, List.setIfInBounds_toArray, List.set_cons_zero, List.set_cons_succ, i64_w, i32_w]
         rfl
       refine one_ (i := 13) (N := some 41) #[true, true, true, true, true, true, true, true, true, true, true, true, true, true, false, false] rfl rfl (one_of HT_.out (by kernel_rfl)) (by decide) (fun K hK => ?_)
       refine goes_ Try.func89 (by kernel_rfl) rfl #[.agg #[.int .i64 ((rd_T44 l0 x8_1).f0), .int .i64 ((rd_T44 l0 x8_1).f1), .int .i64 ((rd_T44 l0 x8_1).f2), .int .i64 ((rd_T44 l0 x8_1).f3), .bool ((rd_T44 l0 x8_1).f4)], .int .i64 a1_0, .int .i64 a1_1] (by rfl) rfl rfl ga ?_
       with_reducible refine (impl_behind.calls ((rd_T44 l0 x8_1).f0) ((rd_T44 l0 x8_1).f1) ((rd_T44 l0 x8_1).f2) ((rd_T44 l0 x8_1).f3) ((rd_T44 l0 x8_1).f4) a1_0 a1_1 false _ A27.out).mono ?_
       rintro e w49 ⟨rfl, hb⟩
       refine ⟨_, rfl, ?_⟩
       have n_ := ak2 (blk_below (g := gb180) (o := .cells #[.int .i64 a1_0, .int .i64 a1_1, .int .i64 a1_2, .int .i64 a1_3, .bool a1_4] 44 (0, 0)) (zq BK180.out) hb) (below_step (bq1 HB.out GE180.out) hb)
       clear BK180 HB
       obtain ⟨BK180, HB⟩ := n_
       (try clear hb)
       refine hK.out _ _ ⟨(blk_cell BK180.out 0).trans rfl, (blk_cell BK180.out 1).trans rfl, (blk_cell BK180.out 2).trans rfl, (blk_cell BK180.out 3).trans rfl, (blk_cell BK180.out 4).trans rfl, ((HB.out.cell (World.block_lt_of_cell? w _ hw186_0)).trans hw186_0), ((HB.out.cell (World.block_lt_of_cell? w _ hw186_1)).trans hw186_1), ((HB.out.cell (World.block_lt_of_cell? w _ hw186_2)).trans hw186_2), ((HB.out.cell (World.block_lt_of_cell? w _ hw186_3)).trans hw186_3), ((HB.out.cell (World.block_lt_of_cell? w _ hw186_4)).trans hw186_4)⟩ (fun hHeld => ?_)
       clear hK K
       refine norm_ (a' := ?_) ?_ ?_
       rotate_left
       · show Act.put _ (some 41) _ = _
         simp only [Act.put, List.setIfInBounds_toArray, List.set_cons_zero, List.set_cons_succ, i64_w, i32_w]
         rfl
       refine pure_ (i := 14) (N := some 42) (v := ?_) (a' := ?_) #[true, true, true, true, true, true, true, true, true, true, true, true, true, true, true, false] rfl rfl (any_of HT_.out (by kernel_rfl)) (fun _ _ _ h => h) (Or.inl ⟨by rfl, ?_⟩) ?_ ?_
       rotate_left
       · intro w'
         go_simp
         with_reducible rfl
       rotate_left
       · simp only [Act.put, List.setIfInBounds_toArray, List.set_cons_zero, List.set_cons_succ, i64_w, i32_w]
         rfl
       refine pure_ (i := 15) (N := some 43) (v := ?_) (a' := ?_) #[true, true, true, true, true, true, true, true, true, true, true, true, true, true, true, true] rfl rfl (any_of HT_.out (by kernel_rfl)) (fun _ _ _ h => h) (Or.inl ⟨by rfl, ?_⟩) ?_ ?_
       rotate_left
       · intro w'
         go_simp
         with_reducible rfl
       rotate_left
       · simp only [Act.put, List.setIfInBounds_toArray, List.set_cons_zero, List.set_cons_succ, i64_w, i32_w]
         rfl
       refine done_ (done_of HT_.out (by kernel_rfl)) ?_
       try go_wp2
       go_roundg k1
       case measure => have := HK1.out; omega
       case rel => exact ⟨(wrap64 (x8_1 + 1)), sq, H', ⟨by have := HK1.out; omega⟩, ⟨zq BK180.out⟩, ⟨bq1 HB.out GE180.out⟩⟩
     rw [if_neg c26] at H
     exact absurd H (by simp)
   rw [if_neg c25] at H
   have c25b0 : decide (x8_1 < (l0.length : Int)) = false := decide_eq_false c25
   clear c25
   by_cases c50 : 0 ≤ x8_1
   · rw [if_pos c50] at H
     have c50b0 := eq_true c50
     have c50b1 : decide (0 ≤ x8_1) = true := decide_eq_true c50
     clear c50
     by_cases c51 : x8_1 ≤ (l0.length : Int)
     · rw [if_pos c51] at H
       have c51b0 := eq_true c51
       have c51b1 : decide (x8_1 ≤ (l0.length : Int)) = true := decide_eq_true c51
       clear c51
       obtain ⟨y208, hy208⟩ : ∃ y_ : List (S44), y_ = (l0.take (x8_1 : Int).toNat) := ⟨_, rfl⟩
       replace H : ((impl_copyFdb.f y208).bind fun t212 => ((some (([(⟨a1_0, a1_1, a1_2, a1_3, a1_4⟩ : S44)] : List (S44)) : List (S44))).bind fun y215 => (if t212.length + y215.length < 3518437208883 then ((some (t212 ++ y215 : List (S44))).bind fun y218 => ((some (l0.drop (x8_1 : Int).toNat : List (S44))).bind fun y221 => (if y218.length + y221.length < 3518437208883 then (some ((y218 ++ y221), true)) else (none)))) else (none)))) = some (r1, r2) := by first | (rw [hy208]; with_reducible exact H) | (have H2_ := (Option.bind_some _ _).symm.trans H; rw [hy208]; with_reducible exact H2_) | (have H2_ := (Option.bind_some _ _).symm.trans H; with_reducible exact H2_) | with_reducible exact H | (rw [hy208]; exact H) | exact H
       have Ny208 := am hy208
       clear hy208
       replace H := Option.bind_eq_some_iff.mp H
       obtain ⟨t212, A520, H⟩ := H
       replace H : ((some (([(⟨a1_0, a1_1, a1_2, a1_3, a1_4⟩ : S44)] : List (S44)) : List (S44))).bind fun y215 => (if t212.length + y215.length < 3518437208883 then ((some (t212 ++ y215 : List (S44))).bind fun y218 => ((some (l0.drop (x8_1 : Int).toNat : List (S44))).bind fun y221 => (if y218.length + y221.length < 3518437208883 then (some ((y218 ++ y221), true)) else (none)))) else (none))) = some (r1, r2) := H
       have A52 := am A520
       clear A520
       obtain ⟨y215, hy215⟩ : ∃ y_ : List (S44), y_ = (([(⟨a1_0, a1_1, a1_2, a1_3, a1_4⟩ : S44)] : List (S44))) := ⟨_, rfl⟩
       replace H : (if t212.length + y215.length < 3518437208883 then ((some (t212 ++ y215 : List (S44))).bind fun y218 => ((some (l0.drop (x8_1 : Int).toNat : List (S44))).bind fun y221 => (if y218.length + y221.length < 3518437208883 then (some ((y218 ++ y221), true)) else (none)))) else (none)) = some (r1, r2) := by first | (rw [hy215]; with_reducible exact H) | (have H2_ := (Option.bind_some _ _).symm.trans H; rw [hy215]; with_reducible exact H2_) | (have H2_ := (Option.bind_some _ _).symm.trans H; with_reducible exact H2_) | with_reducible exact H | (rw [hy215]; exact H) | exact H
       have Ny215 := am hy215
       clear hy215
       by_cases c53 : t212.length + y215.length < 3518437208883
       · rw [if_pos c53] at H
         have LMc53 := am c53
         clear c53
         obtain ⟨y218, hy218⟩ : ∃ y_ : List (S44), y_ = (t212 ++ y215) := ⟨_, rfl⟩
         replace H : ((some (l0.drop (x8_1 : Int).toNat : List (S44))).bind fun y221 => (if y218.length + y221.length < 3518437208883 then (some ((y218 ++ y221), true)) else (none))) = some (r1, r2) := by first | (rw [hy218]; with_reducible exact H) | (have H2_ := (Option.bind_some _ _).symm.trans H; rw [hy218]; with_reducible exact H2_) | (have H2_ := (Option.bind_some _ _).symm.trans H; with_reducible exact H2_) | with_reducible exact H | (rw [hy218]; exact H) | exact H
         have Ny218 := am hy218
         clear hy218
         have c54b0 := eq_true (oda : 0 ≤ x8_1)
         have c55b0 := eq_true (oda : x8_1 ≤ (l0.length : Int))
         obtain ⟨y221, hy221⟩ : ∃ y_ : List (S44), y_ = (l0.drop (x8_1 : Int).toNat) := ⟨_, rfl⟩
         replace H : (if y218.length + y221.length < 3518437208883 then (some ((y218 ++ y221), true)) else (none)) = some (r1, r2) := by first | (rw [hy221]; with_reducible exact H) | (have H2_ := (Option.bind_some _ _).symm.trans H; rw [hy221]; with_reducible exact H2_) | (have H2_ := (Option.bind_some _ _).symm.trans H; with_reducible exact H2_) | with_reducible exact H | (rw [hy221]; exact H) | exact H
         have Ny221 := am hy221
         clear hy221
         by_cases c56 : y218.length + y221.length < 3518437208883
         · rw [if_pos c56] at H
           have LMc56 := am c56
           clear c56
           obtain ⟨y225, hy225⟩ : ∃ y_ : List (S44), y_ = (y218 ++ y221) := ⟨_, rfl⟩
           replace H : (some (y225, true)) = some (r1, r2) := by first | (rw [hy225]; with_reducible exact H) | (have H2_ := (Option.bind_some _ _).symm.trans H; rw [hy225]; with_reducible exact H2_) | (have H2_ := (Option.bind_some _ _).symm.trans H; with_reducible exact H2_) | with_reducible exact H | (rw [hy225]; exact H) | exact H
           have Ny225 := am hy225
           clear hy225
           simp only [Option.some.injEq, Prod.mk.injEq] at H
           obtain ⟨rfl, rfl⟩ := H
           try go_wp2
           have n_ := ak2 (blk_drew BK180.out) (below_drew1 HB.out)
           clear BK180 HB
           obtain ⟨BK180, HB⟩ := n_
           refine start_ (n := 16) (S := fun w' => True) (ds := []) #[false, false, false, false, false, false, false, false, false, false, false, false, false, false, false, false] (by kernel_rfl) rfl rfl trivial (fun hHeld => ?_); refine with_tabW impl_put.tab9 impl_put.bits9 (fun HT_ HW_ => ?_)
           generalize wr.drew = w57 at BK180 HB hHeld ⊢
           refine pure_ (i := 0) (N := some 28) (v := ?_) (a' := ?_) #[true, false, false, false, false, false, false, false, false, false, false, false, false, false, false, false] rfl rfl (any_of HT_.out (by kernel_rfl)) (fun _ _ _ h => h) (Or.inl ⟨by rfl, ?_⟩) ?_ ?_
           rotate_left
           · intro w'
             go_simp
             with_reducible rfl
           rotate_left
           · simp only [Act.put, List.setIfInBounds_toArray, List.set_cons_zero, List.set_cons_succ, i64_w, i32_w]
             rfl
           refine pure_ (i := 1) (N := some 29) (v := ?_) (a' := ?_) #[true, true, false, false, false, false, false, false, false, false, false, false, false, false, false, false] rfl rfl (any_of HT_.out (by kernel_rfl)) (fun _ _ _ h => h) (Or.inl ⟨by rfl, ?_⟩) ?_ ?_
           rotate_left
           · intro w'
             go_simp
             with_reducible rfl
           rotate_left
           · simp only [Act.put, List.setIfInBounds_toArray, List.set_cons_zero, List.set_cons_succ, i64_w, i32_w]
             rfl
           refine pure_ (i := 2) (N := some 30) (v := ?_) (a' := ?_) #[true, true, true, false, false, false, false, false, false, false, false, false, false, false, false, false] rfl rfl (any_of HT_.out (by kernel_rfl)) (fun _ _ _ h => h) (Or.inl ⟨by rfl, ?_⟩) ?_ ?_
           rotate_left
           · intro w'
             go_simp
             with_reducible rfl
           rotate_left
           · simp only [Act.put, List.setIfInBounds_toArray, List.set_cons_zero, List.set_cons_succ, i64_w, i32_w]
             rfl
           refine pure_ (i := 3) (N := some 31) (v := ?_) (a' := ?_) #[true, true, true, true, false, false, false, false, false, false, false, false, false, false, false, false] rfl rfl (any_of HT_.out (by kernel_rfl)) (fun _ _ _ h => h) (Or.inl ⟨by rfl, ?_⟩) ?_ ?_
           rotate_left
           · intro w'
             go_simp
             with_reducible rfl
           rotate_left
           · simp only [Act.put, List.setIfInBounds_toArray, List.set_cons_zero, List.set_cons_succ, i64_w, i32_w]
             rfl
           refine pure_ (i := 4) (N := some 32) (v := ?_) (a' := ?_) #[true, true, true, true, true, false, false, false, false, false, false, false, false, false, false, false] rfl rfl (any_of HT_.out (by kernel_rfl)) (fun _ _ _ h => h) (Or.inl ⟨by rfl, ?_⟩) ?_ ?_
           rotate_left
           · intro w'
             go_simp
             with_reducible rfl
           rotate_left
           · simp only [Act.put, List.setIfInBounds_toArray, List.set_cons_zero, List.set_cons_succ, i64_w, i32_w]
             rfl
           refine pure_ (i := 5) (N := some 33) (v := undef) (a' := ?_) #[true, true, true, true, true, true, false, false, false, false, false, false, false, false, false, false] rfl rfl (any_of HT_.out (by kernel_rfl)) (fun _ _ _ h => h) (Or.inr ⟨by rfl, rfl⟩) ?_ ?_
           rotate_left
           · simp only [Act.put, List.setIfInBounds_toArray, List.set_cons_zero, List.set_cons_succ, i64_w, i32_w]
             rfl
           refine pure_ (i := 6) (N := some 34) (v := undef) (a' := ?_) #[true, true, true, true, true, true, true, false, false, false, false, false, false, false, false, false] rfl rfl (any_of HT_.out (by kernel_rfl)) (fun _ _ _ h => h) (Or.inr ⟨by rfl, rfl⟩) ?_ ?_
           rotate_left
           · simp only [Act.put, List.setIfInBounds_toArray, List.set_cons_zero, List.set_cons_succ, i64_w, i32_w]
             rfl
           refine pure_ (i := 7) (N := some 35) (v := undef) (a' := ?_) #[true, true, true, true, true, true, true, true, false, false, false, false, false, false, false, false] rfl rfl (any_of HT_.out (by kernel_rfl)) (fun _ _ _ h => h) (Or.inr ⟨by rfl, rfl⟩) ?_ ?_
           rotate_left
           · simp only [Act.put, List.setIfInBounds_toArray, List.set_cons_zero, List.set_cons_succ, i64_w, i32_w]
             rfl
           refine pure_ (i := 8) (N := some 36) (v := undef) (a' := ?_) #[true, true, true, true, true, true, true, true, true, false, false, false, false, false, false, false] rfl rfl (any_of HT_.out (by kernel_rfl)) (fun _ _ _ h => h) (Or.inr ⟨by rfl, rfl⟩) ?_ ?_
           rotate_left
           · simp only [Act.put, List.setIfInBounds_toArray, List.set_cons_zero, List.set_cons_succ, i64_w, i32_w]
             rfl
           refine pure_ (i := 9) (N := some 37) (v := undef) (a' := ?_) #[true, true, true, true, true, true, true, true, true, true, false, false, false, false, false, false] rfl rfl (any_of HT_.out (by kernel_rfl)) (fun _ _ _ h => h) (Or.inr ⟨by rfl, rfl⟩) ?_ ?_
           rotate_left
           · simp only [Act.put, List.setIfInBounds_toArray, List.set_cons_zero, List.set_cons_succ, i64_w, i32_w]
             rfl
           refine pure_ (i := 10) (N := some 38) (v := undef) (a' := ?_) #[true, true, true, true, true, true, true, true, true, true, true, false, false, false, false, false] rfl rfl (any_of HT_.out (by kernel_rfl)) (fun _ _ _ h => h) (Or.inr ⟨by rfl, rfl⟩) ?_ ?_
           rotate_left
           · simp only [Act.put, List.setIfInBounds_toArray, List.set_cons_zero, List.set_cons_succ, i64_w, i32_w]
             rfl
           refine pure_ (i := 11) (N := some 39) (v := undef) (a' := ?_) #[true, true, true, true, true, true, true, true, true, true, true, true, false, false, false, false] rfl rfl (any_of HT_.out (by kernel_rfl)) (fun _ _ _ h => h) (Or.inr ⟨by rfl, rfl⟩) ?_ ?_
           rotate_left
           · simp only [Act.put, List.setIfInBounds_toArray, List.set_cons_zero, List.set_cons_succ, i64_w, i32_w]
             rfl
           refine pure_ (i := 12) (N := some 40) (v := undef) (a' := ?_) #[true, true, true, true, true, true, true, true, true, true, true, true, true, false, false, false] rfl rfl (any_of HT_.out (by kernel_rfl)) (fun _ _ _ h => h) (Or.inr ⟨by rfl, rfl⟩) ?_ ?_
           rotate_left
           · simp only [Act.put, List.setIfInBounds_toArray, List.set_cons_zero, List.set_cons_succ, i64_w, i32_w]
             rfl
           refine pure_ (i := 13) (N := some 41) (v := undef) (a' := ?_) #[true, true, true, true, true, true, true, true, true, true, true, true, true, true, false, false] rfl rfl (any_of HT_.out (by kernel_rfl)) (fun _ _ _ h => h) (Or.inr ⟨by rfl, rfl⟩) ?_ ?_
           rotate_left
           · simp only [Act.put, List.setIfInBounds_toArray, List.set_cons_zero, List.set_cons_succ, i64_w, i32_w]
             rfl
           refine pure_ (i := 14) (N := some 42) (v := undef) (a' := ?_) #[true, true, true, true, true, true, true, true, true, true, true, true, true, true, true, false] rfl rfl (any_of HT_.out (by kernel_rfl)) (fun _ _ _ h => h) (Or.inr ⟨by rfl, rfl⟩) ?_ ?_
           rotate_left
           · simp only [Act.put, List.setIfInBounds_toArray, List.set_cons_zero, List.set_cons_succ, i64_w, i32_w]
             rfl
           refine pure_ (i := 15) (N := some 43) (v := ?_) (a' := ?_) #[true, true, true, true, true, true, true, true, true, true, true, true, true, true, true, true] rfl rfl (any_of HT_.out (by kernel_rfl)) (fun _ _ _ h => h) (Or.inl ⟨by rfl, ?_⟩) ?_ ?_
           rotate_left
           · intro w'
             go_simp
             with_reducible rfl
           rotate_left
           · simp only [Act.put, List.setIfInBounds_toArray, List.set_cons_zero, List.set_cons_succ, i64_w, i32_w]
             rfl
           refine done_ (done_of HT_.out (by kernel_rfl)) ?_
           try go_wp2
           have n_ := ak2 (blk_drew BK180.out) (below_drew1 HB.out)
           clear BK180 HB
           obtain ⟨BK180, HB⟩ := n_
           have q59 : (x8_1 : Int) ≤ ((l0.length : Int) : Int) := oda
           obtain ⟨i059, hi059, _, hsz59, _⟩ := info_parts info44
           have hroom59 : l0.length ≤ c0 := HC0.out
           have hC59 : Kd.C k44 _ A0 l0.length l0 := HR0.out
           have hcut59 := cut_to (P := Try.prog) 30 44 .i64 Try.underlying30 hi059 A0 l0.length c0 x8_1 (oda) q59 hroom59
           have hr59 := Kd.C_take (m := (x8_1 : Int).toNat) hC59 (by omega)
           have hy59 : y208.length = (x8_1 : Int).toNat := (by rw [Ny208.out, List.length_take]; omega)
           rw [← Ny208.out] at hr59
           rw [← hy59] at hcut59
           have HR211 := am hr59
           have HC211 := am (show y208.length ≤ c0 from by omega)
           clear hr59 hC59 hroom59 hi059 hsz59
           have KY59 := am hy59
           clear hy59
           replace q59 := eq_true q59
           have q60 : (x8_1 : Int) ≤ ((l0.length : Int) : Int) := oda
           obtain ⟨i060, hi060, _, hsz60, _⟩ := info_parts info44
           have hroom60 : l0.length ≤ c0 := HC0.out
           have hC60 : Kd.C k44 _ A0 l0.length l0 := HR0.out
           have q060 : (0 : Int) ≤ (x8_1 : Int) := oda
           have hcut60 := cut_from (P := Try.prog) 30 44 .i64 Try.underlying30 hi060 5 hsz60 A0 l0.length c0 x8_1 q060 q60
           have hr60 := Kd.C_drop (m := (x8_1 : Int).toNat) (c := c0) hC60 (by omega) hroom60
           obtain ⟨A60, hA60⟩ : ∃ A1, A1 = (if c0 = (x8_1 : Int).toNat then A0 else (A0 : Option Addr).map (·.add ((x8_1 : Int).toNat * 5))) := ⟨_, rfl⟩
           obtain ⟨c60, hc60⟩ : ∃ c1, c1 = c0 - (x8_1 : Int).toNat := ⟨_, rfl⟩
           have hy60 : y221.length = l0.length - (x8_1 : Int).toNat := (by rw [Ny221.out, List.length_drop] <;> omega)
           rw [show (l0).drop (x8_1 : Int).toNat = y221 from Ny221.out.symm] at hr60
           replace hr60 : Kd.C k44 _ A60 y221.length y221 := (by rw [hA60]; exact hr60)
           rw [← hy60, ← hA60, ← hc60] at hcut60
           have HR224 := am hr60
           have HC224 := am (show y221.length ≤ c60 from by rw [hy60, hc60]; exact Nat.sub_le_sub_right hroom60 _)
           clear hr60 hC60 hroom60 hi060 hsz60 hc60
           have KY60 := am hy60
           have KA60 := am hA60
           clear hy60 hA60
           replace q60 := eq_true q60
           refine start_ (n := 13) (S := fun w' => w'.cell? ⟨gb180, 0, none⟩ = some (.int .i64 a1_0) ∧ w'.cell? ⟨gb180, 1, none⟩ = some (.int .i64 a1_1) ∧ w'.cell? ⟨gb180, 2, none⟩ = some (.int .i64 a1_2) ∧ w'.cell? ⟨gb180, 3, none⟩ = some (.int .i64 a1_3) ∧ w'.cell? ⟨gb180, 4, none⟩ = some (.bool a1_4)) (ds := []) #[false, false, false, false, false, false, false, false, false, false, false, false, false] (by kernel_rfl) rfl rfl ⟨(blk_cell BK180.out 0).trans rfl, (blk_cell BK180.out 1).trans rfl, (blk_cell BK180.out 2).trans rfl, (blk_cell BK180.out 3).trans rfl, (blk_cell BK180.out 4).trans rfl⟩ (fun hHeld => ?_); refine with_tabW impl_put.tab11 impl_put.bits11 (fun HT_ HW_ => ?_)
           generalize w57.drew = w58 at BK180 HB HR211 HR224 hHeld ⊢
           refine pure_ (i := 0) (N := some 46) (v := ?_) (a' := ?_) #[true, false, false, false, false, false, false, false, false, false, false, false, false] rfl rfl (any_of HT_.out (by kernel_rfl)) (fun _ _ _ h => h) (Or.inl ⟨by rfl, ?_⟩) ?_ ?_
           rotate_left
           · intro w'
             go_simp
             with_reducible rfl
           rotate_left
           · simp only [Act.put, List.setIfInBounds_toArray, List.set_cons_zero, List.set_cons_succ, i64_w, i32_w]
             rfl
           refine pure_ (i := 1) (N := some 47) (v := ?_) (a' := ?_) #[true, true, false, false, false, false, false, false, false, false, false, false, false] rfl rfl (any_of HT_.out (by kernel_rfl)) (fun _ _ _ h => h) (Or.inl ⟨by rfl, ?_⟩) ?_ ?_
           rotate_left
           · intro w'
             go_simp
             with_reducible rfl
           rotate_left
           · simp only [Act.put, List.setIfInBounds_toArray, List.set_cons_zero, List.set_cons_succ, i64_w, i32_w]
             rfl
           refine pure_ (i := 2) (N := some 48) (v := ?_) (a' := ?_) #[true, true, true, false, false, false, false, false, false, false, false, false, false] rfl rfl (any_of HT_.out (by kernel_rfl)) (fun _ _ _ h => h) (Or.inl ⟨by rfl, ?_⟩) ?_ ?_
           rotate_left
           · intro w'
             go_simp
             with_reducible rfl
           rotate_left
           · simp only [Act.put, List.setIfInBounds_toArray, List.set_cons_zero, List.set_cons_succ, i64_w, i32_w]
             rfl
           refine pure_ (i := 7) (N := some 53) (v := ?_) (a' := ?_) #[true, true, true, false, false, false, false, true, false, false, false, false, false] rfl rfl (any_of HT_.out (by kernel_rfl)) (fun _ _ _ h => h) (Or.inl ⟨by rfl, ?_⟩) ?_ ?_
           rotate_left
           · intro w'
             go_simp
             with_reducible rfl
           rotate_left
           · simp only [Act.put, List.setIfInBounds_toArray, List.set_cons_zero, List.set_cons_succ, i64_w, i32_w]
             rfl
           refine pure_ (i := 8) (N := some 54) (v := ?_) (a' := ?_) #[true, true, true, false, false, false, false, true, true, false, false, false, false] rfl rfl (any_of HT_.out (by kernel_rfl)) (fun _ _ _ h => h) (Or.inl ⟨by rfl, ?_⟩) ?_ ?_
           rotate_left
           · intro w'
             go_simp
             with_reducible rfl
           rotate_left
           · simp only [Act.put, List.setIfInBounds_toArray, List.set_cons_zero, List.set_cons_succ, i64_w, i32_w]
             rfl
           refine pure_ (i := 9) (N := some 55) (v := ?_) (a' := ?_) #[true, true, true, false, false, false, false, true, true, true, false, false, false] rfl rfl (any_of HT_.out (by kernel_rfl)) (fun _ _ _ h => h) (Or.inl ⟨by rfl, ?_⟩) ?_ ?_
           rotate_left
           · intro w'
             go_simp
             with_reducible rfl
           rotate_left
           · simp only [Act.put, List.setIfInBounds_toArray, List.set_cons_zero, List.set_cons_succ, i64_w, i32_w]
             rfl
           refine take_ (i := 4) (N := some 50) (v := ?_) (a' := ?_) #[true, true, true, false, true, false, false, true, true, true, false, false, false] rfl rfl (take_ofW HT_.out HW_.out (by kernel_rfl)) (fun _ _ _ h => h) (Or.inl ⟨by rfl, ?_⟩) hHeld ?_ ?_
           rotate_left
           · rintro w' ⟨s0, s1, s2, s3, s4⟩
             go_simp
             with_reducible rfl
           rotate_left
           · simp only [Act.put, List.setIfInBounds_toArray, List.set_cons_zero, List.set_cons_succ, i64_w, i32_w]
             rfl
           refine join_ (σ := Value × Value) 4 #[true, true, true, true, true, true, false, true, true, true, false, false, false] (fun s_ => [(49, s_.1), (51, s_.2)]) (fun s_ w' => (w'.cell? ⟨gb180, 0, none⟩ = some (.int .i64 a1_0) ∧ w'.cell? ⟨gb180, 1, none⟩ = some (.int .i64 a1_1) ∧ w'.cell? ⟨gb180, 2, none⟩ = some (.int .i64 a1_2) ∧ w'.cell? ⟨gb180, 3, none⟩ = some (.int .i64 a1_3) ∧ w'.cell? ⟨gb180, 4, none⟩ = some (.bool a1_4)) ∧ (Kd.R k44 44 w' w.heap.size (fun k_ => some k_ ≠ (s_.2 : Value).ownBlock ∧ k_ ≠ gb180) s_.1 t212) ∧ (Kd.R k44 44 w' w.heap.size (fun k_ => some k_ ≠ (s_.1 : Value).ownBlock ∧ k_ ≠ gb180) s_.2 y215) ∧ (w'.heap[gb180]? = some (.cells #[.int .i64 a1_0, .int .i64 a1_1, .int .i64 a1_2, .int .i64 a1_3, .bool a1_4] 44 (0, 0))) ∧ (Below w.heap.size w w')) ?_ ?_
           rotate_left
           · intro hCont
             refine two_ (i := 3) (j := 5) (Ni := some 49) (Nj := some 51) #[true, true, true, true, true, false, false, true, true, true, false, false, false] #[true, true, true, false, true, true, false, true, true, true, false, false, false] rfl rfl rfl rfl (two_of HT_.out (by kernel_rfl)) (by decide) (by decide) (fun K hK => ?_) (fun K hK => ?_)
             · skip
               refine goes_ Try.func81 (by kernel_rfl) rfl #[.slice A0 y208.length c0] (by rfl) rfl rfl ga ?_
               with_reducible refine (impl_copyFdb.calls _ _ y208 t212 _ ?side1 ?side2 A52.out).mono ?_
               (case side1 => exact cq (Kd.C_below HR211.out HB.out))
               (case side2 => exact HC211.out)
               rintro e w61 ⟨v213, rfl, ho0, hb⟩
               refine ⟨_, rfl, ?_⟩
               have n_ := ak3 (Kd.R_lower (Kd.R_newB ho0 (g := gb180) (o := .cells #[.int .i64 a1_0, .int .i64 a1_1, .int .i64 a1_2, .int .i64 a1_3, .bool a1_4] 44 (0, 0)) (zq BK180.out)) (below_size (bq1 HB.out GE180.out))) (blk_below (g := gb180) (o := .cells #[.int .i64 a1_0, .int .i64 a1_1, .int .i64 a1_2, .int .i64 a1_3, .bool a1_4] 44 (0, 0)) (zq BK180.out) hb) (below_step (bq1 HB.out GE180.out) hb)
               clear BK180 HB
               obtain ⟨HO214, BK180, HB⟩ := n_
               (try clear hb ho0)
               refine hK.out _ _ ⟨(blk_cell BK180.out 0).trans rfl, (blk_cell BK180.out 1).trans rfl, (blk_cell BK180.out 2).trans rfl, (blk_cell BK180.out 3).trans rfl, (blk_cell BK180.out 4).trans rfl⟩ (fun hHeld => ?_)
               clear hK K
               refine norm_ (a' := ?_) ?_ ?_
               rotate_left
               · show Act.put _ (some 49) _ = _
                 simp only [Act.put, List.setIfInBounds_toArray, List.set_cons_zero, List.set_cons_succ, i64_w, i32_w]
                 rfl
               refine one_ (i := 5) (N := some 51) #[true, true, true, true, true, true, false, true, true, true, false, false, false] rfl rfl (one_of HT_.out (by kernel_rfl)) (by decide) (fun K hK => ?_)
               refine Kd.R_lit_step k44 _ 44 ?hg (N := 51) ?hd (xs := ([(⟨a1_0, a1_1, a1_2, a1_3, a1_4⟩ : S44)] : List (S44))) (inner := [.int .i64 a1_0, .int .i64 a1_1, .int .i64 a1_2, .int .i64 a1_3, .bool a1_4]) (ok := fun _ => True) (okp := fun _ => True) ?hr ?hp (fun _ hk => hk) trivial (Below.refl _ _) (Nat.le_refl _) (by simp) ?_; (case hd => rfl); (case hg => rfl); (case hr => exact gs); (case hp => exact (Reps.c5 (show Kd.M k44 _ _ _ (⟨a1_0, a1_1, a1_2, a1_3, a1_4⟩ : S44) [.int .i64 a1_0, .int .i64 a1_1, .int .i64 a1_2, .int .i64 a1_3, .bool a1_4] from (k44_mkM _ _ _ (⟨a1_0, a1_1, a1_2, a1_3, a1_4⟩ : S44) )) (Reps.none _ _)))
               intro v216 w62 ho63 hb hg_ hnew_
               clear hg_ hnew_
               (first | rw [← Ny215.out] at ho63 | (simp only [Int.reduceToNat] at ho63; rw [← Ny215.out] at ho63))
               have n_ := ak4 (Kd.R_elder' (kqR HO214.out) (Kd.R_base ho63) hb) (Kd.R_lower (Kd.R_newB (Kd.R_new' ho63 (Kd.R_lt (kqR HO214.out))) (g := gb180) (o := .cells #[.int .i64 a1_0, .int .i64 a1_1, .int .i64 a1_2, .int .i64 a1_3, .bool a1_4] 44 (0, 0)) (zq BK180.out)) (below_size (bq1 HB.out GE180.out))) (blk_below (g := gb180) (o := .cells #[.int .i64 a1_0, .int .i64 a1_1, .int .i64 a1_2, .int .i64 a1_3, .bool a1_4] 44 (0, 0)) (zq BK180.out) hb) (below_step (bq1 HB.out GE180.out) hb)
               clear HO214 BK180 HB
               obtain ⟨HO214, HO217, BK180, HB⟩ := n_
               clear hb ho63
               refine hK.out _ _ ⟨(blk_cell BK180.out 0).trans rfl, (blk_cell BK180.out 1).trans rfl, (blk_cell BK180.out 2).trans rfl, (blk_cell BK180.out 3).trans rfl, (blk_cell BK180.out 4).trans rfl⟩ (fun hHeld => ?_)
               clear hK K
               refine norm_ (a' := ?_) ?_ ?_
               rotate_left
               · show Act.put _ (some 51) _ = _
                 simp only [Act.put, List.setIfInBounds_toArray, List.set_cons_zero, List.set_cons_succ, i64_w, i32_w]
                 rfl
               exact norm_ (by simp only [putAll, Act.put, List.setIfInBounds_toArray, List.set_cons_zero, List.set_cons_succ]) (hCont (v213, v216) _ ⟨hHeld, (by (with_reducible repeat (first | apply Kd.R_alloc | apply Kd.R_drewN | apply Kd.R_drew)); exact Kd.R_mono HO214.out (fun _ hk => ⟨hk.2, hk.1.2⟩)), (by (with_reducible repeat (first | apply Kd.R_alloc | apply Kd.R_drewN | apply Kd.R_drew)); exact Kd.R_mono HO217.out (fun _ hk => ⟨hk.1.2, hk.2⟩)), (zq BK180.out), (bq1 HB.out GE180.out)⟩)
             skip
             refine Kd.R_lit_step k44 _ 44 ?hg (N := 51) ?hd (xs := ([(⟨a1_0, a1_1, a1_2, a1_3, a1_4⟩ : S44)] : List (S44))) (inner := [.int .i64 a1_0, .int .i64 a1_1, .int .i64 a1_2, .int .i64 a1_3, .bool a1_4]) (ok := fun _ => True) (okp := fun _ => True) ?hr ?hp (fun _ hk => hk) trivial (Below.refl _ _) (Nat.le_refl _) (by simp) ?_; (case hd => rfl); (case hg => rfl); (case hr => exact gs); (case hp => exact (Reps.c5 (show Kd.M k44 _ _ _ (⟨a1_0, a1_1, a1_2, a1_3, a1_4⟩ : S44) [.int .i64 a1_0, .int .i64 a1_1, .int .i64 a1_2, .int .i64 a1_3, .bool a1_4] from (k44_mkM _ _ _ (⟨a1_0, a1_1, a1_2, a1_3, a1_4⟩ : S44) )) (Reps.none _ _)))
             intro v216 w61 ho62 hb hg_ hnew_
             clear hg_ hnew_
             (first | rw [← Ny215.out] at ho62 | (simp only [Int.reduceToNat] at ho62; rw [← Ny215.out] at ho62))
             have n_ := ak3 (Kd.R_lower (Kd.R_newB ho62 (g := gb180) (o := .cells #[.int .i64 a1_0, .int .i64 a1_1, .int .i64 a1_2, .int .i64 a1_3, .bool a1_4] 44 (0, 0)) (zq BK180.out)) (below_size (bq1 HB.out GE180.out))) (blk_below (g := gb180) (o := .cells #[.int .i64 a1_0, .int .i64 a1_1, .int .i64 a1_2, .int .i64 a1_3, .bool a1_4] 44 (0, 0)) (zq BK180.out) hb) (below_step (bq1 HB.out GE180.out) hb)
             clear BK180 HB
             obtain ⟨HO217, BK180, HB⟩ := n_
             clear hb ho62
             refine hK.out _ _ ⟨(blk_cell BK180.out 0).trans rfl, (blk_cell BK180.out 1).trans rfl, (blk_cell BK180.out 2).trans rfl, (blk_cell BK180.out 3).trans rfl, (blk_cell BK180.out 4).trans rfl⟩ (fun hHeld => ?_)
             clear hK K
             refine norm_ (a' := ?_) ?_ ?_
             rotate_left
             · show Act.put _ (some 51) _ = _
               simp only [Act.put, List.setIfInBounds_toArray, List.set_cons_zero, List.set_cons_succ, i64_w, i32_w]
               rfl
             refine one_ (i := 3) (N := some 49) #[true, true, true, true, true, true, false, true, true, true, false, false, false] rfl rfl (one_of HT_.out (by kernel_rfl)) (by decide) (fun K hK => ?_)
             refine goes_ Try.func81 (by kernel_rfl) rfl #[.slice A0 y208.length c0] (by rfl) rfl rfl ga ?_
             with_reducible refine (impl_copyFdb.calls _ _ y208 t212 _ ?side1 ?side2 A52.out).mono ?_
             (case side1 => exact cq (Kd.C_below HR211.out HB.out))
             (case side2 => exact HC211.out)
             rintro e w63 ⟨v213, rfl, ho0, hb⟩
             refine ⟨_, rfl, ?_⟩
             have n_ := ak4 (Kd.R_elder' (kqR HO217.out) (Kd.R_base ho0) hb) (Kd.R_lower (Kd.R_newB (Kd.R_new' ho0 (Kd.R_lt (kqR HO217.out))) (g := gb180) (o := .cells #[.int .i64 a1_0, .int .i64 a1_1, .int .i64 a1_2, .int .i64 a1_3, .bool a1_4] 44 (0, 0)) (zq BK180.out)) (below_size (bq1 HB.out GE180.out))) (blk_below (g := gb180) (o := .cells #[.int .i64 a1_0, .int .i64 a1_1, .int .i64 a1_2, .int .i64 a1_3, .bool a1_4] 44 (0, 0)) (zq BK180.out) hb) (below_step (bq1 HB.out GE180.out) hb)
             clear HO217 BK180 HB
             obtain ⟨HO217, HO214, BK180, HB⟩ := n_
             (try clear hb ho0)
             refine hK.out _ _ ⟨(blk_cell BK180.out 0).trans rfl, (blk_cell BK180.out 1).trans rfl, (blk_cell BK180.out 2).trans rfl, (blk_cell BK180.out 3).trans rfl, (blk_cell BK180.out 4).trans rfl⟩ (fun hHeld => ?_)
             clear hK K
             refine norm_ (a' := ?_) ?_ ?_
             rotate_left
             · show Act.put _ (some 49) _ = _
               simp only [Act.put, List.setIfInBounds_toArray, List.set_cons_zero, List.set_cons_succ, i64_w, i32_w]
               rfl
             exact norm_ (by simp only [putAll, Act.put, List.setIfInBounds_toArray, List.set_cons_zero, List.set_cons_succ]) (hCont (v213, v216) _ ⟨hHeld, (by (with_reducible repeat (first | apply Kd.R_alloc | apply Kd.R_drewN | apply Kd.R_drew)); exact Kd.R_mono HO214.out (fun _ hk => ⟨hk.1.2, hk.2⟩)), (by (with_reducible repeat (first | apply Kd.R_alloc | apply Kd.R_drewN | apply Kd.R_drew)); exact Kd.R_mono HO217.out (fun _ hk => ⟨hk.2, hk.1.2⟩)), (zq BK180.out), (bq1 HB.out GE180.out)⟩)
           rintro ⟨v213, v216⟩ w64 ⟨hS_, h0_, h1_, h2_, h3_⟩
           have n0_ : Aside0 (Kd.R k44 44 w64 w.heap.size (fun k_ => some k_ ≠ (v216 : Value).ownBlock ∧ k_ ≠ gb180) v213 t212) := ⟨h0_⟩
           have n1_ : Aside0 (Kd.R k44 44 w64 w.heap.size (fun k_ => some k_ ≠ (v213 : Value).ownBlock ∧ k_ ≠ gb180) v216 y215) := ⟨h1_⟩
           have n2_ : Aside0 (w64.heap[gb180]? = some (.cells #[.int .i64 a1_0, .int .i64 a1_1, .int .i64 a1_2, .int .i64 a1_3, .bool a1_4] 44 (0, 0))) := ⟨h2_⟩
           have n3_ : Aside0 (Below w.heap.size w w64) := ⟨h3_⟩
           clear BK180
           clear HB
           clear h0_ h1_ h2_ h3_
           have HO214 := n0_
           have HO217 := n1_
           have BK180 := n2_
           have HB := n3_
           clear n0_ n1_ n2_ n3_
           have hHeld : w64.cell? ⟨gb180, 0, none⟩ = some (.int .i64 a1_0) ∧ w64.cell? ⟨gb180, 1, none⟩ = some (.int .i64 a1_1) ∧ w64.cell? ⟨gb180, 2, none⟩ = some (.int .i64 a1_2) ∧ w64.cell? ⟨gb180, 3, none⟩ = some (.int .i64 a1_3) ∧ w64.cell? ⟨gb180, 4, none⟩ = some (.bool a1_4) := hS_
           obtain ⟨Ao66, co66, eo66⟩ := Kd.R_slice HO217.out
           (first | subst eo66 | (injection eo66 with f1_ f2_ f3_; have f4_ := f1_.symm; have f5_ := f3_.symm; clear f1_ f2_ f3_; subst f4_; subst f5_))
           refine norm_ (a' := ?_) ?_ ?_
           rotate_left
           · simp only [putAll, Act.put, List.setIfInBounds_toArray, List.set_cons_zero, List.set_cons_succ]
             rfl
           refine one_ (i := 6) (N := some 52) #[true, true, true, true, true, true, true, true, true, true, false, false, false] rfl rfl (one_of HT_.out (by kernel_rfl)) (by decide) (fun K hK => ?_)
           refine Kd.R_append_rows_step k44 (w0 := w) w.heap.size (by rfl) (.tmp 49) (.tmp 51) 30 44 (.agg #[(.int .i64 0), (.int .i64 0), (.int .i64 0), (.int .i64 0), (.bool false)]) 40 rfl Try.underlying30 info44 rfl (by decide) (by omega) v213 t212 y215 _ _ _ (fun k_ => some k_ ≠ (.slice Ao66 y215.length co66 : Value).ownBlock ∧ k_ ≠ gb180) (fun _ => False) rfl rfl ?aO ?aR (fun _ _ h => h) (fun _ h => h.elim) ?aF ?aB ?aS ?aL ?_
           (case aR => repeat (first | exact (Kd.R_reads' HO217.out).2.2 | (with_reducible refine Kd.C_alloc ?_ _) | (with_reducible refine Kd.C_drewN ?_ _) | (with_reducible refine Kd.C_drew ?_)))
           (case aB => exact (bq1 HB.out GE180.out))
           (case aF => exact (fun k_ hk => ⟨Kd.fresh' (Kd.R_lt (kqR HO217.out)) k_ hk, Kd.freshB (g := gb180) (o := .cells #[.int .i64 a1_0, .int .i64 a1_1, .int .i64 a1_2, .int .i64 a1_3, .bool a1_4] 44 (0, 0)) (zq BK180.out) k_ hk⟩))
           (case aO => exact (kqR HO214.out))
           (case aS => exact (below_size (bq1 HB.out GE180.out)))
           (case aL => have := LMc53.out; omega)
           intro v219 w65 ho hb hg hat
           rw [← Ny218.out] at ho
           have n_ := ak4 (blk_grown (g := gb180) (o := .cells #[.int .i64 a1_0, .int .i64 a1_1, .int .i64 a1_2, .int .i64 a1_3, .bool a1_4] 44 (0, 0)) (zq BK180.out) hg (Kd.R_away HO214.out (fun _ hk => hk.2))) (Kd.R_after (ok := (fun k_ => k_ ≠ gb180)) (by (with_reducible repeat (first | apply Kd.R_alloc | apply Kd.R_drewN | apply Kd.R_drew)); exact Kd.R_mono HO217.out (fun _ hk => ⟨hk.2, hk.1⟩)) hg hat) hb ho
           clear BK180 HO217 HB HO214
           obtain ⟨BK180, HO217, HB, HO220⟩ := n_
           clear ho hb hg hat
           refine hK.out _ _ ⟨(blk_cell BK180.out 0).trans rfl, (blk_cell BK180.out 1).trans rfl, (blk_cell BK180.out 2).trans rfl, (blk_cell BK180.out 3).trans rfl, (blk_cell BK180.out 4).trans rfl⟩ (fun hHeld => ?_)
           clear hK K
           refine norm_ (a' := ?_) ?_ ?_
           rotate_left
           · show Act.put _ (some 52) _ = _
             simp only [Act.put, List.setIfInBounds_toArray, List.set_cons_zero, List.set_cons_succ, i64_w, i32_w]
             rfl
           refine one_ (i := 10) (N := some 56) #[true, true, true, true, true, true, true, true, true, true, true, false, false] rfl rfl (one_of HT_.out (by kernel_rfl)) (by decide) (fun K hK => ?_)
           refine Kd.R_append_rows_step k44 (w0 := w) w.heap.size (by rfl) (.tmp 52) (.tmp 55) 30 44 (.agg #[(.int .i64 0), (.int .i64 0), (.int .i64 0), (.int .i64 0), (.bool false)]) 40 rfl Try.underlying30 info44 rfl (by decide) (by omega) v219 y218 y221 _ _ _ (fun k_ => some k_ ≠ (.slice Ao66 y215.length co66 : Value).ownBlock ∧ k_ ≠ gb180) (fun _ => False) rfl rfl ?aO ?aR (fun _ _ h => h) (fun _ h => h.elim) ?aF ?aB ?aS ?aL ?_
           (case aR => exact cq (Kd.C_below HR224.out HB.out))
           (case aB => exact (bq1 HB.out GE180.out))
           (case aF => exact (fun k_ hk => ⟨Kd.fresh' (Kd.R_lt (kqR HO217.out)) k_ hk, Kd.freshB (g := gb180) (o := .cells #[.int .i64 a1_0, .int .i64 a1_1, .int .i64 a1_2, .int .i64 a1_3, .bool a1_4] 44 (0, 0)) (zq BK180.out) k_ hk⟩))
           (case aO => exact (kqR HO220.out))
           (case aS => exact (below_size (bq1 HB.out GE180.out)))
           (case aL => have := LMc56.out; omega)
           intro v226 w67 ho hb hg hat
           rw [← Ny225.out] at ho
           have n_ := ak4 (blk_grown (g := gb180) (o := .cells #[.int .i64 a1_0, .int .i64 a1_1, .int .i64 a1_2, .int .i64 a1_3, .bool a1_4] 44 (0, 0)) (zq BK180.out) hg (Kd.R_away HO220.out (fun _ hk => hk.2))) (Kd.R_after (ok := (fun k_ => k_ ≠ gb180)) (kqR HO217.out) hg hat) hb ho
           clear BK180 HO217 HB HO220
           obtain ⟨BK180, HO217, HB, HO227⟩ := n_
           clear ho hb hg hat
           refine hK.out _ _ ⟨(blk_cell BK180.out 0).trans rfl, (blk_cell BK180.out 1).trans rfl, (blk_cell BK180.out 2).trans rfl, (blk_cell BK180.out 3).trans rfl, (blk_cell BK180.out 4).trans rfl⟩ (fun hHeld => ?_)
           clear hK K
           refine norm_ (a' := ?_) ?_ ?_
           rotate_left
           · show Act.put _ (some 56) _ = _
             simp only [Act.put, List.setIfInBounds_toArray, List.set_cons_zero, List.set_cons_succ, i64_w, i32_w]
             rfl
           refine pure_ (i := 11) (N := some 4) (v := ?_) (a' := ?_) #[true, true, true, true, true, true, true, true, true, true, true, true, false] rfl rfl (any_of HT_.out (by kernel_rfl)) (fun _ _ _ h => h) (Or.inl ⟨by rfl, ?_⟩) ?_ ?_
           rotate_left
           · intro w'
             go_simp
             with_reducible rfl
           rotate_left
           · simp only [Act.put, List.setIfInBounds_toArray, List.set_cons_zero, List.set_cons_succ, i64_w, i32_w]
             rfl
           refine pure_ (i := 12) (N := some 5) (v := ?_) (a' := ?_) #[true, true, true, true, true, true, true, true, true, true, true, true, true] rfl rfl (any_of HT_.out (by kernel_rfl)) (fun _ _ _ h => h) (Or.inl ⟨by rfl, ?_⟩) ?_ ?_
           rotate_left
           · intro w'
             go_simp
             with_reducible rfl
           rotate_left
           · simp only [Act.put, List.setIfInBounds_toArray, List.set_cons_zero, List.set_cons_succ, i64_w, i32_w]
             rfl
           refine done_ (done_of HT_.out (by kernel_rfl)) ?_
           try go_wp2
           go_ret2
           exact ⟨_, rq, by (with_reducible repeat (first | apply Kd.R_alloc | apply Kd.R_drewN | apply Kd.R_drew)); exact Kd.R_mono HO227.out (fun _ hk => trivial), bq1 HB.out GE180.out⟩
         rw [if_neg c56] at H
         exact absurd H (by simp)
       rw [if_neg c53] at H
       exact absurd H (by simp)
     rw [if_neg c51] at H
     exact absurd H (by simp)
   rw [if_neg c50] at H
   exact absurd H (by simp)

end Go.Proofs.Ytebffdmkfkfoaaa.XFnFdbsBent
