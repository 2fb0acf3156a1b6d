/- The functions that one law reaches, as Lean functions, with their walks: printed by a program of this seat (wip/tools) out of the translation. -/
import Derived.Test.YthhnfmbfgplelaaXFnFramesx0
import Derived.Test.YthhnfmbfgplelaaXFnFramesx3
namespace Go.Proofs.Ythhnfmbfgplelaa.XFnFrames
open Go.RowKit Go.Proofs.YthhnfmbfgplelaaW.PrintWords Go.Proofs.YthhnfmbfgplelaaW.PrintLast Go.Proofs.YthhnfmbfgplelaaW.PrintMore
attribute [local go_sem] max2_int min2_int max_two min_two max_three min_three max_four min_four   -- for this text's walks alone
set_option linter.unusedVariables false
set_option linter.unusedSimpArgs false

/-! ### spec_PutTlv: function 66 -/
def spec_PutTlv.j0 : Nat → Int → List Int → List Int → Bool → Option (List Int)
 | 0, _, _, _, _ => none
 | k + 1, x1, x2, x7, x18 => if x18 = true then (some x7) else (if x7.length < 140737488355328 then ((some (x7 ++ [(x1) % 256] : List Int)).bind fun y330 => (if (x2.length : Int) > 127 then (if y330.length < 140737488355328 then ((some (y330 ++ [129] : List Int)).bind fun y333 => (if y333.length < 140737488355328 then ((some (y333 ++ [((x2.length : Int)) % 256] : List Int)).bind fun y336 => (if y336.length + x2.length < 140737488355328 then (some (y336 ++ x2)) else (none))) else (none))) else (none)) else (if y330.length < 140737488355328 then ((some (y330 ++ [((x2.length : Int)) % 256] : List Int)).bind fun y342 => (if y342.length + x2.length < 140737488355328 then (some (y342 ++ x2)) else (none))) else (none)))) else (none))
def spec_PutTlv.f (k : Nat) (l0 : List Int) (a1 : Int) (l2 : List Int) : Option (List Int) := (some (([] : List Int) : List Int)).bind fun y323 => (if y323.length + l0.length < 140737488355328 then ((some (y323 ++ l0 : List Int)).bind fun y326 => ((spec_l1In.f a1 0 255).bind fun t329 => (if t329 = true then (spec_PutTlv.j0 k a1 l2 y326 (decide ((l2.length : Int) > 250))) else (spec_PutTlv.j0 k a1 l2 y326 true)))) else (none))
theorem spec_PutTlv.mono_l : ∀ k, (∀ y0 y1 y2 y3, LeO (spec_PutTlv.j0 k y0 y1 y2 y3) (spec_PutTlv.j0 (k + 1) y0 y1 y2 y3))
 | 0 => fun _ _ _ _ r h => by simp [spec_PutTlv.j0] at h
 | k + 1 => by
  have ih0 := spec_PutTlv.mono_l k
  intro y0 y1 y2 y3
  unfold spec_PutTlv.j0
  repeat' first
  | (with_reducible exact ih0 _ _ _ _)
  | (with_reducible exact LeO.refl _)
  | (with_reducible exact LeO.none _)
  | (with_reducible refine LeO.ite ?_ ?_)
  | (with_reducible refine LeO.bind ?_ (fun _ => ?_))
  | exact ih0 _ _ _ _
  | exact LeO.none _
  | refine LeO.ite ?_ ?_
  | refine LeO.bind ?_ (fun _ => ?_)
theorem spec_PutTlv.mono : ∀ a0 a1 a2 k, LeO (spec_PutTlv.f k a0 a1 a2) (spec_PutTlv.f (k + 1) a0 a1 a2) := by
 intro a0 a1 a2 k
 have ih0 := spec_PutTlv.mono_l k
 unfold spec_PutTlv.f
 repeat' first
  | (with_reducible exact ih0 _ _ _ _)
  | (with_reducible exact LeO.refl _)
  | (with_reducible exact LeO.none _)
  | (with_reducible refine LeO.ite ?_ ?_)
  | (with_reducible refine LeO.bind ?_ (fun _ => ?_))
  | exact ih0 _ _ _ _
  | exact LeO.none _
  | refine LeO.ite ?_ ?_
  | refine LeO.bind ?_ (fun _ => ?_)
set_option maxHeartbeats 8000000 in
set_option maxRecDepth 100000 in
theorem spec_PutTlv.calls (k : Nat) (A0 : Option Addr) (c0 : Nat) (l0 : List Int) (a1 : Int) (A2 : Option Addr) (c2 : Nat) (l2 : List Int) (r : List Int) (w : World) (hr0 : Kd.C (Kd.int .u8) w A0 l0.length l0) (hc0 : l0.length ≤ c0) (hr2 : Kd.C (Kd.int .u8) w A2 l2.length l2) (hc2 : l2.length ≤ c2) (h : spec_PutTlv.f k l0 a1 l2 = some r) :
 Calls Try.prog 66 #[.slice A0 l0.length c0, .int .i64 a1, .slice A2 l2.length c2] w fun e w' => ∃ v0_ : Value, e = .returned (v0_) ∧ Kd.R (Kd.int .u8) 5 w' w.heap.size (fun _ => True) v0_ r ∧ Below w.heap.size w w' := by
 have HR0 := am hr0
 have HC0 := am hc0
 clear hr0 hc0
 have HR2 := am hr2
 have HC2 := am hc2
 clear hr2 hc2
 have HB := am (Below.refl w.heap.size w)
 have H : ((some (([] : List Int) : List Int)).bind fun y323 => (if y323.length + l0.length < 140737488355328 then ((some (y323 ++ l0 : List Int)).bind fun y326 => ((spec_l1In.f a1 0 255).bind fun t329 => (if t329 = true then (spec_PutTlv.j0 k a1 l2 y326 (decide ((l2.length : Int) > 250))) else (spec_PutTlv.j0 k a1 l2 y326 true)))) else (none))) = some r := h
 clear h
 obtain ⟨y323, hy323⟩ : ∃ y_ : List Int, y_ = (([] : List Int)) := ⟨_, rfl⟩
 replace H : (if y323.length + l0.length < 140737488355328 then ((some (y323 ++ l0 : List Int)).bind fun y326 => ((spec_l1In.f a1 0 255).bind fun t329 => (if t329 = true then (spec_PutTlv.j0 k a1 l2 y326 (decide ((l2.length : Int) > 250))) else (spec_PutTlv.j0 k a1 l2 y326 true)))) else (none)) = some r := by first | (rw [hy323]; with_reducible exact H) | (have H2_ := (Option.bind_some _ _).symm.trans H; rw [hy323]; with_reducible exact H2_) | (have H2_ := (Option.bind_some _ _).symm.trans H; with_reducible exact H2_) | with_reducible exact H | (rw [hy323]; exact H) | exact H
 have Ny323 := am hy323
 clear hy323
 by_cases c4 : y323.length + l0.length < 140737488355328
 · rw [if_pos c4] at H
   have LMc4 := am c4
   clear c4
   obtain ⟨y326, hy326⟩ : ∃ y_ : List Int, y_ = (y323 ++ l0) := ⟨_, rfl⟩
   replace H : ((spec_l1In.f a1 0 255).bind fun t329 => (if t329 = true then (spec_PutTlv.j0 k a1 l2 y326 (decide ((l2.length : Int) > 250))) else (spec_PutTlv.j0 k a1 l2 y326 true))) = some r := by first | (rw [hy326]; with_reducible exact H) | (have H2_ := (Option.bind_some _ _).symm.trans H; rw [hy326]; with_reducible exact H2_) | (have H2_ := (Option.bind_some _ _).symm.trans H; with_reducible exact H2_) | with_reducible exact H | (rw [hy326]; exact H) | exact H
   have Ny326 := am hy326
   clear hy326
   have HC5 := am H
   clear H
   go_enter Try.func66, Try.ntmps66
   go_upto_region 2 with (first | ((with_reducible refine gate_dst (N := 8) rfl ?_); (try (refine gate_guard (by rfl) ?_; dsimp only)); refine Kd.R_lit (Kd.int .u8) _ 5 ?hg (N := 8) ?hd (xs := ([] : List Int)) (inner := []) (ok := fun _ => True) (okp := fun _ => True) ?hr ?hp (fun _ hk => hk) trivial (Below.refl _ _) (Nat.le_refl _) (by simp) ?_; (case hd => rfl); (case hg => rfl); (case hr => exact gs); (case hp => exact (Reps.none _ _)); intro v324 w6 ho7 hb hg_ hnew_; clear hg_ hnew_; (first | rw [← Ny323.out] at ho7 | (simp only [Int.reduceToNat] at ho7; rw [← Ny323.out] at ho7)); have n_ := ak2 (Kd.R_lower ho7 (below_size (bq HB.out))) (below_step (bq HB.out) hb); clear HB; obtain ⟨HO325, HB⟩ := n_; clear hb ho7) | ((with_reducible refine gate_builtin (b := .append) (xs := #[.tmp 8, .tmp 9]) rfl ?_); (try (refine gate_guard (by rfl) ?_; dsimp only)); at_builtin; refine Kd.R_append_rows (Kd.int .u8) (w0 := w) w.heap.size rfl (.tmp 8) (.tmp 9) 22 5 (.int .u8 0) 1 rfl Try.underlying22 info5 rfl (by decide) (by omega) v324 y323 l0 _ _ _ (fun _ => True) (fun _ => False) rfl rfl ?aO ?aR (fun _ _ h => h) (fun _ h => h.elim) ?aF ?aB ?aS ?aL ?_; (case aR => exact cq (Kd.C_below HR0.out HB.out)); (case aB => exact (bq HB.out)); (case aF => exact (fun _ _ => trivial)); (case aO => exact (kqR HO325.out)); (case aS => exact (below_size (bq HB.out))); (case aL => have := LMc4.out; omega); intro v327 w8 ho hb hg hat; rw [← Ny326.out] at ho; have n_ := ak2 hb ho; clear HB HO325; obtain ⟨HB, HO328⟩ := n_; clear ho hb hg hat))
   (try simp only [Act.put, List.setIfInBounds_toArray, List.set_cons_zero, List.set_cons_succ])
   go_cut [18] (fun v18 wc => ∃ (kq : Nat) (x18_4 : Bool), v18 = .bool x18_4 ∧ Aside0 (spec_PutTlv.j0 kq a1 l2 y326 x18_4 = some r) ∧ Aside0 (kq ≤ k) ∧ Aside0 (Kd.R (Kd.int .u8) 5 wc w.heap.size (fun _ => True) v327 y326) ∧ Aside0 (Below w.heap.size w wc))
   case first =>
    have H := HC5.out
    clear HC5
    replace H := Option.bind_eq_some_iff.mp H
    obtain ⟨t329, A90, H⟩ := H
    replace H : (if t329 = true then (spec_PutTlv.j0 k a1 l2 y326 (decide ((l2.length : Int) > 250))) else (spec_PutTlv.j0 k a1 l2 y326 true)) = some r := H
    have A9 := am A90
    clear A90
    by_cases c10 : t329 = true
    · subst c10
      have H1 : (spec_PutTlv.j0 k a1 l2 y326 (decide ((l2.length : Int) > 250))) = some r := by rw [if_pos rfl] at H; exact H
      clear H
      have H := H1
      clear H1
      have H' := am H
      clear H
      go_wp2_with (first | ((with_reducible refine gate_callee (f := 88) rfl ?_); refine goesL_ (some 12) rfl rfl Try.func88 (by kernel_rfl) rfl #[.int .i64 a1, .int .i64 0, .int .i64 255] rfl ga ?_; (with_reducible refine (spec_l1In.calls a1 0 255 true _ A9.out).mono ?_); rintro e w' ⟨rfl, ⟨nd, rfl⟩⟩; refine ⟨_, rfl, ?_⟩))
      go_meet
      case rel => exact ⟨_, (decide ((l2.length : Int) > 250)), sq, H', ⟨by first | omega | exact Nat.le_refl _⟩, ⟨kqR HO328.out⟩, ⟨bq HB.out⟩⟩
    replace c10 := Bool.eq_false_iff.mpr c10
    subst c10
    have H1 : (spec_PutTlv.j0 k a1 l2 y326 true) = some r := by rw [if_neg (show ¬ (false = true) by decide)] at H; exact H
    clear H
    have H := H1
    clear H1
    have H' := am H
    clear H
    go_wp2_with (first | ((with_reducible refine gate_callee (f := 88) rfl ?_); refine goesL_ (some 12) rfl rfl Try.func88 (by kernel_rfl) rfl #[.int .i64 a1, .int .i64 0, .int .i64 255] rfl ga ?_; (with_reducible refine (spec_l1In.calls a1 0 255 false _ A9.out).mono ?_); rintro e w' ⟨rfl, ⟨nd, rfl⟩⟩; refine ⟨_, rfl, ?_⟩))
    go_meet
    case rel => exact ⟨_, (true), sq, H', ⟨by first | omega | exact Nat.le_refl _⟩, ⟨kqR HO328.out⟩, ⟨bq HB.out⟩⟩
   case rest =>
    clear HC5
    try clear c1
    try clear c2
    try clear p2
    try clear c4
    try clear c6
    try clear c8
    try clear c10
    obtain ⟨kq, x18_4, rfl, HA, HJ4, HO_7, HB⟩ := hcut
    cases kq with
    | zero => exact absurd HA.out (by simp [spec_PutTlv.j0])
    | succ kj4 =>
     have H := HA.out
     clear HA
     simp only [spec_PutTlv.j0] at H
     by_cases c11 : x18_4 = true
     · subst c11
       have H1 : (some y326) = some r := by rw [if_pos rfl] at H; exact H
       clear H
       have H := H1
       clear H1
       obtain rfl := Option.some.inj H
       go_wp2
       go_ret
       exact ⟨_, rq, kqR HO_7.out, bq HB.out⟩
     replace c11 := Bool.eq_false_iff.mpr c11
     subst c11
     have H1 : (if y326.length < 140737488355328 then ((some (y326 ++ [(a1) % 256] : List Int)).bind fun y330 => (if (l2.length : Int) > 127 then (if y330.length < 140737488355328 then ((some (y330 ++ [129] : List Int)).bind fun y333 => (if y333.length < 140737488355328 then ((some (y333 ++ [((l2.length : Int)) % 256] : List Int)).bind fun y336 => (if y336.length + l2.length < 140737488355328 then (some (y336 ++ l2)) else (none))) else (none))) else (none)) else (if y330.length < 140737488355328 then ((some (y330 ++ [((l2.length : Int)) % 256] : List Int)).bind fun y342 => (if y342.length + l2.length < 140737488355328 then (some (y342 ++ l2)) else (none))) else (none)))) else (none)) = some r := by rw [if_neg (show ¬ (false = true) by decide)] at H; exact H
     clear H
     have H := H1
     clear H1
     by_cases c12 : y326.length < 140737488355328
     · rw [if_pos c12] at H
       have LMc12 := am c12
       clear c12
       obtain ⟨y330, hy330⟩ : ∃ y_ : List Int, y_ = (y326 ++ [(a1) % 256]) := ⟨_, rfl⟩
       replace H : (if (l2.length : Int) > 127 then (if y330.length < 140737488355328 then ((some (y330 ++ [129] : List Int)).bind fun y333 => (if y333.length < 140737488355328 then ((some (y333 ++ [((l2.length : Int)) % 256] : List Int)).bind fun y336 => (if y336.length + l2.length < 140737488355328 then (some (y336 ++ l2)) else (none))) else (none))) else (none)) else (if y330.length < 140737488355328 then ((some (y330 ++ [((l2.length : Int)) % 256] : List Int)).bind fun y342 => (if y342.length + l2.length < 140737488355328 then (some (y342 ++ l2)) else (none))) else (none))) = some r := by first | (rw [hy330]; with_reducible exact H) | (have H2_ := (Option.bind_some _ _).symm.trans H; rw [hy330]; with_reducible exact H2_) | (have H2_ := (Option.bind_some _ _).symm.trans H; with_reducible exact H2_) | with_reducible exact H | (rw [hy330]; exact H) | exact H
       have Ny330 := am hy330
       clear hy330
       by_cases c13 : (l2.length : Int) > 127
       · rw [if_pos c13] at H
         have c13b0 : decide (127 < (l2.length : Int)) = true := decide_eq_true c13
         have c13b1 : decide (127 < l2.length) = true := decide_eq_true (by omega)
         clear c13
         by_cases c14 : y330.length < 140737488355328
         · rw [if_pos c14] at H
           have LMc14 := am c14
           clear c14
           obtain ⟨y333, hy333⟩ : ∃ y_ : List Int, y_ = (y330 ++ [129]) := ⟨_, rfl⟩
           replace H : (if y333.length < 140737488355328 then ((some (y333 ++ [((l2.length : Int)) % 256] : List Int)).bind fun y336 => (if y336.length + l2.length < 140737488355328 then (some (y336 ++ l2)) else (none))) else (none)) = some r := by first | (rw [hy333]; with_reducible exact H) | (have H2_ := (Option.bind_some _ _).symm.trans H; rw [hy333]; with_reducible exact H2_) | (have H2_ := (Option.bind_some _ _).symm.trans H; with_reducible exact H2_) | with_reducible exact H | (rw [hy333]; exact H) | exact H
           have Ny333 := am hy333
           clear hy333
           by_cases c15 : y333.length < 140737488355328
           · rw [if_pos c15] at H
             have LMc15 := am c15
             clear c15
             obtain ⟨y336, hy336⟩ : ∃ y_ : List Int, y_ = (y333 ++ [((l2.length : Int)) % 256]) := ⟨_, rfl⟩
             replace H : (if y336.length + l2.length < 140737488355328 then (some (y336 ++ l2)) else (none)) = some r := by first | (rw [hy336]; with_reducible exact H) | (have H2_ := (Option.bind_some _ _).symm.trans H; rw [hy336]; with_reducible exact H2_) | (have H2_ := (Option.bind_some _ _).symm.trans H; with_reducible exact H2_) | with_reducible exact H | (rw [hy336]; exact H) | exact H
             have Ny336 := am hy336
             clear hy336
             by_cases c16 : y336.length + l2.length < 140737488355328
             · rw [if_pos c16] at H
               have LMc16 := am c16
               clear c16
               obtain ⟨y339, hy339⟩ : ∃ y_ : List Int, y_ = (y336 ++ l2) := ⟨_, rfl⟩
               replace H : (some y339) = some r := by first | (rw [hy339]; with_reducible exact H) | (have H2_ := (Option.bind_some _ _).symm.trans H; rw [hy339]; with_reducible exact H2_) | (have H2_ := (Option.bind_some _ _).symm.trans H; with_reducible exact H2_) | with_reducible exact H | (rw [hy339]; exact H) | exact H
               have Ny339 := am hy339
               clear hy339
               obtain rfl := Option.some.inj H
               go_wp2_with (first | ((with_reducible refine gate_builtin (b := .append) (xs := #[.tmp 20, .tmp 23]) rfl ?_); (try (refine gate_guard (by rfl) ?_; dsimp only)); at_builtin; refine Kd.R_append (Kd.int .u8) (w0 := w) w.heap.size rfl (.tmp 20) (.tmp 23) 22 5 (.int .u8 0) 1 rfl Try.underlying22 info5 rfl (by decide) (by omega) v327 y326 ((a1) % 256) [.int .u8 ((a1) % 256)] (fun _ => True) (fun _ => False) rfl rfl ?aP (fun _ hk => hk.elim) ?aF ?aO ?aB ?aS ?aL ?_; (case aP => exact rfl); (case aB => exact (bq HB.out)); (case aF => exact (fun _ _ => trivial)); (case aO => exact (kqR HO_7.out)); (case aS => exact (below_size (bq HB.out))); (case aL => have := LMc12.out; omega); intro v331 w17 ho hb hg hat; rw [← Ny330.out] at ho; have n_ := ak2 hb ho; clear HB HO_7; obtain ⟨HB, HO332⟩ := n_; clear ho hb hg hat) | ((with_reducible refine gate_builtin (b := .append) (xs := #[.tmp 28, .tmp 29]) rfl ?_); (try (refine gate_guard (by rfl) ?_; dsimp only)); at_builtin; refine Kd.R_append (Kd.int .u8) (w0 := w) w.heap.size rfl (.tmp 28) (.tmp 29) 22 5 (.int .u8 0) 1 rfl Try.underlying22 info5 rfl (by decide) (by omega) v331 y330 129 [.int .u8 129] (fun _ => True) (fun _ => False) rfl rfl ?aP (fun _ hk => hk.elim) ?aF ?aO ?aB ?aS ?aL ?_; (case aP => exact rfl); (case aB => exact (bq HB.out)); (case aF => exact (fun _ _ => trivial)); (case aO => exact (kqR HO332.out)); (case aS => exact (below_size (bq HB.out))); (case aL => have := LMc14.out; omega); intro v334 w18 ho hb hg hat; rw [← Ny333.out] at ho; have n_ := ak2 hb ho; clear HB HO332; obtain ⟨HB, HO335⟩ := n_; clear ho hb hg hat) | ((with_reducible refine gate_builtin (b := .append) (xs := #[.tmp 31, .tmp 35]) rfl ?_); (try (refine gate_guard (by rfl) ?_; dsimp only)); at_builtin; refine Kd.R_append (Kd.int .u8) (w0 := w) w.heap.size rfl (.tmp 31) (.tmp 35) 22 5 (.int .u8 0) 1 rfl Try.underlying22 info5 rfl (by decide) (by omega) v334 y333 (((l2.length : Int)) % 256) [.int .u8 (((l2.length : Int)) % 256)] (fun _ => True) (fun _ => False) rfl rfl ?aP (fun _ hk => hk.elim) ?aF ?aO ?aB ?aS ?aL ?_; (case aP => exact rfl); (case aB => exact (bq HB.out)); (case aF => exact (fun _ _ => trivial)); (case aO => exact (kqR HO335.out)); (case aS => exact (below_size (bq HB.out))); (case aL => have := LMc15.out; omega); intro v337 w19 ho hb hg hat; rw [← Ny336.out] at ho; have n_ := ak2 hb ho; clear HB HO335; obtain ⟨HB, HO338⟩ := n_; clear ho hb hg hat) | ((with_reducible refine gate_builtin (b := .append) (xs := #[.tmp 36, .tmp 37]) rfl ?_); (try (refine gate_guard (by rfl) ?_; dsimp only)); at_builtin; refine Kd.R_append_rows (Kd.int .u8) (w0 := w) w.heap.size rfl (.tmp 36) (.tmp 37) 22 5 (.int .u8 0) 1 rfl Try.underlying22 info5 rfl (by decide) (by omega) v337 y336 l2 _ _ _ (fun _ => True) (fun _ => False) rfl rfl ?aO ?aR (fun _ _ h => h) (fun _ h => h.elim) ?aF ?aB ?aS ?aL ?_; (case aR => exact cq (Kd.C_below HR2.out HB.out)); (case aB => exact (bq HB.out)); (case aF => exact (fun _ _ => trivial)); (case aO => exact (kqR HO338.out)); (case aS => exact (below_size (bq HB.out))); (case aL => have := LMc16.out; omega); intro v340 w20 ho hb hg hat; rw [← Ny339.out] at ho; have n_ := ak2 hb ho; clear HB HO338; obtain ⟨HB, HO341⟩ := n_; clear ho hb hg hat))
               go_ret
               exact ⟨_, rq, kqR HO341.out, bq HB.out⟩
             rw [if_neg c16] at H
             exact absurd H (by simp)
           rw [if_neg c15] at H
           exact absurd H (by simp)
         rw [if_neg c14] at H
         exact absurd H (by simp)
       rw [if_neg c13] at H
       have c13b0 : decide (127 < (l2.length : Int)) = false := decide_eq_false c13
       have c13b1 : decide (127 < l2.length) = false := decide_eq_false (by omega)
       clear c13
       by_cases c21 : y330.length < 140737488355328
       · rw [if_pos c21] at H
         have LMc21 := am c21
         clear c21
         obtain ⟨y342, hy342⟩ : ∃ y_ : List Int, y_ = (y330 ++ [((l2.length : Int)) % 256]) := ⟨_, rfl⟩
         replace H : (if y342.length + l2.length < 140737488355328 then (some (y342 ++ l2)) else (none)) = some r := by first | (rw [hy342]; with_reducible exact H) | (have H2_ := (Option.bind_some _ _).symm.trans H; rw [hy342]; with_reducible exact H2_) | (have H2_ := (Option.bind_some _ _).symm.trans H; with_reducible exact H2_) | with_reducible exact H | (rw [hy342]; exact H) | exact H
         have Ny342 := am hy342
         clear hy342
         by_cases c22 : y342.length + l2.length < 140737488355328
         · rw [if_pos c22] at H
           have LMc22 := am c22
           clear c22
           obtain ⟨y345, hy345⟩ : ∃ y_ : List Int, y_ = (y342 ++ l2) := ⟨_, rfl⟩
           replace H : (some y345) = some r := by first | (rw [hy345]; with_reducible exact H) | (have H2_ := (Option.bind_some _ _).symm.trans H; rw [hy345]; with_reducible exact H2_) | (have H2_ := (Option.bind_some _ _).symm.trans H; with_reducible exact H2_) | with_reducible exact H | (rw [hy345]; exact H) | exact H
           have Ny345 := am hy345
           clear hy345
           obtain rfl := Option.some.inj H
           go_wp2_with (first | ((with_reducible refine gate_builtin (b := .append) (xs := #[.tmp 20, .tmp 23]) rfl ?_); (try (refine gate_guard (by rfl) ?_; dsimp only)); at_builtin; refine Kd.R_append (Kd.int .u8) (w0 := w) w.heap.size rfl (.tmp 20) (.tmp 23) 22 5 (.int .u8 0) 1 rfl Try.underlying22 info5 rfl (by decide) (by omega) v327 y326 ((a1) % 256) [.int .u8 ((a1) % 256)] (fun _ => True) (fun _ => False) rfl rfl ?aP (fun _ hk => hk.elim) ?aF ?aO ?aB ?aS ?aL ?_; (case aP => exact rfl); (case aB => exact (bq HB.out)); (case aF => exact (fun _ _ => trivial)); (case aO => exact (kqR HO_7.out)); (case aS => exact (below_size (bq HB.out))); (case aL => have := LMc12.out; omega); intro v331 w23 ho hb hg hat; rw [← Ny330.out] at ho; have n_ := ak2 hb ho; clear HB HO_7; obtain ⟨HB, HO332⟩ := n_; clear ho hb hg hat) | ((with_reducible refine gate_builtin (b := .append) (xs := #[.tmp 31, .tmp 35]) rfl ?_); (try (refine gate_guard (by rfl) ?_; dsimp only)); at_builtin; refine Kd.R_append (Kd.int .u8) (w0 := w) w.heap.size rfl (.tmp 31) (.tmp 35) 22 5 (.int .u8 0) 1 rfl Try.underlying22 info5 rfl (by decide) (by omega) v331 y330 (((l2.length : Int)) % 256) [.int .u8 (((l2.length : Int)) % 256)] (fun _ => True) (fun _ => False) rfl rfl ?aP (fun _ hk => hk.elim) ?aF ?aO ?aB ?aS ?aL ?_; (case aP => exact rfl); (case aB => exact (bq HB.out)); (case aF => exact (fun _ _ => trivial)); (case aO => exact (kqR HO332.out)); (case aS => exact (below_size (bq HB.out))); (case aL => have := LMc21.out; omega); intro v343 w24 ho hb hg hat; rw [← Ny342.out] at ho; have n_ := ak2 hb ho; clear HB HO332; obtain ⟨HB, HO344⟩ := n_; clear ho hb hg hat) | ((with_reducible refine gate_builtin (b := .append) (xs := #[.tmp 36, .tmp 37]) rfl ?_); (try (refine gate_guard (by rfl) ?_; dsimp only)); at_builtin; refine Kd.R_append_rows (Kd.int .u8) (w0 := w) w.heap.size rfl (.tmp 36) (.tmp 37) 22 5 (.int .u8 0) 1 rfl Try.underlying22 info5 rfl (by decide) (by omega) v343 y342 l2 _ _ _ (fun _ => True) (fun _ => False) rfl rfl ?aO ?aR (fun _ _ h => h) (fun _ h => h.elim) ?aF ?aB ?aS ?aL ?_; (case aR => exact cq (Kd.C_below HR2.out HB.out)); (case aB => exact (bq HB.out)); (case aF => exact (fun _ _ => trivial)); (case aO => exact (kqR HO344.out)); (case aS => exact (below_size (bq HB.out))); (case aL => have := LMc22.out; omega); intro v346 w25 ho hb hg hat; rw [← Ny345.out] at ho; have n_ := ak2 hb ho; clear HB HO344; obtain ⟨HB, HO347⟩ := n_; clear ho hb hg hat))
           go_ret
           exact ⟨_, rq, kqR HO347.out, bq HB.out⟩
         rw [if_neg c22] at H
         exact absurd H (by simp)
       rw [if_neg c21] at H
       exact absurd H (by simp)
     rw [if_neg c12] at H
     exact absurd H (by simp)
 rw [if_neg c4] at H
 exact absurd H (by simp)

end Go.Proofs.Ythhnfmbfgplelaa.XFnFrames
