/- The functions that one law reaches, as Lean functions, with their walks: printed by a program of this seat (wip/tools) out of the translation. -/
import Derived.Test.YthhnfmbfgplelaaXFnMsgsx0
import Derived.Test.YthhnfmbfgplelaaXFnMsgsx16
namespace Go.Proofs.Ythhnfmbfgplelaa.XFnMsgs
open Go.RowKit Go.Proofs.YthhnfmbfgplelaaW.PrintWords Go.Proofs.YthhnfmbfgplelaaW.PrintLast Go.Proofs.YthhnfmbfgplelaaW.PrintMore
attribute [local go_sem] max2_int min2_int max_two min_two max_three min_three max_four min_four   -- for this text's walks alone
set_option linter.unusedVariables false
set_option linter.unusedSimpArgs false

/-- A state of type 94 at block g of W; what its slices lead to came in by w0. -/
def IsS94 (Z : Option Addr → Nat → Prop) (w0 W : World) (g : Nat) (f0 : List Int) (f1 : Int) (f2 : Bool) : Prop := ∃ A0 c0, W.heap[g]? = some (.cells #[.slice A0 f0.length c0, .int .i64 f1, .bool f2] 94 (0, 0)) ∧ w0.heap.size ≤ g ∧ ((Kd.C (Kd.int .u8) w0 A0 f0.length f0 ∧ f0.length ≤ c0) ∧ Z A0 c0)
theorem IsS94.grown {Z : Option Addr → Nat → Prop} {w0 W : World} {g : Nat} {f0 : List Int} {f1 : Int} {f2 : Bool} {W1 : World} {row : Option Nat} (h : IsS94 Z w0 W g f0 f1 f2) (hw : W.grownBy W1 row) (hne : some g ≠ row) : IsS94 Z w0 W1 g f0 f1 f2 := by
 obtain ⟨A0, c0, hb, hg, hr0⟩ := h
 exact ⟨A0, c0, blk_grown hb hw hne, hg, hr0⟩
theorem IsS94.own_neN {Z : Option Addr → Nat → Prop} {w0 W : World} {g : Nat} {f0 : List Int} {f1 : Int} {f2 : Bool} {α : Type} {d : Kd α} {e : Nat} {base : Nat} {ok : Nat → Prop} {v : Value} {xs : List α} (h : IsS94 Z w0 W g f0 f1 f2) (ho : Kd.N d e W base ok v xs) (ht : e ≠ 94) : some g ≠ v.ownBlock := by
 obtain ⟨A0, c0, hb, hg, hr0⟩ := h
 exact Kd.N_ne ho hb ht
theorem IsS94.fresh {Z : Option Addr → Nat → Prop} {w0 W : World} {g : Nat} {f0 : List Int} {f1 : Int} {f2 : Bool} (h : IsS94 Z w0 W g f0 f1 f2) : ∀ k, W.heap.size ≤ k → k ≠ g := by
 obtain ⟨A0, c0, hb, hg, hr0⟩ := h
 exact Kd.freshB hb
theorem IsS94.kept {Z : Option Addr → Nat → Prop} {w0 W : World} {g : Nat} {f0 : List Int} {f1 : Int} {f2 : Bool} {W1 : World} {S : Nat → Prop} (h : IsS94 Z w0 W g f0 f1 f2) (hk : Kept W W1 S) (hne : ¬ S g) : IsS94 Z w0 W1 g f0 f1 f2 := by
 obtain ⟨A0, c0, hb, hg, hr0⟩ := h
 exact ⟨A0, c0, blk_kept hb hk hne, hg, hr0⟩
theorem IsS94.below {Z : Option Addr → Nat → Prop} {w0 W : World} {g : Nat} {f0 : List Int} {f1 : Int} {f2 : Bool} {W1 : World} (h : IsS94 Z w0 W g f0 f1 f2) (hw : Below W.heap.size W W1) : IsS94 Z w0 W1 g f0 f1 f2 := h.grown (grown_of_below hw none) (by simp)
theorem IsS94.alloc {Z : Option Addr → Nat → Prop} {w0 W : World} {g : Nat} {f0 : List Int} {f1 : Int} {f2 : Bool} (h : IsS94 Z w0 W g f0 f1 f2) (o : Obj) : IsS94 Z w0 (W.alloc o) g f0 f1 f2 := h.below (below_alloc (Below.refl _ _) o)
theorem IsS94.drewN {Z : Option Addr → Nat → Prop} {w0 W : World} {g : Nat} {f0 : List Int} {f1 : Int} {f2 : Bool} (h : IsS94 Z w0 W g f0 f1 f2) (m : Nat) : IsS94 Z w0 (W.drewN m) g f0 f1 f2 := h
theorem IsS94.drew {Z : Option Addr → Nat → Prop} {w0 W : World} {g : Nat} {f0 : List Int} {f1 : Int} {f2 : Bool} (h : IsS94 Z w0 W g f0 f1 f2) : IsS94 Z w0 W.drew g f0 f1 f2 := h
theorem IsS94.at_ {Z : Option Addr → Nat → Prop} {w0 W : World} {g : Nat} {f0 : List Int} {f1 : Int} {f2 : Bool} {w' : World} {m : Nat} (hq : W.drewN m = w') (h : IsS94 Z w0 W g f0 f1 f2) : IsS94 Z w0 w' g f0 f1 f2 := by subst hq; exact IsS94.drewN h m
theorem IsS94.apart {Z : Option Addr → Nat → Prop} {w0 W : World} {g : Nat} {f0 : List Int} {f1 : Int} {f2 : Bool} {α : Type} {d : Kd α} {e : Nat} {base : Nat} {ok : Nat → Prop} {v : Value} {xs : List α} (h : IsS94 Z w0 W g f0 f1 f2) (ho : d.R e W base ok v xs) (ht : ∀ q, q ∈ e :: d.E → q ≠ 94) : d.R e W base (fun k => ok k ∧ k ≠ g) v xs := by
 obtain ⟨A0, c0, hb, hg, hr0⟩ := h
 exact Kd.R_types ho hb ht
theorem IsS94.own_ne {Z : Option Addr → Nat → Prop} {w0 W : World} {g : Nat} {f0 : List Int} {f1 : Int} {f2 : Bool} {α : Type} {d : Kd α} {e : Nat} {base : Nat} {ok : Nat → Prop} {v : Value} {xs : List α} (h : IsS94 Z w0 W g f0 f1 f2) (ho : d.R e W base ok v xs) (ht : e ≠ 94) : some g ≠ v.ownBlock := by
 obtain ⟨A0, c0, hb, hg, hr0⟩ := h
 exact Kd.R_ne ho hb ht
theorem IsS94.apartQ {Z : Option Addr → Nat → Prop} {w0 W : World} {g : Nat} {f0 : List Int} {f1 : Int} {f2 : Bool} {α : Type} {d : Kd α} {e : Nat} {base : Nat} {ok : Nat → Prop} {v : Value} {xs : List α} (h : IsS94 Z w0 W g f0 f1 f2) (ho : d.Q e W base ok v xs) (ht : ∀ q, q ∈ e :: d.E → q ≠ 94) : d.Q e W base (fun k => ok k ∧ k ≠ g) v xs := by
 obtain ⟨A0, c0, hb, hg, hr0⟩ := h
 exact Kd.Q_types ho hb ht
theorem IsS94.own_neQ {Z : Option Addr → Nat → Prop} {w0 W : World} {g : Nat} {f0 : List Int} {f1 : Int} {f2 : Bool} {α : Type} {d : Kd α} {e : Nat} {base : Nat} {ok : Nat → Prop} {v : Value} {xs : List α} (h : IsS94 Z w0 W g f0 f1 f2) (ho : d.Q e W base ok v xs) (ht : e ≠ 94) : some g ≠ v.ownBlock := by
 obtain ⟨A0, c0, hb, hg, hr0⟩ := h
 exact Kd.Q_ne ho hb ht
theorem IsS94.apartS {Z : Option Addr → Nat → Prop} {w0 W : World} {g : Nat} {f0 : List Int} {f1 : Int} {f2 : Bool} {α : Type} {d : Kd α} {e : Nat} {base : Nat} {ok : Nat → Prop} {v : Value} {xs : List α} (h : IsS94 Z w0 W g f0 f1 f2) (ho : d.S e W base ok v xs) (ht : ∀ q, q ∈ e :: d.E → q ≠ 94) : d.S e W base (fun k => ok k ∧ k ≠ g) v xs := by
 obtain ⟨A0, c0, hb, hg, hr0⟩ := h
 exact Kd.S_types ho hb ht
theorem IsS94.own_neS {Z : Option Addr → Nat → Prop} {w0 W : World} {g : Nat} {f0 : List Int} {f1 : Int} {f2 : Bool} {α : Type} {d : Kd α} {e : Nat} {base : Nat} {ok : Nat → Prop} {v : Value} {xs : List α} (h : IsS94 Z w0 W g f0 f1 f2) (ho : d.S e W base ok v xs) (ht : e ≠ 94) : some g ≠ v.ownBlock := by
 obtain ⟨A0, c0, hb, hg, hr0⟩ := h
 exact Kd.S_ne ho hb ht
theorem IsS94.lt {Z : Option Addr → Nat → Prop} {w0 W : World} {g : Nat} {f0 : List Int} {f1 : Int} {f2 : Bool} (h : IsS94 Z w0 W g f0 f1 f2) : g < W.heap.size := by
 obtain ⟨A0, c0, hb, hg, hr0⟩ := h
 exact blk_lt hb
theorem IsS94.ge {Z : Option Addr → Nat → Prop} {w0 W : World} {g : Nat} {f0 : List Int} {f1 : Int} {f2 : Bool} (h : IsS94 Z w0 W g f0 f1 f2) : w0.heap.size ≤ g := by
 obtain ⟨A0, c0, hb, hg, hr0⟩ := h
 exact hg
theorem IsS94.ne_blk {Z : Option Addr → Nat → Prop} {w0 W : World} {g : Nat} {f0 : List Int} {f1 : Int} {f2 : Bool} {a : Nat} {cs : Array Value} {t : TypeId} {fr : Nat × Nat} (h : IsS94 Z w0 W g f0 f1 f2) (hb2 : W.heap[a]? = some (.cells cs t fr)) (ht : t ≠ 94) : g ≠ a := by
 obtain ⟨A0, c0, hb, hg, hr0⟩ := h
 rintro rfl
 rw [hb] at hb2
 injection hb2 with hb2
 injection hb2 with _ ht2
 exact ht ht2.symm
theorem IsS94.far {Z : Option Addr → Nat → Prop} {w0 W : World} {g : Nat} {f0 : List Int} {f1 : Int} {f2 : Bool} {p : Addr} (h : IsS94 Z w0 W g f0 f1 f2) (hne : g ≠ p.block) (u : Value) : IsS94 Z w0 (W.setCell p u) g f0 f1 f2 := by
 obtain ⟨A0, c0, hb, hg, hr0⟩ := h
 exact ⟨A0, c0, blk_far hb hne u, hg, hr0⟩
theorem cellS94_0 {W : World} {g : Nat} {A0 : Option Addr} {c0 : Nat} {f0 : List Int} {f1 : Int} {f2 : Bool} (h : W.heap[g]? = some (.cells #[.slice A0 f0.length c0, .int .i64 f1, .bool f2] 94 (0, 0))) : W.cell? ⟨g, 0, none⟩ = some (.slice A0 f0.length c0) := (blk_cell h 0).trans rfl
theorem cellS94_1 {W : World} {g : Nat} {A0 : Option Addr} {c0 : Nat} {f0 : List Int} {f1 : Int} {f2 : Bool} (h : W.heap[g]? = some (.cells #[.slice A0 f0.length c0, .int .i64 f1, .bool f2] 94 (0, 0))) : W.cell? ⟨g, 1, none⟩ = some (.int .i64 f1) := (blk_cell h 1).trans rfl
theorem IsS94.set_1 {Z : Option Addr → Nat → Prop} {w0 W : World} {g : Nat} {f0 : List Int} {f1 : Int} {f2 : Bool} (h : IsS94 Z w0 W g f0 f1 f2) (x : Int) : IsS94 Z w0 (W.setCell ⟨g, 1, none⟩ (.int .i64 x)) g f0 x f2 := by
 obtain ⟨A0, c0, hb, hg, hr0⟩ := h
 exact ⟨A0, c0, by simpa using blk_set hb 1 (.int .i64 x), hg, hr0⟩
theorem cellS94_2 {W : World} {g : Nat} {A0 : Option Addr} {c0 : Nat} {f0 : List Int} {f1 : Int} {f2 : Bool} (h : W.heap[g]? = some (.cells #[.slice A0 f0.length c0, .int .i64 f1, .bool f2] 94 (0, 0))) : W.cell? ⟨g, 2, none⟩ = some (.bool f2) := (blk_cell h 2).trans rfl
theorem IsS94.set_2 {Z : Option Addr → Nat → Prop} {w0 W : World} {g : Nat} {f0 : List Int} {f1 : Int} {f2 : Bool} (h : IsS94 Z w0 W g f0 f1 f2) (x : Bool) : IsS94 Z w0 (W.setCell ⟨g, 2, none⟩ (.bool x)) g f0 f1 x := by
 obtain ⟨A0, c0, hb, hg, hr0⟩ := h
 exact ⟨A0, c0, by simpa using blk_set hb 2 (.bool x), hg, hr0⟩
theorem IsS94.q0 {a b : Prop} (h : a) (g : a → b := by intro h_; repeat (first | (with_reducible first | exact h_ | apply IsS94.alloc | apply IsS94.drewN | apply IsS94.drew | apply IsS94.set_1 | apply IsS94.set_2) | exact h_)) : b := g h
theorem IsS94.q1 {a b : Prop} {c0 : Prop} (h : a) (h0 : c0) (g : a → c0 → b := by intro h_ h0_; repeat (first | (with_reducible first | exact h_ | apply IsS94.alloc | apply IsS94.drewN | apply IsS94.drew | apply IsS94.set_1 | apply IsS94.set_2 | refine IsS94.far ?_ h0_ _) | exact h_)) : b := g h h0
theorem IsS94.q2 {a b : Prop} {c0 : Prop} {c1 : Prop} (h : a) (h0 : c0) (h1 : c1) (g : a → c0 → c1 → b := by intro h_ h0_ h1_; repeat (first | (with_reducible first | exact h_ | apply IsS94.alloc | apply IsS94.drewN | apply IsS94.drew | apply IsS94.set_1 | apply IsS94.set_2 | refine IsS94.far ?_ h0_ _ | refine IsS94.far ?_ h1_ _) | exact h_)) : b := g h h0 h1
theorem IsS94.q3 {a b : Prop} {c0 : Prop} {c1 : Prop} {c2 : Prop} (h : a) (h0 : c0) (h1 : c1) (h2 : c2) (g : a → c0 → c1 → c2 → b := by intro h_ h0_ h1_ h2_; repeat (first | (with_reducible first | exact h_ | apply IsS94.alloc | apply IsS94.drewN | apply IsS94.drew | apply IsS94.set_1 | apply IsS94.set_2 | refine IsS94.far ?_ h0_ _ | refine IsS94.far ?_ h1_ _ | refine IsS94.far ?_ h2_ _) | exact h_)) : b := g h h0 h1 h2

/-! ### impl_parts_part: function 81 -/
def impl_parts_part.f (k : Nat) (s0_0 : List Int) (s0_1 : Int) (s0_2 : Bool) (a1 : Int) : Option (List Int × Int × Bool) := (impl_GetTlv.f k s0_0 s0_1).bind fun bt734 => (if s0_2 = true then (some (([] : List Int), s0_1, true)) else (if bt734.2.2.2 = true then (if bt734.1 = a1 then (some (bt734.2.1, bt734.2.2.1, s0_2)) else (some (([] : List Int), s0_1, true))) else (some (([] : List Int), s0_1, true))))
def impl_parts_part.T1 : Bool × List (List Nat × List Nat) := (true, [([], []), ([0], [0]), ([1], [1]), ([2], [2]), ([], []), ([4], [4]), ([5], [5]), ([6], [6]), ([3, 7], [3, 7]), ([8], [8]), ([9], [9]), ([9], [9]), ([9], [9]), ([9], [9]), ([10, 8, 0, 1, 2, 3, 4, 5, 6, 7, 8, 9, 10], [10]), ([11, 14, 0, 1, 2, 3, 4, 5, 6, 7, 8, 9, 10, 11, 14], [11]), ([12, 15, 0, 1, 2, 3, 4, 5, 6, 7, 8, 9, 10, 11, 12, 14, 15], [12]), ([13, 16, 0, 1, 2, 3, 4, 5, 6, 7, 8, 9, 10, 11, 12, 13, 14, 15, 16], [13])])
def impl_parts_part.B1 : List Nat := [0, 1, 3, 7, 0, 16, 48, 112, 255, 511, 1023, 1023, 1023, 1023, 2047, 20479, 57343, 131071]
theorem impl_parts_part.tab1 : rtab .any (opsOf Try.f81 1) = impl_parts_part.T1 := by kernel_rfl
theorem impl_parts_part.bits1 : waitsOk impl_parts_part.T1.2 impl_parts_part.B1 = true := by kernel_rfl
set_option maxHeartbeats 8000000 in
set_option maxRecDepth 100000 in
theorem impl_parts_part.calls (k : Nat) (g : Nat) (s0_0 : List Int) (s0_1 : Int) (s0_2 : Bool) (a1 : Int) (r1 : List Int) (r2 : Int) (r3 : Bool) (w0 w : World) {Z : Option Addr → Nat → Prop} (hI : IsS94 Z w0 w g s0_0 s0_1 s0_2) (hB : Below w0.heap.size w0 w) (h : impl_parts_part.f k s0_0 s0_1 s0_2 a1 = some (r1, r2, r3)) :
 Calls Try.prog 81 #[.pointer (some ⟨g, 0, none⟩), .int .i64 a1] w fun e w' => ∃ v0_ : Value, e = .returned (v0_) ∧ Kd.R (Kd.int .u8) 5 w' w.heap.size (fun _ => True) v0_ r1 ∧ IsS94 Z w0 w' g s0_0 r2 r3 ∧ Below w0.heap.size w0 w' ∧ KeepBut w w' g none := by
 have HI0 := am hI
 have HK := am (KeepBut.refl w g none)
 have HL := am hB.size
 clear hI
 have HW0 := am hB.size
 have HB := am hB
 clear hB
 have H := h
 clear h
 unfold impl_parts_part.f at H
 replace H := be H
 obtain ⟨⟨qa1_0, qa1_1, qa1_2, qa1_3⟩, Qa1, H⟩ := H
 try dsimp only at H
 rcases Decidable.em (s0_2 = true) with c4 | c4
 · subst c4
   replace H : (some (([] : List Int), s0_1, true)) = some (r1, r2, r3) := by rw [if_pos rfl] at H; exact H
   simp only [Option.some.injEq, Prod.mk.injEq] at H
   obtain ⟨rfl, rfl, rfl⟩ := H
   go_enter Try.func81, Try.ntmps81
   try go_wp2
   obtain ⟨ASz5_0, cSz5_0, HGz5, hgz5, HSz5_0⟩ := HI0.out
   have BK0 := am HGz5
   have GE0 := am hgz5
   clear HGz5 hgz5 HI0
   have n_ := ak3 (blk_drew BK0.out) (keep_drew HK.out) (below_drew1 HB.out)
   clear BK0 HK HB
   obtain ⟨BK0, HK, HB⟩ := n_
   refine start_ (n := 18) (S := fun w' => w'.cell? ⟨g, 0, none⟩ = some (.slice ASz5_0 s0_0.length cSz5_0) ∧ w'.cell? ⟨g, 1, none⟩ = some (.int .i64 s0_1) ∧ w'.cell? ⟨g, 2, none⟩ = some (.bool true)) (ds := []) #[F,F,F,F,F,F,F,F,F,F,F,F,F,F,F,F,F,F] (by kernel_rfl) rfl rfl ⟨(blk_cell BK0.out 0).trans rfl, (blk_cell BK0.out 1).trans rfl, (blk_cell BK0.out 2).trans rfl⟩ (fun hHeld => ?_); refine with_tabW impl_parts_part.tab1 impl_parts_part.bits1 (fun HT_ HW_ => ?_)
   generalize w.drew = w6 at BK0 HK HB hHeld ⊢
   refine pv HT_ 0 (some 10) #[T,F,F,F,F,F,F,F,F,F,F,F,F,F,F,F,F,F] ?_
   refine pv HT_ 1 (some 11) #[T,T,F,F,F,F,F,F,F,F,F,F,F,F,F,F,F,F] ?_
   refine pv HT_ 2 (some 12) #[T,T,T,F,F,F,F,F,F,F,F,F,F,F,F,F,F,F] ?_
   refine pv HT_ 4 (some 14) #[T,T,T,F,T,F,F,F,F,F,F,F,F,F,F,F,F,F] ?_
   refine pv HT_ 5 (some 15) #[T,T,T,F,T,T,F,F,F,F,F,F,F,F,F,F,F,F] ?_
   refine pv HT_ 6 (some 16) #[T,T,T,F,T,T,T,F,F,F,F,F,F,F,F,F,F,F] ?_
   refine tk 3 (some 13) #[T,T,T,T,T,T,T,F,F,F,F,F,F,F,F,F,F,F] rfl rfl (take_ofW HT_.out HW_.out (by kernel_rfl)) hHeld (Or.inl ⟨by rfl, by rintro w' ⟨s0, s1, s2⟩; go_simp; with_reducible rfl⟩) ?_
   refine tk 7 (some 17) #[T,T,T,T,T,T,T,T,F,F,F,F,F,F,F,F,F,F] rfl rfl (take_ofW HT_.out HW_.out (by kernel_rfl)) hHeld (Or.inl ⟨by rfl, by rintro w' ⟨s0, s1, s2⟩; go_simp; with_reducible rfl⟩) ?_
   refine one_ (i := 8) (N := some 18) #[T,T,T,T,T,T,T,T,T,F,F,F,F,F,F,F,F,F] rfl rfl (one_of HT_.out (by kernel_rfl)) (by decide) (fun K hK => ?_)
   refine goes_ Try.func91 (by kernel_rfl) rfl #[.slice ASz5_0 s0_0.length cSz5_0, .int .i64 s0_1] (by rfl) rfl rfl ga ?_
   with_reducible refine (impl_GetTlv.calls k _ _ s0_0 s0_1 qa1_0 qa1_1 qa1_2 qa1_3 _ ?side1 ?side2 Qa1.out).mono ?_
   (case side1 => exact Kd.C_below HSz5_0.1.1 (bq1 HB.out GE0.out))
   (case side2 => exact HSz5_0.1.2)
   rintro e w7 ⟨v738, rfl, ho0, hb⟩
   refine ⟨_, rfl, ?_⟩
   have n_ := ak4 (Kd.R_lower ho0 (keep_size (w := w) (g := g) (row := none) (kp0 HK.out))) (kb BK0 hb) (KeepBut.trans (kp0 HK.out) (KeepBut.of_below hb g none) (.inl rfl)) (below_step (bq1 HB.out GE0.out) hb)
   clear BK0 HK HB
   obtain ⟨HO739, BK0, HK, HB⟩ := n_
   (try clear hb ho0)
   refine hK.out _ _ ⟨(blk_cell BK0.out 0).trans rfl, (blk_cell BK0.out 1).trans rfl, (blk_cell BK0.out 2).trans rfl⟩ (fun hHeld => ?_)
   clear hK K
   refine norm_ (a' := ?_) ?_ ?_
   rotate_left
   · show Act.put _ (some 18) _ = _
     simp only [Act.put, List.setIfInBounds_toArray, List.set_cons_zero, List.set_cons_succ, i64_w, i32_w]
     rfl
   refine pv HT_ 9 (some 9) #[T,T,T,T,T,T,T,T,T,T,F,F,F,F,F,F,F,F] ?_
   refine pv HT_ 10 (some 19) #[T,T,T,T,T,T,T,T,T,T,T,F,F,F,F,F,F,F] ?_
   refine pv HT_ 11 (some 20) #[T,T,T,T,T,T,T,T,T,T,T,T,F,F,F,F,F,F] ?_
   refine pv HT_ 12 (some 21) #[T,T,T,T,T,T,T,T,T,T,T,T,T,F,F,F,F,F] ?_
   refine pv HT_ 13 (some 22) #[T,T,T,T,T,T,T,T,T,T,T,T,T,T,F,F,F,F] ?_
   refine pv HT_ 14 (some 5) #[T,T,T,T,T,T,T,T,T,T,T,T,T,T,T,F,F,F] ?_
   refine pv HT_ 15 (some 6) #[T,T,T,T,T,T,T,T,T,T,T,T,T,T,T,T,F,F] ?_
   refine pv HT_ 16 (some 7) #[T,T,T,T,T,T,T,T,T,T,T,T,T,T,T,T,T,F] ?_
   refine pv HT_ 17 (some 8) #[T,T,T,T,T,T,T,T,T,T,T,T,T,T,T,T,T,T] ?_
   refine done_ (done_of HT_.out (by kernel_rfl)) ?_
   have HI0 := am (show IsS94 Z w0 w7 g s0_0 s0_1 true from ⟨_, _, BK0.out, GE0.out, HSz5_0⟩)
   clear BK0 GE0
   obtain ⟨ASz8_0, cSz8_0, HGz8, hgz8, HSz8_0⟩ := HI0.out
   have hcz8_0 := cellS94_0 HGz8
   have hcz8_1 := cellS94_1 HGz8
   have hcz8_2 := cellS94_2 HGz8
   have hfz8_1 := blk_frozen HGz8 1
   have hfz8_2 := blk_frozen HGz8 2
   clear HGz8 hgz8
   try go_wp2
   go_ret
   exact ⟨_, rq, rn, IsS94.q0 HI0.out, bq1 HB.out (IsS94.ge HI0.out), kp0 HK.out⟩
 replace c4 := Bool.eq_false_iff.mpr c4
 subst c4
 replace H : (if qa1_3 = true then (if qa1_0 = a1 then (some (qa1_1, qa1_2, false)) else (some (([] : List Int), s0_1, true))) else (some (([] : List Int), s0_1, true))) = some (r1, r2, r3) := by rw [if_neg (show ¬ (false = true) by decide)] at H; exact H
 cases qa1_3
 · replace H := iF H
   simp only [Option.some.injEq, Prod.mk.injEq] at H
   obtain ⟨rfl, rfl, rfl⟩ := H
   go_enter Try.func81, Try.ntmps81
   try go_wp2
   obtain ⟨ASz19_0, cSz19_0, HGz19, hgz19, HSz19_0⟩ := HI0.out
   have BK0 := am HGz19
   have GE0 := am hgz19
   clear HGz19 hgz19 HI0
   have n_ := ak3 (blk_drew BK0.out) (keep_drew HK.out) (below_drew1 HB.out)
   clear BK0 HK HB
   obtain ⟨BK0, HK, HB⟩ := n_
   refine start_ (n := 18) (S := fun w' => w'.cell? ⟨g, 0, none⟩ = some (.slice ASz19_0 s0_0.length cSz19_0) ∧ w'.cell? ⟨g, 1, none⟩ = some (.int .i64 s0_1) ∧ w'.cell? ⟨g, 2, none⟩ = some (.bool false)) (ds := []) #[F,F,F,F,F,F,F,F,F,F,F,F,F,F,F,F,F,F] (by kernel_rfl) rfl rfl ⟨(blk_cell BK0.out 0).trans rfl, (blk_cell BK0.out 1).trans rfl, (blk_cell BK0.out 2).trans rfl⟩ (fun hHeld => ?_); refine with_tabW impl_parts_part.tab1 impl_parts_part.bits1 (fun HT_ HW_ => ?_)
   generalize w.drew = w20 at BK0 HK HB hHeld ⊢
   refine pv HT_ 0 (some 10) #[T,F,F,F,F,F,F,F,F,F,F,F,F,F,F,F,F,F] ?_
   refine pv HT_ 1 (some 11) #[T,T,F,F,F,F,F,F,F,F,F,F,F,F,F,F,F,F] ?_
   refine pv HT_ 2 (some 12) #[T,T,T,F,F,F,F,F,F,F,F,F,F,F,F,F,F,F] ?_
   refine pv HT_ 4 (some 14) #[T,T,T,F,T,F,F,F,F,F,F,F,F,F,F,F,F,F] ?_
   refine pv HT_ 5 (some 15) #[T,T,T,F,T,T,F,F,F,F,F,F,F,F,F,F,F,F] ?_
   refine pv HT_ 6 (some 16) #[T,T,T,F,T,T,T,F,F,F,F,F,F,F,F,F,F,F] ?_
   refine tk 3 (some 13) #[T,T,T,T,T,T,T,F,F,F,F,F,F,F,F,F,F,F] rfl rfl (take_ofW HT_.out HW_.out (by kernel_rfl)) hHeld (Or.inl ⟨by rfl, by rintro w' ⟨s0, s1, s2⟩; go_simp; with_reducible rfl⟩) ?_
   refine tk 7 (some 17) #[T,T,T,T,T,T,T,T,F,F,F,F,F,F,F,F,F,F] rfl rfl (take_ofW HT_.out HW_.out (by kernel_rfl)) hHeld (Or.inl ⟨by rfl, by rintro w' ⟨s0, s1, s2⟩; go_simp; with_reducible rfl⟩) ?_
   refine one_ (i := 8) (N := some 18) #[T,T,T,T,T,T,T,T,T,F,F,F,F,F,F,F,F,F] rfl rfl (one_of HT_.out (by kernel_rfl)) (by decide) (fun K hK => ?_)
   refine goes_ Try.func91 (by kernel_rfl) rfl #[.slice ASz19_0 s0_0.length cSz19_0, .int .i64 s0_1] (by rfl) rfl rfl ga ?_
   with_reducible refine (impl_GetTlv.calls k _ _ s0_0 s0_1 qa1_0 qa1_1 qa1_2 false _ ?side1 ?side2 Qa1.out).mono ?_
   (case side1 => exact Kd.C_below HSz19_0.1.1 (bq1 HB.out GE0.out))
   (case side2 => exact HSz19_0.1.2)
   rintro e w21 ⟨v738, rfl, ho0, hb⟩
   refine ⟨_, rfl, ?_⟩
   have n_ := ak4 (Kd.R_lower ho0 (keep_size (w := w) (g := g) (row := none) (kp0 HK.out))) (kb BK0 hb) (KeepBut.trans (kp0 HK.out) (KeepBut.of_below hb g none) (.inl rfl)) (below_step (bq1 HB.out GE0.out) hb)
   clear BK0 HK HB
   obtain ⟨HO739, BK0, HK, HB⟩ := n_
   (try clear hb ho0)
   refine hK.out _ _ ⟨(blk_cell BK0.out 0).trans rfl, (blk_cell BK0.out 1).trans rfl, (blk_cell BK0.out 2).trans rfl⟩ (fun hHeld => ?_)
   clear hK K
   refine norm_ (a' := ?_) ?_ ?_
   rotate_left
   · show Act.put _ (some 18) _ = _
     simp only [Act.put, List.setIfInBounds_toArray, List.set_cons_zero, List.set_cons_succ, i64_w, i32_w]
     rfl
   refine pv HT_ 9 (some 9) #[T,T,T,T,T,T,T,T,T,T,F,F,F,F,F,F,F,F] ?_
   refine pv HT_ 10 (some 19) #[T,T,T,T,T,T,T,T,T,T,T,F,F,F,F,F,F,F] ?_
   refine pv HT_ 11 (some 20) #[T,T,T,T,T,T,T,T,T,T,T,T,F,F,F,F,F,F] ?_
   refine pv HT_ 12 (some 21) #[T,T,T,T,T,T,T,T,T,T,T,T,T,F,F,F,F,F] ?_
   refine pv HT_ 13 (some 22) #[T,T,T,T,T,T,T,T,T,T,T,T,T,T,F,F,F,F] ?_
   refine pv HT_ 14 (some 5) #[T,T,T,T,T,T,T,T,T,T,T,T,T,T,T,F,F,F] ?_
   refine pv HT_ 15 (some 6) #[T,T,T,T,T,T,T,T,T,T,T,T,T,T,T,T,F,F] ?_
   refine pv HT_ 16 (some 7) #[T,T,T,T,T,T,T,T,T,T,T,T,T,T,T,T,T,F] ?_
   refine pv HT_ 17 (some 8) #[T,T,T,T,T,T,T,T,T,T,T,T,T,T,T,T,T,T] ?_
   refine done_ (done_of HT_.out (by kernel_rfl)) ?_
   have HI0 := am (show IsS94 Z w0 w21 g s0_0 s0_1 false from ⟨_, _, BK0.out, GE0.out, HSz19_0⟩)
   clear BK0 GE0
   obtain ⟨ASz22_0, cSz22_0, HGz22, hgz22, HSz22_0⟩ := HI0.out
   have hcz22_0 := cellS94_0 HGz22
   have hcz22_1 := cellS94_1 HGz22
   have hcz22_2 := cellS94_2 HGz22
   have hfz22_1 := blk_frozen HGz22 1
   have hfz22_2 := blk_frozen HGz22 2
   clear HGz22 hgz22
   try go_wp2
   go_ret
   exact ⟨_, rq, rn, IsS94.q0 HI0.out, bq1 HB.out (IsS94.ge HI0.out), kp0 HK.out⟩
 replace H := iT H
 replace H := iq' H
 rcases H with ⟨c10, c10b0, c10b1, H⟩ | ⟨-, c10b0, c10b1, H⟩
 · simp only [Option.some.injEq, Prod.mk.injEq] at H
   obtain ⟨rfl, rfl, rfl⟩ := H
   go_enter Try.func81, Try.ntmps81
   try go_wp2
   obtain ⟨ASz15_0, cSz15_0, HGz15, hgz15, HSz15_0⟩ := HI0.out
   have BK0 := am HGz15
   have GE0 := am hgz15
   clear HGz15 hgz15 HI0
   have n_ := ak3 (blk_drew BK0.out) (keep_drew HK.out) (below_drew1 HB.out)
   clear BK0 HK HB
   obtain ⟨BK0, HK, HB⟩ := n_
   refine start_ (n := 18) (S := fun w' => w'.cell? ⟨g, 0, none⟩ = some (.slice ASz15_0 s0_0.length cSz15_0) ∧ w'.cell? ⟨g, 1, none⟩ = some (.int .i64 s0_1) ∧ w'.cell? ⟨g, 2, none⟩ = some (.bool false)) (ds := []) #[F,F,F,F,F,F,F,F,F,F,F,F,F,F,F,F,F,F] (by kernel_rfl) rfl rfl ⟨(blk_cell BK0.out 0).trans rfl, (blk_cell BK0.out 1).trans rfl, (blk_cell BK0.out 2).trans rfl⟩ (fun hHeld => ?_); refine with_tabW impl_parts_part.tab1 impl_parts_part.bits1 (fun HT_ HW_ => ?_)
   generalize w.drew = w16 at BK0 HK HB hHeld ⊢
   refine pv HT_ 0 (some 10) #[T,F,F,F,F,F,F,F,F,F,F,F,F,F,F,F,F,F] ?_
   refine pv HT_ 1 (some 11) #[T,T,F,F,F,F,F,F,F,F,F,F,F,F,F,F,F,F] ?_
   refine pv HT_ 2 (some 12) #[T,T,T,F,F,F,F,F,F,F,F,F,F,F,F,F,F,F] ?_
   refine pv HT_ 4 (some 14) #[T,T,T,F,T,F,F,F,F,F,F,F,F,F,F,F,F,F] ?_
   refine pv HT_ 5 (some 15) #[T,T,T,F,T,T,F,F,F,F,F,F,F,F,F,F,F,F] ?_
   refine pv HT_ 6 (some 16) #[T,T,T,F,T,T,T,F,F,F,F,F,F,F,F,F,F,F] ?_
   refine tk 3 (some 13) #[T,T,T,T,T,T,T,F,F,F,F,F,F,F,F,F,F,F] rfl rfl (take_ofW HT_.out HW_.out (by kernel_rfl)) hHeld (Or.inl ⟨by rfl, by rintro w' ⟨s0, s1, s2⟩; go_simp; with_reducible rfl⟩) ?_
   refine tk 7 (some 17) #[T,T,T,T,T,T,T,T,F,F,F,F,F,F,F,F,F,F] rfl rfl (take_ofW HT_.out HW_.out (by kernel_rfl)) hHeld (Or.inl ⟨by rfl, by rintro w' ⟨s0, s1, s2⟩; go_simp; with_reducible rfl⟩) ?_
   refine one_ (i := 8) (N := some 18) #[T,T,T,T,T,T,T,T,T,F,F,F,F,F,F,F,F,F] rfl rfl (one_of HT_.out (by kernel_rfl)) (by decide) (fun K hK => ?_)
   refine goes_ Try.func91 (by kernel_rfl) rfl #[.slice ASz15_0 s0_0.length cSz15_0, .int .i64 s0_1] (by rfl) rfl rfl ga ?_
   with_reducible refine (impl_GetTlv.calls k _ _ s0_0 s0_1 qa1_0 qa1_1 qa1_2 true _ ?side1 ?side2 Qa1.out).mono ?_
   (case side1 => exact Kd.C_below HSz15_0.1.1 (bq1 HB.out GE0.out))
   (case side2 => exact HSz15_0.1.2)
   rintro e w17 ⟨v738, rfl, ho0, hb⟩
   refine ⟨_, rfl, ?_⟩
   have n_ := ak4 (Kd.R_lower ho0 (keep_size (w := w) (g := g) (row := none) (kp0 HK.out))) (kb BK0 hb) (KeepBut.trans (kp0 HK.out) (KeepBut.of_below hb g none) (.inl rfl)) (below_step (bq1 HB.out GE0.out) hb)
   clear BK0 HK HB
   obtain ⟨HO739, BK0, HK, HB⟩ := n_
   (try clear hb ho0)
   refine hK.out _ _ ⟨(blk_cell BK0.out 0).trans rfl, (blk_cell BK0.out 1).trans rfl, (blk_cell BK0.out 2).trans rfl⟩ (fun hHeld => ?_)
   clear hK K
   refine norm_ (a' := ?_) ?_ ?_
   rotate_left
   · show Act.put _ (some 18) _ = _
     simp only [Act.put, List.setIfInBounds_toArray, List.set_cons_zero, List.set_cons_succ, i64_w, i32_w]
     rfl
   refine pv HT_ 9 (some 9) #[T,T,T,T,T,T,T,T,T,T,F,F,F,F,F,F,F,F] ?_
   refine pv HT_ 10 (some 19) #[T,T,T,T,T,T,T,T,T,T,T,F,F,F,F,F,F,F] ?_
   refine pv HT_ 11 (some 20) #[T,T,T,T,T,T,T,T,T,T,T,T,F,F,F,F,F,F] ?_
   refine pv HT_ 12 (some 21) #[T,T,T,T,T,T,T,T,T,T,T,T,T,F,F,F,F,F] ?_
   refine pv HT_ 13 (some 22) #[T,T,T,T,T,T,T,T,T,T,T,T,T,T,F,F,F,F] ?_
   refine pv HT_ 14 (some 5) #[T,T,T,T,T,T,T,T,T,T,T,T,T,T,T,F,F,F] ?_
   refine pv HT_ 15 (some 6) #[T,T,T,T,T,T,T,T,T,T,T,T,T,T,T,T,F,F] ?_
   refine pv HT_ 16 (some 7) #[T,T,T,T,T,T,T,T,T,T,T,T,T,T,T,T,T,F] ?_
   refine pv HT_ 17 (some 8) #[T,T,T,T,T,T,T,T,T,T,T,T,T,T,T,T,T,T] ?_
   refine done_ (done_of HT_.out (by kernel_rfl)) ?_
   have HI0 := am (show IsS94 Z w0 w17 g s0_0 s0_1 false from ⟨_, _, BK0.out, GE0.out, HSz15_0⟩)
   clear BK0 GE0
   obtain ⟨ASz18_0, cSz18_0, HGz18, hgz18, HSz18_0⟩ := HI0.out
   have hcz18_0 := cellS94_0 HGz18
   have hcz18_1 := cellS94_1 HGz18
   have hcz18_2 := cellS94_2 HGz18
   have hfz18_1 := blk_frozen HGz18 1
   have hfz18_2 := blk_frozen HGz18 2
   clear HGz18 hgz18
   try go_wp2
   go_ret
   exact ⟨_, rq, rn, IsS94.q0 HI0.out, bq1 HB.out (IsS94.ge HI0.out), kp0 HK.out⟩
 simp only [Option.some.injEq, Prod.mk.injEq] at H
 obtain ⟨rfl, rfl, rfl⟩ := H
 go_enter Try.func81, Try.ntmps81
 try go_wp2
 obtain ⟨ASz11_0, cSz11_0, HGz11, hgz11, HSz11_0⟩ := HI0.out
 have BK0 := am HGz11
 have GE0 := am hgz11
 clear HGz11 hgz11 HI0
 have n_ := ak3 (blk_drew BK0.out) (keep_drew HK.out) (below_drew1 HB.out)
 clear BK0 HK HB
 obtain ⟨BK0, HK, HB⟩ := n_
 refine start_ (n := 18) (S := fun w' => w'.cell? ⟨g, 0, none⟩ = some (.slice ASz11_0 s0_0.length cSz11_0) ∧ w'.cell? ⟨g, 1, none⟩ = some (.int .i64 s0_1) ∧ w'.cell? ⟨g, 2, none⟩ = some (.bool false)) (ds := []) #[F,F,F,F,F,F,F,F,F,F,F,F,F,F,F,F,F,F] (by kernel_rfl) rfl rfl ⟨(blk_cell BK0.out 0).trans rfl, (blk_cell BK0.out 1).trans rfl, (blk_cell BK0.out 2).trans rfl⟩ (fun hHeld => ?_); refine with_tabW impl_parts_part.tab1 impl_parts_part.bits1 (fun HT_ HW_ => ?_)
 generalize w.drew = w12 at BK0 HK HB hHeld ⊢
 refine pv HT_ 0 (some 10) #[T,F,F,F,F,F,F,F,F,F,F,F,F,F,F,F,F,F] ?_
 refine pv HT_ 1 (some 11) #[T,T,F,F,F,F,F,F,F,F,F,F,F,F,F,F,F,F] ?_
 refine pv HT_ 2 (some 12) #[T,T,T,F,F,F,F,F,F,F,F,F,F,F,F,F,F,F] ?_
 refine pv HT_ 4 (some 14) #[T,T,T,F,T,F,F,F,F,F,F,F,F,F,F,F,F,F] ?_
 refine pv HT_ 5 (some 15) #[T,T,T,F,T,T,F,F,F,F,F,F,F,F,F,F,F,F] ?_
 refine pv HT_ 6 (some 16) #[T,T,T,F,T,T,T,F,F,F,F,F,F,F,F,F,F,F] ?_
 refine tk 3 (some 13) #[T,T,T,T,T,T,T,F,F,F,F,F,F,F,F,F,F,F] rfl rfl (take_ofW HT_.out HW_.out (by kernel_rfl)) hHeld (Or.inl ⟨by rfl, by rintro w' ⟨s0, s1, s2⟩; go_simp; with_reducible rfl⟩) ?_
 refine tk 7 (some 17) #[T,T,T,T,T,T,T,T,F,F,F,F,F,F,F,F,F,F] rfl rfl (take_ofW HT_.out HW_.out (by kernel_rfl)) hHeld (Or.inl ⟨by rfl, by rintro w' ⟨s0, s1, s2⟩; go_simp; with_reducible rfl⟩) ?_
 refine one_ (i := 8) (N := some 18) #[T,T,T,T,T,T,T,T,T,F,F,F,F,F,F,F,F,F] rfl rfl (one_of HT_.out (by kernel_rfl)) (by decide) (fun K hK => ?_)
 refine goes_ Try.func91 (by kernel_rfl) rfl #[.slice ASz11_0 s0_0.length cSz11_0, .int .i64 s0_1] (by rfl) rfl rfl ga ?_
 with_reducible refine (impl_GetTlv.calls k _ _ s0_0 s0_1 qa1_0 qa1_1 qa1_2 true _ ?side1 ?side2 Qa1.out).mono ?_
 (case side1 => exact Kd.C_below HSz11_0.1.1 (bq1 HB.out GE0.out))
 (case side2 => exact HSz11_0.1.2)
 rintro e w13 ⟨v738, rfl, ho0, hb⟩
 refine ⟨_, rfl, ?_⟩
 have n_ := ak4 (Kd.R_lower ho0 (keep_size (w := w) (g := g) (row := none) (kp0 HK.out))) (kb BK0 hb) (KeepBut.trans (kp0 HK.out) (KeepBut.of_below hb g none) (.inl rfl)) (below_step (bq1 HB.out GE0.out) hb)
 clear BK0 HK HB
 obtain ⟨HO739, BK0, HK, HB⟩ := n_
 (try clear hb ho0)
 refine hK.out _ _ ⟨(blk_cell BK0.out 0).trans rfl, (blk_cell BK0.out 1).trans rfl, (blk_cell BK0.out 2).trans rfl⟩ (fun hHeld => ?_)
 clear hK K
 refine norm_ (a' := ?_) ?_ ?_
 rotate_left
 · show Act.put _ (some 18) _ = _
   simp only [Act.put, List.setIfInBounds_toArray, List.set_cons_zero, List.set_cons_succ, i64_w, i32_w]
   rfl
 refine pv HT_ 9 (some 9) #[T,T,T,T,T,T,T,T,T,T,F,F,F,F,F,F,F,F] ?_
 refine pv HT_ 10 (some 19) #[T,T,T,T,T,T,T,T,T,T,T,F,F,F,F,F,F,F] ?_
 refine pv HT_ 11 (some 20) #[T,T,T,T,T,T,T,T,T,T,T,T,F,F,F,F,F,F] ?_
 refine pv HT_ 12 (some 21) #[T,T,T,T,T,T,T,T,T,T,T,T,T,F,F,F,F,F] ?_
 refine pv HT_ 13 (some 22) #[T,T,T,T,T,T,T,T,T,T,T,T,T,T,F,F,F,F] ?_
 refine pv HT_ 14 (some 5) #[T,T,T,T,T,T,T,T,T,T,T,T,T,T,T,F,F,F] ?_
 refine pv HT_ 15 (some 6) #[T,T,T,T,T,T,T,T,T,T,T,T,T,T,T,T,F,F] ?_
 refine pv HT_ 16 (some 7) #[T,T,T,T,T,T,T,T,T,T,T,T,T,T,T,T,T,F] ?_
 refine pv HT_ 17 (some 8) #[T,T,T,T,T,T,T,T,T,T,T,T,T,T,T,T,T,T] ?_
 refine done_ (done_of HT_.out (by kernel_rfl)) ?_
 have HI0 := am (show IsS94 Z w0 w13 g s0_0 s0_1 false from ⟨_, _, BK0.out, GE0.out, HSz11_0⟩)
 clear BK0 GE0
 obtain ⟨ASz14_0, cSz14_0, HGz14, hgz14, HSz14_0⟩ := HI0.out
 have hcz14_0 := cellS94_0 HGz14
 have hcz14_1 := cellS94_1 HGz14
 have hcz14_2 := cellS94_2 HGz14
 have hfz14_1 := blk_frozen HGz14 1
 have hfz14_2 := blk_frozen HGz14 2
 clear HGz14 hgz14
 try go_wp2
 go_ret
 exact ⟨_, rq, by refine kr ?_; exact Kd.R_mono (Kd.R_far (p := ⟨g, 1, none⟩) (IsS94.apart HI0.out HO739.out (by decide)) (fun _ hk => hk.2) (.int .i64 qa1_2)) (fun _ hk => trivial), IsS94.q0 HI0.out, bq1 HB.out (IsS94.ge HI0.out), kp0 HK.out⟩
theorem impl_parts_part.box (k : Nat) (g : Nat) (s0_0 : List Int) (s0_1 : Int) (s0_2 : Bool) (a1 : Int) (r1 : List Int) (r2 : Int) (r3 : Bool) (w : World) (A : Option Addr) (c : Nat) (hb : w.heap[g]? = some (.cells #[.slice A s0_0.length c, .int .i64 s0_1, .bool s0_2] 94 (0, 0))) (hC : Kd.C (Kd.int .u8) (tr w g) A s0_0.length s0_0) (hc : s0_0.length ≤ c) (h : impl_parts_part.f k s0_0 s0_1 s0_2 a1 = some (r1, r2, r3)) :
 Calls Try.prog 81 #[.pointer (some ⟨g, 0, none⟩), .int .i64 a1] w fun e w' => ∃ v0_ : Value, e = .returned (v0_) ∧ Kd.R (Kd.int .u8) 5 w' w.heap.size (fun _ => True) v0_ r1 ∧ w'.heap[g]? = some (.cells #[.slice A s0_0.length c, .int .i64 r2, .bool r3] 94 (0, 0)) ∧ Kq w w' g := by
 have hg : g ≤ w.heap.size := Nat.le_of_lt (blk_lt hb)
 refine (impl_parts_part.calls (Z := fun A' c' => A' = A ∧ c' = c) k g s0_0 s0_1 s0_2 a1 r1 r2 r3 (tr w g) w ⟨A, c, hb, by rw [tr_size hg]; exact Nat.le_refl _, ⟨hC, hc⟩, rfl, rfl⟩ (tr_below hg) h).mono ?_
 rintro e w' ⟨v0, rfl, ho0, ⟨A', c', hb', _, _, hA, hc'⟩, hB, hk⟩
 exact ⟨v0, rfl, ho0, by rw [hA, hc'] at hb'; exact hb', Kq.of hg hB hk⟩
end Go.Proofs.Ythhnfmbfgplelaa.XFnMsgs
