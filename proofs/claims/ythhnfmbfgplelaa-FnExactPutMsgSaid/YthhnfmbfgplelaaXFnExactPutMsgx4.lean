/- The functions that one law reaches, as Lean functions, with their walks: printed by a program of this seat (wip/tools) out of the translation. -/
import Derived.Test.YthhnfmbfgplelaaXFnExactPutMsgx0
import Derived.Test.YthhnfmbfgplelaaXFnExactPutMsgx3
namespace Go.Proofs.Ythhnfmbfgplelaa.XFnExactPutMsg
open Go.RowKit Go.Proofs.YthhnfmbfgplelaaW.PrintWords Go.Proofs.YthhnfmbfgplelaaW.PrintLast Go.Proofs.YthhnfmbfgplelaaW.PrintMore
attribute [local go_sem] max2_int min2_int max_two min_two max_three min_three max_four min_four   -- for this text's walks alone
set_option linter.unusedVariables false
set_option linter.unusedSimpArgs false

/-! ### laws_markPdu: function 43 -/
section
variable {base : Nat} {w W W2 : World}
/-- What marking the binds writes: numbers into rows of numbers, fields that are no slices into rows of binds; all else stays. -/
structure Mk (base : Nat) (w W : World) : Prop where
 bel : Below base w W
 ge : base ≤ w.heap.size
 oth : ∀ (i : Nat) (o : Obj), w.heap[i]? = some o → (∀ cs : Array Value, o ≠ .cells cs 3 (0, 0)) → (∀ cs : Array Value, o ≠ .cells cs 116 (0, 0)) → W.heap[i]? = some o
 int : ∀ (i : Nat) (cs : Array Value), w.heap[i]? = some (.cells cs 3 (0, 0)) → ∃ cs' : Array Value, W.heap[i]? = some (.cells cs' 3 (0, 0)) ∧ cs'.size = cs.size ∧ ∀ j : Nat, cs'[j]? = cs[j]? ∨ ∃ x, cs'[j]? = some (.int .i64 x)
 bnd : ∀ (i : Nat) (cs : Array Value), w.heap[i]? = some (.cells cs 116 (0, 0)) → ∃ cs' : Array Value, W.heap[i]? = some (.cells cs' 116 (0, 0)) ∧ cs'.size = cs.size ∧ ∀ j : Nat, (j % 5 = 0 ∨ j % 5 = 4) → cs'[j]? = cs[j]?
theorem Mk.refl (h : base ≤ w.heap.size) : Mk base w w := ⟨⟨rfl, rfl, rfl, Nat.le_refl _, fun _ _ => rfl⟩, h, fun _ _ h _ _ => h, fun _ cs h => ⟨cs, h, rfl, fun _ => .inl rfl⟩, fun _ cs h => ⟨cs, h, rfl, fun _ _ => rfl⟩⟩
theorem Mk.trans (h : Mk base w W) (k : Mk base W W2) : Mk base w W2 := by
 refine ⟨h.bel.trans k.bel, h.ge, fun i o a b c => k.oth i o (h.oth i o a b c) b c, fun i cs a => ?_, fun i cs a => ?_⟩
 · obtain ⟨c1, e1, s1, j1⟩ := h.int i cs a
   obtain ⟨c2, e2, s2, j2⟩ := k.int i c1 e1
   refine ⟨c2, e2, s2.trans s1, fun j => ?_⟩
   rcases j2 j with h2 | h2
   · rcases j1 j with h1 | ⟨x, h1⟩
     · exact .inl (h2.trans h1)
     exact .inr ⟨x, h2.trans h1⟩
   exact .inr h2
 obtain ⟨c1, e1, s1, j1⟩ := h.bnd i cs a
 obtain ⟨c2, e2, s2, j2⟩ := k.bnd i c1 e1
 exact ⟨c2, e2, s2.trans s1, fun j hj => (j2 j hj).trans (j1 j hj)⟩
theorem Mk.of_below (h : base ≤ w.heap.size) (hb : Below w.heap.size w W) : Mk base w W := ⟨hb.mono h, h, fun _ _ a _ _ => blk_below a hb, fun _ cs a => ⟨cs, blk_below a hb, rfl, fun _ => .inl rfl⟩, fun _ cs a => ⟨cs, blk_below a hb, rfl, fun _ _ => rfl⟩⟩
theorem Mk.size (h : Mk base w W) : base ≤ W.heap.size := Nat.le_trans h.ge h.bel.size
theorem Mk.below (h : Mk base w W) (hb : Below W.heap.size W W2) : Mk base w W2 := h.trans (.of_below h.size hb)
theorem Mk.drewN (h : Mk base w W) (n : Nat) : Mk base w (W.drewN n) := h.below (pw_below_drewN (Below.refl _ W) n)
theorem Mk.drew (h : Mk base w W) : Mk base w W.drew := h.below (below_drew1 (Below.refl _ W))
theorem Mk.setI {g i : Nat} {cs : Array Value} (h : base ≤ W.heap.size) (hb : W.heap[g]? = some (.cells cs 3 (0, 0))) (hg : base ≤ g) (x : Int) : Mk base W (W.setCell ⟨g, i, none⟩ (.int .i64 x)) := by
 have far : ∀ k, k ≠ g → (W.setCell ⟨g, i, none⟩ (.int .i64 x)).heap[k]? = W.heap[k]? := fun k hk => Below.heap_setCell W ⟨g, i, none⟩ (.int .i64 x) k hk
 refine ⟨(Below.refl base W).setCell hg _, h, fun k o a b c => ?_, fun k c0 a => ?_, fun k c0 a => ?_⟩
 · refine (far k ?_).trans a
   rintro rfl
   rw [hb] at a
   exact b cs (Option.some.inj a).symm
 · by_cases e : k = g
   · subst e
     rw [hb] at a
     obtain rfl : cs = c0 := by injection a with a; injection a
     refine ⟨_, blk_set hb i _, by simp, fun j => ?_⟩
     rw [Array.getElem?_setIfInBounds]
     split
     · split
       · exact .inr ⟨x, rfl⟩
       rename_i h1 h2
       subst h1
       exact .inl (Array.getElem?_eq_none (by omega)).symm
     exact .inl rfl
   exact ⟨c0, (far k e).trans a, rfl, fun _ => .inl rfl⟩
 refine ⟨c0, (far k ?_).trans a, rfl, fun _ _ => rfl⟩
 rintro rfl
 rw [hb] at a
 injection a with a
 injection a with _ a
 exact absurd a (by decide)
theorem Mk.setB {g i : Nat} {cs : Array Value} (h : base ≤ W.heap.size) (hb : W.heap[g]? = some (.cells cs 116 (0, 0))) (hg : base ≤ g) (hi : ¬ (i % 5 = 0 ∨ i % 5 = 4)) (u : Value) : Mk base W (W.setCell ⟨g, i, none⟩ u) := by
 have far : ∀ k, k ≠ g → (W.setCell ⟨g, i, none⟩ u).heap[k]? = W.heap[k]? := fun k hk => Below.heap_setCell W ⟨g, i, none⟩ u k hk
 refine ⟨(Below.refl base W).setCell hg _, h, fun k o a b c => ?_, fun k c0 a => ?_, fun k c0 a => ?_⟩
 · refine (far k ?_).trans a
   rintro rfl
   rw [hb] at a
   exact c cs (Option.some.inj a).symm
 · refine ⟨c0, (far k ?_).trans a, rfl, fun _ => .inl rfl⟩
   rintro rfl
   rw [hb] at a
   injection a with a
   injection a with _ a
   exact absurd a (by decide)
 by_cases e : k = g
 rotate_left
 · exact ⟨c0, (far k e).trans a, rfl, fun _ _ => rfl⟩
 subst e
 rw [hb] at a
 obtain rfl : cs = c0 := by injection a with a; injection a
 refine ⟨_, blk_set hb i _, by simp, fun j hj => ?_⟩
 rw [Array.getElem?_setIfInBounds, if_neg (fun e : i = j => hi (e ▸ hj))]
/-- A row of numbers, by its form alone. -/
def IR (w : World) (base : Nat) (v : Value) (n : Nat) : Prop := ∃ A cap, v = .slice A n cap ∧ (0 < n → ∃ g cs, A = some ⟨g, 0, none⟩ ∧ base ≤ g ∧ w.heap[g]? = some (.cells cs 3 (0, 0)) ∧ ∀ j, j < n → ∃ x, cs[j]? = some (.int .i64 x))
theorem IR.of_R {ok : Nat → Prop} {v : Value} {l : List Int} (h : Kd.R (Kd.int .i64) 3 w base ok v l) : IR w base v l.length := by
 obtain ⟨A, c, e⟩ := Kd.R_slice h
 refine ⟨A, c, e, fun hp => ?_⟩
 obtain ⟨g, cap, e2, hb, _, cs, hc⟩ := Kd.R_form h hp
 rw [e2] at e
 injection e with e
 subst e
 rw [e2] at h
 refine ⟨g, cs, rfl, hb, hc, fun j hj => ?_⟩
 have h1 := (Kd.R_celln 0 h (j : Int) (by omega) (by omega)).1
 rw [Int.toNat_natCast, blk_cell hc] at h1
 exact ⟨_, h1⟩
theorem IR.mk {v : Value} {n : Nat} (h : IR w base v n) (k : Mk base w W) : IR W base v n := by
 obtain ⟨A, c, e, h⟩ := h
 refine ⟨A, c, e, fun hp => ?_⟩
 obtain ⟨g, cs, e2, hb, hc, hx⟩ := h hp
 obtain ⟨c2, e3, _, hj⟩ := k.int g cs hc
 refine ⟨g, c2, e2, hb, e3, fun j hj2 => ?_⟩
 rcases hj j with h1 | h1
 · obtain ⟨x, h2⟩ := hx j hj2
   exact ⟨x, h1.trans h2⟩
 exact h1
theorem Mk.elem {ok : Nat → Prop} {g c : Nat} {l : List S116} (HO : Kd.R k116 116 w base ok (.slice (some ⟨g, 0, none⟩) l.length c) l) (hm : Mk base w W) (x : Int) (p : 0 ≤ x) (q : x < (l.length : Int)) : ∃ v0 u1 u2 u3 v4, (∃ cs, W.heap[g]? = some (.cells cs 116 (0, 0))) ∧ base ≤ g ∧ IR W base v0 (rd_T116 l x).f0.length ∧ IR W base v4 (rd_T116 l x).f1.f3.length ∧ W.cell? ⟨g, x.toNat * 5, none⟩ = some v0 ∧ W.cell? ⟨g, x.toNat * 5 + 1, none⟩ = some u1 ∧ W.cell? ⟨g, x.toNat * 5 + 2, none⟩ = some u2 ∧ W.cell? ⟨g, x.toNat * 5 + 3, none⟩ = some u3 ∧ W.cell? ⟨g, x.toNat * 5 + 4, none⟩ = some v4 ∧ W.frozen? ⟨g, x.toNat * 5, none⟩ = false ∧ W.frozen? ⟨g, x.toNat * 5 + 1, none⟩ = false ∧ W.frozen? ⟨g, x.toNat * 5 + 2, none⟩ = false ∧ W.frozen? ⟨g, x.toNat * 5 + 3, none⟩ = false ∧ W.frozen? ⟨g, x.toNat * 5 + 4, none⟩ = false := by
 obtain ⟨ce, hl, hM, hcc, _⟩ := Kd.R_elem HO z116 x p q
 obtain ⟨v0, v4, rfl, r0, r4⟩ := k116_openM hM
 obtain ⟨g2, c2, e2, hb, _, cs, hc⟩ := Kd.R_form HO (by omega)
 obtain ⟨rfl, _⟩ : g = g2 ∧ c = c2 := by injection e2 with a _ b; injection a with a; injection a with a; exact ⟨a, b⟩
 obtain ⟨c1, e1, s1, j1⟩ := hm.bnd g cs hc
 have at_ : ∀ i, w.cell? ⟨g, i, none⟩ = cs[i]? := fun i => blk_cell hc i
 have at2 : ∀ i, W.cell? ⟨g, i, none⟩ = c1[i]? := fun i => blk_cell e1 i
 have some_ : ∀ i u, w.cell? ⟨g, i, none⟩ = some u → ∃ u', W.cell? ⟨g, i, none⟩ = some u' := fun i u h => by
  rw [at_] at h
  have hi := (Array.getElem?_eq_some_iff.1 h).1
  exact ⟨c1[i], by rw [at2]; exact Array.getElem?_eq_getElem (by omega)⟩
 have h0 : w.cell? ⟨g, x.toNat * 5, none⟩ = some v0 := hcc 0 _ rfl
 have h1 : w.cell? ⟨g, x.toNat * 5 + 1, none⟩ = some _ := hcc 1 _ rfl
 have h2 : w.cell? ⟨g, x.toNat * 5 + 2, none⟩ = some _ := hcc 2 _ rfl
 have h3 : w.cell? ⟨g, x.toNat * 5 + 3, none⟩ = some _ := hcc 3 _ rfl
 have h4 : w.cell? ⟨g, x.toNat * 5 + 4, none⟩ = some v4 := hcc 4 _ rfl
 obtain ⟨u1, g1⟩ := some_ _ _ h1
 obtain ⟨u2, g2⟩ := some_ _ _ h2
 obtain ⟨u3, g3⟩ := some_ _ _ h3
 refine ⟨v0, u1, u2, u3, v4, ⟨c1, e1⟩, hb, (IR.of_R r0).mk hm, (IR.of_R r4).mk hm, ?_, g1, g2, g3, ?_, blk_frozen e1 _, blk_frozen e1 _, blk_frozen e1 _, blk_frozen e1 _, blk_frozen e1 _⟩
 · rw [at2, j1 _ (.inl (by omega)), ← at_]
   exact h0
 rw [at2, j1 _ (.inr (by omega)), ← at_]
 exact h4
end
theorem markI {base n : Nat} {w : World} {v : Value} (a1 : Int) (hw : base ≤ w.heap.size) (hr : IR w base v n) (hn : 0 ≤ a1 ∧ a1 + (n : Int) ≤ 4611686018427387904) :
 Calls Try.prog 73 #[v, .int .i64 a1] w fun e w' => e = .returned (.int .i64 (a1 + n)) ∧ Mk base w w' := by
 obtain ⟨A, cap, rfl, hr⟩ := hr
 have HR := am hr
 have HN := am hn
 have HM := am (Mk.refl hw)
 clear hr hn hw
 go_enter Try.func73, Try.ntmps73
 go_wp2
 go_loopg [1, 5] (n + 1) (fun kq v1 v5 w' => ∃ (y x : Int), v1 = .int .i64 y ∧ v5 = .int .i64 x ∧ Aside0 (0 ≤ x ∧ x ≤ n ∧ y = a1 + x ∧ (n : Int) - x < kq) ∧ Aside0 (Mk base w w'))
 case atStart => exact ⟨a1, 0, sq, sq, ⟨by omega⟩, ⟨by repeat (first | exact HM.out | apply Mk.drewN | apply Mk.drew)⟩⟩
 case round =>
  obtain ⟨y, x, rfl, rfl, HX, HM⟩ := hrel
  cases gk with
  | zero => exact absurd HX.out.2.2.2 (by have := HX.out; omega)
  | succ k1 =>
   by_cases c3 : x < (n : Int)
   rotate_left
   · have c3b0 : decide (x < (n : Int)) = false := decide_eq_false c3
     obtain rfl : y = a1 + n := by have := HX.out; omega
     clear c3
     go_wp2
     go_ret
     exact ⟨rq, by repeat (first | exact HM.out | apply Mk.drewN | apply Mk.drew)⟩
   have c3b0 : decide (x < (n : Int)) = true := decide_eq_true c3
   have p5 : 0 ≤ (x : Int) := HX.out.1
   have q5 : (x : Int) < ((n : Int) : Int) := c3
   obtain ⟨g, cs0, rfl, hg, hb0, hx0⟩ := HR.out (by omega)
   obtain ⟨cs, hb, _, hj⟩ := HM.out.int g cs0 hb0
   have hx5 : ∃ z, wr.cell? ⟨g, (x : Int).toNat, none⟩ = some (.int .i64 z) := by
    rw [blk_cell hb]
    rcases hj x.toNat with h | h
    · obtain ⟨z, hz⟩ := hx0 x.toNat (by omega)
      exact ⟨z, h.trans hz⟩
    exact h
   obtain ⟨z, hx5_0⟩ := hx5
   have hf5_0 : wr.frozen? ⟨g, (x : Int).toNat, none⟩ = false := blk_frozen hb _
   have HB5 := am hb
   have HG5 := am hg
   clear hb hg hj hb0 hx0 c3
   replace p5 := eq_true p5
   replace q5 := eq_true q5
   go_wp2
   go_roundg k1
   case measure => omega
   case rel => exact ⟨wrap64 (y + 1), wrap64 (x + 1), sq, sq, ⟨by have := HX.out; have := HN.out; have := of_eq_true q5; rw [show wrap64 (y + 1) = y + 1 by unfold wrap64; omega, show wrap64 (x + 1) = x + 1 by unfold wrap64; omega]; omega⟩, ⟨by repeat (first | exact HM.out.trans (Mk.setI HM.out.size HB5.out HG5.out y) | apply Mk.drewN | apply Mk.drew)⟩⟩
theorem text_l0 : ∀ (n : Nat) (x : Int) (s : ByteArray), x ≤ (n : Int) → n ≤ 4611686018427387904 → s.size + n ≤ 4611686018427387904 → ∃ r, laws_markText.l0 (n + 1) x s = some r
 | n, x, s, h1, h2, h3 => by
  unfold laws_markText.l0
  by_cases h : x > 0
  rotate_left
  · rw [if_neg h, if_pos (by omega)]
    exact ⟨_, rfl⟩
  rw [if_pos h]
  cases n with
  | zero => omega
  | succ m =>
   have e : Int.tdiv x 10 = x / 10 := Int.tdiv_eq_ediv_of_nonneg (by omega)
   have ez : ∀ v : Int, (strOfNums [v]).size = 1 := fun v => rfl
   simp only [Option.bind_some, ez]
   rw [if_pos (by omega), e, show wrap64 (x / 10) = x / 10 by unfold wrap64; omega]
   exact text_l0 m _ _ (by omega) (by omega) (by rw [ByteArray.size_append, ez]; omega)
theorem text_some (x : Int) (h : x ≤ 4611686018427387904) : ∃ k r, laws_markText.f k x = some r := by
 by_cases c : x ≤ 0
 · exact ⟨0, _, by unfold laws_markText.f; rw [if_pos c]⟩
 obtain ⟨r, e⟩ := text_l0 x.toNat x (⟨#[]⟩ : ByteArray) (by omega) (by omega) (by have : (⟨#[]⟩ : ByteArray).size = 0 := rfl; omega)
 exact ⟨_, r, by unfold laws_markText.f; rw [if_neg c]; exact e⟩
def marks : List S116 → Nat
 | [] => 0
 | x :: r => x.f0.length + 3 + x.f1.f3.length + marks r
theorem marks_take : ∀ (l : List S116) (i : Nat), i < l.length → marks (l.take (i + 1)) = marks (l.take i) + ((l.getD i z116).f0.length + 3 + (l.getD i z116).f1.f3.length) ∧ marks (l.take (i + 1)) ≤ marks l
 | [], i, h => by simp at h
 | x :: r, 0, h => by simp [marks]
 | x :: r, i + 1, h => by
  obtain ⟨h1, h2⟩ := marks_take r i (by simpa using h)
  simp only [List.take_succ_cons, marks, List.getD_cons_succ]
  omega
theorem marks_len : ∀ l : List S116, l.length ≤ marks l
 | [] => Nat.le_refl _
 | x :: r => by
  have := marks_len r
  simp only [List.length_cons, marks]
  omega
theorem markB {base : Nat} {ok : Nat → Prop} {w : World} {v : Value} {l : List S116} (a1 : Int) (hw : base ≤ w.heap.size) (ho : Kd.R k116 116 w base ok v l) (hn : 0 ≤ a1 ∧ a1 + (marks l : Int) ≤ 4611686018427387904) :
 Calls Try.prog 102 #[v, .int .i64 a1] w fun e w' => e = .returned (.int .i64 (a1 + marks l)) ∧ Mk base w w' := by
 obtain ⟨A, c, rfl⟩ := Kd.R_slice ho
 have HO := am ho
 have HN := am hn
 have HM := am (Mk.refl hw)
 clear ho hn hw
 go_enter Try.func102, Try.ntmps102
 go_wp2
 go_loopg [1, 5] (l.length + 1) (fun kq v1 v5 w' => ∃ (y x : Int), v1 = .int .i64 y ∧ v5 = .int .i64 x ∧ Aside0 (0 ≤ x ∧ x ≤ l.length ∧ y = a1 + (marks (l.take x.toNat) : Int) ∧ (l.length : Int) - x < kq) ∧ Aside0 (Mk base w w'))
 case atStart => exact ⟨a1, 0, sq, sq, ⟨by refine ⟨by omega, by omega, ?_, by omega⟩; simp [marks]⟩, ⟨by repeat (first | exact HM.out | apply Mk.drewN | apply Mk.drew)⟩⟩
 case round =>
  obtain ⟨y, x, rfl, rfl, HX, HM⟩ := hrel
  cases gk with
  | zero => exact absurd HX.out.2.2.2 (by have := HX.out; omega)
  | succ k1 =>
   by_cases c3 : x < (l.length : Int)
   rotate_left
   · have c3b0 : decide (x < (l.length : Int)) = false := decide_eq_false c3
     obtain rfl : y = a1 + (marks l : Int) := by
      have h := HX.out
      rw [h.2.2.1, List.take_of_length_le (by omega)]
     clear c3
     go_wp2
     go_ret
     exact ⟨rq, by repeat (first | exact HM.out | apply Mk.drewN | apply Mk.drew)⟩
   have c3b0 : decide (x < (l.length : Int)) = true := decide_eq_true c3
   have p5 : 0 ≤ (x : Int) := HX.out.1
   have q5 : (x : Int) < ((l.length : Int) : Int) := c3
   have PP := am p5
   have QQ := am q5
   have BD0 := marks_take l x.toNat (by omega)
   have BD : Aside0 ((0 ≤ y ∧ y + ((rd_T116 l x).f0.length : Int) ≤ 4611686018427387904) ∧ (wrap64 (wrap64 (y + ((rd_T116 l x).f0.length : Int) + 1) + 1) ≤ 4611686018427387904) ∧ (0 ≤ wrap64 (wrap64 (wrap64 (y + ((rd_T116 l x).f0.length : Int) + 1) + 1) + 1) ∧ wrap64 (wrap64 (wrap64 (y + ((rd_T116 l x).f0.length : Int) + 1) + 1) + 1) + ((rd_T116 l x).f1.f3.length : Int) ≤ 4611686018427387904) ∧ wrap64 (wrap64 (wrap64 (y + ((rd_T116 l x).f0.length : Int) + 1) + 1) + 1) + ((rd_T116 l x).f1.f3.length : Int) = a1 + (marks (l.take (x.toNat + 1)) : Int)) := by
    have h := HX.out
    have h2 := HN.out
    unfold rd_T116
    generalize (l.getD x.toNat z116).f0.length = n0 at BD0 ⊢
    generalize (l.getD x.toNat z116).f1.f3.length = n4 at BD0 ⊢
    generalize marks (l.take (x.toNat + 1)) = m1 at BD0 ⊢
    have e1 : wrap64 (y + (n0 : Int) + 1) = y + n0 + 1 := by unfold wrap64; omega
    have e2 : wrap64 (y + (n0 : Int) + 1 + 1) = y + n0 + 2 := by unfold wrap64; omega
    have e3 : wrap64 (y + (n0 : Int) + 2 + 1) = y + n0 + 3 := by unfold wrap64; omega
    rw [e1, e2, e3]
    exact ⟨by omega⟩
   clear BD0 c3
   obtain ⟨g, c2, e2, _⟩ := Kd.R_form HO.out (by omega)
   obtain ⟨rfl, rfl⟩ : A = some ⟨g, 0, none⟩ ∧ c = c2 := by injection e2 with a _ b; exact ⟨a, b⟩
   clear e2
   obtain ⟨v0, u1, u2, u3, v4, hb, hg, I0, I4, hx0, hx1, hx2, hx3, hx4, hf0, hf1, hf2, hf3, hf4⟩ := Mk.elem HO.out HM.out x PP.out QQ.out
   replace hb := am hb
   replace hg := am hg
   replace I0 := am I0
   replace I4 := am I4
   obtain ⟨K, rt, hT⟩ := text_some (wrap64 (wrap64 (y + ((rd_T116 l x).f0.length : Int) + 1) + 1)) BD.out.2.1
   replace hT := am hT
   replace p5 := eq_true p5
   replace q5 := eq_true q5
   go_wp2_with (first | ((with_reducible refine gate_dst (N := 18) rfl ?_); refine goesL_ (some 18) rfl rfl Try.func73 (by kernel_rfl) rfl #[v0, .int .i64 y] rfl ga ?_; refine (markI (base := base) (n := (rd_T116 l x).f0.length) (y) ?s1 ?s2 ?s3).mono ?_; (case s1 => exact Mk.size (by repeat (first | exact HM.out | apply Mk.drewN | apply Mk.drew))); (case s2 => exact I0.out); (case s3 => have := BD.out; exact this.1); rintro e w8 ⟨rfl, hk⟩; refine ⟨_, rfl, ?_⟩; replace HM := am (Mk.trans (by repeat (first | exact HM.out | apply Mk.drewN | apply Mk.drew)) hk); clear hk hx0 hx1 hx2 hx3 hx4 hf0 hf1 hf2 hf3 hf4; obtain ⟨v0, u1, u2, u3, v4, hb, hg, I0, I4, hx0, hx1, hx2, hx3, hx4, hf0, hf1, hf2, hf3, hf4⟩ := Mk.elem HO.out HM.out x PP.out QQ.out; replace hb := am hb; replace hg := am hg; replace I0 := am I0; replace I4 := am I4) | ((with_reducible refine gate_store (t := 3) (p := 24) rfl ?_); refine store_event (t := 3) (p := 24) (v := ?vo_w9) (w1 := (w8.setCell ⟨g, (x : Int).toNat * 5 + 1, none⟩ (.int .i64 (y + ((rd_T116 l x).f0.length : Int))))) ?hg ?ho ?hn ?hr ?_; (case ho => rfl); (case hg => rfl); (case hn => rfl); (case hr => exact gs); intro w9 hw; obtain ⟨cs_, hc_⟩ := hb.out; replace HM := am (show Mk base w w9 by rw [hw]; exact HM.out.trans (Mk.setB HM.out.size hc_ hg.out (by omega) _)); clear hw hc_ hx0 hx1 hx2 hx3 hx4 hf0 hf1 hf2 hf3 hf4; obtain ⟨v0, u1, u2, u3, v4, hb, hg, I0, I4, hx0, hx1, hx2, hx3, hx4, hf0, hf1, hf2, hf3, hf4⟩ := Mk.elem HO.out HM.out x PP.out QQ.out; replace hb := am hb; replace hg := am hg; replace I0 := am I0; replace I4 := am I4) | ((with_reducible refine gate_store (t := 3) (p := 32) rfl ?_); refine store_event (t := 3) (p := 32) (v := ?vo_w10) (w1 := (w9.setCell ⟨g, (x : Int).toNat * 5 + 2, none⟩ (.int .i64 (wrap64 (y + ((rd_T116 l x).f0.length : Int) + 1))))) ?hg ?ho ?hn ?hr ?_; (case ho => rfl); (case hg => rfl); (case hn => rfl); (case hr => exact gs); intro w10 hw; obtain ⟨cs_, hc_⟩ := hb.out; replace HM := am (show Mk base w w10 by rw [hw]; exact HM.out.trans (Mk.setB HM.out.size hc_ hg.out (by omega) _)); clear hw hc_ hx0 hx1 hx2 hx3 hx4 hf0 hf1 hf2 hf3 hf4; obtain ⟨v0, u1, u2, u3, v4, hb, hg, I0, I4, hx0, hx1, hx2, hx3, hx4, hf0, hf1, hf2, hf3, hf4⟩ := Mk.elem HO.out HM.out x PP.out QQ.out; replace hb := am hb; replace hg := am hg; replace I0 := am I0; replace I4 := am I4) | ((with_reducible refine gate_dst (N := 38) rfl ?_); refine goesL_ (some 38) rfl rfl Try.func131 (by kernel_rfl) rfl #[.int .i64 (wrap64 (wrap64 (y + ((rd_T116 l x).f0.length : Int) + 1) + 1))] rfl ga ?_; refine (laws_markText.calls K _ rt _ hT.out).mono ?_; rintro e w11 ⟨rfl, hk⟩; refine ⟨_, rfl, ?_⟩; replace HM := am (Mk.below (by repeat (first | exact HM.out | apply Mk.drewN | apply Mk.drew)) hk); clear hk hx0 hx1 hx2 hx3 hx4 hf0 hf1 hf2 hf3 hf4; obtain ⟨v0, u1, u2, u3, v4, hb, hg, I0, I4, hx0, hx1, hx2, hx3, hx4, hf0, hf1, hf2, hf3, hf4⟩ := Mk.elem HO.out HM.out x PP.out QQ.out; replace hb := am hb; replace hg := am hg; replace I0 := am I0; replace I4 := am I4) | ((with_reducible refine gate_store (t := 9) (p := 41) rfl ?_); refine store_event (t := 9) (p := 41) (v := ?vo_w12) (w1 := (w11.setCell ⟨g, (x : Int).toNat * 5 + 3, none⟩ (.string rt))) ?hg ?ho ?hn ?hr ?_; (case ho => rfl); (case hg => rfl); (case hn => rfl); (case hr => exact gs); intro w12 hw; obtain ⟨cs_, hc_⟩ := hb.out; replace HM := am (show Mk base w w12 by rw [hw]; exact HM.out.trans (Mk.setB HM.out.size hc_ hg.out (by omega) _)); clear hw hc_ hx0 hx1 hx2 hx3 hx4 hf0 hf1 hf2 hf3 hf4; obtain ⟨v0, u1, u2, u3, v4, hb, hg, I0, I4, hx0, hx1, hx2, hx3, hx4, hf0, hf1, hf2, hf3, hf4⟩ := Mk.elem HO.out HM.out x PP.out QQ.out; replace hb := am hb; replace hg := am hg; replace I0 := am I0; replace I4 := am I4) | ((with_reducible refine gate_dst (N := 51) rfl ?_); refine goesL_ (some 51) rfl rfl Try.func73 (by kernel_rfl) rfl #[v4, .int .i64 (wrap64 (wrap64 (wrap64 (y + ((rd_T116 l x).f0.length : Int) + 1) + 1) + 1))] rfl ga ?_; refine (markI (base := base) (n := (rd_T116 l x).f1.f3.length) (wrap64 (wrap64 (wrap64 (y + ((rd_T116 l x).f0.length : Int) + 1) + 1) + 1)) ?s1 ?s2 ?s3).mono ?_; (case s1 => exact Mk.size (by repeat (first | exact HM.out | apply Mk.drewN | apply Mk.drew))); (case s2 => exact I4.out); (case s3 => have := BD.out; exact this.2.2.1); rintro e w13 ⟨rfl, hk⟩; refine ⟨_, rfl, ?_⟩; replace HM := am (Mk.trans (by repeat (first | exact HM.out | apply Mk.drewN | apply Mk.drew)) hk); clear hk hx0 hx1 hx2 hx3 hx4 hf0 hf1 hf2 hf3 hf4; obtain ⟨v0, u1, u2, u3, v4, hb, hg, I0, I4, hx0, hx1, hx2, hx3, hx4, hf0, hf1, hf2, hf3, hf4⟩ := Mk.elem HO.out HM.out x PP.out QQ.out; replace hb := am hb; replace hg := am hg; replace I0 := am I0; replace I4 := am I4))
   go_roundg k1
   case measure => omega
   case rel => exact ⟨_, wrap64 (x + 1), rfl, sq, ⟨by have h := HX.out; have h2 := HN.out; have h3 := BD.out.2.2.2; have := QQ.out; have := marks_len l; rw [show wrap64 (x + 1) = x + 1 by unfold wrap64; omega, show (x + 1).toNat = x.toNat + 1 by omega]; exact ⟨by omega, by omega, h3, by omega⟩⟩, ⟨by repeat (first | exact HM.out | apply Mk.drewN | apply Mk.drew)⟩⟩
def laws_markPdu.f (_a0 _a1 _a2 _a3 : Int) (l : List S116) (a1 : Int) : Option Int := if 0 ≤ a1 ∧ a1 + (marks l : Int) ≤ 4611686018427387904 then some (a1 + (marks l : Int)) else none
theorem laws_markPdu.calls (a0 a1 a2 a3 : Int) (v : Value) (l : List S116) (y r : Int) {base : Nat} {ok : Nat → Prop} (w : World) (hw : base ≤ w.heap.size) (ho : Kd.R k116 116 w base ok v l) (h : laws_markPdu.f a0 a1 a2 a3 l y = some r) :
 Calls Try.prog 43 #[.agg #[.int .i64 a0, .int .i64 a1, .int .i64 a2, .int .i64 a3, v], .int .i64 y] w fun e w' => e = .returned (.int .i64 r) ∧ Mk base w w' := by
 have hu := Try.underlying58
 obtain ⟨A, c, rfl⟩ := Kd.R_slice ho
 unfold laws_markPdu.f at h
 by_cases hn : 0 ≤ y ∧ y + (marks l : Int) ≤ 4611686018427387904
 rotate_left
 · rw [if_neg hn] at h
   cases h
 rw [if_pos hn] at h
 obtain rfl := Option.some.inj h
 have HO := am ho
 have HN := am hn
 have HW := am hw
 clear h hn ho hw
 go_enter Try.func43, Try.ntmps43
 go_wp2_with (first | ((with_reducible refine gate_dst (N := 2) rfl ?_); refine bxe 2 #[.int .i64 a0, .int .i64 a1, .int .i64 a2, .int .i64 a3, .slice A l.length c] 58 ?_; intro gb hg w1 hbox hb; have HB := am hb; obtain ⟨hcz0, hcz1, hcz2, hcz3, hcz4, hfz0, hfz1, hfz2, hfz3, hfz4⟩ := cl5 hbox; clear hb hbox hg) | ((with_reducible refine gate_dst (N := 8) rfl ?_); refine goesL_ (some 8) rfl rfl Try.func102 (by kernel_rfl) rfl #[.slice A l.length c, .int .i64 y] rfl ga ?_; refine (markB (base := base) y ?s1 (Kd.R_below HO.out HB.out) HN.out).mono ?_; (case s1 => exact Nat.le_trans HW.out HB.out.size); rintro e w2 ⟨rfl, hk⟩; refine ⟨_, rfl, ?_⟩; have HM := am ((Mk.of_below HW.out HB.out).trans hk); clear hk))
 go_ret
 exact ⟨rq, by repeat (first | exact HM.out | apply Mk.drewN | apply Mk.drew)⟩
theorem Mk.row {base e : Nat} {w W : World} {k : IntKind} {b : Nat} {ok : Nat → Prop} {v : Value} {xs : List Int} (h : Kd.R (Kd.int k) e w b ok v xs) (m : Mk base w W) (h3 : e ≠ 3 := by decide) (h4 : e ≠ 116 := by decide) : Kd.R (Kd.int k) e W b ok v xs := by
 refine Kd.R_mono (Kd.R_step (Kd.R_bound h) (fun i hi _ => ?_)) (fun i hi => hi.1)
 obtain ⟨_, _, _, q, hq, cs, hc⟩ := hi
 obtain rfl : q = e := by
  rcases List.mem_cons.1 hq with h | h
  · exact h
  exact absurd h (by simp [Kd.int, Kd.scalar])
 rw [hc]
 refine m.oth i _ hc (fun c a => ?_) (fun c a => ?_)
 · injection a with _ a
   exact h3 a
 injection a with _ a
 exact h4 a
theorem Mk.blk {base g t : Nat} {w W : World} {cs : Array Value} (h : w.heap[g]? = some (.cells cs t (0, 0))) (m : Mk base w W) (h3 : t ≠ 3 := by decide) (h4 : t ≠ 116 := by decide) : W.heap[g]? = some (.cells cs t (0, 0)) := by
 refine m.oth g _ h (fun c a => ?_) (fun c a => ?_)
 · injection a with _ a
   exact h3 a
 injection a with _ a
 exact h4 a
theorem Mk.base {w0 w W : World} (h : Below w0.heap.size w0 w) (m : Mk w0.heap.size w W) : Below w0.heap.size w0 W := h.trans m.bel

/-! ### spec_l1In: function 88 -/
def spec_l1In.f (a0 : Int) (a1 : Int) (a2 : Int) : Option (Bool) := if a0 ≥ a1 then (some (decide (a0 ≤ a2))) else (some false)
set_option maxHeartbeats 8000000 in
set_option maxRecDepth 100000 in
theorem spec_l1In.calls (a0 : Int) (a1 : Int) (a2 : Int) (r : Bool) (w : World) (h : spec_l1In.f a0 a1 a2 = some r) :
 Calls Try.prog 88 #[.int .i64 a0, .int .i64 a1, .int .i64 a2] w fun e w' => e = .returned (.bool r) ∧ Drawn0 w w' := by
 have H : (if a0 ≥ a1 then (some (decide (a0 ≤ a2))) else (some false)) = some r := h
 clear h
 by_cases c4 : a0 ≥ a1
 · rw [if_pos c4] at H
   have c4b0 : decide (a1 ≤ a0) = true := decide_eq_true c4
   clear c4
   obtain rfl := Option.some.inj H
   go_enter Try.func88, Try.ntmps88
   go_wp2
   go_ret
   exact ⟨by first | rfl | (simp; done) | (simp [*]; done), by repeat (first | exact Drawn0.refl _ | apply Drawn0.step)⟩
 rw [if_neg c4] at H
 have c4b0 : decide (a1 ≤ a0) = false := decide_eq_false c4
 clear c4
 obtain rfl := Option.some.inj H
 go_enter Try.func88, Try.ntmps88
 go_wp2
 go_ret
 exact ⟨by first | rfl | (simp; done) | (simp [*]; done), by repeat (first | exact Drawn0.refl _ | apply Drawn0.step)⟩

/-! ### spec_PutTlv: function 66 -/
def spec_PutTlv.j0 : Nat → Int → List Int → List Int → Bool → Option (List Int)
 | 0, _, _, _, _ => none
 | k + 1, x1, x2, x7, x18 => if x18 = true then (some x7) else (if x7.length < 140737488355328 then ((some (x7 ++ [(x1) % 256] : List Int)).bind fun y184 => (if (x2.length : Int) > 127 then (if y184.length < 140737488355328 then ((some (y184 ++ [129] : List Int)).bind fun y187 => (if y187.length < 140737488355328 then ((some (y187 ++ [((x2.length : Int)) % 256] : List Int)).bind fun y190 => (if y190.length + x2.length < 140737488355328 then (some (y190 ++ x2)) else (none))) else (none))) else (none)) else (if y184.length < 140737488355328 then ((some (y184 ++ [((x2.length : Int)) % 256] : List Int)).bind fun y196 => (if y196.length + x2.length < 140737488355328 then (some (y196 ++ x2)) else (none))) else (none)))) else (none))
def spec_PutTlv.f (k : Nat) (l0 : List Int) (a1 : Int) (l2 : List Int) : Option (List Int) := (some (([] : List Int) : List Int)).bind fun y177 => (if y177.length + l0.length < 140737488355328 then ((some (y177 ++ l0 : List Int)).bind fun y180 => ((spec_l1In.f a1 0 255).bind fun t183 => (if t183 = true then (spec_PutTlv.j0 k a1 l2 y180 (decide ((l2.length : Int) > 250))) else (spec_PutTlv.j0 k a1 l2 y180 true)))) else (none))
theorem spec_PutTlv.mono_l : ∀ k, (∀ y0 y1 y2 y3, LeO (spec_PutTlv.j0 k y0 y1 y2 y3) (spec_PutTlv.j0 (k + 1) y0 y1 y2 y3))
 | 0 => fun _ _ _ _ r h => by simp [spec_PutTlv.j0] at h
 | k + 1 => by
  have ih0 := spec_PutTlv.mono_l k
  intro y0 y1 y2 y3
  unfold spec_PutTlv.j0
  repeat' first
  | (with_reducible exact ih0 _ _ _ _)
  | (with_reducible exact LeO.refl _)
  | (with_reducible exact LeO.none _)
  | (with_reducible refine LeO.ite ?_ ?_)
  | (with_reducible refine LeO.bind ?_ (fun _ => ?_))
  | exact ih0 _ _ _ _
  | exact LeO.none _
  | refine LeO.ite ?_ ?_
  | refine LeO.bind ?_ (fun _ => ?_)
theorem spec_PutTlv.mono : ∀ a0 a1 a2 k, LeO (spec_PutTlv.f k a0 a1 a2) (spec_PutTlv.f (k + 1) a0 a1 a2) := by
 intro a0 a1 a2 k
 have ih0 := spec_PutTlv.mono_l k
 unfold spec_PutTlv.f
 repeat' first
  | (with_reducible exact ih0 _ _ _ _)
  | (with_reducible exact LeO.refl _)
  | (with_reducible exact LeO.none _)
  | (with_reducible refine LeO.ite ?_ ?_)
  | (with_reducible refine LeO.bind ?_ (fun _ => ?_))
  | exact ih0 _ _ _ _
  | exact LeO.none _
  | refine LeO.ite ?_ ?_
  | refine LeO.bind ?_ (fun _ => ?_)
set_option maxHeartbeats 8000000 in
set_option maxRecDepth 100000 in
theorem spec_PutTlv.calls (k : Nat) (A0 : Option Addr) (c0 : Nat) (l0 : List Int) (a1 : Int) (A2 : Option Addr) (c2 : Nat) (l2 : List Int) (r : List Int) (w : World) (hr0 : Kd.C (Kd.int .u8) w A0 l0.length l0) (hc0 : l0.length ≤ c0) (hr2 : Kd.C (Kd.int .u8) w A2 l2.length l2) (hc2 : l2.length ≤ c2) (h : spec_PutTlv.f k l0 a1 l2 = some r) :
 Calls Try.prog 66 #[.slice A0 l0.length c0, .int .i64 a1, .slice A2 l2.length c2] w fun e w' => ∃ v0_ : Value, e = .returned (v0_) ∧ Kd.R (Kd.int .u8) 5 w' w.heap.size (fun _ => True) v0_ r ∧ Below w.heap.size w w' := by
 have HR0 := am hr0
 have HC0 := am hc0
 clear hr0 hc0
 have HR2 := am hr2
 have HC2 := am hc2
 clear hr2 hc2
 have HB := am (Below.refl w.heap.size w)
 have H : ((some (([] : List Int) : List Int)).bind fun y177 => (if y177.length + l0.length < 140737488355328 then ((some (y177 ++ l0 : List Int)).bind fun y180 => ((spec_l1In.f a1 0 255).bind fun t183 => (if t183 = true then (spec_PutTlv.j0 k a1 l2 y180 (decide ((l2.length : Int) > 250))) else (spec_PutTlv.j0 k a1 l2 y180 true)))) else (none))) = some r := h
 clear h
 obtain ⟨y177, hy177⟩ : ∃ y_ : List Int, y_ = (([] : List Int)) := ⟨_, rfl⟩
 replace H : (if y177.length + l0.length < 140737488355328 then ((some (y177 ++ l0 : List Int)).bind fun y180 => ((spec_l1In.f a1 0 255).bind fun t183 => (if t183 = true then (spec_PutTlv.j0 k a1 l2 y180 (decide ((l2.length : Int) > 250))) else (spec_PutTlv.j0 k a1 l2 y180 true)))) else (none)) = some r := hx H hy177
 have Ny177 := am hy177
 clear hy177
 by_cases c4 : y177.length + l0.length < 140737488355328
 rotate_left
 · rw [if_neg c4] at H
   exact absurd H (by simp)
 rw [if_pos c4] at H
 have LMc4 := am c4
 clear c4
 obtain ⟨y180, hy180⟩ : ∃ y_ : List Int, y_ = (y177 ++ l0) := ⟨_, rfl⟩
 replace H : ((spec_l1In.f a1 0 255).bind fun t183 => (if t183 = true then (spec_PutTlv.j0 k a1 l2 y180 (decide ((l2.length : Int) > 250))) else (spec_PutTlv.j0 k a1 l2 y180 true))) = some r := hx H hy180
 have Ny180 := am hy180
 clear hy180
 have HC5 := am H
 clear H
 go_enter Try.func66, Try.ntmps66
 go_upto_region 2 with (first | ((with_reducible refine gate_dst (N := 8) rfl ?_); (try (refine gate_guard (by rfl) ?_; dsimp only)); refine Kd.R_lit (Kd.int .u8) _ 5 ?hg (N := 8) ?hd (xs := ([] : List Int)) (inner := []) (ok := fun _ => True) (okp := fun _ => True) ?hr ?hp (fun _ hk => hk) trivial (Below.refl _ _) (Nat.le_refl _) (by simp) ?_; (case hd => rfl); (case hg => rfl); (case hr => exact gs); (case hp => exact (Reps.none _ _)); intro v178 w6 ho7 hb hg_ hnew_; clear hg_ hnew_; (first | rw [← Ny177.out] at ho7 | (simp only [Int.reduceToNat] at ho7; rw [← Ny177.out] at ho7)); have n_ := ak2 (Kd.R_lower ho7 (below_size (bq HB.out))) (below_step (bq HB.out) hb); clear HB; obtain ⟨HO179, HB⟩ := n_; clear hb ho7) | ((with_reducible refine gate_builtin (b := .append) (xs := #[.tmp 8, .tmp 9]) rfl ?_); (try (refine gate_guard (by rfl) ?_; dsimp only)); at_builtin; refine Kd.R_append_rows (Kd.int .u8) (w0 := w) w.heap.size rfl (.tmp 8) (.tmp 9) 22 5 (.int .u8 0) 1 rfl Try.underlying22 info5 rfl (by decide) (by omega) v178 y177 l0 _ _ _ (fun _ => True) (fun _ => False) rfl rfl ?aO ?aR (fun _ _ h => h) (fun _ h => h.elim) ?aF ?aB ?aS ?aL ?_; (case aR => exact cq (Kd.C_below HR0.out HB.out)); (case aB => exact (bq HB.out)); (case aF => exact (fun _ _ => trivial)); (case aO => exact (kqR HO179.out)); (case aS => exact (below_size (bq HB.out))); (case aL => have := LMc4.out; omega); intro v181 w8 ho hb hg hat; rw [← Ny180.out] at ho; have n_ := ak2 hb ho; clear HB HO179; obtain ⟨HB, HO182⟩ := n_; clear ho hb hg hat))
 (try simp only [Act.put, List.setIfInBounds_toArray, List.set_cons_zero, List.set_cons_succ])
 go_cut [18] (fun v18 wc => ∃ (kq : Nat) (x18_4 : Bool), v18 = .bool x18_4 ∧ Aside0 (spec_PutTlv.j0 kq a1 l2 y180 x18_4 = some r) ∧ Aside0 (kq ≤ k) ∧ Aside0 (Kd.R (Kd.int .u8) 5 wc w.heap.size (fun _ => True) v181 y180) ∧ Aside0 (Below w.heap.size w wc))
 case first =>
  have H := HC5.out
  clear HC5
  replace H := Option.bind_eq_some_iff.mp H
  obtain ⟨t183, A90, H⟩ := H
  replace H : (if t183 = true then (spec_PutTlv.j0 k a1 l2 y180 (decide ((l2.length : Int) > 250))) else (spec_PutTlv.j0 k a1 l2 y180 true)) = some r := H
  have A9 := am A90
  clear A90
  by_cases c10 : t183 = true
  · subst c10
    replace H : (spec_PutTlv.j0 k a1 l2 y180 (decide ((l2.length : Int) > 250))) = some r := by rw [if_pos rfl] at H; exact H
    have H' := am H
    clear H
    go_wp2_with (first | ((with_reducible refine gate_callee (f := 88) rfl ?_); refine goesL_ (some 12) rfl rfl Try.func88 (by kernel_rfl) rfl #[.int .i64 a1, .int .i64 0, .int .i64 255] rfl ga ?_; (with_reducible refine (spec_l1In.calls a1 0 255 true _ A9.out).mono ?_); rintro e w' ⟨rfl, ⟨nd, rfl⟩⟩; refine ⟨_, rfl, ?_⟩))
    go_meet
    case rel => exact ⟨_, (decide ((l2.length : Int) > 250)), sq, H', ⟨by first | omega | exact Nat.le_refl _⟩, ⟨kqR HO182.out⟩, ⟨bq HB.out⟩⟩
  replace c10 := Bool.eq_false_iff.mpr c10
  subst c10
  replace H : (spec_PutTlv.j0 k a1 l2 y180 true) = some r := by rw [if_neg (show ¬ (false = true) by decide)] at H; exact H
  have H' := am H
  clear H
  go_wp2_with (first | ((with_reducible refine gate_callee (f := 88) rfl ?_); refine goesL_ (some 12) rfl rfl Try.func88 (by kernel_rfl) rfl #[.int .i64 a1, .int .i64 0, .int .i64 255] rfl ga ?_; (with_reducible refine (spec_l1In.calls a1 0 255 false _ A9.out).mono ?_); rintro e w' ⟨rfl, ⟨nd, rfl⟩⟩; refine ⟨_, rfl, ?_⟩))
  go_meet
  case rel => exact ⟨_, (true), sq, H', ⟨by first | omega | exact Nat.le_refl _⟩, ⟨kqR HO182.out⟩, ⟨bq HB.out⟩⟩
 case rest =>
  clear HC5
  try clear c1
  try clear c2
  try clear p2
  try clear c4
  try clear c6
  try clear c8
  try clear c10
  obtain ⟨kq, x18_4, rfl, HA, HJ4, HO_7, HB⟩ := hcut
  cases kq with
  | zero => exact absurd HA.out (by simp [spec_PutTlv.j0])
  | succ kj4 =>
   have H := HA.out
   clear HA
   simp only [spec_PutTlv.j0] at H
   by_cases c11 : x18_4 = true
   · subst c11
     replace H : (some y180) = some r := by rw [if_pos rfl] at H; exact H
     obtain rfl := Option.some.inj H
     go_wp2
     go_ret
     exact ⟨_, rq, kqR HO_7.out, bq HB.out⟩
   replace c11 := Bool.eq_false_iff.mpr c11
   subst c11
   replace H : (if y180.length < 140737488355328 then ((some (y180 ++ [(a1) % 256] : List Int)).bind fun y184 => (if (l2.length : Int) > 127 then (if y184.length < 140737488355328 then ((some (y184 ++ [129] : List Int)).bind fun y187 => (if y187.length < 140737488355328 then ((some (y187 ++ [((l2.length : Int)) % 256] : List Int)).bind fun y190 => (if y190.length + l2.length < 140737488355328 then (some (y190 ++ l2)) else (none))) else (none))) else (none)) else (if y184.length < 140737488355328 then ((some (y184 ++ [((l2.length : Int)) % 256] : List Int)).bind fun y196 => (if y196.length + l2.length < 140737488355328 then (some (y196 ++ l2)) else (none))) else (none)))) else (none)) = some r := by rw [if_neg (show ¬ (false = true) by decide)] at H; exact H
   by_cases c12 : y180.length < 140737488355328
   rotate_left
   · rw [if_neg c12] at H
     exact absurd H (by simp)
   rw [if_pos c12] at H
   have LMc12 := am c12
   clear c12
   obtain ⟨y184, hy184⟩ : ∃ y_ : List Int, y_ = (y180 ++ [(a1) % 256]) := ⟨_, rfl⟩
   replace H : (if (l2.length : Int) > 127 then (if y184.length < 140737488355328 then ((some (y184 ++ [129] : List Int)).bind fun y187 => (if y187.length < 140737488355328 then ((some (y187 ++ [((l2.length : Int)) % 256] : List Int)).bind fun y190 => (if y190.length + l2.length < 140737488355328 then (some (y190 ++ l2)) else (none))) else (none))) else (none)) else (if y184.length < 140737488355328 then ((some (y184 ++ [((l2.length : Int)) % 256] : List Int)).bind fun y196 => (if y196.length + l2.length < 140737488355328 then (some (y196 ++ l2)) else (none))) else (none))) = some r := hx H hy184
   have Ny184 := am hy184
   clear hy184
   by_cases c13 : (l2.length : Int) > 127
   rotate_left
   · rw [if_neg c13] at H
     have c13b0 : decide (127 < (l2.length : Int)) = false := decide_eq_false c13
     have c13b1 : decide (127 < l2.length) = false := decide_eq_false (by omega)
     clear c13
     by_cases c21 : y184.length < 140737488355328
     rotate_left
     · rw [if_neg c21] at H
       exact absurd H (by simp)
     rw [if_pos c21] at H
     have LMc21 := am c21
     clear c21
     obtain ⟨y196, hy196⟩ : ∃ y_ : List Int, y_ = (y184 ++ [((l2.length : Int)) % 256]) := ⟨_, rfl⟩
     replace H : (if y196.length + l2.length < 140737488355328 then (some (y196 ++ l2)) else (none)) = some r := hx H hy196
     have Ny196 := am hy196
     clear hy196
     by_cases c22 : y196.length + l2.length < 140737488355328
     rotate_left
     · rw [if_neg c22] at H
       exact absurd H (by simp)
     rw [if_pos c22] at H
     have LMc22 := am c22
     clear c22
     obtain ⟨y199, hy199⟩ : ∃ y_ : List Int, y_ = (y196 ++ l2) := ⟨_, rfl⟩
     replace H : (some y199) = some r := hx H hy199
     have Ny199 := am hy199
     clear hy199
     obtain rfl := Option.some.inj H
     go_wp2_with (first | ((with_reducible refine gate_builtin (b := .append) (xs := #[.tmp 20, .tmp 23]) rfl ?_); (try (refine gate_guard (by rfl) ?_; dsimp only)); at_builtin; refine Kd.R_append (Kd.int .u8) (w0 := w) w.heap.size rfl (.tmp 20) (.tmp 23) 22 5 (.int .u8 0) 1 rfl Try.underlying22 info5 rfl (by decide) (by omega) v181 y180 ((a1) % 256) [.int .u8 ((a1) % 256)] (fun _ => True) (fun _ => False) rfl rfl ?aP (fun _ hk => hk.elim) ?aF ?aO ?aB ?aS ?aL ?_; (case aP => exact rfl); (case aB => exact (bq HB.out)); (case aF => exact (fun _ _ => trivial)); (case aO => exact (kqR HO_7.out)); (case aS => exact (below_size (bq HB.out))); (case aL => have := LMc12.out; omega); intro v185 w23 ho hb hg hat; rw [← Ny184.out] at ho; have n_ := ak2 hb ho; clear HB HO_7; obtain ⟨HB, HO186⟩ := n_; clear ho hb hg hat) | ((with_reducible refine gate_builtin (b := .append) (xs := #[.tmp 31, .tmp 35]) rfl ?_); (try (refine gate_guard (by rfl) ?_; dsimp only)); at_builtin; refine Kd.R_append (Kd.int .u8) (w0 := w) w.heap.size rfl (.tmp 31) (.tmp 35) 22 5 (.int .u8 0) 1 rfl Try.underlying22 info5 rfl (by decide) (by omega) v185 y184 (((l2.length : Int)) % 256) [.int .u8 (((l2.length : Int)) % 256)] (fun _ => True) (fun _ => False) rfl rfl ?aP (fun _ hk => hk.elim) ?aF ?aO ?aB ?aS ?aL ?_; (case aP => exact rfl); (case aB => exact (bq HB.out)); (case aF => exact (fun _ _ => trivial)); (case aO => exact (kqR HO186.out)); (case aS => exact (below_size (bq HB.out))); (case aL => have := LMc21.out; omega); intro v197 w24 ho hb hg hat; rw [← Ny196.out] at ho; have n_ := ak2 hb ho; clear HB HO186; obtain ⟨HB, HO198⟩ := n_; clear ho hb hg hat) | ((with_reducible refine gate_builtin (b := .append) (xs := #[.tmp 36, .tmp 37]) rfl ?_); (try (refine gate_guard (by rfl) ?_; dsimp only)); at_builtin; refine Kd.R_append_rows (Kd.int .u8) (w0 := w) w.heap.size rfl (.tmp 36) (.tmp 37) 22 5 (.int .u8 0) 1 rfl Try.underlying22 info5 rfl (by decide) (by omega) v197 y196 l2 _ _ _ (fun _ => True) (fun _ => False) rfl rfl ?aO ?aR (fun _ _ h => h) (fun _ h => h.elim) ?aF ?aB ?aS ?aL ?_; (case aR => exact cq (Kd.C_below HR2.out HB.out)); (case aB => exact (bq HB.out)); (case aF => exact (fun _ _ => trivial)); (case aO => exact (kqR HO198.out)); (case aS => exact (below_size (bq HB.out))); (case aL => have := LMc22.out; omega); intro v200 w25 ho hb hg hat; rw [← Ny199.out] at ho; have n_ := ak2 hb ho; clear HB HO198; obtain ⟨HB, HO201⟩ := n_; clear ho hb hg hat))
     go_ret
     exact ⟨_, rq, kqR HO201.out, bq HB.out⟩
   rw [if_pos c13] at H
   have c13b0 : decide (127 < (l2.length : Int)) = true := decide_eq_true c13
   have c13b1 : decide (127 < l2.length) = true := decide_eq_true (by omega)
   clear c13
   by_cases c14 : y184.length < 140737488355328
   rotate_left
   · rw [if_neg c14] at H
     exact absurd H (by simp)
   rw [if_pos c14] at H
   have LMc14 := am c14
   clear c14
   obtain ⟨y187, hy187⟩ : ∃ y_ : List Int, y_ = (y184 ++ [129]) := ⟨_, rfl⟩
   replace H : (if y187.length < 140737488355328 then ((some (y187 ++ [((l2.length : Int)) % 256] : List Int)).bind fun y190 => (if y190.length + l2.length < 140737488355328 then (some (y190 ++ l2)) else (none))) else (none)) = some r := hx H hy187
   have Ny187 := am hy187
   clear hy187
   by_cases c15 : y187.length < 140737488355328
   rotate_left
   · rw [if_neg c15] at H
     exact absurd H (by simp)
   rw [if_pos c15] at H
   have LMc15 := am c15
   clear c15
   obtain ⟨y190, hy190⟩ : ∃ y_ : List Int, y_ = (y187 ++ [((l2.length : Int)) % 256]) := ⟨_, rfl⟩
   replace H : (if y190.length + l2.length < 140737488355328 then (some (y190 ++ l2)) else (none)) = some r := hx H hy190
   have Ny190 := am hy190
   clear hy190
   by_cases c16 : y190.length + l2.length < 140737488355328
   rotate_left
   · rw [if_neg c16] at H
     exact absurd H (by simp)
   rw [if_pos c16] at H
   have LMc16 := am c16
   clear c16
   obtain ⟨y193, hy193⟩ : ∃ y_ : List Int, y_ = (y190 ++ l2) := ⟨_, rfl⟩
   replace H : (some y193) = some r := hx H hy193
   have Ny193 := am hy193
   clear hy193
   obtain rfl := Option.some.inj H
   go_wp2_with (first | ((with_reducible refine gate_builtin (b := .append) (xs := #[.tmp 20, .tmp 23]) rfl ?_); (try (refine gate_guard (by rfl) ?_; dsimp only)); at_builtin; refine Kd.R_append (Kd.int .u8) (w0 := w) w.heap.size rfl (.tmp 20) (.tmp 23) 22 5 (.int .u8 0) 1 rfl Try.underlying22 info5 rfl (by decide) (by omega) v181 y180 ((a1) % 256) [.int .u8 ((a1) % 256)] (fun _ => True) (fun _ => False) rfl rfl ?aP (fun _ hk => hk.elim) ?aF ?aO ?aB ?aS ?aL ?_; (case aP => exact rfl); (case aB => exact (bq HB.out)); (case aF => exact (fun _ _ => trivial)); (case aO => exact (kqR HO_7.out)); (case aS => exact (below_size (bq HB.out))); (case aL => have := LMc12.out; omega); intro v185 w17 ho hb hg hat; rw [← Ny184.out] at ho; have n_ := ak2 hb ho; clear HB HO_7; obtain ⟨HB, HO186⟩ := n_; clear ho hb hg hat) | ((with_reducible refine gate_builtin (b := .append) (xs := #[.tmp 28, .tmp 29]) rfl ?_); (try (refine gate_guard (by rfl) ?_; dsimp only)); at_builtin; refine Kd.R_append (Kd.int .u8) (w0 := w) w.heap.size rfl (.tmp 28) (.tmp 29) 22 5 (.int .u8 0) 1 rfl Try.underlying22 info5 rfl (by decide) (by omega) v185 y184 129 [.int .u8 129] (fun _ => True) (fun _ => False) rfl rfl ?aP (fun _ hk => hk.elim) ?aF ?aO ?aB ?aS ?aL ?_; (case aP => exact rfl); (case aB => exact (bq HB.out)); (case aF => exact (fun _ _ => trivial)); (case aO => exact (kqR HO186.out)); (case aS => exact (below_size (bq HB.out))); (case aL => have := LMc14.out; omega); intro v188 w18 ho hb hg hat; rw [← Ny187.out] at ho; have n_ := ak2 hb ho; clear HB HO186; obtain ⟨HB, HO189⟩ := n_; clear ho hb hg hat) | ((with_reducible refine gate_builtin (b := .append) (xs := #[.tmp 31, .tmp 35]) rfl ?_); (try (refine gate_guard (by rfl) ?_; dsimp only)); at_builtin; refine Kd.R_append (Kd.int .u8) (w0 := w) w.heap.size rfl (.tmp 31) (.tmp 35) 22 5 (.int .u8 0) 1 rfl Try.underlying22 info5 rfl (by decide) (by omega) v188 y187 (((l2.length : Int)) % 256) [.int .u8 (((l2.length : Int)) % 256)] (fun _ => True) (fun _ => False) rfl rfl ?aP (fun _ hk => hk.elim) ?aF ?aO ?aB ?aS ?aL ?_; (case aP => exact rfl); (case aB => exact (bq HB.out)); (case aF => exact (fun _ _ => trivial)); (case aO => exact (kqR HO189.out)); (case aS => exact (below_size (bq HB.out))); (case aL => have := LMc15.out; omega); intro v191 w19 ho hb hg hat; rw [← Ny190.out] at ho; have n_ := ak2 hb ho; clear HB HO189; obtain ⟨HB, HO192⟩ := n_; clear ho hb hg hat) | ((with_reducible refine gate_builtin (b := .append) (xs := #[.tmp 36, .tmp 37]) rfl ?_); (try (refine gate_guard (by rfl) ?_; dsimp only)); at_builtin; refine Kd.R_append_rows (Kd.int .u8) (w0 := w) w.heap.size rfl (.tmp 36) (.tmp 37) 22 5 (.int .u8 0) 1 rfl Try.underlying22 info5 rfl (by decide) (by omega) v191 y190 l2 _ _ _ (fun _ => True) (fun _ => False) rfl rfl ?aO ?aR (fun _ _ h => h) (fun _ h => h.elim) ?aF ?aB ?aS ?aL ?_; (case aR => exact cq (Kd.C_below HR2.out HB.out)); (case aB => exact (bq HB.out)); (case aF => exact (fun _ _ => trivial)); (case aO => exact (kqR HO192.out)); (case aS => exact (below_size (bq HB.out))); (case aL => have := LMc16.out; omega); intro v194 w20 ho hb hg hat; rw [← Ny193.out] at ho; have n_ := ak2 hb ho; clear HB HO192; obtain ⟨HB, HO195⟩ := n_; clear ho hb hg hat))
   go_ret
   exact ⟨_, rq, kqR HO195.out, bq HB.out⟩

/-! ### spec_l1Clip: function 109 -/
def spec_l1Clip.f (a0 : Int) : Option (Int) := if a0 > 2147483647 then (some 2147483647) else (if a0 < (-2147483648) then (some (-2147483648)) else (some a0))
set_option maxHeartbeats 8000000 in
set_option maxRecDepth 100000 in
theorem spec_l1Clip.calls (a0 : Int) (r : Int) (w : World) (h : spec_l1Clip.f a0 = some r) :
 Calls Try.prog 109 #[.int .i64 a0] w fun e w' => e = .returned (.int .i64 r) ∧ Drawn0 w w' := by
 have H : (if a0 > 2147483647 then (some 2147483647) else (if a0 < (-2147483648) then (some (-2147483648)) else (some a0))) = some r := h
 clear h
 by_cases c2 : a0 > 2147483647
 · rw [if_pos c2] at H
   have c2b0 : decide (2147483647 < a0) = true := decide_eq_true c2
   clear c2
   obtain rfl := Option.some.inj H
   go_enter Try.func109, Try.ntmps109
   go_wp2
   go_ret
   exact ⟨by first | rfl | (simp; done) | (simp [*]; done), by repeat (first | exact Drawn0.refl _ | apply Drawn0.step)⟩
 rw [if_neg c2] at H
 have c2b0 : decide (2147483647 < a0) = false := decide_eq_false c2
 clear c2
 by_cases c3 : a0 < (-2147483648)
 · rw [if_pos c3] at H
   have c3b0 : decide (a0 < (-2147483648)) = true := decide_eq_true c3
   clear c3
   obtain rfl := Option.some.inj H
   go_enter Try.func109, Try.ntmps109
   go_wp2
   go_ret
   exact ⟨by first | rfl | (simp; done) | (simp [*]; done), by repeat (first | exact Drawn0.refl _ | apply Drawn0.step)⟩
 rw [if_neg c3] at H
 have c3b0 : decide (a0 < (-2147483648)) = false := decide_eq_false c3
 clear c3
 obtain rfl := Option.some.inj H
 go_enter Try.func109, Try.ntmps109
 go_wp2
 go_ret
 exact ⟨by first | rfl | (simp; done) | (simp [*]; done), by repeat (first | exact Drawn0.refl _ | apply Drawn0.step)⟩

/-! ### spec_OidOk: function 110 -/
def spec_OidOk.l0 : Nat → List Int → Int → Option (Bool)
 | 0, _, _ => none
 | k + 1, x0, x3 => if x3 < (x0.length : Int) then (if 0 ≤ x3 then ((spec_l1In.f (rd x0 x3) 0 100000).bind fun t203 => (if t203 = true then (spec_OidOk.l0 k x0 (wrap64 (x3 + 1))) else (some false))) else (none)) else ((spec_l1In.f (x0.length : Int) 1 10).bind fun t204 => (some t204))
def spec_OidOk.f (k : Nat) (l0 : List Int) : Option (Bool) := spec_OidOk.l0 k l0 0
theorem spec_OidOk.mono_l : ∀ k, (∀ y0 y1, LeO (spec_OidOk.l0 k y0 y1) (spec_OidOk.l0 (k + 1) y0 y1))
 | 0 => fun _ _ r h => by simp [spec_OidOk.l0] at h
 | k + 1 => by
  have ih0 := spec_OidOk.mono_l k
  intro y0 y1
  unfold spec_OidOk.l0
  repeat' first
  | (with_reducible exact ih0 _ _)
  | (with_reducible exact LeO.refl _)
  | (with_reducible exact LeO.none _)
  | (with_reducible refine LeO.ite ?_ ?_)
  | (with_reducible refine LeO.bind ?_ (fun _ => ?_))
  | exact ih0 _ _
  | exact LeO.none _
  | refine LeO.ite ?_ ?_
  | refine LeO.bind ?_ (fun _ => ?_)
theorem spec_OidOk.mono : ∀ a0 k, LeO (spec_OidOk.f k a0) (spec_OidOk.f (k + 1) a0) := by
 intro a0 k
 have ih0 := spec_OidOk.mono_l k
 unfold spec_OidOk.f
 repeat' first
  | (with_reducible exact ih0 _ _)
  | (with_reducible exact LeO.refl _)
  | (with_reducible exact LeO.none _)
  | (with_reducible refine LeO.ite ?_ ?_)
  | (with_reducible refine LeO.bind ?_ (fun _ => ?_))
  | exact ih0 _ _
  | exact LeO.none _
  | refine LeO.ite ?_ ?_
  | refine LeO.bind ?_ (fun _ => ?_)
set_option maxHeartbeats 8000000 in
set_option maxRecDepth 100000 in
theorem spec_OidOk.calls (k : Nat) (A0 : Option Addr) (c0 : Nat) (l0 : List Int) (r : Bool) (w : World) (hr0 : Kd.C (Kd.int .i64) w A0 l0.length l0) (hc0 : l0.length ≤ c0) (h : spec_OidOk.f k l0 = some r) :
 Calls Try.prog 110 #[.slice A0 l0.length c0] w fun e w' => e = .returned (.bool r) ∧ Drawn0 w w' := by
 have HR0 := am hr0
 have HC0 := am hc0
 clear hr0 hc0
 have H : (spec_OidOk.l0 k l0 0) = some r := h
 clear h
 have H' := am H
 clear H
 go_enter Try.func110, Try.ntmps110
 go_wp2
 go_loopg [3] k (fun kq v3 w' => ∃ (x3_1 : Int), v3 = .int .i64 x3_1 ∧ Aside0 (spec_OidOk.l0 kq l0 x3_1 = some r) ∧ Aside0 (kq ≤ k) ∧ Drawn0 w w')
 case atStart => exact ⟨(0), sq, H', ⟨Nat.le_refl _⟩, by repeat (first | exact Drawn0.refl _ | apply Drawn0.step)⟩
 case round =>
  clear H'
  try clear c1
  obtain ⟨x3_1, rfl, HA, HK1, ⟨m1, rfl⟩⟩ := hrel
  cases gk with
  | zero => exact absurd HA.out (by simp [spec_OidOk.l0])
  | succ k1 =>
   have H := HA.out
   clear HA
   simp only [spec_OidOk.l0] at H
   by_cases c2 : x3_1 < (l0.length : Int)
   rotate_left
   · rw [if_neg c2] at H
     have c2b0 : decide (x3_1 < (l0.length : Int)) = false := decide_eq_false c2
     clear c2
     replace H := Option.bind_eq_some_iff.mp H
     obtain ⟨t204, A60, H⟩ := H
     replace H : (some t204) = some r := H
     have A6 := am A60
     clear A60
     obtain rfl := Option.some.inj H
     go_wp2_with (first | ((with_reducible refine gate_callee (f := 88) rfl ?_); refine goesL_ (some 18) rfl rfl Try.func88 (by kernel_rfl) rfl #[.int .i64 (l0.length : Int), .int .i64 1, .int .i64 10] rfl ga ?_; (with_reducible refine (spec_l1In.calls (l0.length : Int) 1 10 t204 _ A6.out).mono ?_); rintro e w' ⟨rfl, ⟨nd, rfl⟩⟩; refine ⟨_, rfl, ?_⟩))
     go_ret
     exact ⟨by first | rfl | (simp; done) | (simp [*]; done), by repeat (first | exact Drawn0.refl _ | apply Drawn0.step)⟩
   rw [if_pos c2] at H
   have c2b0 : decide (x3_1 < (l0.length : Int)) = true := decide_eq_true c2
   clear c2
   by_cases c3 : 0 ≤ x3_1
   rotate_left
   · rw [if_neg c3] at H
     exact absurd H (by simp)
   rw [if_pos c3] at H
   have c3b0 : decide (0 ≤ x3_1) = true := decide_eq_true c3
   clear c3
   replace H := Option.bind_eq_some_iff.mp H
   obtain ⟨t203, A40, H⟩ := H
   replace H : (if t203 = true then (spec_OidOk.l0 k1 l0 (wrap64 (x3_1 + 1))) else (some false)) = some r := H
   have A4 := am A40
   clear A40
   by_cases c5 : t203 = true
   rotate_left
   · replace c5 := Bool.eq_false_iff.mpr c5
     subst c5
     replace H : (some false) = some r := by rw [if_neg (show ¬ (false = true) by decide)] at H; exact H
     obtain rfl := Option.some.inj H
     have p202 : 0 ≤ (x3_1 : Int) := oda
     have q202 : x3_1 < (l0.length : Int) := oda
     obtain ⟨ad202, e202, hx202_0⟩ := Kd.at_int HR0.out x3_1 p202 q202
     cases e202
     replace p202 := eq_true p202
     replace q202 := eq_true q202
     go_wp2_with (first | ((with_reducible refine gate_callee (f := 88) rfl ?_); refine goesL_ (some 14) rfl rfl Try.func88 (by kernel_rfl) rfl #[.int .i64 (rd l0 x3_1), .int .i64 0, .int .i64 100000] rfl ga ?_; (with_reducible refine (spec_l1In.calls (rd l0 x3_1) 0 100000 false _ A4.out).mono ?_); rintro e w' ⟨rfl, ⟨nd, rfl⟩⟩; refine ⟨_, rfl, ?_⟩))
     go_ret
     exact ⟨by first | rfl | (simp; done) | (simp [*]; done), by repeat (first | exact Drawn0.refl _ | apply Drawn0.step)⟩
   subst c5
   replace H : (spec_OidOk.l0 k1 l0 (wrap64 (x3_1 + 1))) = some r := by rw [if_pos rfl] at H; exact H
   have H' := am H
   clear H
   have p202 : 0 ≤ (x3_1 : Int) := oda
   have q202 : x3_1 < (l0.length : Int) := oda
   obtain ⟨ad202, e202, hx202_0⟩ := Kd.at_int HR0.out x3_1 p202 q202
   cases e202
   replace p202 := eq_true p202
   replace q202 := eq_true q202
   go_wp2_with (first | ((with_reducible refine gate_callee (f := 88) rfl ?_); refine goesL_ (some 14) rfl rfl Try.func88 (by kernel_rfl) rfl #[.int .i64 (rd l0 x3_1), .int .i64 0, .int .i64 100000] rfl ga ?_; (with_reducible refine (spec_l1In.calls (rd l0 x3_1) 0 100000 true _ A4.out).mono ?_); rintro e w' ⟨rfl, ⟨nd, rfl⟩⟩; refine ⟨_, rfl, ?_⟩))
   go_roundg k1
   case measure => have := HK1.out; omega
   case rel => exact ⟨(wrap64 (x3_1 + 1)), sq, H', ⟨by have := HK1.out; omega⟩, by repeat (first | exact Drawn0.refl _ | apply Drawn0.step)⟩

end Go.Proofs.Ythhnfmbfgplelaa.XFnExactPutMsg
