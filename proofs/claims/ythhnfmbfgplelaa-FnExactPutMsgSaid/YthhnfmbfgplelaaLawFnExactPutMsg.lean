/- The functions that one law reaches, as Lean functions, with their walks: printed by a program of this seat (wip/tools) out of the translation. -/
import Derived.Test.YthhnfmbfgplelaaRows
import Derived.Test.YthhnfmbfgplelaaXFnExactPutMsgx14
import Derived.Test.YthhnfmbfgplelaaPureFnExactPutMsg
import Derived.WalkKit
import Derived.ProofKit
import Derived.OpenShut
import Derived.ShutString
import Derived.ChangeOld
import Derived.Below
import Derived.SizedLaws
import Derived.Deep.Slices
import Derived.ChangeArms
namespace Go.Proofs.Ythhnfmbfgplelaa.fnExactPutMsg
open Go.ChangeShapes Go.WideShapes Go.ChangeAt Go.RowKit
open Go.ChangeMaps (open_string shut_string)
open Go.Proofs.Ythhnfmbfgplelaa.XFnExactPutMsg Go.Proofs.YthhnfmbfgplelaaW.PrintWords Go.Proofs.YthhnfmbfgplelaaW.PrintLast
set_option linter.unusedVariables false
set_option linter.unusedSimpArgs false
theorem own : ownKnob Try.prog.godebug = none := by kernel_rfl
theorem laidOut : laidOutB Try.prog = true := by kernel_rfl
/-- A value of type t that can be read: its cells are of the kind d, and of a value that is right. -/
def Opens {α : Type} (P : Program) (t : TypeId) (d : Kd α) (WF : α → Prop) : Prop :=
  ∀ {H : Type} {enc : TypeId × Value → H} {w : World} {fuel : Nat} {cs : List Value} {x : DataW H × List MemPlace}, DataW.trod enc P w 0 (fun _ => true) true fuel t cs = some x → ∃ a : α, d.K w a cs ∧ WF a
theorem opens_int {P : Program} {t : TypeId} {k : IntKind} (ht : P.underlying t = some (.int k)) : Opens P t (Kd.int k) (fun x => (Lit.int k x).wf = true) := by
  intro H enc w fuel cs x h
  obtain ⟨n, hcs, _, hw⟩ := DataW.trod_int ht h
  exact ⟨n, hcs, hw⟩
theorem opens_bool {P : Program} {t : TypeId} (ht : P.underlying t = some .bool) : Opens P t Kd.bool (fun _ => True) := by
  intro H enc w fuel cs x h
  obtain ⟨b, hcs, _⟩ := DataW.trod_bool ht h
  exact ⟨b, hcs, trivial⟩
theorem opens_string {P : Program} {t : TypeId} (ht : P.underlying t = some .string) : Opens P t Kd.string (fun s => s.size ≤ maxLen) := by
  intro H enc w fuel cs x h
  obtain ⟨s, hcs, _, hs⟩ := DataW.trod_string ht h
  exact ⟨s, hcs, hs⟩
theorem opens_elems {α : Type} {P : Program} {e : TypeId} {d : Kd α} {WF : α → Prop} (h : Opens P e d WF) (hc : P.cellsOf e = d.sz) {H : Type} {enc : TypeId × Value → H} {w : World} {a : Addr} {D : Nat → DataW H} {Pl : Nat → List MemPlace} {n : Nat} :
    ∀ len : Nat, (∀ i, i < len → ∃ cs', w.cells? 0 (a.add (i * P.cellsOf e)) (P.cellsOf e) = some cs' ∧ DataW.trod enc P w 0 (fun _ => true) true n e cs' = some (D i, Pl i)) →
    ∃ xs : List α, xs.length = len ∧ (∀ y ∈ xs, WF y) ∧ ∀ j p, xs[j]? = some p → ∃ c, c.length = d.sz ∧ d.K w p c ∧ ∀ i u, c[i]? = some u → w.cell? (a.add (j * d.sz + i)) = some u
  | 0, _ => ⟨[], rfl, by simp, by simp⟩
  | len + 1, hi => by
    obtain ⟨xs, hl, hw, hx⟩ := opens_elems h hc len (fun i h => hi i (by omega))
    obtain ⟨cs', hcs, ht⟩ := hi len (by omega)
    obtain ⟨b, hK, hWF⟩ := h ht
    refine ⟨xs ++ [b], by simp [hl], fun y hy => ?_, fun j p hj => ?_⟩
    · rcases List.mem_append.1 hy with hy | hy
      · exact hw y hy
      · rw [List.mem_singleton.1 hy]
        exact hWF
    · by_cases hjl : j < xs.length
      · rw [List.getElem?_append_left hjl] at hj
        exact hx j p hj
      · have hj1 := (List.getElem?_eq_some_iff.1 hj).1
        rw [List.length_append, List.length_singleton] at hj1
        obtain rfl : j = len := by omega
        have hp : b = p := by
          rw [List.getElem?_append_right (by omega), hl, Nat.sub_self] at hj
          simpa using hj
        subst hp
        have hlen : cs'.length = d.sz := d.K_len hK
        refine ⟨cs', hlen, hK, fun i u hu => ?_⟩
        obtain ⟨_, hcl, hat⟩ := World.cells?_some hcs
        have hil : i < P.cellsOf e := by
          have := (List.getElem?_eq_some_iff.1 hu).1
          omega
        have h2 := hat i hil
        rw [hc, Go.Deep.add_add] at h2
        rw [h2, hu]
theorem opens_slice {α : Type} {P : Program} {t e : TypeId} {d : Kd α} {WF : α → Prop} (ht : P.underlying t = some (.slice e)) (hc : P.cellsOf e = d.sz) (h : Opens P e d WF) : Opens P t (Kd.slice e d) (fun xs => xs.length ≤ maxLen ∧ ∀ y ∈ xs, WF y) := by
  intro H enc w fuel cs x hx
  rcases Go.Deep.open_slice ht hx with ⟨rfl, _⟩ | ⟨a, len, cap, m, n, D, Pl, rfl, _, hl, hm, hmm, _, hi⟩
  · exact ⟨[], ⟨none, 0, rfl, Nat.le_refl _, ⟨rfl, by simp, fun h => absurd h (by simp)⟩⟩, by simp, by simp⟩
  · simp only [if_true] at hmm
    subst hmm
    obtain ⟨xs, hxl, hw, hxs⟩ := opens_elems h hc len (fun i hil => hi i (by omega))
    subst hxl
    have hm' : m ≤ 9223372036854775807 := hm
    refine ⟨xs, ⟨some a, m, rfl, hl, ⟨rfl, by omega, fun _ => ⟨a, rfl, hxs⟩⟩⟩, ?_, hw⟩
    exact Nat.le_trans hl hm'
theorem cells9 : Try.prog.cellsOf 9 = 1 := by kernel_rfl
theorem cells3 : Try.prog.cellsOf 3 = 1 := by kernel_rfl
theorem cells23 : Try.prog.cellsOf 23 = 1 := by kernel_rfl
theorem cells25 : Try.prog.cellsOf 25 = 4 := by kernel_rfl
theorem cells140 : Try.prog.cellsOf 140 = 5 := by kernel_rfl
theorem cells51 : Try.prog.cellsOf 51 = 1 := by kernel_rfl
theorem cells53 : Try.prog.cellsOf 53 = 5 := by kernel_rfl
theorem len2 {α : Type} : ∀ {l : List α}, l.length = 2 → ∃ c0 c1, l = [c0, c1]
  | [c0, c1], _ => ⟨c0, c1, rfl⟩
theorem len4 {α : Type} : ∀ {l : List α}, l.length = 4 → ∃ c0 c1 c2 c3, l = [c0, c1, c2, c3]
  | [c0, c1, c2, c3], _ => ⟨c0, c1, c2, c3, rfl⟩
theorem len5 {α : Type} : ∀ {l : List α}, l.length = 5 → ∃ c0 c1 c2 c3 c4, l = [c0, c1, c2, c3, c4]
  | [c0, c1, c2, c3, c4], _ => ⟨c0, c1, c2, c3, c4, rfl⟩
theorem opn9 : Opens Try.prog 9 Kd.string (fun x => x.size ≤ maxLen) := opens_string Try.underlying9
theorem opn3 : Opens Try.prog 3 (Kd.int .i64) (fun x => (Lit.int .i64 x).wf = true) := opens_int Try.underlying3
theorem opn23 : Opens Try.prog 23 (Kd.slice 3 (Kd.int .i64)) (fun xs => xs.length ≤ maxLen ∧ ∀ y ∈ xs, (fun x => (Lit.int .i64 x).wf = true) y) := opens_slice Try.underlying23 (by rw [cells3]; rfl) opn3
theorem opn25 : Opens Try.prog 25 k25 wfS25 := by
  intro H enc w fuel cs x h
  obtain ⟨xs, n, _, _, hl, hlen, hg⟩ := DataW.trod_struct Try.underlying25 h
  rw [cells25] at hl
  obtain ⟨c0, c1, c2, c3, rfl⟩ := len4 hl
  obtain ⟨y0, y1, y2, y3, rfl⟩ := len4 hlen
  have g0 : DataW.trod enc Try.prog w 0 (fun _ => true) true n 3 [c0] = some y0 := by
    have h0 : DataW.trod enc Try.prog w 0 (fun _ => true) true n 3 (List.take (Try.prog.cellsOf 3) (List.drop 0 [c0, c1, c2, c3])) = some y0 := hg 0 _ rfl
    rw [cells3] at h0
    exact h0
  obtain ⟨a0, k0, w0⟩ := opn3 g0
  have g1 : DataW.trod enc Try.prog w 0 (fun _ => true) true n 3 [c1] = some y1 := by
    have h0 : DataW.trod enc Try.prog w 0 (fun _ => true) true n 3 (List.take (Try.prog.cellsOf 3) (List.drop 1 [c0, c1, c2, c3])) = some y1 := hg 1 _ rfl
    rw [cells3] at h0
    exact h0
  obtain ⟨a1, k1, w1⟩ := opn3 g1
  have g2 : DataW.trod enc Try.prog w 0 (fun _ => true) true n 9 [c2] = some y2 := by
    have h0 : DataW.trod enc Try.prog w 0 (fun _ => true) true n 9 (List.take (Try.prog.cellsOf 9) (List.drop 2 [c0, c1, c2, c3])) = some y2 := hg 2 _ rfl
    rw [cells9] at h0
    exact h0
  obtain ⟨a2, k2, w2⟩ := opn9 g2
  have g3 : DataW.trod enc Try.prog w 0 (fun _ => true) true n 23 [c3] = some y3 := by
    have h0 : DataW.trod enc Try.prog w 0 (fun _ => true) true n 23 (List.take (Try.prog.cellsOf 23) (List.drop 3 [c0, c1, c2, c3])) = some y3 := hg 3 _ rfl
    rw [cells23] at h0
    exact h0
  obtain ⟨a3, k3, w3⟩ := opn23 g3
  refine ⟨⟨a0, a1, a2, a3⟩, ⟨[c0], [c1, c2, c3], rfl, k0, ⟨[c1], [c2, c3], rfl, k1, ⟨[c2], [c3], rfl, k2, k3⟩⟩⟩, ?_⟩
  exact ⟨w0, w1, w2, w3.1, w3.2⟩
theorem opn140 : Opens Try.prog 140 k140 wfS140 := by
  intro H enc w fuel cs x h
  obtain ⟨xs, n, _, _, hl, hlen, hg⟩ := DataW.trod_struct Try.underlying140 h
  rw [cells140] at hl
  obtain ⟨c0, c1, c2, c3, c4, rfl⟩ := len5 hl
  obtain ⟨y0, y1, rfl⟩ := len2 hlen
  have g0 : DataW.trod enc Try.prog w 0 (fun _ => true) true n 23 [c0] = some y0 := by
    have h0 : DataW.trod enc Try.prog w 0 (fun _ => true) true n 23 (List.take (Try.prog.cellsOf 23) (List.drop 0 [c0, c1, c2, c3, c4])) = some y0 := hg 0 _ rfl
    rw [cells23] at h0
    exact h0
  obtain ⟨a0, k0, w0⟩ := opn23 g0
  have g1 : DataW.trod enc Try.prog w 0 (fun _ => true) true n 25 [c1, c2, c3, c4] = some y1 := by
    have h0 : DataW.trod enc Try.prog w 0 (fun _ => true) true n 25 (List.take (Try.prog.cellsOf 25) (List.drop 1 [c0, c1, c2, c3, c4])) = some y1 := hg 1 _ rfl
    rw [cells25] at h0
    exact h0
  obtain ⟨a1, k1, w1⟩ := opn25 g1
  refine ⟨⟨a0, a1⟩, ⟨[c0], [c1, c2, c3, c4], rfl, k0, k1⟩, ?_⟩
  exact ⟨w0.1, w0.2, w1⟩
theorem opn51 : Opens Try.prog 51 (Kd.slice 140 k140) (fun xs => xs.length ≤ maxLen ∧ ∀ y ∈ xs, wfS140 y) := opens_slice Try.underlying51 (by rw [cells140]; rfl) opn140
theorem opn53 : Opens Try.prog 53 k53 wfS53 := by
  intro H enc w fuel cs x h
  obtain ⟨xs, n, _, _, hl, hlen, hg⟩ := DataW.trod_struct Try.underlying53 h
  rw [cells53] at hl
  obtain ⟨c0, c1, c2, c3, c4, rfl⟩ := len5 hl
  obtain ⟨y0, y1, y2, y3, y4, rfl⟩ := len5 hlen
  have g0 : DataW.trod enc Try.prog w 0 (fun _ => true) true n 3 [c0] = some y0 := by
    have h0 : DataW.trod enc Try.prog w 0 (fun _ => true) true n 3 (List.take (Try.prog.cellsOf 3) (List.drop 0 [c0, c1, c2, c3, c4])) = some y0 := hg 0 _ rfl
    rw [cells3] at h0
    exact h0
  obtain ⟨a0, k0, w0⟩ := opn3 g0
  have g1 : DataW.trod enc Try.prog w 0 (fun _ => true) true n 3 [c1] = some y1 := by
    have h0 : DataW.trod enc Try.prog w 0 (fun _ => true) true n 3 (List.take (Try.prog.cellsOf 3) (List.drop 1 [c0, c1, c2, c3, c4])) = some y1 := hg 1 _ rfl
    rw [cells3] at h0
    exact h0
  obtain ⟨a1, k1, w1⟩ := opn3 g1
  have g2 : DataW.trod enc Try.prog w 0 (fun _ => true) true n 3 [c2] = some y2 := by
    have h0 : DataW.trod enc Try.prog w 0 (fun _ => true) true n 3 (List.take (Try.prog.cellsOf 3) (List.drop 2 [c0, c1, c2, c3, c4])) = some y2 := hg 2 _ rfl
    rw [cells3] at h0
    exact h0
  obtain ⟨a2, k2, w2⟩ := opn3 g2
  have g3 : DataW.trod enc Try.prog w 0 (fun _ => true) true n 3 [c3] = some y3 := by
    have h0 : DataW.trod enc Try.prog w 0 (fun _ => true) true n 3 (List.take (Try.prog.cellsOf 3) (List.drop 3 [c0, c1, c2, c3, c4])) = some y3 := hg 3 _ rfl
    rw [cells3] at h0
    exact h0
  obtain ⟨a3, k3, w3⟩ := opn3 g3
  have g4 : DataW.trod enc Try.prog w 0 (fun _ => true) true n 51 [c4] = some y4 := by
    have h0 : DataW.trod enc Try.prog w 0 (fun _ => true) true n 51 (List.take (Try.prog.cellsOf 51) (List.drop 4 [c0, c1, c2, c3, c4])) = some y4 := hg 4 _ rfl
    rw [cells51] at h0
    exact h0
  obtain ⟨a4, k4, w4⟩ := opn51 g4
  refine ⟨⟨a0, a1, a2, a3, a4⟩, ⟨[c0], [c1, c2, c3, c4], rfl, k0, ⟨[c1], [c2, c3, c4], rfl, k1, ⟨[c2], [c3, c4], rfl, k2, ⟨[c3], [c4], rfl, k3, k4⟩⟩⟩⟩, ?_⟩
  exact ⟨w0, w1, w2, w3, w4.1, w4.2⟩
set_option maxRecDepth 100000 in
theorem lifted (os : Os) (started : os.Started) (H : Type) (enc : TypeId × Value → H) :
    ReturnsInHanded {} Try.checked os 8 .any (Rows.fnExactPutMsgSpec.pre6 enc Try.prog Try.f8 Rows.fnExactPutMsgRow.domain false) (Rows.fnExactPutMsgSpec.post enc Try.prog Try.f8 false true false false) := by
  refine returnsInHanded_of_change_sized (C := Try.checked) own started (by kernel_rfl) Try.func8
    (ChangeSpec.witness6 (enc := enc) (C := Try.checked) false ⟨#[], #[.string ByteArray.empty, .agg #[.int .i64 0, .int .i64 0, .int .i64 0, .int .i64 0, .slice none 0 0]], []⟩ 8 (by kernel_rfl) (by kernel_rfl) (by kernel_rfl) (by kernel_rfl)) ?_
  intro W base args ds gs before hval0 hW hcnd _ _
  have hval : ∀ (j : Nat) t v, Try.f8.params[j]? = some t → args[j]? = some v → Value.okWide Try.prog W .any base t v := hval0
  have hW' := hW
  obtain ⟨p, q, hA0, hV, rfl, hfz, hnd⟩ := hW
  have hA : DataW.TrodAll enc Try.prog W 0 (fun _ => true) true Try.f8.params.toList args.toList ds p := hA0
  rw [Try.params8] at hA hval
  obtain ⟨v0, vs0, d0, ds0, p0, q0, hargs, rfl, rfl, h0, r0⟩ := trodAll_cons hA
  obtain ⟨v1, vs1, d1, ds1, p1, q1, rfl, rfl, rfl, h1, r1⟩ := trodAll_cons r0
  obtain ⟨rfl, rfl, rfl⟩ := trodAll_nil r1
  obtain rfl : args = #[v0, v1] := by cases args; simp_all
  obtain ⟨rfl, rfl⟩ := trodVars_none hV
  have k0 := h0
  have lt0 : ∀ x ∈ p0, x.block < W.heap.size := by obtain ⟨m, hm⟩ := k0; exact DataW.trod_lt m _ _ _ hm
  obtain ⟨fuel0, hf0⟩ := h0
  obtain ⟨x0, hx0, wx0⟩ := opn9 hf0
  obtain ⟨b0, rfl⟩ := okWide_string Try.underlying9 (hval 0 9 v0 rfl rfl)
  have hcs0 : ([.string b0] : List Value) = [.string x0] := hx0
  obtain rfl : b0 = x0 := by simpa using hcs0
  have k1 := h1
  have lt1 : ∀ x ∈ p1, x.block < W.heap.size := by obtain ⟨m, hm⟩ := k1; exact DataW.trod_lt m _ _ _ hm
  obtain ⟨fuel1, hf1⟩ := h1
  obtain ⟨x1, hx1, wx1⟩ := opn53 hf1
  obtain ⟨cs1, rfl, hn1⟩ := okWide_struct Try.underlying53 (hval 1 53 v1 rfl rfl)
  obtain ⟨A1_4, c1_4, hcs1, hl1_4, hr1_4⟩ := k53_open hx1
  have e1 : cs1 = #[.int .i64 x1.f0, .int .i64 x1.f1, .int .i64 x1.f2, .int .i64 x1.f3, .slice A1_4 x1.f4.length c1_4] := by
    cases cs1
    simp only [Value.cells] at hcs1
    rw [hcs1]
  subst e1
  clear hA0 hval0
  obtain ⟨k, hp⟩ := Pure.FnExactPutMsg b0 x1.f0 x1.f1 x1.f2 x1.f3 x1.f4 wx0 wx1.1 wx1.2.1 wx1.2.2.1 wx1.2.2.2.1 wx1.2.2.2.2.1 wx1.2.2.2.2.2
  refine (laws_FnExactPutMsg.calls k b0 x1.f0 x1.f1 x1.f2 x1.f3 _ _ x1.f4 true W hr1_4 hl1_4 rfl hp).mono fun e W' ⟨he, hd⟩ => ?_
  have bel := hd
  subst he
  exact ⟨_, rfl, _, _, _, [], _, [], hW', trodAll_mk1 (shut_bool Try.underlying4 _), (trodAll_cons_mk (Below.trod laidOut (by kernel_rfl) (of_decide_eq_true (by kernel_rfl)) k0 bel lt0) (trodAll_cons_mk (Below.trod laidOut (by kernel_rfl) (of_decide_eq_true (by kernel_rfl)) k1 bel lt1) trodAll_mk0)), rfl, bel.frame _, fun h => by cases h⟩
theorem over : Rows.fnExactPutMsgRow.holds Try.pinned (OpenSpec.ofChange Rows.fnExactPutMsgSpec) :=
  OpenClaim.holds_of_wide 8 Try.f8 rfl rfl rfl rfl rfl rfl rfl ⟨rfl, rfl, rfl, rfl, rfl⟩ rfl rfl rfl rfl rfl (by kernel_rfl) Try.func8 (by kernel_rfl)
    (of_decide_eq_true (by kernel_rfl)) (by unfold Func.isWrapper; first | (rw [if_pos (by decide +kernel)]; kernel_rfl) | (rw [if_neg (by decide +kernel)]; exact ⟨rfl, rfl⟩))
    (fun os started H enc _ => lifted os started H enc)
theorem proved : Rows.FnExactPutMsgSaid := over
#print axioms proved
end Go.Proofs.Ythhnfmbfgplelaa.fnExactPutMsg
namespace Go.Proofs.Ythhnfmbfgplelaa
/-- The row, under a short name, for the claim. -/
theorem fnExactPutMsg_holds : Rows.FnExactPutMsgSaid := fnExactPutMsg.proved
end Go.Proofs.Ythhnfmbfgplelaa
