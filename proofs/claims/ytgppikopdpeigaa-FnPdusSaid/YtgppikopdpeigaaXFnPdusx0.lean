/- The functions that one law reaches, as Lean functions, with their walks: printed by a program of this seat (wip/tools) out of the translation. -/
import Derived.Test.YtgppikopdpeigaaProg
import Derived.Below
import Derived.Deep.Draws
import Derived.Deep.AppendLies
import Derived.Maps.AppendAt
import Derived.OwnWalk
import Derived.Laws.BytesArg
import Derived.Laws.MakeOwn
import Derived.Laws.OwnMore
import Derived.Deep.OwnRows
import Derived.Tactics
import Derived.Lib.ConvBytes
import Derived.Laws.Slices
import Derived.WalkKit
import Derived.KernelRfl
import Derived.RowKit3
import Derived.Deep.LoopGhost
import Derived.Deep.QuietTactic
import Derived.BigQuiet
import Derived.WideLaws
import Derived.Deep.DeepCutAuto
import Derived.Deep.CutBlock
import Derived.Deep.RegionHeld3
import Derived.Laws.Rows
import Derived.Lib.AppendStr
import Derived.ArgAppend
import Derived.Laws.IdiomCopy
import Derived.OrdersHeld
import Derived.Laws.BitsLemmas
import Derived.RowKit
import Derived.Test.YtgppikopdpeigaaVFnPdusa
namespace Go.Proofs.Ytgppikopdpeigaa.XFnPdus
open Go.RowKit Go.Proofs.YtgppikopdpeigaaW.PrintWords Go.Proofs.YtgppikopdpeigaaW.PrintLast Go.Proofs.YtgppikopdpeigaaW.PrintMore
attribute [local go_sem] cO cP dH dI cC cD cQ cR
set_option linter.unusedVariables false
set_option linter.unusedSimpArgs false
def errW:Option Int→Value
  |none=>.nilIface
  |some c=>.iface 0 (.int .i64 c)
theorem bI:errW none=.nilIface:=rfl
theorem bJ (c:Int):errW (some c)=.iface 0 (.int .i64 c):=rfl
theorem jM:(Try.prog.info? 3).map (fun i=>(i.zero,i.size,i.bytes))=some (some (.int .i64 0),1,8):=by kernel_rfl
theorem eH:(Try.prog.info? 5).map (fun i=>(i.zero,i.size,i.bytes))=some (some (.int .u8 0),1,1):=by kernel_rfl
theorem info9:(Try.prog.info? 9).map (fun i=>(i.zero,i.size,i.bytes))=some (some (.string ⟨#[]⟩),1,16):=by kernel_rfl
theorem gQ:(Try.prog.info? 45).map (fun i=>(i.zero,i.size,i.bytes))=some (some (.agg #[(.slice none 0 0),(.int .i64 0),(.int .i64 0),(.string ⟨#[]⟩),(.slice none 0 0)]),5,80):=by kernel_rfl
theorem am {p:Prop} (h:p):Aside0 p:=Aside0.mk h
theorem be {α β:Type} {x:Option α} {f:α→Option β} {b:β} (h:x.bind f=some b):∃a,Aside0 (x=some a)∧f a=some b:=by
  obtain ⟨a,h1,h2⟩:=Option.bind_eq_some_iff.mp h
  exact ⟨a,am h1,h2⟩
theorem bs {α β:Type} {e:α} {f:α→Option β} {b:Option β} (h:(some e).bind f=b):∃y,Aside0 (y=e)∧f y=b:=⟨e,am rfl,h⟩
theorem iT {α:Type} {a b r:α} {d:Decidable (true=true)} (h:@ite α (true=true) d a b=r):a=r:=(if_pos rfl).symm.trans h
theorem iF {α:Type} {a b r:α} {d:Decidable (false=true)} (h:@ite α (false=true) d a b=r):b=r:=(if_neg Bool.false_ne_true).symm.trans h
theorem iq {α β:Type} [BEq β] [LawfulBEq β] {a b:β} {x y r:α} {d:Decidable (a=b)} (h:@ite α (a=b) d x y=r):(a=b∧(a==b)=true∧(a !=b)=false∧x=r)∨(¬a=b∧(a==b)=false∧(a !=b)=true∧y=r):=by
  by_cases c:a=b
  · exact .inl ⟨c,beq_iff_eq.mpr c,bne_eq_false_iff_eq.mpr c,(if_pos c).symm.trans h⟩
  · exact .inr ⟨c,beq_eq_false_iff_ne.mpr c,bne_iff_ne.mpr c,(if_neg c).symm.trans h⟩
theorem il {α:Type} {p:Prop} {x y r:α} {d:Decidable p} (h:@ite α p d x y=r):(p∧decide p=true∧x=r)∨(¬p∧decide p=false∧y=r):=by
  by_cases c:p
  · exact .inl ⟨c,k8 c,(if_pos c).symm.trans h⟩
  · exact .inr ⟨c,decide_eq_false c,(if_neg c).symm.trans h⟩
theorem ig {α:Type} {a b:Int} {x y r:α} {d:Decidable (a>b)} (h:@ite α (a>b) d x y=r):(a>b∧decide (b<a)=true∧x=r)∨(¬a>b∧decide (b<a)=false∧y=r):=by
  by_cases c:a>b
  · exact .inl ⟨c,k8 c,(if_pos c).symm.trans h⟩
  · exact .inr ⟨c,decide_eq_false c,(if_neg c).symm.trans h⟩
theorem ip {α:Type} {p:Prop} {x y r:α} {d:Decidable p} (h:@ite α p d x y=r):(p∧x=r)∨(¬p∧y=r):=by
  by_cases c:p
  · exact .inl ⟨c,(if_pos c).symm.trans h⟩
  · exact .inr ⟨c,(if_neg c).symm.trans h⟩
theorem iq' {α β:Type} [BEq β] [LawfulBEq β] {a b:β} {x y r:α} {d:Decidable (a=b)} (h:@ite α (a=b) d x y=r):(¬a=b∧(a==b)=false∧(a !=b)=true∧y=r)∨(a=b∧(a==b)=true∧(a !=b)=false∧x=r):=(iq h).symm
theorem il' {α:Type} {p:Prop} {x y r:α} {d:Decidable p} (h:@ite α p d x y=r):(¬p∧decide p=false∧y=r)∨(p∧decide p=true∧x=r):=(il h).symm
theorem ig' {α:Type} {a b:Int} {x y r:α} {d:Decidable (a>b)} (h:@ite α (a>b) d x y=r):(¬a>b∧decide (b<a)=false∧y=r)∨(a>b∧decide (b<a)=true∧x=r):=(ig h).symm
theorem ip' {α:Type} {p:Prop} {x y r:α} {d:Decidable p} (h:@ite α p d x y=r):(¬p∧y=r)∨(p∧x=r):=(ip h).symm
theorem bt (t:Bool):t=true∨t=false:=by cases t<;>simp
theorem nl {α:Type} {p:Prop} {x:Option α} {r:α} {d:Decidable p} (h:@ite (Option α) p d x none=some r):p∧decide p=true∧x=some r:=by
  by_cases c:p
  · exact ⟨c,k8 c,(if_pos c).symm.trans h⟩
  · exact absurd ((if_neg c).symm.trans h) (by simp)
theorem nq {α:Type} {p:Prop} {x:Option α} {r:α} {d:Decidable p} (h:@ite (Option α) p d x none=some r):p∧x=some r:=⟨(nl h).1,(nl h).2.2⟩
theorem oda {p:Prop} [Decidable p] (h:decide p=true:=by first|(with_reducible assumption)|assumption):p:=of_decide_eq_true h
theorem bq {a b:Prop} (h:a) (g:a→b:=by intro h_;repeat (first|(with_reducible first|exact h_|apply dB|apply dL|apply bB)|exact h_)):b:=g h
theorem kqR {a b:Prop} (h:a) (g:a→b:=by intro h_;(with_reducible repeat (first|apply Kd.R_alloc|apply Kd.R_drewN|apply Kd.R_drew));exact h_):b:=g h
theorem kqS {a b:Prop} (h:a) (g:a→b:=by intro h_;(with_reducible repeat (first|apply Kd.S_alloc|apply Kd.S_drewN|apply Kd.S_drew));exact h_):b:=g h
theorem cq {a b:Prop} (h:a) (g:a→b:=by intro h_;repeat (first|exact h_|(with_reducible refine Kd.C_alloc ?_ _)|(with_reducible refine Kd.C_drewN ?_ _)|(with_reducible refine Kd.C_drew ?_))):b:=g h
theorem zq {a b:Prop} (h:a) (g:a→b:=by intro h_;(with_reducible repeat (first|refine d8 ?_ _|refine a7 ?_|refine b8 ?_ _));exact h_):b:=g h
theorem bq1 {a b:Prop} {c0:Prop} (h:a) (h0:c0) (g:a→c0→b:=by intro h_ A0;repeat (first|(with_reducible first|exact h_|apply dB|apply dL|apply bB|refine dZ ?_ A0)|exact h_)):b:=g h h0
theorem bq2 {a b:Prop} {c0:Prop} {c1:Prop} (h:a) (h0:c0) (h1:c1) (g:a→c0→c1→b:=by intro h_ A0 A1;repeat (first|(with_reducible first|exact h_|apply dB|apply dL|apply bB|refine dZ ?_ A0|refine dZ ?_ A1)|exact h_)):b:=g h h0 h1
theorem bq3 {a b:Prop} {c0:Prop} {c1:Prop} {c2:Prop} (h:a) (h0:c0) (h1:c1) (h2:c2) (g:a→c0→c1→c2→b:=by intro h_ A0 A1 A2;repeat (first|(with_reducible first|exact h_|apply dB|apply dL|apply bB|refine dZ ?_ A0|refine dZ ?_ A1|refine dZ ?_ A2)|exact h_)):b:=g h h0 h1 h2
theorem bq4 {a b:Prop} {c0:Prop} {c1:Prop} {c2:Prop} {c3:Prop} (h:a) (h0:c0) (h1:c1) (h2:c2) (h3:c3) (g:a→c0→c1→c2→c3→b:=by intro h_ A0 A1 A2 A3;repeat (first|(with_reducible first|exact h_|apply dB|apply dL|apply bB|refine dZ ?_ A0|refine dZ ?_ A1|refine dZ ?_ A2|refine dZ ?_ A3)|exact h_)):b:=g h h0 h1 h2 h3
theorem bq5 {a b:Prop} {c0:Prop} {c1:Prop} {c2:Prop} {c3:Prop} {c4:Prop} (h:a) (h0:c0) (h1:c1) (h2:c2) (h3:c3) (h4:c4) (g:a→c0→c1→c2→c3→c4→b:=by intro h_ A0 A1 A2 A3 A4;repeat (first|(with_reducible first|exact h_|apply dB|apply dL|apply bB|refine dZ ?_ A0|refine dZ ?_ A1|refine dZ ?_ A2|refine dZ ?_ A3|refine dZ ?_ A4)|exact h_)):b:=g h h0 h1 h2 h3 h4
theorem kp0 {a b:Prop} (h:a) (g:a→b:=by intro h_;repeat (first|(with_reducible first|exact h_|apply KeepBut.set_|apply gO|apply d9|apply gP)|exact h_)):b:=g h
theorem kp1 {a b:Prop} {c0:Prop} (h:a) (h0:c0) (g:a→c0→b:=by intro h_ A0;repeat (first|(with_reducible first|exact h_|apply KeepBut.set_|apply gO|apply d9|apply gP|refine hJ ?_ A0 _)|exact h_)):b:=g h h0
theorem kp2 {a b:Prop} {c0:Prop} {c1:Prop} (h:a) (h0:c0) (h1:c1) (g:a→c0→c1→b:=by intro h_ A0 A1;repeat (first|(with_reducible first|exact h_|apply KeepBut.set_|apply gO|apply d9|apply gP|refine hJ ?_ A0 _|refine hJ ?_ A1 _)|exact h_)):b:=g h h0 h1
theorem ak2 {p0 p1:Prop} (h0:p0) (h1:p1):Aside0 p0∧Aside0 p1:=⟨am h0,am h1⟩
theorem ak3 {p0 p1 p2:Prop} (h0:p0) (h1:p1) (h2:p2):Aside0 p0∧Aside0 p1∧Aside0 p2:=⟨am h0,am h1,am h2⟩
theorem ak4 {p0 p1 p2 p3:Prop} (h0:p0) (h1:p1) (h2:p2) (h3:p3):Aside0 p0∧Aside0 p1∧Aside0 p2∧Aside0 p3:=⟨am h0,am h1,am h2,am h3⟩
theorem ak5 {p0 p1 p2 p3 p4:Prop} (h0:p0) (h1:p1) (h2:p2) (h3:p3) (h4:p4):Aside0 p0∧Aside0 p1∧Aside0 p2∧Aside0 p3∧Aside0 p4:=⟨am h0,am h1,am h2,am h3,am h4⟩
theorem ak6 {p0 p1 p2 p3 p4 p5:Prop} (h0:p0) (h1:p1) (h2:p2) (h3:p3) (h4:p4) (h5:p5):Aside0 p0∧Aside0 p1∧Aside0 p2∧Aside0 p3∧Aside0 p4∧Aside0 p5:=⟨am h0,am h1,am h2,am h3,am h4,am h5⟩
theorem ak7 {p0 p1 p2 p3 p4 p5 p6:Prop} (h0:p0) (h1:p1) (h2:p2) (h3:p3) (h4:p4) (h5:p5) (h6:p6):Aside0 p0∧Aside0 p1∧Aside0 p2∧Aside0 p3∧Aside0 p4∧Aside0 p5∧Aside0 p6:=⟨am h0,am h1,am h2,am h3,am h4,am h5,am h6⟩
theorem ak8 {p0 p1 p2 p3 p4 p5 p6 p7:Prop} (h0:p0) (h1:p1) (h2:p2) (h3:p3) (h4:p4) (h5:p5) (h6:p6) (h7:p7):Aside0 p0∧Aside0 p1∧Aside0 p2∧Aside0 p3∧Aside0 p4∧Aside0 p5∧Aside0 p6∧Aside0 p7:=⟨am h0,am h1,am h2,am h3,am h4,am h5,am h6,am h7⟩
theorem ak9 {p0 p1 p2 p3 p4 p5 p6 p7 p8:Prop} (h0:p0) (h1:p1) (h2:p2) (h3:p3) (h4:p4) (h5:p5) (h6:p6) (h7:p7) (h8:p8):Aside0 p0∧Aside0 p1∧Aside0 p2∧Aside0 p3∧Aside0 p4∧Aside0 p5∧Aside0 p6∧Aside0 p7∧Aside0 p8:=⟨am h0,am h1,am h2,am h3,am h4,am h5,am h6,am h7,am h8⟩
theorem jG {p0 p1 p2 p3 p4 p5 p6 p7 p8 p9:Prop} (h0:p0) (h1:p1) (h2:p2) (h3:p3) (h4:p4) (h5:p5) (h6:p6) (h7:p7) (h8:p8) (h9:p9):Aside0 p0∧Aside0 p1∧Aside0 p2∧Aside0 p3∧Aside0 p4∧Aside0 p5∧Aside0 p6∧Aside0 p7∧Aside0 p8∧Aside0 p9:=⟨am h0,am h1,am h2,am h3,am h4,am h5,am h6,am h7,am h8,am h9⟩
theorem iU {p0 p1 p2 p3 p4 p5 p6 p7 p8 p9 A0:Prop} (h0:p0) (h1:p1) (h2:p2) (h3:p3) (h4:p4) (h5:p5) (h6:p6) (h7:p7) (h8:p8) (h9:p9) (A1:A0):Aside0 p0∧Aside0 p1∧Aside0 p2∧Aside0 p3∧Aside0 p4∧Aside0 p5∧Aside0 p6∧Aside0 p7∧Aside0 p8∧Aside0 p9∧Aside0 A0:=⟨am h0,am h1,am h2,am h3,am h4,am h5,am h6,am h7,am h8,am h9,am A1⟩
theorem gA {p0 p1 p2 p3 p4 p5 p6 p7 p8 p9 A0 A1:Prop} (h0:p0) (h1:p1) (h2:p2) (h3:p3) (h4:p4) (h5:p5) (h6:p6) (h7:p7) (h8:p8) (h9:p9) (A2:A0) (A3:A1):Aside0 p0∧Aside0 p1∧Aside0 p2∧Aside0 p3∧Aside0 p4∧Aside0 p5∧Aside0 p6∧Aside0 p7∧Aside0 p8∧Aside0 p9∧Aside0 A0∧Aside0 A1:=⟨am h0,am h1,am h2,am h3,am h4,am h5,am h6,am h7,am h8,am h9,am A2,am A3⟩
theorem jX {p0 p1 p2 p3 p4 p5 p6 p7 p8 p9 A0 A1 A2:Prop} (h0:p0) (h1:p1) (h2:p2) (h3:p3) (h4:p4) (h5:p5) (h6:p6) (h7:p7) (h8:p8) (h9:p9) (A3:A0) (A4:A1) (A5:A2):Aside0 p0∧Aside0 p1∧Aside0 p2∧Aside0 p3∧Aside0 p4∧Aside0 p5∧Aside0 p6∧Aside0 p7∧Aside0 p8∧Aside0 p9∧Aside0 A0∧Aside0 A1∧Aside0 A2:=⟨am h0,am h1,am h2,am h3,am h4,am h5,am h6,am h7,am h8,am h9,am A3,am A4,am A5⟩
theorem jH {w:World} {k:IntKind} {A:Option Addr} {n:Nat} {xs:List Int} (h:d7 w k A n xs):Kd.C (Kd.int k) w A n xs:=by
  refine ⟨h.1,h.2.1,fun hp=>?_⟩
  obtain ⟨ad,e,hc⟩:=h.2.2 hp
  refine ⟨ad,e,fun j p hj=>⟨[.int k p],rfl,rfl,fun i u hu=>?_⟩⟩
  have hj':j<n:=by rw [← h.1];exact (List.getElem?_eq_some_iff.1 hj).1
  have h2:=hc j hj'
  rw [List.getD_eq_getElem?_getD,hj] at h2
  cases i with
  |zero=>
    injection hu with hu
    subst hu
    show w.cell? (ad.add (j*1+0))=_
    rw [Nat.mul_one,Nat.add_zero]
    exact h2
  |succ i=>simp at hu
theorem iA {P:Program} {ops:Array Oper} {rest:List Oper} {o:Oper} {a:Act} {Q:Exit→Act→World→Prop} {W:World} (hgd:o.guard=none) {N:Tmp} (_hd:o.dst=some N) (src dst e:TypeId) {x:Operand} (hop:o.op=.convert src dst x) {s:ByteArray} {y:List Int} (hy:y=fN s) (hx:a.eval x=.string s) {u:TypeDesc} (hs:P.underlying src=some u) (hd:P.underlying dst=some (.slice e)) (he:P.underlying e=some (.int .u8)) (hsz:s.size≤9223372036854775807)
    (h:∀A c w1,Kd.C (Kd.int .u8) w1 A y.length y→y.length≤c→Below W.heap.size W w1→wpList P ops Q rest (a.put o.dst (.slice A y.length c)) w1):wpList P ops Q (o::rest) a W:=by
  have hl:y.length=s.size:=by rw [hy,gD]
  refine Kd.event_run hgd (v:=.slice (some ⟨W.heap.size,0,none⟩) s.size (grownCap W s.size 0 e)) (w1:=Lib.bytesWorld W e s) ?_ ?_
  · unfold execOp
    simp [hop,hx,iV src dst e hs hd he s W]
  · have h2:=h (some ⟨W.heap.size,0,none⟩) (grownCap W s.size 0 e) (Lib.bytesWorld W e s) (by rw [hl];exact hy ▸ jH (iW W e s hsz)) (by rw [hl];exact grownCap_ge W s.size 0 e) (iX (Below.refl _ W) (k7 _) e s)
    rw [hl] at h2
    exact h2
theorem zr {a b:Prop} (h:a) (g:a→b:=by intro h_;(with_reducible repeat (first|refine d8 ?_ _|refine a7 ?_|refine b8 ?_ _));exact h_):b:=g h
theorem kr {a b:Prop} (h:a) (g:a→b:=by intro h_;(with_reducible repeat (first|apply Kd.R_alloc|apply Kd.R_drewN|apply Kd.R_drew));exact h_):b:=g h
theorem cl3 {W:World} {g:Nat} {t:TypeId} {c0:Value} {c1:Value} {c2:Value} (h:W.heap[g]? =some (.cells #[c0,c1,c2] t (0,0))):W.cell? ⟨g,0,none⟩=some c0∧W.cell? ⟨g,1,none⟩=some c1∧W.cell? ⟨g,2,none⟩=some c2∧W.frozen? ⟨g,0,none⟩=false∧W.frozen? ⟨g,1,none⟩=false∧W.frozen? ⟨g,2,none⟩=false:=⟨(aA h 0).trans rfl,(aA h 1).trans rfl,(aA h 2).trans rfl,aM h 0,aM h 1,aM h 2⟩
theorem cl4 {W:World} {g:Nat} {t:TypeId} {c0:Value} {c1:Value} {c2:Value} {c3:Value} (h:W.heap[g]? =some (.cells #[c0,c1,c2,c3] t (0,0))):W.cell? ⟨g,0,none⟩=some c0∧W.cell? ⟨g,1,none⟩=some c1∧W.cell? ⟨g,2,none⟩=some c2∧W.cell? ⟨g,3,none⟩=some c3∧W.frozen? ⟨g,0,none⟩=false∧W.frozen? ⟨g,1,none⟩=false∧W.frozen? ⟨g,2,none⟩=false∧W.frozen? ⟨g,3,none⟩=false:=⟨(aA h 0).trans rfl,(aA h 1).trans rfl,(aA h 2).trans rfl,(aA h 3).trans rfl,aM h 0,aM h 1,aM h 2,aM h 3⟩
theorem cl5 {W:World} {g:Nat} {t:TypeId} {c0:Value} {c1:Value} {c2:Value} {c3:Value} {c4:Value} (h:W.heap[g]? =some (.cells #[c0,c1,c2,c3,c4] t (0,0))):W.cell? ⟨g,0,none⟩=some c0∧W.cell? ⟨g,1,none⟩=some c1∧W.cell? ⟨g,2,none⟩=some c2∧W.cell? ⟨g,3,none⟩=some c3∧W.cell? ⟨g,4,none⟩=some c4∧W.frozen? ⟨g,0,none⟩=false∧W.frozen? ⟨g,1,none⟩=false∧W.frozen? ⟨g,2,none⟩=false∧W.frozen? ⟨g,3,none⟩=false∧W.frozen? ⟨g,4,none⟩=false:=⟨(aA h 0).trans rfl,(aA h 1).trans rfl,(aA h 2).trans rfl,(aA h 3).trans rfl,(aA h 4).trans rfl,aM h 0,aM h 1,aM h 2,aM h 3,aM h 4⟩
theorem pu {P:Program} {ops:Array Oper} {Q:Exit→Act→World→Prop} {md:Region.Mode} {S:World→Prop} {ds:List Nat} {oi:Oper} {v:Value} {fuel:Nat} {l:Array Bool} {a:Act} {w:World} (i:Nat) (N:Option Tmp) (l':Array Bool) (hi:ops[i]? =some oi) (hN:oi.dst=N) (hc:kA md ops l l' i=true) (hy:Yields P ops oi v a) {a':Act} (h:bQ P md ops Q S ds fuel l' a' w)
    (hQ:∀c a w,Q (.panic c) (a.put oi.dst v) w→Q (.panic c) a w:=by exact fun _ _ _ h=>h) (ha:a.put N v=a':=by simp only [Act.put,kX,kY,kZ,aI,aK];rfl):bQ P md ops Q S ds (fuel+1) l a w:=bC l' hi hN hc hQ hy ha h
theorem tk {P:Program} {ops:Array Oper} {Q:Exit→Act→World→Prop} {md:Region.Mode} {S:World→Prop} {ds:List Nat} {oi:Oper} {v:Value} {fuel:Nat} {l:Array Bool} {a:Act} {w:World} (i:Nat) (N:Option Tmp) (l':Array Bool) (hi:ops[i]? =some oi) (hN:oi.dst=N) (hc:iI md ops ds l l' i=true) (hS:S w) (hy:YieldsIf P ops S oi v a) {a':Act} (h:bQ P md ops Q S ds fuel l' a' w)
    (hQ:∀c a w,Q (.panic c) (a.put oi.dst v) w→Q (.panic c) a w:=by exact fun _ _ _ h=>h) (ha:a.put N v=a':=by simp only [Act.put,kX,kY,kZ,aI,aK];rfl):bQ P md ops Q S ds (fuel+1) l a w:=iZ l' hi hN hc hQ hy hS ha h
theorem zb {W0 W:World} {g:Nat} {o:Obj} (h:W0.heap[g]? =some o) (k:W0.heap[g]? =some o→W.heap[g]? =some o:=by intro h_;(with_reducible repeat (first|refine d8 ?_ _|refine a7 ?_|refine b8 ?_ _));exact h_):W.heap[g]? =some o:=k h
theorem nlt {W:World} {g g':Nat} {o:Obj} (hg:g'=W.heap.size) (h:W.heap[g]? =some o):g≠g':=by rw [hg];exact Nat.ne_of_lt (e8 h)
theorem ngt {W:World} {g g':Nat} {o:Obj} (hg:g'=W.heap.size) (h:W.heap[g]? =some o):g'≠g:=by rw [hg];exact Nat.ne_of_gt (e8 h)
theorem rn {p:Prop} (h:p:=by first|exact Kd.R_nil _ _ _ _ _|exact Kd.N_nil _ _ _ _ _|exact Kd.V_nil _ _ _ _ _|exact Kd.Q_nil _ _ _ _ _|exact Kd.S_nil _ _ _ _ _):p:=h
theorem ri {W:World} {b:Nat} {ok:Nat→Prop} (n:Int):Kd.M (Kd.int .i64) W b ok n [.int .i64 n]:=rfl
theorem bxe {P:Program} {ops:Array Oper} {rest:List Oper} {o:Oper} {a:Act} {Q:Exit→Act→World→Prop} {W:World} (N:Tmp) (cs:Array Value) (t:TypeId) (h:∀g,g=W.heap.size→∀w1,w1.heap[g]? =some (.cells cs t (0,0))→Below W.heap.size W w1→wpList P ops Q rest (a.put o.dst (.pointer (some ⟨g,0,none⟩))) w1) (hgd:o.guard=none:=by rfl) (hd:o.dst=some N:=by rfl) (hrun:(execOp a.eval o).run P W=.ok (.value (.pointer (some ⟨W.heap.size,0,none⟩))) (W.alloc (.cells cs t (0,0))):=by first|(go_simp;done)|(go_simp;rfl)):wpList P ops Q (o::rest) a W:=jU hgd hd hrun h
theorem bp2 {W:World} {g:Nat} {t:TypeId} {a0 a1 v0 v1:Value} (h:W.heap[g]? =some (.cells #[a0,a1] t (0,0))):((W.setCell ⟨g,0,none⟩ v0).setCell ⟨g,1,none⟩ v1).heap[g]? =some (.cells #[v0,v1] t (0,0)):=(aV (aV h 0 v0 rfl) 1 v1 rfl)
theorem rf2 {α:Type} {d:Kd α} {e:Nat} {W:World} {b:Nat} {ok:Nat→Prop} {v:Value} {xs:List α} (g:Nat) (v0 v1:Value) (h:d.R e W b ok v xs) (hok:∀k,ok k→k≠g):d.R e ((W.setCell ⟨g,0,none⟩ v0).setCell ⟨g,1,none⟩ v1) b ok v xs:=(Kd.R_far (p:=⟨g,1,none⟩) (Kd.R_far (p:=⟨g,0,none⟩) h hok v0) hok v1)
theorem bp3 {W:World} {g:Nat} {t:TypeId} {a0 a1 a2 v0 v1 v2:Value} (h:W.heap[g]? =some (.cells #[a0,a1,a2] t (0,0))):(((W.setCell ⟨g,0,none⟩ v0).setCell ⟨g,1,none⟩ v1).setCell ⟨g,2,none⟩ v2).heap[g]? =some (.cells #[v0,v1,v2] t (0,0)):=(aV (aV (aV h 0 v0 rfl) 1 v1 rfl) 2 v2 rfl)
theorem rf3 {α:Type} {d:Kd α} {e:Nat} {W:World} {b:Nat} {ok:Nat→Prop} {v:Value} {xs:List α} (g:Nat) (v0 v1 v2:Value) (h:d.R e W b ok v xs) (hok:∀k,ok k→k≠g):d.R e (((W.setCell ⟨g,0,none⟩ v0).setCell ⟨g,1,none⟩ v1).setCell ⟨g,2,none⟩ v2) b ok v xs:=(Kd.R_far (p:=⟨g,2,none⟩) (Kd.R_far (p:=⟨g,1,none⟩) (Kd.R_far (p:=⟨g,0,none⟩) h hok v0) hok v1) hok v2)
theorem bp4 {W:World} {g:Nat} {t:TypeId} {a0 a1 a2 a3 v0 v1 v2 v3:Value} (h:W.heap[g]? =some (.cells #[a0,a1,a2,a3] t (0,0))):((((W.setCell ⟨g,0,none⟩ v0).setCell ⟨g,1,none⟩ v1).setCell ⟨g,2,none⟩ v2).setCell ⟨g,3,none⟩ v3).heap[g]? =some (.cells #[v0,v1,v2,v3] t (0,0)):=(aV (aV (aV (aV h 0 v0 rfl) 1 v1 rfl) 2 v2 rfl) 3 v3 rfl)
theorem rf4 {α:Type} {d:Kd α} {e:Nat} {W:World} {b:Nat} {ok:Nat→Prop} {v:Value} {xs:List α} (g:Nat) (v0 v1 v2 v3:Value) (h:d.R e W b ok v xs) (hok:∀k,ok k→k≠g):d.R e ((((W.setCell ⟨g,0,none⟩ v0).setCell ⟨g,1,none⟩ v1).setCell ⟨g,2,none⟩ v2).setCell ⟨g,3,none⟩ v3) b ok v xs:=(Kd.R_far (p:=⟨g,3,none⟩) (Kd.R_far (p:=⟨g,2,none⟩) (Kd.R_far (p:=⟨g,1,none⟩) (Kd.R_far (p:=⟨g,0,none⟩) h hok v0) hok v1) hok v2) hok v3)
theorem bp5 {W:World} {g:Nat} {t:TypeId} {a0 a1 a2 a3 a4 v0 v1 v2 v3 v4:Value} (h:W.heap[g]? =some (.cells #[a0,a1,a2,a3,a4] t (0,0))):(((((W.setCell ⟨g,0,none⟩ v0).setCell ⟨g,1,none⟩ v1).setCell ⟨g,2,none⟩ v2).setCell ⟨g,3,none⟩ v3).setCell ⟨g,4,none⟩ v4).heap[g]? =some (.cells #[v0,v1,v2,v3,v4] t (0,0)):=(aV (aV (aV (aV (aV h 0 v0 rfl) 1 v1 rfl) 2 v2 rfl) 3 v3 rfl) 4 v4 rfl)
theorem rf5 {α:Type} {d:Kd α} {e:Nat} {W:World} {b:Nat} {ok:Nat→Prop} {v:Value} {xs:List α} (g:Nat) (v0 v1 v2 v3 v4:Value) (h:d.R e W b ok v xs) (hok:∀k,ok k→k≠g):d.R e (((((W.setCell ⟨g,0,none⟩ v0).setCell ⟨g,1,none⟩ v1).setCell ⟨g,2,none⟩ v2).setCell ⟨g,3,none⟩ v3).setCell ⟨g,4,none⟩ v4) b ok v xs:=(Kd.R_far (p:=⟨g,4,none⟩) (Kd.R_far (p:=⟨g,3,none⟩) (Kd.R_far (p:=⟨g,2,none⟩) (Kd.R_far (p:=⟨g,1,none⟩) (Kd.R_far (p:=⟨g,0,none⟩) h hok v0) hok v1) hok v2) hok v3) hok v4)
theorem bp6 {W:World} {g:Nat} {t:TypeId} {a0 a1 a2 a3 a4 a5 v0 v1 v2 v3 v4 v5:Value} (h:W.heap[g]? =some (.cells #[a0,a1,a2,a3,a4,a5] t (0,0))):((((((W.setCell ⟨g,0,none⟩ v0).setCell ⟨g,1,none⟩ v1).setCell ⟨g,2,none⟩ v2).setCell ⟨g,3,none⟩ v3).setCell ⟨g,4,none⟩ v4).setCell ⟨g,5,none⟩ v5).heap[g]? =some (.cells #[v0,v1,v2,v3,v4,v5] t (0,0)):=(aV (aV (aV (aV (aV (aV h 0 v0 rfl) 1 v1 rfl) 2 v2 rfl) 3 v3 rfl) 4 v4 rfl) 5 v5 rfl)
theorem rf6 {α:Type} {d:Kd α} {e:Nat} {W:World} {b:Nat} {ok:Nat→Prop} {v:Value} {xs:List α} (g:Nat) (v0 v1 v2 v3 v4 v5:Value) (h:d.R e W b ok v xs) (hok:∀k,ok k→k≠g):d.R e ((((((W.setCell ⟨g,0,none⟩ v0).setCell ⟨g,1,none⟩ v1).setCell ⟨g,2,none⟩ v2).setCell ⟨g,3,none⟩ v3).setCell ⟨g,4,none⟩ v4).setCell ⟨g,5,none⟩ v5) b ok v xs:=(Kd.R_far (p:=⟨g,5,none⟩) (Kd.R_far (p:=⟨g,4,none⟩) (Kd.R_far (p:=⟨g,3,none⟩) (Kd.R_far (p:=⟨g,2,none⟩) (Kd.R_far (p:=⟨g,1,none⟩) (Kd.R_far (p:=⟨g,0,none⟩) h hok v0) hok v1) hok v2) hok v3) hok v4) hok v5)
theorem hx {p q:Prop} {α:Type} {a b:α} (H:p) (e:a=b) (g:p→a=b→q:=by intro H e_;first|(rw [e_];with_reducible exact H)|(have A0:=(Option.bind_some _ _).symm.trans H;rw [e_];with_reducible exact A0)|(have A0:=(Option.bind_some _ _).symm.trans H;with_reducible exact A0)|with_reducible exact H|(rw [e_];exact H)|exact H):q:=g H e
theorem rq {p:Prop} (h:p:=by first|rfl|(simp [bI,bJ]<;>rfl)|(simp [*,bI,bJ]<;>rfl)):p:=h
theorem sq {p:Prop} (h:p:=by first|rfl|(simp;done)|(simp [*];done)):p:=h
theorem ga {p:Prop} (h:p:=by (try simp only [List.map_toArray,List.map_cons,List.map_nil]);first|done|rfl|(simp only [List.length_drop,List.length_take];rfl)):p:=h
theorem gs {p:Prop} (h:p:=by first|(go_simp;done)|(go_simp;rfl)):p:=h
theorem rb {α:Type} {d:Kd α} {e b:Nat} {ok:Nat→Prop} {v:Value} {xs:List α} {W W1 w2:World} (h:Aside0 (d.R e W b ok v xs)) (hb:Below W1.heap.size W1 w2) (q:d.R e W b ok v xs→d.R e W1 b ok v xs:=by intro h_;(with_reducible repeat (first|apply Kd.R_alloc|apply Kd.R_drewN|apply Kd.R_drew));exact h_):d.R e w2 b ok v xs:=Kd.R_below (q h.o) hb
theorem kb {W W1 w2:World} {g:Nat} {o:Obj} (h:Aside0 (W.heap[g]? =some o)) (hb:Below W1.heap.size W1 w2) (q:W.heap[g]? =some o→W1.heap[g]? =some o:=by intro h_;(with_reducible repeat (first|refine d8 ?_ _|refine a7 ?_|refine b8 ?_ _));exact h_):w2.heap[g]? =some o:=b9 (q h.o) hb
theorem bz {w W:World} {g:Nat} (hg:g=W.heap.size) (h:Below w.heap.size w W):w.heap.size≤g:=by rw [hg];exact aH h
theorem nL {W W1:World} {g g':Nat} {o:Obj} (hg:g'=W1.heap.size) (h:Aside0 (W.heap[g]? =some o)) (q:W.heap[g]? =some o→W1.heap[g]? =some o:=by intro h_;(with_reducible repeat (first|refine d8 ?_ _|refine a7 ?_|refine b8 ?_ _));exact h_):g≠g':=nlt hg (q h.o)
theorem nG {W W1:World} {g g':Nat} {o:Obj} (hg:g'=W1.heap.size) (h:Aside0 (W.heap[g]? =some o)) (q:W.heap[g]? =some o→W1.heap[g]? =some o:=by intro h_;(with_reducible repeat (first|refine d8 ?_ _|refine a7 ?_|refine b8 ?_ _));exact h_):g'≠g:=ngt hg (q h.o)
theorem rl {α:Type} {d:Kd α} {e:Nat} {ok:Nat→Prop} {v:Value} {xs:List α} {w w1 W1:World} (ho:d.R e w1 W1.heap.size ok v xs) (h:Below w.heap.size w W1):d.R e w1 w.heap.size ok v xs:=Kd.R_lower ho (aH h)
theorem re_ {α β:Type} {d:Kd α} {d2:Kd β} {e b e2:Nat} {ok A0:Nat→Prop} {v v2:Value} {xs:List α} {ys:List β} {W W1 w2:World} (h:Aside0 (d.R e W b ok v xs)) (h2:d2.R e2 w2 W1.heap.size A0 v2 ys) (hb:Below W1.heap.size W1 w2) (q:d.R e W b ok v xs→d.R e W1 b ok v xs:=by intro h_;(with_reducible repeat (first|apply Kd.R_alloc|apply Kd.R_drewN|apply Kd.R_drew));exact h_):d.R e w2 b (fun k=>ok k∧some k≠v2.ownBlock) v xs:=Kd.R_elder' (q h.o) (Kd.R_base h2) hb
theorem rn_ {α β:Type} {d:Kd α} {d2:Kd β} {e b e2:Nat} {ok A0:Nat→Prop} {v v2:Value} {xs:List α} {ys:List β} {w W W1 w2:World} (h:d.R e w2 W1.heap.size ok v xs) (h2:Aside0 (d2.R e2 W b A0 v2 ys)) (hb:Below w.heap.size w W1) (q:d2.R e2 W b A0 v2 ys→d2.R e2 W1 b A0 v2 ys:=by intro h_;(with_reducible repeat (first|apply Kd.R_alloc|apply Kd.R_drewN|apply Kd.R_drew));exact h_):d.R e w2 w.heap.size (fun k=>ok k∧some k≠v2.ownBlock) v xs:=Kd.R_lower (Kd.R_new' h (Kd.R_lt (q h2.o))) (aH hb)
theorem sb {w W2 w2:World} (hw:w2=W2) (h:Below w.heap.size w W2):Below w.heap.size w w2:=hw ▸ h
abbrev s2 (W:World) (g:Nat) (v0 v1:Value):World:=((W.setCell ⟨g,0,none⟩ v0).setCell ⟨g,1,none⟩ v1)
theorem sr2 {α:Type} {d:Kd α} {e b:Nat} {ok:Nat→Prop} {v:Value} {xs:List α} {W0 W w2:World} {g t:Nat} {v0 v1:Value} {cells:Array Value} (hw:w2=s2 W g v0 v1) (h:Aside0 (d.R e W0 b ok v xs)) (hb:Aside0 (W0.heap[g]? =some (.cells cells t (0,0)))) (ht:∀q,q ∈ e::d.E→q≠t:=by decide) (q:d.R e W0 b (fun k=>ok k∧k≠g) v xs→d.R e W b (fun k=>ok k∧k≠g) v xs:=by intro h_;(with_reducible repeat (first|apply Kd.R_alloc|apply Kd.R_drewN|apply Kd.R_drew));exact h_):d.R e w2 b ok v xs:=by
  rw [hw]
  exact Kd.R_mono (rf2 g v0 v1 (q (Kd.R_types h.o hb.o ht)) (fun _ hk=>hk.2)) (fun _ h_=>h_.1)
theorem sc2 {W0 W w2:World} {g t:Nat} {v0 v1 a0 a1:Value} (hw:w2=s2 W g v0 v1) (hb:Aside0 (W0.heap[g]? =some (.cells #[a0,a1] t (0,0)))) (q:W0.heap[g]? =some (.cells #[a0,a1] t (0,0))→W.heap[g]? =some (.cells #[a0,a1] t (0,0)):=by intro h_;(with_reducible repeat (first|refine d8 ?_ _|refine a7 ?_|refine b8 ?_ _));exact h_):w2.heap[g]? =some (.cells #[v0,v1] t (0,0)):=by
  rw [hw]
  exact bp2 (q hb.o)
theorem sf2 {W0 W w2:World} {g g' t:Nat} {v0 v1:Value} {cs:Array Value} (hw:w2=s2 W g v0 v1) (hb:Aside0 (W0.heap[g']? =some (.cells cs t (0,0)))) (hn:Aside0 (g'≠g)) (q:W0.heap[g']? =some (.cells cs t (0,0))→W.heap[g']? =some (.cells cs t (0,0)):=by intro h_;(with_reducible repeat (first|refine d8 ?_ _|refine a7 ?_|refine b8 ?_ _));exact h_):w2.heap[g']? =some (.cells cs t (0,0)):=by
  rw [hw]
  exact aN (aN (q hb.o) hn.o _) hn.o _
abbrev s3 (W:World) (g:Nat) (v0 v1 v2:Value):World:=(((W.setCell ⟨g,0,none⟩ v0).setCell ⟨g,1,none⟩ v1).setCell ⟨g,2,none⟩ v2)
theorem sr3 {α:Type} {d:Kd α} {e b:Nat} {ok:Nat→Prop} {v:Value} {xs:List α} {W0 W w2:World} {g t:Nat} {v0 v1 v2:Value} {cells:Array Value} (hw:w2=s3 W g v0 v1 v2) (h:Aside0 (d.R e W0 b ok v xs)) (hb:Aside0 (W0.heap[g]? =some (.cells cells t (0,0)))) (ht:∀q,q ∈ e::d.E→q≠t:=by decide) (q:d.R e W0 b (fun k=>ok k∧k≠g) v xs→d.R e W b (fun k=>ok k∧k≠g) v xs:=by intro h_;(with_reducible repeat (first|apply Kd.R_alloc|apply Kd.R_drewN|apply Kd.R_drew));exact h_):d.R e w2 b ok v xs:=by
  rw [hw]
  exact Kd.R_mono (rf3 g v0 v1 v2 (q (Kd.R_types h.o hb.o ht)) (fun _ hk=>hk.2)) (fun _ h_=>h_.1)
theorem sc3 {W0 W w2:World} {g t:Nat} {v0 v1 v2 a0 a1 a2:Value} (hw:w2=s3 W g v0 v1 v2) (hb:Aside0 (W0.heap[g]? =some (.cells #[a0,a1,a2] t (0,0)))) (q:W0.heap[g]? =some (.cells #[a0,a1,a2] t (0,0))→W.heap[g]? =some (.cells #[a0,a1,a2] t (0,0)):=by intro h_;(with_reducible repeat (first|refine d8 ?_ _|refine a7 ?_|refine b8 ?_ _));exact h_):w2.heap[g]? =some (.cells #[v0,v1,v2] t (0,0)):=by
  rw [hw]
  exact bp3 (q hb.o)
theorem sf3 {W0 W w2:World} {g g' t:Nat} {v0 v1 v2:Value} {cs:Array Value} (hw:w2=s3 W g v0 v1 v2) (hb:Aside0 (W0.heap[g']? =some (.cells cs t (0,0)))) (hn:Aside0 (g'≠g)) (q:W0.heap[g']? =some (.cells cs t (0,0))→W.heap[g']? =some (.cells cs t (0,0)):=by intro h_;(with_reducible repeat (first|refine d8 ?_ _|refine a7 ?_|refine b8 ?_ _));exact h_):w2.heap[g']? =some (.cells cs t (0,0)):=by
  rw [hw]
  exact aN (aN (aN (q hb.o) hn.o _) hn.o _) hn.o _
abbrev s4 (W:World) (g:Nat) (v0 v1 v2 v3:Value):World:=((((W.setCell ⟨g,0,none⟩ v0).setCell ⟨g,1,none⟩ v1).setCell ⟨g,2,none⟩ v2).setCell ⟨g,3,none⟩ v3)
theorem sr4 {α:Type} {d:Kd α} {e b:Nat} {ok:Nat→Prop} {v:Value} {xs:List α} {W0 W w2:World} {g t:Nat} {v0 v1 v2 v3:Value} {cells:Array Value} (hw:w2=s4 W g v0 v1 v2 v3) (h:Aside0 (d.R e W0 b ok v xs)) (hb:Aside0 (W0.heap[g]? =some (.cells cells t (0,0)))) (ht:∀q,q ∈ e::d.E→q≠t:=by decide) (q:d.R e W0 b (fun k=>ok k∧k≠g) v xs→d.R e W b (fun k=>ok k∧k≠g) v xs:=by intro h_;(with_reducible repeat (first|apply Kd.R_alloc|apply Kd.R_drewN|apply Kd.R_drew));exact h_):d.R e w2 b ok v xs:=by
  rw [hw]
  exact Kd.R_mono (rf4 g v0 v1 v2 v3 (q (Kd.R_types h.o hb.o ht)) (fun _ hk=>hk.2)) (fun _ h_=>h_.1)
theorem sc4 {W0 W w2:World} {g t:Nat} {v0 v1 v2 v3 a0 a1 a2 a3:Value} (hw:w2=s4 W g v0 v1 v2 v3) (hb:Aside0 (W0.heap[g]? =some (.cells #[a0,a1,a2,a3] t (0,0)))) (q:W0.heap[g]? =some (.cells #[a0,a1,a2,a3] t (0,0))→W.heap[g]? =some (.cells #[a0,a1,a2,a3] t (0,0)):=by intro h_;(with_reducible repeat (first|refine d8 ?_ _|refine a7 ?_|refine b8 ?_ _));exact h_):w2.heap[g]? =some (.cells #[v0,v1,v2,v3] t (0,0)):=by
  rw [hw]
  exact bp4 (q hb.o)
theorem sf4 {W0 W w2:World} {g g' t:Nat} {v0 v1 v2 v3:Value} {cs:Array Value} (hw:w2=s4 W g v0 v1 v2 v3) (hb:Aside0 (W0.heap[g']? =some (.cells cs t (0,0)))) (hn:Aside0 (g'≠g)) (q:W0.heap[g']? =some (.cells cs t (0,0))→W.heap[g']? =some (.cells cs t (0,0)):=by intro h_;(with_reducible repeat (first|refine d8 ?_ _|refine a7 ?_|refine b8 ?_ _));exact h_):w2.heap[g']? =some (.cells cs t (0,0)):=by
  rw [hw]
  exact aN (aN (aN (aN (q hb.o) hn.o _) hn.o _) hn.o _) hn.o _
abbrev s5 (W:World) (g:Nat) (v0 v1 v2 v3 v4:Value):World:=(((((W.setCell ⟨g,0,none⟩ v0).setCell ⟨g,1,none⟩ v1).setCell ⟨g,2,none⟩ v2).setCell ⟨g,3,none⟩ v3).setCell ⟨g,4,none⟩ v4)
theorem sr5 {α:Type} {d:Kd α} {e b:Nat} {ok:Nat→Prop} {v:Value} {xs:List α} {W0 W w2:World} {g t:Nat} {v0 v1 v2 v3 v4:Value} {cells:Array Value} (hw:w2=s5 W g v0 v1 v2 v3 v4) (h:Aside0 (d.R e W0 b ok v xs)) (hb:Aside0 (W0.heap[g]? =some (.cells cells t (0,0)))) (ht:∀q,q ∈ e::d.E→q≠t:=by decide) (q:d.R e W0 b (fun k=>ok k∧k≠g) v xs→d.R e W b (fun k=>ok k∧k≠g) v xs:=by intro h_;(with_reducible repeat (first|apply Kd.R_alloc|apply Kd.R_drewN|apply Kd.R_drew));exact h_):d.R e w2 b ok v xs:=by
  rw [hw]
  exact Kd.R_mono (rf5 g v0 v1 v2 v3 v4 (q (Kd.R_types h.o hb.o ht)) (fun _ hk=>hk.2)) (fun _ h_=>h_.1)
theorem sc5 {W0 W w2:World} {g t:Nat} {v0 v1 v2 v3 v4 a0 a1 a2 a3 a4:Value} (hw:w2=s5 W g v0 v1 v2 v3 v4) (hb:Aside0 (W0.heap[g]? =some (.cells #[a0,a1,a2,a3,a4] t (0,0)))) (q:W0.heap[g]? =some (.cells #[a0,a1,a2,a3,a4] t (0,0))→W.heap[g]? =some (.cells #[a0,a1,a2,a3,a4] t (0,0)):=by intro h_;(with_reducible repeat (first|refine d8 ?_ _|refine a7 ?_|refine b8 ?_ _));exact h_):w2.heap[g]? =some (.cells #[v0,v1,v2,v3,v4] t (0,0)):=by
  rw [hw]
  exact bp5 (q hb.o)
theorem sf5 {W0 W w2:World} {g g' t:Nat} {v0 v1 v2 v3 v4:Value} {cs:Array Value} (hw:w2=s5 W g v0 v1 v2 v3 v4) (hb:Aside0 (W0.heap[g']? =some (.cells cs t (0,0)))) (hn:Aside0 (g'≠g)) (q:W0.heap[g']? =some (.cells cs t (0,0))→W.heap[g']? =some (.cells cs t (0,0)):=by intro h_;(with_reducible repeat (first|refine d8 ?_ _|refine a7 ?_|refine b8 ?_ _));exact h_):w2.heap[g']? =some (.cells cs t (0,0)):=by
  rw [hw]
  exact aN (aN (aN (aN (aN (q hb.o) hn.o _) hn.o _) hn.o _) hn.o _) hn.o _
abbrev s6 (W:World) (g:Nat) (v0 v1 v2 v3 v4 v5:Value):World:=((((((W.setCell ⟨g,0,none⟩ v0).setCell ⟨g,1,none⟩ v1).setCell ⟨g,2,none⟩ v2).setCell ⟨g,3,none⟩ v3).setCell ⟨g,4,none⟩ v4).setCell ⟨g,5,none⟩ v5)
theorem sr6 {α:Type} {d:Kd α} {e b:Nat} {ok:Nat→Prop} {v:Value} {xs:List α} {W0 W w2:World} {g t:Nat} {v0 v1 v2 v3 v4 v5:Value} {cells:Array Value} (hw:w2=s6 W g v0 v1 v2 v3 v4 v5) (h:Aside0 (d.R e W0 b ok v xs)) (hb:Aside0 (W0.heap[g]? =some (.cells cells t (0,0)))) (ht:∀q,q ∈ e::d.E→q≠t:=by decide) (q:d.R e W0 b (fun k=>ok k∧k≠g) v xs→d.R e W b (fun k=>ok k∧k≠g) v xs:=by intro h_;(with_reducible repeat (first|apply Kd.R_alloc|apply Kd.R_drewN|apply Kd.R_drew));exact h_):d.R e w2 b ok v xs:=by
  rw [hw]
  exact Kd.R_mono (rf6 g v0 v1 v2 v3 v4 v5 (q (Kd.R_types h.o hb.o ht)) (fun _ hk=>hk.2)) (fun _ h_=>h_.1)
theorem sc6 {W0 W w2:World} {g t:Nat} {v0 v1 v2 v3 v4 v5 a0 a1 a2 a3 a4 a5:Value} (hw:w2=s6 W g v0 v1 v2 v3 v4 v5) (hb:Aside0 (W0.heap[g]? =some (.cells #[a0,a1,a2,a3,a4,a5] t (0,0)))) (q:W0.heap[g]? =some (.cells #[a0,a1,a2,a3,a4,a5] t (0,0))→W.heap[g]? =some (.cells #[a0,a1,a2,a3,a4,a5] t (0,0)):=by intro h_;(with_reducible repeat (first|refine d8 ?_ _|refine a7 ?_|refine b8 ?_ _));exact h_):w2.heap[g]? =some (.cells #[v0,v1,v2,v3,v4,v5] t (0,0)):=by
  rw [hw]
  exact bp6 (q hb.o)
theorem sf6 {W0 W w2:World} {g g' t:Nat} {v0 v1 v2 v3 v4 v5:Value} {cs:Array Value} (hw:w2=s6 W g v0 v1 v2 v3 v4 v5) (hb:Aside0 (W0.heap[g']? =some (.cells cs t (0,0)))) (hn:Aside0 (g'≠g)) (q:W0.heap[g']? =some (.cells cs t (0,0))→W.heap[g']? =some (.cells cs t (0,0)):=by intro h_;(with_reducible repeat (first|refine d8 ?_ _|refine a7 ?_|refine b8 ?_ _));exact h_):w2.heap[g']? =some (.cells cs t (0,0)):=by
  rw [hw]
  exact aN (aN (aN (aN (aN (aN (q hb.o) hn.o _) hn.o _) hn.o _) hn.o _) hn.o _) hn.o _
section
variable {P:Program} {ops:Array Oper} {rest:List Oper} {o:Oper} {a:Act} {Q:Exit→Act→World→Prop}
theorem se {W:World} (t:TypeId) (p:Tmp) (w1:World) {v:Operand} (h:∀w',w'=w1→wpList P ops Q rest a w') (ho:o.op=.store t (.tmp p) v:=by rfl) (hg:o.guard=none:=by rfl) (hn:o.dst=none:=by rfl) (hr:(execOp a.eval o).run P W=.ok .skip w1:=by first|(go_simp;done)|(go_simp;rfl)):wpList P ops Q (o::rest) a W:=g7 hg ho hn hr h
theorem sv {W w1:World} (t:TypeId) (p:Tmp) {v:Operand} (h:∀w',w'=w1→wpList P ops Q rest a w') (ho:o.op=.store t (.tmp p) v:=by rfl) (hg:o.guard=none:=by rfl) (hn:o.dst=none:=by rfl) (hr:(execOp a.eval o).run P W=.ok .skip w1:=by first|(go_simp;done)|(go_simp;rfl)):wpList P ops Q (o::rest) a W:=g7 hg ho hn hr h
theorem gc {a:Act} {w:World} (N:Option Tmp) {f:FuncId} {args:Array Value} {Qc:Ending→World→Prop} (hc:Calls P f args w Qc) {fn:Func} (hf:P.funcs[f]? =some fn) (h:∀e w',Qc e w'→∃v,e=.returned v∧wpList P ops Q rest (a.put N v) w') {us:Array Operand} {ts:Array TypeId} (hop:o.op=.call {callee:=.value (.func f),args:=us,argTypes:=ts}:=by rfl) (hargs:us.map a.eval=args:=by (try simp only [List.map_toArray,List.map_cons,List.map_nil]);first|done|rfl|(simp only [List.length_drop,List.length_take];rfl)) (hd:o.dst=N:=by rfl) (hg:o.guard=none:=by rfl) (hname:(fn.name=="runtime.NumGoroutine")=false:=by kernel_rfl) (hb:fn.body.isSome=true:=by rfl):wpList P ops Q (o::rest) a w:=kT N hd hg hf hname hb args hop hargs (hc.mono h)
theorem cm {f:FuncId} {args:Array Value} {w:World} {Q1 Q2:Ending→World→Prop} (hc:Calls P f args w Q1) (h:∀e w',Q1 e w'→Q2 e w'):Calls P f args w Q2:=hc.mono h
end
@[reducible] def T:Bool:=true
@[reducible] def F:Bool:=false
theorem pv {P:Program} {ops:Array Oper} {Q:Exit→Act→World→Prop} {md:Region.Mode} {S:World→Prop} {ds:List Nat} {oi:Oper} {v:Value} {fuel:Nat} {l:Array Bool} {a:Act} {w:World} {T0} (HT:Aside0 (eR md ops=T0)) (i:Nat) (N:Option Tmp) (l':Array Bool) {a':Act} (h:bQ P md ops Q S ds fuel l' a' w) (hi:ops[i]? =some oi:=by rfl) (hN:oi.dst=N:=by rfl) (hc:anyT T0 l.toList l'.toList i=true:=by kernel_rfl) (hy:Yields P ops oi v a:=by exact Or.inl ⟨by rfl,by intro w';go_simp;with_reducible rfl⟩)
    (hQ:∀c a w,Q (.panic c) (a.put oi.dst v) w→Q (.panic c) a w:=by exact fun _ _ _ h=>h) (ha:a.put N v=a':=by simp only [Act.put,kX,kY,kZ,aI,aK];rfl):bQ P md ops Q S ds (fuel+1) l a w:=bC l' hi hN (aY HT.o hc) hQ hy ha h
def jN (xs:List (List Int)) (i:Int):(List Int):=xs.getD i.toNat ([]:List Int)
theorem at_L3 {w:World} {A:Option Addr} {n:Nat} {xs:List (List Int)} (h:Kd.C (Kd.slice 3 (Kd.int .i64)) w A n xs) (i:Int) (h0:0≤i) (h1:i<n):∃ad A0 c0,A=some ad∧w.cell? (ad.add i.toNat)=some (.slice A0 (jN xs i).length c0)∧(jN xs i).length≤c0∧(Kd.int .i64).C w A0 (jN xs i).length (jN xs i):=by
  obtain ⟨ad,c,e,_,hK,A1⟩:=Kd.C_get h ([]:List Int) i h0 h1
  have hc:∀j u,c[j]? =some u→w.cell? (ad.add (i.toNat*1+j))=some u:=A1
  obtain ⟨A0,c0,rfl,l0,g0⟩:=hK
  exact ⟨ad,A0,c0,e,by have hq:=hc 0 _ rfl;rwa [Nat.mul_one,Nat.add_zero] at hq,l0,g0⟩
structure S43 where
  f0:Int
  f1:Int
  f2:ByteArray
  f3:(List Int)
def z43:S43:=⟨(0:Int),(0:Int),(⟨#[]⟩:ByteArray),([]:List Int)⟩
def k43:Kd S43:=Kd.iso (Kd.pair (Kd.int .i64) (Kd.pair (Kd.int .i64) (Kd.pair Kd.string (Kd.slice 3 (Kd.int .i64))))) (fun x:S43=>(x.f0,x.f1,x.f2,x.f3))
theorem i7 {w:World} {x:S43} {cs:List Value} (h:k43.K w x cs):∃A3 c3,cs=[.int .i64 x.f0,.int .i64 x.f1,.string x.f2,.slice A3 x.f3.length c3]∧x.f3.length≤c3∧(Kd.int .i64).C w A3 x.f3.length x.f3:=by
  obtain ⟨_,_,rfl,rfl,⟨_,_,rfl,rfl,⟨_,_,rfl,rfl,⟨A3,c3,rfl,l3,g3⟩⟩⟩⟩:=h
  exact ⟨A3,c3,rfl,l3,g3⟩
theorem jY {w:World} {base:Nat} {ok:Nat→Prop} {x:S43} {cs:List Value} (h:k43.M w base ok x cs):∃v3,cs=[.int .i64 x.f0,.int .i64 x.f1,.string x.f2,v3]∧(Kd.int .i64).R 3 w base ok v3 x.f3:=by
  obtain ⟨_,_,rfl,rfl,⟨_,_,rfl,rfl,⟨_,_,rfl,rfl,⟨v3,rfl,g3⟩⟩⟩⟩:=h
  exact ⟨v3,rfl,g3⟩
theorem kU (w:World) (x:S43) {A3:Option Addr} {c3:Nat} (l3:x.f3.length≤c3) (g3:(Kd.int .i64).C w A3 x.f3.length x.f3):k43.K w x [.int .i64 x.f0,.int .i64 x.f1,.string x.f2,.slice A3 x.f3.length c3]:=⟨[.int .i64 x.f0],[.int .i64 x.f1,.string x.f2,.slice A3 x.f3.length c3],rfl,rfl,⟨[.int .i64 x.f1],[.string x.f2,.slice A3 x.f3.length c3],rfl,rfl,⟨[.string x.f2],[.slice A3 x.f3.length c3],rfl,rfl,⟨A3,c3,rfl,l3,g3⟩⟩⟩⟩
theorem kL (w:World) (base:Nat) (ok:Nat→Prop) (x:S43) {v3:Value} (g3:(Kd.int .i64).R 3 w base ok v3 x.f3):k43.M w base ok x [.int .i64 x.f0,.int .i64 x.f1,.string x.f2,v3]:=⟨[.int .i64 x.f0],[.int .i64 x.f1,.string x.f2,v3],rfl,rfl,⟨[.int .i64 x.f1],[.string x.f2,v3],rfl,rfl,⟨[.string x.f2],[v3],rfl,rfl,⟨v3,rfl,g3⟩⟩⟩⟩
def gR (xs:List S43) (i:Int):S43:=xs.getD i.toNat z43
theorem at_T43 {w:World} {A:Option Addr} {n:Nat} {xs:List S43} (h:Kd.C k43 w A n xs) (i:Int) (h0:0≤i) (h1:i<n):∃ad A3 c3,A=some ad∧w.cell? (ad.add (i.toNat*4))=some (.int .i64 (gR xs i).f0)∧w.cell? ⟨(ad.add (i.toNat*4)).block,(ad.add (i.toNat*4)).off+1,none⟩=some (.int .i64 (gR xs i).f1)∧w.cell? ⟨(ad.add (i.toNat*4)).block,(ad.add (i.toNat*4)).off+2,none⟩=some (.string (gR xs i).f2)∧w.cell? ⟨(ad.add (i.toNat*4)).block,(ad.add (i.toNat*4)).off+3,none⟩=some (.slice A3 (gR xs i).f3.length c3)∧(gR xs i).f3.length≤c3∧(Kd.int .i64).C w A3 (gR xs i).f3.length (gR xs i).f3:=by
  obtain ⟨ad,c,e,_,hK,A0⟩:=Kd.C_get h z43 i h0 h1
  have hc:∀j u,c[j]? =some u→w.cell? (ad.add (i.toNat*4+j))=some u:=A0
  obtain ⟨A3,c3,rfl,l3,g3⟩:=i7 hK
  exact ⟨ad,A3,c3,e,hc 0 _ rfl,by rw [← fF _ _ 1 (by omega)];exact hc 1 _ rfl,by rw [← fF _ _ 2 (by omega)];exact hc 2 _ rfl,by rw [← fF _ _ 3 (by omega)];exact hc 3 _ rfl,l3,g3⟩
structure S45 where
  f0:(List Int)
  f1:S43
def z45:S45:=⟨([]:List Int),z43⟩
def k45:Kd S45:=Kd.iso (Kd.pair (Kd.slice 3 (Kd.int .i64)) k43) (fun x:S45=>(x.f0,x.f1))
theorem kF {w:World} {x:S45} {cs:List Value} (h:k45.K w x cs):∃A0 c0 A4 c4,cs=[.slice A0 x.f0.length c0,.int .i64 x.f1.f0,.int .i64 x.f1.f1,.string x.f1.f2,.slice A4 x.f1.f3.length c4]∧x.f0.length≤c0∧(Kd.int .i64).C w A0 x.f0.length x.f0∧x.f1.f3.length≤c4∧(Kd.int .i64).C w A4 x.f1.f3.length x.f1.f3:=by
  obtain ⟨_,_,rfl,⟨A0,c0,rfl,l0,g0⟩,s1⟩:=h
  obtain ⟨A4,c4,rfl,l4,g4⟩:=i7 s1
  exact ⟨A0,c0,A4,c4,rfl,l0,g0,l4,g4⟩
theorem kV {w:World} {base:Nat} {ok:Nat→Prop} {x:S45} {cs:List Value} (h:k45.M w base ok x cs):∃v0 v4,cs=[v0,.int .i64 x.f1.f0,.int .i64 x.f1.f1,.string x.f1.f2,v4]∧(Kd.int .i64).R 3 w base ok v0 x.f0∧(Kd.int .i64).R 3 w base ok v4 x.f1.f3:=by
  obtain ⟨_,_,rfl,⟨v0,rfl,g0⟩,s1⟩:=h
  obtain ⟨v4,rfl,g4⟩:=jY s1
  exact ⟨v0,v4,rfl,g0,g4⟩
theorem k45_mk (w:World) (x:S45) {A0:Option Addr} {c0:Nat} (l0:x.f0.length≤c0) (g0:(Kd.int .i64).C w A0 x.f0.length x.f0) {A4:Option Addr} {c4:Nat} (l4:x.f1.f3.length≤c4) (g4:(Kd.int .i64).C w A4 x.f1.f3.length x.f1.f3):k45.K w x [.slice A0 x.f0.length c0,.int .i64 x.f1.f0,.int .i64 x.f1.f1,.string x.f1.f2,.slice A4 x.f1.f3.length c4]:=⟨[.slice A0 x.f0.length c0],[.int .i64 x.f1.f0,.int .i64 x.f1.f1,.string x.f1.f2,.slice A4 x.f1.f3.length c4],rfl,⟨A0,c0,rfl,l0,g0⟩,(kU w x.f1 l4 g4)⟩
theorem gK (w:World) (base:Nat) (ok:Nat→Prop) (x:S45) {v0:Value} (g0:(Kd.int .i64).R 3 w base ok v0 x.f0) {v4:Value} (g4:(Kd.int .i64).R 3 w base ok v4 x.f1.f3):k45.M w base ok x [v0,.int .i64 x.f1.f0,.int .i64 x.f1.f1,.string x.f1.f2,v4]:=⟨[v0],[.int .i64 x.f1.f0,.int .i64 x.f1.f1,.string x.f1.f2,v4],rfl,⟨v0,rfl,g0⟩,(kL w base ok x.f1 g4)⟩
def aG (xs:List S45) (i:Int):S45:=xs.getD i.toNat z45
theorem dR {w:World} {A:Option Addr} {n:Nat} {xs:List S45} (h:Kd.C k45 w A n xs) (i:Int) (h0:0≤i) (h1:i<n):∃ad A0 c0 A4 c4,A=some ad∧w.cell? (ad.add (i.toNat*5))=some (.slice A0 (aG xs i).f0.length c0)∧w.cell? ⟨(ad.add (i.toNat*5)).block,(ad.add (i.toNat*5)).off+1,none⟩=some (.int .i64 (aG xs i).f1.f0)∧w.cell? ⟨(ad.add (i.toNat*5)).block,(ad.add (i.toNat*5)).off+2,none⟩=some (.int .i64 (aG xs i).f1.f1)∧w.cell? ⟨(ad.add (i.toNat*5)).block,(ad.add (i.toNat*5)).off+3,none⟩=some (.string (aG xs i).f1.f2)∧w.cell? ⟨(ad.add (i.toNat*5)).block,(ad.add (i.toNat*5)).off+4,none⟩=some (.slice A4 (aG xs i).f1.f3.length c4)∧(aG xs i).f0.length≤c0∧(Kd.int .i64).C w A0 (aG xs i).f0.length (aG xs i).f0∧(aG xs i).f1.f3.length≤c4∧(Kd.int .i64).C w A4 (aG xs i).f1.f3.length (aG xs i).f1.f3:=by
  obtain ⟨ad,c,e,_,hK,A1⟩:=Kd.C_get h z45 i h0 h1
  have hc:∀j u,c[j]? =some u→w.cell? (ad.add (i.toNat*5+j))=some u:=A1
  obtain ⟨A0,c0,A4,c4,rfl,l0,g0,l4,g4⟩:=kF hK
  exact ⟨ad,A0,c0,A4,c4,e,hc 0 _ rfl,by rw [← fF _ _ 1 (by omega)];exact hc 1 _ rfl,by rw [← fF _ _ 2 (by omega)];exact hc 2 _ rfl,by rw [← fF _ _ 3 (by omega)];exact hc 3 _ rfl,by rw [← fF _ _ 4 (by omega)];exact hc 4 _ rfl,l0,g0,l4,g4⟩
def jO (xs:List (List Int)) (i:Int):(List Int):=xs.getD i.toNat ([]:List Int)
theorem at_L6 {w:World} {A:Option Addr} {n:Nat} {xs:List (List Int)} (h:Kd.C (Kd.slice 5 (Kd.int .u8)) w A n xs) (i:Int) (h0:0≤i) (h1:i<n):∃ad A0 c0,A=some ad∧w.cell? (ad.add i.toNat)=some (.slice A0 (jO xs i).length c0)∧(jO xs i).length≤c0∧(Kd.int .u8).C w A0 (jO xs i).length (jO xs i):=by
  obtain ⟨ad,c,e,_,hK,A1⟩:=Kd.C_get h ([]:List Int) i h0 h1
  have hc:∀j u,c[j]? =some u→w.cell? (ad.add (i.toNat*1+j))=some u:=A1
  obtain ⟨A0,c0,rfl,l0,g0⟩:=hK
  exact ⟨ad,A0,c0,e,by have hq:=hc 0 _ rfl;rwa [Nat.mul_one,Nat.add_zero] at hq,l0,g0⟩
def tr (W:World) (g:Nat):World:={W with heap:=W.heap.extract 0 g}
theorem gB {W:World} {g:Nat} (h:g≤W.heap.size):(tr W g).heap.size=g:=by
  show (W.heap.extract 0 g).size=g
  rw [Array.size_extract]
  omega
theorem kP {W:World} {g i:Nat} (h:i<g):(tr W g).heap[i]? =W.heap[i]? :=by
  show (W.heap.extract 0 g)[i]? =W.heap[i]?
  rw [Array.getElem?_extract]
  simp
  omega
theorem gF {W:World} {g:Nat} (h:g≤W.heap.size):Below (tr W g).heap.size (tr W g) W:=⟨rfl,rfl,rfl,by rw [gB h];exact h,fun i hi=>(kP (by rw [gB h] at hi;exact hi)).symm⟩
structure Kq (W W':World) (g:Nat):Prop where
  os:W'.os=W.os
  tape:W'.tape=W.tape
  output:W'.output=W.output
  kb:KeepBut W W' g none
theorem Kq.of {W W':World} {g:Nat} (hg:g≤W.heap.size) (h:Below (tr W g).heap.size (tr W g) W') (k:KeepBut W W' g none):Kq W W' g:=⟨h.os,h.tape,h.output,k⟩
theorem Kq.row {α:Type} {d:Kd α} {e b g t:Nat} {ok:Nat→Prop} {v:Value} {xs:List α} {W W':World} {cs:Array Value} (q:Kq W W' g) (h:d.R e W b ok v xs) (hb:W.heap[g]? =some (.cells cs t (0,0))) (ht:∀q,q ∈ e::d.E→q≠t:=by decide):d.R e W' b ok v xs:=Kd.R_mono (Kd.R_keep (Kd.R_types h hb ht) q.kb (fun _ h=>h.2)) (fun _ h=>h.1)
theorem Kq.blk {g g2:Nat} {o:Obj} {W W':World} (q:Kq W W' g) (h:W.heap[g2]? =some o) (hn:g2≠g):W'.heap[g2]? =some o:=q.kb.blk h hn (by simp)
theorem Kq.bel {w W W':World} {g:Nat} (q:Kq W W' g) (h:Below w.heap.size w W) (hg:w.heap.size≤g):Below w.heap.size w W':=⟨q.os.trans h.os,q.tape.trans h.tape,q.output.trans h.output,Nat.le_trans h.size q.kb.1,fun i hi=>(q.kb.2 i (Nat.lt_of_lt_of_le hi h.size) (by omega) (by simp)).trans (h.block i hi)⟩
theorem gC {k:IntKind} {e b g:Nat} {ok:Nat→Prop} {A:Option Addr} {n c:Nat} {xs:List Int} {W:World} (h:Kd.R (Kd.int k) e W b ok (.slice A n c) xs) (hl:∀i,(Value.slice A n c).ownBlock=some i→i<g):Kd.C (Kd.int k) (tr W g) A xs.length xs:=by
  obtain ⟨_,_,h1,h2,h3⟩:=Kd.R_reads' h
  refine ⟨h1,h2,fun hp=>?_⟩
  obtain ⟨ad,e1,h4⟩:=h3 hp
  refine ⟨ad,e1,fun j p hj=>?_⟩
  obtain ⟨cs,c1,c2,c3⟩:=h4 j p hj
  refine ⟨cs,c1,c2,fun i u hu=>?_⟩
  have:=c3 i u hu
  have hi:ad.block<g:=hl _ (by rw [e1];rfl)
  unfold World.cell? at this ⊢
  rw [show (ad.add (j*(Kd.int k).sz+i)).block=ad.block from by unfold Addr.add;split<;>rfl] at this ⊢
  rw [kP hi]
  exact this
end Go.Proofs.Ytgppikopdpeigaa.XFnPdus
