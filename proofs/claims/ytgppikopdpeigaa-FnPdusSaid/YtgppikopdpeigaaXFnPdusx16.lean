/- The functions that one law reaches, as Lean functions, with their walks: printed by a program of this seat (wip/tools) out of the translation. -/
import Derived.Test.YtgppikopdpeigaaXFnPdusx0
import Derived.Test.YtgppikopdpeigaaXFnPdusx15
namespace Go.Proofs.Ytgppikopdpeigaa.XFnPdus
open Go.RowKit Go.Proofs.YtgppikopdpeigaaW.PrintWords Go.Proofs.YtgppikopdpeigaaW.PrintLast Go.Proofs.YtgppikopdpeigaaW.PrintMore
attribute [local go_sem] cO cP dH dI cC cD cQ cR
set_option maxHeartbeats 8000000
set_option maxRecDepth 100000
set_option linter.unusedVariables false
set_option linter.unusedSimpArgs false
def aU (Z:Option Addr→Nat→Prop) (w0 W:World) (g:Nat) (f0:List Int) (f1:Int) (f2:Bool):Prop:=∃A0 c0,W.heap[g]? =some (.cells #[.slice A0 f0.length c0,.int .i64 f1,.bool f2] 57 (0,0))∧w0.heap.size≤g∧((Kd.C (Kd.int .u8) w0 A0 f0.length f0∧f0.length≤c0)∧Z A0 c0)
theorem aU.grown {Z:Option Addr→Nat→Prop} {w0 W:World} {g:Nat} {f0:List Int} {f1:Int} {f2:Bool} {W1:World} {row:Option Nat} (h:aU Z w0 W g f0 f1 f2) (hw:W.grownBy W1 row) (hne:some g≠row):aU Z w0 W1 g f0 f1 f2:=by
 obtain ⟨A0,c0,hb,hg,A1⟩:=h
 exact ⟨A0,c0,cB hb hw hne,hg,A1⟩
theorem aU.own_neN {Z:Option Addr→Nat→Prop} {w0 W:World} {g:Nat} {f0:List Int} {f1:Int} {f2:Bool} {α:Type} {d:Kd α} {e:Nat} {base:Nat} {ok:Nat→Prop} {v:Value} {xs:List α} (h:aU Z w0 W g f0 f1 f2) (ho:Kd.N d e W base ok v xs) (ht:e≠57):some g≠v.ownBlock:=by
 obtain ⟨A0,c0,hb,hg,A1⟩:=h
 exact Kd.N_ne ho hb ht
theorem aU.fresh {Z:Option Addr→Nat→Prop} {w0 W:World} {g:Nat} {f0:List Int} {f1:Int} {f2:Bool} (h:aU Z w0 W g f0 f1 f2):∀k,W.heap.size≤k→k≠g:=by
 obtain ⟨A0,c0,hb,hg,A1⟩:=h
 exact Kd.freshB hb
theorem aU.kept {Z:Option Addr→Nat→Prop} {w0 W:World} {g:Nat} {f0:List Int} {f1:Int} {f2:Bool} {W1:World} {S:Nat→Prop} (h:aU Z w0 W g f0 f1 f2) (hk:cE W W1 S) (hne:¬S g):aU Z w0 W1 g f0 f1 f2:=by
 obtain ⟨A0,c0,hb,hg,A1⟩:=h
 exact ⟨A0,c0,hZ hb hk hne,hg,A1⟩
theorem aU.below {Z:Option Addr→Nat→Prop} {w0 W:World} {g:Nat} {f0:List Int} {f1:Int} {f2:Bool} {W1:World} (h:aU Z w0 W g f0 f1 f2) (hw:Below W.heap.size W W1):aU Z w0 W1 g f0 f1 f2:=h.grown (fD hw none) (by simp)
theorem aU.alloc {Z:Option Addr→Nat→Prop} {w0 W:World} {g:Nat} {f0:List Int} {f1:Int} {f2:Bool} (h:aU Z w0 W g f0 f1 f2) (o:Obj):aU Z w0 (W.alloc o) g f0 f1 f2:=h.below (dB (Below.refl _ _) o)
theorem aU.drewN {Z:Option Addr→Nat→Prop} {w0 W:World} {g:Nat} {f0:List Int} {f1:Int} {f2:Bool} (h:aU Z w0 W g f0 f1 f2) (m:Nat):aU Z w0 (W.drewN m) g f0 f1 f2:=h
theorem aU.drew {Z:Option Addr→Nat→Prop} {w0 W:World} {g:Nat} {f0:List Int} {f1:Int} {f2:Bool} (h:aU Z w0 W g f0 f1 f2):aU Z w0 W.drew g f0 f1 f2:=h
theorem aU.at_ {Z:Option Addr→Nat→Prop} {w0 W:World} {g:Nat} {f0:List Int} {f1:Int} {f2:Bool} {w':World} {m:Nat} (hq:W.drewN m=w') (h:aU Z w0 W g f0 f1 f2):aU Z w0 w' g f0 f1 f2:=by subst hq;exact aU.drewN h m
theorem aU.apart {Z:Option Addr→Nat→Prop} {w0 W:World} {g:Nat} {f0:List Int} {f1:Int} {f2:Bool} {α:Type} {d:Kd α} {e:Nat} {base:Nat} {ok:Nat→Prop} {v:Value} {xs:List α} (h:aU Z w0 W g f0 f1 f2) (ho:d.R e W base ok v xs) (ht:∀q,q ∈ e::d.E→q≠57):d.R e W base (fun k=>ok k∧k≠g) v xs:=by
 obtain ⟨A0,c0,hb,hg,A1⟩:=h
 exact Kd.R_types ho hb ht
theorem aU.own_ne {Z:Option Addr→Nat→Prop} {w0 W:World} {g:Nat} {f0:List Int} {f1:Int} {f2:Bool} {α:Type} {d:Kd α} {e:Nat} {base:Nat} {ok:Nat→Prop} {v:Value} {xs:List α} (h:aU Z w0 W g f0 f1 f2) (ho:d.R e W base ok v xs) (ht:e≠57):some g≠v.ownBlock:=by
 obtain ⟨A0,c0,hb,hg,A1⟩:=h
 exact Kd.R_ne ho hb ht
theorem aU.apartQ {Z:Option Addr→Nat→Prop} {w0 W:World} {g:Nat} {f0:List Int} {f1:Int} {f2:Bool} {α:Type} {d:Kd α} {e:Nat} {base:Nat} {ok:Nat→Prop} {v:Value} {xs:List α} (h:aU Z w0 W g f0 f1 f2) (ho:d.Q e W base ok v xs) (ht:∀q,q ∈ e::d.E→q≠57):d.Q e W base (fun k=>ok k∧k≠g) v xs:=by
 obtain ⟨A0,c0,hb,hg,A1⟩:=h
 exact Kd.Q_types ho hb ht
theorem aU.own_neQ {Z:Option Addr→Nat→Prop} {w0 W:World} {g:Nat} {f0:List Int} {f1:Int} {f2:Bool} {α:Type} {d:Kd α} {e:Nat} {base:Nat} {ok:Nat→Prop} {v:Value} {xs:List α} (h:aU Z w0 W g f0 f1 f2) (ho:d.Q e W base ok v xs) (ht:e≠57):some g≠v.ownBlock:=by
 obtain ⟨A0,c0,hb,hg,A1⟩:=h
 exact Kd.Q_ne ho hb ht
theorem aU.apartS {Z:Option Addr→Nat→Prop} {w0 W:World} {g:Nat} {f0:List Int} {f1:Int} {f2:Bool} {α:Type} {d:Kd α} {e:Nat} {base:Nat} {ok:Nat→Prop} {v:Value} {xs:List α} (h:aU Z w0 W g f0 f1 f2) (ho:d.S e W base ok v xs) (ht:∀q,q ∈ e::d.E→q≠57):d.S e W base (fun k=>ok k∧k≠g) v xs:=by
 obtain ⟨A0,c0,hb,hg,A1⟩:=h
 exact Kd.S_types ho hb ht
theorem aU.own_neS {Z:Option Addr→Nat→Prop} {w0 W:World} {g:Nat} {f0:List Int} {f1:Int} {f2:Bool} {α:Type} {d:Kd α} {e:Nat} {base:Nat} {ok:Nat→Prop} {v:Value} {xs:List α} (h:aU Z w0 W g f0 f1 f2) (ho:d.S e W base ok v xs) (ht:e≠57):some g≠v.ownBlock:=by
 obtain ⟨A0,c0,hb,hg,A1⟩:=h
 exact Kd.S_ne ho hb ht
theorem aU.lt {Z:Option Addr→Nat→Prop} {w0 W:World} {g:Nat} {f0:List Int} {f1:Int} {f2:Bool} (h:aU Z w0 W g f0 f1 f2):g<W.heap.size:=by
 obtain ⟨A0,c0,hb,hg,A1⟩:=h
 exact e8 hb
theorem aU.ge {Z:Option Addr→Nat→Prop} {w0 W:World} {g:Nat} {f0:List Int} {f1:Int} {f2:Bool} (h:aU Z w0 W g f0 f1 f2):w0.heap.size≤g:=by
 obtain ⟨A0,c0,hb,hg,A1⟩:=h
 exact hg
theorem aU.ne_blk {Z:Option Addr→Nat→Prop} {w0 W:World} {g:Nat} {f0:List Int} {f1:Int} {f2:Bool} {a:Nat} {cs:Array Value} {t:TypeId} {fr:Nat × Nat} (h:aU Z w0 W g f0 f1 f2) (A1:W.heap[a]? =some (.cells cs t fr)) (ht:t≠57):g≠a:=by
 obtain ⟨A0,c0,hb,hg,A3⟩:=h
 rintro rfl
 rw [hb] at A1
 injection A1 with A1
 injection A1 with _ A2
 exact ht A2.symm
theorem aU.far {Z:Option Addr→Nat→Prop} {w0 W:World} {g:Nat} {f0:List Int} {f1:Int} {f2:Bool} {p:Addr} (h:aU Z w0 W g f0 f1 f2) (hne:g≠p.block) (u:Value):aU Z w0 (W.setCell p u) g f0 f1 f2:=by
 obtain ⟨A0,c0,hb,hg,A1⟩:=h
 exact ⟨A0,c0,aN hb hne u,hg,A1⟩
theorem dV {W:World} {g:Nat} {A0:Option Addr} {c0:Nat} {f0:List Int} {f1:Int} {f2:Bool} (h:W.heap[g]? =some (.cells #[.slice A0 f0.length c0,.int .i64 f1,.bool f2] 57 (0,0))):W.cell? ⟨g,0,none⟩=some (.slice A0 f0.length c0):=(aA h 0).trans rfl
theorem dW {W:World} {g:Nat} {A0:Option Addr} {c0:Nat} {f0:List Int} {f1:Int} {f2:Bool} (h:W.heap[g]? =some (.cells #[.slice A0 f0.length c0,.int .i64 f1,.bool f2] 57 (0,0))):W.cell? ⟨g,1,none⟩=some (.int .i64 f1):=(aA h 1).trans rfl
theorem aU.set_1 {Z:Option Addr→Nat→Prop} {w0 W:World} {g:Nat} {f0:List Int} {f1:Int} {f2:Bool} (h:aU Z w0 W g f0 f1 f2) (x:Int):aU Z w0 (W.setCell ⟨g,1,none⟩ (.int .i64 x)) g f0 x f2:=by
 obtain ⟨A0,c0,hb,hg,A1⟩:=h
 exact ⟨A0,c0,by simpa using f5 hb 1 (.int .i64 x),hg,A1⟩
theorem dX {W:World} {g:Nat} {A0:Option Addr} {c0:Nat} {f0:List Int} {f1:Int} {f2:Bool} (h:W.heap[g]? =some (.cells #[.slice A0 f0.length c0,.int .i64 f1,.bool f2] 57 (0,0))):W.cell? ⟨g,2,none⟩=some (.bool f2):=(aA h 2).trans rfl
theorem aU.set_2 {Z:Option Addr→Nat→Prop} {w0 W:World} {g:Nat} {f0:List Int} {f1:Int} {f2:Bool} (h:aU Z w0 W g f0 f1 f2) (x:Bool):aU Z w0 (W.setCell ⟨g,2,none⟩ (.bool x)) g f0 f1 x:=by
 obtain ⟨A0,c0,hb,hg,A1⟩:=h
 exact ⟨A0,c0,by simpa using f5 hb 2 (.bool x),hg,A1⟩
theorem aU.q0 {a b:Prop} (h:a) (g:a→b:=by intro h_;repeat (first|(with_reducible first|exact h_|apply aU.alloc|apply aU.drewN|apply aU.drew|apply aU.set_1|apply aU.set_2)|exact h_)):b:=g h
theorem aU.q1 {a b:Prop} {c0:Prop} (h:a) (h0:c0) (g:a→c0→b:=by intro h_ A0;repeat (first|(with_reducible first|exact h_|apply aU.alloc|apply aU.drewN|apply aU.drew|apply aU.set_1|apply aU.set_2|refine aU.far ?_ A0 _)|exact h_)):b:=g h h0
theorem aU.q2 {a b:Prop} {c0:Prop} {c1:Prop} (h:a) (h0:c0) (h1:c1) (g:a→c0→c1→b:=by intro h_ A0 A1;repeat (first|(with_reducible first|exact h_|apply aU.alloc|apply aU.drewN|apply aU.drew|apply aU.set_1|apply aU.set_2|refine aU.far ?_ A0 _|refine aU.far ?_ A1 _)|exact h_)):b:=g h h0 h1
theorem aU.q3 {a b:Prop} {c0:Prop} {c1:Prop} {c2:Prop} (h:a) (h0:c0) (h1:c1) (h2:c2) (g:a→c0→c1→c2→b:=by intro h_ A0 A1 A2;repeat (first|(with_reducible first|exact h_|apply aU.alloc|apply aU.drewN|apply aU.drew|apply aU.set_1|apply aU.set_2|refine aU.far ?_ A0 _|refine aU.far ?_ A1 _|refine aU.far ?_ A2 _)|exact h_)):b:=g h h0 h1 h2
def bA.f (k:Nat) (A3:List Int) (A1:Int) (A2:Bool) (a1:Int):Option (List Int × Int × Bool):=(bE.f k A3 A1).bind fun A0=>(if A2=true then (some (([]:List Int),A1,true)) else (if A0.2.2.2=true then (if A0.1=a1 then (some (A0.2.1,A0.2.2.1,A2)) else (some (([]:List Int),A1,true))) else (some (([]:List Int),A1,true))))
def bA.T1:Bool × List (List Nat × List Nat):=(true,[([],[]),([0],[0]),([1],[1]),([2],[2]),([],[]),([4],[4]),([5],[5]),([6],[6]),([3,7],[3,7]),([8],[8]),([9],[9]),([9],[9]),([9],[9]),([9],[9]),([10,8,0,1,2,3,4,5,6,7,8,9,10],[10]),([11,14,0,1,2,3,4,5,6,7,8,9,10,11,14],[11]),([12,15,0,1,2,3,4,5,6,7,8,9,10,11,12,14,15],[12]),([13,16,0,1,2,3,4,5,6,7,8,9,10,11,12,13,14,15,16],[13])])
def bA.B1:List Nat:=[0,1,3,7,0,16,48,112,255,511,1023,1023,1023,1023,2047,20479,57343,131071]
theorem bA.tab1:eR .any (fM Try.f28 1)=bA.T1:=by kernel_rfl
theorem bA.bits1:eJ bA.T1.2 bA.B1=true:=by kernel_rfl
theorem bA.calls (k:Nat) (g:Nat) (A2:List Int) (A1:Int) (Ax:Bool) (a1:Int) (r1:List Int) (r2:Int) (r3:Bool) (w0 w:World) {Z:Option Addr→Nat→Prop} (hI:aU Z w0 w g A2 A1 Ax) (hB:Below w0.heap.size w0 w) (h:bA.f k A2 A1 Ax a1=some (r1,r2,r3)):
 Calls Try.prog 28 #[.pointer (some ⟨g,0,none⟩),.int .i64 a1] w fun e w'=>∃C4:Value,e=.returned (C4)∧Kd.R (Kd.int .u8) 5 w' w.heap.size (fun _=>True) C4 r1∧aU Z w0 w' g A2 r2 r3∧Below w0.heap.size w0 w'∧KeepBut w w' g none:=by
 have A3:=am hI
 have HK:=am (KeepBut.refl w g none)
 have HL:=am hB.size
 clear hI
 have C8:=am hB.size
 have HB:=am hB
 clear hB
 have H:=h
 clear h
 unfold bA.f at H
 replace H:=be H
 obtain ⟨⟨Ac,Ad,A4,An⟩,B6,H⟩:=H
 try dsimp only at H
 rcases Decidable.em (Ax=true) with c4|c4
 · subst c4
   replace H:(some (([]:List Int),A1,true))=some (r1,r2,r3):=by rw [if_pos rfl] at H;exact H
   simp only [k4,k5] at H
   obtain ⟨rfl,rfl,rfl⟩:=H
   go_enter Try.func28,Try.ntmps28
   try go_wp2
   obtain ⟨Ao,Ap,Az,B0,Ae⟩:=A3.o
   have A0:=am Az
   have A8:=am B0
   clear Az B0 A3
   have n_:=ak3 (a7 A0.o) (d9 HK.o) (bB HB.o)
   clear A0 HK HB
   obtain ⟨A0,HK,HB⟩:=n_
   refine cW (n:=18) (S:=fun w'=>w'.cell? ⟨g,0,none⟩=some (.slice Ao A2.length Ap)∧w'.cell? ⟨g,1,none⟩=some (.int .i64 A1)∧w'.cell? ⟨g,2,none⟩=some (.bool true)) (ds:=[]) #[F,F,F,F,F,F,F,F,F,F,F,F,F,F,F,F,F,F] (by kernel_rfl) rfl rfl ⟨(aA A0.o 0).trans rfl,(aA A0.o 1).trans rfl,(aA A0.o 2).trans rfl⟩ (fun hHeld=>?_);refine bW bA.tab1 bA.bits1 (fun HT_ HW_=>?_)
   generalize w.drew=w6 at A0 HK HB hHeld ⊢
   refine pv HT_ 0 (some 10) #[T,F,F,F,F,F,F,F,F,F,F,F,F,F,F,F,F,F] ?_
   refine pv HT_ 1 (some 11) #[T,T,F,F,F,F,F,F,F,F,F,F,F,F,F,F,F,F] ?_
   refine pv HT_ 2 (some 12) #[T,T,T,F,F,F,F,F,F,F,F,F,F,F,F,F,F,F] ?_
   refine pv HT_ 4 (some 14) #[T,T,T,F,T,F,F,F,F,F,F,F,F,F,F,F,F,F] ?_
   refine pv HT_ 5 (some 15) #[T,T,T,F,T,T,F,F,F,F,F,F,F,F,F,F,F,F] ?_
   refine pv HT_ 6 (some 16) #[T,T,T,F,T,T,T,F,F,F,F,F,F,F,F,F,F,F] ?_
   refine tk 3 (some 13) #[T,T,T,T,T,T,T,F,F,F,F,F,F,F,F,F,F,F] rfl rfl (aZ HT_.o HW_.o (by kernel_rfl)) hHeld (Or.inl ⟨by rfl,by rintro w' ⟨s0,s1,s2⟩;go_simp;with_reducible rfl⟩) ?_
   refine tk 7 (some 17) #[T,T,T,T,T,T,T,T,F,F,F,F,F,F,F,F,F,F] rfl rfl (aZ HT_.o HW_.o (by kernel_rfl)) hHeld (Or.inl ⟨by rfl,by rintro w' ⟨s0,s1,s2⟩;go_simp;with_reducible rfl⟩) ?_
   refine dM (i:=8) (N:=some 18) #[T,T,T,T,T,T,T,T,T,F,F,F,F,F,F,F,F,F] rfl rfl (bS HT_.o (by kernel_rfl)) (by decide) (fun K hK=>?_)
   refine cU Try.func26 (by kernel_rfl) rfl #[.slice Ao A2.length Ap,.int .i64 A1] (by rfl) rfl rfl ga ?_
   with_reducible refine (bE.calls k _ _ A2 A1 Ac Ad A4 An _ ?side1 ?side2 B6.o).mono ?_
   (case side1=>exact Kd.C_below Ae.1.1 (bq1 HB.o A8.o))
   (case side2=>exact Ae.1.2)
   rintro e w7 ⟨Ay,rfl,Aq,hb⟩
   refine ⟨_,rfl,?_⟩
   have n_:=ak4 (Kd.R_lower Aq (a8 (w:=w) (g:=g) (row:=none) (kp0 HK.o))) (kb A0 hb) (KeepBut.trans (kp0 HK.o) (KeepBut.of_below hb g none) (.inl rfl)) (aC (bq1 HB.o A8.o) hb)
   clear A0 HK HB
   obtain ⟨Af,A0,HK,HB⟩:=n_
   (try clear hb Aq)
   refine hK.out _ _ ⟨(aA A0.o 0).trans rfl,(aA A0.o 1).trans rfl,(aA A0.o 2).trans rfl⟩ (fun hHeld=>?_)
   clear hK K
   refine bZ (a':=?_) ?_ ?_
   rotate_left
   · show Act.put _ (some 18) _=_
     simp only [Act.put,kX,kY,kZ,aI,aK]
     rfl
   refine pv HT_ 9 (some 9) #[T,T,T,T,T,T,T,T,T,T,F,F,F,F,F,F,F,F] ?_
   refine pv HT_ 10 (some 19) #[T,T,T,T,T,T,T,T,T,T,T,F,F,F,F,F,F,F] ?_
   refine pv HT_ 11 (some 20) #[T,T,T,T,T,T,T,T,T,T,T,T,F,F,F,F,F,F] ?_
   refine pv HT_ 12 (some 21) #[T,T,T,T,T,T,T,T,T,T,T,T,T,F,F,F,F,F] ?_
   refine pv HT_ 13 (some 22) #[T,T,T,T,T,T,T,T,T,T,T,T,T,T,F,F,F,F] ?_
   refine pv HT_ 14 (some 5) #[T,T,T,T,T,T,T,T,T,T,T,T,T,T,T,F,F,F] ?_
   refine pv HT_ 15 (some 6) #[T,T,T,T,T,T,T,T,T,T,T,T,T,T,T,T,F,F] ?_
   refine pv HT_ 16 (some 7) #[T,T,T,T,T,T,T,T,T,T,T,T,T,T,T,T,T,F] ?_
   refine pv HT_ 17 (some 8) #[T,T,T,T,T,T,T,T,T,T,T,T,T,T,T,T,T,T] ?_
   refine d5 (cL HT_.o (by kernel_rfl)) ?_
   have A3:=am (show aU Z w0 w7 g A2 A1 true from ⟨_,_,A0.o,A8.o,Ae⟩)
   clear A0 A8
   obtain ⟨Bv,Bw,Am,Bx,By⟩:=A3.o
   have Bz:=dV Am
   have C0:=dW Am
   have C1:=dX Am
   have C2:=aM Am 1
   have C3:=aM Am 2
   clear Am Bx
   try go_wp2
   go_ret
   exact ⟨_,rq,rn,aU.q0 A3.o,bq1 HB.o (aU.ge A3.o),kp0 HK.o⟩
 replace c4:=Bool.eq_false_iff.mpr c4
 subst c4
 replace H:(if An=true then (if Ac=a1 then (some (Ad,A4,false)) else (some (([]:List Int),A1,true))) else (some (([]:List Int),A1,true)))=some (r1,r2,r3):=by rw [if_neg (show ¬(false=true) by decide)] at H;exact H
 cases An
 · replace H:=iF H
   simp only [k4,k5] at H
   obtain ⟨rfl,rfl,rfl⟩:=H
   go_enter Try.func28,Try.ntmps28
   try go_wp2
   obtain ⟨Ag,Ah,Ar,As,A9⟩:=A3.o
   have A0:=am Ar
   have A8:=am As
   clear Ar As A3
   have n_:=ak3 (a7 A0.o) (d9 HK.o) (bB HB.o)
   clear A0 HK HB
   obtain ⟨A0,HK,HB⟩:=n_
   refine cW (n:=18) (S:=fun w'=>w'.cell? ⟨g,0,none⟩=some (.slice Ag A2.length Ah)∧w'.cell? ⟨g,1,none⟩=some (.int .i64 A1)∧w'.cell? ⟨g,2,none⟩=some (.bool false)) (ds:=[]) #[F,F,F,F,F,F,F,F,F,F,F,F,F,F,F,F,F,F] (by kernel_rfl) rfl rfl ⟨(aA A0.o 0).trans rfl,(aA A0.o 1).trans rfl,(aA A0.o 2).trans rfl⟩ (fun hHeld=>?_);refine bW bA.tab1 bA.bits1 (fun HT_ HW_=>?_)
   generalize w.drew=C9 at A0 HK HB hHeld ⊢
   refine pv HT_ 0 (some 10) #[T,F,F,F,F,F,F,F,F,F,F,F,F,F,F,F,F,F] ?_
   refine pv HT_ 1 (some 11) #[T,T,F,F,F,F,F,F,F,F,F,F,F,F,F,F,F,F] ?_
   refine pv HT_ 2 (some 12) #[T,T,T,F,F,F,F,F,F,F,F,F,F,F,F,F,F,F] ?_
   refine pv HT_ 4 (some 14) #[T,T,T,F,T,F,F,F,F,F,F,F,F,F,F,F,F,F] ?_
   refine pv HT_ 5 (some 15) #[T,T,T,F,T,T,F,F,F,F,F,F,F,F,F,F,F,F] ?_
   refine pv HT_ 6 (some 16) #[T,T,T,F,T,T,T,F,F,F,F,F,F,F,F,F,F,F] ?_
   refine tk 3 (some 13) #[T,T,T,T,T,T,T,F,F,F,F,F,F,F,F,F,F,F] rfl rfl (aZ HT_.o HW_.o (by kernel_rfl)) hHeld (Or.inl ⟨by rfl,by rintro w' ⟨s0,s1,s2⟩;go_simp;with_reducible rfl⟩) ?_
   refine tk 7 (some 17) #[T,T,T,T,T,T,T,T,F,F,F,F,F,F,F,F,F,F] rfl rfl (aZ HT_.o HW_.o (by kernel_rfl)) hHeld (Or.inl ⟨by rfl,by rintro w' ⟨s0,s1,s2⟩;go_simp;with_reducible rfl⟩) ?_
   refine dM (i:=8) (N:=some 18) #[T,T,T,T,T,T,T,T,T,F,F,F,F,F,F,F,F,F] rfl rfl (bS HT_.o (by kernel_rfl)) (by decide) (fun K hK=>?_)
   refine cU Try.func26 (by kernel_rfl) rfl #[.slice Ag A2.length Ah,.int .i64 A1] (by rfl) rfl rfl ga ?_
   with_reducible refine (bE.calls k _ _ A2 A1 Ac Ad A4 false _ ?side1 ?side2 B6.o).mono ?_
   (case side1=>exact Kd.C_below A9.1.1 (bq1 HB.o A8.o))
   (case side2=>exact A9.1.2)
   rintro e C5 ⟨Ay,rfl,Aq,hb⟩
   refine ⟨_,rfl,?_⟩
   have n_:=ak4 (Kd.R_lower Aq (a8 (w:=w) (g:=g) (row:=none) (kp0 HK.o))) (kb A0 hb) (KeepBut.trans (kp0 HK.o) (KeepBut.of_below hb g none) (.inl rfl)) (aC (bq1 HB.o A8.o) hb)
   clear A0 HK HB
   obtain ⟨Af,A0,HK,HB⟩:=n_
   (try clear hb Aq)
   refine hK.out _ _ ⟨(aA A0.o 0).trans rfl,(aA A0.o 1).trans rfl,(aA A0.o 2).trans rfl⟩ (fun hHeld=>?_)
   clear hK K
   refine bZ (a':=?_) ?_ ?_
   rotate_left
   · show Act.put _ (some 18) _=_
     simp only [Act.put,kX,kY,kZ,aI,aK]
     rfl
   refine pv HT_ 9 (some 9) #[T,T,T,T,T,T,T,T,T,T,F,F,F,F,F,F,F,F] ?_
   refine pv HT_ 10 (some 19) #[T,T,T,T,T,T,T,T,T,T,T,F,F,F,F,F,F,F] ?_
   refine pv HT_ 11 (some 20) #[T,T,T,T,T,T,T,T,T,T,T,T,F,F,F,F,F,F] ?_
   refine pv HT_ 12 (some 21) #[T,T,T,T,T,T,T,T,T,T,T,T,T,F,F,F,F,F] ?_
   refine pv HT_ 13 (some 22) #[T,T,T,T,T,T,T,T,T,T,T,T,T,T,F,F,F,F] ?_
   refine pv HT_ 14 (some 5) #[T,T,T,T,T,T,T,T,T,T,T,T,T,T,T,F,F,F] ?_
   refine pv HT_ 15 (some 6) #[T,T,T,T,T,T,T,T,T,T,T,T,T,T,T,T,F,F] ?_
   refine pv HT_ 16 (some 7) #[T,T,T,T,T,T,T,T,T,T,T,T,T,T,T,T,T,F] ?_
   refine pv HT_ 17 (some 8) #[T,T,T,T,T,T,T,T,T,T,T,T,T,T,T,T,T,T] ?_
   refine d5 (cL HT_.o (by kernel_rfl)) ?_
   have A3:=am (show aU Z w0 C5 g A2 A1 false from ⟨_,_,A0.o,A8.o,A9⟩)
   clear A0 A8
   obtain ⟨B7,B8,A5,B1,B9⟩:=A3.o
   have Ba:=dV A5
   have Bb:=dW A5
   have Bc:=dX A5
   have Bd:=aM A5 1
   have Be:=aM A5 2
   clear A5 B1
   try go_wp2
   go_ret
   exact ⟨_,rq,rn,aU.q0 A3.o,bq1 HB.o (aU.ge A3.o),kp0 HK.o⟩
 replace H:=iT H
 replace H:=iq' H
 rcases H with ⟨Ca,B2,B3,H⟩|⟨-,B2,B3,H⟩
 · simp only [k4,k5] at H
   obtain ⟨rfl,rfl,rfl⟩:=H
   go_enter Try.func28,Try.ntmps28
   try go_wp2
   obtain ⟨Ai,Aj,At,Au,Aa⟩:=A3.o
   have A0:=am At
   have A8:=am Au
   clear At Au A3
   have n_:=ak3 (a7 A0.o) (d9 HK.o) (bB HB.o)
   clear A0 HK HB
   obtain ⟨A0,HK,HB⟩:=n_
   refine cW (n:=18) (S:=fun w'=>w'.cell? ⟨g,0,none⟩=some (.slice Ai A2.length Aj)∧w'.cell? ⟨g,1,none⟩=some (.int .i64 A1)∧w'.cell? ⟨g,2,none⟩=some (.bool false)) (ds:=[]) #[F,F,F,F,F,F,F,F,F,F,F,F,F,F,F,F,F,F] (by kernel_rfl) rfl rfl ⟨(aA A0.o 0).trans rfl,(aA A0.o 1).trans rfl,(aA A0.o 2).trans rfl⟩ (fun hHeld=>?_);refine bW bA.tab1 bA.bits1 (fun HT_ HW_=>?_)
   generalize w.drew=Cb at A0 HK HB hHeld ⊢
   refine pv HT_ 0 (some 10) #[T,F,F,F,F,F,F,F,F,F,F,F,F,F,F,F,F,F] ?_
   refine pv HT_ 1 (some 11) #[T,T,F,F,F,F,F,F,F,F,F,F,F,F,F,F,F,F] ?_
   refine pv HT_ 2 (some 12) #[T,T,T,F,F,F,F,F,F,F,F,F,F,F,F,F,F,F] ?_
   refine pv HT_ 4 (some 14) #[T,T,T,F,T,F,F,F,F,F,F,F,F,F,F,F,F,F] ?_
   refine pv HT_ 5 (some 15) #[T,T,T,F,T,T,F,F,F,F,F,F,F,F,F,F,F,F] ?_
   refine pv HT_ 6 (some 16) #[T,T,T,F,T,T,T,F,F,F,F,F,F,F,F,F,F,F] ?_
   refine tk 3 (some 13) #[T,T,T,T,T,T,T,F,F,F,F,F,F,F,F,F,F,F] rfl rfl (aZ HT_.o HW_.o (by kernel_rfl)) hHeld (Or.inl ⟨by rfl,by rintro w' ⟨s0,s1,s2⟩;go_simp;with_reducible rfl⟩) ?_
   refine tk 7 (some 17) #[T,T,T,T,T,T,T,T,F,F,F,F,F,F,F,F,F,F] rfl rfl (aZ HT_.o HW_.o (by kernel_rfl)) hHeld (Or.inl ⟨by rfl,by rintro w' ⟨s0,s1,s2⟩;go_simp;with_reducible rfl⟩) ?_
   refine dM (i:=8) (N:=some 18) #[T,T,T,T,T,T,T,T,T,F,F,F,F,F,F,F,F,F] rfl rfl (bS HT_.o (by kernel_rfl)) (by decide) (fun K hK=>?_)
   refine cU Try.func26 (by kernel_rfl) rfl #[.slice Ai A2.length Aj,.int .i64 A1] (by rfl) rfl rfl ga ?_
   with_reducible refine (bE.calls k _ _ A2 A1 Ac Ad A4 true _ ?side1 ?side2 B6.o).mono ?_
   (case side1=>exact Kd.C_below Aa.1.1 (bq1 HB.o A8.o))
   (case side2=>exact Aa.1.2)
   rintro e C6 ⟨Ay,rfl,Aq,hb⟩
   refine ⟨_,rfl,?_⟩
   have n_:=ak4 (Kd.R_lower Aq (a8 (w:=w) (g:=g) (row:=none) (kp0 HK.o))) (kb A0 hb) (KeepBut.trans (kp0 HK.o) (KeepBut.of_below hb g none) (.inl rfl)) (aC (bq1 HB.o A8.o) hb)
   clear A0 HK HB
   obtain ⟨Af,A0,HK,HB⟩:=n_
   (try clear hb Aq)
   refine hK.out _ _ ⟨(aA A0.o 0).trans rfl,(aA A0.o 1).trans rfl,(aA A0.o 2).trans rfl⟩ (fun hHeld=>?_)
   clear hK K
   refine bZ (a':=?_) ?_ ?_
   rotate_left
   · show Act.put _ (some 18) _=_
     simp only [Act.put,kX,kY,kZ,aI,aK]
     rfl
   refine pv HT_ 9 (some 9) #[T,T,T,T,T,T,T,T,T,T,F,F,F,F,F,F,F,F] ?_
   refine pv HT_ 10 (some 19) #[T,T,T,T,T,T,T,T,T,T,T,F,F,F,F,F,F,F] ?_
   refine pv HT_ 11 (some 20) #[T,T,T,T,T,T,T,T,T,T,T,T,F,F,F,F,F,F] ?_
   refine pv HT_ 12 (some 21) #[T,T,T,T,T,T,T,T,T,T,T,T,T,F,F,F,F,F] ?_
   refine pv HT_ 13 (some 22) #[T,T,T,T,T,T,T,T,T,T,T,T,T,T,F,F,F,F] ?_
   refine pv HT_ 14 (some 5) #[T,T,T,T,T,T,T,T,T,T,T,T,T,T,T,F,F,F] ?_
   refine pv HT_ 15 (some 6) #[T,T,T,T,T,T,T,T,T,T,T,T,T,T,T,T,F,F] ?_
   refine pv HT_ 16 (some 7) #[T,T,T,T,T,T,T,T,T,T,T,T,T,T,T,T,T,F] ?_
   refine pv HT_ 17 (some 8) #[T,T,T,T,T,T,T,T,T,T,T,T,T,T,T,T,T,T] ?_
   refine d5 (cL HT_.o (by kernel_rfl)) ?_
   have A3:=am (show aU Z w0 C6 g A2 A1 false from ⟨_,_,A0.o,A8.o,Aa⟩)
   clear A0 A8
   obtain ⟨Bf,Bg,A6,B4,Bh⟩:=A3.o
   have Bi:=dV A6
   have Bj:=dW A6
   have Bk:=dX A6
   have Bl:=aM A6 1
   have Bm:=aM A6 2
   clear A6 B4
   try go_wp2
   go_ret
   exact ⟨_,rq,rn,aU.q0 A3.o,bq1 HB.o (aU.ge A3.o),kp0 HK.o⟩
 simp only [k4,k5] at H
 obtain ⟨rfl,rfl,rfl⟩:=H
 go_enter Try.func28,Try.ntmps28
 try go_wp2
 obtain ⟨Ak,Al,Av,Aw,Ab⟩:=A3.o
 have A0:=am Av
 have A8:=am Aw
 clear Av Aw A3
 have n_:=ak3 (a7 A0.o) (d9 HK.o) (bB HB.o)
 clear A0 HK HB
 obtain ⟨A0,HK,HB⟩:=n_
 refine cW (n:=18) (S:=fun w'=>w'.cell? ⟨g,0,none⟩=some (.slice Ak A2.length Al)∧w'.cell? ⟨g,1,none⟩=some (.int .i64 A1)∧w'.cell? ⟨g,2,none⟩=some (.bool false)) (ds:=[]) #[F,F,F,F,F,F,F,F,F,F,F,F,F,F,F,F,F,F] (by kernel_rfl) rfl rfl ⟨(aA A0.o 0).trans rfl,(aA A0.o 1).trans rfl,(aA A0.o 2).trans rfl⟩ (fun hHeld=>?_);refine bW bA.tab1 bA.bits1 (fun HT_ HW_=>?_)
 generalize w.drew=Cc at A0 HK HB hHeld ⊢
 refine pv HT_ 0 (some 10) #[T,F,F,F,F,F,F,F,F,F,F,F,F,F,F,F,F,F] ?_
 refine pv HT_ 1 (some 11) #[T,T,F,F,F,F,F,F,F,F,F,F,F,F,F,F,F,F] ?_
 refine pv HT_ 2 (some 12) #[T,T,T,F,F,F,F,F,F,F,F,F,F,F,F,F,F,F] ?_
 refine pv HT_ 4 (some 14) #[T,T,T,F,T,F,F,F,F,F,F,F,F,F,F,F,F,F] ?_
 refine pv HT_ 5 (some 15) #[T,T,T,F,T,T,F,F,F,F,F,F,F,F,F,F,F,F] ?_
 refine pv HT_ 6 (some 16) #[T,T,T,F,T,T,T,F,F,F,F,F,F,F,F,F,F,F] ?_
 refine tk 3 (some 13) #[T,T,T,T,T,T,T,F,F,F,F,F,F,F,F,F,F,F] rfl rfl (aZ HT_.o HW_.o (by kernel_rfl)) hHeld (Or.inl ⟨by rfl,by rintro w' ⟨s0,s1,s2⟩;go_simp;with_reducible rfl⟩) ?_
 refine tk 7 (some 17) #[T,T,T,T,T,T,T,T,F,F,F,F,F,F,F,F,F,F] rfl rfl (aZ HT_.o HW_.o (by kernel_rfl)) hHeld (Or.inl ⟨by rfl,by rintro w' ⟨s0,s1,s2⟩;go_simp;with_reducible rfl⟩) ?_
 refine dM (i:=8) (N:=some 18) #[T,T,T,T,T,T,T,T,T,F,F,F,F,F,F,F,F,F] rfl rfl (bS HT_.o (by kernel_rfl)) (by decide) (fun K hK=>?_)
 refine cU Try.func26 (by kernel_rfl) rfl #[.slice Ak A2.length Al,.int .i64 A1] (by rfl) rfl rfl ga ?_
 with_reducible refine (bE.calls k _ _ A2 A1 Ac Ad A4 true _ ?side1 ?side2 B6.o).mono ?_
 (case side1=>exact Kd.C_below Ab.1.1 (bq1 HB.o A8.o))
 (case side2=>exact Ab.1.2)
 rintro e C7 ⟨Ay,rfl,Aq,hb⟩
 refine ⟨_,rfl,?_⟩
 have n_:=ak4 (Kd.R_lower Aq (a8 (w:=w) (g:=g) (row:=none) (kp0 HK.o))) (kb A0 hb) (KeepBut.trans (kp0 HK.o) (KeepBut.of_below hb g none) (.inl rfl)) (aC (bq1 HB.o A8.o) hb)
 clear A0 HK HB
 obtain ⟨Af,A0,HK,HB⟩:=n_
 (try clear hb Aq)
 refine hK.out _ _ ⟨(aA A0.o 0).trans rfl,(aA A0.o 1).trans rfl,(aA A0.o 2).trans rfl⟩ (fun hHeld=>?_)
 clear hK K
 refine bZ (a':=?_) ?_ ?_
 rotate_left
 · show Act.put _ (some 18) _=_
   simp only [Act.put,kX,kY,kZ,aI,aK]
   rfl
 refine pv HT_ 9 (some 9) #[T,T,T,T,T,T,T,T,T,T,F,F,F,F,F,F,F,F] ?_
 refine pv HT_ 10 (some 19) #[T,T,T,T,T,T,T,T,T,T,T,F,F,F,F,F,F,F] ?_
 refine pv HT_ 11 (some 20) #[T,T,T,T,T,T,T,T,T,T,T,T,F,F,F,F,F,F] ?_
 refine pv HT_ 12 (some 21) #[T,T,T,T,T,T,T,T,T,T,T,T,T,F,F,F,F,F] ?_
 refine pv HT_ 13 (some 22) #[T,T,T,T,T,T,T,T,T,T,T,T,T,T,F,F,F,F] ?_
 refine pv HT_ 14 (some 5) #[T,T,T,T,T,T,T,T,T,T,T,T,T,T,T,F,F,F] ?_
 refine pv HT_ 15 (some 6) #[T,T,T,T,T,T,T,T,T,T,T,T,T,T,T,T,F,F] ?_
 refine pv HT_ 16 (some 7) #[T,T,T,T,T,T,T,T,T,T,T,T,T,T,T,T,T,F] ?_
 refine pv HT_ 17 (some 8) #[T,T,T,T,T,T,T,T,T,T,T,T,T,T,T,T,T,T] ?_
 refine d5 (cL HT_.o (by kernel_rfl)) ?_
 have A3:=am (show aU Z w0 C7 g A2 A1 false from ⟨_,_,A0.o,A8.o,Ab⟩)
 clear A0 A8
 obtain ⟨Bn,Bo,A7,B5,Bp⟩:=A3.o
 have Bq:=dV A7
 have Br:=dW A7
 have Bs:=dX A7
 have Bt:=aM A7 1
 have Bu:=aM A7 2
 clear A7 B5
 try go_wp2
 go_ret
 exact ⟨_,rq,by refine kr ?_;exact Kd.R_mono (Kd.R_far (p:=⟨g,1,none⟩) (aU.apart A3.o Af.o (by decide)) (fun _ hk=>hk.2) (.int .i64 A4)) (fun _ hk=>trivial),aU.q0 A3.o,bq1 HB.o (aU.ge A3.o),kp0 HK.o⟩
theorem bA.box (k:Nat) (g:Nat) (A0:List Int) (A1:Int) (A2:Bool) (a1:Int) (r1:List Int) (r2:Int) (r3:Bool) (w:World) (A:Option Addr) (c:Nat) (hb:w.heap[g]? =some (.cells #[.slice A A0.length c,.int .i64 A1,.bool A2] 57 (0,0))) (hC:Kd.C (Kd.int .u8) (tr w g) A A0.length A0) (hc:A0.length≤c) (h:bA.f k A0 A1 A2 a1=some (r1,r2,r3)):
 Calls Try.prog 28 #[.pointer (some ⟨g,0,none⟩),.int .i64 a1] w fun e w'=>∃A3:Value,e=.returned (A3)∧Kd.R (Kd.int .u8) 5 w' w.heap.size (fun _=>True) A3 r1∧w'.heap[g]? =some (.cells #[.slice A A0.length c,.int .i64 r2,.bool r3] 57 (0,0))∧Kq w w' g:=by
 have hg:g≤w.heap.size:=Nat.le_of_lt (e8 hb)
 refine (bA.calls (Z:=fun A' c'=>A'=A∧c'=c) k g A0 A1 A2 a1 r1 r2 r3 (tr w g) w ⟨A,c,hb,by rw [gB hg];exact k7 _,⟨hC,hc⟩,rfl,rfl⟩ (gF hg) h).mono ?_
 rintro e w' ⟨v0,rfl,A4,⟨A',c',hb',_,_,hA,hc'⟩,hB,hk⟩
 exact ⟨v0,rfl,A4,by rw [hA,hc'] at hb';exact hb',Kq.of hg hB hk⟩
end Go.Proofs.Ytgppikopdpeigaa.XFnPdus
