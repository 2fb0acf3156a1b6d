/- The functions that one law reaches, as Lean functions, with their walks: printed by a program of this seat (wip/tools) out of the translation. -/
import Derived.Test.YtgppikopdpeigaaXFnPdusx0
import Derived.Test.YtgppikopdpeigaaXFnPdusx19
namespace Go.Proofs.Ytgppikopdpeigaa.XFnPdus
open Go.RowKit Go.Proofs.YtgppikopdpeigaaW.PrintWords Go.Proofs.YtgppikopdpeigaaW.PrintLast Go.Proofs.YtgppikopdpeigaaW.PrintMore
attribute [local go_sem] cO cP dH dI cC cD cQ cR
set_option maxHeartbeats 8000000
set_option maxRecDepth 100000
set_option linter.unusedVariables false
set_option linter.unusedSimpArgs false
def aT (Z:Option Addr→Nat→Prop) (w0 W:World) (g:Nat) (f0:List Int) (f1:Int) (f2:Bool):Prop:=∃A0 c0,W.heap[g]? =some (.cells #[.slice A0 f0.length c0,.int .i64 f1,.bool f2] 65 (0,0))∧w0.heap.size≤g∧((Kd.C (Kd.int .u8) w0 A0 f0.length f0∧f0.length≤c0)∧Z A0 c0)
theorem aT.grown {Z:Option Addr→Nat→Prop} {w0 W:World} {g:Nat} {f0:List Int} {f1:Int} {f2:Bool} {W1:World} {row:Option Nat} (h:aT Z w0 W g f0 f1 f2) (hw:W.grownBy W1 row) (hne:some g≠row):aT Z w0 W1 g f0 f1 f2:=by
 obtain ⟨A0,c0,hb,hg,A1⟩:=h
 exact ⟨A0,c0,cB hb hw hne,hg,A1⟩
theorem aT.own_neN {Z:Option Addr→Nat→Prop} {w0 W:World} {g:Nat} {f0:List Int} {f1:Int} {f2:Bool} {α:Type} {d:Kd α} {e:Nat} {base:Nat} {ok:Nat→Prop} {v:Value} {xs:List α} (h:aT Z w0 W g f0 f1 f2) (ho:Kd.N d e W base ok v xs) (ht:e≠65):some g≠v.ownBlock:=by
 obtain ⟨A0,c0,hb,hg,A1⟩:=h
 exact Kd.N_ne ho hb ht
theorem aT.fresh {Z:Option Addr→Nat→Prop} {w0 W:World} {g:Nat} {f0:List Int} {f1:Int} {f2:Bool} (h:aT Z w0 W g f0 f1 f2):∀k,W.heap.size≤k→k≠g:=by
 obtain ⟨A0,c0,hb,hg,A1⟩:=h
 exact Kd.freshB hb
theorem aT.kept {Z:Option Addr→Nat→Prop} {w0 W:World} {g:Nat} {f0:List Int} {f1:Int} {f2:Bool} {W1:World} {S:Nat→Prop} (h:aT Z w0 W g f0 f1 f2) (hk:cE W W1 S) (hne:¬S g):aT Z w0 W1 g f0 f1 f2:=by
 obtain ⟨A0,c0,hb,hg,A1⟩:=h
 exact ⟨A0,c0,hZ hb hk hne,hg,A1⟩
theorem aT.below {Z:Option Addr→Nat→Prop} {w0 W:World} {g:Nat} {f0:List Int} {f1:Int} {f2:Bool} {W1:World} (h:aT Z w0 W g f0 f1 f2) (hw:Below W.heap.size W W1):aT Z w0 W1 g f0 f1 f2:=h.grown (fD hw none) (by simp)
theorem aT.alloc {Z:Option Addr→Nat→Prop} {w0 W:World} {g:Nat} {f0:List Int} {f1:Int} {f2:Bool} (h:aT Z w0 W g f0 f1 f2) (o:Obj):aT Z w0 (W.alloc o) g f0 f1 f2:=h.below (dB (Below.refl _ _) o)
theorem aT.drewN {Z:Option Addr→Nat→Prop} {w0 W:World} {g:Nat} {f0:List Int} {f1:Int} {f2:Bool} (h:aT Z w0 W g f0 f1 f2) (m:Nat):aT Z w0 (W.drewN m) g f0 f1 f2:=h
theorem aT.drew {Z:Option Addr→Nat→Prop} {w0 W:World} {g:Nat} {f0:List Int} {f1:Int} {f2:Bool} (h:aT Z w0 W g f0 f1 f2):aT Z w0 W.drew g f0 f1 f2:=h
theorem aT.at_ {Z:Option Addr→Nat→Prop} {w0 W:World} {g:Nat} {f0:List Int} {f1:Int} {f2:Bool} {w':World} {m:Nat} (hq:W.drewN m=w') (h:aT Z w0 W g f0 f1 f2):aT Z w0 w' g f0 f1 f2:=by subst hq;exact aT.drewN h m
theorem aT.apart {Z:Option Addr→Nat→Prop} {w0 W:World} {g:Nat} {f0:List Int} {f1:Int} {f2:Bool} {α:Type} {d:Kd α} {e:Nat} {base:Nat} {ok:Nat→Prop} {v:Value} {xs:List α} (h:aT Z w0 W g f0 f1 f2) (ho:d.R e W base ok v xs) (ht:∀q,q ∈ e::d.E→q≠65):d.R e W base (fun k=>ok k∧k≠g) v xs:=by
 obtain ⟨A0,c0,hb,hg,A1⟩:=h
 exact Kd.R_types ho hb ht
theorem aT.own_ne {Z:Option Addr→Nat→Prop} {w0 W:World} {g:Nat} {f0:List Int} {f1:Int} {f2:Bool} {α:Type} {d:Kd α} {e:Nat} {base:Nat} {ok:Nat→Prop} {v:Value} {xs:List α} (h:aT Z w0 W g f0 f1 f2) (ho:d.R e W base ok v xs) (ht:e≠65):some g≠v.ownBlock:=by
 obtain ⟨A0,c0,hb,hg,A1⟩:=h
 exact Kd.R_ne ho hb ht
theorem aT.apartQ {Z:Option Addr→Nat→Prop} {w0 W:World} {g:Nat} {f0:List Int} {f1:Int} {f2:Bool} {α:Type} {d:Kd α} {e:Nat} {base:Nat} {ok:Nat→Prop} {v:Value} {xs:List α} (h:aT Z w0 W g f0 f1 f2) (ho:d.Q e W base ok v xs) (ht:∀q,q ∈ e::d.E→q≠65):d.Q e W base (fun k=>ok k∧k≠g) v xs:=by
 obtain ⟨A0,c0,hb,hg,A1⟩:=h
 exact Kd.Q_types ho hb ht
theorem aT.own_neQ {Z:Option Addr→Nat→Prop} {w0 W:World} {g:Nat} {f0:List Int} {f1:Int} {f2:Bool} {α:Type} {d:Kd α} {e:Nat} {base:Nat} {ok:Nat→Prop} {v:Value} {xs:List α} (h:aT Z w0 W g f0 f1 f2) (ho:d.Q e W base ok v xs) (ht:e≠65):some g≠v.ownBlock:=by
 obtain ⟨A0,c0,hb,hg,A1⟩:=h
 exact Kd.Q_ne ho hb ht
theorem aT.apartS {Z:Option Addr→Nat→Prop} {w0 W:World} {g:Nat} {f0:List Int} {f1:Int} {f2:Bool} {α:Type} {d:Kd α} {e:Nat} {base:Nat} {ok:Nat→Prop} {v:Value} {xs:List α} (h:aT Z w0 W g f0 f1 f2) (ho:d.S e W base ok v xs) (ht:∀q,q ∈ e::d.E→q≠65):d.S e W base (fun k=>ok k∧k≠g) v xs:=by
 obtain ⟨A0,c0,hb,hg,A1⟩:=h
 exact Kd.S_types ho hb ht
theorem aT.own_neS {Z:Option Addr→Nat→Prop} {w0 W:World} {g:Nat} {f0:List Int} {f1:Int} {f2:Bool} {α:Type} {d:Kd α} {e:Nat} {base:Nat} {ok:Nat→Prop} {v:Value} {xs:List α} (h:aT Z w0 W g f0 f1 f2) (ho:d.S e W base ok v xs) (ht:e≠65):some g≠v.ownBlock:=by
 obtain ⟨A0,c0,hb,hg,A1⟩:=h
 exact Kd.S_ne ho hb ht
theorem aT.lt {Z:Option Addr→Nat→Prop} {w0 W:World} {g:Nat} {f0:List Int} {f1:Int} {f2:Bool} (h:aT Z w0 W g f0 f1 f2):g<W.heap.size:=by
 obtain ⟨A0,c0,hb,hg,A1⟩:=h
 exact e8 hb
theorem aT.ge {Z:Option Addr→Nat→Prop} {w0 W:World} {g:Nat} {f0:List Int} {f1:Int} {f2:Bool} (h:aT Z w0 W g f0 f1 f2):w0.heap.size≤g:=by
 obtain ⟨A0,c0,hb,hg,A1⟩:=h
 exact hg
theorem aT.ne_blk {Z:Option Addr→Nat→Prop} {w0 W:World} {g:Nat} {f0:List Int} {f1:Int} {f2:Bool} {a:Nat} {cs:Array Value} {t:TypeId} {fr:Nat × Nat} (h:aT Z w0 W g f0 f1 f2) (A1:W.heap[a]? =some (.cells cs t fr)) (ht:t≠65):g≠a:=by
 obtain ⟨A0,c0,hb,hg,A3⟩:=h
 rintro rfl
 rw [hb] at A1
 injection A1 with A1
 injection A1 with _ A2
 exact ht A2.symm
theorem aT.far {Z:Option Addr→Nat→Prop} {w0 W:World} {g:Nat} {f0:List Int} {f1:Int} {f2:Bool} {p:Addr} (h:aT Z w0 W g f0 f1 f2) (hne:g≠p.block) (u:Value):aT Z w0 (W.setCell p u) g f0 f1 f2:=by
 obtain ⟨A0,c0,hb,hg,A1⟩:=h
 exact ⟨A0,c0,aN hb hne u,hg,A1⟩
theorem eB {W:World} {g:Nat} {A0:Option Addr} {c0:Nat} {f0:List Int} {f1:Int} {f2:Bool} (h:W.heap[g]? =some (.cells #[.slice A0 f0.length c0,.int .i64 f1,.bool f2] 65 (0,0))):W.cell? ⟨g,0,none⟩=some (.slice A0 f0.length c0):=(aA h 0).trans rfl
theorem eC {W:World} {g:Nat} {A0:Option Addr} {c0:Nat} {f0:List Int} {f1:Int} {f2:Bool} (h:W.heap[g]? =some (.cells #[.slice A0 f0.length c0,.int .i64 f1,.bool f2] 65 (0,0))):W.cell? ⟨g,1,none⟩=some (.int .i64 f1):=(aA h 1).trans rfl
theorem aT.set_1 {Z:Option Addr→Nat→Prop} {w0 W:World} {g:Nat} {f0:List Int} {f1:Int} {f2:Bool} (h:aT Z w0 W g f0 f1 f2) (x:Int):aT Z w0 (W.setCell ⟨g,1,none⟩ (.int .i64 x)) g f0 x f2:=by
 obtain ⟨A0,c0,hb,hg,A1⟩:=h
 exact ⟨A0,c0,by simpa using f5 hb 1 (.int .i64 x),hg,A1⟩
theorem eD {W:World} {g:Nat} {A0:Option Addr} {c0:Nat} {f0:List Int} {f1:Int} {f2:Bool} (h:W.heap[g]? =some (.cells #[.slice A0 f0.length c0,.int .i64 f1,.bool f2] 65 (0,0))):W.cell? ⟨g,2,none⟩=some (.bool f2):=(aA h 2).trans rfl
theorem aT.set_2 {Z:Option Addr→Nat→Prop} {w0 W:World} {g:Nat} {f0:List Int} {f1:Int} {f2:Bool} (h:aT Z w0 W g f0 f1 f2) (x:Bool):aT Z w0 (W.setCell ⟨g,2,none⟩ (.bool x)) g f0 f1 x:=by
 obtain ⟨A0,c0,hb,hg,A1⟩:=h
 exact ⟨A0,c0,by simpa using f5 hb 2 (.bool x),hg,A1⟩
theorem aT.q0 {a b:Prop} (h:a) (g:a→b:=by intro h_;repeat (first|(with_reducible first|exact h_|apply aT.alloc|apply aT.drewN|apply aT.drew|apply aT.set_1|apply aT.set_2)|exact h_)):b:=g h
theorem aT.q1 {a b:Prop} {c0:Prop} (h:a) (h0:c0) (g:a→c0→b:=by intro h_ A0;repeat (first|(with_reducible first|exact h_|apply aT.alloc|apply aT.drewN|apply aT.drew|apply aT.set_1|apply aT.set_2|refine aT.far ?_ A0 _)|exact h_)):b:=g h h0
theorem aT.q2 {a b:Prop} {c0:Prop} {c1:Prop} (h:a) (h0:c0) (h1:c1) (g:a→c0→c1→b:=by intro h_ A0 A1;repeat (first|(with_reducible first|exact h_|apply aT.alloc|apply aT.drewN|apply aT.drew|apply aT.set_1|apply aT.set_2|refine aT.far ?_ A0 _|refine aT.far ?_ A1 _)|exact h_)):b:=g h h0 h1
theorem aT.q3 {a b:Prop} {c0:Prop} {c1:Prop} {c2:Prop} (h:a) (h0:c0) (h1:c1) (h2:c2) (g:a→c0→c1→c2→b:=by intro h_ A0 A1 A2;repeat (first|(with_reducible first|exact h_|apply aT.alloc|apply aT.drewN|apply aT.drew|apply aT.set_1|apply aT.set_2|refine aT.far ?_ A0 _|refine aT.far ?_ A1 _|refine aT.far ?_ A2 _)|exact h_)):b:=g h h0 h1 h2
def bR.f (k:Nat) (A3:List Int) (A1:Int) (A2:Bool) (a1:Int):Option (List Int × Int × Bool):=(bF.f k A3 A1).bind fun A0=>(if A2=true then (some ((([]:List Int)),A1,true)) else (if A0.2.2.2=true then (if A0.1=a1 then (some (A0.2.1,A0.2.2.1,A2)) else (some ((([]:List Int)),A1,true))) else (some ((([]:List Int)),A1,true))))
def bR.T1:Bool × List (List Nat × List Nat):=(true,[([],[]),([0],[0]),([1],[1]),([2],[2]),([],[]),([4],[4]),([5],[5]),([6],[6]),([3,7],[3,7]),([8],[8]),([9],[9]),([9],[9]),([9],[9]),([9],[9]),([10,8,0,1,2,3,4,5,6,7,8,9,10],[10]),([11,14,0,1,2,3,4,5,6,7,8,9,10,11,14],[11]),([12,15,0,1,2,3,4,5,6,7,8,9,10,11,12,14,15],[12]),([13,16,0,1,2,3,4,5,6,7,8,9,10,11,12,13,14,15,16],[13])])
def bR.B1:List Nat:=[0,1,3,7,0,16,48,112,255,511,1023,1023,1023,1023,2047,20479,57343,131071]
theorem bR.tab1:eR .any (fM Try.f33 1)=bR.T1:=by kernel_rfl
theorem bR.bits1:eJ bR.T1.2 bR.B1=true:=by kernel_rfl
theorem bR.calls (k:Nat) (g:Nat) (A3:List Int) (A2:Int) (B6:Bool) (a1:Int) (r1:List Int) (r2:Int) (r3:Bool) (w0 w:World) {Z:Option Addr→Nat→Prop} (hI:aT Z w0 w g A3 A2 B6) (hB:Below w0.heap.size w0 w) (h:bR.f k A3 A2 B6 a1=some (r1,r2,r3)):
 Calls Try.prog 33 #[.pointer (some ⟨g,0,none⟩),.int .i64 a1] w fun e w'=>∃Cg:Value,e=.returned (Cg)∧Kd.R (Kd.int .u8) 5 w' w.heap.size (fun _=>True) Cg r1∧aT Z w0 w' g A3 r2 r3∧Below w0.heap.size w0 w'∧KeepBut w w' g none:=by
 have A4:=am hI
 have HK:=am (KeepBut.refl w g none)
 have HL:=am hB.size
 clear hI
 have Cq:=am hB.size
 have HB:=am hB
 clear hB
 have H:=h
 clear h
 unfold bR.f at H
 replace H:=be H
 obtain ⟨⟨Ad,Ae,A5,Aq⟩,Bi,H⟩:=H
 try dsimp only at H
 rcases Decidable.em (B6=true) with c4|c4
 · subst c4
   replace H:(some ((([]:List Int)),A2,true))=some (r1,r2,r3):=by rw [if_pos rfl] at H;exact H
   generalize Au:((([]:List Int)):List Int)=Cj at H
   have Av:=am Au.symm
   clear Au
   simp only [k4,k5] at H
   obtain ⟨rfl,rfl,rfl⟩:=H
   go_enter Try.func33,Try.ntmps33
   try go_wp2
   obtain ⟨Ar,As,B8,B9,Af⟩:=A4.o
   have A0:=am B8
   have A9:=am B9
   clear B8 B9 A4
   have n_:=ak3 (a7 A0.o) (d9 HK.o) (bB HB.o)
   clear A0 HK HB
   obtain ⟨A0,HK,HB⟩:=n_
   refine cW (n:=18) (S:=fun w'=>w'.cell? ⟨g,0,none⟩=some (.slice Ar A3.length As)∧w'.cell? ⟨g,1,none⟩=some (.int .i64 A2)∧w'.cell? ⟨g,2,none⟩=some (.bool true)) (ds:=[]) #[F,F,F,F,F,F,F,F,F,F,F,F,F,F,F,F,F,F] (by kernel_rfl) rfl rfl ⟨(aA A0.o 0).trans rfl,(aA A0.o 1).trans rfl,(aA A0.o 2).trans rfl⟩ (fun hHeld=>?_);refine bW bR.tab1 bR.bits1 (fun HT_ HW_=>?_)
   generalize w.drew=w6 at A0 HK HB hHeld ⊢
   refine pv HT_ 0 (some 10) #[T,F,F,F,F,F,F,F,F,F,F,F,F,F,F,F,F,F] ?_
   refine pv HT_ 1 (some 11) #[T,T,F,F,F,F,F,F,F,F,F,F,F,F,F,F,F,F] ?_
   refine pv HT_ 2 (some 12) #[T,T,T,F,F,F,F,F,F,F,F,F,F,F,F,F,F,F] ?_
   refine pv HT_ 4 (some 14) #[T,T,T,F,T,F,F,F,F,F,F,F,F,F,F,F,F,F] ?_
   refine pv HT_ 5 (some 15) #[T,T,T,F,T,T,F,F,F,F,F,F,F,F,F,F,F,F] ?_
   refine pv HT_ 6 (some 16) #[T,T,T,F,T,T,T,F,F,F,F,F,F,F,F,F,F,F] ?_
   refine tk 3 (some 13) #[T,T,T,T,T,T,T,F,F,F,F,F,F,F,F,F,F,F] rfl rfl (aZ HT_.o HW_.o (by kernel_rfl)) hHeld (Or.inl ⟨by rfl,by rintro w' ⟨s0,s1,s2⟩;go_simp;with_reducible rfl⟩) ?_
   refine tk 7 (some 17) #[T,T,T,T,T,T,T,T,F,F,F,F,F,F,F,F,F,F] rfl rfl (aZ HT_.o HW_.o (by kernel_rfl)) hHeld (Or.inl ⟨by rfl,by rintro w' ⟨s0,s1,s2⟩;go_simp;with_reducible rfl⟩) ?_
   refine dM (i:=8) (N:=some 18) #[T,T,T,T,T,T,T,T,T,F,F,F,F,F,F,F,F,F] rfl rfl (bS HT_.o (by kernel_rfl)) (by decide) (fun K hK=>?_)
   refine cU Try.func31 (by kernel_rfl) rfl #[.slice Ar A3.length As,.int .i64 A2] (by rfl) rfl rfl ga ?_
   with_reducible refine (bF.calls k _ _ A3 A2 Ad Ae A5 Aq _ ?side1 ?side2 Bi.o).mono ?_
   (case side1=>exact Kd.C_below Af.1.1 (bq1 HB.o A9.o))
   (case side2=>exact Af.1.2)
   rintro e w7 ⟨B7,rfl,At,hb⟩
   refine ⟨_,rfl,?_⟩
   have n_:=ak4 (Kd.R_lower At (a8 (w:=w) (g:=g) (row:=none) (kp0 HK.o))) (kb A0 hb) (KeepBut.trans (kp0 HK.o) (KeepBut.of_below hb g none) (.inl rfl)) (aC (bq1 HB.o A9.o) hb)
   clear A0 HK HB
   obtain ⟨A1,A0,HK,HB⟩:=n_
   (try clear hb At)
   refine hK.out _ _ ⟨(aA A0.o 0).trans rfl,(aA A0.o 1).trans rfl,(aA A0.o 2).trans rfl⟩ (fun hHeld=>?_)
   clear hK K
   refine bZ (a':=?_) ?_ ?_
   rotate_left
   · show Act.put _ (some 18) _=_
     simp only [Act.put,kX,kY,kZ,aI,aK]
     rfl
   refine pv HT_ 9 (some 9) #[T,T,T,T,T,T,T,T,T,T,F,F,F,F,F,F,F,F] ?_
   refine pv HT_ 10 (some 19) #[T,T,T,T,T,T,T,T,T,T,T,F,F,F,F,F,F,F] ?_
   refine pv HT_ 11 (some 20) #[T,T,T,T,T,T,T,T,T,T,T,T,F,F,F,F,F,F] ?_
   refine pv HT_ 12 (some 21) #[T,T,T,T,T,T,T,T,T,T,T,T,T,F,F,F,F,F] ?_
   refine pv HT_ 13 (some 22) #[T,T,T,T,T,T,T,T,T,T,T,T,T,T,F,F,F,F] ?_
   refine pv HT_ 14 (some 5) #[T,T,T,T,T,T,T,T,T,T,T,T,T,T,T,F,F,F] ?_
   refine pv HT_ 15 (some 6) #[T,T,T,T,T,T,T,T,T,T,T,T,T,T,T,T,F,F] ?_
   refine pv HT_ 16 (some 7) #[T,T,T,T,T,T,T,T,T,T,T,T,T,T,T,T,T,F] ?_
   refine pv HT_ 17 (some 8) #[T,T,T,T,T,T,T,T,T,T,T,T,T,T,T,T,T,T] ?_
   refine d5 (cL HT_.o (by kernel_rfl)) ?_
   have A4:=am (show aT Z w0 w7 g A3 A2 true from ⟨_,_,A0.o,A9.o,Af⟩)
   clear A0 A9
   obtain ⟨C7,C8,Am,C9,Ca⟩:=A4.o
   have Cb:=eB Am
   have Cc:=eC Am
   have Cd:=eD Am
   have Ce:=aM Am 1
   have Cf:=aM Am 2
   clear Am C9
   try go_wp2_with (first|((with_reducible refine aJ (N:=39) rfl ?_);refine Kd.R_lit (Kd.int .u8) _ 5 ?hg (N:=39) ?hd (xs:=([]:List Int)) (inner:=[]) (ok:=fun _=>True) (okp:=fun _=>True) ?hr ?hp (fun _ hk=>hk) trivial (Below.refl _ _) (k7 _) (by simp) ?_;(case hd=>rfl);(case hg=>rfl);(case hr=>exact gs);(case hp=>exact (bD.none _ _));intro Ck w9 An hb hg_ hnew_;clear hg_ hnew_;(first|rw [← Av.o] at An|(simp only [Int.reduceToNat] at An;rw [← Av.o] at An));have n_:=ak5 (Kd.R_elder' (by refine kr ?_;exact (Kd.R_mono (Kd.R_far (p:=⟨g,2,none⟩) (aT.apart A4.o A1.o (by decide)) (fun _ hk=>hk.2) (.bool true)) (fun _ h_=>h_.1))) (Kd.R_base An) hb) (Kd.R_lower (Kd.R_new' An (Kd.R_lt (by refine kr ?_;exact (Kd.R_mono (Kd.R_far (p:=⟨g,2,none⟩) (aT.apart A4.o A1.o (by decide)) (fun _ hk=>hk.2) (.bool true)) (fun _ h_=>h_.1))))) (a8 (w:=w) (g:=g) (row:=none) (kp0 HK.o))) (aT.below (show aT Z w0 (w7.setCell ⟨g,2,none⟩ (.bool true)) g A3 A2 true from aT.q0 A4.o) hb) (KeepBut.trans (kp0 HK.o) (KeepBut.of_below hb g none) (.inl rfl)) (aC (bq1 HB.o (aT.ge A4.o)) hb);clear A1 A4 HK HB;obtain ⟨A1,Ba,A4,HK,HB⟩:=n_;clear hb An))
   go_ret
   exact ⟨_,rq,by refine kr ?_;exact Kd.R_mono Ba.o (fun _ hk=>trivial),aT.q0 A4.o,bq1 HB.o (aT.ge A4.o),kp0 HK.o⟩
 replace c4:=Bool.eq_false_iff.mpr c4
 subst c4
 replace H:(if Aq=true then (if Ad=a1 then (some (Ae,A5,false)) else (some ((([]:List Int)),A2,true))) else (some ((([]:List Int)),A2,true)))=some (r1,r2,r3):=by rw [if_neg (show ¬(false=true) by decide)] at H;exact H
 cases Aq
 · replace H:=iF H
   generalize Aw:((([]:List Int)):List Int)=Cl at H
   have Ax:=am Aw.symm
   clear Aw
   simp only [k4,k5] at H
   obtain ⟨rfl,rfl,rfl⟩:=H
   go_enter Try.func33,Try.ntmps33
   try go_wp2
   obtain ⟨Ag,Ah,Ay,Az,Aa⟩:=A4.o
   have A0:=am Ay
   have A9:=am Az
   clear Ay Az A4
   have n_:=ak3 (a7 A0.o) (d9 HK.o) (bB HB.o)
   clear A0 HK HB
   obtain ⟨A0,HK,HB⟩:=n_
   refine cW (n:=18) (S:=fun w'=>w'.cell? ⟨g,0,none⟩=some (.slice Ag A3.length Ah)∧w'.cell? ⟨g,1,none⟩=some (.int .i64 A2)∧w'.cell? ⟨g,2,none⟩=some (.bool false)) (ds:=[]) #[F,F,F,F,F,F,F,F,F,F,F,F,F,F,F,F,F,F] (by kernel_rfl) rfl rfl ⟨(aA A0.o 0).trans rfl,(aA A0.o 1).trans rfl,(aA A0.o 2).trans rfl⟩ (fun hHeld=>?_);refine bW bR.tab1 bR.bits1 (fun HT_ HW_=>?_)
   generalize w.drew=Cr at A0 HK HB hHeld ⊢
   refine pv HT_ 0 (some 10) #[T,F,F,F,F,F,F,F,F,F,F,F,F,F,F,F,F,F] ?_
   refine pv HT_ 1 (some 11) #[T,T,F,F,F,F,F,F,F,F,F,F,F,F,F,F,F,F] ?_
   refine pv HT_ 2 (some 12) #[T,T,T,F,F,F,F,F,F,F,F,F,F,F,F,F,F,F] ?_
   refine pv HT_ 4 (some 14) #[T,T,T,F,T,F,F,F,F,F,F,F,F,F,F,F,F,F] ?_
   refine pv HT_ 5 (some 15) #[T,T,T,F,T,T,F,F,F,F,F,F,F,F,F,F,F,F] ?_
   refine pv HT_ 6 (some 16) #[T,T,T,F,T,T,T,F,F,F,F,F,F,F,F,F,F,F] ?_
   refine tk 3 (some 13) #[T,T,T,T,T,T,T,F,F,F,F,F,F,F,F,F,F,F] rfl rfl (aZ HT_.o HW_.o (by kernel_rfl)) hHeld (Or.inl ⟨by rfl,by rintro w' ⟨s0,s1,s2⟩;go_simp;with_reducible rfl⟩) ?_
   refine tk 7 (some 17) #[T,T,T,T,T,T,T,T,F,F,F,F,F,F,F,F,F,F] rfl rfl (aZ HT_.o HW_.o (by kernel_rfl)) hHeld (Or.inl ⟨by rfl,by rintro w' ⟨s0,s1,s2⟩;go_simp;with_reducible rfl⟩) ?_
   refine dM (i:=8) (N:=some 18) #[T,T,T,T,T,T,T,T,T,F,F,F,F,F,F,F,F,F] rfl rfl (bS HT_.o (by kernel_rfl)) (by decide) (fun K hK=>?_)
   refine cU Try.func31 (by kernel_rfl) rfl #[.slice Ag A3.length Ah,.int .i64 A2] (by rfl) rfl rfl ga ?_
   with_reducible refine (bF.calls k _ _ A3 A2 Ad Ae A5 false _ ?side1 ?side2 Bi.o).mono ?_
   (case side1=>exact Kd.C_below Aa.1.1 (bq1 HB.o A9.o))
   (case side2=>exact Aa.1.2)
   rintro e Ch ⟨B7,rfl,At,hb⟩
   refine ⟨_,rfl,?_⟩
   have n_:=ak4 (Kd.R_lower At (a8 (w:=w) (g:=g) (row:=none) (kp0 HK.o))) (kb A0 hb) (KeepBut.trans (kp0 HK.o) (KeepBut.of_below hb g none) (.inl rfl)) (aC (bq1 HB.o A9.o) hb)
   clear A0 HK HB
   obtain ⟨A1,A0,HK,HB⟩:=n_
   (try clear hb At)
   refine hK.out _ _ ⟨(aA A0.o 0).trans rfl,(aA A0.o 1).trans rfl,(aA A0.o 2).trans rfl⟩ (fun hHeld=>?_)
   clear hK K
   refine bZ (a':=?_) ?_ ?_
   rotate_left
   · show Act.put _ (some 18) _=_
     simp only [Act.put,kX,kY,kZ,aI,aK]
     rfl
   refine pv HT_ 9 (some 9) #[T,T,T,T,T,T,T,T,T,T,F,F,F,F,F,F,F,F] ?_
   refine pv HT_ 10 (some 19) #[T,T,T,T,T,T,T,T,T,T,T,F,F,F,F,F,F,F] ?_
   refine pv HT_ 11 (some 20) #[T,T,T,T,T,T,T,T,T,T,T,T,F,F,F,F,F,F] ?_
   refine pv HT_ 12 (some 21) #[T,T,T,T,T,T,T,T,T,T,T,T,T,F,F,F,F,F] ?_
   refine pv HT_ 13 (some 22) #[T,T,T,T,T,T,T,T,T,T,T,T,T,T,F,F,F,F] ?_
   refine pv HT_ 14 (some 5) #[T,T,T,T,T,T,T,T,T,T,T,T,T,T,T,F,F,F] ?_
   refine pv HT_ 15 (some 6) #[T,T,T,T,T,T,T,T,T,T,T,T,T,T,T,T,F,F] ?_
   refine pv HT_ 16 (some 7) #[T,T,T,T,T,T,T,T,T,T,T,T,T,T,T,T,T,F] ?_
   refine pv HT_ 17 (some 8) #[T,T,T,T,T,T,T,T,T,T,T,T,T,T,T,T,T,T] ?_
   refine d5 (cL HT_.o (by kernel_rfl)) ?_
   have A4:=am (show aT Z w0 Ch g A3 A2 false from ⟨_,_,A0.o,A9.o,Aa⟩)
   clear A0 A9
   obtain ⟨Bj,Bk,A6,Bb,Bl⟩:=A4.o
   have Bm:=eB A6
   have Bn:=eC A6
   have Bo:=eD A6
   have Bp:=aM A6 1
   have Bq:=aM A6 2
   clear A6 Bb
   try go_wp2_with (first|((with_reducible refine aJ (N:=39) rfl ?_);refine Kd.R_lit (Kd.int .u8) _ 5 ?hg (N:=39) ?hd (xs:=([]:List Int)) (inner:=[]) (ok:=fun _=>True) (okp:=fun _=>True) ?hr ?hp (fun _ hk=>hk) trivial (Below.refl _ _) (k7 _) (by simp) ?_;(case hd=>rfl);(case hg=>rfl);(case hr=>exact gs);(case hp=>exact (bD.none _ _));intro Cm Cs Ao hb hg_ hnew_;clear hg_ hnew_;(first|rw [← Ax.o] at Ao|(simp only [Int.reduceToNat] at Ao;rw [← Ax.o] at Ao));have n_:=ak5 (Kd.R_elder' (by refine kr ?_;exact (Kd.R_mono (Kd.R_far (p:=⟨g,2,none⟩) (aT.apart A4.o A1.o (by decide)) (fun _ hk=>hk.2) (.bool true)) (fun _ h_=>h_.1))) (Kd.R_base Ao) hb) (Kd.R_lower (Kd.R_new' Ao (Kd.R_lt (by refine kr ?_;exact (Kd.R_mono (Kd.R_far (p:=⟨g,2,none⟩) (aT.apart A4.o A1.o (by decide)) (fun _ hk=>hk.2) (.bool true)) (fun _ h_=>h_.1))))) (a8 (w:=w) (g:=g) (row:=none) (kp0 HK.o))) (aT.below (show aT Z w0 (Ch.setCell ⟨g,2,none⟩ (.bool true)) g A3 A2 true from aT.q0 A4.o) hb) (KeepBut.trans (kp0 HK.o) (KeepBut.of_below hb g none) (.inl rfl)) (aC (bq1 HB.o (aT.ge A4.o)) hb);clear A1 A4 HK HB;obtain ⟨A1,Bc,A4,HK,HB⟩:=n_;clear hb Ao))
   go_ret
   exact ⟨_,rq,by refine kr ?_;exact Kd.R_mono Bc.o (fun _ hk=>trivial),aT.q0 A4.o,bq1 HB.o (aT.ge A4.o),kp0 HK.o⟩
 replace H:=iT H
 replace H:=iq H
 rcases H with ⟨-,Bd,Be,H⟩|⟨Ct,Bd,Be,H⟩
 · simp only [k4,k5] at H
   obtain ⟨rfl,rfl,rfl⟩:=H
   go_enter Try.func33,Try.ntmps33
   try go_wp2
   obtain ⟨Ai,Aj,B0,B1,Ab⟩:=A4.o
   have A0:=am B0
   have A9:=am B1
   clear B0 B1 A4
   have n_:=ak3 (a7 A0.o) (d9 HK.o) (bB HB.o)
   clear A0 HK HB
   obtain ⟨A0,HK,HB⟩:=n_
   refine cW (n:=18) (S:=fun w'=>w'.cell? ⟨g,0,none⟩=some (.slice Ai A3.length Aj)∧w'.cell? ⟨g,1,none⟩=some (.int .i64 A2)∧w'.cell? ⟨g,2,none⟩=some (.bool false)) (ds:=[]) #[F,F,F,F,F,F,F,F,F,F,F,F,F,F,F,F,F,F] (by kernel_rfl) rfl rfl ⟨(aA A0.o 0).trans rfl,(aA A0.o 1).trans rfl,(aA A0.o 2).trans rfl⟩ (fun hHeld=>?_);refine bW bR.tab1 bR.bits1 (fun HT_ HW_=>?_)
   generalize w.drew=Cu at A0 HK HB hHeld ⊢
   refine pv HT_ 0 (some 10) #[T,F,F,F,F,F,F,F,F,F,F,F,F,F,F,F,F,F] ?_
   refine pv HT_ 1 (some 11) #[T,T,F,F,F,F,F,F,F,F,F,F,F,F,F,F,F,F] ?_
   refine pv HT_ 2 (some 12) #[T,T,T,F,F,F,F,F,F,F,F,F,F,F,F,F,F,F] ?_
   refine pv HT_ 4 (some 14) #[T,T,T,F,T,F,F,F,F,F,F,F,F,F,F,F,F,F] ?_
   refine pv HT_ 5 (some 15) #[T,T,T,F,T,T,F,F,F,F,F,F,F,F,F,F,F,F] ?_
   refine pv HT_ 6 (some 16) #[T,T,T,F,T,T,T,F,F,F,F,F,F,F,F,F,F,F] ?_
   refine tk 3 (some 13) #[T,T,T,T,T,T,T,F,F,F,F,F,F,F,F,F,F,F] rfl rfl (aZ HT_.o HW_.o (by kernel_rfl)) hHeld (Or.inl ⟨by rfl,by rintro w' ⟨s0,s1,s2⟩;go_simp;with_reducible rfl⟩) ?_
   refine tk 7 (some 17) #[T,T,T,T,T,T,T,T,F,F,F,F,F,F,F,F,F,F] rfl rfl (aZ HT_.o HW_.o (by kernel_rfl)) hHeld (Or.inl ⟨by rfl,by rintro w' ⟨s0,s1,s2⟩;go_simp;with_reducible rfl⟩) ?_
   refine dM (i:=8) (N:=some 18) #[T,T,T,T,T,T,T,T,T,F,F,F,F,F,F,F,F,F] rfl rfl (bS HT_.o (by kernel_rfl)) (by decide) (fun K hK=>?_)
   refine cU Try.func31 (by kernel_rfl) rfl #[.slice Ai A3.length Aj,.int .i64 A2] (by rfl) rfl rfl ga ?_
   with_reducible refine (bF.calls k _ _ A3 A2 Ad Ae A5 true _ ?side1 ?side2 Bi.o).mono ?_
   (case side1=>exact Kd.C_below Ab.1.1 (bq1 HB.o A9.o))
   (case side2=>exact Ab.1.2)
   rintro e Cn ⟨B7,rfl,At,hb⟩
   refine ⟨_,rfl,?_⟩
   have n_:=ak4 (Kd.R_lower At (a8 (w:=w) (g:=g) (row:=none) (kp0 HK.o))) (kb A0 hb) (KeepBut.trans (kp0 HK.o) (KeepBut.of_below hb g none) (.inl rfl)) (aC (bq1 HB.o A9.o) hb)
   clear A0 HK HB
   obtain ⟨A1,A0,HK,HB⟩:=n_
   (try clear hb At)
   refine hK.out _ _ ⟨(aA A0.o 0).trans rfl,(aA A0.o 1).trans rfl,(aA A0.o 2).trans rfl⟩ (fun hHeld=>?_)
   clear hK K
   refine bZ (a':=?_) ?_ ?_
   rotate_left
   · show Act.put _ (some 18) _=_
     simp only [Act.put,kX,kY,kZ,aI,aK]
     rfl
   refine pv HT_ 9 (some 9) #[T,T,T,T,T,T,T,T,T,T,F,F,F,F,F,F,F,F] ?_
   refine pv HT_ 10 (some 19) #[T,T,T,T,T,T,T,T,T,T,T,F,F,F,F,F,F,F] ?_
   refine pv HT_ 11 (some 20) #[T,T,T,T,T,T,T,T,T,T,T,T,F,F,F,F,F,F] ?_
   refine pv HT_ 12 (some 21) #[T,T,T,T,T,T,T,T,T,T,T,T,T,F,F,F,F,F] ?_
   refine pv HT_ 13 (some 22) #[T,T,T,T,T,T,T,T,T,T,T,T,T,T,F,F,F,F] ?_
   refine pv HT_ 14 (some 5) #[T,T,T,T,T,T,T,T,T,T,T,T,T,T,T,F,F,F] ?_
   refine pv HT_ 15 (some 6) #[T,T,T,T,T,T,T,T,T,T,T,T,T,T,T,T,F,F] ?_
   refine pv HT_ 16 (some 7) #[T,T,T,T,T,T,T,T,T,T,T,T,T,T,T,T,T,F] ?_
   refine pv HT_ 17 (some 8) #[T,T,T,T,T,T,T,T,T,T,T,T,T,T,T,T,T,T] ?_
   refine d5 (cL HT_.o (by kernel_rfl)) ?_
   have A4:=am (show aT Z w0 Cn g A3 A2 false from ⟨_,_,A0.o,A9.o,Ab⟩)
   clear A0 A9
   obtain ⟨Br,Bs,A7,Bf,Bt⟩:=A4.o
   have Bu:=eB A7
   have Bv:=eC A7
   have Bw:=eD A7
   have Bx:=aM A7 1
   have By:=aM A7 2
   clear A7 Bf
   try go_wp2
   go_ret
   exact ⟨_,rq,by refine kr ?_;exact Kd.R_mono (Kd.R_far (p:=⟨g,1,none⟩) (aT.apart A4.o A1.o (by decide)) (fun _ hk=>hk.2) (.int .i64 A5)) (fun _ hk=>trivial),aT.q0 A4.o,bq1 HB.o (aT.ge A4.o),kp0 HK.o⟩
 generalize B2:((([]:List Int)):List Int)=Co at H
 have B3:=am B2.symm
 clear B2
 simp only [k4,k5] at H
 obtain ⟨rfl,rfl,rfl⟩:=H
 go_enter Try.func33,Try.ntmps33
 try go_wp2
 obtain ⟨Ak,Al,B4,B5,Ac⟩:=A4.o
 have A0:=am B4
 have A9:=am B5
 clear B4 B5 A4
 have n_:=ak3 (a7 A0.o) (d9 HK.o) (bB HB.o)
 clear A0 HK HB
 obtain ⟨A0,HK,HB⟩:=n_
 refine cW (n:=18) (S:=fun w'=>w'.cell? ⟨g,0,none⟩=some (.slice Ak A3.length Al)∧w'.cell? ⟨g,1,none⟩=some (.int .i64 A2)∧w'.cell? ⟨g,2,none⟩=some (.bool false)) (ds:=[]) #[F,F,F,F,F,F,F,F,F,F,F,F,F,F,F,F,F,F] (by kernel_rfl) rfl rfl ⟨(aA A0.o 0).trans rfl,(aA A0.o 1).trans rfl,(aA A0.o 2).trans rfl⟩ (fun hHeld=>?_);refine bW bR.tab1 bR.bits1 (fun HT_ HW_=>?_)
 generalize w.drew=Cv at A0 HK HB hHeld ⊢
 refine pv HT_ 0 (some 10) #[T,F,F,F,F,F,F,F,F,F,F,F,F,F,F,F,F,F] ?_
 refine pv HT_ 1 (some 11) #[T,T,F,F,F,F,F,F,F,F,F,F,F,F,F,F,F,F] ?_
 refine pv HT_ 2 (some 12) #[T,T,T,F,F,F,F,F,F,F,F,F,F,F,F,F,F,F] ?_
 refine pv HT_ 4 (some 14) #[T,T,T,F,T,F,F,F,F,F,F,F,F,F,F,F,F,F] ?_
 refine pv HT_ 5 (some 15) #[T,T,T,F,T,T,F,F,F,F,F,F,F,F,F,F,F,F] ?_
 refine pv HT_ 6 (some 16) #[T,T,T,F,T,T,T,F,F,F,F,F,F,F,F,F,F,F] ?_
 refine tk 3 (some 13) #[T,T,T,T,T,T,T,F,F,F,F,F,F,F,F,F,F,F] rfl rfl (aZ HT_.o HW_.o (by kernel_rfl)) hHeld (Or.inl ⟨by rfl,by rintro w' ⟨s0,s1,s2⟩;go_simp;with_reducible rfl⟩) ?_
 refine tk 7 (some 17) #[T,T,T,T,T,T,T,T,F,F,F,F,F,F,F,F,F,F] rfl rfl (aZ HT_.o HW_.o (by kernel_rfl)) hHeld (Or.inl ⟨by rfl,by rintro w' ⟨s0,s1,s2⟩;go_simp;with_reducible rfl⟩) ?_
 refine dM (i:=8) (N:=some 18) #[T,T,T,T,T,T,T,T,T,F,F,F,F,F,F,F,F,F] rfl rfl (bS HT_.o (by kernel_rfl)) (by decide) (fun K hK=>?_)
 refine cU Try.func31 (by kernel_rfl) rfl #[.slice Ak A3.length Al,.int .i64 A2] (by rfl) rfl rfl ga ?_
 with_reducible refine (bF.calls k _ _ A3 A2 Ad Ae A5 true _ ?side1 ?side2 Bi.o).mono ?_
 (case side1=>exact Kd.C_below Ac.1.1 (bq1 HB.o A9.o))
 (case side2=>exact Ac.1.2)
 rintro e Ci ⟨B7,rfl,At,hb⟩
 refine ⟨_,rfl,?_⟩
 have n_:=ak4 (Kd.R_lower At (a8 (w:=w) (g:=g) (row:=none) (kp0 HK.o))) (kb A0 hb) (KeepBut.trans (kp0 HK.o) (KeepBut.of_below hb g none) (.inl rfl)) (aC (bq1 HB.o A9.o) hb)
 clear A0 HK HB
 obtain ⟨A1,A0,HK,HB⟩:=n_
 (try clear hb At)
 refine hK.out _ _ ⟨(aA A0.o 0).trans rfl,(aA A0.o 1).trans rfl,(aA A0.o 2).trans rfl⟩ (fun hHeld=>?_)
 clear hK K
 refine bZ (a':=?_) ?_ ?_
 rotate_left
 · show Act.put _ (some 18) _=_
   simp only [Act.put,kX,kY,kZ,aI,aK]
   rfl
 refine pv HT_ 9 (some 9) #[T,T,T,T,T,T,T,T,T,T,F,F,F,F,F,F,F,F] ?_
 refine pv HT_ 10 (some 19) #[T,T,T,T,T,T,T,T,T,T,T,F,F,F,F,F,F,F] ?_
 refine pv HT_ 11 (some 20) #[T,T,T,T,T,T,T,T,T,T,T,T,F,F,F,F,F,F] ?_
 refine pv HT_ 12 (some 21) #[T,T,T,T,T,T,T,T,T,T,T,T,T,F,F,F,F,F] ?_
 refine pv HT_ 13 (some 22) #[T,T,T,T,T,T,T,T,T,T,T,T,T,T,F,F,F,F] ?_
 refine pv HT_ 14 (some 5) #[T,T,T,T,T,T,T,T,T,T,T,T,T,T,T,F,F,F] ?_
 refine pv HT_ 15 (some 6) #[T,T,T,T,T,T,T,T,T,T,T,T,T,T,T,T,F,F] ?_
 refine pv HT_ 16 (some 7) #[T,T,T,T,T,T,T,T,T,T,T,T,T,T,T,T,T,F] ?_
 refine pv HT_ 17 (some 8) #[T,T,T,T,T,T,T,T,T,T,T,T,T,T,T,T,T,T] ?_
 refine d5 (cL HT_.o (by kernel_rfl)) ?_
 have A4:=am (show aT Z w0 Ci g A3 A2 false from ⟨_,_,A0.o,A9.o,Ac⟩)
 clear A0 A9
 obtain ⟨Bz,C0,A8,Bg,C1⟩:=A4.o
 have C2:=eB A8
 have C3:=eC A8
 have C4:=eD A8
 have C5:=aM A8 1
 have C6:=aM A8 2
 clear A8 Bg
 try go_wp2_with (first|((with_reducible refine aJ (N:=39) rfl ?_);refine Kd.R_lit (Kd.int .u8) _ 5 ?hg (N:=39) ?hd (xs:=([]:List Int)) (inner:=[]) (ok:=fun _=>True) (okp:=fun _=>True) ?hr ?hp (fun _ hk=>hk) trivial (Below.refl _ _) (k7 _) (by simp) ?_;(case hd=>rfl);(case hg=>rfl);(case hr=>exact gs);(case hp=>exact (bD.none _ _));intro Cp Cw Ap hb hg_ hnew_;clear hg_ hnew_;(first|rw [← B3.o] at Ap|(simp only [Int.reduceToNat] at Ap;rw [← B3.o] at Ap));have n_:=ak5 (Kd.R_elder' (by refine kr ?_;exact (Kd.R_mono (Kd.R_far (p:=⟨g,2,none⟩) (aT.apart A4.o A1.o (by decide)) (fun _ hk=>hk.2) (.bool true)) (fun _ h_=>h_.1))) (Kd.R_base Ap) hb) (Kd.R_lower (Kd.R_new' Ap (Kd.R_lt (by refine kr ?_;exact (Kd.R_mono (Kd.R_far (p:=⟨g,2,none⟩) (aT.apart A4.o A1.o (by decide)) (fun _ hk=>hk.2) (.bool true)) (fun _ h_=>h_.1))))) (a8 (w:=w) (g:=g) (row:=none) (kp0 HK.o))) (aT.below (show aT Z w0 (Ci.setCell ⟨g,2,none⟩ (.bool true)) g A3 A2 true from aT.q0 A4.o) hb) (KeepBut.trans (kp0 HK.o) (KeepBut.of_below hb g none) (.inl rfl)) (aC (bq1 HB.o (aT.ge A4.o)) hb);clear A1 A4 HK HB;obtain ⟨A1,Bh,A4,HK,HB⟩:=n_;clear hb Ap))
 go_ret
 exact ⟨_,rq,by refine kr ?_;exact Kd.R_mono Bh.o (fun _ hk=>trivial),aT.q0 A4.o,bq1 HB.o (aT.ge A4.o),kp0 HK.o⟩
theorem bR.box (k:Nat) (g:Nat) (A0:List Int) (A1:Int) (A2:Bool) (a1:Int) (r1:List Int) (r2:Int) (r3:Bool) (w:World) (A:Option Addr) (c:Nat) (hb:w.heap[g]? =some (.cells #[.slice A A0.length c,.int .i64 A1,.bool A2] 65 (0,0))) (hC:Kd.C (Kd.int .u8) (tr w g) A A0.length A0) (hc:A0.length≤c) (h:bR.f k A0 A1 A2 a1=some (r1,r2,r3)):
 Calls Try.prog 33 #[.pointer (some ⟨g,0,none⟩),.int .i64 a1] w fun e w'=>∃A3:Value,e=.returned (A3)∧Kd.R (Kd.int .u8) 5 w' w.heap.size (fun _=>True) A3 r1∧w'.heap[g]? =some (.cells #[.slice A A0.length c,.int .i64 r2,.bool r3] 65 (0,0))∧Kq w w' g:=by
 have hg:g≤w.heap.size:=Nat.le_of_lt (e8 hb)
 refine (bR.calls (Z:=fun A' c'=>A'=A∧c'=c) k g A0 A1 A2 a1 r1 r2 r3 (tr w g) w ⟨A,c,hb,by rw [gB hg];exact k7 _,⟨hC,hc⟩,rfl,rfl⟩ (gF hg) h).mono ?_
 rintro e w' ⟨v0,rfl,A4,⟨A',c',hb',_,_,hA,hc'⟩,hB,hk⟩
 exact ⟨v0,rfl,A4,by rw [hA,hc'] at hb';exact hb',Kq.of hg hB hk⟩
end Go.Proofs.Ytgppikopdpeigaa.XFnPdus
