/- The functions that one law reaches, as Lean functions, with their walks: printed by a program of this seat (wip/tools) out of the translation. -/
import Derived.Test.YthhnfmbfgplelaaXFnExactGetPdux0
import Derived.Test.YthhnfmbfgplelaaXFnExactGetPdux2
import Derived.Test.YthhnfmbfgplelaaXFnExactGetPdux19
namespace Go.Proofs.Ythhnfmbfgplelaa.XFnExactGetPdu
open Go.RowKit Go.Proofs.YthhnfmbfgplelaaW.PrintWords Go.Proofs.YthhnfmbfgplelaaW.PrintLast Go.Proofs.YthhnfmbfgplelaaW.PrintMore
attribute [local go_sem] cQ cR dM dN cB cC cS cT
set_option linter.unusedVariables false
set_option linter.unusedSimpArgs false
set_option maxHeartbeats 8000000
set_option maxRecDepth 100000
def bH.l0:Nat→List (S116)→Int→Int→Option (Int)
 |0,_,_,_=>none
 |k+1,x0,x1,x5=>if x5<(x0.length:Int) then (if 0≤x5 then ((bR.f k ((aE x0 x5).f0) x1).bind fun A0=>(if A0<0 then (some (-1)) else (if ((aE x0 x5).f1.f0)=A0 then (if ((aE x0 x5).f1.f1)=(wrap64 (A0+1)) then ((b8.f k (wrap64 ((wrap64 (A0+1))+1))).bind fun A2=>(if ((aE x0 x5).f1.f2).toList=A2.toList then ((bR.f k ((aE x0 x5).f1.f3) (wrap64 ((wrap64 ((wrap64 (A0+1))+1))+1))).bind fun A1=>(if A1<0 then (some (-1)) else (bH.l0 k x0 A1 (wrap64 (x5+1))))) else (some (-1)))) else (some (-1))) else (some (-1))))) else (none)) else (some x1)
def bH.f (k:Nat) (l0:List (S116)) (a1:Int):Option (Int):=bH.l0 k l0 a1 0
def bH.T13:Bool × List (List Nat × List Nat):=(true,[([],[]),([],[]),([0,1],[0,1]),([2],[2]),([3],[3]),([4],[4]),([],[]),([6],[6]),([5,7],[5,7])])
def bH.B13:List Nat:=[0,0,3,7,15,31,0,64,255]
theorem bH.tab13:eQ .any (fV Try.f120 13)=bH.T13:=by kernel_rfl
theorem bH.bits13:eE bH.T13.2 bH.B13=true:=by kernel_rfl
theorem bH.calls (k:Nat) (A0:Option Addr) (c0:Nat) (l0:List (S116)) (a1:Int) (r:Int) (w:World) (Dl:Kd.C d7 w A0 l0.length l0) (Dm:l0.length≤c0) (h:bH.f k l0 a1=some r):
 Calls Try.prog 120 #[.slice A0 l0.length c0,.int .i64 a1] w fun e w'=>e=.returned (.int .i64 r)∧Below w.heap.size w w':=by
 have Cd:=am Dl
 have Dq:=am Dm
 clear Dl Dm
 have HB:=am (Below.refl w.heap.size w)
 have H:=h
 clear h
 unfold bH.f at H
 have H':=am H
 clear H
 go_enter Try.func120,Try.ntmps120
 go_wp2
 go_loopg [1,5] k (fun kq v1 v5 w'=>∃(Ce:Int) (A1:Int),v1=.int .i64 Ce∧v5=.int .i64 A1∧Aside0 (bH.l0 kq l0 Ce A1=some r)∧Aside0 (kq≤k)∧Aside0 (Below w.heap.size w w'))
 case atStart=>exact ⟨(a1),(0),sq,sq,H',⟨jV _⟩,⟨bq HB.o⟩⟩
 case round=>
  clear H'
  try clear c1
  try clear p2
  obtain ⟨Ce,A1,rfl,rfl,HA,Dn,HB⟩:=hrel
  cases gk with
  |zero=>exact absurd HA.o (by simp [bH.l0])
  |succ k1=>
   have H:=HA.o
   clear HA
   simp only [bH.l0] at H
   replace H:=il' H
   rcases H with ⟨-,De,H⟩|⟨-,De,H⟩
   · obtain rfl:=jU H
     go_wp2
     go_ret
     exact ⟨rq,bq HB.o⟩
   replace H:=nl H
   obtain ⟨-,Dp,H⟩:=H
   replace H:=be H
   obtain ⟨Bn,A5,H⟩:=H
   replace H:=il H
   rcases H with ⟨-,Df,H⟩|⟨-,Df,H⟩
   · obtain rfl:=jU H
     have B7:0≤(A1:Int):=oda
     have B8:A1<(l0.length:Int):=oda
     obtain ⟨A4,C1,C2,C3,C4,C5,A2,A8,A9,Aa,A3,Ag,Ah,Ai,Aj⟩:=bZ Cd.o A1 B7 B8
     cases C5
     replace A2:=(HB.o.cell (jO w _ A2)).trans A2
     replace A8:=(HB.o.cell (jO w _ A8)).trans A8
     replace A9:=(HB.o.cell (jO w _ A9)).trans A9
     replace Aa:=(HB.o.cell (jO w _ Aa)).trans Aa
     replace A3:=(HB.o.cell (jO w _ A3)).trans A3
     have B1:=am Ah
     have B2:=am Ag
     clear Ah Ag
     have Bo:=am Aj
     have Bp:=am Ai
     clear Aj Ai
     replace B7:=eq_true B7
     replace B8:=eq_true B8
     go_wp2_with (first|((with_reducible refine aD (f:=94) rfl ?_);refine gc (some 18) (bR.calls k1 _ _ ((aE l0 A1).f0) Ce Bn _ (cq (Kd.C_below B1.o HB.o)) B2.o A5.o) Try.func94 ?_;rintro e w' ⟨rfl,⟨nd,rfl⟩⟩;refine ⟨_,rfl,?_⟩))
     go_ret
     exact ⟨rq,bq HB.o⟩
   replace H:=iq' H
   rcases H with ⟨c7,Dg,Dh,H⟩|⟨-,Dg,Dh,H⟩
   · obtain rfl:=jU H
     have B7:0≤(A1:Int):=oda
     have B8:A1<(l0.length:Int):=oda
     obtain ⟨A4,C1,C2,C3,C4,C5,A2,A8,A9,Aa,A3,Ag,Ah,Ai,Aj⟩:=bZ Cd.o A1 B7 B8
     cases C5
     replace A2:=(HB.o.cell (jO w _ A2)).trans A2
     replace A8:=(HB.o.cell (jO w _ A8)).trans A8
     replace A9:=(HB.o.cell (jO w _ A9)).trans A9
     replace Aa:=(HB.o.cell (jO w _ Aa)).trans Aa
     replace A3:=(HB.o.cell (jO w _ A3)).trans A3
     have B1:=am Ah
     have B2:=am Ag
     clear Ah Ag
     have Bo:=am Aj
     have Bp:=am Ai
     clear Aj Ai
     replace B7:=eq_true B7
     replace B8:=eq_true B8
     go_wp2_with (first|((with_reducible refine aD (f:=94) rfl ?_);refine gc (some 18) (bR.calls k1 _ _ ((aE l0 A1).f0) Ce Bn _ (cq (Kd.C_below B1.o HB.o)) B2.o A5.o) Try.func94 ?_;rintro e w' ⟨rfl,⟨nd,rfl⟩⟩;refine ⟨_,rfl,?_⟩;have Bd:0≤(A1:Int):=oda;have Be:A1<(l0.length:Int):=oda;obtain ⟨Bq,Cf,Cg,Ch,Ci,Cj,A6,Ab,Ac,Ad,A7,As,At,Au,Av⟩:=bZ Cd.o A1 Bd Be;obtain rfl:A4=Bq:=(by injection Cj);replace A6:=(HB.o.cell (jO w _ A6)).trans A6;replace Ab:=(HB.o.cell (jO w _ Ab)).trans Ab;replace Ac:=(HB.o.cell (jO w _ Ac)).trans Ac;replace Ad:=(HB.o.cell (jO w _ Ad)).trans Ad;replace A7:=(HB.o.cell (jO w _ A7)).trans A7;have Bw:=am At;have Bx:=am As;clear At As;have By:=am Av;have Bz:=am Au;clear Av Au;replace Bd:=eq_true Bd;replace Be:=eq_true Be;have ea_:=jU (A2.symm.trans A6);injection ea_ with ea_ en_ ec_;subst ea_;subst ec_;clear en_;have ea_:=jU (A3.symm.trans A7);injection ea_ with ea_ en_ ec_;subst ea_;subst ec_;clear en_))
     go_ret
     exact ⟨rq,bq HB.o⟩
   replace H:=iq' H
   rcases H with ⟨c8,Di,Dj,H⟩|⟨-,Di,Dj,H⟩
   · obtain rfl:=jU H
     have B7:0≤(A1:Int):=oda
     have B8:A1<(l0.length:Int):=oda
     obtain ⟨A4,C1,C2,C3,C4,C5,A2,A8,A9,Aa,A3,Ag,Ah,Ai,Aj⟩:=bZ Cd.o A1 B7 B8
     cases C5
     replace A2:=(HB.o.cell (jO w _ A2)).trans A2
     replace A8:=(HB.o.cell (jO w _ A8)).trans A8
     replace A9:=(HB.o.cell (jO w _ A9)).trans A9
     replace Aa:=(HB.o.cell (jO w _ Aa)).trans Aa
     replace A3:=(HB.o.cell (jO w _ A3)).trans A3
     have B1:=am Ah
     have B2:=am Ag
     clear Ah Ag
     have Bo:=am Aj
     have Bp:=am Ai
     clear Aj Ai
     replace B7:=eq_true B7
     replace B8:=eq_true B8
     go_wp2_with (first|((with_reducible refine aD (f:=94) rfl ?_);refine gc (some 18) (bR.calls k1 _ _ ((aE l0 A1).f0) Ce Bn _ (cq (Kd.C_below B1.o HB.o)) B2.o A5.o) Try.func94 ?_;rintro e w' ⟨rfl,⟨nd,rfl⟩⟩;refine ⟨_,rfl,?_⟩;have Bd:0≤(A1:Int):=oda;have Be:A1<(l0.length:Int):=oda;obtain ⟨Bq,Cf,Cg,Ch,Ci,Cj,A6,Ab,Ac,Ad,A7,As,At,Au,Av⟩:=bZ Cd.o A1 Bd Be;obtain rfl:A4=Bq:=(by injection Cj);replace A6:=(HB.o.cell (jO w _ A6)).trans A6;replace Ab:=(HB.o.cell (jO w _ Ab)).trans Ab;replace Ac:=(HB.o.cell (jO w _ Ac)).trans Ac;replace Ad:=(HB.o.cell (jO w _ Ad)).trans Ad;replace A7:=(HB.o.cell (jO w _ A7)).trans A7;have Bw:=am At;have Bx:=am As;clear At As;have By:=am Av;have Bz:=am Au;clear Av Au;replace Bd:=eq_true Bd;replace Be:=eq_true Be;have ea_:=jU (A2.symm.trans A6);injection ea_ with ea_ en_ ec_;subst ea_;subst ec_;clear en_;have ea_:=jU (A3.symm.trans A7);injection ea_ with ea_ en_ ec_;subst ea_;subst ec_;clear en_;have Bl:0≤(A1:Int):=oda;have Bm:A1<(l0.length:Int):=oda;obtain ⟨C6,Cp,Cq,Cr,Cs,Ct,Ae,Ap,Aq,Ar,Af,B3,B4,B5,B6⟩:=bZ Cd.o A1 Bl Bm;obtain rfl:A4=C6:=(by injection Ct);replace Ae:=(HB.o.cell (jO w _ Ae)).trans Ae;replace Ap:=(HB.o.cell (jO w _ Ap)).trans Ap;replace Aq:=(HB.o.cell (jO w _ Aq)).trans Aq;replace Ar:=(HB.o.cell (jO w _ Ar)).trans Ar;replace Af:=(HB.o.cell (jO w _ Af)).trans Af;have Ck:=am B4;have Cl:=am B3;clear B4 B3;have Cm:=am B6;have Cn:=am B5;clear B6 B5;replace Bl:=eq_true Bl;replace Bm:=eq_true Bm;have ea_:=jU (A2.symm.trans Ae);injection ea_ with ea_ en_ ec_;subst ea_;subst ec_;clear en_;have ea_:=jU (A3.symm.trans Af);injection ea_ with ea_ en_ ec_;subst ea_;subst ec_;clear en_))
     go_ret
     exact ⟨rq,bq HB.o⟩
   replace H:=be H
   obtain ⟨Cx,Dk,H⟩:=H
   replace H:=iq' H
   rcases H with ⟨Dr,Db,Dc,H⟩|⟨-,Db,Dc,H⟩
   · obtain rfl:=jU H
     have B7:0≤(A1:Int):=oda
     have B8:A1<(l0.length:Int):=oda
     obtain ⟨A4,C1,C2,C3,C4,C5,A2,A8,A9,Aa,A3,Ag,Ah,Ai,Aj⟩:=bZ Cd.o A1 B7 B8
     cases C5
     replace A2:=(HB.o.cell (jO w _ A2)).trans A2
     replace A8:=(HB.o.cell (jO w _ A8)).trans A8
     replace A9:=(HB.o.cell (jO w _ A9)).trans A9
     replace Aa:=(HB.o.cell (jO w _ Aa)).trans Aa
     replace A3:=(HB.o.cell (jO w _ A3)).trans A3
     have B1:=am Ah
     have B2:=am Ag
     clear Ah Ag
     have Bo:=am Aj
     have Bp:=am Ai
     clear Aj Ai
     replace B7:=eq_true B7
     replace B8:=eq_true B8
     try go_wp2_with (first|((with_reducible refine aD (f:=94) rfl ?_);refine gc (some 18) (bR.calls k1 _ _ ((aE l0 A1).f0) Ce Bn _ (cq (Kd.C_below B1.o HB.o)) B2.o A5.o) Try.func94 ?_;rintro e w' ⟨rfl,⟨nd,rfl⟩⟩;refine ⟨_,rfl,?_⟩;have Bd:0≤(A1:Int):=oda;have Be:A1<(l0.length:Int):=oda;obtain ⟨Bq,Cf,Cg,Ch,Ci,Cj,A6,Ab,Ac,Ad,A7,As,At,Au,Av⟩:=bZ Cd.o A1 Bd Be;obtain rfl:A4=Bq:=(by injection Cj);replace A6:=(HB.o.cell (jO w _ A6)).trans A6;replace Ab:=(HB.o.cell (jO w _ Ab)).trans Ab;replace Ac:=(HB.o.cell (jO w _ Ac)).trans Ac;replace Ad:=(HB.o.cell (jO w _ Ad)).trans Ad;replace A7:=(HB.o.cell (jO w _ A7)).trans A7;have Bw:=am At;have Bx:=am As;clear At As;have By:=am Av;have Bz:=am Au;clear Av Au;replace Bd:=eq_true Bd;replace Be:=eq_true Be;have ea_:=jU (A2.symm.trans A6);injection ea_ with ea_ en_ ec_;subst ea_;subst ec_;clear en_;have ea_:=jU (A3.symm.trans A7);injection ea_ with ea_ en_ ec_;subst ea_;subst ec_;clear en_;have Bl:0≤(A1:Int):=oda;have Bm:A1<(l0.length:Int):=oda;obtain ⟨C6,Cp,Cq,Cr,Cs,Ct,Ae,Ap,Aq,Ar,Af,B3,B4,B5,B6⟩:=bZ Cd.o A1 Bl Bm;obtain rfl:A4=C6:=(by injection Ct);replace Ae:=(HB.o.cell (jO w _ Ae)).trans Ae;replace Ap:=(HB.o.cell (jO w _ Ap)).trans Ap;replace Aq:=(HB.o.cell (jO w _ Aq)).trans Aq;replace Ar:=(HB.o.cell (jO w _ Ar)).trans Ar;replace Af:=(HB.o.cell (jO w _ Af)).trans Af;have Ck:=am B4;have Cl:=am B3;clear B4 B3;have Cm:=am B6;have Cn:=am B5;clear B6 B5;replace Bl:=eq_true Bl;replace Bm:=eq_true Bm;have ea_:=jU (A2.symm.trans Ae);injection ea_ with ea_ en_ ec_;subst ea_;subst ec_;clear en_;have ea_:=jU (A3.symm.trans Af);injection ea_ with ea_ en_ ec_;subst ea_;subst ec_;clear en_))
     (try (rw [b7 wr];generalize hq_:World.drewN wr _=wr;have D5:Aside0 (Below w.heap.size w wr):=⟨by rw [← hq_];exact (bq HB.o)⟩;clear HB hq_;have HB:=D5;clear D5))
     replace HB:=am (a9 HB.o)
     have C7:0≤(A1:Int):=oda
     have C8:A1<(l0.length:Int):=oda
     obtain ⟨Co,C9,Ca,Cb,Cc,Cy,Ak,Al,Am,An,Ao,B9,Ba,Bb,Bc⟩:=bZ Cd.o A1 C7 C8
     have Aw:=Ao
     have Ax:=An
     have Ay:=Am
     have Az:=Al
     have B0:=Ak
     obtain rfl:A4=Co:=(by injection Cy)
     replace Ak:=(HB.o.cell (jO w _ Ak)).trans Ak
     replace Al:=(HB.o.cell (jO w _ Al)).trans Al
     replace Am:=(HB.o.cell (jO w _ Am)).trans Am
     replace An:=(HB.o.cell (jO w _ An)).trans An
     replace Ao:=(HB.o.cell (jO w _ Ao)).trans Ao
     have Br:=am Ba
     have Cw:=am B9
     clear Ba B9
     have Bf:=am Bc
     have C0:=am Bb
     clear Bc Bb
     replace C7:=eq_true C7
     replace C8:=eq_true C8
     refine dJ (n:=9) (S:=fun w'=>w'.cell? (A4.add ((A1).toNat*5))=some (.slice C9 ((aE l0 A1).f0).length Ca)∧w'.cell? ⟨(A4.add ((A1).toNat*5)).block,(A4.add ((A1).toNat*5)).off+1,none⟩=some (.int .i64 ((aE l0 A1).f1.f0))∧w'.cell? ⟨(A4.add ((A1).toNat*5)).block,(A4.add ((A1).toNat*5)).off+2,none⟩=some (.int .i64 ((aE l0 A1).f1.f1))∧w'.cell? ⟨(A4.add ((A1).toNat*5)).block,(A4.add ((A1).toNat*5)).off+3,none⟩=some (.string ((aE l0 A1).f1.f2))∧w'.cell? ⟨(A4.add ((A1).toNat*5)).block,(A4.add ((A1).toNat*5)).off+4,none⟩=some (.slice Cb ((aE l0 A1).f1.f3).length Cc)) (ds:=[]) #[F,F,F,F,F,F,F,F,F] (by kernel_rfl) rfl rfl ⟨((HB.o.cell (jO w _ B0)).trans B0),((HB.o.cell (jO w _ Az)).trans Az),((HB.o.cell (jO w _ Ay)).trans Ay),((HB.o.cell (jO w _ Ax)).trans Ax),((HB.o.cell (jO w _ Aw)).trans Aw)⟩ (fun hHeld=>?_);refine bQ bH.tab13 bH.bits13 (fun HT_ HW_=>?_)
     generalize wr.drew=Ds at HB Br Bf Ak Al Am An Ao hHeld ⊢
     refine pv HT_ 0 (some 41) #[T,F,F,F,F,F,F,F,F] ?_
     refine pv HT_ 1 (some 42) #[T,T,F,F,F,F,F,F,F] ?_
     refine pv HT_ 2 (some 43) #[T,T,T,F,F,F,F,F,F] ?_
     refine pv HT_ 3 (some 44) #[T,T,T,T,F,F,F,F,F] ?_
     refine pv HT_ 4 (some 45) #[T,T,T,T,T,F,F,F,F] ?_
     refine pv HT_ 6 (some 47) #[T,T,T,T,T,F,T,F,F] ?_
     refine tk 5 (some 46) #[T,T,T,T,T,T,T,F,F] rfl rfl (aZ HT_.o HW_.o (by kernel_rfl)) hHeld (Or.inl ⟨by rfl,by rintro w' ⟨s0,s1,s2,s3,s4⟩;go_simp;with_reducible rfl⟩) ?_
     refine eD (i:=7) (N:=some 48) #[T,T,T,T,T,T,T,T,F] rfl rfl (cF HT_.o (by kernel_rfl)) (by decide) (fun K hK=>?_)
     refine d6 Try.func131 (by kernel_rfl) rfl #[.int .i64 (wrap64 ((wrap64 (Bn+1))+1))] (by rfl) rfl rfl ga ?_
     with_reducible refine (b8.calls k1 (wrap64 ((wrap64 (Bn+1))+1)) Cx _ Dk.o).mono ?_
     rintro e Dt ⟨rfl,hb⟩
     refine ⟨_,rfl,?_⟩
     replace HB:=am (aA (bq HB.o) hb)
     (try clear hb)
     refine hK.out _ _ ⟨((HB.o.cell (jO w _ B0)).trans B0),((HB.o.cell (jO w _ Az)).trans Az),((HB.o.cell (jO w _ Ay)).trans Ay),((HB.o.cell (jO w _ Ax)).trans Ax),((HB.o.cell (jO w _ Aw)).trans Aw)⟩ (fun hHeld=>?_)
     clear hK K
     refine dL (a':=?_) ?_ ?_
     rotate_left
     · show Act.put _ (some 48) _=_
       simp only [Act.put,jP,jQ,jR,aK,aN]
       rfl
     refine pv HT_ 8 (some 49) #[T,T,T,T,T,T,T,T,T] ?_
     refine eA (cG HT_.o (by kernel_rfl)) ?_
     try go_wp2
     go_ret
     exact ⟨rq,bq HB.o⟩
   replace H:=be H
   obtain ⟨Cz,Do,H⟩:=H
   replace H:=il H
   rcases H with ⟨-,Dd,H⟩|⟨-,Dd,H⟩
   · obtain rfl:=jU H
     have B7:0≤(A1:Int):=oda
     have B8:A1<(l0.length:Int):=oda
     obtain ⟨A4,C1,C2,C3,C4,C5,A2,A8,A9,Aa,A3,Ag,Ah,Ai,Aj⟩:=bZ Cd.o A1 B7 B8
     cases C5
     replace A2:=(HB.o.cell (jO w _ A2)).trans A2
     replace A8:=(HB.o.cell (jO w _ A8)).trans A8
     replace A9:=(HB.o.cell (jO w _ A9)).trans A9
     replace Aa:=(HB.o.cell (jO w _ Aa)).trans Aa
     replace A3:=(HB.o.cell (jO w _ A3)).trans A3
     have B1:=am Ah
     have B2:=am Ag
     clear Ah Ag
     have Bo:=am Aj
     have Bp:=am Ai
     clear Aj Ai
     replace B7:=eq_true B7
     replace B8:=eq_true B8
     try go_wp2_with (first|((with_reducible refine aD (f:=94) rfl ?_);refine gc (some 18) (bR.calls k1 _ _ ((aE l0 A1).f0) Ce Bn _ (cq (Kd.C_below B1.o HB.o)) B2.o A5.o) Try.func94 ?_;rintro e w' ⟨rfl,⟨nd,rfl⟩⟩;refine ⟨_,rfl,?_⟩;have Bd:0≤(A1:Int):=oda;have Be:A1<(l0.length:Int):=oda;obtain ⟨Bq,Cf,Cg,Ch,Ci,Cj,A6,Ab,Ac,Ad,A7,As,At,Au,Av⟩:=bZ Cd.o A1 Bd Be;obtain rfl:A4=Bq:=(by injection Cj);replace A6:=(HB.o.cell (jO w _ A6)).trans A6;replace Ab:=(HB.o.cell (jO w _ Ab)).trans Ab;replace Ac:=(HB.o.cell (jO w _ Ac)).trans Ac;replace Ad:=(HB.o.cell (jO w _ Ad)).trans Ad;replace A7:=(HB.o.cell (jO w _ A7)).trans A7;have Bw:=am At;have Bx:=am As;clear At As;have By:=am Av;have Bz:=am Au;clear Av Au;replace Bd:=eq_true Bd;replace Be:=eq_true Be;have ea_:=jU (A2.symm.trans A6);injection ea_ with ea_ en_ ec_;subst ea_;subst ec_;clear en_;have ea_:=jU (A3.symm.trans A7);injection ea_ with ea_ en_ ec_;subst ea_;subst ec_;clear en_;have Bl:0≤(A1:Int):=oda;have Bm:A1<(l0.length:Int):=oda;obtain ⟨C6,Cp,Cq,Cr,Cs,Ct,Ae,Ap,Aq,Ar,Af,B3,B4,B5,B6⟩:=bZ Cd.o A1 Bl Bm;obtain rfl:A4=C6:=(by injection Ct);replace Ae:=(HB.o.cell (jO w _ Ae)).trans Ae;replace Ap:=(HB.o.cell (jO w _ Ap)).trans Ap;replace Aq:=(HB.o.cell (jO w _ Aq)).trans Aq;replace Ar:=(HB.o.cell (jO w _ Ar)).trans Ar;replace Af:=(HB.o.cell (jO w _ Af)).trans Af;have Ck:=am B4;have Cl:=am B3;clear B4 B3;have Cm:=am B6;have Cn:=am B5;clear B6 B5;replace Bl:=eq_true Bl;replace Bm:=eq_true Bm;have ea_:=jU (A2.symm.trans Ae);injection ea_ with ea_ en_ ec_;subst ea_;subst ec_;clear en_;have ea_:=jU (A3.symm.trans Af);injection ea_ with ea_ en_ ec_;subst ea_;subst ec_;clear en_))
     (try (rw [b7 wr];generalize hq_:World.drewN wr _=wr;have D5:Aside0 (Below w.heap.size w wr):=⟨by rw [← hq_];exact (bq HB.o)⟩;clear HB hq_;have HB:=D5;clear D5))
     replace HB:=am (a9 HB.o)
     have C7:0≤(A1:Int):=oda
     have C8:A1<(l0.length:Int):=oda
     obtain ⟨Co,C9,Ca,Cb,Cc,Cy,Ak,Al,Am,An,Ao,B9,Ba,Bb,Bc⟩:=bZ Cd.o A1 C7 C8
     have Aw:=Ao
     have Ax:=An
     have Ay:=Am
     have Az:=Al
     have B0:=Ak
     obtain rfl:A4=Co:=(by injection Cy)
     replace Ak:=(HB.o.cell (jO w _ Ak)).trans Ak
     replace Al:=(HB.o.cell (jO w _ Al)).trans Al
     replace Am:=(HB.o.cell (jO w _ Am)).trans Am
     replace An:=(HB.o.cell (jO w _ An)).trans An
     replace Ao:=(HB.o.cell (jO w _ Ao)).trans Ao
     have Br:=am Ba
     have Cw:=am B9
     clear Ba B9
     have Bf:=am Bc
     have C0:=am Bb
     clear Bc Bb
     replace C7:=eq_true C7
     replace C8:=eq_true C8
     refine dJ (n:=9) (S:=fun w'=>w'.cell? (A4.add ((A1).toNat*5))=some (.slice C9 ((aE l0 A1).f0).length Ca)∧w'.cell? ⟨(A4.add ((A1).toNat*5)).block,(A4.add ((A1).toNat*5)).off+1,none⟩=some (.int .i64 ((aE l0 A1).f1.f0))∧w'.cell? ⟨(A4.add ((A1).toNat*5)).block,(A4.add ((A1).toNat*5)).off+2,none⟩=some (.int .i64 ((aE l0 A1).f1.f1))∧w'.cell? ⟨(A4.add ((A1).toNat*5)).block,(A4.add ((A1).toNat*5)).off+3,none⟩=some (.string ((aE l0 A1).f1.f2))∧w'.cell? ⟨(A4.add ((A1).toNat*5)).block,(A4.add ((A1).toNat*5)).off+4,none⟩=some (.slice Cb ((aE l0 A1).f1.f3).length Cc)) (ds:=[]) #[F,F,F,F,F,F,F,F,F] (by kernel_rfl) rfl rfl ⟨((HB.o.cell (jO w _ B0)).trans B0),((HB.o.cell (jO w _ Az)).trans Az),((HB.o.cell (jO w _ Ay)).trans Ay),((HB.o.cell (jO w _ Ax)).trans Ax),((HB.o.cell (jO w _ Aw)).trans Aw)⟩ (fun hHeld=>?_);refine bQ bH.tab13 bH.bits13 (fun HT_ HW_=>?_)
     generalize wr.drew=Du at HB Br Bf Ak Al Am An Ao hHeld ⊢
     refine pv HT_ 0 (some 41) #[T,F,F,F,F,F,F,F,F] ?_
     refine pv HT_ 1 (some 42) #[T,T,F,F,F,F,F,F,F] ?_
     refine pv HT_ 2 (some 43) #[T,T,T,F,F,F,F,F,F] ?_
     refine pv HT_ 3 (some 44) #[T,T,T,T,F,F,F,F,F] ?_
     refine pv HT_ 4 (some 45) #[T,T,T,T,T,F,F,F,F] ?_
     refine pv HT_ 6 (some 47) #[T,T,T,T,T,F,T,F,F] ?_
     refine tk 5 (some 46) #[T,T,T,T,T,T,T,F,F] rfl rfl (aZ HT_.o HW_.o (by kernel_rfl)) hHeld (Or.inl ⟨by rfl,by rintro w' ⟨s0,s1,s2,s3,s4⟩;go_simp;with_reducible rfl⟩) ?_
     refine eD (i:=7) (N:=some 48) #[T,T,T,T,T,T,T,T,F] rfl rfl (cF HT_.o (by kernel_rfl)) (by decide) (fun K hK=>?_)
     refine d6 Try.func131 (by kernel_rfl) rfl #[.int .i64 (wrap64 ((wrap64 (Bn+1))+1))] (by rfl) rfl rfl ga ?_
     with_reducible refine (b8.calls k1 (wrap64 ((wrap64 (Bn+1))+1)) Cx _ Dk.o).mono ?_
     rintro e Dv ⟨rfl,hb⟩
     refine ⟨_,rfl,?_⟩
     replace HB:=am (aA (bq HB.o) hb)
     (try clear hb)
     refine hK.out _ _ ⟨((HB.o.cell (jO w _ B0)).trans B0),((HB.o.cell (jO w _ Az)).trans Az),((HB.o.cell (jO w _ Ay)).trans Ay),((HB.o.cell (jO w _ Ax)).trans Ax),((HB.o.cell (jO w _ Aw)).trans Aw)⟩ (fun hHeld=>?_)
     clear hK K
     refine dL (a':=?_) ?_ ?_
     rotate_left
     · show Act.put _ (some 48) _=_
       simp only [Act.put,jP,jQ,jR,aK,aN]
       rfl
     refine pv HT_ 8 (some 49) #[T,T,T,T,T,T,T,T,T] ?_
     refine eA (cG HT_.o (by kernel_rfl)) ?_
     have Cu:0≤(A1:Int):=oda
     have Cv:A1<(l0.length:Int):=oda
     obtain ⟨D0,D6,D7,D8,D9,Da,Bg,Bh,Bi,Bj,Bk,Bs,Bt,Bu,Bv⟩:=bZ Cd.o A1 Cu Cv
     obtain rfl:A4=D0:=(by injection Da)
     replace Bg:=(HB.o.cell (jO w _ Bg)).trans Bg
     replace Bh:=(HB.o.cell (jO w _ Bh)).trans Bh
     replace Bi:=(HB.o.cell (jO w _ Bi)).trans Bi
     replace Bj:=(HB.o.cell (jO w _ Bj)).trans Bj
     replace Bk:=(HB.o.cell (jO w _ Bk)).trans Bk
     have D1:=am Bt
     have D2:=am Bs
     clear Bt Bs
     have D3:=am Bv
     have D4:=am Bu
     clear Bv Bu
     replace Cu:=eq_true Cu
     replace Cv:=eq_true Cv
     try go_wp2_with (first|((with_reducible refine aD (f:=94) rfl ?_);refine gc (some 59) (bR.calls k1 _ _ ((aE l0 A1).f1.f3) (wrap64 ((wrap64 ((wrap64 (Bn+1))+1))+1)) Cz _ (cq (Kd.C_below Bf.o HB.o)) C0.o Do.o) Try.func94 ?_;rintro e w' ⟨rfl,⟨nd,rfl⟩⟩;refine ⟨_,rfl,?_⟩))
     go_ret
     exact ⟨rq,bq HB.o⟩
   have H':=am H
   clear H
   have B7:0≤(A1:Int):=oda
   have B8:A1<(l0.length:Int):=oda
   obtain ⟨A4,C1,C2,C3,C4,C5,A2,A8,A9,Aa,A3,Ag,Ah,Ai,Aj⟩:=bZ Cd.o A1 B7 B8
   cases C5
   replace A2:=(HB.o.cell (jO w _ A2)).trans A2
   replace A8:=(HB.o.cell (jO w _ A8)).trans A8
   replace A9:=(HB.o.cell (jO w _ A9)).trans A9
   replace Aa:=(HB.o.cell (jO w _ Aa)).trans Aa
   replace A3:=(HB.o.cell (jO w _ A3)).trans A3
   have B1:=am Ah
   have B2:=am Ag
   clear Ah Ag
   have Bo:=am Aj
   have Bp:=am Ai
   clear Aj Ai
   replace B7:=eq_true B7
   replace B8:=eq_true B8
   try go_wp2_with (first|((with_reducible refine aD (f:=94) rfl ?_);refine gc (some 18) (bR.calls k1 _ _ ((aE l0 A1).f0) Ce Bn _ (cq (Kd.C_below B1.o HB.o)) B2.o A5.o) Try.func94 ?_;rintro e w' ⟨rfl,⟨nd,rfl⟩⟩;refine ⟨_,rfl,?_⟩;have Bd:0≤(A1:Int):=oda;have Be:A1<(l0.length:Int):=oda;obtain ⟨Bq,Cf,Cg,Ch,Ci,Cj,A6,Ab,Ac,Ad,A7,As,At,Au,Av⟩:=bZ Cd.o A1 Bd Be;obtain rfl:A4=Bq:=(by injection Cj);replace A6:=(HB.o.cell (jO w _ A6)).trans A6;replace Ab:=(HB.o.cell (jO w _ Ab)).trans Ab;replace Ac:=(HB.o.cell (jO w _ Ac)).trans Ac;replace Ad:=(HB.o.cell (jO w _ Ad)).trans Ad;replace A7:=(HB.o.cell (jO w _ A7)).trans A7;have Bw:=am At;have Bx:=am As;clear At As;have By:=am Av;have Bz:=am Au;clear Av Au;replace Bd:=eq_true Bd;replace Be:=eq_true Be;have ea_:=jU (A2.symm.trans A6);injection ea_ with ea_ en_ ec_;subst ea_;subst ec_;clear en_;have ea_:=jU (A3.symm.trans A7);injection ea_ with ea_ en_ ec_;subst ea_;subst ec_;clear en_;have Bl:0≤(A1:Int):=oda;have Bm:A1<(l0.length:Int):=oda;obtain ⟨C6,Cp,Cq,Cr,Cs,Ct,Ae,Ap,Aq,Ar,Af,B3,B4,B5,B6⟩:=bZ Cd.o A1 Bl Bm;obtain rfl:A4=C6:=(by injection Ct);replace Ae:=(HB.o.cell (jO w _ Ae)).trans Ae;replace Ap:=(HB.o.cell (jO w _ Ap)).trans Ap;replace Aq:=(HB.o.cell (jO w _ Aq)).trans Aq;replace Ar:=(HB.o.cell (jO w _ Ar)).trans Ar;replace Af:=(HB.o.cell (jO w _ Af)).trans Af;have Ck:=am B4;have Cl:=am B3;clear B4 B3;have Cm:=am B6;have Cn:=am B5;clear B6 B5;replace Bl:=eq_true Bl;replace Bm:=eq_true Bm;have ea_:=jU (A2.symm.trans Ae);injection ea_ with ea_ en_ ec_;subst ea_;subst ec_;clear en_;have ea_:=jU (A3.symm.trans Af);injection ea_ with ea_ en_ ec_;subst ea_;subst ec_;clear en_))
   (try (rw [b7 wr];generalize hq_:World.drewN wr _=wr;have D5:Aside0 (Below w.heap.size w wr):=⟨by rw [← hq_];exact (bq HB.o)⟩;clear HB hq_;have HB:=D5;clear D5))
   replace HB:=am (a9 HB.o)
   have C7:0≤(A1:Int):=oda
   have C8:A1<(l0.length:Int):=oda
   obtain ⟨Co,C9,Ca,Cb,Cc,Cy,Ak,Al,Am,An,Ao,B9,Ba,Bb,Bc⟩:=bZ Cd.o A1 C7 C8
   have Aw:=Ao
   have Ax:=An
   have Ay:=Am
   have Az:=Al
   have B0:=Ak
   obtain rfl:A4=Co:=(by injection Cy)
   replace Ak:=(HB.o.cell (jO w _ Ak)).trans Ak
   replace Al:=(HB.o.cell (jO w _ Al)).trans Al
   replace Am:=(HB.o.cell (jO w _ Am)).trans Am
   replace An:=(HB.o.cell (jO w _ An)).trans An
   replace Ao:=(HB.o.cell (jO w _ Ao)).trans Ao
   have Br:=am Ba
   have Cw:=am B9
   clear Ba B9
   have Bf:=am Bc
   have C0:=am Bb
   clear Bc Bb
   replace C7:=eq_true C7
   replace C8:=eq_true C8
   refine dJ (n:=9) (S:=fun w'=>w'.cell? (A4.add ((A1).toNat*5))=some (.slice C9 ((aE l0 A1).f0).length Ca)∧w'.cell? ⟨(A4.add ((A1).toNat*5)).block,(A4.add ((A1).toNat*5)).off+1,none⟩=some (.int .i64 ((aE l0 A1).f1.f0))∧w'.cell? ⟨(A4.add ((A1).toNat*5)).block,(A4.add ((A1).toNat*5)).off+2,none⟩=some (.int .i64 ((aE l0 A1).f1.f1))∧w'.cell? ⟨(A4.add ((A1).toNat*5)).block,(A4.add ((A1).toNat*5)).off+3,none⟩=some (.string ((aE l0 A1).f1.f2))∧w'.cell? ⟨(A4.add ((A1).toNat*5)).block,(A4.add ((A1).toNat*5)).off+4,none⟩=some (.slice Cb ((aE l0 A1).f1.f3).length Cc)) (ds:=[]) #[F,F,F,F,F,F,F,F,F] (by kernel_rfl) rfl rfl ⟨((HB.o.cell (jO w _ B0)).trans B0),((HB.o.cell (jO w _ Az)).trans Az),((HB.o.cell (jO w _ Ay)).trans Ay),((HB.o.cell (jO w _ Ax)).trans Ax),((HB.o.cell (jO w _ Aw)).trans Aw)⟩ (fun hHeld=>?_);refine bQ bH.tab13 bH.bits13 (fun HT_ HW_=>?_)
   generalize wr.drew=Dw at HB Br Bf Ak Al Am An Ao hHeld ⊢
   refine pv HT_ 0 (some 41) #[T,F,F,F,F,F,F,F,F] ?_
   refine pv HT_ 1 (some 42) #[T,T,F,F,F,F,F,F,F] ?_
   refine pv HT_ 2 (some 43) #[T,T,T,F,F,F,F,F,F] ?_
   refine pv HT_ 3 (some 44) #[T,T,T,T,F,F,F,F,F] ?_
   refine pv HT_ 4 (some 45) #[T,T,T,T,T,F,F,F,F] ?_
   refine pv HT_ 6 (some 47) #[T,T,T,T,T,F,T,F,F] ?_
   refine tk 5 (some 46) #[T,T,T,T,T,T,T,F,F] rfl rfl (aZ HT_.o HW_.o (by kernel_rfl)) hHeld (Or.inl ⟨by rfl,by rintro w' ⟨s0,s1,s2,s3,s4⟩;go_simp;with_reducible rfl⟩) ?_
   refine eD (i:=7) (N:=some 48) #[T,T,T,T,T,T,T,T,F] rfl rfl (cF HT_.o (by kernel_rfl)) (by decide) (fun K hK=>?_)
   refine d6 Try.func131 (by kernel_rfl) rfl #[.int .i64 (wrap64 ((wrap64 (Bn+1))+1))] (by rfl) rfl rfl ga ?_
   with_reducible refine (b8.calls k1 (wrap64 ((wrap64 (Bn+1))+1)) Cx _ Dk.o).mono ?_
   rintro e Dx ⟨rfl,hb⟩
   refine ⟨_,rfl,?_⟩
   replace HB:=am (aA (bq HB.o) hb)
   (try clear hb)
   refine hK.out _ _ ⟨((HB.o.cell (jO w _ B0)).trans B0),((HB.o.cell (jO w _ Az)).trans Az),((HB.o.cell (jO w _ Ay)).trans Ay),((HB.o.cell (jO w _ Ax)).trans Ax),((HB.o.cell (jO w _ Aw)).trans Aw)⟩ (fun hHeld=>?_)
   clear hK K
   refine dL (a':=?_) ?_ ?_
   rotate_left
   · show Act.put _ (some 48) _=_
     simp only [Act.put,jP,jQ,jR,aK,aN]
     rfl
   refine pv HT_ 8 (some 49) #[T,T,T,T,T,T,T,T,T] ?_
   refine eA (cG HT_.o (by kernel_rfl)) ?_
   have Cu:0≤(A1:Int):=oda
   have Cv:A1<(l0.length:Int):=oda
   obtain ⟨D0,D6,D7,D8,D9,Da,Bg,Bh,Bi,Bj,Bk,Bs,Bt,Bu,Bv⟩:=bZ Cd.o A1 Cu Cv
   obtain rfl:A4=D0:=(by injection Da)
   replace Bg:=(HB.o.cell (jO w _ Bg)).trans Bg
   replace Bh:=(HB.o.cell (jO w _ Bh)).trans Bh
   replace Bi:=(HB.o.cell (jO w _ Bi)).trans Bi
   replace Bj:=(HB.o.cell (jO w _ Bj)).trans Bj
   replace Bk:=(HB.o.cell (jO w _ Bk)).trans Bk
   have D1:=am Bt
   have D2:=am Bs
   clear Bt Bs
   have D3:=am Bv
   have D4:=am Bu
   clear Bv Bu
   replace Cu:=eq_true Cu
   replace Cv:=eq_true Cv
   try go_wp2_with (first|((with_reducible refine aD (f:=94) rfl ?_);refine gc (some 59) (bR.calls k1 _ _ ((aE l0 A1).f1.f3) (wrap64 ((wrap64 ((wrap64 (Bn+1))+1))+1)) Cz _ (cq (Kd.C_below Bf.o HB.o)) C0.o Do.o) Try.func94 ?_;rintro e w' ⟨rfl,⟨nd,rfl⟩⟩;refine ⟨_,rfl,?_⟩))
   go_roundg k1
   case measure=>have:=Dn.o;omega
   case rel=>exact ⟨(Cz),(wrap64 (A1+1)),sq,sq,H',⟨by have:=Dn.o;omega⟩,⟨bq HB.o⟩⟩
def d8.f (k:Nat) (A2:Int) (A3:Int) (A4:Int) (A5:Int) (A1:List (S116)) (a1:Int):Option (Int):=(bH.f k A1 a1).bind fun A0=>(if A0<0 then (some (-1)) else (some A0))
theorem d8.calls (k:Nat) (A5:Int) (A6:Int) (A7:Int) (A8:Int) (A9:Option Addr) (Aa:Nat) (A0:List (S116)) (a1:Int) (r:Int) (w:World) (A2:Kd.C d7 w A9 A0.length A0) (A3:A0.length≤Aa) (h:d8.f k A5 A6 A7 A8 A0 a1=some r):
 Calls Try.prog 59 #[.agg #[.int .i64 A5,.int .i64 A6,.int .i64 A7,.int .i64 A8,.slice A9 A0.length Aa],.int .i64 a1] w fun e w'=>e=.returned (.int .i64 r)∧Below w.heap.size w w':=by
 have Ar:=Try.underlying58
 have Al:=am A2
 have Am:=am A3
 clear A2 A3
 have HB:=am (Below.refl w.heap.size w)
 have H:=h
 clear h
 unfold d8.f at H
 replace H:=be H
 obtain ⟨An,As,H⟩:=H
 replace H:=il H
 rcases H with ⟨-,Ao,H⟩|⟨-,Ao,H⟩
 rotate_left
 rotate_right
 all_goals
  obtain rfl:=jU H
  go_enter Try.func59,Try.ntmps59
  go_wp2_with (first|((with_reducible refine aQ (N:=2) rfl ?_);refine bxe 2 #[.int .i64 A5,.int .i64 A6,.int .i64 A7,.int .i64 A8,.slice A9 A0.length Aa] 58 ?_;intro Ap hg w_ hbox hb;have n_:=ak4 (aA (bq HB.o) hb) hbox (bz hg (bq HB.o)) (bz hg (bq HB.o));clear HB;obtain ⟨HB,A1,Aq,A4⟩:=n_;clear hb hbox hg;obtain ⟨Ab,Ac,Ad,Ae,Af,Ag,Ah,Ai,Aj,Ak⟩:=cl5 A1.o)|((with_reducible refine aD (f:=120) rfl ?_);refine gc (some 8) (bH.calls k _ _ A0 a1 An _ (cq (Kd.C_below Al.o HB.o)) Am.o As.o) Try.func120 ?_;rintro e w_ ⟨rfl,hb⟩;refine ⟨_,rfl,?_⟩;have n_:=ak2 (kb A1 hb) (aA (bq1 HB.o A4.o) hb);clear A1 HB;obtain ⟨A1,HB⟩:=n_;(try clear hb)))
  go_ret
  exact ⟨rq,bq1 HB.o A4.o⟩
end Go.Proofs.Ythhnfmbfgplelaa.XFnExactGetPdu
