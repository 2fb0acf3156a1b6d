/- The functions that one law reaches, as Lean functions, with their walks: printed by a program of this seat (wip/tools) out of the translation. -/
import Derived.Test.YthhnfmbfgplelaaXFnExactGetMsgx0
import Derived.Test.YthhnfmbfgplelaaXFnExactGetMsgx2
import Derived.Test.YthhnfmbfgplelaaXFnExactGetMsgx11
namespace Go.Proofs.Ythhnfmbfgplelaa.XFnExactGetMsg
open Go.RowKit Go.Proofs.YthhnfmbfgplelaaW.PrintWords Go.Proofs.YthhnfmbfgplelaaW.PrintLast Go.Proofs.YthhnfmbfgplelaaW.PrintMore
attribute [local go_sem] cQ cR dP dQ cC cD cS cT
set_option linter.unusedVariables false
set_option linter.unusedSimpArgs false
set_option maxHeartbeats 8000000
set_option maxRecDepth 100000
def bI.l0:Nat→List (S116)→Int→Int→Option (Int)
 |0,_,_,_=>none
 |k+1,x0,x1,x5=>if x5<(x0.length:Int) then (if 0≤x5 then ((bS.f k ((aE x0 x5).f0) x1).bind fun A0=>(if A0<0 then (some (-1)) else (if ((aE x0 x5).f1.f0)=A0 then (if ((aE x0 x5).f1.f1)=(wrap64 (A0+1)) then ((b9.f k (wrap64 ((wrap64 (A0+1))+1))).bind fun A2=>(if ((aE x0 x5).f1.f2).toList=A2.toList then ((bS.f k ((aE x0 x5).f1.f3) (wrap64 ((wrap64 ((wrap64 (A0+1))+1))+1))).bind fun A1=>(if A1<0 then (some (-1)) else (bI.l0 k x0 A1 (wrap64 (x5+1))))) else (some (-1)))) else (some (-1))) else (some (-1))))) else (none)) else (some x1)
def bI.f (k:Nat) (l0:List (S116)) (a1:Int):Option (Int):=bI.l0 k l0 a1 0
def bI.T13:Bool × List (List Nat × List Nat):=(true,[([],[]),([],[]),([0,1],[0,1]),([2],[2]),([3],[3]),([4],[4]),([],[]),([6],[6]),([5,7],[5,7])])
def bI.B13:List Nat:=[0,0,3,7,15,31,0,64,255]
theorem bI.tab13:eS .any (fX Try.f120 13)=bI.T13:=by kernel_rfl
theorem bI.bits13:eI bI.T13.2 bI.B13=true:=by kernel_rfl
theorem bI.calls (k:Nat) (A0:Option Addr) (c0:Nat) (l0:List (S116)) (a1:Int) (r:Int) (w:World) (Dl:Kd.C eA w A0 l0.length l0) (Dm:l0.length≤c0) (h:bI.f k l0 a1=some r):
 Calls Try.prog 120 #[.slice A0 l0.length c0,.int .i64 a1] w fun e w'=>e=.returned (.int .i64 r)∧Below w.heap.size w w':=by
 have Ce:=am Dl
 have Dq:=am Dm
 clear Dl Dm
 have HB:=am (Below.refl w.heap.size w)
 have H:=h
 clear h
 unfold bI.f at H
 have H':=am H
 clear H
 go_enter Try.func120,Try.ntmps120
 go_wp2
 go_loopg [1,5] k (fun kq v1 v5 w'=>∃(Cf:Int) (A1:Int),v1=.int .i64 Cf∧v5=.int .i64 A1∧Aside0 (bI.l0 kq l0 Cf A1=some r)∧Aside0 (kq≤k)∧Aside0 (Below w.heap.size w w'))
 case atStart=>exact ⟨(a1),(0),sq,sq,H',⟨j6 _⟩,⟨bq HB.o⟩⟩
 case round=>
  clear H'
  try clear c1
  try clear p2
  obtain ⟨Cf,A1,rfl,rfl,HA,Dn,HB⟩:=hrel
  cases gk with
  |zero=>exact absurd HA.o (by simp [bI.l0])
  |succ k1=>
   have H:=HA.o
   clear HA
   simp only [bI.l0] at H
   replace H:=il' H
   rcases H with ⟨-,De,H⟩|⟨-,De,H⟩
   · obtain rfl:=j5 H
     go_wp2
     go_ret
     exact ⟨rq,bq HB.o⟩
   replace H:=nl H
   obtain ⟨-,Dp,H⟩:=H
   replace H:=be H
   obtain ⟨Bm,A5,H⟩:=H
   replace H:=il H
   rcases H with ⟨-,Df,H⟩|⟨-,Df,H⟩
   · obtain rfl:=j5 H
     have B7:0≤(A1:Int):=oda
     have B8:A1<(l0.length:Int):=oda
     obtain ⟨A4,C2,C3,C4,C5,C6,A2,A8,A9,Aa,A3,Ag,Ah,Ai,Aj⟩:=b5 Ce.o A1 B7 B8
     cases C6
     replace A2:=(HB.o.cell (jW w _ A2)).trans A2
     replace A8:=(HB.o.cell (jW w _ A8)).trans A8
     replace A9:=(HB.o.cell (jW w _ A9)).trans A9
     replace Aa:=(HB.o.cell (jW w _ Aa)).trans Aa
     replace A3:=(HB.o.cell (jW w _ A3)).trans A3
     have B1:=am Ah
     have B2:=am Ag
     clear Ah Ag
     have Bn:=am Aj
     have Bo:=am Ai
     clear Aj Ai
     replace B7:=eq_true B7
     replace B8:=eq_true B8
     go_wp2_with (first|((with_reducible refine aD (f:=94) rfl ?_);refine gc (some 18) (bS.calls k1 _ _ ((aE l0 A1).f0) Cf Bm _ (cq (Kd.C_below B1.o HB.o)) B2.o A5.o) Try.func94 ?_;rintro e w' ⟨rfl,⟨nd,rfl⟩⟩;refine ⟨_,rfl,?_⟩))
     go_ret
     exact ⟨rq,bq HB.o⟩
   replace H:=iq' H
   rcases H with ⟨c7,Dg,Dh,H⟩|⟨-,Dg,Dh,H⟩
   · obtain rfl:=j5 H
     have B7:0≤(A1:Int):=oda
     have B8:A1<(l0.length:Int):=oda
     obtain ⟨A4,C2,C3,C4,C5,C6,A2,A8,A9,Aa,A3,Ag,Ah,Ai,Aj⟩:=b5 Ce.o A1 B7 B8
     cases C6
     replace A2:=(HB.o.cell (jW w _ A2)).trans A2
     replace A8:=(HB.o.cell (jW w _ A8)).trans A8
     replace A9:=(HB.o.cell (jW w _ A9)).trans A9
     replace Aa:=(HB.o.cell (jW w _ Aa)).trans Aa
     replace A3:=(HB.o.cell (jW w _ A3)).trans A3
     have B1:=am Ah
     have B2:=am Ag
     clear Ah Ag
     have Bn:=am Aj
     have Bo:=am Ai
     clear Aj Ai
     replace B7:=eq_true B7
     replace B8:=eq_true B8
     go_wp2_with (first|((with_reducible refine aD (f:=94) rfl ?_);refine gc (some 18) (bS.calls k1 _ _ ((aE l0 A1).f0) Cf Bm _ (cq (Kd.C_below B1.o HB.o)) B2.o A5.o) Try.func94 ?_;rintro e w' ⟨rfl,⟨nd,rfl⟩⟩;refine ⟨_,rfl,?_⟩;have Bd:0≤(A1:Int):=oda;have Be:A1<(l0.length:Int):=oda;obtain ⟨Bp,Cg,Ch,Ci,Cj,Ck,A6,Ab,Ac,Ad,A7,As,At,Au,Av⟩:=b5 Ce.o A1 Bd Be;obtain rfl:A4=Bp:=(by injection Ck);replace A6:=(HB.o.cell (jW w _ A6)).trans A6;replace Ab:=(HB.o.cell (jW w _ Ab)).trans Ab;replace Ac:=(HB.o.cell (jW w _ Ac)).trans Ac;replace Ad:=(HB.o.cell (jW w _ Ad)).trans Ad;replace A7:=(HB.o.cell (jW w _ A7)).trans A7;have By:=am At;have Bz:=am As;clear At As;have C0:=am Av;have C1:=am Au;clear Av Au;replace Bd:=eq_true Bd;replace Be:=eq_true Be;have ea_:=j5 (A2.symm.trans A6);injection ea_ with ea_ en_ ec_;subst ea_;subst ec_;clear en_;have ea_:=j5 (A3.symm.trans A7);injection ea_ with ea_ en_ ec_;subst ea_;subst ec_;clear en_))
     go_ret
     exact ⟨rq,bq HB.o⟩
   replace H:=iq' H
   rcases H with ⟨c8,Di,Dj,H⟩|⟨-,Di,Dj,H⟩
   · obtain rfl:=j5 H
     have B7:0≤(A1:Int):=oda
     have B8:A1<(l0.length:Int):=oda
     obtain ⟨A4,C2,C3,C4,C5,C6,A2,A8,A9,Aa,A3,Ag,Ah,Ai,Aj⟩:=b5 Ce.o A1 B7 B8
     cases C6
     replace A2:=(HB.o.cell (jW w _ A2)).trans A2
     replace A8:=(HB.o.cell (jW w _ A8)).trans A8
     replace A9:=(HB.o.cell (jW w _ A9)).trans A9
     replace Aa:=(HB.o.cell (jW w _ Aa)).trans Aa
     replace A3:=(HB.o.cell (jW w _ A3)).trans A3
     have B1:=am Ah
     have B2:=am Ag
     clear Ah Ag
     have Bn:=am Aj
     have Bo:=am Ai
     clear Aj Ai
     replace B7:=eq_true B7
     replace B8:=eq_true B8
     go_wp2_with (first|((with_reducible refine aD (f:=94) rfl ?_);refine gc (some 18) (bS.calls k1 _ _ ((aE l0 A1).f0) Cf Bm _ (cq (Kd.C_below B1.o HB.o)) B2.o A5.o) Try.func94 ?_;rintro e w' ⟨rfl,⟨nd,rfl⟩⟩;refine ⟨_,rfl,?_⟩;have Bd:0≤(A1:Int):=oda;have Be:A1<(l0.length:Int):=oda;obtain ⟨Bp,Cg,Ch,Ci,Cj,Ck,A6,Ab,Ac,Ad,A7,As,At,Au,Av⟩:=b5 Ce.o A1 Bd Be;obtain rfl:A4=Bp:=(by injection Ck);replace A6:=(HB.o.cell (jW w _ A6)).trans A6;replace Ab:=(HB.o.cell (jW w _ Ab)).trans Ab;replace Ac:=(HB.o.cell (jW w _ Ac)).trans Ac;replace Ad:=(HB.o.cell (jW w _ Ad)).trans Ad;replace A7:=(HB.o.cell (jW w _ A7)).trans A7;have By:=am At;have Bz:=am As;clear At As;have C0:=am Av;have C1:=am Au;clear Av Au;replace Bd:=eq_true Bd;replace Be:=eq_true Be;have ea_:=j5 (A2.symm.trans A6);injection ea_ with ea_ en_ ec_;subst ea_;subst ec_;clear en_;have ea_:=j5 (A3.symm.trans A7);injection ea_ with ea_ en_ ec_;subst ea_;subst ec_;clear en_;have Bk:0≤(A1:Int):=oda;have Bl:A1<(l0.length:Int):=oda;obtain ⟨C7,Co,Cp,Cq,Cr,Cs,Ae,Ap,Aq,Ar,Af,B3,B4,B5,B6⟩:=b5 Ce.o A1 Bk Bl;obtain rfl:A4=C7:=(by injection Cs);replace Ae:=(HB.o.cell (jW w _ Ae)).trans Ae;replace Ap:=(HB.o.cell (jW w _ Ap)).trans Ap;replace Aq:=(HB.o.cell (jW w _ Aq)).trans Aq;replace Ar:=(HB.o.cell (jW w _ Ar)).trans Ar;replace Af:=(HB.o.cell (jW w _ Af)).trans Af;have Cl:=am B4;have Cm:=am B3;clear B4 B3;have Bq:=am B6;have Br:=am B5;clear B6 B5;replace Bk:=eq_true Bk;replace Bl:=eq_true Bl;have ea_:=j5 (A2.symm.trans Ae);injection ea_ with ea_ en_ ec_;subst ea_;subst ec_;clear en_;have ea_:=j5 (A3.symm.trans Af);injection ea_ with ea_ en_ ec_;subst ea_;subst ec_;clear en_))
     go_ret
     exact ⟨rq,bq HB.o⟩
   replace H:=be H
   obtain ⟨Cx,Dk,H⟩:=H
   replace H:=iq' H
   rcases H with ⟨Dr,Db,Dc,H⟩|⟨-,Db,Dc,H⟩
   · obtain rfl:=j5 H
     have B7:0≤(A1:Int):=oda
     have B8:A1<(l0.length:Int):=oda
     obtain ⟨A4,C2,C3,C4,C5,C6,A2,A8,A9,Aa,A3,Ag,Ah,Ai,Aj⟩:=b5 Ce.o A1 B7 B8
     cases C6
     replace A2:=(HB.o.cell (jW w _ A2)).trans A2
     replace A8:=(HB.o.cell (jW w _ A8)).trans A8
     replace A9:=(HB.o.cell (jW w _ A9)).trans A9
     replace Aa:=(HB.o.cell (jW w _ Aa)).trans Aa
     replace A3:=(HB.o.cell (jW w _ A3)).trans A3
     have B1:=am Ah
     have B2:=am Ag
     clear Ah Ag
     have Bn:=am Aj
     have Bo:=am Ai
     clear Aj Ai
     replace B7:=eq_true B7
     replace B8:=eq_true B8
     try go_wp2_with (first|((with_reducible refine aD (f:=94) rfl ?_);refine gc (some 18) (bS.calls k1 _ _ ((aE l0 A1).f0) Cf Bm _ (cq (Kd.C_below B1.o HB.o)) B2.o A5.o) Try.func94 ?_;rintro e w' ⟨rfl,⟨nd,rfl⟩⟩;refine ⟨_,rfl,?_⟩;have Bd:0≤(A1:Int):=oda;have Be:A1<(l0.length:Int):=oda;obtain ⟨Bp,Cg,Ch,Ci,Cj,Ck,A6,Ab,Ac,Ad,A7,As,At,Au,Av⟩:=b5 Ce.o A1 Bd Be;obtain rfl:A4=Bp:=(by injection Ck);replace A6:=(HB.o.cell (jW w _ A6)).trans A6;replace Ab:=(HB.o.cell (jW w _ Ab)).trans Ab;replace Ac:=(HB.o.cell (jW w _ Ac)).trans Ac;replace Ad:=(HB.o.cell (jW w _ Ad)).trans Ad;replace A7:=(HB.o.cell (jW w _ A7)).trans A7;have By:=am At;have Bz:=am As;clear At As;have C0:=am Av;have C1:=am Au;clear Av Au;replace Bd:=eq_true Bd;replace Be:=eq_true Be;have ea_:=j5 (A2.symm.trans A6);injection ea_ with ea_ en_ ec_;subst ea_;subst ec_;clear en_;have ea_:=j5 (A3.symm.trans A7);injection ea_ with ea_ en_ ec_;subst ea_;subst ec_;clear en_;have Bk:0≤(A1:Int):=oda;have Bl:A1<(l0.length:Int):=oda;obtain ⟨C7,Co,Cp,Cq,Cr,Cs,Ae,Ap,Aq,Ar,Af,B3,B4,B5,B6⟩:=b5 Ce.o A1 Bk Bl;obtain rfl:A4=C7:=(by injection Cs);replace Ae:=(HB.o.cell (jW w _ Ae)).trans Ae;replace Ap:=(HB.o.cell (jW w _ Ap)).trans Ap;replace Aq:=(HB.o.cell (jW w _ Aq)).trans Aq;replace Ar:=(HB.o.cell (jW w _ Ar)).trans Ar;replace Af:=(HB.o.cell (jW w _ Af)).trans Af;have Cl:=am B4;have Cm:=am B3;clear B4 B3;have Bq:=am B6;have Br:=am B5;clear B6 B5;replace Bk:=eq_true Bk;replace Bl:=eq_true Bl;have ea_:=j5 (A2.symm.trans Ae);injection ea_ with ea_ en_ ec_;subst ea_;subst ec_;clear en_;have ea_:=j5 (A3.symm.trans Af);injection ea_ with ea_ en_ ec_;subst ea_;subst ec_;clear en_))
     (try (rw [b8 wr];generalize hq_:World.drewN wr _=wr;have D5:Aside0 (Below w.heap.size w wr):=⟨by rw [← hq_];exact (bq HB.o)⟩;clear HB hq_;have HB:=D5;clear D5))
     replace HB:=am (a9 HB.o)
     have C8:0≤(A1:Int):=oda
     have C9:A1<(l0.length:Int):=oda
     obtain ⟨Cn,Ca,Cb,Cc,Cd,Cy,Ak,Al,Am,An,Ao,B9,Ba,Bb,Bc⟩:=b5 Ce.o A1 C8 C9
     have Aw:=Ao
     have Ax:=An
     have Ay:=Am
     have Az:=Al
     have B0:=Ak
     obtain rfl:A4=Cn:=(by injection Cy)
     replace Ak:=(HB.o.cell (jW w _ Ak)).trans Ak
     replace Al:=(HB.o.cell (jW w _ Al)).trans Al
     replace Am:=(HB.o.cell (jW w _ Am)).trans Am
     replace An:=(HB.o.cell (jW w _ An)).trans An
     replace Ao:=(HB.o.cell (jW w _ Ao)).trans Ao
     have Bs:=am Ba
     have Cv:=am B9
     clear Ba B9
     have Bt:=am Bc
     have Cw:=am Bb
     clear Bc Bb
     replace C8:=eq_true C8
     replace C9:=eq_true C9
     refine dL (n:=9) (S:=fun w'=>w'.cell? (A4.add ((A1).toNat*5))=some (.slice Ca ((aE l0 A1).f0).length Cb)∧w'.cell? ⟨(A4.add ((A1).toNat*5)).block,(A4.add ((A1).toNat*5)).off+1,none⟩=some (.int .i64 ((aE l0 A1).f1.f0))∧w'.cell? ⟨(A4.add ((A1).toNat*5)).block,(A4.add ((A1).toNat*5)).off+2,none⟩=some (.int .i64 ((aE l0 A1).f1.f1))∧w'.cell? ⟨(A4.add ((A1).toNat*5)).block,(A4.add ((A1).toNat*5)).off+3,none⟩=some (.string ((aE l0 A1).f1.f2))∧w'.cell? ⟨(A4.add ((A1).toNat*5)).block,(A4.add ((A1).toNat*5)).off+4,none⟩=some (.slice Cc ((aE l0 A1).f1.f3).length Cd)) (ds:=[]) #[F,F,F,F,F,F,F,F,F] (by kernel_rfl) rfl rfl ⟨((HB.o.cell (jW w _ B0)).trans B0),((HB.o.cell (jW w _ Az)).trans Az),((HB.o.cell (jW w _ Ay)).trans Ay),((HB.o.cell (jW w _ Ax)).trans Ax),((HB.o.cell (jW w _ Aw)).trans Aw)⟩ (fun hHeld=>?_);refine bR bI.tab13 bI.bits13 (fun HT_ HW_=>?_)
     generalize wr.drew=Ds at HB Bs Bt Ak Al Am An Ao hHeld ⊢
     refine pv HT_ 0 (some 41) #[T,F,F,F,F,F,F,F,F] ?_
     refine pv HT_ 1 (some 42) #[T,T,F,F,F,F,F,F,F] ?_
     refine pv HT_ 2 (some 43) #[T,T,T,F,F,F,F,F,F] ?_
     refine pv HT_ 3 (some 44) #[T,T,T,T,F,F,F,F,F] ?_
     refine pv HT_ 4 (some 45) #[T,T,T,T,T,F,F,F,F] ?_
     refine pv HT_ 6 (some 47) #[T,T,T,T,T,F,T,F,F] ?_
     refine tk 5 (some 46) #[T,T,T,T,T,T,T,F,F] rfl rfl (a8 HT_.o HW_.o (by kernel_rfl)) hHeld (Or.inl ⟨by rfl,by rintro w' ⟨s0,s1,s2,s3,s4⟩;go_simp;with_reducible rfl⟩) ?_
     refine eH (i:=7) (N:=some 48) #[T,T,T,T,T,T,T,T,F] rfl rfl (cG HT_.o (by kernel_rfl)) (by decide) (fun K hK=>?_)
     refine d9 Try.func131 (by kernel_rfl) rfl #[.int .i64 (wrap64 ((wrap64 (Bm+1))+1))] (by rfl) rfl rfl ga ?_
     with_reducible refine (b9.calls k1 (wrap64 ((wrap64 (Bm+1))+1)) Cx _ Dk.o).mono ?_
     rintro e Dt ⟨rfl,hb⟩
     refine ⟨_,rfl,?_⟩
     replace HB:=am (aA (bq HB.o) hb)
     (try clear hb)
     refine hK.out _ _ ⟨((HB.o.cell (jW w _ B0)).trans B0),((HB.o.cell (jW w _ Az)).trans Az),((HB.o.cell (jW w _ Ay)).trans Ay),((HB.o.cell (jW w _ Ax)).trans Ax),((HB.o.cell (jW w _ Aw)).trans Aw)⟩ (fun hHeld=>?_)
     clear hK K
     refine dO (a':=?_) ?_ ?_
     rotate_left
     · show Act.put _ (some 48) _=_
       simp only [Act.put,jX,jY,jZ,aN,aU]
       rfl
     refine pv HT_ 8 (some 49) #[T,T,T,T,T,T,T,T,T] ?_
     refine eD (cH HT_.o (by kernel_rfl)) ?_
     try go_wp2
     go_ret
     exact ⟨rq,bq HB.o⟩
   replace H:=be H
   obtain ⟨Cz,Do,H⟩:=H
   replace H:=il H
   rcases H with ⟨-,Dd,H⟩|⟨-,Dd,H⟩
   · obtain rfl:=j5 H
     have B7:0≤(A1:Int):=oda
     have B8:A1<(l0.length:Int):=oda
     obtain ⟨A4,C2,C3,C4,C5,C6,A2,A8,A9,Aa,A3,Ag,Ah,Ai,Aj⟩:=b5 Ce.o A1 B7 B8
     cases C6
     replace A2:=(HB.o.cell (jW w _ A2)).trans A2
     replace A8:=(HB.o.cell (jW w _ A8)).trans A8
     replace A9:=(HB.o.cell (jW w _ A9)).trans A9
     replace Aa:=(HB.o.cell (jW w _ Aa)).trans Aa
     replace A3:=(HB.o.cell (jW w _ A3)).trans A3
     have B1:=am Ah
     have B2:=am Ag
     clear Ah Ag
     have Bn:=am Aj
     have Bo:=am Ai
     clear Aj Ai
     replace B7:=eq_true B7
     replace B8:=eq_true B8
     try go_wp2_with (first|((with_reducible refine aD (f:=94) rfl ?_);refine gc (some 18) (bS.calls k1 _ _ ((aE l0 A1).f0) Cf Bm _ (cq (Kd.C_below B1.o HB.o)) B2.o A5.o) Try.func94 ?_;rintro e w' ⟨rfl,⟨nd,rfl⟩⟩;refine ⟨_,rfl,?_⟩;have Bd:0≤(A1:Int):=oda;have Be:A1<(l0.length:Int):=oda;obtain ⟨Bp,Cg,Ch,Ci,Cj,Ck,A6,Ab,Ac,Ad,A7,As,At,Au,Av⟩:=b5 Ce.o A1 Bd Be;obtain rfl:A4=Bp:=(by injection Ck);replace A6:=(HB.o.cell (jW w _ A6)).trans A6;replace Ab:=(HB.o.cell (jW w _ Ab)).trans Ab;replace Ac:=(HB.o.cell (jW w _ Ac)).trans Ac;replace Ad:=(HB.o.cell (jW w _ Ad)).trans Ad;replace A7:=(HB.o.cell (jW w _ A7)).trans A7;have By:=am At;have Bz:=am As;clear At As;have C0:=am Av;have C1:=am Au;clear Av Au;replace Bd:=eq_true Bd;replace Be:=eq_true Be;have ea_:=j5 (A2.symm.trans A6);injection ea_ with ea_ en_ ec_;subst ea_;subst ec_;clear en_;have ea_:=j5 (A3.symm.trans A7);injection ea_ with ea_ en_ ec_;subst ea_;subst ec_;clear en_;have Bk:0≤(A1:Int):=oda;have Bl:A1<(l0.length:Int):=oda;obtain ⟨C7,Co,Cp,Cq,Cr,Cs,Ae,Ap,Aq,Ar,Af,B3,B4,B5,B6⟩:=b5 Ce.o A1 Bk Bl;obtain rfl:A4=C7:=(by injection Cs);replace Ae:=(HB.o.cell (jW w _ Ae)).trans Ae;replace Ap:=(HB.o.cell (jW w _ Ap)).trans Ap;replace Aq:=(HB.o.cell (jW w _ Aq)).trans Aq;replace Ar:=(HB.o.cell (jW w _ Ar)).trans Ar;replace Af:=(HB.o.cell (jW w _ Af)).trans Af;have Cl:=am B4;have Cm:=am B3;clear B4 B3;have Bq:=am B6;have Br:=am B5;clear B6 B5;replace Bk:=eq_true Bk;replace Bl:=eq_true Bl;have ea_:=j5 (A2.symm.trans Ae);injection ea_ with ea_ en_ ec_;subst ea_;subst ec_;clear en_;have ea_:=j5 (A3.symm.trans Af);injection ea_ with ea_ en_ ec_;subst ea_;subst ec_;clear en_))
     (try (rw [b8 wr];generalize hq_:World.drewN wr _=wr;have D5:Aside0 (Below w.heap.size w wr):=⟨by rw [← hq_];exact (bq HB.o)⟩;clear HB hq_;have HB:=D5;clear D5))
     replace HB:=am (a9 HB.o)
     have C8:0≤(A1:Int):=oda
     have C9:A1<(l0.length:Int):=oda
     obtain ⟨Cn,Ca,Cb,Cc,Cd,Cy,Ak,Al,Am,An,Ao,B9,Ba,Bb,Bc⟩:=b5 Ce.o A1 C8 C9
     have Aw:=Ao
     have Ax:=An
     have Ay:=Am
     have Az:=Al
     have B0:=Ak
     obtain rfl:A4=Cn:=(by injection Cy)
     replace Ak:=(HB.o.cell (jW w _ Ak)).trans Ak
     replace Al:=(HB.o.cell (jW w _ Al)).trans Al
     replace Am:=(HB.o.cell (jW w _ Am)).trans Am
     replace An:=(HB.o.cell (jW w _ An)).trans An
     replace Ao:=(HB.o.cell (jW w _ Ao)).trans Ao
     have Bs:=am Ba
     have Cv:=am B9
     clear Ba B9
     have Bt:=am Bc
     have Cw:=am Bb
     clear Bc Bb
     replace C8:=eq_true C8
     replace C9:=eq_true C9
     refine dL (n:=9) (S:=fun w'=>w'.cell? (A4.add ((A1).toNat*5))=some (.slice Ca ((aE l0 A1).f0).length Cb)∧w'.cell? ⟨(A4.add ((A1).toNat*5)).block,(A4.add ((A1).toNat*5)).off+1,none⟩=some (.int .i64 ((aE l0 A1).f1.f0))∧w'.cell? ⟨(A4.add ((A1).toNat*5)).block,(A4.add ((A1).toNat*5)).off+2,none⟩=some (.int .i64 ((aE l0 A1).f1.f1))∧w'.cell? ⟨(A4.add ((A1).toNat*5)).block,(A4.add ((A1).toNat*5)).off+3,none⟩=some (.string ((aE l0 A1).f1.f2))∧w'.cell? ⟨(A4.add ((A1).toNat*5)).block,(A4.add ((A1).toNat*5)).off+4,none⟩=some (.slice Cc ((aE l0 A1).f1.f3).length Cd)) (ds:=[]) #[F,F,F,F,F,F,F,F,F] (by kernel_rfl) rfl rfl ⟨((HB.o.cell (jW w _ B0)).trans B0),((HB.o.cell (jW w _ Az)).trans Az),((HB.o.cell (jW w _ Ay)).trans Ay),((HB.o.cell (jW w _ Ax)).trans Ax),((HB.o.cell (jW w _ Aw)).trans Aw)⟩ (fun hHeld=>?_);refine bR bI.tab13 bI.bits13 (fun HT_ HW_=>?_)
     generalize wr.drew=Du at HB Bs Bt Ak Al Am An Ao hHeld ⊢
     refine pv HT_ 0 (some 41) #[T,F,F,F,F,F,F,F,F] ?_
     refine pv HT_ 1 (some 42) #[T,T,F,F,F,F,F,F,F] ?_
     refine pv HT_ 2 (some 43) #[T,T,T,F,F,F,F,F,F] ?_
     refine pv HT_ 3 (some 44) #[T,T,T,T,F,F,F,F,F] ?_
     refine pv HT_ 4 (some 45) #[T,T,T,T,T,F,F,F,F] ?_
     refine pv HT_ 6 (some 47) #[T,T,T,T,T,F,T,F,F] ?_
     refine tk 5 (some 46) #[T,T,T,T,T,T,T,F,F] rfl rfl (a8 HT_.o HW_.o (by kernel_rfl)) hHeld (Or.inl ⟨by rfl,by rintro w' ⟨s0,s1,s2,s3,s4⟩;go_simp;with_reducible rfl⟩) ?_
     refine eH (i:=7) (N:=some 48) #[T,T,T,T,T,T,T,T,F] rfl rfl (cG HT_.o (by kernel_rfl)) (by decide) (fun K hK=>?_)
     refine d9 Try.func131 (by kernel_rfl) rfl #[.int .i64 (wrap64 ((wrap64 (Bm+1))+1))] (by rfl) rfl rfl ga ?_
     with_reducible refine (b9.calls k1 (wrap64 ((wrap64 (Bm+1))+1)) Cx _ Dk.o).mono ?_
     rintro e Dv ⟨rfl,hb⟩
     refine ⟨_,rfl,?_⟩
     replace HB:=am (aA (bq HB.o) hb)
     (try clear hb)
     refine hK.out _ _ ⟨((HB.o.cell (jW w _ B0)).trans B0),((HB.o.cell (jW w _ Az)).trans Az),((HB.o.cell (jW w _ Ay)).trans Ay),((HB.o.cell (jW w _ Ax)).trans Ax),((HB.o.cell (jW w _ Aw)).trans Aw)⟩ (fun hHeld=>?_)
     clear hK K
     refine dO (a':=?_) ?_ ?_
     rotate_left
     · show Act.put _ (some 48) _=_
       simp only [Act.put,jX,jY,jZ,aN,aU]
       rfl
     refine pv HT_ 8 (some 49) #[T,T,T,T,T,T,T,T,T] ?_
     refine eD (cH HT_.o (by kernel_rfl)) ?_
     have Ct:0≤(A1:Int):=oda
     have Cu:A1<(l0.length:Int):=oda
     obtain ⟨D0,D6,D7,D8,D9,Da,Bf,Bg,Bh,Bi,Bj,Bu,Bv,Bw,Bx⟩:=b5 Ce.o A1 Ct Cu
     obtain rfl:A4=D0:=(by injection Da)
     replace Bf:=(HB.o.cell (jW w _ Bf)).trans Bf
     replace Bg:=(HB.o.cell (jW w _ Bg)).trans Bg
     replace Bh:=(HB.o.cell (jW w _ Bh)).trans Bh
     replace Bi:=(HB.o.cell (jW w _ Bi)).trans Bi
     replace Bj:=(HB.o.cell (jW w _ Bj)).trans Bj
     have D1:=am Bv
     have D2:=am Bu
     clear Bv Bu
     have D3:=am Bx
     have D4:=am Bw
     clear Bx Bw
     replace Ct:=eq_true Ct
     replace Cu:=eq_true Cu
     try go_wp2_with (first|((with_reducible refine aD (f:=94) rfl ?_);refine gc (some 59) (bS.calls k1 _ _ ((aE l0 A1).f1.f3) (wrap64 ((wrap64 ((wrap64 (Bm+1))+1))+1)) Cz _ (cq (Kd.C_below Bt.o HB.o)) Cw.o Do.o) Try.func94 ?_;rintro e w' ⟨rfl,⟨nd,rfl⟩⟩;refine ⟨_,rfl,?_⟩))
     go_ret
     exact ⟨rq,bq HB.o⟩
   have H':=am H
   clear H
   have B7:0≤(A1:Int):=oda
   have B8:A1<(l0.length:Int):=oda
   obtain ⟨A4,C2,C3,C4,C5,C6,A2,A8,A9,Aa,A3,Ag,Ah,Ai,Aj⟩:=b5 Ce.o A1 B7 B8
   cases C6
   replace A2:=(HB.o.cell (jW w _ A2)).trans A2
   replace A8:=(HB.o.cell (jW w _ A8)).trans A8
   replace A9:=(HB.o.cell (jW w _ A9)).trans A9
   replace Aa:=(HB.o.cell (jW w _ Aa)).trans Aa
   replace A3:=(HB.o.cell (jW w _ A3)).trans A3
   have B1:=am Ah
   have B2:=am Ag
   clear Ah Ag
   have Bn:=am Aj
   have Bo:=am Ai
   clear Aj Ai
   replace B7:=eq_true B7
   replace B8:=eq_true B8
   try go_wp2_with (first|((with_reducible refine aD (f:=94) rfl ?_);refine gc (some 18) (bS.calls k1 _ _ ((aE l0 A1).f0) Cf Bm _ (cq (Kd.C_below B1.o HB.o)) B2.o A5.o) Try.func94 ?_;rintro e w' ⟨rfl,⟨nd,rfl⟩⟩;refine ⟨_,rfl,?_⟩;have Bd:0≤(A1:Int):=oda;have Be:A1<(l0.length:Int):=oda;obtain ⟨Bp,Cg,Ch,Ci,Cj,Ck,A6,Ab,Ac,Ad,A7,As,At,Au,Av⟩:=b5 Ce.o A1 Bd Be;obtain rfl:A4=Bp:=(by injection Ck);replace A6:=(HB.o.cell (jW w _ A6)).trans A6;replace Ab:=(HB.o.cell (jW w _ Ab)).trans Ab;replace Ac:=(HB.o.cell (jW w _ Ac)).trans Ac;replace Ad:=(HB.o.cell (jW w _ Ad)).trans Ad;replace A7:=(HB.o.cell (jW w _ A7)).trans A7;have By:=am At;have Bz:=am As;clear At As;have C0:=am Av;have C1:=am Au;clear Av Au;replace Bd:=eq_true Bd;replace Be:=eq_true Be;have ea_:=j5 (A2.symm.trans A6);injection ea_ with ea_ en_ ec_;subst ea_;subst ec_;clear en_;have ea_:=j5 (A3.symm.trans A7);injection ea_ with ea_ en_ ec_;subst ea_;subst ec_;clear en_;have Bk:0≤(A1:Int):=oda;have Bl:A1<(l0.length:Int):=oda;obtain ⟨C7,Co,Cp,Cq,Cr,Cs,Ae,Ap,Aq,Ar,Af,B3,B4,B5,B6⟩:=b5 Ce.o A1 Bk Bl;obtain rfl:A4=C7:=(by injection Cs);replace Ae:=(HB.o.cell (jW w _ Ae)).trans Ae;replace Ap:=(HB.o.cell (jW w _ Ap)).trans Ap;replace Aq:=(HB.o.cell (jW w _ Aq)).trans Aq;replace Ar:=(HB.o.cell (jW w _ Ar)).trans Ar;replace Af:=(HB.o.cell (jW w _ Af)).trans Af;have Cl:=am B4;have Cm:=am B3;clear B4 B3;have Bq:=am B6;have Br:=am B5;clear B6 B5;replace Bk:=eq_true Bk;replace Bl:=eq_true Bl;have ea_:=j5 (A2.symm.trans Ae);injection ea_ with ea_ en_ ec_;subst ea_;subst ec_;clear en_;have ea_:=j5 (A3.symm.trans Af);injection ea_ with ea_ en_ ec_;subst ea_;subst ec_;clear en_))
   (try (rw [b8 wr];generalize hq_:World.drewN wr _=wr;have D5:Aside0 (Below w.heap.size w wr):=⟨by rw [← hq_];exact (bq HB.o)⟩;clear HB hq_;have HB:=D5;clear D5))
   replace HB:=am (a9 HB.o)
   have C8:0≤(A1:Int):=oda
   have C9:A1<(l0.length:Int):=oda
   obtain ⟨Cn,Ca,Cb,Cc,Cd,Cy,Ak,Al,Am,An,Ao,B9,Ba,Bb,Bc⟩:=b5 Ce.o A1 C8 C9
   have Aw:=Ao
   have Ax:=An
   have Ay:=Am
   have Az:=Al
   have B0:=Ak
   obtain rfl:A4=Cn:=(by injection Cy)
   replace Ak:=(HB.o.cell (jW w _ Ak)).trans Ak
   replace Al:=(HB.o.cell (jW w _ Al)).trans Al
   replace Am:=(HB.o.cell (jW w _ Am)).trans Am
   replace An:=(HB.o.cell (jW w _ An)).trans An
   replace Ao:=(HB.o.cell (jW w _ Ao)).trans Ao
   have Bs:=am Ba
   have Cv:=am B9
   clear Ba B9
   have Bt:=am Bc
   have Cw:=am Bb
   clear Bc Bb
   replace C8:=eq_true C8
   replace C9:=eq_true C9
   refine dL (n:=9) (S:=fun w'=>w'.cell? (A4.add ((A1).toNat*5))=some (.slice Ca ((aE l0 A1).f0).length Cb)∧w'.cell? ⟨(A4.add ((A1).toNat*5)).block,(A4.add ((A1).toNat*5)).off+1,none⟩=some (.int .i64 ((aE l0 A1).f1.f0))∧w'.cell? ⟨(A4.add ((A1).toNat*5)).block,(A4.add ((A1).toNat*5)).off+2,none⟩=some (.int .i64 ((aE l0 A1).f1.f1))∧w'.cell? ⟨(A4.add ((A1).toNat*5)).block,(A4.add ((A1).toNat*5)).off+3,none⟩=some (.string ((aE l0 A1).f1.f2))∧w'.cell? ⟨(A4.add ((A1).toNat*5)).block,(A4.add ((A1).toNat*5)).off+4,none⟩=some (.slice Cc ((aE l0 A1).f1.f3).length Cd)) (ds:=[]) #[F,F,F,F,F,F,F,F,F] (by kernel_rfl) rfl rfl ⟨((HB.o.cell (jW w _ B0)).trans B0),((HB.o.cell (jW w _ Az)).trans Az),((HB.o.cell (jW w _ Ay)).trans Ay),((HB.o.cell (jW w _ Ax)).trans Ax),((HB.o.cell (jW w _ Aw)).trans Aw)⟩ (fun hHeld=>?_);refine bR bI.tab13 bI.bits13 (fun HT_ HW_=>?_)
   generalize wr.drew=Dw at HB Bs Bt Ak Al Am An Ao hHeld ⊢
   refine pv HT_ 0 (some 41) #[T,F,F,F,F,F,F,F,F] ?_
   refine pv HT_ 1 (some 42) #[T,T,F,F,F,F,F,F,F] ?_
   refine pv HT_ 2 (some 43) #[T,T,T,F,F,F,F,F,F] ?_
   refine pv HT_ 3 (some 44) #[T,T,T,T,F,F,F,F,F] ?_
   refine pv HT_ 4 (some 45) #[T,T,T,T,T,F,F,F,F] ?_
   refine pv HT_ 6 (some 47) #[T,T,T,T,T,F,T,F,F] ?_
   refine tk 5 (some 46) #[T,T,T,T,T,T,T,F,F] rfl rfl (a8 HT_.o HW_.o (by kernel_rfl)) hHeld (Or.inl ⟨by rfl,by rintro w' ⟨s0,s1,s2,s3,s4⟩;go_simp;with_reducible rfl⟩) ?_
   refine eH (i:=7) (N:=some 48) #[T,T,T,T,T,T,T,T,F] rfl rfl (cG HT_.o (by kernel_rfl)) (by decide) (fun K hK=>?_)
   refine d9 Try.func131 (by kernel_rfl) rfl #[.int .i64 (wrap64 ((wrap64 (Bm+1))+1))] (by rfl) rfl rfl ga ?_
   with_reducible refine (b9.calls k1 (wrap64 ((wrap64 (Bm+1))+1)) Cx _ Dk.o).mono ?_
   rintro e Dx ⟨rfl,hb⟩
   refine ⟨_,rfl,?_⟩
   replace HB:=am (aA (bq HB.o) hb)
   (try clear hb)
   refine hK.out _ _ ⟨((HB.o.cell (jW w _ B0)).trans B0),((HB.o.cell (jW w _ Az)).trans Az),((HB.o.cell (jW w _ Ay)).trans Ay),((HB.o.cell (jW w _ Ax)).trans Ax),((HB.o.cell (jW w _ Aw)).trans Aw)⟩ (fun hHeld=>?_)
   clear hK K
   refine dO (a':=?_) ?_ ?_
   rotate_left
   · show Act.put _ (some 48) _=_
     simp only [Act.put,jX,jY,jZ,aN,aU]
     rfl
   refine pv HT_ 8 (some 49) #[T,T,T,T,T,T,T,T,T] ?_
   refine eD (cH HT_.o (by kernel_rfl)) ?_
   have Ct:0≤(A1:Int):=oda
   have Cu:A1<(l0.length:Int):=oda
   obtain ⟨D0,D6,D7,D8,D9,Da,Bf,Bg,Bh,Bi,Bj,Bu,Bv,Bw,Bx⟩:=b5 Ce.o A1 Ct Cu
   obtain rfl:A4=D0:=(by injection Da)
   replace Bf:=(HB.o.cell (jW w _ Bf)).trans Bf
   replace Bg:=(HB.o.cell (jW w _ Bg)).trans Bg
   replace Bh:=(HB.o.cell (jW w _ Bh)).trans Bh
   replace Bi:=(HB.o.cell (jW w _ Bi)).trans Bi
   replace Bj:=(HB.o.cell (jW w _ Bj)).trans Bj
   have D1:=am Bv
   have D2:=am Bu
   clear Bv Bu
   have D3:=am Bx
   have D4:=am Bw
   clear Bx Bw
   replace Ct:=eq_true Ct
   replace Cu:=eq_true Cu
   try go_wp2_with (first|((with_reducible refine aD (f:=94) rfl ?_);refine gc (some 59) (bS.calls k1 _ _ ((aE l0 A1).f1.f3) (wrap64 ((wrap64 ((wrap64 (Bm+1))+1))+1)) Cz _ (cq (Kd.C_below Bt.o HB.o)) Cw.o Do.o) Try.func94 ?_;rintro e w' ⟨rfl,⟨nd,rfl⟩⟩;refine ⟨_,rfl,?_⟩))
   go_roundg k1
   case measure=>have:=Dn.o;omega
   case rel=>exact ⟨(Cz),(wrap64 (A1+1)),sq,sq,H',⟨by have:=Dn.o;omega⟩,⟨bq HB.o⟩⟩
def eB.f (k:Nat) (A2:Int) (A3:Int) (A4:Int) (A5:Int) (A1:List (S116)) (a1:Int):Option (Int):=(bI.f k A1 a1).bind fun A0=>(if A0<0 then (some (-1)) else (some A0))
theorem eB.calls (k:Nat) (A5:Int) (A6:Int) (A7:Int) (A8:Int) (A9:Option Addr) (Aa:Nat) (A0:List (S116)) (a1:Int) (r:Int) (w:World) (A2:Kd.C eA w A9 A0.length A0) (A3:A0.length≤Aa) (h:eB.f k A5 A6 A7 A8 A0 a1=some r):
 Calls Try.prog 59 #[.agg #[.int .i64 A5,.int .i64 A6,.int .i64 A7,.int .i64 A8,.slice A9 A0.length Aa],.int .i64 a1] w fun e w'=>e=.returned (.int .i64 r)∧Below w.heap.size w w':=by
 have Ar:=Try.underlying58
 have Al:=am A2
 have Am:=am A3
 clear A2 A3
 have HB:=am (Below.refl w.heap.size w)
 have H:=h
 clear h
 unfold eB.f at H
 replace H:=be H
 obtain ⟨An,As,H⟩:=H
 replace H:=il H
 rcases H with ⟨-,Ao,H⟩|⟨-,Ao,H⟩
 rotate_left
 rotate_right
 all_goals
  obtain rfl:=j5 H
  go_enter Try.func59,Try.ntmps59
  go_wp2_with (first|((with_reducible refine aM (N:=2) rfl ?_);refine bxe 2 #[.int .i64 A5,.int .i64 A6,.int .i64 A7,.int .i64 A8,.slice A9 A0.length Aa] 58 ?_;intro Ap hg w_ hbox hb;have n_:=ak4 (aA (bq HB.o) hb) hbox (bz hg (bq HB.o)) (bz hg (bq HB.o));clear HB;obtain ⟨HB,A1,Aq,A4⟩:=n_;clear hb hbox hg;obtain ⟨Ab,Ac,Ad,Ae,Af,Ag,Ah,Ai,Aj,Ak⟩:=cl5 A1.o)|((with_reducible refine aD (f:=120) rfl ?_);refine gc (some 8) (bI.calls k _ _ A0 a1 An _ (cq (Kd.C_below Al.o HB.o)) Am.o As.o) Try.func120 ?_;rintro e w_ ⟨rfl,hb⟩;refine ⟨_,rfl,?_⟩;have n_:=ak2 (kb A1 hb) (aA (bq1 HB.o A4.o) hb);clear A1 HB;obtain ⟨A1,HB⟩:=n_;(try clear hb)))
  go_ret
  exact ⟨rq,bq1 HB.o A4.o⟩
end Go.Proofs.Ythhnfmbfgplelaa.XFnExactGetMsg
