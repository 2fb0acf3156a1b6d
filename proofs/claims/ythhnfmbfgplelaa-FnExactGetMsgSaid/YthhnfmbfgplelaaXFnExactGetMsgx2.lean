/- The functions that one law reaches, as Lean functions, with their walks: printed by a program of this seat (wip/tools) out of the translation. -/
import Derived.Test.YthhnfmbfgplelaaXFnExactGetMsgx0
import Derived.Test.YthhnfmbfgplelaaXFnExactGetMsgx1
namespace Go.Proofs.Ythhnfmbfgplelaa.XFnExactGetMsg
open Go.RowKit Go.Proofs.YthhnfmbfgplelaaW.PrintWords Go.Proofs.YthhnfmbfgplelaaW.PrintLast Go.Proofs.YthhnfmbfgplelaaW.PrintMore
attribute [local go_sem] cQ cR dP dQ cC cD cS cT
set_option linter.unusedVariables false
set_option linter.unusedSimpArgs false
set_option maxHeartbeats 8000000
set_option maxRecDepth 100000
def bM.l0:Nat→List (S116)→List (S116)→Int→Option (Bool)
 |0,_,_,_=>none
 |k+1,x0,x1,x5=>if x5<(x0.length:Int) then (if 0≤x5 then (if x5<(x1.length:Int) then ((eV.f k ((aE x0 x5).f0) ((aE x0 x5).f1.f0) ((aE x0 x5).f1.f1) ((aE x0 x5).f1.f2) ((aE x0 x5).f1.f3) ((aE x1 x5).f0) ((aE x1 x5).f1.f0) ((aE x1 x5).f1.f1) ((aE x1 x5).f1.f2) ((aE x1 x5).f1.f3)).bind fun A0=>(if A0=true then (bM.l0 k x0 x1 (wrap64 (x5+1))) else (some false))) else (none)) else (none)) else (some true)
def bM.f (k:Nat) (l0:List (S116)) (l1:List (S116)):Option (Bool):=if (l0.length:Int)=(l1.length:Int) then (bM.l0 k l0 l1 0) else (some false)
def bM.T6:Bool × List (List Nat × List Nat):=(true,[([],[]),([],[]),([0,1],[0,1]),([2],[2]),([],[]),([],[]),([4,5],[4,5]),([6],[6]),([3,7],[3,7]),([8],[8])])
def bM.B6:List Nat:=[0,0,3,7,0,0,48,112,255,511]
theorem bM.tab6:eS .any (fX Try.f101 6)=bM.T6:=by kernel_rfl
theorem bM.bits6:eI bM.T6.2 bM.B6=true:=by kernel_rfl
theorem bM.calls (k:Nat) (A0:Option Addr) (c0:Nat) (l0:List (S116)) (A1:Option Addr) (c1:Nat) (l1:List (S116)) (r:Bool) (w:World) (Bp:Kd.C eA w A0 l0.length l0) (Bq:l0.length≤c0) (Br:Kd.C eA w A1 l1.length l1) (Bs:l1.length≤c1) (h:bM.f k l0 l1=some r):
 Calls Try.prog 101 #[.slice A0 l0.length c0,.slice A1 l1.length c1] w fun e w'=>e=.returned (.bool r)∧Below w.heap.size w w':=by
 have Bt:=Try.underlying116
 have Bu:=am Bp
 have Bz:=am Bq
 clear Bp Bq
 have Bv:=am Br
 have C0:=am Bs
 clear Br Bs
 have HB:=am (Below.refl w.heap.size w)
 have H:=h
 clear h
 unfold bM.f at H
 replace H:=iq' H
 rcases H with ⟨c3,Bk,Bl,H⟩|⟨c3,Bk,Bl,H⟩
 · have Bm:(l0.length==l1.length)=false:=by first|simpa using c3|(simp at c3 ⊢;omega)
   obtain rfl:=j5 H
   go_enter Try.func101,Try.ntmps101
   go_wp2
   go_ret
   exact ⟨rq,bq HB.o⟩
 have Bm:(l0.length==l1.length)=true:=by first|simpa using c3|(simp at c3 ⊢;omega)
 clear c3
 have H':=am H
 clear H
 go_enter Try.func101,Try.ntmps101
 go_wp2
 go_loopg [5] k (fun kq v5 w'=>∃(A2:Int),v5=.int .i64 A2∧Aside0 (bM.l0 kq l0 l1 A2=some r)∧Aside0 (kq≤k)∧Aside0 (Below w.heap.size w w'))
 case atStart=>exact ⟨(0),sq,H',⟨j6 _⟩,⟨bq HB.o⟩⟩
 case round=>
  clear H'
  try clear c1
  try clear p2
  try clear c3
  try clear Bk
  try clear Bl
  try clear Bm
  obtain ⟨A2,rfl,HA,Bw,HB⟩:=hrel
  cases gk with
  |zero=>exact absurd HA.o (by simp [bM.l0])
  |succ k1=>
   have H:=HA.o
   clear HA
   simp only [bM.l0] at H
   replace H:=il' H
   rcases H with ⟨-,Bn,H⟩|⟨-,Bn,H⟩
   · obtain rfl:=j5 H
     go_wp2
     go_ret
     exact ⟨rq,bq HB.o⟩
   replace H:=nl H
   obtain ⟨-,Bx,H⟩:=H
   replace H:=nl H
   obtain ⟨-,By,H⟩:=H
   replace H:=be H
   obtain ⟨Bo,A7,H⟩:=H
   cases Bo
   · replace H:=iF H
     obtain rfl:=j5 H
     try go_wp2
     replace HB:=am (a9 HB.o)
     have Be:0≤(A2:Int):=oda
     have Bf:A2<(l0.length:Int):=oda
     obtain ⟨A3,B2,B3,B4,B5,Bi,A4,A5,A6,A8,A9,Aq,Ar,As,At⟩:=b5 Bu.o A2 Be Bf
     have Ag:=A9
     have Ah:=A8
     have Ai:=A6
     have Aj:=A5
     have Ak:=A4
     cases Bi
     replace A4:=(HB.o.cell (jW w _ A4)).trans A4
     replace A5:=(HB.o.cell (jW w _ A5)).trans A5
     replace A6:=(HB.o.cell (jW w _ A6)).trans A6
     replace A8:=(HB.o.cell (jW w _ A8)).trans A8
     replace A9:=(HB.o.cell (jW w _ A9)).trans A9
     have Au:=am Ar
     have Ba:=am Aq
     clear Ar Aq
     have Av:=am At
     have Bb:=am As
     clear At As
     replace Be:=eq_true Be
     replace Bf:=eq_true Bf
     have Bg:0≤(A2:Int):=oda
     have Bh:A2<(l1.length:Int):=oda
     obtain ⟨Aa,B6,B7,B8,B9,Bj,Ab,Ac,Ad,Ae,Af,Aw,Ax,Ay,Az⟩:=b5 Bv.o A2 Bg Bh
     have Al:=Af
     have Am:=Ae
     have An:=Ad
     have Ao:=Ac
     have Ap:=Ab
     cases Bj
     replace Ab:=(HB.o.cell (jW w _ Ab)).trans Ab
     replace Ac:=(HB.o.cell (jW w _ Ac)).trans Ac
     replace Ad:=(HB.o.cell (jW w _ Ad)).trans Ad
     replace Ae:=(HB.o.cell (jW w _ Ae)).trans Ae
     replace Af:=(HB.o.cell (jW w _ Af)).trans Af
     have B0:=am Ax
     have Bc:=am Aw
     clear Ax Aw
     have B1:=am Az
     have Bd:=am Ay
     clear Az Ay
     replace Bg:=eq_true Bg
     replace Bh:=eq_true Bh
     refine dL (n:=10) (S:=fun w'=>w'.cell? (A3.add ((A2).toNat*5))=some (.slice B2 ((aE l0 A2).f0).length B3)∧w'.cell? ⟨(A3.add ((A2).toNat*5)).block,(A3.add ((A2).toNat*5)).off+1,none⟩=some (.int .i64 ((aE l0 A2).f1.f0))∧w'.cell? ⟨(A3.add ((A2).toNat*5)).block,(A3.add ((A2).toNat*5)).off+2,none⟩=some (.int .i64 ((aE l0 A2).f1.f1))∧w'.cell? ⟨(A3.add ((A2).toNat*5)).block,(A3.add ((A2).toNat*5)).off+3,none⟩=some (.string ((aE l0 A2).f1.f2))∧w'.cell? ⟨(A3.add ((A2).toNat*5)).block,(A3.add ((A2).toNat*5)).off+4,none⟩=some (.slice B4 ((aE l0 A2).f1.f3).length B5)∧w'.cell? (Aa.add ((A2).toNat*5))=some (.slice B6 ((aE l1 A2).f0).length B7)∧w'.cell? ⟨(Aa.add ((A2).toNat*5)).block,(Aa.add ((A2).toNat*5)).off+1,none⟩=some (.int .i64 ((aE l1 A2).f1.f0))∧w'.cell? ⟨(Aa.add ((A2).toNat*5)).block,(Aa.add ((A2).toNat*5)).off+2,none⟩=some (.int .i64 ((aE l1 A2).f1.f1))∧w'.cell? ⟨(Aa.add ((A2).toNat*5)).block,(Aa.add ((A2).toNat*5)).off+3,none⟩=some (.string ((aE l1 A2).f1.f2))∧w'.cell? ⟨(Aa.add ((A2).toNat*5)).block,(Aa.add ((A2).toNat*5)).off+4,none⟩=some (.slice B8 ((aE l1 A2).f1.f3).length B9)) (ds:=[]) #[F,F,F,F,F,F,F,F,F,F] (by kernel_rfl) rfl rfl ⟨((HB.o.cell (jW w _ Ak)).trans Ak),((HB.o.cell (jW w _ Aj)).trans Aj),((HB.o.cell (jW w _ Ai)).trans Ai),((HB.o.cell (jW w _ Ah)).trans Ah),((HB.o.cell (jW w _ Ag)).trans Ag),((HB.o.cell (jW w _ Ap)).trans Ap),((HB.o.cell (jW w _ Ao)).trans Ao),((HB.o.cell (jW w _ An)).trans An),((HB.o.cell (jW w _ Am)).trans Am),((HB.o.cell (jW w _ Al)).trans Al)⟩ (fun hHeld=>?_);refine bR bM.tab6 bM.bits6 (fun HT_ HW_=>?_)
     generalize wr.drew=C1 at HB Au Av B0 B1 A4 A5 A6 A8 A9 Ab Ac Ad Ae Af hHeld ⊢
     refine pv HT_ 0 (some 17) #[T,F,F,F,F,F,F,F,F,F] ?_
     refine pv HT_ 1 (some 18) #[T,T,F,F,F,F,F,F,F,F] ?_
     refine pv HT_ 2 (some 19) #[T,T,T,F,F,F,F,F,F,F] ?_
     refine pv HT_ 4 (some 21) #[T,T,T,F,T,F,F,F,F,F] ?_
     refine pv HT_ 5 (some 22) #[T,T,T,F,T,T,F,F,F,F] ?_
     refine pv HT_ 6 (some 23) #[T,T,T,F,T,T,T,F,F,F] ?_
     refine tk 3 (some 20) #[T,T,T,T,T,T,T,F,F,F] rfl rfl (a8 HT_.o HW_.o (by kernel_rfl)) hHeld (Or.inl ⟨by rfl,by rintro w' ⟨s0,s1,s2,s3,s4,s5,s6,s7,s8,s9⟩;go_simp;with_reducible rfl⟩) ?_
     refine tk 7 (some 24) #[T,T,T,T,T,T,T,T,F,F] rfl rfl (a8 HT_.o HW_.o (by kernel_rfl)) hHeld (Or.inl ⟨by rfl,by rintro w' ⟨s0,s1,s2,s3,s4,s5,s6,s7,s8,s9⟩;go_simp;with_reducible rfl⟩) ?_
     refine eH (i:=8) (N:=some 25) #[T,T,T,T,T,T,T,T,T,F] rfl rfl (cG HT_.o (by kernel_rfl)) (by decide) (fun K hK=>?_)
     refine d9 Try.func130 (by kernel_rfl) rfl #[.agg #[.slice B2 ((aE l0 A2).f0).length B3,.int .i64 ((aE l0 A2).f1.f0),.int .i64 ((aE l0 A2).f1.f1),.string ((aE l0 A2).f1.f2),.slice B4 ((aE l0 A2).f1.f3).length B5],.agg #[.slice B6 ((aE l1 A2).f0).length B7,.int .i64 ((aE l1 A2).f1.f0),.int .i64 ((aE l1 A2).f1.f1),.string ((aE l1 A2).f1.f2),.slice B8 ((aE l1 A2).f1.f3).length B9]] (by rfl) rfl rfl ga ?_
     with_reducible refine (eV.calls k1 _ _ ((aE l0 A2).f0) ((aE l0 A2).f1.f0) ((aE l0 A2).f1.f1) ((aE l0 A2).f1.f2) _ _ ((aE l0 A2).f1.f3) _ _ ((aE l1 A2).f0) ((aE l1 A2).f1.f0) ((aE l1 A2).f1.f1) ((aE l1 A2).f1.f2) _ _ ((aE l1 A2).f1.f3) false _ ?side1 ?side2 ?side3 ?side4 ?side5 ?side6 ?side7 ?side8 A7.o).mono ?_
     (case side1=>exact cq (Kd.C_below Au.o HB.o))
     (case side2=>exact Ba.o)
     (case side3=>exact cq (Kd.C_below Av.o HB.o))
     (case side4=>exact Bb.o)
     (case side5=>exact cq (Kd.C_below B0.o HB.o))
     (case side6=>exact Bc.o)
     (case side7=>exact cq (Kd.C_below B1.o HB.o))
     (case side8=>exact Bd.o)
     rintro e C2 ⟨rfl,hb⟩
     refine ⟨_,rfl,?_⟩
     replace HB:=am (aA (bq HB.o) hb)
     (try clear hb)
     refine hK.out _ _ ⟨((HB.o.cell (jW w _ Ak)).trans Ak),((HB.o.cell (jW w _ Aj)).trans Aj),((HB.o.cell (jW w _ Ai)).trans Ai),((HB.o.cell (jW w _ Ah)).trans Ah),((HB.o.cell (jW w _ Ag)).trans Ag),((HB.o.cell (jW w _ Ap)).trans Ap),((HB.o.cell (jW w _ Ao)).trans Ao),((HB.o.cell (jW w _ An)).trans An),((HB.o.cell (jW w _ Am)).trans Am),((HB.o.cell (jW w _ Al)).trans Al)⟩ (fun hHeld=>?_)
     clear hK K
     refine dO (a':=?_) ?_ ?_
     rotate_left
     · show Act.put _ (some 25) _=_
       simp only [Act.put,jX,jY,jZ,aN,aU]
       rfl
     refine pv HT_ 9 (some 26) #[T,T,T,T,T,T,T,T,T,T] ?_
     refine eD (cH HT_.o (by kernel_rfl)) ?_
     try go_wp2
     go_ret
     exact ⟨rq,bq HB.o⟩
   replace H:=iT H
   have H':=am H
   clear H
   try go_wp2
   replace HB:=am (a9 HB.o)
   have Be:0≤(A2:Int):=oda
   have Bf:A2<(l0.length:Int):=oda
   obtain ⟨A3,B2,B3,B4,B5,Bi,A4,A5,A6,A8,A9,Aq,Ar,As,At⟩:=b5 Bu.o A2 Be Bf
   have Ag:=A9
   have Ah:=A8
   have Ai:=A6
   have Aj:=A5
   have Ak:=A4
   cases Bi
   replace A4:=(HB.o.cell (jW w _ A4)).trans A4
   replace A5:=(HB.o.cell (jW w _ A5)).trans A5
   replace A6:=(HB.o.cell (jW w _ A6)).trans A6
   replace A8:=(HB.o.cell (jW w _ A8)).trans A8
   replace A9:=(HB.o.cell (jW w _ A9)).trans A9
   have Au:=am Ar
   have Ba:=am Aq
   clear Ar Aq
   have Av:=am At
   have Bb:=am As
   clear At As
   replace Be:=eq_true Be
   replace Bf:=eq_true Bf
   have Bg:0≤(A2:Int):=oda
   have Bh:A2<(l1.length:Int):=oda
   obtain ⟨Aa,B6,B7,B8,B9,Bj,Ab,Ac,Ad,Ae,Af,Aw,Ax,Ay,Az⟩:=b5 Bv.o A2 Bg Bh
   have Al:=Af
   have Am:=Ae
   have An:=Ad
   have Ao:=Ac
   have Ap:=Ab
   cases Bj
   replace Ab:=(HB.o.cell (jW w _ Ab)).trans Ab
   replace Ac:=(HB.o.cell (jW w _ Ac)).trans Ac
   replace Ad:=(HB.o.cell (jW w _ Ad)).trans Ad
   replace Ae:=(HB.o.cell (jW w _ Ae)).trans Ae
   replace Af:=(HB.o.cell (jW w _ Af)).trans Af
   have B0:=am Ax
   have Bc:=am Aw
   clear Ax Aw
   have B1:=am Az
   have Bd:=am Ay
   clear Az Ay
   replace Bg:=eq_true Bg
   replace Bh:=eq_true Bh
   refine dL (n:=10) (S:=fun w'=>w'.cell? (A3.add ((A2).toNat*5))=some (.slice B2 ((aE l0 A2).f0).length B3)∧w'.cell? ⟨(A3.add ((A2).toNat*5)).block,(A3.add ((A2).toNat*5)).off+1,none⟩=some (.int .i64 ((aE l0 A2).f1.f0))∧w'.cell? ⟨(A3.add ((A2).toNat*5)).block,(A3.add ((A2).toNat*5)).off+2,none⟩=some (.int .i64 ((aE l0 A2).f1.f1))∧w'.cell? ⟨(A3.add ((A2).toNat*5)).block,(A3.add ((A2).toNat*5)).off+3,none⟩=some (.string ((aE l0 A2).f1.f2))∧w'.cell? ⟨(A3.add ((A2).toNat*5)).block,(A3.add ((A2).toNat*5)).off+4,none⟩=some (.slice B4 ((aE l0 A2).f1.f3).length B5)∧w'.cell? (Aa.add ((A2).toNat*5))=some (.slice B6 ((aE l1 A2).f0).length B7)∧w'.cell? ⟨(Aa.add ((A2).toNat*5)).block,(Aa.add ((A2).toNat*5)).off+1,none⟩=some (.int .i64 ((aE l1 A2).f1.f0))∧w'.cell? ⟨(Aa.add ((A2).toNat*5)).block,(Aa.add ((A2).toNat*5)).off+2,none⟩=some (.int .i64 ((aE l1 A2).f1.f1))∧w'.cell? ⟨(Aa.add ((A2).toNat*5)).block,(Aa.add ((A2).toNat*5)).off+3,none⟩=some (.string ((aE l1 A2).f1.f2))∧w'.cell? ⟨(Aa.add ((A2).toNat*5)).block,(Aa.add ((A2).toNat*5)).off+4,none⟩=some (.slice B8 ((aE l1 A2).f1.f3).length B9)) (ds:=[]) #[F,F,F,F,F,F,F,F,F,F] (by kernel_rfl) rfl rfl ⟨((HB.o.cell (jW w _ Ak)).trans Ak),((HB.o.cell (jW w _ Aj)).trans Aj),((HB.o.cell (jW w _ Ai)).trans Ai),((HB.o.cell (jW w _ Ah)).trans Ah),((HB.o.cell (jW w _ Ag)).trans Ag),((HB.o.cell (jW w _ Ap)).trans Ap),((HB.o.cell (jW w _ Ao)).trans Ao),((HB.o.cell (jW w _ An)).trans An),((HB.o.cell (jW w _ Am)).trans Am),((HB.o.cell (jW w _ Al)).trans Al)⟩ (fun hHeld=>?_);refine bR bM.tab6 bM.bits6 (fun HT_ HW_=>?_)
   generalize wr.drew=w9 at HB Au Av B0 B1 A4 A5 A6 A8 A9 Ab Ac Ad Ae Af hHeld ⊢
   refine pv HT_ 0 (some 17) #[T,F,F,F,F,F,F,F,F,F] ?_
   refine pv HT_ 1 (some 18) #[T,T,F,F,F,F,F,F,F,F] ?_
   refine pv HT_ 2 (some 19) #[T,T,T,F,F,F,F,F,F,F] ?_
   refine pv HT_ 4 (some 21) #[T,T,T,F,T,F,F,F,F,F] ?_
   refine pv HT_ 5 (some 22) #[T,T,T,F,T,T,F,F,F,F] ?_
   refine pv HT_ 6 (some 23) #[T,T,T,F,T,T,T,F,F,F] ?_
   refine tk 3 (some 20) #[T,T,T,T,T,T,T,F,F,F] rfl rfl (a8 HT_.o HW_.o (by kernel_rfl)) hHeld (Or.inl ⟨by rfl,by rintro w' ⟨s0,s1,s2,s3,s4,s5,s6,s7,s8,s9⟩;go_simp;with_reducible rfl⟩) ?_
   refine tk 7 (some 24) #[T,T,T,T,T,T,T,T,F,F] rfl rfl (a8 HT_.o HW_.o (by kernel_rfl)) hHeld (Or.inl ⟨by rfl,by rintro w' ⟨s0,s1,s2,s3,s4,s5,s6,s7,s8,s9⟩;go_simp;with_reducible rfl⟩) ?_
   refine eH (i:=8) (N:=some 25) #[T,T,T,T,T,T,T,T,T,F] rfl rfl (cG HT_.o (by kernel_rfl)) (by decide) (fun K hK=>?_)
   refine d9 Try.func130 (by kernel_rfl) rfl #[.agg #[.slice B2 ((aE l0 A2).f0).length B3,.int .i64 ((aE l0 A2).f1.f0),.int .i64 ((aE l0 A2).f1.f1),.string ((aE l0 A2).f1.f2),.slice B4 ((aE l0 A2).f1.f3).length B5],.agg #[.slice B6 ((aE l1 A2).f0).length B7,.int .i64 ((aE l1 A2).f1.f0),.int .i64 ((aE l1 A2).f1.f1),.string ((aE l1 A2).f1.f2),.slice B8 ((aE l1 A2).f1.f3).length B9]] (by rfl) rfl rfl ga ?_
   with_reducible refine (eV.calls k1 _ _ ((aE l0 A2).f0) ((aE l0 A2).f1.f0) ((aE l0 A2).f1.f1) ((aE l0 A2).f1.f2) _ _ ((aE l0 A2).f1.f3) _ _ ((aE l1 A2).f0) ((aE l1 A2).f1.f0) ((aE l1 A2).f1.f1) ((aE l1 A2).f1.f2) _ _ ((aE l1 A2).f1.f3) true _ ?side1 ?side2 ?side3 ?side4 ?side5 ?side6 ?side7 ?side8 A7.o).mono ?_
   (case side1=>exact cq (Kd.C_below Au.o HB.o))
   (case side2=>exact Ba.o)
   (case side3=>exact cq (Kd.C_below Av.o HB.o))
   (case side4=>exact Bb.o)
   (case side5=>exact cq (Kd.C_below B0.o HB.o))
   (case side6=>exact Bc.o)
   (case side7=>exact cq (Kd.C_below B1.o HB.o))
   (case side8=>exact Bd.o)
   rintro e C3 ⟨rfl,hb⟩
   refine ⟨_,rfl,?_⟩
   replace HB:=am (aA (bq HB.o) hb)
   (try clear hb)
   refine hK.out _ _ ⟨((HB.o.cell (jW w _ Ak)).trans Ak),((HB.o.cell (jW w _ Aj)).trans Aj),((HB.o.cell (jW w _ Ai)).trans Ai),((HB.o.cell (jW w _ Ah)).trans Ah),((HB.o.cell (jW w _ Ag)).trans Ag),((HB.o.cell (jW w _ Ap)).trans Ap),((HB.o.cell (jW w _ Ao)).trans Ao),((HB.o.cell (jW w _ An)).trans An),((HB.o.cell (jW w _ Am)).trans Am),((HB.o.cell (jW w _ Al)).trans Al)⟩ (fun hHeld=>?_)
   clear hK K
   refine dO (a':=?_) ?_ ?_
   rotate_left
   · show Act.put _ (some 25) _=_
     simp only [Act.put,jX,jY,jZ,aN,aU]
     rfl
   refine pv HT_ 9 (some 26) #[T,T,T,T,T,T,T,T,T,T] ?_
   refine eD (cH HT_.o (by kernel_rfl)) ?_
   try go_wp2
   go_roundg k1
   case measure=>have:=Bw.o;omega
   case rel=>exact ⟨(wrap64 (A2+1)),sq,H',⟨by have:=Bw.o;omega⟩,⟨bq HB.o⟩⟩
def dR.f (k:Nat) (A0:Int) (A1:Int) (A2:Int) (A3:Int) (A4:List (S116)) (A5:Int) (A6:Int) (A7:Int) (A8:Int) (A9:List (S116)):Option (Bool):=if A0=A5 then (if A1=A6 then (if A2=A7 then (if A3=A8 then ((bM.f k A4 A9).bind fun Aa=>(if Aa=true then (some true) else (some false))) else (some false)) else (some false)) else (some false)) else (some false)
theorem dR.calls (k:Nat) (Ag:Int) (Ah:Int) (Ai:Int) (Aj:Int) (Ak:Option Addr) (Al:Nat) (A3:List (S116)) (Am:Int) (An:Int) (Ao:Int) (Ap:Int) (Aq:Option Addr) (Ar:Nat) (A4:List (S116)) (r:Bool) (w:World) (A8:Kd.C eA w Ak A3.length A3) (A9:A3.length≤Al) (Aa:Kd.C eA w Aq A4.length A4) (Ab:A4.length≤Ar) (h:dR.f k Ag Ah Ai Aj A3 Am An Ao Ap A4=some r):
 Calls Try.prog 42 #[.agg #[.int .i64 Ag,.int .i64 Ah,.int .i64 Ai,.int .i64 Aj,.slice Ak A3.length Al],.agg #[.int .i64 Am,.int .i64 An,.int .i64 Ao,.int .i64 Ap,.slice Aq A4.length Ar]] w fun e w'=>e=.returned (.bool r)∧Below w.heap.size w w':=by
 have Bs:=Try.underlying58
 have Ac:=am A8
 have Ad:=am A9
 clear A8 A9
 have Ae:=am Aa
 have Af:=am Ab
 clear Aa Ab
 have HB:=am (Below.refl w.heap.size w)
 have H:=h
 clear h
 unfold dR.f at H
 replace H:=iq' H
 rcases H with ⟨c3,Bf,Bg,H⟩|⟨-,Bf,Bg,H⟩
 have z0:=trivial
 rotate_left
 replace H:=iq' H
 rcases H with ⟨c4,Bh,Bi,H⟩|⟨-,Bh,Bi,H⟩
 have z0:=trivial
 rotate_left
 replace H:=iq' H
 rcases H with ⟨c5,Bj,Bk,H⟩|⟨-,Bj,Bk,H⟩
 have z0:=trivial
 rotate_left
 replace H:=iq' H
 rcases H with ⟨c6,Bl,Bm,H⟩|⟨-,Bl,Bm,H⟩
 have z0:=trivial
 rotate_left
 replace H:=be H
 obtain ⟨Be,Bn,H⟩:=H
 rcases bt Be with rfl|rfl
 replace H:=iT H
 have z1:=trivial
 rotate_left
 replace H:=iF H
 have z2:=trivial
 rotate_right
 rotate_right
 rotate_right
 rotate_right
 rotate_right
 all_goals
  obtain rfl:=j5 H
  go_enter Try.func42,Try.ntmps42
  go_wp2_with (first|((with_reducible refine aM (N:=2) rfl ?_);refine bxe 2 #[.int .i64 Ag,.int .i64 Ah,.int .i64 Ai,.int .i64 Aj,.slice Ak A3.length Al] 58 ?_;intro Bo hg w_ hbox hb;have n_:=ak4 (aA (bq HB.o) hb) hbox (bz hg (bq HB.o)) (bz hg (bq HB.o));clear HB;obtain ⟨HB,A0,Bp,A2⟩:=n_;clear hb hbox hg)|((with_reducible refine aM (N:=3) rfl ?_);refine bxe 3 #[.int .i64 Am,.int .i64 An,.int .i64 Ao,.int .i64 Ap,.slice Aq A4.length Ar] 58 ?_;intro Bq hg w_ hbox hb;have n_:=ak7 (kb A0 hb) (aA (bq1 HB.o A2.o) hb) hbox (bz hg (bq1 HB.o A2.o)) (bz hg (bq1 HB.o A2.o)) (nL hg A0) (nG hg A0);clear A0 HB;obtain ⟨A0,HB,A1,Br,A7,A5,A6⟩:=n_;clear hb hbox hg;have As:=A5.o;have At:=A6.o;obtain ⟨Au,Av,Aw,Ax,Ay,Az,B0,B1,B2,B3⟩:=cl5 A0.o;obtain ⟨B4,B5,B6,B7,B8,B9,Ba,Bb,Bc,Bd⟩:=cl5 A1.o)|((with_reducible refine aD (f:=101) rfl ?_);have:=z2;refine gc (some 29) (bM.calls k _ _ A3 _ _ A4 false _ (cq (Kd.C_below Ac.o HB.o)) Ad.o (cq (Kd.C_below Ae.o HB.o)) Af.o Bn.o) Try.func101 ?_;rintro e w_ ⟨rfl,hb⟩;refine ⟨_,rfl,?_⟩;have n_:=ak3 (kb A0 hb) (kb A1 hb) (aA (bq2 HB.o A2.o A7.o) hb);clear A0 A1 HB;obtain ⟨A0,A1,HB⟩:=n_;(try clear hb))|((with_reducible refine aD (f:=101) rfl ?_);have:=z1;refine gc (some 29) (bM.calls k _ _ A3 _ _ A4 true _ (cq (Kd.C_below Ac.o HB.o)) Ad.o (cq (Kd.C_below Ae.o HB.o)) Af.o Bn.o) Try.func101 ?_;rintro e w_ ⟨rfl,hb⟩;refine ⟨_,rfl,?_⟩;have n_:=ak3 (kb A0 hb) (kb A1 hb) (aA (bq2 HB.o A2.o A7.o) hb);clear A0 A1 HB;obtain ⟨A0,A1,HB⟩:=n_;(try clear hb)))
  go_ret
  exact ⟨rq,bq2 HB.o A2.o A7.o⟩
def cL.l0:Nat→List Int→Int→Int→Option (Int × List Int)
 |0,_,_,_=>none
 |k+1,x0,x1,x5=>if x5<(x0.length:Int) then (if 0≤x5 then (cL.l0 k (x0.set (x5:Int).toNat x1) (wrap64 (x1+1)) (wrap64 (x5+1))) else (none)) else (some (x1,x0))
def cL.f (k:Nat) (l0:List Int) (a1:Int):Option (Int × List Int):=cL.l0 k l0 a1 0
theorem cL.calls (k:Nat) (A5:Nat→Prop) (A0:Value) (l0:List Int) (a1:Int) (r1:Int) (r2:List Int) (w0 w:World) (hB:Below w0.heap.size w0 w) (Aj:Kd.R (Kd.int .i64) 3 w w0.heap.size A5 A0 l0) (h:cL.f k l0 a1=some (r1,r2)):
 Calls Try.prog 73 #[A0,.int .i64 a1] w fun e w'=>e=.returned (.int .i64 r1)∧Kd.R (Kd.int .i64) 3 w' w0.heap.size (fun k_=>(A5 k_∨w.heap.size≤k_)) A0 r2∧Below w0.heap.size w0 w'∧b7 w w' (fun k_=>A5 k_):=by
 have Ak:=am (show Kd.R (Kd.int .i64) 3 w w0.heap.size (fun k_=>(A5 k_∨w.heap.size≤k_)) A0 l0 from Kd.R_mono Aj (fun k_ hk=>(.inl hk)))
 have HK:=am (b7.refl w (fun k_=>A5 k_))
 have Ar:=am hB.size
 have HB:=am hB
 clear hB
 have H:=h
 clear h
 unfold cL.f at H
 have H':=am H
 clear H
 go_enter Try.func73,Try.ntmps73
 go_wp2
 go_loopg [1,5] k (fun kq v1 v5 w'=>∃(A4:List Int) (A3:Int) (A2:Int),v1=.int .i64 A3∧v5=.int .i64 A2∧Aside0 (cL.l0 kq A4 A3 A2=some (r1,r2))∧Aside0 (kq≤k)∧Aside0 (Kd.R (Kd.int .i64) 3 w' w0.heap.size (fun k_=>(A5 k_∨w.heap.size≤k_)) A0 A4)∧Aside0 (b7 w w' (fun k_=>A5 k_))∧Aside0 (Below w0.heap.size w0 w'))
 case atStart=>exact ⟨(l0),(a1),(0),sq,sq,H',⟨j6 _⟩,⟨kqR Ak.o⟩,⟨by repeat (first|(with_reducible first|exact HK.o|apply b7.alloc|apply b7.drewN|apply b7.drew)|exact HK.o)⟩,⟨bq HB.o⟩⟩
 case round=>
  clear H'
  try clear p2
  obtain ⟨A4,A3,A2,rfl,rfl,HA,Ac,A1,HK,HB⟩:=hrel
  cases gk with
  |zero=>exact absurd HA.o (by simp [cL.l0])
  |succ k1=>
   have H:=HA.o
   clear HA
   simp only [cL.l0] at H
   replace H:=il' H
   rcases H with ⟨-,Aa,H⟩|⟨-,Aa,H⟩
   · simp only [j3,j4] at H
     obtain ⟨rfl,rfl⟩:=H
     obtain ⟨As,At,Al⟩:=Kd.R_slice A1.o
     subst Al
     go_wp2
     go_ret
     exact ⟨rq,kqR A1.o,bq HB.o,by repeat (first|(with_reducible first|exact HK.o|apply b7.alloc|apply b7.drewN|apply b7.drew)|exact HK.o)⟩
   replace H:=nl H
   obtain ⟨-,Am,H⟩:=H
   generalize A6:((A4.set (A2:Int).toNat A3):List Int)=A7 at H
   have A8:=am A6.symm
   clear A6
   have H':=am H
   clear H
   obtain ⟨Au,An,Ao⟩:=Kd.R_slice A1.o
   subst Ao
   have p5:0≤(A2:Int):=oda
   have q5:(A2:Int)<((A4.length:Int):Int):=oda
   obtain ⟨A9,Av,Ad,Ae,Ap,cl5,Af⟩:=Kd.R_form A1.o (by omega)
   (first|cases Ad|(injection Ad with ea_ en_ ec_;(first|subst ea_|(injection ea_ with ea_;subst ea_));subst ec_;clear en_))
   have Aq:=am Ae
   have Aw:=am Af
   clear Ae Ap Af
   have Ag:=am (show (A5 A9∨w.heap.size≤A9) from (A1.o.1 _ rfl))
   obtain ⟨Ah,Ai⟩:=Kd.R_celln 0 A1.o (A2:Int) p5 q5
   replace p5:=eq_true p5
   replace q5:=eq_true q5
   have Ab:=Kd.R_putg A1.o (A2:Int) A3
   go_wp2_with (first|((with_reducible refine aG (t:=3) (p:=15) rfl ?_);refine se 3 15 (wr.setCell ⟨A9,(A2:Int).toNat,none⟩ (.int .i64 A3)) ?_;intro w8 hw;have hg:wr.grownBy w8 (some A9):=(by rw [hw];exact Ab.2);have hp_:Kd.R (Kd.int .i64) 3 w8 w0.heap.size (fun k_=>(A5 k_∨w.heap.size≤k_)) (.slice (some ⟨A9,0,none⟩) A4.length An) A7:=(by rw [hw,A8.o];exact Ab.1);clear Ab;have n_:=ak3 hp_ ((by rw [hw];exact dD (HB.o) Aq.o:Below w0.heap.size w0 w8)) (b7.of_grown (S:=(fun k_=>A5 k_)) hg (by repeat (first|(with_reducible first|exact HK.o|apply b7.alloc|apply b7.drewN|apply b7.drew)|exact HK.o)) (fun k_ e_=>(A1.o.1 k_ e_)));clear A1 HB HK;obtain ⟨A1,HB,HK⟩:=n_;clear hg hw hp_))
   go_roundg k1
   case measure=>have:=Ac.o;omega
   case rel=>exact ⟨(A7),(wrap64 (A3+1)),(wrap64 (A2+1)),sq,sq,H',⟨by have:=Ac.o;omega⟩,⟨kqR A1.o⟩,⟨by repeat (first|(with_reducible first|exact HK.o|apply b7.alloc|apply b7.drewN|apply b7.drew)|exact HK.o)⟩,⟨bq HB.o⟩⟩
def b9.l0:Nat→Int→ByteArray→Option (ByteArray)
 |0,_,_=>none
 |k+1,x0,x3=>if x0>0 then ((some (([(wrap64 (48+(Int.tmod x0 10))) % 256]:List Int):List Int)).bind fun A0=>(if (strOfNums A0).size+x3.size≤9223372036854775807 then (b9.l0 k (wrap64 (Int.tdiv x0 10)) ((strOfNums A0)++x3)) else (none))) else (if 1+x3.size≤9223372036854775807 then (some ((⟨#[109]⟩:ByteArray)++x3)) else (none))
def b9.f (k:Nat) (a0:Int):Option (ByteArray):=if a0≤0 then (some (⟨#[109,48]⟩:ByteArray)) else (b9.l0 k a0 (⟨#[]⟩:ByteArray))
theorem b9.calls (k:Nat) (a0:Int) (r:ByteArray) (w:World) (h:b9.f k a0=some r):
 Calls Try.prog 131 #[.int .i64 a0] w fun e w'=>e=.returned (.string r)∧Below w.heap.size w w':=by
 have HB:=am (Below.refl w.heap.size w)
 have H:=h
 clear h
 unfold b9.f at H
 replace H:=il H
 rcases H with ⟨-,A5,H⟩|⟨-,A5,H⟩
 · obtain rfl:=j5 H
   go_enter Try.func131,Try.ntmps131
   go_wp2
   go_ret
   exact ⟨rq,bq HB.o⟩
 have H':=am H
 clear H
 go_enter Try.func131,Try.ntmps131
 go_wp2
 go_loopg [0,3] k (fun kq v0 v3 w'=>∃(A0:Int) (A1:ByteArray),v0=.int .i64 A0∧v3=.string A1∧Aside0 (b9.l0 kq A0 A1=some r)∧Aside0 (kq≤k)∧Aside0 (Below w.heap.size w w'))
 case atStart=>exact ⟨(a0),((⟨#[]⟩:ByteArray)),sq,sq,H',⟨j6 _⟩,⟨bq HB.o⟩⟩
 case round=>
  clear H'
  try clear c1
  try clear c2
  try clear A5
  try clear p2
  obtain ⟨A0,A1,rfl,rfl,HA,A9,HB⟩:=hrel
  cases gk with
  |zero=>exact absurd HA.o (by simp [b9.l0])
  |succ k1=>
   have H:=HA.o
   clear HA
   simp only [b9.l0] at H
   replace H:=ig' H
   rcases H with ⟨-,A8,H⟩|⟨-,A8,H⟩
   · replace H:=nq H
     obtain ⟨c8,H⟩:=H
     have Aa:=eq_true c8
     have Ab:decide (1+A1.size≤9223372036854775807)=true:=j7 c8
     try have Ac:(9223372036854775807<1+A1.size)=False:=eq_false (Nat.not_lt.2 c8)
     obtain rfl:=j5 H
     go_wp2
     go_ret
     exact ⟨rq,bq HB.o⟩
   generalize A2:((([(wrap64 (48+(Int.tmod A0 10))) % 256]:List Int)):List Int)=A4 at H
   have A3:=am A2.symm
   clear A2
   replace H:=nq H
   obtain ⟨c4,H⟩:=H
   have Ad:=eq_true c4
   have Ae:decide ((strOfNums A4).size+A1.size≤9223372036854775807)=true:=j7 c4
   try have Af:(9223372036854775807<(strOfNums A4).size+A1.size)=False:=eq_false (Nat.not_lt.2 c4)
   have H':=am H
   clear H
   go_wp2_with (first|((with_reducible refine aM (N:=12) rfl ?_);refine Kd.R_lit (Kd.int .u8) _ 5 ?hg (N:=12) ?hd (xs:=([(wrap64 (48+(Int.tmod A0 10))) % 256]:List Int)) (inner:=[.int .u8 ((wrap64 (48+(Int.tmod A0 10))) % 256)]) (ok:=fun _=>True) (okp:=fun _=>True) ?hr ?hp (fun _ hk=>hk) trivial (Below.refl _ _) (j6 _) (by simp) ?_;(case hd=>rfl);(case hg=>rfl);(case hr=>exact gs);(case hp=>exact (bV.one (show Kd.M (Kd.int .u8) _ _ _ ((wrap64 (48+(Int.tmod A0 10))) % 256) [.int .u8 ((wrap64 (48+(Int.tmod A0 10))) % 256)] from rfl) (bV.none _ _)));intro Ag w5 A6 hb hg_ hnew_;clear hg_ hnew_;(first|rw [← A3.o] at A6|(simp only [Int.reduceToNat] at A6;rw [← A3.o] at A6));have n_:=ak2 (rl A6 (bq HB.o)) (aA (bq HB.o) hb);clear HB;obtain ⟨A7,HB⟩:=n_;clear hb A6;have Ah:=dK (P:=Try.prog) Try.underlying22 Try.underlying5 Try.underlying9 (Kd.own_of_R A7.o)))
   go_roundg k1
   case measure=>have:=A9.o;omega
   case rel=>exact ⟨(wrap64 (Int.tdiv A0 10)),((strOfNums A4)++A1),sq,sq,H',⟨by have:=A9.o;omega⟩,⟨bq HB.o⟩⟩
end Go.Proofs.Ythhnfmbfgplelaa.XFnExactGetMsg
