/- The functions that one law reaches, as Lean functions, with their walks: printed by a program of this seat (wip/tools) out of the translation. -/
import Derived.Test.YthhnfmbfgplelaaXFnExactGetMsgx0
import Derived.Test.YthhnfmbfgplelaaXFnExactGetMsgx15
namespace Go.Proofs.Ythhnfmbfgplelaa.XFnExactGetMsg
open Go.RowKit Go.Proofs.YthhnfmbfgplelaaW.PrintWords Go.Proofs.YthhnfmbfgplelaaW.PrintLast Go.Proofs.YthhnfmbfgplelaaW.PrintMore
attribute [local go_sem] cQ cR dP dQ cC cD cS cT
set_option linter.unusedVariables false
set_option linter.unusedSimpArgs false
set_option maxHeartbeats 8000000
set_option maxRecDepth 100000
mutual
def bZ.l0:Nat→Int→Int→Int→Int→Int→List (S116)→Option (Bool)
 |0,_,_,_,_,_,_=>none
 |k+1,x3,A1,A2,A3,A4,A0=>if x3<(A0.length:Int) then (if 0≤x3 then ((cB.f k ((aE A0 x3).f0)).bind fun A5=>(if A5=true then ((bT.f k ((aE A0 x3).f1.f0) ((aE A0 x3).f1.f1) ((aE A0 x3).f1.f2) ((aE A0 x3).f1.f3)).bind fun A6=>(if A6=true then (bZ.l0 k (wrap64 (x3+1)) A1 A2 A3 A4 A0) else (some false))) else (some false))) else (none)) else (if A1=162 then (bZ.j1 k false A1 A2 A3 A4 A0) else (if A1=165 then (bZ.j1 k false A1 A2 A3 A4 A0) else (if A3=0 then (bZ.j1 k (A4 !=0) A1 A2 A3 A4 A0) else (bZ.j1 k true A1 A2 A3 A4 A0))))
def bZ.j1:Nat→Bool→Int→Int→Int→Int→List (S116)→Option (Bool)
 |0,_,_,_,_,_,_=>none
 |k+1,Ab,A1,A2,A3,A4,A0=>if Ab=true then (some false) else ((eC.f A1).bind fun A7=>(if A7=true then ((cY.f A2).bind fun A8=>(if A8=A2 then ((cO.f A3 0 1000).bind fun A9=>(if A9=true then ((cO.f A4 0 1000).bind fun Aa=>(if Aa=true then (some (decide ((A0.length:Int)≤10))) else (some false))) else (some false))) else (some false))) else (some false)))
end
def bZ.f (k:Nat) (A0:Int) (A1:Int) (A2:Int) (A3:Int) (A4:List (S116)):Option (Bool):=bZ.l0 k 0 A0 A1 A2 A3 A4
theorem bZ.calls (k:Nat) (Ap:Int) (Aq:Int) (At:Int) (Au:Int) (B6:Option Addr) (B7:Nat) (A8:List (S116)) (r:Bool) (w:World) (Dh:Kd.C eA w B6 A8.length A8) (Di:A8.length≤B7) (h:bZ.f k Ap Aq At Au A8=some r):
 Calls Try.prog 96 #[.agg #[.int .i64 Ap,.int .i64 Aq,.int .i64 At,.int .i64 Au,.slice B6 A8.length B7]] w fun e w'=>e=.returned (.bool r)∧Below w.heap.size w w':=by
 have Gz:=Try.underlying58
 have H0:=Try.underlying29
 have B0:=am Dh
 have Gv:=am Di
 clear Dh Di
 have HB:=am (Below.refl w.heap.size w)
 have H:=h
 clear h
 unfold bZ.f at H
 have H':=am H
 clear H
 go_enter Try.func96,Try.ntmps96
 go_wp2_with (first|((with_reducible refine aM (N:=1) rfl ?_);(try (refine aV (by rfl) ?_;dsimp only));refine bxe 1 #[.int .i64 Ap,.int .i64 Aq,.int .i64 At,.int .i64 Au,.slice B6 A8.length B7] 58 ?_;intro Dj hg w2 hbox hb;have n_:=ak4 (aA (bq HB.o) hb) hbox (bz hg (bq HB.o)) (bz hg (bq HB.o));clear HB;obtain ⟨HB,A0,Gw,Ab⟩:=n_;clear hb hbox hg))
 go_loopg [3] k (fun kq v3 w'=>∃(A7:Int),v3=.int .i64 A7∧Aside0 (bZ.l0 kq A7 Ap Aq At Au A8=some r)∧Aside0 (kq≤k)∧Aside0 (w'.heap[Dj]? =some (.cells #[.int .i64 Ap,.int .i64 Aq,.int .i64 At,.int .i64 Au,(.slice B6 A8.length B7)] 58 (0,0)))∧Aside0 (Below w.heap.size w w'))
 case atStart=>exact ⟨(0),sq,H',⟨j6 _⟩,⟨zq A0.o⟩,⟨bq1 HB.o Ab.o⟩⟩
 case round=>
  clear H'
  try clear p2
  obtain ⟨A7,rfl,HA,E5,A0,HB⟩:=hrel
  cases gk with
  |zero=>exact absurd HA.o (by simp [bZ.l0])
  |succ k1=>
   have H:=HA.o
   clear HA
   simp only [bZ.l0] at H
   replace H:=il H
   rcases H with ⟨-,E6,H⟩|⟨-,E6,H⟩
   · replace H:=nl H
     obtain ⟨-,Gs,H⟩:=H
     replace H:=be H
     obtain ⟨Gt,A5,H⟩:=H
     cases Gt
     · replace H:=iF H
       obtain rfl:=j5 H
       obtain ⟨Bh,Bi,Bj,Bk,Bl,Bm,Bn,Bo,Bp,Bq⟩:=cl5 A0.o
       have Ar:0≤(A7:Int):=oda
       have As:A7<(A8.length:Int):=oda
       obtain ⟨B3,B8,B9,Ba,Bb,Bc,A1,A3,A4,A6,A2,Ac,Ad,Ae,Af⟩:=b5 B0.o A7 Ar As
       cases Bc
       replace A1:=(HB.o.cell (jW w _ A1)).trans A1
       replace A3:=(HB.o.cell (jW w _ A3)).trans A3
       replace A4:=(HB.o.cell (jW w _ A4)).trans A4
       replace A6:=(HB.o.cell (jW w _ A6)).trans A6
       replace A2:=(HB.o.cell (jW w _ A2)).trans A2
       have Aj:=am Ad
       have Ak:=am Ac
       clear Ad Ac
       have B4:=am Af
       have B5:=am Ae
       clear Af Ae
       replace Ar:=eq_true Ar
       replace As:=eq_true As
       go_wp2_with (first|(go_at_call 110;refine cm (cB.calls k1 _ _ ((aE A8 A7).f0) false _ (cq (Kd.C_below Aj.o HB.o)) Ak.o A5.o) ?_;rintro e w' ⟨rfl,⟨nd,rfl⟩⟩;(try first|exact ⟨rfl,_,World.drewN_drewN _ _ _⟩|exact ⟨rfl,_,Eq.trans (World.drewN_drewN _ _ _) (congrArg (World.drewN _) (Nat.add_assoc _ _ _))⟩)))
       go_ret
       exact ⟨rq,bq1 HB.o Ab.o⟩
     replace H:=iT H
     replace H:=be H
     obtain ⟨E7,Gx,H⟩:=H
     cases E7
     · replace H:=iF H
       obtain rfl:=j5 H
       obtain ⟨Br,Bs,Bt,Bu,Bv,Bw,Bx,By,Bz,C0⟩:=cl5 A0.o
       have Ar:0≤(A7:Int):=oda
       have As:A7<(A8.length:Int):=oda
       obtain ⟨B3,B8,B9,Ba,Bb,Bc,A1,A3,A4,A6,A2,Ac,Ad,Ae,Af⟩:=b5 B0.o A7 Ar As
       cases Bc
       replace A1:=(HB.o.cell (jW w _ A1)).trans A1
       replace A3:=(HB.o.cell (jW w _ A3)).trans A3
       replace A4:=(HB.o.cell (jW w _ A4)).trans A4
       replace A6:=(HB.o.cell (jW w _ A6)).trans A6
       replace A2:=(HB.o.cell (jW w _ A2)).trans A2
       have Aj:=am Ad
       have Ak:=am Ac
       clear Ad Ac
       have B4:=am Af
       have B5:=am Ae
       clear Af Ae
       replace Ar:=eq_true Ar
       replace As:=eq_true As
       go_wp2_with (first|(go_at_call 110;refine cm (cB.calls k1 _ _ ((aE A8 A7).f0) true _ (cq (Kd.C_below Aj.o HB.o)) Ak.o A5.o) ?_;rintro e w' ⟨rfl,⟨nd,rfl⟩⟩;(try first|exact ⟨rfl,_,World.drewN_drewN _ _ _⟩|exact ⟨rfl,_,Eq.trans (World.drewN_drewN _ _ _) (congrArg (World.drewN _) (Nat.add_assoc _ _ _))⟩);have B1:0≤(A7:Int):=oda;have B2:A7<(A8.length:Int):=oda;obtain ⟨Bd,Dp,Dq,Dr,Ds,Dt,A9,Ag,Ah,Ai,Aa,Al,Am,An,Ao⟩:=b5 B0.o A7 B1 B2;obtain rfl:B3=Bd:=(by injection Dt);replace A9:=(HB.o.cell (jW w _ A9)).trans A9;replace Ag:=(HB.o.cell (jW w _ Ag)).trans Ag;replace Ah:=(HB.o.cell (jW w _ Ah)).trans Ah;replace Ai:=(HB.o.cell (jW w _ Ai)).trans Ai;replace Aa:=(HB.o.cell (jW w _ Aa)).trans Aa;have C1:=am Am;have C2:=am Al;clear Am Al;have Ax:=am Ao;have Ay:=am An;clear Ao An;replace B1:=eq_true B1;replace B2:=eq_true B2;have ea_:=j5 (A1.symm.trans A9);injection ea_ with ea_ en_ ec_;subst ea_;subst ec_;clear en_;have ea_:=j5 (A2.symm.trans Aa);injection ea_ with ea_ en_ ec_;subst ea_;subst ec_;clear en_)|(go_at_call 47;refine cm (bT.calls k1 ((aE A8 A7).f1.f0) ((aE A8 A7).f1.f1) ((aE A8 A7).f1.f2) _ _ ((aE A8 A7).f1.f3) false _ (cq (Kd.C_below Ax.o (bq1 HB.o Ab.o))) Ay.o Gx.o) ?_;rintro e H7 ⟨rfl,hb⟩;have n_:=ak2 (kb A0 hb) (aA (bq1 HB.o Ab.o) hb);clear A0 HB;obtain ⟨A0,HB⟩:=n_;(try clear hb)))
       go_ret
       exact ⟨rq,bq1 HB.o Ab.o⟩
     replace H:=iT H
     have H':=am H
     clear H
     obtain ⟨Du,Dv,Dw,Dx,Dy,Dz,E0,E1,E2,E3⟩:=cl5 A0.o
     have Ar:0≤(A7:Int):=oda
     have As:A7<(A8.length:Int):=oda
     obtain ⟨B3,B8,B9,Ba,Bb,Bc,A1,A3,A4,A6,A2,Ac,Ad,Ae,Af⟩:=b5 B0.o A7 Ar As
     cases Bc
     replace A1:=(HB.o.cell (jW w _ A1)).trans A1
     replace A3:=(HB.o.cell (jW w _ A3)).trans A3
     replace A4:=(HB.o.cell (jW w _ A4)).trans A4
     replace A6:=(HB.o.cell (jW w _ A6)).trans A6
     replace A2:=(HB.o.cell (jW w _ A2)).trans A2
     have Aj:=am Ad
     have Ak:=am Ac
     clear Ad Ac
     have B4:=am Af
     have B5:=am Ae
     clear Af Ae
     replace Ar:=eq_true Ar
     replace As:=eq_true As
     go_wp2_with (first|(go_at_call 110;refine cm (cB.calls k1 _ _ ((aE A8 A7).f0) true _ (cq (Kd.C_below Aj.o HB.o)) Ak.o A5.o) ?_;rintro e w' ⟨rfl,⟨nd,rfl⟩⟩;(try first|exact ⟨rfl,_,World.drewN_drewN _ _ _⟩|exact ⟨rfl,_,Eq.trans (World.drewN_drewN _ _ _) (congrArg (World.drewN _) (Nat.add_assoc _ _ _))⟩);have B1:0≤(A7:Int):=oda;have B2:A7<(A8.length:Int):=oda;obtain ⟨Bd,Dp,Dq,Dr,Ds,Dt,A9,Ag,Ah,Ai,Aa,Al,Am,An,Ao⟩:=b5 B0.o A7 B1 B2;obtain rfl:B3=Bd:=(by injection Dt);replace A9:=(HB.o.cell (jW w _ A9)).trans A9;replace Ag:=(HB.o.cell (jW w _ Ag)).trans Ag;replace Ah:=(HB.o.cell (jW w _ Ah)).trans Ah;replace Ai:=(HB.o.cell (jW w _ Ai)).trans Ai;replace Aa:=(HB.o.cell (jW w _ Aa)).trans Aa;have C1:=am Am;have C2:=am Al;clear Am Al;have Ax:=am Ao;have Ay:=am An;clear Ao An;replace B1:=eq_true B1;replace B2:=eq_true B2;have ea_:=j5 (A1.symm.trans A9);injection ea_ with ea_ en_ ec_;subst ea_;subst ec_;clear en_;have ea_:=j5 (A2.symm.trans Aa);injection ea_ with ea_ en_ ec_;subst ea_;subst ec_;clear en_)|(go_at_call 47;refine cm (bT.calls k1 ((aE A8 A7).f1.f0) ((aE A8 A7).f1.f1) ((aE A8 A7).f1.f2) _ _ ((aE A8 A7).f1.f3) true _ (cq (Kd.C_below Ax.o (bq1 HB.o Ab.o))) Ay.o Gx.o) ?_;rintro e H8 ⟨rfl,hb⟩;have n_:=ak2 (kb A0 hb) (aA (bq1 HB.o Ab.o) hb);clear A0 HB;obtain ⟨A0,HB⟩:=n_;(try clear hb)))
     go_roundg k1
     case measure=>have:=E5.o;omega
     case rel=>exact ⟨(wrap64 (A7+1)),sq,H',⟨by have:=E5.o;omega⟩,⟨zq A0.o⟩,⟨bq1 HB.o Ab.o⟩⟩
   have E4:=am H
   clear H
   obtain ⟨C3,C4,C5,C6,C7,C8,C9,Ca,Cb,Cc⟩:=cl5 A0.o
   go_upto_region 6 with (fail)
   repeat (go_quiet (fail);go_upto_region 6 with (fail))
   go_cut [46] (fun H1 wc=>∃(kq:Nat) (Az:Bool),H1=.bool Az∧Aside0 (bZ.j1 kq Az Ap Aq At Au A8=some r)∧Aside0 (kq≤k1)∧Aside0 (wc.heap[Dj]? =some (.cells #[.int .i64 Ap,.int .i64 Aq,.int .i64 At,.int .i64 Au,(.slice B6 A8.length B7)] 58 (0,0)))∧Aside0 (Below w.heap.size w wc))
   case first=>
    have H:=E4.o
    clear E4
    replace H:=iq H
    rcases H with ⟨-,Av,Dk,H⟩|⟨H2,Av,Dk,H⟩
    (first|rw [Av]|(simp only [aN,aU];rw [Av])|skip)
    have H':=am H
    clear H
    obtain ⟨Cd,Ce,Cf,Cg,Ch,Ci,Cj,Ck,Cl,Cm⟩:=cl5 A0.o
    rotate_left
    (first|rw [Av]|(simp only [aN,aU];rw [Av])|skip)
    replace H:=iq H
    rcases H with ⟨-,Dl,Dm,H⟩|⟨H3,Dl,Dm,H⟩
    have H':=am H
    clear H
    obtain ⟨Cn,Co,Cp,Cq,Cr,Cs,Ct,Cu,Cv,Cw⟩:=cl5 A0.o
    rotate_left
    replace H:=iq' H
    rcases H with ⟨H4,Dn,Do,H⟩|⟨-,Dn,Do,H⟩
    have H':=am H
    clear H
    obtain ⟨Cx,Cy,Cz,D0,D1,D2,D3,D4,D5,D6⟩:=cl5 A0.o
    rotate_left
    have H':=am H
    clear H
    obtain ⟨D7,D8,D9,Da,Db,Dc,Dd,De,Df,Dg⟩:=cl5 A0.o
    rotate_right
    rotate_right
    rotate_right
    all_goals
     go_wp2
     first
     | go_meet
       case rel=>exact ⟨_,((Au !=0)),sq,H',⟨by have:=E5.o;first|omega|exact j6 _⟩,⟨zq A0.o⟩,⟨bq1 HB.o Ab.o⟩⟩
     | go_meet
       case rel=>exact ⟨_,(false),sq,H',⟨by have:=E5.o;first|omega|exact j6 _⟩,⟨zq A0.o⟩,⟨bq1 HB.o Ab.o⟩⟩
     | go_meet
       case rel=>exact ⟨_,(true),sq,H',⟨by have:=E5.o;first|omega|exact j6 _⟩,⟨zq A0.o⟩,⟨bq1 HB.o Ab.o⟩⟩
   case rest=>
    clear E4
    try clear c1
    try clear c2
    try clear p2
    try clear c3
    try clear E6
    try clear c4
    try clear Gs
    try clear p4
    try clear q4
    try clear H9
    try clear c5
    try clear p5
    try clear q5
    try clear Ha
    try clear c6
    try clear p6
    try clear c8
    try clear c9
    try clear H2
    try clear Av
    try clear Dk
    try clear H3
    try clear Dl
    try clear Dm
    try clear H4
    try clear Dn
    try clear Do
    try clear Br
    try clear Bs
    try clear Bt
    try clear Bu
    try clear Bv
    try clear Bh
    try clear Bi
    try clear Bj
    try clear Bk
    try clear Bl
    try clear C3
    try clear C4
    try clear C5
    try clear C6
    try clear C7
    try clear Cd
    try clear Ce
    try clear Cf
    try clear Cg
    try clear Ch
    try clear Cn
    try clear Co
    try clear Cp
    try clear Cq
    try clear Cr
    try clear D7
    try clear D8
    try clear D9
    try clear Da
    try clear Db
    try clear Cx
    try clear Cy
    try clear Cz
    try clear D0
    try clear D1
    try clear Du
    try clear Dv
    try clear Dw
    try clear Dx
    try clear Dy
    try clear Bw
    try clear Bx
    try clear By
    try clear Bz
    try clear C0
    try clear Bm
    try clear Bn
    try clear Bo
    try clear Bp
    try clear Bq
    try clear C8
    try clear C9
    try clear Ca
    try clear Cb
    try clear Cc
    try clear Ci
    try clear Cj
    try clear Ck
    try clear Cl
    try clear Cm
    try clear Cs
    try clear Ct
    try clear Cu
    try clear Cv
    try clear Cw
    try clear Dc
    try clear Dd
    try clear De
    try clear Df
    try clear Dg
    try clear D2
    try clear D3
    try clear D4
    try clear D5
    try clear D6
    try clear Dz
    try clear E0
    try clear E1
    try clear E2
    try clear E3
    try clear A1
    try clear A3
    try clear A4
    try clear A6
    try clear A2
    try clear A9
    try clear Ag
    try clear Ah
    try clear Ai
    try clear Aa
    try clear p2
    try clear Ar
    try clear B1
    try clear As
    try clear B2
    obtain ⟨kq,Az,rfl,HA,H5,A0,HB⟩:=hcut
    cases kq with
    |zero=>exact absurd HA.o (by simp [bZ.j1])
    |succ H6=>
     have H:=HA.o
     clear HA
     simp only [bZ.j1] at H
     rcases Decidable.em (Az=true) with E8|E8
     · subst E8
       replace H:(some false)=some r:=by rw [if_pos rfl] at H;exact H
       obtain rfl:=j5 H
       go_wp2
       go_ret
       exact ⟨rq,bq1 HB.o Ab.o⟩
     replace E8:=Bool.eq_false_iff.mpr E8
     subst E8
     replace H:((eC.f Ap).bind fun Be=>(if Be=true then ((cY.f Aq).bind fun Aw=>(if Aw=Aq then ((cO.f At 0 1000).bind fun Bf=>(if Bf=true then ((cO.f Au 0 1000).bind fun Bg=>(if Bg=true then (some (decide ((A8.length:Int)≤10))) else (some false))) else (some false))) else (some false))) else (some false)))=some r:=by rw [if_neg (show ¬(false=true) by decide)] at H;exact H
     replace H:=be H
     obtain ⟨Be,E9,H⟩:=H
     cases Be
     · replace H:=iF H
       obtain rfl:=j5 H
       obtain ⟨Ec,Ed,Ee,Ef,Eg,Eh,Ei,Ej,Ek,El⟩:=cl5 A0.o
       try go_wp2
       repeat (go_quiet (first|(go_at_call 127;(with_reducible refine (eC.calls Ap false _ E9.o).mono ?_);rintro e w' ⟨rfl,⟨nd,rfl⟩⟩;(try first|exact ⟨rfl,_,World.drewN_drewN _ _ _⟩|exact ⟨rfl,_,Eq.trans (World.drewN_drewN _ _ _) (congrArg (World.drewN _) (Nat.add_assoc _ _ _))⟩)));try go_wp2)
       go_ret
       exact ⟨rq,bq1 HB.o Ab.o⟩
     replace H:=iT H
     replace H:=be H
     obtain ⟨Aw,Em,H⟩:=H
     replace H:=iq' H
     rcases H with ⟨Hb,Ea,Eb,H⟩|⟨-,Ea,Eb,H⟩
     · obtain rfl:=j5 H
       obtain ⟨En,Eo,Ep,Er,Es,Et,Eu,Ev,Ew,Ex⟩:=cl5 A0.o
       try go_wp2
       repeat (go_quiet (first|(go_at_call 127;(with_reducible refine (eC.calls Ap true _ E9.o).mono ?_);rintro e w' ⟨rfl,⟨nd,rfl⟩⟩;(try first|exact ⟨rfl,_,World.drewN_drewN _ _ _⟩|exact ⟨rfl,_,Eq.trans (World.drewN_drewN _ _ _) (congrArg (World.drewN _) (Nat.add_assoc _ _ _))⟩))|(go_at_call 109;(with_reducible refine (cY.calls Aq Aw _ Em.o).mono ?_);rintro e w' ⟨rfl,⟨nd,rfl⟩⟩;(try first|exact ⟨rfl,_,World.drewN_drewN _ _ _⟩|exact ⟨rfl,_,Eq.trans (World.drewN_drewN _ _ _) (congrArg (World.drewN _) (Nat.add_assoc _ _ _))⟩)));try go_wp2)
       go_ret
       exact ⟨rq,bq1 HB.o Ab.o⟩
     replace H:=be H
     obtain ⟨Bf,Gu,H⟩:=H
     cases Bf
     · replace H:=iF H
       obtain rfl:=j5 H
       obtain ⟨Ey,Ez,G0,G1,G2,G3,G4,G5,G6,G7⟩:=cl5 A0.o
       try go_wp2
       repeat (go_quiet (first|(go_at_call 127;(with_reducible refine (eC.calls Ap true _ E9.o).mono ?_);rintro e w' ⟨rfl,⟨nd,rfl⟩⟩;(try first|exact ⟨rfl,_,World.drewN_drewN _ _ _⟩|exact ⟨rfl,_,Eq.trans (World.drewN_drewN _ _ _) (congrArg (World.drewN _) (Nat.add_assoc _ _ _))⟩))|(go_at_call 109;(with_reducible refine (cY.calls Aq Aw _ Em.o).mono ?_);rintro e w' ⟨rfl,⟨nd,rfl⟩⟩;(try first|exact ⟨rfl,_,World.drewN_drewN _ _ _⟩|exact ⟨rfl,_,Eq.trans (World.drewN_drewN _ _ _) (congrArg (World.drewN _) (Nat.add_assoc _ _ _))⟩))|(go_at_call 88;(with_reducible refine (cO.calls At 0 1000 false _ Gu.o).mono ?_);rintro e w' ⟨rfl,⟨nd,rfl⟩⟩;(try first|exact ⟨rfl,_,World.drewN_drewN _ _ _⟩|exact ⟨rfl,_,Eq.trans (World.drewN_drewN _ _ _) (congrArg (World.drewN _) (Nat.add_assoc _ _ _))⟩)));try go_wp2)
       go_ret
       exact ⟨rq,bq1 HB.o Ab.o⟩
     replace H:=iT H
     replace H:=be H
     obtain ⟨Bg,Gy,H⟩:=H
     rcases bt Bg with rfl|rfl
     · replace H:=iT H
       obtain rfl:=j5 H
       obtain ⟨G8,G9,Ga,Gb,Gc,Gd,Ge,Gf,Gg,Gh⟩:=cl5 A0.o
       try go_wp2
       repeat (go_quiet (first|(go_at_call 127;(with_reducible refine (eC.calls Ap true _ E9.o).mono ?_);rintro e w' ⟨rfl,⟨nd,rfl⟩⟩;(try first|exact ⟨rfl,_,World.drewN_drewN _ _ _⟩|exact ⟨rfl,_,Eq.trans (World.drewN_drewN _ _ _) (congrArg (World.drewN _) (Nat.add_assoc _ _ _))⟩))|(go_at_call 109;(with_reducible refine (cY.calls Aq Aw _ Em.o).mono ?_);rintro e w' ⟨rfl,⟨nd,rfl⟩⟩;(try first|exact ⟨rfl,_,World.drewN_drewN _ _ _⟩|exact ⟨rfl,_,Eq.trans (World.drewN_drewN _ _ _) (congrArg (World.drewN _) (Nat.add_assoc _ _ _))⟩))|(go_at_call 88;(with_reducible refine (cO.calls At 0 1000 true _ Gu.o).mono ?_);rintro e w' ⟨rfl,⟨nd,rfl⟩⟩;(try first|exact ⟨rfl,_,World.drewN_drewN _ _ _⟩|exact ⟨rfl,_,Eq.trans (World.drewN_drewN _ _ _) (congrArg (World.drewN _) (Nat.add_assoc _ _ _))⟩))|(go_at_call 88;(with_reducible refine (cO.calls Au 0 1000 true _ Gy.o).mono ?_);rintro e w' ⟨rfl,⟨nd,rfl⟩⟩;(try first|exact ⟨rfl,_,World.drewN_drewN _ _ _⟩|exact ⟨rfl,_,Eq.trans (World.drewN_drewN _ _ _) (congrArg (World.drewN _) (Nat.add_assoc _ _ _))⟩)));try go_wp2)
       go_ret
       exact ⟨rq,bq1 HB.o Ab.o⟩
     replace H:=iF H
     obtain rfl:=j5 H
     obtain ⟨Gi,Gj,Gk,Gl,Gm,Gn,Go,Gp,Gq,Gr⟩:=cl5 A0.o
     try go_wp2
     repeat (go_quiet (first|(go_at_call 127;(with_reducible refine (eC.calls Ap true _ E9.o).mono ?_);rintro e w' ⟨rfl,⟨nd,rfl⟩⟩;(try first|exact ⟨rfl,_,World.drewN_drewN _ _ _⟩|exact ⟨rfl,_,Eq.trans (World.drewN_drewN _ _ _) (congrArg (World.drewN _) (Nat.add_assoc _ _ _))⟩))|(go_at_call 109;(with_reducible refine (cY.calls Aq Aw _ Em.o).mono ?_);rintro e w' ⟨rfl,⟨nd,rfl⟩⟩;(try first|exact ⟨rfl,_,World.drewN_drewN _ _ _⟩|exact ⟨rfl,_,Eq.trans (World.drewN_drewN _ _ _) (congrArg (World.drewN _) (Nat.add_assoc _ _ _))⟩))|(go_at_call 88;(with_reducible refine (cO.calls At 0 1000 true _ Gu.o).mono ?_);rintro e w' ⟨rfl,⟨nd,rfl⟩⟩;(try first|exact ⟨rfl,_,World.drewN_drewN _ _ _⟩|exact ⟨rfl,_,Eq.trans (World.drewN_drewN _ _ _) (congrArg (World.drewN _) (Nat.add_assoc _ _ _))⟩))|(go_at_call 88;(with_reducible refine (cO.calls Au 0 1000 false _ Gy.o).mono ?_);rintro e w' ⟨rfl,⟨nd,rfl⟩⟩;(try first|exact ⟨rfl,_,World.drewN_drewN _ _ _⟩|exact ⟨rfl,_,Eq.trans (World.drewN_drewN _ _ _) (congrArg (World.drewN _) (Nat.add_assoc _ _ _))⟩)));try go_wp2)
     go_ret
     exact ⟨rq,bq1 HB.o Ab.o⟩
def d5.l0:Nat→Int→List Int→Option (List Int)
 |0,_,_=>none
 |k+1,x0,x3=>if x0<(-128) then ((some (([(x0 / 256) % 256]:List Int):List Int)).bind fun A0=>(if A0.length+x3.length<140737488355328 then (d5.l0 k (x0 / 256) (A0++x3)) else (none))) else (if x0>127 then ((some (([(x0 / 256) % 256]:List Int):List Int)).bind fun A1=>(if A1.length+x3.length<140737488355328 then (d5.l0 k (x0 / 256) (A1++x3)) else (none))) else (some x3))
def d5.f (k:Nat) (a0:Int):Option (List Int):=(cY.f a0).bind fun A0=>(d5.l0 k A0 (([(A0) % 256]:List Int)))
theorem d5.calls (k:Nat) (a0:Int) (r:List Int) (w:World) (h:d5.f k a0=some r):
 Calls Try.prog 64 #[.int .i64 a0] w fun e w'=>∃B4:Value,e=.returned (B4)∧Kd.R (Kd.int .u8) 5 w' w.heap.size (fun _=>True) B4 r∧Below w.heap.size w w':=by
 have HB:=am (Below.refl w.heap.size w)
 have H:=h
 clear h
 unfold d5.f at H
 replace H:=be H
 obtain ⟨A2,B6,H⟩:=H
 generalize A5:((([(A2) % 256]:List Int)):List Int)=Ar at H
 have A6:=am A5.symm
 clear A5
 have H':=am H
 clear H
 go_enter Try.func64,Try.ntmps64
 go_wp2_with (first|((with_reducible refine aD (f:=109) rfl ?_);refine gc (some 5) (cY.calls a0 A2 _ B6.o) Try.func109 ?_;rintro e w' ⟨rfl,⟨nd,rfl⟩⟩;refine ⟨_,rfl,?_⟩)|((with_reducible refine aM (N:=8) rfl ?_);refine Kd.R_lit (Kd.int .u8) _ 5 ?hg (N:=8) ?hd (xs:=([(A2) % 256]:List Int)) (inner:=[.int .u8 ((A2) % 256)]) (ok:=fun _=>True) (okp:=fun _=>True) ?hr ?hp (fun _ hk=>hk) trivial (Below.refl _ _) (j6 _) (by simp) ?_;(case hd=>rfl);(case hg=>rfl);(case hr=>exact gs);(case hp=>exact (bV.one (show Kd.M (Kd.int .u8) _ _ _ ((A2) % 256) [.int .u8 ((A2) % 256)] from rfl) (bV.none _ _)));intro B7 w3 Ag hb hg_ hnew_;clear hg_ hnew_;(first|rw [← A6.o] at Ag|(simp only [Int.reduceToNat] at Ag;rw [← A6.o] at Ag));have n_:=ak2 (rl Ag (bq HB.o)) (aA (bq HB.o) hb);clear HB;obtain ⟨Ah,HB⟩:=n_;clear hb Ag))
 go_loopg [0,3] k (fun kq v0 v3 w'=>∃(A1:Int) (A3:List Int),v0=.int .i64 A1∧Aside0 (d5.l0 kq A1 A3=some r)∧Aside0 (kq≤k)∧Aside0 (Kd.R (Kd.int .u8) 5 w' w.heap.size (fun _=>True) v3 A3)∧Aside0 (Below w.heap.size w w'))
 case atStart=>exact ⟨(A2),(Ar),sq,H',⟨j6 _⟩,⟨kqR Ah.o⟩,⟨bq HB.o⟩⟩
 case round=>
  clear H'
  try clear c1
  try clear p2
  obtain ⟨A1,A3,rfl,HA,Aq,A0,HB⟩:=hrel
  cases gk with
  |zero=>exact absurd HA.o (by simp [d5.l0])
  |succ k1=>
   have H:=HA.o
   clear HA
   simp only [d5.l0] at H
   replace H:=il H
   rcases H with ⟨-,As,H⟩|⟨-,As,H⟩
   · generalize A7:((([(A1 / 256) % 256]:List Int)):List Int)=Ai at H
     have A8:=am A7.symm
     clear A7
     replace H:=nq H
     obtain ⟨c6,H⟩:=H
     have At:=am c6
     clear c6
     generalize A9:((Ai++A3):List Int)=Au at H
     have Aj:=am A9.symm
     clear A9
     have H':=am H
     clear H
     go_wp2_with (first|((with_reducible refine aM (N:=19) rfl ?_);refine Kd.R_lit (Kd.int .u8) _ 5 ?hg (N:=19) ?hd (xs:=([(A1 / 256) % 256]:List Int)) (inner:=[.int .u8 ((A1 / 256) % 256)]) (ok:=fun _=>True) (okp:=fun _=>True) ?hr ?hp (fun _ hk=>hk) trivial (Below.refl _ _) (j6 _) (by simp) ?_;(case hd=>rfl);(case hg=>rfl);(case hr=>exact gs);(case hp=>exact (bV.one (show Kd.M (Kd.int .u8) _ _ _ ((A1 / 256) % 256) [.int .u8 ((A1 / 256) % 256)] from rfl) (bV.none _ _)));intro Av w7 Af hb hg_ hnew_;clear hg_ hnew_;(first|rw [← A8.o] at Af|(simp only [Int.reduceToNat] at Af;rw [← A8.o] at Af));have n_:=ak3 (re_ A0 Af hb) (rn_ Af A0 (bq HB.o)) (aA (bq HB.o) hb);clear A0 HB;obtain ⟨A0,Aa,HB⟩:=n_;clear hb Af;obtain ⟨Aw,Ax,Ay⟩:=Kd.R_slice A0.o;subst Ay)|((with_reducible refine bW (b:=.append) (xs:=#[.tmp 19,.tmp 20]) rfl ?_);at_builtin;refine Kd.R_append_rows (Kd.int .u8) (w0:=w) w.heap.size rfl (.tmp 19) (.tmp 20) 22 5 (.int .u8 0) 1 rfl Try.underlying22 eF rfl (by decide) (by omega) Av Ai A3 _ _ _ (fun k_=>some k_≠(.slice Aw A3.length Ax:Value).ownBlock) (fun _=>False) rfl rfl ?aO ?aR (fun _ _ h=>h) (fun _ h=>h.elim) ?aF ?aB ?aS ?aL ?_;(case aR=>repeat (first|exact (Kd.R_reads' A0.o).2.2|(with_reducible refine Kd.C_alloc ?_ _)|(with_reducible refine Kd.C_drewN ?_ _)|(with_reducible refine Kd.C_drew ?_)));(case aB=>exact (bq HB.o));(case aF=>exact (fun k_ hk=>Kd.fresh' (Kd.R_lt (kqR A0.o)) k_ hk));(case aO=>exact (by refine kr ?_;exact Kd.R_mono Aa.o (fun _ hk=>hk.2)));(case aS=>exact (aX (bq HB.o)));(case aL=>have:=At.o;omega);intro B8 w9 ho hb hg hat;rw [← Aj.o] at ho;have n_:=ak3 (Kd.R_after (ok:=(fun _=>True)) (kqR A0.o) hg hat) hb ho;clear A0 HB Aa;obtain ⟨A0,HB,Ak⟩:=n_;clear ho hb hg hat))
     go_roundg k1
     case measure=>have:=Aq.o;omega
     case rel=>exact ⟨(A1 / 256),(Au),sq,H',⟨by have:=Aq.o;omega⟩,⟨by refine kr ?_;exact Kd.R_mono Ak.o (fun _ hk=>trivial)⟩,⟨bq HB.o⟩⟩
   replace H:=ig' H
   rcases H with ⟨-,Al,H⟩|⟨-,Al,H⟩
   · obtain rfl:=j5 H
     go_wp2
     go_ret
     exact ⟨_,rq,kqR A0.o,bq HB.o⟩
   generalize Ab:((([(A1 / 256) % 256]:List Int)):List Int)=Am at H
   have Ac:=am Ab.symm
   clear Ab
   replace H:=nq H
   obtain ⟨B5,H⟩:=H
   have An:=am B5
   clear B5
   generalize Ad:((Am++A3):List Int)=Az at H
   have Ao:=am Ad.symm
   clear Ad
   have H':=am H
   clear H
   go_wp2_with (first|((with_reducible refine aM (N:=19) rfl ?_);refine Kd.R_lit (Kd.int .u8) _ 5 ?hg (N:=19) ?hd (xs:=([(A1 / 256) % 256]:List Int)) (inner:=[.int .u8 ((A1 / 256) % 256)]) (ok:=fun _=>True) (okp:=fun _=>True) ?hr ?hp (fun _ hk=>hk) trivial (Below.refl _ _) (j6 _) (by simp) ?_;(case hd=>rfl);(case hg=>rfl);(case hr=>exact gs);(case hp=>exact (bV.one (show Kd.M (Kd.int .u8) _ _ _ ((A1 / 256) % 256) [.int .u8 ((A1 / 256) % 256)] from rfl) (bV.none _ _)));intro B0 Ba A4 hb hg_ hnew_;clear hg_ hnew_;(first|rw [← Ac.o] at A4|(simp only [Int.reduceToNat] at A4;rw [← Ac.o] at A4));have n_:=ak3 (re_ A0 A4 hb) (rn_ A4 A0 (bq HB.o)) (aA (bq HB.o) hb);clear A0 HB;obtain ⟨A0,Ae,HB⟩:=n_;clear hb A4;obtain ⟨B1,B2,B3⟩:=Kd.R_slice A0.o;subst B3)|((with_reducible refine bW (b:=.append) (xs:=#[.tmp 19,.tmp 20]) rfl ?_);at_builtin;refine Kd.R_append_rows (Kd.int .u8) (w0:=w) w.heap.size rfl (.tmp 19) (.tmp 20) 22 5 (.int .u8 0) 1 rfl Try.underlying22 eF rfl (by decide) (by omega) B0 Am A3 _ _ _ (fun k_=>some k_≠(.slice B1 A3.length B2:Value).ownBlock) (fun _=>False) rfl rfl ?aO ?aR (fun _ _ h=>h) (fun _ h=>h.elim) ?aF ?aB ?aS ?aL ?_;(case aR=>repeat (first|exact (Kd.R_reads' A0.o).2.2|(with_reducible refine Kd.C_alloc ?_ _)|(with_reducible refine Kd.C_drewN ?_ _)|(with_reducible refine Kd.C_drew ?_)));(case aB=>exact (bq HB.o));(case aF=>exact (fun k_ hk=>Kd.fresh' (Kd.R_lt (kqR A0.o)) k_ hk));(case aO=>exact (by refine kr ?_;exact Kd.R_mono Ae.o (fun _ hk=>hk.2)));(case aS=>exact (aX (bq HB.o)));(case aL=>have:=An.o;omega);intro B9 Bb ho hb hg hat;rw [← Ao.o] at ho;have n_:=ak3 (Kd.R_after (ok:=(fun _=>True)) (kqR A0.o) hg hat) hb ho;clear A0 HB Ae;obtain ⟨A0,HB,Ap⟩:=n_;clear ho hb hg hat))
   go_roundg k1
   case measure=>have:=Aq.o;omega
   case rel=>exact ⟨(A1 / 256),(Az),sq,H',⟨by have:=Aq.o;omega⟩,⟨by refine kr ?_;exact Kd.R_mono Ap.o (fun _ hk=>trivial)⟩,⟨bq HB.o⟩⟩
end Go.Proofs.Ythhnfmbfgplelaa.XFnExactGetMsg
