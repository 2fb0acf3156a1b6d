/- The functions that one law reaches, as Lean functions, with their walks: printed by a program of this seat (wip/tools) out of the translation. -/
import Derived.Test.YtgppikopdpeigaaXFnPdusx0
import Derived.Test.YtgppikopdpeigaaXFnPdusx1
import Derived.Test.YtgppikopdpeigaaXFnPdusx10
namespace Go.Proofs.Ytgppikopdpeigaa.XFnPdus
open Go.RowKit Go.Proofs.YtgppikopdpeigaaW.PrintWords Go.Proofs.YtgppikopdpeigaaW.PrintLast Go.Proofs.YtgppikopdpeigaaW.PrintMore
attribute [local go_sem] cO cP dH dI cC cD cQ cR
set_option linter.unusedVariables false
set_option linter.unusedSimpArgs false
set_option maxHeartbeats 8000000
set_option maxRecDepth 100000
mutual
def cF.l0:Nat→Int→Int→Int→Int→Int→List (S45)→Option (Bool)
 |0,_,_,_,_,_,_=>none
 |k+1,x3,A1,A2,A3,A4,A0=>if x3<(A0.length:Int) then (if 0≤x3 then ((cI.f k ((aG A0 x3).f0)).bind fun A5=>(if A5=true then ((b5.f k ((aG A0 x3).f1.f0) ((aG A0 x3).f1.f1) ((aG A0 x3).f1.f2) ((aG A0 x3).f1.f3)).bind fun A6=>(if A6=true then (cF.l0 k (wrap64 (x3+1)) A1 A2 A3 A4 A0) else (some false))) else (some false))) else (none)) else (if A1=162 then (cF.j1 k false A1 A2 A3 A4 A0) else (if A1=165 then (cF.j1 k false A1 A2 A3 A4 A0) else (if A3=0 then (cF.j1 k (A4 !=0) A1 A2 A3 A4 A0) else (cF.j1 k true A1 A2 A3 A4 A0))))
def cF.j1:Nat→Bool→Int→Int→Int→Int→List (S45)→Option (Bool)
 |0,_,_,_,_,_,_=>none
 |k+1,Ab,A1,A2,A3,A4,A0=>if Ab=true then (some false) else ((eM.f A1).bind fun A7=>(if A7=true then ((cN.f A2).bind fun A8=>(if A8=A2 then ((dA.f A3 0 1000).bind fun A9=>(if A9=true then ((dA.f A4 0 1000).bind fun Aa=>(if Aa=true then (some (decide ((A0.length:Int)≤10))) else (some false))) else (some false))) else (some false))) else (some false)))
end
def cF.f (k:Nat) (A0:Int) (A1:Int) (A2:Int) (A3:Int) (A4:List (S45)):Option (Bool):=cF.l0 k 0 A0 A1 A2 A3 A4
theorem cF.calls (k:Nat) (Ap:Int) (Aq:Int) (At:Int) (Au:Int) (B6:Option Addr) (B7:Nat) (A8:List (S45)) (r:Bool) (w:World) (Dh:Kd.C k45 w B6 A8.length A8) (Di:A8.length≤B7) (h:cF.f k Ap Aq At Au A8=some r):
 Calls Try.prog 35 #[.agg #[.int .i64 Ap,.int .i64 Aq,.int .i64 At,.int .i64 Au,.slice B6 A8.length B7]] w fun e w'=>e=.returned (.bool r)∧Below w.heap.size w w':=by
 have Gz:=Try.underlying26
 have H0:=Try.underlying43
 have B0:=am Dh
 have Gv:=am Di
 clear Dh Di
 have HB:=am (Below.refl w.heap.size w)
 have H:=h
 clear h
 unfold cF.f at H
 have H':=am H
 clear H
 go_enter Try.func35,Try.ntmps35
 go_wp2_with (first|((with_reducible refine aJ (N:=1) rfl ?_);(try (refine a9 (by rfl) ?_;dsimp only));refine bxe 1 #[.int .i64 Ap,.int .i64 Aq,.int .i64 At,.int .i64 Au,.slice B6 A8.length B7] 26 ?_;intro Dj hg w2 hbox hb;have n_:=ak4 (aC (bq HB.o) hb) hbox (bz hg (bq HB.o)) (bz hg (bq HB.o));clear HB;obtain ⟨HB,A0,Gw,Ab⟩:=n_;clear hb hbox hg))
 go_loopg [3] k (fun kq v3 w'=>∃(A7:Int),v3=.int .i64 A7∧Aside0 (cF.l0 kq A7 Ap Aq At Au A8=some r)∧Aside0 (kq≤k)∧Aside0 (w'.heap[Dj]? =some (.cells #[.int .i64 Ap,.int .i64 Aq,.int .i64 At,.int .i64 Au,(.slice B6 A8.length B7)] 26 (0,0)))∧Aside0 (Below w.heap.size w w'))
 case atStart=>exact ⟨(0),sq,H',⟨k7 _⟩,⟨zq A0.o⟩,⟨bq1 HB.o Ab.o⟩⟩
 case round=>
  clear H'
  try clear p2
  obtain ⟨A7,rfl,HA,E5,A0,HB⟩:=hrel
  cases gk with
  |zero=>exact absurd HA.o (by simp [cF.l0])
  |succ k1=>
   have H:=HA.o
   clear HA
   simp only [cF.l0] at H
   replace H:=il H
   rcases H with ⟨-,E6,H⟩|⟨-,E6,H⟩
   · replace H:=nl H
     obtain ⟨-,Gs,H⟩:=H
     replace H:=be H
     obtain ⟨Gt,A5,H⟩:=H
     cases Gt
     · replace H:=iF H
       obtain rfl:=k6 H
       obtain ⟨Bh,Bi,Bj,Bk,Bl,Bm,Bn,Bo,Bp,Bq⟩:=cl5 A0.o
       have Ar:0≤(A7:Int):=oda
       have As:A7<(A8.length:Int):=oda
       obtain ⟨B3,B8,B9,Ba,Bb,Bc,A1,A3,A4,A6,A2,Ac,Ad,Ae,Af⟩:=dR B0.o A7 Ar As
       cases Bc
       replace A1:=(HB.o.cell (kW w _ A1)).trans A1
       replace A3:=(HB.o.cell (kW w _ A3)).trans A3
       replace A4:=(HB.o.cell (kW w _ A4)).trans A4
       replace A6:=(HB.o.cell (kW w _ A6)).trans A6
       replace A2:=(HB.o.cell (kW w _ A2)).trans A2
       have Aj:=am Ad
       have Ak:=am Ac
       clear Ad Ac
       have B4:=am Af
       have B5:=am Ae
       clear Af Ae
       replace Ar:=eq_true Ar
       replace As:=eq_true As
       go_wp2_with (first|(go_at_call 63;refine cm (cI.calls k1 _ _ ((aG A8 A7).f0) false _ (cq (Kd.C_below Aj.o HB.o)) Ak.o A5.o) ?_;rintro e w' ⟨rfl,⟨nd,rfl⟩⟩;(try first|exact ⟨rfl,_,World.drewN_drewN _ _ _⟩|exact ⟨rfl,_,Eq.trans (World.drewN_drewN _ _ _) (congrArg (World.drewN _) (Nat.add_assoc _ _ _))⟩)))
       go_ret
       exact ⟨rq,bq1 HB.o Ab.o⟩
     replace H:=iT H
     replace H:=be H
     obtain ⟨E7,Gx,H⟩:=H
     cases E7
     · replace H:=iF H
       obtain rfl:=k6 H
       obtain ⟨Br,Bs,Bt,Bu,Bv,Bw,Bx,By,Bz,C0⟩:=cl5 A0.o
       have Ar:0≤(A7:Int):=oda
       have As:A7<(A8.length:Int):=oda
       obtain ⟨B3,B8,B9,Ba,Bb,Bc,A1,A3,A4,A6,A2,Ac,Ad,Ae,Af⟩:=dR B0.o A7 Ar As
       cases Bc
       replace A1:=(HB.o.cell (kW w _ A1)).trans A1
       replace A3:=(HB.o.cell (kW w _ A3)).trans A3
       replace A4:=(HB.o.cell (kW w _ A4)).trans A4
       replace A6:=(HB.o.cell (kW w _ A6)).trans A6
       replace A2:=(HB.o.cell (kW w _ A2)).trans A2
       have Aj:=am Ad
       have Ak:=am Ac
       clear Ad Ac
       have B4:=am Af
       have B5:=am Ae
       clear Af Ae
       replace Ar:=eq_true Ar
       replace As:=eq_true As
       go_wp2_with (first|(go_at_call 63;refine cm (cI.calls k1 _ _ ((aG A8 A7).f0) true _ (cq (Kd.C_below Aj.o HB.o)) Ak.o A5.o) ?_;rintro e w' ⟨rfl,⟨nd,rfl⟩⟩;(try first|exact ⟨rfl,_,World.drewN_drewN _ _ _⟩|exact ⟨rfl,_,Eq.trans (World.drewN_drewN _ _ _) (congrArg (World.drewN _) (Nat.add_assoc _ _ _))⟩);have B1:0≤(A7:Int):=oda;have B2:A7<(A8.length:Int):=oda;obtain ⟨Bd,Dp,Dq,Dr,Ds,Dt,A9,Ag,Ah,Ai,Aa,Al,Am,An,Ao⟩:=dR B0.o A7 B1 B2;obtain rfl:B3=Bd:=(by injection Dt);replace A9:=(HB.o.cell (kW w _ A9)).trans A9;replace Ag:=(HB.o.cell (kW w _ Ag)).trans Ag;replace Ah:=(HB.o.cell (kW w _ Ah)).trans Ah;replace Ai:=(HB.o.cell (kW w _ Ai)).trans Ai;replace Aa:=(HB.o.cell (kW w _ Aa)).trans Aa;have C1:=am Am;have C2:=am Al;clear Am Al;have Ax:=am Ao;have Ay:=am An;clear Ao An;replace B1:=eq_true B1;replace B2:=eq_true B2;have ea_:=k6 (A1.symm.trans A9);injection ea_ with ea_ en_ ec_;subst ea_;subst ec_;clear en_;have ea_:=k6 (A2.symm.trans Aa);injection ea_ with ea_ en_ ec_;subst ea_;subst ec_;clear en_)|(go_at_call 64;refine cm (b5.calls k1 ((aG A8 A7).f1.f0) ((aG A8 A7).f1.f1) ((aG A8 A7).f1.f2) _ _ ((aG A8 A7).f1.f3) false _ (cq (Kd.C_below Ax.o (bq1 HB.o Ab.o))) Ay.o Gx.o) ?_;rintro e H7 ⟨rfl,hb⟩;have n_:=ak2 (kb A0 hb) (aC (bq1 HB.o Ab.o) hb);clear A0 HB;obtain ⟨A0,HB⟩:=n_;(try clear hb)))
       go_ret
       exact ⟨rq,bq1 HB.o Ab.o⟩
     replace H:=iT H
     have H':=am H
     clear H
     obtain ⟨Du,Dv,Dw,Dx,Dy,Dz,E0,E1,E2,E3⟩:=cl5 A0.o
     have Ar:0≤(A7:Int):=oda
     have As:A7<(A8.length:Int):=oda
     obtain ⟨B3,B8,B9,Ba,Bb,Bc,A1,A3,A4,A6,A2,Ac,Ad,Ae,Af⟩:=dR B0.o A7 Ar As
     cases Bc
     replace A1:=(HB.o.cell (kW w _ A1)).trans A1
     replace A3:=(HB.o.cell (kW w _ A3)).trans A3
     replace A4:=(HB.o.cell (kW w _ A4)).trans A4
     replace A6:=(HB.o.cell (kW w _ A6)).trans A6
     replace A2:=(HB.o.cell (kW w _ A2)).trans A2
     have Aj:=am Ad
     have Ak:=am Ac
     clear Ad Ac
     have B4:=am Af
     have B5:=am Ae
     clear Af Ae
     replace Ar:=eq_true Ar
     replace As:=eq_true As
     go_wp2_with (first|(go_at_call 63;refine cm (cI.calls k1 _ _ ((aG A8 A7).f0) true _ (cq (Kd.C_below Aj.o HB.o)) Ak.o A5.o) ?_;rintro e w' ⟨rfl,⟨nd,rfl⟩⟩;(try first|exact ⟨rfl,_,World.drewN_drewN _ _ _⟩|exact ⟨rfl,_,Eq.trans (World.drewN_drewN _ _ _) (congrArg (World.drewN _) (Nat.add_assoc _ _ _))⟩);have B1:0≤(A7:Int):=oda;have B2:A7<(A8.length:Int):=oda;obtain ⟨Bd,Dp,Dq,Dr,Ds,Dt,A9,Ag,Ah,Ai,Aa,Al,Am,An,Ao⟩:=dR B0.o A7 B1 B2;obtain rfl:B3=Bd:=(by injection Dt);replace A9:=(HB.o.cell (kW w _ A9)).trans A9;replace Ag:=(HB.o.cell (kW w _ Ag)).trans Ag;replace Ah:=(HB.o.cell (kW w _ Ah)).trans Ah;replace Ai:=(HB.o.cell (kW w _ Ai)).trans Ai;replace Aa:=(HB.o.cell (kW w _ Aa)).trans Aa;have C1:=am Am;have C2:=am Al;clear Am Al;have Ax:=am Ao;have Ay:=am An;clear Ao An;replace B1:=eq_true B1;replace B2:=eq_true B2;have ea_:=k6 (A1.symm.trans A9);injection ea_ with ea_ en_ ec_;subst ea_;subst ec_;clear en_;have ea_:=k6 (A2.symm.trans Aa);injection ea_ with ea_ en_ ec_;subst ea_;subst ec_;clear en_)|(go_at_call 64;refine cm (b5.calls k1 ((aG A8 A7).f1.f0) ((aG A8 A7).f1.f1) ((aG A8 A7).f1.f2) _ _ ((aG A8 A7).f1.f3) true _ (cq (Kd.C_below Ax.o (bq1 HB.o Ab.o))) Ay.o Gx.o) ?_;rintro e H8 ⟨rfl,hb⟩;have n_:=ak2 (kb A0 hb) (aC (bq1 HB.o Ab.o) hb);clear A0 HB;obtain ⟨A0,HB⟩:=n_;(try clear hb)))
     go_roundg k1
     case measure=>have:=E5.o;omega
     case rel=>exact ⟨(wrap64 (A7+1)),sq,H',⟨by have:=E5.o;omega⟩,⟨zq A0.o⟩,⟨bq1 HB.o Ab.o⟩⟩
   have E4:=am H
   clear H
   obtain ⟨C3,C4,C5,C6,C7,C8,C9,Ca,Cb,Cc⟩:=cl5 A0.o
   go_upto_region 6 with (fail)
   repeat (go_quiet (fail);go_upto_region 6 with (fail))
   go_cut [46] (fun H1 wc=>∃(kq:Nat) (Az:Bool),H1=.bool Az∧Aside0 (cF.j1 kq Az Ap Aq At Au A8=some r)∧Aside0 (kq≤k1)∧Aside0 (wc.heap[Dj]? =some (.cells #[.int .i64 Ap,.int .i64 Aq,.int .i64 At,.int .i64 Au,(.slice B6 A8.length B7)] 26 (0,0)))∧Aside0 (Below w.heap.size w wc))
   case first=>
    have H:=E4.o
    clear E4
    replace H:=iq H
    rcases H with ⟨-,Av,Dk,H⟩|⟨H2,Av,Dk,H⟩
    (first|rw [Av]|(simp only [aI,aK];rw [Av])|skip)
    have H':=am H
    clear H
    obtain ⟨Cd,Ce,Cf,Cg,Ch,Ci,Cj,Ck,Cl,Cm⟩:=cl5 A0.o
    rotate_left
    (first|rw [Av]|(simp only [aI,aK];rw [Av])|skip)
    replace H:=iq H
    rcases H with ⟨-,Dl,Dm,H⟩|⟨H3,Dl,Dm,H⟩
    have H':=am H
    clear H
    obtain ⟨Cn,Co,Cp,Cq,Cr,Cs,Ct,Cu,Cv,Cw⟩:=cl5 A0.o
    rotate_left
    replace H:=iq' H
    rcases H with ⟨H4,Dn,Do,H⟩|⟨-,Dn,Do,H⟩
    have H':=am H
    clear H
    obtain ⟨Cx,Cy,Cz,D0,D1,D2,D3,D4,D5,D6⟩:=cl5 A0.o
    rotate_left
    have H':=am H
    clear H
    obtain ⟨D7,D8,D9,Da,Db,Dc,Dd,De,Df,Dg⟩:=cl5 A0.o
    rotate_right
    rotate_right
    rotate_right
    all_goals
     go_wp2
     first
     | go_meet
       case rel=>exact ⟨_,((Au !=0)),sq,H',⟨by have:=E5.o;first|omega|exact k7 _⟩,⟨zq A0.o⟩,⟨bq1 HB.o Ab.o⟩⟩
     | go_meet
       case rel=>exact ⟨_,(false),sq,H',⟨by have:=E5.o;first|omega|exact k7 _⟩,⟨zq A0.o⟩,⟨bq1 HB.o Ab.o⟩⟩
     | go_meet
       case rel=>exact ⟨_,(true),sq,H',⟨by have:=E5.o;first|omega|exact k7 _⟩,⟨zq A0.o⟩,⟨bq1 HB.o Ab.o⟩⟩
   case rest=>
    clear E4
    try clear c1
    try clear c2
    try clear p2
    try clear c3
    try clear E6
    try clear c4
    try clear Gs
    try clear p4
    try clear q4
    try clear H9
    try clear c6
    try clear p6
    try clear c8
    try clear H2
    try clear Av
    try clear Dk
    try clear H3
    try clear Dl
    try clear Dm
    try clear H4
    try clear Dn
    try clear Do
    try clear Br
    try clear Bs
    try clear Bt
    try clear Bu
    try clear Bv
    try clear Bh
    try clear Bi
    try clear Bj
    try clear Bk
    try clear Bl
    try clear C3
    try clear C4
    try clear C5
    try clear C6
    try clear C7
    try clear Cd
    try clear Ce
    try clear Cf
    try clear Cg
    try clear Ch
    try clear Cn
    try clear Co
    try clear Cp
    try clear Cq
    try clear Cr
    try clear D7
    try clear D8
    try clear D9
    try clear Da
    try clear Db
    try clear Cx
    try clear Cy
    try clear Cz
    try clear D0
    try clear D1
    try clear Du
    try clear Dv
    try clear Dw
    try clear Dx
    try clear Dy
    try clear Bw
    try clear Bx
    try clear By
    try clear Bz
    try clear C0
    try clear Bm
    try clear Bn
    try clear Bo
    try clear Bp
    try clear Bq
    try clear C8
    try clear C9
    try clear Ca
    try clear Cb
    try clear Cc
    try clear Ci
    try clear Cj
    try clear Ck
    try clear Cl
    try clear Cm
    try clear Cs
    try clear Ct
    try clear Cu
    try clear Cv
    try clear Cw
    try clear Dc
    try clear Dd
    try clear De
    try clear Df
    try clear Dg
    try clear D2
    try clear D3
    try clear D4
    try clear D5
    try clear D6
    try clear Dz
    try clear E0
    try clear E1
    try clear E2
    try clear E3
    try clear A1
    try clear A3
    try clear A4
    try clear A6
    try clear A2
    try clear A9
    try clear Ag
    try clear Ah
    try clear Ai
    try clear Aa
    try clear p2
    try clear Ar
    try clear B1
    try clear As
    try clear B2
    obtain ⟨kq,Az,rfl,HA,H5,A0,HB⟩:=hcut
    cases kq with
    |zero=>exact absurd HA.o (by simp [cF.j1])
    |succ H6=>
     have H:=HA.o
     clear HA
     simp only [cF.j1] at H
     rcases Decidable.em (Az=true) with E8|E8
     · subst E8
       replace H:(some false)=some r:=by rw [if_pos rfl] at H;exact H
       obtain rfl:=k6 H
       go_wp2
       go_ret
       exact ⟨rq,bq1 HB.o Ab.o⟩
     replace E8:=Bool.eq_false_iff.mpr E8
     subst E8
     replace H:((eM.f Ap).bind fun Be=>(if Be=true then ((cN.f Aq).bind fun Aw=>(if Aw=Aq then ((dA.f At 0 1000).bind fun Bf=>(if Bf=true then ((dA.f Au 0 1000).bind fun Bg=>(if Bg=true then (some (decide ((A8.length:Int)≤10))) else (some false))) else (some false))) else (some false))) else (some false)))=some r:=by rw [if_neg (show ¬(false=true) by decide)] at H;exact H
     replace H:=be H
     obtain ⟨Be,E9,H⟩:=H
     cases Be
     · replace H:=iF H
       obtain rfl:=k6 H
       obtain ⟨Ec,Ed,Ee,Ef,Eg,Eh,Ei,Ej,Ek,El⟩:=cl5 A0.o
       try go_wp2
       repeat (go_quiet (first|(go_at_call 65;(with_reducible refine (eM.calls Ap false _ E9.o).mono ?_);rintro e w' ⟨rfl,⟨nd,rfl⟩⟩;(try first|exact ⟨rfl,_,World.drewN_drewN _ _ _⟩|exact ⟨rfl,_,Eq.trans (World.drewN_drewN _ _ _) (congrArg (World.drewN _) (Nat.add_assoc _ _ _))⟩)));try go_wp2)
       go_ret
       exact ⟨rq,bq1 HB.o Ab.o⟩
     replace H:=iT H
     replace H:=be H
     obtain ⟨Aw,Em,H⟩:=H
     replace H:=iq' H
     rcases H with ⟨Ha,Ea,Eb,H⟩|⟨-,Ea,Eb,H⟩
     · obtain rfl:=k6 H
       obtain ⟨En,Eo,Ep,Er,Es,Et,Eu,Ev,Ew,Ex⟩:=cl5 A0.o
       try go_wp2
       repeat (go_quiet (first|(go_at_call 65;(with_reducible refine (eM.calls Ap true _ E9.o).mono ?_);rintro e w' ⟨rfl,⟨nd,rfl⟩⟩;(try first|exact ⟨rfl,_,World.drewN_drewN _ _ _⟩|exact ⟨rfl,_,Eq.trans (World.drewN_drewN _ _ _) (congrArg (World.drewN _) (Nat.add_assoc _ _ _))⟩))|(go_at_call 54;(with_reducible refine (cN.calls Aq Aw _ Em.o).mono ?_);rintro e w' ⟨rfl,⟨nd,rfl⟩⟩;(try first|exact ⟨rfl,_,World.drewN_drewN _ _ _⟩|exact ⟨rfl,_,Eq.trans (World.drewN_drewN _ _ _) (congrArg (World.drewN _) (Nat.add_assoc _ _ _))⟩)));try go_wp2)
       go_ret
       exact ⟨rq,bq1 HB.o Ab.o⟩
     replace H:=be H
     obtain ⟨Bf,Gu,H⟩:=H
     cases Bf
     · replace H:=iF H
       obtain rfl:=k6 H
       obtain ⟨Ey,Ez,G0,G1,G2,G3,G4,G5,G6,G7⟩:=cl5 A0.o
       try go_wp2
       repeat (go_quiet (first|(go_at_call 65;(with_reducible refine (eM.calls Ap true _ E9.o).mono ?_);rintro e w' ⟨rfl,⟨nd,rfl⟩⟩;(try first|exact ⟨rfl,_,World.drewN_drewN _ _ _⟩|exact ⟨rfl,_,Eq.trans (World.drewN_drewN _ _ _) (congrArg (World.drewN _) (Nat.add_assoc _ _ _))⟩))|(go_at_call 54;(with_reducible refine (cN.calls Aq Aw _ Em.o).mono ?_);rintro e w' ⟨rfl,⟨nd,rfl⟩⟩;(try first|exact ⟨rfl,_,World.drewN_drewN _ _ _⟩|exact ⟨rfl,_,Eq.trans (World.drewN_drewN _ _ _) (congrArg (World.drewN _) (Nat.add_assoc _ _ _))⟩))|(go_at_call 66;(with_reducible refine (dA.calls At 0 1000 false _ Gu.o).mono ?_);rintro e w' ⟨rfl,⟨nd,rfl⟩⟩;(try first|exact ⟨rfl,_,World.drewN_drewN _ _ _⟩|exact ⟨rfl,_,Eq.trans (World.drewN_drewN _ _ _) (congrArg (World.drewN _) (Nat.add_assoc _ _ _))⟩)));try go_wp2)
       go_ret
       exact ⟨rq,bq1 HB.o Ab.o⟩
     replace H:=iT H
     replace H:=be H
     obtain ⟨Bg,Gy,H⟩:=H
     rcases bt Bg with rfl|rfl
     · replace H:=iT H
       obtain rfl:=k6 H
       obtain ⟨G8,G9,Ga,Gb,Gc,Gd,Ge,Gf,Gg,Gh⟩:=cl5 A0.o
       try go_wp2
       repeat (go_quiet (first|(go_at_call 65;(with_reducible refine (eM.calls Ap true _ E9.o).mono ?_);rintro e w' ⟨rfl,⟨nd,rfl⟩⟩;(try first|exact ⟨rfl,_,World.drewN_drewN _ _ _⟩|exact ⟨rfl,_,Eq.trans (World.drewN_drewN _ _ _) (congrArg (World.drewN _) (Nat.add_assoc _ _ _))⟩))|(go_at_call 54;(with_reducible refine (cN.calls Aq Aw _ Em.o).mono ?_);rintro e w' ⟨rfl,⟨nd,rfl⟩⟩;(try first|exact ⟨rfl,_,World.drewN_drewN _ _ _⟩|exact ⟨rfl,_,Eq.trans (World.drewN_drewN _ _ _) (congrArg (World.drewN _) (Nat.add_assoc _ _ _))⟩))|(go_at_call 66;(with_reducible refine (dA.calls At 0 1000 true _ Gu.o).mono ?_);rintro e w' ⟨rfl,⟨nd,rfl⟩⟩;(try first|exact ⟨rfl,_,World.drewN_drewN _ _ _⟩|exact ⟨rfl,_,Eq.trans (World.drewN_drewN _ _ _) (congrArg (World.drewN _) (Nat.add_assoc _ _ _))⟩))|(go_at_call 66;(with_reducible refine (dA.calls Au 0 1000 true _ Gy.o).mono ?_);rintro e w' ⟨rfl,⟨nd,rfl⟩⟩;(try first|exact ⟨rfl,_,World.drewN_drewN _ _ _⟩|exact ⟨rfl,_,Eq.trans (World.drewN_drewN _ _ _) (congrArg (World.drewN _) (Nat.add_assoc _ _ _))⟩)));try go_wp2)
       go_ret
       exact ⟨rq,bq1 HB.o Ab.o⟩
     replace H:=iF H
     obtain rfl:=k6 H
     obtain ⟨Gi,Gj,Gk,Gl,Gm,Gn,Go,Gp,Gq,Gr⟩:=cl5 A0.o
     try go_wp2
     repeat (go_quiet (first|(go_at_call 65;(with_reducible refine (eM.calls Ap true _ E9.o).mono ?_);rintro e w' ⟨rfl,⟨nd,rfl⟩⟩;(try first|exact ⟨rfl,_,World.drewN_drewN _ _ _⟩|exact ⟨rfl,_,Eq.trans (World.drewN_drewN _ _ _) (congrArg (World.drewN _) (Nat.add_assoc _ _ _))⟩))|(go_at_call 54;(with_reducible refine (cN.calls Aq Aw _ Em.o).mono ?_);rintro e w' ⟨rfl,⟨nd,rfl⟩⟩;(try first|exact ⟨rfl,_,World.drewN_drewN _ _ _⟩|exact ⟨rfl,_,Eq.trans (World.drewN_drewN _ _ _) (congrArg (World.drewN _) (Nat.add_assoc _ _ _))⟩))|(go_at_call 66;(with_reducible refine (dA.calls At 0 1000 true _ Gu.o).mono ?_);rintro e w' ⟨rfl,⟨nd,rfl⟩⟩;(try first|exact ⟨rfl,_,World.drewN_drewN _ _ _⟩|exact ⟨rfl,_,Eq.trans (World.drewN_drewN _ _ _) (congrArg (World.drewN _) (Nat.add_assoc _ _ _))⟩))|(go_at_call 66;(with_reducible refine (dA.calls Au 0 1000 false _ Gy.o).mono ?_);rintro e w' ⟨rfl,⟨nd,rfl⟩⟩;(try first|exact ⟨rfl,_,World.drewN_drewN _ _ _⟩|exact ⟨rfl,_,Eq.trans (World.drewN_drewN _ _ _) (congrArg (World.drewN _) (Nat.add_assoc _ _ _))⟩)));try go_wp2)
     go_ret
     exact ⟨rq,bq1 HB.o Ab.o⟩
def bT.j0:Nat→Int→List Int→List Int→Bool→Option (List Int)
 |0,_,_,_,_=>none
 |k+1,x1,x2,x7,A4=>if A4=true then (some x7) else (if x7.length<140737488355328 then ((some (x7++[(x1) % 256]:List Int)).bind fun A0=>(if (x2.length:Int)>127 then (if A0.length<140737488355328 then ((some (A0++[129]:List Int)).bind fun A1=>(if A1.length<140737488355328 then ((some (A1++[((x2.length:Int)) % 256]:List Int)).bind fun A2=>(if A2.length+x2.length<140737488355328 then (some (A2++x2)) else (none))) else (none))) else (none)) else (if A0.length<140737488355328 then ((some (A0++[((x2.length:Int)) % 256]:List Int)).bind fun A3=>(if A3.length+x2.length<140737488355328 then (some (A3++x2)) else (none))) else (none)))) else (none))
def bT.f (k:Nat) (l0:List Int) (a1:Int) (l2:List Int):Option (List Int):=(some (([]:List Int):List Int)).bind fun A0=>(if A0.length+l0.length<140737488355328 then ((some (A0++l0:List Int)).bind fun A1=>((dA.f a1 0 255).bind fun A2=>(if A2=true then (bT.j0 k a1 l2 A1 (decide ((l2.length:Int)>250))) else (bT.j0 k a1 l2 A1 true)))) else (none))
theorem bT.calls (k:Nat) (A0:Option Addr) (c0:Nat) (l0:List Int) (a1:Int) (A2:Option Addr) (c2:Nat) (l2:List Int) (r:List Int) (w:World) (Bd:Kd.C (Kd.int .u8) w A0 l0.length l0) (Be:l0.length≤c0) (Bf:Kd.C (Kd.int .u8) w A2 l2.length l2) (Bg:l2.length≤c2) (h:bT.f k l0 a1 l2=some r):
 Calls Try.prog 41 #[.slice A0 l0.length c0,.int .i64 a1,.slice A2 l2.length c2] w fun e w'=>∃Bh:Value,e=.returned (Bh)∧Kd.R (Kd.int .u8) 5 w' w.heap.size (fun _=>True) Bh r∧Below w.heap.size w w':=by
 have Bp:=am Bd
 have Bv:=am Be
 clear Bd Be
 have Bi:=am Bf
 have Bw:=am Bg
 clear Bf Bg
 have HB:=am (Below.refl w.heap.size w)
 have H:=h
 clear h
 unfold bT.f at H
 replace H:=bs H
 obtain ⟨B4,Aa,H⟩:=H
 replace H:=nq H
 obtain ⟨c4,H⟩:=H
 have B5:=am c4
 clear c4
 replace H:=bs H
 obtain ⟨A5,Aj,H⟩:=H
 have B6:=am H
 clear H
 go_enter Try.func41,Try.ntmps41
 go_upto_region 2 with (first|((with_reducible refine aJ (N:=8) rfl ?_);(try (refine a9 (by rfl) ?_;dsimp only));refine Kd.R_lit (Kd.int .u8) _ 5 ?hg (N:=8) ?hd (xs:=([]:List Int)) (inner:=[]) (ok:=fun _=>True) (okp:=fun _=>True) ?hr ?hp (fun _ hk=>hk) trivial (Below.refl _ _) (k7 _) (by simp) ?_;(case hd=>rfl);(case hg=>rfl);(case hr=>exact gs);(case hp=>exact (bD.none _ _));intro B7 w6 Ak hb hg_ hnew_;clear hg_ hnew_;(first|rw [← Aa.o] at Ak|(simp only [Int.reduceToNat] at Ak;rw [← Aa.o] at Ak));have n_:=ak2 (rl Ak (bq HB.o)) (aC (bq HB.o) hb);clear HB;obtain ⟨Ab,HB⟩:=n_;clear hb Ak)|((with_reducible refine bM (b:=.append) (xs:=#[.tmp 8,.tmp 9]) rfl ?_);(try (refine a9 (by rfl) ?_;dsimp only));at_builtin;refine Kd.R_append_rows (Kd.int .u8) (w0:=w) w.heap.size rfl (.tmp 8) (.tmp 9) 22 5 (.int .u8 0) 1 rfl Try.underlying22 eH rfl (by decide) (by omega) B7 B4 l0 _ _ _ (fun _=>True) (fun _=>False) rfl rfl ?aO ?aR (fun _ _ h=>h) (fun _ h=>h.elim) ?aF ?aB ?aS ?aL ?_;(case aR=>exact cq (Kd.C_below Bp.o HB.o));(case aB=>exact (bq HB.o));(case aF=>exact (fun _ _=>trivial));(case aO=>exact (kqR Ab.o));(case aS=>exact (aH (bq HB.o)));(case aL=>have:=B5.o;omega);intro Al w8 ho hb hg hat;rw [← Aj.o] at ho;have n_:=ak2 hb ho;clear HB Ab;obtain ⟨HB,Ac⟩:=n_;clear ho hb hg hat))
 (try simp only [Act.put,kX,kY,kZ])
 go_cut [18] (fun Bq wc=>∃(kq:Nat) (A3:Bool),Bq=.bool A3∧Aside0 (bT.j0 kq a1 l2 A5 A3=some r)∧Aside0 (kq≤k)∧Aside0 (Kd.R (Kd.int .u8) 5 wc w.heap.size (fun _=>True) Al A5)∧Aside0 (Below w.heap.size w wc))
 case first=>
  have H:=B6.o
  clear B6
  replace H:=be H
  obtain ⟨B8,A9,H⟩:=H
  rcases bt B8 with rfl|rfl
  · replace H:=iT H
    have H':=am H
    clear H
    go_wp2_with (first|((with_reducible refine aE (f:=66) rfl ?_);refine gc (some 12) (dA.calls a1 0 255 true _ A9.o) Try.func66 ?_;rintro e w' ⟨rfl,⟨nd,rfl⟩⟩;refine ⟨_,rfl,?_⟩))
    go_meet
    case rel=>exact ⟨_,(decide ((l2.length:Int)>250)),sq,H',⟨by first|omega|exact k7 _⟩,⟨kqR Ac.o⟩,⟨bq HB.o⟩⟩
  replace H:=iF H
  have H':=am H
  clear H
  go_wp2_with (first|((with_reducible refine aE (f:=66) rfl ?_);refine gc (some 12) (dA.calls a1 0 255 false _ A9.o) Try.func66 ?_;rintro e w' ⟨rfl,⟨nd,rfl⟩⟩;refine ⟨_,rfl,?_⟩))
  go_meet
  case rel=>exact ⟨_,(true),sq,H',⟨by first|omega|exact k7 _⟩,⟨kqR Ac.o⟩,⟨bq HB.o⟩⟩
 case rest=>
  clear B6
  try clear c1
  try clear c2
  try clear p2
  try clear c4
  try clear c6
  try clear Bx
  obtain ⟨kq,A3,rfl,HA,By,Ai,HB⟩:=hcut
  cases kq with
  |zero=>exact absurd HA.o (by simp [bT.j0])
  |succ Bz=>
   have H:=HA.o
   clear HA
   simp only [bT.j0] at H
   rcases Decidable.em (A3=true) with Am|Am
   subst Am
   replace H:(some A5)=some r:=by rw [if_pos rfl] at H;exact H
   have z0:=trivial
   rotate_left
   replace Am:=Bool.eq_false_iff.mpr Am
   subst Am
   replace H:(if A5.length<140737488355328 then ((some (A5++[(a1) % 256]:List Int)).bind fun A1=>(if (l2.length:Int)>127 then (if A1.length<140737488355328 then ((some (A1++[129]:List Int)).bind fun A8=>(if A8.length<140737488355328 then ((some (A8++[((l2.length:Int)) % 256]:List Int)).bind fun A6=>(if A6.length+l2.length<140737488355328 then (some (A6++l2)) else (none))) else (none))) else (none)) else (if A1.length<140737488355328 then ((some (A1++[((l2.length:Int)) % 256]:List Int)).bind fun A7=>(if A7.length+l2.length<140737488355328 then (some (A7++l2)) else (none))) else (none)))) else (none))=some r:=by rw [if_neg (show ¬(false=true) by decide)] at H;exact H
   replace H:=nq H
   obtain ⟨Bj,H⟩:=H
   have An:=am Bj
   clear Bj
   replace H:=bs H
   obtain ⟨A1,Ao,H⟩:=H
   replace H:=ig' H
   rcases H with ⟨B9,Ap,H⟩|⟨B9,Ap,H⟩
   have Aq:decide (127<l2.length)=false:=decide_eq_false (by omega)
   clear B9
   replace H:=nq H
   obtain ⟨Bk,H⟩:=H
   have Ar:=am Bk
   clear Bk
   replace H:=bs H
   obtain ⟨A7,As,H⟩:=H
   replace H:=nq H
   obtain ⟨Bl,H⟩:=H
   have At:=am Bl
   clear Bl
   generalize Ad:((A7++l2):List Int)=Br at H
   have Au:=am Ad.symm
   clear Ad
   have z1:=trivial
   rotate_left
   have Aq:decide (127<l2.length)=true:=k8 (by omega)
   clear B9
   replace H:=nq H
   obtain ⟨Bm,H⟩:=H
   have Av:=am Bm
   clear Bm
   replace H:=bs H
   obtain ⟨A8,Aw,H⟩:=H
   replace H:=nq H
   obtain ⟨Bn,H⟩:=H
   have Ax:=am Bn
   clear Bn
   replace H:=bs H
   obtain ⟨A6,Ay,H⟩:=H
   replace H:=nq H
   obtain ⟨Bo,H⟩:=H
   have Az:=am Bo
   clear Bo
   generalize Ae:((A6++l2):List Int)=Bs at H
   have B0:=am Ae.symm
   clear Ae
   have z2:=trivial
   rotate_right
   rotate_right
   all_goals
    obtain rfl:=k6 H
    go_wp2_with (first|((with_reducible refine bM (b:=.append) (xs:=#[.tmp 20,.tmp 23]) rfl ?_);(try (refine a9 (by rfl) ?_;dsimp only));at_builtin;refine Kd.R_append (Kd.int .u8) (w0:=w) w.heap.size rfl (.tmp 20) (.tmp 23) 22 5 (.int .u8 0) 1 rfl Try.underlying22 eH rfl (by decide) (by omega) Al A5 ((a1) % 256) [.int .u8 ((a1) % 256)] (fun _=>True) (fun _=>False) rfl rfl ?aP (fun _ hk=>hk.elim) ?aF ?aO ?aB ?aS ?aL ?_;(case aP=>exact rfl);(case aB=>exact (bq HB.o));(case aF=>exact (fun _ _=>trivial));(case aO=>exact (kqR Ai.o));(case aS=>exact (aH (bq HB.o)));(case aL=>have:=An.o;omega);intro B1 w_ ho hb hg hat;rw [← Ao.o] at ho;have n_:=ak2 hb ho;clear HB Ai;obtain ⟨HB,A4⟩:=n_;clear ho hb hg hat)|((with_reducible refine bM (b:=.append) (xs:=#[.tmp 31,.tmp 35]) rfl ?_);have:=z1;(try (refine a9 (by rfl) ?_;dsimp only));at_builtin;refine Kd.R_append (Kd.int .u8) (w0:=w) w.heap.size rfl (.tmp 31) (.tmp 35) 22 5 (.int .u8 0) 1 rfl Try.underlying22 eH rfl (by decide) (by omega) B1 A1 (((l2.length:Int)) % 256) [.int .u8 (((l2.length:Int)) % 256)] (fun _=>True) (fun _=>False) rfl rfl ?aP (fun _ hk=>hk.elim) ?aF ?aO ?aB ?aS ?aL ?_;(case aP=>exact rfl);(case aB=>exact (bq HB.o));(case aF=>exact (fun _ _=>trivial));(case aO=>exact (kqR A4.o));(case aS=>exact (aH (bq HB.o)));(case aL=>have:=Ar.o;omega);intro Ba w_ ho hb hg hat;rw [← As.o] at ho;have n_:=ak2 hb ho;clear HB A4;obtain ⟨HB,Af⟩:=n_;clear ho hb hg hat)|((with_reducible refine bM (b:=.append) (xs:=#[.tmp 31,.tmp 35]) rfl ?_);have:=z2;(try (refine a9 (by rfl) ?_;dsimp only));at_builtin;refine Kd.R_append (Kd.int .u8) (w0:=w) w.heap.size rfl (.tmp 31) (.tmp 35) 22 5 (.int .u8 0) 1 rfl Try.underlying22 eH rfl (by decide) (by omega) Bb A8 (((l2.length:Int)) % 256) [.int .u8 (((l2.length:Int)) % 256)] (fun _=>True) (fun _=>False) rfl rfl ?aP (fun _ hk=>hk.elim) ?aF ?aO ?aB ?aS ?aL ?_;(case aP=>exact rfl);(case aB=>exact (bq HB.o));(case aF=>exact (fun _ _=>trivial));(case aO=>exact (kqR Ag.o));(case aS=>exact (aH (bq HB.o)));(case aL=>have:=Ax.o;omega);intro Bc w_ ho hb hg hat;rw [← Ay.o] at ho;have n_:=ak2 hb ho;clear HB Ag;obtain ⟨HB,Ah⟩:=n_;clear ho hb hg hat)|((with_reducible refine bM (b:=.append) (xs:=#[.tmp 36,.tmp 37]) rfl ?_);have:=z1;(try (refine a9 (by rfl) ?_;dsimp only));at_builtin;refine Kd.R_append_rows (Kd.int .u8) (w0:=w) w.heap.size rfl (.tmp 36) (.tmp 37) 22 5 (.int .u8 0) 1 rfl Try.underlying22 eH rfl (by decide) (by omega) Ba A7 l2 _ _ _ (fun _=>True) (fun _=>False) rfl rfl ?aO ?aR (fun _ _ h=>h) (fun _ h=>h.elim) ?aF ?aB ?aS ?aL ?_;(case aR=>exact cq (Kd.C_below Bi.o HB.o));(case aB=>exact (bq HB.o));(case aF=>exact (fun _ _=>trivial));(case aO=>exact (kqR Af.o));(case aS=>exact (aH (bq HB.o)));(case aL=>have:=At.o;omega);intro Bt w_ ho hb hg hat;rw [← Au.o] at ho;have n_:=ak2 hb ho;clear HB Af;obtain ⟨HB,B2⟩:=n_;clear ho hb hg hat)|((with_reducible refine bM (b:=.append) (xs:=#[.tmp 36,.tmp 37]) rfl ?_);have:=z2;(try (refine a9 (by rfl) ?_;dsimp only));at_builtin;refine Kd.R_append_rows (Kd.int .u8) (w0:=w) w.heap.size rfl (.tmp 36) (.tmp 37) 22 5 (.int .u8 0) 1 rfl Try.underlying22 eH rfl (by decide) (by omega) Bc A6 l2 _ _ _ (fun _=>True) (fun _=>False) rfl rfl ?aO ?aR (fun _ _ h=>h) (fun _ h=>h.elim) ?aF ?aB ?aS ?aL ?_;(case aR=>exact cq (Kd.C_below Bi.o HB.o));(case aB=>exact (bq HB.o));(case aF=>exact (fun _ _=>trivial));(case aO=>exact (kqR Ah.o));(case aS=>exact (aH (bq HB.o)));(case aL=>have:=Az.o;omega);intro Bu w_ ho hb hg hat;rw [← B0.o] at ho;have n_:=ak2 hb ho;clear HB Ah;obtain ⟨HB,B3⟩:=n_;clear ho hb hg hat)|((with_reducible refine bM (b:=.append) (xs:=#[.tmp 28,.tmp 29]) rfl ?_);(try (refine a9 (by rfl) ?_;dsimp only));at_builtin;refine Kd.R_append (Kd.int .u8) (w0:=w) w.heap.size rfl (.tmp 28) (.tmp 29) 22 5 (.int .u8 0) 1 rfl Try.underlying22 eH rfl (by decide) (by omega) B1 A1 129 [.int .u8 129] (fun _=>True) (fun _=>False) rfl rfl ?aP (fun _ hk=>hk.elim) ?aF ?aO ?aB ?aS ?aL ?_;(case aP=>exact rfl);(case aB=>exact (bq HB.o));(case aF=>exact (fun _ _=>trivial));(case aO=>exact (kqR A4.o));(case aS=>exact (aH (bq HB.o)));(case aL=>have:=Av.o;omega);intro Bb w_ ho hb hg hat;rw [← Aw.o] at ho;have n_:=ak2 hb ho;clear HB A4;obtain ⟨HB,Ag⟩:=n_;clear ho hb hg hat))
    first
    | go_ret
      exact ⟨_,rq,kqR B2.o,bq HB.o⟩
    | go_ret
      exact ⟨_,rq,kqR B3.o,bq HB.o⟩
    | go_ret
      exact ⟨_,rq,kqR Ai.o,bq HB.o⟩
end Go.Proofs.Ytgppikopdpeigaa.XFnPdus
