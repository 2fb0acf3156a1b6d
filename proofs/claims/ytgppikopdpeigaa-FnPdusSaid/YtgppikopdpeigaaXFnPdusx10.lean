/- The functions that one law reaches, as Lean functions, with their walks: printed by a program of this seat (wip/tools) out of the translation. -/
import Derived.Test.YtgppikopdpeigaaXFnPdusx0
import Derived.Test.YtgppikopdpeigaaXFnPdusx1
namespace Go.Proofs.Ytgppikopdpeigaa.XFnPdus
open Go.RowKit Go.Proofs.YtgppikopdpeigaaW.PrintWords Go.Proofs.YtgppikopdpeigaaW.PrintLast Go.Proofs.YtgppikopdpeigaaW.PrintMore
attribute [local go_sem] cO cP dH dI cC cD cQ cR
set_option linter.unusedVariables false
set_option linter.unusedSimpArgs false
set_option maxHeartbeats 8000000
set_option maxRecDepth 100000
def dA.f (a0:Int) (a1:Int) (a2:Int):Option (Bool):=if a0≥a1 then (some (decide (a0≤a2))) else (some false)
theorem dA.calls (a0:Int) (a1:Int) (a2:Int) (r:Bool) (w:World) (h:dA.f a0 a1 a2=some r):
 Calls Try.prog 66 #[.int .i64 a0,.int .i64 a1,.int .i64 a2] w fun e w'=>e=.returned (.bool r)∧Drawn0 w w':=by
 have H:=h
 clear h
 unfold dA.f at H
 replace H:=ip H
 rcases H with ⟨c4,H⟩|⟨c4,H⟩
 have A0:decide (a1≤a0)=true:=k8 c4
 clear c4
 rotate_left
 have A0:decide (a1≤a0)=false:=decide_eq_false c4
 clear c4
 rotate_right
 all_goals
  obtain rfl:=k6 H
  go_enter Try.func66,Try.ntmps66
  go_wp2
  go_ret
  exact ⟨by first|rfl|(simp;done)|(simp [*];done),by repeat (first|exact Drawn0.refl _|apply Drawn0.step)⟩
def cI.l0:Nat→List Int→Int→Option (Bool)
 |0,_,_=>none
 |k+1,x0,x3=>if x3<(x0.length:Int) then (if 0≤x3 then ((dA.f (rd x0 x3) 0 100000).bind fun A0=>(if A0=true then (cI.l0 k x0 (wrap64 (x3+1))) else (some false))) else (none)) else ((dA.f (x0.length:Int) 1 10).bind fun A1=>(some A1))
def cI.f (k:Nat) (l0:List Int):Option (Bool):=cI.l0 k l0 0
theorem cI.calls (k:Nat) (A0:Option Addr) (c0:Nat) (l0:List Int) (r:Bool) (w:World) (Ac:Kd.C (Kd.int .i64) w A0 l0.length l0) (Ad:l0.length≤c0) (h:cI.f k l0=some r):
 Calls Try.prog 63 #[.slice A0 l0.length c0] w fun e w'=>e=.returned (.bool r)∧Drawn0 w w':=by
 have Ae:=am Ac
 have Ah:=am Ad
 clear Ac Ad
 have H:=h
 clear h
 unfold cI.f at H
 have H':=am H
 clear H
 go_enter Try.func63,Try.ntmps63
 go_wp2
 go_loopg [3] k (fun kq v3 w'=>∃(A1:Int),v3=.int .i64 A1∧Aside0 (cI.l0 kq l0 A1=some r)∧Aside0 (kq≤k)∧Drawn0 w w')
 case atStart=>exact ⟨(0),sq,H',⟨k7 _⟩,by repeat (first|exact Drawn0.refl _|apply Drawn0.step)⟩
 case round=>
  clear H'
  obtain ⟨A1,rfl,HA,Af,⟨m1,rfl⟩⟩:=hrel
  cases gk with
  |zero=>exact absurd HA.o (by simp [cI.l0])
  |succ k1=>
   have H:=HA.o
   clear HA
   simp only [cI.l0] at H
   replace H:=il' H
   rcases H with ⟨-,A9,H⟩|⟨-,A9,H⟩
   · replace H:=be H
     obtain ⟨Aa,A6,H⟩:=H
     obtain rfl:=k6 H
     go_wp2_with (first|((with_reducible refine aE (f:=66) rfl ?_);refine gc (some 18) (dA.calls (l0.length:Int) 1 10 Aa _ A6.o) Try.func66 ?_;rintro e w' ⟨rfl,⟨nd,rfl⟩⟩;refine ⟨_,rfl,?_⟩))
     go_ret
     exact ⟨by first|rfl|(simp;done)|(simp [*];done),by repeat (first|exact Drawn0.refl _|apply Drawn0.step)⟩
   replace H:=nl H
   obtain ⟨-,Ag,H⟩:=H
   replace H:=be H
   obtain ⟨Ab,A4,H⟩:=H
   cases Ab
   · replace H:=iF H
     obtain rfl:=k6 H
     have A2:0≤(A1:Int):=oda
     have A3:A1<(l0.length:Int):=oda
     obtain ⟨A8,A7,A5⟩:=Kd.at_int Ae.o A1 A2 A3
     cases A7
     replace A2:=eq_true A2
     replace A3:=eq_true A3
     go_wp2_with (first|((with_reducible refine aE (f:=66) rfl ?_);refine gc (some 14) (dA.calls (rd l0 A1) 0 100000 false _ A4.o) Try.func66 ?_;rintro e w' ⟨rfl,⟨nd,rfl⟩⟩;refine ⟨_,rfl,?_⟩))
     go_ret
     exact ⟨by first|rfl|(simp;done)|(simp [*];done),by repeat (first|exact Drawn0.refl _|apply Drawn0.step)⟩
   replace H:=iT H
   have H':=am H
   clear H
   have A2:0≤(A1:Int):=oda
   have A3:A1<(l0.length:Int):=oda
   obtain ⟨A8,A7,A5⟩:=Kd.at_int Ae.o A1 A2 A3
   cases A7
   replace A2:=eq_true A2
   replace A3:=eq_true A3
   go_wp2_with (first|((with_reducible refine aE (f:=66) rfl ?_);refine gc (some 14) (dA.calls (rd l0 A1) 0 100000 true _ A4.o) Try.func66 ?_;rintro e w' ⟨rfl,⟨nd,rfl⟩⟩;refine ⟨_,rfl,?_⟩))
   go_roundg k1
   case measure=>have:=Af.o;omega
   case rel=>exact ⟨(wrap64 (A1+1)),sq,H',⟨by have:=Af.o;omega⟩,by repeat (first|exact Drawn0.refl _|apply Drawn0.step)⟩
def b5.j0:Nat→Int→Bool→Int→Int→ByteArray→List Int→Option (Bool)
 |0,_,_,_,_,_,_=>none
 |k+1,x4,x5,A3,A0,A1,A2=>if x5=true then (if A0=0 then (if A1.toList=([]:List UInt8) then (some ((A2.length:Int)==0)) else (some false)) else (some false)) else (if x4=2 then ((cN.f A0).bind fun A4=>(if A4=A0 then (if A1.toList=([]:List UInt8) then (some ((A2.length:Int)==0)) else (some false)) else (some false))) else (if x4=4 then (if (A1.size:Int)≤20 then (if A0=0 then (some ((A2.length:Int)==0)) else (some false)) else (some false)) else (if x4=6 then ((cI.f k A2).bind fun A5=>(if A5=true then (if A0=0 then (some (A1.toList==([]:List UInt8))) else (some false)) else (some false))) else (some false))))
def b5.f (k:Nat) (A0:Int) (A1:Int) (A2:ByteArray) (A3:List Int):Option (Bool):=if A0=5 then (b5.j0 k A0 (A0==5) A0 A1 A2 A3) else (if A0=128 then (b5.j0 k A0 (A0==128) A0 A1 A2 A3) else (b5.j0 k A0 (A0==130) A0 A1 A2 A3))
theorem b5.calls (k:Nat) (A2:Int) (A3:Int) (A4:ByteArray) (Af:Option Addr) (Ag:Nat) (A1:List Int) (r:Bool) (w:World) (Al:Kd.C (Kd.int .i64) w Af A1.length A1) (Am:A1.length≤Ag) (h:b5.f k A2 A3 A4 A1=some r):
 Calls Try.prog 64 #[.agg #[.int .i64 A2,.int .i64 A3,.string A4,.slice Af A1.length Ag]] w fun e w'=>e=.returned (.bool r)∧Below w.heap.size w w':=by
 have E6:=Try.underlying43
 have An:=am Al
 have Ao:=am Am
 clear Al Am
 have HB:=am (Below.refl w.heap.size w)
 have H:=h
 clear h
 unfold b5.f at H
 have Dx:=am H
 clear H
 go_enter Try.func64,Try.ntmps64
 go_upto_if 5 with (first|((with_reducible refine aJ (N:=1) rfl ?_);(try (refine a9 (by rfl) ?_;dsimp only));refine bxe 1 #[.int .i64 A2,.int .i64 A3,.string A4,.slice Af A1.length Ag] 43 ?_;intro Ai hg w3 hbox hb;have n_:=ak4 (aC (bq HB.o) hb) hbox (bz hg (bq HB.o)) (bz hg (bq HB.o));clear HB;obtain ⟨HB,A0,Ap,A5⟩:=n_;clear hb hbox hg;obtain ⟨A6,A7,A8,A9,Aa,Ab,Ac,Ad⟩:=cl4 A0.o))
 repeat (go_quiet (first|((with_reducible refine aJ (N:=1) rfl ?_);(try (refine a9 (by rfl) ?_;dsimp only));refine bxe 1 #[.int .i64 A2,.int .i64 A3,.string A4,.slice Af A1.length Ag] 43 ?_;intro Ai hg w3 hbox hb;have n_:=ak4 (aC (bq HB.o) hb) hbox (bz hg (bq HB.o)) (bz hg (bq HB.o));clear HB;obtain ⟨HB,A0,Ap,A5⟩:=n_;clear hb hbox hg;obtain ⟨A6,A7,A8,A9,Aa,Ab,Ac,Ad⟩:=cl4 A0.o));go_upto_if 5 with (first|((with_reducible refine aJ (N:=1) rfl ?_);(try (refine a9 (by rfl) ?_;dsimp only));refine bxe 1 #[.int .i64 A2,.int .i64 A3,.string A4,.slice Af A1.length Ag] 43 ?_;intro Ai hg w3 hbox hb;have n_:=ak4 (aC (bq HB.o) hb) hbox (bz hg (bq HB.o)) (bz hg (bq HB.o));clear HB;obtain ⟨HB,A0,Ap,A5⟩:=n_;clear hb hbox hg;obtain ⟨A6,A7,A8,A9,Aa,Ab,Ac,Ad⟩:=cl4 A0.o)))
 (try simp only [Act.put,kX,kY,kZ])
 go_cut [5] (fun v5 wc=>∃(kq:Nat) (Ak:Bool),v5=.bool Ak∧Aside0 (b5.j0 kq A2 Ak A2 A3 A4 A1=some r)∧Aside0 (kq≤k)∧Aside0 (wc.heap[Ai]? =some (.cells #[.int .i64 A2,.int .i64 A3,.string A4,(.slice Af A1.length Ag)] 43 (0,0)))∧Aside0 (Below w.heap.size w wc))
 case first=>
  have H:=Dx.o
  clear Dx
  replace H:=iq H
  rcases H with ⟨-,Ah,Aq,H⟩|⟨c5,Ah,Aq,H⟩
  · (first|rw [Ah]|(simp only [aI,aK];rw [Ah])|skip)
    have H':=am H
    clear H
    go_wp2
    go_meet
    case rel=>exact ⟨_,((A2==5)),sq,H',⟨by first|omega|exact k7 _⟩,⟨zq A0.o⟩,⟨bq1 HB.o A5.o⟩⟩
  (first|rw [Ah]|(simp only [aI,aK];rw [Ah])|skip)
  replace H:=iq' H
  rcases H with ⟨c6,Ar,As,H⟩|⟨-,Ar,As,H⟩
  · have H':=am H
    clear H
    go_wp2
    go_meet
    case rel=>exact ⟨_,((A2==130)),sq,H',⟨by first|omega|exact k7 _⟩,⟨zq A0.o⟩,⟨bq1 HB.o A5.o⟩⟩
  have H':=am H
  clear H
  go_wp2
  go_meet
  case rel=>exact ⟨_,((A2==128)),sq,H',⟨by first|omega|exact k7 _⟩,⟨zq A0.o⟩,⟨bq1 HB.o A5.o⟩⟩
 case rest=>
  clear Dx
  try clear p2
  try clear c5
  try clear Ah
  try clear Aq
  try clear c6
  try clear Ar
  try clear As
  try clear A6
  try clear A7
  try clear A8
  try clear A9
  try clear Aa
  try clear Ab
  try clear Ac
  try clear Ad
  obtain ⟨kq,Ak,rfl,HA,E7,A0,HB⟩:=hcut
  cases kq with
  |zero=>exact absurd HA.o (by simp [b5.j0])
  |succ Dy=>
   have H:=HA.o
   clear HA
   simp only [b5.j0] at H
   rcases Decidable.em (Ak=true) with c7|c7
   subst c7
   replace H:(if A3=0 then (if A4.toList=([]:List UInt8) then (some ((A1.length:Int)==0)) else (some false)) else (some false))=some r:=by rw [if_pos rfl] at H;exact H
   replace H:=iq' H
   rcases H with ⟨c8,Dz,E0,H⟩|⟨-,Dz,E0,H⟩
   obtain rfl:=k6 H
   obtain ⟨B9,Ba,Bb,Bc,Bd,Be,Bf,Bg⟩:=cl4 A0.o
   have z0:=trivial
   rotate_left
   replace H:=iq' H
   rcases H with ⟨c9,E1,E2,H⟩|⟨-,E1,E2,H⟩
   obtain rfl:=k6 H
   obtain ⟨Bh,Bi,Bj,Bk,Bl,Bm,Bn,Bo⟩:=cl4 A0.o
   have z0:=trivial
   rotate_left
   obtain rfl:=k6 H
   obtain ⟨Bp,Bq,Br,Bs,Bt,Bu,Bv,Bw⟩:=cl4 A0.o
   have z0:=trivial
   rotate_right
   rotate_right
   rotate_left 3
   replace c7:=Bool.eq_false_iff.mpr c7
   subst c7
   replace H:(if A2=2 then ((cN.f A3).bind fun Ae=>(if Ae=A3 then (if A4.toList=([]:List UInt8) then (some ((A1.length:Int)==0)) else (some false)) else (some false))) else (if A2=4 then (if (A4.size:Int)≤20 then (if A3=0 then (some ((A1.length:Int)==0)) else (some false)) else (some false)) else (if A2=6 then ((cI.f Dy A1).bind fun Aj=>(if Aj=true then (if A3=0 then (some (A4.toList==([]:List UInt8))) else (some false)) else (some false))) else (some false))))=some r:=by rw [if_neg (show ¬(false=true) by decide)] at H;exact H
   replace H:=iq H
   rcases H with ⟨-,At,Au,H⟩|⟨E8,At,Au,H⟩
   · replace H:=be H
     obtain ⟨Ae,E4,H⟩:=H
     replace H:=iq' H
     rcases H with ⟨E9,Av,Aw,H⟩|⟨-,Av,Aw,H⟩
     obtain rfl:=k6 H
     obtain ⟨Bx,By,Bz,C0,C1,C2,C3,C4⟩:=cl4 A0.o
     try go_wp2
     rotate_left
     replace H:=iq' H
     rcases H with ⟨Ea,Ax,Ay,H⟩|⟨-,Ax,Ay,H⟩
     obtain rfl:=k6 H
     obtain ⟨C5,C6,C7,C8,C9,Ca,Cb,Cc⟩:=cl4 A0.o
     try go_wp2
     rotate_left
     obtain rfl:=k6 H
     obtain ⟨Cd,Ce,Cf,Cg,Ch,Ci,Cj,Ck⟩:=cl4 A0.o
     try go_wp2
     rotate_right
     rotate_right
     all_goals
      repeat (go_quiet (first|(go_at_call 54;(with_reducible refine (cN.calls A3 Ae _ E4.o).mono ?_);rintro e w' ⟨rfl,⟨nd,rfl⟩⟩;(try first|exact ⟨rfl,_,World.drewN_drewN _ _ _⟩|exact ⟨rfl,_,Eq.trans (World.drewN_drewN _ _ _) (congrArg (World.drewN _) (Nat.add_assoc _ _ _))⟩)));try go_wp2_with (first|(go_at_call 54;(with_reducible refine (cN.calls A3 Ae _ E4.o).mono ?_);rintro e w' ⟨rfl,⟨nd,rfl⟩⟩;(try first|exact ⟨rfl,_,World.drewN_drewN _ _ _⟩|exact ⟨rfl,_,Eq.trans (World.drewN_drewN _ _ _) (congrArg (World.drewN _) (Nat.add_assoc _ _ _))⟩))))
      go_ret
      exact ⟨rq,bq1 HB.o A5.o⟩
   replace H:=iq H
   rcases H with ⟨-,Az,B0,H⟩|⟨Eb,Az,B0,H⟩
   replace H:=il' H
   rcases H with ⟨E3,B1,H⟩|⟨E3,B1,H⟩
   have B2:decide (A4.size≤20)=false:=decide_eq_false (by omega)
   clear E3
   obtain rfl:=k6 H
   obtain ⟨Cl,Cm,Cn,Co,Cp,Cq,Cr,Cs⟩:=cl4 A0.o
   have z0:=trivial
   rotate_left
   have B2:decide (A4.size≤20)=true:=k8 (by omega)
   clear E3
   replace H:=iq' H
   rcases H with ⟨Ec,B3,B4,H⟩|⟨-,B3,B4,H⟩
   obtain rfl:=k6 H
   obtain ⟨Ct,Cu,Cv,Cw,Cx,Cy,Cz,D0⟩:=cl4 A0.o
   have z0:=trivial
   rotate_left
   obtain rfl:=k6 H
   obtain ⟨D1,D2,D3,D4,D5,D6,D7,D8⟩:=cl4 A0.o
   have z0:=trivial
   rotate_right
   rotate_right
   rotate_left 3
   replace H:=iq' H
   rcases H with ⟨Ed,B5,B6,H⟩|⟨-,B5,B6,H⟩
   · obtain rfl:=k6 H
     go_wp2
     go_ret
     exact ⟨rq,bq1 HB.o A5.o⟩
   replace H:=be H
   obtain ⟨Aj,E5,H⟩:=H
   cases Aj
   replace H:=iF H
   obtain rfl:=k6 H
   obtain ⟨D9,Da,Db,Dc,Dd,De,Df,Dg⟩:=cl4 A0.o
   have z1:=trivial
   rotate_left
   replace H:=iT H
   replace H:=iq' H
   rcases H with ⟨Ee,B7,B8,H⟩|⟨-,B7,B8,H⟩
   obtain rfl:=k6 H
   obtain ⟨Dh,Di,Dj,Dk,Dl,Dm,Dn,Do⟩:=cl4 A0.o
   have z2:=trivial
   rotate_left
   obtain rfl:=k6 H
   obtain ⟨Dp,Dq,Dr,Ds,Dt,Du,Dv,Dw⟩:=cl4 A0.o
   have z2:=trivial
   rotate_right
   rotate_right
   rotate_right 3
   rotate_right 3
   all_goals
    go_wp2_with (first|(go_at_call 63;have:=z1;refine cm (cI.calls Dy _ _ A1 false _ (cq (Kd.C_below An.o HB.o)) Ao.o E5.o) ?_;rintro e w' ⟨rfl,⟨nd,rfl⟩⟩;(try first|exact ⟨rfl,_,World.drewN_drewN _ _ _⟩|exact ⟨rfl,_,Eq.trans (World.drewN_drewN _ _ _) (congrArg (World.drewN _) (Nat.add_assoc _ _ _))⟩))|(go_at_call 63;have:=z2;refine cm (cI.calls Dy _ _ A1 true _ (cq (Kd.C_below An.o HB.o)) Ao.o E5.o) ?_;rintro e w' ⟨rfl,⟨nd,rfl⟩⟩;(try first|exact ⟨rfl,_,World.drewN_drewN _ _ _⟩|exact ⟨rfl,_,Eq.trans (World.drewN_drewN _ _ _) (congrArg (World.drewN _) (Nat.add_assoc _ _ _))⟩)))
    go_ret
    exact ⟨rq,bq1 HB.o A5.o⟩
def eM.f (a0:Int):Option (Bool):=if a0=160 then (some true) else (if a0=161 then (some true) else (if a0=162 then (some true) else (if a0=163 then (some true) else (some (a0==165)))))
theorem eM.calls (a0:Int) (r:Bool) (w:World) (h:eM.f a0=some r):
 Calls Try.prog 65 #[.int .i64 a0] w fun e w'=>e=.returned (.bool r)∧Drawn0 w w':=by
 have H:=h
 clear h
 unfold eM.f at H
 replace H:=iq H
 rcases H with ⟨-,A0,A1,H⟩|⟨c2,A0,A1,H⟩
 rotate_left
 replace H:=iq H
 rcases H with ⟨-,A2,A3,H⟩|⟨c3,A2,A3,H⟩
 rotate_left
 replace H:=iq H
 rcases H with ⟨-,A4,A5,H⟩|⟨c4,A4,A5,H⟩
 rotate_left
 replace H:=iq' H
 rcases H with ⟨c5,A6,A7,H⟩|⟨-,A6,A7,H⟩
 rotate_left
 rotate_right
 rotate_right
 rotate_right
 rotate_right
 all_goals
  obtain rfl:=k6 H
  go_enter Try.func65,Try.ntmps65
  go_wp2
  go_ret
  exact ⟨by first|rfl|(simp;done)|(simp [*];done),by repeat (first|exact Drawn0.refl _|apply Drawn0.step)⟩
end Go.Proofs.Ytgppikopdpeigaa.XFnPdus
