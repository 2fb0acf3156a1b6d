/- The functions that one law reaches, as Lean functions, with their walks: printed by a program of this seat (wip/tools) out of the translation. -/
import Derived.Test.YtgppikopdpeigaaXFnPdusx0
import Derived.Test.YtgppikopdpeigaaXFnPdusx5
namespace Go.Proofs.Ytgppikopdpeigaa.XFnPdus
open Go.RowKit Go.Proofs.YtgppikopdpeigaaW.PrintWords Go.Proofs.YtgppikopdpeigaaW.PrintLast Go.Proofs.YtgppikopdpeigaaW.PrintMore
attribute [local go_sem] cO cP dH dI cC cD cQ cR
set_option maxHeartbeats 8000000
set_option maxRecDepth 100000
set_option linter.unusedVariables false
set_option linter.unusedSimpArgs false
mutual
def bK.j2:Nat→Int→Int→Int→Int→List (S45)→Option (Bool)
 |0,_,_,_,_,_=>none
 |k+1,A4,A3,A0,A1,A2=>bK.l0 k A2 (A2.length:Int) 0 A4 A3 A0 A1 A2
def bK.l0:Nat→List (S45)→Int→Int→Int→Int→Int→Int→List (S45)→Option (Bool)
 |0,_,_,_,_,_,_,_,_=>none
 |k+1,A6,Ac,A5,A4,A3,A0,A1,A2=>if A5<Ac then (if 0≤A5 then (if A5<(A6.length:Int) then (if A5≥10 then (some false) else ((dD.f k ((aG A6 A5).f0)).bind fun A7=>(if A7=true then ((cT.f k ((aG A6 A5).f1.f0) ((aG A6 A5).f1.f1) ((aG A6 A5).f1.f2) ((aG A6 A5).f1.f3)).bind fun A8=>(if A8=true then (bK.l0 k A6 Ac (wrap64 (A5+1)) A4 A3 A0 A1 A2) else (some false))) else (some false)))) else (none)) else (none)) else ((eV.f A3).bind fun A9=>(some A9))
def bK.j0:Nat→Int→Bool→Int→Int→Int→Int→List (S45)→Option (Bool)
 |0,_,_,_,_,_,_,_=>none
 |k+1,x6,x7,A4,A3,A0,A1,A2=>if x7=true then (if A0=0 then (if A1=0 then (bK.j2 k A4 A3 A0 A1 A2) else (some false)) else (some false)) else (if x6=162 then (bK.j1 k (x6==162) A4 A3 A0 A1 A2) else (bK.j1 k (x6==165) A4 A3 A0 A1 A2))
def bK.j1:Nat→Bool→Int→Int→Int→Int→List (S45)→Option (Bool)
 |0,_,_,_,_,_,_=>none
 |k+1,Ad,A4,A3,A0,A1,A2=>if Ad=true then ((b7.f A0 0 1000).bind fun Aa=>(if Aa=true then ((b7.f A1 0 1000).bind fun Ab=>(if Ab=true then (bK.j2 k A4 A3 A0 A1 A2) else (some false))) else (some false))) else (some false)
end
def bK.f (k:Nat) (A0:Int) (A1:Int) (A2:Int) (A3:Int) (A4:List (S45)):Option (Bool):=if A0=160 then (bK.j0 k A0 (A0==160) A0 A1 A2 A3 A4) else (if A0=161 then (bK.j0 k A0 (A0==161) A0 A1 A2 A3 A4) else (bK.j0 k A0 (A0==163) A0 A1 A2 A3 A4))
theorem bK.calls (k:Nat) (Ae:Int) (Ak:Int) (Af:Int) (Ah:Int) (C2:Option Addr) (C3:Nat) (A2:List (S45)) (r:Bool) (w:World) (Dy:Kd.C k45 w C2 A2.length A2) (Dz:A2.length≤C3) (h:bK.f k Ae Ak Af Ah A2=some r):
 Calls Try.prog 10 #[.agg #[.int .i64 Ae,.int .i64 Ak,.int .i64 Af,.int .i64 Ah,.slice C2 A2.length C3]] w fun e w'=>e=.returned (.bool r)∧Below w.heap.size w w':=by
 have Gq:=Try.underlying26
 have Gr:=Try.underlying45
 have Gs:=Try.underlying43
 have C5:=am Dy
 have Gf:=am Dz
 clear Dy Dz
 have HB:=am (Below.refl w.heap.size w)
 have H:=h
 clear h
 unfold bK.f at H
 have G5:=am H
 clear H
 go_enter Try.func10,Try.ntmps10
 go_upto_block 0 with (first|((with_reducible refine aJ (N:=1) rfl ?_);refine bxe 1 #[.int .i64 Ae,.int .i64 Ak,.int .i64 Af,.int .i64 Ah,.slice C2 A2.length C3] 26 ?_;intro C6 hg w3 hbox hb;have n_:=ak4 (aC (bq HB.o) hb) hbox (bz hg (bq HB.o)) (bz hg (bq HB.o));clear HB;obtain ⟨HB,A0,Gg,A3⟩:=n_;clear hb hbox hg;obtain ⟨Aw,Ax,Ay,Az,B0,B1,B2,B3,B4,B5⟩:=cl5 A0.o))
 (try simp only [Act.put,kX,kY,kZ])
 go_cut [] (fun wc=>∃(kq:Nat),Aside0 (bK.j2 kq Ae Ak Af Ah A2=some r)∧Aside0 (kq≤k)∧Aside0 (wc.heap[C6]? =some (.cells #[.int .i64 Ae,.int .i64 Ak,.int .i64 Af,.int .i64 Ah,(.slice C2 A2.length C3)] 26 (0,0)))∧Aside0 (Below w.heap.size w wc))
 case first=>
  have H:=G5.o
  clear G5
  have G6:=am H
  clear H
  go_upto_if 7 with (fail)
  go_cut [7] (fun v7 wc=>∃(kq:Nat) (Dl:Bool),v7=.bool Dl∧Aside0 (bK.j0 kq Ae Dl Ae Ak Af Ah A2=some r)∧Aside0 (kq≤k)∧Aside0 (wc.heap[C6]? =some (.cells #[.int .i64 Ae,.int .i64 Ak,.int .i64 Af,.int .i64 Ah,(.slice C2 A2.length C3)] 26 (0,0)))∧Aside0 (Below w.heap.size w wc))
  case first=>
   have H:=G6.o
   clear G6
   replace H:=iq H
   rcases H with ⟨-,B6,De,H⟩|⟨c6,B6,De,H⟩
   · (first|rw [B6]|(simp only [aI,aK];rw [B6])|skip)
     have H':=am H
     clear H
     go_wp2
     go_meet
     case rel=>exact ⟨_,((Ae==160)),sq,H',⟨by first|omega|exact k7 _⟩,⟨zq A0.o⟩,⟨bq1 HB.o A3.o⟩⟩
   (first|rw [B6]|(simp only [aI,aK];rw [B6])|skip)
   replace H:=iq' H
   rcases H with ⟨c7,Df,Dg,H⟩|⟨-,Df,Dg,H⟩
   · have H':=am H
     clear H
     go_wp2
     go_meet
     case rel=>exact ⟨_,((Ae==163)),sq,H',⟨by first|omega|exact k7 _⟩,⟨zq A0.o⟩,⟨bq1 HB.o A3.o⟩⟩
   have H':=am H
   clear H
   go_wp2
   go_meet
   case rel=>exact ⟨_,((Ae==161)),sq,H',⟨by first|omega|exact k7 _⟩,⟨zq A0.o⟩,⟨bq1 HB.o A3.o⟩⟩
  case rest=>
   clear G6
   try clear c1
   try clear p2
   try clear c6
   try clear B6
   try clear De
   try clear c7
   try clear Df
   try clear Dg
   try clear Aw
   try clear Ax
   try clear Ay
   try clear Az
   try clear B0
   try clear B1
   try clear B2
   try clear B3
   try clear B4
   try clear B5
   obtain ⟨kq,Dl,rfl,HA,E9,A0,HB⟩:=hcut
   cases kq with
   |zero=>exact absurd HA.o (by simp [bK.j0])
   |succ Ea=>
    have H:=HA.o
    clear HA
    simp only [bK.j0] at H
    rcases Decidable.em (Dl=true) with c8|c8
    · subst c8
      replace H:(if Af=0 then (if Ah=0 then (bK.j2 Ea Ae Ak Af Ah A2) else (some false)) else (some false))=some r:=by rw [if_pos rfl] at H;exact H
      replace H:=iq' H
      rcases H with ⟨c9,Dm,Dn,H⟩|⟨-,Dm,Dn,H⟩
      · obtain rfl:=k6 H
        obtain ⟨B7,B8,B9,Ba,Bb,Bc,Bd,Be,Bf,Bg⟩:=cl5 A0.o
        go_wp2
        go_ret
        exact ⟨rq,bq1 HB.o A3.o⟩
      replace H:=iq' H
      rcases H with ⟨G7,C7,C8,H⟩|⟨-,C7,C8,H⟩
      · obtain rfl:=k6 H
        obtain ⟨Bh,Bi,Bj,Bk,Bl,Bm,Bn,Bo,Bp,Bq⟩:=cl5 A0.o
        go_wp2
        go_ret
        exact ⟨rq,bq1 HB.o A3.o⟩
      have H':=am H
      clear H
      obtain ⟨Br,Bs,Bt,Bu,Bv,Bw,Bx,By,Bz,C0⟩:=cl5 A0.o
      go_wp2
      go_meet
      case rel=>exact ⟨_,H',⟨by have:=E9.o;first|omega|exact k7 _⟩,⟨zq A0.o⟩,⟨bq1 HB.o A3.o⟩⟩
    replace c8:=Bool.eq_false_iff.mpr c8
    subst c8
    replace H:(if Ae=162 then (bK.j1 Ea (Ae==162) Ae Ak Af Ah A2) else (bK.j1 Ea (Ae==165) Ae Ak Af Ah A2))=some r:=by rw [if_neg (show ¬(false=true) by decide)] at H;exact H
    have E0:=am H
    clear H
    go_upto_if 19 with (fail)
    go_cut [19] (fun Gt wc=>∃(kq:Nat) (C1:Bool),Gt=.bool C1∧Aside0 (bK.j1 kq C1 Ae Ak Af Ah A2=some r)∧Aside0 (kq≤Ea)∧Aside0 (wc.heap[C6]? =some (.cells #[.int .i64 Ae,.int .i64 Ak,.int .i64 Af,.int .i64 Ah,(.slice C2 A2.length C3)] 26 (0,0)))∧Aside0 (Below w.heap.size w wc))
    case first=>
     have H:=E0.o
     clear E0
     replace H:=iq' H
     rcases H with ⟨G8,Ar,C9,H⟩|⟨-,Ar,C9,H⟩
     · (first|rw [Ar]|(simp only [aI,aK];rw [Ar])|skip)
       have H':=am H
       clear H
       go_wp2
       go_meet
       case rel=>exact ⟨_,((Ae==165)),sq,H',⟨by have:=E9.o;first|omega|exact k7 _⟩,⟨zq A0.o⟩,⟨bq1 HB.o A3.o⟩⟩
     (first|rw [Ar]|(simp only [aI,aK];rw [Ar])|skip)
     have H':=am H
     clear H
     go_wp2
     go_meet
     case rel=>exact ⟨_,((Ae==162)),sq,H',⟨by have:=E9.o;first|omega|exact k7 _⟩,⟨zq A0.o⟩,⟨bq1 HB.o A3.o⟩⟩
    case rest=>
     clear E0
     try clear c1
     try clear p2
     try clear c6
     try clear B6
     try clear De
     try clear c7
     try clear Df
     try clear Dg
     try clear c8
     try clear c9
     try clear Dm
     try clear Dn
     try clear G7
     try clear C7
     try clear C8
     try clear G8
     try clear Ar
     try clear C9
     try clear Br
     try clear Bs
     try clear Bt
     try clear Bu
     try clear Bv
     try clear Bh
     try clear Bi
     try clear Bj
     try clear Bk
     try clear Bl
     try clear B7
     try clear B8
     try clear B9
     try clear Ba
     try clear Bb
     try clear Aw
     try clear Ax
     try clear Ay
     try clear Az
     try clear B0
     try clear Bw
     try clear Bx
     try clear By
     try clear Bz
     try clear C0
     try clear Bm
     try clear Bn
     try clear Bo
     try clear Bp
     try clear Bq
     try clear Bc
     try clear Bd
     try clear Be
     try clear Bf
     try clear Bg
     try clear B1
     try clear B2
     try clear B3
     try clear B4
     try clear B5
     try clear p2
     obtain ⟨kq,C1,rfl,HA,G9,A0,HB⟩:=hcut
     cases kq with
     |zero=>exact absurd HA.o (by simp [bK.j1])
     |succ Ga=>
      have H:=HA.o
      clear HA
      simp only [bK.j1] at H
      rcases (Decidable.em (C1=true)).symm with E1|E1
      · replace E1:=Bool.eq_false_iff.mpr E1
        subst E1
        replace H:(some false)=some r:=by rw [if_neg (show ¬(false=true) by decide)] at H;exact H
        obtain rfl:=k6 H
        go_wp2
        go_ret
        exact ⟨rq,bq1 HB.o A3.o⟩
      subst E1
      replace H:((b7.f Af 0 1000).bind fun Dh=>(if Dh=true then ((b7.f Ah 0 1000).bind fun Di=>(if Di=true then (bK.j2 Ga Ae Ak Af Ah A2) else (some false))) else (some false)))=some r:=by rw [if_pos rfl] at H;exact H
      replace H:=be H
      obtain ⟨Dh,Gb,H⟩:=H
      cases Dh
      · replace H:=iF H
        obtain rfl:=k6 H
        obtain ⟨Ca,Cb,Cc,Cd,Ce,Cf,Cg,Ch,Ci,Cj⟩:=cl5 A0.o
        go_wp2_with (first|((with_reducible refine aE (f:=36) rfl ?_);refine gc (some 24) (b7.calls Af 0 1000 false _ Gb.o) Try.func36 ?_;rintro e w' ⟨rfl,⟨nd,rfl⟩⟩;refine ⟨_,rfl,?_⟩))
        go_ret
        exact ⟨rq,bq1 HB.o A3.o⟩
      replace H:=iT H
      replace H:=be H
      obtain ⟨Di,Gh,H⟩:=H
      cases Di
      · replace H:=iF H
        obtain rfl:=k6 H
        obtain ⟨Ck,Cl,Cm,Cn,Co,Cp,Cq,Cr,Cs,Ct⟩:=cl5 A0.o
        go_wp2_with (first|((with_reducible refine aE (f:=36) rfl ?_);refine gc (some 24) (b7.calls Af 0 1000 true _ Gb.o) Try.func36 ?_;rintro e w' ⟨rfl,⟨nd,rfl⟩⟩;refine ⟨_,rfl,?_⟩)|(go_at_call 36;refine cm (b7.calls Ah 0 1000 false _ Gh.o) ?_;rintro e w' ⟨rfl,⟨nd,rfl⟩⟩))
        go_ret
        exact ⟨rq,bq1 HB.o A3.o⟩
      replace H:=iT H
      have H':=am H
      clear H
      obtain ⟨Cu,Cv,Cw,Cx,Cy,Cz,D0,D1,D2,D3⟩:=cl5 A0.o
      go_wp2_with (first|((with_reducible refine aE (f:=36) rfl ?_);refine gc (some 24) (b7.calls Af 0 1000 true _ Gb.o) Try.func36 ?_;rintro e w' ⟨rfl,⟨nd,rfl⟩⟩;refine ⟨_,rfl,?_⟩)|(go_at_call 36;refine cm (b7.calls Ah 0 1000 true _ Gh.o) ?_;rintro e w' ⟨rfl,⟨nd,rfl⟩⟩))
      go_meet
      case rel=>exact ⟨_,H',⟨by have:=E9.o;have:=G9.o;first|omega|exact k7 _⟩,⟨zq A0.o⟩,⟨bq1 HB.o A3.o⟩⟩
 case rest=>
  clear G5
  try clear c1
  try clear c2
  try clear p2
  try clear c3
  try clear c6
  try clear B6
  try clear De
  try clear c7
  try clear Df
  try clear Dg
  try clear c8
  try clear c9
  try clear Dm
  try clear Dn
  try clear G7
  try clear C7
  try clear C8
  try clear G8
  try clear Ar
  try clear C9
  try clear E1
  try clear Gu
  try clear Gv
  try clear Br
  try clear Bs
  try clear Bt
  try clear Bu
  try clear Bv
  try clear Bh
  try clear Bi
  try clear Bj
  try clear Bk
  try clear Bl
  try clear B7
  try clear B8
  try clear B9
  try clear Ba
  try clear Bb
  try clear Cu
  try clear Cv
  try clear Cw
  try clear Cx
  try clear Cy
  try clear Ck
  try clear Cl
  try clear Cm
  try clear Cn
  try clear Co
  try clear Ca
  try clear Cb
  try clear Cc
  try clear Cd
  try clear Ce
  try clear Aw
  try clear Ax
  try clear Ay
  try clear Az
  try clear B0
  try clear Bw
  try clear Bx
  try clear By
  try clear Bz
  try clear C0
  try clear Bm
  try clear Bn
  try clear Bo
  try clear Bp
  try clear Bq
  try clear Bc
  try clear Bd
  try clear Be
  try clear Bf
  try clear Bg
  try clear Cz
  try clear D0
  try clear D1
  try clear D2
  try clear D3
  try clear Cp
  try clear Cq
  try clear Cr
  try clear Cs
  try clear Ct
  try clear Cf
  try clear Cg
  try clear Ch
  try clear Ci
  try clear Cj
  try clear B1
  try clear B2
  try clear B3
  try clear B4
  try clear B5
  try clear p2
  obtain ⟨kq,HA,Gi,A0,HB⟩:=hcut
  cases kq with
  |zero=>exact absurd HA.o (by simp [bK.j2])
  |succ Gj=>
   have H:=HA.o
   clear HA
   simp only [bK.j2] at H
   have H':=am H
   clear H
   obtain ⟨Do,Dp,Dq,Dr,Ds,Dt,Du,Dv,Dw,Dx⟩:=cl5 A0.o
   go_wp2
   go_loopg [35] Gj (fun kq Gw w'=>∃(A1:Int),Gw=.int .i64 A1∧Aside0 (bK.l0 kq A2 (A2.length:Int) A1 Ae Ak Af Ah A2=some r)∧Aside0 (kq≤Gj)∧Aside0 (w'.heap[C6]? =some (.cells #[.int .i64 Ae,.int .i64 Ak,.int .i64 Af,.int .i64 Ah,(.slice C2 A2.length C3)] 26 (0,0)))∧Aside0 (Below w.heap.size w w'))
   case atStart=>exact ⟨(0),sq,H',⟨k7 _⟩,⟨zq A0.o⟩,⟨bq1 HB.o A3.o⟩⟩
   case round=>
    clear H'
    try clear c1
    try clear c2
    try clear p2
    try clear c3
    try clear c6
    try clear B6
    try clear De
    try clear c7
    try clear Df
    try clear Dg
    try clear c8
    try clear c9
    try clear Dm
    try clear Dn
    try clear G7
    try clear C7
    try clear C8
    try clear G8
    try clear Ar
    try clear C9
    try clear E1
    try clear Gu
    try clear Gv
    try clear Br
    try clear Bs
    try clear Bt
    try clear Bu
    try clear Bv
    try clear Bh
    try clear Bi
    try clear Bj
    try clear Bk
    try clear Bl
    try clear B7
    try clear B8
    try clear B9
    try clear Ba
    try clear Bb
    try clear Cu
    try clear Cv
    try clear Cw
    try clear Cx
    try clear Cy
    try clear Ck
    try clear Cl
    try clear Cm
    try clear Cn
    try clear Co
    try clear Ca
    try clear Cb
    try clear Cc
    try clear Cd
    try clear Ce
    try clear Do
    try clear Dp
    try clear Dq
    try clear Dr
    try clear Ds
    try clear Aw
    try clear Ax
    try clear Ay
    try clear Az
    try clear B0
    try clear Bw
    try clear Bx
    try clear By
    try clear Bz
    try clear C0
    try clear Bm
    try clear Bn
    try clear Bo
    try clear Bp
    try clear Bq
    try clear Bc
    try clear Bd
    try clear Be
    try clear Bf
    try clear Bg
    try clear Cz
    try clear D0
    try clear D1
    try clear D2
    try clear D3
    try clear Cp
    try clear Cq
    try clear Cr
    try clear Cs
    try clear Ct
    try clear Cf
    try clear Cg
    try clear Ch
    try clear Ci
    try clear Cj
    try clear Dt
    try clear Du
    try clear Dv
    try clear Dw
    try clear Dx
    try clear B1
    try clear B2
    try clear B3
    try clear B4
    try clear B5
    try clear p2
    obtain ⟨A1,rfl,HA,Gk,A0,HB⟩:=hrel
    cases gk with
    |zero=>exact absurd HA.o (by simp [bK.l0])
    |succ k2=>
     have H:=HA.o
     clear HA
     simp only [bK.l0] at H
     replace H:=il' H
     rcases H with ⟨-,E4,H⟩|⟨-,E4,H⟩
     replace H:=be H
     obtain ⟨Gc,Gx,H⟩:=H
     obtain rfl:=k6 H
     obtain ⟨Eb,Ec,Ed,Ee,Ef,Eg,Eh,Ei,Ej,Ek⟩:=cl5 A0.o
     have z0:=trivial
     rotate_left
     replace H:=nl H
     obtain ⟨-,Gl,H⟩:=H
     replace H:=nl H
     obtain ⟨-,Gm,H⟩:=H
     replace H:=ip H
     rcases H with ⟨E5,H⟩|⟨E5,H⟩
     have E6:decide (10≤A1)=true:=k8 E5
     clear E5
     obtain rfl:=k6 H
     have Al:0≤(A1:Int):=oda
     have Am:A1<(A2.length:Int):=oda
     obtain ⟨Dj,As,At,Au,Av,C4,A4,A5,A6,A7,A8,A9,Aa,Ab,Ac⟩:=dR C5.o A1 Al Am
     cases C4
     replace A4:=(HB.o.cell (kW w _ A4)).trans A4
     replace A5:=(HB.o.cell (kW w _ A5)).trans A5
     replace A6:=(HB.o.cell (kW w _ A6)).trans A6
     replace A7:=(HB.o.cell (kW w _ A7)).trans A7
     replace A8:=(HB.o.cell (kW w _ A8)).trans A8
     have Ai:=am Aa
     have Aj:=am A9
     clear Aa A9
     have An:=am Ac
     have Ao:=am Ab
     clear Ac Ab
     replace Al:=eq_true Al
     replace Am:=eq_true Am
     have z0:=trivial
     rotate_left
     have E6:decide (10≤A1)=false:=decide_eq_false E5
     clear E5
     replace H:=be H
     obtain ⟨Gd,Ge,H⟩:=H
     cases Gd
     replace H:=iF H
     obtain rfl:=k6 H
     have Al:0≤(A1:Int):=oda
     have Am:A1<(A2.length:Int):=oda
     obtain ⟨Dj,As,At,Au,Av,C4,A4,A5,A6,A7,A8,A9,Aa,Ab,Ac⟩:=dR C5.o A1 Al Am
     cases C4
     replace A4:=(HB.o.cell (kW w _ A4)).trans A4
     replace A5:=(HB.o.cell (kW w _ A5)).trans A5
     replace A6:=(HB.o.cell (kW w _ A6)).trans A6
     replace A7:=(HB.o.cell (kW w _ A7)).trans A7
     replace A8:=(HB.o.cell (kW w _ A8)).trans A8
     have Ai:=am Aa
     have Aj:=am A9
     clear Aa A9
     have An:=am Ac
     have Ao:=am Ab
     clear Ac Ab
     replace Al:=eq_true Al
     replace Am:=eq_true Am
     have z1:=trivial
     rotate_left
     replace H:=iT H
     replace H:=be H
     obtain ⟨E7,Gn,H⟩:=H
     cases E7
     replace H:=iF H
     obtain rfl:=k6 H
     have Al:0≤(A1:Int):=oda
     have Am:A1<(A2.length:Int):=oda
     obtain ⟨Dj,As,At,Au,Av,C4,A4,A5,A6,A7,A8,A9,Aa,Ab,Ac⟩:=dR C5.o A1 Al Am
     cases C4
     replace A4:=(HB.o.cell (kW w _ A4)).trans A4
     replace A5:=(HB.o.cell (kW w _ A5)).trans A5
     replace A6:=(HB.o.cell (kW w _ A6)).trans A6
     replace A7:=(HB.o.cell (kW w _ A7)).trans A7
     replace A8:=(HB.o.cell (kW w _ A8)).trans A8
     have Ai:=am Aa
     have Aj:=am A9
     clear Aa A9
     have An:=am Ac
     have Ao:=am Ab
     clear Ac Ab
     replace Al:=eq_true Al
     replace Am:=eq_true Am
     have z2:=trivial
     rotate_left
     · replace H:=iT H
       have H':=am H
       clear H
       have Al:0≤(A1:Int):=oda
       have Am:A1<(A2.length:Int):=oda
       obtain ⟨Dj,As,At,Au,Av,C4,A4,A5,A6,A7,A8,A9,Aa,Ab,Ac⟩:=dR C5.o A1 Al Am
       cases C4
       replace A4:=(HB.o.cell (kW w _ A4)).trans A4
       replace A5:=(HB.o.cell (kW w _ A5)).trans A5
       replace A6:=(HB.o.cell (kW w _ A6)).trans A6
       replace A7:=(HB.o.cell (kW w _ A7)).trans A7
       replace A8:=(HB.o.cell (kW w _ A8)).trans A8
       have Ai:=am Aa
       have Aj:=am A9
       clear Aa A9
       have An:=am Ac
       have Ao:=am Ab
       clear Ac Ab
       replace Al:=eq_true Al
       replace Am:=eq_true Am
       go_wp2_with (first|((with_reducible refine aJ (N:=4) rfl ?_);refine bxe 4 #[.slice none 0 0,.int .i64 0,.int .i64 0,.string (⟨#[]⟩:ByteArray),.slice none 0 0] 45 ?_;intro Dk hg Gy hbox hb;have n_:=ak7 (kb A0 hb) (aC (bq1 HB.o A3.o) hb) hbox (bz hg (bq1 HB.o A3.o)) (bz hg (bq1 HB.o A3.o)) (nL hg A0) (nG hg A0);clear A0 HB;obtain ⟨A0,HB,Ad,E8,Ap,Ag,Aq⟩:=n_;clear hb hbox hg;have Go:=Aq.o;have Gp:=Ag.o;obtain ⟨El,Em,En,Eo,Ep,Eq,Er,Es,Et,Eu⟩:=cl5 Ad.o)|((with_reducible refine aQ (t:=45) (p:=4) rfl ?_);refine se 45 4 (s5 Gy Dk (.slice As ((aG A2 A1).f0).length At) (.int .i64 ((aG A2 A1).f1.f0)) (.int .i64 ((aG A2 A1).f1.f1)) (.string ((aG A2 A1).f1.f2)) (.slice Au ((aG A2 A1).f1.f3).length Av)) ?_;intro Gz hw;have n_:=ak3 (sf5 hw A0 Ag) (sc5 hw Ad) (sb hw (bq2 HB.o A3.o Ap.o));clear hw A0 Ad HB;obtain ⟨A0,Ad,HB⟩:=n_;obtain ⟨Ev,Ew,Ex,Ey,Ez,G0,G1,G2,G3,G4⟩:=cl5 Ad.o)|(go_at_call 37;refine cm (dD.calls k2 _ _ ((aG A2 A1).f0) true _ (cq (Kd.C_below Ai.o HB.o)) Aj.o Ge.o) ?_;rintro e w' ⟨rfl,⟨nd,rfl⟩⟩)|(go_at_call 38;refine cm (cT.calls k2 ((aG A2 A1).f1.f0) ((aG A2 A1).f1.f1) ((aG A2 A1).f1.f2) _ _ ((aG A2 A1).f1.f3) true _ (cq (Kd.C_below An.o (bq2 HB.o A3.o Ap.o))) Ao.o Gn.o) ?_;rintro e H0 ⟨rfl,hb⟩;have n_:=ak3 (kb A0 hb) (kb Ad hb) (aC (bq2 HB.o A3.o Ap.o) hb);clear A0 Ad HB;obtain ⟨A0,Ad,HB⟩:=n_;(try clear hb)))
       go_roundg k2
       case measure=>have:=Gi.o;have:=Gk.o;omega
       case rel=>exact ⟨(wrap64 (A1+1)),sq,H',⟨by have:=Gi.o;have:=Gk.o;omega⟩,⟨zq A0.o⟩,⟨bq2 HB.o A3.o Ap.o⟩⟩
     rotate_right
     rotate_right
     rotate_right
     rotate_right
     all_goals
      go_wp2_with (first|((with_reducible refine aE (f:=39) rfl ?_);refine gc (some 57) (eV.calls Ak Gc _ Gx.o) Try.func39 ?_;rintro e w' ⟨rfl,⟨nd,rfl⟩⟩;refine ⟨_,rfl,?_⟩)|((with_reducible refine aJ (N:=4) rfl ?_);refine bxe 4 #[.slice none 0 0,.int .i64 0,.int .i64 0,.string (⟨#[]⟩:ByteArray),.slice none 0 0] 45 ?_;intro Dk hg w_ hbox hb;have n_:=ak7 (kb A0 hb) (aC (bq1 HB.o A3.o) hb) hbox (bz hg (bq1 HB.o A3.o)) (bz hg (bq1 HB.o A3.o)) (nL hg A0) (nG hg A0);clear A0 HB;obtain ⟨A0,HB,Ad,E8,Ap,Ag,Aq⟩:=n_;clear hb hbox hg;have E2:=Aq.o;have E3:=Ag.o;obtain ⟨D4,D5,D6,D7,D8,D9,Da,Db,Dc,Dd⟩:=cl5 Ad.o)|((with_reducible refine aQ (t:=45) (p:=4) rfl ?_);refine se 45 4 (s5 w_ Dk (.slice As ((aG A2 A1).f0).length At) (.int .i64 ((aG A2 A1).f1.f0)) (.int .i64 ((aG A2 A1).f1.f1)) (.string ((aG A2 A1).f1.f2)) (.slice Au ((aG A2 A1).f1.f3).length Av)) ?_;intro w_ hw;have n_:=ak3 (sf5 hw A0 Ag) (sc5 hw Ad) (sb hw (bq2 HB.o A3.o Ap.o));clear hw A0 Ad HB;obtain ⟨A0,Ad,HB⟩:=n_;obtain ⟨D4,D5,D6,D7,D8,D9,Da,Db,Dc,Dd⟩:=cl5 Ad.o)|(go_at_call 37;have:=z1;refine cm (dD.calls k2 _ _ ((aG A2 A1).f0) false _ (cq (Kd.C_below Ai.o HB.o)) Aj.o Ge.o) ?_;rintro e w' ⟨rfl,⟨nd,rfl⟩⟩)|(go_at_call 37;have:=z2;refine cm (dD.calls k2 _ _ ((aG A2 A1).f0) true _ (cq (Kd.C_below Ai.o HB.o)) Aj.o Ge.o) ?_;rintro e w' ⟨rfl,⟨nd,rfl⟩⟩)|(go_at_call 38;refine cm (cT.calls k2 ((aG A2 A1).f1.f0) ((aG A2 A1).f1.f1) ((aG A2 A1).f1.f2) _ _ ((aG A2 A1).f1.f3) false _ (cq (Kd.C_below An.o (bq2 HB.o A3.o Ap.o))) Ao.o Gn.o) ?_;rintro e w_ ⟨rfl,hb⟩;have n_:=ak3 (kb A0 hb) (kb Ad hb) (aC (bq2 HB.o A3.o Ap.o) hb);clear A0 Ad HB;obtain ⟨A0,Ad,HB⟩:=n_;(try clear hb)))
      first
      | go_ret
        exact ⟨rq,bq2 HB.o A3.o Ap.o⟩
      | go_ret
        exact ⟨rq,bq1 HB.o A3.o⟩
end Go.Proofs.Ytgppikopdpeigaa.XFnPdus
