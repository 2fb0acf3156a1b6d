/- The functions that one law reaches, as Lean functions, with their walks: printed by a program of this seat (wip/tools) out of the translation. -/
import Derived.Test.YtgppikopdpeigaaXFnPdusx0
import Derived.Test.YtgppikopdpeigaaXFnPdusx1
namespace Go.Proofs.Ytgppikopdpeigaa.XFnPdus
open Go.RowKit Go.Proofs.YtgppikopdpeigaaW.PrintWords Go.Proofs.YtgppikopdpeigaaW.PrintLast Go.Proofs.YtgppikopdpeigaaW.PrintMore
attribute [local go_sem] cO cP dH dI cC cD cQ cR
set_option maxHeartbeats 8000000
set_option maxRecDepth 100000
set_option linter.unusedVariables false
set_option linter.unusedSimpArgs false
mutual
def bH.j0:Nat→Bool→List Int→Int→Int→Int→Int→Int→Int→Option (Int × Int × Int × Int × (List (S45)) × Int × Int)
 |0,_,_,_,_,_,_,_,_=>none
 |k+1,Ad,A2,A5,A6,A0,A1,A3,A4=>if Ad=true then ((a6.f A2 A5 A6 4).bind fun A9=>((a6.f A2 A9.2.1 A9.2.2 5).bind fun Aa=>(bH.j1 k A2 Aa.2.1 Aa.2.2 A0 A1 A9.1 Aa.1))) else (bH.j1 k A2 A5 A6 A0 A1 A3 A4)
def bH.j1:Nat→List Int→Int→Int→Int→Int→Int→Int→Option (Int × Int × Int × Int × (List (S45)) × Int × Int)
 |0,_,_,_,_,_,_,_=>none
 |k+1,A2,A5,A6,A0,A1,A3,A4=>(a6.f A2 A5 A6 4).bind fun Ab=>(bH.l0 k Ab.1 A2 Ab.2.1 Ab.2.2 A0 A1 A3 A4 ([]:List (S45)))
def bH.l0:Nat→Int→List Int→Int→Int→Int→Int→Int→Int→List (S45)→Option (Int × Int × Int × Int × (List (S45)) × Int × Int)
 |0,_,_,_,_,_,_,_,_,_=>none
 |k+1,x4,A2,A5,A6,A0,A1,A3,A4,A8=>if x4>0 then ((cM.f k A2 A5 A6).bind fun Ac=>((d6.f k A2 Ac.2.1 Ac.2.2).bind fun A7=>(if A8.length<1759218604441 then (bH.l0 k (wrap64 (x4 - 1)) A2 A7.2.2.2.2.1 A7.2.2.2.2.2 A0 A1 A3 A4 (A8++[(⟨Ac.1,(⟨A7.1,A7.2.1,A7.2.2.1,A7.2.2.2.1⟩:S43)⟩:S45)])) else (none)))) else (some (A0,A1,A3,A4,A8,A5,A6))
end
def bH.f (k:Nat) (A2:List Int) (A4:Int) (A5:Int):Option (Int × Int × Int × Int × (List (S45)) × Int × Int):=(cY.f A2 A4 A5 (([160,161,162,163,165]:List Int))).bind fun A0=>((eP.f A2 A0.2.1 A0.2.2).bind fun A1=>((cN.f A1.1).bind fun A3=>(if A0.1=162 then (bH.j0 k true A2 A1.2.1 A1.2.2 A0.1 A3 0 0) else (bH.j0 k (A0.1==165) A2 A1.2.1 A1.2.2 A0.1 A3 0 0))))
def bH.T8:Bool × List (List Nat × List Nat):=(true,[([],[]),([0],[0]),([],[]),([2],[2]),([],[]),([4,3],[4]),([3,5],[3,5]),([6],[6]),([1,7,5],[1,7]),([0,1,2,3,4,5,6,7,8],[]),([9,8,8,0,1,2,3,4,5,6,7,8],[8,9])])
def bH.B8:List Nat:=[0,1,0,4,0,28,60,124,255,511,1023]
theorem bH.tab8:eR .any (fM Try.f25 8)=bH.T8:=by kernel_rfl
theorem bH.bits8:eJ bH.T8.2 bH.B8=true:=by kernel_rfl
theorem bH.calls (k:Nat) (g:Nat) (Ab:List Int) (Ci:Int) (Cj:Int) (r1:Int) (r2:Int) (r3:Int) (r4:Int) (r5:List (S45)) (r6:Int) (r7:Int) (w0 w:World) (hI:aD w0 w g Ab Ci Cj) (hB:Below w0.heap.size w0 w) (h:bH.f k Ab Ci Cj=some (r1,r2,r3,r4,r5,r6,r7)):
 Calls Try.prog 25 #[.pointer (some ⟨g,0,none⟩)] w fun e w'=>∃Eq:Value,e=.returned (.agg #[.int .i64 r1,.int .i64 r2,.int .i64 r3,.int .i64 r4,Eq])∧Kd.S k45 45 w' w.heap.size (fun _=>True) Eq r5∧aD w0 w' g Ab r6 r7∧Below w0.heap.size w0 w'∧KeepBut w w' g none:=by
 have Gn:=Try.underlying26
 have Go:=Try.underlying45
 have A8:=am hI
 have HK:=am (KeepBut.refl w g none)
 have HL:=am hB.size
 clear hI
 have Er:=am hB.size
 have HB:=am hB
 clear hB
 have H:=h
 clear h
 unfold bH.f at H
 generalize Cs:((([160,161,162,163,165]:List Int)):List Int)=D8 at H
 have Ct:=am Cs.symm
 clear Cs
 replace H:=be H
 obtain ⟨⟨Ac,Cl,Cm⟩,Gp,H⟩:=H
 try dsimp only at H
 replace H:=be H
 obtain ⟨⟨Cu,Ao,Ap⟩,Gq,H⟩:=H
 try dsimp only at H
 replace H:=be H
 obtain ⟨Ag,Gr,H⟩:=H
 have Em:=am H
 clear H
 go_enter Try.func25,Try.ntmps25
 go_upto_region 2 with (first|((with_reducible refine aJ (N:=2) rfl ?_);refine bxe 2 #[.int .i64 0,.int .i64 0,.int .i64 0,.int .i64 0,.slice none 0 0] 26 ?_;intro Ah hg w6 hbox hb;have n_:=ak8 (aD.below (aD.q0 A8.o) hb) (KeepBut.trans (kp0 HK.o) (KeepBut.of_below hb g none) (.inl rfl)) (aC (bq1 HB.o (aD.ge A8.o)) hb) hbox ((by rw [hg];exact (a8 (w:=w) (g:=g) (row:=none) (kp0 HK.o)):w.heap.size≤Ah)) ((Nat.le_trans Er.o (by rw [hg];exact (a8 (w:=w) (g:=g) (row:=none) (kp0 HK.o)):w.heap.size≤Ah):w0.heap.size≤Ah)) ((by rw [hg];exact Nat.ne_of_lt (aD.lt (show aD w0 _ g Ab Ci Cj from aD.q0 A8.o)):g≠Ah)) ((by rw [hg];exact Nat.ne_of_gt (aD.lt (show aD w0 _ g Ab Ci Cj from aD.q0 A8.o)):Ah≠g));clear A8 HK HB;obtain ⟨A8,HK,HB,A2,A9,Ad,A4,Am⟩:=n_;clear hb hbox hg)|((with_reducible refine aJ (N:=6) rfl ?_);refine Kd.R_lit (Kd.int .i64) _ 3 ?hg (N:=6) ?hd (xs:=([160,161,162,163,165]:List Int)) (inner:=[.int .i64 160,.int .i64 161,.int .i64 162,.int .i64 163,.int .i64 165]) (ok:=fun _=>True) (okp:=fun _=>True) ?hr ?hp (fun _ hk=>hk) trivial (Below.refl _ _) (k7 _) (by simp) ?_;(case hd=>rfl);(case hg=>rfl);(case hr=>exact gs);(case hp=>exact (bD.one (ri 160) (bD.one (ri 161) (bD.one (ri 162) (bD.one (ri 163) (bD.one (ri 165) (bD.none _ _)))))));intro Gs w7 Dc hb hg_ hnew_;clear hg_ hnew_;(first|rw [← Ct.o] at Dc|(simp only [Int.reduceToNat] at Dc;rw [← Ct.o] at Dc));have n_:=ak5 (Kd.R_lower Dc (a8 (w:=w) (g:=g) (row:=none) (kp1 HK.o A9.o))) (aD.below (aD.q1 A8.o A4.o) hb) (kb A2 hb) (KeepBut.trans (kp1 HK.o A9.o) (KeepBut.of_below hb g none) (.inl rfl)) (aC (bq2 HB.o (aD.ge A8.o) Ad.o) hb);clear A8 A2 HK HB;obtain ⟨Aj,A8,A2,HK,HB⟩:=n_;clear hb Dc;obtain ⟨Gt,Gu,Gv⟩:=Kd.R_slice Aj.o;subst Gv)|((with_reducible refine aE (f:=48) rfl ?_);refine gc (some 7) (cY.calls g Ab Ci Cj _ _ D8 Ac Cl Cm w0 _ (aD.q1 A8.o A4.o) (bq2 HB.o (aD.ge A8.o) Ad.o) (cq (Kd.R_reads' Aj.o).2.2) ((Kd.R_reads' Aj.o).2.1) (e5 (aD.own_ne A8.o Aj.o (by decide))) Gp.o) Try.func48 ?_;rintro e Ha ⟨rfl,hi,hb,hk⟩;refine ⟨_,rfl,?_⟩;have n_:=ak5 (KeepBut.blk hk (zb A2.o) Am.o (by simp)) (Kd.R_mono (Kd.R_keep (aD.apart (show aD w0 _ g Ab Ci Cj from aD.q1 A8.o A4.o) (kqR Aj.o) (by decide)) hk (fun _ h=>h.2)) (fun _ h=>h.1)) (KeepBut.trans (kp1 HK.o A9.o) hk (.inl rfl)) hb hi;clear A2 Aj HK HB A8;obtain ⟨A2,Aj,HK,HB,A8⟩:=n_;(try clear hb hk hi))|((with_reducible refine aE (f:=55) rfl ?_);refine gc (some 9) (eP.calls g Ab Cl Cm Cu Ao Ap w0 _ (aD.q1 A8.o A4.o) (bq2 HB.o (aD.ge A8.o) Ad.o) Gq.o) Try.func55 ?_;rintro e Cv ⟨rfl,hi,hb,hk⟩;refine ⟨_,rfl,?_⟩;have n_:=ak5 (KeepBut.blk hk (zb A2.o) Am.o (by simp)) (Kd.R_mono (Kd.R_keep (aD.apart (show aD w0 _ g Ab Cl Cm from aD.q1 A8.o A4.o) (kqR Aj.o) (by decide)) hk (fun _ h=>h.2)) (fun _ h=>h.1)) (KeepBut.trans (kp1 HK.o A9.o) hk (.inl rfl)) hb hi;clear A2 Aj HK HB A8;obtain ⟨A2,Aj,HK,HB,A8⟩:=n_;(try clear hb hk hi))|((with_reducible refine aE (f:=54) rfl ?_);refine gc (some 10) (cN.calls Cu Ag _ Gr.o) Try.func54 ?_;rintro e w' ⟨rfl,⟨nd,rfl⟩⟩;refine ⟨_,rfl,?_⟩;(try (rw [cX Cv];generalize hq_:World.drewN Cv _=Cv;have n_:Aside0 (Kd.R (Kd.int .i64) 3 Cv w.heap.size (fun _=>True) (.slice Gt D8.length Gu) D8)∧Aside0 (Cv.heap[Ah]? =some (.cells #[.int .i64 0,.int .i64 0,.int .i64 0,.int .i64 0,.slice none 0 0] 26 (0,0)))∧Aside0 (aD w0 Cv g Ab Ao Ap)∧Aside0 (KeepBut w Cv g none)∧Aside0 (Below w0.heap.size w0 Cv):=⟨⟨by rw [← hq_];exact (kqR Aj.o)⟩,⟨by rw [← hq_];exact (zq A2.o)⟩,⟨by rw [← hq_];exact (aD.q1 A8.o A4.o)⟩,⟨by rw [← hq_];exact (kp1 HK.o A9.o)⟩,⟨by rw [← hq_];exact (bq2 HB.o (aD.ge A8.o) Ad.o)⟩⟩;clear Aj A2 A8 HK HB hq_;obtain ⟨Aj,A2,A8,HK,HB⟩:=n_)))|((with_reducible refine aJ (N:=3) rfl ?_);refine bxe 3 #[.int .i64 0,.int .i64 0,.int .i64 0,.int .i64 0,.slice none 0 0] 26 ?_;intro Ai hg Hb hbox hb;have n_:=gA (rb Aj hb) (aD.below (aD.q1 A8.o A4.o) hb) (kb A2 hb) (KeepBut.trans (kp1 HK.o A9.o) (KeepBut.of_below hb g none) (.inl rfl)) (aC (bq2 HB.o (aD.ge A8.o) Ad.o) hb) hbox ((by rw [hg];exact (a8 (w:=w) (g:=g) (row:=none) (kp1 HK.o A9.o)):w.heap.size≤Ai)) ((Nat.le_trans Er.o (by rw [hg];exact (a8 (w:=w) (g:=g) (row:=none) (kp1 HK.o A9.o)):w.heap.size≤Ai):w0.heap.size≤Ai)) (nL hg A2) (nG hg A2) ((by rw [hg];exact Nat.ne_of_lt (aD.lt (show aD w0 _ g Ab Ao Ap from aD.q1 A8.o A4.o)):g≠Ai)) ((by rw [hg];exact Nat.ne_of_gt (aD.lt (show aD w0 _ g Ab Ao Ap from aD.q1 A8.o A4.o)):Ai≠g));clear Aj A8 A2 HK HB;obtain ⟨Aj,A8,A2,HK,HB,A0,Ak,An,A3,Al,A5,Af⟩:=n_;clear hb hbox hg;have Es:=Al.o;have Et:=A3.o;have Eu:=Af.o;have Ev:=A5.o;obtain ⟨Ax,Ay,Az,B0,B1,B2,B3,B4,B5,B6⟩:=cl5 A0.o))
 (try simp only [Act.put,kX,kY,kZ])
 go_cut [19] (fun Gw wc=>∃(kq:Nat) (Bu:Bool),Gw=.bool Bu∧Aside0 (bH.j0 kq Bu Ab Ao Ap Ac Ag 0 0=some (r1,r2,r3,r4,r5,r6,r7))∧Aside0 (kq≤k)∧Aside0 (wc.heap[Ah]? =some (.cells #[.int .i64 0,.int .i64 0,.int .i64 0,.int .i64 0,(.slice none 0 0)] 26 (0,0)))∧Aside0 (wc.heap[Ai]? =some (.cells #[.int .i64 Ac,.int .i64 Ag,.int .i64 0,.int .i64 0,(.slice none 0 0)] 26 (0,0)))∧Aside0 (aD w0 wc g Ab Ao Ap)∧Aside0 (KeepBut w wc g none)∧Aside0 (Below w0.heap.size w0 wc))
 case first=>
  have H:=Em.o
  clear Em
  replace H:=iq' H
  rcases H with ⟨En,Au,Bv,H⟩|⟨-,Au,Bv,H⟩
  · (first|rw [Au]|(simp only [aI,aK];rw [Au])|skip)
    have H':=am H
    clear H
    have Ew:=Al.o
    have Ex:=A3.o
    have Ey:=Af.o
    have Ez:=A5.o
    obtain ⟨B7,B8,B9,Ba,Bb,Bc,Bd,Be,Bf,Bg⟩:=cl5 A0.o
    go_wp2
    go_meet
    case rel=>exact ⟨_,((Ac==165)),sq,H',⟨by first|omega|exact k7 _⟩,⟨by refine zr ?_;refine aN ?_ A3.o _;refine zr ?_;refine aN ?_ A3.o _;refine zr ?_;refine aN ?_ A3.o _;refine zr ?_;refine aN ?_ A3.o _;refine zr ?_;refine aN ?_ A3.o _;refine zr ?_;exact A2.o⟩,⟨by refine zr ?_;exact bp5 (zb A0.o)⟩,⟨aD.q2 A8.o A4.o A5.o⟩,⟨kp2 HK.o A9.o Ak.o⟩,⟨bq3 HB.o (aD.ge A8.o) Ad.o An.o⟩⟩
  (first|rw [Au]|(simp only [aI,aK];rw [Au])|skip)
  have H':=am H
  clear H
  have G0:=Al.o
  have G1:=A3.o
  have G2:=Af.o
  have G3:=A5.o
  obtain ⟨Bh,Bi,Bj,Bk,Bl,Bm,Bn,Bo,Bp,Bq⟩:=cl5 A0.o
  go_wp2
  go_meet
  case rel=>exact ⟨_,(true),sq,H',⟨by first|omega|exact k7 _⟩,⟨by refine zr ?_;refine aN ?_ A3.o _;refine zr ?_;refine aN ?_ A3.o _;refine zr ?_;refine aN ?_ A3.o _;refine zr ?_;refine aN ?_ A3.o _;refine zr ?_;refine aN ?_ A3.o _;refine zr ?_;exact A2.o⟩,⟨by refine zr ?_;exact bp5 (zb A0.o)⟩,⟨aD.q2 A8.o A4.o A5.o⟩,⟨kp2 HK.o A9.o Ak.o⟩,⟨bq3 HB.o (aD.ge A8.o) Ad.o An.o⟩⟩
 case rest=>
  clear Em
  try clear c1
  try clear c2
  try clear p2
  try clear c4
  try clear c5
  try clear G4
  try clear G5
  try clear En
  try clear Au
  try clear Bv
  try clear G6
  try clear G7
  try clear G8
  try clear G9
  try clear Ax
  try clear Ay
  try clear Az
  try clear B0
  try clear B1
  try clear Bh
  try clear Bi
  try clear Bj
  try clear Bk
  try clear Bl
  try clear B7
  try clear B8
  try clear B9
  try clear Ba
  try clear Bb
  try clear B2
  try clear B3
  try clear B4
  try clear B5
  try clear B6
  try clear Bm
  try clear Bn
  try clear Bo
  try clear Bp
  try clear Bq
  try clear Bc
  try clear Bd
  try clear Be
  try clear Bf
  try clear Bg
  obtain ⟨kq,Bu,rfl,HA,Dz,A2,A0,A8,HK,HB⟩:=hcut
  cases kq with
  |zero=>exact absurd HA.o (by simp [bH.j0])
  |succ Eo=>
   have H:=HA.o
   clear HA
   simp only [bH.j0] at H
   have D9:=am H
   clear H
   go_upto_if 19 with (fail)
   go_cut [] (fun wc=>∃(kq:Nat) (Aq:Int) (Ar:Int) (A6:Int) (A7:Int),Aside0 (bH.j1 kq Ab Aq Ar Ac Ag A6 A7=some (r1,r2,r3,r4,r5,r6,r7))∧Aside0 (kq≤Eo)∧Aside0 (wc.heap[Ah]? =some (.cells #[.int .i64 0,.int .i64 0,.int .i64 0,.int .i64 0,(.slice none 0 0)] 26 (0,0)))∧Aside0 (wc.heap[Ai]? =some (.cells #[.int .i64 Ac,.int .i64 Ag,.int .i64 A6,.int .i64 A7,(.slice none 0 0)] 26 (0,0)))∧Aside0 (aD w0 wc g Ab Aq Ar)∧Aside0 (KeepBut w wc g none)∧Aside0 (Below w0.heap.size w0 wc))
   case first=>
    have H:=D9.o
    clear D9
    rcases (Decidable.em (Bu=true)).symm with Da|Da
    · replace Da:=Bool.eq_false_iff.mpr Da
      subst Da
      replace H:(bH.j1 Eo Ab Ao Ap Ac Ag 0 0)=some (r1,r2,r3,r4,r5,r6,r7):=by rw [if_neg (show ¬(false=true) by decide)] at H;exact H
      have H':=am H
      clear H
      go_wp2
      go_meet
      case rel=>exact ⟨_,(Ao),(Ap),(0),(0),H',⟨by have:=Dz.o;first|omega|exact k7 _⟩,⟨zq A2.o⟩,⟨zq A0.o⟩,⟨aD.q2 A8.o A4.o A5.o⟩,⟨kp2 HK.o A9.o Ak.o⟩,⟨bq3 HB.o (aD.ge A8.o) Ad.o An.o⟩⟩
    subst Da
    replace H:((a6.f Ab Ao Ap 4).bind fun Cn=>((a6.f Ab Cn.2.1 Cn.2.2 5).bind fun Co=>(bH.j1 Eo Ab Co.2.1 Co.2.2 Ac Ag Cn.1 Co.1)))=some (r1,r2,r3,r4,r5,r6,r7):=by rw [if_pos rfl] at H;exact H
    replace H:=be H
    obtain ⟨⟨Bw,Cw,Cx⟩,Gx,H⟩:=H
    try dsimp only at H
    replace H:=be H
    obtain ⟨⟨Cy,Cz,D0⟩,Gy,H⟩:=H
    try dsimp only at H
    have H':=am H
    clear H
    go_wp2_with (first|((with_reducible refine aE (f:=47) rfl ?_);refine gc (some 21) (a6.calls g Ab Ao Ap 4 Bw Cw Cx w0 _ (aD.q2 A8.o A4.o A5.o) (bq3 HB.o (aD.ge A8.o) Ad.o An.o) Gx.o) Try.func47 ?_;rintro e Hc ⟨rfl,hi,hb,hk⟩;refine ⟨_,rfl,?_⟩;have n_:=ak5 (KeepBut.blk hk (zb A2.o) Am.o (by simp)) (KeepBut.blk hk (zb A0.o) Af.o (by simp)) (KeepBut.trans (kp2 HK.o A9.o Ak.o) hk (.inl rfl)) hb hi;clear A2 A0 HK HB A8;obtain ⟨A2,A0,HK,HB,A8⟩:=n_;(try clear hb hk hi);have Ga:=Al.o;have Gb:=A3.o;have Gc:=Af.o;have Gd:=A5.o;obtain ⟨Bx,By,Bz,C0,C1,C2,C3,C4,C5,C6⟩:=cl5 A0.o)|((with_reducible refine aE (f:=47) rfl ?_);refine gc (some 24) (a6.calls g Ab Cw Cx 5 Cy Cz D0 w0 _ (aD.q2 A8.o A4.o A5.o) (bq3 HB.o (aD.ge A8.o) Ad.o An.o) Gy.o) Try.func47 ?_;rintro e Hd ⟨rfl,hi,hb,hk⟩;refine ⟨_,rfl,?_⟩;have n_:=ak5 (KeepBut.blk hk (g':=Ah) (o:=.cells #[.int .i64 0,.int .i64 0,.int .i64 0,.int .i64 0,.slice none 0 0] 26 (0,0)) (by refine zr ?_;refine aN ?_ A3.o _;refine zr ?_;exact A2.o) Am.o (by simp)) (KeepBut.blk hk (g':=Ai) (o:=.cells #[.int .i64 Ac,.int .i64 Ag,.int .i64 Bw,.int .i64 0,.slice none 0 0] 26 (0,0)) (by refine zr ?_;refine aV (cs:=#[.int .i64 Ac,.int .i64 Ag,.int .i64 0,.int .i64 0,.slice none 0 0]) ?_ 2 _ rfl;refine zr ?_;exact A0.o) Af.o (by simp)) (KeepBut.trans (kp2 HK.o A9.o Ak.o) hk (.inl rfl)) hb hi;clear A2 A0 HK HB A8;obtain ⟨A2,A0,HK,HB,A8⟩:=n_;(try clear hb hk hi);obtain ⟨C7,C8,C9,Ca,Cb,Cc,Cd,Ce,Cf,Cg⟩:=cl5 A0.o))
    go_meet
    case rel=>exact ⟨_,(Cz),(D0),(Bw),(Cy),H',⟨by have:=Dz.o;first|omega|exact k7 _⟩,⟨by refine zr ?_;refine aN ?_ A3.o _;refine zr ?_;exact A2.o⟩,⟨by refine zr ?_;refine aV (cs:=#[.int .i64 Ac,.int .i64 Ag,.int .i64 Bw,.int .i64 0,.slice none 0 0]) ?_ 3 _ rfl;refine zr ?_;exact A0.o⟩,⟨aD.q2 A8.o A4.o A5.o⟩,⟨kp2 HK.o A9.o Ak.o⟩,⟨bq3 HB.o (aD.ge A8.o) Ad.o An.o⟩⟩
   case rest=>
    clear D9
    try clear c1
    try clear c2
    try clear p2
    try clear c4
    try clear c5
    try clear G4
    try clear G5
    try clear En
    try clear Au
    try clear Bv
    try clear G6
    try clear G7
    try clear G8
    try clear G9
    try clear Da
    try clear Gz
    try clear H0
    try clear H1
    try clear Ax
    try clear Ay
    try clear Az
    try clear B0
    try clear B1
    try clear Bh
    try clear Bi
    try clear Bj
    try clear Bk
    try clear Bl
    try clear B7
    try clear B8
    try clear B9
    try clear Ba
    try clear Bb
    try clear Bx
    try clear By
    try clear Bz
    try clear C0
    try clear C1
    try clear C7
    try clear C8
    try clear C9
    try clear Ca
    try clear Cb
    try clear B2
    try clear B3
    try clear B4
    try clear B5
    try clear B6
    try clear Bm
    try clear Bn
    try clear Bo
    try clear Bp
    try clear Bq
    try clear Bc
    try clear Bd
    try clear Be
    try clear Bf
    try clear Bg
    try clear C2
    try clear C3
    try clear C4
    try clear C5
    try clear C6
    try clear Cc
    try clear Cd
    try clear Ce
    try clear Cf
    try clear Cg
    try clear p2
    obtain ⟨kq,Aq,Ar,A6,A7,HA,Dd,A2,A0,A8,HK,HB⟩:=hcut
    cases kq with
    |zero=>exact absurd HA.o (by simp [bH.j1])
    |succ De=>
     have H:=HA.o
     clear HA
     simp only [bH.j1] at H
     replace H:=be H
     obtain ⟨⟨Df,Dg,Dh⟩,H2,H⟩:=H
     try dsimp only at H
     have H':=am H
     clear H
     go_wp2_with (first|((with_reducible refine aE (f:=47) rfl ?_);refine gc (some 27) (a6.calls g Ab Aq Ar 4 Df Dg Dh w0 _ (aD.q2 A8.o A4.o A5.o) (bq3 HB.o (aD.ge A8.o) Ad.o An.o) H2.o) Try.func47 ?_;rintro e He ⟨rfl,hi,hb,hk⟩;refine ⟨_,rfl,?_⟩;have n_:=ak5 (KeepBut.blk hk (zb A2.o) Am.o (by simp)) (KeepBut.blk hk (zb A0.o) Af.o (by simp)) (KeepBut.trans (kp2 HK.o A9.o Ak.o) hk (.inl rfl)) hb hi;clear A2 A0 HK HB A8;obtain ⟨A2,A0,HK,HB,A8⟩:=n_;(try clear hb hk hi)))
     go_loopg [4] De (fun kq v4 w'=>∃(Cp:Int) (As:Int) (At:Int) (Ae:List (S45)) (Aa:Value),v4=.int .i64 Cp∧Aside0 (bH.l0 kq Cp Ab As At Ac Ag A6 A7 Ae=some (r1,r2,r3,r4,r5,r6,r7))∧Aside0 (kq≤De)∧Aside0 (Kd.S k45 45 w' w.heap.size (fun _=>True) Aa Ae)∧Aside0 (w'.heap[Ah]? =some (.cells #[.int .i64 0,.int .i64 0,.int .i64 0,.int .i64 0,(.slice none 0 0)] 26 (0,0)))∧Aside0 (w'.heap[Ai]? =some (.cells #[.int .i64 Ac,.int .i64 Ag,.int .i64 A6,.int .i64 A7,Aa] 26 (0,0)))∧Aside0 (aD w0 w' g Ab As At)∧Aside0 (KeepBut w w' g none)∧Aside0 (Below w0.heap.size w0 w'))
     case atStart=>exact ⟨(Df),(Dg),(Dh),(([]:List (S45))),(.slice none 0 0),sq,H',⟨k7 _⟩,⟨by first|exact Kd.S_nil _ _ _ _ _|exact Kd.N_nil _ _ _ _ _|exact Kd.V_nil _ _ _ _ _|exact Kd.Q_nil _ _ _ _ _|exact Kd.R_nil _ _ _ _ _⟩,⟨zq A2.o⟩,⟨zq A0.o⟩,⟨aD.q2 A8.o A4.o A5.o⟩,⟨kp2 HK.o A9.o Ak.o⟩,⟨bq3 HB.o (aD.ge A8.o) Ad.o An.o⟩⟩
     case round=>
      clear H'
      try clear c1
      try clear c2
      try clear p2
      try clear c4
      try clear c5
      try clear G4
      try clear G5
      try clear En
      try clear Au
      try clear Bv
      try clear G6
      try clear G7
      try clear G8
      try clear G9
      try clear Da
      try clear Gz
      try clear H0
      try clear H1
      try clear Ax
      try clear Ay
      try clear Az
      try clear B0
      try clear B1
      try clear Bh
      try clear Bi
      try clear Bj
      try clear Bk
      try clear Bl
      try clear B7
      try clear B8
      try clear B9
      try clear Ba
      try clear Bb
      try clear Bx
      try clear By
      try clear Bz
      try clear C0
      try clear C1
      try clear C7
      try clear C8
      try clear C9
      try clear Ca
      try clear Cb
      try clear B2
      try clear B3
      try clear B4
      try clear B5
      try clear B6
      try clear Bm
      try clear Bn
      try clear Bo
      try clear Bp
      try clear Bq
      try clear Bc
      try clear Bd
      try clear Be
      try clear Bf
      try clear Bg
      try clear C2
      try clear C3
      try clear C4
      try clear C5
      try clear C6
      try clear Cc
      try clear Cd
      try clear Ce
      try clear Cf
      try clear Cg
      try clear p2
      obtain ⟨Cp,As,At,Ae,Aa,rfl,HA,Ge,A1,A2,A0,A8,HK,HB⟩:=hrel
      cases gk with
      |zero=>exact absurd HA.o (by simp [bH.l0])
      |succ k3=>
       have H:=HA.o
       clear HA
       simp only [bH.l0] at H
       replace H:=ig' H
       rcases H with ⟨-,Di,H⟩|⟨-,Di,H⟩
       · simp only [k4,k5] at H
         obtain ⟨rfl,rfl,rfl,rfl,rfl,rfl,rfl⟩:=H
         have Gf:=Al.o
         have Gg:=A3.o
         have Gh:=Af.o
         have Gi:=A5.o
         obtain ⟨E0,E1,E2,E3,E4,E5,E6,E7,E8,E9⟩:=cl5 A0.o
         have Gj:=Am.o
         have Gk:=A4.o
         obtain ⟨Ea,Eb,Ec,Ed,Ee,Ef,Eg,Eh,Ei,Ej⟩:=cl5 A2.o
         obtain ⟨Dj,Dk,Ep⟩:=Kd.S_slice A1.o
         subst Ep
         go_wp2
         refine bodyPost_ret (results_cell_row rfl _ _ Ah 26 #[.int .i64 Ac,.int .i64 Ag,.int .i64 A6,.int .i64 A7,.slice Dj Ae.length Dk] (0,0) _ rfl (by refine zr ?_;exact bp5 (zb A2.o)) Try.underlying26 rfl (by kernel_rfl)) rfl ?_
         exact ⟨_,rq,by (with_reducible repeat (first|apply Kd.S_alloc|apply Kd.S_drewN|apply Kd.S_drew));exact Kd.S_mono (Kd.S_far (p:=⟨Ah,4,none⟩) (Kd.S_far (p:=⟨Ah,3,none⟩) (Kd.S_far (p:=⟨Ah,2,none⟩) (Kd.S_far (p:=⟨Ah,1,none⟩) (Kd.S_far (p:=⟨Ah,0,none⟩) (Kd.S_types A1.o A2.o (by decide)) (fun _ hk=>hk.2) (.int .i64 Ac)) (fun _ hk=>hk.2) (.int .i64 Ag)) (fun _ hk=>hk.2) (.int .i64 A6)) (fun _ hk=>hk.2) (.int .i64 A7)) (fun _ hk=>hk.2) (.slice Dj Ae.length Dk)) (fun _ hk=>trivial),aD.q2 A8.o A4.o A5.o,bq3 HB.o (aD.ge A8.o) Ad.o An.o,kp2 HK.o A9.o Ak.o⟩
       replace H:=be H
       obtain ⟨⟨Ck,Cq,Cr⟩,H3,H⟩:=H
       try dsimp only at H
       replace H:=be H
       obtain ⟨⟨Br,Bs,Bt,Aw,D1,D2⟩,H4,H⟩:=H
       try dsimp only at H
       replace H:=nq H
       obtain ⟨Gl,H⟩:=H
       have Dl:=am Gl
       clear Gl
       generalize D3:((Ae++[(⟨Ck,(⟨Br,Bs,Bt,Aw⟩:S43)⟩:S45)]):List (S45))=Db at H
       have Dm:=am D3.symm
       clear D3
       have H':=am H
       clear H
       try go_wp2
       have n_:=ak6 (Kd.S_drew A1.o) (a7 A2.o) (a7 A0.o) (aD.drew A8.o) (d9 HK.o) (bB HB.o)
       clear A1 A2 A0 A8 HK HB
       obtain ⟨A1,A2,A0,A8,HK,HB⟩:=n_
       refine cW (n:=11) (S:=fun w'=>w'.cell? ⟨Ai,0,none⟩=some (.int .i64 Ac)∧w'.cell? ⟨Ai,1,none⟩=some (.int .i64 Ag)∧w'.cell? ⟨Ai,2,none⟩=some (.int .i64 A6)∧w'.cell? ⟨Ai,3,none⟩=some (.int .i64 A7)∧w'.cell? ⟨Ai,4,none⟩=some (Aa)) (ds:=[10]) #[F,F,F,F,F,F,F,F,F,F,F] (by kernel_rfl) rfl rfl ⟨(aA A0.o 0).trans rfl,(aA A0.o 1).trans rfl,(aA A0.o 2).trans rfl,(aA A0.o 3).trans rfl,(aA A0.o 4).trans rfl⟩ (fun hHeld=>?_);refine bW bH.tab8 bH.bits8 (fun HT_ HW_=>?_)
       generalize wr.drew=Hf at A1 A2 A0 A8 HK HB hHeld ⊢
       refine pv HT_ 0 (some 32) #[T,F,F,F,F,F,F,F,F,F,F] ?_
       refine pv HT_ 2 (some 34) #[T,F,T,F,F,F,F,F,F,F,F] ?_
       refine pv HT_ 4 (some 36) #[T,F,T,F,T,F,F,F,F,F,F] ?_
       refine tk 1 (some 33) #[T,T,T,F,T,F,F,F,F,F,F] rfl rfl (aZ HT_.o HW_.o (by kernel_rfl)) hHeld (Or.inl ⟨by rfl,by rintro w' ⟨s0,s1,s2,s3,s4⟩;go_simp;with_reducible rfl⟩) ?_
       refine dM (i:=3) (N:=some 35) #[T,T,T,T,T,F,F,F,F,F,F] rfl rfl (bS HT_.o (by kernel_rfl)) (by decide) (fun K hK=>?_)
       refine cU Try.func51 (by kernel_rfl) rfl #[.pointer (some ⟨g,0,none⟩)] (by rfl) rfl rfl ga ?_
       with_reducible refine (cM.calls k3 g Ab As At Ck Cq Cr w0 _ ?side1 ?side2 H3.o).mono ?_
       (case side1=>exact aD.q2 A8.o A4.o A5.o)
       (case side2=>exact bq3 HB.o (aD.ge A8.o) Ad.o An.o)
       rintro e Hg ⟨H5,rfl,D4,hi,hb,hk⟩
       refine ⟨_,rfl,?_⟩
       have n_:=ak7 (Kd.S_mono (Kd.S_told (Kd.S_oldK (aD.apartS (show aD w0 _ g Ab As At from aD.q2 A8.o A4.o A5.o) (kqS A1.o) (by decide)) hk) (Kd.R_base D4)) (fun _ h_=>h_.1)) (KeepBut.blk hk (zb A2.o) Am.o (by simp)) (KeepBut.blk hk (zb A0.o) Af.o (by simp)) (Kd.R_lower D4 (a8 (w:=w) (g:=g) (row:=none) (kp2 HK.o A9.o Ak.o))) (KeepBut.trans (kp2 HK.o A9.o Ak.o) hk (.inl rfl)) hb hi
       clear A1 A2 A0 HK HB A8
       obtain ⟨A1,A2,A0,Av,HK,HB,A8⟩:=n_
       (try clear hb hk hi D4)
       refine hK.out _ _ ⟨(aA A0.o 0).trans rfl,(aA A0.o 1).trans rfl,(aA A0.o 2).trans rfl,(aA A0.o 3).trans rfl,(aA A0.o 4).trans rfl⟩ (fun hHeld=>?_)
       clear hK K
       refine bZ (a':=?_) ?_ ?_
       rotate_left
       · show Act.put _ (some 35) _=_
         simp only [Act.put,kX,kY,kZ,aI,aK]
         rfl
       refine dM (i:=5) (N:=some 37) #[T,T,T,T,T,T,F,F,F,F,F] rfl rfl (bS HT_.o (by kernel_rfl)) (by decide) (fun K hK=>?_)
       refine cU Try.func56 (by kernel_rfl) rfl #[.pointer (some ⟨g,0,none⟩)] (by rfl) rfl rfl ga ?_
       with_reducible refine (d6.calls k3 g Ab Cq Cr Br Bs Bt Aw D1 D2 w0 _ ?side1 ?side2 H4.o).mono ?_
       (case side1=>exact aD.q2 A8.o A4.o A5.o)
       (case side2=>exact bq3 HB.o (aD.ge A8.o) Ad.o An.o)
       rintro e Hh ⟨H6,rfl,D4,hi,hb,hk⟩
       refine ⟨_,rfl,?_⟩
       have n_:=ak8 (Kd.S_mono (Kd.S_told (Kd.S_oldK (aD.apartS (show aD w0 _ g Ab Cq Cr from aD.q2 A8.o A4.o A5.o) (kqS A1.o) (by decide)) hk) (Kd.R_base D4)) (fun _ h_=>h_.1)) (KeepBut.blk hk (zb A2.o) Am.o (by simp)) (KeepBut.blk hk (zb A0.o) Af.o (by simp)) (Kd.R_mono (Kd.R_told (Kd.R_oldK (aD.apart (show aD w0 _ g Ab Cq Cr from aD.q2 A8.o A4.o A5.o) (kqR Av.o) (by decide)) hk) (Kd.R_base D4)) (fun _ h_=>h_.1)) (Kd.R_lower (Kd.R_new' D4 (Kd.R_lt (kqR Av.o))) (a8 (w:=w) (g:=g) (row:=none) (kp2 HK.o A9.o Ak.o))) (KeepBut.trans (kp2 HK.o A9.o Ak.o) hk (.inl rfl)) hb hi
       clear A1 A2 A0 Av HK HB A8
       obtain ⟨A1,A2,A0,Av,Ch,HK,HB,A8⟩:=n_
       (try clear hb hk hi D4)
       obtain ⟨Dn,Do,Dp⟩:=Kd.R_slice Ch.o
       (first|subst Dp|(injection Dp with D5 Dq D6;have Dr:=D5.symm;have Ds:=D6.symm;clear D5 Dq D6;subst Dr;subst Ds))
       obtain ⟨Dt,Du,Dv⟩:=Kd.R_slice Av.o
       (first|subst Dv|(injection Dv with D5 Dq D6;have Dr:=D5.symm;have Ds:=D6.symm;clear D5 Dq D6;subst Dr;subst Ds))
       refine hK.out _ _ ⟨(aA A0.o 0).trans rfl,(aA A0.o 1).trans rfl,(aA A0.o 2).trans rfl,(aA A0.o 3).trans rfl,(aA A0.o 4).trans rfl⟩ (fun hHeld=>?_)
       clear hK K
       refine bZ (a':=?_) ?_ ?_
       rotate_left
       · show Act.put _ (some 37) _=_
         simp only [Act.put,kX,kY,kZ,aI,aK]
         rfl
       refine pv HT_ 6 (some 38) #[T,T,T,T,T,T,T,F,F,F,F] ?_
       refine dM (i:=7) (N:=some 39) #[T,T,T,T,T,T,T,T,F,F,F] rfl rfl (bS HT_.o (by kernel_rfl)) (by decide) (fun K hK=>?_)
       refine jE (w1:=?_) (v:=?_) (by rfl) rfl ?_ ?_
       rotate_left 2
       · go_simp
         constructor
         · rfl
         rfl
       refine hK.out _ _ ⟨(aA (b8 A0.o _) 0).trans rfl,(aA (b8 A0.o _) 1).trans rfl,(aA (b8 A0.o _) 2).trans rfl,(aA (b8 A0.o _) 3).trans rfl,(aA (b8 A0.o _) 4).trans rfl⟩ (fun hHeld=>?_)
       clear hK K
       refine bZ (a':=?_) ?_ ?_
       rotate_left
       · show Act.put _ (some 39) _=_
         simp only [Act.put,kX,kY,kZ,aI,aK]
         rfl
       refine dM (i:=8) (N:=some 40) #[T,T,T,T,T,T,T,T,T,F,F] rfl rfl (bS HT_.o (by kernel_rfl)) (by decide) (fun K hK=>?_)
       refine Kd.S_append_step k45 w.heap.size (by rfl) (.tmp 33) (.tmp 39) 24 45 (.agg #[(.slice none 0 0),(.int .i64 0),(.int .i64 0),(.string ⟨#[]⟩),(.slice none 0 0)]) 80 rfl Try.underlying24 gQ rfl (by decide) (by omega) Aa Ae (⟨Ck,(⟨Br,Bs,Bt,Aw⟩:S43)⟩:S45) [.slice Dt Ck.length Du,.int .i64 Br,.int .i64 Bs,.string Bt,.slice Dn Aw.length Do] (fun _=>True) (fun k_=>some k_=(.slice Dt Ck.length Du:Value).ownBlock∨some k_=(.slice Dn Aw.length Do:Value).ownBlock) rfl rfl ?aP (fun k_ hk_=>hk_.elim (fun h_=>((Kd.R_mono (ok':=fun k_=>((fun _=>True)) k_∧some k_≠(Aa:Value).ownBlock) (Kd.R_apart' (Av.o) (Kd.S_typed A1.o) (by decide)) (fun k_ hk=>⟨trivial,hk.2⟩))).1 k_ h_.symm) (fun h_=>((Kd.R_mono (ok':=fun k_=>((fun _=>True)) k_∧some k_≠(Aa:Value).ownBlock) (Kd.R_apart' (Ch.o) (Kd.S_typed A1.o) (by decide)) (fun k_ hk=>⟨trivial,hk.2⟩))).1 k_ h_.symm)) ?aF ?aO (Below.refl _ _) ?aS ?aL ?_
       (case aP=>exact gK _ _ _ (⟨Ck,(⟨Br,Bs,Bt,Aw⟩:S43)⟩:S45) (Kd.R_mono (Kd.R_tight rfl (Kd.R_mono (ok':=fun k_=>((fun _=>True)) k_∧some k_≠(Aa:Value).ownBlock) (Kd.R_apart' (Av.o) (Kd.S_typed A1.o) (by decide)) (fun k_ hk=>⟨trivial,hk.2⟩))) (fun _ h_=>Or.inl h_)) (Kd.R_mono (Kd.R_tight rfl (Kd.R_mono (ok':=fun k_=>((fun _=>True)) k_∧some k_≠(Aa:Value).ownBlock) (Kd.R_apart' (Ch.o) (Kd.S_typed A1.o) (by decide)) (fun k_ hk=>⟨trivial,hk.2⟩))) (fun _ h_=>Or.inr (h_))))
       (case aF=>exact (fun _ _=>trivial))
       (case aO=>exact (by (with_reducible repeat (first|apply Kd.S_alloc|apply Kd.S_drewN|apply Kd.S_drew));exact Kd.S_mono A1.o (fun k_ hk=>⟨trivial,fun e_=>e_.elim (fun h_=>hk.1.2 h_) (fun h_=>hk.2 h_)⟩)))
       (case aS=>exact (a8 (w:=w) (g:=g) (row:=none) (kp2 HK.o A9.o Ak.o)))
       (case aL=>have:=Dl.o;omega)
       intro H7 H8 ho hb hg hat
       rw [← Dm.o] at ho
       have n_:=ak6 (cB (g:=Ah) (o:=.cells #[.int .i64 0,.int .i64 0,.int .i64 0,.int .i64 0,.slice none 0 0] 26 (0,0)) (zq A2.o) hg (Kd.S_ne A1.o A2.o (by decide))) (cB (g:=Ai) (o:=.cells #[.int .i64 Ac,.int .i64 Ag,.int .i64 A6,.int .i64 A7,Aa] 26 (0,0)) (zq A0.o) hg (Kd.S_ne A1.o A0.o (by decide))) (aD.grown (aD.q2 A8.o A4.o A5.o) hg (aD.own_neS A8.o A1.o (by decide))) (fE (bq3 HB.o (aD.ge A8.o) Ad.o An.o) HL.o hb) (KeepBut.trans (kp2 HK.o A9.o Ak.o) (KeepBut.of_grown hg g) (Kd.S_base2 A1.o)) ho
       clear A2 A0 A8 HB HK A1 Av Ch
       obtain ⟨A2,A0,A8,HB,HK,D7⟩:=n_
       clear ho hb hg hat
       obtain ⟨Dw,Dx,Dy⟩:=Kd.S_slice D7.o
       (first|subst Dy|(injection Dy with D5 Dq D6;have Dr:=D5.symm;have Ds:=D6.symm;clear D5 Dq D6;subst Dr;subst Ds))
       refine hK.out _ _ ⟨(aA A0.o 0).trans rfl,(aA A0.o 1).trans rfl,(aA A0.o 2).trans rfl,(aA A0.o 3).trans rfl,(aA A0.o 4).trans rfl⟩ (fun hHeld=>?_)
       clear hK K
       refine bZ (a':=?_) ?_ ?_
       rotate_left
       · show Act.put _ (some 40) _=_
         simp only [Act.put,kX,kY,kZ,aI,aK]
         rfl
       refine pv HT_ 9 (some 41) #[T,T,T,T,T,T,T,T,T,T,F] ?_
       refine kB (i:=10) (N:=none) #[T,T,T,T,T,T,T,T,T,T,T] rfl rfl (bS HT_.o (by kernel_rfl)) (by decide) (fun K hK=>?_)
       have H9:H8.cell? ⟨Ai,4,none⟩=some (Aa):=(aA A0.o 4).trans rfl
       have Gm:=aM A0.o 4
       have Ek:=A3.o
       have El:=Al.o
       refine kC (w1:=?_) (by rfl) rfl ?_ ?_
       rotate_left
       · go_simp
         rfl
       refine hK.out _ _ ?_
       clear hK K
       refine d5 (cL HT_.o (by kernel_rfl)) ?_
       try go_wp2
       go_roundg k3
       case measure=>have:=Dz.o;have:=Dd.o;have:=Ge.o;omega
       case rel=>exact ⟨(wrap64 (Cp - 1)),(D1),(D2),(Db),(.slice Dw Db.length Dx),sq,H',⟨by have:=Dz.o;have:=Dd.o;have:=Ge.o;omega⟩,⟨by (with_reducible repeat (first|apply Kd.S_alloc|apply Kd.S_drewN|apply Kd.S_drew));exact Kd.S_mono (Kd.S_far (p:=⟨Ai,4,none⟩) (Kd.S_types D7.o A0.o (by decide)) (fun _ hk=>hk.2) (.slice Dw Db.length Dx)) (fun _ hk=>trivial)⟩,⟨by refine zr ?_;refine aN ?_ A3.o _;refine zr ?_;exact A2.o⟩,⟨by refine zr ?_;refine aV (cs:=#[.int .i64 Ac,.int .i64 Ag,.int .i64 A6,.int .i64 A7,Aa]) ?_ 4 _ rfl;refine zr ?_;exact A0.o⟩,⟨aD.q2 A8.o A4.o A5.o⟩,⟨kp2 HK.o A9.o Ak.o⟩,⟨bq3 HB.o (aD.ge A8.o) Ad.o An.o⟩⟩
end Go.Proofs.Ytgppikopdpeigaa.XFnPdus
