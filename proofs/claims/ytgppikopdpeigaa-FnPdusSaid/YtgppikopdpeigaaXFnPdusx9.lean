/- The functions that one law reaches, as Lean functions, with their walks: printed by a program of this seat (wip/tools) out of the translation. -/
import Derived.Test.YtgppikopdpeigaaXFnPdusx0
import Derived.Test.YtgppikopdpeigaaXFnPdusx6
import Derived.Test.YtgppikopdpeigaaXFnPdusx7
import Derived.Test.YtgppikopdpeigaaXFnPdusx8
namespace Go.Proofs.Ytgppikopdpeigaa.XFnPdus
open Go.RowKit Go.Proofs.YtgppikopdpeigaaW.PrintWords Go.Proofs.YtgppikopdpeigaaW.PrintLast Go.Proofs.YtgppikopdpeigaaW.PrintMore
attribute [local go_sem] cO cP dH dI cC cD cQ cR
set_option maxHeartbeats 8000000
set_option maxRecDepth 100000
set_option linter.unusedVariables false
set_option linter.unusedSimpArgs false
def bG.l0:Nat→List Int→List (S45)→Int→Int→Int→Int→Int→Int→List (S45)→Option (List Int)
 |0,_,_,_,_,_,_,_,_,_=>none
 |k+1,x3,A9,Ag,A6,A0,A1,A2,A3,A7=>if A6<Ag then (if 0≤A6 then (if A6<(A9.length:Int) then ((bV.f k ((aG A9 A6).f0)).bind fun Ab=>((dJ.f k ([]:List Int) 6 Ab).bind fun Ac=>((fB.f k Ac ((aG A9 A6).f1.f0) ((aG A9 A6).f1.f1) ((aG A9 A6).f1.f2) ((aG A9 A6).f1.f3)).bind fun Ad=>((dY.f k 48 Ad).bind fun A4=>(if A4.2=true then (if x3.length+A4.1.length<140737488355328 then (bG.l0 k (x3++A4.1) A9 Ag (wrap64 (A6+1)) A0 A1 A2 A3 A7) else (none)) else (some ([]:List Int))))))) else (none)) else (none)) else ((dY.f k 48 x3).bind fun A5=>(if A5.2=true then ((eE.f k ([]:List Int) 2 A1).bind fun Ae=>((eE.f k Ae 2 A2).bind fun Af=>((eE.f k Af 2 A3).bind fun Aa=>(if Aa.length+A5.1.length<140737488355328 then ((dY.f k A0 (Aa++A5.1)).bind fun A8=>(if A8.2=true then (some A8.1) else (some ([]:List Int)))) else (none))))) else (some ([]:List Int))))
def bG.f (k:Nat) (A1:Int) (A2:Int) (A3:Int) (A4:Int) (A0:List (S45)):Option (List Int):=(bK.f k A1 A2 A3 A4 A0).bind fun A5=>(if A5=true then (bG.l0 k ([]:List Int) A0 (A0.length:Int) 0 A1 A2 A3 A4 A0) else (some ([]:List Int)))
def bG.T7:Bool × List (List Nat × List Nat):=(true,[([],[]),([0],[0]),([1],[1]),([2,2],[2]),([],[]),([4],[4]),([3,5,3],[3,5]),([6,6],[6]),([7],[7]),([8],[8]),([8],[8]),([9,7,0,1,2,3,4,5,6,7,8,9],[9]),([10,11,0,1,2,3,4,5,6,7,8,9,10,11],[10])])
def bG.B7:List Nat:=[0,1,3,7,0,16,63,127,255,511,511,1023,4095]
theorem bG.tab7:eR .any (fM Try.f6 7)=bG.T7:=by kernel_rfl
theorem bG.bits7:eJ bG.T7.2 bG.B7=true:=by kernel_rfl
def bG.T15:Bool × List (List Nat × List Nat):=(true,[([],[]),([0],[0]),([],[]),([2],[2]),([3],[3]),([],[]),([5],[5]),([4,6,4],[4,6]),([],[]),([8],[8]),([7,9,7],[7,9]),([],[]),([10,11,10],[10,11]),([1,12,12],[1,12]),([13],[13]),([14],[14]),([14],[14]),([15,13,0,1,2,3,4,5,6,7,8,9,10,11,12,13,14,15],[15]),([16,17,0,1,2,3,4,5,6,7,8,9,10,11,12,13,14,15,16,17],[16])])
def bG.B15:List Nat:=[0,1,0,4,12,0,32,124,0,256,1020,0,4092,8191,16383,32767,32767,65535,262143]
theorem bG.tab15:eR .any (fM Try.f6 15)=bG.T15:=by kernel_rfl
theorem bG.bits15:eJ bG.T15.2 bG.B15=true:=by kernel_rfl
theorem bG.calls (k:Nat) (Ar:Int) (As:Int) (At:Int) (Au:Int) (Bg:Option Addr) (Be:Nat) (A6:List (S45)) (r:List Int) (w:World) (Cf:Kd.C k45 w Bg A6.length A6) (Cg:A6.length≤Be) (h:bG.f k Ar As At Au A6=some r):
 Calls Try.prog 6 #[.agg #[.int .i64 Ar,.int .i64 As,.int .i64 At,.int .i64 Au,.slice Bg A6.length Be]] w fun e w'=>∃Gg:Value,e=.returned (Gg)∧Kd.R (Kd.int .u8) 5 w' w.heap.size (fun _=>True) Gg r∧Below w.heap.size w w':=by
 have Gw:=Try.underlying26
 have Gx:=Try.underlying45
 have Gy:=Try.underlying43
 have Bo:=am Cf
 have Ch:=am Cg
 clear Cf Cg
 have HB:=am (Below.refl w.heap.size w)
 have H:=h
 clear h
 unfold bG.f at H
 replace H:=be H
 obtain ⟨Da,Gh,H⟩:=H
 cases Da
 · replace H:=iF H
   obtain rfl:=k6 H
   go_enter Try.func6,Try.ntmps6
   go_wp2_with (first|((with_reducible refine aJ (N:=1) rfl ?_);refine bxe 1 #[.int .i64 Ar,.int .i64 As,.int .i64 At,.int .i64 Au,.slice Bg A6.length Be] 26 ?_;intro Ae hg H9 hbox hb;have n_:=ak4 (aC (bq HB.o) hb) hbox (bz hg (bq HB.o)) (bz hg (bq HB.o));clear HB;obtain ⟨HB,A0,Db,A3⟩:=n_;clear hb hbox hg;obtain ⟨Dw,Dx,Dy,Dz,E0,E1,E2,E3,E4,E5⟩:=cl5 A0.o)|((with_reducible refine aE (f:=10) rfl ?_);refine gc (some 13) (bK.calls k Ar As At Au _ _ A6 false _ (cq (Kd.C_below Bo.o HB.o)) Ch.o Gh.o) Try.func10 ?_;rintro e Ha ⟨rfl,hb⟩;refine ⟨_,rfl,?_⟩;have n_:=ak2 (kb A0 hb) (aC (bq1 HB.o A3.o) hb);clear A0 HB;obtain ⟨A0,HB⟩:=n_;(try clear hb)))
   go_ret
   exact ⟨_,rq,rn,bq1 HB.o A3.o⟩
 replace H:=iT H
 have H':=am H
 clear H
 go_enter Try.func6,Try.ntmps6
 go_wp2_with (first|((with_reducible refine aJ (N:=1) rfl ?_);refine bxe 1 #[.int .i64 Ar,.int .i64 As,.int .i64 At,.int .i64 Au,.slice Bg A6.length Be] 26 ?_;intro Ae hg w4 hbox hb;have n_:=ak4 (aC (bq HB.o) hb) hbox (bz hg (bq HB.o)) (bz hg (bq HB.o));clear HB;obtain ⟨HB,A0,Db,A3⟩:=n_;clear hb hbox hg;obtain ⟨Co,Cp,Cq,Cr,Cs,Ct,Cu,Cv,Cw,Cx⟩:=cl5 A0.o)|((with_reducible refine aE (f:=10) rfl ?_);refine gc (some 13) (bK.calls k Ar As At Au _ _ A6 true _ (cq (Kd.C_below Bo.o HB.o)) Ch.o Gh.o) Try.func10 ?_;rintro e w6 ⟨rfl,hb⟩;refine ⟨_,rfl,?_⟩;have n_:=ak2 (kb A0 hb) (aC (bq1 HB.o A3.o) hb);clear A0 HB;obtain ⟨A0,HB⟩:=n_;(try clear hb);obtain ⟨Cy,Cz,D0,D1,D2,D3,D4,D5,D6,D7⟩:=cl5 A0.o))
 go_loopg [3,18] k (fun kq v3 Gz w'=>∃(B0:List Int) (A4:Int),Gz=.int .i64 A4∧Aside0 (bG.l0 kq B0 A6 (A6.length:Int) A4 Ar As At Au A6=some r)∧Aside0 (kq≤k)∧Aside0 (Kd.R (Kd.int .u8) 5 w' w.heap.size (fun _=>True) v3 B0)∧Aside0 (w'.heap[Ae]? =some (.cells #[.int .i64 Ar,.int .i64 As,.int .i64 At,.int .i64 Au,(.slice Bg A6.length Be)] 26 (0,0)))∧Aside0 (Below w.heap.size w w'))
 case atStart=>exact ⟨(([]:List Int)),(0),sq,H',⟨k7 _⟩,⟨rn⟩,⟨zq A0.o⟩,⟨bq1 HB.o A3.o⟩⟩
 case round=>
  clear H'
  try clear c1
  try clear p2
  try clear c3
  try clear c6
  try clear Co
  try clear Cp
  try clear Cq
  try clear Cr
  try clear Cs
  try clear Cy
  try clear Cz
  try clear D0
  try clear D1
  try clear D2
  try clear Ct
  try clear Cu
  try clear Cv
  try clear Cw
  try clear Cx
  try clear D3
  try clear D4
  try clear D5
  try clear D6
  try clear D7
  obtain ⟨B0,A4,rfl,HA,Gi,A2,A0,HB⟩:=hrel
  cases gk with
  |zero=>exact absurd HA.o (by simp [bG.l0])
  |succ k1=>
   have H:=HA.o
   clear HA
   simp only [bG.l0] at H
   replace H:=il H
   rcases H with ⟨-,Eq,H⟩|⟨-,Eq,H⟩
   · replace H:=nl H
     obtain ⟨-,H0,H⟩:=H
     replace H:=nl H
     obtain ⟨-,Gj,H⟩:=H
     replace H:=be H
     obtain ⟨Bf,Gk,H⟩:=H
     replace H:=be H
     obtain ⟨B1,Gl,H⟩:=H
     replace H:=be H
     obtain ⟨B2,Gm,H⟩:=H
     replace H:=be H
     obtain ⟨⟨Av,Bp⟩,Dc,H⟩:=H
     try dsimp only at H
     cases Bp
     · replace H:=iF H
       obtain rfl:=k6 H
       have Bm:0≤(A4:Int):=oda
       have Bn:A4<(A6.length:Int):=oda
       obtain ⟨Ci,Aw,Ax,Ay,Az,D8,Am,An,Ao,Ap,Aq,B3,B4,B5,B6⟩:=dR Bo.o A4 Bm Bn
       cases D8
       replace Am:=(HB.o.cell (kW w _ Am)).trans Am
       replace An:=(HB.o.cell (kW w _ An)).trans An
       replace Ao:=(HB.o.cell (kW w _ Ao)).trans Ao
       replace Ap:=(HB.o.cell (kW w _ Ap)).trans Ap
       replace Aq:=(HB.o.cell (kW w _ Aq)).trans Aq
       have Bh:=am B4
       have Bi:=am B3
       clear B4 B3
       have Bj:=am B6
       have Bk:=am B5
       clear B6 B5
       replace Bm:=eq_true Bm
       replace Bn:=eq_true Bn
       try go_wp2_with (first|((with_reducible refine aJ (N:=5) rfl ?_);refine bxe 5 #[.slice none 0 0,.int .i64 0,.int .i64 0,.string (⟨#[]⟩:ByteArray),.slice none 0 0] 45 ?_;intro Ag hg H1 hbox hb;have n_:=ak8 (rb A2 hb) (kb A0 hb) (aC (bq1 HB.o A3.o) hb) hbox (bz hg (bq1 HB.o A3.o)) (bz hg (bq1 HB.o A3.o)) (nL hg A0) (nG hg A0);clear A2 A0 HB;obtain ⟨A2,A0,HB,A1,Dd,Ac,Aj,B8⟩:=n_;clear hb hbox hg;have Gn:=B8.o;have Go:=Aj.o;obtain ⟨E6,E7,E8,E9,Ea,Eb,Ec,Ed,Ee,Ef⟩:=cl5 A1.o)|((with_reducible refine aQ (t:=45) (p:=5) rfl ?_);refine se 45 5 (s5 H1 Ag (.slice Aw ((aG A6 A4).f0).length Ax) (.int .i64 ((aG A6 A4).f1.f0)) (.int .i64 ((aG A6 A4).f1.f1)) (.string ((aG A6 A4).f1.f2)) (.slice Ay ((aG A6 A4).f1.f3).length Az)) ?_;intro H2 hw;have n_:=ak4 (sr5 hw A2 A1) (sf5 hw A0 Aj) (sc5 hw A1) (sb hw (bq2 HB.o A3.o Ac.o));clear hw A2 A0 A1 HB;obtain ⟨A2,A0,A1,HB⟩:=n_))
       have n_:=ak4 (Kd.R_drew A2.o) (a7 A0.o) (a7 A1.o) (bB HB.o)
       clear A2 A0 A1 HB
       obtain ⟨A2,A0,A1,HB⟩:=n_
       refine cW (n:=13) (S:=fun w'=>w'.cell? ⟨Ag,0,none⟩=some (.slice Aw ((aG A6 A4).f0).length Ax)∧w'.cell? ⟨Ag,1,none⟩=some (.int .i64 ((aG A6 A4).f1.f0))∧w'.cell? ⟨Ag,2,none⟩=some (.int .i64 ((aG A6 A4).f1.f1))∧w'.cell? ⟨Ag,3,none⟩=some (.string ((aG A6 A4).f1.f2))∧w'.cell? ⟨Ag,4,none⟩=some (.slice Ay ((aG A6 A4).f1.f3).length Az)) (ds:=[]) #[F,F,F,F,F,F,F,F,F,F,F,F,F] (by kernel_rfl) rfl rfl ⟨(aA A1.o 0).trans rfl,(aA A1.o 1).trans rfl,(aA A1.o 2).trans rfl,(aA A1.o 3).trans rfl,(aA A1.o 4).trans rfl⟩ (fun hHeld=>?_);refine bW bG.tab7 bG.bits7 (fun HT_ HW_=>?_)
       generalize H2.drew=Hb at A2 A0 A1 HB hHeld ⊢
       refine pv HT_ 0 (some 23) #[T,F,F,F,F,F,F,F,F,F,F,F,F] ?_
       refine pv HT_ 4 (some 27) #[T,F,F,F,T,F,F,F,F,F,F,F,F] ?_
       refine tk 1 (some 24) #[T,T,F,F,T,F,F,F,F,F,F,F,F] rfl rfl (aZ HT_.o HW_.o (by kernel_rfl)) hHeld (Or.inl ⟨by rfl,by rintro w' ⟨s0,s1,s2,s3,s4⟩;go_simp;with_reducible rfl⟩) ?_
       refine tk 5 (some 28) #[T,T,F,F,T,T,F,F,F,F,F,F,F] rfl rfl (aZ HT_.o HW_.o (by kernel_rfl)) hHeld (Or.inl ⟨by rfl,by rintro w' ⟨s0,s1,s2,s3,s4⟩;go_simp;with_reducible rfl⟩) ?_
       refine dM (i:=2) (N:=some 25) #[T,T,T,F,T,T,F,F,F,F,F,F,F] rfl rfl (bS HT_.o (by kernel_rfl)) (by decide) (fun K hK=>?_)
       refine cU Try.func22 (by kernel_rfl) rfl #[.slice Aw ((aG A6 A4).f0).length Ax] (by rfl) rfl rfl ga ?_
       with_reducible refine (bV.calls k1 _ _ ((aG A6 A4).f0) Bf _ ?side1 ?side2 Gk.o).mono ?_
       (case side1=>exact cq (Kd.C_below Bh.o HB.o))
       (case side2=>exact Bi.o)
       rintro e Hc ⟨Er,rfl,A8,hb⟩
       refine ⟨_,rfl,?_⟩
       have n_:=ak5 (re_ A2 A8 hb) (rn_ A8 A2 (bq2 HB.o A3.o Ac.o)) (kb A0 hb) (kb A1 hb) (aC (bq2 HB.o A3.o Ac.o) hb)
       clear A2 A0 A1 HB
       obtain ⟨A2,A9,A0,A1,HB⟩:=n_
       (try clear hb A8)
       obtain ⟨Es,Et,De⟩:=Kd.R_slice A9.o
       (first|subst De|(injection De with Ak B9 Al;have Ba:=Ak.symm;have Bb:=Al.symm;clear Ak B9 Al;subst Ba;subst Bb))
       refine hK.out _ _ ⟨(aA A1.o 0).trans rfl,(aA A1.o 1).trans rfl,(aA A1.o 2).trans rfl,(aA A1.o 3).trans rfl,(aA A1.o 4).trans rfl⟩ (fun hHeld=>?_)
       clear hK K
       refine bZ (a':=?_) ?_ ?_
       rotate_left
       · show Act.put _ (some 25) _=_
         simp only [Act.put,kX,kY,kZ,aI,aK]
         rfl
       refine dM (i:=3) (N:=some 26) #[T,T,T,T,T,T,F,F,F,F,F,F,F] rfl rfl (bS HT_.o (by kernel_rfl)) (by decide) (fun K hK=>?_)
       refine cU Try.func21 (by kernel_rfl) rfl #[.slice none 0 0,.int .i64 6,.slice Es Bf.length Et] (by rfl) rfl rfl ga ?_
       refine (dJ.calls k1 _ _ ([]:List Int) 6 _ _ Bf B1 _ ?side1 ?side2 ?side3 ?side4 Gl.o).mono ?_
       (case side1=>exact Kd.C_nil _ _)
       (case side2=>exact k7 _)
       (case side3=>repeat (first|exact (Kd.R_reads' A9.o).2.2|(with_reducible refine Kd.C_alloc ?_ _)|(with_reducible refine Kd.C_drewN ?_ _)|(with_reducible refine Kd.C_drew ?_)))
       (case side4=>exact (Kd.R_reads' A9.o).2.1)
       rintro e Hd ⟨Eu,rfl,A8,hb⟩
       refine ⟨_,rfl,?_⟩
       have n_:=ak6 (re_ A2 A8 hb) (re_ A9 A8 hb) (Kd.R_lower (Kd.R_new' (Kd.R_new' A8 (Kd.R_lt (kqR A2.o))) (Kd.R_lt (kqR A9.o))) (aH (bq2 HB.o A3.o Ac.o))) (kb A0 hb) (kb A1 hb) (aC (bq2 HB.o A3.o Ac.o) hb)
       clear A2 A9 A0 A1 HB
       obtain ⟨A2,A9,Ab,A0,A1,HB⟩:=n_
       (try clear hb A8)
       obtain ⟨Ev,Ew,Df⟩:=Kd.R_slice Ab.o
       (first|subst Df|(injection Df with Ak B9 Al;have Ba:=Ak.symm;have Bb:=Al.symm;clear Ak B9 Al;subst Ba;subst Bb))
       refine hK.out _ _ ⟨(aA A1.o 0).trans rfl,(aA A1.o 1).trans rfl,(aA A1.o 2).trans rfl,(aA A1.o 3).trans rfl,(aA A1.o 4).trans rfl⟩ (fun hHeld=>?_)
       clear hK K
       refine bZ (a':=?_) ?_ ?_
       rotate_left
       · show Act.put _ (some 26) _=_
         simp only [Act.put,kX,kY,kZ,aI,aK]
         rfl
       refine dM (i:=6) (N:=some 29) #[T,T,T,T,T,T,T,F,F,F,F,F,F] rfl rfl (bS HT_.o (by kernel_rfl)) (by decide) (fun K hK=>?_)
       refine cU Try.func20 (by kernel_rfl) rfl #[.slice Ev B1.length Ew,.agg #[.int .i64 ((aG A6 A4).f1.f0),.int .i64 ((aG A6 A4).f1.f1),.string ((aG A6 A4).f1.f2),.slice Ay ((aG A6 A4).f1.f3).length Az]] (by rfl) rfl rfl ga ?_
       with_reducible refine (fB.calls k1 _ _ B1 ((aG A6 A4).f1.f0) ((aG A6 A4).f1.f1) ((aG A6 A4).f1.f2) _ _ ((aG A6 A4).f1.f3) B2 _ ?side1 ?side2 ?side3 ?side4 Gm.o).mono ?_
       (case side1=>repeat (first|exact (Kd.R_reads' Ab.o).2.2|(with_reducible refine Kd.C_alloc ?_ _)|(with_reducible refine Kd.C_drewN ?_ _)|(with_reducible refine Kd.C_drew ?_)))
       (case side2=>exact (Kd.R_reads' Ab.o).2.1)
       (case side3=>exact cq (Kd.C_below Bj.o HB.o))
       (case side4=>exact Bk.o)
       rintro e He ⟨Ex,rfl,A8,hb⟩
       refine ⟨_,rfl,?_⟩
       have n_:=ak7 (re_ A2 A8 hb) (re_ A9 A8 hb) (re_ Ab A8 hb) (Kd.R_lower (Kd.R_new' (Kd.R_new' (Kd.R_new' A8 (Kd.R_lt (kqR A2.o))) (Kd.R_lt (kqR A9.o))) (Kd.R_lt (kqR Ab.o))) (aH (bq2 HB.o A3.o Ac.o))) (kb A0 hb) (kb A1 hb) (aC (bq2 HB.o A3.o Ac.o) hb)
       clear A2 A9 Ab A0 A1 HB
       obtain ⟨A2,A9,Ab,Ad,A0,A1,HB⟩:=n_
       (try clear hb A8)
       obtain ⟨Ey,Ez,Dg⟩:=Kd.R_slice Ad.o
       (first|subst Dg|(injection Dg with Ak B9 Al;have Ba:=Ak.symm;have Bb:=Al.symm;clear Ak B9 Al;subst Ba;subst Bb))
       refine hK.out _ _ ⟨(aA A1.o 0).trans rfl,(aA A1.o 1).trans rfl,(aA A1.o 2).trans rfl,(aA A1.o 3).trans rfl,(aA A1.o 4).trans rfl⟩ (fun hHeld=>?_)
       clear hK K
       refine bZ (a':=?_) ?_ ?_
       rotate_left
       · show Act.put _ (some 29) _=_
         simp only [Act.put,kX,kY,kZ,aI,aK]
         rfl
       refine dM (i:=7) (N:=some 30) #[T,T,T,T,T,T,T,T,F,F,F,F,F] rfl rfl (bS HT_.o (by kernel_rfl)) (by decide) (fun K hK=>?_)
       refine cU Try.func19 (by kernel_rfl) rfl #[.int .i64 48,.slice Ey B2.length Ez] (by rfl) rfl rfl ga ?_
       with_reducible refine (dY.calls k1 48 _ _ B2 Av false _ ?side1 ?side2 Dc.o).mono ?_
       (case side1=>repeat (first|exact (Kd.R_reads' Ad.o).2.2|(with_reducible refine Kd.C_alloc ?_ _)|(with_reducible refine Kd.C_drewN ?_ _)|(with_reducible refine Kd.C_drew ?_)))
       (case side2=>exact (Kd.R_reads' Ad.o).2.1)
       rintro e Hf ⟨G0,rfl,A8,hb⟩
       refine ⟨_,rfl,?_⟩
       have n_:=ak8 (re_ A2 A8 hb) (re_ A9 A8 hb) (re_ Ab A8 hb) (re_ Ad A8 hb) (Kd.R_lower (Kd.R_new' (Kd.R_new' (Kd.R_new' (Kd.R_new' A8 (Kd.R_lt (kqR A2.o))) (Kd.R_lt (kqR A9.o))) (Kd.R_lt (kqR Ab.o))) (Kd.R_lt (kqR Ad.o))) (aH (bq2 HB.o A3.o Ac.o))) (kb A0 hb) (kb A1 hb) (aC (bq2 HB.o A3.o Ac.o) hb)
       clear A2 A9 Ab Ad A0 A1 HB
       obtain ⟨A2,A9,Ab,Ad,Bc,A0,A1,HB⟩:=n_
       (try clear hb A8)
       refine hK.out _ _ ⟨(aA A1.o 0).trans rfl,(aA A1.o 1).trans rfl,(aA A1.o 2).trans rfl,(aA A1.o 3).trans rfl,(aA A1.o 4).trans rfl⟩ (fun hHeld=>?_)
       clear hK K
       refine bZ (a':=?_) ?_ ?_
       rotate_left
       · show Act.put _ (some 30) _=_
         simp only [Act.put,kX,kY,kZ,aI,aK]
         rfl
       refine pv HT_ 8 (some 22) #[T,T,T,T,T,T,T,T,T,F,F,F,F] ?_
       refine pv HT_ 9 (some 31) #[T,T,T,T,T,T,T,T,T,T,F,F,F] ?_
       refine pv HT_ 10 (some 32) #[T,T,T,T,T,T,T,T,T,T,T,F,F] ?_
       refine pv HT_ 11 (some 6) #[T,T,T,T,T,T,T,T,T,T,T,T,F] ?_
       refine pv HT_ 12 (some 7) #[T,T,T,T,T,T,T,T,T,T,T,T,T] ?_
       refine d5 (cL HT_.o (by kernel_rfl)) ?_
       try go_wp2
       go_ret
       exact ⟨_,rq,rn,bq2 HB.o A3.o Ac.o⟩
     replace H:=iT H
     replace H:=nq H
     obtain ⟨Gp,H⟩:=H
     have Dh:=am Gp
     clear Gp
     generalize Cj:((B0++Av):List Int)=G1 at H
     have Di:=am Cj.symm
     clear Cj
     have H':=am H
     clear H
     have Bm:0≤(A4:Int):=oda
     have Bn:A4<(A6.length:Int):=oda
     obtain ⟨Ci,Aw,Ax,Ay,Az,D8,Am,An,Ao,Ap,Aq,B3,B4,B5,B6⟩:=dR Bo.o A4 Bm Bn
     cases D8
     replace Am:=(HB.o.cell (kW w _ Am)).trans Am
     replace An:=(HB.o.cell (kW w _ An)).trans An
     replace Ao:=(HB.o.cell (kW w _ Ao)).trans Ao
     replace Ap:=(HB.o.cell (kW w _ Ap)).trans Ap
     replace Aq:=(HB.o.cell (kW w _ Aq)).trans Aq
     have Bh:=am B4
     have Bi:=am B3
     clear B4 B3
     have Bj:=am B6
     have Bk:=am B5
     clear B6 B5
     replace Bm:=eq_true Bm
     replace Bn:=eq_true Bn
     try go_wp2_with (first|((with_reducible refine aJ (N:=5) rfl ?_);refine bxe 5 #[.slice none 0 0,.int .i64 0,.int .i64 0,.string (⟨#[]⟩:ByteArray),.slice none 0 0] 45 ?_;intro Ag hg H3 hbox hb;have n_:=ak8 (rb A2 hb) (kb A0 hb) (aC (bq1 HB.o A3.o) hb) hbox (bz hg (bq1 HB.o A3.o)) (bz hg (bq1 HB.o A3.o)) (nL hg A0) (nG hg A0);clear A2 A0 HB;obtain ⟨A2,A0,HB,A1,Dd,Ac,Aj,B8⟩:=n_;clear hb hbox hg;have Gq:=B8.o;have Gr:=Aj.o;obtain ⟨Eg,Eh,Ei,Ej,Ek,El,Em,En,Eo,Ep⟩:=cl5 A1.o)|((with_reducible refine aQ (t:=45) (p:=5) rfl ?_);refine se 45 5 (s5 H3 Ag (.slice Aw ((aG A6 A4).f0).length Ax) (.int .i64 ((aG A6 A4).f1.f0)) (.int .i64 ((aG A6 A4).f1.f1)) (.string ((aG A6 A4).f1.f2)) (.slice Ay ((aG A6 A4).f1.f3).length Az)) ?_;intro H4 hw;have n_:=ak4 (sr5 hw A2 A1) (sf5 hw A0 Aj) (sc5 hw A1) (sb hw (bq2 HB.o A3.o Ac.o));clear hw A2 A0 A1 HB;obtain ⟨A2,A0,A1,HB⟩:=n_))
     have n_:=ak4 (Kd.R_drew A2.o) (a7 A0.o) (a7 A1.o) (bB HB.o)
     clear A2 A0 A1 HB
     obtain ⟨A2,A0,A1,HB⟩:=n_
     refine cW (n:=13) (S:=fun w'=>w'.cell? ⟨Ag,0,none⟩=some (.slice Aw ((aG A6 A4).f0).length Ax)∧w'.cell? ⟨Ag,1,none⟩=some (.int .i64 ((aG A6 A4).f1.f0))∧w'.cell? ⟨Ag,2,none⟩=some (.int .i64 ((aG A6 A4).f1.f1))∧w'.cell? ⟨Ag,3,none⟩=some (.string ((aG A6 A4).f1.f2))∧w'.cell? ⟨Ag,4,none⟩=some (.slice Ay ((aG A6 A4).f1.f3).length Az)) (ds:=[]) #[F,F,F,F,F,F,F,F,F,F,F,F,F] (by kernel_rfl) rfl rfl ⟨(aA A1.o 0).trans rfl,(aA A1.o 1).trans rfl,(aA A1.o 2).trans rfl,(aA A1.o 3).trans rfl,(aA A1.o 4).trans rfl⟩ (fun hHeld=>?_);refine bW bG.tab7 bG.bits7 (fun HT_ HW_=>?_)
     generalize H4.drew=Hg at A2 A0 A1 HB hHeld ⊢
     refine pv HT_ 0 (some 23) #[T,F,F,F,F,F,F,F,F,F,F,F,F] ?_
     refine pv HT_ 4 (some 27) #[T,F,F,F,T,F,F,F,F,F,F,F,F] ?_
     refine tk 1 (some 24) #[T,T,F,F,T,F,F,F,F,F,F,F,F] rfl rfl (aZ HT_.o HW_.o (by kernel_rfl)) hHeld (Or.inl ⟨by rfl,by rintro w' ⟨s0,s1,s2,s3,s4⟩;go_simp;with_reducible rfl⟩) ?_
     refine tk 5 (some 28) #[T,T,F,F,T,T,F,F,F,F,F,F,F] rfl rfl (aZ HT_.o HW_.o (by kernel_rfl)) hHeld (Or.inl ⟨by rfl,by rintro w' ⟨s0,s1,s2,s3,s4⟩;go_simp;with_reducible rfl⟩) ?_
     refine dM (i:=2) (N:=some 25) #[T,T,T,F,T,T,F,F,F,F,F,F,F] rfl rfl (bS HT_.o (by kernel_rfl)) (by decide) (fun K hK=>?_)
     refine cU Try.func22 (by kernel_rfl) rfl #[.slice Aw ((aG A6 A4).f0).length Ax] (by rfl) rfl rfl ga ?_
     with_reducible refine (bV.calls k1 _ _ ((aG A6 A4).f0) Bf _ ?side1 ?side2 Gk.o).mono ?_
     (case side1=>exact cq (Kd.C_below Bh.o HB.o))
     (case side2=>exact Bi.o)
     rintro e Hh ⟨Er,rfl,A8,hb⟩
     refine ⟨_,rfl,?_⟩
     have n_:=ak5 (re_ A2 A8 hb) (rn_ A8 A2 (bq2 HB.o A3.o Ac.o)) (kb A0 hb) (kb A1 hb) (aC (bq2 HB.o A3.o Ac.o) hb)
     clear A2 A0 A1 HB
     obtain ⟨A2,A9,A0,A1,HB⟩:=n_
     (try clear hb A8)
     obtain ⟨Bq,Br,Dj⟩:=Kd.R_slice A9.o
     (first|subst Dj|(injection Dj with Ak B9 Al;have Ba:=Ak.symm;have Bb:=Al.symm;clear Ak B9 Al;subst Ba;subst Bb))
     refine hK.out _ _ ⟨(aA A1.o 0).trans rfl,(aA A1.o 1).trans rfl,(aA A1.o 2).trans rfl,(aA A1.o 3).trans rfl,(aA A1.o 4).trans rfl⟩ (fun hHeld=>?_)
     clear hK K
     refine bZ (a':=?_) ?_ ?_
     rotate_left
     · show Act.put _ (some 25) _=_
       simp only [Act.put,kX,kY,kZ,aI,aK]
       rfl
     refine dM (i:=3) (N:=some 26) #[T,T,T,T,T,T,F,F,F,F,F,F,F] rfl rfl (bS HT_.o (by kernel_rfl)) (by decide) (fun K hK=>?_)
     refine cU Try.func21 (by kernel_rfl) rfl #[.slice none 0 0,.int .i64 6,.slice Bq Bf.length Br] (by rfl) rfl rfl ga ?_
     refine (dJ.calls k1 _ _ ([]:List Int) 6 _ _ Bf B1 _ ?side1 ?side2 ?side3 ?side4 Gl.o).mono ?_
     (case side1=>exact Kd.C_nil _ _)
     (case side2=>exact k7 _)
     (case side3=>repeat (first|exact (Kd.R_reads' A9.o).2.2|(with_reducible refine Kd.C_alloc ?_ _)|(with_reducible refine Kd.C_drewN ?_ _)|(with_reducible refine Kd.C_drew ?_)))
     (case side4=>exact (Kd.R_reads' A9.o).2.1)
     rintro e Hi ⟨Eu,rfl,A8,hb⟩
     refine ⟨_,rfl,?_⟩
     have n_:=ak6 (re_ A2 A8 hb) (re_ A9 A8 hb) (Kd.R_lower (Kd.R_new' (Kd.R_new' A8 (Kd.R_lt (kqR A2.o))) (Kd.R_lt (kqR A9.o))) (aH (bq2 HB.o A3.o Ac.o))) (kb A0 hb) (kb A1 hb) (aC (bq2 HB.o A3.o Ac.o) hb)
     clear A2 A9 A0 A1 HB
     obtain ⟨A2,A9,Ab,A0,A1,HB⟩:=n_
     (try clear hb A8)
     obtain ⟨Bs,Bt,Dk⟩:=Kd.R_slice Ab.o
     (first|subst Dk|(injection Dk with Ak B9 Al;have Ba:=Ak.symm;have Bb:=Al.symm;clear Ak B9 Al;subst Ba;subst Bb))
     refine hK.out _ _ ⟨(aA A1.o 0).trans rfl,(aA A1.o 1).trans rfl,(aA A1.o 2).trans rfl,(aA A1.o 3).trans rfl,(aA A1.o 4).trans rfl⟩ (fun hHeld=>?_)
     clear hK K
     refine bZ (a':=?_) ?_ ?_
     rotate_left
     · show Act.put _ (some 26) _=_
       simp only [Act.put,kX,kY,kZ,aI,aK]
       rfl
     refine dM (i:=6) (N:=some 29) #[T,T,T,T,T,T,T,F,F,F,F,F,F] rfl rfl (bS HT_.o (by kernel_rfl)) (by decide) (fun K hK=>?_)
     refine cU Try.func20 (by kernel_rfl) rfl #[.slice Bs B1.length Bt,.agg #[.int .i64 ((aG A6 A4).f1.f0),.int .i64 ((aG A6 A4).f1.f1),.string ((aG A6 A4).f1.f2),.slice Ay ((aG A6 A4).f1.f3).length Az]] (by rfl) rfl rfl ga ?_
     with_reducible refine (fB.calls k1 _ _ B1 ((aG A6 A4).f1.f0) ((aG A6 A4).f1.f1) ((aG A6 A4).f1.f2) _ _ ((aG A6 A4).f1.f3) B2 _ ?side1 ?side2 ?side3 ?side4 Gm.o).mono ?_
     (case side1=>repeat (first|exact (Kd.R_reads' Ab.o).2.2|(with_reducible refine Kd.C_alloc ?_ _)|(with_reducible refine Kd.C_drewN ?_ _)|(with_reducible refine Kd.C_drew ?_)))
     (case side2=>exact (Kd.R_reads' Ab.o).2.1)
     (case side3=>exact cq (Kd.C_below Bj.o HB.o))
     (case side4=>exact Bk.o)
     rintro e Hj ⟨Ex,rfl,A8,hb⟩
     refine ⟨_,rfl,?_⟩
     have n_:=ak7 (re_ A2 A8 hb) (re_ A9 A8 hb) (re_ Ab A8 hb) (Kd.R_lower (Kd.R_new' (Kd.R_new' (Kd.R_new' A8 (Kd.R_lt (kqR A2.o))) (Kd.R_lt (kqR A9.o))) (Kd.R_lt (kqR Ab.o))) (aH (bq2 HB.o A3.o Ac.o))) (kb A0 hb) (kb A1 hb) (aC (bq2 HB.o A3.o Ac.o) hb)
     clear A2 A9 Ab A0 A1 HB
     obtain ⟨A2,A9,Ab,Ad,A0,A1,HB⟩:=n_
     (try clear hb A8)
     obtain ⟨Bu,Bv,Dl⟩:=Kd.R_slice Ad.o
     (first|subst Dl|(injection Dl with Ak B9 Al;have Ba:=Ak.symm;have Bb:=Al.symm;clear Ak B9 Al;subst Ba;subst Bb))
     refine hK.out _ _ ⟨(aA A1.o 0).trans rfl,(aA A1.o 1).trans rfl,(aA A1.o 2).trans rfl,(aA A1.o 3).trans rfl,(aA A1.o 4).trans rfl⟩ (fun hHeld=>?_)
     clear hK K
     refine bZ (a':=?_) ?_ ?_
     rotate_left
     · show Act.put _ (some 29) _=_
       simp only [Act.put,kX,kY,kZ,aI,aK]
       rfl
     refine dM (i:=7) (N:=some 30) #[T,T,T,T,T,T,T,T,F,F,F,F,F] rfl rfl (bS HT_.o (by kernel_rfl)) (by decide) (fun K hK=>?_)
     refine cU Try.func19 (by kernel_rfl) rfl #[.int .i64 48,.slice Bu B2.length Bv] (by rfl) rfl rfl ga ?_
     with_reducible refine (dY.calls k1 48 _ _ B2 Av true _ ?side1 ?side2 Dc.o).mono ?_
     (case side1=>repeat (first|exact (Kd.R_reads' Ad.o).2.2|(with_reducible refine Kd.C_alloc ?_ _)|(with_reducible refine Kd.C_drewN ?_ _)|(with_reducible refine Kd.C_drew ?_)))
     (case side2=>exact (Kd.R_reads' Ad.o).2.1)
     rintro e Hk ⟨G0,rfl,A8,hb⟩
     refine ⟨_,rfl,?_⟩
     have n_:=ak8 (re_ A2 A8 hb) (re_ A9 A8 hb) (re_ Ab A8 hb) (re_ Ad A8 hb) (Kd.R_lower (Kd.R_new' (Kd.R_new' (Kd.R_new' (Kd.R_new' A8 (Kd.R_lt (kqR A2.o))) (Kd.R_lt (kqR A9.o))) (Kd.R_lt (kqR Ab.o))) (Kd.R_lt (kqR Ad.o))) (aH (bq2 HB.o A3.o Ac.o))) (kb A0 hb) (kb A1 hb) (aC (bq2 HB.o A3.o Ac.o) hb)
     clear A2 A9 Ab Ad A0 A1 HB
     obtain ⟨A2,A9,Ab,Ad,Bc,A0,A1,HB⟩:=n_
     (try clear hb A8)
     refine hK.out _ _ ⟨(aA A1.o 0).trans rfl,(aA A1.o 1).trans rfl,(aA A1.o 2).trans rfl,(aA A1.o 3).trans rfl,(aA A1.o 4).trans rfl⟩ (fun hHeld=>?_)
     clear hK K
     refine bZ (a':=?_) ?_ ?_
     rotate_left
     · show Act.put _ (some 30) _=_
       simp only [Act.put,kX,kY,kZ,aI,aK]
       rfl
     refine pv HT_ 8 (some 22) #[T,T,T,T,T,T,T,T,T,F,F,F,F] ?_
     refine pv HT_ 9 (some 31) #[T,T,T,T,T,T,T,T,T,T,F,F,F] ?_
     refine pv HT_ 10 (some 32) #[T,T,T,T,T,T,T,T,T,T,T,F,F] ?_
     refine pv HT_ 11 (some 6) #[T,T,T,T,T,T,T,T,T,T,T,T,F] ?_
     refine pv HT_ 12 (some 7) #[T,T,T,T,T,T,T,T,T,T,T,T,T] ?_
     refine d5 (cL HT_.o (by kernel_rfl)) ?_
     obtain ⟨C4,C5,G2⟩:=Kd.R_slice Bc.o
     subst G2
     try go_wp2_with (first|((with_reducible refine bM (b:=.append) (xs:=#[.tmp 35,.tmp 36]) rfl ?_);at_builtin;refine Kd.R_append_rows (Kd.int .u8) (w0:=w) w.heap.size rfl (.tmp 35) (.tmp 36) 22 5 (.int .u8 0) 1 rfl Try.underlying22 eH rfl (by decide) (by omega) u3 B0 Av _ _ _ (fun k_=>some k_≠(.slice Bq Bf.length Br:Value).ownBlock∧some k_≠(.slice Bs B1.length Bt:Value).ownBlock∧some k_≠(.slice Bu B2.length Bv:Value).ownBlock∧some k_≠(.slice C4 Av.length C5:Value).ownBlock) (fun _=>False) rfl rfl ?aO ?aR (fun _ _ h=>h) (fun _ h=>h.elim) ?aF ?aB ?aS ?aL ?_;(case aR=>repeat (first|exact (Kd.R_reads' Bc.o).2.2|(with_reducible refine Kd.C_alloc ?_ _)|(with_reducible refine Kd.C_drewN ?_ _)|(with_reducible refine Kd.C_drew ?_)));(case aB=>exact (bq2 HB.o A3.o Ac.o));(case aF=>exact (fun k_ hk=>⟨Kd.fresh' (Kd.R_lt (kqR A9.o)) k_ hk,Kd.fresh' (Kd.R_lt (kqR Ab.o)) k_ hk,Kd.fresh' (Kd.R_lt (kqR Ad.o)) k_ hk,Kd.fresh' (Kd.R_lt (kqR Bc.o)) k_ hk⟩));(case aO=>exact (by refine kr ?_;exact Kd.R_mono A2.o (fun _ hk=>⟨hk.1.1.1.2,⟨hk.1.1.2,⟨hk.1.2,hk.2⟩⟩⟩)));(case aS=>exact (aH (bq2 HB.o A3.o Ac.o)));(case aL=>have:=Dh.o;omega);intro H5 Hl ho hb hg hat;rw [← Di.o] at ho;have n_:=ak8 (cB (g:=Ae) (o:=.cells #[.int .i64 Ar,.int .i64 As,.int .i64 At,.int .i64 Au,.slice (some Ci) A6.length Be] 26 (0,0)) (zq A0.o) hg (Kd.R_ne A2.o A0.o (by decide))) (cB (g:=Ag) (o:=.cells #[.slice Aw ((aG A6 A4).f0).length Ax,.int .i64 ((aG A6 A4).f1.f0),.int .i64 ((aG A6 A4).f1.f1),.string ((aG A6 A4).f1.f2),.slice Ay ((aG A6 A4).f1.f3).length Az] 45 (0,0)) (zq A1.o) hg (Kd.R_ne A2.o A1.o (by decide))) (Kd.R_after (ok:=(fun k_=>some k_≠(.slice Bs B1.length Bt:Value).ownBlock∧some k_≠(.slice Bu B2.length Bv:Value).ownBlock∧some k_≠(.slice C4 Av.length C5:Value).ownBlock)) (by refine kr ?_;exact Kd.R_mono A9.o (fun _ hk=>⟨⟨hk.1.1.2,⟨hk.1.2,hk.2⟩⟩,hk.1.1.1.2⟩)) hg hat) (Kd.R_after (ok:=(fun k_=>some k_≠(.slice Bq Bf.length Br:Value).ownBlock∧some k_≠(.slice Bu B2.length Bv:Value).ownBlock∧some k_≠(.slice C4 Av.length C5:Value).ownBlock)) (by refine kr ?_;exact Kd.R_mono Ab.o (fun _ hk=>⟨⟨hk.1.1.2,⟨hk.1.2,hk.2⟩⟩,hk.1.1.1.2⟩)) hg hat) (Kd.R_after (ok:=(fun k_=>some k_≠(.slice Bq Bf.length Br:Value).ownBlock∧some k_≠(.slice Bs B1.length Bt:Value).ownBlock∧some k_≠(.slice C4 Av.length C5:Value).ownBlock)) (by refine kr ?_;exact Kd.R_mono Ad.o (fun _ hk=>⟨⟨hk.1.1.2,⟨hk.1.2,hk.2⟩⟩,hk.1.1.1.2⟩)) hg hat) (Kd.R_after (ok:=(fun k_=>some k_≠(.slice Bq Bf.length Br:Value).ownBlock∧some k_≠(.slice Bs B1.length Bt:Value).ownBlock∧some k_≠(.slice Bu B2.length Bv:Value).ownBlock)) (by refine kr ?_;exact Kd.R_mono Bc.o (fun _ hk=>⟨⟨hk.1.1.2,⟨hk.1.2,hk.2⟩⟩,hk.1.1.1.2⟩)) hg hat) hb ho;clear A0 A1 A9 Ab Ad Bc HB A2;obtain ⟨A0,A1,A9,Ab,Ad,Bc,HB,Dm⟩:=n_;clear ho hb hg hat))
     go_roundg k1
     case measure=>have:=Gi.o;omega
     case rel=>exact ⟨(G1),(wrap64 (A4+1)),sq,H',⟨by have:=Gi.o;omega⟩,⟨by refine kr ?_;exact Kd.R_mono Dm.o (fun _ hk=>trivial)⟩,⟨zq A0.o⟩,⟨bq2 HB.o A3.o Ac.o⟩⟩
   replace H:=be H
   obtain ⟨⟨B7,G3⟩,G4,H⟩:=H
   try dsimp only at H
   cases G3
   · replace H:=iF H
     obtain rfl:=k6 H
     obtain ⟨H6,H7,G5⟩:=Kd.R_slice A2.o
     subst G5
     go_wp2_with (first|((with_reducible refine aE (f:=19) rfl ?_);refine gc (some 41) (dY.calls k1 48 _ _ B0 B7 false _ (cq (Kd.R_reads' A2.o).2.2) ((Kd.R_reads' A2.o).2.1) G4.o) Try.func19 ?_;rintro e Hm ⟨Dn,rfl,A8,hb⟩;refine ⟨_,rfl,?_⟩;have n_:=ak4 (re_ A2 A8 hb) (rn_ A8 A2 (bq1 HB.o A3.o)) (kb A0 hb) (aC (bq1 HB.o A3.o) hb);clear A2 A0 HB;obtain ⟨A2,A5,A0,HB⟩:=n_;(try clear hb A8)))
     go_ret
     exact ⟨_,rq,rn,bq1 HB.o A3.o⟩
   replace H:=iT H
   replace H:=be H
   obtain ⟨Ah,Gs,H⟩:=H
   replace H:=be H
   obtain ⟨Ai,Gt,H⟩:=H
   replace H:=be H
   obtain ⟨Bl,Gu,H⟩:=H
   replace H:=nq H
   obtain ⟨Gv,H⟩:=H
   have Ck:=am Gv
   clear Gv
   generalize Cl:((Bl++B7):List Int)=C6 at H
   have Cm:=am Cl.symm
   clear Cl
   replace H:=be H
   obtain ⟨⟨Av,Bp⟩,Dc,H⟩:=H
   try dsimp only at H
   rcases bt Bp with rfl|rfl
   · replace H:=iT H
     obtain rfl:=k6 H
     obtain ⟨C7,C8,G6⟩:=Kd.R_slice A2.o
     subst G6
     try go_wp2_with (first|((with_reducible refine aE (f:=19) rfl ?_);refine gc (some 41) (dY.calls k1 48 _ _ B0 B7 true _ (cq (Kd.R_reads' A2.o).2.2) ((Kd.R_reads' A2.o).2.1) G4.o) Try.func19 ?_;rintro e H8 ⟨Dn,rfl,A8,hb⟩;refine ⟨_,rfl,?_⟩;have n_:=ak4 (re_ A2 A8 hb) (rn_ A8 A2 (bq1 HB.o A3.o)) (kb A0 hb) (aC (bq1 HB.o A3.o) hb);clear A2 A0 HB;obtain ⟨A2,A5,A0,HB⟩:=n_;(try clear hb A8)))
     have n_:=ak4 (Kd.R_drew A2.o) (Kd.R_drew A5.o) (a7 A0.o) (bB HB.o)
     clear A2 A5 A0 HB
     obtain ⟨A2,A5,A0,HB⟩:=n_
     refine cW (n:=19) (S:=fun w'=>w'.cell? ⟨Ae,0,none⟩=some (.int .i64 Ar)∧w'.cell? ⟨Ae,1,none⟩=some (.int .i64 As)∧w'.cell? ⟨Ae,2,none⟩=some (.int .i64 At)∧w'.cell? ⟨Ae,3,none⟩=some (.int .i64 Au)∧w'.cell? ⟨Ae,4,none⟩=some (.slice Bg A6.length Be)) (ds:=[]) #[F,F,F,F,F,F,F,F,F,F,F,F,F,F,F,F,F,F,F] (by kernel_rfl) rfl rfl ⟨(aA A0.o 0).trans rfl,(aA A0.o 1).trans rfl,(aA A0.o 2).trans rfl,(aA A0.o 3).trans rfl,(aA A0.o 4).trans rfl⟩ (fun hHeld=>?_);refine bW bG.tab15 bG.bits15 (fun HT_ HW_=>?_)
     generalize H8.drew=Hn at A2 A5 A0 HB hHeld ⊢
     refine pv HT_ 0 (some 47) #[T,F,F,F,F,F,F,F,F,F,F,F,F,F,F,F,F,F,F] ?_
     refine pv HT_ 2 (some 49) #[T,F,T,F,F,F,F,F,F,F,F,F,F,F,F,F,F,F,F] ?_
     refine pv HT_ 5 (some 52) #[T,F,T,F,F,T,F,F,F,F,F,F,F,F,F,F,F,F,F] ?_
     refine pv HT_ 8 (some 55) #[T,F,T,F,F,T,F,F,T,F,F,F,F,F,F,F,F,F,F] ?_
     refine pv HT_ 11 (some 58) #[T,F,T,F,F,T,F,F,T,F,F,T,F,F,F,F,F,F,F] ?_
     refine tk 1 (some 48) #[T,T,T,F,F,T,F,F,T,F,F,T,F,F,F,F,F,F,F] rfl rfl (aZ HT_.o HW_.o (by kernel_rfl)) hHeld (Or.inl ⟨by rfl,by rintro w' ⟨s0,s1,s2,s3,s4⟩;go_simp;with_reducible rfl⟩) ?_
     refine tk 3 (some 50) #[T,T,T,T,F,T,F,F,T,F,F,T,F,F,F,F,F,F,F] rfl rfl (aZ HT_.o HW_.o (by kernel_rfl)) hHeld (Or.inl ⟨by rfl,by rintro w' ⟨s0,s1,s2,s3,s4⟩;go_simp;with_reducible rfl⟩) ?_
     refine tk 6 (some 53) #[T,T,T,T,F,T,T,F,T,F,F,T,F,F,F,F,F,F,F] rfl rfl (aZ HT_.o HW_.o (by kernel_rfl)) hHeld (Or.inl ⟨by rfl,by rintro w' ⟨s0,s1,s2,s3,s4⟩;go_simp;with_reducible rfl⟩) ?_
     refine tk 9 (some 56) #[T,T,T,T,F,T,T,F,T,T,F,T,F,F,F,F,F,F,F] rfl rfl (aZ HT_.o HW_.o (by kernel_rfl)) hHeld (Or.inl ⟨by rfl,by rintro w' ⟨s0,s1,s2,s3,s4⟩;go_simp;with_reducible rfl⟩) ?_
     refine dM (i:=4) (N:=some 51) #[T,T,T,T,T,T,T,F,T,T,F,T,F,F,F,F,F,F,F] rfl rfl (bS HT_.o (by kernel_rfl)) (by decide) (fun K hK=>?_)
     refine cU Try.func23 (by kernel_rfl) rfl #[.slice none 0 0,.int .i64 2,.int .i64 As] (by rfl) rfl rfl ga ?_
     refine (eE.calls k1 _ _ ([]:List Int) 2 As Ah _ ?side1 ?side2 Gs.o).mono ?_
     (case side1=>exact Kd.C_nil _ _)
     (case side2=>exact k7 _)
     rintro e Ho ⟨G7,rfl,A8,hb⟩
     refine ⟨_,rfl,?_⟩
     have n_:=ak5 (re_ A2 A8 hb) (re_ A5 A8 hb) (Kd.R_lower (Kd.R_new' (Kd.R_new' A8 (Kd.R_lt (kqR A2.o))) (Kd.R_lt (kqR A5.o))) (aH (bq1 HB.o A3.o))) (kb A0 hb) (aC (bq1 HB.o A3.o) hb)
     clear A2 A5 A0 HB
     obtain ⟨A2,A5,A7,A0,HB⟩:=n_
     (try clear hb A8)
     obtain ⟨Bw,Bx,Do⟩:=Kd.R_slice A7.o
     (first|subst Do|(injection Do with Ak B9 Al;have Ba:=Ak.symm;have Bb:=Al.symm;clear Ak B9 Al;subst Ba;subst Bb))
     refine hK.out _ _ ⟨(aA A0.o 0).trans rfl,(aA A0.o 1).trans rfl,(aA A0.o 2).trans rfl,(aA A0.o 3).trans rfl,(aA A0.o 4).trans rfl⟩ (fun hHeld=>?_)
     clear hK K
     refine bZ (a':=?_) ?_ ?_
     rotate_left
     · show Act.put _ (some 51) _=_
       simp only [Act.put,kX,kY,kZ,aI,aK]
       rfl
     refine dM (i:=7) (N:=some 54) #[T,T,T,T,T,T,T,T,T,T,F,T,F,F,F,F,F,F,F] rfl rfl (bS HT_.o (by kernel_rfl)) (by decide) (fun K hK=>?_)
     refine cU Try.func23 (by kernel_rfl) rfl #[.slice Bw Ah.length Bx,.int .i64 2,.int .i64 At] (by rfl) rfl rfl ga ?_
     with_reducible refine (eE.calls k1 _ _ Ah 2 At Ai _ ?side1 ?side2 Gt.o).mono ?_
     (case side1=>repeat (first|exact (Kd.R_reads' A7.o).2.2|(with_reducible refine Kd.C_alloc ?_ _)|(with_reducible refine Kd.C_drewN ?_ _)|(with_reducible refine Kd.C_drew ?_)))
     (case side2=>exact (Kd.R_reads' A7.o).2.1)
     rintro e Hp ⟨G8,rfl,A8,hb⟩
     refine ⟨_,rfl,?_⟩
     have n_:=ak6 (re_ A2 A8 hb) (re_ A5 A8 hb) (re_ A7 A8 hb) (Kd.R_lower (Kd.R_new' (Kd.R_new' (Kd.R_new' A8 (Kd.R_lt (kqR A2.o))) (Kd.R_lt (kqR A5.o))) (Kd.R_lt (kqR A7.o))) (aH (bq1 HB.o A3.o))) (kb A0 hb) (aC (bq1 HB.o A3.o) hb)
     clear A2 A5 A7 A0 HB
     obtain ⟨A2,A5,A7,Aa,A0,HB⟩:=n_
     (try clear hb A8)
     obtain ⟨By,Bz,Dp⟩:=Kd.R_slice Aa.o
     (first|subst Dp|(injection Dp with Ak B9 Al;have Ba:=Ak.symm;have Bb:=Al.symm;clear Ak B9 Al;subst Ba;subst Bb))
     refine hK.out _ _ ⟨(aA A0.o 0).trans rfl,(aA A0.o 1).trans rfl,(aA A0.o 2).trans rfl,(aA A0.o 3).trans rfl,(aA A0.o 4).trans rfl⟩ (fun hHeld=>?_)
     clear hK K
     refine bZ (a':=?_) ?_ ?_
     rotate_left
     · show Act.put _ (some 54) _=_
       simp only [Act.put,kX,kY,kZ,aI,aK]
       rfl
     refine dM (i:=10) (N:=some 57) #[T,T,T,T,T,T,T,T,T,T,T,T,F,F,F,F,F,F,F] rfl rfl (bS HT_.o (by kernel_rfl)) (by decide) (fun K hK=>?_)
     refine cU Try.func23 (by kernel_rfl) rfl #[.slice By Ai.length Bz,.int .i64 2,.int .i64 Au] (by rfl) rfl rfl ga ?_
     with_reducible refine (eE.calls k1 _ _ Ai 2 Au Bl _ ?side1 ?side2 Gu.o).mono ?_
     (case side1=>repeat (first|exact (Kd.R_reads' Aa.o).2.2|(with_reducible refine Kd.C_alloc ?_ _)|(with_reducible refine Kd.C_drewN ?_ _)|(with_reducible refine Kd.C_drew ?_)))
     (case side2=>exact (Kd.R_reads' Aa.o).2.1)
     rintro e Hq ⟨D9,rfl,A8,hb⟩
     refine ⟨_,rfl,?_⟩
     have n_:=ak7 (re_ A2 A8 hb) (re_ A5 A8 hb) (re_ A7 A8 hb) (re_ Aa A8 hb) (Kd.R_lower (Kd.R_new' (Kd.R_new' (Kd.R_new' (Kd.R_new' A8 (Kd.R_lt (kqR A2.o))) (Kd.R_lt (kqR A5.o))) (Kd.R_lt (kqR A7.o))) (Kd.R_lt (kqR Aa.o))) (aH (bq1 HB.o A3.o))) (kb A0 hb) (aC (bq1 HB.o A3.o) hb)
     clear A2 A5 A7 Aa A0 HB
     obtain ⟨A2,A5,A7,Aa,Bd,A0,HB⟩:=n_
     (try clear hb A8)
     obtain ⟨C9,Ca,Dq⟩:=Kd.R_slice A5.o
     (first|subst Dq|(injection Dq with Ak B9 Al;have Ba:=Ak.symm;have Bb:=Al.symm;clear Ak B9 Al;subst Ba;subst Bb))
     refine hK.out _ _ ⟨(aA A0.o 0).trans rfl,(aA A0.o 1).trans rfl,(aA A0.o 2).trans rfl,(aA A0.o 3).trans rfl,(aA A0.o 4).trans rfl⟩ (fun hHeld=>?_)
     clear hK K
     refine bZ (a':=?_) ?_ ?_
     rotate_left
     · show Act.put _ (some 57) _=_
       simp only [Act.put,kX,kY,kZ,aI,aK]
       rfl
     refine dM (i:=12) (N:=some 59) #[T,T,T,T,T,T,T,T,T,T,T,T,T,F,F,F,F,F,F] rfl rfl (bS HT_.o (by kernel_rfl)) (by decide) (fun K hK=>?_)
     refine Kd.R_append_rows_step (Kd.int .u8) (w0:=w) w.heap.size (by rfl) (.tmp 57) (.tmp 58) 22 5 (.int .u8 0) 1 rfl Try.underlying22 eH rfl (by decide) (by omega) D9 Bl B7 _ _ _ (fun k_=>some k_≠(.slice C7 B0.length C8:Value).ownBlock∧some k_≠(.slice C9 B7.length Ca:Value).ownBlock∧some k_≠(.slice Bw Ah.length Bx:Value).ownBlock∧some k_≠(.slice By Ai.length Bz:Value).ownBlock) (fun _=>False) rfl rfl ?aO ?aR (fun _ _ h=>h) (fun _ h=>h.elim) ?aF ?aB ?aS ?aL ?_
     (case aR=>repeat (first|exact (Kd.R_reads' A5.o).2.2|(with_reducible refine Kd.C_alloc ?_ _)|(with_reducible refine Kd.C_drewN ?_ _)|(with_reducible refine Kd.C_drew ?_)))
     (case aB=>exact (bq1 HB.o A3.o))
     (case aF=>exact (fun k_ hk=>⟨Kd.fresh' (Kd.R_lt (kqR A2.o)) k_ hk,Kd.fresh' (Kd.R_lt (kqR A5.o)) k_ hk,Kd.fresh' (Kd.R_lt (kqR A7.o)) k_ hk,Kd.fresh' (Kd.R_lt (kqR Aa.o)) k_ hk⟩))
     (case aO=>exact (by refine kr ?_;exact Kd.R_mono Bd.o (fun _ hk=>⟨hk.1.1.1.2,⟨hk.1.1.2,⟨hk.1.2,hk.2⟩⟩⟩)))
     (case aS=>exact (aH (bq1 HB.o A3.o)))
     (case aL=>have:=Ck.o;omega)
     intro G9 Hr ho hb hg hat
     rw [← Cm.o] at ho
     have n_:=ak7 (Kd.R_after (ok:=(fun k_=>some k_≠(.slice C9 B7.length Ca:Value).ownBlock∧some k_≠(.slice Bw Ah.length Bx:Value).ownBlock∧some k_≠(.slice By Ai.length Bz:Value).ownBlock)) (by refine kr ?_;exact Kd.R_mono A2.o (fun _ hk=>⟨⟨hk.1.1.1.2,⟨hk.1.1.2,hk.1.2⟩⟩,hk.2⟩)) hg hat) (cB (g:=Ae) (o:=.cells #[.int .i64 Ar,.int .i64 As,.int .i64 At,.int .i64 Au,.slice Bg A6.length Be] 26 (0,0)) (zq A0.o) hg (Kd.R_ne Bd.o A0.o (by decide))) (Kd.R_after (ok:=(fun k_=>some k_≠(.slice C7 B0.length C8:Value).ownBlock∧some k_≠(.slice Bw Ah.length Bx:Value).ownBlock∧some k_≠(.slice By Ai.length Bz:Value).ownBlock)) (by refine kr ?_;exact Kd.R_mono A5.o (fun _ hk=>⟨⟨hk.1.1.1.2,⟨hk.1.1.2,hk.1.2⟩⟩,hk.2⟩)) hg hat) (Kd.R_after (ok:=(fun k_=>some k_≠(.slice C7 B0.length C8:Value).ownBlock∧some k_≠(.slice C9 B7.length Ca:Value).ownBlock∧some k_≠(.slice By Ai.length Bz:Value).ownBlock)) (by refine kr ?_;exact Kd.R_mono A7.o (fun _ hk=>⟨⟨hk.1.1.1.2,⟨hk.1.1.2,hk.1.2⟩⟩,hk.2⟩)) hg hat) (Kd.R_after (ok:=(fun k_=>some k_≠(.slice C7 B0.length C8:Value).ownBlock∧some k_≠(.slice C9 B7.length Ca:Value).ownBlock∧some k_≠(.slice Bw Ah.length Bx:Value).ownBlock)) (by refine kr ?_;exact Kd.R_mono Aa.o (fun _ hk=>⟨⟨hk.1.1.1.2,⟨hk.1.1.2,hk.1.2⟩⟩,hk.2⟩)) hg hat) hb ho
     clear A2 A0 A5 A7 Aa HB Bd
     obtain ⟨A2,A0,A5,A7,Aa,HB,Af⟩:=n_
     clear ho hb hg hat
     obtain ⟨Ga,Gb,Dr⟩:=Kd.R_slice Af.o
     (first|subst Dr|(injection Dr with Ak B9 Al;have Ba:=Ak.symm;have Bb:=Al.symm;clear Ak B9 Al;subst Ba;subst Bb))
     refine hK.out _ _ ⟨(aA A0.o 0).trans rfl,(aA A0.o 1).trans rfl,(aA A0.o 2).trans rfl,(aA A0.o 3).trans rfl,(aA A0.o 4).trans rfl⟩ (fun hHeld=>?_)
     clear hK K
     refine bZ (a':=?_) ?_ ?_
     rotate_left
     · show Act.put _ (some 59) _=_
       simp only [Act.put,kX,kY,kZ,aI,aK]
       rfl
     refine dM (i:=13) (N:=some 60) #[T,T,T,T,T,T,T,T,T,T,T,T,T,T,F,F,F,F,F] rfl rfl (bS HT_.o (by kernel_rfl)) (by decide) (fun K hK=>?_)
     refine cU Try.func19 (by kernel_rfl) rfl #[.int .i64 Ar,.slice Ga C6.length Gb] (by rfl) rfl rfl ga ?_
     with_reducible refine (dY.calls k1 Ar _ _ C6 Av true _ ?side1 ?side2 Dc.o).mono ?_
     (case side1=>repeat (first|exact (Kd.R_reads' Af.o).2.2|(with_reducible refine Kd.C_alloc ?_ _)|(with_reducible refine Kd.C_drewN ?_ _)|(with_reducible refine Kd.C_drew ?_)))
     (case side2=>exact (Kd.R_reads' Af.o).2.1)
     rintro e Hs ⟨Gc,rfl,A8,hb⟩
     refine ⟨_,rfl,?_⟩
     have n_:=ak8 (re_ A2 A8 hb) (re_ A5 A8 hb) (re_ A7 A8 hb) (re_ Aa A8 hb) (re_ Af A8 hb) (Kd.R_lower (Kd.R_new' (Kd.R_new' (Kd.R_new' (Kd.R_new' (Kd.R_new' A8 (Kd.R_lt (kqR A2.o))) (Kd.R_lt (kqR A5.o))) (Kd.R_lt (kqR A7.o))) (Kd.R_lt (kqR Aa.o))) (Kd.R_lt (kqR Af.o))) (aH (bq1 HB.o A3.o))) (kb A0 hb) (aC (bq1 HB.o A3.o) hb)
     clear A2 A5 A7 Aa Af A0 HB
     obtain ⟨A2,A5,A7,Aa,Af,Cn,A0,HB⟩:=n_
     (try clear hb A8)
     refine hK.out _ _ ⟨(aA A0.o 0).trans rfl,(aA A0.o 1).trans rfl,(aA A0.o 2).trans rfl,(aA A0.o 3).trans rfl,(aA A0.o 4).trans rfl⟩ (fun hHeld=>?_)
     clear hK K
     refine bZ (a':=?_) ?_ ?_
     rotate_left
     · show Act.put _ (some 60) _=_
       simp only [Act.put,kX,kY,kZ,aI,aK]
       rfl
     refine pv HT_ 14 (some 46) #[T,T,T,T,T,T,T,T,T,T,T,T,T,T,T,F,F,F,F] ?_
     refine pv HT_ 15 (some 61) #[T,T,T,T,T,T,T,T,T,T,T,T,T,T,T,T,F,F,F] ?_
     refine pv HT_ 16 (some 62) #[T,T,T,T,T,T,T,T,T,T,T,T,T,T,T,T,T,F,F] ?_
     refine pv HT_ 17 (some 10) #[T,T,T,T,T,T,T,T,T,T,T,T,T,T,T,T,T,T,F] ?_
     refine pv HT_ 18 (some 11) #[T,T,T,T,T,T,T,T,T,T,T,T,T,T,T,T,T,T,T] ?_
     refine d5 (cL HT_.o (by kernel_rfl)) ?_
     try go_wp2
     go_ret
     exact ⟨_,rq,by refine kr ?_;exact Kd.R_mono Cn.o (fun _ hk=>trivial),bq1 HB.o A3.o⟩
   replace H:=iF H
   obtain rfl:=k6 H
   obtain ⟨Cb,Cc,Gd⟩:=Kd.R_slice A2.o
   subst Gd
   try go_wp2_with (first|((with_reducible refine aE (f:=19) rfl ?_);refine gc (some 41) (dY.calls k1 48 _ _ B0 B7 true _ (cq (Kd.R_reads' A2.o).2.2) ((Kd.R_reads' A2.o).2.1) G4.o) Try.func19 ?_;rintro e w64 ⟨Dn,rfl,A8,hb⟩;refine ⟨_,rfl,?_⟩;have n_:=ak4 (re_ A2 A8 hb) (rn_ A8 A2 (bq1 HB.o A3.o)) (kb A0 hb) (aC (bq1 HB.o A3.o) hb);clear A2 A0 HB;obtain ⟨A2,A5,A0,HB⟩:=n_;(try clear hb A8)))
   have n_:=ak4 (Kd.R_drew A2.o) (Kd.R_drew A5.o) (a7 A0.o) (bB HB.o)
   clear A2 A5 A0 HB
   obtain ⟨A2,A5,A0,HB⟩:=n_
   refine cW (n:=19) (S:=fun w'=>w'.cell? ⟨Ae,0,none⟩=some (.int .i64 Ar)∧w'.cell? ⟨Ae,1,none⟩=some (.int .i64 As)∧w'.cell? ⟨Ae,2,none⟩=some (.int .i64 At)∧w'.cell? ⟨Ae,3,none⟩=some (.int .i64 Au)∧w'.cell? ⟨Ae,4,none⟩=some (.slice Bg A6.length Be)) (ds:=[]) #[F,F,F,F,F,F,F,F,F,F,F,F,F,F,F,F,F,F,F] (by kernel_rfl) rfl rfl ⟨(aA A0.o 0).trans rfl,(aA A0.o 1).trans rfl,(aA A0.o 2).trans rfl,(aA A0.o 3).trans rfl,(aA A0.o 4).trans rfl⟩ (fun hHeld=>?_);refine bW bG.tab15 bG.bits15 (fun HT_ HW_=>?_)
   generalize w64.drew=Ht at A2 A5 A0 HB hHeld ⊢
   refine pv HT_ 0 (some 47) #[T,F,F,F,F,F,F,F,F,F,F,F,F,F,F,F,F,F,F] ?_
   refine pv HT_ 2 (some 49) #[T,F,T,F,F,F,F,F,F,F,F,F,F,F,F,F,F,F,F] ?_
   refine pv HT_ 5 (some 52) #[T,F,T,F,F,T,F,F,F,F,F,F,F,F,F,F,F,F,F] ?_
   refine pv HT_ 8 (some 55) #[T,F,T,F,F,T,F,F,T,F,F,F,F,F,F,F,F,F,F] ?_
   refine pv HT_ 11 (some 58) #[T,F,T,F,F,T,F,F,T,F,F,T,F,F,F,F,F,F,F] ?_
   refine tk 1 (some 48) #[T,T,T,F,F,T,F,F,T,F,F,T,F,F,F,F,F,F,F] rfl rfl (aZ HT_.o HW_.o (by kernel_rfl)) hHeld (Or.inl ⟨by rfl,by rintro w' ⟨s0,s1,s2,s3,s4⟩;go_simp;with_reducible rfl⟩) ?_
   refine tk 3 (some 50) #[T,T,T,T,F,T,F,F,T,F,F,T,F,F,F,F,F,F,F] rfl rfl (aZ HT_.o HW_.o (by kernel_rfl)) hHeld (Or.inl ⟨by rfl,by rintro w' ⟨s0,s1,s2,s3,s4⟩;go_simp;with_reducible rfl⟩) ?_
   refine tk 6 (some 53) #[T,T,T,T,F,T,T,F,T,F,F,T,F,F,F,F,F,F,F] rfl rfl (aZ HT_.o HW_.o (by kernel_rfl)) hHeld (Or.inl ⟨by rfl,by rintro w' ⟨s0,s1,s2,s3,s4⟩;go_simp;with_reducible rfl⟩) ?_
   refine tk 9 (some 56) #[T,T,T,T,F,T,T,F,T,T,F,T,F,F,F,F,F,F,F] rfl rfl (aZ HT_.o HW_.o (by kernel_rfl)) hHeld (Or.inl ⟨by rfl,by rintro w' ⟨s0,s1,s2,s3,s4⟩;go_simp;with_reducible rfl⟩) ?_
   refine dM (i:=4) (N:=some 51) #[T,T,T,T,T,T,T,F,T,T,F,T,F,F,F,F,F,F,F] rfl rfl (bS HT_.o (by kernel_rfl)) (by decide) (fun K hK=>?_)
   refine cU Try.func23 (by kernel_rfl) rfl #[.slice none 0 0,.int .i64 2,.int .i64 As] (by rfl) rfl rfl ga ?_
   refine (eE.calls k1 _ _ ([]:List Int) 2 As Ah _ ?side1 ?side2 Gs.o).mono ?_
   (case side1=>exact Kd.C_nil _ _)
   (case side2=>exact k7 _)
   rintro e Hu ⟨G7,rfl,A8,hb⟩
   refine ⟨_,rfl,?_⟩
   have n_:=ak5 (re_ A2 A8 hb) (re_ A5 A8 hb) (Kd.R_lower (Kd.R_new' (Kd.R_new' A8 (Kd.R_lt (kqR A2.o))) (Kd.R_lt (kqR A5.o))) (aH (bq1 HB.o A3.o))) (kb A0 hb) (aC (bq1 HB.o A3.o) hb)
   clear A2 A5 A0 HB
   obtain ⟨A2,A5,A7,A0,HB⟩:=n_
   (try clear hb A8)
   obtain ⟨C0,C1,Ds⟩:=Kd.R_slice A7.o
   (first|subst Ds|(injection Ds with Ak B9 Al;have Ba:=Ak.symm;have Bb:=Al.symm;clear Ak B9 Al;subst Ba;subst Bb))
   refine hK.out _ _ ⟨(aA A0.o 0).trans rfl,(aA A0.o 1).trans rfl,(aA A0.o 2).trans rfl,(aA A0.o 3).trans rfl,(aA A0.o 4).trans rfl⟩ (fun hHeld=>?_)
   clear hK K
   refine bZ (a':=?_) ?_ ?_
   rotate_left
   · show Act.put _ (some 51) _=_
     simp only [Act.put,kX,kY,kZ,aI,aK]
     rfl
   refine dM (i:=7) (N:=some 54) #[T,T,T,T,T,T,T,T,T,T,F,T,F,F,F,F,F,F,F] rfl rfl (bS HT_.o (by kernel_rfl)) (by decide) (fun K hK=>?_)
   refine cU Try.func23 (by kernel_rfl) rfl #[.slice C0 Ah.length C1,.int .i64 2,.int .i64 At] (by rfl) rfl rfl ga ?_
   with_reducible refine (eE.calls k1 _ _ Ah 2 At Ai _ ?side1 ?side2 Gt.o).mono ?_
   (case side1=>repeat (first|exact (Kd.R_reads' A7.o).2.2|(with_reducible refine Kd.C_alloc ?_ _)|(with_reducible refine Kd.C_drewN ?_ _)|(with_reducible refine Kd.C_drew ?_)))
   (case side2=>exact (Kd.R_reads' A7.o).2.1)
   rintro e Hv ⟨G8,rfl,A8,hb⟩
   refine ⟨_,rfl,?_⟩
   have n_:=ak6 (re_ A2 A8 hb) (re_ A5 A8 hb) (re_ A7 A8 hb) (Kd.R_lower (Kd.R_new' (Kd.R_new' (Kd.R_new' A8 (Kd.R_lt (kqR A2.o))) (Kd.R_lt (kqR A5.o))) (Kd.R_lt (kqR A7.o))) (aH (bq1 HB.o A3.o))) (kb A0 hb) (aC (bq1 HB.o A3.o) hb)
   clear A2 A5 A7 A0 HB
   obtain ⟨A2,A5,A7,Aa,A0,HB⟩:=n_
   (try clear hb A8)
   obtain ⟨C2,C3,Dt⟩:=Kd.R_slice Aa.o
   (first|subst Dt|(injection Dt with Ak B9 Al;have Ba:=Ak.symm;have Bb:=Al.symm;clear Ak B9 Al;subst Ba;subst Bb))
   refine hK.out _ _ ⟨(aA A0.o 0).trans rfl,(aA A0.o 1).trans rfl,(aA A0.o 2).trans rfl,(aA A0.o 3).trans rfl,(aA A0.o 4).trans rfl⟩ (fun hHeld=>?_)
   clear hK K
   refine bZ (a':=?_) ?_ ?_
   rotate_left
   · show Act.put _ (some 54) _=_
     simp only [Act.put,kX,kY,kZ,aI,aK]
     rfl
   refine dM (i:=10) (N:=some 57) #[T,T,T,T,T,T,T,T,T,T,T,T,F,F,F,F,F,F,F] rfl rfl (bS HT_.o (by kernel_rfl)) (by decide) (fun K hK=>?_)
   refine cU Try.func23 (by kernel_rfl) rfl #[.slice C2 Ai.length C3,.int .i64 2,.int .i64 Au] (by rfl) rfl rfl ga ?_
   with_reducible refine (eE.calls k1 _ _ Ai 2 Au Bl _ ?side1 ?side2 Gu.o).mono ?_
   (case side1=>repeat (first|exact (Kd.R_reads' Aa.o).2.2|(with_reducible refine Kd.C_alloc ?_ _)|(with_reducible refine Kd.C_drewN ?_ _)|(with_reducible refine Kd.C_drew ?_)))
   (case side2=>exact (Kd.R_reads' Aa.o).2.1)
   rintro e Hw ⟨D9,rfl,A8,hb⟩
   refine ⟨_,rfl,?_⟩
   have n_:=ak7 (re_ A2 A8 hb) (re_ A5 A8 hb) (re_ A7 A8 hb) (re_ Aa A8 hb) (Kd.R_lower (Kd.R_new' (Kd.R_new' (Kd.R_new' (Kd.R_new' A8 (Kd.R_lt (kqR A2.o))) (Kd.R_lt (kqR A5.o))) (Kd.R_lt (kqR A7.o))) (Kd.R_lt (kqR Aa.o))) (aH (bq1 HB.o A3.o))) (kb A0 hb) (aC (bq1 HB.o A3.o) hb)
   clear A2 A5 A7 Aa A0 HB
   obtain ⟨A2,A5,A7,Aa,Bd,A0,HB⟩:=n_
   (try clear hb A8)
   obtain ⟨Cd,Ce,Du⟩:=Kd.R_slice A5.o
   (first|subst Du|(injection Du with Ak B9 Al;have Ba:=Ak.symm;have Bb:=Al.symm;clear Ak B9 Al;subst Ba;subst Bb))
   refine hK.out _ _ ⟨(aA A0.o 0).trans rfl,(aA A0.o 1).trans rfl,(aA A0.o 2).trans rfl,(aA A0.o 3).trans rfl,(aA A0.o 4).trans rfl⟩ (fun hHeld=>?_)
   clear hK K
   refine bZ (a':=?_) ?_ ?_
   rotate_left
   · show Act.put _ (some 57) _=_
     simp only [Act.put,kX,kY,kZ,aI,aK]
     rfl
   refine dM (i:=12) (N:=some 59) #[T,T,T,T,T,T,T,T,T,T,T,T,T,F,F,F,F,F,F] rfl rfl (bS HT_.o (by kernel_rfl)) (by decide) (fun K hK=>?_)
   refine Kd.R_append_rows_step (Kd.int .u8) (w0:=w) w.heap.size (by rfl) (.tmp 57) (.tmp 58) 22 5 (.int .u8 0) 1 rfl Try.underlying22 eH rfl (by decide) (by omega) D9 Bl B7 _ _ _ (fun k_=>some k_≠(.slice Cb B0.length Cc:Value).ownBlock∧some k_≠(.slice Cd B7.length Ce:Value).ownBlock∧some k_≠(.slice C0 Ah.length C1:Value).ownBlock∧some k_≠(.slice C2 Ai.length C3:Value).ownBlock) (fun _=>False) rfl rfl ?aO ?aR (fun _ _ h=>h) (fun _ h=>h.elim) ?aF ?aB ?aS ?aL ?_
   (case aR=>repeat (first|exact (Kd.R_reads' A5.o).2.2|(with_reducible refine Kd.C_alloc ?_ _)|(with_reducible refine Kd.C_drewN ?_ _)|(with_reducible refine Kd.C_drew ?_)))
   (case aB=>exact (bq1 HB.o A3.o))
   (case aF=>exact (fun k_ hk=>⟨Kd.fresh' (Kd.R_lt (kqR A2.o)) k_ hk,Kd.fresh' (Kd.R_lt (kqR A5.o)) k_ hk,Kd.fresh' (Kd.R_lt (kqR A7.o)) k_ hk,Kd.fresh' (Kd.R_lt (kqR Aa.o)) k_ hk⟩))
   (case aO=>exact (by refine kr ?_;exact Kd.R_mono Bd.o (fun _ hk=>⟨hk.1.1.1.2,⟨hk.1.1.2,⟨hk.1.2,hk.2⟩⟩⟩)))
   (case aS=>exact (aH (bq1 HB.o A3.o)))
   (case aL=>have:=Ck.o;omega)
   intro G9 Hx ho hb hg hat
   rw [← Cm.o] at ho
   have n_:=ak7 (Kd.R_after (ok:=(fun k_=>some k_≠(.slice Cd B7.length Ce:Value).ownBlock∧some k_≠(.slice C0 Ah.length C1:Value).ownBlock∧some k_≠(.slice C2 Ai.length C3:Value).ownBlock)) (by refine kr ?_;exact Kd.R_mono A2.o (fun _ hk=>⟨⟨hk.1.1.1.2,⟨hk.1.1.2,hk.1.2⟩⟩,hk.2⟩)) hg hat) (cB (g:=Ae) (o:=.cells #[.int .i64 Ar,.int .i64 As,.int .i64 At,.int .i64 Au,.slice Bg A6.length Be] 26 (0,0)) (zq A0.o) hg (Kd.R_ne Bd.o A0.o (by decide))) (Kd.R_after (ok:=(fun k_=>some k_≠(.slice Cb B0.length Cc:Value).ownBlock∧some k_≠(.slice C0 Ah.length C1:Value).ownBlock∧some k_≠(.slice C2 Ai.length C3:Value).ownBlock)) (by refine kr ?_;exact Kd.R_mono A5.o (fun _ hk=>⟨⟨hk.1.1.1.2,⟨hk.1.1.2,hk.1.2⟩⟩,hk.2⟩)) hg hat) (Kd.R_after (ok:=(fun k_=>some k_≠(.slice Cb B0.length Cc:Value).ownBlock∧some k_≠(.slice Cd B7.length Ce:Value).ownBlock∧some k_≠(.slice C2 Ai.length C3:Value).ownBlock)) (by refine kr ?_;exact Kd.R_mono A7.o (fun _ hk=>⟨⟨hk.1.1.1.2,⟨hk.1.1.2,hk.1.2⟩⟩,hk.2⟩)) hg hat) (Kd.R_after (ok:=(fun k_=>some k_≠(.slice Cb B0.length Cc:Value).ownBlock∧some k_≠(.slice Cd B7.length Ce:Value).ownBlock∧some k_≠(.slice C0 Ah.length C1:Value).ownBlock)) (by refine kr ?_;exact Kd.R_mono Aa.o (fun _ hk=>⟨⟨hk.1.1.1.2,⟨hk.1.1.2,hk.1.2⟩⟩,hk.2⟩)) hg hat) hb ho
   clear A2 A0 A5 A7 Aa HB Bd
   obtain ⟨A2,A0,A5,A7,Aa,HB,Af⟩:=n_
   clear ho hb hg hat
   obtain ⟨Ge,Gf,Dv⟩:=Kd.R_slice Af.o
   (first|subst Dv|(injection Dv with Ak B9 Al;have Ba:=Ak.symm;have Bb:=Al.symm;clear Ak B9 Al;subst Ba;subst Bb))
   refine hK.out _ _ ⟨(aA A0.o 0).trans rfl,(aA A0.o 1).trans rfl,(aA A0.o 2).trans rfl,(aA A0.o 3).trans rfl,(aA A0.o 4).trans rfl⟩ (fun hHeld=>?_)
   clear hK K
   refine bZ (a':=?_) ?_ ?_
   rotate_left
   · show Act.put _ (some 59) _=_
     simp only [Act.put,kX,kY,kZ,aI,aK]
     rfl
   refine dM (i:=13) (N:=some 60) #[T,T,T,T,T,T,T,T,T,T,T,T,T,T,F,F,F,F,F] rfl rfl (bS HT_.o (by kernel_rfl)) (by decide) (fun K hK=>?_)
   refine cU Try.func19 (by kernel_rfl) rfl #[.int .i64 Ar,.slice Ge C6.length Gf] (by rfl) rfl rfl ga ?_
   with_reducible refine (dY.calls k1 Ar _ _ C6 Av false _ ?side1 ?side2 Dc.o).mono ?_
   (case side1=>repeat (first|exact (Kd.R_reads' Af.o).2.2|(with_reducible refine Kd.C_alloc ?_ _)|(with_reducible refine Kd.C_drewN ?_ _)|(with_reducible refine Kd.C_drew ?_)))
   (case side2=>exact (Kd.R_reads' Af.o).2.1)
   rintro e Hy ⟨Gc,rfl,A8,hb⟩
   refine ⟨_,rfl,?_⟩
   have n_:=ak8 (re_ A2 A8 hb) (re_ A5 A8 hb) (re_ A7 A8 hb) (re_ Aa A8 hb) (re_ Af A8 hb) (Kd.R_lower (Kd.R_new' (Kd.R_new' (Kd.R_new' (Kd.R_new' (Kd.R_new' A8 (Kd.R_lt (kqR A2.o))) (Kd.R_lt (kqR A5.o))) (Kd.R_lt (kqR A7.o))) (Kd.R_lt (kqR Aa.o))) (Kd.R_lt (kqR Af.o))) (aH (bq1 HB.o A3.o))) (kb A0 hb) (aC (bq1 HB.o A3.o) hb)
   clear A2 A5 A7 Aa Af A0 HB
   obtain ⟨A2,A5,A7,Aa,Af,Cn,A0,HB⟩:=n_
   (try clear hb A8)
   refine hK.out _ _ ⟨(aA A0.o 0).trans rfl,(aA A0.o 1).trans rfl,(aA A0.o 2).trans rfl,(aA A0.o 3).trans rfl,(aA A0.o 4).trans rfl⟩ (fun hHeld=>?_)
   clear hK K
   refine bZ (a':=?_) ?_ ?_
   rotate_left
   · show Act.put _ (some 60) _=_
     simp only [Act.put,kX,kY,kZ,aI,aK]
     rfl
   refine pv HT_ 14 (some 46) #[T,T,T,T,T,T,T,T,T,T,T,T,T,T,T,F,F,F,F] ?_
   refine pv HT_ 15 (some 61) #[T,T,T,T,T,T,T,T,T,T,T,T,T,T,T,T,F,F,F] ?_
   refine pv HT_ 16 (some 62) #[T,T,T,T,T,T,T,T,T,T,T,T,T,T,T,T,T,F,F] ?_
   refine pv HT_ 17 (some 10) #[T,T,T,T,T,T,T,T,T,T,T,T,T,T,T,T,T,T,F] ?_
   refine pv HT_ 18 (some 11) #[T,T,T,T,T,T,T,T,T,T,T,T,T,T,T,T,T,T,T] ?_
   refine d5 (cL HT_.o (by kernel_rfl)) ?_
   try go_wp2
   go_ret
   exact ⟨_,rq,rn,bq1 HB.o A3.o⟩
end Go.Proofs.Ytgppikopdpeigaa.XFnPdus
