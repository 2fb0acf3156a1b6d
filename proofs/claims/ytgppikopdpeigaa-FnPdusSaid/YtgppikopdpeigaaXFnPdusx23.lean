/- The functions that one law reaches, as Lean functions, with their walks: printed by a program of this seat (wip/tools) out of the translation. -/
import Derived.Test.YtgppikopdpeigaaXFnPdusx0
import Derived.Test.YtgppikopdpeigaaXFnPdusx11
import Derived.Test.YtgppikopdpeigaaXFnPdusx19
import Derived.Test.YtgppikopdpeigaaXFnPdusx20
import Derived.Test.YtgppikopdpeigaaXFnPdusx21
import Derived.Test.YtgppikopdpeigaaXFnPdusx22
namespace Go.Proofs.Ytgppikopdpeigaa.XFnPdus
open Go.RowKit Go.Proofs.YtgppikopdpeigaaW.PrintWords Go.Proofs.YtgppikopdpeigaaW.PrintLast Go.Proofs.YtgppikopdpeigaaW.PrintMore
attribute [local go_sem] cO cP dH dI cC cD cQ cR
set_option maxHeartbeats 8000000
set_option maxRecDepth 100000
set_option linter.unusedVariables false
set_option linter.unusedSimpArgs false
mutual
def aW.l0:Nat→List Int→List Int→Int→Bool→List Int→Int→Bool→Int→Int→Int→Int→List (S45)→List Int→Int→Bool→Option (Int × Int × Int × Int × (List (S45)) × Bool)
 | 0,_,_,_,_,_,_,_,_,_,_,_,_,_,_,_=>none
 | k+1,x0,x5,x6,x7,A9,A6,Aa,A2,A3,A4,A5,A0,A1,A7,Ab=>if Aa=true then (aW.j1 k x0 x5 x6 x7 false A9 A6 Aa A2 A3 A4 A5 A0 A1 A7 Ab) else (if A7<(A1.length:Int) then (aW.j1 k x0 x5 x6 x7 (decide ((A0.length:Int)≤10)) A9 A6 Aa A2 A3 A4 A5 A0 A1 A7 Ab) else (aW.j1 k x0 x5 x6 x7 false A9 A6 Aa A2 A3 A4 A5 A0 A1 A7 Ab))
def aW.j1:Nat→List Int→List Int→Int→Bool→Bool→List Int→Int→Bool→Int→Int→Int→Int→List (S45)→List Int→Int→Bool→Option (Int × Int × Int × Int × (List (S45)) × Bool)
 | 0,_,_,_,_,_,_,_,_,_,_,_,_,_,_,_,_=>none
 | k+1,x0,x5,x6,x7,Ae,A9,A6,Aa,A2,A3,A4,A5,A0,A1,A7,Ab=>if Ae=true then ((bR.f k A1 A7 Ab 48).bind fun Ac=>((eZ.f k Ac.1).bind fun A8=>(if Ac.2.2=true then (if A0.length<1759218604441 then (aW.l0 k x0 x5 x6 x7 A9 A6 true A2 A3 A4 A5 (A0++[(⟨A8.1,(⟨A8.2.1,A8.2.2.1,A8.2.2.2.1,A8.2.2.2.2.1⟩:S43)⟩:S45)]) A1 Ac.2.1 Ac.2.2) else (none)) else (if A0.length<1759218604441 then (aW.l0 k x0 x5 x6 x7 A9 A6 (!A8.2.2.2.2.2) A2 A3 A4 A5 (A0++[(⟨A8.1,(⟨A8.2.1,A8.2.2.1,A8.2.2.2.1,A8.2.2.2.2.1⟩:S43)⟩:S45)]) A1 Ac.2.1 Ac.2.2) else (none))))) else (if x7=true then (if x6=(x0.length:Int) then (if Aa=true then (some (0,0,0,0,([]:List (S45)),false)) else (if A6=(x5.length:Int) then (if A7=(A1.length:Int) then ((cF.f k A2 A3 A4 A5 A0).bind fun Ad=>(if Ad=true then (some (A2,A3,A4,A5,A0,true)) else (some (0,0,0,0,([]:List (S45)),false)))) else (some (0,0,0,0,([]:List (S45)),false))) else (some (0,0,0,0,([]:List (S45)),false)))) else (some (0,0,0,0,([]:List (S45)),false))) else (some (0,0,0,0,([]:List (S45)),false)))
end
def aW.f (k:Nat) (l0:List Int):Option (Int × Int × Int × Int × (List (S45)) × Bool):=(bF.f k l0 0).bind fun A0=>((eK.f k A0.2.1 0 false).bind fun A1=>((eK.f k A0.2.1 A1.2.1 A1.2.2).bind fun A2=>((eK.f k A0.2.1 A2.2.1 A2.2.2).bind fun A3=>((bR.f k A0.2.1 A3.2.1 A3.2.2 48).bind fun A4=>(aW.l0 k l0 A0.2.1 A0.2.2.1 A0.2.2.2 A0.2.1 A4.2.1 A4.2.2 A0.1 A1.1 A2.1 A3.1 ([]:List (S45)) A4.1 0 false)))))
def aW.T8:Bool × List (List Nat × List Nat):=(true,[([],[]),([0],[0]),([1],[1]),([2],[2]),([3],[3]),([4],[4]),([5],[5]),([6,5],[5,6]),([7,5],[5,7]),([8,5],[5,8]),([5],[5]),([10,5],[5,10]),([11,5],[5,11]),([12,5],[5,12]),([13,5],[5,13]),([9,14,5],[5,9,14]),([5,15],[5,15]),([16,5],[16]),([17],[17]),([18,17],[17,18]),([19,17],[17,19]),([20,17],[17,20]),([17,21],[17,21])])
def aW.B8:List Nat:=[0,1,3,7,15,31,63,127,255,511,63,1087,3135,7231,15423,32767,65535,131071,262143,524287,1048575,2097151,4194303]
theorem aW.tab8:eR .any (fM Try.f9 8)=aW.T8:=by kernel_rfl
theorem aW.bits8:eJ aW.T8.2 aW.B8=true:=by kernel_rfl
def aW.T12:Bool × List (List Nat × List Nat):=(true,[([],[]),([0],[0]),([1],[1]),([2],[2]),([2],[2]),([4,2],[2,4]),([3,5,2],[2,3,5]),([2,6],[2,6]),([7,2],[7]),([8],[8]),([9,8],[8,9]),([10,8],[8,10]),([11,8],[8,11]),([8,12],[8,12]),([13,8],[13]),([14],[14]),([15,14],[14,15]),([16,14],[14,16]),([17,14],[14,17]),([14],[14]),([19,14],[14,19]),([18,20,14],[14,18,20]),([14,21],[14,21]),([22,14],[22]),([23],[23]),([24,23],[23,24]),([25,23],[23,25]),([26,23],[23,26]),([23],[23]),([28,23],[23,28]),([29,23],[23,29]),([30,23],[23,30]),([31,23],[23,31]),([27,32,23],[23,27,32]),([23,33],[23,33]),([34,23],[34]),([35],[35]),([36,35,35],[35,36]),([37,35],[35,37]),([35,38],[35,38])])
def aW.B12:List Nat:=[0,1,3,7,7,23,63,127,255,511,1023,2047,4095,8191,16383,32767,65535,131071,262143,32767,557055,2097151,4194303,8388607,16777215,33554431,67108863,134217727,16777215,285212671,822083583,1895825407,4043309055,8589934591,17179869183,34359738367,68719476735,137438953471,274877906943,549755813887]
theorem aW.tab12:eR .any (fM Try.f9 12)=aW.T12:=by kernel_rfl
theorem aW.bits12:eJ aW.T12.2 aW.B12=true:=by kernel_rfl
theorem aW.calls (k:Nat) (A0:Option Addr) (c0:Nat) (l0:List Int) (r1:Int) (r2:Int) (r3:Int) (r4:Int) (r5:List (S45)) (r6:Bool) (w:World) (Nw:Kd.C (Kd.int .u8) w A0 l0.length l0) (Nx:l0.length≤c0) (h:aW.f k l0=some (r1,r2,r3,r4,r5,r6)):
 Calls Try.prog 9 #[.slice A0 l0.length c0] w fun e w'=>∃Ny:Value,e=.returned (.tuple #[.agg #[.int .i64 r1,.int .i64 r2,.int .i64 r3,.int .i64 r4,Ny],.bool r6])∧Kd.S k45 45 w' w.heap.size (fun _=>True) Ny r5∧Below w.heap.size w w':=by
 have Pp:=Try.underlying26
 have Pq:=Try.underlying65
 have Pr:=Try.underlying45
 have Ps:=am Nw
 have Pt:=am Nx
 clear Nw Nx
 have HB:=am (Below.refl w.heap.size w)
 have H:=h
 clear h
 unfold aW.f at H
 replace H:=be H
 obtain ⟨⟨Av,A9,C2,Bt⟩,Pu,H⟩:=H
 try dsimp only at H
 replace H:=be H
 obtain ⟨⟨Aw,Cw,Cx⟩,Pv,H⟩:=H
 try dsimp only at H
 replace H:=be H
 obtain ⟨⟨Az,Cy,Cz⟩,Pw,H⟩:=H
 try dsimp only at H
 replace H:=be H
 obtain ⟨⟨B0,D0,D1⟩,Px,H⟩:=H
 try dsimp only at H
 replace H:=be H
 obtain ⟨⟨Ab,B9,En⟩,Py,H⟩:=H
 try dsimp only at H
 have H':=am H
 clear H
 go_enter Try.func9,Try.ntmps9
 go_wp2_with (first|((with_reducible refine aJ (N:=2) rfl ?_);(try (refine a9 (by rfl) ?_;dsimp only));refine bxe 2 #[.int .i64 0,.int .i64 0,.int .i64 0,.int .i64 0,.slice none 0 0] 26 ?_;intro Ad hg w7 hbox hb;have n_:=ak4 (aC (bq HB.o) hb) hbox (bz hg (bq HB.o)) (bz hg (bq HB.o));clear HB;obtain ⟨HB,A4,Nz,Ac⟩:=n_;clear hb hbox hg)|((with_reducible refine aE (f:=31) rfl ?_);refine gc (some 15) (bF.calls k _ _ l0 0 Av A9 C2 Bt _ (cq (Kd.C_below Ps.o HB.o)) Pt.o Pu.o) Try.func31 ?_;rintro e w8 ⟨Pz,rfl,C7,hb⟩;refine ⟨_,rfl,?_⟩;have n_:=ak3 (rl C7 (bq1 HB.o Ac.o)) (kb A4 hb) (aC (bq1 HB.o Ac.o) hb);clear A4 HB;obtain ⟨Aj,A4,HB⟩:=n_;(try clear hb C7);obtain ⟨Bd,Be,Q0⟩:=Kd.R_slice Aj.o;subst Q0)|((with_reducible refine aJ (N:=22) rfl ?_);(try (refine a9 (by rfl) ?_;dsimp only));refine bxe 22 #[.slice Bd A9.length Be,.int .i64 0,.bool false] 65 ?_;intro Ag hg Qe hbox hb;have n_:=ak9 (rb Aj hb) (kb A4 hb) (aC (bq1 HB.o Ac.o) hb) hbox (bz hg (bq1 HB.o Ac.o)) (bz hg (bq1 HB.o Ac.o)) ((by rw [hg];exact Kd.R_lt (kqR Aj.o):∀i_:Nat,(.slice Bd A9.length Be:Value).ownBlock=some i_→i_<Ag)) (nL hg A4) (nG hg A4);clear Aj A4 HB;obtain ⟨Aj,A4,HB,A5,O0,Ae,Cr,Ay,Ar⟩:=n_;clear hb hbox hg)|((with_reducible refine aJ (N:=9) rfl ?_);(try (refine a9 (by rfl) ?_;dsimp only));refine bxe 9 #[.int .i64 0,.int .i64 0,.int .i64 0,.int .i64 0,.slice none 0 0] 26 ?_;intro Aq hg Q1 hbox hb;have n_:=iU (rb Aj hb) (kb A4 hb) (kb A5 hb) (aC (bq2 HB.o Ac.o Ae.o) hb) hbox (bz hg (bq2 HB.o Ac.o Ae.o)) (bz hg (bq2 HB.o Ac.o Ae.o)) (nL hg A4) (nG hg A4) (nL hg A5) (nG hg A5);clear Aj A4 A5 HB;obtain ⟨Aj,A4,A5,HB,A6,O1,Af,As,An,Ba,Bb⟩:=n_;clear hb hbox hg;have O2:=An.o;have O3:=As.o;have O4:=Bb.o;have O5:=Ba.o;obtain ⟨Di,Dj,Dk,Dl,Dm,Dn,Do,Dp,Dq,Dr⟩:=cl5 A6.o)|((with_reducible refine aQ (t:=26) (p:=9) rfl ?_);refine se 26 9 (s5 Q1 Aq (.int .i64 Av) (.int .i64 0) (.int .i64 0) (.int .i64 0) (.slice none 0 0)) ?_;intro Qf hw;have n_:=ak5 (sr5 hw Aj A6) (sf5 hw A4 As) (sf5 hw A5 Ba) (sc5 hw A6) (sb hw (bq3 HB.o Ac.o Ae.o Af.o));clear hw Aj A4 A5 A6 HB;obtain ⟨Aj,A4,A5,A6,HB⟩:=n_)|((with_reducible refine aE (f:=32) rfl ?_);refine gc (some 26) (eK.box k Ag A9 0 false Aw Cw Cx _ Bd Be (by refine zr ?_;exact A5.o) (gC (kqR Aj.o) Cr.o) ((Kd.R_reads' Aj.o).2.1) Pv.o) Try.func32 ?_;rintro e Q2 ⟨rfl,hi,hq⟩;refine ⟨_,rfl,?_⟩;have hk:=hq.kb;have n_:=ak5 (KeepBut.blk hk (zb A4.o) Ay.o (by simp)) (Kd.R_mono (Kd.R_keep (Kd.R_types (kqR Aj.o) (zq A5.o) (by decide)) hk (fun _ h=>h.2)) (fun _ h=>h.1)) (KeepBut.blk hk (zb A6.o) Bb.o (by simp)) (Kq.bel hq (bq3 HB.o Ac.o Ae.o Af.o) Ae.o) hi;clear A4 Aj A6 HB A5;obtain ⟨A4,Aj,A6,HB,A5⟩:=n_;(try clear hi hq);obtain ⟨Ds,Dt,Du,Dv,Dw,Dx,Dy,Dz,E0,E1⟩:=cl5 A6.o)|((with_reducible refine aQ (t:=3) (p:=27) rfl ?_);refine se 3 27 (Q2.setCell ⟨Aq,1,none⟩ (.int .i64 Aw)) ?_;intro Gf hw;have n_:Aside0 (Kd.R (Kd.int .u8) 5 Gf w.heap.size (fun _=>True) (.slice Bd A9.length Be) A9)∧Aside0 (Gf.heap[Ad]? =some (.cells #[.int .i64 0,.int .i64 0,.int .i64 0,.int .i64 0,.slice none 0 0] 26 (0,0)))∧Aside0 (Gf.heap[Ag]? =some (.cells #[.slice Bd A9.length Be,.int .i64 Cw,.bool Cx] 65 (0,0)))∧Aside0 (Gf.heap[Aq]? =some (.cells #[.int .i64 Av,.int .i64 Aw,.int .i64 0,.int .i64 0,.slice none 0 0] 26 (0,0)))∧Aside0 (Below w.heap.size w Gf):=⟨⟨(by rw [hw];exact (by refine kr ?_;exact Kd.R_mono (Kd.R_far (p:=⟨Aq,1,none⟩) (Kd.R_types Aj.o A6.o (by decide)) (fun _ hk=>hk.2) (.int .i64 Aw)) (fun _ hk=>trivial)))⟩,⟨(by rw [hw];exact (by refine zr ?_;refine aN ?_ As.o _;refine zr ?_;exact A4.o))⟩,⟨(by rw [hw];exact (by refine zr ?_;refine aN ?_ Ba.o _;refine zr ?_;exact A5.o))⟩,⟨(by rw [hw];exact (by refine zr ?_;refine aV (cs:=#[.int .i64 Av,.int .i64 0,.int .i64 0,.int .i64 0,.slice none 0 0]) ?_ 1 _ rfl;refine zr ?_;exact A6.o))⟩,⟨(by rw [hw];exact (bq3 HB.o Ac.o Ae.o Af.o))⟩⟩;clear hw Aj A4 A5 A6 HB;obtain ⟨Aj,A4,A5,A6,HB⟩:=n_)|((with_reducible refine aE (f:=32) rfl ?_);refine gc (some 29) (eK.box k Ag A9 Cw Cx Az Cy Cz _ Bd Be (by refine zr ?_;exact A5.o) (gC (kqR Aj.o) Cr.o) ((Kd.R_reads' Aj.o).2.1) Pw.o) Try.func32 ?_;rintro e Q3 ⟨rfl,hi,hq⟩;refine ⟨_,rfl,?_⟩;have hk:=hq.kb;have n_:=ak5 (KeepBut.blk hk (zb A4.o) Ay.o (by simp)) (Kd.R_mono (Kd.R_keep (Kd.R_types (kqR Aj.o) (zq A5.o) (by decide)) hk (fun _ h=>h.2)) (fun _ h=>h.1)) (KeepBut.blk hk (zb A6.o) Bb.o (by simp)) (Kq.bel hq (bq3 HB.o Ac.o Ae.o Af.o) Ae.o) hi;clear A4 Aj A6 HB A5;obtain ⟨A4,Aj,A6,HB,A5⟩:=n_;(try clear hi hq);obtain ⟨E2,E3,E4,E5,E6,E7,E8,E9,Ea,Eb⟩:=cl5 A6.o)|((with_reducible refine aQ (t:=3) (p:=30) rfl ?_);refine se 3 30 (Q3.setCell ⟨Aq,2,none⟩ (.int .i64 Az)) ?_;intro Gg hw;have n_:Aside0 (Kd.R (Kd.int .u8) 5 Gg w.heap.size (fun _=>True) (.slice Bd A9.length Be) A9)∧Aside0 (Gg.heap[Ad]? =some (.cells #[.int .i64 0,.int .i64 0,.int .i64 0,.int .i64 0,.slice none 0 0] 26 (0,0)))∧Aside0 (Gg.heap[Ag]? =some (.cells #[.slice Bd A9.length Be,.int .i64 Cy,.bool Cz] 65 (0,0)))∧Aside0 (Gg.heap[Aq]? =some (.cells #[.int .i64 Av,.int .i64 Aw,.int .i64 Az,.int .i64 0,.slice none 0 0] 26 (0,0)))∧Aside0 (Below w.heap.size w Gg):=⟨⟨(by rw [hw];exact (by refine kr ?_;exact Kd.R_mono (Kd.R_far (p:=⟨Aq,2,none⟩) (Kd.R_types Aj.o A6.o (by decide)) (fun _ hk=>hk.2) (.int .i64 Az)) (fun _ hk=>trivial)))⟩,⟨(by rw [hw];exact (by refine zr ?_;refine aN ?_ As.o _;refine zr ?_;exact A4.o))⟩,⟨(by rw [hw];exact (by refine zr ?_;refine aN ?_ Ba.o _;refine zr ?_;exact A5.o))⟩,⟨(by rw [hw];exact (by refine zr ?_;refine aV (cs:=#[.int .i64 Av,.int .i64 Aw,.int .i64 0,.int .i64 0,.slice none 0 0]) ?_ 2 _ rfl;refine zr ?_;exact A6.o))⟩,⟨(by rw [hw];exact (bq3 HB.o Ac.o Ae.o Af.o))⟩⟩;clear hw Aj A4 A5 A6 HB;obtain ⟨Aj,A4,A5,A6,HB⟩:=n_)|((with_reducible refine aE (f:=32) rfl ?_);refine gc (some 32) (eK.box k Ag A9 Cy Cz B0 D0 D1 _ Bd Be (by refine zr ?_;exact A5.o) (gC (kqR Aj.o) Cr.o) ((Kd.R_reads' Aj.o).2.1) Px.o) Try.func32 ?_;rintro e Q4 ⟨rfl,hi,hq⟩;refine ⟨_,rfl,?_⟩;have hk:=hq.kb;have n_:=ak5 (KeepBut.blk hk (zb A4.o) Ay.o (by simp)) (Kd.R_mono (Kd.R_keep (Kd.R_types (kqR Aj.o) (zq A5.o) (by decide)) hk (fun _ h=>h.2)) (fun _ h=>h.1)) (KeepBut.blk hk (zb A6.o) Bb.o (by simp)) (Kq.bel hq (bq3 HB.o Ac.o Ae.o Af.o) Ae.o) hi;clear A4 Aj A6 HB A5;obtain ⟨A4,Aj,A6,HB,A5⟩:=n_;(try clear hi hq);obtain ⟨Ec,Ed,Ee,Ef,Eg,Eh,Ei,Ej,Ek,El⟩:=cl5 A6.o)|((with_reducible refine aQ (t:=3) (p:=33) rfl ?_);refine se 3 33 (Q4.setCell ⟨Aq,3,none⟩ (.int .i64 B0)) ?_;intro Gh hw;have n_:Aside0 (Kd.R (Kd.int .u8) 5 Gh w.heap.size (fun _=>True) (.slice Bd A9.length Be) A9)∧Aside0 (Gh.heap[Ad]? =some (.cells #[.int .i64 0,.int .i64 0,.int .i64 0,.int .i64 0,.slice none 0 0] 26 (0,0)))∧Aside0 (Gh.heap[Ag]? =some (.cells #[.slice Bd A9.length Be,.int .i64 D0,.bool D1] 65 (0,0)))∧Aside0 (Gh.heap[Aq]? =some (.cells #[.int .i64 Av,.int .i64 Aw,.int .i64 Az,.int .i64 B0,.slice none 0 0] 26 (0,0)))∧Aside0 (Below w.heap.size w Gh):=⟨⟨(by rw [hw];exact (by refine kr ?_;exact Kd.R_mono (Kd.R_far (p:=⟨Aq,3,none⟩) (Kd.R_types Aj.o A6.o (by decide)) (fun _ hk=>hk.2) (.int .i64 B0)) (fun _ hk=>trivial)))⟩,⟨(by rw [hw];exact (by refine zr ?_;refine aN ?_ As.o _;refine zr ?_;exact A4.o))⟩,⟨(by rw [hw];exact (by refine zr ?_;refine aN ?_ Ba.o _;refine zr ?_;exact A5.o))⟩,⟨(by rw [hw];exact (by refine zr ?_;refine aV (cs:=#[.int .i64 Av,.int .i64 Aw,.int .i64 Az,.int .i64 0,.slice none 0 0]) ?_ 3 _ rfl;refine zr ?_;exact A6.o))⟩,⟨(by rw [hw];exact (bq3 HB.o Ac.o Ae.o Af.o))⟩⟩;clear hw Aj A4 A5 A6 HB;obtain ⟨Aj,A4,A5,A6,HB⟩:=n_)|((with_reducible refine aE (f:=33) rfl ?_);refine gc (some 35) (bR.box k Ag A9 D0 D1 48 Ab B9 En _ Bd Be (by refine zr ?_;exact A5.o) (gC (kqR Aj.o) Cr.o) ((Kd.R_reads' Aj.o).2.1) Py.o) Try.func33 ?_;rintro e Qg ⟨Q5,rfl,C7,hi,hq⟩;refine ⟨_,rfl,?_⟩;have hk:=hq.kb;have n_:=ak6 (KeepBut.blk hk (zb A4.o) Ay.o (by simp)) (Kd.R_mono (Kd.R_told (Kd.R_oldK (Kd.R_types (kqR Aj.o) (zq A5.o) (by decide)) hk) (Kd.R_base C7)) (fun _ h_=>h_.1)) (KeepBut.blk hk (zb A6.o) Bb.o (by simp)) (rn_ C7 Aj (bq3 HB.o Ac.o Ae.o Af.o)) (Kq.bel hq (bq3 HB.o Ac.o Ae.o Af.o) Ae.o) hi;clear A4 Aj A6 HB A5;obtain ⟨A4,Aj,A6,Cb,HB,A5⟩:=n_;(try clear hi hq C7);obtain ⟨B1,B2,M8⟩:=Kd.R_slice Cb.o;subst M8)|((with_reducible refine aJ (N:=37) rfl ?_);(try (refine a9 (by rfl) ?_;dsimp only));refine bxe 37 #[.slice B1 Ab.length B2,.int .i64 0,.bool false] 65 ?_;intro Bf hg Qh hbox hb;have Eo:=am (rb Aj hb);have Ep:=am (rb Cb hb);have Eq:=am (kb A4 hb);have Er:=am (kb A5 hb);have Es:=am (kb A6 hb);have Et:=am (aC (bq3 HB.o Ac.o Ae.o Af.o) hb);have Eu:=am (hbox);have Ev:=am (bz hg (bq3 HB.o Ac.o Ae.o Af.o));have Ew:=am (bz hg (bq3 HB.o Ac.o Ae.o Af.o));have Ex:=am ((by rw [hg];exact Kd.R_lt (kqR Cb.o):∀i_:Nat,(.slice B1 Ab.length B2:Value).ownBlock=some i_→i_<Bf));have Cg:=am (nL hg A4);have Ch:=am (nG hg A4);have Ci:=am (nL hg A5);have Cj:=am (nG hg A5);have Ck:=am (nL hg A6);have Cl:=am (nG hg A6);clear Aj;clear Cb;clear A4;clear A5;clear A6;clear HB;have Aj:=Eo;have Cb:=Ep;have A4:=Eq;have A5:=Er;have A6:=Es;have HB:=Et;have A7:=Eu;have O6:=Ev;have Ai:=Ew;have Ey:=Ex;have B6:=Cg;have At:=Ch;have Br:=Ci;have Bs:=Cj;have Bh:=Ck;have Bi:=Cl;clear Eo Ep Eq Er Es Et Eu Ev Ew Ex Cg Ch Ci Cj Ck Cl;clear hb hbox hg))
 go_loopg [] k (fun kq w'=>∃(Bc:Bool) (A8:List (S45)) (Ak:Int) (Au:Bool) (Ah:Value),Aside0 (aW.l0 kq l0 A9 C2 Bt A9 B9 Bc Av Aw Az B0 A8 Ab Ak Au=some (r1,r2,r3,r4,r5,r6))∧Aside0 (kq≤k)∧Aside0 (Kd.R (Kd.int .u8) 5 w' w.heap.size (fun k_=>some k_≠((.slice B1 Ab.length B2):Value).ownBlock) (.slice Bd A9.length Be) A9)∧Aside0 (Kd.R (Kd.int .u8) 5 w' w.heap.size (fun k_=>some k_≠((.slice B1 Ab.length B2):Value).ownBlock) (.slice Bd A9.length Be) A9)∧Aside0 (Kd.S k45 45 w' w.heap.size (fun _=>True) Ah A8)∧Aside0 (Kd.R (Kd.int .u8) 5 w' w.heap.size (fun k_=>some k_≠((.slice Bd A9.length Be):Value).ownBlock∧some k_≠((.slice Bd A9.length Be):Value).ownBlock) (.slice B1 Ab.length B2) Ab)∧Aside0 (w'.heap[Ad]? =some (.cells #[.int .i64 0,.int .i64 0,.int .i64 0,.int .i64 0,(.slice none 0 0)] 26 (0,0)))∧Aside0 (w'.heap[Ag]? =some (.cells #[(.slice Bd A9.length Be),.int .i64 B9,.bool Bc] 65 (0,0)))∧Aside0 (w'.heap[Aq]? =some (.cells #[.int .i64 Av,.int .i64 Aw,.int .i64 Az,.int .i64 B0,Ah] 26 (0,0)))∧Aside0 (w'.heap[Bf]? =some (.cells #[(.slice B1 Ab.length B2),.int .i64 Ak,.bool Au] 65 (0,0)))∧Aside0 (Below w.heap.size w w'))
 case atStart=>exact ⟨(En),(([]:List (S45))),(0),(false),(.slice none 0 0),H',⟨k7 _⟩,⟨by refine kr ?_;exact Kd.R_mono Aj.o (fun _ hk=>hk.2)⟩,⟨by refine kr ?_;exact Kd.R_mono Aj.o (fun _ hk=>hk.2)⟩,⟨by first|exact Kd.S_nil _ _ _ _ _|exact Kd.N_nil _ _ _ _ _|exact Kd.V_nil _ _ _ _ _|exact Kd.Q_nil _ _ _ _ _|exact Kd.R_nil _ _ _ _ _⟩,⟨by refine kr ?_;exact Kd.R_mono Cb.o (fun _ hk=>⟨hk.2,hk.2⟩)⟩,⟨zq A4.o⟩,⟨zq A5.o⟩,⟨zq A6.o⟩,⟨zq A7.o⟩,⟨bq4 HB.o Ac.o Ae.o Af.o Ai.o⟩⟩
 case round=>
  clear H'
  try clear c1
  try clear p2
  try clear c3
  try clear c9
  try clear Qi
  try clear Qj
  try clear Di
  try clear Dj
  try clear Dk
  try clear Dl
  try clear Dm
  try clear Ds
  try clear Dt
  try clear Du
  try clear Dv
  try clear Dw
  try clear E2
  try clear E3
  try clear E4
  try clear E5
  try clear E6
  try clear Ec
  try clear Ed
  try clear Ee
  try clear Ef
  try clear Eg
  try clear Dn
  try clear Do
  try clear Dp
  try clear Dq
  try clear Dr
  try clear Dx
  try clear Dy
  try clear Dz
  try clear E0
  try clear E1
  try clear E7
  try clear E8
  try clear E9
  try clear Ea
  try clear Eb
  try clear Eh
  try clear Ei
  try clear Ej
  try clear Ek
  try clear El
  obtain ⟨Bc,A8,Ak,Au,Ah,HA,G4,Aa,A3,A1,A2,A4,A5,A6,A7,HB⟩:=hrel
  cases gk with
  |zero=>exact absurd HA.o (by simp [aW.l0])
  |succ k1=>
   have H:=HA.o
   clear HA
   simp only [aW.l0] at H
   have G5:=am H
   clear H
   go_upto_region 8 with (fail)
   go_cut [60] (fun Q6 wc=>∃(kq:Nat) (Cf:Bool),Q6=.bool Cf∧Aside0 (aW.j1 kq l0 A9 C2 Bt Cf A9 B9 Bc Av Aw Az B0 A8 Ab Ak Au=some (r1,r2,r3,r4,r5,r6))∧Aside0 (kq≤k1)∧Aside0 (Kd.R (Kd.int .u8) 5 wc w.heap.size (fun k_=>some k_≠((.slice B1 Ab.length B2):Value).ownBlock) (.slice Bd A9.length Be) A9)∧Aside0 (Kd.R (Kd.int .u8) 5 wc w.heap.size (fun k_=>some k_≠((.slice B1 Ab.length B2):Value).ownBlock) (.slice Bd A9.length Be) A9)∧Aside0 (Kd.S k45 45 wc w.heap.size (fun _=>True) Ah A8)∧Aside0 (Kd.R (Kd.int .u8) 5 wc w.heap.size (fun k_=>some k_≠((.slice Bd A9.length Be):Value).ownBlock∧some k_≠((.slice Bd A9.length Be):Value).ownBlock) (.slice B1 Ab.length B2) Ab)∧Aside0 (wc.heap[Ad]? =some (.cells #[.int .i64 0,.int .i64 0,.int .i64 0,.int .i64 0,(.slice none 0 0)] 26 (0,0)))∧Aside0 (wc.heap[Ag]? =some (.cells #[(.slice Bd A9.length Be),.int .i64 B9,.bool Bc] 65 (0,0)))∧Aside0 (wc.heap[Aq]? =some (.cells #[.int .i64 Av,.int .i64 Aw,.int .i64 Az,.int .i64 B0,Ah] 26 (0,0)))∧Aside0 (wc.heap[Bf]? =some (.cells #[(.slice B1 Ab.length B2),.int .i64 Ak,.bool Au] 65 (0,0)))∧Aside0 (Below w.heap.size w wc))
   case first=>
    have H:=G5.o
    clear G5
    rcases Decidable.em (Bc=true) with Gc|Gc
    · subst Gc
      replace H:(aW.j1 k1 l0 A9 C2 Bt false A9 B9 true Av Aw Az B0 A8 Ab Ak Au)=some (r1,r2,r3,r4,r5,r6):=by rw [if_pos rfl] at H;exact H
      have H':=am H
      clear H
      try go_wp2
      have n_:=ak9 (Kd.R_drew Aa.o) (Kd.R_drew A3.o) (Kd.S_drew A1.o) (Kd.R_drew A2.o) (a7 A4.o) (a7 A5.o) (a7 A6.o) (a7 A7.o) (bB HB.o)
      clear Aa A3 A1 A2 A4 A5 A6 A7 HB
      obtain ⟨Aa,A3,A1,A2,A4,A5,A6,A7,HB⟩:=n_
      refine cW (n:=23) (S:=fun w'=>w'.cell? ⟨Ag,0,none⟩=some (.slice Bd A9.length Be)∧w'.cell? ⟨Ag,1,none⟩=some (.int .i64 B9)∧w'.cell? ⟨Ag,2,none⟩=some (.bool true)) (ds:=[]) #[F,F,F,F,F,F,F,F,F,F,F,F,F,F,F,F,F,F,F,F,F,F,F] (by kernel_rfl) rfl rfl ⟨(aA A5.o 0).trans rfl,(aA A5.o 1).trans rfl,(aA A5.o 2).trans rfl⟩ (fun hHeld=>?_);refine bW aW.tab8 aW.bits8 (fun HT_ HW_=>?_)
      generalize wr.drew=Qk at Aa A3 A1 A2 A4 A5 A6 A7 HB hHeld ⊢
      refine pv HT_ 0 (some 38) #[T,F,F,F,F,F,F,F,F,F,F,F,F,F,F,F,F,F,F,F,F,F,F] ?_
      refine pv HT_ 1 (some 39) #[T,T,F,F,F,F,F,F,F,F,F,F,F,F,F,F,F,F,F,F,F,F,F] ?_
      refine pv HT_ 2 (some 40) #[T,T,T,F,F,F,F,F,F,F,F,F,F,F,F,F,F,F,F,F,F,F,F] ?_
      refine tk 3 (some 41) #[T,T,T,T,F,F,F,F,F,F,F,F,F,F,F,F,F,F,F,F,F,F,F] rfl rfl (aZ HT_.o HW_.o (by kernel_rfl)) hHeld (Or.inl ⟨by rfl,by rintro w' ⟨s0,s1,s2⟩;go_simp;with_reducible rfl⟩) ?_
      refine pv HT_ 4 (some 42) #[T,T,T,T,T,F,F,F,F,F,F,F,F,F,F,F,F,F,F,F,F,F,F] ?_
      refine pv HT_ 5 (some 43) #[T,T,T,T,T,T,F,F,F,F,F,F,F,F,F,F,F,F,F,F,F,F,F] ?_
      refine bC (i:=6) (N:=some 44) (v:=undef) (a':=?_) #[T,T,T,T,T,T,T,F,F,F,F,F,F,F,F,F,F,F,F,F,F,F,F] rfl rfl (aY HT_.o (by kernel_rfl)) (fun _ _ _ h=>h) (Or.inr ⟨by rfl,rfl⟩) ?_ ?_
      rotate_left
      · simp only [Act.put,kX,kY,kZ,aI,aK]
        rfl
      refine bC (i:=7) (N:=some 45) (v:=undef) (a':=?_) #[T,T,T,T,T,T,T,T,F,F,F,F,F,F,F,F,F,F,F,F,F,F,F] rfl rfl (aY HT_.o (by kernel_rfl)) (fun _ _ _ h=>h) (Or.inr ⟨by rfl,rfl⟩) ?_ ?_
      rotate_left
      · simp only [Act.put,kX,kY,kZ,aI,aK]
        rfl
      refine bC (i:=8) (N:=some 46) (v:=undef) (a':=?_) #[T,T,T,T,T,T,T,T,T,F,F,F,F,F,F,F,F,F,F,F,F,F,F] rfl rfl (aY HT_.o (by kernel_rfl)) (fun _ _ _ h=>h) (Or.inr ⟨by rfl,rfl⟩) ?_ ?_
      rotate_left
      · simp only [Act.put,kX,kY,kZ,aI,aK]
        rfl
      refine bC (i:=9) (N:=some 47) (v:=undef) (a':=?_) #[T,T,T,T,T,T,T,T,T,T,F,F,F,F,F,F,F,F,F,F,F,F,F] rfl rfl (aY HT_.o (by kernel_rfl)) (fun _ _ _ h=>h) (Or.inr ⟨by rfl,rfl⟩) ?_ ?_
      rotate_left
      · simp only [Act.put,kX,kY,kZ,aI,aK]
        rfl
      refine bC (i:=10) (N:=some 48) (v:=undef) (a':=?_) #[T,T,T,T,T,T,T,T,T,T,T,F,F,F,F,F,F,F,F,F,F,F,F] rfl rfl (aY HT_.o (by kernel_rfl)) (fun _ _ _ h=>h) (Or.inr ⟨by rfl,rfl⟩) ?_ ?_
      rotate_left
      · simp only [Act.put,kX,kY,kZ,aI,aK]
        rfl
      refine bC (i:=11) (N:=some 49) (v:=undef) (a':=?_) #[T,T,T,T,T,T,T,T,T,T,T,T,F,F,F,F,F,F,F,F,F,F,F] rfl rfl (aY HT_.o (by kernel_rfl)) (fun _ _ _ h=>h) (Or.inr ⟨by rfl,rfl⟩) ?_ ?_
      rotate_left
      · simp only [Act.put,kX,kY,kZ,aI,aK]
        rfl
      refine bC (i:=12) (N:=some 50) (v:=undef) (a':=?_) #[T,T,T,T,T,T,T,T,T,T,T,T,T,F,F,F,F,F,F,F,F,F,F] rfl rfl (aY HT_.o (by kernel_rfl)) (fun _ _ _ h=>h) (Or.inr ⟨by rfl,rfl⟩) ?_ ?_
      rotate_left
      · simp only [Act.put,kX,kY,kZ,aI,aK]
        rfl
      refine bC (i:=13) (N:=some 51) (v:=undef) (a':=?_) #[T,T,T,T,T,T,T,T,T,T,T,T,T,T,F,F,F,F,F,F,F,F,F] rfl rfl (aY HT_.o (by kernel_rfl)) (fun _ _ _ h=>h) (Or.inr ⟨by rfl,rfl⟩) ?_ ?_
      rotate_left
      · simp only [Act.put,kX,kY,kZ,aI,aK]
        rfl
      refine bC (i:=14) (N:=some 52) (v:=undef) (a':=?_) #[T,T,T,T,T,T,T,T,T,T,T,T,T,T,T,F,F,F,F,F,F,F,F] rfl rfl (aY HT_.o (by kernel_rfl)) (fun _ _ _ h=>h) (Or.inr ⟨by rfl,rfl⟩) ?_ ?_
      rotate_left
      · simp only [Act.put,kX,kY,kZ,aI,aK]
        rfl
      refine bC (i:=15) (N:=some 53) (v:=undef) (a':=?_) #[T,T,T,T,T,T,T,T,T,T,T,T,T,T,T,T,F,F,F,F,F,F,F] rfl rfl (aY HT_.o (by kernel_rfl)) (fun _ _ _ h=>h) (Or.inr ⟨by rfl,rfl⟩) ?_ ?_
      rotate_left
      · simp only [Act.put,kX,kY,kZ,aI,aK]
        rfl
      refine pv HT_ 16 (some 54) #[T,T,T,T,T,T,T,T,T,T,T,T,T,T,T,T,T,F,F,F,F,F,F] ?_
      refine pv HT_ 17 (some 55) #[T,T,T,T,T,T,T,T,T,T,T,T,T,T,T,T,T,T,F,F,F,F,F] ?_
      refine bC (i:=18) (N:=some 56) (v:=undef) (a':=?_) #[T,T,T,T,T,T,T,T,T,T,T,T,T,T,T,T,T,T,T,F,F,F,F] rfl rfl (aY HT_.o (by kernel_rfl)) (fun _ _ _ h=>h) (Or.inr ⟨by rfl,rfl⟩) ?_ ?_
      rotate_left
      · simp only [Act.put,kX,kY,kZ,aI,aK]
        rfl
      refine bC (i:=19) (N:=some 57) (v:=undef) (a':=?_) #[T,T,T,T,T,T,T,T,T,T,T,T,T,T,T,T,T,T,T,T,F,F,F] rfl rfl (aY HT_.o (by kernel_rfl)) (fun _ _ _ h=>h) (Or.inr ⟨by rfl,rfl⟩) ?_ ?_
      rotate_left
      · simp only [Act.put,kX,kY,kZ,aI,aK]
        rfl
      refine bC (i:=20) (N:=some 58) (v:=undef) (a':=?_) #[T,T,T,T,T,T,T,T,T,T,T,T,T,T,T,T,T,T,T,T,T,F,F] rfl rfl (aY HT_.o (by kernel_rfl)) (fun _ _ _ h=>h) (Or.inr ⟨by rfl,rfl⟩) ?_ ?_
      rotate_left
      · simp only [Act.put,kX,kY,kZ,aI,aK]
        rfl
      refine bC (i:=21) (N:=some 59) (v:=undef) (a':=?_) #[T,T,T,T,T,T,T,T,T,T,T,T,T,T,T,T,T,T,T,T,T,T,F] rfl rfl (aY HT_.o (by kernel_rfl)) (fun _ _ _ h=>h) (Or.inr ⟨by rfl,rfl⟩) ?_ ?_
      rotate_left
      · simp only [Act.put,kX,kY,kZ,aI,aK]
        rfl
      refine pv HT_ 22 (some 60) #[T,T,T,T,T,T,T,T,T,T,T,T,T,T,T,T,T,T,T,T,T,T,T] ?_
      refine d5 (cL HT_.o (by kernel_rfl)) ?_
      try go_wp2
      go_meet
      case rel=>exact ⟨_,(false),sq,H',⟨by have:=G4.o;first|omega|exact k7 _⟩,⟨kqR Aa.o⟩,⟨kqR A3.o⟩,⟨kqS A1.o⟩,⟨kqR A2.o⟩,⟨zq A4.o⟩,⟨zq A5.o⟩,⟨zq A6.o⟩,⟨zq A7.o⟩,⟨bq4 HB.o Ac.o Ae.o Af.o Ai.o⟩⟩
    replace Gc:=Bool.eq_false_iff.mpr Gc
    subst Gc
    replace H:(if Ak<(Ab.length:Int) then (aW.j1 k1 l0 A9 C2 Bt (decide ((A8.length:Int)≤10)) A9 B9 false Av Aw Az B0 A8 Ab Ak Au) else (aW.j1 k1 l0 A9 C2 Bt false A9 B9 false Av Aw Az B0 A8 Ab Ak Au))=some (r1,r2,r3,r4,r5,r6):=by rw [if_neg (show ¬(false=true) by decide)] at H;exact H
    replace H:=il' H
    rcases H with ⟨-,Cc,H⟩|⟨-,Cc,H⟩
    · (first|rw [Cc]|(simp only [aI,aK];rw [Cc])|skip)
      have H':=am H
      clear H
      try go_wp2
      have n_:=ak9 (Kd.R_drew Aa.o) (Kd.R_drew A3.o) (Kd.S_drew A1.o) (Kd.R_drew A2.o) (a7 A4.o) (a7 A5.o) (a7 A6.o) (a7 A7.o) (bB HB.o)
      clear Aa A3 A1 A2 A4 A5 A6 A7 HB
      obtain ⟨Aa,A3,A1,A2,A4,A5,A6,A7,HB⟩:=n_
      refine cW (n:=23) (S:=fun w'=>w'.cell? ⟨Ag,0,none⟩=some (.slice Bd A9.length Be)∧w'.cell? ⟨Ag,1,none⟩=some (.int .i64 B9)∧w'.cell? ⟨Ag,2,none⟩=some (.bool false)∧w'.cell? ⟨Bf,0,none⟩=some (.slice B1 Ab.length B2)∧w'.cell? ⟨Bf,1,none⟩=some (.int .i64 Ak)∧w'.cell? ⟨Bf,2,none⟩=some (.bool Au)) (ds:=[]) #[F,F,F,F,F,F,F,F,F,F,F,F,F,F,F,F,F,F,F,F,F,F,F] (by kernel_rfl) rfl rfl ⟨(aA A5.o 0).trans rfl,(aA A5.o 1).trans rfl,(aA A5.o 2).trans rfl,(aA A7.o 0).trans rfl,(aA A7.o 1).trans rfl,(aA A7.o 2).trans rfl⟩ (fun hHeld=>?_);refine bW aW.tab8 aW.bits8 (fun HT_ HW_=>?_)
      generalize wr.drew=Ql at Aa A3 A1 A2 A4 A5 A6 A7 HB hHeld ⊢
      refine pv HT_ 0 (some 38) #[T,F,F,F,F,F,F,F,F,F,F,F,F,F,F,F,F,F,F,F,F,F,F] ?_
      refine pv HT_ 1 (some 39) #[T,T,F,F,F,F,F,F,F,F,F,F,F,F,F,F,F,F,F,F,F,F,F] ?_
      refine pv HT_ 2 (some 40) #[T,T,T,F,F,F,F,F,F,F,F,F,F,F,F,F,F,F,F,F,F,F,F] ?_
      refine tk 3 (some 41) #[T,T,T,T,F,F,F,F,F,F,F,F,F,F,F,F,F,F,F,F,F,F,F] rfl rfl (aZ HT_.o HW_.o (by kernel_rfl)) hHeld (Or.inl ⟨by rfl,by rintro w' ⟨s0,s1,s2,s3,s4,s5⟩;go_simp;with_reducible rfl⟩) ?_
      refine pv HT_ 4 (some 42) #[T,T,T,T,T,F,F,F,F,F,F,F,F,F,F,F,F,F,F,F,F,F,F] ?_
      refine pv HT_ 5 (some 43) #[T,T,T,T,T,T,F,F,F,F,F,F,F,F,F,F,F,F,F,F,F,F,F] ?_
      refine pv HT_ 6 (some 44) #[T,T,T,T,T,T,T,F,F,F,F,F,F,F,F,F,F,F,F,F,F,F,F] ?_
      refine pv HT_ 7 (some 45) #[T,T,T,T,T,T,T,T,F,F,F,F,F,F,F,F,F,F,F,F,F,F,F] ?_
      refine pv HT_ 8 (some 46) #[T,T,T,T,T,T,T,T,T,F,F,F,F,F,F,F,F,F,F,F,F,F,F] ?_
      refine pv HT_ 10 (some 48) #[T,T,T,T,T,T,T,T,T,F,T,F,F,F,F,F,F,F,F,F,F,F,F] ?_
      refine pv HT_ 11 (some 49) #[T,T,T,T,T,T,T,T,T,F,T,T,F,F,F,F,F,F,F,F,F,F,F] ?_
      refine pv HT_ 12 (some 50) #[T,T,T,T,T,T,T,T,T,F,T,T,T,F,F,F,F,F,F,F,F,F,F] ?_
      refine tk 9 (some 47) #[T,T,T,T,T,T,T,T,T,T,T,T,T,F,F,F,F,F,F,F,F,F,F] rfl rfl (aZ HT_.o HW_.o (by kernel_rfl)) hHeld (Or.inl ⟨by rfl,by rintro w' ⟨s0,s1,s2,s3,s4,s5⟩;go_simp;with_reducible rfl⟩) ?_
      refine tk 13 (some 51) #[T,T,T,T,T,T,T,T,T,T,T,T,T,T,F,F,F,F,F,F,F,F,F] rfl rfl (aZ HT_.o HW_.o (by kernel_rfl)) hHeld (Or.inl ⟨by rfl,by rintro w' ⟨s0,s1,s2,s3,s4,s5⟩;go_simp;with_reducible rfl⟩) ?_
      refine pv HT_ 14 (some 52) #[T,T,T,T,T,T,T,T,T,T,T,T,T,T,T,F,F,F,F,F,F,F,F] ?_
      refine pv HT_ 15 (some 53) #[T,T,T,T,T,T,T,T,T,T,T,T,T,T,T,T,F,F,F,F,F,F,F] ?_
      refine pv HT_ 16 (some 54) #[T,T,T,T,T,T,T,T,T,T,T,T,T,T,T,T,T,F,F,F,F,F,F] ?_
      refine pv HT_ 17 (some 55) #[T,T,T,T,T,T,T,T,T,T,T,T,T,T,T,T,T,T,F,F,F,F,F] ?_
      refine bC (i:=18) (N:=some 56) (v:=undef) (a':=?_) #[T,T,T,T,T,T,T,T,T,T,T,T,T,T,T,T,T,T,T,F,F,F,F] rfl rfl (aY HT_.o (by kernel_rfl)) (fun _ _ _ h=>h) (Or.inr ⟨by rfl,rfl⟩) ?_ ?_
      rotate_left
      · simp only [Act.put,kX,kY,kZ,aI,aK]
        rfl
      refine bC (i:=19) (N:=some 57) (v:=undef) (a':=?_) #[T,T,T,T,T,T,T,T,T,T,T,T,T,T,T,T,T,T,T,T,F,F,F] rfl rfl (aY HT_.o (by kernel_rfl)) (fun _ _ _ h=>h) (Or.inr ⟨by rfl,rfl⟩) ?_ ?_
      rotate_left
      · simp only [Act.put,kX,kY,kZ,aI,aK]
        rfl
      refine bC (i:=20) (N:=some 58) (v:=undef) (a':=?_) #[T,T,T,T,T,T,T,T,T,T,T,T,T,T,T,T,T,T,T,T,T,F,F] rfl rfl (aY HT_.o (by kernel_rfl)) (fun _ _ _ h=>h) (Or.inr ⟨by rfl,rfl⟩) ?_ ?_
      rotate_left
      · simp only [Act.put,kX,kY,kZ,aI,aK]
        rfl
      refine bC (i:=21) (N:=some 59) (v:=undef) (a':=?_) #[T,T,T,T,T,T,T,T,T,T,T,T,T,T,T,T,T,T,T,T,T,T,F] rfl rfl (aY HT_.o (by kernel_rfl)) (fun _ _ _ h=>h) (Or.inr ⟨by rfl,rfl⟩) ?_ ?_
      rotate_left
      · simp only [Act.put,kX,kY,kZ,aI,aK]
        rfl
      refine pv HT_ 22 (some 60) #[T,T,T,T,T,T,T,T,T,T,T,T,T,T,T,T,T,T,T,T,T,T,T] ?_
      refine d5 (cL HT_.o (by kernel_rfl)) ?_
      try go_wp2
      go_meet
      case rel=>exact ⟨_,(false),sq,H',⟨by have:=G4.o;first|omega|exact k7 _⟩,⟨kqR Aa.o⟩,⟨kqR A3.o⟩,⟨kqS A1.o⟩,⟨kqR A2.o⟩,⟨zq A4.o⟩,⟨zq A5.o⟩,⟨zq A6.o⟩,⟨zq A7.o⟩,⟨bq4 HB.o Ac.o Ae.o Af.o Ai.o⟩⟩
    (first|rw [Cc]|(simp only [aI,aK];rw [Cc])|skip)
    have H':=am H
    clear H
    try go_wp2
    have n_:=ak9 (Kd.R_drew Aa.o) (Kd.R_drew A3.o) (Kd.S_drew A1.o) (Kd.R_drew A2.o) (a7 A4.o) (a7 A5.o) (a7 A6.o) (a7 A7.o) (bB HB.o)
    clear Aa A3 A1 A2 A4 A5 A6 A7 HB
    obtain ⟨Aa,A3,A1,A2,A4,A5,A6,A7,HB⟩:=n_
    obtain ⟨M9,Ma,Gi⟩:=Kd.S_slice A1.o
    (first|subst Gi|(injection Gi with Ez Gj G0;have Gk:=Ez.symm;have Gl:=G0.symm;clear Ez Gj G0;subst Gk;subst Gl))
    refine cW (n:=23) (S:=fun w'=>w'.cell? ⟨Ag,0,none⟩=some (.slice Bd A9.length Be)∧w'.cell? ⟨Ag,1,none⟩=some (.int .i64 B9)∧w'.cell? ⟨Ag,2,none⟩=some (.bool false)∧w'.cell? ⟨Bf,0,none⟩=some (.slice B1 Ab.length B2)∧w'.cell? ⟨Bf,1,none⟩=some (.int .i64 Ak)∧w'.cell? ⟨Bf,2,none⟩=some (.bool Au)∧w'.cell? ⟨Aq,0,none⟩=some (.int .i64 Av)∧w'.cell? ⟨Aq,1,none⟩=some (.int .i64 Aw)∧w'.cell? ⟨Aq,2,none⟩=some (.int .i64 Az)∧w'.cell? ⟨Aq,3,none⟩=some (.int .i64 B0)∧w'.cell? ⟨Aq,4,none⟩=some (.slice M9 A8.length Ma)) (ds:=[]) #[F,F,F,F,F,F,F,F,F,F,F,F,F,F,F,F,F,F,F,F,F,F,F] (by kernel_rfl) rfl rfl ⟨(aA A5.o 0).trans rfl,(aA A5.o 1).trans rfl,(aA A5.o 2).trans rfl,(aA A7.o 0).trans rfl,(aA A7.o 1).trans rfl,(aA A7.o 2).trans rfl,(aA A6.o 0).trans rfl,(aA A6.o 1).trans rfl,(aA A6.o 2).trans rfl,(aA A6.o 3).trans rfl,(aA A6.o 4).trans rfl⟩ (fun hHeld=>?_);refine bW aW.tab8 aW.bits8 (fun HT_ HW_=>?_)
    generalize wr.drew=Qm at Aa A3 A1 A2 A4 A5 A6 A7 HB hHeld ⊢
    refine pv HT_ 0 (some 38) #[T,F,F,F,F,F,F,F,F,F,F,F,F,F,F,F,F,F,F,F,F,F,F] ?_
    refine pv HT_ 1 (some 39) #[T,T,F,F,F,F,F,F,F,F,F,F,F,F,F,F,F,F,F,F,F,F,F] ?_
    refine pv HT_ 2 (some 40) #[T,T,T,F,F,F,F,F,F,F,F,F,F,F,F,F,F,F,F,F,F,F,F] ?_
    refine tk 3 (some 41) #[T,T,T,T,F,F,F,F,F,F,F,F,F,F,F,F,F,F,F,F,F,F,F] rfl rfl (aZ HT_.o HW_.o (by kernel_rfl)) hHeld (Or.inl ⟨by rfl,by rintro w' ⟨s0,s1,s2,s3,s4,s5,s6,s7,s8,s9,Cs⟩;go_simp;with_reducible rfl⟩) ?_
    refine pv HT_ 4 (some 42) #[T,T,T,T,T,F,F,F,F,F,F,F,F,F,F,F,F,F,F,F,F,F,F] ?_
    refine pv HT_ 5 (some 43) #[T,T,T,T,T,T,F,F,F,F,F,F,F,F,F,F,F,F,F,F,F,F,F] ?_
    refine pv HT_ 6 (some 44) #[T,T,T,T,T,T,T,F,F,F,F,F,F,F,F,F,F,F,F,F,F,F,F] ?_
    refine pv HT_ 7 (some 45) #[T,T,T,T,T,T,T,T,F,F,F,F,F,F,F,F,F,F,F,F,F,F,F] ?_
    refine pv HT_ 8 (some 46) #[T,T,T,T,T,T,T,T,T,F,F,F,F,F,F,F,F,F,F,F,F,F,F] ?_
    refine pv HT_ 10 (some 48) #[T,T,T,T,T,T,T,T,T,F,T,F,F,F,F,F,F,F,F,F,F,F,F] ?_
    refine pv HT_ 11 (some 49) #[T,T,T,T,T,T,T,T,T,F,T,T,F,F,F,F,F,F,F,F,F,F,F] ?_
    refine pv HT_ 12 (some 50) #[T,T,T,T,T,T,T,T,T,F,T,T,T,F,F,F,F,F,F,F,F,F,F] ?_
    refine tk 9 (some 47) #[T,T,T,T,T,T,T,T,T,T,T,T,T,F,F,F,F,F,F,F,F,F,F] rfl rfl (aZ HT_.o HW_.o (by kernel_rfl)) hHeld (Or.inl ⟨by rfl,by rintro w' ⟨s0,s1,s2,s3,s4,s5,s6,s7,s8,s9,Cs⟩;go_simp;with_reducible rfl⟩) ?_
    refine tk 13 (some 51) #[T,T,T,T,T,T,T,T,T,T,T,T,T,T,F,F,F,F,F,F,F,F,F] rfl rfl (aZ HT_.o HW_.o (by kernel_rfl)) hHeld (Or.inl ⟨by rfl,by rintro w' ⟨s0,s1,s2,s3,s4,s5,s6,s7,s8,s9,Cs⟩;go_simp;with_reducible rfl⟩) ?_
    refine pv HT_ 14 (some 52) #[T,T,T,T,T,T,T,T,T,T,T,T,T,T,T,F,F,F,F,F,F,F,F] ?_
    refine pv HT_ 15 (some 53) #[T,T,T,T,T,T,T,T,T,T,T,T,T,T,T,T,F,F,F,F,F,F,F] ?_
    refine pv HT_ 16 (some 54) #[T,T,T,T,T,T,T,T,T,T,T,T,T,T,T,T,T,F,F,F,F,F,F] ?_
    refine pv HT_ 17 (some 55) #[T,T,T,T,T,T,T,T,T,T,T,T,T,T,T,T,T,T,F,F,F,F,F] ?_
    refine pv HT_ 18 (some 56) #[T,T,T,T,T,T,T,T,T,T,T,T,T,T,T,T,T,T,T,F,F,F,F] ?_
    refine tk 19 (some 57) #[T,T,T,T,T,T,T,T,T,T,T,T,T,T,T,T,T,T,T,T,F,F,F] rfl rfl (aZ HT_.o HW_.o (by kernel_rfl)) hHeld (Or.inl ⟨by rfl,by rintro w' ⟨s0,s1,s2,s3,s4,s5,s6,s7,s8,s9,Cs⟩;go_simp;with_reducible rfl⟩) ?_
    refine pv HT_ 20 (some 58) #[T,T,T,T,T,T,T,T,T,T,T,T,T,T,T,T,T,T,T,T,T,F,F] ?_
    refine pv HT_ 21 (some 59) #[T,T,T,T,T,T,T,T,T,T,T,T,T,T,T,T,T,T,T,T,T,T,F] ?_
    refine pv HT_ 22 (some 60) #[T,T,T,T,T,T,T,T,T,T,T,T,T,T,T,T,T,T,T,T,T,T,T] ?_
    refine d5 (cL HT_.o (by kernel_rfl)) ?_
    try go_wp2
    go_meet
    case rel=>exact ⟨_,(decide ((A8.length:Int)≤10)),sq,H',⟨by have:=G4.o;first|omega|exact k7 _⟩,⟨kqR Aa.o⟩,⟨kqR A3.o⟩,⟨kqS A1.o⟩,⟨kqR A2.o⟩,⟨zq A4.o⟩,⟨zq A5.o⟩,⟨zq A6.o⟩,⟨zq A7.o⟩,⟨bq4 HB.o Ac.o Ae.o Af.o Ai.o⟩⟩
   case rest=>
    clear G5
    try clear c2
    try clear p2
    try clear c3
    try clear Gc
    try clear Qn
    try clear Cc
    obtain ⟨kq,Cf,rfl,HA,Em,Aa,A3,A1,A2,A4,A5,A6,A7,HB⟩:=hcut
    cases kq with
    |zero=>exact absurd HA.o (by simp [aW.j1])
    |succ C3=>
     have H:=HA.o
     clear HA
     simp only [aW.j1] at H
     rcases Decidable.em (Cf=true) with Gm|Gm
     · subst Gm
       replace H:((bR.f C3 Ab Ak Au 48).bind fun Cd=>((eZ.f C3 Cd.1).bind fun Bp=>(if Cd.2.2=true then (if A8.length<1759218604441 then (aW.l0 C3 l0 A9 C2 Bt A9 B9 true Av Aw Az B0 (A8++[(⟨Bp.1,(⟨Bp.2.1,Bp.2.2.1,Bp.2.2.2.1,Bp.2.2.2.2.1⟩:S43)⟩:S45)]) Ab Cd.2.1 Cd.2.2) else (none)) else (if A8.length<1759218604441 then (aW.l0 C3 l0 A9 C2 Bt A9 B9 (!Bp.2.2.2.2.2) Av Aw Az B0 (A8++[(⟨Bp.1,(⟨Bp.2.1,Bp.2.2.1,Bp.2.2.2.1,Bp.2.2.2.2.1⟩:S43)⟩:S45)]) Ab Cd.2.1 Cd.2.2) else (none)))))=some (r1,r2,r3,r4,r5,r6):=by rw [if_pos rfl] at H;exact H
       replace H:=be H
       obtain ⟨⟨Bg,C8,Gn⟩,O7,H⟩:=H
       try dsimp only at H
       replace H:=be H
       obtain ⟨⟨Ao,B3,B4,B5,Ap,Bj⟩,O8,H⟩:=H
       try dsimp only at H
       rcases bt Gn with rfl|rfl
       · replace H:=iT H
         replace H:=nq H
         obtain ⟨O9,H⟩:=H
         have Go:=am O9
         clear O9
         generalize G1:((A8++[(⟨Ao,(⟨B3,B4,B5,Ap⟩:S43)⟩:S45)]):List (S45))=Ct at H
         have Gp:=am G1.symm
         clear G1
         have H':=am H
         clear H
         go_wp2_with (first|((with_reducible refine aE (f:=33) rfl ?_);refine gc (some 63) (bR.box C3 Bf Ab Ak Au 48 Bg C8 true _ B1 B2 (by refine zr ?_;exact A7.o) (gC (kqR A2.o) Ey.o) ((Kd.R_reads' A2.o).2.1) O7.o) Try.func33 ?_;rintro e Qo ⟨Mb,rfl,C7,hi,hq⟩;refine ⟨_,rfl,?_⟩;have hk:=hq.kb;have n_:=jG (Kd.R_mono (Kd.R_told (Kd.R_oldK (Kd.R_types (kqR Aa.o) (zq A7.o) (by decide)) hk) (Kd.R_base C7)) (fun _ h_=>h_.1)) (Kd.R_mono (Kd.R_told (Kd.R_oldK (Kd.R_types (kqR A3.o) (zq A7.o) (by decide)) hk) (Kd.R_base C7)) (fun _ h_=>h_.1)) (Kd.S_mono (Kd.S_keep (Kd.S_types (kqS A1.o) (zq A7.o) (by decide)) hk (fun _ h=>h.2)) (fun _ h=>h.1)) (Kd.R_mono (Kd.R_told (Kd.R_oldK (Kd.R_types (kqR A2.o) (zq A7.o) (by decide)) hk) (Kd.R_base C7)) (fun _ h_=>h_.1)) (KeepBut.blk hk (zb A4.o) B6.o (by simp)) (KeepBut.blk hk (zb A5.o) Br.o (by simp)) (KeepBut.blk hk (zb A6.o) Bh.o (by simp)) (Kd.R_lower (Kd.R_new' (Kd.R_new' (Kd.R_new' C7 (Kd.R_lt (kqR Aa.o))) (Kd.R_lt (kqR A3.o))) (Kd.R_lt (kqR A2.o))) (aH (bq4 HB.o Ac.o Ae.o Af.o Ai.o))) (Kq.bel hq (bq4 HB.o Ac.o Ae.o Af.o Ai.o) Ai.o) hi;clear Aa A3 A1 A2 A4 A5 A6 HB A7;obtain ⟨Aa,A3,A1,A2,A4,A5,A6,Ax,HB,A7⟩:=n_;(try clear hi hq C7);obtain ⟨Cm,Cn,Mc⟩:=Kd.R_slice Ax.o;subst Mc)|((with_reducible refine aE (f:=34) rfl ?_);refine gc (some 64) (eZ.calls C3 _ _ Bg Ao B3 B4 B5 Ap Bj _ (cq (Kd.R_reads' Ax.o).2.2) ((Kd.R_reads' Ax.o).2.1) O8.o) Try.func34 ?_;rintro e Qp ⟨Md,Me,rfl,C7,G6,hb⟩;refine ⟨_,rfl,?_⟩;have n_:=gA (rb Aa hb) (rb A3 hb) (Kd.S_mono (Kd.S_told (Kd.S_told (Kd.S_old (kqS A1.o) hb) (Kd.R_base C7)) (Kd.R_base G6)) (fun _ h_=>h_.1)) (rb A2 hb) (rb Ax hb) (rl C7 (bq4 HB.o Ac.o Ae.o Af.o Ai.o)) (rl G6 (bq4 HB.o Ac.o Ae.o Af.o Ai.o)) (kb A4 hb) (kb A5 hb) (kb A6 hb) (kb A7 hb) (aC (bq4 HB.o Ac.o Ae.o Af.o Ai.o) hb);clear Aa A3 A1 A2 Ax A4 A5 A6 A7 HB;obtain ⟨Aa,A3,A1,A2,Ax,B7,B8,A4,A5,A6,A7,HB⟩:=n_;(try clear hb C7 G6))|((with_reducible refine aJ (N:=11) rfl ?_);(try (refine a9 (by rfl) ?_;dsimp only));refine bxe 11 #[.slice none 0 0,.int .i64 0,.int .i64 0,.string (⟨#[]⟩:ByteArray),.slice none 0 0] 45 ?_;intro Al hg Q7 hbox hb;have Eo:=am (rb Aa hb);have Ep:=am (rb A3 hb);have Eq:=am (Kd.S_below (Kd.S_elderB (kqS A1.o) Al (Nat.le_of_eq hg.symm)) hb);have Er:=am (rb A2 hb);have Es:=am (rb Ax hb);have Et:=am (rb B7 hb);have Eu:=am (rb B8 hb);have Ev:=am (kb A4 hb);have Ew:=am (kb A5 hb);have Ex:=am (kb A6 hb);have Cg:=am (kb A7 hb);have Ch:=am (aC (bq4 HB.o Ac.o Ae.o Af.o Ai.o) hb);have Ci:=am (hbox);have Cj:=am (bz hg (bq4 HB.o Ac.o Ae.o Af.o Ai.o));have Ck:=am (bz hg (bq4 HB.o Ac.o Ae.o Af.o Ai.o));have Cl:=am (nL hg A4);have D2:=am (nG hg A4);have D3:=am (nL hg A5);have D4:=am (nG hg A5);have D5:=am (nL hg A6);have D6:=am (nG hg A6);have D7:=am (nL hg A7);have D8:=am (nG hg A7);clear Aa;clear A3;clear A1;clear A2;clear Ax;clear B7;clear B8;clear A4;clear A5;clear A6;clear A7;clear HB;have Aa:=Eo;have A3:=Ep;have A1:=Eq;have A2:=Er;have Ax:=Es;have B7:=Et;have B8:=Eu;have A4:=Ev;have A5:=Ew;have A6:=Ex;have A7:=Cg;have HB:=Ch;have Am:=Ci;have Gq:=Cj;have Bq:=Ck;have Bk:=Cl;have C4:=D2;have Bl:=D3;have Bm:=D4;have Bn:=D5;have C5:=D6;have Bo:=D7;have C6:=D8;clear Eo Ep Eq Er Es Et Eu Ev Ew Ex Cg Ch Ci Cj Ck Cl D2 D3 D4 D5 D6 D7 D8;clear hb hbox hg;obtain ⟨Bu,Bv,Mf⟩:=Kd.R_slice B7.o;subst Mf;have Oa:=C4.o;have Ob:=Bk.o;have Oc:=Bm.o;have Od:=Bl.o;have Oe:=C5.o;have Of:=Bn.o;have Og:=C6.o;have Oh:=Bo.o;obtain ⟨Ja,Jb,Jc,Jd,Je,Jf,Jg,Jh,Ji,Jj⟩:=cl5 Am.o;obtain ⟨Bw,Bx,Mg⟩:=Kd.R_slice B8.o;subst Mg)|((with_reducible refine aQ (t:=45) (p:=11) rfl ?_);refine se 45 11 (s5 Q7 Al (.slice Bu Ao.length Bv) (.int .i64 B3) (.int .i64 B4) (.string B5) (.slice Bw Ap.length Bx)) ?_;intro Gd hw;have n_:=jX (show Kd.R (Kd.int .u8) 5 Gd w.heap.size (fun k_=>some k_≠(.slice B1 Ab.length B2:Value).ownBlock∧some k_≠(.slice Cm Bg.length Cn:Value).ownBlock) (.slice Bd A9.length Be) A9 by rw [hw];exact (by refine kr ?_;exact Kd.R_mono (rf5 Al (.slice Bu Ao.length Bv) (.int .i64 B3) (.int .i64 B4) (.string B5) (.slice Bw Ap.length Bx) (Kd.R_types Aa.o Am.o (by decide)) (fun _ hk=>hk.2)) (fun _ hk=>⟨hk.1.1,hk.1.2⟩))) (show Kd.R (Kd.int .u8) 5 Gd w.heap.size (fun k_=>some k_≠(.slice B1 Ab.length B2:Value).ownBlock∧some k_≠(.slice Cm Bg.length Cn:Value).ownBlock) (.slice Bd A9.length Be) A9 by rw [hw];exact (by refine kr ?_;exact Kd.R_mono (rf5 Al (.slice Bu Ao.length Bv) (.int .i64 B3) (.int .i64 B4) (.string B5) (.slice Bw Ap.length Bx) (Kd.R_types A3.o Am.o (by decide)) (fun _ hk=>hk.2)) (fun _ hk=>⟨hk.1.1,hk.1.2⟩))) (show Kd.S k45 45 Gd w.heap.size (fun k_=>some k_≠(.slice Bu Ao.length Bv:Value).ownBlock∧some k_≠(.slice Bw Ap.length Bx:Value).ownBlock∧k_≠Al) Ah A8 by rw [hw];exact (by (with_reducible repeat (first|apply Kd.S_alloc|apply Kd.S_drewN|apply Kd.S_drew));exact Kd.S_mono (Kd.S_far (p:=⟨Al,4,none⟩) (Kd.S_far (p:=⟨Al,3,none⟩) (Kd.S_far (p:=⟨Al,2,none⟩) (Kd.S_far (p:=⟨Al,1,none⟩) (Kd.S_far (p:=⟨Al,0,none⟩) (Kd.S_mono A1.o (fun k_ hk=>(⟨hk,hk.2⟩:_∧k_≠Al))) (fun _ hk=>hk.2) (.slice Bu Ao.length Bv)) (fun _ hk=>hk.2) (.int .i64 B3)) (fun _ hk=>hk.2) (.int .i64 B4)) (fun _ hk=>hk.2) (.string B5)) (fun _ hk=>hk.2) (.slice Bw Ap.length Bx)) (fun _ hk=>⟨hk.1.1.1.2,⟨hk.1.1.2,hk.1.2⟩⟩))) (show Kd.R (Kd.int .u8) 5 Gd w.heap.size (fun k_=>some k_≠(.slice Bd A9.length Be:Value).ownBlock∧some k_≠(.slice Bd A9.length Be:Value).ownBlock∧some k_≠(.slice Cm Bg.length Cn:Value).ownBlock) (.slice B1 Ab.length B2) Ab by rw [hw];exact (by refine kr ?_;exact Kd.R_mono (rf5 Al (.slice Bu Ao.length Bv) (.int .i64 B3) (.int .i64 B4) (.string B5) (.slice Bw Ap.length Bx) (Kd.R_types A2.o Am.o (by decide)) (fun _ hk=>hk.2)) (fun _ hk=>⟨hk.1.1.1,⟨hk.1.1.2,hk.1.2⟩⟩))) (show Kd.R (Kd.int .u8) 5 Gd w.heap.size (fun k_=>some k_≠(.slice Bd A9.length Be:Value).ownBlock∧some k_≠(.slice Bd A9.length Be:Value).ownBlock∧some k_≠(.slice B1 Ab.length B2:Value).ownBlock) (.slice Cm Bg.length Cn) Bg by rw [hw];exact (by refine kr ?_;exact Kd.R_mono (rf5 Al (.slice Bu Ao.length Bv) (.int .i64 B3) (.int .i64 B4) (.string B5) (.slice Bw Ap.length Bx) (Kd.R_types Ax.o Am.o (by decide)) (fun _ hk=>hk.2)) (fun _ hk=>⟨hk.1.1.1.2,⟨hk.1.1.2,hk.1.2⟩⟩))) (sr5 hw B7 Am) (sr5 hw B8 Am) (sf5 hw A4 Bk) (sf5 hw A5 Bl) (sf5 hw A6 Bn) (sf5 hw A7 Bo) (sc5 hw Am) (sb hw (bq5 HB.o Ac.o Ae.o Af.o Ai.o Bq.o));clear hw Aa A3 A1 A2 Ax B7 B8 A4 A5 A6 A7 Am HB;obtain ⟨Aa,A3,A1,A2,Ax,B7,B8,A4,A5,A6,A7,Am,HB⟩:=n_;have Oi:=At.o;have Oj:=B6.o;have Ok:=Bs.o;have Ol:=Br.o;have Om:=Bi.o;have On:=Bh.o;obtain ⟨Jk,Jl,Jm,Jn,Jo,Jp⟩:=cl3 A7.o;have Oo:=Ar.o;have Op:=Ay.o;have Oq:=Ba.o;have Os:=Bb.o;obtain ⟨Jq,Jr,Js,Jt,Ju,Jv⟩:=cl3 A5.o)|((with_reducible refine aQ (t:=4) (p:=77) rfl ?_);refine se 4 77 (Gd.setCell ⟨Ag,2,none⟩ (.bool true)) ?_;intro Cu hw;have n_:Aside0 (Kd.R (Kd.int .u8) 5 Cu w.heap.size (fun k_=>some k_≠(.slice B1 Ab.length B2:Value).ownBlock∧some k_≠(.slice Cm Bg.length Cn:Value).ownBlock) (.slice Bd A9.length Be) A9)∧Aside0 (Kd.R (Kd.int .u8) 5 Cu w.heap.size (fun k_=>some k_≠(.slice B1 Ab.length B2:Value).ownBlock∧some k_≠(.slice Cm Bg.length Cn:Value).ownBlock) (.slice Bd A9.length Be) A9)∧Aside0 (Kd.S k45 45 Cu w.heap.size (fun k_=>some k_≠(.slice Bu Ao.length Bv:Value).ownBlock∧some k_≠(.slice Bw Ap.length Bx:Value).ownBlock∧k_≠Al) Ah A8)∧Aside0 (Kd.R (Kd.int .u8) 5 Cu w.heap.size (fun k_=>some k_≠(.slice Bd A9.length Be:Value).ownBlock∧some k_≠(.slice Bd A9.length Be:Value).ownBlock∧some k_≠(.slice Cm Bg.length Cn:Value).ownBlock) (.slice B1 Ab.length B2) Ab)∧Aside0 (Kd.R (Kd.int .u8) 5 Cu w.heap.size (fun k_=>some k_≠(.slice Bd A9.length Be:Value).ownBlock∧some k_≠(.slice Bd A9.length Be:Value).ownBlock∧some k_≠(.slice B1 Ab.length B2:Value).ownBlock) (.slice Cm Bg.length Cn) Bg)∧Aside0 (Kd.R (Kd.int .i64) 3 Cu w.heap.size (fun k_=>some k_≠(.slice Bw Ap.length Bx:Value).ownBlock) (.slice Bu Ao.length Bv) Ao)∧Aside0 (Kd.R (Kd.int .i64) 3 Cu w.heap.size (fun k_=>some k_≠(.slice Bu Ao.length Bv:Value).ownBlock) (.slice Bw Ap.length Bx) Ap)∧Aside0 (Cu.heap[Ad]? =some (.cells #[.int .i64 0,.int .i64 0,.int .i64 0,.int .i64 0,.slice none 0 0] 26 (0,0)))∧Aside0 (Cu.heap[Ag]? =some (.cells #[.slice Bd A9.length Be,.int .i64 B9,.bool true] 65 (0,0)))∧Aside0 (Cu.heap[Aq]? =some (.cells #[.int .i64 Av,.int .i64 Aw,.int .i64 Az,.int .i64 B0,Ah] 26 (0,0)))∧Aside0 (Cu.heap[Bf]? =some (.cells #[.slice B1 Ab.length B2,.int .i64 C8,.bool true] 65 (0,0)))∧Aside0 (Cu.heap[Al]? =some (.cells #[.slice Bu Ao.length Bv,.int .i64 B3,.int .i64 B4,.string B5,.slice Bw Ap.length Bx] 45 (0,0)))∧Aside0 (Below w.heap.size w Cu):=⟨⟨(by rw [hw];exact (by refine kr ?_;exact Kd.R_mono (Kd.R_far (p:=⟨Ag,2,none⟩) (Kd.R_types Aa.o A5.o (by decide)) (fun _ hk=>hk.2) (.bool true)) (fun _ hk=>⟨hk.1.1,hk.1.2⟩)))⟩,⟨(by rw [hw];exact (by refine kr ?_;exact Kd.R_mono (Kd.R_far (p:=⟨Ag,2,none⟩) (Kd.R_types A3.o A5.o (by decide)) (fun _ hk=>hk.2) (.bool true)) (fun _ hk=>⟨hk.1.1,hk.1.2⟩)))⟩,⟨(by rw [hw];exact (by (with_reducible repeat (first|apply Kd.S_alloc|apply Kd.S_drewN|apply Kd.S_drew));exact Kd.S_mono (Kd.S_far (p:=⟨Ag,2,none⟩) (Kd.S_types A1.o A5.o (by decide)) (fun _ hk=>hk.2) (.bool true)) (fun _ hk=>⟨hk.1.1,⟨hk.1.2.1,hk.1.2.2⟩⟩)))⟩,⟨(by rw [hw];exact (by refine kr ?_;exact Kd.R_mono (Kd.R_far (p:=⟨Ag,2,none⟩) (Kd.R_types A2.o A5.o (by decide)) (fun _ hk=>hk.2) (.bool true)) (fun _ hk=>⟨hk.1.1,⟨hk.1.2.1,hk.1.2.2⟩⟩)))⟩,⟨(by rw [hw];exact (by refine kr ?_;exact Kd.R_mono (Kd.R_far (p:=⟨Ag,2,none⟩) (Kd.R_types Ax.o A5.o (by decide)) (fun _ hk=>hk.2) (.bool true)) (fun _ hk=>⟨hk.1.1,⟨hk.1.2.1,hk.1.2.2⟩⟩)))⟩,⟨(by rw [hw];exact (by refine kr ?_;exact Kd.R_mono (Kd.R_far (p:=⟨Ag,2,none⟩) (Kd.R_types B7.o A5.o (by decide)) (fun _ hk=>hk.2) (.bool true)) (fun _ hk=>hk.1)))⟩,⟨(by rw [hw];exact (by refine kr ?_;exact Kd.R_mono (Kd.R_far (p:=⟨Ag,2,none⟩) (Kd.R_types B8.o A5.o (by decide)) (fun _ hk=>hk.2) (.bool true)) (fun _ hk=>hk.1)))⟩,⟨(by rw [hw];exact (by refine zr ?_;refine aN ?_ Ay.o _;refine zr ?_;exact A4.o))⟩,⟨(by rw [hw];exact (by refine zr ?_;refine aV (cs:=#[.slice Bd A9.length Be,.int .i64 B9,.bool Bc]) ?_ 2 _ rfl;refine zr ?_;exact A5.o))⟩,⟨(by rw [hw];exact (by refine zr ?_;refine aN ?_ Bb.o _;refine zr ?_;exact A6.o))⟩,⟨(by rw [hw];exact (by refine zr ?_;refine aN ?_ Bs.o _;refine zr ?_;exact A7.o))⟩,⟨(by rw [hw];exact (by refine zr ?_;refine aN ?_ Bm.o _;refine zr ?_;exact Am.o))⟩,⟨(by rw [hw];exact (bq5 HB.o Ac.o Ae.o Af.o Ai.o Bq.o))⟩⟩;clear hw Aa A3 A1 A2 Ax B7 B8 A4 A5 A6 A7 Am HB;obtain ⟨Aa,A3,A1,A2,Ax,B7,B8,A4,A5,A6,A7,Am,HB⟩:=n_;have Ot:=An.o;have Ou:=As.o;obtain ⟨Jw,Jx,Jy,Jz,K0,K1,K2,K3,K4,K5⟩:=cl5 A6.o;obtain ⟨K6,K7,K8,K9,Ka,Kb,Kc,Ke,Kf,Kg⟩:=cl5 Am.o)|((with_reducible refine bM (b:=.append) (xs:=#[.tmp 79,.tmp 81]) rfl ?_);(try (refine a9 (by rfl) ?_;dsimp only));at_builtin;refine Kd.S_append k45 (w0:=w) w.heap.size rfl (.tmp 79) (.tmp 81) 24 45 (.agg #[(.slice none 0 0),(.int .i64 0),(.int .i64 0),(.string ⟨#[]⟩),(.slice none 0 0)]) 80 rfl Try.underlying24 gQ rfl (by decide) (by omega) Ah A8 (⟨Ao,(⟨B3,B4,B5,Ap⟩:S43)⟩:S45) [.slice Bu Ao.length Bv,.int .i64 B3,.int .i64 B4,.string B5,.slice Bw Ap.length Bx] (fun k_=>k_≠Al) (fun k_=>some k_=(.slice Bu Ao.length Bv:Value).ownBlock∨some k_=(.slice Bw Ap.length Bx:Value).ownBlock) rfl rfl ?aP (fun k_ hk_=>hk_.elim (fun h_=>((Kd.R_mono (ok':=fun k_=>((fun k_=>k_≠Al)) k_∧some k_≠(Ah:Value).ownBlock) (Kd.R_types (Kd.R_apart' (B7.o) (Kd.S_typed A1.o) (by decide)) Am.o (by decide)) (fun k_ hk=>⟨hk.2,hk.1.2⟩))).1 k_ h_.symm) (fun h_=>((Kd.R_mono (ok':=fun k_=>((fun k_=>k_≠Al)) k_∧some k_≠(Ah:Value).ownBlock) (Kd.R_types (Kd.R_apart' (B8.o) (Kd.S_typed A1.o) (by decide)) Am.o (by decide)) (fun k_ hk=>⟨hk.2,hk.1.2⟩))).1 k_ h_.symm)) ?aF ?aO ?aB ?aS ?aL ?_;(case aP=>exact gK _ _ _ (⟨Ao,(⟨B3,B4,B5,Ap⟩:S43)⟩:S45) (Kd.R_mono (Kd.R_tight rfl (Kd.R_mono (ok':=fun k_=>((fun k_=>k_≠Al)) k_∧some k_≠(Ah:Value).ownBlock) (Kd.R_types (Kd.R_apart' (B7.o) (Kd.S_typed A1.o) (by decide)) Am.o (by decide)) (fun k_ hk=>⟨hk.2,hk.1.2⟩))) (fun _ h_=>Or.inl h_)) (Kd.R_mono (Kd.R_tight rfl (Kd.R_mono (ok':=fun k_=>((fun k_=>k_≠Al)) k_∧some k_≠(Ah:Value).ownBlock) (Kd.R_types (Kd.R_apart' (B8.o) (Kd.S_typed A1.o) (by decide)) Am.o (by decide)) (fun k_ hk=>⟨hk.2,hk.1.2⟩))) (fun _ h_=>Or.inr (h_))));(case aB=>exact (bq5 HB.o Ac.o Ae.o Af.o Ai.o Bq.o));(case aF=>exact (fun k_ hk=>Kd.freshB (g:=Al) (o:=.cells #[.slice Bu Ao.length Bv,.int .i64 B3,.int .i64 B4,.string B5,.slice Bw Ap.length Bx] 45 (0,0)) (zq Am.o) k_ hk));(case aO=>exact (by (with_reducible repeat (first|apply Kd.S_alloc|apply Kd.S_drewN|apply Kd.S_drew));exact Kd.S_mono A1.o (fun k_ hk=>⟨hk.2.2,fun e_=>e_.elim (fun h_=>hk.1 h_) (fun h_=>hk.2.1 h_)⟩)));(case aS=>exact (aH (bq5 HB.o Ac.o Ae.o Af.o Ai.o Bq.o)));(case aL=>have:=Go.o;omega);intro Ov Qq ho hb hg hat;rw [← Gp.o] at ho;have n_:=iU (Kd.R_over' (kqR Aa.o) (Kd.S_typed (kqS A1.o)) (by decide) hg) (Kd.R_over' (kqR A3.o) (Kd.S_typed (kqS A1.o)) (by decide) hg) (Kd.R_over' (kqR A2.o) (Kd.S_typed (kqS A1.o)) (by decide) hg) (cB (g:=Ad) (o:=.cells #[.int .i64 0,.int .i64 0,.int .i64 0,.int .i64 0,.slice none 0 0] 26 (0,0)) (zq A4.o) hg (Kd.S_ne A1.o A4.o (by decide))) (cB (g:=Ag) (o:=.cells #[.slice Bd A9.length Be,.int .i64 B9,.bool true] 65 (0,0)) (zq A5.o) hg (Kd.S_ne A1.o A5.o (by decide))) (cB (g:=Aq) (o:=.cells #[.int .i64 Av,.int .i64 Aw,.int .i64 Az,.int .i64 B0,Ah] 26 (0,0)) (zq A6.o) hg (Kd.S_ne A1.o A6.o (by decide))) (cB (g:=Bf) (o:=.cells #[.slice B1 Ab.length B2,.int .i64 C8,.bool true] 65 (0,0)) (zq A7.o) hg (Kd.S_ne A1.o A7.o (by decide))) (Kd.R_over' (kqR Ax.o) (Kd.S_typed (kqS A1.o)) (by decide) hg) (cB (g:=Al) (o:=.cells #[.slice Bu Ao.length Bv,.int .i64 B3,.int .i64 B4,.string B5,.slice Bw Ap.length Bx] 45 (0,0)) (zq Am.o) hg (Kd.S_away A1.o (fun _ hk=>hk.2.2))) hb ho;clear Aa A3 A2 A4 A5 A6 A7 Ax Am HB A1 B7 B8;obtain ⟨Aa,A3,A2,A4,A5,A6,A7,Ax,Am,HB,D9⟩:=n_;clear ho hb hg hat;obtain ⟨Da,Db,Mh⟩:=Kd.S_slice D9.o;subst Mh;obtain ⟨Kh,Ki,Kj,Kk,Kl,Km,Kn,Ko,Kp,Kr⟩:=cl5 A6.o))
         go_roundg C3
         case measure=>have:=G4.o;have:=Em.o;omega
         case rel=>exact ⟨(true),(Ct),(C8),(true),(.slice Da Ct.length Db),H',⟨by have:=G4.o;have:=Em.o;omega⟩,⟨by refine kr ?_;exact Kd.R_mono (Kd.R_far (p:=⟨Aq,4,none⟩) (Kd.R_types Aa.o A6.o (by decide)) (fun _ hk=>hk.2) (.slice Da Ct.length Db)) (fun _ hk=>hk.1.1)⟩,⟨by refine kr ?_;exact Kd.R_mono (Kd.R_far (p:=⟨Aq,4,none⟩) (Kd.R_types A3.o A6.o (by decide)) (fun _ hk=>hk.2) (.slice Da Ct.length Db)) (fun _ hk=>hk.1.1)⟩,⟨by (with_reducible repeat (first|apply Kd.S_alloc|apply Kd.S_drewN|apply Kd.S_drew));exact Kd.S_mono (Kd.S_far (p:=⟨Aq,4,none⟩) (Kd.S_types D9.o A6.o (by decide)) (fun _ hk=>hk.2) (.slice Da Ct.length Db)) (fun _ hk=>trivial)⟩,⟨by refine kr ?_;exact Kd.R_mono (Kd.R_far (p:=⟨Aq,4,none⟩) (Kd.R_types A2.o A6.o (by decide)) (fun _ hk=>hk.2) (.slice Da Ct.length Db)) (fun _ hk=>⟨hk.1.1,hk.1.2.1⟩)⟩,⟨by refine zr ?_;refine aN ?_ As.o _;refine zr ?_;exact A4.o⟩,⟨by refine zr ?_;refine aN ?_ Ba.o _;refine zr ?_;exact A5.o⟩,⟨by refine zr ?_;refine aV (cs:=#[.int .i64 Av,.int .i64 Aw,.int .i64 Az,.int .i64 B0,Ah]) ?_ 4 _ rfl;refine zr ?_;exact A6.o⟩,⟨by refine zr ?_;refine aN ?_ Bi.o _;refine zr ?_;exact A7.o⟩,⟨bq5 HB.o Ac.o Ae.o Af.o Ai.o Bq.o⟩⟩
       replace H:=iF H
       replace H:=nq H
       obtain ⟨Ow,H⟩:=H
       have Gr:=am Ow
       clear Ow
       generalize Dc:((A8++[(⟨Ao,(⟨B3,B4,B5,Ap⟩:S43)⟩:S45)]):List (S45))=Ce at H
       have G7:=am Dc.symm
       clear Dc
       have H':=am H
       clear H
       go_wp2_with (first|((with_reducible refine aE (f:=33) rfl ?_);refine gc (some 63) (bR.box C3 Bf Ab Ak Au 48 Bg C8 false _ B1 B2 (by refine zr ?_;exact A7.o) (gC (kqR A2.o) Ey.o) ((Kd.R_reads' A2.o).2.1) O7.o) Try.func33 ?_;rintro e Qr ⟨Mb,rfl,C7,hi,hq⟩;refine ⟨_,rfl,?_⟩;have hk:=hq.kb;have n_:=jG (Kd.R_mono (Kd.R_told (Kd.R_oldK (Kd.R_types (kqR Aa.o) (zq A7.o) (by decide)) hk) (Kd.R_base C7)) (fun _ h_=>h_.1)) (Kd.R_mono (Kd.R_told (Kd.R_oldK (Kd.R_types (kqR A3.o) (zq A7.o) (by decide)) hk) (Kd.R_base C7)) (fun _ h_=>h_.1)) (Kd.S_mono (Kd.S_keep (Kd.S_types (kqS A1.o) (zq A7.o) (by decide)) hk (fun _ h=>h.2)) (fun _ h=>h.1)) (Kd.R_mono (Kd.R_told (Kd.R_oldK (Kd.R_types (kqR A2.o) (zq A7.o) (by decide)) hk) (Kd.R_base C7)) (fun _ h_=>h_.1)) (KeepBut.blk hk (zb A4.o) B6.o (by simp)) (KeepBut.blk hk (zb A5.o) Br.o (by simp)) (KeepBut.blk hk (zb A6.o) Bh.o (by simp)) (Kd.R_lower (Kd.R_new' (Kd.R_new' (Kd.R_new' C7 (Kd.R_lt (kqR Aa.o))) (Kd.R_lt (kqR A3.o))) (Kd.R_lt (kqR A2.o))) (aH (bq4 HB.o Ac.o Ae.o Af.o Ai.o))) (Kq.bel hq (bq4 HB.o Ac.o Ae.o Af.o Ai.o) Ai.o) hi;clear Aa A3 A1 A2 A4 A5 A6 HB A7;obtain ⟨Aa,A3,A1,A2,A4,A5,A6,Ax,HB,A7⟩:=n_;(try clear hi hq C7);obtain ⟨Co,Cp,Mi⟩:=Kd.R_slice Ax.o;subst Mi)|((with_reducible refine aE (f:=34) rfl ?_);refine gc (some 64) (eZ.calls C3 _ _ Bg Ao B3 B4 B5 Ap Bj _ (cq (Kd.R_reads' Ax.o).2.2) ((Kd.R_reads' Ax.o).2.1) O8.o) Try.func34 ?_;rintro e Qs ⟨Md,Me,rfl,C7,G6,hb⟩;refine ⟨_,rfl,?_⟩;have n_:=gA (rb Aa hb) (rb A3 hb) (Kd.S_mono (Kd.S_told (Kd.S_told (Kd.S_old (kqS A1.o) hb) (Kd.R_base C7)) (Kd.R_base G6)) (fun _ h_=>h_.1)) (rb A2 hb) (rb Ax hb) (rl C7 (bq4 HB.o Ac.o Ae.o Af.o Ai.o)) (rl G6 (bq4 HB.o Ac.o Ae.o Af.o Ai.o)) (kb A4 hb) (kb A5 hb) (kb A6 hb) (kb A7 hb) (aC (bq4 HB.o Ac.o Ae.o Af.o Ai.o) hb);clear Aa A3 A1 A2 Ax A4 A5 A6 A7 HB;obtain ⟨Aa,A3,A1,A2,Ax,B7,B8,A4,A5,A6,A7,HB⟩:=n_;(try clear hb C7 G6))|((with_reducible refine aJ (N:=11) rfl ?_);(try (refine a9 (by rfl) ?_;dsimp only));refine bxe 11 #[.slice none 0 0,.int .i64 0,.int .i64 0,.string (⟨#[]⟩:ByteArray),.slice none 0 0] 45 ?_;intro Al hg Q8 hbox hb;have Eo:=am (rb Aa hb);have Ep:=am (rb A3 hb);have Eq:=am (Kd.S_below (Kd.S_elderB (kqS A1.o) Al (Nat.le_of_eq hg.symm)) hb);have Er:=am (rb A2 hb);have Es:=am (rb Ax hb);have Et:=am (rb B7 hb);have Eu:=am (rb B8 hb);have Ev:=am (kb A4 hb);have Ew:=am (kb A5 hb);have Ex:=am (kb A6 hb);have Cg:=am (kb A7 hb);have Ch:=am (aC (bq4 HB.o Ac.o Ae.o Af.o Ai.o) hb);have Ci:=am (hbox);have Cj:=am (bz hg (bq4 HB.o Ac.o Ae.o Af.o Ai.o));have Ck:=am (bz hg (bq4 HB.o Ac.o Ae.o Af.o Ai.o));have Cl:=am (nL hg A4);have D2:=am (nG hg A4);have D3:=am (nL hg A5);have D4:=am (nG hg A5);have D5:=am (nL hg A6);have D6:=am (nG hg A6);have D7:=am (nL hg A7);have D8:=am (nG hg A7);clear Aa;clear A3;clear A1;clear A2;clear Ax;clear B7;clear B8;clear A4;clear A5;clear A6;clear A7;clear HB;have Aa:=Eo;have A3:=Ep;have A1:=Eq;have A2:=Er;have Ax:=Es;have B7:=Et;have B8:=Eu;have A4:=Ev;have A5:=Ew;have A6:=Ex;have A7:=Cg;have HB:=Ch;have Am:=Ci;have Gq:=Cj;have Bq:=Ck;have Bk:=Cl;have C4:=D2;have Bl:=D3;have Bm:=D4;have Bn:=D5;have C5:=D6;have Bo:=D7;have C6:=D8;clear Eo Ep Eq Er Es Et Eu Ev Ew Ex Cg Ch Ci Cj Ck Cl D2 D3 D4 D5 D6 D7 D8;clear hb hbox hg;obtain ⟨By,Bz,Mj⟩:=Kd.R_slice B7.o;subst Mj;have Ox:=C4.o;have Oy:=Bk.o;have Oz:=Bm.o;have P0:=Bl.o;have P1:=C5.o;have P2:=Bn.o;have P3:=C6.o;have P4:=Bo.o;obtain ⟨Ks,Kt,Ku,Kv,Kw,Kx,Ky,Kz,L0,L1⟩:=cl5 Am.o;obtain ⟨C0,C1,Mk⟩:=Kd.R_slice B8.o;subst Mk)|((with_reducible refine aQ (t:=45) (p:=11) rfl ?_);refine se 45 11 (s5 Q8 Al (.slice By Ao.length Bz) (.int .i64 B3) (.int .i64 B4) (.string B5) (.slice C0 Ap.length C1)) ?_;intro Ge hw;have n_:=jX (show Kd.R (Kd.int .u8) 5 Ge w.heap.size (fun k_=>some k_≠(.slice B1 Ab.length B2:Value).ownBlock∧some k_≠(.slice Co Bg.length Cp:Value).ownBlock) (.slice Bd A9.length Be) A9 by rw [hw];exact (by refine kr ?_;exact Kd.R_mono (rf5 Al (.slice By Ao.length Bz) (.int .i64 B3) (.int .i64 B4) (.string B5) (.slice C0 Ap.length C1) (Kd.R_types Aa.o Am.o (by decide)) (fun _ hk=>hk.2)) (fun _ hk=>⟨hk.1.1,hk.1.2⟩))) (show Kd.R (Kd.int .u8) 5 Ge w.heap.size (fun k_=>some k_≠(.slice B1 Ab.length B2:Value).ownBlock∧some k_≠(.slice Co Bg.length Cp:Value).ownBlock) (.slice Bd A9.length Be) A9 by rw [hw];exact (by refine kr ?_;exact Kd.R_mono (rf5 Al (.slice By Ao.length Bz) (.int .i64 B3) (.int .i64 B4) (.string B5) (.slice C0 Ap.length C1) (Kd.R_types A3.o Am.o (by decide)) (fun _ hk=>hk.2)) (fun _ hk=>⟨hk.1.1,hk.1.2⟩))) (show Kd.S k45 45 Ge w.heap.size (fun k_=>some k_≠(.slice By Ao.length Bz:Value).ownBlock∧some k_≠(.slice C0 Ap.length C1:Value).ownBlock∧k_≠Al) Ah A8 by rw [hw];exact (by (with_reducible repeat (first|apply Kd.S_alloc|apply Kd.S_drewN|apply Kd.S_drew));exact Kd.S_mono (Kd.S_far (p:=⟨Al,4,none⟩) (Kd.S_far (p:=⟨Al,3,none⟩) (Kd.S_far (p:=⟨Al,2,none⟩) (Kd.S_far (p:=⟨Al,1,none⟩) (Kd.S_far (p:=⟨Al,0,none⟩) (Kd.S_mono A1.o (fun k_ hk=>(⟨hk,hk.2⟩:_∧k_≠Al))) (fun _ hk=>hk.2) (.slice By Ao.length Bz)) (fun _ hk=>hk.2) (.int .i64 B3)) (fun _ hk=>hk.2) (.int .i64 B4)) (fun _ hk=>hk.2) (.string B5)) (fun _ hk=>hk.2) (.slice C0 Ap.length C1)) (fun _ hk=>⟨hk.1.1.1.2,⟨hk.1.1.2,hk.1.2⟩⟩))) (show Kd.R (Kd.int .u8) 5 Ge w.heap.size (fun k_=>some k_≠(.slice Bd A9.length Be:Value).ownBlock∧some k_≠(.slice Bd A9.length Be:Value).ownBlock∧some k_≠(.slice Co Bg.length Cp:Value).ownBlock) (.slice B1 Ab.length B2) Ab by rw [hw];exact (by refine kr ?_;exact Kd.R_mono (rf5 Al (.slice By Ao.length Bz) (.int .i64 B3) (.int .i64 B4) (.string B5) (.slice C0 Ap.length C1) (Kd.R_types A2.o Am.o (by decide)) (fun _ hk=>hk.2)) (fun _ hk=>⟨hk.1.1.1,⟨hk.1.1.2,hk.1.2⟩⟩))) (show Kd.R (Kd.int .u8) 5 Ge w.heap.size (fun k_=>some k_≠(.slice Bd A9.length Be:Value).ownBlock∧some k_≠(.slice Bd A9.length Be:Value).ownBlock∧some k_≠(.slice B1 Ab.length B2:Value).ownBlock) (.slice Co Bg.length Cp) Bg by rw [hw];exact (by refine kr ?_;exact Kd.R_mono (rf5 Al (.slice By Ao.length Bz) (.int .i64 B3) (.int .i64 B4) (.string B5) (.slice C0 Ap.length C1) (Kd.R_types Ax.o Am.o (by decide)) (fun _ hk=>hk.2)) (fun _ hk=>⟨hk.1.1.1.2,⟨hk.1.1.2,hk.1.2⟩⟩))) (sr5 hw B7 Am) (sr5 hw B8 Am) (sf5 hw A4 Bk) (sf5 hw A5 Bl) (sf5 hw A6 Bn) (sf5 hw A7 Bo) (sc5 hw Am) (sb hw (bq5 HB.o Ac.o Ae.o Af.o Ai.o Bq.o));clear hw Aa A3 A1 A2 Ax B7 B8 A4 A5 A6 A7 Am HB;obtain ⟨Aa,A3,A1,A2,Ax,B7,B8,A4,A5,A6,A7,Am,HB⟩:=n_;have P5:=At.o;have P6:=B6.o;have P7:=Bs.o;have P8:=Br.o;have P9:=Bi.o;have Pa:=Bh.o;obtain ⟨L2,L3,L4,L5,L6,L7⟩:=cl3 A7.o;have Pb:=Ar.o;have Pc:=Ay.o;have Pd:=Ba.o;have Pe:=Bb.o;obtain ⟨L8,L9,La,Lb,Lc,Ld⟩:=cl3 A5.o)|((with_reducible refine aQ (t:=4) (p:=77) rfl ?_);refine se 4 77 (Ge.setCell ⟨Ag,2,none⟩ (.bool (!Bj))) ?_;intro Cv hw;have n_:Aside0 (Kd.R (Kd.int .u8) 5 Cv w.heap.size (fun k_=>some k_≠(.slice B1 Ab.length B2:Value).ownBlock∧some k_≠(.slice Co Bg.length Cp:Value).ownBlock) (.slice Bd A9.length Be) A9)∧Aside0 (Kd.R (Kd.int .u8) 5 Cv w.heap.size (fun k_=>some k_≠(.slice B1 Ab.length B2:Value).ownBlock∧some k_≠(.slice Co Bg.length Cp:Value).ownBlock) (.slice Bd A9.length Be) A9)∧Aside0 (Kd.S k45 45 Cv w.heap.size (fun k_=>some k_≠(.slice By Ao.length Bz:Value).ownBlock∧some k_≠(.slice C0 Ap.length C1:Value).ownBlock∧k_≠Al) Ah A8)∧Aside0 (Kd.R (Kd.int .u8) 5 Cv w.heap.size (fun k_=>some k_≠(.slice Bd A9.length Be:Value).ownBlock∧some k_≠(.slice Bd A9.length Be:Value).ownBlock∧some k_≠(.slice Co Bg.length Cp:Value).ownBlock) (.slice B1 Ab.length B2) Ab)∧Aside0 (Kd.R (Kd.int .u8) 5 Cv w.heap.size (fun k_=>some k_≠(.slice Bd A9.length Be:Value).ownBlock∧some k_≠(.slice Bd A9.length Be:Value).ownBlock∧some k_≠(.slice B1 Ab.length B2:Value).ownBlock) (.slice Co Bg.length Cp) Bg)∧Aside0 (Kd.R (Kd.int .i64) 3 Cv w.heap.size (fun k_=>some k_≠(.slice C0 Ap.length C1:Value).ownBlock) (.slice By Ao.length Bz) Ao)∧Aside0 (Kd.R (Kd.int .i64) 3 Cv w.heap.size (fun k_=>some k_≠(.slice By Ao.length Bz:Value).ownBlock) (.slice C0 Ap.length C1) Ap)∧Aside0 (Cv.heap[Ad]? =some (.cells #[.int .i64 0,.int .i64 0,.int .i64 0,.int .i64 0,.slice none 0 0] 26 (0,0)))∧Aside0 (Cv.heap[Ag]? =some (.cells #[.slice Bd A9.length Be,.int .i64 B9,.bool (!Bj)] 65 (0,0)))∧Aside0 (Cv.heap[Aq]? =some (.cells #[.int .i64 Av,.int .i64 Aw,.int .i64 Az,.int .i64 B0,Ah] 26 (0,0)))∧Aside0 (Cv.heap[Bf]? =some (.cells #[.slice B1 Ab.length B2,.int .i64 C8,.bool false] 65 (0,0)))∧Aside0 (Cv.heap[Al]? =some (.cells #[.slice By Ao.length Bz,.int .i64 B3,.int .i64 B4,.string B5,.slice C0 Ap.length C1] 45 (0,0)))∧Aside0 (Below w.heap.size w Cv):=⟨⟨(by rw [hw];exact (by refine kr ?_;exact Kd.R_mono (Kd.R_far (p:=⟨Ag,2,none⟩) (Kd.R_types Aa.o A5.o (by decide)) (fun _ hk=>hk.2) (.bool (!Bj))) (fun _ hk=>⟨hk.1.1,hk.1.2⟩)))⟩,⟨(by rw [hw];exact (by refine kr ?_;exact Kd.R_mono (Kd.R_far (p:=⟨Ag,2,none⟩) (Kd.R_types A3.o A5.o (by decide)) (fun _ hk=>hk.2) (.bool (!Bj))) (fun _ hk=>⟨hk.1.1,hk.1.2⟩)))⟩,⟨(by rw [hw];exact (by (with_reducible repeat (first|apply Kd.S_alloc|apply Kd.S_drewN|apply Kd.S_drew));exact Kd.S_mono (Kd.S_far (p:=⟨Ag,2,none⟩) (Kd.S_types A1.o A5.o (by decide)) (fun _ hk=>hk.2) (.bool (!Bj))) (fun _ hk=>⟨hk.1.1,⟨hk.1.2.1,hk.1.2.2⟩⟩)))⟩,⟨(by rw [hw];exact (by refine kr ?_;exact Kd.R_mono (Kd.R_far (p:=⟨Ag,2,none⟩) (Kd.R_types A2.o A5.o (by decide)) (fun _ hk=>hk.2) (.bool (!Bj))) (fun _ hk=>⟨hk.1.1,⟨hk.1.2.1,hk.1.2.2⟩⟩)))⟩,⟨(by rw [hw];exact (by refine kr ?_;exact Kd.R_mono (Kd.R_far (p:=⟨Ag,2,none⟩) (Kd.R_types Ax.o A5.o (by decide)) (fun _ hk=>hk.2) (.bool (!Bj))) (fun _ hk=>⟨hk.1.1,⟨hk.1.2.1,hk.1.2.2⟩⟩)))⟩,⟨(by rw [hw];exact (by refine kr ?_;exact Kd.R_mono (Kd.R_far (p:=⟨Ag,2,none⟩) (Kd.R_types B7.o A5.o (by decide)) (fun _ hk=>hk.2) (.bool (!Bj))) (fun _ hk=>hk.1)))⟩,⟨(by rw [hw];exact (by refine kr ?_;exact Kd.R_mono (Kd.R_far (p:=⟨Ag,2,none⟩) (Kd.R_types B8.o A5.o (by decide)) (fun _ hk=>hk.2) (.bool (!Bj))) (fun _ hk=>hk.1)))⟩,⟨(by rw [hw];exact (by refine zr ?_;refine aN ?_ Ay.o _;refine zr ?_;exact A4.o))⟩,⟨(by rw [hw];exact (by refine zr ?_;refine aV (cs:=#[.slice Bd A9.length Be,.int .i64 B9,.bool Bc]) ?_ 2 _ rfl;refine zr ?_;exact A5.o))⟩,⟨(by rw [hw];exact (by refine zr ?_;refine aN ?_ Bb.o _;refine zr ?_;exact A6.o))⟩,⟨(by rw [hw];exact (by refine zr ?_;refine aN ?_ Bs.o _;refine zr ?_;exact A7.o))⟩,⟨(by rw [hw];exact (by refine zr ?_;refine aN ?_ Bm.o _;refine zr ?_;exact Am.o))⟩,⟨(by rw [hw];exact (bq5 HB.o Ac.o Ae.o Af.o Ai.o Bq.o))⟩⟩;clear hw Aa A3 A1 A2 Ax B7 B8 A4 A5 A6 A7 Am HB;obtain ⟨Aa,A3,A1,A2,Ax,B7,B8,A4,A5,A6,A7,Am,HB⟩:=n_;have Pf:=An.o;have Pg:=As.o;obtain ⟨Le,Lf,Lg,Lh,Li,Lj,Lk,Ll,Lm,Ln⟩:=cl5 A6.o;obtain ⟨Lo,Lp,Lq,Lr,Ls,Lt,Lu,Lv,Lw,Lx⟩:=cl5 Am.o)|((with_reducible refine bM (b:=.append) (xs:=#[.tmp 79,.tmp 81]) rfl ?_);(try (refine a9 (by rfl) ?_;dsimp only));at_builtin;refine Kd.S_append k45 (w0:=w) w.heap.size rfl (.tmp 79) (.tmp 81) 24 45 (.agg #[(.slice none 0 0),(.int .i64 0),(.int .i64 0),(.string ⟨#[]⟩),(.slice none 0 0)]) 80 rfl Try.underlying24 gQ rfl (by decide) (by omega) Ah A8 (⟨Ao,(⟨B3,B4,B5,Ap⟩:S43)⟩:S45) [.slice By Ao.length Bz,.int .i64 B3,.int .i64 B4,.string B5,.slice C0 Ap.length C1] (fun k_=>k_≠Al) (fun k_=>some k_=(.slice By Ao.length Bz:Value).ownBlock∨some k_=(.slice C0 Ap.length C1:Value).ownBlock) rfl rfl ?aP (fun k_ hk_=>hk_.elim (fun h_=>((Kd.R_mono (ok':=fun k_=>((fun k_=>k_≠Al)) k_∧some k_≠(Ah:Value).ownBlock) (Kd.R_types (Kd.R_apart' (B7.o) (Kd.S_typed A1.o) (by decide)) Am.o (by decide)) (fun k_ hk=>⟨hk.2,hk.1.2⟩))).1 k_ h_.symm) (fun h_=>((Kd.R_mono (ok':=fun k_=>((fun k_=>k_≠Al)) k_∧some k_≠(Ah:Value).ownBlock) (Kd.R_types (Kd.R_apart' (B8.o) (Kd.S_typed A1.o) (by decide)) Am.o (by decide)) (fun k_ hk=>⟨hk.2,hk.1.2⟩))).1 k_ h_.symm)) ?aF ?aO ?aB ?aS ?aL ?_;(case aP=>exact gK _ _ _ (⟨Ao,(⟨B3,B4,B5,Ap⟩:S43)⟩:S45) (Kd.R_mono (Kd.R_tight rfl (Kd.R_mono (ok':=fun k_=>((fun k_=>k_≠Al)) k_∧some k_≠(Ah:Value).ownBlock) (Kd.R_types (Kd.R_apart' (B7.o) (Kd.S_typed A1.o) (by decide)) Am.o (by decide)) (fun k_ hk=>⟨hk.2,hk.1.2⟩))) (fun _ h_=>Or.inl h_)) (Kd.R_mono (Kd.R_tight rfl (Kd.R_mono (ok':=fun k_=>((fun k_=>k_≠Al)) k_∧some k_≠(Ah:Value).ownBlock) (Kd.R_types (Kd.R_apart' (B8.o) (Kd.S_typed A1.o) (by decide)) Am.o (by decide)) (fun k_ hk=>⟨hk.2,hk.1.2⟩))) (fun _ h_=>Or.inr (h_))));(case aB=>exact (bq5 HB.o Ac.o Ae.o Af.o Ai.o Bq.o));(case aF=>exact (fun k_ hk=>Kd.freshB (g:=Al) (o:=.cells #[.slice By Ao.length Bz,.int .i64 B3,.int .i64 B4,.string B5,.slice C0 Ap.length C1] 45 (0,0)) (zq Am.o) k_ hk));(case aO=>exact (by (with_reducible repeat (first|apply Kd.S_alloc|apply Kd.S_drewN|apply Kd.S_drew));exact Kd.S_mono A1.o (fun k_ hk=>⟨hk.2.2,fun e_=>e_.elim (fun h_=>hk.1 h_) (fun h_=>hk.2.1 h_)⟩)));(case aS=>exact (aH (bq5 HB.o Ac.o Ae.o Af.o Ai.o Bq.o)));(case aL=>have:=Gr.o;omega);intro Ph Qt ho hb hg hat;rw [← G7.o] at ho;have n_:=iU (Kd.R_over' (kqR Aa.o) (Kd.S_typed (kqS A1.o)) (by decide) hg) (Kd.R_over' (kqR A3.o) (Kd.S_typed (kqS A1.o)) (by decide) hg) (Kd.R_over' (kqR A2.o) (Kd.S_typed (kqS A1.o)) (by decide) hg) (cB (g:=Ad) (o:=.cells #[.int .i64 0,.int .i64 0,.int .i64 0,.int .i64 0,.slice none 0 0] 26 (0,0)) (zq A4.o) hg (Kd.S_ne A1.o A4.o (by decide))) (cB (g:=Ag) (o:=.cells #[.slice Bd A9.length Be,.int .i64 B9,.bool (!Bj)] 65 (0,0)) (zq A5.o) hg (Kd.S_ne A1.o A5.o (by decide))) (cB (g:=Aq) (o:=.cells #[.int .i64 Av,.int .i64 Aw,.int .i64 Az,.int .i64 B0,Ah] 26 (0,0)) (zq A6.o) hg (Kd.S_ne A1.o A6.o (by decide))) (cB (g:=Bf) (o:=.cells #[.slice B1 Ab.length B2,.int .i64 C8,.bool false] 65 (0,0)) (zq A7.o) hg (Kd.S_ne A1.o A7.o (by decide))) (Kd.R_over' (kqR Ax.o) (Kd.S_typed (kqS A1.o)) (by decide) hg) (cB (g:=Al) (o:=.cells #[.slice By Ao.length Bz,.int .i64 B3,.int .i64 B4,.string B5,.slice C0 Ap.length C1] 45 (0,0)) (zq Am.o) hg (Kd.S_away A1.o (fun _ hk=>hk.2.2))) hb ho;clear Aa A3 A2 A4 A5 A6 A7 Ax Am HB A1 B7 B8;obtain ⟨Aa,A3,A2,A4,A5,A6,A7,Ax,Am,HB,Dd⟩:=n_;clear ho hb hg hat;obtain ⟨De,Df,Ml⟩:=Kd.S_slice Dd.o;subst Ml;obtain ⟨Ly,Lz,M0,M1,M2,M3,M4,M5,M6,M7⟩:=cl5 A6.o))
       go_roundg C3
       case measure=>have:=G4.o;have:=Em.o;omega
       case rel=>exact ⟨(!Bj),(Ce),(C8),(false),(.slice De Ce.length Df),H',⟨by have:=G4.o;have:=Em.o;omega⟩,⟨by refine kr ?_;exact Kd.R_mono (Kd.R_far (p:=⟨Aq,4,none⟩) (Kd.R_types Aa.o A6.o (by decide)) (fun _ hk=>hk.2) (.slice De Ce.length Df)) (fun _ hk=>hk.1.1)⟩,⟨by refine kr ?_;exact Kd.R_mono (Kd.R_far (p:=⟨Aq,4,none⟩) (Kd.R_types A3.o A6.o (by decide)) (fun _ hk=>hk.2) (.slice De Ce.length Df)) (fun _ hk=>hk.1.1)⟩,⟨by (with_reducible repeat (first|apply Kd.S_alloc|apply Kd.S_drewN|apply Kd.S_drew));exact Kd.S_mono (Kd.S_far (p:=⟨Aq,4,none⟩) (Kd.S_types Dd.o A6.o (by decide)) (fun _ hk=>hk.2) (.slice De Ce.length Df)) (fun _ hk=>trivial)⟩,⟨by refine kr ?_;exact Kd.R_mono (Kd.R_far (p:=⟨Aq,4,none⟩) (Kd.R_types A2.o A6.o (by decide)) (fun _ hk=>hk.2) (.slice De Ce.length Df)) (fun _ hk=>⟨hk.1.1,hk.1.2.1⟩)⟩,⟨by refine zr ?_;refine aN ?_ As.o _;refine zr ?_;exact A4.o⟩,⟨by refine zr ?_;refine aN ?_ Ba.o _;refine zr ?_;exact A5.o⟩,⟨by refine zr ?_;refine aV (cs:=#[.int .i64 Av,.int .i64 Aw,.int .i64 Az,.int .i64 B0,Ah]) ?_ 4 _ rfl;refine zr ?_;exact A6.o⟩,⟨by refine zr ?_;refine aN ?_ Bi.o _;refine zr ?_;exact A7.o⟩,⟨bq5 HB.o Ac.o Ae.o Af.o Ai.o Bq.o⟩⟩
     replace Gm:=Bool.eq_false_iff.mpr Gm
     subst Gm
     replace H:(if Bt=true then (if C2=(l0.length:Int) then (if Bc=true then (some (0,0,0,0,([]:List (S45)),false)) else (if B9=(A9.length:Int) then (if Ak=(Ab.length:Int) then ((cF.f C3 Av Aw Az B0 A8).bind fun Cq=>(if Cq=true then (some (Av,Aw,Az,B0,A8,true)) else (some (0,0,0,0,([]:List (S45)),false)))) else (some (0,0,0,0,([]:List (S45)),false))) else (some (0,0,0,0,([]:List (S45)),false)))) else (some (0,0,0,0,([]:List (S45)),false))) else (some (0,0,0,0,([]:List (S45)),false)))=some (r1,r2,r3,r4,r5,r6):=by rw [if_neg (show ¬(false=true) by decide)] at H;exact H
     cases Bt
     · replace H:=iF H
       simp only [k4,k5] at H
       obtain ⟨rfl,rfl,rfl,rfl,rfl,rfl⟩:=H
       try go_wp2
       have n_:=ak9 (Kd.R_drew Aa.o) (Kd.R_drew A3.o) (Kd.S_drew A1.o) (Kd.R_drew A2.o) (a7 A4.o) (a7 A5.o) (a7 A6.o) (a7 A7.o) (bB HB.o)
       clear Aa A3 A1 A2 A4 A5 A6 A7 HB
       obtain ⟨Aa,A3,A1,A2,A4,A5,A6,A7,HB⟩:=n_
       refine cW (n:=40) (S:=fun w'=>True) (ds:=[]) #[F,F,F,F,F,F,F,F,F,F,F,F,F,F,F,F,F,F,F,F,F,F,F,F,F,F,F,F,F,F,F,F,F,F,F,F,F,F,F,F] (by kernel_rfl) rfl rfl trivial (fun hHeld=>?_);refine bW aW.tab12 aW.bits12 (fun HT_ HW_=>?_)
       generalize wc.drew=Mm at Aa A3 A1 A2 A4 A5 A6 A7 HB hHeld ⊢
       refine pv HT_ 0 (some 84) #[T,F,F,F,F,F,F,F,F,F,F,F,F,F,F,F,F,F,F,F,F,F,F,F,F,F,F,F,F,F,F,F,F,F,F,F,F,F,F,F] ?_
       refine pv HT_ 1 (some 85) #[T,T,F,F,F,F,F,F,F,F,F,F,F,F,F,F,F,F,F,F,F,F,F,F,F,F,F,F,F,F,F,F,F,F,F,F,F,F,F,F] ?_
       refine pv HT_ 2 (some 86) #[T,T,T,F,F,F,F,F,F,F,F,F,F,F,F,F,F,F,F,F,F,F,F,F,F,F,F,F,F,F,F,F,F,F,F,F,F,F,F,F] ?_
       refine bC (i:=3) (N:=some 87) (v:=undef) (a':=?_) #[T,T,T,T,F,F,F,F,F,F,F,F,F,F,F,F,F,F,F,F,F,F,F,F,F,F,F,F,F,F,F,F,F,F,F,F,F,F,F,F] rfl rfl (aY HT_.o (by kernel_rfl)) (fun _ _ _ h=>h) (Or.inr ⟨by rfl,rfl⟩) ?_ ?_
       rotate_left
       · simp only [Act.put,kX,kY,kZ,aI,aK]
         rfl
       refine bC (i:=4) (N:=some 88) (v:=undef) (a':=?_) #[T,T,T,T,T,F,F,F,F,F,F,F,F,F,F,F,F,F,F,F,F,F,F,F,F,F,F,F,F,F,F,F,F,F,F,F,F,F,F,F] rfl rfl (aY HT_.o (by kernel_rfl)) (fun _ _ _ h=>h) (Or.inr ⟨by rfl,rfl⟩) ?_ ?_
       rotate_left
       · simp only [Act.put,kX,kY,kZ,aI,aK]
         rfl
       refine bC (i:=5) (N:=some 89) (v:=undef) (a':=?_) #[T,T,T,T,T,T,F,F,F,F,F,F,F,F,F,F,F,F,F,F,F,F,F,F,F,F,F,F,F,F,F,F,F,F,F,F,F,F,F,F] rfl rfl (aY HT_.o (by kernel_rfl)) (fun _ _ _ h=>h) (Or.inr ⟨by rfl,rfl⟩) ?_ ?_
       rotate_left
       · simp only [Act.put,kX,kY,kZ,aI,aK]
         rfl
       refine bC (i:=6) (N:=some 90) (v:=undef) (a':=?_) #[T,T,T,T,T,T,T,F,F,F,F,F,F,F,F,F,F,F,F,F,F,F,F,F,F,F,F,F,F,F,F,F,F,F,F,F,F,F,F,F] rfl rfl (aY HT_.o (by kernel_rfl)) (fun _ _ _ h=>h) (Or.inr ⟨by rfl,rfl⟩) ?_ ?_
       rotate_left
       · simp only [Act.put,kX,kY,kZ,aI,aK]
         rfl
       refine pv HT_ 7 (some 91) #[T,T,T,T,T,T,T,T,F,F,F,F,F,F,F,F,F,F,F,F,F,F,F,F,F,F,F,F,F,F,F,F,F,F,F,F,F,F,F,F] ?_
       refine pv HT_ 8 (some 92) #[T,T,T,T,T,T,T,T,T,F,F,F,F,F,F,F,F,F,F,F,F,F,F,F,F,F,F,F,F,F,F,F,F,F,F,F,F,F,F,F] ?_
       refine bC (i:=9) (N:=some 93) (v:=undef) (a':=?_) #[T,T,T,T,T,T,T,T,T,T,F,F,F,F,F,F,F,F,F,F,F,F,F,F,F,F,F,F,F,F,F,F,F,F,F,F,F,F,F,F] rfl rfl (aY HT_.o (by kernel_rfl)) (fun _ _ _ h=>h) (Or.inr ⟨by rfl,rfl⟩) ?_ ?_
       rotate_left
       · simp only [Act.put,kX,kY,kZ,aI,aK]
         rfl
       refine bC (i:=10) (N:=some 94) (v:=undef) (a':=?_) #[T,T,T,T,T,T,T,T,T,T,T,F,F,F,F,F,F,F,F,F,F,F,F,F,F,F,F,F,F,F,F,F,F,F,F,F,F,F,F,F] rfl rfl (aY HT_.o (by kernel_rfl)) (fun _ _ _ h=>h) (Or.inr ⟨by rfl,rfl⟩) ?_ ?_
       rotate_left
       · simp only [Act.put,kX,kY,kZ,aI,aK]
         rfl
       refine bC (i:=11) (N:=some 95) (v:=undef) (a':=?_) #[T,T,T,T,T,T,T,T,T,T,T,T,F,F,F,F,F,F,F,F,F,F,F,F,F,F,F,F,F,F,F,F,F,F,F,F,F,F,F,F] rfl rfl (aY HT_.o (by kernel_rfl)) (fun _ _ _ h=>h) (Or.inr ⟨by rfl,rfl⟩) ?_ ?_
       rotate_left
       · simp only [Act.put,kX,kY,kZ,aI,aK]
         rfl
       refine bC (i:=12) (N:=some 96) (v:=undef) (a':=?_) #[T,T,T,T,T,T,T,T,T,T,T,T,T,F,F,F,F,F,F,F,F,F,F,F,F,F,F,F,F,F,F,F,F,F,F,F,F,F,F,F] rfl rfl (aY HT_.o (by kernel_rfl)) (fun _ _ _ h=>h) (Or.inr ⟨by rfl,rfl⟩) ?_ ?_
       rotate_left
       · simp only [Act.put,kX,kY,kZ,aI,aK]
         rfl
       refine pv HT_ 13 (some 97) #[T,T,T,T,T,T,T,T,T,T,T,T,T,T,F,F,F,F,F,F,F,F,F,F,F,F,F,F,F,F,F,F,F,F,F,F,F,F,F,F] ?_
       refine pv HT_ 14 (some 98) #[T,T,T,T,T,T,T,T,T,T,T,T,T,T,T,F,F,F,F,F,F,F,F,F,F,F,F,F,F,F,F,F,F,F,F,F,F,F,F,F] ?_
       refine bC (i:=15) (N:=some 99) (v:=undef) (a':=?_) #[T,T,T,T,T,T,T,T,T,T,T,T,T,T,T,T,F,F,F,F,F,F,F,F,F,F,F,F,F,F,F,F,F,F,F,F,F,F,F,F] rfl rfl (aY HT_.o (by kernel_rfl)) (fun _ _ _ h=>h) (Or.inr ⟨by rfl,rfl⟩) ?_ ?_
       rotate_left
       · simp only [Act.put,kX,kY,kZ,aI,aK]
         rfl
       refine bC (i:=16) (N:=some 100) (v:=undef) (a':=?_) #[T,T,T,T,T,T,T,T,T,T,T,T,T,T,T,T,T,F,F,F,F,F,F,F,F,F,F,F,F,F,F,F,F,F,F,F,F,F,F,F] rfl rfl (aY HT_.o (by kernel_rfl)) (fun _ _ _ h=>h) (Or.inr ⟨by rfl,rfl⟩) ?_ ?_
       rotate_left
       · simp only [Act.put,kX,kY,kZ,aI,aK]
         rfl
       refine bC (i:=17) (N:=some 101) (v:=undef) (a':=?_) #[T,T,T,T,T,T,T,T,T,T,T,T,T,T,T,T,T,T,F,F,F,F,F,F,F,F,F,F,F,F,F,F,F,F,F,F,F,F,F,F] rfl rfl (aY HT_.o (by kernel_rfl)) (fun _ _ _ h=>h) (Or.inr ⟨by rfl,rfl⟩) ?_ ?_
       rotate_left
       · simp only [Act.put,kX,kY,kZ,aI,aK]
         rfl
       refine bC (i:=18) (N:=some 102) (v:=undef) (a':=?_) #[T,T,T,T,T,T,T,T,T,T,T,T,T,T,T,T,T,T,T,F,F,F,F,F,F,F,F,F,F,F,F,F,F,F,F,F,F,F,F,F] rfl rfl (aY HT_.o (by kernel_rfl)) (fun _ _ _ h=>h) (Or.inr ⟨by rfl,rfl⟩) ?_ ?_
       rotate_left
       · simp only [Act.put,kX,kY,kZ,aI,aK]
         rfl
       refine bC (i:=19) (N:=some 103) (v:=undef) (a':=?_) #[T,T,T,T,T,T,T,T,T,T,T,T,T,T,T,T,T,T,T,T,F,F,F,F,F,F,F,F,F,F,F,F,F,F,F,F,F,F,F,F] rfl rfl (aY HT_.o (by kernel_rfl)) (fun _ _ _ h=>h) (Or.inr ⟨by rfl,rfl⟩) ?_ ?_
       rotate_left
       · simp only [Act.put,kX,kY,kZ,aI,aK]
         rfl
       refine bC (i:=20) (N:=some 104) (v:=undef) (a':=?_) #[T,T,T,T,T,T,T,T,T,T,T,T,T,T,T,T,T,T,T,T,T,F,F,F,F,F,F,F,F,F,F,F,F,F,F,F,F,F,F,F] rfl rfl (aY HT_.o (by kernel_rfl)) (fun _ _ _ h=>h) (Or.inr ⟨by rfl,rfl⟩) ?_ ?_
       rotate_left
       · simp only [Act.put,kX,kY,kZ,aI,aK]
         rfl
       refine bC (i:=21) (N:=some 105) (v:=undef) (a':=?_) #[T,T,T,T,T,T,T,T,T,T,T,T,T,T,T,T,T,T,T,T,T,T,F,F,F,F,F,F,F,F,F,F,F,F,F,F,F,F,F,F] rfl rfl (aY HT_.o (by kernel_rfl)) (fun _ _ _ h=>h) (Or.inr ⟨by rfl,rfl⟩) ?_ ?_
       rotate_left
       · simp only [Act.put,kX,kY,kZ,aI,aK]
         rfl
       refine pv HT_ 22 (some 106) #[T,T,T,T,T,T,T,T,T,T,T,T,T,T,T,T,T,T,T,T,T,T,T,F,F,F,F,F,F,F,F,F,F,F,F,F,F,F,F,F] ?_
       refine pv HT_ 23 (some 107) #[T,T,T,T,T,T,T,T,T,T,T,T,T,T,T,T,T,T,T,T,T,T,T,T,F,F,F,F,F,F,F,F,F,F,F,F,F,F,F,F] ?_
       refine bC (i:=24) (N:=some 108) (v:=undef) (a':=?_) #[T,T,T,T,T,T,T,T,T,T,T,T,T,T,T,T,T,T,T,T,T,T,T,T,T,F,F,F,F,F,F,F,F,F,F,F,F,F,F,F] rfl rfl (aY HT_.o (by kernel_rfl)) (fun _ _ _ h=>h) (Or.inr ⟨by rfl,rfl⟩) ?_ ?_
       rotate_left
       · simp only [Act.put,kX,kY,kZ,aI,aK]
         rfl
       refine bC (i:=25) (N:=some 109) (v:=undef) (a':=?_) #[T,T,T,T,T,T,T,T,T,T,T,T,T,T,T,T,T,T,T,T,T,T,T,T,T,T,F,F,F,F,F,F,F,F,F,F,F,F,F,F] rfl rfl (aY HT_.o (by kernel_rfl)) (fun _ _ _ h=>h) (Or.inr ⟨by rfl,rfl⟩) ?_ ?_
       rotate_left
       · simp only [Act.put,kX,kY,kZ,aI,aK]
         rfl
       refine bC (i:=26) (N:=some 110) (v:=undef) (a':=?_) #[T,T,T,T,T,T,T,T,T,T,T,T,T,T,T,T,T,T,T,T,T,T,T,T,T,T,T,F,F,F,F,F,F,F,F,F,F,F,F,F] rfl rfl (aY HT_.o (by kernel_rfl)) (fun _ _ _ h=>h) (Or.inr ⟨by rfl,rfl⟩) ?_ ?_
       rotate_left
       · simp only [Act.put,kX,kY,kZ,aI,aK]
         rfl
       refine bC (i:=27) (N:=some 111) (v:=undef) (a':=?_) #[T,T,T,T,T,T,T,T,T,T,T,T,T,T,T,T,T,T,T,T,T,T,T,T,T,T,T,T,F,F,F,F,F,F,F,F,F,F,F,F] rfl rfl (aY HT_.o (by kernel_rfl)) (fun _ _ _ h=>h) (Or.inr ⟨by rfl,rfl⟩) ?_ ?_
       rotate_left
       · simp only [Act.put,kX,kY,kZ,aI,aK]
         rfl
       refine bC (i:=28) (N:=some 112) (v:=undef) (a':=?_) #[T,T,T,T,T,T,T,T,T,T,T,T,T,T,T,T,T,T,T,T,T,T,T,T,T,T,T,T,T,F,F,F,F,F,F,F,F,F,F,F] rfl rfl (aY HT_.o (by kernel_rfl)) (fun _ _ _ h=>h) (Or.inr ⟨by rfl,rfl⟩) ?_ ?_
       rotate_left
       · simp only [Act.put,kX,kY,kZ,aI,aK]
         rfl
       refine bC (i:=29) (N:=some 113) (v:=undef) (a':=?_) #[T,T,T,T,T,T,T,T,T,T,T,T,T,T,T,T,T,T,T,T,T,T,T,T,T,T,T,T,T,T,F,F,F,F,F,F,F,F,F,F] rfl rfl (aY HT_.o (by kernel_rfl)) (fun _ _ _ h=>h) (Or.inr ⟨by rfl,rfl⟩) ?_ ?_
       rotate_left
       · simp only [Act.put,kX,kY,kZ,aI,aK]
         rfl
       refine bC (i:=30) (N:=some 114) (v:=undef) (a':=?_) #[T,T,T,T,T,T,T,T,T,T,T,T,T,T,T,T,T,T,T,T,T,T,T,T,T,T,T,T,T,T,T,F,F,F,F,F,F,F,F,F] rfl rfl (aY HT_.o (by kernel_rfl)) (fun _ _ _ h=>h) (Or.inr ⟨by rfl,rfl⟩) ?_ ?_
       rotate_left
       · simp only [Act.put,kX,kY,kZ,aI,aK]
         rfl
       refine bC (i:=31) (N:=some 115) (v:=undef) (a':=?_) #[T,T,T,T,T,T,T,T,T,T,T,T,T,T,T,T,T,T,T,T,T,T,T,T,T,T,T,T,T,T,T,T,F,F,F,F,F,F,F,F] rfl rfl (aY HT_.o (by kernel_rfl)) (fun _ _ _ h=>h) (Or.inr ⟨by rfl,rfl⟩) ?_ ?_
       rotate_left
       · simp only [Act.put,kX,kY,kZ,aI,aK]
         rfl
       refine bC (i:=32) (N:=some 116) (v:=undef) (a':=?_) #[T,T,T,T,T,T,T,T,T,T,T,T,T,T,T,T,T,T,T,T,T,T,T,T,T,T,T,T,T,T,T,T,T,F,F,F,F,F,F,F] rfl rfl (aY HT_.o (by kernel_rfl)) (fun _ _ _ h=>h) (Or.inr ⟨by rfl,rfl⟩) ?_ ?_
       rotate_left
       · simp only [Act.put,kX,kY,kZ,aI,aK]
         rfl
       refine bC (i:=33) (N:=some 117) (v:=undef) (a':=?_) #[T,T,T,T,T,T,T,T,T,T,T,T,T,T,T,T,T,T,T,T,T,T,T,T,T,T,T,T,T,T,T,T,T,T,F,F,F,F,F,F] rfl rfl (aY HT_.o (by kernel_rfl)) (fun _ _ _ h=>h) (Or.inr ⟨by rfl,rfl⟩) ?_ ?_
       rotate_left
       · simp only [Act.put,kX,kY,kZ,aI,aK]
         rfl
       refine pv HT_ 34 (some 118) #[T,T,T,T,T,T,T,T,T,T,T,T,T,T,T,T,T,T,T,T,T,T,T,T,T,T,T,T,T,T,T,T,T,T,T,F,F,F,F,F] ?_
       refine pv HT_ 35 (some 119) #[T,T,T,T,T,T,T,T,T,T,T,T,T,T,T,T,T,T,T,T,T,T,T,T,T,T,T,T,T,T,T,T,T,T,T,T,F,F,F,F] ?_
       refine bC (i:=36) (N:=some 120) (v:=undef) (a':=?_) #[T,T,T,T,T,T,T,T,T,T,T,T,T,T,T,T,T,T,T,T,T,T,T,T,T,T,T,T,T,T,T,T,T,T,T,T,T,F,F,F] rfl rfl (aY HT_.o (by kernel_rfl)) (fun _ _ _ h=>h) (Or.inr ⟨by rfl,rfl⟩) ?_ ?_
       rotate_left
       · simp only [Act.put,kX,kY,kZ,aI,aK]
         rfl
       refine bC (i:=37) (N:=some 121) (v:=undef) (a':=?_) #[T,T,T,T,T,T,T,T,T,T,T,T,T,T,T,T,T,T,T,T,T,T,T,T,T,T,T,T,T,T,T,T,T,T,T,T,T,T,F,F] rfl rfl (aY HT_.o (by kernel_rfl)) (fun _ _ _ h=>h) (Or.inr ⟨by rfl,rfl⟩) ?_ ?_
       rotate_left
       · simp only [Act.put,kX,kY,kZ,aI,aK]
         rfl
       refine bC (i:=38) (N:=some 122) (v:=undef) (a':=?_) #[T,T,T,T,T,T,T,T,T,T,T,T,T,T,T,T,T,T,T,T,T,T,T,T,T,T,T,T,T,T,T,T,T,T,T,T,T,T,T,F] rfl rfl (aY HT_.o (by kernel_rfl)) (fun _ _ _ h=>h) (Or.inr ⟨by rfl,rfl⟩) ?_ ?_
       rotate_left
       · simp only [Act.put,kX,kY,kZ,aI,aK]
         rfl
       refine pv HT_ 39 (some 123) #[T,T,T,T,T,T,T,T,T,T,T,T,T,T,T,T,T,T,T,T,T,T,T,T,T,T,T,T,T,T,T,T,T,T,T,T,T,T,T,T] ?_
       refine d5 (cL HT_.o (by kernel_rfl)) ?_
       have Mn:=Ay.o
       have Mo:=Ar.o
       have Mp:=As.o
       have Mq:=An.o
       have Mr:=B6.o
       have Ms:=At.o
       obtain ⟨Gs,Gt,Gu,Gv,Gw,Gx,Gy,Gz,H0,H1⟩:=cl5 A4.o
       try go_wp2_with (first|((with_reducible refine aQ (t:=26) (p:=2) rfl ?_);refine se 26 2 (s5 Mm Ad (.int .i64 0) (.int .i64 0) (.int .i64 0) (.int .i64 0) (.slice none 0 0)) ?_;intro H2 hw;have n_:=ak9 (sr5 hw Aa A4) (sr5 hw A3 A4) (show Kd.S k45 45 H2 w.heap.size (fun _=>True) Ah A8 by rw [hw];exact (by (with_reducible repeat (first|apply Kd.S_alloc|apply Kd.S_drewN|apply Kd.S_drew));exact Kd.S_mono (Kd.S_far (p:=⟨Ad,4,none⟩) (Kd.S_far (p:=⟨Ad,3,none⟩) (Kd.S_far (p:=⟨Ad,2,none⟩) (Kd.S_far (p:=⟨Ad,1,none⟩) (Kd.S_far (p:=⟨Ad,0,none⟩) (Kd.S_types A1.o A4.o (by decide)) (fun _ hk=>hk.2) (.int .i64 0)) (fun _ hk=>hk.2) (.int .i64 0)) (fun _ hk=>hk.2) (.int .i64 0)) (fun _ hk=>hk.2) (.int .i64 0)) (fun _ hk=>hk.2) (.slice none 0 0)) (fun _ hk=>trivial))) (show Kd.R (Kd.int .u8) 5 H2 w.heap.size (fun k_=>some k_≠(.slice Bd A9.length Be:Value).ownBlock∧some k_≠(.slice Bd A9.length Be:Value).ownBlock) (.slice B1 Ab.length B2) Ab by rw [hw];exact (by refine kr ?_;exact Kd.R_mono (rf5 Ad (.int .i64 0) (.int .i64 0) (.int .i64 0) (.int .i64 0) (.slice none 0 0) (Kd.R_types A2.o A4.o (by decide)) (fun _ hk=>hk.2)) (fun _ hk=>⟨hk.1.1,hk.1.2⟩))) (sc5 hw A4) (sf5 hw A5 Ar) (sf5 hw A6 An) (sf5 hw A7 At) (sb hw (bq4 HB.o Ac.o Ae.o Af.o Ai.o));clear hw Aa A3 A1 A2 A4 A5 A6 A7 HB;obtain ⟨Aa,A3,A1,A2,A4,A5,A6,A7,HB⟩:=n_))
       refine bodyPost_ret (dK rfl _ _ Ad 26 #[.int .i64 0,.int .i64 0,.int .i64 0,.int .i64 0,.slice none 0 0] (0,0) _ rfl (zq A4.o) Try.underlying26 rfl (by kernel_rfl)) rfl ?_
       exact ⟨_,rq,by first|exact Kd.S_nil _ _ _ _ _|exact Kd.N_nil _ _ _ _ _|exact Kd.V_nil _ _ _ _ _|exact Kd.Q_nil _ _ _ _ _|exact Kd.R_nil _ _ _ _ _,bq4 HB.o Ac.o Ae.o Af.o Ai.o⟩
     replace H:=iT H
     replace H:=iq' H
     rcases H with ⟨Qu,H3,H4,H⟩|⟨-,H3,H4,H⟩
     · simp only [k4,k5] at H
       obtain ⟨rfl,rfl,rfl,rfl,rfl,rfl⟩:=H
       try go_wp2
       have n_:=ak9 (Kd.R_drew Aa.o) (Kd.R_drew A3.o) (Kd.S_drew A1.o) (Kd.R_drew A2.o) (a7 A4.o) (a7 A5.o) (a7 A6.o) (a7 A7.o) (bB HB.o)
       clear Aa A3 A1 A2 A4 A5 A6 A7 HB
       obtain ⟨Aa,A3,A1,A2,A4,A5,A6,A7,HB⟩:=n_
       refine cW (n:=40) (S:=fun w'=>True) (ds:=[]) #[F,F,F,F,F,F,F,F,F,F,F,F,F,F,F,F,F,F,F,F,F,F,F,F,F,F,F,F,F,F,F,F,F,F,F,F,F,F,F,F] (by kernel_rfl) rfl rfl trivial (fun hHeld=>?_);refine bW aW.tab12 aW.bits12 (fun HT_ HW_=>?_)
       generalize wc.drew=Mt at Aa A3 A1 A2 A4 A5 A6 A7 HB hHeld ⊢
       refine pv HT_ 0 (some 84) #[T,F,F,F,F,F,F,F,F,F,F,F,F,F,F,F,F,F,F,F,F,F,F,F,F,F,F,F,F,F,F,F,F,F,F,F,F,F,F,F] ?_
       refine pv HT_ 1 (some 85) #[T,T,F,F,F,F,F,F,F,F,F,F,F,F,F,F,F,F,F,F,F,F,F,F,F,F,F,F,F,F,F,F,F,F,F,F,F,F,F,F] ?_
       refine pv HT_ 2 (some 86) #[T,T,T,F,F,F,F,F,F,F,F,F,F,F,F,F,F,F,F,F,F,F,F,F,F,F,F,F,F,F,F,F,F,F,F,F,F,F,F,F] ?_
       refine pv HT_ 3 (some 87) #[T,T,T,T,F,F,F,F,F,F,F,F,F,F,F,F,F,F,F,F,F,F,F,F,F,F,F,F,F,F,F,F,F,F,F,F,F,F,F,F] ?_
       refine pv HT_ 4 (some 88) #[T,T,T,T,T,F,F,F,F,F,F,F,F,F,F,F,F,F,F,F,F,F,F,F,F,F,F,F,F,F,F,F,F,F,F,F,F,F,F,F] ?_
       refine pv HT_ 5 (some 89) #[T,T,T,T,T,T,F,F,F,F,F,F,F,F,F,F,F,F,F,F,F,F,F,F,F,F,F,F,F,F,F,F,F,F,F,F,F,F,F,F] ?_
       refine pv HT_ 6 (some 90) #[T,T,T,T,T,T,T,F,F,F,F,F,F,F,F,F,F,F,F,F,F,F,F,F,F,F,F,F,F,F,F,F,F,F,F,F,F,F,F,F] ?_
       refine pv HT_ 7 (some 91) #[T,T,T,T,T,T,T,T,F,F,F,F,F,F,F,F,F,F,F,F,F,F,F,F,F,F,F,F,F,F,F,F,F,F,F,F,F,F,F,F] ?_
       refine pv HT_ 8 (some 92) #[T,T,T,T,T,T,T,T,T,F,F,F,F,F,F,F,F,F,F,F,F,F,F,F,F,F,F,F,F,F,F,F,F,F,F,F,F,F,F,F] ?_
       refine bC (i:=9) (N:=some 93) (v:=undef) (a':=?_) #[T,T,T,T,T,T,T,T,T,T,F,F,F,F,F,F,F,F,F,F,F,F,F,F,F,F,F,F,F,F,F,F,F,F,F,F,F,F,F,F] rfl rfl (aY HT_.o (by kernel_rfl)) (fun _ _ _ h=>h) (Or.inr ⟨by rfl,rfl⟩) ?_ ?_
       rotate_left
       · simp only [Act.put,kX,kY,kZ,aI,aK]
         rfl
       refine bC (i:=10) (N:=some 94) (v:=undef) (a':=?_) #[T,T,T,T,T,T,T,T,T,T,T,F,F,F,F,F,F,F,F,F,F,F,F,F,F,F,F,F,F,F,F,F,F,F,F,F,F,F,F,F] rfl rfl (aY HT_.o (by kernel_rfl)) (fun _ _ _ h=>h) (Or.inr ⟨by rfl,rfl⟩) ?_ ?_
       rotate_left
       · simp only [Act.put,kX,kY,kZ,aI,aK]
         rfl
       refine bC (i:=11) (N:=some 95) (v:=undef) (a':=?_) #[T,T,T,T,T,T,T,T,T,T,T,T,F,F,F,F,F,F,F,F,F,F,F,F,F,F,F,F,F,F,F,F,F,F,F,F,F,F,F,F] rfl rfl (aY HT_.o (by kernel_rfl)) (fun _ _ _ h=>h) (Or.inr ⟨by rfl,rfl⟩) ?_ ?_
       rotate_left
       · simp only [Act.put,kX,kY,kZ,aI,aK]
         rfl
       refine bC (i:=12) (N:=some 96) (v:=undef) (a':=?_) #[T,T,T,T,T,T,T,T,T,T,T,T,T,F,F,F,F,F,F,F,F,F,F,F,F,F,F,F,F,F,F,F,F,F,F,F,F,F,F,F] rfl rfl (aY HT_.o (by kernel_rfl)) (fun _ _ _ h=>h) (Or.inr ⟨by rfl,rfl⟩) ?_ ?_
       rotate_left
       · simp only [Act.put,kX,kY,kZ,aI,aK]
         rfl
       refine pv HT_ 13 (some 97) #[T,T,T,T,T,T,T,T,T,T,T,T,T,T,F,F,F,F,F,F,F,F,F,F,F,F,F,F,F,F,F,F,F,F,F,F,F,F,F,F] ?_
       refine pv HT_ 14 (some 98) #[T,T,T,T,T,T,T,T,T,T,T,T,T,T,T,F,F,F,F,F,F,F,F,F,F,F,F,F,F,F,F,F,F,F,F,F,F,F,F,F] ?_
       refine bC (i:=15) (N:=some 99) (v:=undef) (a':=?_) #[T,T,T,T,T,T,T,T,T,T,T,T,T,T,T,T,F,F,F,F,F,F,F,F,F,F,F,F,F,F,F,F,F,F,F,F,F,F,F,F] rfl rfl (aY HT_.o (by kernel_rfl)) (fun _ _ _ h=>h) (Or.inr ⟨by rfl,rfl⟩) ?_ ?_
       rotate_left
       · simp only [Act.put,kX,kY,kZ,aI,aK]
         rfl
       refine bC (i:=16) (N:=some 100) (v:=undef) (a':=?_) #[T,T,T,T,T,T,T,T,T,T,T,T,T,T,T,T,T,F,F,F,F,F,F,F,F,F,F,F,F,F,F,F,F,F,F,F,F,F,F,F] rfl rfl (aY HT_.o (by kernel_rfl)) (fun _ _ _ h=>h) (Or.inr ⟨by rfl,rfl⟩) ?_ ?_
       rotate_left
       · simp only [Act.put,kX,kY,kZ,aI,aK]
         rfl
       refine bC (i:=17) (N:=some 101) (v:=undef) (a':=?_) #[T,T,T,T,T,T,T,T,T,T,T,T,T,T,T,T,T,T,F,F,F,F,F,F,F,F,F,F,F,F,F,F,F,F,F,F,F,F,F,F] rfl rfl (aY HT_.o (by kernel_rfl)) (fun _ _ _ h=>h) (Or.inr ⟨by rfl,rfl⟩) ?_ ?_
       rotate_left
       · simp only [Act.put,kX,kY,kZ,aI,aK]
         rfl
       refine bC (i:=18) (N:=some 102) (v:=undef) (a':=?_) #[T,T,T,T,T,T,T,T,T,T,T,T,T,T,T,T,T,T,T,F,F,F,F,F,F,F,F,F,F,F,F,F,F,F,F,F,F,F,F,F] rfl rfl (aY HT_.o (by kernel_rfl)) (fun _ _ _ h=>h) (Or.inr ⟨by rfl,rfl⟩) ?_ ?_
       rotate_left
       · simp only [Act.put,kX,kY,kZ,aI,aK]
         rfl
       refine bC (i:=19) (N:=some 103) (v:=undef) (a':=?_) #[T,T,T,T,T,T,T,T,T,T,T,T,T,T,T,T,T,T,T,T,F,F,F,F,F,F,F,F,F,F,F,F,F,F,F,F,F,F,F,F] rfl rfl (aY HT_.o (by kernel_rfl)) (fun _ _ _ h=>h) (Or.inr ⟨by rfl,rfl⟩) ?_ ?_
       rotate_left
       · simp only [Act.put,kX,kY,kZ,aI,aK]
         rfl
       refine bC (i:=20) (N:=some 104) (v:=undef) (a':=?_) #[T,T,T,T,T,T,T,T,T,T,T,T,T,T,T,T,T,T,T,T,T,F,F,F,F,F,F,F,F,F,F,F,F,F,F,F,F,F,F,F] rfl rfl (aY HT_.o (by kernel_rfl)) (fun _ _ _ h=>h) (Or.inr ⟨by rfl,rfl⟩) ?_ ?_
       rotate_left
       · simp only [Act.put,kX,kY,kZ,aI,aK]
         rfl
       refine bC (i:=21) (N:=some 105) (v:=undef) (a':=?_) #[T,T,T,T,T,T,T,T,T,T,T,T,T,T,T,T,T,T,T,T,T,T,F,F,F,F,F,F,F,F,F,F,F,F,F,F,F,F,F,F] rfl rfl (aY HT_.o (by kernel_rfl)) (fun _ _ _ h=>h) (Or.inr ⟨by rfl,rfl⟩) ?_ ?_
       rotate_left
       · simp only [Act.put,kX,kY,kZ,aI,aK]
         rfl
       refine pv HT_ 22 (some 106) #[T,T,T,T,T,T,T,T,T,T,T,T,T,T,T,T,T,T,T,T,T,T,T,F,F,F,F,F,F,F,F,F,F,F,F,F,F,F,F,F] ?_
       refine pv HT_ 23 (some 107) #[T,T,T,T,T,T,T,T,T,T,T,T,T,T,T,T,T,T,T,T,T,T,T,T,F,F,F,F,F,F,F,F,F,F,F,F,F,F,F,F] ?_
       refine bC (i:=24) (N:=some 108) (v:=undef) (a':=?_) #[T,T,T,T,T,T,T,T,T,T,T,T,T,T,T,T,T,T,T,T,T,T,T,T,T,F,F,F,F,F,F,F,F,F,F,F,F,F,F,F] rfl rfl (aY HT_.o (by kernel_rfl)) (fun _ _ _ h=>h) (Or.inr ⟨by rfl,rfl⟩) ?_ ?_
       rotate_left
       · simp only [Act.put,kX,kY,kZ,aI,aK]
         rfl
       refine bC (i:=25) (N:=some 109) (v:=undef) (a':=?_) #[T,T,T,T,T,T,T,T,T,T,T,T,T,T,T,T,T,T,T,T,T,T,T,T,T,T,F,F,F,F,F,F,F,F,F,F,F,F,F,F] rfl rfl (aY HT_.o (by kernel_rfl)) (fun _ _ _ h=>h) (Or.inr ⟨by rfl,rfl⟩) ?_ ?_
       rotate_left
       · simp only [Act.put,kX,kY,kZ,aI,aK]
         rfl
       refine bC (i:=26) (N:=some 110) (v:=undef) (a':=?_) #[T,T,T,T,T,T,T,T,T,T,T,T,T,T,T,T,T,T,T,T,T,T,T,T,T,T,T,F,F,F,F,F,F,F,F,F,F,F,F,F] rfl rfl (aY HT_.o (by kernel_rfl)) (fun _ _ _ h=>h) (Or.inr ⟨by rfl,rfl⟩) ?_ ?_
       rotate_left
       · simp only [Act.put,kX,kY,kZ,aI,aK]
         rfl
       refine bC (i:=27) (N:=some 111) (v:=undef) (a':=?_) #[T,T,T,T,T,T,T,T,T,T,T,T,T,T,T,T,T,T,T,T,T,T,T,T,T,T,T,T,F,F,F,F,F,F,F,F,F,F,F,F] rfl rfl (aY HT_.o (by kernel_rfl)) (fun _ _ _ h=>h) (Or.inr ⟨by rfl,rfl⟩) ?_ ?_
       rotate_left
       · simp only [Act.put,kX,kY,kZ,aI,aK]
         rfl
       refine bC (i:=28) (N:=some 112) (v:=undef) (a':=?_) #[T,T,T,T,T,T,T,T,T,T,T,T,T,T,T,T,T,T,T,T,T,T,T,T,T,T,T,T,T,F,F,F,F,F,F,F,F,F,F,F] rfl rfl (aY HT_.o (by kernel_rfl)) (fun _ _ _ h=>h) (Or.inr ⟨by rfl,rfl⟩) ?_ ?_
       rotate_left
       · simp only [Act.put,kX,kY,kZ,aI,aK]
         rfl
       refine bC (i:=29) (N:=some 113) (v:=undef) (a':=?_) #[T,T,T,T,T,T,T,T,T,T,T,T,T,T,T,T,T,T,T,T,T,T,T,T,T,T,T,T,T,T,F,F,F,F,F,F,F,F,F,F] rfl rfl (aY HT_.o (by kernel_rfl)) (fun _ _ _ h=>h) (Or.inr ⟨by rfl,rfl⟩) ?_ ?_
       rotate_left
       · simp only [Act.put,kX,kY,kZ,aI,aK]
         rfl
       refine bC (i:=30) (N:=some 114) (v:=undef) (a':=?_) #[T,T,T,T,T,T,T,T,T,T,T,T,T,T,T,T,T,T,T,T,T,T,T,T,T,T,T,T,T,T,T,F,F,F,F,F,F,F,F,F] rfl rfl (aY HT_.o (by kernel_rfl)) (fun _ _ _ h=>h) (Or.inr ⟨by rfl,rfl⟩) ?_ ?_
       rotate_left
       · simp only [Act.put,kX,kY,kZ,aI,aK]
         rfl
       refine bC (i:=31) (N:=some 115) (v:=undef) (a':=?_) #[T,T,T,T,T,T,T,T,T,T,T,T,T,T,T,T,T,T,T,T,T,T,T,T,T,T,T,T,T,T,T,T,F,F,F,F,F,F,F,F] rfl rfl (aY HT_.o (by kernel_rfl)) (fun _ _ _ h=>h) (Or.inr ⟨by rfl,rfl⟩) ?_ ?_
       rotate_left
       · simp only [Act.put,kX,kY,kZ,aI,aK]
         rfl
       refine bC (i:=32) (N:=some 116) (v:=undef) (a':=?_) #[T,T,T,T,T,T,T,T,T,T,T,T,T,T,T,T,T,T,T,T,T,T,T,T,T,T,T,T,T,T,T,T,T,F,F,F,F,F,F,F] rfl rfl (aY HT_.o (by kernel_rfl)) (fun _ _ _ h=>h) (Or.inr ⟨by rfl,rfl⟩) ?_ ?_
       rotate_left
       · simp only [Act.put,kX,kY,kZ,aI,aK]
         rfl
       refine bC (i:=33) (N:=some 117) (v:=undef) (a':=?_) #[T,T,T,T,T,T,T,T,T,T,T,T,T,T,T,T,T,T,T,T,T,T,T,T,T,T,T,T,T,T,T,T,T,T,F,F,F,F,F,F] rfl rfl (aY HT_.o (by kernel_rfl)) (fun _ _ _ h=>h) (Or.inr ⟨by rfl,rfl⟩) ?_ ?_
       rotate_left
       · simp only [Act.put,kX,kY,kZ,aI,aK]
         rfl
       refine pv HT_ 34 (some 118) #[T,T,T,T,T,T,T,T,T,T,T,T,T,T,T,T,T,T,T,T,T,T,T,T,T,T,T,T,T,T,T,T,T,T,T,F,F,F,F,F] ?_
       refine pv HT_ 35 (some 119) #[T,T,T,T,T,T,T,T,T,T,T,T,T,T,T,T,T,T,T,T,T,T,T,T,T,T,T,T,T,T,T,T,T,T,T,T,F,F,F,F] ?_
       refine bC (i:=36) (N:=some 120) (v:=undef) (a':=?_) #[T,T,T,T,T,T,T,T,T,T,T,T,T,T,T,T,T,T,T,T,T,T,T,T,T,T,T,T,T,T,T,T,T,T,T,T,T,F,F,F] rfl rfl (aY HT_.o (by kernel_rfl)) (fun _ _ _ h=>h) (Or.inr ⟨by rfl,rfl⟩) ?_ ?_
       rotate_left
       · simp only [Act.put,kX,kY,kZ,aI,aK]
         rfl
       refine bC (i:=37) (N:=some 121) (v:=undef) (a':=?_) #[T,T,T,T,T,T,T,T,T,T,T,T,T,T,T,T,T,T,T,T,T,T,T,T,T,T,T,T,T,T,T,T,T,T,T,T,T,T,F,F] rfl rfl (aY HT_.o (by kernel_rfl)) (fun _ _ _ h=>h) (Or.inr ⟨by rfl,rfl⟩) ?_ ?_
       rotate_left
       · simp only [Act.put,kX,kY,kZ,aI,aK]
         rfl
       refine bC (i:=38) (N:=some 122) (v:=undef) (a':=?_) #[T,T,T,T,T,T,T,T,T,T,T,T,T,T,T,T,T,T,T,T,T,T,T,T,T,T,T,T,T,T,T,T,T,T,T,T,T,T,T,F] rfl rfl (aY HT_.o (by kernel_rfl)) (fun _ _ _ h=>h) (Or.inr ⟨by rfl,rfl⟩) ?_ ?_
       rotate_left
       · simp only [Act.put,kX,kY,kZ,aI,aK]
         rfl
       refine pv HT_ 39 (some 123) #[T,T,T,T,T,T,T,T,T,T,T,T,T,T,T,T,T,T,T,T,T,T,T,T,T,T,T,T,T,T,T,T,T,T,T,T,T,T,T,T] ?_
       refine d5 (cL HT_.o (by kernel_rfl)) ?_
       have Mu:=Ay.o
       have Mv:=Ar.o
       have Mw:=As.o
       have Mx:=An.o
       have My:=B6.o
       have Mz:=At.o
       obtain ⟨H5,H6,H7,H8,H9,Ha,Hb,Hc,Hd,He⟩:=cl5 A4.o
       try go_wp2_with (first|((with_reducible refine aQ (t:=26) (p:=2) rfl ?_);refine se 26 2 (s5 Mt Ad (.int .i64 0) (.int .i64 0) (.int .i64 0) (.int .i64 0) (.slice none 0 0)) ?_;intro Hf hw;have n_:=ak9 (sr5 hw Aa A4) (sr5 hw A3 A4) (show Kd.S k45 45 Hf w.heap.size (fun _=>True) Ah A8 by rw [hw];exact (by (with_reducible repeat (first|apply Kd.S_alloc|apply Kd.S_drewN|apply Kd.S_drew));exact Kd.S_mono (Kd.S_far (p:=⟨Ad,4,none⟩) (Kd.S_far (p:=⟨Ad,3,none⟩) (Kd.S_far (p:=⟨Ad,2,none⟩) (Kd.S_far (p:=⟨Ad,1,none⟩) (Kd.S_far (p:=⟨Ad,0,none⟩) (Kd.S_types A1.o A4.o (by decide)) (fun _ hk=>hk.2) (.int .i64 0)) (fun _ hk=>hk.2) (.int .i64 0)) (fun _ hk=>hk.2) (.int .i64 0)) (fun _ hk=>hk.2) (.int .i64 0)) (fun _ hk=>hk.2) (.slice none 0 0)) (fun _ hk=>trivial))) (show Kd.R (Kd.int .u8) 5 Hf w.heap.size (fun k_=>some k_≠(.slice Bd A9.length Be:Value).ownBlock∧some k_≠(.slice Bd A9.length Be:Value).ownBlock) (.slice B1 Ab.length B2) Ab by rw [hw];exact (by refine kr ?_;exact Kd.R_mono (rf5 Ad (.int .i64 0) (.int .i64 0) (.int .i64 0) (.int .i64 0) (.slice none 0 0) (Kd.R_types A2.o A4.o (by decide)) (fun _ hk=>hk.2)) (fun _ hk=>⟨hk.1.1,hk.1.2⟩))) (sc5 hw A4) (sf5 hw A5 Ar) (sf5 hw A6 An) (sf5 hw A7 At) (sb hw (bq4 HB.o Ac.o Ae.o Af.o Ai.o));clear hw Aa A3 A1 A2 A4 A5 A6 A7 HB;obtain ⟨Aa,A3,A1,A2,A4,A5,A6,A7,HB⟩:=n_))
       refine bodyPost_ret (dK rfl _ _ Ad 26 #[.int .i64 0,.int .i64 0,.int .i64 0,.int .i64 0,.slice none 0 0] (0,0) _ rfl (zq A4.o) Try.underlying26 rfl (by kernel_rfl)) rfl ?_
       exact ⟨_,rq,by first|exact Kd.S_nil _ _ _ _ _|exact Kd.N_nil _ _ _ _ _|exact Kd.V_nil _ _ _ _ _|exact Kd.Q_nil _ _ _ _ _|exact Kd.R_nil _ _ _ _ _,bq4 HB.o Ac.o Ae.o Af.o Ai.o⟩
     rcases Decidable.em (Bc=true) with Hg|Hg
     · subst Hg
       replace H:(some (0,0,0,0,([]:List (S45)),false))=some (r1,r2,r3,r4,r5,r6):=by rw [if_pos rfl] at H;exact H
       simp only [k4,k5] at H
       obtain ⟨rfl,rfl,rfl,rfl,rfl,rfl⟩:=H
       try go_wp2
       have n_:=ak9 (Kd.R_drew Aa.o) (Kd.R_drew A3.o) (Kd.S_drew A1.o) (Kd.R_drew A2.o) (a7 A4.o) (a7 A5.o) (a7 A6.o) (a7 A7.o) (bB HB.o)
       clear Aa A3 A1 A2 A4 A5 A6 A7 HB
       obtain ⟨Aa,A3,A1,A2,A4,A5,A6,A7,HB⟩:=n_
       refine cW (n:=40) (S:=fun w'=>w'.cell? ⟨Ag,0,none⟩=some (.slice Bd A9.length Be)∧w'.cell? ⟨Ag,1,none⟩=some (.int .i64 B9)∧w'.cell? ⟨Ag,2,none⟩=some (.bool true)) (ds:=[]) #[F,F,F,F,F,F,F,F,F,F,F,F,F,F,F,F,F,F,F,F,F,F,F,F,F,F,F,F,F,F,F,F,F,F,F,F,F,F,F,F] (by kernel_rfl) rfl rfl ⟨(aA A5.o 0).trans rfl,(aA A5.o 1).trans rfl,(aA A5.o 2).trans rfl⟩ (fun hHeld=>?_);refine bW aW.tab12 aW.bits12 (fun HT_ HW_=>?_)
       generalize wc.drew=Q9 at Aa A3 A1 A2 A4 A5 A6 A7 HB hHeld ⊢
       refine pv HT_ 0 (some 84) #[T,F,F,F,F,F,F,F,F,F,F,F,F,F,F,F,F,F,F,F,F,F,F,F,F,F,F,F,F,F,F,F,F,F,F,F,F,F,F,F] ?_
       refine pv HT_ 1 (some 85) #[T,T,F,F,F,F,F,F,F,F,F,F,F,F,F,F,F,F,F,F,F,F,F,F,F,F,F,F,F,F,F,F,F,F,F,F,F,F,F,F] ?_
       refine pv HT_ 2 (some 86) #[T,T,T,F,F,F,F,F,F,F,F,F,F,F,F,F,F,F,F,F,F,F,F,F,F,F,F,F,F,F,F,F,F,F,F,F,F,F,F,F] ?_
       refine pv HT_ 3 (some 87) #[T,T,T,T,F,F,F,F,F,F,F,F,F,F,F,F,F,F,F,F,F,F,F,F,F,F,F,F,F,F,F,F,F,F,F,F,F,F,F,F] ?_
       refine pv HT_ 4 (some 88) #[T,T,T,T,T,F,F,F,F,F,F,F,F,F,F,F,F,F,F,F,F,F,F,F,F,F,F,F,F,F,F,F,F,F,F,F,F,F,F,F] ?_
       refine pv HT_ 5 (some 89) #[T,T,T,T,T,T,F,F,F,F,F,F,F,F,F,F,F,F,F,F,F,F,F,F,F,F,F,F,F,F,F,F,F,F,F,F,F,F,F,F] ?_
       refine pv HT_ 6 (some 90) #[T,T,T,T,T,T,T,F,F,F,F,F,F,F,F,F,F,F,F,F,F,F,F,F,F,F,F,F,F,F,F,F,F,F,F,F,F,F,F,F] ?_
       refine pv HT_ 7 (some 91) #[T,T,T,T,T,T,T,T,F,F,F,F,F,F,F,F,F,F,F,F,F,F,F,F,F,F,F,F,F,F,F,F,F,F,F,F,F,F,F,F] ?_
       refine pv HT_ 8 (some 92) #[T,T,T,T,T,T,T,T,T,F,F,F,F,F,F,F,F,F,F,F,F,F,F,F,F,F,F,F,F,F,F,F,F,F,F,F,F,F,F,F] ?_
       refine pv HT_ 9 (some 93) #[T,T,T,T,T,T,T,T,T,T,F,F,F,F,F,F,F,F,F,F,F,F,F,F,F,F,F,F,F,F,F,F,F,F,F,F,F,F,F,F] ?_
       refine pv HT_ 10 (some 94) #[T,T,T,T,T,T,T,T,T,T,T,F,F,F,F,F,F,F,F,F,F,F,F,F,F,F,F,F,F,F,F,F,F,F,F,F,F,F,F,F] ?_
       refine pv HT_ 11 (some 95) #[T,T,T,T,T,T,T,T,T,T,T,T,F,F,F,F,F,F,F,F,F,F,F,F,F,F,F,F,F,F,F,F,F,F,F,F,F,F,F,F] ?_
       refine tk 12 (some 96) #[T,T,T,T,T,T,T,T,T,T,T,T,T,F,F,F,F,F,F,F,F,F,F,F,F,F,F,F,F,F,F,F,F,F,F,F,F,F,F,F] rfl rfl (aZ HT_.o HW_.o (by kernel_rfl)) hHeld (Or.inl ⟨by rfl,by rintro w' ⟨s0,s1,s2⟩;go_simp;with_reducible rfl⟩) ?_
       refine pv HT_ 13 (some 97) #[T,T,T,T,T,T,T,T,T,T,T,T,T,T,F,F,F,F,F,F,F,F,F,F,F,F,F,F,F,F,F,F,F,F,F,F,F,F,F,F] ?_
       refine pv HT_ 14 (some 98) #[T,T,T,T,T,T,T,T,T,T,T,T,T,T,T,F,F,F,F,F,F,F,F,F,F,F,F,F,F,F,F,F,F,F,F,F,F,F,F,F] ?_
       refine bC (i:=15) (N:=some 99) (v:=undef) (a':=?_) #[T,T,T,T,T,T,T,T,T,T,T,T,T,T,T,T,F,F,F,F,F,F,F,F,F,F,F,F,F,F,F,F,F,F,F,F,F,F,F,F] rfl rfl (aY HT_.o (by kernel_rfl)) (fun _ _ _ h=>h) (Or.inr ⟨by rfl,rfl⟩) ?_ ?_
       rotate_left
       · simp only [Act.put,kX,kY,kZ,aI,aK]
         rfl
       refine bC (i:=16) (N:=some 100) (v:=undef) (a':=?_) #[T,T,T,T,T,T,T,T,T,T,T,T,T,T,T,T,T,F,F,F,F,F,F,F,F,F,F,F,F,F,F,F,F,F,F,F,F,F,F,F] rfl rfl (aY HT_.o (by kernel_rfl)) (fun _ _ _ h=>h) (Or.inr ⟨by rfl,rfl⟩) ?_ ?_
       rotate_left
       · simp only [Act.put,kX,kY,kZ,aI,aK]
         rfl
       refine bC (i:=17) (N:=some 101) (v:=undef) (a':=?_) #[T,T,T,T,T,T,T,T,T,T,T,T,T,T,T,T,T,T,F,F,F,F,F,F,F,F,F,F,F,F,F,F,F,F,F,F,F,F,F,F] rfl rfl (aY HT_.o (by kernel_rfl)) (fun _ _ _ h=>h) (Or.inr ⟨by rfl,rfl⟩) ?_ ?_
       rotate_left
       · simp only [Act.put,kX,kY,kZ,aI,aK]
         rfl
       refine bC (i:=18) (N:=some 102) (v:=undef) (a':=?_) #[T,T,T,T,T,T,T,T,T,T,T,T,T,T,T,T,T,T,T,F,F,F,F,F,F,F,F,F,F,F,F,F,F,F,F,F,F,F,F,F] rfl rfl (aY HT_.o (by kernel_rfl)) (fun _ _ _ h=>h) (Or.inr ⟨by rfl,rfl⟩) ?_ ?_
       rotate_left
       · simp only [Act.put,kX,kY,kZ,aI,aK]
         rfl
       refine bC (i:=19) (N:=some 103) (v:=undef) (a':=?_) #[T,T,T,T,T,T,T,T,T,T,T,T,T,T,T,T,T,T,T,T,F,F,F,F,F,F,F,F,F,F,F,F,F,F,F,F,F,F,F,F] rfl rfl (aY HT_.o (by kernel_rfl)) (fun _ _ _ h=>h) (Or.inr ⟨by rfl,rfl⟩) ?_ ?_
       rotate_left
       · simp only [Act.put,kX,kY,kZ,aI,aK]
         rfl
       refine bC (i:=20) (N:=some 104) (v:=undef) (a':=?_) #[T,T,T,T,T,T,T,T,T,T,T,T,T,T,T,T,T,T,T,T,T,F,F,F,F,F,F,F,F,F,F,F,F,F,F,F,F,F,F,F] rfl rfl (aY HT_.o (by kernel_rfl)) (fun _ _ _ h=>h) (Or.inr ⟨by rfl,rfl⟩) ?_ ?_
       rotate_left
       · simp only [Act.put,kX,kY,kZ,aI,aK]
         rfl
       refine bC (i:=21) (N:=some 105) (v:=undef) (a':=?_) #[T,T,T,T,T,T,T,T,T,T,T,T,T,T,T,T,T,T,T,T,T,T,F,F,F,F,F,F,F,F,F,F,F,F,F,F,F,F,F,F] rfl rfl (aY HT_.o (by kernel_rfl)) (fun _ _ _ h=>h) (Or.inr ⟨by rfl,rfl⟩) ?_ ?_
       rotate_left
       · simp only [Act.put,kX,kY,kZ,aI,aK]
         rfl
       refine pv HT_ 22 (some 106) #[T,T,T,T,T,T,T,T,T,T,T,T,T,T,T,T,T,T,T,T,T,T,T,F,F,F,F,F,F,F,F,F,F,F,F,F,F,F,F,F] ?_
       refine pv HT_ 23 (some 107) #[T,T,T,T,T,T,T,T,T,T,T,T,T,T,T,T,T,T,T,T,T,T,T,T,F,F,F,F,F,F,F,F,F,F,F,F,F,F,F,F] ?_
       refine bC (i:=24) (N:=some 108) (v:=undef) (a':=?_) #[T,T,T,T,T,T,T,T,T,T,T,T,T,T,T,T,T,T,T,T,T,T,T,T,T,F,F,F,F,F,F,F,F,F,F,F,F,F,F,F] rfl rfl (aY HT_.o (by kernel_rfl)) (fun _ _ _ h=>h) (Or.inr ⟨by rfl,rfl⟩) ?_ ?_
       rotate_left
       · simp only [Act.put,kX,kY,kZ,aI,aK]
         rfl
       refine bC (i:=25) (N:=some 109) (v:=undef) (a':=?_) #[T,T,T,T,T,T,T,T,T,T,T,T,T,T,T,T,T,T,T,T,T,T,T,T,T,T,F,F,F,F,F,F,F,F,F,F,F,F,F,F] rfl rfl (aY HT_.o (by kernel_rfl)) (fun _ _ _ h=>h) (Or.inr ⟨by rfl,rfl⟩) ?_ ?_
       rotate_left
       · simp only [Act.put,kX,kY,kZ,aI,aK]
         rfl
       refine bC (i:=26) (N:=some 110) (v:=undef) (a':=?_) #[T,T,T,T,T,T,T,T,T,T,T,T,T,T,T,T,T,T,T,T,T,T,T,T,T,T,T,F,F,F,F,F,F,F,F,F,F,F,F,F] rfl rfl (aY HT_.o (by kernel_rfl)) (fun _ _ _ h=>h) (Or.inr ⟨by rfl,rfl⟩) ?_ ?_
       rotate_left
       · simp only [Act.put,kX,kY,kZ,aI,aK]
         rfl
       refine bC (i:=27) (N:=some 111) (v:=undef) (a':=?_) #[T,T,T,T,T,T,T,T,T,T,T,T,T,T,T,T,T,T,T,T,T,T,T,T,T,T,T,T,F,F,F,F,F,F,F,F,F,F,F,F] rfl rfl (aY HT_.o (by kernel_rfl)) (fun _ _ _ h=>h) (Or.inr ⟨by rfl,rfl⟩) ?_ ?_
       rotate_left
       · simp only [Act.put,kX,kY,kZ,aI,aK]
         rfl
       refine bC (i:=28) (N:=some 112) (v:=undef) (a':=?_) #[T,T,T,T,T,T,T,T,T,T,T,T,T,T,T,T,T,T,T,T,T,T,T,T,T,T,T,T,T,F,F,F,F,F,F,F,F,F,F,F] rfl rfl (aY HT_.o (by kernel_rfl)) (fun _ _ _ h=>h) (Or.inr ⟨by rfl,rfl⟩) ?_ ?_
       rotate_left
       · simp only [Act.put,kX,kY,kZ,aI,aK]
         rfl
       refine bC (i:=29) (N:=some 113) (v:=undef) (a':=?_) #[T,T,T,T,T,T,T,T,T,T,T,T,T,T,T,T,T,T,T,T,T,T,T,T,T,T,T,T,T,T,F,F,F,F,F,F,F,F,F,F] rfl rfl (aY HT_.o (by kernel_rfl)) (fun _ _ _ h=>h) (Or.inr ⟨by rfl,rfl⟩) ?_ ?_
       rotate_left
       · simp only [Act.put,kX,kY,kZ,aI,aK]
         rfl
       refine bC (i:=30) (N:=some 114) (v:=undef) (a':=?_) #[T,T,T,T,T,T,T,T,T,T,T,T,T,T,T,T,T,T,T,T,T,T,T,T,T,T,T,T,T,T,T,F,F,F,F,F,F,F,F,F] rfl rfl (aY HT_.o (by kernel_rfl)) (fun _ _ _ h=>h) (Or.inr ⟨by rfl,rfl⟩) ?_ ?_
       rotate_left
       · simp only [Act.put,kX,kY,kZ,aI,aK]
         rfl
       refine bC (i:=31) (N:=some 115) (v:=undef) (a':=?_) #[T,T,T,T,T,T,T,T,T,T,T,T,T,T,T,T,T,T,T,T,T,T,T,T,T,T,T,T,T,T,T,T,F,F,F,F,F,F,F,F] rfl rfl (aY HT_.o (by kernel_rfl)) (fun _ _ _ h=>h) (Or.inr ⟨by rfl,rfl⟩) ?_ ?_
       rotate_left
       · simp only [Act.put,kX,kY,kZ,aI,aK]
         rfl
       refine bC (i:=32) (N:=some 116) (v:=undef) (a':=?_) #[T,T,T,T,T,T,T,T,T,T,T,T,T,T,T,T,T,T,T,T,T,T,T,T,T,T,T,T,T,T,T,T,T,F,F,F,F,F,F,F] rfl rfl (aY HT_.o (by kernel_rfl)) (fun _ _ _ h=>h) (Or.inr ⟨by rfl,rfl⟩) ?_ ?_
       rotate_left
       · simp only [Act.put,kX,kY,kZ,aI,aK]
         rfl
       refine bC (i:=33) (N:=some 117) (v:=undef) (a':=?_) #[T,T,T,T,T,T,T,T,T,T,T,T,T,T,T,T,T,T,T,T,T,T,T,T,T,T,T,T,T,T,T,T,T,T,F,F,F,F,F,F] rfl rfl (aY HT_.o (by kernel_rfl)) (fun _ _ _ h=>h) (Or.inr ⟨by rfl,rfl⟩) ?_ ?_
       rotate_left
       · simp only [Act.put,kX,kY,kZ,aI,aK]
         rfl
       refine pv HT_ 34 (some 118) #[T,T,T,T,T,T,T,T,T,T,T,T,T,T,T,T,T,T,T,T,T,T,T,T,T,T,T,T,T,T,T,T,T,T,T,F,F,F,F,F] ?_
       refine pv HT_ 35 (some 119) #[T,T,T,T,T,T,T,T,T,T,T,T,T,T,T,T,T,T,T,T,T,T,T,T,T,T,T,T,T,T,T,T,T,T,T,T,F,F,F,F] ?_
       refine bC (i:=36) (N:=some 120) (v:=undef) (a':=?_) #[T,T,T,T,T,T,T,T,T,T,T,T,T,T,T,T,T,T,T,T,T,T,T,T,T,T,T,T,T,T,T,T,T,T,T,T,T,F,F,F] rfl rfl (aY HT_.o (by kernel_rfl)) (fun _ _ _ h=>h) (Or.inr ⟨by rfl,rfl⟩) ?_ ?_
       rotate_left
       · simp only [Act.put,kX,kY,kZ,aI,aK]
         rfl
       refine bC (i:=37) (N:=some 121) (v:=undef) (a':=?_) #[T,T,T,T,T,T,T,T,T,T,T,T,T,T,T,T,T,T,T,T,T,T,T,T,T,T,T,T,T,T,T,T,T,T,T,T,T,T,F,F] rfl rfl (aY HT_.o (by kernel_rfl)) (fun _ _ _ h=>h) (Or.inr ⟨by rfl,rfl⟩) ?_ ?_
       rotate_left
       · simp only [Act.put,kX,kY,kZ,aI,aK]
         rfl
       refine bC (i:=38) (N:=some 122) (v:=undef) (a':=?_) #[T,T,T,T,T,T,T,T,T,T,T,T,T,T,T,T,T,T,T,T,T,T,T,T,T,T,T,T,T,T,T,T,T,T,T,T,T,T,T,F] rfl rfl (aY HT_.o (by kernel_rfl)) (fun _ _ _ h=>h) (Or.inr ⟨by rfl,rfl⟩) ?_ ?_
       rotate_left
       · simp only [Act.put,kX,kY,kZ,aI,aK]
         rfl
       refine pv HT_ 39 (some 123) #[T,T,T,T,T,T,T,T,T,T,T,T,T,T,T,T,T,T,T,T,T,T,T,T,T,T,T,T,T,T,T,T,T,T,T,T,T,T,T,T] ?_
       refine d5 (cL HT_.o (by kernel_rfl)) ?_
       have Pi:=Ay.o
       have Pj:=Ar.o
       have Pk:=As.o
       have Pl:=An.o
       have Pm:=B6.o
       have Pn:=At.o
       obtain ⟨Hh,Hi,Hj,Hk,Hl,Hm,Hn,Ho,Hp,Hq⟩:=cl5 A4.o
       try go_wp2_with (first|((with_reducible refine aQ (t:=26) (p:=2) rfl ?_);refine se 26 2 (s5 Q9 Ad (.int .i64 0) (.int .i64 0) (.int .i64 0) (.int .i64 0) (.slice none 0 0)) ?_;intro Hr hw;have n_:=ak9 (sr5 hw Aa A4) (sr5 hw A3 A4) (show Kd.S k45 45 Hr w.heap.size (fun _=>True) Ah A8 by rw [hw];exact (by (with_reducible repeat (first|apply Kd.S_alloc|apply Kd.S_drewN|apply Kd.S_drew));exact Kd.S_mono (Kd.S_far (p:=⟨Ad,4,none⟩) (Kd.S_far (p:=⟨Ad,3,none⟩) (Kd.S_far (p:=⟨Ad,2,none⟩) (Kd.S_far (p:=⟨Ad,1,none⟩) (Kd.S_far (p:=⟨Ad,0,none⟩) (Kd.S_types A1.o A4.o (by decide)) (fun _ hk=>hk.2) (.int .i64 0)) (fun _ hk=>hk.2) (.int .i64 0)) (fun _ hk=>hk.2) (.int .i64 0)) (fun _ hk=>hk.2) (.int .i64 0)) (fun _ hk=>hk.2) (.slice none 0 0)) (fun _ hk=>trivial))) (show Kd.R (Kd.int .u8) 5 Hr w.heap.size (fun k_=>some k_≠(.slice Bd A9.length Be:Value).ownBlock∧some k_≠(.slice Bd A9.length Be:Value).ownBlock) (.slice B1 Ab.length B2) Ab by rw [hw];exact (by refine kr ?_;exact Kd.R_mono (rf5 Ad (.int .i64 0) (.int .i64 0) (.int .i64 0) (.int .i64 0) (.slice none 0 0) (Kd.R_types A2.o A4.o (by decide)) (fun _ hk=>hk.2)) (fun _ hk=>⟨hk.1.1,hk.1.2⟩))) (sc5 hw A4) (sf5 hw A5 Ar) (sf5 hw A6 An) (sf5 hw A7 At) (sb hw (bq4 HB.o Ac.o Ae.o Af.o Ai.o));clear hw Aa A3 A1 A2 A4 A5 A6 A7 HB;obtain ⟨Aa,A3,A1,A2,A4,A5,A6,A7,HB⟩:=n_))
       refine bodyPost_ret (dK rfl _ _ Ad 26 #[.int .i64 0,.int .i64 0,.int .i64 0,.int .i64 0,.slice none 0 0] (0,0) _ rfl (zq A4.o) Try.underlying26 rfl (by kernel_rfl)) rfl ?_
       exact ⟨_,rq,by first|exact Kd.S_nil _ _ _ _ _|exact Kd.N_nil _ _ _ _ _|exact Kd.V_nil _ _ _ _ _|exact Kd.Q_nil _ _ _ _ _|exact Kd.R_nil _ _ _ _ _,bq4 HB.o Ac.o Ae.o Af.o Ai.o⟩
     replace Hg:=Bool.eq_false_iff.mpr Hg
     subst Hg
     replace H:(if B9=(A9.length:Int) then (if Ak=(Ab.length:Int) then ((cF.f C3 Av Aw Az B0 A8).bind fun Cq=>(if Cq=true then (some (Av,Aw,Az,B0,A8,true)) else (some (0,0,0,0,([]:List (S45)),false)))) else (some (0,0,0,0,([]:List (S45)),false))) else (some (0,0,0,0,([]:List (S45)),false)))=some (r1,r2,r3,r4,r5,r6):=by rw [if_neg (show ¬(false=true) by decide)] at H;exact H
     replace H:=iq' H
     rcases H with ⟨Qa,G8,G9,H⟩|⟨-,G8,G9,H⟩
     · simp only [k4,k5] at H
       obtain ⟨rfl,rfl,rfl,rfl,rfl,rfl⟩:=H
       try go_wp2
       have n_:=ak9 (Kd.R_drew Aa.o) (Kd.R_drew A3.o) (Kd.S_drew A1.o) (Kd.R_drew A2.o) (a7 A4.o) (a7 A5.o) (a7 A6.o) (a7 A7.o) (bB HB.o)
       clear Aa A3 A1 A2 A4 A5 A6 A7 HB
       obtain ⟨Aa,A3,A1,A2,A4,A5,A6,A7,HB⟩:=n_
       refine cW (n:=40) (S:=fun w'=>w'.cell? ⟨Ag,0,none⟩=some (.slice Bd A9.length Be)∧w'.cell? ⟨Ag,1,none⟩=some (.int .i64 B9)∧w'.cell? ⟨Ag,2,none⟩=some (.bool false)) (ds:=[]) #[F,F,F,F,F,F,F,F,F,F,F,F,F,F,F,F,F,F,F,F,F,F,F,F,F,F,F,F,F,F,F,F,F,F,F,F,F,F,F,F] (by kernel_rfl) rfl rfl ⟨(aA A5.o 0).trans rfl,(aA A5.o 1).trans rfl,(aA A5.o 2).trans rfl⟩ (fun hHeld=>?_);refine bW aW.tab12 aW.bits12 (fun HT_ HW_=>?_)
       generalize wc.drew=N0 at Aa A3 A1 A2 A4 A5 A6 A7 HB hHeld ⊢
       refine pv HT_ 0 (some 84) #[T,F,F,F,F,F,F,F,F,F,F,F,F,F,F,F,F,F,F,F,F,F,F,F,F,F,F,F,F,F,F,F,F,F,F,F,F,F,F,F] ?_
       refine pv HT_ 1 (some 85) #[T,T,F,F,F,F,F,F,F,F,F,F,F,F,F,F,F,F,F,F,F,F,F,F,F,F,F,F,F,F,F,F,F,F,F,F,F,F,F,F] ?_
       refine pv HT_ 2 (some 86) #[T,T,T,F,F,F,F,F,F,F,F,F,F,F,F,F,F,F,F,F,F,F,F,F,F,F,F,F,F,F,F,F,F,F,F,F,F,F,F,F] ?_
       refine pv HT_ 3 (some 87) #[T,T,T,T,F,F,F,F,F,F,F,F,F,F,F,F,F,F,F,F,F,F,F,F,F,F,F,F,F,F,F,F,F,F,F,F,F,F,F,F] ?_
       refine pv HT_ 4 (some 88) #[T,T,T,T,T,F,F,F,F,F,F,F,F,F,F,F,F,F,F,F,F,F,F,F,F,F,F,F,F,F,F,F,F,F,F,F,F,F,F,F] ?_
       refine pv HT_ 5 (some 89) #[T,T,T,T,T,T,F,F,F,F,F,F,F,F,F,F,F,F,F,F,F,F,F,F,F,F,F,F,F,F,F,F,F,F,F,F,F,F,F,F] ?_
       refine pv HT_ 6 (some 90) #[T,T,T,T,T,T,T,F,F,F,F,F,F,F,F,F,F,F,F,F,F,F,F,F,F,F,F,F,F,F,F,F,F,F,F,F,F,F,F,F] ?_
       refine pv HT_ 7 (some 91) #[T,T,T,T,T,T,T,T,F,F,F,F,F,F,F,F,F,F,F,F,F,F,F,F,F,F,F,F,F,F,F,F,F,F,F,F,F,F,F,F] ?_
       refine pv HT_ 8 (some 92) #[T,T,T,T,T,T,T,T,T,F,F,F,F,F,F,F,F,F,F,F,F,F,F,F,F,F,F,F,F,F,F,F,F,F,F,F,F,F,F,F] ?_
       refine pv HT_ 9 (some 93) #[T,T,T,T,T,T,T,T,T,T,F,F,F,F,F,F,F,F,F,F,F,F,F,F,F,F,F,F,F,F,F,F,F,F,F,F,F,F,F,F] ?_
       refine pv HT_ 10 (some 94) #[T,T,T,T,T,T,T,T,T,T,T,F,F,F,F,F,F,F,F,F,F,F,F,F,F,F,F,F,F,F,F,F,F,F,F,F,F,F,F,F] ?_
       refine pv HT_ 11 (some 95) #[T,T,T,T,T,T,T,T,T,T,T,T,F,F,F,F,F,F,F,F,F,F,F,F,F,F,F,F,F,F,F,F,F,F,F,F,F,F,F,F] ?_
       refine tk 12 (some 96) #[T,T,T,T,T,T,T,T,T,T,T,T,T,F,F,F,F,F,F,F,F,F,F,F,F,F,F,F,F,F,F,F,F,F,F,F,F,F,F,F] rfl rfl (aZ HT_.o HW_.o (by kernel_rfl)) hHeld (Or.inl ⟨by rfl,by rintro w' ⟨s0,s1,s2⟩;go_simp;with_reducible rfl⟩) ?_
       refine pv HT_ 13 (some 97) #[T,T,T,T,T,T,T,T,T,T,T,T,T,T,F,F,F,F,F,F,F,F,F,F,F,F,F,F,F,F,F,F,F,F,F,F,F,F,F,F] ?_
       refine pv HT_ 14 (some 98) #[T,T,T,T,T,T,T,T,T,T,T,T,T,T,T,F,F,F,F,F,F,F,F,F,F,F,F,F,F,F,F,F,F,F,F,F,F,F,F,F] ?_
       refine pv HT_ 15 (some 99) #[T,T,T,T,T,T,T,T,T,T,T,T,T,T,T,T,F,F,F,F,F,F,F,F,F,F,F,F,F,F,F,F,F,F,F,F,F,F,F,F] ?_
       refine pv HT_ 16 (some 100) #[T,T,T,T,T,T,T,T,T,T,T,T,T,T,T,T,T,F,F,F,F,F,F,F,F,F,F,F,F,F,F,F,F,F,F,F,F,F,F,F] ?_
       refine pv HT_ 17 (some 101) #[T,T,T,T,T,T,T,T,T,T,T,T,T,T,T,T,T,T,F,F,F,F,F,F,F,F,F,F,F,F,F,F,F,F,F,F,F,F,F,F] ?_
       refine pv HT_ 19 (some 103) #[T,T,T,T,T,T,T,T,T,T,T,T,T,T,T,T,T,T,F,T,F,F,F,F,F,F,F,F,F,F,F,F,F,F,F,F,F,F,F,F] ?_
       refine pv HT_ 20 (some 104) #[T,T,T,T,T,T,T,T,T,T,T,T,T,T,T,T,T,T,F,T,T,F,F,F,F,F,F,F,F,F,F,F,F,F,F,F,F,F,F,F] ?_
       refine tk 18 (some 102) #[T,T,T,T,T,T,T,T,T,T,T,T,T,T,T,T,T,T,T,T,T,F,F,F,F,F,F,F,F,F,F,F,F,F,F,F,F,F,F,F] rfl rfl (aZ HT_.o HW_.o (by kernel_rfl)) hHeld (Or.inl ⟨by rfl,by rintro w' ⟨s0,s1,s2⟩;go_simp;with_reducible rfl⟩) ?_
       refine pv HT_ 21 (some 105) #[T,T,T,T,T,T,T,T,T,T,T,T,T,T,T,T,T,T,T,T,T,T,F,F,F,F,F,F,F,F,F,F,F,F,F,F,F,F,F,F] ?_
       refine pv HT_ 22 (some 106) #[T,T,T,T,T,T,T,T,T,T,T,T,T,T,T,T,T,T,T,T,T,T,T,F,F,F,F,F,F,F,F,F,F,F,F,F,F,F,F,F] ?_
       refine pv HT_ 23 (some 107) #[T,T,T,T,T,T,T,T,T,T,T,T,T,T,T,T,T,T,T,T,T,T,T,T,F,F,F,F,F,F,F,F,F,F,F,F,F,F,F,F] ?_
       refine bC (i:=24) (N:=some 108) (v:=undef) (a':=?_) #[T,T,T,T,T,T,T,T,T,T,T,T,T,T,T,T,T,T,T,T,T,T,T,T,T,F,F,F,F,F,F,F,F,F,F,F,F,F,F,F] rfl rfl (aY HT_.o (by kernel_rfl)) (fun _ _ _ h=>h) (Or.inr ⟨by rfl,rfl⟩) ?_ ?_
       rotate_left
       · simp only [Act.put,kX,kY,kZ,aI,aK]
         rfl
       refine bC (i:=25) (N:=some 109) (v:=undef) (a':=?_) #[T,T,T,T,T,T,T,T,T,T,T,T,T,T,T,T,T,T,T,T,T,T,T,T,T,T,F,F,F,F,F,F,F,F,F,F,F,F,F,F] rfl rfl (aY HT_.o (by kernel_rfl)) (fun _ _ _ h=>h) (Or.inr ⟨by rfl,rfl⟩) ?_ ?_
       rotate_left
       · simp only [Act.put,kX,kY,kZ,aI,aK]
         rfl
       refine bC (i:=26) (N:=some 110) (v:=undef) (a':=?_) #[T,T,T,T,T,T,T,T,T,T,T,T,T,T,T,T,T,T,T,T,T,T,T,T,T,T,T,F,F,F,F,F,F,F,F,F,F,F,F,F] rfl rfl (aY HT_.o (by kernel_rfl)) (fun _ _ _ h=>h) (Or.inr ⟨by rfl,rfl⟩) ?_ ?_
       rotate_left
       · simp only [Act.put,kX,kY,kZ,aI,aK]
         rfl
       refine bC (i:=27) (N:=some 111) (v:=undef) (a':=?_) #[T,T,T,T,T,T,T,T,T,T,T,T,T,T,T,T,T,T,T,T,T,T,T,T,T,T,T,T,F,F,F,F,F,F,F,F,F,F,F,F] rfl rfl (aY HT_.o (by kernel_rfl)) (fun _ _ _ h=>h) (Or.inr ⟨by rfl,rfl⟩) ?_ ?_
       rotate_left
       · simp only [Act.put,kX,kY,kZ,aI,aK]
         rfl
       refine bC (i:=28) (N:=some 112) (v:=undef) (a':=?_) #[T,T,T,T,T,T,T,T,T,T,T,T,T,T,T,T,T,T,T,T,T,T,T,T,T,T,T,T,T,F,F,F,F,F,F,F,F,F,F,F] rfl rfl (aY HT_.o (by kernel_rfl)) (fun _ _ _ h=>h) (Or.inr ⟨by rfl,rfl⟩) ?_ ?_
       rotate_left
       · simp only [Act.put,kX,kY,kZ,aI,aK]
         rfl
       refine bC (i:=29) (N:=some 113) (v:=undef) (a':=?_) #[T,T,T,T,T,T,T,T,T,T,T,T,T,T,T,T,T,T,T,T,T,T,T,T,T,T,T,T,T,T,F,F,F,F,F,F,F,F,F,F] rfl rfl (aY HT_.o (by kernel_rfl)) (fun _ _ _ h=>h) (Or.inr ⟨by rfl,rfl⟩) ?_ ?_
       rotate_left
       · simp only [Act.put,kX,kY,kZ,aI,aK]
         rfl
       refine bC (i:=30) (N:=some 114) (v:=undef) (a':=?_) #[T,T,T,T,T,T,T,T,T,T,T,T,T,T,T,T,T,T,T,T,T,T,T,T,T,T,T,T,T,T,T,F,F,F,F,F,F,F,F,F] rfl rfl (aY HT_.o (by kernel_rfl)) (fun _ _ _ h=>h) (Or.inr ⟨by rfl,rfl⟩) ?_ ?_
       rotate_left
       · simp only [Act.put,kX,kY,kZ,aI,aK]
         rfl
       refine bC (i:=31) (N:=some 115) (v:=undef) (a':=?_) #[T,T,T,T,T,T,T,T,T,T,T,T,T,T,T,T,T,T,T,T,T,T,T,T,T,T,T,T,T,T,T,T,F,F,F,F,F,F,F,F] rfl rfl (aY HT_.o (by kernel_rfl)) (fun _ _ _ h=>h) (Or.inr ⟨by rfl,rfl⟩) ?_ ?_
       rotate_left
       · simp only [Act.put,kX,kY,kZ,aI,aK]
         rfl
       refine bC (i:=32) (N:=some 116) (v:=undef) (a':=?_) #[T,T,T,T,T,T,T,T,T,T,T,T,T,T,T,T,T,T,T,T,T,T,T,T,T,T,T,T,T,T,T,T,T,F,F,F,F,F,F,F] rfl rfl (aY HT_.o (by kernel_rfl)) (fun _ _ _ h=>h) (Or.inr ⟨by rfl,rfl⟩) ?_ ?_
       rotate_left
       · simp only [Act.put,kX,kY,kZ,aI,aK]
         rfl
       refine bC (i:=33) (N:=some 117) (v:=undef) (a':=?_) #[T,T,T,T,T,T,T,T,T,T,T,T,T,T,T,T,T,T,T,T,T,T,T,T,T,T,T,T,T,T,T,T,T,T,F,F,F,F,F,F] rfl rfl (aY HT_.o (by kernel_rfl)) (fun _ _ _ h=>h) (Or.inr ⟨by rfl,rfl⟩) ?_ ?_
       rotate_left
       · simp only [Act.put,kX,kY,kZ,aI,aK]
         rfl
       refine pv HT_ 34 (some 118) #[T,T,T,T,T,T,T,T,T,T,T,T,T,T,T,T,T,T,T,T,T,T,T,T,T,T,T,T,T,T,T,T,T,T,T,F,F,F,F,F] ?_
       refine pv HT_ 35 (some 119) #[T,T,T,T,T,T,T,T,T,T,T,T,T,T,T,T,T,T,T,T,T,T,T,T,T,T,T,T,T,T,T,T,T,T,T,T,F,F,F,F] ?_
       refine bC (i:=36) (N:=some 120) (v:=undef) (a':=?_) #[T,T,T,T,T,T,T,T,T,T,T,T,T,T,T,T,T,T,T,T,T,T,T,T,T,T,T,T,T,T,T,T,T,T,T,T,T,F,F,F] rfl rfl (aY HT_.o (by kernel_rfl)) (fun _ _ _ h=>h) (Or.inr ⟨by rfl,rfl⟩) ?_ ?_
       rotate_left
       · simp only [Act.put,kX,kY,kZ,aI,aK]
         rfl
       refine bC (i:=37) (N:=some 121) (v:=undef) (a':=?_) #[T,T,T,T,T,T,T,T,T,T,T,T,T,T,T,T,T,T,T,T,T,T,T,T,T,T,T,T,T,T,T,T,T,T,T,T,T,T,F,F] rfl rfl (aY HT_.o (by kernel_rfl)) (fun _ _ _ h=>h) (Or.inr ⟨by rfl,rfl⟩) ?_ ?_
       rotate_left
       · simp only [Act.put,kX,kY,kZ,aI,aK]
         rfl
       refine bC (i:=38) (N:=some 122) (v:=undef) (a':=?_) #[T,T,T,T,T,T,T,T,T,T,T,T,T,T,T,T,T,T,T,T,T,T,T,T,T,T,T,T,T,T,T,T,T,T,T,T,T,T,T,F] rfl rfl (aY HT_.o (by kernel_rfl)) (fun _ _ _ h=>h) (Or.inr ⟨by rfl,rfl⟩) ?_ ?_
       rotate_left
       · simp only [Act.put,kX,kY,kZ,aI,aK]
         rfl
       refine pv HT_ 39 (some 123) #[T,T,T,T,T,T,T,T,T,T,T,T,T,T,T,T,T,T,T,T,T,T,T,T,T,T,T,T,T,T,T,T,T,T,T,T,T,T,T,T] ?_
       refine d5 (cL HT_.o (by kernel_rfl)) ?_
       have N1:=Ay.o
       have N2:=Ar.o
       have N3:=As.o
       have N4:=An.o
       have N5:=B6.o
       have N6:=At.o
       obtain ⟨Hs,Ht,Hu,Hv,Hw,Hx,Hy,Hz,I0,I1⟩:=cl5 A4.o
       try go_wp2_with (first|((with_reducible refine aQ (t:=26) (p:=2) rfl ?_);refine se 26 2 (s5 N0 Ad (.int .i64 0) (.int .i64 0) (.int .i64 0) (.int .i64 0) (.slice none 0 0)) ?_;intro I2 hw;have n_:=ak9 (sr5 hw Aa A4) (sr5 hw A3 A4) (show Kd.S k45 45 I2 w.heap.size (fun _=>True) Ah A8 by rw [hw];exact (by (with_reducible repeat (first|apply Kd.S_alloc|apply Kd.S_drewN|apply Kd.S_drew));exact Kd.S_mono (Kd.S_far (p:=⟨Ad,4,none⟩) (Kd.S_far (p:=⟨Ad,3,none⟩) (Kd.S_far (p:=⟨Ad,2,none⟩) (Kd.S_far (p:=⟨Ad,1,none⟩) (Kd.S_far (p:=⟨Ad,0,none⟩) (Kd.S_types A1.o A4.o (by decide)) (fun _ hk=>hk.2) (.int .i64 0)) (fun _ hk=>hk.2) (.int .i64 0)) (fun _ hk=>hk.2) (.int .i64 0)) (fun _ hk=>hk.2) (.int .i64 0)) (fun _ hk=>hk.2) (.slice none 0 0)) (fun _ hk=>trivial))) (show Kd.R (Kd.int .u8) 5 I2 w.heap.size (fun k_=>some k_≠(.slice Bd A9.length Be:Value).ownBlock∧some k_≠(.slice Bd A9.length Be:Value).ownBlock) (.slice B1 Ab.length B2) Ab by rw [hw];exact (by refine kr ?_;exact Kd.R_mono (rf5 Ad (.int .i64 0) (.int .i64 0) (.int .i64 0) (.int .i64 0) (.slice none 0 0) (Kd.R_types A2.o A4.o (by decide)) (fun _ hk=>hk.2)) (fun _ hk=>⟨hk.1.1,hk.1.2⟩))) (sc5 hw A4) (sf5 hw A5 Ar) (sf5 hw A6 An) (sf5 hw A7 At) (sb hw (bq4 HB.o Ac.o Ae.o Af.o Ai.o));clear hw Aa A3 A1 A2 A4 A5 A6 A7 HB;obtain ⟨Aa,A3,A1,A2,A4,A5,A6,A7,HB⟩:=n_))
       refine bodyPost_ret (dK rfl _ _ Ad 26 #[.int .i64 0,.int .i64 0,.int .i64 0,.int .i64 0,.slice none 0 0] (0,0) _ rfl (zq A4.o) Try.underlying26 rfl (by kernel_rfl)) rfl ?_
       exact ⟨_,rq,by first|exact Kd.S_nil _ _ _ _ _|exact Kd.N_nil _ _ _ _ _|exact Kd.V_nil _ _ _ _ _|exact Kd.Q_nil _ _ _ _ _|exact Kd.R_nil _ _ _ _ _,bq4 HB.o Ac.o Ae.o Af.o Ai.o⟩
     replace H:=iq' H
     rcases H with ⟨Qb,Ga,Gb,H⟩|⟨-,Ga,Gb,H⟩
     · simp only [k4,k5] at H
       obtain ⟨rfl,rfl,rfl,rfl,rfl,rfl⟩:=H
       try go_wp2
       have n_:=ak9 (Kd.R_drew Aa.o) (Kd.R_drew A3.o) (Kd.S_drew A1.o) (Kd.R_drew A2.o) (a7 A4.o) (a7 A5.o) (a7 A6.o) (a7 A7.o) (bB HB.o)
       clear Aa A3 A1 A2 A4 A5 A6 A7 HB
       obtain ⟨Aa,A3,A1,A2,A4,A5,A6,A7,HB⟩:=n_
       refine cW (n:=40) (S:=fun w'=>w'.cell? ⟨Ag,0,none⟩=some (.slice Bd A9.length Be)∧w'.cell? ⟨Ag,1,none⟩=some (.int .i64 B9)∧w'.cell? ⟨Ag,2,none⟩=some (.bool false)∧w'.cell? ⟨Bf,0,none⟩=some (.slice B1 Ab.length B2)∧w'.cell? ⟨Bf,1,none⟩=some (.int .i64 Ak)∧w'.cell? ⟨Bf,2,none⟩=some (.bool Au)) (ds:=[]) #[F,F,F,F,F,F,F,F,F,F,F,F,F,F,F,F,F,F,F,F,F,F,F,F,F,F,F,F,F,F,F,F,F,F,F,F,F,F,F,F] (by kernel_rfl) rfl rfl ⟨(aA A5.o 0).trans rfl,(aA A5.o 1).trans rfl,(aA A5.o 2).trans rfl,(aA A7.o 0).trans rfl,(aA A7.o 1).trans rfl,(aA A7.o 2).trans rfl⟩ (fun hHeld=>?_);refine bW aW.tab12 aW.bits12 (fun HT_ HW_=>?_)
       generalize wc.drew=N7 at Aa A3 A1 A2 A4 A5 A6 A7 HB hHeld ⊢
       refine pv HT_ 0 (some 84) #[T,F,F,F,F,F,F,F,F,F,F,F,F,F,F,F,F,F,F,F,F,F,F,F,F,F,F,F,F,F,F,F,F,F,F,F,F,F,F,F] ?_
       refine pv HT_ 1 (some 85) #[T,T,F,F,F,F,F,F,F,F,F,F,F,F,F,F,F,F,F,F,F,F,F,F,F,F,F,F,F,F,F,F,F,F,F,F,F,F,F,F] ?_
       refine pv HT_ 2 (some 86) #[T,T,T,F,F,F,F,F,F,F,F,F,F,F,F,F,F,F,F,F,F,F,F,F,F,F,F,F,F,F,F,F,F,F,F,F,F,F,F,F] ?_
       refine pv HT_ 3 (some 87) #[T,T,T,T,F,F,F,F,F,F,F,F,F,F,F,F,F,F,F,F,F,F,F,F,F,F,F,F,F,F,F,F,F,F,F,F,F,F,F,F] ?_
       refine pv HT_ 4 (some 88) #[T,T,T,T,T,F,F,F,F,F,F,F,F,F,F,F,F,F,F,F,F,F,F,F,F,F,F,F,F,F,F,F,F,F,F,F,F,F,F,F] ?_
       refine pv HT_ 5 (some 89) #[T,T,T,T,T,T,F,F,F,F,F,F,F,F,F,F,F,F,F,F,F,F,F,F,F,F,F,F,F,F,F,F,F,F,F,F,F,F,F,F] ?_
       refine pv HT_ 6 (some 90) #[T,T,T,T,T,T,T,F,F,F,F,F,F,F,F,F,F,F,F,F,F,F,F,F,F,F,F,F,F,F,F,F,F,F,F,F,F,F,F,F] ?_
       refine pv HT_ 7 (some 91) #[T,T,T,T,T,T,T,T,F,F,F,F,F,F,F,F,F,F,F,F,F,F,F,F,F,F,F,F,F,F,F,F,F,F,F,F,F,F,F,F] ?_
       refine pv HT_ 8 (some 92) #[T,T,T,T,T,T,T,T,T,F,F,F,F,F,F,F,F,F,F,F,F,F,F,F,F,F,F,F,F,F,F,F,F,F,F,F,F,F,F,F] ?_
       refine pv HT_ 9 (some 93) #[T,T,T,T,T,T,T,T,T,T,F,F,F,F,F,F,F,F,F,F,F,F,F,F,F,F,F,F,F,F,F,F,F,F,F,F,F,F,F,F] ?_
       refine pv HT_ 10 (some 94) #[T,T,T,T,T,T,T,T,T,T,T,F,F,F,F,F,F,F,F,F,F,F,F,F,F,F,F,F,F,F,F,F,F,F,F,F,F,F,F,F] ?_
       refine pv HT_ 11 (some 95) #[T,T,T,T,T,T,T,T,T,T,T,T,F,F,F,F,F,F,F,F,F,F,F,F,F,F,F,F,F,F,F,F,F,F,F,F,F,F,F,F] ?_
       refine tk 12 (some 96) #[T,T,T,T,T,T,T,T,T,T,T,T,T,F,F,F,F,F,F,F,F,F,F,F,F,F,F,F,F,F,F,F,F,F,F,F,F,F,F,F] rfl rfl (aZ HT_.o HW_.o (by kernel_rfl)) hHeld (Or.inl ⟨by rfl,by rintro w' ⟨s0,s1,s2,s3,s4,s5⟩;go_simp;with_reducible rfl⟩) ?_
       refine pv HT_ 13 (some 97) #[T,T,T,T,T,T,T,T,T,T,T,T,T,T,F,F,F,F,F,F,F,F,F,F,F,F,F,F,F,F,F,F,F,F,F,F,F,F,F,F] ?_
       refine pv HT_ 14 (some 98) #[T,T,T,T,T,T,T,T,T,T,T,T,T,T,T,F,F,F,F,F,F,F,F,F,F,F,F,F,F,F,F,F,F,F,F,F,F,F,F,F] ?_
       refine pv HT_ 15 (some 99) #[T,T,T,T,T,T,T,T,T,T,T,T,T,T,T,T,F,F,F,F,F,F,F,F,F,F,F,F,F,F,F,F,F,F,F,F,F,F,F,F] ?_
       refine pv HT_ 16 (some 100) #[T,T,T,T,T,T,T,T,T,T,T,T,T,T,T,T,T,F,F,F,F,F,F,F,F,F,F,F,F,F,F,F,F,F,F,F,F,F,F,F] ?_
       refine pv HT_ 17 (some 101) #[T,T,T,T,T,T,T,T,T,T,T,T,T,T,T,T,T,T,F,F,F,F,F,F,F,F,F,F,F,F,F,F,F,F,F,F,F,F,F,F] ?_
       refine pv HT_ 19 (some 103) #[T,T,T,T,T,T,T,T,T,T,T,T,T,T,T,T,T,T,F,T,F,F,F,F,F,F,F,F,F,F,F,F,F,F,F,F,F,F,F,F] ?_
       refine pv HT_ 20 (some 104) #[T,T,T,T,T,T,T,T,T,T,T,T,T,T,T,T,T,T,F,T,T,F,F,F,F,F,F,F,F,F,F,F,F,F,F,F,F,F,F,F] ?_
       refine tk 18 (some 102) #[T,T,T,T,T,T,T,T,T,T,T,T,T,T,T,T,T,T,T,T,T,F,F,F,F,F,F,F,F,F,F,F,F,F,F,F,F,F,F,F] rfl rfl (aZ HT_.o HW_.o (by kernel_rfl)) hHeld (Or.inl ⟨by rfl,by rintro w' ⟨s0,s1,s2,s3,s4,s5⟩;go_simp;with_reducible rfl⟩) ?_
       refine pv HT_ 21 (some 105) #[T,T,T,T,T,T,T,T,T,T,T,T,T,T,T,T,T,T,T,T,T,T,F,F,F,F,F,F,F,F,F,F,F,F,F,F,F,F,F,F] ?_
       refine pv HT_ 22 (some 106) #[T,T,T,T,T,T,T,T,T,T,T,T,T,T,T,T,T,T,T,T,T,T,T,F,F,F,F,F,F,F,F,F,F,F,F,F,F,F,F,F] ?_
       refine pv HT_ 23 (some 107) #[T,T,T,T,T,T,T,T,T,T,T,T,T,T,T,T,T,T,T,T,T,T,T,T,F,F,F,F,F,F,F,F,F,F,F,F,F,F,F,F] ?_
       refine pv HT_ 24 (some 108) #[T,T,T,T,T,T,T,T,T,T,T,T,T,T,T,T,T,T,T,T,T,T,T,T,T,F,F,F,F,F,F,F,F,F,F,F,F,F,F,F] ?_
       refine pv HT_ 25 (some 109) #[T,T,T,T,T,T,T,T,T,T,T,T,T,T,T,T,T,T,T,T,T,T,T,T,T,T,F,F,F,F,F,F,F,F,F,F,F,F,F,F] ?_
       refine pv HT_ 26 (some 110) #[T,T,T,T,T,T,T,T,T,T,T,T,T,T,T,T,T,T,T,T,T,T,T,T,T,T,T,F,F,F,F,F,F,F,F,F,F,F,F,F] ?_
       refine pv HT_ 28 (some 112) #[T,T,T,T,T,T,T,T,T,T,T,T,T,T,T,T,T,T,T,T,T,T,T,T,T,T,T,F,T,F,F,F,F,F,F,F,F,F,F,F] ?_
       refine pv HT_ 29 (some 113) #[T,T,T,T,T,T,T,T,T,T,T,T,T,T,T,T,T,T,T,T,T,T,T,T,T,T,T,F,T,T,F,F,F,F,F,F,F,F,F,F] ?_
       refine pv HT_ 30 (some 114) #[T,T,T,T,T,T,T,T,T,T,T,T,T,T,T,T,T,T,T,T,T,T,T,T,T,T,T,F,T,T,T,F,F,F,F,F,F,F,F,F] ?_
       refine tk 27 (some 111) #[T,T,T,T,T,T,T,T,T,T,T,T,T,T,T,T,T,T,T,T,T,T,T,T,T,T,T,T,T,T,T,F,F,F,F,F,F,F,F,F] rfl rfl (aZ HT_.o HW_.o (by kernel_rfl)) hHeld (Or.inl ⟨by rfl,by rintro w' ⟨s0,s1,s2,s3,s4,s5⟩;go_simp;with_reducible rfl⟩) ?_
       refine tk 31 (some 115) #[T,T,T,T,T,T,T,T,T,T,T,T,T,T,T,T,T,T,T,T,T,T,T,T,T,T,T,T,T,T,T,T,F,F,F,F,F,F,F,F] rfl rfl (aZ HT_.o HW_.o (by kernel_rfl)) hHeld (Or.inl ⟨by rfl,by rintro w' ⟨s0,s1,s2,s3,s4,s5⟩;go_simp;with_reducible rfl⟩) ?_
       refine pv HT_ 32 (some 116) #[T,T,T,T,T,T,T,T,T,T,T,T,T,T,T,T,T,T,T,T,T,T,T,T,T,T,T,T,T,T,T,T,T,F,F,F,F,F,F,F] ?_
       refine pv HT_ 33 (some 117) #[T,T,T,T,T,T,T,T,T,T,T,T,T,T,T,T,T,T,T,T,T,T,T,T,T,T,T,T,T,T,T,T,T,T,F,F,F,F,F,F] ?_
       refine pv HT_ 34 (some 118) #[T,T,T,T,T,T,T,T,T,T,T,T,T,T,T,T,T,T,T,T,T,T,T,T,T,T,T,T,T,T,T,T,T,T,T,F,F,F,F,F] ?_
       refine pv HT_ 35 (some 119) #[T,T,T,T,T,T,T,T,T,T,T,T,T,T,T,T,T,T,T,T,T,T,T,T,T,T,T,T,T,T,T,T,T,T,T,T,F,F,F,F] ?_
       refine bC (i:=36) (N:=some 120) (v:=undef) (a':=?_) #[T,T,T,T,T,T,T,T,T,T,T,T,T,T,T,T,T,T,T,T,T,T,T,T,T,T,T,T,T,T,T,T,T,T,T,T,T,F,F,F] rfl rfl (aY HT_.o (by kernel_rfl)) (fun _ _ _ h=>h) (Or.inr ⟨by rfl,rfl⟩) ?_ ?_
       rotate_left
       · simp only [Act.put,kX,kY,kZ,aI,aK]
         rfl
       refine bC (i:=37) (N:=some 121) (v:=undef) (a':=?_) #[T,T,T,T,T,T,T,T,T,T,T,T,T,T,T,T,T,T,T,T,T,T,T,T,T,T,T,T,T,T,T,T,T,T,T,T,T,T,F,F] rfl rfl (aY HT_.o (by kernel_rfl)) (fun _ _ _ h=>h) (Or.inr ⟨by rfl,rfl⟩) ?_ ?_
       rotate_left
       · simp only [Act.put,kX,kY,kZ,aI,aK]
         rfl
       refine bC (i:=38) (N:=some 122) (v:=undef) (a':=?_) #[T,T,T,T,T,T,T,T,T,T,T,T,T,T,T,T,T,T,T,T,T,T,T,T,T,T,T,T,T,T,T,T,T,T,T,T,T,T,T,F] rfl rfl (aY HT_.o (by kernel_rfl)) (fun _ _ _ h=>h) (Or.inr ⟨by rfl,rfl⟩) ?_ ?_
       rotate_left
       · simp only [Act.put,kX,kY,kZ,aI,aK]
         rfl
       refine pv HT_ 39 (some 123) #[T,T,T,T,T,T,T,T,T,T,T,T,T,T,T,T,T,T,T,T,T,T,T,T,T,T,T,T,T,T,T,T,T,T,T,T,T,T,T,T] ?_
       refine d5 (cL HT_.o (by kernel_rfl)) ?_
       have N8:=Ay.o
       have N9:=Ar.o
       have Na:=As.o
       have Nb:=An.o
       have Nc:=B6.o
       have Nd:=At.o
       obtain ⟨I3,I4,I5,I6,I7,I8,I9,Ia,Ib,Ic⟩:=cl5 A4.o
       try go_wp2_with (first|((with_reducible refine aQ (t:=26) (p:=2) rfl ?_);refine se 26 2 (s5 N7 Ad (.int .i64 0) (.int .i64 0) (.int .i64 0) (.int .i64 0) (.slice none 0 0)) ?_;intro Id hw;have n_:=ak9 (sr5 hw Aa A4) (sr5 hw A3 A4) (show Kd.S k45 45 Id w.heap.size (fun _=>True) Ah A8 by rw [hw];exact (by (with_reducible repeat (first|apply Kd.S_alloc|apply Kd.S_drewN|apply Kd.S_drew));exact Kd.S_mono (Kd.S_far (p:=⟨Ad,4,none⟩) (Kd.S_far (p:=⟨Ad,3,none⟩) (Kd.S_far (p:=⟨Ad,2,none⟩) (Kd.S_far (p:=⟨Ad,1,none⟩) (Kd.S_far (p:=⟨Ad,0,none⟩) (Kd.S_types A1.o A4.o (by decide)) (fun _ hk=>hk.2) (.int .i64 0)) (fun _ hk=>hk.2) (.int .i64 0)) (fun _ hk=>hk.2) (.int .i64 0)) (fun _ hk=>hk.2) (.int .i64 0)) (fun _ hk=>hk.2) (.slice none 0 0)) (fun _ hk=>trivial))) (show Kd.R (Kd.int .u8) 5 Id w.heap.size (fun k_=>some k_≠(.slice Bd A9.length Be:Value).ownBlock∧some k_≠(.slice Bd A9.length Be:Value).ownBlock) (.slice B1 Ab.length B2) Ab by rw [hw];exact (by refine kr ?_;exact Kd.R_mono (rf5 Ad (.int .i64 0) (.int .i64 0) (.int .i64 0) (.int .i64 0) (.slice none 0 0) (Kd.R_types A2.o A4.o (by decide)) (fun _ hk=>hk.2)) (fun _ hk=>⟨hk.1.1,hk.1.2⟩))) (sc5 hw A4) (sf5 hw A5 Ar) (sf5 hw A6 An) (sf5 hw A7 At) (sb hw (bq4 HB.o Ac.o Ae.o Af.o Ai.o));clear hw Aa A3 A1 A2 A4 A5 A6 A7 HB;obtain ⟨Aa,A3,A1,A2,A4,A5,A6,A7,HB⟩:=n_))
       refine bodyPost_ret (dK rfl _ _ Ad 26 #[.int .i64 0,.int .i64 0,.int .i64 0,.int .i64 0,.slice none 0 0] (0,0) _ rfl (zq A4.o) Try.underlying26 rfl (by kernel_rfl)) rfl ?_
       exact ⟨_,rq,by first|exact Kd.S_nil _ _ _ _ _|exact Kd.N_nil _ _ _ _ _|exact Kd.V_nil _ _ _ _ _|exact Kd.Q_nil _ _ _ _ _|exact Kd.R_nil _ _ _ _ _,bq4 HB.o Ac.o Ae.o Af.o Ai.o⟩
     replace H:=be H
     obtain ⟨Cq,Po,H⟩:=H
     cases Cq
     · replace H:=iF H
       simp only [k4,k5] at H
       obtain ⟨rfl,rfl,rfl,rfl,rfl,rfl⟩:=H
       try go_wp2
       have n_:=ak9 (Kd.R_drew Aa.o) (Kd.R_drew A3.o) (Kd.S_drew A1.o) (Kd.R_drew A2.o) (a7 A4.o) (a7 A5.o) (a7 A6.o) (a7 A7.o) (bB HB.o)
       clear Aa A3 A1 A2 A4 A5 A6 A7 HB
       obtain ⟨Aa,A3,A1,A2,A4,A5,A6,A7,HB⟩:=n_
       obtain ⟨Dg,Dh,G2⟩:=Kd.S_slice A1.o
       (first|subst G2|(injection G2 with Ez Gj G0;have Gk:=Ez.symm;have Gl:=G0.symm;clear Ez Gj G0;subst Gk;subst Gl))
       refine cW (n:=40) (S:=fun w'=>w'.cell? ⟨Ag,0,none⟩=some (.slice Bd A9.length Be)∧w'.cell? ⟨Ag,1,none⟩=some (.int .i64 B9)∧w'.cell? ⟨Ag,2,none⟩=some (.bool false)∧w'.cell? ⟨Bf,0,none⟩=some (.slice B1 Ab.length B2)∧w'.cell? ⟨Bf,1,none⟩=some (.int .i64 Ak)∧w'.cell? ⟨Bf,2,none⟩=some (.bool Au)∧w'.cell? ⟨Aq,0,none⟩=some (.int .i64 Av)∧w'.cell? ⟨Aq,1,none⟩=some (.int .i64 Aw)∧w'.cell? ⟨Aq,2,none⟩=some (.int .i64 Az)∧w'.cell? ⟨Aq,3,none⟩=some (.int .i64 B0)∧w'.cell? ⟨Aq,4,none⟩=some (.slice Dg A8.length Dh)) (ds:=[]) #[F,F,F,F,F,F,F,F,F,F,F,F,F,F,F,F,F,F,F,F,F,F,F,F,F,F,F,F,F,F,F,F,F,F,F,F,F,F,F,F] (by kernel_rfl) rfl rfl ⟨(aA A5.o 0).trans rfl,(aA A5.o 1).trans rfl,(aA A5.o 2).trans rfl,(aA A7.o 0).trans rfl,(aA A7.o 1).trans rfl,(aA A7.o 2).trans rfl,(aA A6.o 0).trans rfl,(aA A6.o 1).trans rfl,(aA A6.o 2).trans rfl,(aA A6.o 3).trans rfl,(aA A6.o 4).trans rfl⟩ (fun hHeld=>?_);refine bW aW.tab12 aW.bits12 (fun HT_ HW_=>?_)
       generalize wc.drew=Qc at Aa A3 A1 A2 A4 A5 A6 A7 HB hHeld ⊢
       refine pv HT_ 0 (some 84) #[T,F,F,F,F,F,F,F,F,F,F,F,F,F,F,F,F,F,F,F,F,F,F,F,F,F,F,F,F,F,F,F,F,F,F,F,F,F,F,F] ?_
       refine pv HT_ 1 (some 85) #[T,T,F,F,F,F,F,F,F,F,F,F,F,F,F,F,F,F,F,F,F,F,F,F,F,F,F,F,F,F,F,F,F,F,F,F,F,F,F,F] ?_
       refine pv HT_ 2 (some 86) #[T,T,T,F,F,F,F,F,F,F,F,F,F,F,F,F,F,F,F,F,F,F,F,F,F,F,F,F,F,F,F,F,F,F,F,F,F,F,F,F] ?_
       refine pv HT_ 3 (some 87) #[T,T,T,T,F,F,F,F,F,F,F,F,F,F,F,F,F,F,F,F,F,F,F,F,F,F,F,F,F,F,F,F,F,F,F,F,F,F,F,F] ?_
       refine pv HT_ 4 (some 88) #[T,T,T,T,T,F,F,F,F,F,F,F,F,F,F,F,F,F,F,F,F,F,F,F,F,F,F,F,F,F,F,F,F,F,F,F,F,F,F,F] ?_
       refine pv HT_ 5 (some 89) #[T,T,T,T,T,T,F,F,F,F,F,F,F,F,F,F,F,F,F,F,F,F,F,F,F,F,F,F,F,F,F,F,F,F,F,F,F,F,F,F] ?_
       refine pv HT_ 6 (some 90) #[T,T,T,T,T,T,T,F,F,F,F,F,F,F,F,F,F,F,F,F,F,F,F,F,F,F,F,F,F,F,F,F,F,F,F,F,F,F,F,F] ?_
       refine pv HT_ 7 (some 91) #[T,T,T,T,T,T,T,T,F,F,F,F,F,F,F,F,F,F,F,F,F,F,F,F,F,F,F,F,F,F,F,F,F,F,F,F,F,F,F,F] ?_
       refine pv HT_ 8 (some 92) #[T,T,T,T,T,T,T,T,T,F,F,F,F,F,F,F,F,F,F,F,F,F,F,F,F,F,F,F,F,F,F,F,F,F,F,F,F,F,F,F] ?_
       refine pv HT_ 9 (some 93) #[T,T,T,T,T,T,T,T,T,T,F,F,F,F,F,F,F,F,F,F,F,F,F,F,F,F,F,F,F,F,F,F,F,F,F,F,F,F,F,F] ?_
       refine pv HT_ 10 (some 94) #[T,T,T,T,T,T,T,T,T,T,T,F,F,F,F,F,F,F,F,F,F,F,F,F,F,F,F,F,F,F,F,F,F,F,F,F,F,F,F,F] ?_
       refine pv HT_ 11 (some 95) #[T,T,T,T,T,T,T,T,T,T,T,T,F,F,F,F,F,F,F,F,F,F,F,F,F,F,F,F,F,F,F,F,F,F,F,F,F,F,F,F] ?_
       refine tk 12 (some 96) #[T,T,T,T,T,T,T,T,T,T,T,T,T,F,F,F,F,F,F,F,F,F,F,F,F,F,F,F,F,F,F,F,F,F,F,F,F,F,F,F] rfl rfl (aZ HT_.o HW_.o (by kernel_rfl)) hHeld (Or.inl ⟨by rfl,by rintro w' ⟨s0,s1,s2,s3,s4,s5,s6,s7,s8,s9,Cs⟩;go_simp;with_reducible rfl⟩) ?_
       refine pv HT_ 13 (some 97) #[T,T,T,T,T,T,T,T,T,T,T,T,T,T,F,F,F,F,F,F,F,F,F,F,F,F,F,F,F,F,F,F,F,F,F,F,F,F,F,F] ?_
       refine pv HT_ 14 (some 98) #[T,T,T,T,T,T,T,T,T,T,T,T,T,T,T,F,F,F,F,F,F,F,F,F,F,F,F,F,F,F,F,F,F,F,F,F,F,F,F,F] ?_
       refine pv HT_ 15 (some 99) #[T,T,T,T,T,T,T,T,T,T,T,T,T,T,T,T,F,F,F,F,F,F,F,F,F,F,F,F,F,F,F,F,F,F,F,F,F,F,F,F] ?_
       refine pv HT_ 16 (some 100) #[T,T,T,T,T,T,T,T,T,T,T,T,T,T,T,T,T,F,F,F,F,F,F,F,F,F,F,F,F,F,F,F,F,F,F,F,F,F,F,F] ?_
       refine pv HT_ 17 (some 101) #[T,T,T,T,T,T,T,T,T,T,T,T,T,T,T,T,T,T,F,F,F,F,F,F,F,F,F,F,F,F,F,F,F,F,F,F,F,F,F,F] ?_
       refine pv HT_ 19 (some 103) #[T,T,T,T,T,T,T,T,T,T,T,T,T,T,T,T,T,T,F,T,F,F,F,F,F,F,F,F,F,F,F,F,F,F,F,F,F,F,F,F] ?_
       refine pv HT_ 20 (some 104) #[T,T,T,T,T,T,T,T,T,T,T,T,T,T,T,T,T,T,F,T,T,F,F,F,F,F,F,F,F,F,F,F,F,F,F,F,F,F,F,F] ?_
       refine tk 18 (some 102) #[T,T,T,T,T,T,T,T,T,T,T,T,T,T,T,T,T,T,T,T,T,F,F,F,F,F,F,F,F,F,F,F,F,F,F,F,F,F,F,F] rfl rfl (aZ HT_.o HW_.o (by kernel_rfl)) hHeld (Or.inl ⟨by rfl,by rintro w' ⟨s0,s1,s2,s3,s4,s5,s6,s7,s8,s9,Cs⟩;go_simp;with_reducible rfl⟩) ?_
       refine pv HT_ 21 (some 105) #[T,T,T,T,T,T,T,T,T,T,T,T,T,T,T,T,T,T,T,T,T,T,F,F,F,F,F,F,F,F,F,F,F,F,F,F,F,F,F,F] ?_
       refine pv HT_ 22 (some 106) #[T,T,T,T,T,T,T,T,T,T,T,T,T,T,T,T,T,T,T,T,T,T,T,F,F,F,F,F,F,F,F,F,F,F,F,F,F,F,F,F] ?_
       refine pv HT_ 23 (some 107) #[T,T,T,T,T,T,T,T,T,T,T,T,T,T,T,T,T,T,T,T,T,T,T,T,F,F,F,F,F,F,F,F,F,F,F,F,F,F,F,F] ?_
       refine pv HT_ 24 (some 108) #[T,T,T,T,T,T,T,T,T,T,T,T,T,T,T,T,T,T,T,T,T,T,T,T,T,F,F,F,F,F,F,F,F,F,F,F,F,F,F,F] ?_
       refine pv HT_ 25 (some 109) #[T,T,T,T,T,T,T,T,T,T,T,T,T,T,T,T,T,T,T,T,T,T,T,T,T,T,F,F,F,F,F,F,F,F,F,F,F,F,F,F] ?_
       refine pv HT_ 26 (some 110) #[T,T,T,T,T,T,T,T,T,T,T,T,T,T,T,T,T,T,T,T,T,T,T,T,T,T,T,F,F,F,F,F,F,F,F,F,F,F,F,F] ?_
       refine pv HT_ 28 (some 112) #[T,T,T,T,T,T,T,T,T,T,T,T,T,T,T,T,T,T,T,T,T,T,T,T,T,T,T,F,T,F,F,F,F,F,F,F,F,F,F,F] ?_
       refine pv HT_ 29 (some 113) #[T,T,T,T,T,T,T,T,T,T,T,T,T,T,T,T,T,T,T,T,T,T,T,T,T,T,T,F,T,T,F,F,F,F,F,F,F,F,F,F] ?_
       refine pv HT_ 30 (some 114) #[T,T,T,T,T,T,T,T,T,T,T,T,T,T,T,T,T,T,T,T,T,T,T,T,T,T,T,F,T,T,T,F,F,F,F,F,F,F,F,F] ?_
       refine tk 27 (some 111) #[T,T,T,T,T,T,T,T,T,T,T,T,T,T,T,T,T,T,T,T,T,T,T,T,T,T,T,T,T,T,T,F,F,F,F,F,F,F,F,F] rfl rfl (aZ HT_.o HW_.o (by kernel_rfl)) hHeld (Or.inl ⟨by rfl,by rintro w' ⟨s0,s1,s2,s3,s4,s5,s6,s7,s8,s9,Cs⟩;go_simp;with_reducible rfl⟩) ?_
       refine tk 31 (some 115) #[T,T,T,T,T,T,T,T,T,T,T,T,T,T,T,T,T,T,T,T,T,T,T,T,T,T,T,T,T,T,T,T,F,F,F,F,F,F,F,F] rfl rfl (aZ HT_.o HW_.o (by kernel_rfl)) hHeld (Or.inl ⟨by rfl,by rintro w' ⟨s0,s1,s2,s3,s4,s5,s6,s7,s8,s9,Cs⟩;go_simp;with_reducible rfl⟩) ?_
       refine pv HT_ 32 (some 116) #[T,T,T,T,T,T,T,T,T,T,T,T,T,T,T,T,T,T,T,T,T,T,T,T,T,T,T,T,T,T,T,T,T,F,F,F,F,F,F,F] ?_
       refine pv HT_ 33 (some 117) #[T,T,T,T,T,T,T,T,T,T,T,T,T,T,T,T,T,T,T,T,T,T,T,T,T,T,T,T,T,T,T,T,T,T,F,F,F,F,F,F] ?_
       refine pv HT_ 34 (some 118) #[T,T,T,T,T,T,T,T,T,T,T,T,T,T,T,T,T,T,T,T,T,T,T,T,T,T,T,T,T,T,T,T,T,T,T,F,F,F,F,F] ?_
       refine pv HT_ 35 (some 119) #[T,T,T,T,T,T,T,T,T,T,T,T,T,T,T,T,T,T,T,T,T,T,T,T,T,T,T,T,T,T,T,T,T,T,T,T,F,F,F,F] ?_
       refine tk 36 (some 120) #[T,T,T,T,T,T,T,T,T,T,T,T,T,T,T,T,T,T,T,T,T,T,T,T,T,T,T,T,T,T,T,T,T,T,T,T,T,F,F,F] rfl rfl (aZ HT_.o HW_.o (by kernel_rfl)) hHeld (Or.inl ⟨by rfl,by rintro w' ⟨s0,s1,s2,s3,s4,s5,s6,s7,s8,s9,Cs⟩;go_simp;with_reducible rfl⟩) ?_
       refine dM (i:=37) (N:=some 121) #[T,T,T,T,T,T,T,T,T,T,T,T,T,T,T,T,T,T,T,T,T,T,T,T,T,T,T,T,T,T,T,T,T,T,T,T,T,T,F,F] rfl rfl (bS HT_.o (by kernel_rfl)) (by decide) (fun K hK=>?_)
       refine cU Try.func35 (by kernel_rfl) rfl #[.agg #[.int .i64 Av,.int .i64 Aw,.int .i64 Az,.int .i64 B0,.slice Dg A8.length Dh]] (by rfl) rfl rfl ga ?_
       with_reducible refine (cF.calls C3 Av Aw Az B0 _ _ A8 false _ ?side1 ?side2 Po.o).mono ?_
       (case side1=>repeat (first|exact (Kd.S_reads' A1.o).2.2|(with_reducible refine Kd.C_alloc ?_ _)|(with_reducible refine Kd.C_drewN ?_ _)|(with_reducible refine Kd.C_drew ?_)))
       (case side2=>exact (Kd.S_reads' A1.o).2.1)
       rintro e Ne ⟨rfl,hb⟩
       refine ⟨_,rfl,?_⟩
       have n_:=ak9 (rb Aa hb) (rb A3 hb) (Kd.S_below (kqS A1.o) hb) (rb A2 hb) (kb A4 hb) (kb A5 hb) (kb A6 hb) (kb A7 hb) (aC (bq4 HB.o Ac.o Ae.o Af.o Ai.o) hb)
       clear Aa A3 A1 A2 A4 A5 A6 A7 HB
       obtain ⟨Aa,A3,A1,A2,A4,A5,A6,A7,HB⟩:=n_
       (try clear hb)
       refine hK.out _ _ ⟨(aA A5.o 0).trans rfl,(aA A5.o 1).trans rfl,(aA A5.o 2).trans rfl,(aA A7.o 0).trans rfl,(aA A7.o 1).trans rfl,(aA A7.o 2).trans rfl,(aA A6.o 0).trans rfl,(aA A6.o 1).trans rfl,(aA A6.o 2).trans rfl,(aA A6.o 3).trans rfl,(aA A6.o 4).trans rfl⟩ (fun hHeld=>?_)
       clear hK K
       refine bZ (a':=?_) ?_ ?_
       rotate_left
       · show Act.put _ (some 121) _=_
         simp only [Act.put,kX,kY,kZ,aI,aK]
         rfl
       refine pv HT_ 38 (some 122) #[T,T,T,T,T,T,T,T,T,T,T,T,T,T,T,T,T,T,T,T,T,T,T,T,T,T,T,T,T,T,T,T,T,T,T,T,T,T,T,F] ?_
       refine pv HT_ 39 (some 123) #[T,T,T,T,T,T,T,T,T,T,T,T,T,T,T,T,T,T,T,T,T,T,T,T,T,T,T,T,T,T,T,T,T,T,T,T,T,T,T,T] ?_
       refine d5 (cL HT_.o (by kernel_rfl)) ?_
       have Nf:=Ay.o
       have Ng:=Ar.o
       have Nh:=As.o
       have Ni:=An.o
       have Nj:=B6.o
       have Nk:=At.o
       obtain ⟨Ie,If,Ig,Ih,Ii,Ij,Ik,Il,Im,In⟩:=cl5 A4.o
       try go_wp2_with (first|((with_reducible refine aQ (t:=26) (p:=2) rfl ?_);refine se 26 2 (s5 Ne Ad (.int .i64 0) (.int .i64 0) (.int .i64 0) (.int .i64 0) (.slice none 0 0)) ?_;intro Io hw;have n_:=ak9 (sr5 hw Aa A4) (sr5 hw A3 A4) (show Kd.S k45 45 Io w.heap.size (fun _=>True) (.slice Dg A8.length Dh) A8 by rw [hw];exact (by (with_reducible repeat (first|apply Kd.S_alloc|apply Kd.S_drewN|apply Kd.S_drew));exact Kd.S_mono (Kd.S_far (p:=⟨Ad,4,none⟩) (Kd.S_far (p:=⟨Ad,3,none⟩) (Kd.S_far (p:=⟨Ad,2,none⟩) (Kd.S_far (p:=⟨Ad,1,none⟩) (Kd.S_far (p:=⟨Ad,0,none⟩) (Kd.S_types A1.o A4.o (by decide)) (fun _ hk=>hk.2) (.int .i64 0)) (fun _ hk=>hk.2) (.int .i64 0)) (fun _ hk=>hk.2) (.int .i64 0)) (fun _ hk=>hk.2) (.int .i64 0)) (fun _ hk=>hk.2) (.slice none 0 0)) (fun _ hk=>trivial))) (show Kd.R (Kd.int .u8) 5 Io w.heap.size (fun k_=>some k_≠(.slice Bd A9.length Be:Value).ownBlock∧some k_≠(.slice Bd A9.length Be:Value).ownBlock) (.slice B1 Ab.length B2) Ab by rw [hw];exact (by refine kr ?_;exact Kd.R_mono (rf5 Ad (.int .i64 0) (.int .i64 0) (.int .i64 0) (.int .i64 0) (.slice none 0 0) (Kd.R_types A2.o A4.o (by decide)) (fun _ hk=>hk.2)) (fun _ hk=>⟨hk.1.1,hk.1.2⟩))) (sc5 hw A4) (sf5 hw A5 Ar) (sf5 hw A6 An) (sf5 hw A7 At) (sb hw (bq4 HB.o Ac.o Ae.o Af.o Ai.o));clear hw Aa A3 A1 A2 A4 A5 A6 A7 HB;obtain ⟨Aa,A3,A1,A2,A4,A5,A6,A7,HB⟩:=n_))
       refine bodyPost_ret (dK rfl _ _ Ad 26 #[.int .i64 0,.int .i64 0,.int .i64 0,.int .i64 0,.slice none 0 0] (0,0) _ rfl (zq A4.o) Try.underlying26 rfl (by kernel_rfl)) rfl ?_
       exact ⟨_,rq,by first|exact Kd.S_nil _ _ _ _ _|exact Kd.N_nil _ _ _ _ _|exact Kd.V_nil _ _ _ _ _|exact Kd.Q_nil _ _ _ _ _|exact Kd.R_nil _ _ _ _ _,bq4 HB.o Ac.o Ae.o Af.o Ai.o⟩
     replace H:=iT H
     simp only [k4,k5] at H
     obtain ⟨rfl,rfl,rfl,rfl,rfl,rfl⟩:=H
     try go_wp2
     have n_:=ak9 (Kd.R_drew Aa.o) (Kd.R_drew A3.o) (Kd.S_drew A1.o) (Kd.R_drew A2.o) (a7 A4.o) (a7 A5.o) (a7 A6.o) (a7 A7.o) (bB HB.o)
     clear Aa A3 A1 A2 A4 A5 A6 A7 HB
     obtain ⟨Aa,A3,A1,A2,A4,A5,A6,A7,HB⟩:=n_
     obtain ⟨C9,Ca,G3⟩:=Kd.S_slice A1.o
     (first|subst G3|(injection G3 with Ez Gj G0;have Gk:=Ez.symm;have Gl:=G0.symm;clear Ez Gj G0;subst Gk;subst Gl))
     refine cW (n:=40) (S:=fun w'=>w'.cell? ⟨Ag,0,none⟩=some (.slice Bd A9.length Be)∧w'.cell? ⟨Ag,1,none⟩=some (.int .i64 B9)∧w'.cell? ⟨Ag,2,none⟩=some (.bool false)∧w'.cell? ⟨Bf,0,none⟩=some (.slice B1 Ab.length B2)∧w'.cell? ⟨Bf,1,none⟩=some (.int .i64 Ak)∧w'.cell? ⟨Bf,2,none⟩=some (.bool Au)∧w'.cell? ⟨Aq,0,none⟩=some (.int .i64 Av)∧w'.cell? ⟨Aq,1,none⟩=some (.int .i64 Aw)∧w'.cell? ⟨Aq,2,none⟩=some (.int .i64 Az)∧w'.cell? ⟨Aq,3,none⟩=some (.int .i64 B0)∧w'.cell? ⟨Aq,4,none⟩=some (.slice C9 A8.length Ca)) (ds:=[]) #[F,F,F,F,F,F,F,F,F,F,F,F,F,F,F,F,F,F,F,F,F,F,F,F,F,F,F,F,F,F,F,F,F,F,F,F,F,F,F,F] (by kernel_rfl) rfl rfl ⟨(aA A5.o 0).trans rfl,(aA A5.o 1).trans rfl,(aA A5.o 2).trans rfl,(aA A7.o 0).trans rfl,(aA A7.o 1).trans rfl,(aA A7.o 2).trans rfl,(aA A6.o 0).trans rfl,(aA A6.o 1).trans rfl,(aA A6.o 2).trans rfl,(aA A6.o 3).trans rfl,(aA A6.o 4).trans rfl⟩ (fun hHeld=>?_);refine bW aW.tab12 aW.bits12 (fun HT_ HW_=>?_)
     generalize wc.drew=Qd at Aa A3 A1 A2 A4 A5 A6 A7 HB hHeld ⊢
     refine pv HT_ 0 (some 84) #[T,F,F,F,F,F,F,F,F,F,F,F,F,F,F,F,F,F,F,F,F,F,F,F,F,F,F,F,F,F,F,F,F,F,F,F,F,F,F,F] ?_
     refine pv HT_ 1 (some 85) #[T,T,F,F,F,F,F,F,F,F,F,F,F,F,F,F,F,F,F,F,F,F,F,F,F,F,F,F,F,F,F,F,F,F,F,F,F,F,F,F] ?_
     refine pv HT_ 2 (some 86) #[T,T,T,F,F,F,F,F,F,F,F,F,F,F,F,F,F,F,F,F,F,F,F,F,F,F,F,F,F,F,F,F,F,F,F,F,F,F,F,F] ?_
     refine pv HT_ 3 (some 87) #[T,T,T,T,F,F,F,F,F,F,F,F,F,F,F,F,F,F,F,F,F,F,F,F,F,F,F,F,F,F,F,F,F,F,F,F,F,F,F,F] ?_
     refine pv HT_ 4 (some 88) #[T,T,T,T,T,F,F,F,F,F,F,F,F,F,F,F,F,F,F,F,F,F,F,F,F,F,F,F,F,F,F,F,F,F,F,F,F,F,F,F] ?_
     refine pv HT_ 5 (some 89) #[T,T,T,T,T,T,F,F,F,F,F,F,F,F,F,F,F,F,F,F,F,F,F,F,F,F,F,F,F,F,F,F,F,F,F,F,F,F,F,F] ?_
     refine pv HT_ 6 (some 90) #[T,T,T,T,T,T,T,F,F,F,F,F,F,F,F,F,F,F,F,F,F,F,F,F,F,F,F,F,F,F,F,F,F,F,F,F,F,F,F,F] ?_
     refine pv HT_ 7 (some 91) #[T,T,T,T,T,T,T,T,F,F,F,F,F,F,F,F,F,F,F,F,F,F,F,F,F,F,F,F,F,F,F,F,F,F,F,F,F,F,F,F] ?_
     refine pv HT_ 8 (some 92) #[T,T,T,T,T,T,T,T,T,F,F,F,F,F,F,F,F,F,F,F,F,F,F,F,F,F,F,F,F,F,F,F,F,F,F,F,F,F,F,F] ?_
     refine pv HT_ 9 (some 93) #[T,T,T,T,T,T,T,T,T,T,F,F,F,F,F,F,F,F,F,F,F,F,F,F,F,F,F,F,F,F,F,F,F,F,F,F,F,F,F,F] ?_
     refine pv HT_ 10 (some 94) #[T,T,T,T,T,T,T,T,T,T,T,F,F,F,F,F,F,F,F,F,F,F,F,F,F,F,F,F,F,F,F,F,F,F,F,F,F,F,F,F] ?_
     refine pv HT_ 11 (some 95) #[T,T,T,T,T,T,T,T,T,T,T,T,F,F,F,F,F,F,F,F,F,F,F,F,F,F,F,F,F,F,F,F,F,F,F,F,F,F,F,F] ?_
     refine tk 12 (some 96) #[T,T,T,T,T,T,T,T,T,T,T,T,T,F,F,F,F,F,F,F,F,F,F,F,F,F,F,F,F,F,F,F,F,F,F,F,F,F,F,F] rfl rfl (aZ HT_.o HW_.o (by kernel_rfl)) hHeld (Or.inl ⟨by rfl,by rintro w' ⟨s0,s1,s2,s3,s4,s5,s6,s7,s8,s9,Cs⟩;go_simp;with_reducible rfl⟩) ?_
     refine pv HT_ 13 (some 97) #[T,T,T,T,T,T,T,T,T,T,T,T,T,T,F,F,F,F,F,F,F,F,F,F,F,F,F,F,F,F,F,F,F,F,F,F,F,F,F,F] ?_
     refine pv HT_ 14 (some 98) #[T,T,T,T,T,T,T,T,T,T,T,T,T,T,T,F,F,F,F,F,F,F,F,F,F,F,F,F,F,F,F,F,F,F,F,F,F,F,F,F] ?_
     refine pv HT_ 15 (some 99) #[T,T,T,T,T,T,T,T,T,T,T,T,T,T,T,T,F,F,F,F,F,F,F,F,F,F,F,F,F,F,F,F,F,F,F,F,F,F,F,F] ?_
     refine pv HT_ 16 (some 100) #[T,T,T,T,T,T,T,T,T,T,T,T,T,T,T,T,T,F,F,F,F,F,F,F,F,F,F,F,F,F,F,F,F,F,F,F,F,F,F,F] ?_
     refine pv HT_ 17 (some 101) #[T,T,T,T,T,T,T,T,T,T,T,T,T,T,T,T,T,T,F,F,F,F,F,F,F,F,F,F,F,F,F,F,F,F,F,F,F,F,F,F] ?_
     refine pv HT_ 19 (some 103) #[T,T,T,T,T,T,T,T,T,T,T,T,T,T,T,T,T,T,F,T,F,F,F,F,F,F,F,F,F,F,F,F,F,F,F,F,F,F,F,F] ?_
     refine pv HT_ 20 (some 104) #[T,T,T,T,T,T,T,T,T,T,T,T,T,T,T,T,T,T,F,T,T,F,F,F,F,F,F,F,F,F,F,F,F,F,F,F,F,F,F,F] ?_
     refine tk 18 (some 102) #[T,T,T,T,T,T,T,T,T,T,T,T,T,T,T,T,T,T,T,T,T,F,F,F,F,F,F,F,F,F,F,F,F,F,F,F,F,F,F,F] rfl rfl (aZ HT_.o HW_.o (by kernel_rfl)) hHeld (Or.inl ⟨by rfl,by rintro w' ⟨s0,s1,s2,s3,s4,s5,s6,s7,s8,s9,Cs⟩;go_simp;with_reducible rfl⟩) ?_
     refine pv HT_ 21 (some 105) #[T,T,T,T,T,T,T,T,T,T,T,T,T,T,T,T,T,T,T,T,T,T,F,F,F,F,F,F,F,F,F,F,F,F,F,F,F,F,F,F] ?_
     refine pv HT_ 22 (some 106) #[T,T,T,T,T,T,T,T,T,T,T,T,T,T,T,T,T,T,T,T,T,T,T,F,F,F,F,F,F,F,F,F,F,F,F,F,F,F,F,F] ?_
     refine pv HT_ 23 (some 107) #[T,T,T,T,T,T,T,T,T,T,T,T,T,T,T,T,T,T,T,T,T,T,T,T,F,F,F,F,F,F,F,F,F,F,F,F,F,F,F,F] ?_
     refine pv HT_ 24 (some 108) #[T,T,T,T,T,T,T,T,T,T,T,T,T,T,T,T,T,T,T,T,T,T,T,T,T,F,F,F,F,F,F,F,F,F,F,F,F,F,F,F] ?_
     refine pv HT_ 25 (some 109) #[T,T,T,T,T,T,T,T,T,T,T,T,T,T,T,T,T,T,T,T,T,T,T,T,T,T,F,F,F,F,F,F,F,F,F,F,F,F,F,F] ?_
     refine pv HT_ 26 (some 110) #[T,T,T,T,T,T,T,T,T,T,T,T,T,T,T,T,T,T,T,T,T,T,T,T,T,T,T,F,F,F,F,F,F,F,F,F,F,F,F,F] ?_
     refine pv HT_ 28 (some 112) #[T,T,T,T,T,T,T,T,T,T,T,T,T,T,T,T,T,T,T,T,T,T,T,T,T,T,T,F,T,F,F,F,F,F,F,F,F,F,F,F] ?_
     refine pv HT_ 29 (some 113) #[T,T,T,T,T,T,T,T,T,T,T,T,T,T,T,T,T,T,T,T,T,T,T,T,T,T,T,F,T,T,F,F,F,F,F,F,F,F,F,F] ?_
     refine pv HT_ 30 (some 114) #[T,T,T,T,T,T,T,T,T,T,T,T,T,T,T,T,T,T,T,T,T,T,T,T,T,T,T,F,T,T,T,F,F,F,F,F,F,F,F,F] ?_
     refine tk 27 (some 111) #[T,T,T,T,T,T,T,T,T,T,T,T,T,T,T,T,T,T,T,T,T,T,T,T,T,T,T,T,T,T,T,F,F,F,F,F,F,F,F,F] rfl rfl (aZ HT_.o HW_.o (by kernel_rfl)) hHeld (Or.inl ⟨by rfl,by rintro w' ⟨s0,s1,s2,s3,s4,s5,s6,s7,s8,s9,Cs⟩;go_simp;with_reducible rfl⟩) ?_
     refine tk 31 (some 115) #[T,T,T,T,T,T,T,T,T,T,T,T,T,T,T,T,T,T,T,T,T,T,T,T,T,T,T,T,T,T,T,T,F,F,F,F,F,F,F,F] rfl rfl (aZ HT_.o HW_.o (by kernel_rfl)) hHeld (Or.inl ⟨by rfl,by rintro w' ⟨s0,s1,s2,s3,s4,s5,s6,s7,s8,s9,Cs⟩;go_simp;with_reducible rfl⟩) ?_
     refine pv HT_ 32 (some 116) #[T,T,T,T,T,T,T,T,T,T,T,T,T,T,T,T,T,T,T,T,T,T,T,T,T,T,T,T,T,T,T,T,T,F,F,F,F,F,F,F] ?_
     refine pv HT_ 33 (some 117) #[T,T,T,T,T,T,T,T,T,T,T,T,T,T,T,T,T,T,T,T,T,T,T,T,T,T,T,T,T,T,T,T,T,T,F,F,F,F,F,F] ?_
     refine pv HT_ 34 (some 118) #[T,T,T,T,T,T,T,T,T,T,T,T,T,T,T,T,T,T,T,T,T,T,T,T,T,T,T,T,T,T,T,T,T,T,T,F,F,F,F,F] ?_
     refine pv HT_ 35 (some 119) #[T,T,T,T,T,T,T,T,T,T,T,T,T,T,T,T,T,T,T,T,T,T,T,T,T,T,T,T,T,T,T,T,T,T,T,T,F,F,F,F] ?_
     refine tk 36 (some 120) #[T,T,T,T,T,T,T,T,T,T,T,T,T,T,T,T,T,T,T,T,T,T,T,T,T,T,T,T,T,T,T,T,T,T,T,T,T,F,F,F] rfl rfl (aZ HT_.o HW_.o (by kernel_rfl)) hHeld (Or.inl ⟨by rfl,by rintro w' ⟨s0,s1,s2,s3,s4,s5,s6,s7,s8,s9,Cs⟩;go_simp;with_reducible rfl⟩) ?_
     refine dM (i:=37) (N:=some 121) #[T,T,T,T,T,T,T,T,T,T,T,T,T,T,T,T,T,T,T,T,T,T,T,T,T,T,T,T,T,T,T,T,T,T,T,T,T,T,F,F] rfl rfl (bS HT_.o (by kernel_rfl)) (by decide) (fun K hK=>?_)
     refine cU Try.func35 (by kernel_rfl) rfl #[.agg #[.int .i64 Av,.int .i64 Aw,.int .i64 Az,.int .i64 B0,.slice C9 A8.length Ca]] (by rfl) rfl rfl ga ?_
     with_reducible refine (cF.calls C3 Av Aw Az B0 _ _ A8 true _ ?side1 ?side2 Po.o).mono ?_
     (case side1=>repeat (first|exact (Kd.S_reads' A1.o).2.2|(with_reducible refine Kd.C_alloc ?_ _)|(with_reducible refine Kd.C_drewN ?_ _)|(with_reducible refine Kd.C_drew ?_)))
     (case side2=>exact (Kd.S_reads' A1.o).2.1)
     rintro e Nl ⟨rfl,hb⟩
     refine ⟨_,rfl,?_⟩
     have n_:=ak9 (rb Aa hb) (rb A3 hb) (Kd.S_below (kqS A1.o) hb) (rb A2 hb) (kb A4 hb) (kb A5 hb) (kb A6 hb) (kb A7 hb) (aC (bq4 HB.o Ac.o Ae.o Af.o Ai.o) hb)
     clear Aa A3 A1 A2 A4 A5 A6 A7 HB
     obtain ⟨Aa,A3,A1,A2,A4,A5,A6,A7,HB⟩:=n_
     (try clear hb)
     refine hK.out _ _ ⟨(aA A5.o 0).trans rfl,(aA A5.o 1).trans rfl,(aA A5.o 2).trans rfl,(aA A7.o 0).trans rfl,(aA A7.o 1).trans rfl,(aA A7.o 2).trans rfl,(aA A6.o 0).trans rfl,(aA A6.o 1).trans rfl,(aA A6.o 2).trans rfl,(aA A6.o 3).trans rfl,(aA A6.o 4).trans rfl⟩ (fun hHeld=>?_)
     clear hK K
     refine bZ (a':=?_) ?_ ?_
     rotate_left
     · show Act.put _ (some 121) _=_
       simp only [Act.put,kX,kY,kZ,aI,aK]
       rfl
     refine pv HT_ 38 (some 122) #[T,T,T,T,T,T,T,T,T,T,T,T,T,T,T,T,T,T,T,T,T,T,T,T,T,T,T,T,T,T,T,T,T,T,T,T,T,T,T,F] ?_
     refine pv HT_ 39 (some 123) #[T,T,T,T,T,T,T,T,T,T,T,T,T,T,T,T,T,T,T,T,T,T,T,T,T,T,T,T,T,T,T,T,T,T,T,T,T,T,T,T] ?_
     refine d5 (cL HT_.o (by kernel_rfl)) ?_
     have Nm:=An.o
     have Nn:=As.o
     have No:=Bb.o
     have Np:=Ba.o
     have Nq:=Bh.o
     have Nr:=Bi.o
     obtain ⟨Ip,Iq,Ir,Is,It,Iu,Iv,Iw,Ix,Iy⟩:=cl5 A6.o
     have Ns:=Ay.o
     have Nt:=Ar.o
     have Nu:=B6.o
     have Nv:=At.o
     obtain ⟨Iz,J0,J1,J2,J3,J4,J5,J6,J7,J8⟩:=cl5 A4.o
     try go_wp2_with (first|((with_reducible refine aQ (t:=26) (p:=2) rfl ?_);refine se 26 2 (s5 Nl Ad (.int .i64 Av) (.int .i64 Aw) (.int .i64 Az) (.int .i64 B0) (.slice C9 A8.length Ca)) ?_;intro J9 hw;have n_:=ak9 (sr5 hw Aa A4) (sr5 hw A3 A4) (show Kd.S k45 45 J9 w.heap.size (fun _=>True) (.slice C9 A8.length Ca) A8 by rw [hw];exact (by (with_reducible repeat (first|apply Kd.S_alloc|apply Kd.S_drewN|apply Kd.S_drew));exact Kd.S_mono (Kd.S_far (p:=⟨Ad,4,none⟩) (Kd.S_far (p:=⟨Ad,3,none⟩) (Kd.S_far (p:=⟨Ad,2,none⟩) (Kd.S_far (p:=⟨Ad,1,none⟩) (Kd.S_far (p:=⟨Ad,0,none⟩) (Kd.S_types A1.o A4.o (by decide)) (fun _ hk=>hk.2) (.int .i64 Av)) (fun _ hk=>hk.2) (.int .i64 Aw)) (fun _ hk=>hk.2) (.int .i64 Az)) (fun _ hk=>hk.2) (.int .i64 B0)) (fun _ hk=>hk.2) (.slice C9 A8.length Ca)) (fun _ hk=>trivial))) (show Kd.R (Kd.int .u8) 5 J9 w.heap.size (fun k_=>some k_≠(.slice Bd A9.length Be:Value).ownBlock∧some k_≠(.slice Bd A9.length Be:Value).ownBlock) (.slice B1 Ab.length B2) Ab by rw [hw];exact (by refine kr ?_;exact Kd.R_mono (rf5 Ad (.int .i64 Av) (.int .i64 Aw) (.int .i64 Az) (.int .i64 B0) (.slice C9 A8.length Ca) (Kd.R_types A2.o A4.o (by decide)) (fun _ hk=>hk.2)) (fun _ hk=>⟨hk.1.1,hk.1.2⟩))) (sc5 hw A4) (sf5 hw A5 Ar) (sf5 hw A6 An) (sf5 hw A7 At) (sb hw (bq4 HB.o Ac.o Ae.o Af.o Ai.o));clear hw Aa A3 A1 A2 A4 A5 A6 A7 HB;obtain ⟨Aa,A3,A1,A2,A4,A5,A6,A7,HB⟩:=n_))
     refine bodyPost_ret (dK rfl _ _ Ad 26 #[.int .i64 Av,.int .i64 Aw,.int .i64 Az,.int .i64 B0,.slice C9 A8.length Ca] (0,0) _ rfl (zq A4.o) Try.underlying26 rfl (by kernel_rfl)) rfl ?_
     exact ⟨_,rq,kqS A1.o,bq4 HB.o Ac.o Ae.o Af.o Ai.o⟩
end Go.Proofs.Ytgppikopdpeigaa.XFnPdus
