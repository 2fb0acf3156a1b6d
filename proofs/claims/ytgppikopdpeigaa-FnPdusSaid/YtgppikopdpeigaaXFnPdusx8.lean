/- The functions that one law reaches, as Lean functions, with their walks: printed by a program of this seat (wip/tools) out of the translation. -/
import Derived.Test.YtgppikopdpeigaaXFnPdusx0
import Derived.Test.YtgppikopdpeigaaXFnPdusx5
import Derived.Test.YtgppikopdpeigaaXFnPdusx7
namespace Go.Proofs.Ytgppikopdpeigaa.XFnPdus
open Go.RowKit Go.Proofs.YtgppikopdpeigaaW.PrintWords Go.Proofs.YtgppikopdpeigaaW.PrintLast Go.Proofs.YtgppikopdpeigaaW.PrintMore
attribute [local go_sem] cO cP dH dI cC cD cQ cR
set_option linter.unusedVariables false
set_option linter.unusedSimpArgs false
set_option maxHeartbeats 8000000
set_option maxRecDepth 100000
def fB.f (k:Nat) (l0:List Int) (A0:Int) (A2:Int) (A1:ByteArray) (A3:List Int):Option (List Int):=(cT.f k A0 A2 A1 A3).bind fun A4=>(if A4=true then (if A0=2 then ((bN.f k A2).bind fun A5=>((dJ.f k l0 A0 A5).bind fun A6=>(some A6))) else (if A0=4 then (if (A1.size:Int)<140737488355328 then ((dJ.f k l0 A0 (fN A1)).bind fun A7=>(some A7)) else (none)) else (if A0=6 then ((bV.f k A3).bind fun A8=>((dJ.f k l0 A0 A8).bind fun A9=>(some A9))) else ((dJ.f k l0 A0 ([]:List Int)).bind fun Aa=>(some Aa))))) else ((cZ.f l0).bind fun Ab=>(some Ab)))
theorem fB.calls (k:Nat) (A0:Option Addr) (c0:Nat) (l0:List Int) (Af:Int) (Ai:Int) (Ag:ByteArray) (Aq:Option Addr) (Ar:Nat) (Ah:List Int) (r:List Int) (w:World) (Bi:Kd.C (Kd.int .u8) w A0 l0.length l0) (Bj:l0.length≤c0) (Al:Kd.C (Kd.int .i64) w Aq Ah.length Ah) (Am:Ah.length≤Ar) (h:fB.f k l0 Af Ai Ag Ah=some r):
 Calls Try.prog 20 #[.slice A0 l0.length c0,.agg #[.int .i64 Af,.int .i64 Ai,.string Ag,.slice Aq Ah.length Ar]] w fun e w'=>∃Bk:Value,e=.returned (Bk)∧Kd.R (Kd.int .u8) 5 w' w.heap.size (fun _=>True) Bk r∧Below w.heap.size w w':=by
 have Bs:=Try.underlying43
 have Aw:=am Bi
 have Ax:=am Bj
 clear Bi Bj
 have Aj:=am Al
 have Ak:=am Am
 clear Al Am
 have HB:=am (Below.refl w.heap.size w)
 have H:=h
 clear h
 unfold fB.f at H
 replace H:=be H
 obtain ⟨Ay,Bl,H⟩:=H
 cases Ay
 replace H:=iF H
 replace H:=be H
 obtain ⟨Az,Bt,H⟩:=H
 have z0:=trivial
 rotate_left
 replace H:=iT H
 replace H:=iq H
 rcases H with ⟨-,Bb,Bc,H⟩|⟨c5,Bb,Bc,H⟩
 replace H:=be H
 obtain ⟨An,Bu,H⟩:=H
 replace H:=be H
 obtain ⟨Ac,As,H⟩:=H
 have z1:=trivial
 rotate_left
 replace H:=iq H
 rcases H with ⟨-,B0,B1,H⟩|⟨C3,B0,B1,H⟩
 replace H:=nq H
 obtain ⟨Bd,H⟩:=H
 have Bm:=eq_true Bd
 have Bn:decide ((Ag.size:Int)<140737488355328)=true:=k8 Bd
 clear Bd
 generalize Ao:((fN Ag):List Int)=B2 at H
 have B3:=am Ao.symm
 clear Ao
 replace H:=be H
 obtain ⟨Ac,As,H⟩:=H
 have z2:=trivial
 rotate_left
 replace H:=iq' H
 rcases H with ⟨C4,B4,B5,H⟩|⟨-,B4,B5,H⟩
 replace H:=be H
 obtain ⟨Ac,As,H⟩:=H
 have z3:=trivial
 rotate_left
 replace H:=be H
 obtain ⟨Ap,Bv,H⟩:=H
 replace H:=be H
 obtain ⟨Ac,As,H⟩:=H
 have z4:=trivial
 rotate_right
 rotate_right
 rotate_right
 rotate_right
 all_goals
  obtain rfl:=k6 H
  go_enter Try.func20,Try.ntmps20
  go_wp2_with (first|((with_reducible refine aJ (N:=3) rfl ?_);refine bxe 3 #[.int .i64 Af,.int .i64 Ai,.string Ag,.slice Aq Ah.length Ar] 43 ?_;intro Bo hg w_ hbox hb;have n_:=ak4 (aC (bq HB.o) hb) hbox (bz hg (bq HB.o)) (bz hg (bq HB.o));clear HB;obtain ⟨HB,A1,Bp,A2⟩:=n_;clear hb hbox hg;obtain ⟨A3,A4,A5,A6,A7,A8,A9,Aa⟩:=cl4 A1.o)|((with_reducible refine aE (f:=38) rfl ?_);(first|have:=z1|have:=z2|have:=z3|have:=z4);refine gc (some 7) (cT.calls k Af Ai Ag _ _ Ah true _ (cq (Kd.C_below Aj.o HB.o)) Ak.o Bl.o) Try.func38 ?_;rintro e w_ ⟨rfl,hb⟩;refine ⟨_,rfl,?_⟩;have n_:=ak2 (kb A1 hb) (aC (bq1 HB.o A2.o) hb);clear A1 HB;obtain ⟨A1,HB⟩:=n_;(try clear hb);obtain ⟨A3,A4,A5,A6,A7,A8,A9,Aa⟩:=cl4 A1.o)|((with_reducible refine aE (f:=38) rfl ?_);have:=z0;refine gc (some 7) (cT.calls k Af Ai Ag _ _ Ah false _ (cq (Kd.C_below Aj.o HB.o)) Ak.o Bl.o) Try.func38 ?_;rintro e w_ ⟨rfl,hb⟩;refine ⟨_,rfl,?_⟩;have n_:=ak2 (kb A1 hb) (aC (bq1 HB.o A2.o) hb);clear A1 HB;obtain ⟨A1,HB⟩:=n_;(try clear hb))|((with_reducible refine aE (f:=52) rfl ?_);refine gc (some 10) (cZ.calls _ _ l0 Az _ (cq (Kd.C_below Aw.o HB.o)) Ax.o Bt.o) Try.func52 ?_;rintro e w_ ⟨Bw,rfl,ho_,hb⟩;refine ⟨_,rfl,?_⟩;have n_:=ak3 (rl ho_ (bq1 HB.o A2.o)) (kb A1 hb) (aC (bq1 HB.o A2.o) hb);clear A1 HB;obtain ⟨B6,A1,HB⟩:=n_;(try clear hb ho_))|((with_reducible refine aE (f:=53) rfl ?_);refine gc (some 17) (bN.calls k Ai An _ Bu.o) Try.func53 ?_;rintro e w_ ⟨Bx,rfl,ho_,hb⟩;refine ⟨_,rfl,?_⟩;have n_:=ak3 (rl ho_ (bq1 HB.o A2.o)) (kb A1 hb) (aC (bq1 HB.o A2.o) hb);clear A1 HB;obtain ⟨Ad,A1,HB⟩:=n_;(try clear hb ho_);obtain ⟨Be,Bf,At⟩:=Kd.R_slice Ad.o;subst At;obtain ⟨A3,A4,A5,A6,A7,A8,A9,Aa⟩:=cl4 A1.o)|((with_reducible refine aE (f:=21) rfl ?_);have:=z2;refine gc (some 32) (dJ.calls k _ _ l0 Af _ _ B2 Ac _ (cq (Kd.C_below Aw.o HB.o)) Ax.o (by repeat (first|exact (by repeat (first|(with_reducible exact Ab.o)|(with_reducible refine Kd.C_alloc ?_ _)|(with_reducible refine Kd.C_drewN ?_ _)|(with_reducible refine Kd.C_drew ?_)|exact Ab.o))|(with_reducible refine Kd.C_alloc ?_ _)|(with_reducible refine Kd.C_drewN ?_ _)|(with_reducible refine Kd.C_drew ?_))) Au.o As.o) Try.func21 ?_;rintro e w_ ⟨By,rfl,ho_,hb⟩;refine ⟨_,rfl,?_⟩;have n_:=ak4 (rl ho_ (bq1 HB.o A2.o)) (kb A1 hb) (Kd.C_below (by repeat (first|(with_reducible exact Ab.o)|(with_reducible refine Kd.C_alloc ?_ _)|(with_reducible refine Kd.C_drewN ?_ _)|(with_reducible refine Kd.C_drew ?_)|exact Ab.o)) hb) (aC (bq1 HB.o A2.o) hb);clear A1 Ab HB;obtain ⟨B7,A1,Ab,HB⟩:=n_;(try clear hb ho_))|((with_reducible refine aE (f:=21) rfl ?_);have:=z1;refine gc (some 32) (dJ.calls k _ _ l0 Af _ _ An Ac _ (cq (Kd.C_below Aw.o HB.o)) Ax.o (cq (Kd.R_reads' Ad.o).2.2) ((Kd.R_reads' Ad.o).2.1) As.o) Try.func21 ?_;rintro e w_ ⟨Bz,rfl,ho_,hb⟩;refine ⟨_,rfl,?_⟩;have n_:=ak4 (re_ Ad ho_ hb) (rn_ ho_ Ad (bq1 HB.o A2.o)) (kb A1 hb) (aC (bq1 HB.o A2.o) hb);clear Ad A1 HB;obtain ⟨Ad,B8,A1,HB⟩:=n_;(try clear hb ho_))|((with_reducible refine aE (f:=21) rfl ?_);have:=z4;refine gc (some 32) (dJ.calls k _ _ l0 Af _ _ Ap Ac _ (cq (Kd.C_below Aw.o HB.o)) Ax.o (cq (Kd.R_reads' Ae.o).2.2) ((Kd.R_reads' Ae.o).2.1) As.o) Try.func21 ?_;rintro e w_ ⟨C0,rfl,ho_,hb⟩;refine ⟨_,rfl,?_⟩;have n_:=ak4 (re_ Ae ho_ hb) (rn_ ho_ Ae (bq1 HB.o A2.o)) (kb A1 hb) (aC (bq1 HB.o A2.o) hb);clear Ae A1 HB;obtain ⟨Ae,B9,A1,HB⟩:=n_;(try clear hb ho_))|((with_reducible refine aE (f:=21) rfl ?_);have:=z3;refine gc (some 32) (dJ.calls k _ _ l0 Af _ _ ([]:List Int) Ac _ (cq (Kd.C_below Aw.o HB.o)) Ax.o (Kd.C_nil _ _) (k7 _) As.o) Try.func21 ?_;rintro e w_ ⟨C1,rfl,ho_,hb⟩;refine ⟨_,rfl,?_⟩;have n_:=ak3 (rl ho_ (bq1 HB.o A2.o)) (kb A1 hb) (aC (bq1 HB.o A2.o) hb);clear A1 HB;obtain ⟨Ba,A1,HB⟩:=n_;(try clear hb ho_))|((with_reducible refine aJ (N:=22) rfl ?_);refine iA ?hg (N:=22) ?hd 9 22 5 (x:=.tmp 21) ?ho (s:=Ag) (y:=B2) B3.o ?hx Try.underlying9 Try.underlying22 Try.underlying5 (by have h_:(Ag.size:Int)<(140737488355328:Int):=oda;omega) ?_;(case hd=>rfl);(case hg=>rfl);(case ho=>rfl);(case hx=>first|(go_simp;done)|(go_simp;rfl));intro Bq Br w_ hs_ hl_ hb;have n_:=ak4 (kb A1 hb) (aC (bq1 HB.o A2.o) hb) hs_ hl_;clear A1 HB;obtain ⟨A1,HB,Ab,Au⟩:=n_;clear hb hs_ hl_;obtain ⟨A3,A4,A5,A6,A7,A8,A9,Aa⟩:=cl4 A1.o)|((with_reducible refine aE (f:=22) rfl ?_);refine gc (some 27) (bV.calls k _ _ Ah Ap _ (cq (Kd.C_below Aj.o HB.o)) Ak.o Bv.o) Try.func22 ?_;rintro e w_ ⟨C2,rfl,ho_,hb⟩;refine ⟨_,rfl,?_⟩;have n_:=ak3 (rl ho_ (bq1 HB.o A2.o)) (kb A1 hb) (aC (bq1 HB.o A2.o) hb);clear A1 HB;obtain ⟨Ae,A1,HB⟩:=n_;(try clear hb ho_);obtain ⟨Bg,Bh,Av⟩:=Kd.R_slice Ae.o;subst Av;obtain ⟨A3,A4,A5,A6,A7,A8,A9,Aa⟩:=cl4 A1.o))
  first
  | go_ret
    exact ⟨_,rq,by refine kr ?_;exact Kd.R_mono B8.o (fun _ hk=>trivial),bq1 HB.o A2.o⟩
  | go_ret
    exact ⟨_,rq,by refine kr ?_;exact Kd.R_mono B9.o (fun _ hk=>trivial),bq1 HB.o A2.o⟩
  | go_ret
    exact ⟨_,rq,kqR B6.o,bq1 HB.o A2.o⟩
  | go_ret
    exact ⟨_,rq,kqR B7.o,bq1 HB.o A2.o⟩
  | go_ret
    exact ⟨_,rq,kqR Ba.o,bq1 HB.o A2.o⟩
def eE.f (k:Nat) (l0:List Int) (a1:Int) (a2:Int):Option (List Int):=(bN.f k a2).bind fun A0=>((dJ.f k l0 a1 A0).bind fun A1=>(some A1))
theorem eE.calls (k:Nat) (A0:Option Addr) (c0:Nat) (l0:List Int) (a1:Int) (a2:Int) (r:List Int) (w:World) (A6:Kd.C (Kd.int .u8) w A0 l0.length l0) (A7:l0.length≤c0) (h:eE.f k l0 a1 a2=some r):
 Calls Try.prog 23 #[.slice A0 l0.length c0,.int .i64 a1,.int .i64 a2] w fun e w'=>∃A8:Value,e=.returned (A8)∧Kd.R (Kd.int .u8) 5 w' w.heap.size (fun _=>True) A8 r∧Below w.heap.size w w':=by
 have A9:=am A6
 have Aa:=am A7
 clear A6 A7
 have HB:=am (Below.refl w.heap.size w)
 have H:=h
 clear h
 unfold eE.f at H
 replace H:=be H
 obtain ⟨A2,Ab,H⟩:=H
 replace H:=be H
 obtain ⟨A4,Ac,H⟩:=H
 obtain rfl:=k6 H
 go_enter Try.func23,Try.ntmps23
 go_wp2_with (first|((with_reducible refine aE (f:=53) rfl ?_);refine gc (some 10) (bN.calls k a2 A2 _ Ab.o) Try.func53 ?_;rintro e w6 ⟨Ad,rfl,A3,hb⟩;refine ⟨_,rfl,?_⟩;have n_:=ak2 (rl A3 (bq HB.o)) (aC (bq HB.o) hb);clear HB;obtain ⟨A1,HB⟩:=n_;(try clear hb A3);obtain ⟨Ag,Ah,Ae⟩:=Kd.R_slice A1.o;subst Ae)|((with_reducible refine aE (f:=21) rfl ?_);refine gc (some 11) (dJ.calls k _ _ l0 a1 _ _ A2 A4 _ (cq (Kd.C_below A9.o HB.o)) Aa.o (cq (Kd.R_reads' A1.o).2.2) ((Kd.R_reads' A1.o).2.1) Ac.o) Try.func21 ?_;rintro e w8 ⟨Af,rfl,A3,hb⟩;refine ⟨_,rfl,?_⟩;have n_:=ak3 (re_ A1 A3 hb) (rn_ A3 A1 (bq HB.o)) (aC (bq HB.o) hb);clear A1 HB;obtain ⟨A1,A5,HB⟩:=n_;(try clear hb A3)))
 go_ret
 exact ⟨_,rq,by refine kr ?_;exact Kd.R_mono A5.o (fun _ hk=>trivial),bq HB.o⟩
end Go.Proofs.Ytgppikopdpeigaa.XFnPdus
