/- The functions that one law reaches, as Lean functions, with their walks: printed by a program of this seat (wip/tools) out of the translation. -/
import Derived.Test.YtgppikopdpeigaaXFnPdusx0
import Derived.Test.YtgppikopdpeigaaXFnPdusx1
import Derived.Test.YtgppikopdpeigaaXFnPdusx5
import Derived.Test.YtgppikopdpeigaaXFnPdusx6
import Derived.Test.YtgppikopdpeigaaXFnPdusx9
import Derived.Test.YtgppikopdpeigaaXFnPdusx14
import Derived.Test.YtgppikopdpeigaaXFnPdusx18
import Derived.Test.YtgppikopdpeigaaXFnPdusx23
import Derived.Test.YtgppikopdpeigaaXFnPdusx24
import Derived.Test.YtgppikopdpeigaaXFnPdusx25
import Derived.Test.YtgppikopdpeigaaXFnPdusx26
import Derived.Test.YtgppikopdpeigaaXFnPdusx27
namespace Go.Proofs.Ytgppikopdpeigaa.XFnPdus
open Go.RowKit Go.Proofs.YtgppikopdpeigaaW.PrintWords Go.Proofs.YtgppikopdpeigaaW.PrintLast Go.Proofs.YtgppikopdpeigaaW.PrintMore
attribute [local go_sem] cO cP dH dI cC cD cQ cR
set_option maxHeartbeats 8000000
set_option maxRecDepth 100000
set_option linter.unusedVariables false
set_option linter.unusedSimpArgs false
def laws_FnPdus.j0:Nat→List Int→List Int→Bool→Bool→Int→Int→Int→Int→List (S45)→Int→Int→Int→Int→List (S45)→Option (Bool)
 | 0,_,_,_,_,_,_,_,_,_,_,_,_,_,_=>none
 | k+1,x0,x4,x7,Ag,A2,A3,A4,A5,A6,A7,A8,A9,Aa,Ab=>if Ag=true then (some false) else (if (x4.length:Int)=0 then (if A7=0 then (some true) else (some x7)) else ((cK.f k x4).bind fun A0=>((bY.f k x0).bind fun A1=>(if A0.2.2.2.2.2=true then ((e6.f k A0.1 A0.2.1 A0.2.2.1 A0.2.2.2.1 A0.2.2.2.2.1 A2 A3 A4 A5 A6).bind fun Ac=>(if Ac=true then ((bK.f k A2 A3 A4 A5 A6).bind fun Ad=>(if Ad=true then ((bL.f k A1.1 A1.2).bind fun Ae=>((bP.f k A1.1 A1.2).bind fun Af=>(some (Ae==Af)))) else (some false))) else (some false))) else (some false)))))
def laws_FnPdus.f (k:Nat) (l0:List Int):Option (Bool):=(fY.f l0).bind fun A5=>(if A5=true then (some true) else ((eS.f k l0).bind fun A1=>((bG.f k A1.1 A1.2.1 A1.2.2.1 A1.2.2.2.1 A1.2.2.2.2).bind fun A2=>((eT.f k l0).bind fun A3=>((cK.f k A3).bind fun A0=>((aW.f k A3).bind fun A4=>(if (A0.2.2.2.2.2 !=A4.2.2.2.2.2)=true then (laws_FnPdus.j0 k l0 A2 A0.2.2.2.2.2 true A1.1 A1.2.1 A1.2.2.1 A1.2.2.2.1 A1.2.2.2.2 A0.1 A0.2.1 A0.2.2.1 A0.2.2.2.1 A0.2.2.2.2.1) else (if A0.2.2.2.2.2=true then ((bK.f k A0.1 A0.2.1 A0.2.2.1 A0.2.2.2.1 A0.2.2.2.2.1).bind fun A6=>(if A6=true then ((bG.f k A0.1 A0.2.1 A0.2.2.1 A0.2.2.2.1 A0.2.2.2.2.1).bind fun A7=>((cH.f k A7 A3).bind fun A8=>(if A8=true then ((eO.f k A1.1 A1.2.1 A1.2.2.1 A1.2.2.2.1 A1.2.2.2.2).bind fun A9=>((cH.f k A2 A9).bind fun Aa=>(laws_FnPdus.j0 k l0 A2 A0.2.2.2.2.2 (!Aa) A1.1 A1.2.1 A1.2.2.1 A1.2.2.2.1 A1.2.2.2.2 A0.1 A0.2.1 A0.2.2.1 A0.2.2.2.1 A0.2.2.2.2.1))) else (laws_FnPdus.j0 k l0 A2 A0.2.2.2.2.2 true A1.1 A1.2.1 A1.2.2.1 A1.2.2.2.1 A1.2.2.2.2 A0.1 A0.2.1 A0.2.2.1 A0.2.2.2.1 A0.2.2.2.2.1)))) else (laws_FnPdus.j0 k l0 A2 A0.2.2.2.2.2 true A1.1 A1.2.1 A1.2.2.1 A1.2.2.2.1 A1.2.2.2.2 A0.1 A0.2.1 A0.2.2.1 A0.2.2.2.1 A0.2.2.2.2.1))) else ((eO.f k A1.1 A1.2.1 A1.2.2.1 A1.2.2.2.1 A1.2.2.2.2).bind fun Ab=>((cH.f k A2 Ab).bind fun Ac=>(laws_FnPdus.j0 k l0 A2 A0.2.2.2.2.2 (!Ac) A1.1 A1.2.1 A1.2.2.1 A1.2.2.2.1 A1.2.2.2.2 A0.1 A0.2.1 A0.2.2.1 A0.2.2.2.1 A0.2.2.2.2.1)))))))))))
theorem laws_FnPdus.calls (k:Nat) (A0:Option Addr) (c0:Nat) (l0:List Int) (r:Bool) (w:World) (Ks:Kd.C (Kd.int .u8) w A0 l0.length l0) (Kt:l0.length≤c0) (hr_:r=true) (h:laws_FnPdus.f k l0=some r):
 Calls Try.prog 3 #[.slice A0 l0.length c0] w fun e w'=>e=.returned (.bool r)∧Below w.heap.size w w':=by
 have Mb:=Try.underlying26
 have HRT:=am hr_
 clear hr_
 have Gr:=am Ks
 have Gs:=am Kt
 clear Ks Kt
 have HB:=am (Below.refl w.heap.size w)
 have H:=h
 clear h
 unfold laws_FnPdus.f at H
 replace H:=be H
 obtain ⟨Gt,Ku,H⟩:=H
 rcases bt Gt with rfl|rfl
 · replace H:=iT H
   obtain rfl:=k6 H
   go_enter Try.func3,Try.ntmps3
   go_wp2_with (first|((with_reducible refine aE (f:=4) rfl ?_);refine gc (some 15) (fY.calls _ _ l0 true _ (cq Gr.o) Gs.o Ku.o) Try.func4 ?_;rintro e w' ⟨rfl,⟨nd,rfl⟩⟩;refine ⟨_,rfl,?_⟩))
   go_ret
   exact ⟨rq,bq HB.o⟩
 replace H:=iF H
 replace H:=be H
 obtain ⟨⟨Ay,Az,B0,B1,Ah⟩,Mc,H⟩:=H
 try dsimp only at H
 replace H:=be H
 obtain ⟨Bc,Md,H⟩:=H
 replace H:=be H
 obtain ⟨Bi,Me,H⟩:=H
 replace H:=be H
 obtain ⟨⟨B2,B6,B7,B8,Ak,B9⟩,Mf,H⟩:=H
 try dsimp only at H
 replace H:=be H
 obtain ⟨⟨Br,Bs,Bt,Bu,Ar,Bj⟩,Mg,H⟩:=H
 try dsimp only at H
 have K8:=am H
 clear H
 go_enter Try.func3,Try.ntmps3
 go_upto_region 8 with (first|((with_reducible refine aE (f:=4) rfl ?_);refine gc (some 15) (fY.calls _ _ l0 false _ (cq Gr.o) Gs.o Ku.o) Try.func4 ?_;rintro e w' ⟨rfl,⟨nd,rfl⟩⟩;refine ⟨_,rfl,?_⟩)|((with_reducible refine aE (f:=5) rfl ?_);refine gc (some 17) (eS.calls k _ _ l0 Ay Az B0 B1 Ah _ (cq Gr.o) Gs.o Mc.o) Try.func5 ?_;rintro e N6 ⟨Kv,rfl,Bd,hb⟩;refine ⟨_,rfl,?_⟩;have n_:=ak2 (Kd.S_lower Bd (aH (bq HB.o))) (aC (bq HB.o) hb);clear HB;obtain ⟨A4,HB⟩:=n_;(try clear hb Bd))|((with_reducible refine aJ (N:=3) rfl ?_);refine bxe 3 #[.int .i64 0,.int .i64 0,.int .i64 0,.int .i64 0,.slice none 0 0] 26 ?_;intro Be hg Mh hbox hb;have n_:=ak5 (Kd.S_below (kqS A4.o) hb) (aC (bq HB.o) hb) hbox (bz hg (bq HB.o)) (bz hg (bq HB.o));clear A4 HB;obtain ⟨A4,HB,A1,K9,A9⟩:=n_;clear hb hbox hg;obtain ⟨Cn,Co,Cp,Cq,Cr,Cs,Ct,Cu,Cv,Cw⟩:=cl5 A1.o;obtain ⟨Ba,Bb,Ka⟩:=Kd.S_slice A4.o;subst Ka)|((with_reducible refine aQ (t:=26) (p:=3) rfl ?_);refine se 26 3 (s5 Mh Be (.int .i64 Ay) (.int .i64 Az) (.int .i64 B0) (.int .i64 B1) (.slice Ba Ah.length Bb)) ?_;intro Mi hw;have n_:=ak3 (show Kd.S k45 45 Mi w.heap.size (fun _=>True) (.slice Ba Ah.length Bb) Ah by rw [hw];exact (by (with_reducible repeat (first|apply Kd.S_alloc|apply Kd.S_drewN|apply Kd.S_drew));exact Kd.S_mono (Kd.S_far (p:=⟨Be,4,none⟩) (Kd.S_far (p:=⟨Be,3,none⟩) (Kd.S_far (p:=⟨Be,2,none⟩) (Kd.S_far (p:=⟨Be,1,none⟩) (Kd.S_far (p:=⟨Be,0,none⟩) (Kd.S_types A4.o A1.o (by decide)) (fun _ hk=>hk.2) (.int .i64 Ay)) (fun _ hk=>hk.2) (.int .i64 Az)) (fun _ hk=>hk.2) (.int .i64 B0)) (fun _ hk=>hk.2) (.int .i64 B1)) (fun _ hk=>hk.2) (.slice Ba Ah.length Bb)) (fun _ hk=>trivial))) (sc5 hw A1) (sb hw (bq1 HB.o A9.o));clear hw A4 A1 HB;obtain ⟨A4,A1,HB⟩:=n_;obtain ⟨Cx,Cy,Cz,D0,D1,D2,D3,D4,D5,D6⟩:=cl5 A1.o)|((with_reducible refine aE (f:=6) rfl ?_);refine gc (some 19) (bG.calls k Ay Az B0 B1 _ _ Ah Bc _ (cq (Kd.S_reads' A4.o).2.2) ((Kd.S_reads' A4.o).2.1) Md.o) Try.func6 ?_;rintro e N7 ⟨Ca,rfl,Bd,hb⟩;refine ⟨_,rfl,?_⟩;have n_:=ak4 (Kd.S_below (kqS A4.o) hb) (rl Bd (bq1 HB.o A9.o)) (kb A1 hb) (aC (bq1 HB.o A9.o) hb);clear A4 A1 HB;obtain ⟨A4,A8,A1,HB⟩:=n_;(try clear hb Bd))|((with_reducible refine aE (f:=7) rfl ?_);refine gc (some 21) (eT.calls k _ _ l0 Bi _ (cq (Kd.C_below Gr.o HB.o)) Gs.o Me.o) Try.func7 ?_;rintro e N8 ⟨Kw,rfl,Bd,hb⟩;refine ⟨_,rfl,?_⟩;have n_:=ak5 (Kd.S_below (kqS A4.o) hb) (re_ A8 Bd hb) (rn_ Bd A8 (bq1 HB.o A9.o)) (kb A1 hb) (aC (bq1 HB.o A9.o) hb);clear A4 A8 A1 HB;obtain ⟨A4,A8,Aa,A1,HB⟩:=n_;(try clear hb Bd);obtain ⟨Gu,Gv,Kb⟩:=Kd.R_slice Aa.o;subst Kb)|((with_reducible refine aE (f:=8) rfl ?_);refine gc (some 24) (cK.calls k _ _ Bi B2 B6 B7 B8 Ak B9 _ (cq (Kd.R_reads' Aa.o).2.2) ((Kd.R_reads' Aa.o).2.1) Mf.o) Try.func8 ?_;rintro e N9 ⟨Kx,rfl,Bd,hb⟩;refine ⟨_,rfl,?_⟩;have n_:=ak6 (Kd.S_elder' (kqS A4.o) (Kd.S_base Bd) hb) (rb A8 hb) (rb Aa hb) (Kd.S_lower (Kd.S_new' Bd (Kd.S_lt (kqS A4.o))) (aH (bq1 HB.o A9.o))) (kb A1 hb) (aC (bq1 HB.o A9.o) hb);clear A4 A8 Aa A1 HB;obtain ⟨A4,A8,Aa,Ab,A1,HB⟩:=n_;(try clear hb Bd))|((with_reducible refine aJ (N:=6) rfl ?_);refine bxe 6 #[.int .i64 0,.int .i64 0,.int .i64 0,.int .i64 0,.slice none 0 0] 26 ?_;intro As hg Mj hbox hb;have n_:=iU (Kd.S_below (kqS A4.o) hb) (rb A8 hb) (rb Aa hb) (Kd.S_below (kqS Ab.o) hb) (kb A1 hb) (aC (bq1 HB.o A9.o) hb) hbox (bz hg (bq1 HB.o A9.o)) (bz hg (bq1 HB.o A9.o)) (nL hg A1) (nG hg A1);clear A4 A8 Aa Ab A1 HB;obtain ⟨A4,A8,Aa,Ab,A1,HB,A2,Kc,Ac,Ai,Al⟩:=n_;clear hb hbox hg;have Ky:=Al.o;have Kz:=Ai.o;obtain ⟨D7,D8,D9,Da,Db,Dc,Dd,De,Df,Dg⟩:=cl5 A2.o;obtain ⟨B4,B5,Ke⟩:=Kd.S_slice Ab.o;subst Ke)|((with_reducible refine aQ (t:=26) (p:=6) rfl ?_);refine se 26 6 (s5 Mj As (.int .i64 B2) (.int .i64 B6) (.int .i64 B7) (.int .i64 B8) (.slice B4 Ak.length B5)) ?_;intro Ib hw;have n_:=ak7 (show Kd.S k45 45 Ib w.heap.size (fun k_=>some k_≠(.slice B4 Ak.length B5:Value).ownBlock) (.slice Ba Ah.length Bb) Ah by rw [hw];exact (by (with_reducible repeat (first|apply Kd.S_alloc|apply Kd.S_drewN|apply Kd.S_drew));exact Kd.S_mono (Kd.S_far (p:=⟨As,4,none⟩) (Kd.S_far (p:=⟨As,3,none⟩) (Kd.S_far (p:=⟨As,2,none⟩) (Kd.S_far (p:=⟨As,1,none⟩) (Kd.S_far (p:=⟨As,0,none⟩) (Kd.S_types A4.o A2.o (by decide)) (fun _ hk=>hk.2) (.int .i64 B2)) (fun _ hk=>hk.2) (.int .i64 B6)) (fun _ hk=>hk.2) (.int .i64 B7)) (fun _ hk=>hk.2) (.int .i64 B8)) (fun _ hk=>hk.2) (.slice B4 Ak.length B5)) (fun _ hk=>hk.1.2))) (show Kd.R (Kd.int .u8) 5 Ib w.heap.size (fun k_=>some k_≠(.slice Gu Bi.length Gv:Value).ownBlock) Ca Bc by rw [hw];exact (by refine kr ?_;exact Kd.R_mono (rf5 As (.int .i64 B2) (.int .i64 B6) (.int .i64 B7) (.int .i64 B8) (.slice B4 Ak.length B5) (Kd.R_types A8.o A2.o (by decide)) (fun _ hk=>hk.2)) (fun _ hk=>hk.1.2))) (show Kd.R (Kd.int .u8) 5 Ib w.heap.size (fun k_=>some k_≠(Ca:Value).ownBlock) (.slice Gu Bi.length Gv) Bi by rw [hw];exact (by refine kr ?_;exact Kd.R_mono (rf5 As (.int .i64 B2) (.int .i64 B6) (.int .i64 B7) (.int .i64 B8) (.slice B4 Ak.length B5) (Kd.R_types Aa.o A2.o (by decide)) (fun _ hk=>hk.2)) (fun _ hk=>hk.1.2))) (show Kd.S k45 45 Ib w.heap.size (fun k_=>some k_≠(.slice Ba Ah.length Bb:Value).ownBlock) (.slice B4 Ak.length B5) Ak by rw [hw];exact (by (with_reducible repeat (first|apply Kd.S_alloc|apply Kd.S_drewN|apply Kd.S_drew));exact Kd.S_mono (Kd.S_far (p:=⟨As,4,none⟩) (Kd.S_far (p:=⟨As,3,none⟩) (Kd.S_far (p:=⟨As,2,none⟩) (Kd.S_far (p:=⟨As,1,none⟩) (Kd.S_far (p:=⟨As,0,none⟩) (Kd.S_types Ab.o A2.o (by decide)) (fun _ hk=>hk.2) (.int .i64 B2)) (fun _ hk=>hk.2) (.int .i64 B6)) (fun _ hk=>hk.2) (.int .i64 B7)) (fun _ hk=>hk.2) (.int .i64 B8)) (fun _ hk=>hk.2) (.slice B4 Ak.length B5)) (fun _ hk=>hk.1.2))) (sf5 hw A1 Ai) (sc5 hw A2) (sb hw (bq2 HB.o A9.o Ac.o));clear hw A4 A8 Aa Ab A1 A2 HB;obtain ⟨A4,A8,Aa,Ab,A1,A2,HB⟩:=n_)|((with_reducible refine aE (f:=9) rfl ?_);refine gc (some 29) (aW.calls k _ _ Bi Br Bs Bt Bu Ar Bj _ (cq (Kd.R_reads' Aa.o).2.2) ((Kd.R_reads' Aa.o).2.1) Mg.o) Try.func9 ?_;rintro e Na ⟨L0,rfl,Bd,hb⟩;refine ⟨_,rfl,?_⟩;have n_:=ak8 (Kd.S_elder' (kqS A4.o) (Kd.S_base Bd) hb) (rb A8 hb) (rb Aa hb) (Kd.S_elder' (kqS Ab.o) (Kd.S_base Bd) hb) (Kd.S_lower (Kd.S_new' (Kd.S_new' Bd (Kd.S_lt (kqS A4.o))) (Kd.S_lt (kqS Ab.o))) (aH (bq2 HB.o A9.o Ac.o))) (kb A1 hb) (kb A2 hb) (aC (bq2 HB.o A9.o Ac.o) hb);clear A4 A8 Aa Ab A1 A2 HB;obtain ⟨A4,A8,Aa,Ab,Ae,A1,A2,HB⟩:=n_;(try clear hb Bd))|((with_reducible refine aJ (N:=8) rfl ?_);refine bxe 8 #[.int .i64 0,.int .i64 0,.int .i64 0,.int .i64 0,.slice none 0 0] 26 ?_;intro Am hg Mk hbox hb;have Gw:=am (Kd.S_below (kqS A4.o) hb);have Gx:=am (rb A8 hb);have Gy:=am (rb Aa hb);have Gz:=am (Kd.S_below (kqS Ab.o) hb);have H0:=am (Kd.S_below (kqS Ae.o) hb);have H1:=am (kb A1 hb);have H2:=am (kb A2 hb);have H3:=am (aC (bq2 HB.o A9.o Ac.o) hb);have H4:=am (hbox);have H5:=am (bz hg (bq2 HB.o A9.o Ac.o));have Cb:=am (bz hg (bq2 HB.o A9.o Ac.o));have Cc:=am (nL hg A1);have Cd:=am (nG hg A1);have Ce:=am (nL hg A2);have Cf:=am (nG hg A2);clear A4;clear A8;clear Aa;clear Ab;clear Ae;clear A1;clear A2;clear HB;have A4:=Gw;have A8:=Gx;have Aa:=Gy;have Ab:=Gz;have Ae:=H0;have A1:=H1;have A2:=H2;have HB:=H3;have A5:=H4;have Kf:=H5;have Ad:=Cb;have Au:=Cc;have Av:=Cd;have An:=Ce;have Aq:=Cf;clear Gw Gx Gy Gz H0 H1 H2 H3 H4 H5 Cb Cc Cd Ce Cf;clear hb hbox hg;have L1:=Av.o;have L2:=Au.o;have L3:=Aq.o;have L4:=An.o;obtain ⟨Dh,Di,Dj,Dk,Dl,Dm,Dn,Do,Dp,Dq⟩:=cl5 A5.o;obtain ⟨Bf,Bg,Kg⟩:=Kd.S_slice Ae.o;subst Kg)|((with_reducible refine aQ (t:=26) (p:=8) rfl ?_);refine se 26 8 (s5 Mk Am (.int .i64 Br) (.int .i64 Bs) (.int .i64 Bt) (.int .i64 Bu) (.slice Bf Ar.length Bg)) ?_;intro Kh hw;have n_:=ak9 (show Kd.S k45 45 Kh w.heap.size (fun k_=>some k_≠(.slice B4 Ak.length B5:Value).ownBlock∧some k_≠(.slice Bf Ar.length Bg:Value).ownBlock) (.slice Ba Ah.length Bb) Ah by rw [hw];exact (by (with_reducible repeat (first|apply Kd.S_alloc|apply Kd.S_drewN|apply Kd.S_drew));exact Kd.S_mono (Kd.S_far (p:=⟨Am,4,none⟩) (Kd.S_far (p:=⟨Am,3,none⟩) (Kd.S_far (p:=⟨Am,2,none⟩) (Kd.S_far (p:=⟨Am,1,none⟩) (Kd.S_far (p:=⟨Am,0,none⟩) (Kd.S_types A4.o A5.o (by decide)) (fun _ hk=>hk.2) (.int .i64 Br)) (fun _ hk=>hk.2) (.int .i64 Bs)) (fun _ hk=>hk.2) (.int .i64 Bt)) (fun _ hk=>hk.2) (.int .i64 Bu)) (fun _ hk=>hk.2) (.slice Bf Ar.length Bg)) (fun _ hk=>⟨hk.1.1,hk.1.2⟩))) (sr5 hw A8 A5) (sr5 hw Aa A5) (show Kd.S k45 45 Kh w.heap.size (fun k_=>some k_≠(.slice Ba Ah.length Bb:Value).ownBlock∧some k_≠(.slice Bf Ar.length Bg:Value).ownBlock) (.slice B4 Ak.length B5) Ak by rw [hw];exact (by (with_reducible repeat (first|apply Kd.S_alloc|apply Kd.S_drewN|apply Kd.S_drew));exact Kd.S_mono (Kd.S_far (p:=⟨Am,4,none⟩) (Kd.S_far (p:=⟨Am,3,none⟩) (Kd.S_far (p:=⟨Am,2,none⟩) (Kd.S_far (p:=⟨Am,1,none⟩) (Kd.S_far (p:=⟨Am,0,none⟩) (Kd.S_types Ab.o A5.o (by decide)) (fun _ hk=>hk.2) (.int .i64 Br)) (fun _ hk=>hk.2) (.int .i64 Bs)) (fun _ hk=>hk.2) (.int .i64 Bt)) (fun _ hk=>hk.2) (.int .i64 Bu)) (fun _ hk=>hk.2) (.slice Bf Ar.length Bg)) (fun _ hk=>⟨hk.1.1,hk.1.2⟩))) (show Kd.S k45 45 Kh w.heap.size (fun k_=>some k_≠(.slice Ba Ah.length Bb:Value).ownBlock∧some k_≠(.slice B4 Ak.length B5:Value).ownBlock) (.slice Bf Ar.length Bg) Ar by rw [hw];exact (by (with_reducible repeat (first|apply Kd.S_alloc|apply Kd.S_drewN|apply Kd.S_drew));exact Kd.S_mono (Kd.S_far (p:=⟨Am,4,none⟩) (Kd.S_far (p:=⟨Am,3,none⟩) (Kd.S_far (p:=⟨Am,2,none⟩) (Kd.S_far (p:=⟨Am,1,none⟩) (Kd.S_far (p:=⟨Am,0,none⟩) (Kd.S_types Ae.o A5.o (by decide)) (fun _ hk=>hk.2) (.int .i64 Br)) (fun _ hk=>hk.2) (.int .i64 Bs)) (fun _ hk=>hk.2) (.int .i64 Bt)) (fun _ hk=>hk.2) (.int .i64 Bu)) (fun _ hk=>hk.2) (.slice Bf Ar.length Bg)) (fun _ hk=>⟨hk.1.1.2,hk.1.2⟩))) (sf5 hw A1 Au) (sf5 hw A2 An) (sc5 hw A5) (sb hw (bq3 HB.o A9.o Ac.o Ad.o));clear hw A4 A8 Aa Ab Ae A1 A2 A5 HB;obtain ⟨A4,A8,Aa,Ab,Ae,A1,A2,A5,HB⟩:=n_))
 (try simp only [Act.put,kX,kY,kZ])
 go_cut [56] (fun Ml wc=>∃(kq:Nat) (C7:Bool),Ml=.bool C7∧Aside0 (laws_FnPdus.j0 kq l0 Bc B9 C7 Ay Az B0 B1 Ah B2 B6 B7 B8 Ak=some r)∧Aside0 (kq≤k)∧Aside0 (Kd.R (Kd.int .u8) 5 wc w.heap.size (fun _=>True) Ca Bc)∧Aside0 (Kd.S k45 45 wc w.heap.size (fun k_=>some k_≠((.slice B4 Ak.length B5):Value).ownBlock∧some k_≠((.slice Bf Ar.length Bg):Value).ownBlock) (.slice Ba Ah.length Bb) Ah)∧Aside0 (Kd.S k45 45 wc w.heap.size (fun k_=>some k_≠((.slice Ba Ah.length Bb):Value).ownBlock∧some k_≠((.slice Bf Ar.length Bg):Value).ownBlock) (.slice B4 Ak.length B5) Ak)∧Aside0 (Kd.S k45 45 wc w.heap.size (fun k_=>some k_≠((.slice Ba Ah.length Bb):Value).ownBlock∧some k_≠((.slice B4 Ak.length B5):Value).ownBlock) (.slice Bf Ar.length Bg) Ar)∧Aside0 (wc.heap[Be]? =some (.cells #[.int .i64 Ay,.int .i64 Az,.int .i64 B0,.int .i64 B1,(.slice Ba Ah.length Bb)] 26 (0,0)))∧Aside0 (wc.heap[As]? =some (.cells #[.int .i64 B2,.int .i64 B6,.int .i64 B7,.int .i64 B8,(.slice B4 Ak.length B5)] 26 (0,0)))∧Aside0 (wc.heap[Am]? =some (.cells #[.int .i64 Br,.int .i64 Bs,.int .i64 Bt,.int .i64 Bu,(.slice Bf Ar.length Bg)] 26 (0,0)))∧Aside0 (Below w.heap.size w wc))
 case first=>
  have H:=K8.o
  clear K8
  replace H:=ip H
  rcases H with ⟨Cg,H⟩|⟨Cg,H⟩
  · have Bv:(B9 !=Bj)=true:=Cg
    (try (have G3:decide (B9=Bj)=false:=by simpa using Cg))
    (try (have G4:(B9==Bj)=false:=by simpa using Cg))
    (try (have L5:¬(B9=Bj):=by simpa using Cg))
    clear Cg
    (first|rw [Bv]|(simp only [aI,aK];rw [Bv])|skip)
    have H':=am H
    clear H
    go_wp2
    go_meet
    case rel=>exact ⟨_,(true),sq,H',⟨by first|omega|exact k7 _⟩,⟨by refine kr ?_;exact Kd.R_mono A8.o (fun _ hk=>trivial)⟩,⟨kqS A4.o⟩,⟨kqS Ab.o⟩,⟨kqS Ae.o⟩,⟨zq A1.o⟩,⟨zq A2.o⟩,⟨zq A5.o⟩,⟨bq3 HB.o A9.o Ac.o Ad.o⟩⟩
  have Bv:(B9 !=Bj)=false:=by simpa using Cg
  (try (have G3:decide (B9=Bj)=true:=by simpa using Cg))
  (try (have G4:(B9==Bj)=true:=by simpa using Cg))
  clear Cg
  (first|rw [Bv]|(simp only [aI,aK];rw [Bv])|skip)
  cases B9
  replace H:=iF H
  replace H:=be H
  obtain ⟨C0,Ki,H⟩:=H
  replace H:=be H
  obtain ⟨C8,Ic,H⟩:=H
  have H':=am H
  clear H
  have L6:=Ai.o
  have L7:=Al.o
  have L8:=Au.o
  have L9:=Av.o
  obtain ⟨Dr,Ds,Dt,Du,Dv,Dw,Dx,Dy,Dz,E0⟩:=cl5 A1.o
  rotate_left
  replace H:=iT H
  replace H:=be H
  obtain ⟨C1,Id,H⟩:=H
  cases C1
  replace H:=iF H
  have H':=am H
  clear H
  have La:=Al.o
  have Lb:=Ai.o
  have Lc:=An.o
  have Ld:=Aq.o
  obtain ⟨E1,E2,E3,E4,E5,E6,E7,E8,E9,Ea⟩:=cl5 A2.o
  rotate_left
  replace H:=iT H
  replace H:=be H
  obtain ⟨Ch,Mm,H⟩:=H
  replace H:=be H
  obtain ⟨C8,Ic,H⟩:=H
  cases C8
  replace H:=iF H
  have H':=am H
  clear H
  have Le:=Al.o
  have Lf:=Ai.o
  have Lg:=An.o
  have Lh:=Aq.o
  obtain ⟨Eb,Ec,Ed,Ee,Ef,Eg,Eh,Ei,Ej,Ek⟩:=cl5 A2.o
  rotate_left
  replace H:=iT H
  replace H:=be H
  obtain ⟨C0,Ki,H⟩:=H
  replace H:=be H
  obtain ⟨G5,Mn,H⟩:=H
  have H':=am H
  clear H
  have Li:=Al.o
  have Lj:=Ai.o
  have Lk:=An.o
  have Ll:=Aq.o
  obtain ⟨El,Em,En,Eo,Ep,Eq,Er,Es,Et,Eu⟩:=cl5 A2.o
  rotate_right
  rotate_right
  rotate_right
  · go_wp2_with (first|(go_at_call 12;refine cm (eO.calls k Ay Az B0 B1 _ _ Ah C0 _ (cq (Kd.S_reads' A4.o).2.2) ((Kd.S_reads' A4.o).2.1) Ki.o) ?_;rintro e w_ ⟨Ln,rfl,ho_,hb⟩;have n_:=jG (Kd.S_below (kqS A4.o) hb) (re_ A8 ho_ hb) (re_ Aa ho_ hb) (Kd.S_below (kqS Ab.o) hb) (Kd.S_below (kqS Ae.o) hb) (Kd.R_lower (Kd.R_new' (Kd.R_new' ho_ (Kd.R_lt (kqR A8.o))) (Kd.R_lt (kqR Aa.o))) (aH (bq3 HB.o A9.o Ac.o Ad.o))) (kb A1 hb) (kb A2 hb) (kb A5 hb) (aC (bq3 HB.o A9.o Ac.o Ad.o) hb);clear A4 A8 Aa Ab Ae A1 A2 A5 HB;obtain ⟨A4,A8,Aa,Ab,Ae,C6,A1,A2,A5,HB⟩:=n_;(try clear hb ho_);obtain ⟨Ev,Ew,Bw⟩:=Kd.R_slice A8.o;subst Bw;obtain ⟨Ig,Ih,Ey⟩:=Kd.R_slice C6.o;subst Ey)|(go_at_call 11;refine cm (cH.calls k _ _ Bc _ _ C0 C8 _ (cq (Kd.R_reads' A8.o).2.2) ((Kd.R_reads' A8.o).2.1) (cq (Kd.R_reads' C6.o).2.2) ((Kd.R_reads' C6.o).2.1) Ic.o) ?_;rintro e w' ⟨rfl,⟨nd,rfl⟩⟩))
    go_meet
    case rel=>exact ⟨_,(!C8),sq,H',⟨by first|omega|exact k7 _⟩,⟨by refine kr ?_;exact Kd.R_mono A8.o (fun _ hk=>trivial)⟩,⟨kqS A4.o⟩,⟨kqS Ab.o⟩,⟨kqS Ae.o⟩,⟨zq A1.o⟩,⟨zq A2.o⟩,⟨zq A5.o⟩,⟨bq3 HB.o A9.o Ac.o Ad.o⟩⟩
  · go_wp2_with (go_at_call 10;refine cm (bK.calls k B2 B6 B7 B8 _ _ Ak false _ (cq (Kd.S_reads' Ab.o).2.2) ((Kd.S_reads' Ab.o).2.1) Id.o) ?_;rintro e w_ ⟨rfl,hb⟩;have n_:=ak9 (Kd.S_below (kqS A4.o) hb) (rb A8 hb) (rb Aa hb) (Kd.S_below (kqS Ab.o) hb) (Kd.S_below (kqS Ae.o) hb) (kb A1 hb) (kb A2 hb) (kb A5 hb) (aC (bq3 HB.o A9.o Ac.o Ad.o) hb);clear A4 A8 Aa Ab Ae A1 A2 A5 HB;obtain ⟨A4,A8,Aa,Ab,Ae,A1,A2,A5,HB⟩:=n_;(try clear hb))
    go_meet
    case rel=>exact ⟨_,(true),sq,H',⟨by first|omega|exact k7 _⟩,⟨by refine kr ?_;exact Kd.R_mono A8.o (fun _ hk=>trivial)⟩,⟨kqS A4.o⟩,⟨kqS Ab.o⟩,⟨kqS Ae.o⟩,⟨zq A1.o⟩,⟨zq A2.o⟩,⟨zq A5.o⟩,⟨bq3 HB.o A9.o Ac.o Ad.o⟩⟩
  · go_wp2_with (first|(go_at_call 11;refine cm (cH.calls k _ _ Ch _ _ Bi false _ (cq (Kd.R_reads' Aw.o).2.2) ((Kd.R_reads' Aw.o).2.1) (cq (Kd.R_reads' Aa.o).2.2) ((Kd.R_reads' Aa.o).2.1) Ic.o) ?_;rintro e w' ⟨rfl,⟨nd,rfl⟩⟩)|(go_at_call 10;refine cm (bK.calls k B2 B6 B7 B8 _ _ Ak true _ (cq (Kd.S_reads' Ab.o).2.2) ((Kd.S_reads' Ab.o).2.1) Id.o) ?_;rintro e w_ ⟨rfl,hb⟩;have n_:=ak9 (Kd.S_below (kqS A4.o) hb) (rb A8 hb) (rb Aa hb) (Kd.S_below (kqS Ab.o) hb) (Kd.S_below (kqS Ae.o) hb) (kb A1 hb) (kb A2 hb) (kb A5 hb) (aC (bq3 HB.o A9.o Ac.o Ad.o) hb);clear A4 A8 Aa Ab Ae A1 A2 A5 HB;obtain ⟨A4,A8,Aa,Ab,Ae,A1,A2,A5,HB⟩:=n_;(try clear hb);obtain ⟨Gg,Gh,Gi,Gj,Gk,Gl,Gm,Gn,Go,Gp⟩:=cl5 A2.o)|(go_at_call 6;refine cm (bG.calls k B2 B6 B7 B8 _ _ Ak Ch _ (cq (Kd.S_reads' Ab.o).2.2) ((Kd.S_reads' Ab.o).2.1) Mm.o) ?_;rintro e w_ ⟨Lo,rfl,ho_,hb⟩;have n_:=jG (Kd.S_below (kqS A4.o) hb) (re_ A8 ho_ hb) (re_ Aa ho_ hb) (Kd.S_below (kqS Ab.o) hb) (Kd.S_below (kqS Ae.o) hb) (Kd.R_lower (Kd.R_new' (Kd.R_new' ho_ (Kd.R_lt (kqR A8.o))) (Kd.R_lt (kqR Aa.o))) (aH (bq3 HB.o A9.o Ac.o Ad.o))) (kb A1 hb) (kb A2 hb) (kb A5 hb) (aC (bq3 HB.o A9.o Ac.o Ad.o) hb);clear A4 A8 Aa Ab Ae A1 A2 A5 HB;obtain ⟨A4,A8,Aa,Ab,Ae,Aw,A1,A2,A5,HB⟩:=n_;(try clear hb ho_);obtain ⟨Ii,Ij,G1⟩:=Kd.R_slice Aw.o;subst G1))
    go_meet
    case rel=>exact ⟨_,(true),sq,H',⟨by first|omega|exact k7 _⟩,⟨by refine kr ?_;exact Kd.R_mono A8.o (fun _ hk=>trivial)⟩,⟨kqS A4.o⟩,⟨kqS Ab.o⟩,⟨kqS Ae.o⟩,⟨zq A1.o⟩,⟨zq A2.o⟩,⟨zq A5.o⟩,⟨bq3 HB.o A9.o Ac.o Ad.o⟩⟩
  · go_wp2_with (first|(go_at_call 12;refine cm (eO.calls k Ay Az B0 B1 _ _ Ah C0 _ (cq (Kd.S_reads' A4.o).2.2) ((Kd.S_reads' A4.o).2.1) Ki.o) ?_;rintro e w_ ⟨Lm,rfl,ho_,hb⟩;have n_:=iU (Kd.S_below (kqS A4.o) hb) (re_ A8 ho_ hb) (re_ Aa ho_ hb) (Kd.S_below (kqS Ab.o) hb) (Kd.S_below (kqS Ae.o) hb) (re_ Aw ho_ hb) (Kd.R_lower (Kd.R_new' (Kd.R_new' (Kd.R_new' ho_ (Kd.R_lt (kqR A8.o))) (Kd.R_lt (kqR Aa.o))) (Kd.R_lt (kqR Aw.o))) (aH (bq3 HB.o A9.o Ac.o Ad.o))) (kb A1 hb) (kb A2 hb) (kb A5 hb) (aC (bq3 HB.o A9.o Ac.o Ad.o) hb);clear A4 A8 Aa Ab Ae Aw A1 A2 A5 HB;obtain ⟨A4,A8,Aa,Ab,Ae,Aw,C5,A1,A2,A5,HB⟩:=n_;(try clear hb ho_);obtain ⟨Ev,Ew,Bw⟩:=Kd.R_slice A8.o;subst Bw;obtain ⟨Ie,If,Ex⟩:=Kd.R_slice C5.o;subst Ex)|(go_at_call 11;have:=C5;refine cm (cH.calls k _ _ Bc _ _ C0 G5 _ (cq (Kd.R_reads' A8.o).2.2) ((Kd.R_reads' A8.o).2.1) (cq (Kd.R_reads' C5.o).2.2) ((Kd.R_reads' C5.o).2.1) Mn.o) ?_;rintro e w' ⟨rfl,⟨nd,rfl⟩⟩)|(go_at_call 11;refine cm (cH.calls k _ _ Ch _ _ Bi true _ (cq (Kd.R_reads' Aw.o).2.2) ((Kd.R_reads' Aw.o).2.1) (cq (Kd.R_reads' Aa.o).2.2) ((Kd.R_reads' Aa.o).2.1) Ic.o) ?_;rintro e w' ⟨rfl,⟨nd,rfl⟩⟩;have Ez:=Au.o;have G0:=Av.o;obtain ⟨G6,G7,G8,G9,Ga,Gb,Gc,Gd,Ge,Gf⟩:=cl5 A1.o)|(go_at_call 10;refine cm (bK.calls k B2 B6 B7 B8 _ _ Ak true _ (cq (Kd.S_reads' Ab.o).2.2) ((Kd.S_reads' Ab.o).2.1) Id.o) ?_;rintro e w_ ⟨rfl,hb⟩;have n_:=ak9 (Kd.S_below (kqS A4.o) hb) (rb A8 hb) (rb Aa hb) (Kd.S_below (kqS Ab.o) hb) (Kd.S_below (kqS Ae.o) hb) (kb A1 hb) (kb A2 hb) (kb A5 hb) (aC (bq3 HB.o A9.o Ac.o Ad.o) hb);clear A4 A8 Aa Ab Ae A1 A2 A5 HB;obtain ⟨A4,A8,Aa,Ab,Ae,A1,A2,A5,HB⟩:=n_;(try clear hb);obtain ⟨Gg,Gh,Gi,Gj,Gk,Gl,Gm,Gn,Go,Gp⟩:=cl5 A2.o)|(go_at_call 6;refine cm (bG.calls k B2 B6 B7 B8 _ _ Ak Ch _ (cq (Kd.S_reads' Ab.o).2.2) ((Kd.S_reads' Ab.o).2.1) Mm.o) ?_;rintro e w_ ⟨Lo,rfl,ho_,hb⟩;have n_:=jG (Kd.S_below (kqS A4.o) hb) (re_ A8 ho_ hb) (re_ Aa ho_ hb) (Kd.S_below (kqS Ab.o) hb) (Kd.S_below (kqS Ae.o) hb) (Kd.R_lower (Kd.R_new' (Kd.R_new' ho_ (Kd.R_lt (kqR A8.o))) (Kd.R_lt (kqR Aa.o))) (aH (bq3 HB.o A9.o Ac.o Ad.o))) (kb A1 hb) (kb A2 hb) (kb A5 hb) (aC (bq3 HB.o A9.o Ac.o Ad.o) hb);clear A4 A8 Aa Ab Ae A1 A2 A5 HB;obtain ⟨A4,A8,Aa,Ab,Ae,Aw,A1,A2,A5,HB⟩:=n_;(try clear hb ho_);obtain ⟨Ii,Ij,G1⟩:=Kd.R_slice Aw.o;subst G1))
    go_meet
    case rel=>exact ⟨_,(!G5),sq,H',⟨by first|omega|exact k7 _⟩,⟨by refine kr ?_;exact Kd.R_mono A8.o (fun _ hk=>trivial)⟩,⟨kqS A4.o⟩,⟨kqS Ab.o⟩,⟨kqS Ae.o⟩,⟨zq A1.o⟩,⟨zq A2.o⟩,⟨zq A5.o⟩,⟨bq3 HB.o A9.o Ac.o Ad.o⟩⟩
 case rest=>
  clear K8
  try clear Cn
  try clear Co
  try clear Cp
  try clear Cq
  try clear Cr
  try clear Cx
  try clear Cy
  try clear Cz
  try clear D0
  try clear D1
  try clear D7
  try clear D8
  try clear D9
  try clear Da
  try clear Db
  try clear Dh
  try clear Di
  try clear Dj
  try clear Dk
  try clear Dl
  try clear Cs
  try clear Ct
  try clear Cu
  try clear Cv
  try clear Cw
  try clear D2
  try clear D3
  try clear D4
  try clear D5
  try clear D6
  try clear Dc
  try clear Dd
  try clear De
  try clear Df
  try clear Dg
  try clear Dm
  try clear Dn
  try clear Do
  try clear Dp
  try clear Dq
  obtain ⟨kq,C7,rfl,HA,Nq,At,A3,A6,A7,A1,A2,A5,HB⟩:=hcut
  cases kq with
  |zero=>exact absurd HA.o (by simp [laws_FnPdus.j0])
  |succ C9=>
   have H:=HA.o
   clear HA
   simp only [laws_FnPdus.j0] at H
   rcases Decidable.em (C7=true) with H6|H6
   · subst H6
     replace H:(some false)=some r:=by rw [if_pos rfl] at H;exact H
     exact absurd ((k6 H).trans HRT.o) (by decide)
   replace H6:=Bool.eq_false_iff.mpr H6
   subst H6
   replace H:(if (Bc.length:Int)=0 then (if B2=0 then (some true) else (some B9)) else ((cK.f C9 Bc).bind fun Bh=>((bY.f C9 l0).bind fun Bx=>(if Bh.2.2.2.2.2=true then ((e6.f C9 Bh.1 Bh.2.1 Bh.2.2.1 Bh.2.2.2.1 Bh.2.2.2.2.1 Ay Az B0 B1 Ah).bind fun Ci=>(if Ci=true then ((bK.f C9 Ay Az B0 B1 Ah).bind fun C1=>(if C1=true then ((bL.f C9 Bx.1 Bx.2).bind fun Cj=>((bP.f C9 Bx.1 Bx.2).bind fun Ck=>(some (Cj==Ck)))) else (some false))) else (some false))) else (some false)))))=some r:=by rw [if_neg (show ¬(false=true) by decide)] at H;exact H
   replace H:=iq H
   rcases H with ⟨-,H7,H8,H⟩|⟨Mo,H7,H8,H⟩
   · replace H:=iq' H
     rcases H with ⟨Nr,H9,Ha,H⟩|⟨-,H9,Ha,H⟩
     · obtain rfl:=k6 H
       obtain ⟨Mp,Mq,Kj⟩:=Kd.R_slice At.o
       subst Kj
       have Lp:=Al.o
       have Lq:=Ai.o
       have Lr:=An.o
       have Ls:=Aq.o
       obtain ⟨Je,Jf,Jg,Jh,Ji,Jj,Jk,Jl,Jm,Jn⟩:=cl5 A2.o
       go_wp2
       go_ret
       exact ⟨rq,bq3 HB.o A9.o Ac.o Ad.o⟩
     obtain rfl:=k6 H
     obtain ⟨Mr,Ms,Kk⟩:=Kd.R_slice At.o
     subst Kk
     have Lt:=Al.o
     have Lu:=Ai.o
     have Lv:=An.o
     have Lw:=Aq.o
     obtain ⟨Jo,Jp,Jq,Jr,Js,Jt,Ju,Jv,Jw,Jx⟩:=cl5 A2.o
     go_wp2
     go_ret
     exact ⟨rq,bq3 HB.o A9.o Ac.o Ad.o⟩
   have Lx:¬(Bc=[]):=fun h_=>Mo (by rw [h_];rfl)
   replace H:=be H
   obtain ⟨⟨Bn,Bo,Bp,Bq,B3,Hb⟩,Mt,H⟩:=H
   try dsimp only at H
   replace H:=be H
   obtain ⟨⟨Cl,Cm⟩,Mu,H⟩:=H
   try dsimp only at H
   cases Hb
   · replace H:=iF H
     exact absurd ((k6 H).trans HRT.o) (by decide)
   replace H:=iT H
   replace H:=be H
   obtain ⟨Ci,Mv,H⟩:=H
   cases Ci
   · replace H:=iF H
     exact absurd ((k6 H).trans HRT.o) (by decide)
   replace H:=iT H
   replace H:=be H
   obtain ⟨C1,Id,H⟩:=H
   cases C1
   · replace H:=iF H
     exact absurd ((k6 H).trans HRT.o) (by decide)
   replace H:=iT H
   replace H:=be H
   obtain ⟨Cj,Mw,H⟩:=H
   replace H:=be H
   obtain ⟨Ck,Mx,H⟩:=H
   obtain rfl:=k6 H
   obtain ⟨My,Mz,Kl⟩:=Kd.R_slice At.o
   subst Kl
   go_wp2_with (first|((with_reducible refine aE (f:=8) rfl ?_);refine gc (some 68) (cK.calls C9 _ _ Bc Bn Bo Bp Bq B3 true _ (cq (Kd.R_reads' At.o).2.2) ((Kd.R_reads' At.o).2.1) Mt.o) Try.func8 ?_;rintro e Ns ⟨Ly,rfl,Bd,hb⟩;refine ⟨_,rfl,?_⟩;have n_:=ak9 (rb At hb) (Kd.S_elder' (kqS A3.o) (Kd.S_base Bd) hb) (Kd.S_elder' (kqS A6.o) (Kd.S_base Bd) hb) (Kd.S_elder' (kqS A7.o) (Kd.S_base Bd) hb) (Kd.S_lower (Kd.S_new' (Kd.S_new' (Kd.S_new' Bd (Kd.S_lt (kqS A3.o))) (Kd.S_lt (kqS A6.o))) (Kd.S_lt (kqS A7.o))) (aH (bq3 HB.o A9.o Ac.o Ad.o))) (kb A1 hb) (kb A2 hb) (kb A5 hb) (aC (bq3 HB.o A9.o Ac.o Ad.o) hb);clear At A3 A6 A7 A1 A2 A5 HB;obtain ⟨At,A3,A6,A7,Af,A1,A2,A5,HB⟩:=n_;(try clear hb Bd))|((with_reducible refine aJ (N:=10) rfl ?_);refine bxe 10 #[.int .i64 0,.int .i64 0,.int .i64 0,.int .i64 0,.slice none 0 0] 26 ?_;intro Aj hg N0 hbox hb;have Gw:=am (rb At hb);have Gx:=am (Kd.S_below (kqS A3.o) hb);have Gy:=am (Kd.S_below (kqS A6.o) hb);have Gz:=am (Kd.S_below (kqS A7.o) hb);have H0:=am (Kd.S_below (kqS Af.o) hb);have H1:=am (kb A1 hb);have H2:=am (kb A2 hb);have H3:=am (kb A5 hb);have H4:=am (aC (bq3 HB.o A9.o Ac.o Ad.o) hb);have H5:=am (hbox);have Cb:=am (bz hg (bq3 HB.o A9.o Ac.o Ad.o));have Cc:=am (bz hg (bq3 HB.o A9.o Ac.o Ad.o));have Cd:=am (nL hg A1);have Ce:=am (nG hg A1);have Cf:=am (nL hg A2);have Hc:=am (nG hg A2);have Hd:=am (nL hg A5);have He:=am (nG hg A5);clear At;clear A3;clear A6;clear A7;clear Af;clear A1;clear A2;clear A5;clear HB;have At:=Gw;have A3:=Gx;have A6:=Gy;have A7:=Gz;have Af:=H0;have A1:=H1;have A2:=H2;have A5:=H3;have HB:=H4;have Ag:=H5;have Km:=Cb;have Ax:=Cc;have Bk:=Cd;have C2:=Ce;have Bl:=Cf;have C3:=Hc;have Bm:=Hd;have C4:=He;clear Gw Gx Gy Gz H0 H1 H2 H3 H4 H5 Cb Cc Cd Ce Cf Hc Hd He;clear hb hbox hg;have Lz:=C2.o;have M0:=Bk.o;have M1:=C3.o;have M2:=Bl.o;have M3:=C4.o;have M4:=Bm.o;obtain ⟨Jy,Jz,K0,K1,K2,K3,K4,K5,K6,K7⟩:=cl5 Ag.o;obtain ⟨By,Bz,Kn⟩:=Kd.S_slice Af.o;subst Kn)|((with_reducible refine aQ (t:=26) (p:=10) rfl ?_);refine se 26 10 (s5 N0 Aj (.int .i64 Bn) (.int .i64 Bo) (.int .i64 Bp) (.int .i64 Bq) (.slice By B3.length Bz)) ?_;intro G2 hw;have n_:=jG (sr5 hw At Ag) (show Kd.S k45 45 G2 w.heap.size (fun k_=>some k_≠(.slice B4 Ak.length B5:Value).ownBlock∧some k_≠(.slice Bf Ar.length Bg:Value).ownBlock∧some k_≠(.slice By B3.length Bz:Value).ownBlock) (.slice Ba Ah.length Bb) Ah by rw [hw];exact (by (with_reducible repeat (first|apply Kd.S_alloc|apply Kd.S_drewN|apply Kd.S_drew));exact Kd.S_mono (Kd.S_far (p:=⟨Aj,4,none⟩) (Kd.S_far (p:=⟨Aj,3,none⟩) (Kd.S_far (p:=⟨Aj,2,none⟩) (Kd.S_far (p:=⟨Aj,1,none⟩) (Kd.S_far (p:=⟨Aj,0,none⟩) (Kd.S_types A3.o Ag.o (by decide)) (fun _ hk=>hk.2) (.int .i64 Bn)) (fun _ hk=>hk.2) (.int .i64 Bo)) (fun _ hk=>hk.2) (.int .i64 Bp)) (fun _ hk=>hk.2) (.int .i64 Bq)) (fun _ hk=>hk.2) (.slice By B3.length Bz)) (fun _ hk=>⟨hk.1.1.1,⟨hk.1.1.2,hk.1.2⟩⟩))) (show Kd.S k45 45 G2 w.heap.size (fun k_=>some k_≠(.slice Ba Ah.length Bb:Value).ownBlock∧some k_≠(.slice Bf Ar.length Bg:Value).ownBlock∧some k_≠(.slice By B3.length Bz:Value).ownBlock) (.slice B4 Ak.length B5) Ak by rw [hw];exact (by (with_reducible repeat (first|apply Kd.S_alloc|apply Kd.S_drewN|apply Kd.S_drew));exact Kd.S_mono (Kd.S_far (p:=⟨Aj,4,none⟩) (Kd.S_far (p:=⟨Aj,3,none⟩) (Kd.S_far (p:=⟨Aj,2,none⟩) (Kd.S_far (p:=⟨Aj,1,none⟩) (Kd.S_far (p:=⟨Aj,0,none⟩) (Kd.S_types A6.o Ag.o (by decide)) (fun _ hk=>hk.2) (.int .i64 Bn)) (fun _ hk=>hk.2) (.int .i64 Bo)) (fun _ hk=>hk.2) (.int .i64 Bp)) (fun _ hk=>hk.2) (.int .i64 Bq)) (fun _ hk=>hk.2) (.slice By B3.length Bz)) (fun _ hk=>⟨hk.1.1.1,⟨hk.1.1.2,hk.1.2⟩⟩))) (show Kd.S k45 45 G2 w.heap.size (fun k_=>some k_≠(.slice Ba Ah.length Bb:Value).ownBlock∧some k_≠(.slice B4 Ak.length B5:Value).ownBlock∧some k_≠(.slice By B3.length Bz:Value).ownBlock) (.slice Bf Ar.length Bg) Ar by rw [hw];exact (by (with_reducible repeat (first|apply Kd.S_alloc|apply Kd.S_drewN|apply Kd.S_drew));exact Kd.S_mono (Kd.S_far (p:=⟨Aj,4,none⟩) (Kd.S_far (p:=⟨Aj,3,none⟩) (Kd.S_far (p:=⟨Aj,2,none⟩) (Kd.S_far (p:=⟨Aj,1,none⟩) (Kd.S_far (p:=⟨Aj,0,none⟩) (Kd.S_types A7.o Ag.o (by decide)) (fun _ hk=>hk.2) (.int .i64 Bn)) (fun _ hk=>hk.2) (.int .i64 Bo)) (fun _ hk=>hk.2) (.int .i64 Bp)) (fun _ hk=>hk.2) (.int .i64 Bq)) (fun _ hk=>hk.2) (.slice By B3.length Bz)) (fun _ hk=>⟨hk.1.1.1,⟨hk.1.1.2,hk.1.2⟩⟩))) (show Kd.S k45 45 G2 w.heap.size (fun k_=>some k_≠(.slice Ba Ah.length Bb:Value).ownBlock∧some k_≠(.slice B4 Ak.length B5:Value).ownBlock∧some k_≠(.slice Bf Ar.length Bg:Value).ownBlock) (.slice By B3.length Bz) B3 by rw [hw];exact (by (with_reducible repeat (first|apply Kd.S_alloc|apply Kd.S_drewN|apply Kd.S_drew));exact Kd.S_mono (Kd.S_far (p:=⟨Aj,4,none⟩) (Kd.S_far (p:=⟨Aj,3,none⟩) (Kd.S_far (p:=⟨Aj,2,none⟩) (Kd.S_far (p:=⟨Aj,1,none⟩) (Kd.S_far (p:=⟨Aj,0,none⟩) (Kd.S_types Af.o Ag.o (by decide)) (fun _ hk=>hk.2) (.int .i64 Bn)) (fun _ hk=>hk.2) (.int .i64 Bo)) (fun _ hk=>hk.2) (.int .i64 Bp)) (fun _ hk=>hk.2) (.int .i64 Bq)) (fun _ hk=>hk.2) (.slice By B3.length Bz)) (fun _ hk=>⟨hk.1.1.1.2,⟨hk.1.1.2,hk.1.2⟩⟩))) (sf5 hw A1 Bk) (sf5 hw A2 Bl) (sf5 hw A5 Bm) (sc5 hw Ag) (sb hw (bq4 HB.o A9.o Ac.o Ad.o Ax.o));clear hw At A3 A6 A7 Af A1 A2 A5 Ag HB;obtain ⟨At,A3,A6,A7,Af,A1,A2,A5,Ag,HB⟩:=n_)|((with_reducible refine aE (f:=13) rfl ?_);refine gc (some 73) (bY.calls C9 _ _ l0 Cl Cm _ (cq (Kd.C_below Gr.o HB.o)) Gs.o Mu.o) Try.func13 ?_;rintro e N1 ⟨M5,M6,rfl,Bd,Gq,hb⟩;refine ⟨_,rfl,?_⟩;have n_:=gA (rb At hb) (Kd.S_mono (Kd.S_told (Kd.S_told (Kd.S_old (kqS A3.o) hb) (Kd.S_base Bd)) (Kd.S_base Gq)) (fun _ h_=>h_.1)) (Kd.S_mono (Kd.S_told (Kd.S_told (Kd.S_old (kqS A6.o) hb) (Kd.S_base Bd)) (Kd.S_base Gq)) (fun _ h_=>h_.1)) (Kd.S_mono (Kd.S_told (Kd.S_told (Kd.S_old (kqS A7.o) hb) (Kd.S_base Bd)) (Kd.S_base Gq)) (fun _ h_=>h_.1)) (Kd.S_mono (Kd.S_told (Kd.S_told (Kd.S_old (kqS Af.o) hb) (Kd.S_base Bd)) (Kd.S_base Gq)) (fun _ h_=>h_.1)) (Kd.S_lower (Kd.S_new' (Kd.S_new' (Kd.S_new' (Kd.S_new' Bd (Kd.S_lt (kqS A3.o))) (Kd.S_lt (kqS A6.o))) (Kd.S_lt (kqS A7.o))) (Kd.S_lt (kqS Af.o))) (aH (bq4 HB.o A9.o Ac.o Ad.o Ax.o))) (Kd.S_lower (Kd.S_new' (Kd.S_new' (Kd.S_new' (Kd.S_new' Gq (Kd.S_lt (kqS A3.o))) (Kd.S_lt (kqS A6.o))) (Kd.S_lt (kqS A7.o))) (Kd.S_lt (kqS Af.o))) (aH (bq4 HB.o A9.o Ac.o Ad.o Ax.o))) (kb A1 hb) (kb A2 hb) (kb A5 hb) (kb Ag hb) (aC (bq4 HB.o A9.o Ac.o Ad.o Ax.o) hb);clear At A3 A6 A7 Af A1 A2 A5 Ag HB;obtain ⟨At,A3,A6,A7,Af,Ao,Ap,A1,A2,A5,Ag,HB⟩:=n_;(try clear hb Bd Gq);obtain ⟨Hf,Hg,Hh,Hi,Hj,Hk,Hl,Hm,Hn,Ho⟩:=cl5 Ag.o;have Ko:=Ai.o;have Kp:=Al.o;have Kq:=Au.o;have Kr:=Av.o;obtain ⟨Hp,Hq,Hr,Hs,Ht,Hu,Hv,Hw,Hx,Hy⟩:=cl5 A1.o)|(go_at_call 14;refine cm (e6.calls C9 Bn Bo Bp Bq _ _ B3 Ay Az B0 B1 _ _ Ah true _ (cq (Kd.S_reads' Af.o).2.2) ((Kd.S_reads' Af.o).2.1) (cq (Kd.S_reads' A3.o).2.2) ((Kd.S_reads' A3.o).2.1) Mv.o) ?_;rintro e N2 ⟨rfl,hb⟩;have n_:=gA (rb At hb) (Kd.S_below (kqS A3.o) hb) (Kd.S_below (kqS A6.o) hb) (Kd.S_below (kqS A7.o) hb) (Kd.S_below (kqS Af.o) hb) (Kd.S_below (kqS Ao.o) hb) (Kd.S_below (kqS Ap.o) hb) (kb A1 hb) (kb A2 hb) (kb A5 hb) (kb Ag hb) (aC (bq4 HB.o A9.o Ac.o Ad.o Ax.o) hb);clear At A3 A6 A7 Af Ao Ap A1 A2 A5 Ag HB;obtain ⟨At,A3,A6,A7,Af,Ao,Ap,A1,A2,A5,Ag,HB⟩:=n_;(try clear hb);obtain ⟨Hz,I0,I1,I2,I3,I4,I5,I6,I7,I8⟩:=cl5 A1.o)|(go_at_call 10;refine cm (bK.calls C9 Ay Az B0 B1 _ _ Ah true _ (cq (Kd.S_reads' A3.o).2.2) ((Kd.S_reads' A3.o).2.1) Id.o) ?_;rintro e N3 ⟨rfl,hb⟩;have n_:=gA (rb At hb) (Kd.S_below (kqS A3.o) hb) (Kd.S_below (kqS A6.o) hb) (Kd.S_below (kqS A7.o) hb) (Kd.S_below (kqS Af.o) hb) (Kd.S_below (kqS Ao.o) hb) (Kd.S_below (kqS Ap.o) hb) (kb A1 hb) (kb A2 hb) (kb A5 hb) (kb Ag hb) (aC (bq4 HB.o A9.o Ac.o Ad.o Ax.o) hb);clear At A3 A6 A7 Af Ao Ap A1 A2 A5 Ag HB;obtain ⟨At,A3,A6,A7,Af,Ao,Ap,A1,A2,A5,Ag,HB⟩:=n_;(try clear hb);obtain ⟨M7,M8,I9⟩:=Kd.S_slice Ao.o;subst I9;obtain ⟨M9,Ma,Ia⟩:=Kd.S_slice Ap.o;subst Ia)|(go_at_call 15;refine cm (bL.calls C9 _ _ Cl _ _ Cm Cj _ (cq (Kd.S_reads' Ao.o).2.2) ((Kd.S_reads' Ao.o).2.1) (cq (Kd.S_reads' Ap.o).2.2) ((Kd.S_reads' Ap.o).2.1) Mw.o) ?_;rintro e N4 ⟨rfl,hb⟩;have n_:=gA (rb At hb) (Kd.S_below (kqS A3.o) hb) (Kd.S_below (kqS A6.o) hb) (Kd.S_below (kqS A7.o) hb) (Kd.S_below (kqS Af.o) hb) (Kd.S_below (kqS Ao.o) hb) (Kd.S_below (kqS Ap.o) hb) (kb A1 hb) (kb A2 hb) (kb A5 hb) (kb Ag hb) (aC (bq4 HB.o A9.o Ac.o Ad.o Ax.o) hb);clear At A3 A6 A7 Af Ao Ap A1 A2 A5 Ag HB;obtain ⟨At,A3,A6,A7,Af,Ao,Ap,A1,A2,A5,Ag,HB⟩:=n_;(try clear hb))|(go_at_call 16;refine cm (bP.calls C9 _ _ Cl _ _ Cm Ck _ (cq (Kd.S_reads' Ao.o).2.2) ((Kd.S_reads' Ao.o).2.1) (cq (Kd.S_reads' Ap.o).2.2) ((Kd.S_reads' Ap.o).2.1) Mx.o) ?_;rintro e N5 ⟨rfl,hb⟩;have n_:=gA (rb At hb) (Kd.S_below (kqS A3.o) hb) (Kd.S_below (kqS A6.o) hb) (Kd.S_below (kqS A7.o) hb) (Kd.S_below (kqS Af.o) hb) (Kd.S_below (kqS Ao.o) hb) (Kd.S_below (kqS Ap.o) hb) (kb A1 hb) (kb A2 hb) (kb A5 hb) (kb Ag hb) (aC (bq4 HB.o A9.o Ac.o Ad.o Ax.o) hb);clear At A3 A6 A7 Af Ao Ap A1 A2 A5 Ag HB;obtain ⟨At,A3,A6,A7,Af,Ao,Ap,A1,A2,A5,Ag,HB⟩:=n_;(try clear hb)))
   go_ret
   exact ⟨rq,bq4 HB.o A9.o Ac.o Ad.o Ax.o⟩
def laws_FnPdus.Pure:Prop:=∀(l0:List Int),l0.length≤maxLen→(∀y ∈ l0,(Lit.int .u8 y).wf=true)→∃k,laws_FnPdus.f k l0=some true
end Go.Proofs.Ytgppikopdpeigaa.XFnPdus
