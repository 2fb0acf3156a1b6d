/- The functions that one law reaches, as Lean functions, with their walks: printed by a program of this seat (wip/tools) out of the translation. -/
import Derived.Test.YtgppikopdpeigaaXFnPdusx0
import Derived.Test.YtgppikopdpeigaaXFnPdusx1
import Derived.Test.YtgppikopdpeigaaXFnPdusx2
import Derived.Test.YtgppikopdpeigaaXFnPdusx11
import Derived.Test.YtgppikopdpeigaaXFnPdusx12
import Derived.Test.YtgppikopdpeigaaXFnPdusx13
namespace Go.Proofs.Ytgppikopdpeigaa.XFnPdus
open Go.RowKit Go.Proofs.YtgppikopdpeigaaW.PrintWords Go.Proofs.YtgppikopdpeigaaW.PrintLast Go.Proofs.YtgppikopdpeigaaW.PrintMore
attribute [local go_sem] cO cP dH dI cC cD cQ cR
set_option linter.unusedVariables false
set_option linter.unusedSimpArgs false
set_option maxHeartbeats 8000000
set_option maxRecDepth 100000
def dN.f (k:Nat) (Ac:Int) (A2:Int) (A3:Int) (A4:Int) (A5:List (S45)):Option (List Int × Bool):=(cA.f k A5).bind fun A0=>(if (A0.length:Int)>250 then (some ((([]:List Int)),false)) else ((cJ.f k A2).bind fun A6=>((bT.f k (([]:List Int)) 2 A6).bind fun A7=>((cJ.f k A3).bind fun A8=>((bT.f k A7 2 A8).bind fun A9=>((cJ.f k A4).bind fun Aa=>((bT.f k A9 2 Aa).bind fun Ab=>((bT.f k Ab 48 A0).bind fun A1=>(some (A1,decide ((A1.length:Int)≤250)))))))))))
def dN.T4:Bool × List (List Nat × List Nat):=(true,[([],[]),([],[]),([1],[1]),([2],[2]),([0,3,3],[0,3]),([],[]),([5],[5]),([6,4],[6]),([4,7,7],[4,7]),([],[]),([9],[9]),([10,8],[10]),([8,11,11],[8,11]),([12,12,0,1,2,3,4,5,6,7,8,9,10,11,12],[12])])
def dN.B4:List Nat:=[0,0,2,6,15,0,32,127,255,0,512,2047,4095,8191]
theorem dN.tab4:eR .any (fM Try.f40 4)=dN.T4:=by kernel_rfl
theorem dN.bits4:eJ dN.T4.2 dN.B4=true:=by kernel_rfl
theorem dN.calls (k:Nat) (Ai:Int) (Ad:Int) (Ae:Int) (Af:Int) (Aj:Option Addr) (Ak:Nat) (Ac:List (S45)) (r1:List Int) (r2:Bool) (w:World) (B3:Kd.C k45 w Aj Ac.length Ac) (B4:Ac.length≤Ak) (h:dN.f k Ai Ad Ae Af Ac=some (r1,r2)):
 Calls Try.prog 40 #[.agg #[.int .i64 Ai,.int .i64 Ad,.int .i64 Ae,.int .i64 Af,.slice Aj Ac.length Ak]] w fun e w'=>∃Co:Value,e=.returned (.tuple #[Co,.bool r2])∧Kd.R (Kd.int .u8) 5 w' w.heap.size (fun _=>True) Co r1∧Below w.heap.size w w':=by
 have Cw:=Try.underlying26
 have B5:=am B3
 have B6:=am B4
 clear B3 B4
 have HB:=am (Below.refl w.heap.size w)
 have H:=h
 clear h
 unfold dN.f at H
 replace H:=be H
 obtain ⟨Aa,Cp,H⟩:=H
 replace H:=ig H
 rcases H with ⟨c3,Bw,H⟩|⟨c3,Bw,H⟩
 · have Bx:decide (250<Aa.length)=true:=k8 (by omega)
   clear c3
   generalize B7:((([]:List Int)):List Int)=Cx at H
   have B8:=am B7.symm
   clear B7
   simp only [k4,k5] at H
   obtain ⟨rfl,rfl⟩:=H
   go_enter Try.func40,Try.ntmps40
   go_wp2_with (first|((with_reducible refine aJ (N:=1) rfl ?_);refine bxe 1 #[.int .i64 Ai,.int .i64 Ad,.int .i64 Ae,.int .i64 Af,.slice Aj Ac.length Ak] 26 ?_;intro A8 hg w4 hbox hb;have n_:=ak4 (aC (bq HB.o) hb) hbox (bz hg (bq HB.o)) (bz hg (bq HB.o));clear HB;obtain ⟨HB,A0,Bd,A4⟩:=n_;clear hb hbox hg;obtain ⟨By,Bz,C0,C1,C2,C3,C4,C5,C6,C7⟩:=cl5 A0.o)|((with_reducible refine aE (f:=67) rfl ?_);refine gc (some 8) (cA.calls k _ _ Ac Aa _ (cq (Kd.C_below B5.o HB.o)) B6.o Cp.o) Try.func67 ?_;rintro e w6 ⟨C8,rfl,A6,hb⟩;refine ⟨_,rfl,?_⟩;have n_:=ak3 (rl A6 (bq1 HB.o A4.o)) (kb A0 hb) (aC (bq1 HB.o A4.o) hb);clear A0 HB;obtain ⟨A1,A0,HB⟩:=n_;(try clear hb A6);obtain ⟨Di,Dj,Cy⟩:=Kd.R_slice A1.o;subst Cy)|((with_reducible refine aJ (N:=12) rfl ?_);refine Kd.R_lit (Kd.int .u8) _ 5 ?hg (N:=12) ?hd (xs:=([]:List Int)) (inner:=[]) (ok:=fun _=>True) (okp:=fun _=>True) ?hr ?hp (fun _ hk=>hk) trivial (Below.refl _ _) (k7 _) (by simp) ?_;(case hd=>rfl);(case hg=>rfl);(case hr=>exact gs);(case hp=>exact (bD.none _ _));intro Cz w8 Bc hb hg_ hnew_;clear hg_ hnew_;(first|rw [← B8.o] at Bc|(simp only [Int.reduceToNat] at Bc;rw [← B8.o] at Bc));have n_:=ak4 (re_ A1 Bc hb) (rn_ Bc A1 (bq1 HB.o A4.o)) (kb A0 hb) (aC (bq1 HB.o A4.o) hb);clear A1 A0 HB;obtain ⟨A1,Be,A0,HB⟩:=n_;clear hb Bc))
   go_ret2
   exact ⟨_,rq,by refine kr ?_;exact Kd.R_mono Be.o (fun _ hk=>trivial),bq1 HB.o A4.o⟩
 have Bx:decide (250<Aa.length)=false:=decide_eq_false (by omega)
 clear c3
 generalize B9:((([]:List Int)):List Int)=B2 at H
 have Aq:=am B9.symm
 clear B9
 replace H:=be H
 obtain ⟨Ah,Cq,H⟩:=H
 replace H:=be H
 obtain ⟨Au,D0,H⟩:=H
 replace H:=be H
 obtain ⟨Av,D1,H⟩:=H
 replace H:=be H
 obtain ⟨Aw,D2,H⟩:=H
 replace H:=be H
 obtain ⟨Ax,D3,H⟩:=H
 replace H:=be H
 obtain ⟨Ba,D4,H⟩:=H
 replace H:=be H
 obtain ⟨Bf,D5,H⟩:=H
 simp only [k4,k5] at H
 obtain ⟨rfl,rfl⟩:=H
 go_enter Try.func40,Try.ntmps40
 try go_wp2_with (first|((with_reducible refine aJ (N:=1) rfl ?_);refine bxe 1 #[.int .i64 Ai,.int .i64 Ad,.int .i64 Ae,.int .i64 Af,.slice Aj Ac.length Ak] 26 ?_;intro A8 hg Dk hbox hb;have n_:=ak4 (aC (bq HB.o) hb) hbox (bz hg (bq HB.o)) (bz hg (bq HB.o));clear HB;obtain ⟨HB,A0,Bd,A4⟩:=n_;clear hb hbox hg;obtain ⟨Bm,Bn,Bo,Bp,Bq,Br,Bs,Bt,Bu,Bv⟩:=cl5 A0.o)|((with_reducible refine aE (f:=67) rfl ?_);refine gc (some 8) (cA.calls k _ _ Ac Aa _ (cq (Kd.C_below B5.o HB.o)) B6.o Cp.o) Try.func67 ?_;rintro e D6 ⟨C8,rfl,A6,hb⟩;refine ⟨_,rfl,?_⟩;have n_:=ak3 (rl A6 (bq1 HB.o A4.o)) (kb A0 hb) (aC (bq1 HB.o A4.o) hb);clear A0 HB;obtain ⟨A1,A0,HB⟩:=n_;(try clear hb A6);obtain ⟨Ar,As,C9⟩:=Kd.R_slice A1.o;subst C9))
 have n_:=ak3 (Kd.R_drew A1.o) (a7 A0.o) (bB HB.o)
 clear A1 A0 HB
 obtain ⟨A1,A0,HB⟩:=n_
 refine cW (n:=14) (S:=fun w'=>w'.cell? ⟨A8,0,none⟩=some (.int .i64 Ai)∧w'.cell? ⟨A8,1,none⟩=some (.int .i64 Ad)∧w'.cell? ⟨A8,2,none⟩=some (.int .i64 Ae)∧w'.cell? ⟨A8,3,none⟩=some (.int .i64 Af)∧w'.cell? ⟨A8,4,none⟩=some (.slice Aj Ac.length Ak)) (ds:=[]) #[F,F,F,F,F,F,F,F,F,F,F,F,F,F] (by kernel_rfl) rfl rfl ⟨(aA A0.o 0).trans rfl,(aA A0.o 1).trans rfl,(aA A0.o 2).trans rfl,(aA A0.o 3).trans rfl,(aA A0.o 4).trans rfl⟩ (fun hHeld=>?_);refine bW dN.tab4 dN.bits4 (fun HT_ HW_=>?_)
 generalize D6.drew=Dl at A1 A0 HB hHeld ⊢
 refine pv HT_ 1 (some 14) #[F,T,F,F,F,F,F,F,F,F,F,F,F,F] ?_
 refine pv HT_ 5 (some 18) #[F,T,F,F,F,T,F,F,F,F,F,F,F,F] ?_
 refine pv HT_ 9 (some 22) #[F,T,F,F,F,T,F,F,F,T,F,F,F,F] ?_
 refine tk 2 (some 15) #[F,T,T,F,F,T,F,F,F,T,F,F,F,F] rfl rfl (aZ HT_.o HW_.o (by kernel_rfl)) hHeld (Or.inl ⟨by rfl,by rintro w' ⟨s0,s1,s2,s3,s4⟩;go_simp;with_reducible rfl⟩) ?_
 refine tk 6 (some 19) #[F,T,T,F,F,T,T,F,F,T,F,F,F,F] rfl rfl (aZ HT_.o HW_.o (by kernel_rfl)) hHeld (Or.inl ⟨by rfl,by rintro w' ⟨s0,s1,s2,s3,s4⟩;go_simp;with_reducible rfl⟩) ?_
 refine tk 10 (some 23) #[F,T,T,F,F,T,T,F,F,T,T,F,F,F] rfl rfl (aZ HT_.o HW_.o (by kernel_rfl)) hHeld (Or.inl ⟨by rfl,by rintro w' ⟨s0,s1,s2,s3,s4⟩;go_simp;with_reducible rfl⟩) ?_
 refine kM (σ:=Value × Value) 6 #[T,T,T,T,F,T,T,F,F,T,T,F,F,F] (fun s_=>[(13,s_.1),(16,s_.2)]) (fun s_ w'=>(w'.cell? ⟨A8,0,none⟩=some (.int .i64 Ai)∧w'.cell? ⟨A8,1,none⟩=some (.int .i64 Ad)∧w'.cell? ⟨A8,2,none⟩=some (.int .i64 Ae)∧w'.cell? ⟨A8,3,none⟩=some (.int .i64 Af)∧w'.cell? ⟨A8,4,none⟩=some (.slice Aj Ac.length Ak))∧(Kd.R (Kd.int .u8) 5 w' w.heap.size (fun k_=>some k_≠(s_.1:Value).ownBlock∧some k_≠(s_.2:Value).ownBlock) (.slice Ar Aa.length As) Aa)∧(Kd.R (Kd.int .u8) 5 w' w.heap.size (fun k_=>some k_≠(.slice Ar Aa.length As:Value).ownBlock∧some k_≠(s_.2:Value).ownBlock) s_.1 B2)∧(Kd.R (Kd.int .u8) 5 w' w.heap.size (fun k_=>some k_≠(.slice Ar Aa.length As:Value).ownBlock∧some k_≠(s_.1:Value).ownBlock) s_.2 Ah)∧(w'.heap[A8]? =some (.cells #[.int .i64 Ai,.int .i64 Ad,.int .i64 Ae,.int .i64 Af,.slice Aj Ac.length Ak] 26 (0,0)))∧(Below w.heap.size w w')) ?_ ?_
 rotate_left
 · intro hCont
   refine two_ (i:=0) (j:=3) (Ni:=some 13) (Nj:=some 16) #[T,T,T,F,F,T,T,F,F,T,T,F,F,F] #[F,T,T,T,F,T,T,F,F,T,T,F,F,F] rfl rfl rfl rfl (kE HT_.o (by kernel_rfl)) (by decide) (by decide) (fun K hK=>?_) (fun K hK=>?_)
   · skip
     refine Kd.R_lit_step (Kd.int .u8) _ 5 ?hg (N:=13) ?hd (xs:=([]:List Int)) (inner:=[]) (ok:=fun _=>True) (okp:=fun _=>True) ?hr ?hp (fun _ hk=>hk) trivial (Below.refl _ _) (k7 _) (by simp) ?_;(case hd=>rfl);(case hg=>rfl);(case hr=>exact gs);(case hp=>exact (bD.none _ _))
     intro An D7 At hb hg_ hnew_
     clear hg_ hnew_
     (first|rw [← Aq.o] at At|(simp only [Int.reduceToNat] at At;rw [← Aq.o] at At))
     have n_:=ak4 (re_ A1 At hb) (rn_ At A1 (bq1 HB.o A4.o)) (kb A0 hb) (aC (bq1 HB.o A4.o) hb)
     clear A1 A0 HB
     obtain ⟨A1,A2,A0,HB⟩:=n_
     clear hb At
     refine hK.out _ _ ⟨(aA A0.o 0).trans rfl,(aA A0.o 1).trans rfl,(aA A0.o 2).trans rfl,(aA A0.o 3).trans rfl,(aA A0.o 4).trans rfl⟩ (fun hHeld=>?_)
     clear hK K
     refine bZ (a':=?_) ?_ ?_
     rotate_left
     · show Act.put _ (some 13) _=_
       simp only [Act.put,kX,kY,kZ,aI,aK]
       rfl
     refine dM (i:=3) (N:=some 16) #[T,T,T,T,F,T,T,F,F,T,T,F,F,F] rfl rfl (bS HT_.o (by kernel_rfl)) (by decide) (fun K hK=>?_)
     refine cU Try.func68 (by kernel_rfl) rfl #[.int .i64 Ad] (by rfl) rfl rfl ga ?_
     with_reducible refine (cJ.calls k Ad Ah _ Cq.o).mono ?_
     rintro e Dm ⟨Ao,rfl,A6,hb⟩
     refine ⟨_,rfl,?_⟩
     have n_:=ak5 (re_ A1 A6 hb) (re_ A2 A6 hb) (Kd.R_lower (Kd.R_new' (Kd.R_new' A6 (Kd.R_lt (kqR A1.o))) (Kd.R_lt (kqR A2.o))) (aH (bq1 HB.o A4.o))) (kb A0 hb) (aC (bq1 HB.o A4.o) hb)
     clear A1 A2 A0 HB
     obtain ⟨A1,A2,A3,A0,HB⟩:=n_
     (try clear hb A6)
     refine hK.out _ _ ⟨(aA A0.o 0).trans rfl,(aA A0.o 1).trans rfl,(aA A0.o 2).trans rfl,(aA A0.o 3).trans rfl,(aA A0.o 4).trans rfl⟩ (fun hHeld=>?_)
     clear hK K
     refine bZ (a':=?_) ?_ ?_
     rotate_left
     · show Act.put _ (some 16) _=_
       simp only [Act.put,kX,kY,kZ,aI,aK]
       rfl
     exact bZ (by simp only [f8,Act.put,kX,kY,kZ]) (hCont (An,Ao) _ ⟨hHeld,(by refine kr ?_;exact Kd.R_mono A1.o (fun _ hk=>⟨hk.1.2,hk.2⟩)),(by refine kr ?_;exact Kd.R_mono A2.o (fun _ hk=>⟨hk.1.2,hk.2⟩)),(by refine kr ?_;exact Kd.R_mono A3.o (fun _ hk=>⟨hk.1.2,hk.2⟩)),(zq A0.o),(bq1 HB.o A4.o)⟩)
   skip
   refine cU Try.func68 (by kernel_rfl) rfl #[.int .i64 Ad] (by rfl) rfl rfl ga ?_
   with_reducible refine (cJ.calls k Ad Ah _ Cq.o).mono ?_
   rintro e D7 ⟨Ao,rfl,A6,hb⟩
   refine ⟨_,rfl,?_⟩
   have n_:=ak4 (re_ A1 A6 hb) (rn_ A6 A1 (bq1 HB.o A4.o)) (kb A0 hb) (aC (bq1 HB.o A4.o) hb)
   clear A1 A0 HB
   obtain ⟨A1,A3,A0,HB⟩:=n_
   (try clear hb A6)
   refine hK.out _ _ ⟨(aA A0.o 0).trans rfl,(aA A0.o 1).trans rfl,(aA A0.o 2).trans rfl,(aA A0.o 3).trans rfl,(aA A0.o 4).trans rfl⟩ (fun hHeld=>?_)
   clear hK K
   refine bZ (a':=?_) ?_ ?_
   rotate_left
   · show Act.put _ (some 16) _=_
     simp only [Act.put,kX,kY,kZ,aI,aK]
     rfl
   refine dM (i:=0) (N:=some 13) #[T,T,T,T,F,T,T,F,F,T,T,F,F,F] rfl rfl (bS HT_.o (by kernel_rfl)) (by decide) (fun K hK=>?_)
   refine Kd.R_lit_step (Kd.int .u8) _ 5 ?hg (N:=13) ?hd (xs:=([]:List Int)) (inner:=[]) (ok:=fun _=>True) (okp:=fun _=>True) ?hr ?hp (fun _ hk=>hk) trivial (Below.refl _ _) (k7 _) (by simp) ?_;(case hd=>rfl);(case hg=>rfl);(case hr=>exact gs);(case hp=>exact (bD.none _ _))
   intro An Dn Ap hb hg_ hnew_
   clear hg_ hnew_
   (first|rw [← Aq.o] at Ap|(simp only [Int.reduceToNat] at Ap;rw [← Aq.o] at Ap))
   have n_:=ak5 (re_ A1 Ap hb) (re_ A3 Ap hb) (Kd.R_lower (Kd.R_new' (Kd.R_new' Ap (Kd.R_lt (kqR A1.o))) (Kd.R_lt (kqR A3.o))) (aH (bq1 HB.o A4.o))) (kb A0 hb) (aC (bq1 HB.o A4.o) hb)
   clear A1 A3 A0 HB
   obtain ⟨A1,A3,A2,A0,HB⟩:=n_
   clear hb Ap
   refine hK.out _ _ ⟨(aA A0.o 0).trans rfl,(aA A0.o 1).trans rfl,(aA A0.o 2).trans rfl,(aA A0.o 3).trans rfl,(aA A0.o 4).trans rfl⟩ (fun hHeld=>?_)
   clear hK K
   refine bZ (a':=?_) ?_ ?_
   rotate_left
   · show Act.put _ (some 13) _=_
     simp only [Act.put,kX,kY,kZ,aI,aK]
     rfl
   exact bZ (by simp only [f8,Act.put,kX,kY,kZ]) (hCont (An,Ao) _ ⟨hHeld,(by refine kr ?_;exact Kd.R_mono A1.o (fun _ hk=>⟨hk.2,hk.1.2⟩)),(by refine kr ?_;exact Kd.R_mono A2.o (fun _ hk=>⟨hk.1.2,hk.2⟩)),(by refine kr ?_;exact Kd.R_mono A3.o (fun _ hk=>⟨hk.1.2,hk.2⟩)),(zq A0.o),(bq1 HB.o A4.o)⟩)
 rintro ⟨An,Ao⟩ B1 ⟨hS_,Cr,Cs,Ct,Cu,Cv⟩
 have n_:Aside0 (Kd.R (Kd.int .u8) 5 B1 w.heap.size (fun k_=>some k_≠(An:Value).ownBlock∧some k_≠(Ao:Value).ownBlock) (.slice Ar Aa.length As) Aa)∧Aside0 (Kd.R (Kd.int .u8) 5 B1 w.heap.size (fun k_=>some k_≠(.slice Ar Aa.length As:Value).ownBlock∧some k_≠(Ao:Value).ownBlock) An B2)∧Aside0 (Kd.R (Kd.int .u8) 5 B1 w.heap.size (fun k_=>some k_≠(.slice Ar Aa.length As:Value).ownBlock∧some k_≠(An:Value).ownBlock) Ao Ah)∧Aside0 (B1.heap[A8]? =some (.cells #[.int .i64 Ai,.int .i64 Ad,.int .i64 Ae,.int .i64 Af,.slice Aj Ac.length Ak] 26 (0,0)))∧Aside0 (Below w.heap.size w B1):=⟨⟨Cr⟩,⟨Cs⟩,⟨Ct⟩,⟨Cu⟩,⟨Cv⟩⟩
 clear A1 A0 HB Cr Cs Ct Cu Cv
 obtain ⟨A1,A2,A3,A0,HB⟩:=n_
 have hHeld:B1.cell? ⟨A8,0,none⟩=some (.int .i64 Ai)∧B1.cell? ⟨A8,1,none⟩=some (.int .i64 Ad)∧B1.cell? ⟨A8,2,none⟩=some (.int .i64 Ae)∧B1.cell? ⟨A8,3,none⟩=some (.int .i64 Af)∧B1.cell? ⟨A8,4,none⟩=some (.slice Aj Ac.length Ak):=hS_
 obtain ⟨Ca,Cb,Bg⟩:=Kd.R_slice A2.o
 (first|subst Bg|(injection Bg with Al Ay Am;have Az:=Al.symm;have B0:=Am.symm;clear Al Ay Am;subst Az;subst B0))
 obtain ⟨Cc,Cd,Bh⟩:=Kd.R_slice A3.o
 (first|subst Bh|(injection Bh with Al Ay Am;have Az:=Al.symm;have B0:=Am.symm;clear Al Ay Am;subst Az;subst B0))
 refine bZ (a':=?_) ?_ ?_
 rotate_left
 · simp only [f8,Act.put,kX,kY,kZ]
   rfl
 refine dM (i:=4) (N:=some 17) #[T,T,T,T,T,T,T,F,F,T,T,F,F,F] rfl rfl (bS HT_.o (by kernel_rfl)) (by decide) (fun K hK=>?_)
 refine cU Try.func41 (by kernel_rfl) rfl #[.slice Ca B2.length Cb,.int .i64 2,.slice Cc Ah.length Cd] (by rfl) rfl rfl ga ?_
 with_reducible refine (bT.calls k _ _ B2 2 _ _ Ah Au _ ?side1 ?side2 ?side3 ?side4 D0.o).mono ?_
 (case side1=>repeat (first|exact (Kd.R_reads' A2.o).2.2|(with_reducible refine Kd.C_alloc ?_ _)|(with_reducible refine Kd.C_drewN ?_ _)|(with_reducible refine Kd.C_drew ?_)))
 (case side2=>exact (Kd.R_reads' A2.o).2.1)
 (case side3=>repeat (first|exact (Kd.R_reads' A3.o).2.2|(with_reducible refine Kd.C_alloc ?_ _)|(with_reducible refine Kd.C_drewN ?_ _)|(with_reducible refine Kd.C_drew ?_)))
 (case side4=>exact (Kd.R_reads' A3.o).2.1)
 rintro e Do ⟨D8,rfl,A6,hb⟩
 refine ⟨_,rfl,?_⟩
 have n_:=ak6 (re_ A1 A6 hb) (re_ A2 A6 hb) (re_ A3 A6 hb) (Kd.R_lower (Kd.R_new' (Kd.R_new' (Kd.R_new' A6 (Kd.R_lt (kqR A1.o))) (Kd.R_lt (kqR A2.o))) (Kd.R_lt (kqR A3.o))) (aH (bq1 HB.o A4.o))) (kb A0 hb) (aC (bq1 HB.o A4.o) hb)
 clear A1 A2 A3 A0 HB
 obtain ⟨A1,A2,A3,A5,A0,HB⟩:=n_
 (try clear hb A6)
 refine hK.out _ _ ⟨(aA A0.o 0).trans rfl,(aA A0.o 1).trans rfl,(aA A0.o 2).trans rfl,(aA A0.o 3).trans rfl,(aA A0.o 4).trans rfl⟩ (fun hHeld=>?_)
 clear hK K
 refine bZ (a':=?_) ?_ ?_
 rotate_left
 · show Act.put _ (some 17) _=_
   simp only [Act.put,kX,kY,kZ,aI,aK]
   rfl
 refine dM (i:=7) (N:=some 20) #[T,T,T,T,T,T,T,T,F,T,T,F,F,F] rfl rfl (bS HT_.o (by kernel_rfl)) (by decide) (fun K hK=>?_)
 refine cU Try.func68 (by kernel_rfl) rfl #[.int .i64 Ae] (by rfl) rfl rfl ga ?_
 with_reducible refine (cJ.calls k Ae Av _ D1.o).mono ?_
 rintro e Dp ⟨D9,rfl,A6,hb⟩
 refine ⟨_,rfl,?_⟩
 have n_:=ak7 (re_ A1 A6 hb) (re_ A2 A6 hb) (re_ A3 A6 hb) (re_ A5 A6 hb) (Kd.R_lower (Kd.R_new' (Kd.R_new' (Kd.R_new' (Kd.R_new' A6 (Kd.R_lt (kqR A1.o))) (Kd.R_lt (kqR A2.o))) (Kd.R_lt (kqR A3.o))) (Kd.R_lt (kqR A5.o))) (aH (bq1 HB.o A4.o))) (kb A0 hb) (aC (bq1 HB.o A4.o) hb)
 clear A1 A2 A3 A5 A0 HB
 obtain ⟨A1,A2,A3,A5,A7,A0,HB⟩:=n_
 (try clear hb A6)
 obtain ⟨Ce,Cf,Bi⟩:=Kd.R_slice A5.o
 (first|subst Bi|(injection Bi with Al Ay Am;have Az:=Al.symm;have B0:=Am.symm;clear Al Ay Am;subst Az;subst B0))
 obtain ⟨Cg,Ch,Bj⟩:=Kd.R_slice A7.o
 (first|subst Bj|(injection Bj with Al Ay Am;have Az:=Al.symm;have B0:=Am.symm;clear Al Ay Am;subst Az;subst B0))
 refine hK.out _ _ ⟨(aA A0.o 0).trans rfl,(aA A0.o 1).trans rfl,(aA A0.o 2).trans rfl,(aA A0.o 3).trans rfl,(aA A0.o 4).trans rfl⟩ (fun hHeld=>?_)
 clear hK K
 refine bZ (a':=?_) ?_ ?_
 rotate_left
 · show Act.put _ (some 20) _=_
   simp only [Act.put,kX,kY,kZ,aI,aK]
   rfl
 refine dM (i:=8) (N:=some 21) #[T,T,T,T,T,T,T,T,T,T,T,F,F,F] rfl rfl (bS HT_.o (by kernel_rfl)) (by decide) (fun K hK=>?_)
 refine cU Try.func41 (by kernel_rfl) rfl #[.slice Ce Au.length Cf,.int .i64 2,.slice Cg Av.length Ch] (by rfl) rfl rfl ga ?_
 with_reducible refine (bT.calls k _ _ Au 2 _ _ Av Aw _ ?side1 ?side2 ?side3 ?side4 D2.o).mono ?_
 (case side1=>repeat (first|exact (Kd.R_reads' A5.o).2.2|(with_reducible refine Kd.C_alloc ?_ _)|(with_reducible refine Kd.C_drewN ?_ _)|(with_reducible refine Kd.C_drew ?_)))
 (case side2=>exact (Kd.R_reads' A5.o).2.1)
 (case side3=>repeat (first|exact (Kd.R_reads' A7.o).2.2|(with_reducible refine Kd.C_alloc ?_ _)|(with_reducible refine Kd.C_drewN ?_ _)|(with_reducible refine Kd.C_drew ?_)))
 (case side4=>exact (Kd.R_reads' A7.o).2.1)
 rintro e Dq ⟨Da,rfl,A6,hb⟩
 refine ⟨_,rfl,?_⟩
 have n_:=ak8 (re_ A1 A6 hb) (re_ A2 A6 hb) (re_ A3 A6 hb) (re_ A5 A6 hb) (re_ A7 A6 hb) (Kd.R_lower (Kd.R_new' (Kd.R_new' (Kd.R_new' (Kd.R_new' (Kd.R_new' A6 (Kd.R_lt (kqR A1.o))) (Kd.R_lt (kqR A2.o))) (Kd.R_lt (kqR A3.o))) (Kd.R_lt (kqR A5.o))) (Kd.R_lt (kqR A7.o))) (aH (bq1 HB.o A4.o))) (kb A0 hb) (aC (bq1 HB.o A4.o) hb)
 clear A1 A2 A3 A5 A7 A0 HB
 obtain ⟨A1,A2,A3,A5,A7,A9,A0,HB⟩:=n_
 (try clear hb A6)
 refine hK.out _ _ ⟨(aA A0.o 0).trans rfl,(aA A0.o 1).trans rfl,(aA A0.o 2).trans rfl,(aA A0.o 3).trans rfl,(aA A0.o 4).trans rfl⟩ (fun hHeld=>?_)
 clear hK K
 refine bZ (a':=?_) ?_ ?_
 rotate_left
 · show Act.put _ (some 21) _=_
   simp only [Act.put,kX,kY,kZ,aI,aK]
   rfl
 refine dM (i:=11) (N:=some 24) #[T,T,T,T,T,T,T,T,T,T,T,T,F,F] rfl rfl (bS HT_.o (by kernel_rfl)) (by decide) (fun K hK=>?_)
 refine cU Try.func68 (by kernel_rfl) rfl #[.int .i64 Af] (by rfl) rfl rfl ga ?_
 with_reducible refine (cJ.calls k Af Ax _ D3.o).mono ?_
 rintro e Dr ⟨Db,rfl,A6,hb⟩
 refine ⟨_,rfl,?_⟩
 have n_:=ak9 (re_ A1 A6 hb) (re_ A2 A6 hb) (re_ A3 A6 hb) (re_ A5 A6 hb) (re_ A7 A6 hb) (re_ A9 A6 hb) (Kd.R_lower (Kd.R_new' (Kd.R_new' (Kd.R_new' (Kd.R_new' (Kd.R_new' (Kd.R_new' A6 (Kd.R_lt (kqR A1.o))) (Kd.R_lt (kqR A2.o))) (Kd.R_lt (kqR A3.o))) (Kd.R_lt (kqR A5.o))) (Kd.R_lt (kqR A7.o))) (Kd.R_lt (kqR A9.o))) (aH (bq1 HB.o A4.o))) (kb A0 hb) (aC (bq1 HB.o A4.o) hb)
 clear A1 A2 A3 A5 A7 A9 A0 HB
 obtain ⟨A1,A2,A3,A5,A7,A9,Ab,A0,HB⟩:=n_
 (try clear hb A6)
 obtain ⟨Ci,Cj,Bk⟩:=Kd.R_slice A9.o
 (first|subst Bk|(injection Bk with Al Ay Am;have Az:=Al.symm;have B0:=Am.symm;clear Al Ay Am;subst Az;subst B0))
 obtain ⟨Ck,Cl,Bl⟩:=Kd.R_slice Ab.o
 (first|subst Bl|(injection Bl with Al Ay Am;have Az:=Al.symm;have B0:=Am.symm;clear Al Ay Am;subst Az;subst B0))
 refine hK.out _ _ ⟨(aA A0.o 0).trans rfl,(aA A0.o 1).trans rfl,(aA A0.o 2).trans rfl,(aA A0.o 3).trans rfl,(aA A0.o 4).trans rfl⟩ (fun hHeld=>?_)
 clear hK K
 refine bZ (a':=?_) ?_ ?_
 rotate_left
 · show Act.put _ (some 24) _=_
   simp only [Act.put,kX,kY,kZ,aI,aK]
   rfl
 refine dM (i:=12) (N:=some 25) #[T,T,T,T,T,T,T,T,T,T,T,T,T,F] rfl rfl (bS HT_.o (by kernel_rfl)) (by decide) (fun K hK=>?_)
 refine cU Try.func41 (by kernel_rfl) rfl #[.slice Ci Aw.length Cj,.int .i64 2,.slice Ck Ax.length Cl] (by rfl) rfl rfl ga ?_
 with_reducible refine (bT.calls k _ _ Aw 2 _ _ Ax Ba _ ?side1 ?side2 ?side3 ?side4 D4.o).mono ?_
 (case side1=>repeat (first|exact (Kd.R_reads' A9.o).2.2|(with_reducible refine Kd.C_alloc ?_ _)|(with_reducible refine Kd.C_drewN ?_ _)|(with_reducible refine Kd.C_drew ?_)))
 (case side2=>exact (Kd.R_reads' A9.o).2.1)
 (case side3=>repeat (first|exact (Kd.R_reads' Ab.o).2.2|(with_reducible refine Kd.C_alloc ?_ _)|(with_reducible refine Kd.C_drewN ?_ _)|(with_reducible refine Kd.C_drew ?_)))
 (case side4=>exact (Kd.R_reads' Ab.o).2.1)
 rintro e Ds ⟨Dc,rfl,A6,hb⟩
 refine ⟨_,rfl,?_⟩
 have n_:=jG (re_ A1 A6 hb) (re_ A2 A6 hb) (re_ A3 A6 hb) (re_ A5 A6 hb) (re_ A7 A6 hb) (re_ A9 A6 hb) (re_ Ab A6 hb) (Kd.R_lower (Kd.R_new' (Kd.R_new' (Kd.R_new' (Kd.R_new' (Kd.R_new' (Kd.R_new' (Kd.R_new' A6 (Kd.R_lt (kqR A1.o))) (Kd.R_lt (kqR A2.o))) (Kd.R_lt (kqR A3.o))) (Kd.R_lt (kqR A5.o))) (Kd.R_lt (kqR A7.o))) (Kd.R_lt (kqR A9.o))) (Kd.R_lt (kqR Ab.o))) (aH (bq1 HB.o A4.o))) (kb A0 hb) (aC (bq1 HB.o A4.o) hb)
 clear A1 A2 A3 A5 A7 A9 Ab A0 HB
 obtain ⟨A1,A2,A3,A5,A7,A9,Ab,Ag,A0,HB⟩:=n_
 (try clear hb A6)
 refine hK.out _ _ ⟨(aA A0.o 0).trans rfl,(aA A0.o 1).trans rfl,(aA A0.o 2).trans rfl,(aA A0.o 3).trans rfl,(aA A0.o 4).trans rfl⟩ (fun hHeld=>?_)
 clear hK K
 refine bZ (a':=?_) ?_ ?_
 rotate_left
 · show Act.put _ (some 25) _=_
   simp only [Act.put,kX,kY,kZ,aI,aK]
   rfl
 refine pv HT_ 13 (some 5) #[T,T,T,T,T,T,T,T,T,T,T,T,T,T] ?_
 refine d5 (cL HT_.o (by kernel_rfl)) ?_
 obtain ⟨Dd,De,Cm⟩:=Kd.R_slice Ag.o
 subst Cm
 try go_wp2_with (first|((with_reducible refine aE (f:=41) rfl ?_);refine gc (some 28) (bT.calls k _ _ Ba 48 _ _ Aa Bf _ (cq (Kd.R_reads' Ag.o).2.2) ((Kd.R_reads' Ag.o).2.1) (cq (Kd.R_reads' A1.o).2.2) ((Kd.R_reads' A1.o).2.1) D5.o) Try.func41 ?_;rintro e Dt ⟨Df,rfl,A6,hb⟩;refine ⟨_,rfl,?_⟩;have n_:=iU (re_ A1 A6 hb) (re_ A2 A6 hb) (re_ A3 A6 hb) (re_ A5 A6 hb) (re_ A7 A6 hb) (re_ A9 A6 hb) (re_ Ab A6 hb) (re_ Ag A6 hb) (Kd.R_lower (Kd.R_new' (Kd.R_new' (Kd.R_new' (Kd.R_new' (Kd.R_new' (Kd.R_new' (Kd.R_new' (Kd.R_new' A6 (Kd.R_lt (kqR A1.o))) (Kd.R_lt (kqR A2.o))) (Kd.R_lt (kqR A3.o))) (Kd.R_lt (kqR A5.o))) (Kd.R_lt (kqR A7.o))) (Kd.R_lt (kqR A9.o))) (Kd.R_lt (kqR Ab.o))) (Kd.R_lt (kqR Ag.o))) (aH (bq1 HB.o A4.o))) (kb A0 hb) (aC (bq1 HB.o A4.o) hb);clear A1 A2 A3 A5 A7 A9 Ab Ag A0 HB;obtain ⟨A1,A2,A3,A5,A7,A9,Ab,Ag,Bb,A0,HB⟩:=n_;(try clear hb A6);obtain ⟨Dg,Dh,Cn⟩:=Kd.R_slice Bb.o;subst Cn))
 go_ret2
 exact ⟨_,rq,by refine kr ?_;exact Kd.R_mono Bb.o (fun _ hk=>trivial),bq1 HB.o A4.o⟩
def eO.f (k:Nat) (A1:Int) (A2:Int) (A3:Int) (A4:Int) (A5:List (S45)):Option (List Int):=(cF.f k A1 A2 A3 A4 A5).bind fun A6=>(if A6=true then ((dN.f k A1 A2 A3 A4 A5).bind fun A0=>(if A0.2=true then ((bT.f k (([]:List Int)) A1 A0.1).bind fun A7=>(some A7)) else (some (([]:List Int))))) else (some (([]:List Int))))
theorem eO.calls (k:Nat) (Af:Int) (Ag:Int) (Ah:Int) (Ai:Int) (Au:Option Addr) (Av:Nat) (A4:List (S45)) (r:List Int) (w:World) (Am:Kd.C k45 w Au A4.length A4) (An:A4.length≤Av) (h:eO.f k Af Ag Ah Ai A4=some r):
 Calls Try.prog 12 #[.agg #[.int .i64 Af,.int .i64 Ag,.int .i64 Ah,.int .i64 Ai,.slice Au A4.length Av]] w fun e w'=>∃Ba:Value,e=.returned (Ba)∧Kd.R (Kd.int .u8) 5 w' w.heap.size (fun _=>True) Ba r∧Below w.heap.size w w':=by
 have Bf:=Try.underlying26
 have Aj:=am Am
 have Ak:=am An
 clear Am An
 have HB:=am (Below.refl w.heap.size w)
 have H:=h
 clear h
 unfold eO.f at H
 replace H:=be H
 obtain ⟨Ay,Bb,H⟩:=H
 cases Ay
 replace H:=iF H
 generalize Ao:((([]:List Int)):List Int)=Bg at H
 have Ap:=am Ao.symm
 clear Ao
 have z0:=trivial
 rotate_left
 replace H:=iT H
 replace H:=be H
 obtain ⟨⟨Al,Az⟩,Bc,H⟩:=H
 try dsimp only at H
 cases Az
 replace H:=iF H
 generalize Aq:((([]:List Int)):List Int)=Bh at H
 have Ar:=am Aq.symm
 clear Aq
 have z1:=trivial
 rotate_left
 replace H:=iT H
 generalize As:((([]:List Int)):List Int)=B4 at H
 have At:=am As.symm
 clear As
 replace H:=be H
 obtain ⟨B0,Bi,H⟩:=H
 have z2:=trivial
 rotate_right
 rotate_right
 all_goals
  obtain rfl:=k6 H
  go_enter Try.func12,Try.ntmps12
  go_wp2_with (first|((with_reducible refine aJ (N:=1) rfl ?_);refine bxe 1 #[.int .i64 Af,.int .i64 Ag,.int .i64 Ah,.int .i64 Ai,.slice Au A4.length Av] 26 ?_;intro Bd hg w_ hbox hb;have n_:=ak4 (aC (bq HB.o) hb) hbox (bz hg (bq HB.o)) (bz hg (bq HB.o));clear HB;obtain ⟨HB,A0,Be,A1⟩:=n_;clear hb hbox hg;obtain ⟨A5,A6,A7,A8,A9,Aa,Ab,Ac,Ad,Ae⟩:=cl5 A0.o)|((with_reducible refine aE (f:=35) rfl ?_);(first|have:=z1|have:=z2);refine gc (some 6) (cF.calls k Af Ag Ah Ai _ _ A4 true _ (cq (Kd.C_below Aj.o HB.o)) Ak.o Bb.o) Try.func35 ?_;rintro e w_ ⟨rfl,hb⟩;refine ⟨_,rfl,?_⟩;have n_:=ak2 (kb A0 hb) (aC (bq1 HB.o A1.o) hb);clear A0 HB;obtain ⟨A0,HB⟩:=n_;(try clear hb);obtain ⟨A5,A6,A7,A8,A9,Aa,Ab,Ac,Ad,Ae⟩:=cl5 A0.o)|((with_reducible refine aE (f:=35) rfl ?_);have:=z0;refine gc (some 6) (cF.calls k Af Ag Ah Ai _ _ A4 false _ (cq (Kd.C_below Aj.o HB.o)) Ak.o Bb.o) Try.func35 ?_;rintro e w_ ⟨rfl,hb⟩;refine ⟨_,rfl,?_⟩;have n_:=ak2 (kb A0 hb) (aC (bq1 HB.o A1.o) hb);clear A0 HB;obtain ⟨A0,HB⟩:=n_;(try clear hb))|((with_reducible refine aJ (N:=8) rfl ?_);refine Kd.R_lit (Kd.int .u8) _ 5 ?hg (N:=8) ?hd (xs:=([]:List Int)) (inner:=[]) (ok:=fun _=>True) (okp:=fun _=>True) ?hr ?hp (fun _ hk=>hk) trivial (Below.refl _ _) (k7 _) (by simp) ?_;(case hd=>rfl);(case hg=>rfl);(case hr=>exact gs);(case hp=>exact (bD.none _ _));intro Bj w_ ho_ hb hg_ hnew_;clear hg_ hnew_;(first|rw [← Ap.o] at ho_|(simp only [Int.reduceToNat] at ho_;rw [← Ap.o] at ho_));have n_:=ak3 (rl ho_ (bq1 HB.o A1.o)) (kb A0 hb) (aC (bq1 HB.o A1.o) hb);clear A0 HB;obtain ⟨B1,A0,HB⟩:=n_;clear hb ho_)|((with_reducible refine aE (f:=40) rfl ?_);have:=z1;refine gc (some 11) (dN.calls k Af Ag Ah Ai _ _ A4 Al false _ (cq (Kd.C_below Aj.o HB.o)) Ak.o Bc.o) Try.func40 ?_;rintro e w_ ⟨B5,rfl,ho_,hb⟩;refine ⟨_,rfl,?_⟩;have n_:=ak3 (rl ho_ (bq1 HB.o A1.o)) (kb A0 hb) (aC (bq1 HB.o A1.o) hb);clear A0 HB;obtain ⟨A2,A0,HB⟩:=n_;(try clear hb ho_))|((with_reducible refine aE (f:=40) rfl ?_);have:=z2;refine gc (some 11) (dN.calls k Af Ag Ah Ai _ _ A4 Al true _ (cq (Kd.C_below Aj.o HB.o)) Ak.o Bc.o) Try.func40 ?_;rintro e w_ ⟨B5,rfl,ho_,hb⟩;refine ⟨_,rfl,?_⟩;have n_:=ak3 (rl ho_ (bq1 HB.o A1.o)) (kb A0 hb) (aC (bq1 HB.o A1.o) hb);clear A0 HB;obtain ⟨A2,A0,HB⟩:=n_;(try clear hb ho_))|((with_reducible refine aJ (N:=16) rfl ?_);refine Kd.R_lit (Kd.int .u8) _ 5 ?hg (N:=16) ?hd (xs:=([]:List Int)) (inner:=[]) (ok:=fun _=>True) (okp:=fun _=>True) ?hr ?hp (fun _ hk=>hk) trivial (Below.refl _ _) (k7 _) (by simp) ?_;(case hd=>rfl);(case hg=>rfl);(case hr=>exact gs);(case hp=>exact (bD.none _ _));intro Bk w_ ho_ hb hg_ hnew_;clear hg_ hnew_;(first|rw [← Ar.o] at ho_|(simp only [Int.reduceToNat] at ho_;rw [← Ar.o] at ho_));have n_:=ak4 (re_ A2 ho_ hb) (rn_ ho_ A2 (bq1 HB.o A1.o)) (kb A0 hb) (aC (bq1 HB.o A1.o) hb);clear A2 A0 HB;obtain ⟨A2,B2,A0,HB⟩:=n_;clear hb ho_)|((with_reducible refine aJ (N:=17) rfl ?_);refine Kd.R_lit (Kd.int .u8) _ 5 ?hg (N:=17) ?hd (xs:=([]:List Int)) (inner:=[]) (ok:=fun _=>True) (okp:=fun _=>True) ?hr ?hp (fun _ hk=>hk) trivial (Below.refl _ _) (k7 _) (by simp) ?_;(case hd=>rfl);(case hg=>rfl);(case hr=>exact gs);(case hp=>exact (bD.none _ _));intro Bl w_ ho_ hb hg_ hnew_;clear hg_ hnew_;(first|rw [← At.o] at ho_|(simp only [Int.reduceToNat] at ho_;rw [← At.o] at ho_));have n_:=ak4 (re_ A2 ho_ hb) (rn_ ho_ A2 (bq1 HB.o A1.o)) (kb A0 hb) (aC (bq1 HB.o A1.o) hb);clear A2 A0 HB;obtain ⟨A2,A3,A0,HB⟩:=n_;clear hb ho_;obtain ⟨B6,B7,Aw⟩:=Kd.R_slice A3.o;subst Aw;obtain ⟨B8,B9,Ax⟩:=Kd.R_slice A2.o;subst Ax;obtain ⟨A5,A6,A7,A8,A9,Aa,Ab,Ac,Ad,Ae⟩:=cl5 A0.o)|((with_reducible refine aE (f:=41) rfl ?_);refine gc (some 21) (bT.calls k _ _ B4 Af _ _ Al B0 _ (cq (Kd.R_reads' A3.o).2.2) ((Kd.R_reads' A3.o).2.1) (cq (Kd.R_reads' A2.o).2.2) ((Kd.R_reads' A2.o).2.1) Bi.o) Try.func41 ?_;rintro e w_ ⟨Bm,rfl,ho_,hb⟩;refine ⟨_,rfl,?_⟩;have n_:=ak5 (re_ A2 ho_ hb) (re_ A3 ho_ hb) (Kd.R_lower (Kd.R_new' (Kd.R_new' ho_ (Kd.R_lt (kqR A2.o))) (Kd.R_lt (kqR A3.o))) (aH (bq1 HB.o A1.o))) (kb A0 hb) (aC (bq1 HB.o A1.o) hb);clear A2 A3 A0 HB;obtain ⟨A2,A3,B3,A0,HB⟩:=n_;(try clear hb ho_)))
  first
  | go_ret
    exact ⟨_,rq,by refine kr ?_;exact Kd.R_mono B2.o (fun _ hk=>trivial),bq1 HB.o A1.o⟩
  | go_ret
    exact ⟨_,rq,by refine kr ?_;exact Kd.R_mono B3.o (fun _ hk=>trivial),bq1 HB.o A1.o⟩
  | go_ret
    exact ⟨_,rq,kqR B1.o,bq1 HB.o A1.o⟩
def fJ.f (A4:List Int) (A5:Int) (A6:Int) (l1:List Int):Option (List Int × Int × Int):=if (l1.length:Int)=0 then (some (l1,A5,A6)) else ((a6.f A4 A5 A6 5).bind fun A0=>(if A0.1=0 then ((a6.f A4 A0.2.1 A0.2.2 (l1.length:Int)).bind fun A1=>((cY.f A4 A1.2.1 A1.2.2 (([0,1,2,4,5,6,48,127,128,129,160,255]:List Int))).bind fun A3=>(if 0≤A1.1 then (if A1.1<(l1.length:Int) then (some ((l1.set (A1.1:Int).toNat ((A3.1) % 256)),A3.2.1,A3.2.2)) else (none)) else (none)))) else (if A0.1=1 then (if l1.length<140737488355328 then (some ((l1++[3]),A0.2.1,A0.2.2)) else (none)) else (if A0.1=2 then ((a6.f A4 A0.2.1 A0.2.2 (l1.length:Int)).bind fun A2=>(if 0≤A2.1 then (if A2.1≤(l1.length:Int) then (some ((l1.take (A2.1:Int).toNat),A2.2.1,A2.2.2)) else (none)) else (none))) else (some (l1,A0.2.1,A0.2.2))))))
theorem fJ.calls (g:Nat) (A4:List Int) (Ac:Int) (Ad:Int) (A9:Nat→Prop) (Aa:Value) (l1:List Int) (r1:List Int) (r2:Int) (r3:Int) (w0 w:World) (hI:aD w0 w g A4 Ac Ad) (hB:Below w0.heap.size w0 w) (Ca:Kd.R (Kd.int .u8) 5 w w0.heap.size A9 Aa l1) (h:fJ.f A4 Ac Ad l1=some (r1,r2,r3)):
 Calls Try.prog 24 #[.pointer (some ⟨g,0,none⟩),Aa] w fun e w'=>∃Bz:Value,e=.returned (Bz)∧Kd.R (Kd.int .u8) 5 w' w0.heap.size (fun k_=>(A9 k_∨w.heap.size≤k_)) Bz r1∧aD w0 w' g A4 r2 r3∧Below w0.heap.size w0 w'∧cE w w' (fun k_=>(A9 k_)∨k_=g):=by
 have A2:=am (show Kd.R (Kd.int .u8) 5 w w0.heap.size (fun k_=>(A9 k_∨w.heap.size≤k_)) Aa l1 from Kd.R_mono Ca (fun k_ hk=>(.inl hk)))
 have A1:=am hI
 have HL:=am hB.size
 clear hI
 have HK:=am (cE.refl w (fun k_=>(A9 k_)∨k_=g))
 have Cr:=am hB.size
 have HB:=am hB
 clear hB
 have H:=h
 clear h
 unfold fJ.f at H
 replace H:=iq H
 rcases H with ⟨-,B7,B8,H⟩|⟨c3,B7,B8,H⟩
 simp only [k4,k5] at H
 obtain ⟨rfl,rfl,rfl⟩:=H
 obtain ⟨Cs,Ct,Cb⟩:=Kd.R_slice A2.o
 subst Cb
 have z0:=trivial
 rotate_left
 have Cc:¬(l1=[]):=fun h_=>c3 (by rw [h_];rfl)
 replace H:=be H
 obtain ⟨⟨Ag,A5,A6⟩,C0,H⟩:=H
 try dsimp only at H
 replace H:=iq H
 rcases H with ⟨-,B9,Ba,H⟩|⟨c6,B9,Ba,H⟩
 · replace H:=be H
   obtain ⟨⟨A0,A7,A8⟩,Bb,H⟩:=H
   try dsimp only at H
   generalize Ah:((([0,1,2,4,5,6,48,127,128,129,160,255]:List Int)):List Int)=Bc at H
   have Ai:=am Ah.symm
   clear Ah
   replace H:=be H
   obtain ⟨⟨Ab,Aq,Ar⟩,Cd,H⟩:=H
   try dsimp only at H
   replace H:=nl H
   obtain ⟨-,Ce,H⟩:=H
   replace H:=nl H
   obtain ⟨-,C1,H⟩:=H
   generalize Aj:((l1.set (A0:Int).toNat ((Ab) % 256)):List Int)=Bd at H
   have As:=am Aj.symm
   clear Aj
   simp only [k4,k5] at H
   obtain ⟨rfl,rfl,rfl⟩:=H
   obtain ⟨Cf,At,Be⟩:=Kd.R_slice A2.o
   subst Be
   go_enter Try.func24,Try.ntmps24
   go_wp2_with (first|((with_reducible refine aE (f:=47) rfl ?_);refine gc (some 10) (a6.calls g A4 Ac Ad 5 Ag A5 A6 w0 _ (aD.q0 A1.o) (bq1 HB.o (aD.ge A1.o)) C0.o) Try.func47 ?_;rintro e Cu ⟨rfl,hi,hb,hk⟩;refine ⟨_,rfl,?_⟩;have n_:=ak4 (Kd.R_mono (Kd.R_keep (aD.apart (show aD w0 _ g A4 Ac Ad from aD.q0 A1.o) (kqR A2.o) (by decide)) hk (fun _ h=>h.2)) (fun _ h=>h.1)) (cE.of_keep (S:=(fun k_=>(A9 k_)∨k_=g)) (by repeat (first|(with_reducible first|exact HK.o|apply cE.alloc|apply cE.drewN|apply cE.drew|refine cE.setCell ?_ (.inl (.inr rfl)) _)|exact HK.o)) hk (.inl (.inr rfl))) hb hi;clear A2 HK HB A1;obtain ⟨A2,HK,HB,A1⟩:=n_;(try clear hb hk hi))|((with_reducible refine aE (f:=47) rfl ?_);refine gc (some 17) (a6.calls g A4 A5 A6 (l1.length:Int) A0 A7 A8 w0 _ (aD.q0 A1.o) (bq1 HB.o (aD.ge A1.o)) Bb.o) Try.func47 ?_;rintro e Cv ⟨rfl,hi,hb,hk⟩;refine ⟨_,rfl,?_⟩;have n_:=ak4 (Kd.R_mono (Kd.R_keep (aD.apart (show aD w0 _ g A4 A5 A6 from aD.q0 A1.o) (kqR A2.o) (by decide)) hk (fun _ h=>h.2)) (fun _ h=>h.1)) (cE.of_keep (S:=(fun k_=>(A9 k_)∨k_=g)) (by repeat (first|(with_reducible first|exact HK.o|apply cE.alloc|apply cE.drewN|apply cE.drew|refine cE.setCell ?_ (.inl (.inr rfl)) _)|exact HK.o)) hk (.inl (.inr rfl))) hb hi;clear A2 HK HB A1;obtain ⟨A2,HK,HB,A1⟩:=n_;(try clear hb hk hi))|((with_reducible refine aJ (N:=19) rfl ?_);refine Kd.R_lit (Kd.int .i64) _ 3 ?hg (N:=19) ?hd (xs:=([0,1,2,4,5,6,48,127,128,129,160,255]:List Int)) (inner:=[.int .i64 0,.int .i64 1,.int .i64 2,.int .i64 4,.int .i64 5,.int .i64 6,.int .i64 48,.int .i64 127,.int .i64 128,.int .i64 129,.int .i64 160,.int .i64 255]) (ok:=fun _=>True) (okp:=fun _=>True) ?hr ?hp (fun _ hk=>hk) trivial (Below.refl _ _) (k7 _) (by simp) ?_;(case hd=>rfl);(case hg=>rfl);(case hr=>exact gs);(case hp=>exact (bD.one (ri 0) (bD.one (ri 1) (bD.one (ri 2) (bD.one (ri 4) (bD.one (ri 5) (bD.one (ri 6) (bD.one (ri 48) (bD.one (ri 127) (bD.one (ri 128) (bD.one (ri 129) (bD.one (ri 160) (bD.one (ri 255) (bD.none _ _))))))))))))));intro Cg Cw Ae hb hg_ hnew_;clear hg_ hnew_;(first|rw [← Ai.o] at Ae|(simp only [Int.reduceToNat] at Ae;rw [← Ai.o] at Ae));have n_:=ak5 (rb A2 hb) (Kd.R_lower (Kd.R_newM (M:=fun k_=>(A9 k_∨w.heap.size≤k_)) Ae (by first|exact HK.o.1|exact (show cE w _ (fun k_=>(A9 k_)∨k_=g) from by repeat (first|(with_reducible first|exact HK.o|apply cE.alloc|apply cE.drewN|apply cE.drew|refine cE.setCell ?_ (.inl (.inr rfl)) _)|exact HK.o)).1) (fun k_ h_=>.inr h_)) (aH (bq1 HB.o (aD.ge A1.o)))) (aD.below (aD.q0 A1.o) hb) (cE.below (S:=(fun k_=>(A9 k_)∨k_=g)) (by repeat (first|(with_reducible first|exact HK.o|apply cE.alloc|apply cE.drewN|apply cE.drew|refine cE.setCell ?_ (.inl (.inr rfl)) _)|exact HK.o)) hb) (aC (bq1 HB.o (aD.ge A1.o)) hb);clear A2 A1 HK HB;obtain ⟨A2,A3,A1,HK,HB⟩:=n_;clear hb Ae;obtain ⟨Ch,Ci,Bf⟩:=Kd.R_slice A3.o;subst Bf)|((with_reducible refine aE (f:=48) rfl ?_);refine gc (some 20) (cY.calls g A4 A7 A8 _ _ Bc Ab Aq Ar w0 _ (aD.q0 A1.o) (bq1 HB.o (aD.ge A1.o)) (cq (Kd.R_reads' A3.o).2.2) ((Kd.R_reads' A3.o).2.1) (e5 (aD.own_ne A1.o A3.o (by decide))) Cd.o) Try.func48 ?_;rintro e C2 ⟨rfl,hi,hb,hk⟩;refine ⟨_,rfl,?_⟩;have n_:=ak5 (Kd.R_mono (Kd.R_keep (aD.apart (show aD w0 _ g A4 A7 A8 from aD.q0 A1.o) (kqR A2.o) (by decide)) hk (fun _ h=>h.2)) (fun _ h=>h.1)) (Kd.R_mono (Kd.R_keep (aD.apart (show aD w0 _ g A4 A7 A8 from aD.q0 A1.o) (kqR A3.o) (by decide)) hk (fun _ h=>h.2)) (fun _ h=>h.1)) (cE.of_keep (S:=(fun k_=>(A9 k_)∨k_=g)) (by repeat (first|(with_reducible first|exact HK.o|apply cE.alloc|apply cE.drewN|apply cE.drew|refine cE.setCell ?_ (.inl (.inr rfl)) _)|exact HK.o)) hk (.inl (.inr rfl))) hb hi;clear A2 A3 HK HB A1;obtain ⟨A2,A3,HK,HB,A1⟩:=n_;(try clear hb hk hi);have Bg:0≤(A0:Int):=oda;have Bh:(A0:Int)<((l1.length:Int):Int):=oda;obtain ⟨go11,Cj,Au,Av,Bi,Ck,Aw⟩:=Kd.R_form A2.o (by omega);(first|cases Au|(injection Au with ea_ en_ ec_;(first|subst ea_|(injection ea_ with ea_;subst ea_));subst ec_;clear en_));have Bj:=am Av;have Cl:=am Aw;clear Av Bi Aw;have Bk:=am (show (A9 go11∨w.heap.size≤go11) from (A2.o.1 _ rfl));obtain ⟨Bl,Bm⟩:=Kd.R_celln 0 A2.o (A0:Int) Bg Bh;replace Bg:=eq_true Bg;replace Bh:=eq_true Bh;obtain ⟨C3,C4⟩:=Kd.R_celln 0 A2.o (A0:Int) (oda) (oda);have Ao:=Kd.R_putg A2.o (A0:Int) ((Ab) % 256))|((with_reducible refine aQ (t:=5) (p:=22) rfl ?_);refine se 5 22 (C2.setCell ⟨go11,(A0:Int).toNat,none⟩ (.int .u8 ((Ab) % 256))) ?_;intro Bn hw;have hg:C2.grownBy Bn (some go11):=(by rw [hw];exact Ao.2);have hp_:Kd.R (Kd.int .u8) 5 Bn w0.heap.size (fun k_=>(A9 k_∨w.heap.size≤k_)) (.slice (some ⟨go11,0,none⟩) l1.length At) Bd:=(by rw [hw,As.o];exact Ao.1);clear Ao;have n_:=ak5 (aD.grown (aD.q0 A1.o) hg (aD.own_ne A1.o A2.o (by decide))) hp_ (Kd.R_over' (v:=(.slice (some ⟨go11,0,none⟩) l1.length At)) (kqR A3.o) (Kd.R_typed A2.o) (by decide) hg) ((by rw [hw];exact dZ (HB.o) Bj.o:Below w0.heap.size w0 Bn)) (cE.of_grown (S:=(fun k_=>(A9 k_)∨k_=g)) hg (by repeat (first|(with_reducible first|exact HK.o|apply cE.alloc|apply cE.drewN|apply cE.drew|refine cE.setCell ?_ (.inl (.inr rfl)) _)|exact HK.o)) (fun k_ e_=>Or.imp_left Or.inl ((A2.o.1 k_ e_))));clear A1 A2 A3 HB HK;obtain ⟨A1,A2,A3,HB,HK⟩:=n_;clear hg hw hp_))
   go_ret
   exact ⟨_,rq,kqR A2.o,aD.q0 A1.o,bq1 HB.o (aD.ge A1.o),by repeat (first|(with_reducible first|exact HK.o|apply cE.alloc|apply cE.drewN|apply cE.drew|refine cE.setCell ?_ (.inl (.inr rfl)) _)|exact HK.o)⟩
 replace H:=iq H
 rcases H with ⟨-,Ax,Ay,H⟩|⟨Cx,Ax,Ay,H⟩
 replace H:=nq H
 obtain ⟨C5,H⟩:=H
 have Az:=am C5
 clear C5
 generalize Ak:((l1++[3]):List Int)=Cm at H
 have B0:=am Ak.symm
 clear Ak
 simp only [k4,k5] at H
 obtain ⟨rfl,rfl,rfl⟩:=H
 obtain ⟨Bo,Bp,Bq⟩:=Kd.R_slice A2.o
 subst Bq
 have z1:=trivial
 rotate_left
 replace H:=iq' H
 rcases H with ⟨Cy,B1,B2,H⟩|⟨-,B1,B2,H⟩
 simp only [k4,k5] at H
 obtain ⟨rfl,rfl,rfl⟩:=H
 obtain ⟨Cn,Co,Br⟩:=Kd.R_slice A2.o
 subst Br
 have z1:=trivial
 rotate_left
 replace H:=be H
 obtain ⟨⟨A0,A7,A8⟩,Bb,H⟩:=H
 try dsimp only at H
 replace H:=nq H
 obtain ⟨Bs,H⟩:=H
 have C6:=eq_true Bs
 have C7:decide (0≤A0)=true:=k8 Bs
 clear Bs
 replace H:=nq H
 obtain ⟨Bt,H⟩:=H
 have C8:=eq_true Bt
 have C9:decide (A0≤(l1.length:Int))=true:=k8 Bt
 clear Bt
 generalize Al:((l1.take (A0:Int).toNat):List Int)=Bu at H
 have Am:=am Al.symm
 clear Al
 simp only [k4,k5] at H
 obtain ⟨rfl,rfl,rfl⟩:=H
 obtain ⟨Bv,Bw,Bx⟩:=Kd.R_slice A2.o
 subst Bx
 have z2:=trivial
 rotate_right
 rotate_right
 rotate_right
 all_goals
  go_enter Try.func24,Try.ntmps24
  go_wp2_with (first|((with_reducible refine aE (f:=47) rfl ?_);have:=z2;refine gc (some 34) (a6.calls g A4 A5 A6 (l1.length:Int) A0 A7 A8 w0 _ (aD.q0 A1.o) (bq1 HB.o (aD.ge A1.o)) Bb.o) Try.func47 ?_;rintro e w_ ⟨rfl,hi,hb,hk⟩;refine ⟨_,rfl,?_⟩;have n_:=ak4 (Kd.R_mono (Kd.R_keep (aD.apart (show aD w0 _ g A4 A5 A6 from aD.q0 A1.o) (kqR A2.o) (by decide)) hk (fun _ h=>h.2)) (fun _ h=>h.1)) (cE.of_keep (S:=(fun k_=>(A9 k_)∨k_=g)) (by repeat (first|(with_reducible first|exact HK.o|apply cE.alloc|apply cE.drewN|apply cE.drew|refine cE.setCell ?_ (.inl (.inr rfl)) _)|exact HK.o)) hk (.inl (.inr rfl))) hb hi;clear A2 HK HB A1;obtain ⟨A2,HK,HB,A1⟩:=n_;(try clear hb hk hi);have By:(A0:Int)≤((l1.length:Int):Int):=oda;obtain ⟨Cp,An,_,B3,_⟩:=info_parts eH;have Ap:=kR (P:=Try.prog) 22 5 .i64 Try.underlying22 An Bv l1.length Bw A0 (oda) By (Kd.R_reads' A2.o).2.1;have Af:=Kd.R_take (m:=(A0:Int).toNat) A2.o (by omega);have B4:Bu.length=(A0:Int).toNat:=(by rw [Am.o,List.length_take];omega);rw [← Am.o] at Af;rw [← B4] at Af Ap;clear B4 An B3 A2;have B5:=am Af;clear Af;replace By:=eq_true By)|((with_reducible refine aE (f:=47) rfl ?_);(first|have:=z1|have:=z2);refine gc (some 10) (a6.calls g A4 Ac Ad 5 Ag A5 A6 w0 _ (aD.q0 A1.o) (bq1 HB.o (aD.ge A1.o)) C0.o) Try.func47 ?_;rintro e w_ ⟨rfl,hi,hb,hk⟩;refine ⟨_,rfl,?_⟩;have n_:=ak4 (Kd.R_mono (Kd.R_keep (aD.apart (show aD w0 _ g A4 Ac Ad from aD.q0 A1.o) (kqR A2.o) (by decide)) hk (fun _ h=>h.2)) (fun _ h=>h.1)) (cE.of_keep (S:=(fun k_=>(A9 k_)∨k_=g)) (by repeat (first|(with_reducible first|exact HK.o|apply cE.alloc|apply cE.drewN|apply cE.drew|refine cE.setCell ?_ (.inl (.inr rfl)) _)|exact HK.o)) hk (.inl (.inr rfl))) hb hi;clear A2 HK HB A1;obtain ⟨A2,HK,HB,A1⟩:=n_;(try clear hb hk hi))|((with_reducible refine bM (b:=.append) (xs:=#[.tmp 25,.tmp 26]) rfl ?_);at_builtin;refine Kd.R_append (Kd.int .u8) (w0:=w0) w0.heap.size rfl (.tmp 25) (.tmp 26) 22 5 (.int .u8 0) 1 rfl Try.underlying22 eH rfl (by decide) (by omega) (.slice Bo l1.length Bp) l1 3 [.int .u8 3] (fun k_=>(A9 k_∨w.heap.size≤k_)) (fun _=>False) rfl rfl ?aP (fun _ hk=>hk.elim) ?aF ?aO ?aB ?aS ?aL ?_;(case aP=>exact rfl);(case aB=>exact (bq1 HB.o (aD.ge A1.o)));(case aF=>exact (fun k_ hk=>(.inr (Nat.le_trans (by first|exact HK.o.1|exact (show cE w _ (fun k_=>(A9 k_)∨k_=g) from by repeat (first|(with_reducible first|exact HK.o|apply cE.alloc|apply cE.drewN|apply cE.drew|refine cE.setCell ?_ (.inl (.inr rfl)) _)|exact HK.o)).1) hk))));(case aO=>exact (kqR A2.o));(case aS=>exact (aH (bq1 HB.o (aD.ge A1.o))));(case aL=>have:=Az.o;omega);intro Cq w_ ho hb hg hat;rw [← B0.o] at ho;have n_:=ak4 (aD.grown (aD.q0 A1.o) hg (aD.own_ne A1.o A2.o (by decide))) hb (cE.of_grown (S:=(fun k_=>(A9 k_)∨k_=g)) hg (by repeat (first|(with_reducible first|exact HK.o|apply cE.alloc|apply cE.drewN|apply cE.drew|refine cE.setCell ?_ (.inl (.inr rfl)) _)|exact HK.o)) (fun k_ e_=>Or.imp_left Or.inl ((A2.o.1 k_ e_)))) ho;clear A1 HB HK A2;obtain ⟨A1,HB,HK,B6⟩:=n_;clear ho hb hg hat))
  first
  | go_ret
    exact ⟨_,rq,kqR B6.o,aD.q0 A1.o,bq1 HB.o (aD.ge A1.o),by repeat (first|(with_reducible first|exact HK.o|apply cE.alloc|apply cE.drewN|apply cE.drew|refine cE.setCell ?_ (.inl (.inr rfl)) _)|exact HK.o)⟩
  | go_ret
    exact ⟨_,rq,kqR B5.o,aD.q0 A1.o,bq1 HB.o (aD.ge A1.o),by repeat (first|(with_reducible first|exact HK.o|apply cE.alloc|apply cE.drewN|apply cE.drew|refine cE.setCell ?_ (.inl (.inr rfl)) _)|exact HK.o)⟩
  | go_ret
    exact ⟨_,rq,kqR A2.o,aD.q0 A1.o,bq1 HB.o (aD.ge A1.o),by repeat (first|(with_reducible first|exact HK.o|apply cE.alloc|apply cE.drewN|apply cE.drew|refine cE.setCell ?_ (.inl (.inr rfl)) _)|exact HK.o)⟩
def eT.f (k:Nat) (l0:List Int):Option (List Int):=(dS.f k l0).bind fun A1=>((bH.f k A1.1 A1.2.1 A1.2.2).bind fun A0=>((eO.f k A0.1 A0.2.1 A0.2.2.1 A0.2.2.2.1 A0.2.2.2.2.1).bind fun A3=>((fJ.f A1.1 A0.2.2.2.2.2.1 A0.2.2.2.2.2.2 A3).bind fun A2=>(some A2.1))))
theorem eT.calls (k:Nat) (A0:Option Addr) (c0:Nat) (l0:List Int) (r:List Int) (w:World) (Ao:Kd.C (Kd.int .u8) w A0 l0.length l0) (Ap:l0.length≤c0) (h:eT.f k l0=some r):
 Calls Try.prog 7 #[.slice A0 l0.length c0] w fun e w'=>∃Aq:Value,e=.returned (Aq)∧Kd.R (Kd.int .u8) 5 w' w.heap.size (fun _=>True) Aq r∧Below w.heap.size w w':=by
 have Ar:=am Ao
 have As:=am Ap
 clear Ao Ap
 have HB:=am (Below.refl w.heap.size w)
 have H:=h
 clear h
 unfold eT.f at H
 replace H:=be H
 obtain ⟨⟨A5,A6,A7⟩,At,H⟩:=H
 try dsimp only at H
 replace H:=be H
 obtain ⟨⟨A8,A9,Aa,Ab,Ac,Ad,Ae⟩,Au,H⟩:=H
 try dsimp only at H
 replace H:=be H
 obtain ⟨A3,Av,H⟩:=H
 replace H:=be H
 obtain ⟨⟨Ag,Ah,Ai⟩,Aw,H⟩:=H
 try dsimp only at H
 obtain rfl:=k6 H
 go_enter Try.func7,Try.ntmps7
 go_wp2_with (first|((with_reducible refine aE (f:=17) rfl ?_);refine gc (some 5) (dS.calls k _ _ l0 A5 A6 A7 w _ (bq HB.o) Ar.o As.o At.o) Try.func17 ?_;rintro e w6 ⟨Aj,rfl,hi,hb,Ax⟩;refine ⟨_,rfl,?_⟩;have n_:=ak2 hb hi;clear HB;obtain ⟨HB,A1⟩:=n_;(try clear hb Ax hi))|((with_reducible refine aE (f:=25) rfl ?_);refine gc (some 8) (bH.calls k Aj A5 A6 A7 A8 A9 Aa Ab Ac Ad Ae w _ (aD.q0 A1.o) (bq1 HB.o (aD.ge A1.o)) Au.o) Try.func25 ?_;rintro e w7 ⟨Ay,rfl,Af,hi,hb,hk⟩;refine ⟨_,rfl,?_⟩;have n_:=ak3 (Kd.S_lower Af (aH (bq1 HB.o (aD.ge A1.o)))) hb hi;clear HB A1;obtain ⟨A2,HB,A1⟩:=n_;(try clear hb hk hi Af);obtain ⟨B2,B3,Az⟩:=Kd.S_slice A2.o;subst Az)|((with_reducible refine aE (f:=12) rfl ?_);refine gc (some 9) (eO.calls k A8 A9 Aa Ab _ _ Ac A3 _ (cq (Kd.S_reads' A2.o).2.2) ((Kd.S_reads' A2.o).2.1) Av.o) Try.func12 ?_;rintro e w9 ⟨B0,rfl,Af,hb⟩;refine ⟨_,rfl,?_⟩;have n_:=ak4 (Kd.S_below (kqS A2.o) hb) (rl Af (bq1 HB.o (aD.ge A1.o))) (aD.below (aD.q0 A1.o) hb) (aC (bq1 HB.o (aD.ge A1.o)) hb);clear A2 A1 HB;obtain ⟨A2,A4,A1,HB⟩:=n_;(try clear hb Af);obtain ⟨Ak,Al,An⟩:=Kd.R_slice A4.o;subst An)|((with_reducible refine aE (f:=24) rfl ?_);refine gc (some 10) (fJ.calls Aj A5 Ad Ae (fun k_=>some k_=(.slice Ak A3.length Al:Value).ownBlock) (.slice Ak A3.length Al) A3 Ag Ah Ai w _ (aD.q0 A1.o) (bq1 HB.o (aD.ge A1.o)) (Kd.R_tight rfl A4.o) Aw.o) Try.func24 ?_;rintro e B4 ⟨B1,rfl,Af,hi,hb,hkp⟩;refine ⟨_,rfl,?_⟩;have n_:=ak4 hi (Kd.S_mono (ok':=fun k_=>True) (Kd.S_keptB ((aD.apartS A1.o (Kd.S_apart' A2.o (Kd.R_typed A4.o) (by decide)) (by decide))) hkp (fun k_ hk_ hs_=>Or.elim hs_ (fun hs_=>(hk_.1.2) hs_) (fun e_=>(hk_.2) e_))) (fun k_ hk_=>trivial)) (Kd.R_mono (ok':=fun k_=>True) Af (fun k_ hk_=>trivial)) hb;clear A1 A2 HB A4;obtain ⟨A1,A2,Am,HB⟩:=n_;(try clear hb hkp Af)))
 go_ret
 exact ⟨_,rq,kqR Am.o,bq1 HB.o (aD.ge A1.o)⟩
end Go.Proofs.Ytgppikopdpeigaa.XFnPdus
