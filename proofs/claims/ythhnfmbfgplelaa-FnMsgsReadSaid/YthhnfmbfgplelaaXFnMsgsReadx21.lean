/- The functions that one law reaches, as Lean functions, with their walks: printed by a program of this seat (wip/tools) out of the translation. -/
import Derived.Test.YthhnfmbfgplelaaXFnMsgsReadx0
import Derived.Test.YthhnfmbfgplelaaXFnMsgsReadx15
import Derived.Test.YthhnfmbfgplelaaXFnMsgsReadx19
import Derived.Test.YthhnfmbfgplelaaXFnMsgsReadx20
namespace Go.Proofs.Ythhnfmbfgplelaa.XFnMsgsRead
open Go.RowKit Go.Proofs.YthhnfmbfgplelaaW.PrintWords Go.Proofs.YthhnfmbfgplelaaW.PrintLast Go.Proofs.YthhnfmbfgplelaaW.PrintMore
attribute [local go_sem] cL cM dC dD cB cC cN cO
set_option linter.unusedVariables false
set_option linter.unusedSimpArgs false
set_option maxHeartbeats 8000000
set_option maxRecDepth 100000
def dG.f (k:Nat) (Ac:Int) (A2:Int) (A3:Int) (A4:Int) (A5:List (S116)):Option (List Int × Bool):=(b7.f k A5).bind fun A0=>(if (A0.length:Int)>250 then (some ((([]:List Int)),false)) else ((bT.f k A2).bind fun A6=>((aY.f k (([]:List Int)) 2 A6).bind fun A7=>((bT.f k A3).bind fun A8=>((aY.f k A7 2 A8).bind fun A9=>((bT.f k A4).bind fun Aa=>((aY.f k A9 2 Aa).bind fun Ab=>((aY.f k Ab 48 A0).bind fun A1=>(some (A1,decide ((A1.length:Int)≤250)))))))))))
def dG.T4:Bool × List (List Nat × List Nat):=(true,[([],[]),([],[]),([1],[1]),([2],[2]),([0,3,3],[0,3]),([],[]),([5],[5]),([6,4],[6]),([4,7,7],[4,7]),([],[]),([9],[9]),([10,8],[10]),([8,11,11],[8,11]),([12,12,0,1,2,3,4,5,6,7,8,9,10,11,12],[12])])
def dG.B4:List Nat:=[0,0,2,6,15,0,32,127,255,0,512,2047,4095,8191]
theorem dG.tab4:eN .any (gA Try.f97 4)=dG.T4:=by kernel_rfl
theorem dG.bits4:eG dG.T4.2 dG.B4=true:=by kernel_rfl
theorem dG.calls (k:Nat) (Ai:Int) (Ad:Int) (Ae:Int) (Af:Int) (Aj:Option Addr) (Ak:Nat) (Ac:List (S116)) (r1:List Int) (r2:Bool) (w:World) (B3:Kd.C dV w Aj Ac.length Ac) (B4:Ac.length≤Ak) (h:dG.f k Ai Ad Ae Af Ac=some (r1,r2)):
 Calls Try.prog 97 #[.agg #[.int .i64 Ai,.int .i64 Ad,.int .i64 Ae,.int .i64 Af,.slice Aj Ac.length Ak]] w fun e w'=>∃Co:Value,e=.returned (.tuple #[Co,.bool r2])∧Kd.R (Kd.int .u8) 5 w' w.heap.size (fun _=>True) Co r1∧Below w.heap.size w w':=by
 have Cw:=Try.underlying58
 have B5:=am B3
 have B6:=am B4
 clear B3 B4
 have HB:=am (Below.refl w.heap.size w)
 have H:=h
 clear h
 unfold dG.f at H
 replace H:=be H
 obtain ⟨Aa,Cp,H⟩:=H
 replace H:=ig H
 rcases H with ⟨c3,Bw,H⟩|⟨c3,Bw,H⟩
 · have Bx:decide (250<Aa.length)=true:=l5 (by omega)
   clear c3
   generalize B7:((([]:List Int)):List Int)=Cx at H
   have B8:=am B7.symm
   clear B7
   simp only [lW,lX] at H
   obtain ⟨rfl,rfl⟩:=H
   go_enter Try.func97,Try.ntmps97
   go_wp2_with (first|((with_reducible refine aI (N:=1) rfl ?_);refine bxe 1 #[.int .i64 Ai,.int .i64 Ad,.int .i64 Ae,.int .i64 Af,.slice Aj Ac.length Ak] 58 ?_;intro A8 hg w4 hbox hb;have n_:=ak4 (aC (bq HB.o) hb) hbox (bz hg (bq HB.o)) (bz hg (bq HB.o));clear HB;obtain ⟨HB,A0,Bd,A4⟩:=n_;clear hb hbox hg;obtain ⟨By,Bz,C0,C1,C2,C3,C4,C5,C6,C7⟩:=cl5 A0.o)|((with_reducible refine aE (f:=128) rfl ?_);refine gc (some 8) (b7.calls k _ _ Ac Aa _ (cq (Kd.C_below B5.o HB.o)) B6.o Cp.o) Try.func128 ?_;rintro e w6 ⟨C8,rfl,A6,hb⟩;refine ⟨_,rfl,?_⟩;have n_:=ak3 (rl A6 (bq1 HB.o A4.o)) (kb A0 hb) (aC (bq1 HB.o A4.o) hb);clear A0 HB;obtain ⟨A1,A0,HB⟩:=n_;(try clear hb A6);obtain ⟨Di,Dj,Cy⟩:=Kd.R_slice A1.o;subst Cy)|((with_reducible refine aI (N:=12) rfl ?_);refine Kd.R_lit (Kd.int .u8) _ 5 ?hg (N:=12) ?hd (xs:=([]:List Int)) (inner:=[]) (ok:=fun _=>True) (okp:=fun _=>True) ?hr ?hp (fun _ hk=>hk) trivial (Below.refl _ _) (lZ _) (by simp) ?_;(case hd=>rfl);(case hg=>rfl);(case hr=>exact gs);(case hp=>exact (a9.none _ _));intro Cz w8 Bc hb hg_ hnew_;clear hg_ hnew_;(first|rw [← B8.o] at Bc|(simp only [Int.reduceToNat] at Bc;rw [← B8.o] at Bc));have n_:=ak4 (re_ A1 Bc hb) (rn_ Bc A1 (bq1 HB.o A4.o)) (kb A0 hb) (aC (bq1 HB.o A4.o) hb);clear A1 A0 HB;obtain ⟨A1,Be,A0,HB⟩:=n_;clear hb Bc))
   go_ret2
   exact ⟨_,rq,by refine kr ?_;exact Kd.R_mono Be.o (fun _ hk=>trivial),bq1 HB.o A4.o⟩
 have Bx:decide (250<Aa.length)=false:=l6 (by omega)
 clear c3
 generalize B9:((([]:List Int)):List Int)=B2 at H
 have Aq:=am B9.symm
 clear B9
 replace H:=be H
 obtain ⟨Ah,Cq,H⟩:=H
 replace H:=be H
 obtain ⟨Au,D0,H⟩:=H
 replace H:=be H
 obtain ⟨Av,D1,H⟩:=H
 replace H:=be H
 obtain ⟨Aw,D2,H⟩:=H
 replace H:=be H
 obtain ⟨Ax,D3,H⟩:=H
 replace H:=be H
 obtain ⟨Ba,D4,H⟩:=H
 replace H:=be H
 obtain ⟨Bf,D5,H⟩:=H
 simp only [lW,lX] at H
 obtain ⟨rfl,rfl⟩:=H
 go_enter Try.func97,Try.ntmps97
 try go_wp2_with (first|((with_reducible refine aI (N:=1) rfl ?_);refine bxe 1 #[.int .i64 Ai,.int .i64 Ad,.int .i64 Ae,.int .i64 Af,.slice Aj Ac.length Ak] 58 ?_;intro A8 hg Dk hbox hb;have n_:=ak4 (aC (bq HB.o) hb) hbox (bz hg (bq HB.o)) (bz hg (bq HB.o));clear HB;obtain ⟨HB,A0,Bd,A4⟩:=n_;clear hb hbox hg;obtain ⟨Bm,Bn,Bo,Bp,Bq,Br,Bs,Bt,Bu,Bv⟩:=cl5 A0.o)|((with_reducible refine aE (f:=128) rfl ?_);refine gc (some 8) (b7.calls k _ _ Ac Aa _ (cq (Kd.C_below B5.o HB.o)) B6.o Cp.o) Try.func128 ?_;rintro e D6 ⟨C8,rfl,A6,hb⟩;refine ⟨_,rfl,?_⟩;have n_:=ak3 (rl A6 (bq1 HB.o A4.o)) (kb A0 hb) (aC (bq1 HB.o A4.o) hb);clear A0 HB;obtain ⟨A1,A0,HB⟩:=n_;(try clear hb A6);obtain ⟨Ar,As,C9⟩:=Kd.R_slice A1.o;subst C9))
 have n_:=ak3 (Kd.R_drew A1.o) (a7 A0.o) (bD HB.o)
 clear A1 A0 HB
 obtain ⟨A1,A0,HB⟩:=n_
 refine dJ (n:=14) (S:=fun w'=>w'.cell? ⟨A8,0,none⟩=some (.int .i64 Ai)∧w'.cell? ⟨A8,1,none⟩=some (.int .i64 Ad)∧w'.cell? ⟨A8,2,none⟩=some (.int .i64 Ae)∧w'.cell? ⟨A8,3,none⟩=some (.int .i64 Af)∧w'.cell? ⟨A8,4,none⟩=some (.slice Aj Ac.length Ak)) (ds:=[]) #[F,F,F,F,F,F,F,F,F,F,F,F,F,F] (by kernel_rfl) rfl rfl ⟨(aD A0.o 0).trans rfl,(aD A0.o 1).trans rfl,(aD A0.o 2).trans rfl,(aD A0.o 3).trans rfl,(aD A0.o 4).trans rfl⟩ (fun hHeld=>?_);refine bW dG.tab4 dG.bits4 (fun HT_ HW_=>?_)
 generalize D6.drew=Dl at A1 A0 HB hHeld ⊢
 refine pv HT_ 1 (some 14) #[F,T,F,F,F,F,F,F,F,F,F,F,F,F] ?_
 refine pv HT_ 5 (some 18) #[F,T,F,F,F,T,F,F,F,F,F,F,F,F] ?_
 refine pv HT_ 9 (some 22) #[F,T,F,F,F,T,F,F,F,T,F,F,F,F] ?_
 refine tk 2 (some 15) #[F,T,T,F,F,T,F,F,F,T,F,F,F,F] rfl rfl (a8 HT_.o HW_.o (by kernel_rfl)) hHeld (Or.inl ⟨by rfl,by rintro w' ⟨s0,s1,s2,s3,s4⟩;go_simp;with_reducible rfl⟩) ?_
 refine tk 6 (some 19) #[F,T,T,F,F,T,T,F,F,T,F,F,F,F] rfl rfl (a8 HT_.o HW_.o (by kernel_rfl)) hHeld (Or.inl ⟨by rfl,by rintro w' ⟨s0,s1,s2,s3,s4⟩;go_simp;with_reducible rfl⟩) ?_
 refine tk 10 (some 23) #[F,T,T,F,F,T,T,F,F,T,T,F,F,F] rfl rfl (a8 HT_.o HW_.o (by kernel_rfl)) hHeld (Or.inl ⟨by rfl,by rintro w' ⟨s0,s1,s2,s3,s4⟩;go_simp;with_reducible rfl⟩) ?_
 refine lH (σ:=Value × Value) 6 #[T,T,T,T,F,T,T,F,F,T,T,F,F,F] (fun s_=>[(13,s_.1),(16,s_.2)]) (fun s_ w'=>(w'.cell? ⟨A8,0,none⟩=some (.int .i64 Ai)∧w'.cell? ⟨A8,1,none⟩=some (.int .i64 Ad)∧w'.cell? ⟨A8,2,none⟩=some (.int .i64 Ae)∧w'.cell? ⟨A8,3,none⟩=some (.int .i64 Af)∧w'.cell? ⟨A8,4,none⟩=some (.slice Aj Ac.length Ak))∧(Kd.R (Kd.int .u8) 5 w' w.heap.size (fun k_=>some k_≠(s_.1:Value).ownBlock∧some k_≠(s_.2:Value).ownBlock) (.slice Ar Aa.length As) Aa)∧(Kd.R (Kd.int .u8) 5 w' w.heap.size (fun k_=>some k_≠(.slice Ar Aa.length As:Value).ownBlock∧some k_≠(s_.2:Value).ownBlock) s_.1 B2)∧(Kd.R (Kd.int .u8) 5 w' w.heap.size (fun k_=>some k_≠(.slice Ar Aa.length As:Value).ownBlock∧some k_≠(s_.1:Value).ownBlock) s_.2 Ah)∧(w'.heap[A8]? =some (.cells #[.int .i64 Ai,.int .i64 Ad,.int .i64 Ae,.int .i64 Af,.slice Aj Ac.length Ak] 58 (0,0)))∧(Below w.heap.size w w')) ?_ ?_
 rotate_left
 · intro hCont
   refine two_ (i:=0) (j:=3) (Ni:=some 13) (Nj:=some 16) #[T,T,T,F,F,T,T,F,F,T,T,F,F,F] #[F,T,T,T,F,T,T,F,F,T,T,F,F,F] rfl rfl rfl rfl (k5 HT_.o (by kernel_rfl)) (by decide) (by decide) (fun K hK=>?_) (fun K hK=>?_)
   · skip
     refine Kd.R_lit_step (Kd.int .u8) _ 5 ?hg (N:=13) ?hd (xs:=([]:List Int)) (inner:=[]) (ok:=fun _=>True) (okp:=fun _=>True) ?hr ?hp (fun _ hk=>hk) trivial (Below.refl _ _) (lZ _) (by simp) ?_;(case hd=>rfl);(case hg=>rfl);(case hr=>exact gs);(case hp=>exact (a9.none _ _))
     intro An D7 At hb hg_ hnew_
     clear hg_ hnew_
     (first|rw [← Aq.o] at At|(simp only [Int.reduceToNat] at At;rw [← Aq.o] at At))
     have n_:=ak4 (re_ A1 At hb) (rn_ At A1 (bq1 HB.o A4.o)) (kb A0 hb) (aC (bq1 HB.o A4.o) hb)
     clear A1 A0 HB
     obtain ⟨A1,A2,A0,HB⟩:=n_
     clear hb At
     refine hK.out _ _ ⟨(aD A0.o 0).trans rfl,(aD A0.o 1).trans rfl,(aD A0.o 2).trans rfl,(aD A0.o 3).trans rfl,(aD A0.o 4).trans rfl⟩ (fun hHeld=>?_)
     clear hK K
     refine cE (a':=?_) ?_ ?_
     rotate_left
     · show Act.put _ (some 13) _=_
       simp only [Act.put,lT,lU,lV,aK,aU]
       rfl
     refine eI (i:=3) (N:=some 16) #[T,T,T,T,F,T,T,F,F,T,T,F,F,F] rfl rfl (b5 HT_.o (by kernel_rfl)) (by decide) (fun K hK=>?_)
     refine cY Try.func64 (by kernel_rfl) rfl #[.int .i64 Ad] (by rfl) rfl rfl ga ?_
     with_reducible refine (bT.calls k Ad Ah _ Cq.o).mono ?_
     rintro e Dm ⟨Ao,rfl,A6,hb⟩
     refine ⟨_,rfl,?_⟩
     have n_:=ak5 (re_ A1 A6 hb) (re_ A2 A6 hb) (Kd.R_lower (Kd.R_new' (Kd.R_new' A6 (Kd.R_lt (kqR A1.o))) (Kd.R_lt (kqR A2.o))) (aH (bq1 HB.o A4.o))) (kb A0 hb) (aC (bq1 HB.o A4.o) hb)
     clear A1 A2 A0 HB
     obtain ⟨A1,A2,A3,A0,HB⟩:=n_
     (try clear hb A6)
     refine hK.out _ _ ⟨(aD A0.o 0).trans rfl,(aD A0.o 1).trans rfl,(aD A0.o 2).trans rfl,(aD A0.o 3).trans rfl,(aD A0.o 4).trans rfl⟩ (fun hHeld=>?_)
     clear hK K
     refine cE (a':=?_) ?_ ?_
     rotate_left
     · show Act.put _ (some 16) _=_
       simp only [Act.put,lT,lU,lV,aK,aU]
       rfl
     exact cE (by simp only [gG,Act.put,lT,lU,lV]) (hCont (An,Ao) _ ⟨hHeld,(by refine kr ?_;exact Kd.R_mono A1.o (fun _ hk=>⟨hk.1.2,hk.2⟩)),(by refine kr ?_;exact Kd.R_mono A2.o (fun _ hk=>⟨hk.1.2,hk.2⟩)),(by refine kr ?_;exact Kd.R_mono A3.o (fun _ hk=>⟨hk.1.2,hk.2⟩)),(zq A0.o),(bq1 HB.o A4.o)⟩)
   skip
   refine cY Try.func64 (by kernel_rfl) rfl #[.int .i64 Ad] (by rfl) rfl rfl ga ?_
   with_reducible refine (bT.calls k Ad Ah _ Cq.o).mono ?_
   rintro e D7 ⟨Ao,rfl,A6,hb⟩
   refine ⟨_,rfl,?_⟩
   have n_:=ak4 (re_ A1 A6 hb) (rn_ A6 A1 (bq1 HB.o A4.o)) (kb A0 hb) (aC (bq1 HB.o A4.o) hb)
   clear A1 A0 HB
   obtain ⟨A1,A3,A0,HB⟩:=n_
   (try clear hb A6)
   refine hK.out _ _ ⟨(aD A0.o 0).trans rfl,(aD A0.o 1).trans rfl,(aD A0.o 2).trans rfl,(aD A0.o 3).trans rfl,(aD A0.o 4).trans rfl⟩ (fun hHeld=>?_)
   clear hK K
   refine cE (a':=?_) ?_ ?_
   rotate_left
   · show Act.put _ (some 16) _=_
     simp only [Act.put,lT,lU,lV,aK,aU]
     rfl
   refine eI (i:=0) (N:=some 13) #[T,T,T,T,F,T,T,F,F,T,T,F,F,F] rfl rfl (b5 HT_.o (by kernel_rfl)) (by decide) (fun K hK=>?_)
   refine Kd.R_lit_step (Kd.int .u8) _ 5 ?hg (N:=13) ?hd (xs:=([]:List Int)) (inner:=[]) (ok:=fun _=>True) (okp:=fun _=>True) ?hr ?hp (fun _ hk=>hk) trivial (Below.refl _ _) (lZ _) (by simp) ?_;(case hd=>rfl);(case hg=>rfl);(case hr=>exact gs);(case hp=>exact (a9.none _ _))
   intro An Dn Ap hb hg_ hnew_
   clear hg_ hnew_
   (first|rw [← Aq.o] at Ap|(simp only [Int.reduceToNat] at Ap;rw [← Aq.o] at Ap))
   have n_:=ak5 (re_ A1 Ap hb) (re_ A3 Ap hb) (Kd.R_lower (Kd.R_new' (Kd.R_new' Ap (Kd.R_lt (kqR A1.o))) (Kd.R_lt (kqR A3.o))) (aH (bq1 HB.o A4.o))) (kb A0 hb) (aC (bq1 HB.o A4.o) hb)
   clear A1 A3 A0 HB
   obtain ⟨A1,A3,A2,A0,HB⟩:=n_
   clear hb Ap
   refine hK.out _ _ ⟨(aD A0.o 0).trans rfl,(aD A0.o 1).trans rfl,(aD A0.o 2).trans rfl,(aD A0.o 3).trans rfl,(aD A0.o 4).trans rfl⟩ (fun hHeld=>?_)
   clear hK K
   refine cE (a':=?_) ?_ ?_
   rotate_left
   · show Act.put _ (some 13) _=_
     simp only [Act.put,lT,lU,lV,aK,aU]
     rfl
   exact cE (by simp only [gG,Act.put,lT,lU,lV]) (hCont (An,Ao) _ ⟨hHeld,(by refine kr ?_;exact Kd.R_mono A1.o (fun _ hk=>⟨hk.2,hk.1.2⟩)),(by refine kr ?_;exact Kd.R_mono A2.o (fun _ hk=>⟨hk.1.2,hk.2⟩)),(by refine kr ?_;exact Kd.R_mono A3.o (fun _ hk=>⟨hk.1.2,hk.2⟩)),(zq A0.o),(bq1 HB.o A4.o)⟩)
 rintro ⟨An,Ao⟩ B1 ⟨hS_,Cr,Cs,Ct,Cu,Cv⟩
 have n_:Aside0 (Kd.R (Kd.int .u8) 5 B1 w.heap.size (fun k_=>some k_≠(An:Value).ownBlock∧some k_≠(Ao:Value).ownBlock) (.slice Ar Aa.length As) Aa)∧Aside0 (Kd.R (Kd.int .u8) 5 B1 w.heap.size (fun k_=>some k_≠(.slice Ar Aa.length As:Value).ownBlock∧some k_≠(Ao:Value).ownBlock) An B2)∧Aside0 (Kd.R (Kd.int .u8) 5 B1 w.heap.size (fun k_=>some k_≠(.slice Ar Aa.length As:Value).ownBlock∧some k_≠(An:Value).ownBlock) Ao Ah)∧Aside0 (B1.heap[A8]? =some (.cells #[.int .i64 Ai,.int .i64 Ad,.int .i64 Ae,.int .i64 Af,.slice Aj Ac.length Ak] 58 (0,0)))∧Aside0 (Below w.heap.size w B1):=⟨⟨Cr⟩,⟨Cs⟩,⟨Ct⟩,⟨Cu⟩,⟨Cv⟩⟩
 clear A1 A0 HB Cr Cs Ct Cu Cv
 obtain ⟨A1,A2,A3,A0,HB⟩:=n_
 have hHeld:B1.cell? ⟨A8,0,none⟩=some (.int .i64 Ai)∧B1.cell? ⟨A8,1,none⟩=some (.int .i64 Ad)∧B1.cell? ⟨A8,2,none⟩=some (.int .i64 Ae)∧B1.cell? ⟨A8,3,none⟩=some (.int .i64 Af)∧B1.cell? ⟨A8,4,none⟩=some (.slice Aj Ac.length Ak):=hS_
 obtain ⟨Ca,Cb,Bg⟩:=Kd.R_slice A2.o
 (first|subst Bg|(injection Bg with Al Ay Am;have Az:=Al.symm;have B0:=Am.symm;clear Al Ay Am;subst Az;subst B0))
 obtain ⟨Cc,Cd,Bh⟩:=Kd.R_slice A3.o
 (first|subst Bh|(injection Bh with Al Ay Am;have Az:=Al.symm;have B0:=Am.symm;clear Al Ay Am;subst Az;subst B0))
 refine cE (a':=?_) ?_ ?_
 rotate_left
 · simp only [gG,Act.put,lT,lU,lV]
   rfl
 refine eI (i:=4) (N:=some 17) #[T,T,T,T,T,T,T,F,F,T,T,F,F,F] rfl rfl (b5 HT_.o (by kernel_rfl)) (by decide) (fun K hK=>?_)
 refine cY Try.func66 (by kernel_rfl) rfl #[.slice Ca B2.length Cb,.int .i64 2,.slice Cc Ah.length Cd] (by rfl) rfl rfl ga ?_
 with_reducible refine (aY.calls k _ _ B2 2 _ _ Ah Au _ ?side1 ?side2 ?side3 ?side4 D0.o).mono ?_
 (case side1=>repeat (first|exact (Kd.R_reads' A2.o).2.2|(with_reducible refine Kd.C_alloc ?_ _)|(with_reducible refine Kd.C_drewN ?_ _)|(with_reducible refine Kd.C_drew ?_)))
 (case side2=>exact (Kd.R_reads' A2.o).2.1)
 (case side3=>repeat (first|exact (Kd.R_reads' A3.o).2.2|(with_reducible refine Kd.C_alloc ?_ _)|(with_reducible refine Kd.C_drewN ?_ _)|(with_reducible refine Kd.C_drew ?_)))
 (case side4=>exact (Kd.R_reads' A3.o).2.1)
 rintro e Do ⟨D8,rfl,A6,hb⟩
 refine ⟨_,rfl,?_⟩
 have n_:=ak6 (re_ A1 A6 hb) (re_ A2 A6 hb) (re_ A3 A6 hb) (Kd.R_lower (Kd.R_new' (Kd.R_new' (Kd.R_new' A6 (Kd.R_lt (kqR A1.o))) (Kd.R_lt (kqR A2.o))) (Kd.R_lt (kqR A3.o))) (aH (bq1 HB.o A4.o))) (kb A0 hb) (aC (bq1 HB.o A4.o) hb)
 clear A1 A2 A3 A0 HB
 obtain ⟨A1,A2,A3,A5,A0,HB⟩:=n_
 (try clear hb A6)
 refine hK.out _ _ ⟨(aD A0.o 0).trans rfl,(aD A0.o 1).trans rfl,(aD A0.o 2).trans rfl,(aD A0.o 3).trans rfl,(aD A0.o 4).trans rfl⟩ (fun hHeld=>?_)
 clear hK K
 refine cE (a':=?_) ?_ ?_
 rotate_left
 · show Act.put _ (some 17) _=_
   simp only [Act.put,lT,lU,lV,aK,aU]
   rfl
 refine eI (i:=7) (N:=some 20) #[T,T,T,T,T,T,T,T,F,T,T,F,F,F] rfl rfl (b5 HT_.o (by kernel_rfl)) (by decide) (fun K hK=>?_)
 refine cY Try.func64 (by kernel_rfl) rfl #[.int .i64 Ae] (by rfl) rfl rfl ga ?_
 with_reducible refine (bT.calls k Ae Av _ D1.o).mono ?_
 rintro e Dp ⟨D9,rfl,A6,hb⟩
 refine ⟨_,rfl,?_⟩
 have n_:=ak7 (re_ A1 A6 hb) (re_ A2 A6 hb) (re_ A3 A6 hb) (re_ A5 A6 hb) (Kd.R_lower (Kd.R_new' (Kd.R_new' (Kd.R_new' (Kd.R_new' A6 (Kd.R_lt (kqR A1.o))) (Kd.R_lt (kqR A2.o))) (Kd.R_lt (kqR A3.o))) (Kd.R_lt (kqR A5.o))) (aH (bq1 HB.o A4.o))) (kb A0 hb) (aC (bq1 HB.o A4.o) hb)
 clear A1 A2 A3 A5 A0 HB
 obtain ⟨A1,A2,A3,A5,A7,A0,HB⟩:=n_
 (try clear hb A6)
 obtain ⟨Ce,Cf,Bi⟩:=Kd.R_slice A5.o
 (first|subst Bi|(injection Bi with Al Ay Am;have Az:=Al.symm;have B0:=Am.symm;clear Al Ay Am;subst Az;subst B0))
 obtain ⟨Cg,Ch,Bj⟩:=Kd.R_slice A7.o
 (first|subst Bj|(injection Bj with Al Ay Am;have Az:=Al.symm;have B0:=Am.symm;clear Al Ay Am;subst Az;subst B0))
 refine hK.out _ _ ⟨(aD A0.o 0).trans rfl,(aD A0.o 1).trans rfl,(aD A0.o 2).trans rfl,(aD A0.o 3).trans rfl,(aD A0.o 4).trans rfl⟩ (fun hHeld=>?_)
 clear hK K
 refine cE (a':=?_) ?_ ?_
 rotate_left
 · show Act.put _ (some 20) _=_
   simp only [Act.put,lT,lU,lV,aK,aU]
   rfl
 refine eI (i:=8) (N:=some 21) #[T,T,T,T,T,T,T,T,T,T,T,F,F,F] rfl rfl (b5 HT_.o (by kernel_rfl)) (by decide) (fun K hK=>?_)
 refine cY Try.func66 (by kernel_rfl) rfl #[.slice Ce Au.length Cf,.int .i64 2,.slice Cg Av.length Ch] (by rfl) rfl rfl ga ?_
 with_reducible refine (aY.calls k _ _ Au 2 _ _ Av Aw _ ?side1 ?side2 ?side3 ?side4 D2.o).mono ?_
 (case side1=>repeat (first|exact (Kd.R_reads' A5.o).2.2|(with_reducible refine Kd.C_alloc ?_ _)|(with_reducible refine Kd.C_drewN ?_ _)|(with_reducible refine Kd.C_drew ?_)))
 (case side2=>exact (Kd.R_reads' A5.o).2.1)
 (case side3=>repeat (first|exact (Kd.R_reads' A7.o).2.2|(with_reducible refine Kd.C_alloc ?_ _)|(with_reducible refine Kd.C_drewN ?_ _)|(with_reducible refine Kd.C_drew ?_)))
 (case side4=>exact (Kd.R_reads' A7.o).2.1)
 rintro e Dq ⟨Da,rfl,A6,hb⟩
 refine ⟨_,rfl,?_⟩
 have n_:=ak8 (re_ A1 A6 hb) (re_ A2 A6 hb) (re_ A3 A6 hb) (re_ A5 A6 hb) (re_ A7 A6 hb) (Kd.R_lower (Kd.R_new' (Kd.R_new' (Kd.R_new' (Kd.R_new' (Kd.R_new' A6 (Kd.R_lt (kqR A1.o))) (Kd.R_lt (kqR A2.o))) (Kd.R_lt (kqR A3.o))) (Kd.R_lt (kqR A5.o))) (Kd.R_lt (kqR A7.o))) (aH (bq1 HB.o A4.o))) (kb A0 hb) (aC (bq1 HB.o A4.o) hb)
 clear A1 A2 A3 A5 A7 A0 HB
 obtain ⟨A1,A2,A3,A5,A7,A9,A0,HB⟩:=n_
 (try clear hb A6)
 refine hK.out _ _ ⟨(aD A0.o 0).trans rfl,(aD A0.o 1).trans rfl,(aD A0.o 2).trans rfl,(aD A0.o 3).trans rfl,(aD A0.o 4).trans rfl⟩ (fun hHeld=>?_)
 clear hK K
 refine cE (a':=?_) ?_ ?_
 rotate_left
 · show Act.put _ (some 21) _=_
   simp only [Act.put,lT,lU,lV,aK,aU]
   rfl
 refine eI (i:=11) (N:=some 24) #[T,T,T,T,T,T,T,T,T,T,T,T,F,F] rfl rfl (b5 HT_.o (by kernel_rfl)) (by decide) (fun K hK=>?_)
 refine cY Try.func64 (by kernel_rfl) rfl #[.int .i64 Af] (by rfl) rfl rfl ga ?_
 with_reducible refine (bT.calls k Af Ax _ D3.o).mono ?_
 rintro e Dr ⟨Db,rfl,A6,hb⟩
 refine ⟨_,rfl,?_⟩
 have n_:=ak9 (re_ A1 A6 hb) (re_ A2 A6 hb) (re_ A3 A6 hb) (re_ A5 A6 hb) (re_ A7 A6 hb) (re_ A9 A6 hb) (Kd.R_lower (Kd.R_new' (Kd.R_new' (Kd.R_new' (Kd.R_new' (Kd.R_new' (Kd.R_new' A6 (Kd.R_lt (kqR A1.o))) (Kd.R_lt (kqR A2.o))) (Kd.R_lt (kqR A3.o))) (Kd.R_lt (kqR A5.o))) (Kd.R_lt (kqR A7.o))) (Kd.R_lt (kqR A9.o))) (aH (bq1 HB.o A4.o))) (kb A0 hb) (aC (bq1 HB.o A4.o) hb)
 clear A1 A2 A3 A5 A7 A9 A0 HB
 obtain ⟨A1,A2,A3,A5,A7,A9,Ab,A0,HB⟩:=n_
 (try clear hb A6)
 obtain ⟨Ci,Cj,Bk⟩:=Kd.R_slice A9.o
 (first|subst Bk|(injection Bk with Al Ay Am;have Az:=Al.symm;have B0:=Am.symm;clear Al Ay Am;subst Az;subst B0))
 obtain ⟨Ck,Cl,Bl⟩:=Kd.R_slice Ab.o
 (first|subst Bl|(injection Bl with Al Ay Am;have Az:=Al.symm;have B0:=Am.symm;clear Al Ay Am;subst Az;subst B0))
 refine hK.out _ _ ⟨(aD A0.o 0).trans rfl,(aD A0.o 1).trans rfl,(aD A0.o 2).trans rfl,(aD A0.o 3).trans rfl,(aD A0.o 4).trans rfl⟩ (fun hHeld=>?_)
 clear hK K
 refine cE (a':=?_) ?_ ?_
 rotate_left
 · show Act.put _ (some 24) _=_
   simp only [Act.put,lT,lU,lV,aK,aU]
   rfl
 refine eI (i:=12) (N:=some 25) #[T,T,T,T,T,T,T,T,T,T,T,T,T,F] rfl rfl (b5 HT_.o (by kernel_rfl)) (by decide) (fun K hK=>?_)
 refine cY Try.func66 (by kernel_rfl) rfl #[.slice Ci Aw.length Cj,.int .i64 2,.slice Ck Ax.length Cl] (by rfl) rfl rfl ga ?_
 with_reducible refine (aY.calls k _ _ Aw 2 _ _ Ax Ba _ ?side1 ?side2 ?side3 ?side4 D4.o).mono ?_
 (case side1=>repeat (first|exact (Kd.R_reads' A9.o).2.2|(with_reducible refine Kd.C_alloc ?_ _)|(with_reducible refine Kd.C_drewN ?_ _)|(with_reducible refine Kd.C_drew ?_)))
 (case side2=>exact (Kd.R_reads' A9.o).2.1)
 (case side3=>repeat (first|exact (Kd.R_reads' Ab.o).2.2|(with_reducible refine Kd.C_alloc ?_ _)|(with_reducible refine Kd.C_drewN ?_ _)|(with_reducible refine Kd.C_drew ?_)))
 (case side4=>exact (Kd.R_reads' Ab.o).2.1)
 rintro e Ds ⟨Dc,rfl,A6,hb⟩
 refine ⟨_,rfl,?_⟩
 have n_:=kO (re_ A1 A6 hb) (re_ A2 A6 hb) (re_ A3 A6 hb) (re_ A5 A6 hb) (re_ A7 A6 hb) (re_ A9 A6 hb) (re_ Ab A6 hb) (Kd.R_lower (Kd.R_new' (Kd.R_new' (Kd.R_new' (Kd.R_new' (Kd.R_new' (Kd.R_new' (Kd.R_new' A6 (Kd.R_lt (kqR A1.o))) (Kd.R_lt (kqR A2.o))) (Kd.R_lt (kqR A3.o))) (Kd.R_lt (kqR A5.o))) (Kd.R_lt (kqR A7.o))) (Kd.R_lt (kqR A9.o))) (Kd.R_lt (kqR Ab.o))) (aH (bq1 HB.o A4.o))) (kb A0 hb) (aC (bq1 HB.o A4.o) hb)
 clear A1 A2 A3 A5 A7 A9 Ab A0 HB
 obtain ⟨A1,A2,A3,A5,A7,A9,Ab,Ag,A0,HB⟩:=n_
 (try clear hb A6)
 refine hK.out _ _ ⟨(aD A0.o 0).trans rfl,(aD A0.o 1).trans rfl,(aD A0.o 2).trans rfl,(aD A0.o 3).trans rfl,(aD A0.o 4).trans rfl⟩ (fun hHeld=>?_)
 clear hK K
 refine cE (a':=?_) ?_ ?_
 rotate_left
 · show Act.put _ (some 25) _=_
   simp only [Act.put,lT,lU,lV,aK,aU]
   rfl
 refine pv HT_ 13 (some 5) #[T,T,T,T,T,T,T,T,T,T,T,T,T,T] ?_
 refine eO (cT HT_.o (by kernel_rfl)) ?_
 obtain ⟨Dd,De,Cm⟩:=Kd.R_slice Ag.o
 subst Cm
 try go_wp2_with (first|((with_reducible refine aE (f:=66) rfl ?_);refine gc (some 28) (aY.calls k _ _ Ba 48 _ _ Aa Bf _ (cq (Kd.R_reads' Ag.o).2.2) ((Kd.R_reads' Ag.o).2.1) (cq (Kd.R_reads' A1.o).2.2) ((Kd.R_reads' A1.o).2.1) D5.o) Try.func66 ?_;rintro e Dt ⟨Df,rfl,A6,hb⟩;refine ⟨_,rfl,?_⟩;have n_:=jP (re_ A1 A6 hb) (re_ A2 A6 hb) (re_ A3 A6 hb) (re_ A5 A6 hb) (re_ A7 A6 hb) (re_ A9 A6 hb) (re_ Ab A6 hb) (re_ Ag A6 hb) (Kd.R_lower (Kd.R_new' (Kd.R_new' (Kd.R_new' (Kd.R_new' (Kd.R_new' (Kd.R_new' (Kd.R_new' (Kd.R_new' A6 (Kd.R_lt (kqR A1.o))) (Kd.R_lt (kqR A2.o))) (Kd.R_lt (kqR A3.o))) (Kd.R_lt (kqR A5.o))) (Kd.R_lt (kqR A7.o))) (Kd.R_lt (kqR A9.o))) (Kd.R_lt (kqR Ab.o))) (Kd.R_lt (kqR Ag.o))) (aH (bq1 HB.o A4.o))) (kb A0 hb) (aC (bq1 HB.o A4.o) hb);clear A1 A2 A3 A5 A7 A9 Ab Ag A0 HB;obtain ⟨A1,A2,A3,A5,A7,A9,Ab,Ag,Bb,A0,HB⟩:=n_;(try clear hb A6);obtain ⟨Dg,Dh,Cn⟩:=Kd.R_slice Bb.o;subst Cn))
 go_ret2
 exact ⟨_,rq,by refine kr ?_;exact Kd.R_mono Bb.o (fun _ hk=>trivial),bq1 HB.o A4.o⟩
def eW.f (k:Nat) (A1:Int) (A2:Int) (A3:Int) (A4:Int) (A5:List (S116)):Option (List Int):=(b9.f k A1 A2 A3 A4 A5).bind fun A6=>(if A6=true then ((dG.f k A1 A2 A3 A4 A5).bind fun A0=>(if A0.2=true then ((aY.f k (([]:List Int)) A1 A0.1).bind fun A7=>(some A7)) else (some (([]:List Int))))) else (some (([]:List Int))))
theorem eW.calls (k:Nat) (Af:Int) (Ag:Int) (Ah:Int) (Ai:Int) (Au:Option Addr) (Av:Nat) (A4:List (S116)) (r:List Int) (w:World) (Am:Kd.C dV w Au A4.length A4) (An:A4.length≤Av) (h:eW.f k Af Ag Ah Ai A4=some r):
 Calls Try.prog 39 #[.agg #[.int .i64 Af,.int .i64 Ag,.int .i64 Ah,.int .i64 Ai,.slice Au A4.length Av]] w fun e w'=>∃Ba:Value,e=.returned (Ba)∧Kd.R (Kd.int .u8) 5 w' w.heap.size (fun _=>True) Ba r∧Below w.heap.size w w':=by
 have Bf:=Try.underlying58
 have Aj:=am Am
 have Ak:=am An
 clear Am An
 have HB:=am (Below.refl w.heap.size w)
 have H:=h
 clear h
 unfold eW.f at H
 replace H:=be H
 obtain ⟨Ay,Bb,H⟩:=H
 cases Ay
 replace H:=iF H
 generalize Ao:((([]:List Int)):List Int)=Bg at H
 have Ap:=am Ao.symm
 clear Ao
 have z0:=trivial
 rotate_left
 replace H:=iT H
 replace H:=be H
 obtain ⟨⟨Al,Az⟩,Bc,H⟩:=H
 try dsimp only at H
 cases Az
 replace H:=iF H
 generalize Aq:((([]:List Int)):List Int)=Bh at H
 have Ar:=am Aq.symm
 clear Aq
 have z1:=trivial
 rotate_left
 replace H:=iT H
 generalize As:((([]:List Int)):List Int)=B4 at H
 have At:=am As.symm
 clear As
 replace H:=be H
 obtain ⟨B0,Bi,H⟩:=H
 have z2:=trivial
 rotate_right
 rotate_right
 all_goals
  obtain rfl:=lY H
  go_enter Try.func39,Try.ntmps39
  go_wp2_with (first|((with_reducible refine aI (N:=1) rfl ?_);refine bxe 1 #[.int .i64 Af,.int .i64 Ag,.int .i64 Ah,.int .i64 Ai,.slice Au A4.length Av] 58 ?_;intro Bd hg w_ hbox hb;have n_:=ak4 (aC (bq HB.o) hb) hbox (bz hg (bq HB.o)) (bz hg (bq HB.o));clear HB;obtain ⟨HB,A0,Be,A1⟩:=n_;clear hb hbox hg;obtain ⟨A5,A6,A7,A8,A9,Aa,Ab,Ac,Ad,Ae⟩:=cl5 A0.o)|((with_reducible refine aE (f:=96) rfl ?_);(first|have:=z1|have:=z2);refine gc (some 6) (b9.calls k Af Ag Ah Ai _ _ A4 true _ (cq (Kd.C_below Aj.o HB.o)) Ak.o Bb.o) Try.func96 ?_;rintro e w_ ⟨rfl,hb⟩;refine ⟨_,rfl,?_⟩;have n_:=ak2 (kb A0 hb) (aC (bq1 HB.o A1.o) hb);clear A0 HB;obtain ⟨A0,HB⟩:=n_;(try clear hb);obtain ⟨A5,A6,A7,A8,A9,Aa,Ab,Ac,Ad,Ae⟩:=cl5 A0.o)|((with_reducible refine aE (f:=96) rfl ?_);have:=z0;refine gc (some 6) (b9.calls k Af Ag Ah Ai _ _ A4 false _ (cq (Kd.C_below Aj.o HB.o)) Ak.o Bb.o) Try.func96 ?_;rintro e w_ ⟨rfl,hb⟩;refine ⟨_,rfl,?_⟩;have n_:=ak2 (kb A0 hb) (aC (bq1 HB.o A1.o) hb);clear A0 HB;obtain ⟨A0,HB⟩:=n_;(try clear hb))|((with_reducible refine aI (N:=8) rfl ?_);refine Kd.R_lit (Kd.int .u8) _ 5 ?hg (N:=8) ?hd (xs:=([]:List Int)) (inner:=[]) (ok:=fun _=>True) (okp:=fun _=>True) ?hr ?hp (fun _ hk=>hk) trivial (Below.refl _ _) (lZ _) (by simp) ?_;(case hd=>rfl);(case hg=>rfl);(case hr=>exact gs);(case hp=>exact (a9.none _ _));intro Bj w_ ho_ hb hg_ hnew_;clear hg_ hnew_;(first|rw [← Ap.o] at ho_|(simp only [Int.reduceToNat] at ho_;rw [← Ap.o] at ho_));have n_:=ak3 (rl ho_ (bq1 HB.o A1.o)) (kb A0 hb) (aC (bq1 HB.o A1.o) hb);clear A0 HB;obtain ⟨B1,A0,HB⟩:=n_;clear hb ho_)|((with_reducible refine aE (f:=97) rfl ?_);have:=z1;refine gc (some 11) (dG.calls k Af Ag Ah Ai _ _ A4 Al false _ (cq (Kd.C_below Aj.o HB.o)) Ak.o Bc.o) Try.func97 ?_;rintro e w_ ⟨B5,rfl,ho_,hb⟩;refine ⟨_,rfl,?_⟩;have n_:=ak3 (rl ho_ (bq1 HB.o A1.o)) (kb A0 hb) (aC (bq1 HB.o A1.o) hb);clear A0 HB;obtain ⟨A2,A0,HB⟩:=n_;(try clear hb ho_))|((with_reducible refine aE (f:=97) rfl ?_);have:=z2;refine gc (some 11) (dG.calls k Af Ag Ah Ai _ _ A4 Al true _ (cq (Kd.C_below Aj.o HB.o)) Ak.o Bc.o) Try.func97 ?_;rintro e w_ ⟨B5,rfl,ho_,hb⟩;refine ⟨_,rfl,?_⟩;have n_:=ak3 (rl ho_ (bq1 HB.o A1.o)) (kb A0 hb) (aC (bq1 HB.o A1.o) hb);clear A0 HB;obtain ⟨A2,A0,HB⟩:=n_;(try clear hb ho_))|((with_reducible refine aI (N:=16) rfl ?_);refine Kd.R_lit (Kd.int .u8) _ 5 ?hg (N:=16) ?hd (xs:=([]:List Int)) (inner:=[]) (ok:=fun _=>True) (okp:=fun _=>True) ?hr ?hp (fun _ hk=>hk) trivial (Below.refl _ _) (lZ _) (by simp) ?_;(case hd=>rfl);(case hg=>rfl);(case hr=>exact gs);(case hp=>exact (a9.none _ _));intro Bk w_ ho_ hb hg_ hnew_;clear hg_ hnew_;(first|rw [← Ar.o] at ho_|(simp only [Int.reduceToNat] at ho_;rw [← Ar.o] at ho_));have n_:=ak4 (re_ A2 ho_ hb) (rn_ ho_ A2 (bq1 HB.o A1.o)) (kb A0 hb) (aC (bq1 HB.o A1.o) hb);clear A2 A0 HB;obtain ⟨A2,B2,A0,HB⟩:=n_;clear hb ho_)|((with_reducible refine aI (N:=17) rfl ?_);refine Kd.R_lit (Kd.int .u8) _ 5 ?hg (N:=17) ?hd (xs:=([]:List Int)) (inner:=[]) (ok:=fun _=>True) (okp:=fun _=>True) ?hr ?hp (fun _ hk=>hk) trivial (Below.refl _ _) (lZ _) (by simp) ?_;(case hd=>rfl);(case hg=>rfl);(case hr=>exact gs);(case hp=>exact (a9.none _ _));intro Bl w_ ho_ hb hg_ hnew_;clear hg_ hnew_;(first|rw [← At.o] at ho_|(simp only [Int.reduceToNat] at ho_;rw [← At.o] at ho_));have n_:=ak4 (re_ A2 ho_ hb) (rn_ ho_ A2 (bq1 HB.o A1.o)) (kb A0 hb) (aC (bq1 HB.o A1.o) hb);clear A2 A0 HB;obtain ⟨A2,A3,A0,HB⟩:=n_;clear hb ho_;obtain ⟨B6,B7,Aw⟩:=Kd.R_slice A3.o;subst Aw;obtain ⟨B8,B9,Ax⟩:=Kd.R_slice A2.o;subst Ax;obtain ⟨A5,A6,A7,A8,A9,Aa,Ab,Ac,Ad,Ae⟩:=cl5 A0.o)|((with_reducible refine aE (f:=66) rfl ?_);refine gc (some 21) (aY.calls k _ _ B4 Af _ _ Al B0 _ (cq (Kd.R_reads' A3.o).2.2) ((Kd.R_reads' A3.o).2.1) (cq (Kd.R_reads' A2.o).2.2) ((Kd.R_reads' A2.o).2.1) Bi.o) Try.func66 ?_;rintro e w_ ⟨Bm,rfl,ho_,hb⟩;refine ⟨_,rfl,?_⟩;have n_:=ak5 (re_ A2 ho_ hb) (re_ A3 ho_ hb) (Kd.R_lower (Kd.R_new' (Kd.R_new' ho_ (Kd.R_lt (kqR A2.o))) (Kd.R_lt (kqR A3.o))) (aH (bq1 HB.o A1.o))) (kb A0 hb) (aC (bq1 HB.o A1.o) hb);clear A2 A3 A0 HB;obtain ⟨A2,A3,B3,A0,HB⟩:=n_;(try clear hb ho_)))
  first
  | go_ret
    exact ⟨_,rq,by refine kr ?_;exact Kd.R_mono B2.o (fun _ hk=>trivial),bq1 HB.o A1.o⟩
  | go_ret
    exact ⟨_,rq,by refine kr ?_;exact Kd.R_mono B3.o (fun _ hk=>trivial),bq1 HB.o A1.o⟩
  | go_ret
    exact ⟨_,rq,kqR B1.o,bq1 HB.o A1.o⟩
def eJ.j0:Nat→ByteArray→List Int→Bool→Option (List Int)
 |0,_,_,_=>none
 |k+1,x0,x5,A5=>if A5=true then (some (([]:List Int))) else ((bT.f k 1).bind fun A2=>((aY.f k (([]:List Int)) 2 A2).bind fun A3=>(if (x0.size:Int)<140737488355328 then ((aY.f k A3 4 (fF x0)).bind fun A0=>(if A0.length+x5.length<140737488355328 then ((some (A0++x5:List Int)).bind fun A1=>(if (A1.length:Int)>250 then (some (([]:List Int))) else ((aY.f k (([]:List Int)) 48 A1).bind fun A4=>(some A4)))) else (none))) else (none))))
def eJ.f (k:Nat) (a0:ByteArray) (A1:Int) (A2:Int) (A3:Int) (A4:Int) (A5:List (S116)):Option (List Int):=(eW.f k A1 A2 A3 A4 A5).bind fun A0=>(if (A0.length:Int)=0 then (eJ.j0 k a0 A0 true) else (eJ.j0 k a0 A0 (decide ((a0.size:Int)>20))))
theorem eJ.calls (k:Nat) (a0:ByteArray) (Al:Int) (Am:Int) (An:Int) (Ao:Int) (Au:Option Addr) (Av:Nat) (Ag:List (S116)) (r:List Int) (w:World) (Bj:Kd.C dV w Au Ag.length Ag) (Bk:Ag.length≤Av) (h:eJ.f k a0 Al Am An Ao Ag=some r):
 Calls Try.prog 51 #[.string a0,.agg #[.int .i64 Al,.int .i64 Am,.int .i64 An,.int .i64 Ao,.slice Au Ag.length Av]] w fun e w'=>∃D3:Value,e=.returned (D3)∧Kd.R (Kd.int .u8) 5 w' w.heap.size (fun _=>True) D3 r∧Below w.heap.size w w':=by
 have Db:=Try.underlying58
 have C6:=am Bj
 have C7:=am Bk
 clear Bj Bk
 have HB:=am (Below.refl w.heap.size w)
 have H:=h
 clear h
 unfold eJ.f at H
 replace H:=be H
 obtain ⟨A6,Dc,H⟩:=H
 have Ch:=am H
 clear H
 go_enter Try.func51,Try.ntmps51
 go_upto_region 2 with (first|((with_reducible refine aI (N:=3) rfl ?_);(try (refine aQ (by rfl) ?_;dsimp only));refine bxe 3 #[.int .i64 Al,.int .i64 Am,.int .i64 An,.int .i64 Ao,.slice Au Ag.length Av] 58 ?_;intro B0 hg w5 hbox hb;have n_:=ak4 (aC (bq HB.o) hb) hbox (bz hg (bq HB.o)) (bz hg (bq HB.o));clear HB;obtain ⟨HB,A0,D4,A5⟩:=n_;clear hb hbox hg;obtain ⟨Bv,Bw,Bx,By,Bz,C0,C1,C2,C3,C4⟩:=cl5 A0.o)|((with_reducible refine aE (f:=39) rfl ?_);refine gc (some 8) (eW.calls k Al Am An Ao _ _ Ag A6 _ (cq (Kd.C_below C6.o HB.o)) C7.o Dc.o) Try.func39 ?_;rintro e w7 ⟨Ci,rfl,Ab,hb⟩;refine ⟨_,rfl,?_⟩;have n_:=ak3 (rl Ab (bq1 HB.o A5.o)) (kb A0 hb) (aC (bq1 HB.o A5.o) hb);clear A0 HB;obtain ⟨Ar,A0,HB⟩:=n_;(try clear hb Ab)))
 (try simp only [Act.put,lT,lU,lV])
 go_cut [16] (fun Dd wc=>∃(kq:Nat) (As:Bool),Dd=.bool As∧Aside0 (eJ.j0 kq a0 A6 As=some r)∧Aside0 (kq≤k)∧Aside0 (Kd.R (Kd.int .u8) 5 wc w.heap.size (fun _=>True) Ci A6)∧Aside0 (wc.heap[B0]? =some (.cells #[.int .i64 Al,.int .i64 Am,.int .i64 An,.int .i64 Ao,(.slice Au Ag.length Av)] 58 (0,0)))∧Aside0 (Below w.heap.size w wc))
 case first=>
  have H:=Ch.o
  clear Ch
  replace H:=iq H
  rcases H with ⟨-,Aw,C8,H⟩|⟨c8,Aw,C8,H⟩
  · (first|rw [Aw]|(simp only [aK,aU];rw [Aw])|skip)
    have H':=am H
    clear H
    obtain ⟨Du,Dv,De⟩:=Kd.R_slice Ar.o
    subst De
    go_wp2
    go_meet
    case rel=>exact ⟨_,(true),sq,H',⟨by first|omega|exact lZ _⟩,⟨kqR Ar.o⟩,⟨zq A0.o⟩,⟨bq1 HB.o A5.o⟩⟩
  have Cj:¬(A6=[]):=fun h_=>c8 (by rw [h_];rfl)
  (first|rw [Aw]|(simp only [aK,aU];rw [Aw])|skip)
  have H':=am H
  clear H
  obtain ⟨Df,Dg,Ck⟩:=Kd.R_slice Ar.o
  subst Ck
  go_wp2
  go_meet
  case rel=>exact ⟨_,(decide ((a0.size:Int)>20)),sq,H',⟨by first|omega|exact lZ _⟩,⟨kqR Ar.o⟩,⟨zq A0.o⟩,⟨bq1 HB.o A5.o⟩⟩
 case rest=>
  clear Ch
  try clear c1
  try clear p2
  try clear c3
  try clear c5
  try clear c8
  try clear Aw
  try clear C8
  try clear Cj
  try clear Bv
  try clear Bw
  try clear Bx
  try clear By
  try clear Bz
  try clear C0
  try clear C1
  try clear C2
  try clear C3
  try clear C4
  obtain ⟨kq,As,rfl,HA,Dw,A3,A0,HB⟩:=hcut
  cases kq with
  |zero=>exact absurd HA.o (by simp [eJ.j0])
  |succ Ap=>
   have H:=HA.o
   clear HA
   simp only [eJ.j0] at H
   rcases Decidable.em (As=true) with C9|C9
   · subst C9
     replace H:(some (([]:List Int)))=some r:=by rw [if_pos rfl] at H;exact H
     generalize Bl:((([]:List Int)):List Int)=Dh at H
     have Bm:=am Bl.symm
     clear Bl
     obtain rfl:=lY H
     go_wp2_with (first|((with_reducible refine aI (N:=17) rfl ?_);(try (refine aQ (by rfl) ?_;dsimp only));refine Kd.R_lit (Kd.int .u8) _ 5 ?hg (N:=17) ?hd (xs:=([]:List Int)) (inner:=[]) (ok:=fun _=>True) (okp:=fun _=>True) ?hr ?hp (fun _ hk=>hk) trivial (Below.refl _ _) (lZ _) (by simp) ?_;(case hd=>rfl);(case hg=>rfl);(case hr=>exact gs);(case hp=>exact (a9.none _ _));intro Di Dx Ax hb hg_ hnew_;clear hg_ hnew_;(first|rw [← Bm.o] at Ax|(simp only [Int.reduceToNat] at Ax;rw [← Bm.o] at Ax));have n_:=ak4 (re_ A3 Ax hb) (rn_ Ax A3 (bq1 HB.o A5.o)) (kb A0 hb) (aC (bq1 HB.o A5.o) hb);clear A3 A0 HB;obtain ⟨A3,Ca,A0,HB⟩:=n_;clear hb Ax))
     go_ret
     exact ⟨_,rq,by refine kr ?_;exact Kd.R_mono Ca.o (fun _ hk=>trivial),bq1 HB.o A5.o⟩
   replace C9:=Bool.eq_false_iff.mpr C9
   subst C9
   replace H:((bT.f Ap 1).bind fun A9=>((aY.f Ap (([]:List Int)) 2 A9).bind fun Aa=>(if (a0.size:Int)<140737488355328 then ((aY.f Ap Aa 4 (fF a0)).bind fun Ac=>(if Ac.length+A6.length<140737488355328 then ((some (Ac++A6:List Int)).bind fun Aj=>(if (Aj.length:Int)>250 then (some (([]:List Int))) else ((aY.f Ap (([]:List Int)) 48 Aj).bind fun Ak=>(some Ak)))) else (none))) else (none))))=some r:=by rw [if_neg (show ¬(false=true) by decide)] at H;exact H
   obtain ⟨Ad,B1⟩:∃y_:List Int,y_=(([]:List Int)):=⟨_,rfl⟩
   replace H:((bT.f Ap 1).bind fun A9=>((aY.f Ap Ad 2 A9).bind fun Aa=>(if (a0.size:Int)<140737488355328 then ((aY.f Ap Aa 4 (fF a0)).bind fun Ac=>(if Ac.length+A6.length<140737488355328 then ((some (Ac++A6:List Int)).bind fun Aj=>(if (Aj.length:Int)>250 then (some (([]:List Int))) else ((aY.f Ap (([]:List Int)) 48 Aj).bind fun Ak=>(some Ak)))) else (none))) else (none))))=some r:=hx H B1
   have At:=am B1
   clear B1
   replace H:=be H
   obtain ⟨A9,D5,H⟩:=H
   replace H:=be H
   obtain ⟨Aa,D6,H⟩:=H
   replace H:=nq H
   obtain ⟨Cl,H⟩:=H
   have D7:=eq_true Cl
   have D8:decide ((a0.size:Int)<140737488355328)=true:=l5 Cl
   clear Cl
   generalize Bn:((fF a0):List Int)=B2 at H
   have Bo:=am Bn.symm
   clear Bn
   replace H:=be H
   obtain ⟨Ac,D9,H⟩:=H
   replace H:=nq H
   obtain ⟨Da,H⟩:=H
   have Bp:=am Da
   clear Da
   replace H:=bs H
   obtain ⟨Aj,Bq,H⟩:=H
   replace H:=ig H
   rcases H with ⟨Cm,Cb,H⟩|⟨Cm,Cb,H⟩
   · have Cc:decide (250<Aj.length)=true:=l5 (by omega)
     clear Cm
     generalize Br:((([]:List Int)):List Int)=Dj at H
     have Bs:=am Br.symm
     clear Br
     obtain rfl:=lY H
     go_wp2_with (first|((with_reducible refine aI (N:=18) rfl ?_);(try (refine aQ (by rfl) ?_;dsimp only));refine Kd.R_lit (Kd.int .u8) _ 5 ?hg (N:=18) ?hd (xs:=([]:List Int)) (inner:=[]) (ok:=fun _=>True) (okp:=fun _=>True) ?hr ?hp (fun _ hk=>hk) trivial (Below.refl _ _) (lZ _) (by simp) ?_;(case hd=>rfl);(case hg=>rfl);(case hr=>exact gs);(case hp=>exact (a9.none _ _));intro Cn Dy Ay hb hg_ hnew_;clear hg_ hnew_;(first|rw [← At.o] at Ay|(simp only [Int.reduceToNat] at Ay;rw [← At.o] at Ay));have n_:=ak4 (re_ A3 Ay hb) (rn_ Ay A3 (bq1 HB.o A5.o)) (kb A0 hb) (aC (bq1 HB.o A5.o) hb);clear A3 A0 HB;obtain ⟨A3,A1,A0,HB⟩:=n_;clear hb Ay)|((with_reducible refine aE (f:=64) rfl ?_);refine gc (some 19) (bT.calls Ap 1 A9 _ D5.o) Try.func64 ?_;rintro e Dz ⟨Co,rfl,Ab,hb⟩;refine ⟨_,rfl,?_⟩;have n_:=ak5 (re_ A3 Ab hb) (re_ A1 Ab hb) (Kd.R_lower (Kd.R_new' (Kd.R_new' Ab (Kd.R_lt (kqR A3.o))) (Kd.R_lt (kqR A1.o))) (aH (bq1 HB.o A5.o))) (kb A0 hb) (aC (bq1 HB.o A5.o) hb);clear A3 A1 A0 HB;obtain ⟨A3,A1,A2,A0,HB⟩:=n_;(try clear hb Ab);obtain ⟨B3,B4,Cp⟩:=Kd.R_slice A1.o;subst Cp;obtain ⟨B5,B6,Cq⟩:=Kd.R_slice A2.o;subst Cq)|((with_reducible refine aE (f:=66) rfl ?_);refine gc (some 20) (aY.calls Ap _ _ Ad 2 _ _ A9 Aa _ (cq (Kd.R_reads' A1.o).2.2) ((Kd.R_reads' A1.o).2.1) (cq (Kd.R_reads' A2.o).2.2) ((Kd.R_reads' A2.o).2.1) D6.o) Try.func66 ?_;rintro e E0 ⟨Cr,rfl,Ab,hb⟩;refine ⟨_,rfl,?_⟩;have n_:=ak6 (re_ A3 Ab hb) (re_ A1 Ab hb) (re_ A2 Ab hb) (Kd.R_lower (Kd.R_new' (Kd.R_new' (Kd.R_new' Ab (Kd.R_lt (kqR A3.o))) (Kd.R_lt (kqR A1.o))) (Kd.R_lt (kqR A2.o))) (aH (bq1 HB.o A5.o))) (kb A0 hb) (aC (bq1 HB.o A5.o) hb);clear A3 A1 A2 A0 HB;obtain ⟨A3,A1,A2,A4,A0,HB⟩:=n_;(try clear hb Ab))|((with_reducible refine aI (N:=22) rfl ?_);(try (refine aQ (by rfl) ?_;dsimp only));refine gJ ?hg (N:=22) ?hd 9 22 5 (x:=.tmp 21) ?ho (s:=a0) (y:=B2) Bo.o ?hx Try.underlying9 Try.underlying22 Try.underlying5 (by have h_:(a0.size:Int)<(140737488355328:Int):=oda;omega) ?_;(case hd=>rfl);(case hg=>rfl);(case ho=>rfl);(case hx=>first|(go_simp;done)|(go_simp;rfl));intro Cd Ce E1 hs_ hl_ hb;have n_:=ak8 (rb A3 hb) (rb A1 hb) (rb A2 hb) (rb A4 hb) (kb A0 hb) (aC (bq1 HB.o A5.o) hb) hs_ hl_;clear A3 A1 A2 A4 A0 HB;obtain ⟨A3,A1,A2,A4,A0,HB,A7,Aq⟩:=n_;clear hb hs_ hl_;obtain ⟨B7,B8,Cs⟩:=Kd.R_slice A4.o;subst Cs)|((with_reducible refine aE (f:=66) rfl ?_);refine gc (some 23) (aY.calls Ap _ _ Aa 4 _ _ B2 Ac _ (cq (Kd.R_reads' A4.o).2.2) ((Kd.R_reads' A4.o).2.1) (by repeat (first|exact (by repeat (first|(with_reducible exact A7.o)|(with_reducible refine Kd.C_alloc ?_ _)|(with_reducible refine Kd.C_drewN ?_ _)|(with_reducible refine Kd.C_drew ?_)|exact A7.o))|(with_reducible refine Kd.C_alloc ?_ _)|(with_reducible refine Kd.C_drewN ?_ _)|(with_reducible refine Kd.C_drew ?_))) Aq.o D9.o) Try.func66 ?_;rintro e E2 ⟨C5,rfl,Ab,hb⟩;refine ⟨_,rfl,?_⟩;have n_:=ak8 (re_ A3 Ab hb) (re_ A1 Ab hb) (re_ A2 Ab hb) (re_ A4 Ab hb) (Kd.R_lower (Kd.R_new' (Kd.R_new' (Kd.R_new' (Kd.R_new' Ab (Kd.R_lt (kqR A3.o))) (Kd.R_lt (kqR A1.o))) (Kd.R_lt (kqR A2.o))) (Kd.R_lt (kqR A4.o))) (aH (bq1 HB.o A5.o))) (kb A0 hb) (Kd.C_below (by repeat (first|(with_reducible exact A7.o)|(with_reducible refine Kd.C_alloc ?_ _)|(with_reducible refine Kd.C_drewN ?_ _)|(with_reducible refine Kd.C_drew ?_)|exact A7.o)) hb) (aC (bq1 HB.o A5.o) hb);clear A3 A1 A2 A4 A0 A7 HB;obtain ⟨A3,A1,A2,A4,Ae,A0,A7,HB⟩:=n_;(try clear hb Ab);obtain ⟨B9,Ba,Ct⟩:=Kd.R_slice A3.o;subst Ct)|((with_reducible refine bF (b:=.append) (xs:=#[.tmp 23,.tmp 24]) rfl ?_);(try (refine aQ (by rfl) ?_;dsimp only));at_builtin;refine Kd.R_append_rows (Kd.int .u8) (w0:=w) w.heap.size rfl (.tmp 23) (.tmp 24) 22 5 (.int .u8 0) 1 rfl Try.underlying22 dS rfl (by decide) (by omega) C5 Ac A6 _ _ _ (fun k_=>some k_≠(.slice B9 A6.length Ba:Value).ownBlock∧some k_≠(.slice B3 Ad.length B4:Value).ownBlock∧some k_≠(.slice B5 A9.length B6:Value).ownBlock∧some k_≠(.slice B7 Aa.length B8:Value).ownBlock) (fun _=>False) rfl rfl ?aO ?aR (fun _ _ h=>h) (fun _ h=>h.elim) ?aF ?aB ?aS ?aL ?_;(case aR=>repeat (first|exact (Kd.R_reads' A3.o).2.2|(with_reducible refine Kd.C_alloc ?_ _)|(with_reducible refine Kd.C_drewN ?_ _)|(with_reducible refine Kd.C_drew ?_)));(case aB=>exact (bq1 HB.o A5.o));(case aF=>exact (fun k_ hk=>⟨Kd.fresh' (Kd.R_lt (kqR A3.o)) k_ hk,Kd.fresh' (Kd.R_lt (kqR A1.o)) k_ hk,Kd.fresh' (Kd.R_lt (kqR A2.o)) k_ hk,Kd.fresh' (Kd.R_lt (kqR A4.o)) k_ hk⟩));(case aO=>exact (by refine kr ?_;exact Kd.R_mono Ae.o (fun _ hk=>⟨hk.1.1.1.2,⟨hk.1.1.2,⟨hk.1.2,hk.2⟩⟩⟩)));(case aS=>exact (aH (bq1 HB.o A5.o)));(case aL=>have:=Bp.o;omega);intro Cu E3 ho hb hg hat;rw [← Bq.o] at ho;have n_:=ak7 (Kd.R_after (ok:=(fun k_=>some k_≠(.slice B3 Ad.length B4:Value).ownBlock∧some k_≠(.slice B5 A9.length B6:Value).ownBlock∧some k_≠(.slice B7 Aa.length B8:Value).ownBlock)) (by refine kr ?_;exact Kd.R_mono A3.o (fun _ hk=>⟨⟨hk.1.1.1.2,⟨hk.1.1.2,hk.1.2⟩⟩,hk.2⟩)) hg hat) (b8 (g:=B0) (o:=.cells #[.int .i64 Al,.int .i64 Am,.int .i64 An,.int .i64 Ao,.slice Au Ag.length Av] 58 (0,0)) (zq A0.o) hg (Kd.R_ne Ae.o A0.o (by decide))) (Kd.R_after (ok:=(fun k_=>some k_≠(.slice B9 A6.length Ba:Value).ownBlock∧some k_≠(.slice B5 A9.length B6:Value).ownBlock∧some k_≠(.slice B7 Aa.length B8:Value).ownBlock)) (by refine kr ?_;exact Kd.R_mono A1.o (fun _ hk=>⟨⟨hk.1.1.1.2,⟨hk.1.1.2,hk.1.2⟩⟩,hk.2⟩)) hg hat) (Kd.R_after (ok:=(fun k_=>some k_≠(.slice B9 A6.length Ba:Value).ownBlock∧some k_≠(.slice B3 Ad.length B4:Value).ownBlock∧some k_≠(.slice B7 Aa.length B8:Value).ownBlock)) (by refine kr ?_;exact Kd.R_mono A2.o (fun _ hk=>⟨⟨hk.1.1.1.2,⟨hk.1.1.2,hk.1.2⟩⟩,hk.2⟩)) hg hat) (Kd.R_after (ok:=(fun k_=>some k_≠(.slice B9 A6.length Ba:Value).ownBlock∧some k_≠(.slice B3 Ad.length B4:Value).ownBlock∧some k_≠(.slice B5 A9.length B6:Value).ownBlock)) (by refine kr ?_;exact Kd.R_mono A4.o (fun _ hk=>⟨⟨hk.1.1.1.2,⟨hk.1.1.2,hk.1.2⟩⟩,hk.2⟩)) hg hat) hb ho;clear A3 A0 A1 A2 A4 HB Ae;obtain ⟨A3,A0,A1,A2,A4,HB,A8⟩:=n_;clear ho hb hg hat;obtain ⟨Dk,Dl,Cv⟩:=Kd.R_slice A8.o;subst Cv)|((with_reducible refine aI (N:=29) rfl ?_);(try (refine aQ (by rfl) ?_;dsimp only));refine Kd.R_lit (Kd.int .u8) _ 5 ?hg (N:=29) ?hd (xs:=([]:List Int)) (inner:=[]) (ok:=fun _=>True) (okp:=fun _=>True) ?hr ?hp (fun _ hk=>hk) trivial (Below.refl _ _) (lZ _) (by simp) ?_;(case hd=>rfl);(case hg=>rfl);(case hr=>exact gs);(case hp=>exact (a9.none _ _));intro Dm E4 Ah hb hg_ hnew_;clear hg_ hnew_;(first|rw [← Bs.o] at Ah|(simp only [Int.reduceToNat] at Ah;rw [← Bs.o] at Ah));have n_:=ak8 (re_ A3 Ah hb) (re_ A1 Ah hb) (re_ A2 Ah hb) (re_ A4 Ah hb) (re_ A8 Ah hb) (Kd.R_lower (Kd.R_new' (Kd.R_new' (Kd.R_new' (Kd.R_new' (Kd.R_new' Ah (Kd.R_lt (kqR A3.o))) (Kd.R_lt (kqR A1.o))) (Kd.R_lt (kqR A2.o))) (Kd.R_lt (kqR A4.o))) (Kd.R_lt (kqR A8.o))) (aH (bq1 HB.o A5.o))) (kb A0 hb) (aC (bq1 HB.o A5.o) hb);clear A3 A1 A2 A4 A8 A0 HB;obtain ⟨A3,A1,A2,A4,A8,Cf,A0,HB⟩:=n_;clear hb Ah))
     go_ret
     exact ⟨_,rq,by refine kr ?_;exact Kd.R_mono Cf.o (fun _ hk=>trivial),bq1 HB.o A5.o⟩
   have Cc:decide (250<Aj.length)=false:=l6 (by omega)
   clear Cm
   generalize Bt:((([]:List Int)):List Int)=Cw at H
   have Bu:=am Bt.symm
   clear Bt
   replace H:=be H
   obtain ⟨Ak,Dn,H⟩:=H
   obtain rfl:=lY H
   go_wp2_with (first|((with_reducible refine aI (N:=18) rfl ?_);(try (refine aQ (by rfl) ?_;dsimp only));refine Kd.R_lit (Kd.int .u8) _ 5 ?hg (N:=18) ?hd (xs:=([]:List Int)) (inner:=[]) (ok:=fun _=>True) (okp:=fun _=>True) ?hr ?hp (fun _ hk=>hk) trivial (Below.refl _ _) (lZ _) (by simp) ?_;(case hd=>rfl);(case hg=>rfl);(case hr=>exact gs);(case hp=>exact (a9.none _ _));intro Cn E5 Az hb hg_ hnew_;clear hg_ hnew_;(first|rw [← At.o] at Az|(simp only [Int.reduceToNat] at Az;rw [← At.o] at Az));have n_:=ak4 (re_ A3 Az hb) (rn_ Az A3 (bq1 HB.o A5.o)) (kb A0 hb) (aC (bq1 HB.o A5.o) hb);clear A3 A0 HB;obtain ⟨A3,A1,A0,HB⟩:=n_;clear hb Az)|((with_reducible refine aE (f:=64) rfl ?_);refine gc (some 19) (bT.calls Ap 1 A9 _ D5.o) Try.func64 ?_;rintro e E6 ⟨Co,rfl,Ab,hb⟩;refine ⟨_,rfl,?_⟩;have n_:=ak5 (re_ A3 Ab hb) (re_ A1 Ab hb) (Kd.R_lower (Kd.R_new' (Kd.R_new' Ab (Kd.R_lt (kqR A3.o))) (Kd.R_lt (kqR A1.o))) (aH (bq1 HB.o A5.o))) (kb A0 hb) (aC (bq1 HB.o A5.o) hb);clear A3 A1 A0 HB;obtain ⟨A3,A1,A2,A0,HB⟩:=n_;(try clear hb Ab);obtain ⟨Bb,Bc,Cx⟩:=Kd.R_slice A1.o;subst Cx;obtain ⟨Bd,Be,Cy⟩:=Kd.R_slice A2.o;subst Cy)|((with_reducible refine aE (f:=66) rfl ?_);refine gc (some 20) (aY.calls Ap _ _ Ad 2 _ _ A9 Aa _ (cq (Kd.R_reads' A1.o).2.2) ((Kd.R_reads' A1.o).2.1) (cq (Kd.R_reads' A2.o).2.2) ((Kd.R_reads' A2.o).2.1) D6.o) Try.func66 ?_;rintro e E7 ⟨Cr,rfl,Ab,hb⟩;refine ⟨_,rfl,?_⟩;have n_:=ak6 (re_ A3 Ab hb) (re_ A1 Ab hb) (re_ A2 Ab hb) (Kd.R_lower (Kd.R_new' (Kd.R_new' (Kd.R_new' Ab (Kd.R_lt (kqR A3.o))) (Kd.R_lt (kqR A1.o))) (Kd.R_lt (kqR A2.o))) (aH (bq1 HB.o A5.o))) (kb A0 hb) (aC (bq1 HB.o A5.o) hb);clear A3 A1 A2 A0 HB;obtain ⟨A3,A1,A2,A4,A0,HB⟩:=n_;(try clear hb Ab))|((with_reducible refine aI (N:=22) rfl ?_);(try (refine aQ (by rfl) ?_;dsimp only));refine gJ ?hg (N:=22) ?hd 9 22 5 (x:=.tmp 21) ?ho (s:=a0) (y:=B2) Bo.o ?hx Try.underlying9 Try.underlying22 Try.underlying5 (by have h_:(a0.size:Int)<(140737488355328:Int):=oda;omega) ?_;(case hd=>rfl);(case hg=>rfl);(case ho=>rfl);(case hx=>first|(go_simp;done)|(go_simp;rfl));intro Cd Ce E8 hs_ hl_ hb;have n_:=ak8 (rb A3 hb) (rb A1 hb) (rb A2 hb) (rb A4 hb) (kb A0 hb) (aC (bq1 HB.o A5.o) hb) hs_ hl_;clear A3 A1 A2 A4 A0 HB;obtain ⟨A3,A1,A2,A4,A0,HB,A7,Aq⟩:=n_;clear hb hs_ hl_;obtain ⟨Bf,Bg,Cz⟩:=Kd.R_slice A4.o;subst Cz)|((with_reducible refine aE (f:=66) rfl ?_);refine gc (some 23) (aY.calls Ap _ _ Aa 4 _ _ B2 Ac _ (cq (Kd.R_reads' A4.o).2.2) ((Kd.R_reads' A4.o).2.1) (by repeat (first|exact (by repeat (first|(with_reducible exact A7.o)|(with_reducible refine Kd.C_alloc ?_ _)|(with_reducible refine Kd.C_drewN ?_ _)|(with_reducible refine Kd.C_drew ?_)|exact A7.o))|(with_reducible refine Kd.C_alloc ?_ _)|(with_reducible refine Kd.C_drewN ?_ _)|(with_reducible refine Kd.C_drew ?_))) Aq.o D9.o) Try.func66 ?_;rintro e E9 ⟨C5,rfl,Ab,hb⟩;refine ⟨_,rfl,?_⟩;have n_:=ak8 (re_ A3 Ab hb) (re_ A1 Ab hb) (re_ A2 Ab hb) (re_ A4 Ab hb) (Kd.R_lower (Kd.R_new' (Kd.R_new' (Kd.R_new' (Kd.R_new' Ab (Kd.R_lt (kqR A3.o))) (Kd.R_lt (kqR A1.o))) (Kd.R_lt (kqR A2.o))) (Kd.R_lt (kqR A4.o))) (aH (bq1 HB.o A5.o))) (kb A0 hb) (Kd.C_below (by repeat (first|(with_reducible exact A7.o)|(with_reducible refine Kd.C_alloc ?_ _)|(with_reducible refine Kd.C_drewN ?_ _)|(with_reducible refine Kd.C_drew ?_)|exact A7.o)) hb) (aC (bq1 HB.o A5.o) hb);clear A3 A1 A2 A4 A0 A7 HB;obtain ⟨A3,A1,A2,A4,Ae,A0,A7,HB⟩:=n_;(try clear hb Ab);obtain ⟨Bh,Bi,D0⟩:=Kd.R_slice A3.o;subst D0)|((with_reducible refine bF (b:=.append) (xs:=#[.tmp 23,.tmp 24]) rfl ?_);(try (refine aQ (by rfl) ?_;dsimp only));at_builtin;refine Kd.R_append_rows (Kd.int .u8) (w0:=w) w.heap.size rfl (.tmp 23) (.tmp 24) 22 5 (.int .u8 0) 1 rfl Try.underlying22 dS rfl (by decide) (by omega) C5 Ac A6 _ _ _ (fun k_=>some k_≠(.slice Bh A6.length Bi:Value).ownBlock∧some k_≠(.slice Bb Ad.length Bc:Value).ownBlock∧some k_≠(.slice Bd A9.length Be:Value).ownBlock∧some k_≠(.slice Bf Aa.length Bg:Value).ownBlock) (fun _=>False) rfl rfl ?aO ?aR (fun _ _ h=>h) (fun _ h=>h.elim) ?aF ?aB ?aS ?aL ?_;(case aR=>repeat (first|exact (Kd.R_reads' A3.o).2.2|(with_reducible refine Kd.C_alloc ?_ _)|(with_reducible refine Kd.C_drewN ?_ _)|(with_reducible refine Kd.C_drew ?_)));(case aB=>exact (bq1 HB.o A5.o));(case aF=>exact (fun k_ hk=>⟨Kd.fresh' (Kd.R_lt (kqR A3.o)) k_ hk,Kd.fresh' (Kd.R_lt (kqR A1.o)) k_ hk,Kd.fresh' (Kd.R_lt (kqR A2.o)) k_ hk,Kd.fresh' (Kd.R_lt (kqR A4.o)) k_ hk⟩));(case aO=>exact (by refine kr ?_;exact Kd.R_mono Ae.o (fun _ hk=>⟨hk.1.1.1.2,⟨hk.1.1.2,⟨hk.1.2,hk.2⟩⟩⟩)));(case aS=>exact (aH (bq1 HB.o A5.o)));(case aL=>have:=Bp.o;omega);intro Cu Ea ho hb hg hat;rw [← Bq.o] at ho;have n_:=ak7 (Kd.R_after (ok:=(fun k_=>some k_≠(.slice Bb Ad.length Bc:Value).ownBlock∧some k_≠(.slice Bd A9.length Be:Value).ownBlock∧some k_≠(.slice Bf Aa.length Bg:Value).ownBlock)) (by refine kr ?_;exact Kd.R_mono A3.o (fun _ hk=>⟨⟨hk.1.1.1.2,⟨hk.1.1.2,hk.1.2⟩⟩,hk.2⟩)) hg hat) (b8 (g:=B0) (o:=.cells #[.int .i64 Al,.int .i64 Am,.int .i64 An,.int .i64 Ao,.slice Au Ag.length Av] 58 (0,0)) (zq A0.o) hg (Kd.R_ne Ae.o A0.o (by decide))) (Kd.R_after (ok:=(fun k_=>some k_≠(.slice Bh A6.length Bi:Value).ownBlock∧some k_≠(.slice Bd A9.length Be:Value).ownBlock∧some k_≠(.slice Bf Aa.length Bg:Value).ownBlock)) (by refine kr ?_;exact Kd.R_mono A1.o (fun _ hk=>⟨⟨hk.1.1.1.2,⟨hk.1.1.2,hk.1.2⟩⟩,hk.2⟩)) hg hat) (Kd.R_after (ok:=(fun k_=>some k_≠(.slice Bh A6.length Bi:Value).ownBlock∧some k_≠(.slice Bb Ad.length Bc:Value).ownBlock∧some k_≠(.slice Bf Aa.length Bg:Value).ownBlock)) (by refine kr ?_;exact Kd.R_mono A2.o (fun _ hk=>⟨⟨hk.1.1.1.2,⟨hk.1.1.2,hk.1.2⟩⟩,hk.2⟩)) hg hat) (Kd.R_after (ok:=(fun k_=>some k_≠(.slice Bh A6.length Bi:Value).ownBlock∧some k_≠(.slice Bb Ad.length Bc:Value).ownBlock∧some k_≠(.slice Bd A9.length Be:Value).ownBlock)) (by refine kr ?_;exact Kd.R_mono A4.o (fun _ hk=>⟨⟨hk.1.1.1.2,⟨hk.1.1.2,hk.1.2⟩⟩,hk.2⟩)) hg hat) hb ho;clear A3 A0 A1 A2 A4 HB Ae;obtain ⟨A3,A0,A1,A2,A4,HB,A8⟩:=n_;clear ho hb hg hat;obtain ⟨Do,Dp,D1⟩:=Kd.R_slice A8.o;subst D1)|((with_reducible refine aI (N:=30) rfl ?_);(try (refine aQ (by rfl) ?_;dsimp only));refine Kd.R_lit (Kd.int .u8) _ 5 ?hg (N:=30) ?hd (xs:=([]:List Int)) (inner:=[]) (ok:=fun _=>True) (okp:=fun _=>True) ?hr ?hp (fun _ hk=>hk) trivial (Below.refl _ _) (lZ _) (by simp) ?_;(case hd=>rfl);(case hg=>rfl);(case hr=>exact gs);(case hp=>exact (a9.none _ _));intro Dq Eb Ai hb hg_ hnew_;clear hg_ hnew_;(first|rw [← Bu.o] at Ai|(simp only [Int.reduceToNat] at Ai;rw [← Bu.o] at Ai));have n_:=ak8 (re_ A3 Ai hb) (re_ A1 Ai hb) (re_ A2 Ai hb) (re_ A4 Ai hb) (re_ A8 Ai hb) (Kd.R_lower (Kd.R_new' (Kd.R_new' (Kd.R_new' (Kd.R_new' (Kd.R_new' Ai (Kd.R_lt (kqR A3.o))) (Kd.R_lt (kqR A1.o))) (Kd.R_lt (kqR A2.o))) (Kd.R_lt (kqR A4.o))) (Kd.R_lt (kqR A8.o))) (aH (bq1 HB.o A5.o))) (kb A0 hb) (aC (bq1 HB.o A5.o) hb);clear A3 A1 A2 A4 A8 A0 HB;obtain ⟨A3,A1,A2,A4,A8,Af,A0,HB⟩:=n_;clear hb Ai;obtain ⟨Dr,Ds,D2⟩:=Kd.R_slice Af.o;subst D2)|((with_reducible refine aE (f:=66) rfl ?_);refine gc (some 32) (aY.calls Ap _ _ Cw 48 _ _ Aj Ak _ (cq (Kd.R_reads' Af.o).2.2) ((Kd.R_reads' Af.o).2.1) (cq (Kd.R_reads' A8.o).2.2) ((Kd.R_reads' A8.o).2.1) Dn.o) Try.func66 ?_;rintro e Ec ⟨Dt,rfl,Ab,hb⟩;refine ⟨_,rfl,?_⟩;have n_:=ak9 (re_ A3 Ab hb) (re_ A1 Ab hb) (re_ A2 Ab hb) (re_ A4 Ab hb) (re_ A8 Ab hb) (re_ Af Ab hb) (Kd.R_lower (Kd.R_new' (Kd.R_new' (Kd.R_new' (Kd.R_new' (Kd.R_new' (Kd.R_new' Ab (Kd.R_lt (kqR A3.o))) (Kd.R_lt (kqR A1.o))) (Kd.R_lt (kqR A2.o))) (Kd.R_lt (kqR A4.o))) (Kd.R_lt (kqR A8.o))) (Kd.R_lt (kqR Af.o))) (aH (bq1 HB.o A5.o))) (kb A0 hb) (aC (bq1 HB.o A5.o) hb);clear A3 A1 A2 A4 A8 Af A0 HB;obtain ⟨A3,A1,A2,A4,A8,Af,Cg,A0,HB⟩:=n_;(try clear hb Ab)))
   go_ret
   exact ⟨_,rq,by refine kr ?_;exact Kd.R_mono Cg.o (fun _ hk=>trivial),bq1 HB.o A5.o⟩
end Go.Proofs.Ythhnfmbfgplelaa.XFnMsgsRead
