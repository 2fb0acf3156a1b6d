/- The functions that one law reaches, as Lean functions, with their walks: printed by a program of this seat (wip/tools) out of the translation. -/
import Derived.Test.YtgppikopdpeigaaXFnPdusx0
import Derived.Test.YtgppikopdpeigaaXFnPdusx1
import Derived.Test.YtgppikopdpeigaaXFnPdusx2
import Derived.Test.YtgppikopdpeigaaXFnPdusx3
namespace Go.Proofs.Ytgppikopdpeigaa.XFnPdus
open Go.RowKit Go.Proofs.YtgppikopdpeigaaW.PrintWords Go.Proofs.YtgppikopdpeigaaW.PrintLast Go.Proofs.YtgppikopdpeigaaW.PrintMore
attribute [local go_sem] cO cP dH dI cC cD cQ cR
set_option maxHeartbeats 8000000
set_option maxRecDepth 100000
set_option linter.unusedVariables false
set_option linter.unusedSimpArgs false
def bU.l0:Nat→List Int→Int→Int→Int→Int→Int→Int→List (S45)→Option (Int × Int × Int × Int × (List (S45)) × Int × Int)
 |0,_,_,_,_,_,_,_,_=>none
 |k+1,A6,A8,A9,A2,A3,A4,A5,A0=>(a6.f A6 A8 A9 2).bind fun A1=>(if (A0.length:Int)<(wrap64 (10+A1.1)) then ((cM.f k A6 A1.2.1 A1.2.2).bind fun A7=>(if A0.length<1759218604441 then (bU.l0 k A6 A7.2.1 A7.2.2 A2 A3 A4 A5 (A0++[(⟨A7.1,(⟨4,0,(⟨#[116,119,101,110,116,121,45,98,121,116,101,115,45,111,102,45,116,101,120,116]⟩:ByteArray),([]:List Int)⟩:S43)⟩:S45)])) else (none))) else (some (A2,A3,A4,A5,A0,A1.2.1,A1.2.2)))
def bU.f (k:Nat) (A3:List Int) (A7:Int) (A8:Int):Option (Int × Int × Int × Int × (List (S45)) × Int × Int):=(bH.f k A3 A7 A8).bind fun A0=>((a6.f A3 A0.2.2.2.2.2.1 A0.2.2.2.2.2.2 12).bind fun A1=>(if A1.1=0 then ((a6.f A3 A1.2.1 A1.2.2 256).bind fun A4=>(some (A4.1,A0.2.1,A0.2.2.1,A0.2.2.2.1,A0.2.2.2.2.1,A4.2.1,A4.2.2))) else (if A1.1=1 then ((cY.f A3 A1.2.1 A1.2.2 (([(-1),1,1000,1001]:List Int))).bind fun A5=>(some (A0.1,A0.2.1,A5.1,A0.2.2.2.1,A0.2.2.2.2.1,A5.2.1,A5.2.2))) else (if A1.1=2 then ((eG.f k A3 A1.2.1 A1.2.2).bind fun A6=>((fS.f k A3 A6.2.1 A6.2.2).bind fun A2=>(if A0.2.2.2.2.1.length<1759218604441 then (some (A0.1,A0.2.1,A0.2.2.1,A0.2.2.2.1,(A0.2.2.2.2.1++[(⟨A6.1,(⟨A2.1,A2.2.1,A2.2.2.1,A2.2.2.2.1⟩:S43)⟩:S45)]),A2.2.2.2.2.1,A2.2.2.2.2.2)) else (none)))) else (if A1.1=3 then (bU.l0 k A3 A1.2.1 A1.2.2 A0.1 A0.2.1 A0.2.2.1 A0.2.2.2.1 A0.2.2.2.2.1) else (some (A0.1,A0.2.1,A0.2.2.1,A0.2.2.2.1,A0.2.2.2.2.1,A1.2.1,A1.2.2)))))))
def bU.T8:Bool × List (List Nat × List Nat):=(true,[([],[]),([0],[0]),([],[]),([2],[2]),([],[]),([4,3],[4]),([3,5],[3,5]),([6],[6]),([1,7,5],[1,7]),([0,1,2,3,4,5,6,7,8],[]),([9,8,8,0,1,2,3,4,5,6,7,8],[8,9])])
def bU.B8:List Nat:=[0,1,0,4,0,28,60,124,255,511,1023]
theorem bU.tab8:eR .any (fM Try.f18 8)=bU.T8:=by kernel_rfl
theorem bU.bits8:eJ bU.T8.2 bU.B8=true:=by kernel_rfl
def bU.T11:Bool × List (List Nat × List Nat):=(true,[([],[]),([0],[0]),([],[]),([2],[2]),([],[]),([3,4],[3,4]),([5],[5]),([1,6,3],[1,6]),([0,1,2,3,4,5,6,7],[]),([8,7,7,0,1,2,3,4,5,6,7],[7,8])])
def bU.B11:List Nat:=[0,1,0,4,0,28,60,127,255,511]
theorem bU.tab11:eR .any (fM Try.f18 11)=bU.T11:=by kernel_rfl
theorem bU.bits11:eJ bU.T11.2 bU.B11=true:=by kernel_rfl
theorem bU.calls (k:Nat) (g:Nat) (Aj:List Int) (B8:Int) (B9:Int) (r1:Int) (r2:Int) (r3:Int) (r4:Int) (r5:List (S45)) (r6:Int) (r7:Int) (w0 w:World) (hI:aD w0 w g Aj B8 B9) (hB:Below w0.heap.size w0 w) (h:bU.f k Aj B8 B9=some (r1,r2,r3,r4,r5,r6,r7)):
 Calls Try.prog 18 #[.pointer (some ⟨g,0,none⟩)] w fun e w'=>∃In:Value,e=.returned (.agg #[.int .i64 r1,.int .i64 r2,.int .i64 r3,.int .i64 r4,In])∧Kd.S k45 45 w' w.heap.size (fun _=>True) In r5∧aD w0 w' g Aj r6 r7∧Below w0.heap.size w0 w'∧KeepBut w w' g none:=by
 have J9:=Try.underlying26
 have Ja:=Try.underlying45
 have Jb:=Try.underlying43
 have A9:=am hI
 have HK:=am (KeepBut.refl w g none)
 have HL:=am hB.size
 clear hI
 have E6:=am hB.size
 have HB:=am hB
 clear hB
 have H:=h
 clear h
 unfold bU.f at H
 replace H:=be H
 obtain ⟨⟨Ad,Ac,Ag,Af,Al,Ao,Ap⟩,If,H⟩:=H
 try dsimp only at H
 replace H:=be H
 obtain ⟨⟨C9,As,At⟩,Ig,H⟩:=H
 try dsimp only at H
 replace H:=iq H
 rcases H with ⟨-,E7,E8,H⟩|⟨c4,E7,E8,H⟩
 replace H:=be H
 obtain ⟨⟨B6,E9,Ea⟩,Jc,H⟩:=H
 try dsimp only at H
 have z0:=trivial
 rotate_left
 replace H:=iq H
 rcases H with ⟨-,Dg,Dh,H⟩|⟨Jd,Dg,Dh,H⟩
 generalize Di:((([(-1),1,1000,1001]:List Int)):List Int)=Ih at H
 have Dj:=am Di.symm
 clear Di
 replace H:=be H
 obtain ⟨⟨Bd,Eb,Ec⟩,Je,H⟩:=H
 try dsimp only at H
 have z1:=trivial
 rotate_left
 replace H:=iq H
 rcases H with ⟨-,Dk,Dl,H⟩|⟨Jf,Dk,Dl,H⟩
 · replace H:=be H
   obtain ⟨⟨Be,C2,C3⟩,Jg,H⟩:=H
   try dsimp only at H
   replace H:=be H
   obtain ⟨⟨Bv,Bw,Bx,Bf,Ed,Ee⟩,Jh,H⟩:=H
   try dsimp only at H
   replace H:=nq H
   obtain ⟨Ii,H⟩:=H
   have Ef:=am Ii
   clear Ii
   generalize Dm:((Al++[(⟨Be,(⟨Bv,Bw,Bx,Bf⟩:S43)⟩:S45)]):List (S45))=Du at H
   have Eg:=am Dm.symm
   clear Dm
   simp only [k4,k5] at H
   obtain ⟨rfl,rfl,rfl,rfl,rfl,rfl,rfl⟩:=H
   go_enter Try.func18,Try.ntmps18
   try go_wp2_with (first|((with_reducible refine aJ (N:=2) rfl ?_);refine bxe 2 #[.int .i64 0,.int .i64 0,.int .i64 0,.int .i64 0,.slice none 0 0] 26 ?_;intro A8 hg Jw hbox hb;have n_:=ak8 (aD.below (aD.q0 A9.o) hb) (KeepBut.trans (kp0 HK.o) (KeepBut.of_below hb g none) (.inl rfl)) (aC (bq1 HB.o (aD.ge A9.o)) hb) hbox ((by rw [hg];exact (a8 (w:=w) (g:=g) (row:=none) (kp0 HK.o)):w.heap.size≤A8)) ((Nat.le_trans E6.o (by rw [hg];exact (a8 (w:=w) (g:=g) (row:=none) (kp0 HK.o)):w.heap.size≤A8):w0.heap.size≤A8)) ((by rw [hg];exact Nat.ne_of_lt (aD.lt (show aD w0 _ g Aj B8 B9 from aD.q0 A9.o)):g≠A8)) ((by rw [hg];exact Nat.ne_of_gt (aD.lt (show aD w0 _ g Aj B8 B9 from aD.q0 A9.o)):A8≠g));clear A9 HK HB;obtain ⟨A9,HK,HB,A1,Aa,Ah,A2,Ae⟩:=n_;clear hb hbox hg)|((with_reducible refine aE (f:=25) rfl ?_);refine gc (some 5) (bH.calls k g Aj B8 B9 Ad Ac Ag Af Al Ao Ap w0 _ (aD.q1 A9.o A2.o) (bq2 HB.o (aD.ge A9.o) Ah.o) If.o) Try.func25 ?_;rintro e Jx ⟨Eh,rfl,Bu,hi,hb,hk⟩;refine ⟨_,rfl,?_⟩;have n_:=ak5 (KeepBut.blk hk (zb A1.o) Ae.o (by simp)) (Kd.S_lower Bu (a8 (w:=w) (g:=g) (row:=none) (kp1 HK.o Aa.o))) (KeepBut.trans (kp1 HK.o Aa.o) hk (.inl rfl)) hb hi;clear A1 HK HB A9;obtain ⟨A1,A7,HK,HB,A9⟩:=n_;(try clear hb hk hi Bu))|((with_reducible refine aJ (N:=3) rfl ?_);refine bxe 3 #[.int .i64 0,.int .i64 0,.int .i64 0,.int .i64 0,.slice none 0 0] 26 ?_;intro A5 hg Jy hbox hb;have n_:=gA (Kd.S_below (kqS A7.o) hb) (aD.below (aD.q1 A9.o A2.o) hb) (kb A1 hb) (KeepBut.trans (kp1 HK.o Aa.o) (KeepBut.of_below hb g none) (.inl rfl)) (aC (bq2 HB.o (aD.ge A9.o) Ah.o) hb) hbox ((by rw [hg];exact (a8 (w:=w) (g:=g) (row:=none) (kp1 HK.o Aa.o)):w.heap.size≤A5)) ((Nat.le_trans E6.o (by rw [hg];exact (a8 (w:=w) (g:=g) (row:=none) (kp1 HK.o Aa.o)):w.heap.size≤A5):w0.heap.size≤A5)) (nL hg A1) (nG hg A1) ((by rw [hg];exact Nat.ne_of_lt (aD.lt (show aD w0 _ g Aj Ao Ap from aD.q1 A9.o A2.o)):g≠A5)) ((by rw [hg];exact Nat.ne_of_gt (aD.lt (show aD w0 _ g Aj Ao Ap from aD.q1 A9.o A2.o)):A5≠g));clear A7 A9 A1 HK HB;obtain ⟨A7,A9,A1,HK,HB,A0,Ai,Am,A4,An,A6,Ak⟩:=n_;clear hb hbox hg;have Io:=An.o;have Ip:=A4.o;have Iq:=Ak.o;have Ir:=A6.o;obtain ⟨Ca,Cb,Cc,Cd,Ce,Cf,Cg,Ch,Ci,Cj⟩:=cl5 A0.o;obtain ⟨Bb,Bc,Ij⟩:=Kd.S_slice A7.o;subst Ij)|((with_reducible refine aE (f:=47) rfl ?_);refine gc (some 7) (a6.calls g Aj Ao Ap 12 C9 As At w0 _ (aD.q2 A9.o A2.o A6.o) (bq3 HB.o (aD.ge A9.o) Ah.o Am.o) Ig.o) Try.func47 ?_;rintro e Ji ⟨rfl,hi,hb,hk⟩;refine ⟨_,rfl,?_⟩;have n_:=ak6 (KeepBut.blk hk (g':=A8) (o:=.cells #[.int .i64 0,.int .i64 0,.int .i64 0,.int .i64 0,.slice none 0 0] 26 (0,0)) (by refine zr ?_;refine aN ?_ A4.o _;refine zr ?_;refine aN ?_ A4.o _;refine zr ?_;refine aN ?_ A4.o _;refine zr ?_;refine aN ?_ A4.o _;refine zr ?_;refine aN ?_ A4.o _;refine zr ?_;exact A1.o) Ae.o (by simp)) (Kd.S_mono (Kd.S_keep (aD.apartS (show aD w0 _ g Aj Ao Ap from aD.q2 A9.o A2.o A6.o) (by (with_reducible repeat (first|apply Kd.S_alloc|apply Kd.S_drewN|apply Kd.S_drew));exact (Kd.S_mono (Kd.S_far (p:=⟨A5,4,none⟩) (Kd.S_far (p:=⟨A5,3,none⟩) (Kd.S_far (p:=⟨A5,2,none⟩) (Kd.S_far (p:=⟨A5,1,none⟩) (Kd.S_far (p:=⟨A5,0,none⟩) (Kd.S_types A7.o A0.o (by decide)) (fun _ hk=>hk.2) (.int .i64 Ad)) (fun _ hk=>hk.2) (.int .i64 Ac)) (fun _ hk=>hk.2) (.int .i64 Ag)) (fun _ hk=>hk.2) (.int .i64 Af)) (fun _ hk=>hk.2) (.slice Bb Al.length Bc)) (fun _ h_=>h_.1))) (by decide)) hk (fun _ h=>h.2)) (fun _ h=>h.1)) (KeepBut.blk hk (g':=A5) (o:=.cells #[.int .i64 Ad,.int .i64 Ac,.int .i64 Ag,.int .i64 Af,.slice Bb Al.length Bc] 26 (0,0)) (by refine zr ?_;exact bp5 (zb A0.o)) Ak.o (by simp)) (KeepBut.trans (kp2 HK.o Aa.o Ai.o) hk (.inl rfl)) hb hi;clear A1 A7 A0 HK HB A9;obtain ⟨A1,A7,A0,HK,HB,A9⟩:=n_;(try clear hb hk hi)))
   have n_:=ak6 (Kd.S_drew A7.o) (a7 A1.o) (a7 A0.o) (aD.drew A9.o) (d9 HK.o) (bB HB.o)
   clear A7 A1 A0 A9 HK HB
   obtain ⟨A7,A1,A0,A9,HK,HB⟩:=n_
   refine cW (n:=11) (S:=fun w'=>w'.cell? ⟨A5,0,none⟩=some (.int .i64 Ad)∧w'.cell? ⟨A5,1,none⟩=some (.int .i64 Ac)∧w'.cell? ⟨A5,2,none⟩=some (.int .i64 Ag)∧w'.cell? ⟨A5,3,none⟩=some (.int .i64 Af)∧w'.cell? ⟨A5,4,none⟩=some (.slice Bb Al.length Bc)) (ds:=[10]) #[F,F,F,F,F,F,F,F,F,F,F] (by kernel_rfl) rfl rfl ⟨(aA A0.o 0).trans rfl,(aA A0.o 1).trans rfl,(aA A0.o 2).trans rfl,(aA A0.o 3).trans rfl,(aA A0.o 4).trans rfl⟩ (fun hHeld=>?_);refine bW bU.tab8 bU.bits8 (fun HT_ HW_=>?_)
   generalize Ji.drew=Jz at A7 A1 A0 A9 HK HB hHeld ⊢
   refine pv HT_ 0 (some 21) #[T,F,F,F,F,F,F,F,F,F,F] ?_
   refine pv HT_ 2 (some 23) #[T,F,T,F,F,F,F,F,F,F,F] ?_
   refine pv HT_ 4 (some 25) #[T,F,T,F,T,F,F,F,F,F,F] ?_
   refine tk 1 (some 22) #[T,T,T,F,T,F,F,F,F,F,F] rfl rfl (aZ HT_.o HW_.o (by kernel_rfl)) hHeld (Or.inl ⟨by rfl,by rintro w' ⟨s0,s1,s2,s3,s4⟩;go_simp;with_reducible rfl⟩) ?_
   refine dM (i:=3) (N:=some 24) #[T,T,T,T,T,F,F,F,F,F,F] rfl rfl (bS HT_.o (by kernel_rfl)) (by decide) (fun K hK=>?_)
   refine cU Try.func49 (by kernel_rfl) rfl #[.pointer (some ⟨g,0,none⟩)] (by rfl) rfl rfl ga ?_
   with_reducible refine (eG.calls k g Aj As At Be C2 C3 w0 _ ?side1 ?side2 Jg.o).mono ?_
   (case side1=>exact aD.q2 A9.o A2.o A6.o)
   (case side2=>exact bq3 HB.o (aD.ge A9.o) Ah.o Am.o)
   rintro e K0 ⟨Jj,rfl,Bu,hi,hb,hk⟩
   refine ⟨_,rfl,?_⟩
   have n_:=ak7 (KeepBut.blk hk (zb A1.o) Ae.o (by simp)) (Kd.S_mono (Kd.S_told (Kd.S_oldK (aD.apartS (show aD w0 _ g Aj As At from aD.q2 A9.o A2.o A6.o) (kqS A7.o) (by decide)) hk) (Kd.R_base Bu)) (fun _ h_=>h_.1)) (KeepBut.blk hk (zb A0.o) Ak.o (by simp)) (Kd.R_lower Bu (a8 (w:=w) (g:=g) (row:=none) (kp2 HK.o Aa.o Ai.o))) (KeepBut.trans (kp2 HK.o Aa.o Ai.o) hk (.inl rfl)) hb hi
   clear A1 A7 A0 HK HB A9
   obtain ⟨A1,A7,A0,B7,HK,HB,A9⟩:=n_
   (try clear hb hk hi Bu)
   refine hK.out _ _ ⟨(aA A0.o 0).trans rfl,(aA A0.o 1).trans rfl,(aA A0.o 2).trans rfl,(aA A0.o 3).trans rfl,(aA A0.o 4).trans rfl⟩ (fun hHeld=>?_)
   clear hK K
   refine bZ (a':=?_) ?_ ?_
   rotate_left
   · show Act.put _ (some 24) _=_
     simp only [Act.put,kX,kY,kZ,aI,aK]
     rfl
   refine dM (i:=5) (N:=some 26) #[T,T,T,T,T,T,F,F,F,F,F] rfl rfl (bS HT_.o (by kernel_rfl)) (by decide) (fun K hK=>?_)
   refine cU Try.func50 (by kernel_rfl) rfl #[.pointer (some ⟨g,0,none⟩)] (by rfl) rfl rfl ga ?_
   with_reducible refine (fS.calls k g Aj C2 C3 Bv Bw Bx Bf Ed Ee w0 _ ?side1 ?side2 Jh.o).mono ?_
   (case side1=>exact aD.q2 A9.o A2.o A6.o)
   (case side2=>exact bq3 HB.o (aD.ge A9.o) Ah.o Am.o)
   rintro e K1 ⟨Jk,rfl,Bu,hi,hb,hk⟩
   refine ⟨_,rfl,?_⟩
   have n_:=ak8 (KeepBut.blk hk (zb A1.o) Ae.o (by simp)) (Kd.S_mono (Kd.S_told (Kd.S_oldK (aD.apartS (show aD w0 _ g Aj C2 C3 from aD.q2 A9.o A2.o A6.o) (kqS A7.o) (by decide)) hk) (Kd.R_base Bu)) (fun _ h_=>h_.1)) (KeepBut.blk hk (zb A0.o) Ak.o (by simp)) (Kd.R_mono (Kd.R_told (Kd.R_oldK (aD.apart (show aD w0 _ g Aj C2 C3 from aD.q2 A9.o A2.o A6.o) (kqR B7.o) (by decide)) hk) (Kd.R_base Bu)) (fun _ h_=>h_.1)) (Kd.R_lower (Kd.R_new' Bu (Kd.R_lt (kqR B7.o))) (a8 (w:=w) (g:=g) (row:=none) (kp2 HK.o Aa.o Ai.o))) (KeepBut.trans (kp2 HK.o Aa.o Ai.o) hk (.inl rfl)) hb hi
   clear A1 A7 A0 B7 HK HB A9
   obtain ⟨A1,A7,A0,B7,C4,HK,HB,A9⟩:=n_
   (try clear hb hk hi Bu)
   obtain ⟨Ei,Ej,Ek⟩:=Kd.R_slice C4.o
   (first|subst Ek|(injection Ek with Bg C6 Bh;have C7:=Bg.symm;have C8:=Bh.symm;clear Bg C6 Bh;subst C7;subst C8))
   obtain ⟨El,Em,En⟩:=Kd.R_slice B7.o
   (first|subst En|(injection En with Bg C6 Bh;have C7:=Bg.symm;have C8:=Bh.symm;clear Bg C6 Bh;subst C7;subst C8))
   refine hK.out _ _ ⟨(aA A0.o 0).trans rfl,(aA A0.o 1).trans rfl,(aA A0.o 2).trans rfl,(aA A0.o 3).trans rfl,(aA A0.o 4).trans rfl⟩ (fun hHeld=>?_)
   clear hK K
   refine bZ (a':=?_) ?_ ?_
   rotate_left
   · show Act.put _ (some 26) _=_
     simp only [Act.put,kX,kY,kZ,aI,aK]
     rfl
   refine pv HT_ 6 (some 27) #[T,T,T,T,T,T,T,F,F,F,F] ?_
   refine dM (i:=7) (N:=some 28) #[T,T,T,T,T,T,T,T,F,F,F] rfl rfl (bS HT_.o (by kernel_rfl)) (by decide) (fun K hK=>?_)
   refine jE (w1:=?_) (v:=?_) (by rfl) rfl ?_ ?_
   rotate_left 2
   · go_simp
     constructor
     · rfl
     rfl
   refine hK.out _ _ ⟨(aA (b8 A0.o _) 0).trans rfl,(aA (b8 A0.o _) 1).trans rfl,(aA (b8 A0.o _) 2).trans rfl,(aA (b8 A0.o _) 3).trans rfl,(aA (b8 A0.o _) 4).trans rfl⟩ (fun hHeld=>?_)
   clear hK K
   refine bZ (a':=?_) ?_ ?_
   rotate_left
   · show Act.put _ (some 28) _=_
     simp only [Act.put,kX,kY,kZ,aI,aK]
     rfl
   refine dM (i:=8) (N:=some 29) #[T,T,T,T,T,T,T,T,T,F,F] rfl rfl (bS HT_.o (by kernel_rfl)) (by decide) (fun K hK=>?_)
   refine Kd.S_append_step k45 w.heap.size (by rfl) (.tmp 22) (.tmp 28) 24 45 (.agg #[(.slice none 0 0),(.int .i64 0),(.int .i64 0),(.string ⟨#[]⟩),(.slice none 0 0)]) 80 rfl Try.underlying24 gQ rfl (by decide) (by omega) (.slice Bb Al.length Bc) Al (⟨Be,(⟨Bv,Bw,Bx,Bf⟩:S43)⟩:S45) [.slice El Be.length Em,.int .i64 Bv,.int .i64 Bw,.string Bx,.slice Ei Bf.length Ej] (fun _=>True) (fun k_=>some k_=(.slice El Be.length Em:Value).ownBlock∨some k_=(.slice Ei Bf.length Ej:Value).ownBlock) rfl rfl ?aP (fun k_ hk_=>hk_.elim (fun h_=>((Kd.R_mono (ok':=fun k_=>((fun _=>True)) k_∧some k_≠(.slice Bb Al.length Bc:Value).ownBlock) (Kd.R_apart' (B7.o) (Kd.S_typed A7.o) (by decide)) (fun k_ hk=>⟨trivial,hk.2⟩))).1 k_ h_.symm) (fun h_=>((Kd.R_mono (ok':=fun k_=>((fun _=>True)) k_∧some k_≠(.slice Bb Al.length Bc:Value).ownBlock) (Kd.R_apart' (C4.o) (Kd.S_typed A7.o) (by decide)) (fun k_ hk=>⟨trivial,hk.2⟩))).1 k_ h_.symm)) ?aF ?aO (Below.refl _ _) ?aS ?aL ?_
   (case aP=>exact gK _ _ _ (⟨Be,(⟨Bv,Bw,Bx,Bf⟩:S43)⟩:S45) (Kd.R_mono (Kd.R_tight rfl (Kd.R_mono (ok':=fun k_=>((fun _=>True)) k_∧some k_≠(.slice Bb Al.length Bc:Value).ownBlock) (Kd.R_apart' (B7.o) (Kd.S_typed A7.o) (by decide)) (fun k_ hk=>⟨trivial,hk.2⟩))) (fun _ h_=>Or.inl h_)) (Kd.R_mono (Kd.R_tight rfl (Kd.R_mono (ok':=fun k_=>((fun _=>True)) k_∧some k_≠(.slice Bb Al.length Bc:Value).ownBlock) (Kd.R_apart' (C4.o) (Kd.S_typed A7.o) (by decide)) (fun k_ hk=>⟨trivial,hk.2⟩))) (fun _ h_=>Or.inr (h_))))
   (case aF=>exact (fun _ _=>trivial))
   (case aO=>exact (by (with_reducible repeat (first|apply Kd.S_alloc|apply Kd.S_drewN|apply Kd.S_drew));exact Kd.S_mono A7.o (fun k_ hk=>⟨trivial,fun e_=>e_.elim (fun h_=>hk.1.2 h_) (fun h_=>hk.2 h_)⟩)))
   (case aS=>exact (a8 (w:=w) (g:=g) (row:=none) (kp2 HK.o Aa.o Ai.o)))
   (case aL=>have:=Ef.o;omega)
   intro Jl Jm ho hb hg hat
   rw [← Eg.o] at ho
   have n_:=ak6 (aD.grown (aD.q2 A9.o A2.o A6.o) hg (aD.own_neS A9.o A7.o (by decide))) (cB (g:=A8) (o:=.cells #[.int .i64 0,.int .i64 0,.int .i64 0,.int .i64 0,.slice none 0 0] 26 (0,0)) (zq A1.o) hg (Kd.S_ne A7.o A1.o (by decide))) (cB (g:=A5) (o:=.cells #[.int .i64 Ad,.int .i64 Ac,.int .i64 Ag,.int .i64 Af,.slice Bb Al.length Bc] 26 (0,0)) (zq A0.o) hg (Kd.S_ne A7.o A0.o (by decide))) (fE (bq3 HB.o (aD.ge A9.o) Ah.o Am.o) HL.o hb) (KeepBut.trans (kp2 HK.o Aa.o Ai.o) (KeepBut.of_grown hg g) (Kd.S_base2 A7.o)) ho
   clear A9 A1 A0 HB HK A7 B7 C4
   obtain ⟨A9,A1,A0,HB,HK,Dn⟩:=n_
   clear ho hb hg hat
   obtain ⟨Dv,Dw,Eo⟩:=Kd.S_slice Dn.o
   (first|subst Eo|(injection Eo with Bg C6 Bh;have C7:=Bg.symm;have C8:=Bh.symm;clear Bg C6 Bh;subst C7;subst C8))
   refine hK.out _ _ ⟨(aA A0.o 0).trans rfl,(aA A0.o 1).trans rfl,(aA A0.o 2).trans rfl,(aA A0.o 3).trans rfl,(aA A0.o 4).trans rfl⟩ (fun hHeld=>?_)
   clear hK K
   refine bZ (a':=?_) ?_ ?_
   rotate_left
   · show Act.put _ (some 29) _=_
     simp only [Act.put,kX,kY,kZ,aI,aK]
     rfl
   refine pv HT_ 9 (some 30) #[T,T,T,T,T,T,T,T,T,T,F] ?_
   refine kB (i:=10) (N:=none) #[T,T,T,T,T,T,T,T,T,T,T] rfl rfl (bS HT_.o (by kernel_rfl)) (by decide) (fun K hK=>?_)
   have Jn:Jm.cell? ⟨A5,4,none⟩=some (.slice Bb Al.length Bc):=(aA A0.o 4).trans rfl
   have Is:=aM A0.o 4
   have G3:=A4.o
   have G4:=An.o
   refine kC (w1:=?_) (by rfl) rfl ?_ ?_
   rotate_left
   · go_simp
     rfl
   refine hK.out _ _ ?_
   clear hK K
   refine d5 (cL HT_.o (by kernel_rfl)) ?_
   obtain ⟨Ck,Cl,Cm,Cn,Co,Cp,Cq,Cr,Cs,Ct⟩:=cl5 A0.o
   have It:=Ae.o
   have Iu:=A2.o
   obtain ⟨Cu,Cv,Cw,Cx,Cy,Cz,D0,D1,D2,D3⟩:=cl5 A1.o
   try go_wp2
   refine bodyPost_ret (results_cell_row rfl _ _ A8 26 #[.int .i64 Ad,.int .i64 Ac,.int .i64 Ag,.int .i64 Af,.slice Dv Du.length Dw] (0,0) _ rfl (by refine zr ?_;refine aV (cs:=#[.int .i64 Ad,.int .i64 Ac,.int .i64 Ag,.int .i64 Af,.slice none 0 0]) ?_ 4 _ rfl;refine zr ?_;refine aV (cs:=#[.int .i64 Ad,.int .i64 Ac,.int .i64 Ag,.int .i64 0,.slice none 0 0]) ?_ 3 _ rfl;refine zr ?_;refine aV (cs:=#[.int .i64 Ad,.int .i64 Ac,.int .i64 0,.int .i64 0,.slice none 0 0]) ?_ 2 _ rfl;refine zr ?_;refine aV (cs:=#[.int .i64 Ad,.int .i64 0,.int .i64 0,.int .i64 0,.slice none 0 0]) ?_ 1 _ rfl;refine zr ?_;refine aV (cs:=#[.int .i64 0,.int .i64 0,.int .i64 0,.int .i64 0,.slice none 0 0]) ?_ 0 _ rfl;refine zr ?_;refine aN ?_ A4.o _;refine zr ?_;exact A1.o) Try.underlying26 rfl (by kernel_rfl)) rfl ?_
   exact ⟨_,rq,by (with_reducible repeat (first|apply Kd.S_alloc|apply Kd.S_drewN|apply Kd.S_drew));exact Kd.S_mono (Kd.S_far (p:=⟨A8,4,none⟩) (Kd.S_far (p:=⟨A8,3,none⟩) (Kd.S_far (p:=⟨A8,2,none⟩) (Kd.S_far (p:=⟨A8,1,none⟩) (Kd.S_far (p:=⟨A8,0,none⟩) (Kd.S_far (p:=⟨A5,4,none⟩) (Kd.S_types (Kd.S_types Dn.o A0.o (by decide)) A1.o (by decide)) (fun _ hk=>hk.1.2) (.slice Dv Du.length Dw)) (fun _ hk=>hk.2) (.int .i64 Ad)) (fun _ hk=>hk.2) (.int .i64 Ac)) (fun _ hk=>hk.2) (.int .i64 Ag)) (fun _ hk=>hk.2) (.int .i64 Af)) (fun _ hk=>hk.2) (.slice Dv Du.length Dw)) (fun _ hk=>trivial),aD.q2 A9.o A2.o A6.o,bq3 HB.o (aD.ge A9.o) Ah.o Am.o,kp2 HK.o Aa.o Ai.o⟩
 replace H:=iq' H
 rcases H with ⟨Jo,Do,Dp,H⟩|⟨-,Do,Dp,H⟩
 have z1:=trivial
 rotate_left
 · have H':=am H
   clear H
   go_enter Try.func18,Try.ntmps18
   go_wp2_with (first|((with_reducible refine aJ (N:=2) rfl ?_);refine bxe 2 #[.int .i64 0,.int .i64 0,.int .i64 0,.int .i64 0,.slice none 0 0] 26 ?_;intro A8 hg K2 hbox hb;have n_:=ak8 (aD.below (aD.q0 A9.o) hb) (KeepBut.trans (kp0 HK.o) (KeepBut.of_below hb g none) (.inl rfl)) (aC (bq1 HB.o (aD.ge A9.o)) hb) hbox ((by rw [hg];exact (a8 (w:=w) (g:=g) (row:=none) (kp0 HK.o)):w.heap.size≤A8)) ((Nat.le_trans E6.o (by rw [hg];exact (a8 (w:=w) (g:=g) (row:=none) (kp0 HK.o)):w.heap.size≤A8):w0.heap.size≤A8)) ((by rw [hg];exact Nat.ne_of_lt (aD.lt (show aD w0 _ g Aj B8 B9 from aD.q0 A9.o)):g≠A8)) ((by rw [hg];exact Nat.ne_of_gt (aD.lt (show aD w0 _ g Aj B8 B9 from aD.q0 A9.o)):A8≠g));clear A9 HK HB;obtain ⟨A9,HK,HB,A1,Aa,Ah,A2,Ae⟩:=n_;clear hb hbox hg)|((with_reducible refine aE (f:=25) rfl ?_);refine gc (some 5) (bH.calls k g Aj B8 B9 Ad Ac Ag Af Al Ao Ap w0 _ (aD.q1 A9.o A2.o) (bq2 HB.o (aD.ge A9.o) Ah.o) If.o) Try.func25 ?_;rintro e K3 ⟨Eh,rfl,Bu,hi,hb,hk⟩;refine ⟨_,rfl,?_⟩;have n_:=ak5 (KeepBut.blk hk (zb A1.o) Ae.o (by simp)) (Kd.S_lower Bu (a8 (w:=w) (g:=g) (row:=none) (kp1 HK.o Aa.o))) (KeepBut.trans (kp1 HK.o Aa.o) hk (.inl rfl)) hb hi;clear A1 HK HB A9;obtain ⟨A1,A7,HK,HB,A9⟩:=n_;(try clear hb hk hi Bu))|((with_reducible refine aJ (N:=3) rfl ?_);refine bxe 3 #[.int .i64 0,.int .i64 0,.int .i64 0,.int .i64 0,.slice none 0 0] 26 ?_;intro A5 hg K4 hbox hb;have n_:=gA (Kd.S_below (kqS A7.o) hb) (aD.below (aD.q1 A9.o A2.o) hb) (kb A1 hb) (KeepBut.trans (kp1 HK.o Aa.o) (KeepBut.of_below hb g none) (.inl rfl)) (aC (bq2 HB.o (aD.ge A9.o) Ah.o) hb) hbox ((by rw [hg];exact (a8 (w:=w) (g:=g) (row:=none) (kp1 HK.o Aa.o)):w.heap.size≤A5)) ((Nat.le_trans E6.o (by rw [hg];exact (a8 (w:=w) (g:=g) (row:=none) (kp1 HK.o Aa.o)):w.heap.size≤A5):w0.heap.size≤A5)) (nL hg A1) (nG hg A1) ((by rw [hg];exact Nat.ne_of_lt (aD.lt (show aD w0 _ g Aj Ao Ap from aD.q1 A9.o A2.o)):g≠A5)) ((by rw [hg];exact Nat.ne_of_gt (aD.lt (show aD w0 _ g Aj Ao Ap from aD.q1 A9.o A2.o)):A5≠g));clear A7 A9 A1 HK HB;obtain ⟨A7,A9,A1,HK,HB,A0,Ai,Am,A4,An,A6,Ak⟩:=n_;clear hb hbox hg;have Iv:=An.o;have Iw:=A4.o;have Ix:=Ak.o;have Iy:=A6.o;obtain ⟨D4,D5,D6,D7,D8,D9,Da,Db,Dc,Dd⟩:=cl5 A0.o;obtain ⟨Dx,Dy,Ik⟩:=Kd.S_slice A7.o;subst Ik)|((with_reducible refine aE (f:=47) rfl ?_);refine gc (some 7) (a6.calls g Aj Ao Ap 12 C9 As At w0 _ (aD.q2 A9.o A2.o A6.o) (bq3 HB.o (aD.ge A9.o) Ah.o Am.o) Ig.o) Try.func47 ?_;rintro e K5 ⟨rfl,hi,hb,hk⟩;refine ⟨_,rfl,?_⟩;have n_:=ak6 (KeepBut.blk hk (g':=A8) (o:=.cells #[.int .i64 0,.int .i64 0,.int .i64 0,.int .i64 0,.slice none 0 0] 26 (0,0)) (by refine zr ?_;refine aN ?_ A4.o _;refine zr ?_;refine aN ?_ A4.o _;refine zr ?_;refine aN ?_ A4.o _;refine zr ?_;refine aN ?_ A4.o _;refine zr ?_;refine aN ?_ A4.o _;refine zr ?_;exact A1.o) Ae.o (by simp)) (Kd.S_mono (Kd.S_keep (aD.apartS (show aD w0 _ g Aj Ao Ap from aD.q2 A9.o A2.o A6.o) (by (with_reducible repeat (first|apply Kd.S_alloc|apply Kd.S_drewN|apply Kd.S_drew));exact (Kd.S_mono (Kd.S_far (p:=⟨A5,4,none⟩) (Kd.S_far (p:=⟨A5,3,none⟩) (Kd.S_far (p:=⟨A5,2,none⟩) (Kd.S_far (p:=⟨A5,1,none⟩) (Kd.S_far (p:=⟨A5,0,none⟩) (Kd.S_types A7.o A0.o (by decide)) (fun _ hk=>hk.2) (.int .i64 Ad)) (fun _ hk=>hk.2) (.int .i64 Ac)) (fun _ hk=>hk.2) (.int .i64 Ag)) (fun _ hk=>hk.2) (.int .i64 Af)) (fun _ hk=>hk.2) (.slice Dx Al.length Dy)) (fun _ h_=>h_.1))) (by decide)) hk (fun _ h=>h.2)) (fun _ h=>h.1)) (KeepBut.blk hk (g':=A5) (o:=.cells #[.int .i64 Ad,.int .i64 Ac,.int .i64 Ag,.int .i64 Af,.slice Dx Al.length Dy] 26 (0,0)) (by refine zr ?_;exact bp5 (zb A0.o)) Ak.o (by simp)) (KeepBut.trans (kp2 HK.o Aa.o Ai.o) hk (.inl rfl)) hb hi;clear A1 A7 A0 HK HB A9;obtain ⟨A1,A7,A0,HK,HB,A9⟩:=n_;(try clear hb hk hi)))
   go_loopg [] k (fun kq w'=>∃(Aq:Int) (Ar:Int) (Ab:List (S45)) (Bt:Value),Aside0 (bU.l0 kq Aj Aq Ar Ad Ac Ag Af Ab=some (r1,r2,r3,r4,r5,r6,r7))∧Aside0 (kq≤k)∧Aside0 (Kd.S k45 45 w' w.heap.size (fun _=>True) Bt Ab)∧Aside0 (w'.heap[A8]? =some (.cells #[.int .i64 0,.int .i64 0,.int .i64 0,.int .i64 0,(.slice none 0 0)] 26 (0,0)))∧Aside0 (w'.heap[A5]? =some (.cells #[.int .i64 Ad,.int .i64 Ac,.int .i64 Ag,.int .i64 Af,Bt] 26 (0,0)))∧Aside0 (aD w0 w' g Aj Aq Ar)∧Aside0 (KeepBut w w' g none)∧Aside0 (Below w0.heap.size w0 w'))
   case atStart=>exact ⟨(As),(At),(Al),(.slice Dx Al.length Dy),H',⟨k7 _⟩,⟨kqS A7.o⟩,⟨zq A1.o⟩,⟨zq A0.o⟩,⟨aD.q2 A9.o A2.o A6.o⟩,⟨kp2 HK.o Aa.o Ai.o⟩,⟨bq3 HB.o (aD.ge A9.o) Ah.o Am.o⟩⟩
   case round=>
    clear H'
    try clear c1
    try clear c2
    try clear p2
    try clear c3
    try clear c4
    try clear E7
    try clear E8
    try clear c5
    try clear c6
    try clear c9
    try clear K6
    try clear K7
    try clear Jd
    try clear Dg
    try clear Dh
    try clear K8
    try clear K9
    try clear Ka
    try clear Kb
    try clear Jf
    try clear Dk
    try clear Dl
    try clear Ii
    try clear Kc
    try clear Ke
    try clear Kf
    try clear Kg
    try clear Kh
    try clear Ki
    try clear Kj
    try clear Jo
    try clear Do
    try clear Dp
    try clear Kk
    try clear Kl
    try clear G5
    try clear G6
    try clear G7
    try clear G8
    try clear G9
    try clear Ga
    try clear Gb
    try clear Gc
    try clear Gd
    try clear Ge
    try clear Gf
    try clear Gg
    try clear Gh
    try clear Gi
    try clear Gj
    try clear Gk
    try clear Gl
    try clear Gm
    try clear Gn
    try clear Go
    try clear Gp
    try clear Gq
    try clear Gr
    try clear Gs
    try clear Gt
    try clear Gu
    try clear Gv
    try clear Gw
    try clear Gx
    try clear Gy
    try clear Ca
    try clear Cb
    try clear Cc
    try clear Cd
    try clear Ce
    try clear Ck
    try clear Cl
    try clear Cm
    try clear Cn
    try clear Co
    try clear Cu
    try clear Cv
    try clear Cw
    try clear Cx
    try clear Cy
    try clear D4
    try clear D5
    try clear D6
    try clear D7
    try clear D8
    try clear Gz
    try clear H0
    try clear H1
    try clear H2
    try clear H3
    try clear H4
    try clear H5
    try clear H6
    try clear H7
    try clear H8
    try clear H9
    try clear Ha
    try clear Hb
    try clear Hc
    try clear Hd
    try clear He
    try clear Hf
    try clear Hg
    try clear Hh
    try clear Hi
    try clear Hj
    try clear Hk
    try clear Hl
    try clear Hm
    try clear Hn
    try clear Ho
    try clear Hp
    try clear Hq
    try clear Hr
    try clear Hs
    try clear Cf
    try clear Cg
    try clear Ch
    try clear Ci
    try clear Cj
    try clear Cp
    try clear Cq
    try clear Cr
    try clear Cs
    try clear Ct
    try clear Cz
    try clear D0
    try clear D1
    try clear D2
    try clear D3
    try clear D9
    try clear Da
    try clear Db
    try clear Dc
    try clear Dd
    obtain ⟨Aq,Ar,Ab,Bt,HA,Iz,A3,A1,A0,A9,HK,HB⟩:=hrel
    cases gk with
    |zero=>exact absurd HA.o (by simp [bU.l0])
    |succ k1=>
     have H:=HA.o
     clear HA
     simp only [bU.l0] at H
     replace H:=be H
     obtain ⟨⟨Ep,De,Df⟩,J0,H⟩:=H
     try dsimp only at H
     replace H:=il' H
     rcases H with ⟨-,Eq,H⟩|⟨-,Eq,H⟩
     · simp only [k4,k5] at H
       obtain ⟨rfl,rfl,rfl,rfl,rfl,rfl,rfl⟩:=H
       try go_wp2
       have n_:=ak6 (Kd.S_drew A3.o) (a7 A1.o) (a7 A0.o) (aD.drew A9.o) (d9 HK.o) (bB HB.o)
       clear A3 A1 A0 A9 HK HB
       obtain ⟨A3,A1,A0,A9,HK,HB⟩:=n_
       obtain ⟨Dz,E0,Er⟩:=Kd.S_slice A3.o
       (first|subst Er|(injection Er with Bg C6 Bh;have C7:=Bg.symm;have C8:=Bh.symm;clear Bg C6 Bh;subst C7;subst C8))
       refine cW (n:=7) (S:=fun w'=>w'.cell? ⟨A5,0,none⟩=some (.int .i64 Ad)∧w'.cell? ⟨A5,1,none⟩=some (.int .i64 Ac)∧w'.cell? ⟨A5,2,none⟩=some (.int .i64 Ag)∧w'.cell? ⟨A5,3,none⟩=some (.int .i64 Af)∧w'.cell? ⟨A5,4,none⟩=some (.slice Dz Ab.length E0)) (ds:=[]) #[F,F,F,F,F,F,F] (by kernel_rfl) rfl rfl ⟨(aA A0.o 0).trans rfl,(aA A0.o 1).trans rfl,(aA A0.o 2).trans rfl,(aA A0.o 3).trans rfl,(aA A0.o 4).trans rfl⟩ (fun hHeld=>?_)
       generalize wr.drew=Km at A3 A1 A0 A9 HK HB hHeld ⊢
       refine pu 0 (some 33) #[T,F,F,F,F,F,F] rfl rfl (by kernel_rfl) (Or.inl ⟨by rfl,by intro w';go_simp;with_reducible rfl⟩) ?_
       refine pu 3 (some 36) #[T,F,F,T,F,F,F] rfl rfl (by kernel_rfl) (Or.inl ⟨by rfl,by intro w';go_simp;with_reducible rfl⟩) ?_
       refine tk 1 (some 34) #[T,T,F,T,F,F,F] rfl rfl (by kernel_rfl) hHeld (Or.inl ⟨by rfl,by rintro w' ⟨s0,s1,s2,s3,s4⟩;go_simp;with_reducible rfl⟩) ?_
       refine pu 2 (some 35) #[T,T,T,T,F,F,F] rfl rfl (by kernel_rfl) (Or.inl ⟨by rfl,by intro w';go_simp;with_reducible rfl⟩) ?_
       refine dM (i:=4) (N:=some 37) #[T,T,T,T,T,F,F] rfl rfl (by kernel_rfl) (by decide) (fun K hK=>?_)
       refine cU Try.func47 (by kernel_rfl) rfl #[.pointer (some ⟨g,0,none⟩),.int .i64 2] (by rfl) rfl rfl ga ?_
       with_reducible refine (a6.calls g Aj Aq Ar 2 Ep De Df w0 _ ?side1 ?side2 J0.o).mono ?_
       (case side1=>exact aD.q2 A9.o A2.o A6.o)
       (case side2=>exact bq3 HB.o (aD.ge A9.o) Ah.o Am.o)
       rintro e Kn ⟨rfl,hi,hb,hk⟩
       refine ⟨_,rfl,?_⟩
       have n_:=ak6 (Kd.S_mono (Kd.S_keep (aD.apartS (show aD w0 _ g Aj Aq Ar from aD.q2 A9.o A2.o A6.o) (kqS A3.o) (by decide)) hk (fun _ h=>h.2)) (fun _ h=>h.1)) (KeepBut.blk hk (zb A1.o) Ae.o (by simp)) (KeepBut.blk hk (zb A0.o) Ak.o (by simp)) (KeepBut.trans (kp2 HK.o Aa.o Ai.o) hk (.inl rfl)) hb hi
       clear A3 A1 A0 HK HB A9
       obtain ⟨A3,A1,A0,HK,HB,A9⟩:=n_
       (try clear hb hk hi)
       refine hK.out _ _ ⟨(aA A0.o 0).trans rfl,(aA A0.o 1).trans rfl,(aA A0.o 2).trans rfl,(aA A0.o 3).trans rfl,(aA A0.o 4).trans rfl⟩ (fun hHeld=>?_)
       clear hK K
       refine bZ (a':=?_) ?_ ?_
       rotate_left
       · show Act.put _ (some 37) _=_
         simp only [Act.put,kX,kY,kZ,aI,aK]
         rfl
       refine pu 5 (some 38) #[T,T,T,T,T,T,F] rfl rfl (by kernel_rfl) (Or.inl ⟨by rfl,by intro w';go_simp;with_reducible rfl⟩) ?_
       refine pu 6 (some 39) #[T,T,T,T,T,T,T] rfl rfl (by kernel_rfl) (Or.inl ⟨by rfl,by intro w';go_simp;with_reducible rfl⟩) ?_
       refine d5 (by kernel_rfl) ?_
       have J1:=An.o
       have J2:=A4.o
       have J3:=Ak.o
       have J4:=A6.o
       obtain ⟨Ht,Hu,Hv,Hw,Hx,Hy,Hz,I0,I1,I2⟩:=cl5 A0.o
       have J5:=Ae.o
       have J6:=A2.o
       obtain ⟨I3,I4,I5,I6,I7,I8,I9,Ia,Ib,Ic⟩:=cl5 A1.o
       try go_wp2
       refine bodyPost_ret (results_cell_row rfl _ _ A8 26 #[.int .i64 Ad,.int .i64 Ac,.int .i64 Ag,.int .i64 Af,.slice Dz Ab.length E0] (0,0) _ rfl (by refine zr ?_;exact bp5 (zb A1.o)) Try.underlying26 rfl (by kernel_rfl)) rfl ?_
       exact ⟨_,rq,by (with_reducible repeat (first|apply Kd.S_alloc|apply Kd.S_drewN|apply Kd.S_drew));exact Kd.S_mono (Kd.S_far (p:=⟨A8,4,none⟩) (Kd.S_far (p:=⟨A8,3,none⟩) (Kd.S_far (p:=⟨A8,2,none⟩) (Kd.S_far (p:=⟨A8,1,none⟩) (Kd.S_far (p:=⟨A8,0,none⟩) (Kd.S_types A3.o A1.o (by decide)) (fun _ hk=>hk.2) (.int .i64 Ad)) (fun _ hk=>hk.2) (.int .i64 Ac)) (fun _ hk=>hk.2) (.int .i64 Ag)) (fun _ hk=>hk.2) (.int .i64 Af)) (fun _ hk=>hk.2) (.slice Dz Ab.length E0)) (fun _ hk=>trivial),aD.q2 A9.o A2.o A6.o,bq3 HB.o (aD.ge A9.o) Ah.o Am.o,kp2 HK.o Aa.o Ai.o⟩
     replace H:=be H
     obtain ⟨⟨Bi,Dq,Dr⟩,Jp,H⟩:=H
     try dsimp only at H
     replace H:=nq H
     obtain ⟨J7,H⟩:=H
     have Es:=am J7
     clear J7
     generalize Ds:((Ab++[(⟨Bi,(⟨4,0,(⟨#[116,119,101,110,116,121,45,98,121,116,101,115,45,111,102,45,116,101,120,116]⟩:ByteArray),([]:List Int)⟩:S43)⟩:S45)]):List (S45))=E1 at H
     have Et:=am Ds.symm
     clear Ds
     have H':=am H
     clear H
     try go_wp2
     have n_:=ak6 (Kd.S_drew A3.o) (a7 A1.o) (a7 A0.o) (aD.drew A9.o) (d9 HK.o) (bB HB.o)
     clear A3 A1 A0 A9 HK HB
     obtain ⟨A3,A1,A0,A9,HK,HB⟩:=n_
     obtain ⟨By,Bz,Eu⟩:=Kd.S_slice A3.o
     (first|subst Eu|(injection Eu with Bg C6 Bh;have C7:=Bg.symm;have C8:=Bh.symm;clear Bg C6 Bh;subst C7;subst C8))
     refine cW (n:=7) (S:=fun w'=>w'.cell? ⟨A5,0,none⟩=some (.int .i64 Ad)∧w'.cell? ⟨A5,1,none⟩=some (.int .i64 Ac)∧w'.cell? ⟨A5,2,none⟩=some (.int .i64 Ag)∧w'.cell? ⟨A5,3,none⟩=some (.int .i64 Af)∧w'.cell? ⟨A5,4,none⟩=some (.slice By Ab.length Bz)) (ds:=[]) #[F,F,F,F,F,F,F] (by kernel_rfl) rfl rfl ⟨(aA A0.o 0).trans rfl,(aA A0.o 1).trans rfl,(aA A0.o 2).trans rfl,(aA A0.o 3).trans rfl,(aA A0.o 4).trans rfl⟩ (fun hHeld=>?_)
     generalize wr.drew=Ko at A3 A1 A0 A9 HK HB hHeld ⊢
     refine pu 0 (some 33) #[T,F,F,F,F,F,F] rfl rfl (by kernel_rfl) (Or.inl ⟨by rfl,by intro w';go_simp;with_reducible rfl⟩) ?_
     refine pu 3 (some 36) #[T,F,F,T,F,F,F] rfl rfl (by kernel_rfl) (Or.inl ⟨by rfl,by intro w';go_simp;with_reducible rfl⟩) ?_
     refine tk 1 (some 34) #[T,T,F,T,F,F,F] rfl rfl (by kernel_rfl) hHeld (Or.inl ⟨by rfl,by rintro w' ⟨s0,s1,s2,s3,s4⟩;go_simp;with_reducible rfl⟩) ?_
     refine pu 2 (some 35) #[T,T,T,T,F,F,F] rfl rfl (by kernel_rfl) (Or.inl ⟨by rfl,by intro w';go_simp;with_reducible rfl⟩) ?_
     refine dM (i:=4) (N:=some 37) #[T,T,T,T,T,F,F] rfl rfl (by kernel_rfl) (by decide) (fun K hK=>?_)
     refine cU Try.func47 (by kernel_rfl) rfl #[.pointer (some ⟨g,0,none⟩),.int .i64 2] (by rfl) rfl rfl ga ?_
     with_reducible refine (a6.calls g Aj Aq Ar 2 Ep De Df w0 _ ?side1 ?side2 J0.o).mono ?_
     (case side1=>exact aD.q2 A9.o A2.o A6.o)
     (case side2=>exact bq3 HB.o (aD.ge A9.o) Ah.o Am.o)
     rintro e Jq ⟨rfl,hi,hb,hk⟩
     refine ⟨_,rfl,?_⟩
     have n_:=ak6 (Kd.S_mono (Kd.S_keep (aD.apartS (show aD w0 _ g Aj Aq Ar from aD.q2 A9.o A2.o A6.o) (kqS A3.o) (by decide)) hk (fun _ h=>h.2)) (fun _ h=>h.1)) (KeepBut.blk hk (zb A1.o) Ae.o (by simp)) (KeepBut.blk hk (zb A0.o) Ak.o (by simp)) (KeepBut.trans (kp2 HK.o Aa.o Ai.o) hk (.inl rfl)) hb hi
     clear A3 A1 A0 HK HB A9
     obtain ⟨A3,A1,A0,HK,HB,A9⟩:=n_
     (try clear hb hk hi)
     refine hK.out _ _ ⟨(aA A0.o 0).trans rfl,(aA A0.o 1).trans rfl,(aA A0.o 2).trans rfl,(aA A0.o 3).trans rfl,(aA A0.o 4).trans rfl⟩ (fun hHeld=>?_)
     clear hK K
     refine bZ (a':=?_) ?_ ?_
     rotate_left
     · show Act.put _ (some 37) _=_
       simp only [Act.put,kX,kY,kZ,aI,aK]
       rfl
     refine pu 5 (some 38) #[T,T,T,T,T,T,F] rfl rfl (by kernel_rfl) (Or.inl ⟨by rfl,by intro w';go_simp;with_reducible rfl⟩) ?_
     refine pu 6 (some 39) #[T,T,T,T,T,T,T] rfl rfl (by kernel_rfl) (Or.inl ⟨by rfl,by intro w';go_simp;with_reducible rfl⟩) ?_
     refine d5 (by kernel_rfl) ?_
     try go_wp2
     have n_:=ak6 (Kd.S_drew A3.o) (a7 A1.o) (a7 A0.o) (aD.drew A9.o) (d9 HK.o) (bB HB.o)
     clear A3 A1 A0 A9 HK HB
     obtain ⟨A3,A1,A0,A9,HK,HB⟩:=n_
     refine cW (n:=10) (S:=fun w'=>w'.cell? ⟨A5,0,none⟩=some (.int .i64 Ad)∧w'.cell? ⟨A5,1,none⟩=some (.int .i64 Ac)∧w'.cell? ⟨A5,2,none⟩=some (.int .i64 Ag)∧w'.cell? ⟨A5,3,none⟩=some (.int .i64 Af)∧w'.cell? ⟨A5,4,none⟩=some (.slice By Ab.length Bz)) (ds:=[9]) #[F,F,F,F,F,F,F,F,F,F] (by kernel_rfl) rfl rfl ⟨(aA A0.o 0).trans rfl,(aA A0.o 1).trans rfl,(aA A0.o 2).trans rfl,(aA A0.o 3).trans rfl,(aA A0.o 4).trans rfl⟩ (fun hHeld=>?_);refine bW bU.tab11 bU.bits11 (fun HT_ HW_=>?_)
     generalize Jq.drew=Kp at A3 A1 A0 A9 HK HB hHeld ⊢
     refine pv HT_ 0 (some 40) #[T,F,F,F,F,F,F,F,F,F] ?_
     refine pv HT_ 2 (some 42) #[T,F,T,F,F,F,F,F,F,F] ?_
     refine pv HT_ 4 (some 44) #[T,F,T,F,T,F,F,F,F,F] ?_
     refine tk 1 (some 41) #[T,T,T,F,T,F,F,F,F,F] rfl rfl (aZ HT_.o HW_.o (by kernel_rfl)) hHeld (Or.inl ⟨by rfl,by rintro w' ⟨s0,s1,s2,s3,s4⟩;go_simp;with_reducible rfl⟩) ?_
     refine dM (i:=3) (N:=some 43) #[T,T,T,T,T,F,F,F,F,F] rfl rfl (bS HT_.o (by kernel_rfl)) (by decide) (fun K hK=>?_)
     refine cU Try.func51 (by kernel_rfl) rfl #[.pointer (some ⟨g,0,none⟩)] (by rfl) rfl rfl ga ?_
     with_reducible refine (cM.calls k1 g Aj De Df Bi Dq Dr w0 _ ?side1 ?side2 Jp.o).mono ?_
     (case side1=>exact aD.q2 A9.o A2.o A6.o)
     (case side2=>exact bq3 HB.o (aD.ge A9.o) Ah.o Am.o)
     rintro e Kq ⟨Jr,rfl,Bu,hi,hb,hk⟩
     refine ⟨_,rfl,?_⟩
     have n_:=ak7 (Kd.S_mono (Kd.S_told (Kd.S_oldK (aD.apartS (show aD w0 _ g Aj De Df from aD.q2 A9.o A2.o A6.o) (kqS A3.o) (by decide)) hk) (Kd.R_base Bu)) (fun _ h_=>h_.1)) (KeepBut.blk hk (zb A1.o) Ae.o (by simp)) (KeepBut.blk hk (zb A0.o) Ak.o (by simp)) (Kd.R_lower Bu (a8 (w:=w) (g:=g) (row:=none) (kp2 HK.o Aa.o Ai.o))) (KeepBut.trans (kp2 HK.o Aa.o Ai.o) hk (.inl rfl)) hb hi
     clear A3 A1 A0 HK HB A9
     obtain ⟨A3,A1,A0,C5,HK,HB,A9⟩:=n_
     (try clear hb hk hi Bu)
     obtain ⟨Ev,Ew,Ex⟩:=Kd.R_slice C5.o
     (first|subst Ex|(injection Ex with Bg C6 Bh;have C7:=Bg.symm;have C8:=Bh.symm;clear Bg C6 Bh;subst C7;subst C8))
     refine hK.out _ _ ⟨(aA A0.o 0).trans rfl,(aA A0.o 1).trans rfl,(aA A0.o 2).trans rfl,(aA A0.o 3).trans rfl,(aA A0.o 4).trans rfl⟩ (fun hHeld=>?_)
     clear hK K
     refine bZ (a':=?_) ?_ ?_
     rotate_left
     · show Act.put _ (some 43) _=_
       simp only [Act.put,kX,kY,kZ,aI,aK]
       rfl
     refine pv HT_ 5 (some 45) #[T,T,T,T,T,T,F,F,F,F] ?_
     refine dM (i:=6) (N:=some 46) #[T,T,T,T,T,T,T,F,F,F] rfl rfl (bS HT_.o (by kernel_rfl)) (by decide) (fun K hK=>?_)
     refine jE (w1:=?_) (v:=?_) (by rfl) rfl ?_ ?_
     rotate_left 2
     · go_simp
       constructor
       · rfl
       rfl
     refine hK.out _ _ ⟨(aA (b8 A0.o _) 0).trans rfl,(aA (b8 A0.o _) 1).trans rfl,(aA (b8 A0.o _) 2).trans rfl,(aA (b8 A0.o _) 3).trans rfl,(aA (b8 A0.o _) 4).trans rfl⟩ (fun hHeld=>?_)
     clear hK K
     refine bZ (a':=?_) ?_ ?_
     rotate_left
     · show Act.put _ (some 46) _=_
       simp only [Act.put,kX,kY,kZ,aI,aK]
       rfl
     refine dM (i:=7) (N:=some 47) #[T,T,T,T,T,T,T,T,F,F] rfl rfl (bS HT_.o (by kernel_rfl)) (by decide) (fun K hK=>?_)
     refine Kd.S_append_step k45 w.heap.size (by rfl) (.tmp 41) (.tmp 46) 24 45 (.agg #[(.slice none 0 0),(.int .i64 0),(.int .i64 0),(.string ⟨#[]⟩),(.slice none 0 0)]) 80 rfl Try.underlying24 gQ rfl (by decide) (by omega) (.slice By Ab.length Bz) Ab (⟨Bi,(⟨4,0,(⟨#[116,119,101,110,116,121,45,98,121,116,101,115,45,111,102,45,116,101,120,116]⟩:ByteArray),([]:List Int)⟩:S43)⟩:S45) [.slice Ev Bi.length Ew,.int .i64 4,.int .i64 0,.string (⟨#[116,119,101,110,116,121,45,98,121,116,101,115,45,111,102,45,116,101,120,116]⟩:ByteArray),.slice none 0 0] (fun _=>True) (fun k_=>some k_=(.slice Ev Bi.length Ew:Value).ownBlock) rfl rfl ?aP (fun k_ hk_=>((Kd.R_mono (ok':=fun k_=>((fun _=>True)) k_∧some k_≠(.slice By Ab.length Bz:Value).ownBlock) (Kd.R_apart' (C5.o) (Kd.S_typed A3.o) (by decide)) (fun k_ hk=>⟨trivial,hk.2⟩))).1 k_ hk_.symm) ?aF ?aO (Below.refl _ _) ?aS ?aL ?_
     (case aP=>exact gK _ _ _ (⟨Bi,(⟨4,0,(⟨#[116,119,101,110,116,121,45,98,121,116,101,115,45,111,102,45,116,101,120,116]⟩:ByteArray),([]:List Int)⟩:S43)⟩:S45) (Kd.R_mono (Kd.R_tight rfl (Kd.R_mono (ok':=fun k_=>((fun _=>True)) k_∧some k_≠(.slice By Ab.length Bz:Value).ownBlock) (Kd.R_apart' (C5.o) (Kd.S_typed A3.o) (by decide)) (fun k_ hk=>⟨trivial,hk.2⟩))) (fun _ h_=>h_)) (Kd.R_nil _ _ _ _ _))
     (case aF=>exact (fun _ _=>trivial))
     (case aO=>exact (by (with_reducible repeat (first|apply Kd.S_alloc|apply Kd.S_drewN|apply Kd.S_drew));exact Kd.S_mono A3.o (fun k_ hk=>⟨trivial,fun e_=>hk.2 e_⟩)))
     (case aS=>exact (a8 (w:=w) (g:=g) (row:=none) (kp2 HK.o Aa.o Ai.o)))
     (case aL=>have:=Es.o;omega)
     intro Js Jt ho hb hg hat
     rw [← Et.o] at ho
     have n_:=ak6 (cB (g:=A8) (o:=.cells #[.int .i64 0,.int .i64 0,.int .i64 0,.int .i64 0,.slice none 0 0] 26 (0,0)) (zq A1.o) hg (Kd.S_ne A3.o A1.o (by decide))) (cB (g:=A5) (o:=.cells #[.int .i64 Ad,.int .i64 Ac,.int .i64 Ag,.int .i64 Af,.slice By Ab.length Bz] 26 (0,0)) (zq A0.o) hg (Kd.S_ne A3.o A0.o (by decide))) (aD.grown (aD.q2 A9.o A2.o A6.o) hg (aD.own_neS A9.o A3.o (by decide))) (fE (bq3 HB.o (aD.ge A9.o) Ah.o Am.o) HL.o hb) (KeepBut.trans (kp2 HK.o Aa.o Ai.o) (KeepBut.of_grown hg g) (Kd.S_base2 A3.o)) ho
     clear A1 A0 A9 HB HK A3 C5
     obtain ⟨A1,A0,A9,HB,HK,Dt⟩:=n_
     clear ho hb hg hat
     obtain ⟨Ey,Ez,G0⟩:=Kd.S_slice Dt.o
     (first|subst G0|(injection G0 with Bg C6 Bh;have C7:=Bg.symm;have C8:=Bh.symm;clear Bg C6 Bh;subst C7;subst C8))
     refine hK.out _ _ ⟨(aA A0.o 0).trans rfl,(aA A0.o 1).trans rfl,(aA A0.o 2).trans rfl,(aA A0.o 3).trans rfl,(aA A0.o 4).trans rfl⟩ (fun hHeld=>?_)
     clear hK K
     refine bZ (a':=?_) ?_ ?_
     rotate_left
     · show Act.put _ (some 47) _=_
       simp only [Act.put,kX,kY,kZ,aI,aK]
       rfl
     refine pv HT_ 8 (some 48) #[T,T,T,T,T,T,T,T,T,F] ?_
     refine kB (i:=9) (N:=none) #[T,T,T,T,T,T,T,T,T,T] rfl rfl (bS HT_.o (by kernel_rfl)) (by decide) (fun K hK=>?_)
     have Ju:Jt.cell? ⟨A5,4,none⟩=some (.slice By Ab.length Bz):=(aA A0.o 4).trans rfl
     have J8:=aM A0.o 4
     have Id:=A4.o
     have Ie:=An.o
     refine kC (w1:=?_) (by rfl) rfl ?_ ?_
     rotate_left
     · go_simp
       rfl
     refine hK.out _ _ ?_
     clear hK K
     refine d5 (cL HT_.o (by kernel_rfl)) ?_
     try go_wp2
     go_roundg k1
     case measure=>have:=Iz.o;omega
     case rel=>exact ⟨(Dq),(Dr),(E1),(.slice Ey E1.length Ez),H',⟨by have:=Iz.o;omega⟩,⟨by (with_reducible repeat (first|apply Kd.S_alloc|apply Kd.S_drewN|apply Kd.S_drew));exact Kd.S_mono (Kd.S_far (p:=⟨A5,4,none⟩) (Kd.S_types Dt.o A0.o (by decide)) (fun _ hk=>hk.2) (.slice Ey E1.length Ez)) (fun _ hk=>trivial)⟩,⟨by refine zr ?_;refine aN ?_ A4.o _;refine zr ?_;exact A1.o⟩,⟨by refine zr ?_;refine aV (cs:=#[.int .i64 Ad,.int .i64 Ac,.int .i64 Ag,.int .i64 Af,.slice By Ab.length Bz]) ?_ 4 _ rfl;refine zr ?_;exact A0.o⟩,⟨aD.q2 A9.o A2.o A6.o⟩,⟨kp2 HK.o Aa.o Ai.o⟩,⟨bq3 HB.o (aD.ge A9.o) Ah.o Am.o⟩⟩
 rotate_right
 rotate_right
 rotate_right
 all_goals
  simp only [k4,k5] at H
  obtain ⟨rfl,rfl,rfl,rfl,rfl,rfl,rfl⟩:=H
  go_enter Try.func18,Try.ntmps18
  go_wp2_with (first|((with_reducible refine aJ (N:=2) rfl ?_);refine bxe 2 #[.int .i64 0,.int .i64 0,.int .i64 0,.int .i64 0,.slice none 0 0] 26 ?_;intro A8 hg w_ hbox hb;have n_:=ak8 (aD.below (aD.q0 A9.o) hb) (KeepBut.trans (kp0 HK.o) (KeepBut.of_below hb g none) (.inl rfl)) (aC (bq1 HB.o (aD.ge A9.o)) hb) hbox ((by rw [hg];exact (a8 (w:=w) (g:=g) (row:=none) (kp0 HK.o)):w.heap.size≤A8)) ((Nat.le_trans E6.o (by rw [hg];exact (a8 (w:=w) (g:=g) (row:=none) (kp0 HK.o)):w.heap.size≤A8):w0.heap.size≤A8)) ((by rw [hg];exact Nat.ne_of_lt (aD.lt (show aD w0 _ g Aj B8 B9 from aD.q0 A9.o)):g≠A8)) ((by rw [hg];exact Nat.ne_of_gt (aD.lt (show aD w0 _ g Aj B8 B9 from aD.q0 A9.o)):A8≠g));clear A9 HK HB;obtain ⟨A9,HK,HB,A1,Aa,Ah,A2,Ae⟩:=n_;clear hb hbox hg)|((with_reducible refine aE (f:=25) rfl ?_);refine gc (some 5) (bH.calls k g Aj B8 B9 Ad Ac Ag Af Al Ao Ap w0 _ (aD.q1 A9.o A2.o) (bq2 HB.o (aD.ge A9.o) Ah.o) If.o) Try.func25 ?_;rintro e w_ ⟨Eh,rfl,ho_,hi,hb,hk⟩;refine ⟨_,rfl,?_⟩;have n_:=ak5 (KeepBut.blk hk (zb A1.o) Ae.o (by simp)) (Kd.S_lower ho_ (a8 (w:=w) (g:=g) (row:=none) (kp1 HK.o Aa.o))) (KeepBut.trans (kp1 HK.o Aa.o) hk (.inl rfl)) hb hi;clear A1 HK HB A9;obtain ⟨A1,A7,HK,HB,A9⟩:=n_;(try clear hb hk hi ho_))|((with_reducible refine aJ (N:=3) rfl ?_);refine bxe 3 #[.int .i64 0,.int .i64 0,.int .i64 0,.int .i64 0,.slice none 0 0] 26 ?_;intro A5 hg w_ hbox hb;have n_:=gA (Kd.S_below (kqS A7.o) hb) (aD.below (aD.q1 A9.o A2.o) hb) (kb A1 hb) (KeepBut.trans (kp1 HK.o Aa.o) (KeepBut.of_below hb g none) (.inl rfl)) (aC (bq2 HB.o (aD.ge A9.o) Ah.o) hb) hbox ((by rw [hg];exact (a8 (w:=w) (g:=g) (row:=none) (kp1 HK.o Aa.o)):w.heap.size≤A5)) ((Nat.le_trans E6.o (by rw [hg];exact (a8 (w:=w) (g:=g) (row:=none) (kp1 HK.o Aa.o)):w.heap.size≤A5):w0.heap.size≤A5)) (nL hg A1) (nG hg A1) ((by rw [hg];exact Nat.ne_of_lt (aD.lt (show aD w0 _ g Aj Ao Ap from aD.q1 A9.o A2.o)):g≠A5)) ((by rw [hg];exact Nat.ne_of_gt (aD.lt (show aD w0 _ g Aj Ao Ap from aD.q1 A9.o A2.o)):A5≠g));clear A7 A9 A1 HK HB;obtain ⟨A7,A9,A1,HK,HB,A0,Ai,Am,A4,An,A6,Ak⟩:=n_;clear hb hbox hg;have E2:=An.o;have E3:=A4.o;have G1:=Ak.o;have G2:=A6.o;obtain ⟨Aw,Ax,Ay,Az,B0,B1,B2,B3,B4,B5⟩:=cl5 A0.o;obtain ⟨Au,Av,E4⟩:=Kd.S_slice A7.o;subst E4)|((with_reducible refine aE (f:=47) rfl ?_);(first|have:=z0|have:=z1);refine gc (some 7) (a6.calls g Aj Ao Ap 12 C9 As At w0 _ (aD.q2 A9.o A2.o A6.o) (bq3 HB.o (aD.ge A9.o) Ah.o Am.o) Ig.o) Try.func47 ?_;rintro e w_ ⟨rfl,hi,hb,hk⟩;refine ⟨_,rfl,?_⟩;have n_:=ak6 (KeepBut.blk hk (g':=A8) (o:=.cells #[.int .i64 0,.int .i64 0,.int .i64 0,.int .i64 0,.slice none 0 0] 26 (0,0)) (by refine zr ?_;refine aN ?_ A4.o _;refine zr ?_;refine aN ?_ A4.o _;refine zr ?_;refine aN ?_ A4.o _;refine zr ?_;refine aN ?_ A4.o _;refine zr ?_;refine aN ?_ A4.o _;refine zr ?_;exact A1.o) Ae.o (by simp)) (Kd.S_mono (Kd.S_keep (aD.apartS (show aD w0 _ g Aj Ao Ap from aD.q2 A9.o A2.o A6.o) (by (with_reducible repeat (first|apply Kd.S_alloc|apply Kd.S_drewN|apply Kd.S_drew));exact (Kd.S_mono (Kd.S_far (p:=⟨A5,4,none⟩) (Kd.S_far (p:=⟨A5,3,none⟩) (Kd.S_far (p:=⟨A5,2,none⟩) (Kd.S_far (p:=⟨A5,1,none⟩) (Kd.S_far (p:=⟨A5,0,none⟩) (Kd.S_types A7.o A0.o (by decide)) (fun _ hk=>hk.2) (.int .i64 Ad)) (fun _ hk=>hk.2) (.int .i64 Ac)) (fun _ hk=>hk.2) (.int .i64 Ag)) (fun _ hk=>hk.2) (.int .i64 Af)) (fun _ hk=>hk.2) (.slice Au Al.length Av)) (fun _ h_=>h_.1))) (by decide)) hk (fun _ h=>h.2)) (fun _ h=>h.1)) (KeepBut.blk hk (g':=A5) (o:=.cells #[.int .i64 Ad,.int .i64 Ac,.int .i64 Ag,.int .i64 Af,.slice Au Al.length Av] 26 (0,0)) (by refine zr ?_;exact bp5 (zb A0.o)) Ak.o (by simp)) (KeepBut.trans (kp2 HK.o Aa.o Ai.o) hk (.inl rfl)) hb hi;clear A1 A7 A0 HK HB A9;obtain ⟨A1,A7,A0,HK,HB,A9⟩:=n_;(try clear hb hk hi);obtain ⟨Aw,Ax,Ay,Az,B0,B1,B2,B3,B4,B5⟩:=cl5 A0.o;have C0:=Ae.o;have C1:=A2.o;obtain ⟨Bj,Bk,Bl,Bm,Bn,Bo,Bp,Bq,Br,Bs⟩:=cl5 A1.o)|((with_reducible refine aE (f:=47) rfl ?_);have:=z0;refine gc (some 11) (a6.calls g Aj As At 256 B6 E9 Ea w0 _ (aD.q2 A9.o A2.o A6.o) (bq3 HB.o (aD.ge A9.o) Ah.o Am.o) Jc.o) Try.func47 ?_;rintro e w_ ⟨rfl,hi,hb,hk⟩;refine ⟨_,rfl,?_⟩;have n_:=ak6 (KeepBut.blk hk (zb A1.o) Ae.o (by simp)) (Kd.S_mono (Kd.S_keep (aD.apartS (show aD w0 _ g Aj As At from aD.q2 A9.o A2.o A6.o) (kqS A7.o) (by decide)) hk (fun _ h=>h.2)) (fun _ h=>h.1)) (KeepBut.blk hk (zb A0.o) Ak.o (by simp)) (KeepBut.trans (kp2 HK.o Aa.o Ai.o) hk (.inl rfl)) hb hi;clear A1 A7 A0 HK HB A9;obtain ⟨A1,A7,A0,HK,HB,A9⟩:=n_;(try clear hb hk hi);obtain ⟨Aw,Ax,Ay,Az,B0,B1,B2,B3,B4,B5⟩:=cl5 A0.o;have C0:=Ae.o;have C1:=A2.o;obtain ⟨Bj,Bk,Bl,Bm,Bn,Bo,Bp,Bq,Br,Bs⟩:=cl5 A1.o)|((with_reducible refine aJ (N:=16) rfl ?_);refine Kd.R_lit (Kd.int .i64) _ 3 ?hg (N:=16) ?hd (xs:=([(-1),1,1000,1001]:List Int)) (inner:=[.int .i64 (-1),.int .i64 1,.int .i64 1000,.int .i64 1001]) (ok:=fun _=>True) (okp:=fun _=>True) ?hr ?hp (fun _ hk=>hk) trivial (Below.refl _ _) (k7 _) (by simp) ?_;(case hd=>rfl);(case hg=>rfl);(case hr=>exact gs);(case hp=>exact (bD.one (ri (-1)) (bD.one (ri 1) (bD.one (ri 1000) (bD.one (ri 1001) (bD.none _ _))))));intro Jv w_ ho_ hb hg_ hnew_;clear hg_ hnew_;(first|rw [← Dj.o] at ho_|(simp only [Int.reduceToNat] at ho_;rw [← Dj.o] at ho_));have n_:=ak7 (Kd.S_elder' (kqS A7.o) (Kd.R_base ho_) hb) (Kd.R_lower ho_ (a8 (w:=w) (g:=g) (row:=none) (kp2 HK.o Aa.o Ai.o))) (aD.below (aD.q2 A9.o A2.o A6.o) hb) (kb A1 hb) (kb A0 hb) (KeepBut.trans (kp2 HK.o Aa.o Ai.o) (KeepBut.of_below hb g none) (.inl rfl)) (aC (bq3 HB.o (aD.ge A9.o) Ah.o Am.o) hb);clear A7 A9 A1 A0 HK HB;obtain ⟨A7,Ba,A9,A1,A0,HK,HB⟩:=n_;clear hb ho_;obtain ⟨Il,Im,E5⟩:=Kd.R_slice Ba.o;subst E5)|((with_reducible refine aE (f:=48) rfl ?_);refine gc (some 17) (cY.calls g Aj As At _ _ Ih Bd Eb Ec w0 _ (aD.q2 A9.o A2.o A6.o) (bq3 HB.o (aD.ge A9.o) Ah.o Am.o) (cq (Kd.R_reads' Ba.o).2.2) ((Kd.R_reads' Ba.o).2.1) (e5 (aD.own_ne A9.o Ba.o (by decide))) Je.o) Try.func48 ?_;rintro e w_ ⟨rfl,hi,hb,hk⟩;refine ⟨_,rfl,?_⟩;have n_:=ak7 (KeepBut.blk hk (zb A1.o) Ae.o (by simp)) (Kd.S_mono (Kd.S_keep (aD.apartS (show aD w0 _ g Aj As At from aD.q2 A9.o A2.o A6.o) (kqS A7.o) (by decide)) hk (fun _ h=>h.2)) (fun _ h=>h.1)) (KeepBut.blk hk (zb A0.o) Ak.o (by simp)) (Kd.R_mono (Kd.R_keep (aD.apart (show aD w0 _ g Aj As At from aD.q2 A9.o A2.o A6.o) (kqR Ba.o) (by decide)) hk (fun _ h=>h.2)) (fun _ h=>h.1)) (KeepBut.trans (kp2 HK.o Aa.o Ai.o) hk (.inl rfl)) hb hi;clear A1 A7 A0 Ba HK HB A9;obtain ⟨A1,A7,A0,Ba,HK,HB,A9⟩:=n_;(try clear hb hk hi);obtain ⟨Aw,Ax,Ay,Az,B0,B1,B2,B3,B4,B5⟩:=cl5 A0.o;have C0:=Ae.o;have C1:=A2.o;obtain ⟨Bj,Bk,Bl,Bm,Bn,Bo,Bp,Bq,Br,Bs⟩:=cl5 A1.o))
  first
  | refine bodyPost_ret (results_cell_row rfl _ _ A8 26 #[.int .i64 B6,.int .i64 Ac,.int .i64 Ag,.int .i64 Af,.slice Au Al.length Av] (0,0) _ rfl (by refine zr ?_;refine aV (cs:=#[.int .i64 B6,.int .i64 Ac,.int .i64 Ag,.int .i64 Af,.slice none 0 0]) ?_ 4 _ rfl;refine zr ?_;refine aV (cs:=#[.int .i64 B6,.int .i64 Ac,.int .i64 Ag,.int .i64 0,.slice none 0 0]) ?_ 3 _ rfl;refine zr ?_;refine aV (cs:=#[.int .i64 B6,.int .i64 Ac,.int .i64 0,.int .i64 0,.slice none 0 0]) ?_ 2 _ rfl;refine zr ?_;refine aV (cs:=#[.int .i64 B6,.int .i64 0,.int .i64 0,.int .i64 0,.slice none 0 0]) ?_ 1 _ rfl;refine zr ?_;refine aV (cs:=#[.int .i64 0,.int .i64 0,.int .i64 0,.int .i64 0,.slice none 0 0]) ?_ 0 _ rfl;refine zr ?_;refine aN ?_ A4.o _;refine zr ?_;exact A1.o) Try.underlying26 rfl (by kernel_rfl)) rfl ?_
    exact ⟨_,rq,by (with_reducible repeat (first|apply Kd.S_alloc|apply Kd.S_drewN|apply Kd.S_drew));exact Kd.S_mono (Kd.S_far (p:=⟨A8,4,none⟩) (Kd.S_far (p:=⟨A8,3,none⟩) (Kd.S_far (p:=⟨A8,2,none⟩) (Kd.S_far (p:=⟨A8,1,none⟩) (Kd.S_far (p:=⟨A8,0,none⟩) (Kd.S_far (p:=⟨A5,0,none⟩) (Kd.S_types (Kd.S_types A7.o A0.o (by decide)) A1.o (by decide)) (fun _ hk=>hk.1.2) (.int .i64 B6)) (fun _ hk=>hk.2) (.int .i64 B6)) (fun _ hk=>hk.2) (.int .i64 Ac)) (fun _ hk=>hk.2) (.int .i64 Ag)) (fun _ hk=>hk.2) (.int .i64 Af)) (fun _ hk=>hk.2) (.slice Au Al.length Av)) (fun _ hk=>trivial),aD.q2 A9.o A2.o A6.o,bq3 HB.o (aD.ge A9.o) Ah.o Am.o,kp2 HK.o Aa.o Ai.o⟩
  | refine bodyPost_ret (results_cell_row rfl _ _ A8 26 #[.int .i64 Ad,.int .i64 Ac,.int .i64 Bd,.int .i64 Af,.slice Au Al.length Av] (0,0) _ rfl (by refine zr ?_;refine aV (cs:=#[.int .i64 Ad,.int .i64 Ac,.int .i64 Bd,.int .i64 Af,.slice none 0 0]) ?_ 4 _ rfl;refine zr ?_;refine aV (cs:=#[.int .i64 Ad,.int .i64 Ac,.int .i64 Bd,.int .i64 0,.slice none 0 0]) ?_ 3 _ rfl;refine zr ?_;refine aV (cs:=#[.int .i64 Ad,.int .i64 Ac,.int .i64 0,.int .i64 0,.slice none 0 0]) ?_ 2 _ rfl;refine zr ?_;refine aV (cs:=#[.int .i64 Ad,.int .i64 0,.int .i64 0,.int .i64 0,.slice none 0 0]) ?_ 1 _ rfl;refine zr ?_;refine aV (cs:=#[.int .i64 0,.int .i64 0,.int .i64 0,.int .i64 0,.slice none 0 0]) ?_ 0 _ rfl;refine zr ?_;refine aN ?_ A4.o _;refine zr ?_;exact A1.o) Try.underlying26 rfl (by kernel_rfl)) rfl ?_
    exact ⟨_,rq,by (with_reducible repeat (first|apply Kd.S_alloc|apply Kd.S_drewN|apply Kd.S_drew));exact Kd.S_mono (Kd.S_far (p:=⟨A8,4,none⟩) (Kd.S_far (p:=⟨A8,3,none⟩) (Kd.S_far (p:=⟨A8,2,none⟩) (Kd.S_far (p:=⟨A8,1,none⟩) (Kd.S_far (p:=⟨A8,0,none⟩) (Kd.S_far (p:=⟨A5,2,none⟩) (Kd.S_types (Kd.S_types A7.o A0.o (by decide)) A1.o (by decide)) (fun _ hk=>hk.1.2) (.int .i64 Bd)) (fun _ hk=>hk.2) (.int .i64 Ad)) (fun _ hk=>hk.2) (.int .i64 Ac)) (fun _ hk=>hk.2) (.int .i64 Bd)) (fun _ hk=>hk.2) (.int .i64 Af)) (fun _ hk=>hk.2) (.slice Au Al.length Av)) (fun _ hk=>trivial),aD.q2 A9.o A2.o A6.o,bq3 HB.o (aD.ge A9.o) Ah.o Am.o,kp2 HK.o Aa.o Ai.o⟩
  | refine bodyPost_ret (results_cell_row rfl _ _ A8 26 #[.int .i64 Ad,.int .i64 Ac,.int .i64 Ag,.int .i64 Af,.slice Au Al.length Av] (0,0) _ rfl (by refine zr ?_;exact bp5 (zb A1.o)) Try.underlying26 rfl (by kernel_rfl)) rfl ?_
    exact ⟨_,rq,by (with_reducible repeat (first|apply Kd.S_alloc|apply Kd.S_drewN|apply Kd.S_drew));exact Kd.S_mono (Kd.S_far (p:=⟨A8,4,none⟩) (Kd.S_far (p:=⟨A8,3,none⟩) (Kd.S_far (p:=⟨A8,2,none⟩) (Kd.S_far (p:=⟨A8,1,none⟩) (Kd.S_far (p:=⟨A8,0,none⟩) (Kd.S_types A7.o A1.o (by decide)) (fun _ hk=>hk.2) (.int .i64 Ad)) (fun _ hk=>hk.2) (.int .i64 Ac)) (fun _ hk=>hk.2) (.int .i64 Ag)) (fun _ hk=>hk.2) (.int .i64 Af)) (fun _ hk=>hk.2) (.slice Au Al.length Av)) (fun _ hk=>trivial),aD.q2 A9.o A2.o A6.o,bq3 HB.o (aD.ge A9.o) Ah.o Am.o,kp2 HK.o Aa.o Ai.o⟩
end Go.Proofs.Ytgppikopdpeigaa.XFnPdus
