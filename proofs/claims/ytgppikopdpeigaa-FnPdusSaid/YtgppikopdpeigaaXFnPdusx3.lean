/- The functions that one law reaches, as Lean functions, with their walks: printed by a program of this seat (wip/tools) out of the translation. -/
import Derived.Test.YtgppikopdpeigaaXFnPdusx0
import Derived.Test.YtgppikopdpeigaaXFnPdusx1
namespace Go.Proofs.Ytgppikopdpeigaa.XFnPdus
open Go.RowKit Go.Proofs.YtgppikopdpeigaaW.PrintWords Go.Proofs.YtgppikopdpeigaaW.PrintLast Go.Proofs.YtgppikopdpeigaaW.PrintMore
attribute [local go_sem] cO cP dH dI cC cD cQ cR
set_option linter.unusedVariables false
set_option linter.unusedSimpArgs false
set_option maxHeartbeats 8000000
set_option maxRecDepth 100000
def eG.l0:Nat→List Int→List Int→Int→Int→Option (List Int × Int × Int)
 |0,_,_,_,_=>none
 |k+1,x3,A1,A2,A3=>(a6.f A1 A2 A3 2).bind fun A0=>(if (x3.length:Int)<(wrap64 (10+A0.1)) then (if x3.length<17592186044416 then (eG.l0 k (x3++[1]) A1 A0.2.1 A0.2.2) else (none)) else (some (x3,A0.2.1,A0.2.2)))
def eG.f (k:Nat) (A3:List Int) (A4:Int) (A5:Int):Option (List Int × Int × Int):=(cM.f k A3 A4 A5).bind fun A1=>((a6.f A3 A1.2.1 A1.2.2 10).bind fun A0=>(if A0.1=0 then (some ((([]:List Int)),A0.2.1,A0.2.2)) else (if A0.1=1 then ((cY.f A3 A0.2.1 A0.2.2 (([(-1),100001]:List Int))).bind fun A2=>(if 0<(A1.1.length:Int) then (some ((A1.1.set (0:Int).toNat A2.1),A2.2.1,A2.2.2)) else (none))) else (if A0.1=2 then (eG.l0 k A1.1 A3 A0.2.1 A0.2.2) else (some (A1.1,A0.2.1,A0.2.2))))))
theorem eG.calls (k:Nat) (g:Nat) (A2:List Int) (Ag:Int) (Ah:Int) (r1:List Int) (r2:Int) (r3:Int) (w0 w:World) (hI:aD w0 w g A2 Ag Ah) (hB:Below w0.heap.size w0 w) (h:eG.f k A2 Ag Ah=some (r1,r2,r3)):
 Calls Try.prog 49 #[.pointer (some ⟨g,0,none⟩)] w fun e w'=>∃C1:Value,e=.returned (C1)∧Kd.R (Kd.int .i64) 3 w' w.heap.size (fun _=>True) C1 r1∧aD w0 w' g A2 r2 r3∧Below w0.heap.size w0 w'∧KeepBut w w' g none:=by
 have A1:=am hI
 have HK:=am (KeepBut.refl w g none)
 have HL:=am hB.size
 clear hI
 have Cj:=am hB.size
 have HB:=am hB
 clear hB
 have H:=h
 clear h
 unfold eG.f at H
 replace H:=be H
 obtain ⟨⟨A5,A7,A8⟩,Bo,H⟩:=H
 try dsimp only at H
 replace H:=be H
 obtain ⟨⟨Ai,Aa,Ab⟩,Bp,H⟩:=H
 try dsimp only at H
 replace H:=iq H
 rcases H with ⟨-,B0,B1,H⟩|⟨c4,B0,B1,H⟩
 generalize Al:((([]:List Int)):List Int)=C7 at H
 have Am:=am Al.symm
 clear Al
 rotate_left
 replace H:=iq H
 rcases H with ⟨-,B2,B3,H⟩|⟨c9,B2,B3,H⟩
 · generalize An:((([(-1),100001]:List Int)):List Int)=Av at H
   have Ao:=am An.symm
   clear An
   replace H:=be H
   obtain ⟨⟨Ad,B4,B5⟩,C8,H⟩:=H
   try dsimp only at H
   replace H:=nl H
   obtain ⟨C2,B6,H⟩:=H
   have B7:decide (0<A5.length)=true:=k8 (by omega)
   clear C2
   generalize Ap:((A5.set (0:Int).toNat Ad):List Int)=Bq at H
   have B8:=am Ap.symm
   clear Ap
   simp only [k4,k5] at H
   obtain ⟨rfl,rfl,rfl⟩:=H
   go_enter Try.func49,Try.ntmps49
   go_wp2_with (first|((with_reducible refine aE (f:=51) rfl ?_);refine gc (some 5) (cM.calls k g A2 Ag Ah A5 A7 A8 w0 _ (aD.q0 A1.o) (bq1 HB.o (aD.ge A1.o)) Bo.o) Try.func51 ?_;rintro e Ck ⟨B9,rfl,Ba,hi,hb,hk⟩;refine ⟨_,rfl,?_⟩;have n_:=ak4 (Kd.R_lower Ba (a8 (w:=w) (g:=g) (row:=none) (kp0 HK.o))) (KeepBut.trans (kp0 HK.o) hk (.inl rfl)) hb hi;clear HK HB A1;obtain ⟨A0,HK,HB,A1⟩:=n_;(try clear hb hk hi Ba))|((with_reducible refine aE (f:=47) rfl ?_);refine gc (some 7) (a6.calls g A2 A7 A8 10 Ai Aa Ab w0 _ (aD.q0 A1.o) (bq1 HB.o (aD.ge A1.o)) Bp.o) Try.func47 ?_;rintro e Cl ⟨rfl,hi,hb,hk⟩;refine ⟨_,rfl,?_⟩;have n_:=ak4 (Kd.R_mono (Kd.R_keep (aD.apart (show aD w0 _ g A2 A7 A8 from aD.q0 A1.o) (kqR A0.o) (by decide)) hk (fun _ h=>h.2)) (fun _ h=>h.1)) (KeepBut.trans (kp0 HK.o) hk (.inl rfl)) hb hi;clear A0 HK HB A1;obtain ⟨A0,HK,HB,A1⟩:=n_;(try clear hb hk hi))|((with_reducible refine aJ (N:=15) rfl ?_);refine Kd.R_lit (Kd.int .i64) _ 3 ?hg (N:=15) ?hd (xs:=([(-1),100001]:List Int)) (inner:=[.int .i64 (-1),.int .i64 100001]) (ok:=fun _=>True) (okp:=fun _=>True) ?hr ?hp (fun _ hk=>hk) trivial (Below.refl _ _) (k7 _) (by simp) ?_;(case hd=>rfl);(case hg=>rfl);(case hr=>exact gs);(case hp=>exact (bD.one (ri (-1)) (bD.one (ri 100001) (bD.none _ _))));intro C9 Cm Ae hb hg_ hnew_;clear hg_ hnew_;(first|rw [← Ao.o] at Ae|(simp only [Int.reduceToNat] at Ae;rw [← Ao.o] at Ae));have n_:=ak5 (re_ A0 Ae hb) (Kd.R_lower (Kd.R_new' Ae (Kd.R_lt (kqR A0.o))) (a8 (w:=w) (g:=g) (row:=none) (kp0 HK.o))) (aD.below (aD.q0 A1.o) hb) (KeepBut.trans (kp0 HK.o) (KeepBut.of_below hb g none) (.inl rfl)) (aC (bq1 HB.o (aD.ge A1.o)) hb);clear A0 A1 HK HB;obtain ⟨A0,A6,A1,HK,HB⟩:=n_;clear hb Ae;obtain ⟨Bb,Bc,Br⟩:=Kd.R_slice A6.o;subst Br)|((with_reducible refine aE (f:=48) rfl ?_);refine gc (some 16) (cY.calls g A2 Aa Ab _ _ Av Ad B4 B5 w0 _ (aD.q0 A1.o) (bq1 HB.o (aD.ge A1.o)) (cq (Kd.R_reads' A6.o).2.2) ((Kd.R_reads' A6.o).2.1) (e5 (aD.own_ne A1.o A6.o (by decide))) C8.o) Try.func48 ?_;rintro e C3 ⟨rfl,hi,hb,hk⟩;refine ⟨_,rfl,?_⟩;have n_:=ak5 (Kd.R_mono (Kd.R_keep (aD.apart (show aD w0 _ g A2 Aa Ab from aD.q0 A1.o) (kqR A0.o) (by decide)) hk (fun _ h=>h.2)) (fun _ h=>h.1)) (Kd.R_mono (Kd.R_keep (aD.apart (show aD w0 _ g A2 Aa Ab from aD.q0 A1.o) (kqR A6.o) (by decide)) hk (fun _ h=>h.2)) (fun _ h=>h.1)) (KeepBut.trans (kp0 HK.o) hk (.inl rfl)) hb hi;clear A0 A6 HK HB A1;obtain ⟨A0,A6,HK,HB,A1⟩:=n_;(try clear hb hk hi);have Bd:0≤(0:Int):=(by omega);have Be:(0:Int)<((A5.length:Int):Int):=oda;have Bs:(0<A5.length)=True:=eq_true (by omega);obtain ⟨Aj,Aw,Bf,Bg,Bt,Ca,Bh⟩:=Kd.R_form A0.o (by omega);(first|cases Bf|(injection Bf with ea_ en_ ec_;(first|subst ea_|(injection ea_ with ea_;subst ea_));subst ec_;clear en_));have Bu:=am Bg;have Cb:=am Bh;clear Bg Bt Bh;obtain ⟨Ac,Ak⟩:=Kd.R_celln 0 A0.o (0:Int) Bd Be;(try rw [show ((0:Int)).toNat=0 from rfl] at Ac);(try simp only [Nat.reduceMul,Nat.zero_mul,Nat.zero_add,Nat.reduceAdd] at Ac);(try rw [show ((0:Int)).toNat=0 from rfl] at Ak);(try simp only [Nat.reduceMul,Nat.zero_mul,Nat.zero_add,Nat.reduceAdd] at Ak);replace Bd:=eq_true Bd;replace Be:=eq_true Be;have n_:=am (Kd.R_mono (ok':=(fun k_=>some k_≠(.slice Bb Av.length Bc:Value).ownBlock)) A0.o (fun k_ hk=>hk.2));clear A0;have A0:=n_;clear n_;obtain ⟨Aq,Ar⟩:=Kd.R_celln 0 A0.o (0:Int) (by omega) (oda);(try simp only [Int.reduceToNat,Int.toNat_zero,Int.toNat_ofNat,Nat.reduceMul,Nat.zero_mul,Nat.zero_add] at Aq Ar);(try rw [show ((0:Int)).toNat=0 from rfl] at Aq);(try rw [show ((0:Int)).toNat=0 from rfl] at Ar);have Ax:=Kd.R_putg A0.o (0:Int) Ad)|((with_reducible refine aQ (t:=3) (p:=17) rfl ?_);refine se 3 17 (C3.setCell ⟨Aj,(0:Int).toNat,none⟩ (.int .i64 Ad)) ?_;intro Bv hw;have hg:C3.grownBy Bv (some Aj):=(by rw [hw];exact Ax.2);have hp_:Kd.R (Kd.int .i64) 3 Bv w.heap.size (fun k_=>some k_≠(.slice Bb Av.length Bc:Value).ownBlock) (.slice (some ⟨Aj,0,none⟩) A5.length Aw) Bq:=(by rw [hw,B8.o];exact Ax.1);clear Ax;have n_:=ak5 (aD.grown (aD.q0 A1.o) hg (aD.own_ne A1.o A0.o (by decide))) hp_ (Kd.R_after (v:=(.slice (some ⟨Aj,0,none⟩) A5.length Aw)) (v1:=(.slice (some ⟨Aj,0,none⟩) A5.length Aw)) (ok:=(fun _=>True)) (kqR A6.o) hg (.inl rfl)) ((by rw [hw];exact dZ (HB.o) (Nat.le_trans HL.o Bu.o):Below w0.heap.size w0 Bv)) (KeepBut.trans (kp0 HK.o) (KeepBut.of_grown hg g) (Kd.R_base2 A0.o));clear A1 A0 A6 HB HK;obtain ⟨A1,A0,A6,HB,HK⟩:=n_;clear hg hw hp_))
   go_ret
   exact ⟨_,rq,by refine kr ?_;exact Kd.R_mono A0.o (fun _ hk=>trivial),aD.q0 A1.o,bq1 HB.o (aD.ge A1.o),kp0 HK.o⟩
 replace H:=iq' H
 rcases H with ⟨Cc,As,At,H⟩|⟨-,As,At,H⟩
 rotate_left
 · have H':=am H
   clear H
   go_enter Try.func49,Try.ntmps49
   go_wp2_with (first|((with_reducible refine aE (f:=51) rfl ?_);refine gc (some 5) (cM.calls k g A2 Ag Ah A5 A7 A8 w0 _ (aD.q0 A1.o) (bq1 HB.o (aD.ge A1.o)) Bo.o) Try.func51 ?_;rintro e Cn ⟨B9,rfl,Ba,hi,hb,hk⟩;refine ⟨_,rfl,?_⟩;have n_:=ak4 (Kd.R_lower Ba (a8 (w:=w) (g:=g) (row:=none) (kp0 HK.o))) (KeepBut.trans (kp0 HK.o) hk (.inl rfl)) hb hi;clear HK HB A1;obtain ⟨A0,HK,HB,A1⟩:=n_;(try clear hb hk hi Ba))|((with_reducible refine aE (f:=47) rfl ?_);refine gc (some 7) (a6.calls g A2 A7 A8 10 Ai Aa Ab w0 _ (aD.q0 A1.o) (bq1 HB.o (aD.ge A1.o)) Bp.o) Try.func47 ?_;rintro e Co ⟨rfl,hi,hb,hk⟩;refine ⟨_,rfl,?_⟩;have n_:=ak4 (Kd.R_mono (Kd.R_keep (aD.apart (show aD w0 _ g A2 A7 A8 from aD.q0 A1.o) (kqR A0.o) (by decide)) hk (fun _ h=>h.2)) (fun _ h=>h.1)) (KeepBut.trans (kp0 HK.o) hk (.inl rfl)) hb hi;clear A0 HK HB A1;obtain ⟨A0,HK,HB,A1⟩:=n_;(try clear hb hk hi)))
   go_loopg [3] k (fun kq v3 w'=>∃(Af:List Int) (A3:Int) (A4:Int),Aside0 (eG.l0 kq Af A2 A3 A4=some (r1,r2,r3))∧Aside0 (kq≤k)∧Aside0 (Kd.R (Kd.int .i64) 3 w' w.heap.size (fun _=>True) v3 Af)∧Aside0 (aD w0 w' g A2 A3 A4)∧Aside0 (KeepBut w w' g none)∧Aside0 (Below w0.heap.size w0 w'))
   case atStart=>exact ⟨(A5),(Aa),(Ab),H',⟨k7 _⟩,⟨kqR A0.o⟩,⟨aD.q0 A1.o⟩,⟨kp0 HK.o⟩,⟨bq1 HB.o (aD.ge A1.o)⟩⟩
   case round=>
    clear H'
    try clear c1
    try clear p1
    try clear q1
    try clear Cp
    try clear Cq
    try clear Cr
    try clear c2
    try clear p2
    try clear c4
    try clear B0
    try clear B1
    try clear c5
    try clear c9
    try clear B2
    try clear B3
    try clear C2
    try clear B6
    try clear B7
    try clear Bd
    try clear Be
    try clear Cd
    try clear Bs
    try clear Ce
    try clear Cc
    try clear As
    try clear At
    try clear Ac
    try clear Bd
    try clear Be
    obtain ⟨Af,A3,A4,HA,C4,A9,A1,HK,HB⟩:=hrel
    cases gk with
    |zero=>exact absurd HA.o (by simp [eG.l0])
    |succ k1=>
     have H:=HA.o
     clear HA
     simp only [eG.l0] at H
     replace H:=be H
     obtain ⟨⟨Bi,Ay,Az⟩,C5,H⟩:=H
     try dsimp only at H
     replace H:=il' H
     rcases H with ⟨-,Bj,H⟩|⟨-,Bj,H⟩
     · simp only [k4,k5] at H
       obtain ⟨rfl,rfl,rfl⟩:=H
       obtain ⟨Cf,Cg,Bw⟩:=Kd.R_slice A9.o
       subst Bw
       go_wp2_with (first|((with_reducible refine aE (f:=47) rfl ?_);refine gc (some 23) (a6.calls g A2 A3 A4 2 Bi Ay Az w0 _ (aD.q0 A1.o) (bq1 HB.o (aD.ge A1.o)) C5.o) Try.func47 ?_;rintro e Cs ⟨rfl,hi,hb,hk⟩;refine ⟨_,rfl,?_⟩;have n_:=ak4 (Kd.R_mono (Kd.R_keep (aD.apart (show aD w0 _ g A2 A3 A4 from aD.q0 A1.o) (kqR A9.o) (by decide)) hk (fun _ h=>h.2)) (fun _ h=>h.1)) (KeepBut.trans (kp0 HK.o) hk (.inl rfl)) hb hi;clear A9 HK HB A1;obtain ⟨A9,HK,HB,A1⟩:=n_;(try clear hb hk hi)))
       go_ret
       exact ⟨_,rq,kqR A9.o,aD.q0 A1.o,bq1 HB.o (aD.ge A1.o),kp0 HK.o⟩
     replace H:=nq H
     obtain ⟨C6,H⟩:=H
     have Bk:=am C6
     clear C6
     generalize Au:((Af++[1]):List Int)=Bx at H
     have Bl:=am Au.symm
     clear Au
     have H':=am H
     clear H
     obtain ⟨By,Bz,C0⟩:=Kd.R_slice A9.o
     subst C0
     go_wp2_with (first|((with_reducible refine aE (f:=47) rfl ?_);refine gc (some 23) (a6.calls g A2 A3 A4 2 Bi Ay Az w0 _ (aD.q0 A1.o) (bq1 HB.o (aD.ge A1.o)) C5.o) Try.func47 ?_;rintro e Ct ⟨rfl,hi,hb,hk⟩;refine ⟨_,rfl,?_⟩;have n_:=ak4 (Kd.R_mono (Kd.R_keep (aD.apart (show aD w0 _ g A2 A3 A4 from aD.q0 A1.o) (kqR A9.o) (by decide)) hk (fun _ h=>h.2)) (fun _ h=>h.1)) (KeepBut.trans (kp0 HK.o) hk (.inl rfl)) hb hi;clear A9 HK HB A1;obtain ⟨A9,HK,HB,A1⟩:=n_;(try clear hb hk hi))|((with_reducible refine bM (b:=.append) (xs:=#[.tmp 26,.tmp 27]) rfl ?_);at_builtin;refine Kd.R_append (Kd.int .i64) w.heap.size rfl (.tmp 26) (.tmp 27) 41 3 (.int .i64 0) 8 rfl Try.underlying41 jM rfl (by decide) (by omega) (.slice By Af.length Bz) Af 1 [.int .i64 1] (fun _=>True) (fun _=>False) rfl rfl ?aP (fun _ hk=>hk.elim) ?aF ?aO (Below.refl _ _) ?aS ?aL ?_;(case aP=>exact rfl);(case aF=>exact (fun _ _=>trivial));(case aO=>exact (kqR A9.o));(case aS=>exact (a8 (w:=w) (g:=g) (row:=none) (kp0 HK.o)));(case aL=>have:=Bk.o;omega);intro Ch Cu ho hb hg hat;rw [← Bl.o] at ho;have n_:=ak4 (aD.grown (aD.q0 A1.o) hg (aD.own_ne A1.o A9.o (by decide))) (fE (bq1 HB.o (aD.ge A1.o)) HL.o hb) (KeepBut.trans (kp0 HK.o) (KeepBut.of_grown hg g) (Kd.R_base2 A9.o)) ho;clear A1 HB HK A9;obtain ⟨A1,HB,HK,Bm⟩:=n_;clear ho hb hg hat))
     go_roundg k1
     case measure=>have:=C4.o;omega
     case rel=>exact ⟨(Bx),(Ay),(Az),H',⟨by have:=C4.o;omega⟩,⟨kqR Bm.o⟩,⟨aD.q0 A1.o⟩,⟨kp0 HK.o⟩,⟨bq1 HB.o (aD.ge A1.o)⟩⟩
 rotate_right
 rotate_right
 all_goals
  simp only [k4,k5] at H
  obtain ⟨rfl,rfl,rfl⟩:=H
  go_enter Try.func49,Try.ntmps49
  go_wp2_with (first|((with_reducible refine aE (f:=51) rfl ?_);refine gc (some 5) (cM.calls k g A2 Ag Ah A5 A7 A8 w0 _ (aD.q0 A1.o) (bq1 HB.o (aD.ge A1.o)) Bo.o) Try.func51 ?_;rintro e w_ ⟨B9,rfl,ho_,hi,hb,hk⟩;refine ⟨_,rfl,?_⟩;have n_:=ak4 (Kd.R_lower ho_ (a8 (w:=w) (g:=g) (row:=none) (kp0 HK.o))) (KeepBut.trans (kp0 HK.o) hk (.inl rfl)) hb hi;clear HK HB A1;obtain ⟨A0,HK,HB,A1⟩:=n_;(try clear hb hk hi ho_))|((with_reducible refine aE (f:=47) rfl ?_);refine gc (some 7) (a6.calls g A2 A7 A8 10 Ai Aa Ab w0 _ (aD.q0 A1.o) (bq1 HB.o (aD.ge A1.o)) Bp.o) Try.func47 ?_;rintro e w_ ⟨rfl,hi,hb,hk⟩;refine ⟨_,rfl,?_⟩;have n_:=ak4 (Kd.R_mono (Kd.R_keep (aD.apart (show aD w0 _ g A2 A7 A8 from aD.q0 A1.o) (kqR A0.o) (by decide)) hk (fun _ h=>h.2)) (fun _ h=>h.1)) (KeepBut.trans (kp0 HK.o) hk (.inl rfl)) hb hi;clear A0 HK HB A1;obtain ⟨A0,HK,HB,A1⟩:=n_;(try clear hb hk hi))|((with_reducible refine aJ (N:=10) rfl ?_);refine Kd.R_lit (Kd.int .i64) _ 3 ?hg (N:=10) ?hd (xs:=([]:List Int)) (inner:=[]) (ok:=fun _=>True) (okp:=fun _=>True) ?hr ?hp (fun _ hk=>hk) trivial (Below.refl _ _) (k7 _) (by simp) ?_;(case hd=>rfl);(case hg=>rfl);(case hr=>exact gs);(case hp=>exact (bD.none _ _));intro Ci w_ ho_ hb hg_ hnew_;clear hg_ hnew_;(first|rw [← Am.o] at ho_|(simp only [Int.reduceToNat] at ho_;rw [← Am.o] at ho_));have n_:=ak5 (re_ A0 ho_ hb) (Kd.R_lower (Kd.R_new' ho_ (Kd.R_lt (kqR A0.o))) (a8 (w:=w) (g:=g) (row:=none) (kp0 HK.o))) (aD.below (aD.q0 A1.o) hb) (KeepBut.trans (kp0 HK.o) (KeepBut.of_below hb g none) (.inl rfl)) (aC (bq1 HB.o (aD.ge A1.o)) hb);clear A0 A1 HK HB;obtain ⟨A0,Bn,A1,HK,HB⟩:=n_;clear hb ho_))
  first
  | go_ret
    exact ⟨_,rq,by refine kr ?_;exact Kd.R_mono Bn.o (fun _ hk=>trivial),aD.q0 A1.o,bq1 HB.o (aD.ge A1.o),kp0 HK.o⟩
  | go_ret
    exact ⟨_,rq,kqR A0.o,aD.q0 A1.o,bq1 HB.o (aD.ge A1.o),kp0 HK.o⟩
def fS.f (k:Nat) (A3:List Int) (A7:Int) (A8:Int):Option (Int × Int × ByteArray × List Int × Int × Int):=(d6.f k A3 A7 A8).bind fun A0=>((a6.f A3 A0.2.2.2.2.1 A0.2.2.2.2.2 12).bind fun A1=>(if A1.1=0 then ((cY.f A3 A1.2.1 A1.2.2 (([0,1,2,4,5,6,128,129,130]:List Int))).bind fun A4=>(some (A4.1,A0.2.1,A0.2.2.1,A0.2.2.2.1,A4.2.1,A4.2.2))) else (if A1.1=1 then ((eP.f A3 A1.2.1 A1.2.2).bind fun A5=>(some (A0.1,A5.1,A0.2.2.1,A0.2.2.2.1,A5.2.1,A5.2.2))) else (if A1.1=2 then ((a6.f A3 A1.2.1 A1.2.2 2).bind fun A2=>(if 0≤(wrap64 (20+A2.1)) then (if (wrap64 (20+A2.1):Int).toNat≤281474976710656 then (some (A0.1,A0.2.1,strOfNums (List.replicate (wrap64 (20+A2.1):Int).toNat 0),A0.2.2.2.1,A2.2.1,A2.2.2)) else (none)) else (none))) else (if A1.1=3 then ((eG.f k A3 A1.2.1 A1.2.2).bind fun A6=>(some (A0.1,A0.2.1,A0.2.2.1,A6.1,A6.2.1,A6.2.2))) else (some (A0.1,A0.2.1,A0.2.2.1,A0.2.2.2.1,A1.2.1,A1.2.2)))))))
theorem fS.calls (k:Nat) (g:Nat) (Ap:List Int) (Bh:Int) (Bi:Int) (r1:Int) (r2:Int) (r3:ByteArray) (r4:List Int) (r5:Int) (r6:Int) (w0 w:World) (hI:aD w0 w g Ap Bh Bi) (hB:Below w0.heap.size w0 w) (h:fS.f k Ap Bh Bi=some (r1,r2,r3,r4,r5,r6)):
 Calls Try.prog 50 #[.pointer (some ⟨g,0,none⟩)] w fun e w'=>∃Cm:Value,e=.returned (.agg #[.int .i64 r1,.int .i64 r2,.string r3,Cm])∧Kd.R (Kd.int .i64) 3 w' w.heap.size (fun _=>True) Cm r4∧aD w0 w' g Ap r5 r6∧Below w0.heap.size w0 w'∧KeepBut w w' g none:=by
 have Cv:=Try.underlying43
 have A8:=am hI
 have HK:=am (KeepBut.refl w g none)
 have HL:=am hB.size
 clear hI
 have Cn:=am hB.size
 have HB:=am hB
 clear hB
 have H:=h
 clear h
 unfold fS.f at H
 replace H:=be H
 obtain ⟨⟨A6,Aa,Ad,Ar,Ba,Bb⟩,Co,H⟩:=H
 try dsimp only at H
 replace H:=be H
 obtain ⟨⟨Bv,B2,B3⟩,Cp,H⟩:=H
 try dsimp only at H
 replace H:=iq H
 rcases H with ⟨-,Ce,Cf,H⟩|⟨c4,Ce,Cf,H⟩
 generalize Bl:((([0,1,2,4,5,6,128,129,130]:List Int)):List Int)=Cg at H
 have Bm:=am Bl.symm
 clear Bl
 replace H:=be H
 obtain ⟨⟨B6,Bw,Bx⟩,Cw,H⟩:=H
 try dsimp only at H
 have z0:=trivial
 rotate_left
 replace H:=iq H
 rcases H with ⟨-,By,Bz,H⟩|⟨D3,By,Bz,H⟩
 replace H:=be H
 obtain ⟨⟨B9,C0,C1⟩,Cx,H⟩:=H
 try dsimp only at H
 have z0:=trivial
 rotate_left
 replace H:=iq H
 rcases H with ⟨-,C2,C3,H⟩|⟨D4,C2,C3,H⟩
 replace H:=be H
 obtain ⟨⟨Bj,C4,C5⟩,Cq,H⟩:=H
 try dsimp only at H
 obtain ⟨Bf,B7⟩:∃j_:Int,(wrap64 (20+Bj))=j_:=⟨_,rfl⟩
 first|rw [B7] at H|simp only [B7] at H
 (try rw [B7] at Co)
 (try rw [B7] at Cp)
 (try rw [B7] at Cq)
 have Ch:(IntKind.i64.wrap (20+Bj))=Bf:=(aI _).trans B7
 replace H:=nq H
 obtain ⟨Ci,H⟩:=H
 have Cr:=eq_true Ci
 have Cs:decide (0≤(Bf))=true:=k8 Ci
 clear Ci
 replace H:=nq H
 obtain ⟨Cj,H⟩:=H
 have Ct:=eq_true Cj
 have Cu:decide ((Bf:Int).toNat≤281474976710656)=true:=k8 Cj
 clear Cj
 generalize Bn:((List.replicate (Bf:Int).toNat 0):List Int)=Bk at H
 have Bo:=am Bn.symm
 clear Bn
 have z1:=trivial
 rotate_left
 replace H:=iq' H
 rcases H with ⟨D5,C6,C7,H⟩|⟨-,C6,C7,H⟩
 have z0:=trivial
 rotate_left
 replace H:=be H
 obtain ⟨⟨Be,C8,C9⟩,Cy,H⟩:=H
 try dsimp only at H
 have z0:=trivial
 rotate_right
 rotate_right
 rotate_right
 rotate_right
 all_goals
  simp only [k4,k5] at H
  obtain ⟨rfl,rfl,rfl,rfl,rfl,rfl⟩:=H
  go_enter Try.func50,Try.ntmps50
  go_wp2_with (first|((with_reducible refine aJ (N:=2) rfl ?_);refine bxe 2 #[.int .i64 0,.int .i64 0,.string (⟨#[]⟩:ByteArray),.slice none 0 0] 43 ?_;intro Ab hg w_ hbox hb;have n_:=ak8 (aD.below (aD.q0 A8.o) hb) (KeepBut.trans (kp0 HK.o) (KeepBut.of_below hb g none) (.inl rfl)) (aC (bq1 HB.o (aD.ge A8.o)) hb) hbox ((by rw [hg];exact (a8 (w:=w) (g:=g) (row:=none) (kp0 HK.o)):w.heap.size≤Ab)) ((Nat.le_trans Cn.o (by rw [hg];exact (a8 (w:=w) (g:=g) (row:=none) (kp0 HK.o)):w.heap.size≤Ab):w0.heap.size≤Ab)) ((by rw [hg];exact Nat.ne_of_lt (aD.lt (show aD w0 _ g Ap Bh Bi from aD.q0 A8.o)):g≠Ab)) ((by rw [hg];exact Nat.ne_of_gt (aD.lt (show aD w0 _ g Ap Bh Bi from aD.q0 A8.o)):Ab≠g));clear A8 HK HB;obtain ⟨A8,HK,HB,A1,A7,Ae,A0,A9⟩:=n_;clear hb hbox hg)|((with_reducible refine aE (f:=56) rfl ?_);refine gc (some 5) (d6.calls k g Ap Bh Bi A6 Aa Ad Ar Ba Bb w0 _ (aD.q1 A8.o A0.o) (bq2 HB.o (aD.ge A8.o) Ae.o) Co.o) Try.func56 ?_;rintro e w_ ⟨Cz,rfl,ho_,hi,hb,hk⟩;refine ⟨_,rfl,?_⟩;have n_:=ak5 (KeepBut.blk hk (zb A1.o) A9.o (by simp)) (Kd.R_lower ho_ (a8 (w:=w) (g:=g) (row:=none) (kp1 HK.o A7.o))) (KeepBut.trans (kp1 HK.o A7.o) hk (.inl rfl)) hb hi;clear A1 HK HB A8;obtain ⟨A1,A4,HK,HB,A8⟩:=n_;(try clear hb hk hi ho_);obtain ⟨Af,Ag,Bq⟩:=Kd.R_slice A4.o;subst Bq)|((with_reducible refine aJ (N:=3) rfl ?_);refine bxe 3 #[.int .i64 0,.int .i64 0,.string (⟨#[]⟩:ByteArray),.slice none 0 0] 43 ?_;intro As hg w_ hbox hb;have n_:=gA (rb A4 hb) (aD.below (aD.q1 A8.o A0.o) hb) (kb A1 hb) (KeepBut.trans (kp1 HK.o A7.o) (KeepBut.of_below hb g none) (.inl rfl)) (aC (bq2 HB.o (aD.ge A8.o) Ae.o) hb) hbox ((by rw [hg];exact (a8 (w:=w) (g:=g) (row:=none) (kp1 HK.o A7.o)):w.heap.size≤As)) ((Nat.le_trans Cn.o (by rw [hg];exact (a8 (w:=w) (g:=g) (row:=none) (kp1 HK.o A7.o)):w.heap.size≤As):w0.heap.size≤As)) (nL hg A1) (nG hg A1) ((by rw [hg];exact Nat.ne_of_lt (aD.lt (show aD w0 _ g Ap Ba Bb from aD.q1 A8.o A0.o)):g≠As)) ((by rw [hg];exact Nat.ne_of_gt (aD.lt (show aD w0 _ g Ap Ba Bb from aD.q1 A8.o A0.o)):As≠g));clear A4 A8 A1 HK HB;obtain ⟨A4,A8,A1,HK,HB,A3,Ac,Aq,A5,Bg,A2,At⟩:=n_;clear hb hbox hg;have Br:=Bg.o;have Bs:=A5.o;have Ca:=At.o;have Cb:=A2.o;obtain ⟨Ah,Ai,Aj,Ak,Al,Am,An,Ao⟩:=cl4 A3.o)|((with_reducible refine aE (f:=47) rfl ?_);(first|have:=z0|have:=z1);refine gc (some 7) (a6.calls g Ap Ba Bb 12 Bv B2 B3 w0 _ (aD.q2 A8.o A0.o A2.o) (bq3 HB.o (aD.ge A8.o) Ae.o Aq.o) Cp.o) Try.func47 ?_;rintro e w_ ⟨rfl,hi,hb,hk⟩;refine ⟨_,rfl,?_⟩;have n_:=ak6 (KeepBut.blk hk (g':=Ab) (o:=.cells #[.int .i64 0,.int .i64 0,.string (⟨#[]⟩:ByteArray),.slice none 0 0] 43 (0,0)) (by refine zr ?_;refine aN ?_ A5.o _;refine zr ?_;refine aN ?_ A5.o _;refine zr ?_;refine aN ?_ A5.o _;refine zr ?_;refine aN ?_ A5.o _;refine zr ?_;exact A1.o) A9.o (by simp)) (Kd.R_mono (Kd.R_keep (aD.apart (show aD w0 _ g Ap Ba Bb from aD.q2 A8.o A0.o A2.o) (by refine kr ?_;exact (Kd.R_mono (rf4 As (.int .i64 A6) (.int .i64 Aa) (.string Ad) (.slice Af Ar.length Ag) (Kd.R_types A4.o A3.o (by decide)) (fun _ hk=>hk.2)) (fun _ h_=>h_.1))) (by decide)) hk (fun _ h=>h.2)) (fun _ h=>h.1)) (KeepBut.blk hk (g':=As) (o:=.cells #[.int .i64 A6,.int .i64 Aa,.string Ad,.slice Af Ar.length Ag] 43 (0,0)) (by refine zr ?_;exact bp4 (zb A3.o)) At.o (by simp)) (KeepBut.trans (kp2 HK.o A7.o Ac.o) hk (.inl rfl)) hb hi;clear A1 A4 A3 HK HB A8;obtain ⟨A1,A4,A3,HK,HB,A8⟩:=n_;(try clear hb hk hi);obtain ⟨Ah,Ai,Aj,Ak,Al,Am,An,Ao⟩:=cl4 A3.o;have B4:=A9.o;have B5:=A0.o;obtain ⟨Au,Av,Aw,Ax,Ay,Az,B0,B1⟩:=cl4 A1.o)|((with_reducible refine aE (f:=47) rfl ?_);have:=z1;refine gc (some 22) (a6.calls g Ap B2 B3 2 Bj C4 C5 w0 _ (aD.q2 A8.o A0.o A2.o) (bq3 HB.o (aD.ge A8.o) Ae.o Aq.o) Cq.o) Try.func47 ?_;rintro e w_ ⟨rfl,hi,hb,hk⟩;refine ⟨_,rfl,?_⟩;have n_:=ak6 (KeepBut.blk hk (zb A1.o) A9.o (by simp)) (Kd.R_mono (Kd.R_keep (aD.apart (show aD w0 _ g Ap B2 B3 from aD.q2 A8.o A0.o A2.o) (kqR A4.o) (by decide)) hk (fun _ h=>h.2)) (fun _ h=>h.1)) (KeepBut.blk hk (zb A3.o) At.o (by simp)) (KeepBut.trans (kp2 HK.o A7.o Ac.o) hk (.inl rfl)) hb hi;clear A1 A4 A3 HK HB A8;obtain ⟨A1,A4,A3,HK,HB,A8⟩:=n_;(try clear hb hk hi))|((with_reducible refine aJ (N:=11) rfl ?_);refine Kd.R_lit (Kd.int .i64) _ 3 ?hg (N:=11) ?hd (xs:=([0,1,2,4,5,6,128,129,130]:List Int)) (inner:=[.int .i64 0,.int .i64 1,.int .i64 2,.int .i64 4,.int .i64 5,.int .i64 6,.int .i64 128,.int .i64 129,.int .i64 130]) (ok:=fun _=>True) (okp:=fun _=>True) ?hr ?hp (fun _ hk=>hk) trivial (Below.refl _ _) (k7 _) (by simp) ?_;(case hd=>rfl);(case hg=>rfl);(case hr=>exact gs);(case hp=>exact (bD.one (ri 0) (bD.one (ri 1) (bD.one (ri 2) (bD.one (ri 4) (bD.one (ri 5) (bD.one (ri 6) (bD.one (ri 128) (bD.one (ri 129) (bD.one (ri 130) (bD.none _ _)))))))))));intro D0 w_ ho_ hb hg_ hnew_;clear hg_ hnew_;(first|rw [← Bm.o] at ho_|(simp only [Int.reduceToNat] at ho_;rw [← Bm.o] at ho_));have n_:=ak7 (re_ A4 ho_ hb) (Kd.R_lower (Kd.R_new' ho_ (Kd.R_lt (kqR A4.o))) (a8 (w:=w) (g:=g) (row:=none) (kp2 HK.o A7.o Ac.o))) (aD.below (aD.q2 A8.o A0.o A2.o) hb) (kb A1 hb) (kb A3 hb) (KeepBut.trans (kp2 HK.o A7.o Ac.o) (KeepBut.of_below hb g none) (.inl rfl)) (aC (bq3 HB.o (aD.ge A8.o) Ae.o Aq.o) hb);clear A4 A8 A1 A3 HK HB;obtain ⟨A4,B8,A8,A1,A3,HK,HB⟩:=n_;clear hb ho_;obtain ⟨Ck,Cl,Bt⟩:=Kd.R_slice B8.o;subst Bt)|((with_reducible refine aE (f:=48) rfl ?_);refine gc (some 12) (cY.calls g Ap B2 B3 _ _ Cg B6 Bw Bx w0 _ (aD.q2 A8.o A0.o A2.o) (bq3 HB.o (aD.ge A8.o) Ae.o Aq.o) (cq (Kd.R_reads' B8.o).2.2) ((Kd.R_reads' B8.o).2.1) (e5 (aD.own_ne A8.o B8.o (by decide))) Cw.o) Try.func48 ?_;rintro e w_ ⟨rfl,hi,hb,hk⟩;refine ⟨_,rfl,?_⟩;have n_:=ak7 (KeepBut.blk hk (zb A1.o) A9.o (by simp)) (Kd.R_mono (Kd.R_keep (aD.apart (show aD w0 _ g Ap B2 B3 from aD.q2 A8.o A0.o A2.o) (kqR A4.o) (by decide)) hk (fun _ h=>h.2)) (fun _ h=>h.1)) (KeepBut.blk hk (zb A3.o) At.o (by simp)) (Kd.R_mono (Kd.R_keep (aD.apart (show aD w0 _ g Ap B2 B3 from aD.q2 A8.o A0.o A2.o) (kqR B8.o) (by decide)) hk (fun _ h=>h.2)) (fun _ h=>h.1)) (KeepBut.trans (kp2 HK.o A7.o Ac.o) hk (.inl rfl)) hb hi;clear A1 A4 A3 B8 HK HB A8;obtain ⟨A1,A4,A3,B8,HK,HB,A8⟩:=n_;(try clear hb hk hi);obtain ⟨Ah,Ai,Aj,Ak,Al,Am,An,Ao⟩:=cl4 A3.o;have B4:=A9.o;have B5:=A0.o;obtain ⟨Au,Av,Aw,Ax,Ay,Az,B0,B1⟩:=cl4 A1.o)|((with_reducible refine aE (f:=55) rfl ?_);refine gc (some 17) (eP.calls g Ap B2 B3 B9 C0 C1 w0 _ (aD.q2 A8.o A0.o A2.o) (bq3 HB.o (aD.ge A8.o) Ae.o Aq.o) Cx.o) Try.func55 ?_;rintro e w_ ⟨rfl,hi,hb,hk⟩;refine ⟨_,rfl,?_⟩;have n_:=ak6 (KeepBut.blk hk (zb A1.o) A9.o (by simp)) (Kd.R_mono (Kd.R_keep (aD.apart (show aD w0 _ g Ap B2 B3 from aD.q2 A8.o A0.o A2.o) (kqR A4.o) (by decide)) hk (fun _ h=>h.2)) (fun _ h=>h.1)) (KeepBut.blk hk (zb A3.o) At.o (by simp)) (KeepBut.trans (kp2 HK.o A7.o Ac.o) hk (.inl rfl)) hb hi;clear A1 A4 A3 HK HB A8;obtain ⟨A1,A4,A3,HK,HB,A8⟩:=n_;(try clear hb hk hi);obtain ⟨Ah,Ai,Aj,Ak,Al,Am,An,Ao⟩:=cl4 A3.o;have B4:=A9.o;have B5:=A0.o;obtain ⟨Au,Av,Aw,Ax,Ay,Az,B0,B1⟩:=cl4 A1.o)|((with_reducible refine aJ (N:=24) rfl ?_);refine Kd.R_make (Kd.int .u8) _ 5 rfl (N:=24) rfl 22 _ _ rfl Bf rfl rfl Try.underlying22 (.int .u8 0) 1 eH rfl (by decide) (by omega) 0 (ok:=fun _=>True) (okp:=fun _=>True) rfl (fun _ hk=>hk) trivial (oda) (Nat.le_trans (Nat.mul_le_mul_right _ (oda:Bf.toNat≤281474976710656)) (by omega)) (Below.refl _ _) (k7 _) ?_;intro D1 w_ ho_ hb hg_ hnew_;clear hg_ hnew_;(first|rw [← Bo.o] at ho_|(simp only [Int.reduceToNat] at ho_;rw [← Bo.o] at ho_));have n_:=ak7 (rb A4 hb) (Kd.R_lower ho_ (a8 (w:=w) (g:=g) (row:=none) (kp2 HK.o A7.o Ac.o))) (aD.below (aD.q2 A8.o A0.o A2.o) hb) (kb A1 hb) (kb A3 hb) (KeepBut.trans (kp2 HK.o A7.o Ac.o) (KeepBut.of_below hb g none) (.inl rfl)) (aC (bq3 HB.o (aD.ge A8.o) Ae.o Aq.o) hb);clear A4 A8 A1 A3 HK HB;obtain ⟨A4,Cc,A8,A1,A3,HK,HB⟩:=n_;clear hb ho_;have Cd:=fA (P:=Try.prog) Try.underlying22 Try.underlying5 Try.underlying9 (Kd.own_of_R Cc.o);obtain ⟨Ah,Ai,Aj,Ak,Al,Am,An,Ao⟩:=cl4 A3.o;have B4:=A9.o;have B5:=A0.o;obtain ⟨Au,Av,Aw,Ax,Ay,Az,B0,B1⟩:=cl4 A1.o)|((with_reducible refine aE (f:=49) rfl ?_);refine gc (some 30) (eG.calls k g Ap B2 B3 Be C8 C9 w0 _ (aD.q2 A8.o A0.o A2.o) (bq3 HB.o (aD.ge A8.o) Ae.o Aq.o) Cy.o) Try.func49 ?_;rintro e w_ ⟨D2,rfl,ho_,hi,hb,hk⟩;refine ⟨_,rfl,?_⟩;have n_:=ak7 (KeepBut.blk hk (zb A1.o) A9.o (by simp)) (Kd.R_mono (Kd.R_told (Kd.R_oldK (aD.apart (show aD w0 _ g Ap B2 B3 from aD.q2 A8.o A0.o A2.o) (kqR A4.o) (by decide)) hk) (Kd.R_base ho_)) (fun _ h_=>h_.1)) (KeepBut.blk hk (zb A3.o) At.o (by simp)) (Kd.R_lower (Kd.R_new' ho_ (Kd.R_lt (kqR A4.o))) (a8 (w:=w) (g:=g) (row:=none) (kp2 HK.o A7.o Ac.o))) (KeepBut.trans (kp2 HK.o A7.o Ac.o) hk (.inl rfl)) hb hi;clear A1 A4 A3 HK HB A8;obtain ⟨A1,A4,A3,Bp,HK,HB,A8⟩:=n_;(try clear hb hk hi ho_);obtain ⟨Bc,Bd,Bu⟩:=Kd.R_slice Bp.o;subst Bu;obtain ⟨Ah,Ai,Aj,Ak,Al,Am,An,Ao⟩:=cl4 A3.o;have B4:=A9.o;have B5:=A0.o;obtain ⟨Au,Av,Aw,Ax,Ay,Az,B0,B1⟩:=cl4 A1.o))
  first
  | refine bodyPost_ret (results_cell_row rfl _ _ Ab 43 #[.int .i64 A6,.int .i64 Aa,.string (strOfNums Bk),.slice Af Ar.length Ag] (0,0) _ rfl (by refine zr ?_;refine aV (cs:=#[.int .i64 A6,.int .i64 Aa,.string (strOfNums Bk),.slice none 0 0]) ?_ 3 _ rfl;refine zr ?_;refine aV (cs:=#[.int .i64 A6,.int .i64 Aa,.string (⟨#[]⟩:ByteArray),.slice none 0 0]) ?_ 2 _ rfl;refine zr ?_;refine aV (cs:=#[.int .i64 A6,.int .i64 0,.string (⟨#[]⟩:ByteArray),.slice none 0 0]) ?_ 1 _ rfl;refine zr ?_;refine aV (cs:=#[.int .i64 0,.int .i64 0,.string (⟨#[]⟩:ByteArray),.slice none 0 0]) ?_ 0 _ rfl;refine zr ?_;refine aN ?_ A5.o _;refine zr ?_;exact A1.o) Try.underlying43 rfl (by kernel_rfl)) rfl ?_
    exact ⟨_,by first|rfl|(simp [bI,bJ]<;>rfl)|(simp only [← B7];first|rfl|(simp [bI,bJ]<;>rfl))|(simp [*,bI,bJ]<;>rfl),by refine kr ?_;exact Kd.R_mono (rf4 Ab (.int .i64 A6) (.int .i64 Aa) (.string (strOfNums Bk)) (.slice Af Ar.length Ag) (Kd.R_far (p:=⟨As,2,none⟩) (Kd.R_types (Kd.R_types A4.o A3.o (by decide)) A1.o (by decide)) (fun _ hk=>hk.1.2) (.string (strOfNums Bk))) (fun _ hk=>hk.2)) (fun _ hk=>trivial),aD.q2 A8.o A0.o A2.o,bq3 HB.o (aD.ge A8.o) Ae.o Aq.o,kp2 HK.o A7.o Ac.o⟩
  | refine bodyPost_ret (results_cell_row rfl _ _ Ab 43 #[.int .i64 A6,.int .i64 Aa,.string Ad,.slice Bc Be.length Bd] (0,0) _ rfl (by refine zr ?_;refine aV (cs:=#[.int .i64 A6,.int .i64 Aa,.string Ad,.slice none 0 0]) ?_ 3 _ rfl;refine zr ?_;refine aV (cs:=#[.int .i64 A6,.int .i64 Aa,.string (⟨#[]⟩:ByteArray),.slice none 0 0]) ?_ 2 _ rfl;refine zr ?_;refine aV (cs:=#[.int .i64 A6,.int .i64 0,.string (⟨#[]⟩:ByteArray),.slice none 0 0]) ?_ 1 _ rfl;refine zr ?_;refine aV (cs:=#[.int .i64 0,.int .i64 0,.string (⟨#[]⟩:ByteArray),.slice none 0 0]) ?_ 0 _ rfl;refine zr ?_;refine aN ?_ A5.o _;refine zr ?_;exact A1.o) Try.underlying43 rfl (by kernel_rfl)) rfl ?_
    exact ⟨_,rq,by refine kr ?_;exact Kd.R_mono (rf4 Ab (.int .i64 A6) (.int .i64 Aa) (.string Ad) (.slice Bc Be.length Bd) (Kd.R_far (p:=⟨As,3,none⟩) (Kd.R_types (Kd.R_types Bp.o A3.o (by decide)) A1.o (by decide)) (fun _ hk=>hk.1.2) (.slice Bc Be.length Bd)) (fun _ hk=>hk.2)) (fun _ hk=>trivial),aD.q2 A8.o A0.o A2.o,bq3 HB.o (aD.ge A8.o) Ae.o Aq.o,kp2 HK.o A7.o Ac.o⟩
  | refine bodyPost_ret (results_cell_row rfl _ _ Ab 43 #[.int .i64 B6,.int .i64 Aa,.string Ad,.slice Af Ar.length Ag] (0,0) _ rfl (by refine zr ?_;refine aV (cs:=#[.int .i64 B6,.int .i64 Aa,.string Ad,.slice none 0 0]) ?_ 3 _ rfl;refine zr ?_;refine aV (cs:=#[.int .i64 B6,.int .i64 Aa,.string (⟨#[]⟩:ByteArray),.slice none 0 0]) ?_ 2 _ rfl;refine zr ?_;refine aV (cs:=#[.int .i64 B6,.int .i64 0,.string (⟨#[]⟩:ByteArray),.slice none 0 0]) ?_ 1 _ rfl;refine zr ?_;refine aV (cs:=#[.int .i64 0,.int .i64 0,.string (⟨#[]⟩:ByteArray),.slice none 0 0]) ?_ 0 _ rfl;refine zr ?_;refine aN ?_ A5.o _;refine zr ?_;exact A1.o) Try.underlying43 rfl (by kernel_rfl)) rfl ?_
    exact ⟨_,rq,by refine kr ?_;exact Kd.R_mono (rf4 Ab (.int .i64 B6) (.int .i64 Aa) (.string Ad) (.slice Af Ar.length Ag) (Kd.R_far (p:=⟨As,0,none⟩) (Kd.R_types (Kd.R_types A4.o A3.o (by decide)) A1.o (by decide)) (fun _ hk=>hk.1.2) (.int .i64 B6)) (fun _ hk=>hk.2)) (fun _ hk=>trivial),aD.q2 A8.o A0.o A2.o,bq3 HB.o (aD.ge A8.o) Ae.o Aq.o,kp2 HK.o A7.o Ac.o⟩
  | refine bodyPost_ret (results_cell_row rfl _ _ Ab 43 #[.int .i64 A6,.int .i64 B9,.string Ad,.slice Af Ar.length Ag] (0,0) _ rfl (by refine zr ?_;refine aV (cs:=#[.int .i64 A6,.int .i64 B9,.string Ad,.slice none 0 0]) ?_ 3 _ rfl;refine zr ?_;refine aV (cs:=#[.int .i64 A6,.int .i64 B9,.string (⟨#[]⟩:ByteArray),.slice none 0 0]) ?_ 2 _ rfl;refine zr ?_;refine aV (cs:=#[.int .i64 A6,.int .i64 0,.string (⟨#[]⟩:ByteArray),.slice none 0 0]) ?_ 1 _ rfl;refine zr ?_;refine aV (cs:=#[.int .i64 0,.int .i64 0,.string (⟨#[]⟩:ByteArray),.slice none 0 0]) ?_ 0 _ rfl;refine zr ?_;refine aN ?_ A5.o _;refine zr ?_;exact A1.o) Try.underlying43 rfl (by kernel_rfl)) rfl ?_
    exact ⟨_,rq,by refine kr ?_;exact Kd.R_mono (rf4 Ab (.int .i64 A6) (.int .i64 B9) (.string Ad) (.slice Af Ar.length Ag) (Kd.R_far (p:=⟨As,1,none⟩) (Kd.R_types (Kd.R_types A4.o A3.o (by decide)) A1.o (by decide)) (fun _ hk=>hk.1.2) (.int .i64 B9)) (fun _ hk=>hk.2)) (fun _ hk=>trivial),aD.q2 A8.o A0.o A2.o,bq3 HB.o (aD.ge A8.o) Ae.o Aq.o,kp2 HK.o A7.o Ac.o⟩
  | refine bodyPost_ret (results_cell_row rfl _ _ Ab 43 #[.int .i64 A6,.int .i64 Aa,.string Ad,.slice Af Ar.length Ag] (0,0) _ rfl (by refine zr ?_;exact bp4 (zb A1.o)) Try.underlying43 rfl (by kernel_rfl)) rfl ?_
    exact ⟨_,rq,by refine kr ?_;exact Kd.R_mono (rf4 Ab (.int .i64 A6) (.int .i64 Aa) (.string Ad) (.slice Af Ar.length Ag) (Kd.R_types A4.o A1.o (by decide)) (fun _ hk=>hk.2)) (fun _ hk=>trivial),aD.q2 A8.o A0.o A2.o,bq3 HB.o (aD.ge A8.o) Ae.o Aq.o,kp2 HK.o A7.o Ac.o⟩
end Go.Proofs.Ytgppikopdpeigaa.XFnPdus
