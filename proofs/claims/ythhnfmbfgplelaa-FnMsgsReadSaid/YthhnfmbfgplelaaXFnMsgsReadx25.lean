/- The functions that one law reaches, as Lean functions, with their walks: printed by a program of this seat (wip/tools) out of the translation. -/
import Derived.Test.YthhnfmbfgplelaaXFnMsgsReadx0
import Derived.Test.YthhnfmbfgplelaaXFnMsgsReadx15
import Derived.Test.YthhnfmbfgplelaaXFnMsgsReadx19
import Derived.Test.YthhnfmbfgplelaaXFnMsgsReadx21
import Derived.Test.YthhnfmbfgplelaaXFnMsgsReadx22
import Derived.Test.YthhnfmbfgplelaaXFnMsgsReadx24
namespace Go.Proofs.Ythhnfmbfgplelaa.XFnMsgsRead
open Go.RowKit Go.Proofs.YthhnfmbfgplelaaW.PrintWords Go.Proofs.YthhnfmbfgplelaaW.PrintLast Go.Proofs.YthhnfmbfgplelaaW.PrintMore
attribute [local go_sem] cL cM dC dD cB cC cN cO
set_option linter.unusedVariables false
set_option linter.unusedSimpArgs false
set_option maxHeartbeats 8000000
set_option maxRecDepth 100000
theorem j3 {P:Program} {t:TypeId} (ht:P.underlying t=some (.slice 5)) (he:P.underlying 5=some (.int .u8)) {w0 W:World} {b:Nat} {ok:Nat→Prop} {v:Value} {xs:List Int} (h:(Kd.int .u8).R 5 W b ok v xs) (hn:0<xs.length) (hB:Below b w0 W):
    ∃(W2:World) (g c:Nat) (cur:Array Value) (m:Nat × Nat),v=.slice (some ⟨g,0,none⟩) xs.length c∧(convert t t v).run P W=.ok v W2∧W.grownBy W2 v.ownBlock∧Below b w0 W2∧W2.heap[g]? =some (.cells cur 5 m)∧(∀W':World,W'.heap[g]? =some (.cells cur 5 m)→(Kd.int .u8).C W' (some ⟨g,0,none⟩) xs.length xs)∧xs.length≤c:=by
  have own:=Kd.own_of_R h
  rcases own.2 with ⟨_,h0⟩|⟨g,c,cur,rfl,hb,hblk,hle,hmx,hsz,htk⟩
  · omega
  have hheap:∀i,(W.freeze ⟨g,cur.size,none⟩ 1).heap[i]? =if g=i then some (.cells cur 5 (cur.size,cur.size+1)) else W.heap[i]? :=by
    intro i
    unfold World.freeze
    rw [if_neg (by decide)]
    show (W.heap.modify g _)[i]? =_
    rw [Array.getElem?_modify]
    split
    · rename_i e
      subst e
      rw [hblk]
      rfl
    · rfl
  have hsize:(W.freeze ⟨g,cur.size,none⟩ 1).heap.size=W.heap.size:=by
    unfold World.freeze
    rw [if_neg (by decide)]
    exact Array.size_modify
  have hsh:W.shape? g=some (5,cur.size):=by
    unfold World.shape?
    rw [hblk]
  have hos:(W.freeze ⟨g,cur.size,none⟩ 1).os=W.os∧(W.freeze ⟨g,cur.size,none⟩ 1).tape=W.tape∧(W.freeze ⟨g,cur.size,none⟩ 1).output=W.output:=by
    unfold World.freeze
    rw [if_neg (by decide)]
    exact ⟨rfl,rfl,rfl⟩
  refine ⟨W.freeze ⟨g,cur.size,none⟩ 1,g,c,cur,(cur.size,cur.size+1),rfl,?_,⟨hos.1,hos.2.1,hos.2.2,Nat.le_of_eq hsize.symm,fun i _ hne=>?_⟩,⟨hos.1.trans hB.os,hos.2.1.trans hB.tape,hos.2.2.trans hB.output,by rw [hsize];exact hB.size,fun i hi=>?_⟩,?_,?_,hle⟩
  · simp [convert,run_underlying ht,run_underlying he,markStringish,hsh]
  · rw [hheap,if_neg (fun e=>hne (by rw [← e];rfl))]
  · rw [hheap,if_neg (by omega)]
    exact hB.block i hi
  · rw [hheap,if_pos rfl]
  · intro W' hW
    refine iY ⟨rfl,Nat.le_trans hle hmx,fun _=>⟨_,rfl,fun j hj=>?_⟩⟩
    have h1:cur.toList[j]? =some (.int .u8 (xs.getD j 0)):=by
      have h2:(cur.toList.take (xs.length*1))[j]? =cur.toList[j]? :=by rw [List.getElem?_take,if_pos (by omega)]
      rw [← h2,htk]
      simp only [f7,List.getElem?_map,List.getD_eq_getElem?_getD]
      rw [List.getElem?_eq_getElem hj]
      rfl
    have h3:(⟨g,0,none⟩:Addr).add j=⟨g,j,none⟩:=hH g j
    rw [h3]
    unfold World.cell?
    simp only [hW]
    simpa using h1
theorem aA.no5 {w0 W:World} {g:Nat} {f0:List Int} {f1 f2:Int} (h:aA w0 W g f0 f1 f2) {cur:Array Value} {m:Nat × Nat}:¬W.heap[g]? =some (.cells cur 5 m):=by
  obtain ⟨_,_,hb,_⟩:=h
  intro e
  rw [hb] at e
  injection e with e
  injection e with _ e _
  exact absurd e (by decide)
theorem kqT {α:Type} {d:Kd α} {e b:Nat} {ok:Nat→Prop} {v:Value} {xs:List α} {W W1:World} (h:d.R e W b ok v xs) (g:d.R e W b ok v xs→d.R e W1 b ok v xs:=by intro h_;(with_reducible repeat (first|apply Kd.R_alloc|apply Kd.R_drewN|apply Kd.R_drew));exact h_):d.R e W1 b (fun _=>True) v xs:=Kd.R_mono (g h) (fun _ _=>trivial)
def cF.f (k:Nat) (l0:List Int):Option (ByteArray × List Int):=(d7.f k l0).bind fun A1=>((eY.f A1.1 A1.2.1 A1.2.2 (([(⟨#[121,97,114,100]⟩:ByteArray),(⟨#[121,97,114,100]⟩:ByteArray),(⟨#[111,112,101,110]⟩:ByteArray)]:List ByteArray))).bind fun A3=>((bI.f k A1.1 A3.2.1 A3.2.2).bind fun A0=>((eU.f A1.1 A0.2.2.2.2.2.1 A0.2.2.2.2.2.2 8).bind fun A2=>(if A2.1=true then ((bC.f A1.1 A2.2.1 A2.2.2 3).bind fun A7=>((bT.f k A7.1).bind fun A8=>((aY.f k (([]:List Int)) 2 A8).bind fun A9=>((aY.f k A9 4 (([121,97,114,100]:List Int))).bind fun A4=>((eW.f k A0.1 A0.2.1 A0.2.2.1 A0.2.2.2.1 A0.2.2.2.2.1).bind fun A5=>(if A4.length+A5.length<140737488355328 then ((aY.f k (([]:List Int)) 48 (A4++A5)).bind fun Aa=>(some (A3.1,Aa))) else (none))))))) else ((eJ.f k (⟨#[121,97,114,100]⟩:ByteArray) A0.1 A0.2.1 A0.2.2.1 A0.2.2.2.1 A0.2.2.2.2.1).bind fun Ab=>((fD.f A1.1 A2.2.1 A2.2.2 Ab).bind fun A6=>(some (A3.1,A6.1))))))))
def cF.T5:Bool × List (List Nat × List Nat):=(true,[([],[]),([],[]),([],[]),([],[]),([3],[3]),([4,4],[4]),([2,5,5],[2,5]),([],[]),([7],[7]),([6,8,6],[6,8]),([],[]),([10,9],[10]),([9,11,11],[9,11]),([1,12,12],[1,12]),([0,13,0],[0]),([13,14,0,1,2,3,4,5,6,7,8,9,10,11,12,13,14],[13])])
def cF.B5:List Nat:=[0,0,0,0,8,24,60,0,128,508,0,2044,4092,8190,16383,32767]
theorem cF.tab5:eN .any (gA Try.f61 5)=cF.T5:=by kernel_rfl
theorem cF.bits5:eG cF.T5.2 cF.B5=true:=by kernel_rfl
theorem cF.calls (k:Nat) (A0:Option Addr) (c0:Nat) (l0:List Int) (r1:ByteArray) (r2:List Int) (w:World) (G7:Kd.C (Kd.int .u8) w A0 l0.length l0) (G8:l0.length≤c0) (h:cF.f k l0=some (r1,r2)):
 Calls Try.prog 61 #[.slice A0 l0.length c0] w fun e w'=>∃G9:Value,e=.returned (.tuple #[.string r1,G9])∧Kd.R (Kd.int .u8) 5 w' w.heap.size (fun _=>True) G9 r2∧Below w.heap.size w w':=by
 have Gy:=Try.underlying58
 have Ga:=am G7
 have Gb:=am G8
 clear G7 G8
 have HB:=am (Below.refl w.heap.size w)
 have H:=h
 clear h
 unfold cF.f at H
 replace H:=be H
 obtain ⟨⟨Am,Bp,Bq⟩,Gc,H⟩:=H
 try dsimp only at H
 generalize Cm:((([(⟨#[121,97,114,100]⟩:ByteArray),(⟨#[121,97,114,100]⟩:ByteArray),(⟨#[111,112,101,110]⟩:ByteArray)]:List ByteArray)):List ByteArray)=Ck at H
 have C1:=am Cm.symm
 clear Cm
 replace H:=be H
 obtain ⟨⟨Br,Bs,Bt⟩,Gd,H⟩:=H
 try dsimp only at H
 replace H:=be H
 obtain ⟨⟨B3,B4,B5,B6,Ax,Bb,Bc⟩,Ge,H⟩:=H
 try dsimp only at H
 replace H:=be H
 obtain ⟨⟨D1,B8,B9⟩,Gf,H⟩:=H
 try dsimp only at H
 cases D1
 · replace H:=iF H
   replace H:=be H
   obtain ⟨C2,Gz,H⟩:=H
   replace H:=be H
   obtain ⟨⟨D2,D3,D4⟩,H0,H⟩:=H
   try dsimp only at H
   simp only [lW,lX] at H
   obtain ⟨rfl,rfl⟩:=H
   go_enter Try.func61,Try.ntmps61
   go_wp2_with (first|((with_reducible refine aE (f:=74) rfl ?_);refine gc (some 8) (d7.calls k _ _ l0 Am Bp Bq w _ (bq HB.o) Ga.o Gb.o Gc.o) Try.func74 ?_;rintro e Hm ⟨Av,rfl,hi,hb,Ev⟩;refine ⟨_,rfl,?_⟩;have n_:=ak2 hb hi;clear HB;obtain ⟨HB,A1⟩:=n_;(try clear hb Ev hi))|((with_reducible refine aI (N:=10) rfl ?_);refine Kd.R_lit Kd.string _ 9 ?hg (N:=10) ?hd (xs:=([(⟨#[121,97,114,100]⟩:ByteArray),(⟨#[121,97,114,100]⟩:ByteArray),(⟨#[111,112,101,110]⟩:ByteArray)]:List ByteArray)) (inner:=[.string (⟨#[121,97,114,100]⟩:ByteArray),.string (⟨#[121,97,114,100]⟩:ByteArray),.string (⟨#[111,112,101,110]⟩:ByteArray)]) (ok:=fun _=>True) (okp:=fun _=>True) ?hr ?hp (fun _ hk=>hk) trivial (Below.refl _ _) (lZ _) (by simp) ?_;(case hd=>rfl);(case hg=>rfl);(case hr=>exact gs);(case hp=>exact (a9.one (show Kd.M Kd.string _ _ _ (⟨#[121,97,114,100]⟩:ByteArray) [.string (⟨#[121,97,114,100]⟩:ByteArray)] from rfl) (a9.one (show Kd.M Kd.string _ _ _ (⟨#[121,97,114,100]⟩:ByteArray) [.string (⟨#[121,97,114,100]⟩:ByteArray)] from rfl) (a9.one (show Kd.M Kd.string _ _ _ (⟨#[111,112,101,110]⟩:ByteArray) [.string (⟨#[111,112,101,110]⟩:ByteArray)] from rfl) (a9.none _ _)))));intro Ew Hn C5 hb hg_ hnew_;clear hg_ hnew_;(first|rw [← C1.o] at C5|(simp only [Int.reduceToNat] at C5;rw [← C1.o] at C5));have n_:=ak3 (rl C5 (bq1 HB.o (aA.ge A1.o))) (aA.below (aA.q0 A1.o) hb) (aC (bq1 HB.o (aA.ge A1.o)) hb);clear A1 HB;obtain ⟨A3,A1,HB⟩:=n_;clear hb C5;obtain ⟨H1,H2,Ex⟩:=Kd.R_slice A3.o;subst Ex)|((with_reducible refine aE (f:=114) rfl ?_);refine gc (some 11) (eY.calls Av Am Bp Bq _ _ Ck Br Bs Bt w _ (aA.q0 A1.o) (bq1 HB.o (aA.ge A1.o)) (cq (Kd.R_reads' A3.o).2.2) ((Kd.R_reads' A3.o).2.1) (eQ (aA.own_ne A1.o A3.o (by decide))) Gd.o) Try.func114 ?_;rintro e Ho ⟨rfl,hi,hb,hk⟩;refine ⟨_,rfl,?_⟩;have n_:=ak3 (Kd.R_mono (Kd.R_keep (aA.apart (show aA w _ Av Am Bp Bq from aA.q0 A1.o) (kqR A3.o) (by decide)) hk (fun _ h=>h.2)) (fun _ h=>h.1)) hb hi;clear A3 HB A1;obtain ⟨A3,HB,A1⟩:=n_;(try clear hb hk hi))|((with_reducible refine aE (f:=121) rfl ?_);refine gc (some 13) (bI.calls k Av Am Bs Bt B3 B4 B5 B6 Ax Bb Bc w _ (aA.q0 A1.o) (bq1 HB.o (aA.ge A1.o)) Ge.o) Try.func121 ?_;rintro e Hp ⟨Ey,rfl,Bk,hi,hb,hk⟩;refine ⟨_,rfl,?_⟩;have n_:=ak4 (Kd.R_mono (Kd.R_keep (aA.apart (show aA w _ Av Am Bs Bt from aA.q0 A1.o) (kqR A3.o) (by decide)) hk (fun _ h=>h.2)) (fun _ h=>h.1)) (Kd.S_lower Bk (aH (bq1 HB.o (aA.ge A1.o)))) hb hi;clear A3 HB A1;obtain ⟨A3,A8,HB,A1⟩:=n_;(try clear hb hk hi Bk))|((with_reducible refine aI (N:=6) rfl ?_);refine bxe 6 #[.int .i64 0,.int .i64 0,.int .i64 0,.int .i64 0,.slice none 0 0] 58 ?_;intro Aw hg H3 hbox hb;have n_:=ak9 (rb A3 hb) (Kd.S_below (kqS A8.o) hb) (aA.below (aA.q0 A1.o) hb) (aC (bq1 HB.o (aA.ge A1.o)) hb) hbox (bz hg (bq1 HB.o (aA.ge A1.o))) (bz hg (bq1 HB.o (aA.ge A1.o))) ((by rw [hg];exact Nat.ne_of_lt (aA.lt (show aA w _ Av Am Bb Bc from aA.q0 A1.o)):Av≠Aw)) ((by rw [hg];exact Nat.ne_of_gt (aA.lt (show aA w _ Av Am Bb Bc from aA.q0 A1.o)):Aw≠Av));clear A3 A8 A1 HB;obtain ⟨A3,A8,A1,HB,A6,D5,Ap,A5,B7⟩:=n_;clear hb hbox hg;have Gg:=B7.o;have Gh:=A5.o;obtain ⟨E1,E2,E3,E4,E5,E6,E7,E8,E9,Ea⟩:=cl5 A6.o;obtain ⟨Cw,Cx,Ez⟩:=Kd.S_slice A8.o;subst Ez)|((with_reducible refine aJ (t:=58) (p:=6) rfl ?_);refine se 58 6 (s5 H3 Aw (.int .i64 B3) (.int .i64 B4) (.int .i64 B5) (.int .i64 B6) (.slice Cw Ax.length Cx)) ?_;intro Gi hw;have n_:=ak5 (sr5 hw A3 A6) (show Kd.S dV 116 Gi w.heap.size (fun _=>True) (.slice Cw Ax.length Cx) Ax by rw [hw];exact (by (with_reducible repeat (first|apply Kd.S_alloc|apply Kd.S_drewN|apply Kd.S_drew));exact Kd.S_mono (Kd.S_far (p:=⟨Aw,4,none⟩) (Kd.S_far (p:=⟨Aw,3,none⟩) (Kd.S_far (p:=⟨Aw,2,none⟩) (Kd.S_far (p:=⟨Aw,1,none⟩) (Kd.S_far (p:=⟨Aw,0,none⟩) (Kd.S_types A8.o A6.o (by decide)) (fun _ hk=>hk.2) (.int .i64 B3)) (fun _ hk=>hk.2) (.int .i64 B4)) (fun _ hk=>hk.2) (.int .i64 B5)) (fun _ hk=>hk.2) (.int .i64 B6)) (fun _ hk=>hk.2) (.slice Cw Ax.length Cx)) (fun _ hk=>trivial))) (sc5 hw A6) (show aA w Gi Av Am Bb Bc by rw [hw];exact (aA.q1 A1.o A5.o)) (sb hw (bq2 HB.o (aA.ge A1.o) Ap.o));clear hw A3 A8 A6 A1 HB;obtain ⟨A3,A8,A6,A1,HB⟩:=n_)|((with_reducible refine aE (f:=111) rfl ?_);refine gc (some 15) (eU.calls Av Am Bb Bc 8 false B8 B9 w _ (aA.q1 A1.o A5.o) (bq2 HB.o (aA.ge A1.o) Ap.o) Gf.o) Try.func111 ?_;rintro e Hq ⟨rfl,hi,hb,hk⟩;refine ⟨_,rfl,?_⟩;have n_:=ak5 (Kd.R_mono (Kd.R_keep (aA.apart (show aA w _ Av Am Bb Bc from aA.q1 A1.o A5.o) (kqR A3.o) (by decide)) hk (fun _ h=>h.2)) (fun _ h=>h.1)) (Kd.S_mono (Kd.S_keep (aA.apartS (show aA w _ Av Am Bb Bc from aA.q1 A1.o A5.o) (kqS A8.o) (by decide)) hk (fun _ h=>h.2)) (fun _ h=>h.1)) (KeepBut.blk hk (zb A6.o) B7.o (by simp)) hb hi;clear A3 A8 A6 HB A1;obtain ⟨A3,A8,A6,HB,A1⟩:=n_;(try clear hb hk hi);obtain ⟨Eb,Ec,Ed,Ee,Ef,Eg,Eh,Ei,Ej,Ek⟩:=cl5 A6.o)|((with_reducible refine aE (f:=51) rfl ?_);refine gc (some 33) (eJ.calls k (⟨#[121,97,114,100]⟩:ByteArray) B3 B4 B5 B6 _ _ Ax C2 _ (cq (Kd.S_reads' A8.o).2.2) ((Kd.S_reads' A8.o).2.1) Gz.o) Try.func51 ?_;rintro e Hr ⟨Gj,rfl,Bk,hb⟩;refine ⟨_,rfl,?_⟩;have n_:=ak6 (rb A3 hb) (Kd.S_below (kqS A8.o) hb) (rl Bk (bq2 HB.o (aA.ge A1.o) Ap.o)) (aA.below (aA.q1 A1.o A5.o) hb) (kb A6 hb) (aC (bq2 HB.o (aA.ge A1.o) Ap.o) hb);clear A3 A8 A1 A6 HB;obtain ⟨A3,A8,Bf,A1,A6,HB⟩:=n_;(try clear hb Bk);obtain ⟨D6,D7,G0⟩:=Kd.R_slice Bf.o;subst G0)|((with_reducible refine aE (f:=77) rfl ?_);refine gc (some 34) (fD.calls Av Am B8 B9 (fun k_=>some k_=(.slice D6 C2.length D7:Value).ownBlock) (.slice D6 C2.length D7) C2 D2 D3 D4 w _ (aA.q1 A1.o A5.o) (bq2 HB.o (aA.ge A1.o) Ap.o) (Kd.R_tight rfl Bf.o) H0.o) Try.func77 ?_;rintro e Hs ⟨Gk,rfl,Bk,hi,hb,hkp⟩;refine ⟨_,rfl,?_⟩;have n_:=ak6 hi (Kd.R_mono (ok':=fun k_=>True) (Kd.R_keptB ((aA.apart A1.o (Kd.R_apart' A3.o (Kd.R_typed Bf.o) (by decide)) (by decide))) hkp (fun k_ hk_ hs_=>Or.elim hs_ (fun hs_=>(hk_.1.2) hs_) (fun e_=>(hk_.2) e_))) (fun k_ hk_=>trivial)) (Kd.S_mono (ok':=fun k_=>True) (Kd.S_keptB ((aA.apartS A1.o (Kd.S_apart' A8.o (Kd.R_typed Bf.o) (by decide)) (by decide))) hkp (fun k_ hk_ hs_=>Or.elim hs_ (fun hs_=>(hk_.1.2) hs_) (fun e_=>(hk_.2) e_))) (fun k_ hk_=>trivial)) (g9 (zq A6.o) hkp (fun hs_=>Or.elim hs_ (fun hs_=>(fun e_=>(Kd.R_ne Bf.o A6.o (by decide)) e_) hs_) (fun e_=>B7.o e_))) (Kd.R_mono (ok':=fun k_=>True) Bk (fun k_ hk_=>trivial)) hb;clear A1 A3 A8 A6 HB Bf;obtain ⟨A1,A3,A8,A6,Cy,HB⟩:=n_;(try clear hb hkp Bk)))
   go_ret2
   exact ⟨_,rq,kqR Cy.o,bq2 HB.o (aA.ge A1.o) Ap.o⟩
 replace H:=iT H
 obtain ⟨C6,C7⟩:∃y_:List Int,y_=(([]:List Int)):=⟨_,rfl⟩
 replace H:((bC.f Am B8 B9 3).bind fun D8=>((bT.f k D8.1).bind fun Bl=>((aY.f k (([]:List Int)) 2 Bl).bind fun Bm=>((aY.f k Bm 4 (([121,97,114,100]:List Int))).bind fun Bn=>((eW.f k B3 B4 B5 B6 Ax).bind fun Be=>(if Bn.length+Be.length<140737488355328 then ((aY.f k C6 48 (Bn++Be)).bind fun C3=>(some (Br,C3))) else (none)))))))=some (r1,r2):=hx H C7
 have Cn:=am C7
 clear C7
 generalize C8:((([121,97,114,100]:List Int)):List Int)=Bj at H
 have Bx:=am C8.symm
 clear C8
 generalize Co:((([]:List Int)):List Int)=Cl at H
 have Cp:=am Co.symm
 clear Co
 replace H:=be H
 obtain ⟨⟨Bu,Cq,Cr⟩,H4,H⟩:=H
 try dsimp only at H
 replace H:=be H
 obtain ⟨Bl,H5,H⟩:=H
 replace H:=be H
 obtain ⟨Bm,H6,H⟩:=H
 replace H:=be H
 obtain ⟨Bn,H7,H⟩:=H
 replace H:=be H
 obtain ⟨Be,H8,H⟩:=H
 replace H:=nq H
 obtain ⟨Gl,H⟩:=H
 have D9:=am Gl
 clear Gl
 generalize C9:((Bn++Be):List Int)=C4 at H
 have Cz:=am C9.symm
 clear C9
 replace H:=be H
 obtain ⟨C3,H9,H⟩:=H
 simp only [lW,lX] at H
 obtain ⟨rfl,rfl⟩:=H
 go_enter Try.func61,Try.ntmps61
 try go_wp2_with (first|((with_reducible refine aE (f:=74) rfl ?_);refine gc (some 8) (d7.calls k _ _ l0 Am Bp Bq w _ (bq HB.o) Ga.o Gb.o Gc.o) Try.func74 ?_;rintro e Ht ⟨Av,rfl,hi,hb,Ev⟩;refine ⟨_,rfl,?_⟩;have n_:=ak2 hb hi;clear HB;obtain ⟨HB,A1⟩:=n_;(try clear hb Ev hi))|((with_reducible refine aI (N:=10) rfl ?_);refine Kd.R_lit Kd.string _ 9 ?hg (N:=10) ?hd (xs:=([(⟨#[121,97,114,100]⟩:ByteArray),(⟨#[121,97,114,100]⟩:ByteArray),(⟨#[111,112,101,110]⟩:ByteArray)]:List ByteArray)) (inner:=[.string (⟨#[121,97,114,100]⟩:ByteArray),.string (⟨#[121,97,114,100]⟩:ByteArray),.string (⟨#[111,112,101,110]⟩:ByteArray)]) (ok:=fun _=>True) (okp:=fun _=>True) ?hr ?hp (fun _ hk=>hk) trivial (Below.refl _ _) (lZ _) (by simp) ?_;(case hd=>rfl);(case hg=>rfl);(case hr=>exact gs);(case hp=>exact (a9.one (show Kd.M Kd.string _ _ _ (⟨#[121,97,114,100]⟩:ByteArray) [.string (⟨#[121,97,114,100]⟩:ByteArray)] from rfl) (a9.one (show Kd.M Kd.string _ _ _ (⟨#[121,97,114,100]⟩:ByteArray) [.string (⟨#[121,97,114,100]⟩:ByteArray)] from rfl) (a9.one (show Kd.M Kd.string _ _ _ (⟨#[111,112,101,110]⟩:ByteArray) [.string (⟨#[111,112,101,110]⟩:ByteArray)] from rfl) (a9.none _ _)))));intro Ew Hu Ca hb hg_ hnew_;clear hg_ hnew_;(first|rw [← C1.o] at Ca|(simp only [Int.reduceToNat] at Ca;rw [← C1.o] at Ca));have n_:=ak3 (rl Ca (bq1 HB.o (aA.ge A1.o))) (aA.below (aA.q0 A1.o) hb) (aC (bq1 HB.o (aA.ge A1.o)) hb);clear A1 HB;obtain ⟨A3,A1,HB⟩:=n_;clear hb Ca;obtain ⟨G1,G2,G3⟩:=Kd.R_slice A3.o;subst G3)|((with_reducible refine aE (f:=114) rfl ?_);refine gc (some 11) (eY.calls Av Am Bp Bq _ _ Ck Br Bs Bt w _ (aA.q0 A1.o) (bq1 HB.o (aA.ge A1.o)) (cq (Kd.R_reads' A3.o).2.2) ((Kd.R_reads' A3.o).2.1) (eQ (aA.own_ne A1.o A3.o (by decide))) Gd.o) Try.func114 ?_;rintro e Hv ⟨rfl,hi,hb,hk⟩;refine ⟨_,rfl,?_⟩;have n_:=ak3 (Kd.R_mono (Kd.R_keep (aA.apart (show aA w _ Av Am Bp Bq from aA.q0 A1.o) (kqR A3.o) (by decide)) hk (fun _ h=>h.2)) (fun _ h=>h.1)) hb hi;clear A3 HB A1;obtain ⟨A3,HB,A1⟩:=n_;(try clear hb hk hi))|((with_reducible refine aE (f:=121) rfl ?_);refine gc (some 13) (bI.calls k Av Am Bs Bt B3 B4 B5 B6 Ax Bb Bc w _ (aA.q0 A1.o) (bq1 HB.o (aA.ge A1.o)) Ge.o) Try.func121 ?_;rintro e Hw ⟨Ey,rfl,Bk,hi,hb,hk⟩;refine ⟨_,rfl,?_⟩;have n_:=ak4 (Kd.R_mono (Kd.R_keep (aA.apart (show aA w _ Av Am Bs Bt from aA.q0 A1.o) (kqR A3.o) (by decide)) hk (fun _ h=>h.2)) (fun _ h=>h.1)) (Kd.S_lower Bk (aH (bq1 HB.o (aA.ge A1.o)))) hb hi;clear A3 HB A1;obtain ⟨A3,A8,HB,A1⟩:=n_;(try clear hb hk hi Bk))|((with_reducible refine aI (N:=6) rfl ?_);refine bxe 6 #[.int .i64 0,.int .i64 0,.int .i64 0,.int .i64 0,.slice none 0 0] 58 ?_;intro Aw hg Ha hbox hb;have n_:=ak9 (rb A3 hb) (Kd.S_below (kqS A8.o) hb) (aA.below (aA.q0 A1.o) hb) (aC (bq1 HB.o (aA.ge A1.o)) hb) hbox (bz hg (bq1 HB.o (aA.ge A1.o))) (bz hg (bq1 HB.o (aA.ge A1.o))) ((by rw [hg];exact Nat.ne_of_lt (aA.lt (show aA w _ Av Am Bb Bc from aA.q0 A1.o)):Av≠Aw)) ((by rw [hg];exact Nat.ne_of_gt (aA.lt (show aA w _ Av Am Bb Bc from aA.q0 A1.o)):Aw≠Av));clear A3 A8 A1 HB;obtain ⟨A3,A8,A1,HB,A6,D5,Ap,A5,B7⟩:=n_;clear hb hbox hg;have Gm:=B7.o;have Gn:=A5.o;obtain ⟨El,Em,En,Eo,Ep,Eq,Er,Es,Et,Eu⟩:=cl5 A6.o;obtain ⟨Bg,Bh,G4⟩:=Kd.S_slice A8.o;subst G4)|((with_reducible refine aJ (t:=58) (p:=6) rfl ?_);refine se 58 6 (s5 Ha Aw (.int .i64 B3) (.int .i64 B4) (.int .i64 B5) (.int .i64 B6) (.slice Bg Ax.length Bh)) ?_;intro Go hw;have n_:=ak5 (sr5 hw A3 A6) (show Kd.S dV 116 Go w.heap.size (fun _=>True) (.slice Bg Ax.length Bh) Ax by rw [hw];exact (by (with_reducible repeat (first|apply Kd.S_alloc|apply Kd.S_drewN|apply Kd.S_drew));exact Kd.S_mono (Kd.S_far (p:=⟨Aw,4,none⟩) (Kd.S_far (p:=⟨Aw,3,none⟩) (Kd.S_far (p:=⟨Aw,2,none⟩) (Kd.S_far (p:=⟨Aw,1,none⟩) (Kd.S_far (p:=⟨Aw,0,none⟩) (Kd.S_types A8.o A6.o (by decide)) (fun _ hk=>hk.2) (.int .i64 B3)) (fun _ hk=>hk.2) (.int .i64 B4)) (fun _ hk=>hk.2) (.int .i64 B5)) (fun _ hk=>hk.2) (.int .i64 B6)) (fun _ hk=>hk.2) (.slice Bg Ax.length Bh)) (fun _ hk=>trivial))) (sc5 hw A6) (show aA w Go Av Am Bb Bc by rw [hw];exact (aA.q1 A1.o A5.o)) (sb hw (bq2 HB.o (aA.ge A1.o) Ap.o));clear hw A3 A8 A6 A1 HB;obtain ⟨A3,A8,A6,A1,HB⟩:=n_)|((with_reducible refine aE (f:=111) rfl ?_);refine gc (some 15) (eU.calls Av Am Bb Bc 8 true B8 B9 w _ (aA.q1 A1.o A5.o) (bq2 HB.o (aA.ge A1.o) Ap.o) Gf.o) Try.func111 ?_;rintro e Hb ⟨rfl,hi,hb,hk⟩;refine ⟨_,rfl,?_⟩;have n_:=ak5 (Kd.R_mono (Kd.R_keep (aA.apart (show aA w _ Av Am Bb Bc from aA.q1 A1.o A5.o) (kqR A3.o) (by decide)) hk (fun _ h=>h.2)) (fun _ h=>h.1)) (Kd.S_mono (Kd.S_keep (aA.apartS (show aA w _ Av Am Bb Bc from aA.q1 A1.o A5.o) (kqS A8.o) (by decide)) hk (fun _ h=>h.2)) (fun _ h=>h.1)) (KeepBut.blk hk (zb A6.o) B7.o (by simp)) hb hi;clear A3 A8 A6 HB A1;obtain ⟨A3,A8,A6,HB,A1⟩:=n_;(try clear hb hk hi)))
 have n_:=ak5 (Kd.R_drew A3.o) (Kd.S_drew A8.o) (a7 A6.o) (aA.drew A1.o) (bD HB.o)
 clear A3 A8 A6 A1 HB
 obtain ⟨A3,A8,A6,A1,HB⟩:=n_
 refine dJ (n:=16) (S:=fun w'=>True) (ds:=[]) #[F,F,F,F,F,F,F,F,F,F,F,F,F,F,F,F] (by kernel_rfl) rfl rfl trivial (fun hHeld=>?_);refine bW cF.tab5 cF.bits5 (fun HT_ HW_=>?_)
 generalize Hb.drew=Hx at A3 A8 A6 A1 HB hHeld ⊢
 refine pv HT_ 0 (some 16) #[T,F,F,F,F,F,F,F,F,F,F,F,F,F,F,F] ?_
 refine pv HT_ 3 (some 19) #[T,F,F,T,F,F,F,F,F,F,F,F,F,F,F,F] ?_
 refine lP [1,2,4,5,6,7,8,9,10,11,12,13,14,15] (fun Hc b a w'=>∃(Az:Value) (B0:Value) (Ar:Value) (As:Value) (Al:Value) (An:Value) (At:Value) (Au:Value) (Ao:Value) (Bd:Value) (B2:Value),a=eV Hc b [(1,17,Az),(2,18,B0),(4,20,.int .i64 Bu),(5,21,Ar),(6,22,As),(7,23,Al),(8,24,Bd),(9,25,An),(10,26,.agg #[.int .i64 B3,.int .i64 B4,.int .i64 B5,.int .i64 B6,.slice Bg Ax.length Bh]),(11,27,At),(12,28,Au),(13,29,Ao),(14,2,.string Br),(15,3,B2)]∧(Kd.R Kd.string 9 w' w.heap.size (fun _=>True) (.slice G1 Ck.length G2) Ck)∧(Kd.S dV 116 w' w.heap.size (fun _=>True) (.slice Bg Ax.length Bh) Ax)∧(w'.heap[Aw]? =some (.cells #[.int .i64 B3,.int .i64 B4,.int .i64 B5,.int .i64 B6,.slice Bg Ax.length Bh] 58 (0,0)))∧(b 4=false→aA w w' Av Am B8 B9)∧(Below w.heap.size w w')∧(b 1=true→b 13=false→Kd.R (Kd.int .u8) 5 w' w.heap.size (fun k=>(b 7=true→b 8=false→some k≠Al.ownBlock)∧(b 9=true→b 12=false→some k≠An.ownBlock)) Az C6)∧(b 2=true→b 6=false→Kd.R (Kd.int .u8) 5 w' w.heap.size (fun k=>b 7=true→b 8=false→some k≠Al.ownBlock) B0 Cl)∧(b 4=true→aA w w' Av Am Cq Cr)∧(b 5=true→b 6=false→Kd.R (Kd.int .u8) 5 w' w.heap.size (fun k=>b 7=true→b 8=false→some k≠Al.ownBlock) Ar Bl)∧(b 6=true→b 9=false→Kd.R (Kd.int .u8) 5 w' w.heap.size (fun k=>b 7=true→b 8=false→some k≠Al.ownBlock) As Bm)∧(b 7=true→b 8=false→Kd.R (Kd.int .u8) 5 w' w.heap.size (fun _=>True) Al Bj)∧(b 9=true→b 12=false→Kd.R (Kd.int .u8) 5 w' w.heap.size (fun k=>b 7=true→b 8=false→some k≠Al.ownBlock) An Bn)∧(b 11=true→b 12=false→Kd.R (Kd.int .u8) 5 w' w.heap.size (fun k=>b 7=true→b 8=false→some k≠Al.ownBlock) At Be)∧(b 12=true→b 13=false→Kd.R (Kd.int .u8) 5 w' w.heap.size (fun _=>True) Au C4)∧(b 13=true→Kd.R (Kd.int .u8) 5 w' w.heap.size (fun _=>True) Ao C3)∧(b 8=true→b 9=false→∃(g c:Nat) (cur:Array Value) (m:Nat × Nat),Bd=.slice (some ⟨g,0,none⟩) Bj.length c∧w'.heap[g]? =some (.cells cur 5 m)∧(∀W':World,W'.heap[g]? =some (.cells cur 5 m)→(Kd.int .u8).C W' (some ⟨g,0,none⟩) Bj.length Bj)∧Bj.length≤c)∧(b 15=true→(B2:Value)=Ao)) HT_.o HW_.o (by kernel_rfl) (by kernel_rfl) ?_ ?_ ?_
 · exact ⟨.bool false,.bool false,.bool false,.bool false,.bool false,.bool false,.bool false,.bool false,.bool false,.bool false,.bool false,by simp only [eV,Bool.false_eq_true,if_false],A3.o,A8.o,A6.o,fun _=>A1.o,HB.o,fun h_=>absurd h_ (by decide),fun h_=>absurd h_ (by decide),fun h_=>absurd h_ (by decide),fun h_=>absurd h_ (by decide),fun h_=>absurd h_ (by decide),fun h_=>absurd h_ (by decide),fun h_=>absurd h_ (by decide),fun h_=>absurd h_ (by decide),fun h_=>absurd h_ (by decide),fun h_=>absurd h_ (by decide),fun h_=>absurd h_ (by decide),fun h_=>absurd h_ (by decide)⟩
 · skip
   clear A6 HB A1 A3 A8
   refine dY ?_ ?_
   · rintro b a w' ⟨Az,B0,Ar,As,Al,An,At,Au,Ao,Bd,B2,ha,Ag,Ah,Ai,Aq,Q_HB,Aj,Ak,A2,Ad,Ae,A7,A9,Ab,Af,Ac,Ay,B1⟩ hb_ hon hoff
     refine ⟨_,rfl,fun K hK=>?_⟩
     replace ha:=am ha
     have A3:=am Ag
     have A8:=am Ah
     have A6:=am Ai
     have HB:=am Q_HB
     refine Kd.R_lit_step (Kd.int .u8) _ 5 ?hg (N:=17) ?hd (xs:=([]:List Int)) (inner:=[]) (ok:=fun _=>True) (okp:=fun _=>True) ?hr ?hp (fun _ hk=>hk) trivial (Below.refl _ _) (lZ _) (by simp) ?_;(case hd=>rfl);(case hg=>rfl);(case hr=>exact gs);(case hp=>exact (a9.none _ _))
     intro Az G5 Ba hb hg_ hnew_
     clear hg_ hnew_
     (first|rw [← Cn.o] at Ba|(simp only [Int.reduceToNat] at Ba;rw [← Cn.o] at Ba))
     refine hK.out _ _ ⟨Az,B0,Ar,As,Al,An,At,Au,Ao,Bd,B2,(by rw [ha.o];exact dZ 0 hb_ rfl rfl rfl),(rb A3 hb),(Kd.S_below (kqS A8.o) hb),(kb A6 hb),fun A4=>(aA.below (Aq A4) hb),(aC (bq1 HB.o Ap.o) hb),fun _ _=>(if q7:b 7=true∧b 8=false then (if q:b 9=true∧b 12=false then Kd.R_mono (Kd.R_lower (Kd.R_new' (Kd.R_new' Ba (Kd.R_lt (A7 q7.1 q7.2))) (Kd.R_lt (A9 q.1 q.2))) (aH (bq1 HB.o Ap.o))) (fun _ hk=>⟨fun _ _=>hk.1.2,fun _ _=>hk.2⟩) else Kd.R_mono (Kd.R_lower (Kd.R_new' Ba (Kd.R_lt (A7 q7.1 q7.2))) (aH (bq1 HB.o Ap.o))) (fun _ hk=>⟨fun _ _=>hk.2,fun p1 p2=>absurd ⟨p1,p2⟩ q⟩)) else (if q:b 9=true∧b 12=false then Kd.R_mono (Kd.R_lower (Kd.R_new' Ba (Kd.R_lt (A9 q.1 q.2))) (aH (bq1 HB.o Ap.o))) (fun _ hk=>⟨fun p1 p2=>absurd ⟨p1,p2⟩ q7,fun _ _=>hk.2⟩) else Kd.R_mono (Kd.R_lower Ba (aH (bq1 HB.o Ap.o))) (fun _ _=>⟨fun p1 p2=>absurd ⟨p1,p2⟩ q7,fun p1 p2=>absurd ⟨p1,p2⟩ q⟩))),fun A4 Aa=>(rb (am (Ak A4 Aa)) hb),fun A4=>(aA.below (A2 A4) hb),fun A4 Aa=>(rb (am (Ad A4 Aa)) hb),fun A4 Aa=>(rb (am (Ae A4 Aa)) hb),fun A4 Aa=>(rb (am (A7 A4 Aa)) hb),fun A4 Aa=>(rb (am (A9 A4 Aa)) hb),fun A4 Aa=>(rb (am (Ab A4 Aa)) hb),fun A4 Aa=>(rb (am (Af A4 Aa)) hb),fun A4=>(rb (am (Ac A4)) hb),fun A4 Aa=>by obtain ⟨g,c,cur,m,h1,h2,h3,h4⟩:=Ay A4 Aa;exact ⟨g,c,cur,m,h1,bV h2 hb,h3,h4⟩,fun A4=>absurd ((hoff 15 (by kernel_rfl)).symm.trans A4) (by decide)⟩
   refine dY ?_ ?_
   · rintro b a w' ⟨Az,B0,Ar,As,Al,An,At,Au,Ao,Bd,B2,ha,Ag,Ah,Ai,Aq,Q_HB,Aj,Ak,A2,Ad,Ae,A7,A9,Ab,Af,Ac,Ay,B1⟩ hb_ hon hoff
     refine ⟨_,rfl,fun K hK=>?_⟩
     replace ha:=am ha
     have A3:=am Ag
     have A8:=am Ah
     have A6:=am Ai
     have HB:=am Q_HB
     refine Kd.R_lit_step (Kd.int .u8) _ 5 ?hg (N:=18) ?hd (xs:=([]:List Int)) (inner:=[]) (ok:=fun _=>True) (okp:=fun _=>True) ?hr ?hp (fun _ hk=>hk) trivial (Below.refl _ _) (lZ _) (by simp) ?_;(case hd=>rfl);(case hg=>rfl);(case hr=>exact gs);(case hp=>exact (a9.none _ _))
     intro B0 G5 Ba hb hg_ hnew_
     clear hg_ hnew_
     (first|rw [← Cp.o] at Ba|(simp only [Int.reduceToNat] at Ba;rw [← Cp.o] at Ba))
     refine hK.out _ _ ⟨Az,B0,Ar,As,Al,An,At,Au,Ao,Bd,B2,(by rw [ha.o];exact dZ 1 hb_ rfl rfl rfl),(rb A3 hb),(Kd.S_below (kqS A8.o) hb),(kb A6 hb),fun A4=>(aA.below (Aq A4) hb),(aC (bq1 HB.o Ap.o) hb),fun A4 Aa=>(rb (am (Aj A4 Aa)) hb),fun _ _=>(if q7:b 7=true∧b 8=false then Kd.R_mono (Kd.R_lower (Kd.R_new' Ba (Kd.R_lt (A7 q7.1 q7.2))) (aH (bq1 HB.o Ap.o))) (fun _ hk _ _=>hk.2) else Kd.R_mono (Kd.R_lower Ba (aH (bq1 HB.o Ap.o))) (fun _ _ p1 p2=>absurd ⟨p1,p2⟩ q7)),fun A4=>(aA.below (A2 A4) hb),fun A4 Aa=>(rb (am (Ad A4 Aa)) hb),fun A4 Aa=>(rb (am (Ae A4 Aa)) hb),fun A4 Aa=>(rb (am (A7 A4 Aa)) hb),fun A4 Aa=>(rb (am (A9 A4 Aa)) hb),fun A4 Aa=>(rb (am (Ab A4 Aa)) hb),fun A4 Aa=>(rb (am (Af A4 Aa)) hb),fun A4=>(rb (am (Ac A4)) hb),fun A4 Aa=>by obtain ⟨g,c,cur,m,h1,h2,h3,h4⟩:=Ay A4 Aa;exact ⟨g,c,cur,m,h1,bV h2 hb,h3,h4⟩,fun A4=>absurd ((hoff 15 (by kernel_rfl)).symm.trans A4) (by decide)⟩
   refine dY ?_ ?_
   · rintro b a w' ⟨Az,B0,Ar,As,Al,An,At,Au,Ao,Bd,B2,ha,Ag,Ah,Ai,Aq,Q_HB,Aj,Ak,A2,Ad,Ae,A7,A9,Ab,Af,Ac,Ay,B1⟩ hb_ hon hoff
     refine ⟨_,rfl,fun K hK=>?_⟩
     have Gp:a.tmps[19]? =some (.pointer (some ⟨Av,0,none⟩)):=by rw [ha];exact (fO rfl).trans rfl
     replace ha:=am ha
     have A3:=am Ag
     have A8:=am Ah
     have A6:=am Ai
     have A1:=am (Aq hb_)
     have HB:=am Q_HB
     refine cY Try.func122 (by kernel_rfl) rfl #[.pointer (some ⟨Av,0,none⟩),.int .i64 3] (by rfl) rfl rfl (by first|(simp only [List.map_toArray,List.map_cons,List.map_nil,Act.eval,Array.getD_eq_getD_getElem?,Option.getD_some,Gp];done)|(simp only [List.map_toArray,List.map_cons,List.map_nil,Act.eval,Array.getD_eq_getD_getElem?,Option.getD_some,Gp];rfl)) ?_
     with_reducible refine (bC.calls Av Am B8 B9 3 Bu Cq Cr w _ ?side1 ?side2 H4.o).mono ?_
     (case side1=>exact aA.q1 A1.o A5.o)
     (case side2=>exact bq2 HB.o (aA.ge A1.o) Ap.o)
     rintro e G5 ⟨rfl,hi,hb,hk⟩
     refine ⟨_,rfl,?_⟩
     refine hK.out _ _ ⟨Az,B0,Ar,As,Al,An,At,Au,Ao,Bd,B2,(by rw [ha.o];exact dZ 2 hb_ rfl rfl rfl),(Kd.R_mono (Kd.R_keep (aA.apart (show aA w _ Av Am B8 B9 from aA.q1 A1.o A5.o) (kqR A3.o) (by decide)) hk (fun _ h=>h.2)) (fun _ h=>h.1)),(Kd.S_mono (Kd.S_keep (aA.apartS (show aA w _ Av Am B8 B9 from aA.q1 A1.o A5.o) (kqS A8.o) (by decide)) hk (fun _ h=>h.2)) (fun _ h=>h.1)),(KeepBut.blk hk (zb A6.o) B7.o (by simp)),fun A4=>absurd ((eL b 4).symm.trans A4) (by decide),hb,fun A4 Aa=>(Kd.R_mono (Kd.R_keep (aA.apart (show aA w _ Av Am B8 B9 from aA.q1 A1.o A5.o) (Aj A4 Aa) (by decide)) hk (fun _ h=>h.2)) (fun _ h=>h.1)),fun A4 Aa=>(Kd.R_mono (Kd.R_keep (aA.apart (show aA w _ Av Am B8 B9 from aA.q1 A1.o A5.o) (Ak A4 Aa) (by decide)) hk (fun _ h=>h.2)) (fun _ h=>h.1)),fun _=>hi,fun A4 Aa=>(Kd.R_mono (Kd.R_keep (aA.apart (show aA w _ Av Am B8 B9 from aA.q1 A1.o A5.o) (Ad A4 Aa) (by decide)) hk (fun _ h=>h.2)) (fun _ h=>h.1)),fun A4 Aa=>(Kd.R_mono (Kd.R_keep (aA.apart (show aA w _ Av Am B8 B9 from aA.q1 A1.o A5.o) (Ae A4 Aa) (by decide)) hk (fun _ h=>h.2)) (fun _ h=>h.1)),fun A4 Aa=>(Kd.R_mono (Kd.R_keep (aA.apart (show aA w _ Av Am B8 B9 from aA.q1 A1.o A5.o) (A7 A4 Aa) (by decide)) hk (fun _ h=>h.2)) (fun _ h=>h.1)),fun A4 Aa=>(Kd.R_mono (Kd.R_keep (aA.apart (show aA w _ Av Am B8 B9 from aA.q1 A1.o A5.o) (A9 A4 Aa) (by decide)) hk (fun _ h=>h.2)) (fun _ h=>h.1)),fun A4 Aa=>(Kd.R_mono (Kd.R_keep (aA.apart (show aA w _ Av Am B8 B9 from aA.q1 A1.o A5.o) (Ab A4 Aa) (by decide)) hk (fun _ h=>h.2)) (fun _ h=>h.1)),fun A4 Aa=>(Kd.R_mono (Kd.R_keep (aA.apart (show aA w _ Av Am B8 B9 from aA.q1 A1.o A5.o) (Af A4 Aa) (by decide)) hk (fun _ h=>h.2)) (fun _ h=>h.1)),fun A4=>(Kd.R_mono (Kd.R_keep (aA.apart (show aA w _ Av Am B8 B9 from aA.q1 A1.o A5.o) (Ac A4) (by decide)) hk (fun _ h=>h.2)) (fun _ h=>h.1)),fun A4 Aa=>by obtain ⟨g,c,cur,m,h1,h2,h3,h4⟩:=Ay A4 Aa;exact ⟨g,c,cur,m,h1,KeepBut.blk hk h2 (fun e=>aA.no5 A1.o (e ▸ h2)) (by simp),h3,h4⟩,fun A4=>absurd ((hoff 15 (by kernel_rfl)).symm.trans A4) (by decide)⟩
   refine dY ?_ ?_
   · rintro b a w' ⟨Az,B0,Ar,As,Al,An,At,Au,Ao,Bd,B2,ha,Ag,Ah,Ai,Aq,Q_HB,Aj,Ak,A2,Ad,Ae,A7,A9,Ab,Af,Ac,Ay,B1⟩ hb_ hon hoff
     refine ⟨_,rfl,fun K hK=>?_⟩
     have Gq:a.tmps[20]? =some (.int .i64 Bu):=by rw [ha];exact eR (e:=(4,20,.int .i64 Bu)) 2 rfl rfl (hon 4 (by kernel_rfl)) rfl
     replace ha:=am ha
     have A3:=am Ag
     have A8:=am Ah
     have A6:=am Ai
     have HB:=am Q_HB
     have A1:=am (A2 (hon 4 (by kernel_rfl)))
     refine cY Try.func64 (by kernel_rfl) rfl #[.int .i64 Bu] (by rfl) rfl rfl (by first|(simp only [List.map_toArray,List.map_cons,List.map_nil,Act.eval,Array.getD_eq_getD_getElem?,Option.getD_some,Gq];done)|(simp only [List.map_toArray,List.map_cons,List.map_nil,Act.eval,Array.getD_eq_getD_getElem?,Option.getD_some,Gq];rfl)) ?_
     with_reducible refine (bT.calls k Bu Bl _ H5.o).mono ?_
     rintro e Hy ⟨Ar,rfl,Bk,hb⟩
     refine ⟨_,rfl,?_⟩
     refine hK.out _ _ ⟨Az,B0,Ar,As,Al,An,At,Au,Ao,Bd,B2,(by rw [ha.o];exact dZ 3 hb_ rfl rfl rfl),(rb A3 hb),(Kd.S_below (kqS A8.o) hb),(kb A6 hb),fun A4=>absurd ((hon 4 (by kernel_rfl)).symm.trans A4) (by decide),(aC (bq2 HB.o (aA.ge A1.o) Ap.o) hb),fun A4 Aa=>(rb (am (Aj A4 Aa)) hb),fun A4 Aa=>(rb (am (Ak A4 Aa)) hb),fun _=>(aA.below (aA.q1 A1.o A5.o) hb),fun _ _=>(if q7:b 7=true∧b 8=false then Kd.R_mono (Kd.R_lower (Kd.R_new' Bk (Kd.R_lt (A7 q7.1 q7.2))) (aH (bq2 HB.o (aA.ge A1.o) Ap.o))) (fun _ hk _ _=>hk.2) else Kd.R_mono (Kd.R_lower Bk (aH (bq2 HB.o (aA.ge A1.o) Ap.o))) (fun _ _ p1 p2=>absurd ⟨p1,p2⟩ q7)),fun A4 Aa=>(rb (am (Ae A4 Aa)) hb),fun A4 Aa=>(rb (am (A7 A4 Aa)) hb),fun A4 Aa=>(rb (am (A9 A4 Aa)) hb),fun A4 Aa=>(rb (am (Ab A4 Aa)) hb),fun A4 Aa=>(rb (am (Af A4 Aa)) hb),fun A4=>(rb (am (Ac A4)) hb),fun A4 Aa=>by obtain ⟨g,c,cur,m,h1,h2,h3,h4⟩:=Ay A4 Aa;exact ⟨g,c,cur,m,h1,bV h2 hb,h3,h4⟩,fun A4=>absurd ((hoff 15 (by kernel_rfl)).symm.trans A4) (by decide)⟩
   refine dY ?_ ?_
   · rintro b a w' ⟨Az,B0,Ar,As,Al,An,At,Au,Ao,Bd,B2,ha,Ag,Ah,Ai,Aq,Q_HB,Aj,Ak,A2,Ad,Ae,A7,A9,Ab,Af,Ac,Ay,B1⟩ hb_ hon hoff
     refine ⟨_,rfl,fun K hK=>?_⟩
     have Gr:a.tmps[18]? =some (B0):=by rw [ha];exact eR (e:=(2,18,B0)) 1 rfl rfl (hon 2 (by kernel_rfl)) rfl
     have Gs:a.tmps[21]? =some (Ar):=by rw [ha];exact eR (e:=(5,21,Ar)) 3 rfl rfl (hon 5 (by kernel_rfl)) rfl
     replace ha:=am ha
     have A3:=am Ag
     have A8:=am Ah
     have A6:=am Ai
     have HB:=am Q_HB
     have Cb:=am (Ak (hon 2 (by kernel_rfl)) hb_)
     have A1:=am (A2 (hon 4 (by kernel_rfl)))
     have By:=am (Ad (hon 5 (by kernel_rfl)) hb_)
     obtain ⟨Da,Db,Dc⟩:=Kd.R_slice Cb.o
     (first|subst Dc|(injection Dc with Bv Cc Bw;have Cd:=Bv.symm;have Ce:=Bw.symm;clear Bv Cc Bw;subst Cd;subst Ce))
     obtain ⟨Dd,De,Df⟩:=Kd.R_slice By.o
     (first|subst Df|(injection Df with Bv Cc Bw;have Cd:=Bv.symm;have Ce:=Bw.symm;clear Bv Cc Bw;subst Cd;subst Ce))
     refine cY Try.func66 (by kernel_rfl) rfl #[.slice Da Cl.length Db,.int .i64 2,.slice Dd Bl.length De] (by rfl) rfl rfl (by first|(simp only [List.map_toArray,List.map_cons,List.map_nil,Act.eval,Array.getD_eq_getD_getElem?,Option.getD_some,Gr,Gs];done)|(simp only [List.map_toArray,List.map_cons,List.map_nil,Act.eval,Array.getD_eq_getD_getElem?,Option.getD_some,Gr,Gs];rfl)) ?_
     with_reducible refine (aY.calls k _ _ Cl 2 _ _ Bl Bm _ ?side1 ?side2 ?side3 ?side4 H6.o).mono ?_
     (case side1=>repeat (first|exact (Kd.R_reads' Cb.o).2.2|(with_reducible refine Kd.C_alloc ?_ _)|(with_reducible refine Kd.C_drewN ?_ _)|(with_reducible refine Kd.C_drew ?_)))
     (case side2=>exact (Kd.R_reads' Cb.o).2.1)
     (case side3=>repeat (first|exact (Kd.R_reads' By.o).2.2|(with_reducible refine Kd.C_alloc ?_ _)|(with_reducible refine Kd.C_drewN ?_ _)|(with_reducible refine Kd.C_drew ?_)))
     (case side4=>exact (Kd.R_reads' By.o).2.1)
     rintro e Hz ⟨As,rfl,Bk,hb⟩
     refine ⟨_,rfl,?_⟩
     refine hK.out _ _ ⟨Az,.slice Da Cl.length Db,.slice Dd Bl.length De,As,Al,An,At,Au,Ao,Bd,B2,(by rw [ha.o];exact dZ 4 hb_ rfl rfl rfl),(rb A3 hb),(Kd.S_below (kqS A8.o) hb),(kb A6 hb),fun A4=>absurd ((hon 4 (by kernel_rfl)).symm.trans A4) (by decide),(aC (bq2 HB.o (aA.ge A1.o) Ap.o) hb),fun A4 Aa=>(rb (am (Aj A4 Aa)) hb),fun _ Aa=>absurd ((eL b 6).symm.trans Aa) (by decide),fun _=>(aA.below (aA.q1 A1.o A5.o) hb),fun _ Aa=>absurd ((eL b 6).symm.trans Aa) (by decide),fun _ _=>(if q7:b 7=true∧b 8=false then Kd.R_mono (Kd.R_lower (Kd.R_new' Bk (Kd.R_lt (A7 q7.1 q7.2))) (aH (bq2 HB.o (aA.ge A1.o) Ap.o))) (fun _ hk _ _=>hk.2) else Kd.R_mono (Kd.R_lower Bk (aH (bq2 HB.o (aA.ge A1.o) Ap.o))) (fun _ _ p1 p2=>absurd ⟨p1,p2⟩ q7)),fun A4 Aa=>(rb (am (A7 A4 Aa)) hb),fun A4 Aa=>(rb (am (A9 A4 Aa)) hb),fun A4 Aa=>(rb (am (Ab A4 Aa)) hb),fun A4 Aa=>(rb (am (Af A4 Aa)) hb),fun A4=>(rb (am (Ac A4)) hb),fun A4 Aa=>by obtain ⟨g,c,cur,m,h1,h2,h3,h4⟩:=Ay A4 Aa;exact ⟨g,c,cur,m,h1,bV h2 hb,h3,h4⟩,fun A4=>absurd ((hoff 15 (by kernel_rfl)).symm.trans A4) (by decide)⟩
   refine dY ?_ ?_
   · rintro b a w' ⟨Az,B0,Ar,As,Al,An,At,Au,Ao,Bd,B2,ha,Ag,Ah,Ai,Aq,Q_HB,Aj,Ak,A2,Ad,Ae,A7,A9,Ab,Af,Ac,Ay,B1⟩ hb_ hon hoff
     refine ⟨_,rfl,fun K hK=>?_⟩
     replace ha:=am ha
     have A3:=am Ag
     have A8:=am Ah
     have A6:=am Ai
     have HB:=am Q_HB
     refine Kd.R_lit_step (Kd.int .u8) _ 5 ?hg (N:=23) ?hd (xs:=([121,97,114,100]:List Int)) (inner:=[.int .u8 121,.int .u8 97,.int .u8 114,.int .u8 100]) (ok:=fun _=>True) (okp:=fun _=>True) ?hr ?hp (fun _ hk=>hk) trivial (Below.refl _ _) (lZ _) (by simp) ?_;(case hd=>rfl);(case hg=>rfl);(case hr=>exact gs);(case hp=>exact (a9.one (show Kd.M (Kd.int .u8) _ _ _ 121 [.int .u8 121] from rfl) (a9.one (show Kd.M (Kd.int .u8) _ _ _ 97 [.int .u8 97] from rfl) (a9.one (show Kd.M (Kd.int .u8) _ _ _ 114 [.int .u8 114] from rfl) (a9.one (show Kd.M (Kd.int .u8) _ _ _ 100 [.int .u8 100] from rfl) (a9.none _ _))))))
     intro Al G5 Ba hb hg_ hnew_
     clear hg_ hnew_
     (first|rw [← Bx.o] at Ba|(simp only [Int.reduceToNat] at Ba;rw [← Bx.o] at Ba))
     refine hK.out _ _ ⟨Az,B0,Ar,As,Al,An,At,Au,Ao,Bd,B2,(by rw [ha.o];exact dZ 5 hb_ rfl rfl rfl),(rb A3 hb),(Kd.S_below (kqS A8.o) hb),(kb A6 hb),fun A4=>(aA.below (Aq A4) hb),(aC (bq1 HB.o Ap.o) hb),fun A4 Aa=>Kd.R_mono (re_ (am (Aj A4 Aa)) Ba hb) (fun _ hk=>⟨fun _ _=>hk.2,hk.1.2⟩),fun A4 Aa=>Kd.R_mono (re_ (am (Ak A4 Aa)) Ba hb) (fun _ hk=>fun _ _=>hk.2),fun A4=>(aA.below (A2 A4) hb),fun A4 Aa=>Kd.R_mono (re_ (am (Ad A4 Aa)) Ba hb) (fun _ hk=>fun _ _=>hk.2),fun A4 Aa=>Kd.R_mono (re_ (am (Ae A4 Aa)) Ba hb) (fun _ hk=>fun _ _=>hk.2),fun _ _=>(kqT (Kd.R_lower Ba (aH (bq1 HB.o Ap.o)))),fun A4 Aa=>Kd.R_mono (re_ (am (A9 A4 Aa)) Ba hb) (fun _ hk=>fun _ _=>hk.2),fun A4 Aa=>Kd.R_mono (re_ (am (Ab A4 Aa)) Ba hb) (fun _ hk=>fun _ _=>hk.2),fun A4 Aa=>(rb (am (Af A4 Aa)) hb),fun A4=>(rb (am (Ac A4)) hb),fun A4 _=>absurd ((hoff 8 (by kernel_rfl)).symm.trans A4) (by decide),fun A4=>absurd ((hoff 15 (by kernel_rfl)).symm.trans A4) (by decide)⟩
   refine dY ?_ ?_
   · rintro b a w' ⟨Az,B0,Ar,As,Al,An,At,Au,Ao,Bd,B2,ha,Ag,Ah,Ai,Aq,Q_HB,Aj,Ak,A2,Ad,Ae,A7,A9,Ab,Af,Ac,Ay,B1⟩ hb_ hon hoff
     refine ⟨_,rfl,fun K hK=>?_⟩
     have I0:a.tmps[23]? =some (Al):=by rw [ha];exact eR (e:=(7,23,Al)) 5 rfl rfl (hon 7 (by kernel_rfl)) rfl
     replace ha:=am ha
     have A3:=am Ag
     have A8:=am Ah
     have A6:=am Ai
     have HB:=am Q_HB
     have Bi:=am (A7 (hon 7 (by kernel_rfl)) hb_)
     obtain ⟨W2,g8,c8,Dg,m8,e8,hcv,hg,Hd,hblk,hrd,hle⟩:=j3 (t:=22) Try.underlying22 Try.underlying5 Bi.o (by rw [Bx.o];simp) HB.o
     replace e8:=am e8
     refine iU (w1:=W2) (v:=Al) (by rfl) rfl ?_ ?_
     · go_simp
       try rw [hcv]
     refine hK.out _ _ ⟨Az,B0,Ar,As,Al,An,At,Au,Ao,Al,B2,(by rw [ha.o];exact dZ 6 hb_ rfl rfl rfl),(Kd.R_over' (kqR A3.o) (Kd.R_typed (kqR Bi.o)) (by decide) hg),(Kd.S_over' (kqS A8.o) (Kd.R_typed (kqR Bi.o)) (by decide) hg),(b8 (g:=Aw) (o:=.cells #[.int .i64 B3,.int .i64 B4,.int .i64 B5,.int .i64 B6,.slice Bg Ax.length Bh] 58 (0,0)) (zq A6.o) hg (Kd.R_ne Bi.o A6.o (by decide))),fun A4=>(aA.grown (Aq A4) hg (aA.own_ne (Aq A4) Bi.o (by decide))),Hd,fun A4 Aa=>Kd.R_mono (Kd.R_after (ok:=fun k=>b 9=true→b 12=false→some k≠An.ownBlock) (Kd.R_mono (Aj A4 Aa) (fun _ hk=>⟨hk.2,hk.1 (hon 7 (by kernel_rfl)) hb_⟩)) hg (.inl rfl)) (fun _ hk=>⟨fun _ p=>absurd ((eL b 8).symm.trans p) (by decide),hk.1⟩),fun A4 Aa=>Kd.R_mono (Kd.R_after (ok:=fun _=>True) (Kd.R_mono (Ak A4 Aa) (fun _ hk=>⟨trivial,hk (hon 7 (by kernel_rfl)) hb_⟩)) hg (.inl rfl)) (fun _ hk=>fun _ p=>absurd ((eL b 8).symm.trans p) (by decide)),fun A4=>(aA.grown (A2 A4) hg (aA.own_ne (A2 A4) Bi.o (by decide))),fun A4 Aa=>Kd.R_mono (Kd.R_after (ok:=fun _=>True) (Kd.R_mono (Ad A4 Aa) (fun _ hk=>⟨trivial,hk (hon 7 (by kernel_rfl)) hb_⟩)) hg (.inl rfl)) (fun _ hk=>fun _ p=>absurd ((eL b 8).symm.trans p) (by decide)),fun A4 Aa=>Kd.R_mono (Kd.R_after (ok:=fun _=>True) (Kd.R_mono (Ae A4 Aa) (fun _ hk=>⟨trivial,hk (hon 7 (by kernel_rfl)) hb_⟩)) hg (.inl rfl)) (fun _ hk=>fun _ p=>absurd ((eL b 8).symm.trans p) (by decide)),fun _ Aa=>absurd ((eL b 8).symm.trans Aa) (by decide),fun A4 _=>absurd ((hoff 9 (by kernel_rfl)).symm.trans A4) (by decide),fun A4 Aa=>Kd.R_mono (Kd.R_after (ok:=fun _=>True) (Kd.R_mono (Ab A4 Aa) (fun _ hk=>⟨trivial,hk (hon 7 (by kernel_rfl)) hb_⟩)) hg (.inl rfl)) (fun _ _ _ p=>absurd ((eL b 8).symm.trans p) (by decide)),fun A4 _=>absurd ((hoff 12 (by kernel_rfl)).symm.trans A4) (by decide),fun A4=>absurd ((hoff 13 (by kernel_rfl)).symm.trans A4) (by decide),fun _ _=>⟨g8,c8,Dg,m8,e8.o,hblk,hrd,hle⟩,fun A4=>absurd ((hoff 15 (by kernel_rfl)).symm.trans A4) (by decide)⟩
   refine dY ?_ ?_
   · rintro b a w' ⟨Az,B0,Ar,As,Al,An,At,Au,Ao,Bd,B2,ha,Ag,Ah,Ai,Aq,Q_HB,Aj,Ak,A2,Ad,Ae,A7,A9,Ab,Af,Ac,Ay,B1⟩ hb_ hon hoff
     refine ⟨_,rfl,fun K hK=>?_⟩
     have Gt:a.tmps[22]? =some (As):=by rw [ha];exact eR (e:=(6,22,As)) 4 rfl rfl (hon 6 (by kernel_rfl)) rfl
     have Gu:a.tmps[24]? =some (Bd):=by rw [ha];exact eR (e:=(8,24,Bd)) 6 rfl rfl (hon 8 (by kernel_rfl)) rfl
     replace ha:=am ha
     have A3:=am Ag
     have A8:=am Ah
     have A6:=am Ai
     have HB:=am Q_HB
     have A1:=am (A2 (hon 4 (by kernel_rfl)))
     have Bz:=am (Ae (hon 6 (by kernel_rfl)) hb_)
     obtain ⟨Dh,Di,Dj⟩:=Kd.R_slice Bz.o
     (first|subst Dj|(injection Dj with Bv Cc Bw;have Cd:=Bv.symm;have Ce:=Bw.symm;clear Bv Cc Bw;subst Cd;subst Ce))
     obtain ⟨g8,Dk,Dg,I1,G6,hblk,hrd,hle⟩:=Ay (hon 8 (by kernel_rfl)) hb_
     subst G6
     refine cY Try.func66 (by kernel_rfl) rfl #[.slice Dh Bm.length Di,.int .i64 4,.slice (some ⟨g8,0,none⟩) Bj.length Dk] (by rfl) rfl rfl (by first|(simp only [List.map_toArray,List.map_cons,List.map_nil,Act.eval,Array.getD_eq_getD_getElem?,Option.getD_some,Gt,Gu];done)|(simp only [List.map_toArray,List.map_cons,List.map_nil,Act.eval,Array.getD_eq_getD_getElem?,Option.getD_some,Gt,Gu];rfl)) ?_
     with_reducible refine (aY.calls k _ _ Bm 4 _ _ Bj Bn _ ?side1 ?side2 ?side3 ?side4 H7.o).mono ?_
     (case side1=>repeat (first|exact (Kd.R_reads' Bz.o).2.2|(with_reducible refine Kd.C_alloc ?_ _)|(with_reducible refine Kd.C_drewN ?_ _)|(with_reducible refine Kd.C_drew ?_)))
     (case side2=>exact (Kd.R_reads' Bz.o).2.1)
     (case side3=>repeat (first|exact hrd _ hblk|(with_reducible refine Kd.C_alloc ?_ _)|(with_reducible refine Kd.C_drewN ?_ _)|(with_reducible refine Kd.C_drew ?_)))
     (case side4=>exact hle)
     rintro e I2 ⟨An,rfl,Bk,hb⟩
     refine ⟨_,rfl,?_⟩
     refine hK.out _ _ ⟨Az,B0,Ar,.slice Dh Bm.length Di,Al,An,At,Au,Ao,.slice (some ⟨g8,0,none⟩) Bj.length Dk,B2,(by rw [ha.o];exact dZ 7 hb_ rfl rfl rfl),(rb A3 hb),(Kd.S_below (kqS A8.o) hb),(kb A6 hb),fun A4=>absurd ((hon 4 (by kernel_rfl)).symm.trans A4) (by decide),(aC (bq2 HB.o (aA.ge A1.o) Ap.o) hb),fun A4 Aa=>Kd.R_mono (re_ (am (Aj A4 Aa)) Bk hb) (fun _ hk=>⟨fun _ p2=>absurd ((hon 8 (by kernel_rfl)).symm.trans p2) (by decide),fun _ _=>hk.2⟩),fun A4 Aa=>(rb (am (Ak A4 Aa)) hb),fun _=>(aA.below (aA.q1 A1.o A5.o) hb),fun A4 Aa=>(rb (am (Ad A4 Aa)) hb),fun _ Aa=>absurd ((eL b 9).symm.trans Aa) (by decide),fun A4 Aa=>(rb (am (A7 A4 Aa)) hb),fun _ _=>Kd.R_mono (Kd.R_lower Bk (aH (bq2 HB.o (aA.ge A1.o) Ap.o))) (fun _ _ _ p2=>absurd ((hon 8 (by kernel_rfl)).symm.trans p2) (by decide)),fun A4 Aa=>(rb (am (Ab A4 Aa)) hb),fun A4 Aa=>(rb (am (Af A4 Aa)) hb),fun A4=>(rb (am (Ac A4)) hb),fun _ Aa=>absurd ((eL b 9).symm.trans Aa) (by decide),fun A4=>absurd ((hoff 15 (by kernel_rfl)).symm.trans A4) (by decide)⟩
   refine dY ?_ ?_
   · rintro b a w' ⟨Az,B0,Ar,As,Al,An,At,Au,Ao,Bd,B2,ha,Ag,Ah,Ai,Aq,Q_HB,Aj,Ak,A2,Ad,Ae,A7,A9,Ab,Af,Ac,Ay,B1⟩ hb_ hon hoff
     refine ⟨_,rfl,fun K hK=>?_⟩
     have e6:a.tmps[6]? =some (.pointer (some ⟨Aw,0,none⟩)):=by rw [ha];exact (fO rfl).trans rfl
     replace ha:=am ha
     have A3:=am Ag
     have A8:=am Ah
     have A6:=am Ai
     have HB:=am Q_HB
     have He:w'.cell? ⟨Aw,0,none⟩=some (.int .i64 B3):=(aD A6.o 0).trans rfl
     have Hf:w'.cell? ⟨Aw,1,none⟩=some (.int .i64 B4):=(aD A6.o 1).trans rfl
     have Hg:w'.cell? ⟨Aw,2,none⟩=some (.int .i64 B5):=(aD A6.o 2).trans rfl
     have Hh:w'.cell? ⟨Aw,3,none⟩=some (.int .i64 B6):=(aD A6.o 3).trans rfl
     have Hi:w'.cell? ⟨Aw,4,none⟩=some (.slice Bg Ax.length Bh):=(aD A6.o 4).trans rfl
     refine iU (w1:=w') (v:=.agg #[.int .i64 B3,.int .i64 B4,.int .i64 B5,.int .i64 B6,.slice Bg Ax.length Bh]) (by rfl) rfl ?_ ?_
     · go_simp
       (try simp only [aK])
       try first|rfl|(rw [conv_self Try.underlying22];rfl)
     refine hK.out _ _ ⟨Az,B0,Ar,As,Al,An,At,Au,Ao,Bd,B2,(by rw [ha.o];exact dZ 8 hb_ rfl rfl rfl),Ag,Ah,Ai,Aq,Q_HB,Aj,Ak,A2,Ad,Ae,A7,A9,Ab,Af,Ac,Ay,fun A4=>absurd ((hoff 15 (by kernel_rfl)).symm.trans A4) (by decide)⟩
   refine dY ?_ ?_
   · rintro b a w' ⟨Az,B0,Ar,As,Al,An,At,Au,Ao,Bd,B2,ha,Ag,Ah,Ai,Aq,Q_HB,Aj,Ak,A2,Ad,Ae,A7,A9,Ab,Af,Ac,Ay,B1⟩ hb_ hon hoff
     refine ⟨_,rfl,fun K hK=>?_⟩
     have Gv:a.tmps[26]? =some (.agg #[.int .i64 B3,.int .i64 B4,.int .i64 B5,.int .i64 B6,.slice Bg Ax.length Bh]):=by rw [ha];exact eR (e:=(10,26,.agg #[.int .i64 B3,.int .i64 B4,.int .i64 B5,.int .i64 B6,.slice Bg Ax.length Bh])) 8 rfl rfl (hon 10 (by kernel_rfl)) rfl
     replace ha:=am ha
     have A3:=am Ag
     have A8:=am Ah
     have A6:=am Ai
     have HB:=am Q_HB
     have A1:=am (A2 (hon 4 (by kernel_rfl)))
     refine cY Try.func39 (by kernel_rfl) rfl #[.agg #[.int .i64 B3,.int .i64 B4,.int .i64 B5,.int .i64 B6,.slice Bg Ax.length Bh]] (by rfl) rfl rfl (by first|(simp only [List.map_toArray,List.map_cons,List.map_nil,Act.eval,Array.getD_eq_getD_getElem?,Option.getD_some,Gv];done)|(simp only [List.map_toArray,List.map_cons,List.map_nil,Act.eval,Array.getD_eq_getD_getElem?,Option.getD_some,Gv];rfl)) ?_
     with_reducible refine (eW.calls k B3 B4 B5 B6 _ _ Ax Be _ ?side1 ?side2 H8.o).mono ?_
     (case side1=>repeat (first|exact (Kd.S_reads' A8.o).2.2|(with_reducible refine Kd.C_alloc ?_ _)|(with_reducible refine Kd.C_drewN ?_ _)|(with_reducible refine Kd.C_drew ?_)))
     (case side2=>exact (Kd.S_reads' A8.o).2.1)
     rintro e I3 ⟨At,rfl,Bk,hb⟩
     refine ⟨_,rfl,?_⟩
     refine hK.out _ _ ⟨Az,B0,Ar,As,Al,An,At,Au,Ao,Bd,B2,(by rw [ha.o];exact dZ 9 hb_ rfl rfl rfl),(rb A3 hb),(Kd.S_below (kqS A8.o) hb),(kb A6 hb),fun A4=>absurd ((hon 4 (by kernel_rfl)).symm.trans A4) (by decide),(aC (bq2 HB.o (aA.ge A1.o) Ap.o) hb),fun A4 Aa=>(rb (am (Aj A4 Aa)) hb),fun A4 Aa=>(rb (am (Ak A4 Aa)) hb),fun _=>(aA.below (aA.q1 A1.o A5.o) hb),fun A4 Aa=>(rb (am (Ad A4 Aa)) hb),fun A4 Aa=>(rb (am (Ae A4 Aa)) hb),fun A4 Aa=>(rb (am (A7 A4 Aa)) hb),fun A4 Aa=>(rb (am (A9 A4 Aa)) hb),fun _ _=>(if q7:b 7=true∧b 8=false then Kd.R_mono (Kd.R_lower (Kd.R_new' Bk (Kd.R_lt (A7 q7.1 q7.2))) (aH (bq2 HB.o (aA.ge A1.o) Ap.o))) (fun _ hk _ _=>hk.2) else Kd.R_mono (Kd.R_lower Bk (aH (bq2 HB.o (aA.ge A1.o) Ap.o))) (fun _ _ p1 p2=>absurd ⟨p1,p2⟩ q7)),fun A4 Aa=>(rb (am (Af A4 Aa)) hb),fun A4=>(rb (am (Ac A4)) hb),fun A4 Aa=>by obtain ⟨g,c,cur,m,h1,h2,h3,h4⟩:=Ay A4 Aa;exact ⟨g,c,cur,m,h1,bV h2 hb,h3,h4⟩,fun A4=>absurd ((hoff 15 (by kernel_rfl)).symm.trans A4) (by decide)⟩
   refine dY ?_ ?_
   · rintro b a w' ⟨Az,B0,Ar,As,Al,An,At,Au,Ao,Bd,B2,ha,Ag,Ah,Ai,Aq,Q_HB,Aj,Ak,A2,Ad,Ae,A7,A9,Ab,Af,Ac,Ay,B1⟩ hb_ hon hoff
     refine ⟨_,rfl,fun K hK=>?_⟩
     have Hj:a.tmps[25]? =some (An):=by rw [ha];exact eR (e:=(9,25,An)) 7 rfl rfl (hon 9 (by kernel_rfl)) rfl
     have Hk:a.tmps[27]? =some (At):=by rw [ha];exact eR (e:=(11,27,At)) 9 rfl rfl (hon 11 (by kernel_rfl)) rfl
     replace ha:=am ha
     have A3:=am Ag
     have A8:=am Ah
     have A6:=am Ai
     have HB:=am Q_HB
     have A1:=am (A2 (hon 4 (by kernel_rfl)))
     have Bo:=am (A9 (hon 9 (by kernel_rfl)) hb_)
     have Cf:=am (Ab (hon 11 (by kernel_rfl)) hb_)
     obtain ⟨Dl,Dm,Dn⟩:=Kd.R_slice Cf.o
     (first|subst Dn|(injection Dn with Bv Cc Bw;have Cd:=Bv.symm;have Ce:=Bw.symm;clear Bv Cc Bw;subst Cd;subst Ce))
     refine Kd.R_append_rows_step (Kd.int .u8) (w0:=w) w.heap.size (by rfl) (.tmp 25) (.tmp 27) 22 5 (.int .u8 0) 1 rfl Try.underlying22 dS rfl (by decide) (by omega) An Bn Be Dl Be.length Dm (fun _=>True) (fun _=>False) (by simp [Act.eval,Array.getD_eq_getD_getElem?,Hj]) (by simp [Act.eval,Array.getD_eq_getD_getElem?,Hk]) ?aO ?aR (fun _ _ h=>h) (fun _ h=>h.elim) ?aF ?aB ?aS ?aL ?_
     (case aR=>repeat (first|exact (Kd.R_reads' Cf.o).2.2|(with_reducible refine Kd.C_alloc ?_ _)|(with_reducible refine Kd.C_drewN ?_ _)|(with_reducible refine Kd.C_drew ?_)))
     (case aB=>exact (bq2 HB.o (aA.ge A1.o) Ap.o))
     (case aF=>exact (fun _ _=>trivial))
     (case aO=>exact kqT Bo.o)
     (case aS=>exact (aH (bq2 HB.o (aA.ge A1.o) Ap.o)))
     (case aL=>have:=D9.o;omega)
     intro Au I4 ho hb hg hat
     rw [← Cz.o] at ho
     refine hK.out _ _ ⟨Az,B0,Ar,As,Al,An,.slice Dl Be.length Dm,Au,Ao,Bd,B2,(by rw [ha.o];exact dZ 10 hb_ rfl rfl rfl),(Kd.R_over' (kqR A3.o) (Kd.R_typed (kqR Bo.o)) (by decide) hg),(Kd.S_over' (kqS A8.o) (Kd.R_typed (kqR Bo.o)) (by decide) hg),(b8 (g:=Aw) (o:=.cells #[.int .i64 B3,.int .i64 B4,.int .i64 B5,.int .i64 B6,.slice Bg Ax.length Bh] 58 (0,0)) (zq A6.o) hg (Kd.R_ne Bo.o A6.o (by decide))),fun A4=>absurd ((hon 4 (by kernel_rfl)).symm.trans A4) (by decide),hb,fun A4 Aa=>Kd.R_mono (Kd.R_after (ok:=fun _=>True) (Kd.R_mono (Aj A4 Aa) (fun _ hk=>⟨trivial,hk.2 (hon 9 (by kernel_rfl)) hb_⟩)) hg hat) (fun _ _=>⟨fun _ p=>absurd ((hon 8 (by kernel_rfl)).symm.trans p) (by decide),fun _ p=>absurd ((eL b 12).symm.trans p) (by decide)⟩),fun _ Aa=>absurd ((hon 6 (by kernel_rfl)).symm.trans Aa) (by decide),fun _=>(aA.grown (aA.q1 A1.o A5.o) hg (aA.own_ne A1.o Bo.o (by decide))),fun _ Aa=>absurd ((hon 6 (by kernel_rfl)).symm.trans Aa) (by decide),fun _ Aa=>absurd ((hon 9 (by kernel_rfl)).symm.trans Aa) (by decide),fun _ Aa=>absurd ((hon 8 (by kernel_rfl)).symm.trans Aa) (by decide),fun _ Aa=>absurd ((eL b 12).symm.trans Aa) (by decide),fun _ Aa=>absurd ((eL b 12).symm.trans Aa) (by decide),fun _ _=>(kqT ho),fun A4=>absurd ((hoff 13 (by kernel_rfl)).symm.trans A4) (by decide),fun _ Aa=>absurd ((hon 9 (by kernel_rfl)).symm.trans Aa) (by decide),fun A4=>absurd ((hoff 15 (by kernel_rfl)).symm.trans A4) (by decide)⟩
   refine dY ?_ ?_
   · rintro b a w' ⟨Az,B0,Ar,As,Al,An,At,Au,Ao,Bd,B2,ha,Ag,Ah,Ai,Aq,Q_HB,Aj,Ak,A2,Ad,Ae,A7,A9,Ab,Af,Ac,Ay,B1⟩ hb_ hon hoff
     refine ⟨_,rfl,fun K hK=>?_⟩
     have Gw:a.tmps[17]? =some (Az):=by rw [ha];exact eR (e:=(1,17,Az)) 0 rfl rfl (hon 1 (by kernel_rfl)) rfl
     have Gx:a.tmps[28]? =some (Au):=by rw [ha];exact eR (e:=(12,28,Au)) 10 rfl rfl (hon 12 (by kernel_rfl)) rfl
     replace ha:=am ha
     have A3:=am Ag
     have A8:=am Ah
     have A6:=am Ai
     have HB:=am Q_HB
     have Cg:=am (Aj (hon 1 (by kernel_rfl)) hb_)
     have A1:=am (A2 (hon 4 (by kernel_rfl)))
     have C0:=am (Af (hon 12 (by kernel_rfl)) hb_)
     obtain ⟨Do,Dp,Dq⟩:=Kd.R_slice Cg.o
     (first|subst Dq|(injection Dq with Bv Cc Bw;have Cd:=Bv.symm;have Ce:=Bw.symm;clear Bv Cc Bw;subst Cd;subst Ce))
     obtain ⟨Dr,Ds,Dt⟩:=Kd.R_slice C0.o
     (first|subst Dt|(injection Dt with Bv Cc Bw;have Cd:=Bv.symm;have Ce:=Bw.symm;clear Bv Cc Bw;subst Cd;subst Ce))
     refine cY Try.func66 (by kernel_rfl) rfl #[.slice Do C6.length Dp,.int .i64 48,.slice Dr C4.length Ds] (by rfl) rfl rfl (by first|(simp only [List.map_toArray,List.map_cons,List.map_nil,Act.eval,Array.getD_eq_getD_getElem?,Option.getD_some,Gw,Gx];done)|(simp only [List.map_toArray,List.map_cons,List.map_nil,Act.eval,Array.getD_eq_getD_getElem?,Option.getD_some,Gw,Gx];rfl)) ?_
     with_reducible refine (aY.calls k _ _ C6 48 _ _ C4 C3 _ ?side1 ?side2 ?side3 ?side4 H9.o).mono ?_
     (case side1=>repeat (first|exact (Kd.R_reads' Cg.o).2.2|(with_reducible refine Kd.C_alloc ?_ _)|(with_reducible refine Kd.C_drewN ?_ _)|(with_reducible refine Kd.C_drew ?_)))
     (case side2=>exact (Kd.R_reads' Cg.o).2.1)
     (case side3=>repeat (first|exact (Kd.R_reads' C0.o).2.2|(with_reducible refine Kd.C_alloc ?_ _)|(with_reducible refine Kd.C_drewN ?_ _)|(with_reducible refine Kd.C_drew ?_)))
     (case side4=>exact (Kd.R_reads' C0.o).2.1)
     rintro e Hl ⟨Ao,rfl,Bk,hb⟩
     refine ⟨_,rfl,?_⟩
     refine hK.out _ _ ⟨.slice Do C6.length Dp,B0,Ar,As,Al,An,At,.slice Dr C4.length Ds,Ao,Bd,B2,(by rw [ha.o];exact dZ 11 hb_ rfl rfl rfl),(rb A3 hb),(Kd.S_below (kqS A8.o) hb),(kb A6 hb),fun A4=>absurd ((hon 4 (by kernel_rfl)).symm.trans A4) (by decide),(aC (bq2 HB.o (aA.ge A1.o) Ap.o) hb),fun _ Aa=>absurd ((eL b 13).symm.trans Aa) (by decide),fun A4 Aa=>(rb (am (Ak A4 Aa)) hb),fun _=>(aA.below (aA.q1 A1.o A5.o) hb),fun A4 Aa=>(rb (am (Ad A4 Aa)) hb),fun A4 Aa=>(rb (am (Ae A4 Aa)) hb),fun A4 Aa=>(rb (am (A7 A4 Aa)) hb),fun A4 Aa=>(rb (am (A9 A4 Aa)) hb),fun A4 Aa=>(rb (am (Ab A4 Aa)) hb),fun _ Aa=>absurd ((eL b 13).symm.trans Aa) (by decide),fun _=>(kqT (Kd.R_lower Bk (aH (bq2 HB.o (aA.ge A1.o) Ap.o)))),fun _ Aa=>absurd ((hon 9 (by kernel_rfl)).symm.trans Aa) (by decide),fun A4=>absurd ((hoff 15 (by kernel_rfl)).symm.trans A4) (by decide)⟩
   refine dY ?_ ?_
   · rintro b a w' ⟨Az,B0,Ar,As,Al,An,At,Au,Ao,Bd,B2,ha,Ag,Ah,Ai,Aq,Q_HB,Aj,Ak,A2,Ad,Ae,A7,A9,Ab,Af,Ac,Ay,B1⟩ hb_ hon hoff
     refine ⟨_,rfl,fun K hK=>?_⟩
     have I5:a.tmps[16]? =some (.string Br):=by rw [ha];exact (fO rfl).trans rfl
     replace ha:=am ha
     have A3:=am Ag
     have A8:=am Ah
     have A6:=am Ai
     have HB:=am Q_HB
     have A1:=am (A2 (hon 4 (by kernel_rfl)))
     refine iU (w1:=w') (v:=.string Br) (by rfl) rfl ?_ ?_
     · go_simp
       (try simp only [aK])
       try first|rfl|(rw [conv_self Try.underlying22];rfl)
     refine hK.out _ _ ⟨Az,B0,Ar,As,Al,An,At,Au,Ao,Bd,B2,(by rw [ha.o];exact dZ 12 hb_ rfl rfl rfl),Ag,Ah,Ai,fun A4=>absurd ((hon 4 (by kernel_rfl)).symm.trans A4) (by decide),Q_HB,Aj,Ak,A2,Ad,Ae,A7,A9,Ab,Af,Ac,Ay,fun A4=>absurd ((hoff 15 (by kernel_rfl)).symm.trans A4) (by decide)⟩
   refine dY ?_ ?_
   · rintro b a w' ⟨Az,B0,Ar,As,Al,An,At,Au,Ao,Bd,B2,ha,Ag,Ah,Ai,Aq,Q_HB,Aj,Ak,A2,Ad,Ae,A7,A9,Ab,Af,Ac,Ay,B1⟩ hb_ hon hoff
     refine ⟨_,rfl,fun K hK=>?_⟩
     have I6:a.tmps[29]? =some (Ao):=by rw [ha];exact eR (e:=(13,29,Ao)) 11 rfl rfl (hon 13 (by kernel_rfl)) rfl
     replace ha:=am ha
     have A3:=am Ag
     have A8:=am Ah
     have A6:=am Ai
     have HB:=am Q_HB
     have A1:=am (A2 (hon 4 (by kernel_rfl)))
     have Ch:=am (Ac (hon 13 (by kernel_rfl)))
     refine iU (w1:=w') (v:=Ao) (by rfl) rfl ?_ ?_
     · go_simp
       (try simp only [aK])
       try first|rfl|(rw [conv_self Try.underlying22];rfl)
     refine hK.out _ _ ⟨Az,B0,Ar,As,Al,An,At,Au,Ao,Bd,(Ao),(by rw [ha.o];exact dZ 13 hb_ rfl rfl rfl),Ag,Ah,Ai,fun A4=>absurd ((hon 4 (by kernel_rfl)).symm.trans A4) (by decide),Q_HB,Aj,Ak,A2,Ad,Ae,A7,A9,Ab,Af,Ac,Ay,fun _=>rfl⟩
   exact kN
 rintro b a Hl hall ⟨Az,B0,Ar,As,Al,An,At,Au,Ao,Bd,B2,ha,Ag,Ah,Ai,Aq,Q_HB,Aj,Ak,A2,Ad,Ae,A7,A9,Ab,Af,Ac,Ay,B1⟩
 clear A6 HB A1 A3 A8
 have Du:=hall 1 (by kernel_rfl)
 have Dv:=hall 2 (by kernel_rfl)
 have D0:=hall 4 (by kernel_rfl)
 have Dw:=hall 5 (by kernel_rfl)
 have Dx:=hall 6 (by kernel_rfl)
 have Dy:=hall 7 (by kernel_rfl)
 have Dz:=hall 8 (by kernel_rfl)
 have E0:=hall 9 (by kernel_rfl)
 have Cs:=hall 10 (by kernel_rfl)
 have Ct:=hall 11 (by kernel_rfl)
 have Cu:=hall 12 (by kernel_rfl)
 have Ci:=hall 13 (by kernel_rfl)
 have Cv:=hall 14 (by kernel_rfl)
 have Cj:=hall 15 (by kernel_rfl)
 subst ha
 obtain rfl:=B1 Cj
 simp only [eV,Du,Dv,D0,Dw,Dx,Dy,Dz,E0,Cs,Ct,Cu,Ci,Cv,Cj,if_true,Act.put,lT,lU,lV]
 have HB:=am Q_HB
 have A1:=am (A2 D0)
 have Ch:=am (Ac Ci)
 clear hall Du Dv D0 Dw Dx Dy Dz E0 Cs Ct Cu Ci Cv Cj
 try go_wp2
 go_ret2
 exact ⟨_,rq,by refine kr ?_;exact Kd.R_mono Ch.o (fun _ hk=>trivial),bq2 HB.o (aA.ge A1.o) Ap.o⟩
def gC.f (A2:List Int) (A3:Int) (A4:Int) (l1:List Int):Option (Int × Int × Int):=(bC.f A2 A3 A4 (wrap64 ((l1.length:Int)+1))).bind fun A0=>((cI.f A2 A0.2.1 A0.2.2 (([0,0,0,(l1.length:Int),A0.1,(-1),9223372036854775807]:List Int))).bind fun A1=>(some (A1.1,A1.2.1,A1.2.2)))
theorem gC.calls (g:Nat) (A4:List Int) (A9:Int) (Aa:Int) (A1:Option Addr) (c1:Nat) (l1:List Int) (r1:Int) (r2:Int) (r3:Int) (w0 w:World) (hI:aA w0 w g A4 A9 Aa) (hB:Below w0.heap.size w0 w) (Ag:Kd.C (Kd.int .u8) w A1 l1.length l1) (Ah:l1.length≤c1) (Am:∀ad,A1=some ad→0<l1.length→ad.block≠g) (h:gC.f A4 A9 Aa l1=some (r1,r2,r3)):
 Calls Try.prog 106 #[.pointer (some ⟨g,0,none⟩),.slice A1 l1.length c1] w fun e w'=>e=.returned (.int .i64 r1)∧aA w0 w' g A4 r2 r3∧Below w0.heap.size w0 w'∧KeepBut w w' g none:=by
 have An:=am Ag
 have Ao:=am Ah
 clear Ag Ah
 have A3:=am hI
 have HK:=am (KeepBut.refl w g none)
 have HL:=am hB.size
 clear hI
 have Ap:=am hB.size
 have HB:=am hB
 clear hB
 have H:=h
 clear h
 unfold gC.f at H
 replace H:=be H
 obtain ⟨⟨A2,A5,A6⟩,Aj,H⟩:=H
 try dsimp only at H
 generalize A7:((([0,0,0,(l1.length:Int),A2,(-1),9223372036854775807]:List Int)):List Int)=Ab at H
 have A8:=am A7.symm
 clear A7
 replace H:=be H
 obtain ⟨⟨Ac,Ad,Ae⟩,Ak,H⟩:=H
 try dsimp only at H
 simp only [lW,lX] at H
 obtain ⟨rfl,rfl,rfl⟩:=H
 go_enter Try.func106,Try.ntmps106
 go_wp2_with (first|((with_reducible refine aE (f:=122) rfl ?_);refine gc (some 12) (bC.calls g A4 A9 Aa (wrap64 ((l1.length:Int)+1)) A2 A5 A6 w0 _ (aA.q0 A3.o) (bq1 HB.o (aA.ge A3.o)) Aj.o) Try.func122 ?_;rintro e w5 ⟨rfl,hi,hb,hk⟩;refine ⟨_,rfl,?_⟩;have n_:=ak3 (KeepBut.trans (kp0 HK.o) hk (.inl rfl)) hb hi;clear HK HB A3;obtain ⟨HK,HB,A3⟩:=n_;(try clear hb hk hi))|((with_reducible refine aI (N:=13) rfl ?_);refine Kd.R_lit (Kd.int .i64) _ 3 ?hg (N:=13) ?hd (xs:=([0,0,0,(l1.length:Int),A2,(-1),9223372036854775807]:List Int)) (inner:=[.int .i64 0,.int .i64 0,.int .i64 0,.int .i64 (l1.length:Int),.int .i64 A2,.int .i64 (-1),.int .i64 9223372036854775807]) (ok:=fun _=>True) (okp:=fun _=>True) ?hr ?hp (fun _ hk=>hk) trivial (Below.refl _ _) (lZ _) (by simp) ?_;(case hd=>rfl);(case hg=>rfl);(case hr=>exact gs);(case hp=>exact (a9.one (ri 0) (a9.one (ri 0) (a9.one (ri 0) (a9.one (show Kd.M (Kd.int .i64) _ _ _ (l1.length:Int) [.int .i64 (l1.length:Int)] from rfl) (a9.one (show Kd.M (Kd.int .i64) _ _ _ A2 [.int .i64 A2] from rfl) (a9.one (ri (-1)) (a9.one (ri 9223372036854775807) (a9.none _ _)))))))));intro Ai w6 Af hb hg_ hnew_;clear hg_ hnew_;(first|rw [← A8.o] at Af|(simp only [Int.reduceToNat] at Af;rw [← A8.o] at Af));have n_:=ak4 (Kd.R_lower Af (bP (w:=w) (g:=g) (row:=none) (kp0 HK.o))) (aA.below (aA.q0 A3.o) hb) (KeepBut.trans (kp0 HK.o) (KeepBut.of_below hb g none) (.inl rfl)) (aC (bq1 HB.o (aA.ge A3.o)) hb);clear A3 HK HB;obtain ⟨A0,A3,HK,HB⟩:=n_;clear hb Af;obtain ⟨Aq,Ar,Al⟩:=Kd.R_slice A0.o;subst Al)|((with_reducible refine aE (f:=86) rfl ?_);refine gc (some 14) (cI.calls g A4 A5 A6 _ _ Ab Ac Ad Ae w0 _ (aA.q0 A3.o) (bq1 HB.o (aA.ge A3.o)) (cq (Kd.R_reads' A0.o).2.2) ((Kd.R_reads' A0.o).2.1) (eQ (aA.own_ne A3.o A0.o (by decide))) Ak.o) Try.func86 ?_;rintro e w9 ⟨rfl,hi,hb,hk⟩;refine ⟨_,rfl,?_⟩;have n_:=ak4 (Kd.R_mono (Kd.R_keep (aA.apart (show aA w0 _ g A4 A5 A6 from aA.q0 A3.o) (kqR A0.o) (by decide)) hk (fun _ h=>h.2)) (fun _ h=>h.1)) (KeepBut.trans (kp0 HK.o) hk (.inl rfl)) hb hi;clear A0 HK HB A3;obtain ⟨A0,HK,HB,A3⟩:=n_;(try clear hb hk hi)))
 go_ret
 exact ⟨rq,aA.q0 A3.o,bq1 HB.o (aA.ge A3.o),kp0 HK.o⟩
end Go.Proofs.Ythhnfmbfgplelaa.XFnMsgsRead
