/- The functions that one law reaches, as Lean functions, with their walks: printed by a program of this seat (wip/tools) out of the translation. -/
import Derived.Test.YthhnfmbfgplelaaXFnMsgsReadx0
import Derived.Test.YthhnfmbfgplelaaXFnMsgsReadx1
import Derived.Test.YthhnfmbfgplelaaXFnMsgsReadx9
import Derived.Test.YthhnfmbfgplelaaXFnMsgsReadx11
import Derived.Test.YthhnfmbfgplelaaXFnMsgsReadx19
import Derived.Test.YthhnfmbfgplelaaXFnMsgsReadx22
import Derived.Test.YthhnfmbfgplelaaXFnMsgsReadx25
namespace Go.Proofs.Ythhnfmbfgplelaa.XFnMsgsRead
open Go.RowKit Go.Proofs.YthhnfmbfgplelaaW.PrintWords Go.Proofs.YthhnfmbfgplelaaW.PrintLast Go.Proofs.YthhnfmbfgplelaaW.PrintMore
attribute [local go_sem] cL cM dC dD cB cC cN cO
set_option linter.unusedVariables false
set_option linter.unusedSimpArgs false
set_option maxHeartbeats 8000000
set_option maxRecDepth 100000
def d8.l0:Nat→Int→List Int→Int→List Int→Int→Int→Option (List Int × Int × Int)
 |0,_,_,_,_,_,_=>none
 |k+1,x1,x5,x6,A1,A2,A3=>if x6<x1 then ((dU.f A1 A2 A3).bind fun A0=>(if x5.length<140737488355328 then (d8.l0 k x1 (x5++[(A0.1) % 256]) (wrap64 (x6+1)) A1 A0.2.1 A0.2.2) else (none))) else (some (x5,A2,A3))
def d8.f (k:Nat) (A0:List Int) (A1:Int) (A2:Int) (a1:Int):Option (List Int × Int × Int):=d8.l0 k a1 (([]:List Int)) 0 A0 A1 A2
theorem d8.calls (k:Nat) (g:Nat) (A4:List Int) (Ae:Int) (Af:Int) (a1:Int) (r1:List Int) (r2:Int) (r3:Int) (w0 w:World) (hI:aA w0 w g A4 Ae Af) (hB:Below w0.heap.size w0 w) (h:d8.f k A4 Ae Af a1=some (r1,r2,r3)):
 Calls Try.prog 132 #[.pointer (some ⟨g,0,none⟩),.int .i64 a1] w fun e w'=>∃Ao:Value,e=.returned (Ao)∧Kd.R (Kd.int .u8) 5 w' w.heap.size (fun _=>True) Ao r1∧aA w0 w' g A4 r2 r3∧Below w0.heap.size w0 w'∧KeepBut w w' g none:=by
 have A2:=am hI
 have HK:=am (KeepBut.refl w g none)
 have HL:=am hB.size
 clear hI
 have As:=am hB.size
 have HB:=am hB
 clear hB
 have H:=h
 clear h
 unfold d8.f at H
 generalize A7:((([]:List Int)):List Int)=Aj at H
 have A8:=am A7.symm
 clear A7
 have H':=am H
 clear H
 go_enter Try.func132,Try.ntmps132
 go_wp2_with (first|((with_reducible refine aI (N:=7) rfl ?_);refine Kd.R_lit (Kd.int .u8) _ 5 ?hg (N:=7) ?hd (xs:=([]:List Int)) (inner:=[]) (ok:=fun _=>True) (okp:=fun _=>True) ?hr ?hp (fun _ hk=>hk) trivial (Below.refl _ _) (lZ _) (by simp) ?_;(case hd=>rfl);(case hg=>rfl);(case hr=>exact gs);(case hp=>exact (a9.none _ _));intro Ap w3 Ak hb hg_ hnew_;clear hg_ hnew_;(first|rw [← A8.o] at Ak|(simp only [Int.reduceToNat] at Ak;rw [← A8.o] at Ak));have n_:=ak4 (Kd.R_lower Ak (bP (w:=w) (g:=g) (row:=none) (kp0 HK.o))) (aA.below (aA.q0 A2.o) hb) (KeepBut.trans (kp0 HK.o) (KeepBut.of_below hb g none) (.inl rfl)) (aC (bq1 HB.o (aA.ge A2.o)) hb);clear A2 HK HB;obtain ⟨Ag,A2,HK,HB⟩:=n_;clear hb Ak))
 go_loopg [5,6] k (fun kq v5 v6 w'=>∃(A9:List Int) (Ab:Int) (A0:Int) (A1:Int),v6=.int .i64 Ab∧Aside0 (d8.l0 kq a1 A9 Ab A4 A0 A1=some (r1,r2,r3))∧Aside0 (kq≤k)∧Aside0 (Kd.R (Kd.int .u8) 5 w' w.heap.size (fun _=>True) v5 A9)∧Aside0 (aA w0 w' g A4 A0 A1)∧Aside0 (KeepBut w w' g none)∧Aside0 (Below w0.heap.size w0 w'))
 case atStart=>exact ⟨(Aj),(0),(Ae),(Af),sq,H',⟨lZ _⟩,⟨kqR Ag.o⟩,⟨aA.q0 A2.o⟩,⟨kp0 HK.o⟩,⟨bq1 HB.o (aA.ge A2.o)⟩⟩
 case round=>
  clear H'
  try clear c1
  try clear p2
  obtain ⟨A9,Ab,A0,A1,rfl,HA,Aq,A3,A2,HK,HB⟩:=hrel
  cases gk with
  |zero=>exact absurd HA.o (by simp [d8.l0])
  |succ k1=>
   have H:=HA.o
   clear HA
   simp only [d8.l0] at H
   replace H:=il' H
   rcases H with ⟨-,Am,H⟩|⟨-,Am,H⟩
   · simp only [lW,lX] at H
     obtain ⟨rfl,rfl,rfl⟩:=H
     go_wp2
     go_ret
     exact ⟨_,rq,kqR A3.o,aA.q0 A2.o,bq1 HB.o (aA.ge A2.o),kp0 HK.o⟩
   replace H:=be H
   obtain ⟨⟨A5,Ac,Ad⟩,A6,H⟩:=H
   try dsimp only at H
   replace H:=nq H
   obtain ⟨c7,H⟩:=H
   have An:=am c7
   clear c7
   generalize Aa:((A9++[(A5) % 256]):List Int)=Al at H
   have Ah:=am Aa.symm
   clear Aa
   have H':=am H
   clear H
   go_wp2_with (first|((with_reducible refine aE (f:=137) rfl ?_);refine gc (some 15) (dU.calls g A4 A0 A1 A5 Ac Ad w0 _ (aA.q0 A2.o) (bq1 HB.o (aA.ge A2.o)) A6.o) Try.func137 ?_;rintro e w8 ⟨rfl,hi,hb,hk⟩;refine ⟨_,rfl,?_⟩;have n_:=ak4 (Kd.R_mono (Kd.R_keep (aA.apart (show aA w0 _ g A4 A0 A1 from aA.q0 A2.o) (kqR A3.o) (by decide)) hk (fun _ h=>h.2)) (fun _ h=>h.1)) (KeepBut.trans (kp0 HK.o) hk (.inl rfl)) hb hi;clear A3 HK HB A2;obtain ⟨A3,HK,HB,A2⟩:=n_;(try clear hb hk hi))|((with_reducible refine bF (b:=.append) (xs:=#[.tmp 13,.tmp 17]) rfl ?_);at_builtin;refine Kd.R_append (Kd.int .u8) w.heap.size rfl (.tmp 13) (.tmp 17) 22 5 (.int .u8 0) 1 rfl Try.underlying22 dS rfl (by decide) (by omega) u5 A9 ((A5) % 256) [.int .u8 ((A5) % 256)] (fun _=>True) (fun _=>False) rfl rfl ?aP (fun _ hk=>hk.elim) ?aF ?aO (Below.refl _ _) ?aS ?aL ?_;(case aP=>exact rfl);(case aF=>exact (fun _ _=>trivial));(case aO=>exact (kqR A3.o));(case aS=>exact (bP (w:=w) (g:=g) (row:=none) (kp0 HK.o)));(case aL=>have:=An.o;omega);intro Ar w9 ho hb hg hat;rw [← Ah.o] at ho;have n_:=ak4 (aA.grown (aA.q0 A2.o) hg (aA.own_ne A2.o A3.o (by decide))) (gE (bq1 HB.o (aA.ge A2.o)) HL.o hb) (KeepBut.trans (kp0 HK.o) (KeepBut.of_grown hg g) (Kd.R_base2 A3.o)) ho;clear A2 HB HK A3;obtain ⟨A2,HB,HK,Ai⟩:=n_;clear ho hb hg hat))
   go_roundg k1
   case measure=>have:=Aq.o;omega
   case rel=>exact ⟨(Al),(wrap64 (Ab+1)),(Ac),(Ad),sq,H',⟨by have:=Aq.o;omega⟩,⟨kqR Ai.o⟩,⟨aA.q0 A2.o⟩,⟨kp0 HK.o⟩,⟨bq1 HB.o (aA.ge A2.o)⟩⟩
def fS.f (k:Nat) (A2:List Int) (A3:Int) (A4:Int):Option (List Int × Int × Int):=(cI.f A2 A3 A4 (([0,1,2,5,9]:List Int))).bind fun A0=>((d8.f k A2 A0.2.1 A0.2.2 A0.1).bind fun A1=>(some (A1.1,A1.2.1,A1.2.2)))
theorem fS.calls (k:Nat) (g:Nat) (A2:List Int) (A7:Int) (A8:Int) (r1:List Int) (r2:Int) (r3:Int) (w0 w:World) (hI:aA w0 w g A2 A7 A8) (hB:Below w0.heap.size w0 w) (h:fS.f k A2 A7 A8=some (r1,r2,r3)):
 Calls Try.prog 103 #[.pointer (some ⟨g,0,none⟩)] w fun e w'=>∃Ag:Value,e=.returned (Ag)∧Kd.R (Kd.int .u8) 5 w' w.heap.size (fun _=>True) Ag r1∧aA w0 w' g A2 r2 r3∧Below w0.heap.size w0 w'∧KeepBut w w' g none:=by
 have A1:=am hI
 have HK:=am (KeepBut.refl w g none)
 have HL:=am hB.size
 clear hI
 have An:=am hB.size
 have HB:=am hB
 clear hB
 have H:=h
 clear h
 unfold fS.f at H
 generalize A3:((([0,1,2,5,9]:List Int)):List Int)=Ab at H
 have A4:=am A3.symm
 clear A3
 replace H:=be H
 obtain ⟨⟨A9,A5,A6⟩,Ak,H⟩:=H
 try dsimp only at H
 replace H:=be H
 obtain ⟨⟨Ac,Ad,Ae⟩,Al,H⟩:=H
 try dsimp only at H
 simp only [lW,lX] at H
 obtain ⟨rfl,rfl,rfl⟩:=H
 go_enter Try.func103,Try.ntmps103
 go_wp2_with (first|((with_reducible refine aI (N:=5) rfl ?_);refine Kd.R_lit (Kd.int .i64) _ 3 ?hg (N:=5) ?hd (xs:=([0,1,2,5,9]:List Int)) (inner:=[.int .i64 0,.int .i64 1,.int .i64 2,.int .i64 5,.int .i64 9]) (ok:=fun _=>True) (okp:=fun _=>True) ?hr ?hp (fun _ hk=>hk) trivial (Below.refl _ _) (lZ _) (by simp) ?_;(case hd=>rfl);(case hg=>rfl);(case hr=>exact gs);(case hp=>exact (a9.one (ri 0) (a9.one (ri 1) (a9.one (ri 2) (a9.one (ri 5) (a9.one (ri 9) (a9.none _ _)))))));intro Ah w4 Af hb hg_ hnew_;clear hg_ hnew_;(first|rw [← A4.o] at Af|(simp only [Int.reduceToNat] at Af;rw [← A4.o] at Af));have n_:=ak4 (Kd.R_lower Af (bP (w:=w) (g:=g) (row:=none) (kp0 HK.o))) (aA.below (aA.q0 A1.o) hb) (KeepBut.trans (kp0 HK.o) (KeepBut.of_below hb g none) (.inl rfl)) (aC (bq1 HB.o (aA.ge A1.o)) hb);clear A1 HK HB;obtain ⟨A0,A1,HK,HB⟩:=n_;clear hb Af;obtain ⟨Ao,Ap,Am⟩:=Kd.R_slice A0.o;subst Am)|((with_reducible refine aE (f:=86) rfl ?_);refine gc (some 6) (cI.calls g A2 A7 A8 _ _ Ab A9 A5 A6 w0 _ (aA.q0 A1.o) (bq1 HB.o (aA.ge A1.o)) (cq (Kd.R_reads' A0.o).2.2) ((Kd.R_reads' A0.o).2.1) (eQ (aA.own_ne A1.o A0.o (by decide))) Ak.o) Try.func86 ?_;rintro e w7 ⟨rfl,hi,hb,hk⟩;refine ⟨_,rfl,?_⟩;have n_:=ak4 (Kd.R_mono (Kd.R_keep (aA.apart (show aA w0 _ g A2 A7 A8 from aA.q0 A1.o) (kqR A0.o) (by decide)) hk (fun _ h=>h.2)) (fun _ h=>h.1)) (KeepBut.trans (kp0 HK.o) hk (.inl rfl)) hb hi;clear A0 HK HB A1;obtain ⟨A0,HK,HB,A1⟩:=n_;(try clear hb hk hi))|((with_reducible refine aE (f:=132) rfl ?_);refine gc (some 7) (d8.calls k g A2 A5 A6 A9 Ac Ad Ae w0 _ (aA.q0 A1.o) (bq1 HB.o (aA.ge A1.o)) Al.o) Try.func132 ?_;rintro e w8 ⟨Ai,rfl,Aj,hi,hb,hk⟩;refine ⟨_,rfl,?_⟩;have n_:=ak5 (Kd.R_mono (Kd.R_keep (aA.apart (show aA w0 _ g A2 A5 A6 from aA.q0 A1.o) (kqR A0.o) (by decide)) hk (fun _ h=>h.2)) (fun _ h=>h.1)) (Kd.R_lower Aj (bP (w:=w) (g:=g) (row:=none) (kp0 HK.o))) (KeepBut.trans (kp0 HK.o) hk (.inl rfl)) hb hi;clear A0 HK HB A1;obtain ⟨A0,Aa,HK,HB,A1⟩:=n_;(try clear hb hk hi Aj)))
 go_ret
 exact ⟨_,rq,kqR Aa.o,aA.q0 A1.o,bq1 HB.o (aA.ge A1.o),kp0 HK.o⟩
def fT.f (k:Nat) (A3:List Int) (A4:Int) (A5:Int):Option (List Int × Int × Int):=(eU.f A3 A4 A5 8).bind fun A0=>(if A0.1=true then ((cI.f A3 A0.2.1 A0.2.2 (([127,128,250,251]:List Int))).bind fun A1=>(if 0≤A1.1 then (if (A1.1:Int).toNat≤281474976710656 then (some ((List.replicate (A1.1:Int).toNat 0),A1.2.1,A1.2.2)) else (none)) else (none))) else ((fS.f k A3 A0.2.1 A0.2.2).bind fun A2=>(some (A2.1,A2.2.1,A2.2.2))))
theorem fT.calls (k:Nat) (g:Nat) (A3:List Int) (Aa:Int) (Ab:Int) (r1:List Int) (r2:Int) (r3:Int) (w0 w:World) (hI:aA w0 w g A3 Aa Ab) (hB:Below w0.heap.size w0 w) (h:fT.f k A3 Aa Ab=some (r1,r2,r3)):
 Calls Try.prog 123 #[.pointer (some ⟨g,0,none⟩)] w fun e w'=>∃Ao:Value,e=.returned (Ao)∧Kd.R (Kd.int .u8) 5 w' w.heap.size (fun _=>True) Ao r1∧aA w0 w' g A3 r2 r3∧Below w0.heap.size w0 w'∧KeepBut w w' g none:=by
 have A1:=am hI
 have HK:=am (KeepBut.refl w g none)
 have HL:=am hB.size
 clear hI
 have B0:=am hB.size
 have HB:=am hB
 clear hB
 have H:=h
 clear h
 unfold fT.f at H
 replace H:=be H
 obtain ⟨⟨Af,A4,A5⟩,Ap,H⟩:=H
 try dsimp only at H
 cases Af
 replace H:=iF H
 replace H:=be H
 obtain ⟨⟨Ag,Ah,Ai⟩,Au,H⟩:=H
 try dsimp only at H
 have z0:=trivial
 rotate_left
 replace H:=iT H
 generalize A6:((([127,128,250,251]:List Int)):List Int)=Aj at H
 have A7:=am A6.symm
 clear A6
 replace H:=be H
 obtain ⟨⟨A2,Ak,Al⟩,Av,H⟩:=H
 try dsimp only at H
 replace H:=nq H
 obtain ⟨c5,H⟩:=H
 have Aw:=eq_true c5
 have Ax:decide (0≤A2)=true:=l5 c5
 clear c5
 replace H:=nq H
 obtain ⟨c6,H⟩:=H
 have Ay:=eq_true c6
 have Az:decide ((A2:Int).toNat≤281474976710656)=true:=l5 c6
 clear c6
 generalize A8:((List.replicate (A2:Int).toNat 0):List Int)=Aq at H
 have A9:=am A8.symm
 clear A8
 have z1:=trivial
 rotate_right
 all_goals
  simp only [lW,lX] at H
  obtain ⟨rfl,rfl,rfl⟩:=H
  go_enter Try.func123,Try.ntmps123
  go_wp2_with (first|((with_reducible refine aE (f:=111) rfl ?_);have:=z0;refine gc (some 4) (eU.calls g A3 Aa Ab 8 false A4 A5 w0 _ (aA.q0 A1.o) (bq1 HB.o (aA.ge A1.o)) Ap.o) Try.func111 ?_;rintro e w_ ⟨rfl,hi,hb,hk⟩;refine ⟨_,rfl,?_⟩;have n_:=ak3 (KeepBut.trans (kp0 HK.o) hk (.inl rfl)) hb hi;clear HK HB A1;obtain ⟨HK,HB,A1⟩:=n_;(try clear hb hk hi))|((with_reducible refine aE (f:=111) rfl ?_);have:=z1;refine gc (some 4) (eU.calls g A3 Aa Ab 8 true A4 A5 w0 _ (aA.q0 A1.o) (bq1 HB.o (aA.ge A1.o)) Ap.o) Try.func111 ?_;rintro e w_ ⟨rfl,hi,hb,hk⟩;refine ⟨_,rfl,?_⟩;have n_:=ak3 (KeepBut.trans (kp0 HK.o) hk (.inl rfl)) hb hi;clear HK HB A1;obtain ⟨HK,HB,A1⟩:=n_;(try clear hb hk hi))|((with_reducible refine aE (f:=103) rfl ?_);refine gc (some 10) (fS.calls k g A3 A4 A5 Ag Ah Ai w0 _ (aA.q0 A1.o) (bq1 HB.o (aA.ge A1.o)) Au.o) Try.func103 ?_;rintro e w_ ⟨Ar,rfl,ho_,hi,hb,hk⟩;refine ⟨_,rfl,?_⟩;have n_:=ak4 (Kd.R_lower ho_ (bP (w:=w) (g:=g) (row:=none) (kp0 HK.o))) (KeepBut.trans (kp0 HK.o) hk (.inl rfl)) hb hi;clear HK HB A1;obtain ⟨Ad,HK,HB,A1⟩:=n_;(try clear hb hk hi ho_))|((with_reducible refine aI (N:=6) rfl ?_);refine Kd.R_lit (Kd.int .i64) _ 3 ?hg (N:=6) ?hd (xs:=([127,128,250,251]:List Int)) (inner:=[.int .i64 127,.int .i64 128,.int .i64 250,.int .i64 251]) (ok:=fun _=>True) (okp:=fun _=>True) ?hr ?hp (fun _ hk=>hk) trivial (Below.refl _ _) (lZ _) (by simp) ?_;(case hd=>rfl);(case hg=>rfl);(case hr=>exact gs);(case hp=>exact (a9.one (ri 127) (a9.one (ri 128) (a9.one (ri 250) (a9.one (ri 251) (a9.none _ _))))));intro As w_ ho_ hb hg_ hnew_;clear hg_ hnew_;(first|rw [← A7.o] at ho_|(simp only [Int.reduceToNat] at ho_;rw [← A7.o] at ho_));have n_:=ak4 (Kd.R_lower ho_ (bP (w:=w) (g:=g) (row:=none) (kp0 HK.o))) (aA.below (aA.q0 A1.o) hb) (KeepBut.trans (kp0 HK.o) (KeepBut.of_below hb g none) (.inl rfl)) (aC (bq1 HB.o (aA.ge A1.o)) hb);clear A1 HK HB;obtain ⟨A0,A1,HK,HB⟩:=n_;clear hb ho_;obtain ⟨Am,An,Ac⟩:=Kd.R_slice A0.o;subst Ac)|((with_reducible refine aE (f:=86) rfl ?_);refine gc (some 7) (cI.calls g A3 A4 A5 _ _ Aj A2 Ak Al w0 _ (aA.q0 A1.o) (bq1 HB.o (aA.ge A1.o)) (cq (Kd.R_reads' A0.o).2.2) ((Kd.R_reads' A0.o).2.1) (eQ (aA.own_ne A1.o A0.o (by decide))) Av.o) Try.func86 ?_;rintro e w_ ⟨rfl,hi,hb,hk⟩;refine ⟨_,rfl,?_⟩;have n_:=ak4 (Kd.R_mono (Kd.R_keep (aA.apart (show aA w0 _ g A3 A4 A5 from aA.q0 A1.o) (kqR A0.o) (by decide)) hk (fun _ h=>h.2)) (fun _ h=>h.1)) (KeepBut.trans (kp0 HK.o) hk (.inl rfl)) hb hi;clear A0 HK HB A1;obtain ⟨A0,HK,HB,A1⟩:=n_;(try clear hb hk hi))|((with_reducible refine aI (N:=8) rfl ?_);refine Kd.R_make (Kd.int .u8) _ 5 rfl (N:=8) rfl 22 _ _ rfl A2 rfl rfl Try.underlying22 (.int .u8 0) 1 dS rfl (by decide) (by omega) 0 (ok:=fun _=>True) (okp:=fun _=>True) rfl (fun _ hk=>hk) trivial (oda) (Nat.le_trans (Nat.mul_le_mul_right _ (oda:A2.toNat≤281474976710656)) (by omega)) (Below.refl _ _) (lZ _) ?_;intro At w_ ho_ hb hg_ hnew_;clear hg_ hnew_;(first|rw [← A9.o] at ho_|(simp only [Int.reduceToNat] at ho_;rw [← A9.o] at ho_));have n_:=ak5 (rb A0 hb) (Kd.R_lower ho_ (bP (w:=w) (g:=g) (row:=none) (kp0 HK.o))) (aA.below (aA.q0 A1.o) hb) (KeepBut.trans (kp0 HK.o) (KeepBut.of_below hb g none) (.inl rfl)) (aC (bq1 HB.o (aA.ge A1.o)) hb);clear A0 A1 HK HB;obtain ⟨A0,Ae,A1,HK,HB⟩:=n_;clear hb ho_))
  first
  | go_ret
    exact ⟨_,rq,kqR Ad.o,aA.q0 A1.o,bq1 HB.o (aA.ge A1.o),kp0 HK.o⟩
  | go_ret
    exact ⟨_,rq,kqR Ae.o,aA.q0 A1.o,bq1 HB.o (aA.ge A1.o),kp0 HK.o⟩
def eZ.f (k:Nat) (l0:List Int):Option (List Int × Int):=(d7.f k l0).bind fun A0=>((cI.f A0.1 A0.2.1 A0.2.2 (([2,4,48]:List Int))).bind fun A2=>((fT.f k A0.1 A2.2.1 A2.2.2).bind fun A3=>((aY.f k (([]:List Int)) A2.1 A3.1).bind fun A5=>((fD.f A0.1 A3.2.1 A3.2.2 A5).bind fun A1=>((gC.f A0.1 A1.2.1 A1.2.2 A1.1).bind fun A4=>(some (A1.1,A4.1)))))))
theorem eZ.calls (k:Nat) (A0:Option Addr) (c0:Nat) (l0:List Int) (r1:List Int) (r2:Int) (w:World) (B9:Kd.C (Kd.int .u8) w A0 l0.length l0) (Ba:l0.length≤c0) (h:eZ.f k l0=some (r1,r2)):
 Calls Try.prog 62 #[.slice A0 l0.length c0] w fun e w'=>∃Bb:Value,e=.returned (.tuple #[Bb,.int .i64 r2])∧Kd.R (Kd.int .u8) 5 w' w.heap.size (fun _=>True) Bb r1∧Below w.heap.size w w':=by
 have Bg:=am B9
 have Bh:=am Ba
 clear B9 Ba
 have HB:=am (Below.refl w.heap.size w)
 have H:=h
 clear h
 unfold eZ.f at H
 replace H:=be H
 obtain ⟨⟨A5,Ab,Ac⟩,Bi,H⟩:=H
 try dsimp only at H
 generalize Ai:((([2,4,48]:List Int)):List Int)=Au at H
 have Aj:=am Ai.symm
 clear Ai
 generalize Ak:((([]:List Int)):List Int)=Al at H
 have Am:=am Ak.symm
 clear Ak
 replace H:=be H
 obtain ⟨⟨Ap,Ad,Ae⟩,Bj,H⟩:=H
 try dsimp only at H
 replace H:=be H
 obtain ⟨⟨Af,Aq,Ar⟩,Bk,H⟩:=H
 try dsimp only at H
 replace H:=be H
 obtain ⟨Ag,Bl,H⟩:=H
 replace H:=be H
 obtain ⟨⟨As,A8,A9⟩,Bm,H⟩:=H
 try dsimp only at H
 replace H:=be H
 obtain ⟨⟨Av,Aw,Ax⟩,Bn,H⟩:=H
 try dsimp only at H
 simp only [lW,lX] at H
 obtain ⟨rfl,rfl⟩:=H
 go_enter Try.func62,Try.ntmps62
 go_wp2_with (first|((with_reducible refine aE (f:=74) rfl ?_);refine gc (some 7) (d7.calls k _ _ l0 A5 Ab Ac w _ (bq HB.o) Bg.o Bh.o Bi.o) Try.func74 ?_;rintro e w8 ⟨A6,rfl,hi,hb,Bo⟩;refine ⟨_,rfl,?_⟩;have n_:=ak2 hb hi;clear HB;obtain ⟨HB,A1⟩:=n_;(try clear hb Bo hi))|((with_reducible refine aI (N:=9) rfl ?_);refine Kd.R_lit (Kd.int .u8) _ 5 ?hg (N:=9) ?hd (xs:=([]:List Int)) (inner:=[]) (ok:=fun _=>True) (okp:=fun _=>True) ?hr ?hp (fun _ hk=>hk) trivial (Below.refl _ _) (lZ _) (by simp) ?_;(case hd=>rfl);(case hg=>rfl);(case hr=>exact gs);(case hp=>exact (a9.none _ _));intro Bc w9 An hb hg_ hnew_;clear hg_ hnew_;(first|rw [← Am.o] at An|(simp only [Int.reduceToNat] at An;rw [← Am.o] at An));have n_:=ak3 (rl An (bq1 HB.o (aA.ge A1.o))) (aA.below (aA.q0 A1.o) hb) (aC (bq1 HB.o (aA.ge A1.o)) hb);clear A1 HB;obtain ⟨A2,A1,HB⟩:=n_;clear hb An)|((with_reducible refine aI (N:=11) rfl ?_);refine Kd.R_lit (Kd.int .i64) _ 3 ?hg (N:=11) ?hd (xs:=([2,4,48]:List Int)) (inner:=[.int .i64 2,.int .i64 4,.int .i64 48]) (ok:=fun _=>True) (okp:=fun _=>True) ?hr ?hp (fun _ hk=>hk) trivial (Below.refl _ _) (lZ _) (by simp) ?_;(case hd=>rfl);(case hg=>rfl);(case hr=>exact gs);(case hp=>exact (a9.one (ri 2) (a9.one (ri 4) (a9.one (ri 48) (a9.none _ _)))));intro Bd Bt Ao hb hg_ hnew_;clear hg_ hnew_;(first|rw [← Aj.o] at Ao|(simp only [Int.reduceToNat] at Ao;rw [← Aj.o] at Ao));have n_:=ak4 (rb A2 hb) (rl Ao (bq1 HB.o (aA.ge A1.o))) (aA.below (aA.q0 A1.o) hb) (aC (bq1 HB.o (aA.ge A1.o)) hb);clear A2 A1 HB;obtain ⟨A2,A3,A1,HB⟩:=n_;clear hb Ao;obtain ⟨Bp,Bq,B4⟩:=Kd.R_slice A3.o;subst B4)|((with_reducible refine aE (f:=86) rfl ?_);refine gc (some 12) (cI.calls A6 A5 Ab Ac _ _ Au Ap Ad Ae w _ (aA.q0 A1.o) (bq1 HB.o (aA.ge A1.o)) (cq (Kd.R_reads' A3.o).2.2) ((Kd.R_reads' A3.o).2.1) (eQ (aA.own_ne A1.o A3.o (by decide))) Bj.o) Try.func86 ?_;rintro e Bu ⟨rfl,hi,hb,hk⟩;refine ⟨_,rfl,?_⟩;have n_:=ak4 (Kd.R_mono (Kd.R_keep (aA.apart (show aA w _ A6 A5 Ab Ac from aA.q0 A1.o) (kqR A2.o) (by decide)) hk (fun _ h=>h.2)) (fun _ h=>h.1)) (Kd.R_mono (Kd.R_keep (aA.apart (show aA w _ A6 A5 Ab Ac from aA.q0 A1.o) (kqR A3.o) (by decide)) hk (fun _ h=>h.2)) (fun _ h=>h.1)) hb hi;clear A2 A3 HB A1;obtain ⟨A2,A3,HB,A1⟩:=n_;(try clear hb hk hi))|((with_reducible refine aE (f:=123) rfl ?_);refine gc (some 14) (fT.calls k A6 A5 Ad Ae Af Aq Ar w _ (aA.q0 A1.o) (bq1 HB.o (aA.ge A1.o)) Bk.o) Try.func123 ?_;rintro e Bv ⟨Be,rfl,Ah,hi,hb,hk⟩;refine ⟨_,rfl,?_⟩;have n_:=ak5 (Kd.R_mono (Kd.R_told (Kd.R_oldK (aA.apart (show aA w _ A6 A5 Ad Ae from aA.q0 A1.o) (kqR A2.o) (by decide)) hk) (Kd.R_base Ah)) (fun _ h_=>h_.1)) (Kd.R_mono (Kd.R_keep (aA.apart (show aA w _ A6 A5 Ad Ae from aA.q0 A1.o) (kqR A3.o) (by decide)) hk (fun _ h=>h.2)) (fun _ h=>h.1)) (rn_ Ah A2 (bq1 HB.o (aA.ge A1.o))) hb hi;clear A2 A3 HB A1;obtain ⟨A2,A3,A4,HB,A1⟩:=n_;(try clear hb hk hi Ah);obtain ⟨Ay,Az,B5⟩:=Kd.R_slice A2.o;subst B5;obtain ⟨B0,B1,B6⟩:=Kd.R_slice A4.o;subst B6)|((with_reducible refine aE (f:=66) rfl ?_);refine gc (some 15) (aY.calls k _ _ Al Ap _ _ Af Ag _ (cq (Kd.R_reads' A2.o).2.2) ((Kd.R_reads' A2.o).2.1) (cq (Kd.R_reads' A4.o).2.2) ((Kd.R_reads' A4.o).2.1) Bl.o) Try.func66 ?_;rintro e Bw ⟨Bf,rfl,Ah,hb⟩;refine ⟨_,rfl,?_⟩;have n_:=ak6 (re_ A2 Ah hb) (rb A3 hb) (re_ A4 Ah hb) (Kd.R_lower (Kd.R_new' (Kd.R_new' Ah (Kd.R_lt (kqR A2.o))) (Kd.R_lt (kqR A4.o))) (aH (bq1 HB.o (aA.ge A1.o)))) (aA.below (aA.q0 A1.o) hb) (aC (bq1 HB.o (aA.ge A1.o)) hb);clear A2 A3 A4 A1 HB;obtain ⟨A2,A3,A4,Aa,A1,HB⟩:=n_;(try clear hb Ah);obtain ⟨B2,B3,B7⟩:=Kd.R_slice Aa.o;subst B7)|((with_reducible refine aE (f:=77) rfl ?_);refine gc (some 16) (fD.calls A6 A5 Aq Ar (fun k_=>some k_=(.slice B2 Ag.length B3:Value).ownBlock) (.slice B2 Ag.length B3) Ag As A8 A9 w _ (aA.q0 A1.o) (bq1 HB.o (aA.ge A1.o)) (Kd.R_tight rfl Aa.o) Bm.o) Try.func77 ?_;rintro e Bx ⟨At,rfl,Ah,hi,hb,hkp⟩;refine ⟨_,rfl,?_⟩;have n_:=ak6 hi (Kd.R_mono (ok':=fun k_=>some k_≠(.slice B0 Af.length B1:Value).ownBlock∧some k_≠(At:Value).ownBlock) (Kd.R_keptB ((aA.apart A1.o A2.o (by decide))) hkp (fun k_ hk_ hs_=>Or.elim hs_ (fun hs_=>(hk_.1.2) hs_) (fun e_=>(hk_.2) e_))) (fun k_ hk_=>⟨hk_.1.1.1.2,fun e_=>Or.elim (Ah.1 k_ e_.symm) (fun hs_=>hk_.2.1 (Or.inl hs_)) (fun hn_=>Nat.not_le.2 hk_.2.2 hn_)⟩)) (Kd.R_mono (ok':=fun k_=>True) (Kd.R_keptB ((aA.apart A1.o (Kd.R_apart' A3.o (Kd.R_typed Aa.o) (by decide)) (by decide))) hkp (fun k_ hk_ hs_=>Or.elim hs_ (fun hs_=>(hk_.1.2) hs_) (fun e_=>(hk_.2) e_))) (fun k_ hk_=>trivial)) (Kd.R_mono (ok':=fun k_=>some k_≠(.slice Ay Al.length Az:Value).ownBlock∧some k_≠(At:Value).ownBlock) (Kd.R_keptB ((aA.apart A1.o A4.o (by decide))) hkp (fun k_ hk_ hs_=>Or.elim hs_ (fun hs_=>(hk_.1.2) hs_) (fun e_=>(hk_.2) e_))) (fun k_ hk_=>⟨hk_.1.1.1.2,fun e_=>Or.elim (Ah.1 k_ e_.symm) (fun hs_=>hk_.2.1 (Or.inl hs_)) (fun hn_=>Nat.not_le.2 hk_.2.2 hn_)⟩)) (Kd.R_mono (ok':=fun k_=>some k_≠(.slice Ay Al.length Az:Value).ownBlock∧some k_≠(.slice B0 Af.length B1:Value).ownBlock) Ah (fun k_ hk_=>⟨Or.elim hk_ (fun hs_=>fun e_=>((((aA.apart A1.o A2.o (by decide))).1 k_ e_.symm).1.2) hs_) (fun hn_=>(Kd.fresh' (Kd.R_lt (kqR A2.o)) k_ hn_)),Or.elim hk_ (fun hs_=>fun e_=>((((aA.apart A1.o A4.o (by decide))).1 k_ e_.symm).1.2) hs_) (fun hn_=>(Kd.fresh' (Kd.R_lt (kqR A4.o)) k_ hn_))⟩)) hb;clear A1 A2 A3 A4 HB Aa;obtain ⟨A1,A2,A3,A4,A7,HB⟩:=n_;(try clear hb hkp Ah);obtain ⟨Br,Bs,B8⟩:=Kd.R_slice A7.o;subst B8)|((with_reducible refine aE (f:=106) rfl ?_);refine gc (some 20) (gC.calls A6 A5 A8 A9 _ _ As Av Aw Ax w _ (aA.q0 A1.o) (bq1 HB.o (aA.ge A1.o)) (cq (Kd.R_reads' A7.o).2.2) ((Kd.R_reads' A7.o).2.1) (eQ (aA.own_ne A1.o A7.o (by decide))) Bn.o) Try.func106 ?_;rintro e By ⟨rfl,hi,hb,hk⟩;refine ⟨_,rfl,?_⟩;have n_:=ak6 (Kd.R_mono (Kd.R_keep (aA.apart (show aA w _ A6 A5 A8 A9 from aA.q0 A1.o) (kqR A2.o) (by decide)) hk (fun _ h=>h.2)) (fun _ h=>h.1)) (Kd.R_mono (Kd.R_keep (aA.apart (show aA w _ A6 A5 A8 A9 from aA.q0 A1.o) (kqR A3.o) (by decide)) hk (fun _ h=>h.2)) (fun _ h=>h.1)) (Kd.R_mono (Kd.R_keep (aA.apart (show aA w _ A6 A5 A8 A9 from aA.q0 A1.o) (kqR A4.o) (by decide)) hk (fun _ h=>h.2)) (fun _ h=>h.1)) (Kd.R_mono (Kd.R_keep (aA.apart (show aA w _ A6 A5 A8 A9 from aA.q0 A1.o) (kqR A7.o) (by decide)) hk (fun _ h=>h.2)) (fun _ h=>h.1)) hb hi;clear A2 A3 A4 A7 HB A1;obtain ⟨A2,A3,A4,A7,HB,A1⟩:=n_;(try clear hb hk hi)))
 go_ret2
 exact ⟨_,rq,by refine kr ?_;exact Kd.R_mono A7.o (fun _ hk=>trivial),bq1 HB.o (aA.ge A1.o)⟩
def laws_FnMsgsRead.f (k:Nat) (l0:List Int):Option (Bool):=(gB.f l0).bind fun A6=>(if A6=true then (some true) else ((cF.f k l0).bind fun A1=>((dL.f k A1.1 A1.2).bind fun A0=>((dF.f k A1.1 A1.2).bind fun A2=>((eZ.f k l0).bind fun A3=>((dL.f k A1.1 A3.1).bind fun A4=>((dF.f k A1.1 A3.1).bind fun A5=>(if A0.2.2.2.2.2=A2.2.2.2.2.2 then ((fL.f k A0.1 A0.2.1 A0.2.2.1 A0.2.2.2.1 A0.2.2.2.2.1 A2.1 A2.2.1 A2.2.2.1 A2.2.2.2.1 A2.2.2.2.2.1).bind fun A7=>(if A7=true then (if A4.2.2.2.2.2=A5.2.2.2.2.2 then (if A0.2.2.2.2.2≥0 then (if A0.2.2.2.2.2≤3 then (if A0.2.2.2.2.2=0 then (some true) else (some (A0.1==0))) else (some false)) else (some false)) else (some false)) else (some false))) else (some false)))))))))
theorem laws_FnMsgsRead.calls (k:Nat) (A0:Option Addr) (c0:Nat) (l0:List Int) (r:Bool) (w:World) (El:Kd.C (Kd.int .u8) w A0 l0.length l0) (Em:l0.length≤c0) (hr_:r=true) (h:laws_FnMsgsRead.f k l0=some r):
 Calls Try.prog 12 #[.slice A0 l0.length c0] w fun e w'=>e=.returned (.bool r)∧Below w.heap.size w w':=by
 have Eu:=Try.underlying58
 have HRT:=am hr_
 clear hr_
 have Ef:=am El
 have Eg:=am Em
 clear El Em
 have HB:=am (Below.refl w.heap.size w)
 have H:=h
 clear h
 unfold laws_FnMsgsRead.f at H
 replace H:=be H
 obtain ⟨Dm,En,H⟩:=H
 rcases bt Dm with rfl|rfl
 replace H:=iT H
 have z0:=trivial
 rotate_left
 replace H:=iF H
 replace H:=be H
 obtain ⟨⟨Bk,Be⟩,Ev,H⟩:=H
 try dsimp only at H
 replace H:=be H
 obtain ⟨⟨C6,C7,C8,C9,Aj,Ce⟩,Ew,H⟩:=H
 try dsimp only at H
 replace H:=be H
 obtain ⟨⟨Bl,Bm,Bn,Bo,Al,Dn⟩,Ex,H⟩:=H
 try dsimp only at H
 replace H:=be H
 obtain ⟨⟨Bf,Do⟩,Ey,H⟩:=H
 try dsimp only at H
 replace H:=be H
 obtain ⟨⟨B0,B1,B2,B3,Am,Dp⟩,Ez,H⟩:=H
 try dsimp only at H
 replace H:=be H
 obtain ⟨⟨Bg,Bh,Bi,Bj,As,Dq⟩,G0,H⟩:=H
 try dsimp only at H
 replace H:=iq' H
 rcases H with ⟨G2,Dr,Ds,H⟩|⟨-,Dr,Ds,H⟩
 · exact absurd ((lY H).trans HRT.o) (by decide)
 replace H:=be H
 obtain ⟨Dt,G1,H⟩:=H
 cases Dt
 · replace H:=iF H
   exact absurd ((lY H).trans HRT.o) (by decide)
 replace H:=iT H
 replace H:=iq' H
 rcases H with ⟨G3,Du,Dv,H⟩|⟨-,Du,Dv,H⟩
 · exact absurd ((lY H).trans HRT.o) (by decide)
 replace H:=ip' H
 rcases H with ⟨Dw,H⟩|⟨Dw,H⟩
 · have Dx:decide (0≤Ce)=false:=l6 Dw
   clear Dw
   exact absurd ((lY H).trans HRT.o) (by decide)
 have Dx:decide (0≤Ce)=true:=l5 Dw
 clear Dw
 replace H:=il' H
 rcases H with ⟨-,Dy,H⟩|⟨-,Dy,H⟩
 · exact absurd ((lY H).trans HRT.o) (by decide)
 replace H:=iq H
 rcases H with ⟨-,Dz,E0,H⟩|⟨G4,Dz,E0,H⟩
 have z1:=trivial
 rotate_left
 have z1:=trivial
 rotate_right
 rotate_right
 all_goals
  obtain rfl:=lY H
  go_enter Try.func12,Try.ntmps12
  go_wp2_with (first|((with_reducible refine aE (f:=23) rfl ?_);have:=z1;refine gc (some 16) (gB.calls _ _ l0 false _ (cq Ef.o) Eg.o En.o) Try.func23 ?_;rintro e w' ⟨rfl,⟨nd,rfl⟩⟩;refine ⟨_,rfl,?_⟩)|((with_reducible refine aE (f:=23) rfl ?_);have:=z0;refine gc (some 16) (gB.calls _ _ l0 true _ (cq Ef.o) Eg.o En.o) Try.func23 ?_;rintro e w' ⟨rfl,⟨nd,rfl⟩⟩;refine ⟨_,rfl,?_⟩)|((with_reducible refine aE (f:=61) rfl ?_);refine gc (some 19) (cF.calls k _ _ l0 Bk Be _ (cq Ef.o) Eg.o Ev.o) Try.func61 ?_;rintro e w_ ⟨Eo,rfl,ho_,hb⟩;refine ⟨_,rfl,?_⟩;have n_:=ak2 (rl ho_ (bq HB.o)) (aC (bq HB.o) hb);clear HB;obtain ⟨A1,HB⟩:=n_;(try clear hb ho_);obtain ⟨Ca,Cb,Ck⟩:=Kd.R_slice A1.o;subst Ck)|((with_reducible refine aE (f:=54) rfl ?_);have:=z1;refine gc (some 42) (dL.calls k Bk _ _ Bf B0 B1 B2 B3 Am Dp _ (cq (Kd.R_reads' A6.o).2.2) ((Kd.R_reads' A6.o).2.1) Ez.o) Try.func54 ?_;rintro e w_ ⟨Ep,rfl,ho_,hb⟩;refine ⟨_,rfl,?_⟩;have n_:=ak8 (rb A1 hb) (Kd.S_elder' (kqS A3.o) (Kd.S_base ho_) hb) (Kd.S_elder' (kqS A5.o) (Kd.S_base ho_) hb) (rb A6 hb) (Kd.S_lower (Kd.S_new' (Kd.S_new' ho_ (Kd.S_lt (kqS A3.o))) (Kd.S_lt (kqS A5.o))) (aH (bq2 HB.o A7.o Ac.o))) (kb A2 hb) (kb A4 hb) (aC (bq2 HB.o A7.o Ac.o) hb);clear A1 A3 A5 A6 A2 A4 HB;obtain ⟨A1,A3,A5,A6,Aa,A2,A4,HB⟩:=n_;(try clear hb ho_))|((with_reducible refine aE (f:=54) rfl ?_);have:=z1;refine gc (some 25) (dL.calls k Bk _ _ Be C6 C7 C8 C9 Aj Ce _ (cq (Kd.R_reads' A1.o).2.2) ((Kd.R_reads' A1.o).2.1) Ew.o) Try.func54 ?_;rintro e w_ ⟨Eq,rfl,ho_,hb⟩;refine ⟨_,rfl,?_⟩;have n_:=ak3 (rb A1 hb) (Kd.S_lower ho_ (aH (bq HB.o))) (aC (bq HB.o) hb);clear A1 HB;obtain ⟨A1,A3,HB⟩:=n_;(try clear hb ho_))|((with_reducible refine aI (N:=5) rfl ?_);refine bxe 5 #[.int .i64 0,.int .i64 0,.int .i64 0,.int .i64 0,.slice none 0 0] 58 ?_;intro At hg w_ hbox hb;have n_:=ak6 (rb A1 hb) (Kd.S_below (kqS A3.o) hb) (aC (bq HB.o) hb) hbox (bz hg (bq HB.o)) (bz hg (bq HB.o));clear A1 A3 HB;obtain ⟨A1,A3,HB,A2,Eh,A7⟩:=n_;clear hb hbox hg;obtain ⟨B4,B5,B6,B7,B8,B9,Ba,Bb,Bc,Bd⟩:=cl5 A2.o;obtain ⟨Af,Ag,Cl⟩:=Kd.S_slice A3.o;subst Cl)|((with_reducible refine aJ (t:=58) (p:=5) rfl ?_);refine se 58 5 (s5 w_ At (.int .i64 C6) (.int .i64 C7) (.int .i64 C8) (.int .i64 C9) (.slice Af Aj.length Ag)) ?_;intro w_ hw;have n_:=ak4 (sr5 hw A1 A2) (show Kd.S dV 116 w_ w.heap.size (fun _=>True) (.slice Af Aj.length Ag) Aj by rw [hw];exact (by (with_reducible repeat (first|apply Kd.S_alloc|apply Kd.S_drewN|apply Kd.S_drew));exact Kd.S_mono (Kd.S_far (p:=⟨At,4,none⟩) (Kd.S_far (p:=⟨At,3,none⟩) (Kd.S_far (p:=⟨At,2,none⟩) (Kd.S_far (p:=⟨At,1,none⟩) (Kd.S_far (p:=⟨At,0,none⟩) (Kd.S_types A3.o A2.o (by decide)) (fun _ hk=>hk.2) (.int .i64 C6)) (fun _ hk=>hk.2) (.int .i64 C7)) (fun _ hk=>hk.2) (.int .i64 C8)) (fun _ hk=>hk.2) (.int .i64 C9)) (fun _ hk=>hk.2) (.slice Af Aj.length Ag)) (fun _ hk=>trivial))) (sc5 hw A2) (sb hw (bq1 HB.o A7.o));clear hw A1 A3 A2 HB;obtain ⟨A1,A3,A2,HB⟩:=n_)|((with_reducible refine aE (f:=60) rfl ?_);have:=z1;refine gc (some 48) (dF.calls k Bk _ _ Bf Bg Bh Bi Bj As Dq _ (cq (Kd.R_reads' A6.o).2.2) ((Kd.R_reads' A6.o).2.1) G0.o) Try.func60 ?_;rintro e w_ ⟨Er,rfl,ho_,hb⟩;refine ⟨_,rfl,?_⟩;have n_:=kO (rb A1 hb) (Kd.S_elder' (kqS A3.o) (Kd.S_base ho_) hb) (Kd.S_elder' (kqS A5.o) (Kd.S_base ho_) hb) (rb A6 hb) (Kd.S_elder' (kqS Aa.o) (Kd.S_base ho_) hb) (Kd.S_lower (Kd.S_new' (Kd.S_new' (Kd.S_new' ho_ (Kd.S_lt (kqS A3.o))) (Kd.S_lt (kqS A5.o))) (Kd.S_lt (kqS Aa.o))) (aH (bq3 HB.o A7.o Ac.o Ar.o))) (kb A2 hb) (kb A4 hb) (kb A8 hb) (aC (bq3 HB.o A7.o Ac.o Ar.o) hb);clear A1 A3 A5 A6 Aa A2 A4 A8 HB;obtain ⟨A1,A3,A5,A6,Aa,Aq,A2,A4,A8,HB⟩:=n_;(try clear hb ho_))|((with_reducible refine aE (f:=60) rfl ?_);have:=z1;refine gc (some 31) (dF.calls k Bk _ _ Be Bl Bm Bn Bo Al Dn _ (cq (Kd.R_reads' A1.o).2.2) ((Kd.R_reads' A1.o).2.1) Ex.o) Try.func60 ?_;rintro e w_ ⟨Es,rfl,ho_,hb⟩;refine ⟨_,rfl,?_⟩;have n_:=ak5 (rb A1 hb) (Kd.S_elder' (kqS A3.o) (Kd.S_base ho_) hb) (Kd.S_lower (Kd.S_new' ho_ (Kd.S_lt (kqS A3.o))) (aH (bq1 HB.o A7.o))) (kb A2 hb) (aC (bq1 HB.o A7.o) hb);clear A1 A3 A2 HB;obtain ⟨A1,A3,A5,A2,HB⟩:=n_;(try clear hb ho_))|((with_reducible refine aI (N:=7) rfl ?_);refine bxe 7 #[.int .i64 0,.int .i64 0,.int .i64 0,.int .i64 0,.slice none 0 0] 58 ?_;intro Ap hg w_ hbox hb;have n_:=kO (rb A1 hb) (Kd.S_below (kqS A3.o) hb) (Kd.S_below (kqS A5.o) hb) (kb A2 hb) (aC (bq1 HB.o A7.o) hb) hbox (bz hg (bq1 HB.o A7.o)) (bz hg (bq1 HB.o A7.o)) (nL hg A2) (nG hg A2);clear A1 A3 A5 A2 HB;obtain ⟨A1,A3,A5,A2,HB,A4,Ei,Ac,Au,Bp⟩:=n_;clear hb hbox hg;have Cm:=Bp.o;have Cn:=Au.o;obtain ⟨Bv,Bw,Bx,By,Bz,C0,C1,C2,C3,C4⟩:=cl5 A4.o;obtain ⟨Ah,Ai,Co⟩:=Kd.S_slice A5.o;subst Co)|((with_reducible refine aJ (t:=58) (p:=7) rfl ?_);refine se 58 7 (s5 w_ Ap (.int .i64 Bl) (.int .i64 Bm) (.int .i64 Bn) (.int .i64 Bo) (.slice Ah Al.length Ai)) ?_;intro w_ hw;have n_:=ak6 (sr5 hw A1 A4) (show Kd.S dV 116 w_ w.heap.size (fun k_=>some k_≠(.slice Ah Al.length Ai:Value).ownBlock) (.slice Af Aj.length Ag) Aj by rw [hw];exact (by (with_reducible repeat (first|apply Kd.S_alloc|apply Kd.S_drewN|apply Kd.S_drew));exact Kd.S_mono (Kd.S_far (p:=⟨Ap,4,none⟩) (Kd.S_far (p:=⟨Ap,3,none⟩) (Kd.S_far (p:=⟨Ap,2,none⟩) (Kd.S_far (p:=⟨Ap,1,none⟩) (Kd.S_far (p:=⟨Ap,0,none⟩) (Kd.S_types A3.o A4.o (by decide)) (fun _ hk=>hk.2) (.int .i64 Bl)) (fun _ hk=>hk.2) (.int .i64 Bm)) (fun _ hk=>hk.2) (.int .i64 Bn)) (fun _ hk=>hk.2) (.int .i64 Bo)) (fun _ hk=>hk.2) (.slice Ah Al.length Ai)) (fun _ hk=>hk.1.2))) (show Kd.S dV 116 w_ w.heap.size (fun k_=>some k_≠(.slice Af Aj.length Ag:Value).ownBlock) (.slice Ah Al.length Ai) Al by rw [hw];exact (by (with_reducible repeat (first|apply Kd.S_alloc|apply Kd.S_drewN|apply Kd.S_drew));exact Kd.S_mono (Kd.S_far (p:=⟨Ap,4,none⟩) (Kd.S_far (p:=⟨Ap,3,none⟩) (Kd.S_far (p:=⟨Ap,2,none⟩) (Kd.S_far (p:=⟨Ap,1,none⟩) (Kd.S_far (p:=⟨Ap,0,none⟩) (Kd.S_types A5.o A4.o (by decide)) (fun _ hk=>hk.2) (.int .i64 Bl)) (fun _ hk=>hk.2) (.int .i64 Bm)) (fun _ hk=>hk.2) (.int .i64 Bn)) (fun _ hk=>hk.2) (.int .i64 Bo)) (fun _ hk=>hk.2) (.slice Ah Al.length Ai)) (fun _ hk=>hk.1.2))) (sf5 hw A2 Au) (sc5 hw A4) (sb hw (bq2 HB.o A7.o Ac.o));clear hw A1 A3 A5 A2 A4 HB;obtain ⟨A1,A3,A5,A2,A4,HB⟩:=n_)|((with_reducible refine aE (f:=62) rfl ?_);refine gc (some 36) (eZ.calls k _ _ l0 Bf Do _ (cq (Kd.C_below Ef.o HB.o)) Eg.o Ey.o) Try.func62 ?_;rintro e w_ ⟨Et,rfl,ho_,hb⟩;refine ⟨_,rfl,?_⟩;have n_:=ak7 (re_ A1 ho_ hb) (Kd.S_below (kqS A3.o) hb) (Kd.S_below (kqS A5.o) hb) (rn_ ho_ A1 (bq2 HB.o A7.o Ac.o)) (kb A2 hb) (kb A4 hb) (aC (bq2 HB.o A7.o Ac.o) hb);clear A1 A3 A5 A2 A4 HB;obtain ⟨A1,A3,A5,A6,A2,A4,HB⟩:=n_;(try clear hb ho_);obtain ⟨Cc,Cd,Cp⟩:=Kd.R_slice A6.o;subst Cp)|((with_reducible refine aI (N:=11) rfl ?_);refine bxe 11 #[.int .i64 0,.int .i64 0,.int .i64 0,.int .i64 0,.slice none 0 0] 58 ?_;intro Ab hg w_ hbox hb;have E1:=am (rb A1 hb);have E2:=am (Kd.S_below (kqS A3.o) hb);have E3:=am (Kd.S_below (kqS A5.o) hb);have E4:=am (rb A6 hb);have E5:=am (Kd.S_below (kqS Aa.o) hb);have E6:=am (kb A2 hb);have E7:=am (kb A4 hb);have E8:=am (aC (bq2 HB.o A7.o Ac.o) hb);have E9:=am (hbox);have Ea:=am (bz hg (bq2 HB.o A7.o Ac.o));have Cf:=am (bz hg (bq2 HB.o A7.o Ac.o));have Cg:=am (nL hg A2);have Ch:=am (nG hg A2);have Ci:=am (nL hg A4);have Cj:=am (nG hg A4);clear A1;clear A3;clear A5;clear A6;clear Aa;clear A2;clear A4;clear HB;have A1:=E1;have A3:=E2;have A5:=E3;have A6:=E4;have Aa:=E5;have A2:=E6;have A4:=E7;have HB:=E8;have A8:=E9;have Ej:=Ea;have Ar:=Cf;have Av:=Cg;have Bq:=Ch;have Aw:=Ci;have Br:=Cj;clear E1 E2 E3 E4 E5 E6 E7 E8 E9 Ea Cf Cg Ch Ci Cj;clear hb hbox hg;have Cq:=Bq.o;have Cr:=Av.o;have Cs:=Br.o;have Ct:=Aw.o;obtain ⟨D2,D3,D4,D5,D6,D7,D8,D9,Da,Db⟩:=cl5 A8.o;obtain ⟨Ad,Ae,Cu⟩:=Kd.S_slice Aa.o;subst Cu)|((with_reducible refine aJ (t:=58) (p:=11) rfl ?_);refine se 58 11 (s5 w_ Ab (.int .i64 B0) (.int .i64 B1) (.int .i64 B2) (.int .i64 B3) (.slice Ad Am.length Ae)) ?_;intro w_ hw;have n_:=ak9 (show Kd.R (Kd.int .u8) 5 w_ w.heap.size (fun k_=>some k_≠(.slice Cc Bf.length Cd:Value).ownBlock) (.slice Ca Be.length Cb) Be by rw [hw];exact (by refine kr ?_;exact Kd.R_mono (rf5 Ab (.int .i64 B0) (.int .i64 B1) (.int .i64 B2) (.int .i64 B3) (.slice Ad Am.length Ae) (Kd.R_types A1.o A8.o (by decide)) (fun _ hk=>hk.2)) (fun _ hk=>hk.1.2))) (show Kd.S dV 116 w_ w.heap.size (fun k_=>some k_≠(.slice Ah Al.length Ai:Value).ownBlock∧some k_≠(.slice Ad Am.length Ae:Value).ownBlock) (.slice Af Aj.length Ag) Aj by rw [hw];exact (by (with_reducible repeat (first|apply Kd.S_alloc|apply Kd.S_drewN|apply Kd.S_drew));exact Kd.S_mono (Kd.S_far (p:=⟨Ab,4,none⟩) (Kd.S_far (p:=⟨Ab,3,none⟩) (Kd.S_far (p:=⟨Ab,2,none⟩) (Kd.S_far (p:=⟨Ab,1,none⟩) (Kd.S_far (p:=⟨Ab,0,none⟩) (Kd.S_types A3.o A8.o (by decide)) (fun _ hk=>hk.2) (.int .i64 B0)) (fun _ hk=>hk.2) (.int .i64 B1)) (fun _ hk=>hk.2) (.int .i64 B2)) (fun _ hk=>hk.2) (.int .i64 B3)) (fun _ hk=>hk.2) (.slice Ad Am.length Ae)) (fun _ hk=>⟨hk.1.1,hk.1.2⟩))) (show Kd.S dV 116 w_ w.heap.size (fun k_=>some k_≠(.slice Af Aj.length Ag:Value).ownBlock∧some k_≠(.slice Ad Am.length Ae:Value).ownBlock) (.slice Ah Al.length Ai) Al by rw [hw];exact (by (with_reducible repeat (first|apply Kd.S_alloc|apply Kd.S_drewN|apply Kd.S_drew));exact Kd.S_mono (Kd.S_far (p:=⟨Ab,4,none⟩) (Kd.S_far (p:=⟨Ab,3,none⟩) (Kd.S_far (p:=⟨Ab,2,none⟩) (Kd.S_far (p:=⟨Ab,1,none⟩) (Kd.S_far (p:=⟨Ab,0,none⟩) (Kd.S_types A5.o A8.o (by decide)) (fun _ hk=>hk.2) (.int .i64 B0)) (fun _ hk=>hk.2) (.int .i64 B1)) (fun _ hk=>hk.2) (.int .i64 B2)) (fun _ hk=>hk.2) (.int .i64 B3)) (fun _ hk=>hk.2) (.slice Ad Am.length Ae)) (fun _ hk=>⟨hk.1.1,hk.1.2⟩))) (show Kd.R (Kd.int .u8) 5 w_ w.heap.size (fun k_=>some k_≠(.slice Ca Be.length Cb:Value).ownBlock) (.slice Cc Bf.length Cd) Bf by rw [hw];exact (by refine kr ?_;exact Kd.R_mono (rf5 Ab (.int .i64 B0) (.int .i64 B1) (.int .i64 B2) (.int .i64 B3) (.slice Ad Am.length Ae) (Kd.R_types A6.o A8.o (by decide)) (fun _ hk=>hk.2)) (fun _ hk=>hk.1.2))) (show Kd.S dV 116 w_ w.heap.size (fun k_=>some k_≠(.slice Af Aj.length Ag:Value).ownBlock∧some k_≠(.slice Ah Al.length Ai:Value).ownBlock) (.slice Ad Am.length Ae) Am by rw [hw];exact (by (with_reducible repeat (first|apply Kd.S_alloc|apply Kd.S_drewN|apply Kd.S_drew));exact Kd.S_mono (Kd.S_far (p:=⟨Ab,4,none⟩) (Kd.S_far (p:=⟨Ab,3,none⟩) (Kd.S_far (p:=⟨Ab,2,none⟩) (Kd.S_far (p:=⟨Ab,1,none⟩) (Kd.S_far (p:=⟨Ab,0,none⟩) (Kd.S_types Aa.o A8.o (by decide)) (fun _ hk=>hk.2) (.int .i64 B0)) (fun _ hk=>hk.2) (.int .i64 B1)) (fun _ hk=>hk.2) (.int .i64 B2)) (fun _ hk=>hk.2) (.int .i64 B3)) (fun _ hk=>hk.2) (.slice Ad Am.length Ae)) (fun _ hk=>⟨hk.1.1.2,hk.1.2⟩))) (sf5 hw A2 Av) (sf5 hw A4 Aw) (sc5 hw A8) (sb hw (bq3 HB.o A7.o Ac.o Ar.o));clear hw A1 A3 A5 A6 Aa A2 A4 A8 HB;obtain ⟨A1,A3,A5,A6,Aa,A2,A4,A8,HB⟩:=n_)|((with_reducible refine aI (N:=13) rfl ?_);refine bxe 13 #[.int .i64 0,.int .i64 0,.int .i64 0,.int .i64 0,.slice none 0 0] 58 ?_;intro A9 hg w_ hbox hb;have E1:=am (rb A1 hb);have E2:=am (Kd.S_below (kqS A3.o) hb);have E3:=am (Kd.S_below (kqS A5.o) hb);have E4:=am (rb A6 hb);have E5:=am (Kd.S_below (kqS Aa.o) hb);have E6:=am (Kd.S_below (kqS Aq.o) hb);have E7:=am (kb A2 hb);have E8:=am (kb A4 hb);have E9:=am (kb A8 hb);have Ea:=am (aC (bq3 HB.o A7.o Ac.o Ar.o) hb);have Cf:=am (hbox);have Cg:=am (bz hg (bq3 HB.o A7.o Ac.o Ar.o));have Ch:=am (bz hg (bq3 HB.o A7.o Ac.o Ar.o));have Ci:=am (nL hg A2);have Cj:=am (nG hg A2);have Eb:=am (nL hg A4);have Ec:=am (nG hg A4);have Ed:=am (nL hg A8);have Ee:=am (nG hg A8);clear A1;clear A3;clear A5;clear A6;clear Aa;clear Aq;clear A2;clear A4;clear A8;clear HB;have A1:=E1;have A3:=E2;have A5:=E3;have A6:=E4;have Aa:=E5;have Aq:=E6;have A2:=E7;have A4:=E8;have A8:=E9;have HB:=Ea;have Ak:=Cf;have Ek:=Cg;have C5:=Ch;have Ax:=Ci;have Bs:=Cj;have Ay:=Eb;have Bt:=Ec;have Az:=Ed;have Bu:=Ee;clear E1 E2 E3 E4 E5 E6 E7 E8 E9 Ea Cf Cg Ch Ci Cj Eb Ec Ed Ee;clear hb hbox hg;have Cv:=Bs.o;have Cw:=Ax.o;have Cx:=Bt.o;have Cy:=Ay.o;have Cz:=Bu.o;have D0:=Az.o;obtain ⟨Dc,Dd,De,Df,Dg,Dh,Di,Dj,Dk,Dl⟩:=cl5 Ak.o;obtain ⟨An,Ao,D1⟩:=Kd.S_slice Aq.o;subst D1)|((with_reducible refine aJ (t:=58) (p:=13) rfl ?_);refine se 58 13 (s5 w_ A9 (.int .i64 Bg) (.int .i64 Bh) (.int .i64 Bi) (.int .i64 Bj) (.slice An As.length Ao)) ?_;intro w_ hw;have n_:=jP (sr5 hw A1 Ak) (show Kd.S dV 116 w_ w.heap.size (fun k_=>some k_≠(.slice Ah Al.length Ai:Value).ownBlock∧some k_≠(.slice Ad Am.length Ae:Value).ownBlock∧some k_≠(.slice An As.length Ao:Value).ownBlock) (.slice Af Aj.length Ag) Aj by rw [hw];exact (by (with_reducible repeat (first|apply Kd.S_alloc|apply Kd.S_drewN|apply Kd.S_drew));exact Kd.S_mono (Kd.S_far (p:=⟨A9,4,none⟩) (Kd.S_far (p:=⟨A9,3,none⟩) (Kd.S_far (p:=⟨A9,2,none⟩) (Kd.S_far (p:=⟨A9,1,none⟩) (Kd.S_far (p:=⟨A9,0,none⟩) (Kd.S_types A3.o Ak.o (by decide)) (fun _ hk=>hk.2) (.int .i64 Bg)) (fun _ hk=>hk.2) (.int .i64 Bh)) (fun _ hk=>hk.2) (.int .i64 Bi)) (fun _ hk=>hk.2) (.int .i64 Bj)) (fun _ hk=>hk.2) (.slice An As.length Ao)) (fun _ hk=>⟨hk.1.1.1,⟨hk.1.1.2,hk.1.2⟩⟩))) (show Kd.S dV 116 w_ w.heap.size (fun k_=>some k_≠(.slice Af Aj.length Ag:Value).ownBlock∧some k_≠(.slice Ad Am.length Ae:Value).ownBlock∧some k_≠(.slice An As.length Ao:Value).ownBlock) (.slice Ah Al.length Ai) Al by rw [hw];exact (by (with_reducible repeat (first|apply Kd.S_alloc|apply Kd.S_drewN|apply Kd.S_drew));exact Kd.S_mono (Kd.S_far (p:=⟨A9,4,none⟩) (Kd.S_far (p:=⟨A9,3,none⟩) (Kd.S_far (p:=⟨A9,2,none⟩) (Kd.S_far (p:=⟨A9,1,none⟩) (Kd.S_far (p:=⟨A9,0,none⟩) (Kd.S_types A5.o Ak.o (by decide)) (fun _ hk=>hk.2) (.int .i64 Bg)) (fun _ hk=>hk.2) (.int .i64 Bh)) (fun _ hk=>hk.2) (.int .i64 Bi)) (fun _ hk=>hk.2) (.int .i64 Bj)) (fun _ hk=>hk.2) (.slice An As.length Ao)) (fun _ hk=>⟨hk.1.1.1,⟨hk.1.1.2,hk.1.2⟩⟩))) (sr5 hw A6 Ak) (show Kd.S dV 116 w_ w.heap.size (fun k_=>some k_≠(.slice Af Aj.length Ag:Value).ownBlock∧some k_≠(.slice Ah Al.length Ai:Value).ownBlock∧some k_≠(.slice An As.length Ao:Value).ownBlock) (.slice Ad Am.length Ae) Am by rw [hw];exact (by (with_reducible repeat (first|apply Kd.S_alloc|apply Kd.S_drewN|apply Kd.S_drew));exact Kd.S_mono (Kd.S_far (p:=⟨A9,4,none⟩) (Kd.S_far (p:=⟨A9,3,none⟩) (Kd.S_far (p:=⟨A9,2,none⟩) (Kd.S_far (p:=⟨A9,1,none⟩) (Kd.S_far (p:=⟨A9,0,none⟩) (Kd.S_types Aa.o Ak.o (by decide)) (fun _ hk=>hk.2) (.int .i64 Bg)) (fun _ hk=>hk.2) (.int .i64 Bh)) (fun _ hk=>hk.2) (.int .i64 Bi)) (fun _ hk=>hk.2) (.int .i64 Bj)) (fun _ hk=>hk.2) (.slice An As.length Ao)) (fun _ hk=>⟨hk.1.1.1,⟨hk.1.1.2,hk.1.2⟩⟩))) (show Kd.S dV 116 w_ w.heap.size (fun k_=>some k_≠(.slice Af Aj.length Ag:Value).ownBlock∧some k_≠(.slice Ah Al.length Ai:Value).ownBlock∧some k_≠(.slice Ad Am.length Ae:Value).ownBlock) (.slice An As.length Ao) As by rw [hw];exact (by (with_reducible repeat (first|apply Kd.S_alloc|apply Kd.S_drewN|apply Kd.S_drew));exact Kd.S_mono (Kd.S_far (p:=⟨A9,4,none⟩) (Kd.S_far (p:=⟨A9,3,none⟩) (Kd.S_far (p:=⟨A9,2,none⟩) (Kd.S_far (p:=⟨A9,1,none⟩) (Kd.S_far (p:=⟨A9,0,none⟩) (Kd.S_types Aq.o Ak.o (by decide)) (fun _ hk=>hk.2) (.int .i64 Bg)) (fun _ hk=>hk.2) (.int .i64 Bh)) (fun _ hk=>hk.2) (.int .i64 Bi)) (fun _ hk=>hk.2) (.int .i64 Bj)) (fun _ hk=>hk.2) (.slice An As.length Ao)) (fun _ hk=>⟨hk.1.1.1.2,⟨hk.1.1.2,hk.1.2⟩⟩))) (sf5 hw A2 Ax) (sf5 hw A4 Ay) (sf5 hw A8 Az) (sc5 hw Ak) (sb hw (bq4 HB.o A7.o Ac.o Ar.o C5.o));clear hw A1 A3 A5 A6 Aa Aq A2 A4 A8 Ak HB;obtain ⟨A1,A3,A5,A6,Aa,Aq,A2,A4,A8,Ak,HB⟩:=n_;obtain ⟨B4,B5,B6,B7,B8,B9,Ba,Bb,Bc,Bd⟩:=cl5 A2.o;obtain ⟨Bv,Bw,Bx,By,Bz,C0,C1,C2,C3,C4⟩:=cl5 A4.o)|(go_at_call 56;refine cm (fL.calls k C6 C7 C8 C9 _ _ Aj Bl Bm Bn Bo _ _ Al true _ (cq (Kd.S_reads' A3.o).2.2) ((Kd.S_reads' A3.o).2.1) (cq (Kd.S_reads' A5.o).2.2) ((Kd.S_reads' A5.o).2.1) G1.o) ?_;rintro e w_ ⟨rfl,hb⟩;have n_:=jP (rb A1 hb) (Kd.S_below (kqS A3.o) hb) (Kd.S_below (kqS A5.o) hb) (rb A6 hb) (Kd.S_below (kqS Aa.o) hb) (Kd.S_below (kqS Aq.o) hb) (kb A2 hb) (kb A4 hb) (kb A8 hb) (kb Ak hb) (aC (bq4 HB.o A7.o Ac.o Ar.o C5.o) hb);clear A1 A3 A5 A6 Aa Aq A2 A4 A8 Ak HB;obtain ⟨A1,A3,A5,A6,Aa,Aq,A2,A4,A8,Ak,HB⟩:=n_;(try clear hb);obtain ⟨B4,B5,B6,B7,B8,B9,Ba,Bb,Bc,Bd⟩:=cl5 A2.o))
  first
  | go_ret
    exact ⟨rq,bq4 HB.o A7.o Ac.o Ar.o C5.o⟩
  | go_ret
    exact ⟨rq,bq HB.o⟩
def laws_FnMsgsRead.Pure:Prop:=∀(l0:List Int),l0.length≤maxLen→(∀y ∈ l0,(Lit.int .u8 y).wf=true)→∃k,laws_FnMsgsRead.f k l0=some true
end Go.Proofs.Ythhnfmbfgplelaa.XFnMsgsRead
