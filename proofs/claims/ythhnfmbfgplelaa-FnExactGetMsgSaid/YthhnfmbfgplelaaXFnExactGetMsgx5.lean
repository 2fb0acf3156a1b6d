/- The functions that one law reaches, as Lean functions, with their walks: printed by a program of this seat (wip/tools) out of the translation. -/
import Derived.Test.YthhnfmbfgplelaaXFnExactGetMsgx0
import Derived.Test.YthhnfmbfgplelaaXFnExactGetMsgx3
import Derived.Test.YthhnfmbfgplelaaXFnExactGetMsgx4
namespace Go.Proofs.Ythhnfmbfgplelaa.XFnExactGetMsg
open Go.RowKit Go.Proofs.YthhnfmbfgplelaaW.PrintWords Go.Proofs.YthhnfmbfgplelaaW.PrintLast Go.Proofs.YthhnfmbfgplelaaW.PrintMore
attribute [local go_sem] cQ cR dP dQ cC cD cS cT
set_option linter.unusedVariables false
set_option linter.unusedSimpArgs false
set_option maxHeartbeats 8000000
set_option maxRecDepth 100000
def dH.j0:Nat→Int→List Int→Bool→Option (List Int × Bool)
 |0,_,_,_=>none
 |k+1,x0,x1,A4=>if A4=true then (some (([]:List Int),false)) else ((some (([(x0) % 256]:List Int):List Int)).bind fun A0=>(if (x1.length:Int)≥128 then (if A0.length<140737488355328 then ((some (A0++[129]:List Int)).bind fun A1=>(if A1.length<140737488355328 then ((some (A1++[((x1.length:Int)) % 256]:List Int)).bind fun A2=>(if A2.length+x1.length<140737488355328 then (some ((A2++x1),true)) else (none))) else (none))) else (none)) else (if A0.length<140737488355328 then ((some (A0++[((x1.length:Int)) % 256]:List Int)).bind fun A3=>(if A3.length+x1.length<140737488355328 then (some ((A3++x1),true)) else (none))) else (none))))
def dH.f (k:Nat) (a0:Int) (l1:List Int):Option (List Int × Bool):=(bN.f a0 0 255).bind fun A0=>(if A0=true then (dH.j0 k a0 l1 (decide ((l1.length:Int)>250))) else (dH.j0 k a0 l1 true))
theorem dH.calls (k:Nat) (a0:Int) (A1:Option Addr) (c1:Nat) (l1:List Int) (r1:List Int) (r2:Bool) (w:World) (Ay:Kd.C (Kd.int .u8) w A1 l1.length l1) (Az:l1.length≤c1) (h:dH.f k a0 l1=some (r1,r2)):
 Calls Try.prog 100 #[.int .i64 a0,.slice A1 l1.length c1] w fun e w'=>∃B0:Value,e=.returned (.tuple #[B0,.bool r2])∧Kd.R (Kd.int .u8) 5 w' w.heap.size (fun _=>True) B0 r1∧Below w.heap.size w w':=by
 have B1:=am Ay
 have Ba:=am Az
 clear Ay Az
 have HB:=am (Below.refl w.heap.size w)
 have H:=h
 clear h
 unfold dH.f at H
 have Ap:=am H
 clear H
 go_enter Try.func100,Try.ntmps100
 go_upto_region 1 with (fail)
 go_cut [14] (fun B5 wc=>∃(kq:Nat) (A2:Bool),B5=.bool A2∧Aside0 (dH.j0 kq a0 l1 A2=some (r1,r2))∧Aside0 (kq≤k)∧Aside0 (Below w.heap.size w wc))
 case first=>
  have H:=Ap.o
  clear Ap
  replace H:=be H
  obtain ⟨Aq,A4,H⟩:=H
  rcases bt Aq with rfl|rfl
  · replace H:=iT H
    have H':=am H
    clear H
    go_wp2_with (first|((with_reducible refine aD (f:=87) rfl ?_);refine gc (some 8) (bN.calls a0 0 255 true _ A4.o) Try.func87 ?_;rintro e w' ⟨rfl,⟨nd,rfl⟩⟩;refine ⟨_,rfl,?_⟩))
    go_meet
    case rel=>exact ⟨_,(decide ((l1.length:Int)>250)),sq,H',⟨by first|omega|exact j6 _⟩,⟨bq HB.o⟩⟩
  replace H:=iF H
  have H':=am H
  clear H
  go_wp2_with (first|((with_reducible refine aD (f:=87) rfl ?_);refine gc (some 8) (bN.calls a0 0 255 false _ A4.o) Try.func87 ?_;rintro e w' ⟨rfl,⟨nd,rfl⟩⟩;refine ⟨_,rfl,?_⟩))
  go_meet
  case rel=>exact ⟨_,(true),sq,H',⟨by first|omega|exact j6 _⟩,⟨bq HB.o⟩⟩
 case rest=>
  clear Ap
  try clear c1
  try clear p2
  try clear c5
  obtain ⟨kq,A2,rfl,HA,Bb,HB⟩:=hcut
  cases kq with
  |zero=>exact absurd HA.o (by simp [dH.j0])
  |succ Bc=>
   have H:=HA.o
   clear HA
   simp only [dH.j0] at H
   rcases Decidable.em (A2=true) with c6|c6
   subst c6
   replace H:(some (([]:List Int),false))=some (r1,r2):=by rw [if_pos rfl] at H;exact H
   have z0:=trivial
   rotate_left
   replace c6:=Bool.eq_false_iff.mpr c6
   subst c6
   replace H:((some (([(a0) % 256]:List Int):List Int)).bind fun A0=>(if (l1.length:Int)≥128 then (if A0.length<140737488355328 then ((some (A0++[129]:List Int)).bind fun A7=>(if A7.length<140737488355328 then ((some (A7++[((l1.length:Int)) % 256]:List Int)).bind fun A5=>(if A5.length+l1.length<140737488355328 then (some ((A5++l1),true)) else (none))) else (none))) else (none)) else (if A0.length<140737488355328 then ((some (A0++[((l1.length:Int)) % 256]:List Int)).bind fun A6=>(if A6.length+l1.length<140737488355328 then (some ((A6++l1),true)) else (none))) else (none))))=some (r1,r2):=by rw [if_neg (show ¬(false=true) by decide)] at H;exact H
   replace H:=bs H
   obtain ⟨A0,A8,H⟩:=H
   replace H:=ip' H
   rcases H with ⟨c7,H⟩|⟨c7,H⟩
   have Ar:decide (128≤(l1.length:Int))=false:=decide_eq_false c7
   have As:decide (128≤l1.length)=false:=decide_eq_false (by omega)
   clear c7
   replace H:=nq H
   obtain ⟨B2,H⟩:=H
   have Ae:=am B2
   clear B2
   replace H:=bs H
   obtain ⟨A6,Af,H⟩:=H
   replace H:=nq H
   obtain ⟨B3,H⟩:=H
   have Ag:=am B3
   clear B3
   generalize A9:((A6++l1):List Int)=B6 at H
   have Ah:=am A9.symm
   clear A9
   have z1:=trivial
   rotate_left
   have Ar:decide (128≤(l1.length:Int))=true:=j7 c7
   have As:decide (128≤l1.length)=true:=j7 (by omega)
   clear c7
   replace H:=nq H
   obtain ⟨c8,H⟩:=H
   have At:=am c8
   clear c8
   replace H:=bs H
   obtain ⟨A7,Ai,H⟩:=H
   replace H:=nq H
   obtain ⟨c9,H⟩:=H
   have Au:=am c9
   clear c9
   replace H:=bs H
   obtain ⟨A5,Aj,H⟩:=H
   replace H:=nq H
   obtain ⟨B4,H⟩:=H
   have Ak:=am B4
   clear B4
   generalize Aa:((A5++l1):List Int)=B7 at H
   have Al:=am Aa.symm
   clear Aa
   have z2:=trivial
   rotate_right
   rotate_right
   all_goals
    simp only [j3,j4] at H
    obtain ⟨rfl,rfl⟩:=H
    go_wp2_with (first|((with_reducible refine aM (N:=17) rfl ?_);(try (refine aV (by rfl) ?_;dsimp only));refine Kd.R_lit (Kd.int .u8) _ 5 ?hg (N:=17) ?hd (xs:=([(a0) % 256]:List Int)) (inner:=[.int .u8 ((a0) % 256)]) (ok:=fun _=>True) (okp:=fun _=>True) ?hr ?hp (fun _ hk=>hk) trivial (Below.refl _ _) (j6 _) (by simp) ?_;(case hd=>rfl);(case hg=>rfl);(case hr=>exact gs);(case hp=>exact (bV.one (show Kd.M (Kd.int .u8) _ _ _ ((a0) % 256) [.int .u8 ((a0) % 256)] from rfl) (bV.none _ _)));intro Am w_ ho_ hb hg_ hnew_;clear hg_ hnew_;(first|rw [← A8.o] at ho_|(simp only [Int.reduceToNat] at ho_;rw [← A8.o] at ho_));have n_:=ak2 (rl ho_ (bq HB.o)) (aA (bq HB.o) hb);clear HB;obtain ⟨A3,HB⟩:=n_;clear hb ho_)|((with_reducible refine bW (b:=.append) (xs:=#[.tmp 24,.tmp 28]) rfl ?_);have:=z1;(try (refine aV (by rfl) ?_;dsimp only));at_builtin;refine Kd.R_append (Kd.int .u8) (w0:=w) w.heap.size rfl (.tmp 24) (.tmp 28) 22 5 (.int .u8 0) 1 rfl Try.underlying22 eF rfl (by decide) (by omega) Am A0 (((l1.length:Int)) % 256) [.int .u8 (((l1.length:Int)) % 256)] (fun _=>True) (fun _=>False) rfl rfl ?aP (fun _ hk=>hk.elim) ?aF ?aO ?aB ?aS ?aL ?_;(case aP=>exact rfl);(case aB=>exact (bq HB.o));(case aF=>exact (fun _ _=>trivial));(case aO=>exact (kqR A3.o));(case aS=>exact (aX (bq HB.o)));(case aL=>have:=Ae.o;omega);intro Av w_ ho hb hg hat;rw [← Af.o] at ho;have n_:=ak2 hb ho;clear HB A3;obtain ⟨HB,Ab⟩:=n_;clear ho hb hg hat)|((with_reducible refine bW (b:=.append) (xs:=#[.tmp 24,.tmp 28]) rfl ?_);have:=z2;(try (refine aV (by rfl) ?_;dsimp only));at_builtin;refine Kd.R_append (Kd.int .u8) (w0:=w) w.heap.size rfl (.tmp 24) (.tmp 28) 22 5 (.int .u8 0) 1 rfl Try.underlying22 eF rfl (by decide) (by omega) Aw A7 (((l1.length:Int)) % 256) [.int .u8 (((l1.length:Int)) % 256)] (fun _=>True) (fun _=>False) rfl rfl ?aP (fun _ hk=>hk.elim) ?aF ?aO ?aB ?aS ?aL ?_;(case aP=>exact rfl);(case aB=>exact (bq HB.o));(case aF=>exact (fun _ _=>trivial));(case aO=>exact (kqR Ac.o));(case aS=>exact (aX (bq HB.o)));(case aL=>have:=Au.o;omega);intro Ax w_ ho hb hg hat;rw [← Aj.o] at ho;have n_:=ak2 hb ho;clear HB Ac;obtain ⟨HB,Ad⟩:=n_;clear ho hb hg hat)|((with_reducible refine bW (b:=.append) (xs:=#[.tmp 29,.tmp 30]) rfl ?_);have:=z1;(try (refine aV (by rfl) ?_;dsimp only));at_builtin;refine Kd.R_append_rows (Kd.int .u8) (w0:=w) w.heap.size rfl (.tmp 29) (.tmp 30) 22 5 (.int .u8 0) 1 rfl Try.underlying22 eF rfl (by decide) (by omega) Av A6 l1 _ _ _ (fun _=>True) (fun _=>False) rfl rfl ?aO ?aR (fun _ _ h=>h) (fun _ h=>h.elim) ?aF ?aB ?aS ?aL ?_;(case aR=>exact cq (Kd.C_below B1.o HB.o));(case aB=>exact (bq HB.o));(case aF=>exact (fun _ _=>trivial));(case aO=>exact (kqR Ab.o));(case aS=>exact (aX (bq HB.o)));(case aL=>have:=Ag.o;omega);intro B8 w_ ho hb hg hat;rw [← Ah.o] at ho;have n_:=ak2 hb ho;clear HB Ab;obtain ⟨HB,An⟩:=n_;clear ho hb hg hat)|((with_reducible refine bW (b:=.append) (xs:=#[.tmp 29,.tmp 30]) rfl ?_);have:=z2;(try (refine aV (by rfl) ?_;dsimp only));at_builtin;refine Kd.R_append_rows (Kd.int .u8) (w0:=w) w.heap.size rfl (.tmp 29) (.tmp 30) 22 5 (.int .u8 0) 1 rfl Try.underlying22 eF rfl (by decide) (by omega) Ax A5 l1 _ _ _ (fun _=>True) (fun _=>False) rfl rfl ?aO ?aR (fun _ _ h=>h) (fun _ h=>h.elim) ?aF ?aB ?aS ?aL ?_;(case aR=>exact cq (Kd.C_below B1.o HB.o));(case aB=>exact (bq HB.o));(case aF=>exact (fun _ _=>trivial));(case aO=>exact (kqR Ad.o));(case aS=>exact (aX (bq HB.o)));(case aL=>have:=Ak.o;omega);intro B9 w_ ho hb hg hat;rw [← Al.o] at ho;have n_:=ak2 hb ho;clear HB Ad;obtain ⟨HB,Ao⟩:=n_;clear ho hb hg hat)|((with_reducible refine bW (b:=.append) (xs:=#[.tmp 21,.tmp 22]) rfl ?_);(try (refine aV (by rfl) ?_;dsimp only));at_builtin;refine Kd.R_append (Kd.int .u8) (w0:=w) w.heap.size rfl (.tmp 21) (.tmp 22) 22 5 (.int .u8 0) 1 rfl Try.underlying22 eF rfl (by decide) (by omega) Am A0 129 [.int .u8 129] (fun _=>True) (fun _=>False) rfl rfl ?aP (fun _ hk=>hk.elim) ?aF ?aO ?aB ?aS ?aL ?_;(case aP=>exact rfl);(case aB=>exact (bq HB.o));(case aF=>exact (fun _ _=>trivial));(case aO=>exact (kqR A3.o));(case aS=>exact (aX (bq HB.o)));(case aL=>have:=At.o;omega);intro Aw w_ ho hb hg hat;rw [← Ai.o] at ho;have n_:=ak2 hb ho;clear HB A3;obtain ⟨HB,Ac⟩:=n_;clear ho hb hg hat))
    first
    | go_ret2
      exact ⟨_,rq,kqR An.o,bq HB.o⟩
    | go_ret2
      exact ⟨_,rq,kqR Ao.o,bq HB.o⟩
    | go_ret2
      exact ⟨_,rq,rn,bq HB.o⟩
def cN.f (k:Nat) (l0:List Int) (a1:Int) (l2:List Int):Option (List Int):=(dH.f k a1 l2).bind fun A0=>((cE.f l0).bind fun A1=>(if A1.length+A0.1.length<140737488355328 then (some (A1++A0.1)) else (none)))
theorem cN.calls (k:Nat) (A0:Option Addr) (c0:Nat) (l0:List Int) (a1:Int) (A2:Option Addr) (c2:Nat) (l2:List Int) (r:List Int) (w:World) (Ag:Kd.C (Kd.int .u8) w A0 l0.length l0) (Ah:l0.length≤c0) (Ai:Kd.C (Kd.int .u8) w A2 l2.length l2) (Aj:l2.length≤c2) (h:cN.f k l0 a1 l2=some r):
 Calls Try.prog 71 #[.slice A0 l0.length c0,.int .i64 a1,.slice A2 l2.length c2] w fun e w'=>∃Ak:Value,e=.returned (Ak)∧Kd.R (Kd.int .u8) 5 w' w.heap.size (fun _=>True) Ak r∧Below w.heap.size w w':=by
 have Al:=am Ag
 have Am:=am Ah
 clear Ag Ah
 have An:=am Ai
 have Ao:=am Aj
 clear Ai Aj
 have HB:=am (Below.refl w.heap.size w)
 have H:=h
 clear h
 unfold cN.f at H
 replace H:=be H
 obtain ⟨⟨A3,A8⟩,Ap,H⟩:=H
 try dsimp only at H
 replace H:=be H
 obtain ⟨A4,Aq,H⟩:=H
 replace H:=nq H
 obtain ⟨c6,H⟩:=H
 have Ab:=am c6
 clear c6
 generalize A5:((A4++A3):List Int)=Ar at H
 have A9:=am A5.symm
 clear A5
 obtain rfl:=j5 H
 go_enter Try.func71,Try.ntmps71
 go_wp2_with (first|((with_reducible refine aD (f:=100) rfl ?_);refine gc (some 12) (dH.calls k a1 _ _ l2 A3 A8 _ (cq An.o) Ao.o Ap.o) Try.func100 ?_;rintro e w7 ⟨As,rfl,A7,hb⟩;refine ⟨_,rfl,?_⟩;have n_:=ak2 (rl A7 (bq HB.o)) (aA (bq HB.o) hb);clear HB;obtain ⟨A1,HB⟩:=n_;(try clear hb A7))|((with_reducible refine aD (f:=68) rfl ?_);refine gc (some 16) (cE.calls _ _ l0 A4 _ (cq (Kd.C_below Al.o HB.o)) Am.o Aq.o) Try.func68 ?_;rintro e w8 ⟨Ac,rfl,A7,hb⟩;refine ⟨_,rfl,?_⟩;have n_:=ak3 (re_ A1 A7 hb) (rn_ A7 A1 (bq HB.o)) (aA (bq HB.o) hb);clear A1 HB;obtain ⟨A1,A6,HB⟩:=n_;(try clear hb A7);obtain ⟨Ad,Ae,Af⟩:=Kd.R_slice A1.o;subst Af)|((with_reducible refine bW (b:=.append) (xs:=#[.tmp 16,.tmp 17]) rfl ?_);at_builtin;refine Kd.R_append_rows (Kd.int .u8) (w0:=w) w.heap.size rfl (.tmp 16) (.tmp 17) 22 5 (.int .u8 0) 1 rfl Try.underlying22 eF rfl (by decide) (by omega) Ac A4 A3 _ _ _ (fun k_=>some k_≠(.slice Ad A3.length Ae:Value).ownBlock) (fun _=>False) rfl rfl ?aO ?aR (fun _ _ h=>h) (fun _ h=>h.elim) ?aF ?aB ?aS ?aL ?_;(case aR=>repeat (first|exact (Kd.R_reads' A1.o).2.2|(with_reducible refine Kd.C_alloc ?_ _)|(with_reducible refine Kd.C_drewN ?_ _)|(with_reducible refine Kd.C_drew ?_)));(case aB=>exact (bq HB.o));(case aF=>exact (fun k_ hk=>Kd.fresh' (Kd.R_lt (kqR A1.o)) k_ hk));(case aO=>exact (by refine kr ?_;exact Kd.R_mono A6.o (fun _ hk=>hk.2)));(case aS=>exact (aX (bq HB.o)));(case aL=>have:=Ab.o;omega);intro At w9 ho hb hg hat;rw [← A9.o] at ho;have n_:=ak3 (Kd.R_after (ok:=(fun _=>True)) (kqR A1.o) hg hat) hb ho;clear A1 HB A6;obtain ⟨A1,HB,Aa⟩:=n_;clear ho hb hg hat))
 go_ret
 exact ⟨_,rq,by refine kr ?_;exact Kd.R_mono Aa.o (fun _ hk=>trivial),bq HB.o⟩
def eW.f (k:Nat) (l0:List Int) (A0:Int) (A2:Int) (A1:ByteArray) (A3:List Int):Option (List Int):=(cA.f k A0 A2 A1 A3).bind fun A4=>(if A4=true then (if A0=2 then ((bF.f k A2).bind fun A5=>((cN.f k l0 A0 A5).bind fun A6=>(some A6))) else (if A0=4 then (if (A1.size:Int)<140737488355328 then ((cN.f k l0 A0 (fI A1)).bind fun A7=>(some A7)) else (none)) else (if A0=6 then ((bK.f k A3).bind fun A8=>((cN.f k l0 A0 A8).bind fun A9=>(some A9))) else ((cN.f k l0 A0 ([]:List Int)).bind fun Aa=>(some Aa))))) else ((cE.f l0).bind fun Ab=>(some Ab)))
theorem eW.calls (k:Nat) (A0:Option Addr) (c0:Nat) (l0:List Int) (Af:Int) (Ai:Int) (Ag:ByteArray) (Aq:Option Addr) (Ar:Nat) (Ah:List Int) (r:List Int) (w:World) (Bi:Kd.C (Kd.int .u8) w A0 l0.length l0) (Bj:l0.length≤c0) (Al:Kd.C (Kd.int .i64) w Aq Ah.length Ah) (Am:Ah.length≤Ar) (h:eW.f k l0 Af Ai Ag Ah=some r):
 Calls Try.prog 17 #[.slice A0 l0.length c0,.agg #[.int .i64 Af,.int .i64 Ai,.string Ag,.slice Aq Ah.length Ar]] w fun e w'=>∃Bk:Value,e=.returned (Bk)∧Kd.R (Kd.int .u8) 5 w' w.heap.size (fun _=>True) Bk r∧Below w.heap.size w w':=by
 have Bs:=Try.underlying29
 have Aw:=am Bi
 have Ax:=am Bj
 clear Bi Bj
 have Aj:=am Al
 have Ak:=am Am
 clear Al Am
 have HB:=am (Below.refl w.heap.size w)
 have H:=h
 clear h
 unfold eW.f at H
 replace H:=be H
 obtain ⟨Ay,Bl,H⟩:=H
 cases Ay
 replace H:=iF H
 replace H:=be H
 obtain ⟨Az,Bt,H⟩:=H
 have z0:=trivial
 rotate_left
 replace H:=iT H
 replace H:=iq H
 rcases H with ⟨-,Bb,Bc,H⟩|⟨c5,Bb,Bc,H⟩
 replace H:=be H
 obtain ⟨An,Bu,H⟩:=H
 replace H:=be H
 obtain ⟨Ac,As,H⟩:=H
 have z1:=trivial
 rotate_left
 replace H:=iq H
 rcases H with ⟨-,B0,B1,H⟩|⟨C3,B0,B1,H⟩
 replace H:=nq H
 obtain ⟨Bd,H⟩:=H
 have Bm:=eq_true Bd
 have Bn:decide ((Ag.size:Int)<140737488355328)=true:=j7 Bd
 clear Bd
 generalize Ao:((fI Ag):List Int)=B2 at H
 have B3:=am Ao.symm
 clear Ao
 replace H:=be H
 obtain ⟨Ac,As,H⟩:=H
 have z2:=trivial
 rotate_left
 replace H:=iq' H
 rcases H with ⟨C4,B4,B5,H⟩|⟨-,B4,B5,H⟩
 replace H:=be H
 obtain ⟨Ac,As,H⟩:=H
 have z3:=trivial
 rotate_left
 replace H:=be H
 obtain ⟨Ap,Bv,H⟩:=H
 replace H:=be H
 obtain ⟨Ac,As,H⟩:=H
 have z4:=trivial
 rotate_right
 rotate_right
 rotate_right
 rotate_right
 all_goals
  obtain rfl:=j5 H
  go_enter Try.func17,Try.ntmps17
  go_wp2_with (first|((with_reducible refine aM (N:=3) rfl ?_);refine bxe 3 #[.int .i64 Af,.int .i64 Ai,.string Ag,.slice Aq Ah.length Ar] 29 ?_;intro Bo hg w_ hbox hb;have n_:=ak4 (aA (bq HB.o) hb) hbox (bz hg (bq HB.o)) (bz hg (bq HB.o));clear HB;obtain ⟨HB,A1,Bp,A2⟩:=n_;clear hb hbox hg;obtain ⟨A3,A4,A5,A6,A7,A8,A9,Aa⟩:=cl4 A1.o)|((with_reducible refine aD (f:=46) rfl ?_);(first|have:=z1|have:=z2|have:=z3|have:=z4);refine gc (some 7) (cA.calls k Af Ai Ag _ _ Ah true _ (cq (Kd.C_below Aj.o HB.o)) Ak.o Bl.o) Try.func46 ?_;rintro e w_ ⟨rfl,hb⟩;refine ⟨_,rfl,?_⟩;have n_:=ak2 (kb A1 hb) (aA (bq1 HB.o A2.o) hb);clear A1 HB;obtain ⟨A1,HB⟩:=n_;(try clear hb);obtain ⟨A3,A4,A5,A6,A7,A8,A9,Aa⟩:=cl4 A1.o)|((with_reducible refine aD (f:=46) rfl ?_);have:=z0;refine gc (some 7) (cA.calls k Af Ai Ag _ _ Ah false _ (cq (Kd.C_below Aj.o HB.o)) Ak.o Bl.o) Try.func46 ?_;rintro e w_ ⟨rfl,hb⟩;refine ⟨_,rfl,?_⟩;have n_:=ak2 (kb A1 hb) (aA (bq1 HB.o A2.o) hb);clear A1 HB;obtain ⟨A1,HB⟩:=n_;(try clear hb))|((with_reducible refine aD (f:=68) rfl ?_);refine gc (some 10) (cE.calls _ _ l0 Az _ (cq (Kd.C_below Aw.o HB.o)) Ax.o Bt.o) Try.func68 ?_;rintro e w_ ⟨Bw,rfl,ho_,hb⟩;refine ⟨_,rfl,?_⟩;have n_:=ak3 (rl ho_ (bq1 HB.o A2.o)) (kb A1 hb) (aA (bq1 HB.o A2.o) hb);clear A1 HB;obtain ⟨B6,A1,HB⟩:=n_;(try clear hb ho_))|((with_reducible refine aD (f:=69) rfl ?_);refine gc (some 17) (bF.calls k Ai An _ Bu.o) Try.func69 ?_;rintro e w_ ⟨Bx,rfl,ho_,hb⟩;refine ⟨_,rfl,?_⟩;have n_:=ak3 (rl ho_ (bq1 HB.o A2.o)) (kb A1 hb) (aA (bq1 HB.o A2.o) hb);clear A1 HB;obtain ⟨Ad,A1,HB⟩:=n_;(try clear hb ho_);obtain ⟨Be,Bf,At⟩:=Kd.R_slice Ad.o;subst At;obtain ⟨A3,A4,A5,A6,A7,A8,A9,Aa⟩:=cl4 A1.o)|((with_reducible refine aD (f:=71) rfl ?_);have:=z2;refine gc (some 32) (cN.calls k _ _ l0 Af _ _ B2 Ac _ (cq (Kd.C_below Aw.o HB.o)) Ax.o (by repeat (first|exact (by repeat (first|(with_reducible exact Ab.o)|(with_reducible refine Kd.C_alloc ?_ _)|(with_reducible refine Kd.C_drewN ?_ _)|(with_reducible refine Kd.C_drew ?_)|exact Ab.o))|(with_reducible refine Kd.C_alloc ?_ _)|(with_reducible refine Kd.C_drewN ?_ _)|(with_reducible refine Kd.C_drew ?_))) Au.o As.o) Try.func71 ?_;rintro e w_ ⟨By,rfl,ho_,hb⟩;refine ⟨_,rfl,?_⟩;have n_:=ak4 (rl ho_ (bq1 HB.o A2.o)) (kb A1 hb) (Kd.C_below (by repeat (first|(with_reducible exact Ab.o)|(with_reducible refine Kd.C_alloc ?_ _)|(with_reducible refine Kd.C_drewN ?_ _)|(with_reducible refine Kd.C_drew ?_)|exact Ab.o)) hb) (aA (bq1 HB.o A2.o) hb);clear A1 Ab HB;obtain ⟨B7,A1,Ab,HB⟩:=n_;(try clear hb ho_))|((with_reducible refine aD (f:=71) rfl ?_);have:=z1;refine gc (some 32) (cN.calls k _ _ l0 Af _ _ An Ac _ (cq (Kd.C_below Aw.o HB.o)) Ax.o (cq (Kd.R_reads' Ad.o).2.2) ((Kd.R_reads' Ad.o).2.1) As.o) Try.func71 ?_;rintro e w_ ⟨Bz,rfl,ho_,hb⟩;refine ⟨_,rfl,?_⟩;have n_:=ak4 (re_ Ad ho_ hb) (rn_ ho_ Ad (bq1 HB.o A2.o)) (kb A1 hb) (aA (bq1 HB.o A2.o) hb);clear Ad A1 HB;obtain ⟨Ad,B8,A1,HB⟩:=n_;(try clear hb ho_))|((with_reducible refine aD (f:=71) rfl ?_);have:=z4;refine gc (some 32) (cN.calls k _ _ l0 Af _ _ Ap Ac _ (cq (Kd.C_below Aw.o HB.o)) Ax.o (cq (Kd.R_reads' Ae.o).2.2) ((Kd.R_reads' Ae.o).2.1) As.o) Try.func71 ?_;rintro e w_ ⟨C0,rfl,ho_,hb⟩;refine ⟨_,rfl,?_⟩;have n_:=ak4 (re_ Ae ho_ hb) (rn_ ho_ Ae (bq1 HB.o A2.o)) (kb A1 hb) (aA (bq1 HB.o A2.o) hb);clear Ae A1 HB;obtain ⟨Ae,B9,A1,HB⟩:=n_;(try clear hb ho_))|((with_reducible refine aD (f:=71) rfl ?_);have:=z3;refine gc (some 32) (cN.calls k _ _ l0 Af _ _ ([]:List Int) Ac _ (cq (Kd.C_below Aw.o HB.o)) Ax.o (Kd.C_nil _ _) (j6 _) As.o) Try.func71 ?_;rintro e w_ ⟨C1,rfl,ho_,hb⟩;refine ⟨_,rfl,?_⟩;have n_:=ak3 (rl ho_ (bq1 HB.o A2.o)) (kb A1 hb) (aA (bq1 HB.o A2.o) hb);clear A1 HB;obtain ⟨Ba,A1,HB⟩:=n_;(try clear hb ho_))|((with_reducible refine aM (N:=22) rfl ?_);refine iO ?hg (N:=22) ?hd 9 22 5 (x:=.tmp 21) ?ho (s:=Ag) (y:=B2) B3.o ?hx Try.underlying9 Try.underlying22 Try.underlying5 (by have h_:(Ag.size:Int)<(140737488355328:Int):=oda;omega) ?_;(case hd=>rfl);(case hg=>rfl);(case ho=>rfl);(case hx=>first|(go_simp;done)|(go_simp;rfl));intro Bq Br w_ hs_ hl_ hb;have n_:=ak4 (kb A1 hb) (aA (bq1 HB.o A2.o) hb) hs_ hl_;clear A1 HB;obtain ⟨A1,HB,Ab,Au⟩:=n_;clear hb hs_ hl_;obtain ⟨A3,A4,A5,A6,A7,A8,A9,Aa⟩:=cl4 A1.o)|((with_reducible refine aD (f:=70) rfl ?_);refine gc (some 27) (bK.calls k _ _ Ah Ap _ (cq (Kd.C_below Aj.o HB.o)) Ak.o Bv.o) Try.func70 ?_;rintro e w_ ⟨C2,rfl,ho_,hb⟩;refine ⟨_,rfl,?_⟩;have n_:=ak3 (rl ho_ (bq1 HB.o A2.o)) (kb A1 hb) (aA (bq1 HB.o A2.o) hb);clear A1 HB;obtain ⟨Ae,A1,HB⟩:=n_;(try clear hb ho_);obtain ⟨Bg,Bh,Av⟩:=Kd.R_slice Ae.o;subst Av;obtain ⟨A3,A4,A5,A6,A7,A8,A9,Aa⟩:=cl4 A1.o))
  first
  | go_ret
    exact ⟨_,rq,by refine kr ?_;exact Kd.R_mono B8.o (fun _ hk=>trivial),bq1 HB.o A2.o⟩
  | go_ret
    exact ⟨_,rq,by refine kr ?_;exact Kd.R_mono B9.o (fun _ hk=>trivial),bq1 HB.o A2.o⟩
  | go_ret
    exact ⟨_,rq,kqR B6.o,bq1 HB.o A2.o⟩
  | go_ret
    exact ⟨_,rq,kqR B7.o,bq1 HB.o A2.o⟩
  | go_ret
    exact ⟨_,rq,kqR Ba.o,bq1 HB.o A2.o⟩
def dZ.f (k:Nat) (l0:List Int) (a1:Int) (a2:Int):Option (List Int):=(bF.f k a2).bind fun A0=>((cN.f k l0 a1 A0).bind fun A1=>(some A1))
theorem dZ.calls (k:Nat) (A0:Option Addr) (c0:Nat) (l0:List Int) (a1:Int) (a2:Int) (r:List Int) (w:World) (A6:Kd.C (Kd.int .u8) w A0 l0.length l0) (A7:l0.length≤c0) (h:dZ.f k l0 a1 a2=some r):
 Calls Try.prog 76 #[.slice A0 l0.length c0,.int .i64 a1,.int .i64 a2] w fun e w'=>∃A8:Value,e=.returned (A8)∧Kd.R (Kd.int .u8) 5 w' w.heap.size (fun _=>True) A8 r∧Below w.heap.size w w':=by
 have A9:=am A6
 have Aa:=am A7
 clear A6 A7
 have HB:=am (Below.refl w.heap.size w)
 have H:=h
 clear h
 unfold dZ.f at H
 replace H:=be H
 obtain ⟨A2,Ab,H⟩:=H
 replace H:=be H
 obtain ⟨A4,Ac,H⟩:=H
 obtain rfl:=j5 H
 go_enter Try.func76,Try.ntmps76
 go_wp2_with (first|((with_reducible refine aD (f:=69) rfl ?_);refine gc (some 10) (bF.calls k a2 A2 _ Ab.o) Try.func69 ?_;rintro e w6 ⟨Ad,rfl,A3,hb⟩;refine ⟨_,rfl,?_⟩;have n_:=ak2 (rl A3 (bq HB.o)) (aA (bq HB.o) hb);clear HB;obtain ⟨A1,HB⟩:=n_;(try clear hb A3);obtain ⟨Ag,Ah,Ae⟩:=Kd.R_slice A1.o;subst Ae)|((with_reducible refine aD (f:=71) rfl ?_);refine gc (some 11) (cN.calls k _ _ l0 a1 _ _ A2 A4 _ (cq (Kd.C_below A9.o HB.o)) Aa.o (cq (Kd.R_reads' A1.o).2.2) ((Kd.R_reads' A1.o).2.1) Ac.o) Try.func71 ?_;rintro e w8 ⟨Af,rfl,A3,hb⟩;refine ⟨_,rfl,?_⟩;have n_:=ak3 (re_ A1 A3 hb) (rn_ A3 A1 (bq HB.o)) (aA (bq HB.o) hb);clear A1 HB;obtain ⟨A1,A5,HB⟩:=n_;(try clear hb A3)))
 go_ret
 exact ⟨_,rq,by refine kr ?_;exact Kd.R_mono A5.o (fun _ hk=>trivial),bq HB.o⟩
end Go.Proofs.Ythhnfmbfgplelaa.XFnExactGetMsg
