/- The functions that one law reaches, as Lean functions, with their walks: printed by a program of this seat (wip/tools) out of the translation. -/
import Derived.Test.YtgppikopdpeigaaXFnPdusx0
import Derived.Test.YtgppikopdpeigaaXFnPdusx5
namespace Go.Proofs.Ytgppikopdpeigaa.XFnPdus
open Go.RowKit Go.Proofs.YtgppikopdpeigaaW.PrintWords Go.Proofs.YtgppikopdpeigaaW.PrintLast Go.Proofs.YtgppikopdpeigaaW.PrintMore
attribute [local go_sem] cO cP dH dI cC cD cQ cR
set_option linter.unusedVariables false
set_option linter.unusedSimpArgs false
set_option maxHeartbeats 8000000
set_option maxRecDepth 100000
def dY.j0:Nat→Int→List Int→Bool→Option (List Int × Bool)
 |0,_,_,_=>none
 |k+1,x0,x1,A4=>if A4=true then (some (([]:List Int),false)) else ((some (([(x0) % 256]:List Int):List Int)).bind fun A0=>(if (x1.length:Int)≥128 then (if A0.length<140737488355328 then ((some (A0++[129]:List Int)).bind fun A1=>(if A1.length<140737488355328 then ((some (A1++[((x1.length:Int)) % 256]:List Int)).bind fun A2=>(if A2.length+x1.length<140737488355328 then (some ((A2++x1),true)) else (none))) else (none))) else (none)) else (if A0.length<140737488355328 then ((some (A0++[((x1.length:Int)) % 256]:List Int)).bind fun A3=>(if A3.length+x1.length<140737488355328 then (some ((A3++x1),true)) else (none))) else (none))))
def dY.f (k:Nat) (a0:Int) (l1:List Int):Option (List Int × Bool):=(b7.f a0 0 255).bind fun A0=>(if A0=true then (dY.j0 k a0 l1 (decide ((l1.length:Int)>250))) else (dY.j0 k a0 l1 true))
theorem dY.calls (k:Nat) (a0:Int) (A1:Option Addr) (c1:Nat) (l1:List Int) (r1:List Int) (r2:Bool) (w:World) (Ay:Kd.C (Kd.int .u8) w A1 l1.length l1) (Az:l1.length≤c1) (h:dY.f k a0 l1=some (r1,r2)):
 Calls Try.prog 19 #[.int .i64 a0,.slice A1 l1.length c1] w fun e w'=>∃B0:Value,e=.returned (.tuple #[B0,.bool r2])∧Kd.R (Kd.int .u8) 5 w' w.heap.size (fun _=>True) B0 r1∧Below w.heap.size w w':=by
 have B1:=am Ay
 have Ba:=am Az
 clear Ay Az
 have HB:=am (Below.refl w.heap.size w)
 have H:=h
 clear h
 unfold dY.f at H
 have Ap:=am H
 clear H
 go_enter Try.func19,Try.ntmps19
 go_upto_region 1 with (fail)
 go_cut [14] (fun B5 wc=>∃(kq:Nat) (A2:Bool),B5=.bool A2∧Aside0 (dY.j0 kq a0 l1 A2=some (r1,r2))∧Aside0 (kq≤k)∧Aside0 (Below w.heap.size w wc))
 case first=>
  have H:=Ap.o
  clear Ap
  replace H:=be H
  obtain ⟨Aq,A4,H⟩:=H
  rcases bt Aq with rfl|rfl
  · replace H:=iT H
    have H':=am H
    clear H
    go_wp2_with (first|((with_reducible refine aE (f:=36) rfl ?_);refine gc (some 8) (b7.calls a0 0 255 true _ A4.o) Try.func36 ?_;rintro e w' ⟨rfl,⟨nd,rfl⟩⟩;refine ⟨_,rfl,?_⟩))
    go_meet
    case rel=>exact ⟨_,(decide ((l1.length:Int)>250)),sq,H',⟨by first|omega|exact k7 _⟩,⟨bq HB.o⟩⟩
  replace H:=iF H
  have H':=am H
  clear H
  go_wp2_with (first|((with_reducible refine aE (f:=36) rfl ?_);refine gc (some 8) (b7.calls a0 0 255 false _ A4.o) Try.func36 ?_;rintro e w' ⟨rfl,⟨nd,rfl⟩⟩;refine ⟨_,rfl,?_⟩))
  go_meet
  case rel=>exact ⟨_,(true),sq,H',⟨by first|omega|exact k7 _⟩,⟨bq HB.o⟩⟩
 case rest=>
  clear Ap
  try clear c1
  try clear p2
  try clear c3
  try clear c5
  obtain ⟨kq,A2,rfl,HA,Bb,HB⟩:=hcut
  cases kq with
  |zero=>exact absurd HA.o (by simp [dY.j0])
  |succ Bc=>
   have H:=HA.o
   clear HA
   simp only [dY.j0] at H
   rcases Decidable.em (A2=true) with c6|c6
   subst c6
   replace H:(some (([]:List Int),false))=some (r1,r2):=by rw [if_pos rfl] at H;exact H
   have z0:=trivial
   rotate_left
   replace c6:=Bool.eq_false_iff.mpr c6
   subst c6
   replace H:((some (([(a0) % 256]:List Int):List Int)).bind fun A0=>(if (l1.length:Int)≥128 then (if A0.length<140737488355328 then ((some (A0++[129]:List Int)).bind fun A7=>(if A7.length<140737488355328 then ((some (A7++[((l1.length:Int)) % 256]:List Int)).bind fun A5=>(if A5.length+l1.length<140737488355328 then (some ((A5++l1),true)) else (none))) else (none))) else (none)) else (if A0.length<140737488355328 then ((some (A0++[((l1.length:Int)) % 256]:List Int)).bind fun A6=>(if A6.length+l1.length<140737488355328 then (some ((A6++l1),true)) else (none))) else (none))))=some (r1,r2):=by rw [if_neg (show ¬(false=true) by decide)] at H;exact H
   replace H:=bs H
   obtain ⟨A0,A8,H⟩:=H
   replace H:=ip' H
   rcases H with ⟨c7,H⟩|⟨c7,H⟩
   have Ar:decide (128≤(l1.length:Int))=false:=decide_eq_false c7
   have As:decide (128≤l1.length)=false:=decide_eq_false (by omega)
   clear c7
   replace H:=nq H
   obtain ⟨B2,H⟩:=H
   have Ae:=am B2
   clear B2
   replace H:=bs H
   obtain ⟨A6,Af,H⟩:=H
   replace H:=nq H
   obtain ⟨B3,H⟩:=H
   have Ag:=am B3
   clear B3
   generalize A9:((A6++l1):List Int)=B6 at H
   have Ah:=am A9.symm
   clear A9
   have z1:=trivial
   rotate_left
   have Ar:decide (128≤(l1.length:Int))=true:=k8 c7
   have As:decide (128≤l1.length)=true:=k8 (by omega)
   clear c7
   replace H:=nq H
   obtain ⟨c8,H⟩:=H
   have At:=am c8
   clear c8
   replace H:=bs H
   obtain ⟨A7,Ai,H⟩:=H
   replace H:=nq H
   obtain ⟨c9,H⟩:=H
   have Au:=am c9
   clear c9
   replace H:=bs H
   obtain ⟨A5,Aj,H⟩:=H
   replace H:=nq H
   obtain ⟨B4,H⟩:=H
   have Ak:=am B4
   clear B4
   generalize Aa:((A5++l1):List Int)=B7 at H
   have Al:=am Aa.symm
   clear Aa
   have z2:=trivial
   rotate_right
   rotate_right
   all_goals
    simp only [k4,k5] at H
    obtain ⟨rfl,rfl⟩:=H
    go_wp2_with (first|((with_reducible refine aJ (N:=17) rfl ?_);(try (refine a9 (by rfl) ?_;dsimp only));refine Kd.R_lit (Kd.int .u8) _ 5 ?hg (N:=17) ?hd (xs:=([(a0) % 256]:List Int)) (inner:=[.int .u8 ((a0) % 256)]) (ok:=fun _=>True) (okp:=fun _=>True) ?hr ?hp (fun _ hk=>hk) trivial (Below.refl _ _) (k7 _) (by simp) ?_;(case hd=>rfl);(case hg=>rfl);(case hr=>exact gs);(case hp=>exact (bD.one (show Kd.M (Kd.int .u8) _ _ _ ((a0) % 256) [.int .u8 ((a0) % 256)] from rfl) (bD.none _ _)));intro Am w_ ho_ hb hg_ hnew_;clear hg_ hnew_;(first|rw [← A8.o] at ho_|(simp only [Int.reduceToNat] at ho_;rw [← A8.o] at ho_));have n_:=ak2 (rl ho_ (bq HB.o)) (aC (bq HB.o) hb);clear HB;obtain ⟨A3,HB⟩:=n_;clear hb ho_)|((with_reducible refine bM (b:=.append) (xs:=#[.tmp 24,.tmp 28]) rfl ?_);have:=z1;(try (refine a9 (by rfl) ?_;dsimp only));at_builtin;refine Kd.R_append (Kd.int .u8) (w0:=w) w.heap.size rfl (.tmp 24) (.tmp 28) 22 5 (.int .u8 0) 1 rfl Try.underlying22 eH rfl (by decide) (by omega) Am A0 (((l1.length:Int)) % 256) [.int .u8 (((l1.length:Int)) % 256)] (fun _=>True) (fun _=>False) rfl rfl ?aP (fun _ hk=>hk.elim) ?aF ?aO ?aB ?aS ?aL ?_;(case aP=>exact rfl);(case aB=>exact (bq HB.o));(case aF=>exact (fun _ _=>trivial));(case aO=>exact (kqR A3.o));(case aS=>exact (aH (bq HB.o)));(case aL=>have:=Ae.o;omega);intro Av w_ ho hb hg hat;rw [← Af.o] at ho;have n_:=ak2 hb ho;clear HB A3;obtain ⟨HB,Ab⟩:=n_;clear ho hb hg hat)|((with_reducible refine bM (b:=.append) (xs:=#[.tmp 24,.tmp 28]) rfl ?_);have:=z2;(try (refine a9 (by rfl) ?_;dsimp only));at_builtin;refine Kd.R_append (Kd.int .u8) (w0:=w) w.heap.size rfl (.tmp 24) (.tmp 28) 22 5 (.int .u8 0) 1 rfl Try.underlying22 eH rfl (by decide) (by omega) Aw A7 (((l1.length:Int)) % 256) [.int .u8 (((l1.length:Int)) % 256)] (fun _=>True) (fun _=>False) rfl rfl ?aP (fun _ hk=>hk.elim) ?aF ?aO ?aB ?aS ?aL ?_;(case aP=>exact rfl);(case aB=>exact (bq HB.o));(case aF=>exact (fun _ _=>trivial));(case aO=>exact (kqR Ac.o));(case aS=>exact (aH (bq HB.o)));(case aL=>have:=Au.o;omega);intro Ax w_ ho hb hg hat;rw [← Aj.o] at ho;have n_:=ak2 hb ho;clear HB Ac;obtain ⟨HB,Ad⟩:=n_;clear ho hb hg hat)|((with_reducible refine bM (b:=.append) (xs:=#[.tmp 29,.tmp 30]) rfl ?_);have:=z1;(try (refine a9 (by rfl) ?_;dsimp only));at_builtin;refine Kd.R_append_rows (Kd.int .u8) (w0:=w) w.heap.size rfl (.tmp 29) (.tmp 30) 22 5 (.int .u8 0) 1 rfl Try.underlying22 eH rfl (by decide) (by omega) Av A6 l1 _ _ _ (fun _=>True) (fun _=>False) rfl rfl ?aO ?aR (fun _ _ h=>h) (fun _ h=>h.elim) ?aF ?aB ?aS ?aL ?_;(case aR=>exact cq (Kd.C_below B1.o HB.o));(case aB=>exact (bq HB.o));(case aF=>exact (fun _ _=>trivial));(case aO=>exact (kqR Ab.o));(case aS=>exact (aH (bq HB.o)));(case aL=>have:=Ag.o;omega);intro B8 w_ ho hb hg hat;rw [← Ah.o] at ho;have n_:=ak2 hb ho;clear HB Ab;obtain ⟨HB,An⟩:=n_;clear ho hb hg hat)|((with_reducible refine bM (b:=.append) (xs:=#[.tmp 29,.tmp 30]) rfl ?_);have:=z2;(try (refine a9 (by rfl) ?_;dsimp only));at_builtin;refine Kd.R_append_rows (Kd.int .u8) (w0:=w) w.heap.size rfl (.tmp 29) (.tmp 30) 22 5 (.int .u8 0) 1 rfl Try.underlying22 eH rfl (by decide) (by omega) Ax A5 l1 _ _ _ (fun _=>True) (fun _=>False) rfl rfl ?aO ?aR (fun _ _ h=>h) (fun _ h=>h.elim) ?aF ?aB ?aS ?aL ?_;(case aR=>exact cq (Kd.C_below B1.o HB.o));(case aB=>exact (bq HB.o));(case aF=>exact (fun _ _=>trivial));(case aO=>exact (kqR Ad.o));(case aS=>exact (aH (bq HB.o)));(case aL=>have:=Ak.o;omega);intro B9 w_ ho hb hg hat;rw [← Al.o] at ho;have n_:=ak2 hb ho;clear HB Ad;obtain ⟨HB,Ao⟩:=n_;clear ho hb hg hat)|((with_reducible refine bM (b:=.append) (xs:=#[.tmp 21,.tmp 22]) rfl ?_);(try (refine a9 (by rfl) ?_;dsimp only));at_builtin;refine Kd.R_append (Kd.int .u8) (w0:=w) w.heap.size rfl (.tmp 21) (.tmp 22) 22 5 (.int .u8 0) 1 rfl Try.underlying22 eH rfl (by decide) (by omega) Am A0 129 [.int .u8 129] (fun _=>True) (fun _=>False) rfl rfl ?aP (fun _ hk=>hk.elim) ?aF ?aO ?aB ?aS ?aL ?_;(case aP=>exact rfl);(case aB=>exact (bq HB.o));(case aF=>exact (fun _ _=>trivial));(case aO=>exact (kqR A3.o));(case aS=>exact (aH (bq HB.o)));(case aL=>have:=At.o;omega);intro Aw w_ ho hb hg hat;rw [← Ai.o] at ho;have n_:=ak2 hb ho;clear HB A3;obtain ⟨HB,Ac⟩:=n_;clear ho hb hg hat))
    first
    | go_ret2
      exact ⟨_,rq,kqR An.o,bq HB.o⟩
    | go_ret2
      exact ⟨_,rq,kqR Ao.o,bq HB.o⟩
    | go_ret2
      exact ⟨_,rq,rn,bq HB.o⟩
def cZ.f (l0:List Int):Option (List Int):=if ([]:List Int).length+l0.length<140737488355328 then (some (([]:List Int)++l0)) else (none)
theorem cZ.calls (A0:Option Addr) (c0:Nat) (l0:List Int) (r:List Int) (w:World) (A5:Kd.C (Kd.int .u8) w A0 l0.length l0) (A6:l0.length≤c0) (h:cZ.f l0=some r):
 Calls Try.prog 52 #[.slice A0 l0.length c0] w fun e w'=>∃A7:Value,e=.returned (A7)∧Kd.R (Kd.int .u8) 5 w' w.heap.size (fun _=>True) A7 r∧Below w.heap.size w w':=by
 have A8:=am A5
 have Ab:=am A6
 clear A5 A6
 have HB:=am (Below.refl w.heap.size w)
 have H:=h
 clear h
 unfold cZ.f at H
 replace H:=nq H
 obtain ⟨c2,H⟩:=H
 have A4:=am c2
 clear c2
 generalize A1:((([]:List Int)++l0):List Int)=A9 at H
 have A2:=am A1.symm
 clear A1
 obtain rfl:=k6 H
 go_enter Try.func52,Try.ntmps52
 go_wp2_with (first|((with_reducible refine bM (b:=.append) (xs:=#[(.const (.slice none 0 0)),.tmp 3]) rfl ?_);at_builtin;refine Kd.R_append_rows (Kd.int .u8) (w0:=w) w.heap.size rfl (.const (.slice none 0 0)) (.tmp 3) 22 5 (.int .u8 0) 1 rfl Try.underlying22 eH rfl (by decide) (by omega) (.slice none 0 0) ([]:List Int) l0 _ _ _ (fun _=>True) (fun _=>False) rfl rfl ?aO ?aR (fun _ _ h=>h) (fun _ h=>h.elim) ?aF ?aB ?aS ?aL ?_;(case aR=>exact cq A8.o);(case aB=>exact (bq HB.o));(case aF=>exact (fun _ _=>trivial));(case aO=>exact ((Kd.R_nil _ _ _ _ (fun _=>True))));(case aS=>exact (aH (bq HB.o)));(case aL=>have:=A4.o;omega);intro Aa w3 ho hb hg hat;rw [← A2.o] at ho;have n_:=ak2 hb ho;clear HB;obtain ⟨HB,A3⟩:=n_;clear ho hb hg hat))
 go_ret
 exact ⟨_,rq,kqR A3.o,bq HB.o⟩
def dJ.f (k:Nat) (l0:List Int) (a1:Int) (l2:List Int):Option (List Int):=(dY.f k a1 l2).bind fun A0=>((cZ.f l0).bind fun A1=>(if A1.length+A0.1.length<140737488355328 then (some (A1++A0.1)) else (none)))
theorem dJ.calls (k:Nat) (A0:Option Addr) (c0:Nat) (l0:List Int) (a1:Int) (A2:Option Addr) (c2:Nat) (l2:List Int) (r:List Int) (w:World) (Ag:Kd.C (Kd.int .u8) w A0 l0.length l0) (Ah:l0.length≤c0) (Ai:Kd.C (Kd.int .u8) w A2 l2.length l2) (Aj:l2.length≤c2) (h:dJ.f k l0 a1 l2=some r):
 Calls Try.prog 21 #[.slice A0 l0.length c0,.int .i64 a1,.slice A2 l2.length c2] w fun e w'=>∃Ak:Value,e=.returned (Ak)∧Kd.R (Kd.int .u8) 5 w' w.heap.size (fun _=>True) Ak r∧Below w.heap.size w w':=by
 have Al:=am Ag
 have Am:=am Ah
 clear Ag Ah
 have An:=am Ai
 have Ao:=am Aj
 clear Ai Aj
 have HB:=am (Below.refl w.heap.size w)
 have H:=h
 clear h
 unfold dJ.f at H
 replace H:=be H
 obtain ⟨⟨A3,A8⟩,Ap,H⟩:=H
 try dsimp only at H
 replace H:=be H
 obtain ⟨A4,Aq,H⟩:=H
 replace H:=nq H
 obtain ⟨c6,H⟩:=H
 have Ab:=am c6
 clear c6
 generalize A5:((A4++A3):List Int)=Ar at H
 have A9:=am A5.symm
 clear A5
 obtain rfl:=k6 H
 go_enter Try.func21,Try.ntmps21
 go_wp2_with (first|((with_reducible refine aE (f:=19) rfl ?_);refine gc (some 12) (dY.calls k a1 _ _ l2 A3 A8 _ (cq An.o) Ao.o Ap.o) Try.func19 ?_;rintro e w7 ⟨As,rfl,A7,hb⟩;refine ⟨_,rfl,?_⟩;have n_:=ak2 (rl A7 (bq HB.o)) (aC (bq HB.o) hb);clear HB;obtain ⟨A1,HB⟩:=n_;(try clear hb A7))|((with_reducible refine aE (f:=52) rfl ?_);refine gc (some 16) (cZ.calls _ _ l0 A4 _ (cq (Kd.C_below Al.o HB.o)) Am.o Aq.o) Try.func52 ?_;rintro e w8 ⟨Ac,rfl,A7,hb⟩;refine ⟨_,rfl,?_⟩;have n_:=ak3 (re_ A1 A7 hb) (rn_ A7 A1 (bq HB.o)) (aC (bq HB.o) hb);clear A1 HB;obtain ⟨A1,A6,HB⟩:=n_;(try clear hb A7);obtain ⟨Ad,Ae,Af⟩:=Kd.R_slice A1.o;subst Af)|((with_reducible refine bM (b:=.append) (xs:=#[.tmp 16,.tmp 17]) rfl ?_);at_builtin;refine Kd.R_append_rows (Kd.int .u8) (w0:=w) w.heap.size rfl (.tmp 16) (.tmp 17) 22 5 (.int .u8 0) 1 rfl Try.underlying22 eH rfl (by decide) (by omega) Ac A4 A3 _ _ _ (fun k_=>some k_≠(.slice Ad A3.length Ae:Value).ownBlock) (fun _=>False) rfl rfl ?aO ?aR (fun _ _ h=>h) (fun _ h=>h.elim) ?aF ?aB ?aS ?aL ?_;(case aR=>repeat (first|exact (Kd.R_reads' A1.o).2.2|(with_reducible refine Kd.C_alloc ?_ _)|(with_reducible refine Kd.C_drewN ?_ _)|(with_reducible refine Kd.C_drew ?_)));(case aB=>exact (bq HB.o));(case aF=>exact (fun k_ hk=>Kd.fresh' (Kd.R_lt (kqR A1.o)) k_ hk));(case aO=>exact (by refine kr ?_;exact Kd.R_mono A6.o (fun _ hk=>hk.2)));(case aS=>exact (aH (bq HB.o)));(case aL=>have:=Ab.o;omega);intro At w9 ho hb hg hat;rw [← A9.o] at ho;have n_:=ak3 (Kd.R_after (ok:=(fun _=>True)) (kqR A1.o) hg hat) hb ho;clear A1 HB A6;obtain ⟨A1,HB,Aa⟩:=n_;clear ho hb hg hat))
 go_ret
 exact ⟨_,rq,by refine kr ?_;exact Kd.R_mono Aa.o (fun _ hk=>trivial),bq HB.o⟩
mutual
def bV.l0:Nat→List Int→List Int→Int→Int→Option (List Int)
 |0,_,_,_,_=>none
 |k+1,x3,A1,A2,A0=>if A0<A2 then (if 0≤A0 then (if A0<(A1.length:Int) then (bV.l1 k x3 (rd A1 A0) 0 A1 A2 A0) else (none)) else (none)) else (some x3)
def bV.l1:Nat→List Int→Int→Int→List Int→Int→Int→Option (List Int)
 |0,_,_,_,_,_,_=>none
 |k+1,x3,x5,x6,A1,A2,A0=>if 0≤(wrap64 (7*x6)) then (if (shr .i64 x5 (wrap64 (7*x6)))>127 then (bV.l1 k x3 x5 (wrap64 (x6+1)) A1 A2 A0) else (bV.l2 k x3 x5 x6 A1 A2 A0)) else (none)
def bV.l2:Nat→List Int→Int→Int→List Int→Int→Int→Option (List Int)
 |0,_,_,_,_,_,_=>none
 |k+1,x3,x5,x6,A1,A2,A0=>if x6>0 then (if 0≤(wrap64 (7*x6)) then (if x3.length<140737488355328 then (bV.l2 k (x3++[(wrap64 ((Go.bits .and .i64 (shr .i64 x5 (wrap64 (7*x6))) 127)+128)) % 256]) x5 (wrap64 (x6 - 1)) A1 A2 A0) else (none)) else (none)) else (if x3.length<140737488355328 then (bV.l0 k (x3++[(Go.bits .and .i64 x5 127) % 256]) A1 A2 (wrap64 (A0+1))) else (none))
end
def bV.f (k:Nat) (l0:List Int):Option (List Int):=(dD.f k l0).bind fun A0=>(if A0=true then (bV.l0 k ([]:List Int) l0 (l0.length:Int) 0) else (some ([]:List Int)))
theorem bV.calls (k:Nat) (A0:Option Addr) (c0:Nat) (l0:List Int) (r:List Int) (w:World) (B8:Kd.C (Kd.int .i64) w A0 l0.length l0) (B9:l0.length≤c0) (h:bV.f k l0=some r):
 Calls Try.prog 22 #[.slice A0 l0.length c0] w fun e w'=>∃Ba:Value,e=.returned (Ba)∧Kd.R (Kd.int .u8) 5 w' w.heap.size (fun _=>True) Ba r∧Below w.heap.size w w':=by
 have Ay:=am B8
 have Bb:=am B9
 clear B8 B9
 have HB:=am (Below.refl w.heap.size w)
 have H:=h
 clear h
 unfold bV.f at H
 replace H:=be H
 obtain ⟨An,Bc,H⟩:=H
 cases An
 · replace H:=iF H
   obtain rfl:=k6 H
   go_enter Try.func22,Try.ntmps22
   go_wp2_with (first|((with_reducible refine aE (f:=37) rfl ?_);refine gc (some 8) (dD.calls k _ _ l0 false _ (cq Ay.o) Bb.o Bc.o) Try.func37 ?_;rintro e w' ⟨rfl,⟨nd,rfl⟩⟩;refine ⟨_,rfl,?_⟩))
   go_ret
   exact ⟨_,rq,rn,bq HB.o⟩
 replace H:=iT H
 have H':=am H
 clear H
 go_enter Try.func22,Try.ntmps22
 go_wp2_with (first|((with_reducible refine aE (f:=37) rfl ?_);refine gc (some 8) (dD.calls k _ _ l0 true _ (cq Ay.o) Bb.o Bc.o) Try.func37 ?_;rintro e w' ⟨rfl,⟨nd,rfl⟩⟩;refine ⟨_,rfl,?_⟩))
 go_loopg [3,12] k (fun kq v3 Bm w'=>∃(A7:List Int) (A1:Int),Bm=.int .i64 A1∧Aside0 (bV.l0 kq A7 l0 (l0.length:Int) A1=some r)∧Aside0 (kq≤k)∧Aside0 (Kd.R (Kd.int .u8) 5 w' w.heap.size (fun _=>True) v3 A7)∧Aside0 (Below w.heap.size w w'))
 case atStart=>exact ⟨(([]:List Int)),(0),sq,H',⟨k7 _⟩,⟨rn⟩,⟨bq HB.o⟩⟩
 case round=>
  clear H'
  try clear c2
  try clear p2
  try clear c3
  obtain ⟨A7,A1,rfl,HA,Ak,A3,HB⟩:=hrel
  cases gk with
  |zero=>exact absurd HA.o (by simp [bV.l0])
  |succ k1=>
   have H:=HA.o
   clear HA
   simp only [bV.l0] at H
   replace H:=il' H
   rcases H with ⟨-,Ai,H⟩|⟨-,Ai,H⟩
   · obtain rfl:=k6 H
     go_wp2
     go_ret
     exact ⟨_,rq,kqR A3.o,bq HB.o⟩
   replace H:=nl H
   obtain ⟨-,Ao,H⟩:=H
   replace H:=nl H
   obtain ⟨-,Ap,H⟩:=H
   have H':=am H
   clear H
   have Aa:0≤(A1:Int):=oda
   have Ab:A1<(l0.length:Int):=oda
   obtain ⟨Bd,Az,A2⟩:=Kd.at_int Ay.o A1 Aa Ab
   cases Az
   replace A2:=(HB.o.cell (kW w _ A2)).trans A2
   replace Aa:=eq_true Aa
   replace Ab:=eq_true Ab
   go_wp2
   go_loopg [6] k1 (fun kq v6 w'=>∃(A4:Int),v6=.int .i64 A4∧Aside0 (bV.l1 kq A7 (rd l0 A1) A4 l0 (l0.length:Int) A1=some r)∧Aside0 (kq≤k1)∧Aside0 (Kd.R (Kd.int .u8) 5 w' w.heap.size (fun _=>True) u3 A7)∧Aside0 (Below w.heap.size w w'))
   case atStart=>exact ⟨(0),sq,H',⟨k7 _⟩,⟨kqR A3.o⟩,⟨bq HB.o⟩⟩
   case round=>
    clear H'
    try clear c2
    try clear p2
    try clear c3
    try clear p3
    try clear q3
    try clear Bn
    try clear c4
    try clear Ai
    try clear c5
    try clear Ao
    try clear c6
    try clear Ap
    try clear A2
    try clear p2
    try clear Aa
    try clear Ab
    obtain ⟨A4,rfl,HA,Al,A3,HB⟩:=hrel
    cases gk with
    |zero=>exact absurd HA.o (by simp [bV.l1])
    |succ k2=>
     have H:=HA.o
     clear HA
     simp only [bV.l1] at H
     obtain ⟨Am,Aj⟩:∃j_:Int,(wrap64 (7*A4))=j_:=⟨_,rfl⟩
     first|rw [Aj] at H|simp only [Aj] at H
     have Be:(IntKind.i64.wrap (7*A4))=Am:=(aI _).trans Aj
     replace H:=nq H
     obtain ⟨c8,H⟩:=H
     have B0:=eq_true c8
     have B1:decide (0≤(Am))=true:=k8 c8
     clear c8
     obtain ⟨Bf,Ae⟩:∃j_:Int,(shr .i64 (rd l0 A1) (Am))=j_:=⟨_,rfl⟩
     first|rw [Ae] at H|simp only [Ae] at H
     have Bg:((rd l0 A1) / 2 ^ min (Am).toNat 64)=Bf:=Ae
     have Bh:(Am)≤64→((rd l0 A1) / 2 ^ (Am).toNat)=Bf:=gY Ae
     replace H:=ig H
     rcases H with ⟨-,Af,H⟩|⟨-,Af,H⟩
     · have H':=am H
       clear H
       go_wp2
       go_roundg k2
       case measure=>have:=Ak.o;have:=Al.o;omega
       case rel=>exact ⟨(wrap64 (A4+1)),sq,H',⟨by have:=Ak.o;have:=Al.o;omega⟩,⟨kqR A3.o⟩,⟨bq HB.o⟩⟩
     have H':=am H
     clear H
     go_wp2
     go_loopg [3,6] k2 (fun kq v3 v6 w'=>∃(A5:List Int) (A8:Int),v6=.int .i64 A8∧Aside0 (bV.l2 kq A5 (rd l0 A1) A8 l0 (l0.length:Int) A1=some r)∧Aside0 (kq≤k2)∧Aside0 (Kd.R (Kd.int .u8) 5 w' w.heap.size (fun _=>True) v3 A5)∧Aside0 (Below w.heap.size w w'))
     case atStart=>exact ⟨(A7),(A4),sq,H',⟨k7 _⟩,⟨kqR A3.o⟩,⟨bq HB.o⟩⟩
     case round=>
      clear H'
      try clear c1
      try clear c2
      try clear p2
      try clear c3
      try clear p3
      try clear q3
      try clear Bn
      try clear c4
      try clear Ai
      try clear c5
      try clear Ao
      try clear c6
      try clear Ap
      try clear p6
      try clear c8
      try clear B0
      try clear B1
      try clear Bq
      try clear Af
      try clear A2
      try clear p2
      try clear p3
      try clear Aa
      try clear q3
      try clear Ab
      obtain ⟨A5,A8,rfl,HA,Ax,A3,HB⟩:=hrel
      cases gk with
      |zero=>exact absurd HA.o (by simp [bV.l2])
      |succ k3=>
       have H:=HA.o
       clear HA
       simp only [bV.l2] at H
       replace H:=ig' H
       rcases H with ⟨-,Aq,H⟩|⟨-,Aq,H⟩
       replace H:=nq H
       obtain ⟨Bi,H⟩:=H
       have Ar:=am Bi
       clear Bi
       generalize Ag:((A5++[(Go.bits .and .i64 (rd l0 A1) 127) % 256]):List Int)=B2 at H
       have As:=am Ag.symm
       clear Ag
       rotate_left
       obtain ⟨A9,Ac⟩:∃j_:Int,(wrap64 (7*A8))=j_:=⟨_,rfl⟩
       first|rw [Ac] at H|simp only [Ac] at H
       have B3:(IntKind.i64.wrap (7*A8))=A9:=(aI _).trans Ac
       replace H:=nq H
       obtain ⟨B4,H⟩:=H
       have Bj:=eq_true B4
       have Bk:decide (0≤(A9))=true:=k8 B4
       clear B4
       obtain ⟨Ad,A6⟩:∃j_:Int,(shr .i64 (rd l0 A1) (A9))=j_:=⟨_,rfl⟩
       first|rw [A6] at H|simp only [A6] at H
       have B5:((rd l0 A1) / 2 ^ min (A9).toNat 64)=Ad:=A6
       have B6:(A9)≤64→((rd l0 A1) / 2 ^ (A9).toNat)=Ad:=gY A6
       replace H:=nq H
       obtain ⟨Bl,H⟩:=H
       have At:=am Bl
       clear Bl
       generalize Ah:((A5++[(wrap64 ((Go.bits .and .i64 (Ad) 127)+128)) % 256]):List Int)=B7 at H
       have Au:=am Ah.symm
       clear Ah
       rotate_right
       all_goals
        have H':=am H
        clear H
        go_wp2_with (first|((with_reducible refine bM (b:=.append) (xs:=#[.tmp 37,.tmp 41]) rfl ?_);at_builtin;refine Kd.R_append (Kd.int .u8) (w0:=w) w.heap.size rfl (.tmp 37) (.tmp 41) 22 5 (.int .u8 0) 1 rfl Try.underlying22 eH rfl (by decide) (by omega) u3 A5 ((Go.bits .and .i64 (rd l0 A1) 127) % 256) [.int .u8 ((Go.bits .and .i64 (rd l0 A1) 127) % 256)] (fun _=>True) (fun _=>False) rfl rfl ?aP (fun _ hk=>hk.elim) ?aF ?aO ?aB ?aS ?aL ?_;(case aP=>exact rfl);(case aB=>exact (bq HB.o));(case aF=>exact (fun _ _=>trivial));(case aO=>exact (kqR A3.o));(case aS=>exact (aH (bq HB.o)));(case aL=>have:=Ar.o;omega);intro Bo w_ ho hb hg hat;rw [← As.o] at ho;have n_:=ak2 hb ho;clear HB A3;obtain ⟨HB,Av⟩:=n_;clear ho hb hg hat)|((with_reducible refine bM (b:=.append) (xs:=#[.tmp 27,.tmp 35]) rfl ?_);at_builtin;refine Kd.R_append (Kd.int .u8) (w0:=w) w.heap.size rfl (.tmp 27) (.tmp 35) 22 5 (.int .u8 0) 1 rfl Try.underlying22 eH rfl (by decide) (by omega) u3 A5 ((wrap64 ((Go.bits .and .i64 (Ad) 127)+128)) % 256) [.int .u8 ((wrap64 ((Go.bits .and .i64 (Ad) 127)+128)) % 256)] (fun _=>True) (fun _=>False) rfl rfl ?aP (fun _ hk=>hk.elim) ?aF ?aO ?aB ?aS ?aL ?_;(case aP=>exact rfl);(case aB=>exact (bq HB.o));(case aF=>exact (fun _ _=>trivial));(case aO=>exact (kqR A3.o));(case aS=>exact (aH (bq HB.o)));(case aL=>have:=At.o;omega);intro Bp w_ ho hb hg hat;rw [← Au.o] at ho;have n_:=ak2 hb ho;clear HB A3;obtain ⟨HB,Aw⟩:=n_;clear ho hb hg hat))
        first
        | go_roundg k3
          case measure=>have:=Ak.o;have:=Al.o;have:=Ax.o;omega
          case rel=>exact ⟨(B2),(wrap64 (A1+1)),sq,H',⟨by have:=Ak.o;have:=Al.o;have:=Ax.o;omega⟩,⟨kqR Av.o⟩,⟨bq HB.o⟩⟩
        | go_roundg k3
          case measure=>have:=Ak.o;have:=Al.o;have:=Ax.o;omega
          case rel=>exact ⟨(B7),(wrap64 (A8 - 1)),sq,H',⟨by have:=Ak.o;have:=Al.o;have:=Ax.o;omega⟩,⟨kqR Aw.o⟩,⟨bq HB.o⟩⟩
mutual
def bN.j1:Nat→Int→Int→Option (List Int)
 |0,_,_=>none
 |k+1,x0,x3=>bN.l1 k x0 ([]:List Int) (wrap64 (x3 - 1))
def bN.l1:Nat→Int→List Int→Int→Option (List Int)
 |0,_,_,_=>none
 |k+1,x0,x4,x5=>if x5≥0 then (if 0≤(wrap64 (8*x5)) then (if x4.length<140737488355328 then (bN.l1 k x0 (x4++[(shr .i64 x0 (wrap64 (8*x5))) % 256]) (wrap64 (x5 - 1))) else (none)) else (none)) else (some x4)
def bN.l0:Nat→Int→Int→Option (List Int)
 |0,_,_=>none
 |k+1,x0,x3=>if x3<4 then (if 0≤(wrap64 ((wrap64 (8*x3)) - 1)) then ((b7.f x0 (shl .i64 (-1) (wrap64 ((wrap64 (8*x3)) - 1))) (wrap64 ((shl .i64 1 (wrap64 ((wrap64 (8*x3)) - 1))) - 1))).bind fun A0=>(if A0=true then (bN.j1 k x0 x3) else (bN.l0 k x0 (wrap64 (x3+1))))) else (none)) else (bN.j1 k x0 x3)
end
def bN.f (k:Nat) (a0:Int):Option (List Int):=bN.l0 k (mx (-2147483648) (mn a0 2147483647)) 1
theorem bN.calls (k:Nat) (a0:Int) (r:List Int) (w:World) (h:bN.f k a0=some r):
 Calls Try.prog 53 #[.int .i64 a0] w fun e w'=>∃Aw:Value,e=.returned (Aw)∧Kd.R (Kd.int .u8) 5 w' w.heap.size (fun _=>True) Aw r∧Below w.heap.size w w':=by
 have HB:=am (Below.refl w.heap.size w)
 have H:=h
 clear h
 unfold bN.f at H
 obtain ⟨Ag,A6⟩:∃j_:Int,(mn a0 2147483647)=j_:=⟨_,rfl⟩
 first|rw [A6] at H|simp only [A6] at H
 (try (have Ax:Ag≤2147483647:=by (rw [← A6];unfold mn;(repeat' split)<;>omega)))
 (try (have Ay:Ag≤64:=by omega))
 have Az:(if 2147483647<a0 then 2147483647 else a0)=Ag:=A6
 obtain ⟨A0,Ac⟩:∃j_:Int,(mx (-2147483648) (Ag))=j_:=⟨_,rfl⟩
 first|rw [Ac] at H|simp only [Ac] at H
 have B0:(if (-2147483648)<(Ag) then (Ag) else (-2147483648))=A0:=Ac
 have Am:=am H
 clear H
 go_enter Try.func53,Try.ntmps53
 go_upto_block 0 with (fail)
 repeat (go_quiet (fail);go_upto_block 0 with (fail))
 go_cut [3] (fun v3 wc=>∃(kq:Nat) (Ad:Int),v3=.int .i64 Ad∧Aside0 (bN.j1 kq A0 Ad=some r)∧Aside0 (kq≤k)∧Aside0 (Below w.heap.size w wc))
 case first=>
  have H:=Am.o
  clear Am
  have H':=am H
  clear H
  go_wp2
  repeat (go_quiet (fail);try go_wp2)
  go_loopg [3] k (fun kq v3 w'=>∃(A2:Int),v3=.int .i64 A2∧1≤A2∧A2≤4∧Aside0 (bN.l0 kq A0 A2=some r)∧Aside0 (kq≤k)∧Aside0 (Below w.heap.size w w'))
  case atStart=>exact ⟨(1),sq,by omega,by omega,H',⟨k7 _⟩,⟨bq HB.o⟩⟩
  case round=>
   clear H'
   obtain ⟨A2,rfl,B7,B8,HA,Ab,HB⟩:=hrel
   cases gk with
   |zero=>exact absurd HA.o (by simp [bN.l0])
   |succ k1=>
    have H:=HA.o
    clear HA
    simp only [bN.l0] at H
    have hx:A2=1∨A2=2∨A2=3∨A2=4:=by omega
    clear B7 B8
    rcases hx with rfl|rfl|rfl|rfl
    · rw [if_pos (by decide),show wrap64 (wrap64 (8*1) - 1)=7 by decide+kernel,if_pos (by decide),show shl .i64 (-1) 7=-128 by decide+kernel,show wrap64 (shl .i64 1 7 - 1)=127 by decide+kernel] at H
      replace H:=be H
      obtain ⟨A7,A1,H⟩:=H
      cases A7
      · have H':Aside0 (bN.l0 k1 A0 2=some r):=⟨by rw [if_neg (by decide),show wrap64 (1+1)=2 by decide+kernel] at H;exact H⟩
        clear H
        go_wp2_with (first|(go_at_call 36;refine cm (b7.calls A0 (-128) 127 false _ A1.o) ?_;rintro e w' ⟨rfl,⟨nd,rfl⟩⟩;(try first|exact ⟨rfl,_,World.drewN_drewN _ _ _⟩|exact ⟨rfl,_,Eq.trans (World.drewN_drewN _ _ _) (congrArg (World.drewN _) (Nat.add_assoc _ _ _))⟩)))
        repeat (go_quiet (first|(go_at_call 36;(with_reducible refine (b7.calls A0 (-128) 127 false _ A1.o).mono ?_);rintro e w' ⟨rfl,⟨nd,rfl⟩⟩;(try first|exact ⟨rfl,_,World.drewN_drewN _ _ _⟩|exact ⟨rfl,_,Eq.trans (World.drewN_drewN _ _ _) (congrArg (World.drewN _) (Nat.add_assoc _ _ _))⟩)));try go_wp2_with (first|(go_at_call 36;refine cm (b7.calls A0 (-128) 127 false _ A1.o) ?_;rintro e w' ⟨rfl,⟨nd,rfl⟩⟩;(try first|exact ⟨rfl,_,World.drewN_drewN _ _ _⟩|exact ⟨rfl,_,Eq.trans (World.drewN_drewN _ _ _) (congrArg (World.drewN _) (Nat.add_assoc _ _ _))⟩))))
        go_roundg k1
        case measure=>have:=Ab.o;omega
        case rel=>exact ⟨(2),sq,by omega,by omega,H',⟨by have:=Ab.o;omega⟩,⟨bq HB.o⟩⟩
      have H':Aside0 (bN.j1 k1 A0 1=some r):=⟨by rw [if_pos rfl] at H;exact H⟩
      clear H
      go_wp2_with (first|(go_at_call 36;refine cm (b7.calls A0 (-128) 127 true _ A1.o) ?_;rintro e w' ⟨rfl,⟨nd,rfl⟩⟩;(try first|exact ⟨rfl,_,World.drewN_drewN _ _ _⟩|exact ⟨rfl,_,Eq.trans (World.drewN_drewN _ _ _) (congrArg (World.drewN _) (Nat.add_assoc _ _ _))⟩)))
      repeat (go_quiet (first|(go_at_call 36;(with_reducible refine (b7.calls A0 (-128) 127 true _ A1.o).mono ?_);rintro e w' ⟨rfl,⟨nd,rfl⟩⟩;(try first|exact ⟨rfl,_,World.drewN_drewN _ _ _⟩|exact ⟨rfl,_,Eq.trans (World.drewN_drewN _ _ _) (congrArg (World.drewN _) (Nat.add_assoc _ _ _))⟩)));try go_wp2_with (first|(go_at_call 36;refine cm (b7.calls A0 (-128) 127 true _ A1.o) ?_;rintro e w' ⟨rfl,⟨nd,rfl⟩⟩;(try first|exact ⟨rfl,_,World.drewN_drewN _ _ _⟩|exact ⟨rfl,_,Eq.trans (World.drewN_drewN _ _ _) (congrArg (World.drewN _) (Nat.add_assoc _ _ _))⟩))))
      go_meet
      case rel=>exact ⟨_,(1),sq,H',⟨by have:=Ab.o;first|omega|exact k7 _⟩,⟨bq HB.o⟩⟩
    · rw [if_pos (by decide),show wrap64 (wrap64 (8*2) - 1)=15 by decide+kernel,if_pos (by decide),show shl .i64 (-1) 15=-32768 by decide+kernel,show wrap64 (shl .i64 1 15 - 1)=32767 by decide+kernel] at H
      replace H:=be H
      obtain ⟨A7,A1,H⟩:=H
      cases A7
      · have H':Aside0 (bN.l0 k1 A0 3=some r):=⟨by rw [if_neg (by decide),show wrap64 (2+1)=3 by decide+kernel] at H;exact H⟩
        clear H
        go_wp2_with (first|(go_at_call 36;refine cm (b7.calls A0 (-32768) 32767 false _ A1.o) ?_;rintro e w' ⟨rfl,⟨nd,rfl⟩⟩;(try first|exact ⟨rfl,_,World.drewN_drewN _ _ _⟩|exact ⟨rfl,_,Eq.trans (World.drewN_drewN _ _ _) (congrArg (World.drewN _) (Nat.add_assoc _ _ _))⟩)))
        repeat (go_quiet (first|(go_at_call 36;(with_reducible refine (b7.calls A0 (-32768) 32767 false _ A1.o).mono ?_);rintro e w' ⟨rfl,⟨nd,rfl⟩⟩;(try first|exact ⟨rfl,_,World.drewN_drewN _ _ _⟩|exact ⟨rfl,_,Eq.trans (World.drewN_drewN _ _ _) (congrArg (World.drewN _) (Nat.add_assoc _ _ _))⟩)));try go_wp2_with (first|(go_at_call 36;refine cm (b7.calls A0 (-32768) 32767 false _ A1.o) ?_;rintro e w' ⟨rfl,⟨nd,rfl⟩⟩;(try first|exact ⟨rfl,_,World.drewN_drewN _ _ _⟩|exact ⟨rfl,_,Eq.trans (World.drewN_drewN _ _ _) (congrArg (World.drewN _) (Nat.add_assoc _ _ _))⟩))))
        go_roundg k1
        case measure=>have:=Ab.o;omega
        case rel=>exact ⟨(3),sq,by omega,by omega,H',⟨by have:=Ab.o;omega⟩,⟨bq HB.o⟩⟩
      have H':Aside0 (bN.j1 k1 A0 2=some r):=⟨by rw [if_pos rfl] at H;exact H⟩
      clear H
      go_wp2_with (first|(go_at_call 36;refine cm (b7.calls A0 (-32768) 32767 true _ A1.o) ?_;rintro e w' ⟨rfl,⟨nd,rfl⟩⟩;(try first|exact ⟨rfl,_,World.drewN_drewN _ _ _⟩|exact ⟨rfl,_,Eq.trans (World.drewN_drewN _ _ _) (congrArg (World.drewN _) (Nat.add_assoc _ _ _))⟩)))
      repeat (go_quiet (first|(go_at_call 36;(with_reducible refine (b7.calls A0 (-32768) 32767 true _ A1.o).mono ?_);rintro e w' ⟨rfl,⟨nd,rfl⟩⟩;(try first|exact ⟨rfl,_,World.drewN_drewN _ _ _⟩|exact ⟨rfl,_,Eq.trans (World.drewN_drewN _ _ _) (congrArg (World.drewN _) (Nat.add_assoc _ _ _))⟩)));try go_wp2_with (first|(go_at_call 36;refine cm (b7.calls A0 (-32768) 32767 true _ A1.o) ?_;rintro e w' ⟨rfl,⟨nd,rfl⟩⟩;(try first|exact ⟨rfl,_,World.drewN_drewN _ _ _⟩|exact ⟨rfl,_,Eq.trans (World.drewN_drewN _ _ _) (congrArg (World.drewN _) (Nat.add_assoc _ _ _))⟩))))
      go_meet
      case rel=>exact ⟨_,(2),sq,H',⟨by have:=Ab.o;first|omega|exact k7 _⟩,⟨bq HB.o⟩⟩
    · rw [if_pos (by decide),show wrap64 (wrap64 (8*3) - 1)=23 by decide+kernel,if_pos (by decide),show shl .i64 (-1) 23=-8388608 by decide+kernel,show wrap64 (shl .i64 1 23 - 1)=8388607 by decide+kernel] at H
      replace H:=be H
      obtain ⟨A7,A1,H⟩:=H
      cases A7
      · have H':Aside0 (bN.l0 k1 A0 4=some r):=⟨by rw [if_neg (by decide),show wrap64 (3+1)=4 by decide+kernel] at H;exact H⟩
        clear H
        go_wp2_with (first|(go_at_call 36;refine cm (b7.calls A0 (-8388608) 8388607 false _ A1.o) ?_;rintro e w' ⟨rfl,⟨nd,rfl⟩⟩;(try first|exact ⟨rfl,_,World.drewN_drewN _ _ _⟩|exact ⟨rfl,_,Eq.trans (World.drewN_drewN _ _ _) (congrArg (World.drewN _) (Nat.add_assoc _ _ _))⟩)))
        repeat (go_quiet (first|(go_at_call 36;(with_reducible refine (b7.calls A0 (-8388608) 8388607 false _ A1.o).mono ?_);rintro e w' ⟨rfl,⟨nd,rfl⟩⟩;(try first|exact ⟨rfl,_,World.drewN_drewN _ _ _⟩|exact ⟨rfl,_,Eq.trans (World.drewN_drewN _ _ _) (congrArg (World.drewN _) (Nat.add_assoc _ _ _))⟩)));try go_wp2_with (first|(go_at_call 36;refine cm (b7.calls A0 (-8388608) 8388607 false _ A1.o) ?_;rintro e w' ⟨rfl,⟨nd,rfl⟩⟩;(try first|exact ⟨rfl,_,World.drewN_drewN _ _ _⟩|exact ⟨rfl,_,Eq.trans (World.drewN_drewN _ _ _) (congrArg (World.drewN _) (Nat.add_assoc _ _ _))⟩))))
        go_roundg k1
        case measure=>have:=Ab.o;omega
        case rel=>exact ⟨(4),sq,by omega,by omega,H',⟨by have:=Ab.o;omega⟩,⟨bq HB.o⟩⟩
      have H':Aside0 (bN.j1 k1 A0 3=some r):=⟨by rw [if_pos rfl] at H;exact H⟩
      clear H
      go_wp2_with (first|(go_at_call 36;refine cm (b7.calls A0 (-8388608) 8388607 true _ A1.o) ?_;rintro e w' ⟨rfl,⟨nd,rfl⟩⟩;(try first|exact ⟨rfl,_,World.drewN_drewN _ _ _⟩|exact ⟨rfl,_,Eq.trans (World.drewN_drewN _ _ _) (congrArg (World.drewN _) (Nat.add_assoc _ _ _))⟩)))
      repeat (go_quiet (first|(go_at_call 36;(with_reducible refine (b7.calls A0 (-8388608) 8388607 true _ A1.o).mono ?_);rintro e w' ⟨rfl,⟨nd,rfl⟩⟩;(try first|exact ⟨rfl,_,World.drewN_drewN _ _ _⟩|exact ⟨rfl,_,Eq.trans (World.drewN_drewN _ _ _) (congrArg (World.drewN _) (Nat.add_assoc _ _ _))⟩)));try go_wp2_with (first|(go_at_call 36;refine cm (b7.calls A0 (-8388608) 8388607 true _ A1.o) ?_;rintro e w' ⟨rfl,⟨nd,rfl⟩⟩;(try first|exact ⟨rfl,_,World.drewN_drewN _ _ _⟩|exact ⟨rfl,_,Eq.trans (World.drewN_drewN _ _ _) (congrArg (World.drewN _) (Nat.add_assoc _ _ _))⟩))))
      go_meet
      case rel=>exact ⟨_,(3),sq,H',⟨by have:=Ab.o;first|omega|exact k7 _⟩,⟨bq HB.o⟩⟩
    have H':Aside0 (bN.j1 k1 A0 4=some r):=⟨by rw [if_neg (by decide)] at H;exact H⟩
    clear H
    go_wp2
    repeat (go_quiet (fail);try go_wp2)
    go_meet
    case rel=>exact ⟨_,(4),sq,H',⟨by have:=Ab.o;first|omega|exact k7 _⟩,⟨bq HB.o⟩⟩
 case rest=>
  clear Am
  try clear c1
  try clear p2
  try clear c5
  try clear An
  try clear p6
  try clear c7
  try clear Ao
  try clear Ap
  try clear c9
  try clear Aq
  try clear B9
  try clear p2
  obtain ⟨kq,Ad,rfl,HA,B1,HB⟩:=hcut
  cases kq with
  |zero=>exact absurd HA.o (by simp [bN.j1])
  |succ B2=>
   have H:=HA.o
   clear HA
   simp only [bN.j1] at H
   have H':=am H
   clear H
   go_wp2
   go_loopg [4,5] B2 (fun kq v4 v5 w'=>∃(A8:List Int) (A3:Int),v5=.int .i64 A3∧Aside0 (bN.l1 kq A0 A8 A3=some r)∧Aside0 (kq≤B2)∧Aside0 (Kd.R (Kd.int .u8) 5 w' w.heap.size (fun _=>True) v4 A8)∧Aside0 (Below w.heap.size w w'))
   case atStart=>exact ⟨(([]:List Int)),(wrap64 (Ad - 1)),sq,H',⟨k7 _⟩,⟨rn⟩,⟨bq HB.o⟩⟩
   case round=>
    clear H'
    try clear c1
    try clear p2
    try clear c5
    try clear An
    try clear p6
    try clear c7
    try clear Ao
    try clear Ap
    try clear c9
    try clear Aq
    try clear B9
    try clear p2
    try clear p6
    obtain ⟨A8,A3,rfl,HA,B3,Af,HB⟩:=hrel
    cases gk with
    |zero=>exact absurd HA.o (by simp [bN.l1])
    |succ k2=>
     have H:=HA.o
     clear HA
     simp only [bN.l1] at H
     replace H:=ip' H
     rcases H with ⟨Ah,H⟩|⟨Ah,H⟩
     · have Ai:decide (0≤A3)=false:=decide_eq_false Ah
       clear Ah
       obtain rfl:=k6 H
       go_wp2
       go_ret
       exact ⟨_,by first|rfl|(simp [bI,bJ]<;>rfl)|(simp only [← A6,← Ac];first|rfl|(simp [bI,bJ]<;>rfl))|(simp [*,bI,bJ]<;>rfl),kqR Af.o,bq HB.o⟩
     have Ai:decide (0≤A3)=true:=k8 Ah
     clear Ah
     obtain ⟨A5,A9⟩:∃j_:Int,(wrap64 (8*A3))=j_:=⟨_,rfl⟩
     first|rw [A9] at H|simp only [A9] at H
     have Ar:(IntKind.i64.wrap (8*A3))=A5:=(aI _).trans A9
     replace H:=nq H
     obtain ⟨As,H⟩:=H
     have B4:=eq_true As
     have B5:decide (0≤(A5))=true:=k8 As
     clear As
     obtain ⟨Aa,A4⟩:∃j_:Int,(shr .i64 A0 (A5))=j_:=⟨_,rfl⟩
     first|rw [A4] at H|simp only [A4] at H
     have At:(A0 / 2 ^ min (A5).toNat 64)=Aa:=A4
     have Au:(A5)≤64→(A0 / 2 ^ (A5).toNat)=Aa:=gY A4
     replace H:=nq H
     obtain ⟨B6,H⟩:=H
     have Aj:=am B6
     clear B6
     generalize Ae:((A8++[(Aa) % 256]):List Int)=Av at H
     have Ak:=am Ae.symm
     clear Ae
     have H':=am H
     clear H
     go_wp2_with (first|((with_reducible refine bM (b:=.append) (xs:=#[.tmp 33,.tmp 39]) rfl ?_);at_builtin;refine Kd.R_append (Kd.int .u8) (w0:=w) w.heap.size rfl (.tmp 33) (.tmp 39) 22 5 (.int .u8 0) 1 rfl Try.underlying22 eH rfl (by decide) (by omega) u4 A8 ((Aa) % 256) [.int .u8 ((Aa) % 256)] (fun _=>True) (fun _=>False) rfl rfl ?aP (fun _ hk=>hk.elim) ?aF ?aO ?aB ?aS ?aL ?_;(case aP=>exact rfl);(case aB=>exact (bq HB.o));(case aF=>exact (fun _ _=>trivial));(case aO=>exact (kqR Af.o));(case aS=>exact (aH (bq HB.o)));(case aL=>have:=Aj.o;omega);intro Ba Bb ho hb hg hat;rw [← Ak.o] at ho;have n_:=ak2 hb ho;clear HB Af;obtain ⟨HB,Al⟩:=n_;clear ho hb hg hat))
     go_roundg k2
     case measure=>have:=B1.o;have:=B3.o;omega
     case rel=>exact ⟨(Av),(wrap64 (A3 - 1)),sq,H',⟨by have:=B1.o;have:=B3.o;omega⟩,⟨kqR Al.o⟩,⟨bq HB.o⟩⟩
end Go.Proofs.Ytgppikopdpeigaa.XFnPdus
