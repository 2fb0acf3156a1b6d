/- The functions that one law reaches, as Lean functions, with their walks: printed by a program of this seat (wip/tools) out of the translation. -/
import Derived.Test.YtgppikopdpeigaaXFnPdusx0
import Derived.Test.YtgppikopdpeigaaXFnPdusx1
import Derived.Test.YtgppikopdpeigaaXFnPdusx10
import Derived.Test.YtgppikopdpeigaaXFnPdusx11
namespace Go.Proofs.Ytgppikopdpeigaa.XFnPdus
open Go.RowKit Go.Proofs.YtgppikopdpeigaaW.PrintWords Go.Proofs.YtgppikopdpeigaaW.PrintLast Go.Proofs.YtgppikopdpeigaaW.PrintMore
attribute [local go_sem] cO cP dH dI cC cD cQ cR
set_option linter.unusedVariables false
set_option linter.unusedSimpArgs false
set_option maxHeartbeats 8000000
set_option maxRecDepth 100000
def cJ.l0:Nat→Int→List Int→Option (List Int)
 |0,_,_=>none
 |k+1,x0,x3=>if x0<(-128) then ((some (([(x0 / 256) % 256]:List Int):List Int)).bind fun A0=>(if A0.length+x3.length<140737488355328 then (cJ.l0 k (x0 / 256) (A0++x3)) else (none))) else (if x0>127 then ((some (([(x0 / 256) % 256]:List Int):List Int)).bind fun A1=>(if A1.length+x3.length<140737488355328 then (cJ.l0 k (x0 / 256) (A1++x3)) else (none))) else (some x3))
def cJ.f (k:Nat) (a0:Int):Option (List Int):=(cN.f a0).bind fun A0=>(cJ.l0 k A0 (([(A0) % 256]:List Int)))
theorem cJ.calls (k:Nat) (a0:Int) (r:List Int) (w:World) (h:cJ.f k a0=some r):
 Calls Try.prog 68 #[.int .i64 a0] w fun e w'=>∃B4:Value,e=.returned (B4)∧Kd.R (Kd.int .u8) 5 w' w.heap.size (fun _=>True) B4 r∧Below w.heap.size w w':=by
 have HB:=am (Below.refl w.heap.size w)
 have H:=h
 clear h
 unfold cJ.f at H
 replace H:=be H
 obtain ⟨A2,B6,H⟩:=H
 generalize A5:((([(A2) % 256]:List Int)):List Int)=Ar at H
 have A6:=am A5.symm
 clear A5
 have H':=am H
 clear H
 go_enter Try.func68,Try.ntmps68
 go_wp2_with (first|((with_reducible refine aE (f:=54) rfl ?_);refine gc (some 5) (cN.calls a0 A2 _ B6.o) Try.func54 ?_;rintro e w' ⟨rfl,⟨nd,rfl⟩⟩;refine ⟨_,rfl,?_⟩)|((with_reducible refine aJ (N:=8) rfl ?_);refine Kd.R_lit (Kd.int .u8) _ 5 ?hg (N:=8) ?hd (xs:=([(A2) % 256]:List Int)) (inner:=[.int .u8 ((A2) % 256)]) (ok:=fun _=>True) (okp:=fun _=>True) ?hr ?hp (fun _ hk=>hk) trivial (Below.refl _ _) (k7 _) (by simp) ?_;(case hd=>rfl);(case hg=>rfl);(case hr=>exact gs);(case hp=>exact (bD.one (show Kd.M (Kd.int .u8) _ _ _ ((A2) % 256) [.int .u8 ((A2) % 256)] from rfl) (bD.none _ _)));intro B7 w3 Ag hb hg_ hnew_;clear hg_ hnew_;(first|rw [← A6.o] at Ag|(simp only [Int.reduceToNat] at Ag;rw [← A6.o] at Ag));have n_:=ak2 (rl Ag (bq HB.o)) (aC (bq HB.o) hb);clear HB;obtain ⟨Ah,HB⟩:=n_;clear hb Ag))
 go_loopg [0,3] k (fun kq v0 v3 w'=>∃(A1:Int) (A3:List Int),v0=.int .i64 A1∧Aside0 (cJ.l0 kq A1 A3=some r)∧Aside0 (kq≤k)∧Aside0 (Kd.R (Kd.int .u8) 5 w' w.heap.size (fun _=>True) v3 A3)∧Aside0 (Below w.heap.size w w'))
 case atStart=>exact ⟨(A2),(Ar),sq,H',⟨k7 _⟩,⟨kqR Ah.o⟩,⟨bq HB.o⟩⟩
 case round=>
  clear H'
  try clear p2
  obtain ⟨A1,A3,rfl,HA,Aq,A0,HB⟩:=hrel
  cases gk with
  |zero=>exact absurd HA.o (by simp [cJ.l0])
  |succ k1=>
   have H:=HA.o
   clear HA
   simp only [cJ.l0] at H
   replace H:=il H
   rcases H with ⟨-,As,H⟩|⟨-,As,H⟩
   · generalize A7:((([(A1 / 256) % 256]:List Int)):List Int)=Ai at H
     have A8:=am A7.symm
     clear A7
     replace H:=nq H
     obtain ⟨c6,H⟩:=H
     have At:=am c6
     clear c6
     generalize A9:((Ai++A3):List Int)=Au at H
     have Aj:=am A9.symm
     clear A9
     have H':=am H
     clear H
     go_wp2_with (first|((with_reducible refine aJ (N:=19) rfl ?_);refine Kd.R_lit (Kd.int .u8) _ 5 ?hg (N:=19) ?hd (xs:=([(A1 / 256) % 256]:List Int)) (inner:=[.int .u8 ((A1 / 256) % 256)]) (ok:=fun _=>True) (okp:=fun _=>True) ?hr ?hp (fun _ hk=>hk) trivial (Below.refl _ _) (k7 _) (by simp) ?_;(case hd=>rfl);(case hg=>rfl);(case hr=>exact gs);(case hp=>exact (bD.one (show Kd.M (Kd.int .u8) _ _ _ ((A1 / 256) % 256) [.int .u8 ((A1 / 256) % 256)] from rfl) (bD.none _ _)));intro Av w7 Af hb hg_ hnew_;clear hg_ hnew_;(first|rw [← A8.o] at Af|(simp only [Int.reduceToNat] at Af;rw [← A8.o] at Af));have n_:=ak3 (re_ A0 Af hb) (rn_ Af A0 (bq HB.o)) (aC (bq HB.o) hb);clear A0 HB;obtain ⟨A0,Aa,HB⟩:=n_;clear hb Af;obtain ⟨Aw,Ax,Ay⟩:=Kd.R_slice A0.o;subst Ay)|((with_reducible refine bM (b:=.append) (xs:=#[.tmp 19,.tmp 20]) rfl ?_);at_builtin;refine Kd.R_append_rows (Kd.int .u8) (w0:=w) w.heap.size rfl (.tmp 19) (.tmp 20) 22 5 (.int .u8 0) 1 rfl Try.underlying22 eH rfl (by decide) (by omega) Av Ai A3 _ _ _ (fun k_=>some k_≠(.slice Aw A3.length Ax:Value).ownBlock) (fun _=>False) rfl rfl ?aO ?aR (fun _ _ h=>h) (fun _ h=>h.elim) ?aF ?aB ?aS ?aL ?_;(case aR=>repeat (first|exact (Kd.R_reads' A0.o).2.2|(with_reducible refine Kd.C_alloc ?_ _)|(with_reducible refine Kd.C_drewN ?_ _)|(with_reducible refine Kd.C_drew ?_)));(case aB=>exact (bq HB.o));(case aF=>exact (fun k_ hk=>Kd.fresh' (Kd.R_lt (kqR A0.o)) k_ hk));(case aO=>exact (by refine kr ?_;exact Kd.R_mono Aa.o (fun _ hk=>hk.2)));(case aS=>exact (aH (bq HB.o)));(case aL=>have:=At.o;omega);intro B8 w9 ho hb hg hat;rw [← Aj.o] at ho;have n_:=ak3 (Kd.R_after (ok:=(fun _=>True)) (kqR A0.o) hg hat) hb ho;clear A0 HB Aa;obtain ⟨A0,HB,Ak⟩:=n_;clear ho hb hg hat))
     go_roundg k1
     case measure=>have:=Aq.o;omega
     case rel=>exact ⟨(A1 / 256),(Au),sq,H',⟨by have:=Aq.o;omega⟩,⟨by refine kr ?_;exact Kd.R_mono Ak.o (fun _ hk=>trivial)⟩,⟨bq HB.o⟩⟩
   replace H:=ig' H
   rcases H with ⟨-,Al,H⟩|⟨-,Al,H⟩
   · obtain rfl:=k6 H
     go_wp2
     go_ret
     exact ⟨_,rq,kqR A0.o,bq HB.o⟩
   generalize Ab:((([(A1 / 256) % 256]:List Int)):List Int)=Am at H
   have Ac:=am Ab.symm
   clear Ab
   replace H:=nq H
   obtain ⟨B5,H⟩:=H
   have An:=am B5
   clear B5
   generalize Ad:((Am++A3):List Int)=Az at H
   have Ao:=am Ad.symm
   clear Ad
   have H':=am H
   clear H
   go_wp2_with (first|((with_reducible refine aJ (N:=19) rfl ?_);refine Kd.R_lit (Kd.int .u8) _ 5 ?hg (N:=19) ?hd (xs:=([(A1 / 256) % 256]:List Int)) (inner:=[.int .u8 ((A1 / 256) % 256)]) (ok:=fun _=>True) (okp:=fun _=>True) ?hr ?hp (fun _ hk=>hk) trivial (Below.refl _ _) (k7 _) (by simp) ?_;(case hd=>rfl);(case hg=>rfl);(case hr=>exact gs);(case hp=>exact (bD.one (show Kd.M (Kd.int .u8) _ _ _ ((A1 / 256) % 256) [.int .u8 ((A1 / 256) % 256)] from rfl) (bD.none _ _)));intro B0 Ba A4 hb hg_ hnew_;clear hg_ hnew_;(first|rw [← Ac.o] at A4|(simp only [Int.reduceToNat] at A4;rw [← Ac.o] at A4));have n_:=ak3 (re_ A0 A4 hb) (rn_ A4 A0 (bq HB.o)) (aC (bq HB.o) hb);clear A0 HB;obtain ⟨A0,Ae,HB⟩:=n_;clear hb A4;obtain ⟨B1,B2,B3⟩:=Kd.R_slice A0.o;subst B3)|((with_reducible refine bM (b:=.append) (xs:=#[.tmp 19,.tmp 20]) rfl ?_);at_builtin;refine Kd.R_append_rows (Kd.int .u8) (w0:=w) w.heap.size rfl (.tmp 19) (.tmp 20) 22 5 (.int .u8 0) 1 rfl Try.underlying22 eH rfl (by decide) (by omega) B0 Am A3 _ _ _ (fun k_=>some k_≠(.slice B1 A3.length B2:Value).ownBlock) (fun _=>False) rfl rfl ?aO ?aR (fun _ _ h=>h) (fun _ h=>h.elim) ?aF ?aB ?aS ?aL ?_;(case aR=>repeat (first|exact (Kd.R_reads' A0.o).2.2|(with_reducible refine Kd.C_alloc ?_ _)|(with_reducible refine Kd.C_drewN ?_ _)|(with_reducible refine Kd.C_drew ?_)));(case aB=>exact (bq HB.o));(case aF=>exact (fun k_ hk=>Kd.fresh' (Kd.R_lt (kqR A0.o)) k_ hk));(case aO=>exact (by refine kr ?_;exact Kd.R_mono Ae.o (fun _ hk=>hk.2)));(case aS=>exact (aH (bq HB.o)));(case aL=>have:=An.o;omega);intro B9 Bb ho hb hg hat;rw [← Ao.o] at ho;have n_:=ak3 (Kd.R_after (ok:=(fun _=>True)) (kqR A0.o) hg hat) hb ho;clear A0 HB Ae;obtain ⟨A0,HB,Ap⟩:=n_;clear ho hb hg hat))
   go_roundg k1
   case measure=>have:=Aq.o;omega
   case rel=>exact ⟨(A1 / 256),(Az),sq,H',⟨by have:=Aq.o;omega⟩,⟨by refine kr ?_;exact Kd.R_mono Ap.o (fun _ hk=>trivial)⟩,⟨bq HB.o⟩⟩
def dF.l0:Nat→Int→List Int→Option (List Int)
 |0,_,_=>none
 |k+1,x0,x3=>if x0>127 then ((some (([(Go.bits .or .i64 (Go.bits .and .i64 (x0 / 128) 127) 128) % 256]:List Int):List Int)).bind fun A0=>(if A0.length+x3.length<140737488355328 then (dF.l0 k (x0 / 128) (A0++x3)) else (none))) else (some x3)
def dF.f (k:Nat) (a0:Int):Option (List Int):=dF.l0 k a0 (([(Go.bits .and .i64 a0 127) % 256]:List Int))
theorem dF.calls (k:Nat) (a0:Int) (r:List Int) (w:World) (h:dF.f k a0=some r):
 Calls Try.prog 72 #[.int .i64 a0] w fun e w'=>∃Ak:Value,e=.returned (Ak)∧Kd.R (Kd.int .u8) 5 w' w.heap.size (fun _=>True) Ak r∧Below w.heap.size w w':=by
 have HB:=am (Below.refl w.heap.size w)
 have H:=h
 clear h
 unfold dF.f at H
 generalize A3:((([(Go.bits .and .i64 a0 127) % 256]:List Int)):List Int)=Af at H
 have A4:=am A3.symm
 clear A3
 have H':=am H
 clear H
 go_enter Try.func72,Try.ntmps72
 go_wp2_with (first|((with_reducible refine aJ (N:=7) rfl ?_);refine Kd.R_lit (Kd.int .u8) _ 5 ?hg (N:=7) ?hd (xs:=([(Go.bits .and .i64 a0 127) % 256]:List Int)) (inner:=[.int .u8 ((Go.bits .and .i64 a0 127) % 256)]) (ok:=fun _=>True) (okp:=fun _=>True) ?hr ?hp (fun _ hk=>hk) trivial (Below.refl _ _) (k7 _) (by simp) ?_;(case hd=>rfl);(case hg=>rfl);(case hr=>exact gs);(case hp=>exact (bD.one (show Kd.M (Kd.int .u8) _ _ _ ((Go.bits .and .i64 a0 127) % 256) [.int .u8 ((Go.bits .and .i64 a0 127) % 256)] from rfl) (bD.none _ _)));intro Am w2 Aa hb hg_ hnew_;clear hg_ hnew_;(first|rw [← A4.o] at Aa|(simp only [Int.reduceToNat] at Aa;rw [← A4.o] at Aa));have n_:=ak2 (rl Aa (bq HB.o)) (aC (bq HB.o) hb);clear HB;obtain ⟨Ab,HB⟩:=n_;clear hb Aa))
 go_loopg [0,3] k (fun kq v0 v3 w'=>∃(A1:Int) (A2:List Int),v0=.int .i64 A1∧Aside0 (dF.l0 kq A1 A2=some r)∧Aside0 (kq≤k)∧Aside0 (Kd.R (Kd.int .u8) 5 w' w.heap.size (fun _=>True) v3 A2)∧Aside0 (Below w.heap.size w w'))
 case atStart=>exact ⟨(a0),(Af),sq,H',⟨k7 _⟩,⟨kqR Ab.o⟩,⟨bq HB.o⟩⟩
 case round=>
  clear H'
  try clear p2
  obtain ⟨A1,A2,rfl,HA,Al,A0,HB⟩:=hrel
  cases gk with
  |zero=>exact absurd HA.o (by simp [dF.l0])
  |succ k1=>
   have H:=HA.o
   clear HA
   simp only [dF.l0] at H
   replace H:=ig' H
   rcases H with ⟨-,Ag,H⟩|⟨-,Ag,H⟩
   · obtain rfl:=k6 H
     go_wp2
     go_ret
     exact ⟨_,rq,kqR A0.o,bq HB.o⟩
   generalize A5:((([(Go.bits .or .i64 (Go.bits .and .i64 (A1 / 128) 127) 128) % 256]:List Int)):List Int)=Ac at H
   have A6:=am A5.symm
   clear A5
   replace H:=nq H
   obtain ⟨c5,H⟩:=H
   have Ah:=am c5
   clear c5
   generalize A7:((Ac++A2):List Int)=Ai at H
   have Ad:=am A7.symm
   clear A7
   have H':=am H
   clear H
   go_wp2_with (first|((with_reducible refine aJ (N:=16) rfl ?_);refine Kd.R_lit (Kd.int .u8) _ 5 ?hg (N:=16) ?hd (xs:=([(Go.bits .or .i64 (Go.bits .and .i64 (A1 / 128) 127) 128) % 256]:List Int)) (inner:=[.int .u8 ((Go.bits .or .i64 (Go.bits .and .i64 (A1 / 128) 127) 128) % 256)]) (ok:=fun _=>True) (okp:=fun _=>True) ?hr ?hp (fun _ hk=>hk) trivial (Below.refl _ _) (k7 _) (by simp) ?_;(case hd=>rfl);(case hg=>rfl);(case hr=>exact gs);(case hp=>exact (bD.one (show Kd.M (Kd.int .u8) _ _ _ ((Go.bits .or .i64 (Go.bits .and .i64 (A1 / 128) 127) 128) % 256) [.int .u8 ((Go.bits .or .i64 (Go.bits .and .i64 (A1 / 128) 127) 128) % 256)] from rfl) (bD.none _ _)));intro Aj w6 A9 hb hg_ hnew_;clear hg_ hnew_;(first|rw [← A6.o] at A9|(simp only [Int.reduceToNat] at A9;rw [← A6.o] at A9));have n_:=ak3 (re_ A0 A9 hb) (rn_ A9 A0 (bq HB.o)) (aC (bq HB.o) hb);clear A0 HB;obtain ⟨A0,A8,HB⟩:=n_;clear hb A9;obtain ⟨An,Ao,Ap⟩:=Kd.R_slice A0.o;subst Ap)|((with_reducible refine bM (b:=.append) (xs:=#[.tmp 16,.tmp 17]) rfl ?_);at_builtin;refine Kd.R_append_rows (Kd.int .u8) (w0:=w) w.heap.size rfl (.tmp 16) (.tmp 17) 22 5 (.int .u8 0) 1 rfl Try.underlying22 eH rfl (by decide) (by omega) Aj Ac A2 _ _ _ (fun k_=>some k_≠(.slice An A2.length Ao:Value).ownBlock) (fun _=>False) rfl rfl ?aO ?aR (fun _ _ h=>h) (fun _ h=>h.elim) ?aF ?aB ?aS ?aL ?_;(case aR=>repeat (first|exact (Kd.R_reads' A0.o).2.2|(with_reducible refine Kd.C_alloc ?_ _)|(with_reducible refine Kd.C_drewN ?_ _)|(with_reducible refine Kd.C_drew ?_)));(case aB=>exact (bq HB.o));(case aF=>exact (fun k_ hk=>Kd.fresh' (Kd.R_lt (kqR A0.o)) k_ hk));(case aO=>exact (by refine kr ?_;exact Kd.R_mono A8.o (fun _ hk=>hk.2)));(case aS=>exact (aH (bq HB.o)));(case aL=>have:=Ah.o;omega);intro Aq w8 ho hb hg hat;rw [← Ad.o] at ho;have n_:=ak3 (Kd.R_after (ok:=(fun _=>True)) (kqR A0.o) hg hat) hb ho;clear A0 HB A8;obtain ⟨A0,HB,Ae⟩:=n_;clear ho hb hg hat))
   go_roundg k1
   case measure=>have:=Al.o;omega
   case rel=>exact ⟨(A1 / 128),(Ai),sq,H',⟨by have:=Al.o;omega⟩,⟨by refine kr ?_;exact Kd.R_mono Ae.o (fun _ hk=>trivial)⟩,⟨bq HB.o⟩⟩
def dU.l0:Nat→List Int→List Int→Int→Option (List Int)
 |0,_,_,_=>none
 |k+1,x0,x3,x4=>if x4<(x0.length:Int) then (if 0≤x4 then ((dF.f k (rd x0 x4)).bind fun A0=>(if x3.length+A0.length<140737488355328 then (dU.l0 k x0 (x3++A0) (wrap64 (x4+1))) else (none))) else (none)) else (some x3)
def dU.f (k:Nat) (l0:List Int):Option (List Int):=(some (([]:List Int):List Int)).bind fun A0=>((cI.f k l0).bind fun A1=>(if A1=true then (dU.l0 k l0 A0 0) else (some A0)))
theorem dU.calls (k:Nat) (A0:Option Addr) (c0:Nat) (l0:List Int) (r:List Int) (w:World) (At:Kd.C (Kd.int .i64) w A0 l0.length l0) (Au:l0.length≤c0) (h:dU.f k l0=some r):
 Calls Try.prog 74 #[.slice A0 l0.length c0] w fun e w'=>∃Av:Value,e=.returned (Av)∧Kd.R (Kd.int .u8) 5 w' w.heap.size (fun _=>True) Av r∧Below w.heap.size w w':=by
 have Ai:=am At
 have Aw:=am Au
 clear At Au
 have HB:=am (Below.refl w.heap.size w)
 have H:=h
 clear h
 unfold dU.f at H
 replace H:=bs H
 obtain ⟨Aj,A5,H⟩:=H
 replace H:=be H
 obtain ⟨Ae,Ax,H⟩:=H
 cases Ae
 · replace H:=iF H
   obtain rfl:=k6 H
   go_enter Try.func74,Try.ntmps74
   go_wp2_with (first|((with_reducible refine aJ (N:=5) rfl ?_);refine Kd.R_lit (Kd.int .u8) _ 5 ?hg (N:=5) ?hd (xs:=([]:List Int)) (inner:=[]) (ok:=fun _=>True) (okp:=fun _=>True) ?hr ?hp (fun _ hk=>hk) trivial (Below.refl _ _) (k7 _) (by simp) ?_;(case hd=>rfl);(case hg=>rfl);(case hr=>exact gs);(case hp=>exact (bD.none _ _));intro Ak B3 A6 hb hg_ hnew_;clear hg_ hnew_;(first|rw [← A5.o] at A6|(simp only [Int.reduceToNat] at A6;rw [← A5.o] at A6));have n_:=ak2 (rl A6 (bq HB.o)) (aC (bq HB.o) hb);clear HB;obtain ⟨A7,HB⟩:=n_;clear hb A6)|((with_reducible refine aE (f:=63) rfl ?_);refine gc (some 7) (cI.calls k _ _ l0 false _ (cq (Kd.C_below Ai.o HB.o)) Aw.o Ax.o) Try.func63 ?_;rintro e w' ⟨rfl,⟨nd,rfl⟩⟩;refine ⟨_,rfl,?_⟩))
   go_ret
   exact ⟨_,rq,kqR A7.o,bq HB.o⟩
 replace H:=iT H
 have H':=am H
 clear H
 go_enter Try.func74,Try.ntmps74
 go_wp2_with (first|((with_reducible refine aJ (N:=5) rfl ?_);refine Kd.R_lit (Kd.int .u8) _ 5 ?hg (N:=5) ?hd (xs:=([]:List Int)) (inner:=[]) (ok:=fun _=>True) (okp:=fun _=>True) ?hr ?hp (fun _ hk=>hk) trivial (Below.refl _ _) (k7 _) (by simp) ?_;(case hd=>rfl);(case hg=>rfl);(case hr=>exact gs);(case hp=>exact (bD.none _ _));intro Ak w4 Af hb hg_ hnew_;clear hg_ hnew_;(first|rw [← A5.o] at Af|(simp only [Int.reduceToNat] at Af;rw [← A5.o] at Af));have n_:=ak2 (rl Af (bq HB.o)) (aC (bq HB.o) hb);clear HB;obtain ⟨A7,HB⟩:=n_;clear hb Af)|((with_reducible refine aE (f:=63) rfl ?_);refine gc (some 7) (cI.calls k _ _ l0 true _ (cq (Kd.C_below Ai.o HB.o)) Aw.o Ax.o) Try.func63 ?_;rintro e w' ⟨rfl,⟨nd,rfl⟩⟩;refine ⟨_,rfl,?_⟩))
 go_loopg [3,4] k (fun kq v3 v4 w'=>∃(A9:List Int) (A3:Int),v4=.int .i64 A3∧Aside0 (dU.l0 kq l0 A9 A3=some r)∧Aside0 (kq≤k)∧Aside0 (Kd.R (Kd.int .u8) 5 w' w.heap.size (fun _=>True) v3 A9)∧Aside0 (Below w.heap.size w w'))
 case atStart=>exact ⟨(Aj),(0),sq,H',⟨k7 _⟩,⟨kqR A7.o⟩,⟨bq HB.o⟩⟩
 case round=>
  clear H'
  try clear p2
  try clear c3
  obtain ⟨A9,A3,rfl,HA,Ay,A4,HB⟩:=hrel
  cases gk with
  |zero=>exact absurd HA.o (by simp [dU.l0])
  |succ k1=>
   have H:=HA.o
   clear HA
   simp only [dU.l0] at H
   replace H:=il' H
   rcases H with ⟨-,Al,H⟩|⟨-,Al,H⟩
   · obtain rfl:=k6 H
     go_wp2
     go_ret
     exact ⟨_,rq,kqR A4.o,bq HB.o⟩
   replace H:=nl H
   obtain ⟨-,B0,H⟩:=H
   replace H:=be H
   obtain ⟨Aa,A8,H⟩:=H
   replace H:=nq H
   obtain ⟨c9,H⟩:=H
   have Am:=am c9
   clear c9
   generalize Ab:((A9++Aa):List Int)=An at H
   have Ag:=am Ab.symm
   clear Ab
   have H':=am H
   clear H
   have Ac:0≤(A3:Int):=oda
   have Ad:A3<(l0.length:Int):=oda
   obtain ⟨Az,Ao,A2⟩:=Kd.at_int Ai.o A3 Ac Ad
   cases Ao
   replace A2:=(HB.o.cell (kW w _ A2)).trans A2
   replace Ac:=eq_true Ac
   replace Ad:=eq_true Ad
   go_wp2_with (first|((with_reducible refine aE (f:=72) rfl ?_);refine gc (some 21) (dF.calls k1 (rd l0 A3) Aa _ A8.o) Try.func72 ?_;rintro e B4 ⟨B1,rfl,Ap,hb⟩;refine ⟨_,rfl,?_⟩;have n_:=ak3 (re_ A4 Ap hb) (rn_ Ap A4 (bq HB.o)) (aC (bq HB.o) hb);clear A4 HB;obtain ⟨A4,A1,HB⟩:=n_;(try clear hb Ap);obtain ⟨Aq,Ar,As⟩:=Kd.R_slice A1.o;subst As)|((with_reducible refine bM (b:=.append) (xs:=#[.tmp 16,.tmp 21]) rfl ?_);at_builtin;refine Kd.R_append_rows (Kd.int .u8) (w0:=w) w.heap.size rfl (.tmp 16) (.tmp 21) 22 5 (.int .u8 0) 1 rfl Try.underlying22 eH rfl (by decide) (by omega) u3 A9 Aa _ _ _ (fun k_=>some k_≠(.slice Aq Aa.length Ar:Value).ownBlock) (fun _=>False) rfl rfl ?aO ?aR (fun _ _ h=>h) (fun _ h=>h.elim) ?aF ?aB ?aS ?aL ?_;(case aR=>repeat (first|exact (Kd.R_reads' A1.o).2.2|(with_reducible refine Kd.C_alloc ?_ _)|(with_reducible refine Kd.C_drewN ?_ _)|(with_reducible refine Kd.C_drew ?_)));(case aB=>exact (bq HB.o));(case aF=>exact (fun k_ hk=>Kd.fresh' (Kd.R_lt (kqR A1.o)) k_ hk));(case aO=>exact (by refine kr ?_;exact Kd.R_mono A4.o (fun _ hk=>hk.2)));(case aS=>exact (aH (bq HB.o)));(case aL=>have:=Am.o;omega);intro B2 B5 ho hb hg hat;rw [← Ag.o] at ho;have n_:=ak3 (Kd.R_after (ok:=(fun _=>True)) (kqR A1.o) hg hat) hb ho;clear A1 HB A4;obtain ⟨A1,HB,Ah⟩:=n_;clear ho hb hg hat))
   go_roundg k1
   case measure=>have:=Ay.o;omega
   case rel=>exact ⟨(An),(wrap64 (A3+1)),sq,H',⟨by have:=Ay.o;omega⟩,⟨by refine kr ?_;exact Kd.R_mono Ah.o (fun _ hk=>trivial)⟩,⟨bq HB.o⟩⟩
def fI.f (k:Nat) (l0:List Int) (A0:Int) (A2:Int) (A1:ByteArray) (A3:List Int):Option (List Int):=(b5.f k A0 A2 A1 A3).bind fun A5=>(if A5=true then (if A0=2 then ((cJ.f k A2).bind fun A6=>((bT.f k l0 A0 A6).bind fun A7=>(some A7))) else (if A0=4 then (if (A1.size:Int)<140737488355328 then ((bT.f k l0 A0 (fN A1)).bind fun A8=>(some A8)) else (none)) else (if A0=6 then ((dU.f k A3).bind fun A9=>((bT.f k l0 A0 A9).bind fun Aa=>(some Aa))) else ((bT.f k l0 A0 (([]:List Int))).bind fun Ab=>(some Ab))))) else ((some (([]:List Int):List Int)).bind fun A4=>(if A4.length+l0.length<140737488355328 then (some (A4++l0)) else (none))))
theorem fI.calls (k:Nat) (A0:Option Addr) (c0:Nat) (l0:List Int) (Ag:Int) (Aj:Int) (Ah:ByteArray) (An:Option Addr) (Ao:Nat) (Ai:List Int) (r:List Int) (w:World) (Bw:Kd.C (Kd.int .u8) w A0 l0.length l0) (Bx:l0.length≤c0) (Ap:Kd.C (Kd.int .i64) w An Ai.length Ai) (Aq:Ai.length≤Ao) (h:fI.f k l0 Ag Aj Ah Ai=some r):
 Calls Try.prog 73 #[.slice A0 l0.length c0,.agg #[.int .i64 Ag,.int .i64 Aj,.string Ah,.slice An Ai.length Ao]] w fun e w'=>∃By:Value,e=.returned (By)∧Kd.R (Kd.int .u8) 5 w' w.heap.size (fun _=>True) By r∧Below w.heap.size w w':=by
 have C6:=Try.underlying43
 have B3:=am Bw
 have Bk:=am Bx
 clear Bw Bx
 have Ak:=am Ap
 have Al:=am Aq
 clear Ap Aq
 have HB:=am (Below.refl w.heap.size w)
 have H:=h
 clear h
 unfold fI.f at H
 replace H:=be H
 obtain ⟨B4,Bz,H⟩:=H
 cases B4
 replace H:=iF H
 replace H:=bs H
 obtain ⟨B5,Ar,H⟩:=H
 replace H:=nq H
 obtain ⟨C0,H⟩:=H
 have B6:=am C0
 clear C0
 generalize As:((B5++l0):List Int)=C7 at H
 have B7:=am As.symm
 clear As
 have z0:=trivial
 rotate_left
 replace H:=iT H
 generalize At:((([]:List Int)):List Int)=Bl at H
 have Au:=am At.symm
 clear At
 replace H:=iq H
 rcases H with ⟨-,Bm,Bn,H⟩|⟨c5,Bm,Bn,H⟩
 replace H:=be H
 obtain ⟨Av,C8,H⟩:=H
 replace H:=be H
 obtain ⟨Ad,Ay,H⟩:=H
 have z1:=trivial
 rotate_left
 replace H:=iq H
 rcases H with ⟨-,B8,B9,H⟩|⟨Ci,B8,B9,H⟩
 replace H:=nq H
 obtain ⟨Bo,H⟩:=H
 have C1:=eq_true Bo
 have C2:decide ((Ah.size:Int)<140737488355328)=true:=k8 Bo
 clear Bo
 generalize Aw:((fN Ah):List Int)=Ba at H
 have Bb:=am Aw.symm
 clear Aw
 replace H:=be H
 obtain ⟨Ad,Ay,H⟩:=H
 have z2:=trivial
 rotate_left
 replace H:=iq' H
 rcases H with ⟨Cj,Bc,Bd,H⟩|⟨-,Bc,Bd,H⟩
 replace H:=be H
 obtain ⟨Ad,Ay,H⟩:=H
 have z3:=trivial
 rotate_left
 replace H:=be H
 obtain ⟨Ax,C9,H⟩:=H
 replace H:=be H
 obtain ⟨Ad,Ay,H⟩:=H
 have z4:=trivial
 rotate_right
 rotate_right
 rotate_right
 rotate_right
 all_goals
  obtain rfl:=k6 H
  go_enter Try.func73,Try.ntmps73
  go_wp2_with (first|((with_reducible refine aJ (N:=3) rfl ?_);refine bxe 3 #[.int .i64 Ag,.int .i64 Aj,.string Ah,.slice An Ai.length Ao] 43 ?_;intro Be hg w_ hbox hb;have n_:=ak4 (aC (bq HB.o) hb) hbox (bz hg (bq HB.o)) (bz hg (bq HB.o));clear HB;obtain ⟨HB,A1,C3,A3⟩:=n_;clear hb hbox hg;obtain ⟨A4,A5,A6,A7,A8,A9,Aa,Ab⟩:=cl4 A1.o)|((with_reducible refine aE (f:=64) rfl ?_);have:=z0;refine gc (some 7) (b5.calls k Ag Aj Ah _ _ Ai false _ (cq (Kd.C_below Ak.o HB.o)) Al.o Bz.o) Try.func64 ?_;rintro e w_ ⟨rfl,hb⟩;refine ⟨_,rfl,?_⟩;have n_:=ak2 (kb A1 hb) (aC (bq1 HB.o A3.o) hb);clear A1 HB;obtain ⟨A1,HB⟩:=n_;(try clear hb))|((with_reducible refine aE (f:=64) rfl ?_);(first|have:=z1|have:=z2|have:=z3|have:=z4);refine gc (some 7) (b5.calls k Ag Aj Ah _ _ Ai true _ (cq (Kd.C_below Ak.o HB.o)) Al.o Bz.o) Try.func64 ?_;rintro e w_ ⟨rfl,hb⟩;refine ⟨_,rfl,?_⟩;have n_:=ak2 (kb A1 hb) (aC (bq1 HB.o A3.o) hb);clear A1 HB;obtain ⟨A1,HB⟩:=n_;(try clear hb))|((with_reducible refine aJ (N:=9) rfl ?_);refine Kd.R_lit (Kd.int .u8) _ 5 ?hg (N:=9) ?hd (xs:=([]:List Int)) (inner:=[]) (ok:=fun _=>True) (okp:=fun _=>True) ?hr ?hp (fun _ hk=>hk) trivial (Below.refl _ _) (k7 _) (by simp) ?_;(case hd=>rfl);(case hg=>rfl);(case hr=>exact gs);(case hp=>exact (bD.none _ _));intro Bp w_ ho_ hb hg_ hnew_;clear hg_ hnew_;(first|rw [← Ar.o] at ho_|(simp only [Int.reduceToNat] at ho_;rw [← Ar.o] at ho_));have n_:=ak3 (rl ho_ (bq1 HB.o A3.o)) (kb A1 hb) (aC (bq1 HB.o A3.o) hb);clear A1 HB;obtain ⟨Am,A1,HB⟩:=n_;clear hb ho_)|((with_reducible refine bM (b:=.append) (xs:=#[.tmp 9,.tmp 10]) rfl ?_);at_builtin;refine Kd.R_append_rows (Kd.int .u8) (w0:=w) w.heap.size rfl (.tmp 9) (.tmp 10) 22 5 (.int .u8 0) 1 rfl Try.underlying22 eH rfl (by decide) (by omega) Bp B5 l0 _ _ _ (fun _=>True) (fun _=>False) rfl rfl ?aO ?aR (fun _ _ h=>h) (fun _ h=>h.elim) ?aF ?aB ?aS ?aL ?_;(case aR=>exact cq (Kd.C_below B3.o HB.o));(case aB=>exact (bq1 HB.o A3.o));(case aF=>exact (fun _ _=>trivial));(case aO=>exact (kqR Am.o));(case aS=>exact (aH (bq1 HB.o A3.o)));(case aL=>have:=B6.o;omega);intro Ca w_ ho hb hg hat;rw [← B7.o] at ho;have n_:=ak3 (cB (g:=Be) (o:=.cells #[.int .i64 Ag,.int .i64 Aj,.string Ah,.slice An Ai.length Ao] 43 (0,0)) (zq A1.o) hg (Kd.R_ne Am.o A1.o (by decide))) hb ho;clear A1 HB Am;obtain ⟨A1,HB,Bf⟩:=n_;clear ho hb hg hat)|((with_reducible refine aJ (N:=12) rfl ?_);refine Kd.R_lit (Kd.int .u8) _ 5 ?hg (N:=12) ?hd (xs:=([]:List Int)) (inner:=[]) (ok:=fun _=>True) (okp:=fun _=>True) ?hr ?hp (fun _ hk=>hk) trivial (Below.refl _ _) (k7 _) (by simp) ?_;(case hd=>rfl);(case hg=>rfl);(case hr=>exact gs);(case hp=>exact (bD.none _ _));intro Cb w_ ho_ hb hg_ hnew_;clear hg_ hnew_;(first|rw [← Au.o] at ho_|(simp only [Int.reduceToNat] at ho_;rw [← Au.o] at ho_));have n_:=ak3 (rl ho_ (bq1 HB.o A3.o)) (kb A1 hb) (aC (bq1 HB.o A3.o) hb);clear A1 HB;obtain ⟨A2,A1,HB⟩:=n_;clear hb ho_;obtain ⟨Bq,Br,Az⟩:=Kd.R_slice A2.o;subst Az;obtain ⟨A4,A5,A6,A7,A8,A9,Aa,Ab⟩:=cl4 A1.o)|((with_reducible refine aE (f:=68) rfl ?_);refine gc (some 19) (cJ.calls k Aj Av _ C8.o) Try.func68 ?_;rintro e w_ ⟨Cc,rfl,ho_,hb⟩;refine ⟨_,rfl,?_⟩;have n_:=ak4 (re_ A2 ho_ hb) (rn_ ho_ A2 (bq1 HB.o A3.o)) (kb A1 hb) (aC (bq1 HB.o A3.o) hb);clear A2 A1 HB;obtain ⟨A2,Ae,A1,HB⟩:=n_;(try clear hb ho_);obtain ⟨Bs,Bt,B0⟩:=Kd.R_slice Ae.o;subst B0;obtain ⟨A4,A5,A6,A7,A8,A9,Aa,Ab⟩:=cl4 A1.o)|((with_reducible refine aE (f:=41) rfl ?_);have:=z2;refine gc (some 34) (bT.calls k _ _ l0 Ag _ _ Ba Ad _ (cq (Kd.C_below B3.o HB.o)) Bk.o (by repeat (first|exact (by repeat (first|(with_reducible exact Ac.o)|(with_reducible refine Kd.C_alloc ?_ _)|(with_reducible refine Kd.C_drewN ?_ _)|(with_reducible refine Kd.C_drew ?_)|exact Ac.o))|(with_reducible refine Kd.C_alloc ?_ _)|(with_reducible refine Kd.C_drewN ?_ _)|(with_reducible refine Kd.C_drew ?_))) B1.o Ay.o) Try.func41 ?_;rintro e w_ ⟨Cd,rfl,ho_,hb⟩;refine ⟨_,rfl,?_⟩;have n_:=ak5 (re_ A2 ho_ hb) (rn_ ho_ A2 (bq1 HB.o A3.o)) (kb A1 hb) (Kd.C_below (by repeat (first|(with_reducible exact Ac.o)|(with_reducible refine Kd.C_alloc ?_ _)|(with_reducible refine Kd.C_drewN ?_ _)|(with_reducible refine Kd.C_drew ?_)|exact Ac.o)) hb) (aC (bq1 HB.o A3.o) hb);clear A2 A1 Ac HB;obtain ⟨A2,Bg,A1,Ac,HB⟩:=n_;(try clear hb ho_))|((with_reducible refine aE (f:=41) rfl ?_);have:=z1;refine gc (some 34) (bT.calls k _ _ l0 Ag _ _ Av Ad _ (cq (Kd.C_below B3.o HB.o)) Bk.o (cq (Kd.R_reads' Ae.o).2.2) ((Kd.R_reads' Ae.o).2.1) Ay.o) Try.func41 ?_;rintro e w_ ⟨Ce,rfl,ho_,hb⟩;refine ⟨_,rfl,?_⟩;have n_:=ak5 (re_ A2 ho_ hb) (re_ Ae ho_ hb) (Kd.R_lower (Kd.R_new' (Kd.R_new' ho_ (Kd.R_lt (kqR A2.o))) (Kd.R_lt (kqR Ae.o))) (aH (bq1 HB.o A3.o))) (kb A1 hb) (aC (bq1 HB.o A3.o) hb);clear A2 Ae A1 HB;obtain ⟨A2,Ae,Bh,A1,HB⟩:=n_;(try clear hb ho_))|((with_reducible refine aE (f:=41) rfl ?_);have:=z4;refine gc (some 34) (bT.calls k _ _ l0 Ag _ _ Ax Ad _ (cq (Kd.C_below B3.o HB.o)) Bk.o (cq (Kd.R_reads' Af.o).2.2) ((Kd.R_reads' Af.o).2.1) Ay.o) Try.func41 ?_;rintro e w_ ⟨Cf,rfl,ho_,hb⟩;refine ⟨_,rfl,?_⟩;have n_:=ak5 (re_ A2 ho_ hb) (re_ Af ho_ hb) (Kd.R_lower (Kd.R_new' (Kd.R_new' ho_ (Kd.R_lt (kqR A2.o))) (Kd.R_lt (kqR Af.o))) (aH (bq1 HB.o A3.o))) (kb A1 hb) (aC (bq1 HB.o A3.o) hb);clear A2 Af A1 HB;obtain ⟨A2,Af,Bi,A1,HB⟩:=n_;(try clear hb ho_))|((with_reducible refine aE (f:=41) rfl ?_);have:=z3;refine gc (some 34) (bT.calls k _ _ l0 Ag _ _ Bl Ad _ (cq (Kd.C_below B3.o HB.o)) Bk.o (cq (Kd.R_reads' A2.o).2.2) ((Kd.R_reads' A2.o).2.1) Ay.o) Try.func41 ?_;rintro e w_ ⟨Cg,rfl,ho_,hb⟩;refine ⟨_,rfl,?_⟩;have n_:=ak4 (re_ A2 ho_ hb) (rn_ ho_ A2 (bq1 HB.o A3.o)) (kb A1 hb) (aC (bq1 HB.o A3.o) hb);clear A2 A1 HB;obtain ⟨A2,Bj,A1,HB⟩:=n_;(try clear hb ho_))|((with_reducible refine aJ (N:=24) rfl ?_);refine iA ?hg (N:=24) ?hd 9 22 5 (x:=.tmp 23) ?ho (s:=Ah) (y:=Ba) Bb.o ?hx Try.underlying9 Try.underlying22 Try.underlying5 (by have h_:(Ah.size:Int)<(140737488355328:Int):=oda;omega) ?_;(case hd=>rfl);(case hg=>rfl);(case ho=>rfl);(case hx=>first|(go_simp;done)|(go_simp;rfl));intro C4 C5 w_ hs_ hl_ hb;have n_:=ak5 (rb A2 hb) (kb A1 hb) (aC (bq1 HB.o A3.o) hb) hs_ hl_;clear A2 A1 HB;obtain ⟨A2,A1,HB,Ac,B1⟩:=n_;clear hb hs_ hl_;obtain ⟨A4,A5,A6,A7,A8,A9,Aa,Ab⟩:=cl4 A1.o)|((with_reducible refine aE (f:=74) rfl ?_);refine gc (some 29) (dU.calls k _ _ Ai Ax _ (cq (Kd.C_below Ak.o HB.o)) Al.o C9.o) Try.func74 ?_;rintro e w_ ⟨Ch,rfl,ho_,hb⟩;refine ⟨_,rfl,?_⟩;have n_:=ak4 (re_ A2 ho_ hb) (rn_ ho_ A2 (bq1 HB.o A3.o)) (kb A1 hb) (aC (bq1 HB.o A3.o) hb);clear A2 A1 HB;obtain ⟨A2,Af,A1,HB⟩:=n_;(try clear hb ho_);obtain ⟨Bu,Bv,B2⟩:=Kd.R_slice Af.o;subst B2;obtain ⟨A4,A5,A6,A7,A8,A9,Aa,Ab⟩:=cl4 A1.o))
  first
  | go_ret
    exact ⟨_,rq,by refine kr ?_;exact Kd.R_mono Bh.o (fun _ hk=>trivial),bq1 HB.o A3.o⟩
  | go_ret
    exact ⟨_,rq,by refine kr ?_;exact Kd.R_mono Bg.o (fun _ hk=>trivial),bq1 HB.o A3.o⟩
  | go_ret
    exact ⟨_,rq,by refine kr ?_;exact Kd.R_mono Bj.o (fun _ hk=>trivial),bq1 HB.o A3.o⟩
  | go_ret
    exact ⟨_,rq,by refine kr ?_;exact Kd.R_mono Bi.o (fun _ hk=>trivial),bq1 HB.o A3.o⟩
  | go_ret
    exact ⟨_,rq,kqR Bf.o,bq1 HB.o A3.o⟩
end Go.Proofs.Ytgppikopdpeigaa.XFnPdus
