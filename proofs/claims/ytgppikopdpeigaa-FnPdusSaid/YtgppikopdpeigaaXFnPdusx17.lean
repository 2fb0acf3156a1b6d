/- The functions that one law reaches, as Lean functions, with their walks: printed by a program of this seat (wip/tools) out of the translation. -/
import Derived.Test.YtgppikopdpeigaaXFnPdusx0
import Derived.Test.YtgppikopdpeigaaXFnPdusx5
import Derived.Test.YtgppikopdpeigaaXFnPdusx7
import Derived.Test.YtgppikopdpeigaaXFnPdusx15
import Derived.Test.YtgppikopdpeigaaXFnPdusx16
namespace Go.Proofs.Ytgppikopdpeigaa.XFnPdus
open Go.RowKit Go.Proofs.YtgppikopdpeigaaW.PrintWords Go.Proofs.YtgppikopdpeigaaW.PrintLast Go.Proofs.YtgppikopdpeigaaW.PrintMore
attribute [local go_sem] cO cP dH dI cC cD cQ cR
set_option linter.unusedVariables false
set_option linter.unusedSimpArgs false
set_option maxHeartbeats 8000000
set_option maxRecDepth 100000
def dO.l0:Nat→List Int→Int→List Int→Int→Int→Option (Int × Bool)
 |0,_,_,_,_,_=>none
 |k+1,x0,x4,A1,A3,A0=>if A0<A3 then (if 0≤A0 then (if A0<(A1.length:Int) then (dO.l0 k x0 (Go.bits .or .i64 (wrap64 (x4*256)) (wrap64 (rd A1 A0))) A1 A3 (wrap64 (A0+1))) else (none)) else (none)) else ((bN.f k x4).bind fun A2=>(if (A2.length:Int)=(x0.length:Int) then (some (x4,true)) else (some (0,false))))
def dO.f (k:Nat) (l0:List Int):Option (Int × Bool):=(b7.f (l0.length:Int) 1 4).bind fun A0=>(if A0=true then (if 0<(l0.length:Int) then (if 1≤(l0.length:Int) then (dO.l0 k l0 (wrap64 (IntKind.i8.wrap (rd l0 0))) (l0.drop 1) ((l0.drop 1).length:Int) 0) else (none)) else (none)) else (some (0,false)))
theorem dO.calls (k:Nat) (A0:Option Addr) (c0:Nat) (l0:List Int) (r1:Int) (r2:Bool) (w:World) (Ax:Kd.C (Kd.int .u8) w A0 l0.length l0) (Ay:l0.length≤c0) (h:dO.f k l0=some (r1,r2)):
 Calls Try.prog 57 #[.slice A0 l0.length c0] w fun e w'=>e=.returned (.tuple #[.int .i64 r1,.bool r2])∧Below w.heap.size w w':=by
 have Az:=am Ax
 have Ba:=am Ay
 clear Ax Ay
 have HB:=am (Below.refl w.heap.size w)
 have H:=h
 clear h
 unfold dO.f at H
 replace H:=be H
 obtain ⟨Ae,B0,H⟩:=H
 cases Ae
 · replace H:=iF H
   simp only [k4,k5] at H
   obtain ⟨rfl,rfl⟩:=H
   go_enter Try.func57,Try.ntmps57
   go_wp2_with (first|((with_reducible refine aE (f:=36) rfl ?_);refine gc (some 9) (b7.calls (l0.length:Int) 1 4 false _ B0.o) Try.func36 ?_;rintro e w' ⟨rfl,⟨nd,rfl⟩⟩;refine ⟨_,rfl,?_⟩))
   go_ret2
   exact ⟨rq,bq HB.o⟩
 replace H:=iT H
 replace H:=nl H
 obtain ⟨c4,Ao,H⟩:=H
 have Ap:decide (0<l0.length)=true:=k8 (by omega)
 clear c4
 replace H:=nq H
 obtain ⟨c5,H⟩:=H
 have Aq:=eq_true c5
 have Ar:decide (1≤(l0.length:Int))=true:=k8 c5
 clear c5
 have H':=am H
 clear H
 go_enter Try.func57,Try.ntmps57
 go_wp2_with (first|((with_reducible refine aE (f:=36) rfl ?_);refine gc (some 9) (b7.calls (l0.length:Int) 1 4 true _ B0.o) Try.func36 ?_;rintro e w' ⟨rfl,⟨nd,rfl⟩⟩;refine ⟨_,rfl,?_⟩;have A5:0≤(0:Int):=(by omega);have A7:0<(l0.length:Int):=oda;obtain ⟨Af,As,A2⟩:=Kd.at_int Az.o 0 A5 A7;cases As;have B1:(0<l0.length)=True:=eq_true (by omega);(try rw [show ((0:Int)).toNat=0 from rfl] at A2);(try rw [Addr.add_zero'] at A2);replace A5:=eq_true A5;replace A7:=eq_true A7;obtain ⟨Bf,Ag,_,Ah,_⟩:=info_parts eH;obtain ⟨A6,B2,B3,B4⟩:=iC (P:=Try.prog) (Value.int .u8) 0 22 5 .i64 Try.underlying22 Ag Ah (some Af) c0 l0 1 (by omega) (oda) Ba.o;have Ai:=am (Kd.C_of_reads (h1:=fun _=>rfl) (B3 _ (Kd.reads_of_C Az.o)));have B5:=am B4;clear B3 B4 Ag Ah))
 go_loopg [4,19] k (fun kq v4 Bb w'=>∃(A4:Int) (A1:Int),v4=.int .i64 A4∧Bb=.int .i64 A1∧Aside0 (dO.l0 kq l0 A4 (l0.drop 1) ((l0.drop 1).length:Int) A1=some (r1,r2))∧Aside0 (kq≤k)∧Aside0 (Below w.heap.size w w'))
 case atStart=>exact ⟨(wrap64 (IntKind.i8.wrap (rd l0 0))),(0),sq,sq,H',⟨k7 _⟩,⟨bq HB.o⟩⟩
 case round=>
  clear H'
  try clear p2
  try clear c3
  try clear c4
  try clear Ao
  try clear Ap
  try clear c5
  try clear Aq
  try clear Ar
  try clear p6
  try clear A2
  try clear A5
  try clear A7
  obtain ⟨A4,A1,rfl,rfl,HA,B6,HB⟩:=hrel
  cases gk with
  |zero=>exact absurd HA.o (by simp [dO.l0])
  |succ k1=>
   have H:=HA.o
   clear HA
   simp only [dO.l0] at H
   replace H:=il H
   rcases H with ⟨c7,A9,H⟩|⟨c7,A9,H⟩
   · have Aj:decide (A1<((l0.length - 1:Nat):Int))=true:=by have h_:=A9;rw [List.length_drop] at h_;exact h_
     clear c7
     replace H:=nl H
     obtain ⟨-,Bc,H⟩:=H
     replace H:=nl H
     obtain ⟨c9,At,H⟩:=H
     have B7:decide (A1<((l0.length - 1:Nat):Int))=true:=by have h_:=At;rw [List.length_drop] at h_;exact h_
     clear c9
     have H':=am H
     clear H
     have Aa:0≤(A1:Int):=oda
     have A8:A1<((l0.drop 1).length:Int):=oda
     obtain ⟨B8,Au,A3⟩:=Kd.at_int Ai.o A1 Aa A8
     cases Au
     replace A3:=(HB.o.cell (kW w _ A3)).trans A3
     replace Aa:=eq_true Aa
     replace A8:=eq_true A8
     have B9:(A1<((l0.length - 1:Nat):Int))=True:=by have h_:=of_eq_true A8;rw [List.length_drop] at h_;exact eq_true h_
     go_wp2
     go_roundg k1
     case measure=>have:=B6.o;omega
     case rel=>exact ⟨(Go.bits .or .i64 (wrap64 (A4*256)) (wrap64 (rd (l0.drop 1) A1))),(wrap64 (A1+1)),sq,sq,H',⟨by have:=B6.o;omega⟩,⟨bq HB.o⟩⟩
   have Aj:decide (A1<((l0.length - 1:Nat):Int))=false:=by have h_:=A9;rw [List.length_drop] at h_;exact h_
   clear c7
   replace H:=be H
   obtain ⟨Ab,Bd,H⟩:=H
   replace H:=iq' H
   rcases H with ⟨Ad,Ak,Al,H⟩|⟨Ad,Ak,Al,H⟩
   have Am:(Ab.length==l0.length)=false:=by first|simpa using Ad|(simp at Ad ⊢;omega)
   rotate_left
   have Am:(Ab.length==l0.length)=true:=by first|simpa using Ad|(simp at Ad ⊢;omega)
   clear Ad
   rotate_right
   all_goals
    simp only [k4,k5] at H
    obtain ⟨rfl,rfl⟩:=H
    go_wp2_with (first|((with_reducible refine aE (f:=53) rfl ?_);refine gc (some 30) (bN.calls k1 A4 Ab _ Bd.o) Try.func53 ?_;rintro e w_ ⟨Be,rfl,ho_,hb⟩;refine ⟨_,rfl,?_⟩;have n_:=ak2 (rl ho_ (bq HB.o)) (aC (bq HB.o) hb);clear HB;obtain ⟨An,HB⟩:=n_;(try clear hb ho_);obtain ⟨Av,Aw,Ac⟩:=Kd.R_slice An.o;subst Ac))
    go_ret2
    exact ⟨rq,bq HB.o⟩
def b6.f (k:Nat) (A2:List Int) (A3:Int) (A4:Bool) (a1:Int):Option (Int × Int × Bool):=(bA.f k A2 A3 A4 a1).bind fun A0=>((dO.f k A0.1).bind fun A1=>(if A0.2.2=true then (some (A1.1,A0.2.1,true)) else (some (A1.1,A0.2.1, !A1.2))))
theorem b6.calls (k:Nat) (g:Nat) (A6:List Int) (A7:Int) (A8:Bool) (a1:Int) (r1:Int) (r2:Int) (r3:Bool) (w0 w:World) {Z:Option Addr→Nat→Prop} (hI:aU Z w0 w g A6 A7 A8) (hB:Below w0.heap.size w0 w) (h:b6.f k A6 A7 A8 a1=some (r1,r2,r3)):
 Calls Try.prog 27 #[.pointer (some ⟨g,0,none⟩),.int .i64 a1] w fun e w'=>e=.returned (.int .i64 r1)∧aU Z w0 w' g A6 r2 r3∧Below w0.heap.size w0 w'∧KeepBut w w' g none:=by
 have A1:=am hI
 have HK:=am (KeepBut.refl w g none)
 have HL:=am hB.size
 clear hI
 have B0:=am hB.size
 have HB:=am hB
 clear hB
 have H:=h
 clear h
 unfold b6.f at H
 replace H:=be H
 obtain ⟨⟨A4,A9,Ae⟩,Ay,H⟩:=H
 try dsimp only at H
 replace H:=be H
 obtain ⟨⟨Aa,Ab⟩,Az,H⟩:=H
 try dsimp only at H
 rcases bt Ae with rfl|rfl
 replace H:=iT H
 have z0:=trivial
 rotate_left
 replace H:=iF H
 have z1:=trivial
 rotate_right
 all_goals
  simp only [k4,k5] at H
  obtain ⟨rfl,rfl,rfl⟩:=H
  go_enter Try.func27,Try.ntmps27
  go_wp2_with (first|((with_reducible refine aE (f:=28) rfl ?_);have:=z1;refine gc (some 10) (bA.calls (Z:=Z) k g A6 A7 A8 a1 A4 A9 false w0 _ (aU.q0 A1.o) (bq1 HB.o (aU.ge A1.o)) Ay.o) Try.func28 ?_;rintro e w_ ⟨Ao,rfl,ho_,hi,hb,hk⟩;refine ⟨_,rfl,?_⟩;have n_:=ak4 (Kd.R_lower ho_ (a8 (w:=w) (g:=g) (row:=none) (kp0 HK.o))) (KeepBut.trans (kp0 HK.o) hk (.inl rfl)) hb hi;clear HK HB A1;obtain ⟨A0,HK,HB,A1⟩:=n_;(try clear hb hk hi ho_);obtain ⟨Ac,Ad,A3⟩:=Kd.R_slice A0.o;subst A3)|((with_reducible refine aE (f:=28) rfl ?_);have:=z0;refine gc (some 10) (bA.calls (Z:=Z) k g A6 A7 A8 a1 A4 A9 true w0 _ (aU.q0 A1.o) (bq1 HB.o (aU.ge A1.o)) Ay.o) Try.func28 ?_;rintro e w_ ⟨Ao,rfl,ho_,hi,hb,hk⟩;refine ⟨_,rfl,?_⟩;have n_:=ak4 (Kd.R_lower ho_ (a8 (w:=w) (g:=g) (row:=none) (kp0 HK.o))) (KeepBut.trans (kp0 HK.o) hk (.inl rfl)) hb hi;clear HK HB A1;obtain ⟨A0,HK,HB,A1⟩:=n_;(try clear hb hk hi ho_);obtain ⟨Ac,Ad,A3⟩:=Kd.R_slice A0.o;subst A3)|((with_reducible refine aE (f:=57) rfl ?_);have:=z1;refine gc (some 11) (dO.calls k _ _ A4 Aa Ab _ (cq (Kd.R_reads' A0.o).2.2) ((Kd.R_reads' A0.o).2.1) Az.o) Try.func57 ?_;rintro e w_ ⟨rfl,hb⟩;refine ⟨_,rfl,?_⟩;have n_:=ak4 (rb A0 hb) (aU.below (aU.q0 A1.o) hb) (KeepBut.trans (kp0 HK.o) (KeepBut.of_below hb g none) (.inl rfl)) (aC (bq1 HB.o (aU.ge A1.o)) hb);clear A0 A1 HK HB;obtain ⟨A0,A1,HK,HB⟩:=n_;(try clear hb);obtain ⟨Ag,Ah,A2,Af,Ai⟩:=A1.o;have Aj:=dV A2;have Ak:=dW A2;have Al:=dX A2;have Am:=aM A2 1;have An:=aM A2 2;clear A2 Af)|((with_reducible refine aE (f:=57) rfl ?_);have:=z0;refine gc (some 11) (dO.calls k _ _ A4 Aa Ab _ (cq (Kd.R_reads' A0.o).2.2) ((Kd.R_reads' A0.o).2.1) Az.o) Try.func57 ?_;rintro e w_ ⟨rfl,hb⟩;refine ⟨_,rfl,?_⟩;have n_:=ak4 (rb A0 hb) (aU.below (aU.q0 A1.o) hb) (KeepBut.trans (kp0 HK.o) (KeepBut.of_below hb g none) (.inl rfl)) (aC (bq1 HB.o (aU.ge A1.o)) hb);clear A0 A1 HK HB;obtain ⟨A0,A1,HK,HB⟩:=n_;(try clear hb);obtain ⟨Ap,Aq,A5,Ar,As⟩:=A1.o;have At:=dV A5;have Au:=dW A5;have Av:=dX A5;have Aw:=aM A5 1;have Ax:=aM A5 2;clear A5 Ar))
  go_ret
  exact ⟨rq,aU.q0 A1.o,bq1 HB.o (aU.ge A1.o),kp0 HK.o⟩
theorem b6.box (k:Nat) (g:Nat) (A0:List Int) (A1:Int) (A2:Bool) (a1:Int) (r1:Int) (r2:Int) (r3:Bool) (w:World) (A:Option Addr) (c:Nat) (hb:w.heap[g]? =some (.cells #[.slice A A0.length c,.int .i64 A1,.bool A2] 57 (0,0))) (hC:Kd.C (Kd.int .u8) (tr w g) A A0.length A0) (hc:A0.length≤c) (h:b6.f k A0 A1 A2 a1=some (r1,r2,r3)):
 Calls Try.prog 27 #[.pointer (some ⟨g,0,none⟩),.int .i64 a1] w fun e w'=>e=.returned (.int .i64 r1)∧w'.heap[g]? =some (.cells #[.slice A A0.length c,.int .i64 r2,.bool r3] 57 (0,0))∧Kq w w' g:=by
 have hg:g≤w.heap.size:=Nat.le_of_lt (e8 hb)
 refine (b6.calls (Z:=fun A' c'=>A'=A∧c'=c) k g A0 A1 A2 a1 r1 r2 r3 (tr w g) w ⟨A,c,hb,by rw [gB hg];exact k7 _,⟨hC,hc⟩,rfl,rfl⟩ (gF hg) h).mono ?_
 rintro e w' ⟨rfl,⟨A',c',hb',_,_,hA,hc'⟩,hB,hk⟩
 exact ⟨rfl,by rw [hA,hc'] at hb';exact hb',Kq.of hg hB hk⟩
def dQ.f (A2:List Int) (A0:Int) (A1:Bool):Option (Bool × Int × Bool):=if A1=true then (some (false,A0,A1)) else (some ((A0==(A2.length:Int)),A0,A1))
theorem dQ.calls (g:Nat) (A3:List Int) (A2:Int) (A4:Bool) (r1:Bool) (r2:Int) (r3:Bool) (w0 w:World) {Z:Option Addr→Nat→Prop} (hI:aU Z w0 w g A3 A2 A4) (hB:Below w0.heap.size w0 w) (h:dQ.f A3 A2 A4=some (r1,r2,r3)):
 Calls Try.prog 29 #[.pointer (some ⟨g,0,none⟩)] w fun e w'=>e=.returned (.bool r1)∧aU Z w0 w' g A3 r2 r3∧Below w0.heap.size w0 w'∧KeepBut w w' g none:=by
 have A5:=am hI
 have HK:=am (KeepBut.refl w g none)
 have HL:=am hB.size
 clear hI
 have Ao:=am hB.size
 have HB:=am hB
 clear hB
 have H:=h
 clear h
 unfold dQ.f at H
 rcases Decidable.em (A4=true) with c2|c2
 · subst c2
   replace H:(some (false,A2,true))=some (r1,r2,r3):=by rw [if_pos rfl] at H;exact H
   simp only [k4,k5] at H
   obtain ⟨rfl,rfl,rfl⟩:=H
   obtain ⟨A6,A7,A0,A8,A9⟩:=A5.o
   have Aa:=dV A0
   have Ab:=dW A0
   have Ac:=dX A0
   have Ad:=aM A0 1
   have Ae:=aM A0 2
   clear A0 A8
   go_enter Try.func29,Try.ntmps29
   try go_wp2
   repeat (go_quiet (fail);try go_wp2)
   go_ret
   exact ⟨rq,aU.q0 A5.o,bq1 HB.o (aU.ge A5.o),kp0 HK.o⟩
 replace c2:=Bool.eq_false_iff.mpr c2
 subst c2
 replace H:(some ((A2==(A3.length:Int)),A2,false))=some (r1,r2,r3):=by rw [if_neg (show ¬(false=true) by decide)] at H;exact H
 simp only [k4,k5] at H
 obtain ⟨rfl,rfl,rfl⟩:=H
 obtain ⟨Af,Ag,A1,Ah,Ai⟩:=A5.o
 have Aj:=dV A1
 have Ak:=dW A1
 have Al:=dX A1
 have Am:=aM A1 1
 have An:=aM A1 2
 clear A1 Ah
 go_enter Try.func29,Try.ntmps29
 try go_wp2
 repeat (go_quiet (fail);try go_wp2)
 go_ret
 exact ⟨rq,aU.q0 A5.o,bq1 HB.o (aU.ge A5.o),kp0 HK.o⟩
theorem dQ.box (g:Nat) (A0:List Int) (A1:Int) (A2:Bool) (r1:Bool) (r2:Int) (r3:Bool) (w:World) (A:Option Addr) (c:Nat) (hb:w.heap[g]? =some (.cells #[.slice A A0.length c,.int .i64 A1,.bool A2] 57 (0,0))) (hC:Kd.C (Kd.int .u8) (tr w g) A A0.length A0) (hc:A0.length≤c) (h:dQ.f A0 A1 A2=some (r1,r2,r3)):
 Calls Try.prog 29 #[.pointer (some ⟨g,0,none⟩)] w fun e w'=>e=.returned (.bool r1)∧w'.heap[g]? =some (.cells #[.slice A A0.length c,.int .i64 r2,.bool r3] 57 (0,0))∧Kq w w' g:=by
 have hg:g≤w.heap.size:=Nat.le_of_lt (e8 hb)
 refine (dQ.calls (Z:=fun A' c'=>A'=A∧c'=c) g A0 A1 A2 r1 r2 r3 (tr w g) w ⟨A,c,hb,by rw [gB hg];exact k7 _,⟨hC,hc⟩,rfl,rfl⟩ (gF hg) h).mono ?_
 rintro e w' ⟨rfl,⟨A',c',hb',_,_,hA,hc'⟩,hB,hk⟩
 exact ⟨rfl,by rw [hA,hc'] at hb';exact hb',Kq.of hg hB hk⟩
def cS.l0:Nat→List Int→List Int→Int→List Int→Int→Int→Option (List Int × Bool)
 |0,_,_,_,_,_,_=>none
 |k+1,x0,x4,x5,x9,A2,A0=>if A0<A2 then (if 0≤A0 then (if A0<(x9.length:Int) then (if A0≥40 then (some (([]:List Int),false)) else (if (rd x9 A0)<128 then (if x4.length<17592186044416 then (cS.l0 k x0 (x4++[Go.bits .or .i64 (wrap64 ((mn x5 1048576)*128)) (wrap64 (Go.bits .and .u8 (rd x9 A0) 127))]) 0 x9 A2 (wrap64 (A0+1))) else (none)) else (cS.l0 k x0 x4 (Go.bits .or .i64 (wrap64 ((mn x5 1048576)*128)) (wrap64 (Go.bits .and .u8 (rd x9 A0) 127))) x9 A2 (wrap64 (A0+1))))) else (none)) else (none)) else ((bV.f k x4).bind fun A1=>(if (A1.length:Int)=0 then (some (([]:List Int),false)) else (if (strOfNums A1).toList=(strOfNums x0).toList then (some (x4,true)) else (some (([]:List Int),false)))))
def cS.f (k:Nat) (l0:List Int):Option (List Int × Bool):=cS.l0 k l0 ([]:List Int) 0 l0 (l0.length:Int) 0
theorem cS.calls (k:Nat) (A0:Option Addr) (c0:Nat) (l0:List Int) (r1:List Int) (r2:Bool) (w:World) (B1:Kd.C (Kd.int .u8) w A0 l0.length l0) (B2:l0.length≤c0) (h:cS.f k l0=some (r1,r2)):
 Calls Try.prog 58 #[.slice A0 l0.length c0] w fun e w'=>∃B3:Value,e=.returned (.tuple #[B3,.bool r2])∧Kd.R (Kd.int .i64) 3 w' w.heap.size (fun _=>True) B3 r1∧Below w.heap.size w w':=by
 have Af:=am B1
 have Br:=am B2
 clear B1 B2
 have HB:=am (Below.refl w.heap.size w)
 have H:=h
 clear h
 unfold cS.f at H
 have H':=am H
 clear H
 go_enter Try.func58,Try.ntmps58
 go_wp2
 go_loopg [4,5,11] k (fun kq v4 v5 Ba w'=>∃(A7:List Int) (A8:Int) (A1:Int),v5=.int .i64 A8∧Ba=.int .i64 A1∧Aside0 (cS.l0 kq l0 A7 A8 l0 (l0.length:Int) A1=some (r1,r2))∧Aside0 (kq≤k)∧Aside0 (Kd.R (Kd.int .i64) 3 w' w.heap.size (fun _=>True) v4 A7)∧Aside0 (Below w.heap.size w w'))
 case atStart=>exact ⟨(([]:List Int)),(0),(0),sq,sq,H',⟨k7 _⟩,⟨rn⟩,⟨bq HB.o⟩⟩
 case round=>
  clear H'
  obtain ⟨A7,A8,A1,rfl,rfl,HA,Ao,A3,HB⟩:=hrel
  cases gk with
  |zero=>exact absurd HA.o (by simp [cS.l0])
  |succ k1=>
   have H:=HA.o
   clear HA
   simp only [cS.l0] at H
   replace H:=il' H
   rcases H with ⟨-,Ap,H⟩|⟨-,Ap,H⟩
   · replace H:=be H
     obtain ⟨Aa,Aq,H⟩:=H
     replace H:=iq H
     rcases H with ⟨-,Ag,Ah,H⟩|⟨Bb,Ag,Ah,H⟩
     · simp only [k4,k5] at H
       obtain ⟨rfl,rfl⟩:=H
       obtain ⟨Bc,Bd,Ar⟩:=Kd.R_slice A3.o
       subst Ar
       go_wp2_with (first|((with_reducible refine aE (f:=22) rfl ?_);refine gc (some 33) (bV.calls k1 _ _ A7 Aa _ (cq (Kd.R_reads' A3.o).2.2) ((Kd.R_reads' A3.o).2.1) Aq.o) Try.func22 ?_;rintro e Bs ⟨Ai,rfl,Ac,hb⟩;refine ⟨_,rfl,?_⟩;have n_:=ak3 (rb A3 hb) (rl Ac (bq HB.o)) (aC (bq HB.o) hb);clear A3 HB;obtain ⟨A3,A4,HB⟩:=n_;(try clear hb Ac);obtain ⟨Be,Bf,As⟩:=Kd.R_slice A4.o;subst As))
       go_ret2
       exact ⟨_,rq,rn,bq HB.o⟩
     have B4:¬(Aa=[]):=fun h_=>Bb (by rw [h_];rfl)
     replace H:=iq' H
     rcases H with ⟨Bt,Aj,Ak,H⟩|⟨-,Aj,Ak,H⟩
     · simp only [k4,k5] at H
       obtain ⟨rfl,rfl⟩:=H
       obtain ⟨Bg,Bh,At⟩:=Kd.R_slice A3.o
       subst At
       go_wp2_with (first|((with_reducible refine aE (f:=22) rfl ?_);refine gc (some 33) (bV.calls k1 _ _ A7 Aa _ (cq (Kd.R_reads' A3.o).2.2) ((Kd.R_reads' A3.o).2.1) Aq.o) Try.func22 ?_;rintro e Bu ⟨Ai,rfl,Ac,hb⟩;refine ⟨_,rfl,?_⟩;have n_:=ak3 (rb A3 hb) (rl Ac (bq HB.o)) (aC (bq HB.o) hb);clear A3 HB;obtain ⟨A3,A4,HB⟩:=n_;(try clear hb Ac);obtain ⟨Bi,Bj,Au⟩:=Kd.R_slice A4.o;subst Au;have B5:=fA (P:=Try.prog) Try.underlying22 Try.underlying5 Try.underlying9 (Kd.own_of_R A4.o);have B6:=Kd.C_string (P:=Try.prog) (A:=A0) (c:=c0) Try.underlying22 Try.underlying5 Try.underlying9 (Kd.C_below Af.o HB.o)))
       go_ret2
       exact ⟨_,rq,rn,bq HB.o⟩
     simp only [k4,k5] at H
     obtain ⟨rfl,rfl⟩:=H
     obtain ⟨Bk,Bl,Av⟩:=Kd.R_slice A3.o
     subst Av
     go_wp2_with (first|((with_reducible refine aE (f:=22) rfl ?_);refine gc (some 33) (bV.calls k1 _ _ A7 Aa _ (cq (Kd.R_reads' A3.o).2.2) ((Kd.R_reads' A3.o).2.1) Aq.o) Try.func22 ?_;rintro e Bv ⟨Ai,rfl,Ac,hb⟩;refine ⟨_,rfl,?_⟩;have n_:=ak3 (rb A3 hb) (rl Ac (bq HB.o)) (aC (bq HB.o) hb);clear A3 HB;obtain ⟨A3,A4,HB⟩:=n_;(try clear hb Ac);obtain ⟨Bm,Bn,Aw⟩:=Kd.R_slice A4.o;subst Aw;have B7:=fA (P:=Try.prog) Try.underlying22 Try.underlying5 Try.underlying9 (Kd.own_of_R A4.o);have B8:=Kd.C_string (P:=Try.prog) (A:=A0) (c:=c0) Try.underlying22 Try.underlying5 Try.underlying9 (Kd.C_below Af.o HB.o)))
     go_ret2
     exact ⟨_,rq,kqR A3.o,bq HB.o⟩
   replace H:=nl H
   obtain ⟨-,Bo,H⟩:=H
   replace H:=nl H
   obtain ⟨-,Bp,H⟩:=H
   replace H:=ip H
   rcases H with ⟨c5,H⟩|⟨c5,H⟩
   · have Ax:decide (40≤A1)=true:=k8 c5
     clear c5
     simp only [k4,k5] at H
     obtain ⟨rfl,rfl⟩:=H
     have A5:0≤(A1:Int):=oda
     have A6:A1<(l0.length:Int):=oda
     obtain ⟨Ad,A9,A2⟩:=Kd.at_int Af.o A1 A5 A6
     cases A9
     replace A2:=(HB.o.cell (kW w _ A2)).trans A2
     replace A5:=eq_true A5
     replace A6:=eq_true A6
     go_wp2
     go_ret2
     exact ⟨_,rq,rn,bq HB.o⟩
   have Ax:decide (40≤A1)=false:=decide_eq_false c5
   clear c5
   obtain ⟨Al,Ab⟩:∃j_:Int,(mn A8 1048576)=j_:=⟨_,rfl⟩
   first|rw [Ab] at H|simp only [Ab] at H
   have B9:(if 1048576<A8 then 1048576 else A8)=Al:=Ab
   replace H:=il' H
   rcases H with ⟨-,Ay,H⟩|⟨-,Ay,H⟩
   · have H':=am H
     clear H
     have A5:0≤(A1:Int):=oda
     have A6:A1<(l0.length:Int):=oda
     obtain ⟨Ad,A9,A2⟩:=Kd.at_int Af.o A1 A5 A6
     cases A9
     replace A2:=(HB.o.cell (kW w _ A2)).trans A2
     replace A5:=eq_true A5
     replace A6:=eq_true A6
     go_wp2
     go_roundg k1
     case measure=>have:=Ao.o;omega
     case rel=>exact ⟨(A7),(Go.bits .or .i64 (wrap64 ((Al)*128)) (wrap64 (Go.bits .and .u8 (rd l0 A1) 127))),(wrap64 (A1+1)),(by first|rfl|(simp;done)|(simp only [← Ab]<;>(first|rfl|simp))|(simp [*];done)),sq,H',⟨by have:=Ao.o;omega⟩,⟨kqR A3.o⟩,⟨bq HB.o⟩⟩
   replace H:=nq H
   obtain ⟨c8,H⟩:=H
   have Az:=am c8
   clear c8
   generalize Ae:((A7++[Go.bits .or .i64 (wrap64 ((Al)*128)) (wrap64 (Go.bits .and .u8 (rd l0 A1) 127))]):List Int)=B0 at H
   have Am:=am Ae.symm
   clear Ae
   have H':=am H
   clear H
   have A5:0≤(A1:Int):=oda
   have A6:A1<(l0.length:Int):=oda
   obtain ⟨Ad,A9,A2⟩:=Kd.at_int Af.o A1 A5 A6
   cases A9
   replace A2:=(HB.o.cell (kW w _ A2)).trans A2
   replace A5:=eq_true A5
   replace A6:=eq_true A6
   go_wp2_with (first|((with_reducible refine bM (b:=.append) (xs:=#[.tmp 27,.tmp 29]) rfl ?_);at_builtin;refine Kd.R_append (Kd.int .i64) (w0:=w) w.heap.size rfl (.tmp 27) (.tmp 29) 41 3 (.int .i64 0) 8 rfl Try.underlying41 jM rfl (by decide) (by omega) u4 A7 (Go.bits .or .i64 (wrap64 ((Al)*128)) (wrap64 (Go.bits .and .u8 (rd l0 A1) 127))) [.int .i64 (Go.bits .or .i64 (wrap64 ((Al)*128)) (wrap64 (Go.bits .and .u8 (rd l0 A1) 127)))] (fun _=>True) (fun _=>False) rfl rfl ?aP (fun _ hk=>hk.elim) ?aF ?aO ?aB ?aS ?aL ?_;(case aP=>exact rfl);(case aB=>exact (bq HB.o));(case aF=>exact (fun _ _=>trivial));(case aO=>exact (kqR A3.o));(case aS=>exact (aH (bq HB.o)));(case aL=>have:=Az.o;omega);intro Bq w9 ho hb hg hat;rw [← Am.o] at ho;have n_:=ak2 hb ho;clear HB A3;obtain ⟨HB,An⟩:=n_;clear ho hb hg hat))
   go_roundg k1
   case measure=>have:=Ao.o;omega
   case rel=>exact ⟨(B0),(0),(wrap64 (A1+1)),sq,sq,H',⟨by have:=Ao.o;omega⟩,⟨kqR An.o⟩,⟨bq HB.o⟩⟩
def eW.f (k:Nat) (l0:List Int) (a1:Int):Option (Int × Int × ByteArray × List Int × Int × Bool):=(bE.f k l0 a1).bind fun A0=>(if A0.2.2.2=true then (if A0.1=2 then ((dO.f k A0.2.1).bind fun A1=>(if A1.2=true then ((cT.f k A0.1 A1.1 (⟨#[]⟩:ByteArray) ([]:List Int)).bind fun A3=>(if A3=true then (some (A0.1,A1.1,(⟨#[]⟩:ByteArray),([]:List Int),A0.2.2.1,true)) else (some (0,0,(⟨#[]⟩:ByteArray),([]:List Int),0,false)))) else (some (0,0,(⟨#[]⟩:ByteArray),([]:List Int),0,false)))) else (if A0.1=4 then ((cT.f k A0.1 0 (strOfNums A0.2.1) ([]:List Int)).bind fun A4=>(if A4=true then (some (A0.1,0,strOfNums A0.2.1,([]:List Int),A0.2.2.1,true)) else (some (0,0,(⟨#[]⟩:ByteArray),([]:List Int),0,false)))) else (if A0.1=6 then ((cS.f k A0.2.1).bind fun A2=>(if A2.2=true then ((cT.f k A0.1 0 (⟨#[]⟩:ByteArray) A2.1).bind fun A5=>(if A5=true then (some (A0.1,0,(⟨#[]⟩:ByteArray),A2.1,A0.2.2.1,true)) else (some (0,0,(⟨#[]⟩:ByteArray),([]:List Int),0,false)))) else (some (0,0,(⟨#[]⟩:ByteArray),([]:List Int),0,false)))) else (if ((A0.2.1.length:Int)=0) then ((cT.f k A0.1 0 (⟨#[]⟩:ByteArray) ([]:List Int)).bind fun A6=>(if A6=true then (some (A0.1,0,(⟨#[]⟩:ByteArray),([]:List Int),A0.2.2.1,true)) else (some (0,0,(⟨#[]⟩:ByteArray),([]:List Int),0,false)))) else (some (0,0,(⟨#[]⟩:ByteArray),([]:List Int),0,false)))))) else (some (0,0,(⟨#[]⟩:ByteArray),([]:List Int),0,false)))
theorem eW.calls (k:Nat) (A0:Option Addr) (c0:Nat) (l0:List Int) (a1:Int) (r1:Int) (r2:Int) (r3:ByteArray) (r4:List Int) (r5:Int) (r6:Bool) (w:World) (Bo:Kd.C (Kd.int .u8) w A0 l0.length l0) (Bp:l0.length≤c0) (h:eW.f k l0 a1=some (r1,r2,r3,r4,r5,r6)):
 Calls Try.prog 59 #[.slice A0 l0.length c0,.int .i64 a1] w fun e w'=>∃Bq:Value,e=.returned (.tuple #[.agg #[.int .i64 r1,.int .i64 r2,.string r3,Bq],.int .i64 r5,.bool r6])∧Kd.R (Kd.int .i64) 3 w' w.heap.size (fun _=>True) Bq r4∧Below w.heap.size w w':=by
 have By:=Try.underlying43
 have Br:=am Bo
 have Bs:=am Bp
 clear Bo Bp
 have HB:=am (Below.refl w.heap.size w)
 have H:=h
 clear h
 unfold eW.f at H
 replace H:=be H
 obtain ⟨⟨A6,Av,B3,B8⟩,Bt,H⟩:=H
 try dsimp only at H
 cases B8
 replace H:=iF H
 have z0:=trivial
 rotate_left
 replace H:=iT H
 replace H:=iq H
 rcases H with ⟨-,Bi,Bj,H⟩|⟨c5,Bi,Bj,H⟩
 replace H:=be H
 obtain ⟨⟨Aw,B9⟩,Bu,H⟩:=H
 try dsimp only at H
 cases B9
 replace H:=iF H
 have z1:=trivial
 rotate_left
 replace H:=iT H
 replace H:=be H
 obtain ⟨Ax,B2,H⟩:=H
 cases Ax
 replace H:=iF H
 have z2:=trivial
 rotate_left
 replace H:=iT H
 have z3:=trivial
 rotate_right
 rotate_right
 rotate_left 3
 replace H:=iq H
 rcases H with ⟨-,Ba,Bb,H⟩|⟨Bz,Ba,Bb,H⟩
 replace H:=be H
 obtain ⟨Ax,B2,H⟩:=H
 cases Ax
 replace H:=iF H
 have z4:=trivial
 rotate_left
 replace H:=iT H
 have z5:=trivial
 rotate_right
 rotate_left 2
 replace H:=iq' H
 rcases H with ⟨C0,Bc,Bd,H⟩|⟨-,Bc,Bd,H⟩
 replace H:=iq' H
 rcases H with ⟨Bk,B4,B5,H⟩|⟨-,B4,B5,H⟩
 have Bl:¬(Av=[]):=fun h_=>Bk (by rw [h_];rfl)
 have z6:=trivial
 rotate_left
 replace H:=be H
 obtain ⟨Ax,B2,H⟩:=H
 cases Ax
 replace H:=iF H
 have z7:=trivial
 rotate_left
 replace H:=iT H
 have z8:=trivial
 rotate_right
 rotate_right
 rotate_left 3
 replace H:=be H
 obtain ⟨⟨At,Be⟩,Bv,H⟩:=H
 try dsimp only at H
 cases Be
 replace H:=iF H
 have z9:=trivial
 rotate_left
 replace H:=iT H
 replace H:=be H
 obtain ⟨Ax,B2,H⟩:=H
 cases Ax
 replace H:=iF H
 have Bf:=trivial
 rotate_left
 replace H:=iT H
 have Bg:=trivial
 rotate_right
 rotate_right
 rotate_right 3
 rotate_right 2
 rotate_right 3
 rotate_right
 all_goals
  simp only [k4,k5] at H
  obtain ⟨rfl,rfl,rfl,rfl,rfl,rfl⟩:=H
  go_enter Try.func59,Try.ntmps59
  go_wp2_with (first|((with_reducible refine aJ (N:=4) rfl ?_);refine bxe 4 #[.int .i64 0,.int .i64 0,.string (⟨#[]⟩:ByteArray),.slice none 0 0] 43 ?_;intro A7 hg w_ hbox hb;have n_:=ak4 (aC (bq HB.o) hb) hbox (bz hg (bq HB.o)) (bz hg (bq HB.o));clear HB;obtain ⟨HB,A1,Bw,A5⟩:=n_;clear hb hbox hg)|((with_reducible refine aE (f:=26) rfl ?_);have:=z0;refine gc (some 15) (bE.calls k _ _ l0 a1 A6 Av B3 false _ (cq (Kd.C_below Br.o HB.o)) Bs.o Bt.o) Try.func26 ?_;rintro e w_ ⟨Bm,rfl,ho_,hb⟩;refine ⟨_,rfl,?_⟩;have n_:=ak3 (rl ho_ (bq1 HB.o A5.o)) (kb A1 hb) (aC (bq1 HB.o A5.o) hb);clear A1 HB;obtain ⟨A3,A1,HB⟩:=n_;(try clear hb ho_);obtain ⟨Ay,Az,B0⟩:=Kd.R_slice A3.o;subst B0)|((with_reducible refine aE (f:=26) rfl ?_);(first|have:=z1|have:=z2|have:=z3|have:=z4|have:=z5|have:=z6|have:=z7|have:=z8|have:=z9|have:=Bf|have:=Bg);refine gc (some 15) (bE.calls k _ _ l0 a1 A6 Av B3 true _ (cq (Kd.C_below Br.o HB.o)) Bs.o Bt.o) Try.func26 ?_;rintro e w_ ⟨Bm,rfl,ho_,hb⟩;refine ⟨_,rfl,?_⟩;have n_:=ak3 (rl ho_ (bq1 HB.o A5.o)) (kb A1 hb) (aC (bq1 HB.o A5.o) hb);clear A1 HB;obtain ⟨A3,A1,HB⟩:=n_;(try clear hb ho_);obtain ⟨Ay,Az,B0⟩:=Kd.R_slice A3.o;subst B0)|((with_reducible refine aJ (N:=11) rfl ?_);refine bxe 11 #[.int .i64 0,.int .i64 0,.string (⟨#[]⟩:ByteArray),.slice none 0 0] 43 ?_;intro Ai hg w_ hbox hb;have n_:=ak8 (rb A3 hb) (kb A1 hb) (aC (bq1 HB.o A5.o) hb) hbox (bz hg (bq1 HB.o A5.o)) (bz hg (bq1 HB.o A5.o)) (nL hg A1) (nG hg A1);clear A3 A1 HB;obtain ⟨A3,A1,HB,A2,Bx,A8,A9,A4⟩:=n_;clear hb hbox hg;have B6:=A4.o;have B7:=A9.o;obtain ⟨Al,Am,An,Ao,Ap,Aq,Ar,As⟩:=cl4 A2.o)|((with_reducible refine aQ (t:=43) (p:=11) rfl ?_);refine se 43 11 (s4 w_ Ai (.int .i64 A6) (.int .i64 0) (.string (⟨#[]⟩:ByteArray)) (.slice none 0 0)) ?_;intro w_ hw;have n_:=ak4 (sr4 hw A3 A2) (sf4 hw A1 A9) (sc4 hw A2) (sb hw (bq2 HB.o A5.o A8.o));clear hw A3 A1 A2 HB;obtain ⟨A3,A1,A2,HB⟩:=n_;obtain ⟨Aa,Ab,Ac,Ad,Ae,Af,Ag,Ah⟩:=cl4 A1.o;have Bh:=fA (P:=Try.prog) Try.underlying22 Try.underlying5 Try.underlying9 (Kd.own_of_R A3.o);obtain ⟨Al,Am,An,Ao,Ap,Aq,Ar,As⟩:=cl4 A2.o)|((with_reducible refine aQ (t:=43) (p:=4) rfl ?_);have:=z9;refine se 43 4 (((((w_.setCell ⟨Ai,3,none⟩ (.slice Au At.length Aj)).setCell ⟨A7,0,none⟩ (.int .i64 0)).setCell ⟨A7,1,none⟩ (.int .i64 0)).setCell ⟨A7,2,none⟩ (.string (⟨#[]⟩:ByteArray))).setCell ⟨A7,3,none⟩ (.slice none 0 0)) ?_;intro w_ hw;have n_:Aside0 (Kd.R (Kd.int .u8) 5 w_ w.heap.size (fun _=>True) (.slice Ay Av.length Az) Av)∧Aside0 (Kd.R (Kd.int .i64) 3 w_ w.heap.size (fun _=>True) (.slice Au At.length Aj) At)∧Aside0 (w_.heap[A7]? =some (.cells #[.int .i64 0,.int .i64 0,.string (⟨#[]⟩:ByteArray),.slice none 0 0] 43 (0,0)))∧Aside0 (w_.heap[Ai]? =some (.cells #[.int .i64 A6,.int .i64 0,.string (⟨#[]⟩:ByteArray),.slice Au At.length Aj] 43 (0,0)))∧Aside0 (Below w.heap.size w w_):=⟨⟨(by rw [hw];exact (by refine kr ?_;exact Kd.R_mono (rf4 A7 (.int .i64 0) (.int .i64 0) (.string (⟨#[]⟩:ByteArray)) (.slice none 0 0) (Kd.R_far (p:=⟨Ai,3,none⟩) (Kd.R_types (Kd.R_types A3.o A2.o (by decide)) A1.o (by decide)) (fun _ hk=>hk.1.2) (.slice Au At.length Aj)) (fun _ hk=>hk.2)) (fun _ hk=>trivial)))⟩,⟨(by rw [hw];exact (by refine kr ?_;exact Kd.R_mono (rf4 A7 (.int .i64 0) (.int .i64 0) (.string (⟨#[]⟩:ByteArray)) (.slice none 0 0) (Kd.R_far (p:=⟨Ai,3,none⟩) (Kd.R_types (Kd.R_types Ak.o A2.o (by decide)) A1.o (by decide)) (fun _ hk=>hk.1.2) (.slice Au At.length Aj)) (fun _ hk=>hk.2)) (fun _ hk=>trivial)))⟩,⟨(by rw [hw];exact (by refine zr ?_;refine aV (cs:=#[.int .i64 0,.int .i64 0,.string (⟨#[]⟩:ByteArray),.slice none 0 0]) ?_ 3 _ rfl;refine zr ?_;refine aV (cs:=#[.int .i64 0,.int .i64 0,.string (⟨#[]⟩:ByteArray),.slice none 0 0]) ?_ 2 _ rfl;refine zr ?_;refine aV (cs:=#[.int .i64 0,.int .i64 0,.string (⟨#[]⟩:ByteArray),.slice none 0 0]) ?_ 1 _ rfl;refine zr ?_;refine aV (cs:=#[.int .i64 0,.int .i64 0,.string (⟨#[]⟩:ByteArray),.slice none 0 0]) ?_ 0 _ rfl;refine zr ?_;refine aN ?_ A9.o _;refine zr ?_;exact A1.o))⟩,⟨(by rw [hw];exact (by refine zr ?_;refine aN ?_ A4.o _;refine zr ?_;refine aN ?_ A4.o _;refine zr ?_;refine aN ?_ A4.o _;refine zr ?_;refine aN ?_ A4.o _;refine zr ?_;refine aV (cs:=#[.int .i64 A6,.int .i64 0,.string (⟨#[]⟩:ByteArray),.slice none 0 0]) ?_ 3 _ rfl;refine zr ?_;exact A2.o))⟩,⟨(by rw [hw];exact (bq2 HB.o A5.o A8.o))⟩⟩;clear hw A3 Ak A1 A2 HB;obtain ⟨A3,Ak,A1,A2,HB⟩:=n_)|((with_reducible refine aQ (t:=43) (p:=4) rfl ?_);have:=z1;refine se 43 4 (((((w_.setCell ⟨Ai,1,none⟩ (.int .i64 Aw)).setCell ⟨A7,0,none⟩ (.int .i64 0)).setCell ⟨A7,1,none⟩ (.int .i64 0)).setCell ⟨A7,2,none⟩ (.string (⟨#[]⟩:ByteArray))).setCell ⟨A7,3,none⟩ (.slice none 0 0)) ?_;intro w_ hw;have n_:Aside0 (Kd.R (Kd.int .u8) 5 w_ w.heap.size (fun _=>True) (.slice Ay Av.length Az) Av)∧Aside0 (w_.heap[A7]? =some (.cells #[.int .i64 0,.int .i64 0,.string (⟨#[]⟩:ByteArray),.slice none 0 0] 43 (0,0)))∧Aside0 (w_.heap[Ai]? =some (.cells #[.int .i64 A6,.int .i64 Aw,.string (⟨#[]⟩:ByteArray),.slice none 0 0] 43 (0,0)))∧Aside0 (Below w.heap.size w w_):=⟨⟨(by rw [hw];exact (by refine kr ?_;exact Kd.R_mono (rf4 A7 (.int .i64 0) (.int .i64 0) (.string (⟨#[]⟩:ByteArray)) (.slice none 0 0) (Kd.R_far (p:=⟨Ai,1,none⟩) (Kd.R_types (Kd.R_types A3.o A2.o (by decide)) A1.o (by decide)) (fun _ hk=>hk.1.2) (.int .i64 Aw)) (fun _ hk=>hk.2)) (fun _ hk=>trivial)))⟩,⟨(by rw [hw];exact (by refine zr ?_;refine aV (cs:=#[.int .i64 0,.int .i64 0,.string (⟨#[]⟩:ByteArray),.slice none 0 0]) ?_ 3 _ rfl;refine zr ?_;refine aV (cs:=#[.int .i64 0,.int .i64 0,.string (⟨#[]⟩:ByteArray),.slice none 0 0]) ?_ 2 _ rfl;refine zr ?_;refine aV (cs:=#[.int .i64 0,.int .i64 0,.string (⟨#[]⟩:ByteArray),.slice none 0 0]) ?_ 1 _ rfl;refine zr ?_;refine aV (cs:=#[.int .i64 0,.int .i64 0,.string (⟨#[]⟩:ByteArray),.slice none 0 0]) ?_ 0 _ rfl;refine zr ?_;refine aN ?_ A9.o _;refine zr ?_;exact A1.o))⟩,⟨(by rw [hw];exact (by refine zr ?_;refine aN ?_ A4.o _;refine zr ?_;refine aN ?_ A4.o _;refine zr ?_;refine aN ?_ A4.o _;refine zr ?_;refine aN ?_ A4.o _;refine zr ?_;refine aV (cs:=#[.int .i64 A6,.int .i64 0,.string (⟨#[]⟩:ByteArray),.slice none 0 0]) ?_ 1 _ rfl;refine zr ?_;exact A2.o))⟩,⟨(by rw [hw];exact (bq2 HB.o A5.o A8.o))⟩⟩;clear hw A3 A1 A2 HB;obtain ⟨A3,A1,A2,HB⟩:=n_)|((with_reducible refine aQ (t:=43) (p:=4) rfl ?_);have:=Bg;refine se 43 4 (s4 w_ A7 (.int .i64 A6) (.int .i64 0) (.string (⟨#[]⟩:ByteArray)) (.slice Au At.length Aj)) ?_;intro w_ hw;have n_:=ak5 (sr4 hw A3 A1) (sr4 hw Ak A1) (sc4 hw A1) (sf4 hw A2 A4) (sb hw (bq2 HB.o A5.o A8.o));clear hw A3 Ak A1 A2 HB;obtain ⟨A3,Ak,A1,A2,HB⟩:=n_)|((with_reducible refine aQ (t:=43) (p:=4) rfl ?_);have:=Bf;refine se 43 4 (s4 w_ A7 (.int .i64 0) (.int .i64 0) (.string (⟨#[]⟩:ByteArray)) (.slice none 0 0)) ?_;intro w_ hw;have n_:=ak5 (sr4 hw A3 A1) (sr4 hw Ak A1) (sc4 hw A1) (sf4 hw A2 A4) (sb hw (bq2 HB.o A5.o A8.o));clear hw A3 Ak A1 A2 HB;obtain ⟨A3,Ak,A1,A2,HB⟩:=n_)|((with_reducible refine aQ (t:=43) (p:=4) rfl ?_);have:=z3;refine se 43 4 (s4 w_ A7 (.int .i64 A6) (.int .i64 Aw) (.string (⟨#[]⟩:ByteArray)) (.slice none 0 0)) ?_;intro w_ hw;have n_:=ak4 (sr4 hw A3 A1) (sc4 hw A1) (sf4 hw A2 A4) (sb hw (bq2 HB.o A5.o A8.o));clear hw A3 A1 A2 HB;obtain ⟨A3,A1,A2,HB⟩:=n_)|((with_reducible refine aQ (t:=43) (p:=4) rfl ?_);have:=z8;refine se 43 4 (s4 w_ A7 (.int .i64 A6) (.int .i64 0) (.string (⟨#[]⟩:ByteArray)) (.slice none 0 0)) ?_;intro w_ hw;have n_:=ak4 (sr4 hw A3 A1) (sc4 hw A1) (sf4 hw A2 A4) (sb hw (bq2 HB.o A5.o A8.o));clear hw A3 A1 A2 HB;obtain ⟨A3,A1,A2,HB⟩:=n_)|((with_reducible refine aQ (t:=43) (p:=4) rfl ?_);have:=z5;refine se 43 4 (s4 w_ A7 (.int .i64 A6) (.int .i64 0) (.string (strOfNums Av)) (.slice none 0 0)) ?_;intro w_ hw;have n_:=ak4 (sr4 hw A3 A1) (sc4 hw A1) (sf4 hw A2 A4) (sb hw (bq2 HB.o A5.o A8.o));clear hw A3 A1 A2 HB;obtain ⟨A3,A1,A2,HB⟩:=n_)|((with_reducible refine aQ (t:=43) (p:=4) rfl ?_);(first|have:=z0|have:=z2|have:=z4|have:=z6|have:=z7);refine se 43 4 (s4 w_ A7 (.int .i64 0) (.int .i64 0) (.string (⟨#[]⟩:ByteArray)) (.slice none 0 0)) ?_;intro w_ hw;have n_:=ak4 (sr4 hw A3 A1) (sc4 hw A1) (sf4 hw A2 A4) (sb hw (bq2 HB.o A5.o A8.o));clear hw A3 A1 A2 HB;obtain ⟨A3,A1,A2,HB⟩:=n_)|((with_reducible refine aE (f:=57) rfl ?_);have:=z1;refine gc (some 33) (dO.calls k _ _ Av Aw false _ (cq (Kd.R_reads' A3.o).2.2) ((Kd.R_reads' A3.o).2.1) Bu.o) Try.func57 ?_;rintro e w_ ⟨rfl,hb⟩;refine ⟨_,rfl,?_⟩;have n_:=ak4 (rb A3 hb) (kb A1 hb) (kb A2 hb) (aC (bq2 HB.o A5.o A8.o) hb);clear A3 A1 A2 HB;obtain ⟨A3,A1,A2,HB⟩:=n_;(try clear hb);obtain ⟨Al,Am,An,Ao,Ap,Aq,Ar,As⟩:=cl4 A2.o;obtain ⟨Aa,Ab,Ac,Ad,Ae,Af,Ag,Ah⟩:=cl4 A1.o)|((with_reducible refine aE (f:=57) rfl ?_);(first|have:=z2|have:=z3);refine gc (some 33) (dO.calls k _ _ Av Aw true _ (cq (Kd.R_reads' A3.o).2.2) ((Kd.R_reads' A3.o).2.1) Bu.o) Try.func57 ?_;rintro e w_ ⟨rfl,hb⟩;refine ⟨_,rfl,?_⟩;have n_:=ak4 (rb A3 hb) (kb A1 hb) (kb A2 hb) (aC (bq2 HB.o A5.o A8.o) hb);clear A3 A1 A2 HB;obtain ⟨A3,A1,A2,HB⟩:=n_;(try clear hb);obtain ⟨Al,Am,An,Ao,Ap,Aq,Ar,As⟩:=cl4 A2.o)|(go_at_call 38;have:=Bg;refine cm (cT.calls k A6 0 (⟨#[]⟩:ByteArray) _ _ At true _ (by refine (Kd.R_reads' (e:=3) (base:=w.heap.size) (ok:=fun k_=>True) (n:=At.length) (c:=Aj) ?_).2.2;exact (by refine kr ?_;exact (Kd.R_mono (Kd.R_far (p:=⟨Ai,3,none⟩) (Kd.R_types Ak.o A2.o (by decide)) (fun _ hk=>hk.2) (.slice Au At.length Aj)) (fun _ h_=>h_.1)))) ((Kd.R_reads' Ak.o).2.1) B2.o) ?_;rintro e w_ ⟨rfl,hb⟩;have n_:=ak5 (Kd.R_below (by refine kr ?_;exact (Kd.R_mono (Kd.R_far (p:=⟨Ai,3,none⟩) (Kd.R_types A3.o A2.o (by decide)) (fun _ hk=>hk.2) (.slice Au At.length Aj)) (fun _ h_=>h_.1))) hb) (Kd.R_below (by refine kr ?_;exact (Kd.R_mono (Kd.R_far (p:=⟨Ai,3,none⟩) (Kd.R_types Ak.o A2.o (by decide)) (fun _ hk=>hk.2) (.slice Au At.length Aj)) (fun _ h_=>h_.1))) hb) (b9 (g:=A7) (o:=.cells #[.int .i64 0,.int .i64 0,.string (⟨#[]⟩:ByteArray),.slice none 0 0] 43 (0,0)) (by refine zr ?_;refine aN ?_ A9.o _;refine zr ?_;exact A1.o) hb) (b9 (g:=Ai) (o:=.cells #[.int .i64 A6,.int .i64 0,.string (⟨#[]⟩:ByteArray),.slice Au At.length Aj] 43 (0,0)) (by refine zr ?_;refine aV (cs:=#[.int .i64 A6,.int .i64 0,.string (⟨#[]⟩:ByteArray),.slice none 0 0]) ?_ 3 _ rfl;refine zr ?_;exact A2.o) hb) (aC (bq2 HB.o A5.o A8.o) hb);clear A3 Ak A1 A2 HB;obtain ⟨A3,Ak,A1,A2,HB⟩:=n_;(try clear hb);obtain ⟨Al,Am,An,Ao,Ap,Aq,Ar,As⟩:=cl4 A2.o;obtain ⟨Aa,Ab,Ac,Ad,Ae,Af,Ag,Ah⟩:=cl4 A1.o)|(go_at_call 38;have:=Bf;refine cm (cT.calls k A6 0 (⟨#[]⟩:ByteArray) _ _ At false _ (by refine (Kd.R_reads' (e:=3) (base:=w.heap.size) (ok:=fun k_=>True) (n:=At.length) (c:=Aj) ?_).2.2;exact (by refine kr ?_;exact (Kd.R_mono (Kd.R_far (p:=⟨Ai,3,none⟩) (Kd.R_types Ak.o A2.o (by decide)) (fun _ hk=>hk.2) (.slice Au At.length Aj)) (fun _ h_=>h_.1)))) ((Kd.R_reads' Ak.o).2.1) B2.o) ?_;rintro e w_ ⟨rfl,hb⟩;have n_:=ak5 (Kd.R_below (by refine kr ?_;exact (Kd.R_mono (Kd.R_far (p:=⟨Ai,3,none⟩) (Kd.R_types A3.o A2.o (by decide)) (fun _ hk=>hk.2) (.slice Au At.length Aj)) (fun _ h_=>h_.1))) hb) (Kd.R_below (by refine kr ?_;exact (Kd.R_mono (Kd.R_far (p:=⟨Ai,3,none⟩) (Kd.R_types Ak.o A2.o (by decide)) (fun _ hk=>hk.2) (.slice Au At.length Aj)) (fun _ h_=>h_.1))) hb) (b9 (g:=A7) (o:=.cells #[.int .i64 0,.int .i64 0,.string (⟨#[]⟩:ByteArray),.slice none 0 0] 43 (0,0)) (by refine zr ?_;refine aN ?_ A9.o _;refine zr ?_;exact A1.o) hb) (b9 (g:=Ai) (o:=.cells #[.int .i64 A6,.int .i64 0,.string (⟨#[]⟩:ByteArray),.slice Au At.length Aj] 43 (0,0)) (by refine zr ?_;refine aV (cs:=#[.int .i64 A6,.int .i64 0,.string (⟨#[]⟩:ByteArray),.slice none 0 0]) ?_ 3 _ rfl;refine zr ?_;exact A2.o) hb) (aC (bq2 HB.o A5.o A8.o) hb);clear A3 Ak A1 A2 HB;obtain ⟨A3,Ak,A1,A2,HB⟩:=n_;(try clear hb);obtain ⟨Aa,Ab,Ac,Ad,Ae,Af,Ag,Ah⟩:=cl4 A1.o)|(go_at_call 38;have:=z3;refine cm (cT.calls k A6 Aw (⟨#[]⟩:ByteArray) _ _ ([]:List Int) true _ (Kd.C_nil _ _) (k7 _) B2.o) ?_;rintro e w_ ⟨rfl,hb⟩;have n_:=ak4 (Kd.R_below (by refine kr ?_;exact (Kd.R_mono (Kd.R_far (p:=⟨Ai,1,none⟩) (Kd.R_types A3.o A2.o (by decide)) (fun _ hk=>hk.2) (.int .i64 Aw)) (fun _ h_=>h_.1))) hb) (b9 (g:=A7) (o:=.cells #[.int .i64 0,.int .i64 0,.string (⟨#[]⟩:ByteArray),.slice none 0 0] 43 (0,0)) (by refine zr ?_;refine aN ?_ A9.o _;refine zr ?_;exact A1.o) hb) (b9 (g:=Ai) (o:=.cells #[.int .i64 A6,.int .i64 Aw,.string (⟨#[]⟩:ByteArray),.slice none 0 0] 43 (0,0)) (by refine zr ?_;refine aV (cs:=#[.int .i64 A6,.int .i64 0,.string (⟨#[]⟩:ByteArray),.slice none 0 0]) ?_ 1 _ rfl;refine zr ?_;exact A2.o) hb) (aC (bq2 HB.o A5.o A8.o) hb);clear A3 A1 A2 HB;obtain ⟨A3,A1,A2,HB⟩:=n_;(try clear hb);obtain ⟨Al,Am,An,Ao,Ap,Aq,Ar,As⟩:=cl4 A2.o;obtain ⟨Aa,Ab,Ac,Ad,Ae,Af,Ag,Ah⟩:=cl4 A1.o)|(go_at_call 38;have:=z5;refine cm (cT.calls k A6 0 (strOfNums Av) _ _ ([]:List Int) true _ (Kd.C_nil _ _) (k7 _) B2.o) ?_;rintro e w_ ⟨rfl,hb⟩;have n_:=ak4 (Kd.R_below (by refine kr ?_;exact (Kd.R_mono (Kd.R_far (p:=⟨Ai,2,none⟩) (Kd.R_types A3.o A2.o (by decide)) (fun _ hk=>hk.2) (.string (strOfNums Av))) (fun _ h_=>h_.1))) hb) (b9 (g:=A7) (o:=.cells #[.int .i64 0,.int .i64 0,.string (⟨#[]⟩:ByteArray),.slice none 0 0] 43 (0,0)) (by refine zr ?_;refine aN ?_ A9.o _;refine zr ?_;exact A1.o) hb) (b9 (g:=Ai) (o:=.cells #[.int .i64 A6,.int .i64 0,.string (strOfNums Av),.slice none 0 0] 43 (0,0)) (by refine zr ?_;refine aV (cs:=#[.int .i64 A6,.int .i64 0,.string (⟨#[]⟩:ByteArray),.slice none 0 0]) ?_ 2 _ rfl;refine zr ?_;exact A2.o) hb) (aC (bq2 HB.o A5.o A8.o) hb);clear A3 A1 A2 HB;obtain ⟨A3,A1,A2,HB⟩:=n_;(try clear hb);obtain ⟨Al,Am,An,Ao,Ap,Aq,Ar,As⟩:=cl4 A2.o;obtain ⟨Aa,Ab,Ac,Ad,Ae,Af,Ag,Ah⟩:=cl4 A1.o)|(go_at_call 38;have:=z2;refine cm (cT.calls k A6 Aw (⟨#[]⟩:ByteArray) _ _ ([]:List Int) false _ (Kd.C_nil _ _) (k7 _) B2.o) ?_;rintro e w_ ⟨rfl,hb⟩;have n_:=ak4 (Kd.R_below (by refine kr ?_;exact (Kd.R_mono (Kd.R_far (p:=⟨Ai,1,none⟩) (Kd.R_types A3.o A2.o (by decide)) (fun _ hk=>hk.2) (.int .i64 Aw)) (fun _ h_=>h_.1))) hb) (b9 (g:=A7) (o:=.cells #[.int .i64 0,.int .i64 0,.string (⟨#[]⟩:ByteArray),.slice none 0 0] 43 (0,0)) (by refine zr ?_;refine aN ?_ A9.o _;refine zr ?_;exact A1.o) hb) (b9 (g:=Ai) (o:=.cells #[.int .i64 A6,.int .i64 Aw,.string (⟨#[]⟩:ByteArray),.slice none 0 0] 43 (0,0)) (by refine zr ?_;refine aV (cs:=#[.int .i64 A6,.int .i64 0,.string (⟨#[]⟩:ByteArray),.slice none 0 0]) ?_ 1 _ rfl;refine zr ?_;exact A2.o) hb) (aC (bq2 HB.o A5.o A8.o) hb);clear A3 A1 A2 HB;obtain ⟨A3,A1,A2,HB⟩:=n_;(try clear hb);obtain ⟨Aa,Ab,Ac,Ad,Ae,Af,Ag,Ah⟩:=cl4 A1.o)|(go_at_call 38;have:=z4;refine cm (cT.calls k A6 0 (strOfNums Av) _ _ ([]:List Int) false _ (Kd.C_nil _ _) (k7 _) B2.o) ?_;rintro e w_ ⟨rfl,hb⟩;have n_:=ak4 (Kd.R_below (by refine kr ?_;exact (Kd.R_mono (Kd.R_far (p:=⟨Ai,2,none⟩) (Kd.R_types A3.o A2.o (by decide)) (fun _ hk=>hk.2) (.string (strOfNums Av))) (fun _ h_=>h_.1))) hb) (b9 (g:=A7) (o:=.cells #[.int .i64 0,.int .i64 0,.string (⟨#[]⟩:ByteArray),.slice none 0 0] 43 (0,0)) (by refine zr ?_;refine aN ?_ A9.o _;refine zr ?_;exact A1.o) hb) (b9 (g:=Ai) (o:=.cells #[.int .i64 A6,.int .i64 0,.string (strOfNums Av),.slice none 0 0] 43 (0,0)) (by refine zr ?_;refine aV (cs:=#[.int .i64 A6,.int .i64 0,.string (⟨#[]⟩:ByteArray),.slice none 0 0]) ?_ 2 _ rfl;refine zr ?_;exact A2.o) hb) (aC (bq2 HB.o A5.o A8.o) hb);clear A3 A1 A2 HB;obtain ⟨A3,A1,A2,HB⟩:=n_;(try clear hb);obtain ⟨Aa,Ab,Ac,Ad,Ae,Af,Ag,Ah⟩:=cl4 A1.o)|(go_at_call 38;have:=z8;refine cm (cT.calls k A6 0 (⟨#[]⟩:ByteArray) _ _ ([]:List Int) true _ (Kd.C_nil _ _) (k7 _) B2.o) ?_;rintro e w_ ⟨rfl,hb⟩;have n_:=ak4 (rb A3 hb) (kb A1 hb) (kb A2 hb) (aC (bq2 HB.o A5.o A8.o) hb);clear A3 A1 A2 HB;obtain ⟨A3,A1,A2,HB⟩:=n_;(try clear hb);obtain ⟨Al,Am,An,Ao,Ap,Aq,Ar,As⟩:=cl4 A2.o;obtain ⟨Aa,Ab,Ac,Ad,Ae,Af,Ag,Ah⟩:=cl4 A1.o)|(go_at_call 38;have:=z7;refine cm (cT.calls k A6 0 (⟨#[]⟩:ByteArray) _ _ ([]:List Int) false _ (Kd.C_nil _ _) (k7 _) B2.o) ?_;rintro e w_ ⟨rfl,hb⟩;have n_:=ak4 (rb A3 hb) (kb A1 hb) (kb A2 hb) (aC (bq2 HB.o A5.o A8.o) hb);clear A3 A1 A2 HB;obtain ⟨A3,A1,A2,HB⟩:=n_;(try clear hb);obtain ⟨Aa,Ab,Ac,Ad,Ae,Af,Ag,Ah⟩:=cl4 A1.o)|((with_reducible refine aE (f:=58) rfl ?_);have:=z9;refine gc (some 46) (cS.calls k _ _ Av At false _ (cq (Kd.R_reads' A3.o).2.2) ((Kd.R_reads' A3.o).2.1) Bv.o) Try.func58 ?_;rintro e w_ ⟨Bn,rfl,ho_,hb⟩;refine ⟨_,rfl,?_⟩;have n_:=ak5 (rb A3 hb) (rl ho_ (bq2 HB.o A5.o A8.o)) (kb A1 hb) (kb A2 hb) (aC (bq2 HB.o A5.o A8.o) hb);clear A3 A1 A2 HB;obtain ⟨A3,Ak,A1,A2,HB⟩:=n_;(try clear hb ho_);obtain ⟨Au,Aj,B1⟩:=Kd.R_slice Ak.o;subst B1;obtain ⟨Al,Am,An,Ao,Ap,Aq,Ar,As⟩:=cl4 A2.o;obtain ⟨Aa,Ab,Ac,Ad,Ae,Af,Ag,Ah⟩:=cl4 A1.o)|((with_reducible refine aE (f:=58) rfl ?_);(first|have:=Bf|have:=Bg);refine gc (some 46) (cS.calls k _ _ Av At true _ (cq (Kd.R_reads' A3.o).2.2) ((Kd.R_reads' A3.o).2.1) Bv.o) Try.func58 ?_;rintro e w_ ⟨Bn,rfl,ho_,hb⟩;refine ⟨_,rfl,?_⟩;have n_:=ak5 (rb A3 hb) (rl ho_ (bq2 HB.o A5.o A8.o)) (kb A1 hb) (kb A2 hb) (aC (bq2 HB.o A5.o A8.o) hb);clear A3 A1 A2 HB;obtain ⟨A3,Ak,A1,A2,HB⟩:=n_;(try clear hb ho_);obtain ⟨Au,Aj,B1⟩:=Kd.R_slice Ak.o;subst B1;obtain ⟨Al,Am,An,Ao,Ap,Aq,Ar,As⟩:=cl4 A2.o))
  first
  | refine bodyPost_ret (fT rfl _ _ A7 43 _ (0,0) _ rfl (zq A1.o) Try.underlying43 rfl (by kernel_rfl)) rfl ?_
    exact ⟨_,rq,kqR Ak.o,bq2 HB.o A5.o A8.o⟩
  | refine bodyPost_ret (fT rfl _ _ A7 43 _ (0,0) _ rfl (zq A1.o) Try.underlying43 rfl (by kernel_rfl)) rfl ?_
    exact ⟨_,rq,rn,bq2 HB.o A5.o A8.o⟩
def eX.f (k:Nat) (l0:List Int):Option (List Int × Int × Int × ByteArray × List Int × Bool):=(bA.f k l0 0 false 6).bind fun A1=>((cS.f k A1.1).bind fun A2=>((eW.f k l0 A1.2.1).bind fun A0=>(if A1.2.2=true then (some (([]:List Int),0,0,(⟨#[]⟩:ByteArray),([]:List Int),false)) else (if A2.2=true then (if A0.2.2.2.2.2=true then (if A0.2.2.2.2.1=(l0.length:Int) then (some (A2.1,A0.1,A0.2.1,A0.2.2.1,A0.2.2.2.1,true)) else (some (([]:List Int),0,0,(⟨#[]⟩:ByteArray),([]:List Int),false))) else (some (([]:List Int),0,0,(⟨#[]⟩:ByteArray),([]:List Int),false))) else (some (([]:List Int),0,0,(⟨#[]⟩:ByteArray),([]:List Int),false))))))
theorem eX.calls (k:Nat) (A0:Option Addr) (c0:Nat) (l0:List Int) (r1:List Int) (r2:Int) (r3:Int) (r4:ByteArray) (r5:List Int) (r6:Bool) (w:World) (Ew:Kd.C (Kd.int .u8) w A0 l0.length l0) (Ex:l0.length≤c0) (h:eX.f k l0=some (r1,r2,r3,r4,r5,r6)):
 Calls Try.prog 30 #[.slice A0 l0.length c0] w fun e w'=>∃Es Et:Value,e=.returned (.tuple #[.agg #[Es,.int .i64 r2,.int .i64 r3,.string r4,Et],.bool r6])∧Kd.R (Kd.int .i64) 3 w' w.heap.size (fun k_=>some k_≠(Et:Value).ownBlock) Es r1∧Kd.R (Kd.int .i64) 3 w' w.heap.size (fun k_=>some k_≠(Es:Value).ownBlock) Et r5∧Below w.heap.size w w':=by
 have G1:=Try.underlying45
 have G2:=Try.underlying57
 have G3:=Try.underlying43
 have Ci:=am Ew
 have Cj:=am Ex
 clear Ew Ex
 have HB:=am (Below.refl w.heap.size w)
 have H:=h
 clear h
 unfold eX.f at H
 replace H:=be H
 obtain ⟨⟨B4,An,C1⟩,Ey,H⟩:=H
 try dsimp only at H
 replace H:=be H
 obtain ⟨⟨Ad,Bw⟩,C2,H⟩:=H
 try dsimp only at H
 replace H:=be H
 obtain ⟨⟨Ag,Ah,Ai,Ab,Bu,Bx⟩,Eu,H⟩:=H
 try dsimp only at H
 rcases bt C1 with rfl|rfl
 replace H:=iT H
 have z0:=trivial
 rotate_left
 replace H:=iF H
 cases Bw
 replace H:=iF H
 have z1:=trivial
 rotate_left
 replace H:=iT H
 cases Bx
 replace H:=iF H
 have z2:=trivial
 rotate_left
 replace H:=iT H
 replace H:=iq' H
 rcases H with ⟨G4,C3,C4,H⟩|⟨-,C3,C4,H⟩
 have z3:=trivial
 rotate_left
 have z4:=trivial
 rotate_right
 rotate_right
 rotate_right
 rotate_right
 all_goals
  simp only [k4,k5] at H
  obtain ⟨rfl,rfl,rfl,rfl,rfl,rfl⟩:=H
  go_enter Try.func30,Try.ntmps30
  go_wp2_with (first|((with_reducible refine aJ (N:=2) rfl ?_);(try (refine a9 (by rfl) ?_;dsimp only));refine bxe 2 #[.slice none 0 0,.int .i64 0,.int .i64 0,.string (⟨#[]⟩:ByteArray),.slice none 0 0] 45 ?_;intro Bo hg w_ hbox hb;have n_:=ak4 (aC (bq HB.o) hb) hbox (bz hg (bq HB.o)) (bz hg (bq HB.o));clear HB;obtain ⟨HB,A2,Ez,A7⟩:=n_;clear hb hbox hg)|((with_reducible refine aJ (N:=12) rfl ?_);(try (refine a9 (by rfl) ?_;dsimp only));refine bxe 12 #[.slice A0 l0.length c0,.int .i64 0,.bool false] 57 ?_;intro Al hg w_ hbox hb;have n_:=ak7 (kb A2 hb) (aC (bq1 HB.o A7.o) hb) hbox (bz hg (bq1 HB.o A7.o)) (bz hg (bq1 HB.o A7.o)) (nL hg A2) (nG hg A2);clear A2 HB;obtain ⟨A2,HB,By,G0,C5,Am,A3⟩:=n_;clear hb hbox hg;have A1:=am (show aU (fun _ _=>True) w w_ Al l0 0 false from ⟨_,_,By.o,C5.o,⟨⟨Ci.o,Cj.o⟩,trivial⟩⟩);clear By)|((with_reducible refine aE (f:=28) rfl ?_);(first|have:=z1|have:=z2|have:=z3|have:=z4);refine gc (some 15) (bA.calls (Z:=fun _ _=>True) k Al l0 0 false 6 B4 An false w _ (aU.q1 A1.o A3.o) (bq2 HB.o (aU.ge A1.o) A7.o) Ey.o) Try.func28 ?_;rintro e w_ ⟨Ev,rfl,ho_,hi,hb,hk⟩;refine ⟨_,rfl,?_⟩;have n_:=ak4 (KeepBut.blk hk (zb A2.o) Am.o (by simp)) (rl ho_ (bq2 HB.o (aU.ge A1.o) A7.o)) hb hi;clear A2 HB A1;obtain ⟨A2,A4,HB,A1⟩:=n_;(try clear hb hk hi ho_);obtain ⟨Bz,C0,Bp⟩:=Kd.R_slice A4.o;subst Bp)|((with_reducible refine aE (f:=28) rfl ?_);have:=z0;refine gc (some 15) (bA.calls (Z:=fun _ _=>True) k Al l0 0 false 6 B4 An true w _ (aU.q1 A1.o A3.o) (bq2 HB.o (aU.ge A1.o) A7.o) Ey.o) Try.func28 ?_;rintro e w_ ⟨Ev,rfl,ho_,hi,hb,hk⟩;refine ⟨_,rfl,?_⟩;have n_:=ak4 (KeepBut.blk hk (zb A2.o) Am.o (by simp)) (rl ho_ (bq2 HB.o (aU.ge A1.o) A7.o)) hb hi;clear A2 HB A1;obtain ⟨A2,A4,HB,A1⟩:=n_;(try clear hb hk hi ho_);obtain ⟨Bz,C0,Bp⟩:=Kd.R_slice A4.o;subst Bp)|((with_reducible refine aE (f:=58) rfl ?_);have:=z0;refine gc (some 16) (cS.calls k _ _ B4 Ad Bw _ (cq (Kd.R_reads' A4.o).2.2) ((Kd.R_reads' A4.o).2.1) C2.o) Try.func58 ?_;rintro e w_ ⟨Bv,rfl,ho_,hb⟩;refine ⟨_,rfl,?_⟩;have n_:=ak5 (rb A4 hb) (rl ho_ (bq2 HB.o (aU.ge A1.o) A7.o)) (kb A2 hb) (aU.below (aU.q1 A1.o A3.o) hb) (aC (bq2 HB.o (aU.ge A1.o) A7.o) hb);clear A4 A2 A1 HB;obtain ⟨A4,A5,A2,A1,HB⟩:=n_;(try clear hb ho_);obtain ⟨Ck,Cl,B6,C6,Cm⟩:=A1.o;have Cn:=dV B6;have Co:=dW B6;have Cp:=dX B6;have Cq:=aM B6 1;have Cr:=aM B6 2;clear B6 C6;obtain ⟨Ae,Af,Ap⟩:=Kd.R_slice A5.o;subst Ap)|((with_reducible refine aE (f:=58) rfl ?_);have:=z1;refine gc (some 16) (cS.calls k _ _ B4 Ad false _ (cq (Kd.R_reads' A4.o).2.2) ((Kd.R_reads' A4.o).2.1) C2.o) Try.func58 ?_;rintro e w_ ⟨Bv,rfl,ho_,hb⟩;refine ⟨_,rfl,?_⟩;have n_:=ak5 (rb A4 hb) (rl ho_ (bq2 HB.o (aU.ge A1.o) A7.o)) (kb A2 hb) (aU.below (aU.q1 A1.o A3.o) hb) (aC (bq2 HB.o (aU.ge A1.o) A7.o) hb);clear A4 A2 A1 HB;obtain ⟨A4,A5,A2,A1,HB⟩:=n_;(try clear hb ho_);obtain ⟨Cs,Ct,B7,C7,Cu⟩:=A1.o;have Cv:=dV B7;have Cw:=dW B7;have Cx:=dX B7;have Cy:=aM B7 1;have Cz:=aM B7 2;clear B7 C7;obtain ⟨Ae,Af,Ap⟩:=Kd.R_slice A5.o;subst Ap)|((with_reducible refine aE (f:=58) rfl ?_);have:=z2;refine gc (some 16) (cS.calls k _ _ B4 Ad true _ (cq (Kd.R_reads' A4.o).2.2) ((Kd.R_reads' A4.o).2.1) C2.o) Try.func58 ?_;rintro e w_ ⟨Bv,rfl,ho_,hb⟩;refine ⟨_,rfl,?_⟩;have n_:=ak5 (rb A4 hb) (rl ho_ (bq2 HB.o (aU.ge A1.o) A7.o)) (kb A2 hb) (aU.below (aU.q1 A1.o A3.o) hb) (aC (bq2 HB.o (aU.ge A1.o) A7.o) hb);clear A4 A2 A1 HB;obtain ⟨A4,A5,A2,A1,HB⟩:=n_;(try clear hb ho_);obtain ⟨D0,D1,B8,C8,D2⟩:=A1.o;have D3:=dV B8;have D4:=dW B8;have D5:=dX B8;have D6:=aM B8 1;have D7:=aM B8 2;clear B8 C8;obtain ⟨Ae,Af,Ap⟩:=Kd.R_slice A5.o;subst Ap)|((with_reducible refine aE (f:=58) rfl ?_);have:=z3;refine gc (some 16) (cS.calls k _ _ B4 Ad true _ (cq (Kd.R_reads' A4.o).2.2) ((Kd.R_reads' A4.o).2.1) C2.o) Try.func58 ?_;rintro e w_ ⟨Bv,rfl,ho_,hb⟩;refine ⟨_,rfl,?_⟩;have n_:=ak5 (rb A4 hb) (rl ho_ (bq2 HB.o (aU.ge A1.o) A7.o)) (kb A2 hb) (aU.below (aU.q1 A1.o A3.o) hb) (aC (bq2 HB.o (aU.ge A1.o) A7.o) hb);clear A4 A2 A1 HB;obtain ⟨A4,A5,A2,A1,HB⟩:=n_;(try clear hb ho_);obtain ⟨D8,D9,B9,C9,Da⟩:=A1.o;have Db:=dV B9;have Dc:=dW B9;have Dd:=dX B9;have De:=aM B9 1;have Df:=aM B9 2;clear B9 C9;obtain ⟨Ae,Af,Ap⟩:=Kd.R_slice A5.o;subst Ap)|((with_reducible refine aE (f:=58) rfl ?_);have:=z4;refine gc (some 16) (cS.calls k _ _ B4 Ad true _ (cq (Kd.R_reads' A4.o).2.2) ((Kd.R_reads' A4.o).2.1) C2.o) Try.func58 ?_;rintro e w_ ⟨Bv,rfl,ho_,hb⟩;refine ⟨_,rfl,?_⟩;have n_:=ak5 (rb A4 hb) (rl ho_ (bq2 HB.o (aU.ge A1.o) A7.o)) (kb A2 hb) (aU.below (aU.q1 A1.o A3.o) hb) (aC (bq2 HB.o (aU.ge A1.o) A7.o) hb);clear A4 A2 A1 HB;obtain ⟨A4,A5,A2,A1,HB⟩:=n_;(try clear hb ho_);obtain ⟨Dg,Dh,Ba,Ca,Di⟩:=A1.o;have Dj:=dV Ba;have Dk:=dW Ba;have Dl:=dX Ba;have Dm:=aM Ba 1;have Dn:=aM Ba 2;clear Ba Ca;obtain ⟨Ae,Af,Ap⟩:=Kd.R_slice A5.o;subst Ap)|((with_reducible refine aE (f:=59) rfl ?_);(first|have:=z0|have:=z1);refine gc (some 25) (eW.calls k _ _ l0 An Ag Ah Ai Ab Bu Bx _ (cq (Kd.C_below Ci.o HB.o)) Cj.o Eu.o) Try.func59 ?_;rintro e w_ ⟨Cb,rfl,ho_,hb⟩;refine ⟨_,rfl,?_⟩;have n_:=ak6 (rb A4 hb) (re_ A5 ho_ hb) (rn_ ho_ A5 (bq2 HB.o (aU.ge A1.o) A7.o)) (kb A2 hb) (aU.below (aU.q1 A1.o A3.o) hb) (aC (bq2 HB.o (aU.ge A1.o) A7.o) hb);clear A4 A5 A2 A1 HB;obtain ⟨A4,A5,Aa,A2,A1,HB⟩:=n_;(try clear hb ho_);obtain ⟨A8,A9,B5⟩:=Kd.R_slice Aa.o;subst B5)|((with_reducible refine aE (f:=59) rfl ?_);have:=z2;refine gc (some 25) (eW.calls k _ _ l0 An Ag Ah Ai Ab Bu false _ (cq (Kd.C_below Ci.o HB.o)) Cj.o Eu.o) Try.func59 ?_;rintro e w_ ⟨Cb,rfl,ho_,hb⟩;refine ⟨_,rfl,?_⟩;have n_:=ak6 (rb A4 hb) (re_ A5 ho_ hb) (rn_ ho_ A5 (bq2 HB.o (aU.ge A1.o) A7.o)) (kb A2 hb) (aU.below (aU.q1 A1.o A3.o) hb) (aC (bq2 HB.o (aU.ge A1.o) A7.o) hb);clear A4 A5 A2 A1 HB;obtain ⟨A4,A5,Aa,A2,A1,HB⟩:=n_;(try clear hb ho_);obtain ⟨A8,A9,B5⟩:=Kd.R_slice Aa.o;subst B5)|((with_reducible refine aE (f:=59) rfl ?_);(first|have:=z3|have:=z4);refine gc (some 25) (eW.calls k _ _ l0 An Ag Ah Ai Ab Bu true _ (cq (Kd.C_below Ci.o HB.o)) Cj.o Eu.o) Try.func59 ?_;rintro e w_ ⟨Cb,rfl,ho_,hb⟩;refine ⟨_,rfl,?_⟩;have n_:=ak6 (rb A4 hb) (re_ A5 ho_ hb) (rn_ ho_ A5 (bq2 HB.o (aU.ge A1.o) A7.o)) (kb A2 hb) (aU.below (aU.q1 A1.o A3.o) hb) (aC (bq2 HB.o (aU.ge A1.o) A7.o) hb);clear A4 A5 A2 A1 HB;obtain ⟨A4,A5,Aa,A2,A1,HB⟩:=n_;(try clear hb ho_);obtain ⟨A8,A9,B5⟩:=Kd.R_slice Aa.o;subst B5)|((with_reducible refine aJ (N:=7) rfl ?_);(first|have:=z1|have:=z2|have:=z3|have:=z4);(try (refine a9 (by rfl) ?_;dsimp only));refine bxe 7 #[.int .i64 0,.int .i64 0,.string (⟨#[]⟩:ByteArray),.slice none 0 0] 43 ?_;intro Aj hg w_ hbox hb;have n_:=jX (rb A4 hb) (rb A5 hb) (rb Aa hb) (kb A2 hb) (aU.below (aU.q1 A1.o A3.o) hb) (aC (bq2 HB.o (aU.ge A1.o) A7.o) hb) hbox (bz hg (bq2 HB.o (aU.ge A1.o) A7.o)) (bz hg (bq2 HB.o (aU.ge A1.o) A7.o)) (nL hg A2) (nG hg A2) ((by rw [hg];exact Nat.ne_of_lt (aU.lt (show aU (fun _ _=>True) w _ Al l0 An false from aU.q1 A1.o A3.o)):Al≠Aj)) ((by rw [hg];exact Nat.ne_of_gt (aU.lt (show aU (fun _ _=>True) w _ Al l0 An false from aU.q1 A1.o A3.o)):Aj≠Al));clear A4 A5 Aa A2 A1 HB;obtain ⟨A4,A5,Aa,A2,A1,HB,A6,Cc,As,Ak,Ao,Ac,B3⟩:=n_;clear hb hbox hg;have Bq:=Ao.o;have Br:=Ak.o;have Bs:=B3.o;have Bt:=Ac.o;obtain ⟨Bb,Bc,Bd,Be,Bf,Bg,Bh,Bi⟩:=cl4 A6.o)|((with_reducible refine aJ (N:=7) rfl ?_);have:=z0;(try (refine a9 (by rfl) ?_;dsimp only));refine bxe 7 #[.int .i64 0,.int .i64 0,.string (⟨#[]⟩:ByteArray),.slice none 0 0] 43 ?_;intro Aj hg w_ hbox hb;have n_:=jX (rb A4 hb) (rb A5 hb) (rb Aa hb) (kb A2 hb) (aU.below (aU.q1 A1.o A3.o) hb) (aC (bq2 HB.o (aU.ge A1.o) A7.o) hb) hbox (bz hg (bq2 HB.o (aU.ge A1.o) A7.o)) (bz hg (bq2 HB.o (aU.ge A1.o) A7.o)) (nL hg A2) (nG hg A2) ((by rw [hg];exact Nat.ne_of_lt (aU.lt (show aU (fun _ _=>True) w _ Al l0 An true from aU.q1 A1.o A3.o)):Al≠Aj)) ((by rw [hg];exact Nat.ne_of_gt (aU.lt (show aU (fun _ _=>True) w _ Al l0 An true from aU.q1 A1.o A3.o)):Aj≠Al));clear A4 A5 Aa A2 A1 HB;obtain ⟨A4,A5,Aa,A2,A1,HB,A6,Cc,As,Ak,Ao,Ac,B3⟩:=n_;clear hb hbox hg;have Bq:=Ao.o;have Br:=Ak.o;have Bs:=B3.o;have Bt:=Ac.o;obtain ⟨Bb,Bc,Bd,Be,Bf,Bg,Bh,Bi⟩:=cl4 A6.o)|((with_reducible refine aQ (t:=43) (p:=7) rfl ?_);have:=z4;refine se 43 7 (s4 w_ Aj (.int .i64 Ag) (.int .i64 Ah) (.string Ai) (.slice A8 Ab.length A9)) ?_;intro w_ hw;have n_:=ak7 (sr4 hw A4 A6) (show Kd.R (Kd.int .i64) 3 w_ w.heap.size (fun k_=>some k_≠(.slice A8 Ab.length A9:Value).ownBlock) (.slice Ae Ad.length Af) Ad by rw [hw];exact (by refine kr ?_;exact Kd.R_mono (rf4 Aj (.int .i64 Ag) (.int .i64 Ah) (.string Ai) (.slice A8 Ab.length A9) (Kd.R_types A5.o A6.o (by decide)) (fun _ hk=>hk.2)) (fun _ hk=>hk.1.2))) (show Kd.R (Kd.int .i64) 3 w_ w.heap.size (fun k_=>some k_≠((.slice Ae Ad.length Af):Value).ownBlock) (.slice A8 Ab.length A9) Ab by rw [hw];exact (by refine kr ?_;exact Kd.R_mono (rf4 Aj (.int .i64 Ag) (.int .i64 Ah) (.string Ai) (.slice A8 Ab.length A9) (Kd.R_types Aa.o A6.o (by decide)) (fun _ hk=>hk.2)) (fun _ hk=>hk.1.2))) (sf4 hw A2 Ak) (sc4 hw A6) (show aU (fun _ _=>True) w w_ Al l0 An false by rw [hw];exact (aU.q2 A1.o A3.o Ac.o)) (sb hw (bq3 HB.o (aU.ge A1.o) A7.o As.o));clear hw A4 A5 Aa A2 A6 A1 HB;obtain ⟨A4,A5,Aa,A2,A6,A1,HB⟩:=n_;obtain ⟨Do,Dp,Bj,Cd,Dq⟩:=A1.o;have Dr:=dV Bj;have Ds:=dW Bj;have Dt:=dX Bj;have Du:=aM Bj 1;have Dv:=aM Bj 2;clear Bj Cd;obtain ⟨Bb,Bc,Bd,Be,Bf,Bg,Bh,Bi⟩:=cl4 A6.o;have Aq:=Am.o;have Ar:=A3.o;obtain ⟨At,Au,Av,Aw,Ax,Ay,Az,B0,B1,B2⟩:=cl5 A2.o)|((with_reducible refine aQ (t:=43) (p:=7) rfl ?_);have:=z1;refine se 43 7 (s4 w_ Aj (.int .i64 Ag) (.int .i64 Ah) (.string Ai) (.slice A8 Ab.length A9)) ?_;intro w_ hw;have n_:=ak7 (sr4 hw A4 A6) (show Kd.R (Kd.int .i64) 3 w_ w.heap.size (fun k_=>some k_≠(.slice A8 Ab.length A9:Value).ownBlock) (.slice Ae Ad.length Af) Ad by rw [hw];exact (by refine kr ?_;exact Kd.R_mono (rf4 Aj (.int .i64 Ag) (.int .i64 Ah) (.string Ai) (.slice A8 Ab.length A9) (Kd.R_types A5.o A6.o (by decide)) (fun _ hk=>hk.2)) (fun _ hk=>hk.1.2))) (show Kd.R (Kd.int .i64) 3 w_ w.heap.size (fun k_=>some k_≠((.slice Ae Ad.length Af):Value).ownBlock) (.slice A8 Ab.length A9) Ab by rw [hw];exact (by refine kr ?_;exact Kd.R_mono (rf4 Aj (.int .i64 Ag) (.int .i64 Ah) (.string Ai) (.slice A8 Ab.length A9) (Kd.R_types Aa.o A6.o (by decide)) (fun _ hk=>hk.2)) (fun _ hk=>hk.1.2))) (sf4 hw A2 Ak) (sc4 hw A6) (show aU (fun _ _=>True) w w_ Al l0 An false by rw [hw];exact (aU.q2 A1.o A3.o Ac.o)) (sb hw (bq3 HB.o (aU.ge A1.o) A7.o As.o));clear hw A4 A5 Aa A2 A6 A1 HB;obtain ⟨A4,A5,Aa,A2,A6,A1,HB⟩:=n_;obtain ⟨Dw,Dx,Bk,Ce,Dy⟩:=A1.o;have Dz:=dV Bk;have E0:=dW Bk;have E1:=dX Bk;have E2:=aM Bk 1;have E3:=aM Bk 2;clear Bk Ce;have Aq:=Am.o;have Ar:=A3.o;obtain ⟨At,Au,Av,Aw,Ax,Ay,Az,B0,B1,B2⟩:=cl5 A2.o)|((with_reducible refine aQ (t:=43) (p:=7) rfl ?_);have:=z2;refine se 43 7 (s4 w_ Aj (.int .i64 Ag) (.int .i64 Ah) (.string Ai) (.slice A8 Ab.length A9)) ?_;intro w_ hw;have n_:=ak7 (sr4 hw A4 A6) (show Kd.R (Kd.int .i64) 3 w_ w.heap.size (fun k_=>some k_≠(.slice A8 Ab.length A9:Value).ownBlock) (.slice Ae Ad.length Af) Ad by rw [hw];exact (by refine kr ?_;exact Kd.R_mono (rf4 Aj (.int .i64 Ag) (.int .i64 Ah) (.string Ai) (.slice A8 Ab.length A9) (Kd.R_types A5.o A6.o (by decide)) (fun _ hk=>hk.2)) (fun _ hk=>hk.1.2))) (show Kd.R (Kd.int .i64) 3 w_ w.heap.size (fun k_=>some k_≠((.slice Ae Ad.length Af):Value).ownBlock) (.slice A8 Ab.length A9) Ab by rw [hw];exact (by refine kr ?_;exact Kd.R_mono (rf4 Aj (.int .i64 Ag) (.int .i64 Ah) (.string Ai) (.slice A8 Ab.length A9) (Kd.R_types Aa.o A6.o (by decide)) (fun _ hk=>hk.2)) (fun _ hk=>hk.1.2))) (sf4 hw A2 Ak) (sc4 hw A6) (show aU (fun _ _=>True) w w_ Al l0 An false by rw [hw];exact (aU.q2 A1.o A3.o Ac.o)) (sb hw (bq3 HB.o (aU.ge A1.o) A7.o As.o));clear hw A4 A5 Aa A2 A6 A1 HB;obtain ⟨A4,A5,Aa,A2,A6,A1,HB⟩:=n_;obtain ⟨E4,E5,Bl,Cf,E6⟩:=A1.o;have E7:=dV Bl;have E8:=dW Bl;have E9:=dX Bl;have Ea:=aM Bl 1;have Eb:=aM Bl 2;clear Bl Cf;have Aq:=Am.o;have Ar:=A3.o;obtain ⟨At,Au,Av,Aw,Ax,Ay,Az,B0,B1,B2⟩:=cl5 A2.o)|((with_reducible refine aQ (t:=43) (p:=7) rfl ?_);have:=z3;refine se 43 7 (s4 w_ Aj (.int .i64 Ag) (.int .i64 Ah) (.string Ai) (.slice A8 Ab.length A9)) ?_;intro w_ hw;have n_:=ak7 (sr4 hw A4 A6) (show Kd.R (Kd.int .i64) 3 w_ w.heap.size (fun k_=>some k_≠(.slice A8 Ab.length A9:Value).ownBlock) (.slice Ae Ad.length Af) Ad by rw [hw];exact (by refine kr ?_;exact Kd.R_mono (rf4 Aj (.int .i64 Ag) (.int .i64 Ah) (.string Ai) (.slice A8 Ab.length A9) (Kd.R_types A5.o A6.o (by decide)) (fun _ hk=>hk.2)) (fun _ hk=>hk.1.2))) (show Kd.R (Kd.int .i64) 3 w_ w.heap.size (fun k_=>some k_≠((.slice Ae Ad.length Af):Value).ownBlock) (.slice A8 Ab.length A9) Ab by rw [hw];exact (by refine kr ?_;exact Kd.R_mono (rf4 Aj (.int .i64 Ag) (.int .i64 Ah) (.string Ai) (.slice A8 Ab.length A9) (Kd.R_types Aa.o A6.o (by decide)) (fun _ hk=>hk.2)) (fun _ hk=>hk.1.2))) (sf4 hw A2 Ak) (sc4 hw A6) (show aU (fun _ _=>True) w w_ Al l0 An false by rw [hw];exact (aU.q2 A1.o A3.o Ac.o)) (sb hw (bq3 HB.o (aU.ge A1.o) A7.o As.o));clear hw A4 A5 Aa A2 A6 A1 HB;obtain ⟨A4,A5,Aa,A2,A6,A1,HB⟩:=n_;obtain ⟨Ec,Ed,Bm,Cg,Ee⟩:=A1.o;have Ef:=dV Bm;have Eg:=dW Bm;have Eh:=dX Bm;have Ei:=aM Bm 1;have Ej:=aM Bm 2;clear Bm Cg;have Aq:=Am.o;have Ar:=A3.o;obtain ⟨At,Au,Av,Aw,Ax,Ay,Az,B0,B1,B2⟩:=cl5 A2.o)|((with_reducible refine aQ (t:=43) (p:=7) rfl ?_);have:=z0;refine se 43 7 (s4 w_ Aj (.int .i64 Ag) (.int .i64 Ah) (.string Ai) (.slice A8 Ab.length A9)) ?_;intro w_ hw;have n_:=ak7 (sr4 hw A4 A6) (show Kd.R (Kd.int .i64) 3 w_ w.heap.size (fun k_=>some k_≠(.slice A8 Ab.length A9:Value).ownBlock) (.slice Ae Ad.length Af) Ad by rw [hw];exact (by refine kr ?_;exact Kd.R_mono (rf4 Aj (.int .i64 Ag) (.int .i64 Ah) (.string Ai) (.slice A8 Ab.length A9) (Kd.R_types A5.o A6.o (by decide)) (fun _ hk=>hk.2)) (fun _ hk=>hk.1.2))) (show Kd.R (Kd.int .i64) 3 w_ w.heap.size (fun k_=>some k_≠((.slice Ae Ad.length Af):Value).ownBlock) (.slice A8 Ab.length A9) Ab by rw [hw];exact (by refine kr ?_;exact Kd.R_mono (rf4 Aj (.int .i64 Ag) (.int .i64 Ah) (.string Ai) (.slice A8 Ab.length A9) (Kd.R_types Aa.o A6.o (by decide)) (fun _ hk=>hk.2)) (fun _ hk=>hk.1.2))) (sf4 hw A2 Ak) (sc4 hw A6) (show aU (fun _ _=>True) w w_ Al l0 An true by rw [hw];exact (aU.q2 A1.o A3.o Ac.o)) (sb hw (bq3 HB.o (aU.ge A1.o) A7.o As.o));clear hw A4 A5 Aa A2 A6 A1 HB;obtain ⟨A4,A5,Aa,A2,A6,A1,HB⟩:=n_;obtain ⟨Ek,El,Bn,Ch,Em⟩:=A1.o;have En:=dV Bn;have Eo:=dW Bn;have Ep:=dX Bn;have Eq:=aM Bn 1;have Er:=aM Bn 2;clear Bn Ch;have Aq:=Am.o;have Ar:=A3.o;obtain ⟨At,Au,Av,Aw,Ax,Ay,Az,B0,B1,B2⟩:=cl5 A2.o)|((with_reducible refine aQ (t:=45) (p:=2) rfl ?_);have:=z4;refine se 45 2 (s5 w_ Bo (.slice Ae Ad.length Af) (.int .i64 Ag) (.int .i64 Ah) (.string Ai) (.slice A8 Ab.length A9)) ?_;intro w_ hw;have n_:=ak7 (sr5 hw A4 A2) (sr5 hw A5 A2) (sr5 hw Aa A2) (sc5 hw A2) (sf5 hw A6 Ao) (show aU (fun _ _=>True) w w_ Al l0 An false by rw [hw];exact (aU.q2 A1.o A3.o Ac.o)) (sb hw (bq3 HB.o (aU.ge A1.o) A7.o As.o));clear hw A4 A5 Aa A2 A6 A1 HB;obtain ⟨A4,A5,Aa,A2,A6,A1,HB⟩:=n_)|((with_reducible refine aQ (t:=45) (p:=2) rfl ?_);(first|have:=z1|have:=z2|have:=z3);refine se 45 2 (s5 w_ Bo (.slice none 0 0) (.int .i64 0) (.int .i64 0) (.string (⟨#[]⟩:ByteArray)) (.slice none 0 0)) ?_;intro w_ hw;have n_:=ak7 (sr5 hw A4 A2) (sr5 hw A5 A2) (sr5 hw Aa A2) (sc5 hw A2) (sf5 hw A6 Ao) (show aU (fun _ _=>True) w w_ Al l0 An false by rw [hw];exact (aU.q2 A1.o A3.o Ac.o)) (sb hw (bq3 HB.o (aU.ge A1.o) A7.o As.o));clear hw A4 A5 Aa A2 A6 A1 HB;obtain ⟨A4,A5,Aa,A2,A6,A1,HB⟩:=n_)|((with_reducible refine aQ (t:=45) (p:=2) rfl ?_);have:=z0;refine se 45 2 (s5 w_ Bo (.slice none 0 0) (.int .i64 0) (.int .i64 0) (.string (⟨#[]⟩:ByteArray)) (.slice none 0 0)) ?_;intro w_ hw;have n_:=ak7 (sr5 hw A4 A2) (sr5 hw A5 A2) (sr5 hw Aa A2) (sc5 hw A2) (sf5 hw A6 Ao) (show aU (fun _ _=>True) w w_ Al l0 An true by rw [hw];exact (aU.q2 A1.o A3.o Ac.o)) (sb hw (bq3 HB.o (aU.ge A1.o) A7.o As.o));clear hw A4 A5 Aa A2 A6 A1 HB;obtain ⟨A4,A5,Aa,A2,A6,A1,HB⟩:=n_))
  first
  | refine bodyPost_ret (dK rfl _ _ Bo 45 #[.slice Ae Ad.length Af,.int .i64 Ag,.int .i64 Ah,.string Ai,.slice A8 Ab.length A9] (0,0) _ rfl (zq A2.o) Try.underlying45 rfl (by kernel_rfl)) rfl ?_
    exact ⟨_,_,rq,kqR A5.o,kqR Aa.o,bq3 HB.o (aU.ge A1.o) A7.o As.o⟩
  | refine bodyPost_ret (dK rfl _ _ Bo 45 #[.slice none 0 0,.int .i64 0,.int .i64 0,.string (⟨#[]⟩:ByteArray),.slice none 0 0] (0,0) _ rfl (zq A2.o) Try.underlying45 rfl (by kernel_rfl)) rfl ?_
    exact ⟨_,_,rq,rn,rn,bq3 HB.o (aU.ge A1.o) A7.o As.o⟩
end Go.Proofs.Ytgppikopdpeigaa.XFnPdus
