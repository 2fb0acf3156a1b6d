/- The functions that one law reaches, as Lean functions, with their walks: printed by a program of this seat (wip/tools) out of the translation. -/
import Derived.Test.YthhnfmbfgplelaaXFnExactGetMsgx0
namespace Go.Proofs.Ythhnfmbfgplelaa.XFnExactGetMsg
open Go.RowKit Go.Proofs.YthhnfmbfgplelaaW.PrintWords Go.Proofs.YthhnfmbfgplelaaW.PrintLast Go.Proofs.YthhnfmbfgplelaaW.PrintMore
attribute [local go_sem] cQ cR dP dQ cC cD cS cT
set_option linter.unusedVariables false
set_option linter.unusedSimpArgs false
set_option maxHeartbeats 8000000
set_option maxRecDepth 100000
def bX.l0:Nat→List Int→List Int→Int→Option (List Int)
 |0,_,_,_=>none
 |k+1,x0,x3,x4=>if x4<(x0.length:Int) then (if 0≤x4 then (if x4<(x3.length:Int) then (bX.l0 k x0 (x3.set (x4:Int).toNat (rd x0 x4)) (wrap64 (x4+1))) else (none)) else (none)) else (some x3)
def bX.f (k:Nat) (l0:List Int):Option (List Int):=if 0≤(l0.length:Int) then (if ((l0.length:Int):Int).toNat≤281474976710656 then (bX.l0 k l0 (List.replicate ((l0.length:Int):Int).toNat 0) 0) else (none)) else (none)
theorem bX.calls (k:Nat) (A0:Option Addr) (c0:Nat) (l0:List Int) (r:List Int) (w:World) (Ap:Kd.C (Kd.int .u8) w A0 l0.length l0) (Aq:l0.length≤c0) (h:bX.f k l0=some r):
 Calls Try.prog 15 #[.slice A0 l0.length c0] w fun e w'=>∃Ar:Value,e=.returned (Ar)∧Kd.R (Kd.int .u8) 5 w' w.heap.size (fun _=>True) Ar r∧Below w.heap.size w w':=by
 have Az:=am Ap
 have B5:=am Aq
 clear Ap Aq
 have HB:=am (Below.refl w.heap.size w)
 have H:=h
 clear h
 unfold bX.f at H
 replace H:=nq H
 obtain ⟨c2,H⟩:=H
 have Af:=eq_true c2
 have Ag:decide (0≤(l0.length:Int))=true:=j7 c2
 clear c2
 replace H:=nq H
 obtain ⟨c3,H⟩:=H
 have Ah:=eq_true c3
 have Ai:decide (((l0.length:Int):Int).toNat≤281474976710656)=true:=j7 c3
 clear c3
 generalize A5:((List.replicate ((l0.length:Int):Int).toNat 0):List Int)=Aj at H
 have A6:=am A5.symm
 clear A5
 have H':=am H
 clear H
 go_enter Try.func15,Try.ntmps15
 go_wp2_with (first|((with_reducible refine aM (N:=7) rfl ?_);refine Kd.R_make (Kd.int .u8) _ 5 rfl (N:=7) rfl 22 _ _ rfl (l0.length:Int) rfl rfl Try.underlying22 (.int .u8 0) 1 eF rfl (by decide) (by omega) 0 (ok:=fun _=>True) (okp:=fun _=>True) rfl (fun _ hk=>hk) trivial (oda) (Nat.le_trans (Nat.mul_le_mul_right _ (oda:(l0.length:Int).toNat≤281474976710656)) (by omega)) (Below.refl _ _) (j6 _) ?_;intro Ak w4 Ab hb hg_ hnew_;clear hg_ hnew_;(first|rw [← A6.o] at Ab|(simp only [Int.reduceToNat] at Ab;rw [← A6.o] at Ab));have n_:=ak2 (rl Ab (bq HB.o)) (aA (bq HB.o) hb);clear HB;obtain ⟨Ac,HB⟩:=n_;clear hb Ab))
 go_loopg [4] k (fun kq v4 w'=>∃(A4:List Int) (A1:Int),v4=.int .i64 A1∧Aside0 (bX.l0 kq l0 A4 A1=some r)∧Aside0 (kq≤k)∧Aside0 (Kd.R (Kd.int .u8) 5 w' w.heap.size (fun _=>True) Ak A4)∧Aside0 (Below w.heap.size w w'))
 case atStart=>exact ⟨(Aj),(0),sq,H',⟨j6 _⟩,⟨kqR Ac.o⟩,⟨bq HB.o⟩⟩
 case round=>
  clear H'
  try clear c1
  try clear c2
  try clear Af
  try clear Ag
  try clear p2
  try clear c3
  try clear Ah
  try clear Ai
  obtain ⟨A4,A1,rfl,HA,As,A3,HB⟩:=hrel
  cases gk with
  |zero=>exact absurd HA.o (by simp [bX.l0])
  |succ k1=>
   have H:=HA.o
   clear HA
   simp only [bX.l0] at H
   replace H:=il' H
   rcases H with ⟨-,Al,H⟩|⟨-,Al,H⟩
   · obtain rfl:=j5 H
     go_wp2
     go_ret
     exact ⟨_,rq,kqR A3.o,bq HB.o⟩
   replace H:=nl H
   obtain ⟨-,B0,H⟩:=H
   replace H:=nl H
   obtain ⟨-,B1,H⟩:=H
   generalize A7:((A4.set (A1:Int).toNat (rd l0 A1)):List Int)=Ad at H
   have Ae:=am A7.symm
   clear A7
   have H':=am H
   clear H
   have A8:0≤(A1:Int):=oda
   have A9:A1<(l0.length:Int):=oda
   obtain ⟨At,Am,A2⟩:=Kd.at_int Az.o A1 A8 A9
   cases Am
   replace A2:=(HB.o.cell (jW w _ A2)).trans A2
   replace A8:=eq_true A8
   replace A9:=eq_true A9
   have p9:0≤(A1:Int):=oda
   have q9:(A1:Int)<((A4.length:Int):Int):=oda
   obtain ⟨An,B2,Au,Av,B3,B6,Aw⟩:=Kd.R_form A3.o (by omega)
   (first|cases Au|(injection Au with ea_ en_ ec_;(first|subst ea_|(injection ea_ with ea_;subst ea_));subst ec_;clear en_))
   have B4:=am Av
   have B7:=am Aw
   clear Av B3 Aw
   obtain ⟨Ax,Ay⟩:=Kd.R_celln 0 A3.o (A1:Int) p9 q9
   replace p9:=eq_true p9
   replace q9:=eq_true q9
   have Aa:=Kd.R_putg A3.o (A1:Int) (rd l0 A1)
   go_wp2_with (first|((with_reducible refine aG (t:=5) (p:=20) rfl ?_);refine se 5 20 (wr.setCell ⟨An,(A1:Int).toNat,none⟩ (.int .u8 (rd l0 A1))) ?_;intro Ao hw;have hg:wr.grownBy Ao (some An):=(by rw [hw];exact Aa.2);have hp_:Kd.R (Kd.int .u8) 5 Ao w.heap.size (fun _=>True) (.slice (some ⟨An,0,none⟩) A4.length B2) Ad:=(by rw [hw,Ae.o];exact Aa.1);clear Aa;have n_:=ak2 hp_ ((by rw [hw];exact dD (HB.o) B4.o:Below w.heap.size w Ao));clear A3 HB;obtain ⟨A3,HB⟩:=n_;clear hg hw hp_))
   go_roundg k1
   case measure=>have:=As.o;omega
   case rel=>exact ⟨(Ad),(wrap64 (A1+1)),sq,H',⟨by have:=As.o;omega⟩,⟨kqR A3.o⟩,⟨bq HB.o⟩⟩
def dJ.l0:Nat→List Int→List Int→Int→Option (Bool)
 |0,_,_,_=>none
 |k+1,x0,x1,x5=>if x5<(x0.length:Int) then (if 0≤x5 then (if x5<(x1.length:Int) then (if (rd x0 x5)=(rd x1 x5) then (dJ.l0 k x0 x1 (wrap64 (x5+1))) else (some false)) else (none)) else (none)) else (some true)
def dJ.f (k:Nat) (l0:List Int) (l1:List Int):Option (Bool):=if (l0.length:Int)=(l1.length:Int) then (dJ.l0 k l0 l1 0) else (some false)
theorem dJ.calls (k:Nat) (A0:Option Addr) (c0:Nat) (l0:List Int) (A1:Option Addr) (c1:Nat) (l1:List Int) (r:Bool) (w:World) (Aj:Kd.C (Kd.int .u8) w A0 l0.length l0) (Ak:l0.length≤c0) (Al:Kd.C (Kd.int .u8) w A1 l1.length l1) (Am:l1.length≤c1) (h:dJ.f k l0 l1=some r):
 Calls Try.prog 18 #[.slice A0 l0.length c0,.slice A1 l1.length c1] w fun e w'=>e=.returned (.bool r)∧Drawn0 w w':=by
 have An:=am Aj
 have As:=am Ak
 clear Aj Ak
 have Ao:=am Al
 have At:=am Am
 clear Al Am
 have H:=h
 clear h
 unfold dJ.f at H
 replace H:=iq' H
 rcases H with ⟨c3,Ab,Ac,H⟩|⟨c3,Ab,Ac,H⟩
 · have Ad:(l0.length==l1.length)=false:=by first|simpa using c3|(simp at c3 ⊢;omega)
   obtain rfl:=j5 H
   go_enter Try.func18,Try.ntmps18
   go_wp2
   go_ret
   exact ⟨by first|rfl|(simp;done)|(simp [*];done),by repeat (first|exact Drawn0.refl _|apply Drawn0.step)⟩
 have Ad:(l0.length==l1.length)=true:=by first|simpa using c3|(simp at c3 ⊢;omega)
 clear c3
 have H':=am H
 clear H
 go_enter Try.func18,Try.ntmps18
 go_wp2
 go_loopg [5] k (fun kq v5 w'=>∃(A2:Int),v5=.int .i64 A2∧Aside0 (dJ.l0 kq l0 l1 A2=some r)∧Aside0 (kq≤k)∧Drawn0 w w')
 case atStart=>exact ⟨(0),sq,H',⟨j6 _⟩,by repeat (first|exact Drawn0.refl _|apply Drawn0.step)⟩
 case round=>
  clear H'
  try clear c1
  try clear p2
  try clear c3
  try clear Ab
  try clear Ac
  try clear Ad
  obtain ⟨A2,rfl,HA,Ap,⟨m1,rfl⟩⟩:=hrel
  cases gk with
  |zero=>exact absurd HA.o (by simp [dJ.l0])
  |succ k1=>
   have H:=HA.o
   clear HA
   simp only [dJ.l0] at H
   replace H:=il' H
   rcases H with ⟨-,Ag,H⟩|⟨-,Ag,H⟩
   · obtain rfl:=j5 H
     go_wp2
     go_ret
     exact ⟨by first|rfl|(simp;done)|(simp [*];done),by repeat (first|exact Drawn0.refl _|apply Drawn0.step)⟩
   replace H:=nl H
   obtain ⟨-,Aq,H⟩:=H
   replace H:=nl H
   obtain ⟨-,Ar,H⟩:=H
   replace H:=iq' H
   rcases H with ⟨c7,Ah,Ai,H⟩|⟨-,Ah,Ai,H⟩
   · obtain rfl:=j5 H
     have A3:0≤(A2:Int):=oda
     have A4:A2<(l0.length:Int):=oda
     obtain ⟨Ae,A9,A7⟩:=Kd.at_int An.o A2 A3 A4
     cases A9
     replace A3:=eq_true A3
     replace A4:=eq_true A4
     have A5:0≤(A2:Int):=oda
     have A6:A2<(l1.length:Int):=oda
     obtain ⟨Af,Aa,A8⟩:=Kd.at_int Ao.o A2 A5 A6
     cases Aa
     replace A5:=eq_true A5
     replace A6:=eq_true A6
     try go_wp2
     repeat (go_quiet (fail);try go_wp2)
     go_ret
     exact ⟨by first|rfl|(simp;done)|(simp [*];done),by repeat (first|exact Drawn0.refl _|apply Drawn0.step)⟩
   have H':=am H
   clear H
   have A3:0≤(A2:Int):=oda
   have A4:A2<(l0.length:Int):=oda
   obtain ⟨Ae,A9,A7⟩:=Kd.at_int An.o A2 A3 A4
   cases A9
   replace A3:=eq_true A3
   replace A4:=eq_true A4
   have A5:0≤(A2:Int):=oda
   have A6:A2<(l1.length:Int):=oda
   obtain ⟨Af,Aa,A8⟩:=Kd.at_int Ao.o A2 A5 A6
   cases Aa
   replace A5:=eq_true A5
   replace A6:=eq_true A6
   try go_wp2
   repeat (go_quiet (fail);try go_wp2)
   go_roundg k1
   case measure=>have:=Ap.o;omega
   case rel=>exact ⟨(wrap64 (A2+1)),sq,H',⟨by have:=Ap.o;omega⟩,by repeat (first|exact Drawn0.refl _|apply Drawn0.step)⟩
def cJ.l0:Nat→List Int→Int→Int→Option (Int × List Int)
 |0,_,_,_=>none
 |k+1,x0,x1,x5=>if x5<(x0.length:Int) then (if 0≤x5 then (cJ.l0 k (x0.set (x5:Int).toNat ((x1) % 256)) (wrap64 (x1+1)) (wrap64 (x5+1))) else (none)) else (some (x1,x0))
def cJ.f (k:Nat) (l0:List Int) (a1:Int):Option (Int × List Int):=cJ.l0 k l0 a1 0
theorem cJ.calls (k:Nat) (A5:Nat→Prop) (A0:Value) (l0:List Int) (a1:Int) (r1:Int) (r2:List Int) (w0 w:World) (hB:Below w0.heap.size w0 w) (Aj:Kd.R (Kd.int .u8) 5 w w0.heap.size A5 A0 l0) (h:cJ.f k l0 a1=some (r1,r2)):
 Calls Try.prog 20 #[A0,.int .i64 a1] w fun e w'=>e=.returned (.int .i64 r1)∧Kd.R (Kd.int .u8) 5 w' w0.heap.size (fun k_=>(A5 k_∨w.heap.size≤k_)) A0 r2∧Below w0.heap.size w0 w'∧b7 w w' (fun k_=>A5 k_):=by
 have Ak:=am (show Kd.R (Kd.int .u8) 5 w w0.heap.size (fun k_=>(A5 k_∨w.heap.size≤k_)) A0 l0 from Kd.R_mono Aj (fun k_ hk=>(.inl hk)))
 have HK:=am (b7.refl w (fun k_=>A5 k_))
 have Ar:=am hB.size
 have HB:=am hB
 clear hB
 have H:=h
 clear h
 unfold cJ.f at H
 have H':=am H
 clear H
 go_enter Try.func20,Try.ntmps20
 go_wp2
 go_loopg [1,5] k (fun kq v1 v5 w'=>∃(A4:List Int) (A3:Int) (A2:Int),v1=.int .i64 A3∧v5=.int .i64 A2∧Aside0 (cJ.l0 kq A4 A3 A2=some (r1,r2))∧Aside0 (kq≤k)∧Aside0 (Kd.R (Kd.int .u8) 5 w' w0.heap.size (fun k_=>(A5 k_∨w.heap.size≤k_)) A0 A4)∧Aside0 (b7 w w' (fun k_=>A5 k_))∧Aside0 (Below w0.heap.size w0 w'))
 case atStart=>exact ⟨(l0),(a1),(0),sq,sq,H',⟨j6 _⟩,⟨kqR Ak.o⟩,⟨by repeat (first|(with_reducible first|exact HK.o|apply b7.alloc|apply b7.drewN|apply b7.drew)|exact HK.o)⟩,⟨bq HB.o⟩⟩
 case round=>
  clear H'
  try clear c2
  try clear p2
  obtain ⟨A4,A3,A2,rfl,rfl,HA,Ac,A1,HK,HB⟩:=hrel
  cases gk with
  |zero=>exact absurd HA.o (by simp [cJ.l0])
  |succ k1=>
   have H:=HA.o
   clear HA
   simp only [cJ.l0] at H
   replace H:=il' H
   rcases H with ⟨-,Aa,H⟩|⟨-,Aa,H⟩
   · simp only [j3,j4] at H
     obtain ⟨rfl,rfl⟩:=H
     obtain ⟨As,At,Al⟩:=Kd.R_slice A1.o
     subst Al
     go_wp2
     go_ret
     exact ⟨rq,kqR A1.o,bq HB.o,by repeat (first|(with_reducible first|exact HK.o|apply b7.alloc|apply b7.drewN|apply b7.drew)|exact HK.o)⟩
   replace H:=nl H
   obtain ⟨-,Am,H⟩:=H
   generalize A6:((A4.set (A2:Int).toNat ((A3) % 256)):List Int)=A7 at H
   have A8:=am A6.symm
   clear A6
   have H':=am H
   clear H
   obtain ⟨Au,An,Ao⟩:=Kd.R_slice A1.o
   subst Ao
   have p5:0≤(A2:Int):=oda
   have q5:(A2:Int)<((A4.length:Int):Int):=oda
   obtain ⟨A9,Av,Ad,Ae,Ap,cl5,Af⟩:=Kd.R_form A1.o (by omega)
   (first|cases Ad|(injection Ad with ea_ en_ ec_;(first|subst ea_|(injection ea_ with ea_;subst ea_));subst ec_;clear en_))
   have Aq:=am Ae
   have Aw:=am Af
   clear Ae Ap Af
   have Ag:=am (show (A5 A9∨w.heap.size≤A9) from (A1.o.1 _ rfl))
   obtain ⟨Ah,Ai⟩:=Kd.R_celln 0 A1.o (A2:Int) p5 q5
   replace p5:=eq_true p5
   replace q5:=eq_true q5
   have Ab:=Kd.R_putg A1.o (A2:Int) ((A3) % 256)
   go_wp2_with (first|((with_reducible refine aG (t:=5) (p:=16) rfl ?_);refine se 5 16 (wr.setCell ⟨A9,(A2:Int).toNat,none⟩ (.int .u8 ((A3) % 256))) ?_;intro w8 hw;have hg:wr.grownBy w8 (some A9):=(by rw [hw];exact Ab.2);have hp_:Kd.R (Kd.int .u8) 5 w8 w0.heap.size (fun k_=>(A5 k_∨w.heap.size≤k_)) (.slice (some ⟨A9,0,none⟩) A4.length An) A7:=(by rw [hw,A8.o];exact Ab.1);clear Ab;have n_:=ak3 hp_ ((by rw [hw];exact dD (HB.o) Aq.o:Below w0.heap.size w0 w8)) (b7.of_grown (S:=(fun k_=>A5 k_)) hg (by repeat (first|(with_reducible first|exact HK.o|apply b7.alloc|apply b7.drewN|apply b7.drew)|exact HK.o)) (fun k_ e_=>(A1.o.1 k_ e_)));clear A1 HB HK;obtain ⟨A1,HB,HK⟩:=n_;clear hg hw hp_))
   go_roundg k1
   case measure=>have:=Ac.o;omega
   case rel=>exact ⟨(A7),(wrap64 (A3+1)),(wrap64 (A2+1)),sq,sq,H',⟨by have:=Ac.o;omega⟩,⟨kqR A1.o⟩,⟨by repeat (first|(with_reducible first|exact HK.o|apply b7.alloc|apply b7.drewN|apply b7.drew)|exact HK.o)⟩,⟨bq HB.o⟩⟩
def cU.l0:Nat→List Int→List Int→Int→Option (Bool)
 |0,_,_,_=>none
 |k+1,x0,x1,x5=>if x5<(x0.length:Int) then (if 0≤x5 then (if x5<(x1.length:Int) then (if (rd x0 x5)=(rd x1 x5) then (cU.l0 k x0 x1 (wrap64 (x5+1))) else (some false)) else (none)) else (none)) else (some true)
def cU.f (k:Nat) (l0:List Int) (l1:List Int):Option (Bool):=if (l0.length:Int)=(l1.length:Int) then (cU.l0 k l0 l1 0) else (some false)
theorem cU.calls (k:Nat) (A0:Option Addr) (c0:Nat) (l0:List Int) (A1:Option Addr) (c1:Nat) (l1:List Int) (r:Bool) (w:World) (Aj:Kd.C (Kd.int .i64) w A0 l0.length l0) (Ak:l0.length≤c0) (Al:Kd.C (Kd.int .i64) w A1 l1.length l1) (Am:l1.length≤c1) (h:cU.f k l0 l1=some r):
 Calls Try.prog 72 #[.slice A0 l0.length c0,.slice A1 l1.length c1] w fun e w'=>e=.returned (.bool r)∧Drawn0 w w':=by
 have An:=am Aj
 have As:=am Ak
 clear Aj Ak
 have Ao:=am Al
 have At:=am Am
 clear Al Am
 have H:=h
 clear h
 unfold cU.f at H
 replace H:=iq' H
 rcases H with ⟨c3,Ab,Ac,H⟩|⟨c3,Ab,Ac,H⟩
 · have Ad:(l0.length==l1.length)=false:=by first|simpa using c3|(simp at c3 ⊢;omega)
   obtain rfl:=j5 H
   go_enter Try.func72,Try.ntmps72
   go_wp2
   go_ret
   exact ⟨by first|rfl|(simp;done)|(simp [*];done),by repeat (first|exact Drawn0.refl _|apply Drawn0.step)⟩
 have Ad:(l0.length==l1.length)=true:=by first|simpa using c3|(simp at c3 ⊢;omega)
 clear c3
 have H':=am H
 clear H
 go_enter Try.func72,Try.ntmps72
 go_wp2
 go_loopg [5] k (fun kq v5 w'=>∃(A2:Int),v5=.int .i64 A2∧Aside0 (cU.l0 kq l0 l1 A2=some r)∧Aside0 (kq≤k)∧Drawn0 w w')
 case atStart=>exact ⟨(0),sq,H',⟨j6 _⟩,by repeat (first|exact Drawn0.refl _|apply Drawn0.step)⟩
 case round=>
  clear H'
  try clear c1
  try clear p2
  try clear c3
  try clear Ab
  try clear Ac
  try clear Ad
  obtain ⟨A2,rfl,HA,Ap,⟨m1,rfl⟩⟩:=hrel
  cases gk with
  |zero=>exact absurd HA.o (by simp [cU.l0])
  |succ k1=>
   have H:=HA.o
   clear HA
   simp only [cU.l0] at H
   replace H:=il' H
   rcases H with ⟨-,Ag,H⟩|⟨-,Ag,H⟩
   · obtain rfl:=j5 H
     go_wp2
     go_ret
     exact ⟨by first|rfl|(simp;done)|(simp [*];done),by repeat (first|exact Drawn0.refl _|apply Drawn0.step)⟩
   replace H:=nl H
   obtain ⟨-,Aq,H⟩:=H
   replace H:=nl H
   obtain ⟨-,Ar,H⟩:=H
   replace H:=iq' H
   rcases H with ⟨c7,Ah,Ai,H⟩|⟨-,Ah,Ai,H⟩
   · obtain rfl:=j5 H
     have A3:0≤(A2:Int):=oda
     have A4:A2<(l0.length:Int):=oda
     obtain ⟨Ae,A9,A7⟩:=Kd.at_int An.o A2 A3 A4
     cases A9
     replace A3:=eq_true A3
     replace A4:=eq_true A4
     have A5:0≤(A2:Int):=oda
     have A6:A2<(l1.length:Int):=oda
     obtain ⟨Af,Aa,A8⟩:=Kd.at_int Ao.o A2 A5 A6
     cases Aa
     replace A5:=eq_true A5
     replace A6:=eq_true A6
     try go_wp2
     repeat (go_quiet (fail);try go_wp2)
     go_ret
     exact ⟨by first|rfl|(simp;done)|(simp [*];done),by repeat (first|exact Drawn0.refl _|apply Drawn0.step)⟩
   have H':=am H
   clear H
   have A3:0≤(A2:Int):=oda
   have A4:A2<(l0.length:Int):=oda
   obtain ⟨Ae,A9,A7⟩:=Kd.at_int An.o A2 A3 A4
   cases A9
   replace A3:=eq_true A3
   replace A4:=eq_true A4
   have A5:0≤(A2:Int):=oda
   have A6:A2<(l1.length:Int):=oda
   obtain ⟨Af,Aa,A8⟩:=Kd.at_int Ao.o A2 A5 A6
   cases Aa
   replace A5:=eq_true A5
   replace A6:=eq_true A6
   try go_wp2
   repeat (go_quiet (fail);try go_wp2)
   go_roundg k1
   case measure=>have:=Ap.o;omega
   case rel=>exact ⟨(wrap64 (A2+1)),sq,H',⟨by have:=Ap.o;omega⟩,by repeat (first|exact Drawn0.refl _|apply Drawn0.step)⟩
def eY.f (k:Nat) (A0:Int) (A1:Int) (A2:ByteArray) (A3:List Int) (A4:Int) (A5:Int) (A6:ByteArray) (A7:List Int):Option (Bool):=if A0=A4 then (if A1=A5 then (if A2.toList=A6.toList then ((cU.f k A3 A7).bind fun A8=>(if A8=true then (some true) else (some false))) else (some false)) else (some false)) else (some false)
theorem eY.calls (k:Nat) (Ae:Int) (Af:Int) (Ag:ByteArray) (Ah:Option Addr) (Ai:Nat) (A1:List Int) (Aj:Int) (Ak:Int) (Al:ByteArray) (Am:Option Addr) (An:Nat) (A2:List Int) (r:Bool) (w:World) (A6:Kd.C (Kd.int .i64) w Ah A1.length A1) (A7:A1.length≤Ai) (A8:Kd.C (Kd.int .i64) w Am A2.length A2) (A9:A2.length≤An) (h:eY.f k Ae Af Ag A1 Aj Ak Al A2=some r):
 Calls Try.prog 19 #[.agg #[.int .i64 Ae,.int .i64 Af,.string Ag,.slice Ah A1.length Ai],.agg #[.int .i64 Aj,.int .i64 Ak,.string Al,.slice Am A2.length An]] w fun e w'=>e=.returned (.bool r)∧Below w.heap.size w w':=by
 have Bk:=Try.underlying29
 have Aa:=am A6
 have Ab:=am A7
 clear A6 A7
 have Ac:=am A8
 have Ad:=am A9
 clear A8 A9
 have HB:=am (Below.refl w.heap.size w)
 have H:=h
 clear h
 unfold eY.f at H
 replace H:=iq' H
 rcases H with ⟨c3,B9,Ba,H⟩|⟨-,B9,Ba,H⟩
 have z0:=trivial
 rotate_left
 replace H:=iq' H
 rcases H with ⟨c4,Bb,Bc,H⟩|⟨-,Bb,Bc,H⟩
 have z0:=trivial
 rotate_left
 replace H:=iq' H
 rcases H with ⟨c5,Bd,Be,H⟩|⟨-,Bd,Be,H⟩
 have z0:=trivial
 rotate_left
 replace H:=be H
 obtain ⟨B6,Bf,H⟩:=H
 rcases bt B6 with rfl|rfl
 replace H:=iT H
 have z1:=trivial
 rotate_left
 replace H:=iF H
 have z2:=trivial
 rotate_right
 rotate_right
 rotate_right
 rotate_right
 all_goals
  obtain rfl:=j5 H
  go_enter Try.func19,Try.ntmps19
  go_wp2_with (first|((with_reducible refine aM (N:=2) rfl ?_);refine bxe 2 #[.int .i64 Ae,.int .i64 Af,.string Ag,.slice Ah A1.length Ai] 29 ?_;intro Bg hg w_ hbox hb;have n_:=ak4 (aA (bq HB.o) hb) hbox (bz hg (bq HB.o)) (bz hg (bq HB.o));clear HB;obtain ⟨HB,A0,Bh,A3⟩:=n_;clear hb hbox hg)|((with_reducible refine aM (N:=3) rfl ?_);refine bxe 3 #[.int .i64 Aj,.int .i64 Ak,.string Al,.slice Am A2.length An] 29 ?_;intro Bi hg w_ hbox hb;have n_:=ak7 (kb A0 hb) (aA (bq1 HB.o A3.o) hb) hbox (bz hg (bq1 HB.o A3.o)) (bz hg (bq1 HB.o A3.o)) (nL hg A0) (nG hg A0);clear A0 HB;obtain ⟨A0,HB,B7,Bj,B8,A4,A5⟩:=n_;clear hb hbox hg;have Ao:=A4.o;have Ap:=A5.o;obtain ⟨Aq,Ar,As,At,Au,Av,Aw,Ax⟩:=cl4 A0.o;obtain ⟨Ay,Az,B0,B1,B2,B3,B4,B5⟩:=cl4 B7.o)|((with_reducible refine aD (f:=72) rfl ?_);have:=z2;refine gc (some 24) (cU.calls k _ _ A1 _ _ A2 false _ (cq (Kd.C_below Aa.o HB.o)) Ab.o (cq (Kd.C_below Ac.o HB.o)) Ad.o Bf.o) Try.func72 ?_;rintro e w' ⟨rfl,⟨nd,rfl⟩⟩;refine ⟨_,rfl,?_⟩)|((with_reducible refine aD (f:=72) rfl ?_);have:=z1;refine gc (some 24) (cU.calls k _ _ A1 _ _ A2 true _ (cq (Kd.C_below Aa.o HB.o)) Ab.o (cq (Kd.C_below Ac.o HB.o)) Ad.o Bf.o) Try.func72 ?_;rintro e w' ⟨rfl,⟨nd,rfl⟩⟩;refine ⟨_,rfl,?_⟩))
  go_ret
  exact ⟨rq,bq2 HB.o A3.o B8.o⟩
def eV.f (k:Nat) (A0:List Int) (A1:Int) (A2:Int) (A3:ByteArray) (A4:List Int) (A5:List Int) (A6:Int) (A7:Int) (A8:ByteArray) (A9:List Int):Option (Bool):=(cU.f k A0 A5).bind fun Aa=>(if Aa=true then ((eY.f k A1 A2 A3 A4 A6 A7 A8 A9).bind fun Ab=>(if Ab=true then (some true) else (some false))) else (some false))
theorem eV.calls (k:Nat) (Aw:Option Addr) (Ax:Nat) (A4:List Int) (Aa:Int) (Ab:Int) (Ac:ByteArray) (Ay:Option Addr) (Az:Nat) (A5:List Int) (B0:Option Addr) (B1:Nat) (A6:List Int) (Ad:Int) (Ae:Int) (Af:ByteArray) (B2:Option Addr) (B3:Nat) (A7:List Int) (r:Bool) (w:World) (Ag:Kd.C (Kd.int .i64) w Aw A4.length A4) (Ah:A4.length≤Ax) (Ai:Kd.C (Kd.int .i64) w Ay A5.length A5) (Aj:A5.length≤Az) (Ak:Kd.C (Kd.int .i64) w B0 A6.length A6) (Al:A6.length≤B1) (Am:Kd.C (Kd.int .i64) w B2 A7.length A7) (An:A7.length≤B3) (h:eV.f k A4 Aa Ab Ac A5 A6 Ad Ae Af A7=some r):
 Calls Try.prog 130 #[.agg #[.slice Aw A4.length Ax,.int .i64 Aa,.int .i64 Ab,.string Ac,.slice Ay A5.length Az],.agg #[.slice B0 A6.length B1,.int .i64 Ad,.int .i64 Ae,.string Af,.slice B2 A7.length B3]] w fun e w'=>e=.returned (.bool r)∧Below w.heap.size w w':=by
 have Bs:=Try.underlying116
 have Bz:=Try.underlying29
 have Ao:=am Ag
 have Ap:=am Ah
 clear Ag Ah
 have Aq:=am Ai
 have Ar:=am Aj
 clear Ai Aj
 have As:=am Ak
 have At:=am Al
 clear Ak Al
 have Au:=am Am
 have Av:=am An
 clear Am An
 have HB:=am (Below.refl w.heap.size w)
 have H:=h
 clear h
 unfold eV.f at H
 replace H:=be H
 obtain ⟨Bq,Bt,H⟩:=H
 cases Bq
 replace H:=iF H
 have z0:=trivial
 rotate_left
 replace H:=iT H
 replace H:=be H
 obtain ⟨Br,Bu,H⟩:=H
 rcases bt Br with rfl|rfl
 replace H:=iT H
 have z1:=trivial
 rotate_left
 replace H:=iF H
 have z2:=trivial
 rotate_right
 rotate_right
 all_goals
  obtain rfl:=j5 H
  go_enter Try.func130,Try.ntmps130
  go_wp2_with (first|((with_reducible refine aM (N:=2) rfl ?_);refine bxe 2 #[.slice Aw A4.length Ax,.int .i64 Aa,.int .i64 Ab,.string Ac,.slice Ay A5.length Az] 116 ?_;intro Bv hg w_ hbox hb;have n_:=ak4 (aA (bq HB.o) hb) hbox (bz hg (bq HB.o)) (bz hg (bq HB.o));clear HB;obtain ⟨HB,A0,Bw,A1⟩:=n_;clear hb hbox hg)|((with_reducible refine aM (N:=3) rfl ?_);refine bxe 3 #[.slice B0 A6.length B1,.int .i64 Ad,.int .i64 Ae,.string Af,.slice B2 A7.length B3] 116 ?_;intro Bx hg w_ hbox hb;have n_:=ak7 (kb A0 hb) (aA (bq1 HB.o A1.o) hb) hbox (bz hg (bq1 HB.o A1.o)) (bz hg (bq1 HB.o A1.o)) (nL hg A0) (nG hg A0);clear A0 HB;obtain ⟨A0,HB,A2,By,A3,A8,A9⟩:=n_;clear hb hbox hg;have B4:=A8.o;have B5:=A9.o;obtain ⟨B6,B7,B8,B9,Ba,Bb,Bc,Bd,Be,Bf⟩:=cl5 A0.o;obtain ⟨Bg,Bh,Bi,Bj,Bk,Bl,Bm,Bn,Bo,Bp⟩:=cl5 A2.o)|((with_reducible refine aD (f:=72) rfl ?_);have:=z0;refine gc (some 9) (cU.calls k _ _ A4 _ _ A6 false _ (cq (Kd.C_below Ao.o HB.o)) Ap.o (cq (Kd.C_below As.o HB.o)) At.o Bt.o) Try.func72 ?_;rintro e w' ⟨rfl,⟨nd,rfl⟩⟩;refine ⟨_,rfl,?_⟩)|((with_reducible refine aD (f:=72) rfl ?_);(first|have:=z1|have:=z2);refine gc (some 9) (cU.calls k _ _ A4 _ _ A6 true _ (cq (Kd.C_below Ao.o HB.o)) Ap.o (cq (Kd.C_below As.o HB.o)) At.o Bt.o) Try.func72 ?_;rintro e w' ⟨rfl,⟨nd,rfl⟩⟩;refine ⟨_,rfl,?_⟩)|((with_reducible refine aD (f:=19) rfl ?_);have:=z2;refine gc (some 15) (eY.calls k Aa Ab Ac _ _ A5 Ad Ae Af _ _ A7 false _ (cq (Kd.C_below Aq.o (bq2 HB.o A1.o A3.o))) Ar.o (cq (Kd.C_below Au.o (bq2 HB.o A1.o A3.o))) Av.o Bu.o) Try.func19 ?_;rintro e w_ ⟨rfl,hb⟩;refine ⟨_,rfl,?_⟩;have n_:=ak3 (kb A0 hb) (kb A2 hb) (aA (bq2 HB.o A1.o A3.o) hb);clear A0 A2 HB;obtain ⟨A0,A2,HB⟩:=n_;(try clear hb))|((with_reducible refine aD (f:=19) rfl ?_);have:=z1;refine gc (some 15) (eY.calls k Aa Ab Ac _ _ A5 Ad Ae Af _ _ A7 true _ (cq (Kd.C_below Aq.o (bq2 HB.o A1.o A3.o))) Ar.o (cq (Kd.C_below Au.o (bq2 HB.o A1.o A3.o))) Av.o Bu.o) Try.func19 ?_;rintro e w_ ⟨rfl,hb⟩;refine ⟨_,rfl,?_⟩;have n_:=ak3 (kb A0 hb) (kb A2 hb) (aA (bq2 HB.o A1.o A3.o) hb);clear A0 A2 HB;obtain ⟨A0,A2,HB⟩:=n_;(try clear hb)))
  go_ret
  exact ⟨rq,bq2 HB.o A1.o A3.o⟩
end Go.Proofs.Ythhnfmbfgplelaa.XFnExactGetMsg
