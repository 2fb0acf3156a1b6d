/- The functions that one law reaches, as Lean functions, with their walks: printed by a program of this seat (wip/tools) out of the translation. -/
import Derived.Test.YthhnfmbfgplelaaXFnExactGetPdux0
namespace Go.Proofs.Ythhnfmbfgplelaa.XFnExactGetPdu
open Go.RowKit Go.Proofs.YthhnfmbfgplelaaW.PrintWords Go.Proofs.YthhnfmbfgplelaaW.PrintLast Go.Proofs.YthhnfmbfgplelaaW.PrintMore
attribute [local go_sem] cQ cR dM dN cB cC cS cT
set_option linter.unusedVariables false
set_option linter.unusedSimpArgs false
set_option maxHeartbeats 8000000
set_option maxRecDepth 100000
def dP.l0:Nat→List Int→List Int→Int→Int→Option (Bool)
 |0,_,_,_,_=>none
 |k+1,x0,x1,A1,A0=>if A0<A1 then (if 0≤A0 then (if A0<(x0.length:Int) then (if A0<(x1.length:Int) then (if (rd x0 A0)=(rd x1 A0) then (dP.l0 k x0 x1 A1 (wrap64 (A0+1))) else (some false)) else (none)) else (none)) else (none)) else (some true)
def dP.f (k:Nat) (l0:List Int) (l1:List Int):Option (Bool):=if (l0.length:Int)=(l1.length:Int) then (dP.l0 k l0 l1 (l0.length:Int) 0) else (some false)
theorem dP.calls (k:Nat) (A0:Option Addr) (c0:Nat) (l0:List Int) (A1:Option Addr) (c1:Nat) (l1:List Int) (r:Bool) (w:World) (Aj:Kd.C (Kd.int .i64) w A0 l0.length l0) (Ak:l0.length≤c0) (Al:Kd.C (Kd.int .i64) w A1 l1.length l1) (Am:l1.length≤c1) (h:dP.f k l0 l1=some r):
 Calls Try.prog 112 #[.slice A0 l0.length c0,.slice A1 l1.length c1] w fun e w'=>e=.returned (.bool r)∧Drawn0 w w':=by
 have An:=am Aj
 have Au:=am Ak
 clear Aj Ak
 have Ao:=am Al
 have Av:=am Am
 clear Al Am
 have H:=h
 clear h
 unfold dP.f at H
 replace H:=iq' H
 rcases H with ⟨c3,Ab,Ac,H⟩|⟨c3,Ab,Ac,H⟩
 · have Ad:(l0.length==l1.length)=false:=by first|simpa using c3|(simp at c3 ⊢;omega)
   obtain rfl:=jU H
   go_enter Try.func112,Try.ntmps112
   go_wp2
   go_ret
   exact ⟨by first|rfl|(simp;done)|(simp [*];done),by repeat (first|exact Drawn0.refl _|apply Drawn0.step)⟩
 have Ad:(l0.length==l1.length)=true:=by first|simpa using c3|(simp at c3 ⊢;omega)
 clear c3
 have H':=am H
 clear H
 go_enter Try.func112,Try.ntmps112
 go_wp2
 go_loopg [13] k (fun kq Aq w'=>∃(A2:Int),Aq=.int .i64 A2∧Aside0 (dP.l0 kq l0 l1 (l0.length:Int) A2=some r)∧Aside0 (kq≤k)∧Drawn0 w w')
 case atStart=>exact ⟨(0),sq,H',⟨jV _⟩,by repeat (first|exact Drawn0.refl _|apply Drawn0.step)⟩
 case round=>
  clear H'
  try clear c1
  try clear p2
  try clear c3
  try clear Ab
  try clear Ac
  try clear Ad
  obtain ⟨A2,rfl,HA,Ap,⟨m1,rfl⟩⟩:=hrel
  cases gk with
  |zero=>exact absurd HA.o (by simp [dP.l0])
  |succ k1=>
   have H:=HA.o
   clear HA
   simp only [dP.l0] at H
   replace H:=il' H
   rcases H with ⟨-,Ag,H⟩|⟨-,Ag,H⟩
   · obtain rfl:=jU H
     go_wp2
     go_ret
     exact ⟨by first|rfl|(simp;done)|(simp [*];done),by repeat (first|exact Drawn0.refl _|apply Drawn0.step)⟩
   replace H:=nl H
   obtain ⟨-,Ar,H⟩:=H
   replace H:=nl H
   obtain ⟨-,As,H⟩:=H
   replace H:=nl H
   obtain ⟨-,At,H⟩:=H
   replace H:=iq' H
   rcases H with ⟨c8,Ah,Ai,H⟩|⟨-,Ah,Ai,H⟩
   · obtain rfl:=jU H
     have A3:0≤(A2:Int):=oda
     have A4:A2<(l0.length:Int):=oda
     obtain ⟨Ae,A9,A7⟩:=Kd.at_int An.o A2 A3 A4
     cases A9
     replace A3:=eq_true A3
     replace A4:=eq_true A4
     have A5:0≤(A2:Int):=oda
     have A6:A2<(l1.length:Int):=oda
     obtain ⟨Af,Aa,A8⟩:=Kd.at_int Ao.o A2 A5 A6
     cases Aa
     replace A5:=eq_true A5
     replace A6:=eq_true A6
     try go_wp2
     repeat (go_quiet (fail);try go_wp2)
     go_ret
     exact ⟨by first|rfl|(simp;done)|(simp [*];done),by repeat (first|exact Drawn0.refl _|apply Drawn0.step)⟩
   have H':=am H
   clear H
   have A3:0≤(A2:Int):=oda
   have A4:A2<(l0.length:Int):=oda
   obtain ⟨Ae,A9,A7⟩:=Kd.at_int An.o A2 A3 A4
   cases A9
   replace A3:=eq_true A3
   replace A4:=eq_true A4
   have A5:0≤(A2:Int):=oda
   have A6:A2<(l1.length:Int):=oda
   obtain ⟨Af,Aa,A8⟩:=Kd.at_int Ao.o A2 A5 A6
   cases Aa
   replace A5:=eq_true A5
   replace A6:=eq_true A6
   try go_wp2
   repeat (go_quiet (fail);try go_wp2)
   go_roundg k1
   case measure=>have:=Ap.o;omega
   case rel=>exact ⟨(wrap64 (A2+1)),sq,H',⟨by have:=Ap.o;omega⟩,by repeat (first|exact Drawn0.refl _|apply Drawn0.step)⟩
def dB.f (k:Nat) (A0:Int) (A1:Int) (A2:ByteArray) (A3:List Int) (A4:Int) (A5:Int) (A6:ByteArray) (A7:List Int):Option (Bool):=if A0=A4 then (if A1=A5 then (if A2.toList=A6.toList then ((dP.f k A3 A7).bind fun A8=>(some A8)) else (some false)) else (some false)) else (some false)
theorem dB.calls (k:Nat) (Aa:Int) (Ab:Int) (Ac:ByteArray) (Ad:Option Addr) (Ae:Nat) (A1:List Int) (Af:Int) (Ag:Int) (Ah:ByteArray) (Ai:Option Addr) (Aj:Nat) (A2:List Int) (r:Bool) (w:World) (A6:Kd.C (Kd.int .i64) w Ad A1.length A1) (A7:A1.length≤Ae) (A8:Kd.C (Kd.int .i64) w Ai A2.length A2) (A9:A2.length≤Aj) (h:dB.f k Aa Ab Ac A1 Af Ag Ah A2=some r):
 Calls Try.prog 49 #[.agg #[.int .i64 Aa,.int .i64 Ab,.string Ac,.slice Ad A1.length Ae],.agg #[.int .i64 Af,.int .i64 Ag,.string Ah,.slice Ai A2.length Aj]] w fun e w'=>e=.returned (.bool r)∧Below w.heap.size w w':=by
 have Bj:=Try.underlying29
 have B2:=am A6
 have B3:=am A7
 clear A6 A7
 have B4:=am A8
 have B5:=am A9
 clear A8 A9
 have HB:=am (Below.refl w.heap.size w)
 have H:=h
 clear h
 unfold dB.f at H
 replace H:=iq' H
 rcases H with ⟨c3,B9,Ba,H⟩|⟨-,B9,Ba,H⟩
 rotate_left
 replace H:=iq' H
 rcases H with ⟨c4,Bb,Bc,H⟩|⟨-,Bb,Bc,H⟩
 rotate_left
 replace H:=iq' H
 rcases H with ⟨c5,Bd,Be,H⟩|⟨-,Bd,Be,H⟩
 rotate_left
 replace H:=be H
 obtain ⟨B6,Bk,H⟩:=H
 rotate_right
 rotate_right
 rotate_right
 all_goals
  obtain rfl:=jU H
  go_enter Try.func49,Try.ntmps49
  go_wp2_with (first|((with_reducible refine aQ (N:=2) rfl ?_);refine bxe 2 #[.int .i64 Aa,.int .i64 Ab,.string Ac,.slice Ad A1.length Ae] 29 ?_;intro Bf hg w_ hbox hb;have n_:=ak4 (aA (bq HB.o) hb) hbox (bz hg (bq HB.o)) (bz hg (bq HB.o));clear HB;obtain ⟨HB,A0,Bg,A3⟩:=n_;clear hb hbox hg)|((with_reducible refine aQ (N:=3) rfl ?_);refine bxe 3 #[.int .i64 Af,.int .i64 Ag,.string Ah,.slice Ai A2.length Aj] 29 ?_;intro Bh hg w_ hbox hb;have n_:=ak7 (kb A0 hb) (aA (bq1 HB.o A3.o) hb) hbox (bz hg (bq1 HB.o A3.o)) (bz hg (bq1 HB.o A3.o)) (nL hg A0) (nG hg A0);clear A0 HB;obtain ⟨A0,HB,B7,Bi,B8,A4,A5⟩:=n_;clear hb hbox hg;have Ak:=A4.o;have Al:=A5.o;obtain ⟨Am,An,Ao,Ap,Aq,Ar,As,At⟩:=cl4 A0.o;obtain ⟨Au,Av,Aw,Ax,Ay,Az,B0,B1⟩:=cl4 B7.o)|(go_at_call 112;refine cm (dP.calls k _ _ A1 _ _ A2 B6 _ (cq (Kd.C_below B2.o HB.o)) B3.o (cq (Kd.C_below B4.o HB.o)) B5.o Bk.o) ?_;rintro e w' ⟨rfl,⟨nd,rfl⟩⟩))
  go_ret
  exact ⟨rq,bq2 HB.o A3.o B8.o⟩
def bN.f (a0:Int) (a1:Int) (a2:Int):Option (Bool):=if a0≥a1 then (some (decide (a0≤a2))) else (some false)
theorem bN.calls (a0:Int) (a1:Int) (a2:Int) (r:Bool) (w:World) (h:bN.f a0 a1 a2=some r):
 Calls Try.prog 87 #[.int .i64 a0,.int .i64 a1,.int .i64 a2] w fun e w'=>e=.returned (.bool r)∧Drawn0 w w':=by
 have H:=h
 clear h
 unfold bN.f at H
 replace H:=ip H
 rcases H with ⟨c4,H⟩|⟨c4,H⟩
 have A0:decide (a1≤a0)=true:=jW c4
 clear c4
 rotate_left
 have A0:decide (a1≤a0)=false:=decide_eq_false c4
 clear c4
 rotate_right
 all_goals
  obtain rfl:=jU H
  go_enter Try.func87,Try.ntmps87
  go_wp2
  go_ret
  exact ⟨by first|rfl|(simp;done)|(simp [*];done),by repeat (first|exact Drawn0.refl _|apply Drawn0.step)⟩
def eJ.f (a0:Int):Option (Bool):=(bN.f a0 (-2147483648) 2147483647).bind fun A0=>(some A0)
theorem eJ.calls (a0:Int) (r:Bool) (w:World) (h:eJ.f a0=some r):
 Calls Try.prog 107 #[.int .i64 a0] w fun e w'=>e=.returned (.bool r)∧Drawn0 w w':=by
 have H:=h
 clear h
 unfold eJ.f at H
 replace H:=be H
 obtain ⟨A0,A1,H⟩:=H
 obtain rfl:=jU H
 go_enter Try.func107,Try.ntmps107
 go_wp2_with (first|((with_reducible refine aD (f:=87) rfl ?_);refine gc (some 4) (bN.calls a0 (-2147483648) 2147483647 A0 _ A1.o) Try.func87 ?_;rintro e w' ⟨rfl,⟨nd,rfl⟩⟩;refine ⟨_,rfl,?_⟩))
 go_ret
 exact ⟨by first|rfl|(simp;done)|(simp [*];done),by repeat (first|exact Drawn0.refl _|apply Drawn0.step)⟩
def cH.l0:Nat→List Int→List Int→Int→Int→Option (Bool)
 |0,_,_,_,_=>none
 |k+1,x0,x5,x6,x7=>if x7<x6 then (if 0≤x7 then (if x7<(x5.length:Int) then ((bN.f (rd x5 x7) 0 100000).bind fun A0=>(if A0=true then (cH.l0 k x0 x5 x6 (wrap64 (x7+1))) else (some false))) else (none)) else (none)) else ((bN.f (x0.length:Int) 1 10).bind fun A1=>(some A1))
def cH.f (k:Nat) (l0:List Int):Option (Bool):=cH.l0 k l0 l0 (l0.length:Int) 0
theorem cH.calls (k:Nat) (A0:Option Addr) (c0:Nat) (l0:List Int) (r:Bool) (w:World) (Ac:Kd.C (Kd.int .i64) w A0 l0.length l0) (Ad:l0.length≤c0) (h:cH.f k l0=some r):
 Calls Try.prog 108 #[.slice A0 l0.length c0] w fun e w'=>e=.returned (.bool r)∧Drawn0 w w':=by
 have Ae:=am Ac
 have Ai:=am Ad
 clear Ac Ad
 have H:=h
 clear h
 unfold cH.f at H
 have H':=am H
 clear H
 go_enter Try.func108,Try.ntmps108
 go_wp2
 go_loopg [7] k (fun kq v7 w'=>∃(A1:Int),v7=.int .i64 A1∧Aside0 (cH.l0 kq l0 l0 (l0.length:Int) A1=some r)∧Aside0 (kq≤k)∧Drawn0 w w')
 case atStart=>exact ⟨(0),sq,H',⟨jV _⟩,by repeat (first|exact Drawn0.refl _|apply Drawn0.step)⟩
 case round=>
  clear H'
  try clear c1
  obtain ⟨A1,rfl,HA,Af,⟨m1,rfl⟩⟩:=hrel
  cases gk with
  |zero=>exact absurd HA.o (by simp [cH.l0])
  |succ k1=>
   have H:=HA.o
   clear HA
   simp only [cH.l0] at H
   replace H:=il' H
   rcases H with ⟨-,A9,H⟩|⟨-,A9,H⟩
   · replace H:=be H
     obtain ⟨Aa,A7,H⟩:=H
     obtain rfl:=jU H
     go_wp2_with (first|((with_reducible refine aD (f:=87) rfl ?_);refine gc (some 17) (bN.calls (l0.length:Int) 1 10 Aa _ A7.o) Try.func87 ?_;rintro e w' ⟨rfl,⟨nd,rfl⟩⟩;refine ⟨_,rfl,?_⟩))
     go_ret
     exact ⟨by first|rfl|(simp;done)|(simp [*];done),by repeat (first|exact Drawn0.refl _|apply Drawn0.step)⟩
   replace H:=nl H
   obtain ⟨-,Ag,H⟩:=H
   replace H:=nl H
   obtain ⟨-,Ah,H⟩:=H
   replace H:=be H
   obtain ⟨Ab,A5,H⟩:=H
   cases Ab
   · replace H:=iF H
     obtain rfl:=jU H
     have A2:0≤(A1:Int):=oda
     have A3:A1<(l0.length:Int):=oda
     obtain ⟨A8,A6,A4⟩:=Kd.at_int Ae.o A1 A2 A3
     cases A6
     replace A2:=eq_true A2
     replace A3:=eq_true A3
     go_wp2_with (first|((with_reducible refine aD (f:=87) rfl ?_);refine gc (some 12) (bN.calls (rd l0 A1) 0 100000 false _ A5.o) Try.func87 ?_;rintro e w' ⟨rfl,⟨nd,rfl⟩⟩;refine ⟨_,rfl,?_⟩))
     go_ret
     exact ⟨by first|rfl|(simp;done)|(simp [*];done),by repeat (first|exact Drawn0.refl _|apply Drawn0.step)⟩
   replace H:=iT H
   have H':=am H
   clear H
   have A2:0≤(A1:Int):=oda
   have A3:A1<(l0.length:Int):=oda
   obtain ⟨A8,A6,A4⟩:=Kd.at_int Ae.o A1 A2 A3
   cases A6
   replace A2:=eq_true A2
   replace A3:=eq_true A3
   go_wp2_with (first|((with_reducible refine aD (f:=87) rfl ?_);refine gc (some 12) (bN.calls (rd l0 A1) 0 100000 true _ A5.o) Try.func87 ?_;rintro e w' ⟨rfl,⟨nd,rfl⟩⟩;refine ⟨_,rfl,?_⟩))
   go_roundg k1
   case measure=>have:=Af.o;omega
   case rel=>exact ⟨(wrap64 (A1+1)),sq,H',⟨by have:=Af.o;omega⟩,by repeat (first|exact Drawn0.refl _|apply Drawn0.step)⟩
def cA.f (k:Nat) (A0:Int) (A1:Int) (A2:ByteArray) (A3:List Int):Option (Bool):=if A0=2 then ((eJ.f A1).bind fun A4=>(if A4=true then ((dB.f k A0 A1 A2 A3 A0 A1 (⟨#[]⟩:ByteArray) ([]:List Int)).bind fun A5=>(some A5)) else (some false))) else (if A0=4 then (if (A2.size:Int)≤20 then ((dB.f k A0 A1 A2 A3 A0 0 A2 ([]:List Int)).bind fun A6=>(some A6)) else (some false)) else (if A0=6 then ((cH.f k A3).bind fun A7=>(if A7=true then ((dB.f k A0 A1 A2 A3 A0 0 (⟨#[]⟩:ByteArray) A3).bind fun A8=>(some A8)) else (some false))) else (if A0=5 then ((dB.f k A0 A1 A2 A3 A0 0 (⟨#[]⟩:ByteArray) ([]:List Int)).bind fun A9=>(some A9)) else (if A0=128 then ((dB.f k A0 A1 A2 A3 A0 0 (⟨#[]⟩:ByteArray) ([]:List Int)).bind fun Aa=>(some Aa)) else (if A0=130 then ((dB.f k A0 A1 A2 A3 A0 0 (⟨#[]⟩:ByteArray) ([]:List Int)).bind fun Ab=>(some Ab)) else (some false))))))
theorem cA.calls (k:Nat) (A3:Int) (A7:Int) (A8:ByteArray) (Ac:Option Addr) (Ad:Nat) (A6:List Int) (r:Bool) (w:World) (Ay:Kd.C (Kd.int .i64) w Ac A6.length A6) (Az:A6.length≤Ad) (h:cA.f k A3 A7 A8 A6=some r):
 Calls Try.prog 46 #[.agg #[.int .i64 A3,.int .i64 A7,.string A8,.slice Ac A6.length Ad]] w fun e w'=>e=.returned (.bool r)∧Below w.heap.size w w':=by
 have Bn:=Try.underlying29
 have Aa:=am Ay
 have Ab:=am Az
 clear Ay Az
 have HB:=am (Below.refl w.heap.size w)
 have H:=h
 clear h
 unfold cA.f at H
 replace H:=iq H
 rcases H with ⟨-,Bg,Bh,H⟩|⟨c2,Bg,Bh,H⟩
 replace H:=be H
 obtain ⟨B2,Bj,H⟩:=H
 cases B2
 replace H:=iF H
 have z0:=trivial
 rotate_left
 replace H:=iT H
 replace H:=be H
 obtain ⟨A9,Ax,H⟩:=H
 have z1:=trivial
 rotate_right
 rotate_left 2
 replace H:=iq H
 rcases H with ⟨-,B3,B4,H⟩|⟨Bo,B3,B4,H⟩
 replace H:=il' H
 rcases H with ⟨Bi,B5,H⟩|⟨Bi,B5,H⟩
 have B6:decide (A8.size≤20)=false:=decide_eq_false (by omega)
 clear Bi
 have z2:=trivial
 rotate_left
 have B6:decide (A8.size≤20)=true:=jW (by omega)
 clear Bi
 replace H:=be H
 obtain ⟨A9,Ax,H⟩:=H
 have z3:=trivial
 rotate_right
 rotate_left 2
 replace H:=iq H
 rcases H with ⟨-,B7,B8,H⟩|⟨Bp,B7,B8,H⟩
 replace H:=be H
 obtain ⟨B9,Bk,H⟩:=H
 cases B9
 replace H:=iF H
 have z4:=trivial
 rotate_left
 replace H:=iT H
 replace H:=be H
 obtain ⟨A9,Ax,H⟩:=H
 have z5:=trivial
 rotate_right
 rotate_left 2
 replace H:=iq H
 rcases H with ⟨-,Ba,Bb,H⟩|⟨Bq,Ba,Bb,H⟩
 replace H:=be H
 obtain ⟨A9,Ax,H⟩:=H
 have z6:=trivial
 rotate_left
 replace H:=iq H
 rcases H with ⟨-,Bc,Bd,H⟩|⟨Br,Bc,Bd,H⟩
 replace H:=be H
 obtain ⟨A9,Ax,H⟩:=H
 have z6:=trivial
 rotate_left
 replace H:=iq' H
 rcases H with ⟨Bs,Be,Bf,H⟩|⟨-,Be,Bf,H⟩
 have z2:=trivial
 rotate_left
 replace H:=be H
 obtain ⟨A9,Ax,H⟩:=H
 have z6:=trivial
 rotate_right
 rotate_right
 rotate_right
 rotate_right 2
 rotate_right 2
 rotate_right 2
 all_goals
  obtain rfl:=jU H
  go_enter Try.func46,Try.ntmps46
  go_wp2_with (first|((with_reducible refine aQ (N:=1) rfl ?_);refine bxe 1 #[.int .i64 A3,.int .i64 A7,.string A8,.slice Ac A6.length Ad] 29 ?_;intro Aw hg w_ hbox hb;have n_:=ak4 (aA (bq HB.o) hb) hbox (bz hg (bq HB.o)) (bz hg (bq HB.o));clear HB;obtain ⟨HB,A0,Bl,A2⟩:=n_;clear hb hbox hg;obtain ⟨Af,Ag,Ah,Ai,Aj,Ak,Al,Am⟩:=cl4 A0.o)|((with_reducible refine aQ (N:=3) rfl ?_);refine bxe 3 #[.int .i64 0,.int .i64 0,.string (⟨#[]⟩:ByteArray),.slice none 0 0] 29 ?_;intro Ae hg w_ hbox hb;have n_:=ak7 (kb A0 hb) (aA (bq1 HB.o A2.o) hb) hbox (bz hg (bq1 HB.o A2.o)) (bz hg (bq1 HB.o A2.o)) (nL hg A0) (nG hg A0);clear A0 HB;obtain ⟨A0,HB,A1,Bm,A5,A4,An⟩:=n_;clear hb hbox hg;have B0:=An.o;have B1:=A4.o;obtain ⟨Ao,Ap,Aq,Ar,As,At,Au,Av⟩:=cl4 A1.o)|((with_reducible refine aG (t:=29) (p:=3) rfl ?_);refine se 29 3 (s4 w_ Ae (.int .i64 A3) (.int .i64 0) (.string (⟨#[]⟩:ByteArray)) (.slice none 0 0)) ?_;intro w_ hw;have n_:=ak3 (sf4 hw A0 A4) (sc4 hw A1) (sb hw (bq2 HB.o A2.o A5.o));clear hw A0 A1 HB;obtain ⟨A0,A1,HB⟩:=n_;obtain ⟨Af,Ag,Ah,Ai,Aj,Ak,Al,Am⟩:=cl4 A0.o;obtain ⟨Ao,Ap,Aq,Ar,As,At,Au,Av⟩:=cl4 A1.o)|((with_reducible refine aD (f:=107) rfl ?_);have:=z0;refine gc (some 17) (eJ.calls A7 false _ Bj.o) Try.func107 ?_;rintro e w' ⟨rfl,⟨nd,rfl⟩⟩;refine ⟨_,rfl,?_⟩)|((with_reducible refine aD (f:=107) rfl ?_);have:=z1;refine gc (some 17) (eJ.calls A7 true _ Bj.o) Try.func107 ?_;rintro e w' ⟨rfl,⟨nd,rfl⟩⟩;refine ⟨_,rfl,?_⟩)|(go_at_call 49;have:=z5;refine cm (dB.calls k A3 A7 A8 _ _ A6 A3 0 (⟨#[]⟩:ByteArray) _ _ A6 A9 _ (Kd.C_below Aa.o (bq2 HB.o A2.o A5.o)) Ab.o (Kd.C_below Aa.o (bq2 HB.o A2.o A5.o)) Ab.o Ax.o) ?_;rintro e w_ ⟨rfl,hb⟩;have n_:=ak3 (bO (g:=Aw) (o:=.cells #[.int .i64 A3,.int .i64 A7,.string A8,.slice Ac A6.length Ad] 29 (0,0)) (by refine zr ?_;refine aT ?_ A4.o _;refine zr ?_;exact A0.o) hb) (bO (g:=Ae) (o:=.cells #[.int .i64 A3,.int .i64 0,.string (⟨#[]⟩:ByteArray),.slice Ac A6.length Ad] 29 (0,0)) (by refine zr ?_;refine a8 (cs:=#[.int .i64 A3,.int .i64 0,.string (⟨#[]⟩:ByteArray),.slice none 0 0]) ?_ 3 _ rfl;refine zr ?_;exact A1.o) hb) (aA (bq2 HB.o A2.o A5.o) hb);clear A0 A1 HB;obtain ⟨A0,A1,HB⟩:=n_;(try clear hb))|(go_at_call 49;have:=z1;refine cm (dB.calls k A3 A7 A8 _ _ A6 A3 A7 (⟨#[]⟩:ByteArray) _ _ ([]:List Int) A9 _ (Kd.C_below Aa.o (bq2 HB.o A2.o A5.o)) Ab.o (Kd.C_nil _ _) (jV _) Ax.o) ?_;rintro e w_ ⟨rfl,hb⟩;have n_:=ak3 (bO (g:=Aw) (o:=.cells #[.int .i64 A3,.int .i64 A7,.string A8,.slice Ac A6.length Ad] 29 (0,0)) (by refine zr ?_;refine aT ?_ A4.o _;refine zr ?_;exact A0.o) hb) (bO (g:=Ae) (o:=.cells #[.int .i64 A3,.int .i64 A7,.string (⟨#[]⟩:ByteArray),.slice none 0 0] 29 (0,0)) (by refine zr ?_;refine a8 (cs:=#[.int .i64 A3,.int .i64 0,.string (⟨#[]⟩:ByteArray),.slice none 0 0]) ?_ 1 _ rfl;refine zr ?_;exact A1.o) hb) (aA (bq2 HB.o A2.o A5.o) hb);clear A0 A1 HB;obtain ⟨A0,A1,HB⟩:=n_;(try clear hb))|(go_at_call 49;have:=z3;refine cm (dB.calls k A3 A7 A8 _ _ A6 A3 0 A8 _ _ ([]:List Int) A9 _ (Kd.C_below Aa.o (bq2 HB.o A2.o A5.o)) Ab.o (Kd.C_nil _ _) (jV _) Ax.o) ?_;rintro e w_ ⟨rfl,hb⟩;have n_:=ak3 (bO (g:=Aw) (o:=.cells #[.int .i64 A3,.int .i64 A7,.string A8,.slice Ac A6.length Ad] 29 (0,0)) (by refine zr ?_;refine aT ?_ A4.o _;refine zr ?_;exact A0.o) hb) (bO (g:=Ae) (o:=.cells #[.int .i64 A3,.int .i64 0,.string A8,.slice none 0 0] 29 (0,0)) (by refine zr ?_;refine a8 (cs:=#[.int .i64 A3,.int .i64 0,.string (⟨#[]⟩:ByteArray),.slice none 0 0]) ?_ 2 _ rfl;refine zr ?_;exact A1.o) hb) (aA (bq2 HB.o A2.o A5.o) hb);clear A0 A1 HB;obtain ⟨A0,A1,HB⟩:=n_;(try clear hb))|(go_at_call 49;have:=z6;refine cm (dB.calls k A3 A7 A8 _ _ A6 A3 0 (⟨#[]⟩:ByteArray) _ _ ([]:List Int) A9 _ (cq (Kd.C_below Aa.o HB.o)) Ab.o (Kd.C_nil _ _) (jV _) Ax.o) ?_;rintro e w_ ⟨rfl,hb⟩;have n_:=ak3 (kb A0 hb) (kb A1 hb) (aA (bq2 HB.o A2.o A5.o) hb);clear A0 A1 HB;obtain ⟨A0,A1,HB⟩:=n_;(try clear hb))|((with_reducible refine aD (f:=108) rfl ?_);have:=z4;refine gc (some 34) (cH.calls k _ _ A6 false _ (Kd.C_below Aa.o (bq2 HB.o A2.o A5.o)) Ab.o Bk.o) Try.func108 ?_;rintro e w' ⟨rfl,⟨nd,rfl⟩⟩;refine ⟨_,rfl,?_⟩)|((with_reducible refine aD (f:=108) rfl ?_);have:=z5;refine gc (some 34) (cH.calls k _ _ A6 true _ (Kd.C_below Aa.o (bq2 HB.o A2.o A5.o)) Ab.o Bk.o) Try.func108 ?_;rintro e w' ⟨rfl,⟨nd,rfl⟩⟩;refine ⟨_,rfl,?_⟩))
  go_ret
  exact ⟨rq,bq2 HB.o A2.o A5.o⟩
def cD.f (l0:List Int):Option (List Int):=if ([]:List Int).length+l0.length<140737488355328 then (some (([]:List Int)++l0)) else (none)
theorem cD.calls (A0:Option Addr) (c0:Nat) (l0:List Int) (r:List Int) (w:World) (A5:Kd.C (Kd.int .u8) w A0 l0.length l0) (A6:l0.length≤c0) (h:cD.f l0=some r):
 Calls Try.prog 68 #[.slice A0 l0.length c0] w fun e w'=>∃A7:Value,e=.returned (A7)∧Kd.R (Kd.int .u8) 5 w' w.heap.size (fun _=>True) A7 r∧Below w.heap.size w w':=by
 have A8:=am A5
 have Ab:=am A6
 clear A5 A6
 have HB:=am (Below.refl w.heap.size w)
 have H:=h
 clear h
 unfold cD.f at H
 replace H:=nq H
 obtain ⟨c2,H⟩:=H
 have A4:=am c2
 clear c2
 generalize A1:((([]:List Int)++l0):List Int)=A9 at H
 have A2:=am A1.symm
 clear A1
 obtain rfl:=jU H
 go_enter Try.func68,Try.ntmps68
 go_wp2_with (first|((with_reducible refine bV (b:=.append) (xs:=#[(.const (.slice none 0 0)),.tmp 3]) rfl ?_);at_builtin;refine Kd.R_append_rows (Kd.int .u8) (w0:=w) w.heap.size rfl (.const (.slice none 0 0)) (.tmp 3) 22 5 (.int .u8 0) 1 rfl Try.underlying22 eF rfl (by decide) (by omega) (.slice none 0 0) ([]:List Int) l0 _ _ _ (fun _=>True) (fun _=>False) rfl rfl ?aO ?aR (fun _ _ h=>h) (fun _ h=>h.elim) ?aF ?aB ?aS ?aL ?_;(case aR=>exact cq A8.o);(case aB=>exact (bq HB.o));(case aF=>exact (fun _ _=>trivial));(case aO=>exact ((Kd.R_nil _ _ _ _ (fun _=>True))));(case aS=>exact (aY (bq HB.o)));(case aL=>have:=A4.o;omega);intro Aa w3 ho hb hg hat;rw [← A2.o] at ho;have n_:=ak2 hb ho;clear HB;obtain ⟨HB,A3⟩:=n_;clear ho hb hg hat))
 go_ret
 exact ⟨_,rq,kqR A3.o,bq HB.o⟩
end Go.Proofs.Ythhnfmbfgplelaa.XFnExactGetPdu
