/- The functions that one law reaches, as Lean functions, with their walks: printed by a program of this seat (wip/tools) out of the translation. -/
import Derived.Test.YtgppikopdpeigaaXFnPdusx0
import Derived.Test.YtgppikopdpeigaaXFnPdusx1
import Derived.Test.YtgppikopdpeigaaXFnPdusx4
namespace Go.Proofs.Ytgppikopdpeigaa.XFnPdus
open Go.RowKit Go.Proofs.YtgppikopdpeigaaW.PrintWords Go.Proofs.YtgppikopdpeigaaW.PrintLast Go.Proofs.YtgppikopdpeigaaW.PrintMore
attribute [local go_sem] cO cP dH dI cC cD cQ cR
set_option linter.unusedVariables false
set_option linter.unusedSimpArgs false
set_option maxHeartbeats 8000000
set_option maxRecDepth 100000
def eS.f (k:Nat) (l0:List Int):Option (Int × Int × Int × Int × (List (S45))):=(dS.f k l0).bind fun A1=>((bU.f k A1.1 A1.2.1 A1.2.2).bind fun A0=>(some (A0.1,A0.2.1,A0.2.2.1,A0.2.2.2.1,A0.2.2.2.2.1)))
theorem eS.calls (k:Nat) (A0:Option Addr) (c0:Nat) (l0:List Int) (r1:Int) (r2:Int) (r3:Int) (r4:Int) (r5:List (S45)) (w:World) (Aw:Kd.C (Kd.int .u8) w A0 l0.length l0) (Ax:l0.length≤c0) (h:eS.f k l0=some (r1,r2,r3,r4,r5)):
 Calls Try.prog 5 #[.slice A0 l0.length c0] w fun e w'=>∃Ay:Value,e=.returned (.agg #[.int .i64 r1,.int .i64 r2,.int .i64 r3,.int .i64 r4,Ay])∧Kd.S k45 45 w' w.heap.size (fun _=>True) Ay r5∧Below w.heap.size w w':=by
 have B2:=Try.underlying26
 have B3:=am Aw
 have B4:=am Ax
 clear Aw Ax
 have HB:=am (Below.refl w.heap.size w)
 have H:=h
 clear h
 unfold eS.f at H
 replace H:=be H
 obtain ⟨⟨Ad,Ae,Af⟩,B5,H⟩:=H
 try dsimp only at H
 replace H:=be H
 obtain ⟨⟨A9,Aa,Ab,Ac,A5,Ag,Ah⟩,B6,H⟩:=H
 try dsimp only at H
 simp only [k4,k5] at H
 obtain ⟨rfl,rfl,rfl,rfl,rfl⟩:=H
 go_enter Try.func5,Try.ntmps5
 go_wp2_with (first|((with_reducible refine aJ (N:=2) rfl ?_);refine bxe 2 #[.int .i64 0,.int .i64 0,.int .i64 0,.int .i64 0,.slice none 0 0] 26 ?_;intro A4 hg w4 hbox hb;have n_:=ak4 (aC (bq HB.o) hb) hbox (bz hg (bq HB.o)) (bz hg (bq HB.o));clear HB;obtain ⟨HB,A1,Az,A7⟩:=n_;clear hb hbox hg)|((with_reducible refine aE (f:=17) rfl ?_);refine gc (some 5) (dS.calls k _ _ l0 Ad Ae Af w _ (bq1 HB.o A7.o) B3.o B4.o B5.o) Try.func17 ?_;rintro e w5 ⟨Ai,rfl,hi,hb,Aj⟩;refine ⟨_,rfl,?_⟩;have n_:=ak5 (kb A1 Aj) hb hi (aD.ne_blk hi (kb A1 Aj) (by decide)) (Ne.symm (aD.ne_blk hi (kb A1 Aj) (by decide)));clear A1 HB;obtain ⟨A1,HB,A2,A3,A6⟩:=n_;(try clear hb Aj hi))|((with_reducible refine aE (f:=18) rfl ?_);refine gc (some 7) (bU.calls k Ai Ad Ae Af A9 Aa Ab Ac A5 Ag Ah w _ (aD.q1 A2.o A3.o) (bq2 HB.o (aD.ge A2.o) A7.o) B6.o) Try.func18 ?_;rintro e w6 ⟨B7,rfl,B0,hi,hb,hk⟩;refine ⟨_,rfl,?_⟩;have n_:=ak4 (KeepBut.blk hk (zb A1.o) A6.o (by simp)) (Kd.S_lower B0 (aH (bq2 HB.o (aD.ge A2.o) A7.o))) hb hi;clear A1 HB A2;obtain ⟨A1,A8,HB,A2⟩:=n_;(try clear hb hk hi B0);have B8:=A6.o;have B9:=A3.o;obtain ⟨Am,An,Ao,Ap,Aq,Ar,As,At,Au,Av⟩:=cl5 A1.o;obtain ⟨Ak,Al,Ba⟩:=Kd.S_slice A8.o;subst Ba)|((with_reducible refine aQ (t:=26) (p:=2) rfl ?_);refine se 26 2 (s5 w6 A4 (.int .i64 A9) (.int .i64 Aa) (.int .i64 Ab) (.int .i64 Ac) (.slice Ak A5.length Al)) ?_;intro B1 hw;have n_:=ak4 (show Kd.S k45 45 B1 w.heap.size (fun _=>True) (.slice Ak A5.length Al) A5 by rw [hw];exact (by (with_reducible repeat (first|apply Kd.S_alloc|apply Kd.S_drewN|apply Kd.S_drew));exact Kd.S_mono (Kd.S_far (p:=⟨A4,4,none⟩) (Kd.S_far (p:=⟨A4,3,none⟩) (Kd.S_far (p:=⟨A4,2,none⟩) (Kd.S_far (p:=⟨A4,1,none⟩) (Kd.S_far (p:=⟨A4,0,none⟩) (Kd.S_types A8.o A1.o (by decide)) (fun _ hk=>hk.2) (.int .i64 A9)) (fun _ hk=>hk.2) (.int .i64 Aa)) (fun _ hk=>hk.2) (.int .i64 Ab)) (fun _ hk=>hk.2) (.int .i64 Ac)) (fun _ hk=>hk.2) (.slice Ak A5.length Al)) (fun _ hk=>trivial))) (sc5 hw A1) (show aD w B1 Ai Ad Ag Ah by rw [hw];exact (aD.q1 A2.o A3.o)) (sb hw (bq2 HB.o (aD.ge A2.o) A7.o));clear hw A8 A1 A2 HB;obtain ⟨A8,A1,A2,HB⟩:=n_))
 refine bodyPost_ret (results_cell_row rfl _ _ A4 26 #[.int .i64 A9,.int .i64 Aa,.int .i64 Ab,.int .i64 Ac,.slice Ak A5.length Al] (0,0) _ rfl (zq A1.o) Try.underlying26 rfl (by kernel_rfl)) rfl ?_
 exact ⟨_,rq,kqS A8.o,bq2 HB.o (aD.ge A2.o) A7.o⟩
def b7.f (a0:Int) (a1:Int) (a2:Int):Option (Bool):=if a0≥a1 then (some (decide (a0≤a2))) else (some false)
theorem b7.calls (a0:Int) (a1:Int) (a2:Int) (r:Bool) (w:World) (h:b7.f a0 a1 a2=some r):
 Calls Try.prog 36 #[.int .i64 a0,.int .i64 a1,.int .i64 a2] w fun e w'=>e=.returned (.bool r)∧Drawn0 w w':=by
 have H:=h
 clear h
 unfold b7.f at H
 replace H:=ip H
 rcases H with ⟨c4,H⟩|⟨c4,H⟩
 have A0:decide (a1≤a0)=true:=k8 c4
 clear c4
 rotate_left
 have A0:decide (a1≤a0)=false:=decide_eq_false c4
 clear c4
 rotate_right
 all_goals
  obtain rfl:=k6 H
  go_enter Try.func36,Try.ntmps36
  go_wp2
  go_ret
  exact ⟨by first|rfl|(simp;done)|(simp [*];done),by repeat (first|exact Drawn0.refl _|apply Drawn0.step)⟩
def dD.l0:Nat→List Int→List Int→Int→Int→Option (Bool)
 |0,_,_,_,_=>none
 |k+1,x0,x5,x6,x7=>if x7<x6 then (if 0≤x7 then (if x7<(x5.length:Int) then ((b7.f (rd x5 x7) 0 100000).bind fun A0=>(if A0=true then (dD.l0 k x0 x5 x6 (wrap64 (x7+1))) else (some false))) else (none)) else (none)) else ((b7.f (x0.length:Int) 1 10).bind fun A1=>(some A1))
def dD.f (k:Nat) (l0:List Int):Option (Bool):=dD.l0 k l0 l0 (l0.length:Int) 0
theorem dD.calls (k:Nat) (A0:Option Addr) (c0:Nat) (l0:List Int) (r:Bool) (w:World) (Ac:Kd.C (Kd.int .i64) w A0 l0.length l0) (Ad:l0.length≤c0) (h:dD.f k l0=some r):
 Calls Try.prog 37 #[.slice A0 l0.length c0] w fun e w'=>e=.returned (.bool r)∧Drawn0 w w':=by
 have Ae:=am Ac
 have Ai:=am Ad
 clear Ac Ad
 have H:=h
 clear h
 unfold dD.f at H
 have H':=am H
 clear H
 go_enter Try.func37,Try.ntmps37
 go_wp2
 go_loopg [7] k (fun kq v7 w'=>∃(A1:Int),v7=.int .i64 A1∧Aside0 (dD.l0 kq l0 l0 (l0.length:Int) A1=some r)∧Aside0 (kq≤k)∧Drawn0 w w')
 case atStart=>exact ⟨(0),sq,H',⟨k7 _⟩,by repeat (first|exact Drawn0.refl _|apply Drawn0.step)⟩
 case round=>
  clear H'
  obtain ⟨A1,rfl,HA,Af,⟨m1,rfl⟩⟩:=hrel
  cases gk with
  |zero=>exact absurd HA.o (by simp [dD.l0])
  |succ k1=>
   have H:=HA.o
   clear HA
   simp only [dD.l0] at H
   replace H:=il' H
   rcases H with ⟨-,A9,H⟩|⟨-,A9,H⟩
   · replace H:=be H
     obtain ⟨Aa,A7,H⟩:=H
     obtain rfl:=k6 H
     go_wp2_with (first|((with_reducible refine aE (f:=36) rfl ?_);refine gc (some 17) (b7.calls (l0.length:Int) 1 10 Aa _ A7.o) Try.func36 ?_;rintro e w' ⟨rfl,⟨nd,rfl⟩⟩;refine ⟨_,rfl,?_⟩))
     go_ret
     exact ⟨by first|rfl|(simp;done)|(simp [*];done),by repeat (first|exact Drawn0.refl _|apply Drawn0.step)⟩
   replace H:=nl H
   obtain ⟨-,Ag,H⟩:=H
   replace H:=nl H
   obtain ⟨-,Ah,H⟩:=H
   replace H:=be H
   obtain ⟨Ab,A5,H⟩:=H
   cases Ab
   · replace H:=iF H
     obtain rfl:=k6 H
     have A2:0≤(A1:Int):=oda
     have A3:A1<(l0.length:Int):=oda
     obtain ⟨A8,A6,A4⟩:=Kd.at_int Ae.o A1 A2 A3
     cases A6
     replace A2:=eq_true A2
     replace A3:=eq_true A3
     go_wp2_with (first|((with_reducible refine aE (f:=36) rfl ?_);refine gc (some 12) (b7.calls (rd l0 A1) 0 100000 false _ A5.o) Try.func36 ?_;rintro e w' ⟨rfl,⟨nd,rfl⟩⟩;refine ⟨_,rfl,?_⟩))
     go_ret
     exact ⟨by first|rfl|(simp;done)|(simp [*];done),by repeat (first|exact Drawn0.refl _|apply Drawn0.step)⟩
   replace H:=iT H
   have H':=am H
   clear H
   have A2:0≤(A1:Int):=oda
   have A3:A1<(l0.length:Int):=oda
   obtain ⟨A8,A6,A4⟩:=Kd.at_int Ae.o A1 A2 A3
   cases A6
   replace A2:=eq_true A2
   replace A3:=eq_true A3
   go_wp2_with (first|((with_reducible refine aE (f:=36) rfl ?_);refine gc (some 12) (b7.calls (rd l0 A1) 0 100000 true _ A5.o) Try.func36 ?_;rintro e w' ⟨rfl,⟨nd,rfl⟩⟩;refine ⟨_,rfl,?_⟩))
   go_roundg k1
   case measure=>have:=Af.o;omega
   case rel=>exact ⟨(wrap64 (A1+1)),sq,H',⟨by have:=Af.o;omega⟩,by repeat (first|exact Drawn0.refl _|apply Drawn0.step)⟩
def eV.f (a0:Int):Option (Bool):=(b7.f a0 (-2147483648) 2147483647).bind fun A0=>(some A0)
theorem eV.calls (a0:Int) (r:Bool) (w:World) (h:eV.f a0=some r):
 Calls Try.prog 39 #[.int .i64 a0] w fun e w'=>e=.returned (.bool r)∧Drawn0 w w':=by
 have H:=h
 clear h
 unfold eV.f at H
 replace H:=be H
 obtain ⟨A0,A1,H⟩:=H
 obtain rfl:=k6 H
 go_enter Try.func39,Try.ntmps39
 go_wp2_with (first|((with_reducible refine aE (f:=36) rfl ?_);refine gc (some 4) (b7.calls a0 (-2147483648) 2147483647 A0 _ A1.o) Try.func36 ?_;rintro e w' ⟨rfl,⟨nd,rfl⟩⟩;refine ⟨_,rfl,?_⟩))
 go_ret
 exact ⟨by first|rfl|(simp;done)|(simp [*];done),by repeat (first|exact Drawn0.refl _|apply Drawn0.step)⟩
def dE.l0:Nat→List Int→List Int→Int→Int→Option (Bool)
 |0,_,_,_,_=>none
 |k+1,x0,x1,A1,A0=>if A0<A1 then (if 0≤A0 then (if A0<(x0.length:Int) then (if A0<(x1.length:Int) then (if (rd x0 A0)=(rd x1 A0) then (dE.l0 k x0 x1 A1 (wrap64 (A0+1))) else (some false)) else (none)) else (none)) else (none)) else (some true)
def dE.f (k:Nat) (l0:List Int) (l1:List Int):Option (Bool):=if (l0.length:Int)=(l1.length:Int) then (dE.l0 k l0 l1 (l0.length:Int) 0) else (some false)
theorem dE.calls (k:Nat) (A0:Option Addr) (c0:Nat) (l0:List Int) (A1:Option Addr) (c1:Nat) (l1:List Int) (r:Bool) (w:World) (Aj:Kd.C (Kd.int .i64) w A0 l0.length l0) (Ak:l0.length≤c0) (Al:Kd.C (Kd.int .i64) w A1 l1.length l1) (Am:l1.length≤c1) (h:dE.f k l0 l1=some r):
 Calls Try.prog 43 #[.slice A0 l0.length c0,.slice A1 l1.length c1] w fun e w'=>e=.returned (.bool r)∧Drawn0 w w':=by
 have An:=am Aj
 have Au:=am Ak
 clear Aj Ak
 have Ao:=am Al
 have Av:=am Am
 clear Al Am
 have H:=h
 clear h
 unfold dE.f at H
 replace H:=iq' H
 rcases H with ⟨c3,Ab,Ac,H⟩|⟨c3,Ab,Ac,H⟩
 · have Ad:(l0.length==l1.length)=false:=by first|simpa using c3|(simp at c3 ⊢;omega)
   obtain rfl:=k6 H
   go_enter Try.func43,Try.ntmps43
   go_wp2
   go_ret
   exact ⟨by first|rfl|(simp;done)|(simp [*];done),by repeat (first|exact Drawn0.refl _|apply Drawn0.step)⟩
 have Ad:(l0.length==l1.length)=true:=by first|simpa using c3|(simp at c3 ⊢;omega)
 clear c3
 have H':=am H
 clear H
 go_enter Try.func43,Try.ntmps43
 go_wp2
 go_loopg [13] k (fun kq Aq w'=>∃(A2:Int),Aq=.int .i64 A2∧Aside0 (dE.l0 kq l0 l1 (l0.length:Int) A2=some r)∧Aside0 (kq≤k)∧Drawn0 w w')
 case atStart=>exact ⟨(0),sq,H',⟨k7 _⟩,by repeat (first|exact Drawn0.refl _|apply Drawn0.step)⟩
 case round=>
  clear H'
  try clear c1
  try clear p2
  try clear c3
  try clear Ab
  try clear Ac
  try clear Ad
  obtain ⟨A2,rfl,HA,Ap,⟨m1,rfl⟩⟩:=hrel
  cases gk with
  |zero=>exact absurd HA.o (by simp [dE.l0])
  |succ k1=>
   have H:=HA.o
   clear HA
   simp only [dE.l0] at H
   replace H:=il' H
   rcases H with ⟨-,Ag,H⟩|⟨-,Ag,H⟩
   · obtain rfl:=k6 H
     go_wp2
     go_ret
     exact ⟨by first|rfl|(simp;done)|(simp [*];done),by repeat (first|exact Drawn0.refl _|apply Drawn0.step)⟩
   replace H:=nl H
   obtain ⟨-,Ar,H⟩:=H
   replace H:=nl H
   obtain ⟨-,As,H⟩:=H
   replace H:=nl H
   obtain ⟨-,At,H⟩:=H
   replace H:=iq' H
   rcases H with ⟨c8,Ah,Ai,H⟩|⟨-,Ah,Ai,H⟩
   · obtain rfl:=k6 H
     have A3:0≤(A2:Int):=oda
     have A4:A2<(l0.length:Int):=oda
     obtain ⟨Ae,A9,A7⟩:=Kd.at_int An.o A2 A3 A4
     cases A9
     replace A3:=eq_true A3
     replace A4:=eq_true A4
     have A5:0≤(A2:Int):=oda
     have A6:A2<(l1.length:Int):=oda
     obtain ⟨Af,Aa,A8⟩:=Kd.at_int Ao.o A2 A5 A6
     cases Aa
     replace A5:=eq_true A5
     replace A6:=eq_true A6
     try go_wp2
     repeat (go_quiet (fail);try go_wp2)
     go_ret
     exact ⟨by first|rfl|(simp;done)|(simp [*];done),by repeat (first|exact Drawn0.refl _|apply Drawn0.step)⟩
   have H':=am H
   clear H
   have A3:0≤(A2:Int):=oda
   have A4:A2<(l0.length:Int):=oda
   obtain ⟨Ae,A9,A7⟩:=Kd.at_int An.o A2 A3 A4
   cases A9
   replace A3:=eq_true A3
   replace A4:=eq_true A4
   have A5:0≤(A2:Int):=oda
   have A6:A2<(l1.length:Int):=oda
   obtain ⟨Af,Aa,A8⟩:=Kd.at_int Ao.o A2 A5 A6
   cases Aa
   replace A5:=eq_true A5
   replace A6:=eq_true A6
   try go_wp2
   repeat (go_quiet (fail);try go_wp2)
   go_roundg k1
   case measure=>have:=Ap.o;omega
   case rel=>exact ⟨(wrap64 (A2+1)),sq,H',⟨by have:=Ap.o;omega⟩,by repeat (first|exact Drawn0.refl _|apply Drawn0.step)⟩
def cV.f (k:Nat) (A0:Int) (A1:Int) (A2:ByteArray) (A3:List Int) (A4:Int) (A5:Int) (A6:ByteArray) (A7:List Int):Option (Bool):=if A0=A4 then (if A1=A5 then (if A2.toList=A6.toList then ((dE.f k A3 A7).bind fun A8=>(some A8)) else (some false)) else (some false)) else (some false)
theorem cV.calls (k:Nat) (Aa:Int) (Ab:Int) (Ac:ByteArray) (Ad:Option Addr) (Ae:Nat) (A1:List Int) (Af:Int) (Ag:Int) (Ah:ByteArray) (Ai:Option Addr) (Aj:Nat) (A2:List Int) (r:Bool) (w:World) (A6:Kd.C (Kd.int .i64) w Ad A1.length A1) (A7:A1.length≤Ae) (A8:Kd.C (Kd.int .i64) w Ai A2.length A2) (A9:A2.length≤Aj) (h:cV.f k Aa Ab Ac A1 Af Ag Ah A2=some r):
 Calls Try.prog 44 #[.agg #[.int .i64 Aa,.int .i64 Ab,.string Ac,.slice Ad A1.length Ae],.agg #[.int .i64 Af,.int .i64 Ag,.string Ah,.slice Ai A2.length Aj]] w fun e w'=>e=.returned (.bool r)∧Below w.heap.size w w':=by
 have Bj:=Try.underlying43
 have B2:=am A6
 have B3:=am A7
 clear A6 A7
 have B4:=am A8
 have B5:=am A9
 clear A8 A9
 have HB:=am (Below.refl w.heap.size w)
 have H:=h
 clear h
 unfold cV.f at H
 replace H:=iq' H
 rcases H with ⟨c3,B9,Ba,H⟩|⟨-,B9,Ba,H⟩
 rotate_left
 replace H:=iq' H
 rcases H with ⟨c4,Bb,Bc,H⟩|⟨-,Bb,Bc,H⟩
 rotate_left
 replace H:=iq' H
 rcases H with ⟨c5,Bd,Be,H⟩|⟨-,Bd,Be,H⟩
 rotate_left
 replace H:=be H
 obtain ⟨B6,Bk,H⟩:=H
 rotate_right
 rotate_right
 rotate_right
 all_goals
  obtain rfl:=k6 H
  go_enter Try.func44,Try.ntmps44
  go_wp2_with (first|((with_reducible refine aJ (N:=2) rfl ?_);refine bxe 2 #[.int .i64 Aa,.int .i64 Ab,.string Ac,.slice Ad A1.length Ae] 43 ?_;intro Bf hg w_ hbox hb;have n_:=ak4 (aC (bq HB.o) hb) hbox (bz hg (bq HB.o)) (bz hg (bq HB.o));clear HB;obtain ⟨HB,A0,Bg,A3⟩:=n_;clear hb hbox hg)|((with_reducible refine aJ (N:=3) rfl ?_);refine bxe 3 #[.int .i64 Af,.int .i64 Ag,.string Ah,.slice Ai A2.length Aj] 43 ?_;intro Bh hg w_ hbox hb;have n_:=ak7 (kb A0 hb) (aC (bq1 HB.o A3.o) hb) hbox (bz hg (bq1 HB.o A3.o)) (bz hg (bq1 HB.o A3.o)) (nL hg A0) (nG hg A0);clear A0 HB;obtain ⟨A0,HB,B7,Bi,B8,A4,A5⟩:=n_;clear hb hbox hg;have Ak:=A4.o;have Al:=A5.o;obtain ⟨Am,An,Ao,Ap,Aq,Ar,As,At⟩:=cl4 A0.o;obtain ⟨Au,Av,Aw,Ax,Ay,Az,B0,B1⟩:=cl4 B7.o)|(go_at_call 43;refine cm (dE.calls k _ _ A1 _ _ A2 B6 _ (cq (Kd.C_below B2.o HB.o)) B3.o (cq (Kd.C_below B4.o HB.o)) B5.o Bk.o) ?_;rintro e w' ⟨rfl,⟨nd,rfl⟩⟩))
  go_ret
  exact ⟨rq,bq2 HB.o A3.o B8.o⟩
def cT.f (k:Nat) (A0:Int) (A1:Int) (A2:ByteArray) (A3:List Int):Option (Bool):=if A0=2 then ((eV.f A1).bind fun A4=>(if A4=true then ((cV.f k A0 A1 A2 A3 A0 A1 (⟨#[]⟩:ByteArray) ([]:List Int)).bind fun A5=>(some A5)) else (some false))) else (if A0=4 then (if (A2.size:Int)≤20 then ((cV.f k A0 A1 A2 A3 A0 0 A2 ([]:List Int)).bind fun A6=>(some A6)) else (some false)) else (if A0=6 then ((dD.f k A3).bind fun A7=>(if A7=true then ((cV.f k A0 A1 A2 A3 A0 0 (⟨#[]⟩:ByteArray) A3).bind fun A8=>(some A8)) else (some false))) else (if A0=5 then ((cV.f k A0 A1 A2 A3 A0 0 (⟨#[]⟩:ByteArray) ([]:List Int)).bind fun A9=>(some A9)) else (if A0=128 then ((cV.f k A0 A1 A2 A3 A0 0 (⟨#[]⟩:ByteArray) ([]:List Int)).bind fun Aa=>(some Aa)) else (if A0=130 then ((cV.f k A0 A1 A2 A3 A0 0 (⟨#[]⟩:ByteArray) ([]:List Int)).bind fun Ab=>(some Ab)) else (some false))))))
theorem cT.calls (k:Nat) (A3:Int) (A7:Int) (A8:ByteArray) (Ac:Option Addr) (Ad:Nat) (A6:List Int) (r:Bool) (w:World) (Ay:Kd.C (Kd.int .i64) w Ac A6.length A6) (Az:A6.length≤Ad) (h:cT.f k A3 A7 A8 A6=some r):
 Calls Try.prog 38 #[.agg #[.int .i64 A3,.int .i64 A7,.string A8,.slice Ac A6.length Ad]] w fun e w'=>e=.returned (.bool r)∧Below w.heap.size w w':=by
 have Bn:=Try.underlying43
 have Aa:=am Ay
 have Ab:=am Az
 clear Ay Az
 have HB:=am (Below.refl w.heap.size w)
 have H:=h
 clear h
 unfold cT.f at H
 replace H:=iq H
 rcases H with ⟨-,Bg,Bh,H⟩|⟨c2,Bg,Bh,H⟩
 replace H:=be H
 obtain ⟨B2,Bj,H⟩:=H
 cases B2
 replace H:=iF H
 have z0:=trivial
 rotate_left
 replace H:=iT H
 replace H:=be H
 obtain ⟨A9,Ax,H⟩:=H
 have z1:=trivial
 rotate_right
 rotate_left 2
 replace H:=iq H
 rcases H with ⟨-,B3,B4,H⟩|⟨Bo,B3,B4,H⟩
 replace H:=il' H
 rcases H with ⟨Bi,B5,H⟩|⟨Bi,B5,H⟩
 have B6:decide (A8.size≤20)=false:=decide_eq_false (by omega)
 clear Bi
 have z2:=trivial
 rotate_left
 have B6:decide (A8.size≤20)=true:=k8 (by omega)
 clear Bi
 replace H:=be H
 obtain ⟨A9,Ax,H⟩:=H
 have z3:=trivial
 rotate_right
 rotate_left 2
 replace H:=iq H
 rcases H with ⟨-,B7,B8,H⟩|⟨Bp,B7,B8,H⟩
 replace H:=be H
 obtain ⟨B9,Bk,H⟩:=H
 cases B9
 replace H:=iF H
 have z4:=trivial
 rotate_left
 replace H:=iT H
 replace H:=be H
 obtain ⟨A9,Ax,H⟩:=H
 have z5:=trivial
 rotate_right
 rotate_left 2
 replace H:=iq H
 rcases H with ⟨-,Ba,Bb,H⟩|⟨Bq,Ba,Bb,H⟩
 replace H:=be H
 obtain ⟨A9,Ax,H⟩:=H
 have z6:=trivial
 rotate_left
 replace H:=iq H
 rcases H with ⟨-,Bc,Bd,H⟩|⟨Br,Bc,Bd,H⟩
 replace H:=be H
 obtain ⟨A9,Ax,H⟩:=H
 have z6:=trivial
 rotate_left
 replace H:=iq' H
 rcases H with ⟨Bs,Be,Bf,H⟩|⟨-,Be,Bf,H⟩
 have z2:=trivial
 rotate_left
 replace H:=be H
 obtain ⟨A9,Ax,H⟩:=H
 have z6:=trivial
 rotate_right
 rotate_right
 rotate_right
 rotate_right 2
 rotate_right 2
 rotate_right 2
 all_goals
  obtain rfl:=k6 H
  go_enter Try.func38,Try.ntmps38
  go_wp2_with (first|((with_reducible refine aJ (N:=1) rfl ?_);refine bxe 1 #[.int .i64 A3,.int .i64 A7,.string A8,.slice Ac A6.length Ad] 43 ?_;intro Aw hg w_ hbox hb;have n_:=ak4 (aC (bq HB.o) hb) hbox (bz hg (bq HB.o)) (bz hg (bq HB.o));clear HB;obtain ⟨HB,A0,Bl,A2⟩:=n_;clear hb hbox hg;obtain ⟨Af,Ag,Ah,Ai,Aj,Ak,Al,Am⟩:=cl4 A0.o)|((with_reducible refine aJ (N:=3) rfl ?_);refine bxe 3 #[.int .i64 0,.int .i64 0,.string (⟨#[]⟩:ByteArray),.slice none 0 0] 43 ?_;intro Ae hg w_ hbox hb;have n_:=ak7 (kb A0 hb) (aC (bq1 HB.o A2.o) hb) hbox (bz hg (bq1 HB.o A2.o)) (bz hg (bq1 HB.o A2.o)) (nL hg A0) (nG hg A0);clear A0 HB;obtain ⟨A0,HB,A1,Bm,A5,A4,An⟩:=n_;clear hb hbox hg;have B0:=An.o;have B1:=A4.o;obtain ⟨Ao,Ap,Aq,Ar,As,At,Au,Av⟩:=cl4 A1.o)|((with_reducible refine aQ (t:=43) (p:=3) rfl ?_);refine se 43 3 (s4 w_ Ae (.int .i64 A3) (.int .i64 0) (.string (⟨#[]⟩:ByteArray)) (.slice none 0 0)) ?_;intro w_ hw;have n_:=ak3 (sf4 hw A0 A4) (sc4 hw A1) (sb hw (bq2 HB.o A2.o A5.o));clear hw A0 A1 HB;obtain ⟨A0,A1,HB⟩:=n_;obtain ⟨Af,Ag,Ah,Ai,Aj,Ak,Al,Am⟩:=cl4 A0.o;obtain ⟨Ao,Ap,Aq,Ar,As,At,Au,Av⟩:=cl4 A1.o)|((with_reducible refine aE (f:=39) rfl ?_);have:=z0;refine gc (some 17) (eV.calls A7 false _ Bj.o) Try.func39 ?_;rintro e w' ⟨rfl,⟨nd,rfl⟩⟩;refine ⟨_,rfl,?_⟩)|((with_reducible refine aE (f:=39) rfl ?_);have:=z1;refine gc (some 17) (eV.calls A7 true _ Bj.o) Try.func39 ?_;rintro e w' ⟨rfl,⟨nd,rfl⟩⟩;refine ⟨_,rfl,?_⟩)|(go_at_call 44;have:=z5;refine cm (cV.calls k A3 A7 A8 _ _ A6 A3 0 (⟨#[]⟩:ByteArray) _ _ A6 A9 _ (Kd.C_below Aa.o (bq2 HB.o A2.o A5.o)) Ab.o (Kd.C_below Aa.o (bq2 HB.o A2.o A5.o)) Ab.o Ax.o) ?_;rintro e w_ ⟨rfl,hb⟩;have n_:=ak3 (b9 (g:=Aw) (o:=.cells #[.int .i64 A3,.int .i64 A7,.string A8,.slice Ac A6.length Ad] 43 (0,0)) (by refine zr ?_;refine aN ?_ A4.o _;refine zr ?_;exact A0.o) hb) (b9 (g:=Ae) (o:=.cells #[.int .i64 A3,.int .i64 0,.string (⟨#[]⟩:ByteArray),.slice Ac A6.length Ad] 43 (0,0)) (by refine zr ?_;refine aV (cs:=#[.int .i64 A3,.int .i64 0,.string (⟨#[]⟩:ByteArray),.slice none 0 0]) ?_ 3 _ rfl;refine zr ?_;exact A1.o) hb) (aC (bq2 HB.o A2.o A5.o) hb);clear A0 A1 HB;obtain ⟨A0,A1,HB⟩:=n_;(try clear hb))|(go_at_call 44;have:=z1;refine cm (cV.calls k A3 A7 A8 _ _ A6 A3 A7 (⟨#[]⟩:ByteArray) _ _ ([]:List Int) A9 _ (Kd.C_below Aa.o (bq2 HB.o A2.o A5.o)) Ab.o (Kd.C_nil _ _) (k7 _) Ax.o) ?_;rintro e w_ ⟨rfl,hb⟩;have n_:=ak3 (b9 (g:=Aw) (o:=.cells #[.int .i64 A3,.int .i64 A7,.string A8,.slice Ac A6.length Ad] 43 (0,0)) (by refine zr ?_;refine aN ?_ A4.o _;refine zr ?_;exact A0.o) hb) (b9 (g:=Ae) (o:=.cells #[.int .i64 A3,.int .i64 A7,.string (⟨#[]⟩:ByteArray),.slice none 0 0] 43 (0,0)) (by refine zr ?_;refine aV (cs:=#[.int .i64 A3,.int .i64 0,.string (⟨#[]⟩:ByteArray),.slice none 0 0]) ?_ 1 _ rfl;refine zr ?_;exact A1.o) hb) (aC (bq2 HB.o A2.o A5.o) hb);clear A0 A1 HB;obtain ⟨A0,A1,HB⟩:=n_;(try clear hb))|(go_at_call 44;have:=z3;refine cm (cV.calls k A3 A7 A8 _ _ A6 A3 0 A8 _ _ ([]:List Int) A9 _ (Kd.C_below Aa.o (bq2 HB.o A2.o A5.o)) Ab.o (Kd.C_nil _ _) (k7 _) Ax.o) ?_;rintro e w_ ⟨rfl,hb⟩;have n_:=ak3 (b9 (g:=Aw) (o:=.cells #[.int .i64 A3,.int .i64 A7,.string A8,.slice Ac A6.length Ad] 43 (0,0)) (by refine zr ?_;refine aN ?_ A4.o _;refine zr ?_;exact A0.o) hb) (b9 (g:=Ae) (o:=.cells #[.int .i64 A3,.int .i64 0,.string A8,.slice none 0 0] 43 (0,0)) (by refine zr ?_;refine aV (cs:=#[.int .i64 A3,.int .i64 0,.string (⟨#[]⟩:ByteArray),.slice none 0 0]) ?_ 2 _ rfl;refine zr ?_;exact A1.o) hb) (aC (bq2 HB.o A2.o A5.o) hb);clear A0 A1 HB;obtain ⟨A0,A1,HB⟩:=n_;(try clear hb))|(go_at_call 44;have:=z6;refine cm (cV.calls k A3 A7 A8 _ _ A6 A3 0 (⟨#[]⟩:ByteArray) _ _ ([]:List Int) A9 _ (cq (Kd.C_below Aa.o HB.o)) Ab.o (Kd.C_nil _ _) (k7 _) Ax.o) ?_;rintro e w_ ⟨rfl,hb⟩;have n_:=ak3 (kb A0 hb) (kb A1 hb) (aC (bq2 HB.o A2.o A5.o) hb);clear A0 A1 HB;obtain ⟨A0,A1,HB⟩:=n_;(try clear hb))|((with_reducible refine aE (f:=37) rfl ?_);have:=z4;refine gc (some 34) (dD.calls k _ _ A6 false _ (Kd.C_below Aa.o (bq2 HB.o A2.o A5.o)) Ab.o Bk.o) Try.func37 ?_;rintro e w' ⟨rfl,⟨nd,rfl⟩⟩;refine ⟨_,rfl,?_⟩)|((with_reducible refine aE (f:=37) rfl ?_);have:=z5;refine gc (some 34) (dD.calls k _ _ A6 true _ (Kd.C_below Aa.o (bq2 HB.o A2.o A5.o)) Ab.o Bk.o) Try.func37 ?_;rintro e w' ⟨rfl,⟨nd,rfl⟩⟩;refine ⟨_,rfl,?_⟩))
  go_ret
  exact ⟨rq,bq2 HB.o A2.o A5.o⟩
end Go.Proofs.Ytgppikopdpeigaa.XFnPdus
