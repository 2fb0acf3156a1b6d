/- The functions that one law reaches, as Lean functions, with their walks: printed by a program of this seat (wip/tools) out of the translation. -/
import Derived.Test.YtgppikopdpeigaaXFnPdusx0
import Derived.Test.YtgppikopdpeigaaXFnPdusx25
namespace Go.Proofs.Ytgppikopdpeigaa.XFnPdus
open Go.RowKit Go.Proofs.YtgppikopdpeigaaW.PrintWords Go.Proofs.YtgppikopdpeigaaW.PrintLast Go.Proofs.YtgppikopdpeigaaW.PrintMore
attribute [local go_sem] cO cP dH dI cC cD cQ cR
set_option linter.unusedVariables false
set_option linter.unusedSimpArgs false
set_option maxHeartbeats 8000000
set_option maxRecDepth 100000
def e6.f (k:Nat) (A1:Int) (A2:Int) (A3:Int) (A4:Int) (A5:List (S45)) (A6:Int) (A7:Int) (A8:Int) (A9:Int) (Aa:List (S45)):Option (Bool):=if A1=A6 then (if A2=A7 then (if A3=A8 then (if A4=A9 then ((bL.f k A5 Aa).bind fun A0=>(some A0)) else (some false)) else (some false)) else (some false)) else (some false)
theorem e6.calls (k:Nat) (Ae:Int) (Af:Int) (Ag:Int) (Ah:Int) (Ai:Option Addr) (Aj:Nat) (A5:List (S45)) (Ak:Int) (Al:Int) (Am:Int) (An:Int) (Ao:Option Addr) (Ap:Nat) (A6:List (S45)) (r:Bool) (w:World) (Aa:Kd.C k45 w Ai A5.length A5) (Ab:A5.length≤Aj) (Ac:Kd.C k45 w Ao A6.length A6) (Ad:A6.length≤Ap) (h:e6.f k Ae Af Ag Ah A5 Ak Al Am An A6=some r):
 Calls Try.prog 14 #[.agg #[.int .i64 Ae,.int .i64 Af,.int .i64 Ag,.int .i64 Ah,.slice Ai A5.length Aj],.agg #[.int .i64 Ak,.int .i64 Al,.int .i64 Am,.int .i64 An,.slice Ao A6.length Ap]] w fun e w'=>e=.returned (.bool r)∧Below w.heap.size w w':=by
 have Br:=Try.underlying26
 have Ba:=am Aa
 have Bb:=am Ab
 clear Aa Ab
 have Bc:=am Ac
 have Bd:=am Ad
 clear Ac Ad
 have HB:=am (Below.refl w.heap.size w)
 have H:=h
 clear h
 unfold e6.f at H
 replace H:=iq' H
 rcases H with ⟨c3,Bf,Bg,H⟩|⟨-,Bf,Bg,H⟩
 rotate_left
 replace H:=iq' H
 rcases H with ⟨c4,Bh,Bi,H⟩|⟨-,Bh,Bi,H⟩
 rotate_left
 replace H:=iq' H
 rcases H with ⟨c5,Bj,Bk,H⟩|⟨-,Bj,Bk,H⟩
 rotate_left
 replace H:=iq' H
 rcases H with ⟨c6,Bl,Bm,H⟩|⟨-,Bl,Bm,H⟩
 rotate_left
 replace H:=be H
 obtain ⟨Be,Bs,H⟩:=H
 rotate_right
 rotate_right
 rotate_right
 rotate_right
 all_goals
  obtain rfl:=k6 H
  go_enter Try.func14,Try.ntmps14
  go_wp2_with (first|((with_reducible refine aJ (N:=2) rfl ?_);refine bxe 2 #[.int .i64 Ae,.int .i64 Af,.int .i64 Ag,.int .i64 Ah,.slice Ai A5.length Aj] 26 ?_;intro Bn hg w_ hbox hb;have n_:=ak4 (aC (bq HB.o) hb) hbox (bz hg (bq HB.o)) (bz hg (bq HB.o));clear HB;obtain ⟨HB,A0,Bo,A1⟩:=n_;clear hb hbox hg)|((with_reducible refine aJ (N:=3) rfl ?_);refine bxe 3 #[.int .i64 Ak,.int .i64 Al,.int .i64 Am,.int .i64 An,.slice Ao A6.length Ap] 26 ?_;intro Bp hg w_ hbox hb;have n_:=ak7 (kb A0 hb) (aC (bq1 HB.o A1.o) hb) hbox (bz hg (bq1 HB.o A1.o)) (bz hg (bq1 HB.o A1.o)) (nL hg A0) (nG hg A0);clear A0 HB;obtain ⟨A0,HB,A2,Bq,A7,A3,A4⟩:=n_;clear hb hbox hg;have A8:=A3.o;have A9:=A4.o;obtain ⟨Aq,Ar,As,At,Au,Av,Aw,Ax,Ay,Az⟩:=cl5 A0.o;obtain ⟨B0,B1,B2,B3,B4,B5,B6,B7,B8,B9⟩:=cl5 A2.o)|(go_at_call 15;refine cm (bL.calls k _ _ A5 _ _ A6 Be _ (cq (Kd.C_below Ba.o HB.o)) Bb.o (cq (Kd.C_below Bc.o HB.o)) Bd.o Bs.o) ?_;rintro e w_ ⟨rfl,hb⟩;have n_:=ak3 (kb A0 hb) (kb A2 hb) (aC (bq2 HB.o A1.o A7.o) hb);clear A0 A2 HB;obtain ⟨A0,A2,HB⟩:=n_;(try clear hb)))
  go_ret
  exact ⟨rq,bq2 HB.o A1.o A7.o⟩
def dG.l0:Nat→List Int→List Int→Int→Option (Bool)
 |0,_,_,_=>none
 |k+1,x0,x1,x5=>if x5<(x0.length:Int) then (if 0≤x5 then (if x5<(x1.length:Int) then (if (rd x0 x5)=(rd x1 x5) then (dG.l0 k x0 x1 (wrap64 (x5+1))) else (some false)) else (none)) else (none)) else (some true)
def dG.f (k:Nat) (l0:List Int) (l1:List Int):Option (Bool):=if (l0.length:Int)=(l1.length:Int) then (dG.l0 k l0 l1 0) else (some false)
theorem dG.calls (k:Nat) (A0:Option Addr) (c0:Nat) (l0:List Int) (A1:Option Addr) (c1:Nat) (l1:List Int) (r:Bool) (w:World) (Aj:Kd.C (Kd.int .i64) w A0 l0.length l0) (Ak:l0.length≤c0) (Al:Kd.C (Kd.int .i64) w A1 l1.length l1) (Am:l1.length≤c1) (h:dG.f k l0 l1=some r):
 Calls Try.prog 45 #[.slice A0 l0.length c0,.slice A1 l1.length c1] w fun e w'=>e=.returned (.bool r)∧Drawn0 w w':=by
 have An:=am Aj
 have As:=am Ak
 clear Aj Ak
 have Ao:=am Al
 have At:=am Am
 clear Al Am
 have H:=h
 clear h
 unfold dG.f at H
 replace H:=iq' H
 rcases H with ⟨c3,Ad,Ae,H⟩|⟨c3,Ad,Ae,H⟩
 · have Af:(l0.length==l1.length)=false:=by first|simpa using c3|(simp at c3 ⊢;omega)
   obtain rfl:=k6 H
   go_enter Try.func45,Try.ntmps45
   go_wp2
   go_ret
   exact ⟨by first|rfl|(simp;done)|(simp [*];done),by repeat (first|exact Drawn0.refl _|apply Drawn0.step)⟩
 have Af:(l0.length==l1.length)=true:=by first|simpa using c3|(simp at c3 ⊢;omega)
 clear c3
 have H':=am H
 clear H
 go_enter Try.func45,Try.ntmps45
 go_wp2
 go_loopg [5] k (fun kq v5 w'=>∃(A2:Int),v5=.int .i64 A2∧Aside0 (dG.l0 kq l0 l1 A2=some r)∧Aside0 (kq≤k)∧Drawn0 w w')
 case atStart=>exact ⟨(0),sq,H',⟨k7 _⟩,by repeat (first|exact Drawn0.refl _|apply Drawn0.step)⟩
 case round=>
  clear H'
  try clear c1
  try clear p2
  try clear c3
  try clear Ad
  try clear Ae
  try clear Af
  obtain ⟨A2,rfl,HA,Ap,⟨m1,rfl⟩⟩:=hrel
  cases gk with
  |zero=>exact absurd HA.o (by simp [dG.l0])
  |succ k1=>
   have H:=HA.o
   clear HA
   simp only [dG.l0] at H
   replace H:=il' H
   rcases H with ⟨-,Ag,H⟩|⟨-,Ag,H⟩
   · obtain rfl:=k6 H
     go_wp2
     go_ret
     exact ⟨by first|rfl|(simp;done)|(simp [*];done),by repeat (first|exact Drawn0.refl _|apply Drawn0.step)⟩
   replace H:=nl H
   obtain ⟨-,Aq,H⟩:=H
   replace H:=nl H
   obtain ⟨-,Ar,H⟩:=H
   replace H:=iq' H
   rcases H with ⟨c7,Ah,Ai,H⟩|⟨-,Ah,Ai,H⟩
   · obtain rfl:=k6 H
     have A3:0≤(A2:Int):=oda
     have A4:A2<(l0.length:Int):=oda
     obtain ⟨Ab,A7,A8⟩:=Kd.at_int An.o A2 A3 A4
     cases A7
     replace A3:=eq_true A3
     replace A4:=eq_true A4
     have A5:0≤(A2:Int):=oda
     have A6:A2<(l1.length:Int):=oda
     obtain ⟨Ac,A9,Aa⟩:=Kd.at_int Ao.o A2 A5 A6
     cases A9
     replace A5:=eq_true A5
     replace A6:=eq_true A6
     try go_wp2
     repeat (go_quiet (fail);try go_wp2)
     go_ret
     exact ⟨by first|rfl|(simp;done)|(simp [*];done),by repeat (first|exact Drawn0.refl _|apply Drawn0.step)⟩
   have H':=am H
   clear H
   have A3:0≤(A2:Int):=oda
   have A4:A2<(l0.length:Int):=oda
   obtain ⟨Ab,A7,A8⟩:=Kd.at_int An.o A2 A3 A4
   cases A7
   replace A3:=eq_true A3
   replace A4:=eq_true A4
   have A5:0≤(A2:Int):=oda
   have A6:A2<(l1.length:Int):=oda
   obtain ⟨Ac,A9,Aa⟩:=Kd.at_int Ao.o A2 A5 A6
   cases A9
   replace A5:=eq_true A5
   replace A6:=eq_true A6
   try go_wp2
   repeat (go_quiet (fail);try go_wp2)
   go_roundg k1
   case measure=>have:=Ap.o;omega
   case rel=>exact ⟨(wrap64 (A2+1)),sq,H',⟨by have:=Ap.o;omega⟩,by repeat (first|exact Drawn0.refl _|apply Drawn0.step)⟩
def e7.f (k:Nat) (A1:Int) (A2:Int) (A3:ByteArray) (A4:List Int) (A5:Int) (A6:Int) (A7:ByteArray) (A8:List Int):Option (Bool):=if A1=A5 then (if A2=A6 then (if A3.toList=A7.toList then ((dG.f k A4 A8).bind fun A0=>(some A0)) else (some false)) else (some false)) else (some false)
theorem e7.calls (k:Nat) (Ac:Int) (Ad:Int) (Ae:ByteArray) (Af:Option Addr) (Ag:Nat) (A4:List Int) (Ah:Int) (Ai:Int) (Aj:ByteArray) (Ak:Option Addr) (Al:Nat) (A5:List Int) (r:Bool) (w:World) (A8:Kd.C (Kd.int .i64) w Af A4.length A4) (A9:A4.length≤Ag) (Aa:Kd.C (Kd.int .i64) w Ak A5.length A5) (Ab:A5.length≤Al) (h:e7.f k Ac Ad Ae A4 Ah Ai Aj A5=some r):
 Calls Try.prog 46 #[.agg #[.int .i64 Ac,.int .i64 Ad,.string Ae,.slice Af A4.length Ag],.agg #[.int .i64 Ah,.int .i64 Ai,.string Aj,.slice Ak A5.length Al]] w fun e w'=>e=.returned (.bool r)∧Below w.heap.size w w':=by
 have Bj:=Try.underlying43
 have B4:=am A8
 have B5:=am A9
 clear A8 A9
 have B6:=am Aa
 have B7:=am Ab
 clear Aa Ab
 have HB:=am (Below.refl w.heap.size w)
 have H:=h
 clear h
 unfold e7.f at H
 replace H:=iq' H
 rcases H with ⟨c3,B9,Ba,H⟩|⟨-,B9,Ba,H⟩
 rotate_left
 replace H:=iq' H
 rcases H with ⟨c4,Bb,Bc,H⟩|⟨-,Bb,Bc,H⟩
 rotate_left
 replace H:=iq' H
 rcases H with ⟨c5,Bd,Be,H⟩|⟨-,Bd,Be,H⟩
 rotate_left
 replace H:=be H
 obtain ⟨B8,Bk,H⟩:=H
 rotate_right
 rotate_right
 rotate_right
 all_goals
  obtain rfl:=k6 H
  go_enter Try.func46,Try.ntmps46
  go_wp2_with (first|((with_reducible refine aJ (N:=2) rfl ?_);refine bxe 2 #[.int .i64 Ac,.int .i64 Ad,.string Ae,.slice Af A4.length Ag] 43 ?_;intro Bf hg w_ hbox hb;have n_:=ak4 (aC (bq HB.o) hb) hbox (bz hg (bq HB.o)) (bz hg (bq HB.o));clear HB;obtain ⟨HB,A0,Bg,A1⟩:=n_;clear hb hbox hg)|((with_reducible refine aJ (N:=3) rfl ?_);refine bxe 3 #[.int .i64 Ah,.int .i64 Ai,.string Aj,.slice Ak A5.length Al] 43 ?_;intro Bh hg w_ hbox hb;have n_:=ak7 (kb A0 hb) (aC (bq1 HB.o A1.o) hb) hbox (bz hg (bq1 HB.o A1.o)) (bz hg (bq1 HB.o A1.o)) (nL hg A0) (nG hg A0);clear A0 HB;obtain ⟨A0,HB,Am,Bi,An,A2,A3⟩:=n_;clear hb hbox hg;have A6:=A2.o;have A7:=A3.o;obtain ⟨Ao,Ap,Aq,Ar,As,At,Au,Av⟩:=cl4 A0.o;obtain ⟨Aw,Ax,Ay,Az,B0,B1,B2,B3⟩:=cl4 Am.o)|(go_at_call 45;refine cm (dG.calls k _ _ A4 _ _ A5 B8 _ (cq (Kd.C_below B4.o HB.o)) B5.o (cq (Kd.C_below B6.o HB.o)) B7.o Bk.o) ?_;rintro e w' ⟨rfl,⟨nd,rfl⟩⟩))
  go_ret
  exact ⟨rq,bq2 HB.o A1.o An.o⟩
end Go.Proofs.Ytgppikopdpeigaa.XFnPdus
