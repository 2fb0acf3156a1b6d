/- The functions that one law reaches, as Lean functions, with their walks: printed by a program of this seat (wip/tools) out of the translation. -/
import Derived.Test.YthhnfmbfgplelaaXFnMsgsReadx0
import Derived.Test.YthhnfmbfgplelaaXFnMsgsReadx10
namespace Go.Proofs.Ythhnfmbfgplelaa.XFnMsgsRead
open Go.RowKit Go.Proofs.YthhnfmbfgplelaaW.PrintWords Go.Proofs.YthhnfmbfgplelaaW.PrintLast Go.Proofs.YthhnfmbfgplelaaW.PrintMore
attribute [local go_sem] cL cM dC dD cB cC cN cO
set_option maxHeartbeats 8000000
set_option maxRecDepth 100000
set_option linter.unusedVariables false
set_option linter.unusedSimpArgs false
def fL.f (k:Nat) (A0:Int) (A1:Int) (A2:Int) (A3:Int) (A4:List (S116)) (A5:Int) (A6:Int) (A7:Int) (A8:Int) (A9:List (S116)):Option (Bool):=if A0=A5 then (if A1=A6 then (if A2=A7 then (if A3=A8 then ((bQ.f k A4 A9).bind fun Aa=>(some Aa)) else (some false)) else (some false)) else (some false)) else (some false)
theorem fL.calls (k:Nat) (Ac:Int) (Ad:Int) (Ae:Int) (Af:Int) (Ag:Option Addr) (Ah:Nat) (A2:List (S116)) (Ai:Int) (Aj:Int) (Ak:Int) (Al:Int) (Am:Option Addr) (An:Nat) (A3:List (S116)) (r:Bool) (w:World) (A7:Kd.C dV w Ag A2.length A2) (A8:A2.length≤Ah) (A9:Kd.C dV w Am A3.length A3) (Aa:A3.length≤An) (h:fL.f k Ac Ad Ae Af A2 Ai Aj Ak Al A3=some r):
 Calls Try.prog 56 #[.agg #[.int .i64 Ac,.int .i64 Ad,.int .i64 Ae,.int .i64 Af,.slice Ag A2.length Ah],.agg #[.int .i64 Ai,.int .i64 Aj,.int .i64 Ak,.int .i64 Al,.slice Am A3.length An]] w fun e w'=>e=.returned (.bool r)∧Below w.heap.size w w':=by
 have Br:=Try.underlying58
 have Ba:=am A7
 have Bb:=am A8
 clear A7 A8
 have Bc:=am A9
 have Bd:=am Aa
 clear A9 Aa
 have HB:=am (Below.refl w.heap.size w)
 have H:=h
 clear h
 unfold fL.f at H
 replace H:=iq' H
 rcases H with ⟨c3,Bf,Bg,H⟩|⟨-,Bf,Bg,H⟩
 rotate_left
 replace H:=iq' H
 rcases H with ⟨c4,Bh,Bi,H⟩|⟨-,Bh,Bi,H⟩
 rotate_left
 replace H:=iq' H
 rcases H with ⟨c5,Bj,Bk,H⟩|⟨-,Bj,Bk,H⟩
 rotate_left
 replace H:=iq' H
 rcases H with ⟨c6,Bl,Bm,H⟩|⟨-,Bl,Bm,H⟩
 rotate_left
 replace H:=be H
 obtain ⟨Be,Bs,H⟩:=H
 rotate_right
 rotate_right
 rotate_right
 rotate_right
 all_goals
  obtain rfl:=lY H
  go_enter Try.func56,Try.ntmps56
  go_wp2_with (first|((with_reducible refine aI (N:=2) rfl ?_);refine bxe 2 #[.int .i64 Ac,.int .i64 Ad,.int .i64 Ae,.int .i64 Af,.slice Ag A2.length Ah] 58 ?_;intro Bn hg w_ hbox hb;have n_:=ak4 (aC (bq HB.o) hb) hbox (bz hg (bq HB.o)) (bz hg (bq HB.o));clear HB;obtain ⟨HB,A0,Bo,A1⟩:=n_;clear hb hbox hg)|((with_reducible refine aI (N:=3) rfl ?_);refine bxe 3 #[.int .i64 Ai,.int .i64 Aj,.int .i64 Ak,.int .i64 Al,.slice Am A3.length An] 58 ?_;intro Bp hg w_ hbox hb;have n_:=ak7 (kb A0 hb) (aC (bq1 HB.o A1.o) hb) hbox (bz hg (bq1 HB.o A1.o)) (bz hg (bq1 HB.o A1.o)) (nL hg A0) (nG hg A0);clear A0 HB;obtain ⟨A0,HB,A4,Bq,Ab,A5,A6⟩:=n_;clear hb hbox hg;have Ao:=A5.o;have Ap:=A6.o;obtain ⟨Aq,Ar,As,At,Au,Av,Aw,Ax,Ay,Az⟩:=cl5 A0.o;obtain ⟨B0,B1,B2,B3,B4,B5,B6,B7,B8,B9⟩:=cl5 A4.o)|(go_at_call 116;refine cm (bQ.calls k _ _ A2 _ _ A3 Be _ (cq (Kd.C_below Ba.o HB.o)) Bb.o (cq (Kd.C_below Bc.o HB.o)) Bd.o Bs.o) ?_;rintro e w_ ⟨rfl,hb⟩;have n_:=ak3 (kb A0 hb) (kb A4 hb) (aC (bq2 HB.o A1.o Ab.o) hb);clear A0 A4 HB;obtain ⟨A0,A4,HB⟩:=n_;(try clear hb)))
  go_ret
  exact ⟨rq,bq2 HB.o A1.o Ab.o⟩
end Go.Proofs.Ythhnfmbfgplelaa.XFnMsgsRead
