/- The functions that one law reaches, as Lean functions, with their walks: printed by a program of this seat (wip/tools) out of the translation. -/
import Derived.Test.YthhnfmbfgplelaaXFnExactGetMsgx0
import Derived.Test.YthhnfmbfgplelaaXFnExactGetMsgx3
namespace Go.Proofs.Ythhnfmbfgplelaa.XFnExactGetMsg
open Go.RowKit Go.Proofs.YthhnfmbfgplelaaW.PrintWords Go.Proofs.YthhnfmbfgplelaaW.PrintLast Go.Proofs.YthhnfmbfgplelaaW.PrintMore
attribute [local go_sem] cQ cR dP dQ cC cD cS cT
set_option linter.unusedVariables false
set_option linter.unusedSimpArgs false
set_option maxHeartbeats 8000000
set_option maxRecDepth 100000
def cA.f (k:Nat) (A0:Int) (A1:Int) (A2:ByteArray) (A3:List Int):Option (Bool):=if A0=2 then ((eK.f A1).bind fun A4=>(if A4=true then ((dB.f k A0 A1 A2 A3 A0 A1 (⟨#[]⟩:ByteArray) ([]:List Int)).bind fun A5=>(some A5)) else (some false))) else (if A0=4 then (if (A2.size:Int)≤20 then ((dB.f k A0 A1 A2 A3 A0 0 A2 ([]:List Int)).bind fun A6=>(some A6)) else (some false)) else (if A0=6 then ((cI.f k A3).bind fun A7=>(if A7=true then ((dB.f k A0 A1 A2 A3 A0 0 (⟨#[]⟩:ByteArray) A3).bind fun A8=>(some A8)) else (some false))) else (if A0=5 then ((dB.f k A0 A1 A2 A3 A0 0 (⟨#[]⟩:ByteArray) ([]:List Int)).bind fun A9=>(some A9)) else (if A0=128 then ((dB.f k A0 A1 A2 A3 A0 0 (⟨#[]⟩:ByteArray) ([]:List Int)).bind fun Aa=>(some Aa)) else (if A0=130 then ((dB.f k A0 A1 A2 A3 A0 0 (⟨#[]⟩:ByteArray) ([]:List Int)).bind fun Ab=>(some Ab)) else (some false))))))
theorem cA.calls (k:Nat) (A3:Int) (A7:Int) (A8:ByteArray) (Ac:Option Addr) (Ad:Nat) (A6:List Int) (r:Bool) (w:World) (Ay:Kd.C (Kd.int .i64) w Ac A6.length A6) (Az:A6.length≤Ad) (h:cA.f k A3 A7 A8 A6=some r):
 Calls Try.prog 46 #[.agg #[.int .i64 A3,.int .i64 A7,.string A8,.slice Ac A6.length Ad]] w fun e w'=>e=.returned (.bool r)∧Below w.heap.size w w':=by
 have Bn:=Try.underlying29
 have Aa:=am Ay
 have Ab:=am Az
 clear Ay Az
 have HB:=am (Below.refl w.heap.size w)
 have H:=h
 clear h
 unfold cA.f at H
 replace H:=iq H
 rcases H with ⟨-,Bg,Bh,H⟩|⟨c2,Bg,Bh,H⟩
 replace H:=be H
 obtain ⟨B2,Bj,H⟩:=H
 cases B2
 replace H:=iF H
 have z0:=trivial
 rotate_left
 replace H:=iT H
 replace H:=be H
 obtain ⟨A9,Ax,H⟩:=H
 have z1:=trivial
 rotate_right
 rotate_left 2
 replace H:=iq H
 rcases H with ⟨-,B3,B4,H⟩|⟨Bo,B3,B4,H⟩
 replace H:=il' H
 rcases H with ⟨Bi,B5,H⟩|⟨Bi,B5,H⟩
 have B6:decide (A8.size≤20)=false:=decide_eq_false (by omega)
 clear Bi
 have z2:=trivial
 rotate_left
 have B6:decide (A8.size≤20)=true:=j7 (by omega)
 clear Bi
 replace H:=be H
 obtain ⟨A9,Ax,H⟩:=H
 have z3:=trivial
 rotate_right
 rotate_left 2
 replace H:=iq H
 rcases H with ⟨-,B7,B8,H⟩|⟨Bp,B7,B8,H⟩
 replace H:=be H
 obtain ⟨B9,Bk,H⟩:=H
 cases B9
 replace H:=iF H
 have z4:=trivial
 rotate_left
 replace H:=iT H
 replace H:=be H
 obtain ⟨A9,Ax,H⟩:=H
 have z5:=trivial
 rotate_right
 rotate_left 2
 replace H:=iq H
 rcases H with ⟨-,Ba,Bb,H⟩|⟨Bq,Ba,Bb,H⟩
 replace H:=be H
 obtain ⟨A9,Ax,H⟩:=H
 have z6:=trivial
 rotate_left
 replace H:=iq H
 rcases H with ⟨-,Bc,Bd,H⟩|⟨Br,Bc,Bd,H⟩
 replace H:=be H
 obtain ⟨A9,Ax,H⟩:=H
 have z6:=trivial
 rotate_left
 replace H:=iq' H
 rcases H with ⟨Bs,Be,Bf,H⟩|⟨-,Be,Bf,H⟩
 have z2:=trivial
 rotate_left
 replace H:=be H
 obtain ⟨A9,Ax,H⟩:=H
 have z6:=trivial
 rotate_right
 rotate_right
 rotate_right
 rotate_right 2
 rotate_right 2
 rotate_right 2
 all_goals
  obtain rfl:=j5 H
  go_enter Try.func46,Try.ntmps46
  go_wp2_with (first|((with_reducible refine aM (N:=1) rfl ?_);refine bxe 1 #[.int .i64 A3,.int .i64 A7,.string A8,.slice Ac A6.length Ad] 29 ?_;intro Aw hg w_ hbox hb;have n_:=ak4 (aA (bq HB.o) hb) hbox (bz hg (bq HB.o)) (bz hg (bq HB.o));clear HB;obtain ⟨HB,A0,Bl,A2⟩:=n_;clear hb hbox hg;obtain ⟨Af,Ag,Ah,Ai,Aj,Ak,Al,Am⟩:=cl4 A0.o)|((with_reducible refine aM (N:=3) rfl ?_);refine bxe 3 #[.int .i64 0,.int .i64 0,.string (⟨#[]⟩:ByteArray),.slice none 0 0] 29 ?_;intro Ae hg w_ hbox hb;have n_:=ak7 (kb A0 hb) (aA (bq1 HB.o A2.o) hb) hbox (bz hg (bq1 HB.o A2.o)) (bz hg (bq1 HB.o A2.o)) (nL hg A0) (nG hg A0);clear A0 HB;obtain ⟨A0,HB,A1,Bm,A5,A4,An⟩:=n_;clear hb hbox hg;have B0:=An.o;have B1:=A4.o;obtain ⟨Ao,Ap,Aq,Ar,As,At,Au,Av⟩:=cl4 A1.o)|((with_reducible refine aG (t:=29) (p:=3) rfl ?_);refine se 29 3 (s4 w_ Ae (.int .i64 A3) (.int .i64 0) (.string (⟨#[]⟩:ByteArray)) (.slice none 0 0)) ?_;intro w_ hw;have n_:=ak3 (sf4 hw A0 A4) (sc4 hw A1) (sb hw (bq2 HB.o A2.o A5.o));clear hw A0 A1 HB;obtain ⟨A0,A1,HB⟩:=n_;obtain ⟨Af,Ag,Ah,Ai,Aj,Ak,Al,Am⟩:=cl4 A0.o;obtain ⟨Ao,Ap,Aq,Ar,As,At,Au,Av⟩:=cl4 A1.o)|((with_reducible refine aD (f:=107) rfl ?_);have:=z0;refine gc (some 17) (eK.calls A7 false _ Bj.o) Try.func107 ?_;rintro e w' ⟨rfl,⟨nd,rfl⟩⟩;refine ⟨_,rfl,?_⟩)|((with_reducible refine aD (f:=107) rfl ?_);have:=z1;refine gc (some 17) (eK.calls A7 true _ Bj.o) Try.func107 ?_;rintro e w' ⟨rfl,⟨nd,rfl⟩⟩;refine ⟨_,rfl,?_⟩)|(go_at_call 49;have:=z5;refine cm (dB.calls k A3 A7 A8 _ _ A6 A3 0 (⟨#[]⟩:ByteArray) _ _ A6 A9 _ (Kd.C_below Aa.o (bq2 HB.o A2.o A5.o)) Ab.o (Kd.C_below Aa.o (bq2 HB.o A2.o A5.o)) Ab.o Ax.o) ?_;rintro e w_ ⟨rfl,hb⟩;have n_:=ak3 (bO (g:=Aw) (o:=.cells #[.int .i64 A3,.int .i64 A7,.string A8,.slice Ac A6.length Ad] 29 (0,0)) (by refine zr ?_;refine aK ?_ A4.o _;refine zr ?_;exact A0.o) hb) (bO (g:=Ae) (o:=.cells #[.int .i64 A3,.int .i64 0,.string (⟨#[]⟩:ByteArray),.slice Ac A6.length Ad] 29 (0,0)) (by refine zr ?_;refine aW (cs:=#[.int .i64 A3,.int .i64 0,.string (⟨#[]⟩:ByteArray),.slice none 0 0]) ?_ 3 _ rfl;refine zr ?_;exact A1.o) hb) (aA (bq2 HB.o A2.o A5.o) hb);clear A0 A1 HB;obtain ⟨A0,A1,HB⟩:=n_;(try clear hb))|(go_at_call 49;have:=z1;refine cm (dB.calls k A3 A7 A8 _ _ A6 A3 A7 (⟨#[]⟩:ByteArray) _ _ ([]:List Int) A9 _ (Kd.C_below Aa.o (bq2 HB.o A2.o A5.o)) Ab.o (Kd.C_nil _ _) (j6 _) Ax.o) ?_;rintro e w_ ⟨rfl,hb⟩;have n_:=ak3 (bO (g:=Aw) (o:=.cells #[.int .i64 A3,.int .i64 A7,.string A8,.slice Ac A6.length Ad] 29 (0,0)) (by refine zr ?_;refine aK ?_ A4.o _;refine zr ?_;exact A0.o) hb) (bO (g:=Ae) (o:=.cells #[.int .i64 A3,.int .i64 A7,.string (⟨#[]⟩:ByteArray),.slice none 0 0] 29 (0,0)) (by refine zr ?_;refine aW (cs:=#[.int .i64 A3,.int .i64 0,.string (⟨#[]⟩:ByteArray),.slice none 0 0]) ?_ 1 _ rfl;refine zr ?_;exact A1.o) hb) (aA (bq2 HB.o A2.o A5.o) hb);clear A0 A1 HB;obtain ⟨A0,A1,HB⟩:=n_;(try clear hb))|(go_at_call 49;have:=z3;refine cm (dB.calls k A3 A7 A8 _ _ A6 A3 0 A8 _ _ ([]:List Int) A9 _ (Kd.C_below Aa.o (bq2 HB.o A2.o A5.o)) Ab.o (Kd.C_nil _ _) (j6 _) Ax.o) ?_;rintro e w_ ⟨rfl,hb⟩;have n_:=ak3 (bO (g:=Aw) (o:=.cells #[.int .i64 A3,.int .i64 A7,.string A8,.slice Ac A6.length Ad] 29 (0,0)) (by refine zr ?_;refine aK ?_ A4.o _;refine zr ?_;exact A0.o) hb) (bO (g:=Ae) (o:=.cells #[.int .i64 A3,.int .i64 0,.string A8,.slice none 0 0] 29 (0,0)) (by refine zr ?_;refine aW (cs:=#[.int .i64 A3,.int .i64 0,.string (⟨#[]⟩:ByteArray),.slice none 0 0]) ?_ 2 _ rfl;refine zr ?_;exact A1.o) hb) (aA (bq2 HB.o A2.o A5.o) hb);clear A0 A1 HB;obtain ⟨A0,A1,HB⟩:=n_;(try clear hb))|(go_at_call 49;have:=z6;refine cm (dB.calls k A3 A7 A8 _ _ A6 A3 0 (⟨#[]⟩:ByteArray) _ _ ([]:List Int) A9 _ (cq (Kd.C_below Aa.o HB.o)) Ab.o (Kd.C_nil _ _) (j6 _) Ax.o) ?_;rintro e w_ ⟨rfl,hb⟩;have n_:=ak3 (kb A0 hb) (kb A1 hb) (aA (bq2 HB.o A2.o A5.o) hb);clear A0 A1 HB;obtain ⟨A0,A1,HB⟩:=n_;(try clear hb))|((with_reducible refine aD (f:=108) rfl ?_);have:=z4;refine gc (some 34) (cI.calls k _ _ A6 false _ (Kd.C_below Aa.o (bq2 HB.o A2.o A5.o)) Ab.o Bk.o) Try.func108 ?_;rintro e w' ⟨rfl,⟨nd,rfl⟩⟩;refine ⟨_,rfl,?_⟩)|((with_reducible refine aD (f:=108) rfl ?_);have:=z5;refine gc (some 34) (cI.calls k _ _ A6 true _ (Kd.C_below Aa.o (bq2 HB.o A2.o A5.o)) Ab.o Bk.o) Try.func108 ?_;rintro e w' ⟨rfl,⟨nd,rfl⟩⟩;refine ⟨_,rfl,?_⟩))
  go_ret
  exact ⟨rq,bq2 HB.o A2.o A5.o⟩
def cE.f (l0:List Int):Option (List Int):=if ([]:List Int).length+l0.length<140737488355328 then (some (([]:List Int)++l0)) else (none)
theorem cE.calls (A0:Option Addr) (c0:Nat) (l0:List Int) (r:List Int) (w:World) (A5:Kd.C (Kd.int .u8) w A0 l0.length l0) (A6:l0.length≤c0) (h:cE.f l0=some r):
 Calls Try.prog 68 #[.slice A0 l0.length c0] w fun e w'=>∃A7:Value,e=.returned (A7)∧Kd.R (Kd.int .u8) 5 w' w.heap.size (fun _=>True) A7 r∧Below w.heap.size w w':=by
 have A8:=am A5
 have Ab:=am A6
 clear A5 A6
 have HB:=am (Below.refl w.heap.size w)
 have H:=h
 clear h
 unfold cE.f at H
 replace H:=nq H
 obtain ⟨c2,H⟩:=H
 have A4:=am c2
 clear c2
 generalize A1:((([]:List Int)++l0):List Int)=A9 at H
 have A2:=am A1.symm
 clear A1
 obtain rfl:=j5 H
 go_enter Try.func68,Try.ntmps68
 go_wp2_with (first|((with_reducible refine bW (b:=.append) (xs:=#[(.const (.slice none 0 0)),.tmp 3]) rfl ?_);at_builtin;refine Kd.R_append_rows (Kd.int .u8) (w0:=w) w.heap.size rfl (.const (.slice none 0 0)) (.tmp 3) 22 5 (.int .u8 0) 1 rfl Try.underlying22 eF rfl (by decide) (by omega) (.slice none 0 0) ([]:List Int) l0 _ _ _ (fun _=>True) (fun _=>False) rfl rfl ?aO ?aR (fun _ _ h=>h) (fun _ h=>h.elim) ?aF ?aB ?aS ?aL ?_;(case aR=>exact cq A8.o);(case aB=>exact (bq HB.o));(case aF=>exact (fun _ _=>trivial));(case aO=>exact ((Kd.R_nil _ _ _ _ (fun _=>True))));(case aS=>exact (aX (bq HB.o)));(case aL=>have:=A4.o;omega);intro Aa w3 ho hb hg hat;rw [← A2.o] at ho;have n_:=ak2 hb ho;clear HB;obtain ⟨HB,A3⟩:=n_;clear ho hb hg hat))
 go_ret
 exact ⟨_,rq,kqR A3.o,bq HB.o⟩
mutual
def bF.j1:Nat→Int→Int→Option (List Int)
 |0,_,_=>none
 |k+1,x0,x3=>bF.l1 k x0 ([]:List Int) (wrap64 (x3 - 1))
def bF.l1:Nat→Int→List Int→Int→Option (List Int)
 |0,_,_,_=>none
 |k+1,x0,x4,x5=>if x5≥0 then (if 0≤(wrap64 (8*x5)) then (if x4.length<140737488355328 then (bF.l1 k x0 (x4++[(shr .i64 x0 (wrap64 (8*x5))) % 256]) (wrap64 (x5 - 1))) else (none)) else (none)) else (some x4)
def bF.l0:Nat→Int→Int→Option (List Int)
 |0,_,_=>none
 |k+1,x0,x3=>if x3<4 then (if 0≤(wrap64 ((wrap64 (8*x3)) - 1)) then ((bN.f x0 (shl .i64 (-1) (wrap64 ((wrap64 (8*x3)) - 1))) (wrap64 ((shl .i64 1 (wrap64 ((wrap64 (8*x3)) - 1))) - 1))).bind fun A0=>(if A0=true then (bF.j1 k x0 x3) else (bF.l0 k x0 (wrap64 (x3+1))))) else (none)) else (bF.j1 k x0 x3)
end
def bF.f (k:Nat) (a0:Int):Option (List Int):=bF.l0 k (mx (-2147483648) (mn a0 2147483647)) 1
theorem bF.calls (k:Nat) (a0:Int) (r:List Int) (w:World) (h:bF.f k a0=some r):
 Calls Try.prog 69 #[.int .i64 a0] w fun e w'=>∃Aw:Value,e=.returned (Aw)∧Kd.R (Kd.int .u8) 5 w' w.heap.size (fun _=>True) Aw r∧Below w.heap.size w w':=by
 have HB:=am (Below.refl w.heap.size w)
 have H:=h
 clear h
 unfold bF.f at H
 obtain ⟨Ag,A6⟩:∃j_:Int,(mn a0 2147483647)=j_:=⟨_,rfl⟩
 first|rw [A6] at H|simp only [A6] at H
 (try (have Ax:Ag≤2147483647:=by (rw [← A6];unfold mn;(repeat' split)<;>omega)))
 (try (have Ay:Ag≤64:=by omega))
 have Az:(if 2147483647<a0 then 2147483647 else a0)=Ag:=A6
 obtain ⟨A0,Ac⟩:∃j_:Int,(mx (-2147483648) (Ag))=j_:=⟨_,rfl⟩
 first|rw [Ac] at H|simp only [Ac] at H
 have B0:(if (-2147483648)<(Ag) then (Ag) else (-2147483648))=A0:=Ac
 have Am:=am H
 clear H
 go_enter Try.func69,Try.ntmps69
 go_upto_block 0 with (fail)
 repeat (go_quiet (fail);go_upto_block 0 with (fail))
 go_cut [3] (fun v3 wc=>∃(kq:Nat) (Ad:Int),v3=.int .i64 Ad∧Aside0 (bF.j1 kq A0 Ad=some r)∧Aside0 (kq≤k)∧Aside0 (Below w.heap.size w wc))
 case first=>
  have H:=Am.o
  clear Am
  have H':=am H
  clear H
  go_wp2
  repeat (go_quiet (fail);try go_wp2)
  go_loopg [3] k (fun kq v3 w'=>∃(A2:Int),v3=.int .i64 A2∧1≤A2∧A2≤4∧Aside0 (bF.l0 kq A0 A2=some r)∧Aside0 (kq≤k)∧Aside0 (Below w.heap.size w w'))
  case atStart=>exact ⟨(1),sq,by omega,by omega,H',⟨j6 _⟩,⟨bq HB.o⟩⟩
  case round=>
   clear H'
   obtain ⟨A2,rfl,B7,B8,HA,Ab,HB⟩:=hrel
   cases gk with
   |zero=>exact absurd HA.o (by simp [bF.l0])
   |succ k1=>
    have H:=HA.o
    clear HA
    simp only [bF.l0] at H
    have hx:A2=1∨A2=2∨A2=3∨A2=4:=by omega
    clear B7 B8
    rcases hx with rfl|rfl|rfl|rfl
    · rw [if_pos (by decide),show wrap64 (wrap64 (8*1) - 1)=7 by decide+kernel,if_pos (by decide),show shl .i64 (-1) 7=-128 by decide+kernel,show wrap64 (shl .i64 1 7 - 1)=127 by decide+kernel] at H
      replace H:=be H
      obtain ⟨A7,A1,H⟩:=H
      cases A7
      · have H':Aside0 (bF.l0 k1 A0 2=some r):=⟨by rw [if_neg (by decide),show wrap64 (1+1)=2 by decide+kernel] at H;exact H⟩
        clear H
        go_wp2_with (first|(go_at_call 87;refine cm (bN.calls A0 (-128) 127 false _ A1.o) ?_;rintro e w' ⟨rfl,⟨nd,rfl⟩⟩;(try first|exact ⟨rfl,_,World.drewN_drewN _ _ _⟩|exact ⟨rfl,_,Eq.trans (World.drewN_drewN _ _ _) (congrArg (World.drewN _) (Nat.add_assoc _ _ _))⟩)))
        repeat (go_quiet (first|(go_at_call 87;(with_reducible refine (bN.calls A0 (-128) 127 false _ A1.o).mono ?_);rintro e w' ⟨rfl,⟨nd,rfl⟩⟩;(try first|exact ⟨rfl,_,World.drewN_drewN _ _ _⟩|exact ⟨rfl,_,Eq.trans (World.drewN_drewN _ _ _) (congrArg (World.drewN _) (Nat.add_assoc _ _ _))⟩)));try go_wp2_with (first|(go_at_call 87;refine cm (bN.calls A0 (-128) 127 false _ A1.o) ?_;rintro e w' ⟨rfl,⟨nd,rfl⟩⟩;(try first|exact ⟨rfl,_,World.drewN_drewN _ _ _⟩|exact ⟨rfl,_,Eq.trans (World.drewN_drewN _ _ _) (congrArg (World.drewN _) (Nat.add_assoc _ _ _))⟩))))
        go_roundg k1
        case measure=>have:=Ab.o;omega
        case rel=>exact ⟨(2),sq,by omega,by omega,H',⟨by have:=Ab.o;omega⟩,⟨bq HB.o⟩⟩
      have H':Aside0 (bF.j1 k1 A0 1=some r):=⟨by rw [if_pos rfl] at H;exact H⟩
      clear H
      go_wp2_with (first|(go_at_call 87;refine cm (bN.calls A0 (-128) 127 true _ A1.o) ?_;rintro e w' ⟨rfl,⟨nd,rfl⟩⟩;(try first|exact ⟨rfl,_,World.drewN_drewN _ _ _⟩|exact ⟨rfl,_,Eq.trans (World.drewN_drewN _ _ _) (congrArg (World.drewN _) (Nat.add_assoc _ _ _))⟩)))
      repeat (go_quiet (first|(go_at_call 87;(with_reducible refine (bN.calls A0 (-128) 127 true _ A1.o).mono ?_);rintro e w' ⟨rfl,⟨nd,rfl⟩⟩;(try first|exact ⟨rfl,_,World.drewN_drewN _ _ _⟩|exact ⟨rfl,_,Eq.trans (World.drewN_drewN _ _ _) (congrArg (World.drewN _) (Nat.add_assoc _ _ _))⟩)));try go_wp2_with (first|(go_at_call 87;refine cm (bN.calls A0 (-128) 127 true _ A1.o) ?_;rintro e w' ⟨rfl,⟨nd,rfl⟩⟩;(try first|exact ⟨rfl,_,World.drewN_drewN _ _ _⟩|exact ⟨rfl,_,Eq.trans (World.drewN_drewN _ _ _) (congrArg (World.drewN _) (Nat.add_assoc _ _ _))⟩))))
      go_meet
      case rel=>exact ⟨_,(1),sq,H',⟨by have:=Ab.o;first|omega|exact j6 _⟩,⟨bq HB.o⟩⟩
    · rw [if_pos (by decide),show wrap64 (wrap64 (8*2) - 1)=15 by decide+kernel,if_pos (by decide),show shl .i64 (-1) 15=-32768 by decide+kernel,show wrap64 (shl .i64 1 15 - 1)=32767 by decide+kernel] at H
      replace H:=be H
      obtain ⟨A7,A1,H⟩:=H
      cases A7
      · have H':Aside0 (bF.l0 k1 A0 3=some r):=⟨by rw [if_neg (by decide),show wrap64 (2+1)=3 by decide+kernel] at H;exact H⟩
        clear H
        go_wp2_with (first|(go_at_call 87;refine cm (bN.calls A0 (-32768) 32767 false _ A1.o) ?_;rintro e w' ⟨rfl,⟨nd,rfl⟩⟩;(try first|exact ⟨rfl,_,World.drewN_drewN _ _ _⟩|exact ⟨rfl,_,Eq.trans (World.drewN_drewN _ _ _) (congrArg (World.drewN _) (Nat.add_assoc _ _ _))⟩)))
        repeat (go_quiet (first|(go_at_call 87;(with_reducible refine (bN.calls A0 (-32768) 32767 false _ A1.o).mono ?_);rintro e w' ⟨rfl,⟨nd,rfl⟩⟩;(try first|exact ⟨rfl,_,World.drewN_drewN _ _ _⟩|exact ⟨rfl,_,Eq.trans (World.drewN_drewN _ _ _) (congrArg (World.drewN _) (Nat.add_assoc _ _ _))⟩)));try go_wp2_with (first|(go_at_call 87;refine cm (bN.calls A0 (-32768) 32767 false _ A1.o) ?_;rintro e w' ⟨rfl,⟨nd,rfl⟩⟩;(try first|exact ⟨rfl,_,World.drewN_drewN _ _ _⟩|exact ⟨rfl,_,Eq.trans (World.drewN_drewN _ _ _) (congrArg (World.drewN _) (Nat.add_assoc _ _ _))⟩))))
        go_roundg k1
        case measure=>have:=Ab.o;omega
        case rel=>exact ⟨(3),sq,by omega,by omega,H',⟨by have:=Ab.o;omega⟩,⟨bq HB.o⟩⟩
      have H':Aside0 (bF.j1 k1 A0 2=some r):=⟨by rw [if_pos rfl] at H;exact H⟩
      clear H
      go_wp2_with (first|(go_at_call 87;refine cm (bN.calls A0 (-32768) 32767 true _ A1.o) ?_;rintro e w' ⟨rfl,⟨nd,rfl⟩⟩;(try first|exact ⟨rfl,_,World.drewN_drewN _ _ _⟩|exact ⟨rfl,_,Eq.trans (World.drewN_drewN _ _ _) (congrArg (World.drewN _) (Nat.add_assoc _ _ _))⟩)))
      repeat (go_quiet (first|(go_at_call 87;(with_reducible refine (bN.calls A0 (-32768) 32767 true _ A1.o).mono ?_);rintro e w' ⟨rfl,⟨nd,rfl⟩⟩;(try first|exact ⟨rfl,_,World.drewN_drewN _ _ _⟩|exact ⟨rfl,_,Eq.trans (World.drewN_drewN _ _ _) (congrArg (World.drewN _) (Nat.add_assoc _ _ _))⟩)));try go_wp2_with (first|(go_at_call 87;refine cm (bN.calls A0 (-32768) 32767 true _ A1.o) ?_;rintro e w' ⟨rfl,⟨nd,rfl⟩⟩;(try first|exact ⟨rfl,_,World.drewN_drewN _ _ _⟩|exact ⟨rfl,_,Eq.trans (World.drewN_drewN _ _ _) (congrArg (World.drewN _) (Nat.add_assoc _ _ _))⟩))))
      go_meet
      case rel=>exact ⟨_,(2),sq,H',⟨by have:=Ab.o;first|omega|exact j6 _⟩,⟨bq HB.o⟩⟩
    · rw [if_pos (by decide),show wrap64 (wrap64 (8*3) - 1)=23 by decide+kernel,if_pos (by decide),show shl .i64 (-1) 23=-8388608 by decide+kernel,show wrap64 (shl .i64 1 23 - 1)=8388607 by decide+kernel] at H
      replace H:=be H
      obtain ⟨A7,A1,H⟩:=H
      cases A7
      · have H':Aside0 (bF.l0 k1 A0 4=some r):=⟨by rw [if_neg (by decide),show wrap64 (3+1)=4 by decide+kernel] at H;exact H⟩
        clear H
        go_wp2_with (first|(go_at_call 87;refine cm (bN.calls A0 (-8388608) 8388607 false _ A1.o) ?_;rintro e w' ⟨rfl,⟨nd,rfl⟩⟩;(try first|exact ⟨rfl,_,World.drewN_drewN _ _ _⟩|exact ⟨rfl,_,Eq.trans (World.drewN_drewN _ _ _) (congrArg (World.drewN _) (Nat.add_assoc _ _ _))⟩)))
        repeat (go_quiet (first|(go_at_call 87;(with_reducible refine (bN.calls A0 (-8388608) 8388607 false _ A1.o).mono ?_);rintro e w' ⟨rfl,⟨nd,rfl⟩⟩;(try first|exact ⟨rfl,_,World.drewN_drewN _ _ _⟩|exact ⟨rfl,_,Eq.trans (World.drewN_drewN _ _ _) (congrArg (World.drewN _) (Nat.add_assoc _ _ _))⟩)));try go_wp2_with (first|(go_at_call 87;refine cm (bN.calls A0 (-8388608) 8388607 false _ A1.o) ?_;rintro e w' ⟨rfl,⟨nd,rfl⟩⟩;(try first|exact ⟨rfl,_,World.drewN_drewN _ _ _⟩|exact ⟨rfl,_,Eq.trans (World.drewN_drewN _ _ _) (congrArg (World.drewN _) (Nat.add_assoc _ _ _))⟩))))
        go_roundg k1
        case measure=>have:=Ab.o;omega
        case rel=>exact ⟨(4),sq,by omega,by omega,H',⟨by have:=Ab.o;omega⟩,⟨bq HB.o⟩⟩
      have H':Aside0 (bF.j1 k1 A0 3=some r):=⟨by rw [if_pos rfl] at H;exact H⟩
      clear H
      go_wp2_with (first|(go_at_call 87;refine cm (bN.calls A0 (-8388608) 8388607 true _ A1.o) ?_;rintro e w' ⟨rfl,⟨nd,rfl⟩⟩;(try first|exact ⟨rfl,_,World.drewN_drewN _ _ _⟩|exact ⟨rfl,_,Eq.trans (World.drewN_drewN _ _ _) (congrArg (World.drewN _) (Nat.add_assoc _ _ _))⟩)))
      repeat (go_quiet (first|(go_at_call 87;(with_reducible refine (bN.calls A0 (-8388608) 8388607 true _ A1.o).mono ?_);rintro e w' ⟨rfl,⟨nd,rfl⟩⟩;(try first|exact ⟨rfl,_,World.drewN_drewN _ _ _⟩|exact ⟨rfl,_,Eq.trans (World.drewN_drewN _ _ _) (congrArg (World.drewN _) (Nat.add_assoc _ _ _))⟩)));try go_wp2_with (first|(go_at_call 87;refine cm (bN.calls A0 (-8388608) 8388607 true _ A1.o) ?_;rintro e w' ⟨rfl,⟨nd,rfl⟩⟩;(try first|exact ⟨rfl,_,World.drewN_drewN _ _ _⟩|exact ⟨rfl,_,Eq.trans (World.drewN_drewN _ _ _) (congrArg (World.drewN _) (Nat.add_assoc _ _ _))⟩))))
      go_meet
      case rel=>exact ⟨_,(3),sq,H',⟨by have:=Ab.o;first|omega|exact j6 _⟩,⟨bq HB.o⟩⟩
    have H':Aside0 (bF.j1 k1 A0 4=some r):=⟨by rw [if_neg (by decide)] at H;exact H⟩
    clear H
    go_wp2
    repeat (go_quiet (fail);try go_wp2)
    go_meet
    case rel=>exact ⟨_,(4),sq,H',⟨by have:=Ab.o;first|omega|exact j6 _⟩,⟨bq HB.o⟩⟩
 case rest=>
  clear Am
  try clear c1
  try clear p2
  try clear c5
  try clear An
  try clear c6
  try clear p6
  try clear c7
  try clear Ao
  try clear Ap
  try clear c9
  try clear Aq
  try clear B9
  try clear p2
  obtain ⟨kq,Ad,rfl,HA,B1,HB⟩:=hcut
  cases kq with
  |zero=>exact absurd HA.o (by simp [bF.j1])
  |succ B2=>
   have H:=HA.o
   clear HA
   simp only [bF.j1] at H
   have H':=am H
   clear H
   go_wp2
   go_loopg [4,5] B2 (fun kq v4 v5 w'=>∃(A8:List Int) (A3:Int),v5=.int .i64 A3∧Aside0 (bF.l1 kq A0 A8 A3=some r)∧Aside0 (kq≤B2)∧Aside0 (Kd.R (Kd.int .u8) 5 w' w.heap.size (fun _=>True) v4 A8)∧Aside0 (Below w.heap.size w w'))
   case atStart=>exact ⟨(([]:List Int)),(wrap64 (Ad - 1)),sq,H',⟨j6 _⟩,⟨rn⟩,⟨bq HB.o⟩⟩
   case round=>
    clear H'
    try clear c1
    try clear p2
    try clear c5
    try clear An
    try clear c6
    try clear p6
    try clear c7
    try clear Ao
    try clear Ap
    try clear c9
    try clear Aq
    try clear B9
    try clear p2
    try clear p6
    obtain ⟨A8,A3,rfl,HA,B3,Af,HB⟩:=hrel
    cases gk with
    |zero=>exact absurd HA.o (by simp [bF.l1])
    |succ k2=>
     have H:=HA.o
     clear HA
     simp only [bF.l1] at H
     replace H:=ip' H
     rcases H with ⟨Ah,H⟩|⟨Ah,H⟩
     · have Ai:decide (0≤A3)=false:=decide_eq_false Ah
       clear Ah
       obtain rfl:=j5 H
       go_wp2
       go_ret
       exact ⟨_,by first|rfl|(simp [bD,bE]<;>rfl)|(simp only [← A6,← Ac];first|rfl|(simp [bD,bE]<;>rfl))|(simp [*,bD,bE]<;>rfl),kqR Af.o,bq HB.o⟩
     have Ai:decide (0≤A3)=true:=j7 Ah
     clear Ah
     obtain ⟨A5,A9⟩:∃j_:Int,(wrap64 (8*A3))=j_:=⟨_,rfl⟩
     first|rw [A9] at H|simp only [A9] at H
     have Ar:(IntKind.i64.wrap (8*A3))=A5:=(aN _).trans A9
     replace H:=nq H
     obtain ⟨As,H⟩:=H
     have B4:=eq_true As
     have B5:decide (0≤(A5))=true:=j7 As
     clear As
     obtain ⟨Aa,A4⟩:∃j_:Int,(shr .i64 A0 (A5))=j_:=⟨_,rfl⟩
     first|rw [A4] at H|simp only [A4] at H
     have At:(A0 / 2 ^ min (A5).toNat 64)=Aa:=A4
     have Au:(A5)≤64→(A0 / 2 ^ (A5).toNat)=Aa:=f8 A4
     replace H:=nq H
     obtain ⟨B6,H⟩:=H
     have Aj:=am B6
     clear B6
     generalize Ae:((A8++[(Aa) % 256]):List Int)=Av at H
     have Ak:=am Ae.symm
     clear Ae
     have H':=am H
     clear H
     go_wp2_with (first|((with_reducible refine bW (b:=.append) (xs:=#[.tmp 33,.tmp 39]) rfl ?_);at_builtin;refine Kd.R_append (Kd.int .u8) (w0:=w) w.heap.size rfl (.tmp 33) (.tmp 39) 22 5 (.int .u8 0) 1 rfl Try.underlying22 eF rfl (by decide) (by omega) u4 A8 ((Aa) % 256) [.int .u8 ((Aa) % 256)] (fun _=>True) (fun _=>False) rfl rfl ?aP (fun _ hk=>hk.elim) ?aF ?aO ?aB ?aS ?aL ?_;(case aP=>exact rfl);(case aB=>exact (bq HB.o));(case aF=>exact (fun _ _=>trivial));(case aO=>exact (kqR Af.o));(case aS=>exact (aX (bq HB.o)));(case aL=>have:=Aj.o;omega);intro Ba Bb ho hb hg hat;rw [← Ak.o] at ho;have n_:=ak2 hb ho;clear HB Af;obtain ⟨HB,Al⟩:=n_;clear ho hb hg hat))
     go_roundg k2
     case measure=>have:=B1.o;have:=B3.o;omega
     case rel=>exact ⟨(Av),(wrap64 (A3 - 1)),sq,H',⟨by have:=B1.o;have:=B3.o;omega⟩,⟨kqR Al.o⟩,⟨bq HB.o⟩⟩
mutual
def bK.l0:Nat→List Int→List Int→Int→Int→Option (List Int)
 |0,_,_,_,_=>none
 |k+1,x3,A1,A2,A0=>if A0<A2 then (if 0≤A0 then (if A0<(A1.length:Int) then (bK.l1 k x3 (rd A1 A0) 0 A1 A2 A0) else (none)) else (none)) else (some x3)
def bK.l1:Nat→List Int→Int→Int→List Int→Int→Int→Option (List Int)
 |0,_,_,_,_,_,_=>none
 |k+1,x3,x5,x6,A1,A2,A0=>if 0≤(wrap64 (7*x6)) then (if (shr .i64 x5 (wrap64 (7*x6)))>127 then (bK.l1 k x3 x5 (wrap64 (x6+1)) A1 A2 A0) else (bK.l2 k x3 x5 x6 A1 A2 A0)) else (none)
def bK.l2:Nat→List Int→Int→Int→List Int→Int→Int→Option (List Int)
 |0,_,_,_,_,_,_=>none
 |k+1,x3,x5,x6,A1,A2,A0=>if x6>0 then (if 0≤(wrap64 (7*x6)) then (if x3.length<140737488355328 then (bK.l2 k (x3++[(wrap64 ((Go.bits .and .i64 (shr .i64 x5 (wrap64 (7*x6))) 127)+128)) % 256]) x5 (wrap64 (x6 - 1)) A1 A2 A0) else (none)) else (none)) else (if x3.length<140737488355328 then (bK.l0 k (x3++[(Go.bits .and .i64 x5 127) % 256]) A1 A2 (wrap64 (A0+1))) else (none))
end
def bK.f (k:Nat) (l0:List Int):Option (List Int):=(cI.f k l0).bind fun A0=>(if A0=true then (bK.l0 k ([]:List Int) l0 (l0.length:Int) 0) else (some ([]:List Int)))
theorem bK.calls (k:Nat) (A0:Option Addr) (c0:Nat) (l0:List Int) (r:List Int) (w:World) (B8:Kd.C (Kd.int .i64) w A0 l0.length l0) (B9:l0.length≤c0) (h:bK.f k l0=some r):
 Calls Try.prog 70 #[.slice A0 l0.length c0] w fun e w'=>∃Ba:Value,e=.returned (Ba)∧Kd.R (Kd.int .u8) 5 w' w.heap.size (fun _=>True) Ba r∧Below w.heap.size w w':=by
 have Ay:=am B8
 have Bb:=am B9
 clear B8 B9
 have HB:=am (Below.refl w.heap.size w)
 have H:=h
 clear h
 unfold bK.f at H
 replace H:=be H
 obtain ⟨An,Bc,H⟩:=H
 cases An
 · replace H:=iF H
   obtain rfl:=j5 H
   go_enter Try.func70,Try.ntmps70
   go_wp2_with (first|((with_reducible refine aD (f:=108) rfl ?_);refine gc (some 8) (cI.calls k _ _ l0 false _ (cq Ay.o) Bb.o Bc.o) Try.func108 ?_;rintro e w' ⟨rfl,⟨nd,rfl⟩⟩;refine ⟨_,rfl,?_⟩))
   go_ret
   exact ⟨_,rq,rn,bq HB.o⟩
 replace H:=iT H
 have H':=am H
 clear H
 go_enter Try.func70,Try.ntmps70
 go_wp2_with (first|((with_reducible refine aD (f:=108) rfl ?_);refine gc (some 8) (cI.calls k _ _ l0 true _ (cq Ay.o) Bb.o Bc.o) Try.func108 ?_;rintro e w' ⟨rfl,⟨nd,rfl⟩⟩;refine ⟨_,rfl,?_⟩))
 go_loopg [3,12] k (fun kq v3 Bm w'=>∃(A7:List Int) (A1:Int),Bm=.int .i64 A1∧Aside0 (bK.l0 kq A7 l0 (l0.length:Int) A1=some r)∧Aside0 (kq≤k)∧Aside0 (Kd.R (Kd.int .u8) 5 w' w.heap.size (fun _=>True) v3 A7)∧Aside0 (Below w.heap.size w w'))
 case atStart=>exact ⟨(([]:List Int)),(0),sq,H',⟨j6 _⟩,⟨rn⟩,⟨bq HB.o⟩⟩
 case round=>
  clear H'
  try clear c1
  try clear p2
  try clear c3
  obtain ⟨A7,A1,rfl,HA,Ak,A3,HB⟩:=hrel
  cases gk with
  |zero=>exact absurd HA.o (by simp [bK.l0])
  |succ k1=>
   have H:=HA.o
   clear HA
   simp only [bK.l0] at H
   replace H:=il' H
   rcases H with ⟨-,Ai,H⟩|⟨-,Ai,H⟩
   · obtain rfl:=j5 H
     go_wp2
     go_ret
     exact ⟨_,rq,kqR A3.o,bq HB.o⟩
   replace H:=nl H
   obtain ⟨-,Ao,H⟩:=H
   replace H:=nl H
   obtain ⟨-,Ap,H⟩:=H
   have H':=am H
   clear H
   have Aa:0≤(A1:Int):=oda
   have Ab:A1<(l0.length:Int):=oda
   obtain ⟨Bd,Az,A2⟩:=Kd.at_int Ay.o A1 Aa Ab
   cases Az
   replace A2:=(HB.o.cell (jW w _ A2)).trans A2
   replace Aa:=eq_true Aa
   replace Ab:=eq_true Ab
   go_wp2
   go_loopg [6] k1 (fun kq v6 w'=>∃(A4:Int),v6=.int .i64 A4∧Aside0 (bK.l1 kq A7 (rd l0 A1) A4 l0 (l0.length:Int) A1=some r)∧Aside0 (kq≤k1)∧Aside0 (Kd.R (Kd.int .u8) 5 w' w.heap.size (fun _=>True) u3 A7)∧Aside0 (Below w.heap.size w w'))
   case atStart=>exact ⟨(0),sq,H',⟨j6 _⟩,⟨kqR A3.o⟩,⟨bq HB.o⟩⟩
   case round=>
    clear H'
    try clear c1
    try clear p1
    try clear q1
    try clear Bn
    try clear p2
    try clear c3
    try clear c4
    try clear Ai
    try clear c5
    try clear Ao
    try clear c6
    try clear Ap
    try clear A2
    try clear Aa
    try clear p2
    try clear Ab
    obtain ⟨A4,rfl,HA,Al,A3,HB⟩:=hrel
    cases gk with
    |zero=>exact absurd HA.o (by simp [bK.l1])
    |succ k2=>
     have H:=HA.o
     clear HA
     simp only [bK.l1] at H
     obtain ⟨Am,Aj⟩:∃j_:Int,(wrap64 (7*A4))=j_:=⟨_,rfl⟩
     first|rw [Aj] at H|simp only [Aj] at H
     have Be:(IntKind.i64.wrap (7*A4))=Am:=(aN _).trans Aj
     replace H:=nq H
     obtain ⟨c8,H⟩:=H
     have B0:=eq_true c8
     have B1:decide (0≤(Am))=true:=j7 c8
     clear c8
     obtain ⟨Bf,Ae⟩:∃j_:Int,(shr .i64 (rd l0 A1) (Am))=j_:=⟨_,rfl⟩
     first|rw [Ae] at H|simp only [Ae] at H
     have Bg:((rd l0 A1) / 2 ^ min (Am).toNat 64)=Bf:=Ae
     have Bh:(Am)≤64→((rd l0 A1) / 2 ^ (Am).toNat)=Bf:=f8 Ae
     replace H:=ig H
     rcases H with ⟨-,Af,H⟩|⟨-,Af,H⟩
     · have H':=am H
       clear H
       go_wp2
       go_roundg k2
       case measure=>have:=Ak.o;have:=Al.o;omega
       case rel=>exact ⟨(wrap64 (A4+1)),sq,H',⟨by have:=Ak.o;have:=Al.o;omega⟩,⟨kqR A3.o⟩,⟨bq HB.o⟩⟩
     have H':=am H
     clear H
     go_wp2
     go_loopg [3,6] k2 (fun kq v3 v6 w'=>∃(A5:List Int) (A8:Int),v6=.int .i64 A8∧Aside0 (bK.l2 kq A5 (rd l0 A1) A8 l0 (l0.length:Int) A1=some r)∧Aside0 (kq≤k2)∧Aside0 (Kd.R (Kd.int .u8) 5 w' w.heap.size (fun _=>True) v3 A5)∧Aside0 (Below w.heap.size w w'))
     case atStart=>exact ⟨(A7),(A4),sq,H',⟨j6 _⟩,⟨kqR A3.o⟩,⟨bq HB.o⟩⟩
     case round=>
      clear H'
      try clear c1
      try clear p1
      try clear q1
      try clear Bn
      try clear p2
      try clear c3
      try clear c4
      try clear Ai
      try clear c5
      try clear Ao
      try clear c6
      try clear Ap
      try clear p6
      try clear c7
      try clear c8
      try clear B0
      try clear B1
      try clear Bq
      try clear Af
      try clear A2
      try clear p1
      try clear Aa
      try clear p2
      try clear q1
      try clear Ab
      obtain ⟨A5,A8,rfl,HA,Ax,A3,HB⟩:=hrel
      cases gk with
      |zero=>exact absurd HA.o (by simp [bK.l2])
      |succ k3=>
       have H:=HA.o
       clear HA
       simp only [bK.l2] at H
       replace H:=ig' H
       rcases H with ⟨-,Aq,H⟩|⟨-,Aq,H⟩
       replace H:=nq H
       obtain ⟨Bi,H⟩:=H
       have Ar:=am Bi
       clear Bi
       generalize Ag:((A5++[(Go.bits .and .i64 (rd l0 A1) 127) % 256]):List Int)=B2 at H
       have As:=am Ag.symm
       clear Ag
       rotate_left
       obtain ⟨A9,Ac⟩:∃j_:Int,(wrap64 (7*A8))=j_:=⟨_,rfl⟩
       first|rw [Ac] at H|simp only [Ac] at H
       have B3:(IntKind.i64.wrap (7*A8))=A9:=(aN _).trans Ac
       replace H:=nq H
       obtain ⟨B4,H⟩:=H
       have Bj:=eq_true B4
       have Bk:decide (0≤(A9))=true:=j7 B4
       clear B4
       obtain ⟨Ad,A6⟩:∃j_:Int,(shr .i64 (rd l0 A1) (A9))=j_:=⟨_,rfl⟩
       first|rw [A6] at H|simp only [A6] at H
       have B5:((rd l0 A1) / 2 ^ min (A9).toNat 64)=Ad:=A6
       have B6:(A9)≤64→((rd l0 A1) / 2 ^ (A9).toNat)=Ad:=f8 A6
       replace H:=nq H
       obtain ⟨Bl,H⟩:=H
       have At:=am Bl
       clear Bl
       generalize Ah:((A5++[(wrap64 ((Go.bits .and .i64 (Ad) 127)+128)) % 256]):List Int)=B7 at H
       have Au:=am Ah.symm
       clear Ah
       rotate_right
       all_goals
        have H':=am H
        clear H
        go_wp2_with (first|((with_reducible refine bW (b:=.append) (xs:=#[.tmp 37,.tmp 41]) rfl ?_);at_builtin;refine Kd.R_append (Kd.int .u8) (w0:=w) w.heap.size rfl (.tmp 37) (.tmp 41) 22 5 (.int .u8 0) 1 rfl Try.underlying22 eF rfl (by decide) (by omega) u3 A5 ((Go.bits .and .i64 (rd l0 A1) 127) % 256) [.int .u8 ((Go.bits .and .i64 (rd l0 A1) 127) % 256)] (fun _=>True) (fun _=>False) rfl rfl ?aP (fun _ hk=>hk.elim) ?aF ?aO ?aB ?aS ?aL ?_;(case aP=>exact rfl);(case aB=>exact (bq HB.o));(case aF=>exact (fun _ _=>trivial));(case aO=>exact (kqR A3.o));(case aS=>exact (aX (bq HB.o)));(case aL=>have:=Ar.o;omega);intro Bo w_ ho hb hg hat;rw [← As.o] at ho;have n_:=ak2 hb ho;clear HB A3;obtain ⟨HB,Av⟩:=n_;clear ho hb hg hat)|((with_reducible refine bW (b:=.append) (xs:=#[.tmp 27,.tmp 35]) rfl ?_);at_builtin;refine Kd.R_append (Kd.int .u8) (w0:=w) w.heap.size rfl (.tmp 27) (.tmp 35) 22 5 (.int .u8 0) 1 rfl Try.underlying22 eF rfl (by decide) (by omega) u3 A5 ((wrap64 ((Go.bits .and .i64 (Ad) 127)+128)) % 256) [.int .u8 ((wrap64 ((Go.bits .and .i64 (Ad) 127)+128)) % 256)] (fun _=>True) (fun _=>False) rfl rfl ?aP (fun _ hk=>hk.elim) ?aF ?aO ?aB ?aS ?aL ?_;(case aP=>exact rfl);(case aB=>exact (bq HB.o));(case aF=>exact (fun _ _=>trivial));(case aO=>exact (kqR A3.o));(case aS=>exact (aX (bq HB.o)));(case aL=>have:=At.o;omega);intro Bp w_ ho hb hg hat;rw [← Au.o] at ho;have n_:=ak2 hb ho;clear HB A3;obtain ⟨HB,Aw⟩:=n_;clear ho hb hg hat))
        first
        | go_roundg k3
          case measure=>have:=Ak.o;have:=Al.o;have:=Ax.o;omega
          case rel=>exact ⟨(B2),(wrap64 (A1+1)),sq,H',⟨by have:=Ak.o;have:=Al.o;have:=Ax.o;omega⟩,⟨kqR Av.o⟩,⟨bq HB.o⟩⟩
        | go_roundg k3
          case measure=>have:=Ak.o;have:=Al.o;have:=Ax.o;omega
          case rel=>exact ⟨(B7),(wrap64 (A8 - 1)),sq,H',⟨by have:=Ak.o;have:=Al.o;have:=Ax.o;omega⟩,⟨kqR Aw.o⟩,⟨bq HB.o⟩⟩
end Go.Proofs.Ythhnfmbfgplelaa.XFnExactGetMsg
