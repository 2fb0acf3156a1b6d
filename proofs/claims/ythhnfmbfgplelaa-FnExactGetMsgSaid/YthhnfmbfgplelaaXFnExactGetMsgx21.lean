/- The functions that one law reaches, as Lean functions, with their walks: printed by a program of this seat (wip/tools) out of the translation. -/
import Derived.Test.YthhnfmbfgplelaaXFnExactGetMsgx0
import Derived.Test.YthhnfmbfgplelaaXFnExactGetMsgx1
import Derived.Test.YthhnfmbfgplelaaXFnExactGetMsgx2
import Derived.Test.YthhnfmbfgplelaaXFnExactGetMsgx3
import Derived.Test.YthhnfmbfgplelaaXFnExactGetMsgx11
import Derived.Test.YthhnfmbfgplelaaXFnExactGetMsgx12
import Derived.Test.YthhnfmbfgplelaaXFnExactGetMsgx20
namespace Go.Proofs.Ythhnfmbfgplelaa.XFnExactGetMsg
open Go.RowKit Go.Proofs.YthhnfmbfgplelaaW.PrintWords Go.Proofs.YthhnfmbfgplelaaW.PrintLast Go.Proofs.YthhnfmbfgplelaaW.PrintMore
attribute [local go_sem] cQ cR dP dQ cC cD cS cT
set_option maxHeartbeats 8000000
set_option maxRecDepth 100000
set_option linter.unusedVariables false
set_option linter.unusedSimpArgs false
mutual
def laws_FnExactGetMsg.j0:Nat→ByteArray→List Int→Int→List Int→Int→Bool→Int→Int→Int→Int→List (S116)→Int→Int→Int→Int→List (S116)→Option (Bool)
 | 0,_,_,_,_,_,_,_,_,_,_,_,_,_,_,_,_=>none
 | k+1,x0,x1,x6,x7,x9,Ak,A5,A6,A7,A8,A9,A0,A1,A2,A3,A4=>if Ak=true then (some false) else ((bX.f k x1).bind fun Af=>((dJ.f k x7 Af).bind fun Ag=>(if Ag=true then ((cJ.f k x7 1).bind fun Ac=>(if Ac.1<0 then (laws_FnExactGetMsg.j1 k x0 x1 x6 true A5 A6 A7 A8 A9 A0 A1 A2 A3 A4) else ((dR.f k A0 A1 A2 A3 A4 A5 A6 A7 A8 A9).bind fun Ah=>(if Ah=true then (laws_FnExactGetMsg.j1 k x0 x1 x6 (x9 !=x6) A5 A6 A7 A8 A9 A0 A1 A2 A3 A4) else (laws_FnExactGetMsg.j1 k x0 x1 x6 true A5 A6 A7 A8 A9 A0 A1 A2 A3 A4))))) else (some false))))
def laws_FnExactGetMsg.j1:Nat→ByteArray→List Int→Int→Bool→Int→Int→Int→Int→List (S116)→Int→Int→Int→Int→List (S116)→Option (Bool)
 | 0,_,_,_,_,_,_,_,_,_,_,_,_,_,_=>none
 | k+1,x0,x1,x6,Al,A5,A6,A7,A8,A9,A0,A1,A2,A3,A4=>if Al=true then (some false) else ((eQ.f k A0 A1 A2 A3 A4 1).bind fun Aa=>((eB.f k A0 A1 A2 A3 Aa.2 1).bind fun Ad=>(if Ad<0 then (some false) else (if Ad=Aa.1 then ((bX.f k x1).bind fun Ai=>((cX.f k x0 Ai).bind fun Ab=>((dR.f k Ab.1 Ab.2.1 Ab.2.2.1 Ab.2.2.2.1 Ab.2.2.2.2.1 A5 A6 A7 A8 A9).bind fun Aj=>(if Aj=true then (laws_FnExactGetMsg.j2 k Aa.1 (Ab.2.2.2.2.2 !=x6) A0 A1 A2 A3 Aa.2) else (laws_FnExactGetMsg.j2 k Aa.1 true A0 A1 A2 A3 Aa.2))))) else (some false)))))
def laws_FnExactGetMsg.j2:Nat→Int→Bool→Int→Int→Int→Int→List (S116)→Option (Bool)
 |0,_,_,_,_,_,_,_=>none
 |k+1,Am,An,A0,A1,A2,A3,A4=>if An=true then (some false) else ((eB.f k A0 A1 A2 A3 A4 1).bind fun Ae=>(if Ae<0 then (some false) else (if Ae=Am then (some true) else (some false))))
end
def laws_FnExactGetMsg.f (k:Nat) (a0:ByteArray) (l1:List Int):Option (Bool):=if (a0.size:Int)>1048576 then (some true) else (if (l1.length:Int)>1048576 then (some true) else ((bX.f k l1).bind fun A3=>((dM.f k a0 A3).bind fun A0=>((bX.f k l1).bind fun A2=>((cX.f k a0 A2).bind fun A1=>((dR.f k A1.1 A1.2.1 A1.2.2.1 A1.2.2.2.1 A1.2.2.2.2.1 A0.1 A0.2.1 A0.2.2.1 A0.2.2.2.1 A0.2.2.2.2.1).bind fun A4=>(if A4=true then (laws_FnExactGetMsg.j0 k a0 l1 A0.2.2.2.2.2 A2 A1.2.2.2.2.2 (A1.2.2.2.2.2 !=A0.2.2.2.2.2) A0.1 A0.2.1 A0.2.2.1 A0.2.2.2.1 A0.2.2.2.2.1 A1.1 A1.2.1 A1.2.2.1 A1.2.2.2.1 A1.2.2.2.2.1) else (laws_FnExactGetMsg.j0 k a0 l1 A0.2.2.2.2.2 A2 A1.2.2.2.2.2 true A0.1 A0.2.1 A0.2.2.1 A0.2.2.2.1 A0.2.2.2.2.1 A1.1 A1.2.1 A1.2.2.1 A1.2.2.2.1 A1.2.2.2.2.1))))))))
theorem laws_FnExactGetMsg.calls (k:Nat) (a0:ByteArray) (A1:Option Addr) (c1:Nat) (l1:List Int) (r:Bool) (w:World) (J1:Kd.C (Kd.int .u8) w A1 l1.length l1) (J2:l1.length≤c1) (hr_:r=true) (h:laws_FnExactGetMsg.f k a0 l1=some r):
 Calls Try.prog 11 #[.string a0,.slice A1 l1.length c1] w fun e w'=>e=.returned (.bool r)∧Below w.heap.size w w':=by
 have Ke:=Try.underlying58
 have HRT:=am hr_
 clear hr_
 have Ie:=am J1
 have If:=am J2
 clear J1 J2
 have HB:=am (Below.refl w.heap.size w)
 have H:=h
 clear h
 unfold laws_FnExactGetMsg.f at H
 replace H:=ig H
 rcases H with ⟨c3,Ep,H⟩|⟨c3,Ep,H⟩
 · have Eq:decide (1048576<a0.size)=true:=j7 (by omega)
   clear c3
   obtain rfl:=j5 H
   go_enter Try.func11,Try.ntmps11
   go_wp2
   go_ret
   exact ⟨rq,bq HB.o⟩
 have Eq:decide (1048576<a0.size)=false:=decide_eq_false (by omega)
 clear c3
 replace H:=ig H
 rcases H with ⟨c4,Er,H⟩|⟨c4,Er,H⟩
 · have Es:decide (1048576<l1.length)=true:=j7 (by omega)
   clear c4
   obtain rfl:=j5 H
   go_enter Try.func11,Try.ntmps11
   go_wp2
   go_ret
   exact ⟨rq,bq HB.o⟩
 have Es:decide (1048576<l1.length)=false:=decide_eq_false (by omega)
 clear c4
 replace H:=be H
 obtain ⟨D7,Kf,H⟩:=H
 replace H:=be H
 obtain ⟨⟨Al,Am,An,Ao,A6,Az⟩,Kg,H⟩:=H
 try dsimp only at H
 replace H:=be H
 obtain ⟨At,Kh,H⟩:=H
 replace H:=be H
 obtain ⟨⟨A9,Aa,Ab,Ac,Af,D8⟩,Ki,H⟩:=H
 try dsimp only at H
 have Ir:=am H
 clear H
 go_enter Try.func11,Try.ntmps11
 go_upto_region 8 with (first|((with_reducible refine aD (f:=15) rfl ?_);refine gc (some 24) (bX.calls k _ _ l1 D7 _ (cq Ie.o) If.o Kf.o) Try.func15 ?_;rintro e Ll ⟨Kj,rfl,Bf,hb⟩;refine ⟨_,rfl,?_⟩;have n_:=ak2 (rl Bf (bq HB.o)) (aA (bq HB.o) hb);clear HB;obtain ⟨A7,HB⟩:=n_;(try clear hb Bf);obtain ⟨I1,I2,Is⟩:=Kd.R_slice A7.o;subst Is)|((with_reducible refine aD (f:=60) rfl ?_);refine gc (some 25) (dM.calls k a0 _ _ D7 Al Am An Ao A6 Az _ (cq (Kd.R_reads' A7.o).2.2) ((Kd.R_reads' A7.o).2.1) Kg.o) Try.func60 ?_;rintro e Lm ⟨Kk,rfl,Bf,hb⟩;refine ⟨_,rfl,?_⟩;have n_:=ak3 (rb A7 hb) (Kd.S_lower Bf (aX (bq HB.o))) (aA (bq HB.o) hb);clear A7 HB;obtain ⟨A7,A8,HB⟩:=n_;(try clear hb Bf))|((with_reducible refine aM (N:=5) rfl ?_);refine bxe 5 #[.int .i64 0,.int .i64 0,.int .i64 0,.int .i64 0,.slice none 0 0] 58 ?_;intro Ae hg Kl hbox hb;have n_:=ak6 (rb A7 hb) (Kd.S_mono (ok':=(fun k_=>k_<Ae)) (Kd.S_old (kqS A8.o) hb) (fun _ hk=>hg ▸ hk.2)) (aA (bq HB.o) hb) hbox (bz hg (bq HB.o)) (bz hg (bq HB.o));clear A7 A8 HB;obtain ⟨A7,A8,HB,A3,J3,A5⟩:=n_;clear hb hbox hg;obtain ⟨Bh,Bi,Bj,Bk,Bl,Bm,Bn,Bo,Bp,Bq⟩:=cl5 A3.o;obtain ⟨Bb,Bc,It⟩:=Kd.S_slice A8.o;subst It)|((with_reducible refine aG (t:=58) (p:=5) rfl ?_);refine se 58 5 (s5 Kl Ae (.int .i64 Al) (.int .i64 Am) (.int .i64 An) (.int .i64 Ao) (.slice Bb A6.length Bc)) ?_;intro Km hw;have n_:=ak4 (sr5 hw A7 A3) (show Kd.S eA 116 Km w.heap.size (fun k_=>k_<Ae) (.slice Bb A6.length Bc) A6 by rw [hw];exact (by (with_reducible repeat (first|apply Kd.S_alloc|apply Kd.S_drewN|apply Kd.S_drew));exact Kd.S_mono (Kd.S_far (p:=⟨Ae,4,none⟩) (Kd.S_far (p:=⟨Ae,3,none⟩) (Kd.S_far (p:=⟨Ae,2,none⟩) (Kd.S_far (p:=⟨Ae,1,none⟩) (Kd.S_far (p:=⟨Ae,0,none⟩) (Kd.S_types A8.o A3.o (by decide)) (fun _ hk=>hk.2) (.int .i64 Al)) (fun _ hk=>hk.2) (.int .i64 Am)) (fun _ hk=>hk.2) (.int .i64 An)) (fun _ hk=>hk.2) (.int .i64 Ao)) (fun _ hk=>hk.2) (.slice Bb A6.length Bc)) (fun _ hk=>hk.1))) (sc5 hw A3) (sb hw (bq1 HB.o A5.o));clear hw A7 A8 A3 HB;obtain ⟨A7,A8,A3,HB⟩:=n_)|((with_reducible refine aD (f:=15) rfl ?_);refine gc (some 29) (bX.calls k _ _ l1 At _ (cq (Kd.C_below Ie.o HB.o)) If.o Kh.o) Try.func15 ?_;rintro e Ln ⟨Kn,rfl,Bf,hb⟩;refine ⟨_,rfl,?_⟩;have n_:=ak5 (re_ A7 Bf hb) (Kd.S_below (kqS A8.o) hb) (rn_ Bf A7 (bq1 HB.o A5.o)) (kb A3 hb) (aA (bq1 HB.o A5.o) hb);clear A7 A8 A3 HB;obtain ⟨A7,A8,Ak,A3,HB⟩:=n_;(try clear hb Bf);obtain ⟨Ek,El,Iu⟩:=Kd.R_slice Ak.o;subst Iu)|((with_reducible refine aD (f:=54) rfl ?_);refine gc (some 33) (cX.calls k a0 _ _ At A9 Aa Ab Ac Af D8 _ (cq (Kd.R_reads' Ak.o).2.2) ((Kd.R_reads' Ak.o).2.1) Ki.o) Try.func54 ?_;rintro e Lo ⟨Ko,rfl,Bf,hb⟩;refine ⟨_,rfl,?_⟩;have n_:=ak6 (rb A7 hb) (Kd.S_below (kqS A8.o) hb) (rb Ak hb) (Kd.S_mono (ok':=fun k_=>Ae<k_) (Kd.S_lower (Kd.S_bound Bf) (aX (bq1 HB.o A5.o))) (fun _ hk=>Nat.lt_of_lt_of_le (eR (zq A3.o)) hk.2.1)) (kb A3 hb) (aA (bq1 HB.o A5.o) hb);clear A7 A8 Ak A3 HB;obtain ⟨A7,A8,Ak,Ap,A3,HB⟩:=n_;(try clear hb Bf))|((with_reducible refine aM (N:=8) rfl ?_);refine bxe 8 #[.int .i64 0,.int .i64 0,.int .i64 0,.int .i64 0,.slice none 0 0] 58 ?_;intro Ag hg Kp hbox hb;have n_:=iM (rb A7 hb) (Kd.S_below (kqS A8.o) hb) (rb Ak hb) (Kd.S_mono (ok':=fun k_=>Ae<k_∧k_≠Ag) (Kd.S_old (kqS Ap.o) hb) (fun _ hk=>⟨hk.1,fun e_=>by have h2:=hk.2;rw [← hg] at h2;omega⟩)) (kb A3 hb) (aA (bq1 HB.o A5.o) hb) hbox (bz hg (bq1 HB.o A5.o)) (bz hg (bq1 HB.o A5.o)) (nL hg A3) (nG hg A3);clear A7 A8 Ak Ap A3 HB;obtain ⟨A7,A8,Ak,Ap,A3,HB,A4,J4,Ad,Ah,Ai⟩:=n_;clear hb hbox hg;have J5:=Ai.o;have J6:=Ah.o;obtain ⟨Br,Bs,Bt,Bu,Bv,Bw,Bx,By,Bz,C0⟩:=cl5 A4.o;obtain ⟨B2,B3,Iv⟩:=Kd.S_slice Ap.o;subst Iv)|((with_reducible refine aG (t:=58) (p:=8) rfl ?_);refine se 58 8 (s5 Kp Ag (.int .i64 A9) (.int .i64 Aa) (.int .i64 Ab) (.int .i64 Ac) (.slice B2 Af.length B3)) ?_;intro Ig hw;have n_:=ak7 (show Kd.R (Kd.int .u8) 5 Ig w.heap.size (fun k_=>some k_≠(.slice Ek At.length El:Value).ownBlock) (.slice I1 D7.length I2) D7 by rw [hw];exact (by refine kr ?_;exact Kd.R_mono (rf5 Ag (.int .i64 A9) (.int .i64 Aa) (.int .i64 Ab) (.int .i64 Ac) (.slice B2 Af.length B3) (Kd.R_types A7.o A4.o (by decide)) (fun _ hk=>hk.2)) (fun _ hk=>hk.1.2))) (show Kd.S eA 116 Ig w.heap.size (fun k_=>k_<Ae) (.slice Bb A6.length Bc) A6 by rw [hw];exact (by (with_reducible repeat (first|apply Kd.S_alloc|apply Kd.S_drewN|apply Kd.S_drew));exact Kd.S_mono (Kd.S_far (p:=⟨Ag,4,none⟩) (Kd.S_far (p:=⟨Ag,3,none⟩) (Kd.S_far (p:=⟨Ag,2,none⟩) (Kd.S_far (p:=⟨Ag,1,none⟩) (Kd.S_far (p:=⟨Ag,0,none⟩) (Kd.S_types A8.o A4.o (by decide)) (fun _ hk=>hk.2) (.int .i64 A9)) (fun _ hk=>hk.2) (.int .i64 Aa)) (fun _ hk=>hk.2) (.int .i64 Ab)) (fun _ hk=>hk.2) (.int .i64 Ac)) (fun _ hk=>hk.2) (.slice B2 Af.length B3)) (fun _ hk=>hk.1))) (show Kd.R (Kd.int .u8) 5 Ig w.heap.size (fun k_=>some k_≠(.slice I1 D7.length I2:Value).ownBlock) (.slice Ek At.length El) At by rw [hw];exact (by refine kr ?_;exact Kd.R_mono (rf5 Ag (.int .i64 A9) (.int .i64 Aa) (.int .i64 Ab) (.int .i64 Ac) (.slice B2 Af.length B3) (Kd.R_types Ak.o A4.o (by decide)) (fun _ hk=>hk.2)) (fun _ hk=>hk.1.2))) (show Kd.S kA 116 Ig w.heap.size (fun k_=>Ae<k_∧k_≠Ag) (.slice B2 Af.length B3) Af by rw [hw];exact (by (with_reducible repeat (first|apply Kd.S_alloc|apply Kd.S_drewN|apply Kd.S_drew));exact Kd.S_mono (Kd.S_far (p:=⟨Ag,4,none⟩) (Kd.S_far (p:=⟨Ag,3,none⟩) (Kd.S_far (p:=⟨Ag,2,none⟩) (Kd.S_far (p:=⟨Ag,1,none⟩) (Kd.S_far (p:=⟨Ag,0,none⟩) (Kd.S_types Ap.o A4.o (by decide)) (fun _ hk=>hk.2) (.int .i64 A9)) (fun _ hk=>hk.2) (.int .i64 Aa)) (fun _ hk=>hk.2) (.int .i64 Ab)) (fun _ hk=>hk.2) (.int .i64 Ac)) (fun _ hk=>hk.2) (.slice B2 Af.length B3)) (fun _ hk=>hk.1))) (sf5 hw A3 Ah) (sc5 hw A4) (sb hw (bq2 HB.o A5.o Ad.o));clear hw A7 A8 Ak Ap A3 A4 HB;obtain ⟨A7,A8,Ak,Ap,A3,A4,HB⟩:=n_))
 (try simp only [Act.put,jX,jY,jZ])
 go_cut [44] (fun Kq wc=>∃(kq:Nat) (Db:Bool),Kq=.bool Db∧Aside0 (laws_FnExactGetMsg.j0 kq a0 l1 Az At D8 Db Al Am An Ao A6 A9 Aa Ab Ac Af=some r)∧Aside0 (kq≤k)∧Aside0 (Kd.R (Kd.int .u8) 5 wc w.heap.size (fun _=>True) (.slice Ek At.length El) At)∧Aside0 (Kd.S eA 116 wc w.heap.size (fun k_=>k_<Ae) (.slice Bb A6.length Bc) A6)∧Aside0 (Kd.S kA 116 wc w.heap.size (fun k_=>Ae<k_∧k_≠Ag) (.slice B2 Af.length B3) Af)∧Aside0 (wc.heap[Ae]? =some (.cells #[.int .i64 Al,.int .i64 Am,.int .i64 An,.int .i64 Ao,(.slice Bb A6.length Bc)] 58 (0,0)))∧Aside0 (wc.heap[Ag]? =some (.cells #[.int .i64 A9,.int .i64 Aa,.int .i64 Ab,.int .i64 Ac,(.slice B2 Af.length B3)] 58 (0,0)))∧Aside0 (Below w.heap.size w wc))
 case first=>
  have H:=Ir.o
  clear Ir
  replace H:=be H
  obtain ⟨Iw,J7,H⟩:=H
  rcases bt Iw with rfl|rfl
  · replace H:=iT H
    have H':=am H
    clear H
    have J8:=Ai.o
    have J9:=Ah.o
    obtain ⟨C1,C2,C3,C4,C5,C6,C7,C8,C9,Ca⟩:=cl5 A4.o
    obtain ⟨Cb,Cc,Cd,Ce,Cf,Cg,Ch,Ci,Cj,Ck⟩:=cl5 A3.o
    go_wp2_with (first|((with_reducible refine aD (f:=42) rfl ?_);refine gc (some 38) (dR.calls k A9 Aa Ab Ac _ _ Af Al Am An Ao _ _ A6 true _ (cq (Kd.S_reads' Ap.o).2.2) ((Kd.S_reads' Ap.o).2.1) (cq (Kd.S_reads' A8.o).2.2) ((Kd.S_reads' A8.o).2.1) J7.o) Try.func42 ?_;rintro e Lp ⟨rfl,hb⟩;refine ⟨_,rfl,?_⟩;have n_:=ak7 (rb A7 hb) (Kd.S_below (kqS A8.o) hb) (rb Ak hb) (Kd.S_below (kqS Ap.o) hb) (kb A3 hb) (kb A4 hb) (aA (bq2 HB.o A5.o Ad.o) hb);clear A7 A8 Ak Ap A3 A4 HB;obtain ⟨A7,A8,Ak,Ap,A3,A4,HB⟩:=n_;(try clear hb)))
    go_meet
    case rel=>exact ⟨_,((D8 !=Az)),sq,H',⟨by first|omega|exact j6 _⟩,⟨by refine kr ?_;exact Kd.R_mono Ak.o (fun _ hk=>trivial)⟩,⟨kqS A8.o⟩,⟨kqS Ap.o⟩,⟨zq A3.o⟩,⟨zq A4.o⟩,⟨bq2 HB.o A5.o Ad.o⟩⟩
  replace H:=iF H
  have H':=am H
  clear H
  have Ja:=Ai.o
  have Jb:=Ah.o
  obtain ⟨Cl,Cm,Cn,Co,Cp,Cq,Cr,Cs,Ct,Cu⟩:=cl5 A4.o
  obtain ⟨Cv,Cw,Cx,Cy,Cz,D0,D1,D2,D3,D4⟩:=cl5 A3.o
  go_wp2_with (first|((with_reducible refine aD (f:=42) rfl ?_);refine gc (some 38) (dR.calls k A9 Aa Ab Ac _ _ Af Al Am An Ao _ _ A6 false _ (cq (Kd.S_reads' Ap.o).2.2) ((Kd.S_reads' Ap.o).2.1) (cq (Kd.S_reads' A8.o).2.2) ((Kd.S_reads' A8.o).2.1) J7.o) Try.func42 ?_;rintro e Lq ⟨rfl,hb⟩;refine ⟨_,rfl,?_⟩;have n_:=ak7 (rb A7 hb) (Kd.S_below (kqS A8.o) hb) (rb Ak hb) (Kd.S_below (kqS Ap.o) hb) (kb A3 hb) (kb A4 hb) (aA (bq2 HB.o A5.o Ad.o) hb);clear A7 A8 Ak Ap A3 A4 HB;obtain ⟨A7,A8,Ak,Ap,A3,A4,HB⟩:=n_;(try clear hb)))
  go_meet
  case rel=>exact ⟨_,(true),sq,H',⟨by first|omega|exact j6 _⟩,⟨by refine kr ?_;exact Kd.R_mono Ak.o (fun _ hk=>trivial)⟩,⟨kqS A8.o⟩,⟨kqS Ap.o⟩,⟨zq A3.o⟩,⟨zq A4.o⟩,⟨bq2 HB.o A5.o Ad.o⟩⟩
 case rest=>
  clear Ir
  try clear c1
  try clear c2
  try clear p2
  try clear c3
  try clear Ep
  try clear Eq
  try clear c4
  try clear Er
  try clear Es
  try clear c5
  try clear c6
  try clear Jc
  try clear Jd
  try clear Je
  try clear Jf
  try clear Jg
  try clear Jh
  try clear Bh
  try clear Bi
  try clear Bj
  try clear Bk
  try clear Bl
  try clear Br
  try clear Bs
  try clear Bt
  try clear Bu
  try clear Bv
  try clear C1
  try clear C2
  try clear C3
  try clear C4
  try clear C5
  try clear Cb
  try clear Cc
  try clear Cd
  try clear Ce
  try clear Cf
  try clear Cl
  try clear Cm
  try clear Cn
  try clear Co
  try clear Cp
  try clear Cv
  try clear Cw
  try clear Cx
  try clear Cy
  try clear Cz
  try clear Bm
  try clear Bn
  try clear Bo
  try clear Bp
  try clear Bq
  try clear Bw
  try clear Bx
  try clear By
  try clear Bz
  try clear C0
  try clear C6
  try clear C7
  try clear C8
  try clear C9
  try clear Ca
  try clear Cg
  try clear Ch
  try clear Ci
  try clear Cj
  try clear Ck
  try clear Cq
  try clear Cr
  try clear Cs
  try clear Ct
  try clear Cu
  try clear D0
  try clear D1
  try clear D2
  try clear D3
  try clear D4
  obtain ⟨kq,Db,rfl,HA,I3,Au,A0,A2,A3,A4,HB⟩:=hcut
  cases kq with
  |zero=>exact absurd HA.o (by simp [laws_FnExactGetMsg.j0])
  |succ Em=>
   have H:=HA.o
   clear HA
   simp only [laws_FnExactGetMsg.j0] at H
   rcases Decidable.em (Db=true) with Hv|Hv
   · subst Hv
     replace H:(some false)=some r:=by rw [if_pos rfl] at H;exact H
     exact absurd ((j5 H).trans HRT.o) (by decide)
   replace Hv:=Bool.eq_false_iff.mpr Hv
   subst Hv
   replace H:((bX.f Em l1).bind fun Dc=>((dJ.f Em At Dc).bind fun En=>(if En=true then ((cJ.f Em At 1).bind fun I4=>(if I4.1<0 then (laws_FnExactGetMsg.j1 Em a0 l1 Az true Al Am An Ao A6 A9 Aa Ab Ac Af) else ((dR.f Em A9 Aa Ab Ac Af Al Am An Ao A6).bind fun Hw=>(if Hw=true then (laws_FnExactGetMsg.j1 Em a0 l1 Az (D8 !=Az) Al Am An Ao A6 A9 Aa Ab Ac Af) else (laws_FnExactGetMsg.j1 Em a0 l1 Az true Al Am An Ao A6 A9 Aa Ab Ac Af))))) else (some false))))=some r:=by rw [if_neg (show ¬(false=true) by decide)] at H;exact H
   replace H:=be H
   obtain ⟨Dc,Kr,H⟩:=H
   replace H:=be H
   obtain ⟨En,Ks,H⟩:=H
   cases En
   · replace H:=iF H
     exact absurd ((j5 H).trans HRT.o) (by decide)
   replace H:=iT H
   replace H:=be H
   obtain ⟨⟨I5,I6⟩,Kt,H⟩:=H
   try dsimp only at H
   have Hx:=am H
   clear H
   go_upto_region 14 with (first|((with_reducible refine aD (f:=15) rfl ?_);refine gc (some 47) (bX.calls Em _ _ l1 Dc _ (cq (Kd.C_below Ie.o HB.o)) If.o Kr.o) Try.func15 ?_;rintro e Lr ⟨Ku,rfl,Bf,hb⟩;refine ⟨_,rfl,?_⟩;have n_:=ak7 (re_ Au Bf hb) (Kd.S_below (kqS A0.o) hb) (Kd.S_below (kqS A2.o) hb) (rn_ Bf Au (bq2 HB.o A5.o Ad.o)) (kb A3 hb) (kb A4 hb) (aA (bq2 HB.o A5.o Ad.o) hb);clear Au A0 A2 A3 A4 HB;obtain ⟨Au,A0,A2,Ax,A3,A4,HB⟩:=n_;(try clear hb Bf);obtain ⟨Kv,Kw,Ix⟩:=Kd.R_slice Ax.o;subst Ix)|((with_reducible refine aD (f:=18) rfl ?_);refine gc (some 48) (dJ.calls Em _ _ At _ _ Dc true _ (cq (Kd.R_reads' Au.o).2.2) ((Kd.R_reads' Au.o).2.1) (cq (Kd.R_reads' Ax.o).2.2) ((Kd.R_reads' Ax.o).2.1) Ks.o) Try.func18 ?_;rintro e w' ⟨rfl,⟨nd,rfl⟩⟩;refine ⟨_,rfl,?_⟩)|((with_reducible refine aD (f:=20) rfl ?_);refine gc (some 52) (cJ.calls Em (fun k_=>some k_=(.slice Ek At.length El:Value).ownBlock) (.slice Ek At.length El) At 1 I5 I6 w _ (bq2 HB.o A5.o Ad.o) (Kd.R_tight rfl Au.o) Kt.o) Try.func20 ?_;rintro e Ls ⟨rfl,Ji,hb,hkp⟩;refine ⟨_,rfl,?_⟩;have n_:=ak7 (Kd.R_reok rfl Ji (fun k_ e_=>Au.o.1 k_ e_)) (Kd.S_mono (ok':=fun k_=>k_<Ae) (Kd.S_keptB ((Kd.S_apart' A0.o (Kd.R_typed Au.o) (by decide))) hkp (fun k_ hk_ hs_=>(hk_.2) hs_)) (fun k_ hk_=>hk_.1.1)) (Kd.S_mono (ok':=fun k_=>Ae<k_∧k_≠Ag) (Kd.S_keptB ((Kd.S_apart' A2.o (Kd.R_typed Au.o) (by decide))) hkp (fun k_ hk_ hs_=>(hk_.2) hs_)) (fun k_ hk_=>hk_.1.1)) (fG (zq A3.o) hkp (fun hs_=>(fun e_=>(Kd.R_ne Au.o A3.o (by decide)) e_) hs_)) (fG (zq A4.o) hkp (fun hs_=>(fun e_=>(Kd.R_ne Au.o A4.o (by decide)) e_) hs_)) (Kd.R_mono (ok':=fun k_=>some k_≠(.slice Ek At.length El:Value).ownBlock) (Kd.R_keptB (Ax.o) hkp (fun k_ hk_ hs_=>(hk_.2) hs_)) (fun k_ hk_=>hk_.1.2)) hb;clear Au A0 A2 A3 A4 Ax HB;obtain ⟨Au,A0,A2,A3,A4,Ax,HB⟩:=n_;(try clear hb hkp Ji)))
   (try simp only [Act.put,jX,jY,jZ])
   go_cut [65] (fun Kx wc=>∃(kq:Nat) (D5:Bool),Kx=.bool D5∧Aside0 (laws_FnExactGetMsg.j1 kq a0 l1 Az D5 Al Am An Ao A6 A9 Aa Ab Ac Af=some r)∧Aside0 (kq≤Em)∧Aside0 (Kd.S eA 116 wc w.heap.size (fun k_=>k_<Ae) (.slice Bb A6.length Bc) A6)∧Aside0 (Kd.S kA 116 wc w.heap.size (fun k_=>Ae<k_∧k_≠Ag) (.slice B2 Af.length B3) Af)∧Aside0 (wc.heap[Ae]? =some (.cells #[.int .i64 Al,.int .i64 Am,.int .i64 An,.int .i64 Ao,(.slice Bb A6.length Bc)] 58 (0,0)))∧Aside0 (wc.heap[Ag]? =some (.cells #[.int .i64 A9,.int .i64 Aa,.int .i64 Ab,.int .i64 Ac,(.slice B2 Af.length B3)] 58 (0,0)))∧Aside0 (Below w.heap.size w wc))
   case first=>
    have H:=Hx.o
    clear Hx
    replace H:=il H
    rcases H with ⟨-,Bd,H⟩|⟨-,Bd,H⟩
    · (first|rw [Bd]|(simp only [aN,aU];rw [Bd])|skip)
      have H':=am H
      clear H
      go_wp2
      go_meet
      case rel=>exact ⟨_,(true),sq,H',⟨by have:=I3.o;first|omega|exact j6 _⟩,⟨kqS A0.o⟩,⟨kqS A2.o⟩,⟨zq A3.o⟩,⟨zq A4.o⟩,⟨bq2 HB.o A5.o Ad.o⟩⟩
    (first|rw [Bd]|(simp only [aN,aU];rw [Bd])|skip)
    replace H:=be H
    obtain ⟨Hw,Jj,H⟩:=H
    rcases bt Hw with rfl|rfl
    · replace H:=iT H
      have H':=am H
      clear H
      have Jk:=Ai.o
      have Jl:=Ah.o
      obtain ⟨Dd,De,Df,Dg,Dh,Di,Dj,Dk,Dl,Dm⟩:=cl5 A4.o
      obtain ⟨Dn,Do,Dp,Dq,Dr,Ds,Dt,Du,Dv,Dw⟩:=cl5 A3.o
      go_wp2_with (first|(go_at_call 42;refine cm (dR.calls Em A9 Aa Ab Ac _ _ Af Al Am An Ao _ _ A6 true _ (cq (Kd.S_reads' A2.o).2.2) ((Kd.S_reads' A2.o).2.1) (cq (Kd.S_reads' A0.o).2.2) ((Kd.S_reads' A0.o).2.1) Jj.o) ?_;rintro e Lt ⟨rfl,hb⟩;have n_:=ak7 (rb Au hb) (Kd.S_below (kqS A0.o) hb) (Kd.S_below (kqS A2.o) hb) (rb Ax hb) (kb A3 hb) (kb A4 hb) (aA (bq2 HB.o A5.o Ad.o) hb);clear Au A0 A2 Ax A3 A4 HB;obtain ⟨Au,A0,A2,Ax,A3,A4,HB⟩:=n_;(try clear hb)))
      go_meet
      case rel=>exact ⟨_,((D8 !=Az)),sq,H',⟨by have:=I3.o;first|omega|exact j6 _⟩,⟨kqS A0.o⟩,⟨kqS A2.o⟩,⟨zq A3.o⟩,⟨zq A4.o⟩,⟨bq2 HB.o A5.o Ad.o⟩⟩
    replace H:=iF H
    have H':=am H
    clear H
    have Jm:=Ai.o
    have Jn:=Ah.o
    obtain ⟨Dx,Dy,Dz,E0,E1,E2,E3,E4,E5,E6⟩:=cl5 A4.o
    obtain ⟨E7,E8,E9,Ea,Eb,Ec,Ed,Ee,Ef,Eg⟩:=cl5 A3.o
    go_wp2_with (first|(go_at_call 42;refine cm (dR.calls Em A9 Aa Ab Ac _ _ Af Al Am An Ao _ _ A6 false _ (cq (Kd.S_reads' A2.o).2.2) ((Kd.S_reads' A2.o).2.1) (cq (Kd.S_reads' A0.o).2.2) ((Kd.S_reads' A0.o).2.1) Jj.o) ?_;rintro e Lu ⟨rfl,hb⟩;have n_:=ak7 (rb Au hb) (Kd.S_below (kqS A0.o) hb) (Kd.S_below (kqS A2.o) hb) (rb Ax hb) (kb A3 hb) (kb A4 hb) (aA (bq2 HB.o A5.o Ad.o) hb);clear Au A0 A2 Ax A3 A4 HB;obtain ⟨Au,A0,A2,Ax,A3,A4,HB⟩:=n_;(try clear hb)))
    go_meet
    case rel=>exact ⟨_,(true),sq,H',⟨by have:=I3.o;first|omega|exact j6 _⟩,⟨kqS A0.o⟩,⟨kqS A2.o⟩,⟨zq A3.o⟩,⟨zq A4.o⟩,⟨bq2 HB.o A5.o Ad.o⟩⟩
   case rest=>
    clear Hx
    try clear c1
    try clear c2
    try clear p2
    try clear c3
    try clear Ep
    try clear Eq
    try clear c4
    try clear Er
    try clear Es
    try clear c5
    try clear c6
    try clear Jc
    try clear Jd
    try clear Ky
    try clear Kz
    try clear Je
    try clear Jf
    try clear Jg
    try clear Jh
    try clear Hv
    try clear L0
    try clear L1
    try clear L2
    try clear Bd
    try clear L3
    try clear L4
    try clear L5
    try clear L6
    try clear Bh
    try clear Bi
    try clear Bj
    try clear Bk
    try clear Bl
    try clear Br
    try clear Bs
    try clear Bt
    try clear Bu
    try clear Bv
    try clear C1
    try clear C2
    try clear C3
    try clear C4
    try clear C5
    try clear Cb
    try clear Cc
    try clear Cd
    try clear Ce
    try clear Cf
    try clear Cl
    try clear Cm
    try clear Cn
    try clear Co
    try clear Cp
    try clear Cv
    try clear Cw
    try clear Cx
    try clear Cy
    try clear Cz
    try clear Dd
    try clear De
    try clear Df
    try clear Dg
    try clear Dh
    try clear Dn
    try clear Do
    try clear Dp
    try clear Dq
    try clear Dr
    try clear Dx
    try clear Dy
    try clear Dz
    try clear E0
    try clear E1
    try clear E7
    try clear E8
    try clear E9
    try clear Ea
    try clear Eb
    try clear Bm
    try clear Bn
    try clear Bo
    try clear Bp
    try clear Bq
    try clear Bw
    try clear Bx
    try clear By
    try clear Bz
    try clear C0
    try clear C6
    try clear C7
    try clear C8
    try clear C9
    try clear Ca
    try clear Cg
    try clear Ch
    try clear Ci
    try clear Cj
    try clear Ck
    try clear Cq
    try clear Cr
    try clear Cs
    try clear Ct
    try clear Cu
    try clear D0
    try clear D1
    try clear D2
    try clear D3
    try clear D4
    try clear Di
    try clear Dj
    try clear Dk
    try clear Dl
    try clear Dm
    try clear Ds
    try clear Dt
    try clear Du
    try clear Dv
    try clear Dw
    try clear E2
    try clear E3
    try clear E4
    try clear E5
    try clear E6
    try clear Ec
    try clear Ed
    try clear Ee
    try clear Ef
    try clear Eg
    try clear p2
    obtain ⟨kq,D5,rfl,HA,I7,A0,A2,A3,A4,HB⟩:=hcut
    cases kq with
    |zero=>exact absurd HA.o (by simp [laws_FnExactGetMsg.j1])
    |succ B4=>
     have H:=HA.o
     clear HA
     simp only [laws_FnExactGetMsg.j1] at H
     rcases Decidable.em (D5=true) with I0|I0
     · subst I0
       replace H:(some false)=some r:=by rw [if_pos rfl] at H;exact H
       exact absurd ((j5 H).trans HRT.o) (by decide)
     replace I0:=Bool.eq_false_iff.mpr I0
     subst I0
     replace H:((eQ.f B4 A9 Aa Ab Ac Af 1).bind fun bm_=>((eB.f B4 A9 Aa Ab Ac bm_.2 1).bind fun Eh=>(if Eh<0 then (some false) else (if Eh=bm_.1 then ((bX.f B4 l1).bind fun Ei=>((cX.f B4 a0 Ei).bind fun Bg=>((dR.f B4 Bg.1 Bg.2.1 Bg.2.2.1 Bg.2.2.2.1 Bg.2.2.2.2.1 Al Am An Ao A6).bind fun Hy=>(if Hy=true then (laws_FnExactGetMsg.j2 B4 bm_.1 (Bg.2.2.2.2.2 !=Az) A9 Aa Ab Ac bm_.2) else (laws_FnExactGetMsg.j2 B4 bm_.1 true A9 Aa Ab Ac bm_.2))))) else (some false)))))=some r:=by rw [if_neg (show ¬(false=true) by decide)] at H;exact H
     replace H:=be H
     obtain ⟨⟨Eo,Av⟩,L7,H⟩:=H
     try dsimp only at H
     replace H:=be H
     obtain ⟨Eh,L8,H⟩:=H
     replace H:=il H
     rcases H with ⟨-,Hr,H⟩|⟨-,Hr,H⟩
     · exact absurd ((j5 H).trans HRT.o) (by decide)
     replace H:=iq' H
     rcases H with ⟨L9,Hs,Ht,H⟩|⟨-,Hs,Ht,H⟩
     · exact absurd ((j5 H).trans HRT.o) (by decide)
     replace H:=be H
     obtain ⟨Ei,La,H⟩:=H
     replace H:=be H
     obtain ⟨⟨B7,B8,B9,Ba,Ay,Hu⟩,Lb,H⟩:=H
     try dsimp only at H
     have Hz:=am H
     clear H
     have Jo:=Ai.o
     have Jp:=Ah.o
     obtain ⟨Et,Eu,Ev,Ew,Ex,Ey,Ez,G0,G1,G2⟩:=cl5 A4.o
     go_upto_region 25 with (first|((with_reducible refine aD (f:=43) rfl ?_);refine gc (some 68) (eQ.calls (ok:=fun k_=>Ae<k_∧k_≠Ag) B4 A9 Aa Ab Ac _ Af 1 Eo Av w _ (bq2 HB.o A5.o Ad.o) (kqS A2.o) L7.o) Try.func43 ?_;rintro e Jq ⟨rfl,hs,hb,hk⟩;refine ⟨_,rfl,?_⟩;have hl_:=(Kd.S_reads' hs).1;have n_:=ak5 (Kd.S_kept (kqS A0.o) hk (fun k_ Lc I8=>Nat.lt_asymm Lc I8.1)) (show Kd.S kA 116 Jq w.heap.size (fun k_=>Ae<k_∧k_≠Ag) (.slice B2 Av.length B3) Av by rw [← hl_];exact hs) (fG (zq A3.o) hk (fun I8=>Nat.lt_irrefl _ I8.1)) (show Jq.heap[Ag]? =some (.cells #[.int .i64 A9,.int .i64 Aa,.int .i64 Ab,.int .i64 Ac,.slice B2 Av.length B3] 58 (0,0)) by rw [← hl_];exact fG (zq A4.o) hk (fun I8=>I8.2 rfl)) hb;clear A0 A2 A3 A4 HB;obtain ⟨A0,A2,A3,A4,HB⟩:=n_;(try clear hb hs hk hl_);obtain ⟨G3,G4,G5,G6,G7,G8,G9,Ga,Gb,Gc⟩:=cl5 A4.o)|((with_reducible refine aD (f:=59) rfl ?_);refine gc (some 71) (eB.calls B4 A9 Aa Ab Ac _ _ Av 1 Eh _ (cq (Kd.S_reads' A2.o).2.2) ((Kd.S_reads' A2.o).2.1) L8.o) Try.func59 ?_;rintro e Lv ⟨rfl,hb⟩;refine ⟨_,rfl,?_⟩;have n_:=ak5 (Kd.S_below (kqS A0.o) hb) (Kd.S_below (kqS A2.o) hb) (kb A3 hb) (kb A4 hb) (aA (bq2 HB.o A5.o Ad.o) hb);clear A0 A2 A3 A4 HB;obtain ⟨A0,A2,A3,A4,HB⟩:=n_;(try clear hb))|((with_reducible refine aD (f:=15) rfl ?_);refine gc (some 80) (bX.calls B4 _ _ l1 Ei _ (cq (Kd.C_below Ie.o HB.o)) If.o La.o) Try.func15 ?_;rintro e Lw ⟨Ld,rfl,Bf,hb⟩;refine ⟨_,rfl,?_⟩;have n_:=ak6 (Kd.S_below (kqS A0.o) hb) (Kd.S_below (kqS A2.o) hb) (rl Bf (bq2 HB.o A5.o Ad.o)) (kb A3 hb) (kb A4 hb) (aA (bq2 HB.o A5.o Ad.o) hb);clear A0 A2 A3 A4 HB;obtain ⟨A0,A2,Ar,A3,A4,HB⟩:=n_;(try clear hb Bf);obtain ⟨Le,Lf,Iy⟩:=Kd.R_slice Ar.o;subst Iy)|((with_reducible refine aD (f:=54) rfl ?_);refine gc (some 81) (cX.calls B4 a0 _ _ Ei B7 B8 B9 Ba Ay Hu _ (cq (Kd.R_reads' Ar.o).2.2) ((Kd.R_reads' Ar.o).2.1) Lb.o) Try.func54 ?_;rintro e Lx ⟨Lg,rfl,Bf,hb⟩;refine ⟨_,rfl,?_⟩;have n_:=ak7 (Kd.S_below (kqS A0.o) hb) (Kd.S_below (kqS A2.o) hb) (rb Ar hb) (Kd.S_lower Bf (aX (bq2 HB.o A5.o Ad.o))) (kb A3 hb) (kb A4 hb) (aA (bq2 HB.o A5.o Ad.o) hb);clear A0 A2 Ar A3 A4 HB;obtain ⟨A0,A2,Ar,Aq,A3,A4,HB⟩:=n_;(try clear hb Bf))|((with_reducible refine aM (N:=13) rfl ?_);refine bxe 13 #[.int .i64 0,.int .i64 0,.int .i64 0,.int .i64 0,.slice none 0 0] 58 ?_;intro As hg Lh hbox hb;have n_:=ak14 (Kd.S_below (kqS A0.o) hb) (Kd.S_below (kqS A2.o) hb) (rb Ar hb) (Kd.S_below (kqS Aq.o) hb) (kb A3 hb) (kb A4 hb) (aA (bq2 HB.o A5.o Ad.o) hb) hbox (bz hg (bq2 HB.o A5.o Ad.o)) (bz hg (bq2 HB.o A5.o Ad.o)) (nL hg A3) (nG hg A3) (nL hg A4) (nG hg A4);clear A0 A2 Ar Aq A3 A4 HB;obtain ⟨A0,A2,Ar,Aq,A3,A4,HB,Aj,Jr,Be,B0,B5,Aw,B1⟩:=n_;clear hb hbox hg;have Js:=B5.o;have Jt:=B0.o;have Ju:=B1.o;have Jv:=Aw.o;obtain ⟨Gd,Ge,Gf,Gg,Gh,Gi,Gj,Gk,Gl,Gm⟩:=cl5 Aj.o;obtain ⟨D9,Da,Iz⟩:=Kd.S_slice Aq.o;subst Iz)|((with_reducible refine aG (t:=58) (p:=13) rfl ?_);refine se 58 13 (s5 Lh As (.int .i64 B7) (.int .i64 B8) (.int .i64 B9) (.int .i64 Ba) (.slice D9 Ay.length Da)) ?_;intro J0 hw;have n_:=ak8 (show Kd.S eA 116 J0 w.heap.size (fun k_=>k_<Ae) (.slice Bb A6.length Bc) A6 by rw [hw];exact (by (with_reducible repeat (first|apply Kd.S_alloc|apply Kd.S_drewN|apply Kd.S_drew));exact Kd.S_mono (Kd.S_far (p:=⟨As,4,none⟩) (Kd.S_far (p:=⟨As,3,none⟩) (Kd.S_far (p:=⟨As,2,none⟩) (Kd.S_far (p:=⟨As,1,none⟩) (Kd.S_far (p:=⟨As,0,none⟩) (Kd.S_types A0.o Aj.o (by decide)) (fun _ hk=>hk.2) (.int .i64 B7)) (fun _ hk=>hk.2) (.int .i64 B8)) (fun _ hk=>hk.2) (.int .i64 B9)) (fun _ hk=>hk.2) (.int .i64 Ba)) (fun _ hk=>hk.2) (.slice D9 Ay.length Da)) (fun _ hk=>hk.1))) (show Kd.S kA 116 J0 w.heap.size (fun k_=>Ae<k_∧k_≠Ag) (.slice B2 Av.length B3) Av by rw [hw];exact (by (with_reducible repeat (first|apply Kd.S_alloc|apply Kd.S_drewN|apply Kd.S_drew));exact Kd.S_mono (Kd.S_far (p:=⟨As,4,none⟩) (Kd.S_far (p:=⟨As,3,none⟩) (Kd.S_far (p:=⟨As,2,none⟩) (Kd.S_far (p:=⟨As,1,none⟩) (Kd.S_far (p:=⟨As,0,none⟩) (Kd.S_types A2.o Aj.o (by decide)) (fun _ hk=>hk.2) (.int .i64 B7)) (fun _ hk=>hk.2) (.int .i64 B8)) (fun _ hk=>hk.2) (.int .i64 B9)) (fun _ hk=>hk.2) (.int .i64 Ba)) (fun _ hk=>hk.2) (.slice D9 Ay.length Da)) (fun _ hk=>hk.1))) (sr5 hw Ar Aj) (show Kd.S kA 116 J0 w.heap.size (fun _=>True) (.slice D9 Ay.length Da) Ay by rw [hw];exact (by (with_reducible repeat (first|apply Kd.S_alloc|apply Kd.S_drewN|apply Kd.S_drew));exact Kd.S_mono (Kd.S_far (p:=⟨As,4,none⟩) (Kd.S_far (p:=⟨As,3,none⟩) (Kd.S_far (p:=⟨As,2,none⟩) (Kd.S_far (p:=⟨As,1,none⟩) (Kd.S_far (p:=⟨As,0,none⟩) (Kd.S_types Aq.o Aj.o (by decide)) (fun _ hk=>hk.2) (.int .i64 B7)) (fun _ hk=>hk.2) (.int .i64 B8)) (fun _ hk=>hk.2) (.int .i64 B9)) (fun _ hk=>hk.2) (.int .i64 Ba)) (fun _ hk=>hk.2) (.slice D9 Ay.length Da)) (fun _ hk=>trivial))) (sf5 hw A3 B0) (sf5 hw A4 Aw) (sc5 hw Aj) (sb hw (bq3 HB.o A5.o Ad.o Be.o));clear hw A0 A2 Ar Aq A3 A4 Aj HB;obtain ⟨A0,A2,Ar,Aq,A3,A4,Aj,HB⟩:=n_))
     (try simp only [Act.put,jX,jY,jZ])
     go_cut [92] (fun Li wc=>∃(kq:Nat) (D6:Bool),Li=.bool D6∧Aside0 (laws_FnExactGetMsg.j2 kq Eo D6 A9 Aa Ab Ac Av=some r)∧Aside0 (kq≤B4)∧Aside0 (Kd.S eA 116 wc w.heap.size (fun k_=>k_<Ae) (.slice Bb A6.length Bc) A6)∧Aside0 (Kd.S kA 116 wc w.heap.size (fun k_=>Ae<k_∧k_≠Ag) (.slice B2 Av.length B3) Av)∧Aside0 (Kd.S kA 116 wc w.heap.size (fun _=>True) (.slice D9 Ay.length Da) Ay)∧Aside0 (wc.heap[Ae]? =some (.cells #[.int .i64 Al,.int .i64 Am,.int .i64 An,.int .i64 Ao,(.slice Bb A6.length Bc)] 58 (0,0)))∧Aside0 (wc.heap[Ag]? =some (.cells #[.int .i64 A9,.int .i64 Aa,.int .i64 Ab,.int .i64 Ac,(.slice B2 Av.length B3)] 58 (0,0)))∧Aside0 (wc.heap[As]? =some (.cells #[.int .i64 B7,.int .i64 B8,.int .i64 B9,.int .i64 Ba,(.slice D9 Ay.length Da)] 58 (0,0)))∧Aside0 (Below w.heap.size w wc))
     case first=>
      have H:=Hz.o
      clear Hz
      replace H:=be H
      obtain ⟨Hy,Jw,H⟩:=H
      rcases bt Hy with rfl|rfl
      · replace H:=iT H
        have H':=am H
        clear H
        have Jx:=B5.o
        have Jy:=B0.o
        have Jz:=B1.o
        have K0:=Aw.o
        obtain ⟨Gn,Go,Gp,Gq,Gr,Gs,Gt,Gu,Gv,Gw⟩:=cl5 Aj.o
        have K1:=Ah.o
        have K2:=Ai.o
        obtain ⟨Gx,Gy,Gz,H0,H1,H2,H3,H4,H5,H6⟩:=cl5 A3.o
        go_wp2_with (first|((with_reducible refine aD (f:=42) rfl ?_);refine gc (some 86) (dR.calls B4 B7 B8 B9 Ba _ _ Ay Al Am An Ao _ _ A6 true _ (cq (Kd.S_reads' Aq.o).2.2) ((Kd.S_reads' Aq.o).2.1) (cq (Kd.S_reads' A0.o).2.2) ((Kd.S_reads' A0.o).2.1) Jw.o) Try.func42 ?_;rintro e Ly ⟨rfl,hb⟩;refine ⟨_,rfl,?_⟩;have n_:=ak8 (Kd.S_below (kqS A0.o) hb) (Kd.S_below (kqS A2.o) hb) (rb Ar hb) (Kd.S_below (kqS Aq.o) hb) (kb A3 hb) (kb A4 hb) (kb Aj hb) (aA (bq3 HB.o A5.o Ad.o Be.o) hb);clear A0 A2 Ar Aq A3 A4 Aj HB;obtain ⟨A0,A2,Ar,Aq,A3,A4,Aj,HB⟩:=n_;(try clear hb)))
        go_meet
        case rel=>exact ⟨_,((Hu !=Az)),sq,H',⟨by have:=I3.o;have:=I7.o;first|omega|exact j6 _⟩,⟨kqS A0.o⟩,⟨kqS A2.o⟩,⟨kqS Aq.o⟩,⟨zq A3.o⟩,⟨zq A4.o⟩,⟨zq Aj.o⟩,⟨bq3 HB.o A5.o Ad.o Be.o⟩⟩
      replace H:=iF H
      have H':=am H
      clear H
      have K3:=B5.o
      have K4:=B0.o
      have K5:=B1.o
      have K6:=Aw.o
      obtain ⟨H7,H8,H9,Ha,Hb,Hc,Hd,He,Hf,Hg⟩:=cl5 Aj.o
      have K7:=Ah.o
      have K8:=Ai.o
      obtain ⟨Hh,Hi,Hj,Hk,Hl,Hm,Hn,Ho,Hp,Hq⟩:=cl5 A3.o
      go_wp2_with (first|((with_reducible refine aD (f:=42) rfl ?_);refine gc (some 86) (dR.calls B4 B7 B8 B9 Ba _ _ Ay Al Am An Ao _ _ A6 false _ (cq (Kd.S_reads' Aq.o).2.2) ((Kd.S_reads' Aq.o).2.1) (cq (Kd.S_reads' A0.o).2.2) ((Kd.S_reads' A0.o).2.1) Jw.o) Try.func42 ?_;rintro e Lz ⟨rfl,hb⟩;refine ⟨_,rfl,?_⟩;have n_:=ak8 (Kd.S_below (kqS A0.o) hb) (Kd.S_below (kqS A2.o) hb) (rb Ar hb) (Kd.S_below (kqS Aq.o) hb) (kb A3 hb) (kb A4 hb) (kb Aj hb) (aA (bq3 HB.o A5.o Ad.o Be.o) hb);clear A0 A2 Ar Aq A3 A4 Aj HB;obtain ⟨A0,A2,Ar,Aq,A3,A4,Aj,HB⟩:=n_;(try clear hb)))
      go_meet
      case rel=>exact ⟨_,(true),sq,H',⟨by have:=I3.o;have:=I7.o;first|omega|exact j6 _⟩,⟨kqS A0.o⟩,⟨kqS A2.o⟩,⟨kqS Aq.o⟩,⟨zq A3.o⟩,⟨zq A4.o⟩,⟨zq Aj.o⟩,⟨bq3 HB.o A5.o Ad.o Be.o⟩⟩
     case rest=>
      clear Hz
      try clear c1
      try clear c2
      try clear p2
      try clear c3
      try clear Ep
      try clear Eq
      try clear c4
      try clear Er
      try clear Es
      try clear c5
      try clear c6
      try clear c7
      try clear c8
      try clear Jc
      try clear Jd
      try clear Ky
      try clear Kz
      try clear Je
      try clear Jf
      try clear Jg
      try clear Jh
      try clear Hv
      try clear L0
      try clear L1
      try clear M0
      try clear L2
      try clear Bd
      try clear L3
      try clear L4
      try clear L5
      try clear L6
      try clear I0
      try clear M1
      try clear Hr
      try clear L9
      try clear Hs
      try clear Ht
      try clear M2
      try clear M3
      try clear M4
      try clear M5
      try clear M6
      try clear M7
      try clear M8
      try clear M9
      try clear Ma
      try clear Mb
      try clear Mc
      try clear Bh
      try clear Bi
      try clear Bj
      try clear Bk
      try clear Bl
      try clear Br
      try clear Bs
      try clear Bt
      try clear Bu
      try clear Bv
      try clear C1
      try clear C2
      try clear C3
      try clear C4
      try clear C5
      try clear Cb
      try clear Cc
      try clear Cd
      try clear Ce
      try clear Cf
      try clear Cl
      try clear Cm
      try clear Cn
      try clear Co
      try clear Cp
      try clear Cv
      try clear Cw
      try clear Cx
      try clear Cy
      try clear Cz
      try clear Dd
      try clear De
      try clear Df
      try clear Dg
      try clear Dh
      try clear Dn
      try clear Do
      try clear Dp
      try clear Dq
      try clear Dr
      try clear Dx
      try clear Dy
      try clear Dz
      try clear E0
      try clear E1
      try clear E7
      try clear E8
      try clear E9
      try clear Ea
      try clear Eb
      try clear Et
      try clear Eu
      try clear Ev
      try clear Ew
      try clear Ex
      try clear G3
      try clear G4
      try clear G5
      try clear G6
      try clear G7
      try clear Gd
      try clear Ge
      try clear Gf
      try clear Gg
      try clear Gh
      try clear Gn
      try clear Go
      try clear Gp
      try clear Gq
      try clear Gr
      try clear Gx
      try clear Gy
      try clear Gz
      try clear H0
      try clear H1
      try clear H7
      try clear H8
      try clear H9
      try clear Ha
      try clear Hb
      try clear Hh
      try clear Hi
      try clear Hj
      try clear Hk
      try clear Hl
      try clear Bm
      try clear Bn
      try clear Bo
      try clear Bp
      try clear Bq
      try clear Bw
      try clear Bx
      try clear By
      try clear Bz
      try clear C0
      try clear C6
      try clear C7
      try clear C8
      try clear C9
      try clear Ca
      try clear Cg
      try clear Ch
      try clear Ci
      try clear Cj
      try clear Ck
      try clear Cq
      try clear Cr
      try clear Cs
      try clear Ct
      try clear Cu
      try clear D0
      try clear D1
      try clear D2
      try clear D3
      try clear D4
      try clear Di
      try clear Dj
      try clear Dk
      try clear Dl
      try clear Dm
      try clear Ds
      try clear Dt
      try clear Du
      try clear Dv
      try clear Dw
      try clear E2
      try clear E3
      try clear E4
      try clear E5
      try clear E6
      try clear Ec
      try clear Ed
      try clear Ee
      try clear Ef
      try clear Eg
      try clear Ey
      try clear Ez
      try clear G0
      try clear G1
      try clear G2
      try clear G8
      try clear G9
      try clear Ga
      try clear Gb
      try clear Gc
      try clear Gi
      try clear Gj
      try clear Gk
      try clear Gl
      try clear Gm
      try clear Gs
      try clear Gt
      try clear Gu
      try clear Gv
      try clear Gw
      try clear H2
      try clear H3
      try clear H4
      try clear H5
      try clear H6
      try clear Hc
      try clear Hd
      try clear He
      try clear Hf
      try clear Hg
      try clear Hm
      try clear Hn
      try clear Ho
      try clear Hp
      try clear Hq
      try clear p2
      obtain ⟨kq,D6,rfl,HA,Lj,A0,A2,B6,A3,A4,Aj,HB⟩:=hcut
      cases kq with
      |zero=>exact absurd HA.o (by simp [laws_FnExactGetMsg.j2])
      |succ I9=>
       have H:=HA.o
       clear HA
       simp only [laws_FnExactGetMsg.j2] at H
       rcases Decidable.em (D6=true) with Ia|Ia
       · subst Ia
         replace H:(some false)=some r:=by rw [if_pos rfl] at H;exact H
         exact absurd ((j5 H).trans HRT.o) (by decide)
       replace Ia:=Bool.eq_false_iff.mpr Ia
       subst Ia
       replace H:((eB.f I9 A9 Aa Ab Ac Av 1).bind fun Ej=>(if Ej<0 then (some false) else (if Ej=Eo then (some true) else (some false))))=some r:=by rw [if_neg (show ¬(false=true) by decide)] at H;exact H
       replace H:=be H
       obtain ⟨Ej,Lk,H⟩:=H
       replace H:=il H
       rcases H with ⟨-,Ib,H⟩|⟨-,Ib,H⟩
       · exact absurd ((j5 H).trans HRT.o) (by decide)
       replace H:=iq' H
       rcases H with ⟨Md,Ic,Id,H⟩|⟨-,Ic,Id,H⟩
       · exact absurd ((j5 H).trans HRT.o) (by decide)
       obtain rfl:=j5 H
       have K9:=Ai.o
       have Ka:=Ah.o
       have Kb:=Aw.o
       have Kc:=B1.o
       obtain ⟨Ih,Ii,Ij,Ik,Il,Im,In,Io,Ip,Iq⟩:=cl5 A4.o
       go_wp2_with (first|((with_reducible refine aD (f:=59) rfl ?_);refine gc (some 95) (eB.calls I9 A9 Aa Ab Ac _ _ Av 1 Ej _ (cq (Kd.S_reads' A2.o).2.2) ((Kd.S_reads' A2.o).2.1) Lk.o) Try.func59 ?_;rintro e Me ⟨rfl,hb⟩;refine ⟨_,rfl,?_⟩;have n_:=ak7 (Kd.S_below (kqS A0.o) hb) (Kd.S_below (kqS A2.o) hb) (Kd.S_below (kqS B6.o) hb) (kb A3 hb) (kb A4 hb) (kb Aj hb) (aA (bq3 HB.o A5.o Ad.o Be.o) hb);clear A0 A2 B6 A3 A4 Aj HB;obtain ⟨A0,A2,B6,A3,A4,Aj,HB⟩:=n_;(try clear hb)))
       go_ret
       exact ⟨rq,bq3 HB.o A5.o Ad.o Be.o⟩
def laws_FnExactGetMsg.Pure:Prop:=∀(a0:ByteArray) (l1:List Int),a0.size≤maxLen→l1.length≤maxLen→(∀y ∈ l1,(Lit.int .u8 y).wf=true)→∃k,laws_FnExactGetMsg.f k a0 l1=some true
end Go.Proofs.Ythhnfmbfgplelaa.XFnExactGetMsg
