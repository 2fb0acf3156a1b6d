/- The functions that one law reaches, as Lean functions, with their walks: printed by a program of this seat (wip/tools) out of the translation. -/
import Derived.Test.YthhnfmbfgplelaaXFnExactGetPdux0
import Derived.Test.YthhnfmbfgplelaaXFnExactGetPdux1
import Derived.Test.YthhnfmbfgplelaaXFnExactGetPdux2
import Derived.Test.YthhnfmbfgplelaaXFnExactGetPdux3
import Derived.Test.YthhnfmbfgplelaaXFnExactGetPdux10
import Derived.Test.YthhnfmbfgplelaaXFnExactGetPdux19
import Derived.Test.YthhnfmbfgplelaaXFnExactGetPdux20
namespace Go.Proofs.Ythhnfmbfgplelaa.XFnExactGetPdu
open Go.RowKit Go.Proofs.YthhnfmbfgplelaaW.PrintWords Go.Proofs.YthhnfmbfgplelaaW.PrintLast Go.Proofs.YthhnfmbfgplelaaW.PrintMore
attribute [local go_sem] cQ cR dM dN cB cC cS cT
set_option maxHeartbeats 8000000
set_option maxRecDepth 100000
set_option linter.unusedVariables false
set_option linter.unusedSimpArgs false
mutual
def laws_FnExactGetPdu.j0:Nat→List Int→Bool→List Int→Bool→Bool→Int→Int→Int→Int→List (S116)→Int→Int→Int→Int→List (S116)→Option (Bool)
 | 0,_,_,_,_,_,_,_,_,_,_,_,_,_,_,_=>none
 | k+1,x0,x4,x5,x7,Ak,A5,A6,A7,A8,A9,A0,A1,A2,A3,A4=>if Ak=true then (some false) else ((bW.f k x0).bind fun Af=>((dI.f k x5 Af).bind fun Ag=>(if Ag=true then ((cI.f k x5 1).bind fun Ac=>(if Ac.1<0 then (laws_FnExactGetPdu.j1 k x0 x4 true A5 A6 A7 A8 A9 A0 A1 A2 A3 A4) else ((dO.f k A0 A1 A2 A3 A4 A5 A6 A7 A8 A9).bind fun Ah=>(if Ah=true then (laws_FnExactGetPdu.j1 k x0 x4 (x7 !=x4) A5 A6 A7 A8 A9 A0 A1 A2 A3 A4) else (laws_FnExactGetPdu.j1 k x0 x4 true A5 A6 A7 A8 A9 A0 A1 A2 A3 A4))))) else (some false))))
def laws_FnExactGetPdu.j1:Nat→List Int→Bool→Bool→Int→Int→Int→Int→List (S116)→Int→Int→Int→Int→List (S116)→Option (Bool)
 | 0,_,_,_,_,_,_,_,_,_,_,_,_,_=>none
 | k+1,x0,x4,Al,A5,A6,A7,A8,A9,A0,A1,A2,A3,A4=>if Al=true then (some false) else ((eN.f k A0 A1 A2 A3 A4 1).bind fun Aa=>((d8.f k A0 A1 A2 A3 Aa.2 1).bind fun Ad=>(if Ad<0 then (some false) else (if Ad=Aa.1 then ((bW.f k x0).bind fun Ai=>((bX.f k Ai).bind fun Ab=>((dO.f k Ab.1 Ab.2.1 Ab.2.2.1 Ab.2.2.2.1 Ab.2.2.2.2.1 A5 A6 A7 A8 A9).bind fun Aj=>(if Aj=true then (laws_FnExactGetPdu.j2 k Aa.1 (Ab.2.2.2.2.2 !=x4) A0 A1 A2 A3 Aa.2) else (laws_FnExactGetPdu.j2 k Aa.1 true A0 A1 A2 A3 Aa.2))))) else (some false)))))
def laws_FnExactGetPdu.j2:Nat→Int→Bool→Int→Int→Int→Int→List (S116)→Option (Bool)
 |0,_,_,_,_,_,_,_=>none
 |k+1,x9,Am,A0,A1,A2,A3,A4=>if Am=true then (some false) else ((d8.f k A0 A1 A2 A3 A4 1).bind fun Ae=>(if Ae<0 then (some false) else (if Ae=x9 then (some true) else (some false))))
end
def laws_FnExactGetPdu.f (k:Nat) (l0:List Int):Option (Bool):=if (l0.length:Int)>1048576 then (some true) else ((bW.f k l0).bind fun A3=>((aM.f k A3).bind fun A0=>((bW.f k l0).bind fun A2=>((bX.f k A2).bind fun A1=>((dO.f k A1.1 A1.2.1 A1.2.2.1 A1.2.2.2.1 A1.2.2.2.2.1 A0.1 A0.2.1 A0.2.2.1 A0.2.2.2.1 A0.2.2.2.2.1).bind fun A4=>(if A4=true then (laws_FnExactGetPdu.j0 k l0 A0.2.2.2.2.2 A2 A1.2.2.2.2.2 (A1.2.2.2.2.2 !=A0.2.2.2.2.2) A0.1 A0.2.1 A0.2.2.1 A0.2.2.2.1 A0.2.2.2.2.1 A1.1 A1.2.1 A1.2.2.1 A1.2.2.2.1 A1.2.2.2.2.1) else (laws_FnExactGetPdu.j0 k l0 A0.2.2.2.2.2 A2 A1.2.2.2.2.2 true A0.1 A0.2.1 A0.2.2.1 A0.2.2.2.1 A0.2.2.2.2.1 A1.1 A1.2.1 A1.2.2.1 A1.2.2.2.1 A1.2.2.2.2.1)))))))
theorem laws_FnExactGetPdu.calls (k:Nat) (A0:Option Addr) (c0:Nat) (l0:List Int) (r:Bool) (w:World) (Iw:Kd.C (Kd.int .u8) w A0 l0.length l0) (Ix:l0.length≤c0) (hr_:r=true) (h:laws_FnExactGetPdu.f k l0=some r):
 Calls Try.prog 10 #[.slice A0 l0.length c0] w fun e w'=>e=.returned (.bool r)∧Below w.heap.size w w':=by
 have Ka:=Try.underlying58
 have HRT:=am hr_
 clear hr_
 have Ia:=am Iw
 have Ib:=am Ix
 clear Iw Ix
 have HB:=am (Below.refl w.heap.size w)
 have H:=h
 clear h
 unfold laws_FnExactGetPdu.f at H
 replace H:=ig H
 rcases H with ⟨c2,Ep,H⟩|⟨c2,Ep,H⟩
 · have Eq:decide (1048576<l0.length)=true:=jW (by omega)
   clear c2
   obtain rfl:=jU H
   go_enter Try.func10,Try.ntmps10
   go_wp2
   go_ret
   exact ⟨rq,bq HB.o⟩
 have Eq:decide (1048576<l0.length)=false:=decide_eq_false (by omega)
 clear c2
 replace H:=be H
 obtain ⟨D7,Kb,H⟩:=H
 replace H:=be H
 obtain ⟨⟨Al,Am,An,Ao,A6,Az⟩,Kc,H⟩:=H
 try dsimp only at H
 replace H:=be H
 obtain ⟨At,Ke,H⟩:=H
 replace H:=be H
 obtain ⟨⟨A9,Aa,Ab,Ac,Af,D8⟩,Kf,H⟩:=H
 try dsimp only at H
 have In:=am H
 clear H
 go_enter Try.func10,Try.ntmps10
 go_upto_region 6 with (first|((with_reducible refine aD (f:=15) rfl ?_);refine gc (some 18) (bW.calls k _ _ l0 D7 _ (cq Ia.o) Ib.o Kb.o) Try.func15 ?_;rintro e w8 ⟨Kg,rfl,Bf,hb⟩;refine ⟨_,rfl,?_⟩;have n_:=ak2 (rl Bf (bq HB.o)) (aA (bq HB.o) hb);clear HB;obtain ⟨A7,HB⟩:=n_;(try clear hb Bf);obtain ⟨Iy,Iz,Kh⟩:=Kd.R_slice A7.o;subst Kh)|((with_reducible refine aD (f:=57) rfl ?_);refine gc (some 19) (aM.calls k _ _ D7 Al Am An Ao A6 Az _ (cq (Kd.R_reads' A7.o).2.2) ((Kd.R_reads' A7.o).2.1) Kc.o) Try.func57 ?_;rintro e Lh ⟨Ki,rfl,Bf,hb⟩;refine ⟨_,rfl,?_⟩;have n_:=ak3 (rb A7 hb) (Kd.S_lower Bf (aY (bq HB.o))) (aA (bq HB.o) hb);clear A7 HB;obtain ⟨A7,A8,HB⟩:=n_;(try clear hb Bf))|((with_reducible refine aQ (N:=3) rfl ?_);refine bxe 3 #[.int .i64 0,.int .i64 0,.int .i64 0,.int .i64 0,.slice none 0 0] 58 ?_;intro Ae hg Kj hbox hb;have n_:=ak6 (rb A7 hb) (Kd.S_mono (ok':=(fun k_=>k_<Ae)) (Kd.S_old (kqS A8.o) hb) (fun _ hk=>hg ▸ hk.2)) (aA (bq HB.o) hb) hbox (bz hg (bq HB.o)) (bz hg (bq HB.o));clear A7 A8 HB;obtain ⟨A7,A8,HB,A3,J0,A5⟩:=n_;clear hb hbox hg;obtain ⟨Bh,Bi,Bj,Bk,Bl,Bm,Bn,Bo,Bp,Bq⟩:=cl5 A3.o;obtain ⟨Bb,Bc,Io⟩:=Kd.S_slice A8.o;subst Io)|((with_reducible refine aG (t:=58) (p:=3) rfl ?_);refine se 58 3 (s5 Kj Ae (.int .i64 Al) (.int .i64 Am) (.int .i64 An) (.int .i64 Ao) (.slice Bb A6.length Bc)) ?_;intro Kk hw;have n_:=ak4 (sr5 hw A7 A3) (show Kd.S d7 116 Kk w.heap.size (fun k_=>k_<Ae) (.slice Bb A6.length Bc) A6 by rw [hw];exact (by (with_reducible repeat (first|apply Kd.S_alloc|apply Kd.S_drewN|apply Kd.S_drew));exact Kd.S_mono (Kd.S_far (p:=⟨Ae,4,none⟩) (Kd.S_far (p:=⟨Ae,3,none⟩) (Kd.S_far (p:=⟨Ae,2,none⟩) (Kd.S_far (p:=⟨Ae,1,none⟩) (Kd.S_far (p:=⟨Ae,0,none⟩) (Kd.S_types A8.o A3.o (by decide)) (fun _ hk=>hk.2) (.int .i64 Al)) (fun _ hk=>hk.2) (.int .i64 Am)) (fun _ hk=>hk.2) (.int .i64 An)) (fun _ hk=>hk.2) (.int .i64 Ao)) (fun _ hk=>hk.2) (.slice Bb A6.length Bc)) (fun _ hk=>hk.1))) (sc5 hw A3) (sb hw (bq1 HB.o A5.o));clear hw A7 A8 A3 HB;obtain ⟨A7,A8,A3,HB⟩:=n_)|((with_reducible refine aD (f:=15) rfl ?_);refine gc (some 23) (bW.calls k _ _ l0 At _ (cq (Kd.C_below Ia.o HB.o)) Ib.o Ke.o) Try.func15 ?_;rintro e Li ⟨Kl,rfl,Bf,hb⟩;refine ⟨_,rfl,?_⟩;have n_:=ak5 (re_ A7 Bf hb) (Kd.S_below (kqS A8.o) hb) (rn_ Bf A7 (bq1 HB.o A5.o)) (kb A3 hb) (aA (bq1 HB.o A5.o) hb);clear A7 A8 A3 HB;obtain ⟨A7,A8,Ak,A3,HB⟩:=n_;(try clear hb Bf);obtain ⟨Ek,El,Ip⟩:=Kd.R_slice Ak.o;subst Ip)|((with_reducible refine aD (f:=58) rfl ?_);refine gc (some 26) (bX.calls k _ _ At A9 Aa Ab Ac Af D8 _ (cq (Kd.R_reads' Ak.o).2.2) ((Kd.R_reads' Ak.o).2.1) Kf.o) Try.func58 ?_;rintro e Lj ⟨Km,rfl,Bf,hb⟩;refine ⟨_,rfl,?_⟩;have n_:=ak6 (rb A7 hb) (Kd.S_below (kqS A8.o) hb) (rb Ak hb) (Kd.S_mono (ok':=fun k_=>Ae<k_) (Kd.S_lower (Kd.S_bound Bf) (aY (bq1 HB.o A5.o))) (fun _ hk=>Nat.lt_of_lt_of_le (eO (zq A3.o)) hk.2.1)) (kb A3 hb) (aA (bq1 HB.o A5.o) hb);clear A7 A8 Ak A3 HB;obtain ⟨A7,A8,Ak,Ap,A3,HB⟩:=n_;(try clear hb Bf))|((with_reducible refine aQ (N:=6) rfl ?_);refine bxe 6 #[.int .i64 0,.int .i64 0,.int .i64 0,.int .i64 0,.slice none 0 0] 58 ?_;intro Ag hg Kn hbox hb;have n_:=iE (rb A7 hb) (Kd.S_below (kqS A8.o) hb) (rb Ak hb) (Kd.S_mono (ok':=fun k_=>Ae<k_∧k_≠Ag) (Kd.S_old (kqS Ap.o) hb) (fun _ hk=>⟨hk.1,fun e_=>by have h2:=hk.2;rw [← hg] at h2;omega⟩)) (kb A3 hb) (aA (bq1 HB.o A5.o) hb) hbox (bz hg (bq1 HB.o A5.o)) (bz hg (bq1 HB.o A5.o)) (nL hg A3) (nG hg A3);clear A7 A8 Ak Ap A3 HB;obtain ⟨A7,A8,Ak,Ap,A3,HB,A4,J1,Ad,Ah,Ai⟩:=n_;clear hb hbox hg;have J2:=Ai.o;have J3:=Ah.o;obtain ⟨Br,Bs,Bt,Bu,Bv,Bw,Bx,By,Bz,C0⟩:=cl5 A4.o;obtain ⟨B2,B3,Iq⟩:=Kd.S_slice Ap.o;subst Iq)|((with_reducible refine aG (t:=58) (p:=6) rfl ?_);refine se 58 6 (s5 Kn Ag (.int .i64 A9) (.int .i64 Aa) (.int .i64 Ab) (.int .i64 Ac) (.slice B2 Af.length B3)) ?_;intro Ic hw;have n_:=ak7 (show Kd.R (Kd.int .u8) 5 Ic w.heap.size (fun k_=>some k_≠(.slice Ek At.length El:Value).ownBlock) (.slice Iy D7.length Iz) D7 by rw [hw];exact (by refine kr ?_;exact Kd.R_mono (rf5 Ag (.int .i64 A9) (.int .i64 Aa) (.int .i64 Ab) (.int .i64 Ac) (.slice B2 Af.length B3) (Kd.R_types A7.o A4.o (by decide)) (fun _ hk=>hk.2)) (fun _ hk=>hk.1.2))) (show Kd.S d7 116 Ic w.heap.size (fun k_=>k_<Ae) (.slice Bb A6.length Bc) A6 by rw [hw];exact (by (with_reducible repeat (first|apply Kd.S_alloc|apply Kd.S_drewN|apply Kd.S_drew));exact Kd.S_mono (Kd.S_far (p:=⟨Ag,4,none⟩) (Kd.S_far (p:=⟨Ag,3,none⟩) (Kd.S_far (p:=⟨Ag,2,none⟩) (Kd.S_far (p:=⟨Ag,1,none⟩) (Kd.S_far (p:=⟨Ag,0,none⟩) (Kd.S_types A8.o A4.o (by decide)) (fun _ hk=>hk.2) (.int .i64 A9)) (fun _ hk=>hk.2) (.int .i64 Aa)) (fun _ hk=>hk.2) (.int .i64 Ab)) (fun _ hk=>hk.2) (.int .i64 Ac)) (fun _ hk=>hk.2) (.slice B2 Af.length B3)) (fun _ hk=>hk.1))) (show Kd.R (Kd.int .u8) 5 Ic w.heap.size (fun k_=>some k_≠(.slice Iy D7.length Iz:Value).ownBlock) (.slice Ek At.length El) At by rw [hw];exact (by refine kr ?_;exact Kd.R_mono (rf5 Ag (.int .i64 A9) (.int .i64 Aa) (.int .i64 Ab) (.int .i64 Ac) (.slice B2 Af.length B3) (Kd.R_types Ak.o A4.o (by decide)) (fun _ hk=>hk.2)) (fun _ hk=>hk.1.2))) (show Kd.S kA 116 Ic w.heap.size (fun k_=>Ae<k_∧k_≠Ag) (.slice B2 Af.length B3) Af by rw [hw];exact (by (with_reducible repeat (first|apply Kd.S_alloc|apply Kd.S_drewN|apply Kd.S_drew));exact Kd.S_mono (Kd.S_far (p:=⟨Ag,4,none⟩) (Kd.S_far (p:=⟨Ag,3,none⟩) (Kd.S_far (p:=⟨Ag,2,none⟩) (Kd.S_far (p:=⟨Ag,1,none⟩) (Kd.S_far (p:=⟨Ag,0,none⟩) (Kd.S_types Ap.o A4.o (by decide)) (fun _ hk=>hk.2) (.int .i64 A9)) (fun _ hk=>hk.2) (.int .i64 Aa)) (fun _ hk=>hk.2) (.int .i64 Ab)) (fun _ hk=>hk.2) (.int .i64 Ac)) (fun _ hk=>hk.2) (.slice B2 Af.length B3)) (fun _ hk=>hk.1))) (sf5 hw A3 Ah) (sc5 hw A4) (sb hw (bq2 HB.o A5.o Ad.o));clear hw A7 A8 Ak Ap A3 A4 HB;obtain ⟨A7,A8,Ak,Ap,A3,A4,HB⟩:=n_))
 (try simp only [Act.put,jP,jQ,jR])
 go_cut [37] (fun Ko wc=>∃(kq:Nat) (Db:Bool),Ko=.bool Db∧Aside0 (laws_FnExactGetPdu.j0 kq l0 Az At D8 Db Al Am An Ao A6 A9 Aa Ab Ac Af=some r)∧Aside0 (kq≤k)∧Aside0 (Kd.R (Kd.int .u8) 5 wc w.heap.size (fun _=>True) (.slice Ek At.length El) At)∧Aside0 (Kd.S d7 116 wc w.heap.size (fun k_=>k_<Ae) (.slice Bb A6.length Bc) A6)∧Aside0 (Kd.S kA 116 wc w.heap.size (fun k_=>Ae<k_∧k_≠Ag) (.slice B2 Af.length B3) Af)∧Aside0 (wc.heap[Ae]? =some (.cells #[.int .i64 Al,.int .i64 Am,.int .i64 An,.int .i64 Ao,(.slice Bb A6.length Bc)] 58 (0,0)))∧Aside0 (wc.heap[Ag]? =some (.cells #[.int .i64 A9,.int .i64 Aa,.int .i64 Ab,.int .i64 Ac,(.slice B2 Af.length B3)] 58 (0,0)))∧Aside0 (Below w.heap.size w wc))
 case first=>
  have H:=In.o
  clear In
  replace H:=be H
  obtain ⟨Ir,J4,H⟩:=H
  rcases bt Ir with rfl|rfl
  · replace H:=iT H
    have H':=am H
    clear H
    have J5:=Ai.o
    have J6:=Ah.o
    obtain ⟨C1,C2,C3,C4,C5,C6,C7,C8,C9,Ca⟩:=cl5 A4.o
    obtain ⟨Cb,Cc,Cd,Ce,Cf,Cg,Ch,Ci,Cj,Ck⟩:=cl5 A3.o
    go_wp2_with (first|((with_reducible refine aD (f:=42) rfl ?_);refine gc (some 31) (dO.calls k A9 Aa Ab Ac _ _ Af Al Am An Ao _ _ A6 true _ (cq (Kd.S_reads' Ap.o).2.2) ((Kd.S_reads' Ap.o).2.1) (cq (Kd.S_reads' A8.o).2.2) ((Kd.S_reads' A8.o).2.1) J4.o) Try.func42 ?_;rintro e Lk ⟨rfl,hb⟩;refine ⟨_,rfl,?_⟩;have n_:=ak7 (rb A7 hb) (Kd.S_below (kqS A8.o) hb) (rb Ak hb) (Kd.S_below (kqS Ap.o) hb) (kb A3 hb) (kb A4 hb) (aA (bq2 HB.o A5.o Ad.o) hb);clear A7 A8 Ak Ap A3 A4 HB;obtain ⟨A7,A8,Ak,Ap,A3,A4,HB⟩:=n_;(try clear hb)))
    go_meet
    case rel=>exact ⟨_,((D8 !=Az)),sq,H',⟨by first|omega|exact jV _⟩,⟨by refine kr ?_;exact Kd.R_mono Ak.o (fun _ hk=>trivial)⟩,⟨kqS A8.o⟩,⟨kqS Ap.o⟩,⟨zq A3.o⟩,⟨zq A4.o⟩,⟨bq2 HB.o A5.o Ad.o⟩⟩
  replace H:=iF H
  have H':=am H
  clear H
  have J7:=Ai.o
  have J8:=Ah.o
  obtain ⟨Cl,Cm,Cn,Co,Cp,Cq,Cr,Cs,Ct,Cu⟩:=cl5 A4.o
  obtain ⟨Cv,Cw,Cx,Cy,Cz,D0,D1,D2,D3,D4⟩:=cl5 A3.o
  go_wp2_with (first|((with_reducible refine aD (f:=42) rfl ?_);refine gc (some 31) (dO.calls k A9 Aa Ab Ac _ _ Af Al Am An Ao _ _ A6 false _ (cq (Kd.S_reads' Ap.o).2.2) ((Kd.S_reads' Ap.o).2.1) (cq (Kd.S_reads' A8.o).2.2) ((Kd.S_reads' A8.o).2.1) J4.o) Try.func42 ?_;rintro e Ll ⟨rfl,hb⟩;refine ⟨_,rfl,?_⟩;have n_:=ak7 (rb A7 hb) (Kd.S_below (kqS A8.o) hb) (rb Ak hb) (Kd.S_below (kqS Ap.o) hb) (kb A3 hb) (kb A4 hb) (aA (bq2 HB.o A5.o Ad.o) hb);clear A7 A8 Ak Ap A3 A4 HB;obtain ⟨A7,A8,Ak,Ap,A3,A4,HB⟩:=n_;(try clear hb)))
  go_meet
  case rel=>exact ⟨_,(true),sq,H',⟨by first|omega|exact jV _⟩,⟨by refine kr ?_;exact Kd.R_mono Ak.o (fun _ hk=>trivial)⟩,⟨kqS A8.o⟩,⟨kqS Ap.o⟩,⟨zq A3.o⟩,⟨zq A4.o⟩,⟨bq2 HB.o A5.o Ad.o⟩⟩
 case rest=>
  clear In
  try clear c1
  try clear c2
  try clear Ep
  try clear Eq
  try clear p2
  try clear c4
  try clear c5
  try clear J9
  try clear Ja
  try clear Jb
  try clear Jc
  try clear Jd
  try clear Je
  try clear Bh
  try clear Bi
  try clear Bj
  try clear Bk
  try clear Bl
  try clear Br
  try clear Bs
  try clear Bt
  try clear Bu
  try clear Bv
  try clear C1
  try clear C2
  try clear C3
  try clear C4
  try clear C5
  try clear Cb
  try clear Cc
  try clear Cd
  try clear Ce
  try clear Cf
  try clear Cl
  try clear Cm
  try clear Cn
  try clear Co
  try clear Cp
  try clear Cv
  try clear Cw
  try clear Cx
  try clear Cy
  try clear Cz
  try clear Bm
  try clear Bn
  try clear Bo
  try clear Bp
  try clear Bq
  try clear Bw
  try clear Bx
  try clear By
  try clear Bz
  try clear C0
  try clear C6
  try clear C7
  try clear C8
  try clear C9
  try clear Ca
  try clear Cg
  try clear Ch
  try clear Ci
  try clear Cj
  try clear Ck
  try clear Cq
  try clear Cr
  try clear Cs
  try clear Ct
  try clear Cu
  try clear D0
  try clear D1
  try clear D2
  try clear D3
  try clear D4
  obtain ⟨kq,Db,rfl,HA,Hz,Au,A1,A2,A3,A4,HB⟩:=hcut
  cases kq with
  |zero=>exact absurd HA.o (by simp [laws_FnExactGetPdu.j0])
  |succ Em=>
   have H:=HA.o
   clear HA
   simp only [laws_FnExactGetPdu.j0] at H
   rcases Decidable.em (Db=true) with Ht|Ht
   · subst Ht
     replace H:(some false)=some r:=by rw [if_pos rfl] at H;exact H
     exact absurd ((jU H).trans HRT.o) (by decide)
   replace Ht:=Bool.eq_false_iff.mpr Ht
   subst Ht
   replace H:((bW.f Em l0).bind fun Dc=>((dI.f Em At Dc).bind fun En=>(if En=true then ((cI.f Em At 1).bind fun I0=>(if I0.1<0 then (laws_FnExactGetPdu.j1 Em l0 Az true Al Am An Ao A6 A9 Aa Ab Ac Af) else ((dO.f Em A9 Aa Ab Ac Af Al Am An Ao A6).bind fun Hu=>(if Hu=true then (laws_FnExactGetPdu.j1 Em l0 Az (D8 !=Az) Al Am An Ao A6 A9 Aa Ab Ac Af) else (laws_FnExactGetPdu.j1 Em l0 Az true Al Am An Ao A6 A9 Aa Ab Ac Af))))) else (some false))))=some r:=by rw [if_neg (show ¬(false=true) by decide)] at H;exact H
   replace H:=be H
   obtain ⟨Dc,Kp,H⟩:=H
   replace H:=be H
   obtain ⟨En,Kq,H⟩:=H
   cases En
   · replace H:=iF H
     exact absurd ((jU H).trans HRT.o) (by decide)
   replace H:=iT H
   replace H:=be H
   obtain ⟨⟨I1,I2⟩,Kr,H⟩:=H
   try dsimp only at H
   have Hv:=am H
   clear H
   go_upto_region 12 with (first|((with_reducible refine aD (f:=15) rfl ?_);refine gc (some 40) (bW.calls Em _ _ l0 Dc _ (cq (Kd.C_below Ia.o HB.o)) Ib.o Kp.o) Try.func15 ?_;rintro e Lm ⟨Ks,rfl,Bf,hb⟩;refine ⟨_,rfl,?_⟩;have n_:=ak7 (re_ Au Bf hb) (Kd.S_below (kqS A1.o) hb) (Kd.S_below (kqS A2.o) hb) (rn_ Bf Au (bq2 HB.o A5.o Ad.o)) (kb A3 hb) (kb A4 hb) (aA (bq2 HB.o A5.o Ad.o) hb);clear Au A1 A2 A3 A4 HB;obtain ⟨Au,A1,A2,Ax,A3,A4,HB⟩:=n_;(try clear hb Bf);obtain ⟨Kt,Ku,Is⟩:=Kd.R_slice Ax.o;subst Is)|((with_reducible refine aD (f:=18) rfl ?_);refine gc (some 41) (dI.calls Em _ _ At _ _ Dc true _ (cq (Kd.R_reads' Au.o).2.2) ((Kd.R_reads' Au.o).2.1) (cq (Kd.R_reads' Ax.o).2.2) ((Kd.R_reads' Ax.o).2.1) Kq.o) Try.func18 ?_;rintro e w' ⟨rfl,⟨nd,rfl⟩⟩;refine ⟨_,rfl,?_⟩)|((with_reducible refine aD (f:=20) rfl ?_);refine gc (some 45) (cI.calls Em (fun k_=>some k_=(.slice Ek At.length El:Value).ownBlock) (.slice Ek At.length El) At 1 I1 I2 w _ (bq2 HB.o A5.o Ad.o) (Kd.R_tight rfl Au.o) Kr.o) Try.func20 ?_;rintro e Ln ⟨rfl,Jf,hb,hkp⟩;refine ⟨_,rfl,?_⟩;have n_:=ak7 (Kd.R_reok rfl Jf (fun k_ e_=>Au.o.1 k_ e_)) (Kd.S_mono (ok':=fun k_=>k_<Ae) (Kd.S_keptB ((Kd.S_apart' A1.o (Kd.R_typed Au.o) (by decide))) hkp (fun k_ hk_ hs_=>(hk_.2) hs_)) (fun k_ hk_=>hk_.1.1)) (Kd.S_mono (ok':=fun k_=>Ae<k_∧k_≠Ag) (Kd.S_keptB ((Kd.S_apart' A2.o (Kd.R_typed Au.o) (by decide))) hkp (fun k_ hk_ hs_=>(hk_.2) hs_)) (fun k_ hk_=>hk_.1.1)) (fD (zq A3.o) hkp (fun hs_=>(fun e_=>(Kd.R_ne Au.o A3.o (by decide)) e_) hs_)) (fD (zq A4.o) hkp (fun hs_=>(fun e_=>(Kd.R_ne Au.o A4.o (by decide)) e_) hs_)) (Kd.R_mono (ok':=fun k_=>some k_≠(.slice Ek At.length El:Value).ownBlock) (Kd.R_keptB (Ax.o) hkp (fun k_ hk_ hs_=>(hk_.2) hs_)) (fun k_ hk_=>hk_.1.2)) hb;clear Au A1 A2 A3 A4 Ax HB;obtain ⟨Au,A1,A2,A3,A4,Ax,HB⟩:=n_;(try clear hb hkp Jf)))
   (try simp only [Act.put,jP,jQ,jR])
   go_cut [58] (fun Kv wc=>∃(kq:Nat) (D5:Bool),Kv=.bool D5∧Aside0 (laws_FnExactGetPdu.j1 kq l0 Az D5 Al Am An Ao A6 A9 Aa Ab Ac Af=some r)∧Aside0 (kq≤Em)∧Aside0 (Kd.S d7 116 wc w.heap.size (fun k_=>k_<Ae) (.slice Bb A6.length Bc) A6)∧Aside0 (Kd.S kA 116 wc w.heap.size (fun k_=>Ae<k_∧k_≠Ag) (.slice B2 Af.length B3) Af)∧Aside0 (wc.heap[Ae]? =some (.cells #[.int .i64 Al,.int .i64 Am,.int .i64 An,.int .i64 Ao,(.slice Bb A6.length Bc)] 58 (0,0)))∧Aside0 (wc.heap[Ag]? =some (.cells #[.int .i64 A9,.int .i64 Aa,.int .i64 Ab,.int .i64 Ac,(.slice B2 Af.length B3)] 58 (0,0)))∧Aside0 (Below w.heap.size w wc))
   case first=>
    have H:=Hv.o
    clear Hv
    replace H:=il H
    rcases H with ⟨-,Bd,H⟩|⟨-,Bd,H⟩
    · (first|rw [Bd]|(simp only [aK,aN];rw [Bd])|skip)
      have H':=am H
      clear H
      go_wp2
      go_meet
      case rel=>exact ⟨_,(true),sq,H',⟨by have:=Hz.o;first|omega|exact jV _⟩,⟨kqS A1.o⟩,⟨kqS A2.o⟩,⟨zq A3.o⟩,⟨zq A4.o⟩,⟨bq2 HB.o A5.o Ad.o⟩⟩
    (first|rw [Bd]|(simp only [aK,aN];rw [Bd])|skip)
    replace H:=be H
    obtain ⟨Hu,Jg,H⟩:=H
    rcases bt Hu with rfl|rfl
    · replace H:=iT H
      have H':=am H
      clear H
      have Jh:=Ai.o
      have Ji:=Ah.o
      obtain ⟨Dd,De,Df,Dg,Dh,Di,Dj,Dk,Dl,Dm⟩:=cl5 A4.o
      obtain ⟨Dn,Do,Dp,Dq,Dr,Ds,Dt,Du,Dv,Dw⟩:=cl5 A3.o
      go_wp2_with (first|(go_at_call 42;refine cm (dO.calls Em A9 Aa Ab Ac _ _ Af Al Am An Ao _ _ A6 true _ (cq (Kd.S_reads' A2.o).2.2) ((Kd.S_reads' A2.o).2.1) (cq (Kd.S_reads' A1.o).2.2) ((Kd.S_reads' A1.o).2.1) Jg.o) ?_;rintro e Lo ⟨rfl,hb⟩;have n_:=ak7 (rb Au hb) (Kd.S_below (kqS A1.o) hb) (Kd.S_below (kqS A2.o) hb) (rb Ax hb) (kb A3 hb) (kb A4 hb) (aA (bq2 HB.o A5.o Ad.o) hb);clear Au A1 A2 Ax A3 A4 HB;obtain ⟨Au,A1,A2,Ax,A3,A4,HB⟩:=n_;(try clear hb)))
      go_meet
      case rel=>exact ⟨_,((D8 !=Az)),sq,H',⟨by have:=Hz.o;first|omega|exact jV _⟩,⟨kqS A1.o⟩,⟨kqS A2.o⟩,⟨zq A3.o⟩,⟨zq A4.o⟩,⟨bq2 HB.o A5.o Ad.o⟩⟩
    replace H:=iF H
    have H':=am H
    clear H
    have Jj:=Ai.o
    have Jk:=Ah.o
    obtain ⟨Dx,Dy,Dz,E0,E1,E2,E3,E4,E5,E6⟩:=cl5 A4.o
    obtain ⟨E7,E8,E9,Ea,Eb,Ec,Ed,Ee,Ef,Eg⟩:=cl5 A3.o
    go_wp2_with (first|(go_at_call 42;refine cm (dO.calls Em A9 Aa Ab Ac _ _ Af Al Am An Ao _ _ A6 false _ (cq (Kd.S_reads' A2.o).2.2) ((Kd.S_reads' A2.o).2.1) (cq (Kd.S_reads' A1.o).2.2) ((Kd.S_reads' A1.o).2.1) Jg.o) ?_;rintro e Lp ⟨rfl,hb⟩;have n_:=ak7 (rb Au hb) (Kd.S_below (kqS A1.o) hb) (Kd.S_below (kqS A2.o) hb) (rb Ax hb) (kb A3 hb) (kb A4 hb) (aA (bq2 HB.o A5.o Ad.o) hb);clear Au A1 A2 Ax A3 A4 HB;obtain ⟨Au,A1,A2,Ax,A3,A4,HB⟩:=n_;(try clear hb)))
    go_meet
    case rel=>exact ⟨_,(true),sq,H',⟨by have:=Hz.o;first|omega|exact jV _⟩,⟨kqS A1.o⟩,⟨kqS A2.o⟩,⟨zq A3.o⟩,⟨zq A4.o⟩,⟨bq2 HB.o A5.o Ad.o⟩⟩
   case rest=>
    clear Hv
    try clear c1
    try clear c2
    try clear Ep
    try clear Eq
    try clear p2
    try clear c3
    try clear c4
    try clear c5
    try clear J9
    try clear Ja
    try clear Kw
    try clear Jb
    try clear Kx
    try clear Jc
    try clear Jd
    try clear Je
    try clear Ht
    try clear Ky
    try clear Kz
    try clear Bd
    try clear L0
    try clear L1
    try clear L2
    try clear Bh
    try clear Bi
    try clear Bj
    try clear Bk
    try clear Bl
    try clear Br
    try clear Bs
    try clear Bt
    try clear Bu
    try clear Bv
    try clear C1
    try clear C2
    try clear C3
    try clear C4
    try clear C5
    try clear Cb
    try clear Cc
    try clear Cd
    try clear Ce
    try clear Cf
    try clear Cl
    try clear Cm
    try clear Cn
    try clear Co
    try clear Cp
    try clear Cv
    try clear Cw
    try clear Cx
    try clear Cy
    try clear Cz
    try clear Dd
    try clear De
    try clear Df
    try clear Dg
    try clear Dh
    try clear Dn
    try clear Do
    try clear Dp
    try clear Dq
    try clear Dr
    try clear Dx
    try clear Dy
    try clear Dz
    try clear E0
    try clear E1
    try clear E7
    try clear E8
    try clear E9
    try clear Ea
    try clear Eb
    try clear Bm
    try clear Bn
    try clear Bo
    try clear Bp
    try clear Bq
    try clear Bw
    try clear Bx
    try clear By
    try clear Bz
    try clear C0
    try clear C6
    try clear C7
    try clear C8
    try clear C9
    try clear Ca
    try clear Cg
    try clear Ch
    try clear Ci
    try clear Cj
    try clear Ck
    try clear Cq
    try clear Cr
    try clear Cs
    try clear Ct
    try clear Cu
    try clear D0
    try clear D1
    try clear D2
    try clear D3
    try clear D4
    try clear Di
    try clear Dj
    try clear Dk
    try clear Dl
    try clear Dm
    try clear Ds
    try clear Dt
    try clear Du
    try clear Dv
    try clear Dw
    try clear E2
    try clear E3
    try clear E4
    try clear E5
    try clear E6
    try clear Ec
    try clear Ed
    try clear Ee
    try clear Ef
    try clear Eg
    try clear p2
    obtain ⟨kq,D5,rfl,HA,I3,A1,A2,A3,A4,HB⟩:=hcut
    cases kq with
    |zero=>exact absurd HA.o (by simp [laws_FnExactGetPdu.j1])
    |succ B4=>
     have H:=HA.o
     clear HA
     simp only [laws_FnExactGetPdu.j1] at H
     rcases Decidable.em (D5=true) with Hy|Hy
     · subst Hy
       replace H:(some false)=some r:=by rw [if_pos rfl] at H;exact H
       exact absurd ((jU H).trans HRT.o) (by decide)
     replace Hy:=Bool.eq_false_iff.mpr Hy
     subst Hy
     replace H:((eN.f B4 A9 Aa Ab Ac Af 1).bind fun bm_=>((d8.f B4 A9 Aa Ab Ac bm_.2 1).bind fun Eh=>(if Eh<0 then (some false) else (if Eh=bm_.1 then ((bW.f B4 l0).bind fun Ei=>((bX.f B4 Ei).bind fun Bg=>((dO.f B4 Bg.1 Bg.2.1 Bg.2.2.1 Bg.2.2.2.1 Bg.2.2.2.2.1 Al Am An Ao A6).bind fun Hw=>(if Hw=true then (laws_FnExactGetPdu.j2 B4 bm_.1 (Bg.2.2.2.2.2 !=Az) A9 Aa Ab Ac bm_.2) else (laws_FnExactGetPdu.j2 B4 bm_.1 true A9 Aa Ab Ac bm_.2))))) else (some false)))))=some r:=by rw [if_neg (show ¬(false=true) by decide)] at H;exact H
     replace H:=be H
     obtain ⟨⟨Eo,Av⟩,L3,H⟩:=H
     try dsimp only at H
     replace H:=be H
     obtain ⟨Eh,L4,H⟩:=H
     replace H:=il H
     rcases H with ⟨-,Hp,H⟩|⟨-,Hp,H⟩
     · exact absurd ((jU H).trans HRT.o) (by decide)
     replace H:=iq' H
     rcases H with ⟨L5,Hq,Hr,H⟩|⟨-,Hq,Hr,H⟩
     · exact absurd ((jU H).trans HRT.o) (by decide)
     replace H:=be H
     obtain ⟨Ei,L6,H⟩:=H
     replace H:=be H
     obtain ⟨⟨B7,B8,B9,Ba,Ay,Hs⟩,L7,H⟩:=H
     try dsimp only at H
     have Hx:=am H
     clear H
     have Jl:=Ai.o
     have Jm:=Ah.o
     obtain ⟨Er,Es,Et,Eu,Ev,Ew,Ex,Ey,Ez,G0⟩:=cl5 A4.o
     go_upto_region 23 with (first|((with_reducible refine aD (f:=43) rfl ?_);refine gc (some 61) (eN.calls (ok:=fun k_=>Ae<k_∧k_≠Ag) B4 A9 Aa Ab Ac _ Af 1 Eo Av w _ (bq2 HB.o A5.o Ad.o) (kqS A2.o) L3.o) Try.func43 ?_;rintro e Jn ⟨rfl,hs,hb,hk⟩;refine ⟨_,rfl,?_⟩;have hl_:=(Kd.S_reads' hs).1;have n_:=ak5 (Kd.S_kept (kqS A1.o) hk (fun k_ L8 I4=>Nat.lt_asymm L8 I4.1)) (show Kd.S kA 116 Jn w.heap.size (fun k_=>Ae<k_∧k_≠Ag) (.slice B2 Av.length B3) Av by rw [← hl_];exact hs) (fD (zq A3.o) hk (fun I4=>Nat.lt_irrefl _ I4.1)) (show Jn.heap[Ag]? =some (.cells #[.int .i64 A9,.int .i64 Aa,.int .i64 Ab,.int .i64 Ac,.slice B2 Av.length B3] 58 (0,0)) by rw [← hl_];exact fD (zq A4.o) hk (fun I4=>I4.2 rfl)) hb;clear A1 A2 A3 A4 HB;obtain ⟨A1,A2,A3,A4,HB⟩:=n_;(try clear hb hs hk hl_);obtain ⟨G1,G2,G3,G4,G5,G6,G7,G8,G9,Ga⟩:=cl5 A4.o)|((with_reducible refine aD (f:=59) rfl ?_);refine gc (some 64) (d8.calls B4 A9 Aa Ab Ac _ _ Av 1 Eh _ (cq (Kd.S_reads' A2.o).2.2) ((Kd.S_reads' A2.o).2.1) L4.o) Try.func59 ?_;rintro e Lq ⟨rfl,hb⟩;refine ⟨_,rfl,?_⟩;have n_:=ak5 (Kd.S_below (kqS A1.o) hb) (Kd.S_below (kqS A2.o) hb) (kb A3 hb) (kb A4 hb) (aA (bq2 HB.o A5.o Ad.o) hb);clear A1 A2 A3 A4 HB;obtain ⟨A1,A2,A3,A4,HB⟩:=n_;(try clear hb))|((with_reducible refine aD (f:=15) rfl ?_);refine gc (some 72) (bW.calls B4 _ _ l0 Ei _ (cq (Kd.C_below Ia.o HB.o)) Ib.o L6.o) Try.func15 ?_;rintro e Lr ⟨L9,rfl,Bf,hb⟩;refine ⟨_,rfl,?_⟩;have n_:=ak6 (Kd.S_below (kqS A1.o) hb) (Kd.S_below (kqS A2.o) hb) (rl Bf (bq2 HB.o A5.o Ad.o)) (kb A3 hb) (kb A4 hb) (aA (bq2 HB.o A5.o Ad.o) hb);clear A1 A2 A3 A4 HB;obtain ⟨A1,A2,Ar,A3,A4,HB⟩:=n_;(try clear hb Bf);obtain ⟨La,Lb,It⟩:=Kd.R_slice Ar.o;subst It)|((with_reducible refine aD (f:=58) rfl ?_);refine gc (some 73) (bX.calls B4 _ _ Ei B7 B8 B9 Ba Ay Hs _ (cq (Kd.R_reads' Ar.o).2.2) ((Kd.R_reads' Ar.o).2.1) L7.o) Try.func58 ?_;rintro e Ls ⟨Lc,rfl,Bf,hb⟩;refine ⟨_,rfl,?_⟩;have n_:=ak7 (Kd.S_below (kqS A1.o) hb) (Kd.S_below (kqS A2.o) hb) (rb Ar hb) (Kd.S_lower Bf (aY (bq2 HB.o A5.o Ad.o))) (kb A3 hb) (kb A4 hb) (aA (bq2 HB.o A5.o Ad.o) hb);clear A1 A2 Ar A3 A4 HB;obtain ⟨A1,A2,Ar,Aq,A3,A4,HB⟩:=n_;(try clear hb Bf))|((with_reducible refine aQ (N:=11) rfl ?_);refine bxe 11 #[.int .i64 0,.int .i64 0,.int .i64 0,.int .i64 0,.slice none 0 0] 58 ?_;intro As hg Ld hbox hb;have n_:=ak14 (Kd.S_below (kqS A1.o) hb) (Kd.S_below (kqS A2.o) hb) (rb Ar hb) (Kd.S_below (kqS Aq.o) hb) (kb A3 hb) (kb A4 hb) (aA (bq2 HB.o A5.o Ad.o) hb) hbox (bz hg (bq2 HB.o A5.o Ad.o)) (bz hg (bq2 HB.o A5.o Ad.o)) (nL hg A3) (nG hg A3) (nL hg A4) (nG hg A4);clear A1 A2 Ar Aq A3 A4 HB;obtain ⟨A1,A2,Ar,Aq,A3,A4,HB,Aj,Jo,Be,B0,B5,Aw,B1⟩:=n_;clear hb hbox hg;have Jp:=B5.o;have Jq:=B0.o;have Jr:=B1.o;have Js:=Aw.o;obtain ⟨Gb,Gc,Gd,Ge,Gf,Gg,Gh,Gi,Gj,Gk⟩:=cl5 Aj.o;obtain ⟨D9,Da,Iu⟩:=Kd.S_slice Aq.o;subst Iu)|((with_reducible refine aG (t:=58) (p:=11) rfl ?_);refine se 58 11 (s5 Ld As (.int .i64 B7) (.int .i64 B8) (.int .i64 B9) (.int .i64 Ba) (.slice D9 Ay.length Da)) ?_;intro Iv hw;have n_:=ak8 (show Kd.S d7 116 Iv w.heap.size (fun k_=>k_<Ae) (.slice Bb A6.length Bc) A6 by rw [hw];exact (by (with_reducible repeat (first|apply Kd.S_alloc|apply Kd.S_drewN|apply Kd.S_drew));exact Kd.S_mono (Kd.S_far (p:=⟨As,4,none⟩) (Kd.S_far (p:=⟨As,3,none⟩) (Kd.S_far (p:=⟨As,2,none⟩) (Kd.S_far (p:=⟨As,1,none⟩) (Kd.S_far (p:=⟨As,0,none⟩) (Kd.S_types A1.o Aj.o (by decide)) (fun _ hk=>hk.2) (.int .i64 B7)) (fun _ hk=>hk.2) (.int .i64 B8)) (fun _ hk=>hk.2) (.int .i64 B9)) (fun _ hk=>hk.2) (.int .i64 Ba)) (fun _ hk=>hk.2) (.slice D9 Ay.length Da)) (fun _ hk=>hk.1))) (show Kd.S kA 116 Iv w.heap.size (fun k_=>Ae<k_∧k_≠Ag) (.slice B2 Av.length B3) Av by rw [hw];exact (by (with_reducible repeat (first|apply Kd.S_alloc|apply Kd.S_drewN|apply Kd.S_drew));exact Kd.S_mono (Kd.S_far (p:=⟨As,4,none⟩) (Kd.S_far (p:=⟨As,3,none⟩) (Kd.S_far (p:=⟨As,2,none⟩) (Kd.S_far (p:=⟨As,1,none⟩) (Kd.S_far (p:=⟨As,0,none⟩) (Kd.S_types A2.o Aj.o (by decide)) (fun _ hk=>hk.2) (.int .i64 B7)) (fun _ hk=>hk.2) (.int .i64 B8)) (fun _ hk=>hk.2) (.int .i64 B9)) (fun _ hk=>hk.2) (.int .i64 Ba)) (fun _ hk=>hk.2) (.slice D9 Ay.length Da)) (fun _ hk=>hk.1))) (sr5 hw Ar Aj) (show Kd.S kA 116 Iv w.heap.size (fun _=>True) (.slice D9 Ay.length Da) Ay by rw [hw];exact (by (with_reducible repeat (first|apply Kd.S_alloc|apply Kd.S_drewN|apply Kd.S_drew));exact Kd.S_mono (Kd.S_far (p:=⟨As,4,none⟩) (Kd.S_far (p:=⟨As,3,none⟩) (Kd.S_far (p:=⟨As,2,none⟩) (Kd.S_far (p:=⟨As,1,none⟩) (Kd.S_far (p:=⟨As,0,none⟩) (Kd.S_types Aq.o Aj.o (by decide)) (fun _ hk=>hk.2) (.int .i64 B7)) (fun _ hk=>hk.2) (.int .i64 B8)) (fun _ hk=>hk.2) (.int .i64 B9)) (fun _ hk=>hk.2) (.int .i64 Ba)) (fun _ hk=>hk.2) (.slice D9 Ay.length Da)) (fun _ hk=>trivial))) (sf5 hw A3 B0) (sf5 hw A4 Aw) (sc5 hw Aj) (sb hw (bq3 HB.o A5.o Ad.o Be.o));clear hw A1 A2 Ar Aq A3 A4 Aj HB;obtain ⟨A1,A2,Ar,Aq,A3,A4,Aj,HB⟩:=n_))
     (try simp only [Act.put,jP,jQ,jR])
     go_cut [84] (fun Le wc=>∃(kq:Nat) (D6:Bool),Le=.bool D6∧Aside0 (laws_FnExactGetPdu.j2 kq Eo D6 A9 Aa Ab Ac Av=some r)∧Aside0 (kq≤B4)∧Aside0 (Kd.S d7 116 wc w.heap.size (fun k_=>k_<Ae) (.slice Bb A6.length Bc) A6)∧Aside0 (Kd.S kA 116 wc w.heap.size (fun k_=>Ae<k_∧k_≠Ag) (.slice B2 Av.length B3) Av)∧Aside0 (Kd.S kA 116 wc w.heap.size (fun _=>True) (.slice D9 Ay.length Da) Ay)∧Aside0 (wc.heap[Ae]? =some (.cells #[.int .i64 Al,.int .i64 Am,.int .i64 An,.int .i64 Ao,(.slice Bb A6.length Bc)] 58 (0,0)))∧Aside0 (wc.heap[Ag]? =some (.cells #[.int .i64 A9,.int .i64 Aa,.int .i64 Ab,.int .i64 Ac,(.slice B2 Av.length B3)] 58 (0,0)))∧Aside0 (wc.heap[As]? =some (.cells #[.int .i64 B7,.int .i64 B8,.int .i64 B9,.int .i64 Ba,(.slice D9 Ay.length Da)] 58 (0,0)))∧Aside0 (Below w.heap.size w wc))
     case first=>
      have H:=Hx.o
      clear Hx
      replace H:=be H
      obtain ⟨Hw,Jt,H⟩:=H
      rcases bt Hw with rfl|rfl
      · replace H:=iT H
        have H':=am H
        clear H
        have Ju:=B5.o
        have Jv:=B0.o
        have Jw:=B1.o
        have Jx:=Aw.o
        obtain ⟨Gl,Gm,Gn,Go,Gp,Gq,Gr,Gs,Gt,Gu⟩:=cl5 Aj.o
        have Jy:=Ah.o
        have Jz:=Ai.o
        obtain ⟨Gv,Gw,Gx,Gy,Gz,H0,H1,H2,H3,H4⟩:=cl5 A3.o
        go_wp2_with (first|((with_reducible refine aD (f:=42) rfl ?_);refine gc (some 78) (dO.calls B4 B7 B8 B9 Ba _ _ Ay Al Am An Ao _ _ A6 true _ (cq (Kd.S_reads' Aq.o).2.2) ((Kd.S_reads' Aq.o).2.1) (cq (Kd.S_reads' A1.o).2.2) ((Kd.S_reads' A1.o).2.1) Jt.o) Try.func42 ?_;rintro e Lt ⟨rfl,hb⟩;refine ⟨_,rfl,?_⟩;have n_:=ak8 (Kd.S_below (kqS A1.o) hb) (Kd.S_below (kqS A2.o) hb) (rb Ar hb) (Kd.S_below (kqS Aq.o) hb) (kb A3 hb) (kb A4 hb) (kb Aj hb) (aA (bq3 HB.o A5.o Ad.o Be.o) hb);clear A1 A2 Ar Aq A3 A4 Aj HB;obtain ⟨A1,A2,Ar,Aq,A3,A4,Aj,HB⟩:=n_;(try clear hb)))
        go_meet
        case rel=>exact ⟨_,((Hs !=Az)),sq,H',⟨by have:=Hz.o;have:=I3.o;first|omega|exact jV _⟩,⟨kqS A1.o⟩,⟨kqS A2.o⟩,⟨kqS Aq.o⟩,⟨zq A3.o⟩,⟨zq A4.o⟩,⟨zq Aj.o⟩,⟨bq3 HB.o A5.o Ad.o Be.o⟩⟩
      replace H:=iF H
      have H':=am H
      clear H
      have K0:=B5.o
      have K1:=B0.o
      have K2:=B1.o
      have K3:=Aw.o
      obtain ⟨H5,H6,H7,H8,H9,Ha,Hb,Hc,Hd,He⟩:=cl5 Aj.o
      have K4:=Ah.o
      have K5:=Ai.o
      obtain ⟨Hf,Hg,Hh,Hi,Hj,Hk,Hl,Hm,Hn,Ho⟩:=cl5 A3.o
      go_wp2_with (first|((with_reducible refine aD (f:=42) rfl ?_);refine gc (some 78) (dO.calls B4 B7 B8 B9 Ba _ _ Ay Al Am An Ao _ _ A6 false _ (cq (Kd.S_reads' Aq.o).2.2) ((Kd.S_reads' Aq.o).2.1) (cq (Kd.S_reads' A1.o).2.2) ((Kd.S_reads' A1.o).2.1) Jt.o) Try.func42 ?_;rintro e Lu ⟨rfl,hb⟩;refine ⟨_,rfl,?_⟩;have n_:=ak8 (Kd.S_below (kqS A1.o) hb) (Kd.S_below (kqS A2.o) hb) (rb Ar hb) (Kd.S_below (kqS Aq.o) hb) (kb A3 hb) (kb A4 hb) (kb Aj hb) (aA (bq3 HB.o A5.o Ad.o Be.o) hb);clear A1 A2 Ar Aq A3 A4 Aj HB;obtain ⟨A1,A2,Ar,Aq,A3,A4,Aj,HB⟩:=n_;(try clear hb)))
      go_meet
      case rel=>exact ⟨_,(true),sq,H',⟨by have:=Hz.o;have:=I3.o;first|omega|exact jV _⟩,⟨kqS A1.o⟩,⟨kqS A2.o⟩,⟨kqS Aq.o⟩,⟨zq A3.o⟩,⟨zq A4.o⟩,⟨zq Aj.o⟩,⟨bq3 HB.o A5.o Ad.o Be.o⟩⟩
     case rest=>
      clear Hx
      try clear c1
      try clear c2
      try clear Ep
      try clear Eq
      try clear p2
      try clear c3
      try clear c4
      try clear c5
      try clear c6
      try clear c7
      try clear c8
      try clear J9
      try clear Ja
      try clear Kw
      try clear Jb
      try clear Kx
      try clear Jc
      try clear Jd
      try clear Je
      try clear Ht
      try clear Ky
      try clear Kz
      try clear Bd
      try clear Lv
      try clear L0
      try clear L1
      try clear L2
      try clear Hy
      try clear Lw
      try clear Hp
      try clear L5
      try clear Hq
      try clear Hr
      try clear Lx
      try clear Ly
      try clear Lz
      try clear M0
      try clear M1
      try clear M2
      try clear M3
      try clear M4
      try clear M5
      try clear M6
      try clear M7
      try clear M8
      try clear Bh
      try clear Bi
      try clear Bj
      try clear Bk
      try clear Bl
      try clear Br
      try clear Bs
      try clear Bt
      try clear Bu
      try clear Bv
      try clear C1
      try clear C2
      try clear C3
      try clear C4
      try clear C5
      try clear Cb
      try clear Cc
      try clear Cd
      try clear Ce
      try clear Cf
      try clear Cl
      try clear Cm
      try clear Cn
      try clear Co
      try clear Cp
      try clear Cv
      try clear Cw
      try clear Cx
      try clear Cy
      try clear Cz
      try clear Dd
      try clear De
      try clear Df
      try clear Dg
      try clear Dh
      try clear Dn
      try clear Do
      try clear Dp
      try clear Dq
      try clear Dr
      try clear Dx
      try clear Dy
      try clear Dz
      try clear E0
      try clear E1
      try clear E7
      try clear E8
      try clear E9
      try clear Ea
      try clear Eb
      try clear Er
      try clear Es
      try clear Et
      try clear Eu
      try clear Ev
      try clear G1
      try clear G2
      try clear G3
      try clear G4
      try clear G5
      try clear Gb
      try clear Gc
      try clear Gd
      try clear Ge
      try clear Gf
      try clear Gl
      try clear Gm
      try clear Gn
      try clear Go
      try clear Gp
      try clear Gv
      try clear Gw
      try clear Gx
      try clear Gy
      try clear Gz
      try clear H5
      try clear H6
      try clear H7
      try clear H8
      try clear H9
      try clear Hf
      try clear Hg
      try clear Hh
      try clear Hi
      try clear Hj
      try clear Bm
      try clear Bn
      try clear Bo
      try clear Bp
      try clear Bq
      try clear Bw
      try clear Bx
      try clear By
      try clear Bz
      try clear C0
      try clear C6
      try clear C7
      try clear C8
      try clear C9
      try clear Ca
      try clear Cg
      try clear Ch
      try clear Ci
      try clear Cj
      try clear Ck
      try clear Cq
      try clear Cr
      try clear Cs
      try clear Ct
      try clear Cu
      try clear D0
      try clear D1
      try clear D2
      try clear D3
      try clear D4
      try clear Di
      try clear Dj
      try clear Dk
      try clear Dl
      try clear Dm
      try clear Ds
      try clear Dt
      try clear Du
      try clear Dv
      try clear Dw
      try clear E2
      try clear E3
      try clear E4
      try clear E5
      try clear E6
      try clear Ec
      try clear Ed
      try clear Ee
      try clear Ef
      try clear Eg
      try clear Ew
      try clear Ex
      try clear Ey
      try clear Ez
      try clear G0
      try clear G6
      try clear G7
      try clear G8
      try clear G9
      try clear Ga
      try clear Gg
      try clear Gh
      try clear Gi
      try clear Gj
      try clear Gk
      try clear Gq
      try clear Gr
      try clear Gs
      try clear Gt
      try clear Gu
      try clear H0
      try clear H1
      try clear H2
      try clear H3
      try clear H4
      try clear Ha
      try clear Hb
      try clear Hc
      try clear Hd
      try clear He
      try clear Hk
      try clear Hl
      try clear Hm
      try clear Hn
      try clear Ho
      try clear p2
      obtain ⟨kq,D6,rfl,HA,Lf,A1,A2,B6,A3,A4,Aj,HB⟩:=hcut
      cases kq with
      |zero=>exact absurd HA.o (by simp [laws_FnExactGetPdu.j2])
      |succ I5=>
       have H:=HA.o
       clear HA
       simp only [laws_FnExactGetPdu.j2] at H
       rcases Decidable.em (D6=true) with I6|I6
       · subst I6
         replace H:(some false)=some r:=by rw [if_pos rfl] at H;exact H
         exact absurd ((jU H).trans HRT.o) (by decide)
       replace I6:=Bool.eq_false_iff.mpr I6
       subst I6
       replace H:((d8.f I5 A9 Aa Ab Ac Av 1).bind fun Ej=>(if Ej<0 then (some false) else (if Ej=Eo then (some true) else (some false))))=some r:=by rw [if_neg (show ¬(false=true) by decide)] at H;exact H
       replace H:=be H
       obtain ⟨Ej,Lg,H⟩:=H
       replace H:=il H
       rcases H with ⟨-,I7,H⟩|⟨-,I7,H⟩
       · exact absurd ((jU H).trans HRT.o) (by decide)
       replace H:=iq' H
       rcases H with ⟨M9,I8,I9,H⟩|⟨-,I8,I9,H⟩
       · exact absurd ((jU H).trans HRT.o) (by decide)
       obtain rfl:=jU H
       have K6:=Ai.o
       have K7:=Ah.o
       have K8:=Aw.o
       have K9:=B1.o
       obtain ⟨Id,Ie,If,Ig,Ih,Ii,Ij,Ik,Il,Im⟩:=cl5 A4.o
       go_wp2_with (first|((with_reducible refine aD (f:=59) rfl ?_);refine gc (some 87) (d8.calls I5 A9 Aa Ab Ac _ _ Av 1 Ej _ (cq (Kd.S_reads' A2.o).2.2) ((Kd.S_reads' A2.o).2.1) Lg.o) Try.func59 ?_;rintro e Ma ⟨rfl,hb⟩;refine ⟨_,rfl,?_⟩;have n_:=ak7 (Kd.S_below (kqS A1.o) hb) (Kd.S_below (kqS A2.o) hb) (Kd.S_below (kqS B6.o) hb) (kb A3 hb) (kb A4 hb) (kb Aj hb) (aA (bq3 HB.o A5.o Ad.o Be.o) hb);clear A1 A2 B6 A3 A4 Aj HB;obtain ⟨A1,A2,B6,A3,A4,Aj,HB⟩:=n_;(try clear hb)))
       go_ret
       exact ⟨rq,bq3 HB.o A5.o Ad.o Be.o⟩
def laws_FnExactGetPdu.Pure:Prop:=∀(l0:List Int),l0.length≤maxLen→(∀y ∈ l0,(Lit.int .u8 y).wf=true)→∃k,laws_FnExactGetPdu.f k l0=some true
end Go.Proofs.Ythhnfmbfgplelaa.XFnExactGetPdu
