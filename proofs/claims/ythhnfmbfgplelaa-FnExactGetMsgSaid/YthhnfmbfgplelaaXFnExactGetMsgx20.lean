/- The functions that one law reaches, as Lean functions, with their walks: printed by a program of this seat (wip/tools) out of the translation. -/
import Derived.Test.YthhnfmbfgplelaaXFnExactGetMsgx0
import Derived.Test.YthhnfmbfgplelaaXFnExactGetMsgx13
import Derived.Test.YthhnfmbfgplelaaXFnExactGetMsgx14
import Derived.Test.YthhnfmbfgplelaaXFnExactGetMsgx17
import Derived.Test.YthhnfmbfgplelaaXFnExactGetMsgx19
namespace Go.Proofs.Ythhnfmbfgplelaa.XFnExactGetMsg
open Go.RowKit Go.Proofs.YthhnfmbfgplelaaW.PrintWords Go.Proofs.YthhnfmbfgplelaaW.PrintLast Go.Proofs.YthhnfmbfgplelaaW.PrintMore
attribute [local go_sem] cQ cR dP dQ cC cD cS cT
set_option maxHeartbeats 8000000
set_option maxRecDepth 100000
set_option linter.unusedVariables false
set_option linter.unusedSimpArgs false
def dM.j0:Nat→ByteArray→List Int→Int→List Int→Bool→List Int→Int→Bool→Option (Int × Int × Int × Int × (List (S116)) × Int)
 |0,_,_,_,_,_,_,_,_=>none
 |k+1,x0,x7,A4,A5,A6,A2,A1,A3=>if A6=true then (some (0,0,0,0,([]:List (S116)),1)) else (if A4=1 then (if (strOfNums A5).toList=x0.toList then (if 0≤A1 then (if A1≤(x7.length:Int) then ((aT.f k (x7.drop (A1:Int).toNat)).bind fun A0=>(if A0.2.2.2.2.2=true then (some (A0.1,A0.2.1,A0.2.2.1,A0.2.2.2.1,A0.2.2.2.2.1,0)) else (some (0,0,0,0,([]:List (S116)),1)))) else (none)) else (none)) else (some (0,0,0,0,([]:List (S116)),3))) else (some (0,0,0,0,([]:List (S116)),2)))
def dM.f (k:Nat) (a0:ByteArray) (l1:List Int):Option (Int × Int × Int × Int × (List (S116)) × Int):=(a7.f k l1 0).bind fun A0=>((dT.f k A0.2.1 0 false).bind fun A2=>((bC.f k A0.2.1 A2.2.1 A2.2.2 4).bind fun A1=>(if A0.2.2.2=true then (if A0.1=48 then (if A0.2.2.1=(l1.length:Int) then (dM.j0 k a0 A0.2.1 A2.1 A1.1 A1.2.2 A0.2.1 A1.2.1 A1.2.2) else (dM.j0 k a0 A0.2.1 A2.1 A1.1 true A0.2.1 A1.2.1 A1.2.2)) else (dM.j0 k a0 A0.2.1 A2.1 A1.1 true A0.2.1 A1.2.1 A1.2.2)) else (dM.j0 k a0 A0.2.1 A2.1 A1.1 true A0.2.1 A1.2.1 A1.2.2))))
theorem dM.calls (k:Nat) (a0:ByteArray) (A1:Option Addr) (c1:Nat) (l1:List Int) (r1:Int) (r2:Int) (r3:Int) (r4:Int) (r5:List (S116)) (r6:Int) (w:World) (Ge:Kd.C (Kd.int .u8) w A1 l1.length l1) (Gf:l1.length≤c1) (h:dM.f k a0 l1=some (r1,r2,r3,r4,r5,r6)):
 Calls Try.prog 60 #[.string a0,.slice A1 l1.length c1] w fun e w'=>∃Gg:Value,e=.returned (.tuple #[.agg #[.int .i64 r1,.int .i64 r2,.int .i64 r3,.int .i64 r4,Gg],.int .i64 r6])∧Kd.S eA 116 w' w.heap.size (fun _=>True) Gg r5∧Below w.heap.size w w':=by
 have Hb:=Try.underlying58
 have Hc:=Try.underlying99
 have Hd:=am Ge
 have He:=am Gf
 clear Ge Gf
 have HB:=am (Below.refl w.heap.size w)
 have H:=h
 clear h
 unfold dM.f at H
 replace H:=be H
 obtain ⟨⟨C8,A4,C9,Bq⟩,Hf,H⟩:=H
 try dsimp only at H
 replace H:=be H
 obtain ⟨⟨B6,Br,Bs⟩,Hg,H⟩:=H
 try dsimp only at H
 replace H:=be H
 obtain ⟨⟨Ao,A7,Ay⟩,Hh,H⟩:=H
 try dsimp only at H
 have G3:=am H
 clear H
 go_enter Try.func60,Try.ntmps60
 go_upto_region 5 with (first|((with_reducible refine aM (N:=4) rfl ?_);(try (refine aV (by rfl) ?_;dsimp only));refine bxe 4 #[.int .i64 0,.int .i64 0,.int .i64 0,.int .i64 0,.slice none 0 0] 58 ?_;intro Ae hg w7 hbox hb;have n_:=ak4 (aA (bq HB.o) hb) hbox (bz hg (bq HB.o)) (bz hg (bq HB.o));clear HB;obtain ⟨HB,A0,Gh,A6⟩:=n_;clear hb hbox hg)|((with_reducible refine aD (f:=84) rfl ?_);refine gc (some 17) (a7.calls k _ _ l1 0 C8 A4 C9 Bq _ (cq (Kd.C_below Hd.o HB.o)) He.o Hf.o) Try.func84 ?_;rintro e w8 ⟨Hi,rfl,B5,hb⟩;refine ⟨_,rfl,?_⟩;have n_:=ak3 (rl B5 (bq1 HB.o A6.o)) (kb A0 hb) (aA (bq1 HB.o A6.o) hb);clear A0 HB;obtain ⟨A9,A0,HB⟩:=n_;(try clear hb B5);obtain ⟨Ap,Am,Hj⟩:=Kd.R_slice A9.o;subst Hj)|((with_reducible refine aM (N:=24) rfl ?_);(try (refine aV (by rfl) ?_;dsimp only));refine bxe 24 #[.slice Ap A4.length Am,.int .i64 0,.bool false] 99 ?_;intro Az hg I4 hbox hb;have n_:=ak9 (rb A9 hb) (kb A0 hb) (aA (bq1 HB.o A6.o) hb) hbox (bz hg (bq1 HB.o A6.o)) (bz hg (bq1 HB.o A6.o)) ((by rw [hg];exact Kd.R_lt (kqR A9.o):∀i_:Nat,(.slice Ap A4.length Am:Value).ownBlock=some i_→i_<Az)) (nL hg A0) (nG hg A0);clear A9 A0 HB;obtain ⟨A9,A0,HB,A3,Gi,A8,Bt,Ad,Ab⟩:=n_;clear hb hbox hg)|((with_reducible refine aD (f:=117) rfl ?_);refine gc (some 26) (dT.box k Az A4 0 false B6 Br Bs _ Ap Am (by refine zr ?_;exact A3.o) (eT (kqR A9.o) Bt.o) ((Kd.R_reads' A9.o).2.1) Hg.o) Try.func117 ?_;rintro e I5 ⟨rfl,hi,hq⟩;refine ⟨_,rfl,?_⟩;have hk:=hq.kb;have n_:=ak4 (KeepBut.blk hk (zb A0.o) Ad.o (by simp)) (Kd.R_mono (Kd.R_keep (Kd.R_types (kqR A9.o) (zq A3.o) (by decide)) hk (fun _ h=>h.2)) (fun _ h=>h.1)) (Kq.bel hq (bq2 HB.o A6.o A8.o) A8.o) hi;clear A0 A9 HB A3;obtain ⟨A0,A9,HB,A3⟩:=n_;(try clear hi hq))|((with_reducible refine aD (f:=85) rfl ?_);refine gc (some 28) (bC.box k Az A4 Br Bs 4 Ao A7 Ay _ Ap Am (by refine zr ?_;exact A3.o) (eT (kqR A9.o) Bt.o) ((Kd.R_reads' A9.o).2.1) Hh.o) Try.func85 ?_;rintro e I6 ⟨B4,rfl,B5,hi,hq⟩;refine ⟨_,rfl,?_⟩;have hk:=hq.kb;have n_:=ak5 (KeepBut.blk hk (zb A0.o) Ad.o (by simp)) (Kd.R_mono (Kd.R_told (Kd.R_oldK (Kd.R_types (kqR A9.o) (zq A3.o) (by decide)) hk) (Kd.R_base B5)) (fun _ h_=>h_.1)) (rn_ B5 A9 (bq2 HB.o A6.o A8.o)) (Kq.bel hq (bq2 HB.o A6.o A8.o) A8.o) hi;clear A0 A9 HB A3;obtain ⟨A0,A9,B0,HB,A3⟩:=n_;(try clear hi hq B5)))
 (try simp only [Act.put,jX,jY,jZ])
 go_cut [46] (fun Hk wc=>∃(kq:Nat) (B1:Bool),Hk=.bool B1∧Aside0 (dM.j0 kq a0 A4 B6 Ao B1 A4 A7 Ay=some (r1,r2,r3,r4,r5,r6))∧Aside0 (kq≤k)∧Aside0 (Kd.R (Kd.int .u8) 5 wc w.heap.size (fun k_=>some k_≠(B4:Value).ownBlock) (.slice Ap A4.length Am) A4)∧Aside0 (Kd.R (Kd.int .u8) 5 wc w.heap.size (fun k_=>some k_≠((.slice Ap A4.length Am):Value).ownBlock∧some k_≠((.slice Ap A4.length Am):Value).ownBlock) B4 Ao)∧Aside0 (Kd.R (Kd.int .u8) 5 wc w.heap.size (fun k_=>some k_≠(B4:Value).ownBlock) (.slice Ap A4.length Am) A4)∧Aside0 (wc.heap[Ae]? =some (.cells #[.int .i64 0,.int .i64 0,.int .i64 0,.int .i64 0,(.slice none 0 0)] 58 (0,0)))∧Aside0 (wc.heap[Az]? =some (.cells #[(.slice Ap A4.length Am),.int .i64 A7,.bool Ay] 99 (0,0)))∧Aside0 (Below w.heap.size w wc))
 case first=>
  have H:=G3.o
  clear G3
  cases Bq
  · replace H:=iF H
    have H':=am H
    clear H
    go_wp2
    go_meet
    case rel=>exact ⟨_,(true),sq,H',⟨by first|omega|exact j6 _⟩,⟨by refine kr ?_;exact Kd.R_mono A9.o (fun _ hk=>hk.2)⟩,⟨by refine kr ?_;exact Kd.R_mono B0.o (fun _ hk=>⟨hk.2,hk.2⟩)⟩,⟨by refine kr ?_;exact Kd.R_mono A9.o (fun _ hk=>hk.2)⟩,⟨zq A0.o⟩,⟨zq A3.o⟩,⟨bq2 HB.o A6.o A8.o⟩⟩
  replace H:=iT H
  replace H:=iq' H
  rcases H with ⟨Hl,Ar,Bu,H⟩|⟨-,Ar,Bu,H⟩
  · (first|rw [Ar]|(simp only [aN,aU];rw [Ar])|skip)
    have H':=am H
    clear H
    go_wp2
    go_meet
    case rel=>exact ⟨_,(true),sq,H',⟨by first|omega|exact j6 _⟩,⟨by refine kr ?_;exact Kd.R_mono A9.o (fun _ hk=>hk.2)⟩,⟨by refine kr ?_;exact Kd.R_mono B0.o (fun _ hk=>⟨hk.2,hk.2⟩)⟩,⟨by refine kr ?_;exact Kd.R_mono A9.o (fun _ hk=>hk.2)⟩,⟨zq A0.o⟩,⟨zq A3.o⟩,⟨bq2 HB.o A6.o A8.o⟩⟩
  (first|rw [Ar]|(simp only [aN,aU];rw [Ar])|skip)
  replace H:=iq' H
  rcases H with ⟨Hm,Bv,Bw,H⟩|⟨-,Bv,Bw,H⟩
  · have H':=am H
    clear H
    go_wp2
    go_meet
    case rel=>exact ⟨_,(true),sq,H',⟨by first|omega|exact j6 _⟩,⟨by refine kr ?_;exact Kd.R_mono A9.o (fun _ hk=>hk.2)⟩,⟨by refine kr ?_;exact Kd.R_mono B0.o (fun _ hk=>⟨hk.2,hk.2⟩)⟩,⟨by refine kr ?_;exact Kd.R_mono A9.o (fun _ hk=>hk.2)⟩,⟨zq A0.o⟩,⟨zq A3.o⟩,⟨bq2 HB.o A6.o A8.o⟩⟩
  have H':=am H
  clear H
  have Gj:=Ab.o
  have Gk:=Ad.o
  obtain ⟨Bg,Bh,Bi,Bj,Bk,Bl⟩:=cl3 A3.o
  go_wp2
  go_meet
  case rel=>exact ⟨_,(Ay),sq,H',⟨by first|omega|exact j6 _⟩,⟨by refine kr ?_;exact Kd.R_mono A9.o (fun _ hk=>hk.2)⟩,⟨by refine kr ?_;exact Kd.R_mono B0.o (fun _ hk=>⟨hk.2,hk.2⟩)⟩,⟨by refine kr ?_;exact Kd.R_mono A9.o (fun _ hk=>hk.2)⟩,⟨zq A0.o⟩,⟨zq A3.o⟩,⟨bq2 HB.o A6.o A8.o⟩⟩
 case rest=>
  clear G3
  try clear c1
  try clear p2
  try clear c6
  try clear c8
  try clear I7
  try clear I8
  try clear Hl
  try clear Ar
  try clear Bu
  try clear Hm
  try clear Bv
  try clear Bw
  try clear I9
  try clear Bg
  try clear Bh
  try clear Bi
  try clear Bj
  try clear Bk
  try clear Bl
  obtain ⟨kq,B1,rfl,HA,Ia,Af,Aa,A2,A0,A3,HB⟩:=hcut
  cases kq with
  |zero=>exact absurd HA.o (by simp [dM.j0])
  |succ G4=>
   have H:=HA.o
   clear HA
   simp only [dM.j0] at H
   rcases Decidable.em (B1=true) with Ca|Ca
   · subst Ca
     replace H:(some (0,0,0,0,([]:List (S116)),1))=some (r1,r2,r3,r4,r5,r6):=by rw [if_pos rfl] at H;exact H
     simp only [j3,j4] at H
     obtain ⟨rfl,rfl,rfl,rfl,rfl,rfl⟩:=H
     have Gl:=Ad.o
     have Gm:=Ab.o
     obtain ⟨Ct,Cu,Cv,Cw,Cx,Cy,Cz,D0,D1,D2⟩:=cl5 A0.o
     go_wp2_with (first|((with_reducible refine aG (t:=58) (p:=4) rfl ?_);refine se 58 4 (s5 wc Ae (.int .i64 0) (.int .i64 0) (.int .i64 0) (.int .i64 0) (.slice none 0 0)) ?_;intro Hn hw;have n_:=ak6 (sr5 hw Af A0) (show Kd.R (Kd.int .u8) 5 Hn w.heap.size (fun k_=>some k_≠(.slice Ap A4.length Am:Value).ownBlock∧some k_≠(.slice Ap A4.length Am:Value).ownBlock) B4 Ao by rw [hw];exact (by refine kr ?_;exact Kd.R_mono (rf5 Ae (.int .i64 0) (.int .i64 0) (.int .i64 0) (.int .i64 0) (.slice none 0 0) (Kd.R_types Aa.o A0.o (by decide)) (fun _ hk=>hk.2)) (fun _ hk=>⟨hk.1.1,hk.1.2⟩))) (sr5 hw A2 A0) (sc5 hw A0) (sf5 hw A3 Ab) (sb hw (bq2 HB.o A6.o A8.o));clear hw Af Aa A2 A0 A3 HB;obtain ⟨Af,Aa,A2,A0,A3,HB⟩:=n_))
     refine bodyPost_ret (bP rfl _ _ Ae 58 #[.int .i64 0,.int .i64 0,.int .i64 0,.int .i64 0,.slice none 0 0] (0,0) _ rfl (zq A0.o) Try.underlying58 rfl (by kernel_rfl)) rfl ?_
     exact ⟨_,rq,by first|exact Kd.S_nil _ _ _ _ _|exact Kd.N_nil _ _ _ _ _|exact Kd.V_nil _ _ _ _ _|exact Kd.Q_nil _ _ _ _ _|exact Kd.R_nil _ _ _ _ _,bq2 HB.o A6.o A8.o⟩
   replace Ca:=Bool.eq_false_iff.mpr Ca
   subst Ca
   replace H:(if B6=1 then (if (strOfNums Ao).toList=a0.toList then (if 0≤A7 then (if A7≤(A4.length:Int) then ((aT.f G4 (A4.drop (A7:Int).toNat)).bind fun As=>(if As.2.2.2.2.2=true then (some (As.1,As.2.1,As.2.2.1,As.2.2.2.1,As.2.2.2.2.1,0)) else (some (0,0,0,0,([]:List (S116)),1)))) else (none)) else (none)) else (some (0,0,0,0,([]:List (S116)),3))) else (some (0,0,0,0,([]:List (S116)),2)))=some (r1,r2,r3,r4,r5,r6):=by rw [if_neg (show ¬(false=true) by decide)] at H;exact H
   replace H:=iq' H
   rcases H with ⟨Ib,Cb,Cc,H⟩|⟨-,Cb,Cc,H⟩
   · simp only [j3,j4] at H
     obtain ⟨rfl,rfl,rfl,rfl,rfl,rfl⟩:=H
     have Gn:=Ad.o
     have Go:=Ab.o
     obtain ⟨D3,D4,D5,D6,D7,D8,D9,Da,Db,Dc⟩:=cl5 A0.o
     go_wp2_with (first|((with_reducible refine aG (t:=58) (p:=4) rfl ?_);refine se 58 4 (s5 wc Ae (.int .i64 0) (.int .i64 0) (.int .i64 0) (.int .i64 0) (.slice none 0 0)) ?_;intro Ho hw;have n_:=ak6 (sr5 hw Af A0) (show Kd.R (Kd.int .u8) 5 Ho w.heap.size (fun k_=>some k_≠(.slice Ap A4.length Am:Value).ownBlock∧some k_≠(.slice Ap A4.length Am:Value).ownBlock) B4 Ao by rw [hw];exact (by refine kr ?_;exact Kd.R_mono (rf5 Ae (.int .i64 0) (.int .i64 0) (.int .i64 0) (.int .i64 0) (.slice none 0 0) (Kd.R_types Aa.o A0.o (by decide)) (fun _ hk=>hk.2)) (fun _ hk=>⟨hk.1.1,hk.1.2⟩))) (sr5 hw A2 A0) (sc5 hw A0) (sf5 hw A3 Ab) (sb hw (bq2 HB.o A6.o A8.o));clear hw Af Aa A2 A0 A3 HB;obtain ⟨Af,Aa,A2,A0,A3,HB⟩:=n_))
     refine bodyPost_ret (bP rfl _ _ Ae 58 #[.int .i64 0,.int .i64 0,.int .i64 0,.int .i64 0,.slice none 0 0] (0,0) _ rfl (zq A0.o) Try.underlying58 rfl (by kernel_rfl)) rfl ?_
     exact ⟨_,rq,by first|exact Kd.S_nil _ _ _ _ _|exact Kd.N_nil _ _ _ _ _|exact Kd.V_nil _ _ _ _ _|exact Kd.Q_nil _ _ _ _ _|exact Kd.R_nil _ _ _ _ _,bq2 HB.o A6.o A8.o⟩
   replace H:=iq' H
   rcases H with ⟨Ic,Cd,Ce,H⟩|⟨-,Cd,Ce,H⟩
   · simp only [j3,j4] at H
     obtain ⟨rfl,rfl,rfl,rfl,rfl,rfl⟩:=H
     have Gp:=dK (P:=Try.prog) Try.underlying22 Try.underlying5 Try.underlying9 (Kd.own_of_R Aa.o)
     have Gq:=Ad.o
     have Gr:=Ab.o
     obtain ⟨Dd,De,Df,Dg,Dh,Di,Dj,Dk,Dl,Dm⟩:=cl5 A0.o
     go_wp2_with (first|((with_reducible refine aG (t:=58) (p:=4) rfl ?_);refine se 58 4 (s5 wc Ae (.int .i64 0) (.int .i64 0) (.int .i64 0) (.int .i64 0) (.slice none 0 0)) ?_;intro Hp hw;have n_:=ak6 (sr5 hw Af A0) (show Kd.R (Kd.int .u8) 5 Hp w.heap.size (fun k_=>some k_≠(.slice Ap A4.length Am:Value).ownBlock∧some k_≠(.slice Ap A4.length Am:Value).ownBlock) B4 Ao by rw [hw];exact (by refine kr ?_;exact Kd.R_mono (rf5 Ae (.int .i64 0) (.int .i64 0) (.int .i64 0) (.int .i64 0) (.slice none 0 0) (Kd.R_types Aa.o A0.o (by decide)) (fun _ hk=>hk.2)) (fun _ hk=>⟨hk.1.1,hk.1.2⟩))) (sr5 hw A2 A0) (sc5 hw A0) (sf5 hw A3 Ab) (sb hw (bq2 HB.o A6.o A8.o));clear hw Af Aa A2 A0 A3 HB;obtain ⟨Af,Aa,A2,A0,A3,HB⟩:=n_))
     refine bodyPost_ret (bP rfl _ _ Ae 58 #[.int .i64 0,.int .i64 0,.int .i64 0,.int .i64 0,.slice none 0 0] (0,0) _ rfl (zq A0.o) Try.underlying58 rfl (by kernel_rfl)) rfl ?_
     exact ⟨_,rq,by first|exact Kd.S_nil _ _ _ _ _|exact Kd.N_nil _ _ _ _ _|exact Kd.V_nil _ _ _ _ _|exact Kd.Q_nil _ _ _ _ _|exact Kd.R_nil _ _ _ _ _,bq2 HB.o A6.o A8.o⟩
   replace H:=nq H
   obtain ⟨G5,H⟩:=H
   have Gs:=eq_true G5
   have Gt:decide (0≤A7)=true:=j7 G5
   clear G5
   replace H:=nq H
   obtain ⟨G6,H⟩:=H
   have Gu:=eq_true G6
   have Gv:decide (A7≤(A4.length:Int))=true:=j7 G6
   clear G6
   generalize Bx:((A4.drop (A7:Int).toNat):List Int)=An at H
   have B2:=am Bx.symm
   clear Bx
   replace H:=be H
   obtain ⟨⟨Ah,Al,Aq,At,Ax,Cf⟩,Gw,H⟩:=H
   try dsimp only at H
   cases Cf
   · replace H:=iF H
     simp only [j3,j4] at H
     obtain ⟨rfl,rfl,rfl,rfl,rfl,rfl⟩:=H
     have Gx:=dK (P:=Try.prog) Try.underlying22 Try.underlying5 Try.underlying9 (Kd.own_of_R Aa.o)
     have Gy:=Ab.o
     have Gz:=Ad.o
     obtain ⟨Dn,Do,Dp,Dq,Dr,Ds⟩:=cl3 A3.o
     have G7:(A7:Int)≤((A4.length:Int):Int):=oda
     obtain ⟨Hq,By,_,Bz,_⟩:=info_parts eF
     have Av:A4.length≤Am:=(Kd.R_reads' Af.o).2.1
     have Cg:Kd.C (Kd.int .u8) _ Ap A4.length A4:=(Kd.R_reads' Af.o).2.2
     have G8:(0:Int)≤(A7:Int):=oda
     have C2:=fZ (P:=Try.prog) 22 5 .i64 Try.underlying22 By 1 Bz Ap A4.length Am A7 G8 G7
     have B7:=Kd.C_drop (m:=(A7:Int).toNat) (c:=Am) Cg (by omega) Av
     obtain ⟨Hr,Bm⟩:∃A1,A1=(if Am=(A7:Int).toNat then Ap else (Ap:Option Addr).map (·.add ((A7:Int).toNat*1))):=⟨_,rfl⟩
     obtain ⟨Hs,C3⟩:∃c1,c1=Am - (A7:Int).toNat:=⟨_,rfl⟩
     have Bn:An.length=A4.length - (A7:Int).toNat:=(by rw [B2.o,List.length_drop]<;>omega)
     rw [show (A4).drop (A7:Int).toNat=An from B2.o.symm] at B7
     replace B7:Kd.C (Kd.int .u8) _ Hr An.length An:=(by rw [Bm];exact B7)
     rw [← Bn,← Bm,← C3] at C2
     have Ac:=am B7
     have B8:=am (show An.length≤Hs from by rw [Bn,C3];exact Nat.sub_le_sub_right Av _)
     clear B7 Cg Av By Bz C3
     have Ht:=am Bn
     have Hu:=am Bm
     clear Bn Bm
     have Hv:=am (show (A7:Int).toNat≤A4.length from by omega)
     replace G7:=eq_true G7
     go_wp2_with (first|((with_reducible refine aD (f:=57) rfl ?_);refine gc (some 63) (aT.calls G4 _ _ An Ah Al Aq At Ax false _ (by repeat (first|exact (by repeat (first|(with_reducible exact Ac.o)|(with_reducible refine Kd.C_alloc ?_ _)|(with_reducible refine Kd.C_drewN ?_ _)|(with_reducible refine Kd.C_drew ?_)|exact Ac.o))|(with_reducible refine Kd.C_alloc ?_ _)|(with_reducible refine Kd.C_drewN ?_ _)|(with_reducible refine Kd.C_drew ?_))) B8.o Gw.o) Try.func57 ?_;rintro e Id ⟨G9,rfl,B5,hb⟩;refine ⟨_,rfl,?_⟩;have n_:=ak8 (rb Af hb) (rb Aa hb) (rb A2 hb) (Kd.S_lower B5 (aX (bq2 HB.o A6.o A8.o))) (kb A0 hb) (kb A3 hb) (Kd.C_below (by repeat (first|(with_reducible exact Ac.o)|(with_reducible refine Kd.C_alloc ?_ _)|(with_reducible refine Kd.C_drewN ?_ _)|(with_reducible refine Kd.C_drew ?_)|exact Ac.o)) hb) (aA (bq2 HB.o A6.o A8.o) hb);clear Af Aa A2 A0 A3 Ac HB;obtain ⟨Af,Aa,A2,Ag,A0,A3,Ac,HB⟩:=n_;(try clear hb B5))|((with_reducible refine aM (N:=13) rfl ?_);(try (refine aV (by rfl) ?_;dsimp only));refine bxe 13 #[.int .i64 0,.int .i64 0,.int .i64 0,.int .i64 0,.slice none 0 0] 58 ?_;intro Au hg Ie hbox hb;have Ch:=am (rb Af hb);have Ci:=am (rb Aa hb);have Cj:=am (rb A2 hb);have Ck:=am (Kd.S_below (kqS Ag.o) hb);have Cl:=am (kb A0 hb);have Cm:=am (kb A3 hb);have Cn:=am (Kd.C_below (by repeat (first|(with_reducible exact Ac.o)|(with_reducible refine Kd.C_alloc ?_ _)|(with_reducible refine Kd.C_drewN ?_ _)|(with_reducible refine Kd.C_drew ?_)|exact Ac.o)) hb);have Co:=am (aA (bq2 HB.o A6.o A8.o) hb);have Cp:=am (hbox);have Cq:=am (bz hg (bq2 HB.o A6.o A8.o));have B9:=am (bz hg (bq2 HB.o A6.o A8.o));have Ba:=am (nL hg A0);have Bb:=am (nG hg A0);have Bc:=am (nL hg A3);have Bd:=am (nG hg A3);clear Af;clear Aa;clear A2;clear Ag;clear A0;clear A3;clear Ac;clear HB;have Af:=Ch;have Aa:=Ci;have A2:=Cj;have Ag:=Ck;have A0:=Cl;have A3:=Cm;have Ac:=Cn;have HB:=Co;have B3:=Cp;have Cr:=Cq;have Be:=B9;have A5:=Ba;have Ai:=Bb;have Aj:=Bc;have Ak:=Bd;clear Ch Ci Cj Ck Cl Cm Cn Co Cp Cq B9 Ba Bb Bc Bd;clear hb hbox hg;have H0:=Ai.o;have H1:=A5.o;have H2:=Ak.o;have H3:=Aj.o;obtain ⟨Dt,Du,Dv,Dw,Dx,Dy,Dz,E0,E1,E2⟩:=cl5 B3.o;obtain ⟨Hw,Hx,Ga⟩:=Kd.S_slice Ag.o;subst Ga;obtain ⟨E3,E4,E5,E6,E7,E8,E9,Ea,Eb,Ec⟩:=cl5 A0.o))
     refine bodyPost_ret (bP rfl _ _ Ae 58 #[.int .i64 0,.int .i64 0,.int .i64 0,.int .i64 0,.slice none 0 0] (0,0) _ rfl (by refine zr ?_;refine aW (cs:=#[.int .i64 0,.int .i64 0,.int .i64 0,.int .i64 0,.slice none 0 0]) ?_ 4 _ rfl;refine zr ?_;refine aW (cs:=#[.int .i64 0,.int .i64 0,.int .i64 0,.int .i64 0,.slice none 0 0]) ?_ 3 _ rfl;refine zr ?_;refine aW (cs:=#[.int .i64 0,.int .i64 0,.int .i64 0,.int .i64 0,.slice none 0 0]) ?_ 2 _ rfl;refine zr ?_;refine aW (cs:=#[.int .i64 0,.int .i64 0,.int .i64 0,.int .i64 0,.slice none 0 0]) ?_ 1 _ rfl;refine zr ?_;refine aW (cs:=#[.int .i64 0,.int .i64 0,.int .i64 0,.int .i64 0,.slice none 0 0]) ?_ 0 _ rfl;refine zr ?_;refine aK ?_ A5.o _;refine zr ?_;refine aK ?_ A5.o _;refine zr ?_;refine aK ?_ A5.o _;refine zr ?_;refine aK ?_ A5.o _;refine zr ?_;refine aK ?_ A5.o _;refine zr ?_;exact A0.o) Try.underlying58 rfl (by kernel_rfl)) rfl ?_
     exact ⟨_,rq,by first|exact Kd.S_nil _ _ _ _ _|exact Kd.N_nil _ _ _ _ _|exact Kd.V_nil _ _ _ _ _|exact Kd.Q_nil _ _ _ _ _|exact Kd.R_nil _ _ _ _ _,bq3 HB.o A6.o A8.o Be.o⟩
   replace H:=iT H
   simp only [j3,j4] at H
   obtain ⟨rfl,rfl,rfl,rfl,rfl,rfl⟩:=H
   have H4:=dK (P:=Try.prog) Try.underlying22 Try.underlying5 Try.underlying9 (Kd.own_of_R Aa.o)
   have H5:=Ab.o
   have H6:=Ad.o
   obtain ⟨Ed,Ee,Ef,Eg,Eh,Ei⟩:=cl3 A3.o
   have Gb:(A7:Int)≤((A4.length:Int):Int):=oda
   obtain ⟨Hy,C0,_,C1,_⟩:=info_parts eF
   have Aw:A4.length≤Am:=(Kd.R_reads' Af.o).2.1
   have Cs:Kd.C (Kd.int .u8) _ Ap A4.length A4:=(Kd.R_reads' Af.o).2.2
   have Gc:(0:Int)≤(A7:Int):=oda
   have C4:=fZ (P:=Try.prog) 22 5 .i64 Try.underlying22 C0 1 C1 Ap A4.length Am A7 Gc Gb
   have Bf:=Kd.C_drop (m:=(A7:Int).toNat) (c:=Am) Cs (by omega) Aw
   obtain ⟨Hz,Bo⟩:∃A1,A1=(if Am=(A7:Int).toNat then Ap else (Ap:Option Addr).map (·.add ((A7:Int).toNat*1))):=⟨_,rfl⟩
   obtain ⟨I0,C5⟩:∃c1,c1=Am - (A7:Int).toNat:=⟨_,rfl⟩
   have Bp:An.length=A4.length - (A7:Int).toNat:=(by rw [B2.o,List.length_drop]<;>omega)
   rw [show (A4).drop (A7:Int).toNat=An from B2.o.symm] at Bf
   replace Bf:Kd.C (Kd.int .u8) _ Hz An.length An:=(by rw [Bo];exact Bf)
   rw [← Bp,← Bo,← C5] at C4
   have Ac:=am Bf
   have B8:=am (show An.length≤I0 from by rw [Bp,C5];exact Nat.sub_le_sub_right Aw _)
   clear Bf Cs Aw C0 C1 C5
   have I1:=am Bp
   have I2:=am Bo
   clear Bp Bo
   have I3:=am (show (A7:Int).toNat≤A4.length from by omega)
   replace Gb:=eq_true Gb
   go_wp2_with (first|((with_reducible refine aD (f:=57) rfl ?_);refine gc (some 63) (aT.calls G4 _ _ An Ah Al Aq At Ax true _ (by repeat (first|exact (by repeat (first|(with_reducible exact Ac.o)|(with_reducible refine Kd.C_alloc ?_ _)|(with_reducible refine Kd.C_drewN ?_ _)|(with_reducible refine Kd.C_drew ?_)|exact Ac.o))|(with_reducible refine Kd.C_alloc ?_ _)|(with_reducible refine Kd.C_drewN ?_ _)|(with_reducible refine Kd.C_drew ?_))) B8.o Gw.o) Try.func57 ?_;rintro e If ⟨G9,rfl,B5,hb⟩;refine ⟨_,rfl,?_⟩;have n_:=ak8 (rb Af hb) (rb Aa hb) (rb A2 hb) (Kd.S_lower B5 (aX (bq2 HB.o A6.o A8.o))) (kb A0 hb) (kb A3 hb) (Kd.C_below (by repeat (first|(with_reducible exact Ac.o)|(with_reducible refine Kd.C_alloc ?_ _)|(with_reducible refine Kd.C_drewN ?_ _)|(with_reducible refine Kd.C_drew ?_)|exact Ac.o)) hb) (aA (bq2 HB.o A6.o A8.o) hb);clear Af Aa A2 A0 A3 Ac HB;obtain ⟨Af,Aa,A2,Ag,A0,A3,Ac,HB⟩:=n_;(try clear hb B5))|((with_reducible refine aM (N:=13) rfl ?_);(try (refine aV (by rfl) ?_;dsimp only));refine bxe 13 #[.int .i64 0,.int .i64 0,.int .i64 0,.int .i64 0,.slice none 0 0] 58 ?_;intro Au hg Ig hbox hb;have Ch:=am (rb Af hb);have Ci:=am (rb Aa hb);have Cj:=am (rb A2 hb);have Ck:=am (Kd.S_below (kqS Ag.o) hb);have Cl:=am (kb A0 hb);have Cm:=am (kb A3 hb);have Cn:=am (Kd.C_below (by repeat (first|(with_reducible exact Ac.o)|(with_reducible refine Kd.C_alloc ?_ _)|(with_reducible refine Kd.C_drewN ?_ _)|(with_reducible refine Kd.C_drew ?_)|exact Ac.o)) hb);have Co:=am (aA (bq2 HB.o A6.o A8.o) hb);have Cp:=am (hbox);have Cq:=am (bz hg (bq2 HB.o A6.o A8.o));have B9:=am (bz hg (bq2 HB.o A6.o A8.o));have Ba:=am (nL hg A0);have Bb:=am (nG hg A0);have Bc:=am (nL hg A3);have Bd:=am (nG hg A3);clear Af;clear Aa;clear A2;clear Ag;clear A0;clear A3;clear Ac;clear HB;have Af:=Ch;have Aa:=Ci;have A2:=Cj;have Ag:=Ck;have A0:=Cl;have A3:=Cm;have Ac:=Cn;have HB:=Co;have B3:=Cp;have Cr:=Cq;have Be:=B9;have A5:=Ba;have Ai:=Bb;have Aj:=Bc;have Ak:=Bd;clear Ch Ci Cj Ck Cl Cm Cn Co Cp Cq B9 Ba Bb Bc Bd;clear hb hbox hg;have H7:=Ai.o;have H8:=A5.o;have H9:=Ak.o;have Ha:=Aj.o;obtain ⟨Ej,Ek,El,Em,En,Eo,Ep,Eq,Er,Es⟩:=cl5 B3.o;obtain ⟨C6,C7,Gd⟩:=Kd.S_slice Ag.o;subst Gd;obtain ⟨Et,Eu,Ev,Ew,Ex,Ey,Ez,G0,G1,G2⟩:=cl5 A0.o))
   refine bodyPost_ret (bP rfl _ _ Ae 58 #[.int .i64 Ah,.int .i64 Al,.int .i64 Aq,.int .i64 At,.slice C6 Ax.length C7] (0,0) _ rfl (by refine zr ?_;refine aW (cs:=#[.int .i64 Ah,.int .i64 Al,.int .i64 Aq,.int .i64 At,.slice none 0 0]) ?_ 4 _ rfl;refine zr ?_;refine aW (cs:=#[.int .i64 Ah,.int .i64 Al,.int .i64 Aq,.int .i64 0,.slice none 0 0]) ?_ 3 _ rfl;refine zr ?_;refine aW (cs:=#[.int .i64 Ah,.int .i64 Al,.int .i64 0,.int .i64 0,.slice none 0 0]) ?_ 2 _ rfl;refine zr ?_;refine aW (cs:=#[.int .i64 Ah,.int .i64 0,.int .i64 0,.int .i64 0,.slice none 0 0]) ?_ 1 _ rfl;refine zr ?_;refine aW (cs:=#[.int .i64 0,.int .i64 0,.int .i64 0,.int .i64 0,.slice none 0 0]) ?_ 0 _ rfl;refine zr ?_;refine aK ?_ A5.o _;refine zr ?_;refine aK ?_ A5.o _;refine zr ?_;refine aK ?_ A5.o _;refine zr ?_;refine aK ?_ A5.o _;refine zr ?_;refine aK ?_ A5.o _;refine zr ?_;exact A0.o) Try.underlying58 rfl (by kernel_rfl)) rfl ?_
   exact ⟨_,rq,by (with_reducible repeat (first|apply Kd.S_alloc|apply Kd.S_drewN|apply Kd.S_drew));exact Kd.S_mono (Kd.S_far (p:=⟨Ae,4,none⟩) (Kd.S_far (p:=⟨Ae,3,none⟩) (Kd.S_far (p:=⟨Ae,2,none⟩) (Kd.S_far (p:=⟨Ae,1,none⟩) (Kd.S_far (p:=⟨Ae,0,none⟩) (Kd.S_far (p:=⟨Au,4,none⟩) (Kd.S_far (p:=⟨Au,3,none⟩) (Kd.S_far (p:=⟨Au,2,none⟩) (Kd.S_far (p:=⟨Au,1,none⟩) (Kd.S_far (p:=⟨Au,0,none⟩) (Kd.S_types (Kd.S_types Ag.o B3.o (by decide)) A0.o (by decide)) (fun _ hk=>hk.1.2) (.int .i64 Ah)) (fun _ hk=>hk.1.2) (.int .i64 Al)) (fun _ hk=>hk.1.2) (.int .i64 Aq)) (fun _ hk=>hk.1.2) (.int .i64 At)) (fun _ hk=>hk.1.2) (.slice C6 Ax.length C7)) (fun _ hk=>hk.2) (.int .i64 Ah)) (fun _ hk=>hk.2) (.int .i64 Al)) (fun _ hk=>hk.2) (.int .i64 Aq)) (fun _ hk=>hk.2) (.int .i64 At)) (fun _ hk=>hk.2) (.slice C6 Ax.length C7)) (fun _ hk=>trivial),bq3 HB.o A6.o A8.o Be.o⟩
end Go.Proofs.Ythhnfmbfgplelaa.XFnExactGetMsg
