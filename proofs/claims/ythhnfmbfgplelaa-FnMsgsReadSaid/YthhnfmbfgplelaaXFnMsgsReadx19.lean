/- The functions that one law reaches, as Lean functions, with their walks: printed by a program of this seat (wip/tools) out of the translation. -/
import Derived.Test.YthhnfmbfgplelaaXFnMsgsReadx0
import Derived.Test.YthhnfmbfgplelaaXFnMsgsReadx12
import Derived.Test.YthhnfmbfgplelaaXFnMsgsReadx13
import Derived.Test.YthhnfmbfgplelaaXFnMsgsReadx14
import Derived.Test.YthhnfmbfgplelaaXFnMsgsReadx15
import Derived.Test.YthhnfmbfgplelaaXFnMsgsReadx16
import Derived.Test.YthhnfmbfgplelaaXFnMsgsReadx18
namespace Go.Proofs.Ythhnfmbfgplelaa.XFnMsgsRead
open Go.RowKit Go.Proofs.YthhnfmbfgplelaaW.PrintWords Go.Proofs.YthhnfmbfgplelaaW.PrintLast Go.Proofs.YthhnfmbfgplelaaW.PrintMore
attribute [local go_sem] cL cM dC dD cB cC cN cO
set_option linter.unusedVariables false
set_option linter.unusedSimpArgs false
set_option maxHeartbeats 8000000
set_option maxRecDepth 100000
def dF.j0:Nat→ByteArray→List Int→Int→List Int→Bool→List Int→Int→Bool→Option (Int × Int × Int × Int × (List (S116)) × Int)
 |0,_,_,_,_,_,_,_,_=>none
 |k+1,x0,x7,A4,A5,A6,A2,A1,A3=>if A6=true then (some (0,0,0,0,([]:List (S116)),1)) else (if A4=1 then (if (strOfNums A5).toList=x0.toList then (if 0≤A1 then (if A1≤(x7.length:Int) then ((aX.f k (x7.drop (A1:Int).toNat)).bind fun A0=>(if A0.2.2.2.2.2=true then (some (A0.1,A0.2.1,A0.2.2.1,A0.2.2.2.1,A0.2.2.2.2.1,0)) else (some (0,0,0,0,([]:List (S116)),1)))) else (none)) else (none)) else (some (0,0,0,0,([]:List (S116)),3))) else (some (0,0,0,0,([]:List (S116)),2)))
def dF.f (k:Nat) (a0:ByteArray) (l1:List Int):Option (Int × Int × Int × Int × (List (S116)) × Int):=(bB.f k l1 0).bind fun A0=>((d6.f k A0.2.1 0 false).bind fun A2=>((bH.f k A0.2.1 A2.2.1 A2.2.2 4).bind fun A1=>(if A0.2.2.2=true then (if A0.1=48 then (if A0.2.2.1=(l1.length:Int) then (dF.j0 k a0 A0.2.1 A2.1 A1.1 A1.2.2 A0.2.1 A1.2.1 A1.2.2) else (dF.j0 k a0 A0.2.1 A2.1 A1.1 true A0.2.1 A1.2.1 A1.2.2)) else (dF.j0 k a0 A0.2.1 A2.1 A1.1 true A0.2.1 A1.2.1 A1.2.2)) else (dF.j0 k a0 A0.2.1 A2.1 A1.1 true A0.2.1 A1.2.1 A1.2.2))))
theorem dF.calls (k:Nat) (a0:ByteArray) (A1:Option Addr) (c1:Nat) (l1:List Int) (r1:Int) (r2:Int) (r3:Int) (r4:Int) (r5:List (S116)) (r6:Int) (w:World) (Ge:Kd.C (Kd.int .u8) w A1 l1.length l1) (Gf:l1.length≤c1) (h:dF.f k a0 l1=some (r1,r2,r3,r4,r5,r6)):
 Calls Try.prog 60 #[.string a0,.slice A1 l1.length c1] w fun e w'=>∃Gg:Value,e=.returned (.tuple #[.agg #[.int .i64 r1,.int .i64 r2,.int .i64 r3,.int .i64 r4,Gg],.int .i64 r6])∧Kd.S dV 116 w' w.heap.size (fun _=>True) Gg r5∧Below w.heap.size w w':=by
 have Hb:=Try.underlying58
 have Hc:=Try.underlying99
 have Hd:=am Ge
 have He:=am Gf
 clear Ge Gf
 have HB:=am (Below.refl w.heap.size w)
 have H:=h
 clear h
 unfold dF.f at H
 replace H:=be H
 obtain ⟨⟨C8,A4,C9,Bq⟩,Hf,H⟩:=H
 try dsimp only at H
 replace H:=be H
 obtain ⟨⟨B6,Br,Bs⟩,Hg,H⟩:=H
 try dsimp only at H
 replace H:=be H
 obtain ⟨⟨Ao,A7,Ay⟩,Hh,H⟩:=H
 try dsimp only at H
 have G3:=am H
 clear H
 go_enter Try.func60,Try.ntmps60
 go_upto_region 5 with (first|((with_reducible refine aI (N:=4) rfl ?_);(try (refine aQ (by rfl) ?_;dsimp only));refine bxe 4 #[.int .i64 0,.int .i64 0,.int .i64 0,.int .i64 0,.slice none 0 0] 58 ?_;intro Ae hg w7 hbox hb;have n_:=ak4 (aC (bq HB.o) hb) hbox (bz hg (bq HB.o)) (bz hg (bq HB.o));clear HB;obtain ⟨HB,A0,Gh,A6⟩:=n_;clear hb hbox hg)|((with_reducible refine aE (f:=84) rfl ?_);refine gc (some 17) (bB.calls k _ _ l1 0 C8 A4 C9 Bq _ (cq (Kd.C_below Hd.o HB.o)) He.o Hf.o) Try.func84 ?_;rintro e w8 ⟨Hi,rfl,B5,hb⟩;refine ⟨_,rfl,?_⟩;have n_:=ak3 (rl B5 (bq1 HB.o A6.o)) (kb A0 hb) (aC (bq1 HB.o A6.o) hb);clear A0 HB;obtain ⟨A9,A0,HB⟩:=n_;(try clear hb B5);obtain ⟨Ap,Am,Hj⟩:=Kd.R_slice A9.o;subst Hj)|((with_reducible refine aI (N:=24) rfl ?_);(try (refine aQ (by rfl) ?_;dsimp only));refine bxe 24 #[.slice Ap A4.length Am,.int .i64 0,.bool false] 99 ?_;intro Az hg I4 hbox hb;have n_:=ak9 (rb A9 hb) (kb A0 hb) (aC (bq1 HB.o A6.o) hb) hbox (bz hg (bq1 HB.o A6.o)) (bz hg (bq1 HB.o A6.o)) ((by rw [hg];exact Kd.R_lt (kqR A9.o):∀i_:Nat,(.slice Ap A4.length Am:Value).ownBlock=some i_→i_<Az)) (nL hg A0) (nG hg A0);clear A9 A0 HB;obtain ⟨A9,A0,HB,A3,Gi,A8,Bt,Ad,Ab⟩:=n_;clear hb hbox hg)|((with_reducible refine aE (f:=117) rfl ?_);refine gc (some 26) (d6.box k Az A4 0 false B6 Br Bs _ Ap Am (by refine zr ?_;exact A3.o) (fI (kqR A9.o) Bt.o) ((Kd.R_reads' A9.o).2.1) Hg.o) Try.func117 ?_;rintro e I5 ⟨rfl,hi,hq⟩;refine ⟨_,rfl,?_⟩;have hk:=hq.kb;have n_:=ak4 (KeepBut.blk hk (zb A0.o) Ad.o (by simp)) (Kd.R_mono (Kd.R_keep (Kd.R_types (kqR A9.o) (zq A3.o) (by decide)) hk (fun _ h=>h.2)) (fun _ h=>h.1)) (Kq.bel hq (bq2 HB.o A6.o A8.o) A8.o) hi;clear A0 A9 HB A3;obtain ⟨A0,A9,HB,A3⟩:=n_;(try clear hi hq))|((with_reducible refine aE (f:=85) rfl ?_);refine gc (some 28) (bH.box k Az A4 Br Bs 4 Ao A7 Ay _ Ap Am (by refine zr ?_;exact A3.o) (fI (kqR A9.o) Bt.o) ((Kd.R_reads' A9.o).2.1) Hh.o) Try.func85 ?_;rintro e I6 ⟨B4,rfl,B5,hi,hq⟩;refine ⟨_,rfl,?_⟩;have hk:=hq.kb;have n_:=ak5 (KeepBut.blk hk (zb A0.o) Ad.o (by simp)) (Kd.R_mono (Kd.R_told (Kd.R_oldK (Kd.R_types (kqR A9.o) (zq A3.o) (by decide)) hk) (Kd.R_base B5)) (fun _ h_=>h_.1)) (rn_ B5 A9 (bq2 HB.o A6.o A8.o)) (Kq.bel hq (bq2 HB.o A6.o A8.o) A8.o) hi;clear A0 A9 HB A3;obtain ⟨A0,A9,B0,HB,A3⟩:=n_;(try clear hi hq B5)))
 (try simp only [Act.put,lT,lU,lV])
 go_cut [46] (fun Hk wc=>∃(kq:Nat) (B1:Bool),Hk=.bool B1∧Aside0 (dF.j0 kq a0 A4 B6 Ao B1 A4 A7 Ay=some (r1,r2,r3,r4,r5,r6))∧Aside0 (kq≤k)∧Aside0 (Kd.R (Kd.int .u8) 5 wc w.heap.size (fun k_=>some k_≠(B4:Value).ownBlock) (.slice Ap A4.length Am) A4)∧Aside0 (Kd.R (Kd.int .u8) 5 wc w.heap.size (fun k_=>some k_≠((.slice Ap A4.length Am):Value).ownBlock∧some k_≠((.slice Ap A4.length Am):Value).ownBlock) B4 Ao)∧Aside0 (Kd.R (Kd.int .u8) 5 wc w.heap.size (fun k_=>some k_≠(B4:Value).ownBlock) (.slice Ap A4.length Am) A4)∧Aside0 (wc.heap[Ae]? =some (.cells #[.int .i64 0,.int .i64 0,.int .i64 0,.int .i64 0,(.slice none 0 0)] 58 (0,0)))∧Aside0 (wc.heap[Az]? =some (.cells #[(.slice Ap A4.length Am),.int .i64 A7,.bool Ay] 99 (0,0)))∧Aside0 (Below w.heap.size w wc))
 case first=>
  have H:=G3.o
  clear G3
  cases Bq
  · replace H:=iF H
    have H':=am H
    clear H
    go_wp2
    go_meet
    case rel=>exact ⟨_,(true),sq,H',⟨by first|omega|exact lZ _⟩,⟨by refine kr ?_;exact Kd.R_mono A9.o (fun _ hk=>hk.2)⟩,⟨by refine kr ?_;exact Kd.R_mono B0.o (fun _ hk=>⟨hk.2,hk.2⟩)⟩,⟨by refine kr ?_;exact Kd.R_mono A9.o (fun _ hk=>hk.2)⟩,⟨zq A0.o⟩,⟨zq A3.o⟩,⟨bq2 HB.o A6.o A8.o⟩⟩
  replace H:=iT H
  replace H:=iq' H
  rcases H with ⟨Hl,Ar,Bu,H⟩|⟨-,Ar,Bu,H⟩
  · (first|rw [Ar]|(simp only [aK,aU];rw [Ar])|skip)
    have H':=am H
    clear H
    go_wp2
    go_meet
    case rel=>exact ⟨_,(true),sq,H',⟨by first|omega|exact lZ _⟩,⟨by refine kr ?_;exact Kd.R_mono A9.o (fun _ hk=>hk.2)⟩,⟨by refine kr ?_;exact Kd.R_mono B0.o (fun _ hk=>⟨hk.2,hk.2⟩)⟩,⟨by refine kr ?_;exact Kd.R_mono A9.o (fun _ hk=>hk.2)⟩,⟨zq A0.o⟩,⟨zq A3.o⟩,⟨bq2 HB.o A6.o A8.o⟩⟩
  (first|rw [Ar]|(simp only [aK,aU];rw [Ar])|skip)
  replace H:=iq' H
  rcases H with ⟨Hm,Bv,Bw,H⟩|⟨-,Bv,Bw,H⟩
  · have H':=am H
    clear H
    go_wp2
    go_meet
    case rel=>exact ⟨_,(true),sq,H',⟨by first|omega|exact lZ _⟩,⟨by refine kr ?_;exact Kd.R_mono A9.o (fun _ hk=>hk.2)⟩,⟨by refine kr ?_;exact Kd.R_mono B0.o (fun _ hk=>⟨hk.2,hk.2⟩)⟩,⟨by refine kr ?_;exact Kd.R_mono A9.o (fun _ hk=>hk.2)⟩,⟨zq A0.o⟩,⟨zq A3.o⟩,⟨bq2 HB.o A6.o A8.o⟩⟩
  have H':=am H
  clear H
  have Gj:=Ab.o
  have Gk:=Ad.o
  obtain ⟨Bg,Bh,Bi,Bj,Bk,Bl⟩:=cl3 A3.o
  go_wp2
  go_meet
  case rel=>exact ⟨_,(Ay),sq,H',⟨by first|omega|exact lZ _⟩,⟨by refine kr ?_;exact Kd.R_mono A9.o (fun _ hk=>hk.2)⟩,⟨by refine kr ?_;exact Kd.R_mono B0.o (fun _ hk=>⟨hk.2,hk.2⟩)⟩,⟨by refine kr ?_;exact Kd.R_mono A9.o (fun _ hk=>hk.2)⟩,⟨zq A0.o⟩,⟨zq A3.o⟩,⟨bq2 HB.o A6.o A8.o⟩⟩
 case rest=>
  clear G3
  try clear c1
  try clear p2
  try clear c6
  try clear c8
  try clear I7
  try clear I8
  try clear Hl
  try clear Ar
  try clear Bu
  try clear Hm
  try clear Bv
  try clear Bw
  try clear I9
  try clear Bg
  try clear Bh
  try clear Bi
  try clear Bj
  try clear Bk
  try clear Bl
  obtain ⟨kq,B1,rfl,HA,Ia,Af,Aa,A2,A0,A3,HB⟩:=hcut
  cases kq with
  |zero=>exact absurd HA.o (by simp [dF.j0])
  |succ G4=>
   have H:=HA.o
   clear HA
   simp only [dF.j0] at H
   rcases Decidable.em (B1=true) with Ca|Ca
   · subst Ca
     replace H:(some (0,0,0,0,([]:List (S116)),1))=some (r1,r2,r3,r4,r5,r6):=by rw [if_pos rfl] at H;exact H
     simp only [lW,lX] at H
     obtain ⟨rfl,rfl,rfl,rfl,rfl,rfl⟩:=H
     have Gl:=Ad.o
     have Gm:=Ab.o
     obtain ⟨Ct,Cu,Cv,Cw,Cx,Cy,Cz,D0,D1,D2⟩:=cl5 A0.o
     go_wp2_with (first|((with_reducible refine aJ (t:=58) (p:=4) rfl ?_);refine se 58 4 (s5 wc Ae (.int .i64 0) (.int .i64 0) (.int .i64 0) (.int .i64 0) (.slice none 0 0)) ?_;intro Hn hw;have n_:=ak6 (sr5 hw Af A0) (show Kd.R (Kd.int .u8) 5 Hn w.heap.size (fun k_=>some k_≠(.slice Ap A4.length Am:Value).ownBlock∧some k_≠(.slice Ap A4.length Am:Value).ownBlock) B4 Ao by rw [hw];exact (by refine kr ?_;exact Kd.R_mono (rf5 Ae (.int .i64 0) (.int .i64 0) (.int .i64 0) (.int .i64 0) (.slice none 0 0) (Kd.R_types Aa.o A0.o (by decide)) (fun _ hk=>hk.2)) (fun _ hk=>⟨hk.1.1,hk.1.2⟩))) (sr5 hw A2 A0) (sc5 hw A0) (sf5 hw A3 Ab) (sb hw (bq2 HB.o A6.o A8.o));clear hw Af Aa A2 A0 A3 HB;obtain ⟨Af,Aa,A2,A0,A3,HB⟩:=n_))
     refine bodyPost_ret (bZ rfl _ _ Ae 58 #[.int .i64 0,.int .i64 0,.int .i64 0,.int .i64 0,.slice none 0 0] (0,0) _ rfl (zq A0.o) Try.underlying58 rfl (by kernel_rfl)) rfl ?_
     exact ⟨_,rq,by first|exact Kd.S_nil _ _ _ _ _|exact Kd.N_nil _ _ _ _ _|exact Kd.V_nil _ _ _ _ _|exact Kd.Q_nil _ _ _ _ _|exact Kd.R_nil _ _ _ _ _,bq2 HB.o A6.o A8.o⟩
   replace Ca:=Bool.eq_false_iff.mpr Ca
   subst Ca
   replace H:(if B6=1 then (if (strOfNums Ao).toList=a0.toList then (if 0≤A7 then (if A7≤(A4.length:Int) then ((aX.f G4 (A4.drop (A7:Int).toNat)).bind fun As=>(if As.2.2.2.2.2=true then (some (As.1,As.2.1,As.2.2.1,As.2.2.2.1,As.2.2.2.2.1,0)) else (some (0,0,0,0,([]:List (S116)),1)))) else (none)) else (none)) else (some (0,0,0,0,([]:List (S116)),3))) else (some (0,0,0,0,([]:List (S116)),2)))=some (r1,r2,r3,r4,r5,r6):=by rw [if_neg (show ¬(false=true) by decide)] at H;exact H
   replace H:=iq' H
   rcases H with ⟨Ib,Cb,Cc,H⟩|⟨-,Cb,Cc,H⟩
   · simp only [lW,lX] at H
     obtain ⟨rfl,rfl,rfl,rfl,rfl,rfl⟩:=H
     have Gn:=Ad.o
     have Go:=Ab.o
     obtain ⟨D3,D4,D5,D6,D7,D8,D9,Da,Db,Dc⟩:=cl5 A0.o
     go_wp2_with (first|((with_reducible refine aJ (t:=58) (p:=4) rfl ?_);refine se 58 4 (s5 wc Ae (.int .i64 0) (.int .i64 0) (.int .i64 0) (.int .i64 0) (.slice none 0 0)) ?_;intro Ho hw;have n_:=ak6 (sr5 hw Af A0) (show Kd.R (Kd.int .u8) 5 Ho w.heap.size (fun k_=>some k_≠(.slice Ap A4.length Am:Value).ownBlock∧some k_≠(.slice Ap A4.length Am:Value).ownBlock) B4 Ao by rw [hw];exact (by refine kr ?_;exact Kd.R_mono (rf5 Ae (.int .i64 0) (.int .i64 0) (.int .i64 0) (.int .i64 0) (.slice none 0 0) (Kd.R_types Aa.o A0.o (by decide)) (fun _ hk=>hk.2)) (fun _ hk=>⟨hk.1.1,hk.1.2⟩))) (sr5 hw A2 A0) (sc5 hw A0) (sf5 hw A3 Ab) (sb hw (bq2 HB.o A6.o A8.o));clear hw Af Aa A2 A0 A3 HB;obtain ⟨Af,Aa,A2,A0,A3,HB⟩:=n_))
     refine bodyPost_ret (bZ rfl _ _ Ae 58 #[.int .i64 0,.int .i64 0,.int .i64 0,.int .i64 0,.slice none 0 0] (0,0) _ rfl (zq A0.o) Try.underlying58 rfl (by kernel_rfl)) rfl ?_
     exact ⟨_,rq,by first|exact Kd.S_nil _ _ _ _ _|exact Kd.N_nil _ _ _ _ _|exact Kd.V_nil _ _ _ _ _|exact Kd.Q_nil _ _ _ _ _|exact Kd.R_nil _ _ _ _ _,bq2 HB.o A6.o A8.o⟩
   replace H:=iq' H
   rcases H with ⟨Ic,Cd,Ce,H⟩|⟨-,Cd,Ce,H⟩
   · simp only [lW,lX] at H
     obtain ⟨rfl,rfl,rfl,rfl,rfl,rfl⟩:=H
     have Gp:=dX (P:=Try.prog) Try.underlying22 Try.underlying5 Try.underlying9 (Kd.own_of_R Aa.o)
     have Gq:=Ad.o
     have Gr:=Ab.o
     obtain ⟨Dd,De,Df,Dg,Dh,Di,Dj,Dk,Dl,Dm⟩:=cl5 A0.o
     go_wp2_with (first|((with_reducible refine aJ (t:=58) (p:=4) rfl ?_);refine se 58 4 (s5 wc Ae (.int .i64 0) (.int .i64 0) (.int .i64 0) (.int .i64 0) (.slice none 0 0)) ?_;intro Hp hw;have n_:=ak6 (sr5 hw Af A0) (show Kd.R (Kd.int .u8) 5 Hp w.heap.size (fun k_=>some k_≠(.slice Ap A4.length Am:Value).ownBlock∧some k_≠(.slice Ap A4.length Am:Value).ownBlock) B4 Ao by rw [hw];exact (by refine kr ?_;exact Kd.R_mono (rf5 Ae (.int .i64 0) (.int .i64 0) (.int .i64 0) (.int .i64 0) (.slice none 0 0) (Kd.R_types Aa.o A0.o (by decide)) (fun _ hk=>hk.2)) (fun _ hk=>⟨hk.1.1,hk.1.2⟩))) (sr5 hw A2 A0) (sc5 hw A0) (sf5 hw A3 Ab) (sb hw (bq2 HB.o A6.o A8.o));clear hw Af Aa A2 A0 A3 HB;obtain ⟨Af,Aa,A2,A0,A3,HB⟩:=n_))
     refine bodyPost_ret (bZ rfl _ _ Ae 58 #[.int .i64 0,.int .i64 0,.int .i64 0,.int .i64 0,.slice none 0 0] (0,0) _ rfl (zq A0.o) Try.underlying58 rfl (by kernel_rfl)) rfl ?_
     exact ⟨_,rq,by first|exact Kd.S_nil _ _ _ _ _|exact Kd.N_nil _ _ _ _ _|exact Kd.V_nil _ _ _ _ _|exact Kd.Q_nil _ _ _ _ _|exact Kd.R_nil _ _ _ _ _,bq2 HB.o A6.o A8.o⟩
   replace H:=nq H
   obtain ⟨G5,H⟩:=H
   have Gs:=eq_true G5
   have Gt:decide (0≤A7)=true:=l5 G5
   clear G5
   replace H:=nq H
   obtain ⟨G6,H⟩:=H
   have Gu:=eq_true G6
   have Gv:decide (A7≤(A4.length:Int))=true:=l5 G6
   clear G6
   generalize Bx:((A4.drop (A7:Int).toNat):List Int)=An at H
   have B2:=am Bx.symm
   clear Bx
   replace H:=be H
   obtain ⟨⟨Ah,Al,Aq,At,Ax,Cf⟩,Gw,H⟩:=H
   try dsimp only at H
   cases Cf
   · replace H:=iF H
     simp only [lW,lX] at H
     obtain ⟨rfl,rfl,rfl,rfl,rfl,rfl⟩:=H
     have Gx:=dX (P:=Try.prog) Try.underlying22 Try.underlying5 Try.underlying9 (Kd.own_of_R Aa.o)
     have Gy:=Ab.o
     have Gz:=Ad.o
     obtain ⟨Dn,Do,Dp,Dq,Dr,Ds⟩:=cl3 A3.o
     have G7:(A7:Int)≤((A4.length:Int):Int):=oda
     obtain ⟨Hq,By,_,Bz,_⟩:=info_parts dS
     have Av:A4.length≤Am:=(Kd.R_reads' Af.o).2.1
     have Cg:Kd.C (Kd.int .u8) _ Ap A4.length A4:=(Kd.R_reads' Af.o).2.2
     have G8:(0:Int)≤(A7:Int):=oda
     have C2:=g7 (P:=Try.prog) 22 5 .i64 Try.underlying22 By 1 Bz Ap A4.length Am A7 G8 G7
     have B7:=Kd.C_drop (m:=(A7:Int).toNat) (c:=Am) Cg (by omega) Av
     obtain ⟨Hr,Bm⟩:∃A1,A1=(if Am=(A7:Int).toNat then Ap else (Ap:Option Addr).map (·.add ((A7:Int).toNat*1))):=⟨_,rfl⟩
     obtain ⟨Hs,C3⟩:∃c1,c1=Am - (A7:Int).toNat:=⟨_,rfl⟩
     have Bn:An.length=A4.length - (A7:Int).toNat:=(by rw [B2.o,List.length_drop]<;>omega)
     rw [show (A4).drop (A7:Int).toNat=An from B2.o.symm] at B7
     replace B7:Kd.C (Kd.int .u8) _ Hr An.length An:=(by rw [Bm];exact B7)
     rw [← Bn,← Bm,← C3] at C2
     have Ac:=am B7
     have B8:=am (show An.length≤Hs from by rw [Bn,C3];exact Nat.sub_le_sub_right Av _)
     clear B7 Cg Av By Bz C3
     have Ht:=am Bn
     have Hu:=am Bm
     clear Bn Bm
     have Hv:=am (show (A7:Int).toNat≤A4.length from by omega)
     replace G7:=eq_true G7
     go_wp2_with (first|((with_reducible refine aE (f:=57) rfl ?_);refine gc (some 63) (aX.calls G4 _ _ An Ah Al Aq At Ax false _ (by repeat (first|exact (by repeat (first|(with_reducible exact Ac.o)|(with_reducible refine Kd.C_alloc ?_ _)|(with_reducible refine Kd.C_drewN ?_ _)|(with_reducible refine Kd.C_drew ?_)|exact Ac.o))|(with_reducible refine Kd.C_alloc ?_ _)|(with_reducible refine Kd.C_drewN ?_ _)|(with_reducible refine Kd.C_drew ?_))) B8.o Gw.o) Try.func57 ?_;rintro e Id ⟨G9,rfl,B5,hb⟩;refine ⟨_,rfl,?_⟩;have n_:=ak8 (rb Af hb) (rb Aa hb) (rb A2 hb) (Kd.S_lower B5 (aH (bq2 HB.o A6.o A8.o))) (kb A0 hb) (kb A3 hb) (Kd.C_below (by repeat (first|(with_reducible exact Ac.o)|(with_reducible refine Kd.C_alloc ?_ _)|(with_reducible refine Kd.C_drewN ?_ _)|(with_reducible refine Kd.C_drew ?_)|exact Ac.o)) hb) (aC (bq2 HB.o A6.o A8.o) hb);clear Af Aa A2 A0 A3 Ac HB;obtain ⟨Af,Aa,A2,Ag,A0,A3,Ac,HB⟩:=n_;(try clear hb B5))|((with_reducible refine aI (N:=13) rfl ?_);(try (refine aQ (by rfl) ?_;dsimp only));refine bxe 13 #[.int .i64 0,.int .i64 0,.int .i64 0,.int .i64 0,.slice none 0 0] 58 ?_;intro Au hg Ie hbox hb;have Ch:=am (rb Af hb);have Ci:=am (rb Aa hb);have Cj:=am (rb A2 hb);have Ck:=am (Kd.S_below (kqS Ag.o) hb);have Cl:=am (kb A0 hb);have Cm:=am (kb A3 hb);have Cn:=am (Kd.C_below (by repeat (first|(with_reducible exact Ac.o)|(with_reducible refine Kd.C_alloc ?_ _)|(with_reducible refine Kd.C_drewN ?_ _)|(with_reducible refine Kd.C_drew ?_)|exact Ac.o)) hb);have Co:=am (aC (bq2 HB.o A6.o A8.o) hb);have Cp:=am (hbox);have Cq:=am (bz hg (bq2 HB.o A6.o A8.o));have B9:=am (bz hg (bq2 HB.o A6.o A8.o));have Ba:=am (nL hg A0);have Bb:=am (nG hg A0);have Bc:=am (nL hg A3);have Bd:=am (nG hg A3);clear Af;clear Aa;clear A2;clear Ag;clear A0;clear A3;clear Ac;clear HB;have Af:=Ch;have Aa:=Ci;have A2:=Cj;have Ag:=Ck;have A0:=Cl;have A3:=Cm;have Ac:=Cn;have HB:=Co;have B3:=Cp;have Cr:=Cq;have Be:=B9;have A5:=Ba;have Ai:=Bb;have Aj:=Bc;have Ak:=Bd;clear Ch Ci Cj Ck Cl Cm Cn Co Cp Cq B9 Ba Bb Bc Bd;clear hb hbox hg;have H0:=Ai.o;have H1:=A5.o;have H2:=Ak.o;have H3:=Aj.o;obtain ⟨Dt,Du,Dv,Dw,Dx,Dy,Dz,E0,E1,E2⟩:=cl5 B3.o;obtain ⟨Hw,Hx,Ga⟩:=Kd.S_slice Ag.o;subst Ga;obtain ⟨E3,E4,E5,E6,E7,E8,E9,Ea,Eb,Ec⟩:=cl5 A0.o))
     refine bodyPost_ret (bZ rfl _ _ Ae 58 #[.int .i64 0,.int .i64 0,.int .i64 0,.int .i64 0,.slice none 0 0] (0,0) _ rfl (by refine zr ?_;refine aZ (cs:=#[.int .i64 0,.int .i64 0,.int .i64 0,.int .i64 0,.slice none 0 0]) ?_ 4 _ rfl;refine zr ?_;refine aZ (cs:=#[.int .i64 0,.int .i64 0,.int .i64 0,.int .i64 0,.slice none 0 0]) ?_ 3 _ rfl;refine zr ?_;refine aZ (cs:=#[.int .i64 0,.int .i64 0,.int .i64 0,.int .i64 0,.slice none 0 0]) ?_ 2 _ rfl;refine zr ?_;refine aZ (cs:=#[.int .i64 0,.int .i64 0,.int .i64 0,.int .i64 0,.slice none 0 0]) ?_ 1 _ rfl;refine zr ?_;refine aZ (cs:=#[.int .i64 0,.int .i64 0,.int .i64 0,.int .i64 0,.slice none 0 0]) ?_ 0 _ rfl;refine zr ?_;refine aN ?_ A5.o _;refine zr ?_;refine aN ?_ A5.o _;refine zr ?_;refine aN ?_ A5.o _;refine zr ?_;refine aN ?_ A5.o _;refine zr ?_;refine aN ?_ A5.o _;refine zr ?_;exact A0.o) Try.underlying58 rfl (by kernel_rfl)) rfl ?_
     exact ⟨_,rq,by first|exact Kd.S_nil _ _ _ _ _|exact Kd.N_nil _ _ _ _ _|exact Kd.V_nil _ _ _ _ _|exact Kd.Q_nil _ _ _ _ _|exact Kd.R_nil _ _ _ _ _,bq3 HB.o A6.o A8.o Be.o⟩
   replace H:=iT H
   simp only [lW,lX] at H
   obtain ⟨rfl,rfl,rfl,rfl,rfl,rfl⟩:=H
   have H4:=dX (P:=Try.prog) Try.underlying22 Try.underlying5 Try.underlying9 (Kd.own_of_R Aa.o)
   have H5:=Ab.o
   have H6:=Ad.o
   obtain ⟨Ed,Ee,Ef,Eg,Eh,Ei⟩:=cl3 A3.o
   have Gb:(A7:Int)≤((A4.length:Int):Int):=oda
   obtain ⟨Hy,C0,_,C1,_⟩:=info_parts dS
   have Aw:A4.length≤Am:=(Kd.R_reads' Af.o).2.1
   have Cs:Kd.C (Kd.int .u8) _ Ap A4.length A4:=(Kd.R_reads' Af.o).2.2
   have Gc:(0:Int)≤(A7:Int):=oda
   have C4:=g7 (P:=Try.prog) 22 5 .i64 Try.underlying22 C0 1 C1 Ap A4.length Am A7 Gc Gb
   have Bf:=Kd.C_drop (m:=(A7:Int).toNat) (c:=Am) Cs (by omega) Aw
   obtain ⟨Hz,Bo⟩:∃A1,A1=(if Am=(A7:Int).toNat then Ap else (Ap:Option Addr).map (·.add ((A7:Int).toNat*1))):=⟨_,rfl⟩
   obtain ⟨I0,C5⟩:∃c1,c1=Am - (A7:Int).toNat:=⟨_,rfl⟩
   have Bp:An.length=A4.length - (A7:Int).toNat:=(by rw [B2.o,List.length_drop]<;>omega)
   rw [show (A4).drop (A7:Int).toNat=An from B2.o.symm] at Bf
   replace Bf:Kd.C (Kd.int .u8) _ Hz An.length An:=(by rw [Bo];exact Bf)
   rw [← Bp,← Bo,← C5] at C4
   have Ac:=am Bf
   have B8:=am (show An.length≤I0 from by rw [Bp,C5];exact Nat.sub_le_sub_right Aw _)
   clear Bf Cs Aw C0 C1 C5
   have I1:=am Bp
   have I2:=am Bo
   clear Bp Bo
   have I3:=am (show (A7:Int).toNat≤A4.length from by omega)
   replace Gb:=eq_true Gb
   go_wp2_with (first|((with_reducible refine aE (f:=57) rfl ?_);refine gc (some 63) (aX.calls G4 _ _ An Ah Al Aq At Ax true _ (by repeat (first|exact (by repeat (first|(with_reducible exact Ac.o)|(with_reducible refine Kd.C_alloc ?_ _)|(with_reducible refine Kd.C_drewN ?_ _)|(with_reducible refine Kd.C_drew ?_)|exact Ac.o))|(with_reducible refine Kd.C_alloc ?_ _)|(with_reducible refine Kd.C_drewN ?_ _)|(with_reducible refine Kd.C_drew ?_))) B8.o Gw.o) Try.func57 ?_;rintro e If ⟨G9,rfl,B5,hb⟩;refine ⟨_,rfl,?_⟩;have n_:=ak8 (rb Af hb) (rb Aa hb) (rb A2 hb) (Kd.S_lower B5 (aH (bq2 HB.o A6.o A8.o))) (kb A0 hb) (kb A3 hb) (Kd.C_below (by repeat (first|(with_reducible exact Ac.o)|(with_reducible refine Kd.C_alloc ?_ _)|(with_reducible refine Kd.C_drewN ?_ _)|(with_reducible refine Kd.C_drew ?_)|exact Ac.o)) hb) (aC (bq2 HB.o A6.o A8.o) hb);clear Af Aa A2 A0 A3 Ac HB;obtain ⟨Af,Aa,A2,Ag,A0,A3,Ac,HB⟩:=n_;(try clear hb B5))|((with_reducible refine aI (N:=13) rfl ?_);(try (refine aQ (by rfl) ?_;dsimp only));refine bxe 13 #[.int .i64 0,.int .i64 0,.int .i64 0,.int .i64 0,.slice none 0 0] 58 ?_;intro Au hg Ig hbox hb;have Ch:=am (rb Af hb);have Ci:=am (rb Aa hb);have Cj:=am (rb A2 hb);have Ck:=am (Kd.S_below (kqS Ag.o) hb);have Cl:=am (kb A0 hb);have Cm:=am (kb A3 hb);have Cn:=am (Kd.C_below (by repeat (first|(with_reducible exact Ac.o)|(with_reducible refine Kd.C_alloc ?_ _)|(with_reducible refine Kd.C_drewN ?_ _)|(with_reducible refine Kd.C_drew ?_)|exact Ac.o)) hb);have Co:=am (aC (bq2 HB.o A6.o A8.o) hb);have Cp:=am (hbox);have Cq:=am (bz hg (bq2 HB.o A6.o A8.o));have B9:=am (bz hg (bq2 HB.o A6.o A8.o));have Ba:=am (nL hg A0);have Bb:=am (nG hg A0);have Bc:=am (nL hg A3);have Bd:=am (nG hg A3);clear Af;clear Aa;clear A2;clear Ag;clear A0;clear A3;clear Ac;clear HB;have Af:=Ch;have Aa:=Ci;have A2:=Cj;have Ag:=Ck;have A0:=Cl;have A3:=Cm;have Ac:=Cn;have HB:=Co;have B3:=Cp;have Cr:=Cq;have Be:=B9;have A5:=Ba;have Ai:=Bb;have Aj:=Bc;have Ak:=Bd;clear Ch Ci Cj Ck Cl Cm Cn Co Cp Cq B9 Ba Bb Bc Bd;clear hb hbox hg;have H7:=Ai.o;have H8:=A5.o;have H9:=Ak.o;have Ha:=Aj.o;obtain ⟨Ej,Ek,El,Em,En,Eo,Ep,Eq,Er,Es⟩:=cl5 B3.o;obtain ⟨C6,C7,Gd⟩:=Kd.S_slice Ag.o;subst Gd;obtain ⟨Et,Eu,Ev,Ew,Ex,Ey,Ez,G0,G1,G2⟩:=cl5 A0.o))
   refine bodyPost_ret (bZ rfl _ _ Ae 58 #[.int .i64 Ah,.int .i64 Al,.int .i64 Aq,.int .i64 At,.slice C6 Ax.length C7] (0,0) _ rfl (by refine zr ?_;refine aZ (cs:=#[.int .i64 Ah,.int .i64 Al,.int .i64 Aq,.int .i64 At,.slice none 0 0]) ?_ 4 _ rfl;refine zr ?_;refine aZ (cs:=#[.int .i64 Ah,.int .i64 Al,.int .i64 Aq,.int .i64 0,.slice none 0 0]) ?_ 3 _ rfl;refine zr ?_;refine aZ (cs:=#[.int .i64 Ah,.int .i64 Al,.int .i64 0,.int .i64 0,.slice none 0 0]) ?_ 2 _ rfl;refine zr ?_;refine aZ (cs:=#[.int .i64 Ah,.int .i64 0,.int .i64 0,.int .i64 0,.slice none 0 0]) ?_ 1 _ rfl;refine zr ?_;refine aZ (cs:=#[.int .i64 0,.int .i64 0,.int .i64 0,.int .i64 0,.slice none 0 0]) ?_ 0 _ rfl;refine zr ?_;refine aN ?_ A5.o _;refine zr ?_;refine aN ?_ A5.o _;refine zr ?_;refine aN ?_ A5.o _;refine zr ?_;refine aN ?_ A5.o _;refine zr ?_;refine aN ?_ A5.o _;refine zr ?_;exact A0.o) Try.underlying58 rfl (by kernel_rfl)) rfl ?_
   exact ⟨_,rq,by (with_reducible repeat (first|apply Kd.S_alloc|apply Kd.S_drewN|apply Kd.S_drew));exact Kd.S_mono (Kd.S_far (p:=⟨Ae,4,none⟩) (Kd.S_far (p:=⟨Ae,3,none⟩) (Kd.S_far (p:=⟨Ae,2,none⟩) (Kd.S_far (p:=⟨Ae,1,none⟩) (Kd.S_far (p:=⟨Ae,0,none⟩) (Kd.S_far (p:=⟨Au,4,none⟩) (Kd.S_far (p:=⟨Au,3,none⟩) (Kd.S_far (p:=⟨Au,2,none⟩) (Kd.S_far (p:=⟨Au,1,none⟩) (Kd.S_far (p:=⟨Au,0,none⟩) (Kd.S_types (Kd.S_types Ag.o B3.o (by decide)) A0.o (by decide)) (fun _ hk=>hk.1.2) (.int .i64 Ah)) (fun _ hk=>hk.1.2) (.int .i64 Al)) (fun _ hk=>hk.1.2) (.int .i64 Aq)) (fun _ hk=>hk.1.2) (.int .i64 At)) (fun _ hk=>hk.1.2) (.slice C6 Ax.length C7)) (fun _ hk=>hk.2) (.int .i64 Ah)) (fun _ hk=>hk.2) (.int .i64 Al)) (fun _ hk=>hk.2) (.int .i64 Aq)) (fun _ hk=>hk.2) (.int .i64 At)) (fun _ hk=>hk.2) (.slice C6 Ax.length C7)) (fun _ hk=>trivial),bq3 HB.o A6.o A8.o Be.o⟩
def aY.j0:Nat→Int→List Int→List Int→Bool→Option (List Int)
 |0,_,_,_,_=>none
 |k+1,x1,x2,x7,A4=>if A4=true then (some x7) else (if x7.length<140737488355328 then ((some (x7++[(x1) % 256]:List Int)).bind fun A0=>(if (x2.length:Int)>127 then (if A0.length<140737488355328 then ((some (A0++[129]:List Int)).bind fun A1=>(if A1.length<140737488355328 then ((some (A1++[((x2.length:Int)) % 256]:List Int)).bind fun A2=>(if A2.length+x2.length<140737488355328 then (some (A2++x2)) else (none))) else (none))) else (none)) else (if A0.length<140737488355328 then ((some (A0++[((x2.length:Int)) % 256]:List Int)).bind fun A3=>(if A3.length+x2.length<140737488355328 then (some (A3++x2)) else (none))) else (none)))) else (none))
def aY.f (k:Nat) (l0:List Int) (a1:Int) (l2:List Int):Option (List Int):=(some (([]:List Int):List Int)).bind fun A0=>(if A0.length+l0.length<140737488355328 then ((some (A0++l0:List Int)).bind fun A1=>((cS.f a1 0 255).bind fun A2=>(if A2=true then (aY.j0 k a1 l2 A1 (decide ((l2.length:Int)>250))) else (aY.j0 k a1 l2 A1 true)))) else (none))
theorem aY.calls (k:Nat) (A0:Option Addr) (c0:Nat) (l0:List Int) (a1:Int) (A2:Option Addr) (c2:Nat) (l2:List Int) (r:List Int) (w:World) (Bd:Kd.C (Kd.int .u8) w A0 l0.length l0) (Be:l0.length≤c0) (Bf:Kd.C (Kd.int .u8) w A2 l2.length l2) (Bg:l2.length≤c2) (h:aY.f k l0 a1 l2=some r):
 Calls Try.prog 66 #[.slice A0 l0.length c0,.int .i64 a1,.slice A2 l2.length c2] w fun e w'=>∃Bh:Value,e=.returned (Bh)∧Kd.R (Kd.int .u8) 5 w' w.heap.size (fun _=>True) Bh r∧Below w.heap.size w w':=by
 have Bp:=am Bd
 have Bv:=am Be
 clear Bd Be
 have Bi:=am Bf
 have Bw:=am Bg
 clear Bf Bg
 have HB:=am (Below.refl w.heap.size w)
 have H:=h
 clear h
 unfold aY.f at H
 replace H:=bs H
 obtain ⟨B4,Aa,H⟩:=H
 replace H:=nq H
 obtain ⟨c4,H⟩:=H
 have B5:=am c4
 clear c4
 replace H:=bs H
 obtain ⟨A5,Aj,H⟩:=H
 have B6:=am H
 clear H
 go_enter Try.func66,Try.ntmps66
 go_upto_region 2 with (first|((with_reducible refine aI (N:=8) rfl ?_);(try (refine aQ (by rfl) ?_;dsimp only));refine Kd.R_lit (Kd.int .u8) _ 5 ?hg (N:=8) ?hd (xs:=([]:List Int)) (inner:=[]) (ok:=fun _=>True) (okp:=fun _=>True) ?hr ?hp (fun _ hk=>hk) trivial (Below.refl _ _) (lZ _) (by simp) ?_;(case hd=>rfl);(case hg=>rfl);(case hr=>exact gs);(case hp=>exact (a9.none _ _));intro B7 w6 Ak hb hg_ hnew_;clear hg_ hnew_;(first|rw [← Aa.o] at Ak|(simp only [Int.reduceToNat] at Ak;rw [← Aa.o] at Ak));have n_:=ak2 (rl Ak (bq HB.o)) (aC (bq HB.o) hb);clear HB;obtain ⟨Ab,HB⟩:=n_;clear hb Ak)|((with_reducible refine bF (b:=.append) (xs:=#[.tmp 8,.tmp 9]) rfl ?_);(try (refine aQ (by rfl) ?_;dsimp only));at_builtin;refine Kd.R_append_rows (Kd.int .u8) (w0:=w) w.heap.size rfl (.tmp 8) (.tmp 9) 22 5 (.int .u8 0) 1 rfl Try.underlying22 dS rfl (by decide) (by omega) B7 B4 l0 _ _ _ (fun _=>True) (fun _=>False) rfl rfl ?aO ?aR (fun _ _ h=>h) (fun _ h=>h.elim) ?aF ?aB ?aS ?aL ?_;(case aR=>exact cq (Kd.C_below Bp.o HB.o));(case aB=>exact (bq HB.o));(case aF=>exact (fun _ _=>trivial));(case aO=>exact (kqR Ab.o));(case aS=>exact (aH (bq HB.o)));(case aL=>have:=B5.o;omega);intro Al w8 ho hb hg hat;rw [← Aj.o] at ho;have n_:=ak2 hb ho;clear HB Ab;obtain ⟨HB,Ac⟩:=n_;clear ho hb hg hat))
 (try simp only [Act.put,lT,lU,lV])
 go_cut [18] (fun Bq wc=>∃(kq:Nat) (A3:Bool),Bq=.bool A3∧Aside0 (aY.j0 kq a1 l2 A5 A3=some r)∧Aside0 (kq≤k)∧Aside0 (Kd.R (Kd.int .u8) 5 wc w.heap.size (fun _=>True) Al A5)∧Aside0 (Below w.heap.size w wc))
 case first=>
  have H:=B6.o
  clear B6
  replace H:=be H
  obtain ⟨B8,A9,H⟩:=H
  rcases bt B8 with rfl|rfl
  · replace H:=iT H
    have H':=am H
    clear H
    go_wp2_with (first|((with_reducible refine aE (f:=88) rfl ?_);refine gc (some 12) (cS.calls a1 0 255 true _ A9.o) Try.func88 ?_;rintro e w' ⟨rfl,⟨nd,rfl⟩⟩;refine ⟨_,rfl,?_⟩))
    go_meet
    case rel=>exact ⟨_,(decide ((l2.length:Int)>250)),sq,H',⟨by first|omega|exact lZ _⟩,⟨kqR Ac.o⟩,⟨bq HB.o⟩⟩
  replace H:=iF H
  have H':=am H
  clear H
  go_wp2_with (first|((with_reducible refine aE (f:=88) rfl ?_);refine gc (some 12) (cS.calls a1 0 255 false _ A9.o) Try.func88 ?_;rintro e w' ⟨rfl,⟨nd,rfl⟩⟩;refine ⟨_,rfl,?_⟩))
  go_meet
  case rel=>exact ⟨_,(true),sq,H',⟨by first|omega|exact lZ _⟩,⟨kqR Ac.o⟩,⟨bq HB.o⟩⟩
 case rest=>
  clear B6
  try clear c1
  try clear c2
  try clear p2
  try clear c4
  try clear c6
  try clear c8
  try clear Bx
  obtain ⟨kq,A3,rfl,HA,By,Ai,HB⟩:=hcut
  cases kq with
  |zero=>exact absurd HA.o (by simp [aY.j0])
  |succ Bz=>
   have H:=HA.o
   clear HA
   simp only [aY.j0] at H
   rcases Decidable.em (A3=true) with Am|Am
   subst Am
   replace H:(some A5)=some r:=by rw [if_pos rfl] at H;exact H
   have z0:=trivial
   rotate_left
   replace Am:=Bool.eq_false_iff.mpr Am
   subst Am
   replace H:(if A5.length<140737488355328 then ((some (A5++[(a1) % 256]:List Int)).bind fun A1=>(if (l2.length:Int)>127 then (if A1.length<140737488355328 then ((some (A1++[129]:List Int)).bind fun A8=>(if A8.length<140737488355328 then ((some (A8++[((l2.length:Int)) % 256]:List Int)).bind fun A6=>(if A6.length+l2.length<140737488355328 then (some (A6++l2)) else (none))) else (none))) else (none)) else (if A1.length<140737488355328 then ((some (A1++[((l2.length:Int)) % 256]:List Int)).bind fun A7=>(if A7.length+l2.length<140737488355328 then (some (A7++l2)) else (none))) else (none)))) else (none))=some r:=by rw [if_neg (show ¬(false=true) by decide)] at H;exact H
   replace H:=nq H
   obtain ⟨Bj,H⟩:=H
   have An:=am Bj
   clear Bj
   replace H:=bs H
   obtain ⟨A1,Ao,H⟩:=H
   replace H:=ig' H
   rcases H with ⟨B9,Ap,H⟩|⟨B9,Ap,H⟩
   have Aq:decide (127<l2.length)=false:=l6 (by omega)
   clear B9
   replace H:=nq H
   obtain ⟨Bk,H⟩:=H
   have Ar:=am Bk
   clear Bk
   replace H:=bs H
   obtain ⟨A7,As,H⟩:=H
   replace H:=nq H
   obtain ⟨Bl,H⟩:=H
   have At:=am Bl
   clear Bl
   generalize Ad:((A7++l2):List Int)=Br at H
   have Au:=am Ad.symm
   clear Ad
   have z1:=trivial
   rotate_left
   have Aq:decide (127<l2.length)=true:=l5 (by omega)
   clear B9
   replace H:=nq H
   obtain ⟨Bm,H⟩:=H
   have Av:=am Bm
   clear Bm
   replace H:=bs H
   obtain ⟨A8,Aw,H⟩:=H
   replace H:=nq H
   obtain ⟨Bn,H⟩:=H
   have Ax:=am Bn
   clear Bn
   replace H:=bs H
   obtain ⟨A6,Ay,H⟩:=H
   replace H:=nq H
   obtain ⟨Bo,H⟩:=H
   have Az:=am Bo
   clear Bo
   generalize Ae:((A6++l2):List Int)=Bs at H
   have B0:=am Ae.symm
   clear Ae
   have z2:=trivial
   rotate_right
   rotate_right
   all_goals
    obtain rfl:=lY H
    go_wp2_with (first|((with_reducible refine bF (b:=.append) (xs:=#[.tmp 20,.tmp 23]) rfl ?_);(try (refine aQ (by rfl) ?_;dsimp only));at_builtin;refine Kd.R_append (Kd.int .u8) (w0:=w) w.heap.size rfl (.tmp 20) (.tmp 23) 22 5 (.int .u8 0) 1 rfl Try.underlying22 dS rfl (by decide) (by omega) Al A5 ((a1) % 256) [.int .u8 ((a1) % 256)] (fun _=>True) (fun _=>False) rfl rfl ?aP (fun _ hk=>hk.elim) ?aF ?aO ?aB ?aS ?aL ?_;(case aP=>exact rfl);(case aB=>exact (bq HB.o));(case aF=>exact (fun _ _=>trivial));(case aO=>exact (kqR Ai.o));(case aS=>exact (aH (bq HB.o)));(case aL=>have:=An.o;omega);intro B1 w_ ho hb hg hat;rw [← Ao.o] at ho;have n_:=ak2 hb ho;clear HB Ai;obtain ⟨HB,A4⟩:=n_;clear ho hb hg hat)|((with_reducible refine bF (b:=.append) (xs:=#[.tmp 31,.tmp 35]) rfl ?_);have:=z1;(try (refine aQ (by rfl) ?_;dsimp only));at_builtin;refine Kd.R_append (Kd.int .u8) (w0:=w) w.heap.size rfl (.tmp 31) (.tmp 35) 22 5 (.int .u8 0) 1 rfl Try.underlying22 dS rfl (by decide) (by omega) B1 A1 (((l2.length:Int)) % 256) [.int .u8 (((l2.length:Int)) % 256)] (fun _=>True) (fun _=>False) rfl rfl ?aP (fun _ hk=>hk.elim) ?aF ?aO ?aB ?aS ?aL ?_;(case aP=>exact rfl);(case aB=>exact (bq HB.o));(case aF=>exact (fun _ _=>trivial));(case aO=>exact (kqR A4.o));(case aS=>exact (aH (bq HB.o)));(case aL=>have:=Ar.o;omega);intro Ba w_ ho hb hg hat;rw [← As.o] at ho;have n_:=ak2 hb ho;clear HB A4;obtain ⟨HB,Af⟩:=n_;clear ho hb hg hat)|((with_reducible refine bF (b:=.append) (xs:=#[.tmp 31,.tmp 35]) rfl ?_);have:=z2;(try (refine aQ (by rfl) ?_;dsimp only));at_builtin;refine Kd.R_append (Kd.int .u8) (w0:=w) w.heap.size rfl (.tmp 31) (.tmp 35) 22 5 (.int .u8 0) 1 rfl Try.underlying22 dS rfl (by decide) (by omega) Bb A8 (((l2.length:Int)) % 256) [.int .u8 (((l2.length:Int)) % 256)] (fun _=>True) (fun _=>False) rfl rfl ?aP (fun _ hk=>hk.elim) ?aF ?aO ?aB ?aS ?aL ?_;(case aP=>exact rfl);(case aB=>exact (bq HB.o));(case aF=>exact (fun _ _=>trivial));(case aO=>exact (kqR Ag.o));(case aS=>exact (aH (bq HB.o)));(case aL=>have:=Ax.o;omega);intro Bc w_ ho hb hg hat;rw [← Ay.o] at ho;have n_:=ak2 hb ho;clear HB Ag;obtain ⟨HB,Ah⟩:=n_;clear ho hb hg hat)|((with_reducible refine bF (b:=.append) (xs:=#[.tmp 36,.tmp 37]) rfl ?_);have:=z1;(try (refine aQ (by rfl) ?_;dsimp only));at_builtin;refine Kd.R_append_rows (Kd.int .u8) (w0:=w) w.heap.size rfl (.tmp 36) (.tmp 37) 22 5 (.int .u8 0) 1 rfl Try.underlying22 dS rfl (by decide) (by omega) Ba A7 l2 _ _ _ (fun _=>True) (fun _=>False) rfl rfl ?aO ?aR (fun _ _ h=>h) (fun _ h=>h.elim) ?aF ?aB ?aS ?aL ?_;(case aR=>exact cq (Kd.C_below Bi.o HB.o));(case aB=>exact (bq HB.o));(case aF=>exact (fun _ _=>trivial));(case aO=>exact (kqR Af.o));(case aS=>exact (aH (bq HB.o)));(case aL=>have:=At.o;omega);intro Bt w_ ho hb hg hat;rw [← Au.o] at ho;have n_:=ak2 hb ho;clear HB Af;obtain ⟨HB,B2⟩:=n_;clear ho hb hg hat)|((with_reducible refine bF (b:=.append) (xs:=#[.tmp 36,.tmp 37]) rfl ?_);have:=z2;(try (refine aQ (by rfl) ?_;dsimp only));at_builtin;refine Kd.R_append_rows (Kd.int .u8) (w0:=w) w.heap.size rfl (.tmp 36) (.tmp 37) 22 5 (.int .u8 0) 1 rfl Try.underlying22 dS rfl (by decide) (by omega) Bc A6 l2 _ _ _ (fun _=>True) (fun _=>False) rfl rfl ?aO ?aR (fun _ _ h=>h) (fun _ h=>h.elim) ?aF ?aB ?aS ?aL ?_;(case aR=>exact cq (Kd.C_below Bi.o HB.o));(case aB=>exact (bq HB.o));(case aF=>exact (fun _ _=>trivial));(case aO=>exact (kqR Ah.o));(case aS=>exact (aH (bq HB.o)));(case aL=>have:=Az.o;omega);intro Bu w_ ho hb hg hat;rw [← B0.o] at ho;have n_:=ak2 hb ho;clear HB Ah;obtain ⟨HB,B3⟩:=n_;clear ho hb hg hat)|((with_reducible refine bF (b:=.append) (xs:=#[.tmp 28,.tmp 29]) rfl ?_);(try (refine aQ (by rfl) ?_;dsimp only));at_builtin;refine Kd.R_append (Kd.int .u8) (w0:=w) w.heap.size rfl (.tmp 28) (.tmp 29) 22 5 (.int .u8 0) 1 rfl Try.underlying22 dS rfl (by decide) (by omega) B1 A1 129 [.int .u8 129] (fun _=>True) (fun _=>False) rfl rfl ?aP (fun _ hk=>hk.elim) ?aF ?aO ?aB ?aS ?aL ?_;(case aP=>exact rfl);(case aB=>exact (bq HB.o));(case aF=>exact (fun _ _=>trivial));(case aO=>exact (kqR A4.o));(case aS=>exact (aH (bq HB.o)));(case aL=>have:=Av.o;omega);intro Bb w_ ho hb hg hat;rw [← Aw.o] at ho;have n_:=ak2 hb ho;clear HB A4;obtain ⟨HB,Ag⟩:=n_;clear ho hb hg hat))
    first
    | go_ret
      exact ⟨_,rq,kqR B2.o,bq HB.o⟩
    | go_ret
      exact ⟨_,rq,kqR B3.o,bq HB.o⟩
    | go_ret
      exact ⟨_,rq,kqR Ai.o,bq HB.o⟩
def dM.l0:Nat→List Int→List Int→Int→Option (List Int)
 |0,_,_,_=>none
 |k+1,x0,x3,x4=>if x4<(x0.length:Int) then (if 0≤x4 then ((cX.f k (rd x0 x4)).bind fun A0=>(if x3.length+A0.length<140737488355328 then (dM.l0 k x0 (x3++A0) (wrap64 (x4+1))) else (none))) else (none)) else (some x3)
def dM.f (k:Nat) (l0:List Int):Option (List Int):=(some (([]:List Int):List Int)).bind fun A0=>((cD.f k l0).bind fun A1=>(if A1=true then (dM.l0 k l0 A0 0) else (some A0)))
theorem dM.calls (k:Nat) (A0:Option Addr) (c0:Nat) (l0:List Int) (r:List Int) (w:World) (At:Kd.C (Kd.int .i64) w A0 l0.length l0) (Au:l0.length≤c0) (h:dM.f k l0=some r):
 Calls Try.prog 65 #[.slice A0 l0.length c0] w fun e w'=>∃Av:Value,e=.returned (Av)∧Kd.R (Kd.int .u8) 5 w' w.heap.size (fun _=>True) Av r∧Below w.heap.size w w':=by
 have Ai:=am At
 have Aw:=am Au
 clear At Au
 have HB:=am (Below.refl w.heap.size w)
 have H:=h
 clear h
 unfold dM.f at H
 replace H:=bs H
 obtain ⟨Aj,A5,H⟩:=H
 replace H:=be H
 obtain ⟨Ae,Ax,H⟩:=H
 cases Ae
 · replace H:=iF H
   obtain rfl:=lY H
   go_enter Try.func65,Try.ntmps65
   go_wp2_with (first|((with_reducible refine aI (N:=5) rfl ?_);refine Kd.R_lit (Kd.int .u8) _ 5 ?hg (N:=5) ?hd (xs:=([]:List Int)) (inner:=[]) (ok:=fun _=>True) (okp:=fun _=>True) ?hr ?hp (fun _ hk=>hk) trivial (Below.refl _ _) (lZ _) (by simp) ?_;(case hd=>rfl);(case hg=>rfl);(case hr=>exact gs);(case hp=>exact (a9.none _ _));intro Ak B3 A6 hb hg_ hnew_;clear hg_ hnew_;(first|rw [← A5.o] at A6|(simp only [Int.reduceToNat] at A6;rw [← A5.o] at A6));have n_:=ak2 (rl A6 (bq HB.o)) (aC (bq HB.o) hb);clear HB;obtain ⟨A7,HB⟩:=n_;clear hb A6)|((with_reducible refine aE (f:=110) rfl ?_);refine gc (some 7) (cD.calls k _ _ l0 false _ (cq (Kd.C_below Ai.o HB.o)) Aw.o Ax.o) Try.func110 ?_;rintro e w' ⟨rfl,⟨nd,rfl⟩⟩;refine ⟨_,rfl,?_⟩))
   go_ret
   exact ⟨_,rq,kqR A7.o,bq HB.o⟩
 replace H:=iT H
 have H':=am H
 clear H
 go_enter Try.func65,Try.ntmps65
 go_wp2_with (first|((with_reducible refine aI (N:=5) rfl ?_);refine Kd.R_lit (Kd.int .u8) _ 5 ?hg (N:=5) ?hd (xs:=([]:List Int)) (inner:=[]) (ok:=fun _=>True) (okp:=fun _=>True) ?hr ?hp (fun _ hk=>hk) trivial (Below.refl _ _) (lZ _) (by simp) ?_;(case hd=>rfl);(case hg=>rfl);(case hr=>exact gs);(case hp=>exact (a9.none _ _));intro Ak w4 Af hb hg_ hnew_;clear hg_ hnew_;(first|rw [← A5.o] at Af|(simp only [Int.reduceToNat] at Af;rw [← A5.o] at Af));have n_:=ak2 (rl Af (bq HB.o)) (aC (bq HB.o) hb);clear HB;obtain ⟨A7,HB⟩:=n_;clear hb Af)|((with_reducible refine aE (f:=110) rfl ?_);refine gc (some 7) (cD.calls k _ _ l0 true _ (cq (Kd.C_below Ai.o HB.o)) Aw.o Ax.o) Try.func110 ?_;rintro e w' ⟨rfl,⟨nd,rfl⟩⟩;refine ⟨_,rfl,?_⟩))
 go_loopg [3,4] k (fun kq v3 v4 w'=>∃(A9:List Int) (A3:Int),v4=.int .i64 A3∧Aside0 (dM.l0 kq l0 A9 A3=some r)∧Aside0 (kq≤k)∧Aside0 (Kd.R (Kd.int .u8) 5 w' w.heap.size (fun _=>True) v3 A9)∧Aside0 (Below w.heap.size w w'))
 case atStart=>exact ⟨(Aj),(0),sq,H',⟨lZ _⟩,⟨kqR A7.o⟩,⟨bq HB.o⟩⟩
 case round=>
  clear H'
  try clear c1
  try clear p2
  try clear c3
  obtain ⟨A9,A3,rfl,HA,Ay,A4,HB⟩:=hrel
  cases gk with
  |zero=>exact absurd HA.o (by simp [dM.l0])
  |succ k1=>
   have H:=HA.o
   clear HA
   simp only [dM.l0] at H
   replace H:=il' H
   rcases H with ⟨-,Al,H⟩|⟨-,Al,H⟩
   · obtain rfl:=lY H
     go_wp2
     go_ret
     exact ⟨_,rq,kqR A4.o,bq HB.o⟩
   replace H:=nl H
   obtain ⟨-,B0,H⟩:=H
   replace H:=be H
   obtain ⟨Aa,A8,H⟩:=H
   replace H:=nq H
   obtain ⟨c9,H⟩:=H
   have Am:=am c9
   clear c9
   generalize Ab:((A9++Aa):List Int)=An at H
   have Ag:=am Ab.symm
   clear Ab
   have H':=am H
   clear H
   have Ac:0≤(A3:Int):=oda
   have Ad:A3<(l0.length:Int):=oda
   obtain ⟨Az,Ao,A2⟩:=Kd.at_int Ai.o A3 Ac Ad
   cases Ao
   replace A2:=(HB.o.cell (lS w _ A2)).trans A2
   replace Ac:=eq_true Ac
   replace Ad:=eq_true Ad
   go_wp2_with (first|((with_reducible refine aE (f:=124) rfl ?_);refine gc (some 21) (cX.calls k1 (rd l0 A3) Aa _ A8.o) Try.func124 ?_;rintro e B4 ⟨B1,rfl,Ap,hb⟩;refine ⟨_,rfl,?_⟩;have n_:=ak3 (re_ A4 Ap hb) (rn_ Ap A4 (bq HB.o)) (aC (bq HB.o) hb);clear A4 HB;obtain ⟨A4,A1,HB⟩:=n_;(try clear hb Ap);obtain ⟨Aq,Ar,As⟩:=Kd.R_slice A1.o;subst As)|((with_reducible refine bF (b:=.append) (xs:=#[.tmp 16,.tmp 21]) rfl ?_);at_builtin;refine Kd.R_append_rows (Kd.int .u8) (w0:=w) w.heap.size rfl (.tmp 16) (.tmp 21) 22 5 (.int .u8 0) 1 rfl Try.underlying22 dS rfl (by decide) (by omega) u3 A9 Aa _ _ _ (fun k_=>some k_≠(.slice Aq Aa.length Ar:Value).ownBlock) (fun _=>False) rfl rfl ?aO ?aR (fun _ _ h=>h) (fun _ h=>h.elim) ?aF ?aB ?aS ?aL ?_;(case aR=>repeat (first|exact (Kd.R_reads' A1.o).2.2|(with_reducible refine Kd.C_alloc ?_ _)|(with_reducible refine Kd.C_drewN ?_ _)|(with_reducible refine Kd.C_drew ?_)));(case aB=>exact (bq HB.o));(case aF=>exact (fun k_ hk=>Kd.fresh' (Kd.R_lt (kqR A1.o)) k_ hk));(case aO=>exact (by refine kr ?_;exact Kd.R_mono A4.o (fun _ hk=>hk.2)));(case aS=>exact (aH (bq HB.o)));(case aL=>have:=Am.o;omega);intro B2 B5 ho hb hg hat;rw [← Ag.o] at ho;have n_:=ak3 (Kd.R_after (ok:=(fun _=>True)) (kqR A1.o) hg hat) hb ho;clear A1 HB A4;obtain ⟨A1,HB,Ah⟩:=n_;clear ho hb hg hat))
   go_roundg k1
   case measure=>have:=Ay.o;omega
   case rel=>exact ⟨(An),(wrap64 (A3+1)),sq,H',⟨by have:=Ay.o;omega⟩,⟨by refine kr ?_;exact Kd.R_mono Ah.o (fun _ hk=>trivial)⟩,⟨bq HB.o⟩⟩
def fR.f (k:Nat) (l0:List Int) (A0:Int) (A2:Int) (A1:ByteArray) (A3:List Int):Option (List Int):=(bX.f k A0 A2 A1 A3).bind fun A5=>(if A5=true then (if A0=2 then ((bT.f k A2).bind fun A6=>((aY.f k l0 A0 A6).bind fun A7=>(some A7))) else (if A0=4 then (if (A1.size:Int)<140737488355328 then ((aY.f k l0 A0 (fF A1)).bind fun A8=>(some A8)) else (none)) else (if A0=6 then ((dM.f k A3).bind fun A9=>((aY.f k l0 A0 A9).bind fun Aa=>(some Aa))) else ((aY.f k l0 A0 (([]:List Int))).bind fun Ab=>(some Ab))))) else ((some (([]:List Int):List Int)).bind fun A4=>(if A4.length+l0.length<140737488355328 then (some (A4++l0)) else (none))))
theorem fR.calls (k:Nat) (A0:Option Addr) (c0:Nat) (l0:List Int) (Ag:Int) (Aj:Int) (Ah:ByteArray) (An:Option Addr) (Ao:Nat) (Ai:List Int) (r:List Int) (w:World) (Bw:Kd.C (Kd.int .u8) w A0 l0.length l0) (Bx:l0.length≤c0) (Ap:Kd.C (Kd.int .i64) w An Ai.length Ai) (Aq:Ai.length≤Ao) (h:fR.f k l0 Ag Aj Ah Ai=some r):
 Calls Try.prog 14 #[.slice A0 l0.length c0,.agg #[.int .i64 Ag,.int .i64 Aj,.string Ah,.slice An Ai.length Ao]] w fun e w'=>∃By:Value,e=.returned (By)∧Kd.R (Kd.int .u8) 5 w' w.heap.size (fun _=>True) By r∧Below w.heap.size w w':=by
 have C6:=Try.underlying29
 have B3:=am Bw
 have Bk:=am Bx
 clear Bw Bx
 have Ak:=am Ap
 have Al:=am Aq
 clear Ap Aq
 have HB:=am (Below.refl w.heap.size w)
 have H:=h
 clear h
 unfold fR.f at H
 replace H:=be H
 obtain ⟨B4,Bz,H⟩:=H
 cases B4
 replace H:=iF H
 replace H:=bs H
 obtain ⟨B5,Ar,H⟩:=H
 replace H:=nq H
 obtain ⟨C0,H⟩:=H
 have B6:=am C0
 clear C0
 generalize As:((B5++l0):List Int)=C7 at H
 have B7:=am As.symm
 clear As
 have z0:=trivial
 rotate_left
 replace H:=iT H
 generalize At:((([]:List Int)):List Int)=Bl at H
 have Au:=am At.symm
 clear At
 replace H:=iq H
 rcases H with ⟨-,Bm,Bn,H⟩|⟨c5,Bm,Bn,H⟩
 replace H:=be H
 obtain ⟨Av,C8,H⟩:=H
 replace H:=be H
 obtain ⟨Ad,Ay,H⟩:=H
 have z1:=trivial
 rotate_left
 replace H:=iq H
 rcases H with ⟨-,B8,B9,H⟩|⟨Ci,B8,B9,H⟩
 replace H:=nq H
 obtain ⟨Bo,H⟩:=H
 have C1:=eq_true Bo
 have C2:decide ((Ah.size:Int)<140737488355328)=true:=l5 Bo
 clear Bo
 generalize Aw:((fF Ah):List Int)=Ba at H
 have Bb:=am Aw.symm
 clear Aw
 replace H:=be H
 obtain ⟨Ad,Ay,H⟩:=H
 have z2:=trivial
 rotate_left
 replace H:=iq' H
 rcases H with ⟨Cj,Bc,Bd,H⟩|⟨-,Bc,Bd,H⟩
 replace H:=be H
 obtain ⟨Ad,Ay,H⟩:=H
 have z3:=trivial
 rotate_left
 replace H:=be H
 obtain ⟨Ax,C9,H⟩:=H
 replace H:=be H
 obtain ⟨Ad,Ay,H⟩:=H
 have z4:=trivial
 rotate_right
 rotate_right
 rotate_right
 rotate_right
 all_goals
  obtain rfl:=lY H
  go_enter Try.func14,Try.ntmps14
  go_wp2_with (first|((with_reducible refine aI (N:=3) rfl ?_);refine bxe 3 #[.int .i64 Ag,.int .i64 Aj,.string Ah,.slice An Ai.length Ao] 29 ?_;intro Be hg w_ hbox hb;have n_:=ak4 (aC (bq HB.o) hb) hbox (bz hg (bq HB.o)) (bz hg (bq HB.o));clear HB;obtain ⟨HB,A1,C3,A3⟩:=n_;clear hb hbox hg;obtain ⟨A4,A5,A6,A7,A8,A9,Aa,Ab⟩:=cl4 A1.o)|((with_reducible refine aE (f:=47) rfl ?_);have:=z0;refine gc (some 7) (bX.calls k Ag Aj Ah _ _ Ai false _ (cq (Kd.C_below Ak.o HB.o)) Al.o Bz.o) Try.func47 ?_;rintro e w_ ⟨rfl,hb⟩;refine ⟨_,rfl,?_⟩;have n_:=ak2 (kb A1 hb) (aC (bq1 HB.o A3.o) hb);clear A1 HB;obtain ⟨A1,HB⟩:=n_;(try clear hb))|((with_reducible refine aE (f:=47) rfl ?_);(first|have:=z1|have:=z2|have:=z3|have:=z4);refine gc (some 7) (bX.calls k Ag Aj Ah _ _ Ai true _ (cq (Kd.C_below Ak.o HB.o)) Al.o Bz.o) Try.func47 ?_;rintro e w_ ⟨rfl,hb⟩;refine ⟨_,rfl,?_⟩;have n_:=ak2 (kb A1 hb) (aC (bq1 HB.o A3.o) hb);clear A1 HB;obtain ⟨A1,HB⟩:=n_;(try clear hb))|((with_reducible refine aI (N:=9) rfl ?_);refine Kd.R_lit (Kd.int .u8) _ 5 ?hg (N:=9) ?hd (xs:=([]:List Int)) (inner:=[]) (ok:=fun _=>True) (okp:=fun _=>True) ?hr ?hp (fun _ hk=>hk) trivial (Below.refl _ _) (lZ _) (by simp) ?_;(case hd=>rfl);(case hg=>rfl);(case hr=>exact gs);(case hp=>exact (a9.none _ _));intro Bp w_ ho_ hb hg_ hnew_;clear hg_ hnew_;(first|rw [← Ar.o] at ho_|(simp only [Int.reduceToNat] at ho_;rw [← Ar.o] at ho_));have n_:=ak3 (rl ho_ (bq1 HB.o A3.o)) (kb A1 hb) (aC (bq1 HB.o A3.o) hb);clear A1 HB;obtain ⟨Am,A1,HB⟩:=n_;clear hb ho_)|((with_reducible refine bF (b:=.append) (xs:=#[.tmp 9,.tmp 10]) rfl ?_);at_builtin;refine Kd.R_append_rows (Kd.int .u8) (w0:=w) w.heap.size rfl (.tmp 9) (.tmp 10) 22 5 (.int .u8 0) 1 rfl Try.underlying22 dS rfl (by decide) (by omega) Bp B5 l0 _ _ _ (fun _=>True) (fun _=>False) rfl rfl ?aO ?aR (fun _ _ h=>h) (fun _ h=>h.elim) ?aF ?aB ?aS ?aL ?_;(case aR=>exact cq (Kd.C_below B3.o HB.o));(case aB=>exact (bq1 HB.o A3.o));(case aF=>exact (fun _ _=>trivial));(case aO=>exact (kqR Am.o));(case aS=>exact (aH (bq1 HB.o A3.o)));(case aL=>have:=B6.o;omega);intro Ca w_ ho hb hg hat;rw [← B7.o] at ho;have n_:=ak3 (b8 (g:=Be) (o:=.cells #[.int .i64 Ag,.int .i64 Aj,.string Ah,.slice An Ai.length Ao] 29 (0,0)) (zq A1.o) hg (Kd.R_ne Am.o A1.o (by decide))) hb ho;clear A1 HB Am;obtain ⟨A1,HB,Bf⟩:=n_;clear ho hb hg hat)|((with_reducible refine aI (N:=12) rfl ?_);refine Kd.R_lit (Kd.int .u8) _ 5 ?hg (N:=12) ?hd (xs:=([]:List Int)) (inner:=[]) (ok:=fun _=>True) (okp:=fun _=>True) ?hr ?hp (fun _ hk=>hk) trivial (Below.refl _ _) (lZ _) (by simp) ?_;(case hd=>rfl);(case hg=>rfl);(case hr=>exact gs);(case hp=>exact (a9.none _ _));intro Cb w_ ho_ hb hg_ hnew_;clear hg_ hnew_;(first|rw [← Au.o] at ho_|(simp only [Int.reduceToNat] at ho_;rw [← Au.o] at ho_));have n_:=ak3 (rl ho_ (bq1 HB.o A3.o)) (kb A1 hb) (aC (bq1 HB.o A3.o) hb);clear A1 HB;obtain ⟨A2,A1,HB⟩:=n_;clear hb ho_;obtain ⟨Bq,Br,Az⟩:=Kd.R_slice A2.o;subst Az;obtain ⟨A4,A5,A6,A7,A8,A9,Aa,Ab⟩:=cl4 A1.o)|((with_reducible refine aE (f:=64) rfl ?_);refine gc (some 19) (bT.calls k Aj Av _ C8.o) Try.func64 ?_;rintro e w_ ⟨Cc,rfl,ho_,hb⟩;refine ⟨_,rfl,?_⟩;have n_:=ak4 (re_ A2 ho_ hb) (rn_ ho_ A2 (bq1 HB.o A3.o)) (kb A1 hb) (aC (bq1 HB.o A3.o) hb);clear A2 A1 HB;obtain ⟨A2,Ae,A1,HB⟩:=n_;(try clear hb ho_);obtain ⟨Bs,Bt,B0⟩:=Kd.R_slice Ae.o;subst B0;obtain ⟨A4,A5,A6,A7,A8,A9,Aa,Ab⟩:=cl4 A1.o)|((with_reducible refine aE (f:=66) rfl ?_);have:=z2;refine gc (some 34) (aY.calls k _ _ l0 Ag _ _ Ba Ad _ (cq (Kd.C_below B3.o HB.o)) Bk.o (by repeat (first|exact (by repeat (first|(with_reducible exact Ac.o)|(with_reducible refine Kd.C_alloc ?_ _)|(with_reducible refine Kd.C_drewN ?_ _)|(with_reducible refine Kd.C_drew ?_)|exact Ac.o))|(with_reducible refine Kd.C_alloc ?_ _)|(with_reducible refine Kd.C_drewN ?_ _)|(with_reducible refine Kd.C_drew ?_))) B1.o Ay.o) Try.func66 ?_;rintro e w_ ⟨Cd,rfl,ho_,hb⟩;refine ⟨_,rfl,?_⟩;have n_:=ak5 (re_ A2 ho_ hb) (rn_ ho_ A2 (bq1 HB.o A3.o)) (kb A1 hb) (Kd.C_below (by repeat (first|(with_reducible exact Ac.o)|(with_reducible refine Kd.C_alloc ?_ _)|(with_reducible refine Kd.C_drewN ?_ _)|(with_reducible refine Kd.C_drew ?_)|exact Ac.o)) hb) (aC (bq1 HB.o A3.o) hb);clear A2 A1 Ac HB;obtain ⟨A2,Bg,A1,Ac,HB⟩:=n_;(try clear hb ho_))|((with_reducible refine aE (f:=66) rfl ?_);have:=z1;refine gc (some 34) (aY.calls k _ _ l0 Ag _ _ Av Ad _ (cq (Kd.C_below B3.o HB.o)) Bk.o (cq (Kd.R_reads' Ae.o).2.2) ((Kd.R_reads' Ae.o).2.1) Ay.o) Try.func66 ?_;rintro e w_ ⟨Ce,rfl,ho_,hb⟩;refine ⟨_,rfl,?_⟩;have n_:=ak5 (re_ A2 ho_ hb) (re_ Ae ho_ hb) (Kd.R_lower (Kd.R_new' (Kd.R_new' ho_ (Kd.R_lt (kqR A2.o))) (Kd.R_lt (kqR Ae.o))) (aH (bq1 HB.o A3.o))) (kb A1 hb) (aC (bq1 HB.o A3.o) hb);clear A2 Ae A1 HB;obtain ⟨A2,Ae,Bh,A1,HB⟩:=n_;(try clear hb ho_))|((with_reducible refine aE (f:=66) rfl ?_);have:=z4;refine gc (some 34) (aY.calls k _ _ l0 Ag _ _ Ax Ad _ (cq (Kd.C_below B3.o HB.o)) Bk.o (cq (Kd.R_reads' Af.o).2.2) ((Kd.R_reads' Af.o).2.1) Ay.o) Try.func66 ?_;rintro e w_ ⟨Cf,rfl,ho_,hb⟩;refine ⟨_,rfl,?_⟩;have n_:=ak5 (re_ A2 ho_ hb) (re_ Af ho_ hb) (Kd.R_lower (Kd.R_new' (Kd.R_new' ho_ (Kd.R_lt (kqR A2.o))) (Kd.R_lt (kqR Af.o))) (aH (bq1 HB.o A3.o))) (kb A1 hb) (aC (bq1 HB.o A3.o) hb);clear A2 Af A1 HB;obtain ⟨A2,Af,Bi,A1,HB⟩:=n_;(try clear hb ho_))|((with_reducible refine aE (f:=66) rfl ?_);have:=z3;refine gc (some 34) (aY.calls k _ _ l0 Ag _ _ Bl Ad _ (cq (Kd.C_below B3.o HB.o)) Bk.o (cq (Kd.R_reads' A2.o).2.2) ((Kd.R_reads' A2.o).2.1) Ay.o) Try.func66 ?_;rintro e w_ ⟨Cg,rfl,ho_,hb⟩;refine ⟨_,rfl,?_⟩;have n_:=ak4 (re_ A2 ho_ hb) (rn_ ho_ A2 (bq1 HB.o A3.o)) (kb A1 hb) (aC (bq1 HB.o A3.o) hb);clear A2 A1 HB;obtain ⟨A2,Bj,A1,HB⟩:=n_;(try clear hb ho_))|((with_reducible refine aI (N:=24) rfl ?_);refine gJ ?hg (N:=24) ?hd 9 22 5 (x:=.tmp 23) ?ho (s:=Ah) (y:=Ba) Bb.o ?hx Try.underlying9 Try.underlying22 Try.underlying5 (by have h_:(Ah.size:Int)<(140737488355328:Int):=oda;omega) ?_;(case hd=>rfl);(case hg=>rfl);(case ho=>rfl);(case hx=>first|(go_simp;done)|(go_simp;rfl));intro C4 C5 w_ hs_ hl_ hb;have n_:=ak5 (rb A2 hb) (kb A1 hb) (aC (bq1 HB.o A3.o) hb) hs_ hl_;clear A2 A1 HB;obtain ⟨A2,A1,HB,Ac,B1⟩:=n_;clear hb hs_ hl_;obtain ⟨A4,A5,A6,A7,A8,A9,Aa,Ab⟩:=cl4 A1.o)|((with_reducible refine aE (f:=65) rfl ?_);refine gc (some 29) (dM.calls k _ _ Ai Ax _ (cq (Kd.C_below Ak.o HB.o)) Al.o C9.o) Try.func65 ?_;rintro e w_ ⟨Ch,rfl,ho_,hb⟩;refine ⟨_,rfl,?_⟩;have n_:=ak4 (re_ A2 ho_ hb) (rn_ ho_ A2 (bq1 HB.o A3.o)) (kb A1 hb) (aC (bq1 HB.o A3.o) hb);clear A2 A1 HB;obtain ⟨A2,Af,A1,HB⟩:=n_;(try clear hb ho_);obtain ⟨Bu,Bv,B2⟩:=Kd.R_slice Af.o;subst B2;obtain ⟨A4,A5,A6,A7,A8,A9,Aa,Ab⟩:=cl4 A1.o))
  first
  | go_ret
    exact ⟨_,rq,by refine kr ?_;exact Kd.R_mono Bh.o (fun _ hk=>trivial),bq1 HB.o A3.o⟩
  | go_ret
    exact ⟨_,rq,by refine kr ?_;exact Kd.R_mono Bg.o (fun _ hk=>trivial),bq1 HB.o A3.o⟩
  | go_ret
    exact ⟨_,rq,by refine kr ?_;exact Kd.R_mono Bj.o (fun _ hk=>trivial),bq1 HB.o A3.o⟩
  | go_ret
    exact ⟨_,rq,by refine kr ?_;exact Kd.R_mono Bi.o (fun _ hk=>trivial),bq1 HB.o A3.o⟩
  | go_ret
    exact ⟨_,rq,kqR Bf.o,bq1 HB.o A3.o⟩
end Go.Proofs.Ythhnfmbfgplelaa.XFnMsgsRead
