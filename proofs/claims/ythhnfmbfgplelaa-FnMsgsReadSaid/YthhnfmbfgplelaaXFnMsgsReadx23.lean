/- The functions that one law reaches, as Lean functions, with their walks: printed by a program of this seat (wip/tools) out of the translation. -/
import Derived.Test.YthhnfmbfgplelaaXFnMsgsReadx0
import Derived.Test.YthhnfmbfgplelaaXFnMsgsReadx14
import Derived.Test.YthhnfmbfgplelaaXFnMsgsReadx22
namespace Go.Proofs.Ythhnfmbfgplelaa.XFnMsgsRead
open Go.RowKit Go.Proofs.YthhnfmbfgplelaaW.PrintWords Go.Proofs.YthhnfmbfgplelaaW.PrintLast Go.Proofs.YthhnfmbfgplelaaW.PrintMore
attribute [local go_sem] cL cM dC dD cB cC cN cO
set_option maxHeartbeats 8000000
set_option maxRecDepth 100000
set_option linter.unusedVariables false
set_option linter.unusedSimpArgs false
def eK.j0:Nat→Int→Bool→List Int→Int→Int→Option (Int × Int × ByteArray × List Int × Int × Int)
 |0,_,_,_,_,_=>none
 |k+1,x4,x8,A0,A1,A2=>if x8=true then ((fE.f A0 A1 A2).bind fun A4=>((cH.f A4.1).bind fun A8=>((fP.f A8).bind fun A3=>(some (A3.1,A3.2.1,A3.2.2.1,A3.2.2.2,A4.2.1,A4.2.2))))) else (if x4=3 then ((eY.f A0 A1 A2 (([(⟨#[]⟩:ByteArray),(⟨#[97]⟩:ByteArray),(⟨#[121,97,114,100]⟩:ByteArray),(⟨#[0]⟩:ByteArray)]:List ByteArray))).bind fun A5=>(some (4,0,A5.1,([]:List Int),A5.2.1,A5.2.2))) else (if x4=4 then ((dN.f k A0 A1 A2).bind fun A6=>(some (6,0,(⟨#[]⟩:ByteArray),A6.1,A6.2.1,A6.2.2))) else ((cI.f A0 A1 A2 (([128,130]:List Int))).bind fun A7=>(some (A7.1,0,(⟨#[]⟩:ByteArray),([]:List Int),A7.2.1,A7.2.2)))))
def eK.f (k:Nat) (A1:List Int) (A2:Int) (A3:Int):Option (Int × Int × ByteArray × List Int × Int × Int):=(bC.f A1 A2 A3 6).bind fun A0=>(if A0.1=0 then (some (5,0,(⟨#[]⟩:ByteArray),([]:List Int),A0.2.1,A0.2.2)) else (if A0.1=1 then (eK.j0 k A0.1 (A0.1==1) A1 A0.2.1 A0.2.2) else (eK.j0 k A0.1 (A0.1==2) A1 A0.2.1 A0.2.2)))
theorem eK.calls (k:Nat) (g:Nat) (A7:List Int) (Ao:Int) (Ap:Int) (r1:Int) (r2:Int) (r3:ByteArray) (r4:List Int) (r5:Int) (r6:Int) (w0 w:World) (hI:aA w0 w g A7 Ao Ap) (hB:Below w0.heap.size w0 w) (h:eK.f k A7 Ao Ap=some (r1,r2,r3,r4,r5,r6)):
 Calls Try.prog 105 #[.pointer (some ⟨g,0,none⟩)] w fun e w'=>∃Ce:Value,e=.returned (.agg #[.int .i64 r1,.int .i64 r2,.string r3,Ce])∧Kd.R (Kd.int .i64) 3 w' w.heap.size (fun _=>True) Ce r4∧aA w0 w' g A7 r5 r6∧Below w0.heap.size w0 w'∧KeepBut w w' g none:=by
 have Ci:=Try.underlying29
 have A2:=am hI
 have HK:=am (KeepBut.refl w g none)
 have HL:=am hB.size
 clear hI
 have Cf:=am hB.size
 have HB:=am hB
 clear hB
 have H:=h
 clear h
 unfold eK.f at H
 replace H:=be H
 obtain ⟨⟨Ai,A8,A9⟩,Cg,H⟩:=H
 try dsimp only at H
 replace H:=iq H
 rcases H with ⟨-,Bu,Bv,H⟩|⟨c3,Bu,Bv,H⟩
 · simp only [lW,lX] at H
   obtain ⟨rfl,rfl,rfl,rfl,rfl,rfl⟩:=H
   go_enter Try.func105,Try.ntmps105
   go_wp2_with (first|((with_reducible refine aI (N:=2) rfl ?_);refine bxe 2 #[.int .i64 0,.int .i64 0,.string (⟨#[]⟩:ByteArray),.slice none 0 0] 29 ?_;intro A5 hg w4 hbox hb;have n_:=ak8 (aA.below (aA.q0 A2.o) hb) (KeepBut.trans (kp0 HK.o) (KeepBut.of_below hb g none) (.inl rfl)) (aC (bq1 HB.o (aA.ge A2.o)) hb) hbox ((by rw [hg];exact (bP (w:=w) (g:=g) (row:=none) (kp0 HK.o)):w.heap.size≤A5)) ((Nat.le_trans Cf.o (by rw [hg];exact (bP (w:=w) (g:=g) (row:=none) (kp0 HK.o)):w.heap.size≤A5):w0.heap.size≤A5)) ((by rw [hg];exact Nat.ne_of_lt (aA.lt (show aA w0 _ g A7 Ao Ap from aA.q0 A2.o)):g≠A5)) ((by rw [hg];exact Nat.ne_of_gt (aA.lt (show aA w0 _ g A7 Ao Ap from aA.q0 A2.o)):A5≠g));clear A2 HK HB;obtain ⟨A2,HK,HB,A0,A3,A6,A1,A4⟩:=n_;clear hb hbox hg)|((with_reducible refine aE (f:=122) rfl ?_);refine gc (some 4) (bC.calls g A7 Ao Ap 6 Ai A8 A9 w0 _ (aA.q1 A2.o A1.o) (bq2 HB.o (aA.ge A2.o) A6.o) Cg.o) Try.func122 ?_;rintro e w5 ⟨rfl,hi,hb,hk⟩;refine ⟨_,rfl,?_⟩;have n_:=ak4 (KeepBut.blk hk (zb A0.o) A4.o (by simp)) (KeepBut.trans (kp1 HK.o A3.o) hk (.inl rfl)) hb hi;clear A0 HK HB A2;obtain ⟨A0,HK,HB,A2⟩:=n_;(try clear hb hk hi);have Cj:=A4.o;have Ck:=A1.o;obtain ⟨Bi,Bj,Bk,Bl,Bm,Bn,Bo,Bp⟩:=cl4 A0.o))
   refine bodyPost_ret (results_cell_row rfl _ _ A5 29 #[.int .i64 5,.int .i64 0,.string (⟨#[]⟩:ByteArray),.slice none 0 0] (0,0) _ rfl (by refine zr ?_;exact bp4 (zb A0.o)) Try.underlying29 rfl (by kernel_rfl)) rfl ?_
   exact ⟨_,rq,rn,aA.q1 A2.o A1.o,bq2 HB.o (aA.ge A2.o) A6.o,kp1 HK.o A3.o⟩
 have C7:=am H
 clear H
 go_enter Try.func105,Try.ntmps105
 go_upto_if 8 with (first|((with_reducible refine aI (N:=2) rfl ?_);refine bxe 2 #[.int .i64 0,.int .i64 0,.string (⟨#[]⟩:ByteArray),.slice none 0 0] 29 ?_;intro A5 hg w9 hbox hb;have n_:=ak8 (aA.below (aA.q0 A2.o) hb) (KeepBut.trans (kp0 HK.o) (KeepBut.of_below hb g none) (.inl rfl)) (aC (bq1 HB.o (aA.ge A2.o)) hb) hbox ((by rw [hg];exact (bP (w:=w) (g:=g) (row:=none) (kp0 HK.o)):w.heap.size≤A5)) ((Nat.le_trans Cf.o (by rw [hg];exact (bP (w:=w) (g:=g) (row:=none) (kp0 HK.o)):w.heap.size≤A5):w0.heap.size≤A5)) ((by rw [hg];exact Nat.ne_of_lt (aA.lt (show aA w0 _ g A7 Ao Ap from aA.q0 A2.o)):g≠A5)) ((by rw [hg];exact Nat.ne_of_gt (aA.lt (show aA w0 _ g A7 Ao Ap from aA.q0 A2.o)):A5≠g));clear A2 HK HB;obtain ⟨A2,HK,HB,A0,A3,A6,A1,A4⟩:=n_;clear hb hbox hg)|((with_reducible refine aE (f:=122) rfl ?_);refine gc (some 4) (bC.calls g A7 Ao Ap 6 Ai A8 A9 w0 _ (aA.q1 A2.o A1.o) (bq2 HB.o (aA.ge A2.o) A6.o) Cg.o) Try.func122 ?_;rintro e Cw ⟨rfl,hi,hb,hk⟩;refine ⟨_,rfl,?_⟩;have n_:=ak4 (KeepBut.blk hk (zb A0.o) A4.o (by simp)) (KeepBut.trans (kp1 HK.o A3.o) hk (.inl rfl)) hb hi;clear A0 HK HB A2;obtain ⟨A0,HK,HB,A2⟩:=n_;(try clear hb hk hi)))
 (try simp only [Act.put,lT,lU,lV])
 go_cut [8] (fun v8 wc=>∃(kq:Nat) (B5:Bool),v8=.bool B5∧Aside0 (eK.j0 kq Ai B5 A7 A8 A9=some (r1,r2,r3,r4,r5,r6))∧Aside0 (kq≤k)∧Aside0 (wc.heap[A5]? =some (.cells #[.int .i64 0,.int .i64 0,.string (⟨#[]⟩:ByteArray),(.slice none 0 0)] 29 (0,0)))∧Aside0 (aA w0 wc g A7 A8 A9)∧Aside0 (KeepBut w wc g none)∧Aside0 (Below w0.heap.size w0 wc))
 case first=>
  have H:=C7.o
  clear C7
  replace H:=iq' H
  rcases H with ⟨Cl,An,B6,H⟩|⟨-,An,B6,H⟩
  · (first|rw [An]|(simp only [aK,aU];rw [An])|skip)
    have H':=am H
    clear H
    go_wp2
    go_meet
    case rel=>exact ⟨_,((Ai==2)),sq,H',⟨by first|omega|exact lZ _⟩,⟨zq A0.o⟩,⟨aA.q1 A2.o A1.o⟩,⟨kp1 HK.o A3.o⟩,⟨bq2 HB.o (aA.ge A2.o) A6.o⟩⟩
  (first|rw [An]|(simp only [aK,aU];rw [An])|skip)
  have H':=am H
  clear H
  go_wp2
  go_meet
  case rel=>exact ⟨_,((Ai==1)),sq,H',⟨by first|omega|exact lZ _⟩,⟨zq A0.o⟩,⟨aA.q1 A2.o A1.o⟩,⟨kp1 HK.o A3.o⟩,⟨bq2 HB.o (aA.ge A2.o) A6.o⟩⟩
 case rest=>
  clear C7
  try clear c1
  try clear p2
  try clear c3
  try clear Bu
  try clear Bv
  try clear c6
  try clear Cx
  try clear Cl
  try clear An
  try clear B6
  try clear Bi
  try clear Bj
  try clear Bk
  try clear Bl
  try clear Bm
  try clear Bn
  try clear Bo
  try clear Bp
  obtain ⟨kq,B5,rfl,HA,Cy,A0,A2,HK,HB⟩:=hcut
  cases kq with
  |zero=>exact absurd HA.o (by simp [eK.j0])
  |succ Ch=>
   have H:=HA.o
   clear HA
   simp only [eK.j0] at H
   rcases Decidable.em (B5=true) with Bw|Bw
   subst Bw
   replace H:((fE.f A7 A8 A9).bind fun As=>((cH.f As.1).bind fun Aq=>((fP.f Aq).bind fun Ar=>(some (Ar.1,Ar.2.1,Ar.2.2.1,Ar.2.2.2,As.2.1,As.2.2)))))=some (r1,r2,r3,r4,r5,r6):=by rw [if_pos rfl] at H;exact H
   replace H:=be H
   obtain ⟨⟨B7,B8,B9⟩,Cm,H⟩:=H
   try dsimp only at H
   replace H:=be H
   obtain ⟨Aq,Cn,H⟩:=H
   replace H:=be H
   obtain ⟨⟨At,Au,Av,Aw⟩,Co,H⟩:=H
   try dsimp only at H
   rotate_left
   replace Bw:=Bool.eq_false_iff.mpr Bw
   subst Bw
   replace H:(if Ai=3 then ((eY.f A7 A8 A9 (([(⟨#[]⟩:ByteArray),(⟨#[97]⟩:ByteArray),(⟨#[121,97,114,100]⟩:ByteArray),(⟨#[0]⟩:ByteArray)]:List ByteArray))).bind fun Ax=>(some (4,0,Ax.1,([]:List Int),Ax.2.1,Ax.2.2))) else (if Ai=4 then ((dN.f Ch A7 A8 A9).bind fun Ay=>(some (6,0,(⟨#[]⟩:ByteArray),Ay.1,Ay.2.1,Ay.2.2))) else ((cI.f A7 A8 A9 (([128,130]:List Int))).bind fun Az=>(some (Az.1,0,(⟨#[]⟩:ByteArray),([]:List Int),Az.2.1,Az.2.2)))))=some (r1,r2,r3,r4,r5,r6):=by rw [if_neg (show ¬(false=true) by decide)] at H;exact H
   replace H:=iq H
   rcases H with ⟨-,Bx,By,H⟩|⟨Cz,Bx,By,H⟩
   generalize Ba:((([(⟨#[]⟩:ByteArray),(⟨#[97]⟩:ByteArray),(⟨#[121,97,114,100]⟩:ByteArray),(⟨#[0]⟩:ByteArray)]:List ByteArray)):List ByteArray)=C8 at H
   have Bb:=am Ba.symm
   clear Ba
   replace H:=be H
   obtain ⟨⟨Bc,Bz,C0⟩,Cp,H⟩:=H
   try dsimp only at H
   rotate_left
   replace H:=iq H
   rcases H with ⟨-,C1,C2,H⟩|⟨D0,C1,C2,H⟩
   replace H:=be H
   obtain ⟨⟨B0,C3,C4⟩,Cq,H⟩:=H
   try dsimp only at H
   rotate_left
   generalize Bd:((([128,130]:List Int)):List Int)=C9 at H
   have Be:=am Bd.symm
   clear Bd
   replace H:=be H
   obtain ⟨⟨Bf,C5,C6⟩,Cr,H⟩:=H
   try dsimp only at H
   rotate_right
   rotate_right
   rotate_right
   all_goals
    simp only [lW,lX] at H
    obtain ⟨rfl,rfl,rfl,rfl,rfl,rfl⟩:=H
    go_wp2_with (first|((with_reducible refine aE (f:=133) rfl ?_);refine gc (some 12) (fE.calls g A7 A8 A9 B7 B8 B9 w0 _ (aA.q1 A2.o A1.o) (bq2 HB.o (aA.ge A2.o) A6.o) Cm.o) Try.func133 ?_;rintro e w_ ⟨rfl,hi,hb,hk⟩;refine ⟨_,rfl,?_⟩;have n_:=ak4 (KeepBut.blk hk (zb A0.o) A4.o (by simp)) (KeepBut.trans (kp1 HK.o A3.o) hk (.inl rfl)) hb hi;clear A0 HK HB A2;obtain ⟨A0,HK,HB,A2⟩:=n_;(try clear hb hk hi))|((with_reducible refine aE (f:=109) rfl ?_);refine gc (some 13) (cH.calls B7 Aq _ Cn.o) Try.func109 ?_;rintro e w' ⟨rfl,⟨nd,rfl⟩⟩;refine ⟨_,rfl,?_⟩;(try (rw [cQ w_];generalize hq_:World.drewN w_ _=w_;have n_:Aside0 (w_.heap[A5]? =some (.cells #[.int .i64 0,.int .i64 0,.string (⟨#[]⟩:ByteArray),.slice none 0 0] 29 (0,0)))∧Aside0 (aA w0 w_ g A7 B8 B9)∧Aside0 (KeepBut w w_ g none)∧Aside0 (Below w0.heap.size w0 w_):=⟨⟨by rw [← hq_];exact (zq A0.o)⟩,⟨by rw [← hq_];exact (aA.q1 A2.o A1.o)⟩,⟨by rw [← hq_];exact (kp1 HK.o A3.o)⟩,⟨by rw [← hq_];exact (bq2 HB.o (aA.ge A2.o) A6.o)⟩⟩;clear A0 A2 HK HB hq_;obtain ⟨A0,A2,HK,HB⟩:=n_)))|((with_reducible refine aE (f:=135) rfl ?_);refine gc (some 14) (fP.calls Aq At Au Av Aw _ Co.o) Try.func135 ?_;rintro e w_ ⟨Cs,rfl,ho_,hb⟩;refine ⟨_,rfl,?_⟩;have n_:=ak5 (Kd.R_lower ho_ (bP (w:=w) (g:=g) (row:=none) (kp1 HK.o A3.o))) (kb A0 hb) (aA.below (aA.q1 A2.o A1.o) hb) (KeepBut.trans (kp1 HK.o A3.o) (KeepBut.of_below hb g none) (.inl rfl)) (aC (bq2 HB.o (aA.ge A2.o) A6.o) hb);clear A0 A2 HK HB;obtain ⟨Bg,A0,A2,HK,HB⟩:=n_;(try clear hb ho_);obtain ⟨B1,B2,Bq⟩:=Kd.R_slice Bg.o;subst Bq;have Aj:=A4.o;have Ak:=A1.o;obtain ⟨Aa,Ab,Ac,Ad,Ae,Af,Ag,Ah⟩:=cl4 A0.o)|((with_reducible refine aI (N:=18) rfl ?_);refine Kd.R_lit Kd.string _ 9 ?hg (N:=18) ?hd (xs:=([(⟨#[]⟩:ByteArray),(⟨#[97]⟩:ByteArray),(⟨#[121,97,114,100]⟩:ByteArray),(⟨#[0]⟩:ByteArray)]:List ByteArray)) (inner:=[.string (⟨#[]⟩:ByteArray),.string (⟨#[97]⟩:ByteArray),.string (⟨#[121,97,114,100]⟩:ByteArray),.string (⟨#[0]⟩:ByteArray)]) (ok:=fun _=>True) (okp:=fun _=>True) ?hr ?hp (fun _ hk=>hk) trivial (Below.refl _ _) (lZ _) (by simp) ?_;(case hd=>rfl);(case hg=>rfl);(case hr=>exact gs);(case hp=>exact (a9.one (show Kd.M Kd.string _ _ _ (⟨#[]⟩:ByteArray) [.string (⟨#[]⟩:ByteArray)] from rfl) (a9.one (show Kd.M Kd.string _ _ _ (⟨#[97]⟩:ByteArray) [.string (⟨#[97]⟩:ByteArray)] from rfl) (a9.one (show Kd.M Kd.string _ _ _ (⟨#[121,97,114,100]⟩:ByteArray) [.string (⟨#[121,97,114,100]⟩:ByteArray)] from rfl) (a9.one (show Kd.M Kd.string _ _ _ (⟨#[0]⟩:ByteArray) [.string (⟨#[0]⟩:ByteArray)] from rfl) (a9.none _ _))))));intro Ct w_ ho_ hb hg_ hnew_;clear hg_ hnew_;(first|rw [← Bb.o] at ho_|(simp only [Int.reduceToNat] at ho_;rw [← Bb.o] at ho_));have n_:=ak5 (Kd.R_lower ho_ (bP (w:=w) (g:=g) (row:=none) (kp1 HK.o A3.o))) (kb A0 hb) (aA.below (aA.q1 A2.o A1.o) hb) (KeepBut.trans (kp1 HK.o A3.o) (KeepBut.of_below hb g none) (.inl rfl)) (aC (bq2 HB.o (aA.ge A2.o) A6.o) hb);clear A0 A2 HK HB;obtain ⟨Al,A0,A2,HK,HB⟩:=n_;clear hb ho_;obtain ⟨Ca,Cb,Br⟩:=Kd.R_slice Al.o;subst Br)|((with_reducible refine aE (f:=114) rfl ?_);refine gc (some 19) (eY.calls g A7 A8 A9 _ _ C8 Bc Bz C0 w0 _ (aA.q1 A2.o A1.o) (bq2 HB.o (aA.ge A2.o) A6.o) (cq (Kd.R_reads' Al.o).2.2) ((Kd.R_reads' Al.o).2.1) (eQ (aA.own_ne A2.o Al.o (by decide))) Cp.o) Try.func114 ?_;rintro e w_ ⟨rfl,hi,hb,hk⟩;refine ⟨_,rfl,?_⟩;have n_:=ak5 (KeepBut.blk hk (zb A0.o) A4.o (by simp)) (Kd.R_mono (Kd.R_keep (aA.apart (show aA w0 _ g A7 A8 A9 from aA.q1 A2.o A1.o) (kqR Al.o) (by decide)) hk (fun _ h=>h.2)) (fun _ h=>h.1)) (KeepBut.trans (kp1 HK.o A3.o) hk (.inl rfl)) hb hi;clear A0 Al HK HB A2;obtain ⟨A0,Al,HK,HB,A2⟩:=n_;(try clear hb hk hi);have Aj:=A4.o;have Ak:=A1.o;obtain ⟨Aa,Ab,Ac,Ad,Ae,Af,Ag,Ah⟩:=cl4 A0.o)|((with_reducible refine aE (f:=136) rfl ?_);refine gc (some 24) (dN.calls Ch g A7 A8 A9 B0 C3 C4 w0 _ (aA.q1 A2.o A1.o) (bq2 HB.o (aA.ge A2.o) A6.o) Cq.o) Try.func136 ?_;rintro e w_ ⟨Cu,rfl,ho_,hi,hb,hk⟩;refine ⟨_,rfl,?_⟩;have n_:=ak5 (KeepBut.blk hk (zb A0.o) A4.o (by simp)) (Kd.R_lower ho_ (bP (w:=w) (g:=g) (row:=none) (kp1 HK.o A3.o))) (KeepBut.trans (kp1 HK.o A3.o) hk (.inl rfl)) hb hi;clear A0 HK HB A2;obtain ⟨A0,Bh,HK,HB,A2⟩:=n_;(try clear hb hk hi ho_);obtain ⟨B3,B4,Bs⟩:=Kd.R_slice Bh.o;subst Bs;have Aj:=A4.o;have Ak:=A1.o;obtain ⟨Aa,Ab,Ac,Ad,Ae,Af,Ag,Ah⟩:=cl4 A0.o)|((with_reducible refine aI (N:=27) rfl ?_);refine Kd.R_lit (Kd.int .i64) _ 3 ?hg (N:=27) ?hd (xs:=([128,130]:List Int)) (inner:=[.int .i64 128,.int .i64 130]) (ok:=fun _=>True) (okp:=fun _=>True) ?hr ?hp (fun _ hk=>hk) trivial (Below.refl _ _) (lZ _) (by simp) ?_;(case hd=>rfl);(case hg=>rfl);(case hr=>exact gs);(case hp=>exact (a9.one (ri 128) (a9.one (ri 130) (a9.none _ _))));intro Cv w_ ho_ hb hg_ hnew_;clear hg_ hnew_;(first|rw [← Be.o] at ho_|(simp only [Int.reduceToNat] at ho_;rw [← Be.o] at ho_));have n_:=ak5 (Kd.R_lower ho_ (bP (w:=w) (g:=g) (row:=none) (kp1 HK.o A3.o))) (kb A0 hb) (aA.below (aA.q1 A2.o A1.o) hb) (KeepBut.trans (kp1 HK.o A3.o) (KeepBut.of_below hb g none) (.inl rfl)) (aC (bq2 HB.o (aA.ge A2.o) A6.o) hb);clear A0 A2 HK HB;obtain ⟨Am,A0,A2,HK,HB⟩:=n_;clear hb ho_;obtain ⟨Cc,Cd,Bt⟩:=Kd.R_slice Am.o;subst Bt)|((with_reducible refine aE (f:=86) rfl ?_);refine gc (some 28) (cI.calls g A7 A8 A9 _ _ C9 Bf C5 C6 w0 _ (aA.q1 A2.o A1.o) (bq2 HB.o (aA.ge A2.o) A6.o) (cq (Kd.R_reads' Am.o).2.2) ((Kd.R_reads' Am.o).2.1) (eQ (aA.own_ne A2.o Am.o (by decide))) Cr.o) Try.func86 ?_;rintro e w_ ⟨rfl,hi,hb,hk⟩;refine ⟨_,rfl,?_⟩;have n_:=ak5 (KeepBut.blk hk (zb A0.o) A4.o (by simp)) (Kd.R_mono (Kd.R_keep (aA.apart (show aA w0 _ g A7 A8 A9 from aA.q1 A2.o A1.o) (kqR Am.o) (by decide)) hk (fun _ h=>h.2)) (fun _ h=>h.1)) (KeepBut.trans (kp1 HK.o A3.o) hk (.inl rfl)) hb hi;clear A0 Am HK HB A2;obtain ⟨A0,Am,HK,HB,A2⟩:=n_;(try clear hb hk hi);have Aj:=A4.o;have Ak:=A1.o;obtain ⟨Aa,Ab,Ac,Ad,Ae,Af,Ag,Ah⟩:=cl4 A0.o))
    first
    | refine bodyPost_ret (results_cell_row rfl _ _ A5 29 #[.int .i64 6,.int .i64 0,.string (⟨#[]⟩:ByteArray),.slice B3 B0.length B4] (0,0) _ rfl (by refine zr ?_;exact bp4 (zb A0.o)) Try.underlying29 rfl (by kernel_rfl)) rfl ?_
      exact ⟨_,rq,by refine kr ?_;exact Kd.R_mono (rf4 A5 (.int .i64 6) (.int .i64 0) (.string (⟨#[]⟩:ByteArray)) (.slice B3 B0.length B4) (Kd.R_types Bh.o A0.o (by decide)) (fun _ hk=>hk.2)) (fun _ hk=>trivial),aA.q1 A2.o A1.o,bq2 HB.o (aA.ge A2.o) A6.o,kp1 HK.o A3.o⟩
    | refine bodyPost_ret (results_cell_row rfl _ _ A5 29 #[.int .i64 At,.int .i64 Au,.string Av,.slice B1 Aw.length B2] (0,0) _ rfl (by refine zr ?_;exact bp4 (zb A0.o)) Try.underlying29 rfl (by kernel_rfl)) rfl ?_
      exact ⟨_,rq,by refine kr ?_;exact Kd.R_mono (rf4 A5 (.int .i64 At) (.int .i64 Au) (.string Av) (.slice B1 Aw.length B2) (Kd.R_types Bg.o A0.o (by decide)) (fun _ hk=>hk.2)) (fun _ hk=>trivial),aA.q1 A2.o A1.o,bq2 HB.o (aA.ge A2.o) A6.o,kp1 HK.o A3.o⟩
    | refine bodyPost_ret (results_cell_row rfl _ _ A5 29 #[.int .i64 Bf,.int .i64 0,.string (⟨#[]⟩:ByteArray),.slice none 0 0] (0,0) _ rfl (by refine zr ?_;exact bp4 (zb A0.o)) Try.underlying29 rfl (by kernel_rfl)) rfl ?_
      exact ⟨_,rq,rn,aA.q1 A2.o A1.o,bq2 HB.o (aA.ge A2.o) A6.o,kp1 HK.o A3.o⟩
    | refine bodyPost_ret (results_cell_row rfl _ _ A5 29 #[.int .i64 4,.int .i64 0,.string Bc,.slice none 0 0] (0,0) _ rfl (by refine zr ?_;exact bp4 (zb A0.o)) Try.underlying29 rfl (by kernel_rfl)) rfl ?_
      exact ⟨_,rq,rn,aA.q1 A2.o A1.o,bq2 HB.o (aA.ge A2.o) A6.o,kp1 HK.o A3.o⟩
end Go.Proofs.Ythhnfmbfgplelaa.XFnMsgsRead
