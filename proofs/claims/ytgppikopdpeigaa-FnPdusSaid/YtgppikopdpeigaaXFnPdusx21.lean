/- The functions that one law reaches, as Lean functions, with their walks: printed by a program of this seat (wip/tools) out of the translation. -/
import Derived.Test.YtgppikopdpeigaaXFnPdusx0
import Derived.Test.YtgppikopdpeigaaXFnPdusx10
import Derived.Test.YtgppikopdpeigaaXFnPdusx12
import Derived.Test.YtgppikopdpeigaaXFnPdusx20
namespace Go.Proofs.Ytgppikopdpeigaa.XFnPdus
open Go.RowKit Go.Proofs.YtgppikopdpeigaaW.PrintWords Go.Proofs.YtgppikopdpeigaaW.PrintLast Go.Proofs.YtgppikopdpeigaaW.PrintMore
attribute [local go_sem] cO cP dH dI cC cD cQ cR
set_option linter.unusedVariables false
set_option linter.unusedSimpArgs false
set_option maxHeartbeats 8000000
set_option maxRecDepth 100000
mutual
def cG.j0:Nat→List Int→Int→Option (Int × Bool)
 |0,_,_=>none
 |k+1,x0,x4=>cG.l0 k x0 x4 1
def cG.l0:Nat→List Int→Int→Int→Option (Int × Bool)
 |0,_,_,_=>none
 |k+1,x0,x4,x5=>if x5<(x0.length:Int) then (if 0≤x5 then (cG.l0 k x0 (Go.bits .or .i64 (wrap64 (x4*256)) (wrap64 (rd x0 x5))) (wrap64 (x5+1))) else (none)) else ((cJ.f k x4).bind fun A0=>(if (A0.length:Int)=(x0.length:Int) then (some (x4,true)) else (some (0,false))))
end
def cG.f (k:Nat) (l0:List Int):Option (Int × Bool):=(dA.f (l0.length:Int) 1 4).bind fun A0=>(if A0=true then (if 0<(l0.length:Int) then (if (wrap64 (rd l0 0))>127 then (cG.j0 k l0 (wrap64 ((wrap64 (rd l0 0)) - 256))) else (cG.j0 k l0 (wrap64 (rd l0 0)))) else (none)) else (some (0,false)))
theorem cG.calls (k:Nat) (A0:Option Addr) (c0:Nat) (l0:List Int) (r1:Int) (r2:Bool) (w:World) (Au:Kd.C (Kd.int .u8) w A0 l0.length l0) (Av:l0.length≤c0) (h:cG.f k l0=some (r1,r2)):
 Calls Try.prog 60 #[.slice A0 l0.length c0] w fun e w'=>e=.returned (.tuple #[.int .i64 r1,.bool r2])∧Below w.heap.size w w':=by
 have Aw:=am Au
 have B4:=am Av
 clear Au Av
 have HB:=am (Below.refl w.heap.size w)
 have H:=h
 clear h
 unfold cG.f at H
 replace H:=be H
 obtain ⟨Af,Ax,H⟩:=H
 cases Af
 · replace H:=iF H
   simp only [k4,k5] at H
   obtain ⟨rfl,rfl⟩:=H
   go_enter Try.func60,Try.ntmps60
   go_wp2_with (first|((with_reducible refine aE (f:=66) rfl ?_);refine gc (some 8) (dA.calls (l0.length:Int) 1 4 false _ Ax.o) Try.func66 ?_;rintro e w' ⟨rfl,⟨nd,rfl⟩⟩;refine ⟨_,rfl,?_⟩))
   go_ret2
   exact ⟨rq,bq HB.o⟩
 replace H:=iT H
 replace H:=nl H
 obtain ⟨c4,Ag,H⟩:=H
 have Ah:decide (0<l0.length)=true:=k8 (by omega)
 clear c4
 have Ao:=am H
 clear H
 go_enter Try.func60,Try.ntmps60
 go_upto_if 15 with (first|((with_reducible refine aE (f:=66) rfl ?_);refine gc (some 8) (dA.calls (l0.length:Int) 1 4 true _ Ax.o) Try.func66 ?_;rintro e w' ⟨rfl,⟨nd,rfl⟩⟩;refine ⟨_,rfl,?_⟩;have A5:0≤(0:Int):=(by omega);have A6:0<(l0.length:Int):=oda;obtain ⟨Ai,Ap,A1⟩:=Kd.at_int Aw.o 0 A5 A6;cases Ap;have Ay:(0<l0.length)=True:=eq_true (by omega);(try rw [show ((0:Int)).toNat=0 from rfl] at A1);(try rw [Addr.add_zero'] at A1);replace A5:=eq_true A5;replace A6:=eq_true A6))
 (try simp only [Act.put,kX,kY,kZ])
 go_cut [4] (fun v4 wc=>∃(kq:Nat) (A8:Int),v4=.int .i64 A8∧Aside0 (cG.j0 kq l0 A8=some (r1,r2))∧Aside0 (kq≤k)∧Aside0 (Below w.heap.size w wc))
 case first=>
  have H:=Ao.o
  clear Ao
  replace H:=ig' H
  rcases H with ⟨-,A4,H⟩|⟨-,A4,H⟩
  · (first|rw [A4]|(simp only [aI,aK];rw [A4])|skip)
    have H':=am H
    clear H
    go_wp2
    go_meet
    case rel=>exact ⟨_,(wrap64 (rd l0 0)),sq,H',⟨by first|omega|exact k7 _⟩,⟨bq HB.o⟩⟩
  (first|rw [A4]|(simp only [aI,aK];rw [A4])|skip)
  have H':=am H
  clear H
  go_wp2
  go_meet
  case rel=>exact ⟨_,(wrap64 ((wrap64 (rd l0 0)) - 256)),sq,H',⟨by first|omega|exact k7 _⟩,⟨bq HB.o⟩⟩
 case rest=>
  clear Ao
  try clear p2
  try clear c3
  try clear c4
  try clear Ag
  try clear Ah
  try clear c6
  try clear A4
  try clear p6
  try clear A1
  try clear A5
  try clear A6
  obtain ⟨kq,A8,rfl,HA,Az,HB⟩:=hcut
  cases kq with
  |zero=>exact absurd HA.o (by simp [cG.j0])
  |succ B0=>
   have H:=HA.o
   clear HA
   simp only [cG.j0] at H
   have H':=am H
   clear H
   go_wp2
   go_loopg [4,5] B0 (fun kq v4 v5 w'=>∃(A7:Int) (A3:Int),v4=.int .i64 A7∧v5=.int .i64 A3∧Aside0 (cG.l0 kq l0 A7 A3=some (r1,r2))∧Aside0 (kq≤B0)∧Aside0 (Below w.heap.size w w'))
   case atStart=>exact ⟨(A8),(1),sq,sq,H',⟨k7 _⟩,⟨bq HB.o⟩⟩
   case round=>
    clear H'
    try clear p2
    try clear c3
    try clear c4
    try clear Ag
    try clear Ah
    try clear c6
    try clear A4
    try clear p6
    try clear A1
    try clear p2
    try clear p6
    try clear A5
    try clear A6
    obtain ⟨A7,A3,rfl,rfl,HA,B1,HB⟩:=hrel
    cases gk with
    |zero=>exact absurd HA.o (by simp [cG.l0])
    |succ k2=>
     have H:=HA.o
     clear HA
     simp only [cG.l0] at H
     replace H:=il H
     rcases H with ⟨-,Aq,H⟩|⟨-,Aq,H⟩
     · replace H:=nl H
       obtain ⟨-,B2,H⟩:=H
       have H':=am H
       clear H
       have Aa:0≤(A3:Int):=oda
       have Ab:A3<(l0.length:Int):=oda
       obtain ⟨Aj,Ar,A2⟩:=Kd.at_int Aw.o A3 Aa Ab
       obtain rfl:Ai=Aj:=(by injection Ar)
       replace A2:=(HB.o.cell (kW w _ A2)).trans A2
       replace Aa:=eq_true Aa
       replace Ab:=eq_true Ab
       go_wp2
       go_roundg k2
       case measure=>have:=Az.o;have:=B1.o;omega
       case rel=>exact ⟨(Go.bits .or .i64 (wrap64 (A7*256)) (wrap64 (rd l0 A3))),(wrap64 (A3+1)),sq,sq,H',⟨by have:=Az.o;have:=B1.o;omega⟩,⟨bq HB.o⟩⟩
     replace H:=be H
     obtain ⟨Ac,A9,H⟩:=H
     replace H:=iq' H
     rcases H with ⟨Ae,Ak,Al,H⟩|⟨Ae,Ak,Al,H⟩
     have Am:(Ac.length==l0.length)=false:=by first|simpa using Ae|(simp at Ae ⊢;omega)
     rotate_left
     have Am:(Ac.length==l0.length)=true:=by first|simpa using Ae|(simp at Ae ⊢;omega)
     clear Ae
     rotate_right
     all_goals
      simp only [k4,k5] at H
      obtain ⟨rfl,rfl⟩:=H
      go_wp2_with (first|((with_reducible refine aE (f:=68) rfl ?_);refine gc (some 33) (cJ.calls k2 A7 Ac _ A9.o) Try.func68 ?_;rintro e w_ ⟨B3,rfl,ho_,hb⟩;refine ⟨_,rfl,?_⟩;have n_:=ak2 (rl ho_ (bq HB.o)) (aC (bq HB.o) hb);clear HB;obtain ⟨An,HB⟩:=n_;(try clear hb ho_);obtain ⟨As,At,Ad⟩:=Kd.R_slice An.o;subst Ad))
      go_ret2
      exact ⟨rq,bq HB.o⟩
def eK.f (k:Nat) (A2:List Int) (A3:Int) (A4:Bool):Option (Int × Int × Bool):=(bR.f k A2 A3 A4 2).bind fun A0=>((cG.f k A0.1).bind fun A1=>(if A0.2.2=true then (some (A1.1,A0.2.1,true)) else (some (A1.1,A0.2.1, !A1.2))))
theorem eK.calls (k:Nat) (g:Nat) (A6:List Int) (A7:Int) (A8:Bool) (r1:Int) (r2:Int) (r3:Bool) (w0 w:World) {Z:Option Addr→Nat→Prop} (hI:aT Z w0 w g A6 A7 A8) (hB:Below w0.heap.size w0 w) (h:eK.f k A6 A7 A8=some (r1,r2,r3)):
 Calls Try.prog 32 #[.pointer (some ⟨g,0,none⟩)] w fun e w'=>e=.returned (.int .i64 r1)∧aT Z w0 w' g A6 r2 r3∧Below w0.heap.size w0 w'∧KeepBut w w' g none:=by
 have A1:=am hI
 have HK:=am (KeepBut.refl w g none)
 have HL:=am hB.size
 clear hI
 have B0:=am hB.size
 have HB:=am hB
 clear hB
 have H:=h
 clear h
 unfold eK.f at H
 replace H:=be H
 obtain ⟨⟨A4,A9,Ae⟩,Ay,H⟩:=H
 try dsimp only at H
 replace H:=be H
 obtain ⟨⟨Aa,Ab⟩,Az,H⟩:=H
 try dsimp only at H
 rcases bt Ae with rfl|rfl
 replace H:=iT H
 have z0:=trivial
 rotate_left
 replace H:=iF H
 have z1:=trivial
 rotate_right
 all_goals
  simp only [k4,k5] at H
  obtain ⟨rfl,rfl,rfl⟩:=H
  go_enter Try.func32,Try.ntmps32
  go_wp2_with (first|((with_reducible refine aE (f:=33) rfl ?_);have:=z1;refine gc (some 7) (bR.calls (Z:=Z) k g A6 A7 A8 2 A4 A9 false w0 _ (aT.q0 A1.o) (bq1 HB.o (aT.ge A1.o)) Ay.o) Try.func33 ?_;rintro e w_ ⟨Ao,rfl,ho_,hi,hb,hk⟩;refine ⟨_,rfl,?_⟩;have n_:=ak4 (Kd.R_lower ho_ (a8 (w:=w) (g:=g) (row:=none) (kp0 HK.o))) (KeepBut.trans (kp0 HK.o) hk (.inl rfl)) hb hi;clear HK HB A1;obtain ⟨A0,HK,HB,A1⟩:=n_;(try clear hb hk hi ho_);obtain ⟨Ac,Ad,A3⟩:=Kd.R_slice A0.o;subst A3)|((with_reducible refine aE (f:=33) rfl ?_);have:=z0;refine gc (some 7) (bR.calls (Z:=Z) k g A6 A7 A8 2 A4 A9 true w0 _ (aT.q0 A1.o) (bq1 HB.o (aT.ge A1.o)) Ay.o) Try.func33 ?_;rintro e w_ ⟨Ao,rfl,ho_,hi,hb,hk⟩;refine ⟨_,rfl,?_⟩;have n_:=ak4 (Kd.R_lower ho_ (a8 (w:=w) (g:=g) (row:=none) (kp0 HK.o))) (KeepBut.trans (kp0 HK.o) hk (.inl rfl)) hb hi;clear HK HB A1;obtain ⟨A0,HK,HB,A1⟩:=n_;(try clear hb hk hi ho_);obtain ⟨Ac,Ad,A3⟩:=Kd.R_slice A0.o;subst A3)|((with_reducible refine aE (f:=60) rfl ?_);have:=z1;refine gc (some 8) (cG.calls k _ _ A4 Aa Ab _ (cq (Kd.R_reads' A0.o).2.2) ((Kd.R_reads' A0.o).2.1) Az.o) Try.func60 ?_;rintro e w_ ⟨rfl,hb⟩;refine ⟨_,rfl,?_⟩;have n_:=ak4 (rb A0 hb) (aT.below (aT.q0 A1.o) hb) (KeepBut.trans (kp0 HK.o) (KeepBut.of_below hb g none) (.inl rfl)) (aC (bq1 HB.o (aT.ge A1.o)) hb);clear A0 A1 HK HB;obtain ⟨A0,A1,HK,HB⟩:=n_;(try clear hb);obtain ⟨Ag,Ah,A2,Af,Ai⟩:=A1.o;have Aj:=eB A2;have Ak:=eC A2;have Al:=eD A2;have Am:=aM A2 1;have An:=aM A2 2;clear A2 Af)|((with_reducible refine aE (f:=60) rfl ?_);have:=z0;refine gc (some 8) (cG.calls k _ _ A4 Aa Ab _ (cq (Kd.R_reads' A0.o).2.2) ((Kd.R_reads' A0.o).2.1) Az.o) Try.func60 ?_;rintro e w_ ⟨rfl,hb⟩;refine ⟨_,rfl,?_⟩;have n_:=ak4 (rb A0 hb) (aT.below (aT.q0 A1.o) hb) (KeepBut.trans (kp0 HK.o) (KeepBut.of_below hb g none) (.inl rfl)) (aC (bq1 HB.o (aT.ge A1.o)) hb);clear A0 A1 HK HB;obtain ⟨A0,A1,HK,HB⟩:=n_;(try clear hb);obtain ⟨Ap,Aq,A5,Ar,As⟩:=A1.o;have At:=eB A5;have Au:=eC A5;have Av:=eD A5;have Aw:=aM A5 1;have Ax:=aM A5 2;clear A5 Ar))
  go_ret
  exact ⟨rq,aT.q0 A1.o,bq1 HB.o (aT.ge A1.o),kp0 HK.o⟩
theorem eK.box (k:Nat) (g:Nat) (A0:List Int) (A1:Int) (A2:Bool) (r1:Int) (r2:Int) (r3:Bool) (w:World) (A:Option Addr) (c:Nat) (hb:w.heap[g]? =some (.cells #[.slice A A0.length c,.int .i64 A1,.bool A2] 65 (0,0))) (hC:Kd.C (Kd.int .u8) (tr w g) A A0.length A0) (hc:A0.length≤c) (h:eK.f k A0 A1 A2=some (r1,r2,r3)):
 Calls Try.prog 32 #[.pointer (some ⟨g,0,none⟩)] w fun e w'=>e=.returned (.int .i64 r1)∧w'.heap[g]? =some (.cells #[.slice A A0.length c,.int .i64 r2,.bool r3] 65 (0,0))∧Kq w w' g:=by
 have hg:g≤w.heap.size:=Nat.le_of_lt (e8 hb)
 refine (eK.calls (Z:=fun A' c'=>A'=A∧c'=c) k g A0 A1 A2 r1 r2 r3 (tr w g) w ⟨A,c,hb,by rw [gB hg];exact k7 _,⟨hC,hc⟩,rfl,rfl⟩ (gF hg) h).mono ?_
 rintro e w' ⟨rfl,⟨A',c',hb',_,_,hA,hc'⟩,hB,hk⟩
 exact ⟨rfl,by rw [hA,hc'] at hb';exact hb',Kq.of hg hB hk⟩
mutual
def bO.l0:Nat→List Int→List Int→Int→Option (List Int × Bool)
 |0,_,_,_=>none
 |k+1,x0,x4,x5=>if x5<(x0.length:Int) then (bO.j1 k x0 x4 x5 (decide ((x4.length:Int)≤10))) else (bO.j1 k x0 x4 x5 false)
def bO.j1:Nat→List Int→List Int→Int→Bool→Option (List Int × Bool)
 |0,_,_,_,_=>none
 |k+1,x0,x4,x5,A2=>if A2=true then (bO.l1 k x0 x4 x5 0 0 true) else (if x5=(x0.length:Int) then ((cI.f k x4).bind fun A0=>(if A0=true then (some (x4,true)) else (some ((([]:List Int)),false)))) else (some ((([]:List Int)),false)))
def bO.l1:Nat→List Int→List Int→Int→Int→Int→Bool→Option (List Int × Bool)
 |0,_,_,_,_,_,_=>none
 |k+1,x0,x4,x5,x6,x7,x8=>if x8=true then (if x5<(x0.length:Int) then (if x7<4 then (if 0≤x5 then (bO.l1 k x0 x4 (wrap64 (x5+1)) (Go.bits .or .i64 (wrap64 (x6*128)) (wrap64 (Go.bits .and .u8 (rd x0 x5) 127))) (wrap64 (x7+1)) (decide ((rd x0 x5)>127))) else (none)) else (some ((([]:List Int)),false))) else (some ((([]:List Int)),false))) else ((dF.f k x6).bind fun A1=>(if (A1.length:Int)=x7 then (if x4.length<17592186044416 then (bO.l0 k x0 (x4++[x6]) x5) else (none)) else (some ((([]:List Int)),false))))
end
def bO.f (k:Nat) (l0:List Int):Option (List Int × Bool):=bO.l0 k l0 (([]:List Int)) 0
theorem bO.calls (k:Nat) (A0:Option Addr) (c0:Nat) (l0:List Int) (r1:List Int) (r2:Bool) (w:World) (Bw:Kd.C (Kd.int .u8) w A0 l0.length l0) (Bx:l0.length≤c0) (h:bO.f k l0=some (r1,r2)):
 Calls Try.prog 61 #[.slice A0 l0.length c0] w fun e w'=>∃By:Value,e=.returned (.tuple #[By,.bool r2])∧Kd.R (Kd.int .i64) 3 w' w.heap.size (fun _=>True) By r1∧Below w.heap.size w w':=by
 have Bz:=am Bw
 have Cp:=am Bx
 clear Bw Bx
 have HB:=am (Below.refl w.heap.size w)
 have H:=h
 clear h
 unfold bO.f at H
 generalize Ah:((([]:List Int)):List Int)=Bk at H
 have Ai:=am Ah.symm
 clear Ah
 have H':=am H
 clear H
 go_enter Try.func61,Try.ntmps61
 go_wp2_with (first|((with_reducible refine aJ (N:=9) rfl ?_);(try (refine a9 (by rfl) ?_;dsimp only));refine Kd.R_lit (Kd.int .i64) _ 3 ?hg (N:=9) ?hd (xs:=([]:List Int)) (inner:=[]) (ok:=fun _=>True) (okp:=fun _=>True) ?hr ?hp (fun _ hk=>hk) trivial (Below.refl _ _) (k7 _) (by simp) ?_;(case hd=>rfl);(case hg=>rfl);(case hr=>exact gs);(case hp=>exact (bD.none _ _));intro C5 w2 B1 hb hg_ hnew_;clear hg_ hnew_;(first|rw [← Ai.o] at B1|(simp only [Int.reduceToNat] at B1;rw [← Ai.o] at B1));have n_:=ak2 (rl B1 (bq HB.o)) (aC (bq HB.o) hb);clear HB;obtain ⟨B2,HB⟩:=n_;clear hb B1))
 go_loopg [4,5] k (fun kq v4 v5 w'=>∃(A3:List Int) (A8:Int),v5=.int .i64 A8∧Aside0 (bO.l0 kq l0 A3 A8=some (r1,r2))∧Aside0 (kq≤k)∧Aside0 (Kd.R (Kd.int .i64) 3 w' w.heap.size (fun _=>True) v4 A3)∧Aside0 (Below w.heap.size w w'))
 case atStart=>exact ⟨(Bk),(0),sq,H',⟨k7 _⟩,⟨kqR B2.o⟩,⟨bq HB.o⟩⟩
 case round=>
  clear H'
  try clear p2
  obtain ⟨A3,A8,rfl,HA,Az,A1,HB⟩:=hrel
  cases gk with
  |zero=>exact absurd HA.o (by simp [bO.l0])
  |succ k1=>
   have H:=HA.o
   clear HA
   simp only [bO.l0] at H
   have Bl:=am H
   clear H
   go_upto_region 3 with (fail)
   go_cut [18] (fun C6 wc=>∃(kq:Nat) (Ab:Bool),C6=.bool Ab∧Aside0 (bO.j1 kq l0 A3 A8 Ab=some (r1,r2))∧Aside0 (kq≤k1)∧Aside0 (Kd.R (Kd.int .i64) 3 wc w.heap.size (fun _=>True) u4 A3)∧Aside0 (Below w.heap.size w wc))
   case first=>
    have H:=Bl.o
    clear Bl
    replace H:=il' H
    rcases H with ⟨-,A9,H⟩|⟨-,A9,H⟩
    · (first|rw [A9]|(simp only [aI,aK];rw [A9])|skip)
      have H':=am H
      clear H
      go_wp2
      go_meet
      case rel=>exact ⟨_,(false),sq,H',⟨by have:=Az.o;first|omega|exact k7 _⟩,⟨kqR A1.o⟩,⟨bq HB.o⟩⟩
    (first|rw [A9]|(simp only [aI,aK];rw [A9])|skip)
    have H':=am H
    clear H
    obtain ⟨Cq,Cr,C7⟩:=Kd.R_slice A1.o
    subst C7
    go_wp2
    go_meet
    case rel=>exact ⟨_,(decide ((A3.length:Int)≤10)),sq,H',⟨by have:=Az.o;first|omega|exact k7 _⟩,⟨kqR A1.o⟩,⟨bq HB.o⟩⟩
   case rest=>
    clear Bl
    try clear p2
    try clear c5
    try clear A9
    try clear c6
    try clear p2
    obtain ⟨kq,Ab,rfl,HA,Bi,A1,HB⟩:=hcut
    cases kq with
    |zero=>exact absurd HA.o (by simp [bO.j1])
    |succ B0=>
     have H:=HA.o
     clear HA
     simp only [bO.j1] at H
     rcases (Decidable.em (Ab=true)).symm with c7|c7
     · replace c7:=Bool.eq_false_iff.mpr c7
       subst c7
       replace H:(if A8=(l0.length:Int) then ((cI.f B0 A3).bind fun Af=>(if Af=true then (some (A3,true)) else (some ((([]:List Int)),false)))) else (some ((([]:List Int)),false)))=some (r1,r2):=by rw [if_neg (show ¬(false=true) by decide)] at H;exact H
       replace H:=iq' H
       rcases H with ⟨Cs,B3,B4,H⟩|⟨-,B3,B4,H⟩
       · generalize Aj:((([]:List Int)):List Int)=C8 at H
         have Ak:=am Aj.symm
         clear Aj
         simp only [k4,k5] at H
         obtain ⟨rfl,rfl⟩:=H
         go_wp2_with (first|((with_reducible refine aJ (N:=70) rfl ?_);(try (refine a9 (by rfl) ?_;dsimp only));refine Kd.R_lit (Kd.int .i64) _ 3 ?hg (N:=70) ?hd (xs:=([]:List Int)) (inner:=[]) (ok:=fun _=>True) (okp:=fun _=>True) ?hr ?hp (fun _ hk=>hk) trivial (Below.refl _ _) (k7 _) (by simp) ?_;(case hd=>rfl);(case hg=>rfl);(case hr=>exact gs);(case hp=>exact (bD.none _ _));intro C9 Ct Ad hb hg_ hnew_;clear hg_ hnew_;(first|rw [← Ak.o] at Ad|(simp only [Int.reduceToNat] at Ad;rw [← Ak.o] at Ad));have n_:=ak3 (re_ A1 Ad hb) (rn_ Ad A1 (bq HB.o)) (aC (bq HB.o) hb);clear A1 HB;obtain ⟨A1,B5,HB⟩:=n_;clear hb Ad))
         go_ret2
         exact ⟨_,rq,by refine kr ?_;exact Kd.R_mono B5.o (fun _ hk=>trivial),bq HB.o⟩
       replace H:=be H
       obtain ⟨Af,C0,H⟩:=H
       rcases bt Af with rfl|rfl
       · replace H:=iT H
         simp only [k4,k5] at H
         obtain ⟨rfl,rfl⟩:=H
         obtain ⟨Ca,Cb,Bm⟩:=Kd.R_slice A1.o
         subst Bm
         go_wp2_with (first|(go_at_call 63;refine cm (cI.calls B0 _ _ A3 true _ (cq (Kd.R_reads' A1.o).2.2) ((Kd.R_reads' A1.o).2.1) C0.o) ?_;rintro e w' ⟨rfl,⟨nd,rfl⟩⟩))
         go_ret2
         exact ⟨_,rq,kqR A1.o,bq HB.o⟩
       replace H:=iF H
       generalize Al:((([]:List Int)):List Int)=Cc at H
       have Am:=am Al.symm
       clear Al
       simp only [k4,k5] at H
       obtain ⟨rfl,rfl⟩:=H
       obtain ⟨Cd,Ce,Bn⟩:=Kd.R_slice A1.o
       subst Bn
       go_wp2_with (first|(go_at_call 63;refine cm (cI.calls B0 _ _ A3 false _ (cq (Kd.R_reads' A1.o).2.2) ((Kd.R_reads' A1.o).2.1) C0.o) ?_;rintro e w' ⟨rfl,⟨nd,rfl⟩⟩)|((with_reducible refine aJ (N:=70) rfl ?_);(try (refine a9 (by rfl) ?_;dsimp only));refine Kd.R_lit (Kd.int .i64) _ 3 ?hg (N:=70) ?hd (xs:=([]:List Int)) (inner:=[]) (ok:=fun _=>True) (okp:=fun _=>True) ?hr ?hp (fun _ hk=>hk) trivial (Below.refl _ _) (k7 _) (by simp) ?_;(case hd=>rfl);(case hg=>rfl);(case hr=>exact gs);(case hp=>exact (bD.none _ _));intro Cf Cu Ae hb hg_ hnew_;clear hg_ hnew_;(first|rw [← Am.o] at Ae|(simp only [Int.reduceToNat] at Ae;rw [← Am.o] at Ae));have n_:=ak3 (re_ A1 Ae hb) (rn_ Ae A1 (bq HB.o)) (aC (bq HB.o) hb);clear A1 HB;obtain ⟨A1,B6,HB⟩:=n_;clear hb Ae))
       go_ret2
       exact ⟨_,rq,by refine kr ?_;exact Kd.R_mono B6.o (fun _ hk=>trivial),bq HB.o⟩
     subst c7
     replace H:(bO.l1 B0 l0 A3 A8 0 0 true)=some (r1,r2):=by rw [if_pos rfl] at H;exact H
     have H':=am H
     clear H
     go_wp2
     go_loopg [5,6,7,8] B0 (fun kq v5 v6 v7 v8 w'=>∃(A2:Int) (A5:Int) (Aa:Int) (Ag:Bool),v5=.int .i64 A2∧v6=.int .i64 A5∧v7=.int .i64 Aa∧v8=.bool Ag∧Aside0 (bO.l1 kq l0 A3 A2 A5 Aa Ag=some (r1,r2))∧Aside0 (kq≤B0)∧Aside0 (Kd.R (Kd.int .i64) 3 w' w.heap.size (fun _=>True) u4 A3)∧Aside0 (Below w.heap.size w w'))
     case atStart=>exact ⟨(A8),(0),(0),(true),sq,sq,sq,sq,H',⟨k7 _⟩,⟨kqR A1.o⟩,⟨bq HB.o⟩⟩
     case round=>
      clear H'
      try clear p2
      try clear c5
      try clear A9
      try clear c6
      try clear c7
      try clear p2
      obtain ⟨A2,A5,Aa,Ag,rfl,rfl,rfl,rfl,HA,Bj,A1,HB⟩:=hrel
      cases gk with
      |zero=>exact absurd HA.o (by simp [bO.l1])
      |succ k3=>
       have H:=HA.o
       clear HA
       simp only [bO.l1] at H
       rcases (Decidable.em (Ag=true)).symm with c8|c8
       replace c8:=Bool.eq_false_iff.mpr c8
       subst c8
       replace H:((dF.f k3 A5).bind fun Ac=>(if (Ac.length:Int)=Aa then (if A3.length<17592186044416 then (bO.l0 k3 l0 (A3++[A5]) A2) else (none)) else (some ((([]:List Int)),false))))=some (r1,r2):=by rw [if_neg (show ¬(false=true) by decide)] at H;exact H
       replace H:=be H
       obtain ⟨Ac,C1,H⟩:=H
       replace H:=iq' H
       rcases H with ⟨Cv,B7,B8,H⟩|⟨-,B7,B8,H⟩
       generalize An:((([]:List Int)):List Int)=Cg at H
       have Ao:=am An.symm
       clear An
       have z0:=trivial
       rotate_left
       · replace H:=nq H
         obtain ⟨C2,H⟩:=H
         have B9:=am C2
         clear C2
         generalize Ap:((A3++[A5]):List Int)=Bo at H
         have Ba:=am Ap.symm
         clear Ap
         have H':=am H
         clear H
         go_wp2_with (first|(go_at_call 72;refine cm (dF.calls k3 A5 Ac _ C1.o) ?_;rintro e Cw ⟨Bp,rfl,C3,hb⟩;have n_:=ak3 (rb A1 hb) (rl C3 (bq HB.o)) (aC (bq HB.o) hb);clear A1 HB;obtain ⟨A1,A4,HB⟩:=n_;(try clear hb C3);obtain ⟨Ch,Ci,Bq⟩:=Kd.R_slice A4.o;subst Bq)|((with_reducible refine bM (b:=.append) (xs:=#[.tmp 57,.tmp 59]) rfl ?_);(try (refine a9 (by rfl) ?_;dsimp only));at_builtin;refine Kd.R_append (Kd.int .i64) (w0:=w) w.heap.size rfl (.tmp 57) (.tmp 59) 41 3 (.int .i64 0) 8 rfl Try.underlying41 jM rfl (by decide) (by omega) u4 A3 A5 [.int .i64 A5] (fun _=>True) (fun _=>False) rfl rfl ?aP (fun _ hk=>hk.elim) ?aF ?aO ?aB ?aS ?aL ?_;(case aP=>exact rfl);(case aB=>exact (bq HB.o));(case aF=>exact (fun _ _=>trivial));(case aO=>exact (kqR A1.o));(case aS=>exact (aH (bq HB.o)));(case aL=>have:=B9.o;omega);intro Cj Cx ho hb hg hat;rw [← Ba.o] at ho;have n_:=ak3 (Kd.R_over' (kqR A4.o) (Kd.R_typed (kqR A1.o)) (by decide) hg) hb ho;clear A4 HB A1;obtain ⟨A4,HB,Bb⟩:=n_;clear ho hb hg hat))
         go_roundg k3
         case measure=>have:=Az.o;have:=Bi.o;have:=Bj.o;omega
         case rel=>exact ⟨(Bo),(A2),sq,H',⟨by have:=Az.o;have:=Bi.o;have:=Bj.o;omega⟩,⟨kqR Bb.o⟩,⟨bq HB.o⟩⟩
       rotate_right
       rotate_left
       subst c8
       replace H:(if A2<(l0.length:Int) then (if Aa<4 then (if 0≤A2 then (bO.l1 k3 l0 A3 (wrap64 (A2+1)) (Go.bits .or .i64 (wrap64 (A5*128)) (wrap64 (Go.bits .and .u8 (rd l0 A2) 127))) (wrap64 (Aa+1)) (decide ((rd l0 A2)>127))) else (none)) else (some ((([]:List Int)),false))) else (some ((([]:List Int)),false)))=some (r1,r2):=by rw [if_pos rfl] at H;exact H
       replace H:=il' H
       rcases H with ⟨-,Br,H⟩|⟨-,Br,H⟩
       generalize Aq:((([]:List Int)):List Int)=Ck at H
       have Ar:=am Aq.symm
       clear Aq
       have z1:=trivial
       rotate_left
       replace H:=il' H
       rcases H with ⟨-,Bc,H⟩|⟨-,Bc,H⟩
       generalize As:((([]:List Int)):List Int)=Cl at H
       have At:=am As.symm
       clear As
       have z2:=trivial
       rotate_left
       · replace H:=nl H
         obtain ⟨-,C4,H⟩:=H
         have H':=am H
         clear H
         have Au:0≤(A2:Int):=oda
         have Av:A2<(l0.length:Int):=oda
         obtain ⟨Bd,Bs,A6⟩:=Kd.at_int Bz.o A2 Au Av
         cases Bs
         replace A6:=(HB.o.cell (kW w _ A6)).trans A6
         replace Au:=eq_true Au
         replace Av:=eq_true Av
         have Aw:0≤(A2:Int):=oda
         have Ax:A2<(l0.length:Int):=oda
         obtain ⟨Be,Bt,A7⟩:=Kd.at_int Bz.o A2 Aw Ax
         obtain rfl:Bd=Be:=(by injection Bt)
         replace A7:=(HB.o.cell (kW w _ A7)).trans A7
         replace Aw:=eq_true Aw
         replace Ax:=eq_true Ax
         go_wp2
         go_roundg k3
         case measure=>have:=Az.o;have:=Bi.o;have:=Bj.o;omega
         case rel=>exact ⟨(wrap64 (A2+1)),(Go.bits .or .i64 (wrap64 (A5*128)) (wrap64 (Go.bits .and .u8 (rd l0 A2) 127))),(wrap64 (Aa+1)),(decide ((rd l0 A2)>127)),sq,sq,sq,sq,H',⟨by have:=Az.o;have:=Bi.o;have:=Bj.o;omega⟩,⟨kqR A1.o⟩,⟨bq HB.o⟩⟩
       rotate_right
       rotate_right
       rotate_right
       all_goals
        simp only [k4,k5] at H
        obtain ⟨rfl,rfl⟩:=H
        go_wp2_with (first|(go_at_call 72;refine cm (dF.calls k3 A5 Ac _ C1.o) ?_;rintro e w_ ⟨Bp,rfl,ho_,hb⟩;have n_:=ak3 (rb A1 hb) (rl ho_ (bq HB.o)) (aC (bq HB.o) hb);clear A1 HB;obtain ⟨A1,A4,HB⟩:=n_;(try clear hb ho_);obtain ⟨Bu,Bv,Ay⟩:=Kd.R_slice A4.o;subst Ay)|((with_reducible refine aJ (N:=56) rfl ?_);have:=z0;(try (refine a9 (by rfl) ?_;dsimp only));refine Kd.R_lit (Kd.int .i64) _ 3 ?hg (N:=56) ?hd (xs:=([]:List Int)) (inner:=[]) (ok:=fun _=>True) (okp:=fun _=>True) ?hr ?hp (fun _ hk=>hk) trivial (Below.refl _ _) (k7 _) (by simp) ?_;(case hd=>rfl);(case hg=>rfl);(case hr=>exact gs);(case hp=>exact (bD.none _ _));intro Cm w_ ho_ hb hg_ hnew_;clear hg_ hnew_;(first|rw [← Ao.o] at ho_|(simp only [Int.reduceToNat] at ho_;rw [← Ao.o] at ho_));have n_:=ak4 (re_ A1 ho_ hb) (rb A4 hb) (rn_ ho_ A1 (bq HB.o)) (aC (bq HB.o) hb);clear A1 A4 HB;obtain ⟨A1,A4,Bf,HB⟩:=n_;clear hb ho_)|((with_reducible refine aJ (N:=56) rfl ?_);have:=z1;(try (refine a9 (by rfl) ?_;dsimp only));refine Kd.R_lit (Kd.int .i64) _ 3 ?hg (N:=56) ?hd (xs:=([]:List Int)) (inner:=[]) (ok:=fun _=>True) (okp:=fun _=>True) ?hr ?hp (fun _ hk=>hk) trivial (Below.refl _ _) (k7 _) (by simp) ?_;(case hd=>rfl);(case hg=>rfl);(case hr=>exact gs);(case hp=>exact (bD.none _ _));intro Cn w_ ho_ hb hg_ hnew_;clear hg_ hnew_;(first|rw [← Ar.o] at ho_|(simp only [Int.reduceToNat] at ho_;rw [← Ar.o] at ho_));have n_:=ak3 (re_ A1 ho_ hb) (rn_ ho_ A1 (bq HB.o)) (aC (bq HB.o) hb);clear A1 HB;obtain ⟨A1,Bg,HB⟩:=n_;clear hb ho_)|((with_reducible refine aJ (N:=56) rfl ?_);have:=z2;(try (refine a9 (by rfl) ?_;dsimp only));refine Kd.R_lit (Kd.int .i64) _ 3 ?hg (N:=56) ?hd (xs:=([]:List Int)) (inner:=[]) (ok:=fun _=>True) (okp:=fun _=>True) ?hr ?hp (fun _ hk=>hk) trivial (Below.refl _ _) (k7 _) (by simp) ?_;(case hd=>rfl);(case hg=>rfl);(case hr=>exact gs);(case hp=>exact (bD.none _ _));intro Co w_ ho_ hb hg_ hnew_;clear hg_ hnew_;(first|rw [← At.o] at ho_|(simp only [Int.reduceToNat] at ho_;rw [← At.o] at ho_));have n_:=ak3 (re_ A1 ho_ hb) (rn_ ho_ A1 (bq HB.o)) (aC (bq HB.o) hb);clear A1 HB;obtain ⟨A1,Bh,HB⟩:=n_;clear hb ho_))
        first
        | go_ret2
          exact ⟨_,rq,by refine kr ?_;exact Kd.R_mono Bf.o (fun _ hk=>trivial),bq HB.o⟩
        | go_ret2
          exact ⟨_,rq,by refine kr ?_;exact Kd.R_mono Bg.o (fun _ hk=>trivial),bq HB.o⟩
        | go_ret2
          exact ⟨_,rq,by refine kr ?_;exact Kd.R_mono Bh.o (fun _ hk=>trivial),bq HB.o⟩
end Go.Proofs.Ytgppikopdpeigaa.XFnPdus
