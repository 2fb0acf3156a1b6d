/- The functions that one law reaches, as Lean functions, with their walks: printed by a program of this seat (wip/tools) out of the translation. -/
import Derived.Test.YtgppikopdpeigaaXFnPdusx0
import Derived.Test.YtgppikopdpeigaaXFnPdusx26
namespace Go.Proofs.Ytgppikopdpeigaa.XFnPdus
open Go.RowKit Go.Proofs.YtgppikopdpeigaaW.PrintWords Go.Proofs.YtgppikopdpeigaaW.PrintLast Go.Proofs.YtgppikopdpeigaaW.PrintMore
attribute [local go_sem] cO cP dH dI cC cD cQ cR
set_option maxHeartbeats 8000000
set_option maxRecDepth 100000
set_option linter.unusedVariables false
set_option linter.unusedSimpArgs false
def bP.l0:Nat→List (S45)→List (S45)→Int→Option (Bool)
 |0,_,_,_=>none
 |k+1,x0,x1,x5=>if x5<(x0.length:Int) then (if 0≤x5 then (if x5<(x1.length:Int) then ((dG.f k ((aG x0 x5).f0) ((aG x1 x5).f0)).bind fun A0=>(if A0=true then ((e7.f k ((aG x0 x5).f1.f0) ((aG x0 x5).f1.f1) ((aG x0 x5).f1.f2) ((aG x0 x5).f1.f3) ((aG x1 x5).f1.f0) ((aG x1 x5).f1.f1) ((aG x1 x5).f1.f2) ((aG x1 x5).f1.f3)).bind fun A1=>(if A1=true then (bP.l0 k x0 x1 (wrap64 (x5+1))) else (some false))) else (some false))) else (none)) else (none)) else (some true)
def bP.f (k:Nat) (l0:List (S45)) (l1:List (S45)):Option (Bool):=if (l0.length:Int)=(l1.length:Int) then (bP.l0 k l0 l1 0) else (some false)
def bP.T6:Bool × List (List Nat × List Nat):=(true,[([],[]),([],[]),([0,1],[0,1]),([2],[2]),([3],[3]),([],[]),([],[]),([5,6],[5,6]),([7],[7]),([8],[8]),([4,9],[4,9]),([10],[10]),([11,10],[11]),([12],[12]),([12],[12]),([13,14,12],[12,13,14]),([15,12],[12,15]),([16,12],[12,16]),([12],[12]),([12],[12]),([18,19,12],[12,18,19]),([20,12],[12,20]),([21,12],[12,21]),([17,22,12,12],[12,17,22]),([23,12],[12,23]),([12,24],[12,24])])
def bP.B6:List Nat:=[0,0,3,7,15,0,0,96,224,480,1023,2047,4095,8191,8191,32767,65535,131071,8191,8191,794623,1843199,3940351,8388607,16777215,33554431]
theorem bP.tab6:eR .any (fM Try.f16 6)=bP.T6:=by kernel_rfl
theorem bP.bits6:eJ bP.T6.2 bP.B6=true:=by kernel_rfl
theorem bP.calls (k:Nat) (A0:Option Addr) (c0:Nat) (l0:List (S45)) (A1:Option Addr) (c1:Nat) (l1:List (S45)) (r:Bool) (w:World) (Di:Kd.C k45 w A0 l0.length l0) (Dj:l0.length≤c0) (Dk:Kd.C k45 w A1 l1.length l1) (Dl:l1.length≤c1) (h:bP.f k l0 l1=some r):
 Calls Try.prog 16 #[.slice A0 l0.length c0,.slice A1 l1.length c1] w fun e w'=>e=.returned (.bool r)∧Below w.heap.size w w':=by
 have Do:=Try.underlying43
 have Da:=am Di
 have Dr:=am Dj
 clear Di Dj
 have Db:=am Dk
 have Ds:=am Dl
 clear Dk Dl
 have HB:=am (Below.refl w.heap.size w)
 have H:=h
 clear h
 unfold bP.f at H
 replace H:=iq' H
 rcases H with ⟨c3,Dc,Dd,H⟩|⟨c3,Dc,Dd,H⟩
 · have De:(l0.length==l1.length)=false:=by first|simpa using c3|(simp at c3 ⊢;omega)
   obtain rfl:=k6 H
   go_enter Try.func16,Try.ntmps16
   go_wp2
   go_ret
   exact ⟨rq,bq HB.o⟩
 have De:(l0.length==l1.length)=true:=by first|simpa using c3|(simp at c3 ⊢;omega)
 clear c3
 have H':=am H
 clear H
 go_enter Try.func16,Try.ntmps16
 go_wp2
 go_loopg [5] k (fun kq v5 w'=>∃(A2:Int),v5=.int .i64 A2∧Aside0 (bP.l0 kq l0 l1 A2=some r)∧Aside0 (kq≤k)∧Aside0 (Below w.heap.size w w'))
 case atStart=>exact ⟨(0),sq,H',⟨k7 _⟩,⟨bq HB.o⟩⟩
 case round=>
  clear H'
  try clear c1
  try clear p2
  try clear c3
  try clear Dc
  try clear Dd
  try clear De
  obtain ⟨A2,rfl,HA,Dm,HB⟩:=hrel
  cases gk with
  |zero=>exact absurd HA.o (by simp [bP.l0])
  |succ k1=>
   have H:=HA.o
   clear HA
   simp only [bP.l0] at H
   replace H:=il' H
   rcases H with ⟨-,Dh,H⟩|⟨-,Dh,H⟩
   · obtain rfl:=k6 H
     go_wp2
     go_ret
     exact ⟨rq,bq HB.o⟩
   replace H:=nl H
   obtain ⟨-,Dp,H⟩:=H
   replace H:=nl H
   obtain ⟨-,Dq,H⟩:=H
   replace H:=be H
   obtain ⟨Df,A7,H⟩:=H
   cases Df
   · replace H:=iF H
     obtain rfl:=k6 H
     try go_wp2
     replace HB:=am (bB HB.o)
     have Bs:0≤(A2:Int):=oda
     have Bt:A2<(l0.length:Int):=oda
     obtain ⟨A3,Ba,Bb,Bo,Bp,Ci,A5,Ak,Al,Am,A6,Be,Bf,Bg,Bh⟩:=dR Da.o A2 Bs Bt
     have Aa:=A6
     have Ab:=Am
     have Ac:=Al
     have Ad:=Ak
     have Ae:=A5
     cases Ci
     replace A5:=(HB.o.cell (kW w _ A5)).trans A5
     replace Ak:=(HB.o.cell (kW w _ Ak)).trans Ak
     replace Al:=(HB.o.cell (kW w _ Al)).trans Al
     replace Am:=(HB.o.cell (kW w _ Am)).trans Am
     replace A6:=(HB.o.cell (kW w _ A6)).trans A6
     have Bi:=am Bf
     have Bu:=am Be
     clear Bf Be
     have Bv:=am Bh
     have Cj:=am Bg
     clear Bh Bg
     replace Bs:=eq_true Bs
     replace Bt:=eq_true Bt
     have Bw:0≤(A2:Int):=oda
     have Bx:A2<(l1.length:Int):=oda
     obtain ⟨A4,Bc,Bd,Bq,Br,Ck,A8,An,Ao,Ap,A9,Bj,Bk,Bl,Bm⟩:=dR Db.o A2 Bw Bx
     have Af:=A9
     have Ag:=Ap
     have Ah:=Ao
     have Ai:=An
     have Aj:=A8
     cases Ck
     replace A8:=(HB.o.cell (kW w _ A8)).trans A8
     replace An:=(HB.o.cell (kW w _ An)).trans An
     replace Ao:=(HB.o.cell (kW w _ Ao)).trans Ao
     replace Ap:=(HB.o.cell (kW w _ Ap)).trans Ap
     replace A9:=(HB.o.cell (kW w _ A9)).trans A9
     have Bn:=am Bk
     have By:=am Bj
     clear Bk Bj
     have Bz:=am Bm
     have Cl:=am Bl
     clear Bm Bl
     replace Bw:=eq_true Bw
     replace Bx:=eq_true Bx
     refine cW (n:=26) (S:=fun w'=>w'.cell? (A3.add ((A2).toNat*5))=some (.slice Ba ((aG l0 A2).f0).length Bb)∧w'.cell? ⟨(A3.add ((A2).toNat*5)).block,(A3.add ((A2).toNat*5)).off+1,none⟩=some (.int .i64 ((aG l0 A2).f1.f0))∧w'.cell? ⟨(A3.add ((A2).toNat*5)).block,(A3.add ((A2).toNat*5)).off+2,none⟩=some (.int .i64 ((aG l0 A2).f1.f1))∧w'.cell? ⟨(A3.add ((A2).toNat*5)).block,(A3.add ((A2).toNat*5)).off+3,none⟩=some (.string ((aG l0 A2).f1.f2))∧w'.cell? ⟨(A3.add ((A2).toNat*5)).block,(A3.add ((A2).toNat*5)).off+4,none⟩=some (.slice Bo ((aG l0 A2).f1.f3).length Bp)∧w'.cell? (A4.add ((A2).toNat*5))=some (.slice Bc ((aG l1 A2).f0).length Bd)∧w'.cell? ⟨(A4.add ((A2).toNat*5)).block,(A4.add ((A2).toNat*5)).off+1,none⟩=some (.int .i64 ((aG l1 A2).f1.f0))∧w'.cell? ⟨(A4.add ((A2).toNat*5)).block,(A4.add ((A2).toNat*5)).off+2,none⟩=some (.int .i64 ((aG l1 A2).f1.f1))∧w'.cell? ⟨(A4.add ((A2).toNat*5)).block,(A4.add ((A2).toNat*5)).off+3,none⟩=some (.string ((aG l1 A2).f1.f2))∧w'.cell? ⟨(A4.add ((A2).toNat*5)).block,(A4.add ((A2).toNat*5)).off+4,none⟩=some (.slice Bq ((aG l1 A2).f1.f3).length Br)) (ds:=[]) #[F,F,F,F,F,F,F,F,F,F,F,F,F,F,F,F,F,F,F,F,F,F,F,F,F,F] (by kernel_rfl) rfl rfl ⟨((HB.o.cell (kW w _ Ae)).trans Ae),((HB.o.cell (kW w _ Ad)).trans Ad),((HB.o.cell (kW w _ Ac)).trans Ac),((HB.o.cell (kW w _ Ab)).trans Ab),((HB.o.cell (kW w _ Aa)).trans Aa),((HB.o.cell (kW w _ Aj)).trans Aj),((HB.o.cell (kW w _ Ai)).trans Ai),((HB.o.cell (kW w _ Ah)).trans Ah),((HB.o.cell (kW w _ Ag)).trans Ag),((HB.o.cell (kW w _ Af)).trans Af)⟩ (fun hHeld=>?_);refine bW bP.tab6 bP.bits6 (fun HT_ HW_=>?_)
     generalize wr.drew=Dt at HB Bi Bv Bn Bz A5 Ak Al Am A6 A8 An Ao Ap A9 hHeld ⊢
     refine pv HT_ 0 (some 17) #[T,F,F,F,F,F,F,F,F,F,F,F,F,F,F,F,F,F,F,F,F,F,F,F,F,F] ?_
     refine pv HT_ 1 (some 18) #[T,T,F,F,F,F,F,F,F,F,F,F,F,F,F,F,F,F,F,F,F,F,F,F,F,F] ?_
     refine pv HT_ 2 (some 19) #[T,T,T,F,F,F,F,F,F,F,F,F,F,F,F,F,F,F,F,F,F,F,F,F,F,F] ?_
     refine pv HT_ 3 (some 20) #[T,T,T,T,F,F,F,F,F,F,F,F,F,F,F,F,F,F,F,F,F,F,F,F,F,F] ?_
     refine pv HT_ 5 (some 22) #[T,T,T,T,F,T,F,F,F,F,F,F,F,F,F,F,F,F,F,F,F,F,F,F,F,F] ?_
     refine pv HT_ 6 (some 23) #[T,T,T,T,F,T,T,F,F,F,F,F,F,F,F,F,F,F,F,F,F,F,F,F,F,F] ?_
     refine pv HT_ 7 (some 24) #[T,T,T,T,F,T,T,T,F,F,F,F,F,F,F,F,F,F,F,F,F,F,F,F,F,F] ?_
     refine pv HT_ 8 (some 25) #[T,T,T,T,F,T,T,T,T,F,F,F,F,F,F,F,F,F,F,F,F,F,F,F,F,F] ?_
     refine tk 4 (some 21) #[T,T,T,T,T,T,T,T,T,F,F,F,F,F,F,F,F,F,F,F,F,F,F,F,F,F] rfl rfl (aZ HT_.o HW_.o (by kernel_rfl)) hHeld (Or.inl ⟨by rfl,by rintro w' ⟨s0,s1,s2,s3,s4,s5,s6,s7,s8,s9⟩;go_simp;with_reducible rfl⟩) ?_
     refine tk 9 (some 26) #[T,T,T,T,T,T,T,T,T,T,F,F,F,F,F,F,F,F,F,F,F,F,F,F,F,F] rfl rfl (aZ HT_.o HW_.o (by kernel_rfl)) hHeld (Or.inl ⟨by rfl,by rintro w' ⟨s0,s1,s2,s3,s4,s5,s6,s7,s8,s9⟩;go_simp;with_reducible rfl⟩) ?_
     refine dM (i:=10) (N:=some 27) #[T,T,T,T,T,T,T,T,T,T,T,F,F,F,F,F,F,F,F,F,F,F,F,F,F,F] rfl rfl (bS HT_.o (by kernel_rfl)) (by decide) (fun K hK=>?_)
     refine cU Try.func45 (by kernel_rfl) rfl #[.slice Ba ((aG l0 A2).f0).length Bb,.slice Bc ((aG l1 A2).f0).length Bd] (by rfl) rfl rfl ga ?_
     with_reducible refine (dG.calls k1 _ _ ((aG l0 A2).f0) _ _ ((aG l1 A2).f0) false _ ?side1 ?side2 ?side3 ?side4 A7.o).mono ?_
     (case side1=>exact cq (Kd.C_below Bi.o HB.o))
     (case side2=>exact Bu.o)
     (case side3=>exact cq (Kd.C_below Bn.o HB.o))
     (case side4=>exact By.o)
     rintro e w' ⟨rfl,⟨nd,rfl⟩⟩
     refine ⟨_,rfl,?_⟩
     refine hK.out _ _ ⟨((HB.o.cell (kW w _ Ae)).trans Ae),((HB.o.cell (kW w _ Ad)).trans Ad),((HB.o.cell (kW w _ Ac)).trans Ac),((HB.o.cell (kW w _ Ab)).trans Ab),((HB.o.cell (kW w _ Aa)).trans Aa),((HB.o.cell (kW w _ Aj)).trans Aj),((HB.o.cell (kW w _ Ai)).trans Ai),((HB.o.cell (kW w _ Ah)).trans Ah),((HB.o.cell (kW w _ Ag)).trans Ag),((HB.o.cell (kW w _ Af)).trans Af)⟩ (fun hHeld=>?_)
     clear hK K
     refine bZ (a':=?_) ?_ ?_
     rotate_left
     · show Act.put _ (some 27) _=_
       simp only [Act.put,kX,kY,kZ,aI,aK]
       rfl
     refine pv HT_ 11 (some 28) #[T,T,T,T,T,T,T,T,T,T,T,T,F,F,F,F,F,F,F,F,F,F,F,F,F,F] ?_
     refine pv HT_ 12 (some 29) #[T,T,T,T,T,T,T,T,T,T,T,T,T,F,F,F,F,F,F,F,F,F,F,F,F,F] ?_
     refine bC (i:=13) (N:=some 30) (v:=undef) (a':=?_) #[T,T,T,T,T,T,T,T,T,T,T,T,T,T,F,F,F,F,F,F,F,F,F,F,F,F] rfl rfl (aY HT_.o (by kernel_rfl)) (fun _ _ _ h=>h) (Or.inr ⟨by rfl,rfl⟩) ?_ ?_
     rotate_left
     · simp only [Act.put,kX,kY,kZ,aI,aK]
       rfl
     refine bC (i:=14) (N:=some 31) (v:=undef) (a':=?_) #[T,T,T,T,T,T,T,T,T,T,T,T,T,T,T,F,F,F,F,F,F,F,F,F,F,F] rfl rfl (aY HT_.o (by kernel_rfl)) (fun _ _ _ h=>h) (Or.inr ⟨by rfl,rfl⟩) ?_ ?_
     rotate_left
     · simp only [Act.put,kX,kY,kZ,aI,aK]
       rfl
     refine bC (i:=15) (N:=some 32) (v:=undef) (a':=?_) #[T,T,T,T,T,T,T,T,T,T,T,T,T,T,T,T,F,F,F,F,F,F,F,F,F,F] rfl rfl (aY HT_.o (by kernel_rfl)) (fun _ _ _ h=>h) (Or.inr ⟨by rfl,rfl⟩) ?_ ?_
     rotate_left
     · simp only [Act.put,kX,kY,kZ,aI,aK]
       rfl
     refine bC (i:=16) (N:=some 33) (v:=undef) (a':=?_) #[T,T,T,T,T,T,T,T,T,T,T,T,T,T,T,T,T,F,F,F,F,F,F,F,F,F] rfl rfl (aY HT_.o (by kernel_rfl)) (fun _ _ _ h=>h) (Or.inr ⟨by rfl,rfl⟩) ?_ ?_
     rotate_left
     · simp only [Act.put,kX,kY,kZ,aI,aK]
       rfl
     refine bC (i:=17) (N:=some 34) (v:=undef) (a':=?_) #[T,T,T,T,T,T,T,T,T,T,T,T,T,T,T,T,T,T,F,F,F,F,F,F,F,F] rfl rfl (aY HT_.o (by kernel_rfl)) (fun _ _ _ h=>h) (Or.inr ⟨by rfl,rfl⟩) ?_ ?_
     rotate_left
     · simp only [Act.put,kX,kY,kZ,aI,aK]
       rfl
     refine bC (i:=18) (N:=some 35) (v:=undef) (a':=?_) #[T,T,T,T,T,T,T,T,T,T,T,T,T,T,T,T,T,T,T,F,F,F,F,F,F,F] rfl rfl (aY HT_.o (by kernel_rfl)) (fun _ _ _ h=>h) (Or.inr ⟨by rfl,rfl⟩) ?_ ?_
     rotate_left
     · simp only [Act.put,kX,kY,kZ,aI,aK]
       rfl
     refine bC (i:=19) (N:=some 36) (v:=undef) (a':=?_) #[T,T,T,T,T,T,T,T,T,T,T,T,T,T,T,T,T,T,T,T,F,F,F,F,F,F] rfl rfl (aY HT_.o (by kernel_rfl)) (fun _ _ _ h=>h) (Or.inr ⟨by rfl,rfl⟩) ?_ ?_
     rotate_left
     · simp only [Act.put,kX,kY,kZ,aI,aK]
       rfl
     refine bC (i:=20) (N:=some 37) (v:=undef) (a':=?_) #[T,T,T,T,T,T,T,T,T,T,T,T,T,T,T,T,T,T,T,T,T,F,F,F,F,F] rfl rfl (aY HT_.o (by kernel_rfl)) (fun _ _ _ h=>h) (Or.inr ⟨by rfl,rfl⟩) ?_ ?_
     rotate_left
     · simp only [Act.put,kX,kY,kZ,aI,aK]
       rfl
     refine bC (i:=21) (N:=some 38) (v:=undef) (a':=?_) #[T,T,T,T,T,T,T,T,T,T,T,T,T,T,T,T,T,T,T,T,T,T,F,F,F,F] rfl rfl (aY HT_.o (by kernel_rfl)) (fun _ _ _ h=>h) (Or.inr ⟨by rfl,rfl⟩) ?_ ?_
     rotate_left
     · simp only [Act.put,kX,kY,kZ,aI,aK]
       rfl
     refine bC (i:=22) (N:=some 39) (v:=undef) (a':=?_) #[T,T,T,T,T,T,T,T,T,T,T,T,T,T,T,T,T,T,T,T,T,T,T,F,F,F] rfl rfl (aY HT_.o (by kernel_rfl)) (fun _ _ _ h=>h) (Or.inr ⟨by rfl,rfl⟩) ?_ ?_
     rotate_left
     · simp only [Act.put,kX,kY,kZ,aI,aK]
       rfl
     refine bC (i:=23) (N:=some 40) (v:=undef) (a':=?_) #[T,T,T,T,T,T,T,T,T,T,T,T,T,T,T,T,T,T,T,T,T,T,T,T,F,F] rfl rfl (aY HT_.o (by kernel_rfl)) (fun _ _ _ h=>h) (Or.inr ⟨by rfl,rfl⟩) ?_ ?_
     rotate_left
     · simp only [Act.put,kX,kY,kZ,aI,aK]
       rfl
     refine bC (i:=24) (N:=some 41) (v:=undef) (a':=?_) #[T,T,T,T,T,T,T,T,T,T,T,T,T,T,T,T,T,T,T,T,T,T,T,T,T,F] rfl rfl (aY HT_.o (by kernel_rfl)) (fun _ _ _ h=>h) (Or.inr ⟨by rfl,rfl⟩) ?_ ?_
     rotate_left
     · simp only [Act.put,kX,kY,kZ,aI,aK]
       rfl
     refine pv HT_ 25 (some 42) #[T,T,T,T,T,T,T,T,T,T,T,T,T,T,T,T,T,T,T,T,T,T,T,T,T,T] ?_
     refine d5 (cL HT_.o (by kernel_rfl)) ?_
     try go_wp2
     go_ret
     exact ⟨rq,bq HB.o⟩
   replace H:=iT H
   replace H:=be H
   obtain ⟨Dg,Dn,H⟩:=H
   cases Dg
   · replace H:=iF H
     obtain rfl:=k6 H
     try go_wp2
     replace HB:=am (bB HB.o)
     have Bs:0≤(A2:Int):=oda
     have Bt:A2<(l0.length:Int):=oda
     obtain ⟨A3,Ba,Bb,Bo,Bp,Ci,A5,Ak,Al,Am,A6,Be,Bf,Bg,Bh⟩:=dR Da.o A2 Bs Bt
     have Aa:=A6
     have Ab:=Am
     have Ac:=Al
     have Ad:=Ak
     have Ae:=A5
     cases Ci
     replace A5:=(HB.o.cell (kW w _ A5)).trans A5
     replace Ak:=(HB.o.cell (kW w _ Ak)).trans Ak
     replace Al:=(HB.o.cell (kW w _ Al)).trans Al
     replace Am:=(HB.o.cell (kW w _ Am)).trans Am
     replace A6:=(HB.o.cell (kW w _ A6)).trans A6
     have Bi:=am Bf
     have Bu:=am Be
     clear Bf Be
     have Bv:=am Bh
     have Cj:=am Bg
     clear Bh Bg
     replace Bs:=eq_true Bs
     replace Bt:=eq_true Bt
     have Bw:0≤(A2:Int):=oda
     have Bx:A2<(l1.length:Int):=oda
     obtain ⟨A4,Bc,Bd,Bq,Br,Ck,A8,An,Ao,Ap,A9,Bj,Bk,Bl,Bm⟩:=dR Db.o A2 Bw Bx
     have Af:=A9
     have Ag:=Ap
     have Ah:=Ao
     have Ai:=An
     have Aj:=A8
     cases Ck
     replace A8:=(HB.o.cell (kW w _ A8)).trans A8
     replace An:=(HB.o.cell (kW w _ An)).trans An
     replace Ao:=(HB.o.cell (kW w _ Ao)).trans Ao
     replace Ap:=(HB.o.cell (kW w _ Ap)).trans Ap
     replace A9:=(HB.o.cell (kW w _ A9)).trans A9
     have Bn:=am Bk
     have By:=am Bj
     clear Bk Bj
     have Bz:=am Bm
     have Cl:=am Bl
     clear Bm Bl
     replace Bw:=eq_true Bw
     replace Bx:=eq_true Bx
     have Ca:0≤(A2:Int):=oda
     have Cb:A2<(l0.length:Int):=oda
     obtain ⟨Cm,Cs,Ct,Cu,Cv,Co,Aq,B4,B5,B6,Ar,C0,C1,C2,C3⟩:=dR Da.o A2 Ca Cb
     have As:=Ar
     have At:=B6
     have Au:=B5
     have Av:=B4
     have Aw:=Aq
     obtain rfl:A3=Cm:=(by injection Co)
     replace Aq:=(HB.o.cell (kW w _ Aq)).trans Aq
     replace B4:=(HB.o.cell (kW w _ B4)).trans B4
     replace B5:=(HB.o.cell (kW w _ B5)).trans B5
     replace B6:=(HB.o.cell (kW w _ B6)).trans B6
     replace Ar:=(HB.o.cell (kW w _ Ar)).trans Ar
     have Cc:=am C1
     have Cp:=am C0
     clear C1 C0
     have C4:=am C3
     have Cd:=am C2
     clear C3 C2
     replace Ca:=eq_true Ca
     replace Cb:=eq_true Cb
     have ea_:=k6 (A5.symm.trans Aq)
     injection ea_ with ea_ en_ ec_
     subst ea_
     subst ec_
     clear en_
     have ea_:=k6 (A6.symm.trans Ar)
     injection ea_ with ea_ en_ ec_
     subst ea_
     subst ec_
     clear en_
     have Ce:0≤(A2:Int):=oda
     have Cf:A2<(l1.length:Int):=oda
     obtain ⟨Cn,Cw,Cx,Cy,Cz,Cq,Ax,B7,B8,B9,Ay,C5,C6,C7,C8⟩:=dR Db.o A2 Ce Cf
     have Az:=Ay
     have B0:=B9
     have B1:=B8
     have B2:=B7
     have B3:=Ax
     obtain rfl:A4=Cn:=(by injection Cq)
     replace Ax:=(HB.o.cell (kW w _ Ax)).trans Ax
     replace B7:=(HB.o.cell (kW w _ B7)).trans B7
     replace B8:=(HB.o.cell (kW w _ B8)).trans B8
     replace B9:=(HB.o.cell (kW w _ B9)).trans B9
     replace Ay:=(HB.o.cell (kW w _ Ay)).trans Ay
     have Cg:=am C6
     have Cr:=am C5
     clear C6 C5
     have C9:=am C8
     have Ch:=am C7
     clear C8 C7
     replace Ce:=eq_true Ce
     replace Cf:=eq_true Cf
     have ea_:=k6 (A8.symm.trans Ax)
     injection ea_ with ea_ en_ ec_
     subst ea_
     subst ec_
     clear en_
     have ea_:=k6 (A9.symm.trans Ay)
     injection ea_ with ea_ en_ ec_
     subst ea_
     subst ec_
     clear en_
     refine cW (n:=26) (S:=fun w'=>w'.cell? (A3.add ((A2).toNat*5))=some (.slice Ba ((aG l0 A2).f0).length Bb)∧w'.cell? ⟨(A3.add ((A2).toNat*5)).block,(A3.add ((A2).toNat*5)).off+1,none⟩=some (.int .i64 ((aG l0 A2).f1.f0))∧w'.cell? ⟨(A3.add ((A2).toNat*5)).block,(A3.add ((A2).toNat*5)).off+2,none⟩=some (.int .i64 ((aG l0 A2).f1.f1))∧w'.cell? ⟨(A3.add ((A2).toNat*5)).block,(A3.add ((A2).toNat*5)).off+3,none⟩=some (.string ((aG l0 A2).f1.f2))∧w'.cell? ⟨(A3.add ((A2).toNat*5)).block,(A3.add ((A2).toNat*5)).off+4,none⟩=some (.slice Bo ((aG l0 A2).f1.f3).length Bp)∧w'.cell? (A4.add ((A2).toNat*5))=some (.slice Bc ((aG l1 A2).f0).length Bd)∧w'.cell? ⟨(A4.add ((A2).toNat*5)).block,(A4.add ((A2).toNat*5)).off+1,none⟩=some (.int .i64 ((aG l1 A2).f1.f0))∧w'.cell? ⟨(A4.add ((A2).toNat*5)).block,(A4.add ((A2).toNat*5)).off+2,none⟩=some (.int .i64 ((aG l1 A2).f1.f1))∧w'.cell? ⟨(A4.add ((A2).toNat*5)).block,(A4.add ((A2).toNat*5)).off+3,none⟩=some (.string ((aG l1 A2).f1.f2))∧w'.cell? ⟨(A4.add ((A2).toNat*5)).block,(A4.add ((A2).toNat*5)).off+4,none⟩=some (.slice Bq ((aG l1 A2).f1.f3).length Br)∧w'.cell? (A3.add ((A2).toNat*5))=some (.slice Ba ((aG l0 A2).f0).length Bb)∧w'.cell? ⟨(A3.add ((A2).toNat*5)).block,(A3.add ((A2).toNat*5)).off+1,none⟩=some (.int .i64 ((aG l0 A2).f1.f0))∧w'.cell? ⟨(A3.add ((A2).toNat*5)).block,(A3.add ((A2).toNat*5)).off+2,none⟩=some (.int .i64 ((aG l0 A2).f1.f1))∧w'.cell? ⟨(A3.add ((A2).toNat*5)).block,(A3.add ((A2).toNat*5)).off+3,none⟩=some (.string ((aG l0 A2).f1.f2))∧w'.cell? ⟨(A3.add ((A2).toNat*5)).block,(A3.add ((A2).toNat*5)).off+4,none⟩=some (.slice Bo ((aG l0 A2).f1.f3).length Bp)∧w'.cell? (A4.add ((A2).toNat*5))=some (.slice Bc ((aG l1 A2).f0).length Bd)∧w'.cell? ⟨(A4.add ((A2).toNat*5)).block,(A4.add ((A2).toNat*5)).off+1,none⟩=some (.int .i64 ((aG l1 A2).f1.f0))∧w'.cell? ⟨(A4.add ((A2).toNat*5)).block,(A4.add ((A2).toNat*5)).off+2,none⟩=some (.int .i64 ((aG l1 A2).f1.f1))∧w'.cell? ⟨(A4.add ((A2).toNat*5)).block,(A4.add ((A2).toNat*5)).off+3,none⟩=some (.string ((aG l1 A2).f1.f2))∧w'.cell? ⟨(A4.add ((A2).toNat*5)).block,(A4.add ((A2).toNat*5)).off+4,none⟩=some (.slice Bq ((aG l1 A2).f1.f3).length Br)) (ds:=[]) #[F,F,F,F,F,F,F,F,F,F,F,F,F,F,F,F,F,F,F,F,F,F,F,F,F,F] (by kernel_rfl) rfl rfl ⟨((HB.o.cell (kW w _ Ae)).trans Ae),((HB.o.cell (kW w _ Ad)).trans Ad),((HB.o.cell (kW w _ Ac)).trans Ac),((HB.o.cell (kW w _ Ab)).trans Ab),((HB.o.cell (kW w _ Aa)).trans Aa),((HB.o.cell (kW w _ Aj)).trans Aj),((HB.o.cell (kW w _ Ai)).trans Ai),((HB.o.cell (kW w _ Ah)).trans Ah),((HB.o.cell (kW w _ Ag)).trans Ag),((HB.o.cell (kW w _ Af)).trans Af),((HB.o.cell (kW w _ Aw)).trans Aw),((HB.o.cell (kW w _ Av)).trans Av),((HB.o.cell (kW w _ Au)).trans Au),((HB.o.cell (kW w _ At)).trans At),((HB.o.cell (kW w _ As)).trans As),((HB.o.cell (kW w _ B3)).trans B3),((HB.o.cell (kW w _ B2)).trans B2),((HB.o.cell (kW w _ B1)).trans B1),((HB.o.cell (kW w _ B0)).trans B0),((HB.o.cell (kW w _ Az)).trans Az)⟩ (fun hHeld=>?_);refine bW bP.tab6 bP.bits6 (fun HT_ HW_=>?_)
     generalize wr.drew=Du at HB Bi Bv Bn Bz Cc C4 Cg C9 A5 Ak Al Am A6 A8 An Ao Ap A9 Aq B4 B5 B6 Ar Ax B7 B8 B9 Ay hHeld ⊢
     refine pv HT_ 0 (some 17) #[T,F,F,F,F,F,F,F,F,F,F,F,F,F,F,F,F,F,F,F,F,F,F,F,F,F] ?_
     refine pv HT_ 1 (some 18) #[T,T,F,F,F,F,F,F,F,F,F,F,F,F,F,F,F,F,F,F,F,F,F,F,F,F] ?_
     refine pv HT_ 2 (some 19) #[T,T,T,F,F,F,F,F,F,F,F,F,F,F,F,F,F,F,F,F,F,F,F,F,F,F] ?_
     refine pv HT_ 3 (some 20) #[T,T,T,T,F,F,F,F,F,F,F,F,F,F,F,F,F,F,F,F,F,F,F,F,F,F] ?_
     refine pv HT_ 5 (some 22) #[T,T,T,T,F,T,F,F,F,F,F,F,F,F,F,F,F,F,F,F,F,F,F,F,F,F] ?_
     refine pv HT_ 6 (some 23) #[T,T,T,T,F,T,T,F,F,F,F,F,F,F,F,F,F,F,F,F,F,F,F,F,F,F] ?_
     refine pv HT_ 7 (some 24) #[T,T,T,T,F,T,T,T,F,F,F,F,F,F,F,F,F,F,F,F,F,F,F,F,F,F] ?_
     refine pv HT_ 8 (some 25) #[T,T,T,T,F,T,T,T,T,F,F,F,F,F,F,F,F,F,F,F,F,F,F,F,F,F] ?_
     refine tk 4 (some 21) #[T,T,T,T,T,T,T,T,T,F,F,F,F,F,F,F,F,F,F,F,F,F,F,F,F,F] rfl rfl (aZ HT_.o HW_.o (by kernel_rfl)) hHeld (Or.inl ⟨by rfl,by rintro w' ⟨s0,s1,s2,s3,s4,s5,s6,s7,s8,s9,D0,D1,D2,D3,D4,D5,D6,D7,D8,D9⟩;go_simp;with_reducible rfl⟩) ?_
     refine tk 9 (some 26) #[T,T,T,T,T,T,T,T,T,T,F,F,F,F,F,F,F,F,F,F,F,F,F,F,F,F] rfl rfl (aZ HT_.o HW_.o (by kernel_rfl)) hHeld (Or.inl ⟨by rfl,by rintro w' ⟨s0,s1,s2,s3,s4,s5,s6,s7,s8,s9,D0,D1,D2,D3,D4,D5,D6,D7,D8,D9⟩;go_simp;with_reducible rfl⟩) ?_
     refine dM (i:=10) (N:=some 27) #[T,T,T,T,T,T,T,T,T,T,T,F,F,F,F,F,F,F,F,F,F,F,F,F,F,F] rfl rfl (bS HT_.o (by kernel_rfl)) (by decide) (fun K hK=>?_)
     refine cU Try.func45 (by kernel_rfl) rfl #[.slice Ba ((aG l0 A2).f0).length Bb,.slice Bc ((aG l1 A2).f0).length Bd] (by rfl) rfl rfl ga ?_
     with_reducible refine (dG.calls k1 _ _ ((aG l0 A2).f0) _ _ ((aG l1 A2).f0) true _ ?side1 ?side2 ?side3 ?side4 A7.o).mono ?_
     (case side1=>exact cq (Kd.C_below Bi.o HB.o))
     (case side2=>exact Bu.o)
     (case side3=>exact cq (Kd.C_below Bn.o HB.o))
     (case side4=>exact By.o)
     rintro e w' ⟨rfl,⟨nd,rfl⟩⟩
     refine ⟨_,rfl,?_⟩
     refine hK.out _ _ ⟨((HB.o.cell (kW w _ Ae)).trans Ae),((HB.o.cell (kW w _ Ad)).trans Ad),((HB.o.cell (kW w _ Ac)).trans Ac),((HB.o.cell (kW w _ Ab)).trans Ab),((HB.o.cell (kW w _ Aa)).trans Aa),((HB.o.cell (kW w _ Aj)).trans Aj),((HB.o.cell (kW w _ Ai)).trans Ai),((HB.o.cell (kW w _ Ah)).trans Ah),((HB.o.cell (kW w _ Ag)).trans Ag),((HB.o.cell (kW w _ Af)).trans Af),((HB.o.cell (kW w _ Aw)).trans Aw),((HB.o.cell (kW w _ Av)).trans Av),((HB.o.cell (kW w _ Au)).trans Au),((HB.o.cell (kW w _ At)).trans At),((HB.o.cell (kW w _ As)).trans As),((HB.o.cell (kW w _ B3)).trans B3),((HB.o.cell (kW w _ B2)).trans B2),((HB.o.cell (kW w _ B1)).trans B1),((HB.o.cell (kW w _ B0)).trans B0),((HB.o.cell (kW w _ Az)).trans Az)⟩ (fun hHeld=>?_)
     clear hK K
     refine bZ (a':=?_) ?_ ?_
     rotate_left
     · show Act.put _ (some 27) _=_
       simp only [Act.put,kX,kY,kZ,aI,aK]
       rfl
     refine pv HT_ 11 (some 28) #[T,T,T,T,T,T,T,T,T,T,T,T,F,F,F,F,F,F,F,F,F,F,F,F,F,F] ?_
     refine pv HT_ 12 (some 29) #[T,T,T,T,T,T,T,T,T,T,T,T,T,F,F,F,F,F,F,F,F,F,F,F,F,F] ?_
     refine pv HT_ 13 (some 30) #[T,T,T,T,T,T,T,T,T,T,T,T,T,T,F,F,F,F,F,F,F,F,F,F,F,F] ?_
     refine pv HT_ 14 (some 31) #[T,T,T,T,T,T,T,T,T,T,T,T,T,T,T,F,F,F,F,F,F,F,F,F,F,F] ?_
     refine pv HT_ 15 (some 32) #[T,T,T,T,T,T,T,T,T,T,T,T,T,T,T,T,F,F,F,F,F,F,F,F,F,F] ?_
     refine pv HT_ 16 (some 33) #[T,T,T,T,T,T,T,T,T,T,T,T,T,T,T,T,T,F,F,F,F,F,F,F,F,F] ?_
     refine pv HT_ 18 (some 35) #[T,T,T,T,T,T,T,T,T,T,T,T,T,T,T,T,T,F,T,F,F,F,F,F,F,F] ?_
     refine pv HT_ 19 (some 36) #[T,T,T,T,T,T,T,T,T,T,T,T,T,T,T,T,T,F,T,T,F,F,F,F,F,F] ?_
     refine pv HT_ 20 (some 37) #[T,T,T,T,T,T,T,T,T,T,T,T,T,T,T,T,T,F,T,T,T,F,F,F,F,F] ?_
     refine pv HT_ 21 (some 38) #[T,T,T,T,T,T,T,T,T,T,T,T,T,T,T,T,T,F,T,T,T,T,F,F,F,F] ?_
     refine tk 17 (some 34) #[T,T,T,T,T,T,T,T,T,T,T,T,T,T,T,T,T,T,T,T,T,T,F,F,F,F] rfl rfl (aZ HT_.o HW_.o (by kernel_rfl)) hHeld (Or.inl ⟨by rfl,by rintro w' ⟨s0,s1,s2,s3,s4,s5,s6,s7,s8,s9,D0,D1,D2,D3,D4,D5,D6,D7,D8,D9⟩;go_simp;with_reducible rfl⟩) ?_
     refine tk 22 (some 39) #[T,T,T,T,T,T,T,T,T,T,T,T,T,T,T,T,T,T,T,T,T,T,T,F,F,F] rfl rfl (aZ HT_.o HW_.o (by kernel_rfl)) hHeld (Or.inl ⟨by rfl,by rintro w' ⟨s0,s1,s2,s3,s4,s5,s6,s7,s8,s9,D0,D1,D2,D3,D4,D5,D6,D7,D8,D9⟩;go_simp;with_reducible rfl⟩) ?_
     refine dM (i:=23) (N:=some 40) #[T,T,T,T,T,T,T,T,T,T,T,T,T,T,T,T,T,T,T,T,T,T,T,T,F,F] rfl rfl (bS HT_.o (by kernel_rfl)) (by decide) (fun K hK=>?_)
     refine cU Try.func46 (by kernel_rfl) rfl #[.agg #[.int .i64 ((aG l0 A2).f1.f0),.int .i64 ((aG l0 A2).f1.f1),.string ((aG l0 A2).f1.f2),.slice Bo ((aG l0 A2).f1.f3).length Bp],.agg #[.int .i64 ((aG l1 A2).f1.f0),.int .i64 ((aG l1 A2).f1.f1),.string ((aG l1 A2).f1.f2),.slice Bq ((aG l1 A2).f1.f3).length Br]] (by rfl) rfl rfl ga ?_
     with_reducible refine (e7.calls k1 ((aG l0 A2).f1.f0) ((aG l0 A2).f1.f1) ((aG l0 A2).f1.f2) _ _ ((aG l0 A2).f1.f3) ((aG l1 A2).f1.f0) ((aG l1 A2).f1.f1) ((aG l1 A2).f1.f2) _ _ ((aG l1 A2).f1.f3) false _ ?side1 ?side2 ?side3 ?side4 Dn.o).mono ?_
     (case side1=>exact cq (Kd.C_below C4.o (bq HB.o)))
     (case side2=>exact Cd.o)
     (case side3=>exact cq (Kd.C_below C9.o (bq HB.o)))
     (case side4=>exact Ch.o)
     rintro e Dv ⟨rfl,hb⟩
     refine ⟨_,rfl,?_⟩
     replace HB:=am (aC (bq HB.o) hb)
     (try clear hb)
     refine hK.out _ _ ⟨((HB.o.cell (kW w _ Ae)).trans Ae),((HB.o.cell (kW w _ Ad)).trans Ad),((HB.o.cell (kW w _ Ac)).trans Ac),((HB.o.cell (kW w _ Ab)).trans Ab),((HB.o.cell (kW w _ Aa)).trans Aa),((HB.o.cell (kW w _ Aj)).trans Aj),((HB.o.cell (kW w _ Ai)).trans Ai),((HB.o.cell (kW w _ Ah)).trans Ah),((HB.o.cell (kW w _ Ag)).trans Ag),((HB.o.cell (kW w _ Af)).trans Af),((HB.o.cell (kW w _ Aw)).trans Aw),((HB.o.cell (kW w _ Av)).trans Av),((HB.o.cell (kW w _ Au)).trans Au),((HB.o.cell (kW w _ At)).trans At),((HB.o.cell (kW w _ As)).trans As),((HB.o.cell (kW w _ B3)).trans B3),((HB.o.cell (kW w _ B2)).trans B2),((HB.o.cell (kW w _ B1)).trans B1),((HB.o.cell (kW w _ B0)).trans B0),((HB.o.cell (kW w _ Az)).trans Az)⟩ (fun hHeld=>?_)
     clear hK K
     refine bZ (a':=?_) ?_ ?_
     rotate_left
     · show Act.put _ (some 40) _=_
       simp only [Act.put,kX,kY,kZ,aI,aK]
       rfl
     refine pv HT_ 24 (some 41) #[T,T,T,T,T,T,T,T,T,T,T,T,T,T,T,T,T,T,T,T,T,T,T,T,T,F] ?_
     refine pv HT_ 25 (some 42) #[T,T,T,T,T,T,T,T,T,T,T,T,T,T,T,T,T,T,T,T,T,T,T,T,T,T] ?_
     refine d5 (cL HT_.o (by kernel_rfl)) ?_
     try go_wp2
     go_ret
     exact ⟨rq,bq HB.o⟩
   replace H:=iT H
   have H':=am H
   clear H
   try go_wp2
   replace HB:=am (bB HB.o)
   have Bs:0≤(A2:Int):=oda
   have Bt:A2<(l0.length:Int):=oda
   obtain ⟨A3,Ba,Bb,Bo,Bp,Ci,A5,Ak,Al,Am,A6,Be,Bf,Bg,Bh⟩:=dR Da.o A2 Bs Bt
   have Aa:=A6
   have Ab:=Am
   have Ac:=Al
   have Ad:=Ak
   have Ae:=A5
   cases Ci
   replace A5:=(HB.o.cell (kW w _ A5)).trans A5
   replace Ak:=(HB.o.cell (kW w _ Ak)).trans Ak
   replace Al:=(HB.o.cell (kW w _ Al)).trans Al
   replace Am:=(HB.o.cell (kW w _ Am)).trans Am
   replace A6:=(HB.o.cell (kW w _ A6)).trans A6
   have Bi:=am Bf
   have Bu:=am Be
   clear Bf Be
   have Bv:=am Bh
   have Cj:=am Bg
   clear Bh Bg
   replace Bs:=eq_true Bs
   replace Bt:=eq_true Bt
   have Bw:0≤(A2:Int):=oda
   have Bx:A2<(l1.length:Int):=oda
   obtain ⟨A4,Bc,Bd,Bq,Br,Ck,A8,An,Ao,Ap,A9,Bj,Bk,Bl,Bm⟩:=dR Db.o A2 Bw Bx
   have Af:=A9
   have Ag:=Ap
   have Ah:=Ao
   have Ai:=An
   have Aj:=A8
   cases Ck
   replace A8:=(HB.o.cell (kW w _ A8)).trans A8
   replace An:=(HB.o.cell (kW w _ An)).trans An
   replace Ao:=(HB.o.cell (kW w _ Ao)).trans Ao
   replace Ap:=(HB.o.cell (kW w _ Ap)).trans Ap
   replace A9:=(HB.o.cell (kW w _ A9)).trans A9
   have Bn:=am Bk
   have By:=am Bj
   clear Bk Bj
   have Bz:=am Bm
   have Cl:=am Bl
   clear Bm Bl
   replace Bw:=eq_true Bw
   replace Bx:=eq_true Bx
   have Ca:0≤(A2:Int):=oda
   have Cb:A2<(l0.length:Int):=oda
   obtain ⟨Cm,Cs,Ct,Cu,Cv,Co,Aq,B4,B5,B6,Ar,C0,C1,C2,C3⟩:=dR Da.o A2 Ca Cb
   have As:=Ar
   have At:=B6
   have Au:=B5
   have Av:=B4
   have Aw:=Aq
   obtain rfl:A3=Cm:=(by injection Co)
   replace Aq:=(HB.o.cell (kW w _ Aq)).trans Aq
   replace B4:=(HB.o.cell (kW w _ B4)).trans B4
   replace B5:=(HB.o.cell (kW w _ B5)).trans B5
   replace B6:=(HB.o.cell (kW w _ B6)).trans B6
   replace Ar:=(HB.o.cell (kW w _ Ar)).trans Ar
   have Cc:=am C1
   have Cp:=am C0
   clear C1 C0
   have C4:=am C3
   have Cd:=am C2
   clear C3 C2
   replace Ca:=eq_true Ca
   replace Cb:=eq_true Cb
   have ea_:=k6 (A5.symm.trans Aq)
   injection ea_ with ea_ en_ ec_
   subst ea_
   subst ec_
   clear en_
   have ea_:=k6 (A6.symm.trans Ar)
   injection ea_ with ea_ en_ ec_
   subst ea_
   subst ec_
   clear en_
   have Ce:0≤(A2:Int):=oda
   have Cf:A2<(l1.length:Int):=oda
   obtain ⟨Cn,Cw,Cx,Cy,Cz,Cq,Ax,B7,B8,B9,Ay,C5,C6,C7,C8⟩:=dR Db.o A2 Ce Cf
   have Az:=Ay
   have B0:=B9
   have B1:=B8
   have B2:=B7
   have B3:=Ax
   obtain rfl:A4=Cn:=(by injection Cq)
   replace Ax:=(HB.o.cell (kW w _ Ax)).trans Ax
   replace B7:=(HB.o.cell (kW w _ B7)).trans B7
   replace B8:=(HB.o.cell (kW w _ B8)).trans B8
   replace B9:=(HB.o.cell (kW w _ B9)).trans B9
   replace Ay:=(HB.o.cell (kW w _ Ay)).trans Ay
   have Cg:=am C6
   have Cr:=am C5
   clear C6 C5
   have C9:=am C8
   have Ch:=am C7
   clear C8 C7
   replace Ce:=eq_true Ce
   replace Cf:=eq_true Cf
   have ea_:=k6 (A8.symm.trans Ax)
   injection ea_ with ea_ en_ ec_
   subst ea_
   subst ec_
   clear en_
   have ea_:=k6 (A9.symm.trans Ay)
   injection ea_ with ea_ en_ ec_
   subst ea_
   subst ec_
   clear en_
   refine cW (n:=26) (S:=fun w'=>w'.cell? (A3.add ((A2).toNat*5))=some (.slice Ba ((aG l0 A2).f0).length Bb)∧w'.cell? ⟨(A3.add ((A2).toNat*5)).block,(A3.add ((A2).toNat*5)).off+1,none⟩=some (.int .i64 ((aG l0 A2).f1.f0))∧w'.cell? ⟨(A3.add ((A2).toNat*5)).block,(A3.add ((A2).toNat*5)).off+2,none⟩=some (.int .i64 ((aG l0 A2).f1.f1))∧w'.cell? ⟨(A3.add ((A2).toNat*5)).block,(A3.add ((A2).toNat*5)).off+3,none⟩=some (.string ((aG l0 A2).f1.f2))∧w'.cell? ⟨(A3.add ((A2).toNat*5)).block,(A3.add ((A2).toNat*5)).off+4,none⟩=some (.slice Bo ((aG l0 A2).f1.f3).length Bp)∧w'.cell? (A4.add ((A2).toNat*5))=some (.slice Bc ((aG l1 A2).f0).length Bd)∧w'.cell? ⟨(A4.add ((A2).toNat*5)).block,(A4.add ((A2).toNat*5)).off+1,none⟩=some (.int .i64 ((aG l1 A2).f1.f0))∧w'.cell? ⟨(A4.add ((A2).toNat*5)).block,(A4.add ((A2).toNat*5)).off+2,none⟩=some (.int .i64 ((aG l1 A2).f1.f1))∧w'.cell? ⟨(A4.add ((A2).toNat*5)).block,(A4.add ((A2).toNat*5)).off+3,none⟩=some (.string ((aG l1 A2).f1.f2))∧w'.cell? ⟨(A4.add ((A2).toNat*5)).block,(A4.add ((A2).toNat*5)).off+4,none⟩=some (.slice Bq ((aG l1 A2).f1.f3).length Br)∧w'.cell? (A3.add ((A2).toNat*5))=some (.slice Ba ((aG l0 A2).f0).length Bb)∧w'.cell? ⟨(A3.add ((A2).toNat*5)).block,(A3.add ((A2).toNat*5)).off+1,none⟩=some (.int .i64 ((aG l0 A2).f1.f0))∧w'.cell? ⟨(A3.add ((A2).toNat*5)).block,(A3.add ((A2).toNat*5)).off+2,none⟩=some (.int .i64 ((aG l0 A2).f1.f1))∧w'.cell? ⟨(A3.add ((A2).toNat*5)).block,(A3.add ((A2).toNat*5)).off+3,none⟩=some (.string ((aG l0 A2).f1.f2))∧w'.cell? ⟨(A3.add ((A2).toNat*5)).block,(A3.add ((A2).toNat*5)).off+4,none⟩=some (.slice Bo ((aG l0 A2).f1.f3).length Bp)∧w'.cell? (A4.add ((A2).toNat*5))=some (.slice Bc ((aG l1 A2).f0).length Bd)∧w'.cell? ⟨(A4.add ((A2).toNat*5)).block,(A4.add ((A2).toNat*5)).off+1,none⟩=some (.int .i64 ((aG l1 A2).f1.f0))∧w'.cell? ⟨(A4.add ((A2).toNat*5)).block,(A4.add ((A2).toNat*5)).off+2,none⟩=some (.int .i64 ((aG l1 A2).f1.f1))∧w'.cell? ⟨(A4.add ((A2).toNat*5)).block,(A4.add ((A2).toNat*5)).off+3,none⟩=some (.string ((aG l1 A2).f1.f2))∧w'.cell? ⟨(A4.add ((A2).toNat*5)).block,(A4.add ((A2).toNat*5)).off+4,none⟩=some (.slice Bq ((aG l1 A2).f1.f3).length Br)) (ds:=[]) #[F,F,F,F,F,F,F,F,F,F,F,F,F,F,F,F,F,F,F,F,F,F,F,F,F,F] (by kernel_rfl) rfl rfl ⟨((HB.o.cell (kW w _ Ae)).trans Ae),((HB.o.cell (kW w _ Ad)).trans Ad),((HB.o.cell (kW w _ Ac)).trans Ac),((HB.o.cell (kW w _ Ab)).trans Ab),((HB.o.cell (kW w _ Aa)).trans Aa),((HB.o.cell (kW w _ Aj)).trans Aj),((HB.o.cell (kW w _ Ai)).trans Ai),((HB.o.cell (kW w _ Ah)).trans Ah),((HB.o.cell (kW w _ Ag)).trans Ag),((HB.o.cell (kW w _ Af)).trans Af),((HB.o.cell (kW w _ Aw)).trans Aw),((HB.o.cell (kW w _ Av)).trans Av),((HB.o.cell (kW w _ Au)).trans Au),((HB.o.cell (kW w _ At)).trans At),((HB.o.cell (kW w _ As)).trans As),((HB.o.cell (kW w _ B3)).trans B3),((HB.o.cell (kW w _ B2)).trans B2),((HB.o.cell (kW w _ B1)).trans B1),((HB.o.cell (kW w _ B0)).trans B0),((HB.o.cell (kW w _ Az)).trans Az)⟩ (fun hHeld=>?_);refine bW bP.tab6 bP.bits6 (fun HT_ HW_=>?_)
   generalize wr.drew=Dw at HB Bi Bv Bn Bz Cc C4 Cg C9 A5 Ak Al Am A6 A8 An Ao Ap A9 Aq B4 B5 B6 Ar Ax B7 B8 B9 Ay hHeld ⊢
   refine pv HT_ 0 (some 17) #[T,F,F,F,F,F,F,F,F,F,F,F,F,F,F,F,F,F,F,F,F,F,F,F,F,F] ?_
   refine pv HT_ 1 (some 18) #[T,T,F,F,F,F,F,F,F,F,F,F,F,F,F,F,F,F,F,F,F,F,F,F,F,F] ?_
   refine pv HT_ 2 (some 19) #[T,T,T,F,F,F,F,F,F,F,F,F,F,F,F,F,F,F,F,F,F,F,F,F,F,F] ?_
   refine pv HT_ 3 (some 20) #[T,T,T,T,F,F,F,F,F,F,F,F,F,F,F,F,F,F,F,F,F,F,F,F,F,F] ?_
   refine pv HT_ 5 (some 22) #[T,T,T,T,F,T,F,F,F,F,F,F,F,F,F,F,F,F,F,F,F,F,F,F,F,F] ?_
   refine pv HT_ 6 (some 23) #[T,T,T,T,F,T,T,F,F,F,F,F,F,F,F,F,F,F,F,F,F,F,F,F,F,F] ?_
   refine pv HT_ 7 (some 24) #[T,T,T,T,F,T,T,T,F,F,F,F,F,F,F,F,F,F,F,F,F,F,F,F,F,F] ?_
   refine pv HT_ 8 (some 25) #[T,T,T,T,F,T,T,T,T,F,F,F,F,F,F,F,F,F,F,F,F,F,F,F,F,F] ?_
   refine tk 4 (some 21) #[T,T,T,T,T,T,T,T,T,F,F,F,F,F,F,F,F,F,F,F,F,F,F,F,F,F] rfl rfl (aZ HT_.o HW_.o (by kernel_rfl)) hHeld (Or.inl ⟨by rfl,by rintro w' ⟨s0,s1,s2,s3,s4,s5,s6,s7,s8,s9,D0,D1,D2,D3,D4,D5,D6,D7,D8,D9⟩;go_simp;with_reducible rfl⟩) ?_
   refine tk 9 (some 26) #[T,T,T,T,T,T,T,T,T,T,F,F,F,F,F,F,F,F,F,F,F,F,F,F,F,F] rfl rfl (aZ HT_.o HW_.o (by kernel_rfl)) hHeld (Or.inl ⟨by rfl,by rintro w' ⟨s0,s1,s2,s3,s4,s5,s6,s7,s8,s9,D0,D1,D2,D3,D4,D5,D6,D7,D8,D9⟩;go_simp;with_reducible rfl⟩) ?_
   refine dM (i:=10) (N:=some 27) #[T,T,T,T,T,T,T,T,T,T,T,F,F,F,F,F,F,F,F,F,F,F,F,F,F,F] rfl rfl (bS HT_.o (by kernel_rfl)) (by decide) (fun K hK=>?_)
   refine cU Try.func45 (by kernel_rfl) rfl #[.slice Ba ((aG l0 A2).f0).length Bb,.slice Bc ((aG l1 A2).f0).length Bd] (by rfl) rfl rfl ga ?_
   with_reducible refine (dG.calls k1 _ _ ((aG l0 A2).f0) _ _ ((aG l1 A2).f0) true _ ?side1 ?side2 ?side3 ?side4 A7.o).mono ?_
   (case side1=>exact cq (Kd.C_below Bi.o HB.o))
   (case side2=>exact Bu.o)
   (case side3=>exact cq (Kd.C_below Bn.o HB.o))
   (case side4=>exact By.o)
   rintro e w' ⟨rfl,⟨nd,rfl⟩⟩
   refine ⟨_,rfl,?_⟩
   refine hK.out _ _ ⟨((HB.o.cell (kW w _ Ae)).trans Ae),((HB.o.cell (kW w _ Ad)).trans Ad),((HB.o.cell (kW w _ Ac)).trans Ac),((HB.o.cell (kW w _ Ab)).trans Ab),((HB.o.cell (kW w _ Aa)).trans Aa),((HB.o.cell (kW w _ Aj)).trans Aj),((HB.o.cell (kW w _ Ai)).trans Ai),((HB.o.cell (kW w _ Ah)).trans Ah),((HB.o.cell (kW w _ Ag)).trans Ag),((HB.o.cell (kW w _ Af)).trans Af),((HB.o.cell (kW w _ Aw)).trans Aw),((HB.o.cell (kW w _ Av)).trans Av),((HB.o.cell (kW w _ Au)).trans Au),((HB.o.cell (kW w _ At)).trans At),((HB.o.cell (kW w _ As)).trans As),((HB.o.cell (kW w _ B3)).trans B3),((HB.o.cell (kW w _ B2)).trans B2),((HB.o.cell (kW w _ B1)).trans B1),((HB.o.cell (kW w _ B0)).trans B0),((HB.o.cell (kW w _ Az)).trans Az)⟩ (fun hHeld=>?_)
   clear hK K
   refine bZ (a':=?_) ?_ ?_
   rotate_left
   · show Act.put _ (some 27) _=_
     simp only [Act.put,kX,kY,kZ,aI,aK]
     rfl
   refine pv HT_ 11 (some 28) #[T,T,T,T,T,T,T,T,T,T,T,T,F,F,F,F,F,F,F,F,F,F,F,F,F,F] ?_
   refine pv HT_ 12 (some 29) #[T,T,T,T,T,T,T,T,T,T,T,T,T,F,F,F,F,F,F,F,F,F,F,F,F,F] ?_
   refine pv HT_ 13 (some 30) #[T,T,T,T,T,T,T,T,T,T,T,T,T,T,F,F,F,F,F,F,F,F,F,F,F,F] ?_
   refine pv HT_ 14 (some 31) #[T,T,T,T,T,T,T,T,T,T,T,T,T,T,T,F,F,F,F,F,F,F,F,F,F,F] ?_
   refine pv HT_ 15 (some 32) #[T,T,T,T,T,T,T,T,T,T,T,T,T,T,T,T,F,F,F,F,F,F,F,F,F,F] ?_
   refine pv HT_ 16 (some 33) #[T,T,T,T,T,T,T,T,T,T,T,T,T,T,T,T,T,F,F,F,F,F,F,F,F,F] ?_
   refine pv HT_ 18 (some 35) #[T,T,T,T,T,T,T,T,T,T,T,T,T,T,T,T,T,F,T,F,F,F,F,F,F,F] ?_
   refine pv HT_ 19 (some 36) #[T,T,T,T,T,T,T,T,T,T,T,T,T,T,T,T,T,F,T,T,F,F,F,F,F,F] ?_
   refine pv HT_ 20 (some 37) #[T,T,T,T,T,T,T,T,T,T,T,T,T,T,T,T,T,F,T,T,T,F,F,F,F,F] ?_
   refine pv HT_ 21 (some 38) #[T,T,T,T,T,T,T,T,T,T,T,T,T,T,T,T,T,F,T,T,T,T,F,F,F,F] ?_
   refine tk 17 (some 34) #[T,T,T,T,T,T,T,T,T,T,T,T,T,T,T,T,T,T,T,T,T,T,F,F,F,F] rfl rfl (aZ HT_.o HW_.o (by kernel_rfl)) hHeld (Or.inl ⟨by rfl,by rintro w' ⟨s0,s1,s2,s3,s4,s5,s6,s7,s8,s9,D0,D1,D2,D3,D4,D5,D6,D7,D8,D9⟩;go_simp;with_reducible rfl⟩) ?_
   refine tk 22 (some 39) #[T,T,T,T,T,T,T,T,T,T,T,T,T,T,T,T,T,T,T,T,T,T,T,F,F,F] rfl rfl (aZ HT_.o HW_.o (by kernel_rfl)) hHeld (Or.inl ⟨by rfl,by rintro w' ⟨s0,s1,s2,s3,s4,s5,s6,s7,s8,s9,D0,D1,D2,D3,D4,D5,D6,D7,D8,D9⟩;go_simp;with_reducible rfl⟩) ?_
   refine dM (i:=23) (N:=some 40) #[T,T,T,T,T,T,T,T,T,T,T,T,T,T,T,T,T,T,T,T,T,T,T,T,F,F] rfl rfl (bS HT_.o (by kernel_rfl)) (by decide) (fun K hK=>?_)
   refine cU Try.func46 (by kernel_rfl) rfl #[.agg #[.int .i64 ((aG l0 A2).f1.f0),.int .i64 ((aG l0 A2).f1.f1),.string ((aG l0 A2).f1.f2),.slice Bo ((aG l0 A2).f1.f3).length Bp],.agg #[.int .i64 ((aG l1 A2).f1.f0),.int .i64 ((aG l1 A2).f1.f1),.string ((aG l1 A2).f1.f2),.slice Bq ((aG l1 A2).f1.f3).length Br]] (by rfl) rfl rfl ga ?_
   with_reducible refine (e7.calls k1 ((aG l0 A2).f1.f0) ((aG l0 A2).f1.f1) ((aG l0 A2).f1.f2) _ _ ((aG l0 A2).f1.f3) ((aG l1 A2).f1.f0) ((aG l1 A2).f1.f1) ((aG l1 A2).f1.f2) _ _ ((aG l1 A2).f1.f3) true _ ?side1 ?side2 ?side3 ?side4 Dn.o).mono ?_
   (case side1=>exact cq (Kd.C_below C4.o (bq HB.o)))
   (case side2=>exact Cd.o)
   (case side3=>exact cq (Kd.C_below C9.o (bq HB.o)))
   (case side4=>exact Ch.o)
   rintro e Dx ⟨rfl,hb⟩
   refine ⟨_,rfl,?_⟩
   replace HB:=am (aC (bq HB.o) hb)
   (try clear hb)
   refine hK.out _ _ ⟨((HB.o.cell (kW w _ Ae)).trans Ae),((HB.o.cell (kW w _ Ad)).trans Ad),((HB.o.cell (kW w _ Ac)).trans Ac),((HB.o.cell (kW w _ Ab)).trans Ab),((HB.o.cell (kW w _ Aa)).trans Aa),((HB.o.cell (kW w _ Aj)).trans Aj),((HB.o.cell (kW w _ Ai)).trans Ai),((HB.o.cell (kW w _ Ah)).trans Ah),((HB.o.cell (kW w _ Ag)).trans Ag),((HB.o.cell (kW w _ Af)).trans Af),((HB.o.cell (kW w _ Aw)).trans Aw),((HB.o.cell (kW w _ Av)).trans Av),((HB.o.cell (kW w _ Au)).trans Au),((HB.o.cell (kW w _ At)).trans At),((HB.o.cell (kW w _ As)).trans As),((HB.o.cell (kW w _ B3)).trans B3),((HB.o.cell (kW w _ B2)).trans B2),((HB.o.cell (kW w _ B1)).trans B1),((HB.o.cell (kW w _ B0)).trans B0),((HB.o.cell (kW w _ Az)).trans Az)⟩ (fun hHeld=>?_)
   clear hK K
   refine bZ (a':=?_) ?_ ?_
   rotate_left
   · show Act.put _ (some 40) _=_
     simp only [Act.put,kX,kY,kZ,aI,aK]
     rfl
   refine pv HT_ 24 (some 41) #[T,T,T,T,T,T,T,T,T,T,T,T,T,T,T,T,T,T,T,T,T,T,T,T,T,F] ?_
   refine pv HT_ 25 (some 42) #[T,T,T,T,T,T,T,T,T,T,T,T,T,T,T,T,T,T,T,T,T,T,T,T,T,T] ?_
   refine d5 (cL HT_.o (by kernel_rfl)) ?_
   try go_wp2
   go_roundg k1
   case measure=>have:=Dm.o;omega
   case rel=>exact ⟨(wrap64 (A2+1)),sq,H',⟨by have:=Dm.o;omega⟩,⟨bq HB.o⟩⟩
end Go.Proofs.Ytgppikopdpeigaa.XFnPdus
