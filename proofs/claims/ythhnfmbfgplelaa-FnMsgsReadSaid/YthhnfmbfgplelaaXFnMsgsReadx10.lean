/- The functions that one law reaches, as Lean functions, with their walks: printed by a program of this seat (wip/tools) out of the translation. -/
import Derived.Test.YthhnfmbfgplelaaXFnMsgsReadx0
import Derived.Test.YthhnfmbfgplelaaXFnMsgsReadx1
namespace Go.Proofs.Ythhnfmbfgplelaa.XFnMsgsRead
open Go.RowKit Go.Proofs.YthhnfmbfgplelaaW.PrintWords Go.Proofs.YthhnfmbfgplelaaW.PrintLast Go.Proofs.YthhnfmbfgplelaaW.PrintMore
attribute [local go_sem] cL cM dC dD cB cC cN cO
set_option maxHeartbeats 8000000
set_option maxRecDepth 100000
set_option linter.unusedVariables false
set_option linter.unusedSimpArgs false
def bQ.l0:Nat→List (S116)→List (S116)→Int→Int→Option (Bool)
 |0,_,_,_,_=>none
 |k+1,x0,x1,A3,A0=>if A0<A3 then (if 0≤A0 then (if A0<(x0.length:Int) then (if A0<(x1.length:Int) then ((cV.f k ((aG x0 A0).f0) ((aG x1 A0).f0)).bind fun A1=>(if A1=true then ((cP.f k ((aG x0 A0).f1.f0) ((aG x0 A0).f1.f1) ((aG x0 A0).f1.f2) ((aG x0 A0).f1.f3) ((aG x1 A0).f1.f0) ((aG x1 A0).f1.f1) ((aG x1 A0).f1.f2) ((aG x1 A0).f1.f3)).bind fun A2=>(if A2=true then (bQ.l0 k x0 x1 A3 (wrap64 (A0+1))) else (some false))) else (some false))) else (none)) else (none)) else (none)) else (some true)
def bQ.f (k:Nat) (l0:List (S116)) (l1:List (S116)):Option (Bool):=if (l0.length:Int)=(l1.length:Int) then (bQ.l0 k l0 l1 (l0.length:Int) 0) else (some false)
def bQ.T6:Bool × List (List Nat × List Nat):=(true,[([],[]),([],[]),([0,1],[0,1]),([2],[2]),([3],[3]),([],[]),([],[]),([5,6],[5,6]),([7],[7]),([8],[8]),([4,9],[4,9]),([10],[10]),([11,10],[11]),([12],[12]),([12],[12]),([13,14,12],[12,13,14]),([15,12],[12,15]),([16,12],[12,16]),([12],[12]),([12],[12]),([18,19,12],[12,18,19]),([20,12],[12,20]),([21,12],[12,21]),([17,22,12,12],[12,17,22]),([23,12],[12,23]),([12,24],[12,24])])
def bQ.B6:List Nat:=[0,0,3,7,15,0,0,96,224,480,1023,2047,4095,8191,8191,32767,65535,131071,8191,8191,794623,1843199,3940351,8388607,16777215,33554431]
theorem bQ.tab6:eN .any (gA Try.f116 6)=bQ.T6:=by kernel_rfl
theorem bQ.bits6:eG bQ.T6.2 bQ.B6=true:=by kernel_rfl
theorem bQ.calls (k:Nat) (A0:Option Addr) (c0:Nat) (l0:List (S116)) (A1:Option Addr) (c1:Nat) (l1:List (S116)) (r:Bool) (w:World) (Di:Kd.C dV w A0 l0.length l0) (Dj:l0.length≤c0) (Dk:Kd.C dV w A1 l1.length l1) (Dl:l1.length≤c1) (h:bQ.f k l0 l1=some r):
 Calls Try.prog 116 #[.slice A0 l0.length c0,.slice A1 l1.length c1] w fun e w'=>e=.returned (.bool r)∧Below w.heap.size w w':=by
 have Do:=Try.underlying29
 have Da:=am Di
 have Dt:=am Dj
 clear Di Dj
 have Db:=am Dk
 have Du:=am Dl
 clear Dk Dl
 have HB:=am (Below.refl w.heap.size w)
 have H:=h
 clear h
 unfold bQ.f at H
 replace H:=iq' H
 rcases H with ⟨c3,Dc,Dd,H⟩|⟨c3,Dc,Dd,H⟩
 · have De:(l0.length==l1.length)=false:=by first|simpa using c3|(simp at c3 ⊢;omega)
   obtain rfl:=lY H
   go_enter Try.func116,Try.ntmps116
   go_wp2
   go_ret
   exact ⟨rq,bq HB.o⟩
 have De:(l0.length==l1.length)=true:=by first|simpa using c3|(simp at c3 ⊢;omega)
 clear c3
 have H':=am H
 clear H
 go_enter Try.func116,Try.ntmps116
 go_wp2
 go_loopg [13] k (fun kq Dp w'=>∃(A2:Int),Dp=.int .i64 A2∧Aside0 (bQ.l0 kq l0 l1 (l0.length:Int) A2=some r)∧Aside0 (kq≤k)∧Aside0 (Below w.heap.size w w'))
 case atStart=>exact ⟨(0),sq,H',⟨lZ _⟩,⟨bq HB.o⟩⟩
 case round=>
  clear H'
  try clear c1
  try clear p2
  try clear c3
  try clear Dc
  try clear Dd
  try clear De
  obtain ⟨A2,rfl,HA,Dm,HB⟩:=hrel
  cases gk with
  |zero=>exact absurd HA.o (by simp [bQ.l0])
  |succ k1=>
   have H:=HA.o
   clear HA
   simp only [bQ.l0] at H
   replace H:=il' H
   rcases H with ⟨-,Dg,H⟩|⟨-,Dg,H⟩
   · obtain rfl:=lY H
     go_wp2
     go_ret
     exact ⟨rq,bq HB.o⟩
   replace H:=nl H
   obtain ⟨-,Dq,H⟩:=H
   replace H:=nl H
   obtain ⟨-,Dr,H⟩:=H
   replace H:=nl H
   obtain ⟨-,Ds,H⟩:=H
   replace H:=be H
   obtain ⟨Dh,A8,H⟩:=H
   cases Dh
   · replace H:=iF H
     obtain rfl:=lY H
     try go_wp2
     replace HB:=am (bD HB.o)
     have C6:0≤(A2:Int):=oda
     have C7:A2<(l0.length:Int):=oda
     obtain ⟨A3,Bk,Bl,Bo,Bp,Ck,A5,Ak,Al,Am,A6,Ba,Bb,Bc,Bd⟩:=d5 Da.o A2 C6 C7
     have Aa:=A6
     have Ab:=Am
     have Ac:=Al
     have Ad:=Ak
     have Ae:=A5
     cases Ck
     replace A5:=(HB.o.cell (lS w _ A5)).trans A5
     replace Ak:=(HB.o.cell (lS w _ Ak)).trans Ak
     replace Al:=(HB.o.cell (lS w _ Al)).trans Al
     replace Am:=(HB.o.cell (lS w _ Am)).trans Am
     replace A6:=(HB.o.cell (lS w _ A6)).trans A6
     have Be:=am Bb
     have Bs:=am Ba
     clear Bb Ba
     have Bt:=am Bd
     have Ci:=am Bc
     clear Bd Bc
     replace C6:=eq_true C6
     replace C7:=eq_true C7
     have C8:0≤(A2:Int):=oda
     have C9:A2<(l1.length:Int):=oda
     obtain ⟨A4,Bm,Bn,Bq,Br,Cl,A7,An,Ao,Ap,A9,Bf,Bg,Bh,Bi⟩:=d5 Db.o A2 C8 C9
     have Af:=A9
     have Ag:=Ap
     have Ah:=Ao
     have Ai:=An
     have Aj:=A7
     cases Cl
     replace A7:=(HB.o.cell (lS w _ A7)).trans A7
     replace An:=(HB.o.cell (lS w _ An)).trans An
     replace Ao:=(HB.o.cell (lS w _ Ao)).trans Ao
     replace Ap:=(HB.o.cell (lS w _ Ap)).trans Ap
     replace A9:=(HB.o.cell (lS w _ A9)).trans A9
     have Bj:=am Bg
     have Bu:=am Bf
     clear Bg Bf
     have Bv:=am Bi
     have Cj:=am Bh
     clear Bi Bh
     replace C8:=eq_true C8
     replace C9:=eq_true C9
     refine dJ (n:=26) (S:=fun w'=>w'.cell? (A3.add ((A2).toNat*5))=some (.slice Bk ((aG l0 A2).f0).length Bl)∧w'.cell? ⟨(A3.add ((A2).toNat*5)).block,(A3.add ((A2).toNat*5)).off+1,none⟩=some (.int .i64 ((aG l0 A2).f1.f0))∧w'.cell? ⟨(A3.add ((A2).toNat*5)).block,(A3.add ((A2).toNat*5)).off+2,none⟩=some (.int .i64 ((aG l0 A2).f1.f1))∧w'.cell? ⟨(A3.add ((A2).toNat*5)).block,(A3.add ((A2).toNat*5)).off+3,none⟩=some (.string ((aG l0 A2).f1.f2))∧w'.cell? ⟨(A3.add ((A2).toNat*5)).block,(A3.add ((A2).toNat*5)).off+4,none⟩=some (.slice Bo ((aG l0 A2).f1.f3).length Bp)∧w'.cell? (A4.add ((A2).toNat*5))=some (.slice Bm ((aG l1 A2).f0).length Bn)∧w'.cell? ⟨(A4.add ((A2).toNat*5)).block,(A4.add ((A2).toNat*5)).off+1,none⟩=some (.int .i64 ((aG l1 A2).f1.f0))∧w'.cell? ⟨(A4.add ((A2).toNat*5)).block,(A4.add ((A2).toNat*5)).off+2,none⟩=some (.int .i64 ((aG l1 A2).f1.f1))∧w'.cell? ⟨(A4.add ((A2).toNat*5)).block,(A4.add ((A2).toNat*5)).off+3,none⟩=some (.string ((aG l1 A2).f1.f2))∧w'.cell? ⟨(A4.add ((A2).toNat*5)).block,(A4.add ((A2).toNat*5)).off+4,none⟩=some (.slice Bq ((aG l1 A2).f1.f3).length Br)) (ds:=[]) #[F,F,F,F,F,F,F,F,F,F,F,F,F,F,F,F,F,F,F,F,F,F,F,F,F,F] (by kernel_rfl) rfl rfl ⟨((HB.o.cell (lS w _ Ae)).trans Ae),((HB.o.cell (lS w _ Ad)).trans Ad),((HB.o.cell (lS w _ Ac)).trans Ac),((HB.o.cell (lS w _ Ab)).trans Ab),((HB.o.cell (lS w _ Aa)).trans Aa),((HB.o.cell (lS w _ Aj)).trans Aj),((HB.o.cell (lS w _ Ai)).trans Ai),((HB.o.cell (lS w _ Ah)).trans Ah),((HB.o.cell (lS w _ Ag)).trans Ag),((HB.o.cell (lS w _ Af)).trans Af)⟩ (fun hHeld=>?_);refine bW bQ.tab6 bQ.bits6 (fun HT_ HW_=>?_)
     generalize wr.drew=Dv at HB Be Bt Bj Bv A5 Ak Al Am A6 A7 An Ao Ap A9 hHeld ⊢
     refine pv HT_ 0 (some 16) #[T,F,F,F,F,F,F,F,F,F,F,F,F,F,F,F,F,F,F,F,F,F,F,F,F,F] ?_
     refine pv HT_ 1 (some 17) #[T,T,F,F,F,F,F,F,F,F,F,F,F,F,F,F,F,F,F,F,F,F,F,F,F,F] ?_
     refine pv HT_ 2 (some 18) #[T,T,T,F,F,F,F,F,F,F,F,F,F,F,F,F,F,F,F,F,F,F,F,F,F,F] ?_
     refine pv HT_ 3 (some 19) #[T,T,T,T,F,F,F,F,F,F,F,F,F,F,F,F,F,F,F,F,F,F,F,F,F,F] ?_
     refine pv HT_ 5 (some 21) #[T,T,T,T,F,T,F,F,F,F,F,F,F,F,F,F,F,F,F,F,F,F,F,F,F,F] ?_
     refine pv HT_ 6 (some 22) #[T,T,T,T,F,T,T,F,F,F,F,F,F,F,F,F,F,F,F,F,F,F,F,F,F,F] ?_
     refine pv HT_ 7 (some 23) #[T,T,T,T,F,T,T,T,F,F,F,F,F,F,F,F,F,F,F,F,F,F,F,F,F,F] ?_
     refine pv HT_ 8 (some 24) #[T,T,T,T,F,T,T,T,T,F,F,F,F,F,F,F,F,F,F,F,F,F,F,F,F,F] ?_
     refine tk 4 (some 20) #[T,T,T,T,T,T,T,T,T,F,F,F,F,F,F,F,F,F,F,F,F,F,F,F,F,F] rfl rfl (a8 HT_.o HW_.o (by kernel_rfl)) hHeld (Or.inl ⟨by rfl,by rintro w' ⟨s0,s1,s2,s3,s4,s5,s6,s7,s8,s9⟩;go_simp;with_reducible rfl⟩) ?_
     refine tk 9 (some 25) #[T,T,T,T,T,T,T,T,T,T,F,F,F,F,F,F,F,F,F,F,F,F,F,F,F,F] rfl rfl (a8 HT_.o HW_.o (by kernel_rfl)) hHeld (Or.inl ⟨by rfl,by rintro w' ⟨s0,s1,s2,s3,s4,s5,s6,s7,s8,s9⟩;go_simp;with_reducible rfl⟩) ?_
     refine eI (i:=10) (N:=some 26) #[T,T,T,T,T,T,T,T,T,T,T,F,F,F,F,F,F,F,F,F,F,F,F,F,F,F] rfl rfl (b5 HT_.o (by kernel_rfl)) (by decide) (fun K hK=>?_)
     refine cY Try.func112 (by kernel_rfl) rfl #[.slice Bk ((aG l0 A2).f0).length Bl,.slice Bm ((aG l1 A2).f0).length Bn] (by rfl) rfl rfl ga ?_
     with_reducible refine (cV.calls k1 _ _ ((aG l0 A2).f0) _ _ ((aG l1 A2).f0) false _ ?side1 ?side2 ?side3 ?side4 A8.o).mono ?_
     (case side1=>exact cq (Kd.C_below Be.o HB.o))
     (case side2=>exact Bs.o)
     (case side3=>exact cq (Kd.C_below Bj.o HB.o))
     (case side4=>exact Bu.o)
     rintro e w' ⟨rfl,⟨nd,rfl⟩⟩
     refine ⟨_,rfl,?_⟩
     refine hK.out _ _ ⟨((HB.o.cell (lS w _ Ae)).trans Ae),((HB.o.cell (lS w _ Ad)).trans Ad),((HB.o.cell (lS w _ Ac)).trans Ac),((HB.o.cell (lS w _ Ab)).trans Ab),((HB.o.cell (lS w _ Aa)).trans Aa),((HB.o.cell (lS w _ Aj)).trans Aj),((HB.o.cell (lS w _ Ai)).trans Ai),((HB.o.cell (lS w _ Ah)).trans Ah),((HB.o.cell (lS w _ Ag)).trans Ag),((HB.o.cell (lS w _ Af)).trans Af)⟩ (fun hHeld=>?_)
     clear hK K
     refine cE (a':=?_) ?_ ?_
     rotate_left
     · show Act.put _ (some 26) _=_
       simp only [Act.put,lT,lU,lV,aK,aU]
       rfl
     refine pv HT_ 11 (some 27) #[T,T,T,T,T,T,T,T,T,T,T,T,F,F,F,F,F,F,F,F,F,F,F,F,F,F] ?_
     refine pv HT_ 12 (some 28) #[T,T,T,T,T,T,T,T,T,T,T,T,T,F,F,F,F,F,F,F,F,F,F,F,F,F] ?_
     refine bE (i:=13) (N:=some 29) (v:=undef) (a':=?_) #[T,T,T,T,T,T,T,T,T,T,T,T,T,T,F,F,F,F,F,F,F,F,F,F,F,F] rfl rfl (a6 HT_.o (by kernel_rfl)) (fun _ _ _ h=>h) (Or.inr ⟨by rfl,rfl⟩) ?_ ?_
     rotate_left
     · simp only [Act.put,lT,lU,lV,aK,aU]
       rfl
     refine bE (i:=14) (N:=some 30) (v:=undef) (a':=?_) #[T,T,T,T,T,T,T,T,T,T,T,T,T,T,T,F,F,F,F,F,F,F,F,F,F,F] rfl rfl (a6 HT_.o (by kernel_rfl)) (fun _ _ _ h=>h) (Or.inr ⟨by rfl,rfl⟩) ?_ ?_
     rotate_left
     · simp only [Act.put,lT,lU,lV,aK,aU]
       rfl
     refine bE (i:=15) (N:=some 31) (v:=undef) (a':=?_) #[T,T,T,T,T,T,T,T,T,T,T,T,T,T,T,T,F,F,F,F,F,F,F,F,F,F] rfl rfl (a6 HT_.o (by kernel_rfl)) (fun _ _ _ h=>h) (Or.inr ⟨by rfl,rfl⟩) ?_ ?_
     rotate_left
     · simp only [Act.put,lT,lU,lV,aK,aU]
       rfl
     refine bE (i:=16) (N:=some 32) (v:=undef) (a':=?_) #[T,T,T,T,T,T,T,T,T,T,T,T,T,T,T,T,T,F,F,F,F,F,F,F,F,F] rfl rfl (a6 HT_.o (by kernel_rfl)) (fun _ _ _ h=>h) (Or.inr ⟨by rfl,rfl⟩) ?_ ?_
     rotate_left
     · simp only [Act.put,lT,lU,lV,aK,aU]
       rfl
     refine bE (i:=17) (N:=some 33) (v:=undef) (a':=?_) #[T,T,T,T,T,T,T,T,T,T,T,T,T,T,T,T,T,T,F,F,F,F,F,F,F,F] rfl rfl (a6 HT_.o (by kernel_rfl)) (fun _ _ _ h=>h) (Or.inr ⟨by rfl,rfl⟩) ?_ ?_
     rotate_left
     · simp only [Act.put,lT,lU,lV,aK,aU]
       rfl
     refine bE (i:=18) (N:=some 34) (v:=undef) (a':=?_) #[T,T,T,T,T,T,T,T,T,T,T,T,T,T,T,T,T,T,T,F,F,F,F,F,F,F] rfl rfl (a6 HT_.o (by kernel_rfl)) (fun _ _ _ h=>h) (Or.inr ⟨by rfl,rfl⟩) ?_ ?_
     rotate_left
     · simp only [Act.put,lT,lU,lV,aK,aU]
       rfl
     refine bE (i:=19) (N:=some 35) (v:=undef) (a':=?_) #[T,T,T,T,T,T,T,T,T,T,T,T,T,T,T,T,T,T,T,T,F,F,F,F,F,F] rfl rfl (a6 HT_.o (by kernel_rfl)) (fun _ _ _ h=>h) (Or.inr ⟨by rfl,rfl⟩) ?_ ?_
     rotate_left
     · simp only [Act.put,lT,lU,lV,aK,aU]
       rfl
     refine bE (i:=20) (N:=some 36) (v:=undef) (a':=?_) #[T,T,T,T,T,T,T,T,T,T,T,T,T,T,T,T,T,T,T,T,T,F,F,F,F,F] rfl rfl (a6 HT_.o (by kernel_rfl)) (fun _ _ _ h=>h) (Or.inr ⟨by rfl,rfl⟩) ?_ ?_
     rotate_left
     · simp only [Act.put,lT,lU,lV,aK,aU]
       rfl
     refine bE (i:=21) (N:=some 37) (v:=undef) (a':=?_) #[T,T,T,T,T,T,T,T,T,T,T,T,T,T,T,T,T,T,T,T,T,T,F,F,F,F] rfl rfl (a6 HT_.o (by kernel_rfl)) (fun _ _ _ h=>h) (Or.inr ⟨by rfl,rfl⟩) ?_ ?_
     rotate_left
     · simp only [Act.put,lT,lU,lV,aK,aU]
       rfl
     refine bE (i:=22) (N:=some 38) (v:=undef) (a':=?_) #[T,T,T,T,T,T,T,T,T,T,T,T,T,T,T,T,T,T,T,T,T,T,T,F,F,F] rfl rfl (a6 HT_.o (by kernel_rfl)) (fun _ _ _ h=>h) (Or.inr ⟨by rfl,rfl⟩) ?_ ?_
     rotate_left
     · simp only [Act.put,lT,lU,lV,aK,aU]
       rfl
     refine bE (i:=23) (N:=some 39) (v:=undef) (a':=?_) #[T,T,T,T,T,T,T,T,T,T,T,T,T,T,T,T,T,T,T,T,T,T,T,T,F,F] rfl rfl (a6 HT_.o (by kernel_rfl)) (fun _ _ _ h=>h) (Or.inr ⟨by rfl,rfl⟩) ?_ ?_
     rotate_left
     · simp only [Act.put,lT,lU,lV,aK,aU]
       rfl
     refine bE (i:=24) (N:=some 40) (v:=undef) (a':=?_) #[T,T,T,T,T,T,T,T,T,T,T,T,T,T,T,T,T,T,T,T,T,T,T,T,T,F] rfl rfl (a6 HT_.o (by kernel_rfl)) (fun _ _ _ h=>h) (Or.inr ⟨by rfl,rfl⟩) ?_ ?_
     rotate_left
     · simp only [Act.put,lT,lU,lV,aK,aU]
       rfl
     refine pv HT_ 25 (some 41) #[T,T,T,T,T,T,T,T,T,T,T,T,T,T,T,T,T,T,T,T,T,T,T,T,T,T] ?_
     refine eO (cT HT_.o (by kernel_rfl)) ?_
     try go_wp2
     go_ret
     exact ⟨rq,bq HB.o⟩
   replace H:=iT H
   replace H:=be H
   obtain ⟨Df,Dn,H⟩:=H
   cases Df
   · replace H:=iF H
     obtain rfl:=lY H
     try go_wp2
     replace HB:=am (bD HB.o)
     have C6:0≤(A2:Int):=oda
     have C7:A2<(l0.length:Int):=oda
     obtain ⟨A3,Bk,Bl,Bo,Bp,Ck,A5,Ak,Al,Am,A6,Ba,Bb,Bc,Bd⟩:=d5 Da.o A2 C6 C7
     have Aa:=A6
     have Ab:=Am
     have Ac:=Al
     have Ad:=Ak
     have Ae:=A5
     cases Ck
     replace A5:=(HB.o.cell (lS w _ A5)).trans A5
     replace Ak:=(HB.o.cell (lS w _ Ak)).trans Ak
     replace Al:=(HB.o.cell (lS w _ Al)).trans Al
     replace Am:=(HB.o.cell (lS w _ Am)).trans Am
     replace A6:=(HB.o.cell (lS w _ A6)).trans A6
     have Be:=am Bb
     have Bs:=am Ba
     clear Bb Ba
     have Bt:=am Bd
     have Ci:=am Bc
     clear Bd Bc
     replace C6:=eq_true C6
     replace C7:=eq_true C7
     have C8:0≤(A2:Int):=oda
     have C9:A2<(l1.length:Int):=oda
     obtain ⟨A4,Bm,Bn,Bq,Br,Cl,A7,An,Ao,Ap,A9,Bf,Bg,Bh,Bi⟩:=d5 Db.o A2 C8 C9
     have Af:=A9
     have Ag:=Ap
     have Ah:=Ao
     have Ai:=An
     have Aj:=A7
     cases Cl
     replace A7:=(HB.o.cell (lS w _ A7)).trans A7
     replace An:=(HB.o.cell (lS w _ An)).trans An
     replace Ao:=(HB.o.cell (lS w _ Ao)).trans Ao
     replace Ap:=(HB.o.cell (lS w _ Ap)).trans Ap
     replace A9:=(HB.o.cell (lS w _ A9)).trans A9
     have Bj:=am Bg
     have Bu:=am Bf
     clear Bg Bf
     have Bv:=am Bi
     have Cj:=am Bh
     clear Bi Bh
     replace C8:=eq_true C8
     replace C9:=eq_true C9
     have Ce:0≤(A2:Int):=oda
     have Cf:A2<(l0.length:Int):=oda
     obtain ⟨Cm,Cq,Cr,Cs,Ct,Cu,Aq,B4,B5,B6,Ar,Bw,Bx,By,Bz⟩:=d5 Da.o A2 Ce Cf
     have As:=Ar
     have At:=B6
     have Au:=B5
     have Av:=B4
     have Aw:=Aq
     obtain rfl:A3=Cm:=(by injection Cu)
     replace Aq:=(HB.o.cell (lS w _ Aq)).trans Aq
     replace B4:=(HB.o.cell (lS w _ B4)).trans B4
     replace B5:=(HB.o.cell (lS w _ B5)).trans B5
     replace B6:=(HB.o.cell (lS w _ B6)).trans B6
     replace Ar:=(HB.o.cell (lS w _ Ar)).trans Ar
     have Ca:=am Bx
     have Co:=am Bw
     clear Bx Bw
     have C0:=am Bz
     have Cb:=am By
     clear Bz By
     replace Ce:=eq_true Ce
     replace Cf:=eq_true Cf
     have ea_:=lY (A5.symm.trans Aq)
     injection ea_ with ea_ en_ ec_
     subst ea_
     subst ec_
     clear en_
     have ea_:=lY (A6.symm.trans Ar)
     injection ea_ with ea_ en_ ec_
     subst ea_
     subst ec_
     clear en_
     have Cg:0≤(A2:Int):=oda
     have Ch:A2<(l1.length:Int):=oda
     obtain ⟨Cn,Cv,Cw,Cx,Cy,Cz,Ax,B7,B8,B9,Ay,C1,C2,C3,C4⟩:=d5 Db.o A2 Cg Ch
     have Az:=Ay
     have B0:=B9
     have B1:=B8
     have B2:=B7
     have B3:=Ax
     obtain rfl:A4=Cn:=(by injection Cz)
     replace Ax:=(HB.o.cell (lS w _ Ax)).trans Ax
     replace B7:=(HB.o.cell (lS w _ B7)).trans B7
     replace B8:=(HB.o.cell (lS w _ B8)).trans B8
     replace B9:=(HB.o.cell (lS w _ B9)).trans B9
     replace Ay:=(HB.o.cell (lS w _ Ay)).trans Ay
     have Cc:=am C2
     have Cp:=am C1
     clear C2 C1
     have C5:=am C4
     have Cd:=am C3
     clear C4 C3
     replace Cg:=eq_true Cg
     replace Ch:=eq_true Ch
     have ea_:=lY (A7.symm.trans Ax)
     injection ea_ with ea_ en_ ec_
     subst ea_
     subst ec_
     clear en_
     have ea_:=lY (A9.symm.trans Ay)
     injection ea_ with ea_ en_ ec_
     subst ea_
     subst ec_
     clear en_
     refine dJ (n:=26) (S:=fun w'=>w'.cell? (A3.add ((A2).toNat*5))=some (.slice Bk ((aG l0 A2).f0).length Bl)∧w'.cell? ⟨(A3.add ((A2).toNat*5)).block,(A3.add ((A2).toNat*5)).off+1,none⟩=some (.int .i64 ((aG l0 A2).f1.f0))∧w'.cell? ⟨(A3.add ((A2).toNat*5)).block,(A3.add ((A2).toNat*5)).off+2,none⟩=some (.int .i64 ((aG l0 A2).f1.f1))∧w'.cell? ⟨(A3.add ((A2).toNat*5)).block,(A3.add ((A2).toNat*5)).off+3,none⟩=some (.string ((aG l0 A2).f1.f2))∧w'.cell? ⟨(A3.add ((A2).toNat*5)).block,(A3.add ((A2).toNat*5)).off+4,none⟩=some (.slice Bo ((aG l0 A2).f1.f3).length Bp)∧w'.cell? (A4.add ((A2).toNat*5))=some (.slice Bm ((aG l1 A2).f0).length Bn)∧w'.cell? ⟨(A4.add ((A2).toNat*5)).block,(A4.add ((A2).toNat*5)).off+1,none⟩=some (.int .i64 ((aG l1 A2).f1.f0))∧w'.cell? ⟨(A4.add ((A2).toNat*5)).block,(A4.add ((A2).toNat*5)).off+2,none⟩=some (.int .i64 ((aG l1 A2).f1.f1))∧w'.cell? ⟨(A4.add ((A2).toNat*5)).block,(A4.add ((A2).toNat*5)).off+3,none⟩=some (.string ((aG l1 A2).f1.f2))∧w'.cell? ⟨(A4.add ((A2).toNat*5)).block,(A4.add ((A2).toNat*5)).off+4,none⟩=some (.slice Bq ((aG l1 A2).f1.f3).length Br)∧w'.cell? (A3.add ((A2).toNat*5))=some (.slice Bk ((aG l0 A2).f0).length Bl)∧w'.cell? ⟨(A3.add ((A2).toNat*5)).block,(A3.add ((A2).toNat*5)).off+1,none⟩=some (.int .i64 ((aG l0 A2).f1.f0))∧w'.cell? ⟨(A3.add ((A2).toNat*5)).block,(A3.add ((A2).toNat*5)).off+2,none⟩=some (.int .i64 ((aG l0 A2).f1.f1))∧w'.cell? ⟨(A3.add ((A2).toNat*5)).block,(A3.add ((A2).toNat*5)).off+3,none⟩=some (.string ((aG l0 A2).f1.f2))∧w'.cell? ⟨(A3.add ((A2).toNat*5)).block,(A3.add ((A2).toNat*5)).off+4,none⟩=some (.slice Bo ((aG l0 A2).f1.f3).length Bp)∧w'.cell? (A4.add ((A2).toNat*5))=some (.slice Bm ((aG l1 A2).f0).length Bn)∧w'.cell? ⟨(A4.add ((A2).toNat*5)).block,(A4.add ((A2).toNat*5)).off+1,none⟩=some (.int .i64 ((aG l1 A2).f1.f0))∧w'.cell? ⟨(A4.add ((A2).toNat*5)).block,(A4.add ((A2).toNat*5)).off+2,none⟩=some (.int .i64 ((aG l1 A2).f1.f1))∧w'.cell? ⟨(A4.add ((A2).toNat*5)).block,(A4.add ((A2).toNat*5)).off+3,none⟩=some (.string ((aG l1 A2).f1.f2))∧w'.cell? ⟨(A4.add ((A2).toNat*5)).block,(A4.add ((A2).toNat*5)).off+4,none⟩=some (.slice Bq ((aG l1 A2).f1.f3).length Br)) (ds:=[]) #[F,F,F,F,F,F,F,F,F,F,F,F,F,F,F,F,F,F,F,F,F,F,F,F,F,F] (by kernel_rfl) rfl rfl ⟨((HB.o.cell (lS w _ Ae)).trans Ae),((HB.o.cell (lS w _ Ad)).trans Ad),((HB.o.cell (lS w _ Ac)).trans Ac),((HB.o.cell (lS w _ Ab)).trans Ab),((HB.o.cell (lS w _ Aa)).trans Aa),((HB.o.cell (lS w _ Aj)).trans Aj),((HB.o.cell (lS w _ Ai)).trans Ai),((HB.o.cell (lS w _ Ah)).trans Ah),((HB.o.cell (lS w _ Ag)).trans Ag),((HB.o.cell (lS w _ Af)).trans Af),((HB.o.cell (lS w _ Aw)).trans Aw),((HB.o.cell (lS w _ Av)).trans Av),((HB.o.cell (lS w _ Au)).trans Au),((HB.o.cell (lS w _ At)).trans At),((HB.o.cell (lS w _ As)).trans As),((HB.o.cell (lS w _ B3)).trans B3),((HB.o.cell (lS w _ B2)).trans B2),((HB.o.cell (lS w _ B1)).trans B1),((HB.o.cell (lS w _ B0)).trans B0),((HB.o.cell (lS w _ Az)).trans Az)⟩ (fun hHeld=>?_);refine bW bQ.tab6 bQ.bits6 (fun HT_ HW_=>?_)
     generalize wr.drew=Dw at HB Be Bt Bj Bv Ca C0 Cc C5 A5 Ak Al Am A6 A7 An Ao Ap A9 Aq B4 B5 B6 Ar Ax B7 B8 B9 Ay hHeld ⊢
     refine pv HT_ 0 (some 16) #[T,F,F,F,F,F,F,F,F,F,F,F,F,F,F,F,F,F,F,F,F,F,F,F,F,F] ?_
     refine pv HT_ 1 (some 17) #[T,T,F,F,F,F,F,F,F,F,F,F,F,F,F,F,F,F,F,F,F,F,F,F,F,F] ?_
     refine pv HT_ 2 (some 18) #[T,T,T,F,F,F,F,F,F,F,F,F,F,F,F,F,F,F,F,F,F,F,F,F,F,F] ?_
     refine pv HT_ 3 (some 19) #[T,T,T,T,F,F,F,F,F,F,F,F,F,F,F,F,F,F,F,F,F,F,F,F,F,F] ?_
     refine pv HT_ 5 (some 21) #[T,T,T,T,F,T,F,F,F,F,F,F,F,F,F,F,F,F,F,F,F,F,F,F,F,F] ?_
     refine pv HT_ 6 (some 22) #[T,T,T,T,F,T,T,F,F,F,F,F,F,F,F,F,F,F,F,F,F,F,F,F,F,F] ?_
     refine pv HT_ 7 (some 23) #[T,T,T,T,F,T,T,T,F,F,F,F,F,F,F,F,F,F,F,F,F,F,F,F,F,F] ?_
     refine pv HT_ 8 (some 24) #[T,T,T,T,F,T,T,T,T,F,F,F,F,F,F,F,F,F,F,F,F,F,F,F,F,F] ?_
     refine tk 4 (some 20) #[T,T,T,T,T,T,T,T,T,F,F,F,F,F,F,F,F,F,F,F,F,F,F,F,F,F] rfl rfl (a8 HT_.o HW_.o (by kernel_rfl)) hHeld (Or.inl ⟨by rfl,by rintro w' ⟨s0,s1,s2,s3,s4,s5,s6,s7,s8,s9,D0,D1,D2,D3,D4,D5,D6,D7,D8,D9⟩;go_simp;with_reducible rfl⟩) ?_
     refine tk 9 (some 25) #[T,T,T,T,T,T,T,T,T,T,F,F,F,F,F,F,F,F,F,F,F,F,F,F,F,F] rfl rfl (a8 HT_.o HW_.o (by kernel_rfl)) hHeld (Or.inl ⟨by rfl,by rintro w' ⟨s0,s1,s2,s3,s4,s5,s6,s7,s8,s9,D0,D1,D2,D3,D4,D5,D6,D7,D8,D9⟩;go_simp;with_reducible rfl⟩) ?_
     refine eI (i:=10) (N:=some 26) #[T,T,T,T,T,T,T,T,T,T,T,F,F,F,F,F,F,F,F,F,F,F,F,F,F,F] rfl rfl (b5 HT_.o (by kernel_rfl)) (by decide) (fun K hK=>?_)
     refine cY Try.func112 (by kernel_rfl) rfl #[.slice Bk ((aG l0 A2).f0).length Bl,.slice Bm ((aG l1 A2).f0).length Bn] (by rfl) rfl rfl ga ?_
     with_reducible refine (cV.calls k1 _ _ ((aG l0 A2).f0) _ _ ((aG l1 A2).f0) true _ ?side1 ?side2 ?side3 ?side4 A8.o).mono ?_
     (case side1=>exact cq (Kd.C_below Be.o HB.o))
     (case side2=>exact Bs.o)
     (case side3=>exact cq (Kd.C_below Bj.o HB.o))
     (case side4=>exact Bu.o)
     rintro e w' ⟨rfl,⟨nd,rfl⟩⟩
     refine ⟨_,rfl,?_⟩
     refine hK.out _ _ ⟨((HB.o.cell (lS w _ Ae)).trans Ae),((HB.o.cell (lS w _ Ad)).trans Ad),((HB.o.cell (lS w _ Ac)).trans Ac),((HB.o.cell (lS w _ Ab)).trans Ab),((HB.o.cell (lS w _ Aa)).trans Aa),((HB.o.cell (lS w _ Aj)).trans Aj),((HB.o.cell (lS w _ Ai)).trans Ai),((HB.o.cell (lS w _ Ah)).trans Ah),((HB.o.cell (lS w _ Ag)).trans Ag),((HB.o.cell (lS w _ Af)).trans Af),((HB.o.cell (lS w _ Aw)).trans Aw),((HB.o.cell (lS w _ Av)).trans Av),((HB.o.cell (lS w _ Au)).trans Au),((HB.o.cell (lS w _ At)).trans At),((HB.o.cell (lS w _ As)).trans As),((HB.o.cell (lS w _ B3)).trans B3),((HB.o.cell (lS w _ B2)).trans B2),((HB.o.cell (lS w _ B1)).trans B1),((HB.o.cell (lS w _ B0)).trans B0),((HB.o.cell (lS w _ Az)).trans Az)⟩ (fun hHeld=>?_)
     clear hK K
     refine cE (a':=?_) ?_ ?_
     rotate_left
     · show Act.put _ (some 26) _=_
       simp only [Act.put,lT,lU,lV,aK,aU]
       rfl
     refine pv HT_ 11 (some 27) #[T,T,T,T,T,T,T,T,T,T,T,T,F,F,F,F,F,F,F,F,F,F,F,F,F,F] ?_
     refine pv HT_ 12 (some 28) #[T,T,T,T,T,T,T,T,T,T,T,T,T,F,F,F,F,F,F,F,F,F,F,F,F,F] ?_
     refine pv HT_ 13 (some 29) #[T,T,T,T,T,T,T,T,T,T,T,T,T,T,F,F,F,F,F,F,F,F,F,F,F,F] ?_
     refine pv HT_ 14 (some 30) #[T,T,T,T,T,T,T,T,T,T,T,T,T,T,T,F,F,F,F,F,F,F,F,F,F,F] ?_
     refine pv HT_ 15 (some 31) #[T,T,T,T,T,T,T,T,T,T,T,T,T,T,T,T,F,F,F,F,F,F,F,F,F,F] ?_
     refine pv HT_ 16 (some 32) #[T,T,T,T,T,T,T,T,T,T,T,T,T,T,T,T,T,F,F,F,F,F,F,F,F,F] ?_
     refine pv HT_ 18 (some 34) #[T,T,T,T,T,T,T,T,T,T,T,T,T,T,T,T,T,F,T,F,F,F,F,F,F,F] ?_
     refine pv HT_ 19 (some 35) #[T,T,T,T,T,T,T,T,T,T,T,T,T,T,T,T,T,F,T,T,F,F,F,F,F,F] ?_
     refine pv HT_ 20 (some 36) #[T,T,T,T,T,T,T,T,T,T,T,T,T,T,T,T,T,F,T,T,T,F,F,F,F,F] ?_
     refine pv HT_ 21 (some 37) #[T,T,T,T,T,T,T,T,T,T,T,T,T,T,T,T,T,F,T,T,T,T,F,F,F,F] ?_
     refine tk 17 (some 33) #[T,T,T,T,T,T,T,T,T,T,T,T,T,T,T,T,T,T,T,T,T,T,F,F,F,F] rfl rfl (a8 HT_.o HW_.o (by kernel_rfl)) hHeld (Or.inl ⟨by rfl,by rintro w' ⟨s0,s1,s2,s3,s4,s5,s6,s7,s8,s9,D0,D1,D2,D3,D4,D5,D6,D7,D8,D9⟩;go_simp;with_reducible rfl⟩) ?_
     refine tk 22 (some 38) #[T,T,T,T,T,T,T,T,T,T,T,T,T,T,T,T,T,T,T,T,T,T,T,F,F,F] rfl rfl (a8 HT_.o HW_.o (by kernel_rfl)) hHeld (Or.inl ⟨by rfl,by rintro w' ⟨s0,s1,s2,s3,s4,s5,s6,s7,s8,s9,D0,D1,D2,D3,D4,D5,D6,D7,D8,D9⟩;go_simp;with_reducible rfl⟩) ?_
     refine eI (i:=23) (N:=some 39) #[T,T,T,T,T,T,T,T,T,T,T,T,T,T,T,T,T,T,T,T,T,T,T,T,F,F] rfl rfl (b5 HT_.o (by kernel_rfl)) (by decide) (fun K hK=>?_)
     refine cY Try.func49 (by kernel_rfl) rfl #[.agg #[.int .i64 ((aG l0 A2).f1.f0),.int .i64 ((aG l0 A2).f1.f1),.string ((aG l0 A2).f1.f2),.slice Bo ((aG l0 A2).f1.f3).length Bp],.agg #[.int .i64 ((aG l1 A2).f1.f0),.int .i64 ((aG l1 A2).f1.f1),.string ((aG l1 A2).f1.f2),.slice Bq ((aG l1 A2).f1.f3).length Br]] (by rfl) rfl rfl ga ?_
     with_reducible refine (cP.calls k1 ((aG l0 A2).f1.f0) ((aG l0 A2).f1.f1) ((aG l0 A2).f1.f2) _ _ ((aG l0 A2).f1.f3) ((aG l1 A2).f1.f0) ((aG l1 A2).f1.f1) ((aG l1 A2).f1.f2) _ _ ((aG l1 A2).f1.f3) false _ ?side1 ?side2 ?side3 ?side4 Dn.o).mono ?_
     (case side1=>exact cq (Kd.C_below C0.o (bq HB.o)))
     (case side2=>exact Cb.o)
     (case side3=>exact cq (Kd.C_below C5.o (bq HB.o)))
     (case side4=>exact Cd.o)
     rintro e Dx ⟨rfl,hb⟩
     refine ⟨_,rfl,?_⟩
     replace HB:=am (aC (bq HB.o) hb)
     (try clear hb)
     refine hK.out _ _ ⟨((HB.o.cell (lS w _ Ae)).trans Ae),((HB.o.cell (lS w _ Ad)).trans Ad),((HB.o.cell (lS w _ Ac)).trans Ac),((HB.o.cell (lS w _ Ab)).trans Ab),((HB.o.cell (lS w _ Aa)).trans Aa),((HB.o.cell (lS w _ Aj)).trans Aj),((HB.o.cell (lS w _ Ai)).trans Ai),((HB.o.cell (lS w _ Ah)).trans Ah),((HB.o.cell (lS w _ Ag)).trans Ag),((HB.o.cell (lS w _ Af)).trans Af),((HB.o.cell (lS w _ Aw)).trans Aw),((HB.o.cell (lS w _ Av)).trans Av),((HB.o.cell (lS w _ Au)).trans Au),((HB.o.cell (lS w _ At)).trans At),((HB.o.cell (lS w _ As)).trans As),((HB.o.cell (lS w _ B3)).trans B3),((HB.o.cell (lS w _ B2)).trans B2),((HB.o.cell (lS w _ B1)).trans B1),((HB.o.cell (lS w _ B0)).trans B0),((HB.o.cell (lS w _ Az)).trans Az)⟩ (fun hHeld=>?_)
     clear hK K
     refine cE (a':=?_) ?_ ?_
     rotate_left
     · show Act.put _ (some 39) _=_
       simp only [Act.put,lT,lU,lV,aK,aU]
       rfl
     refine pv HT_ 24 (some 40) #[T,T,T,T,T,T,T,T,T,T,T,T,T,T,T,T,T,T,T,T,T,T,T,T,T,F] ?_
     refine pv HT_ 25 (some 41) #[T,T,T,T,T,T,T,T,T,T,T,T,T,T,T,T,T,T,T,T,T,T,T,T,T,T] ?_
     refine eO (cT HT_.o (by kernel_rfl)) ?_
     try go_wp2
     go_ret
     exact ⟨rq,bq HB.o⟩
   replace H:=iT H
   have H':=am H
   clear H
   try go_wp2
   replace HB:=am (bD HB.o)
   have C6:0≤(A2:Int):=oda
   have C7:A2<(l0.length:Int):=oda
   obtain ⟨A3,Bk,Bl,Bo,Bp,Ck,A5,Ak,Al,Am,A6,Ba,Bb,Bc,Bd⟩:=d5 Da.o A2 C6 C7
   have Aa:=A6
   have Ab:=Am
   have Ac:=Al
   have Ad:=Ak
   have Ae:=A5
   cases Ck
   replace A5:=(HB.o.cell (lS w _ A5)).trans A5
   replace Ak:=(HB.o.cell (lS w _ Ak)).trans Ak
   replace Al:=(HB.o.cell (lS w _ Al)).trans Al
   replace Am:=(HB.o.cell (lS w _ Am)).trans Am
   replace A6:=(HB.o.cell (lS w _ A6)).trans A6
   have Be:=am Bb
   have Bs:=am Ba
   clear Bb Ba
   have Bt:=am Bd
   have Ci:=am Bc
   clear Bd Bc
   replace C6:=eq_true C6
   replace C7:=eq_true C7
   have C8:0≤(A2:Int):=oda
   have C9:A2<(l1.length:Int):=oda
   obtain ⟨A4,Bm,Bn,Bq,Br,Cl,A7,An,Ao,Ap,A9,Bf,Bg,Bh,Bi⟩:=d5 Db.o A2 C8 C9
   have Af:=A9
   have Ag:=Ap
   have Ah:=Ao
   have Ai:=An
   have Aj:=A7
   cases Cl
   replace A7:=(HB.o.cell (lS w _ A7)).trans A7
   replace An:=(HB.o.cell (lS w _ An)).trans An
   replace Ao:=(HB.o.cell (lS w _ Ao)).trans Ao
   replace Ap:=(HB.o.cell (lS w _ Ap)).trans Ap
   replace A9:=(HB.o.cell (lS w _ A9)).trans A9
   have Bj:=am Bg
   have Bu:=am Bf
   clear Bg Bf
   have Bv:=am Bi
   have Cj:=am Bh
   clear Bi Bh
   replace C8:=eq_true C8
   replace C9:=eq_true C9
   have Ce:0≤(A2:Int):=oda
   have Cf:A2<(l0.length:Int):=oda
   obtain ⟨Cm,Cq,Cr,Cs,Ct,Cu,Aq,B4,B5,B6,Ar,Bw,Bx,By,Bz⟩:=d5 Da.o A2 Ce Cf
   have As:=Ar
   have At:=B6
   have Au:=B5
   have Av:=B4
   have Aw:=Aq
   obtain rfl:A3=Cm:=(by injection Cu)
   replace Aq:=(HB.o.cell (lS w _ Aq)).trans Aq
   replace B4:=(HB.o.cell (lS w _ B4)).trans B4
   replace B5:=(HB.o.cell (lS w _ B5)).trans B5
   replace B6:=(HB.o.cell (lS w _ B6)).trans B6
   replace Ar:=(HB.o.cell (lS w _ Ar)).trans Ar
   have Ca:=am Bx
   have Co:=am Bw
   clear Bx Bw
   have C0:=am Bz
   have Cb:=am By
   clear Bz By
   replace Ce:=eq_true Ce
   replace Cf:=eq_true Cf
   have ea_:=lY (A5.symm.trans Aq)
   injection ea_ with ea_ en_ ec_
   subst ea_
   subst ec_
   clear en_
   have ea_:=lY (A6.symm.trans Ar)
   injection ea_ with ea_ en_ ec_
   subst ea_
   subst ec_
   clear en_
   have Cg:0≤(A2:Int):=oda
   have Ch:A2<(l1.length:Int):=oda
   obtain ⟨Cn,Cv,Cw,Cx,Cy,Cz,Ax,B7,B8,B9,Ay,C1,C2,C3,C4⟩:=d5 Db.o A2 Cg Ch
   have Az:=Ay
   have B0:=B9
   have B1:=B8
   have B2:=B7
   have B3:=Ax
   obtain rfl:A4=Cn:=(by injection Cz)
   replace Ax:=(HB.o.cell (lS w _ Ax)).trans Ax
   replace B7:=(HB.o.cell (lS w _ B7)).trans B7
   replace B8:=(HB.o.cell (lS w _ B8)).trans B8
   replace B9:=(HB.o.cell (lS w _ B9)).trans B9
   replace Ay:=(HB.o.cell (lS w _ Ay)).trans Ay
   have Cc:=am C2
   have Cp:=am C1
   clear C2 C1
   have C5:=am C4
   have Cd:=am C3
   clear C4 C3
   replace Cg:=eq_true Cg
   replace Ch:=eq_true Ch
   have ea_:=lY (A7.symm.trans Ax)
   injection ea_ with ea_ en_ ec_
   subst ea_
   subst ec_
   clear en_
   have ea_:=lY (A9.symm.trans Ay)
   injection ea_ with ea_ en_ ec_
   subst ea_
   subst ec_
   clear en_
   refine dJ (n:=26) (S:=fun w'=>w'.cell? (A3.add ((A2).toNat*5))=some (.slice Bk ((aG l0 A2).f0).length Bl)∧w'.cell? ⟨(A3.add ((A2).toNat*5)).block,(A3.add ((A2).toNat*5)).off+1,none⟩=some (.int .i64 ((aG l0 A2).f1.f0))∧w'.cell? ⟨(A3.add ((A2).toNat*5)).block,(A3.add ((A2).toNat*5)).off+2,none⟩=some (.int .i64 ((aG l0 A2).f1.f1))∧w'.cell? ⟨(A3.add ((A2).toNat*5)).block,(A3.add ((A2).toNat*5)).off+3,none⟩=some (.string ((aG l0 A2).f1.f2))∧w'.cell? ⟨(A3.add ((A2).toNat*5)).block,(A3.add ((A2).toNat*5)).off+4,none⟩=some (.slice Bo ((aG l0 A2).f1.f3).length Bp)∧w'.cell? (A4.add ((A2).toNat*5))=some (.slice Bm ((aG l1 A2).f0).length Bn)∧w'.cell? ⟨(A4.add ((A2).toNat*5)).block,(A4.add ((A2).toNat*5)).off+1,none⟩=some (.int .i64 ((aG l1 A2).f1.f0))∧w'.cell? ⟨(A4.add ((A2).toNat*5)).block,(A4.add ((A2).toNat*5)).off+2,none⟩=some (.int .i64 ((aG l1 A2).f1.f1))∧w'.cell? ⟨(A4.add ((A2).toNat*5)).block,(A4.add ((A2).toNat*5)).off+3,none⟩=some (.string ((aG l1 A2).f1.f2))∧w'.cell? ⟨(A4.add ((A2).toNat*5)).block,(A4.add ((A2).toNat*5)).off+4,none⟩=some (.slice Bq ((aG l1 A2).f1.f3).length Br)∧w'.cell? (A3.add ((A2).toNat*5))=some (.slice Bk ((aG l0 A2).f0).length Bl)∧w'.cell? ⟨(A3.add ((A2).toNat*5)).block,(A3.add ((A2).toNat*5)).off+1,none⟩=some (.int .i64 ((aG l0 A2).f1.f0))∧w'.cell? ⟨(A3.add ((A2).toNat*5)).block,(A3.add ((A2).toNat*5)).off+2,none⟩=some (.int .i64 ((aG l0 A2).f1.f1))∧w'.cell? ⟨(A3.add ((A2).toNat*5)).block,(A3.add ((A2).toNat*5)).off+3,none⟩=some (.string ((aG l0 A2).f1.f2))∧w'.cell? ⟨(A3.add ((A2).toNat*5)).block,(A3.add ((A2).toNat*5)).off+4,none⟩=some (.slice Bo ((aG l0 A2).f1.f3).length Bp)∧w'.cell? (A4.add ((A2).toNat*5))=some (.slice Bm ((aG l1 A2).f0).length Bn)∧w'.cell? ⟨(A4.add ((A2).toNat*5)).block,(A4.add ((A2).toNat*5)).off+1,none⟩=some (.int .i64 ((aG l1 A2).f1.f0))∧w'.cell? ⟨(A4.add ((A2).toNat*5)).block,(A4.add ((A2).toNat*5)).off+2,none⟩=some (.int .i64 ((aG l1 A2).f1.f1))∧w'.cell? ⟨(A4.add ((A2).toNat*5)).block,(A4.add ((A2).toNat*5)).off+3,none⟩=some (.string ((aG l1 A2).f1.f2))∧w'.cell? ⟨(A4.add ((A2).toNat*5)).block,(A4.add ((A2).toNat*5)).off+4,none⟩=some (.slice Bq ((aG l1 A2).f1.f3).length Br)) (ds:=[]) #[F,F,F,F,F,F,F,F,F,F,F,F,F,F,F,F,F,F,F,F,F,F,F,F,F,F] (by kernel_rfl) rfl rfl ⟨((HB.o.cell (lS w _ Ae)).trans Ae),((HB.o.cell (lS w _ Ad)).trans Ad),((HB.o.cell (lS w _ Ac)).trans Ac),((HB.o.cell (lS w _ Ab)).trans Ab),((HB.o.cell (lS w _ Aa)).trans Aa),((HB.o.cell (lS w _ Aj)).trans Aj),((HB.o.cell (lS w _ Ai)).trans Ai),((HB.o.cell (lS w _ Ah)).trans Ah),((HB.o.cell (lS w _ Ag)).trans Ag),((HB.o.cell (lS w _ Af)).trans Af),((HB.o.cell (lS w _ Aw)).trans Aw),((HB.o.cell (lS w _ Av)).trans Av),((HB.o.cell (lS w _ Au)).trans Au),((HB.o.cell (lS w _ At)).trans At),((HB.o.cell (lS w _ As)).trans As),((HB.o.cell (lS w _ B3)).trans B3),((HB.o.cell (lS w _ B2)).trans B2),((HB.o.cell (lS w _ B1)).trans B1),((HB.o.cell (lS w _ B0)).trans B0),((HB.o.cell (lS w _ Az)).trans Az)⟩ (fun hHeld=>?_);refine bW bQ.tab6 bQ.bits6 (fun HT_ HW_=>?_)
   generalize wr.drew=Dy at HB Be Bt Bj Bv Ca C0 Cc C5 A5 Ak Al Am A6 A7 An Ao Ap A9 Aq B4 B5 B6 Ar Ax B7 B8 B9 Ay hHeld ⊢
   refine pv HT_ 0 (some 16) #[T,F,F,F,F,F,F,F,F,F,F,F,F,F,F,F,F,F,F,F,F,F,F,F,F,F] ?_
   refine pv HT_ 1 (some 17) #[T,T,F,F,F,F,F,F,F,F,F,F,F,F,F,F,F,F,F,F,F,F,F,F,F,F] ?_
   refine pv HT_ 2 (some 18) #[T,T,T,F,F,F,F,F,F,F,F,F,F,F,F,F,F,F,F,F,F,F,F,F,F,F] ?_
   refine pv HT_ 3 (some 19) #[T,T,T,T,F,F,F,F,F,F,F,F,F,F,F,F,F,F,F,F,F,F,F,F,F,F] ?_
   refine pv HT_ 5 (some 21) #[T,T,T,T,F,T,F,F,F,F,F,F,F,F,F,F,F,F,F,F,F,F,F,F,F,F] ?_
   refine pv HT_ 6 (some 22) #[T,T,T,T,F,T,T,F,F,F,F,F,F,F,F,F,F,F,F,F,F,F,F,F,F,F] ?_
   refine pv HT_ 7 (some 23) #[T,T,T,T,F,T,T,T,F,F,F,F,F,F,F,F,F,F,F,F,F,F,F,F,F,F] ?_
   refine pv HT_ 8 (some 24) #[T,T,T,T,F,T,T,T,T,F,F,F,F,F,F,F,F,F,F,F,F,F,F,F,F,F] ?_
   refine tk 4 (some 20) #[T,T,T,T,T,T,T,T,T,F,F,F,F,F,F,F,F,F,F,F,F,F,F,F,F,F] rfl rfl (a8 HT_.o HW_.o (by kernel_rfl)) hHeld (Or.inl ⟨by rfl,by rintro w' ⟨s0,s1,s2,s3,s4,s5,s6,s7,s8,s9,D0,D1,D2,D3,D4,D5,D6,D7,D8,D9⟩;go_simp;with_reducible rfl⟩) ?_
   refine tk 9 (some 25) #[T,T,T,T,T,T,T,T,T,T,F,F,F,F,F,F,F,F,F,F,F,F,F,F,F,F] rfl rfl (a8 HT_.o HW_.o (by kernel_rfl)) hHeld (Or.inl ⟨by rfl,by rintro w' ⟨s0,s1,s2,s3,s4,s5,s6,s7,s8,s9,D0,D1,D2,D3,D4,D5,D6,D7,D8,D9⟩;go_simp;with_reducible rfl⟩) ?_
   refine eI (i:=10) (N:=some 26) #[T,T,T,T,T,T,T,T,T,T,T,F,F,F,F,F,F,F,F,F,F,F,F,F,F,F] rfl rfl (b5 HT_.o (by kernel_rfl)) (by decide) (fun K hK=>?_)
   refine cY Try.func112 (by kernel_rfl) rfl #[.slice Bk ((aG l0 A2).f0).length Bl,.slice Bm ((aG l1 A2).f0).length Bn] (by rfl) rfl rfl ga ?_
   with_reducible refine (cV.calls k1 _ _ ((aG l0 A2).f0) _ _ ((aG l1 A2).f0) true _ ?side1 ?side2 ?side3 ?side4 A8.o).mono ?_
   (case side1=>exact cq (Kd.C_below Be.o HB.o))
   (case side2=>exact Bs.o)
   (case side3=>exact cq (Kd.C_below Bj.o HB.o))
   (case side4=>exact Bu.o)
   rintro e w' ⟨rfl,⟨nd,rfl⟩⟩
   refine ⟨_,rfl,?_⟩
   refine hK.out _ _ ⟨((HB.o.cell (lS w _ Ae)).trans Ae),((HB.o.cell (lS w _ Ad)).trans Ad),((HB.o.cell (lS w _ Ac)).trans Ac),((HB.o.cell (lS w _ Ab)).trans Ab),((HB.o.cell (lS w _ Aa)).trans Aa),((HB.o.cell (lS w _ Aj)).trans Aj),((HB.o.cell (lS w _ Ai)).trans Ai),((HB.o.cell (lS w _ Ah)).trans Ah),((HB.o.cell (lS w _ Ag)).trans Ag),((HB.o.cell (lS w _ Af)).trans Af),((HB.o.cell (lS w _ Aw)).trans Aw),((HB.o.cell (lS w _ Av)).trans Av),((HB.o.cell (lS w _ Au)).trans Au),((HB.o.cell (lS w _ At)).trans At),((HB.o.cell (lS w _ As)).trans As),((HB.o.cell (lS w _ B3)).trans B3),((HB.o.cell (lS w _ B2)).trans B2),((HB.o.cell (lS w _ B1)).trans B1),((HB.o.cell (lS w _ B0)).trans B0),((HB.o.cell (lS w _ Az)).trans Az)⟩ (fun hHeld=>?_)
   clear hK K
   refine cE (a':=?_) ?_ ?_
   rotate_left
   · show Act.put _ (some 26) _=_
     simp only [Act.put,lT,lU,lV,aK,aU]
     rfl
   refine pv HT_ 11 (some 27) #[T,T,T,T,T,T,T,T,T,T,T,T,F,F,F,F,F,F,F,F,F,F,F,F,F,F] ?_
   refine pv HT_ 12 (some 28) #[T,T,T,T,T,T,T,T,T,T,T,T,T,F,F,F,F,F,F,F,F,F,F,F,F,F] ?_
   refine pv HT_ 13 (some 29) #[T,T,T,T,T,T,T,T,T,T,T,T,T,T,F,F,F,F,F,F,F,F,F,F,F,F] ?_
   refine pv HT_ 14 (some 30) #[T,T,T,T,T,T,T,T,T,T,T,T,T,T,T,F,F,F,F,F,F,F,F,F,F,F] ?_
   refine pv HT_ 15 (some 31) #[T,T,T,T,T,T,T,T,T,T,T,T,T,T,T,T,F,F,F,F,F,F,F,F,F,F] ?_
   refine pv HT_ 16 (some 32) #[T,T,T,T,T,T,T,T,T,T,T,T,T,T,T,T,T,F,F,F,F,F,F,F,F,F] ?_
   refine pv HT_ 18 (some 34) #[T,T,T,T,T,T,T,T,T,T,T,T,T,T,T,T,T,F,T,F,F,F,F,F,F,F] ?_
   refine pv HT_ 19 (some 35) #[T,T,T,T,T,T,T,T,T,T,T,T,T,T,T,T,T,F,T,T,F,F,F,F,F,F] ?_
   refine pv HT_ 20 (some 36) #[T,T,T,T,T,T,T,T,T,T,T,T,T,T,T,T,T,F,T,T,T,F,F,F,F,F] ?_
   refine pv HT_ 21 (some 37) #[T,T,T,T,T,T,T,T,T,T,T,T,T,T,T,T,T,F,T,T,T,T,F,F,F,F] ?_
   refine tk 17 (some 33) #[T,T,T,T,T,T,T,T,T,T,T,T,T,T,T,T,T,T,T,T,T,T,F,F,F,F] rfl rfl (a8 HT_.o HW_.o (by kernel_rfl)) hHeld (Or.inl ⟨by rfl,by rintro w' ⟨s0,s1,s2,s3,s4,s5,s6,s7,s8,s9,D0,D1,D2,D3,D4,D5,D6,D7,D8,D9⟩;go_simp;with_reducible rfl⟩) ?_
   refine tk 22 (some 38) #[T,T,T,T,T,T,T,T,T,T,T,T,T,T,T,T,T,T,T,T,T,T,T,F,F,F] rfl rfl (a8 HT_.o HW_.o (by kernel_rfl)) hHeld (Or.inl ⟨by rfl,by rintro w' ⟨s0,s1,s2,s3,s4,s5,s6,s7,s8,s9,D0,D1,D2,D3,D4,D5,D6,D7,D8,D9⟩;go_simp;with_reducible rfl⟩) ?_
   refine eI (i:=23) (N:=some 39) #[T,T,T,T,T,T,T,T,T,T,T,T,T,T,T,T,T,T,T,T,T,T,T,T,F,F] rfl rfl (b5 HT_.o (by kernel_rfl)) (by decide) (fun K hK=>?_)
   refine cY Try.func49 (by kernel_rfl) rfl #[.agg #[.int .i64 ((aG l0 A2).f1.f0),.int .i64 ((aG l0 A2).f1.f1),.string ((aG l0 A2).f1.f2),.slice Bo ((aG l0 A2).f1.f3).length Bp],.agg #[.int .i64 ((aG l1 A2).f1.f0),.int .i64 ((aG l1 A2).f1.f1),.string ((aG l1 A2).f1.f2),.slice Bq ((aG l1 A2).f1.f3).length Br]] (by rfl) rfl rfl ga ?_
   with_reducible refine (cP.calls k1 ((aG l0 A2).f1.f0) ((aG l0 A2).f1.f1) ((aG l0 A2).f1.f2) _ _ ((aG l0 A2).f1.f3) ((aG l1 A2).f1.f0) ((aG l1 A2).f1.f1) ((aG l1 A2).f1.f2) _ _ ((aG l1 A2).f1.f3) true _ ?side1 ?side2 ?side3 ?side4 Dn.o).mono ?_
   (case side1=>exact cq (Kd.C_below C0.o (bq HB.o)))
   (case side2=>exact Cb.o)
   (case side3=>exact cq (Kd.C_below C5.o (bq HB.o)))
   (case side4=>exact Cd.o)
   rintro e Dz ⟨rfl,hb⟩
   refine ⟨_,rfl,?_⟩
   replace HB:=am (aC (bq HB.o) hb)
   (try clear hb)
   refine hK.out _ _ ⟨((HB.o.cell (lS w _ Ae)).trans Ae),((HB.o.cell (lS w _ Ad)).trans Ad),((HB.o.cell (lS w _ Ac)).trans Ac),((HB.o.cell (lS w _ Ab)).trans Ab),((HB.o.cell (lS w _ Aa)).trans Aa),((HB.o.cell (lS w _ Aj)).trans Aj),((HB.o.cell (lS w _ Ai)).trans Ai),((HB.o.cell (lS w _ Ah)).trans Ah),((HB.o.cell (lS w _ Ag)).trans Ag),((HB.o.cell (lS w _ Af)).trans Af),((HB.o.cell (lS w _ Aw)).trans Aw),((HB.o.cell (lS w _ Av)).trans Av),((HB.o.cell (lS w _ Au)).trans Au),((HB.o.cell (lS w _ At)).trans At),((HB.o.cell (lS w _ As)).trans As),((HB.o.cell (lS w _ B3)).trans B3),((HB.o.cell (lS w _ B2)).trans B2),((HB.o.cell (lS w _ B1)).trans B1),((HB.o.cell (lS w _ B0)).trans B0),((HB.o.cell (lS w _ Az)).trans Az)⟩ (fun hHeld=>?_)
   clear hK K
   refine cE (a':=?_) ?_ ?_
   rotate_left
   · show Act.put _ (some 39) _=_
     simp only [Act.put,lT,lU,lV,aK,aU]
     rfl
   refine pv HT_ 24 (some 40) #[T,T,T,T,T,T,T,T,T,T,T,T,T,T,T,T,T,T,T,T,T,T,T,T,T,F] ?_
   refine pv HT_ 25 (some 41) #[T,T,T,T,T,T,T,T,T,T,T,T,T,T,T,T,T,T,T,T,T,T,T,T,T,T] ?_
   refine eO (cT HT_.o (by kernel_rfl)) ?_
   try go_wp2
   go_roundg k1
   case measure=>have:=Dm.o;omega
   case rel=>exact ⟨(wrap64 (A2+1)),sq,H',⟨by have:=Dm.o;omega⟩,⟨bq HB.o⟩⟩
end Go.Proofs.Ythhnfmbfgplelaa.XFnMsgsRead
