/- The functions that one law reaches, as Lean functions, with their walks: printed by a program of this seat (wip/tools) out of the translation. -/
import Derived.Test.YtgppikopdpeigaaXFnPdusx0
import Derived.Test.YtgppikopdpeigaaXFnPdusx11
import Derived.Test.YtgppikopdpeigaaXFnPdusx12
namespace Go.Proofs.Ytgppikopdpeigaa.XFnPdus
open Go.RowKit Go.Proofs.YtgppikopdpeigaaW.PrintWords Go.Proofs.YtgppikopdpeigaaW.PrintLast Go.Proofs.YtgppikopdpeigaaW.PrintMore
attribute [local go_sem] cO cP dH dI cC cD cQ cR
set_option maxHeartbeats 8000000
set_option maxRecDepth 100000
set_option linter.unusedVariables false
set_option linter.unusedSimpArgs false
def cA.l0:Nat→List (S45)→List Int→Int→Option (List Int)
 |0,_,_,_=>none
 |k+1,x0,x3,x4=>if x4<(x0.length:Int) then (if 0≤x4 then ((dU.f k ((aG x0 x4).f0)).bind fun A0=>((bT.f k (([]:List Int)) 6 A0).bind fun A1=>((fI.f k A1 ((aG x0 x4).f1.f0) ((aG x0 x4).f1.f1) ((aG x0 x4).f1.f2) ((aG x0 x4).f1.f3)).bind fun A2=>((bT.f k x3 48 A2).bind fun A3=>(cA.l0 k x0 A3 (wrap64 (x4+1))))))) else (none)) else (some x3)
def cA.f (k:Nat) (l0:List (S45)):Option (List Int):=cA.l0 k l0 (([]:List Int)) 0
def cA.T5:Bool × List (List Nat × List Nat):=(true,[([],[]),([],[]),([],[]),([1,2],[1,2]),([3],[3]),([4],[4]),([5],[5]),([0,6,6],[0,6]),([],[]),([],[]),([8,9],[8,9]),([10],[10]),([11],[11]),([7,12,7],[7,12]),([13,13,0,1,2,3,4,5,6,7,8,9,10,11,12,13],[13])])
def cA.B5:List Nat:=[0,0,0,6,14,30,62,127,0,0,768,1792,3840,8191,16383]
theorem cA.tab5:eR .any (fM Try.f67 5)=cA.T5:=by kernel_rfl
theorem cA.bits5:eJ cA.T5.2 cA.B5=true:=by kernel_rfl
theorem cA.calls (k:Nat) (A0:Option Addr) (c0:Nat) (l0:List (S45)) (r:List Int) (w:World) (Co:Kd.C k45 w A0 l0.length l0) (Cp:l0.length≤c0) (h:cA.f k l0=some r):
 Calls Try.prog 67 #[.slice A0 l0.length c0] w fun e w'=>∃Cq:Value,e=.returned (Cq)∧Kd.R (Kd.int .u8) 5 w' w.heap.size (fun _=>True) Cq r∧Below w.heap.size w w':=by
 have Cy:=Try.underlying43
 have Cr:=am Co
 have Dc:=am Cp
 clear Co Cp
 have HB:=am (Below.refl w.heap.size w)
 have H:=h
 clear h
 unfold cA.f at H
 generalize Bl:((([]:List Int)):List Int)=C8 at H
 have Bm:=am Bl.symm
 clear Bl
 have H':=am H
 clear H
 go_enter Try.func67,Try.ntmps67
 go_wp2_with (first|((with_reducible refine aJ (N:=6) rfl ?_);refine Kd.R_lit (Kd.int .u8) _ 5 ?hg (N:=6) ?hd (xs:=([]:List Int)) (inner:=[]) (ok:=fun _=>True) (okp:=fun _=>True) ?hr ?hp (fun _ hk=>hk) trivial (Below.refl _ _) (k7 _) (by simp) ?_;(case hd=>rfl);(case hg=>rfl);(case hr=>exact gs);(case hp=>exact (bD.none _ _));intro Cz w2 Bw hb hg_ hnew_;clear hg_ hnew_;(first|rw [← Bm.o] at Bw|(simp only [Int.reduceToNat] at Bw;rw [← Bm.o] at Bw));have n_:=ak2 (rl Bw (bq HB.o)) (aC (bq HB.o) hb);clear HB;obtain ⟨Bx,HB⟩:=n_;clear hb Bw))
 go_loopg [3,4] k (fun kq v3 v4 w'=>∃(Be:List Int) (A1:Int),v4=.int .i64 A1∧Aside0 (cA.l0 kq l0 Be A1=some r)∧Aside0 (kq≤k)∧Aside0 (Kd.R (Kd.int .u8) 5 w' w.heap.size (fun _=>True) v3 Be)∧Aside0 (Below w.heap.size w w'))
 case atStart=>exact ⟨(C8),(0),sq,H',⟨k7 _⟩,⟨kqR Bx.o⟩,⟨bq HB.o⟩⟩
 case round=>
  clear H'
  try clear p2
  obtain ⟨Be,A1,rfl,HA,Cs,A3,HB⟩:=hrel
  cases gk with
  |zero=>exact absurd HA.o (by simp [cA.l0])
  |succ k1=>
   have H:=HA.o
   clear HA
   simp only [cA.l0] at H
   replace H:=il' H
   rcases H with ⟨-,C9,H⟩|⟨-,C9,H⟩
   · obtain rfl:=k6 H
     go_wp2
     go_ret
     exact ⟨_,rq,kqR A3.o,bq HB.o⟩
   generalize Bn:((([]:List Int)):List Int)=Bh at H
   have B2:=am Bn.symm
   clear Bn
   replace H:=nl H
   obtain ⟨-,D0,H⟩:=H
   replace H:=be H
   obtain ⟨Ax,Ct,H⟩:=H
   replace H:=be H
   obtain ⟨Bg,D1,H⟩:=H
   replace H:=be H
   obtain ⟨Bo,D2,H⟩:=H
   replace H:=be H
   obtain ⟨Bp,D3,H⟩:=H
   have H':=am H
   clear H
   try go_wp2
   have n_:=ak2 (Kd.R_drew A3.o) (bB HB.o)
   clear A3 HB
   obtain ⟨A3,HB⟩:=n_
   have Bs:0≤(A1:Int):=oda
   have Bt:A1<(l0.length:Int):=oda
   obtain ⟨A2,Ag,Ah,An,Ao,Ca,Aj,Ap,Aq,Ar,Ak,B3,B4,B5,B6⟩:=dR Cr.o A1 Bs Bt
   have A4:=Ak
   have A5:=Ar
   have A6:=Aq
   have A7:=Ap
   have A8:=Aj
   cases Ca
   replace Aj:=(HB.o.cell (kW w _ Aj)).trans Aj
   replace Ap:=(HB.o.cell (kW w _ Ap)).trans Ap
   replace Aq:=(HB.o.cell (kW w _ Aq)).trans Aq
   replace Ar:=(HB.o.cell (kW w _ Ar)).trans Ar
   replace Ak:=(HB.o.cell (kW w _ Ak)).trans Ak
   have Ay:=am B4
   have B7:=am B3
   clear B4 B3
   have Bi:=am B6
   have C6:=am B5
   clear B6 B5
   replace Bs:=eq_true Bs
   replace Bt:=eq_true Bt
   have Bu:0≤(A1:Int):=oda
   have Bv:A1<(l0.length:Int):=oda
   obtain ⟨By,Cb,Cc,Cd,Ce,Cf,Al,As,At,Au,Am,B8,B9,Ba,Bb⟩:=dR Cr.o A1 Bu Bv
   have A9:=Am
   have Aa:=Au
   have Ab:=At
   have Ac:=As
   have Ad:=Al
   obtain rfl:A2=By:=(by injection Cf)
   replace Al:=(HB.o.cell (kW w _ Al)).trans Al
   replace As:=(HB.o.cell (kW w _ As)).trans As
   replace At:=(HB.o.cell (kW w _ At)).trans At
   replace Au:=(HB.o.cell (kW w _ Au)).trans Au
   replace Am:=(HB.o.cell (kW w _ Am)).trans Am
   have Bj:=am B9
   have C7:=am B8
   clear B9 B8
   have Bc:=am Bb
   have Bk:=am Ba
   clear Bb Ba
   replace Bu:=eq_true Bu
   replace Bv:=eq_true Bv
   have ea_:=k6 (Aj.symm.trans Al)
   injection ea_ with ea_ en_ ec_
   subst ea_
   subst ec_
   clear en_
   have ea_:=k6 (Ak.symm.trans Am)
   injection ea_ with ea_ en_ ec_
   subst ea_
   subst ec_
   clear en_
   refine cW (n:=15) (S:=fun w'=>w'.cell? (A2.add ((A1).toNat*5))=some (.slice Ag ((aG l0 A1).f0).length Ah)∧w'.cell? ⟨(A2.add ((A1).toNat*5)).block,(A2.add ((A1).toNat*5)).off+1,none⟩=some (.int .i64 ((aG l0 A1).f1.f0))∧w'.cell? ⟨(A2.add ((A1).toNat*5)).block,(A2.add ((A1).toNat*5)).off+2,none⟩=some (.int .i64 ((aG l0 A1).f1.f1))∧w'.cell? ⟨(A2.add ((A1).toNat*5)).block,(A2.add ((A1).toNat*5)).off+3,none⟩=some (.string ((aG l0 A1).f1.f2))∧w'.cell? ⟨(A2.add ((A1).toNat*5)).block,(A2.add ((A1).toNat*5)).off+4,none⟩=some (.slice An ((aG l0 A1).f1.f3).length Ao)∧w'.cell? (A2.add ((A1).toNat*5))=some (.slice Ag ((aG l0 A1).f0).length Ah)∧w'.cell? ⟨(A2.add ((A1).toNat*5)).block,(A2.add ((A1).toNat*5)).off+1,none⟩=some (.int .i64 ((aG l0 A1).f1.f0))∧w'.cell? ⟨(A2.add ((A1).toNat*5)).block,(A2.add ((A1).toNat*5)).off+2,none⟩=some (.int .i64 ((aG l0 A1).f1.f1))∧w'.cell? ⟨(A2.add ((A1).toNat*5)).block,(A2.add ((A1).toNat*5)).off+3,none⟩=some (.string ((aG l0 A1).f1.f2))∧w'.cell? ⟨(A2.add ((A1).toNat*5)).block,(A2.add ((A1).toNat*5)).off+4,none⟩=some (.slice An ((aG l0 A1).f1.f3).length Ao)) (ds:=[]) #[F,F,F,F,F,F,F,F,F,F,F,F,F,F,F] (by kernel_rfl) rfl rfl ⟨((HB.o.cell (kW w _ A8)).trans A8),((HB.o.cell (kW w _ A7)).trans A7),((HB.o.cell (kW w _ A6)).trans A6),((HB.o.cell (kW w _ A5)).trans A5),((HB.o.cell (kW w _ A4)).trans A4),((HB.o.cell (kW w _ Ad)).trans Ad),((HB.o.cell (kW w _ Ac)).trans Ac),((HB.o.cell (kW w _ Ab)).trans Ab),((HB.o.cell (kW w _ Aa)).trans Aa),((HB.o.cell (kW w _ A9)).trans A9)⟩ (fun hHeld=>?_);refine bW cA.tab5 cA.bits5 (fun HT_ HW_=>?_)
   generalize wr.drew=Dd at A3 HB Ay Bi Bj Bc Aj Ap Aq Ar Ak Al As At Au Am hHeld ⊢
   refine pv HT_ 1 (some 14) #[F,T,F,F,F,F,F,F,F,F,F,F,F,F,F] ?_
   refine pv HT_ 2 (some 15) #[F,T,T,F,F,F,F,F,F,F,F,F,F,F,F] ?_
   refine pv HT_ 3 (some 16) #[F,T,T,T,F,F,F,F,F,F,F,F,F,F,F] ?_
   refine pv HT_ 4 (some 17) #[F,T,T,T,T,F,F,F,F,F,F,F,F,F,F] ?_
   refine pv HT_ 8 (some 21) #[F,T,T,T,T,F,F,F,T,F,F,F,F,F,F] ?_
   refine pv HT_ 9 (some 22) #[F,T,T,T,T,F,F,F,T,T,F,F,F,F,F] ?_
   refine pv HT_ 10 (some 23) #[F,T,T,T,T,F,F,F,T,T,T,F,F,F,F] ?_
   refine pv HT_ 11 (some 24) #[F,T,T,T,T,F,F,F,T,T,T,T,F,F,F] ?_
   refine tk 5 (some 18) #[F,T,T,T,T,T,F,F,T,T,T,T,F,F,F] rfl rfl (aZ HT_.o HW_.o (by kernel_rfl)) hHeld (Or.inl ⟨by rfl,by rintro w' ⟨s0,s1,s2,s3,s4,s5,s6,s7,s8,s9⟩;go_simp;with_reducible rfl⟩) ?_
   refine tk 12 (some 25) #[F,T,T,T,T,T,F,F,T,T,T,T,T,F,F] rfl rfl (aZ HT_.o HW_.o (by kernel_rfl)) hHeld (Or.inl ⟨by rfl,by rintro w' ⟨s0,s1,s2,s3,s4,s5,s6,s7,s8,s9⟩;go_simp;with_reducible rfl⟩) ?_
   refine kM (σ:=Value × Value) 3 #[T,T,T,T,T,T,T,F,T,T,T,T,T,F,F] (fun s_=>[(13,s_.1),(19,s_.2)]) (fun s_ w'=>(w'.cell? (A2.add ((A1).toNat*5))=some (.slice Ag ((aG l0 A1).f0).length Ah)∧w'.cell? ⟨(A2.add ((A1).toNat*5)).block,(A2.add ((A1).toNat*5)).off+1,none⟩=some (.int .i64 ((aG l0 A1).f1.f0))∧w'.cell? ⟨(A2.add ((A1).toNat*5)).block,(A2.add ((A1).toNat*5)).off+2,none⟩=some (.int .i64 ((aG l0 A1).f1.f1))∧w'.cell? ⟨(A2.add ((A1).toNat*5)).block,(A2.add ((A1).toNat*5)).off+3,none⟩=some (.string ((aG l0 A1).f1.f2))∧w'.cell? ⟨(A2.add ((A1).toNat*5)).block,(A2.add ((A1).toNat*5)).off+4,none⟩=some (.slice An ((aG l0 A1).f1.f3).length Ao)∧w'.cell? (A2.add ((A1).toNat*5))=some (.slice Ag ((aG l0 A1).f0).length Ah)∧w'.cell? ⟨(A2.add ((A1).toNat*5)).block,(A2.add ((A1).toNat*5)).off+1,none⟩=some (.int .i64 ((aG l0 A1).f1.f0))∧w'.cell? ⟨(A2.add ((A1).toNat*5)).block,(A2.add ((A1).toNat*5)).off+2,none⟩=some (.int .i64 ((aG l0 A1).f1.f1))∧w'.cell? ⟨(A2.add ((A1).toNat*5)).block,(A2.add ((A1).toNat*5)).off+3,none⟩=some (.string ((aG l0 A1).f1.f2))∧w'.cell? ⟨(A2.add ((A1).toNat*5)).block,(A2.add ((A1).toNat*5)).off+4,none⟩=some (.slice An ((aG l0 A1).f1.f3).length Ao))∧(Kd.R (Kd.int .u8) 5 w' w.heap.size (fun k_=>some k_≠(s_.2:Value).ownBlock∧some k_≠(u3:Value).ownBlock) s_.1 Bh)∧(Kd.R (Kd.int .u8) 5 w' w.heap.size (fun k_=>some k_≠(s_.1:Value).ownBlock∧some k_≠(u3:Value).ownBlock) s_.2 Ax)∧(Kd.R (Kd.int .u8) 5 w' w.heap.size (fun k_=>some k_≠(s_.1:Value).ownBlock∧some k_≠(s_.2:Value).ownBlock) u3 Be)∧(Below w.heap.size w w')) ?_ ?_
   rotate_left
   · intro hCont
     refine two_ (i:=0) (j:=6) (Ni:=some 13) (Nj:=some 19) #[T,T,T,T,T,T,F,F,T,T,T,T,T,F,F] #[F,T,T,T,T,T,T,F,T,T,T,T,T,F,F] rfl rfl rfl rfl (kE HT_.o (by kernel_rfl)) (by decide) (by decide) (fun K hK=>?_) (fun K hK=>?_)
     · skip
       refine Kd.R_lit_step (Kd.int .u8) _ 5 ?hg (N:=13) ?hd (xs:=([]:List Int)) (inner:=[]) (ok:=fun _=>True) (okp:=fun _=>True) ?hr ?hp (fun _ hk=>hk) trivial (Below.refl _ _) (k7 _) (by simp) ?_;(case hd=>rfl);(case hg=>rfl);(case hr=>exact gs);(case hp=>exact (bD.none _ _))
       intro Az D4 Bf hb hg_ hnew_
       clear hg_ hnew_
       (first|rw [← B2.o] at Bf|(simp only [Int.reduceToNat] at Bf;rw [← B2.o] at Bf))
       have n_:=ak3 (re_ A3 Bf hb) (rn_ Bf A3 (bq HB.o)) (aC (bq HB.o) hb)
       clear A3 HB
       obtain ⟨A3,Ae,HB⟩:=n_
       clear hb Bf
       refine hK.out _ _ ⟨((HB.o.cell (kW w _ A8)).trans A8),((HB.o.cell (kW w _ A7)).trans A7),((HB.o.cell (kW w _ A6)).trans A6),((HB.o.cell (kW w _ A5)).trans A5),((HB.o.cell (kW w _ A4)).trans A4),((HB.o.cell (kW w _ Ad)).trans Ad),((HB.o.cell (kW w _ Ac)).trans Ac),((HB.o.cell (kW w _ Ab)).trans Ab),((HB.o.cell (kW w _ Aa)).trans Aa),((HB.o.cell (kW w _ A9)).trans A9)⟩ (fun hHeld=>?_)
       clear hK K
       refine bZ (a':=?_) ?_ ?_
       rotate_left
       · show Act.put _ (some 13) _=_
         simp only [Act.put,kX,kY,kZ,aI,aK]
         rfl
       refine dM (i:=6) (N:=some 19) #[T,T,T,T,T,T,T,F,T,T,T,T,T,F,F] rfl rfl (bS HT_.o (by kernel_rfl)) (by decide) (fun K hK=>?_)
       refine cU Try.func74 (by kernel_rfl) rfl #[.slice Ag ((aG l0 A1).f0).length Ah] (by rfl) rfl rfl ga ?_
       with_reducible refine (dU.calls k1 _ _ ((aG l0 A1).f0) Ax _ ?side1 ?side2 Ct.o).mono ?_
       (case side1=>exact cq (Kd.C_below Ay.o HB.o))
       (case side2=>exact B7.o)
       rintro e De ⟨B0,rfl,Av,hb⟩
       refine ⟨_,rfl,?_⟩
       have n_:=ak4 (re_ A3 Av hb) (re_ Ae Av hb) (Kd.R_lower (Kd.R_new' (Kd.R_new' Av (Kd.R_lt (kqR A3.o))) (Kd.R_lt (kqR Ae.o))) (aH (bq HB.o))) (aC (bq HB.o) hb)
       clear A3 Ae HB
       obtain ⟨A3,Ae,Af,HB⟩:=n_
       (try clear hb Av)
       refine hK.out _ _ ⟨((HB.o.cell (kW w _ A8)).trans A8),((HB.o.cell (kW w _ A7)).trans A7),((HB.o.cell (kW w _ A6)).trans A6),((HB.o.cell (kW w _ A5)).trans A5),((HB.o.cell (kW w _ A4)).trans A4),((HB.o.cell (kW w _ Ad)).trans Ad),((HB.o.cell (kW w _ Ac)).trans Ac),((HB.o.cell (kW w _ Ab)).trans Ab),((HB.o.cell (kW w _ Aa)).trans Aa),((HB.o.cell (kW w _ A9)).trans A9)⟩ (fun hHeld=>?_)
       clear hK K
       refine bZ (a':=?_) ?_ ?_
       rotate_left
       · show Act.put _ (some 19) _=_
         simp only [Act.put,kX,kY,kZ,aI,aK]
         rfl
       exact bZ (by simp only [f8,Act.put,kX,kY,kZ]) (hCont (Az,B0) _ ⟨hHeld,(by refine kr ?_;exact Kd.R_mono Ae.o (fun _ hk=>⟨hk.2,hk.1.2⟩)),(by refine kr ?_;exact Kd.R_mono Af.o (fun _ hk=>⟨hk.2,hk.1.2⟩)),(by refine kr ?_;exact Kd.R_mono A3.o (fun _ hk=>⟨hk.1.2,hk.2⟩)),(bq HB.o)⟩)
     skip
     refine cU Try.func74 (by kernel_rfl) rfl #[.slice Ag ((aG l0 A1).f0).length Ah] (by rfl) rfl rfl ga ?_
     with_reducible refine (dU.calls k1 _ _ ((aG l0 A1).f0) Ax _ ?side1 ?side2 Ct.o).mono ?_
     (case side1=>exact cq (Kd.C_below Ay.o HB.o))
     (case side2=>exact B7.o)
     rintro e D4 ⟨B0,rfl,Av,hb⟩
     refine ⟨_,rfl,?_⟩
     have n_:=ak3 (re_ A3 Av hb) (rn_ Av A3 (bq HB.o)) (aC (bq HB.o) hb)
     clear A3 HB
     obtain ⟨A3,Af,HB⟩:=n_
     (try clear hb Av)
     refine hK.out _ _ ⟨((HB.o.cell (kW w _ A8)).trans A8),((HB.o.cell (kW w _ A7)).trans A7),((HB.o.cell (kW w _ A6)).trans A6),((HB.o.cell (kW w _ A5)).trans A5),((HB.o.cell (kW w _ A4)).trans A4),((HB.o.cell (kW w _ Ad)).trans Ad),((HB.o.cell (kW w _ Ac)).trans Ac),((HB.o.cell (kW w _ Ab)).trans Ab),((HB.o.cell (kW w _ Aa)).trans Aa),((HB.o.cell (kW w _ A9)).trans A9)⟩ (fun hHeld=>?_)
     clear hK K
     refine bZ (a':=?_) ?_ ?_
     rotate_left
     · show Act.put _ (some 19) _=_
       simp only [Act.put,kX,kY,kZ,aI,aK]
       rfl
     refine dM (i:=0) (N:=some 13) #[T,T,T,T,T,T,T,F,T,T,T,T,T,F,F] rfl rfl (bS HT_.o (by kernel_rfl)) (by decide) (fun K hK=>?_)
     refine Kd.R_lit_step (Kd.int .u8) _ 5 ?hg (N:=13) ?hd (xs:=([]:List Int)) (inner:=[]) (ok:=fun _=>True) (okp:=fun _=>True) ?hr ?hp (fun _ hk=>hk) trivial (Below.refl _ _) (k7 _) (by simp) ?_;(case hd=>rfl);(case hg=>rfl);(case hr=>exact gs);(case hp=>exact (bD.none _ _))
     intro Az Df B1 hb hg_ hnew_
     clear hg_ hnew_
     (first|rw [← B2.o] at B1|(simp only [Int.reduceToNat] at B1;rw [← B2.o] at B1))
     have n_:=ak4 (re_ A3 B1 hb) (re_ Af B1 hb) (Kd.R_lower (Kd.R_new' (Kd.R_new' B1 (Kd.R_lt (kqR A3.o))) (Kd.R_lt (kqR Af.o))) (aH (bq HB.o))) (aC (bq HB.o) hb)
     clear A3 Af HB
     obtain ⟨A3,Af,Ae,HB⟩:=n_
     clear hb B1
     refine hK.out _ _ ⟨((HB.o.cell (kW w _ A8)).trans A8),((HB.o.cell (kW w _ A7)).trans A7),((HB.o.cell (kW w _ A6)).trans A6),((HB.o.cell (kW w _ A5)).trans A5),((HB.o.cell (kW w _ A4)).trans A4),((HB.o.cell (kW w _ Ad)).trans Ad),((HB.o.cell (kW w _ Ac)).trans Ac),((HB.o.cell (kW w _ Ab)).trans Ab),((HB.o.cell (kW w _ Aa)).trans Aa),((HB.o.cell (kW w _ A9)).trans A9)⟩ (fun hHeld=>?_)
     clear hK K
     refine bZ (a':=?_) ?_ ?_
     rotate_left
     · show Act.put _ (some 13) _=_
       simp only [Act.put,kX,kY,kZ,aI,aK]
       rfl
     exact bZ (by simp only [f8,Act.put,kX,kY,kZ]) (hCont (Az,B0) _ ⟨hHeld,(by refine kr ?_;exact Kd.R_mono Ae.o (fun _ hk=>⟨hk.2,hk.1.2⟩)),(by refine kr ?_;exact Kd.R_mono Af.o (fun _ hk=>⟨hk.2,hk.1.2⟩)),(by refine kr ?_;exact Kd.R_mono A3.o (fun _ hk=>⟨hk.2,hk.1.2⟩)),(bq HB.o)⟩)
   rintro ⟨Az,B0⟩ Bd ⟨hS_,Cu,Cv,Cw,Cx⟩
   have n_:Aside0 (Kd.R (Kd.int .u8) 5 Bd w.heap.size (fun k_=>some k_≠(B0:Value).ownBlock∧some k_≠(u3:Value).ownBlock) Az Bh)∧Aside0 (Kd.R (Kd.int .u8) 5 Bd w.heap.size (fun k_=>some k_≠(Az:Value).ownBlock∧some k_≠(u3:Value).ownBlock) B0 Ax)∧Aside0 (Kd.R (Kd.int .u8) 5 Bd w.heap.size (fun k_=>some k_≠(Az:Value).ownBlock∧some k_≠(B0:Value).ownBlock) u3 Be)∧Aside0 (Below w.heap.size w Bd):=⟨⟨Cu⟩,⟨Cv⟩,⟨Cw⟩,⟨Cx⟩⟩
   clear A3 HB Cu Cv Cw Cx
   obtain ⟨Ae,Af,A3,HB⟩:=n_
   have hHeld:Bd.cell? (A2.add ((A1).toNat*5))=some (.slice Ag ((aG l0 A1).f0).length Ah)∧Bd.cell? ⟨(A2.add ((A1).toNat*5)).block,(A2.add ((A1).toNat*5)).off+1,none⟩=some (.int .i64 ((aG l0 A1).f1.f0))∧Bd.cell? ⟨(A2.add ((A1).toNat*5)).block,(A2.add ((A1).toNat*5)).off+2,none⟩=some (.int .i64 ((aG l0 A1).f1.f1))∧Bd.cell? ⟨(A2.add ((A1).toNat*5)).block,(A2.add ((A1).toNat*5)).off+3,none⟩=some (.string ((aG l0 A1).f1.f2))∧Bd.cell? ⟨(A2.add ((A1).toNat*5)).block,(A2.add ((A1).toNat*5)).off+4,none⟩=some (.slice An ((aG l0 A1).f1.f3).length Ao)∧Bd.cell? (A2.add ((A1).toNat*5))=some (.slice Ag ((aG l0 A1).f0).length Ah)∧Bd.cell? ⟨(A2.add ((A1).toNat*5)).block,(A2.add ((A1).toNat*5)).off+1,none⟩=some (.int .i64 ((aG l0 A1).f1.f0))∧Bd.cell? ⟨(A2.add ((A1).toNat*5)).block,(A2.add ((A1).toNat*5)).off+2,none⟩=some (.int .i64 ((aG l0 A1).f1.f1))∧Bd.cell? ⟨(A2.add ((A1).toNat*5)).block,(A2.add ((A1).toNat*5)).off+3,none⟩=some (.string ((aG l0 A1).f1.f2))∧Bd.cell? ⟨(A2.add ((A1).toNat*5)).block,(A2.add ((A1).toNat*5)).off+4,none⟩=some (.slice An ((aG l0 A1).f1.f3).length Ao):=hS_
   obtain ⟨Cg,Ch,Bz⟩:=Kd.R_slice Ae.o
   (first|subst Bz|(injection Bz with Bq C0 Br;have C1:=Bq.symm;have C2:=Br.symm;clear Bq C0 Br;subst C1;subst C2))
   obtain ⟨Ci,Cj,C3⟩:=Kd.R_slice Af.o
   (first|subst C3|(injection C3 with Bq C0 Br;have C1:=Bq.symm;have C2:=Br.symm;clear Bq C0 Br;subst C1;subst C2))
   refine bZ (a':=?_) ?_ ?_
   rotate_left
   · simp only [f8,Act.put,kX,kY,kZ]
     rfl
   refine dM (i:=7) (N:=some 20) #[T,T,T,T,T,T,T,T,T,T,T,T,T,F,F] rfl rfl (bS HT_.o (by kernel_rfl)) (by decide) (fun K hK=>?_)
   refine cU Try.func41 (by kernel_rfl) rfl #[.slice Cg Bh.length Ch,.int .i64 6,.slice Ci Ax.length Cj] (by rfl) rfl rfl ga ?_
   with_reducible refine (bT.calls k1 _ _ Bh 6 _ _ Ax Bg _ ?side1 ?side2 ?side3 ?side4 D1.o).mono ?_
   (case side1=>repeat (first|exact (Kd.R_reads' Ae.o).2.2|(with_reducible refine Kd.C_alloc ?_ _)|(with_reducible refine Kd.C_drewN ?_ _)|(with_reducible refine Kd.C_drew ?_)))
   (case side2=>exact (Kd.R_reads' Ae.o).2.1)
   (case side3=>repeat (first|exact (Kd.R_reads' Af.o).2.2|(with_reducible refine Kd.C_alloc ?_ _)|(with_reducible refine Kd.C_drewN ?_ _)|(with_reducible refine Kd.C_drew ?_)))
   (case side4=>exact (Kd.R_reads' Af.o).2.1)
   rintro e Dg ⟨D5,rfl,Av,hb⟩
   refine ⟨_,rfl,?_⟩
   have n_:=ak5 (re_ A3 Av hb) (re_ Ae Av hb) (re_ Af Av hb) (Kd.R_lower (Kd.R_new' (Kd.R_new' (Kd.R_new' Av (Kd.R_lt (kqR A3.o))) (Kd.R_lt (kqR Ae.o))) (Kd.R_lt (kqR Af.o))) (aH (bq HB.o))) (aC (bq HB.o) hb)
   clear A3 Ae Af HB
   obtain ⟨A3,Ae,Af,Ai,HB⟩:=n_
   (try clear hb Av)
   obtain ⟨Ck,Cl,C4⟩:=Kd.R_slice Ai.o
   (first|subst C4|(injection C4 with Bq C0 Br;have C1:=Bq.symm;have C2:=Br.symm;clear Bq C0 Br;subst C1;subst C2))
   refine hK.out _ _ ⟨((HB.o.cell (kW w _ A8)).trans A8),((HB.o.cell (kW w _ A7)).trans A7),((HB.o.cell (kW w _ A6)).trans A6),((HB.o.cell (kW w _ A5)).trans A5),((HB.o.cell (kW w _ A4)).trans A4),((HB.o.cell (kW w _ Ad)).trans Ad),((HB.o.cell (kW w _ Ac)).trans Ac),((HB.o.cell (kW w _ Ab)).trans Ab),((HB.o.cell (kW w _ Aa)).trans Aa),((HB.o.cell (kW w _ A9)).trans A9)⟩ (fun hHeld=>?_)
   clear hK K
   refine bZ (a':=?_) ?_ ?_
   rotate_left
   · show Act.put _ (some 20) _=_
     simp only [Act.put,kX,kY,kZ,aI,aK]
     rfl
   refine dM (i:=13) (N:=some 26) #[T,T,T,T,T,T,T,T,T,T,T,T,T,T,F] rfl rfl (bS HT_.o (by kernel_rfl)) (by decide) (fun K hK=>?_)
   refine cU Try.func73 (by kernel_rfl) rfl #[.slice Ck Bg.length Cl,.agg #[.int .i64 ((aG l0 A1).f1.f0),.int .i64 ((aG l0 A1).f1.f1),.string ((aG l0 A1).f1.f2),.slice An ((aG l0 A1).f1.f3).length Ao]] (by rfl) rfl rfl ga ?_
   with_reducible refine (fI.calls k1 _ _ Bg ((aG l0 A1).f1.f0) ((aG l0 A1).f1.f1) ((aG l0 A1).f1.f2) _ _ ((aG l0 A1).f1.f3) Bo _ ?side1 ?side2 ?side3 ?side4 D2.o).mono ?_
   (case side1=>repeat (first|exact (Kd.R_reads' Ai.o).2.2|(with_reducible refine Kd.C_alloc ?_ _)|(with_reducible refine Kd.C_drewN ?_ _)|(with_reducible refine Kd.C_drew ?_)))
   (case side2=>exact (Kd.R_reads' Ai.o).2.1)
   (case side3=>exact cq (Kd.C_below Bc.o HB.o))
   (case side4=>exact Bk.o)
   rintro e Dh ⟨D6,rfl,Av,hb⟩
   refine ⟨_,rfl,?_⟩
   have n_:=ak6 (re_ A3 Av hb) (re_ Ae Av hb) (re_ Af Av hb) (re_ Ai Av hb) (Kd.R_lower (Kd.R_new' (Kd.R_new' (Kd.R_new' (Kd.R_new' Av (Kd.R_lt (kqR A3.o))) (Kd.R_lt (kqR Ae.o))) (Kd.R_lt (kqR Af.o))) (Kd.R_lt (kqR Ai.o))) (aH (bq HB.o))) (aC (bq HB.o) hb)
   clear A3 Ae Af Ai HB
   obtain ⟨A3,Ae,Af,Ai,Aw,HB⟩:=n_
   (try clear hb Av)
   refine hK.out _ _ ⟨((HB.o.cell (kW w _ A8)).trans A8),((HB.o.cell (kW w _ A7)).trans A7),((HB.o.cell (kW w _ A6)).trans A6),((HB.o.cell (kW w _ A5)).trans A5),((HB.o.cell (kW w _ A4)).trans A4),((HB.o.cell (kW w _ Ad)).trans Ad),((HB.o.cell (kW w _ Ac)).trans Ac),((HB.o.cell (kW w _ Ab)).trans Ab),((HB.o.cell (kW w _ Aa)).trans Aa),((HB.o.cell (kW w _ A9)).trans A9)⟩ (fun hHeld=>?_)
   clear hK K
   refine bZ (a':=?_) ?_ ?_
   rotate_left
   · show Act.put _ (some 26) _=_
     simp only [Act.put,kX,kY,kZ,aI,aK]
     rfl
   refine pv HT_ 14 (some 5) #[T,T,T,T,T,T,T,T,T,T,T,T,T,T,T] ?_
   refine d5 (cL HT_.o (by kernel_rfl)) ?_
   obtain ⟨D7,D8,Cm⟩:=Kd.R_slice A3.o
   subst Cm
   obtain ⟨D9,Da,Cn⟩:=Kd.R_slice Aw.o
   subst Cn
   try go_wp2_with (first|((with_reducible refine aE (f:=41) rfl ?_);refine gc (some 29) (bT.calls k1 _ _ Be 48 _ _ Bo Bp _ (cq (Kd.R_reads' A3.o).2.2) ((Kd.R_reads' A3.o).2.1) (cq (Kd.R_reads' Aw.o).2.2) ((Kd.R_reads' Aw.o).2.1) D3.o) Try.func41 ?_;rintro e Di ⟨Db,rfl,Av,hb⟩;refine ⟨_,rfl,?_⟩;have n_:=ak7 (re_ A3 Av hb) (re_ Ae Av hb) (re_ Af Av hb) (re_ Ai Av hb) (re_ Aw Av hb) (Kd.R_lower (Kd.R_new' (Kd.R_new' (Kd.R_new' (Kd.R_new' (Kd.R_new' Av (Kd.R_lt (kqR A3.o))) (Kd.R_lt (kqR Ae.o))) (Kd.R_lt (kqR Af.o))) (Kd.R_lt (kqR Ai.o))) (Kd.R_lt (kqR Aw.o))) (aH (bq HB.o))) (aC (bq HB.o) hb);clear A3 Ae Af Ai Aw HB;obtain ⟨A3,Ae,Af,Ai,Aw,C5,HB⟩:=n_;(try clear hb Av)))
   go_roundg k1
   case measure=>have:=Cs.o;omega
   case rel=>exact ⟨(Bp),(wrap64 (A1+1)),sq,H',⟨by have:=Cs.o;omega⟩,⟨by refine kr ?_;exact Kd.R_mono C5.o (fun _ hk=>trivial)⟩,⟨bq HB.o⟩⟩
end Go.Proofs.Ytgppikopdpeigaa.XFnPdus
