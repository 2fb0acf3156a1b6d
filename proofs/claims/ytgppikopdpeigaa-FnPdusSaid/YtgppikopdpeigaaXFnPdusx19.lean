/- The functions that one law reaches, as Lean functions, with their walks: printed by a program of this seat (wip/tools) out of the translation. -/
import Derived.Test.YtgppikopdpeigaaXFnPdusx0
namespace Go.Proofs.Ytgppikopdpeigaa.XFnPdus
open Go.RowKit Go.Proofs.YtgppikopdpeigaaW.PrintWords Go.Proofs.YtgppikopdpeigaaW.PrintLast Go.Proofs.YtgppikopdpeigaaW.PrintMore
attribute [local go_sem] cO cP dH dI cC cD cQ cR
set_option maxHeartbeats 8000000
set_option maxRecDepth 100000
set_option linter.unusedVariables false
set_option linter.unusedSimpArgs false
mutual
def bF.j0:Nat→List Int→Int→Bool→Option (Int × List Int × Int × Bool)
 |0,_,_,_=>none
 |k+1,x0,x1,A2=>if A2=true then (some (0,(([]:List Int)),0,false)) else (if 0≤(wrap64 (x1+1)) then (if (wrap64 (x1+1))<(x0.length:Int) then (if (wrap64 (rd x0 (wrap64 (x1+1))))>127 then (if (wrap64 (rd x0 (wrap64 (x1+1))))=129 then (if (wrap64 (x1+2))≥(x0.length:Int) then (bF.j1 k x0 x1 (wrap64 (x1+2)) true) else (if 0≤(wrap64 (x1+2)) then (if (wrap64 (x1+2))<(x0.length:Int) then (bF.j1 k x0 x1 (wrap64 (x1+2)) (decide ((rd x0 (wrap64 (x1+2)))<128))) else (none)) else (none))) else (bF.j1 k x0 x1 (wrap64 (x1+2)) true)) else (if (wrap64 (rd x0 (wrap64 (x1+1))))>250 then (some (0,(([]:List Int)),0,false)) else (if (wrap64 (rd x0 (wrap64 (x1+1))))>(wrap64 ((x0.length:Int) - (wrap64 (x1+2)))) then (some (0,(([]:List Int)),0,false)) else (if 0≤x1 then (if x1<(x0.length:Int) then ((some (([]:List Int):List Int)).bind fun A0=>(if 0≤(wrap64 (x1+2)) then (if (wrap64 (x1+2))≤(wrap64 ((wrap64 (x1+2))+(wrap64 (rd x0 (wrap64 (x1+1)))))) then (if (wrap64 ((wrap64 (x1+2))+(wrap64 (rd x0 (wrap64 (x1+1))))))≤(x0.length:Int) then (if A0.length+((x0.take ((wrap64 ((wrap64 (x1+2))+(wrap64 (rd x0 (wrap64 (x1+1)))))):Int).toNat).drop ((wrap64 (x1+2)):Int).toNat).length<140737488355328 then (some (wrap64 (rd x0 x1),(A0++((x0.take ((wrap64 ((wrap64 (x1+2))+(wrap64 (rd x0 (wrap64 (x1+1)))))):Int).toNat).drop ((wrap64 (x1+2)):Int).toNat)),wrap64 ((wrap64 (x1+2))+(wrap64 (rd x0 (wrap64 (x1+1))))),true)) else (none)) else (none)) else (none)) else (none))) else (none)) else (none))))) else (none)) else (none))
def bF.j1:Nat→List Int→Int→Int→Bool→Option (Int × List Int × Int × Bool)
 |0,_,_,_,_=>none
 |k+1,x0,x1,x9,A3=>if A3=true then (some (0,(([]:List Int)),0,false)) else (if 0≤x9 then (if x9<(x0.length:Int) then (if (wrap64 (rd x0 x9))>250 then (some (0,(([]:List Int)),0,false)) else (if (wrap64 (rd x0 x9))>(wrap64 ((x0.length:Int) - (wrap64 (x9+1)))) then (some (0,(([]:List Int)),0,false)) else (if 0≤x1 then (if x1<(x0.length:Int) then ((some (([]:List Int):List Int)).bind fun A1=>(if 0≤(wrap64 (x9+1)) then (if (wrap64 (x9+1))≤(wrap64 ((wrap64 (x9+1))+(wrap64 (rd x0 x9)))) then (if (wrap64 ((wrap64 (x9+1))+(wrap64 (rd x0 x9))))≤(x0.length:Int) then (if A1.length+((x0.take ((wrap64 ((wrap64 (x9+1))+(wrap64 (rd x0 x9)))):Int).toNat).drop ((wrap64 (x9+1)):Int).toNat).length<140737488355328 then (some (wrap64 (rd x0 x1),(A1++((x0.take ((wrap64 ((wrap64 (x9+1))+(wrap64 (rd x0 x9)))):Int).toNat).drop ((wrap64 (x9+1)):Int).toNat)),wrap64 ((wrap64 (x9+1))+(wrap64 (rd x0 x9))),true)) else (none)) else (none)) else (none)) else (none))) else (none)) else (none)))) else (none)) else (none))
end
def bF.f (k:Nat) (l0:List Int) (a1:Int):Option (Int × List Int × Int × Bool):=if a1<0 then (bF.j0 k l0 a1 true) else (if a1≥(l0.length:Int) then (bF.j0 k l0 a1 true) else (bF.j0 k l0 a1 (decide ((wrap64 (a1+1))≥(l0.length:Int)))))
def bF.T12:Bool × List (List Nat × List Nat):=(true,[([],[]),([],[]),([0,1],[0,1]),([2],[2]),([3],[3]),([],[]),([],[]),([],[]),([],[]),([],[]),([8,9],[8,9]),([6,7,10],[6,7,10]),([5,11],[5,11]),([],[]),([],[]),([13,14],[13,14]),([4,12,0,1,2,3,4],[4]),([12,16,0,1,2,3,4,5,6,7,8,9,10,11,12,16],[12]),([15,17,0,1,2,3,4,5,6,7,8,9,10,11,12,13,14,15,16,17],[15]),([18,0,1,2,3,4,5,6,7,8,9,10,11,12,13,14,15,16,17,18],[])])
def bF.B12:List Nat:=[0,0,3,7,15,0,0,0,0,0,768,1984,4064,0,0,24576,8191,73727,262143,524287]
theorem bF.tab12:eR .any (fM Try.f31 12)=bF.T12:=by kernel_rfl
theorem bF.bits12:eJ bF.T12.2 bF.B12=true:=by kernel_rfl
theorem bF.calls (k:Nat) (A0:Option Addr) (c0:Nat) (l0:List Int) (a1:Int) (r1:Int) (r2:List Int) (r3:Int) (r4:Bool) (w:World) (Dc:Kd.C (Kd.int .u8) w A0 l0.length l0) (Dd:l0.length≤c0) (h:bF.f k l0 a1=some (r1,r2,r3,r4)):
 Calls Try.prog 31 #[.slice A0 l0.length c0,.int .i64 a1] w fun e w'=>∃De:Value,e=.returned (.tuple #[.int .i64 r1,De,.int .i64 r3,.bool r4])∧Kd.R (Kd.int .u8) 5 w' w.heap.size (fun _=>True) De r2∧Below w.heap.size w w':=by
 have As:=am Dc
 have Df:=am Dd
 clear Dc Dd
 have HB:=am (Below.refl w.heap.size w)
 have H:=h
 clear h
 unfold bF.f at H
 have Cy:=am H
 clear H
 go_enter Try.func31,Try.ntmps31
 go_upto_region 1 with (fail)
 go_cut [24] (fun E8 wc=>∃(kq:Nat) (Ar:Bool),E8=.bool Ar∧Aside0 (bF.j0 kq l0 a1 Ar=some (r1,r2,r3,r4))∧Aside0 (kq≤k)∧Aside0 (Below w.heap.size w wc))
 case first=>
  have H:=Cy.o
  clear Cy
  replace H:=il H
  rcases H with ⟨-,Ap,H⟩|⟨-,Ap,H⟩
  (first|rw [Ap]|(simp only [aI,aK];rw [Ap])|skip)
  rotate_left
  (first|rw [Ap]|(simp only [aI,aK];rw [Ap])|skip)
  replace H:=ip H
  rcases H with ⟨c5,H⟩|⟨c5,H⟩
  have Bz:decide ((l0.length:Int)≤a1)=true:=k8 c5
  clear c5
  rotate_left
  have Bz:decide ((l0.length:Int)≤a1)=false:=decide_eq_false c5
  clear c5
  rotate_right
  rotate_right
  all_goals
   have H':=am H
   clear H
   go_wp2
   first
   | go_meet
     case rel=>exact ⟨_,(decide ((wrap64 (a1+1))≥(l0.length:Int))),sq,H',⟨by first|omega|exact k7 _⟩,⟨bq HB.o⟩⟩
   | go_meet
     case rel=>exact ⟨_,(true),sq,H',⟨by first|omega|exact k7 _⟩,⟨bq HB.o⟩⟩
 case rest=>
  clear Cy
  try clear p2
  try clear c3
  try clear c4
  try clear Ap
  try clear c5
  try clear Bz
  obtain ⟨kq,Ar,rfl,HA,Dg,HB⟩:=hcut
  cases kq with
  |zero=>exact absurd HA.o (by simp [bF.j0])
  |succ Cx=>
   have H:=HA.o
   clear HA
   simp only [bF.j0] at H
   rcases Decidable.em (Ar=true) with c6|c6
   · subst c6
     replace H:(some (0,(([]:List Int)),0,false))=some (r1,r2,r3,r4):=by rw [if_pos rfl] at H;exact H
     generalize B9:((([]:List Int)):List Int)=E9 at H
     have Ba:=am B9.symm
     clear B9
     simp only [k4,k5] at H
     obtain ⟨rfl,rfl,rfl,rfl⟩:=H
     go_wp2_with (first|((with_reducible refine aJ (N:=25) rfl ?_);(try (refine a9 (by rfl) ?_;dsimp only));refine Kd.R_lit (Kd.int .u8) _ 5 ?hg (N:=25) ?hd (xs:=([]:List Int)) (inner:=[]) (ok:=fun _=>True) (okp:=fun _=>True) ?hr ?hp (fun _ hk=>hk) trivial (Below.refl _ _) (k7 _) (by simp) ?_;(case hd=>rfl);(case hg=>rfl);(case hr=>exact gs);(case hp=>exact (bD.none _ _));intro Ea w7 C6 hb hg_ hnew_;clear hg_ hnew_;(first|rw [← Ba.o] at C6|(simp only [Int.reduceToNat] at C6;rw [← Ba.o] at C6));have n_:=ak2 (rl C6 (bq HB.o)) (aC (bq HB.o) hb);clear HB;obtain ⟨C7,HB⟩:=n_;clear hb C6))
     refine bodyPost_ret (dC (rs:=[.tmp 4,.tmp 5,.tmp 6,.tmp 7]) rfl (by simp) (.tmp (.tmp (.tmp (.tmp .nil))))) rfl ?_
     exact ⟨_,rq,kqR C7.o,bq HB.o⟩
   replace c6:=Bool.eq_false_iff.mpr c6
   subst c6
   replace H:(if 0≤(wrap64 (a1+1)) then (if (wrap64 (a1+1))<(l0.length:Int) then (if (wrap64 (rd l0 (wrap64 (a1+1))))>127 then (if (wrap64 (rd l0 (wrap64 (a1+1))))=129 then (if (wrap64 (a1+2))≥(l0.length:Int) then (bF.j1 Cx l0 a1 (wrap64 (a1+2)) true) else (if 0≤(wrap64 (a1+2)) then (if (wrap64 (a1+2))<(l0.length:Int) then (bF.j1 Cx l0 a1 (wrap64 (a1+2)) (decide ((rd l0 (wrap64 (a1+2)))<128))) else (none)) else (none))) else (bF.j1 Cx l0 a1 (wrap64 (a1+2)) true)) else (if (wrap64 (rd l0 (wrap64 (a1+1))))>250 then (some (0,(([]:List Int)),0,false)) else (if (wrap64 (rd l0 (wrap64 (a1+1))))>(wrap64 ((l0.length:Int) - (wrap64 (a1+2)))) then (some (0,(([]:List Int)),0,false)) else (if 0≤a1 then (if a1<(l0.length:Int) then ((some (([]:List Int):List Int)).bind fun At=>(if 0≤(wrap64 (a1+2)) then (if (wrap64 (a1+2))≤(wrap64 ((wrap64 (a1+2))+(wrap64 (rd l0 (wrap64 (a1+1)))))) then (if (wrap64 ((wrap64 (a1+2))+(wrap64 (rd l0 (wrap64 (a1+1))))))≤(l0.length:Int) then (if At.length+((l0.take ((wrap64 ((wrap64 (a1+2))+(wrap64 (rd l0 (wrap64 (a1+1)))))):Int).toNat).drop ((wrap64 (a1+2)):Int).toNat).length<140737488355328 then (some (wrap64 (rd l0 a1),(At++((l0.take ((wrap64 ((wrap64 (a1+2))+(wrap64 (rd l0 (wrap64 (a1+1)))))):Int).toNat).drop ((wrap64 (a1+2)):Int).toNat)),wrap64 ((wrap64 (a1+2))+(wrap64 (rd l0 (wrap64 (a1+1))))),true)) else (none)) else (none)) else (none)) else (none))) else (none)) else (none))))) else (none)) else (none))=some (r1,r2,r3,r4):=by rw [if_neg (show ¬(false=true) by decide)] at H;exact H
   obtain ⟨Ad,Ai⟩:∃j_:Int,(wrap64 (a1+1))=j_:=⟨_,rfl⟩
   first|rw [Ai] at H|simp only [Ai] at H
   have Dh:(IntKind.i64.wrap (a1+1))=Ad:=(aI _).trans Ai
   replace H:=nl H
   obtain ⟨-,C8,H⟩:=H
   replace H:=nl H
   obtain ⟨-,C9,H⟩:=H
   replace H:=ig' H
   rcases H with ⟨-,Bb,H⟩|⟨-,Bb,H⟩
   · replace H:=ig H
     rcases H with ⟨-,Ca,H⟩|⟨-,Ca,H⟩
     · generalize Bc:((([]:List Int)):List Int)=Eb at H
       have Bd:=am Bc.symm
       clear Bc
       simp only [k4,k5] at H
       obtain ⟨rfl,rfl,rfl,rfl⟩:=H
       have A9:0≤((Ad):Int):=oda
       have Aa:(Ad)<(l0.length:Int):=oda
       obtain ⟨A6,Aq,A1⟩:=Kd.at_int As.o (Ad) A9 Aa
       cases Aq
       replace A1:=(HB.o.cell (kW w _ A1)).trans A1
       replace A9:=eq_true A9
       replace Aa:=eq_true Aa
       go_wp2_with (first|((with_reducible refine aJ (N:=69) rfl ?_);(try (refine a9 (by rfl) ?_;dsimp only));refine Kd.R_lit (Kd.int .u8) _ 5 ?hg (N:=69) ?hd (xs:=([]:List Int)) (inner:=[]) (ok:=fun _=>True) (okp:=fun _=>True) ?hr ?hp (fun _ hk=>hk) trivial (Below.refl _ _) (k7 _) (by simp) ?_;(case hd=>rfl);(case hg=>rfl);(case hr=>exact gs);(case hp=>exact (bD.none _ _));intro Ec Ev Au hb hg_ hnew_;clear hg_ hnew_;(first|rw [← Bd.o] at Au|(simp only [Int.reduceToNat] at Au;rw [← Bd.o] at Au));have n_:=ak2 (rl Au (bq HB.o)) (aC (bq HB.o) hb);clear HB;obtain ⟨Cb,HB⟩:=n_;clear hb Au))
       refine bodyPost_ret (dC (rs:=[.tmp 4,.tmp 5,.tmp 6,.tmp 7]) rfl (by simp) (.tmp (.tmp (.tmp (.tmp .nil))))) rfl ?_
       exact ⟨_,by first|rfl|(simp [bI,bJ]<;>rfl)|(simp only [← Ai];first|rfl|(simp [bI,bJ]<;>rfl))|(simp [*,bI,bJ]<;>rfl),kqR Cb.o,bq HB.o⟩
     replace H:=ig H
     rcases H with ⟨-,Be,H⟩|⟨-,Be,H⟩
     · generalize Bf:((([]:List Int)):List Int)=Ed at H
       have Bg:=am Bf.symm
       clear Bf
       simp only [k4,k5] at H
       obtain ⟨rfl,rfl,rfl,rfl⟩:=H
       have A9:0≤((Ad):Int):=oda
       have Aa:(Ad)<(l0.length:Int):=oda
       obtain ⟨A6,Aq,A1⟩:=Kd.at_int As.o (Ad) A9 Aa
       cases Aq
       replace A1:=(HB.o.cell (kW w _ A1)).trans A1
       replace A9:=eq_true A9
       replace Aa:=eq_true Aa
       go_wp2_with (first|((with_reducible refine aJ (N:=69) rfl ?_);(try (refine a9 (by rfl) ?_;dsimp only));refine Kd.R_lit (Kd.int .u8) _ 5 ?hg (N:=69) ?hd (xs:=([]:List Int)) (inner:=[]) (ok:=fun _=>True) (okp:=fun _=>True) ?hr ?hp (fun _ hk=>hk) trivial (Below.refl _ _) (k7 _) (by simp) ?_;(case hd=>rfl);(case hg=>rfl);(case hr=>exact gs);(case hp=>exact (bD.none _ _));intro Ee Ew Av hb hg_ hnew_;clear hg_ hnew_;(first|rw [← Bg.o] at Av|(simp only [Int.reduceToNat] at Av;rw [← Bg.o] at Av));have n_:=ak2 (rl Av (bq HB.o)) (aC (bq HB.o) hb);clear HB;obtain ⟨Cc,HB⟩:=n_;clear hb Av))
       refine bodyPost_ret (dC (rs:=[.tmp 4,.tmp 5,.tmp 6,.tmp 7]) rfl (by simp) (.tmp (.tmp (.tmp (.tmp .nil))))) rfl ?_
       exact ⟨_,by first|rfl|(simp [bI,bJ]<;>rfl)|(simp only [← Ai];first|rfl|(simp [bI,bJ]<;>rfl))|(simp [*,bI,bJ]<;>rfl),kqR Cc.o,bq HB.o⟩
     replace H:=nl H
     obtain ⟨-,Di,H⟩:=H
     replace H:=nl H
     obtain ⟨-,Dj,H⟩:=H
     replace H:=bs H
     obtain ⟨At,Bh,H⟩:=H
     obtain ⟨A4,Am⟩:∃j_:Int,(wrap64 (a1+2))=j_:=⟨_,rfl⟩
     first|rw [Am] at H|simp only [Am] at H
     (try rw [Am] at Be)
     have Cz:(IntKind.i64.wrap (a1+2))=A4:=(aI _).trans Am
     replace H:=nq H
     obtain ⟨D0,H⟩:=H
     have Dk:=eq_true D0
     have Dl:decide (0≤(A4))=true:=k8 D0
     clear D0
     replace H:=nq H
     obtain ⟨Dm,H⟩:=H
     have Dn:=eq_true Dm
     have Do:decide ((A4)≤(wrap64 ((A4)+(wrap64 (rd l0 (Ad))))))=true:=k8 Dm
     replace H:=nq H
     obtain ⟨Dp,H⟩:=H
     have Dq:=eq_true Dp
     have Dr:decide ((wrap64 ((A4)+(wrap64 (rd l0 (Ad)))))≤(l0.length:Int))=true:=k8 Dp
     replace H:=nq H
     obtain ⟨Ds,H⟩:=H
     have Cd:=am Ds
     clear Ds
     generalize Bi:((At++((l0.take ((wrap64 ((A4)+(wrap64 (rd l0 (Ad))))):Int).toNat).drop ((A4):Int).toNat)):List Int)=Ef at H
     have Ce:=am Bi.symm
     clear Bi
     simp only [k4,k5] at H
     obtain ⟨rfl,rfl,rfl,rfl⟩:=H
     have A9:0≤((Ad):Int):=oda
     have Aa:(Ad)<(l0.length:Int):=oda
     obtain ⟨A6,Aq,A1⟩:=Kd.at_int As.o (Ad) A9 Aa
     cases Aq
     replace A1:=(HB.o.cell (kW w _ A1)).trans A1
     replace A9:=eq_true A9
     replace Aa:=eq_true Aa
     try go_wp2
     replace HB:=am (bB HB.o)
     have C0:0≤(a1:Int):=oda
     have C1:a1<(l0.length:Int):=oda
     obtain ⟨Cf,D1,Ab⟩:=Kd.at_int As.o a1 C0 C1
     have A7:=Ab
     obtain rfl:A6=Cf:=(by injection D1)
     replace Ab:=(HB.o.cell (kW w _ Ab)).trans Ab
     replace C0:=eq_true C0
     replace C1:=eq_true C1
     obtain ⟨Eg,Bj,_,Bk,_⟩:=info_parts eH
     obtain ⟨Ex,D2,Cg,Ch⟩:=fO (P:=Try.prog) (Value.int .u8) 0 22 5 .i64 .i64 Try.underlying22 Bj Bk (some A6) c0 l0 (A4) (wrap64 ((A4)+(wrap64 (rd l0 (Ad))))) (oda) (by first|omega|exact oda) (oda) Df.o
     have Aw:=am (Kd.C_of_reads (h1:=fun _=>rfl) (Cg _ (Kd.reads_of_C As.o)))
     have Dt:=am Ch
     clear Cg Ch Bj Bk
     refine cW (n:=20) (S:=fun w'=>w'.cell? (A6.add (a1).toNat)=some (.int .u8 (rd l0 a1))) (ds:=[]) #[F,F,F,F,F,F,F,F,F,F,F,F,F,F,F,F,F,F,F,F] (by kernel_rfl) rfl rfl (((HB.o.cell (kW w _ A7)).trans A7)) (fun hHeld=>?_);refine bW bF.tab12 bF.bits12 (fun HT_ HW_=>?_)
     generalize wc.drew=Ey at HB Aw Ab hHeld ⊢
     refine pv HT_ 0 (some 70) #[T,F,F,F,F,F,F,F,F,F,F,F,F,F,F,F,F,F,F,F] ?_
     refine pv HT_ 1 (some 71) #[T,T,F,F,F,F,F,F,F,F,F,F,F,F,F,F,F,F,F,F] ?_
     refine pv HT_ 2 (some 72) #[T,T,T,F,F,F,F,F,F,F,F,F,F,F,F,F,F,F,F,F] ?_
     refine pv HT_ 6 (some 76) #[T,T,T,F,F,F,T,F,F,F,F,F,F,F,F,F,F,F,F,F] ?_
     refine pv HT_ 7 (some 77) #[T,T,T,F,F,F,T,T,F,F,F,F,F,F,F,F,F,F,F,F] ?_
     refine pv HT_ 8 (some 78) #[T,T,T,F,F,F,T,T,T,F,F,F,F,F,F,F,F,F,F,F] ?_
     refine pv HT_ 9 (some 79) #[T,T,T,F,F,F,T,T,T,T,F,F,F,F,F,F,F,F,F,F] ?_
     refine pv HT_ 10 (some 80) #[T,T,T,F,F,F,T,T,T,T,T,F,F,F,F,F,F,F,F,F] ?_
     refine pv HT_ 11 (some 81) #[T,T,T,F,F,F,T,T,T,T,T,T,F,F,F,F,F,F,F,F] ?_
     refine pv HT_ 13 (some 83) #[T,T,T,F,F,F,T,T,T,T,T,T,F,T,F,F,F,F,F,F] ?_
     refine pv HT_ 14 (some 84) #[T,T,T,F,F,F,T,T,T,T,T,T,F,T,T,F,F,F,F,F] ?_
     refine pv HT_ 15 (some 85) #[T,T,T,F,F,F,T,T,T,T,T,T,F,T,T,T,F,F,F,F] ?_
     refine iZ (i:=3) (N:=some 73) (v:=?_) (a':=?_) #[T,T,T,T,F,F,T,T,T,T,T,T,F,T,T,T,F,F,F,F] rfl rfl (aZ HT_.o HW_.o (by kernel_rfl)) (fun _ _ _ h=>h) (Or.inl ⟨by rfl,?_⟩) hHeld ?_ ?_
     rotate_left
     · intro w' s0
       go_simp
       with_reducible rfl
     rotate_left
     · simp only [Act.put,kX,kY,kZ,aI,aK]
       rfl
     refine pv HT_ 4 (some 74) #[T,T,T,T,T,F,T,T,T,T,T,T,F,T,T,T,F,F,F,F] ?_
     refine dM (i:=5) (N:=some 75) #[T,T,T,T,T,T,T,T,T,T,T,T,F,T,T,T,F,F,F,F] rfl rfl (bS HT_.o (by kernel_rfl)) (by decide) (fun K hK=>?_)
     refine Kd.R_lit_step (Kd.int .u8) _ 5 ?hg (N:=75) ?hd (xs:=([]:List Int)) (inner:=[]) (ok:=fun _=>True) (okp:=fun _=>True) ?hr ?hp (fun _ hk=>hk) trivial (Below.refl _ _) (k7 _) (by simp) ?_;(case hd=>rfl);(case hg=>rfl);(case hr=>exact gs);(case hp=>exact (bD.none _ _))
     intro D3 Ez Ax hb hg_ hnew_
     clear hg_ hnew_
     (first|rw [← Bh.o] at Ax|(simp only [Int.reduceToNat] at Ax;rw [← Bh.o] at Ax))
     have n_:=ak2 (rl Ax (bq HB.o)) (aC (bq HB.o) hb)
     clear HB
     obtain ⟨Bl,HB⟩:=n_
     clear hb Ax
     refine hK.out _ _ (((HB.o.cell (kW w _ A7)).trans A7)) (fun hHeld=>?_)
     clear hK K
     refine bZ (a':=?_) ?_ ?_
     rotate_left
     · show Act.put _ (some 75) _=_
       simp only [Act.put,kX,kY,kZ,aI,aK]
       rfl
     refine dM (i:=12) (N:=some 82) #[T,T,T,T,T,T,T,T,T,T,T,T,T,T,T,T,F,F,F,F] rfl rfl (bS HT_.o (by kernel_rfl)) (by decide) (fun K hK=>?_)
     refine Kd.R_append_rows_step (Kd.int .u8) (w0:=w) w.heap.size (by rfl) (.tmp 75) (.tmp 81) 22 5 (.int .u8 0) 1 rfl Try.underlying22 eH rfl (by decide) (by omega) D3 At ((l0.take ((wrap64 ((A4)+(wrap64 (rd l0 (Ad))))):Int).toNat).drop ((A4):Int).toNat) _ _ _ (fun _=>True) (fun _=>False) rfl rfl ?aO ?aR (fun _ _ h=>h) (fun _ h=>h.elim) ?aF ?aB ?aS ?aL ?_
     (case aR=>first|(rw [← show ((l0.take ((wrap64 ((A4)+(wrap64 (rd l0 (Ad))))):Int).toNat).drop ((A4):Int).toNat).length=((wrap64 ((A4)+(wrap64 (rd l0 (Ad))))).toNat - (A4).toNat) from (by rw [List.length_drop,List.length_take];have h_:((wrap64 ((A4)+(wrap64 (rd l0 (Ad))))):Int)≤(l0.length:Int):=oda;omega)];exact cq (Kd.C_below Aw.o HB.o))|(exact cq (Kd.C_below Aw.o HB.o)))
     (case aB=>exact (bq HB.o))
     (case aF=>exact (fun _ _=>trivial))
     (case aO=>exact (kqR Bl.o))
     (case aS=>exact (aH (bq HB.o)))
     (case aL=>have:=Cd.o;have hlx_:=(show ((l0.take ((wrap64 ((A4)+(wrap64 (rd l0 (Ad))))):Int).toNat).drop ((A4):Int).toNat).length=((wrap64 ((A4)+(wrap64 (rd l0 (Ad))))).toNat - (A4).toNat) from (by rw [List.length_drop,List.length_take];have h_:((wrap64 ((A4)+(wrap64 (rd l0 (Ad))))):Int)≤(l0.length:Int):=oda;omega));omega)
     intro Eh G0 ho hb hg hat
     rw [← Ce.o] at ho
     have n_:=ak2 hb ho
     clear HB Bl
     obtain ⟨HB,Ci⟩:=n_
     clear ho hb hg hat
     refine hK.out _ _ (((HB.o.cell (kW w _ A7)).trans A7)) (fun hHeld=>?_)
     clear hK K
     refine bZ (a':=?_) ?_ ?_
     rotate_left
     · show Act.put _ (some 82) _=_
       simp only [Act.put,kX,kY,kZ,aI,aK]
       rfl
     refine pv HT_ 16 (some 4) #[T,T,T,T,T,T,T,T,T,T,T,T,T,T,T,T,T,F,F,F] ?_
     refine pv HT_ 17 (some 5) #[T,T,T,T,T,T,T,T,T,T,T,T,T,T,T,T,T,T,F,F] ?_
     refine pv HT_ 18 (some 6) #[T,T,T,T,T,T,T,T,T,T,T,T,T,T,T,T,T,T,T,F] ?_
     refine pv HT_ 19 (some 7) #[T,T,T,T,T,T,T,T,T,T,T,T,T,T,T,T,T,T,T,T] ?_
     refine d5 (cL HT_.o (by kernel_rfl)) ?_
     try go_wp2
     refine bodyPost_ret (dC (rs:=[.tmp 4,.tmp 5,.tmp 6,.tmp 7]) rfl (by simp) (.tmp (.tmp (.tmp (.tmp .nil))))) rfl ?_
     exact ⟨_,by first|rfl|(simp [bI,bJ]<;>rfl)|(simp only [← Ai,← Am];first|rfl|(simp [bI,bJ]<;>rfl))|(simp [*,bI,bJ]<;>rfl),kqR Ci.o,bq HB.o⟩
   have C2:=am H
   clear H
   have A9:0≤((Ad):Int):=oda
   have Aa:(Ad)<(l0.length:Int):=oda
   obtain ⟨A6,Aq,A1⟩:=Kd.at_int As.o (Ad) A9 Aa
   cases Aq
   replace A1:=(HB.o.cell (kW w _ A1)).trans A1
   replace A9:=eq_true A9
   replace Aa:=eq_true Aa
   go_upto_region 6 with (fail)
   go_cut [50] (fun Ei wc=>∃(kq:Nat) (Al:Bool),Ei=.bool Al∧Aside0 (bF.j1 kq l0 a1 (wrap64 (a1+2)) Al=some (r1,r2,r3,r4))∧Aside0 (kq≤Cx)∧Aside0 (Below w.heap.size w wc))
   case first=>
    have H:=C2.o
    clear C2
    replace H:=iq' H
    rcases H with ⟨Ej,Aj,Bm,H⟩|⟨-,Aj,Bm,H⟩
    (first|rw [Aj]|(simp only [aI,aK];rw [Aj])|skip)
    rotate_left
    (first|rw [Aj]|(simp only [aI,aK];rw [Aj])|skip)
    replace H:=ip H
    rcases H with ⟨C5,H⟩|⟨C5,H⟩
    have Ay:decide ((l0.length:Int)≤(wrap64 (a1+2)))=true:=k8 C5
    clear C5
    rotate_left
    · have Ay:decide ((l0.length:Int)≤(wrap64 (a1+2)))=false:=decide_eq_false C5
      clear C5
      obtain ⟨Az,Af⟩:∃j_:Int,(wrap64 (a1+2))=j_:=⟨_,rfl⟩
      first|rw [Af] at H|simp only [Af] at H
      (try rw [Af] at Ay)
      have D4:(IntKind.i64.wrap (a1+2))=Az:=(aI _).trans Af
      replace H:=nl H
      obtain ⟨-,Cj,H⟩:=H
      replace H:=nl H
      obtain ⟨-,Ck,H⟩:=H
      have H':=am H
      clear H
      have B7:0≤((Az):Int):=oda
      have B8:(Az)<(l0.length:Int):=oda
      obtain ⟨Cl,D5,Ae⟩:=Kd.at_int As.o (Az) B7 B8
      obtain rfl:A6=Cl:=(by injection D5)
      replace Ae:=(HB.o.cell (kW w _ Ae)).trans Ae
      replace B7:=eq_true B7
      replace B8:=eq_true B8
      go_wp2
      (try simp only [← Af])
      go_meet
      case rel=>exact ⟨_,(decide ((rd l0 (Az))<128)),(by first|rfl|(simp;done)|(simp only [← Af]<;>(first|rfl|simp))|(simp [*];done)),(by first|exact H'|(rw [Af];exact H')),⟨by have:=Dg.o;first|omega|exact k7 _⟩,⟨bq HB.o⟩⟩
    rotate_right
    rotate_right
    all_goals
     have H':=am H
     clear H
     go_wp2
     go_meet
     case rel=>exact ⟨_,(true),sq,H',⟨by have:=Dg.o;first|omega|exact k7 _⟩,⟨bq HB.o⟩⟩
   case rest=>
    clear C2
    try clear c1
    try clear p2
    try clear c3
    try clear c4
    try clear Ap
    try clear c5
    try clear Bz
    try clear c6
    try clear p6
    try clear p8
    try clear q8
    try clear G1
    try clear G2
    try clear C8
    try clear G3
    try clear C9
    try clear G4
    try clear Bb
    try clear Ej
    try clear Aj
    try clear Bm
    try clear C5
    try clear Ay
    try clear G5
    try clear Cj
    try clear G6
    try clear Ck
    try clear A1
    try clear Ae
    try clear p2
    try clear A9
    try clear B7
    try clear Aa
    try clear B8
    obtain ⟨kq,Al,rfl,HA,Ek,HB⟩:=hcut
    cases kq with
    |zero=>exact absurd HA.o (by simp [bF.j1])
    |succ El=>
     have H:=HA.o
     clear HA
     simp only [bF.j1] at H
     rcases Decidable.em (Al=true) with Cm|Cm
     · subst Cm
       replace H:(some (0,(([]:List Int)),0,false))=some (r1,r2,r3,r4):=by rw [if_pos rfl] at H;exact H
       generalize Bn:((([]:List Int)):List Int)=Em at H
       have Bo:=am Bn.symm
       clear Bn
       simp only [k4,k5] at H
       obtain ⟨rfl,rfl,rfl,rfl⟩:=H
       go_wp2_with (first|((with_reducible refine aJ (N:=51) rfl ?_);(try (refine a9 (by rfl) ?_;dsimp only));refine Kd.R_lit (Kd.int .u8) _ 5 ?hg (N:=51) ?hd (xs:=([]:List Int)) (inner:=[]) (ok:=fun _=>True) (okp:=fun _=>True) ?hr ?hp (fun _ hk=>hk) trivial (Below.refl _ _) (k7 _) (by simp) ?_;(case hd=>rfl);(case hg=>rfl);(case hr=>exact gs);(case hp=>exact (bD.none _ _));intro En G7 B0 hb hg_ hnew_;clear hg_ hnew_;(first|rw [← Bo.o] at B0|(simp only [Int.reduceToNat] at B0;rw [← Bo.o] at B0));have n_:=ak2 (rl B0 (bq HB.o)) (aC (bq HB.o) hb);clear HB;obtain ⟨Cn,HB⟩:=n_;clear hb B0))
       refine bodyPost_ret (dC (rs:=[.tmp 4,.tmp 5,.tmp 6,.tmp 7]) rfl (by simp) (.tmp (.tmp (.tmp (.tmp .nil))))) rfl ?_
       exact ⟨_,by first|rfl|(simp [bI,bJ]<;>rfl)|(simp only [← Ai];first|rfl|(simp [bI,bJ]<;>rfl))|(simp [*,bI,bJ]<;>rfl),kqR Cn.o,bq HB.o⟩
     replace Cm:=Bool.eq_false_iff.mpr Cm
     subst Cm
     replace H:(if 0≤(wrap64 (a1+2)) then (if (wrap64 (a1+2))<(l0.length:Int) then (if (wrap64 (rd l0 (wrap64 (a1+2))))>250 then (some (0,(([]:List Int)),0,false)) else (if (wrap64 (rd l0 (wrap64 (a1+2))))>(wrap64 ((l0.length:Int) - (wrap64 ((wrap64 (a1+2))+1)))) then (some (0,(([]:List Int)),0,false)) else (if 0≤a1 then (if a1<(l0.length:Int) then ((some (([]:List Int):List Int)).bind fun B1=>(if 0≤(wrap64 ((wrap64 (a1+2))+1)) then (if (wrap64 ((wrap64 (a1+2))+1))≤(wrap64 ((wrap64 ((wrap64 (a1+2))+1))+(wrap64 (rd l0 (wrap64 (a1+2)))))) then (if (wrap64 ((wrap64 ((wrap64 (a1+2))+1))+(wrap64 (rd l0 (wrap64 (a1+2))))))≤(l0.length:Int) then (if B1.length+((l0.take ((wrap64 ((wrap64 ((wrap64 (a1+2))+1))+(wrap64 (rd l0 (wrap64 (a1+2)))))):Int).toNat).drop ((wrap64 ((wrap64 (a1+2))+1)):Int).toNat).length<140737488355328 then (some (wrap64 (rd l0 a1),(B1++((l0.take ((wrap64 ((wrap64 ((wrap64 (a1+2))+1))+(wrap64 (rd l0 (wrap64 (a1+2)))))):Int).toNat).drop ((wrap64 ((wrap64 (a1+2))+1)):Int).toNat)),wrap64 ((wrap64 ((wrap64 (a1+2))+1))+(wrap64 (rd l0 (wrap64 (a1+2))))),true)) else (none)) else (none)) else (none)) else (none))) else (none)) else (none)))) else (none)) else (none))=some (r1,r2,r3,r4):=by rw [if_neg (show ¬(false=true) by decide)] at H;exact H
     obtain ⟨A3,Ak⟩:∃j_:Int,(wrap64 (a1+2))=j_:=⟨_,rfl⟩
     first|rw [Ak] at H|simp only [Ak] at H
     have D6:(IntKind.i64.wrap (a1+2))=A3:=(aI _).trans Ak
     replace H:=nl H
     obtain ⟨-,Du,H⟩:=H
     replace H:=nl H
     obtain ⟨-,Dv,H⟩:=H
     replace H:=ig H
     rcases H with ⟨-,Co,H⟩|⟨-,Co,H⟩
     · generalize Bp:((([]:List Int)):List Int)=Eo at H
       have Bq:=am Bp.symm
       clear Bp
       simp only [k4,k5] at H
       obtain ⟨rfl,rfl,rfl,rfl⟩:=H
       have Ag:0≤((A3):Int):=oda
       have Ah:(A3)<(l0.length:Int):=oda
       obtain ⟨An,B2,A2⟩:=Kd.at_int As.o (A3) Ag Ah
       obtain rfl:A6=An:=(by injection B2)
       replace A2:=(HB.o.cell (kW w _ A2)).trans A2
       replace Ag:=eq_true Ag
       replace Ah:=eq_true Ah
       go_wp2_with (first|((with_reducible refine aJ (N:=69) rfl ?_);(try (refine a9 (by rfl) ?_;dsimp only));refine Kd.R_lit (Kd.int .u8) _ 5 ?hg (N:=69) ?hd (xs:=([]:List Int)) (inner:=[]) (ok:=fun _=>True) (okp:=fun _=>True) ?hr ?hp (fun _ hk=>hk) trivial (Below.refl _ _) (k7 _) (by simp) ?_;(case hd=>rfl);(case hg=>rfl);(case hr=>exact gs);(case hp=>exact (bD.none _ _));intro Ep G8 B3 hb hg_ hnew_;clear hg_ hnew_;(first|rw [← Bq.o] at B3|(simp only [Int.reduceToNat] at B3;rw [← Bq.o] at B3));have n_:=ak2 (rl B3 (bq HB.o)) (aC (bq HB.o) hb);clear HB;obtain ⟨Cp,HB⟩:=n_;clear hb B3))
       refine bodyPost_ret (dC (rs:=[.tmp 4,.tmp 5,.tmp 6,.tmp 7]) rfl (by simp) (.tmp (.tmp (.tmp (.tmp .nil))))) rfl ?_
       exact ⟨_,by first|rfl|(simp [bI,bJ]<;>rfl)|(simp only [← Ai,← Ak];first|rfl|(simp [bI,bJ]<;>rfl))|(simp [*,bI,bJ]<;>rfl),kqR Cp.o,bq HB.o⟩
     replace H:=ig H
     rcases H with ⟨-,Br,H⟩|⟨-,Br,H⟩
     · generalize Bs:((([]:List Int)):List Int)=Eq at H
       have Bt:=am Bs.symm
       clear Bs
       simp only [k4,k5] at H
       obtain ⟨rfl,rfl,rfl,rfl⟩:=H
       have Ag:0≤((A3):Int):=oda
       have Ah:(A3)<(l0.length:Int):=oda
       obtain ⟨An,B2,A2⟩:=Kd.at_int As.o (A3) Ag Ah
       obtain rfl:A6=An:=(by injection B2)
       replace A2:=(HB.o.cell (kW w _ A2)).trans A2
       replace Ag:=eq_true Ag
       replace Ah:=eq_true Ah
       go_wp2_with (first|((with_reducible refine aJ (N:=69) rfl ?_);(try (refine a9 (by rfl) ?_;dsimp only));refine Kd.R_lit (Kd.int .u8) _ 5 ?hg (N:=69) ?hd (xs:=([]:List Int)) (inner:=[]) (ok:=fun _=>True) (okp:=fun _=>True) ?hr ?hp (fun _ hk=>hk) trivial (Below.refl _ _) (k7 _) (by simp) ?_;(case hd=>rfl);(case hg=>rfl);(case hr=>exact gs);(case hp=>exact (bD.none _ _));intro Er G9 B4 hb hg_ hnew_;clear hg_ hnew_;(first|rw [← Bt.o] at B4|(simp only [Int.reduceToNat] at B4;rw [← Bt.o] at B4));have n_:=ak2 (rl B4 (bq HB.o)) (aC (bq HB.o) hb);clear HB;obtain ⟨Cq,HB⟩:=n_;clear hb B4))
       refine bodyPost_ret (dC (rs:=[.tmp 4,.tmp 5,.tmp 6,.tmp 7]) rfl (by simp) (.tmp (.tmp (.tmp (.tmp .nil))))) rfl ?_
       exact ⟨_,by first|rfl|(simp [bI,bJ]<;>rfl)|(simp only [← Ai,← Ak];first|rfl|(simp [bI,bJ]<;>rfl))|(simp [*,bI,bJ]<;>rfl),kqR Cq.o,bq HB.o⟩
     replace H:=nl H
     obtain ⟨-,Dw,H⟩:=H
     replace H:=nl H
     obtain ⟨-,Dx,H⟩:=H
     replace H:=bs H
     obtain ⟨B1,Bu,H⟩:=H
     obtain ⟨A5,Ao⟩:∃j_:Int,(wrap64 ((A3)+1))=j_:=⟨_,rfl⟩
     first|rw [Ao] at H|simp only [Ao] at H
     (try rw [Ao] at Br)
     have D7:(IntKind.i64.wrap ((A3)+1))=A5:=(aI _).trans Ao
     replace H:=nq H
     obtain ⟨D8,H⟩:=H
     have Dy:=eq_true D8
     have Dz:decide (0≤(A5))=true:=k8 D8
     clear D8
     replace H:=nq H
     obtain ⟨E0,H⟩:=H
     have E1:=eq_true E0
     have E2:decide ((A5)≤(wrap64 ((A5)+(wrap64 (rd l0 (A3))))))=true:=k8 E0
     replace H:=nq H
     obtain ⟨E3,H⟩:=H
     have E4:=eq_true E3
     have E5:decide ((wrap64 ((A5)+(wrap64 (rd l0 (A3)))))≤(l0.length:Int))=true:=k8 E3
     replace H:=nq H
     obtain ⟨E6,H⟩:=H
     have Cr:=am E6
     clear E6
     generalize Bv:((B1++((l0.take ((wrap64 ((A5)+(wrap64 (rd l0 (A3))))):Int).toNat).drop ((A5):Int).toNat)):List Int)=Es at H
     have Cs:=am Bv.symm
     clear Bv
     simp only [k4,k5] at H
     obtain ⟨rfl,rfl,rfl,rfl⟩:=H
     have Ag:0≤((A3):Int):=oda
     have Ah:(A3)<(l0.length:Int):=oda
     obtain ⟨An,B2,A2⟩:=Kd.at_int As.o (A3) Ag Ah
     obtain rfl:A6=An:=(by injection B2)
     replace A2:=(HB.o.cell (kW w _ A2)).trans A2
     replace Ag:=eq_true Ag
     replace Ah:=eq_true Ah
     try go_wp2
     replace HB:=am (bB HB.o)
     have C3:0≤(a1:Int):=oda
     have C4:a1<(l0.length:Int):=oda
     obtain ⟨Ct,D9,Ac⟩:=Kd.at_int As.o a1 C3 C4
     have A8:=Ac
     obtain rfl:A6=Ct:=(by injection D9)
     replace Ac:=(HB.o.cell (kW w _ Ac)).trans Ac
     replace C3:=eq_true C3
     replace C4:=eq_true C4
     obtain ⟨Et,Bw,_,Bx,_⟩:=info_parts eH
     obtain ⟨Ga,Da,Cu,Cv⟩:=fO (P:=Try.prog) (Value.int .u8) 0 22 5 .i64 .i64 Try.underlying22 Bw Bx (some A6) c0 l0 (A5) (wrap64 ((A5)+(wrap64 (rd l0 (A3))))) (oda) (by first|omega|exact oda) (oda) Df.o
     have B5:=am (Kd.C_of_reads (h1:=fun _=>rfl) (Cu _ (Kd.reads_of_C As.o)))
     have E7:=am Cv
     clear Cu Cv Bw Bx
     refine cW (n:=20) (S:=fun w'=>w'.cell? (A6.add (a1).toNat)=some (.int .u8 (rd l0 a1))) (ds:=[]) #[F,F,F,F,F,F,F,F,F,F,F,F,F,F,F,F,F,F,F,F] (by kernel_rfl) rfl rfl (((HB.o.cell (kW w _ A8)).trans A8)) (fun hHeld=>?_);refine bW bF.tab12 bF.bits12 (fun HT_ HW_=>?_)
     generalize wc.drew=Gb at HB B5 Ac hHeld ⊢
     refine pv HT_ 0 (some 70) #[T,F,F,F,F,F,F,F,F,F,F,F,F,F,F,F,F,F,F,F] ?_
     refine pv HT_ 1 (some 71) #[T,T,F,F,F,F,F,F,F,F,F,F,F,F,F,F,F,F,F,F] ?_
     refine pv HT_ 2 (some 72) #[T,T,T,F,F,F,F,F,F,F,F,F,F,F,F,F,F,F,F,F] ?_
     refine pv HT_ 6 (some 76) #[T,T,T,F,F,F,T,F,F,F,F,F,F,F,F,F,F,F,F,F] ?_
     refine pv HT_ 7 (some 77) #[T,T,T,F,F,F,T,T,F,F,F,F,F,F,F,F,F,F,F,F] ?_
     refine pv HT_ 8 (some 78) #[T,T,T,F,F,F,T,T,T,F,F,F,F,F,F,F,F,F,F,F] ?_
     refine pv HT_ 9 (some 79) #[T,T,T,F,F,F,T,T,T,T,F,F,F,F,F,F,F,F,F,F] ?_
     refine pv HT_ 10 (some 80) #[T,T,T,F,F,F,T,T,T,T,T,F,F,F,F,F,F,F,F,F] ?_
     refine pv HT_ 11 (some 81) #[T,T,T,F,F,F,T,T,T,T,T,T,F,F,F,F,F,F,F,F] ?_
     refine pv HT_ 13 (some 83) #[T,T,T,F,F,F,T,T,T,T,T,T,F,T,F,F,F,F,F,F] ?_
     refine pv HT_ 14 (some 84) #[T,T,T,F,F,F,T,T,T,T,T,T,F,T,T,F,F,F,F,F] ?_
     refine pv HT_ 15 (some 85) #[T,T,T,F,F,F,T,T,T,T,T,T,F,T,T,T,F,F,F,F] ?_
     refine iZ (i:=3) (N:=some 73) (v:=?_) (a':=?_) #[T,T,T,T,F,F,T,T,T,T,T,T,F,T,T,T,F,F,F,F] rfl rfl (aZ HT_.o HW_.o (by kernel_rfl)) (fun _ _ _ h=>h) (Or.inl ⟨by rfl,?_⟩) hHeld ?_ ?_
     rotate_left
     · intro w' s0
       go_simp
       with_reducible rfl
     rotate_left
     · simp only [Act.put,kX,kY,kZ,aI,aK]
       rfl
     refine pv HT_ 4 (some 74) #[T,T,T,T,T,F,T,T,T,T,T,T,F,T,T,T,F,F,F,F] ?_
     refine dM (i:=5) (N:=some 75) #[T,T,T,T,T,T,T,T,T,T,T,T,F,T,T,T,F,F,F,F] rfl rfl (bS HT_.o (by kernel_rfl)) (by decide) (fun K hK=>?_)
     refine Kd.R_lit_step (Kd.int .u8) _ 5 ?hg (N:=75) ?hd (xs:=([]:List Int)) (inner:=[]) (ok:=fun _=>True) (okp:=fun _=>True) ?hr ?hp (fun _ hk=>hk) trivial (Below.refl _ _) (k7 _) (by simp) ?_;(case hd=>rfl);(case hg=>rfl);(case hr=>exact gs);(case hp=>exact (bD.none _ _))
     intro Db Gc B6 hb hg_ hnew_
     clear hg_ hnew_
     (first|rw [← Bu.o] at B6|(simp only [Int.reduceToNat] at B6;rw [← Bu.o] at B6))
     have n_:=ak2 (rl B6 (bq HB.o)) (aC (bq HB.o) hb)
     clear HB
     obtain ⟨By,HB⟩:=n_
     clear hb B6
     refine hK.out _ _ (((HB.o.cell (kW w _ A8)).trans A8)) (fun hHeld=>?_)
     clear hK K
     refine bZ (a':=?_) ?_ ?_
     rotate_left
     · show Act.put _ (some 75) _=_
       simp only [Act.put,kX,kY,kZ,aI,aK]
       rfl
     refine dM (i:=12) (N:=some 82) #[T,T,T,T,T,T,T,T,T,T,T,T,T,T,T,T,F,F,F,F] rfl rfl (bS HT_.o (by kernel_rfl)) (by decide) (fun K hK=>?_)
     refine Kd.R_append_rows_step (Kd.int .u8) (w0:=w) w.heap.size (by rfl) (.tmp 75) (.tmp 81) 22 5 (.int .u8 0) 1 rfl Try.underlying22 eH rfl (by decide) (by omega) Db B1 ((l0.take ((wrap64 ((A5)+(wrap64 (rd l0 (A3))))):Int).toNat).drop ((A5):Int).toNat) _ _ _ (fun _=>True) (fun _=>False) rfl rfl ?aO ?aR (fun _ _ h=>h) (fun _ h=>h.elim) ?aF ?aB ?aS ?aL ?_
     (case aR=>first|(rw [← show ((l0.take ((wrap64 ((A5)+(wrap64 (rd l0 (A3))))):Int).toNat).drop ((A5):Int).toNat).length=((wrap64 ((A5)+(wrap64 (rd l0 (A3))))).toNat - (A5).toNat) from (by rw [List.length_drop,List.length_take];have h_:((wrap64 ((A5)+(wrap64 (rd l0 (A3))))):Int)≤(l0.length:Int):=oda;omega)];exact cq (Kd.C_below B5.o HB.o))|(exact cq (Kd.C_below B5.o HB.o)))
     (case aB=>exact (bq HB.o))
     (case aF=>exact (fun _ _=>trivial))
     (case aO=>exact (kqR By.o))
     (case aS=>exact (aH (bq HB.o)))
     (case aL=>have:=Cr.o;have hlx_:=(show ((l0.take ((wrap64 ((A5)+(wrap64 (rd l0 (A3))))):Int).toNat).drop ((A5):Int).toNat).length=((wrap64 ((A5)+(wrap64 (rd l0 (A3))))).toNat - (A5).toNat) from (by rw [List.length_drop,List.length_take];have h_:((wrap64 ((A5)+(wrap64 (rd l0 (A3))))):Int)≤(l0.length:Int):=oda;omega));omega)
     intro Eu Gd ho hb hg hat
     rw [← Cs.o] at ho
     have n_:=ak2 hb ho
     clear HB By
     obtain ⟨HB,Cw⟩:=n_
     clear ho hb hg hat
     refine hK.out _ _ (((HB.o.cell (kW w _ A8)).trans A8)) (fun hHeld=>?_)
     clear hK K
     refine bZ (a':=?_) ?_ ?_
     rotate_left
     · show Act.put _ (some 82) _=_
       simp only [Act.put,kX,kY,kZ,aI,aK]
       rfl
     refine pv HT_ 16 (some 4) #[T,T,T,T,T,T,T,T,T,T,T,T,T,T,T,T,T,F,F,F] ?_
     refine pv HT_ 17 (some 5) #[T,T,T,T,T,T,T,T,T,T,T,T,T,T,T,T,T,T,F,F] ?_
     refine pv HT_ 18 (some 6) #[T,T,T,T,T,T,T,T,T,T,T,T,T,T,T,T,T,T,T,F] ?_
     refine pv HT_ 19 (some 7) #[T,T,T,T,T,T,T,T,T,T,T,T,T,T,T,T,T,T,T,T] ?_
     refine d5 (cL HT_.o (by kernel_rfl)) ?_
     try go_wp2
     refine bodyPost_ret (dC (rs:=[.tmp 4,.tmp 5,.tmp 6,.tmp 7]) rfl (by simp) (.tmp (.tmp (.tmp (.tmp .nil))))) rfl ?_
     exact ⟨_,by first|rfl|(simp [bI,bJ]<;>rfl)|(simp only [← Ai,← Ak,← Ao];first|rfl|(simp [bI,bJ]<;>rfl))|(simp [*,bI,bJ]<;>rfl),kqR Cw.o,bq HB.o⟩
end Go.Proofs.Ytgppikopdpeigaa.XFnPdus
