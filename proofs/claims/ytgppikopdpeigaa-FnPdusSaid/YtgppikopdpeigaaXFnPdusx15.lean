/- The functions that one law reaches, as Lean functions, with their walks: printed by a program of this seat (wip/tools) out of the translation. -/
import Derived.Test.YtgppikopdpeigaaXFnPdusx0
import Derived.Test.YtgppikopdpeigaaXFnPdusx7
namespace Go.Proofs.Ytgppikopdpeigaa.XFnPdus
open Go.RowKit Go.Proofs.YtgppikopdpeigaaW.PrintWords Go.Proofs.YtgppikopdpeigaaW.PrintLast Go.Proofs.YtgppikopdpeigaaW.PrintMore
attribute [local go_sem] cO cP dH dI cC cD cQ cR
set_option maxHeartbeats 8000000
set_option maxRecDepth 100000
set_option linter.unusedVariables false
set_option linter.unusedSimpArgs false
mutual
def bE.j0:Nat→List Int→Int→Bool→Option (Int × List Int × Int × Bool)
 |0,_,_,_=>none
 |k+1,x0,x1,A2=>if A2=true then (some (0,([]:List Int),0,false)) else (if 0≤(wrap64 (x1+1)) then (if (wrap64 (x1+1))<(x0.length:Int) then (if (wrap64 (rd x0 (wrap64 (x1+1))))≥128 then (if (wrap64 (rd x0 (wrap64 (x1+1))))=129 then (if (wrap64 (x1+2))≥(x0.length:Int) then (bE.j1 k x0 x1 (wrap64 (x1+2)) true) else (if 0≤(wrap64 (x1+2)) then (if (wrap64 (x1+2))<(x0.length:Int) then (bE.j1 k x0 x1 (wrap64 (x1+2)) (decide ((rd x0 (wrap64 (x1+2)))<128))) else (none)) else (none))) else (bE.j1 k x0 x1 (wrap64 (x1+2)) true)) else (if (wrap64 (rd x0 (wrap64 (x1+1))))>250 then (some (0,([]:List Int),0,false)) else (if (wrap64 (rd x0 (wrap64 (x1+1))))>(wrap64 ((x0.length:Int) - (wrap64 (x1+2)))) then (some (0,([]:List Int),0,false)) else (if 0≤x1 then (if x1<(x0.length:Int) then (if 0≤(wrap64 (x1+2)) then (if (wrap64 (x1+2))≤(wrap64 ((wrap64 (x1+2))+(wrap64 (rd x0 (wrap64 (x1+1)))))) then (if (wrap64 ((wrap64 (x1+2))+(wrap64 (rd x0 (wrap64 (x1+1))))))≤(x0.length:Int) then ((cZ.f ((x0.take ((wrap64 ((wrap64 (x1+2))+(wrap64 (rd x0 (wrap64 (x1+1)))))):Int).toNat).drop ((wrap64 (x1+2)):Int).toNat)).bind fun A0=>(some (wrap64 (rd x0 x1),A0,wrap64 ((wrap64 (x1+2))+(wrap64 (rd x0 (wrap64 (x1+1))))),true))) else (none)) else (none)) else (none)) else (none)) else (none))))) else (none)) else (none))
def bE.j1:Nat→List Int→Int→Int→Bool→Option (Int × List Int × Int × Bool)
 |0,_,_,_,_=>none
 |k+1,x0,x1,x9,A3=>if A3=true then (some (0,([]:List Int),0,false)) else (if 0≤x9 then (if x9<(x0.length:Int) then (if (wrap64 (rd x0 x9))>250 then (some (0,([]:List Int),0,false)) else (if (wrap64 (rd x0 x9))>(wrap64 ((x0.length:Int) - (wrap64 (x9+1)))) then (some (0,([]:List Int),0,false)) else (if 0≤x1 then (if x1<(x0.length:Int) then (if 0≤(wrap64 (x9+1)) then (if (wrap64 (x9+1))≤(wrap64 ((wrap64 (x9+1))+(wrap64 (rd x0 x9)))) then (if (wrap64 ((wrap64 (x9+1))+(wrap64 (rd x0 x9))))≤(x0.length:Int) then ((cZ.f ((x0.take ((wrap64 ((wrap64 (x9+1))+(wrap64 (rd x0 x9)))):Int).toNat).drop ((wrap64 (x9+1)):Int).toNat)).bind fun A1=>(some (wrap64 (rd x0 x1),A1,wrap64 ((wrap64 (x9+1))+(wrap64 (rd x0 x9))),true))) else (none)) else (none)) else (none)) else (none)) else (none)))) else (none)) else (none))
end
def bE.f (k:Nat) (l0:List Int) (a1:Int):Option (Int × List Int × Int × Bool):=if a1<0 then (bE.j0 k l0 a1 true) else (bE.j0 k l0 a1 (decide (a1>(wrap64 ((l0.length:Int) - 2)))))
def bE.T11:Bool × List (List Nat × List Nat):=(true,[([],[]),([],[]),([0,1],[0,1]),([2],[2]),([3],[3]),([],[]),([],[]),([],[]),([],[]),([7,8],[7,8]),([5,6,9],[5,6,9]),([10],[10]),([],[]),([],[]),([12,13],[12,13]),([4,11,0,1,2,3,4],[4]),([11,15,0,1,2,3,4,5,6,7,8,9,10,11,15],[11]),([14,16,0,1,2,3,4,5,6,7,8,9,10,11,12,13,14,15,16],[14]),([17,0,1,2,3,4,5,6,7,8,9,10,11,12,13,14,15,16,17],[])])
def bE.B11:List Nat:=[0,0,3,7,15,0,0,0,0,384,992,2016,0,0,12288,4095,36863,131071,262143]
theorem bE.tab11:eR .any (fM Try.f26 11)=bE.T11:=by kernel_rfl
theorem bE.bits11:eJ bE.T11.2 bE.B11=true:=by kernel_rfl
theorem bE.calls (k:Nat) (A0:Option Addr) (c0:Nat) (l0:List Int) (a1:Int) (r1:Int) (r2:List Int) (r3:Int) (r4:Bool) (w:World) (Cc:Kd.C (Kd.int .u8) w A0 l0.length l0) (Cd:l0.length≤c0) (h:bE.f k l0 a1=some (r1,r2,r3,r4)):
 Calls Try.prog 26 #[.slice A0 l0.length c0,.int .i64 a1] w fun e w'=>∃Ce:Value,e=.returned (.tuple #[.int .i64 r1,Ce,.int .i64 r3,.bool r4])∧Kd.R (Kd.int .u8) 5 w' w.heap.size (fun _=>True) Ce r2∧Below w.heap.size w w':=by
 have At:=am Cc
 have Cf:=am Cd
 clear Cc Cd
 have HB:=am (Below.refl w.heap.size w)
 have H:=h
 clear h
 unfold bE.f at H
 have Bx:=am H
 clear H
 go_enter Try.func26,Try.ntmps26
 go_upto_region 1 with (fail)
 go_cut [18] (fun D4 wc=>∃(kq:Nat) (Ar:Bool),D4=.bool Ar∧Aside0 (bE.j0 kq l0 a1 Ar=some (r1,r2,r3,r4))∧Aside0 (kq≤k)∧Aside0 (Below w.heap.size w wc))
 case first=>
  have H:=Bx.o
  clear Bx
  replace H:=il H
  rcases H with ⟨-,Ap,H⟩|⟨-,Ap,H⟩
  · (first|rw [Ap]|(simp only [aI,aK];rw [Ap])|skip)
    have H':=am H
    clear H
    go_wp2
    go_meet
    case rel=>exact ⟨_,(true),sq,H',⟨by first|omega|exact k7 _⟩,⟨bq HB.o⟩⟩
  (first|rw [Ap]|(simp only [aI,aK];rw [Ap])|skip)
  have H':=am H
  clear H
  go_wp2
  go_meet
  case rel=>exact ⟨_,(decide (a1>(wrap64 ((l0.length:Int) - 2)))),sq,H',⟨by first|omega|exact k7 _⟩,⟨bq HB.o⟩⟩
 case rest=>
  clear Bx
  try clear c2
  try clear p2
  try clear c4
  try clear Ap
  obtain ⟨kq,Ar,rfl,HA,Cg,HB⟩:=hcut
  cases kq with
  |zero=>exact absurd HA.o (by simp [bE.j0])
  |succ Bw=>
   have H:=HA.o
   clear HA
   simp only [bE.j0] at H
   rcases Decidable.em (Ar=true) with c5|c5
   · subst c5
     replace H:(some (0,([]:List Int),0,false))=some (r1,r2,r3,r4):=by rw [if_pos rfl] at H;exact H
     simp only [k4,k5] at H
     obtain ⟨rfl,rfl,rfl,rfl⟩:=H
     go_wp2
     refine bodyPost_ret (dC (rs:=[.tmp 4,.tmp 5,.tmp 6,.tmp 7]) rfl (by simp) (.tmp (.tmp (.tmp (.tmp .nil))))) rfl ?_
     exact ⟨_,rq,rn,bq HB.o⟩
   replace c5:=Bool.eq_false_iff.mpr c5
   subst c5
   replace H:(if 0≤(wrap64 (a1+1)) then (if (wrap64 (a1+1))<(l0.length:Int) then (if (wrap64 (rd l0 (wrap64 (a1+1))))≥128 then (if (wrap64 (rd l0 (wrap64 (a1+1))))=129 then (if (wrap64 (a1+2))≥(l0.length:Int) then (bE.j1 Bw l0 a1 (wrap64 (a1+2)) true) else (if 0≤(wrap64 (a1+2)) then (if (wrap64 (a1+2))<(l0.length:Int) then (bE.j1 Bw l0 a1 (wrap64 (a1+2)) (decide ((rd l0 (wrap64 (a1+2)))<128))) else (none)) else (none))) else (bE.j1 Bw l0 a1 (wrap64 (a1+2)) true)) else (if (wrap64 (rd l0 (wrap64 (a1+1))))>250 then (some (0,([]:List Int),0,false)) else (if (wrap64 (rd l0 (wrap64 (a1+1))))>(wrap64 ((l0.length:Int) - (wrap64 (a1+2)))) then (some (0,([]:List Int),0,false)) else (if 0≤a1 then (if a1<(l0.length:Int) then (if 0≤(wrap64 (a1+2)) then (if (wrap64 (a1+2))≤(wrap64 ((wrap64 (a1+2))+(wrap64 (rd l0 (wrap64 (a1+1)))))) then (if (wrap64 ((wrap64 (a1+2))+(wrap64 (rd l0 (wrap64 (a1+1))))))≤(l0.length:Int) then ((cZ.f ((l0.take ((wrap64 ((wrap64 (a1+2))+(wrap64 (rd l0 (wrap64 (a1+1)))))):Int).toNat).drop ((wrap64 (a1+2)):Int).toNat)).bind fun Ae=>(some (wrap64 (rd l0 a1),Ae,wrap64 ((wrap64 (a1+2))+(wrap64 (rd l0 (wrap64 (a1+1))))),true))) else (none)) else (none)) else (none)) else (none)) else (none))))) else (none)) else (none))=some (r1,r2,r3,r4):=by rw [if_neg (show ¬(false=true) by decide)] at H;exact H
   obtain ⟨Af,Aj⟩:∃j_:Int,(wrap64 (a1+1))=j_:=⟨_,rfl⟩
   first|rw [Aj] at H|simp only [Aj] at H
   have Ch:(IntKind.i64.wrap (a1+1))=Af:=(aI _).trans Aj
   replace H:=nl H
   obtain ⟨-,By,H⟩:=H
   replace H:=nl H
   obtain ⟨-,Bz,H⟩:=H
   replace H:=ip' H
   rcases H with ⟨c9,H⟩|⟨c9,H⟩
   · have Be:decide (128≤(wrap64 (rd l0 (Af))))=false:=decide_eq_false c9
     clear c9
     replace H:=ig H
     rcases H with ⟨-,Bf,H⟩|⟨-,Bf,H⟩
     · simp only [k4,k5] at H
       obtain ⟨rfl,rfl,rfl,rfl⟩:=H
       have A7:0≤((Af):Int):=oda
       have A8:(Af)<(l0.length:Int):=oda
       obtain ⟨A3,Aq,A1⟩:=Kd.at_int At.o (Af) A7 A8
       cases Aq
       replace A1:=(HB.o.cell (kW w _ A1)).trans A1
       replace A7:=eq_true A7
       replace A8:=eq_true A8
       go_wp2
       refine bodyPost_ret (dC (rs:=[.tmp 4,.tmp 5,.tmp 6,.tmp 7]) rfl (by simp) (.tmp (.tmp (.tmp (.tmp .nil))))) rfl ?_
       exact ⟨_,by first|rfl|(simp [bI,bJ]<;>rfl)|(simp only [← Aj];first|rfl|(simp [bI,bJ]<;>rfl))|(simp [*,bI,bJ]<;>rfl),rn,bq HB.o⟩
     replace H:=ig H
     rcases H with ⟨-,Az,H⟩|⟨-,Az,H⟩
     · simp only [k4,k5] at H
       obtain ⟨rfl,rfl,rfl,rfl⟩:=H
       have A7:0≤((Af):Int):=oda
       have A8:(Af)<(l0.length:Int):=oda
       obtain ⟨A3,Aq,A1⟩:=Kd.at_int At.o (Af) A7 A8
       cases Aq
       replace A1:=(HB.o.cell (kW w _ A1)).trans A1
       replace A7:=eq_true A7
       replace A8:=eq_true A8
       go_wp2
       refine bodyPost_ret (dC (rs:=[.tmp 4,.tmp 5,.tmp 6,.tmp 7]) rfl (by simp) (.tmp (.tmp (.tmp (.tmp .nil))))) rfl ?_
       exact ⟨_,by first|rfl|(simp [bI,bJ]<;>rfl)|(simp only [← Aj];first|rfl|(simp [bI,bJ]<;>rfl))|(simp [*,bI,bJ]<;>rfl),rn,bq HB.o⟩
     replace H:=nl H
     obtain ⟨-,Ci,H⟩:=H
     replace H:=nl H
     obtain ⟨-,Cj,H⟩:=H
     obtain ⟨A5,Ak⟩:∃j_:Int,(wrap64 (a1+2))=j_:=⟨_,rfl⟩
     first|rw [Ak] at H|simp only [Ak] at H
     (try rw [Ak] at Az)
     have C0:(IntKind.i64.wrap (a1+2))=A5:=(aI _).trans Ak
     replace H:=nq H
     obtain ⟨C1,H⟩:=H
     have Ck:=eq_true C1
     have Cl:decide (0≤(A5))=true:=k8 C1
     clear C1
     replace H:=nq H
     obtain ⟨Cm,H⟩:=H
     have Cn:=eq_true Cm
     have Co:decide ((A5)≤(wrap64 ((A5)+(wrap64 (rd l0 (Af))))))=true:=k8 Cm
     replace H:=nq H
     obtain ⟨Cp,H⟩:=H
     have Cq:=eq_true Cp
     have Cr:decide ((wrap64 ((A5)+(wrap64 (rd l0 (Af)))))≤(l0.length:Int))=true:=k8 Cp
     replace H:=be H
     obtain ⟨Ae,C2,H⟩:=H
     simp only [k4,k5] at H
     obtain ⟨rfl,rfl,rfl,rfl⟩:=H
     have A7:0≤((Af):Int):=oda
     have A8:(Af)<(l0.length:Int):=oda
     obtain ⟨A3,Aq,A1⟩:=Kd.at_int At.o (Af) A7 A8
     cases Aq
     replace A1:=(HB.o.cell (kW w _ A1)).trans A1
     replace A7:=eq_true A7
     replace A8:=eq_true A8
     try go_wp2
     replace HB:=am (bB HB.o)
     have B8:0≤(a1:Int):=oda
     have B9:a1<(l0.length:Int):=oda
     obtain ⟨Bg,C3,A9⟩:=Kd.at_int At.o a1 B8 B9
     have Ab:=A9
     obtain rfl:A3=Bg:=(by injection C3)
     replace A9:=(HB.o.cell (kW w _ A9)).trans A9
     replace B8:=eq_true B8
     replace B9:=eq_true B9
     obtain ⟨D5,B0,_,B1,_⟩:=info_parts eH
     obtain ⟨D6,C4,Bh,Bi⟩:=fO (P:=Try.prog) (Value.int .u8) 0 22 5 .i64 .i64 Try.underlying22 B0 B1 (some A3) c0 l0 (A5) (wrap64 ((A5)+(wrap64 (rd l0 (Af))))) (oda) (by first|omega|exact oda) (oda) Cf.o
     have B2:=am (Kd.C_of_reads (h1:=fun _=>rfl) (Bh _ (Kd.reads_of_C At.o)))
     have Bj:=am Bi
     clear Bh Bi B0 B1
     refine cW (n:=19) (S:=fun w'=>w'.cell? (A3.add (a1).toNat)=some (.int .u8 (rd l0 a1))) (ds:=[]) #[F,F,F,F,F,F,F,F,F,F,F,F,F,F,F,F,F,F,F] (by kernel_rfl) rfl rfl (((HB.o.cell (kW w _ Ab)).trans Ab)) (fun hHeld=>?_);refine bW bE.tab11 bE.bits11 (fun HT_ HW_=>?_)
     generalize wc.drew=Dd at HB B2 A9 hHeld ⊢
     refine pv HT_ 0 (some 61) #[T,F,F,F,F,F,F,F,F,F,F,F,F,F,F,F,F,F,F] ?_
     refine pv HT_ 1 (some 62) #[T,T,F,F,F,F,F,F,F,F,F,F,F,F,F,F,F,F,F] ?_
     refine pv HT_ 2 (some 63) #[T,T,T,F,F,F,F,F,F,F,F,F,F,F,F,F,F,F,F] ?_
     refine pv HT_ 5 (some 66) #[T,T,T,F,F,T,F,F,F,F,F,F,F,F,F,F,F,F,F] ?_
     refine pv HT_ 6 (some 67) #[T,T,T,F,F,T,T,F,F,F,F,F,F,F,F,F,F,F,F] ?_
     refine pv HT_ 7 (some 68) #[T,T,T,F,F,T,T,T,F,F,F,F,F,F,F,F,F,F,F] ?_
     refine pv HT_ 8 (some 69) #[T,T,T,F,F,T,T,T,T,F,F,F,F,F,F,F,F,F,F] ?_
     refine pv HT_ 9 (some 70) #[T,T,T,F,F,T,T,T,T,T,F,F,F,F,F,F,F,F,F] ?_
     refine pv HT_ 10 (some 71) #[T,T,T,F,F,T,T,T,T,T,T,F,F,F,F,F,F,F,F] ?_
     refine pv HT_ 12 (some 73) #[T,T,T,F,F,T,T,T,T,T,T,F,T,F,F,F,F,F,F] ?_
     refine pv HT_ 13 (some 74) #[T,T,T,F,F,T,T,T,T,T,T,F,T,T,F,F,F,F,F] ?_
     refine pv HT_ 14 (some 75) #[T,T,T,F,F,T,T,T,T,T,T,F,T,T,T,F,F,F,F] ?_
     refine iZ (i:=3) (N:=some 64) (v:=?_) (a':=?_) #[T,T,T,T,F,T,T,T,T,T,T,F,T,T,T,F,F,F,F] rfl rfl (aZ HT_.o HW_.o (by kernel_rfl)) (fun _ _ _ h=>h) (Or.inl ⟨by rfl,?_⟩) hHeld ?_ ?_
     rotate_left
     · intro w' s0
       go_simp
       with_reducible rfl
     rotate_left
     · simp only [Act.put,kX,kY,kZ,aI,aK]
       rfl
     refine pv HT_ 4 (some 65) #[T,T,T,T,T,T,T,T,T,T,T,F,T,T,T,F,F,F,F] ?_
     refine dM (i:=11) (N:=some 72) #[T,T,T,T,T,T,T,T,T,T,T,T,T,T,T,F,F,F,F] rfl rfl (bS HT_.o (by kernel_rfl)) (by decide) (fun K hK=>?_)
     refine cU Try.func52 (by kernel_rfl) rfl #[.slice D6 ((l0.take ((wrap64 ((A5)+(wrap64 (rd l0 (Af))))):Int).toNat).drop ((A5):Int).toNat).length (c0 - (A5).toNat)] (by rfl) rfl rfl (by (try simp only [List.map_toArray,List.map_cons,List.map_nil]);first|done|(rw [show ((l0.take ((wrap64 ((A5)+(wrap64 (rd l0 (Af))))):Int).toNat).drop ((A5):Int).toNat).length=((wrap64 ((A5)+(wrap64 (rd l0 (Af))))).toNat - (A5).toNat) from (by rw [List.length_drop,List.length_take];have h_:((wrap64 ((A5)+(wrap64 (rd l0 (Af))))):Int)≤(l0.length:Int):=oda;omega)]<;>rfl)|(simp only [Ak,Aj];rfl)|rfl|(simp only [List.length_drop,List.length_take];rfl)) ?_
     with_reducible refine (cZ.calls _ _ ((l0.take ((wrap64 ((A5)+(wrap64 (rd l0 (Af))))):Int).toNat).drop ((A5):Int).toNat) Ae _ ?side1 ?side2 C2.o).mono ?_
     (case side1=>exact cq (Kd.C_below B2.o HB.o))
     (case side2=>exact Bj.o)
     rintro e De ⟨D7,rfl,Bk,hb⟩
     refine ⟨_,rfl,?_⟩
     have n_:=ak2 (rl Bk (bq HB.o)) (aC (bq HB.o) hb)
     clear HB
     obtain ⟨Bl,HB⟩:=n_
     (try clear hb Bk)
     refine hK.out _ _ (((HB.o.cell (kW w _ Ab)).trans Ab)) (fun hHeld=>?_)
     clear hK K
     refine bZ (a':=?_) ?_ ?_
     rotate_left
     · show Act.put _ (some 72) _=_
       simp only [Act.put,kX,kY,kZ,aI,aK]
       rfl
     refine pv HT_ 15 (some 4) #[T,T,T,T,T,T,T,T,T,T,T,T,T,T,T,T,F,F,F] ?_
     refine pv HT_ 16 (some 5) #[T,T,T,T,T,T,T,T,T,T,T,T,T,T,T,T,T,F,F] ?_
     refine pv HT_ 17 (some 6) #[T,T,T,T,T,T,T,T,T,T,T,T,T,T,T,T,T,T,F] ?_
     refine pv HT_ 18 (some 7) #[T,T,T,T,T,T,T,T,T,T,T,T,T,T,T,T,T,T,T] ?_
     refine d5 (cL HT_.o (by kernel_rfl)) ?_
     try go_wp2
     refine bodyPost_ret (dC (rs:=[.tmp 4,.tmp 5,.tmp 6,.tmp 7]) rfl (by simp) (.tmp (.tmp (.tmp (.tmp .nil))))) rfl ?_
     exact ⟨_,by first|rfl|(simp [bI,bJ]<;>rfl)|(simp only [← Aj,← Ak];first|rfl|(simp [bI,bJ]<;>rfl))|(simp [*,bI,bJ]<;>rfl),kqR Bl.o,bq HB.o⟩
   have Be:decide (128≤(wrap64 (rd l0 (Af))))=true:=k8 c9
   clear c9
   have Ba:=am H
   clear H
   have A7:0≤((Af):Int):=oda
   have A8:(Af)<(l0.length:Int):=oda
   obtain ⟨A3,Aq,A1⟩:=Kd.at_int At.o (Af) A7 A8
   cases Aq
   replace A1:=(HB.o.cell (kW w _ A1)).trans A1
   replace A7:=eq_true A7
   replace A8:=eq_true A8
   go_upto_region 5 with (fail)
   go_cut [43] (fun D8 wc=>∃(kq:Nat) (As:Bool),D8=.bool As∧Aside0 (bE.j1 kq l0 a1 (wrap64 (a1+2)) As=some (r1,r2,r3,r4))∧Aside0 (kq≤Bw)∧Aside0 (Below w.heap.size w wc))
   case first=>
    have H:=Ba.o
    clear Ba
    replace H:=iq' H
    rcases H with ⟨D9,Al,B3,H⟩|⟨-,Al,B3,H⟩
    (first|rw [Al]|(simp only [aI,aK];rw [Al])|skip)
    rotate_left
    (first|rw [Al]|(simp only [aI,aK];rw [Al])|skip)
    replace H:=ip H
    rcases H with ⟨Bd,H⟩|⟨Bd,H⟩
    have Au:decide ((l0.length:Int)≤(wrap64 (a1+2)))=true:=k8 Bd
    clear Bd
    rotate_left
    · have Au:decide ((l0.length:Int)≤(wrap64 (a1+2)))=false:=decide_eq_false Bd
      clear Bd
      obtain ⟨Av,Ag⟩:∃j_:Int,(wrap64 (a1+2))=j_:=⟨_,rfl⟩
      first|rw [Ag] at H|simp only [Ag] at H
      (try rw [Ag] at Au)
      have C5:(IntKind.i64.wrap (a1+2))=Av:=(aI _).trans Ag
      replace H:=nl H
      obtain ⟨-,Bm,H⟩:=H
      replace H:=nl H
      obtain ⟨-,Bn,H⟩:=H
      have H':=am H
      clear H
      have Ax:0≤((Av):Int):=oda
      have Ay:(Av)<(l0.length:Int):=oda
      obtain ⟨Bo,C6,Ac⟩:=Kd.at_int At.o (Av) Ax Ay
      obtain rfl:A3=Bo:=(by injection C6)
      replace Ac:=(HB.o.cell (kW w _ Ac)).trans Ac
      replace Ax:=eq_true Ax
      replace Ay:=eq_true Ay
      go_wp2
      (try simp only [← Ag])
      go_meet
      case rel=>exact ⟨_,(decide ((rd l0 (Av))<128)),(by first|rfl|(simp;done)|(simp only [← Ag]<;>(first|rfl|simp))|(simp [*];done)),(by first|exact H'|(rw [Ag];exact H')),⟨by have:=Cg.o;first|omega|exact k7 _⟩,⟨bq HB.o⟩⟩
    rotate_right
    rotate_right
    all_goals
     have H':=am H
     clear H
     go_wp2
     go_meet
     case rel=>exact ⟨_,(true),sq,H',⟨by have:=Cg.o;first|omega|exact k7 _⟩,⟨bq HB.o⟩⟩
   case rest=>
    clear Ba
    try clear c1
    try clear c2
    try clear p2
    try clear c4
    try clear Ap
    try clear c5
    try clear p6
    try clear c7
    try clear By
    try clear p7
    try clear q7
    try clear Df
    try clear c8
    try clear Bz
    try clear c9
    try clear Be
    try clear D9
    try clear Al
    try clear B3
    try clear Bd
    try clear Au
    try clear Dg
    try clear Bm
    try clear Dh
    try clear Bn
    try clear A1
    try clear Ac
    try clear p2
    try clear A7
    try clear Ax
    try clear A8
    try clear Ay
    obtain ⟨kq,As,rfl,HA,Di,HB⟩:=hcut
    cases kq with
    |zero=>exact absurd HA.o (by simp [bE.j1])
    |succ Dj=>
     have H:=HA.o
     clear HA
     simp only [bE.j1] at H
     rcases Decidable.em (As=true) with Bp|Bp
     · subst Bp
       replace H:(some (0,([]:List Int),0,false))=some (r1,r2,r3,r4):=by rw [if_pos rfl] at H;exact H
       simp only [k4,k5] at H
       obtain ⟨rfl,rfl,rfl,rfl⟩:=H
       go_wp2
       refine bodyPost_ret (dC (rs:=[.tmp 4,.tmp 5,.tmp 6,.tmp 7]) rfl (by simp) (.tmp (.tmp (.tmp (.tmp .nil))))) rfl ?_
       exact ⟨_,by first|rfl|(simp [bI,bJ]<;>rfl)|(simp only [← Aj];first|rfl|(simp [bI,bJ]<;>rfl))|(simp [*,bI,bJ]<;>rfl),rn,bq HB.o⟩
     replace Bp:=Bool.eq_false_iff.mpr Bp
     subst Bp
     replace H:(if 0≤(wrap64 (a1+2)) then (if (wrap64 (a1+2))<(l0.length:Int) then (if (wrap64 (rd l0 (wrap64 (a1+2))))>250 then (some (0,([]:List Int),0,false)) else (if (wrap64 (rd l0 (wrap64 (a1+2))))>(wrap64 ((l0.length:Int) - (wrap64 ((wrap64 (a1+2))+1)))) then (some (0,([]:List Int),0,false)) else (if 0≤a1 then (if a1<(l0.length:Int) then (if 0≤(wrap64 ((wrap64 (a1+2))+1)) then (if (wrap64 ((wrap64 (a1+2))+1))≤(wrap64 ((wrap64 ((wrap64 (a1+2))+1))+(wrap64 (rd l0 (wrap64 (a1+2)))))) then (if (wrap64 ((wrap64 ((wrap64 (a1+2))+1))+(wrap64 (rd l0 (wrap64 (a1+2))))))≤(l0.length:Int) then ((cZ.f ((l0.take ((wrap64 ((wrap64 ((wrap64 (a1+2))+1))+(wrap64 (rd l0 (wrap64 (a1+2)))))):Int).toNat).drop ((wrap64 ((wrap64 (a1+2))+1)):Int).toNat)).bind fun Ae=>(some (wrap64 (rd l0 a1),Ae,wrap64 ((wrap64 ((wrap64 (a1+2))+1))+(wrap64 (rd l0 (wrap64 (a1+2))))),true))) else (none)) else (none)) else (none)) else (none)) else (none)))) else (none)) else (none))=some (r1,r2,r3,r4):=by rw [if_neg (show ¬(false=true) by decide)] at H;exact H
     obtain ⟨A4,Am⟩:∃j_:Int,(wrap64 (a1+2))=j_:=⟨_,rfl⟩
     first|rw [Am] at H|simp only [Am] at H
     have C7:(IntKind.i64.wrap (a1+2))=A4:=(aI _).trans Am
     replace H:=nl H
     obtain ⟨-,Cs,H⟩:=H
     replace H:=nl H
     obtain ⟨-,Ct,H⟩:=H
     replace H:=ig H
     rcases H with ⟨-,Bq,H⟩|⟨-,Bq,H⟩
     simp only [k4,k5] at H
     obtain ⟨rfl,rfl,rfl,rfl⟩:=H
     have Ah:0≤((A4):Int):=oda
     have Ai:(A4)<(l0.length:Int):=oda
     obtain ⟨Ao,Aw,A2⟩:=Kd.at_int At.o (A4) Ah Ai
     obtain rfl:A3=Ao:=(by injection Aw)
     replace A2:=(HB.o.cell (kW w _ A2)).trans A2
     replace Ah:=eq_true Ah
     replace Ai:=eq_true Ai
     rotate_left
     replace H:=ig H
     rcases H with ⟨-,B4,H⟩|⟨-,B4,H⟩
     simp only [k4,k5] at H
     obtain ⟨rfl,rfl,rfl,rfl⟩:=H
     have Ah:0≤((A4):Int):=oda
     have Ai:(A4)<(l0.length:Int):=oda
     obtain ⟨Ao,Aw,A2⟩:=Kd.at_int At.o (A4) Ah Ai
     obtain rfl:A3=Ao:=(by injection Aw)
     replace A2:=(HB.o.cell (kW w _ A2)).trans A2
     replace Ah:=eq_true Ah
     replace Ai:=eq_true Ai
     rotate_left
     · replace H:=nl H
       obtain ⟨-,Cu,H⟩:=H
       replace H:=nl H
       obtain ⟨-,Cv,H⟩:=H
       obtain ⟨A6,An⟩:∃j_:Int,(wrap64 ((A4)+1))=j_:=⟨_,rfl⟩
       first|rw [An] at H|simp only [An] at H
       (try rw [An] at B4)
       have C8:(IntKind.i64.wrap ((A4)+1))=A6:=(aI _).trans An
       replace H:=nq H
       obtain ⟨C9,H⟩:=H
       have Cw:=eq_true C9
       have Cx:decide (0≤(A6))=true:=k8 C9
       clear C9
       replace H:=nq H
       obtain ⟨Cy,H⟩:=H
       have Cz:=eq_true Cy
       have D0:decide ((A6)≤(wrap64 ((A6)+(wrap64 (rd l0 (A4))))))=true:=k8 Cy
       replace H:=nq H
       obtain ⟨D1,H⟩:=H
       have D2:=eq_true D1
       have D3:decide ((wrap64 ((A6)+(wrap64 (rd l0 (A4)))))≤(l0.length:Int))=true:=k8 D1
       replace H:=be H
       obtain ⟨Ae,C2,H⟩:=H
       simp only [k4,k5] at H
       obtain ⟨rfl,rfl,rfl,rfl⟩:=H
       have Ah:0≤((A4):Int):=oda
       have Ai:(A4)<(l0.length:Int):=oda
       obtain ⟨Ao,Aw,A2⟩:=Kd.at_int At.o (A4) Ah Ai
       obtain rfl:A3=Ao:=(by injection Aw)
       replace A2:=(HB.o.cell (kW w _ A2)).trans A2
       replace Ah:=eq_true Ah
       replace Ai:=eq_true Ai
       try go_wp2
       replace HB:=am (bB HB.o)
       have Bb:0≤(a1:Int):=oda
       have Bc:a1<(l0.length:Int):=oda
       obtain ⟨Br,Ca,Aa⟩:=Kd.at_int At.o a1 Bb Bc
       have Ad:=Aa
       obtain rfl:A3=Br:=(by injection Ca)
       replace Aa:=(HB.o.cell (kW w _ Aa)).trans Aa
       replace Bb:=eq_true Bb
       replace Bc:=eq_true Bc
       obtain ⟨Da,B5,_,B6,_⟩:=info_parts eH
       obtain ⟨Db,Cb,Bs,Bt⟩:=fO (P:=Try.prog) (Value.int .u8) 0 22 5 .i64 .i64 Try.underlying22 B5 B6 (some A3) c0 l0 (A6) (wrap64 ((A6)+(wrap64 (rd l0 (A4))))) (oda) (by first|omega|exact oda) (oda) Cf.o
       have B7:=am (Kd.C_of_reads (h1:=fun _=>rfl) (Bs _ (Kd.reads_of_C At.o)))
       have Bu:=am Bt
       clear Bs Bt B5 B6
       refine cW (n:=19) (S:=fun w'=>w'.cell? (A3.add (a1).toNat)=some (.int .u8 (rd l0 a1))) (ds:=[]) #[F,F,F,F,F,F,F,F,F,F,F,F,F,F,F,F,F,F,F] (by kernel_rfl) rfl rfl (((HB.o.cell (kW w _ Ad)).trans Ad)) (fun hHeld=>?_);refine bW bE.tab11 bE.bits11 (fun HT_ HW_=>?_)
       generalize wc.drew=Dk at HB B7 Aa hHeld ⊢
       refine pv HT_ 0 (some 61) #[T,F,F,F,F,F,F,F,F,F,F,F,F,F,F,F,F,F,F] ?_
       refine pv HT_ 1 (some 62) #[T,T,F,F,F,F,F,F,F,F,F,F,F,F,F,F,F,F,F] ?_
       refine pv HT_ 2 (some 63) #[T,T,T,F,F,F,F,F,F,F,F,F,F,F,F,F,F,F,F] ?_
       refine pv HT_ 5 (some 66) #[T,T,T,F,F,T,F,F,F,F,F,F,F,F,F,F,F,F,F] ?_
       refine pv HT_ 6 (some 67) #[T,T,T,F,F,T,T,F,F,F,F,F,F,F,F,F,F,F,F] ?_
       refine pv HT_ 7 (some 68) #[T,T,T,F,F,T,T,T,F,F,F,F,F,F,F,F,F,F,F] ?_
       refine pv HT_ 8 (some 69) #[T,T,T,F,F,T,T,T,T,F,F,F,F,F,F,F,F,F,F] ?_
       refine pv HT_ 9 (some 70) #[T,T,T,F,F,T,T,T,T,T,F,F,F,F,F,F,F,F,F] ?_
       refine pv HT_ 10 (some 71) #[T,T,T,F,F,T,T,T,T,T,T,F,F,F,F,F,F,F,F] ?_
       refine pv HT_ 12 (some 73) #[T,T,T,F,F,T,T,T,T,T,T,F,T,F,F,F,F,F,F] ?_
       refine pv HT_ 13 (some 74) #[T,T,T,F,F,T,T,T,T,T,T,F,T,T,F,F,F,F,F] ?_
       refine pv HT_ 14 (some 75) #[T,T,T,F,F,T,T,T,T,T,T,F,T,T,T,F,F,F,F] ?_
       refine iZ (i:=3) (N:=some 64) (v:=?_) (a':=?_) #[T,T,T,T,F,T,T,T,T,T,T,F,T,T,T,F,F,F,F] rfl rfl (aZ HT_.o HW_.o (by kernel_rfl)) (fun _ _ _ h=>h) (Or.inl ⟨by rfl,?_⟩) hHeld ?_ ?_
       rotate_left
       · intro w' s0
         go_simp
         with_reducible rfl
       rotate_left
       · simp only [Act.put,kX,kY,kZ,aI,aK]
         rfl
       refine pv HT_ 4 (some 65) #[T,T,T,T,T,T,T,T,T,T,T,F,T,T,T,F,F,F,F] ?_
       refine dM (i:=11) (N:=some 72) #[T,T,T,T,T,T,T,T,T,T,T,T,T,T,T,F,F,F,F] rfl rfl (bS HT_.o (by kernel_rfl)) (by decide) (fun K hK=>?_)
       refine cU Try.func52 (by kernel_rfl) rfl #[.slice Db ((l0.take ((wrap64 ((A6)+(wrap64 (rd l0 (A4))))):Int).toNat).drop ((A6):Int).toNat).length (c0 - (A6).toNat)] (by rfl) rfl rfl (by (try simp only [List.map_toArray,List.map_cons,List.map_nil]);first|done|(rw [show ((l0.take ((wrap64 ((A6)+(wrap64 (rd l0 (A4))))):Int).toNat).drop ((A6):Int).toNat).length=((wrap64 ((A6)+(wrap64 (rd l0 (A4))))).toNat - (A6).toNat) from (by rw [List.length_drop,List.length_take];have h_:((wrap64 ((A6)+(wrap64 (rd l0 (A4))))):Int)≤(l0.length:Int):=oda;omega)]<;>rfl)|(simp only [Am,An];rfl)|rfl|(simp only [List.length_drop,List.length_take];rfl)) ?_
       with_reducible refine (cZ.calls _ _ ((l0.take ((wrap64 ((A6)+(wrap64 (rd l0 (A4))))):Int).toNat).drop ((A6):Int).toNat) Ae _ ?side1 ?side2 C2.o).mono ?_
       (case side1=>exact cq (Kd.C_below B7.o HB.o))
       (case side2=>exact Bu.o)
       rintro e Dl ⟨Dc,rfl,Bk,hb⟩
       refine ⟨_,rfl,?_⟩
       have n_:=ak2 (rl Bk (bq HB.o)) (aC (bq HB.o) hb)
       clear HB
       obtain ⟨Bv,HB⟩:=n_
       (try clear hb Bk)
       refine hK.out _ _ (((HB.o.cell (kW w _ Ad)).trans Ad)) (fun hHeld=>?_)
       clear hK K
       refine bZ (a':=?_) ?_ ?_
       rotate_left
       · show Act.put _ (some 72) _=_
         simp only [Act.put,kX,kY,kZ,aI,aK]
         rfl
       refine pv HT_ 15 (some 4) #[T,T,T,T,T,T,T,T,T,T,T,T,T,T,T,T,F,F,F] ?_
       refine pv HT_ 16 (some 5) #[T,T,T,T,T,T,T,T,T,T,T,T,T,T,T,T,T,F,F] ?_
       refine pv HT_ 17 (some 6) #[T,T,T,T,T,T,T,T,T,T,T,T,T,T,T,T,T,T,F] ?_
       refine pv HT_ 18 (some 7) #[T,T,T,T,T,T,T,T,T,T,T,T,T,T,T,T,T,T,T] ?_
       refine d5 (cL HT_.o (by kernel_rfl)) ?_
       try go_wp2
       refine bodyPost_ret (dC (rs:=[.tmp 4,.tmp 5,.tmp 6,.tmp 7]) rfl (by simp) (.tmp (.tmp (.tmp (.tmp .nil))))) rfl ?_
       exact ⟨_,by first|rfl|(simp [bI,bJ]<;>rfl)|(simp only [← Aj,← Am,← An];first|rfl|(simp [bI,bJ]<;>rfl))|(simp [*,bI,bJ]<;>rfl),kqR Bv.o,bq HB.o⟩
     rotate_right
     rotate_right
     all_goals
      go_wp2
      refine bodyPost_ret (dC (rs:=[.tmp 4,.tmp 5,.tmp 6,.tmp 7]) rfl (by simp) (.tmp (.tmp (.tmp (.tmp .nil))))) rfl ?_
      exact ⟨_,by first|rfl|(simp [bI,bJ]<;>rfl)|(simp only [← Aj,← Am];first|rfl|(simp [bI,bJ]<;>rfl))|(simp [*,bI,bJ]<;>rfl),rn,bq HB.o⟩
end Go.Proofs.Ytgppikopdpeigaa.XFnPdus
