/- The functions that one law reaches, as Lean functions, with their walks: printed by a program of this seat (wip/tools) out of the translation. -/
import Derived.Test.YtgppikopdpeigaaXFnPdusx0
import Derived.Test.YtgppikopdpeigaaXFnPdusx1
import Derived.Test.YtgppikopdpeigaaXFnPdusx4
namespace Go.Proofs.Ytgppikopdpeigaa.XFnPdus
open Go.RowKit Go.Proofs.YtgppikopdpeigaaW.PrintWords Go.Proofs.YtgppikopdpeigaaW.PrintLast Go.Proofs.YtgppikopdpeigaaW.PrintMore
attribute [local go_sem] cO cP dH dI cC cD cQ cR
set_option linter.unusedVariables false
set_option linter.unusedSimpArgs false
set_option maxHeartbeats 8000000
set_option maxRecDepth 100000
def cH.l0:Nat→List Int→List Int→Int→Option (Bool)
 |0,_,_,_=>none
 |k+1,x0,x1,x5=>if x5<(x0.length:Int) then (if 0≤x5 then (if x5<(x1.length:Int) then (if (rd x0 x5)=(rd x1 x5) then (cH.l0 k x0 x1 (wrap64 (x5+1))) else (some false)) else (none)) else (none)) else (some true)
def cH.f (k:Nat) (l0:List Int) (l1:List Int):Option (Bool):=if (l0.length:Int)=(l1.length:Int) then (cH.l0 k l0 l1 0) else (some false)
theorem cH.calls (k:Nat) (A0:Option Addr) (c0:Nat) (l0:List Int) (A1:Option Addr) (c1:Nat) (l1:List Int) (r:Bool) (w:World) (Aj:Kd.C (Kd.int .u8) w A0 l0.length l0) (Ak:l0.length≤c0) (Al:Kd.C (Kd.int .u8) w A1 l1.length l1) (Am:l1.length≤c1) (h:cH.f k l0 l1=some r):
 Calls Try.prog 11 #[.slice A0 l0.length c0,.slice A1 l1.length c1] w fun e w'=>e=.returned (.bool r)∧Drawn0 w w':=by
 have An:=am Aj
 have As:=am Ak
 clear Aj Ak
 have Ao:=am Al
 have At:=am Am
 clear Al Am
 have H:=h
 clear h
 unfold cH.f at H
 replace H:=iq' H
 rcases H with ⟨c3,Ad,Ae,H⟩|⟨c3,Ad,Ae,H⟩
 · have Af:(l0.length==l1.length)=false:=by first|simpa using c3|(simp at c3 ⊢;omega)
   obtain rfl:=k6 H
   go_enter Try.func11,Try.ntmps11
   go_wp2
   go_ret
   exact ⟨by first|rfl|(simp;done)|(simp [*];done),by repeat (first|exact Drawn0.refl _|apply Drawn0.step)⟩
 have Af:(l0.length==l1.length)=true:=by first|simpa using c3|(simp at c3 ⊢;omega)
 clear c3
 have H':=am H
 clear H
 go_enter Try.func11,Try.ntmps11
 go_wp2
 go_loopg [5] k (fun kq v5 w'=>∃(A2:Int),v5=.int .i64 A2∧Aside0 (cH.l0 kq l0 l1 A2=some r)∧Aside0 (kq≤k)∧Drawn0 w w')
 case atStart=>exact ⟨(0),sq,H',⟨k7 _⟩,by repeat (first|exact Drawn0.refl _|apply Drawn0.step)⟩
 case round=>
  clear H'
  try clear c1
  try clear p2
  try clear c3
  try clear Ad
  try clear Ae
  try clear Af
  obtain ⟨A2,rfl,HA,Ap,⟨m1,rfl⟩⟩:=hrel
  cases gk with
  |zero=>exact absurd HA.o (by simp [cH.l0])
  |succ k1=>
   have H:=HA.o
   clear HA
   simp only [cH.l0] at H
   replace H:=il' H
   rcases H with ⟨-,Ag,H⟩|⟨-,Ag,H⟩
   · obtain rfl:=k6 H
     go_wp2
     go_ret
     exact ⟨by first|rfl|(simp;done)|(simp [*];done),by repeat (first|exact Drawn0.refl _|apply Drawn0.step)⟩
   replace H:=nl H
   obtain ⟨-,Aq,H⟩:=H
   replace H:=nl H
   obtain ⟨-,Ar,H⟩:=H
   replace H:=iq' H
   rcases H with ⟨c7,Ah,Ai,H⟩|⟨-,Ah,Ai,H⟩
   · obtain rfl:=k6 H
     have A3:0≤(A2:Int):=oda
     have A4:A2<(l0.length:Int):=oda
     obtain ⟨Ab,A7,A8⟩:=Kd.at_int An.o A2 A3 A4
     cases A7
     replace A3:=eq_true A3
     replace A4:=eq_true A4
     have A5:0≤(A2:Int):=oda
     have A6:A2<(l1.length:Int):=oda
     obtain ⟨Ac,A9,Aa⟩:=Kd.at_int Ao.o A2 A5 A6
     cases A9
     replace A5:=eq_true A5
     replace A6:=eq_true A6
     try go_wp2
     repeat (go_quiet (fail);try go_wp2)
     go_ret
     exact ⟨by first|rfl|(simp;done)|(simp [*];done),by repeat (first|exact Drawn0.refl _|apply Drawn0.step)⟩
   have H':=am H
   clear H
   have A3:0≤(A2:Int):=oda
   have A4:A2<(l0.length:Int):=oda
   obtain ⟨Ab,A7,A8⟩:=Kd.at_int An.o A2 A3 A4
   cases A7
   replace A3:=eq_true A3
   replace A4:=eq_true A4
   have A5:0≤(A2:Int):=oda
   have A6:A2<(l1.length:Int):=oda
   obtain ⟨Ac,A9,Aa⟩:=Kd.at_int Ao.o A2 A5 A6
   cases A9
   replace A5:=eq_true A5
   replace A6:=eq_true A6
   try go_wp2
   repeat (go_quiet (fail);try go_wp2)
   go_roundg k1
   case measure=>have:=Ap.o;omega
   case rel=>exact ⟨(wrap64 (A2+1)),sq,H',⟨by have:=Ap.o;omega⟩,by repeat (first|exact Drawn0.refl _|apply Drawn0.step)⟩
def fC.f (A1:List Int) (A2:Int) (A3:Int) (a1:Int):Option (Bool × Int × Int):=(a6.f A1 A2 A3 a1).bind fun A0=>(some ((A0.1==0),A0.2.1,A0.2.2))
theorem fC.calls (g:Nat) (A0:List Int) (A1:Int) (A2:Int) (a1:Int) (r1:Bool) (r2:Int) (r3:Int) (w0 w:World) (hI:aD w0 w g A0 A1 A2) (hB:Below w0.heap.size w0 w) (h:fC.f A0 A1 A2 a1=some (r1,r2,r3)):
 Calls Try.prog 42 #[.pointer (some ⟨g,0,none⟩),.int .i64 a1] w fun e w'=>e=.returned (.bool r1)∧aD w0 w' g A0 r2 r3∧Below w0.heap.size w0 w'∧KeepBut w w' g none:=by
 have A3:=am hI
 have HK:=am (KeepBut.refl w g none)
 have HL:=am hB.size
 clear hI
 have A8:=am hB.size
 have HB:=am hB
 clear hB
 have H:=h
 clear h
 unfold fC.f at H
 replace H:=be H
 obtain ⟨⟨A4,A5,A6⟩,A7,H⟩:=H
 try dsimp only at H
 simp only [k4,k5] at H
 obtain ⟨rfl,rfl,rfl⟩:=H
 go_enter Try.func42,Try.ntmps42
 go_wp2_with (first|((with_reducible refine aE (f:=47) rfl ?_);refine gc (some 7) (a6.calls g A0 A1 A2 a1 A4 A5 A6 w0 _ (aD.q0 A3.o) (bq1 HB.o (aD.ge A3.o)) A7.o) Try.func47 ?_;rintro e w4 ⟨rfl,hi,hb,hk⟩;refine ⟨_,rfl,?_⟩;have n_:=ak3 (KeepBut.trans (kp0 HK.o) hk (.inl rfl)) hb hi;clear HK HB A3;obtain ⟨HK,HB,A3⟩:=n_;(try clear hb hk hi)))
 go_ret
 exact ⟨rq,aD.q0 A3.o,bq1 HB.o (aD.ge A3.o),kp0 HK.o⟩
theorem i9 {P:Program} {ops:Array Oper} {o:Oper} {a:Act} {Q:Exit→Act→World→Prop} {Kc:Act→World→Prop} {α:Type} (d:Kd α) {w0 W:World} (base:Nat) (hw:Region.wanted o (yielded ops a.tmps)=true) (s x:Operand) (t e:TypeId) (z:Value) (bytes:Nat)
 (ho:o.op=.call {callee:=.builtin .append,args:=#[s,x],argTypes:=#[t,t]})
 (ht:P.underlying t=some (.slice e)) (hinfo:(P.info? e).map (fun i=>(i.zero,i.size,i.bytes))=some (some z,d.sz,bytes)) (hz:z.cells.size=d.sz) (A0:0<d.sz) (A1:0<bytes)
 (v:Value) (xs ys:List α) (hxs:xs=[]) (A:Option Addr) (c:Nat) (ok okx:Nat→Prop) (hs:a.eval s=v) (hx:a.eval x=.slice A ys.length c)
 (HO:Kd.N d e W base ok v xs) (HX:Kd.S d e W base okx (.slice A ys.length c) ys) (hokx:∀k,okx k∧some k≠(Value.slice A ys.length c).ownBlock→ok k∧some k≠v.ownBlock) (hfresh:∀k,W.heap.size≤k→ok k)
 (HB:Below base w0 W) (hbase:base≤W.heap.size) (hl:(xs.length+ys.length)*bytes≤140737488355328)
 (h:∀v1 w1,Kd.S d e w1 base ok v1 (xs++ys)→Below base w0 w1→W.grownBy w1 v.ownBlock→(v1.ownBlock=v.ownBlock∨∃b,v1.ownBlock=some b∧W.heap.size≤b)→Kc (a.put o.dst v1) w1):
 if Region.wanted o (yielded ops a.tmps)=true then Oper.wp P o a W Kc Q else Kc (a.put o.dst undef) W:=by
 subst hxs
 obtain ⟨f,HR⟩:=HX
 have hn:=Kd.R_reads' HR
 rw [List.length_zipIdx] at hn
 have A2:(Kd.tag f d).R e W base ok v []:=by
  obtain ⟨h0,rows,hraw⟩:=HO
  have hlen:rows=[]:=by
   have:=hraw.1
   simpa using this
  subst hlen
  obtain ⟨_,inner,hown,hrep⟩:=hraw.2.1
  have hi:inner=[]:=by
   have:=hown.1
   simpa using this
  subst hi
  exact ⟨h0,[],hown,bD.none _ _⟩
 refine Kd.R_append_rows_step (Kd.tag f d) (Rr:=fun p cs=>(Kd.tag f d).M W base (fun k=>okx k∧some k≠(Value.slice A ys.length c).ownBlock) p cs) base hw s x t e z bytes ho ht hinfo hz A0 A1 v [] ys.zipIdx A ys.length c ok (fun k=>ok k∧some k≠v.ownBlock) hs hx A2 ?_ (fun p cs hM=>(Kd.tag f d).M_mono (fun k hk=>hokx k hk) hM) (fun k hk=>hk) hfresh HB hbase ?_ ?_
 · refine ⟨List.length_zipIdx,hn.2.2.2.1,fun hp=>?_⟩
   obtain ⟨ad,e1,_⟩:=hn.2.2.2.2 (by simpa using hp)
   subst e1
   refine ⟨ad,rfl,fun j p hj=>?_⟩
   have hjl:j<ys.length:=by
    have:=(List.getElem?_eq_some_iff.1 hj).1
    simpa using this
   obtain ⟨cs,hcl,hM,hcc⟩:=Kd.R_getA HR p (j:Int) (by omega) (by omega)
   have A3:ys.zipIdx.getD (j:Int).toNat p=p:=by
    rw [Int.toNat_natCast,List.getD_eq_getElem?_getD,hj]
    rfl
   rw [A3] at hM
   exact ⟨cs,hcl,hM,fun i u hu=>by have:=hcc i u hu;rwa [Int.toNat_natCast] at this⟩
 · simpa using hl
 intro v1 w1 hr hb hg hat
 refine h v1 w1 ⟨f,?_⟩ hb hg hat
 simpa using hr
def bY.f (k:Nat) (l0:List Int):Option ((List (S45)) × (List (S45))):=(dS.f k l0).bind fun A1=>((bU.f k A1.1 A1.2.1 A1.2.2).bind fun A0=>((fC.f A1.1 A0.2.2.2.2.2.1 A0.2.2.2.2.2.2 2).bind fun A2=>(if A2.1=true then ((some (([]:List (S45)):List (S45))).bind fun A3=>(if A3.length+A0.2.2.2.2.1.length<1759218604441 then (some (A0.2.2.2.2.1,(A3++A0.2.2.2.2.1))) else (none))) else ((bU.f k A1.1 A2.2.1 A2.2.2).bind fun A4=>(some (A0.2.2.2.2.1,A4.2.2.2.2.1))))))
def bY.T4:Bool × List (List Nat × List Nat):=(true,[([],[]),([0],[0]),([],[]),([],[]),([3],[3]),([2,4],[2,4]),([1,5,0,1],[1]),([5,6,0,1,2,3,4,5,6],[5])])
def bY.B4:List Nat:=[0,1,0,0,8,28,63,127]
theorem bY.tab4:eR .any (fM Try.f13 4)=bY.T4:=by kernel_rfl
theorem bY.bits4:eJ bY.T4.2 bY.B4=true:=by kernel_rfl
theorem bY.calls (k:Nat) (A0:Option Addr) (c0:Nat) (l0:List Int) (r1:List (S45)) (r2:List (S45)) (w:World) (C4:Kd.C (Kd.int .u8) w A0 l0.length l0) (C5:l0.length≤c0) (h:bY.f k l0=some (r1,r2)):
 Calls Try.prog 13 #[.slice A0 l0.length c0] w fun e w'=>∃Bt Bu:Value,e=.returned (.tuple #[Bt,Bu])∧Kd.S k45 45 w' w.heap.size (fun k_=>some k_≠(Bu:Value).ownBlock) Bt r1∧Kd.S k45 45 w' w.heap.size (fun k_=>some k_≠(Bt:Value).ownBlock) Bu r2∧Below w.heap.size w w':=by
 have Bv:=Try.underlying26
 have Bw:=Try.underlying24
 have C6:=am C4
 have C7:=am C5
 clear C4 C5
 have HB:=am (Below.refl w.heap.size w)
 have H:=h
 clear h
 unfold bY.f at H
 replace H:=be H
 obtain ⟨⟨Aa,Al,Am⟩,C8,H⟩:=H
 try dsimp only at H
 replace H:=be H
 obtain ⟨⟨Ab,Ac,Ad,Ae,A7,Af,Ag⟩,C9,H⟩:=H
 try dsimp only at H
 replace H:=be H
 obtain ⟨⟨B1,Aq,Ar⟩,Ca,H⟩:=H
 try dsimp only at H
 cases B1
 · replace H:=iF H
   replace H:=be H
   obtain ⟨⟨B2,B3,B4,B5,Av,B6,B7⟩,Ck,H⟩:=H
   try dsimp only at H
   simp only [k4,k5] at H
   obtain ⟨rfl,rfl⟩:=H
   go_enter Try.func13,Try.ntmps13
   try go_wp2_with (first|((with_reducible refine aE (f:=17) rfl ?_);refine gc (some 7) (dS.calls k _ _ l0 Aa Al Am w _ (bq HB.o) C6.o C7.o C8.o) Try.func17 ?_;rintro e Cp ⟨A6,rfl,hi,hb,Bx⟩;refine ⟨_,rfl,?_⟩;have n_:=ak2 hb hi;clear HB;obtain ⟨HB,A1⟩:=n_;(try clear hb Bx hi))|((with_reducible refine aE (f:=18) rfl ?_);refine gc (some 9) (bU.calls k A6 Aa Al Am Ab Ac Ad Ae A7 Af Ag w _ (aD.q0 A1.o) (bq1 HB.o (aD.ge A1.o)) C9.o) Try.func18 ?_;rintro e Cq ⟨B8,rfl,Au,hi,hb,hk⟩;refine ⟨_,rfl,?_⟩;have n_:=ak3 (Kd.S_lower (Kd.S_mono (ok':=fun k_=>(w.heap.size≤k_)∧k_≠A6) (Kd.S_bound Au) (fun k_ hk_=>⟨(Nat.le_trans (aH (bq1 HB.o (aD.ge A1.o))) hk_.2.1),(aD.fresh (aD.q0 A1.o) k_ hk_.2.1)⟩)) (aH (bq1 HB.o (aD.ge A1.o)))) hb hi;clear HB A1;obtain ⟨A4,HB,A1⟩:=n_;(try clear hb hk hi Au))|((with_reducible refine aJ (N:=5) rfl ?_);refine bxe 5 #[.int .i64 0,.int .i64 0,.int .i64 0,.int .i64 0,.slice none 0 0] 26 ?_;intro A3 hg Cl hbox hb;have n_:=ak8 (Kd.S_below (Kd.S_elderB (kqS A4.o) A3 (Nat.le_of_eq hg.symm)) hb) (aD.below (aD.q0 A1.o) hb) (aC (bq1 HB.o (aD.ge A1.o)) hb) hbox (bz hg (bq1 HB.o (aD.ge A1.o))) (bz hg (bq1 HB.o (aD.ge A1.o))) ((by rw [hg];exact Nat.ne_of_lt (aD.lt (show aD w _ A6 Aa Af Ag from aD.q0 A1.o)):A6≠A3)) ((by rw [hg];exact Nat.ne_of_gt (aD.lt (show aD w _ A6 Aa Af Ag from aD.q0 A1.o)):A3≠A6));clear A4 A1 HB;obtain ⟨A4,A1,HB,A2,Ay,A8,A5,A9⟩:=n_;clear hb hbox hg;have Cb:=A9.o;have Cc:=A5.o;obtain ⟨B9,Ba,Bb,Bc,Bd,Be,Bf,Bg,Bh,Bi⟩:=cl5 A2.o;obtain ⟨An,Ao,By⟩:=Kd.S_slice A4.o;subst By)|((with_reducible refine aQ (t:=26) (p:=5) rfl ?_);refine se 26 5 (s5 Cl A3 (.int .i64 Ab) (.int .i64 Ac) (.int .i64 Ad) (.int .i64 Ae) (.slice An A7.length Ao)) ?_;intro Cd hw;have n_:=ak4 (show Kd.S k45 45 Cd w.heap.size (fun k_=>(w.heap.size≤k_)∧k_≠A6∧k_≠A3) (.slice An A7.length Ao) A7 by rw [hw];exact (by (with_reducible repeat (first|apply Kd.S_alloc|apply Kd.S_drewN|apply Kd.S_drew));exact Kd.S_mono (Kd.S_far (p:=⟨A3,4,none⟩) (Kd.S_far (p:=⟨A3,3,none⟩) (Kd.S_far (p:=⟨A3,2,none⟩) (Kd.S_far (p:=⟨A3,1,none⟩) (Kd.S_far (p:=⟨A3,0,none⟩) (Kd.S_mono A4.o (fun k_ hk=>(⟨hk,hk.2⟩:_∧k_≠A3))) (fun _ hk=>hk.2) (.int .i64 Ab)) (fun _ hk=>hk.2) (.int .i64 Ac)) (fun _ hk=>hk.2) (.int .i64 Ad)) (fun _ hk=>hk.2) (.int .i64 Ae)) (fun _ hk=>hk.2) (.slice An A7.length Ao)) (fun _ hk=>⟨hk.1.1.1,⟨hk.1.1.2,hk.1.2⟩⟩))) (sc5 hw A2) (show aD w Cd A6 Aa Af Ag by rw [hw];exact (aD.q1 A1.o A5.o)) (sb hw (bq2 HB.o (aD.ge A1.o) A8.o));clear hw A4 A2 A1 HB;obtain ⟨A4,A2,A1,HB⟩:=n_)|((with_reducible refine aE (f:=42) rfl ?_);refine gc (some 11) (fC.calls A6 Aa Af Ag 2 false Aq Ar w _ (aD.q1 A1.o A5.o) (bq2 HB.o (aD.ge A1.o) A8.o) Ca.o) Try.func42 ?_;rintro e Cm ⟨rfl,hi,hb,hk⟩;refine ⟨_,rfl,?_⟩;have n_:=ak4 (Kd.S_mono (Kd.S_keep (Kd.S_mono (ok:=fun k_=>(((w.heap.size≤k_))∧(k_≠A6∧k_≠A3))) (kqS A4.o) (fun k_ hk_=>(⟨hk_,hk_.2.1⟩:_∧k_≠A6))) hk (fun _ h=>h.2)) (fun _ h=>h.1)) (KeepBut.blk hk (zb A2.o) A9.o (by simp)) hb hi;clear A4 A2 HB A1;obtain ⟨A4,A2,HB,A1⟩:=n_;(try clear hb hk hi)))
   have n_:=ak4 (Kd.S_drew A4.o) (a7 A2.o) (aD.drew A1.o) (bB HB.o)
   clear A4 A2 A1 HB
   obtain ⟨A4,A2,A1,HB⟩:=n_
   refine cW (n:=7) (S:=fun w'=>w'.cell? ⟨A3,0,none⟩=some (.int .i64 Ab)∧w'.cell? ⟨A3,1,none⟩=some (.int .i64 Ac)∧w'.cell? ⟨A3,2,none⟩=some (.int .i64 Ad)∧w'.cell? ⟨A3,3,none⟩=some (.int .i64 Ae)∧w'.cell? ⟨A3,4,none⟩=some (.slice An A7.length Ao)) (ds:=[]) #[F,F,F,F,F,F,F] (by kernel_rfl) rfl rfl ⟨(aA A2.o 0).trans rfl,(aA A2.o 1).trans rfl,(aA A2.o 2).trans rfl,(aA A2.o 3).trans rfl,(aA A2.o 4).trans rfl⟩ (fun hHeld=>?_)
   generalize Cm.drew=Cr at A4 A2 A1 HB hHeld ⊢
   refine pu 0 (some 18) #[T,F,F,F,F,F,F] rfl rfl (by kernel_rfl) (Or.inl ⟨by rfl,by intro w';go_simp;with_reducible rfl⟩) ?_
   refine pu 2 (some 20) #[T,F,T,F,F,F,F] rfl rfl (by kernel_rfl) (Or.inl ⟨by rfl,by intro w';go_simp;with_reducible rfl⟩) ?_
   refine tk 1 (some 19) #[T,T,T,F,F,F,F] rfl rfl (by kernel_rfl) hHeld (Or.inl ⟨by rfl,by rintro w' ⟨s0,s1,s2,s3,s4⟩;go_simp;with_reducible rfl⟩) ?_
   refine dM (i:=3) (N:=some 21) #[T,T,T,T,F,F,F] rfl rfl (by kernel_rfl) (by decide) (fun K hK=>?_)
   refine cU Try.func18 (by kernel_rfl) rfl #[.pointer (some ⟨A6,0,none⟩)] (by rfl) rfl rfl ga ?_
   with_reducible refine (bU.calls k A6 Aa Aq Ar B2 B3 B4 B5 Av B6 B7 w _ ?side1 ?side2 Ck.o).mono ?_
   (case side1=>exact aD.q1 A1.o A5.o)
   (case side2=>exact bq2 HB.o (aD.ge A1.o) A8.o)
   rintro e Cs ⟨Ce,rfl,Au,hi,hb,hk⟩
   refine ⟨_,rfl,?_⟩
   have n_:=ak5 (Kd.S_mono (Kd.S_told (Kd.S_oldK (Kd.S_mono (ok:=fun k_=>(((w.heap.size≤k_))∧(k_≠A6∧k_≠A3))) (kqS A4.o) (fun k_ hk_=>(⟨hk_,hk_.2.1⟩:_∧k_≠A6))) hk) (Kd.S_base Au)) (fun _ h_=>h_.1)) (KeepBut.blk hk (zb A2.o) A9.o (by simp)) (Kd.S_lower (Kd.S_mono (ok':=fun k_=>(w.heap.size≤k_)∧some k_≠(.slice An A7.length Ao:Value).ownBlock∧k_≠A3∧k_≠A6) (Kd.S_bound Au) (fun k_ hk_=>⟨(Nat.le_trans (aH (bq2 HB.o (aD.ge A1.o) A8.o)) hk_.2.1),(Kd.fresh' (Kd.S_lt (kqS A4.o)) k_ hk_.2.1),(Kd.freshB (g:=A3) (o:=.cells #[.int .i64 Ab,.int .i64 Ac,.int .i64 Ad,.int .i64 Ae,.slice An A7.length Ao] 26 (0,0)) (zq A2.o) k_ hk_.2.1),(aD.fresh (aD.q1 A1.o A5.o) k_ hk_.2.1)⟩)) (aH (bq2 HB.o (aD.ge A1.o) A8.o))) hb hi
   clear A4 A2 HB A1
   obtain ⟨A4,A2,As,HB,A1⟩:=n_
   obtain ⟨Bz,C0,C1⟩:=Kd.S_slice As.o
   subst C1
   (try clear hb hk hi Au)
   refine hK.out _ _ ⟨(aA A2.o 0).trans rfl,(aA A2.o 1).trans rfl,(aA A2.o 2).trans rfl,(aA A2.o 3).trans rfl,(aA A2.o 4).trans rfl⟩ (fun hHeld=>?_)
   clear hK K
   refine bZ (a':=?_) ?_ ?_
   rotate_left
   · show Act.put _ (some 21) _=_
     simp only [Act.put,kX,kY,kZ,aI,aK]
     rfl
   refine pu (v:=.slice Bz Av.length C0) 4 (some 22) #[T,T,T,T,T,F,F] rfl rfl (by kernel_rfl) (Or.inl ⟨by rfl,by intro w';go_simp;simp [Instr.field,run_underlying Bv,run_underlying Bw,asAgg,part,isAgg,Result.andThen]⟩) ?_
   refine pu 5 (some 2) #[T,T,T,T,T,T,F] rfl rfl (by kernel_rfl) (Or.inl ⟨by rfl,by intro w';go_simp;with_reducible rfl⟩) ?_
   refine pu 6 (some 3) #[T,T,T,T,T,T,T] rfl rfl (by kernel_rfl) (Or.inl ⟨by rfl,by intro w';go_simp;with_reducible rfl⟩) ?_
   refine d5 (by kernel_rfl) ?_
   try go_wp2
   go_ret2
   exact ⟨_,_,rq,by (with_reducible repeat (first|apply Kd.S_alloc|apply Kd.S_drewN|apply Kd.S_drew));exact Kd.S_mono A4.o (fun _ hk=>hk.2),by (with_reducible repeat (first|apply Kd.S_alloc|apply Kd.S_drewN|apply Kd.S_drew));exact Kd.S_mono As.o (fun _ hk=>hk.2.1),bq2 HB.o (aD.ge A1.o) A8.o⟩
 replace H:=iT H
 replace H:=bs H
 obtain ⟨Aw,Ak,H⟩:=H
 replace H:=nq H
 obtain ⟨c6,H⟩:=H
 have C2:=am c6
 clear c6
 generalize At:((Aw++A7):List (S45))=Cf at H
 have Az:=am At.symm
 clear At
 simp only [k4,k5] at H
 obtain ⟨rfl,rfl⟩:=H
 go_enter Try.func13,Try.ntmps13
 try go_wp2_with (first|((with_reducible refine aE (f:=17) rfl ?_);refine gc (some 7) (dS.calls k _ _ l0 Aa Al Am w _ (bq HB.o) C6.o C7.o C8.o) Try.func17 ?_;rintro e w7 ⟨A6,rfl,hi,hb,Bx⟩;refine ⟨_,rfl,?_⟩;have n_:=ak2 hb hi;clear HB;obtain ⟨HB,A1⟩:=n_;(try clear hb Bx hi))|((with_reducible refine aE (f:=18) rfl ?_);refine gc (some 9) (bU.calls k A6 Aa Al Am Ab Ac Ad Ae A7 Af Ag w _ (aD.q0 A1.o) (bq1 HB.o (aD.ge A1.o)) C9.o) Try.func18 ?_;rintro e w8 ⟨B8,rfl,Au,hi,hb,hk⟩;refine ⟨_,rfl,?_⟩;have n_:=ak3 (Kd.S_lower (Kd.S_mono (ok':=fun k_=>(w.heap.size≤k_)∧k_≠A6) (Kd.S_bound Au) (fun k_ hk_=>⟨(Nat.le_trans (aH (bq1 HB.o (aD.ge A1.o))) hk_.2.1),(aD.fresh (aD.q0 A1.o) k_ hk_.2.1)⟩)) (aH (bq1 HB.o (aD.ge A1.o)))) hb hi;clear HB A1;obtain ⟨A4,HB,A1⟩:=n_;(try clear hb hk hi Au))|((with_reducible refine aJ (N:=5) rfl ?_);refine bxe 5 #[.int .i64 0,.int .i64 0,.int .i64 0,.int .i64 0,.slice none 0 0] 26 ?_;intro A3 hg w9 hbox hb;have n_:=ak8 (Kd.S_below (Kd.S_elderB (kqS A4.o) A3 (Nat.le_of_eq hg.symm)) hb) (aD.below (aD.q0 A1.o) hb) (aC (bq1 HB.o (aD.ge A1.o)) hb) hbox (bz hg (bq1 HB.o (aD.ge A1.o))) (bz hg (bq1 HB.o (aD.ge A1.o))) ((by rw [hg];exact Nat.ne_of_lt (aD.lt (show aD w _ A6 Aa Af Ag from aD.q0 A1.o)):A6≠A3)) ((by rw [hg];exact Nat.ne_of_gt (aD.lt (show aD w _ A6 Aa Af Ag from aD.q0 A1.o)):A3≠A6));clear A4 A1 HB;obtain ⟨A4,A1,HB,A2,Ay,A8,A5,A9⟩:=n_;clear hb hbox hg;have Cg:=A9.o;have Ch:=A5.o;obtain ⟨Bj,Bk,Bl,Bm,Bn,Bo,Bp,Bq,Br,Bs⟩:=cl5 A2.o;obtain ⟨Ah,Ai,C3⟩:=Kd.S_slice A4.o;subst C3)|((with_reducible refine aQ (t:=26) (p:=5) rfl ?_);refine se 26 5 (s5 w9 A3 (.int .i64 Ab) (.int .i64 Ac) (.int .i64 Ad) (.int .i64 Ae) (.slice Ah A7.length Ai)) ?_;intro Ci hw;have n_:=ak4 (show Kd.S k45 45 Ci w.heap.size (fun k_=>(w.heap.size≤k_)∧k_≠A6∧k_≠A3) (.slice Ah A7.length Ai) A7 by rw [hw];exact (by (with_reducible repeat (first|apply Kd.S_alloc|apply Kd.S_drewN|apply Kd.S_drew));exact Kd.S_mono (Kd.S_far (p:=⟨A3,4,none⟩) (Kd.S_far (p:=⟨A3,3,none⟩) (Kd.S_far (p:=⟨A3,2,none⟩) (Kd.S_far (p:=⟨A3,1,none⟩) (Kd.S_far (p:=⟨A3,0,none⟩) (Kd.S_mono A4.o (fun k_ hk=>(⟨hk,hk.2⟩:_∧k_≠A3))) (fun _ hk=>hk.2) (.int .i64 Ab)) (fun _ hk=>hk.2) (.int .i64 Ac)) (fun _ hk=>hk.2) (.int .i64 Ad)) (fun _ hk=>hk.2) (.int .i64 Ae)) (fun _ hk=>hk.2) (.slice Ah A7.length Ai)) (fun _ hk=>⟨hk.1.1.1,⟨hk.1.1.2,hk.1.2⟩⟩))) (sc5 hw A2) (show aD w Ci A6 Aa Af Ag by rw [hw];exact (aD.q1 A1.o A5.o)) (sb hw (bq2 HB.o (aD.ge A1.o) A8.o));clear hw A4 A2 A1 HB;obtain ⟨A4,A2,A1,HB⟩:=n_)|((with_reducible refine aE (f:=42) rfl ?_);refine gc (some 11) (fC.calls A6 Aa Af Ag 2 true Aq Ar w _ (aD.q1 A1.o A5.o) (bq2 HB.o (aD.ge A1.o) A8.o) Ca.o) Try.func42 ?_;rintro e Cn ⟨rfl,hi,hb,hk⟩;refine ⟨_,rfl,?_⟩;have n_:=ak4 (Kd.S_mono (Kd.S_keep (Kd.S_mono (ok:=fun k_=>(((w.heap.size≤k_))∧(k_≠A6∧k_≠A3))) (kqS A4.o) (fun k_ hk_=>(⟨hk_,hk_.2.1⟩:_∧k_≠A6))) hk (fun _ h=>h.2)) (fun _ h=>h.1)) (KeepBut.blk hk (zb A2.o) A9.o (by simp)) hb hi;clear A4 A2 HB A1;obtain ⟨A4,A2,HB,A1⟩:=n_;(try clear hb hk hi)))
 have n_:=ak4 (Kd.S_drew A4.o) (a7 A2.o) (aD.drew A1.o) (bB HB.o)
 clear A4 A2 A1 HB
 obtain ⟨A4,A2,A1,HB⟩:=n_
 refine cW (n:=8) (S:=fun w'=>w'.cell? ⟨A3,0,none⟩=some (.int .i64 Ab)∧w'.cell? ⟨A3,1,none⟩=some (.int .i64 Ac)∧w'.cell? ⟨A3,2,none⟩=some (.int .i64 Ad)∧w'.cell? ⟨A3,3,none⟩=some (.int .i64 Ae)∧w'.cell? ⟨A3,4,none⟩=some (.slice Ah A7.length Ai)) (ds:=[]) #[F,F,F,F,F,F,F,F] (by kernel_rfl) rfl rfl ⟨(aA A2.o 0).trans rfl,(aA A2.o 1).trans rfl,(aA A2.o 2).trans rfl,(aA A2.o 3).trans rfl,(aA A2.o 4).trans rfl⟩ (fun hHeld=>?_);refine bW bY.tab4 bY.bits4 (fun HT_ HW_=>?_)
 generalize Cn.drew=Co at A4 A2 A1 HB hHeld ⊢
 refine pv HT_ 0 (some 12) #[T,F,F,F,F,F,F,F] ?_
 refine pv HT_ 3 (some 15) #[T,F,F,T,F,F,F,F] ?_
 refine tk 1 (some 13) #[T,T,F,T,F,F,F,F] rfl rfl (aZ HT_.o HW_.o (by kernel_rfl)) hHeld (Or.inl ⟨by rfl,by rintro w' ⟨s0,s1,s2,s3,s4⟩;go_simp;with_reducible rfl⟩) ?_
 refine tk 4 (some 16) #[T,T,F,T,T,F,F,F] rfl rfl (aZ HT_.o HW_.o (by kernel_rfl)) hHeld (Or.inl ⟨by rfl,by rintro w' ⟨s0,s1,s2,s3,s4⟩;go_simp;with_reducible rfl⟩) ?_
 refine dM (i:=2) (N:=some 14) #[T,T,T,T,T,F,F,F] rfl rfl (bS HT_.o (by kernel_rfl)) (by decide) (fun K hK=>?_)
 refine Kd.N_lit_step k45 _ 45 ?hg (N':=14) ?hd (xs:=([]:List (S45))) (inner:=[]) (ok:=(fun k_=>(w.heap.size≤k_)∧some k_≠(.slice Ah A7.length Ai:Value).ownBlock∧k_≠A3∧k_≠A6)) (okp:=(fun k_=>(w.heap.size≤k_)∧some k_≠(.slice Ah A7.length Ai:Value).ownBlock∧k_≠A3∧k_≠A6)) ?hr ?hp (fun _ hk=>hk) ((show ∀k_,Co.heap.size≤k_→(fun k_=>(w.heap.size≤k_)∧some k_≠(.slice Ah A7.length Ai:Value).ownBlock∧k_≠A3∧k_≠A6) k_ from fun k_ hk=>⟨(Nat.le_trans (aH (bq2 HB.o (aD.ge A1.o) A8.o)) hk),Kd.fresh' (Kd.S_lt (kqS A4.o)) k_ hk,Kd.freshB (g:=A3) (o:=.cells #[.int .i64 Ab,.int .i64 Ac,.int .i64 Ad,.int .i64 Ae,.slice Ah A7.length Ai] 26 (0,0)) (zq A2.o) k_ hk,aD.fresh (aD.q1 A1.o A5.o) k_ hk⟩) _ (k7 _)) (Below.refl _ _) (k7 _) (by simp) ?_;(case hd=>rfl);(case hg=>rfl);(case hr=>exact gs);(case hp=>exact (bD.none _ _))
 intro Ax Ct Ap hb hg_ hnew_
 clear hg_ hnew_
 (first|rw [← Ak.o] at Ap|(simp only [Int.reduceToNat] at Ap;rw [← Ak.o] at Ap))
 have n_:=ak5 (Kd.S_elder' (kqS A4.o) (Kd.N_base Ap) hb) (Kd.N_lower Ap (aH (bq2 HB.o (aD.ge A1.o) A8.o))) (aD.below (aD.q1 A1.o A5.o) hb) (kb A2 hb) (aC (bq2 HB.o (aD.ge A1.o) A8.o) hb)
 clear A4 A1 A2 HB
 obtain ⟨A4,Aj,A1,A2,HB⟩:=n_
 clear hb Ap
 refine hK.out _ _ ⟨(aA A2.o 0).trans rfl,(aA A2.o 1).trans rfl,(aA A2.o 2).trans rfl,(aA A2.o 3).trans rfl,(aA A2.o 4).trans rfl⟩ (fun hHeld=>?_)
 clear hK K
 refine bZ (a':=?_) ?_ ?_
 rotate_left
 · show Act.put _ (some 14) _=_
   simp only [Act.put,kX,kY,kZ,aI,aK]
   rfl
 refine dM (i:=5) (N:=some 17) #[T,T,T,T,T,T,F,F] rfl rfl (bS HT_.o (by kernel_rfl)) (by decide) (fun K hK=>?_)
 refine i9 k45 (w0:=w) w.heap.size (by rfl) (.tmp 14) (.tmp 16) 24 45 (.agg #[(.slice none 0 0),(.int .i64 0),(.int .i64 0),(.string ⟨#[]⟩),(.slice none 0 0)]) 80 rfl Try.underlying24 gQ rfl (by decide) (by omega) Ax Aw A7 Ak.o _ _ (fun k_=>(w.heap.size≤k_)∧some k_≠(.slice Ah A7.length Ai:Value).ownBlock∧k_≠A3∧k_≠A6) (fun k_=>((w.heap.size≤k_)∧k_≠A6∧k_≠A3)∧some k_≠(Ax:Value).ownBlock) rfl rfl ?aO ?aR ?aX ?aF ?aB ?aS ?aL ?_
 (case aR=>exact A4.o)
 (case aX=>exact (fun k_ h_=>⟨⟨h_.1.1.1,h_.2,h_.1.1.2.2,h_.1.1.2.1⟩,h_.1.2⟩))
 (case aB=>exact (bq2 HB.o (aD.ge A1.o) A8.o))
 (case aF=>exact (fun k_ hk=>⟨(Nat.le_trans (aH (bq2 HB.o (aD.ge A1.o) A8.o)) hk),Kd.fresh' (Kd.S_lt A4.o) k_ hk,Kd.freshB (g:=A3) (o:=.cells #[.int .i64 Ab,.int .i64 Ac,.int .i64 Ad,.int .i64 Ae,.slice Ah A7.length Ai] 26 (0,0)) (zq A2.o) k_ hk,aD.fresh (aD.q1 A1.o A5.o) k_ hk⟩))
 (case aO=>exact (by (with_reducible repeat (first|apply Kd.N_alloc|apply Kd.N_drewN|apply Kd.N_drew));exact Aj.o))
 (case aS=>exact (aH (bq2 HB.o (aD.ge A1.o) A8.o)))
 (case aL=>have:=C2.o;omega)
 intro Cj Cu ho hb hg hat
 rw [← Az.o] at ho
 have n_:=ak5 (aD.grown (aD.q1 A1.o A5.o) hg (aD.own_neN A1.o Aj.o (by decide))) (Kd.S_after (ok:=(fun k_=>(w.heap.size≤k_)∧k_≠A6∧k_≠A3)) (kqS A4.o) hg hat) (cB (g:=A3) (o:=.cells #[.int .i64 Ab,.int .i64 Ac,.int .i64 Ad,.int .i64 Ae,.slice Ah A7.length Ai] 26 (0,0)) (zq A2.o) hg (Kd.N_ne Aj.o A2.o (by decide))) hb ho
 clear A1 A4 A2 HB Aj
 obtain ⟨A1,A4,A2,HB,B0⟩:=n_
 clear ho hb hg hat
 refine hK.out _ _ ⟨(aA A2.o 0).trans rfl,(aA A2.o 1).trans rfl,(aA A2.o 2).trans rfl,(aA A2.o 3).trans rfl,(aA A2.o 4).trans rfl⟩ (fun hHeld=>?_)
 clear hK K
 refine bZ (a':=?_) ?_ ?_
 rotate_left
 · show Act.put _ (some 17) _=_
   simp only [Act.put,kX,kY,kZ,aI,aK]
   rfl
 refine pv HT_ 6 (some 2) #[T,T,T,T,T,T,T,F] ?_
 refine pv HT_ 7 (some 3) #[T,T,T,T,T,T,T,T] ?_
 refine d5 (cL HT_.o (by kernel_rfl)) ?_
 try go_wp2
 go_ret2
 exact ⟨_,_,rq,by (with_reducible repeat (first|apply Kd.S_alloc|apply Kd.S_drewN|apply Kd.S_drew));exact Kd.S_mono A4.o (fun _ hk=>hk.2),by (with_reducible repeat (first|apply Kd.S_alloc|apply Kd.S_drewN|apply Kd.S_drew));exact Kd.S_mono B0.o (fun _ hk=>hk.2.1),bq2 HB.o (aD.ge A1.o) A8.o⟩
end Go.Proofs.Ytgppikopdpeigaa.XFnPdus
