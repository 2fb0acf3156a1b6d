/- The functions that one law reaches, as Lean functions, with their walks: printed by a program of this seat (wip/tools) out of the translation. -/
import Derived.Test.YtgppikopdpeigaaXFnPdusx0
namespace Go.Proofs.Ytgppikopdpeigaa.XFnPdus
open Go.RowKit Go.Proofs.YtgppikopdpeigaaW.PrintWords Go.Proofs.YtgppikopdpeigaaW.PrintLast Go.Proofs.YtgppikopdpeigaaW.PrintMore
attribute [local go_sem] cO cP dH dI cC cD cQ cR
set_option linter.unusedVariables false
set_option linter.unusedSimpArgs false
set_option maxHeartbeats 8000000
set_option maxRecDepth 100000
def fY.f (l0:List Int):Option (Bool):=some (decide ((l0.length:Int)>1048576))
theorem fY.calls (A0:Option Addr) (c0:Nat) (l0:List Int) (r:Bool) (w:World) (A1:Kd.C (Kd.int .u8) w A0 l0.length l0) (A2:l0.length≤c0) (h:fY.f l0=some r):
 Calls Try.prog 4 #[.slice A0 l0.length c0] w fun e w'=>e=.returned (.bool r)∧Drawn0 w w':=by
 have A3:=am A1
 have A4:=am A2
 clear A1 A2
 have H:=h
 clear h
 unfold fY.f at H
 obtain rfl:=k6 H
 go_enter Try.func4,Try.ntmps4
 go_wp2
 go_ret
 exact ⟨by first|rfl|(simp;done)|(simp [*];done),by repeat (first|exact Drawn0.refl _|apply Drawn0.step)⟩
def aD (w0 W:World) (g:Nat) (f0:List Int) (f1:Int) (f2:Int):Prop:=∃A0 c0,W.heap[g]? =some (.cells #[.slice A0 f0.length c0,.int .i64 f1,.int .i64 f2] 77 (0,0))∧w0.heap.size≤g∧(Kd.C (Kd.int .u8) w0 A0 f0.length f0∧f0.length≤c0)
theorem aD.grown {w0 W:World} {g:Nat} {f0:List Int} {f1:Int} {f2:Int} {W1:World} {row:Option Nat} (h:aD w0 W g f0 f1 f2) (hw:W.grownBy W1 row) (hne:some g≠row):aD w0 W1 g f0 f1 f2:=by
 obtain ⟨A0,c0,hb,hg,A1⟩:=h
 exact ⟨A0,c0,cB hb hw hne,hg,A1⟩
theorem aD.own_neN {w0 W:World} {g:Nat} {f0:List Int} {f1:Int} {f2:Int} {α:Type} {d:Kd α} {e:Nat} {base:Nat} {ok:Nat→Prop} {v:Value} {xs:List α} (h:aD w0 W g f0 f1 f2) (ho:Kd.N d e W base ok v xs) (ht:e≠77):some g≠v.ownBlock:=by
 obtain ⟨A0,c0,hb,hg,A1⟩:=h
 exact Kd.N_ne ho hb ht
theorem aD.fresh {w0 W:World} {g:Nat} {f0:List Int} {f1:Int} {f2:Int} (h:aD w0 W g f0 f1 f2):∀k,W.heap.size≤k→k≠g:=by
 obtain ⟨A0,c0,hb,hg,A1⟩:=h
 exact Kd.freshB hb
theorem aD.kept {w0 W:World} {g:Nat} {f0:List Int} {f1:Int} {f2:Int} {W1:World} {S:Nat→Prop} (h:aD w0 W g f0 f1 f2) (hk:cE W W1 S) (hne:¬S g):aD w0 W1 g f0 f1 f2:=by
 obtain ⟨A0,c0,hb,hg,A1⟩:=h
 exact ⟨A0,c0,hZ hb hk hne,hg,A1⟩
theorem aD.below {w0 W:World} {g:Nat} {f0:List Int} {f1:Int} {f2:Int} {W1:World} (h:aD w0 W g f0 f1 f2) (hw:Below W.heap.size W W1):aD w0 W1 g f0 f1 f2:=h.grown (fD hw none) (by simp)
theorem aD.alloc {w0 W:World} {g:Nat} {f0:List Int} {f1:Int} {f2:Int} (h:aD w0 W g f0 f1 f2) (o:Obj):aD w0 (W.alloc o) g f0 f1 f2:=h.below (dB (Below.refl _ _) o)
theorem aD.drewN {w0 W:World} {g:Nat} {f0:List Int} {f1:Int} {f2:Int} (h:aD w0 W g f0 f1 f2) (m:Nat):aD w0 (W.drewN m) g f0 f1 f2:=h
theorem aD.drew {w0 W:World} {g:Nat} {f0:List Int} {f1:Int} {f2:Int} (h:aD w0 W g f0 f1 f2):aD w0 W.drew g f0 f1 f2:=h
theorem aD.at_ {w0 W:World} {g:Nat} {f0:List Int} {f1:Int} {f2:Int} {w':World} {m:Nat} (hq:W.drewN m=w') (h:aD w0 W g f0 f1 f2):aD w0 w' g f0 f1 f2:=by subst hq;exact aD.drewN h m
theorem aD.apart {w0 W:World} {g:Nat} {f0:List Int} {f1:Int} {f2:Int} {α:Type} {d:Kd α} {e:Nat} {base:Nat} {ok:Nat→Prop} {v:Value} {xs:List α} (h:aD w0 W g f0 f1 f2) (ho:d.R e W base ok v xs) (ht:∀q,q ∈ e::d.E→q≠77):d.R e W base (fun k=>ok k∧k≠g) v xs:=by
 obtain ⟨A0,c0,hb,hg,A1⟩:=h
 exact Kd.R_types ho hb ht
theorem aD.own_ne {w0 W:World} {g:Nat} {f0:List Int} {f1:Int} {f2:Int} {α:Type} {d:Kd α} {e:Nat} {base:Nat} {ok:Nat→Prop} {v:Value} {xs:List α} (h:aD w0 W g f0 f1 f2) (ho:d.R e W base ok v xs) (ht:e≠77):some g≠v.ownBlock:=by
 obtain ⟨A0,c0,hb,hg,A1⟩:=h
 exact Kd.R_ne ho hb ht
theorem aD.apartQ {w0 W:World} {g:Nat} {f0:List Int} {f1:Int} {f2:Int} {α:Type} {d:Kd α} {e:Nat} {base:Nat} {ok:Nat→Prop} {v:Value} {xs:List α} (h:aD w0 W g f0 f1 f2) (ho:d.Q e W base ok v xs) (ht:∀q,q ∈ e::d.E→q≠77):d.Q e W base (fun k=>ok k∧k≠g) v xs:=by
 obtain ⟨A0,c0,hb,hg,A1⟩:=h
 exact Kd.Q_types ho hb ht
theorem aD.own_neQ {w0 W:World} {g:Nat} {f0:List Int} {f1:Int} {f2:Int} {α:Type} {d:Kd α} {e:Nat} {base:Nat} {ok:Nat→Prop} {v:Value} {xs:List α} (h:aD w0 W g f0 f1 f2) (ho:d.Q e W base ok v xs) (ht:e≠77):some g≠v.ownBlock:=by
 obtain ⟨A0,c0,hb,hg,A1⟩:=h
 exact Kd.Q_ne ho hb ht
theorem aD.apartS {w0 W:World} {g:Nat} {f0:List Int} {f1:Int} {f2:Int} {α:Type} {d:Kd α} {e:Nat} {base:Nat} {ok:Nat→Prop} {v:Value} {xs:List α} (h:aD w0 W g f0 f1 f2) (ho:d.S e W base ok v xs) (ht:∀q,q ∈ e::d.E→q≠77):d.S e W base (fun k=>ok k∧k≠g) v xs:=by
 obtain ⟨A0,c0,hb,hg,A1⟩:=h
 exact Kd.S_types ho hb ht
theorem aD.own_neS {w0 W:World} {g:Nat} {f0:List Int} {f1:Int} {f2:Int} {α:Type} {d:Kd α} {e:Nat} {base:Nat} {ok:Nat→Prop} {v:Value} {xs:List α} (h:aD w0 W g f0 f1 f2) (ho:d.S e W base ok v xs) (ht:e≠77):some g≠v.ownBlock:=by
 obtain ⟨A0,c0,hb,hg,A1⟩:=h
 exact Kd.S_ne ho hb ht
theorem aD.lt {w0 W:World} {g:Nat} {f0:List Int} {f1:Int} {f2:Int} (h:aD w0 W g f0 f1 f2):g<W.heap.size:=by
 obtain ⟨A0,c0,hb,hg,A1⟩:=h
 exact e8 hb
theorem aD.ge {w0 W:World} {g:Nat} {f0:List Int} {f1:Int} {f2:Int} (h:aD w0 W g f0 f1 f2):w0.heap.size≤g:=by
 obtain ⟨A0,c0,hb,hg,A1⟩:=h
 exact hg
theorem aD.ne_blk {w0 W:World} {g:Nat} {f0:List Int} {f1:Int} {f2:Int} {a:Nat} {cs:Array Value} {t:TypeId} {fr:Nat × Nat} (h:aD w0 W g f0 f1 f2) (A1:W.heap[a]? =some (.cells cs t fr)) (ht:t≠77):g≠a:=by
 obtain ⟨A0,c0,hb,hg,A3⟩:=h
 rintro rfl
 rw [hb] at A1
 injection A1 with A1
 injection A1 with _ A2
 exact ht A2.symm
theorem aD.far {w0 W:World} {g:Nat} {f0:List Int} {f1:Int} {f2:Int} {p:Addr} (h:aD w0 W g f0 f1 f2) (hne:g≠p.block) (u:Value):aD w0 (W.setCell p u) g f0 f1 f2:=by
 obtain ⟨A0,c0,hb,hg,A1⟩:=h
 exact ⟨A0,c0,aN hb hne u,hg,A1⟩
theorem iL {W:World} {g:Nat} {A0:Option Addr} {c0:Nat} {f0:List Int} {f1:Int} {f2:Int} (h:W.heap[g]? =some (.cells #[.slice A0 f0.length c0,.int .i64 f1,.int .i64 f2] 77 (0,0))):W.cell? ⟨g,0,none⟩=some (.slice A0 f0.length c0):=(aA h 0).trans rfl
theorem iM {W:World} {g:Nat} {A0:Option Addr} {c0:Nat} {f0:List Int} {f1:Int} {f2:Int} (h:W.heap[g]? =some (.cells #[.slice A0 f0.length c0,.int .i64 f1,.int .i64 f2] 77 (0,0))):W.cell? ⟨g,1,none⟩=some (.int .i64 f1):=(aA h 1).trans rfl
theorem aD.set_1 {w0 W:World} {g:Nat} {f0:List Int} {f1:Int} {f2:Int} (h:aD w0 W g f0 f1 f2) (x:Int):aD w0 (W.setCell ⟨g,1,none⟩ (.int .i64 x)) g f0 x f2:=by
 obtain ⟨A0,c0,hb,hg,A1⟩:=h
 exact ⟨A0,c0,by simpa using f5 hb 1 (.int .i64 x),hg,A1⟩
theorem iN {W:World} {g:Nat} {A0:Option Addr} {c0:Nat} {f0:List Int} {f1:Int} {f2:Int} (h:W.heap[g]? =some (.cells #[.slice A0 f0.length c0,.int .i64 f1,.int .i64 f2] 77 (0,0))):W.cell? ⟨g,2,none⟩=some (.int .i64 f2):=(aA h 2).trans rfl
theorem aD.set_2 {w0 W:World} {g:Nat} {f0:List Int} {f1:Int} {f2:Int} (h:aD w0 W g f0 f1 f2) (x:Int):aD w0 (W.setCell ⟨g,2,none⟩ (.int .i64 x)) g f0 f1 x:=by
 obtain ⟨A0,c0,hb,hg,A1⟩:=h
 exact ⟨A0,c0,by simpa using f5 hb 2 (.int .i64 x),hg,A1⟩
theorem aD.new (w0 W:World) (A0:Option Addr) (c0:Nat) (f0:List Int) (f1:Int) (f2:Int) (hB:Below w0.heap.size w0 W) (A1:Kd.C (Kd.int .u8) w0 A0 f0.length f0∧f0.length≤c0):aD w0 (W.alloc (.cells #[.slice A0 f0.length c0,.int .i64 f1,.int .i64 f2] 77)) W.heap.size f0 f1 f2:=⟨A0,c0,by simpa using heap_alloc_new W _,hB.size,A1⟩
theorem aD.q0 {a b:Prop} (h:a) (g:a→b:=by intro h_;repeat (first|(with_reducible first|exact h_|apply aD.alloc|apply aD.drewN|apply aD.drew|apply aD.set_1|apply aD.set_2)|exact h_)):b:=g h
theorem aD.q1 {a b:Prop} {c0:Prop} (h:a) (h0:c0) (g:a→c0→b:=by intro h_ A0;repeat (first|(with_reducible first|exact h_|apply aD.alloc|apply aD.drewN|apply aD.drew|apply aD.set_1|apply aD.set_2|refine aD.far ?_ A0 _)|exact h_)):b:=g h h0
theorem aD.q2 {a b:Prop} {c0:Prop} {c1:Prop} (h:a) (h0:c0) (h1:c1) (g:a→c0→c1→b:=by intro h_ A0 A1;repeat (first|(with_reducible first|exact h_|apply aD.alloc|apply aD.drewN|apply aD.drew|apply aD.set_1|apply aD.set_2|refine aD.far ?_ A0 _|refine aD.far ?_ A1 _)|exact h_)):b:=g h h0 h1
theorem aD.q3 {a b:Prop} {c0:Prop} {c1:Prop} {c2:Prop} (h:a) (h0:c0) (h1:c1) (h2:c2) (g:a→c0→c1→c2→b:=by intro h_ A0 A1 A2;repeat (first|(with_reducible first|exact h_|apply aD.alloc|apply aD.drewN|apply aD.drew|apply aD.set_1|apply aD.set_2|refine aD.far ?_ A0 _|refine aD.far ?_ A1 _|refine aD.far ?_ A2 _)|exact h_)):b:=g h h0 h1 h2
def dS.l0:Nat→List Int→Int→Int→Option (List Int × Int × Int)
 |0,_,_,_=>none
 |k+1,x0,x3,x4=>if x4<(x0.length:Int) then (if x4<4000 then (if 0≤x4 then (dS.l0 k x0 (Go.bits .and .i64 (wrap64 ((wrap64 ((wrap64 (x3*137))+(wrap64 (rd x0 x4))))+11)) 1073741823) (wrap64 (x4+1))) else (none)) else (some (x0,0,x3))) else (some (x0,0,x3))
def dS.f (k:Nat) (l0:List Int):Option (List Int × Int × Int):=dS.l0 k l0 (wrap64 (762762+(l0.length:Int))) 0
theorem dS.calls (k:Nat) (A0:Option Addr) (c0:Nat) (l0:List Int) (r1:List Int) (r2:Int) (r3:Int) (w0 w:World) (hB:Below w0.heap.size w0 w) (Ai:Kd.C (Kd.int .u8) w0 A0 l0.length l0) (Aj:l0.length≤c0) (h:dS.f k l0=some (r1,r2,r3)):
 Calls Try.prog 17 #[.slice A0 l0.length c0] w fun e w'=>∃g_:Nat,e=.returned (.pointer (some ⟨g_,0,none⟩))∧aD w0 w' g_ r1 r2 r3∧Below w0.heap.size w0 w'∧Below w.heap.size w w':=by
 have Ao:=Try.underlying77
 have Ae:=am Ai
 have Ak:=am Aj
 clear Ai Aj
 have HBW:=am (Below.refl w.heap.size w)
 have Al:=am hB.size
 have HB:=am hB
 clear hB
 have H:=h
 clear h
 unfold dS.f at H
 have H':=am H
 clear H
 go_enter Try.func17,Try.ntmps17
 go_wp2
 go_loopg [3,4] k (fun kq v3 v4 w'=>∃(A1:Int) (A2:Int),v3=.int .i64 A1∧v4=.int .i64 A2∧Aside0 (dS.l0 kq l0 A1 A2=some (r1,r2,r3))∧Aside0 (kq≤k)∧Aside0 (Below w0.heap.size w0 w')∧Aside0 (Below w.heap.size w w'))
 case atStart=>exact ⟨(wrap64 (762762+(l0.length:Int))),(0),sq,sq,H',⟨k7 _⟩,⟨bq HB.o⟩,⟨bq HBW.o⟩⟩
 case round=>
  clear H'
  try clear c1
  obtain ⟨A1,A2,rfl,rfl,HA,Am,HB,HBW⟩:=hrel
  cases gk with
  |zero=>exact absurd HA.o (by simp [dS.l0])
  |succ k1=>
   have H:=HA.o
   clear HA
   simp only [dS.l0] at H
   replace H:=il' H
   rcases H with ⟨-,Af,H⟩|⟨-,Af,H⟩
   · simp only [k4,k5] at H
     obtain ⟨rfl,rfl,rfl⟩:=H
     go_wp2_with (first|((with_reducible refine aJ (N:=31) rfl ?_);refine bxe 31 #[.slice A0 l0.length c0,.int .i64 0,.int .i64 A1] 77 ?_;intro A4 hg w6 hbox hb;have n_:=ak5 (aC HBW.o hb) (aC (bq HB.o) hb) hbox (bz hg (bq HBW.o)) ((Nat.le_trans Al.o (by rw [hg];exact (aH (bq HBW.o)):w.heap.size≤A4):w0.heap.size≤A4));clear HBW HB;obtain ⟨HBW,HB,Aa,Ab,A6⟩:=n_;clear hb hbox hg))
     go_ret
     exact ⟨_,rfl,(show aD w0 _ A4 l0 0 A1 from ⟨_,_,zq Aa.o,A6.o,⟨Ae.o,Ak.o⟩⟩),bq1 HB.o A6.o,bq1 HBW.o Ab.o⟩
   replace H:=il' H
   rcases H with ⟨-,Ag,H⟩|⟨-,Ag,H⟩
   · simp only [k4,k5] at H
     obtain ⟨rfl,rfl,rfl⟩:=H
     go_wp2_with (first|((with_reducible refine aJ (N:=31) rfl ?_);refine bxe 31 #[.slice A0 l0.length c0,.int .i64 0,.int .i64 A1] 77 ?_;intro A5 hg w5 hbox hb;have n_:=ak5 (aC HBW.o hb) (aC (bq HB.o) hb) hbox (bz hg (bq HBW.o)) ((Nat.le_trans Al.o (by rw [hg];exact (aH (bq HBW.o)):w.heap.size≤A5):w0.heap.size≤A5));clear HBW HB;obtain ⟨HBW,HB,Ac,Ad,A7⟩:=n_;clear hb hbox hg))
     go_ret
     exact ⟨_,rfl,(show aD w0 _ A5 l0 0 A1 from ⟨_,_,zq Ac.o,A7.o,⟨Ae.o,Ak.o⟩⟩),bq1 HB.o A7.o,bq1 HBW.o Ad.o⟩
   replace H:=nl H
   obtain ⟨-,Ap,H⟩:=H
   have H':=am H
   clear H
   have A8:0≤(A2:Int):=oda
   have A9:A2<(l0.length:Int):=oda
   obtain ⟨An,Ah,A3⟩:=Kd.at_int Ae.o A2 A8 A9
   cases Ah
   replace A3:=e9 HB.o A3
   replace A8:=eq_true A8
   replace A9:=eq_true A9
   go_wp2
   go_roundg k1
   case measure=>have:=Am.o;omega
   case rel=>exact ⟨(Go.bits .and .i64 (wrap64 ((wrap64 ((wrap64 (A1*137))+(wrap64 (rd l0 A2))))+11)) 1073741823),(wrap64 (A2+1)),sq,sq,H',⟨by have:=Am.o;omega⟩,⟨bq HB.o⟩,⟨bq HBW.o⟩⟩
def eI.f (A2:List Int) (A1:Int) (A0:Int):Option (Int × Int × Int):=if A1<(A2.length:Int) then (if 0≤A1 then (some (Go.bits .and .i64 (wrap64 ((Go.bits .and .i64 (Go.bits .xor .i64 ((wrap64 ((wrap64 (A0*6364136223846793005))+1442695040888963407)) / 8589934592) ((wrap64 ((wrap64 (A0*6364136223846793005))+1442695040888963407)) / 140737488355328)) 255)+(wrap64 (rd A2 A1)))) 255,wrap64 (A1+1),wrap64 ((wrap64 (A0*6364136223846793005))+1442695040888963407))) else (none)) else (some (Go.bits .and .i64 (Go.bits .xor .i64 ((wrap64 ((wrap64 (A0*6364136223846793005))+1442695040888963407)) / 8589934592) ((wrap64 ((wrap64 (A0*6364136223846793005))+1442695040888963407)) / 140737488355328)) 255,A1,wrap64 ((wrap64 (A0*6364136223846793005))+1442695040888963407)))
theorem eI.calls (g:Nat) (A5:List Int) (A4:Int) (A6:Int) (r1:Int) (r2:Int) (r3:Int) (w0 w:World) (hI:aD w0 w g A5 A4 A6) (hB:Below w0.heap.size w0 w) (h:eI.f A5 A4 A6=some (r1,r2,r3)):
 Calls Try.prog 69 #[.pointer (some ⟨g,0,none⟩)] w fun e w'=>e=.returned (.int .i64 r1)∧aD w0 w' g A5 r2 r3∧Below w0.heap.size w0 w'∧KeepBut w w' g none:=by
 have A7:=am hI
 have HK:=am (KeepBut.refl w g none)
 have HL:=am hB.size
 clear hI
 have Ax:=am hB.size
 have HB:=am hB
 clear hB
 have H:=h
 clear h
 unfold eI.f at H
 replace H:=il' H
 rcases H with ⟨-,Ad,H⟩|⟨-,Ad,H⟩
 · simp only [k4,k5] at H
   obtain ⟨rfl,rfl,rfl⟩:=H
   obtain ⟨Ae,Af,A2,Ag,Ah⟩:=A7.o
   have Ai:=iL A2
   have Aj:=iM A2
   have Ak:=iN A2
   have Al:=aM A2 1
   have Am:=aM A2 2
   clear A2 Ag
   go_enter Try.func69,Try.ntmps69
   try go_wp2
   repeat (go_quiet (fail);try go_wp2)
   go_ret
   exact ⟨rq,aD.q0 A7.o,bq1 HB.o (aD.ge A7.o),kp0 HK.o⟩
 replace H:=nl H
 obtain ⟨-,Aw,H⟩:=H
 simp only [k4,k5] at H
 obtain ⟨rfl,rfl,rfl⟩:=H
 obtain ⟨An,Ao,A3,Ap,A8⟩:=A7.o
 have Aq:=iL A3
 have Ar:=iM A3
 have As:=iN A3
 have At:=aM A3 1
 have Au:=aM A3 2
 clear A3 Ap
 have A9:0≤(A4:Int):=oda
 have Aa:A4<(A5.length:Int):=oda
 obtain ⟨Ab,Av,A0⟩:=Kd.at_int A8.1 A4 A9 Aa
 cases Av
 have A1:Ab.block≠g:=Nat.ne_of_lt (Nat.lt_of_lt_of_le (by have:=kW _ _ A0;first|rwa [fX] at this|exact this) (aD.ge A7.o))
 replace A0:=e9 HB.o A0
 replace A0:=(j8 (p:=⟨g,2,none⟩) (by first|(rw [fX];exact A1)|(show (Addr.add _ _).block≠_;rw [fX];exact A1)|exact A1) (.int .i64 (wrap64 ((wrap64 (A6*6364136223846793005))+1442695040888963407)))).trans A0
 (try have Ac:=fun (n_:Nat)=>(show (((w.drewN n_).setCell ⟨g,2,none⟩ (.int .i64 (wrap64 ((wrap64 (A6*6364136223846793005))+1442695040888963407))))).cell? _=some _ from A0))
 clear A1
 replace A9:=eq_true A9
 replace Aa:=eq_true Aa
 go_enter Try.func69,Try.ntmps69
 try go_wp2
 repeat (go_quiet (fail);try go_wp2)
 go_ret
 exact ⟨rq,aD.q0 A7.o,bq1 HB.o (aD.ge A7.o),kp0 HK.o⟩
def a6.f (A4:List Int) (A5:Int) (A6:Int) (a1:Int):Option (Int × Int × Int):=if a1≤0 then (some (0,A5,A6)) else (if a1≤256 then ((eI.f A4 A5 A6).bind fun A0=>(if a1=0 then (none) else (some (Int.tmod A0.1 a1,A0.2.1,A0.2.2)))) else ((eI.f A4 A5 A6).bind fun A1=>((eI.f A4 A1.2.1 A1.2.2).bind fun A2=>((eI.f A4 A2.2.1 A2.2.2).bind fun A3=>(if a1=0 then (none) else (some (Int.tmod (wrap64 ((wrap64 ((wrap64 (A1.1*65536))+(wrap64 (A2.1*256))))+A3.1)) a1,A3.2.1,A3.2.2)))))))
theorem a6.calls (g:Nat) (A1:List Int) (A5:Int) (A6:Int) (a1:Int) (r1:Int) (r2:Int) (r3:Int) (w0 w:World) (hI:aD w0 w g A1 A5 A6) (hB:Below w0.heap.size w0 w) (h:a6.f A1 A5 A6 a1=some (r1,r2,r3)):
 Calls Try.prog 47 #[.pointer (some ⟨g,0,none⟩),.int .i64 a1] w fun e w'=>e=.returned (.int .i64 r1)∧aD w0 w' g A1 r2 r3∧Below w0.heap.size w0 w'∧KeepBut w w' g none:=by
 have A0:=am hI
 have HK:=am (KeepBut.refl w g none)
 have HL:=am hB.size
 clear hI
 have An:=am hB.size
 have HB:=am hB
 clear hB
 have H:=h
 clear h
 unfold a6.f at H
 replace H:=il H
 rcases H with ⟨-,Ad,H⟩|⟨-,Ad,H⟩
 have z0:=trivial
 rotate_left
 replace H:=il H
 rcases H with ⟨-,Ae,H⟩|⟨-,Ae,H⟩
 replace H:=be H
 obtain ⟨⟨A4,A2,A3⟩,Af,H⟩:=H
 try dsimp only at H
 replace H:=ip H
 rcases H with ⟨c6,H⟩|⟨c6,H⟩
 · exact absurd H (by simp)
 have Aj:(a1==0)=false:=beq_eq_false_iff_ne.mpr c6
 have Ak:(a1 !=0)=true:=bne_iff_ne.mpr c6
 have z1:=trivial
 rotate_left
 replace H:=be H
 obtain ⟨⟨A4,A2,A3⟩,Af,H⟩:=H
 try dsimp only at H
 replace H:=be H
 obtain ⟨⟨A9,A7,A8⟩,Al,H⟩:=H
 try dsimp only at H
 replace H:=be H
 obtain ⟨⟨Aa,Ab,Ac⟩,Am,H⟩:=H
 try dsimp only at H
 replace H:=ip H
 rcases H with ⟨Ag,H⟩|⟨Ag,H⟩
 · exact absurd H (by simp)
 have Ah:(a1==0)=false:=beq_eq_false_iff_ne.mpr Ag
 have Ai:(a1 !=0)=true:=bne_iff_ne.mpr Ag
 have z2:=trivial
 rotate_right
 rotate_right
 all_goals
  simp only [k4,k5] at H
  obtain ⟨rfl,rfl,rfl⟩:=H
  go_enter Try.func47,Try.ntmps47
  go_wp2_with (first|((with_reducible refine aE (f:=69) rfl ?_);have:=z2;refine gc (some 19) (eI.calls g A1 A2 A3 A9 A7 A8 w0 _ (aD.q0 A0.o) (bq1 HB.o (aD.ge A0.o)) Al.o) Try.func69 ?_;rintro e w_ ⟨rfl,hi,hb,hk⟩;refine ⟨_,rfl,?_⟩;have n_:=ak3 (KeepBut.trans (kp0 HK.o) hk (.inl rfl)) hb hi;clear HK HB A0;obtain ⟨HK,HB,A0⟩:=n_;(try clear hb hk hi))|((with_reducible refine aE (f:=69) rfl ?_);have:=z2;refine gc (some 21) (eI.calls g A1 A7 A8 Aa Ab Ac w0 _ (aD.q0 A0.o) (bq1 HB.o (aD.ge A0.o)) Am.o) Try.func69 ?_;rintro e w_ ⟨rfl,hi,hb,hk⟩;refine ⟨_,rfl,?_⟩;have n_:=ak3 (KeepBut.trans (kp0 HK.o) hk (.inl rfl)) hb hi;clear HK HB A0;obtain ⟨HK,HB,A0⟩:=n_;(try clear hb hk hi))|((with_reducible refine aE (f:=69) rfl ?_);have:=z1;refine gc (some 13) (eI.calls g A1 A5 A6 A4 A2 A3 w0 _ (aD.q0 A0.o) (bq1 HB.o (aD.ge A0.o)) Af.o) Try.func69 ?_;rintro e w_ ⟨rfl,hi,hb,hk⟩;refine ⟨_,rfl,?_⟩;have n_:=ak3 (KeepBut.trans (kp0 HK.o) hk (.inl rfl)) hb hi;clear HK HB A0;obtain ⟨HK,HB,A0⟩:=n_;(try clear hb hk hi))|((with_reducible refine aE (f:=69) rfl ?_);have:=z2;refine gc (some 17) (eI.calls g A1 A5 A6 A4 A2 A3 w0 _ (aD.q0 A0.o) (bq1 HB.o (aD.ge A0.o)) Af.o) Try.func69 ?_;rintro e w_ ⟨rfl,hi,hb,hk⟩;refine ⟨_,rfl,?_⟩;have n_:=ak3 (KeepBut.trans (kp0 HK.o) hk (.inl rfl)) hb hi;clear HK HB A0;obtain ⟨HK,HB,A0⟩:=n_;(try clear hb hk hi)))
  go_ret
  exact ⟨rq,aD.q0 A0.o,bq1 HB.o (aD.ge A0.o),kp0 HK.o⟩
def cY.f (A1:List Int) (A2:Int) (A3:Int) (l1:List Int):Option (Int × Int × Int):=(a6.f A1 A2 A3 (l1.length:Int)).bind fun A0=>(if 0≤A0.1 then (if A0.1<(l1.length:Int) then (some (rd l1 A0.1,A0.2.1,A0.2.2)) else (none)) else (none))
theorem cY.calls (g:Nat) (A3:List Int) (A4:Int) (A5:Int) (A1:Option Addr) (c1:Nat) (l1:List Int) (r1:Int) (r2:Int) (r3:Int) (w0 w:World) (hI:aD w0 w g A3 A4 A5) (hB:Below w0.heap.size w0 w) (Ae:Kd.C (Kd.int .i64) w A1 l1.length l1) (Af:l1.length≤c1) (Ac:∀ad,A1=some ad→0<l1.length→ad.block≠g) (h:cY.f A3 A4 A5 l1=some (r1,r2,r3)):
 Calls Try.prog 48 #[.pointer (some ⟨g,0,none⟩),.slice A1 l1.length c1] w fun e w'=>e=.returned (.int .i64 r1)∧aD w0 w' g A3 r2 r3∧Below w0.heap.size w0 w'∧KeepBut w w' g none:=by
 have Ag:=am Ae
 have Ak:=am Af
 clear Ae Af
 have A8:=am hI
 have HK:=am (KeepBut.refl w g none)
 have HL:=am hB.size
 clear hI
 have Al:=am hB.size
 have HB:=am hB
 clear hB
 have H:=h
 clear h
 unfold cY.f at H
 replace H:=be H
 obtain ⟨⟨A0,A9,Aa⟩,Ah,H⟩:=H
 try dsimp only at H
 replace H:=nl H
 obtain ⟨-,Ai,H⟩:=H
 replace H:=nl H
 obtain ⟨-,Aj,H⟩:=H
 simp only [k4,k5] at H
 obtain ⟨rfl,rfl,rfl⟩:=H
 go_enter Try.func48,Try.ntmps48
 go_wp2_with (first|((with_reducible refine aE (f:=47) rfl ?_);refine gc (some 9) (a6.calls g A3 A4 A5 (l1.length:Int) A0 A9 Aa w0 _ (aD.q0 A8.o) (bq1 HB.o (aD.ge A8.o)) Ah.o) Try.func47 ?_;rintro e w6 ⟨rfl,hi,hb,hk⟩;refine ⟨_,rfl,?_⟩;have n_:=ak3 (KeepBut.trans (kp0 HK.o) hk (.inl rfl)) hb hi;clear HK HB A8;obtain ⟨HK,HB,A8⟩:=n_;(try clear hb hk hi);have A6:0≤(A0:Int):=oda;have A7:A0<(l1.length:Int):=oda;obtain ⟨Ab,Ad,A2⟩:=Kd.at_int Ag.o A0 A6 A7;cases Ad;replace A2:=iG HK.o A2 (by first|(rw [fX];exact Ac _ rfl (by omega))|exact Ac _ rfl (by omega)|exact Ac Ab rfl (by omega));replace A6:=eq_true A6;replace A7:=eq_true A7))
 go_ret
 exact ⟨rq,aD.q0 A8.o,bq1 HB.o (aD.ge A8.o),kp0 HK.o⟩
def cM.l0:Nat→List Int→Int→List Int→Int→Int→Option (List Int × Int × Int)
 |0,_,_,_,_,_=>none
 |k+1,x3,x4,A1,A2,A3=>if x4>0 then ((cY.f A1 A2 A3 (([0,1,2,3,127,128,16384,100000]:List Int))).bind fun A0=>(if x3.length<17592186044416 then (cM.l0 k (x3++[A0.1]) (wrap64 (x4 - 1)) A1 A0.2.1 A0.2.2) else (none))) else (some (x3,A2,A3))
def cM.f (k:Nat) (A1:List Int) (A2:Int) (A3:Int):Option (List Int × Int × Int):=(a6.f A1 A2 A3 6).bind fun A0=>(cM.l0 k (([]:List Int)) (wrap64 (1+A0.1)) A1 A0.2.1 A0.2.2)
theorem cM.calls (k:Nat) (g:Nat) (A5:List Int) (Aa:Int) (Ab:Int) (r1:List Int) (r2:Int) (r3:Int) (w0 w:World) (hI:aD w0 w g A5 Aa Ab) (hB:Below w0.heap.size w0 w) (h:cM.f k A5 Aa Ab=some (r1,r2,r3)):
 Calls Try.prog 51 #[.pointer (some ⟨g,0,none⟩)] w fun e w'=>∃Ay:Value,e=.returned (Ay)∧Kd.R (Kd.int .i64) 3 w' w.heap.size (fun _=>True) Ay r1∧aD w0 w' g A5 r2 r3∧Below w0.heap.size w0 w'∧KeepBut w w' g none:=by
 have A3:=am hI
 have HK:=am (KeepBut.refl w g none)
 have HL:=am hB.size
 clear hI
 have B5:=am hB.size
 have HB:=am hB
 clear hB
 have H:=h
 clear h
 unfold cM.f at H
 generalize Ad:((([]:List Int)):List Int)=Ar at H
 have Ae:=am Ad.symm
 clear Ad
 replace H:=be H
 obtain ⟨⟨Af,Ag,Ah⟩,B0,H⟩:=H
 try dsimp only at H
 have H':=am H
 clear H
 go_enter Try.func51,Try.ntmps51
 go_wp2_with (first|((with_reducible refine aJ (N:=5) rfl ?_);refine Kd.R_lit (Kd.int .i64) _ 3 ?hg (N:=5) ?hd (xs:=([]:List Int)) (inner:=[]) (ok:=fun _=>True) (okp:=fun _=>True) ?hr ?hp (fun _ hk=>hk) trivial (Below.refl _ _) (k7 _) (by simp) ?_;(case hd=>rfl);(case hg=>rfl);(case hr=>exact gs);(case hp=>exact (bD.none _ _));intro B1 w3 An hb hg_ hnew_;clear hg_ hnew_;(first|rw [← Ae.o] at An|(simp only [Int.reduceToNat] at An;rw [← Ae.o] at An));have n_:=ak4 (Kd.R_lower An (a8 (w:=w) (g:=g) (row:=none) (kp0 HK.o))) (aD.below (aD.q0 A3.o) hb) (KeepBut.trans (kp0 HK.o) (KeepBut.of_below hb g none) (.inl rfl)) (aC (bq1 HB.o (aD.ge A3.o)) hb);clear A3 HK HB;obtain ⟨A6,A3,HK,HB⟩:=n_;clear hb An)|((with_reducible refine aE (f:=47) rfl ?_);refine gc (some 7) (a6.calls g A5 Aa Ab 6 Af Ag Ah w0 _ (aD.q0 A3.o) (bq1 HB.o (aD.ge A3.o)) B0.o) Try.func47 ?_;rintro e w5 ⟨rfl,hi,hb,hk⟩;refine ⟨_,rfl,?_⟩;have n_:=ak4 (Kd.R_mono (Kd.R_keep (aD.apart (show aD w0 _ g A5 Aa Ab from aD.q0 A3.o) (kqR A6.o) (by decide)) hk (fun _ h=>h.2)) (fun _ h=>h.1)) (KeepBut.trans (kp0 HK.o) hk (.inl rfl)) hb hi;clear A6 HK HB A3;obtain ⟨A6,HK,HB,A3⟩:=n_;(try clear hb hk hi)))
 go_loopg [3,4] k (fun kq v3 v4 w'=>∃(A9:List Int) (Ac:Int) (A1:Int) (A2:Int),v4=.int .i64 Ac∧Aside0 (cM.l0 kq A9 Ac A5 A1 A2=some (r1,r2,r3))∧Aside0 (kq≤k)∧Aside0 (Kd.R (Kd.int .i64) 3 w' w.heap.size (fun _=>True) v3 A9)∧Aside0 (aD w0 w' g A5 A1 A2)∧Aside0 (KeepBut w w' g none)∧Aside0 (Below w0.heap.size w0 w'))
 case atStart=>exact ⟨(Ar),(wrap64 (1+Af)),(Ag),(Ah),sq,H',⟨k7 _⟩,⟨kqR A6.o⟩,⟨aD.q0 A3.o⟩,⟨kp0 HK.o⟩,⟨bq1 HB.o (aD.ge A3.o)⟩⟩
 case round=>
  clear H'
  try clear p2
  try clear c4
  try clear c5
  obtain ⟨A9,Ac,A1,A2,rfl,HA,Az,A4,A3,HK,HB⟩:=hrel
  cases gk with
  |zero=>exact absurd HA.o (by simp [cM.l0])
  |succ k1=>
   have H:=HA.o
   clear HA
   simp only [cM.l0] at H
   replace H:=ig' H
   rcases H with ⟨-,As,H⟩|⟨-,As,H⟩
   · simp only [k4,k5] at H
     obtain ⟨rfl,rfl,rfl⟩:=H
     go_wp2
     go_ret
     exact ⟨_,rq,kqR A4.o,aD.q0 A3.o,bq1 HB.o (aD.ge A3.o),kp0 HK.o⟩
   generalize Ai:((([0,1,2,3,127,128,16384,100000]:List Int)):List Int)=Ao at H
   have Aj:=am Ai.symm
   clear Ai
   replace H:=be H
   obtain ⟨⟨A7,Ak,Al⟩,B2,H⟩:=H
   try dsimp only at H
   replace H:=nq H
   obtain ⟨c8,H⟩:=H
   have At:=am c8
   clear c8
   generalize Am:((A9++[A7]):List Int)=Au at H
   have Ap:=am Am.symm
   clear Am
   have H':=am H
   clear H
   go_wp2_with (first|((with_reducible refine aJ (N:=15) rfl ?_);refine Kd.R_lit (Kd.int .i64) _ 3 ?hg (N:=15) ?hd (xs:=([0,1,2,3,127,128,16384,100000]:List Int)) (inner:=[.int .i64 0,.int .i64 1,.int .i64 2,.int .i64 3,.int .i64 127,.int .i64 128,.int .i64 16384,.int .i64 100000]) (ok:=fun _=>True) (okp:=fun _=>True) ?hr ?hp (fun _ hk=>hk) trivial (Below.refl _ _) (k7 _) (by simp) ?_;(case hd=>rfl);(case hg=>rfl);(case hr=>exact gs);(case hp=>exact (bD.one (ri 0) (bD.one (ri 1) (bD.one (ri 2) (bD.one (ri 3) (bD.one (ri 127) (bD.one (ri 128) (bD.one (ri 16384) (bD.one (ri 100000) (bD.none _ _))))))))));intro B3 w9 A8 hb hg_ hnew_;clear hg_ hnew_;(first|rw [← Aj.o] at A8|(simp only [Int.reduceToNat] at A8;rw [← Aj.o] at A8));have n_:=ak5 (re_ A4 A8 hb) (Kd.R_lower (Kd.R_new' A8 (Kd.R_lt (kqR A4.o))) (a8 (w:=w) (g:=g) (row:=none) (kp0 HK.o))) (aD.below (aD.q0 A3.o) hb) (KeepBut.trans (kp0 HK.o) (KeepBut.of_below hb g none) (.inl rfl)) (aC (bq1 HB.o (aD.ge A3.o)) hb);clear A4 A3 HK HB;obtain ⟨A4,A0,A3,HK,HB⟩:=n_;clear hb A8;obtain ⟨Av,Aw,Ax⟩:=Kd.R_slice A0.o;subst Ax)|((with_reducible refine aE (f:=48) rfl ?_);refine gc (some 16) (cY.calls g A5 A1 A2 _ _ Ao A7 Ak Al w0 _ (aD.q0 A3.o) (bq1 HB.o (aD.ge A3.o)) (cq (Kd.R_reads' A0.o).2.2) ((Kd.R_reads' A0.o).2.1) (e5 (aD.own_ne A3.o A0.o (by decide))) B2.o) Try.func48 ?_;rintro e B6 ⟨rfl,hi,hb,hk⟩;refine ⟨_,rfl,?_⟩;have n_:=ak5 (Kd.R_mono (Kd.R_keep (aD.apart (show aD w0 _ g A5 A1 A2 from aD.q0 A3.o) (kqR A4.o) (by decide)) hk (fun _ h=>h.2)) (fun _ h=>h.1)) (Kd.R_mono (Kd.R_keep (aD.apart (show aD w0 _ g A5 A1 A2 from aD.q0 A3.o) (kqR A0.o) (by decide)) hk (fun _ h=>h.2)) (fun _ h=>h.1)) (KeepBut.trans (kp0 HK.o) hk (.inl rfl)) hb hi;clear A4 A0 HK HB A3;obtain ⟨A4,A0,HK,HB,A3⟩:=n_;(try clear hb hk hi))|((with_reducible refine bM (b:=.append) (xs:=#[.tmp 13,.tmp 17]) rfl ?_);at_builtin;refine Kd.R_append (Kd.int .i64) w.heap.size rfl (.tmp 13) (.tmp 17) 41 3 (.int .i64 0) 8 rfl Try.underlying41 jM rfl (by decide) (by omega) u3 A9 A7 [.int .i64 A7] (fun k_=>some k_≠(.slice Av Ao.length Aw:Value).ownBlock) (fun _=>False) rfl rfl ?aP (fun _ hk=>hk.elim) ?aF ?aO (Below.refl _ _) ?aS ?aL ?_;(case aP=>exact rfl);(case aF=>exact (fun k_ hk=>Kd.fresh' (Kd.R_lt (kqR A0.o)) k_ hk));(case aO=>exact (by refine kr ?_;exact Kd.R_mono A4.o (fun _ hk=>hk.2)));(case aS=>exact (a8 (w:=w) (g:=g) (row:=none) (kp0 HK.o)));(case aL=>have:=At.o;omega);intro B4 B7 ho hb hg hat;rw [← Ap.o] at ho;have n_:=ak5 (aD.grown (aD.q0 A3.o) hg (aD.own_ne A3.o A4.o (by decide))) (Kd.R_after (ok:=(fun _=>True)) (kqR A0.o) hg hat) (fE (bq1 HB.o (aD.ge A3.o)) HL.o hb) (KeepBut.trans (kp0 HK.o) (KeepBut.of_grown hg g) (Kd.R_base2 A4.o)) ho;clear A3 A0 HB HK A4;obtain ⟨A3,A0,HB,HK,Aq⟩:=n_;clear ho hb hg hat))
   go_roundg k1
   case measure=>have:=Az.o;omega
   case rel=>exact ⟨(Au),(wrap64 (Ac - 1)),(Ak),(Al),sq,H',⟨by have:=Az.o;omega⟩,⟨by refine kr ?_;exact Kd.R_mono Aq.o (fun _ hk=>trivial)⟩,⟨aD.q0 A3.o⟩,⟨kp0 HK.o⟩,⟨bq1 HB.o (aD.ge A3.o)⟩⟩
def cN.f (a0:Int):Option (Int):=if a0>2147483647 then (some 2147483647) else (if a0<(-2147483648) then (some (-2147483648)) else (some a0))
theorem cN.calls (a0:Int) (r:Int) (w:World) (h:cN.f a0=some r):
 Calls Try.prog 54 #[.int .i64 a0] w fun e w'=>e=.returned (.int .i64 r)∧Drawn0 w w':=by
 have H:=h
 clear h
 unfold cN.f at H
 replace H:=ig H
 rcases H with ⟨-,A0,H⟩|⟨-,A0,H⟩
 rotate_left
 replace H:=il H
 rcases H with ⟨-,A1,H⟩|⟨-,A1,H⟩
 rotate_left
 rotate_right
 rotate_right
 all_goals
  obtain rfl:=k6 H
  go_enter Try.func54,Try.ntmps54
  go_wp2
  go_ret
  exact ⟨by first|rfl|(simp;done)|(simp [*];done),by repeat (first|exact Drawn0.refl _|apply Drawn0.step)⟩
def eP.f (A2:List Int) (A3:Int) (A4:Int):Option (Int × Int × Int):=(a6.f A2 A3 A4 1000).bind fun A0=>((cY.f A2 A0.2.1 A0.2.2 (([0,1,(-1),127,128,(-128),(-129),255,256,32767,32768,(-32769),8388608,2147483647,(-2147483648),2147483648,(-2147483649),9223372036854775807,(-9223372036854775808),A0.1]:List Int))).bind fun A1=>(some (A1.1,A1.2.1,A1.2.2)))
theorem eP.calls (g:Nat) (A3:List Int) (A8:Int) (A9:Int) (r1:Int) (r2:Int) (r3:Int) (w0 w:World) (hI:aD w0 w g A3 A8 A9) (hB:Below w0.heap.size w0 w) (h:eP.f A3 A8 A9=some (r1,r2,r3)):
 Calls Try.prog 55 #[.pointer (some ⟨g,0,none⟩)] w fun e w'=>e=.returned (.int .i64 r1)∧aD w0 w' g A3 r2 r3∧Below w0.heap.size w0 w'∧KeepBut w w' g none:=by
 have A2:=am hI
 have HK:=am (KeepBut.refl w g none)
 have HL:=am hB.size
 clear hI
 have Aj:=am hB.size
 have HB:=am hB
 clear hB
 have H:=h
 clear h
 unfold eP.f at H
 replace H:=be H
 obtain ⟨⟨A1,A4,A5⟩,Af,H⟩:=H
 try dsimp only at H
 generalize A6:((([0,1,(-1),127,128,(-128),(-129),255,256,32767,32768,(-32769),8388608,2147483647,(-2147483648),2147483648,(-2147483649),9223372036854775807,(-9223372036854775808),A1]:List Int)):List Int)=Ae at H
 have A7:=am A6.symm
 clear A6
 replace H:=be H
 obtain ⟨⟨Aa,Ab,Ac⟩,Ag,H⟩:=H
 try dsimp only at H
 simp only [k4,k5] at H
 obtain ⟨rfl,rfl,rfl⟩:=H
 go_enter Try.func55,Try.ntmps55
 go_wp2_with (first|((with_reducible refine aE (f:=47) rfl ?_);refine gc (some 5) (a6.calls g A3 A8 A9 1000 A1 A4 A5 w0 _ (aD.q0 A2.o) (bq1 HB.o (aD.ge A2.o)) Af.o) Try.func47 ?_;rintro e w4 ⟨rfl,hi,hb,hk⟩;refine ⟨_,rfl,?_⟩;have n_:=ak3 (KeepBut.trans (kp0 HK.o) hk (.inl rfl)) hb hi;clear HK HB A2;obtain ⟨HK,HB,A2⟩:=n_;(try clear hb hk hi))|((with_reducible refine aJ (N:=6) rfl ?_);refine Kd.R_lit (Kd.int .i64) _ 3 ?hg (N:=6) ?hd (xs:=([0,1,(-1),127,128,(-128),(-129),255,256,32767,32768,(-32769),8388608,2147483647,(-2147483648),2147483648,(-2147483649),9223372036854775807,(-9223372036854775808),A1]:List Int)) (inner:=[.int .i64 0,.int .i64 1,.int .i64 (-1),.int .i64 127,.int .i64 128,.int .i64 (-128),.int .i64 (-129),.int .i64 255,.int .i64 256,.int .i64 32767,.int .i64 32768,.int .i64 (-32769),.int .i64 8388608,.int .i64 2147483647,.int .i64 (-2147483648),.int .i64 2147483648,.int .i64 (-2147483649),.int .i64 9223372036854775807,.int .i64 (-9223372036854775808),.int .i64 A1]) (ok:=fun _=>True) (okp:=fun _=>True) ?hr ?hp (fun _ hk=>hk) trivial (Below.refl _ _) (k7 _) (by simp) ?_;(case hd=>rfl);(case hg=>rfl);(case hr=>exact gs);(case hp=>exact (bD.one (ri 0) (bD.one (ri 1) (bD.one (ri (-1)) (bD.one (ri 127) (bD.one (ri 128) (bD.one (ri (-128)) (bD.one (ri (-129)) (bD.one (ri 255) (bD.one (ri 256) (bD.one (ri 32767) (bD.one (ri 32768) (bD.one (ri (-32769)) (bD.one (ri 8388608) (bD.one (ri 2147483647) (bD.one (ri (-2147483648)) (bD.one (ri 2147483648) (bD.one (ri (-2147483649)) (bD.one (ri 9223372036854775807) (bD.one (ri (-9223372036854775808)) (bD.one (show Kd.M (Kd.int .i64) _ _ _ A1 [.int .i64 A1] from rfl) (bD.none _ _))))))))))))))))))))));intro Ah w5 Ad hb hg_ hnew_;clear hg_ hnew_;(first|rw [← A7.o] at Ad|(simp only [Int.reduceToNat] at Ad;rw [← A7.o] at Ad));have n_:=ak4 (Kd.R_lower Ad (a8 (w:=w) (g:=g) (row:=none) (kp0 HK.o))) (aD.below (aD.q0 A2.o) hb) (KeepBut.trans (kp0 HK.o) (KeepBut.of_below hb g none) (.inl rfl)) (aC (bq1 HB.o (aD.ge A2.o)) hb);clear A2 HK HB;obtain ⟨A0,A2,HK,HB⟩:=n_;clear hb Ad;obtain ⟨Ak,Al,Ai⟩:=Kd.R_slice A0.o;subst Ai)|((with_reducible refine aE (f:=48) rfl ?_);refine gc (some 7) (cY.calls g A3 A4 A5 _ _ Ae Aa Ab Ac w0 _ (aD.q0 A2.o) (bq1 HB.o (aD.ge A2.o)) (cq (Kd.R_reads' A0.o).2.2) ((Kd.R_reads' A0.o).2.1) (e5 (aD.own_ne A2.o A0.o (by decide))) Ag.o) Try.func48 ?_;rintro e w8 ⟨rfl,hi,hb,hk⟩;refine ⟨_,rfl,?_⟩;have n_:=ak4 (Kd.R_mono (Kd.R_keep (aD.apart (show aD w0 _ g A3 A4 A5 from aD.q0 A2.o) (kqR A0.o) (by decide)) hk (fun _ h=>h.2)) (fun _ h=>h.1)) (KeepBut.trans (kp0 HK.o) hk (.inl rfl)) hb hi;clear A0 HK HB A2;obtain ⟨A0,HK,HB,A2⟩:=n_;(try clear hb hk hi)))
 go_ret
 exact ⟨rq,aD.q0 A2.o,bq1 HB.o (aD.ge A2.o),kp0 HK.o⟩
def fG.f (a0:Int):Option (Int × Int × ByteArray × List Int):=some (2,a0,(⟨#[]⟩:ByteArray),([]:List Int))
theorem fG.calls (a0:Int) (r1:Int) (r2:Int) (r3:ByteArray) (r4:List Int) (w:World) (h:fG.f a0=some (r1,r2,r3,r4)):
 Calls Try.prog 70 #[.int .i64 a0] w fun e w'=>∃Ab:Value,e=.returned (.agg #[.int .i64 r1,.int .i64 r2,.string r3,Ab])∧Kd.R (Kd.int .i64) 3 w' w.heap.size (fun _=>True) Ab r4∧Below w.heap.size w w':=by
 have Ad:=Try.underlying43
 have HB:=am (Below.refl w.heap.size w)
 have H:=h
 clear h
 unfold fG.f at H
 simp only [k4,k5] at H
 obtain ⟨rfl,rfl,rfl,rfl⟩:=H
 go_enter Try.func70,Try.ntmps70
 go_wp2_with (first|((with_reducible refine aJ (N:=2) rfl ?_);refine bxe 2 #[.int .i64 0,.int .i64 0,.string (⟨#[]⟩:ByteArray),.slice none 0 0] 43 ?_;intro A1 hg w2 hbox hb;have n_:=ak4 (aC (bq HB.o) hb) hbox (bz hg (bq HB.o)) (bz hg (bq HB.o));clear HB;obtain ⟨HB,A0,Ac,A2⟩:=n_;clear hb hbox hg;obtain ⟨A3,A4,A5,A6,A7,A8,A9,Aa⟩:=cl4 A0.o)|((with_reducible refine aQ (t:=43) (p:=2) rfl ?_);refine se 43 2 (s4 w2 A1 (.int .i64 2) (.int .i64 a0) (.string (⟨#[]⟩:ByteArray)) (.slice none 0 0)) ?_;intro w4 hw;have n_:=ak2 (sc4 hw A0) (sb hw (bq1 HB.o A2.o));clear hw A0 HB;obtain ⟨A0,HB⟩:=n_))
 refine bodyPost_ret (results_cell_row rfl _ _ A1 43 #[.int .i64 2,.int .i64 a0,.string (⟨#[]⟩:ByteArray),.slice none 0 0] (0,0) _ rfl (zq A0.o) Try.underlying43 rfl (by kernel_rfl)) rfl ?_
 exact ⟨_,rq,rn,bq1 HB.o A2.o⟩
def fH.f (A1:List Int) (A2:Int) (A3:Int) (l1:List ByteArray):Option (ByteArray × Int × Int):=(a6.f A1 A2 A3 (l1.length:Int)).bind fun A0=>(if 0≤A0.1 then (if A0.1<(l1.length:Int) then (some (jR ByteArray.empty l1 A0.1,A0.2.1,A0.2.2)) else (none)) else (none))
theorem fH.calls (g:Nat) (A3:List Int) (A4:Int) (A5:Int) (A1:Option Addr) (c1:Nat) (l1:List ByteArray) (r1:ByteArray) (r2:Int) (r3:Int) (w0 w:World) (hI:aD w0 w g A3 A4 A5) (hB:Below w0.heap.size w0 w) (Ae:Kd.C Kd.string w A1 l1.length l1) (Af:l1.length≤c1) (Ac:∀ad,A1=some ad→0<l1.length→ad.block≠g) (h:fH.f A3 A4 A5 l1=some (r1,r2,r3)):
 Calls Try.prog 71 #[.pointer (some ⟨g,0,none⟩),.slice A1 l1.length c1] w fun e w'=>e=.returned (.string r1)∧aD w0 w' g A3 r2 r3∧Below w0.heap.size w0 w'∧KeepBut w w' g none:=by
 have Ag:=am Ae
 have Ak:=am Af
 clear Ae Af
 have A8:=am hI
 have HK:=am (KeepBut.refl w g none)
 have HL:=am hB.size
 clear hI
 have Al:=am hB.size
 have HB:=am hB
 clear hB
 have H:=h
 clear h
 unfold fH.f at H
 replace H:=be H
 obtain ⟨⟨A0,A9,Aa⟩,Ah,H⟩:=H
 try dsimp only at H
 replace H:=nl H
 obtain ⟨-,Ai,H⟩:=H
 replace H:=nl H
 obtain ⟨-,Aj,H⟩:=H
 simp only [k4,k5] at H
 obtain ⟨rfl,rfl,rfl⟩:=H
 go_enter Try.func71,Try.ntmps71
 go_wp2_with (first|((with_reducible refine aE (f:=47) rfl ?_);refine gc (some 9) (a6.calls g A3 A4 A5 (l1.length:Int) A0 A9 Aa w0 _ (aD.q0 A8.o) (bq1 HB.o (aD.ge A8.o)) Ah.o) Try.func47 ?_;rintro e w6 ⟨rfl,hi,hb,hk⟩;refine ⟨_,rfl,?_⟩;have n_:=ak3 (KeepBut.trans (kp0 HK.o) hk (.inl rfl)) hb hi;clear HK HB A8;obtain ⟨HK,HB,A8⟩:=n_;(try clear hb hk hi);have A6:0≤(A0:Int):=oda;have A7:A0<(l1.length:Int):=oda;obtain ⟨Ab,Ad,A2⟩:=Kd.at_string Ag.o A0 A6 A7;cases Ad;replace A2:=iG HK.o A2 (by first|(rw [fX];exact Ac _ rfl (by omega))|exact Ac _ rfl (by omega)|exact Ac Ab rfl (by omega));replace A6:=eq_true A6;replace A7:=eq_true A7))
 go_ret
 exact ⟨rq,aD.q0 A8.o,bq1 HB.o (aD.ge A8.o),kp0 HK.o⟩
def d6.j0:Nat→Int→Bool→List Int→Int→Int→Option (Int × Int × ByteArray × List Int × Int × Int)
 |0,_,_,_,_,_=>none
 |k+1,x4,x8,A0,A1,A2=>if x8=true then ((eP.f A0 A1 A2).bind fun A4=>((cN.f A4.1).bind fun A8=>((fG.f A8).bind fun A3=>(some (A3.1,A3.2.1,A3.2.2.1,A3.2.2.2,A4.2.1,A4.2.2))))) else (if x4=3 then ((fH.f A0 A1 A2 (([(⟨#[]⟩:ByteArray),(⟨#[97]⟩:ByteArray),(⟨#[121,97,114,100]⟩:ByteArray),(⟨#[0]⟩:ByteArray)]:List ByteArray))).bind fun A5=>(some (4,0,A5.1,([]:List Int),A5.2.1,A5.2.2))) else (if x4=4 then ((cM.f k A0 A1 A2).bind fun A6=>(some (6,0,(⟨#[]⟩:ByteArray),A6.1,A6.2.1,A6.2.2))) else ((cY.f A0 A1 A2 (([128,130]:List Int))).bind fun A7=>(some (A7.1,0,(⟨#[]⟩:ByteArray),([]:List Int),A7.2.1,A7.2.2)))))
def d6.f (k:Nat) (A1:List Int) (A2:Int) (A3:Int):Option (Int × Int × ByteArray × List Int × Int × Int):=(a6.f A1 A2 A3 6).bind fun A0=>(if A0.1=0 then (some (5,0,(⟨#[]⟩:ByteArray),([]:List Int),A0.2.1,A0.2.2)) else (if A0.1=1 then (d6.j0 k A0.1 (A0.1==1) A1 A0.2.1 A0.2.2) else (d6.j0 k A0.1 (A0.1==2) A1 A0.2.1 A0.2.2)))
theorem d6.calls (k:Nat) (g:Nat) (A7:List Int) (Ao:Int) (Ap:Int) (r1:Int) (r2:Int) (r3:ByteArray) (r4:List Int) (r5:Int) (r6:Int) (w0 w:World) (hI:aD w0 w g A7 Ao Ap) (hB:Below w0.heap.size w0 w) (h:d6.f k A7 Ao Ap=some (r1,r2,r3,r4,r5,r6)):
 Calls Try.prog 56 #[.pointer (some ⟨g,0,none⟩)] w fun e w'=>∃Ce:Value,e=.returned (.agg #[.int .i64 r1,.int .i64 r2,.string r3,Ce])∧Kd.R (Kd.int .i64) 3 w' w.heap.size (fun _=>True) Ce r4∧aD w0 w' g A7 r5 r6∧Below w0.heap.size w0 w'∧KeepBut w w' g none:=by
 have Ci:=Try.underlying43
 have A2:=am hI
 have HK:=am (KeepBut.refl w g none)
 have HL:=am hB.size
 clear hI
 have Cf:=am hB.size
 have HB:=am hB
 clear hB
 have H:=h
 clear h
 unfold d6.f at H
 replace H:=be H
 obtain ⟨⟨Ai,A8,A9⟩,Cg,H⟩:=H
 try dsimp only at H
 replace H:=iq H
 rcases H with ⟨-,Bu,Bv,H⟩|⟨c3,Bu,Bv,H⟩
 · simp only [k4,k5] at H
   obtain ⟨rfl,rfl,rfl,rfl,rfl,rfl⟩:=H
   go_enter Try.func56,Try.ntmps56
   go_wp2_with (first|((with_reducible refine aJ (N:=2) rfl ?_);refine bxe 2 #[.int .i64 0,.int .i64 0,.string (⟨#[]⟩:ByteArray),.slice none 0 0] 43 ?_;intro A5 hg w4 hbox hb;have n_:=ak8 (aD.below (aD.q0 A2.o) hb) (KeepBut.trans (kp0 HK.o) (KeepBut.of_below hb g none) (.inl rfl)) (aC (bq1 HB.o (aD.ge A2.o)) hb) hbox ((by rw [hg];exact (a8 (w:=w) (g:=g) (row:=none) (kp0 HK.o)):w.heap.size≤A5)) ((Nat.le_trans Cf.o (by rw [hg];exact (a8 (w:=w) (g:=g) (row:=none) (kp0 HK.o)):w.heap.size≤A5):w0.heap.size≤A5)) ((by rw [hg];exact Nat.ne_of_lt (aD.lt (show aD w0 _ g A7 Ao Ap from aD.q0 A2.o)):g≠A5)) ((by rw [hg];exact Nat.ne_of_gt (aD.lt (show aD w0 _ g A7 Ao Ap from aD.q0 A2.o)):A5≠g));clear A2 HK HB;obtain ⟨A2,HK,HB,A0,A3,A6,A1,A4⟩:=n_;clear hb hbox hg)|((with_reducible refine aE (f:=47) rfl ?_);refine gc (some 4) (a6.calls g A7 Ao Ap 6 Ai A8 A9 w0 _ (aD.q1 A2.o A1.o) (bq2 HB.o (aD.ge A2.o) A6.o) Cg.o) Try.func47 ?_;rintro e w5 ⟨rfl,hi,hb,hk⟩;refine ⟨_,rfl,?_⟩;have n_:=ak4 (KeepBut.blk hk (zb A0.o) A4.o (by simp)) (KeepBut.trans (kp1 HK.o A3.o) hk (.inl rfl)) hb hi;clear A0 HK HB A2;obtain ⟨A0,HK,HB,A2⟩:=n_;(try clear hb hk hi);have Cj:=A4.o;have Ck:=A1.o;obtain ⟨Bi,Bj,Bk,Bl,Bm,Bn,Bo,Bp⟩:=cl4 A0.o))
   refine bodyPost_ret (results_cell_row rfl _ _ A5 43 #[.int .i64 5,.int .i64 0,.string (⟨#[]⟩:ByteArray),.slice none 0 0] (0,0) _ rfl (by refine zr ?_;exact bp4 (zb A0.o)) Try.underlying43 rfl (by kernel_rfl)) rfl ?_
   exact ⟨_,rq,rn,aD.q1 A2.o A1.o,bq2 HB.o (aD.ge A2.o) A6.o,kp1 HK.o A3.o⟩
 have C7:=am H
 clear H
 go_enter Try.func56,Try.ntmps56
 go_upto_if 8 with (first|((with_reducible refine aJ (N:=2) rfl ?_);refine bxe 2 #[.int .i64 0,.int .i64 0,.string (⟨#[]⟩:ByteArray),.slice none 0 0] 43 ?_;intro A5 hg w9 hbox hb;have n_:=ak8 (aD.below (aD.q0 A2.o) hb) (KeepBut.trans (kp0 HK.o) (KeepBut.of_below hb g none) (.inl rfl)) (aC (bq1 HB.o (aD.ge A2.o)) hb) hbox ((by rw [hg];exact (a8 (w:=w) (g:=g) (row:=none) (kp0 HK.o)):w.heap.size≤A5)) ((Nat.le_trans Cf.o (by rw [hg];exact (a8 (w:=w) (g:=g) (row:=none) (kp0 HK.o)):w.heap.size≤A5):w0.heap.size≤A5)) ((by rw [hg];exact Nat.ne_of_lt (aD.lt (show aD w0 _ g A7 Ao Ap from aD.q0 A2.o)):g≠A5)) ((by rw [hg];exact Nat.ne_of_gt (aD.lt (show aD w0 _ g A7 Ao Ap from aD.q0 A2.o)):A5≠g));clear A2 HK HB;obtain ⟨A2,HK,HB,A0,A3,A6,A1,A4⟩:=n_;clear hb hbox hg)|((with_reducible refine aE (f:=47) rfl ?_);refine gc (some 4) (a6.calls g A7 Ao Ap 6 Ai A8 A9 w0 _ (aD.q1 A2.o A1.o) (bq2 HB.o (aD.ge A2.o) A6.o) Cg.o) Try.func47 ?_;rintro e Cw ⟨rfl,hi,hb,hk⟩;refine ⟨_,rfl,?_⟩;have n_:=ak4 (KeepBut.blk hk (zb A0.o) A4.o (by simp)) (KeepBut.trans (kp1 HK.o A3.o) hk (.inl rfl)) hb hi;clear A0 HK HB A2;obtain ⟨A0,HK,HB,A2⟩:=n_;(try clear hb hk hi)))
 (try simp only [Act.put,kX,kY,kZ])
 go_cut [8] (fun v8 wc=>∃(kq:Nat) (B5:Bool),v8=.bool B5∧Aside0 (d6.j0 kq Ai B5 A7 A8 A9=some (r1,r2,r3,r4,r5,r6))∧Aside0 (kq≤k)∧Aside0 (wc.heap[A5]? =some (.cells #[.int .i64 0,.int .i64 0,.string (⟨#[]⟩:ByteArray),(.slice none 0 0)] 43 (0,0)))∧Aside0 (aD w0 wc g A7 A8 A9)∧Aside0 (KeepBut w wc g none)∧Aside0 (Below w0.heap.size w0 wc))
 case first=>
  have H:=C7.o
  clear C7
  replace H:=iq' H
  rcases H with ⟨Cl,An,B6,H⟩|⟨-,An,B6,H⟩
  · (first|rw [An]|(simp only [aI,aK];rw [An])|skip)
    have H':=am H
    clear H
    go_wp2
    go_meet
    case rel=>exact ⟨_,((Ai==2)),sq,H',⟨by first|omega|exact k7 _⟩,⟨zq A0.o⟩,⟨aD.q1 A2.o A1.o⟩,⟨kp1 HK.o A3.o⟩,⟨bq2 HB.o (aD.ge A2.o) A6.o⟩⟩
  (first|rw [An]|(simp only [aI,aK];rw [An])|skip)
  have H':=am H
  clear H
  go_wp2
  go_meet
  case rel=>exact ⟨_,((Ai==1)),sq,H',⟨by first|omega|exact k7 _⟩,⟨zq A0.o⟩,⟨aD.q1 A2.o A1.o⟩,⟨kp1 HK.o A3.o⟩,⟨bq2 HB.o (aD.ge A2.o) A6.o⟩⟩
 case rest=>
  clear C7
  try clear c1
  try clear p2
  try clear c3
  try clear Bu
  try clear Bv
  try clear c4
  try clear c5
  try clear c6
  try clear Cl
  try clear An
  try clear B6
  try clear Bi
  try clear Bj
  try clear Bk
  try clear Bl
  try clear Bm
  try clear Bn
  try clear Bo
  try clear Bp
  obtain ⟨kq,B5,rfl,HA,Cx,A0,A2,HK,HB⟩:=hcut
  cases kq with
  |zero=>exact absurd HA.o (by simp [d6.j0])
  |succ Ch=>
   have H:=HA.o
   clear HA
   simp only [d6.j0] at H
   rcases Decidable.em (B5=true) with Bw|Bw
   subst Bw
   replace H:((eP.f A7 A8 A9).bind fun As=>((cN.f As.1).bind fun Aq=>((fG.f Aq).bind fun Ar=>(some (Ar.1,Ar.2.1,Ar.2.2.1,Ar.2.2.2,As.2.1,As.2.2)))))=some (r1,r2,r3,r4,r5,r6):=by rw [if_pos rfl] at H;exact H
   replace H:=be H
   obtain ⟨⟨B7,B8,B9⟩,Cm,H⟩:=H
   try dsimp only at H
   replace H:=be H
   obtain ⟨Aq,Cn,H⟩:=H
   replace H:=be H
   obtain ⟨⟨At,Au,Av,Aw⟩,Co,H⟩:=H
   try dsimp only at H
   rotate_left
   replace Bw:=Bool.eq_false_iff.mpr Bw
   subst Bw
   replace H:(if Ai=3 then ((fH.f A7 A8 A9 (([(⟨#[]⟩:ByteArray),(⟨#[97]⟩:ByteArray),(⟨#[121,97,114,100]⟩:ByteArray),(⟨#[0]⟩:ByteArray)]:List ByteArray))).bind fun Ax=>(some (4,0,Ax.1,([]:List Int),Ax.2.1,Ax.2.2))) else (if Ai=4 then ((cM.f Ch A7 A8 A9).bind fun Ay=>(some (6,0,(⟨#[]⟩:ByteArray),Ay.1,Ay.2.1,Ay.2.2))) else ((cY.f A7 A8 A9 (([128,130]:List Int))).bind fun Az=>(some (Az.1,0,(⟨#[]⟩:ByteArray),([]:List Int),Az.2.1,Az.2.2)))))=some (r1,r2,r3,r4,r5,r6):=by rw [if_neg (show ¬(false=true) by decide)] at H;exact H
   replace H:=iq H
   rcases H with ⟨-,Bx,By,H⟩|⟨Cy,Bx,By,H⟩
   generalize Ba:((([(⟨#[]⟩:ByteArray),(⟨#[97]⟩:ByteArray),(⟨#[121,97,114,100]⟩:ByteArray),(⟨#[0]⟩:ByteArray)]:List ByteArray)):List ByteArray)=C8 at H
   have Bb:=am Ba.symm
   clear Ba
   replace H:=be H
   obtain ⟨⟨Bc,Bz,C0⟩,Cp,H⟩:=H
   try dsimp only at H
   rotate_left
   replace H:=iq H
   rcases H with ⟨-,C1,C2,H⟩|⟨Cz,C1,C2,H⟩
   replace H:=be H
   obtain ⟨⟨B0,C3,C4⟩,Cq,H⟩:=H
   try dsimp only at H
   rotate_left
   generalize Bd:((([128,130]:List Int)):List Int)=C9 at H
   have Be:=am Bd.symm
   clear Bd
   replace H:=be H
   obtain ⟨⟨Bf,C5,C6⟩,Cr,H⟩:=H
   try dsimp only at H
   rotate_right
   rotate_right
   rotate_right
   all_goals
    simp only [k4,k5] at H
    obtain ⟨rfl,rfl,rfl,rfl,rfl,rfl⟩:=H
    go_wp2_with (first|((with_reducible refine aE (f:=55) rfl ?_);refine gc (some 12) (eP.calls g A7 A8 A9 B7 B8 B9 w0 _ (aD.q1 A2.o A1.o) (bq2 HB.o (aD.ge A2.o) A6.o) Cm.o) Try.func55 ?_;rintro e w_ ⟨rfl,hi,hb,hk⟩;refine ⟨_,rfl,?_⟩;have n_:=ak4 (KeepBut.blk hk (zb A0.o) A4.o (by simp)) (KeepBut.trans (kp1 HK.o A3.o) hk (.inl rfl)) hb hi;clear A0 HK HB A2;obtain ⟨A0,HK,HB,A2⟩:=n_;(try clear hb hk hi))|((with_reducible refine aE (f:=54) rfl ?_);refine gc (some 13) (cN.calls B7 Aq _ Cn.o) Try.func54 ?_;rintro e w' ⟨rfl,⟨nd,rfl⟩⟩;refine ⟨_,rfl,?_⟩;(try (rw [cX w_];generalize hq_:World.drewN w_ _=w_;have n_:Aside0 (w_.heap[A5]? =some (.cells #[.int .i64 0,.int .i64 0,.string (⟨#[]⟩:ByteArray),.slice none 0 0] 43 (0,0)))∧Aside0 (aD w0 w_ g A7 B8 B9)∧Aside0 (KeepBut w w_ g none)∧Aside0 (Below w0.heap.size w0 w_):=⟨⟨by rw [← hq_];exact (zq A0.o)⟩,⟨by rw [← hq_];exact (aD.q1 A2.o A1.o)⟩,⟨by rw [← hq_];exact (kp1 HK.o A3.o)⟩,⟨by rw [← hq_];exact (bq2 HB.o (aD.ge A2.o) A6.o)⟩⟩;clear A0 A2 HK HB hq_;obtain ⟨A0,A2,HK,HB⟩:=n_)))|((with_reducible refine aE (f:=70) rfl ?_);refine gc (some 14) (fG.calls Aq At Au Av Aw _ Co.o) Try.func70 ?_;rintro e w_ ⟨Cs,rfl,ho_,hb⟩;refine ⟨_,rfl,?_⟩;have n_:=ak5 (Kd.R_lower ho_ (a8 (w:=w) (g:=g) (row:=none) (kp1 HK.o A3.o))) (kb A0 hb) (aD.below (aD.q1 A2.o A1.o) hb) (KeepBut.trans (kp1 HK.o A3.o) (KeepBut.of_below hb g none) (.inl rfl)) (aC (bq2 HB.o (aD.ge A2.o) A6.o) hb);clear A0 A2 HK HB;obtain ⟨Bg,A0,A2,HK,HB⟩:=n_;(try clear hb ho_);obtain ⟨B1,B2,Bq⟩:=Kd.R_slice Bg.o;subst Bq;have Aj:=A4.o;have Ak:=A1.o;obtain ⟨Aa,Ab,Ac,Ad,Ae,Af,Ag,Ah⟩:=cl4 A0.o)|((with_reducible refine aJ (N:=18) rfl ?_);refine Kd.R_lit Kd.string _ 9 ?hg (N:=18) ?hd (xs:=([(⟨#[]⟩:ByteArray),(⟨#[97]⟩:ByteArray),(⟨#[121,97,114,100]⟩:ByteArray),(⟨#[0]⟩:ByteArray)]:List ByteArray)) (inner:=[.string (⟨#[]⟩:ByteArray),.string (⟨#[97]⟩:ByteArray),.string (⟨#[121,97,114,100]⟩:ByteArray),.string (⟨#[0]⟩:ByteArray)]) (ok:=fun _=>True) (okp:=fun _=>True) ?hr ?hp (fun _ hk=>hk) trivial (Below.refl _ _) (k7 _) (by simp) ?_;(case hd=>rfl);(case hg=>rfl);(case hr=>exact gs);(case hp=>exact (bD.one (show Kd.M Kd.string _ _ _ (⟨#[]⟩:ByteArray) [.string (⟨#[]⟩:ByteArray)] from rfl) (bD.one (show Kd.M Kd.string _ _ _ (⟨#[97]⟩:ByteArray) [.string (⟨#[97]⟩:ByteArray)] from rfl) (bD.one (show Kd.M Kd.string _ _ _ (⟨#[121,97,114,100]⟩:ByteArray) [.string (⟨#[121,97,114,100]⟩:ByteArray)] from rfl) (bD.one (show Kd.M Kd.string _ _ _ (⟨#[0]⟩:ByteArray) [.string (⟨#[0]⟩:ByteArray)] from rfl) (bD.none _ _))))));intro Ct w_ ho_ hb hg_ hnew_;clear hg_ hnew_;(first|rw [← Bb.o] at ho_|(simp only [Int.reduceToNat] at ho_;rw [← Bb.o] at ho_));have n_:=ak5 (Kd.R_lower ho_ (a8 (w:=w) (g:=g) (row:=none) (kp1 HK.o A3.o))) (kb A0 hb) (aD.below (aD.q1 A2.o A1.o) hb) (KeepBut.trans (kp1 HK.o A3.o) (KeepBut.of_below hb g none) (.inl rfl)) (aC (bq2 HB.o (aD.ge A2.o) A6.o) hb);clear A0 A2 HK HB;obtain ⟨Al,A0,A2,HK,HB⟩:=n_;clear hb ho_;obtain ⟨Ca,Cb,Br⟩:=Kd.R_slice Al.o;subst Br)|((with_reducible refine aE (f:=71) rfl ?_);refine gc (some 19) (fH.calls g A7 A8 A9 _ _ C8 Bc Bz C0 w0 _ (aD.q1 A2.o A1.o) (bq2 HB.o (aD.ge A2.o) A6.o) (cq (Kd.R_reads' Al.o).2.2) ((Kd.R_reads' Al.o).2.1) (e5 (aD.own_ne A2.o Al.o (by decide))) Cp.o) Try.func71 ?_;rintro e w_ ⟨rfl,hi,hb,hk⟩;refine ⟨_,rfl,?_⟩;have n_:=ak5 (KeepBut.blk hk (zb A0.o) A4.o (by simp)) (Kd.R_mono (Kd.R_keep (aD.apart (show aD w0 _ g A7 A8 A9 from aD.q1 A2.o A1.o) (kqR Al.o) (by decide)) hk (fun _ h=>h.2)) (fun _ h=>h.1)) (KeepBut.trans (kp1 HK.o A3.o) hk (.inl rfl)) hb hi;clear A0 Al HK HB A2;obtain ⟨A0,Al,HK,HB,A2⟩:=n_;(try clear hb hk hi);have Aj:=A4.o;have Ak:=A1.o;obtain ⟨Aa,Ab,Ac,Ad,Ae,Af,Ag,Ah⟩:=cl4 A0.o)|((with_reducible refine aE (f:=51) rfl ?_);refine gc (some 24) (cM.calls Ch g A7 A8 A9 B0 C3 C4 w0 _ (aD.q1 A2.o A1.o) (bq2 HB.o (aD.ge A2.o) A6.o) Cq.o) Try.func51 ?_;rintro e w_ ⟨Cu,rfl,ho_,hi,hb,hk⟩;refine ⟨_,rfl,?_⟩;have n_:=ak5 (KeepBut.blk hk (zb A0.o) A4.o (by simp)) (Kd.R_lower ho_ (a8 (w:=w) (g:=g) (row:=none) (kp1 HK.o A3.o))) (KeepBut.trans (kp1 HK.o A3.o) hk (.inl rfl)) hb hi;clear A0 HK HB A2;obtain ⟨A0,Bh,HK,HB,A2⟩:=n_;(try clear hb hk hi ho_);obtain ⟨B3,B4,Bs⟩:=Kd.R_slice Bh.o;subst Bs;have Aj:=A4.o;have Ak:=A1.o;obtain ⟨Aa,Ab,Ac,Ad,Ae,Af,Ag,Ah⟩:=cl4 A0.o)|((with_reducible refine aJ (N:=27) rfl ?_);refine Kd.R_lit (Kd.int .i64) _ 3 ?hg (N:=27) ?hd (xs:=([128,130]:List Int)) (inner:=[.int .i64 128,.int .i64 130]) (ok:=fun _=>True) (okp:=fun _=>True) ?hr ?hp (fun _ hk=>hk) trivial (Below.refl _ _) (k7 _) (by simp) ?_;(case hd=>rfl);(case hg=>rfl);(case hr=>exact gs);(case hp=>exact (bD.one (ri 128) (bD.one (ri 130) (bD.none _ _))));intro Cv w_ ho_ hb hg_ hnew_;clear hg_ hnew_;(first|rw [← Be.o] at ho_|(simp only [Int.reduceToNat] at ho_;rw [← Be.o] at ho_));have n_:=ak5 (Kd.R_lower ho_ (a8 (w:=w) (g:=g) (row:=none) (kp1 HK.o A3.o))) (kb A0 hb) (aD.below (aD.q1 A2.o A1.o) hb) (KeepBut.trans (kp1 HK.o A3.o) (KeepBut.of_below hb g none) (.inl rfl)) (aC (bq2 HB.o (aD.ge A2.o) A6.o) hb);clear A0 A2 HK HB;obtain ⟨Am,A0,A2,HK,HB⟩:=n_;clear hb ho_;obtain ⟨Cc,Cd,Bt⟩:=Kd.R_slice Am.o;subst Bt)|((with_reducible refine aE (f:=48) rfl ?_);refine gc (some 28) (cY.calls g A7 A8 A9 _ _ C9 Bf C5 C6 w0 _ (aD.q1 A2.o A1.o) (bq2 HB.o (aD.ge A2.o) A6.o) (cq (Kd.R_reads' Am.o).2.2) ((Kd.R_reads' Am.o).2.1) (e5 (aD.own_ne A2.o Am.o (by decide))) Cr.o) Try.func48 ?_;rintro e w_ ⟨rfl,hi,hb,hk⟩;refine ⟨_,rfl,?_⟩;have n_:=ak5 (KeepBut.blk hk (zb A0.o) A4.o (by simp)) (Kd.R_mono (Kd.R_keep (aD.apart (show aD w0 _ g A7 A8 A9 from aD.q1 A2.o A1.o) (kqR Am.o) (by decide)) hk (fun _ h=>h.2)) (fun _ h=>h.1)) (KeepBut.trans (kp1 HK.o A3.o) hk (.inl rfl)) hb hi;clear A0 Am HK HB A2;obtain ⟨A0,Am,HK,HB,A2⟩:=n_;(try clear hb hk hi);have Aj:=A4.o;have Ak:=A1.o;obtain ⟨Aa,Ab,Ac,Ad,Ae,Af,Ag,Ah⟩:=cl4 A0.o))
    first
    | refine bodyPost_ret (results_cell_row rfl _ _ A5 43 #[.int .i64 6,.int .i64 0,.string (⟨#[]⟩:ByteArray),.slice B3 B0.length B4] (0,0) _ rfl (by refine zr ?_;exact bp4 (zb A0.o)) Try.underlying43 rfl (by kernel_rfl)) rfl ?_
      exact ⟨_,rq,by refine kr ?_;exact Kd.R_mono (rf4 A5 (.int .i64 6) (.int .i64 0) (.string (⟨#[]⟩:ByteArray)) (.slice B3 B0.length B4) (Kd.R_types Bh.o A0.o (by decide)) (fun _ hk=>hk.2)) (fun _ hk=>trivial),aD.q1 A2.o A1.o,bq2 HB.o (aD.ge A2.o) A6.o,kp1 HK.o A3.o⟩
    | refine bodyPost_ret (results_cell_row rfl _ _ A5 43 #[.int .i64 At,.int .i64 Au,.string Av,.slice B1 Aw.length B2] (0,0) _ rfl (by refine zr ?_;exact bp4 (zb A0.o)) Try.underlying43 rfl (by kernel_rfl)) rfl ?_
      exact ⟨_,rq,by refine kr ?_;exact Kd.R_mono (rf4 A5 (.int .i64 At) (.int .i64 Au) (.string Av) (.slice B1 Aw.length B2) (Kd.R_types Bg.o A0.o (by decide)) (fun _ hk=>hk.2)) (fun _ hk=>trivial),aD.q1 A2.o A1.o,bq2 HB.o (aD.ge A2.o) A6.o,kp1 HK.o A3.o⟩
    | refine bodyPost_ret (results_cell_row rfl _ _ A5 43 #[.int .i64 Bf,.int .i64 0,.string (⟨#[]⟩:ByteArray),.slice none 0 0] (0,0) _ rfl (by refine zr ?_;exact bp4 (zb A0.o)) Try.underlying43 rfl (by kernel_rfl)) rfl ?_
      exact ⟨_,rq,rn,aD.q1 A2.o A1.o,bq2 HB.o (aD.ge A2.o) A6.o,kp1 HK.o A3.o⟩
    | refine bodyPost_ret (results_cell_row rfl _ _ A5 43 #[.int .i64 4,.int .i64 0,.string Bc,.slice none 0 0] (0,0) _ rfl (by refine zr ?_;exact bp4 (zb A0.o)) Try.underlying43 rfl (by kernel_rfl)) rfl ?_
      exact ⟨_,rq,rn,aD.q1 A2.o A1.o,bq2 HB.o (aD.ge A2.o) A6.o,kp1 HK.o A3.o⟩
end Go.Proofs.Ytgppikopdpeigaa.XFnPdus
