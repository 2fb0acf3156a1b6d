/- The functions that one law reaches, as Lean functions, with their walks: printed by a program of this seat (wip/tools) out of the translation. -/
import Derived.Test.YthhnfmbfgplelaaXFnMsgsReadx0
namespace Go.Proofs.Ythhnfmbfgplelaa.XFnMsgsRead
open Go.RowKit Go.Proofs.YthhnfmbfgplelaaW.PrintWords Go.Proofs.YthhnfmbfgplelaaW.PrintLast Go.Proofs.YthhnfmbfgplelaaW.PrintMore
attribute [local go_sem] cL cM dC dD cB cC cN cO
set_option linter.unusedVariables false
set_option linter.unusedSimpArgs false
set_option maxHeartbeats 8000000
set_option maxRecDepth 100000
def aA (w0 W:World) (g:Nat) (f0:List Int) (f1:Int) (f2:Int):Prop:=∃A0 c0,W.heap[g]? =some (.cells #[.slice A0 f0.length c0,.int .i64 f1,.int .i64 f2] 135 (0,0))∧w0.heap.size≤g∧(Kd.C (Kd.int .u8) w0 A0 f0.length f0∧f0.length≤c0)
theorem aA.grown {w0 W:World} {g:Nat} {f0:List Int} {f1:Int} {f2:Int} {W1:World} {row:Option Nat} (h:aA w0 W g f0 f1 f2) (hw:W.grownBy W1 row) (hne:some g≠row):aA w0 W1 g f0 f1 f2:=by
 obtain ⟨A0,c0,hb,hg,A1⟩:=h
 exact ⟨A0,c0,b8 hb hw hne,hg,A1⟩
theorem aA.own_neN {w0 W:World} {g:Nat} {f0:List Int} {f1:Int} {f2:Int} {α:Type} {d:Kd α} {e:Nat} {base:Nat} {ok:Nat→Prop} {v:Value} {xs:List α} (h:aA w0 W g f0 f1 f2) (ho:Kd.N d e W base ok v xs) (ht:e≠135):some g≠v.ownBlock:=by
 obtain ⟨A0,c0,hb,hg,A1⟩:=h
 exact Kd.N_ne ho hb ht
theorem aA.fresh {w0 W:World} {g:Nat} {f0:List Int} {f1:Int} {f2:Int} (h:aA w0 W g f0 f1 f2):∀k,W.heap.size≤k→k≠g:=by
 obtain ⟨A0,c0,hb,hg,A1⟩:=h
 exact Kd.freshB hb
theorem aA.kept {w0 W:World} {g:Nat} {f0:List Int} {f1:Int} {f2:Int} {W1:World} {S:Nat→Prop} (h:aA w0 W g f0 f1 f2) (hk:b6 W W1 S) (hne:¬S g):aA w0 W1 g f0 f1 f2:=by
 obtain ⟨A0,c0,hb,hg,A1⟩:=h
 exact ⟨A0,c0,g9 hb hk hne,hg,A1⟩
theorem aA.below {w0 W:World} {g:Nat} {f0:List Int} {f1:Int} {f2:Int} {W1:World} (h:aA w0 W g f0 f1 f2) (hw:Below W.heap.size W W1):aA w0 W1 g f0 f1 f2:=h.grown (fK hw none) (by simp)
theorem aA.alloc {w0 W:World} {g:Nat} {f0:List Int} {f1:Int} {f2:Int} (h:aA w0 W g f0 f1 f2) (o:Obj):aA w0 (W.alloc o) g f0 f1 f2:=h.below (dA (Below.refl _ _) o)
theorem aA.drewN {w0 W:World} {g:Nat} {f0:List Int} {f1:Int} {f2:Int} (h:aA w0 W g f0 f1 f2) (m:Nat):aA w0 (W.drewN m) g f0 f1 f2:=h
theorem aA.drew {w0 W:World} {g:Nat} {f0:List Int} {f1:Int} {f2:Int} (h:aA w0 W g f0 f1 f2):aA w0 W.drew g f0 f1 f2:=h
theorem aA.at_ {w0 W:World} {g:Nat} {f0:List Int} {f1:Int} {f2:Int} {w':World} {m:Nat} (hq:W.drewN m=w') (h:aA w0 W g f0 f1 f2):aA w0 w' g f0 f1 f2:=by subst hq;exact aA.drewN h m
theorem aA.apart {w0 W:World} {g:Nat} {f0:List Int} {f1:Int} {f2:Int} {α:Type} {d:Kd α} {e:Nat} {base:Nat} {ok:Nat→Prop} {v:Value} {xs:List α} (h:aA w0 W g f0 f1 f2) (ho:d.R e W base ok v xs) (ht:∀q,q ∈ e::d.E→q≠135):d.R e W base (fun k=>ok k∧k≠g) v xs:=by
 obtain ⟨A0,c0,hb,hg,A1⟩:=h
 exact Kd.R_types ho hb ht
theorem aA.own_ne {w0 W:World} {g:Nat} {f0:List Int} {f1:Int} {f2:Int} {α:Type} {d:Kd α} {e:Nat} {base:Nat} {ok:Nat→Prop} {v:Value} {xs:List α} (h:aA w0 W g f0 f1 f2) (ho:d.R e W base ok v xs) (ht:e≠135):some g≠v.ownBlock:=by
 obtain ⟨A0,c0,hb,hg,A1⟩:=h
 exact Kd.R_ne ho hb ht
theorem aA.apartQ {w0 W:World} {g:Nat} {f0:List Int} {f1:Int} {f2:Int} {α:Type} {d:Kd α} {e:Nat} {base:Nat} {ok:Nat→Prop} {v:Value} {xs:List α} (h:aA w0 W g f0 f1 f2) (ho:d.Q e W base ok v xs) (ht:∀q,q ∈ e::d.E→q≠135):d.Q e W base (fun k=>ok k∧k≠g) v xs:=by
 obtain ⟨A0,c0,hb,hg,A1⟩:=h
 exact Kd.Q_types ho hb ht
theorem aA.own_neQ {w0 W:World} {g:Nat} {f0:List Int} {f1:Int} {f2:Int} {α:Type} {d:Kd α} {e:Nat} {base:Nat} {ok:Nat→Prop} {v:Value} {xs:List α} (h:aA w0 W g f0 f1 f2) (ho:d.Q e W base ok v xs) (ht:e≠135):some g≠v.ownBlock:=by
 obtain ⟨A0,c0,hb,hg,A1⟩:=h
 exact Kd.Q_ne ho hb ht
theorem aA.apartS {w0 W:World} {g:Nat} {f0:List Int} {f1:Int} {f2:Int} {α:Type} {d:Kd α} {e:Nat} {base:Nat} {ok:Nat→Prop} {v:Value} {xs:List α} (h:aA w0 W g f0 f1 f2) (ho:d.S e W base ok v xs) (ht:∀q,q ∈ e::d.E→q≠135):d.S e W base (fun k=>ok k∧k≠g) v xs:=by
 obtain ⟨A0,c0,hb,hg,A1⟩:=h
 exact Kd.S_types ho hb ht
theorem aA.own_neS {w0 W:World} {g:Nat} {f0:List Int} {f1:Int} {f2:Int} {α:Type} {d:Kd α} {e:Nat} {base:Nat} {ok:Nat→Prop} {v:Value} {xs:List α} (h:aA w0 W g f0 f1 f2) (ho:d.S e W base ok v xs) (ht:e≠135):some g≠v.ownBlock:=by
 obtain ⟨A0,c0,hb,hg,A1⟩:=h
 exact Kd.S_ne ho hb ht
theorem aA.lt {w0 W:World} {g:Nat} {f0:List Int} {f1:Int} {f2:Int} (h:aA w0 W g f0 f1 f2):g<W.heap.size:=by
 obtain ⟨A0,c0,hb,hg,A1⟩:=h
 exact fG hb
theorem aA.ge {w0 W:World} {g:Nat} {f0:List Int} {f1:Int} {f2:Int} (h:aA w0 W g f0 f1 f2):w0.heap.size≤g:=by
 obtain ⟨A0,c0,hb,hg,A1⟩:=h
 exact hg
theorem aA.ne_blk {w0 W:World} {g:Nat} {f0:List Int} {f1:Int} {f2:Int} {a:Nat} {cs:Array Value} {t:TypeId} {fr:Nat × Nat} (h:aA w0 W g f0 f1 f2) (A1:W.heap[a]? =some (.cells cs t fr)) (ht:t≠135):g≠a:=by
 obtain ⟨A0,c0,hb,hg,A3⟩:=h
 rintro rfl
 rw [hb] at A1
 injection A1 with A1
 injection A1 with _ A2
 exact ht A2.symm
theorem aA.far {w0 W:World} {g:Nat} {f0:List Int} {f1:Int} {f2:Int} {p:Addr} (h:aA w0 W g f0 f1 f2) (hne:g≠p.block) (u:Value):aA w0 (W.setCell p u) g f0 f1 f2:=by
 obtain ⟨A0,c0,hb,hg,A1⟩:=h
 exact ⟨A0,c0,aN hb hne u,hg,A1⟩
theorem iZ {W:World} {g:Nat} {A0:Option Addr} {c0:Nat} {f0:List Int} {f1:Int} {f2:Int} (h:W.heap[g]? =some (.cells #[.slice A0 f0.length c0,.int .i64 f1,.int .i64 f2] 135 (0,0))):W.cell? ⟨g,0,none⟩=some (.slice A0 f0.length c0):=(aD h 0).trans rfl
theorem i5 {W:World} {g:Nat} {A0:Option Addr} {c0:Nat} {f0:List Int} {f1:Int} {f2:Int} (h:W.heap[g]? =some (.cells #[.slice A0 f0.length c0,.int .i64 f1,.int .i64 f2] 135 (0,0))):W.cell? ⟨g,1,none⟩=some (.int .i64 f1):=(aD h 1).trans rfl
theorem aA.set_1 {w0 W:World} {g:Nat} {f0:List Int} {f1:Int} {f2:Int} (h:aA w0 W g f0 f1 f2) (x:Int):aA w0 (W.setCell ⟨g,1,none⟩ (.int .i64 x)) g f0 x f2:=by
 obtain ⟨A0,c0,hb,hg,A1⟩:=h
 exact ⟨A0,c0,by simpa using gD hb 1 (.int .i64 x),hg,A1⟩
theorem i6 {W:World} {g:Nat} {A0:Option Addr} {c0:Nat} {f0:List Int} {f1:Int} {f2:Int} (h:W.heap[g]? =some (.cells #[.slice A0 f0.length c0,.int .i64 f1,.int .i64 f2] 135 (0,0))):W.cell? ⟨g,2,none⟩=some (.int .i64 f2):=(aD h 2).trans rfl
theorem aA.set_2 {w0 W:World} {g:Nat} {f0:List Int} {f1:Int} {f2:Int} (h:aA w0 W g f0 f1 f2) (x:Int):aA w0 (W.setCell ⟨g,2,none⟩ (.int .i64 x)) g f0 f1 x:=by
 obtain ⟨A0,c0,hb,hg,A1⟩:=h
 exact ⟨A0,c0,by simpa using gD hb 2 (.int .i64 x),hg,A1⟩
theorem aA.new (w0 W:World) (A0:Option Addr) (c0:Nat) (f0:List Int) (f1:Int) (f2:Int) (hB:Below w0.heap.size w0 W) (A1:Kd.C (Kd.int .u8) w0 A0 f0.length f0∧f0.length≤c0):aA w0 (W.alloc (.cells #[.slice A0 f0.length c0,.int .i64 f1,.int .i64 f2] 135)) W.heap.size f0 f1 f2:=⟨A0,c0,by simpa using heap_alloc_new W _,hB.size,A1⟩
theorem aA.q0 {a b:Prop} (h:a) (g:a→b:=by intro h_;repeat (first|(with_reducible first|exact h_|apply aA.alloc|apply aA.drewN|apply aA.drew|apply aA.set_1|apply aA.set_2)|exact h_)):b:=g h
theorem aA.q1 {a b:Prop} {c0:Prop} (h:a) (h0:c0) (g:a→c0→b:=by intro h_ A0;repeat (first|(with_reducible first|exact h_|apply aA.alloc|apply aA.drewN|apply aA.drew|apply aA.set_1|apply aA.set_2|refine aA.far ?_ A0 _)|exact h_)):b:=g h h0
theorem aA.q2 {a b:Prop} {c0:Prop} {c1:Prop} (h:a) (h0:c0) (h1:c1) (g:a→c0→c1→b:=by intro h_ A0 A1;repeat (first|(with_reducible first|exact h_|apply aA.alloc|apply aA.drewN|apply aA.drew|apply aA.set_1|apply aA.set_2|refine aA.far ?_ A0 _|refine aA.far ?_ A1 _)|exact h_)):b:=g h h0 h1
theorem aA.q3 {a b:Prop} {c0:Prop} {c1:Prop} {c2:Prop} (h:a) (h0:c0) (h1:c1) (h2:c2) (g:a→c0→c1→c2→b:=by intro h_ A0 A1 A2;repeat (first|(with_reducible first|exact h_|apply aA.alloc|apply aA.drewN|apply aA.drew|apply aA.set_1|apply aA.set_2|refine aA.far ?_ A0 _|refine aA.far ?_ A1 _|refine aA.far ?_ A2 _)|exact h_)):b:=g h h0 h1 h2
def d7.l0:Nat→List Int→Int→Int→Option (List Int × Int × Int)
 |0,_,_,_=>none
 |k+1,x0,x3,x4=>if x4<(x0.length:Int) then (if x4<4000 then (if 0≤x4 then (d7.l0 k x0 (Go.bits .and .i64 (wrap64 ((wrap64 ((wrap64 (x3*137))+(wrap64 (rd x0 x4))))+11)) 1073741823) (wrap64 (x4+1))) else (none)) else (some (x0,0,x3))) else (some (x0,0,x3))
def d7.f (k:Nat) (l0:List Int):Option (List Int × Int × Int):=d7.l0 k l0 (wrap64 (762762+(l0.length:Int))) 0
theorem d7.calls (k:Nat) (A0:Option Addr) (c0:Nat) (l0:List Int) (r1:List Int) (r2:Int) (r3:Int) (w0 w:World) (hB:Below w0.heap.size w0 w) (Ai:Kd.C (Kd.int .u8) w0 A0 l0.length l0) (Aj:l0.length≤c0) (h:d7.f k l0=some (r1,r2,r3)):
 Calls Try.prog 74 #[.slice A0 l0.length c0] w fun e w'=>∃g_:Nat,e=.returned (.pointer (some ⟨g_,0,none⟩))∧aA w0 w' g_ r1 r2 r3∧Below w0.heap.size w0 w'∧Below w.heap.size w w':=by
 have Ak:=Try.underlying135
 have Ae:=am Ai
 have Al:=am Aj
 clear Ai Aj
 have HBW:=am (Below.refl w.heap.size w)
 have Am:=am hB.size
 have HB:=am hB
 clear hB
 have H:=h
 clear h
 unfold d7.f at H
 have H':=am H
 clear H
 go_enter Try.func74,Try.ntmps74
 go_wp2
 go_loopg [3,4] k (fun kq v3 v4 w'=>∃(A1:Int) (A2:Int),v3=.int .i64 A1∧v4=.int .i64 A2∧Aside0 (d7.l0 kq l0 A1 A2=some (r1,r2,r3))∧Aside0 (kq≤k)∧Aside0 (Below w0.heap.size w0 w')∧Aside0 (Below w.heap.size w w'))
 case atStart=>exact ⟨(wrap64 (762762+(l0.length:Int))),(0),sq,sq,H',⟨lZ _⟩,⟨bq HB.o⟩,⟨bq HBW.o⟩⟩
 case round=>
  clear H' HBW
  obtain ⟨A1,A2,rfl,rfl,HA,An,HB,HBW⟩:=hrel
  cases gk with
  |zero=>exact absurd HA.o (by simp [d7.l0])
  |succ k1=>
   have H:=HA.o
   clear HA
   simp only [d7.l0] at H
   replace H:=il' H
   rcases H with ⟨-,Af,H⟩|⟨-,Af,H⟩
   · simp only [lW,lX] at H
     obtain ⟨rfl,rfl,rfl⟩:=H
     go_wp2_with (first|((with_reducible refine aI (N:=31) rfl ?_);refine bxe 31 #[.slice A0 l0.length c0,.int .i64 0,.int .i64 A1] 135 ?_;intro A4 hg w6 hbox hb;have n_:=ak5 (aC HBW.o hb) (aC (bq HB.o) hb) hbox (bz hg (bq HBW.o)) ((Nat.le_trans Am.o (by rw [hg];exact (aH (bq HBW.o)):w.heap.size≤A4):w0.heap.size≤A4));clear HBW HB;obtain ⟨HBW,HB,Aa,Ab,A6⟩:=n_;clear hb hbox hg))
     go_ret
     exact ⟨_,rfl,(show aA w0 _ A4 l0 0 A1 from ⟨_,_,zq Aa.o,A6.o,⟨Ae.o,Al.o⟩⟩),bq1 HB.o A6.o,bq1 HBW.o Ab.o⟩
   replace H:=il' H
   rcases H with ⟨-,Ag,H⟩|⟨-,Ag,H⟩
   · simp only [lW,lX] at H
     obtain ⟨rfl,rfl,rfl⟩:=H
     go_wp2_with (first|((with_reducible refine aI (N:=31) rfl ?_);refine bxe 31 #[.slice A0 l0.length c0,.int .i64 0,.int .i64 A1] 135 ?_;intro A5 hg w5 hbox hb;have n_:=ak5 (aC HBW.o hb) (aC (bq HB.o) hb) hbox (bz hg (bq HBW.o)) ((Nat.le_trans Am.o (by rw [hg];exact (aH (bq HBW.o)):w.heap.size≤A5):w0.heap.size≤A5));clear HBW HB;obtain ⟨HBW,HB,Ac,Ad,A7⟩:=n_;clear hb hbox hg))
     go_ret
     exact ⟨_,rfl,(show aA w0 _ A5 l0 0 A1 from ⟨_,_,zq Ac.o,A7.o,⟨Ae.o,Al.o⟩⟩),bq1 HB.o A7.o,bq1 HBW.o Ad.o⟩
   replace H:=nl H
   obtain ⟨-,Ap,H⟩:=H
   have H':=am H
   clear H
   have A8:0≤(A2:Int):=oda
   have A9:A2<(l0.length:Int):=oda
   obtain ⟨Ao,Ah,A3⟩:=Kd.at_int Ae.o A2 A8 A9
   cases Ah
   replace A3:=fH HB.o A3
   replace A8:=eq_true A8
   replace A9:=eq_true A9
   go_wp2
   go_roundg k1
   case measure=>have:=An.o;omega
   case rel=>exact ⟨(Go.bits .and .i64 (wrap64 ((wrap64 ((wrap64 (A1*137))+(wrap64 (rd l0 A2))))+11)) 1073741823),(wrap64 (A2+1)),sq,sq,H',⟨by have:=An.o;omega⟩,⟨bq HB.o⟩,⟨bq HBW.o⟩⟩
def dU.f (A2:List Int) (A1:Int) (A0:Int):Option (Int × Int × Int):=if A1<(A2.length:Int) then (if 0≤A1 then (some (Go.bits .and .i64 (wrap64 ((Go.bits .and .i64 (Go.bits .xor .i64 ((wrap64 ((wrap64 (A0*6364136223846793005))+1442695040888963407)) / 8589934592) ((wrap64 ((wrap64 (A0*6364136223846793005))+1442695040888963407)) / 140737488355328)) 255)+(wrap64 (rd A2 A1)))) 255,wrap64 (A1+1),wrap64 ((wrap64 (A0*6364136223846793005))+1442695040888963407))) else (none)) else (some (Go.bits .and .i64 (Go.bits .xor .i64 ((wrap64 ((wrap64 (A0*6364136223846793005))+1442695040888963407)) / 8589934592) ((wrap64 ((wrap64 (A0*6364136223846793005))+1442695040888963407)) / 140737488355328)) 255,A1,wrap64 ((wrap64 (A0*6364136223846793005))+1442695040888963407)))
theorem dU.calls (g:Nat) (A5:List Int) (A4:Int) (A6:Int) (r1:Int) (r2:Int) (r3:Int) (w0 w:World) (hI:aA w0 w g A5 A4 A6) (hB:Below w0.heap.size w0 w) (h:dU.f A5 A4 A6=some (r1,r2,r3)):
 Calls Try.prog 137 #[.pointer (some ⟨g,0,none⟩)] w fun e w'=>e=.returned (.int .i64 r1)∧aA w0 w' g A5 r2 r3∧Below w0.heap.size w0 w'∧KeepBut w w' g none:=by
 have A7:=am hI
 have HK:=am (KeepBut.refl w g none)
 have HL:=am hB.size
 clear hI
 have Ax:=am hB.size
 have HB:=am hB
 clear hB
 have H:=h
 clear h
 unfold dU.f at H
 replace H:=il' H
 rcases H with ⟨-,Ad,H⟩|⟨-,Ad,H⟩
 · simp only [lW,lX] at H
   obtain ⟨rfl,rfl,rfl⟩:=H
   obtain ⟨Ae,Af,A2,Ag,Ah⟩:=A7.o
   have Ai:=iZ A2
   have Aj:=i5 A2
   have Ak:=i6 A2
   have Al:=aM A2 1
   have Am:=aM A2 2
   clear A2 Ag
   go_enter Try.func137,Try.ntmps137
   try go_wp2
   repeat (go_quiet (fail);try go_wp2)
   go_ret
   exact ⟨rq,aA.q0 A7.o,bq1 HB.o (aA.ge A7.o),kp0 HK.o⟩
 replace H:=nl H
 obtain ⟨-,Aw,H⟩:=H
 simp only [lW,lX] at H
 obtain ⟨rfl,rfl,rfl⟩:=H
 obtain ⟨An,Ao,A3,Ap,A8⟩:=A7.o
 have Aq:=iZ A3
 have Ar:=i5 A3
 have As:=i6 A3
 have At:=aM A3 1
 have Au:=aM A3 2
 clear A3 Ap
 have A9:0≤(A4:Int):=oda
 have Aa:A4<(A5.length:Int):=oda
 obtain ⟨Ab,Av,A0⟩:=Kd.at_int A8.1 A4 A9 Aa
 cases Av
 have A1:Ab.block≠g:=Nat.ne_of_lt (Nat.lt_of_lt_of_le (by have:=lS _ _ A0;first|rwa [f8] at this|exact this) (aA.ge A7.o))
 replace A0:=fH HB.o A0
 replace A0:=(kY (p:=⟨g,2,none⟩) (by first|(rw [f8];exact A1)|(show (Addr.add _ _).block≠_;rw [f8];exact A1)|exact A1) (.int .i64 (wrap64 ((wrap64 (A6*6364136223846793005))+1442695040888963407)))).trans A0
 (try have Ac:=fun (n_:Nat)=>(show (((w.drewN n_).setCell ⟨g,2,none⟩ (.int .i64 (wrap64 ((wrap64 (A6*6364136223846793005))+1442695040888963407))))).cell? _=some _ from A0))
 clear A1
 replace A9:=eq_true A9
 replace Aa:=eq_true Aa
 go_enter Try.func137,Try.ntmps137
 try go_wp2
 repeat (go_quiet (fail);try go_wp2)
 go_ret
 exact ⟨rq,aA.q0 A7.o,bq1 HB.o (aA.ge A7.o),kp0 HK.o⟩
def bC.f (A4:List Int) (A5:Int) (A6:Int) (a1:Int):Option (Int × Int × Int):=if a1≤0 then (some (0,A5,A6)) else (if a1≤256 then ((dU.f A4 A5 A6).bind fun A0=>(if a1=0 then (none) else (some (Int.tmod A0.1 a1,A0.2.1,A0.2.2)))) else ((dU.f A4 A5 A6).bind fun A1=>((dU.f A4 A1.2.1 A1.2.2).bind fun A2=>((dU.f A4 A2.2.1 A2.2.2).bind fun A3=>(if a1=0 then (none) else (some (Int.tmod (wrap64 ((wrap64 ((wrap64 (A1.1*65536))+(wrap64 (A2.1*256))))+A3.1)) a1,A3.2.1,A3.2.2)))))))
theorem bC.calls (g:Nat) (A1:List Int) (A5:Int) (A6:Int) (a1:Int) (r1:Int) (r2:Int) (r3:Int) (w0 w:World) (hI:aA w0 w g A1 A5 A6) (hB:Below w0.heap.size w0 w) (h:bC.f A1 A5 A6 a1=some (r1,r2,r3)):
 Calls Try.prog 122 #[.pointer (some ⟨g,0,none⟩),.int .i64 a1] w fun e w'=>e=.returned (.int .i64 r1)∧aA w0 w' g A1 r2 r3∧Below w0.heap.size w0 w'∧KeepBut w w' g none:=by
 have A0:=am hI
 have HK:=am (KeepBut.refl w g none)
 have HL:=am hB.size
 clear hI
 have An:=am hB.size
 have HB:=am hB
 clear hB
 have H:=h
 clear h
 unfold bC.f at H
 replace H:=il H
 rcases H with ⟨-,Ad,H⟩|⟨-,Ad,H⟩
 have z0:=trivial
 rotate_left
 replace H:=il H
 rcases H with ⟨-,Ae,H⟩|⟨-,Ae,H⟩
 replace H:=be H
 obtain ⟨⟨A4,A2,A3⟩,Af,H⟩:=H
 try dsimp only at H
 replace H:=ip H
 rcases H with ⟨c6,H⟩|⟨c6,H⟩
 · exact absurd H (by simp)
 have Aj:(a1==0)=false:=beq_eq_false_iff_ne.mpr c6
 have Ak:(a1 !=0)=true:=bne_iff_ne.mpr c6
 have z1:=trivial
 rotate_left
 replace H:=be H
 obtain ⟨⟨A4,A2,A3⟩,Af,H⟩:=H
 try dsimp only at H
 replace H:=be H
 obtain ⟨⟨A9,A7,A8⟩,Al,H⟩:=H
 try dsimp only at H
 replace H:=be H
 obtain ⟨⟨Aa,Ab,Ac⟩,Am,H⟩:=H
 try dsimp only at H
 replace H:=ip H
 rcases H with ⟨Ag,H⟩|⟨Ag,H⟩
 · exact absurd H (by simp)
 have Ah:(a1==0)=false:=beq_eq_false_iff_ne.mpr Ag
 have Ai:(a1 !=0)=true:=bne_iff_ne.mpr Ag
 have z2:=trivial
 rotate_right
 rotate_right
 all_goals
  simp only [lW,lX] at H
  obtain ⟨rfl,rfl,rfl⟩:=H
  go_enter Try.func122,Try.ntmps122
  go_wp2_with (first|((with_reducible refine aE (f:=137) rfl ?_);have:=z2;refine gc (some 19) (dU.calls g A1 A2 A3 A9 A7 A8 w0 _ (aA.q0 A0.o) (bq1 HB.o (aA.ge A0.o)) Al.o) Try.func137 ?_;rintro e w_ ⟨rfl,hi,hb,hk⟩;refine ⟨_,rfl,?_⟩;have n_:=ak3 (KeepBut.trans (kp0 HK.o) hk (.inl rfl)) hb hi;clear HK HB A0;obtain ⟨HK,HB,A0⟩:=n_;(try clear hb hk hi))|((with_reducible refine aE (f:=137) rfl ?_);have:=z2;refine gc (some 21) (dU.calls g A1 A7 A8 Aa Ab Ac w0 _ (aA.q0 A0.o) (bq1 HB.o (aA.ge A0.o)) Am.o) Try.func137 ?_;rintro e w_ ⟨rfl,hi,hb,hk⟩;refine ⟨_,rfl,?_⟩;have n_:=ak3 (KeepBut.trans (kp0 HK.o) hk (.inl rfl)) hb hi;clear HK HB A0;obtain ⟨HK,HB,A0⟩:=n_;(try clear hb hk hi))|((with_reducible refine aE (f:=137) rfl ?_);have:=z1;refine gc (some 13) (dU.calls g A1 A5 A6 A4 A2 A3 w0 _ (aA.q0 A0.o) (bq1 HB.o (aA.ge A0.o)) Af.o) Try.func137 ?_;rintro e w_ ⟨rfl,hi,hb,hk⟩;refine ⟨_,rfl,?_⟩;have n_:=ak3 (KeepBut.trans (kp0 HK.o) hk (.inl rfl)) hb hi;clear HK HB A0;obtain ⟨HK,HB,A0⟩:=n_;(try clear hb hk hi))|((with_reducible refine aE (f:=137) rfl ?_);have:=z2;refine gc (some 17) (dU.calls g A1 A5 A6 A4 A2 A3 w0 _ (aA.q0 A0.o) (bq1 HB.o (aA.ge A0.o)) Af.o) Try.func137 ?_;rintro e w_ ⟨rfl,hi,hb,hk⟩;refine ⟨_,rfl,?_⟩;have n_:=ak3 (KeepBut.trans (kp0 HK.o) hk (.inl rfl)) hb hi;clear HK HB A0;obtain ⟨HK,HB,A0⟩:=n_;(try clear hb hk hi)))
  go_ret
  exact ⟨rq,aA.q0 A0.o,bq1 HB.o (aA.ge A0.o),kp0 HK.o⟩
def cI.f (A1:List Int) (A2:Int) (A3:Int) (l1:List Int):Option (Int × Int × Int):=(bC.f A1 A2 A3 (l1.length:Int)).bind fun A0=>(if 0≤A0.1 then (if A0.1<(l1.length:Int) then (some (rd l1 A0.1,A0.2.1,A0.2.2)) else (none)) else (none))
theorem cI.calls (g:Nat) (A3:List Int) (A4:Int) (A5:Int) (A1:Option Addr) (c1:Nat) (l1:List Int) (r1:Int) (r2:Int) (r3:Int) (w0 w:World) (hI:aA w0 w g A3 A4 A5) (hB:Below w0.heap.size w0 w) (Ae:Kd.C (Kd.int .i64) w A1 l1.length l1) (Af:l1.length≤c1) (Ac:∀ad,A1=some ad→0<l1.length→ad.block≠g) (h:cI.f A3 A4 A5 l1=some (r1,r2,r3)):
 Calls Try.prog 86 #[.pointer (some ⟨g,0,none⟩),.slice A1 l1.length c1] w fun e w'=>e=.returned (.int .i64 r1)∧aA w0 w' g A3 r2 r3∧Below w0.heap.size w0 w'∧KeepBut w w' g none:=by
 have Ag:=am Ae
 have Ak:=am Af
 clear Ae Af
 have A8:=am hI
 have HK:=am (KeepBut.refl w g none)
 have HL:=am hB.size
 clear hI
 have Al:=am hB.size
 have HB:=am hB
 clear hB
 have H:=h
 clear h
 unfold cI.f at H
 replace H:=be H
 obtain ⟨⟨A0,A9,Aa⟩,Ah,H⟩:=H
 try dsimp only at H
 replace H:=nl H
 obtain ⟨-,Ai,H⟩:=H
 replace H:=nl H
 obtain ⟨-,Aj,H⟩:=H
 simp only [lW,lX] at H
 obtain ⟨rfl,rfl,rfl⟩:=H
 go_enter Try.func86,Try.ntmps86
 go_wp2_with (first|((with_reducible refine aE (f:=122) rfl ?_);refine gc (some 9) (bC.calls g A3 A4 A5 (l1.length:Int) A0 A9 Aa w0 _ (aA.q0 A8.o) (bq1 HB.o (aA.ge A8.o)) Ah.o) Try.func122 ?_;rintro e w6 ⟨rfl,hi,hb,hk⟩;refine ⟨_,rfl,?_⟩;have n_:=ak3 (KeepBut.trans (kp0 HK.o) hk (.inl rfl)) hb hi;clear HK HB A8;obtain ⟨HK,HB,A8⟩:=n_;(try clear hb hk hi);have A6:0≤(A0:Int):=oda;have A7:A0<(l1.length:Int):=oda;obtain ⟨Ab,Ad,A2⟩:=Kd.at_int Ag.o A0 A6 A7;cases Ad;replace A2:=jD HK.o A2 (by first|(rw [f8];exact Ac _ rfl (by omega))|exact Ac _ rfl (by omega)|exact Ac Ab rfl (by omega));replace A6:=eq_true A6;replace A7:=eq_true A7))
 go_ret
 exact ⟨rq,aA.q0 A8.o,bq1 HB.o (aA.ge A8.o),kp0 HK.o⟩
def fD.f (A4:List Int) (A5:Int) (A6:Int) (l1:List Int):Option (List Int × Int × Int):=if (l1.length:Int)=0 then (some (l1,A5,A6)) else ((bC.f A4 A5 A6 5).bind fun A0=>(if A0.1=0 then ((bC.f A4 A0.2.1 A0.2.2 (l1.length:Int)).bind fun A1=>((cI.f A4 A1.2.1 A1.2.2 (([0,1,2,4,5,6,48,127,128,129,160,255]:List Int))).bind fun A3=>(if 0≤A1.1 then (if A1.1<(l1.length:Int) then (some ((l1.set (A1.1:Int).toNat ((A3.1) % 256)),A3.2.1,A3.2.2)) else (none)) else (none)))) else (if A0.1=1 then (if l1.length<140737488355328 then (some ((l1++[3]),A0.2.1,A0.2.2)) else (none)) else (if A0.1=2 then ((bC.f A4 A0.2.1 A0.2.2 (l1.length:Int)).bind fun A2=>(if 0≤A2.1 then (if A2.1≤(l1.length:Int) then (some ((l1.take (A2.1:Int).toNat),A2.2.1,A2.2.2)) else (none)) else (none))) else (some (l1,A0.2.1,A0.2.2))))))
theorem fD.calls (g:Nat) (A4:List Int) (Ac:Int) (Ad:Int) (A9:Nat→Prop) (Aa:Value) (l1:List Int) (r1:List Int) (r2:Int) (r3:Int) (w0 w:World) (hI:aA w0 w g A4 Ac Ad) (hB:Below w0.heap.size w0 w) (Ca:Kd.R (Kd.int .u8) 5 w w0.heap.size A9 Aa l1) (h:fD.f A4 Ac Ad l1=some (r1,r2,r3)):
 Calls Try.prog 77 #[.pointer (some ⟨g,0,none⟩),Aa] w fun e w'=>∃Bz:Value,e=.returned (Bz)∧Kd.R (Kd.int .u8) 5 w' w0.heap.size (fun k_=>(A9 k_∨w.heap.size≤k_)) Bz r1∧aA w0 w' g A4 r2 r3∧Below w0.heap.size w0 w'∧b6 w w' (fun k_=>(A9 k_)∨k_=g):=by
 have A2:=am (show Kd.R (Kd.int .u8) 5 w w0.heap.size (fun k_=>(A9 k_∨w.heap.size≤k_)) Aa l1 from Kd.R_mono Ca (fun k_ hk=>(.inl hk)))
 have A1:=am hI
 have HL:=am hB.size
 clear hI
 have HK:=am (b6.refl w (fun k_=>(A9 k_)∨k_=g))
 have Cr:=am hB.size
 have HB:=am hB
 clear hB
 have H:=h
 clear h
 unfold fD.f at H
 replace H:=iq H
 rcases H with ⟨-,B7,B8,H⟩|⟨c3,B7,B8,H⟩
 simp only [lW,lX] at H
 obtain ⟨rfl,rfl,rfl⟩:=H
 obtain ⟨Cs,Ct,Cb⟩:=Kd.R_slice A2.o
 subst Cb
 have z0:=trivial
 rotate_left
 have Cc:¬(l1=[]):=fun h_=>c3 (by rw [h_];rfl)
 replace H:=be H
 obtain ⟨⟨Ag,A5,A6⟩,C0,H⟩:=H
 try dsimp only at H
 replace H:=iq H
 rcases H with ⟨-,B9,Ba,H⟩|⟨c6,B9,Ba,H⟩
 · replace H:=be H
   obtain ⟨⟨A0,A7,A8⟩,Bb,H⟩:=H
   try dsimp only at H
   generalize Ah:((([0,1,2,4,5,6,48,127,128,129,160,255]:List Int)):List Int)=Bc at H
   have Ai:=am Ah.symm
   clear Ah
   replace H:=be H
   obtain ⟨⟨Ab,Aq,Ar⟩,Cd,H⟩:=H
   try dsimp only at H
   replace H:=nl H
   obtain ⟨-,Ce,H⟩:=H
   replace H:=nl H
   obtain ⟨-,C1,H⟩:=H
   generalize Aj:((l1.set (A0:Int).toNat ((Ab) % 256)):List Int)=Bd at H
   have As:=am Aj.symm
   clear Aj
   simp only [lW,lX] at H
   obtain ⟨rfl,rfl,rfl⟩:=H
   obtain ⟨Cf,At,Be⟩:=Kd.R_slice A2.o
   subst Be
   go_enter Try.func77,Try.ntmps77
   go_wp2_with (first|((with_reducible refine aE (f:=122) rfl ?_);refine gc (some 10) (bC.calls g A4 Ac Ad 5 Ag A5 A6 w0 _ (aA.q0 A1.o) (bq1 HB.o (aA.ge A1.o)) C0.o) Try.func122 ?_;rintro e Cu ⟨rfl,hi,hb,hk⟩;refine ⟨_,rfl,?_⟩;have n_:=ak4 (Kd.R_mono (Kd.R_keep (aA.apart (show aA w0 _ g A4 Ac Ad from aA.q0 A1.o) (kqR A2.o) (by decide)) hk (fun _ h=>h.2)) (fun _ h=>h.1)) (b6.of_keep (S:=(fun k_=>(A9 k_)∨k_=g)) (by repeat (first|(with_reducible first|exact HK.o|apply b6.alloc|apply b6.drewN|apply b6.drew|refine b6.setCell ?_ (.inl (.inr rfl)) _)|exact HK.o)) hk (.inl (.inr rfl))) hb hi;clear A2 HK HB A1;obtain ⟨A2,HK,HB,A1⟩:=n_;(try clear hb hk hi))|((with_reducible refine aE (f:=122) rfl ?_);refine gc (some 17) (bC.calls g A4 A5 A6 (l1.length:Int) A0 A7 A8 w0 _ (aA.q0 A1.o) (bq1 HB.o (aA.ge A1.o)) Bb.o) Try.func122 ?_;rintro e Cv ⟨rfl,hi,hb,hk⟩;refine ⟨_,rfl,?_⟩;have n_:=ak4 (Kd.R_mono (Kd.R_keep (aA.apart (show aA w0 _ g A4 A5 A6 from aA.q0 A1.o) (kqR A2.o) (by decide)) hk (fun _ h=>h.2)) (fun _ h=>h.1)) (b6.of_keep (S:=(fun k_=>(A9 k_)∨k_=g)) (by repeat (first|(with_reducible first|exact HK.o|apply b6.alloc|apply b6.drewN|apply b6.drew|refine b6.setCell ?_ (.inl (.inr rfl)) _)|exact HK.o)) hk (.inl (.inr rfl))) hb hi;clear A2 HK HB A1;obtain ⟨A2,HK,HB,A1⟩:=n_;(try clear hb hk hi))|((with_reducible refine aI (N:=19) rfl ?_);refine Kd.R_lit (Kd.int .i64) _ 3 ?hg (N:=19) ?hd (xs:=([0,1,2,4,5,6,48,127,128,129,160,255]:List Int)) (inner:=[.int .i64 0,.int .i64 1,.int .i64 2,.int .i64 4,.int .i64 5,.int .i64 6,.int .i64 48,.int .i64 127,.int .i64 128,.int .i64 129,.int .i64 160,.int .i64 255]) (ok:=fun _=>True) (okp:=fun _=>True) ?hr ?hp (fun _ hk=>hk) trivial (Below.refl _ _) (lZ _) (by simp) ?_;(case hd=>rfl);(case hg=>rfl);(case hr=>exact gs);(case hp=>exact (a9.one (ri 0) (a9.one (ri 1) (a9.one (ri 2) (a9.one (ri 4) (a9.one (ri 5) (a9.one (ri 6) (a9.one (ri 48) (a9.one (ri 127) (a9.one (ri 128) (a9.one (ri 129) (a9.one (ri 160) (a9.one (ri 255) (a9.none _ _))))))))))))));intro Cg Cw Ae hb hg_ hnew_;clear hg_ hnew_;(first|rw [← Ai.o] at Ae|(simp only [Int.reduceToNat] at Ae;rw [← Ai.o] at Ae));have n_:=ak5 (rb A2 hb) (Kd.R_lower (Kd.R_newM (M:=fun k_=>(A9 k_∨w.heap.size≤k_)) Ae (by first|exact HK.o.1|exact (show b6 w _ (fun k_=>(A9 k_)∨k_=g) from by repeat (first|(with_reducible first|exact HK.o|apply b6.alloc|apply b6.drewN|apply b6.drew|refine b6.setCell ?_ (.inl (.inr rfl)) _)|exact HK.o)).1) (fun k_ h_=>.inr h_)) (aH (bq1 HB.o (aA.ge A1.o)))) (aA.below (aA.q0 A1.o) hb) (b6.below (S:=(fun k_=>(A9 k_)∨k_=g)) (by repeat (first|(with_reducible first|exact HK.o|apply b6.alloc|apply b6.drewN|apply b6.drew|refine b6.setCell ?_ (.inl (.inr rfl)) _)|exact HK.o)) hb) (aC (bq1 HB.o (aA.ge A1.o)) hb);clear A2 A1 HK HB;obtain ⟨A2,A3,A1,HK,HB⟩:=n_;clear hb Ae;obtain ⟨Ch,Ci,Bf⟩:=Kd.R_slice A3.o;subst Bf)|((with_reducible refine aE (f:=86) rfl ?_);refine gc (some 20) (cI.calls g A4 A7 A8 _ _ Bc Ab Aq Ar w0 _ (aA.q0 A1.o) (bq1 HB.o (aA.ge A1.o)) (cq (Kd.R_reads' A3.o).2.2) ((Kd.R_reads' A3.o).2.1) (eQ (aA.own_ne A1.o A3.o (by decide))) Cd.o) Try.func86 ?_;rintro e C2 ⟨rfl,hi,hb,hk⟩;refine ⟨_,rfl,?_⟩;have n_:=ak5 (Kd.R_mono (Kd.R_keep (aA.apart (show aA w0 _ g A4 A7 A8 from aA.q0 A1.o) (kqR A2.o) (by decide)) hk (fun _ h=>h.2)) (fun _ h=>h.1)) (Kd.R_mono (Kd.R_keep (aA.apart (show aA w0 _ g A4 A7 A8 from aA.q0 A1.o) (kqR A3.o) (by decide)) hk (fun _ h=>h.2)) (fun _ h=>h.1)) (b6.of_keep (S:=(fun k_=>(A9 k_)∨k_=g)) (by repeat (first|(with_reducible first|exact HK.o|apply b6.alloc|apply b6.drewN|apply b6.drew|refine b6.setCell ?_ (.inl (.inr rfl)) _)|exact HK.o)) hk (.inl (.inr rfl))) hb hi;clear A2 A3 HK HB A1;obtain ⟨A2,A3,HK,HB,A1⟩:=n_;(try clear hb hk hi);have Bg:0≤(A0:Int):=oda;have Bh:(A0:Int)<((l1.length:Int):Int):=oda;obtain ⟨go11,Cj,Au,Av,Bi,Ck,Aw⟩:=Kd.R_form A2.o (by omega);(first|cases Au|(injection Au with ea_ en_ ec_;(first|subst ea_|(injection ea_ with ea_;subst ea_));subst ec_;clear en_));have Bj:=am Av;have Cl:=am Aw;clear Av Bi Aw;have Bk:=am (show (A9 go11∨w.heap.size≤go11) from (A2.o.1 _ rfl));obtain ⟨Bl,Bm⟩:=Kd.R_celln 0 A2.o (A0:Int) Bg Bh;replace Bg:=eq_true Bg;replace Bh:=eq_true Bh;obtain ⟨C3,C4⟩:=Kd.R_celln 0 A2.o (A0:Int) (oda) (oda);have Ao:=Kd.R_putg A2.o (A0:Int) ((Ab) % 256))|((with_reducible refine aJ (t:=5) (p:=22) rfl ?_);refine se 5 22 (C2.setCell ⟨go11,(A0:Int).toNat,none⟩ (.int .u8 ((Ab) % 256))) ?_;intro Bn hw;have hg:C2.grownBy Bn (some go11):=(by rw [hw];exact Ao.2);have hp_:Kd.R (Kd.int .u8) 5 Bn w0.heap.size (fun k_=>(A9 k_∨w.heap.size≤k_)) (.slice (some ⟨go11,0,none⟩) l1.length At) Bd:=(by rw [hw,As.o];exact Ao.1);clear Ao;have n_:=ak5 (aA.grown (aA.q0 A1.o) hg (aA.own_ne A1.o A2.o (by decide))) hp_ (Kd.R_over' (v:=(.slice (some ⟨go11,0,none⟩) l1.length At)) (kqR A3.o) (Kd.R_typed A2.o) (by decide) hg) ((by rw [hw];exact eA (HB.o) Bj.o:Below w0.heap.size w0 Bn)) (b6.of_grown (S:=(fun k_=>(A9 k_)∨k_=g)) hg (by repeat (first|(with_reducible first|exact HK.o|apply b6.alloc|apply b6.drewN|apply b6.drew|refine b6.setCell ?_ (.inl (.inr rfl)) _)|exact HK.o)) (fun k_ e_=>Or.imp_left Or.inl ((A2.o.1 k_ e_))));clear A1 A2 A3 HB HK;obtain ⟨A1,A2,A3,HB,HK⟩:=n_;clear hg hw hp_))
   go_ret
   exact ⟨_,rq,kqR A2.o,aA.q0 A1.o,bq1 HB.o (aA.ge A1.o),by repeat (first|(with_reducible first|exact HK.o|apply b6.alloc|apply b6.drewN|apply b6.drew|refine b6.setCell ?_ (.inl (.inr rfl)) _)|exact HK.o)⟩
 replace H:=iq H
 rcases H with ⟨-,Ax,Ay,H⟩|⟨Cx,Ax,Ay,H⟩
 replace H:=nq H
 obtain ⟨C5,H⟩:=H
 have Az:=am C5
 clear C5
 generalize Ak:((l1++[3]):List Int)=Cm at H
 have B0:=am Ak.symm
 clear Ak
 simp only [lW,lX] at H
 obtain ⟨rfl,rfl,rfl⟩:=H
 obtain ⟨Bo,Bp,Bq⟩:=Kd.R_slice A2.o
 subst Bq
 have z1:=trivial
 rotate_left
 replace H:=iq' H
 rcases H with ⟨Cy,B1,B2,H⟩|⟨-,B1,B2,H⟩
 simp only [lW,lX] at H
 obtain ⟨rfl,rfl,rfl⟩:=H
 obtain ⟨Cn,Co,Br⟩:=Kd.R_slice A2.o
 subst Br
 have z1:=trivial
 rotate_left
 replace H:=be H
 obtain ⟨⟨A0,A7,A8⟩,Bb,H⟩:=H
 try dsimp only at H
 replace H:=nq H
 obtain ⟨Bs,H⟩:=H
 have C6:=eq_true Bs
 have C7:decide (0≤A0)=true:=l5 Bs
 clear Bs
 replace H:=nq H
 obtain ⟨Bt,H⟩:=H
 have C8:=eq_true Bt
 have C9:decide (A0≤(l1.length:Int))=true:=l5 Bt
 clear Bt
 generalize Al:((l1.take (A0:Int).toNat):List Int)=Bu at H
 have Am:=am Al.symm
 clear Al
 simp only [lW,lX] at H
 obtain ⟨rfl,rfl,rfl⟩:=H
 obtain ⟨Bv,Bw,Bx⟩:=Kd.R_slice A2.o
 subst Bx
 have z2:=trivial
 rotate_right
 rotate_right
 rotate_right
 all_goals
  go_enter Try.func77,Try.ntmps77
  go_wp2_with (first|((with_reducible refine aE (f:=122) rfl ?_);have:=z2;refine gc (some 34) (bC.calls g A4 A5 A6 (l1.length:Int) A0 A7 A8 w0 _ (aA.q0 A1.o) (bq1 HB.o (aA.ge A1.o)) Bb.o) Try.func122 ?_;rintro e w_ ⟨rfl,hi,hb,hk⟩;refine ⟨_,rfl,?_⟩;have n_:=ak4 (Kd.R_mono (Kd.R_keep (aA.apart (show aA w0 _ g A4 A5 A6 from aA.q0 A1.o) (kqR A2.o) (by decide)) hk (fun _ h=>h.2)) (fun _ h=>h.1)) (b6.of_keep (S:=(fun k_=>(A9 k_)∨k_=g)) (by repeat (first|(with_reducible first|exact HK.o|apply b6.alloc|apply b6.drewN|apply b6.drew|refine b6.setCell ?_ (.inl (.inr rfl)) _)|exact HK.o)) hk (.inl (.inr rfl))) hb hi;clear A2 HK HB A1;obtain ⟨A2,HK,HB,A1⟩:=n_;(try clear hb hk hi);have By:(A0:Int)≤((l1.length:Int):Int):=oda;obtain ⟨Cp,An,_,B3,_⟩:=info_parts dS;have Ap:=lM (P:=Try.prog) 22 5 .i64 Try.underlying22 An Bv l1.length Bw A0 (oda) By (Kd.R_reads' A2.o).2.1;have Af:=Kd.R_take (m:=(A0:Int).toNat) A2.o (by omega);have B4:Bu.length=(A0:Int).toNat:=(by rw [Am.o,List.length_take];omega);rw [← Am.o] at Af;rw [← B4] at Af Ap;clear B4 An B3 A2;have B5:=am Af;clear Af;replace By:=eq_true By)|((with_reducible refine aE (f:=122) rfl ?_);(first|have:=z1|have:=z2);refine gc (some 10) (bC.calls g A4 Ac Ad 5 Ag A5 A6 w0 _ (aA.q0 A1.o) (bq1 HB.o (aA.ge A1.o)) C0.o) Try.func122 ?_;rintro e w_ ⟨rfl,hi,hb,hk⟩;refine ⟨_,rfl,?_⟩;have n_:=ak4 (Kd.R_mono (Kd.R_keep (aA.apart (show aA w0 _ g A4 Ac Ad from aA.q0 A1.o) (kqR A2.o) (by decide)) hk (fun _ h=>h.2)) (fun _ h=>h.1)) (b6.of_keep (S:=(fun k_=>(A9 k_)∨k_=g)) (by repeat (first|(with_reducible first|exact HK.o|apply b6.alloc|apply b6.drewN|apply b6.drew|refine b6.setCell ?_ (.inl (.inr rfl)) _)|exact HK.o)) hk (.inl (.inr rfl))) hb hi;clear A2 HK HB A1;obtain ⟨A2,HK,HB,A1⟩:=n_;(try clear hb hk hi))|((with_reducible refine bF (b:=.append) (xs:=#[.tmp 25,.tmp 26]) rfl ?_);at_builtin;refine Kd.R_append (Kd.int .u8) (w0:=w0) w0.heap.size rfl (.tmp 25) (.tmp 26) 22 5 (.int .u8 0) 1 rfl Try.underlying22 dS rfl (by decide) (by omega) (.slice Bo l1.length Bp) l1 3 [.int .u8 3] (fun k_=>(A9 k_∨w.heap.size≤k_)) (fun _=>False) rfl rfl ?aP (fun _ hk=>hk.elim) ?aF ?aO ?aB ?aS ?aL ?_;(case aP=>exact rfl);(case aB=>exact (bq1 HB.o (aA.ge A1.o)));(case aF=>exact (fun k_ hk=>(.inr (Nat.le_trans (by first|exact HK.o.1|exact (show b6 w _ (fun k_=>(A9 k_)∨k_=g) from by repeat (first|(with_reducible first|exact HK.o|apply b6.alloc|apply b6.drewN|apply b6.drew|refine b6.setCell ?_ (.inl (.inr rfl)) _)|exact HK.o)).1) hk))));(case aO=>exact (kqR A2.o));(case aS=>exact (aH (bq1 HB.o (aA.ge A1.o))));(case aL=>have:=Az.o;omega);intro Cq w_ ho hb hg hat;rw [← B0.o] at ho;have n_:=ak4 (aA.grown (aA.q0 A1.o) hg (aA.own_ne A1.o A2.o (by decide))) hb (b6.of_grown (S:=(fun k_=>(A9 k_)∨k_=g)) hg (by repeat (first|(with_reducible first|exact HK.o|apply b6.alloc|apply b6.drewN|apply b6.drew|refine b6.setCell ?_ (.inl (.inr rfl)) _)|exact HK.o)) (fun k_ e_=>Or.imp_left Or.inl ((A2.o.1 k_ e_)))) ho;clear A1 HB HK A2;obtain ⟨A1,HB,HK,B6⟩:=n_;clear ho hb hg hat))
  first
  | go_ret
    exact ⟨_,rq,kqR B6.o,aA.q0 A1.o,bq1 HB.o (aA.ge A1.o),by repeat (first|(with_reducible first|exact HK.o|apply b6.alloc|apply b6.drewN|apply b6.drew|refine b6.setCell ?_ (.inl (.inr rfl)) _)|exact HK.o)⟩
  | go_ret
    exact ⟨_,rq,kqR B5.o,aA.q0 A1.o,bq1 HB.o (aA.ge A1.o),by repeat (first|(with_reducible first|exact HK.o|apply b6.alloc|apply b6.drewN|apply b6.drew|refine b6.setCell ?_ (.inl (.inr rfl)) _)|exact HK.o)⟩
  | go_ret
    exact ⟨_,rq,kqR A2.o,aA.q0 A1.o,bq1 HB.o (aA.ge A1.o),by repeat (first|(with_reducible first|exact HK.o|apply b6.alloc|apply b6.drewN|apply b6.drew|refine b6.setCell ?_ (.inl (.inr rfl)) _)|exact HK.o)⟩
def eU.f (A1:List Int) (A2:Int) (A3:Int) (a1:Int):Option (Bool × Int × Int):=(bC.f A1 A2 A3 a1).bind fun A0=>(some ((A0.1==0),A0.2.1,A0.2.2))
theorem eU.calls (g:Nat) (A0:List Int) (A1:Int) (A2:Int) (a1:Int) (r1:Bool) (r2:Int) (r3:Int) (w0 w:World) (hI:aA w0 w g A0 A1 A2) (hB:Below w0.heap.size w0 w) (h:eU.f A0 A1 A2 a1=some (r1,r2,r3)):
 Calls Try.prog 111 #[.pointer (some ⟨g,0,none⟩),.int .i64 a1] w fun e w'=>e=.returned (.bool r1)∧aA w0 w' g A0 r2 r3∧Below w0.heap.size w0 w'∧KeepBut w w' g none:=by
 have A3:=am hI
 have HK:=am (KeepBut.refl w g none)
 have HL:=am hB.size
 clear hI
 have A8:=am hB.size
 have HB:=am hB
 clear hB
 have H:=h
 clear h
 unfold eU.f at H
 replace H:=be H
 obtain ⟨⟨A4,A5,A6⟩,A7,H⟩:=H
 try dsimp only at H
 simp only [lW,lX] at H
 obtain ⟨rfl,rfl,rfl⟩:=H
 go_enter Try.func111,Try.ntmps111
 go_wp2_with (first|((with_reducible refine aE (f:=122) rfl ?_);refine gc (some 7) (bC.calls g A0 A1 A2 a1 A4 A5 A6 w0 _ (aA.q0 A3.o) (bq1 HB.o (aA.ge A3.o)) A7.o) Try.func122 ?_;rintro e w4 ⟨rfl,hi,hb,hk⟩;refine ⟨_,rfl,?_⟩;have n_:=ak3 (KeepBut.trans (kp0 HK.o) hk (.inl rfl)) hb hi;clear HK HB A3;obtain ⟨HK,HB,A3⟩:=n_;(try clear hb hk hi)))
 go_ret
 exact ⟨rq,aA.q0 A3.o,bq1 HB.o (aA.ge A3.o),kp0 HK.o⟩
def eY.f (A1:List Int) (A2:Int) (A3:Int) (l1:List ByteArray):Option (ByteArray × Int × Int):=(bC.f A1 A2 A3 (l1.length:Int)).bind fun A0=>(if 0≤A0.1 then (if A0.1<(l1.length:Int) then (some (kH ByteArray.empty l1 A0.1,A0.2.1,A0.2.2)) else (none)) else (none))
theorem eY.calls (g:Nat) (A3:List Int) (A4:Int) (A5:Int) (A1:Option Addr) (c1:Nat) (l1:List ByteArray) (r1:ByteArray) (r2:Int) (r3:Int) (w0 w:World) (hI:aA w0 w g A3 A4 A5) (hB:Below w0.heap.size w0 w) (Ae:Kd.C Kd.string w A1 l1.length l1) (Af:l1.length≤c1) (Ac:∀ad,A1=some ad→0<l1.length→ad.block≠g) (h:eY.f A3 A4 A5 l1=some (r1,r2,r3)):
 Calls Try.prog 114 #[.pointer (some ⟨g,0,none⟩),.slice A1 l1.length c1] w fun e w'=>e=.returned (.string r1)∧aA w0 w' g A3 r2 r3∧Below w0.heap.size w0 w'∧KeepBut w w' g none:=by
 have Ag:=am Ae
 have Ak:=am Af
 clear Ae Af
 have A8:=am hI
 have HK:=am (KeepBut.refl w g none)
 have HL:=am hB.size
 clear hI
 have Al:=am hB.size
 have HB:=am hB
 clear hB
 have H:=h
 clear h
 unfold eY.f at H
 replace H:=be H
 obtain ⟨⟨A0,A9,Aa⟩,Ah,H⟩:=H
 try dsimp only at H
 replace H:=nl H
 obtain ⟨-,Ai,H⟩:=H
 replace H:=nl H
 obtain ⟨-,Aj,H⟩:=H
 simp only [lW,lX] at H
 obtain ⟨rfl,rfl,rfl⟩:=H
 go_enter Try.func114,Try.ntmps114
 go_wp2_with (first|((with_reducible refine aE (f:=122) rfl ?_);refine gc (some 9) (bC.calls g A3 A4 A5 (l1.length:Int) A0 A9 Aa w0 _ (aA.q0 A8.o) (bq1 HB.o (aA.ge A8.o)) Ah.o) Try.func122 ?_;rintro e w6 ⟨rfl,hi,hb,hk⟩;refine ⟨_,rfl,?_⟩;have n_:=ak3 (KeepBut.trans (kp0 HK.o) hk (.inl rfl)) hb hi;clear HK HB A8;obtain ⟨HK,HB,A8⟩:=n_;(try clear hb hk hi);have A6:0≤(A0:Int):=oda;have A7:A0<(l1.length:Int):=oda;obtain ⟨Ab,Ad,A2⟩:=Kd.at_string Ag.o A0 A6 A7;cases Ad;replace A2:=jD HK.o A2 (by first|(rw [f8];exact Ac _ rfl (by omega))|exact Ac _ rfl (by omega)|exact Ac Ab rfl (by omega));replace A6:=eq_true A6;replace A7:=eq_true A7))
 go_ret
 exact ⟨rq,aA.q0 A8.o,bq1 HB.o (aA.ge A8.o),kp0 HK.o⟩
def fE.f (A2:List Int) (A3:Int) (A4:Int):Option (Int × Int × Int):=(bC.f A2 A3 A4 1000).bind fun A0=>((cI.f A2 A0.2.1 A0.2.2 (([0,1,(-1),127,128,(-128),(-129),255,256,32767,32768,(-32769),8388608,2147483647,(-2147483648),2147483648,(-2147483649),9223372036854775807,(-9223372036854775808),A0.1]:List Int))).bind fun A1=>(some (A1.1,A1.2.1,A1.2.2)))
theorem fE.calls (g:Nat) (A3:List Int) (A8:Int) (A9:Int) (r1:Int) (r2:Int) (r3:Int) (w0 w:World) (hI:aA w0 w g A3 A8 A9) (hB:Below w0.heap.size w0 w) (h:fE.f A3 A8 A9=some (r1,r2,r3)):
 Calls Try.prog 133 #[.pointer (some ⟨g,0,none⟩)] w fun e w'=>e=.returned (.int .i64 r1)∧aA w0 w' g A3 r2 r3∧Below w0.heap.size w0 w'∧KeepBut w w' g none:=by
 have A2:=am hI
 have HK:=am (KeepBut.refl w g none)
 have HL:=am hB.size
 clear hI
 have Aj:=am hB.size
 have HB:=am hB
 clear hB
 have H:=h
 clear h
 unfold fE.f at H
 replace H:=be H
 obtain ⟨⟨A1,A4,A5⟩,Af,H⟩:=H
 try dsimp only at H
 generalize A6:((([0,1,(-1),127,128,(-128),(-129),255,256,32767,32768,(-32769),8388608,2147483647,(-2147483648),2147483648,(-2147483649),9223372036854775807,(-9223372036854775808),A1]:List Int)):List Int)=Ae at H
 have A7:=am A6.symm
 clear A6
 replace H:=be H
 obtain ⟨⟨Aa,Ab,Ac⟩,Ag,H⟩:=H
 try dsimp only at H
 simp only [lW,lX] at H
 obtain ⟨rfl,rfl,rfl⟩:=H
 go_enter Try.func133,Try.ntmps133
 go_wp2_with (first|((with_reducible refine aE (f:=122) rfl ?_);refine gc (some 5) (bC.calls g A3 A8 A9 1000 A1 A4 A5 w0 _ (aA.q0 A2.o) (bq1 HB.o (aA.ge A2.o)) Af.o) Try.func122 ?_;rintro e w4 ⟨rfl,hi,hb,hk⟩;refine ⟨_,rfl,?_⟩;have n_:=ak3 (KeepBut.trans (kp0 HK.o) hk (.inl rfl)) hb hi;clear HK HB A2;obtain ⟨HK,HB,A2⟩:=n_;(try clear hb hk hi))|((with_reducible refine aI (N:=6) rfl ?_);refine Kd.R_lit (Kd.int .i64) _ 3 ?hg (N:=6) ?hd (xs:=([0,1,(-1),127,128,(-128),(-129),255,256,32767,32768,(-32769),8388608,2147483647,(-2147483648),2147483648,(-2147483649),9223372036854775807,(-9223372036854775808),A1]:List Int)) (inner:=[.int .i64 0,.int .i64 1,.int .i64 (-1),.int .i64 127,.int .i64 128,.int .i64 (-128),.int .i64 (-129),.int .i64 255,.int .i64 256,.int .i64 32767,.int .i64 32768,.int .i64 (-32769),.int .i64 8388608,.int .i64 2147483647,.int .i64 (-2147483648),.int .i64 2147483648,.int .i64 (-2147483649),.int .i64 9223372036854775807,.int .i64 (-9223372036854775808),.int .i64 A1]) (ok:=fun _=>True) (okp:=fun _=>True) ?hr ?hp (fun _ hk=>hk) trivial (Below.refl _ _) (lZ _) (by simp) ?_;(case hd=>rfl);(case hg=>rfl);(case hr=>exact gs);(case hp=>exact (a9.one (ri 0) (a9.one (ri 1) (a9.one (ri (-1)) (a9.one (ri 127) (a9.one (ri 128) (a9.one (ri (-128)) (a9.one (ri (-129)) (a9.one (ri 255) (a9.one (ri 256) (a9.one (ri 32767) (a9.one (ri 32768) (a9.one (ri (-32769)) (a9.one (ri 8388608) (a9.one (ri 2147483647) (a9.one (ri (-2147483648)) (a9.one (ri 2147483648) (a9.one (ri (-2147483649)) (a9.one (ri 9223372036854775807) (a9.one (ri (-9223372036854775808)) (a9.one (show Kd.M (Kd.int .i64) _ _ _ A1 [.int .i64 A1] from rfl) (a9.none _ _))))))))))))))))))))));intro Ah w5 Ad hb hg_ hnew_;clear hg_ hnew_;(first|rw [← A7.o] at Ad|(simp only [Int.reduceToNat] at Ad;rw [← A7.o] at Ad));have n_:=ak4 (Kd.R_lower Ad (bP (w:=w) (g:=g) (row:=none) (kp0 HK.o))) (aA.below (aA.q0 A2.o) hb) (KeepBut.trans (kp0 HK.o) (KeepBut.of_below hb g none) (.inl rfl)) (aC (bq1 HB.o (aA.ge A2.o)) hb);clear A2 HK HB;obtain ⟨A0,A2,HK,HB⟩:=n_;clear hb Ad;obtain ⟨Ak,Al,Ai⟩:=Kd.R_slice A0.o;subst Ai)|((with_reducible refine aE (f:=86) rfl ?_);refine gc (some 7) (cI.calls g A3 A4 A5 _ _ Ae Aa Ab Ac w0 _ (aA.q0 A2.o) (bq1 HB.o (aA.ge A2.o)) (cq (Kd.R_reads' A0.o).2.2) ((Kd.R_reads' A0.o).2.1) (eQ (aA.own_ne A2.o A0.o (by decide))) Ag.o) Try.func86 ?_;rintro e w8 ⟨rfl,hi,hb,hk⟩;refine ⟨_,rfl,?_⟩;have n_:=ak4 (Kd.R_mono (Kd.R_keep (aA.apart (show aA w0 _ g A3 A4 A5 from aA.q0 A2.o) (kqR A0.o) (by decide)) hk (fun _ h=>h.2)) (fun _ h=>h.1)) (KeepBut.trans (kp0 HK.o) hk (.inl rfl)) hb hi;clear A0 HK HB A2;obtain ⟨A0,HK,HB,A2⟩:=n_;(try clear hb hk hi)))
 go_ret
 exact ⟨rq,aA.q0 A2.o,bq1 HB.o (aA.ge A2.o),kp0 HK.o⟩
def fP.f (a0:Int):Option (Int × Int × ByteArray × List Int):=some (2,a0,(⟨#[]⟩:ByteArray),([]:List Int))
theorem fP.calls (a0:Int) (r1:Int) (r2:Int) (r3:ByteArray) (r4:List Int) (w:World) (h:fP.f a0=some (r1,r2,r3,r4)):
 Calls Try.prog 135 #[.int .i64 a0] w fun e w'=>∃Ab:Value,e=.returned (.agg #[.int .i64 r1,.int .i64 r2,.string r3,Ab])∧Kd.R (Kd.int .i64) 3 w' w.heap.size (fun _=>True) Ab r4∧Below w.heap.size w w':=by
 have Ad:=Try.underlying29
 have HB:=am (Below.refl w.heap.size w)
 have H:=h
 clear h
 unfold fP.f at H
 simp only [lW,lX] at H
 obtain ⟨rfl,rfl,rfl,rfl⟩:=H
 go_enter Try.func135,Try.ntmps135
 go_wp2_with (first|((with_reducible refine aI (N:=2) rfl ?_);refine bxe 2 #[.int .i64 0,.int .i64 0,.string (⟨#[]⟩:ByteArray),.slice none 0 0] 29 ?_;intro A1 hg w2 hbox hb;have n_:=ak4 (aC (bq HB.o) hb) hbox (bz hg (bq HB.o)) (bz hg (bq HB.o));clear HB;obtain ⟨HB,A0,Ac,A2⟩:=n_;clear hb hbox hg;obtain ⟨A3,A4,A5,A6,A7,A8,A9,Aa⟩:=cl4 A0.o)|((with_reducible refine aJ (t:=29) (p:=2) rfl ?_);refine se 29 2 (s4 w2 A1 (.int .i64 2) (.int .i64 a0) (.string (⟨#[]⟩:ByteArray)) (.slice none 0 0)) ?_;intro w4 hw;have n_:=ak2 (sc4 hw A0) (sb hw (bq1 HB.o A2.o));clear hw A0 HB;obtain ⟨A0,HB⟩:=n_))
 refine bodyPost_ret (results_cell_row rfl _ _ A1 29 #[.int .i64 2,.int .i64 a0,.string (⟨#[]⟩:ByteArray),.slice none 0 0] (0,0) _ rfl (zq A0.o) Try.underlying29 rfl (by kernel_rfl)) rfl ?_
 exact ⟨_,rq,rn,bq1 HB.o A2.o⟩
def dN.l0:Nat→List Int→Int→List Int→Int→Int→Option (List Int × Int × Int)
 |0,_,_,_,_,_=>none
 |k+1,x3,x4,A1,A2,A3=>if x4>0 then ((cI.f A1 A2 A3 (([0,1,2,3,127,128,16384,100000]:List Int))).bind fun A0=>(if x3.length<17592186044416 then (dN.l0 k (x3++[A0.1]) (wrap64 (x4 - 1)) A1 A0.2.1 A0.2.2) else (none))) else (some (x3,A2,A3))
def dN.f (k:Nat) (A1:List Int) (A2:Int) (A3:Int):Option (List Int × Int × Int):=(bC.f A1 A2 A3 6).bind fun A0=>(dN.l0 k (([]:List Int)) (wrap64 (1+A0.1)) A1 A0.2.1 A0.2.2)
theorem dN.calls (k:Nat) (g:Nat) (A5:List Int) (Aa:Int) (Ab:Int) (r1:List Int) (r2:Int) (r3:Int) (w0 w:World) (hI:aA w0 w g A5 Aa Ab) (hB:Below w0.heap.size w0 w) (h:dN.f k A5 Aa Ab=some (r1,r2,r3)):
 Calls Try.prog 136 #[.pointer (some ⟨g,0,none⟩)] w fun e w'=>∃Ay:Value,e=.returned (Ay)∧Kd.R (Kd.int .i64) 3 w' w.heap.size (fun _=>True) Ay r1∧aA w0 w' g A5 r2 r3∧Below w0.heap.size w0 w'∧KeepBut w w' g none:=by
 have A3:=am hI
 have HK:=am (KeepBut.refl w g none)
 have HL:=am hB.size
 clear hI
 have B5:=am hB.size
 have HB:=am hB
 clear hB
 have H:=h
 clear h
 unfold dN.f at H
 generalize Ad:((([]:List Int)):List Int)=Ar at H
 have Ae:=am Ad.symm
 clear Ad
 replace H:=be H
 obtain ⟨⟨Af,Ag,Ah⟩,B0,H⟩:=H
 try dsimp only at H
 have H':=am H
 clear H
 go_enter Try.func136,Try.ntmps136
 go_wp2_with (first|((with_reducible refine aI (N:=5) rfl ?_);refine Kd.R_lit (Kd.int .i64) _ 3 ?hg (N:=5) ?hd (xs:=([]:List Int)) (inner:=[]) (ok:=fun _=>True) (okp:=fun _=>True) ?hr ?hp (fun _ hk=>hk) trivial (Below.refl _ _) (lZ _) (by simp) ?_;(case hd=>rfl);(case hg=>rfl);(case hr=>exact gs);(case hp=>exact (a9.none _ _));intro B1 w3 An hb hg_ hnew_;clear hg_ hnew_;(first|rw [← Ae.o] at An|(simp only [Int.reduceToNat] at An;rw [← Ae.o] at An));have n_:=ak4 (Kd.R_lower An (bP (w:=w) (g:=g) (row:=none) (kp0 HK.o))) (aA.below (aA.q0 A3.o) hb) (KeepBut.trans (kp0 HK.o) (KeepBut.of_below hb g none) (.inl rfl)) (aC (bq1 HB.o (aA.ge A3.o)) hb);clear A3 HK HB;obtain ⟨A6,A3,HK,HB⟩:=n_;clear hb An)|((with_reducible refine aE (f:=122) rfl ?_);refine gc (some 7) (bC.calls g A5 Aa Ab 6 Af Ag Ah w0 _ (aA.q0 A3.o) (bq1 HB.o (aA.ge A3.o)) B0.o) Try.func122 ?_;rintro e w5 ⟨rfl,hi,hb,hk⟩;refine ⟨_,rfl,?_⟩;have n_:=ak4 (Kd.R_mono (Kd.R_keep (aA.apart (show aA w0 _ g A5 Aa Ab from aA.q0 A3.o) (kqR A6.o) (by decide)) hk (fun _ h=>h.2)) (fun _ h=>h.1)) (KeepBut.trans (kp0 HK.o) hk (.inl rfl)) hb hi;clear A6 HK HB A3;obtain ⟨A6,HK,HB,A3⟩:=n_;(try clear hb hk hi)))
 go_loopg [3,4] k (fun kq v3 v4 w'=>∃(A9:List Int) (Ac:Int) (A1:Int) (A2:Int),v4=.int .i64 Ac∧Aside0 (dN.l0 kq A9 Ac A5 A1 A2=some (r1,r2,r3))∧Aside0 (kq≤k)∧Aside0 (Kd.R (Kd.int .i64) 3 w' w.heap.size (fun _=>True) v3 A9)∧Aside0 (aA w0 w' g A5 A1 A2)∧Aside0 (KeepBut w w' g none)∧Aside0 (Below w0.heap.size w0 w'))
 case atStart=>exact ⟨(Ar),(wrap64 (1+Af)),(Ag),(Ah),sq,H',⟨lZ _⟩,⟨kqR A6.o⟩,⟨aA.q0 A3.o⟩,⟨kp0 HK.o⟩,⟨bq1 HB.o (aA.ge A3.o)⟩⟩
 case round=>
  clear H'
  try clear c1
  try clear p2
  obtain ⟨A9,Ac,A1,A2,rfl,HA,Az,A4,A3,HK,HB⟩:=hrel
  cases gk with
  |zero=>exact absurd HA.o (by simp [dN.l0])
  |succ k1=>
   have H:=HA.o
   clear HA
   simp only [dN.l0] at H
   replace H:=ig' H
   rcases H with ⟨-,As,H⟩|⟨-,As,H⟩
   · simp only [lW,lX] at H
     obtain ⟨rfl,rfl,rfl⟩:=H
     go_wp2
     go_ret
     exact ⟨_,rq,kqR A4.o,aA.q0 A3.o,bq1 HB.o (aA.ge A3.o),kp0 HK.o⟩
   generalize Ai:((([0,1,2,3,127,128,16384,100000]:List Int)):List Int)=Ao at H
   have Aj:=am Ai.symm
   clear Ai
   replace H:=be H
   obtain ⟨⟨A7,Ak,Al⟩,B2,H⟩:=H
   try dsimp only at H
   replace H:=nq H
   obtain ⟨c8,H⟩:=H
   have At:=am c8
   clear c8
   generalize Am:((A9++[A7]):List Int)=Au at H
   have Ap:=am Am.symm
   clear Am
   have H':=am H
   clear H
   go_wp2_with (first|((with_reducible refine aI (N:=15) rfl ?_);refine Kd.R_lit (Kd.int .i64) _ 3 ?hg (N:=15) ?hd (xs:=([0,1,2,3,127,128,16384,100000]:List Int)) (inner:=[.int .i64 0,.int .i64 1,.int .i64 2,.int .i64 3,.int .i64 127,.int .i64 128,.int .i64 16384,.int .i64 100000]) (ok:=fun _=>True) (okp:=fun _=>True) ?hr ?hp (fun _ hk=>hk) trivial (Below.refl _ _) (lZ _) (by simp) ?_;(case hd=>rfl);(case hg=>rfl);(case hr=>exact gs);(case hp=>exact (a9.one (ri 0) (a9.one (ri 1) (a9.one (ri 2) (a9.one (ri 3) (a9.one (ri 127) (a9.one (ri 128) (a9.one (ri 16384) (a9.one (ri 100000) (a9.none _ _))))))))));intro B3 w9 A8 hb hg_ hnew_;clear hg_ hnew_;(first|rw [← Aj.o] at A8|(simp only [Int.reduceToNat] at A8;rw [← Aj.o] at A8));have n_:=ak5 (re_ A4 A8 hb) (Kd.R_lower (Kd.R_new' A8 (Kd.R_lt (kqR A4.o))) (bP (w:=w) (g:=g) (row:=none) (kp0 HK.o))) (aA.below (aA.q0 A3.o) hb) (KeepBut.trans (kp0 HK.o) (KeepBut.of_below hb g none) (.inl rfl)) (aC (bq1 HB.o (aA.ge A3.o)) hb);clear A4 A3 HK HB;obtain ⟨A4,A0,A3,HK,HB⟩:=n_;clear hb A8;obtain ⟨Av,Aw,Ax⟩:=Kd.R_slice A0.o;subst Ax)|((with_reducible refine aE (f:=86) rfl ?_);refine gc (some 16) (cI.calls g A5 A1 A2 _ _ Ao A7 Ak Al w0 _ (aA.q0 A3.o) (bq1 HB.o (aA.ge A3.o)) (cq (Kd.R_reads' A0.o).2.2) ((Kd.R_reads' A0.o).2.1) (eQ (aA.own_ne A3.o A0.o (by decide))) B2.o) Try.func86 ?_;rintro e B6 ⟨rfl,hi,hb,hk⟩;refine ⟨_,rfl,?_⟩;have n_:=ak5 (Kd.R_mono (Kd.R_keep (aA.apart (show aA w0 _ g A5 A1 A2 from aA.q0 A3.o) (kqR A4.o) (by decide)) hk (fun _ h=>h.2)) (fun _ h=>h.1)) (Kd.R_mono (Kd.R_keep (aA.apart (show aA w0 _ g A5 A1 A2 from aA.q0 A3.o) (kqR A0.o) (by decide)) hk (fun _ h=>h.2)) (fun _ h=>h.1)) (KeepBut.trans (kp0 HK.o) hk (.inl rfl)) hb hi;clear A4 A0 HK HB A3;obtain ⟨A4,A0,HK,HB,A3⟩:=n_;(try clear hb hk hi))|((with_reducible refine bF (b:=.append) (xs:=#[.tmp 13,.tmp 17]) rfl ?_);at_builtin;refine Kd.R_append (Kd.int .i64) w.heap.size rfl (.tmp 13) (.tmp 17) 23 3 (.int .i64 0) 8 rfl Try.underlying23 k8 rfl (by decide) (by omega) u3 A9 A7 [.int .i64 A7] (fun k_=>some k_≠(.slice Av Ao.length Aw:Value).ownBlock) (fun _=>False) rfl rfl ?aP (fun _ hk=>hk.elim) ?aF ?aO (Below.refl _ _) ?aS ?aL ?_;(case aP=>exact rfl);(case aF=>exact (fun k_ hk=>Kd.fresh' (Kd.R_lt (kqR A0.o)) k_ hk));(case aO=>exact (by refine kr ?_;exact Kd.R_mono A4.o (fun _ hk=>hk.2)));(case aS=>exact (bP (w:=w) (g:=g) (row:=none) (kp0 HK.o)));(case aL=>have:=At.o;omega);intro B4 B7 ho hb hg hat;rw [← Ap.o] at ho;have n_:=ak5 (aA.grown (aA.q0 A3.o) hg (aA.own_ne A3.o A4.o (by decide))) (Kd.R_after (ok:=(fun _=>True)) (kqR A0.o) hg hat) (gE (bq1 HB.o (aA.ge A3.o)) HL.o hb) (KeepBut.trans (kp0 HK.o) (KeepBut.of_grown hg g) (Kd.R_base2 A4.o)) ho;clear A3 A0 HB HK A4;obtain ⟨A3,A0,HB,HK,Aq⟩:=n_;clear ho hb hg hat))
   go_roundg k1
   case measure=>have:=Az.o;omega
   case rel=>exact ⟨(Au),(wrap64 (Ac - 1)),(Ak),(Al),sq,H',⟨by have:=Az.o;omega⟩,⟨by refine kr ?_;exact Kd.R_mono Aq.o (fun _ hk=>trivial)⟩,⟨aA.q0 A3.o⟩,⟨kp0 HK.o⟩,⟨bq1 HB.o (aA.ge A3.o)⟩⟩
end Go.Proofs.Ythhnfmbfgplelaa.XFnMsgsRead
