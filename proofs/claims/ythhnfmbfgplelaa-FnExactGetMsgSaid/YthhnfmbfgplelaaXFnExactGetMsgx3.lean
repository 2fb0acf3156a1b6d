/- The functions that one law reaches, as Lean functions, with their walks: printed by a program of this seat (wip/tools) out of the translation. -/
import Derived.Test.YthhnfmbfgplelaaXFnExactGetMsgx0
import Derived.Test.YthhnfmbfgplelaaXFnExactGetMsgx2
namespace Go.Proofs.Ythhnfmbfgplelaa.XFnExactGetMsg
open Go.RowKit Go.Proofs.YthhnfmbfgplelaaW.PrintWords Go.Proofs.YthhnfmbfgplelaaW.PrintLast Go.Proofs.YthhnfmbfgplelaaW.PrintMore
attribute [local go_sem] cQ cR dP dQ cC cD cS cT
set_option linter.unusedVariables false
set_option linter.unusedSimpArgs false
set_option maxHeartbeats 8000000
set_option maxRecDepth 100000
def kA:Kd S116 where
  sz:=eA.sz
  E:=eA.E
  K:=eA.K
  M:=fun w base ok x cs=>eA.M w base ok x cs∧∃v0 a b c v4:Value,cs=[v0,a,b,c,v4]∧∀k,v0.ownBlock=some k→v4.ownBlock≠some k
  K_len:=eA.K_len
  K_one:=eA.K_one
  K_below:=eA.K_below
  K_of_M:=fun h=>eA.K_of_M h.1
  M_mono:=fun hok h=>⟨eA.M_mono hok h.1,h.2⟩
  M_bound:=fun h=>⟨eA.M_bound h.1,h.2⟩
  M_move:=fun hm h=>⟨eA.M_move hm h.1,h.2⟩
  M_lower:=fun hb h=>⟨eA.M_lower hb h.1,h.2⟩
theorem hF (w:World) (base:Nat) (ok:Nat→Prop) (x:S116) {v0:Value} (g0:(Kd.int .i64).R 3 w base ok v0 x.f0) {v4:Value} (g4:(Kd.int .i64).R 3 w base ok v4 x.f1.f3) (ha:∀k,v0.ownBlock=some k→v4.ownBlock≠some k):kA.M w base ok x [v0,.int .i64 x.f1.f0,.int .i64 x.f1.f1,.string x.f1.f2,v4]:=⟨gP w base ok x g0 g4,v0,_,_,_,v4,rfl,ha⟩
theorem kA_S {e base:Nat} {w:World} {ok:Nat→Prop} {v:Value} {l:List S116} (h:Kd.S kA e w base ok v l):Kd.S eA e w base ok v l:=by
  obtain ⟨f,h0,inner,ho,hr⟩:=h
  exact ⟨f,h0,inner,ho,hr.1,fun j p hj=>(hr.2 j p hj).1⟩
section
variable {w0 W W2:World} {base g c:Nat} {ok:Nat→Prop} {L:List S116}
def Sx (W:World) (base g c:Nat) (ok:Nat→Prop) (L:List S116) (x:Int) (E:S116):Prop:=Kd.S kA 116 W base ok (.slice (some ⟨g,0,none⟩) L.length c) (L.set x.toNat E)
theorem Sx.elem {x:Int} {E:S116} (h:Sx W base g c ok L x E) (p:0≤x) (q:x<(L.length:Int)):∃(v0 v4:Value) (oki:Nat→Prop),W.cell? ⟨g,x.toNat*5,none⟩=some v0∧W.cell? ⟨g,x.toNat*5+1,none⟩=some (.int .i64 E.f1.f0)∧W.cell? ⟨g,x.toNat*5+2,none⟩=some (.int .i64 E.f1.f1)∧W.cell? ⟨g,x.toNat*5+3,none⟩=some (.string E.f1.f2)∧W.cell? ⟨g,x.toNat*5+4,none⟩=some v4∧
    W.frozen? ⟨g,x.toNat*5,none⟩=false∧W.frozen? ⟨g,x.toNat*5+1,none⟩=false∧W.frozen? ⟨g,x.toNat*5+2,none⟩=false∧W.frozen? ⟨g,x.toNat*5+3,none⟩=false∧W.frozen? ⟨g,x.toNat*5+4,none⟩=false∧
    (Kd.int .i64).R 3 W base oki v0 E.f0∧(Kd.int .i64).R 3 W base oki v4 E.f1.f3∧(∀k,v0.ownBlock=some k→v4.ownBlock≠some k)∧(∀k,oki k→ok k∧k≠g)∧
    Kd.H kA 116 W base ok (.slice (some ⟨g,0,none⟩) L.length c) (L.set x.toNat E) x oki [v0,.int .i64 E.f1.f0,.int .i64 E.f1.f1,.string E.f1.f2,v4]:=by
  obtain ⟨oki,cs,hcl,hM,hcc,hfr,hoki,hH⟩:=Kd.S_elem h z116 x p q
  have he:(L.set x.toNat E).getD x.toNat z116=E:=by
    rw [List.getD_eq_getElem?_getD,List.getElem?_set_self (by omega)]
    rfl
  rw [he] at hM
  obtain ⟨v0,v4,rfl,r0,r4⟩:=iP hM.1
  obtain ⟨_,a0,a1,a2,a3,a4,e,ha⟩:=hM
  simp only [List.cons.injEq,and_true] at e
  obtain ⟨rfl,_,_,_,rfl⟩:=e
  exact ⟨v0,v4,oki,hcc 0 _ rfl,hcc 1 _ rfl,hcc 2 _ rfl,hcc 3 _ rfl,hcc 4 _ rfl,hfr 0,hfr 1,hfr 2,hfr 3,hfr 4,r0,r4,ha,hoki,hH⟩
theorem Sx.back {x:Int} {E E':S116} {oki okp:Nat→Prop} {cs:List Value} (hH:Kd.H kA 116 W base ok (.slice (some ⟨g,0,none⟩) L.length c) (L.set x.toNat E) x oki cs) (hM:kA.M W base okp E' cs) (hok:∀k,okp k→oki k):Sx W base g c ok L x E':=by
  have h:=Kd.H_back hH hM hok
  unfold Sx
  rwa [List.set_set] at h
theorem Sx.row0 {x:Int} {E:S116} {oki okq:Nat→Prop} {v0 v4:Value} {r:List Int} (r0:(Kd.int .i64).R 3 W base oki v0 E.f0) (r4:(Kd.int .i64).R 3 W base oki v4 E.f1.f3) (ha:∀k,v0.ownBlock=some k→v4.ownBlock≠some k) (hH:Kd.H kA 116 W base ok (.slice (some ⟨g,0,none⟩) L.length c) (L.set x.toNat E) x oki [v0,.int .i64 E.f1.f0,.int .i64 E.f1.f1,.string E.f1.f2,v4])
    (h2:(Kd.int .i64).R 3 W2 base okq v0 r) (hk:b7 W W2 (fun k=>some k=v0.ownBlock)):Sx W2 base g c ok L x ⟨r,E.f1⟩:=by
  refine Sx.back (Kd.H_kept hH hk (fun k _ hn hs=>hn (r0.1 k hs.symm))) (okp:=oki) (hF W2 base oki ⟨r,E.f1⟩ (Kd.R_reok rfl h2 r0.1) (Kd.R_reok rfl (Kd.R_kept (Kd.R_tight rfl r4) hk (fun k h4 h0=>ha k h0.symm h4.symm)) r4.1) ha) (fun _ h=>h)
theorem Sx.row4 {x:Int} {E:S116} {oki okq:Nat→Prop} {v0 v4:Value} {r:List Int} (r0:(Kd.int .i64).R 3 W base oki v0 E.f0) (r4:(Kd.int .i64).R 3 W base oki v4 E.f1.f3) (ha:∀k,v0.ownBlock=some k→v4.ownBlock≠some k) (hH:Kd.H kA 116 W base ok (.slice (some ⟨g,0,none⟩) L.length c) (L.set x.toNat E) x oki [v0,.int .i64 E.f1.f0,.int .i64 E.f1.f1,.string E.f1.f2,v4])
    (h2:(Kd.int .i64).R 3 W2 base okq v4 r) (hk:b7 W W2 (fun k=>some k=v4.ownBlock)):Sx W2 base g c ok L x ⟨E.f0,⟨E.f1.f0,E.f1.f1,E.f1.f2,r⟩⟩:=by
  refine Sx.back (Kd.H_kept hH hk (fun k _ hn hs=>hn (r4.1 k hs.symm))) (okp:=oki) (hF W2 base oki ⟨E.f0,⟨E.f1.f0,E.f1.f1,E.f1.f2,r⟩⟩ (Kd.R_reok rfl (Kd.R_kept (Kd.R_tight rfl r0) hk (fun k h4 h0=>ha k h4.symm h0.symm)) r0.1) (Kd.R_reok rfl h2 r4.1) ha) (fun _ h=>h)
theorem Sx.cell {x:Int} {E E':S116} (h:Sx W base g c ok L x E) (p:0≤x) (q:x<(L.length:Int)) (j:Nat) (u:Value) (hu:u.oneCell'=true) (hj:j+1≤5)
    (hE:∀v0 v4:Value,([v0,.int .i64 E.f1.f0,.int .i64 E.f1.f1,.string E.f1.f2,v4]:List Value).take j++[u]++([v0,.int .i64 E.f1.f0,.int .i64 E.f1.f1,.string E.f1.f2,v4]:List Value).drop (j+1)=[v0,.int .i64 E'.f1.f0,.int .i64 E'.f1.f1,.string E'.f1.f2,v4]) (h0:E'.f0=E.f0) (h3:E'.f1.f3=E.f1.f3):
    Sx (W.setCell ⟨g,x.toNat*5+j,none⟩ u) base g c ok L x E'∧W.grownBy (W.setCell ⟨g,x.toNat*5+j,none⟩ u) (some g):=by
  obtain ⟨v0,v4,oki,_,_,_,_,_,_,_,_,_,_,r0,r4,ha,hoki,hH⟩:=h.elem p q
  have hM:kA.M W base oki E' (([v0,.int .i64 E.f1.f0,.int .i64 E.f1.f1,.string E.f1.f2,v4]:List Value).take j++[u]++([v0,.int .i64 E.f1.f0,.int .i64 E.f1.f1,.string E.f1.f2,v4]:List Value).drop (j+([u]:List Value).length)):=by
    show kA.M W base oki E' (_++_++List.drop (j+1) _)
    rw [hE v0 v4]
    exact hF W base oki E' (by rw [h0];exact r0) (by rw [h3];exact r4) ha
  have h2:=Kd.S_seg (okg:=fun _=>False) (Kd.H_mono hH (fun k hk=>⟨hk,id⟩)) p q (seg:=[u]) (j:=j) (by exact hj) hM (fun k hk=>.inl hk) (fun _ hk=>hk.elim)
  refine ⟨?_,h2.2⟩
  have h3:=h2.1
  rw [List.set_set] at h3
  exact h3
theorem Sx.below {x:Int} {E:S116} (h:Sx W base g c ok L x E) (hb:Below W.heap.size W W2):Sx W2 base g c ok L x E:=Kd.S_below h hb
theorem Sx.drewN {x:Int} {E:S116} (h:Sx W base g c ok L x E) (n:Nat):Sx (W.drewN n) base g c ok L x E:=Kd.S_drewN h n
theorem Sx.drew {x:Int} {E:S116} (h:Sx W base g c ok L x E):Sx W.drew base g c ok L x E:=Kd.S_drew h
theorem Sx.start {x:Int} (h:Kd.S kA 116 W base ok (.slice (some ⟨g,0,none⟩) L.length c) L) (p:0≤x) (q:x<(L.length:Int)):Sx W base g c ok L x (aE L x):=by
  unfold Sx
  have e:L.set x.toNat (aE L x)=L:=by
    apply List.ext_getElem?
    intro i
    rw [List.getElem?_set]
    split
    · rename_i e
      subst e
      rw [if_pos (by omega)]
      unfold aE
      rw [List.getD_eq_getElem?_getD,List.getElem?_eq_getElem (by omega)]
      rfl
    · rfl
  rw [e]
  exact h
theorem Sx.grown_below {g:Nat} (hb:Below w0.heap.size w0 W) (hg:W.grownBy W2 (some g)) (h:w0.heap.size≤g):Below w0.heap.size w0 W2:=⟨hg.os.trans hb.os,hg.tape.trans hb.tape,hg.output.trans hb.output,Nat.le_trans hb.size hg.size,fun i hi=>(hg.block i (Nat.lt_of_lt_of_le hi hb.size) (fun e=>by injection e;omega)).trans (hb.block i hi)⟩
end
def cV.l0:Nat→List S116→Int→Int→Option (Int × List S116)
 |0,_,_,_=>none
 |k+1,L,y,x=>if x<(L.length:Int) then (if 0≤x then ((cL.f k (aE L x).f0 y).bind fun a=>((b9.f k (wrap64 ((wrap64 (a.1+1))+1))).bind fun s=>((cL.f k (aE L x).f1.f3 (wrap64 ((wrap64 ((wrap64 (a.1+1))+1))+1))).bind fun b=>cV.l0 k (L.set x.toNat ⟨a.2,⟨a.1,wrap64 (a.1+1),s,b.2⟩⟩) b.1 (wrap64 (x+1))))) else none) else some (y,L)
def cV.f (k:Nat) (l:List S116) (a1:Int):Option (Int × List S116):=cV.l0 k l a1 0
def eQ.f (k:Nat) (_a0 _a1 _a2 _a3:Int) (l:List S116) (a1:Int):Option (Int × List S116):=cV.f k l a1
theorem kqX {a b:Prop} (h:a) (g:a→b:=by intro h_;(with_reducible repeat (first|apply Sx.drewN|apply Sx.drew));exact h_):b:=g h
theorem kqH {a b:Prop} (h:a) (g:a→b:=by intro h_;(with_reducible repeat (first|apply Kd.H_alloc|apply Kd.H_drewN|apply Kd.H_drew));exact h_):b:=g h
theorem kqK {a b:Prop} (h:a) (g:a→b:=by intro h_;(with_reducible repeat (first|refine b7.alloc ?_ _|refine b7.drewN ?_ _|refine b7.drew ?_));exact h_):b:=g h
theorem kqA {a b:Prop} (h:a) (g:a→b:=by intro h_;(with_reducible repeat (first|apply Kd.S_alloc|apply Kd.S_drewN|apply Kd.S_drew));exact h_):b:=g h
theorem cV.calls (k:Nat) (v:Value) (l:List S116) (a1:Int) (r1:Int) (r2:List S116) {ok:Nat→Prop} (w0 w:World) (hB:Below w0.heap.size w0 w) (ho:Kd.S kA 116 w w0.heap.size ok v l) (h:cV.f k l a1=some (r1,r2)):
    Calls Try.prog 102 #[v,.int .i64 a1] w fun e w'=>e=.returned (.int .i64 r1)∧Kd.S kA 116 w' w0.heap.size ok v r2∧Below w0.heap.size w0 w'∧b7 w w' ok:=by
  obtain ⟨A,c,rfl⟩:=Kd.S_slice ho
  have HS:=am ho
  have HB:=am hB
  have HK:=am (b7.refl w ok)
  unfold cV.f at h
  have H':=am h
  clear ho hB h
  go_enter Try.func102,Try.ntmps102
  go_wp2
  go_loopg [1,5] k (fun kq v1 v5 w'=>∃(y x:Int) (L:List S116),v1=.int .i64 y∧v5=.int .i64 x∧Aside0 (L.length=l.length)∧Aside0 (cV.l0 kq L y x=some (r1,r2))∧Aside0 (Kd.S kA 116 w' w0.heap.size ok (.slice A l.length c) L)∧Aside0 (Below w0.heap.size w0 w')∧Aside0 (b7 w w' ok))
  case atStart=>exact ⟨a1,0,l,sq,sq,⟨rfl⟩,H',⟨kqA HS.o⟩,⟨bq HB.o⟩,⟨kqK HK.o⟩⟩
  case round=>
   clear H'
   obtain ⟨y,x,L,rfl,rfl,HL,HA,HS,HB,HK⟩:=hrel
   cases gk with
   |zero=>exact absurd HA.o (by simp [cV.l0])
   |succ k1=>
    have H:=HA.o
    clear HA
    simp only [cV.l0] at H
    by_cases c3:x<(L.length:Int)
    rotate_left
    · rw [if_neg c3] at H
      have Af:decide (x<(l.length:Int))=false:=decide_eq_false (by rw [← HL.o];exact c3)
      simp only [j3,j4] at H
      obtain ⟨rfl,rfl⟩:=H
      clear c3
      go_wp2
      go_ret
      exact ⟨rq,kqA HS.o,bq HB.o,kqK HK.o⟩
    rw [if_pos c3] at H
    have Af:decide (x<(l.length:Int))=true:=j7 (by rw [← HL.o];exact c3)
    by_cases c4:0≤x
    rotate_left
    · rw [if_neg c4] at H
      exact absurd H (by simp)
    rw [if_pos c4] at H
    have PP:=am c4
    have QQ:=am c3
    have p5:0≤(x:Int):=c4
    have q5:(x:Int)<((l.length:Int):Int):=by rw [← HL.o];exact c3
    clear c3 c4
    replace H:=be H
    obtain ⟨⟨a1,a2⟩,A1,H⟩:=H
    replace H:=be H
    obtain ⟨rt,A2,H⟩:=H
    replace H:=be H
    obtain ⟨⟨b1,b2⟩,A3,H⟩:=H
    replace H:=am H
    obtain ⟨g,c2,e2,hg,_⟩:=Kd.S_form HS.o (by have:=PP.o;have:=QQ.o;omega)
    obtain ⟨rfl,rfl⟩:A=some ⟨g,0,none⟩∧c=c2:=by injection e2 with a _ b;exact ⟨a,b⟩
    have HG:=am hg
    have GO:=am ((Kd.S_R HS.o).1 g rfl)
    clear e2 hg
    rw [← HL.o] at HS
    replace HS:=am (Sx.start HS.o PP.o QQ.o)
    obtain ⟨v0,v4,oki,A5,A6,A7,A8,A9,Aa,Ab,Ac,Ad,Ae,r0,r4,ha,hoki,hH⟩:=Sx.elem HS.o PP.o QQ.o
    have A0:=am (fun k (h_:some k=(v0:Value).ownBlock)=>(hoki k (r0.1 k h_.symm)).1)
    have A4:=am (fun k (h_:some k=(v4:Value).ownBlock)=>(hoki k (r4.1 k h_.symm)).1)
    replace r0:=am r0
    replace r4:=am r4
    replace ha:=am ha
    replace hH:=am hH
    clear hoki
    replace p5:=eq_true p5
    replace q5:=eq_true q5
    go_wp2_with (first|((with_reducible refine aM (N:=18) rfl ?_);refine gL (some 18) rfl rfl Try.func73 (by kernel_rfl) rfl #[v0,.int .i64 y] rfl ga ?_;refine (cL.calls k1 (fun k=>some k=(v0:Value).ownBlock) v0 _ _ a1 a2 w0 _ ?s1 ?s2 A1.o).mono ?_;(case s1=>exact bq HB.o);(case s2=>exact kqR (Kd.R_tight rfl r0.o));rintro e w8 ⟨rfl,hr,hb,hk⟩;refine ⟨_,rfl,?_⟩;replace HS:=am (Sx.row0 (kqR r0.o) (kqR r4.o) ha.o (kqH hH.o) hr hk);replace HB:=am hb;replace HK:=am (b7.then_ (kqK HK.o) hk (fun k_ h_=>.inl (A0.o k_ h_)));clear hr hb hk;clear A5 A6 A7 A8 A9 Aa Ab Ac Ad Ae r0 r4 ha hH A0 A4;obtain ⟨v0,v4,oki,A5,A6,A7,A8,A9,Aa,Ab,Ac,Ad,Ae,r0,r4,ha,hoki,hH⟩:=Sx.elem HS.o PP.o QQ.o;have A0:=am (fun k (h_:some k=(v0:Value).ownBlock)=>(hoki k (r0.1 k h_.symm)).1);have A4:=am (fun k (h_:some k=(v4:Value).ownBlock)=>(hoki k (r4.1 k h_.symm)).1);replace r0:=am r0;replace r4:=am r4;replace ha:=am ha;replace hH:=am hH;clear hoki)|((with_reducible refine aG (t:=3) (p:=24) rfl ?_);refine eZ (t:=3) (p:=24) (v:=?vo_w9) (w1:=(w8.setCell ⟨g,(x:Int).toNat*5+1,none⟩ (.int .i64 a1))) ?hg ?ho ?hn ?hr ?_;(case ho=>rfl);(case hg=>rfl);(case hn=>rfl);(case hr=>first|(go_simp;done)|(go_simp;rfl));intro w9 hw;have hs_:=Sx.cell (E':=⟨a2,⟨a1,(aE L x).f1.f1,(aE L x).f1.f2,(aE L x).f1.f3⟩⟩) (W:=w8) HS.o PP.o QQ.o 1 (.int .i64 a1) rfl (by omega) (fun _ _=>rfl) rfl rfl;rw [← hw] at hs_;replace HB:=am (Sx.grown_below (bq HB.o) hs_.2 HG.o);replace HK:=am (b7.of_grown hs_.2 (kqK HK.o) (fun k_ e_=>.inl (by injection e_ with e_;rw [← e_];exact GO.o)));replace HS:=am hs_.1;clear hw hs_;clear A5 A6 A7 A8 A9 Aa Ab Ac Ad Ae r0 r4 ha hH A0 A4;obtain ⟨v0,v4,oki,A5,A6,A7,A8,A9,Aa,Ab,Ac,Ad,Ae,r0,r4,ha,hoki,hH⟩:=Sx.elem HS.o PP.o QQ.o;have A0:=am (fun k (h_:some k=(v0:Value).ownBlock)=>(hoki k (r0.1 k h_.symm)).1);have A4:=am (fun k (h_:some k=(v4:Value).ownBlock)=>(hoki k (r4.1 k h_.symm)).1);replace r0:=am r0;replace r4:=am r4;replace ha:=am ha;replace hH:=am hH;clear hoki)|((with_reducible refine aG (t:=3) (p:=32) rfl ?_);refine eZ (t:=3) (p:=32) (v:=?vo_w10) (w1:=(w9.setCell ⟨g,(x:Int).toNat*5+2,none⟩ (.int .i64 (wrap64 (a1+1))))) ?hg ?ho ?hn ?hr ?_;(case ho=>rfl);(case hg=>rfl);(case hn=>rfl);(case hr=>first|(go_simp;done)|(go_simp;rfl));intro Ah hw;have hs_:=Sx.cell (E':=⟨a2,⟨a1,wrap64 (a1+1),(aE L x).f1.f2,(aE L x).f1.f3⟩⟩) (W:=w9) HS.o PP.o QQ.o 2 (.int .i64 (wrap64 (a1+1))) rfl (by omega) (fun _ _=>rfl) rfl rfl;rw [← hw] at hs_;replace HB:=am (Sx.grown_below (bq HB.o) hs_.2 HG.o);replace HK:=am (b7.of_grown hs_.2 (kqK HK.o) (fun k_ e_=>.inl (by injection e_ with e_;rw [← e_];exact GO.o)));replace HS:=am hs_.1;clear hw hs_;clear A5 A6 A7 A8 A9 Aa Ab Ac Ad Ae r0 r4 ha hH A0 A4;obtain ⟨v0,v4,oki,A5,A6,A7,A8,A9,Aa,Ab,Ac,Ad,Ae,r0,r4,ha,hoki,hH⟩:=Sx.elem HS.o PP.o QQ.o;have A0:=am (fun k (h_:some k=(v0:Value).ownBlock)=>(hoki k (r0.1 k h_.symm)).1);have A4:=am (fun k (h_:some k=(v4:Value).ownBlock)=>(hoki k (r4.1 k h_.symm)).1);replace r0:=am r0;replace r4:=am r4;replace ha:=am ha;replace hH:=am hH;clear hoki)|((with_reducible refine aM (N:=38) rfl ?_);refine gL (some 38) rfl rfl Try.func131 (by kernel_rfl) rfl #[.int .i64 (wrap64 (wrap64 (a1+1)+1))] rfl ga ?_;refine (b9.calls k1 _ rt _ A2.o).mono ?_;rintro e Ag ⟨rfl,hk⟩;refine ⟨_,rfl,?_⟩;replace HS:=am (Sx.below (kqX HS.o) hk);replace HB:=am (aA (bq HB.o) hk);replace HK:=am (b7.below (kqK HK.o) hk);clear hk;clear A5 A6 A7 A8 A9 Aa Ab Ac Ad Ae r0 r4 ha hH A0 A4;obtain ⟨v0,v4,oki,A5,A6,A7,A8,A9,Aa,Ab,Ac,Ad,Ae,r0,r4,ha,hoki,hH⟩:=Sx.elem HS.o PP.o QQ.o;have A0:=am (fun k (h_:some k=(v0:Value).ownBlock)=>(hoki k (r0.1 k h_.symm)).1);have A4:=am (fun k (h_:some k=(v4:Value).ownBlock)=>(hoki k (r4.1 k h_.symm)).1);replace r0:=am r0;replace r4:=am r4;replace ha:=am ha;replace hH:=am hH;clear hoki)|((with_reducible refine aG (t:=9) (p:=41) rfl ?_);refine eZ (t:=9) (p:=41) (v:=?vo_w12) (w1:=(Ag.setCell ⟨g,(x:Int).toNat*5+3,none⟩ (.string rt))) ?hg ?ho ?hn ?hr ?_;(case ho=>rfl);(case hg=>rfl);(case hn=>rfl);(case hr=>first|(go_simp;done)|(go_simp;rfl));intro Ai hw;have hs_:=Sx.cell (E':=⟨a2,⟨a1,wrap64 (a1+1),rt,(aE L x).f1.f3⟩⟩) (W:=Ag) HS.o PP.o QQ.o 3 (.string rt) rfl (by omega) (fun _ _=>rfl) rfl rfl;rw [← hw] at hs_;replace HB:=am (Sx.grown_below (bq HB.o) hs_.2 HG.o);replace HK:=am (b7.of_grown hs_.2 (kqK HK.o) (fun k_ e_=>.inl (by injection e_ with e_;rw [← e_];exact GO.o)));replace HS:=am hs_.1;clear hw hs_;clear A5 A6 A7 A8 A9 Aa Ab Ac Ad Ae r0 r4 ha hH A0 A4;obtain ⟨v0,v4,oki,A5,A6,A7,A8,A9,Aa,Ab,Ac,Ad,Ae,r0,r4,ha,hoki,hH⟩:=Sx.elem HS.o PP.o QQ.o;have A0:=am (fun k (h_:some k=(v0:Value).ownBlock)=>(hoki k (r0.1 k h_.symm)).1);have A4:=am (fun k (h_:some k=(v4:Value).ownBlock)=>(hoki k (r4.1 k h_.symm)).1);replace r0:=am r0;replace r4:=am r4;replace ha:=am ha;replace hH:=am hH;clear hoki)|((with_reducible refine aM (N:=51) rfl ?_);refine gL (some 51) rfl rfl Try.func73 (by kernel_rfl) rfl #[v4,.int .i64 (wrap64 (wrap64 (wrap64 (a1+1)+1)+1))] rfl ga ?_;refine (cL.calls k1 (fun k=>some k=(v4:Value).ownBlock) v4 _ _ b1 b2 w0 _ ?s1 ?s2 A3.o).mono ?_;(case s1=>exact bq HB.o);(case s2=>exact kqR (Kd.R_tight rfl r4.o));rintro e Aj ⟨rfl,hr,hb,hk⟩;refine ⟨_,rfl,?_⟩;replace HS:=am (Sx.row4 (kqR r0.o) (kqR r4.o) ha.o (kqH hH.o) hr hk);replace HB:=am hb;replace HK:=am (b7.then_ (kqK HK.o) hk (fun k_ h_=>.inl (A4.o k_ h_)));clear hr hb hk;clear A5 A6 A7 A8 A9 Aa Ab Ac Ad Ae r0 r4 ha hH A0 A4;obtain ⟨v0,v4,oki,A5,A6,A7,A8,A9,Aa,Ab,Ac,Ad,Ae,r0,r4,ha,hoki,hH⟩:=Sx.elem HS.o PP.o QQ.o;have A0:=am (fun k (h_:some k=(v0:Value).ownBlock)=>(hoki k (r0.1 k h_.symm)).1);have A4:=am (fun k (h_:some k=(v4:Value).ownBlock)=>(hoki k (r4.1 k h_.symm)).1);replace r0:=am r0;replace r4:=am r4;replace ha:=am ha;replace hH:=am hH;clear hoki))
    go_roundg k1
    case measure=>omega
    case rel=>exact ⟨_,wrap64 (x+1),_,rfl,sq,⟨by rw [List.length_set];exact HL.o⟩,H,⟨by rw [← HL.o];exact kqX HS.o⟩,⟨bq HB.o⟩,⟨kqK HK.o⟩⟩
theorem eQ.calls (k:Nat) (a0 a1 a2 a3:Int) (v:Value) (l:List S116) (y r1:Int) (r2:List S116) {ok:Nat→Prop} (w0 w:World) (hB:Below w0.heap.size w0 w) (ho:Kd.S kA 116 w w0.heap.size ok v l) (h:eQ.f k a0 a1 a2 a3 l y=some (r1,r2)):
    Calls Try.prog 43 #[.agg #[.int .i64 a0,.int .i64 a1,.int .i64 a2,.int .i64 a3,v],.int .i64 y] w fun e w'=>e=.returned (.int .i64 r1)∧Kd.S kA 116 w' w0.heap.size ok v r2∧Below w0.heap.size w0 w'∧b7 w w' ok:=by
  have hu:=Try.underlying58
  obtain ⟨A,c,rfl⟩:=Kd.S_slice ho
  unfold eQ.f at h
  have HS:=am ho
  have HB:=am hB
  have HK:=am (b7.refl w ok)
  have H:=am h
  clear h ho hB
  go_enter Try.func43,Try.ntmps43
  go_wp2_with (first|((with_reducible refine aM (N:=2) rfl ?_);refine bxe 2 #[.int .i64 a0,.int .i64 a1,.int .i64 a2,.int .i64 a3,.slice A l.length c] 58 ?_;intro gb hg w1 hbox hb;replace HS:=am (Kd.S_below (kqA HS.o) hb);replace HB:=am (aA (bq HB.o) hb);replace HK:=am (b7.below (kqK HK.o) hb);obtain ⟨A0,A1,A2,A3,A4,A5,A6,A7,A8,A9⟩:=cl5 hbox;clear hb hbox hg)|((with_reducible refine aM (N:=8) rfl ?_);refine gL (some 8) rfl rfl Try.func102 (by kernel_rfl) rfl #[.slice A l.length c,.int .i64 y] rfl ga ?_;refine (cV.calls (ok:=ok) k _ l y r1 r2 w0 _ ?s1 ?s2 H.o).mono ?_;(case s1=>exact bq HB.o);(case s2=>exact kqA HS.o);rintro e w2 ⟨rfl,hs,hb,hk⟩;refine ⟨_,rfl,?_⟩;replace HS:=am hs;replace HB:=am hb;replace HK:=am (b7.then_ (kqK HK.o) hk (fun _ h_=>.inl h_));clear hs hb hk A0 A1 A2 A3 A4 A5 A6 A7 A8 A9))
  go_ret
  exact ⟨rq,kqA HS.o,bq HB.o,kqK HK.o⟩
def dS.l0:Nat→List Int→List Int→Int→Int→Option (Bool)
 |0,_,_,_,_=>none
 |k+1,x0,x1,A1,A0=>if A0<A1 then (if 0≤A0 then (if A0<(x0.length:Int) then (if A0<(x1.length:Int) then (if (rd x0 A0)=(rd x1 A0) then (dS.l0 k x0 x1 A1 (wrap64 (A0+1))) else (some false)) else (none)) else (none)) else (none)) else (some true)
def dS.f (k:Nat) (l0:List Int) (l1:List Int):Option (Bool):=if (l0.length:Int)=(l1.length:Int) then (dS.l0 k l0 l1 (l0.length:Int) 0) else (some false)
theorem dS.calls (k:Nat) (A0:Option Addr) (c0:Nat) (l0:List Int) (A1:Option Addr) (c1:Nat) (l1:List Int) (r:Bool) (w:World) (Aj:Kd.C (Kd.int .i64) w A0 l0.length l0) (Ak:l0.length≤c0) (Al:Kd.C (Kd.int .i64) w A1 l1.length l1) (Am:l1.length≤c1) (h:dS.f k l0 l1=some r):
 Calls Try.prog 112 #[.slice A0 l0.length c0,.slice A1 l1.length c1] w fun e w'=>e=.returned (.bool r)∧Drawn0 w w':=by
 have An:=am Aj
 have Au:=am Ak
 clear Aj Ak
 have Ao:=am Al
 have Av:=am Am
 clear Al Am
 have H:=h
 clear h
 unfold dS.f at H
 replace H:=iq' H
 rcases H with ⟨c3,Ab,Ac,H⟩|⟨c3,Ab,Ac,H⟩
 · have Ad:(l0.length==l1.length)=false:=by first|simpa using c3|(simp at c3 ⊢;omega)
   obtain rfl:=j5 H
   go_enter Try.func112,Try.ntmps112
   go_wp2
   go_ret
   exact ⟨by first|rfl|(simp;done)|(simp [*];done),by repeat (first|exact Drawn0.refl _|apply Drawn0.step)⟩
 have Ad:(l0.length==l1.length)=true:=by first|simpa using c3|(simp at c3 ⊢;omega)
 clear c3
 have H':=am H
 clear H
 go_enter Try.func112,Try.ntmps112
 go_wp2
 go_loopg [13] k (fun kq Aq w'=>∃(A2:Int),Aq=.int .i64 A2∧Aside0 (dS.l0 kq l0 l1 (l0.length:Int) A2=some r)∧Aside0 (kq≤k)∧Drawn0 w w')
 case atStart=>exact ⟨(0),sq,H',⟨j6 _⟩,by repeat (first|exact Drawn0.refl _|apply Drawn0.step)⟩
 case round=>
  clear H'
  try clear c1
  try clear p2
  try clear c3
  try clear Ab
  try clear Ac
  try clear Ad
  obtain ⟨A2,rfl,HA,Ap,⟨m1,rfl⟩⟩:=hrel
  cases gk with
  |zero=>exact absurd HA.o (by simp [dS.l0])
  |succ k1=>
   have H:=HA.o
   clear HA
   simp only [dS.l0] at H
   replace H:=il' H
   rcases H with ⟨-,Ag,H⟩|⟨-,Ag,H⟩
   · obtain rfl:=j5 H
     go_wp2
     go_ret
     exact ⟨by first|rfl|(simp;done)|(simp [*];done),by repeat (first|exact Drawn0.refl _|apply Drawn0.step)⟩
   replace H:=nl H
   obtain ⟨-,Ar,H⟩:=H
   replace H:=nl H
   obtain ⟨-,As,H⟩:=H
   replace H:=nl H
   obtain ⟨-,At,H⟩:=H
   replace H:=iq' H
   rcases H with ⟨c8,Ah,Ai,H⟩|⟨-,Ah,Ai,H⟩
   · obtain rfl:=j5 H
     have A3:0≤(A2:Int):=oda
     have A4:A2<(l0.length:Int):=oda
     obtain ⟨Ae,A9,A7⟩:=Kd.at_int An.o A2 A3 A4
     cases A9
     replace A3:=eq_true A3
     replace A4:=eq_true A4
     have A5:0≤(A2:Int):=oda
     have A6:A2<(l1.length:Int):=oda
     obtain ⟨Af,Aa,A8⟩:=Kd.at_int Ao.o A2 A5 A6
     cases Aa
     replace A5:=eq_true A5
     replace A6:=eq_true A6
     try go_wp2
     repeat (go_quiet (fail);try go_wp2)
     go_ret
     exact ⟨by first|rfl|(simp;done)|(simp [*];done),by repeat (first|exact Drawn0.refl _|apply Drawn0.step)⟩
   have H':=am H
   clear H
   have A3:0≤(A2:Int):=oda
   have A4:A2<(l0.length:Int):=oda
   obtain ⟨Ae,A9,A7⟩:=Kd.at_int An.o A2 A3 A4
   cases A9
   replace A3:=eq_true A3
   replace A4:=eq_true A4
   have A5:0≤(A2:Int):=oda
   have A6:A2<(l1.length:Int):=oda
   obtain ⟨Af,Aa,A8⟩:=Kd.at_int Ao.o A2 A5 A6
   cases Aa
   replace A5:=eq_true A5
   replace A6:=eq_true A6
   try go_wp2
   repeat (go_quiet (fail);try go_wp2)
   go_roundg k1
   case measure=>have:=Ap.o;omega
   case rel=>exact ⟨(wrap64 (A2+1)),sq,H',⟨by have:=Ap.o;omega⟩,by repeat (first|exact Drawn0.refl _|apply Drawn0.step)⟩
def dB.f (k:Nat) (A0:Int) (A1:Int) (A2:ByteArray) (A3:List Int) (A4:Int) (A5:Int) (A6:ByteArray) (A7:List Int):Option (Bool):=if A0=A4 then (if A1=A5 then (if A2.toList=A6.toList then ((dS.f k A3 A7).bind fun A8=>(some A8)) else (some false)) else (some false)) else (some false)
theorem dB.calls (k:Nat) (Aa:Int) (Ab:Int) (Ac:ByteArray) (Ad:Option Addr) (Ae:Nat) (A1:List Int) (Af:Int) (Ag:Int) (Ah:ByteArray) (Ai:Option Addr) (Aj:Nat) (A2:List Int) (r:Bool) (w:World) (A6:Kd.C (Kd.int .i64) w Ad A1.length A1) (A7:A1.length≤Ae) (A8:Kd.C (Kd.int .i64) w Ai A2.length A2) (A9:A2.length≤Aj) (h:dB.f k Aa Ab Ac A1 Af Ag Ah A2=some r):
 Calls Try.prog 49 #[.agg #[.int .i64 Aa,.int .i64 Ab,.string Ac,.slice Ad A1.length Ae],.agg #[.int .i64 Af,.int .i64 Ag,.string Ah,.slice Ai A2.length Aj]] w fun e w'=>e=.returned (.bool r)∧Below w.heap.size w w':=by
 have Bj:=Try.underlying29
 have B2:=am A6
 have B3:=am A7
 clear A6 A7
 have B4:=am A8
 have B5:=am A9
 clear A8 A9
 have HB:=am (Below.refl w.heap.size w)
 have H:=h
 clear h
 unfold dB.f at H
 replace H:=iq' H
 rcases H with ⟨c3,B9,Ba,H⟩|⟨-,B9,Ba,H⟩
 rotate_left
 replace H:=iq' H
 rcases H with ⟨c4,Bb,Bc,H⟩|⟨-,Bb,Bc,H⟩
 rotate_left
 replace H:=iq' H
 rcases H with ⟨c5,Bd,Be,H⟩|⟨-,Bd,Be,H⟩
 rotate_left
 replace H:=be H
 obtain ⟨B6,Bk,H⟩:=H
 rotate_right
 rotate_right
 rotate_right
 all_goals
  obtain rfl:=j5 H
  go_enter Try.func49,Try.ntmps49
  go_wp2_with (first|((with_reducible refine aM (N:=2) rfl ?_);refine bxe 2 #[.int .i64 Aa,.int .i64 Ab,.string Ac,.slice Ad A1.length Ae] 29 ?_;intro Bf hg w_ hbox hb;have n_:=ak4 (aA (bq HB.o) hb) hbox (bz hg (bq HB.o)) (bz hg (bq HB.o));clear HB;obtain ⟨HB,A0,Bg,A3⟩:=n_;clear hb hbox hg)|((with_reducible refine aM (N:=3) rfl ?_);refine bxe 3 #[.int .i64 Af,.int .i64 Ag,.string Ah,.slice Ai A2.length Aj] 29 ?_;intro Bh hg w_ hbox hb;have n_:=ak7 (kb A0 hb) (aA (bq1 HB.o A3.o) hb) hbox (bz hg (bq1 HB.o A3.o)) (bz hg (bq1 HB.o A3.o)) (nL hg A0) (nG hg A0);clear A0 HB;obtain ⟨A0,HB,B7,Bi,B8,A4,A5⟩:=n_;clear hb hbox hg;have Ak:=A4.o;have Al:=A5.o;obtain ⟨Am,An,Ao,Ap,Aq,Ar,As,At⟩:=cl4 A0.o;obtain ⟨Au,Av,Aw,Ax,Ay,Az,B0,B1⟩:=cl4 B7.o)|(go_at_call 112;refine cm (dS.calls k _ _ A1 _ _ A2 B6 _ (cq (Kd.C_below B2.o HB.o)) B3.o (cq (Kd.C_below B4.o HB.o)) B5.o Bk.o) ?_;rintro e w' ⟨rfl,⟨nd,rfl⟩⟩))
  go_ret
  exact ⟨rq,bq2 HB.o A3.o B8.o⟩
def bN.f (a0:Int) (a1:Int) (a2:Int):Option (Bool):=if a0≥a1 then (some (decide (a0≤a2))) else (some false)
theorem bN.calls (a0:Int) (a1:Int) (a2:Int) (r:Bool) (w:World) (h:bN.f a0 a1 a2=some r):
 Calls Try.prog 87 #[.int .i64 a0,.int .i64 a1,.int .i64 a2] w fun e w'=>e=.returned (.bool r)∧Drawn0 w w':=by
 have H:=h
 clear h
 unfold bN.f at H
 replace H:=ip H
 rcases H with ⟨c4,H⟩|⟨c4,H⟩
 have A0:decide (a1≤a0)=true:=j7 c4
 clear c4
 rotate_left
 have A0:decide (a1≤a0)=false:=decide_eq_false c4
 clear c4
 rotate_right
 all_goals
  obtain rfl:=j5 H
  go_enter Try.func87,Try.ntmps87
  go_wp2
  go_ret
  exact ⟨by first|rfl|(simp;done)|(simp [*];done),by repeat (first|exact Drawn0.refl _|apply Drawn0.step)⟩
def eK.f (a0:Int):Option (Bool):=(bN.f a0 (-2147483648) 2147483647).bind fun A0=>(some A0)
theorem eK.calls (a0:Int) (r:Bool) (w:World) (h:eK.f a0=some r):
 Calls Try.prog 107 #[.int .i64 a0] w fun e w'=>e=.returned (.bool r)∧Drawn0 w w':=by
 have H:=h
 clear h
 unfold eK.f at H
 replace H:=be H
 obtain ⟨A0,A1,H⟩:=H
 obtain rfl:=j5 H
 go_enter Try.func107,Try.ntmps107
 go_wp2_with (first|((with_reducible refine aD (f:=87) rfl ?_);refine gc (some 4) (bN.calls a0 (-2147483648) 2147483647 A0 _ A1.o) Try.func87 ?_;rintro e w' ⟨rfl,⟨nd,rfl⟩⟩;refine ⟨_,rfl,?_⟩))
 go_ret
 exact ⟨by first|rfl|(simp;done)|(simp [*];done),by repeat (first|exact Drawn0.refl _|apply Drawn0.step)⟩
def cI.l0:Nat→List Int→List Int→Int→Int→Option (Bool)
 |0,_,_,_,_=>none
 |k+1,x0,x5,x6,x7=>if x7<x6 then (if 0≤x7 then (if x7<(x5.length:Int) then ((bN.f (rd x5 x7) 0 100000).bind fun A0=>(if A0=true then (cI.l0 k x0 x5 x6 (wrap64 (x7+1))) else (some false))) else (none)) else (none)) else ((bN.f (x0.length:Int) 1 10).bind fun A1=>(some A1))
def cI.f (k:Nat) (l0:List Int):Option (Bool):=cI.l0 k l0 l0 (l0.length:Int) 0
theorem cI.calls (k:Nat) (A0:Option Addr) (c0:Nat) (l0:List Int) (r:Bool) (w:World) (Ac:Kd.C (Kd.int .i64) w A0 l0.length l0) (Ad:l0.length≤c0) (h:cI.f k l0=some r):
 Calls Try.prog 108 #[.slice A0 l0.length c0] w fun e w'=>e=.returned (.bool r)∧Drawn0 w w':=by
 have Ae:=am Ac
 have Ai:=am Ad
 clear Ac Ad
 have H:=h
 clear h
 unfold cI.f at H
 have H':=am H
 clear H
 go_enter Try.func108,Try.ntmps108
 go_wp2
 go_loopg [7] k (fun kq v7 w'=>∃(A1:Int),v7=.int .i64 A1∧Aside0 (cI.l0 kq l0 l0 (l0.length:Int) A1=some r)∧Aside0 (kq≤k)∧Drawn0 w w')
 case atStart=>exact ⟨(0),sq,H',⟨j6 _⟩,by repeat (first|exact Drawn0.refl _|apply Drawn0.step)⟩
 case round=>
  clear H'
  try clear c1
  obtain ⟨A1,rfl,HA,Af,⟨m1,rfl⟩⟩:=hrel
  cases gk with
  |zero=>exact absurd HA.o (by simp [cI.l0])
  |succ k1=>
   have H:=HA.o
   clear HA
   simp only [cI.l0] at H
   replace H:=il' H
   rcases H with ⟨-,A9,H⟩|⟨-,A9,H⟩
   · replace H:=be H
     obtain ⟨Aa,A7,H⟩:=H
     obtain rfl:=j5 H
     go_wp2_with (first|((with_reducible refine aD (f:=87) rfl ?_);refine gc (some 17) (bN.calls (l0.length:Int) 1 10 Aa _ A7.o) Try.func87 ?_;rintro e w' ⟨rfl,⟨nd,rfl⟩⟩;refine ⟨_,rfl,?_⟩))
     go_ret
     exact ⟨by first|rfl|(simp;done)|(simp [*];done),by repeat (first|exact Drawn0.refl _|apply Drawn0.step)⟩
   replace H:=nl H
   obtain ⟨-,Ag,H⟩:=H
   replace H:=nl H
   obtain ⟨-,Ah,H⟩:=H
   replace H:=be H
   obtain ⟨Ab,A5,H⟩:=H
   cases Ab
   · replace H:=iF H
     obtain rfl:=j5 H
     have A2:0≤(A1:Int):=oda
     have A3:A1<(l0.length:Int):=oda
     obtain ⟨A8,A6,A4⟩:=Kd.at_int Ae.o A1 A2 A3
     cases A6
     replace A2:=eq_true A2
     replace A3:=eq_true A3
     go_wp2_with (first|((with_reducible refine aD (f:=87) rfl ?_);refine gc (some 12) (bN.calls (rd l0 A1) 0 100000 false _ A5.o) Try.func87 ?_;rintro e w' ⟨rfl,⟨nd,rfl⟩⟩;refine ⟨_,rfl,?_⟩))
     go_ret
     exact ⟨by first|rfl|(simp;done)|(simp [*];done),by repeat (first|exact Drawn0.refl _|apply Drawn0.step)⟩
   replace H:=iT H
   have H':=am H
   clear H
   have A2:0≤(A1:Int):=oda
   have A3:A1<(l0.length:Int):=oda
   obtain ⟨A8,A6,A4⟩:=Kd.at_int Ae.o A1 A2 A3
   cases A6
   replace A2:=eq_true A2
   replace A3:=eq_true A3
   go_wp2_with (first|((with_reducible refine aD (f:=87) rfl ?_);refine gc (some 12) (bN.calls (rd l0 A1) 0 100000 true _ A5.o) Try.func87 ?_;rintro e w' ⟨rfl,⟨nd,rfl⟩⟩;refine ⟨_,rfl,?_⟩))
   go_roundg k1
   case measure=>have:=Af.o;omega
   case rel=>exact ⟨(wrap64 (A1+1)),sq,H',⟨by have:=Af.o;omega⟩,by repeat (first|exact Drawn0.refl _|apply Drawn0.step)⟩
end Go.Proofs.Ythhnfmbfgplelaa.XFnExactGetMsg
