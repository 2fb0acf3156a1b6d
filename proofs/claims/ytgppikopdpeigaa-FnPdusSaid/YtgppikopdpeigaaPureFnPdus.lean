/- The pure side of FnPdus: a request comes back of its bytes, and what is read has these bytes. No conditions but those of the given statement. -/
import Derived.Test.YtgppikopdpeigaaXFnPdusx28
namespace Go.Proofs.Ytgppikopdpeigaa.Pure
open Go.RowKit Go.Proofs.Ytgppikopdpeigaa.XFnPdus Go.Proofs.YtgppikopdpeigaaW.PrintWords Go.Proofs.YtgppikopdpeigaaW.PrintLast Go.Proofs.YtgppikopdpeigaaW.PrintMore
set_option linter.unusedVariables false
set_option linter.unusedSimpArgs false

theorem w64 {x:Int} (h0:-9223372036854775808≤x) (h1:x≤9223372036854775807):wrap64 x=x:=by
  unfold wrap64
  omega
theorem zV (pre rest:List Int) (r:Int):rd (pre++r::rest) (pre.length:Int)=r:=by
  unfold rd
  simp [List.getD_eq_getElem?_getD]
theorem yW {d k:Nat} (h:d<k):∃m,k=m+1:=⟨k - 1,by omega⟩
theorem Ev.at_ {α:Type} {g:Nat→Option α} {r:α} (n:Nat) (h:∀k,n<k→g k=some r):Ev g r:=⟨n+1,fun k hk=>h k (by omega)⟩
theorem Ev.succ {α:Type} {g:Nat→Option α} {r:α} (h:Ev (fun k=>g (k+1)) r):Ev g r:=by
  obtain ⟨K,h⟩:=h
  refine ⟨K+1,fun n hn=>?_⟩
  obtain ⟨m,rfl⟩:∃m,n=m+1:=⟨n - 1,by omega⟩
  exact h m (by omega)
theorem Ev.some_const {α:Type} {g:Nat→Option α} {r:α} (h:∀k,g k=some r):Ev g r:=⟨0,fun k _=>h k⟩

theorem uF (a b c:Int):dA.f a b c=some (decide (b≤a∧a≤c)):=by
  unfold dA.f
  by_cases h:b≤a
  · rw [if_pos h];simp [h]
  · rw [if_neg h];simp [h]

theorem in_eq (a b c:Int):b7.f a b c=some (decide (b≤a∧a≤c)):=by
  unfold b7.f
  by_cases h:b≤a
  · rw [if_pos h];simp [h]
  · rw [if_neg h];simp [h]

theorem sameBytes_loop (a:List Int):∀(b pre pre':List Int) (k:Nat),pre.length=pre'.length→a.length=b.length→pre.length+a.length≤1099511627776→a.length<k→
    cH.l0 k (pre++a) (pre'++b) (pre.length:Int)=some (decide (a=b)):=by
  induction a with
  |nil=>
    intro b pre pre' k hp hab hn hk
    obtain ⟨k,rfl⟩:=yW hk
    obtain rfl:b=[]:=List.eq_nil_of_length_eq_zero hab.symm
    simp only [cH.l0]
    rw [if_neg (by simp only [List.length_append,List.length_nil] at*;omega)]
    simp
  |cons r a ih=>
    intro b pre pre' k hp hab hn hk
    obtain ⟨k,rfl⟩:=yW hk
    cases b with
    |nil=>simp at hab
    |cons s b=>
      simp only [List.length_cons] at hab hn hk
      simp only [cH.l0]
      have e:rd (pre'++s::b) (pre.length:Int)=s:=by rw [hp,zV]
      rw [if_pos (by simp only [List.length_append,List.length_cons];omega),if_pos (by omega),if_pos (by simp only [List.length_append,List.length_cons];omega),zV,e]
      by_cases hrs:r=s
      · subst hrs
        rw [if_pos rfl,w64 (by omega) (by omega)]
        have h:=ih b (pre++[r]) (pre'++[r]) k (by simp [hp]) (by omega) (by simp only [List.length_append,List.length_cons,List.length_nil];omega) (by omega)
        simpa using h
      · rw [if_neg hrs]
        simp [hrs]
theorem xY (a b:List Int) (h:a.length≤1099511627776):Ev (fun k=>cH.f k a b) (decide (a=b)):=by
  refine Ev.at_ a.length fun k hk=>?_
  simp only [cH.f]
  by_cases e:a.length=b.length
  · rw [if_pos (by omega)]
    have h:=sameBytes_loop a b [] [] k rfl e (by simp only [List.length_nil];omega) hk
    simpa using h
  · rw [if_neg (by omega)]
    have hne:¬a=b:=fun h=>e (by rw [h])
    simp [hne]

theorem Ev.ite {α:Type} {c:Prop} [Decidable c] {g1 g2:Nat→Option α} {r1 r2:α} (h1:c→Ev g1 r1) (h2:¬c→Ev g2 r2):Ev (fun k=>if c then g1 k else g2 k) (if c then r1 else r2):=by
  by_cases h:c
  · simp only [if_pos h];exact h1 h
  · simp only [if_neg h];exact h2 h

theorem Ev.uniq {α:Type} {g:Nat→Option α} {r1 r2:α} (h1:Ev g r1) (h2:Ev g r2):r1=r2:=by
  obtain ⟨a,ha⟩:=h1
  obtain ⟨b,hb⟩:=h2
  exact Option.some.inj ((ha (max a b) (Nat.le_max_left a b)).symm.trans (hb (max a b) (Nat.le_max_right a b)))

def xM (l:List Int):Prop:=∀y ∈ l,0≤y∧y≤255
theorem yQ {a b:List Int} (ha:xM a) (hb:xM b):xM (a++b):=by
  intro y hy
  rcases List.mem_append.1 hy with h|h
  · exact ha y h
  · exact hb y h
theorem vB {b:Int} (h:0≤b∧b≤255):xM [b]:=by
  intro y hy
  rw [List.mem_singleton.1 hy]
  exact h
theorem bys_take {a:List Int} (ha:xM a) (n:Nat):xM (a.take n):=fun y hy=>ha y (List.mem_of_mem_take hy)
theorem bys_set {a:List Int} (ha:xM a) (n:Nat) {v:Int} (hv:0≤v∧v≤255):xM (a.set n v):=by
  intro y hy
  rcases List.mem_or_eq_of_mem_set hy with h|h
  · exact ha y h
  · rw [h];exact hv

theorem sSameOid_loop (a:List Int):∀(b pre pre':List Int) (k:Nat),pre.length=pre'.length→a.length=b.length→pre.length+a.length≤1099511627776→a.length<k→
    dG.l0 k (pre++a) (pre'++b) (pre.length:Int)=some (decide (a=b)):=by
  induction a with
  |nil=>
    intro b pre pre' k hp hab hn hk
    obtain ⟨k,rfl⟩:=yW hk
    obtain rfl:b=[]:=List.eq_nil_of_length_eq_zero hab.symm
    simp only [dG.l0]
    rw [if_neg (by simp only [List.length_append,List.length_nil] at*;omega)]
    simp
  |cons r a ih=>
    intro b pre pre' k hp hab hn hk
    obtain ⟨k,rfl⟩:=yW hk
    cases b with
    |nil=>simp at hab
    |cons s b=>
      simp only [List.length_cons] at hab hn hk
      simp only [dG.l0]
      have e:rd (pre'++s::b) (pre.length:Int)=s:=by rw [hp,zV]
      rw [if_pos (by simp only [List.length_append,List.length_cons];omega),if_pos (by omega),if_pos (by simp only [List.length_append,List.length_cons];omega),zV,e]
      by_cases hrs:r=s
      · subst hrs
        rw [if_pos rfl,w64 (by omega) (by omega)]
        have h:=ih b (pre++[r]) (pre'++[r]) k (by simp [hp]) (by omega) (by simp only [List.length_append,List.length_cons,List.length_nil];omega) (by omega)
        simpa using h
      · rw [if_neg hrs]
        simp [hrs]
theorem sSameOid_ev (a b:List Int) (h:a.length≤1099511627776):Ev (fun k=>dG.f k a b) (decide (a=b)):=by
  refine Ev.at_ a.length fun k hk=>?_
  simp only [dG.f]
  by_cases e:a.length=b.length
  · rw [if_pos (by omega)]
    have h:=sSameOid_loop a b [] [] k rfl e (by simp only [List.length_nil];omega) hk
    simpa using h
  · rw [if_neg (by omega)]
    have hne:¬a=b:=fun h=>e (by rw [h])
    simp [hne]

theorem iSameOid_loop (a:List Int):∀(b pre pre':List Int) (m:Int) (k:Nat),pre.length=pre'.length→a.length=b.length→pre.length+a.length≤1099511627776→m=(pre.length:Int)+(a.length:Int)→a.length<k→
    dE.l0 k (pre++a) (pre'++b) m (pre.length:Int)=some (decide (a=b)):=by
  induction a with
  |nil=>
    intro b pre pre' m k hp hab hn hm hk
    obtain ⟨k,rfl⟩:=yW hk
    obtain rfl:b=[]:=List.eq_nil_of_length_eq_zero hab.symm
    simp only [dE.l0]
    rw [if_neg (by simp only [List.length_append,List.length_nil] at*;omega)]
    simp
  |cons r a ih=>
    intro b pre pre' m k hp hab hn hm hk
    obtain ⟨k,rfl⟩:=yW hk
    cases b with
    |nil=>simp at hab
    |cons s b=>
      simp only [List.length_cons] at hab hn hk hm
      simp only [dE.l0]
      have e:rd (pre'++s::b) (pre.length:Int)=s:=by rw [hp,zV]
      rw [if_pos (by omega),if_pos (by omega),if_pos (by simp only [List.length_append,List.length_cons];omega),if_pos (by simp only [List.length_append,List.length_cons];omega),zV,e]
      by_cases hrs:r=s
      · subst hrs
        rw [if_pos rfl,w64 (by omega) (by omega)]
        have h:=ih b (pre++[r]) (pre'++[r]) m k (by simp [hp]) (by omega) (by simp only [List.length_append,List.length_cons,List.length_nil];omega) (by simp only [List.length_append,List.length_cons,List.length_nil];omega) (by omega)
        simpa using h
      · rw [if_neg hrs]
        simp [hrs]
theorem iSameOid_ev (a b:List Int) (h:a.length≤1099511627776):Ev (fun k=>dE.f k a b) (decide (a=b)):=by
  refine Ev.at_ a.length fun k hk=>?_
  simp only [dE.f]
  by_cases e:a.length=b.length
  · rw [if_pos (by omega)]
    have h:=iSameOid_loop a b [] [] (a.length:Int) k rfl e (by simp only [List.length_nil];omega) (by simp) hk
    simpa using h
  · rw [if_neg (by omega)]
    have hne:¬a=b:=fun h=>e (by rw [h])
    simp [hne]

def zY (xs:List Int):Bool:=xs.all fun n=>decide (0≤n∧n≤100000)
def zO (xs:List Int):Bool:=zY xs && decide (1≤(xs.length:Int)∧(xs.length:Int)≤10)

theorem sOidOk_loop (rest:List Int):∀(pre:List Int) (k:Nat),pre.length+rest.length≤1099511627776→rest.length<k→
    cI.l0 k (pre++rest) (pre.length:Int)=some (zY rest && decide (1≤((pre++rest).length:Int)∧((pre++rest).length:Int)≤10)):=by
  induction rest with
  |nil=>
    intro pre k _ hk
    obtain ⟨k,rfl⟩:=yW hk
    simp only [cI.l0]
    rw [if_neg (by simp only [List.length_append,List.length_nil];omega),uF]
    simp [zY]
  |cons r rest ih=>
    intro pre k hn hk
    obtain ⟨k,rfl⟩:=yW hk
    simp only [List.length_cons] at hn hk
    simp only [cI.l0]
    rw [if_pos (by simp only [List.length_append,List.length_cons];omega),if_pos (by omega),zV,uF,w64 (by omega) (by omega)]
    simp only [Option.bind_some]
    by_cases h:0≤r∧r≤100000
    · rw [if_pos (by simpa using h)]
      have e:=ih (pre++[r]) k (by simp only [List.length_append,List.length_cons,List.length_nil];omega) (by omega)
      simp only [List.append_assoc,List.cons_append,List.nil_append] at e
      rw [show (pre.length:Int)+1=((pre++[r]).length:Int) from by simp,e]
      simp [zY,h]
    · rw [if_neg (by simpa using h)]
      simp only [zY,List.all_cons,decide_eq_false h,Bool.false_and]
theorem qW (xs:List Int) (h:xs.length≤1099511627776):Ev (fun k=>cI.f k xs) (zO xs):=by
  refine Ev.at_ xs.length fun k hk=>?_
  simp only [cI.f]
  have e:=sOidOk_loop xs [] k (by simp only [List.length_nil];omega) hk
  simpa [zO] using e

theorem iOidOk_loop (rest:List Int):∀(pre all:List Int) (m:Int) (k:Nat),m=(pre.length:Int)+rest.length→pre.length+rest.length≤1099511627776→rest.length<k→
    dD.l0 k all (pre++rest) m (pre.length:Int)=some (zY rest && decide (1≤(all.length:Int)∧(all.length:Int)≤10)):=by
  induction rest with
  |nil=>
    intro pre all m k hm _ hk
    obtain ⟨k,rfl⟩:=yW hk
    simp only [List.length_nil] at hm
    simp only [dD.l0]
    rw [if_neg (by omega),in_eq]
    simp [zY]
  |cons r rest ih=>
    intro pre all m k hm hn hk
    obtain ⟨k,rfl⟩:=yW hk
    simp only [List.length_cons] at hm hn hk
    simp only [dD.l0]
    rw [if_pos (by omega),if_pos (by omega),if_pos (by simp only [List.length_append,List.length_cons];omega),zV,in_eq,w64 (by omega) (by omega)]
    simp only [Option.bind_some]
    by_cases h:0≤r∧r≤100000
    · rw [if_pos (by simpa using h)]
      have e:=ih (pre++[r]) all m k (by simp only [List.length_append,List.length_cons,List.length_nil];omega) (by simp only [List.length_append,List.length_cons,List.length_nil];omega) (by omega)
      simp only [List.append_assoc,List.cons_append,List.nil_append] at e
      rw [show (pre.length:Int)+1=((pre++[r]).length:Int) from by simp,e]
      simp [zY,h]
    · rw [if_neg (by simpa using h)]
      simp only [zY,List.all_cons,decide_eq_false h,Bool.false_and]
theorem iOidOk_ev (xs:List Int) (h:xs.length≤1099511627776):Ev (fun k=>dD.f k xs) (zO xs):=by
  refine Ev.at_ xs.length fun k hk=>?_
  simp only [dD.f]
  have e:=iOidOk_loop xs [] xs (xs.length:Int) k (by simp) (by simp only [List.length_nil];omega) hk
  simpa [zO] using e

def zD (n:Int):Int:=if n>2147483647 then 2147483647 else if n< -2147483648 then -2147483648 else n
theorem clip_bd (n:Int):-2147483648≤zD n∧zD n≤2147483647:=by
  unfold zD
  split
  · omega
  · split<;>omega
def zB (n:Int):List Int:=
  if -128≤n∧n≤127 then [n % 256]
  else if -32768≤n∧n≤32767 then [n / 256 % 256,n % 256]
  else if -8388608≤n∧n≤8388607 then [n / 65536 % 256,n / 256 % 256,n % 256]
  else [n / 16777216 % 256,n / 65536 % 256,n / 256 % 256,n % 256]
theorem zR (n:Int):(zB n).length≤4:=by
  unfold zB
  split
  · simp
  · split
    · simp
    · split<;>simp

theorem qN (n:Int):cN.f n=some (zD n):=by
  unfold cN.f zD
  split
  · rfl
  · split<;>rfl
theorem xC (k:Nat) (n:Int) (out:List Int) (h0:-128≤n) (h1:n≤127):cJ.l0 (k+1) n out=some out:=by
  simp only [cJ.l0]
  rw [if_neg (by omega),if_neg (by omega)]
theorem vL (k:Nat) (n:Int) (out:List Int) (h:n< -128∨n>127) (ho:out.length<1000):cJ.l0 (k+1) n out=cJ.l0 k (n / 256) ([n / 256 % 256]++out):=by
  simp only [cJ.l0]
  by_cases h0:n< -128
  · rw [if_pos h0]
    simp only [Option.bind_some]
    rw [if_pos (by simp only [List.length_cons,List.length_nil];omega)]
  · rw [if_neg h0,if_pos (by omega)]
    simp only [Option.bind_some]
    rw [if_pos (by simp only [List.length_cons,List.length_nil];omega)]
theorem sPutInt_at (m:Nat) (n:Int) (h0:-2147483648≤n) (h1:n≤2147483647):cJ.l0 (m+4) n [n % 256]=some (zB n):=by
  unfold zB
  by_cases c1:-128≤n∧n≤127
  · rw [if_pos c1,xC _ _ _ c1.1 c1.2]
  · rw [if_neg c1,vL _ _ _ (by omega) (by simp)]
    by_cases c2:-32768≤n∧n≤32767
    · rw [if_pos c2,xC _ _ _ (by omega) (by omega)]
      rfl
    · rw [if_neg c2,vL _ _ _ (by omega) (by simp),show n / 256 / 256=n / 65536 by omega]
      by_cases c3:-8388608≤n∧n≤8388607
      · rw [if_pos c3,xC _ _ _ (by omega) (by omega)]
        rfl
      · rw [if_neg c3,vL _ _ _ (by omega) (by simp),show n / 65536 / 256=n / 16777216 by omega,xC _ _ _ (by omega) (by omega)]
        rfl
theorem xH (n:Int):Ev (fun k=>cJ.f k n) (zB (zD n)):=by
  refine Ev.at_ 4 fun k hk=>?_
  obtain ⟨m,rfl⟩:∃m,k=m+4:=⟨k - 4,by omega⟩
  simp only [cJ.f,qN,Option.bind_some]
  exact sPutInt_at m _ (clip_bd n).1 (clip_bd n).2

theorem iClip_eq (n:Int):mx (-2147483648) (mn n 2147483647)=zD n:=by
  unfold mx mn zD
  split<;>split<;>(try split)<;>omega
theorem qB (k:Nat) (n i:Int) (out:List Int) (s q:Int) (h0:0≤i) (hi:wrap64 (8*i)=s) (hs:0≤s) (hq:shr .i64 n s=q) (ho:out.length<1000):
    bN.l1 (k+1) n out i=bN.l1 k n (out++[q % 256]) (wrap64 (i - 1)):=by
  simp only [bN.l1]
  rw [if_pos h0,hi,if_pos hs,if_pos (by omega),hq]
theorem iPutInt_l1_end (k:Nat) (n:Int) (out:List Int):bN.l1 (k+1) n out (-1)=some out:=by
  simp only [bN.l1]
  rw [if_neg (by omega)]
theorem shr0 (n:Int):shr .i64 n 0=n:=by
  show n / 1=n
  omega
theorem shr8 (n:Int):shr .i64 n 8=n / 256:=rfl
theorem shr16 (n:Int):shr .i64 n 16=n / 65536:=rfl
theorem shr24 (n:Int):shr .i64 n 24=n / 16777216:=rfl
theorem qC (m:Nat) (n:Int):bN.j1 (m+3) n 1=some [n % 256]∧bN.j1 (m+4) n 2=some [n / 256 % 256,n % 256]∧
    bN.j1 (m+5) n 3=some [n / 65536 % 256,n / 256 % 256,n % 256]∧bN.j1 (m+6) n 4=some [n / 16777216 % 256,n / 65536 % 256,n / 256 % 256,n % 256]:=by
  have t1:wrap64 (1 - 1)=0:=by decide+kernel
  have t2:wrap64 (2 - 1)=1:=by decide+kernel
  have t3:wrap64 (3 - 1)=2:=by decide+kernel
  have t4:wrap64 (4 - 1)=3:=by decide+kernel
  have s0:wrap64 (0 - 1)=-1:=by decide+kernel
  have e0:∀k out,out.length<1000→bN.l1 (k+2) n out 0=some (out++[n % 256]):=fun k out ho=>by
    rw [qB (k+1) n 0 out 0 n (by decide+kernel) (by decide+kernel) (by decide+kernel) (shr0 n) ho,s0,iPutInt_l1_end]
  have e1:∀k out,out.length<900→bN.l1 (k+3) n out 1=some (out++[n / 256 % 256]++[n % 256]):=fun k out ho=>by
    rw [qB (k+2) n 1 out 8 _ (by decide+kernel) (by decide+kernel) (by decide+kernel) (shr8 n) (by omega),t1,e0 _ _ (by simp only [List.length_append,List.length_cons,List.length_nil];omega)]
  have e2:∀k out,out.length<800→bN.l1 (k+4) n out 2=some (out++[n / 65536 % 256]++[n / 256 % 256]++[n % 256]):=fun k out ho=>by
    rw [qB (k+3) n 2 out 16 _ (by decide+kernel) (by decide+kernel) (by decide+kernel) (shr16 n) (by omega),t2,e1 _ _ (by simp only [List.length_append,List.length_cons,List.length_nil];omega)]
  have e3:∀k out,out.length<700→bN.l1 (k+5) n out 3=some (out++[n / 16777216 % 256]++[n / 65536 % 256]++[n / 256 % 256]++[n % 256]):=fun k out ho=>by
    rw [qB (k+4) n 3 out 24 _ (by decide+kernel) (by decide+kernel) (by decide+kernel) (shr24 n) (by omega),t3,e2 _ _ (by simp only [List.length_append,List.length_cons,List.length_nil];omega)]
  refine ⟨?_,?_,?_,?_⟩
  · simp only [bN.j1]
    rw [t1,e0 _ _ (by simp)]
    rfl
  · simp only [bN.j1]
    rw [t2,e1 _ _ (by simp)]
    rfl
  · simp only [bN.j1]
    rw [t3,e2 _ _ (by simp)]
    rfl
  · simp only [bN.j1]
    rw [t4,e3 _ _ (by simp)]
    rfl
theorem vR (k:Nat) (n j s lo hi:Int) (h4:j<4) (hs:wrap64 (wrap64 (8*j) - 1)=s) (h0:0≤s) (hl:shl .i64 (-1) s=lo) (hh:wrap64 (shl .i64 1 s - 1)=hi):
    bN.l0 (k+1) n j=if lo≤n∧n≤hi then bN.j1 k n j else bN.l0 k n (wrap64 (j+1)):=by
  simp only [bN.l0]
  rw [if_pos h4,hs,if_pos h0,hl,hh,in_eq]
  simp only [Option.bind_some,decide_eq_true_eq]
theorem vS (n:Int):Ev (fun k=>bN.f k n) (zB (zD n)):=by
  refine Ev.at_ 12 fun k hk=>?_
  obtain ⟨m,rfl⟩:∃m,k=m+12:=⟨k - 12,by omega⟩
  simp only [bN.f]
  rw [iClip_eq]
  generalize zD n=c
  unfold zB
  rw [vR (m+11) c 1 7 (-128) 127 (by decide+kernel) (by decide+kernel) (by decide+kernel) (by decide+kernel) (by decide+kernel)]
  by_cases c1:-128≤c∧c≤127
  · rw [if_pos c1,if_pos c1]
    exact (qC (m+8) c).1
  · rw [if_neg c1,if_neg c1,show wrap64 (1+1)=2 by decide+kernel,vR (m+10) c 2 15 (-32768) 32767 (by decide+kernel) (by decide+kernel) (by decide+kernel) (by decide+kernel) (by decide+kernel)]
    by_cases c2:-32768≤c∧c≤32767
    · rw [if_pos c2,if_pos c2]
      exact (qC (m+6) c).2.1
    · rw [if_neg c2,if_neg c2,show wrap64 (2+1)=3 by decide+kernel,vR (m+9) c 3 23 (-8388608) 8388607 (by decide+kernel) (by decide+kernel) (by decide+kernel) (by decide+kernel) (by decide+kernel)]
      by_cases c3:-8388608≤c∧c≤8388607
      · rw [if_pos c3,if_pos c3]
        exact (qC (m+4) c).2.2.1
      · rw [if_neg c3,if_neg c3,show wrap64 (3+1)=4 by decide+kernel]
        simp only [bN.l0]
        rw [if_neg (by omega)]
        exact (qC (m+2) c).2.2.2

def xJ (n x:Int):Int:=Go.bits .or .i64 (wrap64 (n*256)) (wrap64 x)
def xB:List Int→Int
  |[]=>0
  |b::rest=>rest.foldl xJ (if b>127 then b - 256 else b)
def yP (l:List Int):Int × Bool:=if (1≤(l.length:Int)∧(l.length:Int)≤4) then (if ((zB (zD (xB l))).length:Int)=(l.length:Int) then (xB l,true) else (0,false)) else (0,false)
theorem vZ (rest:List Int):∀(pre:List Int) (n:Int),pre.length+rest.length≤1099511627776→
    Ev (fun k=>cG.l0 k (pre++rest) n (pre.length:Int)) (if ((zB (zD (rest.foldl xJ n))).length:Int)=((pre++rest).length:Int) then (rest.foldl xJ n,true) else (0,false)):=by
  induction rest with
  |nil=>
    intro pre n _
    refine Ev.succ ?_
    simp only [cG.l0]
    simp only [List.append_nil,if_neg (show ¬(pre.length:Int)<(pre.length:Int) by omega),List.foldl_nil]
    refine Ev.bind (xH n) ?_
    split<;>exact Ev.now _
  |cons r rest ih=>
    intro pre n hn
    simp only [List.length_cons] at hn
    have h:=ih (pre++[r]) (xJ n r) (by simp only [List.length_append,List.length_cons,List.length_nil];omega)
    simp only [List.append_assoc,List.cons_append,List.nil_append] at h
    refine Ev.succ ?_
    simp only [cG.l0]
    simp only [if_pos (show (pre.length:Int)<((pre++r::rest).length:Int) by simp only [List.length_append,List.length_cons];omega),if_pos (show (0:Int)≤(pre.length:Int) by omega),zV,w64 (x:=(pre.length:Int)+1) (by omega) (by omega),List.foldl_cons]
    rw [show ((pre++[r]).length:Int)=(pre.length:Int)+1 by simp] at h
    exact h
theorem iGetInt_loop (all:List Int) (rest:List Int):∀(pre:List Int) (n m:Int),m=(pre.length:Int)+rest.length→pre.length+rest.length≤1099511627776→
    Ev (fun k=>dO.l0 k all n (pre++rest) m (pre.length:Int)) (if ((zB (zD (rest.foldl xJ n))).length:Int)=(all.length:Int) then (rest.foldl xJ n,true) else (0,false)):=by
  induction rest with
  |nil=>
    intro pre n m hm _
    simp only [List.length_nil] at hm
    show Ev _ (if ((zB (zD n)).length:Int)=(all.length:Int) then (n,true) else (0,false))
    refine Ev.succ ?_
    simp only [dO.l0]
    simp only [if_neg (show ¬(pre.length:Int)<m by omega)]
    refine Ev.bind (vS n) ?_
    by_cases e:((zB (zD n)).length:Int)=(all.length:Int)
    · simp only [if_pos e]
      exact Ev.now _
    · simp only [if_neg e]
      exact Ev.now _
  |cons r rest ih=>
    intro pre n m hm hn
    simp only [List.length_cons] at hm hn
    have h:=ih (pre++[r]) (xJ n r) m (by simp only [List.length_append,List.length_cons,List.length_nil];omega) (by simp only [List.length_append,List.length_cons,List.length_nil];omega)
    simp only [List.append_assoc,List.cons_append,List.nil_append] at h
    refine Ev.succ ?_
    simp only [dO.l0]
    simp only [if_pos (show (pre.length:Int)<m by omega),if_pos (show (0:Int)≤(pre.length:Int) by omega),if_pos (show (pre.length:Int)<((pre++r::rest).length:Int) by simp only [List.length_append,List.length_cons];omega),zV,w64 (x:=(pre.length:Int)+1) (by omega) (by omega),List.foldl_cons]
    rw [show ((pre++[r]).length:Int)=(pre.length:Int)+1 by simp] at h
    exact h
theorem wrap8 {b:Int} (h0:0≤b) (h1:b≤255):IntKind.i8.wrap b=if b>127 then b - 256 else b:=by
  simp only [IntKind.wrap,IntKind.bits,IntKind.signed,Bool.true_and]
  split<;>split<;>simp_all<;>omega
theorem sGetInt_ev (l:List Int) (hb:∀y ∈ l,0≤y∧y≤255) (h:l.length≤1048576):Ev (fun k=>cG.f k l) (yP l):=by
  unfold cG.f yP
  simp only [uF,Option.bind_some,decide_eq_true_eq]
  by_cases c:1≤(l.length:Int)∧(l.length:Int)≤4
  · simp only [if_pos c,if_pos (show 0<(l.length:Int) by omega)]
    cases l with
    |nil=>simp at c
    |cons b rest=>
      obtain ⟨h0,h1⟩:=hb b List.mem_cons_self
      have e1:rd (b::rest) 0=b:=zV [] rest b
      simp only [List.length_cons] at h
      simp only [e1,w64 (x:=b) (by omega) (by omega),w64 (x:=b - 256) (by omega) (by omega),xB]
      by_cases d:b>127
      · simp only [if_pos d]
        refine Ev.succ ?_
        simp only [cG.j0]
        have e:=vZ rest [b] (b - 256) (by simp only [List.length_cons,List.length_nil];omega)
        simpa using e
      · simp only [if_neg d]
        refine Ev.succ ?_
        simp only [cG.j0]
        have e:=vZ rest [b] b (by simp only [List.length_cons,List.length_nil];omega)
        simpa using e
  · simp only [if_neg c]
    exact Ev.now _
theorem qD (l:List Int) (hb:∀y ∈ l,0≤y∧y≤255) (h:l.length≤1048576):Ev (fun k=>dO.f k l) (yP l):=by
  unfold dO.f yP
  simp only [in_eq,Option.bind_some,decide_eq_true_eq]
  by_cases c:1≤(l.length:Int)∧(l.length:Int)≤4
  · simp only [if_pos c,if_pos (show 0<(l.length:Int) by omega),if_pos (show 1≤(l.length:Int) by omega)]
    cases l with
    |nil=>simp at c
    |cons b rest=>
      obtain ⟨h0,h1⟩:=hb b List.mem_cons_self
      have e1:rd (b::rest) 0=b:=zV [] rest b
      simp only [List.length_cons] at h
      have hw:wrap64 (if b>127 then b - 256 else b)=if b>127 then b - 256 else b:=by split<;>exact w64 (by omega) (by omega)
      simp only [e1,wrap8 h0 h1,hw,xB,List.drop_succ_cons,List.drop_zero]
      have e:=iGetInt_loop (b::rest) rest [] (if b>127 then b - 256 else b) (rest.length:Int) (by simp) (by simp only [List.length_nil];omega)
      simpa using e
  · simp only [if_neg c]
    exact Ev.now _

theorem wraps_i64 (n:Int) (h0:0≤n) (h1:n<2 ^ 63):IntKind.i64.wrap n=n:=by rw [IntKind.wrap_i64];omega
theorem yV (x:Int) (h0:0≤x) (h1:x<9223372036854775808):Go.bits .and .i64 x 127=x % 128:=
  Go.bits_mask .i64 63 (by decide) wraps_i64 7 (by decide) x h0 h1
theorem or128 (y:Int) (h0:0≤y) (h1:y<128):Go.bits .or .i64 y 128=y+128:=by
  obtain ⟨b,rfl⟩:=Int.eq_ofNat_of_zero_le h0
  have hb:b<2 ^ 7:=by omega
  have e:=(Go.bits_nat .i64 63 (by decide) wraps_i64 b 128 (by omega) (by decide)).2
  rw [show (128:Int)=((128:Nat):Int) from rfl,e,Nat.or_comm]
  have h:=Nat.two_pow_add_eq_or_of_lt hb 1
  rw [show (2:Nat) ^ 7*1=128 from rfl] at h
  rw [← h]
  omega
def zL (n:Int):List Int:=
  if n≤127 then [n] else if n≤16383 then [n / 128+128,n % 128] else [n / 16384+128,n / 128 % 128+128,n % 128]
theorem yU (n:Int):1≤(zL n).length∧(zL n).length≤3:=by
  unfold zL
  split
  · simp
  · split<;>simp
def zF (o:List Int):List Int:=if zO o=true then o.flatMap zL else []
theorem flat_len (o:List Int):(o.flatMap zL).length≤3*o.length:=by
  induction o with
  |nil=>simp
  |cons n o ih=>
    have:=yU n
    simp only [List.flatMap_cons,List.length_append,List.length_cons]
    omega
theorem yE (o:List Int):(zF o).length≤30:=by
  unfold zF
  split
  · rename_i h
    have h1:=flat_len o
    simp only [zO,Bool.and_eq_true,decide_eq_true_eq] at h
    omega
  · simp
theorem xD (n:Int) (o:List Int) (h:zY (n::o)=true):(0≤n∧n≤100000)∧zY o=true:=by
  simp only [zY,List.all_cons,Bool.and_eq_true,decide_eq_true_eq] at h
  exact h

theorem sGroup_ev (n:Int) (h0:0≤n) (h1:n≤100000):Ev (fun k=>dF.f k n) (zL n):=by
  unfold dF.f
  simp only [yV n h0 (by omega),show n % 128 % 256=n % 128 by omega]
  refine Ev.succ ?_
  simp only [dF.l0]
  unfold zL
  by_cases c1:n≤127
  · simp only [if_neg (show ¬n>127 by omega),if_pos c1,show n % 128=n by omega]
    exact Ev.now _
  · simp only [if_pos (show n>127 by omega),if_neg c1,Option.bind_some,List.length_cons,List.length_nil,yV (n / 128) (by omega) (by omega),or128 (n / 128 % 128) (by omega) (by omega),show (n / 128 % 128+128) % 256=n / 128 % 128+128 by omega]
    simp only [if_pos (show 0+1+(0+1)<140737488355328 by omega)]
    refine Ev.succ ?_
    simp only [dF.l0]
    by_cases c2:n≤16383
    · simp only [if_neg (show ¬n / 128>127 by omega),if_pos c2,show n / 128 % 128=n / 128 by omega]
      exact Ev.now _
    · simp only [if_pos (show n / 128>127 by omega),if_neg c2,Option.bind_some,List.length_cons,List.length_nil,List.length_append,show n / 128 / 128=n / 16384 by omega,yV (n / 16384) (by omega) (by omega),or128 (n / 16384 % 128) (by omega) (by omega),show (n / 16384 % 128+128) % 256=n / 16384+128 by omega]
      simp only [if_pos (show 0+1+(0+1+(0+1))<140737488355328 by omega)]
      refine Ev.succ ?_
      simp only [dF.l0]
      simp only [if_neg (show ¬n / 16384>127 by omega)]
      exact Ev.now _
theorem sPutOid_loop (rest:List Int):∀(pre out:List Int),pre.length+rest.length≤1048576→out.length≤3*pre.length→zY rest=true→
    Ev (fun k=>dU.l0 k (pre++rest) out (pre.length:Int)) (out++rest.flatMap zL):=by
  induction rest with
  |nil=>
    intro pre out _ _ _
    refine Ev.succ ?_
    simp only [dU.l0]
    simp only [List.append_nil,if_neg (show ¬(pre.length:Int)<(pre.length:Int) by omega),List.flatMap_nil]
    exact Ev.now _
  |cons r rest ih=>
    intro pre out hn ho hw
    simp only [List.length_cons] at hn
    obtain ⟨hr,hw⟩:=xD r rest hw
    have hg:=yU r
    have h:=ih (pre++[r]) (out++zL r) (by simp only [List.length_append,List.length_cons,List.length_nil];omega) (by simp only [List.length_append,List.length_cons,List.length_nil];omega) hw
    simp only [List.append_assoc,List.cons_append,List.nil_append] at h
    rw [show ((pre++[r]).length:Int)=(pre.length:Int)+1 by simp] at h
    refine Ev.succ ?_
    simp only [dU.l0]
    simp only [if_pos (show (pre.length:Int)<((pre++r::rest).length:Int) by simp only [List.length_append,List.length_cons];omega),if_pos (show (0:Int)≤(pre.length:Int) by omega),zV,w64 (x:=(pre.length:Int)+1) (by omega) (by omega)]
    refine Ev.bind (sGroup_ev r hr.1 hr.2) ?_
    simp only [if_pos (show out.length+(zL r).length<140737488355328 by omega),List.flatMap_cons]
    exact h
theorem sPutOid_ev (o:List Int) (h:o.length≤1048576):Ev (fun k=>dU.f k o) (zF o):=by
  unfold dU.f zF
  simp only [Option.bind_some]
  refine Ev.bind (qW o (by omega)) ?_
  by_cases c:zO o=true
  · simp only [if_pos c]
    have c':=c
    simp only [zO,Bool.and_eq_true] at c'
    have e:=sPutOid_loop o [] [] (by simp only [List.length_nil];omega) (by simp) c'.1
    simpa using e
  · simp only [if_neg c]
    exact Ev.now _

theorem shr7 (n:Int):shr .i64 n 7=n / 128:=rfl
theorem shr14 (n:Int):shr .i64 n 14=n / 16384:=rfl
theorem shrz (n:Int):shr .i64 n 0=n:=by
  show n / 1=n
  omega
theorem iGroup_ev (n:Int) (h0:0≤n) (h1:n≤100000) (out xs:List Int) (m i:Int) (r:List Int) (ho:out.length≤100000000) (h:Ev (fun k=>bV.l0 k (out++zL n) xs m (wrap64 (i+1))) r):
    Ev (fun k=>bV.l1 k out n 0 xs m i) r:=by
  have a0:wrap64 (7*0)=0:=by decide+kernel
  have a1:wrap64 (7*1)=7:=by decide+kernel
  have a2:wrap64 (7*2)=14:=by decide+kernel
  have b1:wrap64 (0+1)=1:=by decide+kernel
  have b2:wrap64 (1+1)=2:=by decide+kernel
  have d1:wrap64 (1 - 1)=0:=by decide+kernel
  have d2:wrap64 (2 - 1)=1:=by decide+kernel
  have z:(0:Int)≤0:=by decide
  have z7:(0:Int)≤7:=by decide
  have z14:(0:Int)≤14:=by decide
  unfold zL at h
  refine Ev.succ ?_
  simp only [bV.l1]
  simp only [a0,shrz,if_pos z,b1]
  by_cases c1:n≤127
  · simp only [if_neg (show ¬n>127 by omega)]
    simp only [if_pos c1] at h
    refine Ev.succ ?_
    simp only [bV.l2]
    simp only [if_neg (show ¬(0:Int)>0 by omega),if_pos (show out.length<140737488355328 by omega),yV n h0 (by omega),show n % 128 % 256=n by omega]
    exact h
  · simp only [if_pos (show n>127 by omega)]
    simp only [if_neg c1] at h
    refine Ev.succ ?_
    simp only [bV.l1]
    simp only [a1,shr7,if_pos z7,b2]
    by_cases c2:n≤16383
    · simp only [if_neg (show ¬n / 128>127 by omega)]
      simp only [if_pos c2] at h
      refine Ev.succ ?_
      simp only [bV.l2]
      simp only [if_pos (show (1:Int)>0 by omega),a1,if_pos z7,shr7,if_pos (show out.length<140737488355328 by omega),d1,yV (n / 128) (by omega) (by omega)]
      rw [w64 (by omega) (by omega),show (n / 128 % 128+128) % 256=n / 128+128 by omega]
      refine Ev.succ ?_
      simp only [bV.l2]
      simp only [if_neg (show ¬(0:Int)>0 by omega),List.length_append,List.length_cons,List.length_nil,if_pos (show out.length+(0+1)<140737488355328 by omega),yV n h0 (by omega),show n % 128 % 256=n % 128 by omega,List.append_assoc,List.cons_append,List.nil_append]
      exact h
    · simp only [if_pos (show n / 128>127 by omega)]
      simp only [if_neg c2] at h
      refine Ev.succ ?_
      simp only [bV.l1]
      simp only [a2,shr14,if_pos z14,if_neg (show ¬n / 16384>127 by omega)]
      refine Ev.succ ?_
      simp only [bV.l2]
      simp only [if_pos (show (2:Int)>0 by omega),a2,if_pos z14,shr14,if_pos (show out.length<140737488355328 by omega),d2,yV (n / 16384) (by omega) (by omega)]
      rw [w64 (by omega) (by omega),show (n / 16384 % 128+128) % 256=n / 16384+128 by omega]
      refine Ev.succ ?_
      simp only [bV.l2]
      simp only [if_pos (show (1:Int)>0 by omega),a1,if_pos z7,shr7,List.length_append,List.length_cons,List.length_nil,if_pos (show out.length+(0+1)<140737488355328 by omega),d1,yV (n / 128) (by omega) (by omega)]
      rw [w64 (by omega) (by omega),show (n / 128 % 128+128) % 256=n / 128 % 128+128 by omega]
      refine Ev.succ ?_
      simp only [bV.l2]
      simp only [if_neg (show ¬(0:Int)>0 by omega),List.length_append,List.length_cons,List.length_nil,if_pos (show out.length+(0+1)+(0+1)<140737488355328 by omega),yV n h0 (by omega),show n % 128 % 256=n % 128 by omega,List.append_assoc,List.cons_append,List.nil_append]
      exact h
theorem iPutOid_loop (rest:List Int):∀(pre out:List Int) (m:Int),m=(pre.length:Int)+rest.length→pre.length+rest.length≤1048576→out.length≤3*pre.length→zY rest=true→
    Ev (fun k=>bV.l0 k out (pre++rest) m (pre.length:Int)) (out++rest.flatMap zL):=by
  induction rest with
  |nil=>
    intro pre out m hm _ _ _
    simp only [List.length_nil] at hm
    refine Ev.succ ?_
    simp only [bV.l0]
    simp only [if_neg (show ¬(pre.length:Int)<m by omega),List.flatMap_nil,List.append_nil]
    exact Ev.now _
  |cons r rest ih=>
    intro pre out m hm hn ho hw
    simp only [List.length_cons] at hm hn
    obtain ⟨hr,hw⟩:=xD r rest hw
    have hg:=yU r
    have h:=ih (pre++[r]) (out++zL r) m (by simp only [List.length_append,List.length_cons,List.length_nil];omega) (by simp only [List.length_append,List.length_cons,List.length_nil];omega) (by simp only [List.length_append,List.length_cons,List.length_nil];omega) hw
    simp only [List.append_assoc,List.cons_append,List.nil_append] at h
    rw [show ((pre++[r]).length:Int)=(pre.length:Int)+1 by simp] at h
    refine Ev.succ ?_
    simp only [bV.l0]
    simp only [if_pos (show (pre.length:Int)<m by omega),if_pos (show (0:Int)≤(pre.length:Int) by omega),if_pos (show (pre.length:Int)<((pre++r::rest).length:Int) by simp only [List.length_append,List.length_cons];omega),zV]
    refine iGroup_ev r hr.1 hr.2 out _ m _ _ (by omega) ?_
    rw [w64 (by omega) (by omega),List.flatMap_cons]
    exact h
theorem vQ (o:List Int) (h:o.length≤1048576):Ev (fun k=>bV.f k o) (zF o):=by
  unfold bV.f zF
  refine Ev.bind (iOidOk_ev o (by omega)) ?_
  by_cases c:zO o=true
  · simp only [if_pos c]
    have c':=c
    simp only [zO,Bool.and_eq_true] at c'
    have e:=iPutOid_loop o [] [] (o.length:Int) (by simp) (by simp only [List.length_nil];omega) (by simp) c'.1
    simpa using e
  · simp only [if_neg c]
    exact Ev.now _

theorem qM (a:List Int):(strOfNums a).toList=a.map fun n=>UInt8.ofNat n.toNat:=by
  unfold strOfNums
  exact ByteArray.toList_mk _
theorem byte_inj (a b:Int) (ha:0≤a∧a≤255) (hb:0≤b∧b≤255) (h:UInt8.ofNat a.toNat=UInt8.ofNat b.toNat):a=b:=by
  have e:=congrArg UInt8.toNat h
  simp only [UInt8.toNat_ofNat'] at e
  omega
theorem uE:∀(a b:List Int),(∀y ∈ a,0≤y∧y≤255)→(∀y ∈ b,0≤y∧y≤255)→(a.map fun n=>UInt8.ofNat n.toNat)=(b.map fun n=>UInt8.ofNat n.toNat)→a=b
  |[],[],_,_,_=>rfl
  |[],_::_,_,_,h=>by simp at h
  |_::_,[],_,_,h=>by simp at h
  |x::a,y::b,ha,hb,h=>by
    simp only [List.map_cons,List.cons.injEq] at h
    rw [byte_inj x y (ha x List.mem_cons_self) (hb y List.mem_cons_self) h.1,uE a b (fun z hz=>ha z (List.mem_cons_of_mem _ hz)) (fun z hz=>hb z (List.mem_cons_of_mem _ hz)) h.2]
theorem strNums_inj (a b:List Int) (ha:∀y ∈ a,0≤y∧y≤255) (hb:∀y ∈ b,0≤y∧y≤255) (h:(strOfNums a).toList=(strOfNums b).toList):a=b:=by
  rw [qM,qM] at h
  exact uE a b ha hb h

theorem wraps_u8 (n:Int) (h0:0≤n) (h1:n<2 ^ 8):IntKind.u8.wrap n=n:=by
  simp only [IntKind.wrap,IntKind.bits,IntKind.signed,Bool.false_and]
  simp
  omega
theorem and127b (x:Int) (h0:0≤x) (h1:x≤255):Go.bits .and .u8 x 127=x % 128:=
  Go.bits_mask .u8 8 (by decide) wraps_u8 7 (by decide) x h0 (by omega)
theorem join7 (n b:Int) (h0:0≤n) (h1:n<4398046511104) (hb:0≤b) (hb1:b<128):Go.bits .or .i64 (n*128) b=n*128+b:=
  Go.bits_join .i64 63 (by decide) wraps_i64 7 (n*128) b (by omega) (by omega) (by omega) hb (by omega) (by omega)
def bytes (l:List Int):Prop:=∀y ∈ l,0≤y∧y≤255
theorem qG {b:Int} {l:List Int} (h:bytes (b::l)):(0≤b∧b≤255)∧bytes l:=
  ⟨h b List.mem_cons_self,fun y hy=>h y (List.mem_cons_of_mem _ hy)⟩
def zM (n:Int):List Int:=
  if n≤127 then [n] else if n≤16383 then [n / 128+128,n % 128] else if n≤2097151 then [n / 16384+128,n / 128 % 128+128,n % 128] else [n / 2097152+128,n / 16384 % 128+128,n / 128 % 128+128,n % 128]
theorem qE (n:Int) (h:n≤100000):zM n=zL n:=by
  unfold zM zL
  by_cases c1:n≤127
  · simp only [if_pos c1]
  · simp only [if_neg c1]
    by_cases c2:n≤16383
    · simp only [if_pos c2]
    · simp only [if_neg c2,if_pos (show n≤2097151 by omega)]
theorem sGroup4_ev (n:Int) (h0:0≤n) (h1:n<268435456):Ev (fun k=>dF.f k n) (zM n):=by
  unfold dF.f
  simp only [yV n h0 (by omega),show n % 128 % 256=n % 128 by omega]
  refine Ev.succ ?_
  simp only [dF.l0]
  unfold zM
  by_cases c1:n≤127
  · simp only [if_neg (show ¬n>127 by omega),if_pos c1,show n % 128=n by omega]
    exact Ev.now _
  · simp only [if_pos (show n>127 by omega),if_neg c1,Option.bind_some,List.length_cons,List.length_nil,yV (n / 128) (by omega) (by omega),or128 (n / 128 % 128) (by omega) (by omega),show (n / 128 % 128+128) % 256=n / 128 % 128+128 by omega]
    simp only [if_pos (show 0+1+(0+1)<140737488355328 by omega)]
    refine Ev.succ ?_
    simp only [dF.l0]
    by_cases c2:n≤16383
    · simp only [if_neg (show ¬n / 128>127 by omega),if_pos c2,show n / 128 % 128=n / 128 by omega]
      exact Ev.now _
    · simp only [if_pos (show n / 128>127 by omega),if_neg c2,Option.bind_some,List.length_cons,List.length_nil,List.length_append,show n / 128 / 128=n / 16384 by omega,yV (n / 16384) (by omega) (by omega),or128 (n / 16384 % 128) (by omega) (by omega),show (n / 16384 % 128+128) % 256=n / 16384 % 128+128 by omega]
      simp only [if_pos (show 0+1+(0+1+(0+1))<140737488355328 by omega)]
      refine Ev.succ ?_
      simp only [dF.l0]
      by_cases c3:n≤2097151
      · simp only [if_neg (show ¬n / 16384>127 by omega),if_pos c3,show n / 16384 % 128=n / 16384 by omega]
        exact Ev.now _
      · simp only [if_pos (show n / 16384>127 by omega),if_neg c3,Option.bind_some,List.length_cons,List.length_nil,List.length_append,show n / 16384 / 128=n / 2097152 by omega,yV (n / 2097152) (by omega) (by omega),or128 (n / 2097152 % 128) (by omega) (by omega),show (n / 2097152 % 128+128) % 256=n / 2097152+128 by omega]
        simp only [if_pos (show 0+1+(0+1+(0+1+(0+1)))<140737488355328 by omega)]
        refine Ev.succ ?_
        simp only [dF.l0]
        simp only [if_neg (show ¬n / 2097152>127 by omega)]
        exact Ev.now _
theorem g4_len (n:Int):1≤(zM n).length:=by
  unfold zM
  split
  · simp
  · split
    · simp
    · split<;>simp
theorem zP (pre rest x4:List Int) (b n c:Int) (r:List Int × Bool) (hp:pre.length+rest.length≤1048576) (hb:0≤b∧b≤255) (hn:0≤n∧n<2097152) (hc:0≤c∧c<4)
    (h:Ev (fun k=>bO.l1 k ((pre++[b])++rest) x4 ((pre++[b]).length:Int) (n*128+b % 128) (c+1) (decide (b>127))) r):
    Ev (fun k=>bO.l1 k (pre++b::rest) x4 (pre.length:Int) n c true) r:=by
  refine Ev.succ ?_
  simp only [bO.l1]
  simp only [if_true,if_pos (show (pre.length:Int)<((pre++b::rest).length:Int) by simp only [List.length_append,List.length_cons];omega),if_pos hc.2,if_pos (show (0:Int)≤(pre.length:Int) by omega),zV,and127b b hb.1 hb.2,w64 (x:=b % 128) (by omega) (by omega),w64 (x:=n*128) (by omega) (by omega),join7 n (b % 128) hn.1 (by omega) (by omega) (by omega),w64 (x:=(pre.length:Int)+1) (by omega) (by omega),w64 (x:=c+1) (by omega) (by omega)]
  simp only [List.append_assoc,List.cons_append,List.nil_append] at h
  rw [show ((pre++[b]).length:Int)=(pre.length:Int)+1 by simp] at h
  exact h
theorem so_end (pre x4:List Int) (n c:Int):Ev (fun k=>bO.l1 k (pre++[]) x4 (pre.length:Int) n c true) ([],false):=by
  refine Ev.succ ?_
  simp only [bO.l1]
  simp only [if_true,List.append_nil,if_neg (show ¬(pre.length:Int)<(pre.length:Int) by omega)]
  exact Ev.now _
theorem so_full (l x4:List Int) (p n:Int):Ev (fun k=>bO.l1 k l x4 p n 4 true) ([],false):=by
  refine Ev.succ ?_
  simp only [bO.l1]
  simp only [if_true,if_neg (show ¬(4:Int)<4 by omega),ite_self]
  exact Ev.now _
theorem vJ (l x4:List Int) (p n c:Int) (r:List Int × Bool) (hn:0≤n∧n<268435456) (h4:x4.length≤1048576) (hc:((zM n).length:Int)=c) (h:Ev (fun k=>bO.l0 k l (x4++[n]) p) r):
    Ev (fun k=>bO.l1 k l x4 p n c false) r:=by
  refine Ev.succ ?_
  simp only [bO.l1]
  simp only [Bool.false_eq_true,if_false]
  refine Ev.bind (sGroup4_ev n hn.1 hn.2) ?_
  simp only [if_pos hc,if_pos (show x4.length<17592186044416 by omega)]
  exact h
theorem so_bad (l x4:List Int) (p n c:Int) (hn:0≤n∧n<268435456) (hc:¬((zM n).length:Int)=c):
    Ev (fun k=>bO.l1 k l x4 p n c false) ([],false):=by
  refine Ev.succ ?_
  simp only [bO.l1]
  simp only [Bool.false_eq_true,if_false]
  refine Ev.bind (sGroup4_ev n hn.1 hn.2) ?_
  simp only [if_neg hc]
  exact Ev.now _
theorem g4_1 (n:Int) (h:n≤127):zM n=[n]:=by unfold zM;rw [if_pos h]
theorem g4_2 (n:Int) (h0:127<n) (h:n≤16383):zM n=[n / 128+128,n % 128]:=by unfold zM;rw [if_neg (by omega),if_pos h]
theorem g4_3 (n:Int) (h0:16383<n) (h:n≤2097151):zM n=[n / 16384+128,n / 128 % 128+128,n % 128]:=by unfold zM;rw [if_neg (by omega),if_neg (by omega),if_pos h]
theorem g4_4 (n:Int) (h0:2097151<n):zM n=[n / 2097152+128,n / 16384 % 128+128,n / 128 % 128+128,n % 128]:=by unfold zM;rw [if_neg (by omega),if_neg (by omega),if_neg (by omega)]
/- one arc out of what is left: either the bytes are an arc's shortest form and the loop goes on behind them, or the answer is no -/
theorem so_any (rest pre x4:List Int) (hw:bytes rest) (hl:pre.length+rest.length≤1048576) (h4:x4.length≤1048576):
    (∃n rest',0≤n∧n<268435456∧rest=zM n++rest'∧∀r,Ev (fun k=>bO.l0 k ((pre++zM n)++rest') (x4++[n]) ((pre++zM n).length:Int)) r→Ev (fun k=>bO.l1 k (pre++rest) x4 (pre.length:Int) 0 0 true) r)∨
    Ev (fun k=>bO.l1 k (pre++rest) x4 (pre.length:Int) 0 0 true) ([],false):=by
  rcases rest with _|⟨b1,rest⟩
  · exact Or.inr (so_end pre x4 0 0)
  obtain ⟨hb1,hw⟩:=qG hw
  simp only [List.length_cons] at hl
  by_cases c1:b1>127
  rotate_left
  · left
    refine ⟨b1,rest,hb1.1,by omega,by rw [g4_1 b1 (by omega)];rfl,fun r h=>?_⟩
    refine zP pre rest x4 b1 0 0 r (by omega) hb1 (by omega) (by omega) ?_
    rw [decide_eq_false c1,show (0:Int)*128+b1 % 128=b1 by omega,show (0:Int)+1=1 by omega]
    rw [g4_1 b1 (by omega)] at h
    exact vJ _ x4 _ b1 1 r (by omega) h4 (by rw [g4_1 b1 (by omega)];rfl) h
  rcases rest with _|⟨b2,rest⟩
  · right
    refine zP pre [] x4 b1 0 0 _ (by simp only [List.length_nil];omega) hb1 (by omega) (by omega) ?_
    rw [decide_eq_true c1]
    exact so_end _ x4 _ _
  obtain ⟨hb2,hw⟩:=qG hw
  simp only [List.length_cons] at hl
  have p1:(pre++[b1]).length=pre.length+1:=by simp
  by_cases c2:b2>127
  rotate_left
  · by_cases d:(b1 - 128)*128+b2>127
    · left
      have g:=g4_2 ((b1 - 128)*128+b2) (by omega) (by omega)
      rw [show ((b1 - 128)*128+b2) / 128+128=b1 by omega,show ((b1 - 128)*128+b2) % 128=b2 by omega] at g
      refine ⟨(b1 - 128)*128+b2,rest,by omega,by omega,by rw [g];rfl,fun r h=>?_⟩
      refine zP pre (b2::rest) x4 b1 0 0 r (by simp only [List.length_cons];omega) hb1 (by omega) (by omega) ?_
      rw [decide_eq_true c1]
      refine zP (pre++[b1]) rest x4 b2 _ _ r (by omega) hb2 (by omega) (by omega) ?_
      rw [decide_eq_false c2,show ((0:Int)*128+b1 % 128)*128+b2 % 128=(b1 - 128)*128+b2 by omega,show (0:Int)+1+1=2 by omega]
      rw [g,show pre++[b1,b2]=pre++[b1]++[b2] by simp] at h
      exact vJ _ x4 _ _ 2 r (by omega) h4 (by rw [g];rfl) h
    · right
      refine zP pre (b2::rest) x4 b1 0 0 _ (by simp only [List.length_cons];omega) hb1 (by omega) (by omega) ?_
      rw [decide_eq_true c1]
      refine zP (pre++[b1]) rest x4 b2 _ _ _ (by omega) hb2 (by omega) (by omega) ?_
      rw [decide_eq_false c2]
      refine so_bad _ x4 _ _ _ (by omega) ?_
      rw [g4_1 _ (by omega)]
      simp
  rcases rest with _|⟨b3,rest⟩
  · right
    refine zP pre [b2] x4 b1 0 0 _ (by simp only [List.length_cons,List.length_nil];omega) hb1 (by omega) (by omega) ?_
    rw [decide_eq_true c1]
    refine zP (pre++[b1]) [] x4 b2 _ _ _ (by simp only [List.length_nil];omega) hb2 (by omega) (by omega) ?_
    rw [decide_eq_true c2]
    exact so_end _ x4 _ _
  obtain ⟨hb3,hw⟩:=qG hw
  simp only [List.length_cons] at hl
  have p2:(pre++[b1]++[b2]).length=pre.length+2:=by simp
  by_cases c3:b3>127
  rotate_left
  · by_cases d:((b1 - 128)*128+(b2 - 128))*128+b3>16383
    · left
      have g:=g4_3 (((b1 - 128)*128+(b2 - 128))*128+b3) (by omega) (by omega)
      rw [show (((b1 - 128)*128+(b2 - 128))*128+b3) / 16384+128=b1 by omega,show (((b1 - 128)*128+(b2 - 128))*128+b3) / 128 % 128+128=b2 by omega,show (((b1 - 128)*128+(b2 - 128))*128+b3) % 128=b3 by omega] at g
      refine ⟨((b1 - 128)*128+(b2 - 128))*128+b3,rest,by omega,by omega,by rw [g];rfl,fun r h=>?_⟩
      refine zP pre (b2::b3::rest) x4 b1 0 0 r (by simp only [List.length_cons];omega) hb1 (by omega) (by omega) ?_
      rw [decide_eq_true c1]
      refine zP (pre++[b1]) (b3::rest) x4 b2 _ _ r (by simp only [List.length_cons];omega) hb2 (by omega) (by omega) ?_
      rw [decide_eq_true c2]
      refine zP (pre++[b1]++[b2]) rest x4 b3 _ _ r (by omega) hb3 (by omega) (by omega) ?_
      rw [decide_eq_false c3,show (((0:Int)*128+b1 % 128)*128+b2 % 128)*128+b3 % 128=((b1 - 128)*128+(b2 - 128))*128+b3 by omega,show (0:Int)+1+1+1=3 by omega]
      rw [g,show pre++[b1,b2,b3]=pre++[b1]++[b2]++[b3] by simp] at h
      exact vJ _ x4 _ _ 3 r (by omega) h4 (by rw [g];rfl) h
    · right
      refine zP pre (b2::b3::rest) x4 b1 0 0 _ (by simp only [List.length_cons];omega) hb1 (by omega) (by omega) ?_
      rw [decide_eq_true c1]
      refine zP (pre++[b1]) (b3::rest) x4 b2 _ _ _ (by simp only [List.length_cons];omega) hb2 (by omega) (by omega) ?_
      rw [decide_eq_true c2]
      refine zP (pre++[b1]++[b2]) rest x4 b3 _ _ _ (by omega) hb3 (by omega) (by omega) ?_
      rw [decide_eq_false c3]
      refine so_bad _ x4 _ _ _ (by omega) ?_
      by_cases e:(((0:Int)*128+b1 % 128)*128+b2 % 128)*128+b3 % 128≤127
      · rw [g4_1 _ e];simp
      · rw [g4_2 _ (by omega) (by omega)];simp
  rcases rest with _|⟨b4,rest⟩
  · right
    refine zP pre [b2,b3] x4 b1 0 0 _ (by simp only [List.length_cons,List.length_nil];omega) hb1 (by omega) (by omega) ?_
    rw [decide_eq_true c1]
    refine zP (pre++[b1]) [b3] x4 b2 _ _ _ (by simp only [List.length_cons,List.length_nil];omega) hb2 (by omega) (by omega) ?_
    rw [decide_eq_true c2]
    refine zP (pre++[b1]++[b2]) [] x4 b3 _ _ _ (by simp only [List.length_nil];omega) hb3 (by omega) (by omega) ?_
    rw [decide_eq_true c3]
    exact so_end _ x4 _ _
  obtain ⟨hb4,hw⟩:=qG hw
  simp only [List.length_cons] at hl
  have p3:(pre++[b1]++[b2]++[b3]).length=pre.length+3:=by simp
  by_cases c4:b4>127
  rotate_left
  · by_cases d:(((b1 - 128)*128+(b2 - 128))*128+(b3 - 128))*128+b4>2097151
    · left
      have g:=g4_4 ((((b1 - 128)*128+(b2 - 128))*128+(b3 - 128))*128+b4) (by omega)
      rw [show ((((b1 - 128)*128+(b2 - 128))*128+(b3 - 128))*128+b4) / 2097152+128=b1 by omega,show ((((b1 - 128)*128+(b2 - 128))*128+(b3 - 128))*128+b4) / 16384 % 128+128=b2 by omega,show ((((b1 - 128)*128+(b2 - 128))*128+(b3 - 128))*128+b4) / 128 % 128+128=b3 by omega,show ((((b1 - 128)*128+(b2 - 128))*128+(b3 - 128))*128+b4) % 128=b4 by omega] at g
      refine ⟨(((b1 - 128)*128+(b2 - 128))*128+(b3 - 128))*128+b4,rest,by omega,by omega,by rw [g];rfl,fun r h=>?_⟩
      refine zP pre (b2::b3::b4::rest) x4 b1 0 0 r (by simp only [List.length_cons];omega) hb1 (by omega) (by omega) ?_
      rw [decide_eq_true c1]
      refine zP (pre++[b1]) (b3::b4::rest) x4 b2 _ _ r (by simp only [List.length_cons];omega) hb2 (by omega) (by omega) ?_
      rw [decide_eq_true c2]
      refine zP (pre++[b1]++[b2]) (b4::rest) x4 b3 _ _ r (by simp only [List.length_cons];omega) hb3 (by omega) (by omega) ?_
      rw [decide_eq_true c3]
      refine zP (pre++[b1]++[b2]++[b3]) rest x4 b4 _ _ r (by omega) hb4 (by omega) (by omega) ?_
      rw [decide_eq_false c4,show ((((0:Int)*128+b1 % 128)*128+b2 % 128)*128+b3 % 128)*128+b4 % 128=(((b1 - 128)*128+(b2 - 128))*128+(b3 - 128))*128+b4 by omega,show (0:Int)+1+1+1+1=4 by omega]
      rw [g,show pre++[b1,b2,b3,b4]=pre++[b1]++[b2]++[b3]++[b4] by simp] at h
      exact vJ _ x4 _ _ 4 r (by omega) h4 (by rw [g];rfl) h
    · right
      refine zP pre (b2::b3::b4::rest) x4 b1 0 0 _ (by simp only [List.length_cons];omega) hb1 (by omega) (by omega) ?_
      rw [decide_eq_true c1]
      refine zP (pre++[b1]) (b3::b4::rest) x4 b2 _ _ _ (by simp only [List.length_cons];omega) hb2 (by omega) (by omega) ?_
      rw [decide_eq_true c2]
      refine zP (pre++[b1]++[b2]) (b4::rest) x4 b3 _ _ _ (by simp only [List.length_cons];omega) hb3 (by omega) (by omega) ?_
      rw [decide_eq_true c3]
      refine zP (pre++[b1]++[b2]++[b3]) rest x4 b4 _ _ _ (by omega) hb4 (by omega) (by omega) ?_
      rw [decide_eq_false c4]
      refine so_bad _ x4 _ _ _ (by omega) ?_
      by_cases e:((((0:Int)*128+b1 % 128)*128+b2 % 128)*128+b3 % 128)*128+b4 % 128≤127
      · rw [g4_1 _ e];simp
      · by_cases e2:((((0:Int)*128+b1 % 128)*128+b2 % 128)*128+b3 % 128)*128+b4 % 128≤16383
        · rw [g4_2 _ (by omega) e2];simp
        · rw [g4_3 _ (by omega) (by omega)];simp
  · right
    refine zP pre (b2::b3::b4::rest) x4 b1 0 0 _ (by simp only [List.length_cons];omega) hb1 (by omega) (by omega) ?_
    rw [decide_eq_true c1]
    refine zP (pre++[b1]) (b3::b4::rest) x4 b2 _ _ _ (by simp only [List.length_cons];omega) hb2 (by omega) (by omega) ?_
    rw [decide_eq_true c2]
    refine zP (pre++[b1]++[b2]) (b4::rest) x4 b3 _ _ _ (by simp only [List.length_cons];omega) hb3 (by omega) (by omega) ?_
    rw [decide_eq_true c3]
    refine zP (pre++[b1]++[b2]++[b3]) rest x4 b4 _ _ _ (by omega) hb4 (by omega) (by omega) ?_
    rw [decide_eq_true c4,show (0:Int)+1+1+1+1=4 by omega]
    exact so_full _ x4 _ _

theorem so_fwd (n:Int) (hn:0≤n∧n≤100000) (pre rest x4:List Int) (r:List Int × Bool) (hl:pre.length+3+rest.length≤1048576) (h4:x4.length≤1048576)
    (h:Ev (fun k=>bO.l0 k ((pre++zL n)++rest) (x4++[n]) ((pre++zL n).length:Int)) r):
    Ev (fun k=>bO.l1 k (pre++(zL n++rest)) x4 (pre.length:Int) 0 0 true) r:=by
  have p1 (b:Int):(pre++[b]).length=pre.length+1:=by simp
  have p2 (b c:Int):(pre++[b]++[c]).length=pre.length+2:=by simp
  rw [← qE n hn.2] at h ⊢
  by_cases c1:n≤127
  · rw [g4_1 n c1] at h ⊢
    refine zP pre rest x4 n 0 0 r (by omega) (by omega) (by omega) (by omega) ?_
    rw [decide_eq_false (show ¬n>127 by omega),show (0:Int)*128+n % 128=n by omega,show (0:Int)+1=1 by omega]
    exact vJ _ x4 _ n 1 r (by omega) h4 (by rw [g4_1 n c1];rfl) h
  · by_cases c2:n≤16383
    · have g:=g4_2 n (by omega) c2
      rw [g] at h ⊢
      refine zP pre (n % 128::rest) x4 (n / 128+128) 0 0 r (by simp only [List.length_cons];omega) (by omega) (by omega) (by omega) ?_
      rw [decide_eq_true (show n / 128+128>127 by omega)]
      refine zP (pre++[n / 128+128]) rest x4 (n % 128) _ _ r (by rw [p1];omega) (by omega) (by omega) (by omega) ?_
      rw [decide_eq_false (show ¬n % 128>127 by omega),show ((0:Int)*128+(n / 128+128) % 128)*128+n % 128 % 128=n by omega,show (0:Int)+1+1=2 by omega]
      rw [show pre++[n / 128+128,n % 128]=pre++[n / 128+128]++[n % 128] by simp] at h
      exact vJ _ x4 _ n 2 r (by omega) h4 (by rw [g];rfl) h
    · have g:=g4_3 n (by omega) (by omega)
      rw [g] at h ⊢
      refine zP pre ((n / 128 % 128+128)::n % 128::rest) x4 (n / 16384+128) 0 0 r (by simp only [List.length_cons];omega) (by omega) (by omega) (by omega) ?_
      rw [decide_eq_true (show n / 16384+128>127 by omega)]
      refine zP (pre++[n / 16384+128]) (n % 128::rest) x4 (n / 128 % 128+128) _ _ r (by rw [p1];simp only [List.length_cons];omega) (by omega) (by omega) (by omega) ?_
      rw [decide_eq_true (show n / 128 % 128+128>127 by omega)]
      refine zP (pre++[n / 16384+128]++[n / 128 % 128+128]) rest x4 (n % 128) _ _ r (by rw [p2];omega) (by omega) (by omega) (by omega) ?_
      rw [decide_eq_false (show ¬n % 128>127 by omega),show (((0:Int)*128+(n / 16384+128) % 128)*128+(n / 128 % 128+128) % 128)*128+n % 128 % 128=n by omega,show (0:Int)+1+1+1=3 by omega]
      rw [show pre++[n / 16384+128,n / 128 % 128+128,n % 128]=pre++[n / 16384+128]++[n / 128 % 128+128]++[n % 128] by simp] at h
      exact vJ _ x4 _ n 3 r (by omega) h4 (by rw [g];rfl) h
theorem so_stop (l x4:List Int) (hl:l.length≤1048576) (h4:x4.length≤1048576):Ev (fun k=>bO.l0 k l x4 (l.length:Int)) (if zO x4=true then (x4,true) else ([],false)):=by
  refine Ev.succ ?_
  simp only [bO.l0]
  simp only [if_neg (show ¬(l.length:Int)<(l.length:Int) by omega)]
  refine Ev.succ ?_
  simp only [bO.j1]
  simp only [Bool.false_eq_true,if_false,if_true]
  refine Ev.bind (qW x4 (by omega)) ?_
  split<;>exact Ev.now _
theorem so_goOn (pre rest x4:List Int) (r:List Int × Bool) (hr:rest≠[]) (h4:x4.length≤10) (h:Ev (fun k=>bO.l1 k (pre++rest) x4 (pre.length:Int) 0 0 true) r):
    Ev (fun k=>bO.l0 k (pre++rest) x4 (pre.length:Int)) r:=by
  have hp:0<rest.length:=by cases rest with|nil=>exact absurd rfl hr|cons _ _=>simp
  refine Ev.succ ?_
  simp only [bO.l0]
  simp only [if_pos (show (pre.length:Int)<((pre++rest).length:Int) by simp only [List.length_append];omega)]
  rw [decide_eq_true (show (x4.length:Int)≤10 by omega)]
  refine Ev.succ ?_
  simp only [bO.j1]
  simp only [if_true]
  exact h
theorem so_tooMany (pre rest x4:List Int) (hr:rest≠[]) (h4:¬x4.length≤10):Ev (fun k=>bO.l0 k (pre++rest) x4 (pre.length:Int)) ([],false):=by
  have hp:0<rest.length:=by cases rest with|nil=>exact absurd rfl hr|cons _ _=>simp
  refine Ev.succ ?_
  simp only [bO.l0]
  simp only [if_pos (show (pre.length:Int)<((pre++rest).length:Int) by simp only [List.length_append];omega)]
  rw [decide_eq_false (show ¬(x4.length:Int)≤10 by omega)]
  refine Ev.succ ?_
  simp only [bO.j1]
  simp only [Bool.false_eq_true,if_false,if_neg (show ¬(pre.length:Int)=((pre++rest).length:Int) by simp only [List.length_append];omega)]
  exact Ev.now _
theorem group_ne (n:Int) (l:List Int):zL n++l≠[]:=by
  have:=yU n
  intro h
  have:=congrArg List.length h
  simp only [List.length_append,List.length_nil] at this
  omega
theorem sGetOid_yes (o:List Int):∀(pre x4:List Int),zO (x4++o)=true→pre.length+3*o.length≤1000→
    Ev (fun k=>bO.l0 k (pre++o.flatMap zL) x4 (pre.length:Int)) (x4++o,true):=by
  induction o with
  |nil=>
    intro pre x4 h hl
    have e:=so_stop pre x4 (by omega) (by simp only [zO,Bool.and_eq_true,decide_eq_true_eq,List.append_nil] at h;omega)
    rw [List.append_nil] at h
    rw [if_pos h] at e
    simpa using e
  |cons n o ih=>
    intro pre x4 h hl
    simp only [List.length_cons] at hl
    have hg:=yU n
    have hf:=flat_len o
    have h':=h
    simp only [zO,Bool.and_eq_true,decide_eq_true_eq,List.length_append,List.length_cons] at h'
    have hn:0≤n∧n≤100000:=by
      have:=h'.1
      simp only [zY,List.all_append,List.all_cons,Bool.and_eq_true,decide_eq_true_eq] at this
      exact this.2.1
    simp only [List.flatMap_cons]
    refine so_goOn pre _ x4 _ (group_ne n _) (by omega) ?_
    refine so_fwd n hn pre _ x4 _ (by omega) (by omega) ?_
    have e:=ih (pre++zL n) (x4++[n]) (by simpa using h) (by simp only [List.length_append];omega)
    simpa using e
theorem flat4 (o:List Int) (h:zY o=true):o.flatMap zM=o.flatMap zL:=by
  induction o with
  |nil=>rfl
  |cons n o ih=>
    obtain ⟨hn,ho⟩:=xD n o h
    simp only [List.flatMap_cons,qE n hn.2,ih ho]
theorem sGetOid_no (m:Nat):∀(rest x4:List Int),rest.length≤m→bytes rest→(x4.flatMap zM).length+rest.length≤1048576→(∀o,zO o=true→o.flatMap zL≠x4.flatMap zM++rest)→
    Ev (fun k=>bO.l0 k (x4.flatMap zM++rest) x4 ((x4.flatMap zM).length:Int)) ([],false):=by
  induction m with
  |zero=>
    intro rest x4 hm _ hl hno
    have:rest=[]:=List.eq_nil_of_length_eq_zero (by omega)
    subst this
    have h4:x4.length≤(x4.flatMap zM).length:=by
      clear hno hl hm
      induction x4 with
      |nil=>simp
      |cons n x4 ih=>
        have:=g4_len n
        simp only [List.flatMap_cons,List.length_append,List.length_cons]
        omega
    have e:=so_stop (x4.flatMap zM) x4 (by omega) (by omega)
    have hx:¬zO x4=true:=by
      intro hx
      have hx':=hx
      simp only [zO,Bool.and_eq_true] at hx'
      exact hno x4 hx (by rw [List.append_nil,flat4 x4 hx'.1])
    rw [if_neg hx] at e
    simpa using e
  |succ m ih=>
    intro rest x4 hm hw hl hno
    by_cases hr:rest=[]
    · subst hr
      exact ih [] x4 (by simp) hw hl hno
    by_cases h4:x4.length≤10
    · refine so_goOn _ rest x4 _ hr h4 ?_
      rcases so_any rest (x4.flatMap zM) x4 hw hl (by omega) with ⟨n,rest',h0,h1,e,h⟩|h
      · refine h _ ?_
        have hg:=g4_len n
        have hw':bytes rest':=fun y hy=>hw y (by rw [e];exact List.mem_append_right _ hy)
        have hle:rest.length=(zM n).length+rest'.length:=by rw [e,List.length_append]
        have hc:(x4++[n]).flatMap zM=x4.flatMap zM++zM n:=by simp
        have:=ih rest' (x4++[n]) (by omega) hw' (by rw [hc,List.length_append];omega) (by
          intro o ho
          rw [hc,List.append_assoc,← e]
          exact hno o ho)
        rw [hc] at this
        exact this
      · exact h
    · exact so_tooMany _ rest x4 hr h4
def gfin (all x4:List Int):List Int × Bool:=if ((zF x4).length:Int)=0 then ([],false) else if (strOfNums (zF x4)).toList=(strOfNums all).toList then (x4,true) else ([],false)
theorem io_fin (all x4 xs:List Int) (n m p:Int) (hp:¬p<m) (h4:x4.length≤1048576):Ev (fun k=>cS.l0 k all x4 n xs m p) (gfin all x4):=by
  refine Ev.succ ?_
  simp only [cS.l0]
  simp only [if_neg hp]
  refine Ev.bind (vQ x4 h4) ?_
  unfold gfin
  split
  · exact Ev.now _
  · split<;>exact Ev.now _
def joinO (n b:Int):Int:=Go.bits .or .i64 (wrap64 ((mn n 1048576)*128)) (wrap64 (Go.bits .and .u8 b 127))
theorem xT (n b:Int) (hn:0≤n∧n≤1048576) (hb:0≤b∧b≤255):joinO n b=n*128+b % 128:=by
  unfold joinO mn
  rw [if_neg (by omega),and127b b hb.1 hb.2,w64 (by omega) (by omega),w64 (by omega) (by omega),join7 n (b % 128) hn.1 (by omega) (by omega) (by omega)]
theorem qR (all pre rest x4:List Int) (b n m:Int) (r:List Int × Bool) (hm:m=(pre.length:Int)+rest.length+1) (hp:pre.length<40) (h4:x4.length≤1048576) (hb:b<128)
    (h:Ev (fun k=>cS.l0 k all (x4++[joinO n b]) 0 ((pre++[b])++rest) m ((pre++[b]).length:Int)) r):
    Ev (fun k=>cS.l0 k all x4 n (pre++b::rest) m (pre.length:Int)) r:=by
  refine Ev.succ ?_
  simp only [cS.l0]
  simp only [if_pos (show (pre.length:Int)<m by omega),if_pos (show (0:Int)≤(pre.length:Int) by omega),if_pos (show (pre.length:Int)<((pre++b::rest).length:Int) by simp only [List.length_append,List.length_cons];omega),if_neg (show ¬(pre.length:Int)≥40 by omega),zV,if_pos hb,if_pos (show x4.length<17592186044416 by omega),w64 (x:=(pre.length:Int)+1) (by omega) (by omega)]
  simp only [List.append_assoc,List.cons_append,List.nil_append] at h
  rw [show ((pre++[b]).length:Int)=(pre.length:Int)+1 by simp] at h
  exact h
theorem io_big (all pre rest x4:List Int) (b n m:Int) (r:List Int × Bool) (hm:m=(pre.length:Int)+rest.length+1) (hp:pre.length<40) (hb:¬b<128)
    (h:Ev (fun k=>cS.l0 k all x4 (joinO n b) ((pre++[b])++rest) m ((pre++[b]).length:Int)) r):
    Ev (fun k=>cS.l0 k all x4 n (pre++b::rest) m (pre.length:Int)) r:=by
  refine Ev.succ ?_
  simp only [cS.l0]
  simp only [if_pos (show (pre.length:Int)<m by omega),if_pos (show (0:Int)≤(pre.length:Int) by omega),if_pos (show (pre.length:Int)<((pre++b::rest).length:Int) by simp only [List.length_append,List.length_cons];omega),if_neg (show ¬(pre.length:Int)≥40 by omega),zV,if_neg hb,w64 (x:=(pre.length:Int)+1) (by omega) (by omega)]
  simp only [List.append_assoc,List.cons_append,List.nil_append] at h
  rw [show ((pre++[b]).length:Int)=(pre.length:Int)+1 by simp] at h
  exact h
theorem io_over (all pre rest x4:List Int) (b n m:Int) (hm:m=(pre.length:Int)+rest.length+1) (hp:¬pre.length<40):
    Ev (fun k=>cS.l0 k all x4 n (pre++b::rest) m (pre.length:Int)) ([],false):=by
  refine Ev.succ ?_
  simp only [cS.l0]
  simp only [if_pos (show (pre.length:Int)<m by omega),if_pos (show (0:Int)≤(pre.length:Int) by omega),if_pos (show (pre.length:Int)<((pre++b::rest).length:Int) by simp only [List.length_append,List.length_cons];omega),if_pos (show (pre.length:Int)≥40 by omega)]
  exact Ev.now _
theorem iGetOid_any (all:List Int) (rest:List Int):∀(pre x4:List Int) (n m:Int),m=(pre.length:Int)+rest.length→x4.length≤pre.length→pre.length≤40→
    ∃x,Ev (fun k=>cS.l0 k all x4 n (pre++rest) m (pre.length:Int)) (gfin all x)∨Ev (fun k=>cS.l0 k all x4 n (pre++rest) m (pre.length:Int)) ([],false):=by
  induction rest with
  |nil=>
    intro pre x4 n m hm h4 hp
    simp only [List.length_nil] at hm
    exact ⟨x4,Or.inl (io_fin all x4 _ n m _ (by omega) (by omega))⟩
  |cons b rest ih=>
    intro pre x4 n m hm h4 hp
    simp only [List.length_cons] at hm
    by_cases hp':pre.length<40
    · by_cases hb:b<128
      · obtain ⟨x,h⟩:=ih (pre++[b]) (x4++[joinO n b]) 0 m (by simp only [List.length_append,List.length_cons,List.length_nil];omega) (by simp only [List.length_append,List.length_cons,List.length_nil];omega) (by simp only [List.length_append,List.length_cons,List.length_nil];omega)
        exact ⟨x,h.imp (qR all pre rest x4 b n m _ (by omega) hp' (by omega) hb) (qR all pre rest x4 b n m _ (by omega) hp' (by omega) hb)⟩
      · obtain ⟨x,h⟩:=ih (pre++[b]) x4 (joinO n b) m (by simp only [List.length_append,List.length_cons,List.length_nil];omega) (by simp only [List.length_append,List.length_cons,List.length_nil];omega) (by simp only [List.length_append,List.length_cons,List.length_nil];omega)
        exact ⟨x,h.imp (io_big all pre rest x4 b n m _ (by omega) hp' hb) (io_big all pre rest x4 b n m _ (by omega) hp' hb)⟩
    · exact ⟨[],Or.inr (io_over all pre rest x4 b n m (by omega) hp')⟩
theorem io_fwd (all:List Int) (n:Int) (hn:0≤n∧n≤100000) (pre rest x4:List Int) (m:Int) (r:List Int × Bool) (hm:m=(pre.length:Int)+(zL n).length+rest.length) (hp:pre.length≤37) (h4:x4.length≤1048576)
    (h:Ev (fun k=>cS.l0 k all (x4++[n]) 0 ((pre++zL n)++rest) m ((pre++zL n).length:Int)) r):
    Ev (fun k=>cS.l0 k all x4 0 (pre++(zL n++rest)) m (pre.length:Int)) r:=by
  have p1 (b:Int):(pre++[b]).length=pre.length+1:=by simp
  have p2 (b c:Int):(pre++[b]++[c]).length=pre.length+2:=by simp
  rw [← qE n hn.2] at h hm ⊢
  by_cases c1:n≤127
  · rw [g4_1 n c1] at h hm ⊢
    simp only [List.length_cons,List.length_nil] at hm
    refine qR all pre rest x4 n 0 m r (by omega) (by omega) h4 (by omega) ?_
    rw [xT 0 n (by omega) (by omega),show (0:Int)*128+n % 128=n by omega]
    exact h
  · by_cases c2:n≤16383
    · have g:=g4_2 n (by omega) c2
      rw [g] at h hm ⊢
      simp only [List.length_cons,List.length_nil] at hm
      refine io_big all pre (n % 128::rest) x4 (n / 128+128) 0 m r (by simp only [List.length_cons];omega) (by omega) (by omega) ?_
      refine qR all (pre++[n / 128+128]) rest x4 (n % 128) _ m r (by rw [p1];omega) (by rw [p1];omega) h4 (by omega) ?_
      rw [xT 0 _ (by omega) (by omega),xT _ _ (by omega) (by omega),show ((0:Int)*128+(n / 128+128) % 128)*128+n % 128 % 128=n by omega]
      rw [show pre++[n / 128+128,n % 128]=pre++[n / 128+128]++[n % 128] by simp] at h
      exact h
    · have g:=g4_3 n (by omega) (by omega)
      rw [g] at h hm ⊢
      simp only [List.length_cons,List.length_nil] at hm
      refine io_big all pre ((n / 128 % 128+128)::n % 128::rest) x4 (n / 16384+128) 0 m r (by simp only [List.length_cons];omega) (by omega) (by omega) ?_
      refine io_big all (pre++[n / 16384+128]) (n % 128::rest) x4 (n / 128 % 128+128) _ m r (by rw [p1];simp only [List.length_cons];omega) (by rw [p1];omega) (by omega) ?_
      refine qR all (pre++[n / 16384+128]++[n / 128 % 128+128]) rest x4 (n % 128) _ m r (by rw [p2];omega) (by rw [p2];omega) h4 (by omega) ?_
      rw [xT 0 _ (by omega) (by omega),xT _ (n / 128 % 128+128) (by omega) (by omega),xT _ _ (by omega) (by omega),show (((0:Int)*128+(n / 16384+128) % 128)*128+(n / 128 % 128+128) % 128)*128+n % 128 % 128=n by omega]
      rw [show pre++[n / 16384+128,n / 128 % 128+128,n % 128]=pre++[n / 16384+128]++[n / 128 % 128+128]++[n % 128] by simp] at h
      exact h
theorem iGetOid_loop (all:List Int) (o:List Int):∀(pre x4:List Int) (m:Int),m=(pre.length:Int)+(o.flatMap zL).length→zY o=true→pre.length+3*o.length≤40→x4.length+o.length≤10→
    Ev (fun k=>cS.l0 k all x4 0 (pre++o.flatMap zL) m (pre.length:Int)) (gfin all (x4++o)):=by
  induction o with
  |nil=>
    intro pre x4 m hm _ hl h4
    simp only [List.flatMap_nil,List.length_nil] at hm
    simp only [List.length_nil] at h4
    have e:=io_fin all x4 (pre++[]) 0 m (pre.length:Int) (by omega) (by omega)
    simpa using e
  |cons n o ih=>
    intro pre x4 m hm ho hl h4
    obtain ⟨hn,ho⟩:=xD n o ho
    have hg:=yU n
    simp only [List.length_cons] at hl h4
    simp only [List.flatMap_cons,List.length_append] at hm ⊢
    refine io_fwd all n hn pre _ x4 m _ (by omega) (by omega) (by omega) ?_
    have e:=ih (pre++zL n) (x4++[n]) m (by simp only [List.length_append];omega) ho (by simp only [List.length_append];omega) (by simp only [List.length_append,List.length_cons,List.length_nil];omega)
    simpa using e
theorem group_bytes (n:Int) (hn:0≤n∧n≤100000):∀y ∈ zL n,0≤y∧y≤255:=by
  unfold zL
  intro y hy
  split at hy
  · simp only [List.mem_cons,List.not_mem_nil,or_false] at hy;omega
  · split at hy
    · simp only [List.mem_cons,List.not_mem_nil,or_false] at hy;omega
    · simp only [List.mem_cons,List.not_mem_nil,or_false] at hy;omega
theorem yF (o:List Int):∀y ∈ zF o,0≤y∧y≤255:=by
  unfold zF
  split
  · rename_i h
    intro y hy
    simp only [List.mem_flatMap] at hy
    obtain ⟨n,hn,hy⟩:=hy
    simp only [zO,Bool.and_eq_true,zY,List.all_eq_true,decide_eq_true_eq] at h
    exact group_bytes n (h.1 n hn) y hy
  · simp
/- what both make of the bytes -/
theorem xA (l:List Int) (hw:bytes l) (hl:l.length≤1048576):∃R,Ev (fun k=>bO.f k l) R∧Ev (fun k=>cS.f k l) R∧R.1.length≤10:=by
  unfold bO.f cS.f
  by_cases h:∃o,zO o=true∧o.flatMap zL=l
  · obtain ⟨o,ho,rfl⟩:=h
    have ho':=ho
    simp only [zO,Bool.and_eq_true,decide_eq_true_eq] at ho'
    refine ⟨(o,true),?_,?_,by show o.length≤10;omega⟩
    · have e:=sGetOid_yes o [] [] (by simpa using ho) (by simp only [List.length_nil];omega)
      simpa using e
    · have e:=iGetOid_loop (o.flatMap zL) o [] [] ((o.flatMap zL).length:Int) (by simp) ho'.1 (by simp only [List.length_nil];omega) (by simp only [List.length_nil];omega)
      have hg:gfin (o.flatMap zL) o=(o,true):=by
        unfold gfin zF
        rw [if_pos ho]
        have:1≤(o.flatMap zL).length:=by
          cases o with
          |nil=>simp at ho'
          |cons n o=>
            have:=yU n
            simp only [List.flatMap_cons,List.length_append]
            omega
        rw [if_neg (by omega),if_pos rfl]
      simp only [List.nil_append] at e
      rw [hg] at e
      exact e
  · have hno:∀o,zO o=true→o.flatMap zL≠l:=fun o ho e=>h ⟨o,ho,e⟩
    refine ⟨([],false),?_,?_,by simp⟩
    · have e:=sGetOid_no l.length l [] (Nat.le_refl _) hw (by simpa using hl) (by simpa using hno)
      simpa using e
    · obtain ⟨x,e⟩:=iGetOid_any l l [] [] 0 (l.length:Int) (by simp) (by simp) (by simp)
      rcases e with e|e
      · have hg:gfin l x=([],false):=by
          unfold gfin
          split
          · rfl
          · rename_i h0
            rw [if_neg]
            intro hs
            have he:=strNums_inj _ _ (yF x) hw hs
            unfold zF at he h0
            by_cases hx:zO x=true
            · rw [if_pos hx] at he
              exact hno x hx he
            · rw [if_neg hx] at h0
              simp at h0
        rw [hg] at e
        simpa using e
      · simpa using e

def zX (a b:Int) (s:ByteArray) (l:List Int) (a' b':Int) (s':ByteArray) (l':List Int):Bool:=
  if a=a' then (if b=b' then (if s.toList=s'.toList then decide (l=l') else false) else false) else false

theorem sSameVal_ev (a b:Int) (s:ByteArray) (l:List Int) (a' b':Int) (s':ByteArray) (l':List Int) (h:l.length≤1099511627776):Ev (fun k=>e7.f k a b s l a' b' s' l') (zX a b s l a' b' s' l'):=by
  unfold e7.f zX
  refine Ev.ite (fun _=>?_) (fun _=>Ev.now _)
  refine Ev.ite (fun _=>?_) (fun _=>Ev.now _)
  refine Ev.ite (fun _=>?_) (fun _=>Ev.now _)
  refine Ev.bind (sSameOid_ev l l' h) ?_
  exact Ev.now _

theorem yH (a b:Int) (s:ByteArray) (l:List Int) (a' b':Int) (s':ByteArray) (l':List Int) (h:l.length≤1099511627776):Ev (fun k=>cV.f k a b s l a' b' s' l') (zX a b s l a' b' s' l'):=by
  unfold cV.f zX
  refine Ev.ite (fun _=>?_) (fun _=>Ev.now _)
  refine Ev.ite (fun _=>?_) (fun _=>Ev.now _)
  refine Ev.ite (fun _=>?_) (fun _=>Ev.now _)
  refine Ev.bind (iSameOid_ev l l' h) ?_
  exact Ev.now _

def valNil (b:Int) (s:ByteArray) (l:List Int):Bool:=if b=0 then (if s.toList=([]:List UInt8) then ((l.length:Int)==0) else false) else false
def yA (a b:Int) (s:ByteArray) (l:List Int):Bool:=
  if a=5∨a=128∨a=130 then valNil b s l
  else if a=2 then (if zD b=b then (if s.toList=([]:List UInt8) then ((l.length:Int)==0) else false) else false)
  else if a=4 then (if (s.size:Int)≤20 then (if b=0 then ((l.length:Int)==0) else false) else false)
  else if a=6 then (if zO l=true then (if b=0 then (s.toList==([]:List UInt8)) else false) else false)
  else false
theorem decEmpty (l:List Int):decide (l=[])=((l.length:Int)==0):=by
  cases l with
  |nil=>rfl
  |cons x l=>simp;omega
theorem uI:(⟨#[]⟩:ByteArray).toList=([]:List UInt8):=by decide+kernel
theorem qL (a b:Int) (s:ByteArray) (l:List Int):zX a b s l a 0 ⟨#[]⟩ []=valNil b s l:=by
  unfold zX valNil
  rw [if_pos rfl,uI,decEmpty]

theorem sValOk_j (a b:Int) (s:ByteArray) (l:List Int) (q:Bool) (h:l.length≤1048576) (hq:q=true ↔ (a=5∨a=128∨a=130)):Ev (fun k=>b5.j0 k a q a b s l) (yA a b s l):=by
  refine Ev.succ ?_
  simp only [b5.j0]
  unfold yA valNil
  by_cases c:a=5∨a=128∨a=130
  · simp only [if_pos c,if_pos (hq.2 c)]
    refine Ev.ite (fun _=>?_) (fun _=>Ev.now _)
    refine Ev.ite (fun _=>Ev.now _) (fun _=>Ev.now _)
  · have hq':¬q=true:=fun e=>c (hq.1 e)
    simp only [if_neg c,if_neg hq',qN,Option.bind_some]
    refine Ev.ite (fun _=>?_) (fun _=>?_)
    · refine Ev.ite (fun _=>?_) (fun _=>Ev.now _)
      refine Ev.ite (fun _=>Ev.now _) (fun _=>Ev.now _)
    refine Ev.ite (fun _=>?_) (fun _=>?_)
    · refine Ev.ite (fun _=>?_) (fun _=>Ev.now _)
      refine Ev.ite (fun _=>Ev.now _) (fun _=>Ev.now _)
    refine Ev.ite (fun _=>?_) (fun _=>Ev.now _)
    refine Ev.bind (qW l (by omega)) ?_
    refine Ev.ite (fun _=>?_) (fun _=>Ev.now _)
    refine Ev.ite (fun _=>Ev.now _) (fun _=>Ev.now _)
theorem sValOk_ev (a b:Int) (s:ByteArray) (l:List Int) (h:l.length≤1048576):Ev (fun k=>b5.f k a b s l) (yA a b s l):=by
  unfold b5.f
  by_cases c1:a=5
  · simp only [if_pos c1]
    exact sValOk_j a b s l _ h (by simp [c1])
  · simp only [if_neg c1]
    by_cases c2:a=128
    · simp only [if_pos c2]
      exact sValOk_j a b s l _ h (by simp [c2])
    · simp only [if_neg c2]
      exact sValOk_j a b s l _ h (by simp [c1,c2])

theorem iIsInt_eq (b:Int):eV.f b=some (decide (-2147483648≤b∧b≤2147483647)):=by
  unfold eV.f
  rw [in_eq]
  rfl
theorem clip_same (b:Int):decide (-2147483648≤b∧b≤2147483647)=decide (zD b=b):=by
  unfold zD
  refine decide_eq_decide.2 ⟨fun h=>?_,fun h=>?_⟩
  · rw [if_neg (by omega),if_neg (by omega)]
  · split at h
    · omega
    · split at h<;>omega
theorem iValOk_ev (a b:Int) (s:ByteArray) (l:List Int) (h:l.length≤1048576):Ev (fun k=>cT.f k a b s l) (yA a b s l):=by
  unfold cT.f yA
  by_cases c2:a=2
  · simp only [if_pos c2,if_neg (show ¬(a=5∨a=128∨a=130) by omega),iIsInt_eq,Option.bind_some,clip_same,decide_eq_true_eq]
    refine Ev.ite (fun _=>?_) (fun _=>Ev.now _)
    refine Ev.bind (yH a b s l a b _ _ (by omega)) ?_
    unfold zX
    rw [if_pos rfl,if_pos rfl,uI,decEmpty]
    exact Ev.now _
  simp only [if_neg c2]
  by_cases c4:a=4
  · simp only [if_pos c4,if_neg (show ¬(a=5∨a=128∨a=130) by omega)]
    refine Ev.ite (fun _=>?_) (fun _=>Ev.now _)
    refine Ev.bind (yH a b s l a 0 s _ (by omega)) ?_
    unfold zX
    rw [if_pos rfl,if_pos rfl,decEmpty]
    exact Ev.now _
  simp only [if_neg c4]
  by_cases c6:a=6
  · simp only [if_pos c6,if_neg (show ¬(a=5∨a=128∨a=130) by omega)]
    refine Ev.bind (iOidOk_ev l (by omega)) ?_
    refine Ev.ite (fun _=>?_) (fun _=>Ev.now _)
    refine Ev.bind (yH a b s l a 0 _ l (by omega)) ?_
    unfold zX
    rw [if_pos rfl,uI]
    have e:(if b=0 then (if s.toList=([]:List UInt8) then decide (l=l) else false) else false)=(if b=0 then (s.toList==([]:List UInt8)) else false):=by
      split
      · by_cases z:s.toList=([]:List UInt8)
        · simp [z]
        · rw [if_neg z]
          exact (beq_eq_false_iff_ne.2 z).symm
      · rfl
    rw [e]
    exact Ev.now _
  simp only [if_neg c6]
  by_cases c5:a=5
  · simp only [if_pos c5,if_pos (show (a=5∨a=128∨a=130) by omega)]
    refine Ev.bind (yH a b s l a 0 _ _ (by omega)) ?_
    rw [qL]
    exact Ev.now _
  simp only [if_neg c5]
  by_cases c8:a=128
  · simp only [if_pos c8,if_pos (show (a=5∨a=128∨a=130) by omega)]
    refine Ev.bind (yH a b s l a 0 _ _ (by omega)) ?_
    rw [qL]
    exact Ev.now _
  simp only [if_neg c8]
  by_cases c3:a=130
  · simp only [if_pos c3,if_pos (show (a=5∨a=128∨a=130) by omega)]
    refine Ev.bind (yH a b s l a 0 _ _ (by omega)) ?_
    rw [qL]
    exact Ev.now _
  simp only [if_neg c3,if_neg (show ¬(a=5∨a=128∨a=130) by omega)]
  exact Ev.now _

def yR (tag:Int) (body:List Int):Bool:=decide (0≤tag∧tag≤255) && decide ((body.length:Int)≤250)
def zA (tag:Int) (body:List Int):List Int:=[tag % 256]++((if (body.length:Int)>127 then [129] else [])++([(body.length:Int) % 256]++body))
def zG (b:List Int) (tag:Int) (body:List Int):List Int:=if yR tag body=true then b++zA tag body else b
theorem zS (tag:Int) (body:List Int):(zA tag body).length≤body.length+3:=by
  unfold zA
  split<;>simp<;>omega
theorem putTlv_len (b:List Int) (tag:Int) (body:List Int):(zG b tag body).length≤b.length+253:=by
  unfold zG
  split
  · rename_i h
    have:=zS tag body
    simp only [yR,Bool.and_eq_true,decide_eq_true_eq] at h
    simp only [List.length_append]
    omega
  · omega

theorem zU (b:List Int) (tag:Int) (body:List Int) (hb:b.length≤1099511627776) (hy:body.length≤1099511627776):Ev (fun k=>bT.f k b tag body) (zG b tag body):=by
  refine Ev.succ ?_
  refine Ev.some_const (fun k=>?_)
  simp only [bT.f,bT.j0,Option.bind_some,uF,List.nil_append]
  rw [if_pos (by simp only [List.length_nil];omega)]
  unfold zG yR zA
  by_cases h1:0≤tag∧tag≤255
  · simp only [decide_eq_true h1,if_true,Bool.true_and]
    by_cases h2:(body.length:Int)>250
    · simp only [decide_eq_true h2,if_true,decide_eq_false (show ¬(body.length:Int)≤250 by omega),Bool.false_eq_true,if_false]
    · simp only [decide_eq_false h2,Bool.false_eq_true,if_false,decide_eq_true (show (body.length:Int)≤250 by omega),if_true]
      rw [if_pos (by omega)]
      by_cases h3:(body.length:Int)>127
      · simp only [if_pos h3]
        rw [if_pos (by simp only [List.length_append,List.length_cons,List.length_nil];omega),if_pos (by simp only [List.length_append,List.length_cons,List.length_nil];omega),if_pos (by simp only [List.length_append,List.length_cons,List.length_nil];omega)]
        simp
      · simp only [if_neg h3]
        rw [if_pos (by simp only [List.length_append,List.length_cons,List.length_nil];omega),if_pos (by simp only [List.length_append,List.length_cons,List.length_nil];omega)]
        simp
  · simp only [decide_eq_false h1,Bool.false_and,Bool.false_eq_true,if_false,if_true]

theorem vE (b:List Int) (hb:b.length≤1099511627776):cZ.f b=some b:=by
  unfold cZ.f
  rw [if_pos (by simp only [List.length_nil];omega)]
  simp
theorem iTlv_ev (tag:Int) (body:List Int) (hy:body.length≤1099511627776):Ev (fun k=>dY.f k tag body) (if yR tag body=true then (zA tag body,true) else ([],false)):=by
  refine Ev.succ ?_
  refine Ev.some_const (fun k=>?_)
  simp only [dY.f,dY.j0,Option.bind_some,in_eq]
  unfold yR zA
  by_cases h1:0≤tag∧tag≤255
  · simp only [decide_eq_true h1,if_true,Bool.true_and]
    by_cases h2:(body.length:Int)>250
    · simp only [decide_eq_true h2,if_true,decide_eq_false (show ¬(body.length:Int)≤250 by omega),Bool.false_eq_true,if_false]
    · simp only [decide_eq_false h2,Bool.false_eq_true,if_false,decide_eq_true (show (body.length:Int)≤250 by omega),if_true]
      by_cases h3:(body.length:Int)>127
      · rw [if_pos (show (body.length:Int)≥128 by omega),if_pos (by simp only [List.length_cons,List.length_nil];omega),if_pos (by simp only [List.length_append,List.length_cons,List.length_nil];omega),if_pos (by simp only [List.length_append,List.length_cons,List.length_nil];omega)]
        simp [h3]
      · rw [if_neg (show ¬(body.length:Int)≥128 by omega),if_pos (by simp only [List.length_cons,List.length_nil];omega),if_pos (by simp only [List.length_append,List.length_cons,List.length_nil];omega)]
        simp [h3]
  · simp only [decide_eq_false h1,Bool.false_and,Bool.false_eq_true,if_false,if_true]
theorem yS (b:List Int) (tag:Int) (body:List Int) (hb:b.length≤1099511627776) (hy:body.length≤1099511627776):Ev (fun k=>dJ.f k b tag body) (zG b tag body):=by
  unfold dJ.f zG
  refine Ev.bind (iTlv_ev tag body hy) ?_
  simp only [vE b hb,Option.bind_some]
  by_cases h:yR tag body=true
  · have hl:=zS tag body
    simp only [if_pos h]
    rw [if_pos (by omega)]
    exact Ev.now _
  · simp only [if_neg h,List.length_nil,List.append_nil]
    rw [if_pos (by omega)]
    exact Ev.now _

theorem yL (t:Int) (body:List Int) (ht:0≤t∧t≤255) (h:body.length≤127):zA t body=t::(body.length:Int)::body:=by
  unfold zA
  rw [if_neg (by omega),show t % 256=t by omega,show (body.length:Int) % 256=(body.length:Int) by omega]
  rfl
theorem xQ (t:Int) (body:List Int) (ht:0≤t∧t≤255) (h:127<body.length) (h':body.length≤250):zA t body=t::129::(body.length:Int)::body:=by
  unfold zA
  rw [if_pos (by omega),show t % 256=t by omega,show (body.length:Int) % 256=(body.length:Int) by omega]
  rfl

theorem yD (t:Int) (body:List Int) (ht:0≤t∧t≤255) (hb:xM body) (h:body.length≤250):xM (zA t body):=by
  by_cases c:body.length≤127
  · rw [yL t body ht c]
    exact yQ (vB ht) (yQ (vB (b:=(body.length:Int)) (by omega)) hb)
  · rw [xQ t body ht (by omega) h]
    exact yQ (vB ht) (yQ (vB (b:=129) (by omega)) (yQ (vB (b:=(body.length:Int)) (by omega)) hb))

def qK:Int × List Int × Int × Bool:=(0,[],0,false)
def zK (b:List Int) (a x:Int):Int × List Int × Int × Bool:=
  if rd b x>250 then qK else if rd b x>(b.length:Int) - (x+1) then qK else (rd b a,(b.take (x+1+rd b x).toNat).drop (x+1).toNat,x+1+rd b x,true)
def zH (b:List Int) (a:Int):Int × List Int × Int × Bool:=
  if a<0∨a+1≥(b.length:Int) then qK
  else if rd b (a+1)>127 then (if rd b (a+1)=129 then (if a+2≥(b.length:Int) then qK else if rd b (a+2)<128 then qK else zK b a (a+2)) else qK)
  else zK b a (a+1)
theorem qF (b:List Int) (a:Int):(zH b a).2.1.length≤b.length:=by
  have ht:∀x,(zK b a x).2.1.length≤b.length:=by
    intro x
    unfold zK qK
    split
    · simp
    · split
      · simp
      · simp only [List.length_drop,List.length_take]
        omega
  have hz:(qK).2.1.length≤b.length:=by simp [qK]
  unfold zH
  split
  · exact hz
  · split
    · split
      · split
        · exact hz
        · split
          · exact hz
          · exact ht _
      · exact hz
    · exact ht _
theorem qO (b:List Int) (hb:∀y ∈ b,0≤y∧y≤255) (x:Int):0≤rd b x∧rd b x≤255:=by
  unfold rd
  rw [List.getD_eq_getElem?_getD]
  cases h:b[x.toNat]? with
  |none=>simp
  |some v=>
    have:=hb v (List.mem_of_getElem? h)
    simpa using this
theorem cut_le (b:List Int) (p q:Nat):((b.take p).drop q).length≤b.length:=by
  simp only [List.length_drop,List.length_take]
  omega

theorem vW (b:List Int) (a x:Int) (hb:∀y ∈ b,0≤y∧y≤255) (hl:b.length≤1048576) (ha:0≤a∧a<(b.length:Int)) (hx:0≤x∧x<(b.length:Int)):Ev (fun k=>bF.j1 k b a x false) (zK b a x):=by
  obtain ⟨n0,n1⟩:=qO b hb x
  obtain ⟨m0,m1⟩:=qO b hb a
  refine Ev.succ ?_
  simp only [bF.j1]
  simp only [Bool.false_eq_true,if_false,if_pos hx.1,if_pos hx.2,if_pos ha.1,if_pos ha.2,w64 (x:=rd b x) (by omega) (by omega),w64 (x:=rd b a) (by omega) (by omega),w64 (x:=x+1) (by omega) (by omega),w64 (x:=(b.length:Int) - (x+1)) (by omega) (by omega),w64 (x:=x+1+rd b x) (by omega) (by omega)]
  unfold zK qK
  by_cases c1:rd b x>250
  · simp only [if_pos c1]
    exact Ev.now _
  by_cases c2:rd b x>(b.length:Int) - (x+1)
  · simp only [if_neg c1,if_pos c2]
    exact Ev.now _
  have hc:=cut_le b (x+1+rd b x).toNat (x+1).toNat
  simp only [if_neg c1,if_neg c2,if_pos (show 0≤x+1 by omega),if_pos (show x+1≤x+1+rd b x by omega),if_pos (show x+1+rd b x≤(b.length:Int) by omega),Option.bind_some,List.length_nil,List.nil_append,if_pos (show 0+((b.take (x+1+rd b x).toNat).drop (x+1).toNat).length<140737488355328 by omega)]
  exact Ev.now _
theorem yM (b:List Int) (a x:Int):Ev (fun k=>bF.j1 k b a x true) qK:=by
  refine Ev.succ ?_
  simp only [bF.j1]
  simp only [if_true]
  exact Ev.now _
theorem yN (b:List Int) (a:Int):Ev (fun k=>bF.j0 k b a true) qK:=by
  refine Ev.succ ?_
  simp only [bF.j0]
  simp only [if_true]
  exact Ev.now _
theorem vX (b:List Int) (a:Int) (hb:∀y ∈ b,0≤y∧y≤255) (hl:b.length≤1048576) (ha:¬(a<0∨a+1≥(b.length:Int))):Ev (fun k=>bF.j0 k b a false) (zH b a):=by
  obtain ⟨n0,n1⟩:=qO b hb (a+1)
  obtain ⟨m0,m1⟩:=qO b hb a
  refine Ev.succ ?_
  simp only [bF.j0]
  simp only [Bool.false_eq_true,if_false,w64 (x:=a+1) (by omega) (by omega),w64 (x:=a+2) (by omega) (by omega),if_pos (show 0≤a+1 by omega),if_pos (show a+1<(b.length:Int) by omega),w64 (x:=rd b (a+1)) (by omega) (by omega)]
  unfold zH
  simp only [if_neg ha]
  by_cases c:rd b (a+1)>127
  · simp only [if_pos c,if_pos (show rd b (a+1)>127 by omega)]
    refine Ev.ite (fun _=>?_) (fun _=>yM _ _ _)
    refine Ev.ite (fun _=>yM _ _ _) (fun d=>?_)
    simp only [if_pos (show 0≤a+2 by omega),if_pos (show a+2<(b.length:Int) by omega)]
    by_cases e:rd b (a+2)<128
    · rw [decide_eq_true e,if_pos e]
      exact yM _ _ _
    · rw [decide_eq_false e,if_neg e]
      exact vW b a (a+2) hb hl (by omega) (by omega)
  · simp only [if_neg c,if_neg (show ¬rd b (a+1)>127 by omega)]
    unfold zK qK
    simp only [show a+1+1=a+2 by omega,w64 (x:=(b.length:Int) - (a+2)) (by omega) (by omega),w64 (x:=a+2+rd b (a+1)) (by omega) (by omega),w64 (x:=rd b a) (by omega) (by omega),if_pos (show 0≤a by omega),if_pos (show a<(b.length:Int) by omega)]
    by_cases c1:rd b (a+1)>250
    · simp only [if_pos c1]
      exact Ev.now _
    by_cases c2:rd b (a+1)>(b.length:Int) - (a+2)
    · simp only [if_neg c1,if_pos c2]
      exact Ev.now _
    have hc:=cut_le b (a+2+rd b (a+1)).toNat (a+2).toNat
    simp only [if_neg c1,if_neg c2,if_pos (show 0≤a+2 by omega),if_pos (show a+2≤a+2+rd b (a+1) by omega),if_pos (show a+2+rd b (a+1)≤(b.length:Int) by omega),Option.bind_some,List.length_nil,List.nil_append,if_pos (show 0+((b.take (a+2+rd b (a+1)).toNat).drop (a+2).toNat).length<140737488355328 by omega)]
    exact Ev.now _
theorem vM (b:List Int) (a:Int) (hb:∀y ∈ b,0≤y∧y≤255) (hl:b.length≤1048576) (hw:-9223372036854775808≤a∧a≤9223372036854775807):Ev (fun k=>bF.f k b a) (zH b a):=by
  unfold bF.f
  by_cases c:a<0∨a+1≥(b.length:Int)
  · have e:zH b a=qK:=by unfold zH;rw [if_pos c]
    rw [e]
    by_cases c1:a<0
    · simp only [if_pos c1]
      exact yN _ _
    · by_cases c2:a≥(b.length:Int)
      · simp only [if_neg c1,if_pos c2]
        exact yN _ _
      · simp only [if_neg c1,if_neg c2,w64 (x:=a+1) (by omega) (by omega),decide_eq_true (show a+1≥(b.length:Int) by omega)]
        exact yN _ _
  · simp only [if_neg (show ¬a<0 by omega),if_neg (show ¬a≥(b.length:Int) by omega),w64 (x:=a+1) (by omega) (by omega),decide_eq_false (show ¬a+1≥(b.length:Int) by omega)]
    exact vX b a hb hl c

theorem uG (b:List Int) (a x:Int) (hb:∀y ∈ b,0≤y∧y≤255) (hl:b.length≤1048576) (ha:0≤a∧a<(b.length:Int)) (hx:0≤x∧x<(b.length:Int)):Ev (fun k=>bE.j1 k b a x false) (zK b a x):=by
  obtain ⟨n0,n1⟩:=qO b hb x
  obtain ⟨m0,m1⟩:=qO b hb a
  refine Ev.succ ?_
  simp only [bE.j1]
  simp only [Bool.false_eq_true,if_false,if_pos hx.1,if_pos hx.2,if_pos ha.1,if_pos ha.2,w64 (x:=rd b x) (by omega) (by omega),w64 (x:=rd b a) (by omega) (by omega),w64 (x:=x+1) (by omega) (by omega),w64 (x:=(b.length:Int) - (x+1)) (by omega) (by omega),w64 (x:=x+1+rd b x) (by omega) (by omega)]
  unfold zK qK
  by_cases c1:rd b x>250
  · simp only [if_pos c1]
    exact Ev.now _
  by_cases c2:rd b x>(b.length:Int) - (x+1)
  · simp only [if_neg c1,if_pos c2]
    exact Ev.now _
  have hc:=cut_le b (x+1+rd b x).toNat (x+1).toNat
  simp only [if_neg c1,if_neg c2,if_pos (show 0≤x+1 by omega),if_pos (show x+1≤x+1+rd b x by omega),if_pos (show x+1+rd b x≤(b.length:Int) by omega),cZ.f,Option.bind_some,List.length_nil,List.nil_append,if_pos (show 0+((b.take (x+1+rd b x).toNat).drop (x+1).toNat).length<140737488355328 by omega)]
  exact Ev.now _
theorem yO (b:List Int) (a x:Int):Ev (fun k=>bE.j1 k b a x true) qK:=by
  refine Ev.succ ?_
  simp only [bE.j1]
  simp only [if_true]
  exact Ev.now _
theorem xP (b:List Int) (a:Int):Ev (fun k=>bE.j0 k b a true) qK:=by
  refine Ev.succ ?_
  simp only [bE.j0]
  simp only [if_true]
  exact Ev.now _
theorem uH (b:List Int) (a:Int) (hb:∀y ∈ b,0≤y∧y≤255) (hl:b.length≤1048576) (ha:¬(a<0∨a+1≥(b.length:Int))):Ev (fun k=>bE.j0 k b a false) (zH b a):=by
  obtain ⟨n0,n1⟩:=qO b hb (a+1)
  obtain ⟨m0,m1⟩:=qO b hb a
  refine Ev.succ ?_
  simp only [bE.j0]
  simp only [Bool.false_eq_true,if_false,w64 (x:=a+1) (by omega) (by omega),w64 (x:=a+2) (by omega) (by omega),if_pos (show 0≤a+1 by omega),if_pos (show a+1<(b.length:Int) by omega),w64 (x:=rd b (a+1)) (by omega) (by omega)]
  unfold zH
  simp only [if_neg ha]
  by_cases c:rd b (a+1)>127
  · simp only [if_pos c,if_pos (show rd b (a+1)≥128 by omega)]
    refine Ev.ite (fun _=>?_) (fun _=>yO _ _ _)
    refine Ev.ite (fun _=>yO _ _ _) (fun d=>?_)
    simp only [if_pos (show 0≤a+2 by omega),if_pos (show a+2<(b.length:Int) by omega)]
    by_cases e:rd b (a+2)<128
    · rw [decide_eq_true e,if_pos e]
      exact yO _ _ _
    · rw [decide_eq_false e,if_neg e]
      exact uG b a (a+2) hb hl (by omega) (by omega)
  · simp only [if_neg c,if_neg (show ¬rd b (a+1)≥128 by omega)]
    unfold zK qK
    simp only [show a+1+1=a+2 by omega,w64 (x:=(b.length:Int) - (a+2)) (by omega) (by omega),w64 (x:=a+2+rd b (a+1)) (by omega) (by omega),w64 (x:=rd b a) (by omega) (by omega),if_pos (show 0≤a by omega),if_pos (show a<(b.length:Int) by omega)]
    by_cases c1:rd b (a+1)>250
    · simp only [if_pos c1]
      exact Ev.now _
    by_cases c2:rd b (a+1)>(b.length:Int) - (a+2)
    · simp only [if_neg c1,if_pos c2]
      exact Ev.now _
    have hc:=cut_le b (a+2+rd b (a+1)).toNat (a+2).toNat
    simp only [if_neg c1,if_neg c2,if_pos (show 0≤a+2 by omega),if_pos (show a+2≤a+2+rd b (a+1) by omega),if_pos (show a+2+rd b (a+1)≤(b.length:Int) by omega),cZ.f,Option.bind_some,List.length_nil,List.nil_append,if_pos (show 0+((b.take (a+2+rd b (a+1)).toNat).drop (a+2).toNat).length<140737488355328 by omega)]
    exact Ev.now _
theorem yT (b:List Int) (a:Int) (hb:∀y ∈ b,0≤y∧y≤255) (hl:b.length≤1048576) (hw:-9223372036854775808≤a∧a≤9223372036854775807):Ev (fun k=>bE.f k b a) (zH b a):=by
  unfold bE.f
  by_cases c:a<0∨a+1≥(b.length:Int)
  · have e:zH b a=qK:=by unfold zH;rw [if_pos c]
    rw [e]
    by_cases c1:a<0
    · simp only [if_pos c1]
      exact xP _ _
    · simp only [if_neg c1,w64 (x:=(b.length:Int) - 2) (by omega) (by omega),decide_eq_true (show a>(b.length:Int) - 2 by omega)]
      exact xP _ _
  · simp only [if_neg (show ¬a<0 by omega),w64 (x:=(b.length:Int) - 2) (by omega) (by omega),decide_eq_false (show ¬a>(b.length:Int) - 2 by omega)]
    exact uH b a hb hl c

theorem qU (b:List Int) (P i:Nat) (hP:P≤b.length) (hi:i<P):(b.take P).drop i=rd b (i:Int)::(b.take P).drop (i+1):=by
  have hl:i<(b.take P).length:=by rw [List.length_take];omega
  rw [List.drop_eq_getElem_cons hl]
  congr 1
  unfold rd
  rw [List.getElem_take,List.getD_eq_getElem?_getD,Int.toNat_natCast,List.getElem?_eq_getElem (by omega)]
  rfl
theorem tail_true (b:List Int) (a x t p:Int) (y:List Int) (h:zK b a x=(t,y,p,true)):rd b x≤250∧x+1+rd b x≤(b.length:Int)∧t=rd b a∧y=(b.take (x+1+rd b x).toNat).drop (x+1).toNat∧p=x+1+rd b x:=by
  unfold zK qK at h
  by_cases c1:rd b x>250
  · rw [if_pos c1] at h
    simp at h
  by_cases c2:rd b x>(b.length:Int) - (x+1)
  · rw [if_neg c1,if_pos c2] at h
    simp at h
  rw [if_neg c1,if_neg c2] at h
  simp only [Prod.mk.injEq,and_true] at h
  exact ⟨by omega,by omega,h.1.symm,h.2.1.symm,h.2.2.symm⟩
theorem qS (b:List Int) (hb:xM b) (a t p:Int) (y:List Int) (h:zH b a=(t,y,p,true)):(0≤a∧a≤p∧p≤(b.length:Int))∧y.length≤250∧(b.take p.toNat).drop a.toNat=zG [] t y:=by
  unfold zH at h
  by_cases c:a<0∨a+1≥(b.length:Int)
  · rw [if_pos c] at h
    simp [qK] at h
  rw [if_neg c] at h
  obtain ⟨A,rfl⟩:=Int.eq_ofNat_of_zero_le (show 0≤a by omega)
  obtain ⟨m0,m1⟩:=qO b hb (A:Int)
  by_cases c1:rd b ((A:Int)+1)>127
  · rw [if_pos c1] at h
    by_cases c2:rd b ((A:Int)+1)=129
    · rw [if_pos c2] at h
      by_cases c3:(A:Int)+2≥(b.length:Int)
      · rw [if_pos c3] at h
        simp [qK] at h
      rw [if_neg c3] at h
      by_cases c4:rd b ((A:Int)+2)<128
      · rw [if_pos c4] at h
        simp [qK] at h
      rw [if_neg c4] at h
      obtain ⟨h1,h2,rfl,rfl,rfl⟩:=tail_true b _ _ _ _ _ h
      obtain ⟨n,hn⟩:=Int.eq_ofNat_of_zero_le (show 0≤rd b ((A:Int)+2) by omega)
      rw [hn] at h1 h2 c4 ⊢
      have e1:((A:Int)+2+1+(n:Int)).toNat=A+3+n:=by omega
      have e2:((A:Int)+2+1).toNat=A+3:=by omega
      rw [e1,e2,Int.toNat_natCast]
      have hlen:((b.take (A+3+n)).drop (A+3)).length=n:=by simp only [List.length_drop,List.length_take];omega
      refine ⟨by omega,by omega,?_⟩
      rw [qU b _ A (by omega) (by omega),qU b _ (A+1) (by omega) (by omega),qU b _ (A+1+1) (by omega) (by omega)]
      unfold zG yR
      rw [decide_eq_true (show 0≤rd b (A:Int)∧rd b (A:Int)≤255 from ⟨m0,m1⟩),decide_eq_true (show (((b.take (A+3+n)).drop (A+3)).length:Int)≤250 by omega)]
      simp only [Bool.and_self,if_true,List.nil_append]
      rw [xQ _ _ ⟨m0,m1⟩ (by omega) (by omega),hlen,show ((A+1:Nat):Int)=(A:Int)+1 by omega,show ((A+1+1:Nat):Int)=(A:Int)+2 by omega,c2,hn]
    · rw [if_neg c2] at h
      simp [qK] at h
  · rw [if_neg c1] at h
    obtain ⟨h1,h2,rfl,rfl,rfl⟩:=tail_true b _ _ _ _ _ h
    obtain ⟨n,hn⟩:=Int.eq_ofNat_of_zero_le (qO b hb ((A:Int)+1)).1
    rw [hn] at h1 h2 c1 ⊢
    have e1:((A:Int)+1+1+(n:Int)).toNat=A+2+n:=by omega
    have e2:((A:Int)+1+1).toNat=A+2:=by omega
    rw [e1,e2,Int.toNat_natCast]
    have hlen:((b.take (A+2+n)).drop (A+2)).length=n:=by simp only [List.length_drop,List.length_take];omega
    refine ⟨by omega,by omega,?_⟩
    rw [qU b _ A (by omega) (by omega),qU b _ (A+1) (by omega) (by omega)]
    unfold zG yR
    rw [decide_eq_true (show 0≤rd b (A:Int)∧rd b (A:Int)≤255 from ⟨m0,m1⟩),decide_eq_true (show (((b.take (A+2+n)).drop (A+2)).length:Int)≤250 by omega)]
    simp only [Bool.and_self,if_true,List.nil_append]
    rw [yL _ _ ⟨m0,m1⟩ (by omega),hlen,show ((A+1:Nat):Int)=(A:Int)+1 by omega,hn]

theorem xZ (n:Int):xM (zB n):=by
  unfold zB
  intro y hy
  split at hy
  · simp only [List.mem_cons,List.not_mem_nil,or_false] at hy;omega
  · split at hy
    · simp only [List.mem_cons,List.not_mem_nil,or_false] at hy;omega
    · split at hy
      · simp only [List.mem_cons,List.not_mem_nil,or_false] at hy;omega
      · simp only [List.mem_cons,List.not_mem_nil,or_false] at hy;omega
theorem xU (n x:Int) (hn:-2147483648≤n∧n≤2147483647) (hx:0≤x∧x≤255):xJ n x=n*256+x:=by
  unfold xJ
  rw [w64 (x:=n*256) (by omega) (by omega),w64 (x:=x) (by omega) (by omega)]
  simp only [Go.bits,BitVec.toNat_or,BitVec.toNat_ofInt]
  have hk:(2:Int) ^ IntKind.i64.bits=18446744073709551616:=by decide
  have hk':((2 ^ IntKind.i64.bits:Nat):Int)=18446744073709551616:=by decide
  simp only [hk']
  have h2:(x % 18446744073709551616).toNat<2 ^ 8:=by omega
  have h3:((n*256) % 18446744073709551616).toNat=2 ^ 8*(((n*256) % 18446744073709551616).toNat / 2 ^ 8):=by omega
  rw [h3,← Nat.two_pow_add_eq_or_of_lt h2,← h3,IntKind.wrap_i64]
  omega
def qJ (b:Int):Int:=if b>127 then b - 256 else b
theorem vI (b:Int) (h:0≤b∧b≤255):-128≤qJ b∧qJ b≤127∧qJ b % 256=b:=by
  unfold qJ
  split<;>omega
theorem vA (n:Int) (h:-2147483648≤n∧n≤2147483647):zD n=n:=by
  unfold zD
  rw [if_neg (by omega),if_neg (by omega)]
theorem qQ (n:Int) (h:-128≤n∧n≤127):zB n=[n % 256]:=by unfold zB;rw [if_pos h]
theorem uA (n:Int) (h0:¬(-128≤n∧n≤127)) (h:-32768≤n∧n≤32767):zB n=[n / 256 % 256,n % 256]:=by unfold zB;rw [if_neg h0,if_pos h]
theorem putInt_3 (n:Int) (h0:¬(-32768≤n∧n≤32767)) (h:-8388608≤n∧n≤8388607):zB n=[n / 65536 % 256,n / 256 % 256,n % 256]:=by unfold zB;rw [if_neg (by omega),if_neg h0,if_pos h]
theorem putInt_4 (n:Int) (h0:¬(-8388608≤n∧n≤8388607)):zB n=[n / 16777216 % 256,n / 65536 % 256,n / 256 % 256,n % 256]:=by unfold zB;rw [if_neg (by omega),if_neg (by omega),if_neg h0]
theorem raw1 (a:Int):xB [a]=qJ a:=rfl
theorem raw2 (a b:Int) (ha:0≤a∧a≤255) (hb:0≤b∧b≤255):xB [a,b]=qJ a*256+b:=by
  have h:=vI a ha
  show xJ (qJ a) b=_
  rw [xU _ _ (by omega) hb]
theorem raw3 (a b c:Int) (ha:0≤a∧a≤255) (hb:0≤b∧b≤255) (hc:0≤c∧c≤255):xB [a,b,c]=(qJ a*256+b)*256+c:=by
  have h:=vI a ha
  show xJ (xJ (qJ a) b) c=_
  rw [xU (qJ a) b (by omega) hb,xU _ _ (by omega) hc]
theorem raw4 (a b c d:Int) (ha:0≤a∧a≤255) (hb:0≤b∧b≤255) (hc:0≤c∧c≤255) (hd:0≤d∧d≤255):xB [a,b,c,d]=((qJ a*256+b)*256+c)*256+d:=by
  have h:=vI a ha
  show xJ (xJ (xJ (qJ a) b) c) d=_
  rw [xU (qJ a) b (by omega) hb,xU _ c (by omega) hc,xU _ _ (by omega) hd]
theorem raw_put (n:Int) (h:-2147483648≤n∧n≤2147483647):xB (zB n)=n:=by
  by_cases c1:-128≤n∧n≤127
  · rw [qQ n c1,raw1]
    unfold qJ
    split<;>omega
  by_cases c2:-32768≤n∧n≤32767
  · rw [uA n c1 c2,raw2 _ _ (by omega) (by omega)]
    unfold qJ
    split<;>omega
  by_cases c3:-8388608≤n∧n≤8388607
  · rw [putInt_3 n c2 c3,raw3 _ _ _ (by omega) (by omega) (by omega)]
    unfold qJ
    split<;>omega
  · rw [putInt_4 n c3,raw4 _ _ _ _ (by omega) (by omega) (by omega) (by omega)]
    unfold qJ
    split<;>omega
theorem putInt_pos (n:Int):1≤(zB n).length:=by
  unfold zB
  split
  · simp
  · split
    · simp
    · split<;>simp
theorem getInt_put (n:Int):yP (zB (zD n))=(zD n,true):=by
  have h:=clip_bd n
  have h1:=putInt_pos (zD n)
  have h2:=zR (zD n)
  unfold yP
  rw [if_pos (by omega),raw_put _ h,vA _ h,if_pos rfl]
theorem put_raw (l:List Int) (hb:xM l) (h1:1≤l.length) (h4:l.length≤4) (he:(zB (zD (xB l))).length=l.length):zB (zD (xB l))=l:=by
  rcases l with _|⟨a,_|⟨b,_|⟨c,_|⟨d,_|⟨e,l⟩⟩⟩⟩⟩
  · simp at h1
  · have ha:=hb a (by simp)
    have t:=vI a ha
    rw [raw1,vA _ (by omega),qQ _ (by omega),t.2.2]
  · have ha:=hb a (by simp)
    have hb':=hb b (by simp)
    have t:=vI a ha
    rw [raw2 a b ha hb',vA _ (by omega)] at he ⊢
    by_cases c1:-128≤qJ a*256+b∧qJ a*256+b≤127
    · rw [qQ _ c1] at he
      simp at he
    · rw [uA _ c1 (by omega),show (qJ a*256+b) / 256 % 256=a by omega,show (qJ a*256+b) % 256=b by omega]
  · have ha:=hb a (by simp)
    have hb':=hb b (by simp)
    have hc:=hb c (by simp)
    have t:=vI a ha
    rw [raw3 a b c ha hb' hc,vA _ (by omega)] at he ⊢
    by_cases c1:-128≤(qJ a*256+b)*256+c∧(qJ a*256+b)*256+c≤127
    · rw [qQ _ c1] at he
      simp at he
    by_cases c2:-32768≤(qJ a*256+b)*256+c∧(qJ a*256+b)*256+c≤32767
    · rw [uA _ c1 c2] at he
      simp at he
    · rw [putInt_3 _ c2 (by omega),show ((qJ a*256+b)*256+c) / 65536 % 256=a by omega,show ((qJ a*256+b)*256+c) / 256 % 256=b by omega,show ((qJ a*256+b)*256+c) % 256=c by omega]
  · have ha:=hb a (by simp)
    have hb':=hb b (by simp)
    have hc:=hb c (by simp)
    have hd:=hb d (by simp)
    have t:=vI a ha
    rw [raw4 a b c d ha hb' hc hd,vA _ (by omega)] at he ⊢
    by_cases c1:-128≤((qJ a*256+b)*256+c)*256+d∧((qJ a*256+b)*256+c)*256+d≤127
    · rw [qQ _ c1] at he
      simp at he
    by_cases c2:-32768≤((qJ a*256+b)*256+c)*256+d∧((qJ a*256+b)*256+c)*256+d≤32767
    · rw [uA _ c1 c2] at he
      simp at he
    by_cases c3:-8388608≤((qJ a*256+b)*256+c)*256+d∧((qJ a*256+b)*256+c)*256+d≤8388607
    · rw [putInt_3 _ c2 c3] at he
      simp at he
    · rw [putInt_4 _ c3,show (((qJ a*256+b)*256+c)*256+d) / 16777216 % 256=a by omega,show (((qJ a*256+b)*256+c)*256+d) / 65536 % 256=b by omega,show (((qJ a*256+b)*256+c)*256+d) / 256 % 256=c by omega,show (((qJ a*256+b)*256+c)*256+d) % 256=d by omega]
  · simp at h4
theorem getInt_ok (l:List Int) (hb:xM l) (h:(yP l).2=true):zB (zD (yP l).1)=l:=by
  unfold yP at h ⊢
  by_cases c:1≤(l.length:Int)∧(l.length:Int)≤4
  · rw [if_pos c] at h ⊢
    by_cases d:((zB (zD (xB l))).length:Int)=(l.length:Int)
    · rw [if_pos d]
      exact put_raw l hb (by omega) (by omega) (by omega)
    · rw [if_neg d] at h
      simp at h
  · rw [if_neg c] at h
    simp at h

theorem rd_1 (pre rest:List Int) (t y:Int):rd (pre++t::y::rest) ((pre.length:Int)+1)=y:=by
  have h:=zV (pre++[t]) rest y
  simp only [List.append_assoc,List.cons_append,List.nil_append] at h
  rw [show ((pre++[t]).length:Int)=(pre.length:Int)+1 by simp] at h
  exact h
theorem rd_2 (pre rest:List Int) (t u y:Int):rd (pre++t::u::y::rest) ((pre.length:Int)+2)=y:=by
  have h:=zV (pre++[t,u]) rest y
  simp only [List.append_assoc,List.cons_append,List.nil_append] at h
  rw [show ((pre++[t,u]).length:Int)=(pre.length:Int)+2 by simp] at h
  exact h
theorem tail_full (L A body:List Int) (a x n t:Int) (hL:L=A++body) (hx:(A.length:Int)=x+1) (hn:n=(body.length:Int)) (hr:rd L x=n) (ht:rd L a=t) (h:n≤250):
    zK L a x=(t,body,(L.length:Int),true):=by
  have hll:(L.length:Int)=(A.length:Int)+body.length:=by rw [hL,List.length_append];omega
  have e1:(x+1+n).toNat=L.length:=by omega
  have e2:(x+1).toNat=A.length:=by omega
  unfold zK
  rw [hr,ht,if_neg (by omega),if_neg (by omega),e1,e2,List.take_length,show x+1+n=(L.length:Int) by omega,hL,List.drop_left]
theorem get_short (pre body:List Int) (t n:Int) (h1:n≤127):
    zH (pre++t::n::body) (pre.length:Int)=zK (pre++t::n::body) (pre.length:Int) ((pre.length:Int)+1):=by
  unfold zH
  rw [if_neg (by simp only [List.length_append,List.length_cons];omega),rd_1,if_neg (by omega)]
theorem get_long (pre body:List Int) (t n:Int) (h1:128≤n):
    zH (pre++t::129::n::body) (pre.length:Int)=zK (pre++t::129::n::body) (pre.length:Int) ((pre.length:Int)+2):=by
  unfold zH
  rw [if_neg (by simp only [List.length_append,List.length_cons];omega),rd_1,if_pos (by omega),if_pos rfl,if_neg (by simp only [List.length_append,List.length_cons];omega),rd_2,if_neg (by omega)]
theorem get_full (pre body:List Int) (t:Int) (ht:0≤t∧t≤255) (h:body.length≤250):zH (pre++zA t body) (pre.length:Int)=(t,body,((pre++zA t body).length:Int),true):=by
  by_cases c:body.length≤127
  · rw [yL t body ht c,get_short _ _ _ _ (by omega)]
    exact tail_full _ (pre++[t,(body.length:Int)]) body _ _ _ t (by simp) (by simp only [List.length_append,List.length_cons,List.length_nil];omega) rfl (rd_1 _ _ _ _) (zV _ _ _) (by omega)
  · rw [xQ t body ht (by omega) h,get_long _ _ _ _ (by omega)]
    exact tail_full _ (pre++[t,129,(body.length:Int)]) body _ _ _ t (by simp) (by simp only [List.length_append,List.length_cons,List.length_nil];omega) rfl (rd_2 _ _ _ _ _) (zV _ _ _) (by omega)

theorem tlvTail_or (b:List Int) (a x:Int) (hb:∀y ∈ b,0≤y∧y≤255):zK b a x=qK∨((zK b a x).2.2.2=true∧∀y ∈ (zK b a x).2.1,0≤y∧y≤255):=by
  unfold zK
  split
  · exact Or.inl rfl
  · split
    · exact Or.inl rfl
    · exact Or.inr ⟨rfl,fun y hy=>hb y (List.mem_of_mem_take (List.mem_of_mem_drop hy))⟩
theorem getTlv_or (b:List Int) (a:Int) (hb:∀y ∈ b,0≤y∧y≤255):zH b a=qK∨((zH b a).2.2.2=true∧∀y ∈ (zH b a).2.1,0≤y∧y≤255):=by
  unfold zH
  split
  · exact Or.inl rfl
  · split
    · split
      · split
        · exact Or.inl rfl
        · split
          · exact Or.inl rfl
          · exact tlvTail_or b a _ hb
      · exact Or.inl rfl
    · exact tlvTail_or b a _ hb
def yK:Int × Int × ByteArray × List Int × Int × Bool:=(0,0,⟨#[]⟩,[],0,false)
theorem sVal_ev (t n:Int) (s:ByteArray) (o:List Int) (p:Int) (h:o.length≤1048576):Ev (fun k=>(b5.f k t n s o).bind fun v=>if v=true then some (t,n,s,o,p,true) else some (0,0,(⟨#[]⟩:ByteArray),([]:List Int),0,false)) (if yA t n s o=true then (t,n,s,o,p,true) else yK):=by
  refine Ev.bind (sValOk_ev t n s o h) ?_
  exact Ev.ite (fun _=>Ev.now _) (fun _=>Ev.now _)
theorem xE (t n:Int) (s:ByteArray) (o:List Int) (p:Int) (h:o.length≤1048576):Ev (fun k=>(cT.f k t n s o).bind fun v=>if v=true then some (t,n,s,o,p,true) else some (0,0,(⟨#[]⟩:ByteArray),([]:List Int),0,false)) (if yA t n s o=true then (t,n,s,o,p,true) else yK):=by
  refine Ev.bind (iValOk_ev t n s o h) ?_
  exact Ev.ite (fun _=>Ev.now _) (fun _=>Ev.now _)
theorem val_len (t n:Int) (s:ByteArray) (o:List Int) (p:Int) (h:o.length≤10):(if yA t n s o=true then (t,n,s,o,p,true) else yK).2.2.2.1.length≤10:=by
  split
  · exact h
  · simp [yK]
theorem getVal_both (l:List Int) (a:Int) (hb:∀y ∈ l,0≤y∧y≤255) (hl:l.length≤1048576) (ha:-9223372036854775808≤a∧a≤9223372036854775807):
    ∃R,Ev (fun k=>eY.f k l a) R∧Ev (fun k=>eW.f k l a) R∧R.2.2.2.1.length≤10:=by
  have hs:=vM l a hb hl ha
  have hi:=yT l a hb hl ha
  have hy:=qF l a
  have hor:=getTlv_or l a hb
  generalize zH l a=T at hs hi hy hor
  obtain ⟨t,y,p,q⟩:=T
  have hy:y.length≤l.length:=hy
  unfold eY.f eW.f
  rcases hor with hor|⟨hq,hby⟩
  · unfold qK at hor
    simp only [Prod.mk.injEq] at hor
    obtain ⟨rfl,rfl,rfl,rfl⟩:=hor
    refine ⟨yK,Ev.bind hs ?_,Ev.bind hi ?_,by simp [yK]⟩
    · simp only [if_neg (show ¬(0:Int)=2 by omega),if_neg (show ¬(0:Int)=4 by omega),if_neg (show ¬(0:Int)=6 by omega),Bool.false_eq_true,if_false]
      exact Ev.now _
    · simp only [Bool.false_eq_true,if_false]
      exact Ev.now _
  · have hq:q=true:=hq
    have hby:∀z ∈ y,0≤z∧z≤255:=hby
    subst hq
    by_cases c2:t=2
    · have gs:=sGetInt_ev y hby (by omega)
      have gi:=qD y hby (by omega)
      generalize yP y=G at gs gi
      obtain ⟨n,g⟩:=G
      cases g with
      |true=>
        refine ⟨_,Ev.bind hs ?_,Ev.bind hi ?_,val_len t n ⟨#[]⟩ [] p (by simp)⟩
        · simp only [if_pos c2,if_true]
          refine Ev.bind gs ?_
          simp only [if_true]
          exact sVal_ev t n _ [] p (by simp)
        · simp only [if_pos c2,if_true]
          refine Ev.bind gi ?_
          simp only [if_true]
          exact xE t n _ [] p (by simp)
      |false=>
        refine ⟨yK,Ev.bind hs ?_,Ev.bind hi ?_,by simp [yK]⟩
        · simp only [if_pos c2,if_true]
          refine Ev.bind gs ?_
          simp only [Bool.false_eq_true,if_false]
          exact Ev.now _
        · simp only [if_pos c2,if_true]
          refine Ev.bind gi ?_
          simp only [Bool.false_eq_true,if_false]
          exact Ev.now _
    by_cases c4:t=4
    · refine ⟨_,Ev.bind hs ?_,Ev.bind hi ?_,val_len t 0 (strOfNums y) [] p (by simp)⟩
      · simp only [if_neg c2,if_pos c4,if_true]
        exact sVal_ev t 0 _ [] p (by simp)
      · simp only [if_neg c2,if_pos c4,if_true]
        exact xE t 0 _ [] p (by simp)
    by_cases c6:t=6
    · obtain ⟨G,gs,gi,hg⟩:=xA y hby (by omega)
      obtain ⟨o,g⟩:=G
      have hg:o.length≤10:=hg
      cases g with
      |true=>
        refine ⟨_,Ev.bind hs ?_,Ev.bind hi ?_,val_len t 0 ⟨#[]⟩ o p hg⟩
        · simp only [if_neg c2,if_neg c4,if_pos c6,if_true]
          refine Ev.bind gs ?_
          simp only [if_true]
          exact sVal_ev t 0 _ o p (by omega)
        · simp only [if_neg c2,if_neg c4,if_pos c6,if_true]
          refine Ev.bind gi ?_
          simp only [if_true]
          exact xE t 0 _ o p (by omega)
      |false=>
        refine ⟨yK,Ev.bind hs ?_,Ev.bind hi ?_,by simp [yK]⟩
        · simp only [if_neg c2,if_neg c4,if_pos c6,if_true]
          refine Ev.bind gs ?_
          simp only [Bool.false_eq_true,if_false]
          exact Ev.now _
        · simp only [if_neg c2,if_neg c4,if_pos c6,if_true]
          refine Ev.bind gi ?_
          simp only [Bool.false_eq_true,if_false]
          exact Ev.now _
    by_cases c0:(y.length:Int)=0
    · refine ⟨_,Ev.bind hs ?_,Ev.bind hi ?_,val_len t 0 ⟨#[]⟩ [] p (by simp)⟩
      · simp only [if_neg c2,if_neg c4,if_neg c6,if_true,if_pos c0]
        exact sVal_ev t 0 _ [] p (by simp)
      · simp only [if_neg c2,if_neg c4,if_neg c6,if_true,if_pos c0]
        exact xE t 0 _ [] p (by simp)
    · refine ⟨yK,Ev.bind hs ?_,Ev.bind hi ?_,by simp [yK]⟩
      · simp only [if_neg c2,if_neg c4,if_neg c6,if_true,if_neg c0]
        exact Ev.now _
      · simp only [if_neg c2,if_neg c4,if_neg c6,if_true,if_neg c0]
        exact Ev.now _

def zJ (t n:Int) (s:ByteArray) (o:List Int):List Int:=if t=2 then zB (zD n) else if t=4 then fN s else if t=6 then zF o else []
def zQ (l:List Int) (t n:Int) (s:ByteArray) (o:List Int):List Int:=if yA t n s o=true then zG l t (zJ t n s o) else l
theorem putVal_len (l:List Int) (t n:Int) (s:ByteArray) (o:List Int):(zQ l t n s o).length≤l.length+253:=by
  unfold zQ
  split
  · exact putTlv_len _ _ _
  · omega
theorem vH (n:Int) (s:ByteArray) (o:List Int) (h:yA 4 n s o=true):(s.size:Int)≤20:=by
  unfold yA at h
  rw [if_neg (by omega),if_neg (by omega),if_pos rfl] at h
  by_cases c:(s.size:Int)≤20
  · exact c
  · rw [if_neg c] at h
    simp at h

theorem sPutVal_ev (l:List Int) (t n:Int) (s:ByteArray) (o:List Int) (hl:l.length≤1048576) (ho:o.length≤1048576):Ev (fun k=>fI.f k l t n s o) (zQ l t n s o):=by
  unfold fI.f zQ
  refine Ev.bind (sValOk_ev t n s o ho) ?_
  refine Ev.ite (fun hv=>?_) (fun _=>?_)
  · unfold zJ
    by_cases c2:t=2
    · simp only [if_pos c2]
      refine Ev.bind (xH n) (Ev.bind (zU l t _ (by omega) (by have:=zR (zD n);omega)) (Ev.now _))
    by_cases c4:t=4
    · subst c4
      have hs:=vH n s o hv
      simp only [if_neg c2,if_true,if_pos (show (s.size:Int)<140737488355328 by omega)]
      refine Ev.bind (zU l 4 _ (by omega) (by rw [gD];omega)) (Ev.now _)
    by_cases c6:t=6
    · simp only [if_neg c2,if_neg c4,if_pos c6]
      refine Ev.bind (sPutOid_ev o ho) (Ev.bind (zU l t _ (by omega) (by have:=yE o;omega)) (Ev.now _))
    · simp only [if_neg c2,if_neg c4,if_neg c6]
      exact Ev.bind (zU l t [] (by omega) (by simp)) (Ev.now _)
  · simp only [Option.bind_some,List.nil_append,List.length_nil,if_pos (show 0+l.length<140737488355328 by omega)]
    exact Ev.now _

theorem iPutVal_ev (l:List Int) (t n:Int) (s:ByteArray) (o:List Int) (hl:l.length≤1048576) (ho:o.length≤1048576):Ev (fun k=>fB.f k l t n s o) (zQ l t n s o):=by
  unfold fB.f zQ
  refine Ev.bind (iValOk_ev t n s o ho) ?_
  refine Ev.ite (fun hv=>?_) (fun _=>?_)
  · unfold zJ
    by_cases c2:t=2
    · simp only [if_pos c2]
      refine Ev.bind (vS n) (Ev.bind (yS l t _ (by omega) (by have:=zR (zD n);omega)) (Ev.now _))
    by_cases c4:t=4
    · subst c4
      have hs:=vH n s o hv
      simp only [if_neg c2,if_true,if_pos (show (s.size:Int)<140737488355328 by omega)]
      refine Ev.bind (yS l 4 _ (by omega) (by rw [gD];omega)) (Ev.now _)
    by_cases c6:t=6
    · simp only [if_neg c2,if_neg c4,if_pos c6]
      refine Ev.bind (vQ o ho) (Ev.bind (yS l t _ (by omega) (by have:=yE o;omega)) (Ev.now _))
    · simp only [if_neg c2,if_neg c4,if_neg c6]
      exact Ev.bind (yS l t [] (by omega) (by simp)) (Ev.now _)
  · rw [vE l (by omega)]
    exact Ev.now _

theorem qT (o:List Int) (ho:zO o=true):Ev (fun k=>cS.f k (zF o)) (o,true)∧∀y,y ∈ zF o→0≤y∧y≤255:=by
  refine ⟨?_,yF o⟩
  have hl:=yE o
  obtain ⟨R,hs,hi,_⟩:=xA (zF o) (yF o) (by omega)
  have ho':=ho
  simp only [zO,Bool.and_eq_true,decide_eq_true_eq] at ho'
  have e:=sGetOid_yes o [] [] (by simpa using ho) (by simp only [List.length_nil];omega)
  have hp:zF o=o.flatMap zL:=by unfold zF;rw [if_pos ho]
  have e2:Ev (fun k=>bO.f k (zF o)) (o,true):=by
    unfold bO.f
    rw [hp]
    simpa using e
  rw [← Ev.uniq hs e2]
  exact hi
theorem getOid_read (l:List Int) (hw:bytes l) (hl:l.length≤1048576) (R:List Int × Bool) (hi:Ev (fun k=>cS.f k l) R) (h:R.2=true):zF R.1=l:=by
  by_cases c:∃o,zO o=true∧o.flatMap zL=l
  · obtain ⟨o,ho,rfl⟩:=c
    have hp:zF o=o.flatMap zL:=by unfold zF;rw [if_pos ho]
    have e:=(qT o ho).1
    rw [hp] at e
    rw [Ev.uniq hi e]
    exact hp
  · have hno:∀o,zO o=true→o.flatMap zL≠l:=fun o ho e=>c ⟨o,ho,e⟩
    obtain ⟨R2,hs,hi2,_⟩:=xA l hw hl
    have e:=sGetOid_no l.length l [] (Nat.le_refl _) hw (by simpa using hl) (by simpa using hno)
    have e2:Ev (fun k=>bO.f k l) ([],false):=by
      unfold bO.f
      simpa using e
    rw [Ev.uniq hi hi2,Ev.uniq hs e2] at h
    simp at h

theorem qV (s:ByteArray):∀y ∈ fN s,0≤y∧y≤255:=by
  intro y hy
  unfold fN at hy
  obtain ⟨b,_,rfl⟩:=List.mem_map.1 hy
  have:=b.toNat_lt
  omega
theorem uC (s:ByteArray):strOfNums (fN s)=s:=by
  obtain ⟨d⟩:=s
  unfold strOfNums fN
  congr 1
  rw [List.map_map]
  have h:((fun n:Int=>UInt8.ofNat n.toNat) ∘ fun b:UInt8=>(b.toNat:Int))=id:=by
    funext b
    simp
  rw [h,List.map_id]
theorem bytes_ofNums (y:List Int) (hy:∀z ∈ y,0≤z∧z≤255):fN (strOfNums y)=y:=by
  have h2:=qV (strOfNums y)
  exact strNums_inj _ _ h2 hy (by rw [uC])
def goodVal (l:List Int) (a:Int) (R:Int × Int × ByteArray × List Int × Int × Bool):Prop:=
  R.2.2.2.2.2=true→yA R.1 R.2.1 R.2.2.1 R.2.2.2.1=true∧zQ [] R.1 R.2.1 R.2.2.1 R.2.2.2.1=(l.take R.2.2.2.2.1.toNat).drop a.toNat∧0≤a∧a≤R.2.2.2.2.1∧R.2.2.2.2.1≤(l.length:Int)
theorem vU (l:List Int) (a t n p:Int) (s:ByteArray) (o y:List Int) (h0:0≤a∧a≤p∧p≤(l.length:Int)) (hc:(l.take p.toNat).drop a.toNat=zG [] t y) (hb:zJ t n s o=y):goodVal l a (if yA t n s o=true then (t,n,s,o,p,true) else yK):=by
  intro h
  by_cases c:yA t n s o=true
  · rw [if_pos c] at h ⊢
    refine ⟨c,?_,h0.1,h0.2.1,h0.2.2⟩
    show zQ [] t n s o=_
    unfold zQ
    rw [if_pos c,hb]
    exact hc.symm
  · rw [if_neg c] at h
    simp [yK] at h
theorem no_good (l:List Int) (a:Int):goodVal l a yK:=by intro h;simp [yK] at h
theorem iGetVal_read (l:List Int) (a:Int) (hb:xM l) (hl:l.length≤1048576) (ha:-9223372036854775808≤a∧a≤9223372036854775807):∃R,Ev (fun k=>eW.f k l a) R∧goodVal l a R:=by
  have hi:=yT l a hb hl ha
  have hy:=qF l a
  have hor:=getTlv_or l a hb
  have ht:=qS l hb a
  generalize zH l a=T at hi hy hor ht
  obtain ⟨t,y,p,q⟩:=T
  have hy:y.length≤l.length:=hy
  unfold eW.f
  cases q with
  |false=>
    refine ⟨yK,Ev.bind hi ?_,no_good l a⟩
    simp only [Bool.false_eq_true,if_false]
    exact Ev.now _
  |true=>
    obtain ⟨h0,hy2,hc⟩:=ht t p y rfl
    have hby:∀z ∈ y,0≤z∧z≤255:=by
      rcases hor with h|h
      · simp [qK] at h
      · exact h.2
    by_cases c2:t=2
    · have gi:=qD y hby (by omega)
      have hg:=getInt_ok y hby
      generalize yP y=G at gi hg
      obtain ⟨n,g⟩:=G
      cases g with
      |true=>
        refine ⟨_,Ev.bind hi ?_,vU l a t n p ⟨#[]⟩ [] y h0 hc (by unfold zJ;rw [if_pos c2];exact hg rfl)⟩
        simp only [if_pos c2,if_true]
        refine Ev.bind gi ?_
        simp only [if_true]
        exact xE t n _ [] p (by simp)
      |false=>
        refine ⟨yK,Ev.bind hi ?_,no_good l a⟩
        simp only [if_pos c2,if_true]
        refine Ev.bind gi ?_
        simp only [Bool.false_eq_true,if_false]
        exact Ev.now _
    by_cases c4:t=4
    · refine ⟨_,Ev.bind hi ?_,vU l a t 0 p (strOfNums y) [] y h0 hc (by unfold zJ;rw [if_neg c2,if_pos c4];exact bytes_ofNums y hby)⟩
      simp only [if_neg c2,if_pos c4,if_true]
      exact xE t 0 _ [] p (by simp)
    by_cases c6:t=6
    · obtain ⟨G,_,gi,hg⟩:=xA y hby (by omega)
      have hr:=getOid_read y hby (by omega) G gi
      obtain ⟨o,g⟩:=G
      have hg:o.length≤10:=hg
      cases g with
      |true=>
        refine ⟨_,Ev.bind hi ?_,vU l a t 0 p ⟨#[]⟩ o y h0 hc (by unfold zJ;rw [if_neg c2,if_neg c4,if_pos c6];exact hr rfl)⟩
        simp only [if_neg c2,if_neg c4,if_pos c6,if_true]
        refine Ev.bind gi ?_
        simp only [if_true]
        exact xE t 0 _ o p (by omega)
      |false=>
        refine ⟨yK,Ev.bind hi ?_,no_good l a⟩
        simp only [if_neg c2,if_neg c4,if_pos c6,if_true]
        refine Ev.bind gi ?_
        simp only [Bool.false_eq_true,if_false]
        exact Ev.now _
    by_cases c0:(y.length:Int)=0
    · refine ⟨_,Ev.bind hi ?_,vU l a t 0 p ⟨#[]⟩ [] y h0 hc (by unfold zJ;rw [if_neg c2,if_neg c4,if_neg c6];exact (List.length_eq_zero_iff.1 (by omega)).symm)⟩
      simp only [if_neg c2,if_neg c4,if_neg c6,if_true,if_pos c0]
      exact xE t 0 _ [] p (by simp)
    · refine ⟨yK,Ev.bind hi ?_,no_good l a⟩
      simp only [if_neg c2,if_neg c4,if_neg c6,if_true,if_neg c0]
      exact Ev.now _

theorem val_kinds (t n:Int) (s:ByteArray) (o:List Int) (h:yA t n s o=true):(t=2∧zD n=n∧s.toList=[]∧o=[])∨(t=4∧(s.size:Int)≤20∧n=0∧o=[])∨(t=6∧zO o=true∧n=0∧s.toList=[])∨((t=5∨t=128∨t=130)∧n=0∧s.toList=[]∧o=[]):=by
  unfold yA at h
  by_cases c5:t=5∨t=128∨t=130
  · rw [if_pos c5] at h
    unfold valNil at h
    by_cases a1:n=0
    · by_cases a2:s.toList=([]:List UInt8)
      · rw [if_pos a1,if_pos a2,beq_iff_eq] at h
        exact Or.inr (Or.inr (Or.inr ⟨c5,a1,a2,List.length_eq_zero_iff.1 (by omega)⟩))
      · rw [if_pos a1,if_neg a2] at h
        simp at h
    · rw [if_neg a1] at h
      simp at h
  rw [if_neg c5] at h
  by_cases c2:t=2
  · rw [if_pos c2] at h
    by_cases a1:zD n=n
    · by_cases a2:s.toList=([]:List UInt8)
      · rw [if_pos a1,if_pos a2,beq_iff_eq] at h
        exact Or.inl ⟨c2,a1,a2,List.length_eq_zero_iff.1 (by omega)⟩
      · rw [if_pos a1,if_neg a2] at h
        simp at h
    · rw [if_neg a1] at h
      simp at h
  rw [if_neg c2] at h
  by_cases c4:t=4
  · rw [if_pos c4] at h
    by_cases a1:(s.size:Int)≤20
    · by_cases a2:n=0
      · rw [if_pos a1,if_pos a2,beq_iff_eq] at h
        exact Or.inr (Or.inl ⟨c4,a1,a2,List.length_eq_zero_iff.1 (by omega)⟩)
      · rw [if_pos a1,if_neg a2] at h
        simp at h
    · rw [if_neg a1] at h
      simp at h
  rw [if_neg c4] at h
  by_cases c6:t=6
  · rw [if_pos c6] at h
    by_cases a1:zO o=true
    · by_cases a2:n=0
      · rw [if_pos a1,if_pos a2,beq_iff_eq] at h
        exact Or.inr (Or.inr (Or.inl ⟨c6,a1,a2,h⟩))
      · rw [if_pos a1,if_neg a2] at h
        simp at h
    · rw [if_neg a1] at h
      simp at h
  · rw [if_neg c6] at h
    simp at h
theorem noStr:(⟨#[]⟩:ByteArray).toList=([]:List UInt8):=uI
theorem xN (t n:Int) (s:ByteArray) (o:List Int) (h:yA t n s o=true):(zJ t n s o).length≤30:=by
  have h1:=zR (zD n)
  have h2:=yE o
  unfold zJ
  by_cases c2:t=2
  · rw [if_pos c2];omega
  by_cases c4:t=4
  · subst c4
    have:=vH n s o h
    rw [if_neg c2,if_pos rfl,gD];omega
  rw [if_neg c2,if_neg c4]
  split
  · omega
  · simp

def zW (l:List Int) (p:Int) (b:Bool) (t:Int):List Int × Int × Bool:=
  if b=true then ([],p,true) else if (zH l p).2.2.2=true then (if (zH l p).1=t then ((zH l p).2.1,(zH l p).2.2.1,b) else ([],p,true)) else ([],p,true)
def uD (l:List Int) (p:Int) (b:Bool) (t:Int):Int × Int × Bool:=
  if (zW l p b t).2.2=true then ((yP (zW l p b t).1).1,(zW l p b t).2.1,true) else ((yP (zW l p b t).1).1,(zW l p b t).2.1, !(yP (zW l p b t).1).2)
theorem tlvTail_in (l:List Int) (a x:Int) (hb:∀y ∈ l,0≤y∧y≤255) (hx:-1≤x):(0≤(zK l a x).2.2.1∧(zK l a x).2.2.1≤(l.length:Int))∧∀y ∈ (zK l a x).2.1,0≤y∧y≤255:=by
  have hr:=qO l hb x
  unfold zK qK
  split
  · exact ⟨⟨by simp,by simp⟩,by simp⟩
  · split
    · exact ⟨⟨by simp,by simp⟩,by simp⟩
    · exact ⟨⟨by show 0≤x+1+rd l x;omega,by show x+1+rd l x≤_;omega⟩,fun y hy=>hb y (List.mem_of_mem_take (List.mem_of_mem_drop hy))⟩
theorem getTlv_in (l:List Int) (a:Int) (hb:∀y ∈ l,0≤y∧y≤255):(0≤(zH l a).2.2.1∧(zH l a).2.2.1≤(l.length:Int))∧∀y ∈ (zH l a).2.1,0≤y∧y≤255:=by
  have hz:(0≤qK.2.2.1∧qK.2.2.1≤(l.length:Int))∧∀y ∈ qK.2.1,0≤y∧y≤255:=⟨⟨by simp [qK],by simp [qK]⟩,by simp [qK]⟩
  unfold zH
  split
  · exact hz
  · rename_i h
    split
    · split
      · split
        · exact hz
        · split
          · exact hz
          · exact tlvTail_in l a _ hb (by omega)
      · exact hz
    · exact tlvTail_in l a _ hb (by omega)
theorem xS (l:List Int) (p:Int) (b:Bool) (t:Int) (hb:∀y ∈ l,0≤y∧y≤255) (hp:0≤p∧p≤(l.length:Int)):(0≤(zW l p b t).2.1∧(zW l p b t).2.1≤(l.length:Int))∧(∀y ∈ (zW l p b t).1,0≤y∧y≤255)∧(zW l p b t).1.length≤l.length:=by
  have h:=getTlv_in l p hb
  have hl:=qF l p
  unfold zW
  split
  · exact ⟨hp,by simp,by simp⟩
  · split
    · split
      · exact ⟨h.1,h.2,hl⟩
      · exact ⟨hp,by simp,by simp⟩
    · exact ⟨hp,by simp,by simp⟩
theorem numP_in (l:List Int) (p:Int) (b:Bool) (t:Int) (hb:∀y ∈ l,0≤y∧y≤255) (hp:0≤p∧p≤(l.length:Int)):0≤(uD l p b t).2.1∧(uD l p b t).2.1≤(l.length:Int):=by
  have h:=(xS l p b t hb hp).1
  unfold uD
  split
  · exact h
  · exact h
theorem vY (l:List Int) (p:Int) (b:Bool) (t:Int) (hb:∀y ∈ l,0≤y∧y≤255) (hl:l.length≤1048576) (hp:0≤p∧p≤(l.length:Int)):Ev (fun k=>bR.f k l p b t) (zW l p b t):=by
  unfold bR.f zW
  refine Ev.bind (vM l p hb hl (by omega)) ?_
  exact Ev.ite (fun _=>Ev.now _) (fun _=>Ev.ite (fun _=>Ev.ite (fun _=>Ev.now _) (fun _=>Ev.now _)) (fun _=>Ev.now _))
theorem xK (l:List Int) (p:Int) (b:Bool) (t:Int) (hb:∀y ∈ l,0≤y∧y≤255) (hl:l.length≤1048576) (hp:0≤p∧p≤(l.length:Int)):Ev (fun k=>bA.f k l p b t) (zW l p b t):=by
  unfold bA.f zW
  refine Ev.bind (yT l p hb hl (by omega)) ?_
  exact Ev.ite (fun _=>Ev.now _) (fun _=>Ev.ite (fun _=>Ev.ite (fun _=>Ev.now _) (fun _=>Ev.now _)) (fun _=>Ev.now _))
theorem qZ (l:List Int) (p:Int) (b:Bool) (t:Int) (hb:∀y ∈ l,0≤y∧y≤255) (hl:l.length≤1048576) (hp:0≤p∧p≤(l.length:Int)):Ev (fun k=>b6.f k l p b t) (uD l p b t):=by
  obtain ⟨_,h1,h2⟩:=xS l p b t hb hp
  unfold b6.f uD
  refine Ev.bind (xK l p b t hb hl hp) (Ev.bind (qD _ h1 (by omega)) ?_)
  exact Ev.ite (fun _=>Ev.now _) (fun _=>Ev.now _)

theorem sNum_ev (l:List Int) (p:Int) (b:Bool) (hb:∀y ∈ l,0≤y∧y≤255) (hl:l.length≤1048576) (hp:0≤p∧p≤(l.length:Int)):Ev (fun k=>eK.f k l p b) (uD l p b 2):=by
  obtain ⟨_,h1,h2⟩:=xS l p b 2 hb hp
  unfold eK.f uD
  refine Ev.bind (vY l p b 2 hb hl hp) (Ev.bind (sGetInt_ev _ h1 (by omega)) ?_)
  exact Ev.ite (fun _=>Ev.now _) (fun _=>Ev.now _)

theorem qX (l:List Int) (hb:xM l) (p p' t:Int) (b:Bool) (y:List Int) (h:zW l p b t=(y,p',false)):b=false∧(0≤p∧p≤p'∧p'≤(l.length:Int))∧y.length≤250∧xM y∧(l.take p'.toNat).drop p.toNat=zG [] t y:=by
  unfold zW at h
  cases b with
  |true=>simp at h
  |false=>
    simp only [Bool.false_eq_true,if_false] at h
    by_cases c:(zH l p).2.2.2=true
    · rw [if_pos c] at h
      by_cases d:(zH l p).1=t
      · rw [if_pos d] at h
        simp only [Prod.mk.injEq,and_true] at h
        have e:zH l p=(t,y,p',true):=Prod.ext d (Prod.ext h.1 (Prod.ext h.2 c))
        obtain ⟨h1,h2,h3⟩:=qS l hb p t p' y e
        have h4:=(getTlv_in l p hb).2
        rw [e] at h4
        exact ⟨rfl,h1,h2,h4,h3⟩
      · rw [if_neg d] at h
        simp at h
    · rw [if_neg c] at h
      simp at h
theorem num_true (l:List Int) (hb:xM l) (p p' t n:Int) (b:Bool) (h:uD l p b t=(n,p',false)):b=false∧(0≤p∧p≤p'∧p'≤(l.length:Int))∧(l.take p'.toNat).drop p.toNat=zG [] t (zB (zD n)):=by
  unfold uD at h
  by_cases c:(zW l p b t).2.2=true
  · rw [if_pos c] at h
    simp at h
  rw [if_neg c] at h
  simp only [Prod.mk.injEq,Bool.not_eq_false'] at h
  obtain ⟨h1,h2,h3⟩:=h
  obtain ⟨a1,a2,_,a4,a5⟩:=qX l hb p p' t b (zW l p b t).1 (Prod.ext rfl (Prod.ext h2 (by simpa using c)))
  refine ⟨a1,a2,?_⟩
  rw [a5,← h1,getInt_ok _ a4 h3]
theorem xR {l x:List Int} {p p':Int} (h:p≤p') (e:(l.take p'.toNat).drop p.toNat=x):l.take p'.toNat=l.take p.toNat++x:=by
  have h1:=List.take_append_drop p.toNat (l.take p'.toNat)
  rw [List.take_take,Nat.min_eq_left (by omega),e] at h1
  exact h1.symm
theorem vO (a:List Int) (t:Int) (y:List Int):zG a t y=a++zG [] t y:=by
  unfold zG
  split<;>simp

theorem tail_mid (L A body rest:List Int) (a x n t:Int) (hL:L=A++(body++rest)) (hx:(A.length:Int)=x+1) (hn:n=(body.length:Int)) (hr:rd L x=n) (ht:rd L a=t) (h:n≤250):
    zK L a x=(t,body,(A.length:Int)+body.length,true):=by
  have hll:(L.length:Int)=(A.length:Int)+(body.length+rest.length):=by rw [hL,List.length_append,List.length_append];omega
  have e1:(x+1+n).toNat=(A++body).length:=by rw [List.length_append];omega
  have e2:(x+1).toNat=A.length:=by omega
  unfold zK
  rw [hr,ht,if_neg (by omega),if_neg (by omega),e1,e2,show x+1+n=(A.length:Int)+body.length by omega,hL,← List.append_assoc,List.take_left,List.drop_left]
theorem get_mid (pre body rest:List Int) (t:Int) (ht:0≤t∧t≤255) (h:body.length≤127):zH (pre++(zA t body++rest)) (pre.length:Int)=(t,body,((pre++zA t body).length:Int),true):=by
  rw [yL t body ht h,List.cons_append,List.cons_append,get_short _ _ _ _ (by omega)]
  rw [tail_mid _ (pre++[t,(body.length:Int)]) body rest _ _ _ t (by simp) (by simp only [List.length_append,List.length_cons,List.length_nil];omega) rfl (rd_1 _ _ _ _) (zV _ _ _) (by omega)]
  simp only [List.length_append,List.length_cons,List.length_nil,Prod.mk.injEq,true_and,and_true]
  omega
theorem part_back (pre body rest:List Int) (t:Int) (ht:0≤t∧t≤255) (h:body.length≤127):zW (pre++(zA t body++rest)) (pre.length:Int) false t=(body,((pre++zA t body).length:Int),false):=by
  unfold zW
  rw [get_mid pre body rest t ht h]
  simp only [Bool.false_eq_true,if_false,if_true]
theorem num_back (pre rest:List Int) (t n:Int) (ht:0≤t∧t≤255) (hn:-2147483648≤n∧n≤2147483647):uD (pre++(zA t (zB (zD n))++rest)) (pre.length:Int) false t=(n,((pre++zA t (zB (zD n))).length:Int),false):=by
  have hl:=zR (zD n)
  unfold uD
  rw [part_back pre _ rest t ht (by omega)]
  simp only [getInt_put,Bool.false_eq_true,if_false,Bool.not_true]
  rw [vA n hn]
theorem put_ok (l:List Int) (t n:Int) (ht:0≤t∧t≤255):zG l t (zB (zD n))=l++zA t (zB (zD n)):=by
  have:=zR (zD n)
  unfold zG yR
  rw [decide_eq_true ht,decide_eq_true (show ((zB (zD n)).length:Int)≤250 by omega)]
  rfl

theorem xI (pre rest:List S45) (r:S45):aG (pre++r::rest) (pre.length:Int)=r:=by
  unfold aG
  simp [List.getD_eq_getElem?_getD]
def zI (x:S45):Prop:=x.f0.length≤1048576∧x.f1.f3.length≤1048576
theorem rdIB_mid' (pre rest:List S45) (r:S45) (n:Nat) (h:pre.length=n):aG (pre++r::rest) (n:Int)=r:=by
  subst h
  exact xI pre rest r

def zZ:List S45→Bool→Bool
  |[],z=>z
  |r::a,z=>if zO r.f0=true then (if yA r.f1.f0 r.f1.f1 r.f1.f2 r.f1.f3=true then zZ a z else false) else false
theorem vG (l:List S45):zZ l false=false:=by
  induction l with
  |nil=>rfl
  |cons r l ih=>simp only [zZ,ih,ite_self]
def uB (t es ei:Int):Bool:=if t=160∨t=161∨t=163 then decide (es=0∧ei=0) else if t=162∨t=165 then decide ((0≤es∧es≤1000)∧(0≤ei∧ei≤1000)) else false
def yJ (t id es ei:Int) (l:List S45):Bool:=if uB t es ei=true then (if (l.length:Int)≤10 then zZ l (decide (zD id=id)) else false) else false
theorem sKind_eq (t:Int):eM.f t=some (decide (t=160∨t=161∨t=162∨t=163∨t=165)):=by
  unfold eM.f
  by_cases h0:t=160
  · simp [h0]
  by_cases h1:t=161
  · simp [h1]
  by_cases h2:t=162
  · simp [h2]
  by_cases h3:t=163
  · simp [h3]
  by_cases h4:t=165
  · simp [h4]
  rw [if_neg h0,if_neg h1,if_neg h2,if_neg h3,decide_eq_false (by omega)]
  exact congrArg some (beq_eq_false_iff_ne.2 h4)
def sHd (q:Bool) (t id es ei:Int) (l:List S45):Bool:=
  if q=true then false else if decide (t=160∨t=161∨t=162∨t=163∨t=165)=true then (if zD id=id then (if decide (0≤es∧es≤1000)=true then (if decide (0≤ei∧ei≤1000)=true then decide ((l.length:Int)≤10) else false) else false) else false) else false
theorem sPdu_j1 (q:Bool) (t id es ei:Int) (l:List S45):Ev (fun k=>cF.j1 k q t id es ei l) (sHd q t id es ei l):=by
  refine Ev.succ ?_
  simp only [cF.j1]
  unfold sHd
  simp only [sKind_eq,qN,uF,Option.bind_some]
  refine Ev.ite (fun _=>Ev.now _) (fun _=>?_)
  refine Ev.ite (fun _=>?_) (fun _=>Ev.now _)
  refine Ev.ite (fun _=>?_) (fun _=>Ev.now _)
  refine Ev.ite (fun _=>?_) (fun _=>Ev.now _)
  refine Ev.ite (fun _=>Ev.now _) (fun _=>Ev.now _)
def sEnd (t id es ei:Int) (l:List S45):Bool:=if t=162 then sHd false t id es ei l else if t=165 then sHd false t id es ei l else if es=0 then sHd (ei !=0) t id es ei l else sHd true t id es ei l
theorem sEnd_eq (t id es ei:Int) (l:List S45):sEnd t id es ei l=(if uB t es ei=true then (if (l.length:Int)≤10 then decide (zD id=id) else false) else false):=by
  unfold sEnd sHd uB
  rw [Bool.eq_iff_iff]
  by_cases h2:t=162
  · simp [h2]
    by_cases a1:0≤es∧es≤1000<;>by_cases a2:0≤ei∧ei≤1000<;>simp [a1,a2]
    exact and_comm
  by_cases h5:t=165
  · simp [h5]
    by_cases a1:0≤es∧es≤1000<;>by_cases a2:0≤ei∧ei≤1000<;>simp [a1,a2]
    exact and_comm
  by_cases hk:t=160∨t=161∨t=163
  · have hk':t=160∨t=161∨t=162∨t=163∨t=165:=by omega
    by_cases e1:es=0
    · by_cases e2:ei=0
      · simp [h2,h5,hk,hk',e1,e2]
        exact and_comm
      · simp [h2,h5,hk,e1,e2]
    · simp [h2,h5,hk,e1]
  · have hk':¬(t=160∨t=161∨t=162∨t=163∨t=165):=by omega
    have hk2:¬(t=162∨t=165):=by omega
    rw [if_neg hk,if_neg hk2,decide_eq_false hk']
    simp [h2,h5]
theorem sPduOk_loop (t id es ei:Int) (rest:List S45):∀(pre:List S45),pre.length+rest.length≤1048576→(∀y ∈ rest,zI y)→
    Ev (fun k=>cF.l0 k (pre.length:Int) t id es ei (pre++rest)) (zZ rest (sEnd t id es ei (pre++rest))):=by
  induction rest with
  |nil=>
    intro pre _ _
    refine Ev.succ ?_
    simp only [cF.l0]
    simp only [List.append_nil,if_neg (show ¬(pre.length:Int)<(pre.length:Int) by omega),zZ]
    unfold sEnd
    refine Ev.ite (fun _=>sPdu_j1 _ _ _ _ _ _) (fun _=>?_)
    refine Ev.ite (fun _=>sPdu_j1 _ _ _ _ _ _) (fun _=>?_)
    exact Ev.ite (fun _=>sPdu_j1 _ _ _ _ _ _) (fun _=>sPdu_j1 _ _ _ _ _ _)
  |cons r rest ih=>
    intro pre hn hw
    simp only [List.length_cons] at hn
    have hr:=hw r List.mem_cons_self
    have h1:=hr.1
    have h2:=hr.2
    have h:=ih (pre++[r]) (by simp only [List.length_append,List.length_cons,List.length_nil];omega) (fun y hy=>hw y (List.mem_cons_of_mem _ hy))
    simp only [List.append_assoc,List.cons_append,List.nil_append] at h
    rw [show ((pre++[r]).length:Int)=(pre.length:Int)+1 by simp] at h
    refine Ev.succ ?_
    simp only [cF.l0]
    simp only [if_pos (show (pre.length:Int)<((pre++r::rest).length:Int) by simp only [List.length_append,List.length_cons];omega),if_pos (show (0:Int)≤(pre.length:Int) by omega),xI,w64 (x:=(pre.length:Int)+1) (by omega) (by omega),zZ]
    refine Ev.bind (qW _ (by omega)) ?_
    refine Ev.ite (fun _=>?_) (fun _=>Ev.now _)
    refine Ev.bind (sValOk_ev _ _ _ _ h2) ?_
    exact Ev.ite (fun _=>h) (fun _=>Ev.now _)
theorem sPduOk_ev (t id es ei:Int) (l:List S45) (h:l.length≤1048576) (hw:∀y ∈ l,zI y):Ev (fun k=>cF.f k t id es ei l) (yJ t id es ei l):=by
  unfold cF.f
  have e:=sPduOk_loop t id es ei l [] (by simp only [List.length_nil];omega) hw
  have hv:zZ l (sEnd t id es ei l)=yJ t id es ei l:=by
    rw [sEnd_eq]
    unfold yJ
    by_cases c:uB t es ei=true
    · simp only [if_pos c]
      by_cases d:(l.length:Int)≤10
      · simp only [if_pos d]
      · simp only [if_neg d,vG]
    · simp only [if_neg c,vG]
  simp only [List.nil_append] at e
  rw [hv] at e
  exact e
theorem iPduOk_loop (t id es ei:Int) (L:List S45) (rest:List S45):∀(pre:List S45) (m:Int),m=(pre.length:Int)+rest.length→pre.length≤10→(∀y ∈ rest,zI y)→
    Ev (fun k=>bK.l0 k (pre++rest) m (pre.length:Int) t id es ei L) (if (pre.length:Int)+rest.length≤10 then zZ rest (decide (zD id=id)) else false):=by
  induction rest with
  |nil=>
    intro pre m hm hp _
    simp only [List.length_nil] at hm
    refine Ev.succ ?_
    simp only [bK.l0]
    simp only [if_neg (show ¬(pre.length:Int)<m by omega),iIsInt_eq,clip_same,Option.bind_some,List.length_nil,if_pos (show (pre.length:Int)+((0:Nat):Int)≤10 by omega),zZ]
    exact Ev.now _
  |cons r rest ih=>
    intro pre m hm hp hw
    simp only [List.length_cons] at hm
    have hr:=hw r List.mem_cons_self
    have h1:=hr.1
    have h2:=hr.2
    refine Ev.succ ?_
    simp only [bK.l0]
    simp only [if_pos (show (pre.length:Int)<m by omega),if_pos (show (pre.length:Int)<((pre++r::rest).length:Int) by simp only [List.length_append,List.length_cons];omega),if_pos (show (0:Int)≤(pre.length:Int) by omega),xI,w64 (x:=(pre.length:Int)+1) (by omega) (by omega)]
    by_cases c:(pre.length:Int)≥10
    · simp only [if_pos c,if_neg (show ¬(pre.length:Int)+((r::rest).length:Int)≤10 by simp only [List.length_cons];omega)]
      exact Ev.now _
    · have h:=ih (pre++[r]) m (by simp only [List.length_append,List.length_cons,List.length_nil];omega) (by simp only [List.length_append,List.length_cons,List.length_nil];omega) (fun y hy=>hw y (List.mem_cons_of_mem _ hy))
      simp only [List.append_assoc,List.cons_append,List.nil_append] at h
      rw [show ((pre++[r]).length:Int)=(pre.length:Int)+1 by simp] at h
      simp only [if_neg c]
      have hv:(if (pre.length:Int)+((r::rest).length:Int)≤10 then zZ (r::rest) (decide (zD id=id)) else false)=(if zO r.f0=true then (if yA r.f1.f0 r.f1.f1 r.f1.f2 r.f1.f3=true then (if (pre.length:Int)+1+rest.length≤10 then zZ rest (decide (zD id=id)) else false) else false) else false):=by
        by_cases d:(pre.length:Int)+1+rest.length≤10
        · simp only [if_pos (show (pre.length:Int)+((r::rest).length:Int)≤10 by simp only [List.length_cons];omega),if_pos d,zZ]
        · simp only [if_neg (show ¬(pre.length:Int)+((r::rest).length:Int)≤10 by simp only [List.length_cons];omega),if_neg d,ite_self]
      rw [hv]
      refine Ev.bind (iOidOk_ev _ (by omega)) ?_
      refine Ev.ite (fun _=>?_) (fun _=>Ev.now _)
      refine Ev.bind (iValOk_ev _ _ _ _ h2) ?_
      exact Ev.ite (fun _=>h) (fun _=>Ev.now _)
theorem iPdu_j2 (t id es ei:Int) (l:List S45) (hw:∀y ∈ l,zI y):Ev (fun k=>bK.j2 k t id es ei l) (if (l.length:Int)≤10 then zZ l (decide (zD id=id)) else false):=by
  refine Ev.succ ?_
  simp only [bK.j2]
  have h:=iPduOk_loop t id es ei l l [] (l.length:Int) (by simp) (by simp) hw
  simpa using h
theorem iPdu_j1 (q:Bool) (t id es ei:Int) (l:List S45) (hw:∀y ∈ l,zI y):Ev (fun k=>bK.j1 k q t id es ei l) (if q=true then (if decide (0≤es∧es≤1000)=true then (if decide (0≤ei∧ei≤1000)=true then (if (l.length:Int)≤10 then zZ l (decide (zD id=id)) else false) else false) else false) else false):=by
  refine Ev.succ ?_
  simp only [bK.j1]
  simp only [in_eq,Option.bind_some]
  refine Ev.ite (fun _=>?_) (fun _=>Ev.now _)
  refine Ev.ite (fun _=>?_) (fun _=>Ev.now _)
  refine Ev.ite (fun _=>?_) (fun _=>Ev.now _)
  exact iPdu_j2 t id es ei l hw
theorem iPdu_j0 (q:Bool) (t id es ei:Int) (l:List S45) (hw:∀y ∈ l,zI y) (hq:q=true ↔ (t=160∨t=161∨t=163)):Ev (fun k=>bK.j0 k t q t id es ei l) (yJ t id es ei l):=by
  refine Ev.succ ?_
  simp only [bK.j0]
  unfold yJ uB
  by_cases c:t=160∨t=161∨t=163
  · simp only [if_pos c,if_pos (hq.2 c)]
    by_cases e1:es=0
    · by_cases e2:ei=0
      · simp only [if_pos e1,if_pos e2,decide_eq_true (show es=0∧ei=0 from ⟨e1,e2⟩),if_true]
        exact iPdu_j2 t id es ei l hw
      · simp only [if_pos e1,if_neg e2,decide_eq_false (show ¬(es=0∧ei=0) from fun h=>e2 h.2),Bool.false_eq_true,if_false]
        exact Ev.now _
    · simp only [if_neg e1,decide_eq_false (show ¬(es=0∧ei=0) from fun h=>e1 h.1),Bool.false_eq_true,if_false]
      exact Ev.now _
  · have hq':¬q=true:=fun e=>c (hq.1 e)
    simp only [if_neg c,if_neg hq']
    by_cases d:t=162∨t=165
    · have hb:(t==162)=true∨(t==165)=true:=by rcases d with rfl|rfl<;>simp
      have hgo:∀q':Bool,q'=true→Ev (fun k=>bK.j1 k q' t id es ei l) (if (if t=162∨t=165 then decide ((0≤es∧es≤1000)∧(0≤ei∧ei≤1000)) else false)=true then (if (l.length:Int)≤10 then zZ l (decide (zD id=id)) else false) else false):=by
        intro q' h'
        have e:=iPdu_j1 q' t id es ei l hw
        rw [if_pos h'] at e
        rw [if_pos d]
        by_cases a1:0≤es∧es≤1000
        · by_cases a2:0≤ei∧ei≤1000
          · rw [decide_eq_true a1,decide_eq_true a2,if_pos rfl,if_pos rfl] at e
            rw [decide_eq_true (show (0≤es∧es≤1000)∧(0≤ei∧ei≤1000) from ⟨a1,a2⟩),if_pos rfl]
            exact e
          · rw [decide_eq_true a1,decide_eq_false a2,if_pos rfl,if_neg (by decide)] at e
            rw [decide_eq_false (show ¬((0≤es∧es≤1000)∧(0≤ei∧ei≤1000)) from fun h=>a2 h.2),if_neg (by decide)]
            exact e
        · rw [decide_eq_false a1,if_neg (by decide)] at e
          rw [decide_eq_false (show ¬((0≤es∧es≤1000)∧(0≤ei∧ei≤1000)) from fun h=>a1 h.1),if_neg (by decide)]
          exact e
      by_cases d2:t=162
      · simp only [if_pos d2]
        exact hgo _ (beq_iff_eq.2 d2)
      · simp only [if_neg d2]
        exact hgo _ (beq_iff_eq.2 (d.resolve_left d2))
    · have hf:∀q':Bool,q'=false→Ev (fun k=>bK.j1 k q' t id es ei l) false:=by
        intro q' h'
        have e:=iPdu_j1 q' t id es ei l hw
        rw [h',if_neg (by decide)] at e
        rw [h']
        exact e
      simp only [if_neg d,Bool.false_eq_true,if_false,if_neg (show ¬t=162 from fun e=>d (Or.inl e))]
      exact hf _ (beq_eq_false_iff_ne.2 fun e=>d (Or.inr e))
theorem iPduOk_ev (t id es ei:Int) (l:List S45) (_h:l.length≤1048576) (hw:∀y ∈ l,zI y):Ev (fun k=>bK.f k t id es ei l) (yJ t id es ei l):=by
  unfold bK.f
  by_cases c1:t=160
  · simp only [if_pos c1]
    exact iPdu_j0 _ t id es ei l hw (by simp [c1])
  · simp only [if_neg c1]
    by_cases c2:t=161
    · simp only [if_pos c2]
      exact iPdu_j0 _ t id es ei l hw (by simp [c2])
    · simp only [if_neg c2]
      exact iPdu_j0 _ t id es ei l hw (by simp [c1,c2])

def yC (x:S45):List Int:=zQ (zG [] 6 (zF x.f0)) x.f1.f0 x.f1.f1 x.f1.f2 x.f1.f3
def zC:List S45→List Int
  |[]=>[]
  |x::r=>zA 48 (yC x)++zC r
def vF (x:S45):Prop:=zO x.f0=true∧yA x.f1.f0 x.f1.f1 x.f1.f2 x.f1.f3=true
theorem qH:∀(l:List S45) (z:Bool),zZ l z=true→(∀x ∈ l,vF x)∧z=true
  |[],z,h=>⟨fun x hx=>by simp at hx,h⟩
  |r::a,z,h=>by
    simp only [zZ] at h
    by_cases h1:zO r.f0=true
    · rw [if_pos h1] at h
      by_cases h2:yA r.f1.f0 r.f1.f1 r.f1.f2 r.f1.f3=true
      · rw [if_pos h2] at h
        obtain ⟨i1,i2⟩:=qH a z h
        refine ⟨fun x hx=>?_,i2⟩
        rcases List.mem_cons.1 hx with rfl|hx
        · exact ⟨h1,h2⟩
        · exact i1 x hx
      · rw [if_neg h2] at h
        cases h
    · rw [if_neg h1] at h
      cases h
theorem yY (b:List Int) (t:Int) (y:List Int):(zG b t y).length≤b.length+y.length+3:=by
  have:=zS t y
  unfold zG
  split
  · rw [List.length_append]
    omega
  · omega
theorem xF (x:S45) (h:vF x):(yC x).length≤66:=by
  have h1:=yE x.f0
  have h2:=yY [] 6 (zF x.f0)
  have h3:=xN _ _ _ _ h.2
  have h4:=yY (zG [] 6 (zF x.f0)) x.f1.f0 (zJ x.f1.f0 x.f1.f1 x.f1.f2 x.f1.f3)
  simp only [List.length_nil] at h2
  unfold yC zQ
  rw [if_pos h.2]
  omega
theorem tlvOk48 (y:List Int) (h:(y.length:Int)≤250):yR 48 y=true:=by
  unfold yR
  rw [decide_eq_true h,decide_eq_true (show (0:Int)≤48∧(48:Int)≤255 by omega)]
  rfl
theorem put48 (b y:List Int) (h:(y.length:Int)≤250):zG b 48 y=b++zA 48 y:=by
  unfold zG
  rw [if_pos (tlvOk48 y h)]
theorem vT:∀l:List S45,(∀x ∈ l,vF x)→(zC l).length≤69*l.length
  |[],_=>by simp [zC]
  |x::r,h=>by
    have h1:=xF x (h x List.mem_cons_self)
    have h2:=zS 48 (yC x)
    have h3:=vT r (fun y hy=>h y (List.mem_cons_of_mem _ hy))
    simp only [zC,List.length_append,List.length_cons]
    omega
def xW (l:List Int) (n:Int):List Int:=zG l 2 (zB (zD n))
theorem xL (l:List Int) (n:Int):(xW l n).length≤l.length+7:=by
  have h:=zR (zD n)
  have:=yY l 2 (zB (zD n))
  unfold xW
  omega
def zT (a b c:Int):List Int:=xW (xW (xW [] a) b) c
theorem numsB_len (a b c:Int):(zT a b c).length≤21:=by
  have h1:=xL [] a
  have h2:=xL (xW [] a) b
  have h3:=xL (xW (xW [] a) b) c
  simp only [List.length_nil] at h1
  unfold zT
  omega
def finP (t a b c:Int) (y:List Int):List Int:=if (y.length:Int)≤250 then (if ((zT a b c++zA 48 y).length:Int)≤250 then zA t (zT a b c++zA 48 y) else []) else []
def zN (t a b c:Int) (l:List S45):List Int:=if yJ t a b c l=true then finP t a b c (zC l) else []
theorem finP_len (t a b c:Int) (y:List Int):(finP t a b c y).length≤253:=by
  unfold finP
  split
  · split
    · have:=zS t (zT a b c++zA 48 y)
      omega
    · simp
  · simp
theorem vP (t a b c:Int) (l:List S45):(zN t a b c l).length≤253:=by
  unfold zN
  split
  · exact finP_len _ _ _ _ _
  · simp
theorem yI {t a b c:Int} {l:List S45} (h:yJ t a b c l=true):(160≤t∧t≤165)∧l.length≤10∧∀x ∈ l,vF x:=by
  unfold yJ at h
  by_cases h1:uB t b c=true
  · rw [if_pos h1] at h
    by_cases h2:(l.length:Int)≤10
    · rw [if_pos h2] at h
      refine ⟨?_,by omega,(qH l _ h).1⟩
      unfold uB at h1
      split at h1
      · omega
      · split at h1
        · omega
        · cases h1
    · rw [if_neg h2] at h
      cases h
  · rw [if_neg h1] at h
    cases h
theorem tlvOkT (t:Int) (y:List Int) (ht:160≤t∧t≤165):yR t y=decide ((y.length:Int)≤250):=by
  unfold yR
  rw [decide_eq_true (show (0:Int)≤t∧t≤255 by omega),Bool.true_and]

theorem sBinds_loop (rest:List S45):∀(pre:List S45) (out:List Int),pre.length+rest.length≤10→out.length≤69*pre.length→(∀y ∈ rest,vF y∧zI y)→
    Ev (fun k=>cA.l0 k (pre++rest) out (pre.length:Int)) (out++zC rest):=by
  induction rest with
  |nil=>
    intro pre out _ _ _
    refine Ev.succ ?_
    simp only [cA.l0,zC,List.append_nil,if_neg (show ¬(pre.length:Int)<(pre.length:Int) by omega)]
    exact Ev.now _
  |cons r rest ih=>
    intro pre out hn ho hw
    obtain ⟨g,s⟩:=hw r List.mem_cons_self
    simp only [List.length_cons] at hn
    have hb:=xF r g
    have hp:=yE r.f0
    have ht:=yY [] 6 (zF r.f0)
    simp only [List.length_nil] at ht
    have hl:=zS 48 (yC r)
    have h:=ih (pre++[r]) (out++zA 48 (yC r)) (by simp only [List.length_append,List.length_cons,List.length_nil];omega) (by simp only [List.length_append,List.length_cons,List.length_nil];omega) (fun y hy=>hw y (List.mem_cons_of_mem _ hy))
    simp only [List.append_assoc,List.cons_append,List.nil_append] at h
    rw [show ((pre++[r]).length:Int)=(pre.length:Int)+1 by simp] at h
    refine Ev.succ ?_
    simp only [cA.l0,if_pos (show (pre.length:Int)<((pre++r::rest).length:Int) by simp only [List.length_append,List.length_cons];omega),if_pos (show (0:Int)≤(pre.length:Int) by omega),xI]
    refine Ev.bind (sPutOid_ev r.f0 s.1) ?_
    refine Ev.bind (zU [] 6 _ (by simp) (by omega)) ?_
    refine Ev.bind (sPutVal_ev _ _ _ _ _ (by omega) s.2) ?_
    refine Ev.bind (zU out 48 _ (by omega) (show (yC r).length≤1099511627776 by omega)) ?_
    rw [show zQ (zG [] 6 (zF r.f0)) r.f1.f0 r.f1.f1 r.f1.f2 r.f1.f3=yC r from rfl,put48 out _ (by omega),w64 (x:=(pre.length:Int)+1) (by omega) (by omega)]
    exact h
theorem vK (t a b c:Int) (l:List S45) (h:l.length≤1048576) (hw:∀y ∈ l,zI y):Ev (fun k=>eO.f k t a b c l) (zN t a b c l):=by
  unfold eO.f zN
  refine Ev.bind (sPduOk_ev t a b c l h hw) ?_
  refine Ev.ite (fun hk=>?_) (fun _=>Ev.now _)
  obtain ⟨ht,h10,hg⟩:=yI hk
  have hl:=vT l hg
  have e1:Ev (fun k=>cA.f k l) (zC l):=by
    unfold cA.f
    simpa using sBinds_loop l [] [] (by simpa using h10) (by simp) (fun y hy=>⟨hg y hy,hw y hy⟩)
  unfold finP
  by_cases q:((zC l).length:Int)≤250
  · rw [if_pos q]
    have p1:=zR (zD a)
    have p2:=zR (zD b)
    have p3:=zR (zD c)
    have n1:=xL [] a
    have n2:=xL (xW [] a) b
    have n3:=numsB_len a b c
    simp only [List.length_nil] at n1
    have e2:Ev (fun k=>dN.f k t a b c l) (zT a b c++zA 48 (zC l),decide (((zT a b c++zA 48 (zC l)).length:Int)≤250)):=by
      unfold dN.f
      refine Ev.bind e1 ?_
      simp only [if_neg (show ¬((zC l).length:Int)>250 by omega)]
      refine Ev.bind (xH a) (Ev.bind (zU [] 2 _ (by simp) (by omega)) ?_)
      refine Ev.bind (xH b) (Ev.bind (zU (xW [] a) 2 _ (by omega) (by omega)) ?_)
      refine Ev.bind (xH c) (Ev.bind (zU (xW (xW [] a) b) 2 _ (by omega) (by omega)) ?_)
      refine Ev.bind (zU (zT a b c) 48 _ (by omega) (by omega)) ?_
      rw [put48 _ _ q]
      exact Ev.now _
    refine Ev.bind e2 ?_
    by_cases q2:((zT a b c++zA 48 (zC l)).length:Int)≤250
    · simp only [decide_eq_true q2,if_true,if_pos q2]
      refine Ev.bind (zU [] t _ (by simp) (by omega)) ?_
      rw [show zG [] t (zT a b c++zA 48 (zC l))=zA t (zT a b c++zA 48 (zC l)) by unfold zG;rw [tlvOkT t _ ht,decide_eq_true q2];rfl]
      exact Ev.now _
    · simp only [decide_eq_false q2,Bool.false_eq_true,if_false,if_neg q2]
      exact Ev.now _
  · rw [if_neg q]
    have e2:Ev (fun k=>dN.f k t a b c l) ([],false):=by
      unfold dN.f
      refine Ev.bind e1 ?_
      simp only [if_pos (show ((zC l).length:Int)>250 by omega)]
      exact Ev.now _
    refine Ev.bind e2 ?_
    simp only [Bool.false_eq_true,if_false]
    exact Ev.now _

theorem iAddP_ev (l:List Int) (n:Int) (h:l.length≤1099511627776):Ev (fun k=>eE.f k l 2 n) (xW l n):=by
  have hp:=zR (zD n)
  unfold eE.f
  exact Ev.bind (vS n) (Ev.bind (yS l 2 _ h (by omega)) (Ev.now _))
theorem iBinds_loop (t a b c:Int) (L:List S45) (ht:160≤t∧t≤165) (rest:List S45):∀(pre:List S45) (out:List Int) (m:Int),m=(pre.length:Int)+rest.length→pre.length+rest.length≤10→out.length≤69*pre.length→(∀y ∈ rest,vF y∧zI y)→
    Ev (fun k=>bG.l0 k out (pre++rest) m (pre.length:Int) t a b c L) (finP t a b c (out++zC rest)):=by
  induction rest with
  |nil=>
    intro pre out m hm hn ho _
    simp only [List.length_nil] at hm
    have n1:=xL [] a
    have n2:=xL (xW [] a) b
    have n3:=numsB_len a b c
    simp only [List.length_nil] at n1
    refine Ev.succ ?_
    simp only [bG.l0,zC,List.append_nil,if_neg (show ¬(pre.length:Int)<m by omega)]
    refine Ev.bind (iTlv_ev 48 out (by omega)) ?_
    unfold finP
    by_cases q:(out.length:Int)≤250
    · have hl:=zS 48 out
      simp only [tlvOk48 out q,if_true,if_pos q]
      refine Ev.bind (iAddP_ev [] a (by simp)) (Ev.bind (iAddP_ev _ b (by omega)) (Ev.bind (iAddP_ev _ c (by omega)) ?_))
      rw [show xW (xW (xW [] a) b) c=zT a b c from rfl]
      simp only [if_pos (show (zT a b c).length+(zA 48 out).length<140737488355328 by omega)]
      refine Ev.bind (iTlv_ev t (zT a b c++zA 48 out) (by rw [List.length_append];omega)) ?_
      rw [tlvOkT t _ ht]
      by_cases q2:((zT a b c++zA 48 out).length:Int)≤250
      · simp only [decide_eq_true q2,if_true,if_pos q2]
        exact Ev.now _
      · simp only [decide_eq_false q2,Bool.false_eq_true,if_false,if_neg q2]
        exact Ev.now _
    · have e:yR 48 out=false:=by
        unfold yR
        rw [decide_eq_false q,Bool.and_false]
      simp only [e,Bool.false_eq_true,if_false,if_neg q]
      exact Ev.now _
  |cons r rest ih=>
    intro pre out m hm hn ho hw
    obtain ⟨g,s⟩:=hw r List.mem_cons_self
    simp only [List.length_cons] at hm hn
    have hb:=xF r g
    have hp:=yE r.f0
    have hq:=yY [] 6 (zF r.f0)
    simp only [List.length_nil] at hq
    have hl:=zS 48 (yC r)
    have h:=ih (pre++[r]) (out++zA 48 (yC r)) m (by simp only [List.length_append,List.length_cons,List.length_nil];omega) (by simp only [List.length_append,List.length_cons,List.length_nil];omega) (by simp only [List.length_append,List.length_cons,List.length_nil];omega) (fun y hy=>hw y (List.mem_cons_of_mem _ hy))
    simp only [List.append_assoc,List.cons_append,List.nil_append] at h
    rw [show ((pre++[r]).length:Int)=(pre.length:Int)+1 by simp] at h
    refine Ev.succ ?_
    simp only [bG.l0,if_pos (show (pre.length:Int)<m by omega),if_pos (show (0:Int)≤(pre.length:Int) by omega),if_pos (show (pre.length:Int)<((pre++r::rest).length:Int) by simp only [List.length_append,List.length_cons];omega),xI]
    refine Ev.bind (vQ r.f0 s.1) ?_
    refine Ev.bind (yS [] 6 _ (by simp) (by omega)) ?_
    refine Ev.bind (iPutVal_ev _ _ _ _ _ (by omega) s.2) ?_
    rw [show zQ (zG [] 6 (zF r.f0)) r.f1.f0 r.f1.f1 r.f1.f2 r.f1.f3=yC r from rfl]
    refine Ev.bind (iTlv_ev 48 (yC r) (by omega)) ?_
    simp only [tlvOk48 _ (show ((yC r).length:Int)≤250 by omega),if_true,if_pos (show out.length+(zA 48 (yC r)).length<140737488355328 by omega),w64 (x:=(pre.length:Int)+1) (by omega) (by omega)]
    exact h
theorem qA (t a b c:Int) (l:List S45) (h:l.length≤1048576) (hw:∀y ∈ l,zI y):Ev (fun k=>bG.f k t a b c l) (zN t a b c l):=by
  unfold bG.f zN
  refine Ev.bind (iPduOk_ev t a b c l h hw) ?_
  refine Ev.ite (fun hk=>?_) (fun _=>Ev.now _)
  obtain ⟨ht,h10,hg⟩:=yI hk
  simpa using iBinds_loop t a b c l ht l [] [] (l.length:Int) (by simp) (by simpa using h10) (by simp) (fun y hy=>⟨hg y hy,hw y hy⟩)

def noB:List Int × Int × Int × ByteArray × List Int × Bool:=([],0,0,⟨#[]⟩,[],false)
def mkB (R:List Int × Int × Int × ByteArray × List Int × Bool):S45:=⟨R.1,⟨R.2.1,R.2.2.1,R.2.2.2.1,R.2.2.2.2.1⟩⟩
theorem putVal_app (b:List Int) (t n:Int) (s:ByteArray) (o:List Int):zQ b t n s o=b++zQ [] t n s o:=by
  unfold zQ
  split
  · exact vO _ _ _
  · simp
theorem bind_both (l:List Int) (hb:xM l) (hl:l.length≤1048576):∃R:List Int × Int × Int × ByteArray × List Int × Bool,Ev (fun k=>eZ.f k l) R∧Ev (fun k=>eX.f k l) R∧zI (mkB R)∧(R.2.2.2.2.2=true→yC (mkB R)=l∧l≠[]):=by
  obtain ⟨hp1,hp2,hp3⟩:=xS l 0 false 6 hb (by omega)
  have sp:=vY l 0 false 6 hb hl (by omega)
  have ip:=xK l 0 false 6 hb hl (by omega)
  have hnil:l=[]→(zW l 0 false 6).2.2=true:=by
    rintro rfl
    simp [zW,zH,qK]
  have pt:=qX l hb 0
  generalize hP:zW l 0 false 6=P at hp1 hp2 hp3 sp ip hnil
  obtain ⟨y,p,b⟩:=P
  replace hp1:0≤p∧p≤(l.length:Int):=hp1
  replace hp2:xM y:=hp2
  replace hp3:y.length≤l.length:=hp3
  replace hnil:l=[]→b=true:=hnil
  obtain ⟨O,so,io,no⟩:=xA y hp2 (by omega)
  obtain ⟨V,sv,iv,nv⟩:=getVal_both l p hb hl (by omega)
  obtain ⟨V2,iv2,gv⟩:=iGetVal_read l p hb hl (by omega)
  obtain rfl:=Ev.uniq iv iv2
  have ro:=getOid_read y hp2 (by omega) O io
  refine ⟨if b=true then noB else if O.2=true then if V.2.2.2.2.2=true then if V.2.2.2.2.1=(l.length:Int) then (O.1,V.1,V.2.1,V.2.2.1,V.2.2.2.1,true) else noB else noB else noB,?_,?_,?_,?_⟩
  · unfold eZ.f
    refine Ev.bind sp (Ev.bind so (Ev.bind sv ?_))
    exact Ev.ite (fun _=>Ev.now _) (fun _=>Ev.ite (fun _=>Ev.ite (fun _=>Ev.ite (fun _=>Ev.now _) (fun _=>Ev.now _)) (fun _=>Ev.now _)) (fun _=>Ev.now _))
  · unfold eX.f
    refine Ev.bind ip (Ev.bind io (Ev.bind iv ?_))
    exact Ev.ite (fun _=>Ev.now _) (fun _=>Ev.ite (fun _=>Ev.ite (fun _=>Ev.ite (fun _=>Ev.now _) (fun _=>Ev.now _)) (fun _=>Ev.now _)) (fun _=>Ev.now _))
  · have hn:zI (mkB noB):=⟨by simp [mkB,noB],by simp [mkB,noB]⟩
    split
    · exact hn
    · split
      · split
        · split
          · exact ⟨show O.1.length≤_ by omega,show V.2.2.2.1.length≤_ by omega⟩
          · exact hn
        · exact hn
      · exact hn
  · intro h
    by_cases c1:b=true
    · rw [if_pos c1] at h
      simp [noB] at h
    rw [if_neg c1] at h ⊢
    by_cases c2:O.2=true
    · rw [if_pos c2] at h ⊢
      by_cases c3:V.2.2.2.2.2=true
      · rw [if_pos c3] at h ⊢
        by_cases c4:V.2.2.2.2.1=(l.length:Int)
        · rw [if_pos c4]
          refine ⟨?_,fun e=>c1 (hnil e)⟩
          have b0:b=false:=by simpa using c1
          subst b0
          obtain ⟨_,_,_,_,e1⟩:=pt p 6 false y hP
          obtain ⟨_,e2,_,_,_⟩:=gv c3
          show zQ (zG [] 6 (zF O.1)) V.1 V.2.1 V.2.2.1 V.2.2.2.1=l
          rw [putVal_app,e2,ro c2,← e1,c4]
          simp only [Int.toNat_natCast,List.take_length,Int.toNat_zero,List.drop_zero]
          exact List.take_append_drop _ _
        · rw [if_neg c4] at h
          simp [noB] at h
      · rw [if_neg c3] at h
        simp [noB] at h
    · rw [if_neg c2] at h
      simp [noB] at h

def yG:Int × Int × Int × Int × List S45 × Bool:=(0,0,0,0,[],false)
theorem yX:∀(a b:List S45),zC (a++b)=zC a++zC b
  |[],b=>rfl
  |x::r,b=>by simp only [List.cons_append,zC,yX r b,List.append_assoc]
theorem vV (t:Int) (y:List Int):1≤(zA t y).length:=by
  unfold zA
  simp only [List.length_append,List.length_cons,List.length_nil]
  omega
theorem pduOk_long (t a b c:Int) (l:List S45) (h:10<l.length):yJ t a b c l=false:=by
  cases e:yJ t a b c l with
  |false=>rfl
  |true=>have:=(yI e).2.1;omega
theorem s_fin_no (x0 x5:List Int) (x6:Int) (x7:Bool) (x8:List Int) (x9:Int) (t a b c:Int) (L:List S45) (Q:List Int) (p:Int) (bd:Bool):Ev (fun k=>aW.j1 k x0 x5 x6 x7 false x8 x9 true t a b c L Q p bd) yG:=by
  refine Ev.succ ?_
  simp only [aW.j1,Bool.false_eq_true,if_false,if_true,ite_self]
  exact Ev.now _
theorem s_bad (x0 x5:List Int) (x6:Int) (x7:Bool) (x8:List Int) (x9:Int) (t a b c:Int) (L:List S45) (Q:List Int) (p:Int) (bd:Bool):Ev (fun k=>aW.l0 k x0 x5 x6 x7 x8 x9 true t a b c L Q p bd) yG:=by
  refine Ev.succ ?_
  simp only [aW.l0,if_true]
  exact s_fin_no _ _ _ _ _ _ _ _ _ _ _ _ _ _
theorem s_fin (x0 x5:List Int) (x6:Int) (x7:Bool) (x8:List Int) (x9:Int) (t a b c:Int) (L:List S45) (Q:List Int) (p:Int) (bd:Bool) (hL:L.length≤1048576) (hw:∀y ∈ L,zI y):Ev (fun k=>aW.j1 k x0 x5 x6 x7 false x8 x9 false t a b c L Q p bd) (if x7=true then (if x6=(x0.length:Int) then (if x9=(x5.length:Int) then (if p=(Q.length:Int) then (if yJ t a b c L=true then (t,a,b,c,L,true) else yG) else yG) else yG) else yG) else yG):=by
  refine Ev.succ ?_
  simp only [aW.j1,Bool.false_eq_true,if_false]
  refine Ev.ite (fun _=>Ev.ite (fun _=>Ev.ite (fun _=>Ev.ite (fun _=>?_) (fun _=>Ev.now _)) (fun _=>Ev.now _)) (fun _=>Ev.now _)) (fun _=>Ev.now _)
  refine Ev.bind (sPduOk_ev t a b c L hL hw) ?_
  exact Ev.ite (fun _=>Ev.now _) (fun _=>Ev.now _)
theorem s_long (x0 x5:List Int) (x6:Int) (x7:Bool) (x8:List Int) (x9:Int) (t a b c:Int) (L:List S45) (Q:List Int) (p:Int) (bd:Bool) (hL:L.length=11) (hw:∀y ∈ L,zI y):Ev (fun k=>aW.l0 k x0 x5 x6 x7 x8 x9 false t a b c L Q p bd) yG:=by
  have h:=s_fin x0 x5 x6 x7 x8 x9 t a b c L Q p bd (by omega) hw
  rw [pduOk_long t a b c L (by omega)] at h
  simp only [Bool.false_eq_true,if_false,ite_self] at h
  refine Ev.succ ?_
  simp only [aW.l0,Bool.false_eq_true,if_false,decide_eq_false (show ¬((L.length:Int)≤10) by omega),ite_self]
  exact h
theorem pdu_loops (x0 x5:List Int) (x6:Int) (x7:Bool) (x8:List Int) (x9:Int) (t a b c:Int) (Q:List Int) (hQ:xM Q) (hq:Q.length≤1048576):∀(n:Nat) (L:List S45) (p:Int),(Q.length:Int) - p≤n→0≤p→p≤(Q.length:Int)→L.length≤10→(∀y ∈ L,zI y)→zC L=Q.take p.toNat→
    (∃L':List S45,L'.length≤10∧(∀y ∈ L',zI y)∧zC L'=Q∧
      (∀r,Ev (fun k=>(bG.f k t a b c L').bind fun v=>if (v.length:Int)=0 then some yG else if (strOfNums v).toList=(strOfNums x0).toList then some (t,a,b,c,L',true) else some yG) r→Ev (fun k=>cK.l0 k x0 t a b c L Q p false) r)∧
      (∀r,Ev (fun k=>aW.j1 k x0 x5 x6 x7 false x8 x9 false t a b c L' Q (Q.length:Int) false) r→Ev (fun k=>aW.l0 k x0 x5 x6 x7 x8 x9 false t a b c L Q p false) r))∨
    (Ev (fun k=>cK.l0 k x0 t a b c L Q p false) yG∧Ev (fun k=>aW.l0 k x0 x5 x6 x7 x8 x9 false t a b c L Q p false) yG):=by
  intro n
  induction n with
  |zero=>
    intro L p h1 h2 h3 h4 h5 h6
    obtain rfl:p=(Q.length:Int):=by omega
    refine .inl ⟨L,h4,h5,by rw [h6,Int.toNat_natCast,List.take_length],fun r hr=>?_,fun r hr=>?_⟩
    · refine Ev.succ ?_
      simp only [cK.l0,if_neg (show ¬(Q.length:Int)<(Q.length:Int) by omega)]
      exact hr
    · refine Ev.succ ?_
      simp only [aW.l0,Bool.false_eq_true,if_false,if_neg (show ¬(Q.length:Int)<(Q.length:Int) by omega)]
      exact hr
  |succ n ih=>
    intro L p h1 h2 h3 h4 h5 h6
    by_cases hlt:p<(Q.length:Int)
    rotate_left
    · obtain rfl:p=(Q.length:Int):=by omega
      refine .inl ⟨L,h4,h5,by rw [h6,Int.toNat_natCast,List.take_length],fun r hr=>?_,fun r hr=>?_⟩
      · refine Ev.succ ?_
        simp only [cK.l0,if_neg (show ¬(Q.length:Int)<(Q.length:Int) by omega)]
        exact hr
      · refine Ev.succ ?_
        simp only [aW.l0,Bool.false_eq_true,if_false,if_neg (show ¬(Q.length:Int)<(Q.length:Int) by omega)]
        exact hr
    obtain ⟨p1,p2,p3⟩:=xS Q p false 48 hQ ⟨h2,h3⟩
    have sp:=vY Q p false 48 hQ hq ⟨h2,h3⟩
    have ip:=xK Q p false 48 hQ hq ⟨h2,h3⟩
    have pt:=qX Q hQ p
    have pn:(zW Q p false 48).2.2=true→(zW Q p false 48).1=[]:=by
      unfold zW
      simp only [Bool.false_eq_true,if_false]
      intro h
      split at h
      · split at h
        · cases h
        · rename_i c1 c2
          rw [if_pos c1,if_neg c2]
      · rename_i c1
        rw [if_neg c1]
    generalize hP:zW Q p false 48=P at p1 p2 p3 sp ip pn
    obtain ⟨y,p',bd⟩:=P
    replace p1:0≤p'∧p'≤(Q.length:Int):=p1
    replace p2:xM y:=p2
    replace p3:y.length≤Q.length:=p3
    replace pn:bd=true→y=[]:=pn
    obtain ⟨R,sb,ib,sm,rb⟩:=bind_both y p2 (by omega)
    have iH:∀r,Ev (fun k=>if R.2.2.2.2.2=true then (if (L.length:Int)≥10 then some yG else if L.length<1759218604441 then cK.l0 k x0 t a b c (L++[mkB R]) Q p' bd else none) else some yG) r→Ev (fun k=>cK.l0 k x0 t a b c L Q p false) r:=by
      intro r hr
      refine Ev.succ ?_
      simp only [cK.l0,if_pos hlt]
      exact Ev.bind ip (Ev.bind ib hr)
    have sH:∀r,Ev (fun k=>if bd=true then aW.l0 k x0 x5 x6 x7 x8 x9 true t a b c (L++[mkB R]) Q p' bd else aW.l0 k x0 x5 x6 x7 x8 x9 (!R.2.2.2.2.2) t a b c (L++[mkB R]) Q p' bd) r→Ev (fun k=>aW.l0 k x0 x5 x6 x7 x8 x9 false t a b c L Q p false) r:=by
      intro r hr
      refine Ev.succ ?_
      simp only [aW.l0,Bool.false_eq_true,if_false,if_pos hlt,decide_eq_true (show (L.length:Int)≤10 by omega)]
      refine Ev.succ ?_
      simp only [aW.j1,if_true,if_pos (show L.length<1759218604441 by omega)]
      exact Ev.bind sp (Ev.bind sb hr)
    by_cases hok:R.2.2.2.2.2=true
    rotate_left
    · refine .inr ⟨iH _ ?_,sH _ ?_⟩
      · simp only [if_neg hok]
        exact Ev.now _
      · rw [show R.2.2.2.2.2=false by simpa using hok]
        simp only [Bool.not_false,ite_self]
        exact s_bad _ _ _ _ _ _ _ _ _ _ _ _ _ _
    obtain ⟨rb1,rb2⟩:=rb hok
    obtain rfl:bd=false:=by
      cases bd with
      |false=>rfl
      |true=>exact absurd (pn rfl) rb2
    obtain ⟨_,q2,q3,_,q5⟩:=pt p' 48 false y hP
    rw [show zG [] 48 y=zA 48 y by rw [put48 [] y (by omega),List.nil_append]] at q5
    have hnw:∀z ∈ L++[mkB R],zI z:=by
      intro z hz
      rcases List.mem_append.1 hz with hz|hz
      · exact h5 z hz
      · rw [List.mem_singleton.1 hz]
        exact sm
    have hll:(L++[mkB R]).length=L.length+1:=by simp
    by_cases h10:L.length=10
    · refine .inr ⟨iH _ ?_,sH _ ?_⟩
      · simp only [if_pos hok,if_pos (show (L.length:Int)≥10 by omega)]
        exact Ev.now _
      · rw [hok]
        simp only [Bool.not_true,Bool.false_eq_true,if_false]
        exact s_long _ _ _ _ _ _ _ _ _ _ _ _ _ _ (by omega) hnw
    have hgt:p<p':=by
      have h:=congrArg List.length q5
      have h':=vV 48 y
      rw [List.length_drop,List.length_take] at h
      omega
    have hb2:zC (L++[mkB R])=Q.take p'.toNat:=by
      rw [yX,xR (show p≤p' by omega) q5,h6]
      simp only [zC,List.append_nil,rb1]
    rcases ih (L++[mkB R]) p' (by omega) (by omega) (by omega) (by omega) hnw hb2 with ⟨L',a1,a2,a3,a4,a5⟩|⟨b1,b2⟩
    · refine .inl ⟨L',a1,a2,a3,fun r hr=>iH _ ?_,fun r hr=>sH _ ?_⟩
      · simp only [if_pos hok,if_neg (show ¬(L.length:Int)≥10 by omega),if_pos (show L.length<1759218604441 by omega)]
        exact a4 r hr
      · rw [hok]
        simp only [Bool.not_true,Bool.false_eq_true,if_false]
        exact a5 r hr
    · refine .inr ⟨iH _ ?_,sH _ ?_⟩
      · simp only [if_pos hok,if_neg (show ¬(L.length:Int)≥10 by omega),if_pos (show L.length<1759218604441 by omega)]
        exact b1
      · rw [hok]
        simp only [Bool.not_true,Bool.false_eq_true,if_false]
        exact b2
theorem getPdu_both (l:List Int) (hb:xM l) (hl:l.length≤1048576):∃R:Int × Int × Int × Int × List S45 × Bool,Ev (fun k=>aW.f k l) R∧Ev (fun k=>cK.f k l) R∧(R=yG∨(R.2.2.2.2.2=true∧yJ R.1 R.2.1 R.2.2.1 R.2.2.2.1 R.2.2.2.2.1=true∧zN R.1 R.2.1 R.2.2.1 R.2.2.2.1 R.2.2.2.2.1=l∧∀y ∈ R.2.2.2.2.1,zI y)):=by
  have sT:=vM l 0 hb hl (by omega)
  have iT:=yT l 0 hb hl (by omega)
  obtain ⟨t1,t2⟩:=getTlv_in l 0 hb
  have t3:=qF l 0
  have tt:=qS l hb 0
  generalize hT:zH l 0=T at sT iT t1 t2 t3
  obtain ⟨t,B,nx,ok⟩:=T
  replace t2:xM B:=t2
  replace t3:B.length≤l.length:=t3
  have hB:B.length≤1048576:=by omega
  have r0:(0:Int)≤0∧(0:Int)≤(B.length:Int):=by omega
  have s1:=sNum_ev B 0 false t2 hB r0
  have i1:=qZ B 0 false 2 t2 hB r0
  have r1:=numP_in B 0 false 2 t2 r0
  have e1:=num_true B t2 0
  generalize h1:uD B 0 false 2=N1 at s1 i1 r1
  obtain ⟨a,p1,b1⟩:=N1
  replace r1:0≤p1∧p1≤(B.length:Int):=r1
  have s2:=sNum_ev B p1 b1 t2 hB r1
  have i2:=qZ B p1 b1 2 t2 hB r1
  have r2:=numP_in B p1 b1 2 t2 r1
  have e2:=num_true B t2 p1
  generalize h2:uD B p1 b1 2=N2 at s2 i2 r2
  obtain ⟨b,p2,b2⟩:=N2
  replace r2:0≤p2∧p2≤(B.length:Int):=r2
  have s3:=sNum_ev B p2 b2 t2 hB r2
  have i3:=qZ B p2 b2 2 t2 hB r2
  have r3:=numP_in B p2 b2 2 t2 r2
  have e3:=num_true B t2 p2
  generalize h3:uD B p2 b2 2=N3 at s3 i3 r3
  obtain ⟨c,p3,b3⟩:=N3
  replace r3:0≤p3∧p3≤(B.length:Int):=r3
  have s4:=vY B p3 b3 48 t2 hB r3
  have i4:=xK B p3 b3 48 t2 hB r3
  obtain ⟨r4,q4,l4⟩:=xS B p3 b3 48 t2 r3
  have e4:=qX B t2 p3
  generalize h4:zW B p3 b3 48=P4 at s4 i4 r4 q4 l4
  obtain ⟨Q,p4,b4⟩:=P4
  replace r4:0≤p4∧p4≤(B.length:Int):=r4
  replace q4:xM Q:=q4
  replace l4:Q.length≤B.length:=l4
  have sF:∀r,Ev (fun k=>aW.l0 k l B nx ok B p4 b4 t a b c [] Q 0 false) r→Ev (fun k=>aW.f k l) r:=by
    intro r hr
    unfold aW.f
    exact Ev.bind sT (Ev.bind s1 (Ev.bind s2 (Ev.bind s3 (Ev.bind s4 hr))))
  have iF:∀r,Ev (fun k=>if ok=true then (if (nx !=(l.length:Int))=true then some yG else if (if b4=true then (false,p4,b4) else ((p4==(B.length:Int)),p4,b4)).1=true then cK.l0 k l t a b c [] Q 0 false else some yG) else some yG) r→Ev (fun k=>cK.f k l) r:=by
    intro r hr
    unfold cK.f
    refine Ev.bind iT ?_
    by_cases c0:ok=true
    · simp only [if_pos c0] at hr ⊢
      refine Ev.succ ?_
      simp only [cK.j0]
      by_cases c1:(nx !=(l.length:Int))=true
      · simp only [if_pos c1] at hr ⊢
        exact hr
      · simp only [if_neg c1] at hr ⊢
        refine Ev.bind i1 (Ev.bind i2 (Ev.bind i3 (Ev.bind i4 ?_)))
        unfold dQ.f
        by_cases c2:b4=true
        · simp only [if_pos c2,Option.bind_some] at hr ⊢
          exact hr
        · simp only [if_neg c2,Option.bind_some] at hr ⊢
          exact hr
    · simp only [if_neg c0] at hr ⊢
      refine Ev.succ ?_
      simp only [cK.j0,if_true]
      exact hr
  by_cases c4:b4=true
  · subst c4
    refine ⟨yG,sF _ (s_bad _ _ _ _ _ _ _ _ _ _ _ _ _ _),iF _ ?_,.inl rfl⟩
    simp only [if_true,Bool.false_eq_true,if_false,ite_self]
    exact Ev.now _
  obtain rfl:b4=false:=by simpa using c4
  simp only [Bool.false_eq_true,if_false] at iF
  obtain ⟨u1,u2,u3,_,u5⟩:=e4 p4 48 b3 Q h4
  rcases pdu_loops l B nx ok B p4 t a b c Q q4 (by omega) Q.length [] 0 (by omega) (by omega) (by omega) (by simp) (by simp) (by simp [zC]) with ⟨L',a1,a2,a3,a4,a5⟩|⟨x1,x2⟩
  rotate_left
  · refine ⟨yG,sF _ x2,iF _ ?_,.inl rfl⟩
    by_cases d1:ok=true
    · simp only [if_pos d1]
      by_cases d2:(nx !=(l.length:Int))=true
      · simp only [if_pos d2]
        exact Ev.now _
      · simp only [if_neg d2]
        by_cases d3:(p4==(B.length:Int))=true
        · simp only [if_pos d3]
          exact x1
        · simp only [if_neg d3]
          exact Ev.now _
    · simp only [if_neg d1]
      exact Ev.now _
  have sf:=s_fin l B nx ok B p4 t a b c L' Q (Q.length:Int) false (by omega) a2
  by_cases d1:ok=true
  rotate_left
  · simp only [if_neg d1] at sf iF
    exact ⟨yG,sF _ (a5 _ sf),iF _ (Ev.now _),.inl rfl⟩
  by_cases d2:nx=(l.length:Int)
  rotate_left
  · simp only [if_pos d1,if_neg d2] at sf
    simp only [if_pos d1,if_pos (show (nx !=(l.length:Int))=true by simpa using d2)] at iF
    exact ⟨yG,sF _ (a5 _ sf),iF _ (Ev.now _),.inl rfl⟩
  by_cases d3:p4=(B.length:Int)
  rotate_left
  · simp only [if_pos d1,if_pos d2,if_neg d3] at sf
    simp only [if_pos d1,if_neg (show ¬(nx !=(l.length:Int))=true by simp [d2]),if_neg (show ¬(p4==(B.length:Int))=true by simpa using d3)] at iF
    exact ⟨yG,sF _ (a5 _ sf),iF _ (Ev.now _),.inl rfl⟩
  simp only [if_pos d1,if_pos d2,if_pos d3,if_true] at sf
  simp only [if_pos d1,if_neg (show ¬(nx !=(l.length:Int))=true by simp [d2]),if_pos (show (p4==(B.length:Int))=true by simpa using d3)] at iF
  have ip:=qA t a b c L' (by omega) a2
  by_cases d4:yJ t a b c L'=true
  rotate_left
  · rw [if_neg d4] at sf
    refine ⟨yG,sF _ (a5 _ sf),iF _ (a4 _ (Ev.bind ip ?_)),.inl rfl⟩
    simp only [show zN t a b c L'=[] by unfold zN;rw [if_neg d4],List.length_nil,Int.natCast_zero,if_true]
    exact Ev.now _
  rw [if_pos d4] at sf
  have hput:zN t a b c L'=l:=by
    subst d1
    obtain ⟨v1,v2,v3⟩:=tt t nx B hT
    subst u1
    obtain ⟨w1,w2,w3⟩:=e3 p3 2 c b2 h3
    subst w1
    obtain ⟨y1,y2,y3⟩:=e2 p2 2 b b1 h2
    subst y1
    obtain ⟨_,z2,z3⟩:=e1 p1 2 a false h1
    have hk:=(yI d4).1
    have hbody:zT a b c++zA 48 Q=B:=by
      have g4:=xR (show p3≤p4 by omega) u5
      have g3:=xR (show p2≤p3 by omega) w3
      have g2:=xR (show p1≤p2 by omega) y3
      have g1:=xR (show (0:Int)≤p1 by omega) z3
      rw [g3,g2,g1,d3,Int.toNat_natCast,List.take_length,put48 [] Q (by omega)] at g4
      rw [g4]
      unfold zT xW
      rw [vO (zG (zG [] 2 (zB (zD a))) 2 (zB (zD b))),vO (zG [] 2 (zB (zD a)))]
      simp
    rw [d2] at v3
    simp only [Int.toNat_natCast,List.take_length,Int.toNat_zero,List.drop_zero] at v3
    unfold zN finP
    rw [if_pos d4,a3,if_pos (show (Q.length:Int)≤250 by omega),hbody,if_pos (show (B.length:Int)≤250 by omega),v3]
    unfold zG
    rw [tlvOkT t B hk,decide_eq_true (show (B.length:Int)≤250 by omega)]
    simp
  have hlen:¬(l.length:Int)=0:=by
    intro h0
    have:=congrArg List.length hput
    unfold zN finP at this
    rw [if_pos d4,a3] at this
    subst d1
    obtain ⟨v1,v2,v3⟩:=tt t nx B hT
    have hl0:l=[]:=List.length_eq_zero_iff.1 (by omega)
    subst hl0
    simp [zH,qK] at hT
  refine ⟨(t,a,b,c,L',true),sF _ (a5 _ sf),iF _ (a4 _ (Ev.bind ip ?_)),.inr ⟨rfl,d4,hput,a2⟩⟩
  simp only [hput,if_neg hlen,if_true]
  exact Ev.now _

theorem putBody_bys (t n:Int) (s:ByteArray) (o:List Int):xM (zJ t n s o):=by
  unfold zJ
  split
  · exact xZ _
  · split
    · exact qV s
    · split
      · exact yF o
      · intro z hz;simp at hz
theorem val_tag (t n:Int) (s:ByteArray) (o:List Int) (h:yA t n s o=true):0≤t∧t≤255:=by
  rcases val_kinds t n s o h with h|h|h|h<;>omega
theorem qP (b:List Int) (t n:Int) (s:ByteArray) (o:List Int) (h:yA t n s o=true):zQ b t n s o=b++zA t (zJ t n s o):=by
  have hl:=xN t n s o h
  unfold zQ zG yR
  rw [if_pos h,decide_eq_true (val_tag t n s o h),decide_eq_true (show ((zJ t n s o).length:Int)≤250 by omega)]
  rfl
theorem putVal_bys (b:List Int) (t n:Int) (s:ByteArray) (o:List Int) (hb:xM b):xM (zQ b t n s o):=by
  by_cases h:yA t n s o=true
  · rw [qP b t n s o h]
    exact yQ hb (yD t _ (val_tag t n s o h) (putBody_bys t n s o) (by have:=xN t n s o h;omega))
  · unfold zQ
    rw [if_neg h]
    exact hb
theorem xX (t n:Int) (s:ByteArray) (o:List Int) (n':Int) (s':ByteArray) (o':List Int) (h1:n'=n) (h2:s'.toList=s.toList) (h3:o'=o):zX t n' s' o' t n s o=true:=by
  unfold zX
  rw [if_pos rfl,if_pos h1,if_pos h2]
  exact decide_eq_true h3
theorem iGetVal_back (b:List Int) (t n:Int) (s:ByteArray) (o:List Int) (hb:xM b) (hl:b.length≤1000) (h:yA t n s o=true):∃n' s' o',Ev (fun k=>eW.f k (zQ b t n s o) (b.length:Int)) (t,n',s',o',((zQ b t n s o).length:Int),true)∧zX t n' s' o' t n s o=true∧o'.length≤10:=by
  have hbl:=xN t n s o h
  have hln:=putVal_len b t n s o
  have hbys:=putVal_bys b t n s o hb
  have hi:=yT (zQ b t n s o) (b.length:Int) hbys (by omega) (by omega)
  rw [qP b t n s o h] at hi ⊢
  rw [get_full b (zJ t n s o) t (val_tag t n s o h) (by omega)] at hi
  unfold eW.f
  generalize ((b++zA t (zJ t n s o)).length:Int)=p at hi ⊢
  have hv:=fun (n':Int) (s':ByteArray) (o':List Int) (ho:o'.length≤10) (hok:yA t n' s' o'=true)=>(by
    have e:=xE t n' s' o' p (by omega)
    rw [if_pos hok] at e
    exact e:Ev (fun k=>(cT.f k t n' s' o').bind fun v=>if v=true then some (t,n',s',o',p,true) else some (0,0,(⟨#[]⟩:ByteArray),([]:List Int),0,false)) (t,n',s',o',p,true))
  rcases val_kinds t n s o h with ⟨rfl,h1,h2,rfl⟩|⟨rfl,h1,rfl,rfl⟩|⟨rfl,h1,rfl,h2⟩|⟨h1,rfl,h2,rfl⟩
  · have gi:=qD (zB (zD n)) (xZ _) (by have:=zR (zD n);omega)
    rw [getInt_put,h1] at gi
    refine ⟨n,⟨#[]⟩,[],Ev.bind hi ?_,xX 2 n s [] n _ [] rfl (by rw [noStr,h2]) rfl,by simp⟩
    simp only [if_true]
    have hpb:zJ 2 n s []=zB n:=by unfold zJ;rw [if_pos rfl,h1]
    rw [hpb]
    refine Ev.bind gi ?_
    simp only [if_true]
    refine hv n ⟨#[]⟩ [] (by simp) ?_
    unfold yA
    rw [if_neg (by omega),if_pos rfl,if_pos h1,if_pos noStr]
    rfl
  · refine ⟨0,s,[],Ev.bind hi ?_,xX 4 0 s [] 0 s [] rfl rfl rfl,by simp⟩
    have hpb:zJ 4 0 s []=fN s:=by unfold zJ;rw [if_neg (by omega),if_pos rfl]
    simp only [if_neg (show ¬(4:Int)=2 by omega),if_true]
    rw [hpb,uC]
    exact hv 0 s [] (by simp) h
  · obtain ⟨gi,_⟩:=qT o h1
    have hol:o.length≤10:=by
      have:=h1
      simp only [zO,Bool.and_eq_true,decide_eq_true_eq] at this
      omega
    refine ⟨0,⟨#[]⟩,o,Ev.bind hi ?_,xX 6 0 s o 0 _ o rfl (by rw [noStr,h2]) rfl,hol⟩
    have hpb:zJ 6 0 s o=zF o:=by unfold zJ;rw [if_neg (by omega),if_neg (by omega),if_pos rfl]
    simp only [if_neg (show ¬(6:Int)=2 by omega),if_neg (show ¬(6:Int)=4 by omega),if_true]
    rw [hpb]
    refine Ev.bind gi ?_
    simp only [if_true]
    refine hv 0 ⟨#[]⟩ o hol ?_
    unfold yA
    rw [if_neg (by omega),if_neg (by omega),if_neg (by omega),if_pos rfl,if_pos h1,if_pos rfl,noStr]
    rfl
  · refine ⟨0,⟨#[]⟩,[],Ev.bind hi ?_,xX t 0 s [] 0 _ [] rfl (by rw [noStr,h2]) rfl,by simp⟩
    have hpb:zJ t 0 s []=[]:=by unfold zJ;rw [if_neg (by omega),if_neg (by omega),if_neg (by omega)]
    simp only [if_neg (show ¬t=2 by omega),if_neg (show ¬t=4 by omega),if_neg (show ¬t=6 by omega),if_true]
    rw [hpb]
    simp only [List.length_nil]
    refine hv 0 ⟨#[]⟩ [] (by simp) ?_
    unfold yA valNil
    rw [if_pos h1,if_pos rfl,if_pos noStr]
    rfl

theorem put6 (o:List Int):zG [] 6 (zF o)=zA 6 (zF o):=by
  have:=yE o
  unfold zG yR
  rw [decide_eq_true (show (0:Int)≤6∧(6:Int)≤255 by omega),decide_eq_true (show ((zF o).length:Int)≤250 by omega)]
  simp
theorem bind_back (x:S45) (h:vF x):∃n' s' o',Ev (fun k=>eX.f k (yC x)) (x.f0,x.f1.f0,n',s',o',true)∧zX x.f1.f0 n' s' o' x.f1.f0 x.f1.f1 x.f1.f2 x.f1.f3=true∧o'.length≤10:=by
  have hp:=yE x.f0
  have ht:=zS 6 (zF x.f0)
  have hb6:xM (zA 6 (zF x.f0)):=yD 6 _ (by omega) (yF x.f0) (by omega)
  obtain ⟨n',s',o',hv,hs,ho⟩:=iGetVal_back (zA 6 (zF x.f0)) x.f1.f0 x.f1.f1 x.f1.f2 x.f1.f3 hb6 (by omega) h.2
  have e:yC x=zQ (zA 6 (zF x.f0)) x.f1.f0 x.f1.f1 x.f1.f2 x.f1.f3:=by
    unfold yC
    rw [put6]
  have ef:=qP (zA 6 (zF x.f0)) _ _ _ _ h.2
  have hl:=xF x h
  have hB:xM (yC x):=by rw [e];exact putVal_bys _ _ _ _ _ hb6
  have ip:=xK (yC x) 0 false 6 hB (by omega) (by omega)
  have hq:=part_back [] (zF x.f0) (zA x.f1.f0 (zJ x.f1.f0 x.f1.f1 x.f1.f2 x.f1.f3)) 6 (by omega) (by omega)
  simp only [List.nil_append,List.length_nil,Int.natCast_zero] at hq
  rw [← ef,← e] at hq
  rw [hq] at ip
  obtain ⟨io,_⟩:=qT x.f0 h.1
  refine ⟨n',s',o',?_,hs,ho⟩
  rw [← e] at hv
  unfold eX.f
  refine Ev.bind ip (Ev.bind io (Ev.bind hv ?_))
  simp only [Bool.false_eq_true,if_false,if_true]
  exact Ev.now _

def xG:List S45→List S45→Bool
  |r::a,r'::b=>if decide (r.f0=r'.f0)=true then (if zX r.f1.f0 r.f1.f1 r.f1.f2 r.f1.f3 r'.f1.f0 r'.f1.f1 r'.f1.f2 r'.f1.f3=true then xG a b else false) else false
  |_,_=>true
theorem sSameBinds_loop (a:List S45):∀(b pre pre':List S45),a.length=b.length→pre.length=pre'.length→pre.length+a.length≤1048576→(∀y ∈ a,zI y)→
    Ev (fun k=>bP.l0 k (pre++a) (pre'++b) (pre.length:Int)) (xG a b):=by
  induction a with
  |nil=>
    intro b pre pre' _ _ _ _
    refine Ev.succ ?_
    simp only [bP.l0]
    simp only [List.append_nil,if_neg (show ¬(pre.length:Int)<(pre.length:Int) by omega),xG]
    exact Ev.now _
  |cons r a ih=>
    intro b pre pre' hb hp hn hw
    rcases b with _|⟨r',b⟩
    · simp at hb
    simp only [List.length_cons] at hn hb
    have hr:=hw r List.mem_cons_self
    have h1:=hr.1
    have h2:=hr.2
    have h:=ih b (pre++[r]) (pre'++[r']) (by omega) (by simp only [List.length_append,List.length_cons,List.length_nil];omega) (by simp only [List.length_append,List.length_cons,List.length_nil];omega) (fun y hy=>hw y (List.mem_cons_of_mem _ hy))
    simp only [List.append_assoc,List.cons_append,List.nil_append] at h
    rw [show ((pre++[r]).length:Int)=(pre.length:Int)+1 by simp] at h
    refine Ev.succ ?_
    simp only [bP.l0]
    simp only [if_pos (show (pre.length:Int)<((pre++r::a).length:Int) by simp only [List.length_append,List.length_cons];omega),if_pos (show (0:Int)≤(pre.length:Int) by omega),if_pos (show (pre.length:Int)<((pre'++r'::b).length:Int) by simp only [List.length_append,List.length_cons];omega),xI,rdIB_mid' pre' b r' pre.length hp.symm,w64 (x:=(pre.length:Int)+1) (by omega) (by omega),xG]
    refine Ev.bind (sSameOid_ev _ _ (by omega)) ?_
    refine Ev.ite (fun _=>?_) (fun _=>Ev.now _)
    refine Ev.bind (sSameVal_ev _ _ _ _ _ _ _ _ (by omega)) ?_
    refine Ev.ite (fun _=>?_) (fun _=>Ev.now _)
    exact h
theorem sSameBinds_ev (a b:List S45) (h:a.length≤1048576) (hw:∀y ∈ a,zI y):Ev (fun k=>bP.f k a b) (if (a.length:Int)=(b.length:Int) then xG a b else false):=by
  unfold bP.f
  refine Ev.ite (fun e=>?_) (fun _=>Ev.now _)
  have h:=sSameBinds_loop a b [] [] (by omega) rfl (by simp only [List.length_nil];omega) hw
  simpa using h
theorem iSameBinds_loop (a:List S45):∀(b pre pre':List S45) (m:Int),m=(pre.length:Int)+a.length→a.length=b.length→pre.length=pre'.length→pre.length+a.length≤1048576→(∀y ∈ a,zI y)→
    Ev (fun k=>bL.l0 k (pre++a) (pre'++b) m (pre.length:Int)) (xG a b):=by
  induction a with
  |nil=>
    intro b pre pre' m hm _ _ _ _
    simp only [List.length_nil] at hm
    refine Ev.succ ?_
    simp only [bL.l0]
    simp only [if_neg (show ¬(pre.length:Int)<m by omega),xG]
    exact Ev.now _
  |cons r a ih=>
    intro b pre pre' m hm hb hp hn hw
    rcases b with _|⟨r',b⟩
    · simp at hb
    simp only [List.length_cons] at hn hb hm
    have hr:=hw r List.mem_cons_self
    have h1:=hr.1
    have h2:=hr.2
    have h:=ih b (pre++[r]) (pre'++[r']) m (by simp only [List.length_append,List.length_cons,List.length_nil];omega) (by omega) (by simp only [List.length_append,List.length_cons,List.length_nil];omega) (by simp only [List.length_append,List.length_cons,List.length_nil];omega) (fun y hy=>hw y (List.mem_cons_of_mem _ hy))
    simp only [List.append_assoc,List.cons_append,List.nil_append] at h
    rw [show ((pre++[r]).length:Int)=(pre.length:Int)+1 by simp] at h
    refine Ev.succ ?_
    simp only [bL.l0]
    simp only [if_pos (show (pre.length:Int)<m by omega),if_pos (show (pre.length:Int)<((pre++r::a).length:Int) by simp only [List.length_append,List.length_cons];omega),if_pos (show (0:Int)≤(pre.length:Int) by omega),if_pos (show (pre.length:Int)<((pre'++r'::b).length:Int) by simp only [List.length_append,List.length_cons];omega),xI,rdIB_mid' pre' b r' pre.length hp.symm,w64 (x:=(pre.length:Int)+1) (by omega) (by omega),xG]
    refine Ev.bind (iSameOid_ev _ _ (by omega)) ?_
    refine Ev.ite (fun _=>?_) (fun _=>Ev.now _)
    refine Ev.bind (yH _ _ _ _ _ _ _ _ (by omega)) ?_
    refine Ev.ite (fun _=>?_) (fun _=>Ev.now _)
    exact h
theorem vD (a b:List S45) (h:a.length≤1048576) (hw:∀y ∈ a,zI y):Ev (fun k=>bL.f k a b) (if (a.length:Int)=(b.length:Int) then xG a b else false):=by
  unfold bL.f
  refine Ev.ite (fun e=>?_) (fun _=>Ev.now _)
  have h:=iSameBinds_loop a b [] [] (a.length:Int) (by simp) (by omega) rfl (by simp only [List.length_nil];omega) hw
  simpa using h

theorem vN (b:List Int) (t:Int) (y:List Int) (hb:xM b) (hy:xM y):xM (zG b t y):=by
  unfold zG
  split
  · rename_i h
    unfold yR at h
    simp only [Bool.and_eq_true,decide_eq_true_eq] at h
    exact yQ hb (yD t y (by omega) hy (by omega))
  · exact hb
theorem xO:xM []:=by intro z hz;simp at hz
theorem xV (b:List Int) (n:Int) (hb:xM b):xM (xW b n):=vN b 2 _ hb (xZ _)
theorem bodyV_bys (t n:Int) (s:ByteArray) (o:List Int):xM (zJ t n s o):=by
  unfold zJ
  split
  · exact xZ _
  · split
    · exact qV s
    · split
      · exact yF o
      · exact xO
theorem bindB_bys (x:S45):xM (yC x):=by
  have h:=vN [] 6 (zF x.f0) xO (yF _)
  unfold yC zQ
  split
  · exact vN _ _ _ h (bodyV_bys _ _ _ _)
  · exact h
theorem qI:∀l:List S45,(∀x ∈ l,vF x)→xM (zC l)
  |[],_=>xO
  |x::r,h=>by
    have h1:=xF x (h x List.mem_cons_self)
    exact yQ (yD 48 _ (by omega) (bindB_bys x) (by omega)) (qI r (fun y hy=>h y (List.mem_cons_of_mem _ hy)))
theorem putPdu_bys (t a b c:Int) (l:List S45):xM (zN t a b c l):=by
  unfold zN
  split
  · rename_i h
    obtain ⟨ht,_,hg⟩:=yI h
    unfold finP
    split
    · rename_i h1
      split
      · rename_i h2
        exact yD t _ (by omega) (yQ (xV _ _ (xV _ _ (xV _ _ xO))) (yD 48 _ (by omega) (qI l hg) (by omega))) (by omega)
      · exact xO
    · exact xO
  · exact xO

theorem bytes_ext (s s':ByteArray) (h:s.toList=s'.toList):s=s':=by
  obtain ⟨a⟩:=s
  obtain ⟨b⟩:=s'
  rw [ByteArray.toList_mk,ByteArray.toList_mk] at h
  rw [Array.ext' h]
theorem sameVal_is (t n:Int) (s:ByteArray) (o:List Int) (n':Int) (s':ByteArray) (o':List Int) (h:zX t n' s' o' t n s o=true):n'=n∧s'=s∧o'=o:=by
  unfold zX at h
  rw [if_pos rfl] at h
  by_cases h1:n'=n
  · rw [if_pos h1] at h
    by_cases h2:s'.toList=s.toList
    · rw [if_pos h2] at h
      exact ⟨h1,bytes_ext _ _ h2,of_decide_eq_true h⟩
    · rw [if_neg h2] at h
      cases h
  · rw [if_neg h1] at h
    cases h
theorem loop_back (x0:List Int) (t a b c:Int) (rest:List S45):∀(pre:List S45),(∀x ∈ pre++rest,vF x)→pre.length+rest.length≤10→
    ∀r,Ev (fun k=>cK.l0 k x0 t a b c (pre++rest) (zC (pre++rest)) ((zC (pre++rest)).length:Int) false) r→Ev (fun k=>cK.l0 k x0 t a b c pre (zC (pre++rest)) ((zC pre).length:Int) false) r:=by
  induction rest with
  |nil=>
    intro pre _ _ r hr
    simpa using hr
  |cons x rest ih=>
    intro pre hg hn r hr
    have gx:=hg x (List.mem_append_right _ List.mem_cons_self)
    obtain ⟨n',s',o',ib,sv,_⟩:=bind_back x gx
    obtain ⟨rfl,rfl,rfl⟩:=sameVal_is _ _ _ _ _ _ _ sv
    have hbl:=xF x gx
    have hQ:zC (pre++x::rest)=zC pre++(zA 48 (yC x)++zC rest):=by
      rw [yX]
      rfl
    have hQ2:zC (pre++[x])=zC pre++zA 48 (yC x):=by
      rw [yX]
      simp [zC]
    have hqb:=qI (pre++x::rest) hg
    have hql:=vT (pre++x::rest) hg
    simp only [List.length_append,List.length_cons] at hn hql
    have hi:=ih (pre++[x]) (by simpa using hg) (by simp only [List.length_append,List.length_cons,List.length_nil];omega)
    simp only [List.append_assoc,List.cons_append,List.nil_append] at hi
    have hll:=congrArg List.length hQ
    have htp:=vV 48 (yC x)
    simp only [List.length_append] at hll
    have ip:=xK (zC (pre++x::rest)) ((zC pre).length:Int) false 48 hqb (by omega) (by omega)
    have hpt:=part_back (zC pre) (yC x) (zC rest) 48 (by omega) (by omega)
    rw [← hQ,← hQ2] at hpt
    rw [hpt] at ip
    refine Ev.succ ?_
    simp only [cK.l0,if_pos (show ((zC pre).length:Int)<((zC (pre++x::rest)).length:Int) by omega)]
    refine Ev.bind ip (Ev.bind ib ?_)
    simp only [if_true,if_neg (show ¬(pre.length:Int)≥10 by omega),if_pos (show pre.length<1759218604441 by omega)]
    exact hi r hr

theorem part_full (pre body:List Int) (t:Int) (ht:0≤t∧t≤255) (h:body.length≤250):zW (pre++zA t body) (pre.length:Int) false t=(body,((pre++zA t body).length:Int),false):=by
  unfold zW
  rw [get_full pre body t ht h]
  simp only [Bool.false_eq_true,if_false,if_true]
theorem vC (l:List Int) (n:Int):xW l n=l++zA 2 (zB (zD n)):=put_ok l 2 n (by omega)
theorem goodI_small (x:S45) (h:vF x):zI x:=by
  obtain ⟨h1,h2⟩:=h
  simp only [zO,Bool.and_eq_true,decide_eq_true_eq] at h1
  refine ⟨by omega,?_⟩
  rcases val_kinds _ _ _ _ h2 with ⟨_,_,_,h⟩|⟨_,_,_,h⟩|⟨_,h,_,_⟩|⟨_,_,_,h⟩
  · rw [h];simp
  · rw [h];simp
  · simp only [zO,Bool.and_eq_true,decide_eq_true_eq] at h
    omega
  · rw [h];simp
theorem clip_of (id:Int) (h:zD id=id):-2147483648≤id∧id≤2147483647:=by
  have:=clip_bd id
  rw [h] at this
  exact this
theorem pduOk_nums {t a b c:Int} {l:List S45} (h:yJ t a b c l=true):(-2147483648≤a∧a≤2147483647)∧(0≤b∧b≤1000)∧(0≤c∧c≤1000):=by
  unfold yJ at h
  by_cases h1:uB t b c=true
  · rw [if_pos h1] at h
    by_cases h2:(l.length:Int)≤10
    · rw [if_pos h2] at h
      refine ⟨clip_of a (of_decide_eq_true (qH l _ h).2),?_⟩
      unfold uB at h1
      split at h1
      · have:=of_decide_eq_true h1
        omega
      · split at h1
        · exact of_decide_eq_true h1
        · cases h1
    · rw [if_neg h2] at h
      cases h
  · rw [if_neg h1] at h
    cases h
theorem pdu_back (t a b c:Int) (l:List S45) (h:(zN t a b c l).length≠0):(∀x ∈ l,zI x)∧l.length≤10∧Ev (fun k=>cK.f k (zN t a b c l)) (t,a,b,c,l,true):=by
  have hok:yJ t a b c l=true:=by
    cases e:yJ t a b c l with
    |true=>rfl
    |false=>
      unfold zN at h
      rw [e] at h
      simp at h
  obtain ⟨ht,hl,hg⟩:=yI hok
  obtain ⟨ha,hb,hc⟩:=pduOk_nums hok
  have hsm:∀x ∈ l,zI x:=fun x hx=>goodI_small x (hg x hx)
  have hqb:=qI l hg
  have e0:zN t a b c l=finP t a b c (zC l):=by unfold zN;rw [if_pos hok]
  have h1:((zC l).length:Int)≤250:=by
    by_cases c1:((zC l).length:Int)≤250
    · exact c1
    · rw [e0] at h
      unfold finP at h
      rw [if_neg c1] at h
      simp at h
  have h2:((zT a b c++zA 48 (zC l)).length:Int)≤250:=by
    by_cases c1:((zT a b c++zA 48 (zC l)).length:Int)≤250
    · exact c1
    · rw [e0] at h
      unfold finP at h
      rw [if_pos h1,if_neg c1] at h
      simp at h
  have e1:zN t a b c l=zA t (zT a b c++zA 48 (zC l)):=by
    rw [e0]
    unfold finP
    rw [if_pos h1,if_pos h2]
  have hL:=vP t a b c l
  have hbys:=putPdu_bys t a b c l
  have hT:=yT (zN t a b c l) 0 hbys (by omega) (by omega)
  have gf:=get_full [] (zT a b c++zA 48 (zC l)) t (by omega) (by omega)
  simp only [List.nil_append,List.length_nil,Int.natCast_zero] at gf
  rw [← e1] at gf
  rw [gf] at hT
  have hB:xM (zT a b c++zA 48 (zC l)):=yQ (xV _ _ (xV _ _ (xV _ _ xO))) (yD 48 _ (by omega) hqb (by omega))
  have p3:=part_full (zT a b c) (zC l) 48 (by omega) (by omega)
  have f1:zT a b c++zA 48 (zC l)=[]++(zA 2 (zB (zD a))++(zA 2 (zB (zD b))++(zA 2 (zB (zD c))++zA 48 (zC l)))):=by
    unfold zT
    rw [vC,vC,vC]
    simp
  have f2:zT a b c++zA 48 (zC l)=zA 2 (zB (zD a))++(zA 2 (zB (zD b))++(zA 2 (zB (zD c))++zA 48 (zC l))):=by
    rw [f1]
    rfl
  have f3:zT a b c++zA 48 (zC l)=(zA 2 (zB (zD a))++zA 2 (zB (zD b)))++(zA 2 (zB (zD c))++zA 48 (zC l)):=by
    rw [f2,List.append_assoc]
  have f4:(zA 2 (zB (zD a))++zA 2 (zB (zD b)))++zA 2 (zB (zD c))=zT a b c:=by
    unfold zT
    rw [vC,vC,vC]
    simp
  have n0:=num_back [] (zA 2 (zB (zD b))++(zA 2 (zB (zD c))++zA 48 (zC l))) 2 a (by omega) ha
  have n1:=num_back (zA 2 (zB (zD a))) (zA 2 (zB (zD c))++zA 48 (zC l)) 2 b (by omega) (by omega)
  have n2:=num_back (zA 2 (zB (zD a))++zA 2 (zB (zD b))) (zA 48 (zC l)) 2 c (by omega) (by omega)
  rw [← f1] at n0
  rw [← f2] at n1
  rw [← f3,f4] at n2
  simp only [List.length_nil,Int.natCast_zero,List.nil_append] at n0
  have hB1:=congrArg List.length f2
  have d2:=congrArg List.length f4
  simp only [List.length_append] at hB1 d2 h2
  obtain ⟨B,hBe⟩:∃B,zT a b c++zA 48 (zC l)=B:=⟨_,rfl⟩
  have hBl:B.length=(zT a b c).length+(zA 48 (zC l)).length:=by rw [← hBe,List.length_append]
  rw [hBe] at hT hB p3 n0 n1 n2
  have i0:=qZ B 0 false 2 hB (by omega) (by omega)
  rw [n0] at i0
  have i1:=qZ B _ false 2 hB (by omega) (show 0≤((zA 2 (zB (zD a))).length:Int)∧((zA 2 (zB (zD a))).length:Int)≤(B.length:Int) by omega)
  rw [n1] at i1
  have i2:=qZ B _ false 2 hB (by omega) (show 0≤((zA 2 (zB (zD a))++zA 2 (zB (zD b))).length:Int)∧((zA 2 (zB (zD a))++zA 2 (zB (zD b))).length:Int)≤(B.length:Int) by rw [List.length_append];omega)
  rw [n2] at i2
  have i3:=xK B ((zT a b c).length:Int) false 48 hB (by omega) (by omega)
  rw [p3] at i3
  have hlp:=loop_back (zN t a b c l) t a b c l [] (by simpa using hg) (by simpa using hl)
  simp only [List.nil_append,zC,List.length_nil,Int.natCast_zero] at hlp
  have ip:=qA t a b c l (by omega) hsm
  refine ⟨hsm,hl,?_⟩
  unfold cK.f
  refine Ev.bind hT ?_
  simp only [if_true]
  refine Ev.succ ?_
  simp only [cK.j0,bne_self_eq_false,Bool.false_eq_true,if_false]
  refine Ev.bind i0 (Ev.bind i1 (Ev.bind i2 (Ev.bind i3 ?_)))
  unfold dQ.f
  simp only [Bool.false_eq_true,if_false,beq_self_eq_true,Option.bind_some,if_true]
  refine hlp _ ?_
  refine Ev.succ ?_
  simp only [cK.l0,if_neg (show ¬((zC l).length:Int)<((zC l).length:Int) by omega)]
  refine Ev.bind ip ?_
  simp only [if_neg (show ¬((zN t a b c l).length:Int)=0 by omega),if_true]
  exact Ev.now _

/- a draw's state: the bytes, a place in them, a seed -/
def yB (l:List Int) (p:Int):Prop:=0≤p∧p≤(l.length:Int)
theorem and_low (x:Int) (m:Nat) (hm:m<9223372036854775808):0≤Go.bits .and .i64 x (m:Int)∧Go.bits .and .i64 x (m:Int)≤m:=by
  have e:m % 2 ^ IntKind.i64.bits=m:=Nat.mod_eq_of_lt (show m<2 ^ 64 by omega)
  simp only [Go.bits,BitVec.ofInt_natCast,BitVec.toNat_and,BitVec.toNat_ofNat,e]
  have h:=Nat.and_le_right (n:=(BitVec.ofInt IntKind.i64.bits x).toNat) (m:=m)
  generalize (BitVec.ofInt IntKind.i64.bits x).toNat &&& m=q at h ⊢
  rw [IntKind.wrap_i64]
  omega
theorem and255 (x:Int):0≤Go.bits .and .i64 x 255∧Go.bits .and .i64 x 255≤255:=and_low x 255 (by decide)
theorem l1Byte_ok (l:List Int) (p s:Int) (hl:l.length≤1048576) (h:yB l p):∃v p' s',eI.f l p s=some (v,p',s')∧(0≤v∧v≤255)∧yB l p':=by
  unfold yB at h
  unfold eI.f yB
  by_cases c:p<(l.length:Int)
  · refine ⟨_,_,_,if_pos c|>.trans (if_pos h.1),and255 _,?_⟩
    rw [w64 (by omega) (by omega)]
    omega
  · exact ⟨_,_,_,if_neg c,and255 _,h⟩
theorem zE (l:List Int) (p s n:Int) (hl:l.length≤1048576) (h:yB l p) (hn:0<n):∃v p' s',a6.f l p s n=some (v,p',s')∧(0≤v∧v<n)∧yB l p':=by
  unfold a6.f
  rw [if_neg (by omega)]
  obtain ⟨v1,p1,s1,e1,b1,h1⟩:=l1Byte_ok l p s hl h
  rw [e1]
  simp only [Option.bind_some,if_neg (show ¬n=0 by omega)]
  by_cases c:n≤256
  · simp only [if_pos c]
    exact ⟨_,_,_,rfl,⟨Int.tmod_nonneg _ b1.1,Int.tmod_lt_of_pos _ hn⟩,h1⟩
  · simp only [if_neg c]
    obtain ⟨v2,p2,s2,e2,b2,h2⟩:=l1Byte_ok l p1 s1 hl h1
    rw [e2]
    simp only [Option.bind_some]
    obtain ⟨v3,p3,s3,e3,b3,h3⟩:=l1Byte_ok l p2 s2 hl h2
    rw [e3]
    simp only [Option.bind_some]
    rw [w64 (x:=v1*65536) (by omega) (by omega),w64 (x:=v2*256) (by omega) (by omega),w64 (x:=v1*65536+v2*256) (by omega) (by omega),w64 (by omega) (by omega)]
    exact ⟨_,_,_,rfl,⟨Int.tmod_nonneg _ (by omega),Int.tmod_lt_of_pos _ hn⟩,h3⟩
theorem rd_mem (xs:List Int) (i:Int) (h0:0≤i) (h1:i<(xs.length:Int)):rd xs i ∈ xs:=by
  unfold rd
  rw [List.getD_eq_getElem?_getD]
  have hi:i.toNat<xs.length:=by omega
  rw [List.getElem?_eq_getElem hi]
  exact List.getElem_mem hi
theorem l1New_loop (l:List Int) (rest:List Int):∀(pre:List Int) (s:Int),pre.length+rest.length≤1048576→∃s',Ev (fun k=>dS.l0 k (pre++rest) s (pre.length:Int)) (pre++rest,0,s'):=by
  induction rest with
  |nil=>
    intro pre s _
    refine ⟨s,Ev.succ ?_⟩
    simp only [dS.l0]
    simp only [List.append_nil,if_neg (show ¬(pre.length:Int)<(pre.length:Int) by omega)]
    exact Ev.now _
  |cons r rest ih=>
    intro pre s hn
    simp only [List.length_cons] at hn
    by_cases c:(pre.length:Int)<4000
    · obtain ⟨s',h⟩:=ih (pre++[r]) (Go.bits .and .i64 (wrap64 ((wrap64 ((wrap64 (s*137))+(wrap64 r)))+11)) 1073741823) (by simp only [List.length_append,List.length_cons,List.length_nil];omega)
      simp only [List.append_assoc,List.cons_append,List.nil_append] at h
      rw [show ((pre++[r]).length:Int)=(pre.length:Int)+1 by simp] at h
      refine ⟨s',Ev.succ ?_⟩
      simp only [dS.l0]
      simp only [if_pos (show (pre.length:Int)<((pre++r::rest).length:Int) by simp only [List.length_append,List.length_cons];omega),if_pos c,if_pos (show (0:Int)≤(pre.length:Int) by omega),zV,w64 (x:=(pre.length:Int)+1) (by omega) (by omega)]
      exact h
    · refine ⟨s,Ev.succ ?_⟩
      simp only [dS.l0]
      simp only [if_pos (show (pre.length:Int)<((pre++r::rest).length:Int) by simp only [List.length_append,List.length_cons];omega),if_neg c]
      exact Ev.now _
theorem l1New_ok (l:List Int) (hl:l.length≤1048576):∃s',Ev (fun k=>dS.f k l) (l,0,s'):=by
  unfold dS.f
  have h:=l1New_loop l l [] (wrap64 (762762+(l.length:Int))) (by simp only [List.length_nil];omega)
  simpa using h
theorem at0 (l:List Int):yB l 0:=⟨by omega,by omega⟩

theorem yZ (l:List Int) (p s:Int) (xs:List Int) (hl:l.length≤1048576) (h:yB l p) (hx:0<xs.length):∃v p' s',cY.f l p s xs=some (v,p',s')∧v ∈ xs∧yB l p':=by
  unfold cY.f
  obtain ⟨v1,p1,s1,e1,b1,h1⟩:=zE l p s (xs.length:Int) hl h (by omega)
  rw [e1]
  simp only [Option.bind_some,if_pos b1.1,if_pos b1.2]
  exact ⟨_,_,_,rfl,rd_mem xs v1 b1.1 b1.2,h1⟩

theorem l1Once_ok (l:List Int) (p s n:Int) (hl:l.length≤1048576) (h:yB l p) (hn:0<n):∃(v:Bool) (p' s':Int),fC.f l p s n=some (v,p',s')∧yB l p':=by
  unfold fC.f
  obtain ⟨v1,p1,s1,e1,b1,h1⟩:=zE l p s n hl h hn
  rw [e1]
  exact ⟨_,_,_,rfl,h1⟩

theorem l1Bend_ok (l:List Int) (p s:Int) (xs:List Int) (hl:l.length≤1048576) (h:yB l p) (hx:xM xs) (hn:xs.length≤1048576):∃o p' s',fJ.f l p s xs=some (o,p',s')∧xM o∧o.length≤xs.length+1∧yB l p':=by
  unfold fJ.f
  by_cases c:(xs.length:Int)=0
  · simp only [if_pos c]
    exact ⟨_,_,_,rfl,hx,by omega,h⟩
  simp only [if_neg c]
  obtain ⟨v1,p1,s1,e1,b1,h1⟩:=zE l p s 5 hl h (by omega)
  simp only [e1,Option.bind_some]
  by_cases c0:v1=0
  · obtain ⟨v2,p2,s2,e2,b2,h2⟩:=zE l p1 s1 (xs.length:Int) hl h1 (by omega)
    obtain ⟨v3,p3,s3,e3,b3,h3⟩:=yZ l p2 s2 [0,1,2,4,5,6,48,127,128,129,160,255] hl h2 (by decide)
    simp only [if_pos c0,e2,e3,Option.bind_some,if_pos b2.1,if_pos b2.2]
    exact ⟨_,_,_,rfl,bys_set hx _ (by omega),by rw [List.length_set];omega,h3⟩
  by_cases c1:v1=1
  · simp only [if_neg c0,if_pos c1,if_pos (show xs.length<140737488355328 by omega)]
    exact ⟨_,_,_,rfl,yQ hx (vB (by omega)),by simp,h1⟩
  by_cases c2:v1=2
  · obtain ⟨v2,p2,s2,e2,b2,h2⟩:=zE l p1 s1 (xs.length:Int) hl h1 (by omega)
    simp only [if_neg c0,if_neg c1,if_pos c2,e2,Option.bind_some,if_pos b2.1,if_pos (show v2≤(xs.length:Int) by omega)]
    exact ⟨_,_,_,rfl,bys_take hx _,by rw [List.length_take];omega,h2⟩
  · simp only [if_neg c0,if_neg c1,if_neg c2]
    exact ⟨_,_,_,rfl,hx,by omega,h1⟩

theorem l1Num_ok (l:List Int) (p s:Int) (hl:l.length≤1048576) (h:yB l p):∃v p' s',eP.f l p s=some (v,p',s')∧yB l p':=by
  unfold eP.f
  obtain ⟨v1,p1,s1,e1,b1,h1⟩:=zE l p s 1000 hl h (by omega)
  obtain ⟨v2,p2,s2,e2,b2,h2⟩:=yZ l p1 s1 [0,1,-1,127,128,-128,-129,255,256,32767,32768,-32769,8388608,2147483647,-2147483648,2147483648,-2147483649,9223372036854775807,-9223372036854775808,v1] hl h1 (by simp)
  simp only [e1,e2,Option.bind_some]
  exact ⟨_,_,_,rfl,h2⟩

def oids:List Int:=[0,1,2,3,127,128,16384,100000]
theorem l2Draw_loop (l:List Int) (hl:l.length≤1048576) (n:Nat):∀(x:List Int) (p s:Int),n≤10→x.length+n≤1000→yB l p→
    ∃o p' s',Ev (fun k=>cM.l0 k x (n:Int) l p s) (o,p',s')∧o.length=x.length+n∧yB l p':=by
  induction n with
  |zero=>
    intro x p s _ _ h
    refine ⟨x,p,s,Ev.succ ?_,by omega,h⟩
    simp only [cM.l0]
    simp only [if_neg (show ¬((0:Nat):Int)>0 by omega)]
    exact Ev.now _
  |succ n ih=>
    intro x p s hn hx h
    obtain ⟨v1,p1,s1,e1,b1,h1⟩:=yZ l p s oids hl h (by decide)
    obtain ⟨o,p',s',e,ho,hp⟩:=ih (x++[v1]) p1 s1 (by omega) (by simp only [List.length_append,List.length_cons,List.length_nil];omega) h1
    refine ⟨o,p',s',Ev.succ ?_,by simp only [List.length_append,List.length_cons,List.length_nil] at ho;omega,hp⟩
    unfold oids at e1
    simp only [cM.l0]
    simp only [if_pos (show ((n+1:Nat):Int)>0 by omega),e1,Option.bind_some,if_pos (show x.length<17592186044416 by omega),show ((n+1:Nat):Int) - 1=(n:Int) by omega,w64 (x:=(n:Int)) (by omega) (by omega)]
    exact e
theorem qY (l:List Int) (p s:Int) (hl:l.length≤1048576) (h:yB l p):∃o p' s',Ev (fun k=>cM.f k l p s) (o,p',s')∧(1≤o.length∧o.length≤6)∧yB l p':=by
  unfold cM.f
  obtain ⟨v1,p1,s1,e1,b1,h1⟩:=zE l p s 6 hl h (by omega)
  rw [e1]
  simp only [Option.bind_some]
  obtain ⟨n,hn⟩:=Int.eq_ofNat_of_zero_le (show 0≤1+v1 by omega)
  obtain ⟨o,p',s',e,ho,hp⟩:=l2Draw_loop l hl n [] p1 s1 (by omega) (by simp only [List.length_nil];omega) h1
  rw [w64 (by omega) (by omega),hn]
  exact ⟨o,p',s',e,by simp only [List.length_nil] at ho;omega,hp⟩
theorem l2Any_loop (l:List Int) (hl:l.length≤1048576) (n:Nat):∀(x:List Int) (p s:Int),11 - x.length≤n→x.length≤11→yB l p→
    ∃o p' s',Ev (fun k=>eG.l0 k x l p s) (o,p',s')∧o.length≤11∧yB l p':=by
  induction n with
  |zero=>
    intro x p s hn hx h
    obtain ⟨v1,p1,s1,e1,b1,h1⟩:=zE l p s 2 hl h (by omega)
    refine ⟨x,p1,s1,Ev.succ ?_,hx,h1⟩
    simp only [eG.l0]
    simp only [e1,Option.bind_some,w64 (x:=10+v1) (by omega) (by omega),if_neg (show ¬(x.length:Int)<10+v1 by omega)]
    exact Ev.now _
  |succ n ih=>
    intro x p s hn hx h
    obtain ⟨v1,p1,s1,e1,b1,h1⟩:=zE l p s 2 hl h (by omega)
    by_cases c:(x.length:Int)<10+v1
    · obtain ⟨o,p',s',e,ho,hp⟩:=ih (x++[1]) p1 s1 (by simp only [List.length_append,List.length_cons,List.length_nil];omega) (by simp only [List.length_append,List.length_cons,List.length_nil];omega) h1
      refine ⟨o,p',s',Ev.succ ?_,ho,hp⟩
      simp only [eG.l0]
      simp only [e1,Option.bind_some,w64 (x:=10+v1) (by omega) (by omega),if_pos c,if_pos (show x.length<17592186044416 by omega)]
      exact e
    · refine ⟨x,p1,s1,Ev.succ ?_,hx,h1⟩
      simp only [eG.l0]
      simp only [e1,Option.bind_some,w64 (x:=10+v1) (by omega) (by omega),if_neg c]
      exact Ev.now _
theorem l2Any_ok (l:List Int) (p s:Int) (hl:l.length≤1048576) (h:yB l p):∃o p' s',Ev (fun k=>eG.f k l p s) (o,p',s')∧o.length≤11∧yB l p':=by
  unfold eG.f
  obtain ⟨o1,p1,s1,e1,b1,h1⟩:=qY l p s hl h
  obtain ⟨v2,p2,s2,e2,b2,h2⟩:=zE l p1 s1 10 hl h1 (by omega)
  by_cases c0:v2=0
  · refine ⟨[],p2,s2,Ev.bind e1 ?_,by simp,h2⟩
    simp only [e2,Option.bind_some,if_pos c0]
    exact Ev.now _
  by_cases c1:v2=1
  · obtain ⟨v3,p3,s3,e3,b3,h3⟩:=yZ l p2 s2 [-1,100001] hl h2 (by decide)
    refine ⟨o1.set (0:Int).toNat v3,p3,s3,Ev.bind e1 ?_,by rw [List.length_set];omega,h3⟩
    simp only [e2,Option.bind_some,if_neg c0,if_pos c1,e3,if_pos (show 0<(o1.length:Int) by omega)]
    exact Ev.now _
  by_cases c2:v2=2
  · obtain ⟨o,p',s',e,ho,hp⟩:=l2Any_loop l hl 11 o1 p2 s2 (by omega) (by omega) h2
    refine ⟨o,p',s',Ev.bind e1 ?_,ho,hp⟩
    simp only [e2,Option.bind_some,if_neg c0,if_neg c1,if_pos c2]
    exact e
  · refine ⟨o1,p2,s2,Ev.bind e1 ?_,by omega,h2⟩
    simp only [e2,Option.bind_some,if_neg c0,if_neg c1,if_neg c2]
    exact Ev.now _

theorem l1Str_ok (l:List Int) (p s:Int) (xs:List ByteArray) (hl:l.length≤1048576) (h:yB l p) (hx:0<xs.length) (hx2:xs.length≤1000):∃v p' s',fH.f l p s xs=some (v,p',s')∧yB l p':=by
  unfold fH.f
  obtain ⟨v1,p1,s1,e1,b1,h1⟩:=zE l p s (xs.length:Int) hl h (by omega)
  simp only [e1,Option.bind_some,if_pos b1.1,if_pos b1.2]
  exact ⟨_,_,_,rfl,h1⟩
theorem l3Draw_j0 (l:List Int) (v:Int) (q:Bool) (p s:Int) (hl:l.length≤1048576) (h:yB l p):∃t n z o p' s',Ev (fun k=>d6.j0 k v q l p s) (t,n,z,o,p',s')∧o.length≤6∧yB l p':=by
  cases q with
  |true=>
    obtain ⟨v1,p1,s1,e1,h1⟩:=l1Num_ok l p s hl h
    refine ⟨2,zD v1,⟨#[]⟩,[],p1,s1,Ev.succ ?_,by simp,h1⟩
    simp only [d6.j0,if_true,e1,Option.bind_some,qN,fG.f]
    exact Ev.now _
  |false=>
    by_cases c3:v=3
    · obtain ⟨v1,p1,s1,e1,h1⟩:=l1Str_ok l p s [(⟨#[]⟩:ByteArray),(⟨#[97]⟩:ByteArray),(⟨#[121,97,114,100]⟩:ByteArray),(⟨#[0]⟩:ByteArray)] hl h (by decide) (by decide)
      refine ⟨4,0,v1,[],p1,s1,Ev.succ ?_,by simp,h1⟩
      simp only [d6.j0,Bool.false_eq_true,if_false,if_pos c3,e1,Option.bind_some]
      exact Ev.now _
    · by_cases c4:v=4
      · obtain ⟨o,p1,s1,e1,n1,h1⟩:=qY l p s hl h
        refine ⟨6,0,⟨#[]⟩,o,p1,s1,Ev.succ ?_,by omega,h1⟩
        simp only [d6.j0,Bool.false_eq_true,if_false,if_neg c3,if_pos c4]
        exact Ev.bind e1 (Ev.now _)
      · obtain ⟨v1,p1,s1,e1,b1,h1⟩:=yZ l p s [128,130] hl h (by decide)
        refine ⟨v1,0,⟨#[]⟩,[],p1,s1,Ev.succ ?_,by simp,h1⟩
        simp only [d6.j0,Bool.false_eq_true,if_false,if_neg c3,if_neg c4,e1,Option.bind_some]
        exact Ev.now _
theorem l3Draw_ok (l:List Int) (p s:Int) (hl:l.length≤1048576) (h:yB l p):∃t n z o p' s',Ev (fun k=>d6.f k l p s) (t,n,z,o,p',s')∧o.length≤6∧yB l p':=by
  unfold d6.f
  obtain ⟨v1,p1,s1,e1,b1,h1⟩:=zE l p s 6 hl h (by omega)
  simp only [e1,Option.bind_some]
  by_cases c0:v1=0
  · simp only [if_pos c0]
    exact ⟨5,0,⟨#[]⟩,[],p1,s1,Ev.now _,by simp,h1⟩
  · by_cases c1:v1=1
    · simp only [if_neg c0,if_pos c1]
      exact l3Draw_j0 l v1 _ p1 s1 hl h1
    · simp only [if_neg c0,if_neg c1]
      exact l3Draw_j0 l v1 _ p1 s1 hl h1

theorem l3Any_ok (l:List Int) (p s:Int) (hl:l.length≤1048576) (h:yB l p):∃t n z o p' s',Ev (fun k=>fS.f k l p s) (t,n,z,o,p',s')∧o.length≤11∧yB l p':=by
  unfold fS.f
  obtain ⟨t,n,z,o,p1,s1,e1,n1,h1⟩:=l3Draw_ok l p s hl h
  obtain ⟨v2,p2,s2,e2,b2,h2⟩:=zE l p1 s1 12 hl h1 (by omega)
  have n2:o.length≤11:=by omega
  by_cases c0:v2=0
  · obtain ⟨v3,p3,s3,e3,b3,h3⟩:=yZ l p2 s2 [0,1,2,4,5,6,128,129,130] hl h2 (by decide)
    refine ⟨v3,n,z,o,p3,s3,Ev.bind e1 ?_,n2,h3⟩
    simp only [e2,Option.bind_some,if_pos c0,e3]
    exact Ev.now _
  by_cases c1:v2=1
  · obtain ⟨v3,p3,s3,e3,h3⟩:=l1Num_ok l p2 s2 hl h2
    refine ⟨t,v3,z,o,p3,s3,Ev.bind e1 ?_,n2,h3⟩
    simp only [e2,Option.bind_some,if_neg c0,if_pos c1,e3]
    exact Ev.now _
  by_cases c2:v2=2
  · obtain ⟨v3,p3,s3,e3,b3,h3⟩:=zE l p2 s2 2 hl h2 (by omega)
    refine ⟨t,n,strOfNums (List.replicate (20+v3).toNat 0),o,p3,s3,Ev.bind e1 ?_,n2,h3⟩
    simp only [e2,Option.bind_some,if_neg c0,if_neg c1,if_pos c2,e3,w64 (x:=20+v3) (by omega) (by omega),if_pos (show (0:Int)≤20+v3 by omega),if_pos (show (20+v3).toNat≤281474976710656 by omega)]
    exact Ev.now _
  by_cases c3:v2=3
  · obtain ⟨o3,p3,s3,e3,n3,h3⟩:=l2Any_ok l p2 s2 hl h2
    refine ⟨t,n,z,o3,p3,s3,Ev.bind e1 ?_,n3,h3⟩
    simp only [e2,Option.bind_some,if_neg c0,if_neg c1,if_neg c2,if_pos c3]
    exact Ev.bind e3 (Ev.now _)
  · refine ⟨t,n,z,o,p2,s2,Ev.bind e1 ?_,n2,h2⟩
    simp only [e2,Option.bind_some,if_neg c0,if_neg c1,if_neg c2,if_neg c3]
    exact Ev.now _

theorem l4Draw_loop (l:List Int) (hl:l.length≤1048576) (t a b c:Int) (n:Nat):∀(L:List S45) (p s:Int),n≤10→L.length+n≤1000→(∀y ∈ L,zI y)→yB l p→
    ∃L' p' s',Ev (fun k=>bH.l0 k (n:Int) l p s t a b c L) (t,a,b,c,L',p',s')∧L'.length≤1000∧(∀y ∈ L',zI y)∧yB l p':=by
  induction n with
  |zero=>
    intro L p s _ hL hw h
    refine ⟨L,p,s,Ev.succ ?_,by omega,hw,h⟩
    simp only [bH.l0]
    simp only [if_neg (show ¬((0:Nat):Int)>0 by omega)]
    exact Ev.now _
  |succ n ih=>
    intro L p s hn hL hw h
    obtain ⟨o,p1,s1,e1,n1,h1⟩:=qY l p s hl h
    obtain ⟨vt,vn,vz,vo,p2,s2,e2,n2,h2⟩:=l3Draw_ok l p1 s1 hl h1
    obtain ⟨L',p',s',e,nL,hw',hp⟩:=ih (L++[⟨o,⟨vt,vn,vz,vo⟩⟩]) p2 s2 (by omega) (by simp only [List.length_append,List.length_cons,List.length_nil];omega) (by
      intro y hy
      rcases List.mem_append.1 hy with hy|hy
      · exact hw y hy
      · rw [List.mem_singleton.1 hy]
        exact ⟨show o.length≤_ by omega,show vo.length≤_ by omega⟩) h2
    refine ⟨L',p',s',Ev.succ ?_,nL,hw',hp⟩
    simp only [bH.l0]
    simp only [if_pos (show ((n+1:Nat):Int)>0 by omega)]
    refine Ev.bind e1 (Ev.bind e2 ?_)
    simp only [if_pos (show L.length<1759218604441 by omega),show ((n+1:Nat):Int) - 1=(n:Int) by omega,w64 (x:=(n:Int)) (by omega) (by omega)]
    exact e
theorem l4Draw_j1 (l:List Int) (hl:l.length≤1048576) (t a b c p s:Int) (h:yB l p):∃L p' s',Ev (fun k=>bH.j1 k l p s t a b c) (t,a,b,c,L,p',s')∧L.length≤1000∧(∀y ∈ L,zI y)∧yB l p':=by
  obtain ⟨v,p1,s1,e1,b1,h1⟩:=zE l p s 4 hl h (by omega)
  obtain ⟨n,rfl⟩:=Int.eq_ofNat_of_zero_le b1.1
  obtain ⟨L,p',s',e,nL,hw,hp⟩:=l4Draw_loop l hl t a b c n [] p1 s1 (by omega) (by simp only [List.length_nil];omega) (by simp) h1
  refine ⟨L,p',s',Ev.succ ?_,nL,hw,hp⟩
  simp only [bH.j1,e1,Option.bind_some]
  exact e
theorem l4Draw_j0 (l:List Int) (hl:l.length≤1048576) (q:Bool) (t a p s:Int) (h:yB l p):∃b c L p' s',Ev (fun k=>bH.j0 k q l p s t a 0 0) (t,a,b,c,L,p',s')∧L.length≤1000∧(∀y ∈ L,zI y)∧yB l p':=by
  cases q with
  |true=>
    obtain ⟨b,p1,s1,e1,b1,h1⟩:=zE l p s 4 hl h (by omega)
    obtain ⟨c,p2,s2,e2,b2,h2⟩:=zE l p1 s1 5 hl h1 (by omega)
    obtain ⟨L,p',s',e,nL,hw,hp⟩:=l4Draw_j1 l hl t a b c p2 s2 h2
    refine ⟨b,c,L,p',s',Ev.succ ?_,nL,hw,hp⟩
    simp only [bH.j0,if_true,e1,e2,Option.bind_some]
    exact e
  |false=>
    obtain ⟨L,p',s',e,nL,hw,hp⟩:=l4Draw_j1 l hl t a 0 0 p s h
    refine ⟨0,0,L,p',s',Ev.succ ?_,nL,hw,hp⟩
    simp only [bH.j0,Bool.false_eq_true,if_false]
    exact e
theorem l4Draw_ok (l:List Int) (p s:Int) (hl:l.length≤1048576) (h:yB l p):∃t a b c L p' s',Ev (fun k=>bH.f k l p s) (t,a,b,c,L,p',s')∧L.length≤1000∧(∀y ∈ L,zI y)∧yB l p':=by
  unfold bH.f
  obtain ⟨t,p1,s1,e1,b1,h1⟩:=yZ l p s [160,161,162,163,165] hl h (by decide)
  obtain ⟨v,p2,s2,e2,h2⟩:=l1Num_ok l p1 s1 hl h1
  simp only [e1,e2,Option.bind_some,qN]
  by_cases q:t=162
  · obtain ⟨b,c,L,p',s',e,nL,hw,hp⟩:=l4Draw_j0 l hl true t (zD v) p2 s2 h2
    refine ⟨t,zD v,b,c,L,p',s',?_,nL,hw,hp⟩
    simp only [if_pos q]
    exact e
  · obtain ⟨b,c,L,p',s',e,nL,hw,hp⟩:=l4Draw_j0 l hl (t==165) t (zD v) p2 s2 h2
    refine ⟨t,zD v,b,c,L,p',s',?_,nL,hw,hp⟩
    simp only [if_neg q]
    exact e

theorem l4Any_loop (l:List Int) (hl:l.length≤1048576) (t a b c:Int) (n:Nat):∀(L:List S45) (p s:Int),11 - L.length≤n→L.length≤1001→(∀y ∈ L,zI y)→yB l p→
    ∃L' p' s',Ev (fun k=>bU.l0 k l p s t a b c L) (t,a,b,c,L',p',s')∧L'.length≤1001∧(∀y ∈ L',zI y)∧yB l p':=by
  induction n with
  |zero=>
    intro L p s hn hL hw h
    obtain ⟨v1,p1,s1,e1,b1,h1⟩:=zE l p s 2 hl h (by omega)
    refine ⟨L,p1,s1,Ev.succ ?_,hL,hw,h1⟩
    simp only [bU.l0]
    simp only [e1,Option.bind_some,w64 (x:=10+v1) (by omega) (by omega),if_neg (show ¬(L.length:Int)<10+v1 by omega)]
    exact Ev.now _
  |succ n ih=>
    intro L p s hn hL hw h
    obtain ⟨v1,p1,s1,e1,b1,h1⟩:=zE l p s 2 hl h (by omega)
    by_cases c0:(L.length:Int)<10+v1
    · obtain ⟨o,p2,s2,e2,n2,h2⟩:=qY l p1 s1 hl h1
      obtain ⟨L',p',s',e,nL,hw',hp⟩:=ih (L++[⟨o,⟨4,0,⟨#[116,119,101,110,116,121,45,98,121,116,101,115,45,111,102,45,116,101,120,116]⟩,[]⟩⟩]) p2 s2 (by simp only [List.length_append,List.length_cons,List.length_nil];omega) (by simp only [List.length_append,List.length_cons,List.length_nil];omega) (by
        intro y hy
        rcases List.mem_append.1 hy with hy|hy
        · exact hw y hy
        · rw [List.mem_singleton.1 hy]
          exact ⟨show o.length≤_ by omega,by simp⟩) h2
      refine ⟨L',p',s',Ev.succ ?_,nL,hw',hp⟩
      simp only [bU.l0]
      simp only [e1,Option.bind_some,w64 (x:=10+v1) (by omega) (by omega),if_pos c0]
      refine Ev.bind e2 ?_
      simp only [if_pos (show L.length<1759218604441 by omega)]
      exact e
    · refine ⟨L,p1,s1,Ev.succ ?_,hL,hw,h1⟩
      simp only [bU.l0]
      simp only [e1,Option.bind_some,w64 (x:=10+v1) (by omega) (by omega),if_neg c0]
      exact Ev.now _
theorem l4Any_ok (l:List Int) (p s:Int) (hl:l.length≤1048576) (h:yB l p):∃t a b c L p' s',Ev (fun k=>bU.f k l p s) (t,a,b,c,L,p',s')∧L.length≤1001∧(∀y ∈ L,zI y)∧yB l p':=by
  unfold bU.f
  obtain ⟨t,a,b,c,L,p1,s1,e1,nL,hw,h1⟩:=l4Draw_ok l p s hl h
  obtain ⟨v2,p2,s2,e2,b2,h2⟩:=zE l p1 s1 12 hl h1 (by omega)
  have nL':L.length≤1001:=by omega
  by_cases c0:v2=0
  · obtain ⟨v3,p3,s3,e3,b3,h3⟩:=zE l p2 s2 256 hl h2 (by omega)
    refine ⟨v3,a,b,c,L,p3,s3,Ev.bind e1 ?_,nL',hw,h3⟩
    simp only [e2,Option.bind_some,if_pos c0,e3]
    exact Ev.now _
  by_cases c1:v2=1
  · obtain ⟨v3,p3,s3,e3,b3,h3⟩:=yZ l p2 s2 [(-1),1,1000,1001] hl h2 (by decide)
    refine ⟨t,a,v3,c,L,p3,s3,Ev.bind e1 ?_,nL',hw,h3⟩
    simp only [e2,Option.bind_some,if_neg c0,if_pos c1,e3]
    exact Ev.now _
  by_cases c2:v2=2
  · obtain ⟨o,p3,s3,e3,n3,h3⟩:=l2Any_ok l p2 s2 hl h2
    obtain ⟨vt,vn,vz,vo,p4,s4,e4,n4,h4⟩:=l3Any_ok l p3 s3 hl h3
    refine ⟨t,a,b,c,L++[⟨o,⟨vt,vn,vz,vo⟩⟩],p4,s4,Ev.bind e1 ?_,by simp only [List.length_append,List.length_cons,List.length_nil];omega,?_,h4⟩
    · simp only [e2,Option.bind_some,if_neg c0,if_neg c1,if_pos c2]
      refine Ev.bind e3 (Ev.bind e4 ?_)
      simp only [if_pos (show L.length<1759218604441 by omega)]
      exact Ev.now _
    · intro y hy
      rcases List.mem_append.1 hy with hy|hy
      · exact hw y hy
      · rw [List.mem_singleton.1 hy]
        exact ⟨show o.length≤_ by omega,show vo.length≤_ by omega⟩
  by_cases c3:v2=3
  · obtain ⟨L',p',s',e,nL2,hw',hp⟩:=l4Any_loop l hl t a b c 11 L p2 s2 (by omega) nL' hw h2
    refine ⟨t,a,b,c,L',p',s',Ev.bind e1 ?_,nL2,hw',hp⟩
    simp only [e2,Option.bind_some,if_neg c0,if_neg c1,if_neg c2,if_pos c3]
    exact e
  · refine ⟨t,a,b,c,L,p2,s2,Ev.bind e1 ?_,nL',hw,h2⟩
    simp only [e2,Option.bind_some,if_neg c0,if_neg c1,if_neg c2,if_neg c3]
    exact Ev.now _

theorem sameVal_self (t n:Int) (s:ByteArray) (o:List Int):zX t n s o t n s o=true:=by
  unfold zX
  simp
theorem sameBs_self:∀l:List S45,xG l l=true
  |[]=>rfl
  |r::a=>by
    simp only [xG,decide_true,if_true,sameVal_self]
    exact sameBs_self a
theorem samePdu_ev (t a b c:Int) (l:List S45) (h:l.length≤1048576) (hw:∀y ∈ l,zI y):Ev (fun k=>e6.f k t a b c l t a b c l) true:=by
  unfold e6.f
  simp only [if_true]
  have e:=vD l l h hw
  rw [if_pos rfl,sameBs_self] at e
  exact Ev.bind e (Ev.now _)

theorem drawPutPdu_ok (l:List Int) (hl:l.length≤1048576):∃t a b c L,Ev (fun k=>eS.f k l) (t,a,b,c,L)∧L.length≤1001∧(∀y ∈ L,zI y):=by
  unfold eS.f
  obtain ⟨s0,e0⟩:=l1New_ok l hl
  obtain ⟨t,a,b,c,L,p2,s2,e2,nL,hw,h2⟩:=l4Any_ok l 0 s0 hl (at0 l)
  exact ⟨t,a,b,c,L,Ev.bind e0 (Ev.bind e2 (Ev.now _)),nL,hw⟩
theorem drawGetPdu_ok (l:List Int) (hl:l.length≤1048576):∃o,Ev (fun k=>eT.f k l) o∧xM o∧o.length≤1000:=by
  unfold eT.f
  obtain ⟨s0,e0⟩:=l1New_ok l hl
  obtain ⟨t,a,b,c,L,p2,s2,e2,nL,hw,h2⟩:=l4Draw_ok l 0 s0 hl (at0 l)
  have nP:=vP t a b c L
  obtain ⟨o,p4,s4,e4,b4,n4,h4⟩:=l1Bend_ok l p2 s2 (zN t a b c L) hl h2 (putPdu_bys _ _ _ _ _) (by omega)
  refine ⟨o,Ev.bind e0 (Ev.bind e2 (Ev.bind (vK t a b c L (by omega) hw) ?_)),b4,by omega⟩
  simp only [e4,Option.bind_some]
  exact Ev.now _
theorem drawSameBinds_ok (l:List Int) (hl:l.length≤1048576):∃u w,Ev (fun k=>bY.f k l) (u,w)∧u.length≤1001∧(∀y ∈ u,zI y):=by
  unfold bY.f
  obtain ⟨s0,e0⟩:=l1New_ok l hl
  obtain ⟨t,a,b,c,L,p2,s2,e2,nL,hw,h2⟩:=l4Any_ok l 0 s0 hl (at0 l)
  obtain ⟨q,p3,s3,e3,h3⟩:=l1Once_ok l p2 s2 2 hl h2 (by omega)
  cases q with
  |true=>
    refine ⟨L,[]++L,Ev.bind e0 (Ev.bind e2 ?_),nL,hw⟩
    simp only [e3,Option.bind_some,if_true,List.length_nil,if_pos (show 0+L.length<1759218604441 by omega)]
    exact Ev.now _
  |false=>
    obtain ⟨t',a',b',c',L',p4,s4,e4,nL',hw',h4⟩:=l4Any_ok l p3 s3 hl h3
    refine ⟨L,L',Ev.bind e0 (Ev.bind e2 ?_),nL,hw⟩
    simp only [e3,Option.bind_some,Bool.false_eq_true,if_false]
    exact Ev.bind e4 (Ev.now _)
theorem putPdu_ok (t a b c:Int) (l:List S45) (h:(zN t a b c l).length≠0):yJ t a b c l=true:=by
  cases e:yJ t a b c l with
  |true=>rfl
  |false=>
    unfold zN at h
    rw [e] at h
    simp at h
theorem pdus_j0 (l:List Int) (t a b c:Int) (L:List S45) (q:Bool) (y1 y2 y3 y4:Int) (y5:List S45) (hl:l.length≤1048576) (nL:L.length≤1001) (hw:∀y ∈ L,zI y) (hy:y1=0∨q=true):Ev (fun k=>laws_FnPdus.j0 k l (zN t a b c L) q false t a b c L y1 y2 y3 y4 y5) true:=by
  refine Ev.succ ?_
  simp only [laws_FnPdus.j0,Bool.false_eq_true,if_false]
  by_cases h:((zN t a b c L).length:Int)=0
  · simp only [if_pos h]
    by_cases h0:y1=0
    · simp only [if_pos h0]
      exact Ev.now _
    · simp only [if_neg h0,hy.resolve_left h0]
      exact Ev.now _
  simp only [if_neg h]
  have h0:(zN t a b c L).length≠0:=by omega
  obtain ⟨_,_,m1⟩:=pdu_back t a b c L h0
  obtain ⟨u,w,hD,nu,hu⟩:=drawSameBinds_ok l hl
  have hp:=iPduOk_ev t a b c L (by omega) hw
  rw [putPdu_ok t a b c L h0] at hp
  refine Ev.bind m1 (Ev.bind hD ?_)
  simp only [if_true]
  refine Ev.bind (samePdu_ev t a b c L (by omega) hw) ?_
  simp only [if_true]
  refine Ev.bind hp ?_
  simp only [if_true]
  refine Ev.bind (vD u w (by omega) hu) (Ev.bind (sSameBinds_ev u w (by omega) hu) ?_)
  simp only [beq_self_eq_true]
  exact Ev.now _

theorem FnPdus:laws_FnPdus.Pure:=by
  intro l0 _ _
  refine Ev.rounds ?_
  unfold laws_FnPdus.f
  unfold fY.f
  simp only [Option.bind_some]
  by_cases hbig:(l0.length:Int)>1048576
  · simp only [decide_eq_true hbig,if_true]
    exact Ev.now _
  have hsm:l0.length≤1048576:=by omega
  simp only [decide_eq_false hbig,Bool.false_eq_true,if_false]
  obtain ⟨t,a,b,c,L,hD,nL,hw⟩:=drawPutPdu_ok l0 hsm
  obtain ⟨o,hG,bo,no⟩:=drawGetPdu_ok l0 hsm
  have nM:=vP t a b c L
  obtain ⟨R,hs,hi,hR⟩:=getPdu_both o bo (by omega)
  refine Ev.bind hD (Ev.bind (qA t a b c L (by omega) hw) (Ev.bind hG (Ev.bind hi (Ev.bind hs ?_))))
  simp only [bne_self_eq_false,Bool.false_eq_true,if_false]
  rcases hR with rfl|⟨r1,r2,r3,r4⟩
  · simp only [yG,Bool.false_eq_true,if_false]
    refine Ev.bind (vK t a b c L (by omega) hw) (Ev.bind (xY _ _ (by omega)) ?_)
    simp only [decide_true,Bool.not_true]
    exact pdus_j0 l0 t a b c L false 0 0 0 0 [] hsm nL hw (.inl rfl)
  · have hn:=(yI r2).2.1
    simp only [if_pos r1]
    have e1:=iPduOk_ev R.1 R.2.1 R.2.2.1 R.2.2.2.1 R.2.2.2.2.1 (by omega) r4
    rw [r2] at e1
    refine Ev.bind e1 ?_
    simp only [if_true]
    refine Ev.bind (qA R.1 R.2.1 R.2.2.1 R.2.2.2.1 R.2.2.2.2.1 (by omega) r4) ?_
    rw [r3]
    refine Ev.bind (xY o o (by omega)) ?_
    simp only [decide_true,if_true]
    refine Ev.bind (vK t a b c L (by omega) hw) (Ev.bind (xY _ _ (by omega)) ?_)
    simp only [decide_true,Bool.not_true]
    exact pdus_j0 l0 t a b c L _ _ _ _ _ _ hsm nL hw (.inr r1)

end Go.Proofs.Ytgppikopdpeigaa.Pure
