/- The pure side of FnExactGetMsg: the program's GetMsg and the reference's agree at all arguments. No conditions but those of the given statement. -/
import Derived.Test.YthhnfmbfgplelaaXFnExactGetMsgx21
namespace Go.Proofs.Ythhnfmbfgplelaa.Pure
open Go.RowKit Go.Proofs.Ythhnfmbfgplelaa.XFnExactGetMsg Go.Proofs.YthhnfmbfgplelaaW.PrintWords Go.Proofs.YthhnfmbfgplelaaW.PrintLast Go.Proofs.YthhnfmbfgplelaaW.PrintMore
set_option linter.unusedVariables false
set_option linter.unusedSimpArgs false

theorem w64 {x:Int} (h0:-9223372036854775808≤x) (h1:x≤9223372036854775807):wrap64 x=x:=by
  unfold wrap64
  omega
theorem wf8 {x:Int} (h:(Lit.int .u8 x).wf=true):0≤x∧x≤255:=by
  simp only [Lit.wf,Bool.and_eq_true,decide_eq_true_eq] at h
  exact h
theorem rd_mid (pre rest:List Int) (r:Int):rd (pre++r::rest) (pre.length:Int)=r:=by
  unfold rd
  simp [List.getD_eq_getElem?_getD]
theorem set_mid {α:Type} (pre rest:List α) (r v:α):(pre++r::rest).set (pre.length:Int).toNat v=pre++v::rest:=by
  rw [Int.toNat_natCast,List.set_append_right _ _ (Nat.le_refl _)]
  simp
theorem succ_of {d k:Nat} (h:d<k):∃m,k=m+1:=⟨k - 1,by omega⟩
theorem Ev.at_ {α:Type} {g:Nat→Option α} {r:α} (n:Nat) (h:∀k,n<k→g k=some r):Ev g r:=⟨n+1,fun k hk=>h k (by omega)⟩
theorem Ev.succ {α:Type} {g:Nat→Option α} {r:α} (h:Ev (fun k=>g (k+1)) r):Ev g r:=by
  obtain ⟨K,h⟩:=h
  refine ⟨K+1,fun n hn=>?_⟩
  obtain ⟨m,rfl⟩:∃m,n=m+1:=⟨n - 1,by omega⟩
  exact h m (by omega)
theorem Ev.some_const {α:Type} {g:Nat→Option α} {r:α} (h:∀k,g k=some r):Ev g r:=⟨0,fun k _=>h k⟩

theorem l1In_eq (a b c:Int):cO.f a b c=some (decide (b≤a∧a≤c)):=by
  unfold cO.f
  by_cases h:b≤a
  · rw [if_pos h];simp [h]
  · rw [if_neg h];simp [h]

theorem in_eq (a b c:Int):bN.f a b c=some (decide (b≤a∧a≤c)):=by
  unfold bN.f
  by_cases h:b≤a
  · rw [if_pos h];simp [h]
  · rw [if_neg h];simp [h]

theorem Ev.ite {α:Type} {c:Prop} [Decidable c] {g1 g2:Nat→Option α} {r1 r2:α} (h1:c→Ev g1 r1) (h2:¬c→Ev g2 r2):Ev (fun k=>if c then g1 k else g2 k) (if c then r1 else r2):=by
  by_cases h:c
  · simp only [if_pos h];exact h1 h
  · simp only [if_neg h];exact h2 h

theorem Ev.uniq {α:Type} {g:Nat→Option α} {r1 r2:α} (h1:Ev g r1) (h2:Ev g r2):r1=r2:=by
  obtain ⟨a,ha⟩:=h1
  obtain ⟨b,hb⟩:=h2
  exact Option.some.inj ((ha (max a b) (Nat.le_max_left a b)).symm.trans (hb (max a b) (Nat.le_max_right a b)))

def bys (l:List Int):Prop:=∀y ∈ l,0≤y∧y≤255
theorem toByteS_loop (rest:List Int):∀(pre:List Int) (k:Nat),pre.length+rest.length≤1099511627776→rest.length<k→
    bX.l0 k (pre++rest) (pre++List.replicate rest.length 0) (pre.length:Int)=some (pre++rest):=by
  induction rest with
  |nil=>
    intro pre k _ hk
    obtain ⟨k,rfl⟩:=succ_of hk
    simp only [bX.l0]
    rw [if_neg (by simp only [List.length_append,List.length_nil];omega)]
    simp
  |cons r rest ih=>
    intro pre k hn hk
    obtain ⟨k,rfl⟩:=succ_of hk
    simp only [List.length_cons] at hn hk
    simp only [bX.l0]
    rw [if_pos (by simp only [List.length_append,List.length_cons];omega),if_pos (by omega),if_pos (by simp only [List.length_append,List.length_cons,List.length_replicate];omega),rd_mid,List.length_cons,List.replicate_succ,set_mid,w64 (by omega) (by omega)]
    have h:=ih (pre++[r]) k (by simp only [List.length_append,List.length_cons,List.length_nil];omega) (by omega)
    simpa using h
theorem toByteS_ev (xs:List Int) (h:xs.length≤1048576):Ev (fun k=>bX.f k xs) xs:=by
  refine Ev.at_ xs.length fun k hk=>?_
  simp only [bX.f]
  rw [if_pos (by omega),if_pos (by omega)]
  have h:=toByteS_loop xs [] k (by simp only [List.length_nil];omega) hk
  simpa using h

theorem eqByteS_loop (a:List Int):∀(b pre pre':List Int) (k:Nat),pre.length=pre'.length→a.length=b.length→pre.length+a.length≤1099511627776→a.length<k→
    dJ.l0 k (pre++a) (pre'++b) (pre.length:Int)=some (decide (a=b)):=by
  induction a with
  |nil=>
    intro b pre pre' k hp hab hn hk
    obtain ⟨k,rfl⟩:=succ_of hk
    obtain rfl:b=[]:=List.eq_nil_of_length_eq_zero hab.symm
    simp only [dJ.l0]
    rw [if_neg (by simp only [List.length_append,List.length_nil] at*;omega)]
    simp
  |cons r a ih=>
    intro b pre pre' k hp hab hn hk
    obtain ⟨k,rfl⟩:=succ_of hk
    cases b with
    |nil=>simp at hab
    |cons s b=>
      simp only [List.length_cons] at hab hn hk
      simp only [dJ.l0]
      have e:rd (pre'++s::b) (pre.length:Int)=s:=by rw [hp,rd_mid]
      rw [if_pos (by simp only [List.length_append,List.length_cons];omega),if_pos (by omega),if_pos (by simp only [List.length_append,List.length_cons];omega),rd_mid,e]
      by_cases hrs:r=s
      · subst hrs
        rw [if_pos rfl,w64 (by omega) (by omega)]
        have h:=ih b (pre++[r]) (pre'++[r]) k (by simp [hp]) (by omega) (by simp only [List.length_append,List.length_cons,List.length_nil];omega) (by omega)
        simpa using h
      · rw [if_neg hrs]
        simp [hrs]
theorem eqByteS_ev (a b:List Int) (h:a.length≤1099511627776):Ev (fun k=>dJ.f k a b) (decide (a=b)):=by
  refine Ev.at_ a.length fun k hk=>?_
  simp only [dJ.f]
  by_cases e:a.length=b.length
  · rw [if_pos (by omega)]
    have h:=eqByteS_loop a b [] [] k rfl e (by simp only [List.length_nil];omega) hk
    simpa using h
  · rw [if_neg (by omega)]
    have hne:¬a=b:=fun h=>e (by rw [h])
    simp [hne]

theorem eqIntS_loop (a:List Int):∀(b pre pre':List Int) (k:Nat),pre.length=pre'.length→a.length=b.length→pre.length+a.length≤1099511627776→a.length<k→
    cU.l0 k (pre++a) (pre'++b) (pre.length:Int)=some (decide (a=b)):=by
  induction a with
  |nil=>
    intro b pre pre' k hp hab hn hk
    obtain ⟨k,rfl⟩:=succ_of hk
    obtain rfl:b=[]:=List.eq_nil_of_length_eq_zero hab.symm
    simp only [cU.l0]
    rw [if_neg (by simp only [List.length_append,List.length_nil] at*;omega)]
    simp
  |cons r a ih=>
    intro b pre pre' k hp hab hn hk
    obtain ⟨k,rfl⟩:=succ_of hk
    cases b with
    |nil=>simp at hab
    |cons s b=>
      simp only [List.length_cons] at hab hn hk
      simp only [cU.l0]
      have e:rd (pre'++s::b) (pre.length:Int)=s:=by rw [hp,rd_mid]
      rw [if_pos (by simp only [List.length_append,List.length_cons];omega),if_pos (by omega),if_pos (by simp only [List.length_append,List.length_cons];omega),rd_mid,e]
      by_cases hrs:r=s
      · subst hrs
        rw [if_pos rfl,w64 (by omega) (by omega)]
        have h:=ih b (pre++[r]) (pre'++[r]) k (by simp [hp]) (by omega) (by simp only [List.length_append,List.length_cons,List.length_nil];omega) (by omega)
        simpa using h
      · rw [if_neg hrs]
        simp [hrs]
theorem eqIntS_ev (a b:List Int) (h:a.length≤1099511627776):Ev (fun k=>cU.f k a b) (decide (a=b)):=by
  refine Ev.at_ a.length fun k hk=>?_
  simp only [cU.f]
  by_cases e:a.length=b.length
  · rw [if_pos (by omega)]
    have h:=eqIntS_loop a b [] [] k rfl e (by simp only [List.length_nil];omega) hk
    simpa using h
  · rw [if_neg (by omega)]
    have hne:¬a=b:=fun h=>e (by rw [h])
    simp [hne]

def marksByte:Int→Nat→List Int
  |_,0=>[]
  |m,d+1=>(m % 256)::marksByte (m+1) d
theorem markByteS_loop (rest:List Int):∀(pre:List Int) (m:Int) (k:Nat),0≤m→m≤1152921504606846976 - rest.length→pre.length+rest.length≤1099511627776→rest.length<k→
    cJ.l0 k (pre++rest) m (pre.length:Int)=some (m+rest.length,pre++marksByte m rest.length):=by
  induction rest with
  |nil=>
    intro pre m k _ _ _ hk
    obtain ⟨k,rfl⟩:=succ_of hk
    simp only [cJ.l0]
    rw [if_neg (by simp only [List.length_append,List.length_nil];omega)]
    simp [marksByte]
  |cons r rest ih=>
    intro pre m k h0 h1 hn hk
    obtain ⟨k,rfl⟩:=succ_of hk
    simp only [List.length_cons] at h1 hn hk
    simp only [cJ.l0]
    rw [if_pos (by simp only [List.length_append,List.length_cons];omega),if_pos (by omega),set_mid,w64 (x:=m+1) (by omega) (by omega),w64 (by omega) (by omega)]
    have h:=ih (pre++[m % 256]) (m+1) k (by omega) (by omega) (by simp only [List.length_append,List.length_cons,List.length_nil];omega) (by omega)
    simp only [List.length_append,List.length_cons,List.length_nil,List.append_assoc,List.cons_append,List.nil_append] at h
    simp only [marksByte,List.length_cons]
    rw [show (pre.length:Int)+1=((pre.length+(0+1):Nat):Int) from by omega,h]
    congr 2
    omega
theorem markByteS_ev (xs:List Int) (m:Int) (h0:0≤m) (h1:m≤1099511627776) (h:xs.length≤1099511627776):Ev (fun k=>cJ.f k xs m) (m+xs.length,marksByte m xs.length):=by
  refine Ev.at_ xs.length fun k hk=>?_
  simp only [cJ.f]
  have h:=markByteS_loop xs [] m k h0 (by omega) (by simp only [List.length_nil];omega) hk
  simpa using h

def marksInt:Int→Nat→List Int
  |_,0=>[]
  |m,d+1=>(m)::marksInt (m+1) d
theorem markIntS_loop (rest:List Int):∀(pre:List Int) (m:Int) (k:Nat),0≤m→m≤1152921504606846976 - rest.length→pre.length+rest.length≤1099511627776→rest.length<k→
    cL.l0 k (pre++rest) m (pre.length:Int)=some (m+rest.length,pre++marksInt m rest.length):=by
  induction rest with
  |nil=>
    intro pre m k _ _ _ hk
    obtain ⟨k,rfl⟩:=succ_of hk
    simp only [cL.l0]
    rw [if_neg (by simp only [List.length_append,List.length_nil];omega)]
    simp [marksInt]
  |cons r rest ih=>
    intro pre m k h0 h1 hn hk
    obtain ⟨k,rfl⟩:=succ_of hk
    simp only [List.length_cons] at h1 hn hk
    simp only [cL.l0]
    rw [if_pos (by simp only [List.length_append,List.length_cons];omega),if_pos (by omega),set_mid,w64 (x:=m+1) (by omega) (by omega),w64 (by omega) (by omega)]
    have h:=ih (pre++[m]) (m+1) k (by omega) (by omega) (by simp only [List.length_append,List.length_cons,List.length_nil];omega) (by omega)
    simp only [List.length_append,List.length_cons,List.length_nil,List.append_assoc,List.cons_append,List.nil_append] at h
    simp only [marksInt,List.length_cons]
    rw [show (pre.length:Int)+1=((pre.length+(0+1):Nat):Int) from by omega,h]
    congr 2
    omega
theorem markIntS_ev (xs:List Int) (m:Int) (h0:0≤m) (h1:m≤1099511627776) (h:xs.length≤1099511627776):Ev (fun k=>cL.f k xs m) (m+xs.length,marksInt m xs.length):=by
  refine Ev.at_ xs.length fun k hk=>?_
  simp only [cL.f]
  have h:=markIntS_loop xs [] m k h0 (by omega) (by simp only [List.length_nil];omega) hk
  simpa using h
theorem heldIntS_loop (d:Nat):∀(pre:List Int) (m:Int) (k:Nat),0≤m→m≤1152921504606846976 - d→pre.length+d≤1099511627776→d<k→
    bS.l0 k (pre++marksInt m d) m (pre.length:Int)=some (m+d):=by
  induction d with
  |zero=>
    intro pre m k _ _ _ hk
    obtain ⟨k,rfl⟩:=succ_of hk
    simp only [marksInt]
    simp only [bS.l0]
    rw [if_neg (by simp only [List.length_append,List.length_nil];omega)]
    simp
  |succ d ih=>
    intro pre m k h0 h1 hn hk
    obtain ⟨k,rfl⟩:=succ_of hk
    simp only [marksInt]
    simp only [bS.l0]
    rw [if_pos (by simp only [List.length_append,List.length_cons];omega),if_pos (by omega),rd_mid,if_pos rfl,w64 (x:=m+1) (by omega) (by omega),w64 (by omega) (by omega)]
    have h:=ih (pre++[m]) (m+1) k (by omega) (by omega) (by simp only [List.length_append,List.length_cons,List.length_nil];omega) (by omega)
    simp only [List.length_append,List.length_cons,List.length_nil,List.append_assoc,List.cons_append,List.nil_append] at h
    rw [show (pre.length:Int)+1=((pre.length+(0+1):Nat):Int) from by omega,h]
    congr 1
    omega
theorem heldIntS_ev (m:Int) (d:Nat) (h0:0≤m) (h1:m≤1099511627776) (h:d≤1099511627776):Ev (fun k=>bS.f k (marksInt m d) m) (m+d):=by
  refine Ev.at_ d fun k hk=>?_
  simp only [bS.f]
  have h:=heldIntS_loop d [] m k h0 (by omega) (by simp only [List.length_nil];omega) hk
  simpa using h

theorem iSameOid_loop (a:List Int):∀(b pre pre':List Int) (m:Int) (k:Nat),pre.length=pre'.length→a.length=b.length→pre.length+a.length≤1099511627776→m=(pre.length:Int)+(a.length:Int)→a.length<k→
    dS.l0 k (pre++a) (pre'++b) m (pre.length:Int)=some (decide (a=b)):=by
  induction a with
  |nil=>
    intro b pre pre' m k hp hab hn hm hk
    obtain ⟨k,rfl⟩:=succ_of hk
    obtain rfl:b=[]:=List.eq_nil_of_length_eq_zero hab.symm
    simp only [dS.l0]
    rw [if_neg (by simp only [List.length_append,List.length_nil] at*;omega)]
    simp
  |cons r a ih=>
    intro b pre pre' m k hp hab hn hm hk
    obtain ⟨k,rfl⟩:=succ_of hk
    cases b with
    |nil=>simp at hab
    |cons s b=>
      simp only [List.length_cons] at hab hn hk hm
      simp only [dS.l0]
      have e:rd (pre'++s::b) (pre.length:Int)=s:=by rw [hp,rd_mid]
      rw [if_pos (by omega),if_pos (by omega),if_pos (by simp only [List.length_append,List.length_cons];omega),if_pos (by simp only [List.length_append,List.length_cons];omega),rd_mid,e]
      by_cases hrs:r=s
      · subst hrs
        rw [if_pos rfl,w64 (by omega) (by omega)]
        have h:=ih b (pre++[r]) (pre'++[r]) m k (by simp [hp]) (by omega) (by simp only [List.length_append,List.length_cons,List.length_nil];omega) (by simp only [List.length_append,List.length_cons,List.length_nil];omega) (by omega)
        simpa using h
      · rw [if_neg hrs]
        simp [hrs]
theorem iSameOid_ev (a b:List Int) (h:a.length≤1099511627776):Ev (fun k=>dS.f k a b) (decide (a=b)):=by
  refine Ev.at_ a.length fun k hk=>?_
  simp only [dS.f]
  by_cases e:a.length=b.length
  · rw [if_pos (by omega)]
    have h:=iSameOid_loop a b [] [] (a.length:Int) k rfl e (by simp only [List.length_nil];omega) (by simp) hk
    simpa using h
  · rw [if_neg (by omega)]
    have hne:¬a=b:=fun h=>e (by rw [h])
    simp [hne]

def oidNums (xs:List Int):Bool:=xs.all fun n=>decide (0≤n∧n≤100000)
def oidOk (xs:List Int):Bool:=oidNums xs && decide (1≤(xs.length:Int)∧(xs.length:Int)≤10)

theorem sOidOk_loop (rest:List Int):∀(pre:List Int) (k:Nat),pre.length+rest.length≤1099511627776→rest.length<k→
    cB.l0 k (pre++rest) (pre.length:Int)=some (oidNums rest && decide (1≤((pre++rest).length:Int)∧((pre++rest).length:Int)≤10)):=by
  induction rest with
  |nil=>
    intro pre k _ hk
    obtain ⟨k,rfl⟩:=succ_of hk
    simp only [cB.l0]
    rw [if_neg (by simp only [List.length_append,List.length_nil];omega),l1In_eq]
    simp [oidNums]
  |cons r rest ih=>
    intro pre k hn hk
    obtain ⟨k,rfl⟩:=succ_of hk
    simp only [List.length_cons] at hn hk
    simp only [cB.l0]
    rw [if_pos (by simp only [List.length_append,List.length_cons];omega),if_pos (by omega),rd_mid,l1In_eq,w64 (by omega) (by omega)]
    simp only [Option.bind_some]
    by_cases h:0≤r∧r≤100000
    · rw [if_pos (by simpa using h)]
      have e:=ih (pre++[r]) k (by simp only [List.length_append,List.length_cons,List.length_nil];omega) (by omega)
      simp only [List.append_assoc,List.cons_append,List.nil_append] at e
      rw [show (pre.length:Int)+1=((pre++[r]).length:Int) from by simp,e]
      simp [oidNums,h]
    · rw [if_neg (by simpa using h)]
      simp only [oidNums,List.all_cons,decide_eq_false h,Bool.false_and]
theorem sOidOk_ev (xs:List Int) (h:xs.length≤1099511627776):Ev (fun k=>cB.f k xs) (oidOk xs):=by
  refine Ev.at_ xs.length fun k hk=>?_
  simp only [cB.f]
  have e:=sOidOk_loop xs [] k (by simp only [List.length_nil];omega) hk
  simpa [oidOk] using e

theorem iOidOk_loop (rest:List Int):∀(pre all:List Int) (m:Int) (k:Nat),m=(pre.length:Int)+rest.length→pre.length+rest.length≤1099511627776→rest.length<k→
    cI.l0 k all (pre++rest) m (pre.length:Int)=some (oidNums rest && decide (1≤(all.length:Int)∧(all.length:Int)≤10)):=by
  induction rest with
  |nil=>
    intro pre all m k hm _ hk
    obtain ⟨k,rfl⟩:=succ_of hk
    simp only [List.length_nil] at hm
    simp only [cI.l0]
    rw [if_neg (by omega),in_eq]
    simp [oidNums]
  |cons r rest ih=>
    intro pre all m k hm hn hk
    obtain ⟨k,rfl⟩:=succ_of hk
    simp only [List.length_cons] at hm hn hk
    simp only [cI.l0]
    rw [if_pos (by omega),if_pos (by omega),if_pos (by simp only [List.length_append,List.length_cons];omega),rd_mid,in_eq,w64 (by omega) (by omega)]
    simp only [Option.bind_some]
    by_cases h:0≤r∧r≤100000
    · rw [if_pos (by simpa using h)]
      have e:=ih (pre++[r]) all m k (by simp only [List.length_append,List.length_cons,List.length_nil];omega) (by simp only [List.length_append,List.length_cons,List.length_nil];omega) (by omega)
      simp only [List.append_assoc,List.cons_append,List.nil_append] at e
      rw [show (pre.length:Int)+1=((pre++[r]).length:Int) from by simp,e]
      simp [oidNums,h]
    · rw [if_neg (by simpa using h)]
      simp only [oidNums,List.all_cons,decide_eq_false h,Bool.false_and]
theorem iOidOk_ev (xs:List Int) (h:xs.length≤1099511627776):Ev (fun k=>cI.f k xs) (oidOk xs):=by
  refine Ev.at_ xs.length fun k hk=>?_
  simp only [cI.f]
  have e:=iOidOk_loop xs [] xs (xs.length:Int) k (by simp) (by simp only [List.length_nil];omega) hk
  simpa [oidOk] using e

def clip (n:Int):Int:=if n>2147483647 then 2147483647 else if n< -2147483648 then -2147483648 else n
theorem clip_bd (n:Int):-2147483648≤clip n∧clip n≤2147483647:=by
  unfold clip
  split
  · omega
  · split<;>omega
def putInt (n:Int):List Int:=
  if -128≤n∧n≤127 then [n % 256]
  else if -32768≤n∧n≤32767 then [n / 256 % 256,n % 256]
  else if -8388608≤n∧n≤8388607 then [n / 65536 % 256,n / 256 % 256,n % 256]
  else [n / 16777216 % 256,n / 65536 % 256,n / 256 % 256,n % 256]
theorem putInt_len (n:Int):(putInt n).length≤4:=by
  unfold putInt
  split
  · simp
  · split
    · simp
    · split<;>simp

theorem sClip_eq (n:Int):cY.f n=some (clip n):=by
  unfold cY.f clip
  split
  · rfl
  · split<;>rfl
theorem sPutInt_stop (k:Nat) (n:Int) (out:List Int) (h0:-128≤n) (h1:n≤127):d5.l0 (k+1) n out=some out:=by
  simp only [d5.l0]
  rw [if_neg (by omega),if_neg (by omega)]
theorem sPutInt_go (k:Nat) (n:Int) (out:List Int) (h:n< -128∨n>127) (ho:out.length<1000):d5.l0 (k+1) n out=d5.l0 k (n / 256) ([n / 256 % 256]++out):=by
  simp only [d5.l0]
  by_cases h0:n< -128
  · rw [if_pos h0]
    simp only [Option.bind_some]
    rw [if_pos (by simp only [List.length_cons,List.length_nil];omega)]
  · rw [if_neg h0,if_pos (by omega)]
    simp only [Option.bind_some]
    rw [if_pos (by simp only [List.length_cons,List.length_nil];omega)]
theorem sPutInt_at (m:Nat) (n:Int) (h0:-2147483648≤n) (h1:n≤2147483647):d5.l0 (m+4) n [n % 256]=some (putInt n):=by
  unfold putInt
  by_cases c1:-128≤n∧n≤127
  · rw [if_pos c1,sPutInt_stop _ _ _ c1.1 c1.2]
  · rw [if_neg c1,sPutInt_go _ _ _ (by omega) (by simp)]
    by_cases c2:-32768≤n∧n≤32767
    · rw [if_pos c2,sPutInt_stop _ _ _ (by omega) (by omega)]
      rfl
    · rw [if_neg c2,sPutInt_go _ _ _ (by omega) (by simp),show n / 256 / 256=n / 65536 by omega]
      by_cases c3:-8388608≤n∧n≤8388607
      · rw [if_pos c3,sPutInt_stop _ _ _ (by omega) (by omega)]
        rfl
      · rw [if_neg c3,sPutInt_go _ _ _ (by omega) (by simp),show n / 65536 / 256=n / 16777216 by omega,sPutInt_stop _ _ _ (by omega) (by omega)]
        rfl
theorem sPutInt_ev (n:Int):Ev (fun k=>d5.f k n) (putInt (clip n)):=by
  refine Ev.at_ 4 fun k hk=>?_
  obtain ⟨m,rfl⟩:∃m,k=m+4:=⟨k - 4,by omega⟩
  simp only [d5.f,sClip_eq,Option.bind_some]
  exact sPutInt_at m _ (clip_bd n).1 (clip_bd n).2

theorem iClip_eq (n:Int):mx (-2147483648) (mn n 2147483647)=clip n:=by
  unfold mx mn clip
  split<;>split<;>(try split)<;>omega
theorem iPutInt_l1 (k:Nat) (n i:Int) (out:List Int) (s q:Int) (h0:0≤i) (hi:wrap64 (8*i)=s) (hs:0≤s) (hq:shr .i64 n s=q) (ho:out.length<1000):
    bF.l1 (k+1) n out i=bF.l1 k n (out++[q % 256]) (wrap64 (i - 1)):=by
  simp only [bF.l1]
  rw [if_pos h0,hi,if_pos hs,if_pos (by omega),hq]
theorem iPutInt_l1_end (k:Nat) (n:Int) (out:List Int):bF.l1 (k+1) n out (-1)=some out:=by
  simp only [bF.l1]
  rw [if_neg (by omega)]
theorem shr0 (n:Int):shr .i64 n 0=n:=by
  show n / 1=n
  omega
theorem shr8 (n:Int):shr .i64 n 8=n / 256:=rfl
theorem shr16 (n:Int):shr .i64 n 16=n / 65536:=rfl
theorem shr24 (n:Int):shr .i64 n 24=n / 16777216:=rfl
theorem iPutInt_j1 (m:Nat) (n:Int):bF.j1 (m+3) n 1=some [n % 256]∧bF.j1 (m+4) n 2=some [n / 256 % 256,n % 256]∧
    bF.j1 (m+5) n 3=some [n / 65536 % 256,n / 256 % 256,n % 256]∧bF.j1 (m+6) n 4=some [n / 16777216 % 256,n / 65536 % 256,n / 256 % 256,n % 256]:=by
  have t1:wrap64 (1 - 1)=0:=by decide+kernel
  have t2:wrap64 (2 - 1)=1:=by decide+kernel
  have t3:wrap64 (3 - 1)=2:=by decide+kernel
  have t4:wrap64 (4 - 1)=3:=by decide+kernel
  have s0:wrap64 (0 - 1)=-1:=by decide+kernel
  have e0:∀k out,out.length<1000→bF.l1 (k+2) n out 0=some (out++[n % 256]):=fun k out ho=>by
    rw [iPutInt_l1 (k+1) n 0 out 0 n (by decide+kernel) (by decide+kernel) (by decide+kernel) (shr0 n) ho,s0,iPutInt_l1_end]
  have e1:∀k out,out.length<900→bF.l1 (k+3) n out 1=some (out++[n / 256 % 256]++[n % 256]):=fun k out ho=>by
    rw [iPutInt_l1 (k+2) n 1 out 8 _ (by decide+kernel) (by decide+kernel) (by decide+kernel) (shr8 n) (by omega),t1,e0 _ _ (by simp only [List.length_append,List.length_cons,List.length_nil];omega)]
  have e2:∀k out,out.length<800→bF.l1 (k+4) n out 2=some (out++[n / 65536 % 256]++[n / 256 % 256]++[n % 256]):=fun k out ho=>by
    rw [iPutInt_l1 (k+3) n 2 out 16 _ (by decide+kernel) (by decide+kernel) (by decide+kernel) (shr16 n) (by omega),t2,e1 _ _ (by simp only [List.length_append,List.length_cons,List.length_nil];omega)]
  have e3:∀k out,out.length<700→bF.l1 (k+5) n out 3=some (out++[n / 16777216 % 256]++[n / 65536 % 256]++[n / 256 % 256]++[n % 256]):=fun k out ho=>by
    rw [iPutInt_l1 (k+4) n 3 out 24 _ (by decide+kernel) (by decide+kernel) (by decide+kernel) (shr24 n) (by omega),t3,e2 _ _ (by simp only [List.length_append,List.length_cons,List.length_nil];omega)]
  refine ⟨?_,?_,?_,?_⟩
  · simp only [bF.j1]
    rw [t1,e0 _ _ (by simp)]
    rfl
  · simp only [bF.j1]
    rw [t2,e1 _ _ (by simp)]
    rfl
  · simp only [bF.j1]
    rw [t3,e2 _ _ (by simp)]
    rfl
  · simp only [bF.j1]
    rw [t4,e3 _ _ (by simp)]
    rfl
theorem iPutInt_l0 (k:Nat) (n j s lo hi:Int) (h4:j<4) (hs:wrap64 (wrap64 (8*j) - 1)=s) (h0:0≤s) (hl:shl .i64 (-1) s=lo) (hh:wrap64 (shl .i64 1 s - 1)=hi):
    bF.l0 (k+1) n j=if lo≤n∧n≤hi then bF.j1 k n j else bF.l0 k n (wrap64 (j+1)):=by
  simp only [bF.l0]
  rw [if_pos h4,hs,if_pos h0,hl,hh,in_eq]
  simp only [Option.bind_some,decide_eq_true_eq]
theorem iPutInt_ev (n:Int):Ev (fun k=>bF.f k n) (putInt (clip n)):=by
  refine Ev.at_ 12 fun k hk=>?_
  obtain ⟨m,rfl⟩:∃m,k=m+12:=⟨k - 12,by omega⟩
  simp only [bF.f]
  rw [iClip_eq]
  generalize clip n=c
  unfold putInt
  rw [iPutInt_l0 (m+11) c 1 7 (-128) 127 (by decide+kernel) (by decide+kernel) (by decide+kernel) (by decide+kernel) (by decide+kernel)]
  by_cases c1:-128≤c∧c≤127
  · rw [if_pos c1,if_pos c1]
    exact (iPutInt_j1 (m+8) c).1
  · rw [if_neg c1,if_neg c1,show wrap64 (1+1)=2 by decide+kernel,iPutInt_l0 (m+10) c 2 15 (-32768) 32767 (by decide+kernel) (by decide+kernel) (by decide+kernel) (by decide+kernel) (by decide+kernel)]
    by_cases c2:-32768≤c∧c≤32767
    · rw [if_pos c2,if_pos c2]
      exact (iPutInt_j1 (m+6) c).2.1
    · rw [if_neg c2,if_neg c2,show wrap64 (2+1)=3 by decide+kernel,iPutInt_l0 (m+9) c 3 23 (-8388608) 8388607 (by decide+kernel) (by decide+kernel) (by decide+kernel) (by decide+kernel) (by decide+kernel)]
      by_cases c3:-8388608≤c∧c≤8388607
      · rw [if_pos c3,if_pos c3]
        exact (iPutInt_j1 (m+4) c).2.2.1
      · rw [if_neg c3,if_neg c3,show wrap64 (3+1)=4 by decide+kernel]
        simp only [bF.l0]
        rw [if_neg (by omega)]
        exact (iPutInt_j1 (m+2) c).2.2.2

def joinI (n x:Int):Int:=Go.bits .or .i64 (wrap64 (n*256)) (wrap64 x)
def rawInt:List Int→Int
  |[]=>0
  |b::rest=>rest.foldl joinI (if b>127 then b - 256 else b)
def getInt (l:List Int):Int × Bool:=if (1≤(l.length:Int)∧(l.length:Int)≤4) then (if ((putInt (clip (rawInt l))).length:Int)=(l.length:Int) then (rawInt l,true) else (0,false)) else (0,false)
theorem sGetInt_loop (rest:List Int):∀(pre:List Int) (n:Int),pre.length+rest.length≤1099511627776→
    Ev (fun k=>bU.l0 k (pre++rest) n (pre.length:Int)) (if ((putInt (clip (rest.foldl joinI n))).length:Int)=((pre++rest).length:Int) then (rest.foldl joinI n,true) else (0,false)):=by
  induction rest with
  |nil=>
    intro pre n _
    refine Ev.succ ?_
    simp only [bU.l0]
    simp only [List.append_nil,if_neg (show ¬(pre.length:Int)<(pre.length:Int) by omega),List.foldl_nil]
    refine Ev.bind (sPutInt_ev n) ?_
    split<;>exact Ev.now _
  |cons r rest ih=>
    intro pre n hn
    simp only [List.length_cons] at hn
    have h:=ih (pre++[r]) (joinI n r) (by simp only [List.length_append,List.length_cons,List.length_nil];omega)
    simp only [List.append_assoc,List.cons_append,List.nil_append] at h
    refine Ev.succ ?_
    simp only [bU.l0]
    simp only [if_pos (show (pre.length:Int)<((pre++r::rest).length:Int) by simp only [List.length_append,List.length_cons];omega),if_pos (show (0:Int)≤(pre.length:Int) by omega),rd_mid,w64 (x:=(pre.length:Int)+1) (by omega) (by omega),List.foldl_cons]
    rw [show ((pre++[r]).length:Int)=(pre.length:Int)+1 by simp] at h
    exact h
theorem iGetInt_loop (all:List Int) (rest:List Int):∀(pre:List Int) (n m:Int),m=(pre.length:Int)+rest.length→pre.length+rest.length≤1099511627776→
    Ev (fun k=>cW.l0 k all n (pre++rest) m (pre.length:Int)) (if ((putInt (clip (rest.foldl joinI n))).length:Int)=(all.length:Int) then (rest.foldl joinI n,true) else (0,false)):=by
  induction rest with
  |nil=>
    intro pre n m hm _
    simp only [List.length_nil] at hm
    show Ev _ (if ((putInt (clip n)).length:Int)=(all.length:Int) then (n,true) else (0,false))
    refine Ev.succ ?_
    simp only [cW.l0]
    simp only [if_neg (show ¬(pre.length:Int)<m by omega)]
    refine Ev.bind (iPutInt_ev n) ?_
    by_cases e:((putInt (clip n)).length:Int)=(all.length:Int)
    · simp only [if_pos e]
      exact Ev.now _
    · simp only [if_neg e]
      exact Ev.now _
  |cons r rest ih=>
    intro pre n m hm hn
    simp only [List.length_cons] at hm hn
    have h:=ih (pre++[r]) (joinI n r) m (by simp only [List.length_append,List.length_cons,List.length_nil];omega) (by simp only [List.length_append,List.length_cons,List.length_nil];omega)
    simp only [List.append_assoc,List.cons_append,List.nil_append] at h
    refine Ev.succ ?_
    simp only [cW.l0]
    simp only [if_pos (show (pre.length:Int)<m by omega),if_pos (show (0:Int)≤(pre.length:Int) by omega),if_pos (show (pre.length:Int)<((pre++r::rest).length:Int) by simp only [List.length_append,List.length_cons];omega),rd_mid,w64 (x:=(pre.length:Int)+1) (by omega) (by omega),List.foldl_cons]
    rw [show ((pre++[r]).length:Int)=(pre.length:Int)+1 by simp] at h
    exact h
theorem wrap8 {b:Int} (h0:0≤b) (h1:b≤255):IntKind.i8.wrap b=if b>127 then b - 256 else b:=by
  simp only [IntKind.wrap,IntKind.bits,IntKind.signed,Bool.true_and]
  split<;>split<;>simp_all<;>omega
theorem sGetInt_ev (l:List Int) (hb:∀y ∈ l,0≤y∧y≤255) (h:l.length≤1048576):Ev (fun k=>bU.f k l) (getInt l):=by
  unfold bU.f getInt
  simp only [l1In_eq,Option.bind_some,decide_eq_true_eq]
  by_cases c:1≤(l.length:Int)∧(l.length:Int)≤4
  · simp only [if_pos c,if_pos (show 0<(l.length:Int) by omega)]
    cases l with
    |nil=>simp at c
    |cons b rest=>
      obtain ⟨h0,h1⟩:=hb b List.mem_cons_self
      have e1:rd (b::rest) 0=b:=rd_mid [] rest b
      simp only [List.length_cons] at h
      simp only [e1,w64 (x:=b) (by omega) (by omega),w64 (x:=b - 256) (by omega) (by omega),rawInt]
      by_cases d:b>127
      · simp only [if_pos d]
        refine Ev.succ ?_
        simp only [bU.j0]
        have e:=sGetInt_loop rest [b] (b - 256) (by simp only [List.length_cons,List.length_nil];omega)
        simpa using e
      · simp only [if_neg d]
        refine Ev.succ ?_
        simp only [bU.j0]
        have e:=sGetInt_loop rest [b] b (by simp only [List.length_cons,List.length_nil];omega)
        simpa using e
  · simp only [if_neg c]
    exact Ev.now _
theorem iGetInt_ev (l:List Int) (hb:∀y ∈ l,0≤y∧y≤255) (h:l.length≤1048576):Ev (fun k=>cW.f k l) (getInt l):=by
  unfold cW.f getInt
  simp only [in_eq,Option.bind_some,decide_eq_true_eq]
  by_cases c:1≤(l.length:Int)∧(l.length:Int)≤4
  · simp only [if_pos c,if_pos (show 0<(l.length:Int) by omega),if_pos (show 1≤(l.length:Int) by omega)]
    cases l with
    |nil=>simp at c
    |cons b rest=>
      obtain ⟨h0,h1⟩:=hb b List.mem_cons_self
      have e1:rd (b::rest) 0=b:=rd_mid [] rest b
      simp only [List.length_cons] at h
      have hw:wrap64 (if b>127 then b - 256 else b)=if b>127 then b - 256 else b:=by split<;>exact w64 (by omega) (by omega)
      simp only [e1,wrap8 h0 h1,hw,rawInt,List.drop_succ_cons,List.drop_zero]
      have e:=iGetInt_loop (b::rest) rest [] (if b>127 then b - 256 else b) (rest.length:Int) (by simp) (by simp only [List.length_nil];omega)
      simpa using e
  · simp only [if_neg c]
    exact Ev.now _

theorem wraps_i64 (n:Int) (h0:0≤n) (h1:n<2 ^ 63):IntKind.i64.wrap n=n:=by rw [IntKind.wrap_i64];omega
theorem and127 (x:Int) (h0:0≤x) (h1:x<9223372036854775808):Go.bits .and .i64 x 127=x % 128:=
  Go.bits_mask .i64 63 (by decide) wraps_i64 7 (by decide) x h0 h1
theorem or128 (y:Int) (h0:0≤y) (h1:y<128):Go.bits .or .i64 y 128=y+128:=by
  obtain ⟨b,rfl⟩:=Int.eq_ofNat_of_zero_le h0
  have hb:b<2 ^ 7:=by omega
  have e:=(Go.bits_nat .i64 63 (by decide) wraps_i64 b 128 (by omega) (by decide)).2
  rw [show (128:Int)=((128:Nat):Int) from rfl,e,Nat.or_comm]
  have h:=Nat.two_pow_add_eq_or_of_lt hb 1
  rw [show (2:Nat) ^ 7*1=128 from rfl] at h
  rw [← h]
  omega
def group (n:Int):List Int:=
  if n≤127 then [n] else if n≤16383 then [n / 128+128,n % 128] else [n / 16384+128,n / 128 % 128+128,n % 128]
theorem group_len (n:Int):1≤(group n).length∧(group n).length≤3:=by
  unfold group
  split
  · simp
  · split<;>simp
def putOid (o:List Int):List Int:=if oidOk o=true then o.flatMap group else []
theorem flat_len (o:List Int):(o.flatMap group).length≤3*o.length:=by
  induction o with
  |nil=>simp
  |cons n o ih=>
    have:=group_len n
    simp only [List.flatMap_cons,List.length_append,List.length_cons]
    omega
theorem putOid_len (o:List Int):(putOid o).length≤30:=by
  unfold putOid
  split
  · rename_i h
    have h1:=flat_len o
    simp only [oidOk,Bool.and_eq_true,decide_eq_true_eq] at h
    omega
  · simp
theorem oidNums_cons (n:Int) (o:List Int) (h:oidNums (n::o)=true):(0≤n∧n≤100000)∧oidNums o=true:=by
  simp only [oidNums,List.all_cons,Bool.and_eq_true,decide_eq_true_eq] at h
  exact h

theorem shr7 (n:Int):shr .i64 n 7=n / 128:=rfl
theorem shr14 (n:Int):shr .i64 n 14=n / 16384:=rfl
theorem shrz (n:Int):shr .i64 n 0=n:=by
  show n / 1=n
  omega
theorem iGroup_ev (n:Int) (h0:0≤n) (h1:n≤100000) (out xs:List Int) (m i:Int) (r:List Int) (ho:out.length≤100000000) (h:Ev (fun k=>bK.l0 k (out++group n) xs m (wrap64 (i+1))) r):
    Ev (fun k=>bK.l1 k out n 0 xs m i) r:=by
  have a0:wrap64 (7*0)=0:=by decide+kernel
  have a1:wrap64 (7*1)=7:=by decide+kernel
  have a2:wrap64 (7*2)=14:=by decide+kernel
  have b1:wrap64 (0+1)=1:=by decide+kernel
  have b2:wrap64 (1+1)=2:=by decide+kernel
  have d1:wrap64 (1 - 1)=0:=by decide+kernel
  have d2:wrap64 (2 - 1)=1:=by decide+kernel
  have z:(0:Int)≤0:=by decide
  have z7:(0:Int)≤7:=by decide
  have z14:(0:Int)≤14:=by decide
  unfold group at h
  refine Ev.succ ?_
  simp only [bK.l1]
  simp only [a0,shrz,if_pos z,b1]
  by_cases c1:n≤127
  · simp only [if_neg (show ¬n>127 by omega)]
    simp only [if_pos c1] at h
    refine Ev.succ ?_
    simp only [bK.l2]
    simp only [if_neg (show ¬(0:Int)>0 by omega),if_pos (show out.length<140737488355328 by omega),and127 n h0 (by omega),show n % 128 % 256=n by omega]
    exact h
  · simp only [if_pos (show n>127 by omega)]
    simp only [if_neg c1] at h
    refine Ev.succ ?_
    simp only [bK.l1]
    simp only [a1,shr7,if_pos z7,b2]
    by_cases c2:n≤16383
    · simp only [if_neg (show ¬n / 128>127 by omega)]
      simp only [if_pos c2] at h
      refine Ev.succ ?_
      simp only [bK.l2]
      simp only [if_pos (show (1:Int)>0 by omega),a1,if_pos z7,shr7,if_pos (show out.length<140737488355328 by omega),d1,and127 (n / 128) (by omega) (by omega)]
      rw [w64 (by omega) (by omega),show (n / 128 % 128+128) % 256=n / 128+128 by omega]
      refine Ev.succ ?_
      simp only [bK.l2]
      simp only [if_neg (show ¬(0:Int)>0 by omega),List.length_append,List.length_cons,List.length_nil,if_pos (show out.length+(0+1)<140737488355328 by omega),and127 n h0 (by omega),show n % 128 % 256=n % 128 by omega,List.append_assoc,List.cons_append,List.nil_append]
      exact h
    · simp only [if_pos (show n / 128>127 by omega)]
      simp only [if_neg c2] at h
      refine Ev.succ ?_
      simp only [bK.l1]
      simp only [a2,shr14,if_pos z14,if_neg (show ¬n / 16384>127 by omega)]
      refine Ev.succ ?_
      simp only [bK.l2]
      simp only [if_pos (show (2:Int)>0 by omega),a2,if_pos z14,shr14,if_pos (show out.length<140737488355328 by omega),d2,and127 (n / 16384) (by omega) (by omega)]
      rw [w64 (by omega) (by omega),show (n / 16384 % 128+128) % 256=n / 16384+128 by omega]
      refine Ev.succ ?_
      simp only [bK.l2]
      simp only [if_pos (show (1:Int)>0 by omega),a1,if_pos z7,shr7,List.length_append,List.length_cons,List.length_nil,if_pos (show out.length+(0+1)<140737488355328 by omega),d1,and127 (n / 128) (by omega) (by omega)]
      rw [w64 (by omega) (by omega),show (n / 128 % 128+128) % 256=n / 128 % 128+128 by omega]
      refine Ev.succ ?_
      simp only [bK.l2]
      simp only [if_neg (show ¬(0:Int)>0 by omega),List.length_append,List.length_cons,List.length_nil,if_pos (show out.length+(0+1)+(0+1)<140737488355328 by omega),and127 n h0 (by omega),show n % 128 % 256=n % 128 by omega,List.append_assoc,List.cons_append,List.nil_append]
      exact h
theorem iPutOid_loop (rest:List Int):∀(pre out:List Int) (m:Int),m=(pre.length:Int)+rest.length→pre.length+rest.length≤1048576→out.length≤3*pre.length→oidNums rest=true→
    Ev (fun k=>bK.l0 k out (pre++rest) m (pre.length:Int)) (out++rest.flatMap group):=by
  induction rest with
  |nil=>
    intro pre out m hm _ _ _
    simp only [List.length_nil] at hm
    refine Ev.succ ?_
    simp only [bK.l0]
    simp only [if_neg (show ¬(pre.length:Int)<m by omega),List.flatMap_nil,List.append_nil]
    exact Ev.now _
  |cons r rest ih=>
    intro pre out m hm hn ho hw
    simp only [List.length_cons] at hm hn
    obtain ⟨hr,hw⟩:=oidNums_cons r rest hw
    have hg:=group_len r
    have h:=ih (pre++[r]) (out++group r) m (by simp only [List.length_append,List.length_cons,List.length_nil];omega) (by simp only [List.length_append,List.length_cons,List.length_nil];omega) (by simp only [List.length_append,List.length_cons,List.length_nil];omega) hw
    simp only [List.append_assoc,List.cons_append,List.nil_append] at h
    rw [show ((pre++[r]).length:Int)=(pre.length:Int)+1 by simp] at h
    refine Ev.succ ?_
    simp only [bK.l0]
    simp only [if_pos (show (pre.length:Int)<m by omega),if_pos (show (0:Int)≤(pre.length:Int) by omega),if_pos (show (pre.length:Int)<((pre++r::rest).length:Int) by simp only [List.length_append,List.length_cons];omega),rd_mid]
    refine iGroup_ev r hr.1 hr.2 out _ m _ _ (by omega) ?_
    rw [w64 (by omega) (by omega),List.flatMap_cons]
    exact h
theorem iPutOid_ev (o:List Int) (h:o.length≤1048576):Ev (fun k=>bK.f k o) (putOid o):=by
  unfold bK.f putOid
  refine Ev.bind (iOidOk_ev o (by omega)) ?_
  by_cases c:oidOk o=true
  · simp only [if_pos c]
    have c':=c
    simp only [oidOk,Bool.and_eq_true] at c'
    have e:=iPutOid_loop o [] [] (o.length:Int) (by simp) (by simp only [List.length_nil];omega) (by simp) c'.1
    simpa using e
  · simp only [if_neg c]
    exact Ev.now _

theorem strNums_toList (a:List Int):(strOfNums a).toList=a.map fun n=>UInt8.ofNat n.toNat:=by
  unfold strOfNums
  exact ByteArray.toList_mk _
theorem byte_inj (a b:Int) (ha:0≤a∧a≤255) (hb:0≤b∧b≤255) (h:UInt8.ofNat a.toNat=UInt8.ofNat b.toNat):a=b:=by
  have e:=congrArg UInt8.toNat h
  simp only [UInt8.toNat_ofNat'] at e
  omega
theorem map_byte_inj:∀(a b:List Int),(∀y ∈ a,0≤y∧y≤255)→(∀y ∈ b,0≤y∧y≤255)→(a.map fun n=>UInt8.ofNat n.toNat)=(b.map fun n=>UInt8.ofNat n.toNat)→a=b
  |[],[],_,_,_=>rfl
  |[],_::_,_,_,h=>by simp at h
  |_::_,[],_,_,h=>by simp at h
  |x::a,y::b,ha,hb,h=>by
    simp only [List.map_cons,List.cons.injEq] at h
    rw [byte_inj x y (ha x List.mem_cons_self) (hb y List.mem_cons_self) h.1,map_byte_inj a b (fun z hz=>ha z (List.mem_cons_of_mem _ hz)) (fun z hz=>hb z (List.mem_cons_of_mem _ hz)) h.2]
theorem strNums_inj (a b:List Int) (ha:∀y ∈ a,0≤y∧y≤255) (hb:∀y ∈ b,0≤y∧y≤255) (h:(strOfNums a).toList=(strOfNums b).toList):a=b:=by
  rw [strNums_toList,strNums_toList] at h
  exact map_byte_inj a b ha hb h

theorem wraps_u8 (n:Int) (h0:0≤n) (h1:n<2 ^ 8):IntKind.u8.wrap n=n:=by
  simp only [IntKind.wrap,IntKind.bits,IntKind.signed,Bool.false_and]
  simp
  omega
theorem and127b (x:Int) (h0:0≤x) (h1:x≤255):Go.bits .and .u8 x 127=x % 128:=
  Go.bits_mask .u8 8 (by decide) wraps_u8 7 (by decide) x h0 (by omega)
theorem join7 (n b:Int) (h0:0≤n) (h1:n<4398046511104) (hb:0≤b) (hb1:b<128):Go.bits .or .i64 (n*128) b=n*128+b:=
  Go.bits_join .i64 63 (by decide) wraps_i64 7 (n*128) b (by omega) (by omega) (by omega) hb (by omega) (by omega)
def bytes (l:List Int):Prop:=∀y ∈ l,0≤y∧y≤255
theorem bytes_cons {b:Int} {l:List Int} (h:bytes (b::l)):(0≤b∧b≤255)∧bytes l:=
  ⟨h b List.mem_cons_self,fun y hy=>h y (List.mem_cons_of_mem _ hy)⟩
def group4 (n:Int):List Int:=
  if n≤127 then [n] else if n≤16383 then [n / 128+128,n % 128] else if n≤2097151 then [n / 16384+128,n / 128 % 128+128,n % 128] else [n / 2097152+128,n / 16384 % 128+128,n / 128 % 128+128,n % 128]
theorem group4_small (n:Int) (h:n≤100000):group4 n=group n:=by
  unfold group4 group
  by_cases c1:n≤127
  · simp only [if_pos c1]
  · simp only [if_neg c1]
    by_cases c2:n≤16383
    · simp only [if_pos c2]
    · simp only [if_neg c2,if_pos (show n≤2097151 by omega)]
theorem sGroup4_ev (n:Int) (h0:0≤n) (h1:n<268435456):Ev (fun k=>dC.f k n) (group4 n):=by
  unfold dC.f
  simp only [and127 n h0 (by omega),show n % 128 % 256=n % 128 by omega]
  refine Ev.succ ?_
  simp only [dC.l0]
  unfold group4
  by_cases c1:n≤127
  · simp only [if_neg (show ¬n>127 by omega),if_pos c1,show n % 128=n by omega]
    exact Ev.now _
  · simp only [if_pos (show n>127 by omega),if_neg c1,Option.bind_some,List.length_cons,List.length_nil,and127 (n / 128) (by omega) (by omega),or128 (n / 128 % 128) (by omega) (by omega),show (n / 128 % 128+128) % 256=n / 128 % 128+128 by omega]
    simp only [if_pos (show 0+1+(0+1)<140737488355328 by omega)]
    refine Ev.succ ?_
    simp only [dC.l0]
    by_cases c2:n≤16383
    · simp only [if_neg (show ¬n / 128>127 by omega),if_pos c2,show n / 128 % 128=n / 128 by omega]
      exact Ev.now _
    · simp only [if_pos (show n / 128>127 by omega),if_neg c2,Option.bind_some,List.length_cons,List.length_nil,List.length_append,show n / 128 / 128=n / 16384 by omega,and127 (n / 16384) (by omega) (by omega),or128 (n / 16384 % 128) (by omega) (by omega),show (n / 16384 % 128+128) % 256=n / 16384 % 128+128 by omega]
      simp only [if_pos (show 0+1+(0+1+(0+1))<140737488355328 by omega)]
      refine Ev.succ ?_
      simp only [dC.l0]
      by_cases c3:n≤2097151
      · simp only [if_neg (show ¬n / 16384>127 by omega),if_pos c3,show n / 16384 % 128=n / 16384 by omega]
        exact Ev.now _
      · simp only [if_pos (show n / 16384>127 by omega),if_neg c3,Option.bind_some,List.length_cons,List.length_nil,List.length_append,show n / 16384 / 128=n / 2097152 by omega,and127 (n / 2097152) (by omega) (by omega),or128 (n / 2097152 % 128) (by omega) (by omega),show (n / 2097152 % 128+128) % 256=n / 2097152+128 by omega]
        simp only [if_pos (show 0+1+(0+1+(0+1+(0+1)))<140737488355328 by omega)]
        refine Ev.succ ?_
        simp only [dC.l0]
        simp only [if_neg (show ¬n / 2097152>127 by omega)]
        exact Ev.now _
theorem g4_len (n:Int):1≤(group4 n).length:=by
  unfold group4
  split
  · simp
  · split
    · simp
    · split<;>simp
theorem so_go (pre rest x4:List Int) (b n c:Int) (r:List Int × Bool) (hp:pre.length+rest.length≤1048576) (hb:0≤b∧b≤255) (hn:0≤n∧n<2097152) (hc:0≤c∧c<4)
    (h:Ev (fun k=>bG.l1 k ((pre++[b])++rest) x4 ((pre++[b]).length:Int) (n*128+b % 128) (c+1) (decide (b>127))) r):
    Ev (fun k=>bG.l1 k (pre++b::rest) x4 (pre.length:Int) n c true) r:=by
  refine Ev.succ ?_
  simp only [bG.l1]
  simp only [if_true,if_pos (show (pre.length:Int)<((pre++b::rest).length:Int) by simp only [List.length_append,List.length_cons];omega),if_pos hc.2,if_pos (show (0:Int)≤(pre.length:Int) by omega),rd_mid,and127b b hb.1 hb.2,w64 (x:=b % 128) (by omega) (by omega),w64 (x:=n*128) (by omega) (by omega),join7 n (b % 128) hn.1 (by omega) (by omega) (by omega),w64 (x:=(pre.length:Int)+1) (by omega) (by omega),w64 (x:=c+1) (by omega) (by omega)]
  simp only [List.append_assoc,List.cons_append,List.nil_append] at h
  rw [show ((pre++[b]).length:Int)=(pre.length:Int)+1 by simp] at h
  exact h
theorem so_end (pre x4:List Int) (n c:Int):Ev (fun k=>bG.l1 k (pre++[]) x4 (pre.length:Int) n c true) ([],false):=by
  refine Ev.succ ?_
  simp only [bG.l1]
  simp only [if_true,List.append_nil,if_neg (show ¬(pre.length:Int)<(pre.length:Int) by omega)]
  exact Ev.now _
theorem so_full (l x4:List Int) (p n:Int):Ev (fun k=>bG.l1 k l x4 p n 4 true) ([],false):=by
  refine Ev.succ ?_
  simp only [bG.l1]
  simp only [if_true,if_neg (show ¬(4:Int)<4 by omega),ite_self]
  exact Ev.now _
theorem so_out (l x4:List Int) (p n c:Int) (r:List Int × Bool) (hn:0≤n∧n<268435456) (h4:x4.length≤1048576) (hc:((group4 n).length:Int)=c) (h:Ev (fun k=>bG.l0 k l (x4++[n]) p) r):
    Ev (fun k=>bG.l1 k l x4 p n c false) r:=by
  refine Ev.succ ?_
  simp only [bG.l1]
  simp only [Bool.false_eq_true,if_false]
  refine Ev.bind (sGroup4_ev n hn.1 hn.2) ?_
  simp only [if_pos hc,if_pos (show x4.length<17592186044416 by omega)]
  exact h
theorem so_bad (l x4:List Int) (p n c:Int) (hn:0≤n∧n<268435456) (hc:¬((group4 n).length:Int)=c):
    Ev (fun k=>bG.l1 k l x4 p n c false) ([],false):=by
  refine Ev.succ ?_
  simp only [bG.l1]
  simp only [Bool.false_eq_true,if_false]
  refine Ev.bind (sGroup4_ev n hn.1 hn.2) ?_
  simp only [if_neg hc]
  exact Ev.now _
theorem g4_1 (n:Int) (h:n≤127):group4 n=[n]:=by unfold group4;rw [if_pos h]
theorem g4_2 (n:Int) (h0:127<n) (h:n≤16383):group4 n=[n / 128+128,n % 128]:=by unfold group4;rw [if_neg (by omega),if_pos h]
theorem g4_3 (n:Int) (h0:16383<n) (h:n≤2097151):group4 n=[n / 16384+128,n / 128 % 128+128,n % 128]:=by unfold group4;rw [if_neg (by omega),if_neg (by omega),if_pos h]
theorem g4_4 (n:Int) (h0:2097151<n):group4 n=[n / 2097152+128,n / 16384 % 128+128,n / 128 % 128+128,n % 128]:=by unfold group4;rw [if_neg (by omega),if_neg (by omega),if_neg (by omega)]
/- one arc out of what is left: either the bytes are an arc's shortest form and the loop goes on behind them, or the answer is no -/
theorem so_any (rest pre x4:List Int) (hw:bytes rest) (hl:pre.length+rest.length≤1048576) (h4:x4.length≤1048576):
    (∃n rest',0≤n∧n<268435456∧rest=group4 n++rest'∧∀r,Ev (fun k=>bG.l0 k ((pre++group4 n)++rest') (x4++[n]) ((pre++group4 n).length:Int)) r→Ev (fun k=>bG.l1 k (pre++rest) x4 (pre.length:Int) 0 0 true) r)∨
    Ev (fun k=>bG.l1 k (pre++rest) x4 (pre.length:Int) 0 0 true) ([],false):=by
  rcases rest with _|⟨b1,rest⟩
  · exact Or.inr (so_end pre x4 0 0)
  obtain ⟨hb1,hw⟩:=bytes_cons hw
  simp only [List.length_cons] at hl
  by_cases c1:b1>127
  rotate_left
  · left
    refine ⟨b1,rest,hb1.1,by omega,by rw [g4_1 b1 (by omega)];rfl,fun r h=>?_⟩
    refine so_go pre rest x4 b1 0 0 r (by omega) hb1 (by omega) (by omega) ?_
    rw [decide_eq_false c1,show (0:Int)*128+b1 % 128=b1 by omega,show (0:Int)+1=1 by omega]
    rw [g4_1 b1 (by omega)] at h
    exact so_out _ x4 _ b1 1 r (by omega) h4 (by rw [g4_1 b1 (by omega)];rfl) h
  rcases rest with _|⟨b2,rest⟩
  · right
    refine so_go pre [] x4 b1 0 0 _ (by simp only [List.length_nil];omega) hb1 (by omega) (by omega) ?_
    rw [decide_eq_true c1]
    exact so_end _ x4 _ _
  obtain ⟨hb2,hw⟩:=bytes_cons hw
  simp only [List.length_cons] at hl
  have p1:(pre++[b1]).length=pre.length+1:=by simp
  by_cases c2:b2>127
  rotate_left
  · by_cases d:(b1 - 128)*128+b2>127
    · left
      have g:=g4_2 ((b1 - 128)*128+b2) (by omega) (by omega)
      rw [show ((b1 - 128)*128+b2) / 128+128=b1 by omega,show ((b1 - 128)*128+b2) % 128=b2 by omega] at g
      refine ⟨(b1 - 128)*128+b2,rest,by omega,by omega,by rw [g];rfl,fun r h=>?_⟩
      refine so_go pre (b2::rest) x4 b1 0 0 r (by simp only [List.length_cons];omega) hb1 (by omega) (by omega) ?_
      rw [decide_eq_true c1]
      refine so_go (pre++[b1]) rest x4 b2 _ _ r (by omega) hb2 (by omega) (by omega) ?_
      rw [decide_eq_false c2,show ((0:Int)*128+b1 % 128)*128+b2 % 128=(b1 - 128)*128+b2 by omega,show (0:Int)+1+1=2 by omega]
      rw [g,show pre++[b1,b2]=pre++[b1]++[b2] by simp] at h
      exact so_out _ x4 _ _ 2 r (by omega) h4 (by rw [g];rfl) h
    · right
      refine so_go pre (b2::rest) x4 b1 0 0 _ (by simp only [List.length_cons];omega) hb1 (by omega) (by omega) ?_
      rw [decide_eq_true c1]
      refine so_go (pre++[b1]) rest x4 b2 _ _ _ (by omega) hb2 (by omega) (by omega) ?_
      rw [decide_eq_false c2]
      refine so_bad _ x4 _ _ _ (by omega) ?_
      rw [g4_1 _ (by omega)]
      simp
  rcases rest with _|⟨b3,rest⟩
  · right
    refine so_go pre [b2] x4 b1 0 0 _ (by simp only [List.length_cons,List.length_nil];omega) hb1 (by omega) (by omega) ?_
    rw [decide_eq_true c1]
    refine so_go (pre++[b1]) [] x4 b2 _ _ _ (by simp only [List.length_nil];omega) hb2 (by omega) (by omega) ?_
    rw [decide_eq_true c2]
    exact so_end _ x4 _ _
  obtain ⟨hb3,hw⟩:=bytes_cons hw
  simp only [List.length_cons] at hl
  have p2:(pre++[b1]++[b2]).length=pre.length+2:=by simp
  by_cases c3:b3>127
  rotate_left
  · by_cases d:((b1 - 128)*128+(b2 - 128))*128+b3>16383
    · left
      have g:=g4_3 (((b1 - 128)*128+(b2 - 128))*128+b3) (by omega) (by omega)
      rw [show (((b1 - 128)*128+(b2 - 128))*128+b3) / 16384+128=b1 by omega,show (((b1 - 128)*128+(b2 - 128))*128+b3) / 128 % 128+128=b2 by omega,show (((b1 - 128)*128+(b2 - 128))*128+b3) % 128=b3 by omega] at g
      refine ⟨((b1 - 128)*128+(b2 - 128))*128+b3,rest,by omega,by omega,by rw [g];rfl,fun r h=>?_⟩
      refine so_go pre (b2::b3::rest) x4 b1 0 0 r (by simp only [List.length_cons];omega) hb1 (by omega) (by omega) ?_
      rw [decide_eq_true c1]
      refine so_go (pre++[b1]) (b3::rest) x4 b2 _ _ r (by simp only [List.length_cons];omega) hb2 (by omega) (by omega) ?_
      rw [decide_eq_true c2]
      refine so_go (pre++[b1]++[b2]) rest x4 b3 _ _ r (by omega) hb3 (by omega) (by omega) ?_
      rw [decide_eq_false c3,show (((0:Int)*128+b1 % 128)*128+b2 % 128)*128+b3 % 128=((b1 - 128)*128+(b2 - 128))*128+b3 by omega,show (0:Int)+1+1+1=3 by omega]
      rw [g,show pre++[b1,b2,b3]=pre++[b1]++[b2]++[b3] by simp] at h
      exact so_out _ x4 _ _ 3 r (by omega) h4 (by rw [g];rfl) h
    · right
      refine so_go pre (b2::b3::rest) x4 b1 0 0 _ (by simp only [List.length_cons];omega) hb1 (by omega) (by omega) ?_
      rw [decide_eq_true c1]
      refine so_go (pre++[b1]) (b3::rest) x4 b2 _ _ _ (by simp only [List.length_cons];omega) hb2 (by omega) (by omega) ?_
      rw [decide_eq_true c2]
      refine so_go (pre++[b1]++[b2]) rest x4 b3 _ _ _ (by omega) hb3 (by omega) (by omega) ?_
      rw [decide_eq_false c3]
      refine so_bad _ x4 _ _ _ (by omega) ?_
      by_cases e:(((0:Int)*128+b1 % 128)*128+b2 % 128)*128+b3 % 128≤127
      · rw [g4_1 _ e];simp
      · rw [g4_2 _ (by omega) (by omega)];simp
  rcases rest with _|⟨b4,rest⟩
  · right
    refine so_go pre [b2,b3] x4 b1 0 0 _ (by simp only [List.length_cons,List.length_nil];omega) hb1 (by omega) (by omega) ?_
    rw [decide_eq_true c1]
    refine so_go (pre++[b1]) [b3] x4 b2 _ _ _ (by simp only [List.length_cons,List.length_nil];omega) hb2 (by omega) (by omega) ?_
    rw [decide_eq_true c2]
    refine so_go (pre++[b1]++[b2]) [] x4 b3 _ _ _ (by simp only [List.length_nil];omega) hb3 (by omega) (by omega) ?_
    rw [decide_eq_true c3]
    exact so_end _ x4 _ _
  obtain ⟨hb4,hw⟩:=bytes_cons hw
  simp only [List.length_cons] at hl
  have p3:(pre++[b1]++[b2]++[b3]).length=pre.length+3:=by simp
  by_cases c4:b4>127
  rotate_left
  · by_cases d:(((b1 - 128)*128+(b2 - 128))*128+(b3 - 128))*128+b4>2097151
    · left
      have g:=g4_4 ((((b1 - 128)*128+(b2 - 128))*128+(b3 - 128))*128+b4) (by omega)
      rw [show ((((b1 - 128)*128+(b2 - 128))*128+(b3 - 128))*128+b4) / 2097152+128=b1 by omega,show ((((b1 - 128)*128+(b2 - 128))*128+(b3 - 128))*128+b4) / 16384 % 128+128=b2 by omega,show ((((b1 - 128)*128+(b2 - 128))*128+(b3 - 128))*128+b4) / 128 % 128+128=b3 by omega,show ((((b1 - 128)*128+(b2 - 128))*128+(b3 - 128))*128+b4) % 128=b4 by omega] at g
      refine ⟨(((b1 - 128)*128+(b2 - 128))*128+(b3 - 128))*128+b4,rest,by omega,by omega,by rw [g];rfl,fun r h=>?_⟩
      refine so_go pre (b2::b3::b4::rest) x4 b1 0 0 r (by simp only [List.length_cons];omega) hb1 (by omega) (by omega) ?_
      rw [decide_eq_true c1]
      refine so_go (pre++[b1]) (b3::b4::rest) x4 b2 _ _ r (by simp only [List.length_cons];omega) hb2 (by omega) (by omega) ?_
      rw [decide_eq_true c2]
      refine so_go (pre++[b1]++[b2]) (b4::rest) x4 b3 _ _ r (by simp only [List.length_cons];omega) hb3 (by omega) (by omega) ?_
      rw [decide_eq_true c3]
      refine so_go (pre++[b1]++[b2]++[b3]) rest x4 b4 _ _ r (by omega) hb4 (by omega) (by omega) ?_
      rw [decide_eq_false c4,show ((((0:Int)*128+b1 % 128)*128+b2 % 128)*128+b3 % 128)*128+b4 % 128=(((b1 - 128)*128+(b2 - 128))*128+(b3 - 128))*128+b4 by omega,show (0:Int)+1+1+1+1=4 by omega]
      rw [g,show pre++[b1,b2,b3,b4]=pre++[b1]++[b2]++[b3]++[b4] by simp] at h
      exact so_out _ x4 _ _ 4 r (by omega) h4 (by rw [g];rfl) h
    · right
      refine so_go pre (b2::b3::b4::rest) x4 b1 0 0 _ (by simp only [List.length_cons];omega) hb1 (by omega) (by omega) ?_
      rw [decide_eq_true c1]
      refine so_go (pre++[b1]) (b3::b4::rest) x4 b2 _ _ _ (by simp only [List.length_cons];omega) hb2 (by omega) (by omega) ?_
      rw [decide_eq_true c2]
      refine so_go (pre++[b1]++[b2]) (b4::rest) x4 b3 _ _ _ (by simp only [List.length_cons];omega) hb3 (by omega) (by omega) ?_
      rw [decide_eq_true c3]
      refine so_go (pre++[b1]++[b2]++[b3]) rest x4 b4 _ _ _ (by omega) hb4 (by omega) (by omega) ?_
      rw [decide_eq_false c4]
      refine so_bad _ x4 _ _ _ (by omega) ?_
      by_cases e:((((0:Int)*128+b1 % 128)*128+b2 % 128)*128+b3 % 128)*128+b4 % 128≤127
      · rw [g4_1 _ e];simp
      · by_cases e2:((((0:Int)*128+b1 % 128)*128+b2 % 128)*128+b3 % 128)*128+b4 % 128≤16383
        · rw [g4_2 _ (by omega) e2];simp
        · rw [g4_3 _ (by omega) (by omega)];simp
  · right
    refine so_go pre (b2::b3::b4::rest) x4 b1 0 0 _ (by simp only [List.length_cons];omega) hb1 (by omega) (by omega) ?_
    rw [decide_eq_true c1]
    refine so_go (pre++[b1]) (b3::b4::rest) x4 b2 _ _ _ (by simp only [List.length_cons];omega) hb2 (by omega) (by omega) ?_
    rw [decide_eq_true c2]
    refine so_go (pre++[b1]++[b2]) (b4::rest) x4 b3 _ _ _ (by simp only [List.length_cons];omega) hb3 (by omega) (by omega) ?_
    rw [decide_eq_true c3]
    refine so_go (pre++[b1]++[b2]++[b3]) rest x4 b4 _ _ _ (by omega) hb4 (by omega) (by omega) ?_
    rw [decide_eq_true c4,show (0:Int)+1+1+1+1=4 by omega]
    exact so_full _ x4 _ _

theorem so_fwd (n:Int) (hn:0≤n∧n≤100000) (pre rest x4:List Int) (r:List Int × Bool) (hl:pre.length+3+rest.length≤1048576) (h4:x4.length≤1048576)
    (h:Ev (fun k=>bG.l0 k ((pre++group n)++rest) (x4++[n]) ((pre++group n).length:Int)) r):
    Ev (fun k=>bG.l1 k (pre++(group n++rest)) x4 (pre.length:Int) 0 0 true) r:=by
  have p1 (b:Int):(pre++[b]).length=pre.length+1:=by simp
  have p2 (b c:Int):(pre++[b]++[c]).length=pre.length+2:=by simp
  rw [← group4_small n hn.2] at h ⊢
  by_cases c1:n≤127
  · rw [g4_1 n c1] at h ⊢
    refine so_go pre rest x4 n 0 0 r (by omega) (by omega) (by omega) (by omega) ?_
    rw [decide_eq_false (show ¬n>127 by omega),show (0:Int)*128+n % 128=n by omega,show (0:Int)+1=1 by omega]
    exact so_out _ x4 _ n 1 r (by omega) h4 (by rw [g4_1 n c1];rfl) h
  · by_cases c2:n≤16383
    · have g:=g4_2 n (by omega) c2
      rw [g] at h ⊢
      refine so_go pre (n % 128::rest) x4 (n / 128+128) 0 0 r (by simp only [List.length_cons];omega) (by omega) (by omega) (by omega) ?_
      rw [decide_eq_true (show n / 128+128>127 by omega)]
      refine so_go (pre++[n / 128+128]) rest x4 (n % 128) _ _ r (by rw [p1];omega) (by omega) (by omega) (by omega) ?_
      rw [decide_eq_false (show ¬n % 128>127 by omega),show ((0:Int)*128+(n / 128+128) % 128)*128+n % 128 % 128=n by omega,show (0:Int)+1+1=2 by omega]
      rw [show pre++[n / 128+128,n % 128]=pre++[n / 128+128]++[n % 128] by simp] at h
      exact so_out _ x4 _ n 2 r (by omega) h4 (by rw [g];rfl) h
    · have g:=g4_3 n (by omega) (by omega)
      rw [g] at h ⊢
      refine so_go pre ((n / 128 % 128+128)::n % 128::rest) x4 (n / 16384+128) 0 0 r (by simp only [List.length_cons];omega) (by omega) (by omega) (by omega) ?_
      rw [decide_eq_true (show n / 16384+128>127 by omega)]
      refine so_go (pre++[n / 16384+128]) (n % 128::rest) x4 (n / 128 % 128+128) _ _ r (by rw [p1];simp only [List.length_cons];omega) (by omega) (by omega) (by omega) ?_
      rw [decide_eq_true (show n / 128 % 128+128>127 by omega)]
      refine so_go (pre++[n / 16384+128]++[n / 128 % 128+128]) rest x4 (n % 128) _ _ r (by rw [p2];omega) (by omega) (by omega) (by omega) ?_
      rw [decide_eq_false (show ¬n % 128>127 by omega),show (((0:Int)*128+(n / 16384+128) % 128)*128+(n / 128 % 128+128) % 128)*128+n % 128 % 128=n by omega,show (0:Int)+1+1+1=3 by omega]
      rw [show pre++[n / 16384+128,n / 128 % 128+128,n % 128]=pre++[n / 16384+128]++[n / 128 % 128+128]++[n % 128] by simp] at h
      exact so_out _ x4 _ n 3 r (by omega) h4 (by rw [g];rfl) h
theorem so_stop (l x4:List Int) (hl:l.length≤1048576) (h4:x4.length≤1048576):Ev (fun k=>bG.l0 k l x4 (l.length:Int)) (if oidOk x4=true then (x4,true) else ([],false)):=by
  refine Ev.succ ?_
  simp only [bG.l0]
  simp only [if_neg (show ¬(l.length:Int)<(l.length:Int) by omega)]
  refine Ev.succ ?_
  simp only [bG.j1]
  simp only [Bool.false_eq_true,if_false,if_true]
  refine Ev.bind (sOidOk_ev x4 (by omega)) ?_
  split<;>exact Ev.now _
theorem so_goOn (pre rest x4:List Int) (r:List Int × Bool) (hr:rest≠[]) (h4:x4.length≤10) (h:Ev (fun k=>bG.l1 k (pre++rest) x4 (pre.length:Int) 0 0 true) r):
    Ev (fun k=>bG.l0 k (pre++rest) x4 (pre.length:Int)) r:=by
  have hp:0<rest.length:=by cases rest with|nil=>exact absurd rfl hr|cons _ _=>simp
  refine Ev.succ ?_
  simp only [bG.l0]
  simp only [if_pos (show (pre.length:Int)<((pre++rest).length:Int) by simp only [List.length_append];omega)]
  rw [decide_eq_true (show (x4.length:Int)≤10 by omega)]
  refine Ev.succ ?_
  simp only [bG.j1]
  simp only [if_true]
  exact h
theorem so_tooMany (pre rest x4:List Int) (hr:rest≠[]) (h4:¬x4.length≤10):Ev (fun k=>bG.l0 k (pre++rest) x4 (pre.length:Int)) ([],false):=by
  have hp:0<rest.length:=by cases rest with|nil=>exact absurd rfl hr|cons _ _=>simp
  refine Ev.succ ?_
  simp only [bG.l0]
  simp only [if_pos (show (pre.length:Int)<((pre++rest).length:Int) by simp only [List.length_append];omega)]
  rw [decide_eq_false (show ¬(x4.length:Int)≤10 by omega)]
  refine Ev.succ ?_
  simp only [bG.j1]
  simp only [Bool.false_eq_true,if_false,if_neg (show ¬(pre.length:Int)=((pre++rest).length:Int) by simp only [List.length_append];omega)]
  exact Ev.now _
theorem group_ne (n:Int) (l:List Int):group n++l≠[]:=by
  have:=group_len n
  intro h
  have:=congrArg List.length h
  simp only [List.length_append,List.length_nil] at this
  omega
theorem sGetOid_yes (o:List Int):∀(pre x4:List Int),oidOk (x4++o)=true→pre.length+3*o.length≤1000→
    Ev (fun k=>bG.l0 k (pre++o.flatMap group) x4 (pre.length:Int)) (x4++o,true):=by
  induction o with
  |nil=>
    intro pre x4 h hl
    have e:=so_stop pre x4 (by omega) (by simp only [oidOk,Bool.and_eq_true,decide_eq_true_eq,List.append_nil] at h;omega)
    rw [List.append_nil] at h
    rw [if_pos h] at e
    simpa using e
  |cons n o ih=>
    intro pre x4 h hl
    simp only [List.length_cons] at hl
    have hg:=group_len n
    have hf:=flat_len o
    have h':=h
    simp only [oidOk,Bool.and_eq_true,decide_eq_true_eq,List.length_append,List.length_cons] at h'
    have hn:0≤n∧n≤100000:=by
      have:=h'.1
      simp only [oidNums,List.all_append,List.all_cons,Bool.and_eq_true,decide_eq_true_eq] at this
      exact this.2.1
    simp only [List.flatMap_cons]
    refine so_goOn pre _ x4 _ (group_ne n _) (by omega) ?_
    refine so_fwd n hn pre _ x4 _ (by omega) (by omega) ?_
    have e:=ih (pre++group n) (x4++[n]) (by simpa using h) (by simp only [List.length_append];omega)
    simpa using e
theorem flat4 (o:List Int) (h:oidNums o=true):o.flatMap group4=o.flatMap group:=by
  induction o with
  |nil=>rfl
  |cons n o ih=>
    obtain ⟨hn,ho⟩:=oidNums_cons n o h
    simp only [List.flatMap_cons,group4_small n hn.2,ih ho]
theorem sGetOid_no (m:Nat):∀(rest x4:List Int),rest.length≤m→bytes rest→(x4.flatMap group4).length+rest.length≤1048576→(∀o,oidOk o=true→o.flatMap group≠x4.flatMap group4++rest)→
    Ev (fun k=>bG.l0 k (x4.flatMap group4++rest) x4 ((x4.flatMap group4).length:Int)) ([],false):=by
  induction m with
  |zero=>
    intro rest x4 hm _ hl hno
    have:rest=[]:=List.eq_nil_of_length_eq_zero (by omega)
    subst this
    have h4:x4.length≤(x4.flatMap group4).length:=by
      clear hno hl hm
      induction x4 with
      |nil=>simp
      |cons n x4 ih=>
        have:=g4_len n
        simp only [List.flatMap_cons,List.length_append,List.length_cons]
        omega
    have e:=so_stop (x4.flatMap group4) x4 (by omega) (by omega)
    have hx:¬oidOk x4=true:=by
      intro hx
      have hx':=hx
      simp only [oidOk,Bool.and_eq_true] at hx'
      exact hno x4 hx (by rw [List.append_nil,flat4 x4 hx'.1])
    rw [if_neg hx] at e
    simpa using e
  |succ m ih=>
    intro rest x4 hm hw hl hno
    by_cases hr:rest=[]
    · subst hr
      exact ih [] x4 (by simp) hw hl hno
    by_cases h4:x4.length≤10
    · refine so_goOn _ rest x4 _ hr h4 ?_
      rcases so_any rest (x4.flatMap group4) x4 hw hl (by omega) with ⟨n,rest',h0,h1,e,h⟩|h
      · refine h _ ?_
        have hg:=g4_len n
        have hw':bytes rest':=fun y hy=>hw y (by rw [e];exact List.mem_append_right _ hy)
        have hle:rest.length=(group4 n).length+rest'.length:=by rw [e,List.length_append]
        have hc:(x4++[n]).flatMap group4=x4.flatMap group4++group4 n:=by simp
        have:=ih rest' (x4++[n]) (by omega) hw' (by rw [hc,List.length_append];omega) (by
          intro o ho
          rw [hc,List.append_assoc,← e]
          exact hno o ho)
        rw [hc] at this
        exact this
      · exact h
    · exact so_tooMany _ rest x4 hr h4
def gfin (all x4:List Int):List Int × Bool:=if ((putOid x4).length:Int)=0 then ([],false) else if (strOfNums (putOid x4)).toList=(strOfNums all).toList then (x4,true) else ([],false)
theorem io_fin (all x4 xs:List Int) (n m p:Int) (hp:¬p<m) (h4:x4.length≤1048576):Ev (fun k=>b6.l0 k all x4 n xs m p) (gfin all x4):=by
  refine Ev.succ ?_
  simp only [b6.l0]
  simp only [if_neg hp]
  refine Ev.bind (iPutOid_ev x4 h4) ?_
  unfold gfin
  split
  · exact Ev.now _
  · split<;>exact Ev.now _
def joinO (n b:Int):Int:=Go.bits .or .i64 (wrap64 ((mn n 1048576)*128)) (wrap64 (Go.bits .and .u8 b 127))
theorem joinO_eq (n b:Int) (hn:0≤n∧n≤1048576) (hb:0≤b∧b≤255):joinO n b=n*128+b % 128:=by
  unfold joinO mn
  rw [if_neg (by omega),and127b b hb.1 hb.2,w64 (by omega) (by omega),w64 (by omega) (by omega),join7 n (b % 128) hn.1 (by omega) (by omega) (by omega)]
theorem io_small (all pre rest x4:List Int) (b n m:Int) (r:List Int × Bool) (hm:m=(pre.length:Int)+rest.length+1) (hp:pre.length<40) (h4:x4.length≤1048576) (hb:b<128)
    (h:Ev (fun k=>b6.l0 k all (x4++[joinO n b]) 0 ((pre++[b])++rest) m ((pre++[b]).length:Int)) r):
    Ev (fun k=>b6.l0 k all x4 n (pre++b::rest) m (pre.length:Int)) r:=by
  refine Ev.succ ?_
  simp only [b6.l0]
  simp only [if_pos (show (pre.length:Int)<m by omega),if_pos (show (0:Int)≤(pre.length:Int) by omega),if_pos (show (pre.length:Int)<((pre++b::rest).length:Int) by simp only [List.length_append,List.length_cons];omega),if_neg (show ¬(pre.length:Int)≥40 by omega),rd_mid,if_pos hb,if_pos (show x4.length<17592186044416 by omega),w64 (x:=(pre.length:Int)+1) (by omega) (by omega)]
  simp only [List.append_assoc,List.cons_append,List.nil_append] at h
  rw [show ((pre++[b]).length:Int)=(pre.length:Int)+1 by simp] at h
  exact h
theorem io_big (all pre rest x4:List Int) (b n m:Int) (r:List Int × Bool) (hm:m=(pre.length:Int)+rest.length+1) (hp:pre.length<40) (hb:¬b<128)
    (h:Ev (fun k=>b6.l0 k all x4 (joinO n b) ((pre++[b])++rest) m ((pre++[b]).length:Int)) r):
    Ev (fun k=>b6.l0 k all x4 n (pre++b::rest) m (pre.length:Int)) r:=by
  refine Ev.succ ?_
  simp only [b6.l0]
  simp only [if_pos (show (pre.length:Int)<m by omega),if_pos (show (0:Int)≤(pre.length:Int) by omega),if_pos (show (pre.length:Int)<((pre++b::rest).length:Int) by simp only [List.length_append,List.length_cons];omega),if_neg (show ¬(pre.length:Int)≥40 by omega),rd_mid,if_neg hb,w64 (x:=(pre.length:Int)+1) (by omega) (by omega)]
  simp only [List.append_assoc,List.cons_append,List.nil_append] at h
  rw [show ((pre++[b]).length:Int)=(pre.length:Int)+1 by simp] at h
  exact h
theorem io_over (all pre rest x4:List Int) (b n m:Int) (hm:m=(pre.length:Int)+rest.length+1) (hp:¬pre.length<40):
    Ev (fun k=>b6.l0 k all x4 n (pre++b::rest) m (pre.length:Int)) ([],false):=by
  refine Ev.succ ?_
  simp only [b6.l0]
  simp only [if_pos (show (pre.length:Int)<m by omega),if_pos (show (0:Int)≤(pre.length:Int) by omega),if_pos (show (pre.length:Int)<((pre++b::rest).length:Int) by simp only [List.length_append,List.length_cons];omega),if_pos (show (pre.length:Int)≥40 by omega)]
  exact Ev.now _
theorem iGetOid_any (all:List Int) (rest:List Int):∀(pre x4:List Int) (n m:Int),m=(pre.length:Int)+rest.length→x4.length≤pre.length→pre.length≤40→
    ∃x,Ev (fun k=>b6.l0 k all x4 n (pre++rest) m (pre.length:Int)) (gfin all x)∨Ev (fun k=>b6.l0 k all x4 n (pre++rest) m (pre.length:Int)) ([],false):=by
  induction rest with
  |nil=>
    intro pre x4 n m hm h4 hp
    simp only [List.length_nil] at hm
    exact ⟨x4,Or.inl (io_fin all x4 _ n m _ (by omega) (by omega))⟩
  |cons b rest ih=>
    intro pre x4 n m hm h4 hp
    simp only [List.length_cons] at hm
    by_cases hp':pre.length<40
    · by_cases hb:b<128
      · obtain ⟨x,h⟩:=ih (pre++[b]) (x4++[joinO n b]) 0 m (by simp only [List.length_append,List.length_cons,List.length_nil];omega) (by simp only [List.length_append,List.length_cons,List.length_nil];omega) (by simp only [List.length_append,List.length_cons,List.length_nil];omega)
        exact ⟨x,h.imp (io_small all pre rest x4 b n m _ (by omega) hp' (by omega) hb) (io_small all pre rest x4 b n m _ (by omega) hp' (by omega) hb)⟩
      · obtain ⟨x,h⟩:=ih (pre++[b]) x4 (joinO n b) m (by simp only [List.length_append,List.length_cons,List.length_nil];omega) (by simp only [List.length_append,List.length_cons,List.length_nil];omega) (by simp only [List.length_append,List.length_cons,List.length_nil];omega)
        exact ⟨x,h.imp (io_big all pre rest x4 b n m _ (by omega) hp' hb) (io_big all pre rest x4 b n m _ (by omega) hp' hb)⟩
    · exact ⟨[],Or.inr (io_over all pre rest x4 b n m (by omega) hp')⟩
theorem io_fwd (all:List Int) (n:Int) (hn:0≤n∧n≤100000) (pre rest x4:List Int) (m:Int) (r:List Int × Bool) (hm:m=(pre.length:Int)+(group n).length+rest.length) (hp:pre.length≤37) (h4:x4.length≤1048576)
    (h:Ev (fun k=>b6.l0 k all (x4++[n]) 0 ((pre++group n)++rest) m ((pre++group n).length:Int)) r):
    Ev (fun k=>b6.l0 k all x4 0 (pre++(group n++rest)) m (pre.length:Int)) r:=by
  have p1 (b:Int):(pre++[b]).length=pre.length+1:=by simp
  have p2 (b c:Int):(pre++[b]++[c]).length=pre.length+2:=by simp
  rw [← group4_small n hn.2] at h hm ⊢
  by_cases c1:n≤127
  · rw [g4_1 n c1] at h hm ⊢
    simp only [List.length_cons,List.length_nil] at hm
    refine io_small all pre rest x4 n 0 m r (by omega) (by omega) h4 (by omega) ?_
    rw [joinO_eq 0 n (by omega) (by omega),show (0:Int)*128+n % 128=n by omega]
    exact h
  · by_cases c2:n≤16383
    · have g:=g4_2 n (by omega) c2
      rw [g] at h hm ⊢
      simp only [List.length_cons,List.length_nil] at hm
      refine io_big all pre (n % 128::rest) x4 (n / 128+128) 0 m r (by simp only [List.length_cons];omega) (by omega) (by omega) ?_
      refine io_small all (pre++[n / 128+128]) rest x4 (n % 128) _ m r (by rw [p1];omega) (by rw [p1];omega) h4 (by omega) ?_
      rw [joinO_eq 0 _ (by omega) (by omega),joinO_eq _ _ (by omega) (by omega),show ((0:Int)*128+(n / 128+128) % 128)*128+n % 128 % 128=n by omega]
      rw [show pre++[n / 128+128,n % 128]=pre++[n / 128+128]++[n % 128] by simp] at h
      exact h
    · have g:=g4_3 n (by omega) (by omega)
      rw [g] at h hm ⊢
      simp only [List.length_cons,List.length_nil] at hm
      refine io_big all pre ((n / 128 % 128+128)::n % 128::rest) x4 (n / 16384+128) 0 m r (by simp only [List.length_cons];omega) (by omega) (by omega) ?_
      refine io_big all (pre++[n / 16384+128]) (n % 128::rest) x4 (n / 128 % 128+128) _ m r (by rw [p1];simp only [List.length_cons];omega) (by rw [p1];omega) (by omega) ?_
      refine io_small all (pre++[n / 16384+128]++[n / 128 % 128+128]) rest x4 (n % 128) _ m r (by rw [p2];omega) (by rw [p2];omega) h4 (by omega) ?_
      rw [joinO_eq 0 _ (by omega) (by omega),joinO_eq _ (n / 128 % 128+128) (by omega) (by omega),joinO_eq _ _ (by omega) (by omega),show (((0:Int)*128+(n / 16384+128) % 128)*128+(n / 128 % 128+128) % 128)*128+n % 128 % 128=n by omega]
      rw [show pre++[n / 16384+128,n / 128 % 128+128,n % 128]=pre++[n / 16384+128]++[n / 128 % 128+128]++[n % 128] by simp] at h
      exact h
theorem iGetOid_loop (all:List Int) (o:List Int):∀(pre x4:List Int) (m:Int),m=(pre.length:Int)+(o.flatMap group).length→oidNums o=true→pre.length+3*o.length≤40→x4.length+o.length≤10→
    Ev (fun k=>b6.l0 k all x4 0 (pre++o.flatMap group) m (pre.length:Int)) (gfin all (x4++o)):=by
  induction o with
  |nil=>
    intro pre x4 m hm _ hl h4
    simp only [List.flatMap_nil,List.length_nil] at hm
    simp only [List.length_nil] at h4
    have e:=io_fin all x4 (pre++[]) 0 m (pre.length:Int) (by omega) (by omega)
    simpa using e
  |cons n o ih=>
    intro pre x4 m hm ho hl h4
    obtain ⟨hn,ho⟩:=oidNums_cons n o ho
    have hg:=group_len n
    simp only [List.length_cons] at hl h4
    simp only [List.flatMap_cons,List.length_append] at hm ⊢
    refine io_fwd all n hn pre _ x4 m _ (by omega) (by omega) (by omega) ?_
    have e:=ih (pre++group n) (x4++[n]) m (by simp only [List.length_append];omega) ho (by simp only [List.length_append];omega) (by simp only [List.length_append,List.length_cons,List.length_nil];omega)
    simpa using e
theorem group_bytes (n:Int) (hn:0≤n∧n≤100000):∀y ∈ group n,0≤y∧y≤255:=by
  unfold group
  intro y hy
  split at hy
  · simp only [List.mem_cons,List.not_mem_nil,or_false] at hy;omega
  · split at hy
    · simp only [List.mem_cons,List.not_mem_nil,or_false] at hy;omega
    · simp only [List.mem_cons,List.not_mem_nil,or_false] at hy;omega
theorem putOid_bytes (o:List Int):∀y ∈ putOid o,0≤y∧y≤255:=by
  unfold putOid
  split
  · rename_i h
    intro y hy
    simp only [List.mem_flatMap] at hy
    obtain ⟨n,hn,hy⟩:=hy
    simp only [oidOk,Bool.and_eq_true,oidNums,List.all_eq_true,decide_eq_true_eq] at h
    exact group_bytes n (h.1 n hn) y hy
  · simp
/- what both make of the bytes -/
theorem getOid_both (l:List Int) (hw:bytes l) (hl:l.length≤1048576):∃R,Ev (fun k=>bG.f k l) R∧Ev (fun k=>b6.f k l) R∧R.1.length≤10:=by
  unfold bG.f b6.f
  by_cases h:∃o,oidOk o=true∧o.flatMap group=l
  · obtain ⟨o,ho,rfl⟩:=h
    have ho':=ho
    simp only [oidOk,Bool.and_eq_true,decide_eq_true_eq] at ho'
    refine ⟨(o,true),?_,?_,by show o.length≤10;omega⟩
    · have e:=sGetOid_yes o [] [] (by simpa using ho) (by simp only [List.length_nil];omega)
      simpa using e
    · have e:=iGetOid_loop (o.flatMap group) o [] [] ((o.flatMap group).length:Int) (by simp) ho'.1 (by simp only [List.length_nil];omega) (by simp only [List.length_nil];omega)
      have hg:gfin (o.flatMap group) o=(o,true):=by
        unfold gfin putOid
        rw [if_pos ho]
        have:1≤(o.flatMap group).length:=by
          cases o with
          |nil=>simp at ho'
          |cons n o=>
            have:=group_len n
            simp only [List.flatMap_cons,List.length_append]
            omega
        rw [if_neg (by omega),if_pos rfl]
      simp only [List.nil_append] at e
      rw [hg] at e
      exact e
  · have hno:∀o,oidOk o=true→o.flatMap group≠l:=fun o ho e=>h ⟨o,ho,e⟩
    refine ⟨([],false),?_,?_,by simp⟩
    · have e:=sGetOid_no l.length l [] (Nat.le_refl _) hw (by simpa using hl) (by simpa using hno)
      simpa using e
    · obtain ⟨x,e⟩:=iGetOid_any l l [] [] 0 (l.length:Int) (by simp) (by simp) (by simp)
      rcases e with e|e
      · have hg:gfin l x=([],false):=by
          unfold gfin
          split
          · rfl
          · rename_i h0
            rw [if_neg]
            intro hs
            have he:=strNums_inj _ _ (putOid_bytes x) hw hs
            unfold putOid at he h0
            by_cases hx:oidOk x=true
            · rw [if_pos hx] at he
              exact hno x hx he
            · rw [if_neg hx] at h0
              simp at h0
        rw [hg] at e
        simpa using e
      · simpa using e

def sameVal (a b:Int) (s:ByteArray) (l:List Int) (a' b':Int) (s':ByteArray) (l':List Int):Bool:=
  if a=a' then (if b=b' then (if s.toList=s'.toList then decide (l=l') else false) else false) else false

theorem iSameVal_ev (a b:Int) (s:ByteArray) (l:List Int) (a' b':Int) (s':ByteArray) (l':List Int) (h:l.length≤1099511627776):Ev (fun k=>dB.f k a b s l a' b' s' l') (sameVal a b s l a' b' s' l'):=by
  unfold dB.f sameVal
  refine Ev.ite (fun _=>?_) (fun _=>Ev.now _)
  refine Ev.ite (fun _=>?_) (fun _=>Ev.now _)
  refine Ev.ite (fun _=>?_) (fun _=>Ev.now _)
  refine Ev.bind (iSameOid_ev l l' h) ?_
  exact Ev.now _

def valNil (b:Int) (s:ByteArray) (l:List Int):Bool:=if b=0 then (if s.toList=([]:List UInt8) then ((l.length:Int)==0) else false) else false
def valOk (a b:Int) (s:ByteArray) (l:List Int):Bool:=
  if a=5∨a=128∨a=130 then valNil b s l
  else if a=2 then (if clip b=b then (if s.toList=([]:List UInt8) then ((l.length:Int)==0) else false) else false)
  else if a=4 then (if (s.size:Int)≤20 then (if b=0 then ((l.length:Int)==0) else false) else false)
  else if a=6 then (if oidOk l=true then (if b=0 then (s.toList==([]:List UInt8)) else false) else false)
  else false
theorem decEmpty (l:List Int):decide (l=[])=((l.length:Int)==0):=by
  cases l with
  |nil=>rfl
  |cons x l=>simp;omega
theorem emptyStr:(⟨#[]⟩:ByteArray).toList=([]:List UInt8):=by decide+kernel
theorem valNil_same (a b:Int) (s:ByteArray) (l:List Int):sameVal a b s l a 0 ⟨#[]⟩ []=valNil b s l:=by
  unfold sameVal valNil
  rw [if_pos rfl,emptyStr,decEmpty]

theorem sValOk_j (a b:Int) (s:ByteArray) (l:List Int) (q:Bool) (h:l.length≤1048576) (hq:q=true ↔ (a=5∨a=128∨a=130)):Ev (fun k=>bT.j0 k a q a b s l) (valOk a b s l):=by
  refine Ev.succ ?_
  simp only [bT.j0]
  unfold valOk valNil
  by_cases c:a=5∨a=128∨a=130
  · simp only [if_pos c,if_pos (hq.2 c)]
    refine Ev.ite (fun _=>?_) (fun _=>Ev.now _)
    refine Ev.ite (fun _=>Ev.now _) (fun _=>Ev.now _)
  · have hq':¬q=true:=fun e=>c (hq.1 e)
    simp only [if_neg c,if_neg hq',sClip_eq,Option.bind_some]
    refine Ev.ite (fun _=>?_) (fun _=>?_)
    · refine Ev.ite (fun _=>?_) (fun _=>Ev.now _)
      refine Ev.ite (fun _=>Ev.now _) (fun _=>Ev.now _)
    refine Ev.ite (fun _=>?_) (fun _=>?_)
    · refine Ev.ite (fun _=>?_) (fun _=>Ev.now _)
      refine Ev.ite (fun _=>Ev.now _) (fun _=>Ev.now _)
    refine Ev.ite (fun _=>?_) (fun _=>Ev.now _)
    refine Ev.bind (sOidOk_ev l (by omega)) ?_
    refine Ev.ite (fun _=>?_) (fun _=>Ev.now _)
    refine Ev.ite (fun _=>Ev.now _) (fun _=>Ev.now _)
theorem sValOk_ev (a b:Int) (s:ByteArray) (l:List Int) (h:l.length≤1048576):Ev (fun k=>bT.f k a b s l) (valOk a b s l):=by
  unfold bT.f
  by_cases c1:a=5
  · simp only [if_pos c1]
    exact sValOk_j a b s l _ h (by simp [c1])
  · simp only [if_neg c1]
    by_cases c2:a=128
    · simp only [if_pos c2]
      exact sValOk_j a b s l _ h (by simp [c2])
    · simp only [if_neg c2]
      exact sValOk_j a b s l _ h (by simp [c1,c2])

theorem iIsInt_eq (b:Int):eK.f b=some (decide (-2147483648≤b∧b≤2147483647)):=by
  unfold eK.f
  rw [in_eq]
  rfl
theorem clip_same (b:Int):decide (-2147483648≤b∧b≤2147483647)=decide (clip b=b):=by
  unfold clip
  refine decide_eq_decide.2 ⟨fun h=>?_,fun h=>?_⟩
  · rw [if_neg (by omega),if_neg (by omega)]
  · split at h
    · omega
    · split at h<;>omega
theorem iValOk_ev (a b:Int) (s:ByteArray) (l:List Int) (h:l.length≤1048576):Ev (fun k=>cA.f k a b s l) (valOk a b s l):=by
  unfold cA.f valOk
  by_cases c2:a=2
  · simp only [if_pos c2,if_neg (show ¬(a=5∨a=128∨a=130) by omega),iIsInt_eq,Option.bind_some,clip_same,decide_eq_true_eq]
    refine Ev.ite (fun _=>?_) (fun _=>Ev.now _)
    refine Ev.bind (iSameVal_ev a b s l a b _ _ (by omega)) ?_
    unfold sameVal
    rw [if_pos rfl,if_pos rfl,emptyStr,decEmpty]
    exact Ev.now _
  simp only [if_neg c2]
  by_cases c4:a=4
  · simp only [if_pos c4,if_neg (show ¬(a=5∨a=128∨a=130) by omega)]
    refine Ev.ite (fun _=>?_) (fun _=>Ev.now _)
    refine Ev.bind (iSameVal_ev a b s l a 0 s _ (by omega)) ?_
    unfold sameVal
    rw [if_pos rfl,if_pos rfl,decEmpty]
    exact Ev.now _
  simp only [if_neg c4]
  by_cases c6:a=6
  · simp only [if_pos c6,if_neg (show ¬(a=5∨a=128∨a=130) by omega)]
    refine Ev.bind (iOidOk_ev l (by omega)) ?_
    refine Ev.ite (fun _=>?_) (fun _=>Ev.now _)
    refine Ev.bind (iSameVal_ev a b s l a 0 _ l (by omega)) ?_
    unfold sameVal
    rw [if_pos rfl,emptyStr]
    have e:(if b=0 then (if s.toList=([]:List UInt8) then decide (l=l) else false) else false)=(if b=0 then (s.toList==([]:List UInt8)) else false):=by
      split
      · by_cases z:s.toList=([]:List UInt8)
        · simp [z]
        · rw [if_neg z]
          exact (beq_eq_false_iff_ne.2 z).symm
      · rfl
    rw [e]
    exact Ev.now _
  simp only [if_neg c6]
  by_cases c5:a=5
  · simp only [if_pos c5,if_pos (show (a=5∨a=128∨a=130) by omega)]
    refine Ev.bind (iSameVal_ev a b s l a 0 _ _ (by omega)) ?_
    rw [valNil_same]
    exact Ev.now _
  simp only [if_neg c5]
  by_cases c8:a=128
  · simp only [if_pos c8,if_pos (show (a=5∨a=128∨a=130) by omega)]
    refine Ev.bind (iSameVal_ev a b s l a 0 _ _ (by omega)) ?_
    rw [valNil_same]
    exact Ev.now _
  simp only [if_neg c8]
  by_cases c3:a=130
  · simp only [if_pos c3,if_pos (show (a=5∨a=128∨a=130) by omega)]
    refine Ev.bind (iSameVal_ev a b s l a 0 _ _ (by omega)) ?_
    rw [valNil_same]
    exact Ev.now _
  simp only [if_neg c3,if_neg (show ¬(a=5∨a=128∨a=130) by omega)]
  exact Ev.now _

def tlvOk (tag:Int) (body:List Int):Bool:=decide (0≤tag∧tag≤255) && decide ((body.length:Int)≤250)
def tlvBytes (tag:Int) (body:List Int):List Int:=[tag % 256]++((if (body.length:Int)>127 then [129] else [])++([(body.length:Int) % 256]++body))
def putTlv (b:List Int) (tag:Int) (body:List Int):List Int:=if tlvOk tag body=true then b++tlvBytes tag body else b
theorem tlvBytes_len (tag:Int) (body:List Int):(tlvBytes tag body).length≤body.length+3:=by
  unfold tlvBytes
  split<;>simp<;>omega
theorem iCopyBytes_eq (b:List Int) (hb:b.length≤1099511627776):cE.f b=some b:=by
  unfold cE.f
  rw [if_pos (by simp only [List.length_nil];omega)]
  simp
theorem iTlv_ev (tag:Int) (body:List Int) (hy:body.length≤1099511627776):Ev (fun k=>dH.f k tag body) (if tlvOk tag body=true then (tlvBytes tag body,true) else ([],false)):=by
  refine Ev.succ ?_
  refine Ev.some_const (fun k=>?_)
  simp only [dH.f,dH.j0,Option.bind_some,in_eq]
  unfold tlvOk tlvBytes
  by_cases h1:0≤tag∧tag≤255
  · simp only [decide_eq_true h1,if_true,Bool.true_and]
    by_cases h2:(body.length:Int)>250
    · simp only [decide_eq_true h2,if_true,decide_eq_false (show ¬(body.length:Int)≤250 by omega),Bool.false_eq_true,if_false]
    · simp only [decide_eq_false h2,Bool.false_eq_true,if_false,decide_eq_true (show (body.length:Int)≤250 by omega),if_true]
      by_cases h3:(body.length:Int)>127
      · rw [if_pos (show (body.length:Int)≥128 by omega),if_pos (by simp only [List.length_cons,List.length_nil];omega),if_pos (by simp only [List.length_append,List.length_cons,List.length_nil];omega),if_pos (by simp only [List.length_append,List.length_cons,List.length_nil];omega)]
        simp [h3]
      · rw [if_neg (show ¬(body.length:Int)≥128 by omega),if_pos (by simp only [List.length_cons,List.length_nil];omega),if_pos (by simp only [List.length_append,List.length_cons,List.length_nil];omega)]
        simp [h3]
  · simp only [decide_eq_false h1,Bool.false_and,Bool.false_eq_true,if_false,if_true]
theorem iPutTlv_ev (b:List Int) (tag:Int) (body:List Int) (hb:b.length≤1099511627776) (hy:body.length≤1099511627776):Ev (fun k=>cN.f k b tag body) (putTlv b tag body):=by
  unfold cN.f putTlv
  refine Ev.bind (iTlv_ev tag body hy) ?_
  simp only [iCopyBytes_eq b hb,Option.bind_some]
  by_cases h:tlvOk tag body=true
  · have hl:=tlvBytes_len tag body
    simp only [if_pos h]
    rw [if_pos (by omega)]
    exact Ev.now _
  · simp only [if_neg h,List.length_nil,List.append_nil]
    rw [if_pos (by omega)]
    exact Ev.now _

theorem tlvBytes_short (t:Int) (body:List Int) (ht:0≤t∧t≤255) (h:body.length≤127):tlvBytes t body=t::(body.length:Int)::body:=by
  unfold tlvBytes
  rw [if_neg (by omega),show t % 256=t by omega,show (body.length:Int) % 256=(body.length:Int) by omega]
  rfl
theorem tlvBytes_long (t:Int) (body:List Int) (ht:0≤t∧t≤255) (h:127<body.length) (h':body.length≤250):tlvBytes t body=t::129::(body.length:Int)::body:=by
  unfold tlvBytes
  rw [if_pos (by omega),show t % 256=t by omega,show (body.length:Int) % 256=(body.length:Int) by omega]
  rfl

def no4:Int × List Int × Int × Bool:=(0,[],0,false)
def tlvTail (b:List Int) (a x:Int):Int × List Int × Int × Bool:=
  if rd b x>250 then no4 else if rd b x>(b.length:Int) - (x+1) then no4 else (rd b a,(b.take (x+1+rd b x).toNat).drop (x+1).toNat,x+1+rd b x,true)
def getTlv (b:List Int) (a:Int):Int × List Int × Int × Bool:=
  if a<0∨a+1≥(b.length:Int) then no4
  else if rd b (a+1)>127 then (if rd b (a+1)=129 then (if a+2≥(b.length:Int) then no4 else if rd b (a+2)<128 then no4 else tlvTail b a (a+2)) else no4)
  else tlvTail b a (a+1)
theorem getTlv_len (b:List Int) (a:Int):(getTlv b a).2.1.length≤b.length:=by
  have ht:∀x,(tlvTail b a x).2.1.length≤b.length:=by
    intro x
    unfold tlvTail no4
    split
    · simp
    · split
      · simp
      · simp only [List.length_drop,List.length_take]
        omega
  have hz:(no4).2.1.length≤b.length:=by simp [no4]
  unfold getTlv
  split
  · exact hz
  · split
    · split
      · split
        · exact hz
        · split
          · exact hz
          · exact ht _
      · exact hz
    · exact ht _
theorem rd_bd (b:List Int) (hb:∀y ∈ b,0≤y∧y≤255) (x:Int):0≤rd b x∧rd b x≤255:=by
  unfold rd
  rw [List.getD_eq_getElem?_getD]
  cases h:b[x.toNat]? with
  |none=>simp
  |some v=>
    have:=hb v (List.mem_of_getElem? h)
    simpa using this
theorem cut_le (b:List Int) (p q:Nat):((b.take p).drop q).length≤b.length:=by
  simp only [List.length_drop,List.length_take]
  omega

theorem spec_GetTlv_j1_ev (b:List Int) (a x:Int) (hb:∀y ∈ b,0≤y∧y≤255) (hl:b.length≤1048576) (ha:0≤a∧a<(b.length:Int)) (hx:0≤x∧x<(b.length:Int)):Ev (fun k=>a7.j1 k b a x false) (tlvTail b a x):=by
  obtain ⟨n0,n1⟩:=rd_bd b hb x
  obtain ⟨m0,m1⟩:=rd_bd b hb a
  refine Ev.succ ?_
  simp only [a7.j1]
  simp only [Bool.false_eq_true,if_false,if_pos hx.1,if_pos hx.2,if_pos ha.1,if_pos ha.2,w64 (x:=rd b x) (by omega) (by omega),w64 (x:=rd b a) (by omega) (by omega),w64 (x:=x+1) (by omega) (by omega),w64 (x:=(b.length:Int) - (x+1)) (by omega) (by omega),w64 (x:=x+1+rd b x) (by omega) (by omega)]
  unfold tlvTail no4
  by_cases c1:rd b x>250
  · simp only [if_pos c1]
    exact Ev.now _
  by_cases c2:rd b x>(b.length:Int) - (x+1)
  · simp only [if_neg c1,if_pos c2]
    exact Ev.now _
  have hc:=cut_le b (x+1+rd b x).toNat (x+1).toNat
  simp only [if_neg c1,if_neg c2,if_pos (show 0≤x+1 by omega),if_pos (show x+1≤x+1+rd b x by omega),if_pos (show x+1+rd b x≤(b.length:Int) by omega),Option.bind_some,List.length_nil,List.nil_append,if_pos (show 0+((b.take (x+1+rd b x).toNat).drop (x+1).toNat).length<140737488355328 by omega)]
  exact Ev.now _
theorem spec_GetTlv_j1_no (b:List Int) (a x:Int):Ev (fun k=>a7.j1 k b a x true) no4:=by
  refine Ev.succ ?_
  simp only [a7.j1]
  simp only [if_true]
  exact Ev.now _
theorem spec_GetTlv_j0_no (b:List Int) (a:Int):Ev (fun k=>a7.j0 k b a true) no4:=by
  refine Ev.succ ?_
  simp only [a7.j0]
  simp only [if_true]
  exact Ev.now _
theorem spec_GetTlv_j0_ev (b:List Int) (a:Int) (hb:∀y ∈ b,0≤y∧y≤255) (hl:b.length≤1048576) (ha:¬(a<0∨a+1≥(b.length:Int))):Ev (fun k=>a7.j0 k b a false) (getTlv b a):=by
  obtain ⟨n0,n1⟩:=rd_bd b hb (a+1)
  obtain ⟨m0,m1⟩:=rd_bd b hb a
  refine Ev.succ ?_
  simp only [a7.j0]
  simp only [Bool.false_eq_true,if_false,w64 (x:=a+1) (by omega) (by omega),w64 (x:=a+2) (by omega) (by omega),if_pos (show 0≤a+1 by omega),if_pos (show a+1<(b.length:Int) by omega),w64 (x:=rd b (a+1)) (by omega) (by omega)]
  unfold getTlv
  simp only [if_neg ha]
  by_cases c:rd b (a+1)>127
  · simp only [if_pos c,if_pos (show rd b (a+1)>127 by omega)]
    refine Ev.ite (fun _=>?_) (fun _=>spec_GetTlv_j1_no _ _ _)
    refine Ev.ite (fun _=>spec_GetTlv_j1_no _ _ _) (fun d=>?_)
    simp only [if_pos (show 0≤a+2 by omega),if_pos (show a+2<(b.length:Int) by omega)]
    by_cases e:rd b (a+2)<128
    · rw [decide_eq_true e,if_pos e]
      exact spec_GetTlv_j1_no _ _ _
    · rw [decide_eq_false e,if_neg e]
      exact spec_GetTlv_j1_ev b a (a+2) hb hl (by omega) (by omega)
  · simp only [if_neg c,if_neg (show ¬rd b (a+1)>127 by omega)]
    unfold tlvTail no4
    simp only [show a+1+1=a+2 by omega,w64 (x:=(b.length:Int) - (a+2)) (by omega) (by omega),w64 (x:=a+2+rd b (a+1)) (by omega) (by omega),w64 (x:=rd b a) (by omega) (by omega),if_pos (show 0≤a by omega),if_pos (show a<(b.length:Int) by omega)]
    by_cases c1:rd b (a+1)>250
    · simp only [if_pos c1]
      exact Ev.now _
    by_cases c2:rd b (a+1)>(b.length:Int) - (a+2)
    · simp only [if_neg c1,if_pos c2]
      exact Ev.now _
    have hc:=cut_le b (a+2+rd b (a+1)).toNat (a+2).toNat
    simp only [if_neg c1,if_neg c2,if_pos (show 0≤a+2 by omega),if_pos (show a+2≤a+2+rd b (a+1) by omega),if_pos (show a+2+rd b (a+1)≤(b.length:Int) by omega),Option.bind_some,List.length_nil,List.nil_append,if_pos (show 0+((b.take (a+2+rd b (a+1)).toNat).drop (a+2).toNat).length<140737488355328 by omega)]
    exact Ev.now _
theorem sGetTlv_ev (b:List Int) (a:Int) (hb:∀y ∈ b,0≤y∧y≤255) (hl:b.length≤1048576) (hw:-9223372036854775808≤a∧a≤9223372036854775807):Ev (fun k=>a7.f k b a) (getTlv b a):=by
  unfold a7.f
  by_cases c:a<0∨a+1≥(b.length:Int)
  · have e:getTlv b a=no4:=by unfold getTlv;rw [if_pos c]
    rw [e]
    by_cases c1:a<0
    · simp only [if_pos c1]
      exact spec_GetTlv_j0_no _ _
    · by_cases c2:a≥(b.length:Int)
      · simp only [if_neg c1,if_pos c2]
        exact spec_GetTlv_j0_no _ _
      · simp only [if_neg c1,if_neg c2,w64 (x:=a+1) (by omega) (by omega),decide_eq_true (show a+1≥(b.length:Int) by omega)]
        exact spec_GetTlv_j0_no _ _
  · simp only [if_neg (show ¬a<0 by omega),if_neg (show ¬a≥(b.length:Int) by omega),w64 (x:=a+1) (by omega) (by omega),decide_eq_false (show ¬a+1≥(b.length:Int) by omega)]
    exact spec_GetTlv_j0_ev b a hb hl c

theorem impl_GetTlv_j1_ev (b:List Int) (a x:Int) (hb:∀y ∈ b,0≤y∧y≤255) (hl:b.length≤1048576) (ha:0≤a∧a<(b.length:Int)) (hx:0≤x∧x<(b.length:Int)):Ev (fun k=>a6.j1 k b a x false) (tlvTail b a x):=by
  obtain ⟨n0,n1⟩:=rd_bd b hb x
  obtain ⟨m0,m1⟩:=rd_bd b hb a
  refine Ev.succ ?_
  simp only [a6.j1]
  simp only [Bool.false_eq_true,if_false,if_pos hx.1,if_pos hx.2,if_pos ha.1,if_pos ha.2,w64 (x:=rd b x) (by omega) (by omega),w64 (x:=rd b a) (by omega) (by omega),w64 (x:=x+1) (by omega) (by omega),w64 (x:=(b.length:Int) - (x+1)) (by omega) (by omega),w64 (x:=x+1+rd b x) (by omega) (by omega)]
  unfold tlvTail no4
  by_cases c1:rd b x>250
  · simp only [if_pos c1]
    exact Ev.now _
  by_cases c2:rd b x>(b.length:Int) - (x+1)
  · simp only [if_neg c1,if_pos c2]
    exact Ev.now _
  have hc:=cut_le b (x+1+rd b x).toNat (x+1).toNat
  simp only [if_neg c1,if_neg c2,if_pos (show 0≤x+1 by omega),if_pos (show x+1≤x+1+rd b x by omega),if_pos (show x+1+rd b x≤(b.length:Int) by omega),cE.f,Option.bind_some,List.length_nil,List.nil_append,if_pos (show 0+((b.take (x+1+rd b x).toNat).drop (x+1).toNat).length<140737488355328 by omega)]
  exact Ev.now _
theorem impl_GetTlv_j1_no (b:List Int) (a x:Int):Ev (fun k=>a6.j1 k b a x true) no4:=by
  refine Ev.succ ?_
  simp only [a6.j1]
  simp only [if_true]
  exact Ev.now _
theorem impl_GetTlv_j0_no (b:List Int) (a:Int):Ev (fun k=>a6.j0 k b a true) no4:=by
  refine Ev.succ ?_
  simp only [a6.j0]
  simp only [if_true]
  exact Ev.now _
theorem impl_GetTlv_j0_ev (b:List Int) (a:Int) (hb:∀y ∈ b,0≤y∧y≤255) (hl:b.length≤1048576) (ha:¬(a<0∨a+1≥(b.length:Int))):Ev (fun k=>a6.j0 k b a false) (getTlv b a):=by
  obtain ⟨n0,n1⟩:=rd_bd b hb (a+1)
  obtain ⟨m0,m1⟩:=rd_bd b hb a
  refine Ev.succ ?_
  simp only [a6.j0]
  simp only [Bool.false_eq_true,if_false,w64 (x:=a+1) (by omega) (by omega),w64 (x:=a+2) (by omega) (by omega),if_pos (show 0≤a+1 by omega),if_pos (show a+1<(b.length:Int) by omega),w64 (x:=rd b (a+1)) (by omega) (by omega)]
  unfold getTlv
  simp only [if_neg ha]
  by_cases c:rd b (a+1)>127
  · simp only [if_pos c,if_pos (show rd b (a+1)≥128 by omega)]
    refine Ev.ite (fun _=>?_) (fun _=>impl_GetTlv_j1_no _ _ _)
    refine Ev.ite (fun _=>impl_GetTlv_j1_no _ _ _) (fun d=>?_)
    simp only [if_pos (show 0≤a+2 by omega),if_pos (show a+2<(b.length:Int) by omega)]
    by_cases e:rd b (a+2)<128
    · rw [decide_eq_true e,if_pos e]
      exact impl_GetTlv_j1_no _ _ _
    · rw [decide_eq_false e,if_neg e]
      exact impl_GetTlv_j1_ev b a (a+2) hb hl (by omega) (by omega)
  · simp only [if_neg c,if_neg (show ¬rd b (a+1)≥128 by omega)]
    unfold tlvTail no4
    simp only [show a+1+1=a+2 by omega,w64 (x:=(b.length:Int) - (a+2)) (by omega) (by omega),w64 (x:=a+2+rd b (a+1)) (by omega) (by omega),w64 (x:=rd b a) (by omega) (by omega),if_pos (show 0≤a by omega),if_pos (show a<(b.length:Int) by omega)]
    by_cases c1:rd b (a+1)>250
    · simp only [if_pos c1]
      exact Ev.now _
    by_cases c2:rd b (a+1)>(b.length:Int) - (a+2)
    · simp only [if_neg c1,if_pos c2]
      exact Ev.now _
    have hc:=cut_le b (a+2+rd b (a+1)).toNat (a+2).toNat
    simp only [if_neg c1,if_neg c2,if_pos (show 0≤a+2 by omega),if_pos (show a+2≤a+2+rd b (a+1) by omega),if_pos (show a+2+rd b (a+1)≤(b.length:Int) by omega),cE.f,Option.bind_some,List.length_nil,List.nil_append,if_pos (show 0+((b.take (a+2+rd b (a+1)).toNat).drop (a+2).toNat).length<140737488355328 by omega)]
    exact Ev.now _
theorem iGetTlv_ev (b:List Int) (a:Int) (hb:∀y ∈ b,0≤y∧y≤255) (hl:b.length≤1048576) (hw:-9223372036854775808≤a∧a≤9223372036854775807):Ev (fun k=>a6.f k b a) (getTlv b a):=by
  unfold a6.f
  by_cases c:a<0∨a+1≥(b.length:Int)
  · have e:getTlv b a=no4:=by unfold getTlv;rw [if_pos c]
    rw [e]
    by_cases c1:a<0
    · simp only [if_pos c1]
      exact impl_GetTlv_j0_no _ _
    · simp only [if_neg c1,w64 (x:=(b.length:Int) - 2) (by omega) (by omega),decide_eq_true (show a>(b.length:Int) - 2 by omega)]
      exact impl_GetTlv_j0_no _ _
  · simp only [if_neg (show ¬a<0 by omega),w64 (x:=(b.length:Int) - 2) (by omega) (by omega),decide_eq_false (show ¬a>(b.length:Int) - 2 by omega)]
    exact impl_GetTlv_j0_ev b a hb hl c

theorem cut_cons (b:List Int) (P i:Nat) (hP:P≤b.length) (hi:i<P):(b.take P).drop i=rd b (i:Int)::(b.take P).drop (i+1):=by
  have hl:i<(b.take P).length:=by rw [List.length_take];omega
  rw [List.drop_eq_getElem_cons hl]
  congr 1
  unfold rd
  rw [List.getElem_take,List.getD_eq_getElem?_getD,Int.toNat_natCast,List.getElem?_eq_getElem (by omega)]
  rfl
theorem tail_true (b:List Int) (a x t p:Int) (y:List Int) (h:tlvTail b a x=(t,y,p,true)):rd b x≤250∧x+1+rd b x≤(b.length:Int)∧t=rd b a∧y=(b.take (x+1+rd b x).toNat).drop (x+1).toNat∧p=x+1+rd b x:=by
  unfold tlvTail no4 at h
  by_cases c1:rd b x>250
  · rw [if_pos c1] at h
    simp at h
  by_cases c2:rd b x>(b.length:Int) - (x+1)
  · rw [if_neg c1,if_pos c2] at h
    simp at h
  rw [if_neg c1,if_neg c2] at h
  simp only [Prod.mk.injEq,and_true] at h
  exact ⟨by omega,by omega,h.1.symm,h.2.1.symm,h.2.2.symm⟩
theorem getTlv_true (b:List Int) (hb:bys b) (a t p:Int) (y:List Int) (h:getTlv b a=(t,y,p,true)):(0≤a∧a≤p∧p≤(b.length:Int))∧y.length≤250∧(b.take p.toNat).drop a.toNat=putTlv [] t y:=by
  unfold getTlv at h
  by_cases c:a<0∨a+1≥(b.length:Int)
  · rw [if_pos c] at h
    simp [no4] at h
  rw [if_neg c] at h
  obtain ⟨A,rfl⟩:=Int.eq_ofNat_of_zero_le (show 0≤a by omega)
  obtain ⟨m0,m1⟩:=rd_bd b hb (A:Int)
  by_cases c1:rd b ((A:Int)+1)>127
  · rw [if_pos c1] at h
    by_cases c2:rd b ((A:Int)+1)=129
    · rw [if_pos c2] at h
      by_cases c3:(A:Int)+2≥(b.length:Int)
      · rw [if_pos c3] at h
        simp [no4] at h
      rw [if_neg c3] at h
      by_cases c4:rd b ((A:Int)+2)<128
      · rw [if_pos c4] at h
        simp [no4] at h
      rw [if_neg c4] at h
      obtain ⟨h1,h2,rfl,rfl,rfl⟩:=tail_true b _ _ _ _ _ h
      obtain ⟨n,hn⟩:=Int.eq_ofNat_of_zero_le (show 0≤rd b ((A:Int)+2) by omega)
      rw [hn] at h1 h2 c4 ⊢
      have e1:((A:Int)+2+1+(n:Int)).toNat=A+3+n:=by omega
      have e2:((A:Int)+2+1).toNat=A+3:=by omega
      rw [e1,e2,Int.toNat_natCast]
      have hlen:((b.take (A+3+n)).drop (A+3)).length=n:=by simp only [List.length_drop,List.length_take];omega
      refine ⟨by omega,by omega,?_⟩
      rw [cut_cons b _ A (by omega) (by omega),cut_cons b _ (A+1) (by omega) (by omega),cut_cons b _ (A+1+1) (by omega) (by omega)]
      unfold putTlv tlvOk
      rw [decide_eq_true (show 0≤rd b (A:Int)∧rd b (A:Int)≤255 from ⟨m0,m1⟩),decide_eq_true (show (((b.take (A+3+n)).drop (A+3)).length:Int)≤250 by omega)]
      simp only [Bool.and_self,if_true,List.nil_append]
      rw [tlvBytes_long _ _ ⟨m0,m1⟩ (by omega) (by omega),hlen,show ((A+1:Nat):Int)=(A:Int)+1 by omega,show ((A+1+1:Nat):Int)=(A:Int)+2 by omega,c2,hn]
    · rw [if_neg c2] at h
      simp [no4] at h
  · rw [if_neg c1] at h
    obtain ⟨h1,h2,rfl,rfl,rfl⟩:=tail_true b _ _ _ _ _ h
    obtain ⟨n,hn⟩:=Int.eq_ofNat_of_zero_le (rd_bd b hb ((A:Int)+1)).1
    rw [hn] at h1 h2 c1 ⊢
    have e1:((A:Int)+1+1+(n:Int)).toNat=A+2+n:=by omega
    have e2:((A:Int)+1+1).toNat=A+2:=by omega
    rw [e1,e2,Int.toNat_natCast]
    have hlen:((b.take (A+2+n)).drop (A+2)).length=n:=by simp only [List.length_drop,List.length_take];omega
    refine ⟨by omega,by omega,?_⟩
    rw [cut_cons b _ A (by omega) (by omega),cut_cons b _ (A+1) (by omega) (by omega)]
    unfold putTlv tlvOk
    rw [decide_eq_true (show 0≤rd b (A:Int)∧rd b (A:Int)≤255 from ⟨m0,m1⟩),decide_eq_true (show (((b.take (A+2+n)).drop (A+2)).length:Int)≤250 by omega)]
    simp only [Bool.and_self,if_true,List.nil_append]
    rw [tlvBytes_short _ _ ⟨m0,m1⟩ (by omega),hlen,show ((A+1:Nat):Int)=(A:Int)+1 by omega,hn]

theorem joinI_eq (n x:Int) (hn:-2147483648≤n∧n≤2147483647) (hx:0≤x∧x≤255):joinI n x=n*256+x:=by
  unfold joinI
  rw [w64 (x:=n*256) (by omega) (by omega),w64 (x:=x) (by omega) (by omega)]
  simp only [Go.bits,BitVec.toNat_or,BitVec.toNat_ofInt]
  have hk:(2:Int) ^ IntKind.i64.bits=18446744073709551616:=by decide
  have hk':((2 ^ IntKind.i64.bits:Nat):Int)=18446744073709551616:=by decide
  simp only [hk']
  have h2:(x % 18446744073709551616).toNat<2 ^ 8:=by omega
  have h3:((n*256) % 18446744073709551616).toNat=2 ^ 8*(((n*256) % 18446744073709551616).toNat / 2 ^ 8):=by omega
  rw [h3,← Nat.two_pow_add_eq_or_of_lt h2,← h3,IntKind.wrap_i64]
  omega
def top (b:Int):Int:=if b>127 then b - 256 else b
theorem top_bd (b:Int) (h:0≤b∧b≤255):-128≤top b∧top b≤127∧top b % 256=b:=by
  unfold top
  split<;>omega
theorem clip_in (n:Int) (h:-2147483648≤n∧n≤2147483647):clip n=n:=by
  unfold clip
  rw [if_neg (by omega),if_neg (by omega)]
theorem putInt_1 (n:Int) (h:-128≤n∧n≤127):putInt n=[n % 256]:=by unfold putInt;rw [if_pos h]
theorem putInt_2 (n:Int) (h0:¬(-128≤n∧n≤127)) (h:-32768≤n∧n≤32767):putInt n=[n / 256 % 256,n % 256]:=by unfold putInt;rw [if_neg h0,if_pos h]
theorem putInt_3 (n:Int) (h0:¬(-32768≤n∧n≤32767)) (h:-8388608≤n∧n≤8388607):putInt n=[n / 65536 % 256,n / 256 % 256,n % 256]:=by unfold putInt;rw [if_neg (by omega),if_neg h0,if_pos h]
theorem putInt_4 (n:Int) (h0:¬(-8388608≤n∧n≤8388607)):putInt n=[n / 16777216 % 256,n / 65536 % 256,n / 256 % 256,n % 256]:=by unfold putInt;rw [if_neg (by omega),if_neg (by omega),if_neg h0]
theorem raw1 (a:Int):rawInt [a]=top a:=rfl
theorem raw2 (a b:Int) (ha:0≤a∧a≤255) (hb:0≤b∧b≤255):rawInt [a,b]=top a*256+b:=by
  have h:=top_bd a ha
  show joinI (top a) b=_
  rw [joinI_eq _ _ (by omega) hb]
theorem raw3 (a b c:Int) (ha:0≤a∧a≤255) (hb:0≤b∧b≤255) (hc:0≤c∧c≤255):rawInt [a,b,c]=(top a*256+b)*256+c:=by
  have h:=top_bd a ha
  show joinI (joinI (top a) b) c=_
  rw [joinI_eq (top a) b (by omega) hb,joinI_eq _ _ (by omega) hc]
theorem raw4 (a b c d:Int) (ha:0≤a∧a≤255) (hb:0≤b∧b≤255) (hc:0≤c∧c≤255) (hd:0≤d∧d≤255):rawInt [a,b,c,d]=((top a*256+b)*256+c)*256+d:=by
  have h:=top_bd a ha
  show joinI (joinI (joinI (top a) b) c) d=_
  rw [joinI_eq (top a) b (by omega) hb,joinI_eq _ c (by omega) hc,joinI_eq _ _ (by omega) hd]
theorem put_raw (l:List Int) (hb:bys l) (h1:1≤l.length) (h4:l.length≤4) (he:(putInt (clip (rawInt l))).length=l.length):putInt (clip (rawInt l))=l:=by
  rcases l with _|⟨a,_|⟨b,_|⟨c,_|⟨d,_|⟨e,l⟩⟩⟩⟩⟩
  · simp at h1
  · have ha:=hb a (by simp)
    have t:=top_bd a ha
    rw [raw1,clip_in _ (by omega),putInt_1 _ (by omega),t.2.2]
  · have ha:=hb a (by simp)
    have hb':=hb b (by simp)
    have t:=top_bd a ha
    rw [raw2 a b ha hb',clip_in _ (by omega)] at he ⊢
    by_cases c1:-128≤top a*256+b∧top a*256+b≤127
    · rw [putInt_1 _ c1] at he
      simp at he
    · rw [putInt_2 _ c1 (by omega),show (top a*256+b) / 256 % 256=a by omega,show (top a*256+b) % 256=b by omega]
  · have ha:=hb a (by simp)
    have hb':=hb b (by simp)
    have hc:=hb c (by simp)
    have t:=top_bd a ha
    rw [raw3 a b c ha hb' hc,clip_in _ (by omega)] at he ⊢
    by_cases c1:-128≤(top a*256+b)*256+c∧(top a*256+b)*256+c≤127
    · rw [putInt_1 _ c1] at he
      simp at he
    by_cases c2:-32768≤(top a*256+b)*256+c∧(top a*256+b)*256+c≤32767
    · rw [putInt_2 _ c1 c2] at he
      simp at he
    · rw [putInt_3 _ c2 (by omega),show ((top a*256+b)*256+c) / 65536 % 256=a by omega,show ((top a*256+b)*256+c) / 256 % 256=b by omega,show ((top a*256+b)*256+c) % 256=c by omega]
  · have ha:=hb a (by simp)
    have hb':=hb b (by simp)
    have hc:=hb c (by simp)
    have hd:=hb d (by simp)
    have t:=top_bd a ha
    rw [raw4 a b c d ha hb' hc hd,clip_in _ (by omega)] at he ⊢
    by_cases c1:-128≤((top a*256+b)*256+c)*256+d∧((top a*256+b)*256+c)*256+d≤127
    · rw [putInt_1 _ c1] at he
      simp at he
    by_cases c2:-32768≤((top a*256+b)*256+c)*256+d∧((top a*256+b)*256+c)*256+d≤32767
    · rw [putInt_2 _ c1 c2] at he
      simp at he
    by_cases c3:-8388608≤((top a*256+b)*256+c)*256+d∧((top a*256+b)*256+c)*256+d≤8388607
    · rw [putInt_3 _ c2 c3] at he
      simp at he
    · rw [putInt_4 _ c3,show (((top a*256+b)*256+c)*256+d) / 16777216 % 256=a by omega,show (((top a*256+b)*256+c)*256+d) / 65536 % 256=b by omega,show (((top a*256+b)*256+c)*256+d) / 256 % 256=c by omega,show (((top a*256+b)*256+c)*256+d) % 256=d by omega]
  · simp at h4
theorem getInt_ok (l:List Int) (hb:bys l) (h:(getInt l).2=true):putInt (clip (getInt l).1)=l:=by
  unfold getInt at h ⊢
  by_cases c:1≤(l.length:Int)∧(l.length:Int)≤4
  · rw [if_pos c] at h ⊢
    by_cases d:((putInt (clip (rawInt l))).length:Int)=(l.length:Int)
    · rw [if_pos d]
      exact put_raw l hb (by omega) (by omega) (by omega)
    · rw [if_neg d] at h
      simp at h
  · rw [if_neg c] at h
    simp at h

theorem tlvTail_or (b:List Int) (a x:Int) (hb:∀y ∈ b,0≤y∧y≤255):tlvTail b a x=no4∨((tlvTail b a x).2.2.2=true∧∀y ∈ (tlvTail b a x).2.1,0≤y∧y≤255):=by
  unfold tlvTail
  split
  · exact Or.inl rfl
  · split
    · exact Or.inl rfl
    · exact Or.inr ⟨rfl,fun y hy=>hb y (List.mem_of_mem_take (List.mem_of_mem_drop hy))⟩
theorem getTlv_or (b:List Int) (a:Int) (hb:∀y ∈ b,0≤y∧y≤255):getTlv b a=no4∨((getTlv b a).2.2.2=true∧∀y ∈ (getTlv b a).2.1,0≤y∧y≤255):=by
  unfold getTlv
  split
  · exact Or.inl rfl
  · split
    · split
      · split
        · exact Or.inl rfl
        · split
          · exact Or.inl rfl
          · exact tlvTail_or b a _ hb
      · exact Or.inl rfl
    · exact tlvTail_or b a _ hb
def noVal:Int × Int × ByteArray × List Int × Int × Bool:=(0,0,⟨#[]⟩,[],0,false)
theorem sVal_ev (t n:Int) (s:ByteArray) (o:List Int) (p:Int) (h:o.length≤1048576):Ev (fun k=>(bT.f k t n s o).bind fun v=>if v=true then some (t,n,s,o,p,true) else some (0,0,(⟨#[]⟩:ByteArray),([]:List Int),0,false)) (if valOk t n s o=true then (t,n,s,o,p,true) else noVal):=by
  refine Ev.bind (sValOk_ev t n s o h) ?_
  exact Ev.ite (fun _=>Ev.now _) (fun _=>Ev.now _)
theorem iVal_ev (t n:Int) (s:ByteArray) (o:List Int) (p:Int) (h:o.length≤1048576):Ev (fun k=>(cA.f k t n s o).bind fun v=>if v=true then some (t,n,s,o,p,true) else some (0,0,(⟨#[]⟩:ByteArray),([]:List Int),0,false)) (if valOk t n s o=true then (t,n,s,o,p,true) else noVal):=by
  refine Ev.bind (iValOk_ev t n s o h) ?_
  exact Ev.ite (fun _=>Ev.now _) (fun _=>Ev.now _)
theorem val_len (t n:Int) (s:ByteArray) (o:List Int) (p:Int) (h:o.length≤10):(if valOk t n s o=true then (t,n,s,o,p,true) else noVal).2.2.2.1.length≤10:=by
  split
  · exact h
  · simp [noVal]
theorem getVal_both (l:List Int) (a:Int) (hb:∀y ∈ l,0≤y∧y≤255) (hl:l.length≤1048576) (ha:-9223372036854775808≤a∧a≤9223372036854775807):
    ∃R,Ev (fun k=>eN.f k l a) R∧Ev (fun k=>eL.f k l a) R∧R.2.2.2.1.length≤10:=by
  have hs:=sGetTlv_ev l a hb hl ha
  have hi:=iGetTlv_ev l a hb hl ha
  have hy:=getTlv_len l a
  have hor:=getTlv_or l a hb
  generalize getTlv l a=T at hs hi hy hor
  obtain ⟨t,y,p,q⟩:=T
  have hy:y.length≤l.length:=hy
  unfold eN.f eL.f
  rcases hor with hor|⟨hq,hby⟩
  · unfold no4 at hor
    simp only [Prod.mk.injEq] at hor
    obtain ⟨rfl,rfl,rfl,rfl⟩:=hor
    refine ⟨noVal,Ev.bind hs ?_,Ev.bind hi ?_,by simp [noVal]⟩
    · simp only [if_neg (show ¬(0:Int)=2 by omega),if_neg (show ¬(0:Int)=4 by omega),if_neg (show ¬(0:Int)=6 by omega),Bool.false_eq_true,if_false]
      exact Ev.now _
    · simp only [Bool.false_eq_true,if_false]
      exact Ev.now _
  · have hq:q=true:=hq
    have hby:∀z ∈ y,0≤z∧z≤255:=hby
    subst hq
    by_cases c2:t=2
    · have gs:=sGetInt_ev y hby (by omega)
      have gi:=iGetInt_ev y hby (by omega)
      generalize getInt y=G at gs gi
      obtain ⟨n,g⟩:=G
      cases g with
      |true=>
        refine ⟨_,Ev.bind hs ?_,Ev.bind hi ?_,val_len t n ⟨#[]⟩ [] p (by simp)⟩
        · simp only [if_pos c2,if_true]
          refine Ev.bind gs ?_
          simp only [if_true]
          exact sVal_ev t n _ [] p (by simp)
        · simp only [if_pos c2,if_true]
          refine Ev.bind gi ?_
          simp only [if_true]
          exact iVal_ev t n _ [] p (by simp)
      |false=>
        refine ⟨noVal,Ev.bind hs ?_,Ev.bind hi ?_,by simp [noVal]⟩
        · simp only [if_pos c2,if_true]
          refine Ev.bind gs ?_
          simp only [Bool.false_eq_true,if_false]
          exact Ev.now _
        · simp only [if_pos c2,if_true]
          refine Ev.bind gi ?_
          simp only [Bool.false_eq_true,if_false]
          exact Ev.now _
    by_cases c4:t=4
    · refine ⟨_,Ev.bind hs ?_,Ev.bind hi ?_,val_len t 0 (strOfNums y) [] p (by simp)⟩
      · simp only [if_neg c2,if_pos c4,if_true]
        exact sVal_ev t 0 _ [] p (by simp)
      · simp only [if_neg c2,if_pos c4,if_true]
        exact iVal_ev t 0 _ [] p (by simp)
    by_cases c6:t=6
    · obtain ⟨G,gs,gi,hg⟩:=getOid_both y hby (by omega)
      obtain ⟨o,g⟩:=G
      have hg:o.length≤10:=hg
      cases g with
      |true=>
        refine ⟨_,Ev.bind hs ?_,Ev.bind hi ?_,val_len t 0 ⟨#[]⟩ o p hg⟩
        · simp only [if_neg c2,if_neg c4,if_pos c6,if_true]
          refine Ev.bind gs ?_
          simp only [if_true]
          exact sVal_ev t 0 _ o p (by omega)
        · simp only [if_neg c2,if_neg c4,if_pos c6,if_true]
          refine Ev.bind gi ?_
          simp only [if_true]
          exact iVal_ev t 0 _ o p (by omega)
      |false=>
        refine ⟨noVal,Ev.bind hs ?_,Ev.bind hi ?_,by simp [noVal]⟩
        · simp only [if_neg c2,if_neg c4,if_pos c6,if_true]
          refine Ev.bind gs ?_
          simp only [Bool.false_eq_true,if_false]
          exact Ev.now _
        · simp only [if_neg c2,if_neg c4,if_pos c6,if_true]
          refine Ev.bind gi ?_
          simp only [Bool.false_eq_true,if_false]
          exact Ev.now _
    by_cases c0:(y.length:Int)=0
    · refine ⟨_,Ev.bind hs ?_,Ev.bind hi ?_,val_len t 0 ⟨#[]⟩ [] p (by simp)⟩
      · simp only [if_neg c2,if_neg c4,if_neg c6,if_true,if_pos c0]
        exact sVal_ev t 0 _ [] p (by simp)
      · simp only [if_neg c2,if_neg c4,if_neg c6,if_true,if_pos c0]
        exact iVal_ev t 0 _ [] p (by simp)
    · refine ⟨noVal,Ev.bind hs ?_,Ev.bind hi ?_,by simp [noVal]⟩
      · simp only [if_neg c2,if_neg c4,if_neg c6,if_true,if_neg c0]
        exact Ev.now _
      · simp only [if_neg c2,if_neg c4,if_neg c6,if_true,if_neg c0]
        exact Ev.now _

def putBody (t n:Int) (s:ByteArray) (o:List Int):List Int:=if t=2 then putInt (clip n) else if t=4 then fI s else if t=6 then putOid o else []
def putVal (l:List Int) (t n:Int) (s:ByteArray) (o:List Int):List Int:=if valOk t n s o=true then putTlv l t (putBody t n s o) else l
theorem valOk_text (n:Int) (s:ByteArray) (o:List Int) (h:valOk 4 n s o=true):(s.size:Int)≤20:=by
  unfold valOk at h
  rw [if_neg (by omega),if_neg (by omega),if_pos rfl] at h
  by_cases c:(s.size:Int)≤20
  · exact c
  · rw [if_neg c] at h
    simp at h

theorem iPutVal_ev (l:List Int) (t n:Int) (s:ByteArray) (o:List Int) (hl:l.length≤1048576) (ho:o.length≤1048576):Ev (fun k=>eW.f k l t n s o) (putVal l t n s o):=by
  unfold eW.f putVal
  refine Ev.bind (iValOk_ev t n s o ho) ?_
  refine Ev.ite (fun hv=>?_) (fun _=>?_)
  · unfold putBody
    by_cases c2:t=2
    · simp only [if_pos c2]
      refine Ev.bind (iPutInt_ev n) (Ev.bind (iPutTlv_ev l t _ (by omega) (by have:=putInt_len (clip n);omega)) (Ev.now _))
    by_cases c4:t=4
    · subst c4
      have hs:=valOk_text n s o hv
      simp only [if_neg c2,if_true,if_pos (show (s.size:Int)<140737488355328 by omega)]
      refine Ev.bind (iPutTlv_ev l 4 _ (by omega) (by rw [fM];omega)) (Ev.now _)
    by_cases c6:t=6
    · simp only [if_neg c2,if_neg c4,if_pos c6]
      refine Ev.bind (iPutOid_ev o ho) (Ev.bind (iPutTlv_ev l t _ (by omega) (by have:=putOid_len o;omega)) (Ev.now _))
    · simp only [if_neg c2,if_neg c4,if_neg c6]
      exact Ev.bind (iPutTlv_ev l t [] (by omega) (by simp)) (Ev.now _)
  · rw [iCopyBytes_eq l (by omega)]
    exact Ev.now _

theorem getOid_back (o:List Int) (ho:oidOk o=true):Ev (fun k=>b6.f k (putOid o)) (o,true)∧∀y,y ∈ putOid o→0≤y∧y≤255:=by
  refine ⟨?_,putOid_bytes o⟩
  have hl:=putOid_len o
  obtain ⟨R,hs,hi,_⟩:=getOid_both (putOid o) (putOid_bytes o) (by omega)
  have ho':=ho
  simp only [oidOk,Bool.and_eq_true,decide_eq_true_eq] at ho'
  have e:=sGetOid_yes o [] [] (by simpa using ho) (by simp only [List.length_nil];omega)
  have hp:putOid o=o.flatMap group:=by unfold putOid;rw [if_pos ho]
  have e2:Ev (fun k=>bG.f k (putOid o)) (o,true):=by
    unfold bG.f
    rw [hp]
    simpa using e
  rw [← Ev.uniq hs e2]
  exact hi
theorem getOid_read (l:List Int) (hw:bytes l) (hl:l.length≤1048576) (R:List Int × Bool) (hi:Ev (fun k=>b6.f k l) R) (h:R.2=true):putOid R.1=l:=by
  by_cases c:∃o,oidOk o=true∧o.flatMap group=l
  · obtain ⟨o,ho,rfl⟩:=c
    have hp:putOid o=o.flatMap group:=by unfold putOid;rw [if_pos ho]
    have e:=(getOid_back o ho).1
    rw [hp] at e
    rw [Ev.uniq hi e]
    exact hp
  · have hno:∀o,oidOk o=true→o.flatMap group≠l:=fun o ho e=>c ⟨o,ho,e⟩
    obtain ⟨R2,hs,hi2,_⟩:=getOid_both l hw hl
    have e:=sGetOid_no l.length l [] (Nat.le_refl _) hw (by simpa using hl) (by simpa using hno)
    have e2:Ev (fun k=>bG.f k l) ([],false):=by
      unfold bG.f
      simpa using e
    rw [Ev.uniq hi hi2,Ev.uniq hs e2] at h
    simp at h

theorem bytesOf_bys (s:ByteArray):∀y ∈ fI s,0≤y∧y≤255:=by
  intro y hy
  unfold fI at hy
  obtain ⟨b,_,rfl⟩:=List.mem_map.1 hy
  have:=b.toNat_lt
  omega
theorem ofNums_bytes (s:ByteArray):strOfNums (fI s)=s:=by
  obtain ⟨d⟩:=s
  unfold strOfNums fI
  congr 1
  rw [List.map_map]
  have h:((fun n:Int=>UInt8.ofNat n.toNat) ∘ fun b:UInt8=>(b.toNat:Int))=id:=by
    funext b
    simp
  rw [h,List.map_id]
theorem bytes_ofNums (y:List Int) (hy:∀z ∈ y,0≤z∧z≤255):fI (strOfNums y)=y:=by
  have h2:=bytesOf_bys (strOfNums y)
  exact strNums_inj _ _ h2 hy (by rw [ofNums_bytes])
def goodVal (l:List Int) (a:Int) (R:Int × Int × ByteArray × List Int × Int × Bool):Prop:=
  R.2.2.2.2.2=true→valOk R.1 R.2.1 R.2.2.1 R.2.2.2.1=true∧putVal [] R.1 R.2.1 R.2.2.1 R.2.2.2.1=(l.take R.2.2.2.2.1.toNat).drop a.toNat∧0≤a∧a≤R.2.2.2.2.1∧R.2.2.2.2.1≤(l.length:Int)
theorem val_good (l:List Int) (a t n p:Int) (s:ByteArray) (o y:List Int) (h0:0≤a∧a≤p∧p≤(l.length:Int)) (hc:(l.take p.toNat).drop a.toNat=putTlv [] t y) (hb:putBody t n s o=y):goodVal l a (if valOk t n s o=true then (t,n,s,o,p,true) else noVal):=by
  intro h
  by_cases c:valOk t n s o=true
  · rw [if_pos c] at h ⊢
    refine ⟨c,?_,h0.1,h0.2.1,h0.2.2⟩
    show putVal [] t n s o=_
    unfold putVal
    rw [if_pos c,hb]
    exact hc.symm
  · rw [if_neg c] at h
    simp [noVal] at h
theorem no_good (l:List Int) (a:Int):goodVal l a noVal:=by intro h;simp [noVal] at h
theorem iGetVal_read (l:List Int) (a:Int) (hb:bys l) (hl:l.length≤1048576) (ha:-9223372036854775808≤a∧a≤9223372036854775807):∃R,Ev (fun k=>eL.f k l a) R∧goodVal l a R:=by
  have hi:=iGetTlv_ev l a hb hl ha
  have hy:=getTlv_len l a
  have hor:=getTlv_or l a hb
  have ht:=getTlv_true l hb a
  generalize getTlv l a=T at hi hy hor ht
  obtain ⟨t,y,p,q⟩:=T
  have hy:y.length≤l.length:=hy
  unfold eL.f
  cases q with
  |false=>
    refine ⟨noVal,Ev.bind hi ?_,no_good l a⟩
    simp only [Bool.false_eq_true,if_false]
    exact Ev.now _
  |true=>
    obtain ⟨h0,hy2,hc⟩:=ht t p y rfl
    have hby:∀z ∈ y,0≤z∧z≤255:=by
      rcases hor with h|h
      · simp [no4] at h
      · exact h.2
    by_cases c2:t=2
    · have gi:=iGetInt_ev y hby (by omega)
      have hg:=getInt_ok y hby
      generalize getInt y=G at gi hg
      obtain ⟨n,g⟩:=G
      cases g with
      |true=>
        refine ⟨_,Ev.bind hi ?_,val_good l a t n p ⟨#[]⟩ [] y h0 hc (by unfold putBody;rw [if_pos c2];exact hg rfl)⟩
        simp only [if_pos c2,if_true]
        refine Ev.bind gi ?_
        simp only [if_true]
        exact iVal_ev t n _ [] p (by simp)
      |false=>
        refine ⟨noVal,Ev.bind hi ?_,no_good l a⟩
        simp only [if_pos c2,if_true]
        refine Ev.bind gi ?_
        simp only [Bool.false_eq_true,if_false]
        exact Ev.now _
    by_cases c4:t=4
    · refine ⟨_,Ev.bind hi ?_,val_good l a t 0 p (strOfNums y) [] y h0 hc (by unfold putBody;rw [if_neg c2,if_pos c4];exact bytes_ofNums y hby)⟩
      simp only [if_neg c2,if_pos c4,if_true]
      exact iVal_ev t 0 _ [] p (by simp)
    by_cases c6:t=6
    · obtain ⟨G,_,gi,hg⟩:=getOid_both y hby (by omega)
      have hr:=getOid_read y hby (by omega) G gi
      obtain ⟨o,g⟩:=G
      have hg:o.length≤10:=hg
      cases g with
      |true=>
        refine ⟨_,Ev.bind hi ?_,val_good l a t 0 p ⟨#[]⟩ o y h0 hc (by unfold putBody;rw [if_neg c2,if_neg c4,if_pos c6];exact hr rfl)⟩
        simp only [if_neg c2,if_neg c4,if_pos c6,if_true]
        refine Ev.bind gi ?_
        simp only [if_true]
        exact iVal_ev t 0 _ o p (by omega)
      |false=>
        refine ⟨noVal,Ev.bind hi ?_,no_good l a⟩
        simp only [if_neg c2,if_neg c4,if_pos c6,if_true]
        refine Ev.bind gi ?_
        simp only [Bool.false_eq_true,if_false]
        exact Ev.now _
    by_cases c0:(y.length:Int)=0
    · refine ⟨_,Ev.bind hi ?_,val_good l a t 0 p ⟨#[]⟩ [] y h0 hc (by unfold putBody;rw [if_neg c2,if_neg c4,if_neg c6];exact (List.length_eq_zero_iff.1 (by omega)).symm)⟩
      simp only [if_neg c2,if_neg c4,if_neg c6,if_true,if_pos c0]
      exact iVal_ev t 0 _ [] p (by simp)
    · refine ⟨noVal,Ev.bind hi ?_,no_good l a⟩
      simp only [if_neg c2,if_neg c4,if_neg c6,if_true,if_neg c0]
      exact Ev.now _

theorem putBody_len (t n:Int) (s:ByteArray) (o:List Int) (h:valOk t n s o=true):(putBody t n s o).length≤30:=by
  have h1:=putInt_len (clip n)
  have h2:=putOid_len o
  unfold putBody
  by_cases c2:t=2
  · rw [if_pos c2];omega
  by_cases c4:t=4
  · subst c4
    have:=valOk_text n s o h
    rw [if_neg c2,if_pos rfl,fM];omega
  rw [if_neg c2,if_neg c4]
  split
  · omega
  · simp

def partP (l:List Int) (p:Int) (b:Bool) (t:Int):List Int × Int × Bool:=
  if b=true then ([],p,true) else if (getTlv l p).2.2.2=true then (if (getTlv l p).1=t then ((getTlv l p).2.1,(getTlv l p).2.2.1,b) else ([],p,true)) else ([],p,true)
def numP (l:List Int) (p:Int) (b:Bool) (t:Int):Int × Int × Bool:=
  if (partP l p b t).2.2=true then ((getInt (partP l p b t).1).1,(partP l p b t).2.1,true) else ((getInt (partP l p b t).1).1,(partP l p b t).2.1, !(getInt (partP l p b t).1).2)
theorem tlvTail_in (l:List Int) (a x:Int) (hb:∀y ∈ l,0≤y∧y≤255) (hx:-1≤x):(0≤(tlvTail l a x).2.2.1∧(tlvTail l a x).2.2.1≤(l.length:Int))∧∀y ∈ (tlvTail l a x).2.1,0≤y∧y≤255:=by
  have hr:=rd_bd l hb x
  unfold tlvTail no4
  split
  · exact ⟨⟨by simp,by simp⟩,by simp⟩
  · split
    · exact ⟨⟨by simp,by simp⟩,by simp⟩
    · exact ⟨⟨by show 0≤x+1+rd l x;omega,by show x+1+rd l x≤_;omega⟩,fun y hy=>hb y (List.mem_of_mem_take (List.mem_of_mem_drop hy))⟩
theorem getTlv_in (l:List Int) (a:Int) (hb:∀y ∈ l,0≤y∧y≤255):(0≤(getTlv l a).2.2.1∧(getTlv l a).2.2.1≤(l.length:Int))∧∀y ∈ (getTlv l a).2.1,0≤y∧y≤255:=by
  have hz:(0≤no4.2.2.1∧no4.2.2.1≤(l.length:Int))∧∀y ∈ no4.2.1,0≤y∧y≤255:=⟨⟨by simp [no4],by simp [no4]⟩,by simp [no4]⟩
  unfold getTlv
  split
  · exact hz
  · rename_i h
    split
    · split
      · split
        · exact hz
        · split
          · exact hz
          · exact tlvTail_in l a _ hb (by omega)
      · exact hz
    · exact tlvTail_in l a _ hb (by omega)
theorem partP_in (l:List Int) (p:Int) (b:Bool) (t:Int) (hb:∀y ∈ l,0≤y∧y≤255) (hp:0≤p∧p≤(l.length:Int)):(0≤(partP l p b t).2.1∧(partP l p b t).2.1≤(l.length:Int))∧(∀y ∈ (partP l p b t).1,0≤y∧y≤255)∧(partP l p b t).1.length≤l.length:=by
  have h:=getTlv_in l p hb
  have hl:=getTlv_len l p
  unfold partP
  split
  · exact ⟨hp,by simp,by simp⟩
  · split
    · split
      · exact ⟨h.1,h.2,hl⟩
      · exact ⟨hp,by simp,by simp⟩
    · exact ⟨hp,by simp,by simp⟩
theorem numP_in (l:List Int) (p:Int) (b:Bool) (t:Int) (hb:∀y ∈ l,0≤y∧y≤255) (hp:0≤p∧p≤(l.length:Int)):0≤(numP l p b t).2.1∧(numP l p b t).2.1≤(l.length:Int):=by
  have h:=(partP_in l p b t hb hp).1
  unfold numP
  split
  · exact h
  · exact h
theorem sPart_ev (l:List Int) (p:Int) (b:Bool) (t:Int) (hb:∀y ∈ l,0≤y∧y≤255) (hl:l.length≤1048576) (hp:0≤p∧p≤(l.length:Int)):Ev (fun k=>bC.f k l p b t) (partP l p b t):=by
  unfold bC.f partP
  refine Ev.bind (sGetTlv_ev l p hb hl (by omega)) ?_
  exact Ev.ite (fun _=>Ev.now _) (fun _=>Ev.ite (fun _=>Ev.ite (fun _=>Ev.now _) (fun _=>Ev.now _)) (fun _=>Ev.now _))
theorem iPart_ev (l:List Int) (p:Int) (b:Bool) (t:Int) (hb:∀y ∈ l,0≤y∧y≤255) (hl:l.length≤1048576) (hp:0≤p∧p≤(l.length:Int)):Ev (fun k=>aQ.f k l p b t) (partP l p b t):=by
  unfold aQ.f partP
  refine Ev.bind (iGetTlv_ev l p hb hl (by omega)) ?_
  exact Ev.ite (fun _=>Ev.now _) (fun _=>Ev.ite (fun _=>Ev.ite (fun _=>Ev.now _) (fun _=>Ev.now _)) (fun _=>Ev.now _))
theorem iNum_ev (l:List Int) (p:Int) (b:Bool) (t:Int) (hb:∀y ∈ l,0≤y∧y≤255) (hl:l.length≤1048576) (hp:0≤p∧p≤(l.length:Int)):Ev (fun k=>bH.f k l p b t) (numP l p b t):=by
  obtain ⟨_,h1,h2⟩:=partP_in l p b t hb hp
  unfold bH.f numP
  refine Ev.bind (iPart_ev l p b t hb hl hp) (Ev.bind (iGetInt_ev _ h1 (by omega)) ?_)
  exact Ev.ite (fun _=>Ev.now _) (fun _=>Ev.now _)

theorem sNum_ev (l:List Int) (p:Int) (b:Bool) (hb:∀y ∈ l,0≤y∧y≤255) (hl:l.length≤1048576) (hp:0≤p∧p≤(l.length:Int)):Ev (fun k=>dT.f k l p b) (numP l p b 2):=by
  obtain ⟨_,h1,h2⟩:=partP_in l p b 2 hb hp
  unfold dT.f numP
  refine Ev.bind (sPart_ev l p b 2 hb hl hp) (Ev.bind (sGetInt_ev _ h1 (by omega)) ?_)
  exact Ev.ite (fun _=>Ev.now _) (fun _=>Ev.now _)

theorem part_true (l:List Int) (hb:bys l) (p p' t:Int) (b:Bool) (y:List Int) (h:partP l p b t=(y,p',false)):b=false∧(0≤p∧p≤p'∧p'≤(l.length:Int))∧y.length≤250∧bys y∧(l.take p'.toNat).drop p.toNat=putTlv [] t y:=by
  unfold partP at h
  cases b with
  |true=>simp at h
  |false=>
    simp only [Bool.false_eq_true,if_false] at h
    by_cases c:(getTlv l p).2.2.2=true
    · rw [if_pos c] at h
      by_cases d:(getTlv l p).1=t
      · rw [if_pos d] at h
        simp only [Prod.mk.injEq,and_true] at h
        have e:getTlv l p=(t,y,p',true):=Prod.ext d (Prod.ext h.1 (Prod.ext h.2 c))
        obtain ⟨h1,h2,h3⟩:=getTlv_true l hb p t p' y e
        have h4:=(getTlv_in l p hb).2
        rw [e] at h4
        exact ⟨rfl,h1,h2,h4,h3⟩
      · rw [if_neg d] at h
        simp at h
    · rw [if_neg c] at h
      simp at h
theorem num_true (l:List Int) (hb:bys l) (p p' t n:Int) (b:Bool) (h:numP l p b t=(n,p',false)):b=false∧(0≤p∧p≤p'∧p'≤(l.length:Int))∧(l.take p'.toNat).drop p.toNat=putTlv [] t (putInt (clip n)):=by
  unfold numP at h
  by_cases c:(partP l p b t).2.2=true
  · rw [if_pos c] at h
    simp at h
  rw [if_neg c] at h
  simp only [Prod.mk.injEq,Bool.not_eq_false'] at h
  obtain ⟨h1,h2,h3⟩:=h
  obtain ⟨a1,a2,_,a4,a5⟩:=part_true l hb p p' t b (partP l p b t).1 (Prod.ext rfl (Prod.ext h2 (by simpa using c)))
  refine ⟨a1,a2,?_⟩
  rw [a5,← h1,getInt_ok _ a4 h3]
theorem take_join {l x:List Int} {p p':Int} (h:p≤p') (e:(l.take p'.toNat).drop p.toNat=x):l.take p'.toNat=l.take p.toNat++x:=by
  have h1:=List.take_append_drop p.toNat (l.take p'.toNat)
  rw [List.take_take,Nat.min_eq_left (by omega),e] at h1
  exact h1.symm
theorem putTlv_app (a:List Int) (t:Int) (y:List Int):putTlv a t y=a++putTlv [] t y:=by
  unfold putTlv
  split<;>simp

theorem rdIB_mid (pre rest:List S116) (r:S116):aE (pre++r::rest) (pre.length:Int)=r:=by
  unfold aE
  simp [List.getD_eq_getElem?_getD]
def smallI (x:S116):Prop:=x.f0.length≤1048576∧x.f1.f3.length≤1048576
def bindsOk:List S116→Bool→Bool
  |[],z=>z
  |r::a,z=>if oidOk r.f0=true then (if valOk r.f1.f0 r.f1.f1 r.f1.f2 r.f1.f3=true then bindsOk a z else false) else false
theorem bindsOk_false (l:List S116):bindsOk l false=false:=by
  induction l with
  |nil=>rfl
  |cons r l ih=>simp only [bindsOk,ih,ite_self]
def pduHd (t es ei:Int):Bool:=if t=160∨t=161∨t=163 then decide (es=0∧ei=0) else if t=162∨t=165 then decide ((0≤es∧es≤1000)∧(0≤ei∧ei≤1000)) else false
def pduOk (t id es ei:Int) (l:List S116):Bool:=if pduHd t es ei=true then (if (l.length:Int)≤10 then bindsOk l (decide (clip id=id)) else false) else false
theorem sKind_eq (t:Int):eC.f t=some (decide (t=160∨t=161∨t=162∨t=163∨t=165)):=by
  unfold eC.f
  by_cases h0:t=160
  · simp [h0]
  by_cases h1:t=161
  · simp [h1]
  by_cases h2:t=162
  · simp [h2]
  by_cases h3:t=163
  · simp [h3]
  by_cases h4:t=165
  · simp [h4]
  rw [if_neg h0,if_neg h1,if_neg h2,if_neg h3,decide_eq_false (by omega)]
  exact congrArg some (beq_eq_false_iff_ne.2 h4)
def sHd (q:Bool) (t id es ei:Int) (l:List S116):Bool:=
  if q=true then false else if decide (t=160∨t=161∨t=162∨t=163∨t=165)=true then (if clip id=id then (if decide (0≤es∧es≤1000)=true then (if decide (0≤ei∧ei≤1000)=true then decide ((l.length:Int)≤10) else false) else false) else false) else false
theorem sPdu_j1 (q:Bool) (t id es ei:Int) (l:List S116):Ev (fun k=>bZ.j1 k q t id es ei l) (sHd q t id es ei l):=by
  refine Ev.succ ?_
  simp only [bZ.j1]
  unfold sHd
  simp only [sKind_eq,sClip_eq,l1In_eq,Option.bind_some]
  refine Ev.ite (fun _=>Ev.now _) (fun _=>?_)
  refine Ev.ite (fun _=>?_) (fun _=>Ev.now _)
  refine Ev.ite (fun _=>?_) (fun _=>Ev.now _)
  refine Ev.ite (fun _=>?_) (fun _=>Ev.now _)
  refine Ev.ite (fun _=>Ev.now _) (fun _=>Ev.now _)
def sEnd (t id es ei:Int) (l:List S116):Bool:=if t=162 then sHd false t id es ei l else if t=165 then sHd false t id es ei l else if es=0 then sHd (ei !=0) t id es ei l else sHd true t id es ei l
theorem sEnd_eq (t id es ei:Int) (l:List S116):sEnd t id es ei l=(if pduHd t es ei=true then (if (l.length:Int)≤10 then decide (clip id=id) else false) else false):=by
  unfold sEnd sHd pduHd
  rw [Bool.eq_iff_iff]
  by_cases h2:t=162
  · simp [h2]
    by_cases a1:0≤es∧es≤1000<;>by_cases a2:0≤ei∧ei≤1000<;>simp [a1,a2]
    exact and_comm
  by_cases h5:t=165
  · simp [h5]
    by_cases a1:0≤es∧es≤1000<;>by_cases a2:0≤ei∧ei≤1000<;>simp [a1,a2]
    exact and_comm
  by_cases hk:t=160∨t=161∨t=163
  · have hk':t=160∨t=161∨t=162∨t=163∨t=165:=by omega
    by_cases e1:es=0
    · by_cases e2:ei=0
      · simp [h2,h5,hk,hk',e1,e2]
        exact and_comm
      · simp [h2,h5,hk,e1,e2]
    · simp [h2,h5,hk,e1]
  · have hk':¬(t=160∨t=161∨t=162∨t=163∨t=165):=by omega
    have hk2:¬(t=162∨t=165):=by omega
    rw [if_neg hk,if_neg hk2,decide_eq_false hk']
    simp [h2,h5]
theorem sPduOk_loop (t id es ei:Int) (rest:List S116):∀(pre:List S116),pre.length+rest.length≤1048576→(∀y ∈ rest,smallI y)→
    Ev (fun k=>bZ.l0 k (pre.length:Int) t id es ei (pre++rest)) (bindsOk rest (sEnd t id es ei (pre++rest))):=by
  induction rest with
  |nil=>
    intro pre _ _
    refine Ev.succ ?_
    simp only [bZ.l0]
    simp only [List.append_nil,if_neg (show ¬(pre.length:Int)<(pre.length:Int) by omega),bindsOk]
    unfold sEnd
    refine Ev.ite (fun _=>sPdu_j1 _ _ _ _ _ _) (fun _=>?_)
    refine Ev.ite (fun _=>sPdu_j1 _ _ _ _ _ _) (fun _=>?_)
    exact Ev.ite (fun _=>sPdu_j1 _ _ _ _ _ _) (fun _=>sPdu_j1 _ _ _ _ _ _)
  |cons r rest ih=>
    intro pre hn hw
    simp only [List.length_cons] at hn
    have hr:=hw r List.mem_cons_self
    have h1:=hr.1
    have h2:=hr.2
    have h:=ih (pre++[r]) (by simp only [List.length_append,List.length_cons,List.length_nil];omega) (fun y hy=>hw y (List.mem_cons_of_mem _ hy))
    simp only [List.append_assoc,List.cons_append,List.nil_append] at h
    rw [show ((pre++[r]).length:Int)=(pre.length:Int)+1 by simp] at h
    refine Ev.succ ?_
    simp only [bZ.l0]
    simp only [if_pos (show (pre.length:Int)<((pre++r::rest).length:Int) by simp only [List.length_append,List.length_cons];omega),if_pos (show (0:Int)≤(pre.length:Int) by omega),rdIB_mid,w64 (x:=(pre.length:Int)+1) (by omega) (by omega),bindsOk]
    refine Ev.bind (sOidOk_ev _ (by omega)) ?_
    refine Ev.ite (fun _=>?_) (fun _=>Ev.now _)
    refine Ev.bind (sValOk_ev _ _ _ _ h2) ?_
    exact Ev.ite (fun _=>h) (fun _=>Ev.now _)
theorem sPduOk_ev (t id es ei:Int) (l:List S116) (h:l.length≤1048576) (hw:∀y ∈ l,smallI y):Ev (fun k=>bZ.f k t id es ei l) (pduOk t id es ei l):=by
  unfold bZ.f
  have e:=sPduOk_loop t id es ei l [] (by simp only [List.length_nil];omega) hw
  have hv:bindsOk l (sEnd t id es ei l)=pduOk t id es ei l:=by
    rw [sEnd_eq]
    unfold pduOk
    by_cases c:pduHd t es ei=true
    · simp only [if_pos c]
      by_cases d:(l.length:Int)≤10
      · simp only [if_pos d]
      · simp only [if_neg d,bindsOk_false]
    · simp only [if_neg c,bindsOk_false]
  simp only [List.nil_append] at e
  rw [hv] at e
  exact e
theorem iPduOk_loop (t id es ei:Int) (L:List S116) (rest:List S116):∀(pre:List S116) (m:Int),m=(pre.length:Int)+rest.length→pre.length≤10→(∀y ∈ rest,smallI y)→
    Ev (fun k=>bJ.l0 k (pre++rest) m (pre.length:Int) t id es ei L) (if (pre.length:Int)+rest.length≤10 then bindsOk rest (decide (clip id=id)) else false):=by
  induction rest with
  |nil=>
    intro pre m hm hp _
    simp only [List.length_nil] at hm
    refine Ev.succ ?_
    simp only [bJ.l0]
    simp only [if_neg (show ¬(pre.length:Int)<m by omega),iIsInt_eq,clip_same,Option.bind_some,List.length_nil,if_pos (show (pre.length:Int)+((0:Nat):Int)≤10 by omega),bindsOk]
    exact Ev.now _
  |cons r rest ih=>
    intro pre m hm hp hw
    simp only [List.length_cons] at hm
    have hr:=hw r List.mem_cons_self
    have h1:=hr.1
    have h2:=hr.2
    refine Ev.succ ?_
    simp only [bJ.l0]
    simp only [if_pos (show (pre.length:Int)<m by omega),if_pos (show (pre.length:Int)<((pre++r::rest).length:Int) by simp only [List.length_append,List.length_cons];omega),if_pos (show (0:Int)≤(pre.length:Int) by omega),rdIB_mid,w64 (x:=(pre.length:Int)+1) (by omega) (by omega)]
    by_cases c:(pre.length:Int)≥10
    · simp only [if_pos c,if_neg (show ¬(pre.length:Int)+((r::rest).length:Int)≤10 by simp only [List.length_cons];omega)]
      exact Ev.now _
    · have h:=ih (pre++[r]) m (by simp only [List.length_append,List.length_cons,List.length_nil];omega) (by simp only [List.length_append,List.length_cons,List.length_nil];omega) (fun y hy=>hw y (List.mem_cons_of_mem _ hy))
      simp only [List.append_assoc,List.cons_append,List.nil_append] at h
      rw [show ((pre++[r]).length:Int)=(pre.length:Int)+1 by simp] at h
      simp only [if_neg c]
      have hv:(if (pre.length:Int)+((r::rest).length:Int)≤10 then bindsOk (r::rest) (decide (clip id=id)) else false)=(if oidOk r.f0=true then (if valOk r.f1.f0 r.f1.f1 r.f1.f2 r.f1.f3=true then (if (pre.length:Int)+1+rest.length≤10 then bindsOk rest (decide (clip id=id)) else false) else false) else false):=by
        by_cases d:(pre.length:Int)+1+rest.length≤10
        · simp only [if_pos (show (pre.length:Int)+((r::rest).length:Int)≤10 by simp only [List.length_cons];omega),if_pos d,bindsOk]
        · simp only [if_neg (show ¬(pre.length:Int)+((r::rest).length:Int)≤10 by simp only [List.length_cons];omega),if_neg d,ite_self]
      rw [hv]
      refine Ev.bind (iOidOk_ev _ (by omega)) ?_
      refine Ev.ite (fun _=>?_) (fun _=>Ev.now _)
      refine Ev.bind (iValOk_ev _ _ _ _ h2) ?_
      exact Ev.ite (fun _=>h) (fun _=>Ev.now _)
theorem iPdu_j2 (t id es ei:Int) (l:List S116) (hw:∀y ∈ l,smallI y):Ev (fun k=>bJ.j2 k t id es ei l) (if (l.length:Int)≤10 then bindsOk l (decide (clip id=id)) else false):=by
  refine Ev.succ ?_
  simp only [bJ.j2]
  have h:=iPduOk_loop t id es ei l l [] (l.length:Int) (by simp) (by simp) hw
  simpa using h
theorem iPdu_j1 (q:Bool) (t id es ei:Int) (l:List S116) (hw:∀y ∈ l,smallI y):Ev (fun k=>bJ.j1 k q t id es ei l) (if q=true then (if decide (0≤es∧es≤1000)=true then (if decide (0≤ei∧ei≤1000)=true then (if (l.length:Int)≤10 then bindsOk l (decide (clip id=id)) else false) else false) else false) else false):=by
  refine Ev.succ ?_
  simp only [bJ.j1]
  simp only [in_eq,Option.bind_some]
  refine Ev.ite (fun _=>?_) (fun _=>Ev.now _)
  refine Ev.ite (fun _=>?_) (fun _=>Ev.now _)
  refine Ev.ite (fun _=>?_) (fun _=>Ev.now _)
  exact iPdu_j2 t id es ei l hw
theorem iPdu_j0 (q:Bool) (t id es ei:Int) (l:List S116) (hw:∀y ∈ l,smallI y) (hq:q=true ↔ (t=160∨t=161∨t=163)):Ev (fun k=>bJ.j0 k t q t id es ei l) (pduOk t id es ei l):=by
  refine Ev.succ ?_
  simp only [bJ.j0]
  unfold pduOk pduHd
  by_cases c:t=160∨t=161∨t=163
  · simp only [if_pos c,if_pos (hq.2 c)]
    by_cases e1:es=0
    · by_cases e2:ei=0
      · simp only [if_pos e1,if_pos e2,decide_eq_true (show es=0∧ei=0 from ⟨e1,e2⟩),if_true]
        exact iPdu_j2 t id es ei l hw
      · simp only [if_pos e1,if_neg e2,decide_eq_false (show ¬(es=0∧ei=0) from fun h=>e2 h.2),Bool.false_eq_true,if_false]
        exact Ev.now _
    · simp only [if_neg e1,decide_eq_false (show ¬(es=0∧ei=0) from fun h=>e1 h.1),Bool.false_eq_true,if_false]
      exact Ev.now _
  · have hq':¬q=true:=fun e=>c (hq.1 e)
    simp only [if_neg c,if_neg hq']
    by_cases d:t=162∨t=165
    · have hb:(t==162)=true∨(t==165)=true:=by rcases d with rfl|rfl<;>simp
      have hgo:∀q':Bool,q'=true→Ev (fun k=>bJ.j1 k q' t id es ei l) (if (if t=162∨t=165 then decide ((0≤es∧es≤1000)∧(0≤ei∧ei≤1000)) else false)=true then (if (l.length:Int)≤10 then bindsOk l (decide (clip id=id)) else false) else false):=by
        intro q' h'
        have e:=iPdu_j1 q' t id es ei l hw
        rw [if_pos h'] at e
        rw [if_pos d]
        by_cases a1:0≤es∧es≤1000
        · by_cases a2:0≤ei∧ei≤1000
          · rw [decide_eq_true a1,decide_eq_true a2,if_pos rfl,if_pos rfl] at e
            rw [decide_eq_true (show (0≤es∧es≤1000)∧(0≤ei∧ei≤1000) from ⟨a1,a2⟩),if_pos rfl]
            exact e
          · rw [decide_eq_true a1,decide_eq_false a2,if_pos rfl,if_neg (by decide)] at e
            rw [decide_eq_false (show ¬((0≤es∧es≤1000)∧(0≤ei∧ei≤1000)) from fun h=>a2 h.2),if_neg (by decide)]
            exact e
        · rw [decide_eq_false a1,if_neg (by decide)] at e
          rw [decide_eq_false (show ¬((0≤es∧es≤1000)∧(0≤ei∧ei≤1000)) from fun h=>a1 h.1),if_neg (by decide)]
          exact e
      by_cases d2:t=162
      · simp only [if_pos d2]
        exact hgo _ (beq_iff_eq.2 d2)
      · simp only [if_neg d2]
        exact hgo _ (beq_iff_eq.2 (d.resolve_left d2))
    · have hf:∀q':Bool,q'=false→Ev (fun k=>bJ.j1 k q' t id es ei l) false:=by
        intro q' h'
        have e:=iPdu_j1 q' t id es ei l hw
        rw [h',if_neg (by decide)] at e
        rw [h']
        exact e
      simp only [if_neg d,Bool.false_eq_true,if_false,if_neg (show ¬t=162 from fun e=>d (Or.inl e))]
      exact hf _ (beq_eq_false_iff_ne.2 fun e=>d (Or.inr e))
theorem iPduOk_ev (t id es ei:Int) (l:List S116) (_h:l.length≤1048576) (hw:∀y ∈ l,smallI y):Ev (fun k=>bJ.f k t id es ei l) (pduOk t id es ei l):=by
  unfold bJ.f
  by_cases c1:t=160
  · simp only [if_pos c1]
    exact iPdu_j0 _ t id es ei l hw (by simp [c1])
  · simp only [if_neg c1]
    by_cases c2:t=161
    · simp only [if_pos c2]
      exact iPdu_j0 _ t id es ei l hw (by simp [c2])
    · simp only [if_neg c2]
      exact iPdu_j0 _ t id es ei l hw (by simp [c1,c2])

def bindB (x:S116):List Int:=putVal (putTlv [] 6 (putOid x.f0)) x.f1.f0 x.f1.f1 x.f1.f2 x.f1.f3
def bindsB:List S116→List Int
  |[]=>[]
  |x::r=>tlvBytes 48 (bindB x)++bindsB r
def goodI (x:S116):Prop:=oidOk x.f0=true∧valOk x.f1.f0 x.f1.f1 x.f1.f2 x.f1.f3=true
theorem bindsOk_good:∀(l:List S116) (z:Bool),bindsOk l z=true→(∀x ∈ l,goodI x)∧z=true
  |[],z,h=>⟨fun x hx=>by simp at hx,h⟩
  |r::a,z,h=>by
    simp only [bindsOk] at h
    by_cases h1:oidOk r.f0=true
    · rw [if_pos h1] at h
      by_cases h2:valOk r.f1.f0 r.f1.f1 r.f1.f2 r.f1.f3=true
      · rw [if_pos h2] at h
        obtain ⟨i1,i2⟩:=bindsOk_good a z h
        refine ⟨fun x hx=>?_,i2⟩
        rcases List.mem_cons.1 hx with rfl|hx
        · exact ⟨h1,h2⟩
        · exact i1 x hx
      · rw [if_neg h2] at h
        cases h
    · rw [if_neg h1] at h
      cases h
theorem putTlv_len2 (b:List Int) (t:Int) (y:List Int):(putTlv b t y).length≤b.length+y.length+3:=by
  have:=tlvBytes_len t y
  unfold putTlv
  split
  · rw [List.length_append]
    omega
  · omega
theorem bindB_len (x:S116) (h:goodI x):(bindB x).length≤66:=by
  have h1:=putOid_len x.f0
  have h2:=putTlv_len2 [] 6 (putOid x.f0)
  have h3:=putBody_len _ _ _ _ h.2
  have h4:=putTlv_len2 (putTlv [] 6 (putOid x.f0)) x.f1.f0 (putBody x.f1.f0 x.f1.f1 x.f1.f2 x.f1.f3)
  simp only [List.length_nil] at h2
  unfold bindB putVal
  rw [if_pos h.2]
  omega
theorem tlvOk48 (y:List Int) (h:(y.length:Int)≤250):tlvOk 48 y=true:=by
  unfold tlvOk
  rw [decide_eq_true h,decide_eq_true (show (0:Int)≤48∧(48:Int)≤255 by omega)]
  rfl
theorem put48 (b y:List Int) (h:(y.length:Int)≤250):putTlv b 48 y=b++tlvBytes 48 y:=by
  unfold putTlv
  rw [if_pos (tlvOk48 y h)]
def addP (l:List Int) (n:Int):List Int:=putTlv l 2 (putInt (clip n))
theorem addP_len (l:List Int) (n:Int):(addP l n).length≤l.length+7:=by
  have h:=putInt_len (clip n)
  have:=putTlv_len2 l 2 (putInt (clip n))
  unfold addP
  omega
def numsB (a b c:Int):List Int:=addP (addP (addP [] a) b) c
theorem numsB_len (a b c:Int):(numsB a b c).length≤21:=by
  have h1:=addP_len [] a
  have h2:=addP_len (addP [] a) b
  have h3:=addP_len (addP (addP [] a) b) c
  simp only [List.length_nil] at h1
  unfold numsB
  omega
def finP (t a b c:Int) (y:List Int):List Int:=if (y.length:Int)≤250 then (if ((numsB a b c++tlvBytes 48 y).length:Int)≤250 then tlvBytes t (numsB a b c++tlvBytes 48 y) else []) else []
def putPdu (t a b c:Int) (l:List S116):List Int:=if pduOk t a b c l=true then finP t a b c (bindsB l) else []
theorem pduOk_kind {t a b c:Int} {l:List S116} (h:pduOk t a b c l=true):(160≤t∧t≤165)∧l.length≤10∧∀x ∈ l,goodI x:=by
  unfold pduOk at h
  by_cases h1:pduHd t b c=true
  · rw [if_pos h1] at h
    by_cases h2:(l.length:Int)≤10
    · rw [if_pos h2] at h
      refine ⟨?_,by omega,(bindsOk_good l _ h).1⟩
      unfold pduHd at h1
      split at h1
      · omega
      · split at h1
        · omega
        · cases h1
    · rw [if_neg h2] at h
      cases h
  · rw [if_neg h1] at h
    cases h
theorem tlvOkT (t:Int) (y:List Int) (ht:160≤t∧t≤165):tlvOk t y=decide ((y.length:Int)≤250):=by
  unfold tlvOk
  rw [decide_eq_true (show (0:Int)≤t∧t≤255 by omega),Bool.true_and]

theorem iAddP_ev (l:List Int) (n:Int) (h:l.length≤1099511627776):Ev (fun k=>dZ.f k l 2 n) (addP l n):=by
  have hp:=putInt_len (clip n)
  unfold dZ.f
  exact Ev.bind (iPutInt_ev n) (Ev.bind (iPutTlv_ev l 2 _ h (by omega)) (Ev.now _))
theorem iBinds_loop (t a b c:Int) (L:List S116) (ht:160≤t∧t≤165) (rest:List S116):∀(pre:List S116) (out:List Int) (m:Int),m=(pre.length:Int)+rest.length→pre.length+rest.length≤10→out.length≤69*pre.length→(∀y ∈ rest,goodI y∧smallI y)→
    Ev (fun k=>bB.l0 k out (pre++rest) m (pre.length:Int) t a b c L) (finP t a b c (out++bindsB rest)):=by
  induction rest with
  |nil=>
    intro pre out m hm hn ho _
    simp only [List.length_nil] at hm
    have n1:=addP_len [] a
    have n2:=addP_len (addP [] a) b
    have n3:=numsB_len a b c
    simp only [List.length_nil] at n1
    refine Ev.succ ?_
    simp only [bB.l0,bindsB,List.append_nil,if_neg (show ¬(pre.length:Int)<m by omega)]
    refine Ev.bind (iTlv_ev 48 out (by omega)) ?_
    unfold finP
    by_cases q:(out.length:Int)≤250
    · have hl:=tlvBytes_len 48 out
      simp only [tlvOk48 out q,if_true,if_pos q]
      refine Ev.bind (iAddP_ev [] a (by simp)) (Ev.bind (iAddP_ev _ b (by omega)) (Ev.bind (iAddP_ev _ c (by omega)) ?_))
      rw [show addP (addP (addP [] a) b) c=numsB a b c from rfl]
      simp only [if_pos (show (numsB a b c).length+(tlvBytes 48 out).length<140737488355328 by omega)]
      refine Ev.bind (iTlv_ev t (numsB a b c++tlvBytes 48 out) (by rw [List.length_append];omega)) ?_
      rw [tlvOkT t _ ht]
      by_cases q2:((numsB a b c++tlvBytes 48 out).length:Int)≤250
      · simp only [decide_eq_true q2,if_true,if_pos q2]
        exact Ev.now _
      · simp only [decide_eq_false q2,Bool.false_eq_true,if_false,if_neg q2]
        exact Ev.now _
    · have e:tlvOk 48 out=false:=by
        unfold tlvOk
        rw [decide_eq_false q,Bool.and_false]
      simp only [e,Bool.false_eq_true,if_false,if_neg q]
      exact Ev.now _
  |cons r rest ih=>
    intro pre out m hm hn ho hw
    obtain ⟨g,s⟩:=hw r List.mem_cons_self
    simp only [List.length_cons] at hm hn
    have hb:=bindB_len r g
    have hp:=putOid_len r.f0
    have hq:=putTlv_len2 [] 6 (putOid r.f0)
    simp only [List.length_nil] at hq
    have hl:=tlvBytes_len 48 (bindB r)
    have h:=ih (pre++[r]) (out++tlvBytes 48 (bindB r)) m (by simp only [List.length_append,List.length_cons,List.length_nil];omega) (by simp only [List.length_append,List.length_cons,List.length_nil];omega) (by simp only [List.length_append,List.length_cons,List.length_nil];omega) (fun y hy=>hw y (List.mem_cons_of_mem _ hy))
    simp only [List.append_assoc,List.cons_append,List.nil_append] at h
    rw [show ((pre++[r]).length:Int)=(pre.length:Int)+1 by simp] at h
    refine Ev.succ ?_
    simp only [bB.l0,if_pos (show (pre.length:Int)<m by omega),if_pos (show (0:Int)≤(pre.length:Int) by omega),if_pos (show (pre.length:Int)<((pre++r::rest).length:Int) by simp only [List.length_append,List.length_cons];omega),rdIB_mid]
    refine Ev.bind (iPutOid_ev r.f0 s.1) ?_
    refine Ev.bind (iPutTlv_ev [] 6 _ (by simp) (by omega)) ?_
    refine Ev.bind (iPutVal_ev _ _ _ _ _ (by omega) s.2) ?_
    rw [show putVal (putTlv [] 6 (putOid r.f0)) r.f1.f0 r.f1.f1 r.f1.f2 r.f1.f3=bindB r from rfl]
    refine Ev.bind (iTlv_ev 48 (bindB r) (by omega)) ?_
    simp only [tlvOk48 _ (show ((bindB r).length:Int)≤250 by omega),if_true,if_pos (show out.length+(tlvBytes 48 (bindB r)).length<140737488355328 by omega),w64 (x:=(pre.length:Int)+1) (by omega) (by omega)]
    exact h
theorem iPutPdu_ev (t a b c:Int) (l:List S116) (h:l.length≤1048576) (hw:∀y ∈ l,smallI y):Ev (fun k=>bB.f k t a b c l) (putPdu t a b c l):=by
  unfold bB.f putPdu
  refine Ev.bind (iPduOk_ev t a b c l h hw) ?_
  refine Ev.ite (fun hk=>?_) (fun _=>Ev.now _)
  obtain ⟨ht,h10,hg⟩:=pduOk_kind hk
  simpa using iBinds_loop t a b c l ht l [] [] (l.length:Int) (by simp) (by simpa using h10) (by simp) (fun y hy=>⟨hg y hy,hw y hy⟩)

def noB:List Int × Int × Int × ByteArray × List Int × Bool:=([],0,0,⟨#[]⟩,[],false)
def mkB (R:List Int × Int × Int × ByteArray × List Int × Bool):S116:=⟨R.1,⟨R.2.1,R.2.2.1,R.2.2.2.1,R.2.2.2.2.1⟩⟩
theorem putVal_app (b:List Int) (t n:Int) (s:ByteArray) (o:List Int):putVal b t n s o=b++putVal [] t n s o:=by
  unfold putVal
  split
  · exact putTlv_app _ _ _
  · simp
theorem bind_both (l:List Int) (hb:bys l) (hl:l.length≤1048576):∃R:List Int × Int × Int × ByteArray × List Int × Bool,Ev (fun k=>eO.f k l) R∧Ev (fun k=>eM.f k l) R∧smallI (mkB R)∧(R.2.2.2.2.2=true→bindB (mkB R)=l∧l≠[]):=by
  obtain ⟨hp1,hp2,hp3⟩:=partP_in l 0 false 6 hb (by omega)
  have sp:=sPart_ev l 0 false 6 hb hl (by omega)
  have ip:=iPart_ev l 0 false 6 hb hl (by omega)
  have hnil:l=[]→(partP l 0 false 6).2.2=true:=by
    rintro rfl
    simp [partP,getTlv,no4]
  have pt:=part_true l hb 0
  generalize hP:partP l 0 false 6=P at hp1 hp2 hp3 sp ip hnil
  obtain ⟨y,p,b⟩:=P
  replace hp1:0≤p∧p≤(l.length:Int):=hp1
  replace hp2:bys y:=hp2
  replace hp3:y.length≤l.length:=hp3
  replace hnil:l=[]→b=true:=hnil
  obtain ⟨O,so,io,no⟩:=getOid_both y hp2 (by omega)
  obtain ⟨V,sv,iv,nv⟩:=getVal_both l p hb hl (by omega)
  obtain ⟨V2,iv2,gv⟩:=iGetVal_read l p hb hl (by omega)
  obtain rfl:=Ev.uniq iv iv2
  have ro:=getOid_read y hp2 (by omega) O io
  refine ⟨if b=true then noB else if O.2=true then if V.2.2.2.2.2=true then if V.2.2.2.2.1=(l.length:Int) then (O.1,V.1,V.2.1,V.2.2.1,V.2.2.2.1,true) else noB else noB else noB,?_,?_,?_,?_⟩
  · unfold eO.f
    refine Ev.bind sp (Ev.bind so (Ev.bind sv ?_))
    exact Ev.ite (fun _=>Ev.now _) (fun _=>Ev.ite (fun _=>Ev.ite (fun _=>Ev.ite (fun _=>Ev.now _) (fun _=>Ev.now _)) (fun _=>Ev.now _)) (fun _=>Ev.now _))
  · unfold eM.f
    refine Ev.bind ip (Ev.bind io (Ev.bind iv ?_))
    exact Ev.ite (fun _=>Ev.now _) (fun _=>Ev.ite (fun _=>Ev.ite (fun _=>Ev.ite (fun _=>Ev.now _) (fun _=>Ev.now _)) (fun _=>Ev.now _)) (fun _=>Ev.now _))
  · have hn:smallI (mkB noB):=⟨by simp [mkB,noB],by simp [mkB,noB]⟩
    split
    · exact hn
    · split
      · split
        · split
          · exact ⟨show O.1.length≤_ by omega,show V.2.2.2.1.length≤_ by omega⟩
          · exact hn
        · exact hn
      · exact hn
  · intro h
    by_cases c1:b=true
    · rw [if_pos c1] at h
      simp [noB] at h
    rw [if_neg c1] at h ⊢
    by_cases c2:O.2=true
    · rw [if_pos c2] at h ⊢
      by_cases c3:V.2.2.2.2.2=true
      · rw [if_pos c3] at h ⊢
        by_cases c4:V.2.2.2.2.1=(l.length:Int)
        · rw [if_pos c4]
          refine ⟨?_,fun e=>c1 (hnil e)⟩
          have b0:b=false:=by simpa using c1
          subst b0
          obtain ⟨_,_,_,_,e1⟩:=pt p 6 false y hP
          obtain ⟨_,e2,_,_,_⟩:=gv c3
          show putVal (putTlv [] 6 (putOid O.1)) V.1 V.2.1 V.2.2.1 V.2.2.2.1=l
          rw [putVal_app,e2,ro c2,← e1,c4]
          simp only [Int.toNat_natCast,List.take_length,Int.toNat_zero,List.drop_zero]
          exact List.take_append_drop _ _
        · rw [if_neg c4] at h
          simp [noB] at h
      · rw [if_neg c3] at h
        simp [noB] at h
    · rw [if_neg c2] at h
      simp [noB] at h

def noPdu:Int × Int × Int × Int × List S116 × Bool:=(0,0,0,0,[],false)
theorem bindsB_append:∀(a b:List S116),bindsB (a++b)=bindsB a++bindsB b
  |[],b=>rfl
  |x::r,b=>by simp only [List.cons_append,bindsB,bindsB_append r b,List.append_assoc]
theorem tlvBytes_pos (t:Int) (y:List Int):1≤(tlvBytes t y).length:=by
  unfold tlvBytes
  simp only [List.length_append,List.length_cons,List.length_nil]
  omega
theorem pduOk_long (t a b c:Int) (l:List S116) (h:10<l.length):pduOk t a b c l=false:=by
  cases e:pduOk t a b c l with
  |false=>rfl
  |true=>have:=(pduOk_kind e).2.1;omega
theorem s_fin_no (x0 x5:List Int) (x6:Int) (x7:Bool) (x8:List Int) (x9:Int) (t a b c:Int) (L:List S116) (Q:List Int) (p:Int) (bd:Bool):Ev (fun k=>aT.j1 k x0 x5 x6 x7 false x8 x9 true t a b c L Q p bd) noPdu:=by
  refine Ev.succ ?_
  simp only [aT.j1,Bool.false_eq_true,if_false,if_true,ite_self]
  exact Ev.now _
theorem s_bad (x0 x5:List Int) (x6:Int) (x7:Bool) (x8:List Int) (x9:Int) (t a b c:Int) (L:List S116) (Q:List Int) (p:Int) (bd:Bool):Ev (fun k=>aT.l0 k x0 x5 x6 x7 x8 x9 true t a b c L Q p bd) noPdu:=by
  refine Ev.succ ?_
  simp only [aT.l0,if_true]
  exact s_fin_no _ _ _ _ _ _ _ _ _ _ _ _ _ _
theorem s_fin (x0 x5:List Int) (x6:Int) (x7:Bool) (x8:List Int) (x9:Int) (t a b c:Int) (L:List S116) (Q:List Int) (p:Int) (bd:Bool) (hL:L.length≤1048576) (hw:∀y ∈ L,smallI y):Ev (fun k=>aT.j1 k x0 x5 x6 x7 false x8 x9 false t a b c L Q p bd) (if x7=true then (if x6=(x0.length:Int) then (if x9=(x5.length:Int) then (if p=(Q.length:Int) then (if pduOk t a b c L=true then (t,a,b,c,L,true) else noPdu) else noPdu) else noPdu) else noPdu) else noPdu):=by
  refine Ev.succ ?_
  simp only [aT.j1,Bool.false_eq_true,if_false]
  refine Ev.ite (fun _=>Ev.ite (fun _=>Ev.ite (fun _=>Ev.ite (fun _=>?_) (fun _=>Ev.now _)) (fun _=>Ev.now _)) (fun _=>Ev.now _)) (fun _=>Ev.now _)
  refine Ev.bind (sPduOk_ev t a b c L hL hw) ?_
  exact Ev.ite (fun _=>Ev.now _) (fun _=>Ev.now _)
theorem s_long (x0 x5:List Int) (x6:Int) (x7:Bool) (x8:List Int) (x9:Int) (t a b c:Int) (L:List S116) (Q:List Int) (p:Int) (bd:Bool) (hL:L.length=11) (hw:∀y ∈ L,smallI y):Ev (fun k=>aT.l0 k x0 x5 x6 x7 x8 x9 false t a b c L Q p bd) noPdu:=by
  have h:=s_fin x0 x5 x6 x7 x8 x9 t a b c L Q p bd (by omega) hw
  rw [pduOk_long t a b c L (by omega)] at h
  simp only [Bool.false_eq_true,if_false,ite_self] at h
  refine Ev.succ ?_
  simp only [aT.l0,Bool.false_eq_true,if_false,decide_eq_false (show ¬((L.length:Int)≤10) by omega),ite_self]
  exact h
theorem pdu_loops (x0 x5:List Int) (x6:Int) (x7:Bool) (x8:List Int) (x9:Int) (t a b c:Int) (Q:List Int) (hQ:bys Q) (hq:Q.length≤1048576):∀(n:Nat) (L:List S116) (p:Int),(Q.length:Int) - p≤n→0≤p→p≤(Q.length:Int)→L.length≤10→(∀y ∈ L,smallI y)→bindsB L=Q.take p.toNat→
    (∃L':List S116,L'.length≤10∧(∀y ∈ L',smallI y)∧bindsB L'=Q∧
      (∀r,Ev (fun k=>(bB.f k t a b c L').bind fun v=>if (v.length:Int)=0 then some noPdu else if (strOfNums v).toList=(strOfNums x0).toList then some (t,a,b,c,L',true) else some noPdu) r→Ev (fun k=>bY.l0 k x0 t a b c L Q p false) r)∧
      (∀r,Ev (fun k=>aT.j1 k x0 x5 x6 x7 false x8 x9 false t a b c L' Q (Q.length:Int) false) r→Ev (fun k=>aT.l0 k x0 x5 x6 x7 x8 x9 false t a b c L Q p false) r))∨
    (Ev (fun k=>bY.l0 k x0 t a b c L Q p false) noPdu∧Ev (fun k=>aT.l0 k x0 x5 x6 x7 x8 x9 false t a b c L Q p false) noPdu):=by
  intro n
  induction n with
  |zero=>
    intro L p h1 h2 h3 h4 h5 h6
    obtain rfl:p=(Q.length:Int):=by omega
    refine .inl ⟨L,h4,h5,by rw [h6,Int.toNat_natCast,List.take_length],fun r hr=>?_,fun r hr=>?_⟩
    · refine Ev.succ ?_
      simp only [bY.l0,if_neg (show ¬(Q.length:Int)<(Q.length:Int) by omega)]
      exact hr
    · refine Ev.succ ?_
      simp only [aT.l0,Bool.false_eq_true,if_false,if_neg (show ¬(Q.length:Int)<(Q.length:Int) by omega)]
      exact hr
  |succ n ih=>
    intro L p h1 h2 h3 h4 h5 h6
    by_cases hlt:p<(Q.length:Int)
    rotate_left
    · obtain rfl:p=(Q.length:Int):=by omega
      refine .inl ⟨L,h4,h5,by rw [h6,Int.toNat_natCast,List.take_length],fun r hr=>?_,fun r hr=>?_⟩
      · refine Ev.succ ?_
        simp only [bY.l0,if_neg (show ¬(Q.length:Int)<(Q.length:Int) by omega)]
        exact hr
      · refine Ev.succ ?_
        simp only [aT.l0,Bool.false_eq_true,if_false,if_neg (show ¬(Q.length:Int)<(Q.length:Int) by omega)]
        exact hr
    obtain ⟨p1,p2,p3⟩:=partP_in Q p false 48 hQ ⟨h2,h3⟩
    have sp:=sPart_ev Q p false 48 hQ hq ⟨h2,h3⟩
    have ip:=iPart_ev Q p false 48 hQ hq ⟨h2,h3⟩
    have pt:=part_true Q hQ p
    have pn:(partP Q p false 48).2.2=true→(partP Q p false 48).1=[]:=by
      unfold partP
      simp only [Bool.false_eq_true,if_false]
      intro h
      split at h
      · split at h
        · cases h
        · rename_i c1 c2
          rw [if_pos c1,if_neg c2]
      · rename_i c1
        rw [if_neg c1]
    generalize hP:partP Q p false 48=P at p1 p2 p3 sp ip pn
    obtain ⟨y,p',bd⟩:=P
    replace p1:0≤p'∧p'≤(Q.length:Int):=p1
    replace p2:bys y:=p2
    replace p3:y.length≤Q.length:=p3
    replace pn:bd=true→y=[]:=pn
    obtain ⟨R,sb,ib,sm,rb⟩:=bind_both y p2 (by omega)
    have iH:∀r,Ev (fun k=>if R.2.2.2.2.2=true then (if (L.length:Int)≥10 then some noPdu else if L.length<1759218604441 then bY.l0 k x0 t a b c (L++[mkB R]) Q p' bd else none) else some noPdu) r→Ev (fun k=>bY.l0 k x0 t a b c L Q p false) r:=by
      intro r hr
      refine Ev.succ ?_
      simp only [bY.l0,if_pos hlt]
      exact Ev.bind ip (Ev.bind ib hr)
    have sH:∀r,Ev (fun k=>if bd=true then aT.l0 k x0 x5 x6 x7 x8 x9 true t a b c (L++[mkB R]) Q p' bd else aT.l0 k x0 x5 x6 x7 x8 x9 (!R.2.2.2.2.2) t a b c (L++[mkB R]) Q p' bd) r→Ev (fun k=>aT.l0 k x0 x5 x6 x7 x8 x9 false t a b c L Q p false) r:=by
      intro r hr
      refine Ev.succ ?_
      simp only [aT.l0,Bool.false_eq_true,if_false,if_pos hlt,decide_eq_true (show (L.length:Int)≤10 by omega)]
      refine Ev.succ ?_
      simp only [aT.j1,if_true,if_pos (show L.length<1759218604441 by omega)]
      exact Ev.bind sp (Ev.bind sb hr)
    by_cases hok:R.2.2.2.2.2=true
    rotate_left
    · refine .inr ⟨iH _ ?_,sH _ ?_⟩
      · simp only [if_neg hok]
        exact Ev.now _
      · rw [show R.2.2.2.2.2=false by simpa using hok]
        simp only [Bool.not_false,ite_self]
        exact s_bad _ _ _ _ _ _ _ _ _ _ _ _ _ _
    obtain ⟨rb1,rb2⟩:=rb hok
    obtain rfl:bd=false:=by
      cases bd with
      |false=>rfl
      |true=>exact absurd (pn rfl) rb2
    obtain ⟨_,q2,q3,_,q5⟩:=pt p' 48 false y hP
    rw [show putTlv [] 48 y=tlvBytes 48 y by rw [put48 [] y (by omega),List.nil_append]] at q5
    have hnw:∀z ∈ L++[mkB R],smallI z:=by
      intro z hz
      rcases List.mem_append.1 hz with hz|hz
      · exact h5 z hz
      · rw [List.mem_singleton.1 hz]
        exact sm
    have hll:(L++[mkB R]).length=L.length+1:=by simp
    by_cases h10:L.length=10
    · refine .inr ⟨iH _ ?_,sH _ ?_⟩
      · simp only [if_pos hok,if_pos (show (L.length:Int)≥10 by omega)]
        exact Ev.now _
      · rw [hok]
        simp only [Bool.not_true,Bool.false_eq_true,if_false]
        exact s_long _ _ _ _ _ _ _ _ _ _ _ _ _ _ (by omega) hnw
    have hgt:p<p':=by
      have h:=congrArg List.length q5
      have h':=tlvBytes_pos 48 y
      rw [List.length_drop,List.length_take] at h
      omega
    have hb2:bindsB (L++[mkB R])=Q.take p'.toNat:=by
      rw [bindsB_append,take_join (show p≤p' by omega) q5,h6]
      simp only [bindsB,List.append_nil,rb1]
    rcases ih (L++[mkB R]) p' (by omega) (by omega) (by omega) (by omega) hnw hb2 with ⟨L',a1,a2,a3,a4,a5⟩|⟨b1,b2⟩
    · refine .inl ⟨L',a1,a2,a3,fun r hr=>iH _ ?_,fun r hr=>sH _ ?_⟩
      · simp only [if_pos hok,if_neg (show ¬(L.length:Int)≥10 by omega),if_pos (show L.length<1759218604441 by omega)]
        exact a4 r hr
      · rw [hok]
        simp only [Bool.not_true,Bool.false_eq_true,if_false]
        exact a5 r hr
    · refine .inr ⟨iH _ ?_,sH _ ?_⟩
      · simp only [if_pos hok,if_neg (show ¬(L.length:Int)≥10 by omega),if_pos (show L.length<1759218604441 by omega)]
        exact b1
      · rw [hok]
        simp only [Bool.not_true,Bool.false_eq_true,if_false]
        exact b2
theorem getPdu_both (l:List Int) (hb:bys l) (hl:l.length≤1048576):∃R:Int × Int × Int × Int × List S116 × Bool,Ev (fun k=>aT.f k l) R∧Ev (fun k=>bY.f k l) R∧(R=noPdu∨(R.2.2.2.2.2=true∧pduOk R.1 R.2.1 R.2.2.1 R.2.2.2.1 R.2.2.2.2.1=true∧putPdu R.1 R.2.1 R.2.2.1 R.2.2.2.1 R.2.2.2.2.1=l∧∀y ∈ R.2.2.2.2.1,smallI y)):=by
  have sT:=sGetTlv_ev l 0 hb hl (by omega)
  have iT:=iGetTlv_ev l 0 hb hl (by omega)
  obtain ⟨t1,t2⟩:=getTlv_in l 0 hb
  have t3:=getTlv_len l 0
  have tt:=getTlv_true l hb 0
  generalize hT:getTlv l 0=T at sT iT t1 t2 t3
  obtain ⟨t,B,nx,ok⟩:=T
  replace t2:bys B:=t2
  replace t3:B.length≤l.length:=t3
  have hB:B.length≤1048576:=by omega
  have r0:(0:Int)≤0∧(0:Int)≤(B.length:Int):=by omega
  have s1:=sNum_ev B 0 false t2 hB r0
  have i1:=iNum_ev B 0 false 2 t2 hB r0
  have r1:=numP_in B 0 false 2 t2 r0
  have e1:=num_true B t2 0
  generalize h1:numP B 0 false 2=N1 at s1 i1 r1
  obtain ⟨a,p1,b1⟩:=N1
  replace r1:0≤p1∧p1≤(B.length:Int):=r1
  have s2:=sNum_ev B p1 b1 t2 hB r1
  have i2:=iNum_ev B p1 b1 2 t2 hB r1
  have r2:=numP_in B p1 b1 2 t2 r1
  have e2:=num_true B t2 p1
  generalize h2:numP B p1 b1 2=N2 at s2 i2 r2
  obtain ⟨b,p2,b2⟩:=N2
  replace r2:0≤p2∧p2≤(B.length:Int):=r2
  have s3:=sNum_ev B p2 b2 t2 hB r2
  have i3:=iNum_ev B p2 b2 2 t2 hB r2
  have r3:=numP_in B p2 b2 2 t2 r2
  have e3:=num_true B t2 p2
  generalize h3:numP B p2 b2 2=N3 at s3 i3 r3
  obtain ⟨c,p3,b3⟩:=N3
  replace r3:0≤p3∧p3≤(B.length:Int):=r3
  have s4:=sPart_ev B p3 b3 48 t2 hB r3
  have i4:=iPart_ev B p3 b3 48 t2 hB r3
  obtain ⟨r4,q4,l4⟩:=partP_in B p3 b3 48 t2 r3
  have e4:=part_true B t2 p3
  generalize h4:partP B p3 b3 48=P4 at s4 i4 r4 q4 l4
  obtain ⟨Q,p4,b4⟩:=P4
  replace r4:0≤p4∧p4≤(B.length:Int):=r4
  replace q4:bys Q:=q4
  replace l4:Q.length≤B.length:=l4
  have sF:∀r,Ev (fun k=>aT.l0 k l B nx ok B p4 b4 t a b c [] Q 0 false) r→Ev (fun k=>aT.f k l) r:=by
    intro r hr
    unfold aT.f
    exact Ev.bind sT (Ev.bind s1 (Ev.bind s2 (Ev.bind s3 (Ev.bind s4 hr))))
  have iF:∀r,Ev (fun k=>if ok=true then (if (nx !=(l.length:Int))=true then some noPdu else if (if b4=true then (false,p4,b4) else ((p4==(B.length:Int)),p4,b4)).1=true then bY.l0 k l t a b c [] Q 0 false else some noPdu) else some noPdu) r→Ev (fun k=>bY.f k l) r:=by
    intro r hr
    unfold bY.f
    refine Ev.bind iT ?_
    by_cases c0:ok=true
    · simp only [if_pos c0] at hr ⊢
      refine Ev.succ ?_
      simp only [bY.j0]
      by_cases c1:(nx !=(l.length:Int))=true
      · simp only [if_pos c1] at hr ⊢
        exact hr
      · simp only [if_neg c1] at hr ⊢
        refine Ev.bind i1 (Ev.bind i2 (Ev.bind i3 (Ev.bind i4 ?_)))
        unfold dA.f
        by_cases c2:b4=true
        · simp only [if_pos c2,Option.bind_some] at hr ⊢
          exact hr
        · simp only [if_neg c2,Option.bind_some] at hr ⊢
          exact hr
    · simp only [if_neg c0] at hr ⊢
      refine Ev.succ ?_
      simp only [bY.j0,if_true]
      exact hr
  by_cases c4:b4=true
  · subst c4
    refine ⟨noPdu,sF _ (s_bad _ _ _ _ _ _ _ _ _ _ _ _ _ _),iF _ ?_,.inl rfl⟩
    simp only [if_true,Bool.false_eq_true,if_false,ite_self]
    exact Ev.now _
  obtain rfl:b4=false:=by simpa using c4
  simp only [Bool.false_eq_true,if_false] at iF
  obtain ⟨u1,u2,u3,_,u5⟩:=e4 p4 48 b3 Q h4
  rcases pdu_loops l B nx ok B p4 t a b c Q q4 (by omega) Q.length [] 0 (by omega) (by omega) (by omega) (by simp) (by simp) (by simp [bindsB]) with ⟨L',a1,a2,a3,a4,a5⟩|⟨x1,x2⟩
  rotate_left
  · refine ⟨noPdu,sF _ x2,iF _ ?_,.inl rfl⟩
    by_cases d1:ok=true
    · simp only [if_pos d1]
      by_cases d2:(nx !=(l.length:Int))=true
      · simp only [if_pos d2]
        exact Ev.now _
      · simp only [if_neg d2]
        by_cases d3:(p4==(B.length:Int))=true
        · simp only [if_pos d3]
          exact x1
        · simp only [if_neg d3]
          exact Ev.now _
    · simp only [if_neg d1]
      exact Ev.now _
  have sf:=s_fin l B nx ok B p4 t a b c L' Q (Q.length:Int) false (by omega) a2
  by_cases d1:ok=true
  rotate_left
  · simp only [if_neg d1] at sf iF
    exact ⟨noPdu,sF _ (a5 _ sf),iF _ (Ev.now _),.inl rfl⟩
  by_cases d2:nx=(l.length:Int)
  rotate_left
  · simp only [if_pos d1,if_neg d2] at sf
    simp only [if_pos d1,if_pos (show (nx !=(l.length:Int))=true by simpa using d2)] at iF
    exact ⟨noPdu,sF _ (a5 _ sf),iF _ (Ev.now _),.inl rfl⟩
  by_cases d3:p4=(B.length:Int)
  rotate_left
  · simp only [if_pos d1,if_pos d2,if_neg d3] at sf
    simp only [if_pos d1,if_neg (show ¬(nx !=(l.length:Int))=true by simp [d2]),if_neg (show ¬(p4==(B.length:Int))=true by simpa using d3)] at iF
    exact ⟨noPdu,sF _ (a5 _ sf),iF _ (Ev.now _),.inl rfl⟩
  simp only [if_pos d1,if_pos d2,if_pos d3,if_true] at sf
  simp only [if_pos d1,if_neg (show ¬(nx !=(l.length:Int))=true by simp [d2]),if_pos (show (p4==(B.length:Int))=true by simpa using d3)] at iF
  have ip:=iPutPdu_ev t a b c L' (by omega) a2
  by_cases d4:pduOk t a b c L'=true
  rotate_left
  · rw [if_neg d4] at sf
    refine ⟨noPdu,sF _ (a5 _ sf),iF _ (a4 _ (Ev.bind ip ?_)),.inl rfl⟩
    simp only [show putPdu t a b c L'=[] by unfold putPdu;rw [if_neg d4],List.length_nil,Int.natCast_zero,if_true]
    exact Ev.now _
  rw [if_pos d4] at sf
  have hput:putPdu t a b c L'=l:=by
    subst d1
    obtain ⟨v1,v2,v3⟩:=tt t nx B hT
    subst u1
    obtain ⟨w1,w2,w3⟩:=e3 p3 2 c b2 h3
    subst w1
    obtain ⟨y1,y2,y3⟩:=e2 p2 2 b b1 h2
    subst y1
    obtain ⟨_,z2,z3⟩:=e1 p1 2 a false h1
    have hk:=(pduOk_kind d4).1
    have hbody:numsB a b c++tlvBytes 48 Q=B:=by
      have g4:=take_join (show p3≤p4 by omega) u5
      have g3:=take_join (show p2≤p3 by omega) w3
      have g2:=take_join (show p1≤p2 by omega) y3
      have g1:=take_join (show (0:Int)≤p1 by omega) z3
      rw [g3,g2,g1,d3,Int.toNat_natCast,List.take_length,put48 [] Q (by omega)] at g4
      rw [g4]
      unfold numsB addP
      rw [putTlv_app (putTlv (putTlv [] 2 (putInt (clip a))) 2 (putInt (clip b))),putTlv_app (putTlv [] 2 (putInt (clip a)))]
      simp
    rw [d2] at v3
    simp only [Int.toNat_natCast,List.take_length,Int.toNat_zero,List.drop_zero] at v3
    unfold putPdu finP
    rw [if_pos d4,a3,if_pos (show (Q.length:Int)≤250 by omega),hbody,if_pos (show (B.length:Int)≤250 by omega),v3]
    unfold putTlv
    rw [tlvOkT t B hk,decide_eq_true (show (B.length:Int)≤250 by omega)]
    simp
  have hlen:¬(l.length:Int)=0:=by
    intro h0
    have:=congrArg List.length hput
    unfold putPdu finP at this
    rw [if_pos d4,a3] at this
    subst d1
    obtain ⟨v1,v2,v3⟩:=tt t nx B hT
    have hl0:l=[]:=List.length_eq_zero_iff.1 (by omega)
    subst hl0
    simp [getTlv,no4] at hT
  refine ⟨(t,a,b,c,L',true),sF _ (a5 _ sf),iF _ (a4 _ (Ev.bind ip ?_)),.inr ⟨rfl,d4,hput,a2⟩⟩
  simp only [hput,if_neg hlen,if_true]
  exact Ev.now _

def noMsg (c:Int):Int × Int × Int × Int × List S116 × Int:=(0,0,0,0,[],c)
def msgOf (R:Int × Int × Int × Int × List S116 × Bool):Int × Int × Int × Int × List S116 × Int:=if R.2.2.2.2.2=true then (R.1,R.2.1,R.2.2.1,R.2.2.2.1,R.2.2.2.2.1,0) else noMsg 1
def msgIn (s:ByteArray) (n:Int) (y:List Int) (R:Int × Int × Int × Int × List S116 × Bool):Int × Int × Int × Int × List S116 × Int:=if n=1 then (if (strOfNums y).toList=s.toList then msgOf R else noMsg 3) else noMsg 2
def goodMsg (R:Int × Int × Int × Int × List S116 × Int):Prop:=(0≤R.2.2.2.2.2∧R.2.2.2.2.2≤3)∧(R.2.2.2.2.2=0∨R.1=0)∧R.2.2.2.2.1.length≤10∧∀y ∈ R.2.2.2.2.1,smallI y
theorem noMsg_good (c:Int) (h:1≤c∧c≤3):goodMsg (noMsg c):=⟨⟨show 0≤c by omega,show c≤3 by omega⟩,.inr rfl,by simp [noMsg],by simp [noMsg]⟩
theorem getMsg_both (s:ByteArray) (l:List Int) (hb:bys l) (hl:l.length≤1048576):∃R,Ev (fun k=>dM.f k s l) R∧Ev (fun k=>cX.f k s l) R∧goodMsg R:=by
  have sT:=sGetTlv_ev l 0 hb hl (by omega)
  have iT:=iGetTlv_ev l 0 hb hl (by omega)
  obtain ⟨t1,t2⟩:=getTlv_in l 0 hb
  have t3:=getTlv_len l 0
  generalize hT:getTlv l 0=T at sT iT t1 t2 t3
  obtain ⟨t,B,nx,ok⟩:=T
  replace t2:bys B:=t2
  replace t3:B.length≤l.length:=t3
  have hB:B.length≤1048576:=by omega
  have r0:(0:Int)≤0∧(0:Int)≤(B.length:Int):=by omega
  have s1:=sNum_ev B 0 false t2 hB r0
  have i1:=iNum_ev B 0 false 2 t2 hB r0
  have r1:=numP_in B 0 false 2 t2 r0
  generalize numP B 0 false 2=N1 at s1 i1 r1
  obtain ⟨n,p1,b1⟩:=N1
  replace r1:0≤p1∧p1≤(B.length:Int):=r1
  have s2:=sPart_ev B p1 b1 4 t2 hB r1
  have i2:=iPart_ev B p1 b1 4 t2 hB r1
  obtain ⟨r2,q2,l2⟩:=partP_in B p1 b1 4 t2 r1
  generalize partP B p1 b1 4=P2 at s2 i2 r2 q2 l2
  obtain ⟨y,p2,b2⟩:=P2
  replace r2:0≤p2∧p2≤(B.length:Int):=r2
  obtain ⟨R,sR,iR,hR⟩:=getPdu_both (B.drop p2.toNat) (fun z hz=>t2 z (List.mem_of_mem_drop hz)) (by rw [List.length_drop];omega)
  have gR:goodMsg (msgOf R):=by
    unfold msgOf
    split
    · rename_i h
      rcases hR with rfl|⟨_,h1,_,h3⟩
      · simp [noPdu] at h
      · have:=(pduOk_kind h1).2.1
        exact ⟨⟨show (0:Int)≤0 by omega,show (0:Int)≤3 by omega⟩,.inl rfl,show R.2.2.2.2.1.length≤_ by omega,h3⟩
    · exact noMsg_good 1 (by omega)
  have gI:goodMsg (msgIn s n y R):=by
    unfold msgIn
    split
    · split
      · exact gR
      · exact noMsg_good 3 (by omega)
    · exact noMsg_good 2 (by omega)
  have sJ:∀q,Ev (fun k=>dM.j0 k s B n y q B p2 b2) (if q=true then noMsg 1 else msgIn s n y R):=by
    intro q
    refine Ev.succ ?_
    simp only [dM.j0,if_pos r2.1,if_pos r2.2]
    unfold msgIn msgOf
    refine Ev.ite (fun _=>Ev.now _) (fun _=>Ev.ite (fun _=>Ev.ite (fun _=>Ev.bind sR ?_) (fun _=>Ev.now _)) (fun _=>Ev.now _))
    exact Ev.ite (fun _=>Ev.now _) (fun _=>Ev.now _)
  have iJ:∀q,Ev (fun k=>cX.j0 k s B q) (if q=true then noMsg 1 else if b2=true then noMsg 1 else msgIn s n y R):=by
    intro q
    refine Ev.succ ?_
    simp only [cX.j0]
    refine Ev.ite (fun _=>Ev.now _) (fun _=>Ev.bind i1 (Ev.bind i2 ?_))
    simp only [if_pos r2.1,if_pos r2.2]
    unfold msgIn msgOf
    refine Ev.ite (fun _=>Ev.now _) (fun _=>Ev.ite (fun _=>Ev.ite (fun _=>Ev.bind iR ?_) (fun _=>Ev.now _)) (fun _=>Ev.now _))
    exact Ev.ite (fun _=>Ev.now _) (fun _=>Ev.now _)
  have sF:∀r,Ev (fun k=>if ok=true then (if t=48 then (if nx=(l.length:Int) then dM.j0 k s B n y b2 B p2 b2 else dM.j0 k s B n y true B p2 b2) else dM.j0 k s B n y true B p2 b2) else dM.j0 k s B n y true B p2 b2) r→Ev (fun k=>dM.f k s l) r:=by
    intro r hr
    unfold dM.f
    exact Ev.bind sT (Ev.bind s1 (Ev.bind s2 hr))
  have iF:∀r,Ev (fun k=>if ok=true then (if t=48 then cX.j0 k s B (nx !=(l.length:Int)) else cX.j0 k s B true) else cX.j0 k s B true) r→Ev (fun k=>cX.f k s l) r:=by
    intro r hr
    unfold cX.f
    exact Ev.bind iT hr
  have s0:=sJ true
  have i0:=iJ true
  simp only [if_true] at s0 i0
  by_cases d1:ok=true
  rotate_left
  · simp only [if_neg d1] at sF iF
    exact ⟨noMsg 1,sF _ s0,iF _ i0,noMsg_good 1 (by omega)⟩
  by_cases d2:t=48
  rotate_left
  · simp only [if_pos d1,if_neg d2] at sF iF
    exact ⟨noMsg 1,sF _ s0,iF _ i0,noMsg_good 1 (by omega)⟩
  by_cases d3:nx=(l.length:Int)
  rotate_left
  · simp only [if_pos d1,if_pos d2,if_neg d3] at sF
    simp only [if_pos d1,if_pos d2,show (nx !=(l.length:Int))=true by simpa using d3] at iF
    exact ⟨noMsg 1,sF _ s0,iF _ i0,noMsg_good 1 (by omega)⟩
  simp only [if_pos d1,if_pos d2,if_pos d3] at sF
  simp only [if_pos d1,if_pos d2,show (nx !=(l.length:Int))=false by simp [d3]] at iF
  have s3:=sJ b2
  have i3:=iJ false
  simp only [Bool.false_eq_true,if_false] at i3
  refine ⟨_,sF _ s3,iF _ i3,?_⟩
  split
  · exact noMsg_good 1 (by omega)
  · exact gI

theorem eqVal_ev (a b:Int) (s:ByteArray) (l:List Int) (h:l.length≤1099511627776):Ev (fun k=>eY.f k a b s l a b s l) true:=by
  unfold eY.f
  simp only [↓reduceIte]
  refine Ev.bind (eqIntS_ev l l h) ?_
  simp only [decide_true,↓reduceIte]
  exact Ev.now _

theorem eqBind_ev (r:S116) (h:smallI r):Ev (fun k=>eV.f k r.f0 r.f1.f0 r.f1.f1 r.f1.f2 r.f1.f3 r.f0 r.f1.f0 r.f1.f1 r.f1.f2 r.f1.f3) true:=by
  unfold eV.f
  have h1:=h.1
  have h2:=h.2
  refine Ev.bind (eqIntS_ev _ _ (by omega)) ?_
  simp only [decide_true,↓reduceIte]
  refine Ev.bind (eqVal_ev _ _ _ _ (by omega)) ?_
  simp only [↓reduceIte]
  exact Ev.now _
theorem eqBindS_loop (a:List S116):∀(pre:List S116),pre.length+a.length≤1048576→(∀y ∈ a,smallI y)→
    Ev (fun k=>bM.l0 k (pre++a) (pre++a) (pre.length:Int)) true:=by
  induction a with
  |nil=>
    intro pre hn _
    refine Ev.succ ?_
    simp only [bM.l0]
    simp only [List.append_nil,if_neg (show ¬(pre.length:Int)<(pre.length:Int) by omega)]
    exact Ev.now _
  |cons r a ih=>
    intro pre hn hw
    simp only [List.length_cons] at hn
    have h:=ih (pre++[r]) (by simp only [List.length_append,List.length_cons,List.length_nil];omega) (fun y hy=>hw y (List.mem_cons_of_mem _ hy))
    simp only [List.append_assoc,List.cons_append,List.nil_append] at h
    rw [show ((pre++[r]).length:Int)=(pre.length:Int)+1 by simp] at h
    refine Ev.succ ?_
    simp only [bM.l0]
    simp only [if_pos (show (pre.length:Int)<((pre++r::a).length:Int) by simp only [List.length_append,List.length_cons];omega),if_pos (show (0:Int)≤(pre.length:Int) by omega),rdIB_mid,w64 (x:=(pre.length:Int)+1) (by omega) (by omega)]
    refine Ev.bind (eqBind_ev r (hw r List.mem_cons_self)) ?_
    simp only [↓reduceIte]
    exact h
theorem eqBindS_ev (a:List S116) (h:a.length≤1048576) (hw:∀y ∈ a,smallI y):Ev (fun k=>bM.f k a a) true:=by
  unfold bM.f
  simp only [↓reduceIte]
  have h:=eqBindS_loop a [] (by simp only [List.length_nil];omega) hw
  simpa using h

theorem eqPdu_ev (t id es ei:Int) (l:List S116) (h:l.length≤1048576) (hw:∀y ∈ l,smallI y):Ev (fun k=>dR.f k t id es ei l t id es ei l) true:=by
  unfold dR.f
  simp only [↓reduceIte]
  refine Ev.bind (eqBindS_ev l h hw) ?_
  simp only [↓reduceIte]
  exact Ev.now _

def marks:List S116→Nat
  |[]=>0
  |x::r=>x.f0.length+3+x.f1.f3.length+marks r
theorem marks_le:∀l:List S116,(∀y ∈ l,smallI y)→marks l≤l.length*2097155
  |[],_=>by simp [marks]
  |x::r,h=>by
    have h1:=h x List.mem_cons_self
    have h2:=marks_le r (fun y hy=>h y (List.mem_cons_of_mem _ hy))
    unfold smallI at h1
    simp only [marks,List.length_cons]
    omega
theorem text_loop:∀(n:Nat) (x:Int) (s:ByteArray),x≤(n:Int)→n≤4611686018427387904→s.size+n≤4611686018427387904→∃r,Ev (fun k=>b9.l0 k x s) r
  |n,x,s,h1,h2,h3=>by
    by_cases h:x>0
    rotate_left
    · refine ⟨(⟨#[109]⟩:ByteArray)++s,Ev.succ ?_⟩
      simp only [b9.l0,if_neg h,if_pos (show 1+s.size≤9223372036854775807 by omega)]
      exact Ev.now _
    · cases n with
      |zero=>omega
      |succ m=>
        have e:Int.tdiv x 10=x / 10:=Int.tdiv_eq_ediv_of_nonneg (by omega)
        have ez:∀v:Int,(strOfNums [v]).size=1:=fun v=>rfl
        obtain ⟨r,hr⟩:=text_loop m (x / 10) (strOfNums [(wrap64 (48+(Int.tmod x 10))) % 256]++s) (by omega) (by omega) (by rw [ByteArray.size_append,ez];omega)
        refine ⟨r,Ev.succ ?_⟩
        simp only [b9.l0,if_pos h,Option.bind_some,ez]
        simp only [if_pos (show 1+s.size≤9223372036854775807 by omega),e,w64 (x:=x / 10) (by omega) (by omega)]
        exact hr
theorem text_ev (x:Int) (h:x≤4611686018427387904):∃r,Ev (fun k=>b9.f k x) r:=by
  unfold b9.f
  by_cases c:x≤0
  · refine ⟨(⟨#[109,48]⟩:ByteArray),?_⟩
    simp only [if_pos c]
    exact Ev.now _
  · simp only [if_neg c]
    exact text_loop x.toNat x _ (by omega) (by omega) (by have:(⟨#[]⟩:ByteArray).size=0:=rfl;omega)
theorem markB_loop (rest:List S116):∀(pre:List S116) (y:Int),0≤y→y+(marks rest:Int)≤1099511627776→pre.length+rest.length≤1048576→(∀x ∈ rest,smallI x)→
    ∃rest':List S116,Ev (fun k=>cV.l0 k (pre++rest) y (pre.length:Int)) (y+(marks rest:Int),pre++rest')∧Ev (fun k=>bI.l0 k (pre++rest') y (pre.length:Int)) (y+(marks rest:Int)):=by
  induction rest with
  |nil=>
    intro pre y _ _ _ _
    refine ⟨[],Ev.succ ?_,Ev.succ ?_⟩
    · simp only [cV.l0]
      simp only [List.append_nil,if_neg (show ¬(pre.length:Int)<(pre.length:Int) by omega),marks,Int.natCast_zero,Int.add_zero]
      exact Ev.now _
    · simp only [bI.l0]
      simp only [List.append_nil,if_neg (show ¬(pre.length:Int)<(pre.length:Int) by omega),marks,Int.natCast_zero,Int.add_zero]
      exact Ev.now _
  |cons r rest ih=>
    intro pre y h0 h1 hn hw
    simp only [List.length_cons] at hn
    simp only [marks] at h1
    have hr:=hw r List.mem_cons_self
    have s0:=hr.1
    have s4:=hr.2
    have e1:=markIntS_ev r.f0 y h0 (by omega) (by omega)
    have g1:=heldIntS_ev y r.f0.length h0 (by omega) (by omega)
    obtain ⟨s,e2⟩:=text_ev (y+(r.f0.length:Int)+1+1) (by omega)
    have e3:=markIntS_ev r.f1.f3 (y+(r.f0.length:Int)+1+1+1) (by omega) (by omega) (by omega)
    have g3:=heldIntS_ev (y+(r.f0.length:Int)+1+1+1) r.f1.f3.length (by omega) (by omega) (by omega)
    have w1:wrap64 (y+(r.f0.length:Int)+1)=y+(r.f0.length:Int)+1:=w64 (by omega) (by omega)
    have w2:wrap64 (y+(r.f0.length:Int)+1+1)=y+(r.f0.length:Int)+1+1:=w64 (by omega) (by omega)
    have w3:wrap64 (y+(r.f0.length:Int)+1+1+1)=y+(r.f0.length:Int)+1+1+1:=w64 (by omega) (by omega)
    obtain ⟨r',hr'⟩:∃r':S116,r'=⟨marksInt y r.f0.length,⟨y+(r.f0.length:Int),y+(r.f0.length:Int)+1,s,marksInt (y+(r.f0.length:Int)+1+1+1) r.f1.f3.length⟩⟩:=⟨_,rfl⟩
    obtain ⟨rest',m1,m2⟩:=ih (pre++[r']) (y+(r.f0.length:Int)+1+1+1+(r.f1.f3.length:Int)) (by omega) (by omega) (by simp only [List.length_append,List.length_cons,List.length_nil];omega) (fun x hx=>hw x (List.mem_cons_of_mem _ hx))
    simp only [List.append_assoc,List.cons_append,List.nil_append] at m1 m2
    rw [show ((pre++[r']).length:Int)=(pre.length:Int)+1 by simp] at m1 m2
    have hv:y+(r.f0.length:Int)+1+1+1+(r.f1.f3.length:Int)+(marks rest:Int)=y+(marks (r::rest):Int):=by
      simp only [marks]
      omega
    rw [hv] at m1 m2
    have a1:(pre.length:Int)<((pre++r::rest).length:Int):=by simp only [List.length_append,List.length_cons];omega
    have a2:(pre.length:Int)<((pre++r'::rest').length:Int):=by simp only [List.length_append,List.length_cons];omega
    refine ⟨r'::rest',Ev.succ ?_,Ev.succ ?_⟩
    · simp only [cV.l0,if_pos a1,if_pos (show (0:Int)≤(pre.length:Int) by omega),rdIB_mid,set_mid,w64 (x:=(pre.length:Int)+1) (by omega) (by omega)]
      refine Ev.bind e1 ?_
      simp only [w1,w2,w3]
      refine Ev.bind e2 (Ev.bind e3 ?_)
      rw [← hr']
      exact m1
    · simp only [bI.l0,if_pos a2,if_pos (show (0:Int)≤(pre.length:Int) by omega),rdIB_mid,w64 (x:=(pre.length:Int)+1) (by omega) (by omega)]
      rw [hr'] at m2 ⊢
      refine Ev.bind g1 ?_
      simp only [w1,w2,w3,if_neg (show ¬y+(r.f0.length:Int)<0 by omega),if_true]
      refine Ev.bind e2 ?_
      simp only [if_true]
      refine Ev.bind g3 ?_
      simp only [if_neg (show ¬y+(r.f0.length:Int)+1+1+1+(r.f1.f3.length:Int)<0 by omega)]
      exact m2
theorem markPdu_ev (t a b c:Int) (l:List S116) (h:l.length≤10) (hw:∀x ∈ l,smallI x):∃l',Ev (fun k=>eQ.f k t a b c l 1) (1+(marks l:Int),l')∧Ev (fun k=>eB.f k t a b c l' 1) (1+(marks l:Int)):=by
  have hm:=marks_le l hw
  obtain ⟨l',m1,m2⟩:=markB_loop l [] 1 (by omega) (by omega) (by simp only [List.length_nil];omega) hw
  simp only [List.nil_append,List.length_nil,Int.natCast_zero] at m1 m2
  refine ⟨l',?_,?_⟩
  · unfold eQ.f cV.f
    exact m1
  · unfold eB.f bI.f
    refine Ev.bind m2 ?_
    simp only [if_neg (show ¬(1:Int)+(marks l:Int)<0 by omega)]
    exact Ev.now _

theorem FnExactGetMsg:laws_FnExactGetMsg.Pure:=by
  intro w l0 hw0 hl hbb
  refine Ev.rounds ?_
  unfold laws_FnExactGetMsg.f
  by_cases bw:(w.size:Int)>1048576
  · simp only [if_pos bw];exact Ev.now _
  simp only [if_neg bw]
  by_cases bl0:(l0.length:Int)>1048576
  · simp only [if_pos bl0];exact Ev.now _
  simp only [if_neg bl0]
  have hsm:l0.length≤1048576:=by omega
  obtain ⟨R,hs,hi,_,_,n1,hw⟩:=getMsg_both w l0 (fun y hy=>wf8 (hbb y hy)) hsm
  have hT:=toByteS_ev l0 hsm
  have hE:=eqPdu_ev R.1 R.2.1 R.2.2.1 R.2.2.2.1 R.2.2.2.2.1 (by omega) hw
  obtain ⟨l',m1,m2⟩:=markPdu_ev R.1 R.2.1 R.2.2.1 R.2.2.2.1 R.2.2.2.2.1 n1 hw
  have hB:=eqByteS_ev l0 l0 (by omega)
  have hM:=markByteS_ev l0 1 (by omega) (by omega) (by omega)
  refine Ev.bind hT (Ev.bind hs (Ev.bind hT (Ev.bind hi (Ev.bind hE ?_))))
  simp only [if_true,bne_self_eq_false]
  refine Ev.succ ?_
  simp only [laws_FnExactGetMsg.j0,Bool.false_eq_true,if_false]
  refine Ev.bind hT (Ev.bind hB ?_)
  simp only [decide_true,if_true]
  refine Ev.bind hM ?_
  simp only [if_neg (show ¬(1:Int)+(l0.length:Int)<0 by omega)]
  refine Ev.bind hE ?_
  simp only [if_true,bne_self_eq_false]
  refine Ev.succ ?_
  simp only [laws_FnExactGetMsg.j1,Bool.false_eq_true,if_false]
  refine Ev.bind m1 (Ev.bind m2 ?_)
  simp only [if_neg (show ¬(1:Int)+(marks R.2.2.2.2.1:Int)<0 by omega),if_true]
  refine Ev.bind hT (Ev.bind hi (Ev.bind hE ?_))
  simp only [if_true,bne_self_eq_false]
  refine Ev.succ ?_
  simp only [laws_FnExactGetMsg.j2,Bool.false_eq_true,if_false]
  refine Ev.bind m2 ?_
  simp only [if_neg (show ¬(1:Int)+(marks R.2.2.2.2.1:Int)<0 by omega),if_true]
  exact Ev.now _

end Go.Proofs.Ythhnfmbfgplelaa.Pure
