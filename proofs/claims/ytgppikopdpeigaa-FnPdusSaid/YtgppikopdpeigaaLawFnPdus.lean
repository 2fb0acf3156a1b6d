/- The functions that one law reaches, as Lean functions, with their walks: printed by a program of this seat (wip/tools) out of the translation. -/
import Derived.Test.YtgppikopdpeigaaRows
import Derived.Test.YtgppikopdpeigaaXFnPdusx28
import Derived.Test.YtgppikopdpeigaaPureFnPdus
import Derived.WalkKit
import Derived.ProofKit
import Derived.OpenShut
import Derived.ShutString
import Derived.ChangeOld
import Derived.Below
import Derived.SizedLaws
import Derived.Deep.Slices
import Derived.ChangeArms
namespace Go.Proofs.Ytgppikopdpeigaa.fnPdus
open Go.ChangeShapes Go.WideShapes Go.ChangeAt Go.RowKit
open Go.ChangeMaps (open_string shut_string)
open Go.Proofs.Ytgppikopdpeigaa.XFnPdus Go.Proofs.YtgppikopdpeigaaW.PrintWords Go.Proofs.YtgppikopdpeigaaW.PrintLast
set_option linter.unusedVariables false
set_option linter.unusedSimpArgs false
theorem own:ownKnob Try.prog.godebug=none:=by kernel_rfl
theorem laidOut:laidOutB Try.prog=true:=by kernel_rfl
/-- A value of type t that can be read: its cells are of the kind d, and of a value that is right. -/
def Opens {α:Type} (P:Program) (t:TypeId) (d:Kd α) (WF:α→Prop):Prop:=
  ∀{H:Type} {enc:TypeId × Value→H} {w:World} {fuel:Nat} {cs:List Value} {x:DataW H × List MemPlace},DataW.trod enc P w 0 (fun _=>true) true fuel t cs=some x→∃a:α,d.K w a cs∧WF a
theorem opens_int {P:Program} {t:TypeId} {k:IntKind} (ht:P.underlying t=some (.int k)):Opens P t (Kd.int k) (fun x=>(Lit.int k x).wf=true):=by
  intro H enc w fuel cs x h
  obtain ⟨n,hcs,_,hw⟩:=DataW.trod_int ht h
  exact ⟨n,hcs,hw⟩
theorem opens_bool {P:Program} {t:TypeId} (ht:P.underlying t=some .bool):Opens P t Kd.bool (fun _=>True):=by
  intro H enc w fuel cs x h
  obtain ⟨b,hcs,_⟩:=DataW.trod_bool ht h
  exact ⟨b,hcs,trivial⟩
theorem opens_string {P:Program} {t:TypeId} (ht:P.underlying t=some .string):Opens P t Kd.string (fun s=>s.size≤maxLen):=by
  intro H enc w fuel cs x h
  obtain ⟨s,hcs,_,hs⟩:=DataW.trod_string ht h
  exact ⟨s,hcs,hs⟩
theorem opens_elems {α:Type} {P:Program} {e:TypeId} {d:Kd α} {WF:α→Prop} (h:Opens P e d WF) (hc:P.cellsOf e=d.sz) {H:Type} {enc:TypeId × Value→H} {w:World} {a:Addr} {D:Nat→DataW H} {Pl:Nat→List MemPlace} {n:Nat}:
    ∀len:Nat,(∀i,i<len→∃cs',w.cells? 0 (a.add (i*P.cellsOf e)) (P.cellsOf e)=some cs'∧DataW.trod enc P w 0 (fun _=>true) true n e cs'=some (D i,Pl i))→
    ∃xs:List α,xs.length=len∧(∀y ∈ xs,WF y)∧∀j p,xs[j]? =some p→∃c,c.length=d.sz∧d.K w p c∧∀i u,c[i]? =some u→w.cell? (a.add (j*d.sz+i))=some u
  |0,_=>⟨[],rfl,by simp,by simp⟩
  |len+1,hi=>by
    obtain ⟨xs,hl,hw,hx⟩:=opens_elems h hc len (fun i h=>hi i (by omega))
    obtain ⟨cs',hcs,ht⟩:=hi len (by omega)
    obtain ⟨b,hK,hWF⟩:=h ht
    refine ⟨xs++[b],by simp [hl],fun y hy=>?_,fun j p hj=>?_⟩
    · rcases List.mem_append.1 hy with hy|hy
      · exact hw y hy
      · rw [List.mem_singleton.1 hy]
        exact hWF
    · by_cases hjl:j<xs.length
      · rw [List.getElem?_append_left hjl] at hj
        exact hx j p hj
      · have hj1:=(List.getElem?_eq_some_iff.1 hj).1
        rw [List.length_append,List.length_singleton] at hj1
        obtain rfl:j=len:=by omega
        have hp:b=p:=by
          rw [List.getElem?_append_right (by omega),hl,Nat.sub_self] at hj
          simpa using hj
        subst hp
        have hlen:cs'.length=d.sz:=d.K_len hK
        refine ⟨cs',hlen,hK,fun i u hu=>?_⟩
        obtain ⟨_,hcl,hat⟩:=World.cells?_some hcs
        have hil:i<P.cellsOf e:=by
          have:=(List.getElem?_eq_some_iff.1 hu).1
          omega
        have h2:=hat i hil
        rw [hc,Go.Deep.add_add] at h2
        rw [h2,hu]
theorem opens_slice {α:Type} {P:Program} {t e:TypeId} {d:Kd α} {WF:α→Prop} (ht:P.underlying t=some (.slice e)) (hc:P.cellsOf e=d.sz) (h:Opens P e d WF):Opens P t (Kd.slice e d) (fun xs=>xs.length≤maxLen∧∀y ∈ xs,WF y):=by
  intro H enc w fuel cs x hx
  rcases Go.Deep.open_slice ht hx with ⟨rfl,_⟩|⟨a,len,cap,m,n,D,Pl,rfl,_,hl,hm,hmm,_,hi⟩
  · exact ⟨[],⟨none,0,rfl,Nat.le_refl _,⟨rfl,by simp,fun h=>absurd h (by simp)⟩⟩,by simp,by simp⟩
  · simp only [if_true] at hmm
    subst hmm
    obtain ⟨xs,hxl,hw,hxs⟩:=opens_elems h hc len (fun i hil=>hi i (by omega))
    subst hxl
    have hm':m≤9223372036854775807:=hm
    refine ⟨xs,⟨some a,m,rfl,hl,⟨rfl,by omega,fun _=>⟨a,rfl,hxs⟩⟩⟩,?_,hw⟩
    exact Nat.le_trans hl hm'
theorem cells5:Try.prog.cellsOf 5=1:=by kernel_rfl
theorem cells22:Try.prog.cellsOf 22=1:=by kernel_rfl
theorem opn5:Opens Try.prog 5 (Kd.int .u8) (fun x=>(Lit.int .u8 x).wf=true):=opens_int Try.underlying5
theorem opn22:Opens Try.prog 22 (Kd.slice 5 (Kd.int .u8)) (fun xs=>xs.length≤maxLen∧∀y ∈ xs,(fun x=>(Lit.int .u8 x).wf=true) y):=opens_slice Try.underlying22 (by rw [cells5];rfl) opn5
set_option maxRecDepth 100000 in
theorem lifted (os:Os) (started:os.Started) (H:Type) (enc:TypeId × Value→H):
    ReturnsInHanded {} Try.checked os 3 .any (Rows.fnPdusSpec.pre6 enc Try.prog Try.f3 Rows.fnPdusRow.domain false) (Rows.fnPdusSpec.post enc Try.prog Try.f3 false true false false):=by
  refine returnsInHanded_of_change_sized (C:=Try.checked) own started (by kernel_rfl) Try.func3
    (ChangeSpec.witness6 (enc:=enc) (C:=Try.checked) false ⟨#[],#[.slice none 0 0],[]⟩ 8 (by kernel_rfl) (by kernel_rfl) (by kernel_rfl) (by kernel_rfl)) ?_
  intro W base args ds gs before hval0 hW hcnd _ _
  have hval:∀(j:Nat) t v,Try.f3.params[j]? =some t→args[j]? =some v→Value.okWide Try.prog W .any base t v:=hval0
  have hW':=hW
  obtain ⟨p,q,hA0,hV,rfl,hfz,hnd⟩:=hW
  have hA:DataW.TrodAll enc Try.prog W 0 (fun _=>true) true Try.f3.params.toList args.toList ds p:=hA0
  rw [Try.params3] at hA hval
  obtain ⟨v0,vs0,d0,ds0,p0,q0,hargs,rfl,rfl,h0,r0⟩:=trodAll_cons hA
  obtain ⟨rfl,rfl,rfl⟩:=trodAll_nil r0
  obtain rfl:args=#[v0]:=by cases args;simp_all
  obtain ⟨rfl,rfl⟩:=trodVars_none hV
  have k0:=h0
  have lt0:∀x ∈ p0,x.block<W.heap.size:=by obtain ⟨m,hm⟩:=k0;exact DataW.trod_lt m _ _ _ hm
  obtain ⟨fuel0,hf0⟩:=h0
  obtain ⟨x0,hx0,wx0⟩:=opn22 hf0
  obtain ⟨a0,len0,cap0,rfl⟩:=okWide_slice Try.underlying22 (hval 0 22 v0 rfl rfl)
  obtain ⟨A0,c0,hcs0,hl0,hr0⟩:=hx0
  simp only [Value.cells,List.cons.injEq,and_true,Value.slice.injEq] at hcs0
  obtain ⟨rfl,rfl,rfl⟩:=hcs0
  clear hA0 hval0
  obtain ⟨k,hp⟩:=Pure.FnPdus x0 wx0.1 wx0.2
  refine (laws_FnPdus.calls k _ _ x0 true W hr0 hl0 rfl hp).mono fun e W' ⟨he,hd⟩=>?_
  have bel:=hd
  subst he
  exact ⟨_,rfl,_,_,_,[],_,[],hW',trodAll_mk1 (shut_bool Try.underlying4 _),(trodAll_cons_mk (Below.trod laidOut (by kernel_rfl) (of_decide_eq_true (by kernel_rfl)) k0 bel lt0) trodAll_mk0),rfl,bel.frame _,fun h=>by cases h⟩
theorem over:Rows.fnPdusRow.holds Try.pinned (OpenSpec.ofChange Rows.fnPdusSpec):=
  OpenClaim.holds_of_wide 3 Try.f3 rfl rfl rfl rfl rfl rfl rfl ⟨rfl,rfl,rfl,rfl,rfl⟩ rfl rfl rfl rfl rfl (by kernel_rfl) Try.func3 (by kernel_rfl)
    (of_decide_eq_true (by kernel_rfl)) (by unfold Func.isWrapper;first|(rw [if_pos (by decide+kernel)];kernel_rfl)|(rw [if_neg (by decide+kernel)];exact ⟨rfl,rfl⟩))
    (fun os started H enc _=>lifted os started H enc)
theorem proved:Rows.FnPdusSaid:=over
#print axioms proved
end Go.Proofs.Ytgppikopdpeigaa.fnPdus
namespace Go.Proofs.Ytgppikopdpeigaa
/-- The row, under a short name, for the claim. -/
theorem fnPdus_holds:Rows.FnPdusSaid:=fnPdus.proved
end Go.Proofs.Ytgppikopdpeigaa
