/- A part of the proof: walks through the program's functions, and what they compute. -/
import Derived.Test.YtedceinkpkoncaaGreatDoorPk6
set_option linter.unusedSimpArgs false
set_option linter.unusedVariables false
namespace Go.Eng
open Go.RowKit
variable {P:Program} {T:Tab} {w w':World} {w0:Base T} {F F':Nat→Prop} {ρ ρ':Nat→RI} {σ:St} {a:Act} {outs:List (Array Value)}
def putK (σ:St) (d:Option Tmp) (g:Bool) (K:St→Prop) (e:E):Prop:=match d with
 | some d=>d<σ.nt∧K { σ with tm:=(d,g,e)::σ.tm }
 | none=>K σ
def putE (d:Option Tmp) (K:St→Prop) (σ:St) (e:E):Prop:=putK σ d true K e
theorem put_sound (hR:Rel T w F ρ w0 σ a.tmps outs) {d:Option Tmp} {g:Bool} {K:St→Prop} {e:E} {v:Value} (h:putK σ d g K e) (h1:g=true→ERel T w F ρ e v) (h2:g=false→v=undef) :
 ∃ σ',K σ'∧Rel T w F ρ w0 σ' (a.put d v).tmps outs∧(a.put d v).defers=a.defers:=by
 cases d with
 | none=>exact ⟨σ,h,hR,rfl⟩
 | some d =>
   obtain ⟨hd,h⟩:=h
   refine ⟨_,h,⟨?_,hR.out,hR.ob,hR.free,hR.inj,hR.fsub,hR.below,by simp [Act.put,hR.size],hR.fold⟩,rfl⟩
   intro t g' e' he
   simp only [List.lookup_cons] at he
   by_cases htd:t=d
   · subst htd
     simp at he
     obtain ⟨rfl,rfl⟩:=he
     refine ⟨v,?_,h1,h2⟩
     simp [Act.put,hR.size,hd]
   · have:(t == d)=false:=by simpa using htd
     rw [this] at he
     obtain ⟨v',q1,q2,q3⟩:=hR.tm t g' e' he
     exact ⟨v',by simp [Act.put,Array.getElem?_setIfInBounds_ne (Ne.symm htd),q1],q2,q3⟩
structure SOp where
 dst:Option Tmp
 op:Op
 guard:Option (Tmp × Bool)
def strip (ops:Array Oper) (o:Oper):SOp:=⟨o.dst,o.op,match o.guard with
 | none=>none
 | some (j,want)=>some (((ops[j]?).bind (·.dst)).getD ops.size.succ.succ,want)⟩
def guardA (o:SOp) (σ:St) (K:Bool→Prop):Prop:=match o.guard with
 | none=>K true
 | some (d,want)=>match σ.tm.lookup d with
   | some (h,.bool b)=>K (h&&(b == want))
   | _=>False
theorem guardA_sound (hR:Rel T w F ρ w0 σ a.tmps outs) {ops:Array Oper} {o:Oper} (hj:(match o.guard with|none=>true|some (j,_)=>((ops[j]?).bind (·.dst)).isSome)=true) {K:Bool→Prop} (h:guardA (strip ops o) σ K):∃ g,K g∧Region.wanted o (yielded ops a.tmps)=g:=by
 unfold guardA strip at h
 cases hg:o.guard with
 | none =>
   simp only [hg] at h
   exact ⟨true,h,by simp [Region.wanted,hg]⟩
 | some jw =>
   obtain ⟨j,want⟩:=jw
   simp only [hg] at h hj
   obtain ⟨d,hd⟩:=Option.isSome_iff_exists.1 hj
   simp only [hd,Option.getD_some] at h
   split at h
   · rename_i hh b hl
     refine ⟨_,h,?_⟩
     obtain ⟨v,q1,q2,q3⟩:=hR.tm _ _ _ hl
     simp only [Region.wanted,hg,yielded,hd,Option.bind_some]
     cases hh with
     | true =>
       have:v=.bool b:=q2 rfl
       subst this
       rw [q1]
       simp
     | false =>
       have:v=undef:=q3 rfl
       subst this
       rw [q1]
       simp [undef]
   · exact h.elim
def Enters (P:Program) (f:FuncId):Prop:=∀ (args:Array Value) (w:World),(callFunc f args).run P w=.ok (.enter f args) w
def CallE (P:Program) (T:Tab) (σ:St) (f:FuncId) (es:List E) (K:St→E→Prop):Prop :=
 Enters P f∧∀ (w0:Base T) (w:World) (F:Nat→Prop) (ρ:Nat→RI) (tmps:Array Value) (outs:List (Array Value)) (xs:List Value),Rel T w F ρ w0 σ tmps outs→ERelL T w F ρ es xs →
  Calls P f xs.toArray w fun en w'=>∃ v σ' e F' ρ',en=.returned v∧K σ' e∧ERel T w' F' ρ' e v∧Rel T w' F' ρ' w0 σ' tmps outs
def CallQ (P:Program) (T:Tab) (σ:St) (f:FuncId) (es:List E) (e:E):Prop :=
 Enters P f∧∀ (w0:Base T) (w:World) (F:Nat→Prop) (ρ:Nat→RI) (tmps:Array Value) (outs:List (Array Value)) (xs:List Value),Rel T w F ρ w0 σ tmps outs→ERelL T w F ρ es xs →
  ∃ v,ERel T w F ρ e v∧∀ w',Below w.heap.size w w'→Calls P f xs.toArray w' fun en w''=>en=.returned v∧Below w'.heap.size w' w''
def CallStep (P:Program) (T:Tab) (σ:St) (g:Bool) (f:Operand) (args:List Operand) (d:Option Tmp) (K:St→Prop):Prop :=
 evalO σ g f fun ef=>evalL σ g args fun es=>∃ fid caps,ef=.fn fid caps ∧
  ((∃ e,(g=true→CallQ P T σ fid (es++caps) e)∧putK σ d g K e)∨((g=true→CallE P T σ fid (es++caps) (putE d K))∧(g=false→putK σ d false K .undef)))
theorem ERelL.append:∀ {a b:List E} {x y:List Value},ERelL T w F ρ a x→ERelL T w F ρ b y→ERelL T w F ρ (a++b) (x++y)
 | [],_,[],_,_,h=>h
 | _::_,_,_::_,_,⟨h1,h2⟩,h=>⟨h1,ERelL.append h2 h⟩
 | [],_,_::_,_,h,_=>h.elim
 | _::_,_,[],_,h,_=>h.elim
theorem run_call {f:FuncId} (hE:Enters P f) {c:Call} {x:Operand} {caps:List Value} (hc:c.callee=.value x) (hx:a.eval x=.func (.func f) #[] caps.toArray) (W:World) (o:Oper) (ho:o.op=.call c) :
 (execOp a.eval o).run P W=.ok (.enter f (c.args.toList.map a.eval++caps).toArray) W:=by
 have hargs:c.args.map a.eval++caps.toArray=(c.args.toList.map a.eval++caps).toArray:=by
  apply Array.ext';simp
 simp [execOp,ho,resolve,hc,hx,Deferred.ofValue,invoke,hargs]
 exact hE _ _
def opG (P:Program) (T:Tab) (o:SOp) (K:St→Prop) (σ:St) (g:Bool):Prop:=match o.op with
 | .call c=>match c.callee with
   | .value f=>CallStep P T σ g f c.args.toList o.dst K
   | .builtin .append=>(g=true→effA T σ (.call c) (putE o.dst K))∧(g=false→putK σ o.dst false K .undef)
   | .builtin .clear=>(g=true→effA T σ (.call c) (putE o.dst K))∧(g=false→putK σ o.dst false K .undef)
   | .builtin .copy=>(g=true→effA T σ (.call c) (putE o.dst K))∧(g=false→putK σ o.dst false K .undef)
   | .builtin _=>pureA T σ g (.call c) (putK σ o.dst g K)
   | _=>False
 | .alloc t=>(g=true→effA T σ (.alloc t) (putE o.dst K))∧(g=false→putK σ o.dst false K .undef)
 | .box t x=>(g=true→effA T σ (.box t x) (putE o.dst K))∧(g=false→putK σ o.dst false K .undef)
 | .store t x y=>(g=true→effA T σ (.store t x y) (putE o.dst K))∧(g=false→putK σ o.dst false K .undef)
 | .buildSlice t n ps=>(g=true→effA T σ (.buildSlice t n ps) (putE o.dst K))∧(g=false→putK σ o.dst false K .undef)
 | .makeSlice t l c=>(g=true→effA T σ (.makeSlice t l c) (putE o.dst K))∧(g=false→putK σ o.dst false K .undef)
 | op=>pureA T σ g op (putK σ o.dst g K)
def opsA (P:Program) (T:Tab):List SOp→(St→Prop)→St→Prop
 | [],K,σ=>K σ
 | o::rest,K,σ=>guardA o σ (opG P T o (opsA P T rest K) σ)
def After (T:Tab) (w0:Base T) (outs:List (Array Value)) (K:St→Prop) (a':Act) (w':World):Prop :=
 ∃ σ' F' ρ',K σ'∧a'.defers=[]∧Rel T w' F' ρ' w0 σ' a'.tmps outs
theorem pure_step (hP:TabOk P T) (hR:Rel T w F ρ w0 σ a.tmps outs) (hd:a.defers=[]) {o:Oper} {g:Bool} {K:St→Prop} {N:Act→World→Prop} {Q:Exit→Act→World→Prop}
 (hN:∀ a' w',After T w0 outs K a' w'→N a' w') (h:pureA T σ g o.op (putK σ o.dst g K)):if g then o.wp P a w N Q else N (a.put o.dst undef) w:=by
 obtain ⟨e,h1,h2⟩:=pureA_sound hP hR h
 cases g with
 | true =>
   obtain ⟨v,hv,hr⟩:=h2 rfl
   obtain ⟨σ',hK,hR',hd'⟩:=put_sound hR h1 (fun _=>hv) (by simp)
   simp only [if_true,Oper.wp,hr w (Below.refl _ _) o rfl,Oper.upon]
   exact hN _ _ ⟨σ',F,ρ,hK,hd'.trans hd,hR'⟩
 | false =>
   obtain ⟨σ',hK,hR',hd'⟩:=put_sound (v:=undef) hR h1 (by simp) (fun _=>rfl)
   simp only [Bool.false_eq_true,if_false]
   exact hN _ _ ⟨σ',F,ρ,hK,hd'.trans hd,hR'⟩
theorem eff_step (hP:TabOk P T) (hR:Rel T w F ρ w0 σ a.tmps outs) (hd:a.defers=[]) {o:Oper} {g:Bool} {K:St→Prop} {N:Act→World→Prop} {Q:Exit→Act→World→Prop}
 (hN:∀ a' w',After T w0 outs K a' w'→N a' w') (h:(g=true→effA T σ o.op (putE o.dst K))∧(g=false→putK σ o.dst false K .undef)):if g then o.wp P a w N Q else N (a.put o.dst undef) w:=by
 cases g with
 | true =>
   obtain ⟨σ',e,h1,w',F',ρ',v,nx,h2,h3,h4,h5,_⟩:=effA_sound hP hR (h.1 rfl)
   obtain ⟨σ'',hK,hR',hd'⟩:=put_sound h3 h1 (fun _=>h2) (by simp)
   rcases h4 with rfl|⟨rfl,rfl⟩
   · simp only [if_true,Oper.wp,h5 o rfl,Oper.upon]
     exact hN _ _ ⟨σ'',F',ρ',hK,hd'.trans hd,hR'⟩
   · simp only [if_true,Oper.wp,h5 o rfl,Oper.upon]
     exact hN _ _ ⟨σ'',F',ρ',hK,hd'.trans hd,hR'⟩
 | false =>
   obtain ⟨σ',hK,hR',hd'⟩:=put_sound (v:=undef) hR (h.2 rfl) (by simp) (fun _=>rfl)
   simp only [Bool.false_eq_true,if_false]
   exact hN _ _ ⟨σ',F,ρ,hK,hd'.trans hd,hR'⟩
theorem call_step (hR:Rel T w F ρ w0 σ a.tmps outs) (hd:a.defers=[]) {o:Oper} {c:Call} {x:Operand} (ho:o.op=.call c) (hc:c.callee=.value x) {g:Bool} {K:St→Prop} {N:Act→World→Prop} {Q:Exit→Act→World→Prop}
 (hN:∀ a' w',After T w0 outs K a' w'→N a' w') (h:CallStep P T σ g x c.args.toList o.dst K):if g then o.wp P a w N Q else N (a.put o.dst undef) w:=by
 obtain ⟨ef,h1,hf⟩:=evalO_sound hR h
 obtain ⟨es,h2,hes⟩:=evalL_sound hR h1
 obtain ⟨fid,caps,rfl,h3⟩:=h2
 clear h h1
 cases g with
 | true =>
   obtain ⟨cs,hx,hcs⟩:=hf rfl
   have hall:=(hes rfl).append hcs
   rcases h3 with ⟨e,hq,hk⟩|⟨he,_⟩
   · obtain ⟨hE,hq⟩:=hq rfl
     obtain ⟨v,hv,hq⟩:=hq w0 w F ρ _ _ _ hR hall
     have hcall:=hq w (Below.refl _ _)
     simp only [if_true,Oper.wp,run_call hE hc hx w o ho,Oper.upon]
     refine hcall.mono ?_
     rintro en w' ⟨rfl,hb⟩
     obtain ⟨σ',hK,hR',hd'⟩:=put_sound hR hk (fun _=>hv) (by simp)
     exact hN _ _ ⟨σ',F,ρ,hK,hd'.trans hd,hR'.later hb⟩
   · obtain ⟨hE,he⟩:=he rfl
     simp only [if_true,Oper.wp,run_call hE hc hx w o ho,Oper.upon]
     refine (he w0 w F ρ _ _ _ hR hall).mono ?_
     rintro en w' ⟨v,σ',e,F',ρ',rfl,hk,hv,hR'⟩
     obtain ⟨σ'',hK,hR'',hd'⟩:=put_sound hR' hk (fun _=>hv) (by simp)
     exact hN _ _ ⟨σ'',F',ρ',hK,hd'.trans hd,hR''⟩
 | false =>
   simp only [Bool.false_eq_true,if_false]
   rcases h3 with ⟨e,_,hk⟩|⟨_,he⟩
   · obtain ⟨σ',hK,hR',hd'⟩:=put_sound (v:=undef) hR hk (by simp) (fun _=>rfl)
     exact hN _ _ ⟨σ',F,ρ,hK,hd'.trans hd,hR'⟩
   · obtain ⟨σ',hK,hR',hd'⟩:=put_sound (v:=undef) hR (he rfl) (by simp) (fun _=>rfl)
     exact hN _ _ ⟨σ',F,ρ,hK,hd'.trans hd,hR'⟩
theorem opG_sound (hP:TabOk P T) (hR:Rel T w F ρ w0 σ a.tmps outs) (hd:a.defers=[]) {o:Oper} {g:Bool} {K:St→Prop} {N:Act→World→Prop} {Q:Exit→Act→World→Prop}
 (hN:∀ a' w',After T w0 outs K a' w'→N a' w') {ops:Array Oper} (h:opG P T (strip ops o) K σ g):if g then o.wp P a w N Q else N (a.put o.dst undef) w:=by
 unfold opG at h
 have hop:(strip ops o).op=o.op:=rfl
 have hdst:(strip ops o).dst=o.dst:=rfl
 rw [hop,hdst] at h
 split at h
 · rename_i c hc
   split at h
   · rename_i f hf
     exact call_step hR hd hc hf hN h
   · exact eff_step hP hR hd hN (by rw [hc];exact h)
   · exact eff_step hP hR hd hN (by rw [hc];exact h)
   · exact eff_step hP hR hd hN (by rw [hc];exact h)
   · exact pure_step hP hR hd hN (by rw [hc];exact h)
   · exact h.elim
 · rename_i hc;exact eff_step hP hR hd hN (by rw [hc];exact h)
 · rename_i hc;exact eff_step hP hR hd hN (by rw [hc];exact h)
 · rename_i hc;exact eff_step hP hR hd hN (by rw [hc];exact h)
 · rename_i hc;exact eff_step hP hR hd hN (by rw [hc];exact h)
 · rename_i hc;exact eff_step hP hR hd hN (by rw [hc];exact h)
 · exact pure_step hP hR hd hN h
def guardsOk (ops:Array Oper):Bool:=ops.toList.all fun o=>match o.guard with|none=>true|some (j,_)=>((ops[j]?).bind (·.dst)).isSome
theorem opsA_sound (hP:TabOk P T) {ops:Array Oper} (hg:guardsOk ops=true) {Q:Exit→Act→World→Prop} {K:St→Prop} (hQ:∀ a' w',After T w0 outs K a' w'→Q .normal a' w') :
 ∀ (l:List Oper) (k:Nat),ops.toList.drop k=l→∀ {σ:St} {a:Act} {w:World} {F:Nat→Prop} {ρ:Nat→RI},Rel T w F ρ w0 σ a.tmps outs→a.defers=[]→opsA P T (l.map (strip ops)) K σ →
   wpOps P ops Q (List.range' k l.length) a w
 | [],k,_,σ,a,w,F,ρ,hR,hd,h=>hQ a w ⟨σ,F,ρ,h,hd,hR⟩
 | o::l,k,hk,σ,a,w,F,ρ,hR,hd,h=>by
   have ho:ops[k]?=some o:=by
    have:(ops.toList.drop k)[0]?=some o:=by rw [hk];rfl
    simpa using this
   have hk':ops.toList.drop (k+1)=l:=by
    have:=congrArg List.tail hk
    simpa using this
   simp only [List.length_cons,List.range'_succ,wpOps,ho]
   simp only [List.map_cons] at h
   unfold opsA at h
   have hgo:=List.all_eq_true.1 hg o (by rw [← List.take_append_drop k ops.toList,hk];simp)
   obtain ⟨g,h,hw⟩:=guardA_sound hR hgo h
   have:=opG_sound (Q:=Q) hP hR hd (N:=wpOps P ops Q (List.range' (k+1) l.length)) (fun a' w' ⟨σ',F',ρ',q1,q2,q3⟩=>opsA_sound hP hg hQ l (k+1) hk' q3 q2 q1) h
   rw [hw]
   cases g with
   | true=>exact .inl this
   | false=>exact this
end Go.Eng
namespace Go.Eng
open Go.RowKit
variable {P:Program} {T:Tab} {w w':World} {w0:Base T} {F F':Nat→Prop} {ρ ρ':Nat→RI} {σ σ':St} {a:Act} {outs:List (Array Value)}
def CallStepQ (P:Program) (T:Tab) (σ:St) (g:Bool) (f:Operand) (args:List Operand) (d:Option Tmp) (K:St→Prop):Prop :=
 evalO σ g f fun ef=>evalL σ g args fun es=>∃ fid caps,ef=.fn fid caps∧∃ e,(g=true→CallQ P T σ fid (es++caps) e)∧putK σ d g K e
def opQ (P:Program) (T:Tab) (o:SOp) (K:St→Prop) (σ:St) (g:Bool):Prop:=match o.op with
 | .call c=>match c.callee with
   | .value f=>CallStepQ P T σ g f c.args.toList o.dst K
   | .builtin _=>pureA T σ g (.call c) (putK σ o.dst g K)
   | _=>False
 | op=>pureA T σ g op (putK σ o.dst g K)
def opsQ (P:Program) (T:Tab):List SOp→(St→Prop)→St→Prop
 | [],K,σ=>K σ
 | o::rest,K,σ=>guardA o σ (opQ P T o (opsQ P T rest K) σ)
theorem opsQ_sound (hP:TabOk P T) {ops:Array Oper} (hgo:guardsOk ops=true) {K:St→Prop}:∀ (l:List Oper) {σ:St} {a:Act},(∀ o∈l,o∈ops.toList)→Rel T w F ρ w0 σ a.tmps outs→a.defers=[]→opsQ P T (l.map (strip ops)) K σ →
 wpQuiet P ops (fun w'=>Below w.heap.size w w') (fun a'=>∃ σ',K σ'∧a'.defers=[]∧Rel T w F ρ w0 σ' a'.tmps outs) l a
 | [],σ,a,_,hR,hd,h=>⟨σ,h,hd,hR⟩
 | o::l,σ,a,hm,hR,hd,h=>by
   simp only [List.map_cons] at h
   unfold opsQ at h
   obtain ⟨g,h,hg⟩:=guardA_sound hR (List.all_eq_true.1 hgo o (hm o (by simp))) h
   have hml:∀ o∈l,o∈ops.toList:=fun o ho=>hm o (by simp [ho])
   have hop:(strip ops o).op=o.op:=rfl
   have hdst:(strip ops o).dst=o.dst:=rfl
   have pureCase:∀ op,o.op=op→pureA T σ g op (putK σ o.dst g (opsQ P T (l.map (strip ops)) K))→wpQuiet P ops (fun w'=>Below w.heap.size w w') (fun a'=>∃ σ',K σ'∧a'.defers=[]∧Rel T w F ρ w0 σ' a'.tmps outs) (o::l) a:=by
    intro op hop hp
    obtain ⟨e,h1,h2⟩:=pureA_sound hP hR hp
    unfold wpQuiet
    rw [hg]
    cases g with
    | true =>
      obtain ⟨v,hv,hr⟩:=h2 rfl
      obtain ⟨σ',hK,hR',hd'⟩:=put_sound hR h1 (fun _=>hv) (by simp)
      refine ⟨v,fun W hW=>?_,opsQ_sound hP hgo l hml hR' (hd'.trans hd) hK⟩
      unfold Oper.quietAt
      rw [hr W hW o hop]
      exact ⟨rfl,rfl⟩
    | false =>
      obtain ⟨σ',hK,hR',hd'⟩:=put_sound (v:=undef) hR h1 (by simp) (fun _=>rfl)
      exact opsQ_sound hP hgo l hml hR' (hd'.trans hd) hK
   unfold opQ at h
   rw [hop,hdst] at h
   split at h
   · rename_i c hc
     split at h
     · rename_i x hx
       obtain ⟨ef,h1,hf⟩:=evalO_sound hR h
       obtain ⟨es,h2,hes⟩:=evalL_sound hR h1
       obtain ⟨fid,caps,rfl,e,hq,hk⟩:=h2
       unfold wpQuiet
       rw [hg]
       cases g with
       | true =>
         obtain ⟨cs,hxv,hcs⟩:=hf rfl
         have hall:=(hes rfl).append hcs
         obtain ⟨hE,hq⟩:=hq rfl
         obtain ⟨v,hv,hq⟩:=hq w0 w F ρ _ _ _ hR hall
         obtain ⟨σ',hK,hR',hd'⟩:=put_sound hR hk (fun _=>hv) (by simp)
         refine ⟨v,fun W hW=>?_,opsQ_sound hP hgo l hml hR' (hd'.trans hd) hK⟩
         unfold Oper.quietAt
         rw [run_call hE hx hxv W o hc]
         refine ⟨rfl,(hq W hW).mono ?_⟩
         rintro en w'' ⟨rfl,hb⟩
         exact ⟨rfl,hW.trans (hb.mono hW.size)⟩
       | false =>
         obtain ⟨σ',hK,hR',hd'⟩:=put_sound (v:=undef) hR hk (by simp) (fun _=>rfl)
         exact opsQ_sound hP hgo l hml hR' (hd'.trans hd) hK
     · exact pureCase _ hc h
     · exact h.elim
   · exact pureCase _ rfl h
def SA (P:Program) (T:Tab) (c:Code) (K:Exit→St→Prop) (σ:St):Prop :=
 ∀ (w0:Base T) (w:World) (F:Nat→Prop) (ρ:Nat→RI) (a:Act) (outs:List (Array Value)),a.defers=[]→Rel T w F ρ w0 σ a.tmps outs→c.wp P (fun ex a' w'=>After T w0 outs (K ex) a' w') a w
def thenK (P:Program) (T:Tab) (y:Code) (K:Exit→St→Prop):Exit→St→Prop
 | .normal,σ=>SA P T y K σ
 | e,σ=>K e σ
def blockK (id:Nat) (K:Exit→St→Prop):Exit→St→Prop
 | .exit id',σ=>if id'=id then K .normal σ else K (.exit id') σ
 | e,σ=>K e σ
theorem J3 {K:Exit→St→Prop} (h:K .normal σ):SA P T .skip K σ:=fun _ _ _ _ _ _ hd hR=>wp_skip ⟨σ,_,_,h,hd,hR⟩
theorem J6 {id:Nat} {K:Exit→St→Prop} (h:K (.exit id) σ):SA P T (.exit id) K σ:=fun _ _ _ _ _ _ hd hR=>wp_exit ⟨σ,_,_,h,hd,hR⟩
theorem J11 {K:Exit→St→Prop} (h:K .ret σ):SA P T .ret K σ:=fun _ _ _ _ _ _ hd hR=>wp_ret ⟨σ,_,_,h,hd,hR⟩
theorem J2 {x y:Code} {K:Exit→St→Prop} (h:SA P T x (thenK P T y K) σ):SA P T (.seq x y) K σ:=by
 intro w0 w F ρ a outs hd hR
 refine wp_seq (wp_mono (h w0 w F ρ a outs hd hR) ?_)
 rintro ex a' w' ⟨σ',F',ρ',hK,hd',hR'⟩
 cases ex with
 | normal=>exact hK w0 w' F' ρ' a' outs hd' hR'
 | _=>exact ⟨σ',F',ρ',hK,hd',hR'⟩
theorem J4 {id:Nat} {c:Code} {K:Exit→St→Prop} (h:SA P T c (blockK id K) σ):SA P T (.block id c) K σ:=by
 intro w0 w F ρ a outs hd hR
 refine wp_block (wp_mono (h w0 w F ρ a outs hd hR) ?_)
 rintro ex a' w' ⟨σ',F',ρ',hK,hd',hR'⟩
 cases ex with
 | exit id' =>
   simp only [blockK] at hK
   unfold Exit.inBlock
   split at hK
   · rename_i hid;simp only [hid,if_true];exact ⟨σ',F',ρ',hK,hd',hR'⟩
   · rename_i hid;simp only [hid,if_false];exact ⟨σ',F',ρ',hK,hd',hR'⟩
 | _=>exact ⟨σ',F',ρ',hK,hd',hR'⟩
theorem SA.cond {t:Tmp} {b:Bool} {x y:Code} {K:Exit→St→Prop} (hb:σ.tm.lookup t=some (true,.bool b)) (ht:b=true→SA P T x K σ) (hf:b=false→SA P T y K σ):SA P T (.cond (.tmp t) x y) K σ:=by
 intro w0 w F ρ a outs hd hR
 obtain ⟨v,h1,h2,_⟩:=hR.tm _ _ _ hb
 have hv:v=.bool b:=h2 rfl
 subst hv
 have he:a.eval (.tmp t)=.bool b:=by simp [Act.eval,h1]
 exact wp_cond_split he (fun hb=>ht hb w0 w F ρ a outs hd hR) (fun hb=>hf hb w0 w F ρ a outs hd hR)
theorem J1 {y:Code} {K:Exit→St→Prop} (h:SA P T y K σ):thenK P T y K .normal σ:=h
theorem J9 {y:Code} {K:Exit→St→Prop} {i:Nat} (h:K (.exit i) σ):thenK P T y K (.exit i) σ:=h
theorem J12 {y:Code} {K:Exit→St→Prop} (h:K .ret σ):thenK P T y K .ret σ:=h
theorem J5 {id:Nat} {K:Exit→St→Prop} (h:K .normal σ):blockK id K .normal σ:=h
theorem J7 {id:Nat} {K:Exit→St→Prop} (h:K .normal σ):blockK id K (.exit id) σ:=by simp only [blockK,if_true];exact h
theorem J8 {id i:Nat} {K:Exit→St→Prop} (hne:i≠id) (h:K (.exit i) σ):blockK id K (.exit i) σ:=by simp only [blockK,if_neg hne];exact h
theorem J13 {id:Nat} {K:Exit→St→Prop} (h:K .ret σ):blockK id K .ret σ:=h
def St.keep (lv:List Nat) (σ:St):St:={ σ with tm:=lv.filterMap fun t=>(σ.tm.lookup t).map fun x=>(t,x) }
theorem lookup_keep (tm:Tm):∀ (lv:List Nat) (t:Nat) (x:Bool × E),(lv.filterMap fun t=>(tm.lookup t).map fun x=>(t,x)).lookup t=some x→tm.lookup t=some x
 | [],t,x,h=>by simp at h
 | s::lv,t,x,h=>by
   simp only [List.filterMap_cons] at h
   cases hs:tm.lookup s with
   | none=>rw [hs] at h;exact lookup_keep tm lv t x h
   | some y =>
     rw [hs] at h
     simp only [Option.map_some,List.lookup_cons] at h
     by_cases hts:t=s
     · subst hts
       simp at h
       rw [hs,h]
     · have:(t == s)=false:=by simpa using hts
       rw [this] at h
       exact lookup_keep tm lv t x h
theorem Rel.keep {tmps:Array Value} (h:Rel T w F ρ w0 σ tmps outs) (lv:List Nat):Rel T w F ρ w0 (σ.keep lv) tmps outs :=
 ⟨fun t g e he=>h.tm t g e (lookup_keep _ _ _ _ he),h.out,h.ob,h.free,h.inj,h.fsub,h.below,h.size,h.fold⟩
theorem quiet_mono {ops:Array Oper} {C:World→Prop} {Q Q':Act→Prop} (h:∀ a,Q a→Q' a):∀ (l:List Oper) (a:Act),wpQuiet P ops C Q l a→wpQuiet P ops C Q' l a
 | [],a,hq=>h a hq
 | o::l,a,hq=>by
   unfold wpQuiet at hq ⊢
   split
   · rename_i hw
     rw [if_pos hw] at hq
     exact Oper.quiet_mono (quiet_mono h l) hq
   · rename_i hw
     rw [if_neg hw] at hq
     exact quiet_mono h l _ hq
theorem SA.region {id:Nat} {ops:Array Oper} (hP:TabOk P T) (hg:guardsOk ops=true) (lv:List Nat) {K:Exit→St→Prop} (h:∀ R:St→Prop,(∀ σ',K .normal (σ'.keep lv)→R σ')→opsA P T (ops.toList.map (strip ops)) R σ):SA P T (.region id ops false) K σ:=by
 intro w0 w F ρ a outs hd hR
 refine wp_region ?_
 rw [List.range_eq_range']
 have:=h (fun σ'=>K .normal (σ'.keep lv)) (fun _ x=>x)
 refine opsA_sound (outs:=outs) hP hg ?_ ops.toList 0 rfl hR hd this
 rintro a' w' ⟨σ',F',ρ',hK,hd',hR'⟩
 exact ⟨_,F',ρ',hK,hd',hR'.keep lv⟩
theorem SA.regionQ {id:Nat} {ops:Array Oper} (hP:TabOk P T) (hm:P.follows .mixedOrders=true) (hB:Region.lexB .any ops=true) (hg:guardsOk ops=true) (lv:List Nat) {K:Exit→St→Prop}
 (h:∀ R:St→Prop,(∀ σ',K .normal (σ'.keep lv)→R σ')→opsQ P T (ops.toList.map (strip ops)) R σ):SA P T (.region id ops true) K σ:=by
 intro w0 w F ρ a outs hd hR
 have:=h (fun σ'=>K .normal (σ'.keep lv)) (fun _ x=>x)
 refine wp_region_quiet (C:=fun w'=>Below w.heap.size w w') hm hB ((Below.refl _ _).drew) ?_
 refine quiet_mono ?_ _ _ (opsQ_sound (outs:=outs) hP hg ops.toList (fun _ h=>h) hR hd this)
 rintro a' ⟨σ',hK,hd',hR'⟩ w' hw'
 exact ⟨_,F,ρ,hK,hd',(hR'.later hw').keep lv⟩
def St.le (T:Tab) (σ σ':St):Prop:=∀ w F ρ w0 tmps outs,Rel T w F ρ w0 σ tmps outs→∃ F' ρ',Rel T w F' ρ' w0 σ' tmps outs
theorem St.le.refl:St.le T σ σ:=fun _ F ρ _ _ _ h=>⟨F,ρ,h⟩
theorem St.le.trans {σ'':St} (h:St.le T σ σ') (h':St.le T σ' σ''):St.le T σ σ'':=fun w F ρ w0 tmps outs hR=>let ⟨F',ρ',hR'⟩:=h w F ρ w0 tmps outs hR;h' w F' ρ' w0 tmps outs hR'
theorem St.le.keep (lv:List Nat):St.le T σ (σ.keep lv):=fun _ F ρ _ _ _ h=>⟨F,ρ,h.keep lv⟩
theorem exists_least (p:Nat→Prop) (h:∃ n,p n):∃ n,p n∧∀ m,p m→n≤m:=by
 obtain ⟨n,hn⟩:=h
 induction n using Nat.strongRecOn with
 | _ n ih =>
   by_cases hm:∃ m,m<n∧p m
   · obtain ⟨m,h1,h2⟩:=hm
     exact ih m h1 h2
   · exact ⟨n,hn,fun m hp=>Nat.le_of_not_lt fun hlt=>hm ⟨m,hlt,hp⟩⟩
def loopK (T:Tab) (I:Nat→St→Prop) (n:Nat) (K:Exit→St→Prop):Exit→St→Prop
 | .normal,σ=>∃ m σ',m<n∧St.le T σ σ'∧I m σ'
 | e,σ=>K e σ
theorem loopK.normal {I:Nat→St→Prop} {n:Nat} {K:Exit→St→Prop} (m:Nat) (σ':St) (hm:m<n) (hl:St.le T σ σ') (h:I m σ'):loopK T I n K .normal σ:=⟨m,σ',hm,hl,h⟩
theorem J10 {I:Nat→St→Prop} {n:Nat} {K:Exit→St→Prop} {i:Nat} (h:K (.exit i) σ):loopK T I n K (.exit i) σ:=h
theorem J14 {I:Nat→St→Prop} {n:Nat} {K:Exit→St→Prop} (h:K .ret σ):loopK T I n K .ret σ:=h
theorem SA.loop {c:Code} {K:Exit→St→Prop} (I:Nat→St→Prop) (n:Nat) (h0:I n σ)
 (round:∀ n σ,I n σ→SA P T c (loopK T I n K) σ):SA P T (.loop c) K σ:=by
 classical
 intro w0 w F ρ a outs hd hR
 let Inv:Nat→Act→World→Prop:=fun n a w=>∃ σ F ρ,I n σ∧a.defers=[]∧Rel T w F ρ w0 σ a.tmps outs
 let μ:Act→World→Nat:=fun a w=>if h:∃ n,Inv n a w then Classical.choose (exists_least (fun n=>Inv n a w) h) else 0
 have hμ:∀ a w,(∃ n,Inv n a w)→Inv (μ a w) a w∧∀ n,Inv n a w→μ a w≤n:=by
  intro a w h
  have hs:=Classical.choose_spec (exists_least (fun n=>Inv n a w) h)
  have e:μ a w=Classical.choose (exists_least (fun n=>Inv n a w) h):=dif_pos h
  rw [e]
  exact hs
 refine wp_loop (fun a w=>∃ n,Inv n a w) μ ⟨n,σ,F,ρ,h0,hd,hR⟩ ?_
 intro a w hI
 obtain ⟨⟨σ1,F1,ρ1,h1,h2,h3⟩,hmin⟩:=hμ a w hI
 refine wp_mono (round (μ a w) σ1 h1 w0 w F1 ρ1 a outs h2 h3) ?_
 rintro ex a' w' ⟨σ',F',ρ',hK,hd',hR'⟩
 cases ex with
 | normal =>
   obtain ⟨m,σ'',hm,hl,hI'⟩:=hK
   obtain ⟨F2,ρ2,hR2⟩:=hl w' F' ρ' w0 a'.tmps outs hR'
   have hx:∃ n,Inv n a' w':=⟨m,σ'',F2,ρ2,hI',hd',hR2⟩
   exact ⟨hx,Nat.lt_of_le_of_lt ((hμ a' w' hx).2 m ⟨σ'',F2,ρ2,hI',hd',hR2⟩) hm⟩
 | _=>exact ⟨σ',F',ρ',hK,hd',hR'⟩
theorem SA.weaken {c:Code} {K:Exit→St→Prop} (hl:St.le T σ σ') (h:SA P T c K σ'):SA P T c K σ:=by
 intro w0 w F ρ a outs hd hR
 obtain ⟨F',ρ',hR'⟩:=hl w F ρ w0 a.tmps outs hR
 exact h w0 w F' ρ' a outs hd hR'
theorem SA.mono {c:Code} {K K':Exit→St→Prop} (h:SA P T c K σ) (hk:∀ ex σ,K ex σ→K' ex σ):SA P T c K' σ:=by
 intro w0 w F ρ a outs hd hR
 refine wp_mono (h w0 w F ρ a outs hd hR) ?_
 rintro ex a' w' ⟨σ',F',ρ',hK,hd',hR'⟩
 exact ⟨σ',F',ρ',hk _ _ hK,hd',hR'⟩
def resA (T:Tab) (σ:St):List ResultVar→(List E→Prop)→Prop
 | [],K=>K []
 | .tmp t::rs,K=>evalO σ true (.tmp t) fun e=>resA T σ rs fun es=>K (e::es)
 | .cell p t::rs,K=>evalO σ true (.tmp p) fun ep=>loadA T σ true t ep fun e=>resA T σ rs fun es=>K (e::es)
def outE:List E→E
 | [e]=>e
 | es=>.tup es
def outV:List Value→Value
 | [v]=>v
 | vs=>.tuple vs.toArray
theorem outE_rel {es:List E} {vs:List Value} (h:ERelL T w F ρ es vs):ERel T w F ρ (outE es) (outV vs):=by
 match es,vs,h with
 | [],[],h=>exact ⟨[],rfl,h⟩
 | [e],[v],h=>exact h.1
 | e::e'::es,v::v'::vs,h=>exact ⟨_,rfl,h⟩
def readRes (tmps:Array Value):ResultVar→Sem Value
 | .tmp t=>pure (tmps.getD t undef)
 | .cell p t=>do loadVar t (← asAddr (tmps.getD p undef))
theorem run_results {fn:Func} {tmps:Array Value} {vs:List Value} (h:(fn.results.toList.mapM (readRes tmps)).run P w=.ok vs w):(results fn tmps).run P w=.ok (outV vs) w:=by
 have h':(fn.results.mapM (readRes tmps)).run P w=.ok vs.toArray w:=by
  rw [Array.mapM_eq_mapM_toList,Sem.run_map,h];rfl
 have hr:results fn tmps=(do let vs ← fn.results.mapM (readRes tmps);pure (if h:vs.size=1 then vs[0] else .tuple vs)):=by
  unfold results
  congr 1
 rw [hr,Sem.run_bind,h']
 match vs with
 | []=>rfl
 | [v]=>rfl
 | v::v'::vs=>simp [outV]
theorem resA_sound (hP:TabOk P T) (hR:Rel T w F ρ w0 σ a.tmps outs):∀ {rs:List ResultVar} {K:List E→Prop},resA T σ rs K →
 ∃ es vs,K es∧ERelL T w F ρ es vs∧(rs.mapM (readRes a.tmps)).run P w=.ok vs w
 | [],K,h=>⟨[],[],h,trivial,by simp⟩
 | .tmp t::rs,K,h=>by
   obtain ⟨e,h,he⟩:=evalO_sound hR h
   obtain ⟨es,vs,h1,h2,h3⟩:=resA_sound hP hR h
   have he':=he rfl
   simp only [Act.eval] at he'
   refine ⟨e::es,a.tmps.getD t undef::vs,h1,⟨he',h2⟩,?_⟩
   rw [List.mapM_cons,Sem.run_bind]
   simp only [readRes,Sem.run_pure,Result.andThen_ok,Sem.run_bind,h3]
 | .cell p t::rs,K,h=>by
   obtain ⟨ep,h,hp⟩:=evalO_sound hR h
   obtain ⟨e,h,hy⟩:=loadA_sound (P:=P) (x:=.tmp p) hP hR hp h
   obtain ⟨es,vs,h1,h2,h3⟩:=resA_sound hP hR h
   obtain ⟨v,hv,hr⟩:=hy rfl
   refine ⟨e::es,v::vs,h1,⟨hv,h2⟩,?_⟩
   have hr' := hr w (Below.refl _ _) { dst := none, op := .load t (.tmp p), type := 0, pos := "", after := #[], guard := none } rfl
   have hload:(do loadVar t (← asAddr (a.tmps.getD p undef)):Sem Value).run P w=.ok v w:=by
    have hev:a.eval (.tmp p)=a.tmps.getD p undef:=rfl
    simp only [execOp,Instr.loadAt,hev] at hr'
    generalize a.tmps.getD p undef=q at hr' ⊢
    cases q with
    | pointer x =>
      cases x with
      | none=>simp [Instr.sureAddr,stuck] at hr'
      | some ad =>
        simp [Instr.sureAddr,asAddr] at hr' ⊢
        generalize (loadVar t ad).run P w=r at hr' ⊢
        cases r with
        | ok y w'=>simp at hr';obtain ⟨rfl,rfl⟩:=hr';rfl
        | halt x w'=>simp [Result.andThen] at hr'
    | _=>simp [Instr.sureAddr,stuck] at hr'
   have hload':(readRes a.tmps (.cell p t)).run P w=.ok v w:=hload
   rw [List.mapM_cons,Sem.run_bind,hload']
   simp only [Result.andThen_ok,Sem.run_bind,h3,Sem.run_pure]
end Go.Eng
namespace Go.Eng
open Go.RowKit
variable {P:Program} {T:Tab} {w w':World} {w0:Base T} {F F':Nat→Prop} {ρ ρ':Nat→RI} {σ σ':St} {a:Act} {outs:List (Array Value)}
def args0 (k:Nat):List E→Tm
 | []=>[]
 | e::es=>(k,true,e)::args0 (k+1) es
theorem lookup_args0:∀ (es:List E) (k t:Nat) (g:Bool) (e:E),(args0 k es).lookup t=some (g,e)→k≤t∧g=true∧es[t-k]?=some e
 | [],k,t,g,e,h=>by simp [args0] at h
 | x::es,k,t,g,e,h=>by
   simp only [args0,List.lookup_cons] at h
   by_cases ht:t=k
   · subst ht
     simp at h
     obtain ⟨rfl,rfl⟩:=h
     simp
   · have:(t == k)=false:=by simpa using ht
     rw [this] at h
     obtain ⟨h1,h2,h3⟩:=lookup_args0 es (k+1) t g e h
     refine ⟨by omega,h2,?_⟩
     rw [show t-k=(t-(k+1))+1 by omega,List.getElem?_cons_succ]
     exact h3
theorem ERelL.nth:∀ {l:List E} {vs:List Value} {k:Nat} {y:E},ERelL T w F ρ l vs→l[k]?=some y→∃ v,vs[k]?=some v∧ERel T w F ρ y v
 | [],_,_,_,_,h=>by simp at h
 | e::l,[],_,_,hr,_=>hr.elim
 | e::l,v::vs,0,y,hr,h=>by simp at h;subst h;exact ⟨v,rfl,hr.1⟩
 | e::l,v::vs,k+1,y,hr,h=>by
   obtain ⟨u,h1,h2⟩:=ERelL.nth (l:=l) (vs:=vs) (k:=k) (y:=y) hr.2 (by simpa using h)
   exact ⟨u,by simpa using h1,h2⟩
theorem ERelL.lens:∀ {l:List E} {vs:List Value},ERelL T w F ρ l vs→l.length=vs.length
 | [],[],_=>rfl
 | _::_,_::_,⟨_,h⟩=>by simp [ERelL.lens h]
 | [],_::_,h=>h.elim
 | _::_,[],h=>h.elim
def enter (σ:St) (es:List E) (n:Nat):St:={ tm:=args0 0 es,ob:=σ.ob,out:=σ.tm::σ.out,nt:=n }
theorem args_tm {es:List E} {xs:List Value} (h:ERelL T w F ρ es xs) (n:Nat):TmRel T w F ρ (args0 0 es) (xs.toArray++Array.replicate n undef):=by
 intro t g e he
 obtain ⟨_,rfl,h2⟩:=lookup_args0 es 0 t g e he
 obtain ⟨v,h3,h4⟩:=h.nth h2
 have hlt:=(List.getElem?_eq_some_iff.1 h3).1
 refine ⟨v,?_,fun _=>h4,by simp⟩
 simp only [Nat.sub_zero] at h3 hlt
 rw [Array.getElem?_append_left (by simpa using hlt)]
 simpa using h3
theorem Rel.enter {tmps:Array Value} (hR:Rel T w F ρ w0 σ tmps outs) {es:List E} {xs:List Value} (h:ERelL T w F ρ es xs) {n:Nat} (hn:es.length≤n) :
 Rel T w F ρ w0 (Eng.enter σ es n) (xs.toArray++Array.replicate (n-xs.toArray.size) undef) (tmps::outs):=by
 have hl:=h.lens
 exact ⟨args_tm h _,⟨hR.tm,hR.out⟩,hR.ob,hR.free,hR.inj,hR.fsub,hR.below,by simp [Eng.enter];omega,hR.fold⟩
def backK (σ:St) (K:St→E→Prop) (σ':St) (es:List E):Prop:=match σ'.out with
 | tm::out=>K { tm:=tm,ob:=σ'.ob,out:=out,nt:=σ.nt } (outE es)
 | []=>False
def bodyK (T:Tab) (rs:List ResultVar) (σ:St) (K:St→E→Prop) (ex:Exit) (σ':St):Prop:=(ex=.normal∨ex=.ret)∧resA T σ' rs (backK σ K σ')
theorem bodyK.normal {rs:List ResultVar} {K:St→E→Prop} (h:resA T σ' rs (backK σ K σ')):bodyK T rs σ K .normal σ':=⟨.inl rfl,h⟩
theorem bodyK.ret {rs:List ResultVar} {K:St→E→Prop} (h:resA T σ' rs (backK σ K σ')):bodyK T rs σ K .ret σ':=⟨.inr rfl,h⟩
theorem enters_of {f : FuncId} {fn : Func} (hf : P.funcs[f]? = some fn) (hb : fn.body.isNone = false) (hn : (fn.name == "runtime.NumGoroutine") = false) : Enters P f := by
 intro args w
 have h1 : ¬ fn.name = "runtime.NumGoroutine" := by simpa using hn
 have h2:¬ fn.body=none:=by intro h;rw [h] at hb;cases hb
 simp [callFunc,run_program,hf,h1,h2]
theorem leave_sound (hP:TabOk P T) {fn:Func} {R:Ending→World→Prop} {ex:Exit} {K:List E→Prop} {a':Act} (hR:Rel T w F ρ w0 σ' a'.tmps outs) (hd:a'.defers=[]) (hex:ex=.normal∨ex=.ret)
 (h:resA T σ' fn.results.toList K) (hK:∀ es vs,K es→ERelL T w F ρ es vs→R (.returned (outV vs)) w):bodyPost P fn R ex a' w:=by
 obtain ⟨es,vs,h1,h2,h3⟩:=resA_sound hP hR h
 have:=run_results (fn:=fn) h3
 rcases hex with rfl|rfl
 · exact ⟨hd,_,this,hK es vs h1 h2⟩
 · exact ⟨hd,_,this,hK es vs h1 h2⟩
theorem CallE.body (hP : TabOk P T) {f : FuncId} {fn : Func} {c : Code} {es : List E} {K : St → E → Prop} (hf : P.funcs[f]? = some fn) (hb : fn.body = some c) (hname : (fn.name == "runtime.NumGoroutine") = false) (n : Nat) (hnt : fn.ntmps = n) (rs : List ResultVar) (hrs : fn.results.toList = rs) (hn : es.length ≤ n)
 (h:SA P T c (bodyK T rs σ K) (enter σ es n)):CallE P T σ f es K:=by
 subst hnt hrs
 refine ⟨enters_of hf (by rw [hb];rfl) hname,?_⟩
 intro w0 w F ρ tmps outs xs hR hx
 refine calls_of_wp hf hb ?_
 have hR':=hR.enter hx hn
 refine wp_mono (h w0 w F ρ { tmps:=xs.toArray++Array.replicate (fn.ntmps-xs.toArray.size) undef,defers:=[] } (tmps::outs) rfl hR') ?_
 rintro ex a' w' ⟨σ',F',ρ',⟨hex,hr⟩,hd',hR''⟩
 refine leave_sound hP hR'' hd' hex hr ?_
 intro es' vs hb' he'
 unfold backK at hb'
 cases ho:σ'.out with
 | nil=>rw [ho] at hb';exact hb'.elim
 | cons tm out =>
   rw [ho] at hb'
   have hout:=hR''.out
   rw [ho] at hout
   exact ⟨_,_,_,F',ρ',rfl,hb',outE_rel he',⟨hout.1,hout.2,hR''.ob,hR''.free,hR''.inj,hR''.fsub,hR''.below,hR.size,hR''.fold⟩⟩
def ArgsFit (T:Tab) (w:World) (F:Nat→Prop):List TypeId→List V→List Value→Prop
 | [],[],[]=>True
 | t::ts,v::vs,x::xs=>(Fits T w F t v x.cells.toList∧ValOf T t x x.cells.toList)∧ArgsFit T w F ts vs xs
 | _,_,_=>False
def ResFit (T:Tab) (w:World) (n0:Nat) (t:TypeId) (v:V) (y:Value):Prop:=match T.ty t with
 | .slice e=>∃ l zs,v=.list l∧flatTy T 20 e=true∧w.ownsRow n0 e (T.sz e) y l.length zs∧FitsL T w (fun _=>False) (List.replicate l.length e) l zs
 | _=>flatTy T 20 t=true∧Fits T w (fun _=>False) t v y.cells.toList∧ValOf T t y y.cells.toList
def ResFits (T:Tab) (w:World) (n0:Nat):List TypeId→List V→List Value→Prop
 | [],[],[]=>True
 | t::ts,v::vs,y::ys=>ResFit T w n0 t v y∧(∀ b,y.ownBlock=some b→∀ y'∈ys,y'.ownBlock≠some b)∧ResFits T w n0 ts vs ys
 | _,_,_=>False
def Ctr (P:Program) (T:Tab) (f:FuncId) (pts rts:List TypeId) (vs rs:List V):Prop :=
 Enters P f∧∀ (w:World) (F:Nat→Prop) (xs:List Value),(∀ b,F b→b<w.heap.size)→T.glob w→ArgsFit T w F pts vs xs →
  Calls P f xs.toArray w fun en w'=>∃ ys,en=.returned (outV ys)∧Below w.heap.size w w'∧ResFits T w' w.heap.size rts rs ys
def fromVs (T:Tab):List TypeId→List V→List E
 | t::ts,v::vs=>fromV T t v::fromVs T ts vs
 | _,_=>[]
theorem fromVs_rel:∀ {ts:List TypeId} {vs:List V} {xs:List Value},ArgsFit T w F ts vs xs→ERelL T w F ρ (fromVs T ts vs) xs
 | [],[],[],_=>trivial
 | _::_,_::_,_::_,⟨⟨h1,h2⟩,h⟩=>⟨fromV_rel h1 h2,fromVs_rel h⟩
 | [],[],_::_,h=>h.elim
 | [],_::_,_,h=>h.elim
 | _::_,[],_,h=>h.elim
 | _::_,_::_,[],h=>h.elim
theorem Fits.flat:∀ (d:Nat) {t:TypeId} {v:V} {cs:List Value},flatTy T d t=true→Fits T w F t v cs→Fits T w' F' t v cs:=by
 intro d
 induction d using Nat.strongRecOn with
 | _ d ih =>
   intro t v cs hf h
   cases d with
   | zero=>simp [flatTy] at hf
   | succ d =>
     unfold flatTy at hf
     split at hf
     · rename_i k hk;obtain ⟨n,rfl,h1,rfl⟩:=h.inv' hk;exact .int hk h1
     · rename_i hk;obtain ⟨b,rfl,rfl⟩:=h.inv' hk;exact .bool hk
     · rename_i hk;obtain ⟨s,rfl,rfl⟩:=h.inv' hk;exact .str hk
     · rename_i ts hk
       obtain ⟨l,rfl,hl⟩:=h.inv' hk
       refine .struct hk ?_
       have key:∀ (ts:List TypeId) (l:List V) (cs:List Value),(∀ t∈ts,∃ d',d'<d+1∧flatTy T d' t=true)→FitsL T w F ts l cs→FitsL T w' F' ts l cs:=by
        intro ts
        induction ts with
        | nil=>intro l cs _ h;cases h;exact .nil
        | cons t ts iht =>
          intro l cs hall h
          cases h with
          | cons h1 h2 =>
            obtain ⟨d',hd',hf'⟩:=hall t (by simp)
            exact .cons (ih d' hd' hf' h1) (iht _ _ (fun u hu=>hall u (by simp [hu])) h2)
       refine key ts l cs (fun u hu=>?_) hl
       obtain ⟨k,hk'⟩:=List.mem_iff_getElem?.1 hu
       obtain ⟨d',h1,h2⟩:=flatTys_nth hf hk'
       exact ⟨d',by omega,h2⟩
     · rename_i n e hk
       obtain ⟨l,rfl,hl⟩:=h.inv' hk
       refine .arr hk ?_
       have key:∀ (ts:List TypeId) (l:List V) (cs:List Value),(∀ t∈ts,t=e)→FitsL T w F ts l cs→FitsL T w' F' ts l cs:=by
        intro ts
        induction ts with
        | nil=>intro l cs _ h;cases h;exact .nil
        | cons t ts iht =>
          intro l cs hall h
          cases h with
          | cons h1 h2 =>
            obtain rfl:=hall t (by simp)
            exact .cons (ih d (by omega) hf h1) (iht _ _ (fun u hu=>hall u (by simp [hu])) h2)
       exact key _ l cs (fun u hu=>(List.mem_replicate.1 hu).2) hl
     · cases hf
theorem FitsL.flat {e:TypeId} (he:flatTy T 20 e=true):∀ {n:Nat} {l:List V} {cs:List Value},FitsL T w F (List.replicate n e) l cs→FitsL T w' F' (List.replicate n e) l cs
 | 0,_,_,h=>by cases h;exact .nil
 | n+1,_,_,h=>by
   rw [List.replicate_succ] at h ⊢
   cases h with
   | cons h1 h2=>exact .cons (h1.flat 20 he) (FitsL.flat he h2)
def resV (T:Tab) (σ:St):List TypeId→List E→List V→Prop
 | [],[],[]=>True
 | t::ts,e::es,v::vs=>(match T.ty t with
    | .slice el=>flatTy T 20 el=true∧(match e with
      | .sl i e' lo n c=>e'=el∧lo=0∧c=false∧(match σ.ob[i]? with
        | some (.row _ l)=>v=.list (l.take n)
        | _=>False)∧(∀ e''∈es,∀ j u lo n c,e''=.sl j u lo n c→j≠i)
      | .nilsl=>v=.list []
      | _=>False)
    | _=>flatTy T 20 t=true∧toV T t e=some v)∧resV T σ ts es vs
 | _,_,_=>False
theorem sl_block {i:Nat} {e:TypeId} {lo n:Nat} {c:Bool} {y:Value} (h:ERel T w F ρ (.sl i e lo n c) y) {b:Nat} (hb:y.ownBlock=some b):(ρ i).block=some b:=by
 rcases h with ⟨_,rfl,_⟩|⟨b',m,cap,off,h1,_,_,rfl,_⟩
 · simp [Value.ownBlock] at hb
 · simp [Value.ownBlock] at hb
   subst hb
   rw [h1];rfl
theorem flat_notSlice {t:TypeId} {y:Value} {cs:List Value} {v:V} (hf:flatTy T 20 t=true) (h:Fits T w F t v cs) (hv:ValOf T t y cs):y.ownBlock=none:=by
 unfold ValOf at hv
 split at hv
 · subst hv;rfl
 · rename_i hA
   have h1:=h.inv
   unfold flatTy at hf
   split at hf
   · rename_i k hk;rw [hk] at h1;obtain ⟨n,_,_,rfl⟩:=h1;simp at hv;subst hv;rfl
   · rename_i hk;rw [hk] at h1;obtain ⟨n,_,rfl⟩:=h1;simp at hv;subst hv;rfl
   · rename_i hk;rw [hk] at h1;obtain ⟨n,_,rfl⟩:=h1;simp at hv;subst hv;rfl
   · rename_i ts hk;simp [hk,TyD.isAgg] at hA
   · rename_i n e hk;simp [hk,TyD.isAgg] at hA
   · cases hf
theorem resV_sound (hS:T.Sized) {tmps:Array Value} (hR:Rel T w F ρ w0 σ tmps outs):∀ {ts:List TypeId} {es:List E} {vs:List V} {ys:List Value},resV T σ ts es vs→ERelL T w F ρ es ys→ResFits T w w0.w.heap.size ts vs ys
 | [],[],[],[],_,_=>trivial
 | t::ts,e::es,v::vs,y::ys,⟨h,hr⟩,⟨hy,hys⟩=>by
   have rest:=resV_sound hS hR hr hys
   refine ⟨?_,?_,rest⟩
   · unfold ResFit
     split at h
     · rename_i el ht
       obtain ⟨hfl,h⟩:=h
       split at h
       · rename_i i e' lo n c
         obtain ⟨rfl,rfl,rfl,h,_⟩:=h
         split at h;rotate_left;· exact h.elim
         rename_i e2 l ho
         subst h
         have hob:=hR.ob _ _ ho
         rcases hy with ⟨h1,rfl,_,rfl⟩|⟨b,m,cap,off,h1,h2,h3,rfl,h5,h6⟩
         · exact ⟨[],[],by simp,hfl,by simpa using World.ownsRow_nil w w0.w.heap.size e' (T.sz e'),by simpa using FitsL.nil⟩
         · rw [h1] at hob
           obtain ⟨rfl,q2,xs,q3,q4⟩:=hob
           have h5':=h5 rfl
           subst h5'
           rcases q3.2 with ⟨q,_⟩|⟨b',cap',cur,hr,hb,hh,hn',hc',hs',htk⟩
           · cases q
           · cases hr
             have hnl:(l.take n).length=n:=by simp;omega
             have hx:=q3.1
             refine ⟨l.take n,xs.take (n*T.sz e'),rfl,hfl,?_,?_⟩
             · rw [hnl]
               refine ⟨?_,.inr ⟨b,cap,cur,by simp,hb,hh,by omega,hc',hs',?_⟩⟩
               · have:n*T.sz e'≤l.length*T.sz e':=Nat.mul_le_mul_right _ (by omega)
                 simp;omega
               · rw [← htk,List.take_take,Nat.min_eq_left (Nat.mul_le_mul_right _ (by omega))]
             · rw [hnl]
               have:=q4.slice hS (lo:=0) (m:=n) (by omega)
               simp only [Nat.zero_mul,List.drop_zero] at this
               exact this.flat hfl
       · obtain rfl:y=_:=hy
         exact ⟨[],[],h,hfl,by simpa using World.ownsRow_nil w w0.w.heap.size el (T.sz el),by simpa using FitsL.nil⟩
       · exact h.elim
     · rename_i hns
       obtain ⟨hfl,h⟩:=h
       obtain ⟨k1,k2⟩:=toV_fits hy h
       exact ⟨hfl,k1.flat 20 hfl,k2⟩
   · intro b hb y' hy' hb'
     split at h
     · rename_i el ht
       obtain ⟨hfl,h⟩:=h
       split at h
       · rename_i i e' lo n c
         obtain ⟨rfl,rfl,rfl,_,hdis⟩:=h
         have hi:=sl_block hy hb
         obtain ⟨k,hk⟩:=List.mem_iff_getElem?.1 hy'
         have key:∀ {ts:List TypeId} {es:List E} {vs:List V} {ys:List Value} {k:Nat},resV T σ ts es vs→ERelL T w F ρ es ys→ys[k]?=some y'→∃ e∈es,ERel T w F ρ e y'∧((∃ j u lo n c,e=.sl j u lo n c)∨y'.ownBlock=none):=by
          intro ts
          induction ts with
          | nil =>
            intro es vs ys k hr hys hk
            cases es with
            | nil=>cases ys with
              | nil=>simp at hk
              | cons=>exact hys.elim
            | cons=>exact hr.elim
          | cons t ts ih =>
            intro es vs ys k hr hys hk
            cases es with
            | nil=>exact hr.elim
            | cons e es =>
              cases vs with
              | nil=>exact hr.elim
              | cons v vs =>
                cases ys with
                | nil=>exact hys.elim
                | cons z zs =>
                  cases k with
                  | succ k =>
                    obtain ⟨e',h1,h2⟩:=ih hr.2 hys.2 (by simpa using hk)
                    exact ⟨e',by simp [h1],h2⟩
                  | zero =>
                    simp at hk
                    subst hk
                    refine ⟨e,by simp,hys.1,?_⟩
                    have h0:=hr.1
                    split at h0
                    · obtain ⟨_,h0⟩:=h0
                      split at h0
                      · exact .inl ⟨_,_,_,_,_,rfl⟩
                      · obtain rfl:z=_:=hys.1
                        exact .inr rfl
                      · exact h0.elim
                    · obtain ⟨hf0,h0⟩:=h0
                      obtain ⟨k1,k2⟩:=toV_fits hys.1 h0
                      exact .inr (flat_notSlice hf0 k1 k2)
         obtain ⟨e'',h1,h2,h3⟩:=key hr hys hk
         rcases h3 with ⟨j,u,lo',n',c',rfl⟩|h3
         · have hj:=sl_block h2 hb'
           exact hdis _ h1 j u lo' n' c' rfl (hR.inj j i b hj hi)
         · rw [h3] at hb';cases hb'
       · obtain rfl:y=_:=hy
         simp [Value.ownBlock] at hb
       · exact h.elim
     · obtain ⟨hfl,h⟩:=h
       obtain ⟨k1,k2⟩:=toV_fits hy h
       rw [flat_notSlice hfl k1 k2] at hb
       cases hb
 | [],[],[],_::_,_,h=>h.elim
 | _::_,_::_,_::_,[],_,h=>h.elim
 | [],_::_,_,_,h,_=>h.elim
 | [],[],_::_,_,h,_=>h.elim
 | _::_,[],_,_,h,_=>h.elim
 | _::_,_::_,[],_,h,_=>h.elim
def ctrK (T:Tab) (rs:List ResultVar) (rts:List TypeId) (vs:List V) (ex:Exit) (σ':St):Prop:=(ex=.normal∨ex=.ret)∧resA T σ' rs fun es=>resV T σ' rts es vs
theorem ctrK.normal {rs:List ResultVar} {rts:List TypeId} {vs:List V} (h:resA T σ' rs fun es=>resV T σ' rts es vs):ctrK T rs rts vs .normal σ':=⟨.inl rfl,h⟩
theorem ctrK.ret {rs:List ResultVar} {rts:List TypeId} {vs:List V} (h:resA T σ' rs fun es=>resV T σ' rts es vs):ctrK T rs rts vs .ret σ':=⟨.inr rfl,h⟩
theorem ArgsFit.len:∀ {ts:List TypeId} {vs:List V} {xs:List Value},ArgsFit T w F ts vs xs→(fromVs T ts vs).length=xs.length
 | [],[],[],_=>rfl
 | _::_,_::_,_::_,⟨_,h⟩=>by simp [fromVs,ArgsFit.len h]
 | [],[],_::_,h=>h.elim
 | [],_::_,_,h=>h.elim
 | _::_,[],_,h=>h.elim
 | _::_,_::_,[],h=>h.elim
theorem Ctr.body (hP : TabOk P T) {f : FuncId} {fn : Func} {c : Code} {pts rts : List TypeId} {vs rs : List V} (hf : P.funcs[f]? = some fn) (hb : fn.body = some c) (hname : (fn.name == "runtime.NumGoroutine") = false) (n : Nat) (hnt : fn.ntmps = n) (res : List ResultVar) (hrs : fn.results.toList = res) (hn : (fromVs T pts vs).length ≤ n)
 (h:SA P T c (ctrK T res rts rs) { tm:=args0 0 (fromVs T pts vs),ob:=[],out:=[],nt:=n }):Ctr P T f pts rts vs rs:=by
 subst hnt hrs
 refine ⟨enters_of hf (by rw [hb];rfl) hname,?_⟩
 intro w F xs hF hg hx
 refine calls_of_wp hf hb ?_
 have hl:=hx.len
 have hR:Rel T w F (fun _=>.none) ⟨w,F,hg⟩ { tm:=args0 0 (fromVs T pts vs),ob:=[],out:=[],nt:=fn.ntmps } (xs.toArray++Array.replicate (fn.ntmps-xs.toArray.size) undef) [] :=
  ⟨args_tm (fromVs_rel hx) _,trivial,fun i o h=>by simp at h,fun _ _=>rfl,fun i j b h=>by simp [RI.block] at h,hF,Below.refl _ _,by simp;omega,fun _ h=>.inr h⟩
 refine wp_mono (h ⟨w,F,hg⟩ w F _ { tmps:=xs.toArray++Array.replicate (fn.ntmps-xs.toArray.size) undef,defers:=[] } [] rfl hR) ?_
 rintro ex a' w' ⟨σ',F',ρ',⟨hex,hr⟩,hd',hR''⟩
 exact leave_sound hP hR'' hd' hex hr fun es ys hv he=>⟨ys,rfl,hR''.below,resV_sound hP.sized hR'' hv he⟩
end Go.Eng
