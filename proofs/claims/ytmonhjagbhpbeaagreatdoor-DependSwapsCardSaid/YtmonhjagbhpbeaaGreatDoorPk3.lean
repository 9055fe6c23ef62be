/- A part of the proof: walks through the program's functions, and what they compute. -/
import Derived.Test.YtmonhjagbhpbeaaGreatDoorPk2
import Derived.Test.YtmonhjagbhpbeaaGreatDoorProg
import Derived.Lib.TrailingZeros
import Derived.KernelRfl
import Derived.OrdersHeld
set_option linter.unusedSimpArgs false
set_option linter.unusedVariables false
namespace Go.Eng
open Go.RowKit
variable {P:Program} {T:Tab} {w w':World} {w0:Base T} {F F':Nat→Prop} {ρ ρ':Nat→RI} {σ σ':St} {a:Act} {outs:List (Array Value)}
theorem Zv {c:Code} {K:Exit→St→Prop} (hl:St.le T σ σ') (h:SA P T c K σ'):SA P T c K σ:=by
 intro w0 w F ρ a outs hd hR
 obtain ⟨F',ρ',hR'⟩:=hl w F ρ w0 a.tmps outs hR
 exact h w0 w F' ρ' a outs hd hR'
def QL (T:Tab) (σ:St):List ResultVar→(List E→Prop)→Prop
 | [],K=>K []
 | .tmp t::rs,K=>ZD σ true (.tmp t) fun e=>QL T σ rs fun es=>K (e::es)
 | .cell p t::rs,K=>ZD σ true (.tmp p) fun ep=>QFY T σ true t ep fun e=>QL T σ rs fun es=>K (e::es)
def VZ:List E→E
 | [e]=>e
 | es=>.tup es
def QFK:List Value→Value
 | [v]=>v
 | vs=>.tuple vs.toArray
theorem zX {es:List E} {vs:List Value} (h:ERelL T w F ρ es vs):ERel T w F ρ (VZ es) (QFK vs):=by
 match es,vs,h with
 | [],[],h=>exact ⟨[],rfl,h⟩
 | [e],[v],h=>exact h.1
 | e::e'::es,v::v'::vs,h=>exact ⟨_,rfl,h⟩
def yH (tmps:Array Value):ResultVar→Sem Value
 | .tmp t=>pure (tmps.getD t undef)
 | .cell p t=>do loadVar t (← asAddr (tmps.getD p undef))
theorem QE5 {fn:Func} {tmps:Array Value} {vs:List Value} (h:(fn.results.toList.mapM (yH tmps)).run P w=.ok vs w):(results fn tmps).run P w=.ok (QFK vs) w:=by
 have h':(fn.results.mapM (yH tmps)).run P w=.ok vs.toArray w:=by
  rw [Array.mapM_eq_mapM_toList,Sem.run_map,h];rfl
 have hr:results fn tmps=(do let vs ← fn.results.mapM (yH tmps);pure (if h:vs.size=1 then vs[0] else .tuple vs)):=by
  unfold results
  congr 1
 rw [hr,Sem.run_bind,h']
 match vs with
 | []=>rfl
 | [v]=>rfl
 | v::v'::vs=>simp [QFK]
theorem y5 (hP:TabOk P T) (hR:Rel T w F ρ w0 σ a.tmps outs):∀ {rs:List ResultVar} {K:List E→Prop},QL T σ rs K →
 ∃ es vs,K es∧ERelL T w F ρ es vs∧(rs.mapM (yH a.tmps)).run P w=.ok vs w
 | [],K,h=>⟨[],[],h,trivial,by simp⟩
 | .tmp t::rs,K,h=>by
   obtain ⟨e,h,he⟩:=QR hR h
   obtain ⟨es,vs,h1,h2,h3⟩:=y5 hP hR h
   have he':=he rfl
   simp only [Act.eval] at he'
   refine ⟨e::es,a.tmps.getD t undef::vs,h1,⟨he',h2⟩,?_⟩
   rw [List.mapM_cons,Sem.run_bind]
   simp only [yH,Sem.run_pure,Result.andThen_ok,Sem.run_bind,h3]
 | .cell p t::rs,K,h=>by
   obtain ⟨ep,h,hp⟩:=QR hR h
   obtain ⟨e,h,hy⟩:=vO (P:=P) (x:=.tmp p) hP hR hp h
   obtain ⟨es,vs,h1,h2,h3⟩:=y5 hP hR h
   obtain ⟨v,hv,hr⟩:=hy rfl
   refine ⟨e::es,v::vs,h1,⟨hv,h2⟩,?_⟩
   have hr' := hr w (Below.refl _ _) { dst := none, op := .load t (.tmp p), type := 0, pos := "", after := #[], guard := none } rfl
   have hload:(do loadVar t (← asAddr (a.tmps.getD p undef)):Sem Value).run P w=.ok v w:=by
    have hev:a.eval (.tmp p)=a.tmps.getD p undef:=rfl
    simp only [execOp,Instr.loadAt,hev] at hr'
    generalize a.tmps.getD p undef=q at hr' ⊢
    cases q with
    | pointer x =>
      cases x with
      | none=>simp [Instr.sureAddr,stuck] at hr'
      | some ad =>
        simp [Instr.sureAddr,asAddr] at hr' ⊢
        generalize (loadVar t ad).run P w=r at hr' ⊢
        cases r with
        | ok y w'=>simp at hr';obtain ⟨rfl,rfl⟩:=hr';rfl
        | halt x w'=>simp [Result.andThen] at hr'
    | _=>simp [Instr.sureAddr,stuck] at hr'
   have hload':(yH a.tmps (.cell p t)).run P w=.ok v w:=hload
   rw [List.mapM_cons,Sem.run_bind,hload']
   simp only [Result.andThen_ok,Sem.run_bind,h3,Sem.run_pure]
variable {P:Program} {T:Tab} {w w':World} {w0:Base T} {F F':Nat→Prop} {ρ ρ':Nat→RI} {σ σ':St} {a:Act} {outs:List (Array Value)}
def Zf (k:Nat):List E→Tm
 | []=>[]
 | e::es=>(k,true,e)::Zf (k+1) es
theorem xv:∀ (es:List E) (k t:Nat) (g:Bool) (e:E),(Zf k es).lookup t=some (g,e)→k≤t∧g=true∧es[t-k]?=some e
 | [],k,t,g,e,h=>by simp [Zf] at h
 | x::es,k,t,g,e,h=>by
   simp only [Zf,List.lookup_cons] at h
   by_cases ht:t=k
   · subst ht
     simp at h
     obtain ⟨rfl,rfl⟩:=h
     simp
   · have:(t == k)=false:=by simpa using ht
     rw [this] at h
     obtain ⟨h1,h2,h3⟩:=xv es (k+1) t g e h
     refine ⟨by omega,h2,?_⟩
     rw [show t-k=(t-(k+1))+1 by omega,List.getElem?_cons_succ]
     exact h3
theorem ERelL.nth:∀ {l:List E} {vs:List Value} {k:Nat} {y:E},ERelL T w F ρ l vs→l[k]?=some y→∃ v,vs[k]?=some v∧ERel T w F ρ y v
 | [],_,_,_,_,h=>by simp at h
 | e::l,[],_,_,hr,_=>hr.elim
 | e::l,v::vs,0,y,hr,h=>by simp at h;subst h;exact ⟨v,rfl,hr.1⟩
 | e::l,v::vs,k+1,y,hr,h=>by
   obtain ⟨u,h1,h2⟩:=ERelL.nth (l:=l) (vs:=vs) (k:=k) (y:=y) hr.2 (by simpa using h)
   exact ⟨u,by simpa using h1,h2⟩
theorem ERelL.lens:∀ {l:List E} {vs:List Value},ERelL T w F ρ l vs→l.length=vs.length
 | [],[],_=>rfl
 | _::_,_::_,⟨_,h⟩=>by simp [ERelL.lens h]
 | [],_::_,h=>h.elim
 | _::_,[],h=>h.elim
def enter (σ:St) (es:List E) (n:Nat):St:={ tm:=Zf 0 es,ob:=σ.ob,out:=σ.tm::σ.out,nt:=n }
theorem QAK {es:List E} {xs:List Value} (h:ERelL T w F ρ es xs) (n:Nat):TmRel T w F ρ (Zf 0 es) (xs.toArray++Array.replicate n undef):=by
 intro t g e he
 obtain ⟨_,rfl,h2⟩:=xv es 0 t g e he
 obtain ⟨v,h3,h4⟩:=h.nth h2
 have hlt:=(List.getElem?_eq_some_iff.1 h3).1
 refine ⟨v,?_,fun _=>h4,by simp⟩
 simp only [Nat.sub_zero] at h3 hlt
 rw [Array.getElem?_append_left (by simpa using hlt)]
 simpa using h3
theorem Rel.enter {tmps:Array Value} (hR:Rel T w F ρ w0 σ tmps outs) {es:List E} {xs:List Value} (h:ERelL T w F ρ es xs) {n:Nat} (hn:es.length≤n) :
 Rel T w F ρ w0 (Eng.enter σ es n) (xs.toArray++Array.replicate (n-xs.toArray.size) undef) (tmps::outs):=by
 have hl:=h.lens
 exact ⟨QAK h _,⟨hR.tm,hR.out⟩,hR.ob,hR.free,hR.inj,hR.fsub,hR.below,by simp [Eng.enter];omega,hR.fold⟩
def QH (σ:St) (K:St→E→Prop) (σ':St) (es:List E):Prop:=match σ'.out with
 | tm::out=>K { tm:=tm,ob:=σ'.ob,out:=out,nt:=σ.nt } (VZ es)
 | []=>False
def QL9 (T:Tab) (rs:List ResultVar) (σ:St) (K:St→E→Prop) (ex:Exit) (σ':St):Prop:=(ex=.normal∨ex=.ret)∧QL T σ' rs (QH σ K σ')
theorem xQ {rs:List ResultVar} {K:St→E→Prop} (h:QL T σ' rs (QH σ K σ')):QL9 T rs σ K .normal σ':=⟨.inl rfl,h⟩
theorem xP {rs:List ResultVar} {K:St→E→Prop} (h:QL T σ' rs (QH σ K σ')):QL9 T rs σ K .ret σ':=⟨.inr rfl,h⟩
theorem Wt {f : FuncId} {fn : Func} (hf : P.funcs[f]? = some fn) (hb : fn.body.isNone = false) (hn : (fn.name == "runtime.NumGoroutine") = false) : qk P f := by
 intro args w
 have h1 : ¬ fn.name = "runtime.NumGoroutine" := by simpa using hn
 have h2:¬ fn.body=none:=by intro h;rw [h] at hb;cases hb
 simp [callFunc,run_program,hf,h1,h2]
theorem UL (hP:TabOk P T) {fn:Func} {R:Ending→World→Prop} {ex:Exit} {K:List E→Prop} {a':Act} (hR:Rel T w F ρ w0 σ' a'.tmps outs) (hd:a'.defers=[]) (hex:ex=.normal∨ex=.ret)
 (h:QL T σ' fn.results.toList K) (hK:∀ es vs,K es→ERelL T w F ρ es vs→R (.returned (QFK vs)) w):bodyPost P fn R ex a' w:=by
 obtain ⟨es,vs,h1,h2,h3⟩:=y5 hP hR h
 have:=QE5 (fn:=fn) h3
 rcases hex with rfl|rfl
 · exact ⟨hd,_,this,hK es vs h1 h2⟩
 · exact ⟨hd,_,this,hK es vs h1 h2⟩
theorem CallE.body (hP : TabOk P T) {f : FuncId} {fn : Func} {c : Code} {es : List E} {K : St → E → Prop} (hf : P.funcs[f]? = some fn) (hb : fn.body = some c) (hname : (fn.name == "runtime.NumGoroutine") = false) (n : Nat) (hnt : fn.ntmps = n) (rs : List ResultVar) (hrs : fn.results.toList = rs) (hn : es.length ≤ n)
 (h:SA P T c (QL9 T rs σ K) (enter σ es n)):CallE P T σ f es K:=by
 subst hnt hrs
 refine ⟨Wt hf (by rw [hb];rfl) hname,?_⟩
 intro w0 w F ρ tmps outs xs hR hx
 refine calls_of_wp hf hb ?_
 have hR':=hR.enter hx hn
 refine wp_mono (h w0 w F ρ { tmps:=xs.toArray++Array.replicate (fn.ntmps-xs.toArray.size) undef,defers:=[] } (tmps::outs) rfl hR') ?_
 rintro ex a' w' ⟨σ',F',ρ',⟨hex,hr⟩,hd',hR''⟩
 refine UL hP hR'' hd' hex hr ?_
 intro es' vs hb' he'
 unfold QH at hb'
 cases ho:σ'.out with
 | nil=>rw [ho] at hb';exact hb'.elim
 | cons tm out =>
   rw [ho] at hb'
   have hout:=hR''.out
   rw [ho] at hout
   exact ⟨_,_,_,F',ρ',rfl,hb',zX he',⟨hout.1,hout.2,hR''.ob,hR''.free,hR''.inj,hR''.fsub,hR''.below,hR.size,hR''.fold⟩⟩
def ArgsFit (T:Tab) (w:World) (F:Nat→Prop):List TypeId→List V→List Value→Prop
 | [],[],[]=>True
 | t::ts,v::vs,x::xs=>(Fits T w F t v x.cells.toList∧Qz T t x x.cells.toList)∧ArgsFit T w F ts vs xs
 | _,_,_=>False
def QBy (T:Tab) (w:World) (n0:Nat) (t:TypeId) (v:V) (y:Value):Prop:=match T.ty t with
 | .slice e=>∃ l zs,v=.list l∧ZM T 20 e=true∧w.ownsRow n0 e (T.sz e) y l.length zs∧FitsL T w (fun _=>False) (List.replicate l.length e) l zs
 | _=>ZM T 20 t=true∧Fits T w (fun _=>False) t v y.cells.toList∧Qz T t y y.cells.toList
def wN (T:Tab) (w:World) (n0:Nat):List TypeId→List V→List Value→Prop
 | [],[],[]=>True
 | t::ts,v::vs,y::ys=>QBy T w n0 t v y∧(∀ b,y.ownBlock=some b→∀ y'∈ys,y'.ownBlock≠some b)∧wN T w n0 ts vs ys
 | _,_,_=>False
def Ctr (P:Program) (T:Tab) (f:FuncId) (pts rts:List TypeId) (vs rs:List V):Prop :=
 qk P f∧∀ (w:World) (F:Nat→Prop) (xs:List Value),(∀ b,F b→b<w.heap.size)→T.glob w→ArgsFit T w F pts vs xs →
  Calls P f xs.toArray w fun en w'=>∃ ys,en=.returned (QFK ys)∧Below w.heap.size w w'∧wN T w' w.heap.size rts rs ys
def QF (T:Tab):List TypeId→List V→List E
 | t::ts,v::vs=>WA T t v::QF T ts vs
 | _,_=>[]
theorem Wr:∀ {ts:List TypeId} {vs:List V} {xs:List Value},ArgsFit T w F ts vs xs→ERelL T w F ρ (QF T ts vs) xs
 | [],[],[],_=>trivial
 | _::_,_::_,_::_,⟨⟨h1,h2⟩,h⟩=>⟨Yy h1 h2,Wr h⟩
 | [],[],_::_,h=>h.elim
 | [],_::_,_,h=>h.elim
 | _::_,[],_,h=>h.elim
 | _::_,_::_,[],h=>h.elim
theorem Fits.flat:∀ (d:Nat) {t:TypeId} {v:V} {cs:List Value},ZM T d t=true→Fits T w F t v cs→Fits T w' F' t v cs:=by
 intro d
 induction d using Nat.strongRecOn with
 | _ d ih =>
   intro t v cs hf h
   cases d with
   | zero=>simp [ZM] at hf
   | succ d =>
     unfold ZM at hf
     split at hf
     · rename_i k hk;obtain ⟨n,rfl,h1,rfl⟩:=h.inv' hk;exact .int hk h1
     · rename_i hk;obtain ⟨b,rfl,rfl⟩:=h.inv' hk;exact .bool hk
     · rename_i hk;obtain ⟨s,rfl,rfl⟩:=h.inv' hk;exact .str hk
     · rename_i ts hk
       obtain ⟨l,rfl,hl⟩:=h.inv' hk
       refine .struct hk ?_
       have key:∀ (ts:List TypeId) (l:List V) (cs:List Value),(∀ t∈ts,∃ d',d'<d+1∧ZM T d' t=true)→FitsL T w F ts l cs→FitsL T w' F' ts l cs:=by
        intro ts
        induction ts with
        | nil=>intro l cs _ h;cases h;exact .nil
        | cons t ts iht =>
          intro l cs hall h
          cases h with
          | cons h1 h2 =>
            obtain ⟨d',hd',hf'⟩:=hall t (by simp)
            exact .cons (ih d' hd' hf' h1) (iht _ _ (fun u hu=>hall u (by simp [hu])) h2)
       refine key ts l cs (fun u hu=>?_) hl
       obtain ⟨k,hk'⟩:=List.mem_iff_getElem?.1 hu
       obtain ⟨d',h1,h2⟩:=UN hf hk'
       exact ⟨d',by omega,h2⟩
     · rename_i n e hk
       obtain ⟨l,rfl,hl⟩:=h.inv' hk
       refine .arr hk ?_
       have key:∀ (ts:List TypeId) (l:List V) (cs:List Value),(∀ t∈ts,t=e)→FitsL T w F ts l cs→FitsL T w' F' ts l cs:=by
        intro ts
        induction ts with
        | nil=>intro l cs _ h;cases h;exact .nil
        | cons t ts iht =>
          intro l cs hall h
          cases h with
          | cons h1 h2 =>
            obtain rfl:=hall t (by simp)
            exact .cons (ih d (by omega) hf h1) (iht _ _ (fun u hu=>hall u (by simp [hu])) h2)
       exact key _ l cs (fun u hu=>(List.mem_replicate.1 hu).2) hl
     · cases hf
theorem FitsL.flat {e:TypeId} (he:ZM T 20 e=true):∀ {n:Nat} {l:List V} {cs:List Value},FitsL T w F (List.replicate n e) l cs→FitsL T w' F' (List.replicate n e) l cs
 | 0,_,_,h=>by cases h;exact .nil
 | n+1,_,_,h=>by
   rw [List.replicate_succ] at h ⊢
   cases h with
   | cons h1 h2=>exact .cons (h1.flat 20 he) (FitsL.flat he h2)
def QM (T:Tab) (σ:St):List TypeId→List E→List V→Prop
 | [],[],[]=>True
 | t::ts,e::es,v::vs=>(match T.ty t with
    | .slice el=>ZM T 20 el=true∧(match e with
      | .sl i e' lo n c=>e'=el∧lo=0∧c=false∧(match σ.ob[i]? with
        | some (.row _ l)=>v=.list (l.take n)
        | _=>False)∧(∀ e''∈es,∀ j u lo n c,e''=.sl j u lo n c→j≠i)
      | .nilsl=>v=.list []
      | _=>False)
    | _=>ZM T 20 t=true∧UY T t e=some v)∧QM T σ ts es vs
 | _,_,_=>False
theorem QE0 {i:Nat} {e:TypeId} {lo n:Nat} {c:Bool} {y:Value} (h:ERel T w F ρ (.sl i e lo n c) y) {b:Nat} (hb:y.ownBlock=some b):(ρ i).block=some b:=by
 rcases h with ⟨_,rfl,_⟩|⟨b',m,cap,off,h1,_,_,rfl,_⟩
 · simp [Value.ownBlock] at hb
 · simp [Value.ownBlock] at hb
   subst hb
   rw [h1];rfl
theorem yi {t:TypeId} {y:Value} {cs:List Value} {v:V} (hf:ZM T 20 t=true) (h:Fits T w F t v cs) (hv:Qz T t y cs):y.ownBlock=none:=by
 unfold Qz at hv
 split at hv
 · subst hv;rfl
 · rename_i hA
   have h1:=h.inv
   unfold ZM at hf
   split at hf
   · rename_i k hk;rw [hk] at h1;obtain ⟨n,_,_,rfl⟩:=h1;simp at hv;subst hv;rfl
   · rename_i hk;rw [hk] at h1;obtain ⟨n,_,rfl⟩:=h1;simp at hv;subst hv;rfl
   · rename_i hk;rw [hk] at h1;obtain ⟨n,_,rfl⟩:=h1;simp at hv;subst hv;rfl
   · rename_i ts hk;simp [hk,TyD.isAgg] at hA
   · rename_i n e hk;simp [hk,TyD.isAgg] at hA
   · cases hf
theorem y4 (hS:T.Sized) {tmps:Array Value} (hR:Rel T w F ρ w0 σ tmps outs):∀ {ts:List TypeId} {es:List E} {vs:List V} {ys:List Value},QM T σ ts es vs→ERelL T w F ρ es ys→wN T w w0.w.heap.size ts vs ys
 | [],[],[],[],_,_=>trivial
 | t::ts,e::es,v::vs,y::ys,⟨h,hr⟩,⟨hy,hys⟩=>by
   have rest:=y4 hS hR hr hys
   refine ⟨?_,?_,rest⟩
   · unfold QBy
     split at h
     · rename_i el ht
       obtain ⟨hfl,h⟩:=h
       split at h
       · rename_i i e' lo n c
         obtain ⟨rfl,rfl,rfl,h,_⟩:=h
         split at h;rotate_left;· exact h.elim
         rename_i e2 l ho
         subst h
         have hob:=hR.ob _ _ ho
         rcases hy with ⟨h1,rfl,_,rfl⟩|⟨b,m,cap,off,h1,h2,h3,rfl,h5,h6⟩
         · exact ⟨[],[],by simp,hfl,by simpa using World.ownsRow_nil w w0.w.heap.size e' (T.sz e'),by simpa using FitsL.nil⟩
         · rw [h1] at hob
           obtain ⟨rfl,q2,xs,q3,q4⟩:=hob
           have h5':=h5 rfl
           subst h5'
           rcases q3.2 with ⟨q,_⟩|⟨b',cap',cur,hr,hb,hh,hn',hc',hs',htk⟩
           · cases q
           · cases hr
             have hnl:(l.take n).length=n:=by simp;omega
             have hx:=q3.1
             refine ⟨l.take n,xs.take (n*T.sz e'),rfl,hfl,?_,?_⟩
             · rw [hnl]
               refine ⟨?_,.inr ⟨b,cap,cur,by simp,hb,hh,by omega,hc',hs',?_⟩⟩
               · have:n*T.sz e'≤l.length*T.sz e':=Nat.mul_le_mul_right _ (by omega)
                 simp;omega
               · rw [← htk,List.take_take,Nat.min_eq_left (Nat.mul_le_mul_right _ (by omega))]
             · rw [hnl]
               have:=q4.slice hS (lo:=0) (m:=n) (by omega)
               simp only [Nat.zero_mul,List.drop_zero] at this
               exact this.flat hfl
       · obtain rfl:y=_:=hy
         exact ⟨[],[],h,hfl,by simpa using World.ownsRow_nil w w0.w.heap.size el (T.sz el),by simpa using FitsL.nil⟩
       · exact h.elim
     · rename_i hns
       obtain ⟨hfl,h⟩:=h
       obtain ⟨k1,k2⟩:=XE hy h
       exact ⟨hfl,k1.flat 20 hfl,k2⟩
   · intro b hb y' hy' hb'
     split at h
     · rename_i el ht
       obtain ⟨hfl,h⟩:=h
       split at h
       · rename_i i e' lo n c
         obtain ⟨rfl,rfl,rfl,_,hdis⟩:=h
         have hi:=QE0 hy hb
         obtain ⟨k,hk⟩:=List.mem_iff_getElem?.1 hy'
         have key:∀ {ts:List TypeId} {es:List E} {vs:List V} {ys:List Value} {k:Nat},QM T σ ts es vs→ERelL T w F ρ es ys→ys[k]?=some y'→∃ e∈es,ERel T w F ρ e y'∧((∃ j u lo n c,e=.sl j u lo n c)∨y'.ownBlock=none):=by
          intro ts
          induction ts with
          | nil =>
            intro es vs ys k hr hys hk
            cases es with
            | nil=>cases ys with
              | nil=>simp at hk
              | cons=>exact hys.elim
            | cons=>exact hr.elim
          | cons t ts ih =>
            intro es vs ys k hr hys hk
            cases es with
            | nil=>exact hr.elim
            | cons e es =>
              cases vs with
              | nil=>exact hr.elim
              | cons v vs =>
                cases ys with
                | nil=>exact hys.elim
                | cons z zs =>
                  cases k with
                  | succ k =>
                    obtain ⟨e',h1,h2⟩:=ih hr.2 hys.2 (by simpa using hk)
                    exact ⟨e',by simp [h1],h2⟩
                  | zero =>
                    simp at hk
                    subst hk
                    refine ⟨e,by simp,hys.1,?_⟩
                    have h0:=hr.1
                    split at h0
                    · obtain ⟨_,h0⟩:=h0
                      split at h0
                      · exact .inl ⟨_,_,_,_,_,rfl⟩
                      · obtain rfl:z=_:=hys.1
                        exact .inr rfl
                      · exact h0.elim
                    · obtain ⟨hf0,h0⟩:=h0
                      obtain ⟨k1,k2⟩:=XE hys.1 h0
                      exact .inr (yi hf0 k1 k2)
         obtain ⟨e'',h1,h2,h3⟩:=key hr hys hk
         rcases h3 with ⟨j,u,lo',n',c',rfl⟩|h3
         · have hj:=QE0 h2 hb'
           exact hdis _ h1 j u lo' n' c' rfl (hR.inj j i b hj hi)
         · rw [h3] at hb';cases hb'
       · obtain rfl:y=_:=hy
         simp [Value.ownBlock] at hb
       · exact h.elim
     · obtain ⟨hfl,h⟩:=h
       obtain ⟨k1,k2⟩:=XE hy h
       rw [yi hfl k1 k2] at hb
       cases hb
 | [],[],[],_::_,_,h=>h.elim
 | _::_,_::_,_::_,[],_,h=>h.elim
 | [],_::_,_,_,h,_=>h.elim
 | [],[],_::_,_,h,_=>h.elim
 | _::_,[],_,_,h,_=>h.elim
 | _::_,_::_,[],_,h,_=>h.elim
def QRQ (T:Tab) (rs:List ResultVar) (rts:List TypeId) (vs:List V) (ex:Exit) (σ':St):Prop:=(ex=.normal∨ex=.ret)∧QL T σ' rs fun es=>QM T σ' rts es vs
theorem ZQ {rs:List ResultVar} {rts:List TypeId} {vs:List V} (h:QL T σ' rs fun es=>QM T σ' rts es vs):QRQ T rs rts vs .normal σ':=⟨.inl rfl,h⟩
theorem ZP {rs:List ResultVar} {rts:List TypeId} {vs:List V} (h:QL T σ' rs fun es=>QM T σ' rts es vs):QRQ T rs rts vs .ret σ':=⟨.inr rfl,h⟩
theorem ArgsFit.len:∀ {ts:List TypeId} {vs:List V} {xs:List Value},ArgsFit T w F ts vs xs→(QF T ts vs).length=xs.length
 | [],[],[],_=>rfl
 | _::_,_::_,_::_,⟨_,h⟩=>by simp [QF,ArgsFit.len h]
 | [],[],_::_,h=>h.elim
 | [],_::_,_,h=>h.elim
 | _::_,[],_,h=>h.elim
 | _::_,_::_,[],h=>h.elim
theorem Ctr.body (hP : TabOk P T) {f : FuncId} {fn : Func} {c : Code} {pts rts : List TypeId} {vs rs : List V} (hf : P.funcs[f]? = some fn) (hb : fn.body = some c) (hname : (fn.name == "runtime.NumGoroutine") = false) (n : Nat) (hnt : fn.ntmps = n) (res : List ResultVar) (hrs : fn.results.toList = res) (hn : (QF T pts vs).length ≤ n)
 (h:SA P T c (QRQ T res rts rs) { tm:=Zf 0 (QF T pts vs),ob:=[],out:=[],nt:=n }):Ctr P T f pts rts vs rs:=by
 subst hnt hrs
 refine ⟨Wt hf (by rw [hb];rfl) hname,?_⟩
 intro w F xs hF hg hx
 refine calls_of_wp hf hb ?_
 have hl:=hx.len
 have hR:Rel T w F (fun _=>.none) ⟨w,F,hg⟩ { tm:=Zf 0 (QF T pts vs),ob:=[],out:=[],nt:=fn.ntmps } (xs.toArray++Array.replicate (fn.ntmps-xs.toArray.size) undef) [] :=
  ⟨QAK (Wr hx) _,trivial,fun i o h=>by simp at h,fun _ _=>rfl,fun i j b h=>by simp [RI.block] at h,hF,Below.refl _ _,by simp;omega,fun _ h=>.inr h⟩
 refine wp_mono (h ⟨w,F,hg⟩ w F _ { tmps:=xs.toArray++Array.replicate (fn.ntmps-xs.toArray.size) undef,defers:=[] } [] rfl hR) ?_
 rintro ex a' w' ⟨σ',F',ρ',⟨hex,hr⟩,hd',hR''⟩
 exact UL hP hR'' hd' hex hr fun es ys hv he=>⟨ys,rfl,hR''.below,y4 hP.sized hR'' hv he⟩
variable {P:Program} {T:Tab} {w w':World} {w0:Base T} {F F':Nat→Prop} {ρ ρ':Nat→RI} {σ σ':St} {a:Act} {outs:List (Array Value)}
def Zc (T:Tab) (σ:St) (t:TypeId):E→Option V
 | .sl i e lo n _=>if T.ty t=.slice e then match σ.ob[i]? with
   | some (.row _ l)=>some (.list ((l.drop lo).take n))
   | _=>none
   else none
 | .ptr i p t'=>if T.ty t=.ptr t' then match σ.ob[i]? with
   | some (.var _ (.data _ v))=>some (.ref (v.get p))
   | _=>none
   else none
 | e=>UY T t e
def Zy (T:Tab) (σ:St):List TypeId→List E→Option (List V)
 | [],[]=>some []
 | t::ts,e::es=>match Zc T σ t e,Zy T σ ts es with
   | some v,some vs=>some (v::vs)
   | _,_=>none
 | _,_=>none
theorem QEa (hP:TabOk P T) {tmps:Array Value} (hR:Rel T w F ρ w0 σ tmps outs) {t:TypeId} {e:E} {x:Value} {v:V} (hx:ERel T w F ρ e x) (h:Zc T σ t e=some v) :
 Fits T w (fun b=>b<w.heap.size) t v x.cells.toList∧Qz T t x x.cells.toList:=by
 have base:∀ {e:E},ERel T w F ρ e x→UY T t e=some v→Fits T w (fun b=>b<w.heap.size) t v x.cells.toList∧Qz T t x x.cells.toList:=by
  intro e hx h
  obtain ⟨h1,h2⟩:=XE hx h
  exact ⟨h1.mono hR.fsub (fun _ _=>rfl),h2⟩
 unfold Zc at h
 split at h
 · rename_i i el lo n c
   split at h;rotate_left;· cases h
   rename_i ht
   split at h;rotate_left;· cases h
   rename_i e2 l ho
   cases h
   have hob:=hR.ob _ _ ho
   have hval:∀ ad len cap,x=.slice ad len cap→Qz T t x x.cells.toList:=fun ad len cap hx=>by subst hx;simp [Qz,ht,TyD.isAgg,Value.cells]
   rcases hx with ⟨h1,rfl,_,rfl⟩|⟨b,m,cap,off,h1,h2,h3,rfl,h5,h6⟩
   · simp only [List.take_zero]
     exact ⟨.nil ht,hval _ _ _ rfl⟩
   · rw [h1] at hob
     obtain ⟨rfl,q2,xs,q3,q4⟩:=hob
     refine ⟨?_,hval _ _ _ rfl⟩
     rcases q3.2 with ⟨q,_⟩|⟨b',cap',cur,hr,hb,hh,hn',hc',hs',htk⟩
     · cases q
     · cases hr
       have hnl:((l.drop lo).take n).length=n:=by simp;omega
       have hf:=q4.slice hP.sized (lo:=lo) (m:=n) (by omega)
       refine .slice ht (Array.getElem?_eq_some_iff.1 hh).1 (cs:=(xs.drop (lo*T.sz el)).take (n*T.sz el)) ?_ hnl (hf.mono hR.fsub (fun _ _=>rfl)) (by split<;>omega)
       rcases h6 with h6|h6
       · subst h6
         intro j y hy
         simp at hy
       · have hys:Seg w b 0 xs:=by
          have:=Za (w:=w) hh 0 (l.length*T.sz el)
          rw [List.drop_zero,htk] at this
          exact this
         have:=hys.sub (lo*T.sz el) (n*T.sz el)
         rw [Nat.zero_add] at this
         rw [h6]
         exact this
 · rename_i i p t'
   split at h;rotate_left;· cases h
   rename_i ht
   split at h;rotate_left;· cases h
   rename_i tv td y ho
   cases h
   have hob:=hR.ob _ _ ho
   obtain ⟨b,root,off,p1,p2,rfl⟩:=hx
   rw [p1] at hob
   obtain ⟨⟨q1,q1',q1''⟩,q2,q3,cs,ct,z,q4,q5,q6,q7⟩:=hob
   obtain ⟨cs',rfl,hA,hf⟩:=q5
   have:=q1'' _ _ rfl
   subst this
   subst q1
   have hcs:cs'=cs:=by have:=q6.2;rw [if_pos hA] at this;simpa using this
   subst hcs
   obtain ⟨g1,g2⟩:=p2.get hP.sized hf
   refine ⟨.ref ht (Array.getElem?_eq_some_iff.1 q4).1 (Za q4 off _) (g1.mono hR.fsub (fun _ _=>rfl)),by simp [Qz,ht,TyD.isAgg,Value.cells]⟩
 · exact base hx h
theorem U5 (hP:TabOk P T) {tmps:Array Value} (hR:Rel T w F ρ w0 σ tmps outs):∀ {ts:List TypeId} {es:List E} {xs:List Value} {vs:List V},ERelL T w F ρ es xs→Zy T σ ts es=some vs →
 ArgsFit T w (fun b=>b<w.heap.size) ts vs xs
 | [],[],[],vs,_,h=>by cases h;trivial
 | t::ts,e::es,x::xs,vs,⟨h1,h2⟩,h=>by
   unfold Zy at h
   split at h
   · rename_i v vs' hv hvs
     cases h
     exact ⟨QEa hP hR h1 hv,U5 hP hR h2 hvs⟩
   · cases h
 | [],_::_,_,_,_,h=>by simp [Zy] at h
 | _::_,[],_,_,_,h=>by simp [Zy] at h
 | [],[],_::_,_,h,_=>h.elim
 | _::_,_::_,[],_,h,_=>h.elim
theorem Fits.uniq:∀ (d:Nat) {w1 w2:World} {F1 F2:Nat→Prop} {t:TypeId} {v:V} {cs ds:List Value},ZM T d t=true→Fits T w1 F1 t v cs→Fits T w2 F2 t v ds→cs=ds:=by
 intro d
 induction d using Nat.strongRecOn with
 | _ d ih =>
   intro w1 w2 F1 F2 t v cs ds hf h k
   cases d with
   | zero=>simp [ZM] at hf
   | succ d =>
     unfold ZM at hf
     split at hf
     · rename_i kd hk;obtain ⟨n,rfl,_,rfl⟩:=h.inv' hk;obtain ⟨m,e,_,rfl⟩:=k.inv' hk;cases e;rfl
     · rename_i hk;obtain ⟨n,rfl,rfl⟩:=h.inv' hk;obtain ⟨m,e,rfl⟩:=k.inv' hk;cases e;rfl
     · rename_i hk;obtain ⟨n,rfl,rfl⟩:=h.inv' hk;obtain ⟨m,e,rfl⟩:=k.inv' hk;cases e;rfl
     · rename_i ts hk
       obtain ⟨l,rfl,hl⟩:=h.inv' hk
       obtain ⟨m,e,hm⟩:=k.inv' hk
       cases e
       have key:∀ (ts:List TypeId) (l:List V) (cs ds:List Value),(∀ t∈ts,∃ d',d'<d+1∧ZM T d' t=true)→FitsL T w1 F1 ts l cs→FitsL T w2 F2 ts l ds→cs=ds:=by
        intro ts
        induction ts with
        | nil=>intro l cs ds _ h k;cases h;cases k;rfl
        | cons t ts iht =>
          intro l cs ds hall h k
          cases h with
          | cons h1 h2 =>
            cases k with
            | cons k1 k2 =>
              obtain ⟨d',hd',hf'⟩:=hall t (by simp)
              rw [ih d' hd' hf' h1 k1,iht _ _ _ (fun u hu=>hall u (by simp [hu])) h2 k2]
       refine key ts _ _ _ (fun u hu=>?_) hl hm
       obtain ⟨j,hk'⟩:=List.mem_iff_getElem?.1 hu
       obtain ⟨d',h1,h2⟩:=UN hf hk'
       exact ⟨d',by omega,h2⟩
     · rename_i n e hk
       obtain ⟨l,rfl,hl⟩:=h.inv' hk
       obtain ⟨m,e,hm⟩:=k.inv' hk
       cases e
       have key:∀ (ts:List TypeId) (l:List V) (cs ds:List Value),(∀ t∈ts,ZM T d t=true)→FitsL T w1 F1 ts l cs→FitsL T w2 F2 ts l ds→cs=ds:=by
        intro ts
        induction ts with
        | nil=>intro l cs ds _ h k;cases h;cases k;rfl
        | cons t ts iht =>
          intro l cs ds hall h k
          cases h with
          | cons h1 h2 =>
            cases k with
            | cons k1 k2=>rw [ih d (by omega) (hall t (by simp)) h1 k1,iht _ _ _ (fun u hu=>hall u (by simp [hu])) h2 k2]
       exact key _ _ _ _ (fun u hu=>by rw [(List.mem_replicate.1 hu).2];exact hf) hl hm
     · cases hf
theorem QGK {t:TypeId} {x y:Value} {cs:List Value} (hx:Qz T t x cs) (hy:Qz T t y cs):x=y:=by
 unfold Qz at hx hy
 split at hx
 · rename_i hA;rw [if_pos hA] at hy;rw [hx,hy]
 · rename_i hA;rw [if_neg hA] at hy;rw [hx] at hy;simpa using hy
theorem vq {d:Nat} {t e:TypeId} (hf:ZM T d t=true):T.ty t≠.slice e:=by
 intro h
 cases d with
 | zero=>simp [ZM] at hf
 | succ d=>simp [ZM,h] at hf
theorem CallQ.ctr (hP:TabOk P T) {f:FuncId} {pts:List TypeId} {rt:TypeId} {vs:List V} {r:V} {es:List E} (hc:Ctr P T f pts [rt] vs [r]) (hv:Zy T σ pts es=some vs) (hf:ZM T 20 rt=true):CallQ P T σ f es (WA T rt r):=by
 obtain ⟨hE,hc⟩:=hc
 refine ⟨hE,?_⟩
 intro w0 w F ρ tmps outs xs hR hx
 have run:∀ w',Below w.heap.size w w'→Calls P f xs.toArray w' fun en w''=>∃ y,en=.returned y∧Below w'.heap.size w' w''∧Fits T w'' (fun _=>False) rt r y.cells.toList∧Qz T rt y y.cells.toList:=by
  intro w' hb
  have hR':=hR.later hb
  have hx':ERelL T w' F ρ es xs:=hx.mono (fun _ x=>x) (fun b hF=>hb.block b (hR.fsub b hF)) (fun _ _=>rfl)
  refine (hc w' _ xs (fun _ h=>h) (T.globB _ _ (Base.ok _) hR'.below) (U5 hP hR' hx' hv)).mono ?_
  rintro en w'' ⟨ys,rfl,hb',hres⟩
  match ys,hres with
  | [y],⟨hres,_,_⟩ =>
    refine ⟨y,rfl,hb',?_⟩
    unfold QBy at hres
    split at hres
    · rename_i e he;exact absurd he (vq hf)
    · exact hres.2
 obtain ⟨en,w1,fr,⟨y,rfl,_,h1,h2⟩,_⟩:=run w (Below.refl _ _) []
 refine ⟨y,Yy (h1.flat (w':=w) (F':=F) 20 hf) h2,fun w' hb=>(run w' hb).mono ?_⟩
 rintro en w'' ⟨y',rfl,hb',h3,h4⟩
 have hcs:=Fits.uniq 20 hf h3 h1
 refine ⟨?_,hb'⟩
 rw [hcs] at h4
 rw [QGK h4 h2]
def Yu (T:Tab) (n:Nat):List TypeId→List V→List Obj × List E
 | t::ts,v::vs=>match T.ty t with
   | .slice e=>(.row e v.toList::(Yu T (n+1) ts vs).1,.sl n e 0 v.toList.length false::(Yu T (n+1) ts vs).2)
   | _=>((Yu T n ts vs).1,WA T t v::(Yu T n ts vs).2)
 | _,_=>([],[])
theorem Rel.add {tmps:Array Value} (h:Rel T w F ρ w0 σ tmps outs) {r:RI} {o:Obj} (hr:∀ b,r.block=some b→∀ j,(ρ j).block≠some b) (ho:ORel T w F (zE ρ σ.ob.length r) w0.w.heap.size r o) :
 Rel T w F (zE ρ σ.ob.length r) w0 { σ with ob:=σ.ob++[o] } tmps outs:=by
 have hn:ρ σ.ob.length=.none:=h.free _ (by simp)
 have hm:=QAR (r:=r) hn
 refine ⟨h.tm.mono (fun _ x=>x) (fun _ _=>rfl) hm,h.out.mono (fun _ x=>x) (fun _ _=>rfl) hm,?_,?_,?_,h.fsub,h.below,h.size,h.fold⟩
 · intro i o' hi
   by_cases hlt:i<σ.ob.length
   · simp only [List.getElem?_append_left hlt] at hi
     rw [XO ρ r (by omega)]
     exact (h.ob i o' hi).mono (fun _ x=>x) (fun _ _=>rfl) hm (fun _ _=>rfl) (fun b hb=>(h.own hb).2.1)
   · rw [List.getElem?_append_right (by omega)] at hi
     have:i=σ.ob.length:=by
      have:=(List.getElem?_eq_some_iff.1 hi).1
      simp at this
      omega
     subst this
     simp at hi
     subst hi
     rw [XD]
     exact ho
 · intro i hi
   simp at hi
   rw [XO ρ r (by omega)]
   exact h.free i (by simp;omega)
 · intro i j b hi hj
   unfold zE at hi hj
   split at hi<;>split at hj
   · omega
   · exact absurd hj (hr b hi j)
   · exact absurd hi (hr b hj i)
   · exact h.inj i j b hi hj
theorem zc {n0:Nat} (hF:∀ b,F b→b<n0) {tmps:Array Value}:∀ {ts:List TypeId} {vs:List V} {ys:List Value} {σ:St} {ρ:Nat→RI},Rel T w F ρ w0 σ tmps outs→w0.w.heap.size≤n0→wN T w n0 ts vs ys →
 (∀ y∈ys,∀ b,y.ownBlock=some b→n0≤b→∀ j,(ρ j).block≠some b)→∃ ρ',Rel T w F ρ' w0 { σ with ob:=σ.ob++(Yu T σ.ob.length ts vs).1 } tmps outs∧ERelL T w F ρ' (Yu T σ.ob.length ts vs).2 ys∧(∀ i,ρ i≠.none→ρ' i=ρ i)
 | [],[],[],σ,ρ,hR,_,_,_=>⟨ρ,by simpa [Yu] using hR,trivial,fun _ _=>rfl⟩
 | t::ts,v::vs,y::ys,σ,ρ,hR,hn,⟨h1,h2,h3⟩,hd=>by
   unfold QBy at h1
   unfold Yu
   split at h1
   · rename_i e ht
     obtain ⟨l,zs,rfl,hfl,hown,hf⟩:=h1
     have hlt:=hown.lt
     have hadd:=hR.add (r:=.row e y) (o:=.row e l) (fun b hb=>hd y (by simp) b hb (hlt b hb).1) ⟨rfl,fun b hb hFb=>by have:=hF b hFb;have:=(hlt b hb).1;omega,zs,⟨hown.1,by
      rcases hown.2 with h|⟨g,cap,cur,q1,q2,q3⟩
      · exact .inl h
      · exact .inr ⟨g,cap,cur,q1,Nat.le_trans hn q2,q3⟩⟩,hf.flat hfl⟩
     obtain ⟨ρ',r1,r2,r3⟩:=zc hF (σ:={ σ with ob:=σ.ob++[.row e l] }) hadd hn h3 (fun y' hy' b hb hnb j hj=>by
      unfold zE at hj
      split at hj
      · exact h2 b hj y' hy' hb
      · exact hd y' (by simp [hy']) b hb hnb j hj)
     have hnone:ρ σ.ob.length=.none:=hR.free _ (by simp)
     simp only [List.length_append,List.length_cons,List.length_nil,Nat.zero_add] at r1 r2
     simp only [ht]
     refine ⟨ρ',by simpa using r1,⟨?_,r2⟩,fun i hi=>?_⟩
     · have hk:ρ' σ.ob.length=.row e y:=by
        rw [r3 _ (by rw [XD];simp),XD]
       unfold ERel
       simp only [V.toList_list]
       rw [hk]
       rcases hown.2 with ⟨rfl,h0⟩|⟨g,cap,cur,rfl,q2,q3,q4,_⟩
       · exact .inl ⟨rfl,rfl,rfl,h0⟩
       · exact .inr ⟨g,_,cap,0,rfl,by omega,q4,rfl,fun _=>rfl,.inr (by simp)⟩
     · have hne:i≠σ.ob.length:=fun h=>hi (by rw [h];exact hnone)
       rw [r3 i (by rw [XO _ _ hne];exact hi),XO _ _ hne]
   · rename_i hns
     obtain ⟨hfl,hf,hval⟩:=h1
     obtain ⟨ρ',r1,r2,r3⟩:=zc hF hR hn h3 (fun y' hy'=>hd y' (by simp [hy']))
     have hnew:(match T.ty t with
      | .slice e=>(.row e v.toList::(Yu T (σ.ob.length+1) ts vs).1,.sl σ.ob.length e 0 v.toList.length false::(Yu T (σ.ob.length+1) ts vs).2)
      | _=>((Yu T σ.ob.length ts vs).1,WA T t v::(Yu T σ.ob.length ts vs).2))=((Yu T σ.ob.length ts vs).1,WA T t v::(Yu T σ.ob.length ts vs).2):=by
      split
      · rename_i e he;exact absurd he (hns e)
      · rfl
     simp only [hnew]
     exact ⟨ρ',r1,⟨Yy (hf.flat 20 hfl) hval,r2⟩,r3⟩
 | [],[],_::_,_,_,_,_,h,_=>h.elim
 | [],_::_,_,_,_,_,_,h,_=>h.elim
 | _::_,[],_,_,_,_,_,h,_=>h.elim
 | _::_,_::_,[],_,_,_,_,h,_=>h.elim
theorem CallE.ctr (hP:TabOk P T) {f:FuncId} {pts rts:List TypeId} {vs rs:List V} {es:List E} {K:St→E→Prop} (hc:Ctr P T f pts rts vs rs) (hv:Zy T σ pts es=some vs)
 (hK:K { σ with ob:=σ.ob++(Yu T σ.ob.length rts rs).1 } (VZ (Yu T σ.ob.length rts rs).2)):CallE P T σ f es K:=by
 obtain ⟨hE,hc⟩:=hc
 refine ⟨hE,?_⟩
 intro w0 w F ρ tmps outs xs hR hx
 refine (hc w _ xs (fun _ h=>h) (T.globB _ _ (Base.ok _) hR.below) (U5 hP hR hx hv)).mono ?_
 rintro en w' ⟨ys,rfl,hb,hres⟩
 have hR':=hR.later hb
 obtain ⟨ρ',r1,r2,_⟩:=zc (n0:=w.heap.size) hR.fsub hR' hR.below.size hres (fun y _ b _ hnb j hj=>by have:=(hR.own hj).1;omega)
 exact ⟨_,_,_,F,ρ',rfl,hK,zX r2,r1⟩
variable {P:Program} {T:Tab}
def QMU (l:List (Nat × TyD)) (t:TypeId):TyD:=(l.lookup t).getD .other
theorem QKA {l:List (Nat × TyD)} {t:TypeId} {d:TyD} (h:QMU l t=d) (hd:d≠.other):(t,d)∈l:=by
 unfold QMU at h
 induction l with
 | nil=>simp at h;exact absurd h.symm hd
 | cons x l ih =>
   obtain ⟨s,e⟩:=x
   simp only [List.lookup_cons] at h
   by_cases hts:t=s
   · subst hts;simp at h;subst h;simp
   · have:(t == s)=false:=by simpa using hts
     rw [this] at h
     exact List.mem_cons_of_mem _ (ih h)
def QGg (T:Tab) (cs:List Value) (d:TyD):Bool:=match d with
 | .struct ts=>ts.zipIdx.all fun x=>match T.ty x.1 with
   | .slice _=>match cs[T.offs ts x.2]? with
     | some (.slice none 0 0)=>true
     | _=>false
   | _=>true
 | _=>true
structure RowOk (P:Program) (T:Tab) (t:TypeId) (d:TyD):Prop where
 kind:match d with
  | .int k=>P.underlying t=some (.int k)∧T.sz t=1
  | .bool=>P.underlying t=some .bool∧T.sz t=1
  | .str=>P.underlying t=some .string∧T.sz t=1
  | .struct ts=>(∃ fs:Array Field,P.underlying t=some (.struct fs)∧fs.toList.map (·.type)=ts∧P.stoodInHeld t=false ∧
     (fs.toList.zipIdx.all fun x => x.1.offset == T.offs ts x.2 && decide (0 < T.sz x.1.type) && !(x.1.name == "_") && !(T.ty x.1.type == .other)) = true) ∧ T.sz t = T.szs ts ∧ P.eqGuardType P.depth t = false
  | .arr n e=>(P.underlying t=some (.array n e)∧1<n∧0<T.sz e∧T.ty e≠.other)∧T.sz t=n*T.sz e∧P.eqGuardType P.depth t=false
  | .slice e=>(P.underlying t=some (.slice e)∧T.ty e≠.other)∧T.sz t=1∧0<T.sz e
  | .ptr e=>(P.underlying t=some (.pointer e)∧T.ty e≠.other)∧T.sz t=1
  | .fn=>(∃ a b c,P.underlying t=some (.func a b c))∧T.sz t=1
  | .other=>False
 info:∃ z,(P.info? t).map (fun i=>(i.size,i.bytes,i.zero))=some (T.sz t,T.by_ t,some z)∧z.cells.size=T.sz t∧(z.cells.toList.all fun c=>c.oneCell')=true ∧
  (if d.isAgg then z=.agg z.cells else z.oneCell'=true)∧(d≠.fn→(∀ e,d≠.ptr e)→∀ w F,Fits T w F t (T.zero t) z.cells.toList)∧(d=.fn→z=.nilFunc)∧(∀ e,d=.slice e→z=.slice none 0 0)∧QGg T z.cells.toList d=true
theorem QSq {l:List (Nat × TyD)} (hty:T.ty=QMU l) (h:∀ p∈l,RowOk P T p.1 p.2):TabOk P T:=by
 have at_:∀ {t d},T.ty t=d→d≠.other→RowOk P T t d:=fun {t d} ht hd=>h (t,d) (QKA (by rw [← hty];exact ht) hd)
 refine ⟨⟨?_,?_,?_,?_,?_,?_,?_,?_⟩,?_,?_,?_,?_,?_,?_,?_,?_,?_,?_⟩
 · exact fun t k ht=>(at_ ht (by simp)).kind.2
 · exact fun t ht=>(at_ ht (by simp)).kind.2
 · exact fun t ht=>(at_ ht (by simp)).kind.2
 · exact fun t e ht=>(at_ ht (by simp)).kind.2
 · exact fun t e ht=>(at_ ht (by simp)).kind.2
 · exact fun t ht=>(at_ ht (by simp)).kind.2
 · exact fun t ts ht=>(at_ ht (by simp)).kind.2.1
 · exact fun t n e ht=>by rw [ZI];exact (at_ ht (by simp)).kind.2.1
 · exact fun t k ht=>(at_ ht (by simp)).kind.1
 · exact fun t ht=>(at_ ht (by simp)).kind.1
 · exact fun t ht=>(at_ ht (by simp)).kind.1
 · intro t ts ht
   obtain ⟨⟨fs,h1,h2,h3,h4⟩,_⟩:=(at_ ht (by simp)).kind
   refine ⟨fs,h1,h2,h3,fun k f hf=>?_⟩
   have hm:(f,k)∈fs.toList.zipIdx:=by
    rw [List.mem_iff_getElem?]
    exact ⟨k,by simp [hf]⟩
   have:=List.all_eq_true.1 h4 _ hm
   simp only [Bool.and_eq_true,beq_iff_eq,decide_eq_true_eq,Bool.not_eq_true'] at this
   obtain ⟨⟨⟨a,b⟩,c⟩,d⟩:=this
   exact ⟨a,b,c,by simpa using d⟩
 · exact fun t n e ht=>(at_ ht (by simp)).kind.1
 · exact fun t e ht=>(at_ ht (by simp)).kind.1
 · exact fun t e ht=>(at_ ht (by simp)).kind.1
 · exact fun t ht=>(at_ ht (by simp)).kind.1
 · intro t ht
   cases hd:T.ty t with
   | struct ts=>exact (at_ hd (by simp)).kind.2.2
   | arr n e=>exact (at_ hd (by simp)).kind.2.2
   | _=>rw [hd] at ht;cases ht
 · intro t ht
   obtain ⟨z,h1,h2,h3,h4,h5,h6,h7,h8⟩:=(at_ rfl ht).info
   cases hi:P.info? t with
   | none=>rw [hi] at h1;cases h1
   | some i =>
     rw [hi] at h1
     simp at h1
     obtain ⟨a,b,c⟩:=h1
     refine ⟨i,rfl,a,b,z,c,h2,fun c hc=>?_,h4,h5,h6,h7,fun ts hts k u e hk hu=>?_⟩
     · exact List.all_eq_true.1 h3 c (by simpa using hc)
     · rw [hts] at h8
       have hm:(u,k)∈ts.zipIdx:=by rw [List.mem_iff_getElem?];exact ⟨k,by simp [hk]⟩
       have:=List.all_eq_true.1 h8 _ hm
       simp only [hu] at this
       split at this
       · assumption
       · cases this
theorem FitsL.repl {w:World} {F:Nat→Prop} {e:TypeId} {v:V} {cs:List Value} (h:Fits T w F e v cs):∀ n,FitsL T w F (List.replicate n e) (List.replicate n v) (List.replicate n cs).flatten
 | 0=>.nil
 | n+1=>by
   simp only [List.replicate_succ,List.flatten_cons]
   exact .cons h (FitsL.repl h n)
end Go.Eng
namespace Go.Eng.Tryz
open Go.RowKit Go.Eng
def z2:V:=.int 0
def z3:V:=.int 0
def z4:V:=.bool false
def z5:V:=.int 0
def z9:V:=.str ByteArray.empty
def z21:V:=.int 0
def z22:V:=.list []
def z23:V:=.list []
def z24:V:=.list []
def z26:V:=.agg [z22,z3,z23,z24]
def z28:V:=.agg [z3,z3,z3]
def z29:V:=.list []
def z30:V:=.int 0
def z36:V:=.list []
def z37:V:=.agg (List.replicate 8 (z2))
def z38:V:=.agg (List.replicate 4 (z3))
def z39:V:=.agg (List.replicate 4 (z2))
def z41:V:=.agg [z39,z3,z4,z3,z3,z2]
def z42:V:=.agg (List.replicate 4 (z41))
def z44:V:=.agg [z3,z3,z3,z3,z37]
def z45:V:=.agg (List.replicate 6 (z44))
def z47:V:=.agg [z37,z38,z42,z45,z3]
def z49:V:=.agg [z36,z47,z4]
def z52:V:=.list []
def z56:V:=.agg [z3,z3]
def z58:V:=.int 0
def wP:V:=.agg [z3,z3,z4]
def z61:V:=.agg (List.replicate 6 (wP))
def z63:V:=.agg [z3,z3,z3,z58,z3,z2,z2,z61,z3]
def z75:V:=.agg [z26,z29,z3,z28]
def z89:V:=.list []
def z93:V:=.agg [z3,z3]
def z94:V:=.list []
def QUd:V:=.int 0
def QR9:V:=.agg [z58,z3,z3,z3,z2]
def QPZ:V:=.list []
def QPY:V:=.list []
def QPX:V:=.agg [z3,z3,QPZ,QPY]
def QUc:V:=.int 0
def QUb:V:=.int 0
def QUa:V:=.int 0
def QR8:V:=.agg (List.replicate 8 (z4))
def QR7:V:=.agg (List.replicate 64 (z4))
def QUZ:V:=.int 0
def QPV:V:=.agg (List.replicate 8 (z3))
def QR6:V:=.agg (List.replicate 7 (QPV))
def QUY:V:=.int 0
def QUX:V:=.int 0
def QR5:V:=.agg [z4,z2]
def QPU:V:=.list []
def QR4:V:=.agg [QPU,z3]
def QUW:V:=.int 0
def QR3:V:=.agg [z4,z3,z3,z3]
def QUV:V:=.int 0
def QUU:V:=.int 0
def QUT:V:=.int 0
def QUS:V:=.int 0
def QUR:V:=.int 0
def QR2:V:=.agg [z26,QPX]
def QUQ:V:=.int 0
def QR1:V:=.agg [z26,z47,z3,z3,z2,z4]
def QUP:V:=.int 0
def QR0:V:=.agg (List.replicate 6 (z3))
def QRz:V:=.agg [z47,z2,z3,z3]
def QUO:V:=.int 0
def QUM:V:=.int 0
def QRy:V:=.list []
def QRx:V:=.int 0
def QUK:V:=.int 0
def QRv:V:=.int 0
def QRu:V:=.int 0
def QRt:V:=.int 0
def QRs:V:=.int 0
def QRr:V:=.int 0
def QRq:V:=.int 0
def QRp:V:=.int 0
def QUH:V:=.int 0
def QRo:V:=.agg (List.replicate 64 (z5))
def QUG:V:=.int 0
def tyL:List (Nat × TyD):=[(2,.int .i64),(3,.int .i64),(4,.bool),(5,.int .u8),(9,.str),(21,.int .i32),(22,.slice 167),(23,.slice 3),(24,.slice 108),(26,.struct [22,3,23,24]),(28,.struct [3,3,3]),(29,.slice 56),(30,.int .i64),(36,.slice 63),(37,.arr 8 2),(38,.arr 4 3),(39,.arr 4 2),(41,.struct [39,3,4,3,3,2]),(42,.arr 4 41),(44,.struct [3,3,3,3,37]),(45,.arr 6 44),(47,.struct [37,38,42,45,3]),(49,.struct [36,47,4]),(52,.slice 47),(56,.struct [3,3]),(58,.int .i64),(60,.struct [3,3,4]),(61,.arr 6 60),(63,.struct [3,3,3,58,3,2,2,61,3]),(75,.struct [26,29,3,28]),(89,.slice 93),(93,.struct [3,3]),(94,.slice 60),(100,.fn),(104,.struct [58,3,3,3,2]),(105,.slice 104),(106,.slice 173),(108,.struct [3,3,105,106]),(111,.fn),(123,.fn),(137,.ptr 63),(140,.arr 8 4),(143,.arr 64 4),(146,.fn),(149,.arr 8 3),(151,.arr 7 149),(153,.fn),(158,.fn),(167,.struct [4,2]),(171,.slice 176),(173,.struct [171,3]),(174,.fn),(176,.struct [4,3,3,3]),(184,.fn),(186,.fn),(187,.fn),(190,.ptr 151),(194,.ptr 196),(196,.struct [26,108]),(201,.ptr 203),(203,.struct [26,47,3,3,2,4]),(206,.ptr 44),(215,.arr 6 3),(223,.struct [47,2,3,3]),(229,.fn),(235,.fn),(247,.slice 2),(258,.int .u64),(259,.ptr 41),(266,.int .u64),(275,.int .i64),(283,.int .u32),(285,.int .i8),(286,.int .i16),(287,.int .u16),(289,.int .u64),(293,.ptr 3),(295,.arr 64 5),(298,.ptr 289)]
def szL:List (Nat × Nat):=[(2,1),(3,1),(4,1),(5,1),(9,1),(21,1),(22,1),(23,1),(24,1),(26,4),(28,3),(29,1),(30,1),(36,1),(37,8),(38,4),(39,4),(41,9),(42,36),(44,12),(45,72),(47,121),(49,123),(52,1),(56,2),(58,1),(60,3),(61,18),(63,26),(75,9),(89,1),(93,2),(94,1),(100,1),(104,5),(105,1),(106,1),(108,4),(111,1),(123,1),(137,1),(140,8),(143,64),(146,1),(149,8),(151,56),(153,1),(158,1),(167,2),(171,1),(173,2),(174,1),(176,4),(184,1),(186,1),(187,1),(190,1),(194,1),(196,8),(201,1),(203,129),(206,1),(215,6),(223,124),(229,1),(235,1),(247,1),(258,1),(259,1),(266,1),(275,1),(283,1),(285,1),(286,1),(287,1),(289,1),(293,1),(295,64),(298,1)]
def byL:List (Nat × Nat):=[(2,8),(3,8),(4,1),(5,1),(9,16),(21,4),(22,24),(23,24),(24,24),(26,80),(28,24),(29,24),(30,8),(36,24),(37,64),(38,32),(39,32),(41,72),(42,288),(44,96),(45,576),(47,968),(49,1000),(52,24),(56,16),(58,8),(60,24),(61,144),(63,208),(75,136),(89,24),(93,16),(94,24),(100,8),(104,40),(105,24),(106,24),(108,64),(111,8),(123,8),(137,8),(140,8),(143,64),(146,8),(149,64),(151,448),(153,8),(158,8),(167,16),(171,24),(173,32),(174,8),(176,32),(184,8),(186,8),(187,8),(190,8),(194,8),(196,144),(201,8),(203,1080),(206,8),(215,48),(223,992),(229,8),(235,8),(247,24),(258,8),(259,8),(266,8),(275,8),(283,4),(285,1),(286,2),(287,2),(289,8),(293,8),(295,64),(298,8)]
def zeroL:List (Nat × V):=[(2,z2),(3,z3),(4,z4),(5,z5),(9,z9),(21,z21),(22,z22),(23,z23),(24,z24),(26,z26),(28,z28),(29,z29),(30,z30),(36,z36),(37,z37),(38,z38),(39,z39),(41,z41),(42,z42),(44,z44),(45,z45),(47,z47),(49,z49),(52,z52),(56,z56),(58,z58),(60,wP),(61,z61),(63,z63),(75,z75),(89,z89),(93,z93),(94,z94),(100,QUd),(104,QR9),(105,QPZ),(106,QPY),(108,QPX),(111,QUc),(123,QUb),(137,QUa),(140,QR8),(143,QR7),(146,QUZ),(149,QPV),(151,QR6),(153,QUY),(158,QUX),(167,QR5),(171,QPU),(173,QR4),(174,QUW),(176,QR3),(184,QUV),(186,QUU),(187,QUT),(190,QUS),(194,QUR),(196,QR2),(201,QUQ),(203,QR1),(206,QUP),(215,QR0),(223,QRz),(229,QUO),(235,QUM),(247,QRy),(258,QRx),(259,QUK),(266,QRv),(275,QRu),(283,QRt),(285,QRs),(286,QRr),(287,QRq),(289,QRp),(293,QUH),(295,QRo),(298,QUG)]
def glob (w:World):Prop:=∀ j,j<Lib.deBruijn64tab.length→w.cell? ⟨0,j,none⟩=some (.int .u8 (Lib.deBruijn64tab.getD j 0))
theorem globB (w w':World) (h:glob w) (hb:Below w.heap.size w w'):glob w':=by
 intro j hj
 have h1:=h j hj
 have hlt:0<w.heap.size:=by
  by_cases q:0<w.heap.size
  · exact q
  · exfalso
    have:w.heap[0]?=none:=Array.getElem?_eq_none (by omega)
    simp [World.cell?,this] at h1
 rw [hb.cell hlt];exact h1
def tab:Tab:={ ty:=QMU tyL,sz:=fun t=>(szL.lookup t).getD 0,by_:=fun t=>(byL.lookup t).getD 0,zero:=fun t=>(zeroL.lookup t).getD default,glob:=glob,globB:=globB }
theorem ty2:tab.ty 2=.int .i64:=rfl
theorem U9:tab.ty 3=.int .i64:=rfl
theorem by3:tab.by_ 3=8:=rfl
theorem ty4:tab.ty 4=.bool:=rfl
theorem ty5:tab.ty 5=.int .u8:=rfl
theorem ty9:tab.ty 9=.str:=rfl
theorem QUm:tab.ty 21=.int .i32:=rfl
theorem QSX:tab.ty 22=.slice 167:=rfl
theorem QMV:tab.ty 23=.slice 3:=rfl
theorem QST:tab.ty 24=.slice 108:=rfl
theorem QSP:tab.ty 26=.struct [22,3,23,24]:=rfl
theorem QSM:tab.ty 28=.struct [3,3,3]:=rfl
theorem Yo:tab.ty 29=.slice 56:=rfl
theorem QUl:tab.ty 30=.int .i64:=rfl
theorem VO:tab.ty 36=.slice 63:=rfl
theorem QUk:tab.ty 37=.arr 8 2:=rfl
theorem QUj:tab.ty 38=.arr 4 3:=rfl
theorem QUi:tab.ty 39=.arr 4 2:=rfl
theorem QPR:tab.zero 39=z39:=rfl
theorem QPn:tab.ty 41=.struct [39,3,4,3,3,2]:=rfl
theorem QUh:tab.ty 42=.arr 4 41:=rfl
theorem QPm:tab.ty 44=.struct [3,3,3,3,37]:=rfl
theorem QSE:tab.ty 45=.arr 6 44:=rfl
theorem QPl:tab.ty 47=.struct [37,38,42,45,3]:=rfl
theorem Ug:tab.by_ 47=968:=rfl
theorem QPk:tab.ty 49=.struct [36,47,4]:=rfl
theorem QUg:tab.ty 52=.slice 47:=rfl
theorem QPj:tab.ty 56=.struct [3,3]:=rfl
theorem VS:tab.by_ 56=16:=rfl
theorem QDd:tab.zero 56=z56:=rfl
theorem QSD:tab.ty 58=.int .i64:=rfl
theorem QPi:tab.ty 60=.struct [3,3,4]:=rfl
theorem V5:tab.by_ 60=24:=rfl
theorem YS:tab.zero 60=wP:=rfl
theorem QUf:tab.ty 61=.arr 6 60:=rfl
theorem QPh:tab.ty 63=.struct [3,3,3,58,3,2,2,61,3]:=rfl
theorem Uf:tab.by_ 63=208:=rfl
theorem QPg:tab.ty 75=.struct [26,29,3,28]:=rfl
theorem QUe:tab.ty 89=.slice 93:=rfl
theorem QSC:tab.ty 93=.struct [3,3]:=rfl
theorem Xv:tab.zero 93=z93:=rfl
theorem VN:tab.ty 94=.slice 60:=rfl
theorem QSp:tab.ty 100=.fn:=rfl
theorem QKF:tab.ty 104=.struct [58,3,3,3,2]:=rfl
theorem QNz:tab.ty 105=.slice 104:=rfl
theorem QNy:tab.ty 106=.slice 173:=rfl
theorem QKE:tab.ty 108=.struct [3,3,105,106]:=rfl
theorem QSo:tab.ty 111=.fn:=rfl
theorem QSn:tab.ty 123=.fn:=rfl
theorem QSm:tab.ty 137=.ptr 63:=rfl
theorem QSl:tab.ty 140=.arr 8 4:=rfl
theorem QSk:tab.ty 143=.arr 64 4:=rfl
theorem QSj:tab.ty 146=.fn:=rfl
theorem QNx:tab.ty 149=.arr 8 3:=rfl
theorem QNw:tab.ty 151=.arr 7 149:=rfl
theorem QSi:tab.ty 153=.fn:=rfl
theorem QSh:tab.ty 158=.fn:=rfl
theorem QKD:tab.ty 167=.struct [4,2]:=rfl
theorem QNv:tab.ty 171=.slice 176:=rfl
theorem QKC:tab.ty 173=.struct [171,3]:=rfl
theorem QSg:tab.ty 174=.fn:=rfl
theorem QKB:tab.ty 176=.struct [4,3,3,3]:=rfl
theorem QSf:tab.ty 184=.fn:=rfl
theorem QSe:tab.ty 186=.fn:=rfl
theorem QSd:tab.ty 187=.fn:=rfl
theorem QSc:tab.ty 190=.ptr 151:=rfl
theorem QSb:tab.ty 194=.ptr 196:=rfl
theorem QNu:tab.ty 196=.struct [26,108]:=rfl
theorem QSa:tab.ty 201=.ptr 203:=rfl
theorem QHU:tab.ty 203=.struct [26,47,3,3,2,4]:=rfl
theorem QSZ:tab.ty 206=.ptr 44:=rfl
theorem QSY:tab.ty 215=.arr 6 3:=rfl
theorem QSW:tab.ty 223=.struct [47,2,3,3]:=rfl
theorem QSV:tab.ty 229=.fn:=rfl
theorem QSU:tab.ty 235=.fn:=rfl
theorem QSS:tab.ty 247=.slice 2:=rfl
theorem QSR:tab.ty 258=.int .u64:=rfl
theorem QSQ:tab.ty 259=.ptr 41:=rfl
theorem QSO:tab.ty 266=.int .u64:=rfl
theorem QSN:tab.ty 275=.int .i64:=rfl
theorem QSL:tab.ty 283=.int .u32:=rfl
theorem QSK:tab.ty 285=.int .i8:=rfl
theorem QSJ:tab.ty 286=.int .i16:=rfl
theorem QSI:tab.ty 287=.int .u16:=rfl
theorem QNt:tab.ty 289=.int .u64:=rfl
theorem QSH:tab.ty 293=.ptr 3:=rfl
theorem QSG:tab.ty 295=.arr 64 5:=rfl
theorem QSF:tab.ty 298=.ptr 289:=rfl
def c2:List Value:=[.int .i64 0]
theorem f2 (w:World) (F:Nat→Prop):Fits tab w F 2 z2 c2:=.int rfl (by unfold IntKind.has;decide)
def c3:List Value:=[.int .i64 0]
theorem f3 (w:World) (F:Nat→Prop):Fits tab w F 3 z3 c3:=.int rfl (by unfold IntKind.has;decide)
def c4:List Value:=[.bool false]
theorem f4 (w:World) (F:Nat→Prop):Fits tab w F 4 z4 c4:=.bool rfl
def c5:List Value:=[.int .u8 0]
theorem f5 (w:World) (F:Nat→Prop):Fits tab w F 5 z5 c5:=.int rfl (by unfold IntKind.has;decide)
def c9:List Value:=[.string ByteArray.empty]
theorem f9 (w:World) (F:Nat→Prop):Fits tab w F 9 z9 c9:=.str rfl
def c21:List Value:=[.int .i32 0]
theorem f21 (w:World) (F:Nat→Prop):Fits tab w F 21 z21 c21:=.int rfl (by unfold IntKind.has;decide)
def c22:List Value:=[.slice none 0 0]
theorem f22 (w:World) (F:Nat→Prop):Fits tab w F 22 z22 c22:=.nil rfl
def c23:List Value:=[.slice none 0 0]
theorem f23 (w:World) (F:Nat→Prop):Fits tab w F 23 z23 c23:=.nil rfl
def c24:List Value:=[.slice none 0 0]
theorem f24 (w:World) (F:Nat→Prop):Fits tab w F 24 z24 c24:=.nil rfl
def c26:List Value:=c22++(c3++(c23++(c24++[])))
theorem f26 (w:World) (F:Nat→Prop):Fits tab w F 26 z26 c26:=.struct (ts:=[22,3,23,24]) rfl (.cons (f22 w F) (.cons (f3 w F) (.cons (f23 w F) (.cons (f24 w F) (.nil)))))
def c28:List Value:=c3++(c3++(c3++[]))
theorem f28 (w:World) (F:Nat→Prop):Fits tab w F 28 z28 c28:=.struct (ts:=[3,3,3]) rfl (.cons (f3 w F) (.cons (f3 w F) (.cons (f3 w F) (.nil))))
def c29:List Value:=[.slice none 0 0]
theorem f29 (w:World) (F:Nat→Prop):Fits tab w F 29 z29 c29:=.nil rfl
def c30:List Value:=[.int .i64 0]
theorem f30 (w:World) (F:Nat→Prop):Fits tab w F 30 z30 c30:=.int rfl (by unfold IntKind.has;decide)
def c36:List Value:=[.slice none 0 0]
theorem f36 (w:World) (F:Nat→Prop):Fits tab w F 36 z36 c36:=.nil rfl
def c37:List Value:=(List.replicate 8 c2).flatten
theorem f37 (w:World) (F:Nat→Prop):Fits tab w F 37 z37 c37:=.arr (n:=8) (e:=2) rfl (FitsL.repl (f2 w F) 8)
def c38:List Value:=(List.replicate 4 c3).flatten
theorem f38 (w:World) (F:Nat→Prop):Fits tab w F 38 z38 c38:=.arr (n:=4) (e:=3) rfl (FitsL.repl (f3 w F) 4)
def c39:List Value:=(List.replicate 4 c2).flatten
theorem f39 (w:World) (F:Nat→Prop):Fits tab w F 39 z39 c39:=.arr (n:=4) (e:=2) rfl (FitsL.repl (f2 w F) 4)
def c41:List Value:=c39++(c3++(c4++(c3++(c3++(c2++[])))))
theorem f41 (w:World) (F:Nat→Prop):Fits tab w F 41 z41 c41:=.struct (ts:=[39,3,4,3,3,2]) rfl (.cons (f39 w F) (.cons (f3 w F) (.cons (f4 w F) (.cons (f3 w F) (.cons (f3 w F) (.cons (f2 w F) (.nil)))))))
def c42:List Value:=(List.replicate 4 c41).flatten
theorem f42 (w:World) (F:Nat→Prop):Fits tab w F 42 z42 c42:=.arr (n:=4) (e:=41) rfl (FitsL.repl (f41 w F) 4)
def c44:List Value:=c3++(c3++(c3++(c3++(c37++[]))))
theorem f44 (w:World) (F:Nat→Prop):Fits tab w F 44 z44 c44:=.struct (ts:=[3,3,3,3,37]) rfl (.cons (f3 w F) (.cons (f3 w F) (.cons (f3 w F) (.cons (f3 w F) (.cons (f37 w F) (.nil))))))
def c45:List Value:=(List.replicate 6 c44).flatten
theorem f45 (w:World) (F:Nat→Prop):Fits tab w F 45 z45 c45:=.arr (n:=6) (e:=44) rfl (FitsL.repl (f44 w F) 6)
def c47:List Value:=c37++(c38++(c42++(c45++(c3++[]))))
theorem f47 (w:World) (F:Nat→Prop):Fits tab w F 47 z47 c47:=.struct (ts:=[37,38,42,45,3]) rfl (.cons (f37 w F) (.cons (f38 w F) (.cons (f42 w F) (.cons (f45 w F) (.cons (f3 w F) (.nil))))))
def c49:List Value:=c36++(c47++(c4++[]))
theorem f49 (w:World) (F:Nat→Prop):Fits tab w F 49 z49 c49:=.struct (ts:=[36,47,4]) rfl (.cons (f36 w F) (.cons (f47 w F) (.cons (f4 w F) (.nil))))
def c52:List Value:=[.slice none 0 0]
theorem f52 (w:World) (F:Nat→Prop):Fits tab w F 52 z52 c52:=.nil rfl
def c56:List Value:=c3++(c3++[])
theorem f56 (w:World) (F:Nat→Prop):Fits tab w F 56 z56 c56:=.struct (ts:=[3,3]) rfl (.cons (f3 w F) (.cons (f3 w F) (.nil)))
def c58:List Value:=[.int .i64 0]
theorem f58 (w:World) (F:Nat→Prop):Fits tab w F 58 z58 c58:=.int rfl (by unfold IntKind.has;decide)
def c60:List Value:=c3++(c3++(c4++[]))
theorem f60 (w:World) (F:Nat→Prop):Fits tab w F 60 wP c60:=.struct (ts:=[3,3,4]) rfl (.cons (f3 w F) (.cons (f3 w F) (.cons (f4 w F) (.nil))))
def c61:List Value:=(List.replicate 6 c60).flatten
theorem f61 (w:World) (F:Nat→Prop):Fits tab w F 61 z61 c61:=.arr (n:=6) (e:=60) rfl (FitsL.repl (f60 w F) 6)
def c63:List Value:=c3++(c3++(c3++(c58++(c3++(c2++(c2++(c61++(c3++[]))))))))
theorem f63 (w:World) (F:Nat→Prop):Fits tab w F 63 z63 c63:=.struct (ts:=[3,3,3,58,3,2,2,61,3]) rfl (.cons (f3 w F) (.cons (f3 w F) (.cons (f3 w F) (.cons (f58 w F) (.cons (f3 w F) (.cons (f2 w F) (.cons (f2 w F) (.cons (f61 w F) (.cons (f3 w F) (.nil))))))))))
def c75:List Value:=c26++(c29++(c3++(c28++[])))
theorem f75 (w:World) (F:Nat→Prop):Fits tab w F 75 z75 c75:=.struct (ts:=[26,29,3,28]) rfl (.cons (f26 w F) (.cons (f29 w F) (.cons (f3 w F) (.cons (f28 w F) (.nil)))))
def c89:List Value:=[.slice none 0 0]
theorem f89 (w:World) (F:Nat→Prop):Fits tab w F 89 z89 c89:=.nil rfl
def c93:List Value:=c3++(c3++[])
theorem f93 (w:World) (F:Nat→Prop):Fits tab w F 93 z93 c93:=.struct (ts:=[3,3]) rfl (.cons (f3 w F) (.cons (f3 w F) (.nil)))
def c94:List Value:=[.slice none 0 0]
theorem f94 (w:World) (F:Nat→Prop):Fits tab w F 94 z94 c94:=.nil rfl
def c104:List Value:=c58++(c3++(c3++(c3++(c2++[]))))
theorem QVQ (w:World) (F:Nat→Prop):Fits tab w F 104 QR9 c104:=.struct (ts:=[58,3,3,3,2]) rfl (.cons (f58 w F) (.cons (f3 w F) (.cons (f3 w F) (.cons (f3 w F) (.cons (f2 w F) (.nil))))))
def QT0:List Value:=[.slice none 0 0]
theorem QTs (w:World) (F:Nat→Prop):Fits tab w F 105 QPZ QT0:=.nil rfl
def QTz:List Value:=[.slice none 0 0]
theorem QTr (w:World) (F:Nat→Prop):Fits tab w F 106 QPY QTz:=.nil rfl
def c108:List Value:=c3++(c3++(QT0++(QTz++[])))
theorem QTq (w:World) (F:Nat→Prop):Fits tab w F 108 QPX c108:=.struct (ts:=[3,3,105,106]) rfl (.cons (f3 w F) (.cons (f3 w F) (.cons (QTs w F) (.cons (QTr w F) (.nil)))))
def c140:List Value:=(List.replicate 8 c4).flatten
theorem QVP (w:World) (F:Nat→Prop):Fits tab w F 140 QR8 c140:=.arr (n:=8) (e:=4) rfl (FitsL.repl (f4 w F) 8)
def c143:List Value:=(List.replicate 64 c4).flatten
theorem QVO (w:World) (F:Nat→Prop):Fits tab w F 143 QR7 c143:=.arr (n:=64) (e:=4) rfl (FitsL.repl (f4 w F) 64)
def c149:List Value:=(List.replicate 8 c3).flatten
theorem QTp (w:World) (F:Nat→Prop):Fits tab w F 149 QPV c149:=.arr (n:=8) (e:=3) rfl (FitsL.repl (f3 w F) 8)
def c151:List Value:=(List.replicate 7 c149).flatten
theorem QVN (w:World) (F:Nat→Prop):Fits tab w F 151 QR6 c151:=.arr (n:=7) (e:=149) rfl (FitsL.repl (QTp w F) 7)
def c167:List Value:=c4++(c2++[])
theorem QVM (w:World) (F:Nat→Prop):Fits tab w F 167 QR5 c167:=.struct (ts:=[4,2]) rfl (.cons (f4 w F) (.cons (f2 w F) (.nil)))
def QTy:List Value:=[.slice none 0 0]
theorem QTo (w:World) (F:Nat→Prop):Fits tab w F 171 QPU QTy:=.nil rfl
def c173:List Value:=QTy++(c3++[])
theorem QVL (w:World) (F:Nat→Prop):Fits tab w F 173 QR4 c173:=.struct (ts:=[171,3]) rfl (.cons (QTo w F) (.cons (f3 w F) (.nil)))
def c176:List Value:=c4++(c3++(c3++(c3++[])))
theorem QVK (w:World) (F:Nat→Prop):Fits tab w F 176 QR3 c176:=.struct (ts:=[4,3,3,3]) rfl (.cons (f4 w F) (.cons (f3 w F) (.cons (f3 w F) (.cons (f3 w F) (.nil)))))
def c196:List Value:=c26++(c108++[])
theorem QVJ (w:World) (F:Nat→Prop):Fits tab w F 196 QR2 c196:=.struct (ts:=[26,108]) rfl (.cons (f26 w F) (.cons (QTq w F) (.nil)))
def c203:List Value:=c26++(c47++(c3++(c3++(c2++(c4++[])))))
theorem QVI (w:World) (F:Nat→Prop):Fits tab w F 203 QR1 c203:=.struct (ts:=[26,47,3,3,2,4]) rfl (.cons (f26 w F) (.cons (f47 w F) (.cons (f3 w F) (.cons (f3 w F) (.cons (f2 w F) (.cons (f4 w F) (.nil)))))))
def c215:List Value:=(List.replicate 6 c3).flatten
theorem QVH (w:World) (F:Nat→Prop):Fits tab w F 215 QR0 c215:=.arr (n:=6) (e:=3) rfl (FitsL.repl (f3 w F) 6)
def c223:List Value:=c47++(c2++(c3++(c3++[])))
theorem QVG (w:World) (F:Nat→Prop):Fits tab w F 223 QRz c223:=.struct (ts:=[47,2,3,3]) rfl (.cons (f47 w F) (.cons (f2 w F) (.cons (f3 w F) (.cons (f3 w F) (.nil)))))
def QVj:List Value:=[.slice none 0 0]
theorem QVF (w:World) (F:Nat→Prop):Fits tab w F 247 QRy QVj:=.nil rfl
def QVi:List Value:=[.int .u64 0]
theorem QVE (w:World) (F:Nat→Prop):Fits tab w F 258 QRx QVi:=.int rfl (by unfold IntKind.has;decide)
def QVh:List Value:=[.int .u64 0]
theorem QVD (w:World) (F:Nat→Prop):Fits tab w F 266 QRv QVh:=.int rfl (by unfold IntKind.has;decide)
def QVg:List Value:=[.int .i64 0]
theorem QVC (w:World) (F:Nat→Prop):Fits tab w F 275 QRu QVg:=.int rfl (by unfold IntKind.has;decide)
def QVf:List Value:=[.int .u32 0]
theorem QVB (w:World) (F:Nat→Prop):Fits tab w F 283 QRt QVf:=.int rfl (by unfold IntKind.has;decide)
def QVe:List Value:=[.int .i8 0]
theorem QVA (w:World) (F:Nat→Prop):Fits tab w F 285 QRs QVe:=.int rfl (by unfold IntKind.has;decide)
def QVd:List Value:=[.int .i16 0]
theorem QU9 (w:World) (F:Nat→Prop):Fits tab w F 286 QRr QVd:=.int rfl (by unfold IntKind.has;decide)
def QVc:List Value:=[.int .u16 0]
theorem QU8 (w:World) (F:Nat→Prop):Fits tab w F 287 QRq QVc:=.int rfl (by unfold IntKind.has;decide)
def QVb:List Value:=[.int .u64 0]
theorem QU7 (w:World) (F:Nat→Prop):Fits tab w F 289 QRp QVb:=.int rfl (by unfold IntKind.has;decide)
def c295:List Value:=(List.replicate 64 c5).flatten
theorem QU5 (w:World) (F:Nat→Prop):Fits tab w F 295 QRo c295:=.arr (n:=64) (e:=5) rfl (FitsL.repl (f5 w F) 64)
theorem WU {t:TypeId} {d:TyD} (z:Value) {zv:V} {c:List Value} (f:∀ w F,Fits tab w F t zv c) (e1:tab.zero t=zv:=by rfl) (e2:z.cells.toList=c:=by rfl)
 (h1:(Go.Proofs.Tryz.prog.info? t).map (fun i=>(i.size,i.bytes,i.zero))=some (tab.sz t,tab.by_ t,some z):=by kernel_rfl) (h2:z.cells.size=tab.sz t:=by kernel_rfl) (h3:(z.cells.toList.all fun c=>c.oneCell')=true:=by kernel_rfl)
 (h4:if d.isAgg then z=.agg z.cells else z.oneCell'=true:=by first|rfl|(simp [TyD.isAgg,Value.cells];done)|(simp [TyD.isAgg,Value.oneCell'];done)) (a:d=.fn→z=.nilFunc:=by first|exact fun _=>rfl|exact fun h=>by cases h)
 (b:∀ e,d=.slice e→z=.slice none 0 0:=by first|exact fun _ _=>rfl|exact fun _ h=>by cases h) (h5:QGg tab z.cells.toList d=true:=by kernel_rfl) :
 ∃ z,(Go.Proofs.Tryz.prog.info? t).map (fun i=>(i.size,i.bytes,i.zero))=some (tab.sz t,tab.by_ t,some z)∧z.cells.size=tab.sz t∧(z.cells.toList.all fun c=>c.oneCell')=true ∧
   (if d.isAgg then z=.agg z.cells else z.oneCell'=true)∧(d≠.fn→(∀ e,d≠.ptr e)→∀ w F,Fits tab w F t (tab.zero t) z.cells.toList)∧(d=.fn→z=.nilFunc)∧(∀ e,d=.slice e→z=.slice none 0 0)∧QGg tab z.cells.toList d=true :=
 ⟨z,h1,h2,h3,h4,by subst e1 e2;exact fun _ _=>f,a,b,h5⟩
theorem QUx:RowOk Go.Proofs.Tryz.prog tab 2 (.int .i64):=⟨⟨by kernel_rfl,rfl⟩,WU (.int .i64 0) f2⟩
theorem QUw:RowOk Go.Proofs.Tryz.prog tab 3 (.int .i64):=⟨⟨by kernel_rfl,rfl⟩,WU (.int .i64 0) f3⟩
theorem QUv:RowOk Go.Proofs.Tryz.prog tab 4 (.bool):=⟨⟨by kernel_rfl,rfl⟩,WU (.bool false) f4⟩
theorem QUu:RowOk Go.Proofs.Tryz.prog tab 5 (.int .u8):=⟨⟨by kernel_rfl,rfl⟩,WU (.int .u8 0) f5⟩
theorem QUt:RowOk Go.Proofs.Tryz.prog tab 9 (.str):=⟨⟨by kernel_rfl,rfl⟩,WU (.string ByteArray.empty) f9⟩
theorem QTO:RowOk Go.Proofs.Tryz.prog tab 21 (.int .i32):=⟨⟨by kernel_rfl,rfl⟩,WU (.int .i32 0) f21⟩
theorem QTN:RowOk Go.Proofs.Tryz.prog tab 22 (.slice 167):=⟨⟨⟨by kernel_rfl,by rw [QKD];simp⟩,rfl,by decide⟩,WU (.slice none 0 0) f22⟩
theorem QTM:RowOk Go.Proofs.Tryz.prog tab 23 (.slice 3):=⟨⟨⟨by kernel_rfl,by rw [U9];simp⟩,rfl,by decide⟩,WU (.slice none 0 0) f23⟩
theorem QTL:RowOk Go.Proofs.Tryz.prog tab 24 (.slice 108):=⟨⟨⟨by kernel_rfl,by rw [QKE];simp⟩,rfl,by decide⟩,WU (.slice none 0 0) f24⟩
theorem QTK:RowOk Go.Proofs.Tryz.prog tab 26 (.struct [22,3,23,24]):=⟨⟨⟨_,Go.Proofs.Tryz.underlying26,by kernel_rfl,by kernel_rfl,by kernel_rfl⟩,rfl,by kernel_rfl⟩,WU (.agg c26.toArray) f26⟩
theorem QTJ:RowOk Go.Proofs.Tryz.prog tab 28 (.struct [3,3,3]):=⟨⟨⟨_,Go.Proofs.Tryz.underlying28,by kernel_rfl,by kernel_rfl,by kernel_rfl⟩,rfl,by kernel_rfl⟩,WU (.agg c28.toArray) f28⟩
theorem QTI:RowOk Go.Proofs.Tryz.prog tab 29 (.slice 56):=⟨⟨⟨by kernel_rfl,by rw [QPj];simp⟩,rfl,by decide⟩,WU (.slice none 0 0) f29⟩
theorem QTH:RowOk Go.Proofs.Tryz.prog tab 30 (.int .i64):=⟨⟨by kernel_rfl,rfl⟩,WU (.int .i64 0) f30⟩
theorem QTG:RowOk Go.Proofs.Tryz.prog tab 36 (.slice 63):=⟨⟨⟨by kernel_rfl,by rw [QPh];simp⟩,rfl,by decide⟩,WU (.slice none 0 0) f36⟩
theorem QTF:RowOk Go.Proofs.Tryz.prog tab 37 (.arr 8 2):=⟨⟨⟨by kernel_rfl,by decide,by decide,by rw [ty2];simp⟩,rfl,by kernel_rfl⟩,WU (.agg c37.toArray) f37⟩
theorem QTE:RowOk Go.Proofs.Tryz.prog tab 38 (.arr 4 3):=⟨⟨⟨by kernel_rfl,by decide,by decide,by rw [U9];simp⟩,rfl,by kernel_rfl⟩,WU (.agg c38.toArray) f38⟩
theorem QTD:RowOk Go.Proofs.Tryz.prog tab 39 (.arr 4 2):=⟨⟨⟨by kernel_rfl,by decide,by decide,by rw [ty2];simp⟩,rfl,by kernel_rfl⟩,WU (.agg c39.toArray) f39⟩
theorem QTC:RowOk Go.Proofs.Tryz.prog tab 41 (.struct [39,3,4,3,3,2]):=⟨⟨⟨_,Go.Proofs.Tryz.underlying41,by kernel_rfl,by kernel_rfl,by kernel_rfl⟩,rfl,by kernel_rfl⟩,WU (.agg c41.toArray) f41⟩
theorem QTB:RowOk Go.Proofs.Tryz.prog tab 42 (.arr 4 41):=⟨⟨⟨by kernel_rfl,by decide,by decide,by rw [QPn];simp⟩,rfl,by kernel_rfl⟩,WU (.agg c42.toArray) f42⟩
theorem QTA:RowOk Go.Proofs.Tryz.prog tab 44 (.struct [3,3,3,3,37]):=⟨⟨⟨_,Go.Proofs.Tryz.underlying44,by kernel_rfl,by kernel_rfl,by kernel_rfl⟩,rfl,by kernel_rfl⟩,WU (.agg c44.toArray) f44⟩
theorem QS9:RowOk Go.Proofs.Tryz.prog tab 45 (.arr 6 44):=⟨⟨⟨by kernel_rfl,by decide,by decide,by rw [QPm];simp⟩,rfl,by kernel_rfl⟩,WU (.agg c45.toArray) f45⟩
theorem QS8:RowOk Go.Proofs.Tryz.prog tab 47 (.struct [37,38,42,45,3]):=⟨⟨⟨_,Go.Proofs.Tryz.underlying47,by kernel_rfl,by kernel_rfl,by kernel_rfl⟩,rfl,by kernel_rfl⟩,WU (.agg c47.toArray) f47⟩
theorem QS7:RowOk Go.Proofs.Tryz.prog tab 49 (.struct [36,47,4]):=⟨⟨⟨_,Go.Proofs.Tryz.underlying49,by kernel_rfl,by kernel_rfl,by kernel_rfl⟩,rfl,by kernel_rfl⟩,WU (.agg c49.toArray) f49⟩
theorem QS6:RowOk Go.Proofs.Tryz.prog tab 52 (.slice 47):=⟨⟨⟨by kernel_rfl,by rw [QPl];simp⟩,rfl,by decide⟩,WU (.slice none 0 0) f52⟩
theorem QS5:RowOk Go.Proofs.Tryz.prog tab 56 (.struct [3,3]):=⟨⟨⟨_,Go.Proofs.Tryz.underlying56,by kernel_rfl,by kernel_rfl,by kernel_rfl⟩,rfl,by kernel_rfl⟩,WU (.agg c56.toArray) f56⟩
theorem QS4:RowOk Go.Proofs.Tryz.prog tab 58 (.int .i64):=⟨⟨by kernel_rfl,rfl⟩,WU (.int .i64 0) f58⟩
theorem QS3:RowOk Go.Proofs.Tryz.prog tab 60 (.struct [3,3,4]):=⟨⟨⟨_,Go.Proofs.Tryz.underlying60,by kernel_rfl,by kernel_rfl,by kernel_rfl⟩,rfl,by kernel_rfl⟩,WU (.agg c60.toArray) f60⟩
theorem QS2:RowOk Go.Proofs.Tryz.prog tab 61 (.arr 6 60):=⟨⟨⟨by kernel_rfl,by decide,by decide,by rw [QPi];simp⟩,rfl,by kernel_rfl⟩,WU (.agg c61.toArray) f61⟩
theorem QS1:RowOk Go.Proofs.Tryz.prog tab 63 (.struct [3,3,3,58,3,2,2,61,3]):=⟨⟨⟨_,Go.Proofs.Tryz.underlying63,by kernel_rfl,by kernel_rfl,by kernel_rfl⟩,rfl,by kernel_rfl⟩,WU (.agg c63.toArray) f63⟩
theorem QS0:RowOk Go.Proofs.Tryz.prog tab 75 (.struct [26,29,3,28]):=⟨⟨⟨_,Go.Proofs.Tryz.underlying75,by kernel_rfl,by kernel_rfl,by kernel_rfl⟩,rfl,by kernel_rfl⟩,WU (.agg c75.toArray) f75⟩
theorem QSz:RowOk Go.Proofs.Tryz.prog tab 89 (.slice 93):=⟨⟨⟨by kernel_rfl,by rw [QSC];simp⟩,rfl,by decide⟩,WU (.slice none 0 0) f89⟩
theorem QSy:RowOk Go.Proofs.Tryz.prog tab 93 (.struct [3,3]):=⟨⟨⟨_,Go.Proofs.Tryz.underlying93,by kernel_rfl,by kernel_rfl,by kernel_rfl⟩,rfl,by kernel_rfl⟩,WU (.agg c93.toArray) f93⟩
theorem QSx:RowOk Go.Proofs.Tryz.prog tab 94 (.slice 60):=⟨⟨⟨by kernel_rfl,by rw [QPi];simp⟩,rfl,by decide⟩,WU (.slice none 0 0) f94⟩
theorem QQo:RowOk Go.Proofs.Tryz.prog tab 100 (.fn):=⟨⟨⟨_,_,_,Go.Proofs.Tryz.underlying100⟩,rfl⟩,.nilFunc,by kernel_rfl,by kernel_rfl,by kernel_rfl,by first|rfl|(simp [TyD.isAgg,Value.cells];done)|(simp [TyD.isAgg,Value.oneCell'];done),(fun h=>absurd rfl h),fun _=>rfl,(fun _ h=>by cases h),by kernel_rfl⟩
theorem QQn:RowOk Go.Proofs.Tryz.prog tab 104 (.struct [58,3,3,3,2]):=⟨⟨⟨_,Go.Proofs.Tryz.underlying104,by kernel_rfl,by kernel_rfl,by kernel_rfl⟩,rfl,by kernel_rfl⟩,WU (.agg c104.toArray) QVQ⟩
theorem QQm:RowOk Go.Proofs.Tryz.prog tab 105 (.slice 104):=⟨⟨⟨by kernel_rfl,by rw [QKF];simp⟩,rfl,by decide⟩,WU (.slice none 0 0) QTs⟩
theorem QQl:RowOk Go.Proofs.Tryz.prog tab 106 (.slice 173):=⟨⟨⟨by kernel_rfl,by rw [QKC];simp⟩,rfl,by decide⟩,WU (.slice none 0 0) QTr⟩
theorem QQk:RowOk Go.Proofs.Tryz.prog tab 108 (.struct [3,3,105,106]):=⟨⟨⟨_,Go.Proofs.Tryz.underlying108,by kernel_rfl,by kernel_rfl,by kernel_rfl⟩,rfl,by kernel_rfl⟩,WU (.agg c108.toArray) QTq⟩
theorem QQj:RowOk Go.Proofs.Tryz.prog tab 111 (.fn):=⟨⟨⟨_,_,_,Go.Proofs.Tryz.underlying111⟩,rfl⟩,.nilFunc,by kernel_rfl,by kernel_rfl,by kernel_rfl,by first|rfl|(simp [TyD.isAgg,Value.cells];done)|(simp [TyD.isAgg,Value.oneCell'];done),(fun h=>absurd rfl h),fun _=>rfl,(fun _ h=>by cases h),by kernel_rfl⟩
theorem QQi:RowOk Go.Proofs.Tryz.prog tab 123 (.fn):=⟨⟨⟨_,_,_,Go.Proofs.Tryz.underlying123⟩,rfl⟩,.nilFunc,by kernel_rfl,by kernel_rfl,by kernel_rfl,by first|rfl|(simp [TyD.isAgg,Value.cells];done)|(simp [TyD.isAgg,Value.oneCell'];done),(fun h=>absurd rfl h),fun _=>rfl,(fun _ h=>by cases h),by kernel_rfl⟩
theorem QQh:RowOk Go.Proofs.Tryz.prog tab 137 (.ptr 63):=⟨⟨⟨by kernel_rfl,by rw [QPh];simp⟩,rfl⟩,(.pointer none),by kernel_rfl,by kernel_rfl,by kernel_rfl,by first|rfl|(simp [TyD.isAgg,Value.cells];done)|(simp [TyD.isAgg,Value.oneCell'];done),(fun _ h=>absurd rfl (h _)),(fun h=>by cases h),(fun _ h=>by cases h),by kernel_rfl⟩
theorem QQg:RowOk Go.Proofs.Tryz.prog tab 140 (.arr 8 4):=⟨⟨⟨by kernel_rfl,by decide,by decide,by rw [ty4];simp⟩,rfl,by kernel_rfl⟩,WU (.agg c140.toArray) QVP⟩
theorem QQf:RowOk Go.Proofs.Tryz.prog tab 143 (.arr 64 4):=⟨⟨⟨by kernel_rfl,by decide,by decide,by rw [ty4];simp⟩,rfl,by kernel_rfl⟩,WU (.agg c143.toArray) QVO⟩
theorem QQe:RowOk Go.Proofs.Tryz.prog tab 146 (.fn):=⟨⟨⟨_,_,_,Go.Proofs.Tryz.underlying146⟩,rfl⟩,.nilFunc,by kernel_rfl,by kernel_rfl,by kernel_rfl,by first|rfl|(simp [TyD.isAgg,Value.cells];done)|(simp [TyD.isAgg,Value.oneCell'];done),(fun h=>absurd rfl h),fun _=>rfl,(fun _ h=>by cases h),by kernel_rfl⟩
theorem QQd:RowOk Go.Proofs.Tryz.prog tab 149 (.arr 8 3):=⟨⟨⟨by kernel_rfl,by decide,by decide,by rw [U9];simp⟩,rfl,by kernel_rfl⟩,WU (.agg c149.toArray) QTp⟩
theorem QQc:RowOk Go.Proofs.Tryz.prog tab 151 (.arr 7 149):=⟨⟨⟨by kernel_rfl,by decide,by decide,by rw [QNx];simp⟩,rfl,by kernel_rfl⟩,WU (.agg c151.toArray) QVN⟩
theorem QQb:RowOk Go.Proofs.Tryz.prog tab 153 (.fn):=⟨⟨⟨_,_,_,Go.Proofs.Tryz.underlying153⟩,rfl⟩,.nilFunc,by kernel_rfl,by kernel_rfl,by kernel_rfl,by first|rfl|(simp [TyD.isAgg,Value.cells];done)|(simp [TyD.isAgg,Value.oneCell'];done),(fun h=>absurd rfl h),fun _=>rfl,(fun _ h=>by cases h),by kernel_rfl⟩
theorem QQa:RowOk Go.Proofs.Tryz.prog tab 158 (.fn):=⟨⟨⟨_,_,_,Go.Proofs.Tryz.underlying158⟩,rfl⟩,.nilFunc,by kernel_rfl,by kernel_rfl,by kernel_rfl,by first|rfl|(simp [TyD.isAgg,Value.cells];done)|(simp [TyD.isAgg,Value.oneCell'];done),(fun h=>absurd rfl h),fun _=>rfl,(fun _ h=>by cases h),by kernel_rfl⟩
theorem QQZ:RowOk Go.Proofs.Tryz.prog tab 167 (.struct [4,2]):=⟨⟨⟨_,Go.Proofs.Tryz.underlying167,by kernel_rfl,by kernel_rfl,by kernel_rfl⟩,rfl,by kernel_rfl⟩,WU (.agg c167.toArray) QVM⟩
theorem QQY:RowOk Go.Proofs.Tryz.prog tab 171 (.slice 176):=⟨⟨⟨by kernel_rfl,by rw [QKB];simp⟩,rfl,by decide⟩,WU (.slice none 0 0) QTo⟩
theorem QQX:RowOk Go.Proofs.Tryz.prog tab 173 (.struct [171,3]):=⟨⟨⟨_,Go.Proofs.Tryz.underlying173,by kernel_rfl,by kernel_rfl,by kernel_rfl⟩,rfl,by kernel_rfl⟩,WU (.agg c173.toArray) QVL⟩
theorem QQW:RowOk Go.Proofs.Tryz.prog tab 174 (.fn):=⟨⟨⟨_,_,_,Go.Proofs.Tryz.underlying174⟩,rfl⟩,.nilFunc,by kernel_rfl,by kernel_rfl,by kernel_rfl,by first|rfl|(simp [TyD.isAgg,Value.cells];done)|(simp [TyD.isAgg,Value.oneCell'];done),(fun h=>absurd rfl h),fun _=>rfl,(fun _ h=>by cases h),by kernel_rfl⟩
theorem QQV:RowOk Go.Proofs.Tryz.prog tab 176 (.struct [4,3,3,3]):=⟨⟨⟨_,Go.Proofs.Tryz.underlying176,by kernel_rfl,by kernel_rfl,by kernel_rfl⟩,rfl,by kernel_rfl⟩,WU (.agg c176.toArray) QVK⟩
theorem QQU:RowOk Go.Proofs.Tryz.prog tab 184 (.fn):=⟨⟨⟨_,_,_,Go.Proofs.Tryz.underlying184⟩,rfl⟩,.nilFunc,by kernel_rfl,by kernel_rfl,by kernel_rfl,by first|rfl|(simp [TyD.isAgg,Value.cells];done)|(simp [TyD.isAgg,Value.oneCell'];done),(fun h=>absurd rfl h),fun _=>rfl,(fun _ h=>by cases h),by kernel_rfl⟩
theorem QQT:RowOk Go.Proofs.Tryz.prog tab 186 (.fn):=⟨⟨⟨_,_,_,Go.Proofs.Tryz.underlying186⟩,rfl⟩,.nilFunc,by kernel_rfl,by kernel_rfl,by kernel_rfl,by first|rfl|(simp [TyD.isAgg,Value.cells];done)|(simp [TyD.isAgg,Value.oneCell'];done),(fun h=>absurd rfl h),fun _=>rfl,(fun _ h=>by cases h),by kernel_rfl⟩
theorem QQS:RowOk Go.Proofs.Tryz.prog tab 187 (.fn):=⟨⟨⟨_,_,_,Go.Proofs.Tryz.underlying187⟩,rfl⟩,.nilFunc,by kernel_rfl,by kernel_rfl,by kernel_rfl,by first|rfl|(simp [TyD.isAgg,Value.cells];done)|(simp [TyD.isAgg,Value.oneCell'];done),(fun h=>absurd rfl h),fun _=>rfl,(fun _ h=>by cases h),by kernel_rfl⟩
theorem QQR:RowOk Go.Proofs.Tryz.prog tab 190 (.ptr 151):=⟨⟨⟨by kernel_rfl,by rw [QNw];simp⟩,rfl⟩,(.pointer none),by kernel_rfl,by kernel_rfl,by kernel_rfl,by first|rfl|(simp [TyD.isAgg,Value.cells];done)|(simp [TyD.isAgg,Value.oneCell'];done),(fun _ h=>absurd rfl (h _)),(fun h=>by cases h),(fun _ h=>by cases h),by kernel_rfl⟩
theorem QQQ:RowOk Go.Proofs.Tryz.prog tab 194 (.ptr 196):=⟨⟨⟨by kernel_rfl,by rw [QNu];simp⟩,rfl⟩,(.pointer none),by kernel_rfl,by kernel_rfl,by kernel_rfl,by first|rfl|(simp [TyD.isAgg,Value.cells];done)|(simp [TyD.isAgg,Value.oneCell'];done),(fun _ h=>absurd rfl (h _)),(fun h=>by cases h),(fun _ h=>by cases h),by kernel_rfl⟩
theorem QQP:RowOk Go.Proofs.Tryz.prog tab 196 (.struct [26,108]):=⟨⟨⟨_,Go.Proofs.Tryz.underlying196,by kernel_rfl,by kernel_rfl,by kernel_rfl⟩,rfl,by kernel_rfl⟩,WU (.agg c196.toArray) QVJ⟩
theorem QQO:RowOk Go.Proofs.Tryz.prog tab 201 (.ptr 203):=⟨⟨⟨by kernel_rfl,by rw [QHU];simp⟩,rfl⟩,(.pointer none),by kernel_rfl,by kernel_rfl,by kernel_rfl,by first|rfl|(simp [TyD.isAgg,Value.cells];done)|(simp [TyD.isAgg,Value.oneCell'];done),(fun _ h=>absurd rfl (h _)),(fun h=>by cases h),(fun _ h=>by cases h),by kernel_rfl⟩
theorem QQN:RowOk Go.Proofs.Tryz.prog tab 203 (.struct [26,47,3,3,2,4]):=⟨⟨⟨_,Go.Proofs.Tryz.underlying203,by kernel_rfl,by kernel_rfl,by kernel_rfl⟩,rfl,by kernel_rfl⟩,WU (.agg c203.toArray) QVI⟩
theorem QQM:RowOk Go.Proofs.Tryz.prog tab 206 (.ptr 44):=⟨⟨⟨by kernel_rfl,by rw [QPm];simp⟩,rfl⟩,(.pointer none),by kernel_rfl,by kernel_rfl,by kernel_rfl,by first|rfl|(simp [TyD.isAgg,Value.cells];done)|(simp [TyD.isAgg,Value.oneCell'];done),(fun _ h=>absurd rfl (h _)),(fun h=>by cases h),(fun _ h=>by cases h),by kernel_rfl⟩
theorem QQL:RowOk Go.Proofs.Tryz.prog tab 215 (.arr 6 3):=⟨⟨⟨by kernel_rfl,by decide,by decide,by rw [U9];simp⟩,rfl,by kernel_rfl⟩,WU (.agg c215.toArray) QVH⟩
theorem QQK:RowOk Go.Proofs.Tryz.prog tab 223 (.struct [47,2,3,3]):=⟨⟨⟨_,Go.Proofs.Tryz.underlying223,by kernel_rfl,by kernel_rfl,by kernel_rfl⟩,rfl,by kernel_rfl⟩,WU (.agg c223.toArray) QVG⟩
theorem QQJ:RowOk Go.Proofs.Tryz.prog tab 229 (.fn):=⟨⟨⟨_,_,_,Go.Proofs.Tryz.underlying229⟩,rfl⟩,.nilFunc,by kernel_rfl,by kernel_rfl,by kernel_rfl,by first|rfl|(simp [TyD.isAgg,Value.cells];done)|(simp [TyD.isAgg,Value.oneCell'];done),(fun h=>absurd rfl h),fun _=>rfl,(fun _ h=>by cases h),by kernel_rfl⟩
theorem QQI:RowOk Go.Proofs.Tryz.prog tab 235 (.fn):=⟨⟨⟨_,_,_,Go.Proofs.Tryz.underlying235⟩,rfl⟩,.nilFunc,by kernel_rfl,by kernel_rfl,by kernel_rfl,by first|rfl|(simp [TyD.isAgg,Value.cells];done)|(simp [TyD.isAgg,Value.oneCell'];done),(fun h=>absurd rfl h),fun _=>rfl,(fun _ h=>by cases h),by kernel_rfl⟩
theorem QQH:RowOk Go.Proofs.Tryz.prog tab 247 (.slice 2):=⟨⟨⟨by kernel_rfl,by rw [ty2];simp⟩,rfl,by decide⟩,WU (.slice none 0 0) QVF⟩
theorem QQG:RowOk Go.Proofs.Tryz.prog tab 258 (.int .u64):=⟨⟨by kernel_rfl,rfl⟩,WU (.int .u64 0) QVE⟩
theorem QQF:RowOk Go.Proofs.Tryz.prog tab 259 (.ptr 41):=⟨⟨⟨by kernel_rfl,by rw [QPn];simp⟩,rfl⟩,(.pointer none),by kernel_rfl,by kernel_rfl,by kernel_rfl,by first|rfl|(simp [TyD.isAgg,Value.cells];done)|(simp [TyD.isAgg,Value.oneCell'];done),(fun _ h=>absurd rfl (h _)),(fun h=>by cases h),(fun _ h=>by cases h),by kernel_rfl⟩
theorem QQE:RowOk Go.Proofs.Tryz.prog tab 266 (.int .u64):=⟨⟨by kernel_rfl,rfl⟩,WU (.int .u64 0) QVD⟩
theorem QQD:RowOk Go.Proofs.Tryz.prog tab 275 (.int .i64):=⟨⟨by kernel_rfl,rfl⟩,WU (.int .i64 0) QVC⟩
theorem QQC:RowOk Go.Proofs.Tryz.prog tab 283 (.int .u32):=⟨⟨by kernel_rfl,rfl⟩,WU (.int .u32 0) QVB⟩
theorem QQB:RowOk Go.Proofs.Tryz.prog tab 285 (.int .i8):=⟨⟨by kernel_rfl,rfl⟩,WU (.int .i8 0) QVA⟩
theorem QQA:RowOk Go.Proofs.Tryz.prog tab 286 (.int .i16):=⟨⟨by kernel_rfl,rfl⟩,WU (.int .i16 0) QU9⟩
theorem QP0:RowOk Go.Proofs.Tryz.prog tab 287 (.int .u16):=⟨⟨by kernel_rfl,rfl⟩,WU (.int .u16 0) QU8⟩
theorem QPz:RowOk Go.Proofs.Tryz.prog tab 289 (.int .u64):=⟨⟨by kernel_rfl,rfl⟩,WU (.int .u64 0) QU7⟩
theorem QPy:RowOk Go.Proofs.Tryz.prog tab 293 (.ptr 3):=⟨⟨⟨by kernel_rfl,by rw [U9];simp⟩,rfl⟩,(.pointer none),by kernel_rfl,by kernel_rfl,by kernel_rfl,by first|rfl|(simp [TyD.isAgg,Value.cells];done)|(simp [TyD.isAgg,Value.oneCell'];done),(fun _ h=>absurd rfl (h _)),(fun h=>by cases h),(fun _ h=>by cases h),by kernel_rfl⟩
theorem QPx:RowOk Go.Proofs.Tryz.prog tab 295 (.arr 64 5):=⟨⟨⟨by kernel_rfl,by decide,by decide,by rw [ty5];simp⟩,rfl,by kernel_rfl⟩,WU (.agg c295.toArray) QU5⟩
theorem QPw:RowOk Go.Proofs.Tryz.prog tab 298 (.ptr 289):=⟨⟨⟨by kernel_rfl,by rw [QNt];simp⟩,rfl⟩,(.pointer none),by kernel_rfl,by kernel_rfl,by kernel_rfl,by first|rfl|(simp [TyD.isAgg,Value.cells];done)|(simp [TyD.isAgg,Value.oneCell'];done),(fun _ h=>absurd rfl (h _)),(fun h=>by cases h),(fun _ h=>by cases h),by kernel_rfl⟩
set_option maxRecDepth 20000
theorem ok:TabOk Go.Proofs.Tryz.prog tab:=QSq rfl (by
 intro p hp
 simp only [tyL,List.mem_cons,List.not_mem_nil,or_false] at hp
 rcases hp with rfl|rfl|rfl|rfl|rfl|rfl|rfl|rfl|rfl|rfl|rfl|rfl|rfl|rfl|rfl|rfl|rfl|rfl|rfl|rfl|rfl|rfl|rfl|rfl|rfl|rfl|rfl|rfl|rfl|rfl|rfl|rfl|rfl|rfl|rfl|rfl|rfl|rfl|rfl|rfl|rfl|rfl|rfl|rfl|rfl|rfl|rfl|rfl|rfl|rfl|rfl|rfl|rfl|rfl|rfl|rfl|rfl|rfl|rfl|rfl|rfl|rfl|rfl|rfl|rfl|rfl|rfl|rfl|rfl|rfl|rfl|rfl|rfl|rfl|rfl|rfl|rfl|rfl|rfl
 · exact QUx
 · exact QUw
 · exact QUv
 · exact QUu
 · exact QUt
 · exact QTO
 · exact QTN
 · exact QTM
 · exact QTL
 · exact QTK
 · exact QTJ
 · exact QTI
 · exact QTH
 · exact QTG
 · exact QTF
 · exact QTE
 · exact QTD
 · exact QTC
 · exact QTB
 · exact QTA
 · exact QS9
 · exact QS8
 · exact QS7
 · exact QS6
 · exact QS5
 · exact QS4
 · exact QS3
 · exact QS2
 · exact QS1
 · exact QS0
 · exact QSz
 · exact QSy
 · exact QSx
 · exact QQo
 · exact QQn
 · exact QQm
 · exact QQl
 · exact QQk
 · exact QQj
 · exact QQi
 · exact QQh
 · exact QQg
 · exact QQf
 · exact QQe
 · exact QQd
 · exact QQc
 · exact QQb
 · exact QQa
 · exact QQZ
 · exact QQY
 · exact QQX
 · exact QQW
 · exact QQV
 · exact QQU
 · exact QQT
 · exact QQS
 · exact QQR
 · exact QQQ
 · exact QQP
 · exact QQO
 · exact QQN
 · exact QQM
 · exact QQL
 · exact QQK
 · exact QQJ
 · exact QQI
 · exact QQH
 · exact QQG
 · exact QQF
 · exact QQE
 · exact QQD
 · exact QQC
 · exact QQB
 · exact QQA
 · exact QP0
 · exact QPz
 · exact QPy
 · exact QPx
 · exact QPw)
theorem QQ:Go.Proofs.Tryz.prog.follows .mixedOrders=true:=by kernel_rfl
end Go.Eng.Tryz
namespace Go.Eng
open Go.RowKit
variable {P:Program} {T:Tab} {w w':World} {w0:Base T} {F F':Nat→Prop} {ρ ρ':Nat→RI} {σ σ':St} {a:Act} {outs:List (Array Value)}
mutual
def E.under (k:Nat):E→Bool
 | .sl i _ _ _ _=>Nat.blt i k
 | .ptr i _ _=>Nat.blt i k
 | .rp i _ _ _=>Nat.blt i k
 | .av i _ _ _=>Nat.blt i k
 | .fn _ caps=>E.underL k caps
 | .tup l=>E.underL k l
 | .agg _ l=>E.underL k l
 | _=>true
def E.underL (k:Nat):List E→Bool
 | []=>true
 | e::es=>e.under k&&E.underL k es
end
def Tm.under (k:Nat):Tm→Bool
 | []=>true
 | x::tm=>x.2.2.under k&&Tm.under k tm
def QT (k:Nat):List Tm→Bool
 | []=>true
 | x::l=>Tm.under k x&&QT k l
def QV (k:Nat):List Obj→Bool
 | []=>true
 | .var _ e::l=>e.under k&&QV k l
 | .erow _ es::l=>E.underL k es&&QV k l
 | _::l=>QV k l
def St.under (k:Nat) (σ:St):Bool:=Tm.under k σ.tm&&QT k σ.out&&QV k (σ.ob.take k)
def U3 (k:Nat) (ρ:Nat→RI):Nat→RI:=fun i=>if i<k then ρ i else .none
mutual
theorem ERel.cut {k:Nat}:∀ {e:E} {v:Value},e.under k=true→ERel T w F ρ e v→ERel T w F (U3 k ρ) e v
 | .int _ _,_,_,h=>h
 | .bool _,_,_,h=>h
 | .str _,_,_,h=>h
 | .data _ _,_,_,h=>h
 | .fs _ _ _,_,_,h=>h
 | .sl i e lo n c,v,hu,h=>by
   have hi:i<k:=by simpa [E.under] using hu
   unfold ERel at h ⊢
   rw [U3,if_pos hi];exact h
 | .nilsl,_,_,h=>h
 | .ptr i p t,v,hu,h=>by
   have hi:i<k:=by simpa [E.under] using hu
   unfold ERel at h ⊢
   rw [U3,if_pos hi];exact h
 | .rp i j p t,v,hu,h=>by
   have hi:i<k:=by simpa [E.under] using hu
   unfold ERel at h ⊢
   rw [U3,if_pos hi];exact h
 | .av i p t j,v,hu,h=>by
   have hi:i<k:=by simpa [E.under] using hu
   unfold ERel at h ⊢
   rw [U3,if_pos hi];exact h
 | .fptr _ _,_,_,h=>h
 | .fn _ _,_,hu,⟨cs,h1,h2⟩=>⟨cs,h1,ERelL.cut (by simpa [E.under] using hu) h2⟩
 | .nilfn,_,_,h=>h
 | .tup _,_,hu,⟨vs,h1,h2⟩=>⟨vs,h1,ERelL.cut (by simpa [E.under] using hu) h2⟩
 | .agg _ _,_,hu,⟨ts,vs,cs,h0,h1,h2,h3⟩=>⟨ts,vs,cs,h0,h1,ERelL.cut (by simpa [E.under] using hu) h2,h3⟩
 | .undef,_,_,_=>trivial
theorem ERelL.cut {k:Nat}:∀ {l:List E} {vs:List Value},E.underL k l=true→ERelL T w F ρ l vs→ERelL T w F (U3 k ρ) l vs
 | [],[],_,h=>h
 | e::es,_::_,hu,⟨h1,h2⟩=>by
   simp only [E.underL,Bool.and_eq_true] at hu
   exact ⟨ERel.cut hu.1 h1,ERelL.cut hu.2 h2⟩
 | [],_::_,_,h=>h.elim
 | _::_,[],_,h=>h.elim
end
theorem xX {k:Nat}:∀ {tm:Tm} {t:Nat} {g:Bool} {e:E},Tm.under k tm=true→tm.lookup t=some (g,e)→e.under k=true
 | [],_,_,_,_,h=>by simp at h
 | (s,g',e')::tm,t,g,e,hu,h=>by
   simp only [Tm.under,Bool.and_eq_true] at hu
   simp only [List.lookup_cons] at h
   by_cases hts:t=s
   · subst hts;simp at h;rw [← h.2];exact hu.1
   · have:(t == s)=false:=by simpa using hts
     rw [this] at h
     exact xX hu.2 h
theorem TmRel.cut {k:Nat} {tm:Tm} {tmps:Array Value} (hu:Tm.under k tm=true) (h:TmRel T w F ρ tm tmps):TmRel T w F (U3 k ρ) tm tmps:=by
 intro t g e he
 obtain ⟨v,h1,h2,h3⟩:=h t g e he
 exact ⟨v,h1,fun hg=>(h2 hg).cut (xX hu he),h3⟩
theorem OutRel.cut {k:Nat}:∀ {l:List Tm} {vs:List (Array Value)},QT k l=true→OutRel T w F ρ l vs→OutRel T w F (U3 k ρ) l vs
 | [],[],_,h=>h
 | _::_,_::_,hu,⟨h1,h2⟩=>by
   simp only [QT,Bool.and_eq_true] at hu
   exact ⟨h1.cut hu.1,OutRel.cut hu.2 h2⟩
 | [],_::_,_,h=>h.elim
 | _::_,[],_,h=>h.elim
theorem vK {k:Nat}:∀ {l:List Obj} {i:Nat} {t:TypeId} {e:E},QV k l=true→l[i]?=some (.var t e)→e.under k=true
 | [],_,_,_,_,h=>by simp at h
 | o::l,0,t,e,hu,h=>by
   simp at h;subst h
   simp only [QV,Bool.and_eq_true] at hu
   exact hu.1
 | o::l,i+1,t,e,hu,h=>by
   have hu':QV k l=true:=by
    cases o<;>simp only [QV,Bool.and_eq_true] at hu
    · exact hu.2
    · exact hu
    · exact hu.2
    · exact hu
   exact vK hu' (by simpa using h)
theorem xr {k:Nat}:∀ {l:List Obj} {i:Nat} {t:TypeId} {e:List E},QV k l=true→l[i]?=some (.erow t e)→E.underL k e=true
 | [],_,_,_,_,h=>by simp at h
 | o::l,0,t,e,hu,h=>by
   simp at h;subst h
   simp only [QV,Bool.and_eq_true] at hu
   exact hu.1
 | o::l,i+1,t,e,hu,h=>by
   have hu':QV k l=true:=by
    cases o<;>simp only [QV,Bool.and_eq_true] at hu
    · exact hu.2
    · exact hu
    · exact hu.2
    · exact hu
   exact xr hu' (by simpa using h)
theorem WS (k:Nat) (hu:σ.under k=true):St.le T σ { σ with ob:=σ.ob.take k }:=by
 intro w F ρ w0 tmps outs h
 simp only [St.under,Bool.and_eq_true] at hu
 obtain ⟨⟨u1,u2⟩,u3⟩:=hu
 refine ⟨F,U3 k ρ,h.tm.cut u1,h.out.cut u2,?_,?_,?_,h.fsub,h.below,h.size,h.fold⟩
 · intro i o hi
   have hik:i<k:=by
    have:=(List.getElem?_eq_some_iff.1 hi).1
    simp at this;omega
   have ho:σ.ob[i]?=some o:=by
    simp only [List.getElem?_take,if_pos hik] at hi
    exact hi
   have h1:=h.ob i o ho
   have hc:U3 k ρ i=ρ i:=by simp [U3,hik]
   rw [hc]
   cases o with
   | dead=>cases hρ:ρ i<;>rw [hρ] at h1<;>exact h1
   | row e l=>exact h1.row_mono (fun _ _=>rfl) (fun _ _=>rfl)
   | erow e l =>
     cases hρ:ρ i with
     | none=>rw [hρ] at h1;exact h1.elim
     | var _ _=>rw [hρ] at h1;exact h1.elim
     | row e' r =>
       rw [hρ] at h1
       obtain ⟨q1,q2,q0,xs,q3,q4,q5⟩:=h1
       exact ⟨q1,q2,q0,xs,q3,q4.cut (xr u3 hi),q5⟩
   | var t e =>
     cases hρ:ρ i with
     | none=>rw [hρ] at h1;exact h1.elim
     | row _ _=>rw [hρ] at h1;exact h1.elim
     | var b t' =>
       rw [hρ] at h1
       obtain ⟨q1,q2,q3,cs,ct,v,q4,q5,q6⟩:=h1
       exact ⟨q1,q2,q3,cs,ct,v,q4,q5.cut (vK u3 hi),q6⟩
 · intro i hi
   unfold U3
   split
   · rename_i hik
     exact h.free i (by simp only [List.getElem?_take,if_pos hik] at hi;exact hi)
   · rfl
 · intro i j b hi hj
   unfold U3 at hi hj
   split at hi<;>split at hj
   · exact h.inj i j b hi hj
   · simp [RI.block] at hj
   · simp [RI.block] at hi
   · simp [RI.block] at hi
theorem St.le.own {t:Nat} (e:TypeId) (hl:σ.tm.lookup t=some (true,.nilsl)):St.le T σ { σ with tm:=(t,true,.sl σ.ob.length e 0 0 false)::σ.tm,ob:=σ.ob++[.row e []] }:=by
 intro w F ρ w0 tmps outs h
 have hadd:=h.add (r:=.row e (.slice none 0 0)) (o:=.row e []) (fun b hb=>by simp [RI.block,Value.ownBlock] at hb) ⟨rfl,fun b hb=>by simp [Value.ownBlock] at hb,[],World.ownsRow_nil _ _ _ _,.nil⟩
 refine ⟨F,_,?_,hadd.out,hadd.ob,hadd.free,hadd.inj,hadd.fsub,hadd.below,hadd.size,hadd.fold⟩
 intro s g e' he
 simp only [List.lookup_cons] at he
 by_cases hst:s=t
 · subst hst
   simp at he
   obtain ⟨rfl,rfl⟩:=he
   obtain ⟨v,h1,h2,_⟩:=h.tm _ _ _ hl
   have hv:v=.slice none 0 0:=h2 rfl
   refine ⟨v,h1,fun _=>?_,by simp⟩
   unfold ERel
   rw [XD]
   exact .inl ⟨rfl,hv,rfl,rfl⟩
 · have:(s == t)=false:=by simpa using hst
   rw [this] at he
   exact hadd.tm s g e' he
theorem Qo (h:σ=σ'):St.le T σ σ':=h▸St.le.refl
theorem Qc {n:Int} (h1 : -9223372036854775808≤n) (h2:n≤9223372036854775807):IntKind.i64.wrap n=n:=by
 unfold IntKind.wrap
 simp [IntKind.signed,IntKind.bits]
 omega
theorem QD {n m:Nat} (h:n<m) (hm:m≤maxLen):IntKind.i64.wrap ((n:Int)+1)=((n+1:Nat):Int):=by
 unfold maxLen at hm
 rw [Qc (by omega) (by omega)]
 omega
variable {P:Program} {T:Tab} {w w':World} {w0:Base T} {F F':Nat→Prop} {ρ ρ':Nat→RI} {σ σ':St} {a:Act} {outs:List (Array Value)}
mutual
def E.frz (i:Nat) (v:V) (l:List V):E→E
 | .sl j e lo len c=>if Nat.beq j i then .fs e ((l.drop lo).take len) c else .sl j e lo len c
 | .ptr j p t=>if Nat.beq j i then .fptr t (v.get p) else .ptr j p t
 | .rp j k p t=>if Nat.beq j i then .undef else .rp j k p t
 | .av j p t k=>if Nat.beq j i then .undef else .av j p t k
 | .fn f caps=>.fn f (E.frzL i v l caps)
 | .tup m=>.tup (E.frzL i v l m)
 | .agg t m=>.agg t (E.frzL i v l m)
 | e=>e
def E.frzL (i:Nat) (v:V) (l:List V):List E→List E
 | []=>[]
 | e::es=>e.frz i v l::E.frzL i v l es
end
def Obj.frz (i:Nat) (v:V) (l:List V):Obj→Obj
 | .var t e=>.var t (e.frz i v l)
 | .erow t es=>.erow t (E.frzL i v l es)
 | o=>o
def Tm.frz (i:Nat) (v:V) (l:List V) (tm:Tm):Tm:=tm.map fun x=>(x.1,x.2.1,x.2.2.frz i v l)
def St.frz (i:Nat) (v:V) (l:List V) (σ:St):St:={ σ with tm:=Tm.frz i v l σ.tm,ob:=(σ.ob.map (Obj.frz i v l)).set i .dead,out:=σ.out.map (Tm.frz i v l) }
def QB1 (T:Tab) (w:World) (F:Nat→Prop) (v:V) (l:List V):RI→Prop
 | .none=>True
 | .var b t=>F b∧∃ cs,Seg w b 0 cs∧Fits T w F t v cs
 | .row e r=>∀ b n cap,r=.slice (some ⟨b,0,none⟩) n cap→F b∧n=l.length∧∃ cs,Seg w b 0 cs∧FitsL T w F (List.replicate l.length e) l cs
mutual
theorem ERel.frozen (hS:T.Sized) {i:Nat} {v:V} {l:List V} (hF:∀ b,F b→F' b) (hz:QB1 T w F' v l (ρ i)):∀ {e:E} {x:Value},ERel T w F ρ e x→ERel T w F' (zE ρ i .none) (e.frz i v l) x
 | .int _ _,_,h=>h
 | .bool _,_,h=>h
 | .str _,_,h=>h
 | .data _ _,_,⟨cs,h1,h2,h3⟩=>⟨cs,h1,h2,h3.mono hF (fun _ _=>rfl)⟩
 | .fs _ _ _,_,h=>FRow.mono hF (fun _ _=>rfl) h
 | .sl j e lo len c,x,h=>by
   unfold E.frz
   split
   · rename_i hj
     have hj:j=i:=Nat.eq_of_beq_eq_true hj
     subst hj
     rcases h with ⟨h1,rfl,rfl,rfl⟩|⟨b,n,cap,off,h1,h2,h3,rfl,h5,h6⟩
     · exact .inl ⟨none,0,rfl,by simp,fun _=>rfl,fun _=>rfl⟩
     · rw [h1] at hz
       obtain ⟨z1,z2,cs,z3,z4⟩:=hz b n cap rfl
       have hl:((l.drop lo).take len).length=len:=by simp;omega
       refine .inr ⟨b,off,(if c then len else cap-lo),(cs.drop (lo*T.sz e)).take (len*T.sz e),by rw [hl],by rw [hl];split<;>omega,fun hc=>by rw [hl,if_pos hc],z1,?_,?_⟩
       · rcases h6 with h6|h6
         · subst h6
           intro j y hy
           simp at hy
         · have:=z3.sub (lo*T.sz e) (len*T.sz e)
           rw [Nat.zero_add] at this
           rw [h6]
           exact this
       · rw [hl]
         exact z4.slice hS (by omega)
   · rename_i hj
     have hj:j≠i:=fun e=>hj (by simp [e])
     unfold ERel at h ⊢
     rw [XO ρ _ hj];exact h
 | .nilsl,_,h=>h
 | .ptr j p t,x,h=>by
   unfold E.frz
   split
   · rename_i hj
     have hj:j=i:=Nat.eq_of_beq_eq_true hj
     subst hj
     obtain ⟨b,root,off,h1,h2,rfl⟩:=h
     rw [h1] at hz
     obtain ⟨z1,cs,z2,z3⟩:=hz
     obtain ⟨g1,g2⟩:=h2.get hS z3
     refine ⟨b,off,_,rfl,z1,?_,g1⟩
     have:=z2.sub off (T.sz t)
     rwa [Nat.zero_add] at this
   · rename_i hj
     have hj:j≠i:=fun e=>hj (by simp [e])
     unfold ERel at h ⊢
     rw [XO ρ _ hj];exact h
 | .rp j k p t,x,h=>by
   unfold E.frz
   split
   · trivial
   · rename_i hj
     have hj:j≠i:=fun e=>hj (by simp [e])
     unfold ERel at h ⊢
     rw [XO ρ _ hj];exact h
 | .av j p t k,x,h=>by
   unfold E.frz
   split
   · trivial
   · rename_i hj
     have hj:j≠i:=fun e=>hj (by simp [e])
     unfold ERel at h ⊢
     rw [XO ρ _ hj];exact h
 | .fptr _ _,_,⟨b,off,cs,h1,h2,h3,h4⟩=>⟨b,off,cs,h1,hF _ h2,h3,h4.mono hF (fun _ _=>rfl)⟩
 | .fn _ _,_,⟨cs,h1,h2⟩=>⟨cs,h1,ERelL.frozen hS hF hz h2⟩
 | .nilfn,_,h=>h
 | .tup _,_,⟨vs,h1,h2⟩=>⟨vs,h1,ERelL.frozen hS hF hz h2⟩
 | .agg _ _,_,⟨ts,vs,cs,h0,h1,h2,h3⟩=>⟨ts,vs,cs,h0,h1,ERelL.frozen hS hF hz h2,h3⟩
 | .undef,_,_=>trivial
theorem ERelL.frozen (hS:T.Sized) {i:Nat} {v:V} {l:List V} (hF:∀ b,F b→F' b) (hz:QB1 T w F' v l (ρ i)):∀ {m:List E} {xs:List Value},ERelL T w F ρ m xs→ERelL T w F' (zE ρ i .none) (E.frzL i v l m) xs
 | [],[],h=>h
 | _::_,_::_,⟨h1,h2⟩=>⟨ERel.frozen hS hF hz h1,ERelL.frozen hS hF hz h2⟩
 | [],_::_,h=>h.elim
 | _::_,[],h=>h.elim
end
theorem QLf {i:Nat} {v:V} {l:List V} {e:E} {t:TypeId} {x:V} (h:e.frz i v l=.data t x):e=.data t x:=by
 cases e<;>simp [E.frz] at h ⊢<;>first|exact h|(split at h<;>cases h)
theorem TmRel.frozen (hS:T.Sized) {i:Nat} {v:V} {l:List V} (hF:∀ b,F b→F' b) (hz:QB1 T w F' v l (ρ i)) {tm:Tm} {tmps:Array Value} (h:TmRel T w F ρ tm tmps):TmRel T w F' (zE ρ i .none) (Tm.frz i v l tm) tmps:=by
 intro t g e he
 unfold Tm.frz at he
 rw [xC (E.frz i v l)] at he
 cases hl:tm.lookup t with
 | none=>rw [hl] at he;cases he
 | some x =>
   obtain ⟨g',e'⟩:=x
   rw [hl] at he
   simp at he
   obtain ⟨rfl,rfl⟩:=he
   obtain ⟨v,h1,h2,h3⟩:=h t _ _ hl
   exact ⟨v,h1,fun hg=>(h2 hg).frozen hS hF hz,h3⟩
theorem OutRel.frozen (hS:T.Sized) {i:Nat} {v:V} {l:List V} (hF:∀ b,F b→F' b) (hz:QB1 T w F' v l (ρ i)):∀ {m:List Tm} {vs:List (Array Value)},OutRel T w F ρ m vs→OutRel T w F' (zE ρ i .none) (m.map (Tm.frz i v l)) vs
 | [],[],h=>h
 | _::_,_::_,⟨h1,h2⟩=>⟨h1.frozen hS hF hz,OutRel.frozen hS hF hz h2⟩
 | [],_::_,h=>h.elim
 | _::_,[],h=>h.elim
theorem vP (i:Nat) (v:V) (l:List V):∀ m:List E,(E.frzL i v l m).length=m.length
 | []=>rfl
 | _::m=>by simp [E.frzL,vP i v l m]
theorem St.le.frz_aux (hS:T.Sized) {i:Nat} {v:V} {l:List V} (hi:i<σ.ob.length) (hz:∀ w F ρ w0 tmps outs,Rel T w F ρ w0 σ tmps outs→QB1 T w (fun b=>F b∨(ρ i).block=some b) v l (ρ i)):St.le T σ (σ.frz i v l):=by
 intro w F ρ w0 tmps outs h
 have hz:=hz w F ρ w0 tmps outs h
 have hF:∀ b,F b→F b∨(ρ i).block=some b:=fun _ h=>.inl h
 refine ⟨fun b=>F b∨(ρ i).block=some b,zE ρ i .none,h.tm.frozen hS hF hz,h.out.frozen hS hF hz,?_,?_,?_,?_,h.below,h.size,fun b hb=>hb.elim (h.fold b) fun hb=>.inl (h.own hb).2.2⟩
 · intro j o' hj
   by_cases hji:j=i
   · subst hji
     simp [St.frz,hi] at hj
     subst hj
     rw [XD]
     rfl
   · simp only [St.frz,List.getElem?_set_ne (Ne.symm hji),List.getElem?_map] at hj
     cases hoj:σ.ob[j]? with
     | none=>rw [hoj] at hj;cases hj
     | some oj =>
       rw [hoj] at hj
       simp at hj
       subst hj
       rw [XO ρ _ hji]
       have h1:=h.ob j oj hoj
       have hn:∀ b,(ρ j).block=some b→¬ (F b∨(ρ i).block=some b):=fun b hb hc=>hc.elim (h.own hb).2.1 (fun hc=>hji (h.inj j i b hb hc))
       cases oj with
       | dead=>cases hρ:ρ j<;>rw [hρ] at h1<;>exact h1
       | row e m =>
         cases hρ:ρ j with
         | none=>rw [hρ] at h1;exact h1.elim
         | var _ _=>rw [hρ] at h1;exact h1.elim
         | row e' r =>
           rw [hρ] at h1 hn
           obtain ⟨q1,q2,xs,q3,q4⟩:=h1
           exact ⟨q1,fun b hb=>hn b hb,xs,q3,q4.mono hF (fun _ _=>rfl)⟩
       | erow e m =>
         cases hρ:ρ j with
         | none=>rw [hρ] at h1;exact h1.elim
         | var _ _=>rw [hρ] at h1;exact h1.elim
         | row e' r =>
           rw [hρ] at h1 hn
           obtain ⟨q1,q2,q0,xs,q3,q4,q5⟩:=h1
           exact ⟨q1,fun b hb=>hn b hb,q0,xs,by rw [vP];exact q3,q4.frozen hS hF hz,q5⟩
       | var t e =>
         cases hρ:ρ j with
         | none=>rw [hρ] at h1;exact h1.elim
         | row _ _=>rw [hρ] at h1;exact h1.elim
         | var b t' =>
           rw [hρ] at h1 hn
           obtain ⟨⟨q1,q2,q3⟩,q4,q5,cs,ct,x,q6,q7,q8⟩:=h1
           exact ⟨⟨q1,q2,fun u x hx=>q3 u x (QLf hx)⟩,q4,hn b rfl,cs,ct,x,q6,q7.frozen hS hF hz,q8⟩
 · intro j hj
   simp [St.frz] at hj
   rw [XO ρ _ (by omega)]
   exact h.free j (by simp;omega)
 · intro p q b hp hq
   unfold zE at hp hq
   split at hp<;>split at hq
   · omega
   · simp [RI.block] at hp
   · simp [RI.block] at hq
   · exact h.inj p q b hp hq
 · rintro b (hb|hb)
   · exact h.fsub b hb
   · exact (h.own hb).1
theorem St.le.frz (hS:T.Sized) (i:Nat) {t:TypeId} {v:V} (ho:σ.ob[i]?=some (.var t (.data t v))):St.le T σ (σ.frz i v []):=by
 refine St.le.frz_aux hS (List.getElem?_eq_some_iff.1 ho).1 ?_
 intro w F ρ w0 tmps outs h
 have h1:=h.ob i _ ho
 cases hρ:ρ i with
 | none=>rw [hρ] at h1;exact h1.elim
 | row _ _=>rw [hρ] at h1;exact h1.elim
 | var b t' =>
   rw [hρ] at h1
   obtain ⟨⟨rfl,q2,q3⟩,q4,q5,cs,ct,x,q6,⟨cs',rfl,hA,hf⟩,q8,_⟩:=h1
   have hcs:cs'=cs:=by have:=q8.2;rw [if_pos hA] at this;simpa using this
   subst hcs
   exact ⟨.inr rfl,cs'.toList,QD1 q6,hf.mono (fun _ x=>.inl x) (fun _ _=>rfl)⟩
theorem J49 (hS:T.Sized) (i:Nat) {e:TypeId} {l:List V} (ho:σ.ob[i]?=some (.row e l)):St.le T σ (σ.frz i default l):=by
 refine St.le.frz_aux hS (List.getElem?_eq_some_iff.1 ho).1 ?_
 intro w F ρ w0 tmps outs h
 have h1:=h.ob i _ ho
 cases hρ:ρ i with
 | none=>rw [hρ] at h1;exact h1.elim
 | var _ _=>rw [hρ] at h1;exact h1.elim
 | row e' r =>
   rw [hρ] at h1
   obtain ⟨rfl,q2,xs,q3,q4⟩:=h1
   intro b n cap hr
   subst hr
   refine ⟨.inr rfl,?_⟩
   rcases q3.2 with ⟨q,_⟩|⟨b',cap',cur,hr,hb,hh,hn',hc',hs',htk⟩
   · cases q
   · cases hr
     refine ⟨rfl,xs,?_,q4.mono (fun _ x=>.inl x) (fun _ _=>rfl)⟩
     have:=Za (w:=w) hh 0 (l.length*T.sz e')
     rwa [List.drop_zero,htk] at this
theorem QRK:IntKind.i64.min = -9223372036854775808:=rfl
theorem QRL:IntKind.i64.max=9223372036854775807:=rfl
theorem QPc:IntKind.u64.min=0:=rfl
theorem QPd:IntKind.u64.max=18446744073709551615:=rfl
theorem QPe:IntKind.u32.min=0:=rfl
theorem QPf:IntKind.u32.max=4294967295:=rfl
theorem QSA:IntKind.u8.min=0:=rfl
theorem QSB:IntKind.u8.max=255:=rfl
variable {P:Program} {T:Tab} {w w':World} {w0:Base T} {F F':Nat→Prop} {ρ ρ':Nat→RI} {σ σ':St} {a:Act} {outs:List (Array Value)}
variable {ops:Array Oper} {Q:Exit→Act→World→Prop} {md:Region.Mode} {keeps:Nat→Bool}
def YieldsB (P:Program) (ops:Array Oper) (w:World) (o:Oper) (v:Value) (a:Act):Prop :=
 (Region.wanted o (yielded ops a.tmps)=true∧∀ w',Below w.heap.size w w'→(execOp a.eval o).run P w'=.ok (.value v) w') ∨
 (Region.wanted o (yielded ops a.tmps)=false∧v=undef)
theorem YieldsB.later {o:Oper} {v:Value} (h:YieldsB P ops w o v a) (hb:Below w.heap.size w w'):YieldsB P ops w' o v a :=
 h.imp (fun ⟨h1,h2⟩=>⟨h1,fun w'' hw=>h2 w'' (hb.trans (hw.mono hb.size))⟩) id
theorem YieldsB.wpOp {i:Nat} {o:Oper} {v:Value} (hi:ops[i]?=some o) (hy:YieldsB P ops w o v a) {K:Act→World→Prop} (h:K (a.put o.dst v) w):wpOp P ops Q i K a w:=by
 unfold Go.wpOp
 simp only [hi]
 rcases hy with ⟨hw,hv⟩|⟨hw,rfl⟩
 · simp only [hw,if_true,Oper.wp,hv w (Below.refl _ _),Oper.upon];exact .inl h
 · simp only [hw,Bool.false_eq_true,if_false];exact h
theorem YieldsB.of_same {o:Oper} {v:Value} {a a':Act} (hy:YieldsB P ops w o v a) (he:execOp a'.eval o=execOp a.eval o)
 (hw:Region.wanted o (yielded ops a'.tmps)=Region.wanted o (yielded ops a.tmps)):YieldsB P ops w o v a':=by
 unfold YieldsB at *
 rw [he,hw]
 exact hy
theorem QIU {w1:World} {j:Nat} {oi oj:Oper} {v:Value} (hj:ops[j]?=some oj) (hap:oi.apart ops oj=true)
 (hsi:∀ cs b,oi.op≠.select cs b) (hsj:∀ cs b,oj.op≠.select cs b)
 (hQ:∀ c a w,Q (.panic c) (a.put oi.dst v) w→Q (.panic c) a w) {K:Act→World→Prop} {a:Act} {w:World}
 (hy:YieldsB P ops w1 oi v a) (h:wpOp P ops Q j K (a.put oi.dst v) w) :
 wpOp P ops Q j (fun a' w'=>YieldsB P ops w1 oi v a'∧K (a'.put oi.dst v) w') a w:=by
 obtain ⟨h1,h2,h3⟩:=Oper.apart_spec hap
 have keep:∀ (a:Act),YieldsB P ops w1 oi v a→∀ u,YieldsB P ops w1 oi v (a.put oj.dst u):=fun a hy u =>
  hy.of_same (execOp_put oi hsi a oj.dst u h3) (wanted_put oi a oj.dst u h3)
 have keepD:∀ d,YieldsB P ops w1 oi v { a with defers:=d::a.defers }:=fun d=>hy.of_same rfl rfl
 unfold wpOp at *
 simp only [hj] at *
 rw [wanted_put oj a oi.dst v h1] at h
 split
 · rename_i hw
   simp only [hw,if_true] at h
   rcases h with h|⟨hasks,hlets⟩
   case inr=>exact .inr ⟨by unfold Oper.asks at *;rw [execOp_put oj hsj a oi.dst v h1] at hasks;exact hasks,hlets⟩
   refine .inl ?_
   unfold Oper.wp at *
   rw [execOp_put oj hsj a oi.dst v h1] at h
   generalize (execOp a.eval oj).run P w=r at *
   cases r with
   | ok n w' =>
     cases n<;>simp only [Oper.upon] at h ⊢
     case value u=>exact ⟨keep a hy u,by rw [← Act.put_comm a v u h2];exact h⟩
     case skip=>exact ⟨keep a hy _,by rw [← Act.put_comm a v undef h2];exact h⟩
     case defer d =>
      refine ⟨keep _ (keepD d) _,?_⟩
      rw [← Act.put_comm _ v undef h2,← Act.put_defers]
      exact h
     case enter f args =>
      refine Calls.mono h fun e w'' he=>?_
      cases e with
      | returned u=>exact ⟨keep a hy u,by rw [← Act.put_comm a v u h2];exact he⟩
      | panicked c=>exact hQ _ _ _ he
      | outgrown=>exact he
     case row row args=>exact Rows.mono h fun u w'' he=>⟨keep a hy u,by rw [← Act.put_comm a v u h2];exact he⟩
   | halt x w' =>
     cases x<;>simp only [Oper.upon] at h ⊢
     case panic u=>exact hQ _ _ _ h
 · rename_i hw
   simp only [hw] at h
   exact ⟨keep a hy _,by rw [← Act.put_comm a v undef h2];exact h⟩
def yt (P:Program) (md:Region.Mode) (ops:Array Oper) (Q:Exit→Act→World→Prop) (keeps:Nat→Bool):Nat→Array Bool→Act→World→Prop
 | 0,listed,a,w=>Region.ready md ops listed=[]∧Q .normal a w
 | fuel+1,listed,a,w =>
   (Region.ready md ops listed=[]→Q .normal a w) ∧
   ∀ i∈Region.ready md ops listed,wpOp P ops Q i (fun a' w'=>(keeps i=true→Below w.heap.size w w')∧yt P md ops Q keeps fuel (listed.setIfInBounds i true) a' w') a w
theorem yr:∀ (fuel:Nat) (listed:Array Bool) (a:Act) (w:World),yt P md ops Q keeps fuel listed a w→wpAny P md ops Q fuel listed a w
 | 0,_,_,_,h=>h
 | fuel+1,_,_,_,h=>⟨h.1,fun i hi=>wpOp_mono (fun a' w' h'=>yr fuel _ a' w' h'.2) (h.2 i hi)⟩
def waits (md:Region.Mode) (ops:Array Oper) (i:Nat):Nat→Nat→Bool
 | 0,_=>false
 | fuel+1,j=>match ops[j]? with
   | none=>false
   | some o=>o.after.any fun e=>Region.binds md e&&(e.on == i||waits md ops i fuel e.on)
def Closed (md:Region.Mode) (ops:Array Oper) (listed:Array Bool):Prop:=∀ j o,ops[j]?=some o→listed.getD j true=true→∀ e∈o.after,Region.binds md e=true→listed.getD e.on false=true
theorem zC {listed:Array Bool} (hs:listed.size=ops.size) (hc:Closed md ops listed) {i:Nat} (hi:listed.getD i false=false):∀ {fuel j:Nat},waits md ops i fuel j=true→∃ o,ops[j]?=some o∧∃ e∈o.after,Region.binds md e=true∧listed.getD e.on false=false
 | 0,_,h=>by simp [waits] at h
 | fuel+1,j,h=>by
   unfold waits at h
   split at h
   · cases h
   · rename_i o ho
     rw [Array.any_eq_true'] at h
     obtain ⟨e,he,h2⟩:=h
     simp only [Bool.and_eq_true,Bool.or_eq_true,beq_iff_eq] at h2
     refine ⟨o,ho,e,he,h2.1,?_⟩
     rcases h2.2 with h3|h3
     · rw [h3];exact hi
     · obtain ⟨o',ho',e',he',hb',hl'⟩:=zC hs hc hi h3
       have hlt:=(Array.getElem?_eq_some_iff.1 ho').1
       cases hl:listed.getD e.on false with
       | false=>rfl
       | true =>
         have:=hc e.on o' ho' (by simpa [Array.getD,show e.on<listed.size by omega] using hl) e' he' hb'
         rw [this] at hl';cases hl'
theorem Closed.set {listed:Array Bool} (hs:listed.size=ops.size) (hc:Closed md ops listed) {j:Nat} (hr:j∈Region.ready md ops listed):Closed md ops (listed.setIfInBounds j true):=by
 have grow:∀ k,listed.getD k false=true→(listed.setIfInBounds j true).getD k false=true:=by
  intro k hk
  by_cases hjk:j=k
  · subst hjk
    have:j<listed.size:=by
     apply Classical.byContradiction
     intro h
     simp [Array.getD,show ¬ j<listed.size from h] at hk
    simp [Array.getD,this]
  · rw [getD_set_ne false hjk];exact hk
 intro k o ho hk e he hb
 obtain ⟨_,oj,hoj,hall⟩:=mem_ready.1 hr
 by_cases hjk:j=k
 · subst hjk
   rw [hoj] at ho
   cases ho
   exact grow _ (hall e he hb)
 · rw [getD_set_ne true hjk] at hk
   exact grow _ (hc k o ho hk e he hb)
theorem xU {i:Nat} {oi:Oper} {v:Value} (hi:ops[i]?=some oi) (hsel:∀ (j:Nat) (o:Oper) cs b,ops[j]?=some o→o.op≠.select cs b)
 (hQ:∀ c a w,Q (.panic c) (a.put oi.dst v) w→Q (.panic c) a w) :
 ∀ (fuel:Nat) (listed:Array Bool) (a:Act) (w:World),listed.size=ops.size→Closed md ops listed →
   (∀ j oj,ops[j]?=some oj→j≠i→listed.getD j true=false→waits md ops i ops.size j=false→oi.apart ops oj=true∧keeps j=true) →
   i∈Region.ready md ops listed→YieldsB P ops w oi v a →
   yt P md ops Q keeps fuel (listed.setIfInBounds i true) (a.put oi.dst v) w→yt P md ops Q keeps (fuel+1) listed a w:=by
 intro fuel
 induction fuel with
 | zero =>
   intro listed a w _ _ _ hr hy H
   refine ⟨fun h=>(by rw [h] at hr;cases hr),fun j hj=>?_⟩
   by_cases hji:j=i
   · subst hji;exact hy.wpOp hi ⟨fun _=>Below.refl _ _,H⟩
   · have:=ready_mono hj hji
     rw [H.1] at this
     cases this
 | succ fuel ih =>
   intro listed a w hsz hcl hfree hr hy H
   refine ⟨fun h=>(by rw [h] at hr;cases hr),fun j hj=>?_⟩
   by_cases hji:j=i
   · subst hji;exact hy.wpOp hi ⟨fun _=>Below.refl _ _,H⟩
   · have h1:=H.2 j (ready_mono hj hji)
     obtain ⟨hjun,oj,hoj,hall⟩:=mem_ready.1 hj
     have hiun:listed.getD i false=false:=by
      have h0:=(mem_ready.1 hr).1
      have hlt:=(Array.getElem?_eq_some_iff.1 hi).1
      simpa [Array.getD,show i<listed.size by omega] using h0
     have hnot:waits md ops i ops.size j=false:=by
      cases hw:waits md ops i ops.size j with
      | false=>rfl
      | true =>
        obtain ⟨o,ho,e,he,hb,hl⟩:=zC hsz hcl hiun hw
        rw [hoj] at ho
        cases ho
        rw [hall e he hb] at hl
        cases hl
     obtain ⟨hap,hkp⟩:=hfree j oj hoj hji hjun hnot
     have h2:=QIU hoj hap (fun cs b=>hsel i oi cs b hi) (fun cs b=>hsel j oj cs b hoj) hQ hy h1
     have hfree':∀ k ok,ops[k]?=some ok→k≠i→(listed.setIfInBounds j true).getD k true=false →
      waits md ops i ops.size k=false→oi.apart ops ok=true∧keeps k=true:=fun k ok hk hki hun hno=>by
      refine hfree k ok hk hki ?_ hno
      by_cases hjk:j=k
      · subst hjk;exact hjun
      · rw [getD_set_ne true hjk] at hun;exact hun
     refine wpOp_mono (fun a' w' h3=>⟨h3.2.1,ih (listed.setIfInBounds j true) a' w' (by simpa using hsz) (hcl.set hsz hj) hfree' (ready_mono hr (Ne.symm hji)) (h3.1.later (h3.2.1 hkp)) ?_⟩) h2
     rw [Array.setIfInBounds_comm _ _ hji]
     exact h3.2.2
def QH5 (ops:Array Oper) (keeps:Nat→Bool) (listed:Array Bool) (i:Nat):Bool :=
 listed.size == ops.size&&((List.range ops.size).all fun j=>!listed.getD j true||match ops[j]? with
  | none=>true
  | some o=>o.after.all fun e=>!Region.binds .any e||listed.getD e.on false) &&
 match ops[i]? with
 | none=>false
 | some oi=>(List.range ops.size).all fun j=>j == i||listed.getD j true||match ops[j]? with
   | none=>true
   | some oj=>waits .any ops i ops.size j||(oi.apart ops oj&&keeps j)
theorem Ws {listed:Array Bool} {i:Nat} {oi:Oper} (hi:ops[i]?=some oi) (h:QH5 ops keeps listed i=true):listed.size=ops.size∧Closed .any ops listed ∧
 ∀ j oj,ops[j]?=some oj→j≠i→listed.getD j true=false→waits .any ops i ops.size j=false→oi.apart ops oj=true∧keeps j=true:=by
 unfold QH5 at h
 simp only [hi,Bool.and_eq_true,beq_iff_eq] at h
 obtain ⟨⟨h0,h1⟩,h⟩:=h
 refine ⟨h0,?_,?_⟩
 · intro j o ho hl e he hb
   have:=List.all_eq_true.1 h1 j (List.mem_range.2 (Array.getElem?_eq_some_iff.1 ho).1)
   rw [ho] at this
   simp only [hl,Bool.not_true,Bool.false_or] at this
   have:=Array.all_eq_true_iff_forall_mem.1 this e he
   simpa [hb] using this
 · intro j oj hj hji hun hno
   have:=List.all_eq_true.1 h j (List.mem_range.2 (Array.getElem?_eq_some_iff.1 hj).1)
   rw [hj] at this
   simp only [hun,hno,Bool.or_false,Bool.false_or,Bool.or_eq_true,beq_iff_eq,hji,false_or,Bool.and_eq_true] at this
   exact this
def AnyA (P:Program) (T:Tab) (ops:Array Oper) (keeps:Nat→Bool) (K:St→Prop) (fuel:Nat) (listed:Array Bool) (σ:St):Prop :=
 ∀ (w0:Base T) (w:World) (F:Nat→Prop) (ρ:Nat→RI) (a:Act) (outs:List (Array Value)),a.defers=[]→Rel T w F ρ w0 σ a.tmps outs →
   yt P .any ops (fun ex a' w'=>ex=.normal∧VV T w0 outs K a' w') keeps fuel listed a w
theorem AnyA.done {K:St→Prop} {fuel:Nat} {listed:Array Bool} (hr:Region.ready .any ops listed=[]) (h:K σ):AnyA P T ops keeps K fuel listed σ:=by
 intro w0 w F ρ a outs hd hR
 cases fuel with
 | zero=>exact ⟨hr,rfl,σ,F,ρ,h,hd,hR⟩
 | succ fuel=>exact ⟨fun _=>⟨rfl,σ,F,ρ,h,hd,hR⟩,by rw [hr];simp⟩
theorem AnyA.take {K:St→Prop} {fuel:Nat} {listed:Array Bool} (hP:TabOk P T) (i:Nat) (so:SOp) (hso:(ops[i]?).map (QC ops)=some so) (hg:YW ops=true) (hs:Region.noSelect ops=true) (hf:QH5 ops keeps listed i=true) (hr:(Region.ready .any ops listed).contains i=true) (l':Array Bool) (hl':listed.setIfInBounds i true=l')
 (h:∀ R:St→Prop,(∀ σ',AnyA P T ops keeps K fuel l' σ'→R σ')→Yw so σ fun g=>Vw T σ g so.op (Xc σ so.dst g R)):AnyA P T ops keeps K (fuel+1) listed σ:=by
 intro w0 w F ρ a outs hd hR
 subst hl'
 obtain ⟨o,hi,rfl⟩:=Option.map_eq_some_iff.1 hso
 have h:=h _ fun _ x=>x
 have hgo:=List.all_eq_true.1 hg o (by have:=Array.mem_of_getElem? hi;simpa using this)
 obtain ⟨g,h,hw⟩:=Wc hR hgo h
 obtain ⟨e,h1,h2⟩:=UE hP hR h
 have hop:(QC ops o).op=o.op:=rfl
 have hdst:(QC ops o).dst=o.dst:=rfl
 rw [hop] at h2
 rw [hdst] at h1
 cases g with
 | true =>
   obtain ⟨v,hv,hrun⟩:=h2 rfl
   obtain ⟨σ',hK,hR',hd'⟩:=Q9 hR h1 (fun _=>hv) (by simp)
   exact xU hi (Region.noSelect_spec hs) (fun _ _ _ h=>by cases h.1) fuel listed a w (Ws hi hf).1 (Ws hi hf).2.1 (Ws hi hf).2.2 (by simpa using hr) (.inl ⟨hw,fun w' hb=>hrun w' hb o rfl⟩) (hK w0 w F ρ _ outs (hd'.trans hd) hR')
 | false =>
   obtain ⟨σ',hK,hR',hd'⟩:=Q9 (v:=undef) hR h1 (by simp) (fun _=>rfl)
   exact xU hi (Region.noSelect_spec hs) (fun _ _ _ h=>by cases h.1) fuel listed a w (Ws hi hf).1 (Ws hi hf).2.1 (Ws hi hf).2.2 (by simpa using hr) (.inr ⟨hw,rfl⟩) (hK w0 w F ρ _ outs (hd'.trans hd) hR')
def CallB (P:Program) (T:Tab) (σ:St) (f:FuncId) (es:List E) (K:St→E→Prop):Prop :=
 qk P f∧∀ (w0:Base T) (w:World) (F:Nat→Prop) (ρ:Nat→RI) (tmps:Array Value) (outs:List (Array Value)) (xs:List Value),Rel T w F ρ w0 σ tmps outs→ERelL T w F ρ es xs →
  Calls P f xs.toArray w fun en w'=>∃ v σ' e F' ρ',en=.returned v∧Below w.heap.size w w'∧K σ' e∧ERel T w' F' ρ' e v∧Rel T w' F' ρ' w0 σ' tmps outs
theorem CallB.ctr (hP:TabOk P T) {f:FuncId} {pts rts:List TypeId} {vs rs:List V} {es:List E} {K:St→E→Prop} (hc:Ctr P T f pts rts vs rs) (hv:Zy T σ pts es=some vs)
 (hK:K { σ with ob:=σ.ob++(Yu T σ.ob.length rts rs).1 } (VZ (Yu T σ.ob.length rts rs).2)):CallB P T σ f es K:=by
 obtain ⟨hE,hc⟩:=hc
 refine ⟨hE,?_⟩
 intro w0 w F ρ tmps outs xs hR hx
 refine (hc w _ xs (fun _ h=>h) (T.globB _ _ (Base.ok _) hR.below) (U5 hP hR hx hv)).mono ?_
 rintro en w' ⟨ys,rfl,hb,hres⟩
 have hR':=hR.later hb
 obtain ⟨ρ',r1,r2,_⟩:=zc (n0:=w.heap.size) hR.fsub hR' hR.below.size hres (fun y _ b _ hnb j hj=>by have:=(hR.own hj).1;omega)
 exact ⟨_,_,_,F,ρ',rfl,hb,hK,zX r2,r1⟩
def wz (P:Program) (T:Tab) (σ:St) (g:Bool) (f:Operand) (args:List Operand) (d:Option Tmp) (K:St→Prop):Prop :=
 ZD σ g f fun ef=>vU σ g args fun es=>∃ fid caps,ef=.fn fid caps ∧
  ((∃ e,(g=true→CallQ P T σ fid (es++caps) e)∧Xc σ d g K e)∨((g=true→CallB P T σ fid (es++caps) (qr d K))∧(g=false→Xc σ d false K .undef)))
def opB (P:Program) (T:Tab) (o:SOp) (K:St→Prop) (σ:St) (g:Bool):Prop:=match o.op with
 | .call c=>match c.callee with
   | .value f=>wz P T σ g f c.args.toList o.dst K
   | .builtin .append=>(g=true→QNi T σ c (qr o.dst K))∧(g=false→Xc σ o.dst false K .undef)
   | .builtin _=>Vw T σ g (.call c) (Xc σ o.dst g K)
   | _=>False
 | .alloc t=>(g=true→zl T σ (.alloc t) (qr o.dst K))∧(g=false→Xc σ o.dst false K .undef)
 | .box t x=>(g=true→zl T σ (.box t x) (qr o.dst K))∧(g=false→Xc σ o.dst false K .undef)
 | .store _ _ _=>False
 | .buildSlice t n ps=>(g=true→zl T σ (.buildSlice t n ps) (qr o.dst K))∧(g=false→Xc σ o.dst false K .undef)
 | .makeSlice t l c=>(g=true→zl T σ (.makeSlice t l c) (qr o.dst K))∧(g=false→Xc σ o.dst false K .undef)
 | op=>Vw T σ g op (Xc σ o.dst g K)
theorem QA4 (hP:TabOk P T) (hR:Rel T w F ρ w0 σ a.tmps outs) (hd:a.defers=[]) {o:Oper} {g:Bool} {K:St→Prop} {N:Act→World→Prop}
 (hN:∀ a' w',Below w.heap.size w w'→VV T w0 outs K a' w'→N a' w') (h:Vw T σ g o.op (Xc σ o.dst g K)):if g then o.wp P a w N Q else N (a.put o.dst undef) w:=by
 obtain ⟨e,h1,h2⟩:=UE hP hR h
 cases g with
 | true =>
   obtain ⟨v,hv,hr⟩:=h2 rfl
   obtain ⟨σ',hK,hR',hd'⟩:=Q9 hR h1 (fun _=>hv) (by simp)
   simp only [if_true,Oper.wp,hr w (Below.refl _ _) o rfl,Oper.upon]
   exact hN _ _ (Below.refl _ _) ⟨σ',F,ρ,hK,hd'.trans hd,hR'⟩
 | false =>
   obtain ⟨σ',hK,hR',hd'⟩:=Q9 (v:=undef) hR h1 (by simp) (fun _=>rfl)
   simp only [Bool.false_eq_true,if_false]
   exact hN _ _ (Below.refl _ _) ⟨σ',F,ρ,hK,hd'.trans hd,hR'⟩
theorem yT (hP:TabOk P T) (hR:Rel T w F ρ w0 σ a.tmps outs) (hd:a.defers=[]) {o:Oper} {g:Bool} {K:St→Prop} {N:Act→World→Prop} (hm:Xf o.op=true)
 (hN:∀ a' w',Below w.heap.size w w'→VV T w0 outs K a' w'→N a' w') (h:(g=true→zl T σ o.op (qr o.dst K))∧(g=false→Xc σ o.dst false K .undef)):if g then o.wp P a w N Q else N (a.put o.dst undef) w:=by
 cases g with
 | true =>
   obtain ⟨σ',e,h1,w',F',ρ',v,nx,h2,h3,h4,h5,h6⟩:=QBU hP hR (h.1 rfl)
   obtain ⟨σ'',hK,hR',hd'⟩:=Q9 h3 h1 (fun _=>h2) (by simp)
   rcases h4 with rfl|⟨rfl,rfl⟩
   · simp only [if_true,Oper.wp,h5 o rfl,Oper.upon]
     exact hN _ _ (h6 hm) ⟨σ'',F',ρ',hK,hd'.trans hd,hR'⟩
   · simp only [if_true,Oper.wp,h5 o rfl,Oper.upon]
     exact hN _ _ (h6 hm) ⟨σ'',F',ρ',hK,hd'.trans hd,hR'⟩
 | false =>
   obtain ⟨σ',hK,hR',hd'⟩:=Q9 (v:=undef) hR (h.2 rfl) (by simp) (fun _=>rfl)
   simp only [Bool.false_eq_true,if_false]
   exact hN _ _ (Below.refl _ _) ⟨σ',F,ρ,hK,hd'.trans hd,hR'⟩
theorem QHC (hR:Rel T w F ρ w0 σ a.tmps outs) (hd:a.defers=[]) {o:Oper} {c:Call} {x:Operand} (ho:o.op=.call c) (hc:c.callee=.value x) {g:Bool} {K:St→Prop} {N:Act→World→Prop}
 (hN:∀ a' w',Below w.heap.size w w'→VV T w0 outs K a' w'→N a' w') (h:wz P T σ g x c.args.toList o.dst K):if g then o.wp P a w N Q else N (a.put o.dst undef) w:=by
 obtain ⟨ef,h1,hf⟩:=QR hR h
 obtain ⟨es,h2,hes⟩:=WQ hR h1
 obtain ⟨fid,caps,rfl,h3⟩:=h2
 clear h h1
 cases g with
 | true =>
   obtain ⟨cs,hx,hcs⟩:=hf rfl
   have hall:=(hes rfl).append hcs
   rcases h3 with ⟨e,hq,hk⟩|⟨he,_⟩
   · obtain ⟨hE,hq⟩:=hq rfl
     obtain ⟨v,hv,hq⟩:=hq w0 w F ρ _ _ _ hR hall
     have hcall:=hq w (Below.refl _ _)
     simp only [if_true,Oper.wp,zP hE hc hx w o ho,Oper.upon]
     refine hcall.mono ?_
     rintro en w' ⟨rfl,hb⟩
     obtain ⟨σ',hK,hR',hd'⟩:=Q9 hR hk (fun _=>hv) (by simp)
     exact hN _ _ hb ⟨σ',F,ρ,hK,hd'.trans hd,hR'.later hb⟩
   · obtain ⟨hE,he⟩:=he rfl
     simp only [if_true,Oper.wp,zP hE hc hx w o ho,Oper.upon]
     refine (he w0 w F ρ _ _ _ hR hall).mono ?_
     rintro en w' ⟨v,σ',e,F',ρ',rfl,hb,hk,hv,hR'⟩
     obtain ⟨σ'',hK,hR'',hd'⟩:=Q9 hR' hk (fun _=>hv) (by simp)
     exact hN _ _ hb ⟨σ'',F',ρ',hK,hd'.trans hd,hR''⟩
 | false =>
   simp only [Bool.false_eq_true,if_false]
   rcases h3 with ⟨e,_,hk⟩|⟨_,he⟩
   · obtain ⟨σ',hK,hR',hd'⟩:=Q9 (v:=undef) hR hk (by simp) (fun _=>rfl)
     exact hN _ _ (Below.refl _ _) ⟨σ',F,ρ,hK,hd'.trans hd,hR'⟩
   · obtain ⟨σ',hK,hR',hd'⟩:=Q9 (v:=undef) hR (he rfl) (by simp) (fun _=>rfl)
     exact hN _ _ (Below.refl _ _) ⟨σ',F,ρ,hK,hd'.trans hd,hR'⟩
end Go.Eng
