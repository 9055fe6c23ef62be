/- A part of the proof: walks through the program's functions, and what they compute. -/
import Derived.Test.YtedceinkpkoncaaGreatDoorPk6
set_option linter.unusedSimpArgs false
set_option linter.unusedVariables false
namespace Go.Eng
open Go.RowKit
variable {T:Tab} {w w':World} {w0:Base T} {F F':Nat→Prop} {ρ ρ':Nat→RI}
theorem ERelL.set_same:∀ {l:List E} {vs:List Value} {k:Nat} {e:E} {v:Value},ERelL T w F ρ l vs→vs[k]?=some v→ERel T w F ρ e v→ERelL T w F ρ (l.set k e) vs
 | [],[],_,_,_,_,_,_=>trivial
 | _::_,x::_,0,_,_,h,hk,he=>⟨by simp at hk;rw [hk];exact he,h.2⟩
 | _::_,_::_,k+1,_,_,h,hk,he=>⟨h.1,ERelL.set_same (k:=k) h.2 (by simpa using hk) he⟩
 | [],_::_,_,_,_,h,_,_=>h.elim
 | _::_,[],_,_,_,h,_,_=>h.elim
end Go.Eng
namespace Go.Eng
open Go.RowKit
variable {P:Program} {T:Tab} {w w':World} {w0:Base T} {F F':Nat→Prop} {ρ ρ':Nat→RI} {σ σ':St} {a:Act} {outs:List (Array Value)}
theorem J46 {rs:List ResultVar} {rts:List TypeId} {vs:List V} (h:QJ T σ' rs fun es=>Zx T σ' rts es=some vs):QJf T rs rts vs .normal σ':=⟨.inl rfl,h⟩
theorem J47 {rs:List ResultVar} {rts:List TypeId} {vs:List V} (h:QJ T σ' rs fun es=>Zx T σ' rts es=some vs):QJf T rs rts vs .ret σ':=⟨.inr rfl,h⟩
theorem QDe:∀ {ts:List TypeId} {es:List E} {xs:List Value} {vs:List V},ERelL T w F ρ es xs→xV T ts es=some vs→ArgsFit T w F ts vs xs
 | [],[],[],vs,_,h=>by cases h;trivial
 | t::ts,e::es,x::xs,vs,⟨h1,h2⟩,h=>by
   unfold xV at h
   split at h
   · rename_i v vs' hv hvs
     cases h
     exact ⟨Y2 h1 hv,QDe h2 hvs⟩
   · cases h
 | [],_::_,_,_,_,h=>by simp [xV] at h
 | _::_,[],_,_,_,h=>by simp [xV] at h
 | [],[],_::_,_,h,_=>h.elim
 | _::_,_::_,[],_,h,_=>h.elim
theorem CallB.ctrZ {f:FuncId} {pts rts:List TypeId} {vs rs:List V} {es:List E} {K:St→E→Prop} (hc:CtrZ P T f pts rts vs rs) (hv:xV T pts es=some vs)
 (hK:K σ (QD2 (QE T rts rs))):CallB P T σ f es K:=by
 obtain ⟨hE,hc⟩:=hc
 refine ⟨hE,?_⟩
 intro w0 w F ρ tmps outs xs hR hx
 refine (hc w F xs hR.fsub (T.globB _ _ (Base.ok _) hR.below) (QDe hx hv)).mono ?_
 rintro en w' ⟨ys,rfl,hb,hres⟩
 exact ⟨_,σ,_,_,ρ,rfl,hb,hK,yl (Vj hres),hR.grow hb⟩
theorem CallB.toE {f:FuncId} {es:List E} {K:St→E→Prop} (h:CallB P T σ f es K):CallE P T σ f es K:=by
 obtain ⟨hE,h⟩:=h
 refine ⟨hE,?_⟩
 intro w0 w F ρ tmps outs xs hR hx
 refine (h w0 w F ρ tmps outs xs hR hx).mono ?_
 rintro en w' ⟨v,σ',e,F',ρ',h1,_,h2,h3,h4⟩
 exact ⟨v,σ',e,F',ρ',h1,h2,h3,h4⟩
theorem CallE.ctrZ {f:FuncId} {pts rts:List TypeId} {vs rs:List V} {es:List E} {K:St→E→Prop} (hc:CtrZ P T f pts rts vs rs) (hv:xV T pts es=some vs)
 (hK:K σ (QD2 (QE T rts rs))):CallE P T σ f es K:=(CallB.ctrZ hc hv hK).toE
end Go.Eng
namespace Go.Eng
open Go.RowKit
variable {P:Program} {T:Tab} {w w':World} {w0:Base T} {F F':Nat→Prop} {ρ ρ':Nat→RI} {σ σ':St} {a:Act} {outs:List (Array Value)}
theorem vu:∀ {ts:List TypeId} {l:List E} {xs cs:List Value} {vs:List V},ERelL T w F ρ l xs→Joins T ts xs cs→xV T ts l=some vs→FitsL T w F ts vs cs
 | [],[],[],cs,vs,_,hj,h=>by cases h;rw [show cs=[] from hj];exact .nil
 | t::ts,e::es,x::xs,cs,vs,⟨h1,h2⟩,hj,h=>by
   obtain ⟨r,rfl,j1,j2,j3⟩:=hj
   unfold xV at h
   split at h
   · rename_i v vs' hv hvs
     cases h
     exact .cons (Y2 h1 hv).1 (vu h2 j3 hvs)
   · cases h
 | [],_::_,_,_,_,_,_,h=>by simp [xV] at h
 | _::_,[],_,_,_,_,_,h=>by simp [xV] at h
 | [],[],_::_,_,_,h,_,_=>h.elim
 | _::_,_::_,[],_,_,h,_,_=>h.elim
theorem St.le.ofAgg (i:Nat) {t:TypeId} {ts:List TypeId} {l:List E} {vs:List V} (hts:T.ty t=.struct ts) (ho:σ.ob[i]?=some (.var t (.agg t l))) (hv:xV T ts l=some vs) :
 St.le T σ { σ with ob:=σ.ob.set i (.var t (.data t (.agg vs))) }:=by
 intro w F ρ w0 tmps outs h
 have hi:i<σ.ob.length:=(List.getElem?_eq_some_iff.1 ho).1
 refine ⟨F,ρ,h.tm,h.out,?_,?_,h.inj,h.fsub,h.below,h.size,h.fold⟩
 · intro j o hj
   by_cases hji:j=i
   · subst hji
     simp [hi] at hj
     subst hj
     have h1:=h.ob j _ ho
     cases hρ:ρ j with
     | none=>rw [hρ] at h1;exact h1.elim
     | row _ _=>rw [hρ] at h1;exact h1.elim
     | var b t' =>
       rw [hρ] at h1
       obtain ⟨⟨q1,q2,q3⟩,q4,q5,cs,ct,v,q6,q7,q8,q9⟩:=h1
       refine ⟨⟨q1,q2,fun u x hx=>by cases hx;rfl⟩,q4,q5,cs,ct,v,q6,?_,q8,q9⟩
       obtain ⟨ts',xs,cs',e1,rfl,e2,e3⟩:=q7
       rw [hts] at e1
       cases e1
       exact ⟨cs',rfl,by rw [hts];rfl,.struct hts (vu e2 e3 hv)⟩
   · simp only [List.getElem?_set_ne (Ne.symm hji)] at hj
     exact h.ob j o hj
 · intro j hj
   simp at hj
   exact h.free j (by simp;omega)
theorem St.le.ownPart (i k:Nat) {t e:TypeId} {l:List E} (ho:σ.ob[i]?=some (.var t (.agg t l))) (hk:l[k]?=some .nilsl):St.le T σ { σ with ob:=σ.ob.set i (.var t (.agg t (l.set k (.sl σ.ob.length e 0 0 false))))++[.row e []] }:=by
 intro w F ρ w0 tmps outs h
 have hi:i<σ.ob.length:=(List.getElem?_eq_some_iff.1 ho).1
 have hadd:=h.add (r:=.row e (.slice none 0 0)) (o:=.row e []) (fun b hb=>by simp [RI.block,Value.ownBlock] at hb) ⟨rfl,fun b hb=>by simp [Value.ownBlock] at hb,[],World.ownsRow_nil _ _ _ _,.nil⟩
 refine ⟨F,_,hadd.tm,hadd.out,?_,?_,hadd.inj,hadd.fsub,hadd.below,hadd.size,hadd.fold⟩
 · intro j o hj
   by_cases hji:j=i
   · subst hji
     have hj':o=.var t (.agg t (l.set k (.sl σ.ob.length e 0 0 false))):=by
      rw [List.getElem?_append_left (by simpa using hi)] at hj
      simp [hi] at hj
      exact hj.symm
     subst hj'
     have h1:=hadd.ob j _ (by rw [List.getElem?_append_left hi];exact ho)
     cases hρ:qZ ρ σ.ob.length (.row e (.slice none 0 0)) j with
     | none=>rw [hρ] at h1;exact h1.elim
     | row _ _=>rw [hρ] at h1;exact h1.elim
     | var b t' =>
       rw [hρ] at h1
       obtain ⟨⟨q1,q2,q3⟩,q4,q5,cs,ct,v,q6,q7,q8,q9⟩:=h1
       refine ⟨⟨q1,q2,fun u x hx=>by cases hx⟩,q4,q5,cs,ct,v,q6,?_,q8,q9⟩
       obtain ⟨ts,xs,cs',e1,e4,e2,e3⟩:=q7
       have hkl:k<l.length:=(List.getElem?_eq_some_iff.1 hk).1
       obtain ⟨z,z1,z2⟩:=e2.at hkl
       rw [List.getD_eq_getElem?_getD,hk] at z2
       have z2:z=.slice none 0 0:=z2
       subst z2
       refine ⟨ts,xs,cs',e1,e4,e2.set_same z1 ?_,e3⟩
       unfold ERel
       rw [Y1]
       exact .inl ⟨rfl,rfl,rfl,rfl⟩
   · refine hadd.ob j o ?_
     by_cases hjl:j<σ.ob.length
     · rw [List.getElem?_append_left (by simpa using hjl),List.getElem?_set_ne (Ne.symm hji)] at hj
       rw [List.getElem?_append_left hjl];exact hj
     · rw [List.getElem?_append_right (by simp;omega)] at hj
       rw [List.getElem?_append_right (by omega)]
       simpa using hj
 · intro j hj
   refine hadd.free j ?_
   simp at hj ⊢
   omega
end Go.Eng
namespace Go.Eng
structure Fnc.Sz (f:Fnc):Prop where
 code:f.code.length*40≤140737488355328
 sels:f.sels.length*32≤140737488355328
 cases:∀ i,i<f.sels.length→(f.sels.getD i default).cases.length*32≤140737488355328
structure Prg.Sz (p:Prg):Prop where
 vars:p.vars.length*16≤140737488355328
 chans:p.chans.length*8≤140737488355328
 funcs:p.funcs.length*64≤140737488355328
 each:∀ i,i<p.funcs.length→(p.funcs.getD i default).Sz
end Go.Eng
namespace Go.Eng
theorem yQ {p:Prg} (hok:p.Ok):Wf p zeroStt :=
 ⟨⟨rfl,rfl,rfl,by decide,rfl,by decide⟩,⟨by decide,by decide⟩,fun g h0 hc=>absurd hc (by show ¬g<0;omega),fun g h0 hc=>absurd hc (by show ¬g<0;omega),fun i=>by
   have h:=(hok.caps i).1
   have e:(zeroStt.chans.getD i default).len=0:=by
    by_cases hi:i<4
    · rcases (show i=0∨i=1∨i=2∨i=3 by omega) with rfl|rfl|rfl|rfl<;>rfl
    · rw [List.getD_eq_getElem?_getD,List.getElem?_eq_none (by show 4≤i;omega)];rfl
   rw [e];exact ⟨Int.le_refl 0,h⟩⟩
end Go.Eng
namespace Go.Eng
structure Ag (A:Int→Int→Prop) (s t:Stt):Prop where
 lv:s.vars.length=t.vars.length
 lo:s.owner.length=t.owner.length
 lc:s.chans.length=t.chans.length
 lg:s.gos.length=t.gos.length
 vars:∀ i:Nat,A 1 i→s.vars.getD i 0=t.vars.getD i 0
 owner:∀ i:Nat,A 2 i→s.owner.getD i 0=t.owner.getD i 0
 chans:∀ i:Nat,A 3 i→s.chans.getD i default=t.chans.getD i default
 gos:∀ i:Nat,A 5 i→s.gos.getD i default=t.gos.getD i default
 count:A 4 0→s.count=t.count
section
variable {A:Int→Int→Prop} {s t:Stt}
structure DAg (A:Int→Int→Prop) (d e:Did):Prop where
 s:Ag A d.s e.s
 val:d.val=e.val
 why:d.why=e.why
 to_:d.to_=e.to_
variable {p:Prg} {g:Int}
end
end Go.Eng
namespace Go.Eng
structure Foot (A B:Int→Int→Prop) (p:Prg) (s:Stt) (g:Int):Prop where
 own:B 5 g
 c50:QL p s g=50→A 1 (QA p s g).b
 c54:QL p s g=54→A 1 (QA p s g).a
 c51:QL p s g=51→B 1 (QA p s g).a
 c52:QL p s g=52∨QL p s g=53→B 1 (QA p s g).b
 c55:QL p s g=55∨QL p s g=56→B 2 (QA p s g).a
 c57:QL p s g=57→B 2 (QA p s g).b
 c58:QL p s g=58∨QL p s g=60∨QL p s g=66→B 3 (QA p s g).a
 c59:QL p s g=59→B 3 (QA p s g).b
 c61:QL p s g=61→∀ i,i<(Qx p s g).cases.length→B 3 ((Qx p s g).cases.getD i default).chan
 c62:QL p s g=62→B 4 0∧(s.count<6→B 5 s.count)
 c63:QL p s g=63→A 4 0∧(0≤(s.gor g).reg (QA p s g).a∧(s.gor g).reg (QA p s g).a<s.count→A 5 ((s.gor g).reg (QA p s g).a))
end Go.Eng
namespace Go.Eng
section
variable {A B:Int→Int→Prop} {s t:Stt} {p:Prg} {g:Int}
structure Stand (p:Prg) (s t:Stt) (g:Int):Prop where
 gor:t.gor g=s.gor g
 ins:QA p t g=QA p s g
 op:QL p t g=QL p s g
 sel:Qx p t g=Qx p s g
structure Opers (p:Prg) (s:Stt) (g:Int):Prop where
 o50:QL p s g=50→0≤(QA p s g).b
 o54:QL p s g=54→0≤(QA p s g).a
 o51:QL p s g=51→0≤(QA p s g).a
 o52:QL p s g=52∨QL p s g=53→0≤(QA p s g).b
 o55:QL p s g=55∨QL p s g=56→0≤(QA p s g).a
 o57:QL p s g=57→0≤(QA p s g).b
 o58:QL p s g=58∨QL p s g=60∨QL p s g=66→0≤(QA p s g).a
 o59:QL p s g=59→0≤(QA p s g).b
 o61:QL p s g=61→∀ i,i<(Qx p s g).cases.length→0≤((Qx p s g).cases.getD i default).chan
variable {apply:Int→Int→Int→Int × Int} {fuel:Int}
end
end Go.Eng
namespace Go.Eng
open Go.RowKit
variable {H:Type} {enc:TypeId × Value→H} {P:Program} {T:Tab} {w:World} {base:Nat} {spare:Nat→Bool} {held:Bool}
inductive VSz (T:Tab):TypeId→V→Prop
 | leaf {t v}:(∀ ts,T.ty t≠.struct ts)→(∀ n e,T.ty t≠.arr n e)→(∀ e,T.ty t≠.slice e)→VSz T t v
 | struct {t ts l}:T.ty t=.struct ts→(∀ k u,ts[k]?=some u→VSz T u (l.getD k default))→VSz T t (.agg l)
 | arr {t n e l}:T.ty t=.arr n e→(∀ i,i<l.length→VSz T e (l.getD i default))→VSz T t (.agg l)
 | slice {t e l}:T.ty t=.slice e→l.length*T.by_ e≤140737488355328→(∀ i,i<l.length→VSz T e (l.getD i default))→VSz T t (.list l)
end Go.Eng
