/- A part of the proof: walks through the program's functions, and what they compute. -/
import Derived.Test.YtedceinkpkoncaaGreatDoorPk8
import Derived.OrdersHeld
set_option linter.unusedSimpArgs false
set_option linter.unusedVariables false
namespace Go.Eng
open Go.RowKit
variable {P:Program} {T:Tab} {w w':World} {w0:Base T} {F F':Nat→Prop} {ρ ρ':Nat→RI} {σ σ':St} {a:Act} {outs:List (Array Value)}
mutual
def E.under (k:Nat):E→Bool
 | .sl i _ _ _ _=>Nat.blt i k
 | .ptr i _ _=>Nat.blt i k
 | .rp i _ _ _=>Nat.blt i k
 | .av i _ _ _=>Nat.blt i k
 | .fn _ caps=>E.underL k caps
 | .tup l=>E.underL k l
 | .agg _ l=>E.underL k l
 | _=>true
def E.underL (k:Nat):List E→Bool
 | []=>true
 | e::es=>e.under k&&E.underL k es
end
def Tm.under (k:Nat):Tm→Bool
 | []=>true
 | x::tm=>x.2.2.under k&&Tm.under k tm
def outUnder (k:Nat):List Tm→Bool
 | []=>true
 | x::l=>Tm.under k x&&outUnder k l
def obUnder (k:Nat):List Obj→Bool
 | []=>true
 | .var _ e::l=>e.under k&&obUnder k l
 | .erow _ es::l=>E.underL k es&&obUnder k l
 | _::l=>obUnder k l
def St.under (k:Nat) (σ:St):Bool:=Tm.under k σ.tm&&outUnder k σ.out&&obUnder k (σ.ob.take k)
def cutρ (k:Nat) (ρ:Nat→RI):Nat→RI:=fun i=>if i<k then ρ i else .none
mutual
theorem ERel.cut {k:Nat}:∀ {e:E} {v:Value},e.under k=true→ERel T w F ρ e v→ERel T w F (cutρ k ρ) e v
 | .int _ _,_,_,h=>h
 | .bool _,_,_,h=>h
 | .str _,_,_,h=>h
 | .data _ _,_,_,h=>h
 | .fs _ _ _,_,_,h=>h
 | .sl i e lo n c,v,hu,h=>by
   have hi:i<k:=by simpa [E.under] using hu
   unfold ERel at h ⊢
   rw [cutρ,if_pos hi];exact h
 | .nilsl,_,_,h=>h
 | .ptr i p t,v,hu,h=>by
   have hi:i<k:=by simpa [E.under] using hu
   unfold ERel at h ⊢
   rw [cutρ,if_pos hi];exact h
 | .rp i j p t,v,hu,h=>by
   have hi:i<k:=by simpa [E.under] using hu
   unfold ERel at h ⊢
   rw [cutρ,if_pos hi];exact h
 | .av i p t j,v,hu,h=>by
   have hi:i<k:=by simpa [E.under] using hu
   unfold ERel at h ⊢
   rw [cutρ,if_pos hi];exact h
 | .fptr _ _,_,_,h=>h
 | .fn _ _,_,hu,⟨cs,h1,h2⟩=>⟨cs,h1,ERelL.cut (by simpa [E.under] using hu) h2⟩
 | .nilfn,_,_,h=>h
 | .tup _,_,hu,⟨vs,h1,h2⟩=>⟨vs,h1,ERelL.cut (by simpa [E.under] using hu) h2⟩
 | .agg _ _,_,hu,⟨ts,vs,cs,h0,h1,h2,h3⟩=>⟨ts,vs,cs,h0,h1,ERelL.cut (by simpa [E.under] using hu) h2,h3⟩
 | .undef,_,_,_=>trivial
theorem ERelL.cut {k:Nat}:∀ {l:List E} {vs:List Value},E.underL k l=true→ERelL T w F ρ l vs→ERelL T w F (cutρ k ρ) l vs
 | [],[],_,h=>h
 | e::es,_::_,hu,⟨h1,h2⟩=>by
   simp only [E.underL,Bool.and_eq_true] at hu
   exact ⟨ERel.cut hu.1 h1,ERelL.cut hu.2 h2⟩
 | [],_::_,_,h=>h.elim
 | _::_,[],_,h=>h.elim
end
theorem under_lookup {k:Nat}:∀ {tm:Tm} {t:Nat} {g:Bool} {e:E},Tm.under k tm=true→tm.lookup t=some (g,e)→e.under k=true
 | [],_,_,_,_,h=>by simp at h
 | (s,g',e')::tm,t,g,e,hu,h=>by
   simp only [Tm.under,Bool.and_eq_true] at hu
   simp only [List.lookup_cons] at h
   by_cases hts:t=s
   · subst hts;simp at h;rw [← h.2];exact hu.1
   · have:(t == s)=false:=by simpa using hts
     rw [this] at h
     exact under_lookup hu.2 h
theorem TmRel.cut {k:Nat} {tm:Tm} {tmps:Array Value} (hu:Tm.under k tm=true) (h:TmRel T w F ρ tm tmps):TmRel T w F (cutρ k ρ) tm tmps:=by
 intro t g e he
 obtain ⟨v,h1,h2,h3⟩:=h t g e he
 exact ⟨v,h1,fun hg=>(h2 hg).cut (under_lookup hu he),h3⟩
theorem OutRel.cut {k:Nat}:∀ {l:List Tm} {vs:List (Array Value)},outUnder k l=true→OutRel T w F ρ l vs→OutRel T w F (cutρ k ρ) l vs
 | [],[],_,h=>h
 | _::_,_::_,hu,⟨h1,h2⟩=>by
   simp only [outUnder,Bool.and_eq_true] at hu
   exact ⟨h1.cut hu.1,OutRel.cut hu.2 h2⟩
 | [],_::_,_,h=>h.elim
 | _::_,[],_,h=>h.elim
theorem obUnder_get {k:Nat}:∀ {l:List Obj} {i:Nat} {t:TypeId} {e:E},obUnder k l=true→l[i]?=some (.var t e)→e.under k=true
 | [],_,_,_,_,h=>by simp at h
 | o::l,0,t,e,hu,h=>by
   simp at h;subst h
   simp only [obUnder,Bool.and_eq_true] at hu
   exact hu.1
 | o::l,i+1,t,e,hu,h=>by
   have hu':obUnder k l=true:=by
    cases o<;>simp only [obUnder,Bool.and_eq_true] at hu
    · exact hu.2
    · exact hu
    · exact hu.2
    · exact hu
   exact obUnder_get hu' (by simpa using h)
theorem obUnder_getL {k:Nat}:∀ {l:List Obj} {i:Nat} {t:TypeId} {e:List E},obUnder k l=true→l[i]?=some (.erow t e)→E.underL k e=true
 | [],_,_,_,_,h=>by simp at h
 | o::l,0,t,e,hu,h=>by
   simp at h;subst h
   simp only [obUnder,Bool.and_eq_true] at hu
   exact hu.1
 | o::l,i+1,t,e,hu,h=>by
   have hu':obUnder k l=true:=by
    cases o<;>simp only [obUnder,Bool.and_eq_true] at hu
    · exact hu.2
    · exact hu
    · exact hu.2
    · exact hu
   exact obUnder_getL hu' (by simpa using h)
theorem St.le.cut (k:Nat) (hu:σ.under k=true):St.le T σ { σ with ob:=σ.ob.take k }:=by
 intro w F ρ w0 tmps outs h
 simp only [St.under,Bool.and_eq_true] at hu
 obtain ⟨⟨u1,u2⟩,u3⟩:=hu
 refine ⟨F,cutρ k ρ,h.tm.cut u1,h.out.cut u2,?_,?_,?_,h.fsub,h.below,h.size,h.fold⟩
 · intro i o hi
   have hik:i<k:=by
    have:=(List.getElem?_eq_some_iff.1 hi).1
    simp at this;omega
   have ho:σ.ob[i]?=some o:=by
    simp only [List.getElem?_take,if_pos hik] at hi
    exact hi
   have h1:=h.ob i o ho
   have hc:cutρ k ρ i=ρ i:=by simp [cutρ,hik]
   rw [hc]
   cases o with
   | dead=>cases hρ:ρ i<;>rw [hρ] at h1<;>exact h1
   | row e l=>exact h1.row_mono (fun _ _=>rfl) (fun _ _=>rfl)
   | erow e l =>
     cases hρ:ρ i with
     | none=>rw [hρ] at h1;exact h1.elim
     | var _ _=>rw [hρ] at h1;exact h1.elim
     | row e' r =>
       rw [hρ] at h1
       obtain ⟨q1,q2,q0,xs,q3,q4,q5⟩:=h1
       exact ⟨q1,q2,q0,xs,q3,q4.cut (obUnder_getL u3 hi),q5⟩
   | var t e =>
     cases hρ:ρ i with
     | none=>rw [hρ] at h1;exact h1.elim
     | row _ _=>rw [hρ] at h1;exact h1.elim
     | var b t' =>
       rw [hρ] at h1
       obtain ⟨q1,q2,q3,cs,ct,v,q4,q5,q6⟩:=h1
       exact ⟨q1,q2,q3,cs,ct,v,q4,q5.cut (obUnder_get u3 hi),q6⟩
 · intro i hi
   unfold cutρ
   split
   · rename_i hik
     exact h.free i (by simp only [List.getElem?_take,if_pos hik] at hi;exact hi)
   · rfl
 · intro i j b hi hj
   unfold cutρ at hi hj
   split at hi<;>split at hj
   · exact h.inj i j b hi hj
   · simp [RI.block] at hj
   · simp [RI.block] at hi
   · simp [RI.block] at hi
theorem St.le.own {t:Nat} (e:TypeId) (hl:σ.tm.lookup t=some (true,.nilsl)):St.le T σ { σ with tm:=(t,true,.sl σ.ob.length e 0 0 false)::σ.tm,ob:=σ.ob++[.row e []] }:=by
 intro w F ρ w0 tmps outs h
 have hadd:=h.add (r:=.row e (.slice none 0 0)) (o:=.row e []) (fun b hb=>by simp [RI.block,Value.ownBlock] at hb) ⟨rfl,fun b hb=>by simp [Value.ownBlock] at hb,[],World.ownsRow_nil _ _ _ _,.nil⟩
 refine ⟨F,_,?_,hadd.out,hadd.ob,hadd.free,hadd.inj,hadd.fsub,hadd.below,hadd.size,hadd.fold⟩
 intro s g e' he
 simp only [List.lookup_cons] at he
 by_cases hst:s=t
 · subst hst
   simp at he
   obtain ⟨rfl,rfl⟩:=he
   obtain ⟨v,h1,h2,_⟩:=h.tm _ _ _ hl
   have hv:v=.slice none 0 0:=h2 rfl
   refine ⟨v,h1,fun _=>?_,by simp⟩
   unfold ERel
   rw [upd_self]
   exact .inl ⟨rfl,hv,rfl,rfl⟩
 · have:(s == t)=false:=by simpa using hst
   rw [this] at he
   exact hadd.tm s g e' he
theorem St.le.of_eq (h:σ=σ'):St.le T σ σ':=h▸St.le.refl
theorem wrap64_ok {n:Int} (h1 : -9223372036854775808≤n) (h2:n≤9223372036854775807):IntKind.i64.wrap n=n:=by
 unfold IntKind.wrap
 simp [IntKind.signed,IntKind.bits]
 omega
theorem wrap_succ {n m:Nat} (h:n<m) (hm:m≤maxLen):IntKind.i64.wrap ((n:Int)+1)=((n+1:Nat):Int):=by
 unfold maxLen at hm
 rw [wrap64_ok (by omega) (by omega)]
 omega
theorem CallStep.mk {g:Bool} {f:FuncId} {args:List Operand} {d:Option Tmp} {K:St→Prop} {es:List E} (hes:∀ K:List E→Prop,K es→evalL σ g args K)
 (h:(∃ e,(g=true→CallQ P T σ f es e)∧putK σ d g K e)∨((g=true→CallE P T σ f es (putE d K))∧(g=false→putK σ d false K .undef))):CallStep P T σ g (.func f) args d K:=by
 unfold CallStep
 exact hes _ ⟨f,[],rfl,by rw [List.append_nil];exact h⟩
end Go.Eng
namespace Go.Eng
open Go.RowKit
variable {P:Program} {T:Tab} {w w':World} {w0:Base T} {F F':Nat→Prop} {ρ ρ':Nat→RI} {σ σ':St} {a:Act} {outs:List (Array Value)}
mutual
def E.frz (i:Nat) (v:V) (l:List V):E→E
 | .sl j e lo len c=>if Nat.beq j i then .fs e ((l.drop lo).take len) c else .sl j e lo len c
 | .ptr j p t=>if Nat.beq j i then .fptr t (v.get p) else .ptr j p t
 | .rp j k p t=>if Nat.beq j i then .undef else .rp j k p t
 | .av j p t k=>if Nat.beq j i then .undef else .av j p t k
 | .fn f caps=>.fn f (E.frzL i v l caps)
 | .tup m=>.tup (E.frzL i v l m)
 | .agg t m=>.agg t (E.frzL i v l m)
 | e=>e
def E.frzL (i:Nat) (v:V) (l:List V):List E→List E
 | []=>[]
 | e::es=>e.frz i v l::E.frzL i v l es
end
def Obj.frz (i:Nat) (v:V) (l:List V):Obj→Obj
 | .var t e=>.var t (e.frz i v l)
 | .erow t es=>.erow t (E.frzL i v l es)
 | o=>o
def Tm.frz (i:Nat) (v:V) (l:List V) (tm:Tm):Tm:=tm.map fun x=>(x.1,x.2.1,x.2.2.frz i v l)
def St.frz (i:Nat) (v:V) (l:List V) (σ:St):St:={ σ with tm:=Tm.frz i v l σ.tm,ob:=(σ.ob.map (Obj.frz i v l)).set i .dead,out:=σ.out.map (Tm.frz i v l) }
def Frozen (T:Tab) (w:World) (F:Nat→Prop) (v:V) (l:List V):RI→Prop
 | .none=>True
 | .var b t=>F b∧∃ cs,Seg w b 0 cs∧Fits T w F t v cs
 | .row e r=>∀ b n cap,r=.slice (some ⟨b,0,none⟩) n cap→F b∧n=l.length∧∃ cs,Seg w b 0 cs∧FitsL T w F (List.replicate l.length e) l cs
mutual
theorem ERel.frozen (hS:T.Sized) {i:Nat} {v:V} {l:List V} (hF:∀ b,F b→F' b) (hz:Frozen T w F' v l (ρ i)):∀ {e:E} {x:Value},ERel T w F ρ e x→ERel T w F' (upd ρ i .none) (e.frz i v l) x
 | .int _ _,_,h=>h
 | .bool _,_,h=>h
 | .str _,_,h=>h
 | .data _ _,_,⟨cs,h1,h2,h3⟩=>⟨cs,h1,h2,h3.mono hF (fun _ _=>rfl)⟩
 | .fs _ _ _,_,h=>FRow.mono hF (fun _ _=>rfl) h
 | .sl j e lo len c,x,h=>by
   unfold E.frz
   split
   · rename_i hj
     have hj:j=i:=Nat.eq_of_beq_eq_true hj
     subst hj
     rcases h with ⟨h1,rfl,rfl,rfl⟩|⟨b,n,cap,off,h1,h2,h3,rfl,h5,h6⟩
     · exact .inl ⟨none,0,rfl,by simp,fun _=>rfl,fun _=>rfl⟩
     · rw [h1] at hz
       obtain ⟨z1,z2,cs,z3,z4⟩:=hz b n cap rfl
       have hl:((l.drop lo).take len).length=len:=by simp;omega
       refine .inr ⟨b,off,(if c then len else cap-lo),(cs.drop (lo*T.sz e)).take (len*T.sz e),by rw [hl],by rw [hl];split<;>omega,fun hc=>by rw [hl,if_pos hc],z1,?_,?_⟩
       · rcases h6 with h6|h6
         · subst h6
           intro j y hy
           simp at hy
         · have:=z3.sub (lo*T.sz e) (len*T.sz e)
           rw [Nat.zero_add] at this
           rw [h6]
           exact this
       · rw [hl]
         exact z4.slice hS (by omega)
   · rename_i hj
     have hj:j≠i:=fun e=>hj (by simp [e])
     unfold ERel at h ⊢
     rw [upd_ne ρ _ hj];exact h
 | .nilsl,_,h=>h
 | .ptr j p t,x,h=>by
   unfold E.frz
   split
   · rename_i hj
     have hj:j=i:=Nat.eq_of_beq_eq_true hj
     subst hj
     obtain ⟨b,root,off,h1,h2,rfl⟩:=h
     rw [h1] at hz
     obtain ⟨z1,cs,z2,z3⟩:=hz
     obtain ⟨g1,g2⟩:=h2.get hS z3
     refine ⟨b,off,_,rfl,z1,?_,g1⟩
     have:=z2.sub off (T.sz t)
     rwa [Nat.zero_add] at this
   · rename_i hj
     have hj:j≠i:=fun e=>hj (by simp [e])
     unfold ERel at h ⊢
     rw [upd_ne ρ _ hj];exact h
 | .rp j k p t,x,h=>by
   unfold E.frz
   split
   · trivial
   · rename_i hj
     have hj:j≠i:=fun e=>hj (by simp [e])
     unfold ERel at h ⊢
     rw [upd_ne ρ _ hj];exact h
 | .av j p t k,x,h=>by
   unfold E.frz
   split
   · trivial
   · rename_i hj
     have hj:j≠i:=fun e=>hj (by simp [e])
     unfold ERel at h ⊢
     rw [upd_ne ρ _ hj];exact h
 | .fptr _ _,_,⟨b,off,cs,h1,h2,h3,h4⟩=>⟨b,off,cs,h1,hF _ h2,h3,h4.mono hF (fun _ _=>rfl)⟩
 | .fn _ _,_,⟨cs,h1,h2⟩=>⟨cs,h1,ERelL.frozen hS hF hz h2⟩
 | .nilfn,_,h=>h
 | .tup _,_,⟨vs,h1,h2⟩=>⟨vs,h1,ERelL.frozen hS hF hz h2⟩
 | .agg _ _,_,⟨ts,vs,cs,h0,h1,h2,h3⟩=>⟨ts,vs,cs,h0,h1,ERelL.frozen hS hF hz h2,h3⟩
 | .undef,_,_=>trivial
theorem ERelL.frozen (hS:T.Sized) {i:Nat} {v:V} {l:List V} (hF:∀ b,F b→F' b) (hz:Frozen T w F' v l (ρ i)):∀ {m:List E} {xs:List Value},ERelL T w F ρ m xs→ERelL T w F' (upd ρ i .none) (E.frzL i v l m) xs
 | [],[],h=>h
 | _::_,_::_,⟨h1,h2⟩=>⟨ERel.frozen hS hF hz h1,ERelL.frozen hS hF hz h2⟩
 | [],_::_,h=>h.elim
 | _::_,[],h=>h.elim
end
theorem frz_data {i:Nat} {v:V} {l:List V} {e:E} {t:TypeId} {x:V} (h:e.frz i v l=.data t x):e=.data t x:=by
 cases e<;>simp [E.frz] at h ⊢<;>first|exact h|(split at h<;>cases h)
theorem TmRel.frozen (hS:T.Sized) {i:Nat} {v:V} {l:List V} (hF:∀ b,F b→F' b) (hz:Frozen T w F' v l (ρ i)) {tm:Tm} {tmps:Array Value} (h:TmRel T w F ρ tm tmps):TmRel T w F' (upd ρ i .none) (Tm.frz i v l tm) tmps:=by
 intro t g e he
 unfold Tm.frz at he
 rw [lookup_map (E.frz i v l)] at he
 cases hl:tm.lookup t with
 | none=>rw [hl] at he;cases he
 | some x =>
   obtain ⟨g',e'⟩:=x
   rw [hl] at he
   simp at he
   obtain ⟨rfl,rfl⟩:=he
   obtain ⟨v,h1,h2,h3⟩:=h t _ _ hl
   exact ⟨v,h1,fun hg=>(h2 hg).frozen hS hF hz,h3⟩
theorem OutRel.frozen (hS:T.Sized) {i:Nat} {v:V} {l:List V} (hF:∀ b,F b→F' b) (hz:Frozen T w F' v l (ρ i)):∀ {m:List Tm} {vs:List (Array Value)},OutRel T w F ρ m vs→OutRel T w F' (upd ρ i .none) (m.map (Tm.frz i v l)) vs
 | [],[],h=>h
 | _::_,_::_,⟨h1,h2⟩=>⟨h1.frozen hS hF hz,OutRel.frozen hS hF hz h2⟩
 | [],_::_,h=>h.elim
 | _::_,[],h=>h.elim
theorem frzL_length (i:Nat) (v:V) (l:List V):∀ m:List E,(E.frzL i v l m).length=m.length
 | []=>rfl
 | _::m=>by simp [E.frzL,frzL_length i v l m]
theorem St.le.frz_aux (hS:T.Sized) {i:Nat} {v:V} {l:List V} (hi:i<σ.ob.length) (hz:∀ w F ρ w0 tmps outs,Rel T w F ρ w0 σ tmps outs→Frozen T w (fun b=>F b∨(ρ i).block=some b) v l (ρ i)):St.le T σ (σ.frz i v l):=by
 intro w F ρ w0 tmps outs h
 have hz:=hz w F ρ w0 tmps outs h
 have hF:∀ b,F b→F b∨(ρ i).block=some b:=fun _ h=>.inl h
 refine ⟨fun b=>F b∨(ρ i).block=some b,upd ρ i .none,h.tm.frozen hS hF hz,h.out.frozen hS hF hz,?_,?_,?_,?_,h.below,h.size,fun b hb=>hb.elim (h.fold b) fun hb=>.inl (h.own hb).2.2⟩
 · intro j o' hj
   by_cases hji:j=i
   · subst hji
     simp [St.frz,hi] at hj
     subst hj
     rw [upd_self]
     rfl
   · simp only [St.frz,List.getElem?_set_ne (Ne.symm hji),List.getElem?_map] at hj
     cases hoj:σ.ob[j]? with
     | none=>rw [hoj] at hj;cases hj
     | some oj =>
       rw [hoj] at hj
       simp at hj
       subst hj
       rw [upd_ne ρ _ hji]
       have h1:=h.ob j oj hoj
       have hn:∀ b,(ρ j).block=some b→¬ (F b∨(ρ i).block=some b):=fun b hb hc=>hc.elim (h.own hb).2.1 (fun hc=>hji (h.inj j i b hb hc))
       cases oj with
       | dead=>cases hρ:ρ j<;>rw [hρ] at h1<;>exact h1
       | row e m =>
         cases hρ:ρ j with
         | none=>rw [hρ] at h1;exact h1.elim
         | var _ _=>rw [hρ] at h1;exact h1.elim
         | row e' r =>
           rw [hρ] at h1 hn
           obtain ⟨q1,q2,xs,q3,q4⟩:=h1
           exact ⟨q1,fun b hb=>hn b hb,xs,q3,q4.mono hF (fun _ _=>rfl)⟩
       | erow e m =>
         cases hρ:ρ j with
         | none=>rw [hρ] at h1;exact h1.elim
         | var _ _=>rw [hρ] at h1;exact h1.elim
         | row e' r =>
           rw [hρ] at h1 hn
           obtain ⟨q1,q2,q0,xs,q3,q4,q5⟩:=h1
           exact ⟨q1,fun b hb=>hn b hb,q0,xs,by rw [frzL_length];exact q3,q4.frozen hS hF hz,q5⟩
       | var t e =>
         cases hρ:ρ j with
         | none=>rw [hρ] at h1;exact h1.elim
         | row _ _=>rw [hρ] at h1;exact h1.elim
         | var b t' =>
           rw [hρ] at h1 hn
           obtain ⟨⟨q1,q2,q3⟩,q4,q5,cs,ct,x,q6,q7,q8⟩:=h1
           exact ⟨⟨q1,q2,fun u x hx=>q3 u x (frz_data hx)⟩,q4,hn b rfl,cs,ct,x,q6,q7.frozen hS hF hz,q8⟩
 · intro j hj
   simp [St.frz] at hj
   rw [upd_ne ρ _ (by omega)]
   exact h.free j (by simp;omega)
 · intro p q b hp hq
   unfold upd at hp hq
   split at hp<;>split at hq
   · omega
   · simp [RI.block] at hp
   · simp [RI.block] at hq
   · exact h.inj p q b hp hq
 · rintro b (hb|hb)
   · exact h.fsub b hb
   · exact (h.own hb).1
theorem St.le.frz (hS:T.Sized) (i:Nat) {t:TypeId} {v:V} (ho:σ.ob[i]?=some (.var t (.data t v))):St.le T σ (σ.frz i v []):=by
 refine St.le.frz_aux hS (List.getElem?_eq_some_iff.1 ho).1 ?_
 intro w F ρ w0 tmps outs h
 have h1:=h.ob i _ ho
 cases hρ:ρ i with
 | none=>rw [hρ] at h1;exact h1.elim
 | row _ _=>rw [hρ] at h1;exact h1.elim
 | var b t' =>
   rw [hρ] at h1
   obtain ⟨⟨rfl,q2,q3⟩,q4,q5,cs,ct,x,q6,⟨cs',rfl,hA,hf⟩,q8,_⟩:=h1
   have hcs:cs'=cs:=by have:=q8.2;rw [if_pos hA] at this;simpa using this
   subst hcs
   exact ⟨.inr rfl,cs'.toList,seg_all q6,hf.mono (fun _ x=>.inl x) (fun _ _=>rfl)⟩
theorem St.le.frzRow (hS:T.Sized) (i:Nat) {e:TypeId} {l:List V} (ho:σ.ob[i]?=some (.row e l)):St.le T σ (σ.frz i default l):=by
 refine St.le.frz_aux hS (List.getElem?_eq_some_iff.1 ho).1 ?_
 intro w F ρ w0 tmps outs h
 have h1:=h.ob i _ ho
 cases hρ:ρ i with
 | none=>rw [hρ] at h1;exact h1.elim
 | var _ _=>rw [hρ] at h1;exact h1.elim
 | row e' r =>
   rw [hρ] at h1
   obtain ⟨rfl,q2,xs,q3,q4⟩:=h1
   intro b n cap hr
   subst hr
   refine ⟨.inr rfl,?_⟩
   rcases q3.2 with ⟨q,_⟩|⟨b',cap',cur,hr,hb,hh,hn',hc',hs',htk⟩
   · cases q
   · cases hr
     refine ⟨rfl,xs,?_,q4.mono (fun _ x=>.inl x) (fun _ _=>rfl)⟩
     have:=seg_of_cells (w:=w) hh 0 (l.length*T.sz e')
     rwa [List.drop_zero,htk] at this
theorem i64min:IntKind.i64.min = -9223372036854775808:=rfl
theorem i64max:IntKind.i64.max=9223372036854775807:=rfl
theorem u64min:IntKind.u64.min=0:=rfl
theorem u64max:IntKind.u64.max=18446744073709551615:=rfl
theorem u32min:IntKind.u32.min=0:=rfl
theorem u32max:IntKind.u32.max=4294967295:=rfl
theorem u8min:IntKind.u8.min=0:=rfl
theorem u8max:IntKind.u8.max=255:=rfl
end Go.Eng
namespace Go.Eng
open Go.RowKit
variable {P:Program} {T:Tab} {w w':World} {w0:Base T} {F F':Nat→Prop} {ρ ρ':Nat→RI} {σ σ':St} {a:Act} {outs:List (Array Value)}
variable {ops:Array Oper} {Q:Exit→Act→World→Prop} {md:Region.Mode} {keeps:Nat→Bool}
def YieldsB (P:Program) (ops:Array Oper) (w:World) (o:Oper) (v:Value) (a:Act):Prop :=
 (Region.wanted o (yielded ops a.tmps)=true∧∀ w',Below w.heap.size w w'→(execOp a.eval o).run P w'=.ok (.value v) w') ∨
 (Region.wanted o (yielded ops a.tmps)=false∧v=undef)
theorem YieldsB.later {o:Oper} {v:Value} (h:YieldsB P ops w o v a) (hb:Below w.heap.size w w'):YieldsB P ops w' o v a :=
 h.imp (fun ⟨h1,h2⟩=>⟨h1,fun w'' hw=>h2 w'' (hb.trans (hw.mono hb.size))⟩) id
theorem YieldsB.wpOp {i:Nat} {o:Oper} {v:Value} (hi:ops[i]?=some o) (hy:YieldsB P ops w o v a) {K:Act→World→Prop} (h:K (a.put o.dst v) w):wpOp P ops Q i K a w:=by
 unfold Go.wpOp
 simp only [hi]
 rcases hy with ⟨hw,hv⟩|⟨hw,rfl⟩
 · simp only [hw,if_true,Oper.wp,hv w (Below.refl _ _),Oper.upon];exact .inl h
 · simp only [hw,Bool.false_eq_true,if_false];exact h
theorem YieldsB.of_same {o:Oper} {v:Value} {a a':Act} (hy:YieldsB P ops w o v a) (he:execOp a'.eval o=execOp a.eval o)
 (hw:Region.wanted o (yielded ops a'.tmps)=Region.wanted o (yielded ops a.tmps)):YieldsB P ops w o v a':=by
 unfold YieldsB at *
 rw [he,hw]
 exact hy
theorem wpOp_putB {w1:World} {j:Nat} {oi oj:Oper} {v:Value} (hj:ops[j]?=some oj) (hap:oi.apart ops oj=true)
 (hsi:∀ cs b,oi.op≠.select cs b) (hsj:∀ cs b,oj.op≠.select cs b)
 (hQ:∀ c a w,Q (.panic c) (a.put oi.dst v) w→Q (.panic c) a w) {K:Act→World→Prop} {a:Act} {w:World}
 (hy:YieldsB P ops w1 oi v a) (h:wpOp P ops Q j K (a.put oi.dst v) w) :
 wpOp P ops Q j (fun a' w'=>YieldsB P ops w1 oi v a'∧K (a'.put oi.dst v) w') a w:=by
 obtain ⟨h1,h2,h3⟩:=Oper.apart_spec hap
 have keep:∀ (a:Act),YieldsB P ops w1 oi v a→∀ u,YieldsB P ops w1 oi v (a.put oj.dst u):=fun a hy u =>
  hy.of_same (execOp_put oi hsi a oj.dst u h3) (wanted_put oi a oj.dst u h3)
 have keepD:∀ d,YieldsB P ops w1 oi v { a with defers:=d::a.defers }:=fun d=>hy.of_same rfl rfl
 unfold wpOp at *
 simp only [hj] at *
 rw [wanted_put oj a oi.dst v h1] at h
 split
 · rename_i hw
   simp only [hw,if_true] at h
   rcases h with h|⟨hasks,hlets⟩
   case inr=>exact .inr ⟨by unfold Oper.asks at *;rw [execOp_put oj hsj a oi.dst v h1] at hasks;exact hasks,hlets⟩
   refine .inl ?_
   unfold Oper.wp at *
   rw [execOp_put oj hsj a oi.dst v h1] at h
   generalize (execOp a.eval oj).run P w=r at *
   cases r with
   | ok n w' =>
     cases n<;>simp only [Oper.upon] at h ⊢
     case value u=>exact ⟨keep a hy u,by rw [← Act.put_comm a v u h2];exact h⟩
     case skip=>exact ⟨keep a hy _,by rw [← Act.put_comm a v undef h2];exact h⟩
     case defer d =>
      refine ⟨keep _ (keepD d) _,?_⟩
      rw [← Act.put_comm _ v undef h2,← Act.put_defers]
      exact h
     case enter f args =>
      refine Calls.mono h fun e w'' he=>?_
      cases e with
      | returned u=>exact ⟨keep a hy u,by rw [← Act.put_comm a v u h2];exact he⟩
      | panicked c=>exact hQ _ _ _ he
      | outgrown=>exact he
     case row row args=>exact Rows.mono h fun u w'' he=>⟨keep a hy u,by rw [← Act.put_comm a v u h2];exact he⟩
   | halt x w' =>
     cases x<;>simp only [Oper.upon] at h ⊢
     case panic u=>exact hQ _ _ _ h
 · rename_i hw
   simp only [hw] at h
   exact ⟨keep a hy _,by rw [← Act.put_comm a v undef h2];exact h⟩
def wpAnyB (P:Program) (md:Region.Mode) (ops:Array Oper) (Q:Exit→Act→World→Prop) (keeps:Nat→Bool):Nat→Array Bool→Act→World→Prop
 | 0,listed,a,w=>Region.ready md ops listed=[]∧Q .normal a w
 | fuel+1,listed,a,w =>
   (Region.ready md ops listed=[]→Q .normal a w) ∧
   ∀ i∈Region.ready md ops listed,wpOp P ops Q i (fun a' w'=>(keeps i=true→Below w.heap.size w w')∧wpAnyB P md ops Q keeps fuel (listed.setIfInBounds i true) a' w') a w
theorem wpAny_of_B:∀ (fuel:Nat) (listed:Array Bool) (a:Act) (w:World),wpAnyB P md ops Q keeps fuel listed a w→wpAny P md ops Q fuel listed a w
 | 0,_,_,_,h=>h
 | fuel+1,_,_,_,h=>⟨h.1,fun i hi=>wpOp_mono (fun a' w' h'=>wpAny_of_B fuel _ a' w' h'.2) (h.2 i hi)⟩
def waits (md:Region.Mode) (ops:Array Oper) (i:Nat):Nat→Nat→Bool
 | 0,_=>false
 | fuel+1,j=>match ops[j]? with
   | none=>false
   | some o=>o.after.any fun e=>Region.binds md e&&(e.on == i||waits md ops i fuel e.on)
def Closed (md:Region.Mode) (ops:Array Oper) (listed:Array Bool):Prop:=∀ j o,ops[j]?=some o→listed.getD j true=true→∀ e∈o.after,Region.binds md e=true→listed.getD e.on false=true
theorem waits_unlisted {listed:Array Bool} (hs:listed.size=ops.size) (hc:Closed md ops listed) {i:Nat} (hi:listed.getD i false=false):∀ {fuel j:Nat},waits md ops i fuel j=true→∃ o,ops[j]?=some o∧∃ e∈o.after,Region.binds md e=true∧listed.getD e.on false=false
 | 0,_,h=>by simp [waits] at h
 | fuel+1,j,h=>by
   unfold waits at h
   split at h
   · cases h
   · rename_i o ho
     rw [Array.any_eq_true'] at h
     obtain ⟨e,he,h2⟩:=h
     simp only [Bool.and_eq_true,Bool.or_eq_true,beq_iff_eq] at h2
     refine ⟨o,ho,e,he,h2.1,?_⟩
     rcases h2.2 with h3|h3
     · rw [h3];exact hi
     · obtain ⟨o',ho',e',he',hb',hl'⟩:=waits_unlisted hs hc hi h3
       have hlt:=(Array.getElem?_eq_some_iff.1 ho').1
       cases hl:listed.getD e.on false with
       | false=>rfl
       | true =>
         have:=hc e.on o' ho' (by simpa [Array.getD,show e.on<listed.size by omega] using hl) e' he' hb'
         rw [this] at hl';cases hl'
theorem Closed.set {listed:Array Bool} (hs:listed.size=ops.size) (hc:Closed md ops listed) {j:Nat} (hr:j∈Region.ready md ops listed):Closed md ops (listed.setIfInBounds j true):=by
 have grow:∀ k,listed.getD k false=true→(listed.setIfInBounds j true).getD k false=true:=by
  intro k hk
  by_cases hjk:j=k
  · subst hjk
    have:j<listed.size:=by
     apply Classical.byContradiction
     intro h
     simp [Array.getD,show ¬ j<listed.size from h] at hk
    simp [Array.getD,this]
  · rw [getD_set_ne false hjk];exact hk
 intro k o ho hk e he hb
 obtain ⟨_,oj,hoj,hall⟩:=mem_ready.1 hr
 by_cases hjk:j=k
 · subst hjk
   rw [hoj] at ho
   cases ho
   exact grow _ (hall e he hb)
 · rw [getD_set_ne true hjk] at hk
   exact grow _ (hc k o ho hk e he hb)
theorem wpAnyB_first {i:Nat} {oi:Oper} {v:Value} (hi:ops[i]?=some oi) (hsel:∀ (j:Nat) (o:Oper) cs b,ops[j]?=some o→o.op≠.select cs b)
 (hQ:∀ c a w,Q (.panic c) (a.put oi.dst v) w→Q (.panic c) a w) :
 ∀ (fuel:Nat) (listed:Array Bool) (a:Act) (w:World),listed.size=ops.size→Closed md ops listed →
   (∀ j oj,ops[j]?=some oj→j≠i→listed.getD j true=false→waits md ops i ops.size j=false→oi.apart ops oj=true∧keeps j=true) →
   i∈Region.ready md ops listed→YieldsB P ops w oi v a →
   wpAnyB P md ops Q keeps fuel (listed.setIfInBounds i true) (a.put oi.dst v) w→wpAnyB P md ops Q keeps (fuel+1) listed a w:=by
 intro fuel
 induction fuel with
 | zero =>
   intro listed a w _ _ _ hr hy H
   refine ⟨fun h=>(by rw [h] at hr;cases hr),fun j hj=>?_⟩
   by_cases hji:j=i
   · subst hji;exact hy.wpOp hi ⟨fun _=>Below.refl _ _,H⟩
   · have:=ready_mono hj hji
     rw [H.1] at this
     cases this
 | succ fuel ih =>
   intro listed a w hsz hcl hfree hr hy H
   refine ⟨fun h=>(by rw [h] at hr;cases hr),fun j hj=>?_⟩
   by_cases hji:j=i
   · subst hji;exact hy.wpOp hi ⟨fun _=>Below.refl _ _,H⟩
   · have h1:=H.2 j (ready_mono hj hji)
     obtain ⟨hjun,oj,hoj,hall⟩:=mem_ready.1 hj
     have hiun:listed.getD i false=false:=by
      have h0:=(mem_ready.1 hr).1
      have hlt:=(Array.getElem?_eq_some_iff.1 hi).1
      simpa [Array.getD,show i<listed.size by omega] using h0
     have hnot:waits md ops i ops.size j=false:=by
      cases hw:waits md ops i ops.size j with
      | false=>rfl
      | true =>
        obtain ⟨o,ho,e,he,hb,hl⟩:=waits_unlisted hsz hcl hiun hw
        rw [hoj] at ho
        cases ho
        rw [hall e he hb] at hl
        cases hl
     obtain ⟨hap,hkp⟩:=hfree j oj hoj hji hjun hnot
     have h2:=wpOp_putB hoj hap (fun cs b=>hsel i oi cs b hi) (fun cs b=>hsel j oj cs b hoj) hQ hy h1
     have hfree':∀ k ok,ops[k]?=some ok→k≠i→(listed.setIfInBounds j true).getD k true=false →
      waits md ops i ops.size k=false→oi.apart ops ok=true∧keeps k=true:=fun k ok hk hki hun hno=>by
      refine hfree k ok hk hki ?_ hno
      by_cases hjk:j=k
      · subst hjk;exact hjun
      · rw [getD_set_ne true hjk] at hun;exact hun
     refine wpOp_mono (fun a' w' h3=>⟨h3.2.1,ih (listed.setIfInBounds j true) a' w' (by simpa using hsz) (hcl.set hsz hj) hfree' (ready_mono hr (Ne.symm hji)) (h3.1.later (h3.2.1 hkp)) ?_⟩) h2
     rw [Array.setIfInBounds_comm _ _ hji]
     exact h3.2.2
def freeB (ops:Array Oper) (keeps:Nat→Bool) (listed:Array Bool) (i:Nat):Bool :=
 listed.size == ops.size&&((List.range ops.size).all fun j=>!listed.getD j true||match ops[j]? with
  | none=>true
  | some o=>o.after.all fun e=>!Region.binds .any e||listed.getD e.on false) &&
 match ops[i]? with
 | none=>false
 | some oi=>(List.range ops.size).all fun j=>j == i||listed.getD j true||match ops[j]? with
   | none=>true
   | some oj=>waits .any ops i ops.size j||(oi.apart ops oj&&keeps j)
theorem freeB_spec {listed:Array Bool} {i:Nat} {oi:Oper} (hi:ops[i]?=some oi) (h:freeB ops keeps listed i=true):listed.size=ops.size∧Closed .any ops listed ∧
 ∀ j oj,ops[j]?=some oj→j≠i→listed.getD j true=false→waits .any ops i ops.size j=false→oi.apart ops oj=true∧keeps j=true:=by
 unfold freeB at h
 simp only [hi,Bool.and_eq_true,beq_iff_eq] at h
 obtain ⟨⟨h0,h1⟩,h⟩:=h
 refine ⟨h0,?_,?_⟩
 · intro j o ho hl e he hb
   have:=List.all_eq_true.1 h1 j (List.mem_range.2 (Array.getElem?_eq_some_iff.1 ho).1)
   rw [ho] at this
   simp only [hl,Bool.not_true,Bool.false_or] at this
   have:=Array.all_eq_true_iff_forall_mem.1 this e he
   simpa [hb] using this
 · intro j oj hj hji hun hno
   have:=List.all_eq_true.1 h j (List.mem_range.2 (Array.getElem?_eq_some_iff.1 hj).1)
   rw [hj] at this
   simp only [hun,hno,Bool.or_false,Bool.false_or,Bool.or_eq_true,beq_iff_eq,hji,false_or,Bool.and_eq_true] at this
   exact this
def AnyA (P:Program) (T:Tab) (ops:Array Oper) (keeps:Nat→Bool) (K:St→Prop) (fuel:Nat) (listed:Array Bool) (σ:St):Prop :=
 ∀ (w0:Base T) (w:World) (F:Nat→Prop) (ρ:Nat→RI) (a:Act) (outs:List (Array Value)),a.defers=[]→Rel T w F ρ w0 σ a.tmps outs →
   wpAnyB P .any ops (fun ex a' w'=>ex=.normal∧After T w0 outs K a' w') keeps fuel listed a w
theorem AnyA.done {K:St→Prop} {fuel:Nat} {listed:Array Bool} (hr:Region.ready .any ops listed=[]) (h:K σ):AnyA P T ops keeps K fuel listed σ:=by
 intro w0 w F ρ a outs hd hR
 cases fuel with
 | zero=>exact ⟨hr,rfl,σ,F,ρ,h,hd,hR⟩
 | succ fuel=>exact ⟨fun _=>⟨rfl,σ,F,ρ,h,hd,hR⟩,by rw [hr];simp⟩
theorem AnyA.take {K:St→Prop} {fuel:Nat} {listed:Array Bool} (hP:TabOk P T) (i:Nat) (so:SOp) (hso:(ops[i]?).map (strip ops)=some so) (hg:guardsOk ops=true) (hs:Region.noSelect ops=true) (hf:freeB ops keeps listed i=true) (hr:(Region.ready .any ops listed).contains i=true) (l':Array Bool) (hl':listed.setIfInBounds i true=l')
 (h:∀ R:St→Prop,(∀ σ',AnyA P T ops keeps K fuel l' σ'→R σ')→guardA so σ fun g=>pureA T σ g so.op (putK σ so.dst g R)):AnyA P T ops keeps K (fuel+1) listed σ:=by
 intro w0 w F ρ a outs hd hR
 subst hl'
 obtain ⟨o,hi,rfl⟩:=Option.map_eq_some_iff.1 hso
 have h:=h _ fun _ x=>x
 have hgo:=List.all_eq_true.1 hg o (by have:=Array.mem_of_getElem? hi;simpa using this)
 obtain ⟨g,h,hw⟩:=guardA_sound hR hgo h
 obtain ⟨e,h1,h2⟩:=pureA_sound hP hR h
 have hop:(strip ops o).op=o.op:=rfl
 have hdst:(strip ops o).dst=o.dst:=rfl
 rw [hop] at h2
 rw [hdst] at h1
 cases g with
 | true =>
   obtain ⟨v,hv,hrun⟩:=h2 rfl
   obtain ⟨σ',hK,hR',hd'⟩:=put_sound hR h1 (fun _=>hv) (by simp)
   exact wpAnyB_first hi (Region.noSelect_spec hs) (fun _ _ _ h=>by cases h.1) fuel listed a w (freeB_spec hi hf).1 (freeB_spec hi hf).2.1 (freeB_spec hi hf).2.2 (by simpa using hr) (.inl ⟨hw,fun w' hb=>hrun w' hb o rfl⟩) (hK w0 w F ρ _ outs (hd'.trans hd) hR')
 | false =>
   obtain ⟨σ',hK,hR',hd'⟩:=put_sound (v:=undef) hR h1 (by simp) (fun _=>rfl)
   exact wpAnyB_first hi (Region.noSelect_spec hs) (fun _ _ _ h=>by cases h.1) fuel listed a w (freeB_spec hi hf).1 (freeB_spec hi hf).2.1 (freeB_spec hi hf).2.2 (by simpa using hr) (.inr ⟨hw,rfl⟩) (hK w0 w F ρ _ outs (hd'.trans hd) hR')
def CallB (P:Program) (T:Tab) (σ:St) (f:FuncId) (es:List E) (K:St→E→Prop):Prop :=
 Enters P f∧∀ (w0:Base T) (w:World) (F:Nat→Prop) (ρ:Nat→RI) (tmps:Array Value) (outs:List (Array Value)) (xs:List Value),Rel T w F ρ w0 σ tmps outs→ERelL T w F ρ es xs →
  Calls P f xs.toArray w fun en w'=>∃ v σ' e F' ρ',en=.returned v∧Below w.heap.size w w'∧K σ' e∧ERel T w' F' ρ' e v∧Rel T w' F' ρ' w0 σ' tmps outs
theorem CallB.ctr (hP:TabOk P T) {f:FuncId} {pts rts:List TypeId} {vs rs:List V} {es:List E} {K:St→E→Prop} (hc:Ctr P T f pts rts vs rs) (hv:argsV T σ pts es=some vs)
 (hK:K { σ with ob:=σ.ob++(newEs T σ.ob.length rts rs).1 } (outE (newEs T σ.ob.length rts rs).2)):CallB P T σ f es K:=by
 obtain ⟨hE,hc⟩:=hc
 refine ⟨hE,?_⟩
 intro w0 w F ρ tmps outs xs hR hx
 refine (hc w _ xs (fun _ h=>h) (T.globB _ _ (Base.ok _) hR.below) (argsV_fit hP hR hx hv)).mono ?_
 rintro en w' ⟨ys,rfl,hb,hres⟩
 have hR':=hR.later hb
 obtain ⟨ρ',r1,r2,_⟩:=news_rel (n0:=w.heap.size) hR.fsub hR' hR.below.size hres (fun y _ b _ hnb j hj=>by have:=(hR.own hj).1;omega)
 exact ⟨_,_,_,F,ρ',rfl,hb,hK,outE_rel r2,r1⟩
def CallStepB (P:Program) (T:Tab) (σ:St) (g:Bool) (f:Operand) (args:List Operand) (d:Option Tmp) (K:St→Prop):Prop :=
 evalO σ g f fun ef=>evalL σ g args fun es=>∃ fid caps,ef=.fn fid caps ∧
  ((∃ e,(g=true→CallQ P T σ fid (es++caps) e)∧putK σ d g K e)∨((g=true→CallB P T σ fid (es++caps) (putE d K))∧(g=false→putK σ d false K .undef)))
def opB (P:Program) (T:Tab) (o:SOp) (K:St→Prop) (σ:St) (g:Bool):Prop:=match o.op with
 | .call c=>match c.callee with
   | .value f=>CallStepB P T σ g f c.args.toList o.dst K
   | .builtin .append=>(g=true→appB T σ c (putE o.dst K))∧(g=false→putK σ o.dst false K .undef)
   | .builtin _=>pureA T σ g (.call c) (putK σ o.dst g K)
   | _=>False
 | .alloc t=>(g=true→effA T σ (.alloc t) (putE o.dst K))∧(g=false→putK σ o.dst false K .undef)
 | .box t x=>(g=true→effA T σ (.box t x) (putE o.dst K))∧(g=false→putK σ o.dst false K .undef)
 | .store _ _ _=>False
 | .buildSlice t n ps=>(g=true→effA T σ (.buildSlice t n ps) (putE o.dst K))∧(g=false→putK σ o.dst false K .undef)
 | .makeSlice t l c=>(g=true→effA T σ (.makeSlice t l c) (putE o.dst K))∧(g=false→putK σ o.dst false K .undef)
 | op=>pureA T σ g op (putK σ o.dst g K)
theorem pure_stepB (hP:TabOk P T) (hR:Rel T w F ρ w0 σ a.tmps outs) (hd:a.defers=[]) {o:Oper} {g:Bool} {K:St→Prop} {N:Act→World→Prop}
 (hN:∀ a' w',Below w.heap.size w w'→After T w0 outs K a' w'→N a' w') (h:pureA T σ g o.op (putK σ o.dst g K)):if g then o.wp P a w N Q else N (a.put o.dst undef) w:=by
 obtain ⟨e,h1,h2⟩:=pureA_sound hP hR h
 cases g with
 | true =>
   obtain ⟨v,hv,hr⟩:=h2 rfl
   obtain ⟨σ',hK,hR',hd'⟩:=put_sound hR h1 (fun _=>hv) (by simp)
   simp only [if_true,Oper.wp,hr w (Below.refl _ _) o rfl,Oper.upon]
   exact hN _ _ (Below.refl _ _) ⟨σ',F,ρ,hK,hd'.trans hd,hR'⟩
 | false =>
   obtain ⟨σ',hK,hR',hd'⟩:=put_sound (v:=undef) hR h1 (by simp) (fun _=>rfl)
   simp only [Bool.false_eq_true,if_false]
   exact hN _ _ (Below.refl _ _) ⟨σ',F,ρ,hK,hd'.trans hd,hR'⟩
theorem eff_stepB (hP:TabOk P T) (hR:Rel T w F ρ w0 σ a.tmps outs) (hd:a.defers=[]) {o:Oper} {g:Bool} {K:St→Prop} {N:Act→World→Prop} (hm:isMake o.op=true)
 (hN:∀ a' w',Below w.heap.size w w'→After T w0 outs K a' w'→N a' w') (h:(g=true→effA T σ o.op (putE o.dst K))∧(g=false→putK σ o.dst false K .undef)):if g then o.wp P a w N Q else N (a.put o.dst undef) w:=by
 cases g with
 | true =>
   obtain ⟨σ',e,h1,w',F',ρ',v,nx,h2,h3,h4,h5,h6⟩:=effA_sound hP hR (h.1 rfl)
   obtain ⟨σ'',hK,hR',hd'⟩:=put_sound h3 h1 (fun _=>h2) (by simp)
   rcases h4 with rfl|⟨rfl,rfl⟩
   · simp only [if_true,Oper.wp,h5 o rfl,Oper.upon]
     exact hN _ _ (h6 hm) ⟨σ'',F',ρ',hK,hd'.trans hd,hR'⟩
   · simp only [if_true,Oper.wp,h5 o rfl,Oper.upon]
     exact hN _ _ (h6 hm) ⟨σ'',F',ρ',hK,hd'.trans hd,hR'⟩
 | false =>
   obtain ⟨σ',hK,hR',hd'⟩:=put_sound (v:=undef) hR (h.2 rfl) (by simp) (fun _=>rfl)
   simp only [Bool.false_eq_true,if_false]
   exact hN _ _ (Below.refl _ _) ⟨σ',F,ρ,hK,hd'.trans hd,hR'⟩
theorem call_stepB (hR:Rel T w F ρ w0 σ a.tmps outs) (hd:a.defers=[]) {o:Oper} {c:Call} {x:Operand} (ho:o.op=.call c) (hc:c.callee=.value x) {g:Bool} {K:St→Prop} {N:Act→World→Prop}
 (hN:∀ a' w',Below w.heap.size w w'→After T w0 outs K a' w'→N a' w') (h:CallStepB P T σ g x c.args.toList o.dst K):if g then o.wp P a w N Q else N (a.put o.dst undef) w:=by
 obtain ⟨ef,h1,hf⟩:=evalO_sound hR h
 obtain ⟨es,h2,hes⟩:=evalL_sound hR h1
 obtain ⟨fid,caps,rfl,h3⟩:=h2
 clear h h1
 cases g with
 | true =>
   obtain ⟨cs,hx,hcs⟩:=hf rfl
   have hall:=(hes rfl).append hcs
   rcases h3 with ⟨e,hq,hk⟩|⟨he,_⟩
   · obtain ⟨hE,hq⟩:=hq rfl
     obtain ⟨v,hv,hq⟩:=hq w0 w F ρ _ _ _ hR hall
     have hcall:=hq w (Below.refl _ _)
     simp only [if_true,Oper.wp,run_call hE hc hx w o ho,Oper.upon]
     refine hcall.mono ?_
     rintro en w' ⟨rfl,hb⟩
     obtain ⟨σ',hK,hR',hd'⟩:=put_sound hR hk (fun _=>hv) (by simp)
     exact hN _ _ hb ⟨σ',F,ρ,hK,hd'.trans hd,hR'.later hb⟩
   · obtain ⟨hE,he⟩:=he rfl
     simp only [if_true,Oper.wp,run_call hE hc hx w o ho,Oper.upon]
     refine (he w0 w F ρ _ _ _ hR hall).mono ?_
     rintro en w' ⟨v,σ',e,F',ρ',rfl,hb,hk,hv,hR'⟩
     obtain ⟨σ'',hK,hR'',hd'⟩:=put_sound hR' hk (fun _=>hv) (by simp)
     exact hN _ _ hb ⟨σ'',F',ρ',hK,hd'.trans hd,hR''⟩
 | false =>
   simp only [Bool.false_eq_true,if_false]
   rcases h3 with ⟨e,_,hk⟩|⟨_,he⟩
   · obtain ⟨σ',hK,hR',hd'⟩:=put_sound (v:=undef) hR hk (by simp) (fun _=>rfl)
     exact hN _ _ (Below.refl _ _) ⟨σ',F,ρ,hK,hd'.trans hd,hR'⟩
   · obtain ⟨σ',hK,hR',hd'⟩:=put_sound (v:=undef) hR (he rfl) (by simp) (fun _=>rfl)
     exact hN _ _ (Below.refl _ _) ⟨σ',F,ρ,hK,hd'.trans hd,hR'⟩
theorem opB_sound (hP:TabOk P T) (hR:Rel T w F ρ w0 σ a.tmps outs) (hd:a.defers=[]) {o:Oper} {g:Bool} {K:St→Prop} {N:Act→World→Prop}
 (hN:∀ a' w',Below w.heap.size w w'→After T w0 outs K a' w'→N a' w') {ops:Array Oper} (h:opB P T (strip ops o) K σ g):if g then o.wp P a w N Q else N (a.put o.dst undef) w:=by
 unfold opB at h
 have hop:(strip ops o).op=o.op:=rfl
 have hdst:(strip ops o).dst=o.dst:=rfl
 rw [hop,hdst] at h
 split at h
 · rename_i c hc
   split at h
   · rename_i f hf
     exact call_stepB hR hd hc hf hN h
   · rename_i hf
     cases g with
     | true =>
       obtain ⟨⟨σ',e,h1,w',F',ρ',v,nx,h2,h3,h4,h5,_⟩,nx2,w2,h7,h8⟩:=appB_sound hP hR hf (h.1 rfl)
       have heq:=(h5 o hc).symm.trans (h7 o hc)
       cases heq
       obtain ⟨σ'',hK,hR',hd'⟩:=put_sound h3 h1 (fun _=>h2) (by simp)
       rcases h4 with rfl|⟨rfl,rfl⟩
       · simp only [if_true,Oper.wp,h5 o hc,Oper.upon]
         exact hN _ _ h8 ⟨σ'',F',ρ',hK,hd'.trans hd,hR'⟩
       · simp only [if_true,Oper.wp,h5 o hc,Oper.upon]
         exact hN _ _ h8 ⟨σ'',F',ρ',hK,hd'.trans hd,hR'⟩
     | false =>
       obtain ⟨σ',hK,hR',hd'⟩:=put_sound (v:=undef) hR (h.2 rfl) (by simp) (fun _=>rfl)
       simp only [Bool.false_eq_true,if_false]
       exact hN _ _ (Below.refl _ _) ⟨σ',F,ρ,hK,hd'.trans hd,hR'⟩
   · exact pure_stepB hP hR hd hN (by rw [hc];exact h)
   · exact h.elim
 · rename_i hc;exact eff_stepB hP hR hd (by rw [hc];rfl) hN (by rw [hc];exact h)
 · rename_i hc;exact eff_stepB hP hR hd (by rw [hc];rfl) hN (by rw [hc];exact h)
 · exact h.elim
 · rename_i hc;exact eff_stepB hP hR hd (by rw [hc];rfl) hN (by rw [hc];exact h)
 · rename_i hc;exact eff_stepB hP hR hd (by rw [hc];rfl) hN (by rw [hc];exact h)
 · exact pure_stepB hP hR hd hN h
def Branch (P:Program) (T:Tab) (ops:Array Oper) (keeps:Nat→Bool) (K:St→Prop) (fuel:Nat) (listed:Array Bool) (σ:St) (i:Nat):Prop :=
 ∃ o,ops[i]?=some o∧guardA (strip ops o) σ fun g=>if keeps i then opB P T (strip ops o) (AnyA P T ops keeps K fuel (listed.setIfInBounds i true)) σ g else opG P T (strip ops o) (AnyA P T ops keeps K fuel (listed.setIfInBounds i true)) σ g
def Branches (P:Program) (T:Tab) (ops:Array Oper) (keeps:Nat→Bool) (K:St→Prop) (fuel:Nat) (listed:Array Bool) (σ:St) (rs:List Nat):Prop:=∀ i∈rs,Branch P T ops keeps K fuel listed σ i
theorem Branches.nil {K:St→Prop} {fuel:Nat} {listed:Array Bool}:Branches P T ops keeps K fuel listed σ []:=fun _ h=>by cases h
theorem Branches.keep {K:St→Prop} {fuel:Nat} {listed:Array Bool} {i:Nat} {rs:List Nat} (so:SOp) (hso:(ops[i]?).map (strip ops)=some so) (hk:keeps i=true) (l':Array Bool) (hl':listed.setIfInBounds i true=l')
 (h:∀ R:St→Prop,(∀ σ',AnyA P T ops keeps K fuel l' σ'→R σ')→guardA so σ (opB P T so R σ)) (hs:Branches P T ops keeps K fuel listed σ rs):Branches P T ops keeps K fuel listed σ (i::rs):=by
 subst hl'
 obtain ⟨o,hi,rfl⟩:=Option.map_eq_some_iff.1 hso
 intro j hj
 rcases List.mem_cons.1 hj with rfl|hj
 · exact ⟨o,hi,by simp only [hk,if_true];exact h _ fun _ x=>x⟩
 · exact hs j hj
theorem Branches.any {K:St→Prop} {fuel:Nat} {listed:Array Bool} {i:Nat} {rs:List Nat} (so:SOp) (hso:(ops[i]?).map (strip ops)=some so) (hk:keeps i=false) (l':Array Bool) (hl':listed.setIfInBounds i true=l')
 (h:∀ R:St→Prop,(∀ σ',AnyA P T ops keeps K fuel l' σ'→R σ')→guardA so σ (opG P T so R σ)) (hs:Branches P T ops keeps K fuel listed σ rs):Branches P T ops keeps K fuel listed σ (i::rs):=by
 subst hl'
 obtain ⟨o,hi,rfl⟩:=Option.map_eq_some_iff.1 hso
 intro j hj
 rcases List.mem_cons.1 hj with rfl|hj
 · exact ⟨o,hi,by simp only [hk,Bool.false_eq_true,if_false];exact h _ fun _ x=>x⟩
 · exact hs j hj
theorem AnyA.all {K:St→Prop} {fuel:Nat} {listed:Array Bool} {rs:List Nat} (hP:TabOk P T) (hg:guardsOk ops=true) (hr:Region.ready .any ops listed=rs) (hne:rs.isEmpty=false) (h:Branches P T ops keeps K fuel listed σ rs):AnyA P T ops keeps K (fuel+1) listed σ:=by
 intro w0 w F ρ a outs hd hR
 subst hr
 refine ⟨fun h=>(by rw [h] at hne;cases hne),fun i hi=>?_⟩
 obtain ⟨o,ho,h⟩:=h i hi
 have hgo:=List.all_eq_true.1 hg o (by have:=Array.mem_of_getElem? ho;simpa using this)
 obtain ⟨g,h,hw⟩:=guardA_sound hR hgo h
 unfold Go.wpOp
 simp only [ho,hw]
 cases hk:keeps i with
 | true =>
   simp only [hk,if_true] at h
   have:=opB_sound (Q:=fun ex a' w'=>ex=.normal∧After T w0 outs K a' w') hP hR hd (N:=fun a' w'=>(true=true→Below w.heap.size w w')∧wpAnyB P .any ops (fun ex a' w'=>ex=.normal∧After T w0 outs K a' w') keeps fuel (listed.setIfInBounds i true) a' w')
    (fun a' w' hb ⟨σ',F',ρ',q1,q2,q3⟩=>⟨fun _=>hb,q1 w0 w' F' ρ' a' outs q2 q3⟩) h
   cases g with
   | true=>exact .inl this
   | false=>exact this
 | false =>
   simp only [hk,Bool.false_eq_true,if_false] at h
   have:=opG_sound (Q:=fun ex a' w'=>ex=.normal∧After T w0 outs K a' w') hP hR hd (N:=fun a' w'=>(false=true→Below w.heap.size w w')∧wpAnyB P .any ops (fun ex a' w'=>ex=.normal∧After T w0 outs K a' w') keeps fuel (listed.setIfInBounds i true) a' w')
    (fun a' w' ⟨σ',F',ρ',q1,q2,q3⟩=>⟨fun h=>(by cases h),q1 w0 w' F' ρ' a' outs q2 q3⟩) h
   cases g with
   | true=>exact .inl this
   | false=>exact this
def but (l:List Nat) (i:Nat):Bool:=!l.contains i
theorem SA.regionAny {id:Nat} {ops:Array Oper} (hm:P.follows .mixedOrders=true) (n:Nat) (hn:ops.size=n) (l0:Array Bool) (hl0:Array.replicate n false=l0) (wr:List Nat) (lv:List Nat) {K:Exit→St→Prop}
 (h:∀ R:St→Prop,(∀ σ',K .normal (σ'.keep lv)→R σ')→AnyA P T ops (but wr) R n l0 σ):SA P T (.region id ops true) K σ:=by
 intro w0 w F ρ a outs hd hR
 subst hn hl0
 have h:=h (fun σ'=>K .normal (σ'.keep lv)) (fun _ x=>x) w0 _ F ρ a outs hd (hR.later (w':={ w with drawn:=w.drawn+1 }) ((Below.refl _ _).drew))
 refine wp_mono (wp_region_any hm (wpAny_of_B _ _ _ _ h)) ?_
 rintro ex a' w' ⟨rfl,σ',F',ρ',hK,hd',hR'⟩
 exact ⟨_,F',ρ',hK,hd',hR'.keep lv⟩
theorem SA.regionAnyPost {id:Nat} {ops:Array Oper} (hm:P.follows .mixedOrders=true) (n:Nat) (hn:ops.size=n) (l0:Array Bool) (hl0:Array.replicate n false=l0) (wr:List Nat) (lv:List Nat) {K:Exit→St→Prop} (τ:St)
 (h:∀ R:St→Prop,(∀ σ',St.le T (σ'.keep lv) τ→R σ')→AnyA P T ops (but wr) R n l0 σ) (hK:K .normal τ):SA P T (.region id ops true) K σ:=by
 intro w0 w F ρ a outs hd hR
 subst hn hl0
 have h:=h (fun σ'=>St.le T (σ'.keep lv) τ) (fun _ x=>x) w0 _ F ρ a outs hd (hR.later (w':={ w with drawn:=w.drawn+1 }) ((Below.refl _ _).drew))
 refine wp_mono (wp_region_any hm (wpAny_of_B _ _ _ _ h)) ?_
 rintro ex a' w' ⟨rfl,σ',F',ρ',hl,hd',hR'⟩
 obtain ⟨F'',ρ'',h2⟩:=hl _ _ _ _ _ _ (hR'.keep lv)
 exact ⟨_,F'',ρ'',hK,hd',h2⟩
end Go.Eng
