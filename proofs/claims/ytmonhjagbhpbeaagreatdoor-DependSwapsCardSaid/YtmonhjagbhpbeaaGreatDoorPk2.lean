/- A part of the proof: walks through the program's functions, and what they compute. -/
import Derived.Test.YtmonhjagbhpbeaaGreatDoorPk1
import Derived.Great.BuildSlice
import Derived.Great.FillDense
import Derived.Laws.MakeOwn
import Derived.Laws.CopyRow
set_option linter.unusedSimpArgs false
set_option linter.unusedVariables false
namespace Go.Eng
open Go.RowKit
variable {P:Program} {T:Tab} {w w':World} {w0:Base T} {F:Nat→Prop} {ρ:Nat→RI} {σ:St} {a:Act} {outs:List (Array Value)}
theorem UE (hP:TabOk P T) (hR:Rel T w F ρ w0 σ a.tmps outs) {g:Bool} {op:Op} {K:E→Prop} (h:Vw T σ g op K):∃ e,K e∧(g=true→WF P T w F ρ a op e):=by
 unfold Vw at h
 split at h
 · obtain ⟨e,h1,h2⟩:=QR hR h
   exact ⟨e,h1,fun hg=>⟨_,h2 hg,fun W _ o ho=>by simp [execOp,ho]⟩⟩
 · obtain ⟨e,h1,h2⟩:=QR hR h
   exact ⟨e,h1,fun hg=>⟨_,h2 hg,fun W _ o ho=>by simp [execOp,ho]⟩⟩
 · exact QFI hR h
 · obtain ⟨e,h1,h2⟩:=QR hR h
   exact vO hP hR h2 h1
 · rename_i x
   obtain ⟨e,h1,h2⟩:=QR hR h
   split at h1
   · refine ⟨_,h1,fun hg=>⟨_,h2 hg,fun W _ o ho=>?_⟩⟩
     obtain ⟨b,root,off,_,_,h3⟩:=h2 hg
     simp [execOp,ho,h3]
   · refine ⟨_,h1,fun hg=>⟨_,h2 hg,fun W _ o ho=>?_⟩⟩
     obtain ⟨b,_,_,_,off,_,_,h3⟩:=h2 hg
     simp [execOp,ho,h3]
   · refine ⟨_,h1,fun hg=>⟨_,h2 hg,fun W _ o ho=>?_⟩⟩
     obtain ⟨b,off,cs,h3,_⟩:=h2 hg
     simp [execOp,ho,h3]
   · refine ⟨_,h1,fun hg=>⟨_,h2 hg,fun W _ o ho=>?_⟩⟩
     obtain ⟨cs,h3,_⟩:=h2 hg
     simp [execOp,ho,h3]
   · exact h1.elim
 · obtain ⟨e1,h1,h2⟩:=QR hR h
   obtain ⟨e2,h3,h4⟩:=QR hR h1
   exact QHF hP h2 h4 h3
 · obtain ⟨e,h1,h2⟩:=QR hR h
   split at h1
   · refine ⟨_,h1,fun hg=>⟨_,rfl,fun W _ o ho=>?_⟩⟩
     have h3:a.eval _=Value.bool _:=h2 hg
     simp [execOp,ho,h3,Op.unary]
   · refine ⟨_,h1,fun hg=>⟨_,⟨rfl,XC _ _⟩,fun W _ o ho=>?_⟩⟩
     have h3:=(h2 hg).1
     simp [execOp,ho,h3,Op.unary,Op.intArith]
   · refine ⟨_,h1,fun hg=>⟨_,⟨rfl,XC _ _⟩,fun W _ o ho=>?_⟩⟩
     have h3:=(h2 hg).1
     simp [execOp,ho,h3,Op.unary,Op.intBits]
   · exact h1.elim
 · obtain ⟨e,h1,h2⟩:=QR hR h
   split at h1
   · rename_i ks kd k n hs hd
     refine ⟨_,h1,fun hg=>⟨_,⟨rfl,XC _ _⟩,fun W _ o ho=>?_⟩⟩
     have h3:=(h2 hg).1
     simp [execOp,ho,h3,convert,run_underlying (hP.int _ _ hs),run_underlying (hP.int _ _ hd),Conv.intToInt]
   · exact h1.elim
 · rename_i f first caps
   obtain ⟨h1,h⟩:=h
   obtain ⟨es,h2,h3⟩:=WQ hR h
   have hfirst:first=#[]:=by simpa using h1
   refine ⟨_,h2,fun hg=>⟨_,⟨_,rfl,h3 hg⟩,fun W _ o ho=>?_⟩⟩
   have hc:caps.map a.eval=(caps.toList.map a.eval).toArray:=by
    apply Array.ext';simp
   simp [execOp,ho,Instr.makeFunc,hfirst,hc]
 · rename_i t x lo hi mx
   obtain ⟨hm,h⟩:=h
   obtain ⟨e,h1,h2⟩:=QR hR h
   exact QDu hP hR h2 h1 (by cases mx<;>cases hi<;>simp_all)
 · obtain ⟨e,h1,h2⟩:=QR hR h
   exact wq hP h2 h1
 · obtain ⟨e,h1,h2⟩:=QR hR h
   split at h1;rotate_left;· exact h1.elim
   rename_i s x k ts s' v hs
   obtain ⟨rfl,h1⟩:=h1
   split at h1;rotate_left;· exact h1.elim
   rename_i u hu
   refine ⟨_,h1,fun hg=>?_⟩
   obtain ⟨cs,h3,h4,h5⟩:=h2 hg
   obtain ⟨y,hy,hr⟩:=QGv (ρ:=ρ) hP hs hu h5
   exact ⟨y,hy,fun W _ o ho=>by simp [execOp,ho,h3,hr W]⟩
 · obtain ⟨e1,h1,h2⟩:=QR hR h
   obtain ⟨e2,h3,h4⟩:=QR hR h1
   split at h3;rotate_left;· exact h3.elim
   exact wk hP h2 (fun hg=>(h4 hg).1) h3
 · obtain ⟨e1,h1,h2⟩:=QR hR h
   obtain ⟨e2,h3,h4⟩:=QR hR h1
   split at h3;rotate_left;· exact h3.elim
   exact QER hP h2 (fun hg=>(h4 hg).1) h3
 · rename_i x k
   obtain ⟨e,h1,h2⟩:=QR hR h
   split at h1;rotate_left;· exact h1.elim
   rename_i l
   split at h1;rotate_left;· exact h1.elim
   rename_i y hy
   refine ⟨y,h1,fun hg=>?_⟩
   obtain ⟨vs,h3,h4⟩:=h2 hg
   have key:∀ (l:List E) (vs:List Value) (k:Nat) (y:E),ERelL T w F ρ l vs→l[k]?=some y→∃ v,vs[k]?=some v∧ERel T w F ρ y v:=by
    intro l
    induction l with
    | nil=>intro vs k y _ h;simp at h
    | cons e l ih =>
      intro vs k y hr hk
      cases vs with
      | nil=>exact hr.elim
      | cons v vs =>
        cases k with
        | zero=>simp at hk;subst hk;exact ⟨v,rfl,hr.1⟩
        | succ k=>exact ih vs k y hr.2 (by simpa using hk)
   obtain ⟨v,hv,hr⟩:=key _ _ _ _ h4 hy
   exact ⟨v,hr,fun W _ o ho=>by simp [execOp,ho,h3,Instr.extract,hv]⟩
 · rename_i t parts
   split at h
   · rename_i ts ht
     exact vc hP hR (.inl ⟨ht,rfl⟩) h
   · rename_i n e ht
     exact vc hP hR (.inr ⟨n,e,ht,rfl,rfl⟩) h
   · exact h.elim
 · split at h;rotate_left;· exact h.elim
   rename_i c b hc
   obtain ⟨es,h1,h2⟩:=WQ hR h
   exact QBr hP hc h2 h1
 · exact h.elim
variable {P:Program} {T:Tab} {w w':World} {w0:Base T} {F F':Nat→Prop} {ρ ρ':Nat→RI} {σ:St} {tmps:Array Value} {outs:List (Array Value)}
def zE (ρ:Nat→RI) (i:Nat) (r:RI):Nat→RI:=fun j=>if j=i then r else ρ j
theorem XD (ρ:Nat→RI) (i:Nat) (r:RI):zE ρ i r i=r:=by simp [zE]
theorem XO (ρ:Nat→RI) {i j:Nat} (r:RI) (h:j≠i):zE ρ i r j=ρ j:=by simp [zE,h]
mutual
def E.kill (i:Nat):E→E
 | .sl j e lo len c=>if j=i then .undef else .sl j e lo len c
 | .ptr j p t=>if j=i then .undef else .ptr j p t
 | .rp j k p t=>if j=i then .undef else .rp j k p t
 | .av j p t k=>if j=i then .undef else .av j p t k
 | .fn f caps=>.fn f (E.killL i caps)
 | .tup l=>.tup (E.killL i l)
 | .agg t l=>.agg t (E.killL i l)
 | e=>e
def E.killL (i:Nat):List E→List E
 | []=>[]
 | e::es=>e.kill i::E.killL i es
end
def Obj.kill (i:Nat):Obj→Obj
 | .var t e=>.var t (e.kill i)
 | .erow e l=>.erow e (E.killL i l)
 | o=>o
def Tm.kill (i:Nat) (tm:Tm):Tm:=tm.map fun x=>(x.1,x.2.1,x.2.2.kill i)
def St.kill (i:Nat) (σ:St):St:={ σ with tm:=Tm.kill i σ.tm,ob:=σ.ob.map (Obj.kill i),out:=σ.out.map (Tm.kill i) }
mutual
theorem ERel.killed {i:Nat} {r:RI}:∀ {e:E} {v:Value},ERel T w F ρ e v→ERel T w F (zE ρ i r) (e.kill i) v
 | .int _ _,_,h=>h
 | .bool _,_,h=>h
 | .str _,_,h=>h
 | .data _ _,_,h=>h
 | .fs _ _ _,_,h=>h
 | .sl j e lo len c,v,h=>by
   unfold E.kill
   split
   · trivial
   · rename_i hj
     unfold ERel at h ⊢
     rw [XO ρ r hj];exact h
 | .nilsl,_,h=>h
 | .ptr j p t,v,h=>by
   unfold E.kill
   split
   · trivial
   · rename_i hj
     unfold ERel at h ⊢
     rw [XO ρ r hj];exact h
 | .rp j k p t,v,h=>by
   unfold E.kill
   split
   · trivial
   · rename_i hj
     unfold ERel at h ⊢
     rw [XO ρ r hj];exact h
 | .av j p t k,v,h=>by
   unfold E.kill
   split
   · trivial
   · rename_i hj
     unfold ERel at h ⊢
     rw [XO ρ r hj];exact h
 | .fptr _ _,_,h=>h
 | .fn _ _,_,⟨cs,h1,h2⟩=>⟨cs,h1,ERelL.killed h2⟩
 | .nilfn,_,h=>h
 | .tup _,_,⟨vs,h1,h2⟩=>⟨vs,h1,ERelL.killed h2⟩
 | .agg _ _,_,⟨ts,vs,cs,h0,h1,h2,h3⟩=>⟨ts,vs,cs,h0,h1,ERelL.killed h2,h3⟩
 | .undef,_,_=>trivial
theorem ERelL.killed {i:Nat} {r:RI}:∀ {l:List E} {vs:List Value},ERelL T w F ρ l vs→ERelL T w F (zE ρ i r) (E.killL i l) vs
 | [],[],h=>h
 | _::_,_::_,⟨h1,h2⟩=>⟨ERel.killed h1,ERelL.killed h2⟩
 | [],_::_,h=>h.elim
 | _::_,[],h=>h.elim
end
theorem QJM {i:Nat} {e:E} {t:TypeId} {v:V} (h:e.kill i=.data t v):e=.data t v:=by
 cases e<;>simp [E.kill] at h ⊢<;>first|exact h|(split at h<;>cases h)
theorem xC (f:E→E):∀ (tm:Tm) (t:Nat),(tm.map fun x=>(x.1,x.2.1,f x.2.2)).lookup t=(tm.lookup t).map fun x=>(x.1,f x.2)
 | [],_=>rfl
 | (s,g,e)::tm,t=>by
   simp only [List.map_cons,List.lookup_cons]
   cases t == s<;>simp [xC f tm t]
theorem TmRel.killed {i:Nat} {r:RI} {tm:Tm} (h:TmRel T w F ρ tm tmps):TmRel T w F (zE ρ i r) (Tm.kill i tm) tmps:=by
 intro t g e he
 unfold Tm.kill at he
 rw [xC (E.kill i)] at he
 cases hl:tm.lookup t with
 | none=>rw [hl] at he;cases he
 | some x =>
   obtain ⟨g',e'⟩:=x
   rw [hl] at he
   simp at he
   obtain ⟨rfl,rfl⟩:=he
   obtain ⟨v,h1,h2,h3⟩:=h t _ _ hl
   exact ⟨v,h1,fun hg=>(h2 hg).killed,h3⟩
theorem OutRel.killed {i:Nat} {r:RI}:∀ {l:List Tm} {vs:List (Array Value)},OutRel T w F ρ l vs→OutRel T w F (zE ρ i r) (l.map (Tm.kill i)) vs
 | [],[],h=>h
 | _::_,_::_,⟨h1,h2⟩=>⟨h1.killed,OutRel.killed h2⟩
 | [],_::_,h=>h.elim
 | _::_,[],h=>h.elim
theorem QAR {n:Nat} {r:RI} (hn:ρ n=.none):∀ i,ρ i≠.none→zE ρ n r i=ρ i:=by
 intro i hi
 unfold zE
 split
 · rename_i h;subst h;exact absurd hn hi
 · rfl
theorem ORel.row_mono {n0:Nat} {r:RI} {e:TypeId} {l:List V} (hw:∀ b,F b→w'.heap[b]?=w.heap[b]?)
 (hb:∀ b,r.block=some b→w'.heap[b]?=w.heap[b]?) (h:ORel T w F ρ n0 r (.row e l)):ORel T w' F ρ' n0 r (.row e l):=by
 cases r with
 | none=>exact h.elim
 | var _ _=>exact h.elim
 | row e' r =>
   obtain ⟨h1,h2,xs,h3,h4⟩:=h
   refine ⟨h1,h2,xs,⟨h3.1,?_⟩,h4.mono (fun _ x=>x) hw⟩
   rcases h3.2 with h|⟨g,cap,cur,hr,hg,hh,rest⟩
   · exact .inl h
   · refine .inr ⟨g,cap,cur,hr,hg,?_,rest⟩
     rw [hb g (by simp [RI.block,hr,Value.ownBlock])]
     exact hh
theorem Rel.push (h:Rel T w F ρ w0 σ tmps outs) (hw:Below w.heap.size w w') (hF:∀ b,F b→F' b) (hF':∀ b,F' b→b<w'.heap.size) (hFn:∀ b,F' b→b<w.heap.size→F b) {r:RI} {o:Obj}
 (hr:∀ b,r.block=some b→w.heap.size≤b∧b<w'.heap.size∧¬ F' b) (ho:ORel T w' F' (zE ρ σ.ob.length r) w0.w.heap.size r o) :
 Rel T w' F' (zE ρ σ.ob.length r) w0 { σ with ob:=σ.ob++[o] } tmps outs:=by
 have hn:ρ σ.ob.length=.none:=h.free _ (by simp)
 have hm:=QAR (r:=r) hn
 have hwF:∀ b,F b→w'.heap[b]?=w.heap[b]?:=fun b hb=>hw.block b (h.fsub b hb)
 refine ⟨h.tm.mono hF hwF hm,h.out.mono hF hwF hm,?_,?_,?_,hF',h.below.trans (hw.mono h.below.size),h.size,fun b hb=>if hlt:b<w.heap.size then h.fold b (hFn b hb hlt) else .inl (by have:=h.below.size;omega)⟩
 · intro i o' hi
   by_cases hlt:i<σ.ob.length
   · simp only [List.getElem?_append_left hlt] at hi
     rw [XO ρ r (by omega)]
     refine (h.ob i o' hi).mono hF hwF hm (fun b hb=>hw.block b (h.own hb).1) (fun b hb hFb=>?_)
     exact (h.own hb).2.1 (hFn b hFb (h.own hb).1)
   · rw [List.getElem?_append_right (by omega)] at hi
     have:i=σ.ob.length:=by
      have:=(List.getElem?_eq_some_iff.1 hi).1
      simp at this
      omega
     subst this
     simp at hi
     subst hi
     rw [XD]
     exact ho
 · intro i hi
   simp at hi
   rw [XO ρ r (by omega)]
   exact h.free i (by simp;omega)
 · intro i j b hi hj
   unfold zE at hi hj
   split at hi<;>split at hj
   · omega
   · have:=(h.own hj).1;have:=(hr b hi).1;omega
   · have:=(h.own hi).1;have:=(hr b hj).1;omega
   · exact h.inj i j b hi hj
theorem Rel.store (h:Rel T w F ρ w0 σ tmps outs) {i b:Nat} (hb:(ρ i).block=some b) (hi:i<σ.ob.length) (hw:∀ k,k≠b→w'.heap[k]?=w.heap[k]?) (hs:w'.heap.size=w.heap.size) (hos:w'.os=w.os) (htp:w'.tape=w.tape) (hout:w'.output=w.output)
 {o:Obj} (ho:ORel T w' F ρ w0.w.heap.size (ρ i) o):Rel T w' F ρ w0 { σ with ob:=σ.ob.set i o } tmps outs:=by
 have hown:=h.own hb
 have hwF:∀ k,F k→w'.heap[k]?=w.heap[k]?:=fun k hk=>hw k (fun e=>hown.2.1 (e▸hk))
 refine ⟨h.tm.mono (fun _ x=>x) hwF (fun _ _=>rfl),h.out.mono (fun _ x=>x) hwF (fun _ _=>rfl),?_,?_,h.inj,fun k hk=>by rw [hs];exact h.fsub k hk,?_,h.size,h.fold⟩
 · intro j o' hj
   by_cases hji:j=i
   · subst hji
     simp [hi] at hj
     subst hj
     exact ho
   · simp only [List.getElem?_set_ne (Ne.symm hji)] at hj
     exact (h.ob j o' hj).mono (fun _ x=>x) hwF (fun _ _=>rfl) (fun k hk=>hw k (fun e=>hji (h.inj j i k hk (e▸hb)))) (fun k hk=>(h.own hk).2.1)
 · intro j hj
   simp at hj
   exact h.free j (by simp;omega)
 · exact h.below.trans ⟨hos,htp,hout,by omega,fun k hk=>hw k (by omega)⟩
theorem qT (i:Nat):∀ l:List E,(E.killL i l).length=l.length
 | []=>rfl
 | _::l=>by simp [E.killL,qT i l]
theorem Rel.move (h:Rel T w F ρ w0 σ tmps outs) {i:Nat} (hi:i<σ.ob.length) (hw:∀ k,k<w.heap.size→(ρ i).block≠some k→w'.heap[k]?=w.heap[k]?) (hs:w.heap.size≤w'.heap.size) (hos:w'.os=w.os) (htp:w'.tape=w.tape) (hout:w'.output=w.output)
 {r:RI} (hr:∀ b,r.block=some b→(ρ i).block=some b∨(w.heap.size≤b∧b<w'.heap.size)) {o:Obj} (ho:ORel T w' F (zE ρ i r) w0.w.heap.size r o) :
 Rel T w' F (zE ρ i r) w0 { (σ.kill i) with ob:=(σ.kill i).ob.set i o } tmps outs:=by
 have hnF:∀ k,F k→(ρ i).block≠some k:=fun k hk e=>(h.own e).2.1 hk
 have hwF:∀ k,F k→w'.heap[k]?=w.heap[k]?:=fun k hk=>hw k (h.fsub k hk) (hnF k hk)
 have e1:∀ {e:E} {v:Value},ERel T w F ρ e v→ERel T w' F (zE ρ i r) (e.kill i) v:=fun he=>he.killed.mono (fun _ x=>x) hwF (fun _ _=>rfl)
 refine ⟨h.tm.killed.mono (fun _ x=>x) hwF (fun _ _=>rfl),h.out.killed.mono (fun _ x=>x) hwF (fun _ _=>rfl),?_,?_,?_,fun k hk=>Nat.lt_of_lt_of_le (h.fsub k hk) hs,?_,h.size,h.fold⟩
 · intro j o' hj
   by_cases hji:j=i
   · subst hji
     simp [St.kill,hi] at hj
     subst hj
     rw [XD]
     exact ho
   · simp only [List.getElem?_set_ne (Ne.symm hji),St.kill,List.getElem?_map] at hj
     cases hoj:σ.ob[j]? with
     | none=>rw [hoj] at hj;cases hj
     | some oj =>
       rw [hoj] at hj
       simp at hj
       subst hj
       rw [XO ρ r hji]
       have h1:=h.ob j oj hoj
       have hbl:∀ k,(ρ j).block=some k→w'.heap[k]?=w.heap[k]?:=fun k hk=>hw k (h.own hk).1 (fun e=>hji (h.inj j i k hk e))
       cases oj with
       | dead=>cases hρ:ρ j<;>rw [hρ] at h1<;>exact h1
       | row e l=>exact h1.row_mono hwF hbl
       | erow e l =>
         cases hρ:ρ j with
         | none=>rw [hρ] at h1;exact h1.elim
         | var _ _=>rw [hρ] at h1;exact h1.elim
         | row e' r =>
           rw [hρ] at h1 hbl
           obtain ⟨q1,q2,q0,xs,q3,q4,q5⟩:=h1
           refine ⟨q1,q2,q0,xs,⟨by rw [qT];exact q3.1,?_⟩,ERelL.mono (fun _ x=>x) hwF (fun _ _=>rfl) q4.killed,q5⟩
           rw [qT]
           rcases q3.2 with h|⟨g,cap,cur,hr,hg,hh,rest⟩
           · exact .inl h
           · refine .inr ⟨g,cap,cur,hr,hg,?_,rest⟩
             rw [hbl g (by simp [RI.block,hr,Value.ownBlock])]
             exact hh
       | var t e =>
         cases hρ:ρ j with
         | none=>rw [hρ] at h1;exact h1.elim
         | row _ _=>rw [hρ] at h1;exact h1.elim
         | var b t' =>
           rw [hρ] at h1 hbl
           obtain ⟨⟨q1,q2,q3⟩,q4,q5,cs,ct,v,q6,q7,q8⟩:=h1
           exact ⟨⟨q1,q2,fun u x hx=>q3 u x (QJM hx)⟩,q4,q5,cs,ct,v,(hbl b rfl).trans q6,e1 q7,q8⟩
 · intro j hj
   simp [St.kill] at hj
   rw [XO ρ r (by omega)]
   exact h.free j (by simp;omega)
 · intro p q b hp hq
   unfold zE at hp hq
   split at hp<;>split at hq
   · omega
   · rename_i h1 h2
     rcases hr b hp with h3|h3
     · exact absurd (h.inj q i b hq h3) h2
     · have:=(h.own hq).1;omega
   · rename_i h1 h2
     rcases hr b hq with h3|h3
     · exact absurd (h.inj p i b hp h3) h1
     · have:=(h.own hp).1;omega
   · exact h.inj p q b hp hq
 · refine h.below.trans ⟨hos,htp,hout,hs,fun k hk=>hw k (Nat.lt_of_lt_of_le hk h.below.size) (fun e=>by have:=(h.own e).2.2;omega)⟩
variable {P:Program} {T:Tab} {w w':World} {w0:Base T} {F F':Nat→Prop} {ρ ρ':Nat→RI} {σ:St} {a:Act} {outs:List (Array Value)}
def QBC (T:Tab) (t:TypeId):E→Bool
 | .int k _=>T.ty t == .int k
 | .bool _=>T.ty t == .bool
 | .str _=>T.ty t == .str
 | .data t' _=>t' == t&&(T.ty t).isAgg
 | .fs e _ _=>T.ty t == .slice e
 | .sl _ e _ _ _=>T.ty t == .slice e
 | .nilsl=>match T.ty t with|.slice _=>true|_=>false
 | .fptr t' _=>T.ty t == .ptr t'
 | .ptr _ _ t'=>T.ty t == .ptr t'
 | .rp _ _ _ t'=>T.ty t == .ptr t'
 | .fn _ _=>T.ty t == .fn
 | .nilfn=>T.ty t == .fn
 | .agg t' _=>t' == t&&(T.ty t).isAgg
 | _=>false
theorem Fits.oneCell {t:TypeId} {v:V} {cs:List Value} (h:Fits T w F t v cs):∀ c∈cs,c.oneCell'=true:=by
 refine Fits.rec (motive_1:=fun _ _ cs _=>∀ c∈cs,c.oneCell'=true) (motive_2:=fun _ _ cs _=>∀ c∈cs,c.oneCell'=true) (motive_3:=fun _ _ cs _=>True) ?_ ?_ ?_ ?_ ?_ ?_ ?_ ?_ ?_ ?_ ?_ ?_ ?_ ?_ h
 all_goals intros
 all_goals simp_all [Value.oneCell']
 all_goals grind
theorem FitsL.onesL {ts:List TypeId}:∀ {l:List V} {cs:List Value},FitsL T w F ts l cs→∀ c∈cs,c.oneCell'=true:=by
 induction ts with
 | nil=>intro l cs h;cases h;simp
 | cons t ts ih =>
   intro l cs h
   cases h with
   | cons h1 h2 =>
     intro c hc
     rcases List.mem_append.1 hc with hc|hc
     · exact h1.oneCell c hc
     · exact ih h2 c hc
theorem QBB {t:TypeId} {e:E} (h:QBC T t e=true):T.ty t≠.other:=by
 intro h0
 cases e<;>simp [QBC,h0,TyD.isAgg] at h
theorem qQ (hS:T.Sized) {t:TypeId} {e:E} {x:Value} (hx:ERel T w F ρ e x) (h:QBC T t e=true):Holds T t x x.cells∧(∀ c∈x.cells,c.oneCell'=true):=by
 have one:∀ d:TyD,T.ty t=d→d.isAgg=false→T.sz t=1→x.oneCell'=true→Holds T t x x.cells∧(∀ c∈x.cells,c.oneCell'=true):=by
  intro d hd hA hs h1
  have hc:x.cells=#[x]:=by cases x<;>simp_all [Value.cells,Value.oneCell']
  rw [hc]
  exact ⟨⟨by simp [hs],by rw [hd,hA];simp [h1]⟩,by simp [h1]⟩
 cases e<;>simp only [QBC,beq_iff_eq,Bool.and_eq_true,Bool.false_eq_true] at h
 case int k n=>obtain ⟨rfl,_⟩:=hx;exact one _ h rfl (hS.int _ _ h) rfl
 case bool b=>obtain rfl:x=_:=hx;exact one _ h rfl (hS.bool _ h) rfl
 case str s=>obtain rfl:x=_:=hx;exact one _ h rfl (hS.str _ h) rfl
 case data t' v =>
  obtain ⟨rfl,hA⟩:=h
  obtain ⟨cs,rfl,_,hf⟩:=hx
  refine ⟨⟨(by simpa using hf.len hS:cs.size=T.sz t'),by rw [hA];rfl⟩,fun c (hc:c∈cs)=>hf.oneCell c (by simpa using hc)⟩
 case fs e l c =>
  refine one _ h rfl (hS.slice _ _ h).1 ?_
  rcases hx with ⟨_,_,rfl,_⟩|⟨_,_,_,_,rfl,_⟩<;>rfl
 case sl i e lo n c =>
  refine one _ h rfl (hS.slice _ _ h).1 ?_
  rcases hx with ⟨_,rfl,_⟩|⟨_,_,_,_,_,_,_,rfl,_⟩<;>rfl
 case nilsl =>
  split at h
  · rename_i e he
    obtain rfl:x=_:=hx
    exact one _ he rfl (hS.slice _ _ he).1 rfl
  · cases h
 case ptr i p t'=>obtain ⟨_,_,_,_,_,rfl⟩:=hx;exact one _ h rfl (hS.ptr _ _ h) rfl
 case rp i j p t'=>obtain ⟨_,_,_,_,_,_,_,rfl⟩:=hx;exact one _ h rfl (hS.ptr _ _ h) rfl
 case fptr t' v=>obtain ⟨_,_,_,rfl,_⟩:=hx;exact one _ h rfl (hS.ptr _ _ h) rfl
 case fn f c=>obtain ⟨_,rfl,_⟩:=hx;exact one _ h rfl (hS.fn _ h) rfl
 case nilfn=>obtain rfl:x=_:=hx;exact one _ h rfl (hS.fn _ h) rfl
 case agg t' l =>
  obtain ⟨rfl,hA⟩:=h
  obtain ⟨ts,vs,cs,h1,rfl,h2,h3⟩:=hx
  refine ⟨⟨?_,by rw [hA];rfl⟩,fun c hc=>h3.ones c (by simpa [Value.cells] using hc)⟩
  have:=h3.len
  rw [hS.struct _ _ h1,← this]
  simp [Value.cells]
def QSs (T:Tab) (t:TypeId):Bool:=match T.ty t with
 | .slice _=>true
 | _=>false
def QN3 (T:Tab) (t:TypeId) (v:V):E:=match T.ty t with
 | .slice _=>.nilsl
 | _=>WA T t v
def zU (T:Tab):List TypeId→List V→List E
 | t::ts,v::vs=>QN3 T t v::zU T ts vs
 | _,_=>[]
theorem Fits.holds (hS:T.Sized) {t:TypeId} {v:V} {x:Value} {cs:List Value} (h:Fits T w F t v cs) (hx:Qz T t x cs):Holds T t x x.cells∧(∀ c∈x.cells,c.oneCell'=true)∧x.cells.toList=cs:=by
 have ho:=h.oneCell
 have hl:=h.len hS
 unfold Qz at hx
 split at hx
 · rename_i hA
   subst hx
   exact ⟨⟨by simpa [Value.cells] using hl,by rw [if_pos hA];rfl⟩,fun c hc=>ho c (by simpa [Value.cells] using hc),by simp [Value.cells]⟩
 · rename_i hA
   subst hx
   have h1:=ho x (by simp)
   have hc:x.cells=#[x]:=by cases x<;>simp_all [Value.cells,Value.oneCell']
   rw [hc]
   exact ⟨⟨by simpa using hl,by rw [if_neg hA];exact ⟨rfl,h1⟩⟩,by simpa using h1,rfl⟩
theorem QA7 (hS:T.Sized):∀ {ts:List TypeId} {l:List V} {cs:List Value},FitsL T w F ts l cs→(∀ k u e,ts[k]?=some u→T.ty u=.slice e→cs[T.offs ts k]?=some (.slice none 0 0)) →
 ∃ vs,ERelL T w F ρ (zU T ts l) vs∧Joins T ts vs cs
 | [],_,_,h,_=>by cases h;exact ⟨[],trivial,rfl⟩
 | t::ts,l,cs,h,hz=>by
   cases h with
   | cons h1 h2 =>
     rename_i v vs c cs
     have hl:=h1.len hS
     obtain ⟨xs,i1,i2⟩:=QA7 hS h2 (fun k u e hk hu=>by
      have:=hz (k+1) u e (by simpa using hk) hu
      rw [wg,← hl,List.getElem?_append_right (by omega),Nat.add_sub_cancel_left] at this
      exact this)
     obtain ⟨x,hx⟩:=Vo hS h1
     obtain ⟨g1,g2,g3⟩:=h1.holds hS hx
     refine ⟨x::xs,⟨?_,i1⟩,cs,by rw [g3],g1,g2,i2⟩
     unfold QN3
     split
     · rename_i e he
       have:=hz 0 t e rfl he
       rw [we] at this
       unfold Qz at hx
       rw [he] at hx
       have hx:c=[x]:=hx
       subst hx
       simp at this
       exact this
     · exact Yy h1 hx
def QCQ (T:Tab) (t:TypeId):E:=match T.ty t with
 | .slice _=>.nilsl
 | .fn=>.nilfn
 | .ptr _=>.undef
 | .other=>.undef
 | .struct ts=>if ts.any (QSs T)=true then .agg t (zU T ts (T.zero t).toList) else WA T t (T.zero t)
 | _=>WA T t (T.zero t)
def QAF (σ:St) (e:TypeId):E→Option (List V)
 | .fs e' l _=>if e'=e then some l else none
 | .nilsl=>some []
 | .sl i e' lo n _=>if e'=e then match σ.ob[i]? with
   | some (.row _ l)=>some ((l.drop lo).take n)
   | _=>none
   else none
 | _=>none
def Q3 (T:Tab) (e:TypeId) (n:Nat):Prop:=n≤maxLen∧n*T.by_ e≤140737488355328
def xH (T:Tab) (σ:St) (t:TypeId):List Operand→(List V→Prop)→Prop
 | [],K=>K []
 | x::xs,K=>ZD σ true x fun e=>match UY T t e with
   | some v=>xH T σ t xs fun vs=>K (v::vs)
   | none=>False
def qi (T:Tab) (σ:St) (e:TypeId) (s x:E) (K:St→E→Prop):Prop:=match QAF σ e x with
 | none=>False
 | some xs=>match s with
   | .sl i e' lo n c=>e'=e∧match σ.ob[i]? with
     | some (.row _ l)=>match lo,c with
       | 0,false=>n≤l.length∧Q3 T e (n+xs.length) ∧
           K { (σ.kill i) with ob:=(σ.kill i).ob.set i (.row e (l.take n++xs)) } (.sl i e 0 (n+xs.length) false)
       | _,_=>lo+n≤l.length∧0<xs.length∧c=true∧Q3 T e (n+xs.length) ∧
           K { σ with ob:=σ.ob++[.row e ((l.drop lo).take n++xs)] } (.sl σ.ob.length e 0 (n+xs.length) false)
     | _=>False
   | .nilsl=>Q3 T e xs.length∧K { σ with ob:=σ.ob++[.row e xs] } (.sl σ.ob.length e 0 xs.length false)
   | .fs e' l c=>e'=e∧c=true∧0<xs.length∧Q3 T e (l.length+xs.length) ∧
      K { σ with ob:=σ.ob++[.row e (l++xs)] } (.sl σ.ob.length e 0 (l.length+xs.length) false)
   | _=>False
def QET:E→Bool
 | .nilsl=>true
 | .fs _ _ true=>true
 | _=>false
def QEd (T:Tab) (σ:St) (e:TypeId) (s:E) (K:St→E→Prop):Prop:=match s with
 | .sl i e' lo n _=>e'=e∧T.ty e≠.fn∧(∀ u,T.ty e≠.ptr u)∧match σ.ob[i]? with
   | some (.row _ l)=>lo+n≤l.length∧K { σ with ob:=σ.ob.set i (.row e (l.take lo++List.replicate n (T.zero e)++l.drop (lo+n))) } (.tup [])
   | _=>False
 | _=>False
def QBH (l:List V) (lo lo' m:Nat):List V:=l.take lo++(l.drop lo').take m++l.drop (lo+m)
def QID (T:Tab) (σ:St) (e:TypeId) (d s:E) (K:St→E→Prop):Prop:=match d,s with
 | .av i p t lo,.av i' p' t' lo'=>i'=i∧p'=p∧t'=t∧match T.ty t with
   | .arr n e'=>(e'=e∧n≤maxLen)∧match σ.ob[i]? with
     | some (.var tv (.data td v))=>K { σ with ob:=σ.ob.set i (.var tv (.data td (v.put p (.agg (QBH (v.get p).toList lo lo' (min (n-lo') (n-lo))))))) } (.int .i64 (min (n-lo') (n-lo):Nat))
     | _=>False
   | _=>False
 | _,_=>False
def QDq (T:Tab) (σ:St) (t:TypeId) (p e:E) (K:St→E→Prop):Prop:=match p with
 | .ptr i p t'=>t'=t∧match σ.ob[i]? with
   | some (.var tv c)=>match p with
     | []=>QBC T t e=true∧K { σ with ob:=σ.ob.set i (.var tv e) } .undef
     | k::p=>match c with
       | .data td v=>match UY T t e with
         | some y=>K { σ with ob:=σ.ob.set i (.var tv (.data td (v.put (k::p) y))) } .undef
         | none=>False
       | .agg ta l=>match p with
         | []=>(ta=tv∧QBC T t e=true)∧match l[k]? with
           | some _=>K { σ with ob:=σ.ob.set i (.var tv (.agg ta (l.set k e))) } .undef
           | none=>False
         | _=>False
       | _=>False
   | _=>False
 | .rp i j p t'=>t'=t∧match σ.ob[i]? with
   | some (.row e' l)=>match UY T t e with
     | some y=>j<l.length∧K { σ with ob:=σ.ob.set i (.row e' (l.set j ((l.getD j default).put p y))) } .undef
     | none=>False
   | some (.erow e' l)=>(p=[]∧t'=e'∧QBC T t e=true∧j<l.length)∧K { σ with ob:=σ.ob.set i (.erow e' (l.set j e)) } .undef
   | _=>False
 | _=>False
def zl (T:Tab) (σ:St) (op:Op) (K:St→E→Prop):Prop:=match op with
 | .alloc t=>T.ty t≠.other∧K { σ with ob:=σ.ob++[.var t (QCQ T t)] } (.ptr σ.ob.length [] t)
 | .box t x=>ZD σ true x fun e=>QBC T t e=true∧K { σ with ob:=σ.ob++[.var t e] } (.ptr σ.ob.length [] t)
 | .store t x y=>ZD σ true x fun p=>ZD σ true y fun e=>QDq T σ t p e K
 | .buildSlice t n parts=>match T.ty t with
   | .slice e=>parts.toList.map (·.1)=List.range n∧n*T.sz e≤2^24∧xH T σ e (parts.toList.map (·.2)) fun vs=>K { σ with ob:=σ.ob++[.row e vs] } (.sl σ.ob.length e 0 n false)
   | _=>False
 | .makeSlice t l c=>match T.ty t with
   | .slice e=>ZD σ true l fun el=>ZD σ true c fun ec=>match el,ec with
     | .int _ n,.int _ m=>n=m∧0≤n∧Q3 T e n.toNat∧T.ty e≠.fn∧(∀ u,T.ty e≠.ptr u)∧K { σ with ob:=σ.ob++[.row e (List.replicate n.toNat (T.zero e))] } (.sl σ.ob.length e 0 n.toNat false)
     | _,_=>False
   | _=>False
 | .call c=>match c.callee,c.args.toList,c.argTypes.toList with
   | .builtin .append,[s,x],[t,t']=>t'=t∧match T.ty t with
     | .slice e=>ZD σ true s fun es=>ZD σ true x fun ex=>qi T σ e es ex K
     | _=>False
   | .builtin .clear,[s],[t]=>match T.ty t with
     | .slice e=>ZD σ true s fun es=>QEd T σ e es K
     | _=>False
   | .builtin .copy,[d,s],[t,t']=>t'=t∧match T.ty t with
     | .slice e=>(T.sz e=1∧T.ty t≠.other)∧ZD σ true d fun ed=>ZD σ true s fun es=>QID T σ e ed es K
     | _=>False
   | _,_,_=>False
 | _=>False
def Xf:Op→Bool
 | .alloc _=>true
 | .box _ _=>true
 | .buildSlice _ _ _=>true
 | .makeSlice _ _ _=>true
 | _=>false
def QCO (P:Program) (T:Tab) (w0:Base T) (w:World) (a:Act) (outs:List (Array Value)) (op:Op) (σ':St) (e:E):Prop :=
 ∃ w' F' ρ' v nx,ERel T w' F' ρ' e v∧Rel T w' F' ρ' w0 σ' a.tmps outs∧(nx=Next.value v∨nx=Next.skip∧v=undef) ∧
   (∀ o:Oper,o.op=op→(execOp a.eval o).run P w=.ok nx w')∧(Xf op=true→Below w.heap.size w w')
theorem VI (w:World) (o:Go.Obj):Below w.heap.size w (w.alloc o):=(Below.refl _ _).alloc (Nat.le_refl _) o
theorem QIS (hP:TabOk P T) {t:TypeId} (ht:T.ty t≠.other) {i:TypeInfo} {z:Value} (hi:P.info? t=some i) (hz:i.zero=some z) :
 ERel T w F ρ (QCQ T t) z∧Holds T t z z.cells∧(∀ c∈z.cells,c.oneCell'=true)∧(∀ u x,QCQ T t=.data u x→u=t):=by
 obtain ⟨i',j1,j2,j3,z',j4,j5,j6,j7,j8,j9,j10,j11⟩:=hP.info t ht
 have:i'=i:=by rw [j1] at hi;simpa using hi
 subst this
 have:z'=z:=by rw [j4] at hz;simpa using hz
 subst this
 have hold:Holds T t z' z'.cells:=by
  refine ⟨j5,?_⟩
  split
  · rename_i hA;rw [if_pos hA] at j7;exact j7
  · rename_i hA
    rw [if_neg hA] at j7
    refine ⟨?_,j7⟩
    cases z'<;>simp_all [Value.cells,Value.oneCell']
 refine ⟨?_,hold,j6,?_⟩
 · unfold QCQ
   split
   · rename_i e he;exact j10 e he
   · rename_i he;exact j9 he
   · trivial
   · trivial
   · rename_i ts hts
     have hf:=j8 (by rw [hts];simp) (by rw [hts];simp) w F
     split
     · obtain ⟨l,e1,e2⟩:=hf.inv' hts
       have hA:z'=.agg z'.cells:=by rw [hts] at j7;exact j7
       rw [e1]
       obtain ⟨vs,g1,g2⟩:=QA7 (ρ:=ρ) hP.sized e2 (fun k u e hk hu=>j11 ts hts k u e hk hu)
       exact ⟨ts,vs,z'.cells,hts,hA,g1,g2⟩
     · exact Yy hf hold.valOf
   · rename_i h1 h2 h3 h4 h5
     exact Yy (j8 (fun h=>h2 h) (fun e h=>h3 e h) w F) hold.valOf
 · intro u x h
   unfold QCQ at h
   split at h<;>try cases h
   · split at h
     · cases h
     · unfold WA at h
       split at h<;>first|cases h|(split at h<;>cases h)
       all_goals rfl
   · unfold WA at h
     split at h<;>first|cases h|(split at h<;>cases h)
     all_goals rfl
theorem QHi (hR:Rel T w F ρ w0 σ a.tmps outs) {t:TypeId} {e:E} {v:Value} (ht:T.ty t≠.other) (he:ERel T w F ρ e v) (hh:Holds T t v v.cells) (h1:∀ c∈v.cells,c.oneCell'=true) (hd:∀ u x,e=.data u x→u=t) :
 Rel T (w.alloc (.cells v.cells t)) F (zE ρ σ.ob.length (.var w.heap.size t)) w0 { σ with ob:=σ.ob++[.var t e] } a.tmps outs ∧
 ERel T (w.alloc (.cells v.cells t)) F (zE ρ σ.ob.length (.var w.heap.size t)) (.ptr σ.ob.length [] t) (.pointer (some ⟨w.heap.size,0,none⟩)):=by
 have hb:=VI w (.cells v.cells t)
 have hn:ρ σ.ob.length=.none:=hR.free _ (by simp)
 have hsz:(w.alloc (.cells v.cells t)).heap.size=w.heap.size+1:=by show (w.heap.push _).size=_;simp
 refine ⟨hR.push hb (fun _ x=>x) (fun b hF=>Nat.lt_of_lt_of_le (hR.fsub b hF) hb.size) (fun _ x _=>x) ?_ ?_,⟨w.heap.size,t,0,XD _ _ _,.nil,rfl⟩⟩
 · intro b hb'
   simp [RI.block] at hb'
   subst hb'
   exact ⟨Nat.le_refl _,by omega,fun hF=>Nat.lt_irrefl _ (hR.fsub _ hF)⟩
 · refine ⟨⟨rfl,ht,hd⟩,hR.below.size,fun hF=>Nat.lt_irrefl _ (hR.fsub _ hF),v.cells,t,v,heap_alloc_new w _,?_,hh,h1⟩
   exact he.mono (fun _ x=>x) (fun b hF=>hb.block b (hR.fsub b hF)) (QAR hn)
theorem UH (hR:Rel T w F ρ w0 σ a.tmps outs) (hb:Below w.heap.size w w') {e:TypeId} {l:List V} {r:Value} {xs:List Value} (hown:w'.ownsRow w.heap.size e (T.sz e) r l.length xs) (hf:FitsL T w' F (List.replicate l.length e) l xs) :
 Rel T w' F (zE ρ σ.ob.length (.row e r)) w0 { σ with ob:=σ.ob++[.row e l] } a.tmps outs ∧
 ERel T w' F (zE ρ σ.ob.length (.row e r)) (.sl σ.ob.length e 0 l.length false) r:=by
 have hlt:=hown.lt
 refine ⟨hR.push hb (fun _ x=>x) (fun b hF=>Nat.lt_of_lt_of_le (hR.fsub b hF) hb.size) (fun _ x _=>x) ?_ ?_,?_⟩
 · intro b hb'
   obtain ⟨h1,h2⟩:=hlt b hb'
   exact ⟨h1,h2,fun hF=>by have:=hR.fsub b hF;omega⟩
 · refine ⟨rfl,fun b hb' hF=>by have:=hR.fsub b hF;have:=(hlt b hb').1;omega,xs,⟨hown.1,?_⟩,hf⟩
   rcases hown.2 with h|⟨g,cap,cur,q1,q2,q3⟩
   · exact .inl h
   · exact .inr ⟨g,cap,cur,q1,Nat.le_trans hR.below.size q2,q3⟩
 · unfold ERel
   rw [XD]
   rcases hown.2 with ⟨rfl,h0⟩|⟨g,cap,cur,rfl,q2,q3,q4,_⟩
   · exact .inl ⟨rfl,rfl,rfl,h0⟩
   · exact .inr ⟨g,_,cap,0,rfl,by omega,q4,rfl,fun _=>rfl,.inr (by simp)⟩
theorem XH (cs ds:List Value) (off:Nat) (h:off+ds.length≤cs.length):(Qf cs off ds).length=cs.length:=by
 simp only [Qf,List.length_append,List.length_take,List.length_drop];omega
theorem vD (cs ds:List Value) (off n:Nat) (h:off+ds.length≤n) (hn:n≤cs.length):(Qf cs off ds).take n=Qf (cs.take n) off ds:=by
 unfold Qf
 rw [List.take_append,List.take_of_length_le (by simp;omega),List.take_take,Nat.min_eq_left (by omega),List.drop_take]
 congr 2
 simp only [List.length_append,List.length_take]
 omega
theorem QDp (hP:TabOk P T) (hR:Rel T w F ρ w0 σ a.tmps outs) {t:TypeId} {x y:Operand} {p e:E} {K:St→E→Prop} (hx:ERel T w F ρ p (a.eval x)) (hy:ERel T w F ρ e (a.eval y)) (h:QDq T σ t p e K) :
 ∃ σ' e',K σ' e'∧QCO P T w0 w a outs (.store t x y) σ' e':=by
 have run:∀ (b off:Nat) (cur:Array Value) (ct:TypeId),a.eval x=.pointer (some ⟨b,off,none⟩)→w.heap[b]?=some (.cells cur ct (0,0))→T.ty t≠.other→(a.eval y).cells.size=T.sz t→off+T.sz t≤cur.size →
  (∀ c∈(a.eval y).cells,c.oneCell'=true)→∀ o:Oper,o.op=.store t x y →
  (execOp a.eval o).run P w=.ok .skip (w.setRow b (Qf cur.toList off (a.eval y).cells.toList).toArray):=by
  intro b off cur ct hv hh ht hs hle h1 o ho
  have hst:=run_storeCells_at P b off ct (a.eval y).cells.toList 0 cur w hh (by simp;omega) (by simpa using h1)
  simp only [Nat.add_zero] at hst
  have hsz:(sizeOf t).run P w=.ok (a.eval y).cells.size w:=by rw [hs];exact ZS hP ht w
  simp [execOp,ho,hv,Instr.storeAt,Instr.sureAddr,storeVar,hsz,hst,Qf]
 unfold QDq at h
 split at h
 · rename_i i p t'
   obtain ⟨rfl,h⟩:=h
   split at h;rotate_left;· exact h.elim
   rename_i tv c ho
   have hil:i<σ.ob.length:=(List.getElem?_eq_some_iff.1 ho).1
   have hob:=hR.ob _ _ ho
   obtain ⟨b,root,off,p1,p2,p3⟩:=hx
   rw [p1] at hob
   obtain ⟨⟨q1,q1',q1''⟩,q2,q3,cs,ct,v,q4,q5,q6,q7⟩:=hob
   subst q1
   have hblk:(ρ i).block=some b:=by rw [p1];rfl
   split at h
   ·
    obtain ⟨hok,h⟩:=h
    cases p2
    obtain ⟨k1,k2⟩:=qQ hP.sized hy hok
    have hr:=run b 0 cs ct p3 q4 q1' k1.1 (by rw [q6.1];omega) k2
    have hspl:(Qf cs.toList 0 (a.eval y).cells.toList).toArray=(a.eval y).cells:=by
     apply Array.ext'
     simp only [Qf,List.take_zero,List.nil_append,Nat.zero_add]
     rw [List.drop_eq_nil_of_le (by simp [q6.1,k1.1])]
     simp
    rw [hspl] at hr
    refine ⟨_,_,h,w.setRow b (a.eval y).cells,F,ρ,undef,.skip,trivial,?_,.inr ⟨rfl,rfl⟩,hr,by simp [Xf]⟩
    refine hR.store hblk hil (fun k hk=>setRow_other w b k _ hk) (by simp [World.setRow]) rfl rfl rfl ?_
    rw [p1]
    refine ⟨⟨rfl,q1',fun u z hz=>?_⟩,q2,q3,(a.eval y).cells,ct,a.eval y,setRow_heap w b cs _ ct _ q4,?_,k1,k2⟩
    · subst hz
      simp only [QBC,Bool.and_eq_true,beq_iff_eq] at hok
      exact hok.1
    · exact hy.mono (fun _ x=>x) (fun k hF=>setRow_other w b k _ (fun e=>q3 (e▸hF))) (fun _ _=>rfl)
   · rename_i k p
     split at h
     rotate_left
     · rename_i ta l
       split at h;rotate_left;· exact h.elim
       obtain ⟨⟨rfl,hok⟩,h⟩:=h
       split at h;rotate_left;· exact h.elim
       obtain ⟨ts,vs,cs',hts,rfl,h5,h6⟩:=q5
       have hcs:cs'=cs:=by have:=q6.2;rw [if_pos (by rw [hts];rfl)] at this;simpa using this
       subst hcs
       obtain ⟨ho1,ho3⟩:ts[k]?=some t'∧off=T.offs ts k:=by
        cases p2 with
        | fld a1 a2 a3 =>
          cases a1
          rw [hts] at a2
          cases a2
          exact ⟨a3,Nat.zero_add _⟩
        | idx a1 a2 a3 =>
          cases a1
          rw [hts] at a2
          cases a2
       obtain ⟨k1,k2⟩:=qQ hP.sized hy hok
       have hle:=yK T ho1
       have hcl:cs'.size=T.szs ts:=by rw [q6.1];exact hP.sized.struct _ _ hts
       have hr:=run b off cs' ct p3 q4 (QBB hok) k1.1 (by rw [ho3,hcl];exact hle) k2
       have hoth:∀ k,F k→(w.setRow b (Qf cs'.toList off (a.eval y).cells.toList).toArray).heap[k]?=w.heap[k]?:=fun k hF=>setRow_other w b k _ (fun e=>q3 (e▸hF))
       have hj:=h6.set ho1 k1 k2
       rw [← ho3] at hj
       refine ⟨_,_,h,w.setRow b (Qf cs'.toList off (a.eval y).cells.toList).toArray,F,ρ,undef,.skip,trivial,?_,.inr ⟨rfl,rfl⟩,hr,by simp [Xf]⟩
       refine hR.store hblk hil (fun k hk=>setRow_other w b k _ hk) (by simp [World.setRow]) rfl rfl rfl ?_
       rw [p1]
       refine ⟨⟨rfl,q1',fun u z hz=>by cases hz⟩,q2,q3,(Qf cs'.toList off (a.eval y).cells.toList).toArray,ct,.agg (Qf cs'.toList off (a.eval y).cells.toList).toArray,setRow_heap w b cs' _ ct _ q4,⟨ts,vs.set k (a.eval y),_,hts,rfl,(h5.mono (fun _ x=>x) hoth (fun _ _=>rfl)).set (hy.mono (fun _ x=>x) hoth (fun _ _=>rfl)),by simpa using hj⟩,⟨?_,by rw [hts];rfl⟩,?_⟩
       · rw [List.size_toArray,hj.len];exact (hP.sized.struct _ _ hts).symm
       · intro c hc
         exact hj.ones c (by simpa using hc)
     · exact h.elim
     rename_i td v0
     split at h;rotate_left;· exact h.elim
     rename_i y0 hy0
     obtain ⟨cs',rfl,hA,hf⟩:=q5
     have:=q1'' _ _ rfl
     subst this
     have hcs:cs'=cs:=by have:=q6.2;rw [if_pos hA] at this;simpa using this
     subst hcs
     obtain ⟨f1,f2⟩:=XE hy hy0
     obtain ⟨g1,g2⟩:=p2.get hP.sized hf
     have hsz:(a.eval y).cells.size=T.sz t':=by simpa using f1.len hP.sized
     have hr:=run b off cs' ct p3 q4 f1.notOther hsz (by simpa using g2) (fun c hc=>f1.oneCell c (by simpa using hc))
     have hnew:=p2.put hP.sized hf f1
     refine ⟨_,_,h,w.setRow b (Qf cs'.toList off (a.eval y).cells.toList).toArray,F,ρ,undef,.skip,trivial,?_,.inr ⟨rfl,rfl⟩,hr,by simp [Xf]⟩
     refine hR.store hblk hil (fun k hk=>setRow_other w b k _ hk) (by simp [World.setRow]) rfl rfl rfl ?_
     rw [p1]
     have hnew':=hnew.mono (w':=w.setRow b (Qf cs'.toList off (a.eval y).cells.toList).toArray) (F':=F) (fun _ x=>x) (fun k hF=>setRow_other w b k _ (fun e=>q3 (e▸hF)))
     refine ⟨⟨rfl,q1',fun u z hz=>by cases hz;rfl⟩,q2,q3,(Qf cs'.toList off (a.eval y).cells.toList).toArray,ct,.agg (Qf cs'.toList off (a.eval y).cells.toList).toArray,setRow_heap w b cs' _ ct _ q4,⟨_,rfl,hA,by simpa using hnew'⟩,⟨?_,by rw [hA];rfl⟩,?_⟩
     · simpa using hnew'.len hP.sized
     · intro c hc
       exact hnew'.oneCell c (by simpa using hc)
 · rename_i i j p t'
   obtain ⟨rfl,h⟩:=h
   split at h
   rotate_left
   · rename_i e' l ho
     obtain ⟨⟨rfl,rfl,hok,hj⟩,h⟩:=h
     have hil:i<σ.ob.length:=(List.getElem?_eq_some_iff.1 ho).1
     have hob:=hR.ob _ _ ho
     obtain ⟨b,e'',n,cap,off,p1,p2,p3⟩:=hx
     rw [p1] at hob
     obtain ⟨rfl,q2,⟨z1,z2,z3⟩,xs,q3,q4,q5⟩:=hob
     have hblk:(ρ i).block=some b:=by rw [p1];rfl
     cases p2
     rcases q3.2 with ⟨q,_⟩|⟨b',cap',cur,hr,hb,hh,hn,hc,hs,htk⟩
     · cases q
     · cases hr
       obtain ⟨k1,k2⟩:=qQ hP.sized hy hok
       have hcell:(a.eval y).cells=#[a.eval y]∧(a.eval y).oneCell'=true:=by
        have:=k1.2
        rw [z2] at this
        simpa using this
       have hxl:xs.length=l.length*T.sz e'':=q3.1
       have hcl:cur.toList.length=cap*T.sz e'':=by simpa using hs
       rw [z1] at hxl hcl
       have hcur:cur.size=cap:=by rw [hs,z1,Nat.mul_one]
       have hrun:=run b (j*T.sz e''+0) cur e'' p3 hh z3 k1.1 (by rw [z1,hcur];omega) k2
       rw [hcell.1,z1,Nat.mul_one,Nat.add_zero] at hrun
       have hspl:Qf cur.toList j [a.eval y]=cur.toList.set j (a.eval y):=by
        unfold Qf
        rw [List.set_eq_take_append_cons_drop,if_pos (by omega),List.append_assoc]
        rfl
       have hrun:∀ o:Oper,o.op=.store e'' x y→(execOp a.eval o).run P w=.ok .skip (w.setRow b (cur.toList.set j (a.eval y)).toArray):=by
        rw [← hspl];exact hrun
       have hoth:∀ k,F k→(w.setRow b (cur.toList.set j (a.eval y)).toArray).heap[k]?=w.heap[k]?:=fun k hF=>setRow_other w b k _ (fun e=>q2 b rfl (e▸hF))
       refine ⟨_,_,h,w.setRow b (cur.toList.set j (a.eval y)).toArray,F,ρ,undef,.skip,trivial,?_,.inr ⟨rfl,rfl⟩,hrun,by simp [Xf]⟩
       refine hR.store hblk hil (fun k hk=>setRow_other w b k _ hk) (by simp [World.setRow]) rfl rfl rfl ?_
       rw [p1]
       refine ⟨rfl,q2,⟨z1,z2,z3⟩,xs.set j (a.eval y),⟨?_,.inr ⟨b,cap,(cur.toList.set j (a.eval y)).toArray,by simp,hb,setRow_heap w b cur _ e'' _ hh,by simpa using hn,hc,?_,?_⟩⟩,?_,?_⟩
       · rw [List.length_set,List.length_set,z1];omega
       · rw [List.size_toArray,List.length_set,z1];omega
       · rw [List.length_set,z1,Nat.mul_one,List.take_set,← htk,z1,Nat.mul_one]
       · exact (q4.mono (fun _ x=>x) hoth (fun _ _=>rfl)).set (hy.mono (fun _ x=>x) hoth (fun _ _=>rfl))
       · intro u hu
         rcases List.mem_or_eq_of_mem_set hu with hu|hu
         · exact q5 u hu
         · rw [hu];exact hcell.2
   · exact h.elim
   rename_i e' l ho
   split at h;rotate_left;· exact h.elim
   rename_i y0 hy0
   obtain ⟨hj,h⟩:=h
   have hil:i<σ.ob.length:=(List.getElem?_eq_some_iff.1 ho).1
   have hob:=hR.ob _ _ ho
   obtain ⟨b,e'',n,cap,off,p1,p2,p3⟩:=hx
   rw [p1] at hob
   obtain ⟨rfl,q2,xs,q3,q4⟩:=hob
   have hblk:(ρ i).block=some b:=by rw [p1];rfl
   rcases q3.2 with ⟨q,_⟩|⟨b',cap',cur,hr,hb,hh,hn,hc,hs,htk⟩
   · cases q
   · cases hr
     have hrep:(List.replicate l.length e'')[j]?=some e'':=by simp [hj]
     have hel:=q4.nth hP.sized hrep
     rw [Qv T _ j e'' (by omega)] at hel
     obtain ⟨f1,f2⟩:=XE hy hy0
     obtain ⟨g1,g2⟩:=p2.get hP.sized hel
     have hnew:=p2.put hP.sized hel f1
     have hsz:(a.eval y).cells.size=T.sz t':=by simpa using f1.len hP.sized
     have hell:=hel.len hP.sized
     have hxl:xs.length=l.length*T.sz e'':=q3.1
     have hjs:(j+1)*T.sz e''≤l.length*T.sz e'':=Nat.mul_le_mul_right _ hj
     have hjs':(j+1)*T.sz e''=j*T.sz e''+T.sz e'':=by rw [Nat.add_mul,Nat.one_mul]
     have hcapl:l.length*T.sz e''≤cap*T.sz e'':=Nat.mul_le_mul_right _ hn
     have hdl:(a.eval y).cells.toList.length=T.sz t':=by simpa using hsz
     have hcl:cur.toList.length=cap*T.sz e'':=by simpa using hs
     have hrun:=run b (j*T.sz e''+off) cur e'' p3 hh f1.notOther hsz (by rw [hs];omega) (fun c hc=>f1.oneCell c (by simpa using hc))
     have hoth:∀ k,F k→(w.setRow b (Qf cur.toList (j*T.sz e''+off) (a.eval y).cells.toList).toArray).heap[k]?=w.heap[k]?:=fun k hF=>setRow_other w b k _ (fun e=>q2 b rfl (e▸hF))
     refine ⟨_,_,h,w.setRow b (Qf cur.toList (j*T.sz e''+off) (a.eval y).cells.toList).toArray,F,ρ,undef,.skip,trivial,?_,.inr ⟨rfl,rfl⟩,hrun,by simp [Xf]⟩
     refine hR.store hblk hil (fun k hk=>setRow_other w b k _ hk) (by simp [World.setRow]) rfl rfl rfl ?_
     rw [p1]
     refine ⟨rfl,q2,Qf xs (j*T.sz e''+off) (a.eval y).cells.toList,⟨?_,.inr ⟨b,cap,(Qf cur.toList (j*T.sz e''+off) (a.eval y).cells.toList).toArray,by simp,hb,setRow_heap w b cur _ e'' _ hh,by simpa using hn,hc,?_,?_⟩⟩,?_⟩
     · rw [XH _ _ _ (by omega),List.length_set];exact hxl
     · rw [List.size_toArray,XH _ _ _ (by omega)];exact hcl
     · rw [List.length_set,vD _ _ _ _ (by omega) (by omega),htk]
     · have hset:=q4.setNth hP.sized hrep hnew
       rw [Qv T _ j e'' (by omega)] at hset
       have hss:=Wx xs ((xs.drop (j*T.sz e'')).take (T.sz e'')) (a.eval y).cells.toList (j*T.sz e'') off (by omega) (by omega) (by rw [hell])
       have hY:(Qf ((xs.drop (j*T.sz e'')).take (T.sz e'')) off (a.eval y).cells.toList).length=T.sz e'':=by rw [XH _ _ _ (by omega),hell]
       rw [← hss,List.length_set]
       generalize Qf ((xs.drop (j*T.sz e'')).take (T.sz e'')) off (a.eval y).cells.toList=Y at hset hY
       unfold Qf
       rw [hY]
       exact hset.mono (fun _ x=>x) hoth
 · exact h.elim
theorem x6 (hR:Rel T w F ρ w0 σ a.tmps outs) {t:TypeId}:∀ {xs:List Operand} {K:List V→Prop},xH T σ t xs K →
 ∃ vs,K vs∧FitsL T w F (List.replicate xs.length t) vs (xs.map fun x=>(a.eval x).cells.toList).flatten∧∀ x∈xs,∃ v,Fits T w F t v (a.eval x).cells.toList
 | [],K,h=>⟨[],h,.nil,by simp⟩
 | x::xs,K,h=>by
   unfold xH at h
   obtain ⟨e,h,he⟩:=QR hR h
   split at h;rotate_left;· exact h.elim
   rename_i v hv
   obtain ⟨vs,h1,h2,h3⟩:=x6 hR h
   have hf:=(XE (he rfl) hv).1
   refine ⟨v::vs,h1,?_,?_⟩
   · simp only [List.map_cons,List.flatten_cons,List.length_cons,List.replicate_succ]
     exact .cons hf h2
   · intro y hy
     rcases List.mem_cons.1 hy with rfl|hy
     · exact ⟨v,hf⟩
     · exact h3 y hy
theorem QFn (hP:TabOk P T) (hR:Rel T w F ρ w0 σ a.tmps outs) {e:TypeId} {ex:E} {x:Operand} {xs:List V} (hx:ERel T w F ρ ex (a.eval x)) (h:QAF σ e ex=some xs) :
 ((∃ ad c,a.eval x=.slice ad 0 c)∧xs=[])∨∃ b off cap cs F1,a.eval x=.slice (some ⟨b,off,none⟩) xs.length cap∧Seg w b off cs∧FitsL T w F1 (List.replicate xs.length e) xs cs∧(∀ b,F1 b→b<w.heap.size∧F b):=by
 unfold QAF at h
 split at h
 · rename_i e' l c
   split at h;rotate_left;· cases h
   rename_i he
   subst he
   cases h
   rcases hx with ⟨ad,c0,h1,h2,_⟩|⟨b,off,cap,cs,h1,h2,h3,h4,h5,h6⟩
   · exact .inl ⟨⟨ad,c0,h1⟩,h2⟩
   · exact .inr ⟨b,off,cap,cs,F,h1,h5,h6,fun b hb=>⟨hR.fsub b hb,hb⟩⟩
 · cases h
   exact .inl ⟨⟨_,_,hx⟩,rfl⟩
 · rename_i i e' lo n c
   split at h;rotate_left;· cases h
   rename_i he
   subst he
   split at h;rotate_left;· cases h
   rename_i e2 l ho
   cases h
   have hob:=hR.ob _ _ ho
   rcases hx with ⟨h1,h2,h3,h4⟩|⟨b,m,cap,off,h1,h2,h3,h4,h5,h6⟩
   · subst h4
     exact .inl ⟨⟨_,_,h2⟩,by simp⟩
   · rw [h1] at hob
     obtain ⟨rfl,q2,ys,q3,q4⟩:=hob
     rcases q3.2 with ⟨q,_⟩|⟨b',cap',cur,hr,hb,hh,hn,hc,hs,htk⟩
     · cases q
     · cases hr
       have hl:((l.drop lo).take n).length=n:=by simp;omega
       have hf:=q4.slice hP.sized (lo:=lo) (m:=n) (by omega)
       have hsz:=hf.len hP.sized
       rw [ZI] at hsz
       refine .inr ⟨b,off,_,(ys.drop (lo*T.sz e')).take (n*T.sz e'),F,by rw [hl];exact h4,?_,by rw [hl];exact hf,fun b hb=>⟨hR.fsub b hb,hb⟩⟩
       rcases h6 with h6|h6
       · subst h6
         intro j y hy
         simp at hy
       · have hys:Seg w b 0 ys:=by
          have:=Za (w:=w) hh 0 (l.length*T.sz e')
          rw [List.drop_zero,htk] at this
          exact this
         have:=hys.sub (lo*T.sz e') (n*T.sz e')
         rw [Nat.zero_add] at this
         rw [h6]
         exact this
 · cases h
variable {P:Program} {T:Tab} {w w':World} {w0:Base T} {F F':Nat→Prop} {ρ ρ':Nat→RI} {σ:St} {a:Act} {outs:List (Array Value)}
theorem QHG (w:World):Below w.heap.size w w.drew:=(Below.refl _ _).drew
theorem qh (hP:TabOk P T) {t e ty:TypeId} (ht:T.ty t=.slice e) {b off n cap:Nat} {olds:List Value} {base:Option Addr} (hbase:(base=none∧n=0∧cap=0∧olds=[])∨(base=some ⟨b,off,none⟩∧Seg w b off olds)∨(∃ ad,base=some ad∧n=0∧olds=[]))
 (hol:olds.length=n*T.sz e) {b' off' m c:Nat} {news:List Value} (hnl:news.length=m*T.sz e) (hns:Seg w b' off' news) (hm:0<m) (hg:cap<n+m) (hroom:Q3 T e (n+m)) :
 ∃ r w',(Builtin.append_ #[t,t] ty #[.slice base n cap,.slice (some ⟨b',off',none⟩) m c]).run P w=.ok r w'∧w'.ownsRow w.heap.size e (T.sz e) r (n+m) (olds++news)∧Below w.heap.size w w':=by
 obtain ⟨hu,hno⟩:=hP.slice _ _ ht
 obtain ⟨i,i1,i2,i3,z,i4,i5,i6,i7,_⟩:=hP.info e hno
 obtain ⟨r1,r2⟩:=hroom
 have h63:((n+m:Nat):Int)≤9223372036854775807:=by simp only [maxLen] at r1;omega
 have hol':olds.length=n*i.size:=by rw [i2];exact hol
 have hnl':news.length=m*i.size:=by rw [i2];exact hnl
 have hby:(n+m)*i.bytes≤140737488355328:=by rw [i3];exact r2
 have fin:∀ (old:Nat),∃ r w',Result.ok (.slice (some ⟨w.heap.size,0,none⟩) (n+m) (grownCap w (n+m) old e)) (w.drew.alloc (.cells (olds.toArray++news.toArray++Builtin.zeroCells z.cells (grownCap w (n+m) old e-(n+m))) e))=Result.ok r w' ∧
  w'.ownsRow w.heap.size e (T.sz e) r (n+m) (olds++news)∧Below w.heap.size w w':=by
  intro old
  have hge:=grownCap_ge w (n+m) old e
  have hcm:=grownCap_le_maxLen w (n+m) old e r1
  refine ⟨_,_,rfl,⟨?_,.inr ⟨w.heap.size,_,_,rfl,Nat.le_refl _,heap_alloc_new w.drew _,hge,hcm,?_,?_⟩⟩,(QHG w).alloc (Nat.le_refl _) _⟩
  · rw [List.length_append,hol,hnl,Nat.add_mul]
  · simp only [Array.size_append,List.size_toArray,size_zeroCells,hol,hnl,i5,← Nat.add_mul]
    congr 1
    omega
  · simp only [Array.toList_append,List.append_assoc]
    rw [← List.append_assoc]
    have hlen:(olds++news).length=(n+m)*T.sz e:=by rw [List.length_append,hol,hnl,Nat.add_mul]
    rw [← hlen]
    exact List.take_left
 rcases hbase with ⟨rfl,rfl,rfl,rfl⟩|⟨rfl,hs⟩|⟨ad,rfl,rfl,rfl⟩
 · have:=run_append_nil (P:=P) w t ty e i z hu i1 i4 ⟨b',off',none⟩ m c news hnl' (fun j v hv=>by rw [Zn];exact hns j v hv) hm (by simpa using h63) (by simp only [Nat.zero_add] at hby;omega)
   obtain ⟨r,w',h1,h2⟩:=fin 0
   refine ⟨r,w',?_,h2⟩
   rw [this,← h1]
   simp
 · have:=run_append_grow (P:=P) w t ty e i z hu i1 i4 ⟨b,off,none⟩ n cap olds hol' (fun j v hv=>by rw [Zn];exact hs j v hv) ⟨b',off',none⟩ m c news hnl' (fun j v hv=>by rw [Zn];exact hns j v hv) hg h63 (growslice_fits (by omega) hby)
   obtain ⟨r,w',h1,h2⟩:=fin cap
   exact ⟨r,w',by rw [this,← h1],h2⟩
 · have:=run_append_grow (P:=P) w t ty e i z hu i1 i4 ad 0 cap [] (by simp) (fun j v hv=>by simp at hv) ⟨b',off',none⟩ m c news hnl' (fun j v hv=>by rw [Zn];exact hns j v hv) hg h63 (growslice_fits (by omega) hby)
   obtain ⟨r,w',h1,h2⟩:=fin cap
   exact ⟨r,w',by rw [this,← h1],h2⟩
theorem zt (hP:TabOk P T) {t e ty:TypeId} (ht:T.ty t=.slice e) {base:Option Addr} {n cap m c:Nat} {x:Option Addr} (hn:n≤cap) (hx:(x=none∧m=0)∨m=0) (w:World) :
 (Builtin.append_ #[t,t] ty #[.slice base n cap,.slice x m c]).run P w=.ok (.slice base n cap) w:=by
 obtain ⟨hu,hno⟩:=hP.slice _ _ ht
 have hm:m=0:=by rcases hx with ⟨_,h⟩|h<;>exact h
 subst hm
 have hs:=fun W=>ZS (P:=P) hP hno W
 cases base<;>cases x<;>simp [Builtin.append_,run_underlying hu,hs,Builtin.lenOf,Builtin.firstCells,hn,storeCells,loadCells,loadCellsFrom]
theorem QIw (hR:Rel T w F ρ w0 σ a.tmps outs) {i:Nat} (hi:i<σ.ob.length) {e:TypeId} {l:List V} {r:Value} {ys:List Value} {r0:Value} (hr0:ρ i=.row e r0)
 (hw:∀ k,k<w.heap.size→r0.ownBlock≠some k→w'.heap[k]?=w.heap[k]?) (hs:w.heap.size≤w'.heap.size) (hos:w'.os=w.os) (htp:w'.tape=w.tape) (hout:w'.output=w.output)
 (hr:∀ b,r.ownBlock=some b→r0.ownBlock=some b∨(w.heap.size≤b∧b<w'.heap.size)) (hown:w'.ownsRow w0.w.heap.size e (T.sz e) r l.length ys) (hf:FitsL T w' F (List.replicate l.length e) l ys) :
 Rel T w' F (zE ρ i (.row e r)) w0 { (σ.kill i) with ob:=(σ.kill i).ob.set i (.row e l) } a.tmps outs∧ERel T w' F (zE ρ i (.row e r)) (.sl i e 0 l.length false) r:=by
 refine ⟨hR.move hi (fun k hk hb=>hw k hk (by rw [hr0] at hb;exact hb)) hs hos htp hout (fun b hb=>?_) ⟨rfl,fun b hb hF=>?_,ys,hown,hf⟩,?_⟩
 · rcases hr b hb with h|h
   · left;rw [hr0];exact h
   · exact .inr h
 · rcases hr b hb with h|h
   · have:(ρ i).block=some b:=by rw [hr0];exact h
     exact (hR.own this).2.1 hF
   · have:=hR.fsub b hF;omega
 · unfold ERel
   rw [XD]
   rcases hown.2 with ⟨rfl,h0⟩|⟨g,cap,cur,rfl,q2,q3,q4,_⟩
   · exact .inl ⟨rfl,rfl,rfl,h0⟩
   · exact .inr ⟨g,_,cap,0,rfl,by omega,q4,rfl,fun _=>rfl,.inr (by simp)⟩
theorem xl {base base':Nat} {e:TypeId} {size n:Nat} {v:Value} {xs:List Value} (h:w.ownsRow base e size v n xs) (hb:base'≤base):w.ownsRow base' e size v n xs:=by
 refine ⟨h.1,?_⟩
 rcases h.2 with h|⟨g,cap,cur,q1,q2,q3⟩
 · exact .inl h
 · exact .inr ⟨g,cap,cur,q1,Nat.le_trans hb q2,q3⟩
theorem yo (hP:TabOk P T) (hR:Rel T w F ρ w0 σ a.tmps outs) {t e:TypeId} (ht:T.ty t=.slice e) {c:Call} {s x:Operand} (hc:c.callee=.builtin .append) (hca:c.args=#[s,x]) (hct:c.argTypes=#[t,t])
 {es ex:E} {K:St→E→Prop} (hs:ERel T w F ρ es (a.eval s)) (hx:ERel T w F ρ ex (a.eval x)) (h:qi T σ e es ex K):∃ σ' e',K σ' e'∧QCO P T w0 w a outs (.call c) σ' e':=by
 have run:∀ (r:Value) (w':World),(∀ ty,(Builtin.append_ #[t,t] ty #[a.eval s,a.eval x]).run P w=.ok r w')→∀ o:Oper,o.op=.call c→(execOp a.eval o).run P w=.ok (.value r) w':=by
  intro r w' h1 o ho
  simp [execOp,ho,resolve,hc,hca,hct,invoke,builtin,h1 o.type]
 unfold qi at h
 split at h;· exact h.elim
 rename_i xs hxs
 have hel:(xs=[]∧∃ ad c',a.eval x=.slice ad 0 c')∨(0<xs.length∧∃ b' off' c' news,a.eval x=.slice (some ⟨b',off',none⟩) xs.length c'∧Seg w b' off' news∧news.length=xs.length*T.sz e ∧
  FitsL T w F (List.replicate xs.length e) xs news):=by
  rcases QFn hP hR hx hxs with ⟨⟨ad0,c0,h1⟩,h2⟩|⟨b,off,cap,cs,F1,h1,h2,h3,h4⟩
  · exact .inl ⟨h2,ad0,c0,h1⟩
  · by_cases hm:xs.length=0
    · rw [hm] at h1
      exact .inl ⟨List.eq_nil_of_length_eq_zero hm,_,_,h1⟩
    · have hsz:=h3.len hP.sized
      rw [ZI] at hsz
      exact .inr ⟨by omega,b,off,cap,cs,h1,h2,hsz,h3.mono (fun b hb=>(h4 b hb).2) (fun _ _=>rfl)⟩
 have hFw:∀ {w':World},Below w.heap.size w w'→∀ b,F b→w'.heap[b]?=w.heap[b]?:=fun hb b hF=>hb.block b (hR.fsub b hF)
 have run':∀ {b off n cap:Nat} {olds:List Value} {base:Option Addr} (_:a.eval s=.slice base n cap) (_:(base=none∧n=0∧cap=0∧olds=[])∨(base=some ⟨b,off,none⟩∧Seg w b off olds)∨(∃ ad,base=some ad∧n=0∧olds=[]))
  (_:olds.length=n*T.sz e) {b' off' m c':Nat} {news:List Value} (_:a.eval x=.slice (some ⟨b',off',none⟩) m c') (_:news.length=m*T.sz e) (_:Seg w b' off' news) (_:0<m) (_:cap<n+m) (_:Q3 T e (n+m)),
  ∃ r w',(∀ o:Oper,o.op=.call c→(execOp a.eval o).run P w=.ok (.value r) w')∧w'.ownsRow w.heap.size e (T.sz e) r (n+m) (olds++news)∧Below w.heap.size w w':=by
  intro b off n cap olds base e1 e2 e3 b' off' m c' news e4 e5 e6 e7 e8 e9
  obtain ⟨r,w',h1,h2,h3⟩:=qh (ty:=0) hP ht e2 e3 e5 e6 (c:=c') e7 e8 e9
  refine ⟨r,w',run r w' (fun ty=>?_),h2,h3⟩
  rw [e1,e4]
  exact h1
 split at h
 · rename_i i e' lo n cl
   obtain ⟨rfl,h⟩:=h
   split at h;rotate_left;· exact h.elim
   rename_i e2 l ho
   have hil:i<σ.ob.length:=(List.getElem?_eq_some_iff.1 ho).1
   have hob:=hR.ob _ _ ho
   obtain ⟨r0,hr0,rfl,q2,ys,q3,q4⟩:∃ r0,ρ i=.row e' r0∧e'=e2∧(∀ b,r0.ownBlock=some b→¬ F b)∧∃ xs,w.ownsRow w0.w.heap.size e2 (T.sz e2) r0 l.length xs∧FitsL T w F (List.replicate l.length e2) l xs:=by
    rcases hs with ⟨r1,_⟩|⟨b,n1,cap,off,r1,_⟩
    · rw [r1] at hob;obtain ⟨rfl,q2,ys,q3,q4⟩:=hob;exact ⟨_,r1,rfl,q2,ys,q3,q4⟩
    · rw [r1] at hob;obtain ⟨rfl,q2,ys,q3,q4⟩:=hob;exact ⟨_,r1,rfl,q2,ys,q3,q4⟩
   split at h
   ·
    obtain ⟨hn,hroom,h⟩:=h
    have hlen:(l.take n++xs).length=n+xs.length:=by simp;omega
    have hfl:FitsL T w F (List.replicate n e') (l.take n) (ys.take (n*T.sz e')):=by simpa using q4.slice hP.sized (lo:=0) (m:=n) (by omega)
    have hol:=hfl.len hP.sized
    rw [ZI] at hol
    have hown:w.ownsRow w0.w.heap.size e' (T.sz e') (a.eval s) n (ys.take (n*T.sz e'))∧(a.eval s).ownBlock=r0.ownBlock:=by
     rcases hs with ⟨r1,v1,_,n0⟩|⟨b,n1,cap,off,r1,b1,b2,v1,b3,_⟩
     · rw [hr0] at r1;cases r1
       subst n0
       rw [v1];simp;exact World.ownsRow_nil _ _ _ _
     · rw [hr0] at r1;cases r1
       have:=b3 rfl
       subst this
       rcases q3.2 with ⟨q,_⟩|⟨b',cap',cur,hr,hb,hh,hn',hc',hs',htk⟩
       · cases q
       · cases hr
         rw [v1]
         refine ⟨⟨hol,.inr ⟨b,cap,cur,rfl,hb,hh,by omega,hc',hs',?_⟩⟩,rfl⟩
         rw [← htk,List.take_take,Nat.min_eq_left (Nat.mul_le_mul_right _ hn)]
    have fin:∀ (r:Value) (w':World) (ds:List Value),(∀ k,k<w.heap.size→r0.ownBlock≠some k→w'.heap[k]?=w.heap[k]?)→w.heap.size≤w'.heap.size→w'.os=w.os→w'.tape=w.tape→w'.output=w.output →
     (∀ b,r.ownBlock=some b→r0.ownBlock=some b∨(w.heap.size≤b∧b<w'.heap.size))→w'.ownsRow w0.w.heap.size e' (T.sz e') r (n+xs.length) ds→FitsL T w' F (List.replicate (n+xs.length) e') (l.take n++xs) ds →
     (∀ o:Oper,o.op=.call c→(execOp a.eval o).run P w=.ok (.value r) w')→∃ σ' e',K σ' e'∧QCO P T w0 w a outs (.call c) σ' e':=by
     intro r w' ds g1 g2 g3 g4 g5 g6 g7 g8 g9
     have:=QIw (w':=w') hR hil (l:=l.take n++xs) (r:=r) (ys:=ds) hr0 g1 g2 g3 g4 g5 g6 (by rw [hlen];exact g7) (by rw [hlen];exact g8)
     rw [hlen] at this
     exact ⟨_,_,h,w',F,_,r,.value r,this.2,this.1,.inl rfl,g9,by simp [Xf]⟩
    have hrep:List.replicate (n+xs.length) e'=List.replicate n e'++List.replicate xs.length e':=by rw [List.replicate_append_replicate]
    rcases hel with ⟨rfl,ad,c',hv⟩|⟨hm,b',off',c',news,hv,hseg,hnl,hfn⟩
    ·
     obtain ⟨base,cap,hs',hcap⟩:∃ base cap,a.eval s=.slice base n cap∧n≤cap:=by
      rcases hown.1.2 with ⟨h1,h2⟩|⟨g,cap,cur,h1,_,_,h2,_⟩
      · exact ⟨none,0,by rw [h1,h2],by omega⟩
      · exact ⟨_,cap,h1,h2⟩
     refine fin (a.eval s) w (ys.take (n*T.sz e')) (fun _ _ _=>rfl) (Nat.le_refl _) rfl rfl rfl (fun b hb=>.inl (by rw [← hown.2];exact hb)) hown.1 (by simpa using hfl) (run _ w fun ty=>?_)
     rw [hs',hv]
     exact zt hP ht hcap (.inr rfl) w
    · rcases hown.1.2 with ⟨h1,h2⟩|⟨g,cap,cur,h1,hg,hh,h2,h3,h4,h5⟩
      ·
       subst h2
       obtain ⟨r,w',e1,e2,e3⟩:=run' (b:=0) (off:=0) (olds:=[]) h1 (.inl ⟨rfl,rfl,rfl,rfl⟩) (by simp) hv hnl hseg hm (by omega) (by simpa using hroom)
       refine fin r w' ([]++news) (fun k hk _=>e3.block k hk) e3.size e3.os e3.tape e3.output (fun b hb=>.inr (e2.lt b hb)) (xl e2 hR.below.size) ?_ e1
       simpa using hfn.mono (fun _ x=>x) (hFw e3)
      · by_cases hroom':n+xs.length≤cap
        ·
         obtain ⟨hu,hno⟩:=hP.slice _ _ ht
         obtain ⟨i0,i1,i2,_⟩:=hP.info e' hno
         have hfit:n*i0.size+news.length≤cur.size:=by rw [hnl,i2,h4,← Nat.add_mul];exact Nat.mul_le_mul_right _ hroom'
         have hone:∀ u∈news,u.oneCell'=true:=fun u hu=>by
          have:=hfn.onesL u hu
          exact this
         have hrun:=fun ty=>run_append_room (P:=P) w t ty e' i0 hu i1 g n cap cur hh ⟨b',off',none⟩ xs.length c' news (by rw [hnl,i2]) (fun j v hv=>by rw [Zn];exact hseg j v hv) hone hroom' hfit
         simp only [i2] at hrun
         have hgr:r0.ownBlock=some g:=by rw [← hown.2,h1];rfl
         refine fin (.slice (some ⟨g,0,none⟩) (n+xs.length) cap) (w.setRow g (cur.toList.take (n*T.sz e')++news++cur.toList.drop (n*T.sz e'+news.length)).toArray) (ys.take (n*T.sz e')++news) ?_ (by simp [World.setRow]) rfl rfl rfl (fun b hb=>.inl (by rw [hgr];simpa [Value.ownBlock] using hb)) ⟨?_,.inr ⟨g,cap,_,rfl,hg,setRow_heap w g cur _ e' _ hh,hroom',h3,?_,?_⟩⟩ ?_ (run _ _ fun ty=>by rw [h1,hv];exact hrun ty)
         · intro k hk hkg
           exact setRow_other w g k _ (fun e=>hkg (by rw [hgr,e]))
         · rw [List.length_append,hol,hnl,Nat.add_mul]
         · have:cur.toList.length=cap*T.sz e':=by simpa using h4
           simp only [List.size_toArray,List.length_append,List.length_take,List.length_drop]
           rw [i2] at hfit
           have hcl:cur.toList.length=cur.size:=by simp
           omega
         · rw [← h5]
           have hlen2:((cur.toList.take (n*T.sz e'))++news).length=(n+xs.length)*T.sz e':=by rw [h5,List.length_append,hol,hnl,Nat.add_mul]
           rw [← hlen2]
           exact List.take_left
         · rw [hrep]
           have hoth:∀ k,F k→(w.setRow g (cur.toList.take (n*T.sz e')++news++cur.toList.drop (n*T.sz e'+news.length)).toArray).heap[k]?=w.heap[k]?:=fun k hF=>setRow_other w g k _ (fun e=>q2 g hgr (e▸hF))
           exact (hfl.mono (fun _ x=>x) hoth).append (hfn.mono (fun _ x=>x) hoth)
        ·
         have hseg0:Seg w g 0 (ys.take (n*T.sz e')):=by
          have:=Za (w:=w) hh 0 (n*T.sz e')
          rw [List.drop_zero,h5] at this
          exact this
         obtain ⟨r,w',e1,e2,e3⟩:=run' h1 (.inr (.inl ⟨rfl,hseg0⟩)) hol hv hnl hseg hm (by omega) hroom
         refine fin r w' (ys.take (n*T.sz e')++news) (fun k hk _=>e3.block k hk) e3.size e3.os e3.tape e3.output (fun b hb=>.inr (e2.lt b hb)) (xl e2 hR.below.size) ?_ e1
         rw [hrep]
         exact (hfl.mono (fun _ x=>x) (hFw e3)).append (hfn.mono (fun _ x=>x) (hFw e3))
   ·
    obtain ⟨hn,hm,rfl,hroom,h⟩:=h
    have hlen:((l.drop lo).take n++xs).length=n+xs.length:=by simp;omega
    have hfl:=q4.slice hP.sized (lo:=lo) (m:=n) (by omega)
    have hol:=hfl.len hP.sized
    rw [ZI] at hol
    rcases hel with ⟨rfl,_⟩|⟨_,b',off',c',news,hv,hseg,hnl,hfn⟩
    · simp at hm
    obtain ⟨base,bb,off,hs',hbase⟩:∃ base bb off,a.eval s=.slice base n n∧((base=none∧n=0∧n=0∧(ys.drop (lo*T.sz e')).take (n*T.sz e')=[])∨(base=some ⟨bb,off,none⟩∧Seg w bb off ((ys.drop (lo*T.sz e')).take (n*T.sz e')))):=by
     rcases hs with ⟨r1,v1,_,n0⟩|⟨b,n1,cap,off,r1,b1,b2,v1,b3,b4⟩
     · subst n0
       exact ⟨none,0,0,v1,.inl ⟨rfl,rfl,rfl,by simp⟩⟩
     · rw [hr0] at r1;cases r1
       refine ⟨_,b,off,v1,.inr ⟨rfl,?_⟩⟩
       rcases q3.2 with ⟨q,_⟩|⟨b'',cap',cur,hr,hb,hh,hn',hc',hs',htk⟩
       · cases q
       · cases hr
         rcases b4 with b4|b4
         · subst b4
           intro j y hy
           simp at hy
         · have hys:Seg w b 0 ys:=by
            have:=Za (w:=w) hh 0 (l.length*T.sz e')
            rw [List.drop_zero,htk] at this
            exact this
           have:=hys.sub (lo*T.sz e') (n*T.sz e')
           rw [Nat.zero_add] at this
           rw [b4]
           exact this
    have hbase':(base=none∧n=0∧n=0∧(ys.drop (lo*T.sz e')).take (n*T.sz e')=[])∨(base=some ⟨bb,off,none⟩∧Seg w bb off ((ys.drop (lo*T.sz e')).take (n*T.sz e'))):=hbase
    obtain ⟨r,w',e1,e2,e3⟩:=run' hs' (hbase'.imp_right .inl) hol hv hnl hseg hm (by omega) hroom
    have:=UH hR e3 (l:=(l.drop lo).take n++xs) (by rw [hlen];exact e2) (by
     rw [hlen,← List.replicate_append_replicate]
     exact (hfl.mono (fun _ x=>x) (hFw e3)).append (hfn.mono (fun _ x=>x) (hFw e3)))
    rw [hlen] at this
    exact ⟨_,_,h,w',F,_,r,.value r,this.2,this.1,.inl rfl,e1,by simp [Xf]⟩
 ·
  obtain ⟨hroom,h⟩:=h
  have hs':a.eval s=.slice none 0 0:=hs
  rcases hel with ⟨rfl,ad,c',hv⟩|⟨hm,b',off',c',news,hv,hseg,hnl,hfn⟩
  · have:=UH (a:=a) hR (Below.refl _ _) (l:=([]:List V)) (World.ownsRow_nil _ _ e _) .nil
    refine ⟨_,_,h,w,F,_,.slice none 0 0,.value (.slice none 0 0),this.2,this.1,.inl rfl,run _ w fun ty=>?_,by simp [Xf]⟩
    rw [hs',hv]
    exact zt hP ht (Nat.le_refl 0) (.inr rfl) w
  · obtain ⟨r,w',e1,e2,e3⟩:=run' (b:=0) (off:=0) (olds:=[]) hs' (.inl ⟨rfl,rfl,rfl,rfl⟩) (by simp) hv hnl hseg hm (by omega) (by simpa using hroom)
    have:=UH hR e3 (l:=xs) (xs:=[]++news) (by simpa using e2) (by simpa using hfn.mono (fun _ x=>x) (hFw e3))
    exact ⟨_,_,h,w',F,_,r,.value r,this.2,this.1,.inl rfl,e1,by simp [Xf]⟩
 ·
  rename_i e' l cl
  obtain ⟨rfl,rfl,hm,hroom,h⟩:=h
  have hlen:(l++xs).length=l.length+xs.length:=by simp
  rcases hel with ⟨rfl,_⟩|⟨_,b',off',c',news,hv,hseg,hnl,hfn⟩
  · simp at hm
  rcases hs with ⟨ad0,c0,v1,rfl,had,hc0⟩|⟨b,off,cap,cs,v1,h2,h3,h4,h5,h6⟩
  · obtain rfl:=hc0 rfl
    obtain ⟨r,w',e1,e2,e3⟩:=run' (b:=0) (off:=0) (olds:=[]) v1 (by cases ad0 with|none=>exact .inl ⟨rfl,rfl,rfl,rfl⟩|some ad=>exact .inr (.inr ⟨ad,rfl,rfl,rfl⟩)) (by simp) hv hnl hseg hm (by omega) (by simpa using hroom)
    have:=UH hR e3 (l:=[]++xs) (xs:=[]++news) (by simpa using e2) (by simpa using hfn.mono (fun _ x=>x) (hFw e3))
    refine ⟨_,_,h,w',F,_,r,.value r,?_,this.1,.inl rfl,e1,by simp [Xf]⟩
    simpa using this.2
  · have hcap:=h3 rfl
    subst hcap
    have hol:=h6.len hP.sized
    rw [ZI] at hol
    obtain ⟨r,w',e1,e2,e3⟩:=run' v1 (.inr (.inl ⟨rfl,h5⟩)) hol hv hnl hseg hm (by omega) hroom
    have:=UH hR e3 (l:=l++xs) (by rw [hlen];exact e2) (by
     rw [hlen,← List.replicate_append_replicate]
     exact (h6.mono (fun _ x=>x) (hFw e3)).append (hfn.mono (fun _ x=>x) (hFw e3)))
    rw [hlen] at this
    exact ⟨_,_,h,w',F,_,r,.value r,this.2,this.1,.inl rfl,e1,by simp [Xf]⟩
 · exact h.elim
theorem QCN (hP:TabOk P T) (hR:Rel T w F ρ w0 σ a.tmps outs) {t e:TypeId} (ht:T.ty t=.slice e) {c:Call} {s x:Operand} (hc:c.callee=.builtin .append) (hca:c.args=#[s,x]) (hct:c.argTypes=#[t,t])
 {es ex:E} {K:St→E→Prop} (hs:ERel T w F ρ es (a.eval s)) (hx:ERel T w F ρ ex (a.eval x)) (hf:QET es=true) (h:qi T σ e es ex K):∃ nx w',(∀ o:Oper,o.op=.call c→(execOp a.eval o).run P w=.ok nx w')∧Below w.heap.size w w':=by
 have run:∀ (r:Value) (w':World),(∀ ty,(Builtin.append_ #[t,t] ty #[a.eval s,a.eval x]).run P w=.ok r w')→∀ o:Oper,o.op=.call c→(execOp a.eval o).run P w=.ok (.value r) w':=by
  intro r w' h1 o ho
  simp [execOp,ho,resolve,hc,hca,hct,invoke,builtin,h1 o.type]
 unfold qi at h
 split at h;· exact h.elim
 rename_i xs hxs
 have hel:(xs=[]∧∃ ad c',a.eval x=.slice ad 0 c')∨(0<xs.length∧∃ b' off' c' news,a.eval x=.slice (some ⟨b',off',none⟩) xs.length c'∧Seg w b' off' news∧news.length=xs.length*T.sz e):=by
  rcases QFn hP hR hx hxs with ⟨⟨ad0,c0,h1⟩,h2⟩|⟨b,off,cap,cs,F1,h1,h2,h3,h4⟩
  · exact .inl ⟨h2,ad0,c0,h1⟩
  · by_cases hm:xs.length=0
    · rw [hm] at h1
      exact .inl ⟨List.eq_nil_of_length_eq_zero hm,_,_,h1⟩
    · have hsz:=h3.len hP.sized
      rw [ZI] at hsz
      exact .inr ⟨by omega,b,off,cap,cs,h1,h2,hsz⟩
 split at h
 · simp [QET] at hf
 · obtain ⟨hroom,h⟩:=h
   have hs':a.eval s=.slice none 0 0:=hs
   rcases hel with ⟨rfl,ad,c',hv⟩|⟨hm,b',off',c',news,hv,hseg,hnl⟩
   · refine ⟨.value (.slice none 0 0),w,run (.slice none 0 0) w fun ty=>?_,Below.refl _ _⟩
     rw [hs',hv]
     exact zt hP ht (Nat.le_refl 0) (.inr rfl) w
   · obtain ⟨r,w',h1,h2,h3⟩:=qh (ty:=0) (b:=0) (off:=0) (n:=0) (cap:=0) hP ht (olds:=[]) (.inl ⟨rfl,rfl,rfl,rfl⟩) (by simp) hnl hseg (c:=c') hm (by omega) (by simpa using hroom)
     exact ⟨_,w',run r w' (fun ty=>by rw [hs',hv];exact h1),h3⟩
 · rename_i e' l cl
   obtain ⟨rfl,rfl,hm,hroom,h⟩:=h
   rcases hel with ⟨rfl,_⟩|⟨_,b',off',c',news,hv,hseg,hnl⟩
   · simp at hm
   rcases hs with ⟨ad0,c0,v1,rfl,had,hc0⟩|⟨b,off,cap,cs,v1,h2,h3,h4,h5,h6⟩
   · obtain rfl:=hc0 rfl
     obtain ⟨r,w',h1,h2,h3⟩:=qh (ty:=0) (b:=0) (off:=0) (n:=0) (cap:=0) (base:=ad0) hP ht (olds:=[]) (by cases ad0 with|none=>exact .inl ⟨rfl,rfl,rfl,rfl⟩|some ad=>exact .inr (.inr ⟨ad,rfl,rfl,rfl⟩)) (by simp) hnl hseg (c:=c') hm (by omega) (by simpa using hroom)
     exact ⟨_,w',run r w' (fun ty=>by rw [v1,hv];exact h1),h3⟩
   · have hcap:=h3 rfl
     subst hcap
     have hol:=h6.len hP.sized
     rw [ZI] at hol
     obtain ⟨r,w',g1,g2,g3⟩:=qh (ty:=0) (n:=l.length) (cap:=l.length) hP ht (.inr (.inl ⟨rfl,h5⟩)) hol hnl hseg (c:=c') hm (by omega) hroom
     exact ⟨_,w',run r w' (fun ty=>by rw [v1,hv];exact g1),g3⟩
 · exact h.elim
variable {P:Program} {T:Tab} {w w':World} {w0:Base T} {F F':Nat→Prop} {ρ ρ':Nat→RI} {σ:St} {a:Act} {outs:List (Array Value)}
theorem QCP (f:Operand→Value):∀ (ps:List (Nat × Operand)) (k:Nat),ps.map (·.1)=List.range' k ps.length→ps.map (fun (i,x)=>(i,f x))=((ps.map fun p=>f p.2).zipIdx k).map fun x=>(x.2,x.1)
 | [],_,_=>rfl
 | (i,x)::ps,k,h=>by
   simp only [List.map_cons,List.length_cons,List.range'_succ,List.cons.injEq] at h
   obtain ⟨rfl,h⟩:=h
   simp only [List.map_cons,List.zipIdx_cons]
   rw [QCP f ps (i+1) h]
theorem vj (w:World) {t e:TypeId} {i:TypeInfo} (hu:P.underlying t=some (.slice e)) (i1:P.info? e=some i) :
 (Instr.buildSlice t 0 #[]).run P w=.ok (.slice (some ⟨w.heap.size,0,none⟩) 0 0) (w.alloc (.cells #[] e)):=by
 have h0:∀ f:Nat→Value,Array.map f (Array.range 0)=#[]:=fun f=>Array.eq_empty_of_size_eq_zero (by simp)
 simp [Instr.buildSlice,run_underlying hu,sizeOf,typeInfo,i1,Instr.fill,newRow,h0]
theorem vw (hP:TabOk P T) (hR:Rel T w F ρ w0 σ a.tmps outs) {t e:TypeId} (ht:T.ty t=.slice e) {n:Nat} {parts:Array (Nat × Operand)} (hp:parts.toList.map (·.1)=List.range n) (hn:0<n) (hs:n*T.sz e≤2^24)
 {K:St→E→Prop} (h:xH T σ e (parts.toList.map (·.2)) fun vs=>K { σ with ob:=σ.ob++[.row e vs] } (.sl σ.ob.length e 0 n false)):∃ σ' e',K σ' e'∧QCO P T w0 w a outs (.buildSlice t n parts) σ' e':=by
 obtain ⟨hu,hno⟩:=hP.slice _ _ ht
 obtain ⟨i,i1,i2,i3,z,i4,i5,i6,i7,_⟩:=hP.info e hno
 have hse:=(hP.sized.slice _ _ ht).2
 obtain ⟨vs,h,hf,hall⟩:=x6 hR h
 have hlen:parts.toList.length=n:=by have:=congrArg List.length hp;simpa using this
 have hzip:=QCP a.eval parts.toList 0 (by rw [hp,hlen,List.range_eq_range'])
 have hvl:vs.length=n:=by have:=hf.lens;simpa [hlen] using this
 have hcells:∀ v∈parts.toList.map (fun p=>a.eval p.2),v.cells.size=T.sz e:=by
  intro v hv
  obtain ⟨p,hp1,rfl⟩:=List.mem_map.1 hv
  obtain ⟨y,hy⟩:=hall p.2 (List.mem_map.2 ⟨p,hp1,rfl⟩)
  simpa using hy.len hP.sized
 have hfill:=Great.fill_whole hse (parts.toList.map (fun p=>a.eval p.2)) ((Array.range (n*i.size)).map (z.cells[· % z.cells.size]!)) hcells (by simp only [List.length_map,hlen,Array.size_map,Array.size_range,i2])
 rw [← hzip] at hfill
 have hflat:((parts.toList.map fun p=>a.eval p.2).flatMap fun v=>v.cells.toList)=((parts.toList.map (·.2)).map fun x=>(a.eval x).cells.toList).flatten:=by
  rw [List.flatMap_def,List.map_map,List.map_map];rfl
 rw [hflat] at hfill
 have hrun:=run_buildSlice (P:=P) w t e n (parts.map fun (i,x)=>(i,a.eval x)) _ i z hu i1 i4 (by rw [i2];omega) (by
  rw [i2]
  have:=Nat.mul_pos hn hse
  omega) (by rw [i2];simpa [i2] using hfill)
 have hll:=hf.len hP.sized
 rw [ZI,List.length_map,hlen] at hll
 have hcap:n≤maxLen:=by
  have:n*1≤n*T.sz e:=Nat.mul_le_mul_left n hse
  unfold maxLen;omega
 have hb:=VI w (.cells (((parts.toList.map (·.2)).map fun x=>(a.eval x).cells.toList).flatten).toArray e)
 have:=UH (a:=a) hR hb (l:=vs) (r:=.slice (some ⟨w.heap.size,0,none⟩) n n) (xs:=((parts.toList.map (·.2)).map fun x=>(a.eval x).cells.toList).flatten)
  (by
    rw [hvl]
    refine ⟨hll,.inr ⟨w.heap.size,n,_,rfl,Nat.le_refl _,heap_alloc_new w _,Nat.le_refl _,hcap,by simpa using hll,?_⟩⟩
    rw [List.take_of_length_le]
    · exact Nat.le_of_eq (by simpa using hll))
  (by
    rw [hvl]
    rw [List.length_map,hlen] at hf
    exact hf.mono (fun _ x=>x) (fun b hF=>hb.block b (hR.fsub b hF)))
 rw [hvl] at this
 exact ⟨_,_,h,_,F,_,_,.value _,this.2,this.1,.inl rfl,fun o ho=>by simp [execOp,ho,hrun],fun _=>hb⟩
theorem wx (hP:TabOk P T) (hR:Rel T w F ρ w0 σ a.tmps outs) {t e:TypeId} (ht:T.ty t=.slice e) {n:Nat} {parts:Array (Nat × Operand)} (hp:parts.toList.map (·.1)=List.range n) (hs:n*T.sz e≤2^24)
 {K:St→E→Prop} (h:xH T σ e (parts.toList.map (·.2)) fun vs=>K { σ with ob:=σ.ob++[.row e vs] } (.sl σ.ob.length e 0 n false)):∃ σ' e',K σ' e'∧QCO P T w0 w a outs (.buildSlice t n parts) σ' e':=by
 rcases Nat.eq_zero_or_pos n with hn|hn
 · subst hn
   have hpn:parts=#[]:=by
    have h1:=congrArg List.length hp
    have:parts.toList=[]:=List.eq_nil_of_length_eq_zero (by simpa using h1)
    exact Array.toList_eq_nil_iff.1 this
   subst hpn
   obtain ⟨hu,hno⟩:=hP.slice _ _ ht
   obtain ⟨i,i1,_⟩:=hP.info e hno
   have hrun:=vj (P:=P) w hu i1
   have hb:=VI w (.cells #[] e)
   have:=UH (a:=a) hR hb (l:=[]) (r:=.slice (some ⟨w.heap.size,0,none⟩) 0 0) (xs:=[])
    ⟨by simp,.inr ⟨w.heap.size,0,#[],rfl,Nat.le_refl _,heap_alloc_new w _,Nat.le_refl _,by unfold maxLen;omega,by simp,by simp⟩⟩ .nil
   exact ⟨_,_,h,_,F,_,_,.value _,this.2,this.1,.inl rfl,fun o ho=>by simp [execOp,ho,hrun],fun _=>hb⟩
 · exact vw hP hR ht hp hn hs h
theorem QCv (hP:TabOk P T) {e:TypeId} {n:Nat} {z:Value} (hz:Fits T w F e (T.zero e) z.cells.toList):FitsL T w F (List.replicate n e) (List.replicate n (T.zero e)) (madeCells z.cells (n*T.sz e)).toList:=by
 have hzl:=hz.len hP.sized
 have hzs:z.cells.size=T.sz e:=by simpa using hzl
 refine FitsL.ofNth (by simp) (by simp [madeCells,ZI]) (fun k t hk=>?_)
 rw [List.getElem?_replicate] at hk
 split at hk;rotate_left;· cases hk
 rename_i hkn
 cases hk
 rw [Qv T n k _ (by omega)]
 have h1:(List.replicate n (T.zero e)).getD k default=T.zero e:=by simp [List.getD_eq_getElem?_getD,hkn]
 rw [h1]
 have h2:((madeCells z.cells (n*T.sz e)).toList.drop (k*T.sz e)).take (T.sz e)=z.cells.toList:=by
  apply List.ext_getElem?
  intro j
  rw [List.getElem?_take]
  split
  · rename_i hj
    have hlt:k*T.sz e+j<n*T.sz e:=by
     have:(k+1)*T.sz e≤n*T.sz e:=Nat.mul_le_mul_right _ hkn
     rw [Nat.add_mul,Nat.one_mul] at this
     omega
    have hmod:(k*T.sz e+j) % T.sz e=j:=by rw [Nat.add_comm,Nat.add_mul_mod_self_right,Nat.mod_eq_of_lt hj]
    have hjz:j<z.cells.size:=by omega
    simp [madeCells,hlt,hzs,hmod]
    rw [getElem!_pos z.cells j hjz,Array.getElem?_eq_getElem hjz]
  · rename_i hj
    rw [List.getElem?_eq_none (by omega)]
 rw [h2]
 exact hz
theorem vm (hP:TabOk P T) (hR:Rel T w F ρ w0 σ a.tmps outs) {t e:TypeId} (ht:T.ty t=.slice e) {l c:Operand} {n:Int} {k k':IntKind} (hl:a.eval l=.int k n) (hc:a.eval c=.int k' n) (h0:0≤n) (hroom:Q3 T e n.toNat)
 (hfn:T.ty e≠.fn) (hpt:∀ u,T.ty e≠.ptr u)
 {K:St→E→Prop} (h:K { σ with ob:=σ.ob++[.row e (List.replicate n.toNat (T.zero e))] } (.sl σ.ob.length e 0 n.toNat false)):∃ σ' e',K σ' e'∧QCO P T w0 w a outs (.makeSlice t l c) σ' e':=by
 obtain ⟨hu,hno⟩:=hP.slice _ _ ht
 obtain ⟨i,i1,i2,i3,z,i4,i5,i6,i7,i8,_⟩:=hP.info e hno
 have hse:=(hP.sized.slice _ _ ht).2
 obtain ⟨r1,r2⟩:=hroom
 obtain ⟨m,rfl⟩:=Int.eq_ofNat_of_zero_le h0
 simp only [Int.toNat_natCast] at *
 obtain ⟨w',g1,g2,g3⟩:=run_make_full (P:=P) w w.heap.size t e i z (T.sz e) hu i1 i4 i2 k k' m (by rw [i3,Nat.mul_comm];omega) r1 (Nat.le_refl _)
 have hb:Below w.heap.size w w':=⟨g3.os,g3.tape,g3.output,g3.size,fun b hb=>g3.block b hb (by simp)⟩
 have:=UH (a:=a) hR hb (l:=List.replicate m (T.zero e)) (by rw [List.length_replicate];exact g2) (by rw [List.length_replicate];exact QCv hP (i8 hfn hpt w' F))
 rw [List.length_replicate] at this
 exact ⟨_,_,h,w',F,_,_,.value _,this.2,this.1,.inl rfl,fun o ho=>by simp [execOp,ho,hl,hc,g1],fun _=>hb⟩
theorem QEc (hP:TabOk P T) (hR:Rel T w F ρ w0 σ a.tmps outs) {t e:TypeId} (ht:T.ty t=.slice e) {c:Call} {s:Operand} (hc:c.callee=.builtin .clear) (hca:c.args=#[s]) (hct:c.argTypes=#[t])
 {es:E} {K:St→E→Prop} (hs:ERel T w F ρ es (a.eval s)) (h:QEd T σ e es K):∃ σ' e',K σ' e'∧QCO P T w0 w a outs (.call c) σ' e':=by
 obtain ⟨hu,hno⟩:=hP.slice _ _ ht
 have run:∀ (r:Value) (w':World),(∀ ty,(Builtin.clear_ #[t] ty #[a.eval s]).run P w=.ok r w')→∀ o:Oper,o.op=.call c→(execOp a.eval o).run P w=.ok (.value r) w':=by
  intro r w' h1 o ho
  simp [execOp,ho,resolve,hc,hca,hct,invoke,builtin,h1 o.type]
 unfold QEd at h
 split at h;rotate_left;· exact h.elim
 rename_i i e' lo n cl
 obtain ⟨rfl,hfn,hpt,h⟩:=h
 split at h;rotate_left;· exact h.elim
 rename_i e2 l ho
 obtain ⟨hle,h⟩:=h
 have hil:i<σ.ob.length:=(List.getElem?_eq_some_iff.1 ho).1
 have hob:=hR.ob _ _ ho
 have same:lo+n=lo→({ σ with ob:=σ.ob.set i (.row e' (l.take lo++List.replicate n (T.zero e')++l.drop (lo+n))) }:St)={ σ with ob:=σ.ob.set i (.row e' l) }:=by
  intro h0
  have:n=0:=by omega
  subst this
  simp
 have keep:e2=e'→({ σ with ob:=σ.ob.set i (.row e' l) }:St)=σ:=by
  intro h0
  subst h0
  have:σ.ob.set i (.row e2 l)=σ.ob:=by
   apply List.ext_getElem?
   intro j
   rw [List.getElem?_set]
   split
   · rename_i hj;subst hj;first|exact ho.symm|(rw [if_pos hil];exact ho.symm)
   · rfl
  rw [this]
 rcases hs with ⟨h1,h2,rfl,rfl⟩|⟨b,m,cap,off,h1,h2,h3,h4,h5,h6⟩
 · rw [h1] at hob
   obtain ⟨rfl,q2,xs,q3,q4⟩:=hob
   rw [same rfl,keep rfl] at h
   exact ⟨_,_,h,w,F,ρ,.tuple #[],.value _,⟨[],rfl,trivial⟩,hR,.inl rfl,run _ _ (fun ty=>by rw [h2];simp [Builtin.clear_,run_underlying hu]),fun hm=>by simp [Xf] at hm⟩
 · rw [h1] at hob
   obtain ⟨rfl,q2,xs,q3,q4⟩:=hob
   by_cases hn0:n=0
   · subst hn0
     rw [same rfl,keep rfl] at h
     exact ⟨_,_,h,w,F,ρ,.tuple #[],.value _,⟨[],rfl,trivial⟩,hR,.inl rfl,run _ _ (fun ty=>by rw [h4];simp [Builtin.clear_,run_underlying hu]),fun hm=>by simp [Xf] at hm⟩
   · have hblk:(ρ i).block=some b:=by rw [h1];rfl
     rcases q3.2 with ⟨q,_⟩|⟨b',cap',cur,hr,hb,hh,hn,hcp,hsz,htk⟩
     · cases q
     cases hr
     have hoff:off=lo*T.sz e':=by rcases h6 with h6|h6<;>omega
     subst hoff
     obtain ⟨WU,i1,i2,i3,z,i4,i5,i6,i7,i8,_⟩:=hP.info e' hno
     have hzf:=i8 hfn hpt w F
     have hZ:=QCv (n:=n) hP hzf
     have hzs:z.cells.size=T.sz e':=by simpa using hzf.len hP.sized
     have hxl:xs.length=l.length*T.sz e':=q3.1
     have hml:(lo+n)*T.sz e'≤l.length*T.sz e':=Nat.mul_le_mul_right _ hle
     rw [Nat.add_mul] at hml
     have hcapl:l.length*T.sz e'≤cap*T.sz e':=Nat.mul_le_mul_right _ hn
     have hcl:cur.toList.length=cap*T.sz e':=by simpa using hsz
     have hZl:(madeCells z.cells (n*T.sz e')).toList.length=n*T.sz e':=by simp [madeCells]
     have hst:=run_storeCells_at P b (lo*T.sz e') e' (madeCells z.cells (n*T.sz e')).toList 0 cur w hh (by rw [hZl,← Array.length_toList,hcl];omega) (fun v hv=>hZ.onesL v hv)
     simp only [Nat.add_zero] at hst
     have hzc:Builtin.zeroCells z.cells n=madeCells z.cells (n*T.sz e'):=by rw [← hzs];rfl
     have hzv:∀ W,(zeroValue e').run P W=.ok z W:=fun W=>by simp [zeroValue,typeInfo,i1,i4]
     have hrun:∀ o:Oper,o.op=.call c→(execOp a.eval o).run P w=.ok (.value (.tuple #[])) (w.setRow b (Qf cur.toList (lo*T.sz e') (madeCells z.cells (n*T.sz e')).toList).toArray):=by
      refine run _ _ (fun ty=>?_)
      obtain ⟨n',rfl⟩:∃ n',n=n'+1:=⟨n-1,by omega⟩
      rw [h4]
      simp [Builtin.clear_,run_underlying hu,hzv,hzc,hst,Qf]
     have hoth:∀ k,F k→(w.setRow b (Qf cur.toList (lo*T.sz e') (madeCells z.cells (n*T.sz e')).toList).toArray).heap[k]?=w.heap[k]?:=fun k hF=>setRow_other w b k _ (fun e=>q2 b rfl (e▸hF))
     refine ⟨_,_,h,w.setRow b (Qf cur.toList (lo*T.sz e') (madeCells z.cells (n*T.sz e')).toList).toArray,F,ρ,.tuple #[],.value _,⟨[],rfl,trivial⟩,?_,.inl rfl,hrun,by simp [Xf]⟩
     refine hR.store hblk hil (fun k hk=>setRow_other w b k _ hk) (by simp [World.setRow]) rfl rfl rfl ?_
     rw [h1]
     have hll:(l.take lo++List.replicate n (T.zero e')++l.drop (lo+n)).length=l.length:=by simp;omega
     refine ⟨rfl,q2,Qf xs (lo*T.sz e') (madeCells z.cells (n*T.sz e')).toList,⟨?_,.inr ⟨b,cap,(Qf cur.toList (lo*T.sz e') (madeCells z.cells (n*T.sz e')).toList).toArray,by rw [hll],hb,setRow_heap w b cur _ e' _ hh,by rw [hll];exact hn,hcp,?_,?_⟩⟩,?_⟩
     · rw [XH _ _ _ (by omega),hll];exact hxl
     · rw [List.size_toArray,XH _ _ _ (by omega)];exact hcl
     · rw [hll,vD _ _ _ _ (by omega) (by omega),htk]
     · have e1:List.replicate l.length e'=List.replicate lo e'++List.replicate n e'++List.replicate (l.length-(lo+n)) e':=by
        rw [List.replicate_append_replicate,List.replicate_append_replicate];congr 1;omega
       rw [hll,e1]
       have f1:=q4.slice hP.sized (lo:=0) (m:=lo) (by omega)
       have f3:=q4.slice hP.sized (lo:=lo+n) (m:=l.length-(lo+n)) (by omega)
       rw [Nat.zero_mul,List.drop_zero,List.drop_zero] at f1
       rw [List.take_of_length_le (l:=l.drop (lo+n)) (by simp),List.take_of_length_le (l:=xs.drop _) (by rw [List.length_drop,hxl,Nat.sub_mul];omega)] at f3
       have e5:Qf xs (lo*T.sz e') (madeCells z.cells (n*T.sz e')).toList=xs.take (lo*T.sz e')++(madeCells z.cells (n*T.sz e')).toList++xs.drop ((lo+n)*T.sz e'):=by
        unfold Qf
        rw [hZl,← Nat.add_mul]
       rw [e5]
       exact ((f1.append hZ).append f3).mono (fun _ x=>x) hoth
theorem PathOk.same {root t t':TypeId} {p:List Nat} {off off':Nat} (h:PathOk T root p off t) (h':PathOk T root p off' t'):off=off'∧t=t':=by
 induction h generalizing off' t' with
 | nil=>cases h';exact ⟨rfl,rfl⟩
 | fld h1 h2 h3 ih =>
   cases h' with
   | fld g1 g2 g3 =>
     obtain ⟨rfl,rfl⟩:=ih g1
     rw [h2] at g2
     cases g2
     rw [h3] at g3
     cases g3
     exact ⟨rfl,rfl⟩
   | idx g1 g2 g3 =>
     obtain ⟨rfl,rfl⟩:=ih g1
     rw [h2] at g2
     cases g2
 | idx h1 h2 h3 ih =>
   cases h' with
   | fld g1 g2 g3 =>
     obtain ⟨rfl,rfl⟩:=ih g1
     rw [h2] at g2
     cases g2
   | idx g1 g2 g3 =>
     obtain ⟨rfl,rfl⟩:=ih g1
     rw [h2] at g2
     cases g2
     exact ⟨rfl,rfl⟩
theorem QFu (hP:TabOk P T) (hR:Rel T w F ρ w0 σ a.tmps outs) {t e:TypeId} (ht:T.ty t=.slice e) (h1s:T.sz e=1) {c:Call} {d s:Operand} (hc:c.callee=.builtin .copy) (hca:c.args=#[d,s]) (hct:c.argTypes=#[t,t])
 {ed es:E} {K:St→E→Prop} (hd:ERel T w F ρ ed (a.eval d)) (hs:ERel T w F ρ es (a.eval s)) (h:QID T σ e ed es K):∃ σ' e',K σ' e'∧QCO P T w0 w a outs (.call c) σ' e':=by
 obtain ⟨hu,hno⟩:=hP.slice _ _ ht
 unfold QID at h
 split at h;rotate_left;· exact h.elim
 rename_i i p ta lo i' p' ta' lo'
 obtain ⟨rfl,rfl,rfl,h⟩:=h
 split at h;rotate_left;· exact h.elim
 rename_i n e' hta
 obtain ⟨⟨rfl,hnm⟩,h⟩:=h
 split at h;rotate_left;· exact h.elim
 rename_i tv td v ho
 have hil:i'<σ.ob.length:=(List.getElem?_eq_some_iff.1 ho).1
 have hob:=hR.ob _ _ ho
 obtain ⟨b,root,off,n1,e1,p1,p2,p3,p4,p5⟩:=hd
 obtain ⟨b2,root2,off2,n2,e2,r1,r2,r3,r4,r5⟩:=hs
 rw [hta] at p3 r3
 cases p3
 cases r3
 rw [p1] at r1
 cases r1
 rw [p1] at hob
 obtain ⟨⟨q1,q1',q1''⟩,q2,q3,cs,ct,v',q4,q5,q6,q7⟩:=hob
 have hblk:(ρ i').block=some b:=by rw [p1];rfl
 obtain ⟨cs',rfl,hA,hf⟩:=q5
 have:=q1'' _ _ rfl
 subst this
 subst q1
 have hcs:cs'=cs:=by have:=q6.2;rw [if_pos hA] at this;simpa using this
 subst hcs
 obtain ⟨g1,g2⟩:=p2.get hP.sized hf
 obtain ⟨rfl,_⟩:=p2.same r2
 have hsa:=hP.sized.arr _ _ _ hta
 obtain ⟨WU,i1,i2,i3,_⟩:=hP.info e' hno
 obtain ⟨l,hg,f⟩:=g1.inv' hta
 rw [h1s,Nat.mul_one] at p5 r5
 have hsz:T.sz ta'=n:=by rw [hsa,ZI,h1s,Nat.mul_one]
 rw [hsz] at f g2
 have hl:=f.lens
 rw [List.length_replicate] at hl
 obtain ⟨m,hm⟩:∃ m,m=min (n-lo') (n-lo):=⟨_,rfl⟩
 have src:(List.take m (List.drop (off+lo') cs'.toList)).length=m:=by rw [List.length_take,List.length_drop];omega
 have hsg:Seg w b 0 cs'.toList:=by
  intro j x hx
  simp only [World.cell?,q4]
  simpa using hx
 have hcp:∀ ty,(Builtin.copy_ #[t,t] ty #[a.eval d,a.eval s]).run P w=.ok (goInt m) (w.setRow b (Qf cs'.toList (off+lo) (List.take m (List.drop (off+lo') cs'.toList))).toArray):=by
  intro ty
  rw [p5,r5]
  have:=run_copy_row (P:=P) w t t ty e' b (off+lo) (n-lo) (n-lo) ⟨b,off+lo',none⟩ (n-lo') (n-lo') cs' ct (List.take m (List.drop (off+lo') cs'.toList)) hu (by rw [i1];simp [i2,h1s]) q4 (by rw [src,hm]) ?_ (by rw [src,← Array.length_toList];omega) (fun v hv=>q7 v (by simpa using List.mem_of_mem_drop (List.mem_of_mem_take hv)))
  · rw [this]
    simp only [Qf,src]
  · intro j v hv
    rw [Zn]
    rw [List.getElem?_take] at hv
    split at hv;rotate_left;· cases hv
    rw [List.getElem?_drop] at hv
    simpa using hsg _ _ hv
 have hinl:((cs'.toList.drop off).take n).length=n:=by rw [List.length_take,List.length_drop];omega
 have hsrc:(((cs'.toList.drop off).take n).drop lo').take m=List.take m (List.drop (off+lo') cs'.toList):=by
  rw [List.drop_take,List.take_take,List.drop_drop,Nat.min_eq_left (by omega)]
 have f1:=f.slice hP.sized (lo:=0) (m:=lo) (by omega)
 have f2:=f.slice hP.sized (lo:=lo') (m:=m) (by omega)
 have f3:=f.slice hP.sized (lo:=lo+m) (m:=n-(lo+m)) (by omega)
 simp only [h1s,Nat.mul_one,List.drop_zero] at f1 f2 f3
 rw [List.take_of_length_le (l:=l.drop _) (by rw [List.length_drop];omega),List.take_of_length_le (l:=List.drop (lo+m) _) (by rw [List.length_drop];omega)] at f3
 have e1:List.replicate n e'=List.replicate lo e'++List.replicate m e'++List.replicate (n-(lo+m)) e':=by
  rw [List.replicate_append_replicate,List.replicate_append_replicate];congr 1;omega
 have fm:Fits T w F ta' (.agg (QBH l lo lo' m)) (Qf ((cs'.toList.drop off).take n) lo (List.take m (List.drop (off+lo') cs'.toList))):=by
  refine .arr hta ?_
  rw [e1]
  unfold Qf
  rw [src,← hsrc]
  exact (f1.append f2).append f3
 have hput:=p2.put hP.sized hf fm
 rw [Wx _ _ _ _ _ (by rw [hinl];omega) (by rw [src,hinl];omega) (by rw [hinl])] at hput
 have hmv:(V.agg (QBH (v.get p').toList lo lo' (min (n-lo') (n-lo))))=.agg (QBH l lo lo' m):=by rw [hg,← hm];rfl
 rw [hmv,← hm] at h
 have hgo:IntKind.i64.has (m:Int):=by
  have:m≤maxLen:=by omega
  unfold maxLen at this
  simp [IntKind.has,IntKind.min,IntKind.max,IntKind.signed,IntKind.bits]
  omega
 have hrun:∀ o:Oper,o.op=.call c→(execOp a.eval o).run P w=.ok (.value (goInt m)) (w.setRow b (Qf cs'.toList (off+lo) (List.take m (List.drop (off+lo') cs'.toList))).toArray):=by
  intro o ho'
  simp [execOp,ho',resolve,hc,hca,hct,invoke,builtin,hcp o.type]
 have hcl:(Qf cs'.toList (off+lo) (List.take m (List.drop (off+lo') cs'.toList))).length=cs'.size:=by rw [XH _ _ _ (by rw [src];omega)];simp
 refine ⟨_,_,h,w.setRow b (Qf cs'.toList (off+lo) (List.take m (List.drop (off+lo') cs'.toList))).toArray,F,ρ,goInt m,.value _,⟨rfl,hgo⟩,?_,.inl rfl,hrun,by simp [Xf]⟩
 refine hR.store hblk hil (fun k hk=>setRow_other w b k _ hk) (by simp [World.setRow]) rfl rfl rfl ?_
 rw [p1]
 have hput':=hput.mono (w':=w.setRow b (Qf cs'.toList (off+lo) (List.take m (List.drop (off+lo') cs'.toList))).toArray) (F':=F) (fun _ x=>x) (fun k hF=>setRow_other w b k _ (fun e=>q3 (e▸hF)))
 refine ⟨⟨rfl,q1',fun u z hz=>by cases hz;rfl⟩,q2,q3,(Qf cs'.toList (off+lo) (List.take m (List.drop (off+lo') cs'.toList))).toArray,ct,.agg (Qf cs'.toList (off+lo) (List.take m (List.drop (off+lo') cs'.toList))).toArray,setRow_heap w b cs' _ ct _ q4,⟨_,rfl,hA,by simpa using hput'⟩,⟨?_,by rw [hA];rfl⟩,?_⟩
 · rw [List.size_toArray,hcl];exact q6.1
 · intro c hc
   exact hput'.oneCell c (by simpa using hc)
theorem QBU (hP:TabOk P T) (hR:Rel T w F ρ w0 σ a.tmps outs) {op:Op} {K:St→E→Prop} (h:zl T σ op K):∃ σ' e,K σ' e∧QCO P T w0 w a outs op σ' e:=by
 unfold zl at h
 split at h
 · rename_i t
   obtain ⟨ht,h⟩:=h
   obtain ⟨i,i1,i2,i3,z,i4,i5,i6,i7,_⟩:=hP.info t ht
   obtain ⟨z1,z2,z3,z4⟩:=QIS (w:=w) (F:=F) (ρ:=ρ) hP ht i1 i4
   obtain ⟨n1,n2⟩:=QHi hR ht z1 z2 z3 z4
   refine ⟨_,_,h,_,F,_,_,.value _,n2,n1,.inl rfl,fun o ho=>?_,fun _=>VI _ _⟩
   simp [execOp,ho,Instr.alloc,zeroValue,typeInfo,i1,i4,newVar,newRow]
 · rename_i t x
   obtain ⟨e,h,he⟩:=QR hR h
   obtain ⟨hok,h⟩:=h
   obtain ⟨k1,k2⟩:=qQ hP.sized (he rfl) hok
   obtain ⟨n1,n2⟩:=QHi hR (QBB hok) (he rfl) k1 k2 (fun u y hy=>by subst hy;simp only [QBC,Bool.and_eq_true,beq_iff_eq] at hok;exact hok.1)
   refine ⟨_,_,h,_,F,_,_,.value _,n2,n1,.inl rfl,fun o ho=>?_,fun _=>VI _ _⟩
   simp [execOp,ho,Instr.box,newVar,newRow]
 · rename_i t x y
   obtain ⟨p,h,hp⟩:=QR hR h
   obtain ⟨e,h,he⟩:=QR hR h
   exact QDp hP hR (hp rfl) (he rfl) h
 · rename_i t n parts
   split at h;rotate_left;· exact h.elim
   rename_i e ht
   obtain ⟨h1,h3,h4⟩:=h
   exact wx hP hR ht h1 h3 h4
 · rename_i t l c
   split at h;rotate_left;· exact h.elim
   rename_i e ht
   obtain ⟨el,h,hl⟩:=QR hR h
   obtain ⟨ec,h,hc⟩:=QR hR h
   split at h;rotate_left;· exact h.elim
   obtain ⟨rfl,h0,hr,hfn,hpt,h⟩:=h
   exact vm hP hR ht (hl rfl).1 (hc rfl).1 h0 hr hfn hpt h
 · rename_i c
   split at h
   · rename_i s x t t' hc hca hct
     obtain ⟨rfl,h⟩:=h
     split at h;rotate_left;· exact h.elim
     rename_i e ht
     obtain ⟨es,h,hs⟩:=QR hR h
     obtain ⟨ex,h,hx⟩:=QR hR h
     exact yo hP hR ht hc (by rw [← Array.toArray_toList (xs:=c.args),hca]) (by rw [← Array.toArray_toList (xs:=c.argTypes),hct]) (hs rfl) (hx rfl) h
   · rename_i s t hc hca hct
     split at h;rotate_left;· exact h.elim
     rename_i e ht
     obtain ⟨es,h,hs⟩:=QR hR h
     exact QEc hP hR ht hc (by rw [← Array.toArray_toList (xs:=c.args),hca]) (by rw [← Array.toArray_toList (xs:=c.argTypes),hct]) (hs rfl) h
   · rename_i d s t t' hc hca hct
     obtain ⟨rfl,h⟩:=h
     split at h;rotate_left;· exact h.elim
     rename_i e ht
     obtain ⟨⟨h1s,_⟩,h⟩:=h
     obtain ⟨ed,h,hd⟩:=QR hR h
     obtain ⟨es,h,hs⟩:=QR hR h
     exact QFu hP hR ht h1s hc (by rw [← Array.toArray_toList (xs:=c.args),hca]) (by rw [← Array.toArray_toList (xs:=c.argTypes),hct]) (hd rfl) (hs rfl) h
   · exact h.elim
 · exact h.elim
def QNi (T:Tab) (σ:St) (c:Call) (K:St→E→Prop):Prop:=match c.args.toList,c.argTypes.toList with
 | [s,x],[t,t']=>t'=t∧match T.ty t with
   | .slice e=>ZD σ true s fun es=>ZD σ true x fun ex=>QET es=true∧qi T σ e es ex K
   | _=>False
 | _,_=>False
theorem QHH (hP:TabOk P T) (hR:Rel T w F ρ w0 σ a.tmps outs) {c:Call} (hc:c.callee=.builtin .append) {K:St→E→Prop} (h:QNi T σ c K) :
 (∃ σ' e',K σ' e'∧QCO P T w0 w a outs (.call c) σ' e')∧∃ nx w',(∀ o:Oper,o.op=.call c→(execOp a.eval o).run P w=.ok nx w')∧Below w.heap.size w w':=by
 unfold QNi at h
 split at h
 · rename_i s x t t' hca hct
   obtain ⟨rfl,h⟩:=h
   split at h;rotate_left;· exact h.elim
   rename_i e ht
   obtain ⟨es,h,hs⟩:=QR hR h
   obtain ⟨ex,h,hx⟩:=QR hR h
   obtain ⟨hf,h⟩:=h
   have h1:c.args=#[s,x]:=by rw [← Array.toArray_toList (xs:=c.args),hca]
   have h2:c.argTypes=#[t',t']:=by rw [← Array.toArray_toList (xs:=c.argTypes),hct]
   exact ⟨yo hP hR ht hc h1 h2 (hs rfl) (hx rfl) h,QCN hP hR ht hc h1 h2 (hs rfl) (hx rfl) hf h⟩
 · exact h.elim
variable {P:Program} {T:Tab} {w w':World} {w0:Base T} {F F':Nat→Prop} {ρ ρ':Nat→RI} {σ:St} {a:Act} {outs:List (Array Value)}
def Xc (σ:St) (d:Option Tmp) (g:Bool) (K:St→Prop) (e:E):Prop:=match d with
 | some d=>d<σ.nt∧K { σ with tm:=(d,g,e)::σ.tm }
 | none=>K σ
def qr (d:Option Tmp) (K:St→Prop) (σ:St) (e:E):Prop:=Xc σ d true K e
theorem Q9 (hR:Rel T w F ρ w0 σ a.tmps outs) {d:Option Tmp} {g:Bool} {K:St→Prop} {e:E} {v:Value} (h:Xc σ d g K e) (h1:g=true→ERel T w F ρ e v) (h2:g=false→v=undef) :
 ∃ σ',K σ'∧Rel T w F ρ w0 σ' (a.put d v).tmps outs∧(a.put d v).defers=a.defers:=by
 cases d with
 | none=>exact ⟨σ,h,hR,rfl⟩
 | some d =>
   obtain ⟨hd,h⟩:=h
   refine ⟨_,h,⟨?_,hR.out,hR.ob,hR.free,hR.inj,hR.fsub,hR.below,by simp [Act.put,hR.size],hR.fold⟩,rfl⟩
   intro t g' e' he
   simp only [List.lookup_cons] at he
   by_cases htd:t=d
   · subst htd
     simp at he
     obtain ⟨rfl,rfl⟩:=he
     refine ⟨v,?_,h1,h2⟩
     simp [Act.put,hR.size,hd]
   · have:(t == d)=false:=by simpa using htd
     rw [this] at he
     obtain ⟨v',q1,q2,q3⟩:=hR.tm t g' e' he
     exact ⟨v',by simp [Act.put,Array.getElem?_setIfInBounds_ne (Ne.symm htd),q1],q2,q3⟩
structure SOp where
 dst:Option Tmp
 op:Op
 guard:Option (Tmp × Bool)
def QC (ops:Array Oper) (o:Oper):SOp:=⟨o.dst,o.op,match o.guard with
 | none=>none
 | some (j,want)=>some (((ops[j]?).bind (·.dst)).getD ops.size.succ.succ,want)⟩
def Yw (o:SOp) (σ:St) (K:Bool→Prop):Prop:=match o.guard with
 | none=>K true
 | some (d,want)=>match σ.tm.lookup d with
   | some (h,.bool b)=>K (h&&(b == want))
   | _=>False
theorem Wc (hR:Rel T w F ρ w0 σ a.tmps outs) {ops:Array Oper} {o:Oper} (hj:(match o.guard with|none=>true|some (j,_)=>((ops[j]?).bind (·.dst)).isSome)=true) {K:Bool→Prop} (h:Yw (QC ops o) σ K):∃ g,K g∧Region.wanted o (yielded ops a.tmps)=g:=by
 unfold Yw QC at h
 cases hg:o.guard with
 | none =>
   simp only [hg] at h
   exact ⟨true,h,by simp [Region.wanted,hg]⟩
 | some jw =>
   obtain ⟨j,want⟩:=jw
   simp only [hg] at h hj
   obtain ⟨d,hd⟩:=Option.isSome_iff_exists.1 hj
   simp only [hd,Option.getD_some] at h
   split at h
   · rename_i hh b hl
     refine ⟨_,h,?_⟩
     obtain ⟨v,q1,q2,q3⟩:=hR.tm _ _ _ hl
     simp only [Region.wanted,hg,yielded,hd,Option.bind_some]
     cases hh with
     | true =>
       have:v=.bool b:=q2 rfl
       subst this
       rw [q1]
       simp
     | false =>
       have:v=undef:=q3 rfl
       subst this
       rw [q1]
       simp [undef]
   · exact h.elim
def qk (P:Program) (f:FuncId):Prop:=∀ (args:Array Value) (w:World),(callFunc f args).run P w=.ok (.enter f args) w
def CallE (P:Program) (T:Tab) (σ:St) (f:FuncId) (es:List E) (K:St→E→Prop):Prop :=
 qk P f∧∀ (w0:Base T) (w:World) (F:Nat→Prop) (ρ:Nat→RI) (tmps:Array Value) (outs:List (Array Value)) (xs:List Value),Rel T w F ρ w0 σ tmps outs→ERelL T w F ρ es xs →
  Calls P f xs.toArray w fun en w'=>∃ v σ' e F' ρ',en=.returned v∧K σ' e∧ERel T w' F' ρ' e v∧Rel T w' F' ρ' w0 σ' tmps outs
def CallQ (P:Program) (T:Tab) (σ:St) (f:FuncId) (es:List E) (e:E):Prop :=
 qk P f∧∀ (w0:Base T) (w:World) (F:Nat→Prop) (ρ:Nat→RI) (tmps:Array Value) (outs:List (Array Value)) (xs:List Value),Rel T w F ρ w0 σ tmps outs→ERelL T w F ρ es xs →
  ∃ v,ERel T w F ρ e v∧∀ w',Below w.heap.size w w'→Calls P f xs.toArray w' fun en w''=>en=.returned v∧Below w'.heap.size w' w''
def QB2 (P:Program) (T:Tab) (σ:St) (g:Bool) (f:Operand) (args:List Operand) (d:Option Tmp) (K:St→Prop):Prop :=
 ZD σ g f fun ef=>vU σ g args fun es=>∃ fid caps,ef=.fn fid caps ∧
  ((∃ e,(g=true→CallQ P T σ fid (es++caps) e)∧Xc σ d g K e)∨((g=true→CallE P T σ fid (es++caps) (qr d K))∧(g=false→Xc σ d false K .undef)))
theorem ERelL.append:∀ {a b:List E} {x y:List Value},ERelL T w F ρ a x→ERelL T w F ρ b y→ERelL T w F ρ (a++b) (x++y)
 | [],_,[],_,_,h=>h
 | _::_,_,_::_,_,⟨h1,h2⟩,h=>⟨h1,ERelL.append h2 h⟩
 | [],_,_::_,_,h,_=>h.elim
 | _::_,_,[],_,h,_=>h.elim
theorem zP {f:FuncId} (hE:qk P f) {c:Call} {x:Operand} {caps:List Value} (hc:c.callee=.value x) (hx:a.eval x=.func (.func f) #[] caps.toArray) (W:World) (o:Oper) (ho:o.op=.call c) :
 (execOp a.eval o).run P W=.ok (.enter f (c.args.toList.map a.eval++caps).toArray) W:=by
 have hargs:c.args.map a.eval++caps.toArray=(c.args.toList.map a.eval++caps).toArray:=by
  apply Array.ext';simp
 simp [execOp,ho,resolve,hc,hx,Deferred.ofValue,invoke,hargs]
 exact hE _ _
def opG (P:Program) (T:Tab) (o:SOp) (K:St→Prop) (σ:St) (g:Bool):Prop:=match o.op with
 | .call c=>match c.callee with
   | .value f=>QB2 P T σ g f c.args.toList o.dst K
   | .builtin .append=>(g=true→zl T σ (.call c) (qr o.dst K))∧(g=false→Xc σ o.dst false K .undef)
   | .builtin .clear=>(g=true→zl T σ (.call c) (qr o.dst K))∧(g=false→Xc σ o.dst false K .undef)
   | .builtin .copy=>(g=true→zl T σ (.call c) (qr o.dst K))∧(g=false→Xc σ o.dst false K .undef)
   | .builtin _=>Vw T σ g (.call c) (Xc σ o.dst g K)
   | _=>False
 | .alloc t=>(g=true→zl T σ (.alloc t) (qr o.dst K))∧(g=false→Xc σ o.dst false K .undef)
 | .box t x=>(g=true→zl T σ (.box t x) (qr o.dst K))∧(g=false→Xc σ o.dst false K .undef)
 | .store t x y=>(g=true→zl T σ (.store t x y) (qr o.dst K))∧(g=false→Xc σ o.dst false K .undef)
 | .buildSlice t n ps=>(g=true→zl T σ (.buildSlice t n ps) (qr o.dst K))∧(g=false→Xc σ o.dst false K .undef)
 | .makeSlice t l c=>(g=true→zl T σ (.makeSlice t l c) (qr o.dst K))∧(g=false→Xc σ o.dst false K .undef)
 | op=>Vw T σ g op (Xc σ o.dst g K)
def QKn (P:Program) (T:Tab):List SOp→(St→Prop)→St→Prop
 | [],K,σ=>K σ
 | o::rest,K,σ=>Yw o σ (opG P T o (QKn P T rest K) σ)
def VV (T:Tab) (w0:Base T) (outs:List (Array Value)) (K:St→Prop) (a':Act) (w':World):Prop :=
 ∃ σ' F' ρ',K σ'∧a'.defers=[]∧Rel T w' F' ρ' w0 σ' a'.tmps outs
theorem QCn (hP:TabOk P T) (hR:Rel T w F ρ w0 σ a.tmps outs) (hd:a.defers=[]) {o:Oper} {g:Bool} {K:St→Prop} {N:Act→World→Prop} {Q:Exit→Act→World→Prop}
 (hN:∀ a' w',VV T w0 outs K a' w'→N a' w') (h:Vw T σ g o.op (Xc σ o.dst g K)):if g then o.wp P a w N Q else N (a.put o.dst undef) w:=by
 obtain ⟨e,h1,h2⟩:=UE hP hR h
 cases g with
 | true =>
   obtain ⟨v,hv,hr⟩:=h2 rfl
   obtain ⟨σ',hK,hR',hd'⟩:=Q9 hR h1 (fun _=>hv) (by simp)
   simp only [if_true,Oper.wp,hr w (Below.refl _ _) o rfl,Oper.upon]
   exact hN _ _ ⟨σ',F,ρ,hK,hd'.trans hd,hR'⟩
 | false =>
   obtain ⟨σ',hK,hR',hd'⟩:=Q9 (v:=undef) hR h1 (by simp) (fun _=>rfl)
   simp only [Bool.false_eq_true,if_false]
   exact hN _ _ ⟨σ',F,ρ,hK,hd'.trans hd,hR'⟩
theorem VF (hP:TabOk P T) (hR:Rel T w F ρ w0 σ a.tmps outs) (hd:a.defers=[]) {o:Oper} {g:Bool} {K:St→Prop} {N:Act→World→Prop} {Q:Exit→Act→World→Prop}
 (hN:∀ a' w',VV T w0 outs K a' w'→N a' w') (h:(g=true→zl T σ o.op (qr o.dst K))∧(g=false→Xc σ o.dst false K .undef)):if g then o.wp P a w N Q else N (a.put o.dst undef) w:=by
 cases g with
 | true =>
   obtain ⟨σ',e,h1,w',F',ρ',v,nx,h2,h3,h4,h5,_⟩:=QBU hP hR (h.1 rfl)
   obtain ⟨σ'',hK,hR',hd'⟩:=Q9 h3 h1 (fun _=>h2) (by simp)
   rcases h4 with rfl|⟨rfl,rfl⟩
   · simp only [if_true,Oper.wp,h5 o rfl,Oper.upon]
     exact hN _ _ ⟨σ'',F',ρ',hK,hd'.trans hd,hR'⟩
   · simp only [if_true,Oper.wp,h5 o rfl,Oper.upon]
     exact hN _ _ ⟨σ'',F',ρ',hK,hd'.trans hd,hR'⟩
 | false =>
   obtain ⟨σ',hK,hR',hd'⟩:=Q9 (v:=undef) hR (h.2 rfl) (by simp) (fun _=>rfl)
   simp only [Bool.false_eq_true,if_false]
   exact hN _ _ ⟨σ',F,ρ,hK,hd'.trans hd,hR'⟩
theorem QJr (hR:Rel T w F ρ w0 σ a.tmps outs) (hd:a.defers=[]) {o:Oper} {c:Call} {x:Operand} (ho:o.op=.call c) (hc:c.callee=.value x) {g:Bool} {K:St→Prop} {N:Act→World→Prop} {Q:Exit→Act→World→Prop}
 (hN:∀ a' w',VV T w0 outs K a' w'→N a' w') (h:QB2 P T σ g x c.args.toList o.dst K):if g then o.wp P a w N Q else N (a.put o.dst undef) w:=by
 obtain ⟨ef,h1,hf⟩:=QR hR h
 obtain ⟨es,h2,hes⟩:=WQ hR h1
 obtain ⟨fid,caps,rfl,h3⟩:=h2
 clear h h1
 cases g with
 | true =>
   obtain ⟨cs,hx,hcs⟩:=hf rfl
   have hall:=(hes rfl).append hcs
   rcases h3 with ⟨e,hq,hk⟩|⟨he,_⟩
   · obtain ⟨hE,hq⟩:=hq rfl
     obtain ⟨v,hv,hq⟩:=hq w0 w F ρ _ _ _ hR hall
     have hcall:=hq w (Below.refl _ _)
     simp only [if_true,Oper.wp,zP hE hc hx w o ho,Oper.upon]
     refine hcall.mono ?_
     rintro en w' ⟨rfl,hb⟩
     obtain ⟨σ',hK,hR',hd'⟩:=Q9 hR hk (fun _=>hv) (by simp)
     exact hN _ _ ⟨σ',F,ρ,hK,hd'.trans hd,hR'.later hb⟩
   · obtain ⟨hE,he⟩:=he rfl
     simp only [if_true,Oper.wp,zP hE hc hx w o ho,Oper.upon]
     refine (he w0 w F ρ _ _ _ hR hall).mono ?_
     rintro en w' ⟨v,σ',e,F',ρ',rfl,hk,hv,hR'⟩
     obtain ⟨σ'',hK,hR'',hd'⟩:=Q9 hR' hk (fun _=>hv) (by simp)
     exact hN _ _ ⟨σ'',F',ρ',hK,hd'.trans hd,hR''⟩
 | false =>
   simp only [Bool.false_eq_true,if_false]
   rcases h3 with ⟨e,_,hk⟩|⟨_,he⟩
   · obtain ⟨σ',hK,hR',hd'⟩:=Q9 (v:=undef) hR hk (by simp) (fun _=>rfl)
     exact hN _ _ ⟨σ',F,ρ,hK,hd'.trans hd,hR'⟩
   · obtain ⟨σ',hK,hR',hd'⟩:=Q9 (v:=undef) hR (he rfl) (by simp) (fun _=>rfl)
     exact hN _ _ ⟨σ',F,ρ,hK,hd'.trans hd,hR'⟩
theorem wc (hP:TabOk P T) (hR:Rel T w F ρ w0 σ a.tmps outs) (hd:a.defers=[]) {o:Oper} {g:Bool} {K:St→Prop} {N:Act→World→Prop} {Q:Exit→Act→World→Prop}
 (hN:∀ a' w',VV T w0 outs K a' w'→N a' w') {ops:Array Oper} (h:opG P T (QC ops o) K σ g):if g then o.wp P a w N Q else N (a.put o.dst undef) w:=by
 unfold opG at h
 have hop:(QC ops o).op=o.op:=rfl
 have hdst:(QC ops o).dst=o.dst:=rfl
 rw [hop,hdst] at h
 split at h
 · rename_i c hc
   split at h
   · rename_i f hf
     exact QJr hR hd hc hf hN h
   · exact VF hP hR hd hN (by rw [hc];exact h)
   · exact VF hP hR hd hN (by rw [hc];exact h)
   · exact VF hP hR hd hN (by rw [hc];exact h)
   · exact QCn hP hR hd hN (by rw [hc];exact h)
   · exact h.elim
 · rename_i hc;exact VF hP hR hd hN (by rw [hc];exact h)
 · rename_i hc;exact VF hP hR hd hN (by rw [hc];exact h)
 · rename_i hc;exact VF hP hR hd hN (by rw [hc];exact h)
 · rename_i hc;exact VF hP hR hd hN (by rw [hc];exact h)
 · rename_i hc;exact VF hP hR hd hN (by rw [hc];exact h)
 · exact QCn hP hR hd hN h
def YW (ops:Array Oper):Bool:=ops.toList.all fun o=>match o.guard with|none=>true|some (j,_)=>((ops[j]?).bind (·.dst)).isSome
theorem QBA (hP:TabOk P T) {ops:Array Oper} (hg:YW ops=true) {Q:Exit→Act→World→Prop} {K:St→Prop} (hQ:∀ a' w',VV T w0 outs K a' w'→Q .normal a' w') :
 ∀ (l:List Oper) (k:Nat),ops.toList.drop k=l→∀ {σ:St} {a:Act} {w:World} {F:Nat→Prop} {ρ:Nat→RI},Rel T w F ρ w0 σ a.tmps outs→a.defers=[]→QKn P T (l.map (QC ops)) K σ →
   wpOps P ops Q (List.range' k l.length) a w
 | [],k,_,σ,a,w,F,ρ,hR,hd,h=>hQ a w ⟨σ,F,ρ,h,hd,hR⟩
 | o::l,k,hk,σ,a,w,F,ρ,hR,hd,h=>by
   have ho:ops[k]?=some o:=by
    have:(ops.toList.drop k)[0]?=some o:=by rw [hk];rfl
    simpa using this
   have hk':ops.toList.drop (k+1)=l:=by
    have:=congrArg List.tail hk
    simpa using this
   simp only [List.length_cons,List.range'_succ,wpOps,ho]
   simp only [List.map_cons] at h
   unfold QKn at h
   have hgo:=List.all_eq_true.1 hg o (by rw [← List.take_append_drop k ops.toList,hk];simp)
   obtain ⟨g,h,hw⟩:=Wc hR hgo h
   have:=wc (Q:=Q) hP hR hd (N:=wpOps P ops Q (List.range' (k+1) l.length)) (fun a' w' ⟨σ',F',ρ',q1,q2,q3⟩=>QBA hP hg hQ l (k+1) hk' q3 q2 q1) h
   rw [hw]
   cases g with
   | true=>exact .inl this
   | false=>exact this
variable {P:Program} {T:Tab} {w w':World} {w0:Base T} {F F':Nat→Prop} {ρ ρ':Nat→RI} {σ σ':St} {a:Act} {outs:List (Array Value)}
def QDb (P:Program) (T:Tab) (σ:St) (g:Bool) (f:Operand) (args:List Operand) (d:Option Tmp) (K:St→Prop):Prop :=
 ZD σ g f fun ef=>vU σ g args fun es=>∃ fid caps,ef=.fn fid caps∧∃ e,(g=true→CallQ P T σ fid (es++caps) e)∧Xc σ d g K e
def opQ (P:Program) (T:Tab) (o:SOp) (K:St→Prop) (σ:St) (g:Bool):Prop:=match o.op with
 | .call c=>match c.callee with
   | .value f=>QDb P T σ g f c.args.toList o.dst K
   | .builtin _=>Vw T σ g (.call c) (Xc σ o.dst g K)
   | _=>False
 | op=>Vw T σ g op (Xc σ o.dst g K)
def QI5 (P:Program) (T:Tab):List SOp→(St→Prop)→St→Prop
 | [],K,σ=>K σ
 | o::rest,K,σ=>Yw o σ (opQ P T o (QI5 P T rest K) σ)
theorem Vy (hP:TabOk P T) {ops:Array Oper} (hgo:YW ops=true) {K:St→Prop}:∀ (l:List Oper) {σ:St} {a:Act},(∀ o∈l,o∈ops.toList)→Rel T w F ρ w0 σ a.tmps outs→a.defers=[]→QI5 P T (l.map (QC ops)) K σ →
 wpQuiet P ops (fun w'=>Below w.heap.size w w') (fun a'=>∃ σ',K σ'∧a'.defers=[]∧Rel T w F ρ w0 σ' a'.tmps outs) l a
 | [],σ,a,_,hR,hd,h=>⟨σ,h,hd,hR⟩
 | o::l,σ,a,hm,hR,hd,h=>by
   simp only [List.map_cons] at h
   unfold QI5 at h
   obtain ⟨g,h,hg⟩:=Wc hR (List.all_eq_true.1 hgo o (hm o (by simp))) h
   have hml:∀ o∈l,o∈ops.toList:=fun o ho=>hm o (by simp [ho])
   have hop:(QC ops o).op=o.op:=rfl
   have hdst:(QC ops o).dst=o.dst:=rfl
   have pureCase:∀ op,o.op=op→Vw T σ g op (Xc σ o.dst g (QI5 P T (l.map (QC ops)) K))→wpQuiet P ops (fun w'=>Below w.heap.size w w') (fun a'=>∃ σ',K σ'∧a'.defers=[]∧Rel T w F ρ w0 σ' a'.tmps outs) (o::l) a:=by
    intro op hop hp
    obtain ⟨e,h1,h2⟩:=UE hP hR hp
    unfold wpQuiet
    rw [hg]
    cases g with
    | true =>
      obtain ⟨v,hv,hr⟩:=h2 rfl
      obtain ⟨σ',hK,hR',hd'⟩:=Q9 hR h1 (fun _=>hv) (by simp)
      refine ⟨v,fun W hW=>?_,Vy hP hgo l hml hR' (hd'.trans hd) hK⟩
      unfold Oper.quietAt
      rw [hr W hW o hop]
      exact ⟨rfl,rfl⟩
    | false =>
      obtain ⟨σ',hK,hR',hd'⟩:=Q9 (v:=undef) hR h1 (by simp) (fun _=>rfl)
      exact Vy hP hgo l hml hR' (hd'.trans hd) hK
   unfold opQ at h
   rw [hop,hdst] at h
   split at h
   · rename_i c hc
     split at h
     · rename_i x hx
       obtain ⟨ef,h1,hf⟩:=QR hR h
       obtain ⟨es,h2,hes⟩:=WQ hR h1
       obtain ⟨fid,caps,rfl,e,hq,hk⟩:=h2
       unfold wpQuiet
       rw [hg]
       cases g with
       | true =>
         obtain ⟨cs,hxv,hcs⟩:=hf rfl
         have hall:=(hes rfl).append hcs
         obtain ⟨hE,hq⟩:=hq rfl
         obtain ⟨v,hv,hq⟩:=hq w0 w F ρ _ _ _ hR hall
         obtain ⟨σ',hK,hR',hd'⟩:=Q9 hR hk (fun _=>hv) (by simp)
         refine ⟨v,fun W hW=>?_,Vy hP hgo l hml hR' (hd'.trans hd) hK⟩
         unfold Oper.quietAt
         rw [zP hE hx hxv W o hc]
         refine ⟨rfl,(hq W hW).mono ?_⟩
         rintro en w'' ⟨rfl,hb⟩
         exact ⟨rfl,hW.trans (hb.mono hW.size)⟩
       | false =>
         obtain ⟨σ',hK,hR',hd'⟩:=Q9 (v:=undef) hR hk (by simp) (fun _=>rfl)
         exact Vy hP hgo l hml hR' (hd'.trans hd) hK
     · exact pureCase _ hc h
     · exact h.elim
   · exact pureCase _ rfl h
def SA (P:Program) (T:Tab) (c:Code) (K:Exit→St→Prop) (σ:St):Prop :=
 ∀ (w0:Base T) (w:World) (F:Nat→Prop) (ρ:Nat→RI) (a:Act) (outs:List (Array Value)),a.defers=[]→Rel T w F ρ w0 σ a.tmps outs→c.wp P (fun ex a' w'=>VV T w0 outs (K ex) a' w') a w
def QHV (P:Program) (T:Tab) (y:Code) (K:Exit→St→Prop):Exit→St→Prop
 | .normal,σ=>SA P T y K σ
 | e,σ=>K e σ
def zr (id:Nat) (K:Exit→St→Prop):Exit→St→Prop
 | .exit id',σ=>if id'=id then K .normal σ else K (.exit id') σ
 | e,σ=>K e σ
theorem J3 {K:Exit→St→Prop} (h:K .normal σ):SA P T .skip K σ:=fun _ _ _ _ _ _ hd hR=>wp_skip ⟨σ,_,_,h,hd,hR⟩
theorem J6 {id:Nat} {K:Exit→St→Prop} (h:K (.exit id) σ):SA P T (.exit id) K σ:=fun _ _ _ _ _ _ hd hR=>wp_exit ⟨σ,_,_,h,hd,hR⟩
theorem Q2 {K:Exit→St→Prop} (h:K .ret σ):SA P T .ret K σ:=fun _ _ _ _ _ _ hd hR=>wp_ret ⟨σ,_,_,h,hd,hR⟩
theorem J2 {x y:Code} {K:Exit→St→Prop} (h:SA P T x (QHV P T y K) σ):SA P T (.seq x y) K σ:=by
 intro w0 w F ρ a outs hd hR
 refine wp_seq (wp_mono (h w0 w F ρ a outs hd hR) ?_)
 rintro ex a' w' ⟨σ',F',ρ',hK,hd',hR'⟩
 cases ex with
 | normal=>exact hK w0 w' F' ρ' a' outs hd' hR'
 | _=>exact ⟨σ',F',ρ',hK,hd',hR'⟩
theorem J4 {id:Nat} {c:Code} {K:Exit→St→Prop} (h:SA P T c (zr id K) σ):SA P T (.block id c) K σ:=by
 intro w0 w F ρ a outs hd hR
 refine wp_block (wp_mono (h w0 w F ρ a outs hd hR) ?_)
 rintro ex a' w' ⟨σ',F',ρ',hK,hd',hR'⟩
 cases ex with
 | exit id' =>
   simp only [zr] at hK
   unfold Exit.inBlock
   split at hK
   · rename_i hid;simp only [hid,if_true];exact ⟨σ',F',ρ',hK,hd',hR'⟩
   · rename_i hid;simp only [hid,if_false];exact ⟨σ',F',ρ',hK,hd',hR'⟩
 | _=>exact ⟨σ',F',ρ',hK,hd',hR'⟩
theorem SA.cond {t:Tmp} {b:Bool} {x y:Code} {K:Exit→St→Prop} (hb:σ.tm.lookup t=some (true,.bool b)) (ht:b=true→SA P T x K σ) (hf:b=false→SA P T y K σ):SA P T (.cond (.tmp t) x y) K σ:=by
 intro w0 w F ρ a outs hd hR
 obtain ⟨v,h1,h2,_⟩:=hR.tm _ _ _ hb
 have hv:v=.bool b:=h2 rfl
 subst hv
 have he:a.eval (.tmp t)=.bool b:=by simp [Act.eval,h1]
 exact wp_cond_split he (fun hb=>ht hb w0 w F ρ a outs hd hR) (fun hb=>hf hb w0 w F ρ a outs hd hR)
theorem J1 {y:Code} {K:Exit→St→Prop} (h:SA P T y K σ):QHV P T y K .normal σ:=h
theorem J9 {y:Code} {K:Exit→St→Prop} {i:Nat} (h:K (.exit i) σ):QHV P T y K (.exit i) σ:=h
theorem Q1 {y:Code} {K:Exit→St→Prop} (h:K .ret σ):QHV P T y K .ret σ:=h
theorem J5 {id:Nat} {K:Exit→St→Prop} (h:K .normal σ):zr id K .normal σ:=h
theorem J7 {id:Nat} {K:Exit→St→Prop} (h:K .normal σ):zr id K (.exit id) σ:=by simp only [zr,if_true];exact h
theorem J8 {id i:Nat} {K:Exit→St→Prop} (hne:i≠id) (h:K (.exit i) σ):zr id K (.exit i) σ:=by simp only [zr,if_neg hne];exact h
theorem Yc {id:Nat} {K:Exit→St→Prop} (h:K .ret σ):zr id K .ret σ:=h
def St.keep (lv:List Nat) (σ:St):St:={ σ with tm:=lv.filterMap fun t=>(σ.tm.lookup t).map fun x=>(t,x) }
theorem zd (tm:Tm):∀ (lv:List Nat) (t:Nat) (x:Bool × E),(lv.filterMap fun t=>(tm.lookup t).map fun x=>(t,x)).lookup t=some x→tm.lookup t=some x
 | [],t,x,h=>by simp at h
 | s::lv,t,x,h=>by
   simp only [List.filterMap_cons] at h
   cases hs:tm.lookup s with
   | none=>rw [hs] at h;exact zd tm lv t x h
   | some y =>
     rw [hs] at h
     simp only [Option.map_some,List.lookup_cons] at h
     by_cases hts:t=s
     · subst hts
       simp at h
       rw [hs,h]
     · have:(t == s)=false:=by simpa using hts
       rw [this] at h
       exact zd tm lv t x h
theorem Rel.keep {tmps:Array Value} (h:Rel T w F ρ w0 σ tmps outs) (lv:List Nat):Rel T w F ρ w0 (σ.keep lv) tmps outs :=
 ⟨fun t g e he=>h.tm t g e (zd _ _ _ _ he),h.out,h.ob,h.free,h.inj,h.fsub,h.below,h.size,h.fold⟩
theorem quiet_mono {ops:Array Oper} {C:World→Prop} {Q Q':Act→Prop} (h:∀ a,Q a→Q' a):∀ (l:List Oper) (a:Act),wpQuiet P ops C Q l a→wpQuiet P ops C Q' l a
 | [],a,hq=>h a hq
 | o::l,a,hq=>by
   unfold wpQuiet at hq ⊢
   split
   · rename_i hw
     rw [if_pos hw] at hq
     exact Oper.quiet_mono (quiet_mono h l) hq
   · rename_i hw
     rw [if_neg hw] at hq
     exact quiet_mono h l _ hq
theorem SA.region {id:Nat} {ops:Array Oper} (hP:TabOk P T) (hg:YW ops=true) (lv:List Nat) {K:Exit→St→Prop} (h:∀ R:St→Prop,(∀ σ',K .normal (σ'.keep lv)→R σ')→QKn P T (ops.toList.map (QC ops)) R σ):SA P T (.region id ops false) K σ:=by
 intro w0 w F ρ a outs hd hR
 refine wp_region ?_
 rw [List.range_eq_range']
 have:=h (fun σ'=>K .normal (σ'.keep lv)) (fun _ x=>x)
 refine QBA (outs:=outs) hP hg ?_ ops.toList 0 rfl hR hd this
 rintro a' w' ⟨σ',F',ρ',hK,hd',hR'⟩
 exact ⟨_,F',ρ',hK,hd',hR'.keep lv⟩
theorem SA.regionQ {id:Nat} {ops:Array Oper} (hP:TabOk P T) (hm:P.follows .mixedOrders=true) (hB:Region.lexB .any ops=true) (hg:YW ops=true) (lv:List Nat) {K:Exit→St→Prop}
 (h:∀ R:St→Prop,(∀ σ',K .normal (σ'.keep lv)→R σ')→QI5 P T (ops.toList.map (QC ops)) R σ):SA P T (.region id ops true) K σ:=by
 intro w0 w F ρ a outs hd hR
 have:=h (fun σ'=>K .normal (σ'.keep lv)) (fun _ x=>x)
 refine wp_region_quiet (C:=fun w'=>Below w.heap.size w w') hm hB ((Below.refl _ _).drew) ?_
 refine quiet_mono ?_ _ _ (Vy (outs:=outs) hP hg ops.toList (fun _ h=>h) hR hd this)
 rintro a' ⟨σ',hK,hd',hR'⟩ w' hw'
 exact ⟨_,F,ρ,hK,hd',(hR'.later hw').keep lv⟩
def St.le (T:Tab) (σ σ':St):Prop:=∀ w F ρ w0 tmps outs,Rel T w F ρ w0 σ tmps outs→∃ F' ρ',Rel T w F' ρ' w0 σ' tmps outs
theorem St.le.refl:St.le T σ σ:=fun _ F ρ _ _ _ h=>⟨F,ρ,h⟩
theorem St.le.trans {σ'':St} (h:St.le T σ σ') (h':St.le T σ' σ''):St.le T σ σ'':=fun w F ρ w0 tmps outs hR=>let ⟨F',ρ',hR'⟩:=h w F ρ w0 tmps outs hR;h' w F' ρ' w0 tmps outs hR'
theorem St.le.keep (lv:List Nat):St.le T σ (σ.keep lv):=fun _ F ρ _ _ _ h=>⟨F,ρ,h.keep lv⟩
theorem qZ (p:Nat→Prop) (h:∃ n,p n):∃ n,p n∧∀ m,p m→n≤m:=by
 obtain ⟨n,hn⟩:=h
 induction n using Nat.strongRecOn with
 | _ n ih =>
   by_cases hm:∃ m,m<n∧p m
   · obtain ⟨m,h1,h2⟩:=hm
     exact ih m h1 h2
   · exact ⟨n,hn,fun m hp=>Nat.le_of_not_lt fun hlt=>hm ⟨m,hlt,hp⟩⟩
def QC1 (T:Tab) (I:Nat→St→Prop) (n:Nat) (K:Exit→St→Prop):Exit→St→Prop
 | .normal,σ=>∃ m σ',m<n∧St.le T σ σ'∧I m σ'
 | e,σ=>K e σ
theorem Z0 {I:Nat→St→Prop} {n:Nat} {K:Exit→St→Prop} (m:Nat) (σ':St) (hm:m<n) (hl:St.le T σ σ') (h:I m σ'):QC1 T I n K .normal σ:=⟨m,σ',hm,hl,h⟩
theorem Xu {I:Nat→St→Prop} {n:Nat} {K:Exit→St→Prop} {i:Nat} (h:K (.exit i) σ):QC1 T I n K (.exit i) σ:=h
theorem Xt {I:Nat→St→Prop} {n:Nat} {K:Exit→St→Prop} (h:K .ret σ):QC1 T I n K .ret σ:=h
theorem Yb {c:Code} {K:Exit→St→Prop} (I:Nat→St→Prop) (n:Nat) (h0:I n σ)
 (round:∀ n σ,I n σ→SA P T c (QC1 T I n K) σ):SA P T (.loop c) K σ:=by
 classical
 intro w0 w F ρ a outs hd hR
 let Inv:Nat→Act→World→Prop:=fun n a w=>∃ σ F ρ,I n σ∧a.defers=[]∧Rel T w F ρ w0 σ a.tmps outs
 let μ:Act→World→Nat:=fun a w=>if h:∃ n,Inv n a w then Classical.choose (qZ (fun n=>Inv n a w) h) else 0
 have hμ:∀ a w,(∃ n,Inv n a w)→Inv (μ a w) a w∧∀ n,Inv n a w→μ a w≤n:=by
  intro a w h
  have hs:=Classical.choose_spec (qZ (fun n=>Inv n a w) h)
  have e:μ a w=Classical.choose (qZ (fun n=>Inv n a w) h):=dif_pos h
  rw [e]
  exact hs
 refine wp_loop (fun a w=>∃ n,Inv n a w) μ ⟨n,σ,F,ρ,h0,hd,hR⟩ ?_
 intro a w hI
 obtain ⟨⟨σ1,F1,ρ1,h1,h2,h3⟩,hmin⟩:=hμ a w hI
 refine wp_mono (round (μ a w) σ1 h1 w0 w F1 ρ1 a outs h2 h3) ?_
 rintro ex a' w' ⟨σ',F',ρ',hK,hd',hR'⟩
 cases ex with
 | normal =>
   obtain ⟨m,σ'',hm,hl,hI'⟩:=hK
   obtain ⟨F2,ρ2,hR2⟩:=hl w' F' ρ' w0 a'.tmps outs hR'
   have hx:∃ n,Inv n a' w':=⟨m,σ'',F2,ρ2,hI',hd',hR2⟩
   exact ⟨hx,Nat.lt_of_le_of_lt ((hμ a' w' hx).2 m ⟨σ'',F2,ρ2,hI',hd',hR2⟩) hm⟩
 | _=>exact ⟨σ',F',ρ',hK,hd',hR'⟩
end Go.Eng
