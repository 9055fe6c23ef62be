/- A part of the proof: walks through the program's functions, and what they compute. -/
import Derived.Test.YtedceinkpkoncaaGreatDoorPk3
set_option linter.unusedSimpArgs false
set_option linter.unusedVariables false
namespace Go.Eng
open Go.RowKit
variable {P:Program} {T:Tab} {w w':World} {w0:Base T} {F:Nat→Prop} {ρ:Nat→RI} {σ:St} {a:Act} {outs:List (Array Value)}
theorem foldl_set_splice (ds:List Value):∀ (k off:Nat) (cells:Array Value),off+k+ds.length≤cells.size →
 ((ds.zipIdx k).foldl (fun (cs:Array Value) (x:Value × Nat)=>cs.setIfInBounds (off+x.2) x.1) cells).toList=splice cells.toList (off+k) ds:=by
 induction ds with
 | nil=>intro k off cells _;simp [splice]
 | cons d ds ih =>
   intro k off cells h
   simp only [List.length_cons] at h
   simp only [List.zipIdx_cons,List.foldl_cons]
   rw [ih (k+1) off _ (by simp;omega)]
   simp only [Array.toList_setIfInBounds,splice,List.length_cons]
   have hk:off+k<cells.toList.length:=by simp;omega
   have:=list_seg_step cells.toList (off+k) d ds (by simp;omega)
   rw [show off+(k+1)=off+k+1 by omega]
   exact this
theorem buildA_sound (hP:TabOk P T) (hR:Rel T w F ρ w0 σ a.tmps outs) {g:Bool} {pt:Nat→Option TypeId} {place:Nat→Option (Nat × Nat)} {ts:List TypeId} (hpt:∀ i t,pt i=some t→ts[i]?=some t)
 (hpl:∀ i t,ts[i]?=some t→place i=some (T.offs ts i,T.sz t)):∀ (parts:List (Nat × Operand)) (l:List V) (cells:Array Value) {K:V→Prop},
 (g=true→FitsL T w F ts l cells.toList)→buildA T σ g pt parts (.agg l) K →
 ∃ l',K (.agg l')∧(g=true→∃ r,Instr.fill place cells (parts.map fun (i,x)=>(i,a.eval x))=some r∧FitsL T w F ts l' r.toList)
 | [],l,cells,K,hf,h=>⟨l,h,fun hg=>⟨cells,rfl,hf hg⟩⟩
 | (i,x)::r,l,cells,K,hf,h=>by
   unfold buildA at h
   split at h;rotate_left;· exact h.elim
   rename_i t ht
   obtain ⟨e,h,he⟩:=evalO_sound hR h
   split at h;rotate_left;· exact h.elim
   rename_i y hy
   have hti:=hpt _ _ ht
   by_cases hg:g=true
   · obtain ⟨q1,q2⟩:=toV_fits (he hg) hy
     have hl1:=q1.len hP.sized
     have hcl:=(hf hg).len hP.sized
     have ho:=offs_le T hti
     have hsz:(a.eval x).cells.size=T.sz t:=by simpa using hl1
     have hin:T.offs ts i+(a.eval x).cells.size≤cells.size:=by
      have:cells.toList.length=cells.size:=by simp
      omega
     have hnew:=(hf hg).setNth hP.sized hti q1
     have hspl:=foldl_set_splice (a.eval x).cells.toList 0 (T.offs ts i) cells (by simp;omega)
     have harr:((a.eval x).cells.zipIdx.foldl (fun (cs:Array Value) (x:Value × Nat)=>cs.setIfInBounds (T.offs ts i+x.2) x.1) cells).toList=splice cells.toList (T.offs ts i) (a.eval x).cells.toList:=by
      rw [← Array.foldl_toList,Array.toList_zipIdx]
      exact hspl
     obtain ⟨l',hK,hr⟩:=buildA_sound hP hR hpt hpl r (l.set i y) ((a.eval x).cells.zipIdx.foldl (fun (cs:Array Value) (x:Value × Nat)=>cs.setIfInBounds (T.offs ts i+x.2) x.1) cells)
      (fun _=>by rw [harr];unfold splice;rw [hl1];exact hnew) h
     refine ⟨l',hK,fun _=>?_⟩
     obtain ⟨R,hR1,hR2⟩:=hr hg
     refine ⟨R,?_,hR2⟩
     simp only [List.map_cons,Instr.fill,hpl _ _ hti,hsz,ne_eq,not_true_eq_false,decide_false,Bool.false_or,decide_eq_true_eq]
     rw [if_neg (by omega)]
     exact hR1
   · obtain ⟨l',hK,_⟩:=buildA_sound hP hR hpt hpl r (l.set i y) cells (fun hg'=>absurd hg' hg) h
     exact ⟨l',hK,fun hg'=>absurd hg' hg⟩
theorem mapM_places (hP:TabOk P T):∀ (fs:List Field),(∀ f∈fs,T.ty f.type≠.other) →
 fs.mapM (fun f=>(P.info? f.type).map fun i=>(f.offset,i.size))=some (fs.map fun f=>(f.offset,T.sz f.type))
 | [],_=>rfl
 | f::fs,h=>by
   obtain ⟨i,h1,h2,_⟩:=hP.info f.type (h f (by simp))
   rw [List.mapM_cons,mapM_places hP fs (fun g hg=>h g (by simp [hg]))]
   simp [h1,h2]
theorem build_sound (hP:TabOk P T) (hR:Rel T w F ρ w0 σ a.tmps outs) {g:Bool} {t:TypeId} {ts:List TypeId} {pt:Nat→Option TypeId} {parts:Array (Nat × Operand)} {K:E→Prop}
 (ht:T.ty t=.struct ts∧(pt=fun k=>ts[k]?)∨∃ n e,T.ty t=.arr n e∧ts=List.replicate n e∧pt=fun k=>if k<n then some e else none)
 (h:buildA T σ g pt parts.toList (T.zero t) fun v=>K (.data t v)):∃ e,K e∧(g=true→Yields1 P T w F ρ a (.build t parts) e):=by
 have hA:(T.ty t).isAgg=true:=by rcases ht with ⟨h1,_⟩|⟨n,e,h1,_⟩<;>simp [h1,TyD.isAgg]
 have hno:T.ty t≠.other:=by intro h0;rw [h0] at hA;cases hA
 obtain ⟨it,i1,i2,i3,z,i4,i5,i6,i7,i8,_⟩:=hP.info t hno
 have hz:Fits T w F t (T.zero t) z.cells.toList:=i8 (by intro h0;rw [h0] at hA;cases hA) (by intro e h0;rw [h0] at hA;cases hA) w F
 have hpt:∀ i u,pt i=some u→ts[i]?=some u:=by
  rcases ht with ⟨_,rfl⟩|⟨n,e,_,rfl,rfl⟩
  · exact fun i u h=>h
  · intro i u h
    simp only at h
    split at h
    · rename_i hi;simp [hi];simpa using h
    · cases h
 obtain ⟨l,hl,hfl⟩:∃ l,T.zero t=.agg l∧FitsL T w F ts l z.cells.toList:=by
  rcases ht with ⟨h1,_⟩|⟨n,e,h1,rfl,_⟩
  · exact hz.inv' h1
  · exact hz.inv' h1
 rw [hl] at h
 obtain ⟨place,hpl,hbuilt⟩:∃ place:Nat→Option (Nat × Nat),(∀ i u,ts[i]?=some u→place i=some (T.offs ts i,T.sz u)) ∧
  ∀ (ps:List (Nat × Value)) (r:Array Value),Instr.fill place z.cells ps=some r→P.built t ps=some r:=by
  rcases ht with ⟨h1,_⟩|⟨n,e,h1,rfl,_⟩
  · obtain ⟨fs,f1,f2,_,f3⟩:=hP.struct _ _ h1
    refine ⟨fun i=>(fs.toList.map fun f=>(f.offset,T.sz f.type)).toArray[i]?,?_,?_⟩
    · intro i u hu
      have:fs.toList[i]?.map (·.type)=some u:=by rw [← List.getElem?_map,f2];exact hu
      cases hk:fs[i]? with
      | none=>simp [hk] at this
      | some f =>
        have hfu:f.type=u:=by simpa [hk] using this
        obtain ⟨o1,_⟩:=f3 i f hk
        simp [hk,o1,hfu]
    · intro ps r hr
      have hm:=mapM_places hP fs.toList (fun f hf=>by
       obtain ⟨i,hi⟩:=List.mem_iff_getElem?.1 hf
       exact (f3 i f (by simpa using hi)).2.2.2)
      simp only [Program.built,i1,f1,i4,hm]
      exact hr
  · obtain ⟨hu,_,_,hno'⟩:=hP.arr _ _ _ h1
    obtain ⟨ie,j1,j2,_⟩:=hP.info e hno'
    refine ⟨fun i=>some (i*ie.size,ie.size),?_,?_⟩
    · intro i u hu
      rw [List.getElem?_replicate] at hu
      split at hu
      · rename_i hi
        cases hu
        rw [offs_replicate T n i _ (by omega),j2]
      · cases hu
    · intro ps r hr
      simp only [Program.built,i1,hu,i4,j1]
      exact hr
 obtain ⟨l',hK,hr⟩:=buildA_sound hP hR hpt hpl parts.toList l z.cells (fun _=>hfl) h
 refine ⟨_,hK,fun hg=>?_⟩
 obtain ⟨r,r1,r2⟩:=hr hg
 refine ⟨.agg r,⟨r,rfl,hA,?_⟩,fun W _ o ho=>?_⟩
 · rcases ht with ⟨h1,_⟩|⟨n,e,h1,rfl,_⟩
   · exact .struct h1 r2
   · exact .arr h1 r2
 · have:=run_build (P:=P) W t (parts.map fun (i,x)=>(i,a.eval x)) r (hbuilt _ _ (by simpa using r1))
   simp [execOp,ho,this]
theorem pureA_sound (hP:TabOk P T) (hR:Rel T w F ρ w0 σ a.tmps outs) {g:Bool} {op:Op} {K:E→Prop} (h:pureA T σ g op K):∃ e,K e∧(g=true→Yields1 P T w F ρ a op e):=by
 unfold pureA at h
 split at h
 · obtain ⟨e,h1,h2⟩:=evalO_sound hR h
   exact ⟨e,h1,fun hg=>⟨_,h2 hg,fun W _ o ho=>by simp [execOp,ho]⟩⟩
 · obtain ⟨e,h1,h2⟩:=evalO_sound hR h
   exact ⟨e,h1,fun hg=>⟨_,h2 hg,fun W _ o ho=>by simp [execOp,ho]⟩⟩
 · exact pickA_sound hR h
 · obtain ⟨e,h1,h2⟩:=evalO_sound hR h
   exact loadA_sound hP hR h2 h1
 · rename_i x
   obtain ⟨e,h1,h2⟩:=evalO_sound hR h
   split at h1
   · refine ⟨_,h1,fun hg=>⟨_,h2 hg,fun W _ o ho=>?_⟩⟩
     obtain ⟨b,root,off,_,_,h3⟩:=h2 hg
     simp [execOp,ho,h3]
   · refine ⟨_,h1,fun hg=>⟨_,h2 hg,fun W _ o ho=>?_⟩⟩
     obtain ⟨b,_,_,_,off,_,_,h3⟩:=h2 hg
     simp [execOp,ho,h3]
   · refine ⟨_,h1,fun hg=>⟨_,h2 hg,fun W _ o ho=>?_⟩⟩
     obtain ⟨b,off,cs,h3,_⟩:=h2 hg
     simp [execOp,ho,h3]
   · refine ⟨_,h1,fun hg=>⟨_,h2 hg,fun W _ o ho=>?_⟩⟩
     obtain ⟨cs,h3,_⟩:=h2 hg
     simp [execOp,ho,h3]
   · exact h1.elim
 · obtain ⟨e1,h1,h2⟩:=evalO_sound hR h
   obtain ⟨e2,h3,h4⟩:=evalO_sound hR h1
   exact binA_sound hP h2 h4 h3
 · obtain ⟨e,h1,h2⟩:=evalO_sound hR h
   split at h1
   · refine ⟨_,h1,fun hg=>⟨_,rfl,fun W _ o ho=>?_⟩⟩
     have h3:a.eval _=Value.bool _:=h2 hg
     simp [execOp,ho,h3,Op.unary]
   · refine ⟨_,h1,fun hg=>⟨_,⟨rfl,wrap_has _ _⟩,fun W _ o ho=>?_⟩⟩
     have h3:=(h2 hg).1
     simp [execOp,ho,h3,Op.unary,Op.intArith]
   · refine ⟨_,h1,fun hg=>⟨_,⟨rfl,wrap_has _ _⟩,fun W _ o ho=>?_⟩⟩
     have h3:=(h2 hg).1
     simp [execOp,ho,h3,Op.unary,Op.intBits]
   · exact h1.elim
 · obtain ⟨e,h1,h2⟩:=evalO_sound hR h
   split at h1
   · rename_i ks kd k n hs hd
     refine ⟨_,h1,fun hg=>⟨_,⟨rfl,wrap_has _ _⟩,fun W _ o ho=>?_⟩⟩
     have h3:=(h2 hg).1
     simp [execOp,ho,h3,convert,run_underlying (hP.int _ _ hs),run_underlying (hP.int _ _ hd),Conv.intToInt]
   · exact h1.elim
 · rename_i f first caps
   obtain ⟨h1,h⟩:=h
   obtain ⟨es,h2,h3⟩:=evalL_sound hR h
   have hfirst:first=#[]:=by simpa using h1
   refine ⟨_,h2,fun hg=>⟨_,⟨_,rfl,h3 hg⟩,fun W _ o ho=>?_⟩⟩
   have hc:caps.map a.eval=(caps.toList.map a.eval).toArray:=by
    apply Array.ext';simp
   simp [execOp,ho,Instr.makeFunc,hfirst,hc]
 · rename_i t x lo hi mx
   obtain ⟨hm,h⟩:=h
   obtain ⟨e,h1,h2⟩:=evalO_sound hR h
   exact sliceA_sound hP hR h2 h1 (by cases mx<;>cases hi<;>simp_all)
 · obtain ⟨e,h1,h2⟩:=evalO_sound hR h
   exact fieldAddrA_sound hP h2 h1
 · obtain ⟨e,h1,h2⟩:=evalO_sound hR h
   split at h1;rotate_left;· exact h1.elim
   rename_i s x k ts s' v hs
   obtain ⟨rfl,h1⟩:=h1
   split at h1;rotate_left;· exact h1.elim
   rename_i u hu
   refine ⟨_,h1,fun hg=>?_⟩
   obtain ⟨cs,h3,h4,h5⟩:=h2 hg
   obtain ⟨y,hy,hr⟩:=fieldA_run (ρ:=ρ) hP hs hu h5
   exact ⟨y,hy,fun W _ o ho=>by simp [execOp,ho,h3,hr W]⟩
 · obtain ⟨e1,h1,h2⟩:=evalO_sound hR h
   obtain ⟨e2,h3,h4⟩:=evalO_sound hR h1
   split at h3;rotate_left;· exact h3.elim
   exact indexAddrA_sound hP h2 (fun hg=>(h4 hg).1) h3
 · obtain ⟨e1,h1,h2⟩:=evalO_sound hR h
   obtain ⟨e2,h3,h4⟩:=evalO_sound hR h1
   split at h3;rotate_left;· exact h3.elim
   exact indexA_sound hP h2 (fun hg=>(h4 hg).1) h3
 · rename_i x k
   obtain ⟨e,h1,h2⟩:=evalO_sound hR h
   split at h1;rotate_left;· exact h1.elim
   rename_i l
   split at h1;rotate_left;· exact h1.elim
   rename_i y hy
   refine ⟨y,h1,fun hg=>?_⟩
   obtain ⟨vs,h3,h4⟩:=h2 hg
   have key:∀ (l:List E) (vs:List Value) (k:Nat) (y:E),ERelL T w F ρ l vs→l[k]?=some y→∃ v,vs[k]?=some v∧ERel T w F ρ y v:=by
    intro l
    induction l with
    | nil=>intro vs k y _ h;simp at h
    | cons e l ih =>
      intro vs k y hr hk
      cases vs with
      | nil=>exact hr.elim
      | cons v vs =>
        cases k with
        | zero=>simp at hk;subst hk;exact ⟨v,rfl,hr.1⟩
        | succ k=>exact ih vs k y hr.2 (by simpa using hk)
   obtain ⟨v,hv,hr⟩:=key _ _ _ _ h4 hy
   exact ⟨v,hr,fun W _ o ho=>by simp [execOp,ho,h3,Instr.extract,hv]⟩
 · rename_i t parts
   split at h
   · rename_i ts ht
     exact build_sound hP hR (.inl ⟨ht,rfl⟩) h
   · rename_i n e ht
     exact build_sound hP hR (.inr ⟨n,e,ht,rfl,rfl⟩) h
   · exact h.elim
 · split at h;rotate_left;· exact h.elim
   rename_i c b hc
   obtain ⟨es,h1,h2⟩:=evalL_sound hR h
   exact builtinA_sound hP hc h2 h1
 · exact h.elim
end Go.Eng
namespace Go.Eng
open Go.RowKit
variable {P:Program} {T:Tab} {w w':World} {w0:Base T} {F F':Nat→Prop} {ρ ρ':Nat→RI} {σ:St} {tmps:Array Value} {outs:List (Array Value)}
def upd (ρ:Nat→RI) (i:Nat) (r:RI):Nat→RI:=fun j=>if j=i then r else ρ j
theorem upd_self (ρ:Nat→RI) (i:Nat) (r:RI):upd ρ i r i=r:=by simp [upd]
theorem upd_ne (ρ:Nat→RI) {i j:Nat} (r:RI) (h:j≠i):upd ρ i r j=ρ j:=by simp [upd,h]
mutual
def E.kill (i:Nat):E→E
 | .sl j e lo len c=>if j=i then .undef else .sl j e lo len c
 | .ptr j p t=>if j=i then .undef else .ptr j p t
 | .rp j k p t=>if j=i then .undef else .rp j k p t
 | .av j p t k=>if j=i then .undef else .av j p t k
 | .fn f caps=>.fn f (E.killL i caps)
 | .tup l=>.tup (E.killL i l)
 | .agg t l=>.agg t (E.killL i l)
 | e=>e
def E.killL (i:Nat):List E→List E
 | []=>[]
 | e::es=>e.kill i::E.killL i es
end
def Obj.kill (i:Nat):Obj→Obj
 | .var t e=>.var t (e.kill i)
 | .erow e l=>.erow e (E.killL i l)
 | o=>o
def Tm.kill (i:Nat) (tm:Tm):Tm:=tm.map fun x=>(x.1,x.2.1,x.2.2.kill i)
def St.kill (i:Nat) (σ:St):St:={ σ with tm:=Tm.kill i σ.tm,ob:=σ.ob.map (Obj.kill i),out:=σ.out.map (Tm.kill i) }
mutual
theorem ERel.killed {i:Nat} {r:RI}:∀ {e:E} {v:Value},ERel T w F ρ e v→ERel T w F (upd ρ i r) (e.kill i) v
 | .int _ _,_,h=>h
 | .bool _,_,h=>h
 | .str _,_,h=>h
 | .data _ _,_,h=>h
 | .fs _ _ _,_,h=>h
 | .sl j e lo len c,v,h=>by
   unfold E.kill
   split
   · trivial
   · rename_i hj
     unfold ERel at h ⊢
     rw [upd_ne ρ r hj];exact h
 | .nilsl,_,h=>h
 | .ptr j p t,v,h=>by
   unfold E.kill
   split
   · trivial
   · rename_i hj
     unfold ERel at h ⊢
     rw [upd_ne ρ r hj];exact h
 | .rp j k p t,v,h=>by
   unfold E.kill
   split
   · trivial
   · rename_i hj
     unfold ERel at h ⊢
     rw [upd_ne ρ r hj];exact h
 | .av j p t k,v,h=>by
   unfold E.kill
   split
   · trivial
   · rename_i hj
     unfold ERel at h ⊢
     rw [upd_ne ρ r hj];exact h
 | .fptr _ _,_,h=>h
 | .fn _ _,_,⟨cs,h1,h2⟩=>⟨cs,h1,ERelL.killed h2⟩
 | .nilfn,_,h=>h
 | .tup _,_,⟨vs,h1,h2⟩=>⟨vs,h1,ERelL.killed h2⟩
 | .agg _ _,_,⟨ts,vs,cs,h0,h1,h2,h3⟩=>⟨ts,vs,cs,h0,h1,ERelL.killed h2,h3⟩
 | .undef,_,_=>trivial
theorem ERelL.killed {i:Nat} {r:RI}:∀ {l:List E} {vs:List Value},ERelL T w F ρ l vs→ERelL T w F (upd ρ i r) (E.killL i l) vs
 | [],[],h=>h
 | _::_,_::_,⟨h1,h2⟩=>⟨ERel.killed h1,ERelL.killed h2⟩
 | [],_::_,h=>h.elim
 | _::_,[],h=>h.elim
end
theorem kill_data {i:Nat} {e:E} {t:TypeId} {v:V} (h:e.kill i=.data t v):e=.data t v:=by
 cases e<;>simp [E.kill] at h ⊢<;>first|exact h|(split at h<;>cases h)
theorem lookup_map (f:E→E):∀ (tm:Tm) (t:Nat),(tm.map fun x=>(x.1,x.2.1,f x.2.2)).lookup t=(tm.lookup t).map fun x=>(x.1,f x.2)
 | [],_=>rfl
 | (s,g,e)::tm,t=>by
   simp only [List.map_cons,List.lookup_cons]
   cases t == s<;>simp [lookup_map f tm t]
theorem TmRel.killed {i:Nat} {r:RI} {tm:Tm} (h:TmRel T w F ρ tm tmps):TmRel T w F (upd ρ i r) (Tm.kill i tm) tmps:=by
 intro t g e he
 unfold Tm.kill at he
 rw [lookup_map (E.kill i)] at he
 cases hl:tm.lookup t with
 | none=>rw [hl] at he;cases he
 | some x =>
   obtain ⟨g',e'⟩:=x
   rw [hl] at he
   simp at he
   obtain ⟨rfl,rfl⟩:=he
   obtain ⟨v,h1,h2,h3⟩:=h t _ _ hl
   exact ⟨v,h1,fun hg=>(h2 hg).killed,h3⟩
theorem OutRel.killed {i:Nat} {r:RI}:∀ {l:List Tm} {vs:List (Array Value)},OutRel T w F ρ l vs→OutRel T w F (upd ρ i r) (l.map (Tm.kill i)) vs
 | [],[],h=>h
 | _::_,_::_,⟨h1,h2⟩=>⟨h1.killed,OutRel.killed h2⟩
 | [],_::_,h=>h.elim
 | _::_,[],h=>h.elim
theorem upd_mono {n:Nat} {r:RI} (hn:ρ n=.none):∀ i,ρ i≠.none→upd ρ n r i=ρ i:=by
 intro i hi
 unfold upd
 split
 · rename_i h;subst h;exact absurd hn hi
 · rfl
theorem ORel.row_mono {n0:Nat} {r:RI} {e:TypeId} {l:List V} (hw:∀ b,F b→w'.heap[b]?=w.heap[b]?)
 (hb:∀ b,r.block=some b→w'.heap[b]?=w.heap[b]?) (h:ORel T w F ρ n0 r (.row e l)):ORel T w' F ρ' n0 r (.row e l):=by
 cases r with
 | none=>exact h.elim
 | var _ _=>exact h.elim
 | row e' r =>
   obtain ⟨h1,h2,xs,h3,h4⟩:=h
   refine ⟨h1,h2,xs,⟨h3.1,?_⟩,h4.mono (fun _ x=>x) hw⟩
   rcases h3.2 with h|⟨g,cap,cur,hr,hg,hh,rest⟩
   · exact .inl h
   · refine .inr ⟨g,cap,cur,hr,hg,?_,rest⟩
     rw [hb g (by simp [RI.block,hr,Value.ownBlock])]
     exact hh
theorem Rel.push (h:Rel T w F ρ w0 σ tmps outs) (hw:Below w.heap.size w w') (hF:∀ b,F b→F' b) (hF':∀ b,F' b→b<w'.heap.size) (hFn:∀ b,F' b→b<w.heap.size→F b) {r:RI} {o:Obj}
 (hr:∀ b,r.block=some b→w.heap.size≤b∧b<w'.heap.size∧¬ F' b) (ho:ORel T w' F' (upd ρ σ.ob.length r) w0.w.heap.size r o) :
 Rel T w' F' (upd ρ σ.ob.length r) w0 { σ with ob:=σ.ob++[o] } tmps outs:=by
 have hn:ρ σ.ob.length=.none:=h.free _ (by simp)
 have hm:=upd_mono (r:=r) hn
 have hwF:∀ b,F b→w'.heap[b]?=w.heap[b]?:=fun b hb=>hw.block b (h.fsub b hb)
 refine ⟨h.tm.mono hF hwF hm,h.out.mono hF hwF hm,?_,?_,?_,hF',h.below.trans (hw.mono h.below.size),h.size,fun b hb=>if hlt:b<w.heap.size then h.fold b (hFn b hb hlt) else .inl (by have:=h.below.size;omega)⟩
 · intro i o' hi
   by_cases hlt:i<σ.ob.length
   · simp only [List.getElem?_append_left hlt] at hi
     rw [upd_ne ρ r (by omega)]
     refine (h.ob i o' hi).mono hF hwF hm (fun b hb=>hw.block b (h.own hb).1) (fun b hb hFb=>?_)
     exact (h.own hb).2.1 (hFn b hFb (h.own hb).1)
   · rw [List.getElem?_append_right (by omega)] at hi
     have:i=σ.ob.length:=by
      have:=(List.getElem?_eq_some_iff.1 hi).1
      simp at this
      omega
     subst this
     simp at hi
     subst hi
     rw [upd_self]
     exact ho
 · intro i hi
   simp at hi
   rw [upd_ne ρ r (by omega)]
   exact h.free i (by simp;omega)
 · intro i j b hi hj
   unfold upd at hi hj
   split at hi<;>split at hj
   · omega
   · have:=(h.own hj).1;have:=(hr b hi).1;omega
   · have:=(h.own hi).1;have:=(hr b hj).1;omega
   · exact h.inj i j b hi hj
theorem Rel.store (h:Rel T w F ρ w0 σ tmps outs) {i b:Nat} (hb:(ρ i).block=some b) (hi:i<σ.ob.length) (hw:∀ k,k≠b→w'.heap[k]?=w.heap[k]?) (hs:w'.heap.size=w.heap.size) (hos:w'.os=w.os) (htp:w'.tape=w.tape) (hout:w'.output=w.output)
 {o:Obj} (ho:ORel T w' F ρ w0.w.heap.size (ρ i) o):Rel T w' F ρ w0 { σ with ob:=σ.ob.set i o } tmps outs:=by
 have hown:=h.own hb
 have hwF:∀ k,F k→w'.heap[k]?=w.heap[k]?:=fun k hk=>hw k (fun e=>hown.2.1 (e▸hk))
 refine ⟨h.tm.mono (fun _ x=>x) hwF (fun _ _=>rfl),h.out.mono (fun _ x=>x) hwF (fun _ _=>rfl),?_,?_,h.inj,fun k hk=>by rw [hs];exact h.fsub k hk,?_,h.size,h.fold⟩
 · intro j o' hj
   by_cases hji:j=i
   · subst hji
     simp [hi] at hj
     subst hj
     exact ho
   · simp only [List.getElem?_set_ne (Ne.symm hji)] at hj
     exact (h.ob j o' hj).mono (fun _ x=>x) hwF (fun _ _=>rfl) (fun k hk=>hw k (fun e=>hji (h.inj j i k hk (e▸hb)))) (fun k hk=>(h.own hk).2.1)
 · intro j hj
   simp at hj
   exact h.free j (by simp;omega)
 · exact h.below.trans ⟨hos,htp,hout,by omega,fun k hk=>hw k (by omega)⟩
theorem killL_length (i:Nat):∀ l:List E,(E.killL i l).length=l.length
 | []=>rfl
 | _::l=>by simp [E.killL,killL_length i l]
theorem Rel.move (h:Rel T w F ρ w0 σ tmps outs) {i:Nat} (hi:i<σ.ob.length) (hw:∀ k,k<w.heap.size→(ρ i).block≠some k→w'.heap[k]?=w.heap[k]?) (hs:w.heap.size≤w'.heap.size) (hos:w'.os=w.os) (htp:w'.tape=w.tape) (hout:w'.output=w.output)
 {r:RI} (hr:∀ b,r.block=some b→(ρ i).block=some b∨(w.heap.size≤b∧b<w'.heap.size)) {o:Obj} (ho:ORel T w' F (upd ρ i r) w0.w.heap.size r o) :
 Rel T w' F (upd ρ i r) w0 { (σ.kill i) with ob:=(σ.kill i).ob.set i o } tmps outs:=by
 have hnF:∀ k,F k→(ρ i).block≠some k:=fun k hk e=>(h.own e).2.1 hk
 have hwF:∀ k,F k→w'.heap[k]?=w.heap[k]?:=fun k hk=>hw k (h.fsub k hk) (hnF k hk)
 have e1:∀ {e:E} {v:Value},ERel T w F ρ e v→ERel T w' F (upd ρ i r) (e.kill i) v:=fun he=>he.killed.mono (fun _ x=>x) hwF (fun _ _=>rfl)
 refine ⟨h.tm.killed.mono (fun _ x=>x) hwF (fun _ _=>rfl),h.out.killed.mono (fun _ x=>x) hwF (fun _ _=>rfl),?_,?_,?_,fun k hk=>Nat.lt_of_lt_of_le (h.fsub k hk) hs,?_,h.size,h.fold⟩
 · intro j o' hj
   by_cases hji:j=i
   · subst hji
     simp [St.kill,hi] at hj
     subst hj
     rw [upd_self]
     exact ho
   · simp only [List.getElem?_set_ne (Ne.symm hji),St.kill,List.getElem?_map] at hj
     cases hoj:σ.ob[j]? with
     | none=>rw [hoj] at hj;cases hj
     | some oj =>
       rw [hoj] at hj
       simp at hj
       subst hj
       rw [upd_ne ρ r hji]
       have h1:=h.ob j oj hoj
       have hbl:∀ k,(ρ j).block=some k→w'.heap[k]?=w.heap[k]?:=fun k hk=>hw k (h.own hk).1 (fun e=>hji (h.inj j i k hk e))
       cases oj with
       | dead=>cases hρ:ρ j<;>rw [hρ] at h1<;>exact h1
       | row e l=>exact h1.row_mono hwF hbl
       | erow e l =>
         cases hρ:ρ j with
         | none=>rw [hρ] at h1;exact h1.elim
         | var _ _=>rw [hρ] at h1;exact h1.elim
         | row e' r =>
           rw [hρ] at h1 hbl
           obtain ⟨q1,q2,q0,xs,q3,q4,q5⟩:=h1
           refine ⟨q1,q2,q0,xs,⟨by rw [killL_length];exact q3.1,?_⟩,ERelL.mono (fun _ x=>x) hwF (fun _ _=>rfl) q4.killed,q5⟩
           rw [killL_length]
           rcases q3.2 with h|⟨g,cap,cur,hr,hg,hh,rest⟩
           · exact .inl h
           · refine .inr ⟨g,cap,cur,hr,hg,?_,rest⟩
             rw [hbl g (by simp [RI.block,hr,Value.ownBlock])]
             exact hh
       | var t e =>
         cases hρ:ρ j with
         | none=>rw [hρ] at h1;exact h1.elim
         | row _ _=>rw [hρ] at h1;exact h1.elim
         | var b t' =>
           rw [hρ] at h1 hbl
           obtain ⟨⟨q1,q2,q3⟩,q4,q5,cs,ct,v,q6,q7,q8⟩:=h1
           exact ⟨⟨q1,q2,fun u x hx=>q3 u x (kill_data hx)⟩,q4,q5,cs,ct,v,(hbl b rfl).trans q6,e1 q7,q8⟩
 · intro j hj
   simp [St.kill] at hj
   rw [upd_ne ρ r (by omega)]
   exact h.free j (by simp;omega)
 · intro p q b hp hq
   unfold upd at hp hq
   split at hp<;>split at hq
   · omega
   · rename_i h1 h2
     rcases hr b hp with h3|h3
     · exact absurd (h.inj q i b hq h3) h2
     · have:=(h.own hq).1;omega
   · rename_i h1 h2
     rcases hr b hq with h3|h3
     · exact absurd (h.inj p i b hp h3) h1
     · have:=(h.own hp).1;omega
   · exact h.inj p q b hp hq
 · refine h.below.trans ⟨hos,htp,hout,hs,fun k hk=>hw k (Nat.lt_of_lt_of_le hk h.below.size) (fun e=>by have:=(h.own e).2.2;omega)⟩
end Go.Eng
