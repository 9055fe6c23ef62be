/- A part of the proof: walks through the program's functions, and what they compute. -/
import Derived.Test.YtedceinkpkoncaaGreatDoorPk7
set_option linter.unusedSimpArgs false
set_option linter.unusedVariables false
namespace Go.Eng
open Go.RowKit
variable {P:Program} {T:Tab} {w w':World} {w0:Base T} {F F':Nat→Prop} {ρ ρ':Nat→RI} {σ σ':St} {a:Act} {outs:List (Array Value)}
def contentV (T:Tab) (σ:St) (t:TypeId):E→Option V
 | .sl i e lo n _=>if T.ty t=.slice e then match σ.ob[i]? with
   | some (.row _ l)=>some (.list ((l.drop lo).take n))
   | _=>none
   else none
 | .ptr i p t'=>if T.ty t=.ptr t' then match σ.ob[i]? with
   | some (.var _ (.data _ v))=>some (.ref (v.get p))
   | _=>none
   else none
 | e=>toV T t e
def argsV (T:Tab) (σ:St):List TypeId→List E→Option (List V)
 | [],[]=>some []
 | t::ts,e::es=>match contentV T σ t e,argsV T σ ts es with
   | some v,some vs=>some (v::vs)
   | _,_=>none
 | _,_=>none
theorem contentV_fit (hP:TabOk P T) {tmps:Array Value} (hR:Rel T w F ρ w0 σ tmps outs) {t:TypeId} {e:E} {x:Value} {v:V} (hx:ERel T w F ρ e x) (h:contentV T σ t e=some v) :
 Fits T w (fun b=>b<w.heap.size) t v x.cells.toList∧ValOf T t x x.cells.toList:=by
 have base:∀ {e:E},ERel T w F ρ e x→toV T t e=some v→Fits T w (fun b=>b<w.heap.size) t v x.cells.toList∧ValOf T t x x.cells.toList:=by
  intro e hx h
  obtain ⟨h1,h2⟩:=toV_fits hx h
  exact ⟨h1.mono hR.fsub (fun _ _=>rfl),h2⟩
 unfold contentV at h
 split at h
 · rename_i i el lo n c
   split at h;rotate_left;· cases h
   rename_i ht
   split at h;rotate_left;· cases h
   rename_i e2 l ho
   cases h
   have hob:=hR.ob _ _ ho
   have hval:∀ ad len cap,x=.slice ad len cap→ValOf T t x x.cells.toList:=fun ad len cap hx=>by subst hx;simp [ValOf,ht,TyD.isAgg,Value.cells]
   rcases hx with ⟨h1,rfl,_,rfl⟩|⟨b,m,cap,off,h1,h2,h3,rfl,h5,h6⟩
   · simp only [List.take_zero]
     exact ⟨.nil ht,hval _ _ _ rfl⟩
   · rw [h1] at hob
     obtain ⟨rfl,q2,xs,q3,q4⟩:=hob
     refine ⟨?_,hval _ _ _ rfl⟩
     rcases q3.2 with ⟨q,_⟩|⟨b',cap',cur,hr,hb,hh,hn',hc',hs',htk⟩
     · cases q
     · cases hr
       have hnl:((l.drop lo).take n).length=n:=by simp;omega
       have hf:=q4.slice hP.sized (lo:=lo) (m:=n) (by omega)
       refine .slice ht (Array.getElem?_eq_some_iff.1 hh).1 (cs:=(xs.drop (lo*T.sz el)).take (n*T.sz el)) ?_ hnl (hf.mono hR.fsub (fun _ _=>rfl)) (by split<;>omega)
       rcases h6 with h6|h6
       · subst h6
         intro j y hy
         simp at hy
       · have hys:Seg w b 0 xs:=by
          have:=seg_of_cells (w:=w) hh 0 (l.length*T.sz el)
          rw [List.drop_zero,htk] at this
          exact this
         have:=hys.sub (lo*T.sz el) (n*T.sz el)
         rw [Nat.zero_add] at this
         rw [h6]
         exact this
 · rename_i i p t'
   split at h;rotate_left;· cases h
   rename_i ht
   split at h;rotate_left;· cases h
   rename_i tv td y ho
   cases h
   have hob:=hR.ob _ _ ho
   obtain ⟨b,root,off,p1,p2,rfl⟩:=hx
   rw [p1] at hob
   obtain ⟨⟨q1,q1',q1''⟩,q2,q3,cs,ct,z,q4,q5,q6,q7⟩:=hob
   obtain ⟨cs',rfl,hA,hf⟩:=q5
   have:=q1'' _ _ rfl
   subst this
   subst q1
   have hcs:cs'=cs:=by have:=q6.2;rw [if_pos hA] at this;simpa using this
   subst hcs
   obtain ⟨g1,g2⟩:=p2.get hP.sized hf
   refine ⟨.ref ht (Array.getElem?_eq_some_iff.1 q4).1 (seg_of_cells q4 off _) (g1.mono hR.fsub (fun _ _=>rfl)),by simp [ValOf,ht,TyD.isAgg,Value.cells]⟩
 · exact base hx h
theorem argsV_fit (hP:TabOk P T) {tmps:Array Value} (hR:Rel T w F ρ w0 σ tmps outs):∀ {ts:List TypeId} {es:List E} {xs:List Value} {vs:List V},ERelL T w F ρ es xs→argsV T σ ts es=some vs →
 ArgsFit T w (fun b=>b<w.heap.size) ts vs xs
 | [],[],[],vs,_,h=>by cases h;trivial
 | t::ts,e::es,x::xs,vs,⟨h1,h2⟩,h=>by
   unfold argsV at h
   split at h
   · rename_i v vs' hv hvs
     cases h
     exact ⟨contentV_fit hP hR h1 hv,argsV_fit hP hR h2 hvs⟩
   · cases h
 | [],_::_,_,_,_,h=>by simp [argsV] at h
 | _::_,[],_,_,_,h=>by simp [argsV] at h
 | [],[],_::_,_,h,_=>h.elim
 | _::_,_::_,[],_,h,_=>h.elim
theorem Fits.uniq:∀ (d:Nat) {w1 w2:World} {F1 F2:Nat→Prop} {t:TypeId} {v:V} {cs ds:List Value},flatTy T d t=true→Fits T w1 F1 t v cs→Fits T w2 F2 t v ds→cs=ds:=by
 intro d
 induction d using Nat.strongRecOn with
 | _ d ih =>
   intro w1 w2 F1 F2 t v cs ds hf h k
   cases d with
   | zero=>simp [flatTy] at hf
   | succ d =>
     unfold flatTy at hf
     split at hf
     · rename_i kd hk;obtain ⟨n,rfl,_,rfl⟩:=h.inv' hk;obtain ⟨m,e,_,rfl⟩:=k.inv' hk;cases e;rfl
     · rename_i hk;obtain ⟨n,rfl,rfl⟩:=h.inv' hk;obtain ⟨m,e,rfl⟩:=k.inv' hk;cases e;rfl
     · rename_i hk;obtain ⟨n,rfl,rfl⟩:=h.inv' hk;obtain ⟨m,e,rfl⟩:=k.inv' hk;cases e;rfl
     · rename_i ts hk
       obtain ⟨l,rfl,hl⟩:=h.inv' hk
       obtain ⟨m,e,hm⟩:=k.inv' hk
       cases e
       have key:∀ (ts:List TypeId) (l:List V) (cs ds:List Value),(∀ t∈ts,∃ d',d'<d+1∧flatTy T d' t=true)→FitsL T w1 F1 ts l cs→FitsL T w2 F2 ts l ds→cs=ds:=by
        intro ts
        induction ts with
        | nil=>intro l cs ds _ h k;cases h;cases k;rfl
        | cons t ts iht =>
          intro l cs ds hall h k
          cases h with
          | cons h1 h2 =>
            cases k with
            | cons k1 k2 =>
              obtain ⟨d',hd',hf'⟩:=hall t (by simp)
              rw [ih d' hd' hf' h1 k1,iht _ _ _ (fun u hu=>hall u (by simp [hu])) h2 k2]
       refine key ts _ _ _ (fun u hu=>?_) hl hm
       obtain ⟨j,hk'⟩:=List.mem_iff_getElem?.1 hu
       obtain ⟨d',h1,h2⟩:=flatTys_nth hf hk'
       exact ⟨d',by omega,h2⟩
     · rename_i n e hk
       obtain ⟨l,rfl,hl⟩:=h.inv' hk
       obtain ⟨m,e,hm⟩:=k.inv' hk
       cases e
       have key:∀ (ts:List TypeId) (l:List V) (cs ds:List Value),(∀ t∈ts,flatTy T d t=true)→FitsL T w1 F1 ts l cs→FitsL T w2 F2 ts l ds→cs=ds:=by
        intro ts
        induction ts with
        | nil=>intro l cs ds _ h k;cases h;cases k;rfl
        | cons t ts iht =>
          intro l cs ds hall h k
          cases h with
          | cons h1 h2 =>
            cases k with
            | cons k1 k2=>rw [ih d (by omega) (hall t (by simp)) h1 k1,iht _ _ _ (fun u hu=>hall u (by simp [hu])) h2 k2]
       exact key _ _ _ _ (fun u hu=>by rw [(List.mem_replicate.1 hu).2];exact hf) hl hm
     · cases hf
theorem valOf_uniq {t:TypeId} {x y:Value} {cs:List Value} (hx:ValOf T t x cs) (hy:ValOf T t y cs):x=y:=by
 unfold ValOf at hx hy
 split at hx
 · rename_i hA;rw [if_pos hA] at hy;rw [hx,hy]
 · rename_i hA;rw [if_neg hA] at hy;rw [hx] at hy;simpa using hy
theorem flatTy_notSlice {d:Nat} {t e:TypeId} (hf:flatTy T d t=true):T.ty t≠.slice e:=by
 intro h
 cases d with
 | zero=>simp [flatTy] at hf
 | succ d=>simp [flatTy,h] at hf
theorem CallQ.ctr (hP:TabOk P T) {f:FuncId} {pts:List TypeId} {rt:TypeId} {vs:List V} {r:V} {es:List E} (hc:Ctr P T f pts [rt] vs [r]) (hv:argsV T σ pts es=some vs) (hf:flatTy T 20 rt=true):CallQ P T σ f es (fromV T rt r):=by
 obtain ⟨hE,hc⟩:=hc
 refine ⟨hE,?_⟩
 intro w0 w F ρ tmps outs xs hR hx
 have run:∀ w',Below w.heap.size w w'→Calls P f xs.toArray w' fun en w''=>∃ y,en=.returned y∧Below w'.heap.size w' w''∧Fits T w'' (fun _=>False) rt r y.cells.toList∧ValOf T rt y y.cells.toList:=by
  intro w' hb
  have hR':=hR.later hb
  have hx':ERelL T w' F ρ es xs:=hx.mono (fun _ x=>x) (fun b hF=>hb.block b (hR.fsub b hF)) (fun _ _=>rfl)
  refine (hc w' _ xs (fun _ h=>h) (T.globB _ _ (Base.ok _) hR'.below) (argsV_fit hP hR' hx' hv)).mono ?_
  rintro en w'' ⟨ys,rfl,hb',hres⟩
  match ys,hres with
  | [y],⟨hres,_,_⟩ =>
    refine ⟨y,rfl,hb',?_⟩
    unfold ResFit at hres
    split at hres
    · rename_i e he;exact absurd he (flatTy_notSlice hf)
    · exact hres.2
 obtain ⟨en,w1,fr,⟨y,rfl,_,h1,h2⟩,_⟩:=run w (Below.refl _ _) []
 refine ⟨y,fromV_rel (h1.flat (w':=w) (F':=F) 20 hf) h2,fun w' hb=>(run w' hb).mono ?_⟩
 rintro en w'' ⟨y',rfl,hb',h3,h4⟩
 have hcs:=Fits.uniq 20 hf h3 h1
 refine ⟨?_,hb'⟩
 rw [hcs] at h4
 rw [valOf_uniq h4 h2]
def newEs (T:Tab) (n:Nat):List TypeId→List V→List Obj × List E
 | t::ts,v::vs=>match T.ty t with
   | .slice e=>(.row e v.toList::(newEs T (n+1) ts vs).1,.sl n e 0 v.toList.length false::(newEs T (n+1) ts vs).2)
   | _=>((newEs T n ts vs).1,fromV T t v::(newEs T n ts vs).2)
 | _,_=>([],[])
theorem Rel.add {tmps:Array Value} (h:Rel T w F ρ w0 σ tmps outs) {r:RI} {o:Obj} (hr:∀ b,r.block=some b→∀ j,(ρ j).block≠some b) (ho:ORel T w F (upd ρ σ.ob.length r) w0.w.heap.size r o) :
 Rel T w F (upd ρ σ.ob.length r) w0 { σ with ob:=σ.ob++[o] } tmps outs:=by
 have hn:ρ σ.ob.length=.none:=h.free _ (by simp)
 have hm:=upd_mono (r:=r) hn
 refine ⟨h.tm.mono (fun _ x=>x) (fun _ _=>rfl) hm,h.out.mono (fun _ x=>x) (fun _ _=>rfl) hm,?_,?_,?_,h.fsub,h.below,h.size,h.fold⟩
 · intro i o' hi
   by_cases hlt:i<σ.ob.length
   · simp only [List.getElem?_append_left hlt] at hi
     rw [upd_ne ρ r (by omega)]
     exact (h.ob i o' hi).mono (fun _ x=>x) (fun _ _=>rfl) hm (fun _ _=>rfl) (fun b hb=>(h.own hb).2.1)
   · rw [List.getElem?_append_right (by omega)] at hi
     have:i=σ.ob.length:=by
      have:=(List.getElem?_eq_some_iff.1 hi).1
      simp at this
      omega
     subst this
     simp at hi
     subst hi
     rw [upd_self]
     exact ho
 · intro i hi
   simp at hi
   rw [upd_ne ρ r (by omega)]
   exact h.free i (by simp;omega)
 · intro i j b hi hj
   unfold upd at hi hj
   split at hi<;>split at hj
   · omega
   · exact absurd hj (hr b hi j)
   · exact absurd hi (hr b hj i)
   · exact h.inj i j b hi hj
theorem news_rel {n0:Nat} (hF:∀ b,F b→b<n0) {tmps:Array Value}:∀ {ts:List TypeId} {vs:List V} {ys:List Value} {σ:St} {ρ:Nat→RI},Rel T w F ρ w0 σ tmps outs→w0.w.heap.size≤n0→ResFits T w n0 ts vs ys →
 (∀ y∈ys,∀ b,y.ownBlock=some b→n0≤b→∀ j,(ρ j).block≠some b)→∃ ρ',Rel T w F ρ' w0 { σ with ob:=σ.ob++(newEs T σ.ob.length ts vs).1 } tmps outs∧ERelL T w F ρ' (newEs T σ.ob.length ts vs).2 ys∧(∀ i,ρ i≠.none→ρ' i=ρ i)
 | [],[],[],σ,ρ,hR,_,_,_=>⟨ρ,by simpa [newEs] using hR,trivial,fun _ _=>rfl⟩
 | t::ts,v::vs,y::ys,σ,ρ,hR,hn,⟨h1,h2,h3⟩,hd=>by
   unfold ResFit at h1
   unfold newEs
   split at h1
   · rename_i e ht
     obtain ⟨l,zs,rfl,hfl,hown,hf⟩:=h1
     have hlt:=hown.lt
     have hadd:=hR.add (r:=.row e y) (o:=.row e l) (fun b hb=>hd y (by simp) b hb (hlt b hb).1) ⟨rfl,fun b hb hFb=>by have:=hF b hFb;have:=(hlt b hb).1;omega,zs,⟨hown.1,by
      rcases hown.2 with h|⟨g,cap,cur,q1,q2,q3⟩
      · exact .inl h
      · exact .inr ⟨g,cap,cur,q1,Nat.le_trans hn q2,q3⟩⟩,hf.flat hfl⟩
     obtain ⟨ρ',r1,r2,r3⟩:=news_rel hF (σ:={ σ with ob:=σ.ob++[.row e l] }) hadd hn h3 (fun y' hy' b hb hnb j hj=>by
      unfold upd at hj
      split at hj
      · exact h2 b hj y' hy' hb
      · exact hd y' (by simp [hy']) b hb hnb j hj)
     have hnone:ρ σ.ob.length=.none:=hR.free _ (by simp)
     simp only [List.length_append,List.length_cons,List.length_nil,Nat.zero_add] at r1 r2
     simp only [ht]
     refine ⟨ρ',by simpa using r1,⟨?_,r2⟩,fun i hi=>?_⟩
     · have hk:ρ' σ.ob.length=.row e y:=by
        rw [r3 _ (by rw [upd_self];simp),upd_self]
       unfold ERel
       simp only [V.toList_list]
       rw [hk]
       rcases hown.2 with ⟨rfl,h0⟩|⟨g,cap,cur,rfl,q2,q3,q4,_⟩
       · exact .inl ⟨rfl,rfl,rfl,h0⟩
       · exact .inr ⟨g,_,cap,0,rfl,by omega,q4,rfl,fun _=>rfl,.inr (by simp)⟩
     · have hne:i≠σ.ob.length:=fun h=>hi (by rw [h];exact hnone)
       rw [r3 i (by rw [upd_ne _ _ hne];exact hi),upd_ne _ _ hne]
   · rename_i hns
     obtain ⟨hfl,hf,hval⟩:=h1
     obtain ⟨ρ',r1,r2,r3⟩:=news_rel hF hR hn h3 (fun y' hy'=>hd y' (by simp [hy']))
     have hnew:(match T.ty t with
      | .slice e=>(.row e v.toList::(newEs T (σ.ob.length+1) ts vs).1,.sl σ.ob.length e 0 v.toList.length false::(newEs T (σ.ob.length+1) ts vs).2)
      | _=>((newEs T σ.ob.length ts vs).1,fromV T t v::(newEs T σ.ob.length ts vs).2))=((newEs T σ.ob.length ts vs).1,fromV T t v::(newEs T σ.ob.length ts vs).2):=by
      split
      · rename_i e he;exact absurd he (hns e)
      · rfl
     simp only [hnew]
     exact ⟨ρ',r1,⟨fromV_rel (hf.flat 20 hfl) hval,r2⟩,r3⟩
 | [],[],_::_,_,_,_,_,h,_=>h.elim
 | [],_::_,_,_,_,_,_,h,_=>h.elim
 | _::_,[],_,_,_,_,_,h,_=>h.elim
 | _::_,_::_,[],_,_,_,_,h,_=>h.elim
theorem CallE.ctr (hP:TabOk P T) {f:FuncId} {pts rts:List TypeId} {vs rs:List V} {es:List E} {K:St→E→Prop} (hc:Ctr P T f pts rts vs rs) (hv:argsV T σ pts es=some vs)
 (hK:K { σ with ob:=σ.ob++(newEs T σ.ob.length rts rs).1 } (outE (newEs T σ.ob.length rts rs).2)):CallE P T σ f es K:=by
 obtain ⟨hE,hc⟩:=hc
 refine ⟨hE,?_⟩
 intro w0 w F ρ tmps outs xs hR hx
 refine (hc w _ xs (fun _ h=>h) (T.globB _ _ (Base.ok _) hR.below) (argsV_fit hP hR hx hv)).mono ?_
 rintro en w' ⟨ys,rfl,hb,hres⟩
 have hR':=hR.later hb
 obtain ⟨ρ',r1,r2,_⟩:=news_rel (n0:=w.heap.size) hR.fsub hR' hR.below.size hres (fun y _ b _ hnb j hj=>by have:=(hR.own hj).1;omega)
 exact ⟨_,_,_,F,ρ',rfl,hK,outE_rel r2,r1⟩
end Go.Eng
namespace Go.Eng
open Go.RowKit
variable {P:Program} {T:Tab}
def tyOf (l:List (Nat × TyD)) (t:TypeId):TyD:=(l.lookup t).getD .other
theorem tyOf_mem {l:List (Nat × TyD)} {t:TypeId} {d:TyD} (h:tyOf l t=d) (hd:d≠.other):(t,d)∈l:=by
 unfold tyOf at h
 induction l with
 | nil=>simp at h;exact absurd h.symm hd
 | cons x l ih =>
   obtain ⟨s,e⟩:=x
   simp only [List.lookup_cons] at h
   by_cases hts:t=s
   · subst hts;simp at h;subst h;simp
   · have:(t == s)=false:=by simpa using hts
     rw [this] at h
     exact List.mem_cons_of_mem _ (ih h)
def nilsAt (T:Tab) (cs:List Value) (d:TyD):Bool:=match d with
 | .struct ts=>ts.zipIdx.all fun x=>match T.ty x.1 with
   | .slice _=>match cs[T.offs ts x.2]? with
     | some (.slice none 0 0)=>true
     | _=>false
   | _=>true
 | _=>true
structure RowOk (P:Program) (T:Tab) (t:TypeId) (d:TyD):Prop where
 kind:match d with
  | .int k=>P.underlying t=some (.int k)∧T.sz t=1
  | .bool=>P.underlying t=some .bool∧T.sz t=1
  | .str=>P.underlying t=some .string∧T.sz t=1
  | .struct ts=>(∃ fs:Array Field,P.underlying t=some (.struct fs)∧fs.toList.map (·.type)=ts∧P.stoodInHeld t=false ∧
     (fs.toList.zipIdx.all fun x => x.1.offset == T.offs ts x.2 && decide (0 < T.sz x.1.type) && !(x.1.name == "_") && !(T.ty x.1.type == .other)) = true) ∧ T.sz t = T.szs ts ∧ P.eqGuardType P.depth t = false
  | .arr n e=>(P.underlying t=some (.array n e)∧1<n∧0<T.sz e∧T.ty e≠.other)∧T.sz t=n*T.sz e∧P.eqGuardType P.depth t=false
  | .slice e=>(P.underlying t=some (.slice e)∧T.ty e≠.other)∧T.sz t=1∧0<T.sz e
  | .ptr e=>(P.underlying t=some (.pointer e)∧T.ty e≠.other)∧T.sz t=1
  | .fn=>(∃ a b c,P.underlying t=some (.func a b c))∧T.sz t=1
  | .other=>False
 info:∃ z,(P.info? t).map (fun i=>(i.size,i.bytes,i.zero))=some (T.sz t,T.by_ t,some z)∧z.cells.size=T.sz t∧(z.cells.toList.all fun c=>c.oneCell')=true ∧
  (if d.isAgg then z=.agg z.cells else z.oneCell'=true)∧(d≠.fn→(∀ e,d≠.ptr e)→∀ w F,Fits T w F t (T.zero t) z.cells.toList)∧(d=.fn→z=.nilFunc)∧(∀ e,d=.slice e→z=.slice none 0 0)∧nilsAt T z.cells.toList d=true
theorem tabOk {l:List (Nat × TyD)} (hty:T.ty=tyOf l) (h:∀ p∈l,RowOk P T p.1 p.2):TabOk P T:=by
 have at_:∀ {t d},T.ty t=d→d≠.other→RowOk P T t d:=fun {t d} ht hd=>h (t,d) (tyOf_mem (by rw [← hty];exact ht) hd)
 refine ⟨⟨?_,?_,?_,?_,?_,?_,?_,?_⟩,?_,?_,?_,?_,?_,?_,?_,?_,?_,?_⟩
 · exact fun t k ht=>(at_ ht (by simp)).kind.2
 · exact fun t ht=>(at_ ht (by simp)).kind.2
 · exact fun t ht=>(at_ ht (by simp)).kind.2
 · exact fun t e ht=>(at_ ht (by simp)).kind.2
 · exact fun t e ht=>(at_ ht (by simp)).kind.2
 · exact fun t ht=>(at_ ht (by simp)).kind.2
 · exact fun t ts ht=>(at_ ht (by simp)).kind.2.1
 · exact fun t n e ht=>by rw [szs_replicate];exact (at_ ht (by simp)).kind.2.1
 · exact fun t k ht=>(at_ ht (by simp)).kind.1
 · exact fun t ht=>(at_ ht (by simp)).kind.1
 · exact fun t ht=>(at_ ht (by simp)).kind.1
 · intro t ts ht
   obtain ⟨⟨fs,h1,h2,h3,h4⟩,_⟩:=(at_ ht (by simp)).kind
   refine ⟨fs,h1,h2,h3,fun k f hf=>?_⟩
   have hm:(f,k)∈fs.toList.zipIdx:=by
    rw [List.mem_iff_getElem?]
    exact ⟨k,by simp [hf]⟩
   have:=List.all_eq_true.1 h4 _ hm
   simp only [Bool.and_eq_true,beq_iff_eq,decide_eq_true_eq,Bool.not_eq_true'] at this
   obtain ⟨⟨⟨a,b⟩,c⟩,d⟩:=this
   exact ⟨a,b,c,by simpa using d⟩
 · exact fun t n e ht=>(at_ ht (by simp)).kind.1
 · exact fun t e ht=>(at_ ht (by simp)).kind.1
 · exact fun t e ht=>(at_ ht (by simp)).kind.1
 · exact fun t ht=>(at_ ht (by simp)).kind.1
 · intro t ht
   cases hd:T.ty t with
   | struct ts=>exact (at_ hd (by simp)).kind.2.2
   | arr n e=>exact (at_ hd (by simp)).kind.2.2
   | _=>rw [hd] at ht;cases ht
 · intro t ht
   obtain ⟨z,h1,h2,h3,h4,h5,h6,h7,h8⟩:=(at_ rfl ht).info
   cases hi:P.info? t with
   | none=>rw [hi] at h1;cases h1
   | some i =>
     rw [hi] at h1
     simp at h1
     obtain ⟨a,b,c⟩:=h1
     refine ⟨i,rfl,a,b,z,c,h2,fun c hc=>?_,h4,h5,h6,h7,fun ts hts k u e hk hu=>?_⟩
     · exact List.all_eq_true.1 h3 c (by simpa using hc)
     · rw [hts] at h8
       have hm:(u,k)∈ts.zipIdx:=by rw [List.mem_iff_getElem?];exact ⟨k,by simp [hk]⟩
       have:=List.all_eq_true.1 h8 _ hm
       simp only [hu] at this
       split at this
       · assumption
       · cases this
theorem FitsL.repl {w:World} {F:Nat→Prop} {e:TypeId} {v:V} {cs:List Value} (h:Fits T w F e v cs):∀ n,FitsL T w F (List.replicate n e) (List.replicate n v) (List.replicate n cs).flatten
 | 0=>.nil
 | n+1=>by
   simp only [List.replicate_succ,List.flatten_cons]
   exact .cons h (FitsL.repl h n)
end Go.Eng
