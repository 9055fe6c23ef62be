/- A part of the proof: walks through the program's functions, and what they compute. -/
import Derived.Test.YtmonhjagbhpbeaaGreatDoorPk3
import Derived.OpenShut
import Derived.ChangeOld
import Derived.WideShapes
import Derived.Deep.Slices
import Derived.SizedLaws
set_option linter.unusedSimpArgs false
set_option linter.unusedVariables false
namespace Go.Eng
open Go.RowKit
variable {P:Program} {T:Tab} {w w':World} {w0:Base T} {F F':Nat→Prop} {ρ ρ':Nat→RI} {σ σ':St} {a:Act} {outs:List (Array Value)}
variable {ops:Array Oper} {Q:Exit→Act→World→Prop} {md:Region.Mode} {keeps:Nat→Bool}
theorem QI7 (hP:TabOk P T) (hR:Rel T w F ρ w0 σ a.tmps outs) (hd:a.defers=[]) {o:Oper} {g:Bool} {K:St→Prop} {N:Act→World→Prop}
 (hN:∀ a' w',Below w.heap.size w w'→VV T w0 outs K a' w'→N a' w') {ops:Array Oper} (h:opB P T (QC ops o) K σ g):if g then o.wp P a w N Q else N (a.put o.dst undef) w:=by
 unfold opB at h
 have hop:(QC ops o).op=o.op:=rfl
 have hdst:(QC ops o).dst=o.dst:=rfl
 rw [hop,hdst] at h
 split at h
 · rename_i c hc
   split at h
   · rename_i f hf
     exact QHC hR hd hc hf hN h
   · rename_i hf
     cases g with
     | true =>
       obtain ⟨⟨σ',e,h1,w',F',ρ',v,nx,h2,h3,h4,h5,_⟩,nx2,w2,h7,h8⟩:=QHH hP hR hf (h.1 rfl)
       have heq:=(h5 o hc).symm.trans (h7 o hc)
       cases heq
       obtain ⟨σ'',hK,hR',hd'⟩:=Q9 h3 h1 (fun _=>h2) (by simp)
       rcases h4 with rfl|⟨rfl,rfl⟩
       · simp only [if_true,Oper.wp,h5 o hc,Oper.upon]
         exact hN _ _ h8 ⟨σ'',F',ρ',hK,hd'.trans hd,hR'⟩
       · simp only [if_true,Oper.wp,h5 o hc,Oper.upon]
         exact hN _ _ h8 ⟨σ'',F',ρ',hK,hd'.trans hd,hR'⟩
     | false =>
       obtain ⟨σ',hK,hR',hd'⟩:=Q9 (v:=undef) hR (h.2 rfl) (by simp) (fun _=>rfl)
       simp only [Bool.false_eq_true,if_false]
       exact hN _ _ (Below.refl _ _) ⟨σ',F,ρ,hK,hd'.trans hd,hR'⟩
   · exact QA4 hP hR hd hN (by rw [hc];exact h)
   · exact h.elim
 · rename_i hc;exact yT hP hR hd (by rw [hc];rfl) hN (by rw [hc];exact h)
 · rename_i hc;exact yT hP hR hd (by rw [hc];rfl) hN (by rw [hc];exact h)
 · exact h.elim
 · rename_i hc;exact yT hP hR hd (by rw [hc];rfl) hN (by rw [hc];exact h)
 · rename_i hc;exact yT hP hR hd (by rw [hc];rfl) hN (by rw [hc];exact h)
 · exact QA4 hP hR hd hN h
def QRf (P:Program) (T:Tab) (ops:Array Oper) (keeps:Nat→Bool) (K:St→Prop) (fuel:Nat) (listed:Array Bool) (σ:St) (i:Nat):Prop :=
 ∃ o,ops[i]?=some o∧Yw (QC ops o) σ fun g=>if keeps i then opB P T (QC ops o) (AnyA P T ops keeps K fuel (listed.setIfInBounds i true)) σ g else opG P T (QC ops o) (AnyA P T ops keeps K fuel (listed.setIfInBounds i true)) σ g
def Branches (P:Program) (T:Tab) (ops:Array Oper) (keeps:Nat→Bool) (K:St→Prop) (fuel:Nat) (listed:Array Bool) (σ:St) (rs:List Nat):Prop:=∀ i∈rs,QRf P T ops keeps K fuel listed σ i
theorem Branches.nil {K:St→Prop} {fuel:Nat} {listed:Array Bool}:Branches P T ops keeps K fuel listed σ []:=fun _ h=>by cases h
theorem Branches.keep {K:St→Prop} {fuel:Nat} {listed:Array Bool} {i:Nat} {rs:List Nat} (so:SOp) (hso:(ops[i]?).map (QC ops)=some so) (hk:keeps i=true) (l':Array Bool) (hl':listed.setIfInBounds i true=l')
 (h:∀ R:St→Prop,(∀ σ',AnyA P T ops keeps K fuel l' σ'→R σ')→Yw so σ (opB P T so R σ)) (hs:Branches P T ops keeps K fuel listed σ rs):Branches P T ops keeps K fuel listed σ (i::rs):=by
 subst hl'
 obtain ⟨o,hi,rfl⟩:=Option.map_eq_some_iff.1 hso
 intro j hj
 rcases List.mem_cons.1 hj with rfl|hj
 · exact ⟨o,hi,by simp only [hk,if_true];exact h _ fun _ x=>x⟩
 · exact hs j hj
theorem Branches.any {K:St→Prop} {fuel:Nat} {listed:Array Bool} {i:Nat} {rs:List Nat} (so:SOp) (hso:(ops[i]?).map (QC ops)=some so) (hk:keeps i=false) (l':Array Bool) (hl':listed.setIfInBounds i true=l')
 (h:∀ R:St→Prop,(∀ σ',AnyA P T ops keeps K fuel l' σ'→R σ')→Yw so σ (opG P T so R σ)) (hs:Branches P T ops keeps K fuel listed σ rs):Branches P T ops keeps K fuel listed σ (i::rs):=by
 subst hl'
 obtain ⟨o,hi,rfl⟩:=Option.map_eq_some_iff.1 hso
 intro j hj
 rcases List.mem_cons.1 hj with rfl|hj
 · exact ⟨o,hi,by simp only [hk,Bool.false_eq_true,if_false];exact h _ fun _ x=>x⟩
 · exact hs j hj
theorem AnyA.all {K:St→Prop} {fuel:Nat} {listed:Array Bool} {rs:List Nat} (hP:TabOk P T) (hg:YW ops=true) (hr:Region.ready .any ops listed=rs) (hne:rs.isEmpty=false) (h:Branches P T ops keeps K fuel listed σ rs):AnyA P T ops keeps K (fuel+1) listed σ:=by
 intro w0 w F ρ a outs hd hR
 subst hr
 refine ⟨fun h=>(by rw [h] at hne;cases hne),fun i hi=>?_⟩
 obtain ⟨o,ho,h⟩:=h i hi
 have hgo:=List.all_eq_true.1 hg o (by have:=Array.mem_of_getElem? ho;simpa using this)
 obtain ⟨g,h,hw⟩:=Wc hR hgo h
 unfold Go.wpOp
 simp only [ho,hw]
 cases hk:keeps i with
 | true =>
   simp only [hk,if_true] at h
   have:=QI7 (Q:=fun ex a' w'=>ex=.normal∧VV T w0 outs K a' w') hP hR hd (N:=fun a' w'=>(true=true→Below w.heap.size w w')∧yt P .any ops (fun ex a' w'=>ex=.normal∧VV T w0 outs K a' w') keeps fuel (listed.setIfInBounds i true) a' w')
    (fun a' w' hb ⟨σ',F',ρ',q1,q2,q3⟩=>⟨fun _=>hb,q1 w0 w' F' ρ' a' outs q2 q3⟩) h
   cases g with
   | true=>exact .inl this
   | false=>exact this
 | false =>
   simp only [hk,Bool.false_eq_true,if_false] at h
   have:=wc (Q:=fun ex a' w'=>ex=.normal∧VV T w0 outs K a' w') hP hR hd (N:=fun a' w'=>(false=true→Below w.heap.size w w')∧yt P .any ops (fun ex a' w'=>ex=.normal∧VV T w0 outs K a' w') keeps fuel (listed.setIfInBounds i true) a' w')
    (fun a' w' ⟨σ',F',ρ',q1,q2,q3⟩=>⟨fun h=>(by cases h),q1 w0 w' F' ρ' a' outs q2 q3⟩) h
   cases g with
   | true=>exact .inl this
   | false=>exact this
def but (l:List Nat) (i:Nat):Bool:=!l.contains i
theorem SA.regionAny {id:Nat} {ops:Array Oper} (hm:P.follows .mixedOrders=true) (n:Nat) (hn:ops.size=n) (l0:Array Bool) (hl0:Array.replicate n false=l0) (wr:List Nat) (lv:List Nat) {K:Exit→St→Prop}
 (h:∀ R:St→Prop,(∀ σ',K .normal (σ'.keep lv)→R σ')→AnyA P T ops (but wr) R n l0 σ):SA P T (.region id ops true) K σ:=by
 intro w0 w F ρ a outs hd hR
 subst hn hl0
 have h:=h (fun σ'=>K .normal (σ'.keep lv)) (fun _ x=>x) w0 _ F ρ a outs hd (hR.later (w':={ w with drawn:=w.drawn+1 }) ((Below.refl _ _).drew))
 refine wp_mono (wp_region_any hm (yr _ _ _ _ h)) ?_
 rintro ex a' w' ⟨rfl,σ',F',ρ',hK,hd',hR'⟩
 exact ⟨_,F',ρ',hK,hd',hR'.keep lv⟩
theorem SA.regionAnyPost {id:Nat} {ops:Array Oper} (hm:P.follows .mixedOrders=true) (n:Nat) (hn:ops.size=n) (l0:Array Bool) (hl0:Array.replicate n false=l0) (wr:List Nat) (lv:List Nat) {K:Exit→St→Prop} (τ:St)
 (h:∀ R:St→Prop,(∀ σ',St.le T (σ'.keep lv) τ→R σ')→AnyA P T ops (but wr) R n l0 σ) (hK:K .normal τ):SA P T (.region id ops true) K σ:=by
 intro w0 w F ρ a outs hd hR
 subst hn hl0
 have h:=h (fun σ'=>St.le T (σ'.keep lv) τ) (fun _ x=>x) w0 _ F ρ a outs hd (hR.later (w':={ w with drawn:=w.drawn+1 }) ((Below.refl _ _).drew))
 refine wp_mono (wp_region_any hm (yr _ _ _ _ h)) ?_
 rintro ex a' w' ⟨rfl,σ',F',ρ',hl,hd',hR'⟩
 obtain ⟨F'',ρ'',h2⟩:=hl _ _ _ _ _ _ (hR'.keep lv)
 exact ⟨_,F'',ρ'',hK,hd',h2⟩
variable {H:Type} {enc:TypeId × Value→H} {P:Program} {T:Tab} {w:World} {base:Nat} {spare:Nat→Bool} {held:Bool} {F:Nat→Prop}
theorem YY (hP:TabOk P T) {t:TypeId} (ht:T.ty t≠.other):P.cellsOf t=T.sz t:=by
 obtain ⟨i,i1,i2,_⟩:=hP.info t ht
 simp [Program.cellsOf,i1,i2]
theorem VB {α:Type} [Inhabited α] {n:Nat} {p:Nat→α→Prop} (h:∀ i,i<n→∃ a,p i a):∃ l:List α,l.length=n∧∀ i,i<n→p i (l.getD i default):=by
 classical
 refine ⟨(List.range n).map fun i=>if h:∃ a,p i a then Classical.choose h else default,by simp,fun i hi=>?_⟩
 have:=h i hi
 simp only [List.getD_eq_getElem?_getD,List.getElem?_map,List.getElem?_range hi,Option.map_some,Option.getD_some,dif_pos this]
 exact Classical.choose_spec this
theorem QDt {a:Addr} {v:Value} (h:w.cell? a=some v):a.spot=none:=by
 unfold World.cell? at h
 split at h
 · split at h
   · cases h
   · rename_i h';simpa using h'
 · cases h
theorem QC9 {α:Type} {f:α→V} {e:TypeId} (hf:∀ v cs,Fits T w F e v cs→∃ a,v=f a):∀ {n:Nat} {l:List V} {cs:List Value},FitsL T w F (List.replicate n e) l cs→∃ m:List α,l=m.map f
 | 0,l,cs,h=>by cases h;exact ⟨[],rfl⟩
 | n+1,l,cs,h=>by
   rw [List.replicate_succ] at h
   cases h with
   | cons h1 h2 =>
     obtain ⟨a,rfl⟩:=hf _ _ h1
     obtain ⟨m,rfl⟩:=QC9 hf h2
     exact ⟨a::m,rfl⟩
theorem Ctr.law {f:FuncId} {pts:List TypeId} {bt:TypeId} {vs:List V} {xs:List Value} {W:World} (h:Ctr P T f pts [bt] vs [.bool true]) (hb:P.underlying bt=some .bool) (hx:ArgsFit T W (fun b=>b<W.heap.size) pts vs xs) (htb:T.ty bt=.bool) (hg:T.glob W) :
 Calls P f xs.toArray W fun e W'=>e=.returned (.bool true)∧Below W.heap.size W W':=by
 refine (h.2 W _ xs (fun _ h=>h) hg hx).mono ?_
 rintro en w' ⟨ys,rfl,hB,hr⟩
 match ys,hr with
 | [y],⟨hr,_,_⟩ =>
   refine ⟨?_,hB⟩
   simp only [QBy,htb] at hr
   obtain ⟨_,h1,h2⟩:=hr
   obtain ⟨b,hb,hc⟩:=h1.inv' htb
   cases hb
   simp only [Qz,htb,TyD.isAgg,Bool.false_eq_true,if_false] at h2
   rw [h2] at hc
   simp at hc
   rw [QFK,hc]
variable {P:Program} {T:Tab} {w w':World} {w0:Base T} {F F':Nat→Prop} {ρ ρ':Nat→RI} {σ σ':St} {a:Act} {outs:List (Array Value)}
def CtrZ (P:Program) (T:Tab) (f:FuncId) (pts rts:List TypeId) (vs rs:List V):Prop :=
 qk P f∧∀ (w:World) (F:Nat→Prop) (xs:List Value),(∀ b,F b→b<w.heap.size)→T.glob w→ArgsFit T w F pts vs xs →
  Calls P f xs.toArray w fun en w'=>∃ ys,en=.returned (QFK ys)∧Below w.heap.size w w'∧ArgsFit T w' (fun b=>F b∨(w.heap.size≤b∧b<w'.heap.size)) rts rs ys
theorem QCK (hP:TabOk P T) {tmps:Array Value} (hR:Rel T w F ρ w0 σ tmps outs) {t:TypeId} {e:E} {x:Value} {v:V} (hx:ERel T w F ρ e x) (h:Zc T σ t e=some v) :
 Fits T w (fun b=>F b∨∃ i,(ρ i).block=some b) t v x.cells.toList∧Qz T t x x.cells.toList:=by
 have base:∀ {e:E},ERel T w F ρ e x→UY T t e=some v→Fits T w (fun b=>F b∨∃ i,(ρ i).block=some b) t v x.cells.toList∧Qz T t x x.cells.toList:=by
  intro e hx h
  obtain ⟨h1,h2⟩:=XE hx h
  exact ⟨h1.mono (fun _ x=>.inl x) (fun _ _=>rfl),h2⟩
 unfold Zc at h
 split at h
 · rename_i i el lo n c
   split at h;rotate_left;· cases h
   rename_i ht
   split at h;rotate_left;· cases h
   rename_i e2 l ho
   cases h
   have hob:=hR.ob _ _ ho
   have hval:∀ ad len cap,x=.slice ad len cap→Qz T t x x.cells.toList:=fun ad len cap hx=>by subst hx;simp [Qz,ht,TyD.isAgg,Value.cells]
   rcases hx with ⟨h1,rfl,_,rfl⟩|⟨b,m,cap,off,h1,h2,h3,rfl,h5,h6⟩
   · simp only [List.take_zero]
     exact ⟨.nil ht,hval _ _ _ rfl⟩
   · have hbl:(ρ i).block=some b:=by rw [h1];rfl
     rw [h1] at hob
     obtain ⟨rfl,q2,xs,q3,q4⟩:=hob
     refine ⟨?_,hval _ _ _ rfl⟩
     rcases q3.2 with ⟨q,_⟩|⟨b',cap',cur,hr,hb,hh,hn',hc',hs',htk⟩
     · cases q
     · cases hr
       have hnl:((l.drop lo).take n).length=n:=by simp;omega
       have hf:=q4.slice hP.sized (lo:=lo) (m:=n) (by omega)
       refine .slice ht (.inr ⟨i,hbl⟩) (cs:=(xs.drop (lo*T.sz el)).take (n*T.sz el)) ?_ hnl (hf.mono (fun _ x=>.inl x) (fun _ _=>rfl)) (by split<;>omega)
       rcases h6 with h6|h6
       · subst h6
         intro j y hy
         simp at hy
       · have hys:Seg w b 0 xs:=by
          have:=Za (w:=w) hh 0 (l.length*T.sz el)
          rw [List.drop_zero,htk] at this
          exact this
         have:=hys.sub (lo*T.sz el) (n*T.sz el)
         rw [Nat.zero_add] at this
         rw [h6]
         exact this
 · rename_i i p t'
   split at h;rotate_left;· cases h
   rename_i ht
   split at h;rotate_left;· cases h
   rename_i tv td y ho
   cases h
   have hob:=hR.ob _ _ ho
   obtain ⟨b,root,off,p1,p2,rfl⟩:=hx
   have hbl:(ρ i).block=some b:=by rw [p1];rfl
   rw [p1] at hob
   obtain ⟨⟨q1,q1',q1''⟩,q2,q3,cs,ct,z,q4,q5,q6,q7⟩:=hob
   obtain ⟨cs',rfl,hA,hf⟩:=q5
   have:=q1'' _ _ rfl
   subst this
   subst q1
   have hcs:cs'=cs:=by have:=q6.2;rw [if_pos hA] at this;simpa using this
   subst hcs
   obtain ⟨g1,g2⟩:=p2.get hP.sized hf
   refine ⟨.ref ht (.inr ⟨i,hbl⟩) (Za q4 off _) (g1.mono (fun _ x=>.inl x) (fun _ _=>rfl)),by simp [Qz,ht,TyD.isAgg,Value.cells]⟩
 · exact base hx h
theorem QBs (hP:TabOk P T) {tmps:Array Value} (hR:Rel T w F ρ w0 σ tmps outs):∀ {ts:List TypeId} {es:List E} {xs:List Value} {vs:List V},ERelL T w F ρ es xs→Zy T σ ts es=some vs →
 ArgsFit T w (fun b=>F b∨∃ i,(ρ i).block=some b) ts vs xs
 | [],[],[],vs,_,h=>by cases h;trivial
 | t::ts,e::es,x::xs,vs,⟨h1,h2⟩,h=>by
   unfold Zy at h
   split at h
   · rename_i v vs' hv hvs
     cases h
     exact ⟨QCK hP hR h1 hv,QBs hP hR h2 hvs⟩
   · cases h
 | [],_::_,_,_,_,h=>by simp [Zy] at h
 | _::_,[],_,_,_,h=>by simp [Zy] at h
 | [],[],_::_,_,h,_=>h.elim
 | _::_,_::_,[],_,h,_=>h.elim
theorem ArgsFit.mono (hF:∀ b,F b→F' b) (hw:∀ b,F b→w'.heap[b]?=w.heap[b]?):∀ {ts:List TypeId} {vs:List V} {xs:List Value},ArgsFit T w F ts vs xs→ArgsFit T w' F' ts vs xs
 | [],[],[],_=>trivial
 | _::_,_::_,_::_,⟨⟨h1,h2⟩,h⟩=>⟨⟨h1.mono hF hw,h2⟩,ArgsFit.mono hF hw h⟩
 | [],[],_::_,h=>h.elim
 | [],_::_,_,h=>h.elim
 | _::_,[],_,h=>h.elim
 | _::_,_::_,[],h=>h.elim
def QLx (T:Tab) (rs:List ResultVar) (rts:List TypeId) (vs:List V) (ex:Exit) (σ':St):Prop:=(ex=.normal∨ex=.ret)∧QL T σ' rs fun es=>Zy T σ' rts es=some vs
theorem J46 {rs:List ResultVar} {rts:List TypeId} {vs:List V} (h:QL T σ' rs fun es=>Zy T σ' rts es=some vs):QLx T rs rts vs .normal σ':=⟨.inl rfl,h⟩
theorem J47 {rs:List ResultVar} {rts:List TypeId} {vs:List V} (h:QL T σ' rs fun es=>Zy T σ' rts es=some vs):QLx T rs rts vs .ret σ':=⟨.inr rfl,h⟩
theorem CtrZ.body (hP : TabOk P T) {f : FuncId} {fn : Func} {c : Code} {pts rts : List TypeId} {vs rs : List V} (hf : P.funcs[f]? = some fn) (hb : fn.body = some c) (hname : (fn.name == "runtime.NumGoroutine") = false) (n : Nat) (hnt : fn.ntmps = n) (res : List ResultVar) (hrs : fn.results.toList = res) (hn : (QF T pts vs).length ≤ n)
 (h:SA P T c (QLx T res rts rs) { tm:=Zf 0 (QF T pts vs),ob:=[],out:=[],nt:=n }):CtrZ P T f pts rts vs rs:=by
 subst hnt hrs
 refine ⟨Wt hf (by rw [hb];rfl) hname,?_⟩
 intro w F xs hF hg hx
 refine calls_of_wp hf hb ?_
 have hl:=hx.len
 have hR:Rel T w F (fun _=>.none) ⟨w,F,hg⟩ { tm:=Zf 0 (QF T pts vs),ob:=[],out:=[],nt:=fn.ntmps } (xs.toArray++Array.replicate (fn.ntmps-xs.toArray.size) undef) [] :=
  ⟨QAK (Wr hx) _,trivial,fun i o h=>by simp at h,fun _ _=>rfl,fun i j b h=>by simp [RI.block] at h,hF,Below.refl _ _,by simp;omega,fun _ h=>.inr h⟩
 refine wp_mono (h ⟨w,F,hg⟩ w F _ { tmps:=xs.toArray++Array.replicate (fn.ntmps-xs.toArray.size) undef,defers:=[] } [] rfl hR) ?_
 rintro ex a' w' ⟨σ',F',ρ',⟨hex,hr⟩,hd',hR''⟩
 refine UL hP hR'' hd' hex hr fun es ys hv he=>⟨ys,rfl,hR''.below,?_⟩
 refine (QBs hP hR'' he hv).mono ?_ (fun _ _=>rfl)
 rintro b (hb|⟨i,hb⟩)
 · rcases hR''.fold b hb with h|h
   · exact .inr ⟨h,hR''.fsub b hb⟩
   · exact .inl h
 · exact .inr ⟨(hR''.own hb).2.2,(hR''.own hb).1⟩
theorem Rel.grow {tmps:Array Value} (h:Rel T w F ρ w0 σ tmps outs) (hb:Below w.heap.size w w'):Rel T w' (fun b=>F b∨(w.heap.size≤b∧b<w'.heap.size)) ρ w0 σ tmps outs:=by
 have hF:∀ b,F b→F b∨(w.heap.size≤b∧b<w'.heap.size):=fun _ h=>.inl h
 have hw:∀ b,F b→w'.heap[b]?=w.heap[b]?:=fun b hF=>hb.block b (h.fsub b hF)
 refine ⟨h.tm.mono hF hw (fun _ _=>rfl),h.out.mono hF hw (fun _ _=>rfl),fun i o ho=>(h.ob i o ho).mono hF hw (fun _ _=>rfl) (fun b hr=>hb.block b (h.own hr).1) (fun b hr hc=>?_),h.free,h.inj,?_,h.below.trans (hb.mono h.below.size),h.size,?_⟩
 · rcases hc with hc|hc
   · exact (h.own hr).2.1 hc
   · have:=(h.own hr).1;omega
 · rintro b (hc|hc)
   · exact Nat.lt_of_lt_of_le (h.fsub b hc) hb.size
   · exact hc.2
 · rintro b (hc|hc)
   · exact h.fold b hc
   · exact .inl (Nat.le_trans h.below.size hc.1)
def wR (T:Tab):List TypeId→List E→Option (List V)
 | [],[]=>some []
 | t::ts,e::es=>match UY T t e,wR T ts es with
   | some v,some vs=>some (v::vs)
   | _,_=>none
 | _,_=>none
theorem QEv:∀ {ts:List TypeId} {es:List E} {xs:List Value} {vs:List V},ERelL T w F ρ es xs→wR T ts es=some vs→ArgsFit T w F ts vs xs
 | [],[],[],vs,_,h=>by cases h;trivial
 | t::ts,e::es,x::xs,vs,⟨h1,h2⟩,h=>by
   unfold wR at h
   split at h
   · rename_i v vs' hv hvs
     cases h
     exact ⟨XE h1 hv,QEv h2 hvs⟩
   · cases h
 | [],_::_,_,_,_,h=>by simp [wR] at h
 | _::_,[],_,_,_,h=>by simp [wR] at h
 | [],[],_::_,_,h,_=>h.elim
 | _::_,_::_,[],_,h,_=>h.elim
theorem CallB.ctrZ {f:FuncId} {pts rts:List TypeId} {vs rs:List V} {es:List E} {K:St→E→Prop} (hc:CtrZ P T f pts rts vs rs) (hv:wR T pts es=some vs)
 (hK:K σ (VZ (QF T rts rs))):CallB P T σ f es K:=by
 obtain ⟨hE,hc⟩:=hc
 refine ⟨hE,?_⟩
 intro w0 w F ρ tmps outs xs hR hx
 refine (hc w F xs hR.fsub (T.globB _ _ (Base.ok _) hR.below) (QEv hx hv)).mono ?_
 rintro en w' ⟨ys,rfl,hb,hres⟩
 exact ⟨_,σ,_,_,ρ,rfl,hb,hK,zX (Wr hres),hR.grow hb⟩
theorem CallB.toE {f:FuncId} {es:List E} {K:St→E→Prop} (h:CallB P T σ f es K):CallE P T σ f es K:=by
 obtain ⟨hE,h⟩:=h
 refine ⟨hE,?_⟩
 intro w0 w F ρ tmps outs xs hR hx
 refine (h w0 w F ρ tmps outs xs hR hx).mono ?_
 rintro en w' ⟨v,σ',e,F',ρ',h1,_,h2,h3,h4⟩
 exact ⟨v,σ',e,F',ρ',h1,h2,h3,h4⟩
theorem CallE.ctrZ {f:FuncId} {pts rts:List TypeId} {vs rs:List V} {es:List E} {K:St→E→Prop} (hc:CtrZ P T f pts rts vs rs) (hv:wR T pts es=some vs)
 (hK:K σ (VZ (QF T rts rs))):CallE P T σ f es K:=(CallB.ctrZ hc hv hK).toE
variable {P:Program} {T:Tab} {w w':World} {w0:Base T} {F F':Nat→Prop} {ρ ρ':Nat→RI} {σ σ':St} {a:Act} {outs:List (Array Value)} {ops:Array Oper} {keeps:Nat→Bool}
theorem AnyA.weaken {K:St→Prop} {fuel:Nat} {listed:Array Bool} (hl:St.le T σ σ') (h:AnyA P T ops keeps K fuel listed σ'):AnyA P T ops keeps K fuel listed σ:=by
 intro w0 w F ρ a outs hd hR
 obtain ⟨F',ρ',hR'⟩:=hl _ _ _ _ _ _ hR
 exact h w0 w F' ρ' a outs hd hR'
theorem St.le.ownVar (i:Nat) {t e:TypeId} (ho:σ.ob[i]?=some (.var t .nilsl)):St.le T σ { σ with ob:=σ.ob.set i (.var t (.sl σ.ob.length e 0 0 false))++[.row e []] }:=by
 intro w F ρ w0 tmps outs h
 have hi:i<σ.ob.length:=(List.getElem?_eq_some_iff.1 ho).1
 have hadd:=h.add (r:=.row e (.slice none 0 0)) (o:=.row e []) (fun b hb=>by simp [RI.block,Value.ownBlock] at hb) ⟨rfl,fun b hb=>by simp [Value.ownBlock] at hb,[],World.ownsRow_nil _ _ _ _,.nil⟩
 refine ⟨F,_,hadd.tm,hadd.out,?_,?_,hadd.inj,hadd.fsub,hadd.below,hadd.size,hadd.fold⟩
 · intro j o hj
   by_cases hji:j=i
   · subst hji
     have hj':o=.var t (.sl σ.ob.length e 0 0 false):=by
      rw [List.getElem?_append_left (by simpa using hi)] at hj
      simp [hi] at hj
      exact hj.symm
     subst hj'
     have h1:=hadd.ob j (.var t .nilsl) (by rw [List.getElem?_append_left hi];exact ho)
     cases hρ:zE ρ σ.ob.length (.row e (.slice none 0 0)) j with
     | none=>rw [hρ] at h1;exact h1.elim
     | row _ _=>rw [hρ] at h1;exact h1.elim
     | var b t' =>
       rw [hρ] at h1
       obtain ⟨⟨q1,q2,q3⟩,q4,q5,cs,ct,v,q6,q7,q8,q9⟩:=h1
       refine ⟨⟨q1,q2,fun u x hx=>by cases hx⟩,q4,q5,cs,ct,v,q6,?_,q8,q9⟩
       have hv:v=.slice none 0 0:=q7
       unfold ERel
       rw [XD]
       exact .inl ⟨rfl,hv,rfl,rfl⟩
   · refine hadd.ob j o ?_
     by_cases hjl:j<σ.ob.length
     · rw [List.getElem?_append_left (by simpa using hjl),List.getElem?_set_ne (Ne.symm hji)] at hj
       rw [List.getElem?_append_left hjl];exact hj
     · rw [List.getElem?_append_right (by simp;omega)] at hj
       rw [List.getElem?_append_right (by omega)]
       simpa using hj
 · intro j hj
   refine hadd.free j ?_
   simp at hj ⊢
   omega
variable {P:Program} {T:Tab} {w w':World} {w0:Base T} {F F':Nat→Prop} {ρ ρ':Nat→RI} {σ σ':St} {a:Act} {outs:List (Array Value)} {ops:Array Oper} {keeps:Nat→Bool}
def QGf (P:Program) (T:Tab):List SOp→(St→Prop)→St→Prop
 | [],K,σ=>K σ
 | o::rest,K,σ=>∃ τ,St.le T σ τ∧Yw o τ (opG P T o (QGf P T rest K) τ)
theorem QA9 (hP:TabOk P T) {ops:Array Oper} (hg:YW ops=true) {Q:Exit→Act→World→Prop} {K:St→Prop} (hQ:∀ a' w',VV T w0 outs K a' w'→Q .normal a' w') :
 ∀ (l:List Oper) (k:Nat),ops.toList.drop k=l→∀ {σ:St} {a:Act} {w:World} {F:Nat→Prop} {ρ:Nat→RI},Rel T w F ρ w0 σ a.tmps outs→a.defers=[]→QGf P T (l.map (QC ops)) K σ →
   wpOps P ops Q (List.range' k l.length) a w
 | [],k,_,σ,a,w,F,ρ,hR,hd,h=>hQ a w ⟨σ,F,ρ,h,hd,hR⟩
 | o::l,k,hk,σ,a,w,F,ρ,hR,hd,h=>by
   have ho:ops[k]?=some o:=by
    have:(ops.toList.drop k)[0]?=some o:=by rw [hk];rfl
    simpa using this
   have hk':ops.toList.drop (k+1)=l:=by
    have:=congrArg List.tail hk
    simpa using this
   simp only [List.length_cons,List.range'_succ,wpOps,ho]
   simp only [List.map_cons] at h
   unfold QGf at h
   obtain ⟨τ,hle,h⟩:=h
   obtain ⟨F1,ρ1,hR⟩:=hle _ _ _ _ _ _ hR
   have hgo:=List.all_eq_true.1 hg o (by rw [← List.take_append_drop k ops.toList,hk];simp)
   obtain ⟨g,h,hw⟩:=Wc hR hgo h
   have:=wc (Q:=Q) hP hR hd (N:=wpOps P ops Q (List.range' (k+1) l.length)) (fun a' w' ⟨σ',F',ρ',q1,q2,q3⟩=>QA9 hP hg hQ l (k+1) hk' q3 q2 q1) h
   rw [hw]
   cases g with
   | true=>exact .inl this
   | false=>exact this
theorem SA.regionW {id:Nat} {ops:Array Oper} (hP:TabOk P T) (hg:YW ops=true) (lv:List Nat) {K:Exit→St→Prop} (h:∀ R:St→Prop,(∀ σ',K .normal (σ'.keep lv)→R σ')→QGf P T (ops.toList.map (QC ops)) R σ):SA P T (.region id ops false) K σ:=by
 intro w0 w F ρ a outs hd hR
 refine wp_region ?_
 rw [List.range_eq_range']
 have:=h (fun σ'=>K .normal (σ'.keep lv)) (fun _ x=>x)
 refine QA9 (outs:=outs) hP hg ?_ ops.toList 0 rfl hR hd this
 rintro a' w' ⟨σ',F',ρ',hK,hd',hR'⟩
 exact ⟨_,F',ρ',hK,hd',hR'.keep lv⟩
theorem QI4 {o:SOp} {rest:List SOp} {K:St→Prop} {σ τ:St} (hl:St.le T σ τ) (h:∀ R:St→Prop,(∀ σ',QGf P T rest K σ'→R σ')→Yw o τ (opG P T o R τ)):QGf P T (o::rest) K σ:=⟨τ,hl,h _ fun _ x=>x⟩
variable {P:Program} {T:Tab} {w w':World} {w0:Base T} {F F':Nat→Prop} {ρ ρ':Nat→RI} {σ σ':St} {a:Act} {outs:List (Array Value)} {ops:Array Oper}
def QEN (L:List (List Nat)) (id:Nat):List Nat:=L.getD id []
def SARA (P:Program) (T:Tab) (ph:Bool) (id j:Nat) (l:List SOp) (K:St→Prop) (σ:St):Prop:=QKn P T l K σ
def SARQ (P:Program) (T:Tab) (ph:Bool) (id j:Nat) (l:List SOp) (K:St→Prop) (σ:St):Prop:=QI5 P T l K σ
theorem SARA.told (id j:Nat) {l:List SOp} {K:St→Prop} (h:SARA P T false id j l K σ):SARA P T true id j l K σ:=h
theorem SARQ.told (id j:Nat) {l:List SOp} {K:St→Prop} (h:SARQ P T false id j l K σ):SARQ P T true id j l K σ:=h
theorem Q5 {ph:Bool} {id j:Nat} {o:SOp} {rest:List SOp} {K:St→Prop} (h:∀ R:St→Prop,(∀ σ',SARA P T true id (j+1) rest K σ'→R σ')→Yw o σ (opG P T o R σ)):SARA P T ph id j (o::rest) K σ:=h _ fun _ x=>x
theorem yb {ph:Bool} {id j:Nat} {o:SOp} {rest:List SOp} {K:St→Prop} (h:∀ R:St→Prop,(∀ σ',SARQ P T true id (j+1) rest K σ'→R σ')→Yw o σ (opQ P T o R σ)):SARQ P T ph id j (o::rest) K σ:=h _ fun _ x=>x
theorem Q4 {ph:Bool} {id j:Nat} {K:St→Prop} (h:K σ):SARA P T ph id j [] K σ:=h
theorem ya {ph:Bool} {id j:Nat} {K:St→Prop} (h:K σ):SARQ P T ph id j [] K σ:=h
theorem Qe (id:Nat) {ops:Array Oper} {d:Bool} {K:Exit→St→Prop} (h:SA P T (.region id ops d) K σ):SA P T (.region id ops d) K σ:=h
theorem J21 {id:Nat} {ops:Array Oper} (hP:TabOk P T) (hg:YW ops=true) (L:List (List Nat)) {K:Exit→St→Prop} (h:∀ R:St→Prop,(∀ σ',K .normal (σ'.keep (QEN L id))→R σ')→SARA P T true id 0 (ops.toList.map (QC ops)) R σ):SA P T (.region id ops false) K σ:=SA.region hP hg _ h
theorem Ve {id:Nat} {ops:Array Oper} (hP:TabOk P T) (hm:P.follows .mixedOrders=true) (hB:Region.lexB .any ops=true) (hg:YW ops=true) (L:List (List Nat)) {K:Exit→St→Prop}
 (h:∀ R:St→Prop,(∀ σ',K .normal (σ'.keep (QEN L id))→R σ')→SARQ P T true id 0 (ops.toList.map (QC ops)) R σ):SA P T (.region id ops true) K σ:=SA.regionQ hP hm hB hg _ h
theorem QI (t:Nat) {b:Bool} {x y:Code} {K:Exit→St→Prop} (hb:σ.tm.lookup t=some (true,.bool b)) (ht:b=true→SA P T x K σ) (hf:b=false→SA P T y K σ):SA P T (.cond (.tmp t) x y) K σ:=SA.cond hb ht hf
theorem WC {I:Nat→St→Prop} {n:Nat} {K:Exit→St→Prop} (h:QC1 T I n K .normal σ):QC1 T I n K .normal σ:=h
theorem Ya {c:Code} {K:Exit→St→Prop} (h:SA P T (.loop c) K σ):SA P T (.loop c) K σ:=h
variable {P:Program} {T:Tab} {w w':World} {w0:Base T} {F F':Nat→Prop} {ρ ρ':Nat→RI} {σ σ' τ:St} {a:Act} {outs:List (Array Value)} {ops:Array Oper}
def SARW (P:Program) (T:Tab) (ph:Bool) (id j:Nat) (l:List SOp) (K:St→Prop) (σ:St):Prop:=QGf P T l K σ
theorem SARW.told (id j:Nat) {l:List SOp} {K:St→Prop} (h:SARW P T false id j l K σ):SARW P T true id j l K σ:=h
theorem SARW.do {ph:Bool} {id j:Nat} {o:SOp} {rest:List SOp} {K:St→Prop} (h:∀ R:St→Prop,(∀ σ',SARW P T true id (j+1) rest K σ'→R σ')→Yw o σ (opG P T o R σ)):SARW P T ph id j (o::rest) K σ:=QI4 St.le.refl h
theorem SARW.nil {ph:Bool} {id j:Nat} {K:St→Prop} (h:K σ):SARW P T ph id j [] K σ:=h
theorem J48 {ph:Bool} {id j:Nat} {o:SOp} {rest:List SOp} {K:St→Prop} (hl:St.le T σ τ) (h:SARW P T ph id j (o::rest) K τ):SARW P T ph id j (o::rest) K σ:=by
 obtain ⟨τ',l,g⟩:=h
 exact ⟨τ',hl.trans l,g⟩
theorem SA.regionWN {id:Nat} {ops:Array Oper} (hP:TabOk P T) (hg:YW ops=true) (L:List (List Nat)) {K:Exit→St→Prop} (h:∀ R:St→Prop,(∀ σ',K .normal (σ'.keep (QEN L id))→R σ')→SARW P T true id 0 (ops.toList.map (QC ops)) R σ):SA P T (.region id ops false) K σ:=SA.regionW hP hg _ h
variable {P:Program} {T:Tab} {w w':World} {w0:Base T} {F F':Nat→Prop} {ρ ρ':Nat→RI} {σ σ' τ:St} {a:Act} {outs:List (Array Value)} {ops:Array Oper} {keeps:Nat→Bool}
inductive Plan where
 | done
 | take (i:Nat) (n:Plan)
 | nil
 | br (i:Nat) (n r:Plan)
def Plan.heads:Plan→List Nat
 | .br i _ r=>i::r.heads
 | _=>[]
def Yt (ops:Array Oper) (keeps:Nat→Bool):Bool→Plan→Nat→Array Bool→Bool
 | true,.done,_,L=>(Region.ready .any ops L).isEmpty
 | true,.take i n,f+1,L=>QH5 ops keeps L i&&(Region.ready .any ops L).contains i&&Yt ops keeps true n f (L.setIfInBounds i true)
 | true,.br i n r,f+1,L=>(Region.ready .any ops L == i::r.heads)&&Yt ops keeps true n f (L.setIfInBounds i true)&&Yt ops keeps false r f L
 | false,.nil,_,_=>true
 | false,.br i n r,f,L=>Yt ops keeps true n f (L.setIfInBounds i true)&&Yt ops keeps false r f L
 | _,_,_,_=>false
def QBz (P:Program) (T:Tab) (so:List SOp) (keeps:Nat→Bool) (K:St→Prop):Plan→St→Prop
 | .done,σ=>K σ
 | .take i n,σ=>∃ o,so[i]?=some o∧∀ R:St→Prop,(∀ σ',(∃ τ,St.le T σ' τ∧QBz P T so keeps K n τ)→R σ')→Yw o σ fun g=>Vw T σ g o.op (Xc σ o.dst g R)
 | .nil,_=>True
 | .br i n r,σ=>(∃ o,so[i]?=some o∧∀ R:St→Prop,(∀ σ',(∃ τ,St.le T σ' τ∧QBz P T so keeps K n τ)→R σ')→Yw o σ (if keeps i then opB P T o R σ else opG P T o R σ))∧QBz P T so keeps K r σ
theorem WH (hP:TabOk P T) (hg:YW ops=true) (hs:Region.noSelect ops=true) {K:St→Prop}:∀ (pl:Plan) (f:Nat) (L:Array Bool) (σ:St),QBz P T (ops.toList.map (QC ops)) keeps K pl σ →
 (Yt ops keeps true pl f L=true→AnyA P T ops keeps K f L σ)∧(Yt ops keeps false pl f L=true→Branches P T ops keeps K f L σ pl.heads)
 | .done,f,L,σ,h=>by
   refine ⟨fun hk=>AnyA.done ?_ h,fun hk=>?_⟩
   · simpa [Yt] using hk
   · simp [Yt] at hk
 | .take i n,f,L,σ,⟨o,ho,h⟩=>by
   have hso:(ops[i]?).map (QC ops)=some o:=by simpa using ho
   refine ⟨fun hk=>?_,fun hk=>?_⟩
   · cases f with
     | zero=>simp [Yt] at hk
     | succ f =>
       simp only [Yt,Bool.and_eq_true] at hk
       exact AnyA.take hP i o hso hg hs hk.1.1 hk.1.2 _ rfl fun R hR=>h R fun σ' ⟨τ,hl,hp⟩=>hR σ' (AnyA.weaken hl ((WH hP hg hs n f _ τ hp).1 hk.2))
   · cases f<;>simp [Yt] at hk
 | .nil,f,L,σ,h=>by
   refine ⟨fun hk=>?_,fun _=>Branches.nil⟩
   cases f<;>simp [Yt] at hk
 | .br i n r,f,L,σ,⟨⟨o,ho,h⟩,hr⟩=>by
   have hso:(ops[i]?).map (QC ops)=some o:=by simpa using ho
   have one:∀ f,Yt ops keeps true n f (L.setIfInBounds i true)=true→Yt ops keeps false r f L=true→Branches P T ops keeps K f L σ (i::r.heads):=by
    intro f h1 h2
    cases hk:keeps i with
    | true =>
      simp only [hk,if_true] at h
      exact Branches.keep o hso hk _ rfl (fun R hR=>h R fun σ' ⟨τ,hl,hp⟩=>hR σ' (AnyA.weaken hl ((WH hP hg hs n f _ τ hp).1 h1))) ((WH hP hg hs r f L σ hr).2 h2)
    | false =>
      simp only [hk,Bool.false_eq_true,if_false] at h
      exact Branches.any o hso hk _ rfl (fun R hR=>h R fun σ' ⟨τ,hl,hp⟩=>hR σ' (AnyA.weaken hl ((WH hP hg hs n f _ τ hp).1 h1))) ((WH hP hg hs r f L σ hr).2 h2)
   refine ⟨fun hk=>?_,fun hk=>?_⟩
   · cases f with
     | zero=>simp [Yt] at hk
     | succ f =>
       simp only [Yt,Bool.and_eq_true,beq_iff_eq] at hk
       exact AnyA.all hP hg hk.1.1 rfl (one f hk.1.2 hk.2)
   · simp only [Yt,Bool.and_eq_true] at hk
     exact one f hk.1 hk.2
def SART (P:Program) (T:Tab) (ph:Bool) (id last:Nat) (so:List SOp) (wr:List Nat) (K:St→Prop) (pl:Plan) (σ:St):Prop:=∃ τ,St.le T σ τ∧QBz P T so (but wr) K pl τ
def QNl (P:Program) (T:Tab) (id:Nat) (so:List SOp) (wr:List Nat) (K:St→Prop) (i:Nat) (n:Plan) (σ:St):Prop :=
 ∃ o,so[i]?=some o∧∀ R:St→Prop,(∀ σ',(∃ τ,St.le T σ' τ∧QBz P T so (but wr) K n τ)→R σ')→Yw o σ (if but wr i then opB P T o R σ else opG P T o R σ)
variable {ph:Bool} {id last:Nat} {so:List SOp} {wr:List Nat} {K:St→Prop} {o:SOp} {i:Nat} {n r pl:Plan}
theorem SART.told (id last:Nat) (h:SART P T false id last so wr K pl σ):SART P T true id last so wr K pl σ:=h
theorem qz (h:∀ R:St→Prop,(∀ σ',SART P T true id i so wr K n σ'→R σ')→Yw o σ fun g=>Vw T σ g o.op (Xc σ o.dst g R)) (ho:so[i]?=some o:=by with_unfolding_all rfl):SART P T ph id last so wr K (.take i n) σ:=⟨σ,.refl,o,ho,h⟩
theorem qw (h:K σ):SART P T ph id last so wr K .done σ:=⟨σ,.refl,h⟩
theorem SART.doneAt (id:Nat) (h:K σ):SART P T ph id last so wr K .done σ:=⟨σ,.refl,h⟩
def QNk (P:Program) (T:Tab) (id:Nat) (so:List SOp) (wr:List Nat) (K:St→Prop) (pl:Plan) (σ:St):Prop:=QBz P T so (but wr) K pl σ
theorem qv (h1:QNl P T id so wr K i n σ) (h2:QNk P T id so wr K r σ):SART P T ph id last so wr K (.br i n r) σ:=⟨σ,.refl,h1,h2⟩
theorem qt (h1:QNl P T id so wr K i n σ) (h2:QNk P T id so wr K r σ):QNk P T id so wr K (.br i n r) σ:=⟨h1,h2⟩
theorem qu:QNk P T id so wr K .nil σ:=trivial
theorem qy (h:∀ R:St→Prop,(∀ σ',SART P T true id i so wr K n σ'→R σ')→Yw o σ (opB P T o R σ)) (ho:so[i]?=some o:=by with_unfolding_all rfl) (hk:but wr i=true:=by with_unfolding_all rfl):QNl P T id so wr K i n σ :=
 ⟨o,ho,by simp only [hk,if_true];exact h⟩
theorem qx (h:∀ R:St→Prop,(∀ σ',SART P T true id i so wr K n σ'→R σ')→Yw o σ (opG P T o R σ)) (ho:so[i]?=some o:=by with_unfolding_all rfl) (hk:but wr i=false:=by with_unfolding_all rfl):QNl P T id so wr K i n σ :=
 ⟨o,ho,by simp only [hk,Bool.false_eq_true,if_false];exact h⟩
theorem WT {ops:Array Oper} (hP:TabOk P T) (hm:P.follows .mixedOrders=true) (pl:Plan) (wr:List Nat) (L:List (List Nat)) (hg:(YW ops&&Region.noSelect ops&&Yt ops (but wr) true pl ops.size (Array.replicate ops.size false))=true) {K:Exit→St→Prop}
 (h:∀ R:St→Prop,(∀ σ',K .normal (σ'.keep (QEN L id))→R σ')→SART P T true id ops.size (ops.toList.map (QC ops)) wr R pl σ):SA P T (.region id ops true) K σ:=by
 simp only [Bool.and_eq_true] at hg
 refine SA.regionAny hm ops.size rfl _ rfl wr (QEN L id) fun R hR=>?_
 obtain ⟨τ,hl,hp⟩:=h R hR
 exact AnyA.weaken hl ((WH hP hg.1.1 hg.1.2 pl _ _ τ hp).1 hg.2)
theorem J35 {ops:Array Oper} (hP:TabOk P T) (hm:P.follows .mixedOrders=true) (pl:Plan) (wr:List Nat) (L:List (List Nat)) (hg:(YW ops&&Region.noSelect ops&&Yt ops (but wr) true pl ops.size (Array.replicate ops.size false))=true) {K:Exit→St→Prop} (τ:St)
 (h:∀ R:St→Prop,(∀ σ',St.le T (σ'.keep (QEN L id)) τ→R σ')→SART P T true id ops.size (ops.toList.map (QC ops)) wr R pl σ) (hK:K .normal τ):SA P T (.region id ops true) K σ:=by
 simp only [Bool.and_eq_true] at hg
 refine SA.regionAnyPost hm ops.size rfl _ rfl wr (QEN L id) τ (fun R hR=>?_) hK
 obtain ⟨τ',hl,hp⟩:=h R hR
 exact AnyA.weaken hl ((WH hP hg.1.1 hg.1.2 pl _ _ τ' hp).1 hg.2)
variable {H:Type} {enc:TypeId × Value→H} {P:Program} {T:Tab} {w:World} {base:Nat} {spare:Nat→Bool} {held:Bool}
mutual
def Xx (T:Tab):Nat→TypeId→Bool
 | 0,_=>false
 | d+1,t=>match T.ty t with
   | .int _=>true
   | .bool=>true
   | .str=>true
   | .struct ts=>yU T d ts
   | .arr _ e=>Xx T d e
   | .slice e=>Xx T d e
   | _=>false
def yU (T:Tab):Nat→List TypeId→Bool
 | 0,_=>false
 | _+1,[]=>true
 | d+1,t::ts=>Xx T d t&&yU T d ts
end
theorem zp:∀ {d:Nat} {ts:List TypeId} {k:Nat} {t:TypeId},yU T d ts=true→ts[k]?=some t→∃ d',d'<d∧Xx T d' t=true
 | 0,_,_,_,h,_=>by simp [yU] at h
 | d+1,[],k,t,_,hk=>by simp at hk
 | d+1,u::ts,0,t,h,hk=>by
   simp at hk;subst hk
   simp [yU] at h
   exact ⟨d,by omega,h.1⟩
 | d+1,u::ts,k+1,t,h,hk=>by
   simp [yU] at h
   obtain ⟨d',h1,h2⟩:=zp h.2 (by simpa using hk)
   exact ⟨d',by omega,h2⟩
theorem yl {d:Nat} {t:TypeId} (h:Xx T d t=true):T.ty t≠.other:=by
 intro h0
 cases d with
 | zero=>simp [Xx] at h
 | succ d=>simp [Xx,h0] at h
inductive V.Lens:V→Prop
 | int (n:Int):Lens (.int n)
 | bool (b:Bool):Lens (.bool b)
 | str (s:ByteArray):Lens (.str s)
 | agg (l:List V):(∀ v∈l,Lens v)→Lens (.agg l)
 | list (l:List V):l.length≤maxLen→(∀ v∈l,Lens v)→Lens (.list l)
theorem V.Lens.of_agg {l:List V} (h:V.Lens (.agg l)):∀ v∈l,V.Lens v:=by cases h;assumption
theorem V.Lens.of_list {l:List V} (h:V.Lens (.list l)):l.length≤maxLen∧∀ v∈l,V.Lens v:=by cases h;exact ⟨by assumption,by assumption⟩
theorem zx {p:V→Prop} {l:List V} (h:∀ i,i<l.length→p (l.getD i default)):∀ v∈l,p v:=by
 intro v hv
 obtain ⟨i,hi,rfl⟩:=List.mem_iff_getElem.1 hv
 simpa [List.getD_eq_getElem?_getD,hi] using h i hi
theorem QMo {F:Nat→Prop} {e:TypeId} {b off len:Nat} (hse:True) (hex:∀ i,i<len→∃ c:List Value,c.length=T.sz e∧(∀ j,j<T.sz e→w.cell? ⟨b,off+(i*T.sz e+j),none⟩=c[j]?)∧∃ v,Fits T w F e v c∧V.Lens v) :
 ∃ (vl:List V) (cs:List Value),vl.length=len∧(∀ v∈vl,V.Lens v)∧Seg w b off cs∧FitsL T w F (List.replicate len e) vl cs:=by
 obtain ⟨cl,hcl,hcl'⟩:=VB (α:=List Value) hex
 obtain ⟨vl,hvl,hvl'⟩:=VB (α:=V) (p:=fun i v=>Fits T w F e v (cl.getD i default)∧V.Lens v) fun i hi=>(hcl' i hi).2.2
 have key:∀ (vl:List V) (cl:List (List Value)) (off:Nat),vl.length=cl.length→(∀ i,i<cl.length→(cl.getD i default).length=T.sz e∧(∀ j,j<T.sz e→w.cell? ⟨b,off+(i*T.sz e+j),none⟩=(cl.getD i default)[j]?)) →
  (∀ i,i<cl.length→Fits T w F e (vl.getD i default) (cl.getD i default))→Seg w b off cl.flatten∧FitsL T w F (List.replicate cl.length e) vl cl.flatten:=by
  intro vl cl
  induction cl generalizing vl with
  | nil =>
    intro off hl _ _
    have:vl=[]:=by simpa using hl
    subst this
    exact ⟨fun j x hj=>by simp at hj,.nil⟩
  | cons c cl ihc =>
    intro off hl h1 h2
    cases vl with
    | nil=>simp at hl
    | cons v vl =>
      have c0:=h1 0 (by simp)
      simp only [List.getD_cons_zero,Nat.zero_mul,Nat.zero_add] at c0
      have:=ihc vl (off+T.sz e) (by simpa using hl) (fun i hi=>by
       have:=h1 (i+1) (by simpa using hi)
       simp only [List.getD_cons_succ] at this
       refine ⟨this.1,fun j hj=>?_⟩
       rw [← this.2 j hj,Nat.add_mul,Nat.one_mul]
       congr 2
       omega) (fun i hi=>by
       have:=h2 (i+1) (by simpa using hi)
       simpa only [List.getD_cons_succ] using this)
      refine ⟨?_,?_⟩
      · intro j x hj
        rw [List.flatten_cons] at hj
        by_cases hjs:j<T.sz e
        · rw [List.getElem?_append_left (by omega)] at hj
          rw [c0.2 j hjs];exact hj
        · rw [List.getElem?_append_right (by omega),c0.1] at hj
          have:=this.1 _ _ hj
          rw [← this]
          congr 2
          omega
      · rw [List.length_cons,List.replicate_succ,List.flatten_cons]
        have h0:=h2 0 (by simp)
        simp only [List.getD_cons_zero] at h0
        exact .cons h0 this.2
 obtain ⟨k1,k2⟩:=key vl cl off (by omega) (fun i hi=>⟨(hcl' i (by omega)).1,(hcl' i (by omega)).2.1⟩) (fun i hi=>(hvl' i (by omega)).1)
 rw [hcl] at k2
 exact ⟨vl,_,hvl,zx fun i hi=>(hvl' i (by omega)).2,k1,k2⟩
theorem QJk (hP:TabOk P T):∀ (d:Nat) {t:TypeId} {cs:List Value} {fuel:Nat} {x:DataW H × List MemPlace},Xx T d t=true→DataW.trod enc P w base spare held fuel t cs=some x→∃ v,Fits T w (fun b=>b<w.heap.size) t v cs∧V.Lens v:=by
 intro d
 induction d using Nat.strongRecOn with
 | _ d ih =>
   intro t cs fuel x hf h
   cases d with
   | zero=>simp [Xx] at hf
   | succ d =>
     have hno:=yl hf
     have hc:=YY hP hno
     unfold Xx at hf
     split at hf
     · rename_i k hk
       obtain ⟨n,rfl,_,hw⟩:=DataW.trod_int (hP.int _ _ hk) h
       exact ⟨_,.int hk (by simpa [Lit.wf,IntKind.has] using hw),.int _⟩
     · rename_i hk
       obtain ⟨b,rfl,_⟩:=DataW.trod_bool (hP.bool _ hk) h
       exact ⟨_,.bool hk,.bool _⟩
     · rename_i hk
       obtain ⟨s,rfl,_⟩:=DataW.trod_string (hP.str _ hk) h
       exact ⟨_,.str hk,.str _⟩
     · rename_i ts hk
       obtain ⟨fs,f1,f2,_,f3⟩:=hP.struct _ _ hk
       obtain ⟨xs,n,rfl,_,hl,hxl,hx⟩:=DataW.trod_struct f1 h
       have hfl:fs.size=ts.length:=by rw [← f2];simp
       have hex:∀ i,i<ts.length→∃ v,(∀ u,ts[i]?=some u→Fits T w (fun b=>b<w.heap.size) u v ((cs.drop (T.offs ts i)).take (T.sz u)))∧V.Lens v:=by
        intro i hi
        obtain ⟨f,hfi⟩:∃ f,fs[i]?=some f:=⟨_,Array.getElem?_eq_getElem (by omega)⟩
        have hti:ts[i]?=some f.type:=by
         have:(fs.toList.map (·.type))[i]?=some f.type:=by simp [hfi]
         rwa [f2] at this
        obtain ⟨g1,g2,_,g4⟩:=f3 i _ hfi
        have hxi:=hx i _ hfi
        rw [List.getElem?_eq_getElem (by omega),g1,YY hP g4] at hxi
        obtain ⟨d',hd',hf'⟩:=zp hf hti
        obtain ⟨v,hv⟩:=ih d' (by omega) hf' hxi
        exact ⟨v,fun u hu=>by rw [hti] at hu;cases hu;exact hv.1,hv.2⟩
       obtain ⟨l,hll,hl'⟩:=VB hex
       refine ⟨.agg l,.struct hk (FitsL.ofNth hll ?_ fun k u hu=>(hl' k (List.getElem?_eq_some_iff.1 hu).1).1 u hu),.agg _ (zx fun i hi=>(hl' i (by omega)).2)⟩
       rw [hl,hc,hP.sized.struct _ _ hk]
     · rename_i n e hk
       obtain ⟨g1,_,_,g4⟩:=hP.arr _ _ _ hk
       obtain ⟨xs,m,rfl,_,hl,hxl,hx⟩:=DataW.trod_array g1 h
       have hex:∀ i,i<n→∃ v,Fits T w (fun b=>b<w.heap.size) e v ((cs.drop (i*T.sz e)).take (T.sz e))∧V.Lens v:=by
        intro i hi
        have hxi:=hx i hi
        rw [List.getElem?_eq_getElem (by omega),YY hP g4] at hxi
        exact ih d (by omega) hf hxi
       obtain ⟨l,hll,hl'⟩:=VB hex
       refine ⟨.agg l,.arr hk (FitsL.ofNth (by simp [hll]) ?_ fun k u hu=>?_),.agg _ (zx fun i hi=>(hl' i (by omega)).2)⟩
       · rw [hl,hc,hP.sized.arr _ _ _ hk]
       · rw [List.getElem?_replicate] at hu
         split at hu;rotate_left;· cases hu
         rename_i hkn
         cases hu
         rw [Qv T n k _ (by omega)]
         exact (hl' k hkn).1
     · rename_i e hk
       obtain ⟨hu,hno'⟩:=hP.slice _ _ hk
       have hse:=(hP.sized.slice _ _ hk).2
       have hce:=YY hP hno'
       rcases Go.Deep.open_slice hu h with ⟨rfl,_⟩|⟨ad,len,cap,m,n,D,Pl,rfl,_,hl,hm,hmm,_,hx⟩
       · exact ⟨.list [],.nil hk,.list _ (by simp) (by simp)⟩
       · by_cases h0:len=0
         · subst h0;exact ⟨.list [],.empty hk,.list _ (by simp) (by simp)⟩
         · have hlm:len≤m:=by rw [hmm];split<;>omega
           have hpos:0<T.sz e:=by first|exact hse|omega
           have hok:ad.spot=none∧ad.block<w.heap.size:=by
            obtain ⟨cs',h1,_⟩:=hx 0 (by omega)
            rw [hce] at h1
            obtain ⟨_,q2,q3⟩:=World.cells?_some h1
            have q:=q3 0 hpos
            have hadd:∀ a:Addr,a.add 0=a:=fun a=>by simp [Addr.add]
            rw [Nat.zero_mul,hadd,hadd,List.getElem?_eq_getElem (by omega)] at q
            refine ⟨QDt q,?_⟩
            unfold World.cell? at q
            split at q
            · rename_i hb
              exact (Array.getElem?_eq_some_iff.1 hb).1
            · cases q
           obtain ⟨b,off,sp⟩:=ad
           obtain ⟨hsp,hb⟩:=hok
           simp only at hb hsp
           subst hsp
           have hex:∀ i,i<len→∃ c:List Value,c.length=T.sz e∧(∀ j,j<T.sz e→w.cell? ⟨b,off+(i*T.sz e+j),none⟩=c[j]?)∧∃ v,Fits T w (fun b=>b<w.heap.size) e v c∧V.Lens v:=by
            intro i hi
            obtain ⟨cs',h1,h2⟩:=hx i (by omega)
            rw [hce] at h1
            obtain ⟨_,q2,q3⟩:=World.cells?_some h1
            obtain ⟨v,hv⟩:=ih d (by omega) hf h2
            refine ⟨cs',q2,fun j hj=>?_,v,hv⟩
            rw [← q3 j hj,Zn,Zn,Nat.add_assoc]
           obtain ⟨vl,cs,hvl,hlens,k1,k2⟩:=QMo trivial hex
           exact ⟨.list vl,.slice hk hb k1 hvl k2 hl,.list _ (by omega) hlens⟩
     · simp at hf
theorem zo (hP:TabOk P T) {t:TypeId} {r:Reach} {b0:Nat} {v:Value} {d:DataW H} {p:List MemPlace} (hf:Xx T 60 t=true) (hval:Value.okWide P w r b0 t v)
 (h:DataW.Trod enc P w 0 spare held t v d p):∃ x,Fits T w (fun b=>b<w.heap.size) t x v.cells.toList∧Qz T t v v.cells.toList∧V.Lens x:=by
 obtain ⟨fuel,h⟩:=h
 obtain ⟨x,hx,hlx⟩:=QJk hP 60 hf h
 refine ⟨x,hx,?_,hlx⟩
 unfold Qz
 have hf':=hf
 unfold Xx at hf'
 unfold Value.okWide at hval
 split at hf'
 · rename_i k hk
   rw [hP.int _ _ hk] at hval
   obtain ⟨n,hv,_,_⟩:=DataW.trod_int (hP.int _ _ hk) h
   simp only [Cell.okWide,hP.int _ _ hk] at hval
   cases v<;>simp_all [Cell.ok,Value.cells,TyD.isAgg]
 · rename_i hk
   simp only [Cell.okWide,hP.bool _ hk] at hval
   cases v<;>simp_all [Cell.ok,hP.bool _ hk,Value.cells,TyD.isAgg]
 · rename_i hk
   simp only [Cell.okWide,hP.str _ hk] at hval
   cases v<;>simp_all [Cell.ok,hP.str _ hk,Value.cells,TyD.isAgg]
 · rename_i ts hk
   obtain ⟨fs,f1,_⟩:=hP.struct _ _ hk
   rw [f1] at hval
   obtain ⟨cs,rfl,_⟩:=hval
   simp [hk,TyD.isAgg,Value.cells]
 · rename_i n e hk
   obtain ⟨f1,_⟩:=hP.arr _ _ _ hk
   rw [f1] at hval
   obtain ⟨cs,rfl,_⟩:=hval
   simp [hk,TyD.isAgg,Value.cells]
 · rename_i e hk
   obtain ⟨hu,_⟩:=hP.slice _ _ hk
   obtain ⟨a,len,cap,rfl⟩:=Go.WideShapes.okWide_slice hu (by unfold Value.okWide;exact hval)
   simp [hk,TyD.isAgg,Value.cells]
 · simp at hf'
variable {P:Program} {T:Tab} {w w':World} {w0:Base T} {F F':Nat→Prop} {ρ ρ':Nat→RI} {σ σ':St} {a:Act} {outs:List (Array Value)}
theorem QBM:∀ {ts:List TypeId} {l:List E} {xs cs:List Value} {vs:List V},ERelL T w F ρ l xs→Joins T ts xs cs→wR T ts l=some vs→FitsL T w F ts vs cs
 | [],[],[],cs,vs,_,hj,h=>by cases h;rw [show cs=[] from hj];exact .nil
 | t::ts,e::es,x::xs,cs,vs,⟨h1,h2⟩,hj,h=>by
   obtain ⟨r,rfl,j1,j2,j3⟩:=hj
   unfold wR at h
   split at h
   · rename_i v vs' hv hvs
     cases h
     exact .cons (XE h1 hv).1 (QBM h2 j3 hvs)
   · cases h
 | [],_::_,_,_,_,_,_,h=>by simp [wR] at h
 | _::_,[],_,_,_,_,_,h=>by simp [wR] at h
 | [],[],_::_,_,_,h,_,_=>h.elim
 | _::_,_::_,[],_,_,h,_,_=>h.elim
theorem St.le.ofAgg (i:Nat) {t:TypeId} {ts:List TypeId} {l:List E} {vs:List V} (hts:T.ty t=.struct ts) (ho:σ.ob[i]?=some (.var t (.agg t l))) (hv:wR T ts l=some vs) :
 St.le T σ { σ with ob:=σ.ob.set i (.var t (.data t (.agg vs))) }:=by
 intro w F ρ w0 tmps outs h
 have hi:i<σ.ob.length:=(List.getElem?_eq_some_iff.1 ho).1
 refine ⟨F,ρ,h.tm,h.out,?_,?_,h.inj,h.fsub,h.below,h.size,h.fold⟩
 · intro j o hj
   by_cases hji:j=i
   · subst hji
     simp [hi] at hj
     subst hj
     have h1:=h.ob j _ ho
     cases hρ:ρ j with
     | none=>rw [hρ] at h1;exact h1.elim
     | row _ _=>rw [hρ] at h1;exact h1.elim
     | var b t' =>
       rw [hρ] at h1
       obtain ⟨⟨q1,q2,q3⟩,q4,q5,cs,ct,v,q6,q7,q8,q9⟩:=h1
       refine ⟨⟨q1,q2,fun u x hx=>by cases hx;rfl⟩,q4,q5,cs,ct,v,q6,?_,q8,q9⟩
       obtain ⟨ts',xs,cs',e1,rfl,e2,e3⟩:=q7
       rw [hts] at e1
       cases e1
       exact ⟨cs',rfl,by rw [hts];rfl,.struct hts (QBM e2 e3 hv)⟩
   · simp only [List.getElem?_set_ne (Ne.symm hji)] at hj
     exact h.ob j o hj
 · intro j hj
   simp at hj
   exact h.free j (by simp;omega)
theorem St.le.ownPart (i k:Nat) {t e:TypeId} {l:List E} (ho:σ.ob[i]?=some (.var t (.agg t l))) (hk:l[k]?=some .nilsl):St.le T σ { σ with ob:=σ.ob.set i (.var t (.agg t (l.set k (.sl σ.ob.length e 0 0 false))))++[.row e []] }:=by
 intro w F ρ w0 tmps outs h
 have hi:i<σ.ob.length:=(List.getElem?_eq_some_iff.1 ho).1
 have hadd:=h.add (r:=.row e (.slice none 0 0)) (o:=.row e []) (fun b hb=>by simp [RI.block,Value.ownBlock] at hb) ⟨rfl,fun b hb=>by simp [Value.ownBlock] at hb,[],World.ownsRow_nil _ _ _ _,.nil⟩
 refine ⟨F,_,hadd.tm,hadd.out,?_,?_,hadd.inj,hadd.fsub,hadd.below,hadd.size,hadd.fold⟩
 · intro j o hj
   by_cases hji:j=i
   · subst hji
     have hj':o=.var t (.agg t (l.set k (.sl σ.ob.length e 0 0 false))):=by
      rw [List.getElem?_append_left (by simpa using hi)] at hj
      simp [hi] at hj
      exact hj.symm
     subst hj'
     have h1:=hadd.ob j _ (by rw [List.getElem?_append_left hi];exact ho)
     cases hρ:zE ρ σ.ob.length (.row e (.slice none 0 0)) j with
     | none=>rw [hρ] at h1;exact h1.elim
     | row _ _=>rw [hρ] at h1;exact h1.elim
     | var b t' =>
       rw [hρ] at h1
       obtain ⟨⟨q1,q2,q3⟩,q4,q5,cs,ct,v,q6,q7,q8,q9⟩:=h1
       refine ⟨⟨q1,q2,fun u x hx=>by cases hx⟩,q4,q5,cs,ct,v,q6,?_,q8,q9⟩
       obtain ⟨ts,xs,cs',e1,e4,e2,e3⟩:=q7
       have hkl:k<l.length:=(List.getElem?_eq_some_iff.1 hk).1
       obtain ⟨z,z1,z2⟩:=e2.at hkl
       rw [List.getD_eq_getElem?_getD,hk] at z2
       have z2:z=.slice none 0 0:=z2
       subst z2
       refine ⟨ts,xs,cs',e1,e4,e2.set_same z1 ?_,e3⟩
       unfold ERel
       rw [XD]
       exact .inl ⟨rfl,rfl,rfl,rfl⟩
   · refine hadd.ob j o ?_
     by_cases hjl:j<σ.ob.length
     · rw [List.getElem?_append_left (by simpa using hjl),List.getElem?_set_ne (Ne.symm hji)] at hj
       rw [List.getElem?_append_left hjl];exact hj
     · rw [List.getElem?_append_right (by simp;omega)] at hj
       rw [List.getElem?_append_right (by omega)]
       simpa using hj
 · intro j hj
   refine hadd.free j ?_
   simp at hj ⊢
   omega
structure Access where
 kind:Int
 num:Int
 write:Bool
 deriving DecidableEq,Inhabited
structure Event where
 go:Int
 func:Int
 pc:Int
 op:Int
 alt:Int
 val:Int
 tag:Int
 touch:List Access
 touches:Int
 deriving DecidableEq,Inhabited
def Access.v (a:Access):V:=.agg [.int a.kind,.int a.num,.bool a.write]
def Event.v (e:Event):V:=.agg [.int e.go,.int e.func,.int e.pc,.int e.op,.int e.alt,.int e.val,.int e.tag,.agg (e.touch.map Access.v),.int e.touches]
theorem Qg {α:Type} [Inhabited α] (f:α→V) (l:List α) {i:Nat} (h:i<l.length) (d:V):(l.map f).getD i d=f (l.getD i default):=by
 simp [List.getD_eq_getElem?_getD,h]
theorem Qj {α:Type} [Inhabited α] (l:List α) {i:Nat} (h:i<l.length):l.getD i default∈l:=by
 simp [List.getD_eq_getElem?_getD,h]
def Event.of (e:Event):List Access:=e.touch.take (max 0 (min 6 e.touches)).toNat
theorem Event.v0 (e:Event):e.v.toList.getD 0 default=.int e.go:=rfl
theorem Event.v7 (e:Event):e.v.toList.getD 7 default=.agg (e.touch.map Access.v):=rfl
theorem Event.v8 (e:Event):e.v.toList.getD 8 default=.int e.touches:=rfl
theorem Access.v0 (a:Access):a.v.toList.getD 0 default=.int a.kind:=rfl
theorem Access.v1 (a:Access):a.v.toList.getD 1 default=.int a.num:=rfl
theorem Access.v2 (a:Access):a.v.toList.getD 2 default=.bool a.write:=rfl
theorem XA (a:Access) (k n:Int) (w:Bool):V.beq a.v (.agg [.int k,.int n,.bool w])=decide (a=⟨k,n,w⟩):=by
 obtain ⟨k',n',w'⟩:=a
 by_cases h1:k'=k<;>by_cases h2:n'=n<;>cases w<;>cases w'<;>simp [Access.v,V.beq,V.beqL,h1,h2]
def vk (k:Int):Int:=if k=1 then 8 else if k=2 then 4 else if k=3 then 4 else if k=4 then 1 else if k=6 then 1 else if k=5 then 6 else 0
def cmp (a b:Access):Int:=if a.kind≠b.kind∧a.kind<b.kind∨a.kind=b.kind∧a.num<b.num then -1 else if a.kind=b.kind∧a.num=b.num then 0 else 1
def Wz (e:Event) (i:Nat):Bool :=
 if e.touches≤i then decide (e.touch.getD i default=⟨0,0,false⟩)
 else decide (0≤(e.touch.getD i default).num)&&decide ((e.touch.getD i default).num<vk (e.touch.getD i default).kind)&&(decide (i=0)||decide (cmp (e.touch.getD (i-1) default) (e.touch.getD i default)<0))
def xm (e:Event) (i:Nat):Bool:=decide ((i:Int)<e.touches)&&decide (e.touch.getD i default=⟨5,e.go,true⟩)
def right (e:Event):Bool:=decide (0≤e.go)&&decide (e.go<6)&&decide (1≤e.touches)&&decide (e.touches≤6)&&((List.range 6).all (Wz e)&&(List.range 6).any (xm e))
theorem Y2 (f:Nat→Bool) (n:Nat):(List.range (n+1)).all f=((List.range n).all f&&f n):=by simp [List.range_succ]
theorem V6 (f:Nat→Bool) (n:Nat):(List.range (n+1)).any f=((List.range n).any f||f n):=by simp [List.range_succ]
theorem Zg {f:Nat→Bool} {n i:Nat} (hi:i<n) (h:f i=false):(List.range n).all f=false:=by
 rw [List.all_eq_false]
 exact ⟨i,List.mem_range.2 hi,by simp [h]⟩
theorem U4 (l:List Obj) (o:Obj):(l++[o])[l.length]?=some o:=by simp
structure Instr where
 op:Int
 a:Int
 b:Int
 c:Int
 n:Int
 deriving DecidableEq,Inhabited
structure Cas where
 send:Bool
 chan:Int
 reg:Int
 to_:Int
 deriving DecidableEq,Inhabited
structure Sel where
 cases:List Cas
 els:Int
 deriving DecidableEq,Inhabited
structure Fnc where
 params:Int
 regs:Int
 code:List Instr
 sels:List Sel
 deriving DecidableEq,Inhabited
structure Vr where
 atomic:Bool
 init:Int
 deriving DecidableEq,Inhabited
structure Prg where
 vars:List Vr
 locks:Int
 chans:List Int
 funcs:List Fnc
 deriving DecidableEq,Inhabited
structure Gor where
 status:Int
 func:Int
 pc:Int
 why:Int
 regs:List Int
 deriving DecidableEq,Inhabited
structure Chn where
 buf:List Int
 len:Int
 closed:Bool
 offer:Int
 from_:Int
 val:Int
 deriving DecidableEq,Inhabited
structure Stt where
 vars:List Int
 owner:List Int
 chans:List Chn
 gos:List Gor
 count:Int
 deriving DecidableEq,Inhabited
structure Pck where
 go:Int
 alt:Int
 deriving DecidableEq,Inhabited
structure Bud where
 steps:Int
 fuel:Int
 runs:Int
 deriving DecidableEq,Inhabited
def Instr.v (x:Instr):V:=.agg [.int x.op,.int x.a,.int x.b,.int x.c,.int x.n]
def Cas.v (x:Cas):V:=.agg [.bool x.send,.int x.chan,.int x.reg,.int x.to_]
def Sel.v (x:Sel):V:=.agg [.list (x.cases.map Cas.v),.int x.els]
def Fnc.v (x:Fnc):V:=.agg [.int x.params,.int x.regs,.list (x.code.map Instr.v),.list (x.sels.map Sel.v)]
def Vr.v (x:Vr):V:=.agg [.bool x.atomic,.int x.init]
def Prg.v (x:Prg):V:=.agg [.list (x.vars.map Vr.v),.int x.locks,.list (x.chans.map V.int),.list (x.funcs.map Fnc.v)]
def Gor.v (x:Gor):V:=.agg [.int x.status,.int x.func,.int x.pc,.int x.why,.agg (x.regs.map V.int)]
def Chn.v (x:Chn):V:=.agg [.agg (x.buf.map V.int),.int x.len,.bool x.closed,.int x.offer,.int x.from_,.int x.val]
def Stt.v (x:Stt):V:=.agg [.agg (x.vars.map V.int),.agg (x.owner.map V.int),.agg (x.chans.map Chn.v),.agg (x.gos.map Gor.v),.int x.count]
def Pck.v (x:Pck):V:=.agg [.int x.go,.int x.alt]
def Bud.v (x:Bud):V:=.agg [.int x.steps,.int x.fuel,.int x.runs]
section
variable (d:V)
theorem Instr.v0 (x:Instr):x.v.toList.getD 0 d=.int x.op:=rfl
theorem Instr.v1 (x:Instr):x.v.toList.getD 1 d=.int x.a:=rfl
theorem Instr.v2 (x:Instr):x.v.toList.getD 2 d=.int x.b:=rfl
theorem Instr.v3 (x:Instr):x.v.toList.getD 3 d=.int x.c:=rfl
theorem Instr.v4 (x:Instr):x.v.toList.getD 4 d=.int x.n:=rfl
theorem Cas.v0 (x:Cas):x.v.toList.getD 0 d=.bool x.send:=rfl
theorem Cas.v1 (x:Cas):x.v.toList.getD 1 d=.int x.chan:=rfl
theorem Cas.v2 (x:Cas):x.v.toList.getD 2 d=.int x.reg:=rfl
theorem Cas.v3 (x:Cas):x.v.toList.getD 3 d=.int x.to_:=rfl
theorem Sel.v0 (x:Sel):x.v.toList.getD 0 d=.list (x.cases.map Cas.v):=rfl
theorem Sel.v1 (x:Sel):x.v.toList.getD 1 d=.int x.els:=rfl
theorem Fnc.v0 (x:Fnc):x.v.toList.getD 0 d=.int x.params:=rfl
theorem Fnc.v1 (x:Fnc):x.v.toList.getD 1 d=.int x.regs:=rfl
theorem Fnc.v2 (x:Fnc):x.v.toList.getD 2 d=.list (x.code.map Instr.v):=rfl
theorem Fnc.v3 (x:Fnc):x.v.toList.getD 3 d=.list (x.sels.map Sel.v):=rfl
theorem Vr.v0 (x:Vr):x.v.toList.getD 0 d=.bool x.atomic:=rfl
theorem Vr.v1 (x:Vr):x.v.toList.getD 1 d=.int x.init:=rfl
theorem Prg.v0 (x:Prg):x.v.toList.getD 0 d=.list (x.vars.map Vr.v):=rfl
theorem Prg.v1 (x:Prg):x.v.toList.getD 1 d=.int x.locks:=rfl
theorem Prg.v2 (x:Prg):x.v.toList.getD 2 d=.list (x.chans.map V.int):=rfl
theorem Prg.v3 (x:Prg):x.v.toList.getD 3 d=.list (x.funcs.map Fnc.v):=rfl
theorem Gor.v0 (x:Gor):x.v.toList.getD 0 d=.int x.status:=rfl
theorem Gor.v1 (x:Gor):x.v.toList.getD 1 d=.int x.func:=rfl
theorem Gor.v2 (x:Gor):x.v.toList.getD 2 d=.int x.pc:=rfl
theorem Gor.v3 (x:Gor):x.v.toList.getD 3 d=.int x.why:=rfl
theorem Gor.v4 (x:Gor):x.v.toList.getD 4 d=.agg (x.regs.map V.int):=rfl
theorem Chn.v0 (x:Chn):x.v.toList.getD 0 d=.agg (x.buf.map V.int):=rfl
theorem Chn.v1 (x:Chn):x.v.toList.getD 1 d=.int x.len:=rfl
theorem Chn.v2 (x:Chn):x.v.toList.getD 2 d=.bool x.closed:=rfl
theorem Chn.v3 (x:Chn):x.v.toList.getD 3 d=.int x.offer:=rfl
theorem Chn.v4 (x:Chn):x.v.toList.getD 4 d=.int x.from_:=rfl
theorem Chn.v5 (x:Chn):x.v.toList.getD 5 d=.int x.val:=rfl
theorem Stt.v0 (x:Stt):x.v.toList.getD 0 d=.agg (x.vars.map V.int):=rfl
theorem Stt.v1 (x:Stt):x.v.toList.getD 1 d=.agg (x.owner.map V.int):=rfl
theorem Stt.v2 (x:Stt):x.v.toList.getD 2 d=.agg (x.chans.map Chn.v):=rfl
theorem Stt.v3 (x:Stt):x.v.toList.getD 3 d=.agg (x.gos.map Gor.v):=rfl
theorem Stt.v4 (x:Stt):x.v.toList.getD 4 d=.int x.count:=rfl
theorem Pck.v0 (x:Pck):x.v.toList.getD 0 d=.int x.go:=rfl
theorem Pck.v1 (x:Pck):x.v.toList.getD 1 d=.int x.alt:=rfl
theorem Bud.v0 (x:Bud):x.v.toList.getD 0 d=.int x.steps:=rfl
theorem Bud.v1 (x:Bud):x.v.toList.getD 1 d=.int x.fuel:=rfl
theorem Bud.v2 (x:Bud):x.v.toList.getD 2 d=.int x.runs:=rfl
end
def Fnc.Fit (f:Fnc):Prop:=f.code.length≤maxLen∧f.sels.length≤maxLen∧∀ s∈f.sels,s.cases.length≤maxLen
def Prg.Fit (p:Prg):Prop:=p.vars.length≤maxLen∧p.chans.length≤maxLen∧p.funcs.length≤maxLen∧∀ f∈p.funcs,f.Fit
structure Stt.Shape (s:Stt):Prop where
 vars:s.vars.length=8
 owner:s.owner.length=4
 chans:s.chans.length=4
 bufs:∀ c∈s.chans,c.buf.length=4
 gos:s.gos.length=6
 regs:∀ g∈s.gos,g.regs.length=8
theorem V.setSub_agg (l:List V) (k:Nat) (x:V):V.setSub (.agg l) k x=.agg (l.set k x):=rfl
theorem wy:∀ l m:List Int,V.beqL (l.map V.int) (m.map V.int)=decide (l=m)
 | [],[]=>rfl
 | [],_::_=>rfl
 | _::_,[]=>rfl
 | a::l,b::m=>by
   simp only [List.map_cons,V.beqL,V.beq,wy l m,List.cons.injEq]
   by_cases h:a=b<;>simp [h]
theorem QAI (g h:Gor):V.beq g.v h.v=decide (g=h):=by
 obtain ⟨a,b,c,d,e⟩:=g
 obtain ⟨a',b',c',d',e'⟩:=h
 simp only [Gor.v,V.beq,V.beqL,wy,Gor.mk.injEq]
 by_cases h1:a=a'<;>by_cases h2:b=b'<;>by_cases h3:c=c'<;>by_cases h4:d=d'<;>simp [h1,h2,h3,h4]
theorem QAJ (g h:Chn):V.beq g.v h.v=decide (g=h):=by
 obtain ⟨a,b,c,d,e,f⟩:=g
 obtain ⟨a',b',c',d',e',f'⟩:=h
 simp only [Chn.v,V.beq,V.beqL,wy,Chn.mk.injEq]
 by_cases h1:a=a'<;>by_cases h2:b=b'<;>by_cases h3:c=c'<;>by_cases h4:d=d'<;>by_cases h5:e=e'<;>simp [h1,h2,h3,h4,h5]
theorem yR (l:List Int) (i:Nat):(l.map V.int).getD i default=.int (l.getD i 0):=by
 by_cases h:i<l.length
 · simp [List.getD_eq_getElem?_getD,h]
 · simp [List.getD_eq_getElem?_getD,List.getElem?_eq_none (Nat.le_of_not_lt h)];rfl
theorem Yf {l:List Gor} {i:Nat} (h:i<l.length) (d:V):(l.map Gor.v).getD i d=(l.getD i default).v:=Qg Gor.v l h d
theorem Zl {l:List Chn} {i:Nat} (h:i<l.length) (d:V):(l.map Chn.v).getD i d=(l.getD i default).v:=Qg Chn.v l h d
theorem XM {l:List Fnc} {i:Nat} (h:i<l.length) (d:V):(l.map Fnc.v).getD i d=(l.getD i default).v:=Qg Fnc.v l h d
theorem Zx {l:List Instr} {i:Nat} (h:i<l.length) (d:V):(l.map Instr.v).getD i d=(l.getD i default).v:=Qg Instr.v l h d
theorem XL {l:List Sel} {i:Nat} (h:i<l.length) (d:V):(l.map Sel.v).getD i d=(l.getD i default).v:=Qg Sel.v l h d
theorem Wq {l:List Cas} {i:Nat} (h:i<l.length) (d:V):(l.map Cas.v).getD i d=(l.getD i default).v:=Qg Cas.v l h d
theorem xw {l:List Vr} {i:Nat} (h:i<l.length) (d:V):(l.map Vr.v).getD i d=(l.getD i default).v:=Qg Vr.v l h d
def Qk (x n:Int):Bool:=decide (0≤x)&&decide (x<n)
def Qp (op:Int):Bool:=(decide (1≤op)&&decide (op≤36))||(decide (40≤op)&&decide (op≤45))
def ZG (op:Int):Bool:=decide (50≤op)&&decide (op≤65)
def Prg.fn (p:Prg) (f:Int):Fnc:=p.funcs.getD f.toNat default
def Fnc.at_ (f:Fnc) (pc:Int):Instr:=f.code.getD pc.toNat default
def Stt.gor (s:Stt) (g:Int):Gor:=s.gos.getD g.toNat default
def Stt.chn (s:Stt) (c:Int):Chn:=s.chans.getD c.toNat default
def Gor.reg (g:Gor) (r:Int):Int:=g.regs.getD r.toNat 0
def Prg.cap (p:Prg) (c:Int):Int:=p.chans.getD c.toNat 0
def QA (p:Prg) (s:Stt) (g:Int):Instr:=(p.fn (s.gor g).func).at_ (s.gor g).pc
def QK (p:Prg) (s:Stt) (g:Int):Int:=if (s.gor g).status=2 then 66 else (QA p s g).op
def YB (s:Stt) (g:Int):Bool:=decide (0≤g)&&decide (g<s.count)&&(decide ((s.gor g).status=1)||decide ((s.gor g).status=2))
def Ys (p:Prg) (s:Stt) (c:Int):Bool :=
 if (s.chn c).closed then true else if 0<p.cap c then decide ((s.chn c).len<p.cap c) else decide ((s.chn c).offer=0)
def XG (s:Stt) (c:Int):Bool:=decide (0<(s.chn c).len)||(s.chn c).closed||decide ((s.chn c).offer=1)
def plain (p:Prg) (s:Stt) (g:Int):Bool :=
 let x:=QA p s g
 let op:=QK p s g
 if op=54 then decide (s.vars.getD x.a.toNat 0=(s.gor g).reg x.b)
 else if op=55 then decide (s.owner.getD x.a.toNat 0=0)
 else if op=58 then Ys p s x.a
 else if op=59 then XG s x.b
 else if op=66 then decide ((s.chn x.a).offer=2)||decide ((s.chn x.a).offer=3)
 else if op=63 then
  let k:=(s.gor g).reg x.a
  decide (k<0)||decide (s.count≤k)||decide (k=g)||!YB s k
 else decide (50≤op)
def XQ (p:Prg) (s:Stt) (c:Cas):Bool:=if c.send then Ys p s c.chan else XG s c.chan
def Qw (p:Prg) (s:Stt) (g:Int):Sel:=(p.fn (s.gor g).func).sels.getD (QA p s g).a.toNat default
def ZO (p:Prg) (s:Stt) (q:Sel) (n:Nat):List Int:=((List.range n).filter fun i=>XQ p s (q.cases.getD i default)).map fun (i:Nat)=>(i:Int)
def Qn (p:Prg) (s:Stt) (g:Int):List Int :=
 if YB s g then
  if QK p s g=61 then
   let q:=Qw p s g
   let l:=ZO p s q q.cases.length
   if l.length=0∧q.els ≠ -1 then l++[(q.cases.length:Int)] else l
  else if plain p s g then [0] else []
 else []
def YG (p:Prg) (s:Stt) (n:Nat):List Pck:=(List.range n).flatMap fun (g:Nat)=>(Qn p s g).map fun a=>⟨g,a⟩
def ready (p:Prg) (s:Stt):List Pck:=YG p s s.count.toNat
def has (p:Prg) (s:Stt) (x:Pck):Bool:=decide (x.alt∈Qn p s x.go)
def add (kind num:Int) (write:Bool):List Access→List Access
 | []=>[⟨kind,num,write⟩]
 | x::l=>if x.kind=kind∧x.num=num then ⟨x.kind,x.num,x.write||write⟩::l
   else if kind<x.kind∨x.kind=kind∧num<x.num then ⟨kind,num,write⟩::x::l
   else x::add kind num write l
def QY (q:Sel) (n:Nat) (l:List Access):List Access:=(q.cases.take n).foldl (fun l c=>add 3 c.chan true l) l
def touch (p:Prg) (s:Stt) (g:Int):List Access :=
 let x:=QA p s g
 let op:=QK p s g
 let l:List Access:=[⟨5,g,true⟩]
 if op=50 then add 1 x.b false l
 else if op=54 then add 1 x.a false l
 else if op=51 then add 1 x.a true l
 else if op=52∨op=53 then add 1 x.b true l
 else if op=55∨op=56 then add 2 x.a true l
 else if op=57 then add 2 x.b true l
 else if op=58∨op=60∨op=66 then add 3 x.a true l
 else if op=59 then add 3 x.b true l
 else if op=61 then QY (Qw p s g) (Qw p s g).cases.length l
 else if op=62 then
  let l:=add 4 0 true l
  if s.count<6 then add 5 s.count true l else l
 else if op=63 then
  let l:=add 4 0 false l
  let k:=(s.gor g).reg x.a
  if 0≤k∧k<s.count then add 5 k false l else l
 else if op=65 then add 6 0 true l
 else l
structure Did where
 s:Stt
 val:Int
 why:Int
 to_:Int
 deriving Inhabited
def Stt.setReg (s:Stt) (g r v:Int):Stt :=
 if 0≤r then { s with gos:=s.gos.set g.toNat { s.gor g with regs:=(s.gor g).regs.set r.toNat v } } else s
def Stt.setChn (s:Stt) (c:Int) (x:Chn):Stt:={ s with chans:=s.chans.set c.toNat x }
def Stt.setStatus (s:Stt) (g v:Int):Stt:={ s with gos:=s.gos.set g.toNat { s.gor g with status:=v } }
def XY (b:Bool):Int:=if b then 1 else 0
def YD (p:Prg) (d:Did) (g c v:Int):Did :=
 let x:=d.s.chn c
 if x.closed then { d with why:=4 }
 else if 0<p.cap c then { d with s:=d.s.setChn c { x with buf:=x.buf.set x.len.toNat v,len:=x.len+1 },val:=v }
 else { d with s:=(d.s.setStatus g 2).setChn c { x with offer:=1,from_:=g,val:=v },to_ := -1,val:=v }
def YF (b:List Int) (n:Nat):List Int:=(List.range b.length).map fun i=>if i<n then b.getD (i+1) 0 else b.getD i 0
def YX (d:Did) (g c r ok:Int):Did :=
 let x:=d.s.chn c
 if 0<x.len then
  let y:={ x with buf:=(YF x.buf (x.len-1).toNat).set (x.len-1).toNat 0,len:=x.len-1 }
  { d with s:=((d.s.setChn c y).setReg g r (x.buf.getD 0 0)).setReg g ok 1,val:=x.buf.getD 0 0 }
 else if x.offer=1 then
  { d with s:=((d.s.setChn c { x with offer:=2,val:=0 }).setReg g r x.val).setReg g ok 1,val:=x.val }
 else { d with s:=((d.s.setChn c x).setReg g r 0).setReg g ok 0,val:=0 }
def Zu (d:Did) (c:Int):Did :=
 let x:=d.s.chn c
 if x.closed then { d with why:=5 }
 else if x.offer=1 then { d with s:=d.s.setChn c { x with closed:=true,offer:=3,val:=0 } }
 else { d with s:=d.s.setChn c { x with closed:=true } }
def YN (d:Did) (g c:Int):Did :=
 let x:=d.s.chn c
 { d with s:=(d.s.setChn c { x with offer:=0,from_:=0,val:=0 }).setStatus g 1,why:=if x.offer=3 then 4 else d.why }
def Q7 (s:Stt) (g c:Int) (n:Nat):List Int:=(List.range 8).map fun i=>if i<n then (s.gor g).reg (c+i) else 0
def Zo (p:Prg) (d:Did) (g:Int) (x:Instr):Did :=
 if 6≤d.s.count then { d with why:=8 }
 else
  let n:=d.s.count
  let s:={ d.s with gos:=d.s.gos.set n.toNat ⟨1,x.b,0,0,Q7 d.s g x.c (p.fn x.b).params.toNat⟩,count:=n+1 }
  { d with s:=s.setReg g x.a n,val:=n }
def w64 (n:Int):Int:=IntKind.i64.wrap n
def ZB (d:Did) (g:Int) (x:Instr):Did :=
 let r:=d.s.gor g
 if x.op=50 then
  let v:=d.s.vars.getD x.b.toNat 0
  { d with s:=d.s.setReg g x.a v,val:=v }
 else if x.op=51 then { d with s:={ d.s with vars:=d.s.vars.set x.a.toNat (r.reg x.b) },val:=r.reg x.b }
 else if x.op=52 then
  let s:=d.s.setReg g x.a (d.s.vars.getD x.b.toNat 0)
  { d with s:={ s with vars:=s.vars.set x.b.toNat (w64 (s.vars.getD x.b.toNat 0+r.reg x.c)) },val:=r.reg x.c }
 else if x.op=53 then
  let v:=XY (decide (d.s.vars.getD x.b.toNat 0=r.reg x.c))
  let s:=if v=1 then { d.s with vars:=d.s.vars.set x.b.toNat (r.reg x.n) } else d.s
  { d with s:=s.setReg g x.a v,val:=v }
 else if x.op=54 then { d with val:=r.reg x.b }
 else if x.op=55 then { d with s:={ d.s with owner:=d.s.owner.set x.a.toNat (g+1) } }
 else if x.op=56 then
  if d.s.owner.getD x.a.toNat 0≠g+1 then { d with why:=6 } else { d with s:={ d.s with owner:=d.s.owner.set x.a.toNat 0 } }
 else if x.op=57 then
  let v:=XY (decide (d.s.owner.getD x.b.toNat 0=0))
  let s:=if v=1 then { d.s with owner:=d.s.owner.set x.b.toNat (g+1) } else d.s
  { d with s:=s.setReg g x.a v,val:=v }
 else d
def QG (p:Prg) (s:Stt) (g alt:Int):Did :=
 let x:=QA p s g
 let d:Did:=⟨s,0,0,(s.gor g).pc+1⟩
 let op:=QK p s g
 if op=66 then YN d g x.a
 else if op=58 then YD p d g x.a ((s.gor g).reg x.b)
 else if op=59 then YX d g x.b x.a x.c
 else if op=60 then Zu d x.a
 else if op=62 then Zo p d g x
 else if op=63 then
  let k:=(s.gor g).reg x.a
  if k<0∨s.count≤k∨k=g then { d with why:=7 } else { d with val:=k }
 else if op=65 then { d with val:=(s.gor g).reg x.a }
 else if op=61 then
  let q:=Qw p s g
  if alt=q.cases.length then { d with to_:=q.els }
  else
   let c:=q.cases.getD alt.toNat default
   let d:={ d with to_:=c.to_ }
   if c.send then YD p d g c.chan ((s.gor g).reg c.reg) else YX d g c.chan c.reg (-1)
 else ZB d g x
def Vf (l:List Access):List Access:=(List.range 6).map fun i=>if i<l.length then l.getD i default else ⟨0,0,false⟩
def event (p:Prg) (s:Stt) (x:Pck) (val:Int):Event :=
 ⟨x.go,(s.gor x.go).func,(s.gor x.go).pc,QK p s x.go,x.alt,val,if QK p s x.go=65 then (QA p s x.go).n else 0,Vf (touch p s x.go),(touch p s x.go).length⟩
def zeroGor:Gor:=⟨0,0,0,0,List.replicate 8 0⟩
def zeroChn:Chn:=⟨List.replicate 4 0,0,false,0,0,0⟩
def zeroStt:Stt:=⟨List.replicate 8 0,List.replicate 4 0,List.replicate 4 zeroChn,List.replicate 6 zeroGor,0⟩
def zeroEvent:Event:=⟨0,0,0,0,0,0,0,List.replicate 6 ⟨0,0,false⟩,0⟩
def ZU:List Int→Int
 | []=>0
 | x::l=>if x≠0 then x else ZU l
theorem zk (a b:List Int):ZU (a++b)=if ZU a≠0 then ZU a else ZU b:=by
 induction a with
 | nil=>simp [ZU]
 | cons x a ih =>
   simp only [List.cons_append,ZU]
   by_cases h:x=0
   · simpa [h] using ih
   · simp [h]
theorem x4 (a:List Int) (x:Int):ZU (a++[x])=if ZU a≠0 then ZU a else x:=by
 rw [zk]
 by_cases h:ZU a=0
 · by_cases hx:x=0<;>simp [h,ZU,hx]
 · simp [h]
theorem yj (g:Nat→Int) (n:Nat):ZU ((List.range (n+1)).map g)=if ZU ((List.range n).map g)≠0 then ZU ((List.range n).map g) else g n:=by
 rw [List.range_succ,List.map_append,List.map_cons,List.map_nil,x4]
theorem Va {α:Type} [Inhabited α] (g:α→Int) (l:List α) {n:Nat} (h:n<l.length):ZU ((l.take (n+1)).map g)=if ZU ((l.take n).map g)≠0 then ZU ((l.take n).map g) else g (l.getD n default):=by
 rw [List.take_succ_eq_append_getElem h,List.map_append,List.map_cons,List.map_nil,x4]
 simp [List.getD_eq_getElem?_getD,h]
theorem zj {α:Type} [Inhabited α] (g:α→Int) (l:List α) {n:Nat} (h:n<l.length) (h0:ZU ((l.take n).map g)=0) (h1:g (l.getD n default)≠0):ZU (l.map g)=g (l.getD n default):=by
 have e:l.map g=(l.take (n+1)).map g++(l.drop (n+1)).map g:=by rw [← List.map_append,List.take_append_drop]
 have e2:ZU ((l.take (n+1)).map g)=g (l.getD n default):=by rw [Va g l h,if_neg (fun q=>q h0)]
 rw [e,zk,e2,if_pos h1]
theorem Ud {p:Nat→Bool} {n i:Nat} (hi:i≤n) (h0:∀ j,j<i→p j=false) (h1:i=n∨p i=true):(List.range n).findIdx p=i:=by
 rcases Nat.lt_or_ge i n with h|h
 · have h1:p i=true:=h1.resolve_left (by omega)
   rw [List.findIdx_eq (by simpa using h)]
   refine ⟨by simpa using h1,fun j hj=>?_⟩
   simpa using h0 j hj
 · have:i=n:=by omega
   subst this
   have:(List.range i).findIdx p=(List.range i).length:=by
    rw [List.findIdx_eq_length]
    intro x hx
    simpa using h0 x (by simpa using hx)
   simpa using this
theorem firstNZ_zero {a:List Int}:ZU a=0↔∀ x∈a,x=0:=by
 induction a with
 | nil=>simp [ZU]
 | cons x a ih =>
   simp only [ZU,List.mem_cons,forall_eq_or_imp]
   split
   · rename_i h;simp [h]
   · rename_i h;rw [ih];simp at h;simp [h]
def ZC (op:Int):List Nat :=
 if 1≤op∧op≤15 then [114,114,45,45]
 else if 16≤op∧op≤36 then [114,114,114,45]
 else if op=40 then [114,45,45,110]
 else if op=41 then [114,114,45,45]
 else if op=42 then [116,45,45,45]
 else if op=43 then [114,116,45,45]
 else if op=44 then [114,45,45,110]
 else if op=45 then [45,45,45,45]
 else if op=50 then [114,118,45,45]
 else if op=51 then [118,114,45,45]
 else if op=52 then [111,97,114,45]
 else if op=53 then [114,97,114,119]
 else if op=54 then [97,114,45,45]
 else if op=55∨op=56 then [108,45,45,45]
 else if op=57 then [114,108,45,45]
 else if op=58 then [99,114,45,45]
 else if op=59 then [111,99,111,45]
 else if op=60 then [99,45,45,45]
 else if op=61 then [115,45,45,45]
 else if op=62 then [111,102,112,45]
 else if op=63 then [114,45,45,45]
 else if op=64 then [45,45,45,45]
 else if op=65 then [114,45,45,110]
 else []
def VU (op:Int):ByteArray:=⟨((ZC op).map Nat.toUInt8).toArray⟩
theorem QC4:∀ n:Fin 66,(∀ x∈ZC n.val,x<256)∧((Qp n.val||ZG n.val)=true→(ZC n.val).length=4):=by decide +kernel
theorem xE {op:Int} (h:op<1∨65<op):ZC op=[]:=by
 unfold ZC
 rw [if_neg (by omega),if_neg (by omega),if_neg (by omega),if_neg (by omega),if_neg (by omega),if_neg (by omega),if_neg (by omega),if_neg (by omega),if_neg (by omega),if_neg (by omega),if_neg (by omega),if_neg (by omega),if_neg (by omega),if_neg (by omega),if_neg (by omega),if_neg (by omega),if_neg (by omega),if_neg (by omega),if_neg (by omega),if_neg (by omega),if_neg (by omega),if_neg (by omega),if_neg (by omega)]
theorem QLg (op:Int):∀ x∈ZC op,x<256:=by
 by_cases h:op<1∨65<op
 · rw [xE h];simp
 · have:=(QC4 ⟨op.toNat,by omega⟩).1
   rwa [show ((⟨op.toNat,by omega⟩:Fin 66).val:Int)=op from by simp;omega] at this
theorem xy (op:Int) (j:Nat):((((VU op).data[j]?).getD 0).toNat:Int)=(((ZC op).getD j 0:Nat):Int):=by
 simp only [VU,List.getElem?_toArray,List.getElem?_map,List.getD_eq_getElem?_getD]
 cases h:(ZC op)[j]? with
 | none=>rfl
 | some x =>
   have:=QLg op x (List.mem_of_getElem? h)
   simp
   omega
theorem qV (op:Int):(VU op).size=(ZC op).length:=by simp [VU,ByteArray.size]
theorem V2 {op:Int} (h:Qp op=true∨ZG op=true):(ZC op).length=4:=by
 have hr:1≤op∧op≤65:=by simp [Qp,ZG] at h;omega
 have:=(QC4 ⟨op.toNat,by omega⟩).2
 rw [show ((⟨op.toNat,by omega⟩:Fin 66).val:Int)=op from by simp;omega] at this
 exact this (by simpa using h)
def Qd (p:Prg) (f:Fnc) (letter:Int) (x:Int) (i:Instr):Int :=
 if letter=114∨letter=119 then (if Qk x f.regs then 0 else 35)
 else if letter=111 then (if x ≠ -1∧Qk x f.regs=false then 35 else 0)
 else if letter=112 then (if ((p.fn i.b).params=0∧x≠0)∨(0<(p.fn i.b).params∧(x<0∨w64 (f.regs-(p.fn i.b).params)<x)) then 35 else 0)
 else if letter=118 then (if Qk x p.vars.length then 0 else 36)
 else if letter=97 then (if Qk x p.vars.length then (if (p.vars.getD x.toNat default).atomic then 0 else 37) else 36)
 else if letter=108 then (if Qk x p.locks then 0 else 36)
 else if letter=99 then (if Qk x p.chans.length then 0 else 36)
 else if letter=115 then (if Qk x f.sels.length then 0 else 36)
 else if letter=102 then (if Qk x p.funcs.length then 0 else 36)
 else if letter=116 then (if Qk x f.code.length then 0 else 38)
 else 0
def Instr.field (i:Instr) (j:Nat):Int:=[i.a,i.b,i.c,i.n].getD j 0
theorem QGu (i:Instr) (j:Nat):[V.int i.a,V.int i.b,V.int i.c,V.int i.n].getD j default=.int (i.field j):=yR [i.a,i.b,i.c,i.n] j
def QS (i:Instr) (j:Nat):Int:=((ZC i.op).getD j 0:Nat)
def XZ (i:Instr) (n:Nat):Bool:=(List.range n).any fun j=>decide (QS i j=45)&&decide (i.field j≠0)
def VR (p:Prg) (f:Fnc) (i:Instr) (n:Nat):Int:=ZU ((List.range n).map fun j=>Qd p f (QS i j) (i.field j) i)
def Qb (p:Prg) (f:Fnc) (i:Instr):Int :=
 if Qp i.op=false∧ZG i.op=false then 33 else if XZ i 4 then 34 else VR p f i 4
theorem QGm:∀ n:Fin 66,∀ j:Fin 4,(ZC n.val).getD j.val 0=112→n.val=62∧j.val=2:=by decide +kernel
theorem QGn {i:Instr} {j:Nat} (h:QS i j=112):i.op=62∧j=2:=by
 unfold QS at h
 by_cases hr:i.op<1∨65<i.op
 · rw [xE hr] at h;simp at h
 · have e:((⟨i.op.toNat,by omega⟩:Fin 66).val:Int)=i.op:=by simp;omega
   by_cases hj:j<4
   · have:=QGm ⟨i.op.toNat,by omega⟩ ⟨j,hj⟩
     rw [e] at this
     have:=this (by exact_mod_cast h)
     simp at this
     omega
   · have hl:(ZC i.op).length≤4:=by
      by_cases hv:Qp i.op=true∨ZG i.op=true
      · rw [V2 hv];exact Nat.le_refl _
      · have:ZC i.op=[]:=by
         simp [Qp,ZG] at hv
         unfold ZC
         (repeat (rw [if_neg (by omega)]))
        rw [this];simp
     rw [List.getD_eq_getElem?_getD,List.getElem?_eq_none (by omega)] at h
     simp at h
theorem WN (p:Prg) (f:Fnc) (i:Instr) (n:Nat):VR p f i (n+1)=if VR p f i n≠0 then VR p f i n else Qd p f (QS i n) (i.field n) i:=yj _ _
theorem xA {p:Prg} {f:Fnc} {i:Instr} {n:Nat} (h:VR p f i n≠0):∀ m,VR p f i (n+m)=VR p f i n
 | 0=>rfl
 | m+1=>by rw [← Nat.add_assoc,WN,xA h m,if_pos h]
theorem X8 (i:Instr) (n:Nat):XZ i (n+1)=(XZ i n||(decide (QS i n=45)&&decide (i.field n≠0))):=V6 _ _
theorem qC {i:Instr} {n:Nat} (h:XZ i n=true):∀ m,XZ i (n+m)=true
 | 0=>h
 | m+1=>by rw [← Nat.add_assoc,X8,qC h m];rfl
theorem Ux {p:Prg} {f:Fnc} {i:Instr} {j:Nat} (h0:VR p f i j=0) (h:QS i j=112):0≤i.b∧i.b<p.funcs.length:=by
 obtain ⟨h62,rfl⟩:=QGn h
 rw [WN] at h0
 split at h0
 · rename_i hn;exact absurd h0 hn
 · have e1:QS i 1=102:=by simp [QS,h62,ZC]
   have e2:i.field 1=i.b:=rfl
   rw [e1,e2] at h0
   by_cases hw:Qk i.b p.funcs.length=true
   · simpa [Qk] using hw
   · simp [Qd,hw] at h0
def YH (p:Prg) (f:Fnc) (c:Cas):Int :=
 if Qk c.chan p.chans.length=false then 36
 else if Qk c.reg f.regs=false∧(c.send=true∨c.reg ≠ -1) then 35
 else if c.send=true∧p.cap c.chan=0 then 37
 else if Qk c.to_ f.code.length=false then 38 else 0
theorem within_false {x n:Int}:Qk x n=false↔x<0∨n≤x:=by
 unfold Qk
 rw [Bool.and_eq_false_iff]
 simp only [decide_eq_false_iff_not]
 omega
theorem QBn {p:Prg} {f:Fnc} {c:Cas} (h:c.chan<0∨(p.chans.length:Int)≤c.chan):YH p f c=36:=by
 unfold YH;rw [if_pos (within_false.2 h)]
theorem QBo {p:Prg} {f:Fnc} {c:Cas} (h:0≤c.chan∧c.chan<(p.chans.length:Int)) (h2:(c.reg<0∨f.regs≤c.reg)∧(c.send=true∨¬c.reg = -1)):YH p f c=35:=by
 unfold YH;rw [if_neg (by rw [within_false];omega),if_pos ⟨within_false.2 h2.1,h2.2⟩]
theorem QBm {p:Prg} {f:Fnc} {c:Cas} (h:0≤c.chan∧c.chan<(p.chans.length:Int)) (h2:c.reg<0∨f.regs≤c.reg→c.send=false∧c.reg = -1) (h3:c.send=true∧p.chans.getD c.chan.toNat 0=0):YH p f c=37:=by
 unfold YH Prg.cap
 rw [if_neg (by rw [within_false];omega),if_neg (by rw [within_false];rintro ⟨q1,q2⟩;have:=h2 q1;simp_all),if_pos h3]
theorem QBl {p:Prg} {f:Fnc} {c:Cas} (h:0≤c.chan∧c.chan<(p.chans.length:Int)) (h2:c.reg<0∨f.regs≤c.reg→c.send=false∧c.reg = -1) (h3:c.send=true→¬p.chans.getD c.chan.toNat 0=0) (h4:c.to_<0∨(f.code.length:Int)≤c.to_):YH p f c=38:=by
 unfold YH Prg.cap
 rw [if_neg (by rw [within_false];omega),if_neg (by rw [within_false];rintro ⟨q1,q2⟩;have:=h2 q1;simp_all),if_neg (fun q=>h3 q.1 q.2),if_pos (within_false.2 h4)]
theorem QDQ {p:Prg} {f:Fnc} {c:Cas} (h:0≤c.chan∧c.chan<(p.chans.length:Int)) (h2:c.reg<0∨f.regs≤c.reg→c.send=false∧c.reg = -1) (h3:c.send=true→¬p.chans.getD c.chan.toNat 0=0) (h4:0≤c.to_∧c.to_<(f.code.length:Int)):YH p f c=0:=by
 unfold YH Prg.cap
 rw [if_neg (by rw [within_false];omega),if_neg (by rw [within_false];rintro ⟨q1,q2⟩;have:=h2 q1;simp_all),if_neg (fun q=>h3 q.1 q.2),if_neg (by rw [within_false];omega)]
def Xj (p:Prg) (f:Fnc) (s:Sel) (n:Nat):Int:=ZU ((s.cases.take n).map (YH p f))
def Vu (p:Prg) (f:Fnc) (s:Sel):Int :=
 let e:=Xj p f s s.cases.length
 if e≠0 then e else if s.els ≠ -1∧Qk s.els f.code.length=false then 38 else 0
def Z3 (p:Prg) (f:Fnc) (n:Nat):Int:=ZU ((f.sels.take n).map (Vu p f))
def YR (f:Fnc) (n:Nat):Bool:=(f.sels.take n).all fun s=>decide (1≤s.cases.length)&&decide (s.cases.length≤4)
def Yz (n:Int) (f:Fnc):Bool :=
 if f.regs<0∨8<f.regs∨f.params<0∨f.regs<f.params∨(n=0∧f.params≠0) then false
 else if f.code.length<1∨64<f.code.length∨4<f.sels.length then false
 else YR f f.sels.length
theorem wL {α:Type} [Inhabited α] (f:α→Bool) (b:List α) {i:Nat} (h:i<b.length):(b.take (i+1)).all f=((b.take i).all f&&f (b.getD i default)):=by
 rw [List.take_succ_eq_append_getElem h]
 simp only [List.all_append,List.all_cons,List.all_nil,Bool.and_true,List.getD_eq_getElem?_getD,List.getElem?_eq_getElem h,Option.getD_some]
theorem QF9 {α:Type} [Inhabited α] {f:α→Bool} {b:List α} {i:Nat} (h:i<b.length) (h0:f (b.getD i default)=false):b.all f=false:=by
 rw [List.all_eq_false]
 exact ⟨_,Qj b h,by rw [h0];simp⟩
theorem xf (p:Prg) (f:Fnc) {i:Nat} (h:i<f.sels.length):Z3 p f (i+1)=if Z3 p f i≠0 then Z3 p f i else Vu p f (f.sels.getD i default):=Va _ _ h
theorem ym (p:Prg) (f:Fnc) (s:Sel) {i:Nat} (h:i<s.cases.length):Xj p f s (i+1)=if Xj p f s i≠0 then Xj p f s i else YH p f (s.cases.getD i default):=Va _ _ h
theorem QAv {p:Prg} {f:Fnc} {i:Nat} (hi:i<f.sels.length) (hz:Z3 p f i=0) {e:Int} (he:Vu p f (f.sels.getD i default)=e) (hne:e≠0):Z3 p f f.sels.length=e:=by
 unfold Z3
 rw [List.take_length,zj _ _ hi hz (by rw [he];exact hne),he]
theorem Y3 {p:Prg} {f:Fnc} {i j:Nat} (hi:i<f.sels.length) (hz:Z3 p f i=0) (hj:j<(f.sels.getD i default).cases.length) (hc:Xj p f (f.sels.getD i default) j=0) {e:Int} (he:YH p f ((f.sels.getD i default).cases.getD j default)=e) (hne:e≠0):Z3 p f f.sels.length=e:=by
 refine QAv hi hz ?_ hne
 have:Xj p f (f.sels.getD i default) (f.sels.getD i default).cases.length=e:=by
  unfold Xj
  rw [List.take_length,zj _ _ hj hc (by rw [he];exact hne),he]
 simp only [Vu,this]
 rw [if_pos hne]
theorem W3 {f:Fnc} {i:Nat} (hi:i<f.sels.length):f.sels.getD i default∈f.sels:=Qj _ hi
def Y8 (p:Prg) (f:Fnc) (n:Nat):Int:=ZU ((f.code.take n).map (Qb p f))
def qS (f:Fnc):Bool :=
 let l:=(f.at_ ((f.code.length:Int)-1)).op
 decide (l=42)||decide (l=45)||decide (l=61)
def Y7 (p:Prg) (n:Int) (f:Fnc):Int :=
 if Yz n f=false then 32
 else if Z3 p f f.sels.length≠0 then Z3 p f f.sels.length
 else if Y8 p f f.code.length≠0 then Y8 p f f.code.length
 else if qS f then 0 else 39
def YC (p:Prg) (n:Nat):Int:=ZU ((List.range n).map fun (i:Nat)=>Y7 p i (p.fn i))
def Z4 (p:Prg) (n:Nat):Bool:=(p.chans.take n).all fun c=>decide (0≤c)&&decide (c≤4)
def wm (p:Prg) (n:Int) (f:Fnc):Int :=
 if Yz n f=false then 0
 else if Z3 p f f.sels.length≠0 then 0
 else if Y8 p f f.code.length≠0 then (f.code.findIdx fun i=>decide (Qb p f i≠0):Nat)
 else (f.code.length:Int)-1
def QIK (p:Prg):Nat:=(List.range p.funcs.length).findIdx fun (i:Nat)=>decide (Y7 p i (p.fn i)≠0)
def Zh (p:Prg):Int :=
 if 8<p.vars.length∨p.locks<0∨4<p.locks∨4<p.chans.length∨p.funcs.length<1∨8<p.funcs.length then 30
 else if Z4 p p.chans.length=false then 31
 else YC p p.funcs.length
def W9 (p:Prg):Int × Int :=
 if 8<p.vars.length∨p.locks<0∨4<p.locks∨4<p.chans.length∨p.funcs.length<1∨8<p.funcs.length then (0,0)
 else if Z4 p p.chans.length=false then (0,0)
 else if YC p p.funcs.length=0 then (0,0)
 else ((QIK p:Int),wm p (QIK p) (p.fn (QIK p)))
def QN (p:Prg):Bool:=decide (Zh p=0)
theorem V3 (p:Prg) (i:Nat):p.fn (i:Int)=p.funcs.getD i default:=by simp [Prg.fn]
theorem wD (p:Prg) (f:Fnc) {i:Nat} (h:i<f.code.length):Y8 p f (i+1)=if Y8 p f i≠0 then Y8 p f i else Qb p f (f.code.getD i default):=Va _ _ h
theorem W4 (p:Prg) (i:Nat):YC p (i+1)=if YC p i≠0 then YC p i else Y7 p i (p.fn i):=yj _ _
theorem QJU {p:Prg} {i:Nat} (hi:i<p.funcs.length) (hz:YC p i=0) {e:Int} (he:Y7 p i (p.fn i)=e) (hne:e≠0):YC p p.funcs.length=e∧QIK p=i:=by
 constructor
 · have h1:YC p (i+1)=e:=by rw [W4,if_neg (fun q=>q hz),he]
   have:∀ m,YC p (i+1+m)=e:=by
    intro m
    induction m with
    | zero=>exact h1
    | succ m ih=>rw [← Nat.add_assoc,W4,ih,if_pos hne]
   have h2:=this (p.funcs.length-(i+1))
   rwa [show i+1+(p.funcs.length-(i+1))=p.funcs.length by omega] at h2
 · refine Ud (Nat.le_of_lt hi) (fun j hj=>?_) (.inr (by simp [he,hne]))
   have:=firstNZ_zero.1 hz (Y7 p j (p.fn j)) (List.mem_map.2 ⟨j,by simpa using hj,rfl⟩)
   simp [this]
theorem vY {p:Prg} (h:8<p.vars.length∨p.locks<0∨4<p.locks∨4<p.chans.length∨p.funcs.length<1∨8<p.funcs.length):Zh p=30∧W9 p=(0,0):=by
 unfold Zh W9;rw [if_pos h,if_pos h];exact ⟨rfl,rfl⟩
def Zz (p:Prg):Prop:=¬(8<p.vars.length∨p.locks<0∨4<p.locks∨4<p.chans.length∨p.funcs.length<1∨8<p.funcs.length)
theorem QBh {p:Prg} (h:Zz p) (h2:Z4 p p.chans.length=false):Zh p=31∧W9 p=(0,0):=by
 unfold Zh W9;rw [if_neg h,if_neg h,if_pos h2,if_pos h2];exact ⟨rfl,rfl⟩
theorem QDR {p:Prg} {i:Nat} (hi:i<p.chans.length) (h:p.chans.getD i 0<0∨4<p.chans.getD i 0):Z4 p p.chans.length=false:=by
 unfold Z4
 rw [List.take_length]
 refine QF9 hi ?_
 rw [Bool.and_eq_false_iff,decide_eq_false_iff_not,decide_eq_false_iff_not]
 have:p.chans.getD i default=p.chans.getD i 0:=rfl
 omega
theorem yW {p:Prg} (h:Zz p) (h2:Z4 p p.chans.length=true) {i:Nat} (hi:i<p.funcs.length) (hz:YC p i=0) {e:Int} (he:Y7 p i (p.fn i)=e) (hne:e≠0) :
 Zh p=e∧W9 p=((i:Int),wm p i (p.fn i)):=by
 obtain ⟨h3,h4⟩:=QJU hi hz he hne
 unfold Zh W9
 rw [if_neg h,if_neg h,if_neg (by rw [h2];simp),if_neg (by rw [h2];simp),h3,if_neg hne,h4]
 exact ⟨rfl,rfl⟩
theorem QF0 {p:Prg} (h:Zz p) (h2:Z4 p p.chans.length=true) (hz:YC p p.funcs.length=0):Zh p=0∧W9 p=(0,0):=by
 unfold Zh W9
 rw [if_neg h,if_neg h,if_neg (by rw [h2];simp),if_neg (by rw [h2];simp),hz,if_pos rfl]
 exact ⟨rfl,rfl⟩
theorem QL1 {p:Prg} {f:Fnc} {j:Nat} (hj:j<f.code.length) (hz:Y8 p f j=0) {e:Int} (he:Qb p f (f.code.getD j default)=e) (hne:e≠0):Y8 p f f.code.length=e∧(f.code.findIdx fun i=>decide (Qb p f i≠0))=j:=by
 constructor
 · unfold Y8
   rw [List.take_length,zj _ _ hj hz (by rw [he];exact hne),he]
 · rw [List.findIdx_eq hj]
   have e2:f.code.getD j default=f.code[j]:=by simp [List.getD_eq_getElem?_getD,hj]
   rw [e2] at he
   refine ⟨by simp [he,hne],fun k hk=>?_⟩
   have:=firstNZ_zero.1 hz (Qb p f f.code[k]) (List.mem_map.2 ⟨_,List.mem_take_iff_getElem.2 ⟨k,by omega,rfl⟩,rfl⟩)
   simp [this]
theorem WJ {m:Int} {f:Fnc} (h:Yz m f=true):(0≤f.regs∧f.regs≤8∧0≤f.params∧f.params≤f.regs∧(m=0→f.params=0))∧1≤f.code.length∧f.code.length≤64∧f.sels.length≤4∧YR f f.sels.length=true:=by
 unfold Yz at h
 split at h
 · cases h
 split at h
 · cases h
 rename_i h1 h2
 exact ⟨by omega,by omega,by omega,by omega,h⟩
theorem wF {p:Prg} (h:Zz p) (h2:Z4 p p.chans.length=true) {i:Nat} (hi:i<p.funcs.length) (hz:YC p i=0) (hf:Yz i (p.funcs.getD i default)=false):Zh p=32∧W9 p=((i:Int),0):=by
 have:=yW h h2 hi hz (e:=32) (by rw [V3];unfold Y7;rw [if_pos hf]) (by decide)
 rw [V3] at this
 unfold wm at this
 rwa [if_pos hf] at this
theorem QBe {p:Prg} (h:Zz p) (h2:Z4 p p.chans.length=true) {i:Nat} (hi:i<p.funcs.length) (hz:YC p i=0) (hf:Yz i (p.funcs.getD i default)=true) (hs:Z3 p (p.funcs.getD i default) (p.funcs.getD i default).sels.length≠0) :
 Zh p=Z3 p (p.funcs.getD i default) (p.funcs.getD i default).sels.length∧W9 p=((i:Int),0):=by
 have:=yW h h2 hi hz (e:=Z3 p (p.funcs.getD i default) (p.funcs.getD i default).sels.length) (by rw [V3];unfold Y7;rw [if_neg (by rw [hf];simp),if_pos hs]) hs
 rw [V3] at this
 unfold wm at this
 rwa [if_neg (by rw [hf];simp),if_pos hs] at this
theorem QBg {p:Prg} (h:Zz p) (h2:Z4 p p.chans.length=true) {i:Nat} (hi:i<p.funcs.length) (hz:YC p i=0) (hf:Yz i (p.funcs.getD i default)=true) (hs:Z3 p (p.funcs.getD i default) (p.funcs.getD i default).sels.length=0)
 {j:Nat} (hj:j<(p.funcs.getD i default).code.length) (hk:Y8 p (p.funcs.getD i default) j=0) (he:Qb p (p.funcs.getD i default) ((p.funcs.getD i default).code.getD j default)≠0) :
 Zh p=Qb p (p.funcs.getD i default) ((p.funcs.getD i default).code.getD j default)∧W9 p=((i:Int),(j:Int)):=by
 obtain ⟨c1,c2⟩:=QL1 hj hk rfl he
 have:=yW h h2 hi hz (e:=Qb p (p.funcs.getD i default) ((p.funcs.getD i default).code.getD j default)) (by rw [V3];unfold Y7;rw [if_neg (by rw [hf];simp),if_neg (fun q=>q hs),if_pos (by rw [c1];exact he),c1]) he
 rw [V3] at this
 unfold wm at this
 rwa [if_neg (by rw [hf];simp),if_neg (fun q=>q hs),if_pos (by rw [c1];exact he),c2] at this
theorem QBf {p:Prg} (h:Zz p) (h2:Z4 p p.chans.length=true) {i:Nat} (hi:i<p.funcs.length) (hz:YC p i=0) (hf:Yz i (p.funcs.getD i default)=true) (hs:Z3 p (p.funcs.getD i default) (p.funcs.getD i default).sels.length=0)
 (hk:Y8 p (p.funcs.getD i default) (p.funcs.getD i default).code.length=0) (hl:qS (p.funcs.getD i default)=false):Zh p=39∧W9 p=((i:Int),((p.funcs.getD i default).code.length:Int)-1):=by
 have:=yW h h2 hi hz (e:=39) (by rw [V3];unfold Y7;rw [if_neg (by rw [hf];simp),if_neg (fun q=>q hs),if_neg (fun q=>q hk),hl];rfl) (by decide)
 rw [V3] at this
 unfold wm at this
 rwa [if_neg (by rw [hf];simp),if_neg (fun q=>q hs),if_neg (fun q=>q hk)] at this
theorem QH2 (f:Fnc) (h:1≤f.code.length):f.at_ ((f.code.length:Int)-1)=f.code.getD (f.code.length-1) default:=by
 unfold Fnc.at_
 rw [show ((f.code.length:Int)-1).toNat=f.code.length-1 by omega]
theorem QFc {f:Fnc} (hl:1≤f.code.length) (h:(¬(f.code.getD (f.code.length-1) default).op=42∧¬(f.code.getD (f.code.length-1) default).op=45)∧¬(f.code.getD (f.code.length-1) default).op=61):qS f=false:=by
 simp only [qS,QH2 f hl,h.1.1,h.1.2,h.2,decide_false,Bool.or_self]
theorem QC2 {f:Fnc} (hl:1≤f.code.length) (h:¬(f.code.getD (f.code.length-1) default).op=42→¬(f.code.getD (f.code.length-1) default).op=45→(f.code.getD (f.code.length-1) default).op=61):qS f=true:=by
 simp only [qS,QH2 f hl]
 by_cases q1:(f.code.getD (f.code.length-1) default).op=42
 · simp only [q1,decide_true,Bool.true_or]
 · by_cases q2:(f.code.getD (f.code.length-1) default).op=45
   · simp only [q2,decide_true,Bool.or_true,Bool.true_or]
   · simp only [h q1 q2,decide_true,Bool.or_true]
def ZV (op why:Int):Bool :=
 if why=1 then decide (op=44) else if why=2 then decide (op=19)||decide (op=20) else if why=3 then decide (25≤op)&&decide (op≤27)
 else if why=4 then decide (op=58)||decide (op=61) else if why=5 then decide (op=60) else if why=6 then decide (op=56)
 else if why=7 then decide (op=63) else if why=8 then decide (op=62) else false
def Uu (g:Gor) (m:Int) (n:Nat):Bool:=(List.range n).all fun i=>decide ((i:Int)<m)||decide (g.regs.getD i 0=0)
def U0 (p:Prg) (g:Gor):Bool :=
 if g.status<1∨5<g.status∨g.func<0∨(p.funcs.length:Int)≤g.func∨g.pc<0∨((p.fn g.func).code.length:Int)≤g.pc then false
 else
  let m:=if g.status=3∨g.status=4 then 0 else (p.fn g.func).regs
  if Uu g m 8=false then false
  else
   let op:=((p.fn g.func).at_ g.pc).op
   if g.status=4 then ZV op g.why
   else decide (g.why=0)&&(decide (g.status≠3)||decide (op=45))&&(decide (g.status≠5)||Qp op)
def qf (c:Chn) (n:Nat):Bool:=(List.range n).all fun i=>decide ((i:Int)<c.len)||decide (c.buf.getD i 0=0)
def Wv (p:Prg) (s:Stt) (n:Int):Bool :=
 let c:=s.chn n
 if c.len<0∨p.cap n<c.len∨c.offer<0∨3<c.offer∨(p.cap n≠0∧c.offer≠0) then false
 else if qf c 4=false then false
 else if c.offer=0 then decide (c.from_=0)&&decide (c.val=0)
 else if (c.offer≠1∧c.val≠0)∨(c.offer=1∧c.closed=true)∨(c.offer=3∧c.closed=false) then false
 else if c.from_<0∨s.count≤c.from_∨(s.gor c.from_).status≠2 then false
 else decide ((QA p s c.from_).op=58)&&decide ((QA p s c.from_).a=n)
def Yx (p:Prg) (s:Stt) (n:Nat):Bool:=(List.range n).all fun i=>if (i:Int)<s.count then U0 p (s.gor i) else decide (s.gor i=zeroGor)
def VM (p:Prg) (s:Stt) (n:Nat):Bool:=(List.range n).all fun i=>decide (i<p.vars.length)||decide (s.vars.getD i 0=0)
def QKm (p:Prg) (s:Stt) (i:Nat):Bool:=decide (0≤s.owner.getD i 0)&&decide (s.owner.getD i 0≤s.count)&&(decide ((i:Int)<p.locks)||decide (s.owner.getD i 0=0))
def YU (p:Prg) (s:Stt) (n:Nat):Bool:=(List.range n).all (QKm p s)
def XT (p:Prg) (s:Stt) (n:Nat):Bool:=(List.range n).all fun i=>if i<p.chans.length then Wv p s i else decide (s.chn i=zeroChn)
def ZF (s:Stt) (g:Int) (n:Nat):Nat:=((List.range n).filter fun (i:Nat)=>decide ((s.chn i).offer≠0)&&decide ((s.chn i).from_=g)).length
def Y5 (s:Stt) (n:Nat):Bool:=(List.range n).all fun g=>decide ((s.gor g).status≠2)||decide (ZF s g 4=1)
def YI (p:Prg) (s:Stt):Bool :=
 QN p&&decide (1≤s.count)&&decide (s.count≤6)&&Yx p s 6&&VM p s 8&&YU p s 4&&XT p s 4&&Y5 s s.count.toNat
section
variable (apply:Int→Int→Int→Int × Int)
def ended (g:Gor) (status why:Int):Gor:=⟨status,g.func,g.pc,why,List.replicate 8 0⟩
def Gor.setR (g:Gor) (r v:Int):Gor:={ g with regs:=g.regs.set r.toNat v }
def Gor.next (g:Gor):Gor:={ g with pc:=g.pc+1 }
def Qi (p:Prg) (g:Gor):Gor × Bool :=
 let i:=(p.fn g.func).at_ g.pc
 if i.op≤15 then ((g.setR i.a (apply i.op (g.reg i.b) 0).1).next,true)
 else if i.op≤36 then
  let x:=apply i.op (g.reg i.b) (g.reg i.c)
  if x.2=20 then (ended g 4 2,false) else if x.2=21 then (ended g 4 3,false) else ((g.setR i.a x.1).next,true)
 else if i.op=40 then ((g.setR i.a i.n).next,true)
 else if i.op=41 then ((g.setR i.a (g.reg i.b)).next,true)
 else if i.op=42 then ({ g with pc:=i.a },true)
 else if i.op=43 then (if g.reg i.a≠0 then { g with pc:=i.b } else g.next,true)
 else if i.op=44 then (if g.reg i.a=0 then (ended g 4 1,false) else (g.next,true))
 else (ended g 3 0,false)
def Zr (p:Prg):Nat→Gor→Gor
 | 0,g=>if Qp ((p.fn g.func).at_ g.pc).op then { g with status:=5 } else g
 | n+1,g=>if Qp ((p.fn g.func).at_ g.pc).op then
    let r:=Qi apply p g
    if r.2 then Zr p n r.1 else r.1
   else g
def Yh (p:Prg) (g:Gor) (fuel:Int):Gor:=Zr apply p fuel.toNat { g with status:=1 }
def YE (p:Prg) (n:Nat):List Int:=(List.range 8).map fun i=>if i<n then (p.vars.getD i default).init else 0
def start (p:Prg) (fuel:Int):Stt × Int :=
 if QN p=false then (zeroStt,3) else if fuel<0∨4096<fuel then (zeroStt,1)
 else ({ zeroStt with vars:=YE p p.vars.length,gos:=zeroStt.gos.set 0 (Yh apply p zeroGor fuel),count:=1 },0)
def QZ (p:Prg) (s:Stt) (g fuel:Int):Stt × Int :=
 if QN p=false then (zeroStt,3) else if YI p s=false then (zeroStt,4)
 else if g<0∨6≤g∨fuel<0∨4096<fuel then (zeroStt,1) else if s.count≤g then (zeroStt,9)
 else if (s.gor g).status=1∨(s.gor g).status=5 then ({ s with gos:=s.gos.set g.toNat (Yh apply p (s.gor g) fuel) },0) else (s,0)
def take (p:Prg) (s:Stt) (x:Pck) (fuel:Int):Stt × Event :=
 let d:=QG p s x.go x.alt
 if d.why≠0 then
  ({ d.s with gos:=d.s.gos.set x.go.toNat { d.s.gor x.go with status:=4,why:=d.why,regs:=List.replicate 8 0 } },event p s x 0)
 else
  let e:=event p s x d.val
  if d.to_<0 then (d.s,e)
  else
   let s1:={ d.s with gos:=d.s.gos.set x.go.toNat { d.s.gor x.go with pc:=d.to_ } }
   let out:=(QZ apply p s1 x.go fuel).1
   (if s.count<out.count then (QZ apply p out s.count fuel).1 else out,e)
def YO (p:Prg) (s:Stt) (x:Pck) (fuel:Int):Stt × Event × Int :=
 if fuel<0∨4096<fuel then (zeroStt,zeroEvent,1) else if has p s x=false then (zeroStt,zeroEvent,5)
 else ((take apply p s x fuel).1,(take apply p s x fuel).2,0)
def vH (p:Prg) (fuel:Int) (s:Stt) (l:List Pck):Stt:=l.foldl (fun s x=>(YO apply p s x fuel).1) s
def QP (p:Prg) (fuel:Int) (s:Stt) (l:List Pck) (j:Nat):Stt:=vH apply p fuel s (l.take j)
def Qy (p:Prg) (fuel:Int) (s:Stt) (l:List Pck) (j:Nat):Event:=(YO apply p (QP apply p fuel s l j) (l.getD j default) fuel).2.1
def Z6 (p:Prg) (fuel:Int) (s:Stt) (l:List Pck) (j:Nat):Bool:=(ready p (QP apply p fuel s l j)).any fun y=>decide (l.getD j default=y)
def ZY (p:Prg) (fuel:Int) (s:Stt) (l:List Pck):Nat:=(List.range l.length).findIdx fun j=>!Z6 apply p fuel s l j
def Q0 (p:Prg) (fuel:Int) (s:Stt) (l:List Pck) (n:Nat):List Stt:=(List.range (n+1)).map (QP apply p fuel s l)
def Z7 (p:Prg) (fuel:Int) (s:Stt) (l:List Pck) (n:Nat):List Event:=(List.range n).map (Qy apply p fuel s l)
def Y1 (b:Bud):Bool:=decide (0≤b.steps)&&decide (b.steps≤256)&&decide (0≤b.fuel)&&decide (b.fuel≤4096)&&decide (0≤b.runs)&&decide (b.runs≤65536)
def ZR (p:Prg) (n:Int) (b:Bud):Int:=if QN p=false then 3 else if 256<n then 2 else if Y1 b=false then 6 else 0
end
end Go.Eng
namespace Go.Eng.Tryz
open Go.RowKit Go.Eng
attribute [go_sem] Zy Zc QF Option.getD_some St.keep List.filterMap_cons List.filterMap_nil Option.map_some Option.map_none opG opQ opB Yu VZ wz Yw Xc qr Vw ZD vU QEb QKg QIG QDS QFY qY qU QES QDv Xi wI QNg QED QD0 eqA QQs QF7 QAm zl QDq qi QNi QET St.kill Tm.kill E.kill E.killL Obj.kill QAF xH xL QBC UY WA QCQ QSs List.any_cons List.any_nil V.get V.put V.sub Zf QB2 QDb QRK QRL QPc QPd QPe QPf QSA QSB Nat.zero_add List.length_map List.lookup_cons List.lookup_nil List.getElem?_cons_zero List.getElem?_cons_succ List.getElem?_toArray List.getElem?_nil Option.bind_some Option.bind_none List.size_toArray List.length_cons List.length_nil List.nil_append List.append_nil List.cons_append List.getD_cons_zero List.getD_cons_succ List.map_cons List.map_nil List.set_cons_zero List.set_cons_succ true_and and_true forall_const true_implies Bool.true_and Bool.and_true Bool.not_true Bool.not_false Bool.false_and Bool.and_false beq_self_eq_true Bool.true_beq Bool.false_beq beq_true beq_false eq_self false_implies V.toInt_int V.toBool_bool V.toList_list V.toList_agg V.toStr_str V.deref_ref if_true if_false Bool.false_eq_true Option.isSome_none Option.isSome_some Bool.false_or Bool.true_or Bool.or_false Bool.or_true cond_true cond_false implies_true and_self imp_self V.setSub_agg wR QEN List.length_map Int.toNat_natCast Int.natCast_zero U4 Instr.v0 Instr.v1 Instr.v2 Instr.v3 Instr.v4 Cas.v0 Cas.v1 Cas.v2 Cas.v3 Sel.v0 Sel.v1 Fnc.v0 Fnc.v1 Fnc.v2 Fnc.v3 Vr.v0 Vr.v1 Prg.v0 Prg.v1 Prg.v2 Prg.v3 Gor.v0 Gor.v1 Gor.v2 Gor.v3 Gor.v4 Chn.v0 Chn.v1 Chn.v2 Chn.v3 Chn.v4 Chn.v5 Stt.v0 Stt.v1 Stt.v2 Stt.v3 Stt.v4 Pck.v0 Pck.v1 Bud.v0 Bud.v1 Bud.v2 yR QGu Event.v0 Event.v7 Event.v8 Access.v0 Access.v1 Access.v2 XA
attribute [go_sem] ty2 U9 ty4 ty5 ty9 QUm QSX QMV QST QSP QSM Yo QUl VO QUk QUj QUi QPn QUh QPm QSE QPl QPk QUg QPj QSD QPi QUf QPh QPg QUe QSC VN QSp QKF QNz QNy QKE QSo QSn QSm QSl QSk QSj QNx QNw QSi QSh QKD QNv QKC QSg QKB QSf QSe QSd QSc QSb QNu QSa QHU QSZ QSY QSW QSV QSU QSS QSR QSQ QSO QSN QSL QSK QSJ QSI QNt QSH QSG QSF
theorem QMz:zU tab [22,3,23,24] (tab.zero 26).toList=[.nilsl,.int .i64 0,.nilsl,.nilsl]:=rfl
theorem QMy:zU tab [36,47,4] (tab.zero 49).toList=[.nilsl,.data 47 (tab.zero 47),.bool false]:=rfl
theorem QMx:zU tab [26,29,3,28] (tab.zero 75).toList=[.data 26 (tab.zero 26),.nilsl,.int .i64 0,.data 28 (tab.zero 28)]:=rfl
theorem QKj:zU tab [3,3,105,106] (tab.zero 108).toList=[.int .i64 0,.int .i64 0,.nilsl,.nilsl]:=rfl
theorem QKi:zU tab [171,3] (tab.zero 173).toList=[.nilsl,.int .i64 0]:=rfl
attribute [go_sem] QMz QMy QMx QKj QKi
theorem cq {f:FuncId} {cs:List E} {A:FuncId→List E→E→Prop} {B:E→Prop} {C:FuncId→List E→Prop} {e:E} (h:A f cs e) (k:B e):∃ fid caps,E.fn f cs=E.fn fid caps∧((∃ e,A fid caps e∧B e)∨C fid caps):=⟨_,_,rfl,.inl ⟨e,h,k⟩⟩
theorem ce {f:FuncId} {cs:List E} {A:FuncId→List E→Prop} {C:FuncId→List E→Prop} (h:C f cs):∃ fid caps,E.fn f cs=E.fn fid caps∧(A fid caps∨C fid caps):=⟨_,_,rfl,.inr h⟩
theorem cc {σ:St} {f:FuncId} {pts:List TypeId} {rt:TypeId} {vs:List V} {r:V} {es:List E} (hc:Ctr Go.Proofs.Tryz.prog tab f pts [rt] vs [r]) (hv:Zy tab σ pts es=some vs:=by first|rfl|(simp [go_sem];done)|fail) (hf:ZM tab 20 rt=true:=by rfl):CallQ Go.Proofs.Tryz.prog tab σ f es (WA tab rt r):=CallQ.ctr ok hc hv hf
theorem cf {σ:St} {f:FuncId} {pts rts:List TypeId} {vs rs:List V} {es:List E} {K:St→E→Prop} (hc:Ctr Go.Proofs.Tryz.prog tab f pts rts vs rs) (hK:K { σ with ob:=σ.ob++(Yu tab σ.ob.length rts rs).1 } (VZ (Yu tab σ.ob.length rts rs).2)) (hv:Zy tab σ pts es=some vs:=by first|rfl|(simp [go_sem];done)|fail):CallE Go.Proofs.Tryz.prog tab σ f es K:=CallE.ctr ok hc hv hK
theorem Zp {p:Prop} (h:p:=by first|omega|rfl|decide|assumption|(intro _;omega)|(simp;done)|(simp [-List.getD_eq_getElem?_getD];omega)|exact hcode _|(intro _;exact hcode _)|exact hsl _|(intro _;exact hsl _)|fail):p:=h
theorem VL {p:Prop} (h:p:=by first|omega|rfl|decide|assumption|(intro _;omega)|(simp;done)|(simp [-List.getD_eq_getElem?_getD];omega)|exact hcode _|(intro _;exact hcode _)|exact hsl _|(intro _;exact hsl _)|(simp [-List.getD_eq_getElem?_getD,Q3,maxLen,by3,VS,V5,Uf,Ug];omega)|(simp [-List.getD_eq_getElem?_getD,Q3,maxLen,by3,VS,V5,Uf,Ug];done)|fail):p:=h
theorem rg {id:Nat} {ops:Array Oper} {σ:St} (L:List (List Nat)) {K:Exit→St→Prop} (h:∀ R:St→Prop,(∀ σ',K .normal (σ'.keep (QEN L id))→R σ')→SARA Go.Proofs.Tryz.prog tab true id 0 (ops.toList.map (QC ops)) R σ) (hg:YW ops=true:=by kernel_rfl):SA Go.Proofs.Tryz.prog tab (.region id ops false) K σ:=J21 ok hg L h
theorem ob3 {p:Prop} (h:p:=by first|omega|rfl|decide|assumption|(intro _;omega)|(simp;done)|(simp;omega)|fail):p:=h
theorem Vz {p:Prop} (h:p:=by first|omega|rfl|decide|assumption|(intro _;omega)|(simp;done)|(simp;omega)|(simp [Q3,maxLen]<;>omega)|fail):p:=h
theorem ob5 {p:Prop} (h:p:=by first|omega|rfl|decide|assumption|(intro _;omega)|(simp;done)|(simp;omega)|(simp [Q3,maxLen,by3,VS,V5,Uf,Ug]<;>omega)|fail):p:=h
theorem Y4 {f:FuncId} {cs:List E} {G:Prop} {A:FuncId→List E→E→Prop} {B:E→Prop} {C:FuncId→List E→Prop} {e:E} (h:G→A f cs e) (k:B e):∃ fid caps,E.fn f cs=E.fn fid caps∧((∃ e,(G→A fid caps e)∧B e)∨C fid caps):=⟨_,_,rfl,.inl ⟨e,h,k⟩⟩
theorem V4 {f:FuncId} {cs:List E} {A:FuncId→List E→E→Prop} {B:E→Prop} {e:E} (h:A f cs e) (k:B e):∃ fid caps,E.fn f cs=E.fn fid caps∧∃ e,A fid caps e∧B e:=⟨_,_,rfl,e,h,k⟩
theorem wB {f:FuncId} {cs:List E} {G:Prop} {A:FuncId→List E→E→Prop} {B:E→Prop} {e:E} (h:G→A f cs e) (k:B e):∃ fid caps,E.fn f cs=E.fn fid caps∧∃ e,(G→A fid caps e)∧B e:=⟨_,_,rfl,e,h,k⟩
theorem VK {σ:St} {f:FuncId} {pts:List TypeId} {rt:TypeId} {vs:List V} {r:V} {es:List E} (hc:Ctr Go.Proofs.Tryz.prog tab f pts [rt] vs [r]) (hv:Zy tab σ pts es=some vs:=by first|rfl|(simp [go_sem,List.take_of_length_le,List.length_map,List.map_take,List.drop_zero];done)|fail) (hf:ZM tab 20 rt=true:=by rfl):CallQ Go.Proofs.Tryz.prog tab σ f es (WA tab rt r):=CallQ.ctr ok hc hv hf
theorem wO {σ:St} {f:FuncId} {pts rts:List TypeId} {vs rs:List V} {es:List E} {K:St→E→Prop} (hc:Ctr Go.Proofs.Tryz.prog tab f pts rts vs rs) (hK:K { σ with ob:=σ.ob++(Yu tab σ.ob.length rts rs).1 } (VZ (Yu tab σ.ob.length rts rs).2)) (hv:Zy tab σ pts es=some vs:=by first|rfl|(simp [go_sem,List.take_of_length_le,List.length_map,List.map_take,List.drop_zero];done)|fail):CallE Go.Proofs.Tryz.prog tab σ f es K:=CallE.ctr ok hc hv hK
end Go.Eng.Tryz
namespace Go.Eng
variable (i:Nat) (d:V)
theorem Qt {α:Type} [Inhabited α] (f:α→V) (l:List α) (i:Nat):((l.map f).getD i default=f (l.getD i default))∨((l.map f).getD i default=.int 0∧l.getD i default=default):=by
 by_cases h:i<l.length
 · exact .inl (Qg f l h _)
 · right
   simp only [List.getD_eq_getElem?_getD,List.getElem?_map,List.getElem?_eq_none (Nat.le_of_not_lt h)]
   exact ⟨rfl,rfl⟩
theorem Instr.at_op (l:List Instr):(((l.map Instr.v).getD i default).toList.getD 0 default).toInt=(l.getD i default).op:=by
 rcases Qt Instr.v l i with h|⟨h,h'⟩
 · rw [h,Instr.v0];rfl
 · rw [h,h'];rfl
theorem Instr.at_a (l:List Instr):(((l.map Instr.v).getD i default).toList.getD 1 default).toInt=(l.getD i default).a:=by
 rcases Qt Instr.v l i with h|⟨h,h'⟩
 · rw [h,Instr.v1];rfl
 · rw [h,h'];rfl
theorem Instr.at_b (l:List Instr):(((l.map Instr.v).getD i default).toList.getD 2 default).toInt=(l.getD i default).b:=by
 rcases Qt Instr.v l i with h|⟨h,h'⟩
 · rw [h,Instr.v2];rfl
 · rw [h,h'];rfl
theorem Instr.at_c (l:List Instr):(((l.map Instr.v).getD i default).toList.getD 3 default).toInt=(l.getD i default).c:=by
 rcases Qt Instr.v l i with h|⟨h,h'⟩
 · rw [h,Instr.v3];rfl
 · rw [h,h'];rfl
theorem Instr.at_n (l:List Instr):(((l.map Instr.v).getD i default).toList.getD 4 default).toInt=(l.getD i default).n:=by
 rcases Qt Instr.v l i with h|⟨h,h'⟩
 · rw [h,Instr.v4];rfl
 · rw [h,h'];rfl
theorem Cas.at_send (l:List Cas):(((l.map Cas.v).getD i default).toList.getD 0 default).toBool=(l.getD i default).send:=by
 rcases Qt Cas.v l i with h|⟨h,h'⟩
 · rw [h,Cas.v0];rfl
 · rw [h,h'];rfl
theorem Cas.at_chan (l:List Cas):(((l.map Cas.v).getD i default).toList.getD 1 default).toInt=(l.getD i default).chan:=by
 rcases Qt Cas.v l i with h|⟨h,h'⟩
 · rw [h,Cas.v1];rfl
 · rw [h,h'];rfl
theorem Cas.at_reg (l:List Cas):(((l.map Cas.v).getD i default).toList.getD 2 default).toInt=(l.getD i default).reg:=by
 rcases Qt Cas.v l i with h|⟨h,h'⟩
 · rw [h,Cas.v2];rfl
 · rw [h,h'];rfl
theorem Cas.at_to_ (l:List Cas):(((l.map Cas.v).getD i default).toList.getD 3 default).toInt=(l.getD i default).to_:=by
 rcases Qt Cas.v l i with h|⟨h,h'⟩
 · rw [h,Cas.v3];rfl
 · rw [h,h'];rfl
theorem Sel.at_cases (l:List Sel):(((l.map Sel.v).getD i default).toList.getD 0 default).toList=(l.getD i default).cases.map Cas.v:=by
 rcases Qt Sel.v l i with h|⟨h,h'⟩
 · rw [h,Sel.v0];rfl
 · rw [h,h'];rfl
theorem Sel.at_els (l:List Sel):(((l.map Sel.v).getD i default).toList.getD 1 default).toInt=(l.getD i default).els:=by
 rcases Qt Sel.v l i with h|⟨h,h'⟩
 · rw [h,Sel.v1];rfl
 · rw [h,h'];rfl
theorem Fnc.at_params (l:List Fnc):(((l.map Fnc.v).getD i default).toList.getD 0 default).toInt=(l.getD i default).params:=by
 rcases Qt Fnc.v l i with h|⟨h,h'⟩
 · rw [h,Fnc.v0];rfl
 · rw [h,h'];rfl
theorem Fnc.at_regs (l:List Fnc):(((l.map Fnc.v).getD i default).toList.getD 1 default).toInt=(l.getD i default).regs:=by
 rcases Qt Fnc.v l i with h|⟨h,h'⟩
 · rw [h,Fnc.v1];rfl
 · rw [h,h'];rfl
theorem Fnc.at_code (l:List Fnc):(((l.map Fnc.v).getD i default).toList.getD 2 default).toList=(l.getD i default).code.map Instr.v:=by
 rcases Qt Fnc.v l i with h|⟨h,h'⟩
 · rw [h,Fnc.v2];rfl
 · rw [h,h'];rfl
theorem Fnc.at_sels (l:List Fnc):(((l.map Fnc.v).getD i default).toList.getD 3 default).toList=(l.getD i default).sels.map Sel.v:=by
 rcases Qt Fnc.v l i with h|⟨h,h'⟩
 · rw [h,Fnc.v3];rfl
 · rw [h,h'];rfl
theorem Vr.at_atomic (l:List Vr):(((l.map Vr.v).getD i default).toList.getD 0 default).toBool=(l.getD i default).atomic:=by
 rcases Qt Vr.v l i with h|⟨h,h'⟩
 · rw [h,Vr.v0];rfl
 · rw [h,h'];rfl
theorem Vr.at_init (l:List Vr):(((l.map Vr.v).getD i default).toList.getD 1 default).toInt=(l.getD i default).init:=by
 rcases Qt Vr.v l i with h|⟨h,h'⟩
 · rw [h,Vr.v1];rfl
 · rw [h,h'];rfl
theorem Gor.at_status (l:List Gor):(((l.map Gor.v).getD i default).toList.getD 0 default).toInt=(l.getD i default).status:=by
 rcases Qt Gor.v l i with h|⟨h,h'⟩
 · rw [h,Gor.v0];rfl
 · rw [h,h'];rfl
theorem Gor.at_func (l:List Gor):(((l.map Gor.v).getD i default).toList.getD 1 default).toInt=(l.getD i default).func:=by
 rcases Qt Gor.v l i with h|⟨h,h'⟩
 · rw [h,Gor.v1];rfl
 · rw [h,h'];rfl
theorem Gor.at_pc (l:List Gor):(((l.map Gor.v).getD i default).toList.getD 2 default).toInt=(l.getD i default).pc:=by
 rcases Qt Gor.v l i with h|⟨h,h'⟩
 · rw [h,Gor.v2];rfl
 · rw [h,h'];rfl
theorem Gor.at_why (l:List Gor):(((l.map Gor.v).getD i default).toList.getD 3 default).toInt=(l.getD i default).why:=by
 rcases Qt Gor.v l i with h|⟨h,h'⟩
 · rw [h,Gor.v3];rfl
 · rw [h,h'];rfl
theorem Gor.at_regs_get (l:List Gor) (j:Nat):((((l.map Gor.v).getD i default).toList.getD 4 default).toList.getD j default).toInt=(l.getD i default).regs.getD j 0:=by
 rcases Qt Gor.v l i with h|⟨h,h'⟩
 · rw [h,Gor.v4,V.toList_agg,yR,V.toInt_int]
 · rw [h,h'];cases j<;>rfl
theorem Chn.at_buf_get (l:List Chn) (j:Nat):((((l.map Chn.v).getD i default).toList.getD 0 default).toList.getD j default).toInt=(l.getD i default).buf.getD j 0:=by
 rcases Qt Chn.v l i with h|⟨h,h'⟩
 · rw [h,Chn.v0,V.toList_agg,yR,V.toInt_int]
 · rw [h,h'];cases j<;>rfl
theorem Chn.at_len (l:List Chn):(((l.map Chn.v).getD i default).toList.getD 1 default).toInt=(l.getD i default).len:=by
 rcases Qt Chn.v l i with h|⟨h,h'⟩
 · rw [h,Chn.v1];rfl
 · rw [h,h'];rfl
theorem Chn.at_closed (l:List Chn):(((l.map Chn.v).getD i default).toList.getD 2 default).toBool=(l.getD i default).closed:=by
 rcases Qt Chn.v l i with h|⟨h,h'⟩
 · rw [h,Chn.v2];rfl
 · rw [h,h'];rfl
theorem Chn.at_offer (l:List Chn):(((l.map Chn.v).getD i default).toList.getD 3 default).toInt=(l.getD i default).offer:=by
 rcases Qt Chn.v l i with h|⟨h,h'⟩
 · rw [h,Chn.v3];rfl
 · rw [h,h'];rfl
theorem Chn.at_from_ (l:List Chn):(((l.map Chn.v).getD i default).toList.getD 4 default).toInt=(l.getD i default).from_:=by
 rcases Qt Chn.v l i with h|⟨h,h'⟩
 · rw [h,Chn.v4];rfl
 · rw [h,h'];rfl
theorem Chn.at_val (l:List Chn):(((l.map Chn.v).getD i default).toList.getD 5 default).toInt=(l.getD i default).val:=by
 rcases Qt Chn.v l i with h|⟨h,h'⟩
 · rw [h,Chn.v5];rfl
 · rw [h,h'];rfl
theorem Pck.at_go (l:List Pck):(((l.map Pck.v).getD i default).toList.getD 0 default).toInt=(l.getD i default).go:=by
 rcases Qt Pck.v l i with h|⟨h,h'⟩
 · rw [h,Pck.v0];rfl
 · rw [h,h'];rfl
theorem Pck.at_alt (l:List Pck):(((l.map Pck.v).getD i default).toList.getD 1 default).toInt=(l.getD i default).alt:=by
 rcases Qt Pck.v l i with h|⟨h,h'⟩
 · rw [h,Pck.v1];rfl
 · rw [h,h'];rfl
attribute [go_sem] Instr.at_op Instr.at_a Instr.at_b Instr.at_c Instr.at_n Cas.at_send Cas.at_chan Cas.at_reg Cas.at_to_ Sel.at_cases Sel.at_els Fnc.at_params Fnc.at_regs Fnc.at_code Fnc.at_sels Vr.at_atomic Vr.at_init Gor.at_status Gor.at_func Gor.at_pc Gor.at_why Gor.at_regs_get Chn.at_buf_get Chn.at_len Chn.at_closed Chn.at_offer Chn.at_from_ Chn.at_val Pck.at_go Pck.at_alt
theorem QBO {α:Type} [Inhabited α] {q:α→Prop} {l:List α} (h:∀ x∈l,q x) (h0:q default) (i:Nat):q (l.getD i default):=by
 by_cases hi:i<l.length
 · exact h _ (Qj l hi)
 · rw [List.getD_eq_getElem?_getD,List.getElem?_eq_none (Nat.le_of_not_lt hi)];exact h0
theorem Prg.code_len {p:Prg} (h:p.Fit) (i:Nat):(p.funcs.getD i default).code.length≤maxLen:=QBO (q:=fun f:Fnc=>f.code.length≤maxLen) (fun f hf=>(h.2.2.2 f hf).1) (by decide) i
theorem Prg.sels_len {p:Prg} (h:p.Fit) (i:Nat):(p.funcs.getD i default).sels.length≤maxLen:=QBO (q:=fun f:Fnc=>f.sels.length≤maxLen) (fun f hf=>(h.2.2.2 f hf).2.1) (by decide) i
structure Prg.Ok (p:Prg):Prop where
 sizes:Zz p
 caps:∀ i:Nat,0≤p.chans.getD i 0∧p.chans.getD i 0≤4
 regs:∀ i:Nat,0≤(p.funcs.getD i default).regs∧(p.funcs.getD i default).regs≤8
 params:∀ i:Nat,0≤(p.funcs.getD i default).params∧(p.funcs.getD i default).params≤(p.funcs.getD i default).regs
 main:(p.funcs.getD 0 default).params=0
 code:∀ i:Nat,i<p.funcs.length→1≤(p.funcs.getD i default).code.length∧(p.funcs.getD i default).code.length≤64
 short:∀ i j:Nat,j<(p.funcs.getD i default).sels.length→1≤((p.funcs.getD i default).sels.getD j default).cases.length∧((p.funcs.getD i default).sels.getD j default).cases.length≤4
 instr:∀ i j:Nat,i<p.funcs.length→j<(p.funcs.getD i default).code.length→Qb p (p.funcs.getD i default) ((p.funcs.getD i default).code.getD j default)=0
 sels:∀ i j:Nat,i<p.funcs.length→j<(p.funcs.getD i default).sels.length→Vu p (p.funcs.getD i default) ((p.funcs.getD i default).sels.getD j default)=0
 last:∀ i:Nat,i<p.funcs.length→qS (p.funcs.getD i default)=true
theorem Prg.ok {p:Prg} (h:QN p=true):p.Ok:=by
 simp only [QN,decide_eq_true_eq] at h
 unfold Zh at h
 split at h;· cases h
 rename_i hs
 split at h;· cases h
 rename_i hc
 have hf:∀ i:Nat,i<p.funcs.length→Y7 p i (p.funcs.getD i default)=0:=by
  intro i hi
  have:=firstNZ_zero.1 h (Y7 p i (p.fn i)) (List.mem_map.2 ⟨i,by simpa using hi,rfl⟩)
  rwa [V3] at this
 have hform:∀ i:Nat,i<p.funcs.length→Yz i (p.funcs.getD i default)=true∧Z3 p (p.funcs.getD i default) (p.funcs.getD i default).sels.length=0∧Y8 p (p.funcs.getD i default) (p.funcs.getD i default).code.length=0∧qS (p.funcs.getD i default)=true:=by
  intro i hi
  have:=hf i hi
  unfold Y7 at this
  split at this;· cases this
  rename_i h1
  split at this;· rename_i h2;exact absurd this h2
  rename_i h2
  split at this;· rename_i h3;exact absurd this h3
  rename_i h3
  split at this
  · rename_i h4;exact ⟨by simpa using h1,by simpa using h2,by simpa using h3,h4⟩
  · cases this
 have hout:∀ i:Nat,¬ i<p.funcs.length→p.funcs.getD i default=default:=by
  intro i hi
  rw [List.getD_eq_getElem?_getD,List.getElem?_eq_none (Nat.le_of_not_lt hi)];rfl
 refine ⟨hs,fun i=>?_,fun i=>?_,fun i=>?_,?_,fun i hi=>?_,fun i j hj=>?_,fun i j hi hj=>?_,fun i j hi hj=>?_,fun i hi=>(hform i hi).2.2.2⟩
 · have hc':Z4 p p.chans.length=true:=by simpa using hc
   unfold Z4 at hc'
   rw [List.take_length,List.all_eq_true] at hc'
   exact QBO (q:=fun c:Int=>0≤c∧c≤4) (fun c hc=>by simpa using hc' c hc) (by decide) i
 · by_cases hi:i<p.funcs.length
   · have:=(WJ (hform i hi).1).1;omega
   · rw [hout i hi];decide
 · by_cases hi:i<p.funcs.length
   · have:=(WJ (hform i hi).1).1;omega
   · rw [hout i hi];decide
 · have:=(WJ (hform 0 (by omega)).1).1;exact this.2.2.2.2 rfl
 · have:=WJ (hform i hi).1;exact ⟨this.2.1,this.2.2.1⟩
 · by_cases hi:i<p.funcs.length
   · have:=(WJ (hform i hi).1).2.2.2.2
     unfold YR at this
     rw [List.take_length,List.all_eq_true] at this
     have:=this _ (Qj _ hj)
     simp only [Bool.and_eq_true,decide_eq_true_eq] at this
     exact this
   · rw [hout i hi] at hj;exact absurd hj (by simp [show (default:Fnc).sels=[] from rfl])
 · have:=(hform i hi).2.2.1
   unfold Y8 at this
   rw [List.take_length] at this
   exact firstNZ_zero.1 this _ (List.mem_map.2 ⟨_,Qj _ hj,rfl⟩)
 · have:=(hform i hi).2.1
   unfold Z3 at this
   rw [List.take_length] at this
   exact firstNZ_zero.1 this _ (List.mem_map.2 ⟨_,Qj _ hj,rfl⟩)
def U1 (p:Prg) (g:Gor):Int:=if g.status=3∨g.status=4 then 0 else (p.fn g.func).regs
def qs (p:Prg) (g:Gor):Prop:=((((1≤g.status∧g.status≤5)∧0≤g.func)∧g.func<(p.funcs.length:Int))∧0≤g.pc)∧g.pc<((p.funcs.getD g.func.toNat default).code.length:Int)
theorem UM {p:Prg} {g:Gor} (h:¬qs p g):U0 p g=false:=by
 unfold U0
 rw [if_pos]
 unfold qs at h
 unfold Prg.fn
 omega
theorem VE {p:Prg} {g:Gor} (h:qs p g):U0 p g=if Uu g (U1 p g) 8=false then false else if g.status=4 then ZV ((p.funcs.getD g.func.toNat default).code.getD g.pc.toNat default).op g.why
 else decide (g.why=0)&&(decide (g.status≠3)||decide (((p.funcs.getD g.func.toNat default).code.getD g.pc.toNat default).op=45))&&(decide (g.status≠5)||Qp ((p.funcs.getD g.func.toNat default).code.getD g.pc.toNat default).op):=by
 unfold U0
 rw [if_neg]
 · rfl
 · unfold qs at h
   unfold Prg.fn
   omega
theorem QE9 {g:Gor} {m i:Int} (h1:m≤i) (h2:0≤i) (h3:i<8) (h4:¬g.regs.getD i.toNat 0=0):Uu g m 8=false:=by
 refine Zg (i:=i.toNat) (by omega) ?_
 simp only [h4,decide_false,Bool.or_false,decide_eq_false_iff_not]
 omega
end Go.Eng
