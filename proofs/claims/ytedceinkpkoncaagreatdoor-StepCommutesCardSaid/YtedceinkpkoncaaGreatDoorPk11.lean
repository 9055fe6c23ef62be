/- A part of the proof: walks through the program's functions, and what they compute. -/
import Derived.Test.YtedceinkpkoncaaGreatDoorPk10
import Derived.OpenShut
import Derived.ChangeOld
import Derived.WideShapes
import Derived.Deep.Slices
import Derived.SizedLaws
set_option linter.unusedSimpArgs false
set_option linter.unusedVariables false
namespace Go.Eng
open Go.RowKit
variable {H:Type} {enc:TypeId × Value→H} {P:Program} {T:Tab} {w:World} {base:Nat} {spare:Nat→Bool} {held:Bool} {F:Nat→Prop}
theorem cellsOf_sz (hP:TabOk P T) {t:TypeId} (ht:T.ty t≠.other):P.cellsOf t=T.sz t:=by
 obtain ⟨i,i1,i2,_⟩:=hP.info t ht
 simp [Program.cellsOf,i1,i2]
theorem pick_all {α:Type} [Inhabited α] {n:Nat} {p:Nat→α→Prop} (h:∀ i,i<n→∃ a,p i a):∃ l:List α,l.length=n∧∀ i,i<n→p i (l.getD i default):=by
 classical
 refine ⟨(List.range n).map fun i=>if h:∃ a,p i a then Classical.choose h else default,by simp,fun i hi=>?_⟩
 have:=h i hi
 simp only [List.getD_eq_getElem?_getD,List.getElem?_map,List.getElem?_range hi,Option.map_some,Option.getD_some,dif_pos this]
 exact Classical.choose_spec this
theorem flat_notOther {d:Nat} {t:TypeId} (h:flatTy T d t=true):T.ty t≠.other:=by
 intro h0
 cases d with
 | zero=>simp [flatTy] at h
 | succ d=>simp [flatTy,h0] at h
theorem flat_trod (hP:TabOk P T):∀ (d:Nat) {t:TypeId} {cs:List Value} {fuel:Nat} {x:DataW H × List MemPlace},flatTy T d t=true→DataW.trod enc P w base spare held fuel t cs=some x→∃ v,Fits T w F t v cs:=by
 intro d
 induction d using Nat.strongRecOn with
 | _ d ih =>
   intro t cs fuel x hf h
   cases d with
   | zero=>simp [flatTy] at hf
   | succ d =>
     have hno:=flat_notOther hf
     have hc:=cellsOf_sz hP hno
     unfold flatTy at hf
     split at hf
     · rename_i k hk
       obtain ⟨n,rfl,_,hw⟩:=DataW.trod_int (hP.int _ _ hk) h
       exact ⟨_,.int hk (by simpa [Lit.wf,IntKind.has] using hw)⟩
     · rename_i hk
       obtain ⟨b,rfl,_⟩:=DataW.trod_bool (hP.bool _ hk) h
       exact ⟨_,.bool hk⟩
     · rename_i hk
       obtain ⟨s,rfl,_⟩:=DataW.trod_string (hP.str _ hk) h
       exact ⟨_,.str hk⟩
     · rename_i ts hk
       obtain ⟨fs,f1,f2,_,f3⟩:=hP.struct _ _ hk
       obtain ⟨xs,n,rfl,_,hl,hxl,hx⟩:=DataW.trod_struct f1 h
       have hfl:fs.size=ts.length:=by rw [← f2];simp
       have hex:∀ i,i<ts.length→∃ v,∀ u,ts[i]?=some u→Fits T w F u v ((cs.drop (T.offs ts i)).take (T.sz u)):=by
        intro i hi
        obtain ⟨f,hfi⟩:∃ f,fs[i]?=some f:=⟨_,Array.getElem?_eq_getElem (by omega)⟩
        have hti:ts[i]?=some f.type:=by
         have:(fs.toList.map (·.type))[i]?=some f.type:=by simp [hfi]
         rwa [f2] at this
        obtain ⟨g1,g2,_,g4⟩:=f3 i _ hfi
        have hxi:=hx i _ hfi
        rw [List.getElem?_eq_getElem (by omega),g1,cellsOf_sz hP g4] at hxi
        obtain ⟨d',hd',hf'⟩:=flatTys_nth hf hti
        obtain ⟨v,hv⟩:=ih d' (by omega) hf' hxi
        exact ⟨v,fun u hu=>by rw [hti] at hu;cases hu;exact hv⟩
       obtain ⟨l,hll,hl'⟩:=pick_all hex
       refine ⟨.agg l,.struct hk (FitsL.ofNth hll ?_ fun k u hu=>hl' k (List.getElem?_eq_some_iff.1 hu).1 u hu)⟩
       rw [hl,hc,hP.sized.struct _ _ hk]
     · rename_i n e hk
       obtain ⟨g1,_,_,g4⟩:=hP.arr _ _ _ hk
       obtain ⟨xs,m,rfl,_,hl,hxl,hx⟩:=DataW.trod_array g1 h
       have hex:∀ i,i<n→∃ v,Fits T w F e v ((cs.drop (i*T.sz e)).take (T.sz e)):=by
        intro i hi
        have hxi:=hx i hi
        rw [List.getElem?_eq_getElem (by omega),cellsOf_sz hP g4] at hxi
        exact ih d (by omega) hf hxi
       obtain ⟨l,hll,hl'⟩:=pick_all hex
       refine ⟨.agg l,.arr hk (FitsL.ofNth (by simp [hll]) ?_ fun k u hu=>?_)⟩
       · rw [hl,hc,hP.sized.arr _ _ _ hk]
       · rw [List.getElem?_replicate] at hu
         split at hu;rotate_left;· cases hu
         rename_i hkn
         cases hu
         rw [offs_replicate T n k _ (by omega)]
         exact hl' k hkn
     · simp at hf
theorem spot_of_cell {a:Addr} {v:Value} (h:w.cell? a=some v):a.spot=none:=by
 unfold World.cell? at h
 split at h
 · split at h
   · cases h
   · rename_i h';simpa using h'
 · cases h
theorem flat_arg (hP:TabOk P T) {t:TypeId} {r:Reach} {b0:Nat} {v:Value} {d:DataW H} {p:List MemPlace} (hf:flatTy T 20 t=true) (hval:Value.okWide P w r b0 t v)
 (h:DataW.Trod enc P w 0 spare held t v d p):∃ x,Fits T w (fun b=>b<w.heap.size) t x v.cells.toList∧ValOf T t v v.cells.toList:=by
 obtain ⟨fuel,h⟩:=h
 obtain ⟨x,hx⟩:=flat_trod (F:=fun b=>b<w.heap.size) hP 20 hf h
 refine ⟨x,hx,?_⟩
 unfold ValOf
 have hf':=hf
 unfold flatTy at hf'
 unfold Value.okWide at hval
 split at hf'
 · rename_i k hk
   rw [hP.int _ _ hk] at hval
   obtain ⟨n,hv,_,_⟩:=DataW.trod_int (hP.int _ _ hk) h
   simp only [Cell.okWide,hP.int _ _ hk] at hval
   cases v<;>simp_all [Cell.ok,Value.cells,TyD.isAgg]
 · rename_i hk
   simp only [Cell.okWide,hP.bool _ hk] at hval
   cases v<;>simp_all [Cell.ok,hP.bool _ hk,Value.cells,TyD.isAgg]
 · rename_i hk
   simp only [Cell.okWide,hP.str _ hk] at hval
   cases v<;>simp_all [Cell.ok,hP.str _ hk,Value.cells,TyD.isAgg]
 · rename_i ts hk
   obtain ⟨fs,f1,_⟩:=hP.struct _ _ hk
   rw [f1] at hval
   obtain ⟨cs,rfl,_⟩:=hval
   simp [hk,TyD.isAgg,Value.cells]
 · rename_i n e hk
   obtain ⟨f1,_⟩:=hP.arr _ _ _ hk
   rw [f1] at hval
   obtain ⟨cs,rfl,_⟩:=hval
   simp [hk,TyD.isAgg,Value.cells]
 · simp at hf'
theorem fits_list {α:Type} {f:α→V} {e:TypeId} (hf:∀ v cs,Fits T w F e v cs→∃ a,v=f a):∀ {n:Nat} {l:List V} {cs:List Value},FitsL T w F (List.replicate n e) l cs→∃ m:List α,l=m.map f
 | 0,l,cs,h=>by cases h;exact ⟨[],rfl⟩
 | n+1,l,cs,h=>by
   rw [List.replicate_succ] at h
   cases h with
   | cons h1 h2 =>
     obtain ⟨a,rfl⟩:=hf _ _ h1
     obtain ⟨m,rfl⟩:=fits_list hf h2
     exact ⟨a::m,rfl⟩
theorem fits_list' {α:Type} {f:α→V} {q:α→Prop} {e:TypeId} (hf:∀ v cs,Fits T w F e v cs→∃ a,q a∧v=f a):∀ {n:Nat} {l:List V} {cs:List Value},FitsL T w F (List.replicate n e) l cs→∃ m:List α,(∀ a∈m,q a)∧l=m.map f
 | 0,l,cs,h=>by cases h;exact ⟨[],by simp,rfl⟩
 | n+1,l,cs,h=>by
   rw [List.replicate_succ] at h
   cases h with
   | cons h1 h2 =>
     obtain ⟨a,ha,rfl⟩:=hf _ _ h1
     obtain ⟨m,hm,rfl⟩:=fits_list' hf h2
     exact ⟨a::m,by simpa using ⟨ha,hm⟩,rfl⟩
theorem Ctr.law {f:FuncId} {pts:List TypeId} {bt:TypeId} {vs:List V} {xs:List Value} {W:World} (h:Ctr P T f pts [bt] vs [.bool true]) (hb:P.underlying bt=some .bool) (hx:ArgsFit T W (fun b=>b<W.heap.size) pts vs xs) (htb:T.ty bt=.bool) (hg:T.glob W) :
 Calls P f xs.toArray W fun e W'=>e=.returned (.bool true)∧Below W.heap.size W W':=by
 refine (h.2 W _ xs (fun _ h=>h) hg hx).mono ?_
 rintro en w' ⟨ys,rfl,hB,hr⟩
 match ys,hr with
 | [y],⟨hr,_,_⟩ =>
   refine ⟨?_,hB⟩
   simp only [ResFit,htb] at hr
   obtain ⟨_,h1,h2⟩:=hr
   obtain ⟨b,hb,hc⟩:=h1.inv' htb
   cases hb
   simp only [ValOf,htb,TyD.isAgg,Bool.false_eq_true,if_false] at h2
   rw [h2] at hc
   simp at hc
   rw [outV,hc]
end Go.Eng
namespace Go.Eng
open Go.RowKit
variable {P:Program} {T:Tab} {w w':World} {w0:Base T} {F F':Nat→Prop} {ρ ρ':Nat→RI} {σ σ':St} {a:Act} {outs:List (Array Value)}
def CtrZ (P:Program) (T:Tab) (f:FuncId) (pts rts:List TypeId) (vs rs:List V):Prop :=
 Enters P f∧∀ (w:World) (F:Nat→Prop) (xs:List Value),(∀ b,F b→b<w.heap.size)→T.glob w→ArgsFit T w F pts vs xs →
  Calls P f xs.toArray w fun en w'=>∃ ys,en=.returned (outV ys)∧Below w.heap.size w w'∧ArgsFit T w' (fun b=>F b∨(w.heap.size≤b∧b<w'.heap.size)) rts rs ys
theorem contentV_fitZ (hP:TabOk P T) {tmps:Array Value} (hR:Rel T w F ρ w0 σ tmps outs) {t:TypeId} {e:E} {x:Value} {v:V} (hx:ERel T w F ρ e x) (h:contentV T σ t e=some v) :
 Fits T w (fun b=>F b∨∃ i,(ρ i).block=some b) t v x.cells.toList∧ValOf T t x x.cells.toList:=by
 have base:∀ {e:E},ERel T w F ρ e x→toV T t e=some v→Fits T w (fun b=>F b∨∃ i,(ρ i).block=some b) t v x.cells.toList∧ValOf T t x x.cells.toList:=by
  intro e hx h
  obtain ⟨h1,h2⟩:=toV_fits hx h
  exact ⟨h1.mono (fun _ x=>.inl x) (fun _ _=>rfl),h2⟩
 unfold contentV at h
 split at h
 · rename_i i el lo n c
   split at h;rotate_left;· cases h
   rename_i ht
   split at h;rotate_left;· cases h
   rename_i e2 l ho
   cases h
   have hob:=hR.ob _ _ ho
   have hval:∀ ad len cap,x=.slice ad len cap→ValOf T t x x.cells.toList:=fun ad len cap hx=>by subst hx;simp [ValOf,ht,TyD.isAgg,Value.cells]
   rcases hx with ⟨h1,rfl,_,rfl⟩|⟨b,m,cap,off,h1,h2,h3,rfl,h5,h6⟩
   · simp only [List.take_zero]
     exact ⟨.nil ht,hval _ _ _ rfl⟩
   · have hbl:(ρ i).block=some b:=by rw [h1];rfl
     rw [h1] at hob
     obtain ⟨rfl,q2,xs,q3,q4⟩:=hob
     refine ⟨?_,hval _ _ _ rfl⟩
     rcases q3.2 with ⟨q,_⟩|⟨b',cap',cur,hr,hb,hh,hn',hc',hs',htk⟩
     · cases q
     · cases hr
       have hnl:((l.drop lo).take n).length=n:=by simp;omega
       have hf:=q4.slice hP.sized (lo:=lo) (m:=n) (by omega)
       refine .slice ht (.inr ⟨i,hbl⟩) (cs:=(xs.drop (lo*T.sz el)).take (n*T.sz el)) ?_ hnl (hf.mono (fun _ x=>.inl x) (fun _ _=>rfl)) (by split<;>omega)
       rcases h6 with h6|h6
       · subst h6
         intro j y hy
         simp at hy
       · have hys:Seg w b 0 xs:=by
          have:=seg_of_cells (w:=w) hh 0 (l.length*T.sz el)
          rw [List.drop_zero,htk] at this
          exact this
         have:=hys.sub (lo*T.sz el) (n*T.sz el)
         rw [Nat.zero_add] at this
         rw [h6]
         exact this
 · rename_i i p t'
   split at h;rotate_left;· cases h
   rename_i ht
   split at h;rotate_left;· cases h
   rename_i tv td y ho
   cases h
   have hob:=hR.ob _ _ ho
   obtain ⟨b,root,off,p1,p2,rfl⟩:=hx
   have hbl:(ρ i).block=some b:=by rw [p1];rfl
   rw [p1] at hob
   obtain ⟨⟨q1,q1',q1''⟩,q2,q3,cs,ct,z,q4,q5,q6,q7⟩:=hob
   obtain ⟨cs',rfl,hA,hf⟩:=q5
   have:=q1'' _ _ rfl
   subst this
   subst q1
   have hcs:cs'=cs:=by have:=q6.2;rw [if_pos hA] at this;simpa using this
   subst hcs
   obtain ⟨g1,g2⟩:=p2.get hP.sized hf
   refine ⟨.ref ht (.inr ⟨i,hbl⟩) (seg_of_cells q4 off _) (g1.mono (fun _ x=>.inl x) (fun _ _=>rfl)),by simp [ValOf,ht,TyD.isAgg,Value.cells]⟩
 · exact base hx h
theorem argsV_fitZ (hP:TabOk P T) {tmps:Array Value} (hR:Rel T w F ρ w0 σ tmps outs):∀ {ts:List TypeId} {es:List E} {xs:List Value} {vs:List V},ERelL T w F ρ es xs→argsV T σ ts es=some vs →
 ArgsFit T w (fun b=>F b∨∃ i,(ρ i).block=some b) ts vs xs
 | [],[],[],vs,_,h=>by cases h;trivial
 | t::ts,e::es,x::xs,vs,⟨h1,h2⟩,h=>by
   unfold argsV at h
   split at h
   · rename_i v vs' hv hvs
     cases h
     exact ⟨contentV_fitZ hP hR h1 hv,argsV_fitZ hP hR h2 hvs⟩
   · cases h
 | [],_::_,_,_,_,h=>by simp [argsV] at h
 | _::_,[],_,_,_,h=>by simp [argsV] at h
 | [],[],_::_,_,h,_=>h.elim
 | _::_,_::_,[],_,h,_=>h.elim
theorem ArgsFit.mono (hF:∀ b,F b→F' b) (hw:∀ b,F b→w'.heap[b]?=w.heap[b]?):∀ {ts:List TypeId} {vs:List V} {xs:List Value},ArgsFit T w F ts vs xs→ArgsFit T w' F' ts vs xs
 | [],[],[],_=>trivial
 | _::_,_::_,_::_,⟨⟨h1,h2⟩,h⟩=>⟨⟨h1.mono hF hw,h2⟩,ArgsFit.mono hF hw h⟩
 | [],[],_::_,h=>h.elim
 | [],_::_,_,h=>h.elim
 | _::_,[],_,h=>h.elim
 | _::_,_::_,[],h=>h.elim
def ctrZK (T:Tab) (rs:List ResultVar) (rts:List TypeId) (vs:List V) (ex:Exit) (σ':St):Prop:=(ex=.normal∨ex=.ret)∧resA T σ' rs fun es=>argsV T σ' rts es=some vs
theorem ctrZK.normal {rs:List ResultVar} {rts:List TypeId} {vs:List V} (h:resA T σ' rs fun es=>argsV T σ' rts es=some vs):ctrZK T rs rts vs .normal σ':=⟨.inl rfl,h⟩
theorem ctrZK.ret {rs:List ResultVar} {rts:List TypeId} {vs:List V} (h:resA T σ' rs fun es=>argsV T σ' rts es=some vs):ctrZK T rs rts vs .ret σ':=⟨.inr rfl,h⟩
theorem CtrZ.body (hP : TabOk P T) {f : FuncId} {fn : Func} {c : Code} {pts rts : List TypeId} {vs rs : List V} (hf : P.funcs[f]? = some fn) (hb : fn.body = some c) (hname : (fn.name == "runtime.NumGoroutine") = false) (n : Nat) (hnt : fn.ntmps = n) (res : List ResultVar) (hrs : fn.results.toList = res) (hn : (fromVs T pts vs).length ≤ n)
 (h:SA P T c (ctrZK T res rts rs) { tm:=args0 0 (fromVs T pts vs),ob:=[],out:=[],nt:=n }):CtrZ P T f pts rts vs rs:=by
 subst hnt hrs
 refine ⟨enters_of hf (by rw [hb];rfl) hname,?_⟩
 intro w F xs hF hg hx
 refine calls_of_wp hf hb ?_
 have hl:=hx.len
 have hR:Rel T w F (fun _=>.none) ⟨w,F,hg⟩ { tm:=args0 0 (fromVs T pts vs),ob:=[],out:=[],nt:=fn.ntmps } (xs.toArray++Array.replicate (fn.ntmps-xs.toArray.size) undef) [] :=
  ⟨args_tm (fromVs_rel hx) _,trivial,fun i o h=>by simp at h,fun _ _=>rfl,fun i j b h=>by simp [RI.block] at h,hF,Below.refl _ _,by simp;omega,fun _ h=>.inr h⟩
 refine wp_mono (h ⟨w,F,hg⟩ w F _ { tmps:=xs.toArray++Array.replicate (fn.ntmps-xs.toArray.size) undef,defers:=[] } [] rfl hR) ?_
 rintro ex a' w' ⟨σ',F',ρ',⟨hex,hr⟩,hd',hR''⟩
 refine leave_sound hP hR'' hd' hex hr fun es ys hv he=>⟨ys,rfl,hR''.below,?_⟩
 refine (argsV_fitZ hP hR'' he hv).mono ?_ (fun _ _=>rfl)
 rintro b (hb|⟨i,hb⟩)
 · rcases hR''.fold b hb with h|h
   · exact .inr ⟨h,hR''.fsub b hb⟩
   · exact .inl h
 · exact .inr ⟨(hR''.own hb).2.2,(hR''.own hb).1⟩
theorem Rel.grow {tmps:Array Value} (h:Rel T w F ρ w0 σ tmps outs) (hb:Below w.heap.size w w'):Rel T w' (fun b=>F b∨(w.heap.size≤b∧b<w'.heap.size)) ρ w0 σ tmps outs:=by
 have hF:∀ b,F b→F b∨(w.heap.size≤b∧b<w'.heap.size):=fun _ h=>.inl h
 have hw:∀ b,F b→w'.heap[b]?=w.heap[b]?:=fun b hF=>hb.block b (h.fsub b hF)
 refine ⟨h.tm.mono hF hw (fun _ _=>rfl),h.out.mono hF hw (fun _ _=>rfl),fun i o ho=>(h.ob i o ho).mono hF hw (fun _ _=>rfl) (fun b hr=>hb.block b (h.own hr).1) (fun b hr hc=>?_),h.free,h.inj,?_,h.below.trans (hb.mono h.below.size),h.size,?_⟩
 · rcases hc with hc|hc
   · exact (h.own hr).2.1 hc
   · have:=(h.own hr).1;omega
 · rintro b (hc|hc)
   · exact Nat.lt_of_lt_of_le (h.fsub b hc) hb.size
   · exact hc.2
 · rintro b (hc|hc)
   · exact h.fold b hc
   · exact .inl (Nat.le_trans h.below.size hc.1)
def toVs (T:Tab):List TypeId→List E→Option (List V)
 | [],[]=>some []
 | t::ts,e::es=>match toV T t e,toVs T ts es with
   | some v,some vs=>some (v::vs)
   | _,_=>none
 | _,_=>none
def scopeK (K:Exit→St→Prop) (ex:Exit) (σ:St):Prop:=(∀ l,ex≠.goto l)∧K ex σ
theorem J16 {K:Exit→St→Prop} (h:K .normal σ):scopeK K .normal σ:=⟨fun _ h=>(by cases h),h⟩
theorem J17 {K:Exit→St→Prop} {i:Nat} (h:K (.exit i) σ):scopeK K (.exit i) σ:=⟨fun _ h=>(by cases h),h⟩
theorem J18 {K:Exit→St→Prop} (h:K .ret σ):scopeK K .ret σ:=⟨fun _ h=>(by cases h),h⟩
theorem J15 {c:Code} {K:Exit→St→Prop} (h:SA P T c (scopeK K) σ):SA P T (.scope c) K σ:=by
 intro w0 w F ρ a outs hd hR
 refine wp_scope_straight (wp_mono (h w0 w F ρ a outs hd hR) ?_)
 rintro ex a' w' ⟨σ',F',ρ',⟨hn,hK⟩,hd',hR'⟩
 cases ex<;>first|exact absurd rfl (hn _)|exact ⟨σ',F',ρ',hK,hd',hR'⟩
theorem J19 {l:Nat} {K:Exit→St→Prop} (h:K .normal σ):SA P T (.label l) K σ:=fun _ _ _ _ _ _ hd hR=>wp_label ⟨σ,_,_,h,hd,hR⟩
end Go.Eng
namespace Go.Eng
open Go.RowKit
variable {P:Program} {T:Tab} {w w':World} {w0:Base T} {F F':Nat→Prop} {ρ ρ':Nat→RI} {σ σ':St} {a:Act} {outs:List (Array Value)}
end Go.Eng
namespace Go.Eng
open Go.RowKit
variable {P:Program} {T:Tab} {w w':World} {w0:Base T} {F F':Nat→Prop} {ρ ρ':Nat→RI} {σ σ':St} {a:Act} {outs:List (Array Value)} {ops:Array Oper} {keeps:Nat→Bool}
theorem AnyA.weaken {K:St→Prop} {fuel:Nat} {listed:Array Bool} (hl:St.le T σ σ') (h:AnyA P T ops keeps K fuel listed σ'):AnyA P T ops keeps K fuel listed σ:=by
 intro w0 w F ρ a outs hd hR
 obtain ⟨F',ρ',hR'⟩:=hl _ _ _ _ _ _ hR
 exact h w0 w F' ρ' a outs hd hR'
theorem St.le.ownVar (i:Nat) {t e:TypeId} (ho:σ.ob[i]?=some (.var t .nilsl)):St.le T σ { σ with ob:=σ.ob.set i (.var t (.sl σ.ob.length e 0 0 false))++[.row e []] }:=by
 intro w F ρ w0 tmps outs h
 have hi:i<σ.ob.length:=(List.getElem?_eq_some_iff.1 ho).1
 have hadd:=h.add (r:=.row e (.slice none 0 0)) (o:=.row e []) (fun b hb=>by simp [RI.block,Value.ownBlock] at hb) ⟨rfl,fun b hb=>by simp [Value.ownBlock] at hb,[],World.ownsRow_nil _ _ _ _,.nil⟩
 refine ⟨F,_,hadd.tm,hadd.out,?_,?_,hadd.inj,hadd.fsub,hadd.below,hadd.size,hadd.fold⟩
 · intro j o hj
   by_cases hji:j=i
   · subst hji
     have hj':o=.var t (.sl σ.ob.length e 0 0 false):=by
      rw [List.getElem?_append_left (by simpa using hi)] at hj
      simp [hi] at hj
      exact hj.symm
     subst hj'
     have h1:=hadd.ob j (.var t .nilsl) (by rw [List.getElem?_append_left hi];exact ho)
     cases hρ:upd ρ σ.ob.length (.row e (.slice none 0 0)) j with
     | none=>rw [hρ] at h1;exact h1.elim
     | row _ _=>rw [hρ] at h1;exact h1.elim
     | var b t' =>
       rw [hρ] at h1
       obtain ⟨⟨q1,q2,q3⟩,q4,q5,cs,ct,v,q6,q7,q8,q9⟩:=h1
       refine ⟨⟨q1,q2,fun u x hx=>by cases hx⟩,q4,q5,cs,ct,v,q6,?_,q8,q9⟩
       have hv:v=.slice none 0 0:=q7
       unfold ERel
       rw [upd_self]
       exact .inl ⟨rfl,hv,rfl,rfl⟩
   · refine hadd.ob j o ?_
     by_cases hjl:j<σ.ob.length
     · rw [List.getElem?_append_left (by simpa using hjl),List.getElem?_set_ne (Ne.symm hji)] at hj
       rw [List.getElem?_append_left hjl];exact hj
     · rw [List.getElem?_append_right (by simp;omega)] at hj
       rw [List.getElem?_append_right (by omega)]
       simpa using hj
 · intro j hj
   refine hadd.free j ?_
   simp at hj ⊢
   omega
theorem Rel.frz_aux (hS:T.Sized) {i:Nat} {v:V} {l:List V} (hi:i<σ.ob.length) {tmps:Array Value} (h:Rel T w F ρ w0 σ tmps outs) (hz:Frozen T w (fun b=>F b∨(ρ i).block=some b) v l (ρ i)) :
 Rel T w (fun b=>F b∨(ρ i).block=some b) (upd ρ i .none) w0 (σ.frz i v l) tmps outs:=by
 have hF:∀ b,F b→F b∨(ρ i).block=some b:=fun _ h=>.inl h
 refine ⟨h.tm.frozen hS hF hz,h.out.frozen hS hF hz,?_,?_,?_,?_,h.below,h.size,fun b hb=>hb.elim (h.fold b) fun hb=>.inl (h.own hb).2.2⟩
 · intro j o' hj
   by_cases hji:j=i
   · subst hji
     simp [St.frz,hi] at hj
     subst hj
     rw [upd_self]
     rfl
   · simp only [St.frz,List.getElem?_set_ne (Ne.symm hji),List.getElem?_map] at hj
     cases hoj:σ.ob[j]? with
     | none=>rw [hoj] at hj;cases hj
     | some oj =>
       rw [hoj] at hj
       simp at hj
       subst hj
       rw [upd_ne ρ _ hji]
       have h1:=h.ob j oj hoj
       have hn:∀ b,(ρ j).block=some b→¬ (F b∨(ρ i).block=some b):=fun b hb hc=>hc.elim (h.own hb).2.1 (fun hc=>hji (h.inj j i b hb hc))
       cases oj with
       | dead=>cases hρ:ρ j<;>rw [hρ] at h1<;>exact h1
       | row e m =>
         cases hρ:ρ j with
         | none=>rw [hρ] at h1;exact h1.elim
         | var _ _=>rw [hρ] at h1;exact h1.elim
         | row e' r =>
           rw [hρ] at h1 hn
           obtain ⟨q1,q2,xs,q3,q4⟩:=h1
           exact ⟨q1,fun b hb=>hn b hb,xs,q3,q4.mono hF (fun _ _=>rfl)⟩
       | erow e m =>
         cases hρ:ρ j with
         | none=>rw [hρ] at h1;exact h1.elim
         | var _ _=>rw [hρ] at h1;exact h1.elim
         | row e' r =>
           rw [hρ] at h1 hn
           obtain ⟨q1,q2,q0,xs,q3,q4,q5⟩:=h1
           exact ⟨q1,fun b hb=>hn b hb,q0,xs,by rw [frzL_length];exact q3,q4.frozen hS hF hz,q5⟩
       | var t e =>
         cases hρ:ρ j with
         | none=>rw [hρ] at h1;exact h1.elim
         | row _ _=>rw [hρ] at h1;exact h1.elim
         | var b t' =>
           rw [hρ] at h1 hn
           obtain ⟨⟨q1,q2,q3⟩,q4,q5,cs,ct,x,q6,q7,q8⟩:=h1
           exact ⟨⟨q1,q2,fun u x hx=>q3 u x (frz_data hx)⟩,q4,hn b rfl,cs,ct,x,q6,q7.frozen hS hF hz,q8⟩
 · intro j hj
   simp [St.frz] at hj
   rw [upd_ne ρ _ (by omega)]
   exact h.free j (by simp;omega)
 · intro p q b hp hq
   unfold upd at hp hq
   split at hp<;>split at hq
   · omega
   · simp [RI.block] at hp
   · simp [RI.block] at hq
   · exact h.inj p q b hp hq
 · rintro b (hb|hb)
   · exact h.fsub b hb
   · exact (h.own hb).1
theorem Rel.frzRow (hS:T.Sized) {i:Nat} {e:TypeId} {l:List V} (ho:σ.ob[i]?=some (.row e l)) {tmps:Array Value} (h:Rel T w F ρ w0 σ tmps outs):Frozen T w (fun b=>F b∨(ρ i).block=some b) default l (ρ i):=by
 have h1:=h.ob i _ ho
 cases hρ:ρ i with
 | none=>rw [hρ] at h1;exact h1.elim
 | var _ _=>rw [hρ] at h1;exact h1.elim
 | row e' r =>
   rw [hρ] at h1
   obtain ⟨rfl,q2,xs,q3,q4⟩:=h1
   intro b n cap hr
   subst hr
   refine ⟨.inr rfl,?_⟩
   rcases q3.2 with ⟨q,_⟩|⟨b',cap',cur,hr,hb,hh,hn',hc',hs',htk⟩
   · cases q
   · cases hr
     refine ⟨rfl,xs,?_,q4.mono (fun _ x=>.inl x) (fun _ _=>rfl)⟩
     have:=seg_of_cells (w:=w) hh 0 (l.length*T.sz e')
     rwa [List.drop_zero,htk] at this
theorem CallE.frzRow (hS:T.Sized) {i:Nat} {e:TypeId} {l:List V} (ho:σ.ob[i]?=some (.row e l)) {f:FuncId} {es:List E} {K:St→E→Prop} (h:CallE P T (σ.frz i default l) f (E.frzL i default l es) K):CallE P T σ f es K:=by
 obtain ⟨hE,h⟩:=h
 refine ⟨hE,?_⟩
 intro w0 w F ρ tmps outs xs hR hx
 have hz:=hR.frzRow hS ho
 exact h w0 w _ _ tmps outs xs (hR.frz_aux hS (List.getElem?_eq_some_iff.1 ho).1 hz) (ERelL.frozen hS (fun _ h=>.inl h) hz hx)
end Go.Eng
namespace Go.Eng
open Go.RowKit
variable {P:Program} {T:Tab} {w w':World} {w0:Base T} {F F':Nat→Prop} {ρ ρ':Nat→RI} {σ σ':St} {a:Act} {outs:List (Array Value)} {ops:Array Oper} {keeps:Nat→Bool}
def opsW (P:Program) (T:Tab):List SOp→(St→Prop)→St→Prop
 | [],K,σ=>K σ
 | o::rest,K,σ=>∃ τ,St.le T σ τ∧guardA o τ (opG P T o (opsW P T rest K) τ)
theorem opsW_sound (hP:TabOk P T) {ops:Array Oper} (hg:guardsOk ops=true) {Q:Exit→Act→World→Prop} {K:St→Prop} (hQ:∀ a' w',After T w0 outs K a' w'→Q .normal a' w') :
 ∀ (l:List Oper) (k:Nat),ops.toList.drop k=l→∀ {σ:St} {a:Act} {w:World} {F:Nat→Prop} {ρ:Nat→RI},Rel T w F ρ w0 σ a.tmps outs→a.defers=[]→opsW P T (l.map (strip ops)) K σ →
   wpOps P ops Q (List.range' k l.length) a w
 | [],k,_,σ,a,w,F,ρ,hR,hd,h=>hQ a w ⟨σ,F,ρ,h,hd,hR⟩
 | o::l,k,hk,σ,a,w,F,ρ,hR,hd,h=>by
   have ho:ops[k]?=some o:=by
    have:(ops.toList.drop k)[0]?=some o:=by rw [hk];rfl
    simpa using this
   have hk':ops.toList.drop (k+1)=l:=by
    have:=congrArg List.tail hk
    simpa using this
   simp only [List.length_cons,List.range'_succ,wpOps,ho]
   simp only [List.map_cons] at h
   unfold opsW at h
   obtain ⟨τ,hle,h⟩:=h
   obtain ⟨F1,ρ1,hR⟩:=hle _ _ _ _ _ _ hR
   have hgo:=List.all_eq_true.1 hg o (by rw [← List.take_append_drop k ops.toList,hk];simp)
   obtain ⟨g,h,hw⟩:=guardA_sound hR hgo h
   have:=opG_sound (Q:=Q) hP hR hd (N:=wpOps P ops Q (List.range' (k+1) l.length)) (fun a' w' ⟨σ',F',ρ',q1,q2,q3⟩=>opsW_sound hP hg hQ l (k+1) hk' q3 q2 q1) h
   rw [hw]
   cases g with
   | true=>exact .inl this
   | false=>exact this
theorem SA.regionW {id:Nat} {ops:Array Oper} (hP:TabOk P T) (hg:guardsOk ops=true) (lv:List Nat) {K:Exit→St→Prop} (h:∀ R:St→Prop,(∀ σ',K .normal (σ'.keep lv)→R σ')→opsW P T (ops.toList.map (strip ops)) R σ):SA P T (.region id ops false) K σ:=by
 intro w0 w F ρ a outs hd hR
 refine wp_region ?_
 rw [List.range_eq_range']
 have:=h (fun σ'=>K .normal (σ'.keep lv)) (fun _ x=>x)
 refine opsW_sound (outs:=outs) hP hg ?_ ops.toList 0 rfl hR hd this
 rintro a' w' ⟨σ',F',ρ',hK,hd',hR'⟩
 exact ⟨_,F',ρ',hK,hd',hR'.keep lv⟩
theorem opsW_cons {o:SOp} {rest:List SOp} {K:St→Prop} {σ τ:St} (hl:St.le T σ τ) (h:∀ R:St→Prop,(∀ σ',opsW P T rest K σ'→R σ')→guardA o τ (opG P T o R τ)):opsW P T (o::rest) K σ:=⟨τ,hl,h _ fun _ x=>x⟩
end Go.Eng
namespace Go.Eng
open Go.RowKit
variable {P:Program} {T:Tab} {w w':World} {w0:Base T} {F F':Nat→Prop} {ρ ρ':Nat→RI} {σ σ':St} {a:Act} {outs:List (Array Value)} {ops:Array Oper}
def lvOf (L:List (Nat × List Nat)) (id:Nat):List Nat:=(L.lookup id).getD []
def SARA (P:Program) (T:Tab) (ph:Bool) (id j:Nat) (l:List SOp) (K:St→Prop) (σ:St):Prop:=opsA P T l K σ
def SARQ (P:Program) (T:Tab) (ph:Bool) (id j:Nat) (l:List SOp) (K:St→Prop) (σ:St):Prop:=opsQ P T l K σ
theorem SARA.at {ph:Bool} (id j:Nat) {l:List SOp} {K:St→Prop} (h:SARA P T ph id j l K σ):SARA P T ph id j l K σ:=h
theorem SARQ.at {ph:Bool} (id j:Nat) {l:List SOp} {K:St→Prop} (h:SARQ P T ph id j l K σ):SARQ P T ph id j l K σ:=h
theorem SARA.told (id j:Nat) {l:List SOp} {K:St→Prop} (h:SARA P T false id j l K σ):SARA P T true id j l K σ:=h
theorem SARQ.told (id j:Nat) {l:List SOp} {K:St→Prop} (h:SARQ P T false id j l K σ):SARQ P T true id j l K σ:=h
theorem SARA.do {ph:Bool} {id j:Nat} {o:SOp} {rest:List SOp} {K:St→Prop} (h:∀ R:St→Prop,(∀ σ',SARA P T true id (j+1) rest K σ'→R σ')→guardA o σ (opG P T o R σ)):SARA P T ph id j (o::rest) K σ:=h _ fun _ x=>x
theorem SARQ.do {ph:Bool} {id j:Nat} {o:SOp} {rest:List SOp} {K:St→Prop} (h:∀ R:St→Prop,(∀ σ',SARQ P T true id (j+1) rest K σ'→R σ')→guardA o σ (opQ P T o R σ)):SARQ P T ph id j (o::rest) K σ:=h _ fun _ x=>x
theorem SARA.nil {ph:Bool} {id j:Nat} {K:St→Prop} (h:K σ):SARA P T ph id j [] K σ:=h
theorem SARQ.nil {ph:Bool} {id j:Nat} {K:St→Prop} (h:K σ):SARQ P T ph id j [] K σ:=h
theorem SA.at (id:Nat) {ops:Array Oper} {d:Bool} {K:Exit→St→Prop} (h:SA P T (.region id ops d) K σ):SA P T (.region id ops d) K σ:=h
theorem J21 {id:Nat} {ops:Array Oper} (hP:TabOk P T) (hg:guardsOk ops=true) (L:List (Nat × List Nat)) {K:Exit→St→Prop} (h:∀ R:St→Prop,(∀ σ',K .normal (σ'.keep (lvOf L id))→R σ')→SARA P T true id 0 (ops.toList.map (strip ops)) R σ):SA P T (.region id ops false) K σ:=SA.region hP hg _ h
theorem SA.regionD {id:Nat} {ops:Array Oper} (hP:TabOk P T) (hm:P.follows .mixedOrders=true) (hB:Region.lexB .any ops=true) (hg:guardsOk ops=true) (L:List (Nat × List Nat)) {K:Exit→St→Prop}
 (h:∀ R:St→Prop,(∀ σ',K .normal (σ'.keep (lvOf L id))→R σ')→SARQ P T true id 0 (ops.toList.map (strip ops)) R σ):SA P T (.region id ops true) K σ:=SA.regionQ hP hm hB hg _ h
theorem J20 (t:Nat) {b:Bool} {x y:Code} {K:Exit→St→Prop} (hb:σ.tm.lookup t=some (true,.bool b)) (ht:b=true→SA P T x K σ) (hf:b=false→SA P T y K σ):SA P T (.cond (.tmp t) x y) K σ:=SA.cond hb ht hf
theorem loopK.round {I:Nat→St→Prop} {n:Nat} {K:Exit→St→Prop} (h:loopK T I n K .normal σ):loopK T I n K .normal σ:=h
theorem SA.atLoop {c:Code} {K:Exit→St→Prop} (h:SA P T (.loop c) K σ):SA P T (.loop c) K σ:=h
end Go.Eng
namespace Go.Eng
open Go.RowKit
variable {P:Program} {T:Tab} {w w':World} {w0:Base T} {F F':Nat→Prop} {ρ ρ':Nat→RI} {σ σ' τ:St} {a:Act} {outs:List (Array Value)} {ops:Array Oper}
def SARW (P:Program) (T:Tab) (ph:Bool) (id j:Nat) (l:List SOp) (K:St→Prop) (σ:St):Prop:=opsW P T l K σ
theorem SARW.told (id j:Nat) {l:List SOp} {K:St→Prop} (h:SARW P T false id j l K σ):SARW P T true id j l K σ:=h
theorem SARW.at {ph:Bool} (id j:Nat) {l:List SOp} {K:St→Prop} (h:SARW P T ph id j l K σ):SARW P T ph id j l K σ:=h
theorem SARW.do {ph:Bool} {id j:Nat} {o:SOp} {rest:List SOp} {K:St→Prop} (h:∀ R:St→Prop,(∀ σ',SARW P T true id (j+1) rest K σ'→R σ')→guardA o σ (opG P T o R σ)):SARW P T ph id j (o::rest) K σ:=opsW_cons St.le.refl h
theorem SARW.nil {ph:Bool} {id j:Nat} {K:St→Prop} (h:K σ):SARW P T ph id j [] K σ:=h
theorem SARW.weak {ph:Bool} {id j:Nat} {o:SOp} {rest:List SOp} {K:St→Prop} (hl:St.le T σ τ) (h:SARW P T ph id j (o::rest) K τ):SARW P T ph id j (o::rest) K σ:=by
 obtain ⟨τ',l,g⟩:=h
 exact ⟨τ',hl.trans l,g⟩
theorem SA.regionWN {id:Nat} {ops:Array Oper} (hP:TabOk P T) (hg:guardsOk ops=true) (L:List (Nat × List Nat)) {K:Exit→St→Prop} (h:∀ R:St→Prop,(∀ σ',K .normal (σ'.keep (lvOf L id))→R σ')→SARW P T true id 0 (ops.toList.map (strip ops)) R σ):SA P T (.region id ops false) K σ:=SA.regionW hP hg _ h
end Go.Eng
namespace Go.Eng
open Go.RowKit
variable {P:Program} {T:Tab} {w w':World} {w0:Base T} {F F':Nat→Prop} {ρ ρ':Nat→RI} {σ σ' τ:St} {a:Act} {outs:List (Array Value)} {ops:Array Oper} {keeps:Nat→Bool}
inductive Plan where
 | done
 | take (i:Nat) (n:Plan)
 | nil
 | br (i:Nat) (n r:Plan)
def Plan.heads:Plan→List Nat
 | .br i _ r=>i::r.heads
 | _=>[]
def planOk (ops:Array Oper) (keeps:Nat→Bool):Bool→Plan→Nat→Array Bool→Bool
 | true,.done,_,L=>(Region.ready .any ops L).isEmpty
 | true,.take i n,f+1,L=>freeB ops keeps L i&&(Region.ready .any ops L).contains i&&planOk ops keeps true n f (L.setIfInBounds i true)
 | true,.br i n r,f+1,L=>(Region.ready .any ops L == i::r.heads)&&planOk ops keeps true n f (L.setIfInBounds i true)&&planOk ops keeps false r f L
 | false,.nil,_,_=>true
 | false,.br i n r,f,L=>planOk ops keeps true n f (L.setIfInBounds i true)&&planOk ops keeps false r f L
 | _,_,_,_=>false
def PlanA (P:Program) (T:Tab) (so:List SOp) (keeps:Nat→Bool) (K:St→Prop):Plan→St→Prop
 | .done,σ=>K σ
 | .take i n,σ=>∃ o,so[i]?=some o∧∀ R:St→Prop,(∀ σ',(∃ τ,St.le T σ' τ∧PlanA P T so keeps K n τ)→R σ')→guardA o σ fun g=>pureA T σ g o.op (putK σ o.dst g R)
 | .nil,_=>True
 | .br i n r,σ=>(∃ o,so[i]?=some o∧∀ R:St→Prop,(∀ σ',(∃ τ,St.le T σ' τ∧PlanA P T so keeps K n τ)→R σ')→guardA o σ (if keeps i then opB P T o R σ else opG P T o R σ))∧PlanA P T so keeps K r σ
theorem plan_sound (hP:TabOk P T) (hg:guardsOk ops=true) (hs:Region.noSelect ops=true) {K:St→Prop}:∀ (pl:Plan) (f:Nat) (L:Array Bool) (σ:St),PlanA P T (ops.toList.map (strip ops)) keeps K pl σ →
 (planOk ops keeps true pl f L=true→AnyA P T ops keeps K f L σ)∧(planOk ops keeps false pl f L=true→Branches P T ops keeps K f L σ pl.heads)
 | .done,f,L,σ,h=>by
   refine ⟨fun hk=>AnyA.done ?_ h,fun hk=>?_⟩
   · simpa [planOk] using hk
   · simp [planOk] at hk
 | .take i n,f,L,σ,⟨o,ho,h⟩=>by
   have hso:(ops[i]?).map (strip ops)=some o:=by simpa using ho
   refine ⟨fun hk=>?_,fun hk=>?_⟩
   · cases f with
     | zero=>simp [planOk] at hk
     | succ f =>
       simp only [planOk,Bool.and_eq_true] at hk
       exact AnyA.take hP i o hso hg hs hk.1.1 hk.1.2 _ rfl fun R hR=>h R fun σ' ⟨τ,hl,hp⟩=>hR σ' (AnyA.weaken hl ((plan_sound hP hg hs n f _ τ hp).1 hk.2))
   · cases f<;>simp [planOk] at hk
 | .nil,f,L,σ,h=>by
   refine ⟨fun hk=>?_,fun _=>Branches.nil⟩
   cases f<;>simp [planOk] at hk
 | .br i n r,f,L,σ,⟨⟨o,ho,h⟩,hr⟩=>by
   have hso:(ops[i]?).map (strip ops)=some o:=by simpa using ho
   have one:∀ f,planOk ops keeps true n f (L.setIfInBounds i true)=true→planOk ops keeps false r f L=true→Branches P T ops keeps K f L σ (i::r.heads):=by
    intro f h1 h2
    cases hk:keeps i with
    | true =>
      simp only [hk,if_true] at h
      exact Branches.keep o hso hk _ rfl (fun R hR=>h R fun σ' ⟨τ,hl,hp⟩=>hR σ' (AnyA.weaken hl ((plan_sound hP hg hs n f _ τ hp).1 h1))) ((plan_sound hP hg hs r f L σ hr).2 h2)
    | false =>
      simp only [hk,Bool.false_eq_true,if_false] at h
      exact Branches.any o hso hk _ rfl (fun R hR=>h R fun σ' ⟨τ,hl,hp⟩=>hR σ' (AnyA.weaken hl ((plan_sound hP hg hs n f _ τ hp).1 h1))) ((plan_sound hP hg hs r f L σ hr).2 h2)
   refine ⟨fun hk=>?_,fun hk=>?_⟩
   · cases f with
     | zero=>simp [planOk] at hk
     | succ f =>
       simp only [planOk,Bool.and_eq_true,beq_iff_eq] at hk
       exact AnyA.all hP hg hk.1.1 rfl (one f hk.1.2 hk.2)
   · simp only [planOk,Bool.and_eq_true] at hk
     exact one f hk.1 hk.2
def SART (P:Program) (T:Tab) (ph:Bool) (id last:Nat) (so:List SOp) (wr:List Nat) (K:St→Prop) (pl:Plan) (σ:St):Prop:=∃ τ,St.le T σ τ∧PlanA P T so (but wr) K pl τ
def SARB (P:Program) (T:Tab) (id:Nat) (so:List SOp) (wr:List Nat) (K:St→Prop) (i:Nat) (n:Plan) (σ:St):Prop :=
 ∃ o,so[i]?=some o∧∀ R:St→Prop,(∀ σ',(∃ τ,St.le T σ' τ∧PlanA P T so (but wr) K n τ)→R σ')→guardA o σ (if but wr i then opB P T o R σ else opG P T o R σ)
variable {ph:Bool} {id last:Nat} {so:List SOp} {wr:List Nat} {K:St→Prop} {o:SOp} {i:Nat} {n r pl:Plan}
theorem SART.told (id last:Nat) (h:SART P T false id last so wr K pl σ):SART P T true id last so wr K pl σ:=h
theorem SART.at (id last:Nat) (h:SART P T ph id last so wr K pl σ):SART P T ph id last so wr K pl σ:=h
theorem SART.weaken (hl:St.le T σ τ) (h:SART P T ph id last so wr K pl τ):SART P T ph id last so wr K pl σ:=let ⟨τ',l,h⟩:=h;⟨τ',hl.trans l,h⟩
theorem SART.do (h:∀ R:St→Prop,(∀ σ',SART P T true id i so wr K n σ'→R σ')→guardA o σ fun g=>pureA T σ g o.op (putK σ o.dst g R)) (ho:so[i]?=some o:=by with_unfolding_all rfl):SART P T ph id last so wr K (.take i n) σ:=⟨σ,.refl,o,ho,h⟩
theorem SART.nil:SART P T ph id last so wr K .nil σ:=⟨σ,.refl,trivial⟩
theorem SART.done (h:K σ):SART P T ph id last so wr K .done σ:=⟨σ,.refl,h⟩
theorem SART.doneAt (id:Nat) (h:K σ):SART P T ph id last so wr K .done σ:=⟨σ,.refl,h⟩
def SARL (P:Program) (T:Tab) (id:Nat) (so:List SOp) (wr:List Nat) (K:St→Prop) (pl:Plan) (σ:St):Prop:=PlanA P T so (but wr) K pl σ
theorem SART.br (h1:SARB P T id so wr K i n σ) (h2:SARL P T id so wr K r σ):SART P T ph id last so wr K (.br i n r) σ:=⟨σ,.refl,h1,h2⟩
theorem SARL.cons (h1:SARB P T id so wr K i n σ) (h2:SARL P T id so wr K r σ):SARL P T id so wr K (.br i n r) σ:=⟨h1,h2⟩
theorem SARL.nil:SARL P T id so wr K .nil σ:=trivial
theorem SARB.keep (h:∀ R:St→Prop,(∀ σ',SART P T true id i so wr K n σ'→R σ')→guardA o σ (opB P T o R σ)) (ho:so[i]?=some o:=by with_unfolding_all rfl) (hk:but wr i=true:=by with_unfolding_all rfl):SARB P T id so wr K i n σ :=
 ⟨o,ho,by simp only [hk,if_true];exact h⟩
theorem SARB.any (h:∀ R:St→Prop,(∀ σ',SART P T true id i so wr K n σ'→R σ')→guardA o σ (opG P T o R σ)) (ho:so[i]?=some o:=by with_unfolding_all rfl) (hk:but wr i=false:=by with_unfolding_all rfl):SARB P T id so wr K i n σ :=
 ⟨o,ho,by simp only [hk,Bool.false_eq_true,if_false];exact h⟩
theorem SA.regionT {ops:Array Oper} (hP:TabOk P T) (hm:P.follows .mixedOrders=true) (pl:Plan) (wr:List Nat) (L:List (Nat × List Nat)) (hg:(guardsOk ops&&Region.noSelect ops&&planOk ops (but wr) true pl ops.size (Array.replicate ops.size false))=true) {K:Exit→St→Prop}
 (h:∀ R:St→Prop,(∀ σ',K .normal (σ'.keep (lvOf L id))→R σ')→SART P T true id ops.size (ops.toList.map (strip ops)) wr R pl σ):SA P T (.region id ops true) K σ:=by
 simp only [Bool.and_eq_true] at hg
 refine SA.regionAny hm ops.size rfl _ rfl wr (lvOf L id) fun R hR=>?_
 obtain ⟨τ,hl,hp⟩:=h R hR
 exact AnyA.weaken hl ((plan_sound hP hg.1.1 hg.1.2 pl _ _ τ hp).1 hg.2)
theorem SA.regionTP {ops:Array Oper} (hP:TabOk P T) (hm:P.follows .mixedOrders=true) (pl:Plan) (wr:List Nat) (L:List (Nat × List Nat)) (hg:(guardsOk ops&&Region.noSelect ops&&planOk ops (but wr) true pl ops.size (Array.replicate ops.size false))=true) {K:Exit→St→Prop} (τ:St)
 (h:∀ R:St→Prop,(∀ σ',St.le T (σ'.keep (lvOf L id)) τ→R σ')→SART P T true id ops.size (ops.toList.map (strip ops)) wr R pl σ) (hK:K .normal τ):SA P T (.region id ops true) K σ:=by
 simp only [Bool.and_eq_true] at hg
 refine SA.regionAnyPost hm ops.size rfl _ rfl wr (lvOf L id) τ (fun R hR=>?_) hK
 obtain ⟨τ',hl,hp⟩:=h R hR
 exact AnyA.weaken hl ((plan_sound hP hg.1.1 hg.1.2 pl _ _ τ' hp).1 hg.2)
end Go.Eng
namespace Go.Eng
open Go.RowKit
variable {P:Program} {T:Tab} {w:World} {H:Type} {enc:TypeId × Value→H} {spare:Nat→Bool} {held:Bool}
end Go.Eng
