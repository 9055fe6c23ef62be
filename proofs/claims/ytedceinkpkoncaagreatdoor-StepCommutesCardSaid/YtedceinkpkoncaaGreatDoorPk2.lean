/- A part of the proof: walks through the program's functions, and what they compute. -/
import Derived.Test.YtedceinkpkoncaaGreatDoorPk1
set_option linter.unusedSimpArgs false
set_option linter.unusedVariables false
namespace Go.Eng
open Go.RowKit
structure TabOk (P:Program) (T:Tab):Prop where
 sized:T.Sized
 int:∀ t k,T.ty t=.int k→P.underlying t=some (.int k)
 bool:∀ t,T.ty t=.bool→P.underlying t=some .bool
 str:∀ t,T.ty t=.str→P.underlying t=some .string
 struct:∀ t ts,T.ty t=.struct ts→∃ fs:Array Field,P.underlying t=some (.struct fs)∧fs.toList.map (·.type)=ts∧P.stoodInHeld t=false ∧
  ∀ (k : Nat) (f : Field), fs[k]? = some f → f.offset = T.offs ts k ∧ 0 < T.sz f.type ∧ (f.name == "_") = false ∧ T.ty f.type ≠ .other
 arr:∀ t n e,T.ty t=.arr n e→P.underlying t=some (.array n e)∧1<n∧0<T.sz e∧T.ty e≠.other
 slice:∀ t e,T.ty t=.slice e→P.underlying t=some (.slice e)∧T.ty e≠.other
 ptr:∀ t e,T.ty t=.ptr e→P.underlying t=some (.pointer e)∧T.ty e≠.other
 fn:∀ t,T.ty t=.fn→∃ a b c,P.underlying t=some (.func a b c)
 guard:∀ t,(T.ty t).isAgg=true→P.eqGuardType P.depth t=false
 info:∀ t,T.ty t≠.other→∃ i,P.info? t=some i∧i.size=T.sz t∧i.bytes=T.by_ t ∧
  ∃ z,i.zero=some z∧z.cells.size=T.sz t∧(∀ c∈z.cells,c.oneCell'=true)∧(if (T.ty t).isAgg then z=.agg z.cells else z.oneCell'=true) ∧
    (T.ty t≠.fn→(∀ e,T.ty t≠.ptr e)→∀ w F,Fits T w F t (T.zero t) z.cells.toList)∧(T.ty t=.fn→z=.nilFunc)∧(∀ e,T.ty t=.slice e→z=.slice none 0 0) ∧
    (∀ ts,T.ty t=.struct ts→∀ k u e,ts[k]?=some u→T.ty u=.slice e→z.cells.toList[T.offs ts k]?=some (.slice none 0 0))
variable {P:Program} {T:Tab} {w w':World} {w0:Base T} {F:Nat→Prop} {ρ:Nat→RI}
def ValOf (T:Tab) (t:TypeId) (x:Value) (cs:List Value):Prop:=if (T.ty t).isAgg then x=.agg cs.toArray else cs=[x]
def capsE:List TypeId→List V→List E
 | t::ts,v::vs=>.fptr t v::capsE ts vs
 | _,_=>[]
def capsV:List E→Option (List TypeId × List V)
 | []=>some ([],[])
 | .fptr t v::es=>match capsV es with
   | some (ts,vs)=>some (t::ts,v::vs)
   | none=>none
 | _=>none
theorem capsE_rel:∀ {ts:List TypeId} {l:List V} {cs:List Value},FitsP T w F ts l cs→ERelL T w F ρ (capsE ts l) cs
 | _,_,_,.nil=>trivial
 | _,_,_,.cons h1 h2 h3 h4=>⟨⟨_,_,_,rfl,h1,h2,h3⟩,capsE_rel h4⟩
theorem capsV_fits:∀ {es:List E} {ts:List TypeId} {l:List V} {cs:List Value},capsV es=some (ts,l)→ERelL T w F ρ es cs→FitsP T w F ts l cs
 | [],ts,l,[],h,_=>by simp [capsV] at h;obtain ⟨rfl,rfl⟩:=h;exact .nil
 | [],_,_,_::_,_,h=>h.elim
 | e::es,ts,l,[],_,h=>h.elim
 | e::es,ts,l,x::xs,h,⟨h1,h2⟩=>by
   cases e<;>simp only [capsV] at h<;>try (cases h;done)
   rename_i t v
   split at h
   · rename_i ts' vs' he
     simp at h
     obtain ⟨rfl,rfl⟩:=h
     obtain ⟨b,off,ds,rfl,k1,k2,k3⟩:=h1
     exact .cons k1 k2 k3 (capsV_fits he h2)
   · cases h
def fromV (T:Tab) (t:TypeId) (v:V):E:=match T.ty t with
 | .int k=>.int k v.toInt
 | .bool=>.bool v.toBool
 | .str=>.str v.toStr
 | .struct _|.arr _ _=>.data t v
 | .slice e=>.fs e v.toList false
 | .ptr e=>.fptr e v.deref
 | .fn=>match v with
   | .clo f ts l=>.fn f (capsE ts l)
   | _=>.fn 0 []
 | _=>.undef
theorem fromV_rel {t:TypeId} {v:V} {x:Value} {cs:List Value} (h:Fits T w F t v cs) (hx:ValOf T t x cs):ERel T w F ρ (fromV T t v) x:=by
 unfold fromV
 unfold ValOf at hx
 split
 · rename_i k hk
   obtain ⟨n,rfl,hn,rfl⟩:=h.inv' hk
   simp [hk,TyD.isAgg] at hx
   exact ⟨hx.symm,hn⟩
 · rename_i hk
   obtain ⟨b,rfl,rfl⟩:=h.inv' hk
   simp [hk,TyD.isAgg] at hx
   exact hx.symm
 · rename_i hk
   obtain ⟨s,rfl,rfl⟩:=h.inv' hk
   simp [hk,TyD.isAgg] at hx
   exact hx.symm
 · rename_i ts hk
   simp [hk,TyD.isAgg] at hx
   exact ⟨cs.toArray,hx,by simp [hk,TyD.isAgg],by simpa using h⟩
 · rename_i n e hk
   simp [hk,TyD.isAgg] at hx
   exact ⟨cs.toArray,hx,by simp [hk,TyD.isAgg],by simpa using h⟩
 · rename_i e hk
   simp [hk,TyD.isAgg] at hx
   rcases h.inv' hk with ⟨rfl,ad,c,h2,h3⟩|⟨b,off,n,cap,l,ds,rfl,h2,h3,h4,rfl,h6,h7⟩
   · rw [h2] at hx
     simp at hx
     exact .inl ⟨ad,c,hx.symm,rfl,h3,fun h=>by cases h⟩
   · rw [h2] at hx
     simp at hx
     exact .inr ⟨b,off,cap,ds,hx.symm,h7,by simp,h3,h4,h6⟩
 · rename_i e hk
   simp [hk,TyD.isAgg] at hx
   obtain ⟨b,off,y,ds,rfl,h2,h3,h4,h5⟩:=h.inv' hk
   rw [h2] at hx
   simp at hx
   exact ⟨b,off,ds,hx.symm,h3,h4,h5⟩
 · rename_i hk
   simp [hk,TyD.isAgg] at hx
   obtain ⟨f,ts,l,xs,rfl,h2,h3⟩:=h.inv' hk
   rw [h2] at hx
   simp at hx
   exact ⟨xs,hx.symm,capsE_rel h3⟩
 · trivial
def toV (T:Tab) (t:TypeId):E→Option V
 | .int k n=>if T.ty t=.int k then some (.int n) else none
 | .bool b=>if T.ty t=.bool then some (.bool b) else none
 | .str s=>if T.ty t=.str then some (.str s) else none
 | .data t' v=>if t'=t then some v else none
 | .fs e l _=>if T.ty t=.slice e then some (.list l) else none
 | .nilsl=>match T.ty t with|.slice _=>some (.list [])|_=>none
 | .fptr t' v=>if T.ty t=.ptr t' then some (.ref v) else none
 | .fn f cs=>if T.ty t=.fn then (match capsV cs with
   | some (ts,l)=>some (.clo f ts l)
   | none=>none) else none
 | _=>none
theorem toV_fits {t:TypeId} {e:E} {x:Value} {v:V} (h:ERel T w F ρ e x) (hv:toV T t e=some v):Fits T w F t v x.cells.toList∧ValOf T t x x.cells.toList:=by
 cases e<;>simp only [toV] at hv<;>try (cases hv;done)
 case int k n =>
  split at hv;rotate_left;· cases hv
  rename_i hk
  cases hv
  obtain ⟨rfl,hn⟩:=h
  exact ⟨.int hk hn,by simp [ValOf,hk,TyD.isAgg,Value.cells]⟩
 case bool b =>
  split at hv;rotate_left;· cases hv
  rename_i hk
  cases hv
  obtain rfl:x=_:=h
  exact ⟨.bool hk,by simp [ValOf,hk,TyD.isAgg,Value.cells]⟩
 case str s =>
  split at hv;rotate_left;· cases hv
  rename_i hk
  cases hv
  obtain rfl:x=_:=h
  exact ⟨.str hk,by simp [ValOf,hk,TyD.isAgg,Value.cells]⟩
 case data t' y =>
  split at hv;rotate_left;· cases hv
  rename_i hk
  cases hv
  subst hk
  obtain ⟨cs,rfl,h2,h3⟩:=h
  exact ⟨h3,by simp [ValOf,h2,Value.cells]⟩
 case fs e l c =>
  split at hv;rotate_left;· cases hv
  rename_i hk
  cases hv
  rcases h with ⟨ad,c,rfl,rfl,h1,_⟩|⟨b,off,cap,cs,rfl,h2,_,h3,h4,h5⟩
  · exact ⟨.void hk h1,by simp [ValOf,hk,TyD.isAgg,Value.cells]⟩
  · exact ⟨.slice hk h3 h4 rfl h5 h2,by simp [ValOf,hk,TyD.isAgg,Value.cells]⟩
 case nilsl =>
  split at hv;rotate_left;· cases hv
  rename_i hk
  cases hv
  obtain rfl:x=_:=h
  exact ⟨.nil hk,by simp [ValOf,hk,TyD.isAgg,Value.cells]⟩
 case fptr t' y =>
  split at hv;rotate_left;· cases hv
  rename_i hk
  cases hv
  obtain ⟨b,off,cs,rfl,h2,h3,h4⟩:=h
  exact ⟨.ref hk h2 h3 h4,by simp [ValOf,hk,TyD.isAgg,Value.cells]⟩
 case fn f caps =>
  split at hv;rotate_left;· cases hv
  rename_i hk
  split at hv;rotate_left;· cases hv
  rename_i ts l hcv
  cases hv
  obtain ⟨cs,rfl,h2⟩:=h
  exact ⟨by simpa [Value.cells] using Fits.clo hk (capsV_fits hcv h2),by simp [ValOf,hk,TyD.isAgg,Value.cells]⟩
def constE:Value→Option E
 | .int k n=>if k.min≤n∧n≤k.max then some (.int k n) else none
 | .bool b=>some (.bool b)
 | .string s=>some (.str s)
 | .slice none 0 0=>some .nilsl
 | .nilFunc=>some .nilfn
 | .pointer none=>some .undef
 | _=>none
theorem constE_rel {x:Value} {e:E} (h:constE x=some e):ERel T w F ρ e x:=by
 unfold constE at h
 split at h
 · split at h;rotate_left;· cases h
   rename_i hk
   cases h
   exact ⟨rfl,hk⟩
 all_goals first|(cases h;rfl)|(cases h;trivial)|cases h
def evalO (σ:St) (g:Bool) (x:Operand) (K:E→Prop):Prop:=match x with
 | .tmp t=>match σ.tm.lookup t with
   | some (h,e)=>(g=true→h=true)∧K e
   | none=>False
 | .const v=>match constE v with
   | some e=>K e
   | none=>False
 | .func f=>K (.fn f [])
 | .global _=>False
theorem evalO_sound {σ:St} {a:Act} {outs:List (Array Value)} (hR:Rel T w F ρ w0 σ a.tmps outs) {g:Bool} {x:Operand} {K:E→Prop} (h:evalO σ g x K) :
 ∃ e,K e∧(g=true→ERel T w F ρ e (a.eval x)):=by
 unfold evalO at h
 split at h
 · rename_i t
   split at h
   · rename_i hh e he
     obtain ⟨v,h1,h2,_⟩:=hR.tm _ _ _ he
     refine ⟨e,h.2,fun hg=>?_⟩
     have:a.eval (.tmp t)=v:=by simp [Act.eval,Array.getD_eq_getD_getElem?,h1]
     rw [this]
     exact h2 (h.1 hg)
   · exact h.elim
 · split at h
   · rename_i e he
     exact ⟨e,h,fun _=>constE_rel he⟩
   · exact h.elim
 · exact ⟨_,h,fun _=>⟨[],rfl,trivial⟩⟩
 · exact h.elim
def evalL (σ:St) (g:Bool):List Operand→(List E→Prop)→Prop
 | [],K=>K []
 | x::xs,K=>evalO σ g x fun e=>evalL σ g xs fun es=>K (e::es)
theorem evalL_sound {σ:St} {a:Act} {outs:List (Array Value)} (hR:Rel T w F ρ w0 σ a.tmps outs) {g:Bool}:∀ {xs:List Operand} {K:List E→Prop},evalL σ g xs K →
 ∃ es,K es∧(g=true→ERelL T w F ρ es (xs.map a.eval))
 | [],K,h=>⟨[],h,fun _=>trivial⟩
 | x::xs,K,h=>by
   obtain ⟨e,h1,h2⟩:=evalO_sound hR h
   obtain ⟨es,h3,h4⟩:=evalL_sound hR h1
   exact ⟨e::es,h3,fun hg=>⟨h2 hg,h4 hg⟩⟩
theorem Seg.later {b off:Nat} {cs:List Value} (h:Seg w b off cs) (hb:b<w.heap.size) (hw:Below w.heap.size w w'):Seg w' b off cs:=h.mono (hw.block b hb)
theorem run_isAgg (hP:TabOk P T) {t:TypeId} (ht:T.ty t≠.other) (w:World):(isAgg t).run P w=.ok (T.ty t).isAgg w:=by
 unfold isAgg
 rw [Sem.run_bind]
 cases h:T.ty t with
 | int k=>rw [run_underlying (hP.int _ _ h)];rfl
 | bool=>rw [run_underlying (hP.bool _ h)];rfl
 | str=>rw [run_underlying (hP.str _ h)];rfl
 | struct ts=>obtain ⟨fs,h1,_⟩:=hP.struct _ _ h;rw [run_underlying h1];rfl
 | arr n e=>rw [run_underlying (hP.arr _ _ _ h).1];rfl
 | slice e=>rw [run_underlying (hP.slice _ _ h).1];rfl
 | ptr e=>rw [run_underlying (hP.ptr _ _ h).1];rfl
 | fn=>obtain ⟨a,b,c,h1⟩:=hP.fn _ h;rw [run_underlying h1];rfl
 | other=>exact absurd h ht
theorem run_sizeOf (hP:TabOk P T) {t:TypeId} (ht:T.ty t≠.other) (w:World):(sizeOf t).run P w=.ok (T.sz t) w:=by
 obtain ⟨i,h1,h2,_⟩:=hP.info t ht
 simp [sizeOf,typeInfo,h1,h2]
theorem addr_add (b off j:Nat):(⟨b,off,none⟩:Addr).add j=⟨b,off+j,none⟩:=by unfold Addr.add;split<;>simp_all
theorem run_loadVar_seg (hP:TabOk P T) {t:TypeId} (ht:T.ty t≠.other) {b off:Nat} {cs:List Value} {x:Value} (h:Seg w b off cs) (hl:cs.length=T.sz t) (hx:ValOf T t x cs) :
 (loadVar t ⟨b,off,none⟩).run P w=.ok x w:=by
 unfold loadVar
 rw [Sem.run_bind,run_isAgg hP ht]
 unfold ValOf at hx
 simp only [Result.andThen_ok]
 split
 · rename_i hA
   rw [if_pos hA] at hx
   subst hx
   have:=run_loadCells_list (P:=P) w ⟨b,off,none⟩ cs (fun j v hv=>by rw [addr_add];exact h j v hv)
   rw [hl] at this
   simp [run_sizeOf hP ht,this]
 · rename_i hA
   rw [if_neg hA] at hx
   subst hx
   have:=h 0 x rfl
   simp at this
   simp [this]
theorem Fits.notOther {t:TypeId} {v:V} {cs:List Value} (h:Fits T w F t v cs):T.ty t≠.other:=fun h1=>h.inv' h1
theorem PathOk.notOther {root t:TypeId} {p:List Nat} {off:Nat} (hP:TabOk P T) (h:PathOk T root p off t) (v:V) (cs:List Value) (hv:Fits T w F root v cs):T.ty t≠.other :=
 (h.get hP.sized hv).1.notOther
theorem valOf_take {t:TypeId} {v:V} {ds:List Value} (hS:T.Sized) (h:Fits T w F t v ds):∃ x,ValOf T t x ds:=by
 unfold ValOf
 split
 · exact ⟨_,rfl⟩
 · rename_i hA
   have h1:=h.len hS
   have h2:T.sz t=1:=by
    have h3:=h.inv
    cases hk:T.ty t with
    | int k=>exact hS.int _ _ hk
    | bool=>exact hS.bool _ hk
    | str=>exact hS.str _ hk
    | struct ts=>simp [hk,TyD.isAgg] at hA
    | arr n e=>simp [hk,TyD.isAgg] at hA
    | slice e=>exact (hS.slice _ _ hk).1
    | ptr e=>exact hS.ptr _ _ hk
    | fn=>exact hS.fn _ hk
    | other=>rw [hk] at h3;exact h3.elim
   rw [h2] at h1
   match ds,h1 with
   | [x],_=>exact ⟨x,rfl⟩
theorem seg_of_cells {b:Nat} {cs:Array Value} {ct:TypeId} {fr:Nat × Nat} (h:w.heap[b]?=some (.cells cs ct fr)) (off n:Nat):Seg w b off ((cs.toList.drop off).take n):=by
 intro j x hx
 rw [List.getElem?_take] at hx
 split at hx
 · rw [List.getElem?_drop] at hx
   rw [cell_of_row w b (off+j) cs ct fr h]
   simpa using hx
 · cases hx
theorem seg_all {b:Nat} {cs:Array Value} {ct:TypeId} {fr:Nat × Nat} (h:w.heap[b]?=some (.cells cs ct fr)):Seg w b 0 cs.toList:=by
 have:=seg_of_cells h 0 cs.size
 rwa [List.drop_zero,List.take_of_length_le (by simp)] at this
theorem Holds.valOf {t:TypeId} {v:Value} {cs:Array Value} (h:Holds T t v cs):ValOf T t v cs.toList:=by
 obtain ⟨_,h⟩:=h
 unfold ValOf
 split at h
 · rename_i hA;rw [if_pos hA];simpa using h
 · rename_i hA;rw [if_neg hA,h.1]
end Go.Eng
namespace Go.Eng
open Go.RowKit
variable {P:Program} {T:Tab} {w w':World} {w0:Base T} {F:Nat→Prop} {ρ:Nat→RI}
theorem wrap_has (k:IntKind) (n:Int):k.has (k.wrap n):=by
 have h:=k.bits.pow_le_pow_right
 unfold IntKind.has IntKind.min IntKind.max IntKind.wrap
 cases k<;>simp [IntKind.bits,IntKind.signed]<;>omega
theorem fdiv_has {k:IntKind} {a:Int} (h:k.has a) (n:Nat):k.has (a.fdiv (2^n)):=by
 have hp:(0:Int)<2^n:=Int.pow_pos (by omega)
 have h1:(1:Int)≤2^n:=by omega
 rw [Int.fdiv_eq_ediv_of_nonneg _ (by omega)]
 have key:(0≤a→0≤a / 2^n∧a / 2^n≤a)∧(a<0→a≤a / 2^n∧a / 2^n<0):=by
  refine ⟨fun h0=>⟨Int.ediv_nonneg h0 (by omega),Int.ediv_le_self _ h0⟩,fun h0=>⟨?_,Int.ediv_neg_of_neg_of_pos h0 hp⟩⟩
  rw [Int.le_ediv_iff_mul_le hp]
  have:a*2^n≤a*1:=Int.mul_le_mul_of_nonpos_left (by omega) h1
  omega
 unfold IntKind.has at *
 have hmin:k.min≤0:=by cases k<;>simp [IntKind.min,IntKind.signed,IntKind.bits]
 have hmax:0≤k.max:=by cases k<;>simp [IntKind.max,IntKind.signed,IntKind.bits]
 by_cases h0:0≤a
 · have:=key.1 h0;omega
 · have:=key.2 (by omega);omega
theorem tmod_has {k:IntKind} {a:Int} (h:k.has a) (b:Int):k.has (a.tmod b):=by
 unfold IntKind.has at *
 have hmin:k.min≤0:=by cases k<;>simp [IntKind.min,IntKind.signed,IntKind.bits]
 have hmax:0≤k.max:=by cases k<;>simp [IntKind.max,IntKind.signed,IntKind.bits]
 by_cases h0:0≤a
 · have h1:=Int.tmod_nonneg b h0
   have h2:a.tmod b≤a:=by
    obtain ⟨n,rfl⟩:=Int.eq_ofNat_of_zero_le h0
    rw [← Int.natAbs_of_nonneg h1,Int.natAbs_tmod]
    exact Int.ofNat_le.2 (Nat.mod_le _ _)
   omega
 · have h1:(-a).tmod b = -(a.tmod b):=Int.neg_tmod a b
   have h2:=Int.tmod_nonneg b (show 0 ≤ -a by omega)
   have h3:(-a).tmod b ≤ -a:=by
    obtain ⟨n,hn⟩:=Int.eq_ofNat_of_zero_le (show 0 ≤ -a by omega)
    rw [hn] at h2 ⊢
    rw [← Int.natAbs_of_nonneg h2,Int.natAbs_tmod]
    exact Int.ofNat_le.2 (Nat.mod_le _ _)
   omega
def arith (op:BinOp) (k:IntKind) (a b:Int):Option (Prop × E):=match op with
 | .add=>some (True,.int k (k.wrap (a+b)))
 | .sub=>some (True,.int k (k.wrap (a-b)))
 | .mul=>some (True,.int k (k.wrap (a*b)))
 | .quo=>some (b≠0,.int k (k.wrap (a.tdiv b)))
 | .rem=>some (b≠0,.int k (a.tmod b))
 | .and=>some (True,.int k (k.wrap (BitVec.ofInt k.bits a &&& BitVec.ofInt k.bits b).toNat))
 | .or=>some (True,.int k (k.wrap (BitVec.ofInt k.bits a ||| BitVec.ofInt k.bits b).toNat))
 | .xor=>some (True,.int k (k.wrap (BitVec.ofInt k.bits a ^^^ BitVec.ofInt k.bits b).toNat))
 | .andNot=>some (True,.int k (k.wrap (BitVec.ofInt k.bits a &&& ~~~BitVec.ofInt k.bits b).toNat))
 | .eql=>some (True,.bool (decide (a=b)))
 | .neq=>some (True,.bool (!decide (a=b)))
 | .lss=>some (True,.bool (decide (a<b)))
 | .leq=>some (True,.bool (decide (a≤b)))
 | .gtr=>some (True,.bool (decide (b<a)))
 | .geq=>some (True,.bool (decide (b≤a)))
 | _=>none
def shifts (op:BinOp) (k:IntKind) (a b:Int):Option E:=match op with
 | .shl=>some (.int k (k.wrap (a*2^min b.toNat k.bits)))
 | .shr=>some (.int k (a.fdiv (2^min b.toNat k.bits)))
 | _=>none
mutual
def V.beq:V→V→Bool
 | .int a,.int b=>decide (a=b)
 | .bool a,.bool b=>a == b
 | .str a,.str b=>a.toList == b.toList
 | .agg a,.agg b=>V.beqL a b
 | _,_=>false
def V.beqL:List V→List V→Bool
 | [],[]=>true
 | a::as,b::bs=>V.beq a b&&V.beqL as bs
 | _,_=>false
end
mutual
def flatTy (T:Tab):Nat→TypeId→Bool
 | 0,_=>false
 | d+1,t=>match T.ty t with
   | .int _|.bool|.str=>true
   | .struct ts=>flatTys T d ts
   | .arr _ e=>flatTy T d e
   | _=>false
def flatTys (T:Tab):Nat→List TypeId→Bool
 | 0,_=>false
 | _+1,[]=>true
 | d+1,t::ts=>flatTy T d t&&flatTys T d ts
end
def shiftA (op:BinOp) (g:Bool) (x y:E) (K:E→Prop):Prop:=match x,y with
 | .int k a,.int _ b=>match shifts op k a b with
   | some e=>(g=true→0≤b)∧K e
   | none=>False
 | _,_=>False
def eqA (op:BinOp) (r:Bool) (K:E→Prop):Prop:=match op with
 | .eql=>K (.bool r)
 | .neq=>K (.bool (!r))
 | _=>False
def nilA (op:BinOp) (n:Nat) (K:E→Prop):Prop:=eqA op false K∧(n=0→eqA op true K)
def plainA (T:Tab) (op:BinOp) (t:TypeId) (g:Bool) (x y:E) (K:E→Prop):Prop:=match x,y with
 | .int k a,.int k' b=>k'=k∧match arith op k a b with
   | some (q,e)=>(g=true→q)∧K e
   | none=>False
 | .bool a,.bool b=>T.ty t=.bool∧eqA op (a == b) K
 | .str a,.str b=>eqA op (a.toList == b.toList) K
 | .data t' a,.data t'' b=>t'=t∧t''=t∧flatTy T 20 t=true∧eqA op (V.beq a b) K
 | .fs e l _,.nilsl=>T.ty t=.slice e∧nilA op l.length K
 | .sl _ e _ n _,.nilsl=>T.ty t=.slice e∧nilA op n K
 | _,_=>False
def binA (T:Tab) (op:BinOp) (t:TypeId) (g:Bool) (x y:E) (K:E→Prop):Prop:=match op with
 | .shl|.shr=>shiftA op g x y K
 | _=>plainA T op t g x y K
theorem part_run (hP:TabOk P T) {t:TypeId} {cs:Array Value} {off:Nat} {v:V} (h:Fits T w F t v ((cs.toList.drop off).take (T.sz t))) (W:World) :
 ∃ x,(part t cs off).run P W=.ok x W∧ValOf T t x ((cs.toList.drop off).take (T.sz t)):=by
 have ht:=h.notOther
 have hl:=h.len hP.sized
 unfold part
 rw [Sem.run_bind,run_isAgg hP ht]
 simp only [Result.andThen_ok]
 by_cases hA:(T.ty t).isAgg=true
 · rw [if_pos hA,Sem.run_bind,run_sizeOf hP ht]
   refine ⟨_,rfl,?_⟩
   unfold ValOf
   rw [if_pos hA]
   congr 1
   apply Array.ext'
   simp [Array.toList_extract,List.extract_eq_take_drop]
 · obtain ⟨x,hx⟩:=valOf_take hP.sized h
   rw [if_neg hA]
   unfold ValOf at hx ⊢
   rw [if_neg hA] at hx
   have:cs[off]?=some x:=by
    have h0:((cs.toList.drop off).take (T.sz t))[0]?=some x:=by rw [hx];rfl
    rw [List.getElem?_take] at h0
    split at h0
    · simpa using h0
    · cases h0
   rw [this]
   exact ⟨x,rfl,by rw [if_neg hA];exact hx⟩
theorem ValOf.cells {t:TypeId} {x:Value} {cs:List Value} (h:ValOf T t x cs) (h1:(T.ty t).isAgg=false→x.oneCell'=true):x.cells.toList=cs:=by
 unfold ValOf at h
 split at h
 · rw [h];rfl
 · rename_i hA
   rw [h]
   have:=h1 (by simpa using hA)
   cases x<;>simp_all [Value.cells,Value.oneCell']
theorem eqFields_run (hP:TabOk P T) {D:Nat} {xs ys:Array Value} (W:World):∀ (fs:List Field) (ts:List TypeId) (l m:List V),
 fs.map (·.type)=ts→l.length=ts.length→m.length=ts.length →
 (∀ (j : Nat) (f : Field), fs[j]? = some f → (f.name == "_") = false ∧ ∀ x y : V, l[j]? = some x → m[j]? = some y →
   ∃ w1 F1 w2 F2,Fits T w1 F1 f.type x ((xs.toList.drop f.offset).take (T.sz f.type))∧Fits T w2 F2 f.type y ((ys.toList.drop f.offset).take (T.sz f.type)) ∧
     ∀ a b,ValOf T f.type a ((xs.toList.drop f.offset).take (T.sz f.type))→ValOf T f.type b ((ys.toList.drop f.offset).take (T.sz f.type)) →
       (Op.equalIn D f.type a b).run P W=.ok (V.beq x y) W) →
 (Op.eqFields D xs ys fs).run P W=.ok (V.beqL l m) W
 | [],ts,l,m,h1,h2,h3,_=>by
   subst h1
   cases l<;>cases m<;>simp_all [Op.eqFields,V.beqL]
 | f::fs,ts,l,m,h1,h2,h3,h=>by
   subst h1
   match l,m,h2,h3 with
   | x::l,y::m,h2,h3 =>
     obtain ⟨hn,h0⟩:=h 0 f rfl
     obtain ⟨w1,F1,w2,F2,fx,fy,he⟩:=h0 x y rfl rfl
     obtain ⟨a,pa,va⟩:=part_run hP fx W
     obtain ⟨b,pb,vb⟩:=part_run hP fy W
     have hn' : f.name ≠ "_" := by simpa using hn
     have:=eqFields_run hP (D:=D) (xs:=xs) (ys:=ys) W fs _ l m rfl (by simpa using h2) (by simpa using h3) (fun j g hg=>h (j+1) g (by simpa using hg))
     simp only [Op.eqFields,if_pos hn',Sem.run_bind,pa,pb,Result.andThen_ok,he a b va vb,V.beqL]
     cases V.beq x y<;>simp [this]
theorem eqItems_run (hP:TabOk P T) {D:Nat} {xs ys:Array Value} (W:World) {e:TypeId} {c:Nat}:∀ (is:List Nat) (l m:List V),l.length=is.length→m.length=is.length →
 (∀ (j i:Nat),is[j]?=some i→∀ x y:V,l[j]?=some x→m[j]?=some y →
   ∃ w1 F1 w2 F2,Fits T w1 F1 e x ((xs.toList.drop (i*c)).take (T.sz e))∧Fits T w2 F2 e y ((ys.toList.drop (i*c)).take (T.sz e)) ∧
     ∀ a b,ValOf T e a ((xs.toList.drop (i*c)).take (T.sz e))→ValOf T e b ((ys.toList.drop (i*c)).take (T.sz e)) →
       (Op.equalIn D e a b).run P W=.ok (V.beq x y) W) →
 (Op.eqItems D e c xs ys is).run P W=.ok (V.beqL l m) W
 | [],l,m,h2,h3,_=>by
   cases l<;>cases m<;>simp_all [Op.eqItems,V.beqL]
 | i::is,l,m,h2,h3,h=>by
   match l,m,h2,h3 with
   | x::l,y::m,h2,h3 =>
     obtain ⟨w1,F1,w2,F2,fx,fy,he⟩:=h 0 i rfl x y rfl rfl
     obtain ⟨a,pa,va⟩:=part_run hP fx W
     obtain ⟨b,pb,vb⟩:=part_run hP fy W
     have:=eqItems_run hP (D:=D) (xs:=xs) (ys:=ys) W is l m (by simpa using h2) (by simpa using h3) (fun j g hg=>h (j+1) g (by simpa using hg))
     simp only [Op.eqItems,Sem.run_bind,pa,pb,Result.andThen_ok,he a b va vb,V.beqL]
     cases V.beq x y<;>simp [this]
theorem flatTys_nth {d:Nat}:∀ {ts:List TypeId},flatTys T d ts=true→∀ {k:Nat} {t:TypeId},ts[k]?=some t→∃ d',d'<d∧flatTy T d' t=true:=by
 induction d with
 | zero=>intro ts h;simp [flatTys] at h
 | succ d ih =>
   intro ts h k t hk
   cases ts with
   | nil=>simp at hk
   | cons u ts =>
     simp only [flatTys,Bool.and_eq_true] at h
     cases k with
     | zero=>simp at hk;subst hk;exact ⟨d,by omega,h.1⟩
     | succ k=>obtain ⟨d',h1,h2⟩:=ih h.2 (k:=k) (t:=t) (by simpa using hk);exact ⟨d',by omega,h2⟩
theorem equalIn_run (hP:TabOk P T) (W:World):∀ (d:Nat) (t:TypeId),flatTy T d t=true→∀ (D:Nat),d≤D→∀ {w1 w2:World} {F1 F2:Nat→Prop} {u v:V} {x y:Value} {xs ys:List Value},
 Fits T w1 F1 t u xs→Fits T w2 F2 t v ys→ValOf T t x xs→ValOf T t y ys→(Op.equalIn D t x y).run P W=.ok (V.beq u v) W:=by
 intro d
 induction d using Nat.strongRecOn with
 | _ d ih =>
   intro t hf D hD w1 w2 F1 F2 u v x y xs ys hx hy vx vy
   cases d with
   | zero=>simp [flatTy] at hf
   | succ d =>
     obtain ⟨D,rfl⟩:∃ m,D=m+1:=⟨D-1,by omega⟩
     unfold flatTy at hf
     unfold ValOf at vx vy
     split at hf
     · rename_i k hk
       obtain ⟨a,rfl,_,rfl⟩:=hx.inv' hk
       obtain ⟨b,rfl,_,rfl⟩:=hy.inv' hk
       simp [hk,TyD.isAgg] at vx vy
       subst vx;subst vy
       rw [run_equalIn_int W D t k k a b (hP.int _ _ hk)]
       simp only [V.beq]
       congr 1
     · rename_i hk
       obtain ⟨a,rfl,rfl⟩:=hx.inv' hk
       obtain ⟨b,rfl,rfl⟩:=hy.inv' hk
       simp [hk,TyD.isAgg] at vx vy
       subst vx;subst vy
       rw [run_equalIn_bool W D t a b (hP.bool _ hk)]
       simp only [V.beq]
     · rename_i hk
       obtain ⟨a,rfl,rfl⟩:=hx.inv' hk
       obtain ⟨b,rfl,rfl⟩:=hy.inv' hk
       simp [hk,TyD.isAgg] at vx vy
       subst vx;subst vy
       rw [run_equalIn_string W D t a b (hP.str _ hk)]
       simp only [V.beq]
     · rename_i ts hk
       obtain ⟨l,rfl,fl⟩:=hx.inv' hk
       obtain ⟨m,rfl,fm⟩:=hy.inv' hk
       simp [hk,TyD.isAgg] at vx vy
       subst vx;subst vy
       obtain ⟨fs,hu,hts,hh,ho⟩:=hP.struct _ _ hk
       have hfo:P.fieldsOf t=fs:=by simp [Program.fieldsOf,hu]
       rw [run_equalIn_struct W D t _ _ (by rw [hfo];exact hu) hh,hfo]
       simp only [V.beq]
       refine eqFields_run hP W fs.toList ts l m hts fl.lens fm.lens (fun j f hj=>?_)
       have hj':fs[j]?=some f:=by simpa using hj
       obtain ⟨o1,o2,o3,_⟩:=ho j f hj'
       have htj:ts[j]?=some f.type:=by rw [← hts];simp [hj']
       refine ⟨o3,fun a b ha hb=>?_⟩
       have na:=fl.nth hP.sized htj
       have nb:=fm.nth hP.sized htj
       have ea:l.getD j default=a:=by simp [List.getD_eq_getElem?_getD,ha]
       have eb:m.getD j default=b:=by simp [List.getD_eq_getElem?_getD,hb]
       rw [ea] at na
       rw [eb] at nb
       obtain ⟨d',hd',hfd⟩:=flatTys_nth hf htj
       rw [o1]
       exact ⟨w1,F1,w2,F2,na,nb,fun p q hp hq=>ih d' (by omega) f.type hfd D (by omega) na nb hp hq⟩
     · rename_i n e hk
       obtain ⟨l,rfl,fl⟩:=hx.inv' hk
       obtain ⟨m,rfl,fm⟩:=hy.inv' hk
       simp [hk,TyD.isAgg] at vx vy
       subst vx;subst vy
       obtain ⟨hu,hn,he,hne'⟩:=hP.arr _ _ _ hk
       obtain ⟨i,hi,hs,_⟩:=hP.info e hne'
       have hc:P.cellsOf e=T.sz e:=by simp [Program.cellsOf,hi,hs]
       rw [run_equalIn_array W D _ _ hu hi,hc]
       simp only [V.beq]
       have hl:=fl.lens
       have hm:=fm.lens
       refine eqItems_run hP W (List.range n) l m (by simpa using hl) (by simpa using hm) (fun j i hj a b ha hb=>?_)
       have hjn:j<n:=by
        have:=(List.getElem?_eq_some_iff.1 hj).1
        simpa using this
       have hji:i=j:=by simpa [hjn] using hj.symm
       subst hji
       have htj:(List.replicate n e)[i]?=some e:=by simp [hjn]
       have na:=fl.nth hP.sized htj
       have nb:=fm.nth hP.sized htj
       rw [offs_replicate T n i e (by omega)] at na nb
       have ea:l.getD i default=a:=by simp [List.getD_eq_getElem?_getD,ha]
       have eb:m.getD i default=b:=by simp [List.getD_eq_getElem?_getD,hb]
       rw [ea] at na
       rw [eb] at nb
       exact ⟨w1,F1,w2,F2,na,nb,fun p q hp hq=>ih d (by omega) e hf D (by omega) na nb hp hq⟩
     · cases hf
theorem arith_run {op:BinOp} {k:IntKind} {a b:Int} {q:Prop} {e:E} (h:arith op k a b=some (q,e)) (hq:q) (ha:k.has a) (t:TypeId) (W:World) (hop:op≠.shl∧op≠.shr) :
 ∃ v,ERel T w F ρ e v∧(binOp op t (.int k a) (.int k b)).run P W=.ok v W:=by
 cases op<;>simp only [arith,Option.some.injEq,Prod.mk.injEq,reduceCtorEq] at h<;>try (exact absurd rfl hop.1)<;>try (exact absurd rfl hop.2)
 all_goals obtain ⟨rfl,rfl⟩:=h
 case add=>exact ⟨_,⟨rfl,wrap_has _ _⟩,by simp [binOp,Op.intArith]⟩
 case sub=>exact ⟨_,⟨rfl,wrap_has _ _⟩,by simp [binOp,Op.intArith]⟩
 case mul=>exact ⟨_,⟨rfl,wrap_has _ _⟩,by simp [binOp,Op.intArith]⟩
 case quo=>exact ⟨_,⟨rfl,wrap_has _ _⟩,by simp [binOp,Op.intDiv,hq]⟩
 case rem=>exact ⟨_,⟨rfl,tmod_has ha b⟩,by simp [binOp,Op.intDiv,hq]⟩
 case and=>exact ⟨_,⟨rfl,wrap_has _ _⟩,by simp [binOp,Op.intBits]⟩
 case or=>exact ⟨_,⟨rfl,wrap_has _ _⟩,by simp [binOp,Op.intBits]⟩
 case xor=>exact ⟨_,⟨rfl,wrap_has _ _⟩,by simp [binOp,Op.intBits]⟩
 case andNot=>exact ⟨_,⟨rfl,wrap_has _ _⟩,by simp [binOp,Op.intBits]⟩
 case eql=>exact ⟨_,rfl,by simp [binOp,Op.intCmp];rfl⟩
 case neq=>exact ⟨_,rfl,by simp [binOp,Op.intCmp];rfl⟩
 case lss=>exact ⟨_,rfl,by simp [binOp,Op.intCmp]⟩
 case leq=>exact ⟨_,rfl,by simp [binOp,Op.intCmp]⟩
 case gtr=>exact ⟨_,rfl,by simp [binOp,Op.intCmp]⟩
 case geq=>exact ⟨_,rfl,by simp [binOp,Op.intCmp]⟩
theorem shifts_run {op:BinOp} {k k':IntKind} {a b:Int} {e:E} (h:shifts op k a b=some e) (hb:0≤b) (ha:k.has a) (t:TypeId) (W:World) :
 ∃ v,ERel T w F ρ e v∧(binOp op t (.int k a) (.int k' b)).run P W=.ok v W:=by
 have hb':¬ b<0:=by omega
 cases op<;>simp only [shifts,Option.some.injEq,reduceCtorEq] at h
 all_goals subst h
 case shl=>exact ⟨_,⟨rfl,wrap_has _ _⟩,by simp [binOp,Op.shift,hb']⟩
 case shr=>exact ⟨_,⟨rfl,fdiv_has ha _⟩,by simp [binOp,Op.shift,hb']⟩
end Go.Eng
namespace Go.Eng
open Go.RowKit
variable {P:Program} {T:Tab} {w w':World} {w0:Base T} {F:Nat→Prop} {ρ:Nat→RI}
def evalOptI (σ:St) (g:Bool) (x:Option Operand) (d:Int) (K:Int→Prop):Prop:=match x with
 | none=>K d
 | some o=>evalO σ g o fun e=>match e with
   | .int _ n=>K n
   | _=>False
def buildA (T:Tab) (σ:St) (g:Bool) (pt:Nat→Option TypeId):List (Nat × Operand)→V→(V→Prop)→Prop
 | [],v,K=>K v
 | (i,x)::r,v,K=>match pt i with
   | some t=>evalO σ g x fun e=>match toV T t e with
     | some y=>buildA T σ g pt r (v.setSub i y) K
     | none=>False
   | none=>False
def pickA (σ:St) (g:Bool) (c a b:Operand) (K:E→Prop):Prop :=
 evalO σ g c fun ec=>match ec with
  | .bool cb=>evalO σ (g&&cb) a fun ea=>evalO σ (g&&!cb) b fun eb=>match ea,eb with
    | .bool x,.bool y=>K (.bool (bif cb then x else y))
    | .int k x,.int k' y=>k'=k∧K (.int k (bif cb then x else y))
    | _,_=>False
  | _=>False
def loadA (T:Tab) (σ:St) (g:Bool) (t:TypeId) (e:E) (K:E→Prop):Prop:=match e with
 | .fptr t' v=>t'=t∧K (fromV T t v)
 | .ptr i p t'=>t'=t∧match σ.ob[i]? with
   | some (.var tv e)=>match p with
     | []=>K e
     | _::_=>match e with
       | .data _ v=>K (fromV T t (v.get p))
       | .agg ta l=>match p with
         | [k]=>ta=tv∧match l[k]? with
           | some el=>K el
           | none=>False
         | _=>False
       | _=>False
   | _=>False
 | .rp i j p t'=>t'=t∧match σ.ob[i]? with
   | some (.row _ l)=>(g=true→j<l.length)∧K (fromV T t ((l.getD j default).get p))
   | some (.erow e' l)=>(p=[]∧t'=e'∧(g=true→j<l.length))∧K (l.getD j .undef)
   | _=>False
 | _=>False
def fieldAddrA (T:Tab) (s:TypeId) (k:Nat) (e:E) (K:E→Prop):Prop:=match T.ty s with
 | .struct ts=>match ts[k]? with
   | some u=>match e with
     | .ptr i p s'=>s'=s∧K (.ptr i (k::p) u)
     | .rp i j p s'=>s'=s∧K (.rp i j (k::p) u)
     | .fptr s' v=>s'=s∧K (.fptr u (v.sub k))
     | _=>False
   | none=>False
 | _=>False
def indexAddrA (T:Tab) (g:Bool) (t:TypeId) (x:E) (i:Int) (K:E→Prop):Prop:=match T.ty t with
 | .arr n e=>(g=true→0≤i∧i<n)∧match x with
   | .ptr j p t'=>t'=t∧K (.ptr j (i.toNat::p) e)
   | .rp j m p t'=>t'=t∧K (.rp j m (i.toNat::p) e)
   | .fptr t' v=>t'=t∧K (.fptr e (v.sub i.toNat))
   | _=>False
 | .slice e=>match x with
   | .fs e' l _=>e'=e∧(g=true→0≤i∧i<l.length)∧K (.fptr e (l.getD i.toNat default))
   | .sl j e' lo len _=>e'=e∧(g=true→0≤i∧i<len)∧K (.rp j (lo+i.toNat) [] e)
   | _=>False
 | _=>False
def indexA (T:Tab) (g:Bool) (t:TypeId) (x:E) (i:Int) (K:E→Prop):Prop:=match T.ty t with
 | .arr n e=>match x with
   | .data t' v=>t'=t∧(g=true→0≤i∧i<n)∧K (fromV T e (v.sub i.toNat))
   | _=>False
 | .str=>match x with
   | .str s=>(g=true→0≤i∧i<s.size)∧K (.int .u8 ((s.data[i.toNat]?).getD 0).toNat)
   | _=>False
 | _=>False
def sliceA (T:Tab) (σ:St) (g:Bool) (t:TypeId) (x:E) (lo hi mx:Option Operand) (K:E→Prop):Prop:=match T.ty t with
 | .slice e=>match x with
   | .fs e' l c=>e'=e∧evalOptI σ g lo 0 fun a=>evalOptI σ g hi l.length fun b=>evalOptI σ g mx b fun m =>
      (g=true→0≤a∧a≤b∧b≤l.length∧(mx.isSome=true→b=m)) ∧
      K (.fs e ((l.drop a.toNat).take (b.toNat-a.toNat)) (mx.isSome||c&&decide (b=l.length)))
   | .sl i e' l0 len c=>e'=e∧evalOptI σ g lo 0 fun a=>evalOptI σ g hi len fun b=>evalOptI σ g mx b fun m =>
      (g=true→0≤a∧a≤b∧b≤len∧(mx.isSome=true→b=m))∧(c=true→mx.isSome=true∨b=len) ∧
      K (.sl i e (l0+a.toNat) (b.toNat-a.toNat) (mx.isSome||c&&decide (b=len)))
   | _=>False
 | .arr n e=>match x with
   | .fptr t' v=>t'=t∧mx.isSome=false∧evalOptI σ g lo 0 fun a=>evalOptI σ g hi n fun b =>
      (g=true→0≤a∧a≤b∧b≤n)∧K (.fs e ((v.toList.drop a.toNat).take (b.toNat-a.toNat)) (decide (b=n)))
   | .ptr i p t'=>t'=t∧mx.isSome=false∧hi.isSome=false∧evalOptI σ g lo 0 fun a=>(g=true→0≤a∧a<n)∧K (.av i p t a.toNat)
   | _=>False
 | _=>False
def builtinA (T:Tab) (g:Bool) (b:Builtin) (ts:List TypeId) (xs:List E) (K:E→Prop):Prop:=match b,ts,xs with
 | .len,[t],[x]=>match T.ty t with
   | .slice _=>match x with
     | .fs _ l _=>(g=true→l.length≤maxLen)∧K (.int .i64 l.length)
     | .sl _ _ _ n _=>(g=true→n≤maxLen)∧K (.int .i64 n)
     | .nilsl=>K (.int .i64 0)
     | _=>False
   | .str=>match x with
     | .str s=>(g=true→s.size≤maxLen)∧K (.int .i64 s.size)
     | _=>False
   | _=>False
 | .min,_,[.int k a,.int k' b]=>k'=k∧K (.int k (min a b))
 | .max,_,[.int k a,.int k' b]=>k'=k∧K (.int k (max a b))
 | _,_,_=>False
def pureA (T:Tab) (σ:St) (g:Bool) (op:Op) (K:E→Prop):Prop:=match op with
 | .move x|.assign x=>evalO σ g x K
 | .pick c a b=>pickA σ g c a b K
 | .load t x=>evalO σ g x fun e=>loadA T σ g t e K
 | .nilCheck x=>evalO σ g x fun e=>match e with
   | .ptr ..|.rp ..|.fptr ..|.fn ..=>K e
   | _=>False
 | .binOp op t x y _=>evalO σ g x fun a=>evalO σ g y fun b=>binA T op t g a b K
 | .unOp op _ x=>evalO σ g x fun a=>match op,a with
   | .not,.bool b=>K (.bool (!b))
   | .neg,.int k n=>K (.int k (k.wrap (0-n)))
   | .xor,.int k n=>K (.int k (k.wrap (BitVec.ofInt k.bits (if k.signed then -1 else k.max) ^^^ BitVec.ofInt k.bits n).toNat))
   | _,_=>False
 | .convert s d x=>evalO σ g x fun a=>match T.ty s,T.ty d,a with
   | .int _,.int k,.int _ n=>K (.int k (k.wrap n))
   | _,_,_=>False
 | .makeFunc (.func f) first caps=>first.size=0∧evalL σ g caps.toList fun es=>K (.fn f es)
 | .slice t x lo hi mx=>(mx.isSome&&!hi.isSome)=false∧evalO σ g x fun e=>sliceA T σ g t e lo hi mx K
 | .fieldAddr s x k=>evalO σ g x fun e=>fieldAddrA T s k e K
 | .field s x k=>evalO σ g x fun e=>match T.ty s,e with
   | .struct ts,.data s' v=>s'=s∧match ts[k]? with
     | some u=>K (fromV T u (v.sub k))
     | none=>False
   | _,_=>False
 | .indexAddr t x i=>evalO σ g x fun e=>evalO σ g i fun ei=>match ei with
   | .int _ n=>indexAddrA T g t e n K
   | _=>False
 | .index t x i=>evalO σ g x fun e=>evalO σ g i fun ei=>match ei with
   | .int _ n=>indexA T g t e n K
   | _=>False
 | .extract x k=>evalO σ g x fun e=>match e with
   | .tup l=>match l[k]? with
     | some e=>K e
     | none=>False
   | _=>False
 | .build t parts=>match T.ty t with
   | .struct ts=>buildA T σ g (fun k=>ts[k]?) parts.toList (T.zero t) fun v=>K (.data t v)
   | .arr n e=>buildA T σ g (fun k=>if k<n then some e else none) parts.toList (T.zero t) fun v=>K (.data t v)
   | _=>False
 | .call c=>match c.callee with
   | .builtin b=>evalL σ g c.args.toList fun es=>builtinA T g b c.argTypes.toList es K
   | _=>False
 | _=>False
def Yields1 (P:Program) (T:Tab) (w:World) (F:Nat→Prop) (ρ:Nat→RI) (a:Act) (op:Op) (e:E):Prop :=
 ∃ v,ERel T w F ρ e v∧∀ w',Below w.heap.size w w'→∀ o:Oper,o.op=op→(execOp a.eval o).run P w'=.ok (.value v) w'
def OptIs (a:Act) (x:Option Operand) (d n:Int):Prop:=match x with
 | none=>n=d
 | some o=>∃ k,a.eval o=.int k n
theorem evalOptI_sound {σ:St} {a:Act} {outs:List (Array Value)} (hR:Rel T w F ρ w0 σ a.tmps outs) {g:Bool} {x:Option Operand} {d:Int} {K:Int→Prop} (h:evalOptI σ g x d K) :
 ∃ n,K n∧(g=true→OptIs a x d n):=by
 cases x with
 | none=>exact ⟨d,h,fun _=>rfl⟩
 | some o =>
   obtain ⟨e,h1,h2⟩:=evalO_sound hR h
   split at h1
   · rename_i k n
     exact ⟨n,h1,fun hg=>⟨k,(h2 hg).1⟩⟩
   · exact h1.elim
end Go.Eng
