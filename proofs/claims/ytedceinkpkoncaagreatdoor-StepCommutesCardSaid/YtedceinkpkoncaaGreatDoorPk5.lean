/- A part of the proof: walks through the program's functions, and what they compute. -/
import Derived.Test.YtedceinkpkoncaaGreatDoorPk4
set_option linter.unusedSimpArgs false
set_option linter.unusedVariables false
namespace Go.Eng
open Go.RowKit
variable {P:Program} {T:Tab} {w w':World} {w0:Base T} {F F':Nat→Prop} {ρ ρ':Nat→RI} {σ:St} {a:Act} {outs:List (Array Value)}
def okAt (T:Tab) (t:TypeId):E→Bool
 | .int k _=>T.ty t == .int k
 | .bool _=>T.ty t == .bool
 | .str _=>T.ty t == .str
 | .data t' _=>t' == t&&(T.ty t).isAgg
 | .fs e _ _=>T.ty t == .slice e
 | .sl _ e _ _ _=>T.ty t == .slice e
 | .nilsl=>match T.ty t with|.slice _=>true|_=>false
 | .fptr t' _=>T.ty t == .ptr t'
 | .ptr _ _ t'=>T.ty t == .ptr t'
 | .rp _ _ _ t'=>T.ty t == .ptr t'
 | .fn _ _=>T.ty t == .fn
 | .nilfn=>T.ty t == .fn
 | _=>false
theorem Fits.oneCell {t:TypeId} {v:V} {cs:List Value} (h:Fits T w F t v cs):∀ c∈cs,c.oneCell'=true:=by
 refine Fits.rec (motive_1:=fun _ _ cs _=>∀ c∈cs,c.oneCell'=true) (motive_2:=fun _ _ cs _=>∀ c∈cs,c.oneCell'=true) (motive_3:=fun _ _ cs _=>True) ?_ ?_ ?_ ?_ ?_ ?_ ?_ ?_ ?_ ?_ ?_ ?_ ?_ ?_ h
 all_goals intros
 all_goals simp_all [Value.oneCell']
 all_goals grind
theorem FitsL.onesL {ts:List TypeId}:∀ {l:List V} {cs:List Value},FitsL T w F ts l cs→∀ c∈cs,c.oneCell'=true:=by
 induction ts with
 | nil=>intro l cs h;cases h;simp
 | cons t ts ih =>
   intro l cs h
   cases h with
   | cons h1 h2 =>
     intro c hc
     rcases List.mem_append.1 hc with hc|hc
     · exact h1.oneCell c hc
     · exact ih h2 c hc
theorem okAt_other {t:TypeId} {e:E} (h:okAt T t e=true):T.ty t≠.other:=by
 intro h0
 cases e<;>simp [okAt,h0,TyD.isAgg] at h
theorem okAt_holds (hS:T.Sized) {t:TypeId} {e:E} {x:Value} (hx:ERel T w F ρ e x) (h:okAt T t e=true):Holds T t x x.cells∧(∀ c∈x.cells,c.oneCell'=true):=by
 have one:∀ d:TyD,T.ty t=d→d.isAgg=false→T.sz t=1→x.oneCell'=true→Holds T t x x.cells∧(∀ c∈x.cells,c.oneCell'=true):=by
  intro d hd hA hs h1
  have hc:x.cells=#[x]:=by cases x<;>simp_all [Value.cells,Value.oneCell']
  rw [hc]
  exact ⟨⟨by simp [hs],by rw [hd,hA];simp [h1]⟩,by simp [h1]⟩
 cases e<;>simp only [okAt,beq_iff_eq,Bool.and_eq_true,Bool.false_eq_true] at h
 case int k n=>obtain ⟨rfl,_⟩:=hx;exact one _ h rfl (hS.int _ _ h) rfl
 case bool b=>obtain rfl:x=_:=hx;exact one _ h rfl (hS.bool _ h) rfl
 case str s=>obtain rfl:x=_:=hx;exact one _ h rfl (hS.str _ h) rfl
 case data t' v =>
  obtain ⟨rfl,hA⟩:=h
  obtain ⟨cs,rfl,_,hf⟩:=hx
  refine ⟨⟨(by simpa using hf.len hS:cs.size=T.sz t'),by rw [hA];rfl⟩,fun c (hc:c∈cs)=>hf.oneCell c (by simpa using hc)⟩
 case fs e l c =>
  refine one _ h rfl (hS.slice _ _ h).1 ?_
  rcases hx with ⟨_,_,rfl,_⟩|⟨_,_,_,_,rfl,_⟩<;>rfl
 case sl i e lo n c =>
  refine one _ h rfl (hS.slice _ _ h).1 ?_
  rcases hx with ⟨_,rfl,_⟩|⟨_,_,_,_,_,_,_,rfl,_⟩<;>rfl
 case nilsl =>
  split at h
  · rename_i e he
    obtain rfl:x=_:=hx
    exact one _ he rfl (hS.slice _ _ he).1 rfl
  · cases h
 case ptr i p t'=>obtain ⟨_,_,_,_,_,rfl⟩:=hx;exact one _ h rfl (hS.ptr _ _ h) rfl
 case rp i j p t'=>obtain ⟨_,_,_,_,_,_,_,rfl⟩:=hx;exact one _ h rfl (hS.ptr _ _ h) rfl
 case fptr t' v=>obtain ⟨_,_,_,rfl,_⟩:=hx;exact one _ h rfl (hS.ptr _ _ h) rfl
 case fn f c=>obtain ⟨_,rfl,_⟩:=hx;exact one _ h rfl (hS.fn _ h) rfl
 case nilfn=>obtain rfl:x=_:=hx;exact one _ h rfl (hS.fn _ h) rfl
def slTy (T:Tab) (t:TypeId):Bool:=match T.ty t with
 | .slice _=>true
 | _=>false
def partZ (T:Tab) (t:TypeId) (v:V):E:=match T.ty t with
 | .slice _=>.nilsl
 | _=>fromV T t v
def partsZ (T:Tab):List TypeId→List V→List E
 | t::ts,v::vs=>partZ T t v::partsZ T ts vs
 | _,_=>[]
theorem Fits.holds (hS:T.Sized) {t:TypeId} {v:V} {x:Value} {cs:List Value} (h:Fits T w F t v cs) (hx:ValOf T t x cs):Holds T t x x.cells∧(∀ c∈x.cells,c.oneCell'=true)∧x.cells.toList=cs:=by
 have ho:=h.oneCell
 have hl:=h.len hS
 unfold ValOf at hx
 split at hx
 · rename_i hA
   subst hx
   exact ⟨⟨by simpa [Value.cells] using hl,by rw [if_pos hA];rfl⟩,fun c hc=>ho c (by simpa [Value.cells] using hc),by simp [Value.cells]⟩
 · rename_i hA
   subst hx
   have h1:=ho x (by simp)
   have hc:x.cells=#[x]:=by cases x<;>simp_all [Value.cells,Value.oneCell']
   rw [hc]
   exact ⟨⟨by simpa using hl,by rw [if_neg hA];exact ⟨rfl,h1⟩⟩,by simpa using h1,rfl⟩
theorem partsZ_rel (hS:T.Sized):∀ {ts:List TypeId} {l:List V} {cs:List Value},FitsL T w F ts l cs→(∀ k u e,ts[k]?=some u→T.ty u=.slice e→cs[T.offs ts k]?=some (.slice none 0 0)) →
 ∃ vs,ERelL T w F ρ (partsZ T ts l) vs∧Joins T ts vs cs
 | [],_,_,h,_=>by cases h;exact ⟨[],trivial,rfl⟩
 | t::ts,l,cs,h,hz=>by
   cases h with
   | cons h1 h2 =>
     rename_i v vs c cs
     have hl:=h1.len hS
     obtain ⟨xs,i1,i2⟩:=partsZ_rel hS h2 (fun k u e hk hu=>by
      have:=hz (k+1) u e (by simpa using hk) hu
      rw [offs_succ,← hl,List.getElem?_append_right (by omega),Nat.add_sub_cancel_left] at this
      exact this)
     obtain ⟨x,hx⟩:=valOf_take hS h1
     obtain ⟨g1,g2,g3⟩:=h1.holds hS hx
     refine ⟨x::xs,⟨?_,i1⟩,cs,by rw [g3],g1,g2,i2⟩
     unfold partZ
     split
     · rename_i e he
       have:=hz 0 t e rfl he
       rw [offs_zero] at this
       unfold ValOf at hx
       rw [he] at hx
       have hx:c=[x]:=hx
       subst hx
       simp at this
       exact this
     · exact fromV_rel h1 hx
def zeroE (T:Tab) (t:TypeId):E:=match T.ty t with
 | .slice _=>.nilsl
 | .fn=>.nilfn
 | .ptr _=>.undef
 | .other=>.undef
 | .struct ts=>if ts.any (slTy T)=true then .agg t (partsZ T ts (T.zero t).toList) else fromV T t (T.zero t)
 | _=>fromV T t (T.zero t)
def elemsOf (σ:St) (e:TypeId):E→Option (List V)
 | .fs e' l _=>if e'=e then some l else none
 | .nilsl=>some []
 | .sl i e' lo n _=>if e'=e then match σ.ob[i]? with
   | some (.row _ l)=>some ((l.drop lo).take n)
   | _=>none
   else none
 | _=>none
def roomFor (T:Tab) (e:TypeId) (n:Nat):Prop:=n≤maxLen∧n*T.by_ e≤140737488355328
def evalVs (T:Tab) (σ:St) (t:TypeId):List Operand→(List V→Prop)→Prop
 | [],K=>K []
 | x::xs,K=>evalO σ true x fun e=>match toV T t e with
   | some v=>evalVs T σ t xs fun vs=>K (v::vs)
   | none=>False
def appendA (T:Tab) (σ:St) (e:TypeId) (s x:E) (K:St→E→Prop):Prop:=match elemsOf σ e x with
 | none=>False
 | some xs=>match s with
   | .sl i e' lo n c=>e'=e∧match σ.ob[i]? with
     | some (.row _ l)=>match lo,c with
       | 0,false=>n≤l.length∧roomFor T e (n+xs.length) ∧
           K { (σ.kill i) with ob:=(σ.kill i).ob.set i (.row e (l.take n++xs)) } (.sl i e 0 (n+xs.length) false)
       | _,_=>lo+n≤l.length∧0<xs.length∧c=true∧roomFor T e (n+xs.length) ∧
           K { σ with ob:=σ.ob++[.row e ((l.drop lo).take n++xs)] } (.sl σ.ob.length e 0 (n+xs.length) false)
     | _=>False
   | .nilsl=>roomFor T e xs.length∧K { σ with ob:=σ.ob++[.row e xs] } (.sl σ.ob.length e 0 xs.length false)
   | .fs e' l c=>e'=e∧c=true∧0<xs.length∧roomFor T e (l.length+xs.length) ∧
      K { σ with ob:=σ.ob++[.row e (l++xs)] } (.sl σ.ob.length e 0 (l.length+xs.length) false)
   | _=>False
def freshA:E→Bool
 | .nilsl=>true
 | .fs _ _ true=>true
 | _=>false
def clearA (T:Tab) (σ:St) (e:TypeId) (s:E) (K:St→E→Prop):Prop:=match s with
 | .sl i e' lo n _=>e'=e∧T.ty e≠.fn∧(∀ u,T.ty e≠.ptr u)∧match σ.ob[i]? with
   | some (.row _ l)=>lo+n≤l.length∧K { σ with ob:=σ.ob.set i (.row e (l.take lo++List.replicate n (T.zero e)++l.drop (lo+n))) } (.tup [])
   | _=>False
 | _=>False
def movedV (l:List V) (lo lo' m:Nat):List V:=l.take lo++(l.drop lo').take m++l.drop (lo+m)
def copyA (T:Tab) (σ:St) (e:TypeId) (d s:E) (K:St→E→Prop):Prop:=match d,s with
 | .av i p t lo,.av i' p' t' lo'=>i'=i∧p'=p∧t'=t∧match T.ty t with
   | .arr n e'=>(e'=e∧n≤maxLen)∧match σ.ob[i]? with
     | some (.var tv (.data td v))=>K { σ with ob:=σ.ob.set i (.var tv (.data td (v.put p (.agg (movedV (v.get p).toList lo lo' (min (n-lo') (n-lo))))))) } (.int .i64 (min (n-lo') (n-lo):Nat))
     | _=>False
   | _=>False
 | _,_=>False
def storeA (T:Tab) (σ:St) (t:TypeId) (p e:E) (K:St→E→Prop):Prop:=match p with
 | .ptr i p t'=>t'=t∧match σ.ob[i]? with
   | some (.var tv c)=>match p with
     | []=>okAt T t e=true∧K { σ with ob:=σ.ob.set i (.var tv e) } .undef
     | k::p=>match c with
       | .data td v=>match toV T t e with
         | some y=>K { σ with ob:=σ.ob.set i (.var tv (.data td (v.put (k::p) y))) } .undef
         | none=>False
       | .agg ta l=>match p with
         | []=>(ta=tv∧okAt T t e=true)∧match l[k]? with
           | some _=>K { σ with ob:=σ.ob.set i (.var tv (.agg ta (l.set k e))) } .undef
           | none=>False
         | _=>False
       | _=>False
   | _=>False
 | .rp i j p t'=>t'=t∧match σ.ob[i]? with
   | some (.row e' l)=>match toV T t e with
     | some y=>j<l.length∧K { σ with ob:=σ.ob.set i (.row e' (l.set j ((l.getD j default).put p y))) } .undef
     | none=>False
   | some (.erow e' l)=>(p=[]∧t'=e'∧okAt T t e=true∧j<l.length)∧K { σ with ob:=σ.ob.set i (.erow e' (l.set j e)) } .undef
   | _=>False
 | _=>False
def effA (T:Tab) (σ:St) (op:Op) (K:St→E→Prop):Prop:=match op with
 | .alloc t=>T.ty t≠.other∧K { σ with ob:=σ.ob++[.var t (zeroE T t)] } (.ptr σ.ob.length [] t)
 | .box t x=>evalO σ true x fun e=>okAt T t e=true∧K { σ with ob:=σ.ob++[.var t e] } (.ptr σ.ob.length [] t)
 | .store t x y=>evalO σ true x fun p=>evalO σ true y fun e=>storeA T σ t p e K
 | .buildSlice t n parts=>match T.ty t with
   | .slice e=>parts.toList.map (·.1)=List.range n∧n*T.sz e≤2^24∧evalVs T σ e (parts.toList.map (·.2)) fun vs=>K { σ with ob:=σ.ob++[.row e vs] } (.sl σ.ob.length e 0 n false)
   | _=>False
 | .makeSlice t l c=>match T.ty t with
   | .slice e=>evalO σ true l fun el=>evalO σ true c fun ec=>match el,ec with
     | .int _ n,.int _ m=>n=m∧0≤n∧roomFor T e n.toNat∧T.ty e≠.fn∧(∀ u,T.ty e≠.ptr u)∧K { σ with ob:=σ.ob++[.row e (List.replicate n.toNat (T.zero e))] } (.sl σ.ob.length e 0 n.toNat false)
     | _,_=>False
   | _=>False
 | .call c=>match c.callee,c.args.toList,c.argTypes.toList with
   | .builtin .append,[s,x],[t,t']=>t'=t∧match T.ty t with
     | .slice e=>evalO σ true s fun es=>evalO σ true x fun ex=>appendA T σ e es ex K
     | _=>False
   | .builtin .clear,[s],[t]=>match T.ty t with
     | .slice e=>evalO σ true s fun es=>clearA T σ e es K
     | _=>False
   | .builtin .copy,[d,s],[t,t']=>t'=t∧match T.ty t with
     | .slice e=>(T.sz e=1∧T.ty t≠.other)∧evalO σ true d fun ed=>evalO σ true s fun es=>copyA T σ e ed es K
     | _=>False
   | _,_,_=>False
 | _=>False
def isMake:Op→Bool
 | .alloc _=>true
 | .box _ _=>true
 | .buildSlice _ _ _=>true
 | .makeSlice _ _ _=>true
 | _=>false
def Does (P:Program) (T:Tab) (w0:Base T) (w:World) (a:Act) (outs:List (Array Value)) (op:Op) (σ':St) (e:E):Prop :=
 ∃ w' F' ρ' v nx,ERel T w' F' ρ' e v∧Rel T w' F' ρ' w0 σ' a.tmps outs∧(nx=Next.value v∨nx=Next.skip∧v=undef) ∧
   (∀ o:Oper,o.op=op→(execOp a.eval o).run P w=.ok nx w')∧(isMake op=true→Below w.heap.size w w')
theorem below_alloc (w:World) (o:Go.Obj):Below w.heap.size w (w.alloc o):=(Below.refl _ _).alloc (Nat.le_refl _) o
theorem zeroE_rel (hP:TabOk P T) {t:TypeId} (ht:T.ty t≠.other) {i:TypeInfo} {z:Value} (hi:P.info? t=some i) (hz:i.zero=some z) :
 ERel T w F ρ (zeroE T t) z∧Holds T t z z.cells∧(∀ c∈z.cells,c.oneCell'=true)∧(∀ u x,zeroE T t=.data u x→u=t):=by
 obtain ⟨i',j1,j2,j3,z',j4,j5,j6,j7,j8,j9,j10,j11⟩:=hP.info t ht
 have:i'=i:=by rw [j1] at hi;simpa using hi
 subst this
 have:z'=z:=by rw [j4] at hz;simpa using hz
 subst this
 have hold:Holds T t z' z'.cells:=by
  refine ⟨j5,?_⟩
  split
  · rename_i hA;rw [if_pos hA] at j7;exact j7
  · rename_i hA
    rw [if_neg hA] at j7
    refine ⟨?_,j7⟩
    cases z'<;>simp_all [Value.cells,Value.oneCell']
 refine ⟨?_,hold,j6,?_⟩
 · unfold zeroE
   split
   · rename_i e he;exact j10 e he
   · rename_i he;exact j9 he
   · trivial
   · trivial
   · rename_i ts hts
     have hf:=j8 (by rw [hts];simp) (by rw [hts];simp) w F
     split
     · obtain ⟨l,e1,e2⟩:=hf.inv' hts
       have hA:z'=.agg z'.cells:=by rw [hts] at j7;exact j7
       rw [e1]
       obtain ⟨vs,g1,g2⟩:=partsZ_rel (ρ:=ρ) hP.sized e2 (fun k u e hk hu=>j11 ts hts k u e hk hu)
       exact ⟨ts,vs,z'.cells,hts,hA,g1,g2⟩
     · exact fromV_rel hf hold.valOf
   · rename_i h1 h2 h3 h4 h5
     exact fromV_rel (j8 (fun h=>h2 h) (fun e h=>h3 e h) w F) hold.valOf
 · intro u x h
   unfold zeroE at h
   split at h<;>try cases h
   · split at h
     · cases h
     · unfold fromV at h
       split at h<;>first|cases h|(split at h<;>cases h)
       all_goals rfl
   · unfold fromV at h
     split at h<;>first|cases h|(split at h<;>cases h)
     all_goals rfl
theorem new_var (hR:Rel T w F ρ w0 σ a.tmps outs) {t:TypeId} {e:E} {v:Value} (ht:T.ty t≠.other) (he:ERel T w F ρ e v) (hh:Holds T t v v.cells) (h1:∀ c∈v.cells,c.oneCell'=true) (hd:∀ u x,e=.data u x→u=t) :
 Rel T (w.alloc (.cells v.cells t)) F (upd ρ σ.ob.length (.var w.heap.size t)) w0 { σ with ob:=σ.ob++[.var t e] } a.tmps outs ∧
 ERel T (w.alloc (.cells v.cells t)) F (upd ρ σ.ob.length (.var w.heap.size t)) (.ptr σ.ob.length [] t) (.pointer (some ⟨w.heap.size,0,none⟩)):=by
 have hb:=below_alloc w (.cells v.cells t)
 have hn:ρ σ.ob.length=.none:=hR.free _ (by simp)
 have hsz:(w.alloc (.cells v.cells t)).heap.size=w.heap.size+1:=by show (w.heap.push _).size=_;simp
 refine ⟨hR.push hb (fun _ x=>x) (fun b hF=>Nat.lt_of_lt_of_le (hR.fsub b hF) hb.size) (fun _ x _=>x) ?_ ?_,⟨w.heap.size,t,0,upd_self _ _ _,.nil,rfl⟩⟩
 · intro b hb'
   simp [RI.block] at hb'
   subst hb'
   exact ⟨Nat.le_refl _,by omega,fun hF=>Nat.lt_irrefl _ (hR.fsub _ hF)⟩
 · refine ⟨⟨rfl,ht,hd⟩,hR.below.size,fun hF=>Nat.lt_irrefl _ (hR.fsub _ hF),v.cells,t,v,heap_alloc_new w _,?_,hh,h1⟩
   exact he.mono (fun _ x=>x) (fun b hF=>hb.block b (hR.fsub b hF)) (upd_mono hn)
theorem new_row (hR:Rel T w F ρ w0 σ a.tmps outs) (hb:Below w.heap.size w w') {e:TypeId} {l:List V} {r:Value} {xs:List Value} (hown:w'.ownsRow w.heap.size e (T.sz e) r l.length xs) (hf:FitsL T w' F (List.replicate l.length e) l xs) :
 Rel T w' F (upd ρ σ.ob.length (.row e r)) w0 { σ with ob:=σ.ob++[.row e l] } a.tmps outs ∧
 ERel T w' F (upd ρ σ.ob.length (.row e r)) (.sl σ.ob.length e 0 l.length false) r:=by
 have hlt:=hown.lt
 refine ⟨hR.push hb (fun _ x=>x) (fun b hF=>Nat.lt_of_lt_of_le (hR.fsub b hF) hb.size) (fun _ x _=>x) ?_ ?_,?_⟩
 · intro b hb'
   obtain ⟨h1,h2⟩:=hlt b hb'
   exact ⟨h1,h2,fun hF=>by have:=hR.fsub b hF;omega⟩
 · refine ⟨rfl,fun b hb' hF=>by have:=hR.fsub b hF;have:=(hlt b hb').1;omega,xs,⟨hown.1,?_⟩,hf⟩
   rcases hown.2 with h|⟨g,cap,cur,q1,q2,q3⟩
   · exact .inl h
   · exact .inr ⟨g,cap,cur,q1,Nat.le_trans hR.below.size q2,q3⟩
 · unfold ERel
   rw [upd_self]
   rcases hown.2 with ⟨rfl,h0⟩|⟨g,cap,cur,rfl,q2,q3,q4,_⟩
   · exact .inl ⟨rfl,rfl,rfl,h0⟩
   · exact .inr ⟨g,_,cap,0,rfl,by omega,q4,rfl,fun _=>rfl,.inr (by simp)⟩
theorem splice_length (cs ds:List Value) (off:Nat) (h:off+ds.length≤cs.length):(splice cs off ds).length=cs.length:=by
 simp only [splice,List.length_append,List.length_take,List.length_drop];omega
theorem splice_take (cs ds:List Value) (off n:Nat) (h:off+ds.length≤n) (hn:n≤cs.length):(splice cs off ds).take n=splice (cs.take n) off ds:=by
 unfold splice
 rw [List.take_append,List.take_of_length_le (by simp;omega),List.take_take,Nat.min_eq_left (by omega),List.drop_take]
 congr 2
 simp only [List.length_append,List.length_take]
 omega
theorem storeA_sound (hP:TabOk P T) (hR:Rel T w F ρ w0 σ a.tmps outs) {t:TypeId} {x y:Operand} {p e:E} {K:St→E→Prop} (hx:ERel T w F ρ p (a.eval x)) (hy:ERel T w F ρ e (a.eval y)) (h:storeA T σ t p e K) :
 ∃ σ' e',K σ' e'∧Does P T w0 w a outs (.store t x y) σ' e':=by
 have run:∀ (b off:Nat) (cur:Array Value) (ct:TypeId),a.eval x=.pointer (some ⟨b,off,none⟩)→w.heap[b]?=some (.cells cur ct (0,0))→T.ty t≠.other→(a.eval y).cells.size=T.sz t→off+T.sz t≤cur.size →
  (∀ c∈(a.eval y).cells,c.oneCell'=true)→∀ o:Oper,o.op=.store t x y →
  (execOp a.eval o).run P w=.ok .skip (w.setRow b (splice cur.toList off (a.eval y).cells.toList).toArray):=by
  intro b off cur ct hv hh ht hs hle h1 o ho
  have hst:=run_storeCells_at P b off ct (a.eval y).cells.toList 0 cur w hh (by simp;omega) (by simpa using h1)
  simp only [Nat.add_zero] at hst
  have hsz:(sizeOf t).run P w=.ok (a.eval y).cells.size w:=by rw [hs];exact run_sizeOf hP ht w
  simp [execOp,ho,hv,Instr.storeAt,Instr.sureAddr,storeVar,hsz,hst,splice]
 unfold storeA at h
 split at h
 · rename_i i p t'
   obtain ⟨rfl,h⟩:=h
   split at h;rotate_left;· exact h.elim
   rename_i tv c ho
   have hil:i<σ.ob.length:=(List.getElem?_eq_some_iff.1 ho).1
   have hob:=hR.ob _ _ ho
   obtain ⟨b,root,off,p1,p2,p3⟩:=hx
   rw [p1] at hob
   obtain ⟨⟨q1,q1',q1''⟩,q2,q3,cs,ct,v,q4,q5,q6,q7⟩:=hob
   subst q1
   have hblk:(ρ i).block=some b:=by rw [p1];rfl
   split at h
   ·
    obtain ⟨hok,h⟩:=h
    cases p2
    obtain ⟨k1,k2⟩:=okAt_holds hP.sized hy hok
    have hr:=run b 0 cs ct p3 q4 q1' k1.1 (by rw [q6.1];omega) k2
    have hspl:(splice cs.toList 0 (a.eval y).cells.toList).toArray=(a.eval y).cells:=by
     apply Array.ext'
     simp only [splice,List.take_zero,List.nil_append,Nat.zero_add]
     rw [List.drop_eq_nil_of_le (by simp [q6.1,k1.1])]
     simp
    rw [hspl] at hr
    refine ⟨_,_,h,w.setRow b (a.eval y).cells,F,ρ,undef,.skip,trivial,?_,.inr ⟨rfl,rfl⟩,hr,by simp [isMake]⟩
    refine hR.store hblk hil (fun k hk=>setRow_other w b k _ hk) (by simp [World.setRow]) rfl rfl rfl ?_
    rw [p1]
    refine ⟨⟨rfl,q1',fun u z hz=>?_⟩,q2,q3,(a.eval y).cells,ct,a.eval y,setRow_heap w b cs _ ct _ q4,?_,k1,k2⟩
    · subst hz
      simp only [okAt,Bool.and_eq_true,beq_iff_eq] at hok
      exact hok.1
    · exact hy.mono (fun _ x=>x) (fun k hF=>setRow_other w b k _ (fun e=>q3 (e▸hF))) (fun _ _=>rfl)
   · rename_i k p
     split at h
     rotate_left
     · rename_i ta l
       split at h;rotate_left;· exact h.elim
       obtain ⟨⟨rfl,hok⟩,h⟩:=h
       split at h;rotate_left;· exact h.elim
       obtain ⟨ts,vs,cs',hts,rfl,h5,h6⟩:=q5
       have hcs:cs'=cs:=by have:=q6.2;rw [if_pos (by rw [hts];rfl)] at this;simpa using this
       subst hcs
       obtain ⟨ho1,ho3⟩:ts[k]?=some t'∧off=T.offs ts k:=by
        cases p2 with
        | fld a1 a2 a3 =>
          cases a1
          rw [hts] at a2
          cases a2
          exact ⟨a3,Nat.zero_add _⟩
        | idx a1 a2 a3 =>
          cases a1
          rw [hts] at a2
          cases a2
       obtain ⟨k1,k2⟩:=okAt_holds hP.sized hy hok
       have hle:=offs_le T ho1
       have hcl:cs'.size=T.szs ts:=by rw [q6.1];exact hP.sized.struct _ _ hts
       have hr:=run b off cs' ct p3 q4 (okAt_other hok) k1.1 (by rw [ho3,hcl];exact hle) k2
       have hoth:∀ k,F k→(w.setRow b (splice cs'.toList off (a.eval y).cells.toList).toArray).heap[k]?=w.heap[k]?:=fun k hF=>setRow_other w b k _ (fun e=>q3 (e▸hF))
       have hj:=h6.set ho1 k1 k2
       rw [← ho3] at hj
       refine ⟨_,_,h,w.setRow b (splice cs'.toList off (a.eval y).cells.toList).toArray,F,ρ,undef,.skip,trivial,?_,.inr ⟨rfl,rfl⟩,hr,by simp [isMake]⟩
       refine hR.store hblk hil (fun k hk=>setRow_other w b k _ hk) (by simp [World.setRow]) rfl rfl rfl ?_
       rw [p1]
       refine ⟨⟨rfl,q1',fun u z hz=>by cases hz⟩,q2,q3,(splice cs'.toList off (a.eval y).cells.toList).toArray,ct,.agg (splice cs'.toList off (a.eval y).cells.toList).toArray,setRow_heap w b cs' _ ct _ q4,⟨ts,vs.set k (a.eval y),_,hts,rfl,(h5.mono (fun _ x=>x) hoth (fun _ _=>rfl)).set (hy.mono (fun _ x=>x) hoth (fun _ _=>rfl)),by simpa using hj⟩,⟨?_,by rw [hts];rfl⟩,?_⟩
       · rw [List.size_toArray,hj.len];exact (hP.sized.struct _ _ hts).symm
       · intro c hc
         exact hj.ones c (by simpa using hc)
     · exact h.elim
     rename_i td v0
     split at h;rotate_left;· exact h.elim
     rename_i y0 hy0
     obtain ⟨cs',rfl,hA,hf⟩:=q5
     have:=q1'' _ _ rfl
     subst this
     have hcs:cs'=cs:=by have:=q6.2;rw [if_pos hA] at this;simpa using this
     subst hcs
     obtain ⟨f1,f2⟩:=toV_fits hy hy0
     obtain ⟨g1,g2⟩:=p2.get hP.sized hf
     have hsz:(a.eval y).cells.size=T.sz t':=by simpa using f1.len hP.sized
     have hr:=run b off cs' ct p3 q4 f1.notOther hsz (by simpa using g2) (fun c hc=>f1.oneCell c (by simpa using hc))
     have hnew:=p2.put hP.sized hf f1
     refine ⟨_,_,h,w.setRow b (splice cs'.toList off (a.eval y).cells.toList).toArray,F,ρ,undef,.skip,trivial,?_,.inr ⟨rfl,rfl⟩,hr,by simp [isMake]⟩
     refine hR.store hblk hil (fun k hk=>setRow_other w b k _ hk) (by simp [World.setRow]) rfl rfl rfl ?_
     rw [p1]
     have hnew':=hnew.mono (w':=w.setRow b (splice cs'.toList off (a.eval y).cells.toList).toArray) (F':=F) (fun _ x=>x) (fun k hF=>setRow_other w b k _ (fun e=>q3 (e▸hF)))
     refine ⟨⟨rfl,q1',fun u z hz=>by cases hz;rfl⟩,q2,q3,(splice cs'.toList off (a.eval y).cells.toList).toArray,ct,.agg (splice cs'.toList off (a.eval y).cells.toList).toArray,setRow_heap w b cs' _ ct _ q4,⟨_,rfl,hA,by simpa using hnew'⟩,⟨?_,by rw [hA];rfl⟩,?_⟩
     · simpa using hnew'.len hP.sized
     · intro c hc
       exact hnew'.oneCell c (by simpa using hc)
 · rename_i i j p t'
   obtain ⟨rfl,h⟩:=h
   split at h
   rotate_left
   · rename_i e' l ho
     obtain ⟨⟨rfl,rfl,hok,hj⟩,h⟩:=h
     have hil:i<σ.ob.length:=(List.getElem?_eq_some_iff.1 ho).1
     have hob:=hR.ob _ _ ho
     obtain ⟨b,e'',n,cap,off,p1,p2,p3⟩:=hx
     rw [p1] at hob
     obtain ⟨rfl,q2,⟨z1,z2,z3⟩,xs,q3,q4,q5⟩:=hob
     have hblk:(ρ i).block=some b:=by rw [p1];rfl
     cases p2
     rcases q3.2 with ⟨q,_⟩|⟨b',cap',cur,hr,hb,hh,hn,hc,hs,htk⟩
     · cases q
     · cases hr
       obtain ⟨k1,k2⟩:=okAt_holds hP.sized hy hok
       have hcell:(a.eval y).cells=#[a.eval y]∧(a.eval y).oneCell'=true:=by
        have:=k1.2
        rw [z2] at this
        simpa using this
       have hxl:xs.length=l.length*T.sz e'':=q3.1
       have hcl:cur.toList.length=cap*T.sz e'':=by simpa using hs
       rw [z1] at hxl hcl
       have hcur:cur.size=cap:=by rw [hs,z1,Nat.mul_one]
       have hrun:=run b (j*T.sz e''+0) cur e'' p3 hh z3 k1.1 (by rw [z1,hcur];omega) k2
       rw [hcell.1,z1,Nat.mul_one,Nat.add_zero] at hrun
       have hspl:splice cur.toList j [a.eval y]=cur.toList.set j (a.eval y):=by
        unfold splice
        rw [List.set_eq_take_append_cons_drop,if_pos (by omega),List.append_assoc]
        rfl
       have hrun:∀ o:Oper,o.op=.store e'' x y→(execOp a.eval o).run P w=.ok .skip (w.setRow b (cur.toList.set j (a.eval y)).toArray):=by
        rw [← hspl];exact hrun
       have hoth:∀ k,F k→(w.setRow b (cur.toList.set j (a.eval y)).toArray).heap[k]?=w.heap[k]?:=fun k hF=>setRow_other w b k _ (fun e=>q2 b rfl (e▸hF))
       refine ⟨_,_,h,w.setRow b (cur.toList.set j (a.eval y)).toArray,F,ρ,undef,.skip,trivial,?_,.inr ⟨rfl,rfl⟩,hrun,by simp [isMake]⟩
       refine hR.store hblk hil (fun k hk=>setRow_other w b k _ hk) (by simp [World.setRow]) rfl rfl rfl ?_
       rw [p1]
       refine ⟨rfl,q2,⟨z1,z2,z3⟩,xs.set j (a.eval y),⟨?_,.inr ⟨b,cap,(cur.toList.set j (a.eval y)).toArray,by simp,hb,setRow_heap w b cur _ e'' _ hh,by simpa using hn,hc,?_,?_⟩⟩,?_,?_⟩
       · rw [List.length_set,List.length_set,z1];omega
       · rw [List.size_toArray,List.length_set,z1];omega
       · rw [List.length_set,z1,Nat.mul_one,List.take_set,← htk,z1,Nat.mul_one]
       · exact (q4.mono (fun _ x=>x) hoth (fun _ _=>rfl)).set (hy.mono (fun _ x=>x) hoth (fun _ _=>rfl))
       · intro u hu
         rcases List.mem_or_eq_of_mem_set hu with hu|hu
         · exact q5 u hu
         · rw [hu];exact hcell.2
   · exact h.elim
   rename_i e' l ho
   split at h;rotate_left;· exact h.elim
   rename_i y0 hy0
   obtain ⟨hj,h⟩:=h
   have hil:i<σ.ob.length:=(List.getElem?_eq_some_iff.1 ho).1
   have hob:=hR.ob _ _ ho
   obtain ⟨b,e'',n,cap,off,p1,p2,p3⟩:=hx
   rw [p1] at hob
   obtain ⟨rfl,q2,xs,q3,q4⟩:=hob
   have hblk:(ρ i).block=some b:=by rw [p1];rfl
   rcases q3.2 with ⟨q,_⟩|⟨b',cap',cur,hr,hb,hh,hn,hc,hs,htk⟩
   · cases q
   · cases hr
     have hrep:(List.replicate l.length e'')[j]?=some e'':=by simp [hj]
     have hel:=q4.nth hP.sized hrep
     rw [offs_replicate T _ j e'' (by omega)] at hel
     obtain ⟨f1,f2⟩:=toV_fits hy hy0
     obtain ⟨g1,g2⟩:=p2.get hP.sized hel
     have hnew:=p2.put hP.sized hel f1
     have hsz:(a.eval y).cells.size=T.sz t':=by simpa using f1.len hP.sized
     have hell:=hel.len hP.sized
     have hxl:xs.length=l.length*T.sz e'':=q3.1
     have hjs:(j+1)*T.sz e''≤l.length*T.sz e'':=Nat.mul_le_mul_right _ hj
     have hjs':(j+1)*T.sz e''=j*T.sz e''+T.sz e'':=by rw [Nat.add_mul,Nat.one_mul]
     have hcapl:l.length*T.sz e''≤cap*T.sz e'':=Nat.mul_le_mul_right _ hn
     have hdl:(a.eval y).cells.toList.length=T.sz t':=by simpa using hsz
     have hcl:cur.toList.length=cap*T.sz e'':=by simpa using hs
     have hrun:=run b (j*T.sz e''+off) cur e'' p3 hh f1.notOther hsz (by rw [hs];omega) (fun c hc=>f1.oneCell c (by simpa using hc))
     have hoth:∀ k,F k→(w.setRow b (splice cur.toList (j*T.sz e''+off) (a.eval y).cells.toList).toArray).heap[k]?=w.heap[k]?:=fun k hF=>setRow_other w b k _ (fun e=>q2 b rfl (e▸hF))
     refine ⟨_,_,h,w.setRow b (splice cur.toList (j*T.sz e''+off) (a.eval y).cells.toList).toArray,F,ρ,undef,.skip,trivial,?_,.inr ⟨rfl,rfl⟩,hrun,by simp [isMake]⟩
     refine hR.store hblk hil (fun k hk=>setRow_other w b k _ hk) (by simp [World.setRow]) rfl rfl rfl ?_
     rw [p1]
     refine ⟨rfl,q2,splice xs (j*T.sz e''+off) (a.eval y).cells.toList,⟨?_,.inr ⟨b,cap,(splice cur.toList (j*T.sz e''+off) (a.eval y).cells.toList).toArray,by simp,hb,setRow_heap w b cur _ e'' _ hh,by simpa using hn,hc,?_,?_⟩⟩,?_⟩
     · rw [splice_length _ _ _ (by omega),List.length_set];exact hxl
     · rw [List.size_toArray,splice_length _ _ _ (by omega)];exact hcl
     · rw [List.length_set,splice_take _ _ _ _ (by omega) (by omega),htk]
     · have hset:=q4.setNth hP.sized hrep hnew
       rw [offs_replicate T _ j e'' (by omega)] at hset
       have hss:=splice_splice xs ((xs.drop (j*T.sz e'')).take (T.sz e'')) (a.eval y).cells.toList (j*T.sz e'') off (by omega) (by omega) (by rw [hell])
       have hY:(splice ((xs.drop (j*T.sz e'')).take (T.sz e'')) off (a.eval y).cells.toList).length=T.sz e'':=by rw [splice_length _ _ _ (by omega),hell]
       rw [← hss,List.length_set]
       generalize splice ((xs.drop (j*T.sz e'')).take (T.sz e'')) off (a.eval y).cells.toList=Y at hset hY
       unfold splice
       rw [hY]
       exact hset.mono (fun _ x=>x) hoth
 · exact h.elim
theorem evalVs_sound (hR:Rel T w F ρ w0 σ a.tmps outs) {t:TypeId}:∀ {xs:List Operand} {K:List V→Prop},evalVs T σ t xs K →
 ∃ vs,K vs∧FitsL T w F (List.replicate xs.length t) vs (xs.map fun x=>(a.eval x).cells.toList).flatten∧∀ x∈xs,∃ v,Fits T w F t v (a.eval x).cells.toList
 | [],K,h=>⟨[],h,.nil,by simp⟩
 | x::xs,K,h=>by
   unfold evalVs at h
   obtain ⟨e,h,he⟩:=evalO_sound hR h
   split at h;rotate_left;· exact h.elim
   rename_i v hv
   obtain ⟨vs,h1,h2,h3⟩:=evalVs_sound hR h
   have hf:=(toV_fits (he rfl) hv).1
   refine ⟨v::vs,h1,?_,?_⟩
   · simp only [List.map_cons,List.flatten_cons,List.length_cons,List.replicate_succ]
     exact .cons hf h2
   · intro y hy
     rcases List.mem_cons.1 hy with rfl|hy
     · exact ⟨v,hf⟩
     · exact h3 y hy
theorem elems_of (hP:TabOk P T) (hR:Rel T w F ρ w0 σ a.tmps outs) {e:TypeId} {ex:E} {x:Operand} {xs:List V} (hx:ERel T w F ρ ex (a.eval x)) (h:elemsOf σ e ex=some xs) :
 ((∃ ad c,a.eval x=.slice ad 0 c)∧xs=[])∨∃ b off cap cs F1,a.eval x=.slice (some ⟨b,off,none⟩) xs.length cap∧Seg w b off cs∧FitsL T w F1 (List.replicate xs.length e) xs cs∧(∀ b,F1 b→b<w.heap.size∧F b):=by
 unfold elemsOf at h
 split at h
 · rename_i e' l c
   split at h;rotate_left;· cases h
   rename_i he
   subst he
   cases h
   rcases hx with ⟨ad,c0,h1,h2,_⟩|⟨b,off,cap,cs,h1,h2,h3,h4,h5,h6⟩
   · exact .inl ⟨⟨ad,c0,h1⟩,h2⟩
   · exact .inr ⟨b,off,cap,cs,F,h1,h5,h6,fun b hb=>⟨hR.fsub b hb,hb⟩⟩
 · cases h
   exact .inl ⟨⟨_,_,hx⟩,rfl⟩
 · rename_i i e' lo n c
   split at h;rotate_left;· cases h
   rename_i he
   subst he
   split at h;rotate_left;· cases h
   rename_i e2 l ho
   cases h
   have hob:=hR.ob _ _ ho
   rcases hx with ⟨h1,h2,h3,h4⟩|⟨b,m,cap,off,h1,h2,h3,h4,h5,h6⟩
   · subst h4
     exact .inl ⟨⟨_,_,h2⟩,by simp⟩
   · rw [h1] at hob
     obtain ⟨rfl,q2,ys,q3,q4⟩:=hob
     rcases q3.2 with ⟨q,_⟩|⟨b',cap',cur,hr,hb,hh,hn,hc,hs,htk⟩
     · cases q
     · cases hr
       have hl:((l.drop lo).take n).length=n:=by simp;omega
       have hf:=q4.slice hP.sized (lo:=lo) (m:=n) (by omega)
       have hsz:=hf.len hP.sized
       rw [szs_replicate] at hsz
       refine .inr ⟨b,off,_,(ys.drop (lo*T.sz e')).take (n*T.sz e'),F,by rw [hl];exact h4,?_,by rw [hl];exact hf,fun b hb=>⟨hR.fsub b hb,hb⟩⟩
       rcases h6 with h6|h6
       · subst h6
         intro j y hy
         simp at hy
       · have hys:Seg w b 0 ys:=by
          have:=seg_of_cells (w:=w) hh 0 (l.length*T.sz e')
          rw [List.drop_zero,htk] at this
          exact this
         have:=hys.sub (lo*T.sz e') (n*T.sz e')
         rw [Nat.zero_add] at this
         rw [h6]
         exact this
 · cases h
end Go.Eng
