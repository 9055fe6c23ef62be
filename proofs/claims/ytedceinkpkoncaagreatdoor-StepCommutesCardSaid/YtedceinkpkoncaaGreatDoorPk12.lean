/- A part of the proof: walks through the program's functions, and what they compute. -/
import Derived.Test.YtedceinkpkoncaaGreatDoorPk11
import Derived.Test.YtedceinkpkoncaaGreatDoorPk10
set_option linter.unusedSimpArgs false
set_option linter.unusedVariables false
namespace Go.Eng
open Go.RowKit
variable {H:Type} {enc:TypeId × Value→H} {P:Program} {T:Tab} {w:World} {base:Nat} {spare:Nat→Bool} {held:Bool}
mutual
def deepTy (T:Tab):Nat→TypeId→Bool
 | 0,_=>false
 | d+1,t=>match T.ty t with
   | .int _=>true
   | .bool=>true
   | .str=>true
   | .struct ts=>deepTys T d ts
   | .arr _ e=>deepTy T d e
   | .slice e=>deepTy T d e
   | _=>false
def deepTys (T:Tab):Nat→List TypeId→Bool
 | 0,_=>false
 | _+1,[]=>true
 | d+1,t::ts=>deepTy T d t&&deepTys T d ts
end
theorem deepTys_nth:∀ {d:Nat} {ts:List TypeId} {k:Nat} {t:TypeId},deepTys T d ts=true→ts[k]?=some t→∃ d',d'<d∧deepTy T d' t=true
 | 0,_,_,_,h,_=>by simp [deepTys] at h
 | d+1,[],k,t,_,hk=>by simp at hk
 | d+1,u::ts,0,t,h,hk=>by
   simp at hk;subst hk
   simp [deepTys] at h
   exact ⟨d,by omega,h.1⟩
 | d+1,u::ts,k+1,t,h,hk=>by
   simp [deepTys] at h
   obtain ⟨d',h1,h2⟩:=deepTys_nth h.2 (by simpa using hk)
   exact ⟨d',by omega,h2⟩
theorem deep_notOther {d:Nat} {t:TypeId} (h:deepTy T d t=true):T.ty t≠.other:=by
 intro h0
 cases d with
 | zero=>simp [deepTy] at h
 | succ d=>simp [deepTy,h0] at h
inductive V.Lens:V→Prop
 | int (n:Int):Lens (.int n)
 | bool (b:Bool):Lens (.bool b)
 | str (s:ByteArray):Lens (.str s)
 | agg (l:List V):(∀ v∈l,Lens v)→Lens (.agg l)
 | list (l:List V):l.length≤maxLen→(∀ v∈l,Lens v)→Lens (.list l)
theorem V.Lens.of_agg {l:List V} (h:V.Lens (.agg l)):∀ v∈l,V.Lens v:=by cases h;assumption
theorem V.Lens.of_list {l:List V} (h:V.Lens (.list l)):l.length≤maxLen∧∀ v∈l,V.Lens v:=by cases h;exact ⟨by assumption,by assumption⟩
theorem all_of_getD {p:V→Prop} {l:List V} (h:∀ i,i<l.length→p (l.getD i default)):∀ v∈l,p v:=by
 intro v hv
 obtain ⟨i,hi,rfl⟩:=List.mem_iff_getElem.1 hv
 simpa [List.getD_eq_getElem?_getD,hi] using h i hi
theorem row_seg {F:Nat→Prop} {e:TypeId} {b off len:Nat} (hse:True) (hex:∀ i,i<len→∃ c:List Value,c.length=T.sz e∧(∀ j,j<T.sz e→w.cell? ⟨b,off+(i*T.sz e+j),none⟩=c[j]?)∧∃ v,Fits T w F e v c∧V.Lens v) :
 ∃ (vl:List V) (cs:List Value),vl.length=len∧(∀ v∈vl,V.Lens v)∧Seg w b off cs∧FitsL T w F (List.replicate len e) vl cs:=by
 obtain ⟨cl,hcl,hcl'⟩:=pick_all (α:=List Value) hex
 obtain ⟨vl,hvl,hvl'⟩:=pick_all (α:=V) (p:=fun i v=>Fits T w F e v (cl.getD i default)∧V.Lens v) fun i hi=>(hcl' i hi).2.2
 have key:∀ (vl:List V) (cl:List (List Value)) (off:Nat),vl.length=cl.length→(∀ i,i<cl.length→(cl.getD i default).length=T.sz e∧(∀ j,j<T.sz e→w.cell? ⟨b,off+(i*T.sz e+j),none⟩=(cl.getD i default)[j]?)) →
  (∀ i,i<cl.length→Fits T w F e (vl.getD i default) (cl.getD i default))→Seg w b off cl.flatten∧FitsL T w F (List.replicate cl.length e) vl cl.flatten:=by
  intro vl cl
  induction cl generalizing vl with
  | nil =>
    intro off hl _ _
    have:vl=[]:=by simpa using hl
    subst this
    exact ⟨fun j x hj=>by simp at hj,.nil⟩
  | cons c cl ihc =>
    intro off hl h1 h2
    cases vl with
    | nil=>simp at hl
    | cons v vl =>
      have c0:=h1 0 (by simp)
      simp only [List.getD_cons_zero,Nat.zero_mul,Nat.zero_add] at c0
      have:=ihc vl (off+T.sz e) (by simpa using hl) (fun i hi=>by
       have:=h1 (i+1) (by simpa using hi)
       simp only [List.getD_cons_succ] at this
       refine ⟨this.1,fun j hj=>?_⟩
       rw [← this.2 j hj,Nat.add_mul,Nat.one_mul]
       congr 2
       omega) (fun i hi=>by
       have:=h2 (i+1) (by simpa using hi)
       simpa only [List.getD_cons_succ] using this)
      refine ⟨?_,?_⟩
      · intro j x hj
        rw [List.flatten_cons] at hj
        by_cases hjs:j<T.sz e
        · rw [List.getElem?_append_left (by omega)] at hj
          rw [c0.2 j hjs];exact hj
        · rw [List.getElem?_append_right (by omega),c0.1] at hj
          have:=this.1 _ _ hj
          rw [← this]
          congr 2
          omega
      · rw [List.length_cons,List.replicate_succ,List.flatten_cons]
        have h0:=h2 0 (by simp)
        simp only [List.getD_cons_zero] at h0
        exact .cons h0 this.2
 obtain ⟨k1,k2⟩:=key vl cl off (by omega) (fun i hi=>⟨(hcl' i (by omega)).1,(hcl' i (by omega)).2.1⟩) (fun i hi=>(hvl' i (by omega)).1)
 rw [hcl] at k2
 exact ⟨vl,_,hvl,all_of_getD fun i hi=>(hvl' i (by omega)).2,k1,k2⟩
theorem deep_trod (hP:TabOk P T):∀ (d:Nat) {t:TypeId} {cs:List Value} {fuel:Nat} {x:DataW H × List MemPlace},deepTy T d t=true→DataW.trod enc P w base spare held fuel t cs=some x→∃ v,Fits T w (fun b=>b<w.heap.size) t v cs∧V.Lens v:=by
 intro d
 induction d using Nat.strongRecOn with
 | _ d ih =>
   intro t cs fuel x hf h
   cases d with
   | zero=>simp [deepTy] at hf
   | succ d =>
     have hno:=deep_notOther hf
     have hc:=cellsOf_sz hP hno
     unfold deepTy at hf
     split at hf
     · rename_i k hk
       obtain ⟨n,rfl,_,hw⟩:=DataW.trod_int (hP.int _ _ hk) h
       exact ⟨_,.int hk (by simpa [Lit.wf,IntKind.has] using hw),.int _⟩
     · rename_i hk
       obtain ⟨b,rfl,_⟩:=DataW.trod_bool (hP.bool _ hk) h
       exact ⟨_,.bool hk,.bool _⟩
     · rename_i hk
       obtain ⟨s,rfl,_⟩:=DataW.trod_string (hP.str _ hk) h
       exact ⟨_,.str hk,.str _⟩
     · rename_i ts hk
       obtain ⟨fs,f1,f2,_,f3⟩:=hP.struct _ _ hk
       obtain ⟨xs,n,rfl,_,hl,hxl,hx⟩:=DataW.trod_struct f1 h
       have hfl:fs.size=ts.length:=by rw [← f2];simp
       have hex:∀ i,i<ts.length→∃ v,(∀ u,ts[i]?=some u→Fits T w (fun b=>b<w.heap.size) u v ((cs.drop (T.offs ts i)).take (T.sz u)))∧V.Lens v:=by
        intro i hi
        obtain ⟨f,hfi⟩:∃ f,fs[i]?=some f:=⟨_,Array.getElem?_eq_getElem (by omega)⟩
        have hti:ts[i]?=some f.type:=by
         have:(fs.toList.map (·.type))[i]?=some f.type:=by simp [hfi]
         rwa [f2] at this
        obtain ⟨g1,g2,_,g4⟩:=f3 i _ hfi
        have hxi:=hx i _ hfi
        rw [List.getElem?_eq_getElem (by omega),g1,cellsOf_sz hP g4] at hxi
        obtain ⟨d',hd',hf'⟩:=deepTys_nth hf hti
        obtain ⟨v,hv⟩:=ih d' (by omega) hf' hxi
        exact ⟨v,fun u hu=>by rw [hti] at hu;cases hu;exact hv.1,hv.2⟩
       obtain ⟨l,hll,hl'⟩:=pick_all hex
       refine ⟨.agg l,.struct hk (FitsL.ofNth hll ?_ fun k u hu=>(hl' k (List.getElem?_eq_some_iff.1 hu).1).1 u hu),.agg _ (all_of_getD fun i hi=>(hl' i (by omega)).2)⟩
       rw [hl,hc,hP.sized.struct _ _ hk]
     · rename_i n e hk
       obtain ⟨g1,_,_,g4⟩:=hP.arr _ _ _ hk
       obtain ⟨xs,m,rfl,_,hl,hxl,hx⟩:=DataW.trod_array g1 h
       have hex:∀ i,i<n→∃ v,Fits T w (fun b=>b<w.heap.size) e v ((cs.drop (i*T.sz e)).take (T.sz e))∧V.Lens v:=by
        intro i hi
        have hxi:=hx i hi
        rw [List.getElem?_eq_getElem (by omega),cellsOf_sz hP g4] at hxi
        exact ih d (by omega) hf hxi
       obtain ⟨l,hll,hl'⟩:=pick_all hex
       refine ⟨.agg l,.arr hk (FitsL.ofNth (by simp [hll]) ?_ fun k u hu=>?_),.agg _ (all_of_getD fun i hi=>(hl' i (by omega)).2)⟩
       · rw [hl,hc,hP.sized.arr _ _ _ hk]
       · rw [List.getElem?_replicate] at hu
         split at hu;rotate_left;· cases hu
         rename_i hkn
         cases hu
         rw [offs_replicate T n k _ (by omega)]
         exact (hl' k hkn).1
     · rename_i e hk
       obtain ⟨hu,hno'⟩:=hP.slice _ _ hk
       have hse:=(hP.sized.slice _ _ hk).2
       have hce:=cellsOf_sz hP hno'
       rcases Go.Deep.open_slice hu h with ⟨rfl,_⟩|⟨ad,len,cap,m,n,D,Pl,rfl,_,hl,hm,hmm,_,hx⟩
       · exact ⟨.list [],.nil hk,.list _ (by simp) (by simp)⟩
       · by_cases h0:len=0
         · subst h0;exact ⟨.list [],.empty hk,.list _ (by simp) (by simp)⟩
         · have hlm:len≤m:=by rw [hmm];split<;>omega
           have hpos:0<T.sz e:=by first|exact hse|omega
           have hok:ad.spot=none∧ad.block<w.heap.size:=by
            obtain ⟨cs',h1,_⟩:=hx 0 (by omega)
            rw [hce] at h1
            obtain ⟨_,q2,q3⟩:=World.cells?_some h1
            have q:=q3 0 hpos
            have hadd:∀ a:Addr,a.add 0=a:=fun a=>by simp [Addr.add]
            rw [Nat.zero_mul,hadd,hadd,List.getElem?_eq_getElem (by omega)] at q
            refine ⟨spot_of_cell q,?_⟩
            unfold World.cell? at q
            split at q
            · rename_i hb
              exact (Array.getElem?_eq_some_iff.1 hb).1
            · cases q
           obtain ⟨b,off,sp⟩:=ad
           obtain ⟨hsp,hb⟩:=hok
           simp only at hb hsp
           subst hsp
           have hex:∀ i,i<len→∃ c:List Value,c.length=T.sz e∧(∀ j,j<T.sz e→w.cell? ⟨b,off+(i*T.sz e+j),none⟩=c[j]?)∧∃ v,Fits T w (fun b=>b<w.heap.size) e v c∧V.Lens v:=by
            intro i hi
            obtain ⟨cs',h1,h2⟩:=hx i (by omega)
            rw [hce] at h1
            obtain ⟨_,q2,q3⟩:=World.cells?_some h1
            obtain ⟨v,hv⟩:=ih d (by omega) hf h2
            refine ⟨cs',q2,fun j hj=>?_,v,hv⟩
            rw [← q3 j hj,addr_add,addr_add,Nat.add_assoc]
           obtain ⟨vl,cs,hvl,hlens,k1,k2⟩:=row_seg trivial hex
           exact ⟨.list vl,.slice hk hb k1 hvl k2 hl,.list _ (by omega) hlens⟩
     · simp at hf
theorem deep_arg (hP:TabOk P T) {t:TypeId} {r:Reach} {b0:Nat} {v:Value} {d:DataW H} {p:List MemPlace} (hf:deepTy T 60 t=true) (hval:Value.okWide P w r b0 t v)
 (h:DataW.Trod enc P w 0 spare held t v d p):∃ x,Fits T w (fun b=>b<w.heap.size) t x v.cells.toList∧ValOf T t v v.cells.toList∧V.Lens x:=by
 obtain ⟨fuel,h⟩:=h
 obtain ⟨x,hx,hlx⟩:=deep_trod hP 60 hf h
 refine ⟨x,hx,?_,hlx⟩
 unfold ValOf
 have hf':=hf
 unfold deepTy at hf'
 unfold Value.okWide at hval
 split at hf'
 · rename_i k hk
   rw [hP.int _ _ hk] at hval
   obtain ⟨n,hv,_,_⟩:=DataW.trod_int (hP.int _ _ hk) h
   simp only [Cell.okWide,hP.int _ _ hk] at hval
   cases v<;>simp_all [Cell.ok,Value.cells,TyD.isAgg]
 · rename_i hk
   simp only [Cell.okWide,hP.bool _ hk] at hval
   cases v<;>simp_all [Cell.ok,hP.bool _ hk,Value.cells,TyD.isAgg]
 · rename_i hk
   simp only [Cell.okWide,hP.str _ hk] at hval
   cases v<;>simp_all [Cell.ok,hP.str _ hk,Value.cells,TyD.isAgg]
 · rename_i ts hk
   obtain ⟨fs,f1,_⟩:=hP.struct _ _ hk
   rw [f1] at hval
   obtain ⟨cs,rfl,_⟩:=hval
   simp [hk,TyD.isAgg,Value.cells]
 · rename_i n e hk
   obtain ⟨f1,_⟩:=hP.arr _ _ _ hk
   rw [f1] at hval
   obtain ⟨cs,rfl,_⟩:=hval
   simp [hk,TyD.isAgg,Value.cells]
 · rename_i e hk
   obtain ⟨hu,_⟩:=hP.slice _ _ hk
   obtain ⟨a,len,cap,rfl⟩:=Go.WideShapes.okWide_slice hu (by unfold Value.okWide;exact hval)
   simp [hk,TyD.isAgg,Value.cells]
 · simp at hf'
end Go.Eng
namespace Go.Eng
open Go.RowKit
variable {P:Program} {T:Tab} {w w':World} {w0:Base T} {F F':Nat→Prop} {ρ ρ':Nat→RI} {σ σ':St} {a:Act} {outs:List (Array Value)}
end Go.Eng
namespace Go.Eng
structure Access where
 kind:Int
 num:Int
 write:Bool
 deriving DecidableEq,Inhabited
structure Event where
 go:Int
 func:Int
 pc:Int
 op:Int
 alt:Int
 val:Int
 tag:Int
 touch:List Access
 touches:Int
 deriving DecidableEq,Inhabited
def Access.v (a:Access):V:=.agg [.int a.kind,.int a.num,.bool a.write]
def Event.v (e:Event):V:=.agg [.int e.go,.int e.func,.int e.pc,.int e.op,.int e.alt,.int e.val,.int e.tag,.agg (e.touch.map Access.v),.int e.touches]
theorem getD_map {α:Type} [Inhabited α] (f:α→V) (l:List α) {i:Nat} (h:i<l.length) (d:V):(l.map f).getD i d=f (l.getD i default):=by
 simp [List.getD_eq_getElem?_getD,h]
theorem getD_mem {α:Type} [Inhabited α] (l:List α) {i:Nat} (h:i<l.length):l.getD i default∈l:=by
 simp [List.getD_eq_getElem?_getD,h]
def Event.of (e:Event):List Access:=e.touch.take (max 0 (min 6 e.touches)).toNat
theorem Event.v0 (e:Event):e.v.toList.getD 0 default=.int e.go:=rfl
theorem Event.v7 (e:Event):e.v.toList.getD 7 default=.agg (e.touch.map Access.v):=rfl
theorem Event.v8 (e:Event):e.v.toList.getD 8 default=.int e.touches:=rfl
theorem Access.v0 (a:Access):a.v.toList.getD 0 default=.int a.kind:=rfl
theorem Access.v1 (a:Access):a.v.toList.getD 1 default=.int a.num:=rfl
theorem Access.v2 (a:Access):a.v.toList.getD 2 default=.bool a.write:=rfl
theorem beq_acc (a:Access) (k n:Int) (w:Bool):V.beq a.v (.agg [.int k,.int n,.bool w])=decide (a=⟨k,n,w⟩):=by
 obtain ⟨k',n',w'⟩:=a
 by_cases h1:k'=k<;>by_cases h2:n'=n<;>cases w<;>cases w'<;>simp [Access.v,V.beq,V.beqL,h1,h2]
def most (k:Int):Int:=if k=1 then 8 else if k=2 then 4 else if k=3 then 4 else if k=4 then 1 else if k=6 then 1 else if k=5 then 6 else 0
def cmp (a b:Access):Int:=if a.kind≠b.kind∧a.kind<b.kind∨a.kind=b.kind∧a.num<b.num then -1 else if a.kind=b.kind∧a.num=b.num then 0 else 1
def placeOk (e:Event) (i:Nat):Bool :=
 if e.touches≤i then decide (e.touch.getD i default=⟨0,0,false⟩)
 else decide (0≤(e.touch.getD i default).num)&&decide ((e.touch.getD i default).num<most (e.touch.getD i default).kind)&&(decide (i=0)||decide (cmp (e.touch.getD (i-1) default) (e.touch.getD i default)<0))
def ownAt (e:Event) (i:Nat):Bool:=decide ((i:Int)<e.touches)&&decide (e.touch.getD i default=⟨5,e.go,true⟩)
def right (e:Event):Bool:=decide (0≤e.go)&&decide (e.go<6)&&decide (1≤e.touches)&&decide (e.touches≤6)&&((List.range 6).all (placeOk e)&&(List.range 6).any (ownAt e))
theorem all_range_succ (f:Nat→Bool) (n:Nat):(List.range (n+1)).all f=((List.range n).all f&&f n):=by simp [List.range_succ]
theorem any_range_succ (f:Nat→Bool) (n:Nat):(List.range (n+1)).any f=((List.range n).any f||f n):=by simp [List.range_succ]
theorem all_range_false {f:Nat→Bool} {n i:Nat} (hi:i<n) (h:f i=false):(List.range n).all f=false:=by
 rw [List.all_eq_false]
 exact ⟨i,List.mem_range.2 hi,by simp [h]⟩
def check (t:List Event):Int:=if 256<t.length then 2 else if t.all right then 0 else 7
theorem concat_at (l:List Obj) (o:Obj):(l++[o])[l.length]?=some o:=by simp
end Go.Eng
namespace Go.Eng
structure Instr where
 op:Int
 a:Int
 b:Int
 c:Int
 n:Int
 deriving DecidableEq,Inhabited
structure Cas where
 send:Bool
 chan:Int
 reg:Int
 to_:Int
 deriving DecidableEq,Inhabited
structure Sel where
 cases:List Cas
 els:Int
 deriving DecidableEq,Inhabited
structure Fnc where
 params:Int
 regs:Int
 code:List Instr
 sels:List Sel
 deriving DecidableEq,Inhabited
structure Vr where
 atomic:Bool
 init:Int
 deriving DecidableEq,Inhabited
structure Prg where
 vars:List Vr
 locks:Int
 chans:List Int
 funcs:List Fnc
 deriving DecidableEq,Inhabited
structure Gor where
 status:Int
 func:Int
 pc:Int
 why:Int
 regs:List Int
 deriving DecidableEq,Inhabited
structure Chn where
 buf:List Int
 len:Int
 closed:Bool
 offer:Int
 from_:Int
 val:Int
 deriving DecidableEq,Inhabited
structure Stt where
 vars:List Int
 owner:List Int
 chans:List Chn
 gos:List Gor
 count:Int
 deriving DecidableEq,Inhabited
structure Pck where
 go:Int
 alt:Int
 deriving DecidableEq,Inhabited
structure Bud where
 steps:Int
 fuel:Int
 runs:Int
 deriving DecidableEq,Inhabited
def Instr.v (x:Instr):V:=.agg [.int x.op,.int x.a,.int x.b,.int x.c,.int x.n]
def Cas.v (x:Cas):V:=.agg [.bool x.send,.int x.chan,.int x.reg,.int x.to_]
def Sel.v (x:Sel):V:=.agg [.list (x.cases.map Cas.v),.int x.els]
def Fnc.v (x:Fnc):V:=.agg [.int x.params,.int x.regs,.list (x.code.map Instr.v),.list (x.sels.map Sel.v)]
def Vr.v (x:Vr):V:=.agg [.bool x.atomic,.int x.init]
def Prg.v (x:Prg):V:=.agg [.list (x.vars.map Vr.v),.int x.locks,.list (x.chans.map V.int),.list (x.funcs.map Fnc.v)]
def Gor.v (x:Gor):V:=.agg [.int x.status,.int x.func,.int x.pc,.int x.why,.agg (x.regs.map V.int)]
def Chn.v (x:Chn):V:=.agg [.agg (x.buf.map V.int),.int x.len,.bool x.closed,.int x.offer,.int x.from_,.int x.val]
def Stt.v (x:Stt):V:=.agg [.agg (x.vars.map V.int),.agg (x.owner.map V.int),.agg (x.chans.map Chn.v),.agg (x.gos.map Gor.v),.int x.count]
def Pck.v (x:Pck):V:=.agg [.int x.go,.int x.alt]
def Bud.v (x:Bud):V:=.agg [.int x.steps,.int x.fuel,.int x.runs]
section
variable (d:V)
theorem Instr.v0 (x:Instr):x.v.toList.getD 0 d=.int x.op:=rfl
theorem Instr.v1 (x:Instr):x.v.toList.getD 1 d=.int x.a:=rfl
theorem Instr.v2 (x:Instr):x.v.toList.getD 2 d=.int x.b:=rfl
theorem Instr.v3 (x:Instr):x.v.toList.getD 3 d=.int x.c:=rfl
theorem Instr.v4 (x:Instr):x.v.toList.getD 4 d=.int x.n:=rfl
theorem Cas.v0 (x:Cas):x.v.toList.getD 0 d=.bool x.send:=rfl
theorem Cas.v1 (x:Cas):x.v.toList.getD 1 d=.int x.chan:=rfl
theorem Cas.v2 (x:Cas):x.v.toList.getD 2 d=.int x.reg:=rfl
theorem Cas.v3 (x:Cas):x.v.toList.getD 3 d=.int x.to_:=rfl
theorem Sel.v0 (x:Sel):x.v.toList.getD 0 d=.list (x.cases.map Cas.v):=rfl
theorem Sel.v1 (x:Sel):x.v.toList.getD 1 d=.int x.els:=rfl
theorem Fnc.v0 (x:Fnc):x.v.toList.getD 0 d=.int x.params:=rfl
theorem Fnc.v1 (x:Fnc):x.v.toList.getD 1 d=.int x.regs:=rfl
theorem Fnc.v2 (x:Fnc):x.v.toList.getD 2 d=.list (x.code.map Instr.v):=rfl
theorem Fnc.v3 (x:Fnc):x.v.toList.getD 3 d=.list (x.sels.map Sel.v):=rfl
theorem Vr.v0 (x:Vr):x.v.toList.getD 0 d=.bool x.atomic:=rfl
theorem Vr.v1 (x:Vr):x.v.toList.getD 1 d=.int x.init:=rfl
theorem Prg.v0 (x:Prg):x.v.toList.getD 0 d=.list (x.vars.map Vr.v):=rfl
theorem Prg.v1 (x:Prg):x.v.toList.getD 1 d=.int x.locks:=rfl
theorem Prg.v2 (x:Prg):x.v.toList.getD 2 d=.list (x.chans.map V.int):=rfl
theorem Prg.v3 (x:Prg):x.v.toList.getD 3 d=.list (x.funcs.map Fnc.v):=rfl
theorem Gor.v0 (x:Gor):x.v.toList.getD 0 d=.int x.status:=rfl
theorem Gor.v1 (x:Gor):x.v.toList.getD 1 d=.int x.func:=rfl
theorem Gor.v2 (x:Gor):x.v.toList.getD 2 d=.int x.pc:=rfl
theorem Gor.v3 (x:Gor):x.v.toList.getD 3 d=.int x.why:=rfl
theorem Gor.v4 (x:Gor):x.v.toList.getD 4 d=.agg (x.regs.map V.int):=rfl
theorem Chn.v0 (x:Chn):x.v.toList.getD 0 d=.agg (x.buf.map V.int):=rfl
theorem Chn.v1 (x:Chn):x.v.toList.getD 1 d=.int x.len:=rfl
theorem Chn.v2 (x:Chn):x.v.toList.getD 2 d=.bool x.closed:=rfl
theorem Chn.v3 (x:Chn):x.v.toList.getD 3 d=.int x.offer:=rfl
theorem Chn.v4 (x:Chn):x.v.toList.getD 4 d=.int x.from_:=rfl
theorem Chn.v5 (x:Chn):x.v.toList.getD 5 d=.int x.val:=rfl
theorem Stt.v0 (x:Stt):x.v.toList.getD 0 d=.agg (x.vars.map V.int):=rfl
theorem Stt.v1 (x:Stt):x.v.toList.getD 1 d=.agg (x.owner.map V.int):=rfl
theorem Stt.v2 (x:Stt):x.v.toList.getD 2 d=.agg (x.chans.map Chn.v):=rfl
theorem Stt.v3 (x:Stt):x.v.toList.getD 3 d=.agg (x.gos.map Gor.v):=rfl
theorem Stt.v4 (x:Stt):x.v.toList.getD 4 d=.int x.count:=rfl
theorem Pck.v0 (x:Pck):x.v.toList.getD 0 d=.int x.go:=rfl
theorem Pck.v1 (x:Pck):x.v.toList.getD 1 d=.int x.alt:=rfl
theorem Bud.v0 (x:Bud):x.v.toList.getD 0 d=.int x.steps:=rfl
theorem Bud.v1 (x:Bud):x.v.toList.getD 1 d=.int x.fuel:=rfl
theorem Bud.v2 (x:Bud):x.v.toList.getD 2 d=.int x.runs:=rfl
end
def Fnc.Fit (f:Fnc):Prop:=f.code.length≤maxLen∧f.sels.length≤maxLen∧∀ s∈f.sels,s.cases.length≤maxLen
def Prg.Fit (p:Prg):Prop:=p.vars.length≤maxLen∧p.chans.length≤maxLen∧p.funcs.length≤maxLen∧∀ f∈p.funcs,f.Fit
structure Stt.Shape (s:Stt):Prop where
 vars:s.vars.length=8
 owner:s.owner.length=4
 chans:s.chans.length=4
 bufs:∀ c∈s.chans,c.buf.length=4
 gos:s.gos.length=6
 regs:∀ g∈s.gos,g.regs.length=8
theorem V.setSub_agg (l:List V) (k:Nat) (x:V):V.setSub (.agg l) k x=.agg (l.set k x):=rfl
theorem beqL_ints:∀ l m:List Int,V.beqL (l.map V.int) (m.map V.int)=decide (l=m)
 | [],[]=>rfl
 | [],_::_=>rfl
 | _::_,[]=>rfl
 | a::l,b::m=>by
   simp only [List.map_cons,V.beqL,V.beq,beqL_ints l m,List.cons.injEq]
   by_cases h:a=b<;>simp [h]
theorem beq_gor (g h:Gor):V.beq g.v h.v=decide (g=h):=by
 obtain ⟨a,b,c,d,e⟩:=g
 obtain ⟨a',b',c',d',e'⟩:=h
 simp only [Gor.v,V.beq,V.beqL,beqL_ints,Gor.mk.injEq]
 by_cases h1:a=a'<;>by_cases h2:b=b'<;>by_cases h3:c=c'<;>by_cases h4:d=d'<;>simp [h1,h2,h3,h4]
theorem beq_chn (g h:Chn):V.beq g.v h.v=decide (g=h):=by
 obtain ⟨a,b,c,d,e,f⟩:=g
 obtain ⟨a',b',c',d',e',f'⟩:=h
 simp only [Chn.v,V.beq,V.beqL,beqL_ints,Chn.mk.injEq]
 by_cases h1:a=a'<;>by_cases h2:b=b'<;>by_cases h3:c=c'<;>by_cases h4:d=d'<;>by_cases h5:e=e'<;>simp [h1,h2,h3,h4,h5]
theorem getD_ints (l:List Int) (i:Nat):(l.map V.int).getD i default=.int (l.getD i 0):=by
 by_cases h:i<l.length
 · simp [List.getD_eq_getElem?_getD,h]
 · simp [List.getD_eq_getElem?_getD,List.getElem?_eq_none (Nat.le_of_not_lt h)];rfl
theorem getD_gors {l:List Gor} {i:Nat} (h:i<l.length) (d:V):(l.map Gor.v).getD i d=(l.getD i default).v:=getD_map Gor.v l h d
theorem getD_chns {l:List Chn} {i:Nat} (h:i<l.length) (d:V):(l.map Chn.v).getD i d=(l.getD i default).v:=getD_map Chn.v l h d
theorem getD_fncs {l:List Fnc} {i:Nat} (h:i<l.length) (d:V):(l.map Fnc.v).getD i d=(l.getD i default).v:=getD_map Fnc.v l h d
theorem getD_instrs {l:List Instr} {i:Nat} (h:i<l.length) (d:V):(l.map Instr.v).getD i d=(l.getD i default).v:=getD_map Instr.v l h d
theorem getD_sels {l:List Sel} {i:Nat} (h:i<l.length) (d:V):(l.map Sel.v).getD i d=(l.getD i default).v:=getD_map Sel.v l h d
theorem getD_cass {l:List Cas} {i:Nat} (h:i<l.length) (d:V):(l.map Cas.v).getD i d=(l.getD i default).v:=getD_map Cas.v l h d
theorem getD_vrs {l:List Vr} {i:Nat} (h:i<l.length) (d:V):(l.map Vr.v).getD i d=(l.getD i default).v:=getD_map Vr.v l h d
end Go.Eng
namespace Go.Eng
def within (x n:Int):Bool:=decide (0≤x)&&decide (x<n)
def isLocal (op:Int):Bool:=(decide (1≤op)&&decide (op≤36))||(decide (40≤op)&&decide (op≤45))
def isVisible (op:Int):Bool:=decide (50≤op)&&decide (op≤65)
def Prg.fn (p:Prg) (f:Int):Fnc:=p.funcs.getD f.toNat default
def Fnc.at_ (f:Fnc) (pc:Int):Instr:=f.code.getD pc.toNat default
def Stt.gor (s:Stt) (g:Int):Gor:=s.gos.getD g.toNat default
def Stt.chn (s:Stt) (c:Int):Chn:=s.chans.getD c.toNat default
def Gor.reg (g:Gor) (r:Int):Int:=g.regs.getD r.toNat 0
def Prg.cap (p:Prg) (c:Int):Int:=p.chans.getD c.toNat 0
def instrAt (p:Prg) (s:Stt) (g:Int):Instr:=(p.fn (s.gor g).func).at_ (s.gor g).pc
def opAt (p:Prg) (s:Stt) (g:Int):Int:=if (s.gor g).status=2 then 66 else (instrAt p s g).op
def isLive (s:Stt) (g:Int):Bool:=decide (0≤g)&&decide (g<s.count)&&(decide ((s.gor g).status=1)||decide ((s.gor g).status=2))
def sends (p:Prg) (s:Stt) (c:Int):Bool :=
 if (s.chn c).closed then true else if 0<p.cap c then decide ((s.chn c).len<p.cap c) else decide ((s.chn c).offer=0)
def receives (s:Stt) (c:Int):Bool:=decide (0<(s.chn c).len)||(s.chn c).closed||decide ((s.chn c).offer=1)
def plain (p:Prg) (s:Stt) (g:Int):Bool :=
 let x:=instrAt p s g
 let op:=opAt p s g
 if op=54 then decide (s.vars.getD x.a.toNat 0=(s.gor g).reg x.b)
 else if op=55 then decide (s.owner.getD x.a.toNat 0=0)
 else if op=58 then sends p s x.a
 else if op=59 then receives s x.b
 else if op=66 then decide ((s.chn x.a).offer=2)||decide ((s.chn x.a).offer=3)
 else if op=63 then
  let k:=(s.gor g).reg x.a
  decide (k<0)||decide (s.count≤k)||decide (k=g)||!isLive s k
 else decide (50≤op)
def caseOk (p:Prg) (s:Stt) (c:Cas):Bool:=if c.send then sends p s c.chan else receives s c.chan
def selAt (p:Prg) (s:Stt) (g:Int):Sel:=(p.fn (s.gor g).func).sels.getD (instrAt p s g).a.toNat default
def casesTo (p:Prg) (s:Stt) (q:Sel) (n:Nat):List Int:=((List.range n).filter fun i=>caseOk p s (q.cases.getD i default)).map fun (i:Nat)=>(i:Int)
def alts (p:Prg) (s:Stt) (g:Int):List Int :=
 if isLive s g then
  if opAt p s g=61 then
   let q:=selAt p s g
   let l:=casesTo p s q q.cases.length
   if l.length=0∧q.els ≠ -1 then l++[(q.cases.length:Int)] else l
  else if plain p s g then [0] else []
 else []
def readyTo (p:Prg) (s:Stt) (n:Nat):List Pck:=(List.range n).flatMap fun (g:Nat)=>(alts p s g).map fun a=>⟨g,a⟩
def ready (p:Prg) (s:Stt):List Pck:=readyTo p s s.count.toNat
def waitsTo (p:Prg) (s:Stt) (n:Nat):List Int:=((List.range n).filter fun (g:Nat)=>isLive s g&&decide ((alts p s g).length=0)).map fun (g:Nat)=>(g:Int)
def has (p:Prg) (s:Stt) (x:Pck):Bool:=decide (x.alt∈alts p s x.go)
def add (kind num:Int) (write:Bool):List Access→List Access
 | []=>[⟨kind,num,write⟩]
 | x::l=>if x.kind=kind∧x.num=num then ⟨x.kind,x.num,x.write||write⟩::l
   else if kind<x.kind∨x.kind=kind∧num<x.num then ⟨kind,num,write⟩::x::l
   else x::add kind num write l
def addChans (q:Sel) (n:Nat) (l:List Access):List Access:=(q.cases.take n).foldl (fun l c=>add 3 c.chan true l) l
def touch (p:Prg) (s:Stt) (g:Int):List Access :=
 let x:=instrAt p s g
 let op:=opAt p s g
 let l:List Access:=[⟨5,g,true⟩]
 if op=50 then add 1 x.b false l
 else if op=54 then add 1 x.a false l
 else if op=51 then add 1 x.a true l
 else if op=52∨op=53 then add 1 x.b true l
 else if op=55∨op=56 then add 2 x.a true l
 else if op=57 then add 2 x.b true l
 else if op=58∨op=60∨op=66 then add 3 x.a true l
 else if op=59 then add 3 x.b true l
 else if op=61 then addChans (selAt p s g) (selAt p s g).cases.length l
 else if op=62 then
  let l:=add 4 0 true l
  if s.count<6 then add 5 s.count true l else l
 else if op=63 then
  let l:=add 4 0 false l
  let k:=(s.gor g).reg x.a
  if 0≤k∧k<s.count then add 5 k false l else l
 else if op=65 then add 6 0 true l
 else l
structure Did where
 s:Stt
 val:Int
 why:Int
 to_:Int
 deriving Inhabited
def Stt.setReg (s:Stt) (g r v:Int):Stt :=
 if 0≤r then { s with gos:=s.gos.set g.toNat { s.gor g with regs:=(s.gor g).regs.set r.toNat v } } else s
def Stt.setChn (s:Stt) (c:Int) (x:Chn):Stt:={ s with chans:=s.chans.set c.toNat x }
def Stt.setStatus (s:Stt) (g v:Int):Stt:={ s with gos:=s.gos.set g.toNat { s.gor g with status:=v } }
def yes (b:Bool):Int:=if b then 1 else 0
def doSend (p:Prg) (d:Did) (g c v:Int):Did :=
 let x:=d.s.chn c
 if x.closed then { d with why:=4 }
 else if 0<p.cap c then { d with s:=d.s.setChn c { x with buf:=x.buf.set x.len.toNat v,len:=x.len+1 },val:=v }
 else { d with s:=(d.s.setStatus g 2).setChn c { x with offer:=1,from_:=g,val:=v },to_ := -1,val:=v }
def shiftTo (b:List Int) (n:Nat):List Int:=(List.range b.length).map fun i=>if i<n then b.getD (i+1) 0 else b.getD i 0
def doRecv (d:Did) (g c r ok:Int):Did :=
 let x:=d.s.chn c
 if 0<x.len then
  let y:={ x with buf:=(shiftTo x.buf (x.len-1).toNat).set (x.len-1).toNat 0,len:=x.len-1 }
  { d with s:=((d.s.setChn c y).setReg g r (x.buf.getD 0 0)).setReg g ok 1,val:=x.buf.getD 0 0 }
 else if x.offer=1 then
  { d with s:=((d.s.setChn c { x with offer:=2,val:=0 }).setReg g r x.val).setReg g ok 1,val:=x.val }
 else { d with s:=((d.s.setChn c x).setReg g r 0).setReg g ok 0,val:=0 }
def doClose (d:Did) (c:Int):Did :=
 let x:=d.s.chn c
 if x.closed then { d with why:=5 }
 else if x.offer=1 then { d with s:=d.s.setChn c { x with closed:=true,offer:=3,val:=0 } }
 else { d with s:=d.s.setChn c { x with closed:=true } }
def doTaken (d:Did) (g c:Int):Did :=
 let x:=d.s.chn c
 { d with s:=(d.s.setChn c { x with offer:=0,from_:=0,val:=0 }).setStatus g 1,why:=if x.offer=3 then 4 else d.why }
def spawnRegs (s:Stt) (g c:Int) (n:Nat):List Int:=(List.range 8).map fun i=>if i<n then (s.gor g).reg (c+i) else 0
def doSpawn (p:Prg) (d:Did) (g:Int) (x:Instr):Did :=
 if 6≤d.s.count then { d with why:=8 }
 else
  let n:=d.s.count
  let s:={ d.s with gos:=d.s.gos.set n.toNat ⟨1,x.b,0,0,spawnRegs d.s g x.c (p.fn x.b).params.toNat⟩,count:=n+1 }
  { d with s:=s.setReg g x.a n,val:=n }
def w64 (n:Int):Int:=IntKind.i64.wrap n
def doVars (d:Did) (g:Int) (x:Instr):Did :=
 let r:=d.s.gor g
 if x.op=50 then
  let v:=d.s.vars.getD x.b.toNat 0
  { d with s:=d.s.setReg g x.a v,val:=v }
 else if x.op=51 then { d with s:={ d.s with vars:=d.s.vars.set x.a.toNat (r.reg x.b) },val:=r.reg x.b }
 else if x.op=52 then
  let s:=d.s.setReg g x.a (d.s.vars.getD x.b.toNat 0)
  { d with s:={ s with vars:=s.vars.set x.b.toNat (w64 (s.vars.getD x.b.toNat 0+r.reg x.c)) },val:=r.reg x.c }
 else if x.op=53 then
  let v:=yes (decide (d.s.vars.getD x.b.toNat 0=r.reg x.c))
  let s:=if v=1 then { d.s with vars:=d.s.vars.set x.b.toNat (r.reg x.n) } else d.s
  { d with s:=s.setReg g x.a v,val:=v }
 else if x.op=54 then { d with val:=r.reg x.b }
 else if x.op=55 then { d with s:={ d.s with owner:=d.s.owner.set x.a.toNat (g+1) } }
 else if x.op=56 then
  if d.s.owner.getD x.a.toNat 0≠g+1 then { d with why:=6 } else { d with s:={ d.s with owner:=d.s.owner.set x.a.toNat 0 } }
 else if x.op=57 then
  let v:=yes (decide (d.s.owner.getD x.b.toNat 0=0))
  let s:=if v=1 then { d.s with owner:=d.s.owner.set x.b.toNat (g+1) } else d.s
  { d with s:=s.setReg g x.a v,val:=v }
 else d
def visible (p:Prg) (s:Stt) (g alt:Int):Did :=
 let x:=instrAt p s g
 let d:Did:=⟨s,0,0,(s.gor g).pc+1⟩
 let op:=opAt p s g
 if op=66 then doTaken d g x.a
 else if op=58 then doSend p d g x.a ((s.gor g).reg x.b)
 else if op=59 then doRecv d g x.b x.a x.c
 else if op=60 then doClose d x.a
 else if op=62 then doSpawn p d g x
 else if op=63 then
  let k:=(s.gor g).reg x.a
  if k<0∨s.count≤k∨k=g then { d with why:=7 } else { d with val:=k }
 else if op=65 then { d with val:=(s.gor g).reg x.a }
 else if op=61 then
  let q:=selAt p s g
  if alt=q.cases.length then { d with to_:=q.els }
  else
   let c:=q.cases.getD alt.toNat default
   let d:={ d with to_:=c.to_ }
   if c.send then doSend p d g c.chan ((s.gor g).reg c.reg) else doRecv d g c.chan c.reg (-1)
 else doVars d g x
def touchFill (l:List Access):List Access:=(List.range 6).map fun i=>if i<l.length then l.getD i default else ⟨0,0,false⟩
def event (p:Prg) (s:Stt) (x:Pck) (val:Int):Event :=
 ⟨x.go,(s.gor x.go).func,(s.gor x.go).pc,opAt p s x.go,x.alt,val,if opAt p s x.go=65 then (instrAt p s x.go).n else 0,touchFill (touch p s x.go),(touch p s x.go).length⟩
def zeroGor:Gor:=⟨0,0,0,0,List.replicate 8 0⟩
def zeroChn:Chn:=⟨List.replicate 4 0,0,false,0,0,0⟩
def zeroStt:Stt:=⟨List.replicate 8 0,List.replicate 4 0,List.replicate 4 zeroChn,List.replicate 6 zeroGor,0⟩
def zeroEvent:Event:=⟨0,0,0,0,0,0,0,List.replicate 6 ⟨0,0,false⟩,0⟩
end Go.Eng
