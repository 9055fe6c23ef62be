/- A part of the proof: walks through the program's functions, and what they compute. -/
import Derived.WalkKit
import Derived.ProofKit
import Derived.Below
import Derived.Laws.AppendOwn
import Derived.Laws.OwnMore
import Derived.Deep.Quiet
import Derived.Lib.SliceRun
set_option linter.unusedSimpArgs false
set_option linter.unusedVariables false
namespace Go.Eng
open Go.RowKit
inductive V where
 | int (n:Int)
 | bool (b:Bool)
 | agg (l:List V)
 | list (l:List V)
 | str (s:ByteArray)
 | ref (v:V)
 | clo (f:FuncId) (ts:List TypeId) (l:List V)
instance:Inhabited V:=⟨.int 0⟩
def V.toInt:V→Int|.int n=>n|_=>0
def V.toBool:V→Bool|.bool b=>b|_=>false
def V.toList:V→List V|.list l=>l|.agg l=>l|_=>[]
def V.toStr:V→ByteArray|.str s=>s|_=>ByteArray.empty
def V.deref:V→V|.ref v=>v|_=>default
@[simp] theorem V.toInt_int (n:Int):(V.int n).toInt=n:=rfl
@[simp] theorem V.toBool_bool (b:Bool):(V.bool b).toBool=b:=rfl
@[simp] theorem V.toList_list (l:List V):(V.list l).toList=l:=rfl
@[simp] theorem V.toList_agg (l:List V):(V.agg l).toList=l:=rfl
@[simp] theorem V.toStr_str (s:ByteArray):(V.str s).toStr=s:=rfl
@[simp] theorem V.deref_ref (v:V):(V.ref v).deref=v:=rfl
def V.sub (v:V) (k:Nat):V:=v.toList.getD k default
def V.setSub (v:V) (k:Nat) (x:V):V:=match v with
 | .agg l=>.agg (l.set k x)
 | .list l=>.list (l.set k x)
 | v=>v
def V.get (v:V):List Nat→V
 | []=>v
 | k::p=>(v.get p).sub k
def V.put (v:V):List Nat→V→V
 | [],x=>x
 | k::p,x=>v.put p ((v.get p).setSub k x)
inductive TyD where
 | int (k:IntKind)
 | bool
 | str
 | struct (ts:List TypeId)
 | arr (n:Nat) (e:TypeId)
 | slice (e:TypeId)
 | ptr (e:TypeId)
 | fn
 | other
 deriving DecidableEq,Inhabited
def TyD.isAgg:TyD→Bool|.struct _|.arr _ _=>true|_=>false
structure Tab where
 ty:TypeId→TyD
 sz:TypeId→Nat
 by_:TypeId→Nat
 zero:TypeId→V
 glob:World→Prop:=fun _=>True
 globB:∀ w w',glob w→Below w.heap.size w w'→glob w':=by intro _ _ _ _;trivial
section
variable (T:Tab)
def Tab.szs:List TypeId→Nat
 | []=>0
 | t::ts=>T.sz t+Tab.szs ts
def Tab.offs (ts:List TypeId) (k:Nat):Nat:=T.szs (ts.take k)
def Seg (w:World) (b off:Nat) (cs:List Value):Prop:=∀ j x,cs[j]?=some x→w.cell? ⟨b,off+j,none⟩=some x
mutual
inductive Fits (w:World) (F:Nat→Prop):TypeId→V→List Value→Prop
 | int {t k n}:T.ty t=.int k→k.has n→Fits w F t (.int n) [.int k n]
 | bool {t b}:T.ty t=.bool→Fits w F t (.bool b) [.bool b]
 | str {t s}:T.ty t=.str→Fits w F t (.str s) [.string s]
 | struct {t ts l cs}:T.ty t=.struct ts→FitsL w F ts l cs→Fits w F t (.agg l) cs
 | arr {t n e l cs}:T.ty t=.arr n e→FitsL w F (List.replicate n e) l cs→Fits w F t (.agg l) cs
 | nil {t e}:T.ty t=.slice e→Fits w F t (.list []) [.slice none 0 0]
 | empty {t e ad c}:T.ty t=.slice e→Fits w F t (.list []) [.slice (some ad) 0 c]
 | slice {t e b off n cap l cs}:T.ty t=.slice e→F b→Seg w b off cs→l.length=n→FitsL w F (List.replicate n e) l cs→n≤cap →
    Fits w F t (.list l) [.slice (some ⟨b,off,none⟩) n cap]
 | ref {t e b off v cs}:T.ty t=.ptr e→F b→Seg w b off cs→Fits w F e v cs→Fits w F t (.ref v) [.pointer (some ⟨b,off,none⟩)]
 | clo {t f ts l cs}:T.ty t=.fn→FitsP w F ts l cs→Fits w F t (.clo f ts l) [.func (.func f) #[] cs.toArray]
inductive FitsL (w:World) (F:Nat→Prop):List TypeId→List V→List Value→Prop
 | nil:FitsL w F [] [] []
 | cons {t ts v vs c cs}:Fits w F t v c→FitsL w F ts vs cs→FitsL w F (t::ts) (v::vs) (c++cs)
inductive FitsP (w:World) (F:Nat→Prop):List TypeId→List V→List Value→Prop
 | nil:FitsP w F [] [] []
 | cons {t ts v vs b off ds cs}:F b→Seg w b off ds→Fits w F t v ds→FitsP w F ts vs cs→FitsP w F (t::ts) (v::vs) (.pointer (some ⟨b,off,none⟩)::cs)
end
variable {T} {w w':World} {F F':Nat→Prop}
theorem Seg.mono {b off:Nat} {cs:List Value} (h:Seg w b off cs) (hb:w'.heap[b]?=w.heap[b]?):Seg w' b off cs :=
 fun j x hx=>(World.cell?_of_block (w:=w) (a:=⟨b,off+j,none⟩) hb).trans (h j x hx)
mutual
theorem Fits.mono {t:TypeId} {v:V} {cs:List Value} (h:Fits T w F t v cs) (hF:∀ b,F b→F' b) (hw:∀ b,F b→w'.heap[b]?=w.heap[b]?):Fits T w' F' t v cs:=by
 cases h with
 | int h1 h2=>exact .int h1 h2
 | bool h1=>exact .bool h1
 | str h1=>exact .str h1
 | struct h1 h2=>exact .struct h1 (h2.mono hF hw)
 | arr h1 h2=>exact .arr h1 (h2.mono hF hw)
 | nil h1=>exact .nil h1
 | empty h1=>exact .empty h1
 | slice h1 h2 h3 h4 h5 h6=>exact .slice h1 (hF _ h2) (h3.mono (hw _ h2)) h4 (h5.mono hF hw) h6
 | ref h1 h2 h3 h4=>exact .ref h1 (hF _ h2) (h3.mono (hw _ h2)) (h4.mono hF hw)
 | clo h1 h2=>exact .clo h1 (h2.mono hF hw)
theorem FitsL.mono {ts:List TypeId} {l:List V} {cs:List Value} (h:FitsL T w F ts l cs) (hF:∀ b,F b→F' b) (hw:∀ b,F b→w'.heap[b]?=w.heap[b]?):FitsL T w' F' ts l cs:=by
 cases h with
 | nil=>exact .nil
 | cons h1 h2=>exact .cons (h1.mono hF hw) (h2.mono hF hw)
theorem FitsP.mono {ts:List TypeId} {l:List V} {cs:List Value} (h:FitsP T w F ts l cs) (hF:∀ b,F b→F' b) (hw:∀ b,F b→w'.heap[b]?=w.heap[b]?):FitsP T w' F' ts l cs:=by
 cases h with
 | nil=>exact .nil
 | cons h1 h2 h3 h4=>exact .cons (hF _ h1) (h2.mono (hw _ h1)) (h3.mono hF hw) (h4.mono hF hw)
end
structure Tab.Sized (T:Tab):Prop where
 int:∀ t k,T.ty t=.int k→T.sz t=1
 bool:∀ t,T.ty t=.bool→T.sz t=1
 str:∀ t,T.ty t=.str→T.sz t=1
 slice:∀ t e,T.ty t=.slice e→T.sz t=1∧0<T.sz e
 ptr:∀ t e,T.ty t=.ptr e→T.sz t=1
 fn:∀ t,T.ty t=.fn→T.sz t=1
 struct:∀ t ts,T.ty t=.struct ts→T.sz t=T.szs ts
 arr:∀ t n e,T.ty t=.arr n e→T.sz t=T.szs (List.replicate n e)
theorem ZI (T:Tab) (n:Nat) (e:TypeId):T.szs (List.replicate n e)=n*T.sz e:=by
 induction n with
 | zero=>simp [Tab.szs]
 | succ n ih=>simp [List.replicate_succ,Tab.szs,ih,Nat.add_mul,Nat.add_comm]
theorem Qv (T:Tab) (n k:Nat) (e:TypeId) (h:k≤n):T.offs (List.replicate n e) k=k*T.sz e:=by
 unfold Tab.offs
 rw [List.take_replicate,Nat.min_eq_left h,ZI]
mutual
theorem Fits.len (hS:T.Sized) {t:TypeId} {v:V} {cs:List Value} (h:Fits T w F t v cs):cs.length=T.sz t:=by
 cases h with
 | int h1 h2=>simp [hS.int _ _ h1]
 | bool h1=>simp [hS.bool _ h1]
 | str h1=>simp [hS.str _ h1]
 | struct h1 h2=>rw [hS.struct _ _ h1];exact h2.len hS
 | arr h1 h2=>rw [hS.arr _ _ _ h1];exact h2.len hS
 | nil h1=>simp [(hS.slice _ _ h1).1]
 | empty h1=>simp [(hS.slice _ _ h1).1]
 | slice h1 h2 h3 h4 h5 h6=>simp [(hS.slice _ _ h1).1]
 | ref h1 h2 h3 h4=>simp [hS.ptr _ _ h1]
 | clo h1 h2=>simp [hS.fn _ h1]
theorem FitsL.len (hS:T.Sized) {ts:List TypeId} {l:List V} {cs:List Value} (h:FitsL T w F ts l cs):cs.length=T.szs ts:=by
 cases h with
 | nil=>rfl
 | cons h1 h2=>rw [List.length_append,h1.len hS,h2.len hS];rfl
end
def QMK (T:Tab) (w:World) (F:Nat→Prop) (v:V) (cs:List Value):TyD→Prop
 | .int k=>∃ n,v=.int n∧k.has n∧cs=[.int k n]
 | .bool=>∃ b,v=.bool b∧cs=[.bool b]
 | .str=>∃ s,v=.str s∧cs=[.string s]
 | .struct ts=>∃ l,v=.agg l∧FitsL T w F ts l cs
 | .arr n e=>∃ l,v=.agg l∧FitsL T w F (List.replicate n e) l cs
 | .slice e=>(v=.list []∧∃ ad c,cs=[.slice ad 0 c]∧(ad=none→c=0))∨∃ b off n cap l ds,v=.list l∧cs=[.slice (some ⟨b,off,none⟩) n cap]∧F b∧Seg w b off ds∧l.length=n∧FitsL T w F (List.replicate n e) l ds∧n≤cap
 | .ptr e=>∃ b off x ds,v=.ref x∧cs=[.pointer (some ⟨b,off,none⟩)]∧F b∧Seg w b off ds∧Fits T w F e x ds
 | .fn=>∃ f ts l xs,v=.clo f ts l∧cs=[.func (.func f) #[] xs.toArray]∧FitsP T w F ts l xs
 | .other=>False
theorem Fits.inv {t:TypeId} {v:V} {cs:List Value} (h:Fits T w F t v cs):QMK T w F v cs (T.ty t):=by
 cases h with
 | int h1 h2=>rw [h1];exact ⟨_,rfl,h2,rfl⟩
 | bool h1=>rw [h1];exact ⟨_,rfl,rfl⟩
 | str h1=>rw [h1];exact ⟨_,rfl,rfl⟩
 | struct h1 h2=>rw [h1];exact ⟨_,rfl,h2⟩
 | arr h1 h2=>rw [h1];exact ⟨_,rfl,h2⟩
 | nil h1=>rw [h1];exact .inl ⟨rfl,none,0,rfl,fun _=>rfl⟩
 | empty h1=>rw [h1];exact .inl ⟨rfl,some _,_,rfl,fun h=>by cases h⟩
 | slice h1 h2 h3 h4 h5 h6=>rw [h1];exact .inr ⟨_,_,_,_,_,_,rfl,rfl,h2,h3,h4,h5,h6⟩
 | ref h1 h2 h3 h4=>rw [h1];exact ⟨_,_,_,_,rfl,rfl,h2,h3,h4⟩
 | clo h1 h2=>rw [h1];exact ⟨_,_,_,_,rfl,rfl,h2⟩
theorem Fits.inv' {t:TypeId} {v:V} {cs:List Value} {d:TyD} (hd:T.ty t=d) (h:Fits T w F t v cs):QMK T w F v cs d:=hd▸h.inv
theorem Fits.void {t:TypeId} {e:TypeId} {ad:Option Addr} {c:Nat} (h:T.ty t=.slice e) (hc:ad=none→c=0):Fits T w F t (.list []) [.slice ad 0 c]:=by
 cases ad with
 | none=>rw [hc rfl];exact .nil h
 | some ad=>exact .empty h
theorem FitsL.lens {ts:List TypeId}:∀ {l:List V} {cs:List Value},FitsL T w F ts l cs→l.length=ts.length:=by
 induction ts with
 | nil=>intro l cs h;cases h;rfl
 | cons t ts ih=>intro l cs h;cases h with|cons h1 h2=>simp [ih h2]
theorem FitsL.nth (hS:T.Sized) {ts:List TypeId}:∀ {l:List V} {cs:List Value},FitsL T w F ts l cs→∀ {k:Nat} {t:TypeId},ts[k]?=some t →
 Fits T w F t (l.getD k default) ((cs.drop (T.offs ts k)).take (T.sz t)):=by
 induction ts with
 | nil=>intro l cs h k t hk;simp at hk
 | cons u ts ih =>
   intro l cs h k t hk
   cases h with
   | cons h1 h2 =>
     rename_i v vs c ds
     have hc:=h1.len hS
     cases k with
     | zero =>
       simp at hk
       subst hk
       simp only [Tab.offs,List.take_zero,Tab.szs,List.drop_zero,List.getD_cons_zero]
       rw [← hc,List.take_left]
       exact h1
     | succ k =>
       have:=ih h2 (k:=k) (t:=t) (by simpa using hk)
       simp only [Tab.offs,List.take_succ_cons,Tab.szs,List.getD_cons_succ] at this ⊢
       rw [← hc,List.drop_append,List.drop_eq_nil_of_le (by omega),List.nil_append,Nat.add_sub_cancel_left]
       exact this
theorem FitsL.ofNth {ts:List TypeId}:∀ {l:List V} {cs:List Value},l.length=ts.length→cs.length=T.szs ts →
 (∀ (k:Nat) (t:TypeId),ts[k]?=some t→Fits T w F t (l.getD k default) ((cs.drop (T.offs ts k)).take (T.sz t)))→FitsL T w F ts l cs:=by
 induction ts with
 | nil =>
   intro l cs h1 h2 _
   cases l with
   | nil=>cases cs with
     | nil=>exact .nil
     | cons=>simp [Tab.szs] at h2
   | cons=>simp at h1
 | cons u ts ih =>
   intro l cs h1 h2 h
   cases l with
   | nil=>simp at h1
   | cons v vs =>
     have h0:=h 0 u rfl
     simp only [Tab.offs,List.take_zero,Tab.szs,List.drop_zero,List.getD_cons_zero] at h0
     have e:cs=cs.take (T.sz u)++cs.drop (T.sz u):=(List.take_append_drop _ _).symm
     rw [e]
     simp only [Tab.szs] at h2
     refine .cons h0 (ih (by simpa using h1) (by simp [h2]) fun k t hk=>?_)
     have:=h (k+1) t (by simpa using hk)
     simp only [Tab.offs,List.take_succ_cons,Tab.szs,List.getD_cons_succ] at this ⊢
     rw [List.drop_drop]
     exact this
theorem yK (T:Tab) {ts:List TypeId}:∀ {k:Nat} {t:TypeId},ts[k]?=some t→T.offs ts k+T.sz t≤T.szs ts:=by
 induction ts with
 | nil=>intro k t h;simp at h
 | cons u ts ih =>
   intro k t h
   cases k with
   | zero=>simp at h;subst h;simp [Tab.offs,Tab.szs]
   | succ k =>
     have:=ih (k:=k) (t:=t) (by simpa using h)
     simp only [Tab.offs,List.take_succ_cons,Tab.szs] at this ⊢
     omega
theorem FitsL.setNth (hS:T.Sized) {ts:List TypeId}:∀ {l:List V} {cs:List Value},FitsL T w F ts l cs→∀ {k:Nat} {t:TypeId} {x:V} {ds:List Value},ts[k]?=some t →
 Fits T w F t x ds→FitsL T w F ts (l.set k x) (cs.take (T.offs ts k)++ds++cs.drop (T.offs ts k+T.sz t)):=by
 induction ts with
 | nil=>intro l cs h k t x ds hk;simp at hk
 | cons u ts ih =>
   intro l cs h k t x ds hk hx
   cases h with
   | cons h1 h2 =>
     rename_i v vs c cs'
     have hc:=h1.len hS
     cases k with
     | zero =>
       simp at hk
       subst hk
       simp only [Tab.offs,List.take_zero,Tab.szs,List.nil_append,List.set_cons_zero,Nat.zero_add]
       rw [List.drop_append,List.drop_eq_nil_of_le (by omega),List.nil_append,hc,Nat.sub_self,List.drop_zero]
       exact .cons hx h2
     | succ k =>
       have:=ih h2 (k:=k) (t:=t) (x:=x) (ds:=ds) (by simpa using hk) hx
       simp only [Tab.offs,List.take_succ_cons,Tab.szs,List.set_cons_succ] at this ⊢
       have e:(c++cs').take (T.sz u+T.szs (ts.take k))++ds++(c++cs').drop (T.sz u+T.szs (ts.take k)+T.sz t) =
        c++(cs'.take (T.szs (ts.take k))++ds++cs'.drop (T.szs (ts.take k)+T.sz t)):=by
        rw [List.take_append,List.drop_append,List.take_of_length_le (by omega),List.drop_eq_nil_of_le (by omega),List.nil_append,hc,Nat.add_sub_cancel_left,
         show T.sz u+T.szs (ts.take k)+T.sz t-T.sz u=T.szs (ts.take k)+T.sz t by omega]
        simp [List.append_assoc]
       rw [e]
       exact .cons h1 this
theorem FitsL.append {ts us:List TypeId}:∀ {l m:List V} {cs ds:List Value},FitsL T w F ts l cs→FitsL T w F us m ds→FitsL T w F (ts++us) (l++m) (cs++ds):=by
 induction ts with
 | nil=>intro l m cs ds h k;cases h;simpa using k
 | cons t ts ih =>
   intro l m cs ds h k
   cases h with
   | cons h1 h2=>rw [List.append_assoc];exact .cons h1 (ih h2 k)
theorem FitsL.split (hS:T.Sized) {ts us:List TypeId}:∀ {l:List V} {cs:List Value},FitsL T w F (ts++us) l cs →
 FitsL T w F ts (l.take ts.length) (cs.take (T.szs ts))∧FitsL T w F us (l.drop ts.length) (cs.drop (T.szs ts)):=by
 induction ts with
 | nil=>intro l cs h;exact ⟨by simpa [Tab.szs] using FitsL.nil,by simpa [Tab.szs] using h⟩
 | cons t ts ih =>
   intro l cs h
   cases h with
   | cons h1 h2 =>
     rename_i v vs c cs'
     have hc:=h1.len hS
     obtain ⟨a,b⟩:=ih h2
     refine ⟨?_,?_⟩
     · simp only [List.length_cons,List.take_succ_cons,Tab.szs]
       have e:(c++cs').take (T.sz t+T.szs ts)=c++cs'.take (T.szs ts):=by
        rw [List.take_append,List.take_of_length_le (by omega),hc,Nat.add_sub_cancel_left]
       rw [e]
       exact .cons h1 a
     · simp only [List.length_cons,List.drop_succ_cons,Tab.szs]
       have e:(c++cs').drop (T.sz t+T.szs ts)=cs'.drop (T.szs ts):=by
        rw [List.drop_append,List.drop_eq_nil_of_le (by omega),hc,Nat.add_sub_cancel_left,List.nil_append]
       rw [e]
       exact b
theorem FitsL.slice (hS:T.Sized) {n lo m:Nat} {e:TypeId} {l:List V} {cs:List Value} (h:FitsL T w F (List.replicate n e) l cs) (hm:lo+m≤n) :
 FitsL T w F (List.replicate m e) ((l.drop lo).take m) ((cs.drop (lo*T.sz e)).take (m*T.sz e)):=by
 have e1:List.replicate n e=List.replicate lo e++(List.replicate m e++List.replicate (n-lo-m) e):=by
  rw [List.replicate_append_replicate,List.replicate_append_replicate];congr 1;omega
 rw [e1] at h
 have h2:=(h.split hS).2
 rw [List.length_replicate,ZI] at h2
 have h3:=(h2.split hS).1
 rwa [List.length_replicate,ZI] at h3
theorem Seg.sub {b off:Nat} {cs:List Value} (h:Seg w b off cs) (k n:Nat):Seg w b (off+k) ((cs.drop k).take n):=by
 intro j x hx
 rw [List.getElem?_take] at hx
 split at hx
 · rw [List.getElem?_drop] at hx
   have:=h _ _ hx
   rwa [← Nat.add_assoc] at this
 · cases hx
inductive PathOk (T:Tab) (root:TypeId):List Nat→Nat→TypeId→Prop
 | nil:PathOk T root [] 0 root
 | fld {p off s ts k t}:PathOk T root p off s→T.ty s=.struct ts→ts[k]?=some t→PathOk T root (k::p) (off+T.offs ts k) t
 | idx {p off s n e k}:PathOk T root p off s→T.ty s=.arr n e→k<n→PathOk T root (k::p) (off+k*T.sz e) e
theorem PathOk.get (hS:T.Sized) {root t:TypeId} {p:List Nat} {off:Nat} (h:PathOk T root p off t) {v:V} {cs:List Value} (hv:Fits T w F root v cs) :
 Fits T w F t (v.get p) ((cs.drop off).take (T.sz t))∧off+T.sz t≤cs.length:=by
 induction h with
 | nil =>
   have:=hv.len hS
   refine ⟨?_,by omega⟩
   rw [List.drop_zero,List.take_of_length_le (by omega)]
   exact hv
 | fld h1 h2 h3 ih =>
   rename_i p off s ts k t
   obtain ⟨a,ha⟩:=ih
   have hsz:=hS.struct _ _ h2
   have ho:=yK T h3
   obtain ⟨l,hg,q2⟩:=a.inv' h2
   ·
    have:=q2.nth hS h3
    refine ⟨?_,by omega⟩
    show Fits T w F t ((v.get p).sub k) _
    rw [hg]
    show Fits T w F t (List.getD _ k default) _
    rw [List.drop_take,List.take_take,List.drop_drop,Nat.min_eq_left (by omega)] at this
    exact this
 | idx h1 h2 h3 ih =>
   rename_i p off s n e k
   obtain ⟨a,ha⟩:=ih
   have hsz:=hS.arr _ _ _ h2
   have hk:(List.replicate n e)[k]?=some e:=by simp [h3]
   have ho:=yK T hk
   rw [Qv T n k e (by omega)] at ho
   obtain ⟨l,hg,q2⟩:=a.inv' h2
   ·
    have:=q2.nth hS hk
    rw [Qv T n k e (by omega)] at this
    refine ⟨?_,by omega⟩
    show Fits T w F e ((v.get p).sub k) _
    rw [hg]
    show Fits T w F e (List.getD _ k default) _
    rw [List.drop_take,List.take_take,List.drop_drop,Nat.min_eq_left (by omega)] at this
    exact this
def Qf (cs:List Value) (off:Nat) (ds:List Value):List Value:=cs.take off++ds++cs.drop (off+ds.length)
theorem Wx (cs ds es:List Value) (off k:Nat) (h1:off+ds.length≤cs.length) (h2:k+es.length≤ds.length) (hd:(cs.drop off).take ds.length=ds) :
 Qf cs off (Qf ds k es)=Qf cs (off+k) es:=by
 have e:cs=cs.take off++ds++cs.drop (off+ds.length):=by
  rw [← List.drop_drop]
  conv=>lhs;rw [← List.take_append_drop off cs,← List.take_append_drop ds.length (cs.drop off),hd]
  rw [List.append_assoc]
 have hl:(Qf ds k es).length=ds.length:=by simp only [Qf,List.length_append,List.length_take,List.length_drop];omega
 have e1:cs.take (off+k)=cs.take off++ds.take k:=by
  conv=>lhs;rw [e]
  rw [List.append_assoc,List.take_append,List.take_of_length_le (by simp;omega),List.length_take,Nat.min_eq_left (by omega),Nat.add_sub_cancel_left,List.take_append_of_le_length (by omega)]
 have e2:cs.drop (off+k+es.length)=ds.drop (k+es.length)++cs.drop (off+ds.length):=by
  conv=>lhs;rw [e]
  rw [List.append_assoc,List.drop_append,List.drop_eq_nil_of_le (by simp;omega),List.nil_append,List.length_take,Nat.min_eq_left (by omega),
   show off+k+es.length-off=k+es.length by omega,List.drop_append_of_le_length (by omega)]
 unfold Qf at hl ⊢
 rw [hl,e1,e2]
 simp only [List.append_assoc]
theorem PathOk.put (hS:T.Sized) {root t:TypeId} {p:List Nat} {off:Nat} (h:PathOk T root p off t):∀ {v x:V} {cs ds:List Value},Fits T w F root v cs→Fits T w F t x ds →
 Fits T w F root (v.put p x) (Qf cs off ds):=by
 induction h with
 | nil =>
   intro v x cs ds hv hx
   have h1:=hv.len hS
   have h2:=hx.len hS
   have:Qf cs 0 ds=ds:=by simp [Qf,List.drop_eq_nil_of_le (show cs.length≤ds.length by omega)]
   rw [this]
   exact hx
 | fld h1 h2 h3 ih =>
   rename_i p off s ts k t
   intro v x cs ds hv hx
   obtain ⟨a,ha⟩:=h1.get hS hv
   have hsz:=hS.struct _ _ h2
   have ho:=yK T h3
   have hxl:=hx.len hS
   have hal:=a.len hS
   show Fits T w F root (v.put p ((v.get p).setSub k x)) _
   have hnew:Fits T w F s ((v.get p).setSub k x) (Qf ((cs.drop off).take (T.sz s)) (T.offs ts k) ds):=by
    obtain ⟨l,hg,q2⟩:=a.inv' h2
    rw [hg]
    ·
     have:=q2.setNth hS h3 hx
     unfold Qf
     rw [hxl]
     exact .struct h2 this
   have:=ih hv hnew
   rwa [Wx _ _ _ _ _ (by omega) (by omega) (by rw [hal])] at this
 | idx h1 h2 h3 ih =>
   rename_i p off s n e k
   intro v x cs ds hv hx
   obtain ⟨a,ha⟩:=h1.get hS hv
   have hsz:=hS.arr _ _ _ h2
   have hk:(List.replicate n e)[k]?=some e:=by simp [h3]
   have ho:=yK T hk
   have hxl:=hx.len hS
   have hal:=a.len hS
   rw [Qv T n k e (by omega)] at ho
   show Fits T w F root (v.put p ((v.get p).setSub k x)) _
   have hnew:Fits T w F s ((v.get p).setSub k x) (Qf ((cs.drop off).take (T.sz s)) (k*T.sz e) ds):=by
    obtain ⟨l,hg,q2⟩:=a.inv' h2
    rw [hg]
    ·
     have:=q2.setNth hS hk hx
     rw [Qv T n k e (by omega)] at this
     unfold Qf
     rw [hxl]
     exact .arr h2 this
   have:=ih hv hnew
   rwa [Wx _ _ _ _ _ (by omega) (by omega) (by rw [hal])] at this
end
inductive E where
 | int (k:IntKind) (n:Int)
 | bool (b:Bool)
 | str (s:ByteArray)
 | data (t:TypeId) (v:V)
 | fs (e:TypeId) (l:List V) (clip:Bool)
 | sl (i:Nat) (e:TypeId) (lo len:Nat) (clip:Bool)
 | nilsl
 | ptr (i:Nat) (p:List Nat) (t:TypeId)
 | rp (i j:Nat) (p:List Nat) (t:TypeId)
 | fptr (t:TypeId) (v:V)
 | av (i:Nat) (p:List Nat) (t:TypeId) (lo:Nat)
 | fn (f:FuncId) (caps:List E)
 | nilfn
 | tup (l:List E)
 | agg (t:TypeId) (l:List E)
 | undef
instance:Inhabited E:=⟨.undef⟩
inductive RI where
 | none
 | var (b:Nat) (t:TypeId)
 | row (e:TypeId) (r:Value)
def RI.block:RI→Option Nat
 | .none=>Option.none
 | .var b _=>some b
 | .row _ r=>r.ownBlock
inductive Obj where
 | var (t:TypeId) (e:E)
 | row (e:TypeId) (l:List V)
 | erow (e:TypeId) (l:List E)
 | dead
abbrev Tm:=List (Nat × Bool × E)
structure Base (T:Tab) where
 w:World
 G:Nat→Prop
 ok:T.glob w
structure St where
 tm:Tm
 ob:List Obj
 out:List Tm:=[]
 nt:Nat:=0
section
variable (T:Tab) (w:World) (F:Nat→Prop) (ρ:Nat→RI)
def FRow (e:TypeId) (l:List V) (clip:Bool) (v:Value):Prop :=
 (∃ ad c,v=.slice ad 0 c∧l=[]∧(ad=none→c=0)∧(clip=true→c=0))∨∃ b off cap cs,v=.slice (some ⟨b,off,none⟩) l.length cap∧l.length≤cap∧(clip=true→cap=l.length)∧F b∧Seg w b off cs ∧
   FitsL T w F (List.replicate l.length e) l cs
def QVk (r:RI) (e:TypeId) (lo len:Nat) (clip:Bool) (v:Value):Prop :=
 (r=.row e (.slice none 0 0)∧v=.slice none 0 0∧lo=0∧len=0) ∨
 ∃ b n cap off,r=.row e (.slice (some ⟨b,0,none⟩) n cap)∧lo+len≤n∧n≤cap∧v=.slice (some ⟨b,off,none⟩) len (if clip then len else cap-lo) ∧
   (lo=0→off=0)∧(len=0∨off=lo*T.sz e)
def Holds (t:TypeId) (v:Value) (cs:Array Value):Prop :=
 cs.size=T.sz t∧(if (T.ty t).isAgg then v=.agg cs else cs=#[v]∧v.oneCell'=true)
def Joins:List TypeId→List Value→List Value→Prop
 | [],[],cs=>cs=[]
 | t::ts,v::vs,cs=>∃ r,cs=v.cells.toList++r∧Holds T t v v.cells∧(∀ c∈v.cells,c.oneCell'=true)∧Joins ts vs r
 | _,_,_=>False
mutual
def ERel:E→Value→Prop
 | .int k n,v=>v=.int k n∧k.has n
 | .bool b,v=>v=.bool b
 | .str s,v=>v=.string s
 | .data t x,v=>∃ cs:Array Value,v=.agg cs∧(T.ty t).isAgg=true∧Fits T w F t x cs.toList
 | .fs e l clip,v=>FRow T w F e l clip v
 | .sl i e lo len clip,v=>QVk T (ρ i) e lo len clip v
 | .nilsl,v=>v=.slice none 0 0
 | .ptr i p t,v=>∃ b root off,ρ i=.var b root∧PathOk T root p off t∧v=.pointer (some ⟨b,off,none⟩)
 | .rp i j p t,v=>∃ b e n cap off,ρ i=.row e (.slice (some ⟨b,0,none⟩) n cap)∧PathOk T e p off t∧v=.pointer (some ⟨b,j*T.sz e+off,none⟩)
 | .av i p t lo,v=>∃ b root off n e,ρ i=.var b root∧PathOk T root p off t∧T.ty t=.arr n e∧lo<n∧v=.slice (some ⟨b,off+lo*T.sz e,none⟩) (n-lo) (n-lo)
 | .fptr t x,v=>∃ b off cs,v=.pointer (some ⟨b,off,none⟩)∧F b∧Seg w b off cs∧Fits T w F t x cs
 | .fn f caps,v=>∃ cs:List Value,v=.func (.func f) #[] cs.toArray∧ERelL caps cs
 | .nilfn,v=>v=.nilFunc
 | .tup l,v=>∃ vs:List Value,v=.tuple vs.toArray∧ERelL l vs
 | .agg t l,v=>∃ (ts:List TypeId) (vs:List Value) (cs:Array Value),T.ty t=.struct ts∧v=.agg cs∧ERelL l vs∧Joins T ts vs cs.toList
 | .undef,_=>True
def ERelL:List E→List Value→Prop
 | [],[]=>True
 | e::es,v::vs=>ERel e v∧ERelL es vs
 | _,_=>False
end
def ORel (n0:Nat):RI→Obj→Prop
 | .var b t',.var t e=>(t'=t∧T.ty t≠.other∧∀ u x,e=.data u x→u=t)∧n0≤b∧¬ F b∧∃ cs ct v,w.heap[b]?=some (.cells cs ct (0,0))∧ERel T w F ρ e v∧Holds T t v cs∧(∀ c∈cs,c.oneCell'=true)
 | .row e' r,.row e l=>e'=e∧(∀ b,r.ownBlock=some b→¬ F b)∧∃ xs,w.ownsRow n0 e (T.sz e) r l.length xs∧FitsL T w F (List.replicate l.length e) l xs
 | .row e' r,.erow e l=>e'=e∧(∀ b,r.ownBlock=some b→¬ F b)∧(T.sz e=1∧(T.ty e).isAgg=false∧T.ty e≠.other)∧∃ xs,w.ownsRow n0 e (T.sz e) r l.length xs∧ERelL T w F ρ l xs∧∀ x∈xs,x.oneCell'=true
 | r,.dead=>r=.none
 | _,_=>False
def TmRel (tm:Tm) (tmps:Array Value):Prop :=
 ∀ t g e,tm.lookup t=some (g,e)→∃ v,tmps[t]?=some v∧(g=true→ERel T w F ρ e v)∧(g=false→v=undef)
def OutRel:List Tm→List (Array Value)→Prop
 | [],[]=>True
 | a::as,b::bs=>TmRel T w F ρ a b∧OutRel as bs
 | _,_=>False
structure Rel (w0:Base T) (σ:St) (tmps:Array Value) (outs:List (Array Value)):Prop where
 tm:TmRel T w F ρ σ.tm tmps
 out:OutRel T w F ρ σ.out outs
 ob:∀ i o,σ.ob[i]?=some o→ORel T w F ρ w0.w.heap.size (ρ i) o
 free:∀ i,σ.ob[i]?=none→ρ i=.none
 inj:∀ i j b,(ρ i).block=some b→(ρ j).block=some b→i=j
 fsub:∀ b,F b→b<w.heap.size
 below:Below w0.w.heap.size w0.w w
 size:tmps.size=σ.nt
 fold:∀ b,F b→w0.w.heap.size≤b∨w0.G b
end
variable {T:Tab} {w w':World} {w0:Base T} {F F':Nat→Prop} {ρ ρ':Nat→RI}
theorem FRow.mono {e:TypeId} {l:List V} {clip:Bool} {v:Value} (hF:∀ b,F b→F' b) (hw:∀ b,F b→w'.heap[b]?=w.heap[b]?) (h:FRow T w F e l clip v):FRow T w' F' e l clip v:=by
 rcases h with h|⟨b,off,cap,cs,h1,h2,h3,h4,h5,h6⟩
 · exact .inl h
 · exact .inr ⟨b,off,cap,cs,h1,h2,h3,hF _ h4,h5.mono (hw _ h4),h6.mono hF hw⟩
mutual
theorem ERel.mono (hF:∀ b,F b→F' b) (hw:∀ b,F b→w'.heap[b]?=w.heap[b]?) (hρ:∀ i,ρ i≠.none→ρ' i=ρ i):∀ {e:E} {v:Value},ERel T w F ρ e v→ERel T w' F' ρ' e v
 | .int _ _,_,h=>h
 | .bool _,_,h=>h
 | .str _,_,h=>h
 | .data _ _,_,⟨cs,h1,h2,h3⟩=>⟨cs,h1,h2,h3.mono hF hw⟩
 | .fs _ _ _,_,h=>FRow.mono hF hw h
 | .sl i e lo len clip,v,h=>by
   unfold ERel at h ⊢
   have:ρ' i=ρ i:=hρ i (by rcases h with ⟨h,_⟩|⟨_,_,_,_,h,_⟩<;>rw [h]<;>simp)
   rw [this];exact h
 | .nilsl,_,h=>h
 | .ptr i p t,v,⟨b,root,off,h1,h2,h3⟩=>⟨b,root,off,(hρ i (by rw [h1];simp)).trans h1,h2,h3⟩
 | .rp i j p t,v,⟨b,e,n,cap,off,h1,h2,h3⟩=>⟨b,e,n,cap,off,(hρ i (by rw [h1];simp)).trans h1,h2,h3⟩
 | .av i p t lo,v,⟨b,root,off,n,e,h1,h2,h3⟩=>⟨b,root,off,n,e,(hρ i (by rw [h1];simp)).trans h1,h2,h3⟩
 | .fptr _ _,_,⟨b,off,cs,h1,h2,h3,h4⟩=>⟨b,off,cs,h1,hF _ h2,h3.mono (hw _ h2),h4.mono hF hw⟩
 | .fn _ _,_,⟨cs,h1,h2⟩=>⟨cs,h1,ERelL.mono hF hw hρ h2⟩
 | .nilfn,_,h=>h
 | .tup _,_,⟨vs,h1,h2⟩=>⟨vs,h1,ERelL.mono hF hw hρ h2⟩
 | .agg _ _,_,⟨ts,vs,cs,h0,h1,h2,h3⟩=>⟨ts,vs,cs,h0,h1,ERelL.mono hF hw hρ h2,h3⟩
 | .undef,_,_=>trivial
theorem ERelL.mono (hF:∀ b,F b→F' b) (hw:∀ b,F b→w'.heap[b]?=w.heap[b]?) (hρ:∀ i,ρ i≠.none→ρ' i=ρ i):∀ {l:List E} {vs:List Value},ERelL T w F ρ l vs→ERelL T w' F' ρ' l vs
 | [],[],h=>h
 | _::_,_::_,⟨h1,h2⟩=>⟨ERel.mono hF hw hρ h1,ERelL.mono hF hw hρ h2⟩
 | [],_::_,h=>h.elim
 | _::_,[],h=>h.elim
end
theorem ERelL.at:∀ {l:List E} {vs:List Value} {k:Nat},ERelL T w F ρ l vs→k<l.length→∃ v,vs[k]?=some v∧ERel T w F ρ (l.getD k .undef) v
 | [],_,_,_,h=>by simp at h
 | e::l,[],_,hr,_=>hr.elim
 | e::l,v::vs,0,hr,_=>⟨v,rfl,hr.1⟩
 | e::l,v::vs,k+1,hr,h=>by
   obtain ⟨u,h1,h2⟩:=ERelL.at (l:=l) (vs:=vs) (k:=k) hr.2 (by simpa using h)
   exact ⟨u,by simpa using h1,by simpa using h2⟩
theorem ERelL.set:∀ {l:List E} {vs:List Value} {k:Nat} {e:E} {v:Value},ERelL T w F ρ l vs→ERel T w F ρ e v→ERelL T w F ρ (l.set k e) (vs.set k v)
 | [],[],_,_,_,_,_=>trivial
 | _::_,_::_,0,_,_,h,he=>⟨he,h.2⟩
 | _::_,_::_,k+1,_,_,h,he=>⟨h.1,ERelL.set (k:=k) h.2 he⟩
 | [],_::_,_,_,_,h,_=>h.elim
 | _::_,[],_,_,_,h,_=>h.elim
theorem we (T:Tab) (ts:List TypeId):T.offs ts 0=0:=by simp [Tab.offs,Tab.szs]
theorem wg (T:Tab) (t:TypeId) (ts:List TypeId) (k:Nat):T.offs (t::ts) (k+1)=T.sz t+T.offs ts k:=rfl
theorem QB9 (a r d:List Value) (n:Nat):Qf (a++r) (a.length+n) d=a++Qf r n d:=by
 unfold Qf
 rw [List.take_length_add_append,Nat.add_assoc,List.drop_length_add_append]
 simp only [List.append_assoc]
theorem Joins.nth:∀ {ts:List TypeId} {vs cs:List Value} {k:Nat} {t:TypeId},Joins T ts vs cs→ts[k]?=some t→∃ v,vs[k]?=some v∧Holds T t v v.cells∧(cs.drop (T.offs ts k)).take (T.sz t)=v.cells.toList
 | [],_,_,_,_,_,h=>by simp at h
 | _::_,[],_,_,_,h,_=>h.elim
 | t0::ts,v0::vs,cs,0,t,h,hk=>by
   obtain ⟨r,rfl,h1,h2,h3⟩:=h
   simp at hk
   subst hk
   refine ⟨v0,rfl,h1,?_⟩
   rw [we,List.drop_zero,← h1.1,List.take_left' (by simp)]
 | t0::ts,v0::vs,cs,k+1,t,h,hk=>by
   obtain ⟨r,rfl,h1,h2,h3⟩:=h
   obtain ⟨v,g1,g2,g3⟩:=h3.nth (k:=k) (by simpa using hk)
   refine ⟨v,by simpa using g1,g2,?_⟩
   rw [wg,← h1.1,← Array.length_toList,List.drop_length_add_append]
   exact g3
theorem Joins.set:∀ {ts:List TypeId} {vs cs:List Value} {k:Nat} {t:TypeId} {v:Value},Joins T ts vs cs→ts[k]?=some t→Holds T t v v.cells→(∀ c∈v.cells,c.oneCell'=true)→Joins T ts (vs.set k v) (Qf cs (T.offs ts k) v.cells.toList)
 | [],_,_,_,_,_,_,h,_,_=>by simp at h
 | _::_,[],_,_,_,_,h,_,_,_=>h.elim
 | t0::ts,v0::vs,cs,0,t,v,h,hk,hv,ho=>by
   obtain ⟨r,rfl,h1,h2,h3⟩:=h
   simp at hk
   subst hk
   refine ⟨r,?_,hv,ho,h3⟩
   unfold Qf
   rw [we,List.take_zero,List.nil_append,Nat.zero_add,List.drop_left' (by simp [h1.1,hv.1])]
 | t0::ts,v0::vs,cs,k+1,t,v,h,hk,hv,ho=>by
   obtain ⟨r,rfl,h1,h2,h3⟩:=h
   refine ⟨_,?_,h1,h2,h3.set (k:=k) (by simpa using hk) hv ho⟩
   rw [wg,← h1.1,← Array.length_toList,QB9]
theorem Joins.ones:∀ {ts:List TypeId} {vs cs:List Value},Joins T ts vs cs→∀ c∈cs,c.oneCell'=true
 | [],[],_,h=>by rw [show _=[] from h];simp
 | [],_::_,_,h=>h.elim
 | _::_,[],_,h=>h.elim
 | t::ts,v::vs,cs,h=>by
   obtain ⟨r,rfl,h1,h2,h3⟩:=h
   intro c hc
   rcases List.mem_append.1 hc with hc|hc
   · exact h2 c (by simpa using hc)
   · exact h3.ones c hc
theorem Joins.len:∀ {ts:List TypeId} {vs cs:List Value},Joins T ts vs cs→cs.length=T.szs ts
 | [],[],_,h=>by rw [show _=[] from h];rfl
 | [],_::_,_,h=>h.elim
 | _::_,[],_,h=>h.elim
 | t::ts,v::vs,cs,h=>by
   obtain ⟨r,rfl,h1,h2,h3⟩:=h
   rw [List.length_append,h3.len,Array.length_toList,h1.1]
   rfl
theorem ERelL.set_same:∀ {l:List E} {vs:List Value} {k:Nat} {e:E} {v:Value},ERelL T w F ρ l vs→vs[k]?=some v→ERel T w F ρ e v→ERelL T w F ρ (l.set k e) vs
 | [],[],_,_,_,_,_,_=>trivial
 | _::_,x::_,0,_,_,h,hk,he=>⟨by simp at hk;rw [hk];exact he,h.2⟩
 | _::_,_::_,k+1,_,_,h,hk,he=>⟨h.1,ERelL.set_same (k:=k) h.2 (by simpa using hk) he⟩
 | [],_::_,_,_,_,h,_,_=>h.elim
 | _::_,[],_,_,_,h,_,_=>h.elim
theorem TmRel.mono (hF:∀ b,F b→F' b) (hw:∀ b,F b→w'.heap[b]?=w.heap[b]?) (hρ:∀ i,ρ i≠.none→ρ' i=ρ i) {tm:Tm} {tmps:Array Value} (h:TmRel T w F ρ tm tmps):TmRel T w' F' ρ' tm tmps :=
 fun t g e he=>let ⟨v,h1,h2,h3⟩:=h t g e he;⟨v,h1,fun hg=>(h2 hg).mono hF hw hρ,h3⟩
theorem OutRel.mono (hF:∀ b,F b→F' b) (hw:∀ b,F b→w'.heap[b]?=w.heap[b]?) (hρ:∀ i,ρ i≠.none→ρ' i=ρ i):∀ {l:List Tm} {vs:List (Array Value)},OutRel T w F ρ l vs→OutRel T w' F' ρ' l vs
 | [],[],h=>h
 | _::_,_::_,⟨h1,h2⟩=>⟨h1.mono hF hw hρ,OutRel.mono hF hw hρ h2⟩
 | [],_::_,h=>h.elim
 | _::_,[],h=>h.elim
theorem ORel.mono {n0:Nat} {r:RI} {o:Obj} (hF:∀ b,F b→F' b) (hw:∀ b,F b→w'.heap[b]?=w.heap[b]?) (hρ:∀ i,ρ i≠.none→ρ' i=ρ i)
 (hb:∀ b,r.block=some b→w'.heap[b]?=w.heap[b]?) (hn:∀ b,r.block=some b→¬ F' b) (h:ORel T w F ρ n0 r o):ORel T w' F' ρ' n0 r o:=by
 cases o with
 | dead=>cases r<;>exact h
 | var t e =>
   cases r with
   | none=>exact h.elim
   | row _ _=>exact h.elim
   | var b t' =>
     obtain ⟨h1,h2,h3,cs,ct,v,h4,h5,h6,h7⟩:=h
     exact ⟨h1,h2,hn b rfl,cs,ct,v,(hb b rfl).trans h4,h5.mono hF hw hρ,h6,h7⟩
 | row e l =>
   cases r with
   | none=>exact h.elim
   | var _ _=>exact h.elim
   | row e' r =>
     obtain ⟨h1,h2,xs,h3,h4⟩:=h
     refine ⟨h1,fun b hb'=>hn b hb',xs,⟨h3.1,?_⟩,h4.mono hF hw⟩
     rcases h3.2 with h|⟨g,cap,cur,hr,hg,hh,rest⟩
     · exact .inl h
     · refine .inr ⟨g,cap,cur,hr,hg,?_,rest⟩
       rw [hb g (by simp [RI.block,hr,Value.ownBlock])]
       exact hh
 | erow e l =>
   cases r with
   | none=>exact h.elim
   | var _ _=>exact h.elim
   | row e' r =>
     obtain ⟨h1,h2,h0,xs,h3,h4,h5⟩:=h
     refine ⟨h1,fun b hb'=>hn b hb',h0,xs,⟨h3.1,?_⟩,h4.mono hF hw hρ,h5⟩
     rcases h3.2 with h|⟨g,cap,cur,hr,hg,hh,rest⟩
     · exact .inl h
     · refine .inr ⟨g,cap,cur,hr,hg,?_,rest⟩
       rw [hb g (by simp [RI.block,hr,Value.ownBlock])]
       exact hh
theorem ORel.own {n0:Nat} {r:RI} {o:Obj} (h:ORel T w F ρ n0 r o) {b:Nat} (hb:r.block=some b):b<w.heap.size∧¬ F b∧n0≤b:=by
 cases o with
 | dead=>cases r<;>first|(simp [RI.block] at hb;done)|(cases h;done)
 | var t e =>
   cases r with
   | none=>exact h.elim
   | row _ _=>exact h.elim
   | var b' t' =>
     obtain ⟨_,h2,h3,cs,ct,v,h4,_⟩:=h
     simp [RI.block] at hb
     subst hb
     exact ⟨(Array.getElem?_eq_some_iff.1 h4).1,h3,h2⟩
 | row e l =>
   cases r with
   | none=>exact h.elim
   | var _ _=>exact h.elim
   | row e' r =>
     obtain ⟨_,h2,xs,h3,_⟩:=h
     exact ⟨(h3.lt b hb).2,h2 b hb,(h3.lt b hb).1⟩
 | erow e l =>
   cases r with
   | none=>exact h.elim
   | var _ _=>exact h.elim
   | row e' r =>
     obtain ⟨_,h2,_,xs,h3,_⟩:=h
     exact ⟨(h3.lt b hb).2,h2 b hb,(h3.lt b hb).1⟩
theorem Rel.own {σ:St} {tmps:Array Value} {outs:List (Array Value)} (h:Rel T w F ρ w0 σ tmps outs) {i b:Nat} (hb:(ρ i).block=some b):b<w.heap.size∧¬ F b∧w0.w.heap.size≤b:=by
 cases ho:σ.ob[i]? with
 | none=>rw [h.free i ho] at hb;simp [RI.block] at hb
 | some o=>exact (h.ob i o ho).own hb
theorem Rel.later {σ:St} {tmps:Array Value} {outs:List (Array Value)} (h:Rel T w F ρ w0 σ tmps outs) (hb:Below w.heap.size w w'):Rel T w' F ρ w0 σ tmps outs:=by
 have hw:∀ b,F b→w'.heap[b]?=w.heap[b]?:=fun b hF=>hb.block b (h.fsub b hF)
 exact ⟨h.tm.mono (fun _ x=>x) hw (fun _ _=>rfl),h.out.mono (fun _ x=>x) hw (fun _ _=>rfl),
  fun i o ho=>(h.ob i o ho).mono (fun _ x=>x) hw (fun _ _=>rfl) (fun b hr=>hb.block b (h.own hr).1) (fun b hr=>(h.own hr).2.1),
  h.free,h.inj,fun b hF=>Nat.lt_of_lt_of_le (h.fsub b hF) hb.size,h.below.trans (hb.mono h.below.size),h.size,h.fold⟩
structure TabOk (P:Program) (T:Tab):Prop where
 sized:T.Sized
 int:∀ t k,T.ty t=.int k→P.underlying t=some (.int k)
 bool:∀ t,T.ty t=.bool→P.underlying t=some .bool
 str:∀ t,T.ty t=.str→P.underlying t=some .string
 struct:∀ t ts,T.ty t=.struct ts→∃ fs:Array Field,P.underlying t=some (.struct fs)∧fs.toList.map (·.type)=ts∧P.stoodInHeld t=false ∧
  ∀ (k : Nat) (f : Field), fs[k]? = some f → f.offset = T.offs ts k ∧ 0 < T.sz f.type ∧ (f.name == "_") = false ∧ T.ty f.type ≠ .other
 arr:∀ t n e,T.ty t=.arr n e→P.underlying t=some (.array n e)∧1<n∧0<T.sz e∧T.ty e≠.other
 slice:∀ t e,T.ty t=.slice e→P.underlying t=some (.slice e)∧T.ty e≠.other
 ptr:∀ t e,T.ty t=.ptr e→P.underlying t=some (.pointer e)∧T.ty e≠.other
 fn:∀ t,T.ty t=.fn→∃ a b c,P.underlying t=some (.func a b c)
 guard:∀ t,(T.ty t).isAgg=true→P.eqGuardType P.depth t=false
 info:∀ t,T.ty t≠.other→∃ i,P.info? t=some i∧i.size=T.sz t∧i.bytes=T.by_ t ∧
  ∃ z,i.zero=some z∧z.cells.size=T.sz t∧(∀ c∈z.cells,c.oneCell'=true)∧(if (T.ty t).isAgg then z=.agg z.cells else z.oneCell'=true) ∧
    (T.ty t≠.fn→(∀ e,T.ty t≠.ptr e)→∀ w F,Fits T w F t (T.zero t) z.cells.toList)∧(T.ty t=.fn→z=.nilFunc)∧(∀ e,T.ty t=.slice e→z=.slice none 0 0) ∧
    (∀ ts,T.ty t=.struct ts→∀ k u e,ts[k]?=some u→T.ty u=.slice e→z.cells.toList[T.offs ts k]?=some (.slice none 0 0))
variable {P:Program} {T:Tab} {w w':World} {w0:Base T} {F:Nat→Prop} {ρ:Nat→RI}
def Qz (T:Tab) (t:TypeId) (x:Value) (cs:List Value):Prop:=if (T.ty t).isAgg then x=.agg cs.toArray else cs=[x]
def QIG:List TypeId→List V→List E
 | t::ts,v::vs=>.fptr t v::QIG ts vs
 | _,_=>[]
def QDS:List E→Option (List TypeId × List V)
 | []=>some ([],[])
 | .fptr t v::es=>match QDS es with
   | some (ts,vs)=>some (t::ts,v::vs)
   | none=>none
 | _=>none
theorem QDT:∀ {ts:List TypeId} {l:List V} {cs:List Value},FitsP T w F ts l cs→ERelL T w F ρ (QIG ts l) cs
 | _,_,_,.nil=>trivial
 | _,_,_,.cons h1 h2 h3 h4=>⟨⟨_,_,_,rfl,h1,h2,h3⟩,QDT h4⟩
theorem QBp:∀ {es:List E} {ts:List TypeId} {l:List V} {cs:List Value},QDS es=some (ts,l)→ERelL T w F ρ es cs→FitsP T w F ts l cs
 | [],ts,l,[],h,_=>by simp [QDS] at h;obtain ⟨rfl,rfl⟩:=h;exact .nil
 | [],_,_,_::_,_,h=>h.elim
 | e::es,ts,l,[],_,h=>h.elim
 | e::es,ts,l,x::xs,h,⟨h1,h2⟩=>by
   cases e<;>simp only [QDS] at h<;>try (cases h;done)
   rename_i t v
   split at h
   · rename_i ts' vs' he
     simp at h
     obtain ⟨rfl,rfl⟩:=h
     obtain ⟨b,off,ds,rfl,k1,k2,k3⟩:=h1
     exact .cons k1 k2 k3 (QBp he h2)
   · cases h
def WA (T:Tab) (t:TypeId) (v:V):E:=match T.ty t with
 | .int k=>.int k v.toInt
 | .bool=>.bool v.toBool
 | .str=>.str v.toStr
 | .struct _|.arr _ _=>.data t v
 | .slice e=>.fs e v.toList false
 | .ptr e=>.fptr e v.deref
 | .fn=>match v with
   | .clo f ts l=>.fn f (QIG ts l)
   | _=>.fn 0 []
 | _=>.undef
theorem Yy {t:TypeId} {v:V} {x:Value} {cs:List Value} (h:Fits T w F t v cs) (hx:Qz T t x cs):ERel T w F ρ (WA T t v) x:=by
 unfold WA
 unfold Qz at hx
 split
 · rename_i k hk
   obtain ⟨n,rfl,hn,rfl⟩:=h.inv' hk
   simp [hk,TyD.isAgg] at hx
   exact ⟨hx.symm,hn⟩
 · rename_i hk
   obtain ⟨b,rfl,rfl⟩:=h.inv' hk
   simp [hk,TyD.isAgg] at hx
   exact hx.symm
 · rename_i hk
   obtain ⟨s,rfl,rfl⟩:=h.inv' hk
   simp [hk,TyD.isAgg] at hx
   exact hx.symm
 · rename_i ts hk
   simp [hk,TyD.isAgg] at hx
   exact ⟨cs.toArray,hx,by simp [hk,TyD.isAgg],by simpa using h⟩
 · rename_i n e hk
   simp [hk,TyD.isAgg] at hx
   exact ⟨cs.toArray,hx,by simp [hk,TyD.isAgg],by simpa using h⟩
 · rename_i e hk
   simp [hk,TyD.isAgg] at hx
   rcases h.inv' hk with ⟨rfl,ad,c,h2,h3⟩|⟨b,off,n,cap,l,ds,rfl,h2,h3,h4,rfl,h6,h7⟩
   · rw [h2] at hx
     simp at hx
     exact .inl ⟨ad,c,hx.symm,rfl,h3,fun h=>by cases h⟩
   · rw [h2] at hx
     simp at hx
     exact .inr ⟨b,off,cap,ds,hx.symm,h7,by simp,h3,h4,h6⟩
 · rename_i e hk
   simp [hk,TyD.isAgg] at hx
   obtain ⟨b,off,y,ds,rfl,h2,h3,h4,h5⟩:=h.inv' hk
   rw [h2] at hx
   simp at hx
   exact ⟨b,off,ds,hx.symm,h3,h4,h5⟩
 · rename_i hk
   simp [hk,TyD.isAgg] at hx
   obtain ⟨f,ts,l,xs,rfl,h2,h3⟩:=h.inv' hk
   rw [h2] at hx
   simp at hx
   exact ⟨xs,hx.symm,QDT h3⟩
 · trivial
def UY (T:Tab) (t:TypeId):E→Option V
 | .int k n=>if T.ty t=.int k then some (.int n) else none
 | .bool b=>if T.ty t=.bool then some (.bool b) else none
 | .str s=>if T.ty t=.str then some (.str s) else none
 | .data t' v=>if t'=t then some v else none
 | .fs e l _=>if T.ty t=.slice e then some (.list l) else none
 | .nilsl=>match T.ty t with|.slice _=>some (.list [])|_=>none
 | .fptr t' v=>if T.ty t=.ptr t' then some (.ref v) else none
 | .fn f cs=>if T.ty t=.fn then (match QDS cs with
   | some (ts,l)=>some (.clo f ts l)
   | none=>none) else none
 | _=>none
theorem XE {t:TypeId} {e:E} {x:Value} {v:V} (h:ERel T w F ρ e x) (hv:UY T t e=some v):Fits T w F t v x.cells.toList∧Qz T t x x.cells.toList:=by
 cases e<;>simp only [UY] at hv<;>try (cases hv;done)
 case int k n =>
  split at hv;rotate_left;· cases hv
  rename_i hk
  cases hv
  obtain ⟨rfl,hn⟩:=h
  exact ⟨.int hk hn,by simp [Qz,hk,TyD.isAgg,Value.cells]⟩
 case bool b =>
  split at hv;rotate_left;· cases hv
  rename_i hk
  cases hv
  obtain rfl:x=_:=h
  exact ⟨.bool hk,by simp [Qz,hk,TyD.isAgg,Value.cells]⟩
 case str s =>
  split at hv;rotate_left;· cases hv
  rename_i hk
  cases hv
  obtain rfl:x=_:=h
  exact ⟨.str hk,by simp [Qz,hk,TyD.isAgg,Value.cells]⟩
 case data t' y =>
  split at hv;rotate_left;· cases hv
  rename_i hk
  cases hv
  subst hk
  obtain ⟨cs,rfl,h2,h3⟩:=h
  exact ⟨h3,by simp [Qz,h2,Value.cells]⟩
 case fs e l c =>
  split at hv;rotate_left;· cases hv
  rename_i hk
  cases hv
  rcases h with ⟨ad,c,rfl,rfl,h1,_⟩|⟨b,off,cap,cs,rfl,h2,_,h3,h4,h5⟩
  · exact ⟨.void hk h1,by simp [Qz,hk,TyD.isAgg,Value.cells]⟩
  · exact ⟨.slice hk h3 h4 rfl h5 h2,by simp [Qz,hk,TyD.isAgg,Value.cells]⟩
 case nilsl =>
  split at hv;rotate_left;· cases hv
  rename_i hk
  cases hv
  obtain rfl:x=_:=h
  exact ⟨.nil hk,by simp [Qz,hk,TyD.isAgg,Value.cells]⟩
 case fptr t' y =>
  split at hv;rotate_left;· cases hv
  rename_i hk
  cases hv
  obtain ⟨b,off,cs,rfl,h2,h3,h4⟩:=h
  exact ⟨.ref hk h2 h3 h4,by simp [Qz,hk,TyD.isAgg,Value.cells]⟩
 case fn f caps =>
  split at hv;rotate_left;· cases hv
  rename_i hk
  split at hv;rotate_left;· cases hv
  rename_i ts l hcv
  cases hv
  obtain ⟨cs,rfl,h2⟩:=h
  exact ⟨by simpa [Value.cells] using Fits.clo hk (QBp hcv h2),by simp [Qz,hk,TyD.isAgg,Value.cells]⟩
def QEb:Value→Option E
 | .int k n=>if k.min≤n∧n≤k.max then some (.int k n) else none
 | .bool b=>some (.bool b)
 | .string s=>some (.str s)
 | .slice none 0 0=>some .nilsl
 | .nilFunc=>some .nilfn
 | .pointer none=>some .undef
 | _=>none
theorem QG6 {x:Value} {e:E} (h:QEb x=some e):ERel T w F ρ e x:=by
 unfold QEb at h
 split at h
 · split at h;rotate_left;· cases h
   rename_i hk
   cases h
   exact ⟨rfl,hk⟩
 all_goals first|(cases h;rfl)|(cases h;trivial)|cases h
def ZD (σ:St) (g:Bool) (x:Operand) (K:E→Prop):Prop:=match x with
 | .tmp t=>match σ.tm.lookup t with
   | some (h,e)=>(g=true→h=true)∧K e
   | none=>False
 | .const v=>match QEb v with
   | some e=>K e
   | none=>False
 | .func f=>K (.fn f [])
 | .global _=>False
theorem QR {σ:St} {a:Act} {outs:List (Array Value)} (hR:Rel T w F ρ w0 σ a.tmps outs) {g:Bool} {x:Operand} {K:E→Prop} (h:ZD σ g x K) :
 ∃ e,K e∧(g=true→ERel T w F ρ e (a.eval x)):=by
 unfold ZD at h
 split at h
 · rename_i t
   split at h
   · rename_i hh e he
     obtain ⟨v,h1,h2,_⟩:=hR.tm _ _ _ he
     refine ⟨e,h.2,fun hg=>?_⟩
     have:a.eval (.tmp t)=v:=by simp [Act.eval,Array.getD_eq_getD_getElem?,h1]
     rw [this]
     exact h2 (h.1 hg)
   · exact h.elim
 · split at h
   · rename_i e he
     exact ⟨e,h,fun _=>QG6 he⟩
   · exact h.elim
 · exact ⟨_,h,fun _=>⟨[],rfl,trivial⟩⟩
 · exact h.elim
def vU (σ:St) (g:Bool):List Operand→(List E→Prop)→Prop
 | [],K=>K []
 | x::xs,K=>ZD σ g x fun e=>vU σ g xs fun es=>K (e::es)
theorem WQ {σ:St} {a:Act} {outs:List (Array Value)} (hR:Rel T w F ρ w0 σ a.tmps outs) {g:Bool}:∀ {xs:List Operand} {K:List E→Prop},vU σ g xs K →
 ∃ es,K es∧(g=true→ERelL T w F ρ es (xs.map a.eval))
 | [],K,h=>⟨[],h,fun _=>trivial⟩
 | x::xs,K,h=>by
   obtain ⟨e,h1,h2⟩:=QR hR h
   obtain ⟨es,h3,h4⟩:=WQ hR h1
   exact ⟨e::es,h3,fun hg=>⟨h2 hg,h4 hg⟩⟩
theorem Seg.later {b off:Nat} {cs:List Value} (h:Seg w b off cs) (hb:b<w.heap.size) (hw:Below w.heap.size w w'):Seg w' b off cs:=h.mono (hw.block b hb)
theorem QCj (hP:TabOk P T) {t:TypeId} (ht:T.ty t≠.other) (w:World):(isAgg t).run P w=.ok (T.ty t).isAgg w:=by
 unfold isAgg
 rw [Sem.run_bind]
 cases h:T.ty t with
 | int k=>rw [run_underlying (hP.int _ _ h)];rfl
 | bool=>rw [run_underlying (hP.bool _ h)];rfl
 | str=>rw [run_underlying (hP.str _ h)];rfl
 | struct ts=>obtain ⟨fs,h1,_⟩:=hP.struct _ _ h;rw [run_underlying h1];rfl
 | arr n e=>rw [run_underlying (hP.arr _ _ _ h).1];rfl
 | slice e=>rw [run_underlying (hP.slice _ _ h).1];rfl
 | ptr e=>rw [run_underlying (hP.ptr _ _ h).1];rfl
 | fn=>obtain ⟨a,b,c,h1⟩:=hP.fn _ h;rw [run_underlying h1];rfl
 | other=>exact absurd h ht
theorem ZS (hP:TabOk P T) {t:TypeId} (ht:T.ty t≠.other) (w:World):(sizeOf t).run P w=.ok (T.sz t) w:=by
 obtain ⟨i,h1,h2,_⟩:=hP.info t ht
 simp [sizeOf,typeInfo,h1,h2]
theorem Zn (b off j:Nat):(⟨b,off,none⟩:Addr).add j=⟨b,off+j,none⟩:=by unfold Addr.add;split<;>simp_all
theorem vi (hP:TabOk P T) {t:TypeId} (ht:T.ty t≠.other) {b off:Nat} {cs:List Value} {x:Value} (h:Seg w b off cs) (hl:cs.length=T.sz t) (hx:Qz T t x cs) :
 (loadVar t ⟨b,off,none⟩).run P w=.ok x w:=by
 unfold loadVar
 rw [Sem.run_bind,QCj hP ht]
 unfold Qz at hx
 simp only [Result.andThen_ok]
 split
 · rename_i hA
   rw [if_pos hA] at hx
   subst hx
   have:=run_loadCells_list (P:=P) w ⟨b,off,none⟩ cs (fun j v hv=>by rw [Zn];exact h j v hv)
   rw [hl] at this
   simp [ZS hP ht,this]
 · rename_i hA
   rw [if_neg hA] at hx
   subst hx
   have:=h 0 x rfl
   simp at this
   simp [this]
theorem Fits.notOther {t:TypeId} {v:V} {cs:List Value} (h:Fits T w F t v cs):T.ty t≠.other:=fun h1=>h.inv' h1
theorem Vo {t:TypeId} {v:V} {ds:List Value} (hS:T.Sized) (h:Fits T w F t v ds):∃ x,Qz T t x ds:=by
 unfold Qz
 split
 · exact ⟨_,rfl⟩
 · rename_i hA
   have h1:=h.len hS
   have h2:T.sz t=1:=by
    have h3:=h.inv
    cases hk:T.ty t with
    | int k=>exact hS.int _ _ hk
    | bool=>exact hS.bool _ hk
    | str=>exact hS.str _ hk
    | struct ts=>simp [hk,TyD.isAgg] at hA
    | arr n e=>simp [hk,TyD.isAgg] at hA
    | slice e=>exact (hS.slice _ _ hk).1
    | ptr e=>exact hS.ptr _ _ hk
    | fn=>exact hS.fn _ hk
    | other=>rw [hk] at h3;exact h3.elim
   rw [h2] at h1
   match ds,h1 with
   | [x],_=>exact ⟨x,rfl⟩
theorem Za {b:Nat} {cs:Array Value} {ct:TypeId} {fr:Nat × Nat} (h:w.heap[b]?=some (.cells cs ct fr)) (off n:Nat):Seg w b off ((cs.toList.drop off).take n):=by
 intro j x hx
 rw [List.getElem?_take] at hx
 split at hx
 · rw [List.getElem?_drop] at hx
   rw [cell_of_row w b (off+j) cs ct fr h]
   simpa using hx
 · cases hx
theorem QD1 {b:Nat} {cs:Array Value} {ct:TypeId} {fr:Nat × Nat} (h:w.heap[b]?=some (.cells cs ct fr)):Seg w b 0 cs.toList:=by
 have:=Za h 0 cs.size
 rwa [List.drop_zero,List.take_of_length_le (by simp)] at this
theorem Holds.valOf {t:TypeId} {v:Value} {cs:Array Value} (h:Holds T t v cs):Qz T t v cs.toList:=by
 obtain ⟨_,h⟩:=h
 unfold Qz
 split at h
 · rename_i hA;rw [if_pos hA];simpa using h
 · rename_i hA;rw [if_neg hA,h.1]
variable {P:Program} {T:Tab} {w w':World} {w0:Base T} {F:Nat→Prop} {ρ:Nat→RI}
theorem XC (k:IntKind) (n:Int):k.has (k.wrap n):=by
 have h:=k.bits.pow_le_pow_right
 unfold IntKind.has IntKind.min IntKind.max IntKind.wrap
 cases k<;>simp [IntKind.bits,IntKind.signed]<;>omega
theorem QLm {k:IntKind} {a:Int} (h:k.has a) (n:Nat):k.has (a.fdiv (2^n)):=by
 have hp:(0:Int)<2^n:=Int.pow_pos (by omega)
 have h1:(1:Int)≤2^n:=by omega
 rw [Int.fdiv_eq_ediv_of_nonneg _ (by omega)]
 have key:(0≤a→0≤a / 2^n∧a / 2^n≤a)∧(a<0→a≤a / 2^n∧a / 2^n<0):=by
  refine ⟨fun h0=>⟨Int.ediv_nonneg h0 (by omega),Int.ediv_le_self _ h0⟩,fun h0=>⟨?_,Int.ediv_neg_of_neg_of_pos h0 hp⟩⟩
  rw [Int.le_ediv_iff_mul_le hp]
  have:a*2^n≤a*1:=Int.mul_le_mul_of_nonpos_left (by omega) h1
  omega
 unfold IntKind.has at *
 have hmin:k.min≤0:=by cases k<;>simp [IntKind.min,IntKind.signed,IntKind.bits]
 have hmax:0≤k.max:=by cases k<;>simp [IntKind.max,IntKind.signed,IntKind.bits]
 by_cases h0:0≤a
 · have:=key.1 h0;omega
 · have:=key.2 (by omega);omega
theorem QKG {k:IntKind} {a:Int} (h:k.has a) (b:Int):k.has (a.tmod b):=by
 unfold IntKind.has at *
 have hmin:k.min≤0:=by cases k<;>simp [IntKind.min,IntKind.signed,IntKind.bits]
 have hmax:0≤k.max:=by cases k<;>simp [IntKind.max,IntKind.signed,IntKind.bits]
 by_cases h0:0≤a
 · have h1:=Int.tmod_nonneg b h0
   have h2:a.tmod b≤a:=by
    obtain ⟨n,rfl⟩:=Int.eq_ofNat_of_zero_le h0
    rw [← Int.natAbs_of_nonneg h1,Int.natAbs_tmod]
    exact Int.ofNat_le.2 (Nat.mod_le _ _)
   omega
 · have h1:(-a).tmod b = -(a.tmod b):=Int.neg_tmod a b
   have h2:=Int.tmod_nonneg b (show 0 ≤ -a by omega)
   have h3:(-a).tmod b ≤ -a:=by
    obtain ⟨n,hn⟩:=Int.eq_ofNat_of_zero_le (show 0 ≤ -a by omega)
    rw [hn] at h2 ⊢
    rw [← Int.natAbs_of_nonneg h2,Int.natAbs_tmod]
    exact Int.ofNat_le.2 (Nat.mod_le _ _)
   omega
def QF7 (op:BinOp) (k:IntKind) (a b:Int):Option (Prop × E):=match op with
 | .add=>some (True,.int k (k.wrap (a+b)))
 | .sub=>some (True,.int k (k.wrap (a-b)))
 | .mul=>some (True,.int k (k.wrap (a*b)))
 | .quo=>some (b≠0,.int k (k.wrap (a.tdiv b)))
 | .rem=>some (b≠0,.int k (a.tmod b))
 | .and=>some (True,.int k (k.wrap (BitVec.ofInt k.bits a &&& BitVec.ofInt k.bits b).toNat))
 | .or=>some (True,.int k (k.wrap (BitVec.ofInt k.bits a ||| BitVec.ofInt k.bits b).toNat))
 | .xor=>some (True,.int k (k.wrap (BitVec.ofInt k.bits a ^^^ BitVec.ofInt k.bits b).toNat))
 | .andNot=>some (True,.int k (k.wrap (BitVec.ofInt k.bits a &&& ~~~BitVec.ofInt k.bits b).toNat))
 | .eql=>some (True,.bool (decide (a=b)))
 | .neq=>some (True,.bool (!decide (a=b)))
 | .lss=>some (True,.bool (decide (a<b)))
 | .leq=>some (True,.bool (decide (a≤b)))
 | .gtr=>some (True,.bool (decide (b<a)))
 | .geq=>some (True,.bool (decide (b≤a)))
 | _=>none
def QAm (op:BinOp) (k:IntKind) (a b:Int):Option E:=match op with
 | .shl=>some (.int k (k.wrap (a*2^min b.toNat k.bits)))
 | .shr=>some (.int k (a.fdiv (2^min b.toNat k.bits)))
 | _=>none
mutual
def V.beq:V→V→Bool
 | .int a,.int b=>decide (a=b)
 | .bool a,.bool b=>a == b
 | .str a,.str b=>a.toList == b.toList
 | .agg a,.agg b=>V.beqL a b
 | _,_=>false
def V.beqL:List V→List V→Bool
 | [],[]=>true
 | a::as,b::bs=>V.beq a b&&V.beqL as bs
 | _,_=>false
end
mutual
def ZM (T:Tab):Nat→TypeId→Bool
 | 0,_=>false
 | d+1,t=>match T.ty t with
   | .int _|.bool|.str=>true
   | .struct ts=>xz T d ts
   | .arr _ e=>ZM T d e
   | _=>false
def xz (T:Tab):Nat→List TypeId→Bool
 | 0,_=>false
 | _+1,[]=>true
 | d+1,t::ts=>ZM T d t&&xz T d ts
end
def QD0 (op:BinOp) (g:Bool) (x y:E) (K:E→Prop):Prop:=match x,y with
 | .int k a,.int _ b=>match QAm op k a b with
   | some e=>(g=true→0≤b)∧K e
   | none=>False
 | _,_=>False
def eqA (op:BinOp) (r:Bool) (K:E→Prop):Prop:=match op with
 | .eql=>K (.bool r)
 | .neq=>K (.bool (!r))
 | _=>False
def QQs (op:BinOp) (n:Nat) (K:E→Prop):Prop:=eqA op false K∧(n=0→eqA op true K)
def QED (T:Tab) (op:BinOp) (t:TypeId) (g:Bool) (x y:E) (K:E→Prop):Prop:=match x,y with
 | .int k a,.int k' b=>k'=k∧match QF7 op k a b with
   | some (q,e)=>(g=true→q)∧K e
   | none=>False
 | .bool a,.bool b=>T.ty t=.bool∧eqA op (a == b) K
 | .str a,.str b=>eqA op (a.toList == b.toList) K
 | .data t' a,.data t'' b=>t'=t∧t''=t∧ZM T 20 t=true∧eqA op (V.beq a b) K
 | .fs e l _,.nilsl=>T.ty t=.slice e∧QQs op l.length K
 | .sl _ e _ n _,.nilsl=>T.ty t=.slice e∧QQs op n K
 | _,_=>False
def QNg (T:Tab) (op:BinOp) (t:TypeId) (g:Bool) (x y:E) (K:E→Prop):Prop:=match op with
 | .shl|.shr=>QD0 op g x y K
 | _=>QED T op t g x y K
theorem VC (hP:TabOk P T) {t:TypeId} {cs:Array Value} {off:Nat} {v:V} (h:Fits T w F t v ((cs.toList.drop off).take (T.sz t))) (W:World) :
 ∃ x,(part t cs off).run P W=.ok x W∧Qz T t x ((cs.toList.drop off).take (T.sz t)):=by
 have ht:=h.notOther
 have hl:=h.len hP.sized
 unfold part
 rw [Sem.run_bind,QCj hP ht]
 simp only [Result.andThen_ok]
 by_cases hA:(T.ty t).isAgg=true
 · rw [if_pos hA,Sem.run_bind,ZS hP ht]
   refine ⟨_,rfl,?_⟩
   unfold Qz
   rw [if_pos hA]
   congr 1
   apply Array.ext'
   simp [Array.toList_extract,List.extract_eq_take_drop]
 · obtain ⟨x,hx⟩:=Vo hP.sized h
   rw [if_neg hA]
   unfold Qz at hx ⊢
   rw [if_neg hA] at hx
   have:cs[off]?=some x:=by
    have h0:((cs.toList.drop off).take (T.sz t))[0]?=some x:=by rw [hx];rfl
    rw [List.getElem?_take] at h0
    split at h0
    · simpa using h0
    · cases h0
   rw [this]
   exact ⟨x,rfl,by rw [if_neg hA];exact hx⟩
theorem x7 (hP:TabOk P T) {D:Nat} {xs ys:Array Value} (W:World):∀ (fs:List Field) (ts:List TypeId) (l m:List V),
 fs.map (·.type)=ts→l.length=ts.length→m.length=ts.length →
 (∀ (j : Nat) (f : Field), fs[j]? = some f → (f.name == "_") = false ∧ ∀ x y : V, l[j]? = some x → m[j]? = some y →
   ∃ w1 F1 w2 F2,Fits T w1 F1 f.type x ((xs.toList.drop f.offset).take (T.sz f.type))∧Fits T w2 F2 f.type y ((ys.toList.drop f.offset).take (T.sz f.type)) ∧
     ∀ a b,Qz T f.type a ((xs.toList.drop f.offset).take (T.sz f.type))→Qz T f.type b ((ys.toList.drop f.offset).take (T.sz f.type)) →
       (Op.equalIn D f.type a b).run P W=.ok (V.beq x y) W) →
 (Op.eqFields D xs ys fs).run P W=.ok (V.beqL l m) W
 | [],ts,l,m,h1,h2,h3,_=>by
   subst h1
   cases l<;>cases m<;>simp_all [Op.eqFields,V.beqL]
 | f::fs,ts,l,m,h1,h2,h3,h=>by
   subst h1
   match l,m,h2,h3 with
   | x::l,y::m,h2,h3 =>
     obtain ⟨hn,h0⟩:=h 0 f rfl
     obtain ⟨w1,F1,w2,F2,fx,fy,he⟩:=h0 x y rfl rfl
     obtain ⟨a,pa,va⟩:=VC hP fx W
     obtain ⟨b,pb,vb⟩:=VC hP fy W
     have hn' : f.name ≠ "_" := by simpa using hn
     have:=x7 hP (D:=D) (xs:=xs) (ys:=ys) W fs _ l m rfl (by simpa using h2) (by simpa using h3) (fun j g hg=>h (j+1) g (by simpa using hg))
     simp only [Op.eqFields,if_pos hn',Sem.run_bind,pa,pb,Result.andThen_ok,he a b va vb,V.beqL]
     cases V.beq x y<;>simp [this]
theorem vW (hP:TabOk P T) {D:Nat} {xs ys:Array Value} (W:World) {e:TypeId} {c:Nat}:∀ (is:List Nat) (l m:List V),l.length=is.length→m.length=is.length →
 (∀ (j i:Nat),is[j]?=some i→∀ x y:V,l[j]?=some x→m[j]?=some y →
   ∃ w1 F1 w2 F2,Fits T w1 F1 e x ((xs.toList.drop (i*c)).take (T.sz e))∧Fits T w2 F2 e y ((ys.toList.drop (i*c)).take (T.sz e)) ∧
     ∀ a b,Qz T e a ((xs.toList.drop (i*c)).take (T.sz e))→Qz T e b ((ys.toList.drop (i*c)).take (T.sz e)) →
       (Op.equalIn D e a b).run P W=.ok (V.beq x y) W) →
 (Op.eqItems D e c xs ys is).run P W=.ok (V.beqL l m) W
 | [],l,m,h2,h3,_=>by
   cases l<;>cases m<;>simp_all [Op.eqItems,V.beqL]
 | i::is,l,m,h2,h3,h=>by
   match l,m,h2,h3 with
   | x::l,y::m,h2,h3 =>
     obtain ⟨w1,F1,w2,F2,fx,fy,he⟩:=h 0 i rfl x y rfl rfl
     obtain ⟨a,pa,va⟩:=VC hP fx W
     obtain ⟨b,pb,vb⟩:=VC hP fy W
     have:=vW hP (D:=D) (xs:=xs) (ys:=ys) W is l m (by simpa using h2) (by simpa using h3) (fun j g hg=>h (j+1) g (by simpa using hg))
     simp only [Op.eqItems,Sem.run_bind,pa,pb,Result.andThen_ok,he a b va vb,V.beqL]
     cases V.beq x y<;>simp [this]
theorem UN {d:Nat}:∀ {ts:List TypeId},xz T d ts=true→∀ {k:Nat} {t:TypeId},ts[k]?=some t→∃ d',d'<d∧ZM T d' t=true:=by
 induction d with
 | zero=>intro ts h;simp [xz] at h
 | succ d ih =>
   intro ts h k t hk
   cases ts with
   | nil=>simp at hk
   | cons u ts =>
     simp only [xz,Bool.and_eq_true] at h
     cases k with
     | zero=>simp at hk;subst hk;exact ⟨d,by omega,h.1⟩
     | succ k=>obtain ⟨d',h1,h2⟩:=ih h.2 (k:=k) (t:=t) (by simpa using hk);exact ⟨d',by omega,h2⟩
theorem QFm (hP:TabOk P T) (W:World):∀ (d:Nat) (t:TypeId),ZM T d t=true→∀ (D:Nat),d≤D→∀ {w1 w2:World} {F1 F2:Nat→Prop} {u v:V} {x y:Value} {xs ys:List Value},
 Fits T w1 F1 t u xs→Fits T w2 F2 t v ys→Qz T t x xs→Qz T t y ys→(Op.equalIn D t x y).run P W=.ok (V.beq u v) W:=by
 intro d
 induction d using Nat.strongRecOn with
 | _ d ih =>
   intro t hf D hD w1 w2 F1 F2 u v x y xs ys hx hy vx vy
   cases d with
   | zero=>simp [ZM] at hf
   | succ d =>
     obtain ⟨D,rfl⟩:∃ m,D=m+1:=⟨D-1,by omega⟩
     unfold ZM at hf
     unfold Qz at vx vy
     split at hf
     · rename_i k hk
       obtain ⟨a,rfl,_,rfl⟩:=hx.inv' hk
       obtain ⟨b,rfl,_,rfl⟩:=hy.inv' hk
       simp [hk,TyD.isAgg] at vx vy
       subst vx;subst vy
       rw [run_equalIn_int W D t k k a b (hP.int _ _ hk)]
       simp only [V.beq]
       congr 1
     · rename_i hk
       obtain ⟨a,rfl,rfl⟩:=hx.inv' hk
       obtain ⟨b,rfl,rfl⟩:=hy.inv' hk
       simp [hk,TyD.isAgg] at vx vy
       subst vx;subst vy
       rw [run_equalIn_bool W D t a b (hP.bool _ hk)]
       simp only [V.beq]
     · rename_i hk
       obtain ⟨a,rfl,rfl⟩:=hx.inv' hk
       obtain ⟨b,rfl,rfl⟩:=hy.inv' hk
       simp [hk,TyD.isAgg] at vx vy
       subst vx;subst vy
       rw [run_equalIn_string W D t a b (hP.str _ hk)]
       simp only [V.beq]
     · rename_i ts hk
       obtain ⟨l,rfl,fl⟩:=hx.inv' hk
       obtain ⟨m,rfl,fm⟩:=hy.inv' hk
       simp [hk,TyD.isAgg] at vx vy
       subst vx;subst vy
       obtain ⟨fs,hu,hts,hh,ho⟩:=hP.struct _ _ hk
       have hfo:P.fieldsOf t=fs:=by simp [Program.fieldsOf,hu]
       rw [run_equalIn_struct W D t _ _ (by rw [hfo];exact hu) hh,hfo]
       simp only [V.beq]
       refine x7 hP W fs.toList ts l m hts fl.lens fm.lens (fun j f hj=>?_)
       have hj':fs[j]?=some f:=by simpa using hj
       obtain ⟨o1,o2,o3,_⟩:=ho j f hj'
       have htj:ts[j]?=some f.type:=by rw [← hts];simp [hj']
       refine ⟨o3,fun a b ha hb=>?_⟩
       have na:=fl.nth hP.sized htj
       have nb:=fm.nth hP.sized htj
       have ea:l.getD j default=a:=by simp [List.getD_eq_getElem?_getD,ha]
       have eb:m.getD j default=b:=by simp [List.getD_eq_getElem?_getD,hb]
       rw [ea] at na
       rw [eb] at nb
       obtain ⟨d',hd',hfd⟩:=UN hf htj
       rw [o1]
       exact ⟨w1,F1,w2,F2,na,nb,fun p q hp hq=>ih d' (by omega) f.type hfd D (by omega) na nb hp hq⟩
     · rename_i n e hk
       obtain ⟨l,rfl,fl⟩:=hx.inv' hk
       obtain ⟨m,rfl,fm⟩:=hy.inv' hk
       simp [hk,TyD.isAgg] at vx vy
       subst vx;subst vy
       obtain ⟨hu,hn,he,hne'⟩:=hP.arr _ _ _ hk
       obtain ⟨i,hi,hs,_⟩:=hP.info e hne'
       have hc:P.cellsOf e=T.sz e:=by simp [Program.cellsOf,hi,hs]
       rw [run_equalIn_array W D _ _ hu hi,hc]
       simp only [V.beq]
       have hl:=fl.lens
       have hm:=fm.lens
       refine vW hP W (List.range n) l m (by simpa using hl) (by simpa using hm) (fun j i hj a b ha hb=>?_)
       have hjn:j<n:=by
        have:=(List.getElem?_eq_some_iff.1 hj).1
        simpa using this
       have hji:i=j:=by simpa [hjn] using hj.symm
       subst hji
       have htj:(List.replicate n e)[i]?=some e:=by simp [hjn]
       have na:=fl.nth hP.sized htj
       have nb:=fm.nth hP.sized htj
       rw [Qv T n i e (by omega)] at na nb
       have ea:l.getD i default=a:=by simp [List.getD_eq_getElem?_getD,ha]
       have eb:m.getD i default=b:=by simp [List.getD_eq_getElem?_getD,hb]
       rw [ea] at na
       rw [eb] at nb
       exact ⟨w1,F1,w2,F2,na,nb,fun p q hp hq=>ih d (by omega) e hf D (by omega) na nb hp hq⟩
     · cases hf
theorem QDV {op:BinOp} {k:IntKind} {a b:Int} {q:Prop} {e:E} (h:QF7 op k a b=some (q,e)) (hq:q) (ha:k.has a) (t:TypeId) (W:World) (hop:op≠.shl∧op≠.shr) :
 ∃ v,ERel T w F ρ e v∧(binOp op t (.int k a) (.int k b)).run P W=.ok v W:=by
 cases op<;>simp only [QF7,Option.some.injEq,Prod.mk.injEq,reduceCtorEq] at h<;>try (exact absurd rfl hop.1)<;>try (exact absurd rfl hop.2)
 all_goals obtain ⟨rfl,rfl⟩:=h
 case add=>exact ⟨_,⟨rfl,XC _ _⟩,by simp [binOp,Op.intArith]⟩
 case sub=>exact ⟨_,⟨rfl,XC _ _⟩,by simp [binOp,Op.intArith]⟩
 case mul=>exact ⟨_,⟨rfl,XC _ _⟩,by simp [binOp,Op.intArith]⟩
 case quo=>exact ⟨_,⟨rfl,XC _ _⟩,by simp [binOp,Op.intDiv,hq]⟩
 case rem=>exact ⟨_,⟨rfl,QKG ha b⟩,by simp [binOp,Op.intDiv,hq]⟩
 case and=>exact ⟨_,⟨rfl,XC _ _⟩,by simp [binOp,Op.intBits]⟩
 case or=>exact ⟨_,⟨rfl,XC _ _⟩,by simp [binOp,Op.intBits]⟩
 case xor=>exact ⟨_,⟨rfl,XC _ _⟩,by simp [binOp,Op.intBits]⟩
 case andNot=>exact ⟨_,⟨rfl,XC _ _⟩,by simp [binOp,Op.intBits]⟩
 case eql=>exact ⟨_,rfl,by simp [binOp,Op.intCmp];rfl⟩
 case neq=>exact ⟨_,rfl,by simp [binOp,Op.intCmp];rfl⟩
 case lss=>exact ⟨_,rfl,by simp [binOp,Op.intCmp]⟩
 case leq=>exact ⟨_,rfl,by simp [binOp,Op.intCmp]⟩
 case gtr=>exact ⟨_,rfl,by simp [binOp,Op.intCmp]⟩
 case geq=>exact ⟨_,rfl,by simp [binOp,Op.intCmp]⟩
theorem QAl {op:BinOp} {k k':IntKind} {a b:Int} {e:E} (h:QAm op k a b=some e) (hb:0≤b) (ha:k.has a) (t:TypeId) (W:World) :
 ∃ v,ERel T w F ρ e v∧(binOp op t (.int k a) (.int k' b)).run P W=.ok v W:=by
 have hb':¬ b<0:=by omega
 cases op<;>simp only [QAm,Option.some.injEq,reduceCtorEq] at h
 all_goals subst h
 case shl=>exact ⟨_,⟨rfl,XC _ _⟩,by simp [binOp,Op.shift,hb']⟩
 case shr=>exact ⟨_,⟨rfl,QLm ha _⟩,by simp [binOp,Op.shift,hb']⟩
variable {P:Program} {T:Tab} {w w':World} {w0:Base T} {F:Nat→Prop} {ρ:Nat→RI}
def Xi (σ:St) (g:Bool) (x:Option Operand) (d:Int) (K:Int→Prop):Prop:=match x with
 | none=>K d
 | some o=>ZD σ g o fun e=>match e with
   | .int _ n=>K n
   | _=>False
def xL (T:Tab) (σ:St) (g:Bool) (pt:Nat→Option TypeId):List (Nat × Operand)→V→(V→Prop)→Prop
 | [],v,K=>K v
 | (i,x)::r,v,K=>match pt i with
   | some t=>ZD σ g x fun e=>match UY T t e with
     | some y=>xL T σ g pt r (v.setSub i y) K
     | none=>False
   | none=>False
def QKg (σ:St) (g:Bool) (c a b:Operand) (K:E→Prop):Prop :=
 ZD σ g c fun ec=>match ec with
  | .bool cb=>ZD σ (g&&cb) a fun ea=>ZD σ (g&&!cb) b fun eb=>match ea,eb with
    | .bool x,.bool y=>K (.bool (bif cb then x else y))
    | .int k x,.int k' y=>k'=k∧K (.int k (bif cb then x else y))
    | _,_=>False
  | _=>False
def QFY (T:Tab) (σ:St) (g:Bool) (t:TypeId) (e:E) (K:E→Prop):Prop:=match e with
 | .fptr t' v=>t'=t∧K (WA T t v)
 | .ptr i p t'=>t'=t∧match σ.ob[i]? with
   | some (.var tv e)=>match p with
     | []=>K e
     | _::_=>match e with
       | .data _ v=>K (WA T t (v.get p))
       | .agg ta l=>match p with
         | [k]=>ta=tv∧match l[k]? with
           | some el=>K el
           | none=>False
         | _=>False
       | _=>False
   | _=>False
 | .rp i j p t'=>t'=t∧match σ.ob[i]? with
   | some (.row _ l)=>(g=true→j<l.length)∧K (WA T t ((l.getD j default).get p))
   | some (.erow e' l)=>(p=[]∧t'=e'∧(g=true→j<l.length))∧K (l.getD j .undef)
   | _=>False
 | _=>False
def qY (T:Tab) (s:TypeId) (k:Nat) (e:E) (K:E→Prop):Prop:=match T.ty s with
 | .struct ts=>match ts[k]? with
   | some u=>match e with
     | .ptr i p s'=>s'=s∧K (.ptr i (k::p) u)
     | .rp i j p s'=>s'=s∧K (.rp i j (k::p) u)
     | .fptr s' v=>s'=s∧K (.fptr u (v.sub k))
     | _=>False
   | none=>False
 | _=>False
def qU (T:Tab) (g:Bool) (t:TypeId) (x:E) (i:Int) (K:E→Prop):Prop:=match T.ty t with
 | .arr n e=>(g=true→0≤i∧i<n)∧match x with
   | .ptr j p t'=>t'=t∧K (.ptr j (i.toNat::p) e)
   | .rp j m p t'=>t'=t∧K (.rp j m (i.toNat::p) e)
   | .fptr t' v=>t'=t∧K (.fptr e (v.sub i.toNat))
   | _=>False
 | .slice e=>match x with
   | .fs e' l _=>e'=e∧(g=true→0≤i∧i<l.length)∧K (.fptr e (l.getD i.toNat default))
   | .sl j e' lo len _=>e'=e∧(g=true→0≤i∧i<len)∧K (.rp j (lo+i.toNat) [] e)
   | _=>False
 | _=>False
def QES (T:Tab) (g:Bool) (t:TypeId) (x:E) (i:Int) (K:E→Prop):Prop:=match T.ty t with
 | .arr n e=>match x with
   | .data t' v=>t'=t∧(g=true→0≤i∧i<n)∧K (WA T e (v.sub i.toNat))
   | _=>False
 | .str=>match x with
   | .str s=>(g=true→0≤i∧i<s.size)∧K (.int .u8 ((s.data[i.toNat]?).getD 0).toNat)
   | _=>False
 | _=>False
def QDv (T:Tab) (σ:St) (g:Bool) (t:TypeId) (x:E) (lo hi mx:Option Operand) (K:E→Prop):Prop:=match T.ty t with
 | .slice e=>match x with
   | .fs e' l c=>e'=e∧Xi σ g lo 0 fun a=>Xi σ g hi l.length fun b=>Xi σ g mx b fun m =>
      (g=true→0≤a∧a≤b∧b≤l.length∧(mx.isSome=true→b=m)) ∧
      K (.fs e ((l.drop a.toNat).take (b.toNat-a.toNat)) (mx.isSome||c&&decide (b=l.length)))
   | .sl i e' l0 len c=>e'=e∧Xi σ g lo 0 fun a=>Xi σ g hi len fun b=>Xi σ g mx b fun m =>
      (g=true→0≤a∧a≤b∧b≤len∧(mx.isSome=true→b=m))∧(c=true→mx.isSome=true∨b=len) ∧
      K (.sl i e (l0+a.toNat) (b.toNat-a.toNat) (mx.isSome||c&&decide (b=len)))
   | _=>False
 | .arr n e=>match x with
   | .fptr t' v=>t'=t∧mx.isSome=false∧Xi σ g lo 0 fun a=>Xi σ g hi n fun b =>
      (g=true→0≤a∧a≤b∧b≤n)∧K (.fs e ((v.toList.drop a.toNat).take (b.toNat-a.toNat)) (decide (b=n)))
   | .ptr i p t'=>t'=t∧mx.isSome=false∧hi.isSome=false∧Xi σ g lo 0 fun a=>(g=true→0≤a∧a<n)∧K (.av i p t a.toNat)
   | _=>False
 | _=>False
def wI (T:Tab) (g:Bool) (b:Builtin) (ts:List TypeId) (xs:List E) (K:E→Prop):Prop:=match b,ts,xs with
 | .len,[t],[x]=>match T.ty t with
   | .slice _=>match x with
     | .fs _ l _=>(g=true→l.length≤maxLen)∧K (.int .i64 l.length)
     | .sl _ _ _ n _=>(g=true→n≤maxLen)∧K (.int .i64 n)
     | .nilsl=>K (.int .i64 0)
     | _=>False
   | .str=>match x with
     | .str s=>(g=true→s.size≤maxLen)∧K (.int .i64 s.size)
     | _=>False
   | _=>False
 | .min,_,[.int k a,.int k' b]=>k'=k∧K (.int k (min a b))
 | .max,_,[.int k a,.int k' b]=>k'=k∧K (.int k (max a b))
 | _,_,_=>False
def Vw (T:Tab) (σ:St) (g:Bool) (op:Op) (K:E→Prop):Prop:=match op with
 | .move x|.assign x=>ZD σ g x K
 | .pick c a b=>QKg σ g c a b K
 | .load t x=>ZD σ g x fun e=>QFY T σ g t e K
 | .nilCheck x=>ZD σ g x fun e=>match e with
   | .ptr ..|.rp ..|.fptr ..|.fn ..=>K e
   | _=>False
 | .binOp op t x y _=>ZD σ g x fun a=>ZD σ g y fun b=>QNg T op t g a b K
 | .unOp op _ x=>ZD σ g x fun a=>match op,a with
   | .not,.bool b=>K (.bool (!b))
   | .neg,.int k n=>K (.int k (k.wrap (0-n)))
   | .xor,.int k n=>K (.int k (k.wrap (BitVec.ofInt k.bits (if k.signed then -1 else k.max) ^^^ BitVec.ofInt k.bits n).toNat))
   | _,_=>False
 | .convert s d x=>ZD σ g x fun a=>match T.ty s,T.ty d,a with
   | .int _,.int k,.int _ n=>K (.int k (k.wrap n))
   | _,_,_=>False
 | .makeFunc (.func f) first caps=>first.size=0∧vU σ g caps.toList fun es=>K (.fn f es)
 | .slice t x lo hi mx=>(mx.isSome&&!hi.isSome)=false∧ZD σ g x fun e=>QDv T σ g t e lo hi mx K
 | .fieldAddr s x k=>ZD σ g x fun e=>qY T s k e K
 | .field s x k=>ZD σ g x fun e=>match T.ty s,e with
   | .struct ts,.data s' v=>s'=s∧match ts[k]? with
     | some u=>K (WA T u (v.sub k))
     | none=>False
   | _,_=>False
 | .indexAddr t x i=>ZD σ g x fun e=>ZD σ g i fun ei=>match ei with
   | .int _ n=>qU T g t e n K
   | _=>False
 | .index t x i=>ZD σ g x fun e=>ZD σ g i fun ei=>match ei with
   | .int _ n=>QES T g t e n K
   | _=>False
 | .extract x k=>ZD σ g x fun e=>match e with
   | .tup l=>match l[k]? with
     | some e=>K e
     | none=>False
   | _=>False
 | .build t parts=>match T.ty t with
   | .struct ts=>xL T σ g (fun k=>ts[k]?) parts.toList (T.zero t) fun v=>K (.data t v)
   | .arr n e=>xL T σ g (fun k=>if k<n then some e else none) parts.toList (T.zero t) fun v=>K (.data t v)
   | _=>False
 | .call c=>match c.callee with
   | .builtin b=>vU σ g c.args.toList fun es=>wI T g b c.argTypes.toList es K
   | _=>False
 | _=>False
def WF (P:Program) (T:Tab) (w:World) (F:Nat→Prop) (ρ:Nat→RI) (a:Act) (op:Op) (e:E):Prop :=
 ∃ v,ERel T w F ρ e v∧∀ w',Below w.heap.size w w'→∀ o:Oper,o.op=op→(execOp a.eval o).run P w'=.ok (.value v) w'
def QB0 (a:Act) (x:Option Operand) (d n:Int):Prop:=match x with
 | none=>n=d
 | some o=>∃ k,a.eval o=.int k n
theorem Zt {σ:St} {a:Act} {outs:List (Array Value)} (hR:Rel T w F ρ w0 σ a.tmps outs) {g:Bool} {x:Option Operand} {d:Int} {K:Int→Prop} (h:Xi σ g x d K) :
 ∃ n,K n∧(g=true→QB0 a x d n):=by
 cases x with
 | none=>exact ⟨d,h,fun _=>rfl⟩
 | some o =>
   obtain ⟨e,h1,h2⟩:=QR hR h
   split at h1
   · rename_i k n
     exact ⟨n,h1,fun hg=>⟨k,(h2 hg).1⟩⟩
   · exact h1.elim
variable {P:Program} {T:Tab} {w w':World} {w0:Base T} {F:Nat→Prop} {ρ:Nat→RI} {σ:St} {a:Act} {outs:List (Array Value)}
theorem QFI (hR:Rel T w F ρ w0 σ a.tmps outs) {g:Bool} {c x y:Operand} {K:E→Prop} (h:QKg σ g c x y K) :
 ∃ e,K e∧(g=true→WF P T w F ρ a (.pick c x y) e):=by
 obtain ⟨ec,h1,hc⟩:=QR hR h
 split at h1;rotate_left;· exact h1.elim
 rename_i cb
 obtain ⟨ea,h2,ha⟩:=QR hR h1
 obtain ⟨eb,h3,hb⟩:=QR hR h2
 have run:∀ W:World,g=true→∀ o:Oper,o.op=.pick c x y→(execOp a.eval o).run P W=.ok (.value (if cb then a.eval x else a.eval y)) W:=by
  intro W hg o ho
  have hcv:a.eval c=.bool cb:=hc hg
  simp [execOp,ho,hcv,asBool]
 split at h3
 · rename_i p q
   refine ⟨_,h3,fun hg=>⟨_,?_,fun W _=>run W hg⟩⟩
   cases cb
   · exact hb (by simp [hg])
   · exact ha (by simp [hg])
 · rename_i k p k' q
   obtain ⟨rfl,h3⟩:=h3
   refine ⟨_,h3,fun hg=>⟨_,?_,fun W _=>run W hg⟩⟩
   cases cb
   · exact hb (by simp [hg])
   · exact ha (by simp [hg])
 · exact h3.elim
theorem vO (hP:TabOk P T) (hR:Rel T w F ρ w0 σ a.tmps outs) {g:Bool} {t:TypeId} {x:Operand} {ex:E} {K:E→Prop} (hx:g=true→ERel T w F ρ ex (a.eval x)) (h:QFY T σ g t ex K) :
 ∃ e,K e∧(g=true→WF P T w F ρ a (.load t x) e):=by
 have fin:∀ (W:World) (b off:Nat) (cs:List Value) (v:Value),a.eval x=.pointer (some ⟨b,off,none⟩)→Seg W b off cs→T.ty t≠.other→cs.length=T.sz t→Qz T t v cs →
  ∀ o:Oper,o.op=.load t x→(execOp a.eval o).run P W=.ok (.value v) W:=by
  intro W b off cs v hv hs ht hl hval o ho
  simp [execOp,ho,hv,Instr.loadAt,Instr.sureAddr,vi hP ht hs hl hval]
 unfold QFY at h
 split at h
 · rename_i t' v
   obtain ⟨rfl,h⟩:=h
   refine ⟨_,h,fun hg=>?_⟩
   obtain ⟨b,off,cs,h1,h2,h3,h4⟩:=hx hg
   obtain ⟨y,hy⟩:=Vo hP.sized h4
   exact ⟨y,Yy h4 hy,fun W hW=>fin W b off cs y h1 (h3.later (hR.fsub b h2) hW) h4.notOther (h4.len hP.sized) hy⟩
 · rename_i i p t'
   obtain ⟨rfl,h⟩:=h
   split at h;rotate_left;· exact h.elim
   rename_i tv e ho
   have hob:=hR.ob _ _ ho
   cases p with
   | nil =>
     refine ⟨_,h,fun hg=>?_⟩
     obtain ⟨b,root,off,h1,h2,h3⟩:=hx hg
     rw [h1] at hob
     obtain ⟨⟨q1,q1',_⟩,q2,q3,cs,ct,v,q4,q5,q6,q7⟩:=hob
     cases h2
     subst q1
     have hlt:b<w.heap.size:=(Array.getElem?_eq_some_iff.1 q4).1
     exact ⟨v,q5,fun W hW=>fin W b 0 cs.toList v h3 (QD1 ((hW.block b hlt).trans q4)) q1' (by simpa using q6.1) q6.valOf⟩
   | cons k p =>
     simp only at h
     split at h
     rotate_left
     · rename_i ta l
       split at h;rotate_left;· exact h.elim
       rename_i k' hp
       cases hp
       obtain ⟨rfl,h⟩:=h
       split at h;rotate_left;· exact h.elim
       rename_i el hk
       refine ⟨_,h,fun hg=>?_⟩
       obtain ⟨b,root,off,h1,h2,h3⟩:=hx hg
       rw [h1] at hob
       obtain ⟨⟨q1,q1',q1''⟩,q2,q3,cs,ct,y,q4,q5,q6,q7⟩:=hob
       obtain ⟨ts,vs,cs',hts,rfl,h5,h6⟩:=q5
       subst q1
       have hcs:cs'=cs:=by have:=q6.2;rw [if_pos (by rw [hts];rfl)] at this;simpa using this
       subst hcs
       have hlt:b<w.heap.size:=(Array.getElem?_eq_some_iff.1 q4).1
       obtain ⟨ho1,ho2,ho3⟩:ts[k]?=some t'∧T.ty t'≠.other∧off=T.offs ts k:=by
        cases h2 with
        | fld a1 a2 a3 =>
          cases a1
          rw [hts] at a2
          cases a2
          obtain ⟨fs,f1,f2,f3,f4⟩:=hP.struct _ _ hts
          have hk2:=a3
          rw [← f2,List.getElem?_map] at hk2
          cases hfk:fs.toList[k]? with
          | none=>rw [hfk] at hk2;cases hk2
          | some f =>
            rw [hfk] at hk2
            simp at hk2
            refine ⟨a3,?_,Nat.zero_add _⟩
            rw [← hk2]
            exact (f4 k f (by simpa using hfk)).2.2.2
        | idx a1 a2 a3 =>
          cases a1
          rw [hts] at a2
          cases a2
       obtain ⟨z,z1,z2,z3⟩:=h6.nth ho1
       have hkl:k<l.length:=(List.getElem?_eq_some_iff.1 hk).1
       obtain ⟨z',y1,y2⟩:=h5.at hkl
       have:z'=z:=by rw [y1] at z1;simpa using z1
       subst this
       have hel:l.getD k .undef=el:=by rw [List.getD_eq_getElem?_getD,hk];rfl
       rw [hel] at y2
       refine ⟨z',y2,fun W hW=>fin W b off z'.cells.toList z' h3 ?_ ho2 (by simpa using z2.1) z2.valOf⟩
       rw [ho3,← z3]
       exact Za ((hW.block b hlt).trans q4) _ _
     · exact h.elim
     rename_i td v
     refine ⟨_,h,fun hg=>?_⟩
     obtain ⟨b,root,off,h1,h2,h3⟩:=hx hg
     rw [h1] at hob
     obtain ⟨⟨q1,q1',q1''⟩,q2,q3,cs,ct,y,q4,q5,q6,q7⟩:=hob
     obtain ⟨cs',rfl,hA,hf⟩:=q5
     have:=q1'' _ _ rfl
     subst this
     subst q1
     have hcs:cs'=cs:=by have:=q6.2;rw [if_pos hA] at this;simpa using this
     subst hcs
     have hlt:b<w.heap.size:=(Array.getElem?_eq_some_iff.1 q4).1
     obtain ⟨g1,g2⟩:=h2.get hP.sized hf
     obtain ⟨z,hz⟩:=Vo hP.sized g1
     exact ⟨z,Yy g1 hz,fun W hW=>fin W b off _ z h3 (Za ((hW.block b hlt).trans q4) off _) g1.notOther (g1.len hP.sized) hz⟩
 · rename_i i j p t'
   obtain ⟨rfl,h⟩:=h
   split at h
   rotate_left
   · rename_i e l ho
     obtain ⟨⟨rfl,rfl,hj⟩,h⟩:=h
     have hob:=hR.ob _ _ ho
     refine ⟨_,h,fun hg=>?_⟩
     have hj:=hj hg
     obtain ⟨b,e',n,cap,off,h1,h2,h3⟩:=hx hg
     rw [h1] at hob
     obtain ⟨rfl,q2,⟨z1,z2,z3⟩,xs,q3,q4,q5⟩:=hob
     cases h2
     rcases q3.2 with ⟨q,_⟩|⟨b',cap',cur,hr,hb,hh,hn,hc,hs,htk⟩
     · cases q
     · cases hr
       have hlt:b<w.heap.size:=(Array.getElem?_eq_some_iff.1 hh).1
       obtain ⟨z,hz1,hz2⟩:=q4.at hj
       refine ⟨z,hz2,fun W hW=>?_⟩
       have hxs:Seg W b 0 xs:=by
        have:=Za (w:=W) ((hW.block b hlt).trans hh) 0 (l.length*T.sz e')
        rw [List.drop_zero,htk] at this
        exact this
       have hseg:Seg W b (j*T.sz e'+0) [z]:=by
        intro k y hy
        have hk:k=0:=by
         have:=(List.getElem?_eq_some_iff.1 hy).1
         simp at this;omega
        subst hk
        simp at hy
        subst hy
        have:=hxs j z hz1
        rw [z1]
        simpa using this
       exact fin W b _ [z] z h3 hseg z3 (by rw [z1];rfl) (by unfold Qz;rw [z2];rfl)
   · exact h.elim
   rename_i e l ho
   have hob:=hR.ob _ _ ho
   refine ⟨_,h.2,fun hg=>?_⟩
   have hj:=h.1 hg
   obtain ⟨b,e',n,cap,off,h1,h2,h3⟩:=hx hg
   rw [h1] at hob
   obtain ⟨rfl,q2,xs,q3,q4⟩:=hob
   rcases q3.2 with ⟨q,_⟩|⟨b',cap',cur,hr,hb,hh,hn,hc,hs,htk⟩
   · cases q
   · cases hr
     have hlt:b<w.heap.size:=(Array.getElem?_eq_some_iff.1 hh).1
     have hrep:(List.replicate l.length e')[j]?=some e':=by simp [hj]
     have hel:=q4.nth hP.sized hrep
     rw [Qv T _ j e' (by omega)] at hel
     obtain ⟨g1,g2⟩:=h2.get hP.sized hel
     obtain ⟨z,hz⟩:=Vo hP.sized g1
     refine ⟨z,Yy g1 hz,fun W hW=>?_⟩
     have hseg:Seg W b (j*T.sz e'+off) (((xs.drop (j*T.sz e')).take (T.sz e')).drop off |>.take (T.sz t')):=by
      have hxs:Seg W b 0 xs:=by
       have:=Za (w:=W) ((hW.block b hlt).trans hh) 0 (l.length*T.sz e')
       rw [List.drop_zero,htk] at this
       exact this
      have s1:=(hxs.sub (j*T.sz e') (T.sz e')).sub off (T.sz t')
      rwa [Nat.zero_add] at s1
     exact fin W b _ _ z h3 hseg g1.notOther (g1.len hP.sized) hz
 · exact h.elim
theorem wq (hP:TabOk P T) {g:Bool} {s:TypeId} {k:Nat} {x:Operand} {ex:E} {K:E→Prop} (hx:g=true→ERel T w F ρ ex (a.eval x)) (h:qY T s k ex K) :
 ∃ e,K e∧(g=true→WF P T w F ρ a (.fieldAddr s x k) e):=by
 unfold qY at h
 split at h;rotate_left;· exact h.elim
 rename_i ts hs
 split at h;rotate_left;· exact h.elim
 rename_i u hu
 obtain ⟨fs,f1,f2,_,f3⟩:=hP.struct _ _ hs
 obtain ⟨f,hf⟩:∃ f,fs[k]?=some f:=by
  have:fs.toList[k]?.map (·.type)=some u:=by rw [← List.getElem?_map,f2];exact hu
  cases hk:fs[k]? with
  | none=>simp [hk] at this
  | some f=>exact ⟨f,rfl⟩
 have hfu:f.type=u:=by
  have:fs.toList[k]?.map (·.type)=some u:=by rw [← List.getElem?_map,f2];exact hu
  simpa [hf] using this
 obtain ⟨o1,o2,_,hno⟩:=f3 k f hf
 have run:∀ (W:World) (b off:Nat),a.eval x=.pointer (some ⟨b,off,none⟩)→∀ o:Oper,o.op=.fieldAddr s x k →
  (execOp a.eval o).run P W=.ok (.value (.pointer (some ⟨b,off+T.offs ts k,none⟩))) W:=by
  intro W b off hv o ho
  have hne:¬ T.sz f.type=0:=by omega
  simp [execOp,ho,hv,Instr.fieldAt,Instr.sureAddr,run_underlying f1,hf,fieldPlace,ZS hP hno,hne,Zn,o1]
 split at h
 · rename_i i p s'
   obtain ⟨rfl,h⟩:=h
   refine ⟨_,h,fun hg=>?_⟩
   obtain ⟨b,root,off,h1,h2,h3⟩:=hx hg
   exact ⟨_,⟨b,root,_,h1,.fld h2 hs hu,rfl⟩,fun W _=>run W b off h3⟩
 · rename_i i j p s'
   obtain ⟨rfl,h⟩:=h
   refine ⟨_,h,fun hg=>?_⟩
   obtain ⟨b,e,n,cap,off,h1,h2,h3⟩:=hx hg
   exact ⟨_,⟨b,e,n,cap,_,h1,.fld h2 hs hu,rfl⟩,fun W _=>by rw [← Nat.add_assoc];exact run W b _ h3⟩
 · rename_i s' v
   obtain ⟨rfl,h⟩:=h
   refine ⟨_,h,fun hg=>?_⟩
   obtain ⟨b,off,cs,h1,h2,h3,h4⟩:=hx hg
   obtain ⟨l,rfl,h5⟩:=h4.inv' hs
   exact ⟨_,⟨b,off+T.offs ts k,_,rfl,h2,h3.sub _ _,h5.nth hP.sized hu⟩,fun W _=>run W b off h1⟩
 · exact h.elim
theorem wk (hP:TabOk P T) {g:Bool} {t:TypeId} {x y:Operand} {ex:E} {k:IntKind} {n:Int} {K:E→Prop} (hx:g=true→ERel T w F ρ ex (a.eval x))
 (hy:g=true→a.eval y=.int k n) (h:qU T g t ex n K):∃ e,K e∧(g=true→WF P T w F ρ a (.indexAddr t x y) e):=by
 unfold qU at h
 split at h
 · rename_i m e ht
   obtain ⟨hu,h1m,hse,hno⟩:=hP.arr _ _ _ ht
   obtain ⟨hb,h⟩:=h
   have run:∀ (W:World) (b off:Nat),g=true→a.eval x=.pointer (some ⟨b,off,none⟩)→∀ o:Oper,o.op=.indexAddr t x y →
    (execOp a.eval o).run P W=.ok (.value (.pointer (some ⟨b,off+n.toNat*T.sz e,none⟩))) W:=by
    intro W b off hg hv o ho
    obtain ⟨b1,b2⟩:=hb hg
    simp [execOp,ho,hv,hy hg,Instr.indexAt,asIntOf,Instr.sureAddr,run_underlying hu,ZS hP hno,b1,b2,Zn]
   have hlt:g=true→n.toNat<m:=fun hg=>by have:=hb hg;omega
   split at h
   · rename_i j p t'
     obtain ⟨rfl,h⟩:=h
     refine ⟨_,h,fun hg=>?_⟩
     obtain ⟨b,root,off,h1,h2,h3⟩:=hx hg
     exact ⟨_,⟨b,root,_,h1,.idx h2 ht (hlt hg),rfl⟩,fun W _=>run W b off hg h3⟩
   · rename_i j q p t'
     obtain ⟨rfl,h⟩:=h
     refine ⟨_,h,fun hg=>?_⟩
     obtain ⟨b,e',n',cap,off,h1,h2,h3⟩:=hx hg
     exact ⟨_,⟨b,e',n',cap,_,h1,.idx h2 ht (hlt hg),rfl⟩,fun W _=>by rw [← Nat.add_assoc];exact run W b _ hg h3⟩
   · rename_i t' v
     obtain ⟨rfl,h⟩:=h
     refine ⟨_,h,fun hg=>?_⟩
     obtain ⟨b,off,cs,h1,h2,h3,h4⟩:=hx hg
     obtain ⟨l,rfl,h5⟩:=h4.inv' ht
     have hrep:(List.replicate m e)[n.toNat]?=some e:=by simp [hlt hg]
     have h6:=h5.nth hP.sized hrep
     rw [Qv T _ _ e (Nat.le_of_lt (hlt hg))] at h6
     exact ⟨_,⟨b,off+n.toNat*T.sz e,_,rfl,h2,h3.sub _ _,h6⟩,fun W _=>run W b off hg h1⟩
   · exact h.elim
 · rename_i e ht
   obtain ⟨hu,hno⟩:=hP.slice _ _ ht
   have run:∀ (W:World) (b off len cap:Nat),g=true→a.eval x=.slice (some ⟨b,off,none⟩) len cap→0≤n→n<len→∀ o:Oper,o.op=.indexAddr t x y →
    (execOp a.eval o).run P W=.ok (.value (.pointer (some ⟨b,off+n.toNat*T.sz e,none⟩))) W:=by
    intro W b off len cap hg hv b1 b2 o ho
    simp [execOp,ho,hv,hy hg,Instr.indexAt,asIntOf,run_underlying hu,ZS hP hno,b1,b2,Zn]
   split at h
   · rename_i e' l c
     obtain ⟨rfl,hb,h⟩:=h
     refine ⟨_,h,fun hg=>?_⟩
     obtain ⟨b1,b2⟩:=hb hg
     rcases hx hg with ⟨_,_,h1,h2,_⟩|⟨b,off,cap,cs,h1,h2,h3,h4,h5,h6⟩
     · subst h2;simp at b2;omega
     · have hlt:n.toNat<l.length:=by omega
       have hrep:(List.replicate l.length e')[n.toNat]?=some e':=by simp [hlt]
       have h7:=h6.nth hP.sized hrep
       rw [Qv T _ _ e' (Nat.le_of_lt hlt)] at h7
       exact ⟨_,⟨b,off+n.toNat*T.sz e',_,rfl,h4,h5.sub _ _,h7⟩,fun W _=>run W b off _ cap hg h1 b1 b2⟩
   · rename_i j e' lo len c
     obtain ⟨rfl,hb,h⟩:=h
     refine ⟨_,h,fun hg=>?_⟩
     obtain ⟨b1,b2⟩:=hb hg
     rcases hx hg with ⟨h1,h2,h3,h4⟩|⟨b,n',cap,off,h1,h2,h3,h4,h5,h6⟩
     · omega
     · have hoff:off=lo*T.sz e':=by rcases h6 with h6|h6<;>omega
       refine ⟨_,⟨b,e',n',cap,0,h1,.nil,rfl⟩,fun W _=>?_⟩
       have:=run W b off len _ hg h4 b1 b2
       rw [hoff,← Nat.add_mul] at this
       exact this
   · exact h.elim
 · exact h.elim
theorem QGv (hP:TabOk P T) {s:TypeId} {ts:List TypeId} (hs:T.ty s=.struct ts) {k:Nat} {u:TypeId} (hu:ts[k]?=some u) {cs:Array Value} {v:V} (hf:Fits T w F s v cs.toList) :
 ∃ y,ERel T w F ρ (WA T u (v.sub k)) y∧∀ W,(Instr.field s (.agg cs) k).run P W=.ok y W:=by
 obtain ⟨fs,f1,f2,_,f3⟩:=hP.struct _ _ hs
 have hk:fs.toList[k]?.map (·.type)=some u:=by rw [← List.getElem?_map,f2];exact hu
 obtain ⟨f,hfk⟩:∃ f,fs[k]?=some f:=by
  cases hk':fs[k]? with
  | none=>simp [hk'] at hk
  | some f=>exact ⟨f,rfl⟩
 have hfu:f.type=u:=by simpa [hfk] using hk
 obtain ⟨o1,o2,_,hno⟩:=f3 k f hfk
 obtain ⟨l,rfl,fl⟩:=hf.inv' hs
 have n1:=fl.nth hP.sized hu
 subst hfu
 rw [← o1] at n1
 obtain ⟨y,_,hy⟩:=VC hP n1 default
 refine ⟨y,Yy n1 hy,fun W=>?_⟩
 obtain ⟨y',hr,hy'⟩:=VC hP n1 W
 have:y'=y:=by
  unfold Qz at hy hy'
  split at hy
  · rename_i hA;rw [if_pos hA] at hy';rw [hy,hy']
  · rename_i hA;rw [if_neg hA] at hy';rw [hy] at hy';simpa using hy'.symm
 subst this
 simp [Instr.field,run_underlying f1,hfk,asAgg,hr]
theorem QER (hP:TabOk P T) {g:Bool} {t:TypeId} {x y:Operand} {ex:E} {k:IntKind} {n:Int} {K:E→Prop} (hx:g=true→ERel T w F ρ ex (a.eval x))
 (hy:g=true→a.eval y=.int k n) (h:QES T g t ex n K):∃ e,K e∧(g=true→WF P T w F ρ a (.index t x y) e):=by
 unfold QES at h
 split at h
 · rename_i m e ht
   obtain ⟨hu,h1m,hse,hno⟩:=hP.arr _ _ _ ht
   split at h;rotate_left;· exact h.elim
   rename_i t' v
   obtain ⟨rfl,hb,h⟩:=h
   refine ⟨_,h,fun hg=>?_⟩
   obtain ⟨b1,b2⟩:=hb hg
   obtain ⟨cs,h1,h2,h3⟩:=hx hg
   obtain ⟨l,rfl,h4⟩:=h3.inv' ht
   have hlt:n.toNat<m:=by omega
   have hrep:(List.replicate m e)[n.toNat]?=some e:=by simp [hlt]
   have n1:=h4.nth hP.sized hrep
   rw [Qv T _ _ e (Nat.le_of_lt hlt)] at n1
   obtain ⟨z,_,hz⟩:=VC hP n1 default
   refine ⟨z,Yy n1 hz,fun W _ o ho=>?_⟩
   obtain ⟨z',hr,hz'⟩:=VC hP n1 W
   have:z'=z:=by
    unfold Qz at hz hz'
    split at hz
    · rename_i hA;rw [if_pos hA] at hz';rw [hz,hz']
    · rename_i hA;rw [if_neg hA] at hz';rw [hz] at hz';simpa using hz'.symm
   subst this
   simp [execOp,ho,h1,hy hg,Instr.index,asIntOf,run_underlying hu,b1,b2,ZS hP hno,hr]
 · rename_i ht
   split at h;rotate_left;· exact h.elim
   rename_i s
   obtain ⟨hb,h⟩:=h
   refine ⟨_,h,fun hg=>?_⟩
   obtain ⟨b1,b2⟩:=hb hg
   have h1:a.eval x=.string s:=hx hg
   have hlt:n.toNat<s.size:=by omega
   have hlt':n.toNat<s.data.size:=hlt
   refine ⟨_,⟨rfl,?_⟩,fun W _ o ho=>?_⟩
   · have:=UInt8.toNat_lt ((s.data[n.toNat]?).getD 0)
     simp [IntKind.has,IntKind.min,IntKind.max,IntKind.signed,IntKind.bits]
     omega
   · have hg2:s[n.toNat]?=some s[n.toNat]:=by simp [hlt]
     have hd:s.data[n.toNat]?=some s[n.toNat]:=by rw [Array.getElem?_eq_getElem hlt'];rfl
     rw [hd]
     simp [execOp,ho,h1,hy hg,Instr.index,asIntOf,run_underlying (hP.str _ ht),b1,hg2]
 · exact h.elim
variable {P:Program} {T:Tab} {w w':World} {w0:Base T} {F:Nat→Prop} {ρ:Nat→RI} {σ:St} {a:Act} {outs:List (Array Value)}
theorem Ww {isS:Bool} {len cap:Nat} {lo hi mx:Option Operand} {A B M:Int} (hlo:QB0 a lo 0 A) (hhi:QB0 a hi len B) (hmx:QB0 a mx B M)
 (h0:0≤A) (h1:A≤B) (h2:B≤len) (h3:len≤cap) (h4:mx.isSome=true→B=M) (h5:mx.isSome=true→hi.isSome=true) (W:World) :
 (Instr.sliceBounds isS len cap (lo.map a.eval) (hi.map a.eval) (mx.map a.eval)).run P W=.ok (A.toNat,B.toNat,if mx.isSome then M.toNat else cap) W:=by
 have c1:B≤(cap:Int):=by omega
 have c2:0≤B:=by omega
 have cm:max B 0=B:=by omega
 unfold QB0 at hlo hhi hmx
 cases mx with
 | none =>
   cases hi with
   | none =>
     cases lo with
     | none=>simp at hlo hhi;subst hlo;subst hhi;simp [Instr.sliceBounds]
     | some o=>obtain ⟨k,hk⟩:=hlo;simp at hhi;subst hhi;simp [Instr.sliceBounds,Instr.sliceBound,hk,asIntOf,h0,h1]
   | some p =>
     obtain ⟨k,hk⟩:=hhi
     cases lo with
     | none=>simp at hlo;subst hlo;simp [Instr.sliceBounds,Instr.sliceBound,hk,asIntOf,c1,c2]
     | some o =>
       obtain ⟨k',hk'⟩:=hlo
       simp [Instr.sliceBounds,Instr.sliceBound,hk,hk',asIntOf,c1,c2,h0,cm,h1]
 | some q =>
   obtain ⟨k2,hk2⟩:=hmx
   have hBM:=h4 rfl
   subst hBM
   cases hi with
   | none=>simp at h5
   | some p =>
     obtain ⟨k,hk⟩:=hhi
     cases lo with
     | none=>simp at hlo;subst hlo;simp [Instr.sliceBounds,Instr.sliceBound,hk,hk2,asIntOf,c1,c2,cm]
     | some o =>
       obtain ⟨k',hk'⟩:=hlo
       simp [Instr.sliceBounds,Instr.sliceBound,hk,hk',hk2,asIntOf,c1,c2,cm,h0,h1]
theorem QDu (hP:TabOk P T) (hR:Rel T w F ρ w0 σ a.tmps outs) {g:Bool} {t:TypeId} {x:Operand} {lo hi mx:Option Operand} {ex:E} {K:E→Prop}
 (hx:g=true→ERel T w F ρ ex (a.eval x)) (h:QDv T σ g t ex lo hi mx K) (hmh:mx.isSome=true→hi.isSome=true) :
 ∃ e,K e∧(g=true→WF P T w F ρ a (.slice t x lo hi mx) e):=by
 unfold QDv at h
 split at h
 · rename_i e ht
   obtain ⟨hu,hno⟩:=hP.slice _ _ ht
   split at h
   · rename_i e' l c
     obtain ⟨rfl,h⟩:=h
     obtain ⟨A,h,hA⟩:=Zt hR h
     obtain ⟨B,h,hB⟩:=Zt hR h
     obtain ⟨M,h,hM⟩:=Zt hR h
     obtain ⟨hb,h⟩:=h
     refine ⟨_,h,fun hg=>?_⟩
     obtain ⟨b0,b1,b2,b3⟩:=hb hg
     have run:∀ (W:World) (b off cap:Nat),a.eval x=.slice (some ⟨b,off,none⟩) l.length cap→l.length≤cap→∀ o:Oper,o.op=.slice t x lo hi mx →
      (execOp a.eval o).run P W=.ok (.value (.slice (some ⟨b,if (if mx.isSome then M.toNat else cap)=A.toNat then off else off+A.toNat*T.sz e',none⟩) (B.toNat-A.toNat) ((if mx.isSome then M.toNat else cap)-A.toNat))) W:=by
      intro W b off cap hv hc o ho
      have hbr:=Ww (P:=P) (isS:=true) (hA hg) (hB hg) (hM hg) b0 b1 b2 hc b3 hmh W
      by_cases hm:(if mx.isSome then M.toNat else cap)=A.toNat
      · simp [execOp,ho,hv,Instr.sliceAt,Instr.slice,run_underlying hu,hbr,ZS hP hno,hm]
      · simp [execOp,ho,hv,Instr.sliceAt,Instr.slice,run_underlying hu,hbr,ZS hP hno,hm,Zn]
     rcases hx hg with ⟨ad,c0,h1,h2,h3,h4⟩|⟨b,off,cap,cs,h1,h2,h3,h4,h5,h6⟩
     · subst h2
       simp only [List.length_nil] at b2 hB
       have e1:A=0:=by omega
       have e2:B=0:=by omega
       subst e1;subst e2
       have hbr:=fun W=>Ww (P:=P) (isS:=true) (len:=0) (cap:=c0) (hA hg) (hB hg) (hM hg) (by omega) (by omega) (by omega) (by omega) b3 hmh W
       refine ⟨.slice ad 0 (if mx.isSome then M.toNat else c0),.inl ⟨ad,_,rfl,by simp,fun h=>?_,fun h=>?_⟩,fun W _ o ho=>?_⟩
       · split
         · rename_i q;have:=b3 q;omega
         · exact h3 h
       · simp only [List.length_nil,Int.natCast_zero,decide_true,Bool.and_true,Bool.or_eq_true] at h
         split
         · rename_i q;have:=b3 q;omega
         · rename_i q;exact h4 (h.resolve_left q)
       · have hbr:=hbr W
         simp only [Int.toNat_zero] at hbr
         cases ad with
         | none =>
           have hm0:(if mx.isSome then M.toNat else c0)=0:=by
            split
            · rename_i q;have:=b3 q;omega
            · exact h3 rfl
           rw [hm0] at hbr ⊢
           simp [execOp,ho,h1,Instr.sliceAt,Instr.slice,run_underlying hu,hbr,ZS hP hno]
         | some ad=>simp [execOp,ho,h1,Instr.sliceAt,Instr.slice,run_underlying hu,hbr,ZS hP hno,Addr.add]
     · refine ⟨_,.inr ⟨b,if (if mx.isSome then M.toNat else cap)=A.toNat then off else off+A.toNat*T.sz e',(if mx.isSome then M.toNat else cap)-A.toNat,(cs.drop (A.toNat*T.sz e')).take ((B.toNat-A.toNat)*T.sz e'),?_,?_,?_,h4,?_,?_⟩,fun W _=>run W b off cap h1 h2⟩
       · have:((l.drop A.toNat).take (B.toNat-A.toNat)).length=B.toNat-A.toNat:=by simp;omega
         rw [this]
       · have:((l.drop A.toNat).take (B.toNat-A.toNat)).length=B.toNat-A.toNat:=by simp;omega
         rw [this]
         split
         · rename_i q;have:=b3 q;omega
         · omega
       · intro hc
         have:((l.drop A.toNat).take (B.toNat-A.toNat)).length=B.toNat-A.toNat:=by simp;omega
         rw [this]
         simp only [Bool.or_eq_true,Bool.and_eq_true,decide_eq_true_eq] at hc
         split
         · rename_i q;have:=b3 q;omega
         · rename_i q
           rcases hc with hc|⟨hc1,hc2⟩
           · exact absurd hc q
           · have:=h3 hc1;omega
       · by_cases hm:(if mx.isSome then M.toNat else cap)=A.toNat
         · have:B.toNat-A.toNat=0:=by
            split at hm
            · rename_i q;have:=b3 q;omega
            · omega
           rw [this]
           intro j y hy
           simp at hy
         · rw [if_neg hm]
           exact h5.sub _ _
       · have:((l.drop A.toNat).take (B.toNat-A.toNat)).length=B.toNat-A.toNat:=by simp;omega
         rw [this]
         exact h6.slice hP.sized (by omega)
   · rename_i i e' l0 len c
     obtain ⟨rfl,h⟩:=h
     obtain ⟨A,h,hA⟩:=Zt hR h
     obtain ⟨B,h,hB⟩:=Zt hR h
     obtain ⟨M,h,hM⟩:=Zt hR h
     obtain ⟨hb,hcl,h⟩:=h
     refine ⟨_,h,fun hg=>?_⟩
     obtain ⟨b0,b1,b2,b3⟩:=hb hg
     rcases hx hg with ⟨h1,h2,h3,h4⟩|⟨b,n,cap,off,h1,h2,h3,h4,h5,h6⟩
     · subst h3;subst h4
       have e1:A=0:=by omega
       have e2:B=0:=by omega
       subst e1;subst e2
       refine ⟨.slice none 0 0,.inl ⟨h1,rfl,rfl,rfl⟩,fun W _ o ho=>?_⟩
       have hbr:=Ww (P:=P) (isS:=true) (len:=0) (cap:=0) (hA hg) (hB hg) (hM hg) (by omega) (by omega) (by omega) (by omega) b3 hmh W
       have hm0:(if mx.isSome then M.toNat else 0)=0:=by
        split
        · rename_i q;have:=b3 q;omega
        · rfl
       simp only [hm0,Int.toNat_zero] at hbr
       simp [execOp,ho,h2,Instr.sliceAt,Instr.slice,run_underlying hu,hbr,ZS hP hno]
     · generalize hcap:(if c=true then len else cap-l0)=cap' at h4
       have hc:len≤cap':=by subst hcap;split<;>omega
       have hbr:=fun W=>Ww (P:=P) (isS:=true) (hA hg) (hB hg) (hM hg) b0 b1 b2 hc b3 hmh W
       refine ⟨.slice (some ⟨b,if (if mx.isSome then M.toNat else cap')=A.toNat then off else off+A.toNat*T.sz e',none⟩) (B.toNat-A.toNat) ((if mx.isSome then M.toNat else cap')-A.toNat),
        .inr ⟨b,n,cap,if (if mx.isSome then M.toNat else cap')=A.toNat then off else off+A.toNat*T.sz e',h1,by omega,h3,?_,?_,?_⟩,fun W _ o ho=>?_⟩
       · congr 1
         by_cases hmx:mx.isSome=true
         · have:=b3 hmx
           simp [hmx]
           omega
         · simp only [hmx,Bool.false_eq_true,if_false,Bool.false_or]
           subst hcap
           cases c
           · simp;omega
           · have:=(hcl rfl).resolve_left hmx
             simp [this]
       · intro q
         have e1:l0=0:=by omega
         have e2:A.toNat=0:=by omega
         have e3:=h5 e1
         subst e3
         rw [e2]
         split<;>simp
       · by_cases hm:(if mx.isSome then M.toNat else cap')=A.toNat
         · left
           split at hm
           · rename_i q;have:=b3 q;omega
           · omega
         · rw [if_neg hm]
           rcases h6 with h6|h6
           · left;omega
           · right;rw [h6,Nat.add_mul]
       · by_cases hm:(if mx.isSome then M.toNat else cap')=A.toNat
         · simp [execOp,ho,h4,Instr.sliceAt,Instr.slice,run_underlying hu,hbr W,ZS hP hno,hm]
         · simp [execOp,ho,h4,Instr.sliceAt,Instr.slice,run_underlying hu,hbr W,ZS hP hno,hm,Zn]
   · exact h.elim
 · rename_i n e ht
   obtain ⟨hu,h1n,hse,hno⟩:=hP.arr _ _ _ ht
   split at h;rotate_left
   · rename_i i p t'
     obtain ⟨rfl,hmx,hhi,h⟩:=h
     have hmx':mx=none:=by cases mx<;>simp_all
     have hhi':hi=none:=by cases hi<;>simp_all
     subst hmx'
     subst hhi'
     obtain ⟨A,h,hA⟩:=Zt hR h
     obtain ⟨hb,h⟩:=h
     refine ⟨_,h,fun hg=>?_⟩
     obtain ⟨b0,b1⟩:=hb hg
     obtain ⟨b,root,off,h1,h2,h3⟩:=hx hg
     have hbr:=fun W=>Ww (P:=P) (isS:=false) (len:=n) (cap:=n) (hi:=none) (mx:=none) (B:=n) (M:=n) (hA hg) (by simp [QB0]) (by simp [QB0]) b0 (by omega) (Int.le_refl _) (Nat.le_refl _) (by simp) (by simp) W
     simp only [Option.map_none,Option.isSome_none,Bool.false_eq_true,if_false] at hbr
     have hm:¬n=A.toNat:=by omega
     refine ⟨.slice (some ⟨b,off+A.toNat*T.sz e,none⟩) (n-A.toNat) (n-A.toNat),⟨b,root,off,n,e,h1,h2,ht,by omega,rfl⟩,fun W _ o ho=>?_⟩
     simp [execOp,ho,h3,Instr.sliceAt,Instr.sureAddr,run_underlying hu,hbr W,ZS hP hno,hm,Zn]
   · exact h.elim
   rename_i t' v
   obtain ⟨rfl,hmx,h⟩:=h
   have hmx':mx=none:=by cases mx<;>simp_all
   subst hmx'
   obtain ⟨A,h,hA⟩:=Zt hR h
   obtain ⟨B,h,hB⟩:=Zt hR h
   obtain ⟨hb,h⟩:=h
   refine ⟨_,h,fun hg=>?_⟩
   obtain ⟨b0,b1,b2⟩:=hb hg
   obtain ⟨b,off,cs,h1,h2,h3,h4⟩:=hx hg
   obtain ⟨l,rfl,h5⟩:=h4.inv' ht
   have hl:=h5.lens
   rw [List.length_replicate] at hl
   have hbr:=fun W=>Ww (P:=P) (isS:=false) (len:=n) (cap:=n) (mx:=none) (M:=B) (hA hg) (hB hg) rfl b0 b1 b2 (Nat.le_refl _) (by simp) (by simp) W
   simp only [Option.map_none,Option.isSome_none,Bool.false_eq_true,if_false] at hbr
   have hlen:((l.drop A.toNat).take (B.toNat-A.toNat)).length=B.toNat-A.toNat:=by simp;omega
   refine ⟨.slice (some ⟨b,if n=A.toNat then off else off+A.toNat*T.sz e,none⟩) (B.toNat-A.toNat) (n-A.toNat),.inr ⟨b,if n=A.toNat then off else off+A.toNat*T.sz e,n-A.toNat,(cs.drop (A.toNat*T.sz e)).take ((B.toNat-A.toNat)*T.sz e),?_,?_,?_,h2,?_,?_⟩,fun W _ o ho=>?_⟩
   · simp only [V.toList_agg];rw [hlen]
   · simp only [V.toList_agg];rw [hlen];omega
   · intro hd
     simp only [decide_eq_true_eq] at hd
     simp only [V.toList_agg];rw [hlen];omega
   · by_cases hm:n=A.toNat
     · have:B.toNat-A.toNat=0:=by omega
       rw [this]
       intro j y hy
       simp at hy
     · rw [if_neg hm]
       exact h3.sub _ _
   · simp only [V.toList_agg]
     rw [hlen]
     exact h5.slice hP.sized (by omega)
   · by_cases hm:n=A.toNat
     · have hb2:=hbr W
       rw [if_pos hm]
       have hm':(n=A.toNat)=True:=by simp [hm]
       simp [execOp,ho,h1,Instr.sliceAt,Instr.sureAddr,run_underlying hu,hb2,ZS hP hno,hm']
     · simp [execOp,ho,h1,Instr.sliceAt,Instr.sureAddr,run_underlying hu,hbr W,ZS hP hno,hm,Zn]
 · exact h.elim
theorem QBr (hP:TabOk P T) {g:Bool} {c:Call} {b:Builtin} {es:List E} {K:E→Prop} (hc:c.callee=.builtin b) (hx:g=true→ERelL T w F ρ es (c.args.toList.map a.eval))
 (h:wI T g b c.argTypes.toList es K):∃ e,K e∧(g=true→WF P T w F ρ a (.call c) e):=by
 unfold wI at h
 split at h
 · rename_i t x hts
   have hx':g=true→∃ o v,c.args=#[o]∧a.eval o=v∧ERel T w F ρ x v:=by
    intro hg
    have h1:=hx hg
    match hl:c.args.toList,h1 with
    | [o],h1=>exact ⟨o,_,by rw [← Array.toArray_toList (xs:=c.args),hl],rfl,h1.1⟩
   have hat:c.argTypes=#[t]:=by rw [← Array.toArray_toList (xs:=c.argTypes),hts]
   split at h
   · rename_i e ht
     obtain ⟨hu,hno⟩:=hP.slice _ _ ht
     have run:∀ (W:World) (o:Operand) (ad:Option Addr) (n cp:Nat),c.args=#[o]→a.eval o=.slice ad n cp→∀ op:Oper,op.op=.call c→(execOp a.eval op).run P W=.ok (.value (.int .i64 n)) W:=by
      intro W o ad n cp h1 h2 op hop
      simp [execOp,hop,resolve,hc,h1,h2,invoke,builtin,Builtin.len_,hat,run_underlying hu,goInt]
     have lenHas:∀ n:Nat,n≤maxLen→IntKind.i64.has (n:Int):=by
      intro n hn
      unfold maxLen at hn
      simp [IntKind.has,IntKind.min,IntKind.max,IntKind.signed,IntKind.bits]
      omega
     split at h
     · rename_i e' l cl
       refine ⟨_,h.2,fun hg=>?_⟩
       obtain ⟨o,v,h1,h2,h3⟩:=hx' hg
       have hl:=lenHas _ (h.1 hg)
       rcases h3 with ⟨ad,c0,q1,q2,_⟩|⟨b',off,cap,cs,q1,q2,_⟩
       · subst q2
         exact ⟨_,⟨rfl,hl⟩,fun W _=>run W o ad 0 c0 h1 (h2.trans q1)⟩
       · exact ⟨_,⟨rfl,hl⟩,fun W _=>run W o _ _ _ h1 (h2.trans q1)⟩
     · rename_i i e' lo n cl
       refine ⟨_,h.2,fun hg=>?_⟩
       obtain ⟨o,v,h1,h2,h3⟩:=hx' hg
       have hl:=lenHas _ (h.1 hg)
       rcases h3 with ⟨_,q1,_,q2⟩|⟨b',n',cap,off,_,_,_,q1,_⟩
       · subst q2
         exact ⟨_,⟨rfl,hl⟩,fun W _=>run W o none 0 0 h1 (h2.trans q1)⟩
       · exact ⟨_,⟨rfl,hl⟩,fun W _=>run W o _ _ _ h1 (h2.trans q1)⟩
     · refine ⟨_,h,fun hg=>?_⟩
       obtain ⟨o,v,h1,h2,h3⟩:=hx' hg
       exact ⟨_,⟨rfl,lenHas 0 (by decide)⟩,fun W _=>run W o none 0 0 h1 (h2.trans h3)⟩
     · exact h.elim
   · rename_i ht
     split at h;rotate_left;· exact h.elim
     rename_i s
     refine ⟨_,h.2,fun hg=>?_⟩
     obtain ⟨o,v,h1,h2,h3⟩:=hx' hg
     have h2':a.eval o=.string s:=h2.trans h3
     have hl:IntKind.i64.has (s.size:Int):=by
      have:=h.1 hg
      unfold maxLen at this
      simp [IntKind.has,IntKind.min,IntKind.max,IntKind.signed,IntKind.bits]
      omega
     refine ⟨_,⟨rfl,hl⟩,fun W _ op hop=>?_⟩
     simp [execOp,hop,resolve,hc,h1,h2',invoke,builtin,Builtin.len_,hat,run_underlying (hP.str _ ht),goInt]
   · exact h.elim
 · obtain ⟨rfl,h⟩:=h
   refine ⟨_,h,fun hg=>?_⟩
   have h1:=hx hg
   match hl:c.args.toList,h1 with
   | [o1,o2],h1 =>
     have ha:c.args=#[o1,o2]:=by rw [← Array.toArray_toList (xs:=c.args),hl]
     obtain ⟨⟨e1,r1⟩,⟨e2,r2⟩,_⟩:=h1
     refine ⟨_,⟨rfl,?_⟩,fun W _ op hop=>?_⟩
     · unfold IntKind.has at *;omega
     · simp [execOp,hop,resolve,hc,ha,e1,e2,invoke,builtin,Builtin.min_,Builtin.min2]
       split<;>omega
 · obtain ⟨rfl,h⟩:=h
   refine ⟨_,h,fun hg=>?_⟩
   have h1:=hx hg
   match hl:c.args.toList,h1 with
   | [o1,o2],h1 =>
     have ha:c.args=#[o1,o2]:=by rw [← Array.toArray_toList (xs:=c.args),hl]
     obtain ⟨⟨e1,r1⟩,⟨e2,r2⟩,_⟩:=h1
     refine ⟨_,⟨rfl,?_⟩,fun W _ op hop=>?_⟩
     · unfold IntKind.has at *;omega
     · simp [execOp,hop,resolve,hc,ha,e1,e2,invoke,builtin,Builtin.max_,Builtin.max2]
       split<;>omega
 · exact h.elim
theorem X9 {t e:TypeId} (h:P.underlying t=some (.slice e)) (W:World) (a:Option Addr) (n c:Nat) {op:BinOp} {b:Bool} (hb:(op=.eql∧b=a.isNone)∨(op=.neq∧b=!a.isNone)) :
 (binOp op t (.slice a n c) (.slice none 0 0)).run P W=.ok (.bool b) W:=by
 rcases hb with ⟨rfl,rfl⟩|⟨rfl,rfl⟩<;>simp only [binOp]<;>simp [Op.equal,Op.maxDepth,Lib.run_equalIn_slice_nil W 9999 t e a n c 0 0 h]
theorem XN {op:BinOp} {r:Bool} {K:E→Prop} (h:eqA op r K):∃ b,K (.bool b)∧((op=.eql∧b=r)∨(op=.neq∧b=!r)):=by
 unfold eqA at h
 split at h
 · exact ⟨_,h,.inl ⟨rfl,rfl⟩⟩
 · exact ⟨_,h,.inr ⟨rfl,rfl⟩⟩
 · exact h.elim
theorem QHF (hP:TabOk P T) {g:Bool} {op:BinOp} {t t':TypeId} {x y:Operand} {ex ey:E} {K:E→Prop} (hx:g=true→ERel T w F ρ ex (a.eval x)) (hy:g=true→ERel T w F ρ ey (a.eval y))
 (h:QNg T op t g ex ey K):∃ e,K e∧(g=true→WF P T w F ρ a (.binOp op t x y t') e):=by
 have run1:∀ (W:World) (v:Value),(eqGuard op t x y (a.eval x) (a.eval y)).run P W=.ok () W→(binOp op t (a.eval x) (a.eval y)).run P W=.ok v W→∀ o:Oper,o.op=.binOp op t x y t'→(execOp a.eval o).run P W=.ok (.value v) W:=by
  intro W v h1 h2 o ho
  simp [execOp,ho,h1,h2]
 have shr:(op=.shl∨op=.shr)→QD0 op g ex ey K→∃ e,K e∧(g=true→WF P T w F ρ a (.binOp op t x y t') e):=by
  intro hop h'
  unfold QD0 at h'
  split at h';rotate_left;· exact h'.elim
  rename_i k p k' q
  split at h';rotate_left;· exact h'.elim
  rename_i e he
  refine ⟨e,h'.2,fun hg=>?_⟩
  obtain ⟨e1,r1⟩:=hx hg
  obtain ⟨e2,_⟩:=hy hg
  obtain ⟨v,hv,_⟩:=QAl (P:=P) (T:=T) (w:=w) (F:=F) (ρ:=ρ) (k':=k') he (h'.1 hg) r1 t default
  refine ⟨v,hv,fun W _=>run1 W v (by rcases hop with rfl|rfl<;>simp [eqGuard]) ?_⟩
  obtain ⟨v',hv',hr⟩:=QAl (P:=P) (T:=T) (w:=w) (F:=F) (ρ:=ρ) (k':=k') he (h'.1 hg) r1 t W
  rw [e1,e2]
  have:v'=v:=by
   cases op<;>simp [QAm] at he<;>subst he<;>exact hv'.1.trans hv.1.symm
  exact this▸hr
 have oth:(op≠.shl∧op≠.shr)→QED T op t g ex ey K→∃ e,K e∧(g=true→WF P T w F ρ a (.binOp op t x y t') e):=by
  intro hop h'
  unfold QED at h'
  split at h'
  · rename_i k p k' q
    obtain ⟨rfl,h'⟩:=h'
    split at h';rotate_left;· exact h'.elim
    rename_i pre e he
    refine ⟨e,h'.2,fun hg=>?_⟩
    obtain ⟨e1,r1⟩:=hx hg
    obtain ⟨e2,_⟩:=hy hg
    obtain ⟨v,hv,_⟩:=QDV (P:=P) (T:=T) (w:=w) (F:=F) (ρ:=ρ) he (h'.1 hg) r1 t default hop
    refine ⟨v,hv,fun W _=>run1 W v (by rw [e1,e2];cases op<;>simp [eqGuard]) ?_⟩
    obtain ⟨v',hv',hr⟩:=QDV (P:=P) (T:=T) (w:=w) (F:=F) (ρ:=ρ) he (h'.1 hg) r1 t W hop
    rw [e1,e2]
    have:v'=v:=by
     cases op<;>simp [QF7] at he<;>obtain ⟨_,rfl⟩:=he<;>first|exact hv'.1.trans hv.1.symm|exact Eq.trans hv' hv.symm
    exact this▸hr
  · rename_i p q
    obtain ⟨ht,h'⟩:=h'
    obtain ⟨b,hK,hb⟩:=XN h'
    refine ⟨_,hK,fun hg=>⟨_,rfl,fun W _=>?_⟩⟩
    have e1:a.eval x=.bool p:=hx hg
    have e2:a.eval y=.bool q:=hy hg
    refine run1 W _ (by rw [e1,e2];rcases hb with ⟨rfl,_⟩|⟨rfl,_⟩<;>simp [eqGuard]) ?_
    rw [e1,e2]
    rcases hb with ⟨rfl,rfl⟩|⟨rfl,rfl⟩
    · show ((do pure (Value.bool (← Op.equal t (.bool p) (.bool q))):Sem Value)).run P W=_
      rw [Sem.run_bind,run_equal_bool W t p q (hP.bool _ ht)];rfl
    · show ((do pure (Value.bool (!(← Op.equal t (.bool p) (.bool q)))):Sem Value)).run P W=_
      rw [Sem.run_bind,run_equal_bool W t p q (hP.bool _ ht)];rfl
  · rename_i p q
    obtain ⟨b,hK,hb⟩:=XN h'
    refine ⟨_,hK,fun hg=>⟨_,rfl,fun W _=>?_⟩⟩
    have e1:a.eval x=.string p:=hx hg
    have e2:a.eval y=.string q:=hy hg
    refine run1 W _ (by rw [e1,e2];rcases hb with ⟨rfl,_⟩|⟨rfl,_⟩<;>simp [eqGuard]) ?_
    rw [e1,e2]
    rcases hb with ⟨rfl,rfl⟩|⟨rfl,rfl⟩<;>simp [binOp,Op.stringOp]
  · rename_i t1 p t2 q
    obtain ⟨rfl,rfl,hf,h'⟩:=h'
    obtain ⟨b,hK,hb⟩:=XN h'
    refine ⟨_,hK,fun hg=>⟨_,rfl,fun W _=>?_⟩⟩
    obtain ⟨cs,e1,hA,f1⟩:=hx hg
    obtain ⟨ds,e2,_,f2⟩:=hy hg
    refine run1 W _ (by rw [e1,e2];exact run_eqGuard_agg W op _ x y cs ds (hP.guard _ hA)) ?_
    have hq:=QFm hP W 20 _ hf 10000 (by omega) f1 f2 (x:=.agg cs) (y:=.agg ds) (by simp [Qz,hA]) (by simp [Qz,hA])
    rw [e1,e2]
    rcases hb with ⟨rfl,rfl⟩|⟨rfl,rfl⟩
    · rw [run_eql_struct,hq];rfl
    · rw [run_neq_struct,hq];rfl
  · rename_i e l cl
    obtain ⟨ht,h1,h2⟩:=h'
    obtain ⟨hu,_⟩:=hP.slice _ _ ht
    cases g with
    | false =>
      obtain ⟨b,hK,_⟩:=XN h1
      exact ⟨_,hK,fun hg=>by cases hg⟩
    | true =>
      have e2:a.eval y=.slice none 0 0:=hy rfl
      rcases hx rfl with ⟨ad,c0,e1,rfl,hc0,_⟩|⟨bb,off,cap,cs,e1,_⟩
      · cases ad with
        | none =>
          rw [hc0 rfl] at e1
          obtain ⟨b,hK,hb⟩:=XN (h2 rfl)
          refine ⟨_,hK,fun _=>⟨_,rfl,fun W _=>run1 W _ (by rw [e1,e2];rcases hb with ⟨rfl,_⟩|⟨rfl,_⟩<;>simp [eqGuard]) ?_⟩⟩
          rw [e1,e2]
          exact X9 hu W none 0 0 hb
        | some ad =>
          obtain ⟨b,hK,hb⟩:=XN h1
          refine ⟨_,hK,fun _=>⟨_,rfl,fun W _=>run1 W _ (by rw [e1,e2];rcases hb with ⟨rfl,_⟩|⟨rfl,_⟩<;>simp [eqGuard]) ?_⟩⟩
          rw [e1,e2]
          exact X9 hu W _ _ _ hb
      · obtain ⟨b,hK,hb⟩:=XN h1
        refine ⟨_,hK,fun _=>⟨_,rfl,fun W _=>run1 W _ (by rw [e1,e2];rcases hb with ⟨rfl,_⟩|⟨rfl,_⟩<;>simp [eqGuard]) ?_⟩⟩
        rw [e1,e2]
        exact X9 hu W _ _ _ hb
  · rename_i i e lo n cl
    obtain ⟨ht,h1,h2⟩:=h'
    obtain ⟨hu,_⟩:=hP.slice _ _ ht
    cases g with
    | false =>
      obtain ⟨b,hK,_⟩:=XN h1
      exact ⟨_,hK,fun hg=>by cases hg⟩
    | true =>
      have e2:a.eval y=.slice none 0 0:=hy rfl
      rcases hx rfl with ⟨_,e1,_,n0⟩|⟨bb,n1,cap,off,_,_,_,e1,_⟩
      · obtain ⟨b,hK,hb⟩:=XN (h2 n0)
        refine ⟨_,hK,fun _=>⟨_,rfl,fun W _=>run1 W _ (by rw [e1,e2];rcases hb with ⟨rfl,_⟩|⟨rfl,_⟩<;>simp [eqGuard]) ?_⟩⟩
        rw [e1,e2]
        exact X9 hu W none 0 0 hb
      · obtain ⟨b,hK,hb⟩:=XN h1
        refine ⟨_,hK,fun _=>⟨_,rfl,fun W _=>run1 W _ (by rw [e1,e2];rcases hb with ⟨rfl,_⟩|⟨rfl,_⟩<;>simp [eqGuard]) ?_⟩⟩
        rw [e1,e2]
        exact X9 hu W _ _ _ hb
  · exact h'.elim
 unfold QNg at h
 split at h
 · exact shr (.inl rfl) h
 · exact shr (.inr rfl) h
 · rename_i h1 h2
   exact oth ⟨h1,h2⟩ h
variable {P:Program} {T:Tab} {w w':World} {w0:Base T} {F:Nat→Prop} {ρ:Nat→RI} {σ:St} {a:Act} {outs:List (Array Value)}
theorem wn (ds:List Value):∀ (k off:Nat) (cells:Array Value),off+k+ds.length≤cells.size →
 ((ds.zipIdx k).foldl (fun (cs:Array Value) (x:Value × Nat)=>cs.setIfInBounds (off+x.2) x.1) cells).toList=Qf cells.toList (off+k) ds:=by
 induction ds with
 | nil=>intro k off cells _;simp [Qf]
 | cons d ds ih =>
   intro k off cells h
   simp only [List.length_cons] at h
   simp only [List.zipIdx_cons,List.foldl_cons]
   rw [ih (k+1) off _ (by simp;omega)]
   simp only [Array.toList_setIfInBounds,Qf,List.length_cons]
   have hk:off+k<cells.toList.length:=by simp;omega
   have:=list_seg_step cells.toList (off+k) d ds (by simp;omega)
   rw [show off+(k+1)=off+k+1 by omega]
   exact this
theorem qe (hP:TabOk P T) (hR:Rel T w F ρ w0 σ a.tmps outs) {g:Bool} {pt:Nat→Option TypeId} {place:Nat→Option (Nat × Nat)} {ts:List TypeId} (hpt:∀ i t,pt i=some t→ts[i]?=some t)
 (hpl:∀ i t,ts[i]?=some t→place i=some (T.offs ts i,T.sz t)):∀ (parts:List (Nat × Operand)) (l:List V) (cells:Array Value) {K:V→Prop},
 (g=true→FitsL T w F ts l cells.toList)→xL T σ g pt parts (.agg l) K →
 ∃ l',K (.agg l')∧(g=true→∃ r,Instr.fill place cells (parts.map fun (i,x)=>(i,a.eval x))=some r∧FitsL T w F ts l' r.toList)
 | [],l,cells,K,hf,h=>⟨l,h,fun hg=>⟨cells,rfl,hf hg⟩⟩
 | (i,x)::r,l,cells,K,hf,h=>by
   unfold xL at h
   split at h;rotate_left;· exact h.elim
   rename_i t ht
   obtain ⟨e,h,he⟩:=QR hR h
   split at h;rotate_left;· exact h.elim
   rename_i y hy
   have hti:=hpt _ _ ht
   by_cases hg:g=true
   · obtain ⟨q1,q2⟩:=XE (he hg) hy
     have hl1:=q1.len hP.sized
     have hcl:=(hf hg).len hP.sized
     have ho:=yK T hti
     have hsz:(a.eval x).cells.size=T.sz t:=by simpa using hl1
     have hin:T.offs ts i+(a.eval x).cells.size≤cells.size:=by
      have:cells.toList.length=cells.size:=by simp
      omega
     have hnew:=(hf hg).setNth hP.sized hti q1
     have hspl:=wn (a.eval x).cells.toList 0 (T.offs ts i) cells (by simp;omega)
     have harr:((a.eval x).cells.zipIdx.foldl (fun (cs:Array Value) (x:Value × Nat)=>cs.setIfInBounds (T.offs ts i+x.2) x.1) cells).toList=Qf cells.toList (T.offs ts i) (a.eval x).cells.toList:=by
      rw [← Array.foldl_toList,Array.toList_zipIdx]
      exact hspl
     obtain ⟨l',hK,hr⟩:=qe hP hR hpt hpl r (l.set i y) ((a.eval x).cells.zipIdx.foldl (fun (cs:Array Value) (x:Value × Nat)=>cs.setIfInBounds (T.offs ts i+x.2) x.1) cells)
      (fun _=>by rw [harr];unfold Qf;rw [hl1];exact hnew) h
     refine ⟨l',hK,fun _=>?_⟩
     obtain ⟨R,hR1,hR2⟩:=hr hg
     refine ⟨R,?_,hR2⟩
     simp only [List.map_cons,Instr.fill,hpl _ _ hti,hsz,ne_eq,not_true_eq_false,decide_false,Bool.false_or,decide_eq_true_eq]
     rw [if_neg (by omega)]
     exact hR1
   · obtain ⟨l',hK,_⟩:=qe hP hR hpt hpl r (l.set i y) cells (fun hg'=>absurd hg' hg) h
     exact ⟨l',hK,fun hg'=>absurd hg' hg⟩
theorem vL (hP:TabOk P T):∀ (fs:List Field),(∀ f∈fs,T.ty f.type≠.other) →
 fs.mapM (fun f=>(P.info? f.type).map fun i=>(f.offset,i.size))=some (fs.map fun f=>(f.offset,T.sz f.type))
 | [],_=>rfl
 | f::fs,h=>by
   obtain ⟨i,h1,h2,_⟩:=hP.info f.type (h f (by simp))
   rw [List.mapM_cons,vL hP fs (fun g hg=>h g (by simp [hg]))]
   simp [h1,h2]
theorem vc (hP:TabOk P T) (hR:Rel T w F ρ w0 σ a.tmps outs) {g:Bool} {t:TypeId} {ts:List TypeId} {pt:Nat→Option TypeId} {parts:Array (Nat × Operand)} {K:E→Prop}
 (ht:T.ty t=.struct ts∧(pt=fun k=>ts[k]?)∨∃ n e,T.ty t=.arr n e∧ts=List.replicate n e∧pt=fun k=>if k<n then some e else none)
 (h:xL T σ g pt parts.toList (T.zero t) fun v=>K (.data t v)):∃ e,K e∧(g=true→WF P T w F ρ a (.build t parts) e):=by
 have hA:(T.ty t).isAgg=true:=by rcases ht with ⟨h1,_⟩|⟨n,e,h1,_⟩<;>simp [h1,TyD.isAgg]
 have hno:T.ty t≠.other:=by intro h0;rw [h0] at hA;cases hA
 obtain ⟨it,i1,i2,i3,z,i4,i5,i6,i7,i8,_⟩:=hP.info t hno
 have hz:Fits T w F t (T.zero t) z.cells.toList:=i8 (by intro h0;rw [h0] at hA;cases hA) (by intro e h0;rw [h0] at hA;cases hA) w F
 have hpt:∀ i u,pt i=some u→ts[i]?=some u:=by
  rcases ht with ⟨_,rfl⟩|⟨n,e,_,rfl,rfl⟩
  · exact fun i u h=>h
  · intro i u h
    simp only at h
    split at h
    · rename_i hi;simp [hi];simpa using h
    · cases h
 obtain ⟨l,hl,hfl⟩:∃ l,T.zero t=.agg l∧FitsL T w F ts l z.cells.toList:=by
  rcases ht with ⟨h1,_⟩|⟨n,e,h1,rfl,_⟩
  · exact hz.inv' h1
  · exact hz.inv' h1
 rw [hl] at h
 obtain ⟨place,hpl,hbuilt⟩:∃ place:Nat→Option (Nat × Nat),(∀ i u,ts[i]?=some u→place i=some (T.offs ts i,T.sz u)) ∧
  ∀ (ps:List (Nat × Value)) (r:Array Value),Instr.fill place z.cells ps=some r→P.built t ps=some r:=by
  rcases ht with ⟨h1,_⟩|⟨n,e,h1,rfl,_⟩
  · obtain ⟨fs,f1,f2,_,f3⟩:=hP.struct _ _ h1
    refine ⟨fun i=>(fs.toList.map fun f=>(f.offset,T.sz f.type)).toArray[i]?,?_,?_⟩
    · intro i u hu
      have:fs.toList[i]?.map (·.type)=some u:=by rw [← List.getElem?_map,f2];exact hu
      cases hk:fs[i]? with
      | none=>simp [hk] at this
      | some f =>
        have hfu:f.type=u:=by simpa [hk] using this
        obtain ⟨o1,_⟩:=f3 i f hk
        simp [hk,o1,hfu]
    · intro ps r hr
      have hm:=vL hP fs.toList (fun f hf=>by
       obtain ⟨i,hi⟩:=List.mem_iff_getElem?.1 hf
       exact (f3 i f (by simpa using hi)).2.2.2)
      simp only [Program.built,i1,f1,i4,hm]
      exact hr
  · obtain ⟨hu,_,_,hno'⟩:=hP.arr _ _ _ h1
    obtain ⟨ie,j1,j2,_⟩:=hP.info e hno'
    refine ⟨fun i=>some (i*ie.size,ie.size),?_,?_⟩
    · intro i u hu
      rw [List.getElem?_replicate] at hu
      split at hu
      · rename_i hi
        cases hu
        rw [Qv T n i _ (by omega),j2]
      · cases hu
    · intro ps r hr
      simp only [Program.built,i1,hu,i4,j1]
      exact hr
 obtain ⟨l',hK,hr⟩:=qe hP hR hpt hpl parts.toList l z.cells (fun _=>hfl) h
 refine ⟨_,hK,fun hg=>?_⟩
 obtain ⟨r,r1,r2⟩:=hr hg
 refine ⟨.agg r,⟨r,rfl,hA,?_⟩,fun W _ o ho=>?_⟩
 · rcases ht with ⟨h1,_⟩|⟨n,e,h1,rfl,_⟩
   · exact .struct h1 r2
   · exact .arr h1 r2
 · have:=run_build (P:=P) W t (parts.map fun (i,x)=>(i,a.eval x)) r (hbuilt _ _ (by simpa using r1))
   simp [execOp,ho,this]
end Go.Eng
