/- A part of the proof: walks through the program's functions, and what they compute. -/
import Derived.WalkKit
import Derived.ProofKit
import Derived.Below
import Derived.Laws.AppendOwn
import Derived.Laws.OwnMore
import Derived.Deep.Quiet
set_option linter.unusedSimpArgs false
set_option linter.unusedVariables false
namespace Go.Eng
open Go.RowKit
inductive V where
 | int (n:Int)
 | bool (b:Bool)
 | agg (l:List V)
 | list (l:List V)
 | str (s:ByteArray)
 | ref (v:V)
 | clo (f:FuncId) (ts:List TypeId) (l:List V)
instance:Inhabited V:=⟨.int 0⟩
def V.toInt:V→Int|.int n=>n|_=>0
def V.toBool:V→Bool|.bool b=>b|_=>false
def V.toList:V→List V|.list l=>l|.agg l=>l|_=>[]
def V.toStr:V→ByteArray|.str s=>s|_=>ByteArray.empty
def V.deref:V→V|.ref v=>v|_=>default
@[simp] theorem V.toInt_int (n:Int):(V.int n).toInt=n:=rfl
@[simp] theorem V.toBool_bool (b:Bool):(V.bool b).toBool=b:=rfl
@[simp] theorem V.toList_list (l:List V):(V.list l).toList=l:=rfl
@[simp] theorem V.toList_agg (l:List V):(V.agg l).toList=l:=rfl
@[simp] theorem V.toStr_str (s:ByteArray):(V.str s).toStr=s:=rfl
@[simp] theorem V.deref_ref (v:V):(V.ref v).deref=v:=rfl
def V.sub (v:V) (k:Nat):V:=v.toList.getD k default
def V.setSub (v:V) (k:Nat) (x:V):V:=match v with
 | .agg l=>.agg (l.set k x)
 | .list l=>.list (l.set k x)
 | v=>v
def V.get (v:V):List Nat→V
 | []=>v
 | k::p=>(v.get p).sub k
def V.put (v:V):List Nat→V→V
 | [],x=>x
 | k::p,x=>v.put p ((v.get p).setSub k x)
inductive TyD where
 | int (k:IntKind)
 | bool
 | str
 | struct (ts:List TypeId)
 | arr (n:Nat) (e:TypeId)
 | slice (e:TypeId)
 | ptr (e:TypeId)
 | fn
 | other
 deriving DecidableEq,Inhabited
def TyD.isAgg:TyD→Bool|.struct _|.arr _ _=>true|_=>false
structure Tab where
 ty:TypeId→TyD
 sz:TypeId→Nat
 by_:TypeId→Nat
 zero:TypeId→V
 glob:World→Prop:=fun _=>True
 globB:∀ w w',glob w→Below w.heap.size w w'→glob w':=by intro _ _ _ _;trivial
section
variable (T:Tab)
def Tab.szs:List TypeId→Nat
 | []=>0
 | t::ts=>T.sz t+Tab.szs ts
def Tab.offs (ts:List TypeId) (k:Nat):Nat:=T.szs (ts.take k)
def Seg (w:World) (b off:Nat) (cs:List Value):Prop:=∀ j x,cs[j]?=some x→w.cell? ⟨b,off+j,none⟩=some x
mutual
inductive Fits (w:World) (F:Nat→Prop):TypeId→V→List Value→Prop
 | int {t k n}:T.ty t=.int k→k.has n→Fits w F t (.int n) [.int k n]
 | bool {t b}:T.ty t=.bool→Fits w F t (.bool b) [.bool b]
 | str {t s}:T.ty t=.str→Fits w F t (.str s) [.string s]
 | struct {t ts l cs}:T.ty t=.struct ts→FitsL w F ts l cs→Fits w F t (.agg l) cs
 | arr {t n e l cs}:T.ty t=.arr n e→FitsL w F (List.replicate n e) l cs→Fits w F t (.agg l) cs
 | nil {t e}:T.ty t=.slice e→Fits w F t (.list []) [.slice none 0 0]
 | empty {t e ad c}:T.ty t=.slice e→Fits w F t (.list []) [.slice (some ad) 0 c]
 | slice {t e b off n cap l cs}:T.ty t=.slice e→F b→Seg w b off cs→l.length=n→FitsL w F (List.replicate n e) l cs→n≤cap →
    Fits w F t (.list l) [.slice (some ⟨b,off,none⟩) n cap]
 | ref {t e b off v cs}:T.ty t=.ptr e→F b→Seg w b off cs→Fits w F e v cs→Fits w F t (.ref v) [.pointer (some ⟨b,off,none⟩)]
 | clo {t f ts l cs}:T.ty t=.fn→FitsP w F ts l cs→Fits w F t (.clo f ts l) [.func (.func f) #[] cs.toArray]
inductive FitsL (w:World) (F:Nat→Prop):List TypeId→List V→List Value→Prop
 | nil:FitsL w F [] [] []
 | cons {t ts v vs c cs}:Fits w F t v c→FitsL w F ts vs cs→FitsL w F (t::ts) (v::vs) (c++cs)
inductive FitsP (w:World) (F:Nat→Prop):List TypeId→List V→List Value→Prop
 | nil:FitsP w F [] [] []
 | cons {t ts v vs b off ds cs}:F b→Seg w b off ds→Fits w F t v ds→FitsP w F ts vs cs→FitsP w F (t::ts) (v::vs) (.pointer (some ⟨b,off,none⟩)::cs)
end
variable {T} {w w':World} {F F':Nat→Prop}
theorem Seg.mono {b off:Nat} {cs:List Value} (h:Seg w b off cs) (hb:w'.heap[b]?=w.heap[b]?):Seg w' b off cs :=
 fun j x hx=>(World.cell?_of_block (w:=w) (a:=⟨b,off+j,none⟩) hb).trans (h j x hx)
mutual
theorem Fits.mono {t:TypeId} {v:V} {cs:List Value} (h:Fits T w F t v cs) (hF:∀ b,F b→F' b) (hw:∀ b,F b→w'.heap[b]?=w.heap[b]?):Fits T w' F' t v cs:=by
 cases h with
 | int h1 h2=>exact .int h1 h2
 | bool h1=>exact .bool h1
 | str h1=>exact .str h1
 | struct h1 h2=>exact .struct h1 (h2.mono hF hw)
 | arr h1 h2=>exact .arr h1 (h2.mono hF hw)
 | nil h1=>exact .nil h1
 | empty h1=>exact .empty h1
 | slice h1 h2 h3 h4 h5 h6=>exact .slice h1 (hF _ h2) (h3.mono (hw _ h2)) h4 (h5.mono hF hw) h6
 | ref h1 h2 h3 h4=>exact .ref h1 (hF _ h2) (h3.mono (hw _ h2)) (h4.mono hF hw)
 | clo h1 h2=>exact .clo h1 (h2.mono hF hw)
theorem FitsL.mono {ts:List TypeId} {l:List V} {cs:List Value} (h:FitsL T w F ts l cs) (hF:∀ b,F b→F' b) (hw:∀ b,F b→w'.heap[b]?=w.heap[b]?):FitsL T w' F' ts l cs:=by
 cases h with
 | nil=>exact .nil
 | cons h1 h2=>exact .cons (h1.mono hF hw) (h2.mono hF hw)
theorem FitsP.mono {ts:List TypeId} {l:List V} {cs:List Value} (h:FitsP T w F ts l cs) (hF:∀ b,F b→F' b) (hw:∀ b,F b→w'.heap[b]?=w.heap[b]?):FitsP T w' F' ts l cs:=by
 cases h with
 | nil=>exact .nil
 | cons h1 h2 h3 h4=>exact .cons (hF _ h1) (h2.mono (hw _ h1)) (h3.mono hF hw) (h4.mono hF hw)
end
structure Tab.Sized (T:Tab):Prop where
 int:∀ t k,T.ty t=.int k→T.sz t=1
 bool:∀ t,T.ty t=.bool→T.sz t=1
 str:∀ t,T.ty t=.str→T.sz t=1
 slice:∀ t e,T.ty t=.slice e→T.sz t=1∧0<T.sz e
 ptr:∀ t e,T.ty t=.ptr e→T.sz t=1
 fn:∀ t,T.ty t=.fn→T.sz t=1
 struct:∀ t ts,T.ty t=.struct ts→T.sz t=T.szs ts
 arr:∀ t n e,T.ty t=.arr n e→T.sz t=T.szs (List.replicate n e)
theorem szs_replicate (T:Tab) (n:Nat) (e:TypeId):T.szs (List.replicate n e)=n*T.sz e:=by
 induction n with
 | zero=>simp [Tab.szs]
 | succ n ih=>simp [List.replicate_succ,Tab.szs,ih,Nat.add_mul,Nat.add_comm]
theorem offs_replicate (T:Tab) (n k:Nat) (e:TypeId) (h:k≤n):T.offs (List.replicate n e) k=k*T.sz e:=by
 unfold Tab.offs
 rw [List.take_replicate,Nat.min_eq_left h,szs_replicate]
mutual
theorem Fits.len (hS:T.Sized) {t:TypeId} {v:V} {cs:List Value} (h:Fits T w F t v cs):cs.length=T.sz t:=by
 cases h with
 | int h1 h2=>simp [hS.int _ _ h1]
 | bool h1=>simp [hS.bool _ h1]
 | str h1=>simp [hS.str _ h1]
 | struct h1 h2=>rw [hS.struct _ _ h1];exact h2.len hS
 | arr h1 h2=>rw [hS.arr _ _ _ h1];exact h2.len hS
 | nil h1=>simp [(hS.slice _ _ h1).1]
 | empty h1=>simp [(hS.slice _ _ h1).1]
 | slice h1 h2 h3 h4 h5 h6=>simp [(hS.slice _ _ h1).1]
 | ref h1 h2 h3 h4=>simp [hS.ptr _ _ h1]
 | clo h1 h2=>simp [hS.fn _ h1]
theorem FitsL.len (hS:T.Sized) {ts:List TypeId} {l:List V} {cs:List Value} (h:FitsL T w F ts l cs):cs.length=T.szs ts:=by
 cases h with
 | nil=>rfl
 | cons h1 h2=>rw [List.length_append,h1.len hS,h2.len hS];rfl
end
def FitsAt (T:Tab) (w:World) (F:Nat→Prop) (v:V) (cs:List Value):TyD→Prop
 | .int k=>∃ n,v=.int n∧k.has n∧cs=[.int k n]
 | .bool=>∃ b,v=.bool b∧cs=[.bool b]
 | .str=>∃ s,v=.str s∧cs=[.string s]
 | .struct ts=>∃ l,v=.agg l∧FitsL T w F ts l cs
 | .arr n e=>∃ l,v=.agg l∧FitsL T w F (List.replicate n e) l cs
 | .slice e=>(v=.list []∧∃ ad c,cs=[.slice ad 0 c]∧(ad=none→c=0))∨∃ b off n cap l ds,v=.list l∧cs=[.slice (some ⟨b,off,none⟩) n cap]∧F b∧Seg w b off ds∧l.length=n∧FitsL T w F (List.replicate n e) l ds∧n≤cap
 | .ptr e=>∃ b off x ds,v=.ref x∧cs=[.pointer (some ⟨b,off,none⟩)]∧F b∧Seg w b off ds∧Fits T w F e x ds
 | .fn=>∃ f ts l xs,v=.clo f ts l∧cs=[.func (.func f) #[] xs.toArray]∧FitsP T w F ts l xs
 | .other=>False
theorem Fits.inv {t:TypeId} {v:V} {cs:List Value} (h:Fits T w F t v cs):FitsAt T w F v cs (T.ty t):=by
 cases h with
 | int h1 h2=>rw [h1];exact ⟨_,rfl,h2,rfl⟩
 | bool h1=>rw [h1];exact ⟨_,rfl,rfl⟩
 | str h1=>rw [h1];exact ⟨_,rfl,rfl⟩
 | struct h1 h2=>rw [h1];exact ⟨_,rfl,h2⟩
 | arr h1 h2=>rw [h1];exact ⟨_,rfl,h2⟩
 | nil h1=>rw [h1];exact .inl ⟨rfl,none,0,rfl,fun _=>rfl⟩
 | empty h1=>rw [h1];exact .inl ⟨rfl,some _,_,rfl,fun h=>by cases h⟩
 | slice h1 h2 h3 h4 h5 h6=>rw [h1];exact .inr ⟨_,_,_,_,_,_,rfl,rfl,h2,h3,h4,h5,h6⟩
 | ref h1 h2 h3 h4=>rw [h1];exact ⟨_,_,_,_,rfl,rfl,h2,h3,h4⟩
 | clo h1 h2=>rw [h1];exact ⟨_,_,_,_,rfl,rfl,h2⟩
theorem Fits.inv' {t:TypeId} {v:V} {cs:List Value} {d:TyD} (hd:T.ty t=d) (h:Fits T w F t v cs):FitsAt T w F v cs d:=hd▸h.inv
theorem Fits.void {t:TypeId} {e:TypeId} {ad:Option Addr} {c:Nat} (h:T.ty t=.slice e) (hc:ad=none→c=0):Fits T w F t (.list []) [.slice ad 0 c]:=by
 cases ad with
 | none=>rw [hc rfl];exact .nil h
 | some ad=>exact .empty h
theorem FitsL.lens {ts:List TypeId}:∀ {l:List V} {cs:List Value},FitsL T w F ts l cs→l.length=ts.length:=by
 induction ts with
 | nil=>intro l cs h;cases h;rfl
 | cons t ts ih=>intro l cs h;cases h with|cons h1 h2=>simp [ih h2]
theorem FitsL.nth (hS:T.Sized) {ts:List TypeId}:∀ {l:List V} {cs:List Value},FitsL T w F ts l cs→∀ {k:Nat} {t:TypeId},ts[k]?=some t →
 Fits T w F t (l.getD k default) ((cs.drop (T.offs ts k)).take (T.sz t)):=by
 induction ts with
 | nil=>intro l cs h k t hk;simp at hk
 | cons u ts ih =>
   intro l cs h k t hk
   cases h with
   | cons h1 h2 =>
     rename_i v vs c ds
     have hc:=h1.len hS
     cases k with
     | zero =>
       simp at hk
       subst hk
       simp only [Tab.offs,List.take_zero,Tab.szs,List.drop_zero,List.getD_cons_zero]
       rw [← hc,List.take_left]
       exact h1
     | succ k =>
       have:=ih h2 (k:=k) (t:=t) (by simpa using hk)
       simp only [Tab.offs,List.take_succ_cons,Tab.szs,List.getD_cons_succ] at this ⊢
       rw [← hc,List.drop_append,List.drop_eq_nil_of_le (by omega),List.nil_append,Nat.add_sub_cancel_left]
       exact this
theorem FitsL.ofNth {ts:List TypeId}:∀ {l:List V} {cs:List Value},l.length=ts.length→cs.length=T.szs ts →
 (∀ (k:Nat) (t:TypeId),ts[k]?=some t→Fits T w F t (l.getD k default) ((cs.drop (T.offs ts k)).take (T.sz t)))→FitsL T w F ts l cs:=by
 induction ts with
 | nil =>
   intro l cs h1 h2 _
   cases l with
   | nil=>cases cs with
     | nil=>exact .nil
     | cons=>simp [Tab.szs] at h2
   | cons=>simp at h1
 | cons u ts ih =>
   intro l cs h1 h2 h
   cases l with
   | nil=>simp at h1
   | cons v vs =>
     have h0:=h 0 u rfl
     simp only [Tab.offs,List.take_zero,Tab.szs,List.drop_zero,List.getD_cons_zero] at h0
     have e:cs=cs.take (T.sz u)++cs.drop (T.sz u):=(List.take_append_drop _ _).symm
     rw [e]
     simp only [Tab.szs] at h2
     refine .cons h0 (ih (by simpa using h1) (by simp [h2]) fun k t hk=>?_)
     have:=h (k+1) t (by simpa using hk)
     simp only [Tab.offs,List.take_succ_cons,Tab.szs,List.getD_cons_succ] at this ⊢
     rw [List.drop_drop]
     exact this
theorem offs_le (T:Tab) {ts:List TypeId}:∀ {k:Nat} {t:TypeId},ts[k]?=some t→T.offs ts k+T.sz t≤T.szs ts:=by
 induction ts with
 | nil=>intro k t h;simp at h
 | cons u ts ih =>
   intro k t h
   cases k with
   | zero=>simp at h;subst h;simp [Tab.offs,Tab.szs]
   | succ k =>
     have:=ih (k:=k) (t:=t) (by simpa using h)
     simp only [Tab.offs,List.take_succ_cons,Tab.szs] at this ⊢
     omega
theorem FitsL.setNth (hS:T.Sized) {ts:List TypeId}:∀ {l:List V} {cs:List Value},FitsL T w F ts l cs→∀ {k:Nat} {t:TypeId} {x:V} {ds:List Value},ts[k]?=some t →
 Fits T w F t x ds→FitsL T w F ts (l.set k x) (cs.take (T.offs ts k)++ds++cs.drop (T.offs ts k+T.sz t)):=by
 induction ts with
 | nil=>intro l cs h k t x ds hk;simp at hk
 | cons u ts ih =>
   intro l cs h k t x ds hk hx
   cases h with
   | cons h1 h2 =>
     rename_i v vs c cs'
     have hc:=h1.len hS
     cases k with
     | zero =>
       simp at hk
       subst hk
       simp only [Tab.offs,List.take_zero,Tab.szs,List.nil_append,List.set_cons_zero,Nat.zero_add]
       rw [List.drop_append,List.drop_eq_nil_of_le (by omega),List.nil_append,hc,Nat.sub_self,List.drop_zero]
       exact .cons hx h2
     | succ k =>
       have:=ih h2 (k:=k) (t:=t) (x:=x) (ds:=ds) (by simpa using hk) hx
       simp only [Tab.offs,List.take_succ_cons,Tab.szs,List.set_cons_succ] at this ⊢
       have e:(c++cs').take (T.sz u+T.szs (ts.take k))++ds++(c++cs').drop (T.sz u+T.szs (ts.take k)+T.sz t) =
        c++(cs'.take (T.szs (ts.take k))++ds++cs'.drop (T.szs (ts.take k)+T.sz t)):=by
        rw [List.take_append,List.drop_append,List.take_of_length_le (by omega),List.drop_eq_nil_of_le (by omega),List.nil_append,hc,Nat.add_sub_cancel_left,
         show T.sz u+T.szs (ts.take k)+T.sz t-T.sz u=T.szs (ts.take k)+T.sz t by omega]
        simp [List.append_assoc]
       rw [e]
       exact .cons h1 this
theorem FitsL.append {ts us:List TypeId}:∀ {l m:List V} {cs ds:List Value},FitsL T w F ts l cs→FitsL T w F us m ds→FitsL T w F (ts++us) (l++m) (cs++ds):=by
 induction ts with
 | nil=>intro l m cs ds h k;cases h;simpa using k
 | cons t ts ih =>
   intro l m cs ds h k
   cases h with
   | cons h1 h2=>rw [List.append_assoc];exact .cons h1 (ih h2 k)
theorem FitsL.split (hS:T.Sized) {ts us:List TypeId}:∀ {l:List V} {cs:List Value},FitsL T w F (ts++us) l cs →
 FitsL T w F ts (l.take ts.length) (cs.take (T.szs ts))∧FitsL T w F us (l.drop ts.length) (cs.drop (T.szs ts)):=by
 induction ts with
 | nil=>intro l cs h;exact ⟨by simpa [Tab.szs] using FitsL.nil,by simpa [Tab.szs] using h⟩
 | cons t ts ih =>
   intro l cs h
   cases h with
   | cons h1 h2 =>
     rename_i v vs c cs'
     have hc:=h1.len hS
     obtain ⟨a,b⟩:=ih h2
     refine ⟨?_,?_⟩
     · simp only [List.length_cons,List.take_succ_cons,Tab.szs]
       have e:(c++cs').take (T.sz t+T.szs ts)=c++cs'.take (T.szs ts):=by
        rw [List.take_append,List.take_of_length_le (by omega),hc,Nat.add_sub_cancel_left]
       rw [e]
       exact .cons h1 a
     · simp only [List.length_cons,List.drop_succ_cons,Tab.szs]
       have e:(c++cs').drop (T.sz t+T.szs ts)=cs'.drop (T.szs ts):=by
        rw [List.drop_append,List.drop_eq_nil_of_le (by omega),hc,Nat.add_sub_cancel_left,List.nil_append]
       rw [e]
       exact b
theorem FitsL.slice (hS:T.Sized) {n lo m:Nat} {e:TypeId} {l:List V} {cs:List Value} (h:FitsL T w F (List.replicate n e) l cs) (hm:lo+m≤n) :
 FitsL T w F (List.replicate m e) ((l.drop lo).take m) ((cs.drop (lo*T.sz e)).take (m*T.sz e)):=by
 have e1:List.replicate n e=List.replicate lo e++(List.replicate m e++List.replicate (n-lo-m) e):=by
  rw [List.replicate_append_replicate,List.replicate_append_replicate];congr 1;omega
 rw [e1] at h
 have h2:=(h.split hS).2
 rw [List.length_replicate,szs_replicate] at h2
 have h3:=(h2.split hS).1
 rwa [List.length_replicate,szs_replicate] at h3
theorem Seg.sub {b off:Nat} {cs:List Value} (h:Seg w b off cs) (k n:Nat):Seg w b (off+k) ((cs.drop k).take n):=by
 intro j x hx
 rw [List.getElem?_take] at hx
 split at hx
 · rw [List.getElem?_drop] at hx
   have:=h _ _ hx
   rwa [← Nat.add_assoc] at this
 · cases hx
inductive PathOk (T:Tab) (root:TypeId):List Nat→Nat→TypeId→Prop
 | nil:PathOk T root [] 0 root
 | fld {p off s ts k t}:PathOk T root p off s→T.ty s=.struct ts→ts[k]?=some t→PathOk T root (k::p) (off+T.offs ts k) t
 | idx {p off s n e k}:PathOk T root p off s→T.ty s=.arr n e→k<n→PathOk T root (k::p) (off+k*T.sz e) e
theorem PathOk.get (hS:T.Sized) {root t:TypeId} {p:List Nat} {off:Nat} (h:PathOk T root p off t) {v:V} {cs:List Value} (hv:Fits T w F root v cs) :
 Fits T w F t (v.get p) ((cs.drop off).take (T.sz t))∧off+T.sz t≤cs.length:=by
 induction h with
 | nil =>
   have:=hv.len hS
   refine ⟨?_,by omega⟩
   rw [List.drop_zero,List.take_of_length_le (by omega)]
   exact hv
 | fld h1 h2 h3 ih =>
   rename_i p off s ts k t
   obtain ⟨a,ha⟩:=ih
   have hsz:=hS.struct _ _ h2
   have ho:=offs_le T h3
   obtain ⟨l,hg,q2⟩:=a.inv' h2
   ·
    have:=q2.nth hS h3
    refine ⟨?_,by omega⟩
    show Fits T w F t ((v.get p).sub k) _
    rw [hg]
    show Fits T w F t (List.getD _ k default) _
    rw [List.drop_take,List.take_take,List.drop_drop,Nat.min_eq_left (by omega)] at this
    exact this
 | idx h1 h2 h3 ih =>
   rename_i p off s n e k
   obtain ⟨a,ha⟩:=ih
   have hsz:=hS.arr _ _ _ h2
   have hk:(List.replicate n e)[k]?=some e:=by simp [h3]
   have ho:=offs_le T hk
   rw [offs_replicate T n k e (by omega)] at ho
   obtain ⟨l,hg,q2⟩:=a.inv' h2
   ·
    have:=q2.nth hS hk
    rw [offs_replicate T n k e (by omega)] at this
    refine ⟨?_,by omega⟩
    show Fits T w F e ((v.get p).sub k) _
    rw [hg]
    show Fits T w F e (List.getD _ k default) _
    rw [List.drop_take,List.take_take,List.drop_drop,Nat.min_eq_left (by omega)] at this
    exact this
def splice (cs:List Value) (off:Nat) (ds:List Value):List Value:=cs.take off++ds++cs.drop (off+ds.length)
theorem splice_splice (cs ds es:List Value) (off k:Nat) (h1:off+ds.length≤cs.length) (h2:k+es.length≤ds.length) (hd:(cs.drop off).take ds.length=ds) :
 splice cs off (splice ds k es)=splice cs (off+k) es:=by
 have e:cs=cs.take off++ds++cs.drop (off+ds.length):=by
  rw [← List.drop_drop]
  conv=>lhs;rw [← List.take_append_drop off cs,← List.take_append_drop ds.length (cs.drop off),hd]
  rw [List.append_assoc]
 have hl:(splice ds k es).length=ds.length:=by simp only [splice,List.length_append,List.length_take,List.length_drop];omega
 have e1:cs.take (off+k)=cs.take off++ds.take k:=by
  conv=>lhs;rw [e]
  rw [List.append_assoc,List.take_append,List.take_of_length_le (by simp;omega),List.length_take,Nat.min_eq_left (by omega),Nat.add_sub_cancel_left,List.take_append_of_le_length (by omega)]
 have e2:cs.drop (off+k+es.length)=ds.drop (k+es.length)++cs.drop (off+ds.length):=by
  conv=>lhs;rw [e]
  rw [List.append_assoc,List.drop_append,List.drop_eq_nil_of_le (by simp;omega),List.nil_append,List.length_take,Nat.min_eq_left (by omega),
   show off+k+es.length-off=k+es.length by omega,List.drop_append_of_le_length (by omega)]
 unfold splice at hl ⊢
 rw [hl,e1,e2]
 simp only [List.append_assoc]
theorem PathOk.put (hS:T.Sized) {root t:TypeId} {p:List Nat} {off:Nat} (h:PathOk T root p off t):∀ {v x:V} {cs ds:List Value},Fits T w F root v cs→Fits T w F t x ds →
 Fits T w F root (v.put p x) (splice cs off ds):=by
 induction h with
 | nil =>
   intro v x cs ds hv hx
   have h1:=hv.len hS
   have h2:=hx.len hS
   have:splice cs 0 ds=ds:=by simp [splice,List.drop_eq_nil_of_le (show cs.length≤ds.length by omega)]
   rw [this]
   exact hx
 | fld h1 h2 h3 ih =>
   rename_i p off s ts k t
   intro v x cs ds hv hx
   obtain ⟨a,ha⟩:=h1.get hS hv
   have hsz:=hS.struct _ _ h2
   have ho:=offs_le T h3
   have hxl:=hx.len hS
   have hal:=a.len hS
   show Fits T w F root (v.put p ((v.get p).setSub k x)) _
   have hnew:Fits T w F s ((v.get p).setSub k x) (splice ((cs.drop off).take (T.sz s)) (T.offs ts k) ds):=by
    obtain ⟨l,hg,q2⟩:=a.inv' h2
    rw [hg]
    ·
     have:=q2.setNth hS h3 hx
     unfold splice
     rw [hxl]
     exact .struct h2 this
   have:=ih hv hnew
   rwa [splice_splice _ _ _ _ _ (by omega) (by omega) (by rw [hal])] at this
 | idx h1 h2 h3 ih =>
   rename_i p off s n e k
   intro v x cs ds hv hx
   obtain ⟨a,ha⟩:=h1.get hS hv
   have hsz:=hS.arr _ _ _ h2
   have hk:(List.replicate n e)[k]?=some e:=by simp [h3]
   have ho:=offs_le T hk
   have hxl:=hx.len hS
   have hal:=a.len hS
   rw [offs_replicate T n k e (by omega)] at ho
   show Fits T w F root (v.put p ((v.get p).setSub k x)) _
   have hnew:Fits T w F s ((v.get p).setSub k x) (splice ((cs.drop off).take (T.sz s)) (k*T.sz e) ds):=by
    obtain ⟨l,hg,q2⟩:=a.inv' h2
    rw [hg]
    ·
     have:=q2.setNth hS hk hx
     rw [offs_replicate T n k e (by omega)] at this
     unfold splice
     rw [hxl]
     exact .arr h2 this
   have:=ih hv hnew
   rwa [splice_splice _ _ _ _ _ (by omega) (by omega) (by rw [hal])] at this
end
end Go.Eng
namespace Go.Eng
open Go.RowKit
inductive E where
 | int (k:IntKind) (n:Int)
 | bool (b:Bool)
 | str (s:ByteArray)
 | data (t:TypeId) (v:V)
 | fs (e:TypeId) (l:List V) (clip:Bool)
 | sl (i:Nat) (e:TypeId) (lo len:Nat) (clip:Bool)
 | nilsl
 | ptr (i:Nat) (p:List Nat) (t:TypeId)
 | rp (i j:Nat) (p:List Nat) (t:TypeId)
 | fptr (t:TypeId) (v:V)
 | av (i:Nat) (p:List Nat) (t:TypeId) (lo:Nat)
 | fn (f:FuncId) (caps:List E)
 | nilfn
 | tup (l:List E)
 | agg (t:TypeId) (l:List E)
 | undef
instance:Inhabited E:=⟨.undef⟩
inductive RI where
 | none
 | var (b:Nat) (t:TypeId)
 | row (e:TypeId) (r:Value)
def RI.block:RI→Option Nat
 | .none=>Option.none
 | .var b _=>some b
 | .row _ r=>r.ownBlock
inductive Obj where
 | var (t:TypeId) (e:E)
 | row (e:TypeId) (l:List V)
 | erow (e:TypeId) (l:List E)
 | dead
abbrev Tm:=List (Nat × Bool × E)
structure Base (T:Tab) where
 w:World
 G:Nat→Prop
 ok:T.glob w
structure St where
 tm:Tm
 ob:List Obj
 out:List Tm:=[]
 nt:Nat:=0
section
variable (T:Tab) (w:World) (F:Nat→Prop) (ρ:Nat→RI)
def FRow (e:TypeId) (l:List V) (clip:Bool) (v:Value):Prop :=
 (∃ ad c,v=.slice ad 0 c∧l=[]∧(ad=none→c=0)∧(clip=true→c=0))∨∃ b off cap cs,v=.slice (some ⟨b,off,none⟩) l.length cap∧l.length≤cap∧(clip=true→cap=l.length)∧F b∧Seg w b off cs ∧
   FitsL T w F (List.replicate l.length e) l cs
def ORow (r:RI) (e:TypeId) (lo len:Nat) (clip:Bool) (v:Value):Prop :=
 (r=.row e (.slice none 0 0)∧v=.slice none 0 0∧lo=0∧len=0) ∨
 ∃ b n cap off,r=.row e (.slice (some ⟨b,0,none⟩) n cap)∧lo+len≤n∧n≤cap∧v=.slice (some ⟨b,off,none⟩) len (if clip then len else cap-lo) ∧
   (lo=0→off=0)∧(len=0∨off=lo*T.sz e)
def Holds (t:TypeId) (v:Value) (cs:Array Value):Prop :=
 cs.size=T.sz t∧(if (T.ty t).isAgg then v=.agg cs else cs=#[v]∧v.oneCell'=true)
def Joins:List TypeId→List Value→List Value→Prop
 | [],[],cs=>cs=[]
 | t::ts,v::vs,cs=>∃ r,cs=v.cells.toList++r∧Holds T t v v.cells∧(∀ c∈v.cells,c.oneCell'=true)∧Joins ts vs r
 | _,_,_=>False
mutual
def ERel:E→Value→Prop
 | .int k n,v=>v=.int k n∧k.has n
 | .bool b,v=>v=.bool b
 | .str s,v=>v=.string s
 | .data t x,v=>∃ cs:Array Value,v=.agg cs∧(T.ty t).isAgg=true∧Fits T w F t x cs.toList
 | .fs e l clip,v=>FRow T w F e l clip v
 | .sl i e lo len clip,v=>ORow T (ρ i) e lo len clip v
 | .nilsl,v=>v=.slice none 0 0
 | .ptr i p t,v=>∃ b root off,ρ i=.var b root∧PathOk T root p off t∧v=.pointer (some ⟨b,off,none⟩)
 | .rp i j p t,v=>∃ b e n cap off,ρ i=.row e (.slice (some ⟨b,0,none⟩) n cap)∧PathOk T e p off t∧v=.pointer (some ⟨b,j*T.sz e+off,none⟩)
 | .av i p t lo,v=>∃ b root off n e,ρ i=.var b root∧PathOk T root p off t∧T.ty t=.arr n e∧lo<n∧v=.slice (some ⟨b,off+lo*T.sz e,none⟩) (n-lo) (n-lo)
 | .fptr t x,v=>∃ b off cs,v=.pointer (some ⟨b,off,none⟩)∧F b∧Seg w b off cs∧Fits T w F t x cs
 | .fn f caps,v=>∃ cs:List Value,v=.func (.func f) #[] cs.toArray∧ERelL caps cs
 | .nilfn,v=>v=.nilFunc
 | .tup l,v=>∃ vs:List Value,v=.tuple vs.toArray∧ERelL l vs
 | .agg t l,v=>∃ (ts:List TypeId) (vs:List Value) (cs:Array Value),T.ty t=.struct ts∧v=.agg cs∧ERelL l vs∧Joins T ts vs cs.toList
 | .undef,_=>True
def ERelL:List E→List Value→Prop
 | [],[]=>True
 | e::es,v::vs=>ERel e v∧ERelL es vs
 | _,_=>False
end
def ORel (n0:Nat):RI→Obj→Prop
 | .var b t',.var t e=>(t'=t∧T.ty t≠.other∧∀ u x,e=.data u x→u=t)∧n0≤b∧¬ F b∧∃ cs ct v,w.heap[b]?=some (.cells cs ct (0,0))∧ERel T w F ρ e v∧Holds T t v cs∧(∀ c∈cs,c.oneCell'=true)
 | .row e' r,.row e l=>e'=e∧(∀ b,r.ownBlock=some b→¬ F b)∧∃ xs,w.ownsRow n0 e (T.sz e) r l.length xs∧FitsL T w F (List.replicate l.length e) l xs
 | .row e' r,.erow e l=>e'=e∧(∀ b,r.ownBlock=some b→¬ F b)∧(T.sz e=1∧(T.ty e).isAgg=false∧T.ty e≠.other)∧∃ xs,w.ownsRow n0 e (T.sz e) r l.length xs∧ERelL T w F ρ l xs∧∀ x∈xs,x.oneCell'=true
 | r,.dead=>r=.none
 | _,_=>False
def TmRel (tm:Tm) (tmps:Array Value):Prop :=
 ∀ t g e,tm.lookup t=some (g,e)→∃ v,tmps[t]?=some v∧(g=true→ERel T w F ρ e v)∧(g=false→v=undef)
def OutRel:List Tm→List (Array Value)→Prop
 | [],[]=>True
 | a::as,b::bs=>TmRel T w F ρ a b∧OutRel as bs
 | _,_=>False
structure Rel (w0:Base T) (σ:St) (tmps:Array Value) (outs:List (Array Value)):Prop where
 tm:TmRel T w F ρ σ.tm tmps
 out:OutRel T w F ρ σ.out outs
 ob:∀ i o,σ.ob[i]?=some o→ORel T w F ρ w0.w.heap.size (ρ i) o
 free:∀ i,σ.ob[i]?=none→ρ i=.none
 inj:∀ i j b,(ρ i).block=some b→(ρ j).block=some b→i=j
 fsub:∀ b,F b→b<w.heap.size
 below:Below w0.w.heap.size w0.w w
 size:tmps.size=σ.nt
 fold:∀ b,F b→w0.w.heap.size≤b∨w0.G b
end
variable {T:Tab} {w w':World} {w0:Base T} {F F':Nat→Prop} {ρ ρ':Nat→RI}
theorem FRow.mono {e:TypeId} {l:List V} {clip:Bool} {v:Value} (hF:∀ b,F b→F' b) (hw:∀ b,F b→w'.heap[b]?=w.heap[b]?) (h:FRow T w F e l clip v):FRow T w' F' e l clip v:=by
 rcases h with h|⟨b,off,cap,cs,h1,h2,h3,h4,h5,h6⟩
 · exact .inl h
 · exact .inr ⟨b,off,cap,cs,h1,h2,h3,hF _ h4,h5.mono (hw _ h4),h6.mono hF hw⟩
mutual
theorem ERel.mono (hF:∀ b,F b→F' b) (hw:∀ b,F b→w'.heap[b]?=w.heap[b]?) (hρ:∀ i,ρ i≠.none→ρ' i=ρ i):∀ {e:E} {v:Value},ERel T w F ρ e v→ERel T w' F' ρ' e v
 | .int _ _,_,h=>h
 | .bool _,_,h=>h
 | .str _,_,h=>h
 | .data _ _,_,⟨cs,h1,h2,h3⟩=>⟨cs,h1,h2,h3.mono hF hw⟩
 | .fs _ _ _,_,h=>FRow.mono hF hw h
 | .sl i e lo len clip,v,h=>by
   unfold ERel at h ⊢
   have:ρ' i=ρ i:=hρ i (by rcases h with ⟨h,_⟩|⟨_,_,_,_,h,_⟩<;>rw [h]<;>simp)
   rw [this];exact h
 | .nilsl,_,h=>h
 | .ptr i p t,v,⟨b,root,off,h1,h2,h3⟩=>⟨b,root,off,(hρ i (by rw [h1];simp)).trans h1,h2,h3⟩
 | .rp i j p t,v,⟨b,e,n,cap,off,h1,h2,h3⟩=>⟨b,e,n,cap,off,(hρ i (by rw [h1];simp)).trans h1,h2,h3⟩
 | .av i p t lo,v,⟨b,root,off,n,e,h1,h2,h3⟩=>⟨b,root,off,n,e,(hρ i (by rw [h1];simp)).trans h1,h2,h3⟩
 | .fptr _ _,_,⟨b,off,cs,h1,h2,h3,h4⟩=>⟨b,off,cs,h1,hF _ h2,h3.mono (hw _ h2),h4.mono hF hw⟩
 | .fn _ _,_,⟨cs,h1,h2⟩=>⟨cs,h1,ERelL.mono hF hw hρ h2⟩
 | .nilfn,_,h=>h
 | .tup _,_,⟨vs,h1,h2⟩=>⟨vs,h1,ERelL.mono hF hw hρ h2⟩
 | .agg _ _,_,⟨ts,vs,cs,h0,h1,h2,h3⟩=>⟨ts,vs,cs,h0,h1,ERelL.mono hF hw hρ h2,h3⟩
 | .undef,_,_=>trivial
theorem ERelL.mono (hF:∀ b,F b→F' b) (hw:∀ b,F b→w'.heap[b]?=w.heap[b]?) (hρ:∀ i,ρ i≠.none→ρ' i=ρ i):∀ {l:List E} {vs:List Value},ERelL T w F ρ l vs→ERelL T w' F' ρ' l vs
 | [],[],h=>h
 | _::_,_::_,⟨h1,h2⟩=>⟨ERel.mono hF hw hρ h1,ERelL.mono hF hw hρ h2⟩
 | [],_::_,h=>h.elim
 | _::_,[],h=>h.elim
end
theorem ERelL.at:∀ {l:List E} {vs:List Value} {k:Nat},ERelL T w F ρ l vs→k<l.length→∃ v,vs[k]?=some v∧ERel T w F ρ (l.getD k .undef) v
 | [],_,_,_,h=>by simp at h
 | e::l,[],_,hr,_=>hr.elim
 | e::l,v::vs,0,hr,_=>⟨v,rfl,hr.1⟩
 | e::l,v::vs,k+1,hr,h=>by
   obtain ⟨u,h1,h2⟩:=ERelL.at (l:=l) (vs:=vs) (k:=k) hr.2 (by simpa using h)
   exact ⟨u,by simpa using h1,by simpa using h2⟩
theorem ERelL.len:∀ {l:List E} {vs:List Value},ERelL T w F ρ l vs→vs.length=l.length
 | [],[],_=>rfl
 | _::_,_::_,⟨_,h⟩=>by simp [ERelL.len h]
 | [],_::_,h=>h.elim
 | _::_,[],h=>h.elim
theorem ERelL.set:∀ {l:List E} {vs:List Value} {k:Nat} {e:E} {v:Value},ERelL T w F ρ l vs→ERel T w F ρ e v→ERelL T w F ρ (l.set k e) (vs.set k v)
 | [],[],_,_,_,_,_=>trivial
 | _::_,_::_,0,_,_,h,he=>⟨he,h.2⟩
 | _::_,_::_,k+1,_,_,h,he=>⟨h.1,ERelL.set (k:=k) h.2 he⟩
 | [],_::_,_,_,_,h,_=>h.elim
 | _::_,[],_,_,_,h,_=>h.elim
theorem offs_zero (T:Tab) (ts:List TypeId):T.offs ts 0=0:=by simp [Tab.offs,Tab.szs]
theorem offs_succ (T:Tab) (t:TypeId) (ts:List TypeId) (k:Nat):T.offs (t::ts) (k+1)=T.sz t+T.offs ts k:=rfl
theorem splice_append (a r d:List Value) (n:Nat):splice (a++r) (a.length+n) d=a++splice r n d:=by
 unfold splice
 rw [List.take_length_add_append,Nat.add_assoc,List.drop_length_add_append]
 simp only [List.append_assoc]
theorem Joins.nth:∀ {ts:List TypeId} {vs cs:List Value} {k:Nat} {t:TypeId},Joins T ts vs cs→ts[k]?=some t→∃ v,vs[k]?=some v∧Holds T t v v.cells∧(cs.drop (T.offs ts k)).take (T.sz t)=v.cells.toList
 | [],_,_,_,_,_,h=>by simp at h
 | _::_,[],_,_,_,h,_=>h.elim
 | t0::ts,v0::vs,cs,0,t,h,hk=>by
   obtain ⟨r,rfl,h1,h2,h3⟩:=h
   simp at hk
   subst hk
   refine ⟨v0,rfl,h1,?_⟩
   rw [offs_zero,List.drop_zero,← h1.1,List.take_left' (by simp)]
 | t0::ts,v0::vs,cs,k+1,t,h,hk=>by
   obtain ⟨r,rfl,h1,h2,h3⟩:=h
   obtain ⟨v,g1,g2,g3⟩:=h3.nth (k:=k) (by simpa using hk)
   refine ⟨v,by simpa using g1,g2,?_⟩
   rw [offs_succ,← h1.1,← Array.length_toList,List.drop_length_add_append]
   exact g3
theorem Joins.set:∀ {ts:List TypeId} {vs cs:List Value} {k:Nat} {t:TypeId} {v:Value},Joins T ts vs cs→ts[k]?=some t→Holds T t v v.cells→(∀ c∈v.cells,c.oneCell'=true)→Joins T ts (vs.set k v) (splice cs (T.offs ts k) v.cells.toList)
 | [],_,_,_,_,_,_,h,_,_=>by simp at h
 | _::_,[],_,_,_,_,h,_,_,_=>h.elim
 | t0::ts,v0::vs,cs,0,t,v,h,hk,hv,ho=>by
   obtain ⟨r,rfl,h1,h2,h3⟩:=h
   simp at hk
   subst hk
   refine ⟨r,?_,hv,ho,h3⟩
   unfold splice
   rw [offs_zero,List.take_zero,List.nil_append,Nat.zero_add,List.drop_left' (by simp [h1.1,hv.1])]
 | t0::ts,v0::vs,cs,k+1,t,v,h,hk,hv,ho=>by
   obtain ⟨r,rfl,h1,h2,h3⟩:=h
   refine ⟨_,?_,h1,h2,h3.set (k:=k) (by simpa using hk) hv ho⟩
   rw [offs_succ,← h1.1,← Array.length_toList,splice_append]
theorem Joins.ones:∀ {ts:List TypeId} {vs cs:List Value},Joins T ts vs cs→∀ c∈cs,c.oneCell'=true
 | [],[],_,h=>by rw [show _=[] from h];simp
 | [],_::_,_,h=>h.elim
 | _::_,[],_,h=>h.elim
 | t::ts,v::vs,cs,h=>by
   obtain ⟨r,rfl,h1,h2,h3⟩:=h
   intro c hc
   rcases List.mem_append.1 hc with hc|hc
   · exact h2 c (by simpa using hc)
   · exact h3.ones c hc
theorem Joins.len:∀ {ts:List TypeId} {vs cs:List Value},Joins T ts vs cs→cs.length=T.szs ts
 | [],[],_,h=>by rw [show _=[] from h];rfl
 | [],_::_,_,h=>h.elim
 | _::_,[],_,h=>h.elim
 | t::ts,v::vs,cs,h=>by
   obtain ⟨r,rfl,h1,h2,h3⟩:=h
   rw [List.length_append,h3.len,Array.length_toList,h1.1]
   rfl
theorem TmRel.mono (hF:∀ b,F b→F' b) (hw:∀ b,F b→w'.heap[b]?=w.heap[b]?) (hρ:∀ i,ρ i≠.none→ρ' i=ρ i) {tm:Tm} {tmps:Array Value} (h:TmRel T w F ρ tm tmps):TmRel T w' F' ρ' tm tmps :=
 fun t g e he=>let ⟨v,h1,h2,h3⟩:=h t g e he;⟨v,h1,fun hg=>(h2 hg).mono hF hw hρ,h3⟩
theorem OutRel.mono (hF:∀ b,F b→F' b) (hw:∀ b,F b→w'.heap[b]?=w.heap[b]?) (hρ:∀ i,ρ i≠.none→ρ' i=ρ i):∀ {l:List Tm} {vs:List (Array Value)},OutRel T w F ρ l vs→OutRel T w' F' ρ' l vs
 | [],[],h=>h
 | _::_,_::_,⟨h1,h2⟩=>⟨h1.mono hF hw hρ,OutRel.mono hF hw hρ h2⟩
 | [],_::_,h=>h.elim
 | _::_,[],h=>h.elim
theorem ORel.mono {n0:Nat} {r:RI} {o:Obj} (hF:∀ b,F b→F' b) (hw:∀ b,F b→w'.heap[b]?=w.heap[b]?) (hρ:∀ i,ρ i≠.none→ρ' i=ρ i)
 (hb:∀ b,r.block=some b→w'.heap[b]?=w.heap[b]?) (hn:∀ b,r.block=some b→¬ F' b) (h:ORel T w F ρ n0 r o):ORel T w' F' ρ' n0 r o:=by
 cases o with
 | dead=>cases r<;>exact h
 | var t e =>
   cases r with
   | none=>exact h.elim
   | row _ _=>exact h.elim
   | var b t' =>
     obtain ⟨h1,h2,h3,cs,ct,v,h4,h5,h6,h7⟩:=h
     exact ⟨h1,h2,hn b rfl,cs,ct,v,(hb b rfl).trans h4,h5.mono hF hw hρ,h6,h7⟩
 | row e l =>
   cases r with
   | none=>exact h.elim
   | var _ _=>exact h.elim
   | row e' r =>
     obtain ⟨h1,h2,xs,h3,h4⟩:=h
     refine ⟨h1,fun b hb'=>hn b hb',xs,⟨h3.1,?_⟩,h4.mono hF hw⟩
     rcases h3.2 with h|⟨g,cap,cur,hr,hg,hh,rest⟩
     · exact .inl h
     · refine .inr ⟨g,cap,cur,hr,hg,?_,rest⟩
       rw [hb g (by simp [RI.block,hr,Value.ownBlock])]
       exact hh
 | erow e l =>
   cases r with
   | none=>exact h.elim
   | var _ _=>exact h.elim
   | row e' r =>
     obtain ⟨h1,h2,h0,xs,h3,h4,h5⟩:=h
     refine ⟨h1,fun b hb'=>hn b hb',h0,xs,⟨h3.1,?_⟩,h4.mono hF hw hρ,h5⟩
     rcases h3.2 with h|⟨g,cap,cur,hr,hg,hh,rest⟩
     · exact .inl h
     · refine .inr ⟨g,cap,cur,hr,hg,?_,rest⟩
       rw [hb g (by simp [RI.block,hr,Value.ownBlock])]
       exact hh
theorem ORel.own {n0:Nat} {r:RI} {o:Obj} (h:ORel T w F ρ n0 r o) {b:Nat} (hb:r.block=some b):b<w.heap.size∧¬ F b∧n0≤b:=by
 cases o with
 | dead=>cases r<;>first|(simp [RI.block] at hb;done)|(cases h;done)
 | var t e =>
   cases r with
   | none=>exact h.elim
   | row _ _=>exact h.elim
   | var b' t' =>
     obtain ⟨_,h2,h3,cs,ct,v,h4,_⟩:=h
     simp [RI.block] at hb
     subst hb
     exact ⟨(Array.getElem?_eq_some_iff.1 h4).1,h3,h2⟩
 | row e l =>
   cases r with
   | none=>exact h.elim
   | var _ _=>exact h.elim
   | row e' r =>
     obtain ⟨_,h2,xs,h3,_⟩:=h
     exact ⟨(h3.lt b hb).2,h2 b hb,(h3.lt b hb).1⟩
 | erow e l =>
   cases r with
   | none=>exact h.elim
   | var _ _=>exact h.elim
   | row e' r =>
     obtain ⟨_,h2,_,xs,h3,_⟩:=h
     exact ⟨(h3.lt b hb).2,h2 b hb,(h3.lt b hb).1⟩
theorem Rel.own {σ:St} {tmps:Array Value} {outs:List (Array Value)} (h:Rel T w F ρ w0 σ tmps outs) {i b:Nat} (hb:(ρ i).block=some b):b<w.heap.size∧¬ F b∧w0.w.heap.size≤b:=by
 cases ho:σ.ob[i]? with
 | none=>rw [h.free i ho] at hb;simp [RI.block] at hb
 | some o=>exact (h.ob i o ho).own hb
theorem Rel.later {σ:St} {tmps:Array Value} {outs:List (Array Value)} (h:Rel T w F ρ w0 σ tmps outs) (hb:Below w.heap.size w w'):Rel T w' F ρ w0 σ tmps outs:=by
 have hw:∀ b,F b→w'.heap[b]?=w.heap[b]?:=fun b hF=>hb.block b (h.fsub b hF)
 exact ⟨h.tm.mono (fun _ x=>x) hw (fun _ _=>rfl),h.out.mono (fun _ x=>x) hw (fun _ _=>rfl),
  fun i o ho=>(h.ob i o ho).mono (fun _ x=>x) hw (fun _ _=>rfl) (fun b hr=>hb.block b (h.own hr).1) (fun b hr=>(h.own hr).2.1),
  h.free,h.inj,fun b hF=>Nat.lt_of_lt_of_le (h.fsub b hF) hb.size,h.below.trans (hb.mono h.below.size),h.size,h.fold⟩
end Go.Eng
