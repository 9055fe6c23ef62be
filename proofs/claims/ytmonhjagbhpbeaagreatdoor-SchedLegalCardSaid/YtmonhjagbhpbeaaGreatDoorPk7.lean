/- A part of the proof: walks through the program's functions, and what they compute. -/
import Derived.Test.YtmonhjagbhpbeaaGreatDoorPk6
import Derived.Test.YtmonhjagbhpbeaaGreatDoorRows
import Derived.Test.YtmonhjagbhpbeaaGreatDoorCards
import Derived.Test.YtmonhjagbhpbeaaGreatDoorTie
import Derived.LaidMore
import Derived.SevenTiedAt
set_option linter.unusedSimpArgs false
set_option linter.unusedVariables false
namespace Go.Eng
section
variable {apply:Int→Int→Int→Int × Int} (hap:WF apply) {p:Prg}
theorem qZ {fuel:Int} {s:Stt} {l:List Pck} {j:Nat} (h:Zy apply p fuel s l j=true):(l.getD j default).alt∈Qr p (QG apply p fuel s l j) (l.getD j default).go:=by
 unfold Zy at h
 obtain ⟨y,hy,e⟩:=List.any_eq_true.1 h
 have e:=of_decide_eq_true e
 rw [e]
 exact (ready_mem.1 hy).2
include hap in
theorem Y5 (hr:QT p=true) (hok:p.Ok) {fuel:Int} (hf:0≤fuel∧fuel≤4096) {s:Stt} (hv:Vld p s) {l:List Pck}:∀ {n:Nat},n≤l.length→(∀ j,j<n→Zy apply p fuel s l j=true)→Vld p (QG apply p fuel s l n)
 | 0,_,_=>by rw [Wx];exact hv
 | n+1,hn,h=>by
   rw [Z7 apply p fuel s l (by omega)]
   exact QQE hap hr hok (Y5 hr hok hf hv (by omega) fun j hj=>h j (by omega)) (qZ (h n (by omega))) hf
end
section
variable {apply:Int→Int→Int→Int × Int} (hap:WF apply) {p:Prg}
theorem zL {s:Stt} {x:Pck} (ha:x.alt∈Qr p s x.go) {fuel:Int} (hf:0≤fuel∧fuel≤4096):∃ v,(XV apply p s x fuel).2.1=event p s x v:=by
 unfold XV
 rw [if_neg (by omega),if_neg (by unfold has;rw [decide_eq_true ha];decide)]
 unfold take
 simp only
 split
 · exact ⟨_,rfl⟩
 · split<;>exact ⟨_,rfl⟩
end
end Go.Eng
namespace Go.Eng
theorem okAtR_iff {p:Prg} {fuel:Int} {s:Stt} {l:List Pck} {j:Nat}:Zy QA p fuel s l j=true↔(l.getD j default).alt∈Qr p (QG QA p fuel s l j) (l.getD j default).go:=by
 refine ⟨qZ,fun h=>?_⟩
 unfold Zy
 exact List.any_eq_true.2 ⟨_,ready_mem.2 ⟨(live_iff.1 (ZU h)).1,h⟩,by simp⟩
theorem Ub {p:Prg} (hr:QT p=true) {s:Stt} (hv:Vld p s):XI p s=0:=by
 unfold XI
 rw [hr,hv.ok (Prg.ok hr) hr]
 decide
theorem QIv {p:Prg} (hr:QT p=true) {fuel:Int} (hf:0≤fuel∧fuel≤4096) {s:Stt} {l:List Pck} {j:Nat} (hj:j<l.length) (hv:Vld p (QG QA p fuel s l j)) (h:Zy QA p fuel s l j=true) :
 vh p (QG QA p fuel s l j) (l.getD j default) fuel=(QG QA p fuel s l (j+1),Qj QA p fuel s l j,0):=by
 have ha:=okAtR_iff.1 h
 have h0:=Ub hr hv
 have hn:¬(fuel<0∨4096<fuel):=by omega
 have hh:XV QA p (QG QA p fuel s l j) (l.getD j default) fuel=((take QA p (QG QA p fuel s l j) (l.getD j default) fuel).1,(take QA p (QG QA p fuel s l j) (l.getD j default) fuel).2,0):=by
  have e:=WC h0 hn ha
  unfold vh at e
  rw [if_neg (fun q=>q h0)] at e
  exact e
 rw [WC h0 hn ha,Z7 QA p fuel s l hj,Qj,hh]
theorem QNW {p:Prg} (hr:QT p=true) {fuel:Int} (hf:0≤fuel∧fuel≤4096) {s:Stt} {l:List Pck} {j:Nat} (hv:Vld p (QG QA p fuel s l j)) (h:Zy QA p fuel s l j=false) :
 vh p (QG QA p fuel s l j) (l.getD j default) fuel=(zeroStt,zeroEvent,5) :=
 yU (Ub hr hv) (by omega) (fun ha=>by rw [okAtR_iff.2 ha] at h;cases h)
def Y1 (p:Prg) (l:List Pck) (b:Bud):Nat × Stt × Int × Int :=
 let s0:=(start QA p b.fuel).1
 if Zf p l.length b≠0 then (0,zeroStt,Zf p l.length b,0)
 else if b.steps<(l.length:Int) then (0,zeroStt,2,b.steps)
 else if Zu QA p b.fuel s0 l<l.length then (Zu QA p b.fuel s0 l,zeroStt,5,Zu QA p b.fuel s0 l)
 else (l.length,QG QA p b.fuel s0 l l.length,0,0)
theorem Ua {p:Prg} {n:Int} {b:Bud} (h:Zf p n b=0):QT p=true∧n≤256∧Z5 b=true∧(0≤b.fuel∧b.fuel≤4096)∧(0≤b.steps∧b.steps≤256):=by
 unfold Zf at h
 split at h;· cases h
 rename_i h1
 split at h;· cases h
 rename_i h2
 split at h;· cases h
 rename_i h3
 have hb:Z5 b=true:=by simpa using h3
 refine ⟨by simpa using h1,by omega,hb,?_⟩
 simp only [Z5,Bool.and_eq_true,decide_eq_true_eq] at hb
 omega
end Go.Eng
namespace Go.Eng
def XW (a:Access):Int:=a.kind*1000+a.num
def WH (a:Access):Prop:=(0≤a.kind∧a.kind≤100)∧0≤a.num∧a.num<1000
theorem QHU {a b:Access} (ha:WH a) (hb:WH b):XW a<XW b↔V4 a b:=by
 unfold WH at ha hb;unfold XW V4;omega
theorem QHV {a b:Access} (ha:WH a) (hb:WH b):XW a=XW b↔a.kind=b.kind∧a.num=b.num:=by
 unfold WH at ha hb;unfold XW;omega
def Xv (l:List Access) (k:Nat):Access:=l.getD k default
def W6:List Access→List Access
 | a::b::l=>if a=b then W6 (b::l) else a::W6 (b::l)
 | l=>l
theorem cpt_mem:∀ {l:List Access} {x:Access},x∈W6 l↔x∈l
 | [],_=>Iff.rfl
 | [_],_=>Iff.rfl
 | a::b::l,x=>by
   unfold W6
   split
   · rename_i h
     rw [cpt_mem,← h];simp
   · rw [List.mem_cons,cpt_mem,← List.mem_cons]
theorem QDX:∀ {l:List Access} {a:Access},l≠[]→W6 (l++[a])=if l.getLast?=some a then W6 l else W6 l++[a]
 | [],_,h=>absurd rfl h
 | [x],a,_=>by
   simp only [List.cons_append,List.nil_append,List.getLast?_singleton,Option.some.injEq]
   unfold W6
   split
   · rename_i h;subst h;rfl
   · rfl
 | x::y::l,a,_=>by
   have ih:=QDX (l:=y::l) (a:=a) (by simp)
   rw [List.getLast?_cons_cons]
   show W6 (x::y::(l++[a]))=_
   have e1:W6 (x::y::(l++[a]))=if x=y then W6 (y::(l++[a])) else x::W6 (y::(l++[a])):=by rw [W6]
   have e2:W6 (x::y::l)=if x=y then W6 (y::l) else x::W6 (y::l):=by rw [W6]
   rw [e1,e2]
   rw [show y::(l++[a])=y::l++[a] from rfl,ih]
   split<;>split<;>rfl
theorem QGO {l:List Access} {k:Nat} (h0:0<k) (h:k≤l.length):(l.take k).getLast?=some (Xv l (k-1)):=by
 rw [List.getLast?_take,if_neg (by omega)]
 unfold Xv
 rw [List.getD_eq_getElem?_getD,List.getElem?_eq_getElem (by omega)];rfl
theorem x7 {l:List Access} {k:Nat} (h:k<l.length):l.take (k+1)=l.take k++[Xv l k]:=by
 unfold Xv
 rw [List.take_succ_eq_append_getElem h];simp [List.getD_eq_getElem?_getD,h]
theorem yW {l:List Access} {k:Nat} (h0:0<k) (h:k<l.length):W6 (l.take (k+1))=if Xv l k=Xv l (k-1) then W6 (l.take k) else W6 (l.take k)++[Xv l k]:=by
 rw [x7 h,QDX (by intro e;have:=congrArg List.length e;rw [List.length_take,List.length_nil] at this;omega),QGO h0 (by omega)]
 simp only [Option.some.injEq]
 by_cases e:Xv l k=Xv l (k-1)
 · rw [if_pos e.symm,if_pos e]
 · rw [if_neg (fun q=>e q.symm),if_neg e]
theorem wI:∀ {a b:List Access},a.Pairwise V4→b.Pairwise V4→(∀ x,x∈a↔x∈b)→a=b
 | [],[],_,_,_=>rfl
 | [],y::b,_,_,h=>absurd ((h y).2 (by simp)) (by simp)
 | x::a,[],_,_,h=>absurd ((h x).1 (by simp)) (by simp)
 | x::a,y::b,ha,hb,h=>by
   obtain ⟨a1,a2⟩:=List.pairwise_cons.1 ha
   obtain ⟨b1,b2⟩:=List.pairwise_cons.1 hb
   have irr:∀ z:Access,¬V4 z z:=fun z q=>by unfold V4 at q;omega
   have asy:∀ z u:Access,V4 z u→V4 u z→False:=fun z u q r=>by unfold V4 at q r;omega
   have e:x=y:=by
    rcases List.mem_cons.1 ((h x).1 (by simp)) with e|e
    · exact e
    · rcases List.mem_cons.1 ((h y).2 (by simp)) with f|f
      · exact f.symm
      · exact (asy _ _ (b1 x e) (a1 y f)).elim
   subst e
   rw [wI a2 b2 fun z=>⟨fun hz=>?_,fun hz=>?_⟩]
   · rcases List.mem_cons.1 ((h z).1 (List.mem_cons_of_mem _ hz)) with e|e
     · subst e;exact (irr _ (a1 _ hz)).elim
     · exact e
   · rcases List.mem_cons.1 ((h z).2 (List.mem_cons_of_mem _ hz)) with e|e
     · subst e;exact (irr _ (b1 _ hz)).elim
     · exact e
def SameKey (l:List Access):Prop:=∀ a∈l,∀ b∈l,a.kind=b.kind→a.num=b.num→a=b
theorem vC:∀ {l:List Access},(∀ a∈l,WH a)→SameKey l→l.Pairwise (fun a b=>XW a≤XW b)→(W6 l).Pairwise V4
 | [],_,_,_=>by simp [W6]
 | [_],_,_,_=>by simp [W6]
 | a::b::l,hs,hk,hp=>by
   obtain ⟨h1,h2⟩:=List.pairwise_cons.1 hp
   have ih:=vC (l:=b::l) (fun x hx=>hs x (List.mem_cons_of_mem _ hx)) (fun x hx y hy=>hk x (List.mem_cons_of_mem _ hx) y (List.mem_cons_of_mem _ hy)) h2
   unfold W6
   split
   · exact ih
   · rename_i hne
     refine List.pairwise_cons.2 ⟨fun x hx=>?_,ih⟩
     have hx:=cpt_mem.1 hx
     have sa:=hs a (by simp)
     have sb:=hs b (by simp)
     have sx:=hs x (List.mem_cons_of_mem _ hx)
     rw [← QHU sa sx]
     have l1:=h1 b (by simp)
     have lt:XW a<XW b:=by
      rcases Int.lt_or_eq_of_le l1 with h|h
      · exact h
      · obtain ⟨e1,e2⟩:=(QHV sa sb).1 h
        exact absurd (hk a (by simp) b (by simp) e1 e2) hne
     rcases List.mem_cons.1 hx with e|e
     · rw [e];exact lt
     · have:=(List.pairwise_cons.1 h2).1 x e
       omega
def Zm (l Xv:List Access):List Access:=l.foldl (fun m a=>add a.kind a.num a.write m) Xv
theorem yg {k n:Int} {w:Bool}:∀ {l:List Access},(∀ a∈l,a.kind=k→a.num=n→a.write=w)→∀ x,x∈add k n w l↔x=⟨k,n,w⟩∨x∈l
 | [],_,x=>by simp [add]
 | y::l,h,x=>by
   unfold add
   split
   · rename_i hk
     have hw:=h y (by simp) hk.1 hk.2
     have:(⟨y.kind,y.num,y.write||w⟩:Access)=y:=by rw [hw,Bool.or_self,← hw]
     have e2:(⟨k,n,w⟩:Access)=y:=by rw [← hk.1,← hk.2,← hw]
     rw [this,e2,List.mem_cons]
     constructor
     · exact .inr
     · rintro (e|e)
       · exact .inl e
       · exact e
   · split
     · rw [List.mem_cons]
     · rw [List.mem_cons,yg (fun a ha=>h a (List.mem_cons_of_mem _ ha)),List.mem_cons]
       constructor
       · rintro (e|e|e)
         · exact .inr (.inl e)
         · exact .inl e
         · exact .inr (.inr e)
       · rintro (e|e|e)
         · exact .inr (.inl e)
         · exact .inl e
         · exact .inr (.inr e)
theorem vW:∀ {l m:List Access},SameKey (l++m)→∀ x,x∈Zm l m↔x∈l++m
 | [],m,_,x=>Iff.rfl
 | a::l,m,hk,x=>by
   have e:Zm (a::l) m=Zm l (add a.kind a.num a.write m):=rfl
   have ha:∀ x,x∈add a.kind a.num a.write m↔x=a∨x∈m:=yg fun b hb h1 h2=>by
    have:=hk b (by simp [hb]) a (by simp) h1 h2
    rw [this]
   have h2:∀ x,x∈l++add a.kind a.num a.write m↔x∈a::l++m:=fun x=>by
    rw [List.mem_append,ha,List.cons_append,List.mem_cons,List.mem_append]
    constructor
    · rintro (h|h|h)
      · exact .inr (.inl h)
      · exact .inl h
      · exact .inr (.inr h)
    · rintro (h|h|h)
      · exact .inr (.inl h)
      · exact .inl h
      · exact .inr (.inr h)
   rw [e,vW (fun u hu v hv=>hk u ((h2 u).1 hu) v ((h2 v).1 hv)),h2]
theorem zE:∀ {l m:List Access},m.Pairwise V4→(Zm l m).Pairwise V4
 | [],_,h=>h
 | a::l,m,h=>zE (l:=l) (zi a.kind a.num a.write h)
theorem QHT {l R:List Access} (hs:∀ a∈l,WH a) (hk:SameKey l) (hp:R.Perm l) (ho:R.Pairwise (fun a b=>XW a≤XW b)):W6 R=Zm l []:=by
 refine wI (vC (fun a ha=>hs a (hp.mem_iff.1 ha)) (fun a ha b hb=>hk a (hp.mem_iff.1 ha) b (hp.mem_iff.1 hb)) ho) (zE List.Pairwise.nil) fun x=>?_
 rw [cpt_mem,hp.mem_iff,vW (by rw [List.append_nil];exact hk),List.append_nil]
end Go.Eng
namespace Go.Eng
def QKV (a b:Access):Int:=if a.kind=b.kind then a.num-b.num else a.kind-b.kind
theorem QFa {a b:Access} (ha:WH a) (hb:WH b):QKV a b<0↔XW a<XW b:=by
 unfold WH at ha hb;unfold XW QKV;split<;>omega
def swp (R:List Access) (j:Nat):List Access:=(R.set j (Xv R (j-1))).set (j-1) (Xv R j)
theorem QJh (R:List Access) (j:Nat):(swp R j).length=R.length:=by simp [swp]
theorem vX {R:List Access} {j:Nat} (h:j<R.length):Xv R j=R[j]:=by simp [Xv,List.getD_eq_getElem?_getD,h]
theorem QHN {R:List Access} {j:Nat} (h0:0<j) (h:j<R.length):(swp R j).Perm R:=by
 have:=List.set_set_perm h (show j-1<R.length by omega)
 unfold swp
 rw [vX h,vX (show j-1<R.length by omega)]
 exact this
theorem QHO {R:List Access} {j k:Nat} (h0:0<j) (h:j<R.length):Xv (swp R j) k=if k=j then Xv R (j-1) else if k=j-1 then Xv R j else Xv R k:=by
 unfold swp
 unfold Xv
 rw [List.getD_eq_getElem?_getD,List.getElem?_set]
 by_cases h1:j-1=k
 · subst h1
   rw [if_pos rfl,if_pos (by simp;omega),if_neg (by omega),if_pos rfl];rfl
 · rw [if_neg h1,List.getElem?_set]
   by_cases h2:j=k
   · subst h2
     rw [if_pos rfl,if_pos h,if_pos rfl];rfl
   · rw [if_neg h2,if_neg (fun q=>h2 q.symm),if_neg (fun q=>h1 q.symm),← List.getD_eq_getElem?_getD]
structure SInvO (l R:List Access) (i:Nat):Prop where
 len:R.length=l.length
 perm:R.Perm l
 ord:∀ x y,x<y→y<i→XW (Xv R x)≤XW (Xv R y)
structure SInvI (l R:List Access) (i j:Nat):Prop where
 len:R.length=l.length
 perm:R.Perm l
 le:j≤i
 lt:i<l.length
 ord:∀ x y,x<y→y≤i→y≠j→XW (Xv R x)≤XW (Xv R y)
theorem SInvO.inner {l R:List Access} {i:Nat} (h:SInvO l R i) (hi:i<l.length):SInvI l R i i :=
 ⟨h.len,h.perm,Nat.le_refl _,hi,fun x y h1 h2 h3=>h.ord x y h1 (by omega)⟩
theorem SInvI.swap {l R:List Access} {i j:Nat} (h:SInvI l R i j) (h0:0<j) (hlt:XW (Xv R j)<XW (Xv R (j-1))):SInvI l (swp R j) i (j-1):=by
 have hl:=h.len
 have hle:=h.le
 have hli:=h.lt
 refine ⟨by rw [QJh];exact hl,(QHN h0 (by omega)).trans h.perm,by omega,hli,fun x y h1 h2 h3=>?_⟩
 rw [QHO h0 (by omega),QHO h0 (by omega)]
 by_cases y1:y=j
 · subst y1
   rw [if_pos rfl,if_neg (by omega)]
   by_cases x1:x=y-1
   · rw [if_pos x1];omega
   · rw [if_neg x1];exact h.ord x (y-1) (by omega) (by omega) (by omega)
 · rw [if_neg y1,if_neg h3]
   by_cases x1:x=j
   · rw [if_pos x1];exact h.ord (j-1) y (by omega) h2 (by omega)
   · rw [if_neg x1]
     by_cases x2:x=j-1
     · rw [if_pos x2];exact h.ord j y (by omega) h2 y1
     · rw [if_neg x2];exact h.ord x y h1 h2 y1
theorem SInvI.done {l R:List Access} {i j:Nat} (h:SInvI l R i j) (hd:j=0∨XW (Xv R (j-1))≤XW (Xv R j)):SInvO l R (i+1):=by
 refine ⟨h.len,h.perm,fun x y h1 h2=>?_⟩
 by_cases y1:y=j
 · subst y1
   rcases hd with hd|hd
   · omega
   · by_cases x1:x=y-1
     · rw [x1];exact hd
     · have:=h.ord x (y-1) (by omega) (by have:=h.le;omega) (by omega)
       omega
 · exact h.ord x y h1 (by omega) y1
theorem SInvO.sorted {l R:List Access} {i:Nat} (h:SInvO l R i) (hi:l.length≤i):R.Pairwise (fun a b=>XW a≤XW b):=by
 rw [List.pairwise_iff_getElem]
 intro x y hx hy hxy
 have:=h.ord x y hxy (by have:=h.len;omega)
 rwa [vX hx,vX hy] at this
theorem SInvO.first (l:List Access):SInvO l l 1:=⟨rfl,List.Perm.refl _,fun x y h1 h2=>by omega⟩
theorem SInvI.all {l R:List Access} {i j:Nat} (h:SInvI l R i j) {P:Access→Prop} (hs:∀ a∈l,P a) {k:Nat} (hk:k<l.length):P (Xv R k):=by
 have hk':k<R.length:=by rw [h.len];exact hk
 exact hs _ (h.perm.mem_iff.1 (by rw [vX hk'];exact List.getElem_mem hk'))
structure CInv (R C:List Access) (k0 k k2:Nat):Prop where
 len:C.length=R.length
 p0:0<k0
 le:k+1≤k0+k2
 p2:1≤k2
 kk:k0≤k
 hi:k0+k2≤R.length
 tk:C.take k=W6 (R.take (k0+k2))
 num:k=(W6 (R.take (k0+k2))).length
 dr:∀ x,k0+k2-1≤x→Xv C x=Xv R x
theorem CInv.first {R:List Access} {k0:Nat} (h0:0<k0) (hk:k0<R.length) (hc:W6 (R.take k0)=R.take k0) (he:Xv R k0=Xv R (k0-1)):CInv R R k0 k0 1:=by
 have e:W6 (R.take (k0+1))=R.take k0:=by rw [yW h0 hk,if_pos he,hc]
 exact ⟨rfl,h0,by omega,by omega,by omega,by omega,e.symm,by rw [e,List.length_take];omega,fun x _=>rfl⟩
theorem CInv.next {R C:List Access} {k0 k k2:Nat} (h:CInv R C k0 k k2) (hk:k0+k2<R.length) (he:Xv C (k0+k2)=Xv C (k0+k2-1)):CInv R C k0 k (k2+1):=by
 have:=h.p0
 rw [h.dr _ (by omega),h.dr _ (by omega)] at he
 have e:W6 (R.take (k0+(k2+1)))=W6 (R.take (k0+k2)):=by
  rw [← Nat.add_assoc,yW (by omega) hk,if_pos he]
 exact ⟨h.len,h.p0,by have:=h.le;omega,by omega,h.kk,by omega,by rw [e];exact h.tk,by rw [e];exact h.num,fun x hx=>h.dr x (by omega)⟩
theorem CInv.put {R C:List Access} {k0 k k2:Nat} (h:CInv R C k0 k k2) (hk:k0+k2<R.length) (he:¬Xv C (k0+k2)=Xv C (k0+k2-1)):CInv R (C.set k (Xv C (k0+k2))) k0 (k+1) (k2+1):=by
 have h1:=h.p0
 have h2:=h.le
 have h3:=h.len
 rw [h.dr _ (by omega),h.dr _ (by omega)] at he
 rw [h.dr (k0+k2) (by omega)]
 have e:W6 (R.take (k0+(k2+1)))=W6 (R.take (k0+k2))++[Xv R (k0+k2)]:=by
  rw [← Nat.add_assoc,yW (by omega) hk,if_neg he]
 refine ⟨by rw [List.length_set];exact h3,h1,by omega,by omega,by have:=h.kk;omega,by omega,?_,by rw [e,List.length_append,← h.num];rfl,fun x hx=>?_⟩
 · rw [e,← h.tk,x7 (by rw [List.length_set];omega),List.take_set_of_le (by omega)]
   congr 1
   unfold Xv
   rw [List.getD_eq_getElem?_getD,List.getElem?_set_self (by omega)];rfl
 · unfold Xv
   rw [List.getD_eq_getElem?_getD,List.getElem?_set_ne (by omega),← List.getD_eq_getElem?_getD]
   exact h.dr x (by omega)
def QNQ (n:Nat):Int:=if n=0 then 0 else if n=1 then 1 else if n<4 then 2 else 3
end Go.Eng
namespace Go.Eng
def tl0:List Access:=[]
def QX (L:List Access) (k n:Int) (w:Bool):List Access:=L++[⟨k,n,w⟩]
def chs (L:List Access) (q:Sel) (i:Nat):List Access:=L++(q.cases.take i).map fun c=>⟨3,c.chan,true⟩
theorem Z6 (L:List Access) (k n:Int) (w:Bool):(QX L k n w).length=L.length+1:=by simp [QX]
theorem YR:tl0.length=0:=rfl
theorem QKQ (L:List Access) (q:Sel) (i:Nat) (h:i≤q.cases.length):(chs L q i).length=L.length+i:=by simp [chs,Nat.min_eq_left h]
theorem QI5 (L:List Access) (q:Sel) {i:Nat} (h:i<q.cases.length):QX (chs L q i) 3 (q.cases.getD i default).chan true=chs L q (i+1):=by
 unfold QX chs
 rw [List.take_succ_eq_append_getElem h,List.map_append,List.append_assoc]
 simp [List.getD_eq_getElem?_getD,h]
theorem QI4 (L:List Access) (q:Sel):chs L q 0=L:=by simp [chs]
def Smalls (l:List Access):Prop:=∀ a∈l,WH a
theorem Smalls.nil:Smalls tl0:=by intro a h;cases h
theorem Smalls.app {L:List Access} (h:Smalls L) {k n:Int} (w:Bool) (hk:0≤k∧k≤100) (hn:0≤n∧n<1000):Smalls (QX L k n w):=by
 intro a ha
 rcases List.mem_append.1 ha with ha|ha
 · exact h a ha
 · rw [List.mem_singleton.1 ha];exact ⟨hk,hn⟩
theorem Smalls.chs {L:List Access} (h:Smalls L) {q:Sel} (hq:∀ i,i<q.cases.length→0≤(q.cases.getD i default).chan∧(q.cases.getD i default).chan<4) (i:Nat):Smalls (chs L q i):=by
 intro a ha
 rcases List.mem_append.1 ha with ha|ha
 · exact h a ha
 · obtain ⟨c,hc,rfl⟩:=List.mem_map.1 ha
   obtain ⟨j,hj,rfl⟩:=List.mem_iff_getElem.1 (List.mem_of_mem_take hc)
   have:=hq j hj
   rw [List.getD_eq_getElem?_getD,List.getElem?_eq_getElem hj] at this
   simp only [Option.getD_some] at this
   refine ⟨⟨by simp,by simp⟩,this.1,?_⟩
   show q.cases[j].chan<1000
   omega
theorem SameKey.one (g:Int):SameKey (QX tl0 5 g true):=by
 intro a ha b hb _ _
 simp [QX,tl0] at ha hb
 rw [ha,hb]
theorem SameKey.app {L:List Access} (h:SameKey L) {k n:Int} {w:Bool} (hn:∀ a∈L,a.kind=k→a.num=n→a.write=w):SameKey (QX L k n w):=by
 intro a ha b hb h1 h2
 rcases List.mem_append.1 ha with ha|ha
 · rcases List.mem_append.1 hb with hb|hb
   · exact h a ha b hb h1 h2
   · have hb:=List.mem_singleton.1 hb
     subst hb
     have:=hn a ha h1 h2
     obtain ⟨x,y,z⟩:=a
     simp only at h1 h2 this
     rw [h1,h2,this]
 · have ha:=List.mem_singleton.1 ha
   subst ha
   rcases List.mem_append.1 hb with hb|hb
   · have:=hn b hb h1.symm h2.symm
     obtain ⟨x,y,z⟩:=b
     simp only at h1 h2 this
     rw [h1,h2,this]
   · rw [List.mem_singleton.1 hb]
theorem W7 {g:Int} {a:Access} (h:a∈QX tl0 5 g true):a=⟨5,g,true⟩:=by simpa [QX,tl0] using h
theorem SameKey.two {g k n:Int} {w:Bool} (h:k≠5):SameKey (QX (QX tl0 5 g true) k n w):=(SameKey.one g).app fun a ha h1 _=>by rw [W7 ha] at h1;exact absurd h1.symm h
theorem SameKey.three {g k n m:Int} {w u:Bool} (h:k≠5) (hm:m≠g∨u=true):SameKey (QX (QX (QX tl0 5 g true) k n w) 5 m u):=(SameKey.two h).app fun a ha h1 h2=>by
 rcases List.mem_append.1 ha with ha|ha
 · have ha:=W7 ha
   subst ha
   rcases hm with hm|hm
   · exact absurd h2.symm hm
   · rw [hm]
 · rw [List.mem_singleton.1 ha] at h1;exact absurd h1 h
theorem SameKey.chs {g:Int} {q:Sel} (i:Nat):SameKey (chs (QX tl0 5 g true) q i):=by
 intro a ha b hb h1 h2
 have three:∀ c,c∈(q.cases.take i).map (fun c=>(⟨3,c.chan,true⟩:Access))→c.kind=3∧c.write=true:=by
  intro c hc
  obtain ⟨x,_,rfl⟩:=List.mem_map.1 hc
  exact ⟨rfl,rfl⟩
 rcases List.mem_append.1 ha with ha|ha<;>rcases List.mem_append.1 hb with hb|hb
 · rw [W7 ha,W7 hb]
 · rw [W7 ha] at h1;rw [(three b hb).1] at h1;simp at h1
 · rw [W7 hb] at h1;rw [(three a ha).1] at h1;simp at h1
 · have e1:=three a ha
   have e2:=three b hb
   obtain ⟨x,y,z⟩:=a
   obtain ⟨x',y',z'⟩:=b
   simp only at h1 h2 e1 e2
   rw [h1,h2,e1.2,e2.2]
theorem Zc (L:List Access) (k n:Int) (w:Bool):Zm (QX L k n w) []=add k n w (Zm L []):=by simp [Zm,QX]
theorem Zb (g:Int):Zm (QX tl0 5 g true) []=[⟨5,g,true⟩]:=rfl
theorem QEm (L:List Access) (q:Sel) (i:Nat):Zm (chs L q i) []=ZV q i (Zm L []):=by
 unfold Zm chs ZV
 rw [List.foldl_append,List.foldl_map]
section
variable {p:Prg} {s:Stt} {g:Int}
theorem t50 (h:QO p s g=50):Zm (QX (QX tl0 5 g true) 1 (QB p s g).b false) []=touch p s g:=by rw [Zc,Zb];simp [touch,h]
theorem t54 (h:QO p s g=54):Zm (QX (QX tl0 5 g true) 1 (QB p s g).a false) []=touch p s g:=by rw [Zc,Zb];simp [touch,h]
theorem t51 (h:QO p s g=51):Zm (QX (QX tl0 5 g true) 1 (QB p s g).a true) []=touch p s g:=by rw [Zc,Zb];simp [touch,h]
theorem t52 (h:QO p s g=52∨QO p s g=53):Zm (QX (QX tl0 5 g true) 1 (QB p s g).b true) []=touch p s g:=by rw [Zc,Zb];rcases h with h|h<;>simp [touch,h]
theorem t55 (h:QO p s g=55∨QO p s g=56):Zm (QX (QX tl0 5 g true) 2 (QB p s g).a true) []=touch p s g:=by rw [Zc,Zb];rcases h with h|h<;>simp [touch,h]
theorem t57 (h:QO p s g=57):Zm (QX (QX tl0 5 g true) 2 (QB p s g).b true) []=touch p s g:=by rw [Zc,Zb];simp [touch,h]
theorem t58 (h:QO p s g=58∨QO p s g=60∨QO p s g=66):Zm (QX (QX tl0 5 g true) 3 (QB p s g).a true) []=touch p s g:=by rw [Zc,Zb];rcases h with h|h|h<;>simp [touch,h]
theorem t59 (h:QO p s g=59):Zm (QX (QX tl0 5 g true) 3 (QB p s g).b true) []=touch p s g:=by rw [Zc,Zb];simp [touch,h]
theorem t61 (h:QO p s g=61):Zm (chs (QX tl0 5 g true) (Qu p s g) (Qu p s g).cases.length) []=touch p s g:=by rw [QEm,Zb];simp [touch,h]
theorem t62 (h:QO p s g=62) (hc:s.count<6):Zm (QX (QX (QX tl0 5 g true) 4 0 true) 5 s.count true) []=touch p s g:=by rw [Zc,Zc,Zb];simp [touch,h,hc]
theorem QQ3 (h:QO p s g=62) (hc:¬s.count<6):Zm (QX (QX tl0 5 g true) 4 0 true) []=touch p s g:=by rw [Zc,Zb];simp [touch,h,hc]
theorem t63 (h:QO p s g=63) (hc:XU s g ((s.gor g).reg (QB p s g).a)=true):Zm (QX (QX (QX tl0 5 g true) 4 0 false) 5 ((s.gor g).reg (QB p s g).a) false) []=touch p s g:=by
 unfold XU at hc
 simp at hc
 rw [Zc,Zc,Zb];simp [touch,h,hc]
theorem QQ2 (h:QO p s g=63) (hc:XU s g ((s.gor g).reg (QB p s g).a)=false):Zm (QX (QX tl0 5 g true) 4 0 false) []=touch p s g:=by
 unfold XU at hc
 simp at hc
 rw [Zc,Zb]
 have e:touch p s g=if 0≤(s.gor g).reg (QB p s g).a∧(s.gor g).reg (QB p s g).a<s.count then add 5 ((s.gor g).reg (QB p s g).a) false (add 4 0 false [⟨5,g,true⟩]) else add 4 0 false [⟨5,g,true⟩]:=by simp [touch,h]
 rw [e]
 split
 · rename_i h1
   rw [hc h1.1 h1.2]
   simp [add]
 · rfl
theorem t65 (h:QO p s g=65):Zm (QX (QX tl0 5 g true) 6 0 true) []=touch p s g:=by rw [Zc,Zb];simp [touch,h]
theorem QL6 (h1:¬QO p s g=50) (h2:¬QO p s g=54) (h3:¬QO p s g=51) (h4:¬QO p s g=52) (h5:¬QO p s g=53) (h6:¬QO p s g=55) (h7:¬QO p s g=56) (h8:¬QO p s g=57) (h9:¬QO p s g=58) (h10:¬QO p s g=60) (h11:¬QO p s g=66) (h12:¬QO p s g=59) (h13:¬QO p s g=61) (h14:¬QO p s g=62) (h15:¬QO p s g=63) (h16:¬QO p s g=65):Zm (QX tl0 5 g true) []=touch p s g:=by
 rw [Zb];simp [touch,h1,h2,h3,h4,h5,h6,h7,h8,h9,h10,h11,h12,h13,h14,h15,h16]
end
end Go.Eng
namespace Go.Eng
open Go.RowKit
variable {P:Program} {T:Tab} {w w':World} {w0:Base T} {F F':Nat→Prop} {ρ ρ':Nat→RI} {σ σ':St} {outs:List (Array Value)}
theorem CallE.cut {f:FuncId} {es:List E} {K:St→E→Prop} (k:Nat) (h:CallE P T σ f es fun σ' e=>(σ'.under k=true∧e.under k=true)∧K { σ' with ob:=σ'.ob.take k } e):CallE P T σ f es K:=by
 obtain ⟨hE,h⟩:=h
 refine ⟨hE,fun w0 w F ρ tmps outs xs hR hx=>(h w0 w F ρ tmps outs xs hR hx).mono ?_⟩
 rintro en w' ⟨v,σ',e,F',ρ',rfl,⟨⟨hu,he⟩,hK⟩,hv,hR'⟩
 have hT:TmRel T w' F' ρ' [(0,true,e)] #[v]:=by
  intro t g e' ht
  by_cases h0:t=0
  · subst h0
    simp at ht
    obtain ⟨rfl,rfl⟩:=ht
    exact ⟨v,rfl,fun _=>hv,fun h=>by cases h⟩
  · have:(t == 0)=false:=by simpa using h0
    simp [List.lookup_cons,this] at ht
 have hR2:Rel T w' F' ρ' w0 { σ' with out:=[(0,true,e)]::σ'.out } tmps (#[v]::outs) :=
  ⟨hR'.tm,⟨hT,hR'.out⟩,hR'.ob,hR'.free,hR'.inj,hR'.fsub,hR'.below,hR'.size,hR'.fold⟩
 have hu2:St.under k { σ' with out:=[(0,true,e)]::σ'.out }=true:=by
  simp only [St.under,Bool.and_eq_true] at hu ⊢
  exact ⟨⟨hu.1.1,by simp only [Q2,Tm.under,he,Bool.true_and];exact hu.1.2⟩,hu.2⟩
 obtain ⟨F2,ρ2,hR3⟩:=Vk (T:=T) k hu2 _ _ _ _ _ _ hR2
 obtain ⟨y,hy,hy2,_⟩:=hR3.out.1 0 true e (by simp)
 have:y=v:=by simpa using hy.symm
 subst this
 exact ⟨y,_,e,F2,ρ2,rfl,hK,hy2 rfl,⟨hR3.tm,hR3.out.2,hR3.ob,hR3.free,hR3.inj,hR3.fsub,hR3.below,hR3.size,hR3.fold⟩⟩
mutual
theorem E.under_mono {k m:Nat} (hkm:k≤m):∀ {e:E},e.under k=true→e.under m=true
 | .int _ _,_=>rfl
 | .bool _,_=>rfl
 | .str _,_=>rfl
 | .data _ _,_=>rfl
 | .fs _ _ _,_=>rfl
 | .sl i e lo n c,h=>by
   have:i<k:=by simpa [E.under] using h
   simp [E.under];omega
 | .nilsl,_=>rfl
 | .ptr i p t,h=>by
   have:i<k:=by simpa [E.under] using h
   simp [E.under];omega
 | .rp i j p t,h=>by
   have:i<k:=by simpa [E.under] using h
   simp [E.under];omega
 | .av i p t j,h=>by
   have:i<k:=by simpa [E.under] using h
   simp [E.under];omega
 | .fptr _ _,_=>rfl
 | .fn _ caps,h=>by
   have h':E.underL k caps=true:=by simpa [E.under] using h
   simpa [E.under] using E.underL_mono hkm h'
 | .nilfn,_=>rfl
 | .tup m',h=>by
   have h':E.underL k m'=true:=by simpa [E.under] using h
   simpa [E.under] using E.underL_mono hkm h'
 | .agg _ m',h=>by
   have h':E.underL k m'=true:=by simpa [E.under] using h
   simpa [E.under] using E.underL_mono hkm h'
 | .undef,_=>rfl
theorem E.underL_mono {k m:Nat} (hkm:k≤m):∀ {l:List E},E.underL k l=true→E.underL m l=true
 | [],_=>rfl
 | e::l,h=>by
   simp only [E.underL,Bool.and_eq_true] at h ⊢
   exact ⟨E.under_mono hkm h.1,E.underL_mono hkm h.2⟩
end
theorem Tm.under_mono {k m:Nat} (hkm:k≤m):∀ {tm:Tm},Tm.under k tm=true→Tm.under m tm=true
 | [],_=>rfl
 | x::tm,h=>by
   simp only [Tm.under,Bool.and_eq_true] at h ⊢
   exact ⟨E.under_mono hkm h.1,Tm.under_mono hkm h.2⟩
theorem Vh {k m:Nat} (hkm:k≤m):∀ {l:List Tm},Q2 k l=true→Q2 m l=true
 | [],_=>rfl
 | x::l,h=>by
   simp only [Q2,Bool.and_eq_true] at h ⊢
   exact ⟨Tm.under_mono hkm h.1,Vh hkm h.2⟩
theorem YI {k m:Nat} (hkm:k≤m):∀ {l:List Obj},Qi k l=true→Qi m l=true
 | [],_=>rfl
 | .var _ e::l,h=>by
   simp only [Qi,Bool.and_eq_true] at h ⊢
   exact ⟨E.under_mono hkm h.1,YI hkm h.2⟩
 | .erow _ e::l,h=>by
   simp only [Qi,Bool.and_eq_true] at h ⊢
   exact ⟨E.underL_mono hkm h.1,YI hkm h.2⟩
 | .row _ _::l,h=>by
   simp only [Qi] at h ⊢
   exact YI hkm h
 | .dead::l,h=>by
   simp only [Qi] at h ⊢
   exact YI hkm h
theorem Qm (k:Nat):∀ a b:List Obj,Qi k (a++b)=(Qi k a&&Qi k b)
 | [],_=>rfl
 | .var _ e::l,b=>by simp only [List.cons_append,Qi,Qm k l b,Bool.and_assoc]
 | .erow _ e::l,b=>by simp only [List.cons_append,Qi,Qm k l b,Bool.and_assoc]
 | .row _ _::l,b=>by simp only [List.cons_append,Qi,Qm k l b]
 | .dead::l,b=>by simp only [List.cons_append,Qi,Qm k l b]
section
variable {α:Type} {X L:List α} {N:Nat}
theorem QAC (h:X.length=N) (j:Nat):(X++L)[N+j]?=L[j]?:=by rw [List.getElem?_append_right (by omega),h,Nat.add_sub_cancel_left]
theorem yJ (h:X.length=N):(X++L)[N]?=L[0]?:=QAC h 0
theorem QCn (h:X.length=N) (j:Nat) (o:α):(X++L).set (N+j) o=X++L.set j o:=by rw [List.set_append_right _ _ (by omega),h,Nat.add_sub_cancel_left]
theorem wP (h:X.length=N) (o:α):(X++L).set N o=X++L.set 0 o:=QCn h 0 o
theorem Wb (h:X.length=N):(X++L).take N=X:=by rw [← h,List.take_left]
theorem Wq (h:X.length=N) (j:Nat):(X++L).take (N+j)=X++L.take j:=by rw [← h,List.take_length_add_append]
end
end Go.Eng
namespace Go.Eng
theorem V.beq_int (a b:Int):V.beq (.int a) (.int b)=decide (a=b):=rfl
theorem V.beq_bool (a b:Bool):V.beq (.bool a) (.bool b)=decide (a=b):=by
 show (a == b)=_
 cases a<;>cases b<;>rfl
theorem V.beqL_map {α:Type} [DecidableEq α] (f:α→V) (hf:∀ a b,V.beq (f a) (f b)=decide (a=b)):∀ l m:List α,V.beqL (l.map f) (m.map f)=decide (l=m)
 | [],[]=>rfl
 | [],_::_=>rfl
 | _::_,[]=>rfl
 | a::l,b::m=>by
   show (V.beq (f a) (f b)&&V.beqL (l.map f) (m.map f))=_
   rw [hf,V.beqL_map f hf l m]
   by_cases h1:a=b
   · by_cases h2:l=m
     · simp [h1,h2]
     · simp [h1,h2]
   · simp [h1]
theorem V.beqL_cons (a b:V) (l m:List V):V.beqL (a::l) (b::m)=(V.beq a b&&V.beqL l m):=rfl
theorem V.beqL_nil:V.beqL [] []=true:=rfl
theorem V.beq_agg (l m:List V):V.beq (.agg l) (.agg m)=V.beqL l m:=rfl
theorem Access.beq (a b:Access):V.beq a.v b.v=decide (a=b):=by
 cases a;cases b
 simp [Access.v,V.beq_agg,V.beqL_cons,V.beqL_nil,V.beq_int,V.beq_bool,Bool.decide_and]
theorem Pck.beq (a b:Pck):V.beq a.v b.v=decide (a=b):=by
 cases a;cases b
 simp [Pck.v,V.beq_agg,V.beqL_cons,V.beqL_nil,V.beq_int,V.beq_bool,Bool.decide_and]
theorem Gor.beq (a b:Gor):V.beq a.v b.v=decide (a=b):=by
 cases a;cases b
 simp [Gor.v,V.beq_agg,V.beqL_cons,V.beqL_nil,V.beq_int,V.beq_bool,Bool.decide_and,V.beqL_map V.int V.beq_int]
theorem Chn.beq (a b:Chn):V.beq a.v b.v=decide (a=b):=by
 cases a;cases b
 simp [Chn.v,V.beq_agg,V.beqL_cons,V.beqL_nil,V.beq_int,V.beq_bool,Bool.decide_and,V.beqL_map V.int V.beq_int]
theorem Stt.beq (a b:Stt):V.beq a.v b.v=decide (a=b):=by
 cases a;cases b
 simp [Stt.v,V.beq_agg,V.beqL_cons,V.beqL_nil,V.beq_int,V.beq_bool,Bool.decide_and,V.beqL_map V.int V.beq_int,V.beqL_map Chn.v Chn.beq,V.beqL_map Gor.v Gor.beq]
theorem Event.beq (a b:Event):V.beq a.v b.v=decide (a=b):=by
 cases a;cases b
 simp [Event.v,V.beq_agg,V.beqL_cons,V.beqL_nil,V.beq_int,V.beq_bool,Bool.decide_and,V.beqL_map Access.v Access.beq]
end Go.Eng
namespace Go.Eng
structure Fnc.Sz (f:Fnc):Prop where
 code:f.code.length*40≤140737488355328
 sels:f.sels.length*32≤140737488355328
 cases:∀ i,i<f.sels.length→(f.sels.getD i default).cases.length*32≤140737488355328
structure Prg.Sz (p:Prg):Prop where
 vars:p.vars.length*16≤140737488355328
 chans:p.chans.length*8≤140737488355328
 funcs:p.funcs.length*64≤140737488355328
 each:∀ i,i<p.funcs.length→(p.funcs.getD i default).Sz
end Go.Eng
namespace Go.Eng
section
variable {p:Prg} {fuel:Int} {s:Stt} {l:List Pck}
theorem qz {i m:Nat} (h:i<m):(YZ QA p fuel s l m).getD i default=Qj QA p fuel s l i:=by
 unfold YZ
 simp [List.getD_eq_getElem?_getD,h]
end
end Go.Eng
namespace Go.Eng.Tryz
open Go.RowKit Go.Eng
variable {w:World} {F:Nat→Prop}
theorem Xy {α:Type} {f:α→V} {t e:TypeId} (ht:tab.ty t=.slice e) (hf:∀ v cs,Fits tab w F e v cs→∃ a,v=f a) {v:V} {cs:List Value} (h:Fits tab w F t v cs):∃ m:List α,v=.list (m.map f):=by
 rcases h.inv' ht with ⟨h,_⟩|⟨b,off,n,cap,l',ds,h,_,_,_,_,hf',_⟩
 · exact ⟨[],h⟩
 · obtain ⟨m,rfl⟩:=QAu hf hf'
   exact ⟨m,h⟩
theorem ZQ {t:TypeId} {k:IntKind} (ht:tab.ty t=.int k) (v:V) (cs:List Value) (h:Fits tab w F t v cs):∃ n:Int,k.has n∧v=.int n:=by
 obtain ⟨n,h1,h2,_⟩:=h.inv' ht
 exact ⟨n,h2,h1⟩
theorem QAv {t:TypeId} (ht:tab.ty t=.bool) (v:V) (cs:List Value) (h:Fits tab w F t v cs):∃ n:Bool,v=.bool n:=by
 obtain ⟨n,h1,_⟩:=h.inv' ht
 exact ⟨n,h1⟩
theorem QEQ (v:V) (cs:List Value) (h:Fits tab w F 104 v cs):∃ a:Instr,v=a.v:=by
 obtain ⟨l,rfl,hl⟩:=h.inv' QHJ
 cases hl with|cons h1 hl=>cases hl with|cons h2 hl=>cases hl with|cons h3 hl=>cases hl with|cons h4 hl=>cases hl with|cons h5 hl=>cases hl with|nil =>
  obtain ⟨a1,_,rfl⟩:=ZQ QOM _ _ h1
  obtain ⟨a2,_,rfl⟩:=ZQ WJ _ _ h2
  obtain ⟨a3,_,rfl⟩:=ZQ WJ _ _ h3
  obtain ⟨a4,_,rfl⟩:=ZQ WJ _ _ h4
  obtain ⟨a5,_,rfl⟩:=ZQ ty2 _ _ h5
  exact ⟨⟨a1,a2,a3,a4,a5⟩,rfl⟩
theorem QGc (v:V) (cs:List Value) (h:Fits tab w F 176 v cs):∃ a:Cas,v=a.v:=by
 obtain ⟨l,rfl,hl⟩:=h.inv' QHF
 cases hl with|cons h1 hl=>cases hl with|cons h2 hl=>cases hl with|cons h3 hl=>cases hl with|cons h4 hl=>cases hl with|nil =>
  obtain ⟨a1,rfl⟩:=QAv qr _ _ h1
  obtain ⟨a2,_,rfl⟩:=ZQ WJ _ _ h2
  obtain ⟨a3,_,rfl⟩:=ZQ WJ _ _ h3
  obtain ⟨a4,_,rfl⟩:=ZQ WJ _ _ h4
  exact ⟨⟨a1,a2,a3,a4⟩,rfl⟩
theorem QIl (v:V) (cs:List Value) (h:Fits tab w F 173 v cs):∃ a:Sel,v=a.v:=by
 obtain ⟨l,rfl,hl⟩:=h.inv' QHG
 cases hl with|cons h1 hl=>cases hl with|cons h2 hl=>cases hl with|nil =>
  obtain ⟨a1,rfl⟩:=Xy QKh QGc h1
  obtain ⟨a2,_,rfl⟩:=ZQ WJ _ _ h2
  exact ⟨⟨a1,a2⟩,rfl⟩
theorem QIm (v:V) (cs:List Value) (h:Fits tab w F 108 v cs):∃ a:Fnc,v=a.v:=by
 obtain ⟨l,rfl,hl⟩:=h.inv' QHI
 cases hl with|cons h1 hl=>cases hl with|cons h2 hl=>cases hl with|cons h3 hl=>cases hl with|cons h4 hl=>cases hl with|nil =>
  obtain ⟨a1,_,rfl⟩:=ZQ WJ _ _ h1
  obtain ⟨a2,_,rfl⟩:=ZQ WJ _ _ h2
  obtain ⟨a3,rfl⟩:=Xy QKl QEQ h3
  obtain ⟨a4,rfl⟩:=Xy QKk QIl h4
  exact ⟨⟨a1,a2,a3,a4⟩,rfl⟩
theorem QKF (v:V) (cs:List Value) (h:Fits tab w F 167 v cs):∃ a:Vr,v=a.v:=by
 obtain ⟨l,rfl,hl⟩:=h.inv' QHH
 cases hl with|cons h1 hl=>cases hl with|cons h2 hl=>cases hl with|nil =>
  obtain ⟨a1,rfl⟩:=QAv qr _ _ h1
  obtain ⟨a2,_,rfl⟩:=ZQ ty2 _ _ h2
  exact ⟨⟨a1,a2⟩,rfl⟩
theorem yy (v:V) (cs:List Value) (h:Fits tab w F 26 v cs):∃ a:Prg,v=a.v:=by
 obtain ⟨l,rfl,hl⟩:=h.inv' QOZ
 cases hl with|cons h1 hl=>cases hl with|cons h2 hl=>cases hl with|cons h3 hl=>cases hl with|cons h4 hl=>cases hl with|nil =>
  obtain ⟨a1,rfl⟩:=Xy QOh QKF h1
  obtain ⟨a2,_,rfl⟩:=ZQ WJ _ _ h2
  obtain ⟨a3,rfl⟩:=Xy QHE (f:=V.int) (fun v cs h=>let ⟨n,_,e⟩:=ZQ WJ v cs h;⟨n,e⟩) h3
  obtain ⟨a4,rfl⟩:=Xy QOd QIm h4
  exact ⟨⟨a1,a2,a3,a4⟩,rfl⟩
theorem Prg.fit_of {p:Prg} (h:V.Lens p.v):p.Fit:=by
 have a:=V.Lens.of_agg h
 have h1:=(V.Lens.of_list (a (.list (p.vars.map Vr.v)) (by simp))).1
 have h3:=(V.Lens.of_list (a (.list (p.chans.map V.int)) (by simp))).1
 have h4:=V.Lens.of_list (a (.list (p.funcs.map Fnc.v)) (by simp))
 rw [List.length_map] at h1 h3
 refine ⟨h1,h3,by simpa using h4.1,fun f hf=>?_⟩
 have b:=V.Lens.of_agg (h4.2 f.v (List.mem_map.2 ⟨f,hf,rfl⟩))
 have c1:=(V.Lens.of_list (b (.list (f.code.map Instr.v)) (by simp))).1
 have c2:=V.Lens.of_list (b (.list (f.sels.map Sel.v)) (by simp))
 rw [List.length_map] at c1
 refine ⟨c1,by simpa using c2.1,fun s hs=>?_⟩
 have d:=V.Lens.of_agg (c2.2 s.v (List.mem_map.2 ⟨s,hs,rfl⟩))
 simpa using (V.Lens.of_list (d (.list (s.cases.map Cas.v)) (by simp))).1
theorem qD (v:V) (cs:List Value) (h:Fits tab w F 28 v cs):∃ a:Bud,v=a.v:=by
 obtain ⟨l,rfl,hl⟩:=h.inv' QOW
 cases hl with|cons h1 hl=>cases hl with|cons h2 hl=>cases hl with|cons h3 hl=>cases hl with|nil =>
  obtain ⟨a1,_,rfl⟩:=ZQ WJ _ _ h1
  obtain ⟨a2,_,rfl⟩:=ZQ WJ _ _ h2
  obtain ⟨a3,_,rfl⟩:=ZQ WJ _ _ h3
  exact ⟨⟨a1,a2,a3⟩,rfl⟩
end Go.Eng.Tryz
namespace Go.Proofs.YtmonhjagbhpbeaaGreatDoor
open Go.ChangeShapes Go.WideShapes Go.ChangeAt Go.RowKit
def VZ {H : Type} : List (String × DataW H) := [("math/bits.deBruijn64tab", Rows.laid_math_bits_deBruijn64tab)]
theorem gTab : Tryz.prog.globalNamed "math/bits.deBruijn64tab" = some 0 := by kernel_rfl
theorem tTab:(Tryz.prog.globals[0]?).map (·.type)=some 295:=by kernel_rfl
theorem xq {W:World} (h:laidMetH Tryz.prog VZ W):Go.Eng.Tryz.glob W:=by
 rw [MakeChecks.laidMetH_plain _ _ _ (by kernel_rfl)] at h
 obtain ⟨ps,⟨g0,t0,cs0,f0,p0,q0,hg0,ht0,hv0,hd0,_,_⟩,_,_⟩:=h
 obtain rfl:=Option.some.inj (gTab.symm.trans hg0)
 obtain rfl:=Option.some.inj (tTab.symm.trans ht0)
 obtain ⟨xs,m1,rfl,hx1,hlen,hn3,hel⟩:=DataW.trod_array Tryz.underlying295 hd0
 intro j hj
 have h64:Lib.deBruijn64tab.length=64:=rfl
 have hj':j<xs.length:=by omega
 have hd:=(Prod.mk.inj hx1).1
 have hl:Lib.deBruijn64tab.map (fun n:Nat=>(DataW.lit (.int .u8 (n:Int)):DataW _))=xs.map (·.1):=DataW.agg.inj hd
 have h1:=hel j (by omega)
 rw [List.getElem?_eq_getElem hj'] at h1
 obtain ⟨k,e1,e2,_⟩:=DataW.trod_int Tryz.underlying5 h1
 have hk:=congrArg (fun l=>l[j]?) hl
 simp only [List.getElem?_map,List.getElem?_eq_getElem hj,List.getElem?_eq_getElem hj',Option.map_some,e2] at hk
 have hk':k=(Lib.deBruijn64tab[j]:Int):=by
  generalize Lib.deBruijn64tab[j]=n at hk ⊢
  cases hk
  rfl
 have c1:Tryz.prog.cellsOf 5=1:=by kernel_rfl
 rw [c1,Nat.mul_one] at e1
 have hc:=World.var?_cell hg0 hv0 j
 have e3:cs0[j]?=some (.int .u8 k):=by
  have h:=congrArg (fun l:List Value=>l[0]?) e1
  simp at h
  simpa using h
 rw [hc,e3,hk',List.getD_eq_getElem?_getD,List.getElem?_eq_getElem hj]
 rfl
theorem yT (os:Os) (args:Array Value):laidMetH Tryz.prog VZ ((World.doorLaid Tryz.prog 400 os).forCall (fun _ _=>0) ⟨#[],args,[]⟩).memory :=
 laidMetH_of_parts3 (fuel:=8) (laidMet_of_run' 8 (by kernel_rfl) (by kernel_rfl)) (by kernel_rfl) (by kernel_rfl)
end Go.Proofs.YtmonhjagbhpbeaaGreatDoor
