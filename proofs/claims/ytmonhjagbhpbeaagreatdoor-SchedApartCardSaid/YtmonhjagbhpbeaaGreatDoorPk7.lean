/- A part of the proof: walks through the program's functions, and what they compute. -/
import Derived.Test.YtmonhjagbhpbeaaGreatDoorPk6
import Derived.Test.YtmonhjagbhpbeaaGreatDoorRows
import Derived.Test.YtmonhjagbhpbeaaGreatDoorCards
import Derived.Test.YtmonhjagbhpbeaaGreatDoorTie
import Derived.LaidMore
import Derived.SevenTiedAt
set_option linter.unusedSimpArgs false
set_option linter.unusedVariables false
namespace Go.Eng
theorem QIN (k n:Int) (w:Bool) {g:Int}:∀ {l:List Access},(⟨5,g,true⟩:Access)∈l→(⟨5,g,true⟩:Access)∈add k n w l
 | [],h=>by simp at h
 | x::l,h=>by
   unfold add
   split
   · rcases List.mem_cons.1 h with h|h
     · rw [← h];simp
     · simp [h]
   · split
     · simp only [List.mem_cons] at h ⊢;exact .inr h
     · rcases List.mem_cons.1 h with h|h
       · rw [← h];simp
       · exact List.mem_cons.2 (.inr (QIN k n w h))
structure TouchP (g:Int) (l:List Access):Prop where
 sorted:l.Pairwise U7
 num:∀ a∈l,0≤a.num∧a.num<vk a.kind
 own:(⟨5,g,true⟩:Access)∈l
theorem TouchP.add {g:Int} {l:List Access} (h:TouchP g l) {k n:Int} (hn:0≤n∧n<vk k) (w:Bool):TouchP g (add k n w l) :=
 ⟨xN k n w h.sorted,fun a ha=>by
   rcases QBt k n w ha with ⟨x,hx,e1,e2⟩|⟨e1,e2⟩
   · rw [← e1,← e2];exact h.num x hx
   · rw [e1,e2];exact hn,QIN k n w h.own⟩
theorem TouchP.base {g:Int} (hg:0≤g∧g<6):TouchP g [⟨5,g,true⟩]:=⟨by simp,by intro a ha;simp at ha;subst ha;exact hg,by simp⟩
theorem TouchP.chans {g:Int} (q:Sel):∀ (n:Nat) {l:List Access},TouchP g l→(∀ i,i<q.cases.length→0≤(q.cases.getD i default).chan∧(q.cases.getD i default).chan<4)→TouchP g (QY q n l)
 | 0,l,h,_=>by simpa [QY] using h
 | n+1,l,h,hc=>by
   by_cases hn:n<q.cases.length
   · unfold QY
     rw [List.take_succ_eq_append_getElem hn,List.foldl_append]
     have:=hc n hn
     rw [List.getD_eq_getElem?_getD,List.getElem?_eq_getElem hn] at this
     exact (TouchP.chans q n h hc).add (k:=3) this true
   · have:=TouchP.chans q n h hc
     unfold QY at this ⊢
     rw [List.take_of_length_le (by omega)] at this ⊢
     exact this
theorem Uj (q:Sel) (l:List Access):∀ j:Nat,(QY q j l).length≤l.length+j
 | 0=>by simp [QY]
 | j+1=>by
   by_cases h:j<q.cases.length
   · unfold QY
     rw [List.take_succ_eq_append_getElem h,List.foldl_append]
     have h1:=W7 3 q.cases[j].chan true (QY q j l)
     have h2:=Uj q l j
     show (add 3 q.cases[j].chan true (QY q j l)).length≤_
     omega
   · have e:QY q (j+1) l=QY q j l:=by unfold QY;rw [List.take_of_length_le (by omega),List.take_of_length_le (by omega)]
     rw [e]
     have:=Uj q l j
     omega
theorem Wb {g:Int} {c:Prop} [Decidable c] {a b:List Access} (h1:c→TouchP g a∧1≤a.length∧a.length≤6) (h2:¬c→TouchP g b∧1≤b.length∧b.length≤6):TouchP g (if c then a else b)∧1≤(if c then a else b).length∧(if c then a else b).length≤6:=by
 by_cases h:c
 · rw [if_pos h];exact h1 h
 · rw [if_neg h];exact h2 h
theorem QEu {p:Prg} (hok:p.Ok) {s:Stt} (hw:Wf p s) {g:Int} (hg:0≤g∧g<s.count):TouchP g (touch p s g)∧1≤(touch p s g).length∧(touch p s g).length≤6:=by
 have hc:=hw.count
 have hgi:=hw.gos g hg.1 hg.2
 have hrt:Qb p (p.funcs.getD (s.gos.getD g.toNat default).func.toNat default) (QA p s g)=0:=hw.right hok hg.1 hg.2
 have hsz:=hok.sizes
 unfold Zz at hsz
 have hB:TouchP g [⟨5,g,true⟩]:=TouchP.base ⟨hg.1,by omega⟩
 have hl1:([⟨5,g,true⟩]:List Access).length=1:=rfl
 have pos:∀ {l:List Access},TouchP g l→1≤l.length:=fun h=>List.length_pos_of_mem h.own
 have fin:∀ {l:List Access},TouchP g l→l.length≤6→TouchP g l∧1≤l.length∧l.length≤6:=fun h h2=>⟨h,pos h,h2⟩
 have one:∀ (k n:Int) (w:Bool),0≤n∧n<vk k→TouchP g (add k n w [⟨5,g,true⟩])∧1≤(add k n w [⟨5,g,true⟩]).length∧(add k n w [⟨5,g,true⟩]).length≤6:=by
  intro k n w h
  exact fin (hB.add h w) (by have:=W7 k n w [⟨5,g,true⟩];omega)
 have opc:∀ {k:Int},QK p s g=k→k≠66→(QA p s g).op=k:=fun h hk=>hw.op_at hok hg.1 hg.2 h hk
 have m1:vk 1=8:=rfl
 have m2:vk 2=4:=rfl
 have m3:vk 3=4:=rfl
 have m4:vk 4=1:=rfl
 have m5:vk 5=6:=rfl
 have m6:vk 6=1:=rfl
 unfold touch
 refine Wb (fun h=>?_) (fun _=>?_)
 · have hI:=QCY hrt (opc h (by decide));exact one 1 _ _ (by omega)
 refine Wb (fun h=>?_) (fun _=>?_)
 · have hI:=QAP hrt (opc h (by decide));exact one 1 _ _ (by omega)
 refine Wb (fun h=>?_) (fun _=>?_)
 · have hI:=QCX hrt (opc h (by decide));exact one 1 _ _ (by omega)
 refine Wb (fun h=>?_) (fun _=>?_)
 · rcases h with h|h
   · have hI:=QCW hrt (opc h (by decide));exact one 1 _ _ (by omega)
   · have hI:=QCV hrt (opc h (by decide));exact one 1 _ _ (by omega)
 refine Wb (fun h=>?_) (fun _=>?_)
 · have hI:=yd hrt (by rcases h with h|h;exact .inl (opc h (by decide));exact .inr (opc h (by decide)))
   exact one 2 _ _ (by omega)
 refine Wb (fun h=>?_) (fun _=>?_)
 · have hI:=QCU hrt (opc h (by decide));exact one 2 _ _ (by omega)
 refine Wb (fun h=>?_) (fun _=>?_)
 · rcases h with h|h|h
   · have hI:=Vm hrt (opc h (by decide));exact one 3 _ _ (by omega)
   · have hI:=QCT hrt (opc h (by decide));exact one 3 _ _ (by omega)
   · have hI:=Vm hrt (hw.op66 hok hg.1 hg.2 h);exact one 3 _ _ (by omega)
 refine Wb (fun h=>?_) (fun _=>?_)
 · have hI:=yc hrt (opc h (by decide));exact one 3 _ _ (by omega)
 refine Wb (fun h=>?_) (fun _=>?_)
 · have hI:=UB hrt (opc h (by decide))
   have hsh:=hok.short (s.gos.getD g.toNat default).func.toNat (QA p s g).a.toNat (by omega)
   have hq:(Qw p s g).cases.length≤4:=hsh.2
   refine fin (hB.chans _ _ fun i hi=>?_) (by have:=Uj (Qw p s g) [⟨5,g,true⟩] (Qw p s g).cases.length;omega)
   have hC:=(Vb hok (i:=(s.gos.getD g.toNat default).func.toNat) (j:=(QA p s g).a.toNat) (k:=i) (by have:=hgi.f0;have:=hgi.f1;omega) (by omega) hi).chan
   have e:((p.funcs.getD (s.gos.getD g.toNat default).func.toNat default).sels.getD (QA p s g).a.toNat default).cases.getD i default=(Qw p s g).cases.getD i default:=rfl
   rw [e] at hC
   omega
 refine Wb (fun h=>?_) (fun _=>?_)
 · have h4:=hB.add (k:=4) (n:=0) (by omega) true
   have l4:=W7 4 0 true [⟨5,g,true⟩]
   refine Wb (fun _=>?_) (fun _=>?_)
   · exact fin (h4.add (k:=5) (n:=s.count) (by omega) true) (by have:=W7 5 s.count true (add 4 0 true [⟨5,g,true⟩]);omega)
   · exact fin h4 (by omega)
 refine Wb (fun h=>?_) (fun _=>?_)
 · have h4:=hB.add (k:=4) (n:=0) (by omega) false
   have l4:=W7 4 0 false [⟨5,g,true⟩]
   refine Wb (fun q=>?_) (fun _=>?_)
   · have q:0≤(s.gor g).reg (QA p s g).a∧(s.gor g).reg (QA p s g).a<s.count:=q
     exact fin (h4.add (k:=5) (by omega) false) (by have:=W7 5 ((s.gor g).reg (QA p s g).a) false (add 4 0 false [⟨5,g,true⟩]);omega)
   · exact fin h4 (by omega)
 exact Wb (fun h=>one 6 _ _ (by omega)) (fun _=>fin hB (by omega))
section
variable {apply:Int→Int→Int→Int × Int} (hap:Wj apply) {p:Prg}
theorem ready_mem {s:Stt} {x:Pck}:x∈ready p s↔(0≤x.go∧x.go<s.count)∧x.alt∈Qn p s x.go:=by
 unfold ready YG
 simp only [List.mem_flatMap,List.mem_range,List.mem_map]
 constructor
 · rintro ⟨g,hg,a,ha,rfl⟩
   exact ⟨by show 0≤(g:Int)∧(g:Int)<s.count;omega,ha⟩
 · rintro ⟨hg,ha⟩
   refine ⟨x.go.toNat,by omega,x.alt,?_,?_⟩
   · rw [show ((x.go.toNat:Nat):Int)=x.go by omega];exact ha
   · cases x;simp only [Pck.mk.injEq,and_true];simp only at hg;omega
theorem wd {fuel:Int} {s:Stt} {l:List Pck} {j:Nat} (h:Z6 apply p fuel s l j=true):(l.getD j default).alt∈Qn p (QP apply p fuel s l j) (l.getD j default).go:=by
 unfold Z6 at h
 obtain ⟨y,hy,e⟩:=List.any_eq_true.1 h
 have e:=of_decide_eq_true e
 rw [e]
 exact (ready_mem.1 hy).2
include hap in
theorem Wl (hr:QN p=true) (hok:p.Ok) {fuel:Int} (hf:0≤fuel∧fuel≤4096) {s:Stt} (hv:Vld p s) {l:List Pck}:∀ {n:Nat},n≤l.length→(∀ j,j<n→Z6 apply p fuel s l j=true)→Vld p (QP apply p fuel s l n)
 | 0,_,_=>by rw [VW];exact hv
 | n+1,hn,h=>by
   rw [YK apply p fuel s l (by omega)]
   exact QPN hap hr hok (Wl hr hok hf hv (by omega) fun j hj=>h j (by omega)) (wd (h n (by omega))) hf
end
theorem okAtR_iff {p:Prg} {fuel:Int} {s:Stt} {l:List Pck} {j:Nat}:Z6 QB p fuel s l j=true↔(l.getD j default).alt∈Qn p (QP QB p fuel s l j) (l.getD j default).go:=by
 refine ⟨wd,fun h=>?_⟩
 unfold Z6
 exact List.any_eq_true.2 ⟨_,ready_mem.2 ⟨(live_iff.1 (Zm h)).1,h⟩,by simp⟩
theorem yZ {p:Prg} (hr:QN p=true) {s:Stt} (hv:Vld p s):Wh p s=0:=by
 unfold Wh
 rw [hr,hv.ok (Prg.ok hr) hr]
 decide
theorem QLs {p:Prg} (hr:QN p=true) {fuel:Int} (hf:0≤fuel∧fuel≤4096) {s:Stt} {l:List Pck} {j:Nat} (hj:j<l.length) (hv:Vld p (QP QB p fuel s l j)) (h:Z6 QB p fuel s l j=true) :
 doV p (QP QB p fuel s l j) (l.getD j default) fuel=(QP QB p fuel s l (j+1),Qy QB p fuel s l j,0):=by
 have ha:=okAtR_iff.1 h
 have h0:=yZ hr hv
 have hn:¬(fuel<0∨4096<fuel):=by omega
 have hh:YO QB p (QP QB p fuel s l j) (l.getD j default) fuel=((take QB p (QP QB p fuel s l j) (l.getD j default) fuel).1,(take QB p (QP QB p fuel s l j) (l.getD j default) fuel).2,0):=by
  have e:=Wd h0 hn ha
  unfold doV at e
  rw [if_neg (fun q=>q h0)] at e
  exact e
 rw [Wd h0 hn ha,YK QB p fuel s l hj,Qy,hh]
theorem QRO {p:Prg} (hr:QN p=true) {fuel:Int} (hf:0≤fuel∧fuel≤4096) {s:Stt} {l:List Pck} {j:Nat} (hv:Vld p (QP QB p fuel s l j)) (h:Z6 QB p fuel s l j=false) :
 doV p (QP QB p fuel s l j) (l.getD j default) fuel=(zeroStt,zeroEvent,5) :=
 wA (yZ hr hv) (by omega) (fun ha=>by rw [okAtR_iff.2 ha] at h;cases h)
def XX (p:Prg) (l:List Pck) (b:Bud):Nat × Stt × Int × Int :=
 let s0:=(start QB p b.fuel).1
 if ZR p l.length b≠0 then (0,zeroStt,ZR p l.length b,0)
 else if b.steps<(l.length:Int) then (0,zeroStt,2,b.steps)
 else if ZY QB p b.fuel s0 l<l.length then (ZY QB p b.fuel s0 l,zeroStt,5,ZY QB p b.fuel s0 l)
 else (l.length,QP QB p b.fuel s0 l l.length,0,0)
theorem qg {p:Prg} {n:Int} {b:Bud} (h:ZR p n b=0):QN p=true∧n≤256∧Y1 b=true∧(0≤b.fuel∧b.fuel≤4096)∧(0≤b.steps∧b.steps≤256):=by
 unfold ZR at h
 split at h;· cases h
 rename_i h1
 split at h;· cases h
 rename_i h2
 split at h;· cases h
 rename_i h3
 have hb:Y1 b=true:=by simpa using h3
 refine ⟨by simpa using h1,by omega,hb,?_⟩
 simp only [Y1,Bool.and_eq_true,decide_eq_true_eq] at hb
 omega
def Xy (a:Access):Int:=a.kind*1000+a.num
def Wk (a:Access):Prop:=(0≤a.kind∧a.kind≤100)∧0≤a.num∧a.num<1000
theorem QKQ {a b:Access} (ha:Wk a) (hb:Wk b):Xy a<Xy b↔U7 a b:=by
 unfold Wk at ha hb;unfold Xy U7;omega
theorem QKR {a b:Access} (ha:Wk a) (hb:Wk b):Xy a=Xy b↔a.kind=b.kind∧a.num=b.num:=by
 unfold Wk at ha hb;unfold Xy;omega
def XB (l:List Access) (k:Nat):Access:=l.getD k default
def Vk:List Access→List Access
 | a::b::l=>if a=b then Vk (b::l) else a::Vk (b::l)
 | l=>l
theorem cpt_mem:∀ {l:List Access} {x:Access},x∈Vk l↔x∈l
 | [],_=>Iff.rfl
 | [_],_=>Iff.rfl
 | a::b::l,x=>by
   unfold Vk
   split
   · rename_i h
     rw [cpt_mem,← h];simp
   · rw [List.mem_cons,cpt_mem,← List.mem_cons]
theorem QFt:∀ {l:List Access} {a:Access},l≠[]→Vk (l++[a])=if l.getLast?=some a then Vk l else Vk l++[a]
 | [],_,h=>absurd rfl h
 | [x],a,_=>by
   simp only [List.cons_append,List.nil_append,List.getLast?_singleton,Option.some.injEq]
   unfold Vk
   split
   · rename_i h;subst h;rfl
   · rfl
 | x::y::l,a,_=>by
   have ih:=QFt (l:=y::l) (a:=a) (by simp)
   rw [List.getLast?_cons_cons]
   show Vk (x::y::(l++[a]))=_
   have e1:Vk (x::y::(l++[a]))=if x=y then Vk (y::(l++[a])) else x::Vk (y::(l++[a])):=by rw [Vk]
   have e2:Vk (x::y::l)=if x=y then Vk (y::l) else x::Vk (y::l):=by rw [Vk]
   rw [e1,e2]
   rw [show y::(l++[a])=y::l++[a] from rfl,ih]
   split<;>split<;>rfl
theorem QJL {l:List Access} {k:Nat} (h0:0<k) (h:k≤l.length):(l.take k).getLast?=some (XB l (k-1)):=by
 rw [List.getLast?_take,if_neg (by omega)]
 unfold XB
 rw [List.getD_eq_getElem?_getD,List.getElem?_eq_getElem (by omega)];rfl
theorem QAV {l:List Access} {k:Nat} (h:k<l.length):l.take (k+1)=l.take k++[XB l k]:=by
 unfold XB
 rw [List.take_succ_eq_append_getElem h];simp [List.getD_eq_getElem?_getD,h]
theorem wC {l:List Access} {k:Nat} (h0:0<k) (h:k<l.length):Vk (l.take (k+1))=if XB l k=XB l (k-1) then Vk (l.take k) else Vk (l.take k)++[XB l k]:=by
 rw [QAV h,QFt (by intro e;have:=congrArg List.length e;rw [List.length_take,List.length_nil] at this;omega),QJL h0 (by omega)]
 simp only [Option.some.injEq]
 by_cases e:XB l k=XB l (k-1)
 · rw [if_pos e.symm,if_pos e]
 · rw [if_neg (fun q=>e q.symm),if_neg e]
theorem QAi:∀ {a b:List Access},a.Pairwise U7→b.Pairwise U7→(∀ x,x∈a↔x∈b)→a=b
 | [],[],_,_,_=>rfl
 | [],y::b,_,_,h=>absurd ((h y).2 (by simp)) (by simp)
 | x::a,[],_,_,h=>absurd ((h x).1 (by simp)) (by simp)
 | x::a,y::b,ha,hb,h=>by
   obtain ⟨a1,a2⟩:=List.pairwise_cons.1 ha
   obtain ⟨b1,b2⟩:=List.pairwise_cons.1 hb
   have irr:∀ z:Access,¬U7 z z:=fun z q=>by unfold U7 at q;omega
   have asy:∀ z u:Access,U7 z u→U7 u z→False:=fun z u q r=>by unfold U7 at q r;omega
   have e:x=y:=by
    rcases List.mem_cons.1 ((h x).1 (by simp)) with e|e
    · exact e
    · rcases List.mem_cons.1 ((h y).2 (by simp)) with f|f
      · exact f.symm
      · exact (asy _ _ (b1 x e) (a1 y f)).elim
   subst e
   rw [QAi a2 b2 fun z=>⟨fun hz=>?_,fun hz=>?_⟩]
   · rcases List.mem_cons.1 ((h z).1 (List.mem_cons_of_mem _ hz)) with e|e
     · subst e;exact (irr _ (a1 _ hz)).elim
     · exact e
   · rcases List.mem_cons.1 ((h z).2 (List.mem_cons_of_mem _ hz)) with e|e
     · subst e;exact (irr _ (b1 _ hz)).elim
     · exact e
def SameKey (l:List Access):Prop:=∀ a∈l,∀ b∈l,a.kind=b.kind→a.num=b.num→a=b
theorem QBb:∀ {l:List Access},(∀ a∈l,Wk a)→SameKey l→l.Pairwise (fun a b=>Xy a≤Xy b)→(Vk l).Pairwise U7
 | [],_,_,_=>by simp [Vk]
 | [_],_,_,_=>by simp [Vk]
 | a::b::l,hs,hk,hp=>by
   obtain ⟨h1,h2⟩:=List.pairwise_cons.1 hp
   have ih:=QBb (l:=b::l) (fun x hx=>hs x (List.mem_cons_of_mem _ hx)) (fun x hx y hy=>hk x (List.mem_cons_of_mem _ hx) y (List.mem_cons_of_mem _ hy)) h2
   unfold Vk
   split
   · exact ih
   · rename_i hne
     refine List.pairwise_cons.2 ⟨fun x hx=>?_,ih⟩
     have hx:=cpt_mem.1 hx
     have sa:=hs a (by simp)
     have sb:=hs b (by simp)
     have sx:=hs x (List.mem_cons_of_mem _ hx)
     rw [← QKQ sa sx]
     have l1:=h1 b (by simp)
     have lt:Xy a<Xy b:=by
      rcases Int.lt_or_eq_of_le l1 with h|h
      · exact h
      · obtain ⟨e1,e2⟩:=(QKR sa sb).1 h
        exact absurd (hk a (by simp) b (by simp) e1 e2) hne
     rcases List.mem_cons.1 hx with e|e
     · rw [e];exact lt
     · have:=(List.pairwise_cons.1 h2).1 x e
       omega
def Z2 (l XB:List Access):List Access:=l.foldl (fun m a=>add a.kind a.num a.write m) XB
theorem wM {k n:Int} {w:Bool}:∀ {l:List Access},(∀ a∈l,a.kind=k→a.num=n→a.write=w)→∀ x,x∈add k n w l↔x=⟨k,n,w⟩∨x∈l
 | [],_,x=>by simp [add]
 | y::l,h,x=>by
   unfold add
   split
   · rename_i hk
     have hw:=h y (by simp) hk.1 hk.2
     have:(⟨y.kind,y.num,y.write||w⟩:Access)=y:=by rw [hw,Bool.or_self,← hw]
     have e2:(⟨k,n,w⟩:Access)=y:=by rw [← hk.1,← hk.2,← hw]
     rw [this,e2,List.mem_cons]
     constructor
     · exact .inr
     · rintro (e|e)
       · exact .inl e
       · exact e
   · split
     · rw [List.mem_cons]
     · rw [List.mem_cons,wM (fun a ha=>h a (List.mem_cons_of_mem _ ha)),List.mem_cons]
       constructor
       · rintro (e|e|e)
         · exact .inr (.inl e)
         · exact .inl e
         · exact .inr (.inr e)
       · rintro (e|e|e)
         · exact .inr (.inl e)
         · exact .inl e
         · exact .inr (.inr e)
theorem QBw:∀ {l m:List Access},SameKey (l++m)→∀ x,x∈Z2 l m↔x∈l++m
 | [],m,_,x=>Iff.rfl
 | a::l,m,hk,x=>by
   have e:Z2 (a::l) m=Z2 l (add a.kind a.num a.write m):=rfl
   have ha:∀ x,x∈add a.kind a.num a.write m↔x=a∨x∈m:=wM fun b hb h1 h2=>by
    have:=hk b (by simp [hb]) a (by simp) h1 h2
    rw [this]
   have h2:∀ x,x∈l++add a.kind a.num a.write m↔x∈a::l++m:=fun x=>by
    rw [List.mem_append,ha,List.cons_append,List.mem_cons,List.mem_append]
    constructor
    · rintro (h|h|h)
      · exact .inr (.inl h)
      · exact .inl h
      · exact .inr (.inr h)
    · rintro (h|h|h)
      · exact .inr (.inl h)
      · exact .inl h
      · exact .inr (.inr h)
   rw [e,QBw (fun u hu v hv=>hk u ((h2 u).1 hu) v ((h2 v).1 hv)),h2]
theorem yq:∀ {l m:List Access},m.Pairwise U7→(Z2 l m).Pairwise U7
 | [],_,h=>h
 | a::l,m,h=>yq (l:=l) (xN a.kind a.num a.write h)
theorem QKP {l R:List Access} (hs:∀ a∈l,Wk a) (hk:SameKey l) (hp:R.Perm l) (ho:R.Pairwise (fun a b=>Xy a≤Xy b)):Vk R=Z2 l []:=by
 refine QAi (QBb (fun a ha=>hs a (hp.mem_iff.1 ha)) (fun a ha b hb=>hk a (hp.mem_iff.1 ha) b (hp.mem_iff.1 hb)) ho) (yq List.Pairwise.nil) fun x=>?_
 rw [cpt_mem,hp.mem_iff,QBw (by rw [List.append_nil];exact hk),List.append_nil]
def QNj (a b:Access):Int:=if a.kind=b.kind then a.num-b.num else a.kind-b.kind
theorem QIP {a b:Access} (ha:Wk a) (hb:Wk b):QNj a b<0↔Xy a<Xy b:=by
 unfold Wk at ha hb;unfold Xy QNj;split<;>omega
def swp (R:List Access) (j:Nat):List Access:=(R.set j (XB R (j-1))).set (j-1) (XB R j)
theorem QMi (R:List Access) (j:Nat):(swp R j).length=R.length:=by simp [swp]
theorem QBx {R:List Access} {j:Nat} (h:j<R.length):XB R j=R[j]:=by simp [XB,List.getD_eq_getElem?_getD,h]
theorem QKJ {R:List Access} {j:Nat} (h0:0<j) (h:j<R.length):(swp R j).Perm R:=by
 have:=List.set_set_perm h (show j-1<R.length by omega)
 unfold swp
 rw [QBx h,QBx (show j-1<R.length by omega)]
 exact this
theorem QKK {R:List Access} {j k:Nat} (h0:0<j) (h:j<R.length):XB (swp R j) k=if k=j then XB R (j-1) else if k=j-1 then XB R j else XB R k:=by
 unfold swp
 unfold XB
 rw [List.getD_eq_getElem?_getD,List.getElem?_set]
 by_cases h1:j-1=k
 · subst h1
   rw [if_pos rfl,if_pos (by simp;omega),if_neg (by omega),if_pos rfl];rfl
 · rw [if_neg h1,List.getElem?_set]
   by_cases h2:j=k
   · subst h2
     rw [if_pos rfl,if_pos h,if_pos rfl];rfl
   · rw [if_neg h2,if_neg (fun q=>h2 q.symm),if_neg (fun q=>h1 q.symm),← List.getD_eq_getElem?_getD]
structure SInvO (l R:List Access) (i:Nat):Prop where
 len:R.length=l.length
 perm:R.Perm l
 ord:∀ x y,x<y→y<i→Xy (XB R x)≤Xy (XB R y)
structure SInvI (l R:List Access) (i j:Nat):Prop where
 len:R.length=l.length
 perm:R.Perm l
 le:j≤i
 lt:i<l.length
 ord:∀ x y,x<y→y≤i→y≠j→Xy (XB R x)≤Xy (XB R y)
theorem SInvO.inner {l R:List Access} {i:Nat} (h:SInvO l R i) (hi:i<l.length):SInvI l R i i :=
 ⟨h.len,h.perm,Nat.le_refl _,hi,fun x y h1 h2 h3=>h.ord x y h1 (by omega)⟩
theorem SInvI.swap {l R:List Access} {i j:Nat} (h:SInvI l R i j) (h0:0<j) (hlt:Xy (XB R j)<Xy (XB R (j-1))):SInvI l (swp R j) i (j-1):=by
 have hl:=h.len
 have hle:=h.le
 have hli:=h.lt
 refine ⟨by rw [QMi];exact hl,(QKJ h0 (by omega)).trans h.perm,by omega,hli,fun x y h1 h2 h3=>?_⟩
 rw [QKK h0 (by omega),QKK h0 (by omega)]
 by_cases y1:y=j
 · subst y1
   rw [if_pos rfl,if_neg (by omega)]
   by_cases x1:x=y-1
   · rw [if_pos x1];omega
   · rw [if_neg x1];exact h.ord x (y-1) (by omega) (by omega) (by omega)
 · rw [if_neg y1,if_neg h3]
   by_cases x1:x=j
   · rw [if_pos x1];exact h.ord (j-1) y (by omega) h2 (by omega)
   · rw [if_neg x1]
     by_cases x2:x=j-1
     · rw [if_pos x2];exact h.ord j y (by omega) h2 y1
     · rw [if_neg x2];exact h.ord x y h1 h2 y1
theorem SInvI.done {l R:List Access} {i j:Nat} (h:SInvI l R i j) (hd:j=0∨Xy (XB R (j-1))≤Xy (XB R j)):SInvO l R (i+1):=by
 refine ⟨h.len,h.perm,fun x y h1 h2=>?_⟩
 by_cases y1:y=j
 · subst y1
   rcases hd with hd|hd
   · omega
   · by_cases x1:x=y-1
     · rw [x1];exact hd
     · have:=h.ord x (y-1) (by omega) (by have:=h.le;omega) (by omega)
       omega
 · exact h.ord x y h1 (by omega) y1
theorem SInvO.sorted {l R:List Access} {i:Nat} (h:SInvO l R i) (hi:l.length≤i):R.Pairwise (fun a b=>Xy a≤Xy b):=by
 rw [List.pairwise_iff_getElem]
 intro x y hx hy hxy
 have:=h.ord x y hxy (by have:=h.len;omega)
 rwa [QBx hx,QBx hy] at this
theorem SInvO.first (l:List Access):SInvO l l 1:=⟨rfl,List.Perm.refl _,fun x y h1 h2=>by omega⟩
theorem SInvI.all {l R:List Access} {i j:Nat} (h:SInvI l R i j) {P:Access→Prop} (hs:∀ a∈l,P a) {k:Nat} (hk:k<l.length):P (XB R k):=by
 have hk':k<R.length:=by rw [h.len];exact hk
 exact hs _ (h.perm.mem_iff.1 (by rw [QBx hk'];exact List.getElem_mem hk'))
structure CInv (R C:List Access) (k0 k k2:Nat):Prop where
 len:C.length=R.length
 p0:0<k0
 le:k+1≤k0+k2
 p2:1≤k2
 kk:k0≤k
 hi:k0+k2≤R.length
 tk:C.take k=Vk (R.take (k0+k2))
 num:k=(Vk (R.take (k0+k2))).length
 dr:∀ x,k0+k2-1≤x→XB C x=XB R x
theorem CInv.first {R:List Access} {k0:Nat} (h0:0<k0) (hk:k0<R.length) (hc:Vk (R.take k0)=R.take k0) (he:XB R k0=XB R (k0-1)):CInv R R k0 k0 1:=by
 have e:Vk (R.take (k0+1))=R.take k0:=by rw [wC h0 hk,if_pos he,hc]
 exact ⟨rfl,h0,by omega,by omega,by omega,by omega,e.symm,by rw [e,List.length_take];omega,fun x _=>rfl⟩
theorem CInv.next {R C:List Access} {k0 k k2:Nat} (h:CInv R C k0 k k2) (hk:k0+k2<R.length) (he:XB C (k0+k2)=XB C (k0+k2-1)):CInv R C k0 k (k2+1):=by
 have:=h.p0
 rw [h.dr _ (by omega),h.dr _ (by omega)] at he
 have e:Vk (R.take (k0+(k2+1)))=Vk (R.take (k0+k2)):=by
  rw [← Nat.add_assoc,wC (by omega) hk,if_pos he]
 exact ⟨h.len,h.p0,by have:=h.le;omega,by omega,h.kk,by omega,by rw [e];exact h.tk,by rw [e];exact h.num,fun x hx=>h.dr x (by omega)⟩
theorem CInv.put {R C:List Access} {k0 k k2:Nat} (h:CInv R C k0 k k2) (hk:k0+k2<R.length) (he:¬XB C (k0+k2)=XB C (k0+k2-1)):CInv R (C.set k (XB C (k0+k2))) k0 (k+1) (k2+1):=by
 have h1:=h.p0
 have h2:=h.le
 have h3:=h.len
 rw [h.dr _ (by omega),h.dr _ (by omega)] at he
 rw [h.dr (k0+k2) (by omega)]
 have e:Vk (R.take (k0+(k2+1)))=Vk (R.take (k0+k2))++[XB R (k0+k2)]:=by
  rw [← Nat.add_assoc,wC (by omega) hk,if_neg he]
 refine ⟨by rw [List.length_set];exact h3,h1,by omega,by omega,by have:=h.kk;omega,by omega,?_,by rw [e,List.length_append,← h.num];rfl,fun x hx=>?_⟩
 · rw [e,← h.tk,QAV (by rw [List.length_set];omega),List.take_set_of_le (by omega)]
   congr 1
   unfold XB
   rw [List.getD_eq_getElem?_getD,List.getElem?_set_self (by omega)];rfl
 · unfold XB
   rw [List.getD_eq_getElem?_getD,List.getElem?_set_ne (by omega),← List.getD_eq_getElem?_getD]
   exact h.dr x (by omega)
def QRH (n:Nat):Int:=if n=0 then 0 else if n=1 then 1 else if n<4 then 2 else 3
def tl0:List Access:=[]
def Qa (L:List Access) (k n:Int) (w:Bool):List Access:=L++[⟨k,n,w⟩]
def chs (L:List Access) (q:Sel) (i:Nat):List Access:=L++(q.cases.take i).map fun c=>⟨3,c.chan,true⟩
theorem YJ (L:List Access) (k n:Int) (w:Bool):(Qa L k n w).length=L.length+1:=by simp [Qa]
theorem Yp:tl0.length=0:=rfl
theorem QNe (L:List Access) (q:Sel) (i:Nat) (h:i≤q.cases.length):(chs L q i).length=L.length+i:=by simp [chs,Nat.min_eq_left h]
theorem QL3 (L:List Access) (q:Sel) {i:Nat} (h:i<q.cases.length):Qa (chs L q i) 3 (q.cases.getD i default).chan true=chs L q (i+1):=by
 unfold Qa chs
 rw [List.take_succ_eq_append_getElem h,List.map_append,List.append_assoc]
 simp [List.getD_eq_getElem?_getD,h]
theorem QL2 (L:List Access) (q:Sel):chs L q 0=L:=by simp [chs]
def Smalls (l:List Access):Prop:=∀ a∈l,Wk a
theorem Smalls.nil:Smalls tl0:=by intro a h;cases h
theorem Smalls.app {L:List Access} (h:Smalls L) {k n:Int} (w:Bool) (hk:0≤k∧k≤100) (hn:0≤n∧n<1000):Smalls (Qa L k n w):=by
 intro a ha
 rcases List.mem_append.1 ha with ha|ha
 · exact h a ha
 · rw [List.mem_singleton.1 ha];exact ⟨hk,hn⟩
theorem Smalls.chs {L:List Access} (h:Smalls L) {q:Sel} (hq:∀ i,i<q.cases.length→0≤(q.cases.getD i default).chan∧(q.cases.getD i default).chan<4) (i:Nat):Smalls (chs L q i):=by
 intro a ha
 rcases List.mem_append.1 ha with ha|ha
 · exact h a ha
 · obtain ⟨c,hc,rfl⟩:=List.mem_map.1 ha
   obtain ⟨j,hj,rfl⟩:=List.mem_iff_getElem.1 (List.mem_of_mem_take hc)
   have:=hq j hj
   rw [List.getD_eq_getElem?_getD,List.getElem?_eq_getElem hj] at this
   simp only [Option.getD_some] at this
   refine ⟨⟨by simp,by simp⟩,this.1,?_⟩
   show q.cases[j].chan<1000
   omega
theorem SameKey.one (g:Int):SameKey (Qa tl0 5 g true):=by
 intro a ha b hb _ _
 simp [Qa,tl0] at ha hb
 rw [ha,hb]
theorem SameKey.app {L:List Access} (h:SameKey L) {k n:Int} {w:Bool} (hn:∀ a∈L,a.kind=k→a.num=n→a.write=w):SameKey (Qa L k n w):=by
 intro a ha b hb h1 h2
 rcases List.mem_append.1 ha with ha|ha
 · rcases List.mem_append.1 hb with hb|hb
   · exact h a ha b hb h1 h2
   · have hb:=List.mem_singleton.1 hb
     subst hb
     have:=hn a ha h1 h2
     obtain ⟨x,y,z⟩:=a
     simp only at h1 h2 this
     rw [h1,h2,this]
 · have ha:=List.mem_singleton.1 ha
   subst ha
   rcases List.mem_append.1 hb with hb|hb
   · have:=hn b hb h1.symm h2.symm
     obtain ⟨x,y,z⟩:=b
     simp only at h1 h2 this
     rw [h1,h2,this]
   · rw [List.mem_singleton.1 hb]
theorem Vl {g:Int} {a:Access} (h:a∈Qa tl0 5 g true):a=⟨5,g,true⟩:=by simpa [Qa,tl0] using h
theorem SameKey.two {g k n:Int} {w:Bool} (h:k≠5):SameKey (Qa (Qa tl0 5 g true) k n w):=(SameKey.one g).app fun a ha h1 _=>by rw [Vl ha] at h1;exact absurd h1.symm h
theorem SameKey.three {g k n m:Int} {w u:Bool} (h:k≠5) (hm:m≠g∨u=true):SameKey (Qa (Qa (Qa tl0 5 g true) k n w) 5 m u):=(SameKey.two h).app fun a ha h1 h2=>by
 rcases List.mem_append.1 ha with ha|ha
 · have ha:=Vl ha
   subst ha
   rcases hm with hm|hm
   · exact absurd h2.symm hm
   · rw [hm]
 · rw [List.mem_singleton.1 ha] at h1;exact absurd h1 h
theorem SameKey.chs {g:Int} {q:Sel} (i:Nat):SameKey (chs (Qa tl0 5 g true) q i):=by
 intro a ha b hb h1 h2
 have three:∀ c,c∈(q.cases.take i).map (fun c=>(⟨3,c.chan,true⟩:Access))→c.kind=3∧c.write=true:=by
  intro c hc
  obtain ⟨x,_,rfl⟩:=List.mem_map.1 hc
  exact ⟨rfl,rfl⟩
 rcases List.mem_append.1 ha with ha|ha<;>rcases List.mem_append.1 hb with hb|hb
 · rw [Vl ha,Vl hb]
 · rw [Vl ha] at h1;rw [(three b hb).1] at h1;simp at h1
 · rw [Vl hb] at h1;rw [(three a ha).1] at h1;simp at h1
 · have e1:=three a ha
   have e2:=three b hb
   obtain ⟨x,y,z⟩:=a
   obtain ⟨x',y',z'⟩:=b
   simp only at h1 h2 e1 e2
   rw [h1,h2,e1.2,e2.2]
theorem Zj (L:List Access) (k n:Int) (w:Bool):Z2 (Qa L k n w) []=add k n w (Z2 L []):=by simp [Z2,Qa]
theorem Zi (g:Int):Z2 (Qa tl0 5 g true) []=[⟨5,g,true⟩]:=rfl
theorem QHL (L:List Access) (q:Sel) (i:Nat):Z2 (chs L q i) []=QY q i (Z2 L []):=by
 unfold Z2 chs QY
 rw [List.foldl_append,List.foldl_map]
section
variable {p:Prg} {s:Stt} {g:Int}
theorem t50 (h:QK p s g=50):Z2 (Qa (Qa tl0 5 g true) 1 (QA p s g).b false) []=touch p s g:=by rw [Zj,Zi];simp [touch,h]
theorem t54 (h:QK p s g=54):Z2 (Qa (Qa tl0 5 g true) 1 (QA p s g).a false) []=touch p s g:=by rw [Zj,Zi];simp [touch,h]
theorem t51 (h:QK p s g=51):Z2 (Qa (Qa tl0 5 g true) 1 (QA p s g).a true) []=touch p s g:=by rw [Zj,Zi];simp [touch,h]
theorem t52 (h:QK p s g=52∨QK p s g=53):Z2 (Qa (Qa tl0 5 g true) 1 (QA p s g).b true) []=touch p s g:=by rw [Zj,Zi];rcases h with h|h<;>simp [touch,h]
theorem t55 (h:QK p s g=55∨QK p s g=56):Z2 (Qa (Qa tl0 5 g true) 2 (QA p s g).a true) []=touch p s g:=by rw [Zj,Zi];rcases h with h|h<;>simp [touch,h]
theorem t57 (h:QK p s g=57):Z2 (Qa (Qa tl0 5 g true) 2 (QA p s g).b true) []=touch p s g:=by rw [Zj,Zi];simp [touch,h]
theorem t58 (h:QK p s g=58∨QK p s g=60∨QK p s g=66):Z2 (Qa (Qa tl0 5 g true) 3 (QA p s g).a true) []=touch p s g:=by rw [Zj,Zi];rcases h with h|h|h<;>simp [touch,h]
theorem t59 (h:QK p s g=59):Z2 (Qa (Qa tl0 5 g true) 3 (QA p s g).b true) []=touch p s g:=by rw [Zj,Zi];simp [touch,h]
theorem t61 (h:QK p s g=61):Z2 (chs (Qa tl0 5 g true) (Qw p s g) (Qw p s g).cases.length) []=touch p s g:=by rw [QHL,Zi];simp [touch,h]
theorem t62 (h:QK p s g=62) (hc:s.count<6):Z2 (Qa (Qa (Qa tl0 5 g true) 4 0 true) 5 s.count true) []=touch p s g:=by rw [Zj,Zj,Zi];simp [touch,h,hc]
theorem QUo (h:QK p s g=62) (hc:¬s.count<6):Z2 (Qa (Qa tl0 5 g true) 4 0 true) []=touch p s g:=by rw [Zj,Zi];simp [touch,h,hc]
theorem t63 (h:QK p s g=63) (hc:Xw s g ((s.gor g).reg (QA p s g).a)=true):Z2 (Qa (Qa (Qa tl0 5 g true) 4 0 false) 5 ((s.gor g).reg (QA p s g).a) false) []=touch p s g:=by
 unfold Xw at hc
 simp at hc
 rw [Zj,Zj,Zi];simp [touch,h,hc]
theorem QUn (h:QK p s g=63) (hc:Xw s g ((s.gor g).reg (QA p s g).a)=false):Z2 (Qa (Qa tl0 5 g true) 4 0 false) []=touch p s g:=by
 unfold Xw at hc
 simp at hc
 rw [Zj,Zi]
 have e:touch p s g=if 0≤(s.gor g).reg (QA p s g).a∧(s.gor g).reg (QA p s g).a<s.count then add 5 ((s.gor g).reg (QA p s g).a) false (add 4 0 false [⟨5,g,true⟩]) else add 4 0 false [⟨5,g,true⟩]:=by simp [touch,h]
 rw [e]
 split
 · rename_i h1
   rw [hc h1.1 h1.2]
   simp [add]
 · rfl
theorem t65 (h:QK p s g=65):Z2 (Qa (Qa tl0 5 g true) 6 0 true) []=touch p s g:=by rw [Zj,Zi];simp [touch,h]
theorem QPp (h1:¬QK p s g=50) (h2:¬QK p s g=54) (h3:¬QK p s g=51) (h4:¬QK p s g=52) (h5:¬QK p s g=53) (h6:¬QK p s g=55) (h7:¬QK p s g=56) (h8:¬QK p s g=57) (h9:¬QK p s g=58) (h10:¬QK p s g=60) (h11:¬QK p s g=66) (h12:¬QK p s g=59) (h13:¬QK p s g=61) (h14:¬QK p s g=62) (h15:¬QK p s g=63) (h16:¬QK p s g=65):Z2 (Qa tl0 5 g true) []=touch p s g:=by
 rw [Zi];simp [touch,h1,h2,h3,h4,h5,h6,h7,h8,h9,h10,h11,h12,h13,h14,h15,h16]
end
open Go.RowKit
variable {P:Program} {T:Tab} {w w':World} {w0:Base T} {F F':Nat→Prop} {ρ ρ':Nat→RI} {σ σ':St} {outs:List (Array Value)}
theorem CallE.cut {f:FuncId} {es:List E} {K:St→E→Prop} (k:Nat) (h:CallE P T σ f es fun σ' e=>(σ'.under k=true∧e.under k=true)∧K { σ' with ob:=σ'.ob.take k } e):CallE P T σ f es K:=by
 obtain ⟨hE,h⟩:=h
 refine ⟨hE,fun w0 w F ρ tmps outs xs hR hx=>(h w0 w F ρ tmps outs xs hR hx).mono ?_⟩
 rintro en w' ⟨v,σ',e,F',ρ',rfl,⟨⟨hu,he⟩,hK⟩,hv,hR'⟩
 have hT:TmRel T w' F' ρ' [(0,true,e)] #[v]:=by
  intro t g e' ht
  by_cases h0:t=0
  · subst h0
    simp at ht
    obtain ⟨rfl,rfl⟩:=ht
    exact ⟨v,rfl,fun _=>hv,fun h=>by cases h⟩
  · have:(t == 0)=false:=by simpa using h0
    simp [List.lookup_cons,this] at ht
 have hR2:Rel T w' F' ρ' w0 { σ' with out:=[(0,true,e)]::σ'.out } tmps (#[v]::outs) :=
  ⟨hR'.tm,⟨hT,hR'.out⟩,hR'.ob,hR'.free,hR'.inj,hR'.fsub,hR'.below,hR'.size,hR'.fold⟩
 have hu2:St.under k { σ' with out:=[(0,true,e)]::σ'.out }=true:=by
  simp only [St.under,Bool.and_eq_true] at hu ⊢
  exact ⟨⟨hu.1.1,by simp only [QT,Tm.under,he,Bool.true_and];exact hu.1.2⟩,hu.2⟩
 obtain ⟨F2,ρ2,hR3⟩:=WS (T:=T) k hu2 _ _ _ _ _ _ hR2
 obtain ⟨y,hy,hy2,_⟩:=hR3.out.1 0 true e (by simp)
 have:y=v:=by simpa using hy.symm
 subst this
 exact ⟨y,_,e,F2,ρ2,rfl,hK,hy2 rfl,⟨hR3.tm,hR3.out.2,hR3.ob,hR3.free,hR3.inj,hR3.fsub,hR3.below,hR3.size,hR3.fold⟩⟩
mutual
theorem E.under_mono {k m:Nat} (hkm:k≤m):∀ {e:E},e.under k=true→e.under m=true
 | .int _ _,_=>rfl
 | .bool _,_=>rfl
 | .str _,_=>rfl
 | .data _ _,_=>rfl
 | .fs _ _ _,_=>rfl
 | .sl i e lo n c,h=>by
   have:i<k:=by simpa [E.under] using h
   simp [E.under];omega
 | .nilsl,_=>rfl
 | .ptr i p t,h=>by
   have:i<k:=by simpa [E.under] using h
   simp [E.under];omega
 | .rp i j p t,h=>by
   have:i<k:=by simpa [E.under] using h
   simp [E.under];omega
 | .av i p t j,h=>by
   have:i<k:=by simpa [E.under] using h
   simp [E.under];omega
 | .fptr _ _,_=>rfl
 | .fn _ caps,h=>by
   have h':E.underL k caps=true:=by simpa [E.under] using h
   simpa [E.under] using E.underL_mono hkm h'
 | .nilfn,_=>rfl
 | .tup m',h=>by
   have h':E.underL k m'=true:=by simpa [E.under] using h
   simpa [E.under] using E.underL_mono hkm h'
 | .agg _ m',h=>by
   have h':E.underL k m'=true:=by simpa [E.under] using h
   simpa [E.under] using E.underL_mono hkm h'
 | .undef,_=>rfl
theorem E.underL_mono {k m:Nat} (hkm:k≤m):∀ {l:List E},E.underL k l=true→E.underL m l=true
 | [],_=>rfl
 | e::l,h=>by
   simp only [E.underL,Bool.and_eq_true] at h ⊢
   exact ⟨E.under_mono hkm h.1,E.underL_mono hkm h.2⟩
end
theorem Tm.under_mono {k m:Nat} (hkm:k≤m):∀ {tm:Tm},Tm.under k tm=true→Tm.under m tm=true
 | [],_=>rfl
 | x::tm,h=>by
   simp only [Tm.under,Bool.and_eq_true] at h ⊢
   exact ⟨E.under_mono hkm h.1,Tm.under_mono hkm h.2⟩
theorem Ym {k m:Nat} (hkm:k≤m):∀ {l:List Tm},QT k l=true→QT m l=true
 | [],_=>rfl
 | x::l,h=>by
   simp only [QT,Bool.and_eq_true] at h ⊢
   exact ⟨Tm.under_mono hkm h.1,Ym hkm h.2⟩
theorem YL {k m:Nat} (hkm:k≤m):∀ {l:List Obj},QV k l=true→QV m l=true
 | [],_=>rfl
 | .var _ e::l,h=>by
   simp only [QV,Bool.and_eq_true] at h ⊢
   exact ⟨E.under_mono hkm h.1,YL hkm h.2⟩
 | .erow _ e::l,h=>by
   simp only [QV,Bool.and_eq_true] at h ⊢
   exact ⟨E.underL_mono hkm h.1,YL hkm h.2⟩
 | .row _ _::l,h=>by
   simp only [QV] at h ⊢
   exact YL hkm h
 | .dead::l,h=>by
   simp only [QV] at h ⊢
   exact YL hkm h
theorem Qq (k:Nat):∀ a b:List Obj,QV k (a++b)=(QV k a&&QV k b)
 | [],_=>rfl
 | .var _ e::l,b=>by simp only [List.cons_append,QV,Qq k l b,Bool.and_assoc]
 | .erow _ e::l,b=>by simp only [List.cons_append,QV,Qq k l b,Bool.and_assoc]
 | .row _ _::l,b=>by simp only [List.cons_append,QV,Qq k l b]
 | .dead::l,b=>by simp only [List.cons_append,QV,Qq k l b]
section
variable {α:Type} {X L:List α} {N:Nat}
theorem wl (h:X.length=N) (j:Nat):(X++L)[N+j]?=L[j]?:=by rw [List.getElem?_append_right (by omega),h,Nat.add_sub_cancel_left]
theorem qp (h:X.length=N):(X++L)[N]?=L[0]?:=wl h 0
theorem QAt (h:X.length=N) (j:Nat) (o:α):(X++L).set (N+j) o=X++L.set j o:=by rw [List.set_append_right _ _ (by omega),h,Nat.add_sub_cancel_left]
theorem yg (h:X.length=N) (o:α):(X++L).set N o=X++L.set 0 o:=QAt h 0 o
theorem WW (h:X.length=N):(X++L).take N=X:=by rw [← h,List.take_left]
theorem VP (h:X.length=N) (j:Nat):(X++L).take (N+j)=X++L.take j:=by rw [← h,List.take_length_add_append]
end
theorem V.beq_int (a b:Int):V.beq (.int a) (.int b)=decide (a=b):=rfl
theorem V.beq_bool (a b:Bool):V.beq (.bool a) (.bool b)=decide (a=b):=by
 show (a == b)=_
 cases a<;>cases b<;>rfl
theorem V.beqL_map {α:Type} [DecidableEq α] (f:α→V) (hf:∀ a b,V.beq (f a) (f b)=decide (a=b)):∀ l m:List α,V.beqL (l.map f) (m.map f)=decide (l=m)
 | [],[]=>rfl
 | [],_::_=>rfl
 | _::_,[]=>rfl
 | a::l,b::m=>by
   show (V.beq (f a) (f b)&&V.beqL (l.map f) (m.map f))=_
   rw [hf,V.beqL_map f hf l m]
   by_cases h1:a=b
   · by_cases h2:l=m
     · simp [h1,h2]
     · simp [h1,h2]
   · simp [h1]
theorem V.beqL_cons (a b:V) (l m:List V):V.beqL (a::l) (b::m)=(V.beq a b&&V.beqL l m):=rfl
theorem V.beqL_nil:V.beqL [] []=true:=rfl
theorem V.beq_agg (l m:List V):V.beq (.agg l) (.agg m)=V.beqL l m:=rfl
theorem Access.beq (a b:Access):V.beq a.v b.v=decide (a=b):=by
 cases a;cases b
 simp [Access.v,V.beq_agg,V.beqL_cons,V.beqL_nil,V.beq_int,V.beq_bool,Bool.decide_and]
theorem Pck.beq (a b:Pck):V.beq a.v b.v=decide (a=b):=by
 cases a;cases b
 simp [Pck.v,V.beq_agg,V.beqL_cons,V.beqL_nil,V.beq_int,V.beq_bool,Bool.decide_and]
theorem Gor.beq (a b:Gor):V.beq a.v b.v=decide (a=b):=by
 cases a;cases b
 simp [Gor.v,V.beq_agg,V.beqL_cons,V.beqL_nil,V.beq_int,V.beq_bool,Bool.decide_and,V.beqL_map V.int V.beq_int]
theorem Chn.beq (a b:Chn):V.beq a.v b.v=decide (a=b):=by
 cases a;cases b
 simp [Chn.v,V.beq_agg,V.beqL_cons,V.beqL_nil,V.beq_int,V.beq_bool,Bool.decide_and,V.beqL_map V.int V.beq_int]
theorem Stt.beq (a b:Stt):V.beq a.v b.v=decide (a=b):=by
 cases a;cases b
 simp [Stt.v,V.beq_agg,V.beqL_cons,V.beqL_nil,V.beq_int,V.beq_bool,Bool.decide_and,V.beqL_map V.int V.beq_int,V.beqL_map Chn.v Chn.beq,V.beqL_map Gor.v Gor.beq]
theorem Event.beq (a b:Event):V.beq a.v b.v=decide (a=b):=by
 cases a;cases b
 simp [Event.v,V.beq_agg,V.beqL_cons,V.beqL_nil,V.beq_int,V.beq_bool,Bool.decide_and,V.beqL_map Access.v Access.beq]
structure Fnc.Sz (f:Fnc):Prop where
 code:f.code.length*40≤140737488355328
 sels:f.sels.length*32≤140737488355328
 cases:∀ i,i<f.sels.length→(f.sels.getD i default).cases.length*32≤140737488355328
structure Prg.Sz (p:Prg):Prop where
 vars:p.vars.length*16≤140737488355328
 chans:p.chans.length*8≤140737488355328
 funcs:p.funcs.length*64≤140737488355328
 each:∀ i,i<p.funcs.length→(p.funcs.getD i default).Sz
end Go.Eng
namespace Go.Eng.Tryz
open Go.RowKit Go.Eng
variable {w:World} {F:Nat→Prop}
theorem WY {α:Type} {f:α→V} {t e:TypeId} (ht:tab.ty t=.slice e) (hf:∀ v cs,Fits tab w F e v cs→∃ a,v=f a) {v:V} {cs:List Value} (h:Fits tab w F t v cs):∃ m:List α,v=.list (m.map f):=by
 rcases h.inv' ht with ⟨h,_⟩|⟨b,off,n,cap,l',ds,h,_,_,_,_,hf',_⟩
 · exact ⟨[],h⟩
 · obtain ⟨m,rfl⟩:=QC9 hf hf'
   exact ⟨m,h⟩
theorem Ze {t:TypeId} {k:IntKind} (ht:tab.ty t=.int k) (v:V) (cs:List Value) (h:Fits tab w F t v cs):∃ n:Int,k.has n∧v=.int n:=by
 obtain ⟨n,h1,h2,_⟩:=h.inv' ht
 exact ⟨n,h2,h1⟩
theorem QDA {t:TypeId} (ht:tab.ty t=.bool) (v:V) (cs:List Value) (h:Fits tab w F t v cs):∃ n:Bool,v=.bool n:=by
 obtain ⟨n,h1,_⟩:=h.inv' ht
 exact ⟨n,h1⟩
theorem QGr (v:V) (cs:List Value) (h:Fits tab w F 104 v cs):∃ a:Instr,v=a.v:=by
 obtain ⟨l,rfl,hl⟩:=h.inv' QKF
 cases hl with|cons h1 hl=>cases hl with|cons h2 hl=>cases hl with|cons h3 hl=>cases hl with|cons h4 hl=>cases hl with|cons h5 hl=>cases hl with|nil =>
  obtain ⟨a1,_,rfl⟩:=Ze QSD _ _ h1
  obtain ⟨a2,_,rfl⟩:=Ze U9 _ _ h2
  obtain ⟨a3,_,rfl⟩:=Ze U9 _ _ h3
  obtain ⟨a4,_,rfl⟩:=Ze U9 _ _ h4
  obtain ⟨a5,_,rfl⟩:=Ze ty2 _ _ h5
  exact ⟨⟨a1,a2,a3,a4,a5⟩,rfl⟩
theorem QJX (v:V) (cs:List Value) (h:Fits tab w F 176 v cs):∃ a:Cas,v=a.v:=by
 obtain ⟨l,rfl,hl⟩:=h.inv' QKB
 cases hl with|cons h1 hl=>cases hl with|cons h2 hl=>cases hl with|cons h3 hl=>cases hl with|cons h4 hl=>cases hl with|nil =>
  obtain ⟨a1,rfl⟩:=QDA ty4 _ _ h1
  obtain ⟨a2,_,rfl⟩:=Ze U9 _ _ h2
  obtain ⟨a3,_,rfl⟩:=Ze U9 _ _ h3
  obtain ⟨a4,_,rfl⟩:=Ze U9 _ _ h4
  exact ⟨⟨a1,a2,a3,a4⟩,rfl⟩
theorem QLi (v:V) (cs:List Value) (h:Fits tab w F 173 v cs):∃ a:Sel,v=a.v:=by
 obtain ⟨l,rfl,hl⟩:=h.inv' QKC
 cases hl with|cons h1 hl=>cases hl with|cons h2 hl=>cases hl with|nil =>
  obtain ⟨a1,rfl⟩:=WY QNv QJX h1
  obtain ⟨a2,_,rfl⟩:=Ze U9 _ _ h2
  exact ⟨⟨a1,a2⟩,rfl⟩
theorem QLj (v:V) (cs:List Value) (h:Fits tab w F 108 v cs):∃ a:Fnc,v=a.v:=by
 obtain ⟨l,rfl,hl⟩:=h.inv' QKE
 cases hl with|cons h1 hl=>cases hl with|cons h2 hl=>cases hl with|cons h3 hl=>cases hl with|cons h4 hl=>cases hl with|nil =>
  obtain ⟨a1,_,rfl⟩:=Ze U9 _ _ h1
  obtain ⟨a2,_,rfl⟩:=Ze U9 _ _ h2
  obtain ⟨a3,rfl⟩:=WY QNz QGr h3
  obtain ⟨a4,rfl⟩:=WY QNy QLi h4
  exact ⟨⟨a1,a2,a3,a4⟩,rfl⟩
theorem QNW (v:V) (cs:List Value) (h:Fits tab w F 167 v cs):∃ a:Vr,v=a.v:=by
 obtain ⟨l,rfl,hl⟩:=h.inv' QKD
 cases hl with|cons h1 hl=>cases hl with|cons h2 hl=>cases hl with|nil =>
  obtain ⟨a1,rfl⟩:=QDA ty4 _ _ h1
  obtain ⟨a2,_,rfl⟩:=Ze ty2 _ _ h2
  exact ⟨⟨a1,a2⟩,rfl⟩
theorem wo (v:V) (cs:List Value) (h:Fits tab w F 26 v cs):∃ a:Prg,v=a.v:=by
 obtain ⟨l,rfl,hl⟩:=h.inv' QSP
 cases hl with|cons h1 hl=>cases hl with|cons h2 hl=>cases hl with|cons h3 hl=>cases hl with|cons h4 hl=>cases hl with|nil =>
  obtain ⟨a1,rfl⟩:=WY QSX QNW h1
  obtain ⟨a2,_,rfl⟩:=Ze U9 _ _ h2
  obtain ⟨a3,rfl⟩:=WY QMV (f:=V.int) (fun v cs h=>let ⟨n,_,e⟩:=Ze U9 v cs h;⟨n,e⟩) h3
  obtain ⟨a4,rfl⟩:=WY QST QLj h4
  exact ⟨⟨a1,a2,a3,a4⟩,rfl⟩
theorem Prg.fit_of {p:Prg} (h:V.Lens p.v):p.Fit:=by
 have a:=V.Lens.of_agg h
 have h1:=(V.Lens.of_list (a (.list (p.vars.map Vr.v)) (by simp))).1
 have h3:=(V.Lens.of_list (a (.list (p.chans.map V.int)) (by simp))).1
 have h4:=V.Lens.of_list (a (.list (p.funcs.map Fnc.v)) (by simp))
 rw [List.length_map] at h1 h3
 refine ⟨h1,h3,by simpa using h4.1,fun f hf=>?_⟩
 have b:=V.Lens.of_agg (h4.2 f.v (List.mem_map.2 ⟨f,hf,rfl⟩))
 have c1:=(V.Lens.of_list (b (.list (f.code.map Instr.v)) (by simp))).1
 have c2:=V.Lens.of_list (b (.list (f.sels.map Sel.v)) (by simp))
 rw [List.length_map] at c1
 refine ⟨c1,by simpa using c2.1,fun s hs=>?_⟩
 have d:=V.Lens.of_agg (c2.2 s.v (List.mem_map.2 ⟨s,hs,rfl⟩))
 simpa using (V.Lens.of_list (d (.list (s.cases.map Cas.v)) (by simp))).1
theorem zi (v:V) (cs:List Value) (h:Fits tab w F 28 v cs):∃ a:Bud,v=a.v:=by
 obtain ⟨l,rfl,hl⟩:=h.inv' QSM
 cases hl with|cons h1 hl=>cases hl with|cons h2 hl=>cases hl with|cons h3 hl=>cases hl with|nil =>
  obtain ⟨a1,_,rfl⟩:=Ze U9 _ _ h1
  obtain ⟨a2,_,rfl⟩:=Ze U9 _ _ h2
  obtain ⟨a3,_,rfl⟩:=Ze U9 _ _ h3
  exact ⟨⟨a1,a2,a3⟩,rfl⟩
end Go.Eng.Tryz
namespace Go.Proofs.YtmonhjagbhpbeaaGreatDoor
open Go.ChangeShapes Go.WideShapes Go.ChangeAt Go.RowKit
def VD {H : Type} : List (String × DataW H) := [("math/bits.deBruijn64tab", Rows.laid_math_bits_deBruijn64tab)]
theorem gTab : Tryz.prog.globalNamed "math/bits.deBruijn64tab" = some 0 := by kernel_rfl
theorem tTab:(Tryz.prog.globals[0]?).map (·.type)=some 295:=by kernel_rfl
theorem xq {W:World} (h:laidMetH Tryz.prog VD W):Go.Eng.Tryz.glob W:=by
 rw [MakeChecks.laidMetH_plain _ _ _ (by kernel_rfl)] at h
 obtain ⟨ps,⟨g0,t0,cs0,f0,p0,q0,hg0,ht0,hv0,hd0,_,_⟩,_,_⟩:=h
 obtain rfl:=Option.some.inj (gTab.symm.trans hg0)
 obtain rfl:=Option.some.inj (tTab.symm.trans ht0)
 obtain ⟨xs,m1,rfl,hx1,hlen,hn3,hel⟩:=DataW.trod_array Tryz.underlying295 hd0
 intro j hj
 have h64:Lib.deBruijn64tab.length=64:=rfl
 have hj':j<xs.length:=by omega
 have hd:=(Prod.mk.inj hx1).1
 have hl:Lib.deBruijn64tab.map (fun n:Nat=>(DataW.lit (.int .u8 (n:Int)):DataW _))=xs.map (·.1):=DataW.agg.inj hd
 have h1:=hel j (by omega)
 rw [List.getElem?_eq_getElem hj'] at h1
 obtain ⟨k,e1,e2,_⟩:=DataW.trod_int Tryz.underlying5 h1
 have hk:=congrArg (fun l=>l[j]?) hl
 simp only [List.getElem?_map,List.getElem?_eq_getElem hj,List.getElem?_eq_getElem hj',Option.map_some,e2] at hk
 have hk':k=(Lib.deBruijn64tab[j]:Int):=by
  generalize Lib.deBruijn64tab[j]=n at hk ⊢
  cases hk
  rfl
 have c1:Tryz.prog.cellsOf 5=1:=by kernel_rfl
 rw [c1,Nat.mul_one] at e1
 have hc:=World.var?_cell hg0 hv0 j
 have e3:cs0[j]?=some (.int .u8 k):=by
  have h:=congrArg (fun l:List Value=>l[0]?) e1
  simp at h
  simpa using h
 rw [hc,e3,hk',List.getD_eq_getElem?_getD,List.getElem?_eq_getElem hj]
 rfl
theorem zm (os:Os) (args:Array Value):laidMetH Tryz.prog VD ((World.doorLaid Tryz.prog 400 os).forCall (fun _ _=>0) ⟨#[],args,[]⟩).memory :=
 laidMetH_of_parts3 (fuel:=8) (laidMet_of_run' 8 (by kernel_rfl) (by kernel_rfl)) (by kernel_rfl) (by kernel_rfl)
end Go.Proofs.YtmonhjagbhpbeaaGreatDoor
