/- A part of the proof: walks through the program's functions, and what they compute. -/
import Derived.Test.YtmonhjagbhpbeaaGreatDoorPk23
set_option linter.unusedSimpArgs false
set_option linter.unusedVariables false
namespace Go.Eng.Tryz
open Go.RowKit Go.Eng
theorem QJv:tab.zero 61=z61:=rfl
set_option maxRecDepth 20000
end Go.Eng.Tryz
namespace Go.Eng
open Go.RowKit
variable {P:Program} {T:Tab} {w w':World} {w0:Base T} {F F':Nat→Prop} {ρ ρ':Nat→RI} {σ σ':St} {a:Act} {outs:List (Array Value)} {ops:Array Oper}
theorem SARA.nilAt {ph:Bool} (id:Nat) {j:Nat} {K:St→Prop} (h:K σ):SARA P T ph id j [] K σ:=h
def Ue (x y:Access):Bool:=decide (x.kind=y.kind)&&decide (x.num=y.num)&&(x.write||y.write)
def qq (a b:List Access):Bool:=a.any fun x=>b.any fun y=>Ue x y
theorem QBc (a b:List Access) {i:Nat} (h:i<a.length):qq (a.take (i+1)) b=(qq (a.take i) b||b.any fun y=>Ue (a.getD i default) y):=zu _ a h
def ZH (a b:Event):Bool:=qq a.of b.of
theorem Event.of_len (e:Event) (h:e.touch.length=6):e.of.length≤6:=by simp [Event.of];omega
def QBi (t:List Event):Int:=if 256<t.length then 2 else if t.all right then 0 else 7
def QGt (p:Event→Bool) (l:List Event):Int:=if l.any p then (l.findIdx p:Nat) else -1
theorem QLk {p:Event→Bool} {l:List Event} {i:Nat} (hi:i<l.length) (h0:(l.take i).any p=false) (h1:p (l.getD i default)=true):QGt p l=i:=by
 have hi':l.getD i default=l[i]:=by simp [List.getD_eq_getElem?_getD,hi]
 have:l.any p=true:=List.any_eq_true.2 ⟨_,Qj l hi,h1⟩
 unfold QGt
 rw [if_pos this]
 have:l.findIdx p=i:=by
  rw [List.findIdx_eq hi]
  rw [hi'] at h1
  refine ⟨h1,fun j hj=>?_⟩
  have:=List.any_eq_false.1 h0 l[j] (List.mem_take_iff_getElem.2 ⟨j,by omega,rfl⟩)
  simpa using this
 rw [this]
theorem QJY {p:Event→Bool} {l:List Event} (h:l.any p=false):QGt p l = -1:=by simp [QGt,h]
theorem QNX {p:Event→Bool} {l:List Event}:decide (0≤QGt p l)=l.any p:=by
 unfold QGt;cases l.any p<;>simp
section
variable {apply:Int→Int→Int→Int × Int} (hap:Wj apply) {p:Prg}
theorem QAd {s:Stt} {x:Pck} (ha:x.alt∈Qn p s x.go) {fuel:Int} (hf:0≤fuel∧fuel≤4096):∃ v,(YO apply p s x fuel).2.1=event p s x v:=by
 unfold YO
 rw [if_neg (by omega),if_neg (by unfold has;rw [decide_eq_true ha];decide)]
 unfold take
 simp only
 split
 · exact ⟨_,rfl⟩
 · split<;>exact ⟨_,rfl⟩
theorem QB6 (l:List Access):(Vf l).length=6:=by simp [Vf]
end
structure Ag (A:Int→Int→Prop) (s t:Stt):Prop where
 lv:s.vars.length=t.vars.length
 lo:s.owner.length=t.owner.length
 lc:s.chans.length=t.chans.length
 lg:s.gos.length=t.gos.length
 vars:∀ i:Nat,A 1 i→s.vars.getD i 0=t.vars.getD i 0
 owner:∀ i:Nat,A 2 i→s.owner.getD i 0=t.owner.getD i 0
 chans:∀ i:Nat,A 3 i→s.chans.getD i default=t.chans.getD i default
 gos:∀ i:Nat,A 5 i→s.gos.getD i default=t.gos.getD i default
 count:A 4 0→s.count=t.count
theorem xe {α:Type} {l m:List α} (hl:l.length=m.length) {i j:Nat} {x y d:α} (hx:i=j→x=y) (h:l.getD j d=m.getD j d):(l.set i x).getD j d=(m.set i y).getD j d:=by
 rw [QU,QU,← hl]
 split
 · rename_i q;exact hx q.1
 · exact h
section
variable {A:Int→Int→Prop} {s t:Stt}
theorem Ag.refl (s:Stt):Ag A s s:=⟨rfl,rfl,rfl,rfl,fun _ _=>rfl,fun _ _=>rfl,fun _ _=>rfl,fun _ _=>rfl,fun _=>rfl⟩
theorem Ag.symm (h:Ag A s t):Ag A t s:=⟨h.lv.symm,h.lo.symm,h.lc.symm,h.lg.symm,fun i q=>(h.vars i q).symm,fun i q=>(h.owner i q).symm,fun i q=>(h.chans i q).symm,fun i q=>(h.gos i q).symm,fun q=>(h.count q).symm⟩
theorem Ag.mono {B:Int→Int→Prop} (h:Ag A s t) (hB:∀ k n,B k n→A k n):Ag B s t:=⟨h.lv,h.lo,h.lc,h.lg,fun i q=>h.vars i (hB _ _ q),fun i q=>h.owner i (hB _ _ q),fun i q=>h.chans i (hB _ _ q),fun i q=>h.gos i (hB _ _ q),fun q=>h.count (hB _ _ q)⟩
theorem Ag.setChn (h:Ag A s t) (c:Int) {x y:Chn} (hx:A 3 c.toNat→x=y):Ag A (s.setChn c x) (t.setChn c y) :=
 ⟨h.lv,h.lo,by show (s.chans.set _ x).length=(t.chans.set _ y).length;rw [List.length_set,List.length_set];exact h.lc,h.lg,h.vars,h.owner,fun j q=>xe h.lc (fun e=>hx (e▸q)) (h.chans j q),h.gos,h.count⟩
theorem Ag.setGor (h:Ag A s t) (i:Nat) {x y:Gor} (hx:A 5 i→x=y):Ag A { s with gos:=s.gos.set i x } { t with gos:=t.gos.set i y } :=
 ⟨h.lv,h.lo,h.lc,by show (s.gos.set i x).length=(t.gos.set i y).length;rw [List.length_set,List.length_set];exact h.lg,h.vars,h.owner,h.chans,fun j q=>xe h.lg (fun e=>hx (e▸q)) (h.gos j q),h.count⟩
theorem Ag.setReg (h:Ag A s t) {g:Int} (hg:A 5 g.toNat) (r v:Int):Ag A (s.setReg g r v) (t.setReg g r v):=by
 unfold Stt.setReg
 split
 · exact h.setGor _ (fun q=>by rw [show s.gor g=t.gor g from h.gos _ q])
 · exact h
theorem Ag.setStatus (h:Ag A s t) (g v:Int):Ag A (s.setStatus g v) (t.setStatus g v):=h.setGor _ (fun q=>by rw [show s.gor g=t.gor g from h.gos _ q])
structure DAg (A:Int→Int→Prop) (d e:Did):Prop where
 s:Ag A d.s e.s
 val:d.val=e.val
 why:d.why=e.why
 to_:d.to_=e.to_
variable {p:Prg} {g:Int}
end
def Tch (l:List Access) (k n:Int):Prop:=∃ a∈l,a.kind=k∧a.num=n
def Wrt (l:List Access) (k n:Int):Prop:=∃ a∈l,a.kind=k∧a.num=n∧a.write=true
theorem QEk (k n:Int) (w:Bool):∀ l:List Access,∃ y∈add k n w l,y.kind=k∧y.num=n∧(w=true→y.write=true)
 | []=>⟨⟨k,n,w⟩,by simp [add],rfl,rfl,id⟩
 | x::l=>by
   unfold add
   split
   · rename_i h;exact ⟨_,List.mem_cons_self,h.1,h.2,fun q=>by simp [q]⟩
   split
   · exact ⟨_,List.mem_cons_self,rfl,rfl,id⟩
   · obtain ⟨y,hy,h⟩:=QEk k n w l
     exact ⟨y,List.mem_cons_of_mem _ hy,h⟩
theorem QEj (k n:Int) (w:Bool):∀ {l:List Access} {x:Access},x∈l→∃ y∈add k n w l,y.kind=x.kind∧y.num=x.num∧(x.write=true→y.write=true)
 | [],x,h=>by cases h
 | z::l,x,h=>by
   unfold add
   rcases List.mem_cons.1 h with e|h
   · subst e
     split
     · exact ⟨_,List.mem_cons_self,rfl,rfl,fun q=>by simp [q]⟩
     split
     · exact ⟨_,List.mem_cons_of_mem _ List.mem_cons_self,rfl,rfl,id⟩
     · exact ⟨_,List.mem_cons_self,rfl,rfl,id⟩
   · split
     · exact ⟨x,List.mem_cons_of_mem _ h,rfl,rfl,id⟩
     split
     · exact ⟨x,List.mem_cons_of_mem _ (List.mem_cons_of_mem _ h),rfl,rfl,id⟩
     · obtain ⟨y,hy,q⟩:=QEj k n w h
       exact ⟨y,List.mem_cons_of_mem _ hy,q⟩
theorem Tch.new (k n:Int) (w:Bool) (l:List Access):Tch (add k n w l) k n:=let ⟨y,h1,h2,h3,_⟩:=QEk k n w l;⟨y,h1,h2,h3⟩
theorem Wrt.new (k n:Int) (l:List Access):Wrt (add k n true l) k n:=let ⟨y,h1,h2,h3,h4⟩:=QEk k n true l;⟨y,h1,h2,h3,h4 rfl⟩
theorem Tch.old {l:List Access} {k' n':Int} (h:Tch l k' n') (k n:Int) (w:Bool):Tch (add k n w l) k' n':=by
 obtain ⟨x,hx,rfl,rfl⟩:=h
 obtain ⟨y,h1,h2,h3,_⟩:=QEj k n w hx
 exact ⟨y,h1,h2,h3⟩
theorem Wrt.old {l:List Access} {k' n':Int} (h:Wrt l k' n') (k n:Int) (w:Bool):Wrt (add k n w l) k' n':=by
 obtain ⟨x,hx,rfl,rfl,e⟩:=h
 obtain ⟨y,h1,h2,h3,h4⟩:=QEj k n w hx
 exact ⟨y,h1,h2,h3,h4 e⟩
theorem Wrt.chans (q:Sel):∀ (n:Nat) {l:List Access} {k m:Int},Wrt l k m→Wrt (QY q n l) k m
 | 0,l,k,m,h=>h
 | n+1,l,k,m,h=>by
   by_cases hn:n<q.cases.length
   · unfold QY
     rw [List.take_succ_eq_append_getElem hn,List.foldl_append]
     exact (Wrt.chans q n h).old _ _ _
   · have:=Wrt.chans q n h
     unfold QY at this ⊢
     rw [List.take_of_length_le (by omega)] at this ⊢
     exact this
theorem Wrt.chan (q:Sel):∀ (n:Nat) (l:List Access) {i:Nat},i<n→n≤q.cases.length→Wrt (QY q n l) 3 (q.cases.getD i default).chan
 | 0,_,_,h,_=>by omega
 | n+1,l,i,h,hn=>by
   unfold QY
   rw [List.take_succ_eq_append_getElem (by omega:n<q.cases.length),List.foldl_append]
   by_cases e:i=n
   · subst e
     rw [List.getD_eq_getElem?_getD,List.getElem?_eq_getElem (by omega:i<q.cases.length)]
     exact Wrt.new _ _ _
   · exact (Wrt.chan q n l (by omega) (by omega)).old _ _ _
structure Foot (A B:Int→Int→Prop) (p:Prg) (s:Stt) (g:Int):Prop where
 own:B 5 g
 c50:QK p s g=50→A 1 (QA p s g).b
 c54:QK p s g=54→A 1 (QA p s g).a
 c51:QK p s g=51→B 1 (QA p s g).a
 c52:QK p s g=52∨QK p s g=53→B 1 (QA p s g).b
 c55:QK p s g=55∨QK p s g=56→B 2 (QA p s g).a
 c57:QK p s g=57→B 2 (QA p s g).b
 c58:QK p s g=58∨QK p s g=60∨QK p s g=66→B 3 (QA p s g).a
 c59:QK p s g=59→B 3 (QA p s g).b
 c61:QK p s g=61→∀ i,i<(Qw p s g).cases.length→B 3 ((Qw p s g).cases.getD i default).chan
 c62:QK p s g=62→B 4 0∧(s.count<6→B 5 s.count)
 c63:QK p s g=63→A 4 0∧(0≤(s.gor g).reg (QA p s g).a∧(s.gor g).reg (QA p s g).a<s.count→A 5 ((s.gor g).reg (QA p s g).a))
theorem Wrt.base (g:Int):Wrt [⟨5,g,true⟩] 5 g:=⟨_,List.mem_cons_self,rfl,rfl,rfl⟩
section
variable {A B:Int→Int→Prop} {s t:Stt} {p:Prg} {g:Int}
structure Stand (p:Prg) (s t:Stt) (g:Int):Prop where
 gor:t.gor g=s.gor g
 ins:QA p t g=QA p s g
 op:QK p t g=QK p s g
 sel:Qw p t g=Qw p s g
theorem Stand.of (h:s.gor g=t.gor g):Stand p s t g:=by
 have ei:QA p t g=QA p s g:=by unfold QA;rw [h]
 exact ⟨h.symm,ei,by unfold QK;rw [h,ei],by unfold Qw;rw [h,ei]⟩
structure Opers (p:Prg) (s:Stt) (g:Int):Prop where
 o50:QK p s g=50→0≤(QA p s g).b
 o54:QK p s g=54→0≤(QA p s g).a
 o51:QK p s g=51→0≤(QA p s g).a
 o52:QK p s g=52∨QK p s g=53→0≤(QA p s g).b
 o55:QK p s g=55∨QK p s g=56→0≤(QA p s g).a
 o57:QK p s g=57→0≤(QA p s g).b
 o58:QK p s g=58∨QK p s g=60∨QK p s g=66→0≤(QA p s g).a
 o59:QK p s g=59→0≤(QA p s g).b
 o61:QK p s g=61→∀ i,i<(Qw p s g).cases.length→0≤((Qw p s g).cases.getD i default).chan
variable {apply:Int→Int→Int→Int × Int} {fuel:Int}
end
section
variable {A B:Int→Int→Prop} {s t:Stt} {p:Prg} {g:Int}
variable {apply:Int→Int→Int→Int × Int} {fuel:Int}
theorem Ag.ext (h:Ag (fun _ _=>True) s t):s=t:=by
 have e1:s.vars=t.vars:=List.ext_getElem? fun i=>by
  have:=h.vars i trivial
  rw [List.getD_eq_getElem?_getD,List.getD_eq_getElem?_getD] at this
  by_cases hi:i<s.vars.length
  · rw [List.getElem?_eq_getElem hi,List.getElem?_eq_getElem (h.lv▸hi)] at this ⊢
    simpa using this
  · rw [List.getElem?_eq_none (by omega),List.getElem?_eq_none (by rw [← h.lv];omega)]
 have e2:s.owner=t.owner:=List.ext_getElem? fun i=>by
  have:=h.owner i trivial
  rw [List.getD_eq_getElem?_getD,List.getD_eq_getElem?_getD] at this
  by_cases hi:i<s.owner.length
  · rw [List.getElem?_eq_getElem hi,List.getElem?_eq_getElem (h.lo▸hi)] at this ⊢
    simpa using this
  · rw [List.getElem?_eq_none (by omega),List.getElem?_eq_none (by rw [← h.lo];omega)]
 have e3:s.chans=t.chans:=List.ext_getElem? fun i=>by
  have:=h.chans i trivial
  rw [List.getD_eq_getElem?_getD,List.getD_eq_getElem?_getD] at this
  by_cases hi:i<s.chans.length
  · rw [List.getElem?_eq_getElem hi,List.getElem?_eq_getElem (h.lc▸hi)] at this ⊢
    simpa using this
  · rw [List.getElem?_eq_none (by omega),List.getElem?_eq_none (by rw [← h.lc];omega)]
 have e4:s.gos=t.gos:=List.ext_getElem? fun i=>by
  have:=h.gos i trivial
  rw [List.getD_eq_getElem?_getD,List.getD_eq_getElem?_getD] at this
  by_cases hi:i<s.gos.length
  · rw [List.getElem?_eq_getElem hi,List.getElem?_eq_getElem (h.lg▸hi)] at this ⊢
    simpa using this
  · rw [List.getElem?_eq_none (by omega),List.getElem?_eq_none (by rw [← h.lg];omega)]
 have e5:=h.count trivial
 cases s;cases t
 simp_all
def Apart (a b:List Access):Prop:=∀ k n,(Wrt a k n→¬Tch b k n)∧(Wrt b k n→¬Tch a k n)
theorem Apart.symm {a b:List Access} (h:Apart a b):Apart b a:=fun k n=>(h k n).symm
end
section
variable {p:Prg} {fuel:Int} {s:Stt} {l:List Pck}
theorem QCI {i m:Nat} (h:i<m):(Z7 QB p fuel s l m).getD i default=Qy QB p fuel s l i:=by
 unfold Z7
 simp [List.getD_eq_getElem?_getD,h]
end
def Qx (l:List Pck) (i:Nat):List Pck:=(l.set i (l.getD (i+1) default)).set (i+1) (l.getD i default)
theorem Xa (l:List Pck) (i:Nat):(Qx l i).length=l.length:=by simp [Qx]
section
variable {p:Prg} {fuel:Int} {l:List Pck} {i:Nat}
structure Swapped (p:Prg) (fuel:Int) (s0:Stt) (l:List Pck) (i:Nat):Prop where
 legal:∀ j,j<l.length→Z6 QB p fuel s0 (Qx l i) j=true
 state:∀ k,k≤l.length→k≠i+1→QP QB p fuel s0 (Qx l i) k=QP QB p fuel s0 l k
 ev0:Qy QB p fuel s0 (Qx l i) i=Qy QB p fuel s0 l (i+1)
 ev1:Qy QB p fuel s0 (Qx l i) (i+1)=Qy QB p fuel s0 l i
 evk:∀ j,j<l.length→j≠i→j≠i+1→Qy QB p fuel s0 (Qx l i) j=Qy QB p fuel s0 l j
 near:(l.getD (i+1) default).alt∈Qn p (QP QB p fuel s0 l i) (l.getD (i+1) default).go
end
def ZJ (l:List Pck) (i:Nat):Nat→List Pck
 | 0=>l
 | n+1=>Qx (ZJ l i n) (i-(n+1))
structure Sunk (p:Prg) (fuel:Int) (s0:Stt) (l:List Pck) (i n:Nat):Prop where
 legal:∀ j,j<l.length→Z6 QB p fuel s0 (ZJ l i n) j=true
 last:QP QB p fuel s0 (ZJ l i n) l.length=QP QB p fuel s0 l l.length
 here:Qy QB p fuel s0 (ZJ l i n) (i-n)=Qy QB p fuel s0 l i
 low:∀ j,j<i-n→Qy QB p fuel s0 (ZJ l i n) j=Qy QB p fuel s0 l j
 mid:∀ j,i-n<j→j≤i→Qy QB p fuel s0 (ZJ l i n) j=Qy QB p fuel s0 l (j-1)
 high:∀ j,i<j→j<l.length→Qy QB p fuel s0 (ZJ l i n) j=Qy QB p fuel s0 l j
def UU (p:Prg) (l:List Pck) (i:Int) (b:Bud):V:=.agg [p.v,.list (l.map Pck.v),.int i,b.v]
theorem QRV (p:Prg) (l:List Pck) (i:Int) (b:Bud) (d:V):(UU p l i b).toList.getD 0 d=p.v:=rfl
theorem QRU (p:Prg) (l:List Pck) (i:Int) (b:Bud) (d:V):(UU p l i b).toList.getD 1 d=.list (l.map Pck.v):=rfl
theorem QRT (p:Prg) (l:List Pck) (i:Int) (b:Bud) (d:V):(UU p l i b).toList.getD 2 d=.int i:=rfl
theorem QRS (p:Prg) (l:List Pck) (i:Int) (b:Bud) (d:V):(UU p l i b).toList.getD 3 d=b.v:=rfl
end Go.Eng
namespace Go.Eng.Tryz
open Go.RowKit Go.Eng
variable {w:World} {F:Nat→Prop}
theorem xF (v:V) (cs:List Value) (h:Fits tab w F 75 v cs):∃ (p:Prg) (l:List Pck) (i:Int) (b:Bud),v=UU p l i b:=by
 obtain ⟨l,rfl,hl⟩:=h.inv' QPg
 cases hl with|cons h1 hl=>cases hl with|cons h2 hl=>cases hl with|cons h3 hl=>cases hl with|cons h4 hl=>cases hl with|nil =>
  obtain ⟨a1,rfl⟩:=wo _ _ h1
  obtain ⟨a2,rfl⟩:=WY Yo QC8 h2
  obtain ⟨a3,_,rfl⟩:=Ze U9 _ _ h3
  obtain ⟨a4,rfl⟩:=zi _ _ h4
  exact ⟨a1,a2,a3,a4,rfl⟩
theorem ww {p:Prg} {l:List Pck} {i:Int} {b:Bud} (h:V.Lens (UU p l i b)):p.Fit∧l.length≤maxLen:=by
 refine ⟨Prg.fit_of (V.Lens.of_agg h p.v (by simp)),?_⟩
 have:=(V.Lens.of_list (V.Lens.of_agg h (.list (l.map Pck.v)) (by simp))).1
 simpa using this
end Go.Eng.Tryz
