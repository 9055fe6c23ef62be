/- A part of the proof: walks through the program's functions, and what they compute. -/
import Derived.Test.YtmonhjagbhpbeaaGreatDoorPk7
set_option linter.unusedSimpArgs false
set_option linter.unusedVariables false
namespace Go.Eng.Tryz
open Go.RowKit Go.Eng
theorem QI:tab.zero 60=Zh:=rfl
theorem XT:tab.zero 61=z61:=rfl
theorem XS:tab.zero 63=z63:=rfl
set_option maxRecDepth 20000
end Go.Eng.Tryz
namespace Go.Eng
open Go.RowKit
variable {P:Program} {T:Tab} {w w':World} {w0:Base T} {F F':Nat→Prop} {ρ ρ':Nat→RI} {σ σ':St} {a:Act} {outs:List (Array Value)}
theorem QE {P:Program} {T:Tab} {o:SOp} {rest:List SOp} {K:St→Prop} {σ:St} (h:∀ R:St→Prop,(∀ σ',QCy P T rest K σ'→R σ')→YF o σ (opG P T o R σ)):QCy P T (o::rest) K σ:=h _ fun _ x=>x
theorem QJ {P:Program} {T:Tab} {K:St→Prop} {σ:St} (h:K σ):QCy P T [] K σ:=h
theorem Ys {P:Program} {T:Tab} {o:SOp} {rest:List SOp} {K:St→Prop} {σ:St} (h:∀ R:St→Prop,(∀ σ',QBm P T rest K σ'→R σ')→YF o σ (opQ P T o R σ)):QBm P T (o::rest) K σ:=h _ fun _ x=>x
theorem QCx {P:Program} {T:Tab} {K:St→Prop} {σ:St} (h:K σ):QBm P T [] K σ:=h
end Go.Eng
namespace Go.Eng
def y5 (x y:Access):Bool:=decide (x.kind=y.kind)&&decide (x.num=y.num)&&(x.write||y.write)
def yZ (a b:List Access):Bool:=a.any fun x=>b.any fun y=>y5 x y
theorem ye {α:Type} [Inhabited α] (f:α→Bool) (b:List α) {i:Nat} (h:i<b.length):(b.take (i+1)).any f=((b.take i).any f||f (b.getD i default)):=by
 rw [List.take_succ_eq_append_getElem h]
 simp only [List.any_append,List.any_cons,List.any_nil,Bool.or_false,List.getD_eq_getElem?_getD,List.getElem?_eq_getElem h,Option.getD_some]
theorem QEa (a b:List Access) {i:Nat} (h:i<a.length):yZ (a.take (i+1)) b=(yZ (a.take i) b||b.any fun y=>y5 (a.getD i default) y):=ye _ a h
def ZA (a b:Event):Bool:=yZ a.of b.of
theorem Event.of_len (e:Event) (h:e.touch.length=6):e.of.length≤6:=by simp [Event.of];omega
def vJ (t:List Event):Int:=if 256<t.length then 2 else if t.all right then 0 else 7
def QER (p:Event→Bool) (l:List Event):Int:=if l.any p then (l.findIdx p:Nat) else -1
theorem QIn {p:Event→Bool} {l:List Event} {i:Nat} (hi:i<l.length) (h0:(l.take i).any p=false) (h1:p (l.getD i default)=true):QER p l=i:=by
 have hi':l.getD i default=l[i]:=by simp [List.getD_eq_getElem?_getD,hi]
 have:l.any p=true:=List.any_eq_true.2 ⟨_,Q8 l hi,h1⟩
 unfold QER
 rw [if_pos this]
 have:l.findIdx p=i:=by
  rw [List.findIdx_eq hi]
  rw [hi'] at h1
  refine ⟨h1,fun j hj=>?_⟩
  have:=List.any_eq_false.1 h0 l[j] (List.mem_take_iff_getElem.2 ⟨j,by omega,rfl⟩)
  simpa using this
 rw [this]
theorem QGd {p:Event→Bool} {l:List Event} (h:l.any p=false):QER p l = -1:=by simp [QER,h]
theorem QKG {p:Event→Bool} {l:List Event}:decide (0≤QER p l)=l.any p:=by
 unfold QER;cases l.any p<;>simp
end Go.Eng
namespace Go.Eng
theorem QHd {α:Type} {n i:Nat} (h:i<n) (f:Nat→α):((List.range n).map f)[i]?=some (f i):=by simp [h]
end Go.Eng
namespace Go.Eng
theorem QB7 (p:Prg) (d:Did) (g:Int) (x:Instr):d.s.count≤(Z9 p d g x).s.count∧(Z9 p d g x).s.owner=d.s.owner:=by
 unfold Z9
 refine Qd (q:=fun t=>d.s.count≤t.count∧t.owner=d.s.owner) (fun _=>⟨Int.le_refl _,rfl⟩) (fun _=>⟨?_,(UF _ _ _ _)⟩)
 show d.s.count≤(Stt.setReg _ _ _ _).count
 rw [ZM]
 show d.s.count≤d.s.count+1
 omega
theorem QBM {q:Stt→Prop} {p:Prg} {s:Stt} {g alt:Int} (h1:q s) (h2:∀ t,Same s t→q t) (h3:q (Z9 p ⟨s,0,0,(s.gor g).pc+1⟩ g (QB p s g)).s)
 (h4:¬QO p s g=66→(QB p s g).op≠58→q (Za ⟨s,0,0,(s.gor g).pc+1⟩ g (QB p s g)).s):q (QV p s g alt).s:=by
 unfold QV
 refine Qd (q:=q) (fun _=>h2 _ ⟨rfl,rfl⟩) (fun h66=>?_)
 have e:QO p s g=(QB p s g).op:=by
  unfold QO at h66 ⊢
  by_cases hs:(s.gor g).status=2
  · rw [if_pos hs] at h66;exact absurd rfl h66
  · rw [if_neg hs]
 refine Qd (q:=q) (fun _=>h2 _ (Wk p (⟨s,0,0,(s.gor g).pc+1⟩:Did) _ _ _)) (fun h58=>?_)
 refine Qd (q:=q) (fun _=>h2 _ (Wl (⟨s,0,0,(s.gor g).pc+1⟩:Did) _ _ _ _)) (fun _=>?_)
 refine Qd (q:=q) (fun _=>h2 _ (UU (⟨s,0,0,(s.gor g).pc+1⟩:Did) _)) (fun _=>?_)
 refine Qd (q:=q) (fun _=>h3) (fun _=>?_)
 refine Qd (q:=q) (fun _=>Qd (q:=q) (fun _=>h1) (fun _=>h1)) (fun _=>?_)
 refine Qd (q:=q) (fun _=>h1) (fun _=>?_)
 refine Qd (q:=q) (fun _=>?_) (fun _=>h4 h66 (by rw [← e];exact h58))
 refine Qd (q:=q) (fun _=>h1) (fun _=>?_)
 exact Qd (q:=q) (fun _=>h2 _ (Wk p ⟨s,0,0,((Qu p s g).cases.getD alt.toNat default).to_⟩ _ _ _)) (fun _=>h2 _ (Wl ⟨s,0,0,((Qu p s g).cases.getD alt.toNat default).to_⟩ _ _ _ _))
theorem vr (p:Prg) (s:Stt) (g alt:Int):s.count≤(QV p s g alt).s.count :=
 QBM (q:=fun t=>s.count≤t.count) (Int.le_refl _) (fun t h=>by rw [h.count];exact Int.le_refl _) (QB7 _ _ _ _).1 (fun _ _=>by rw [UT];exact Int.le_refl _)
end Go.Eng
namespace Go.Eng
theorem x5 {l:List Access} (h:l.length≤6):(W2 l).take l.length=l:=by
 apply List.ext_getElem?
 intro i
 rw [List.getElem?_take]
 split
 · rename_i hi
   unfold W2
   rw [QHd (by omega),if_pos hi]
   simp [List.getD_eq_getElem?_getD,hi]
 · rw [List.getElem?_eq_none (by omega)]
end Go.Eng
namespace Go.Eng
section
variable {apply:Int→Int→Int→Int × Int} (hap:WF apply) {p:Prg}
theorem vt (l:List Access):(W2 l).length=6:=by simp [W2]
end
end Go.Eng
namespace Go.Eng
structure Ag (A:Int→Int→Prop) (s t:Stt):Prop where
 lv:s.vars.length=t.vars.length
 lo:s.owner.length=t.owner.length
 lc:s.chans.length=t.chans.length
 lg:s.gos.length=t.gos.length
 vars:∀ i:Nat,A 1 i→s.vars.getD i 0=t.vars.getD i 0
 owner:∀ i:Nat,A 2 i→s.owner.getD i 0=t.owner.getD i 0
 chans:∀ i:Nat,A 3 i→s.chans.getD i default=t.chans.getD i default
 gos:∀ i:Nat,A 5 i→s.gos.getD i default=t.gos.getD i default
 count:A 4 0→s.count=t.count
theorem zt {α:Type} {l m:List α} (hl:l.length=m.length) {i j:Nat} {x y d:α} (hx:i=j→x=y) (h:l.getD j d=m.getD j d):(l.set i x).getD j d=(m.set i y).getD j d:=by
 rw [Qb,Qb,← hl]
 split
 · rename_i q;exact hx q.1
 · exact h
theorem xp {α:Type} {l m:List α} {i j:Nat} {x d:α} (hx:i≠j) (h:l.getD j d=m.getD j d):(l.set i x).getD j d=m.getD j d:=by
 rw [Qb,if_neg (fun q=>hx q.1)]
 exact h
section
variable {A:Int→Int→Prop} {s t:Stt}
theorem Ag.refl (s:Stt):Ag A s s:=⟨rfl,rfl,rfl,rfl,fun _ _=>rfl,fun _ _=>rfl,fun _ _=>rfl,fun _ _=>rfl,fun _=>rfl⟩
theorem Ag.symm (h:Ag A s t):Ag A t s:=⟨h.lv.symm,h.lo.symm,h.lc.symm,h.lg.symm,fun i q=>(h.vars i q).symm,fun i q=>(h.owner i q).symm,fun i q=>(h.chans i q).symm,fun i q=>(h.gos i q).symm,fun q=>(h.count q).symm⟩
theorem Ag.mono {B:Int→Int→Prop} (h:Ag A s t) (hB:∀ k n,B k n→A k n):Ag B s t:=⟨h.lv,h.lo,h.lc,h.lg,fun i q=>h.vars i (hB _ _ q),fun i q=>h.owner i (hB _ _ q),fun i q=>h.chans i (hB _ _ q),fun i q=>h.gos i (hB _ _ q),fun q=>h.count (hB _ _ q)⟩
theorem Ag.setVar (h:Ag A s t) (i:Nat) {x y:Int} (hx:A 1 i→x=y):Ag A { s with vars:=s.vars.set i x } { t with vars:=t.vars.set i y } :=
 ⟨by show (s.vars.set i x).length=(t.vars.set i y).length;rw [List.length_set,List.length_set];exact h.lv,h.lo,h.lc,h.lg,fun j q=>zt h.lv (fun e=>hx (e▸q)) (h.vars j q),h.owner,h.chans,h.gos,h.count⟩
theorem Ag.setVar1 (h:Ag A s t) {i:Nat} (x:Int) (hx:¬A 1 i):Ag A { s with vars:=s.vars.set i x } t :=
 ⟨by show (s.vars.set i x).length=_;rw [List.length_set];exact h.lv,h.lo,h.lc,h.lg,fun j q=>xp (fun e=>hx (e▸q)) (h.vars j q),h.owner,h.chans,h.gos,h.count⟩
theorem Ag.setOwn (h:Ag A s t) (i:Nat) {x y:Int} (hx:A 2 i→x=y):Ag A { s with owner:=s.owner.set i x } { t with owner:=t.owner.set i y } :=
 ⟨h.lv,by show (s.owner.set i x).length=(t.owner.set i y).length;rw [List.length_set,List.length_set];exact h.lo,h.lc,h.lg,h.vars,fun j q=>zt h.lo (fun e=>hx (e▸q)) (h.owner j q),h.chans,h.gos,h.count⟩
theorem Ag.setOwn1 (h:Ag A s t) {i:Nat} (x:Int) (hx:¬A 2 i):Ag A { s with owner:=s.owner.set i x } t :=
 ⟨h.lv,by show (s.owner.set i x).length=_;rw [List.length_set];exact h.lo,h.lc,h.lg,h.vars,fun j q=>xp (fun e=>hx (e▸q)) (h.owner j q),h.chans,h.gos,h.count⟩
theorem Ag.setChn (h:Ag A s t) (c:Int) {x y:Chn} (hx:A 3 c.toNat→x=y):Ag A (s.setChn c x) (t.setChn c y) :=
 ⟨h.lv,h.lo,by show (s.chans.set _ x).length=(t.chans.set _ y).length;rw [List.length_set,List.length_set];exact h.lc,h.lg,h.vars,h.owner,fun j q=>zt h.lc (fun e=>hx (e▸q)) (h.chans j q),h.gos,h.count⟩
theorem Ag.setChn1 (h:Ag A s t) {c:Int} (x:Chn) (hx:¬A 3 c.toNat):Ag A (s.setChn c x) t :=
 ⟨h.lv,h.lo,by show (s.chans.set _ x).length=_;rw [List.length_set];exact h.lc,h.lg,h.vars,h.owner,fun j q=>xp (fun e=>hx (e▸q)) (h.chans j q),h.gos,h.count⟩
theorem Ag.setGor (h:Ag A s t) (i:Nat) {x y:Gor} (hx:A 5 i→x=y):Ag A { s with gos:=s.gos.set i x } { t with gos:=t.gos.set i y } :=
 ⟨h.lv,h.lo,h.lc,by show (s.gos.set i x).length=(t.gos.set i y).length;rw [List.length_set,List.length_set];exact h.lg,h.vars,h.owner,h.chans,fun j q=>zt h.lg (fun e=>hx (e▸q)) (h.gos j q),h.count⟩
theorem Ag.setGor1 (h:Ag A s t) {i:Nat} (x:Gor) (hx:¬A 5 i):Ag A { s with gos:=s.gos.set i x } t :=
 ⟨h.lv,h.lo,h.lc,by show (s.gos.set i x).length=_;rw [List.length_set];exact h.lg,h.vars,h.owner,h.chans,fun j q=>xp (fun e=>hx (e▸q)) (h.gos j q),h.count⟩
theorem Ag.setCnt (h:Ag A s t) {m n:Int} (hx:A 4 0→m=n):Ag A { s with count:=m } { t with count:=n }:=⟨h.lv,h.lo,h.lc,h.lg,h.vars,h.owner,h.chans,h.gos,hx⟩
theorem Ag.setCnt1 (h:Ag A s t) (m:Int) (hx:¬A 4 0):Ag A { s with count:=m } t:=⟨h.lv,h.lo,h.lc,h.lg,h.vars,h.owner,h.chans,h.gos,fun q=>absurd q hx⟩
theorem Ag.setReg (h:Ag A s t) {g:Int} (hg:A 5 g.toNat) (r v:Int):Ag A (s.setReg g r v) (t.setReg g r v):=by
 unfold Stt.setReg
 split
 · exact h.setGor _ (fun q=>by rw [show s.gor g=t.gor g from h.gos _ q])
 · exact h
theorem Ag.setReg1 (h:Ag A s t) {g:Int} (hg:¬A 5 g.toNat) (r v:Int):Ag A (s.setReg g r v) t:=by
 unfold Stt.setReg
 split
 · exact h.setGor1 _ hg
 · exact h
theorem Ag.setStatus (h:Ag A s t) (g v:Int):Ag A (s.setStatus g v) (t.setStatus g v):=h.setGor _ (fun q=>by rw [show s.gor g=t.gor g from h.gos _ q])
theorem Ag.setStatus1 (h:Ag A s t) {g:Int} (hg:¬A 5 g.toNat) (v:Int):Ag A (s.setStatus g v) t:=h.setGor1 _ hg
structure DAg (A:Int→Int→Prop) (d e:Did):Prop where
 s:Ag A d.s e.s
 val:d.val=e.val
 why:d.why=e.why
 to_:d.to_=e.to_
variable {p:Prg} {g:Int}
theorem QDQ (h:Ag A s t) {v w to_ c x:Int} (hc:A 3 c.toNat):DAg A (Ya p ⟨s,v,w,to_⟩ g c x) (Ya p ⟨t,v,w,to_⟩ g c x):=by
 have e:t.chn c=s.chn c:=(h.chans _ hc).symm
 unfold Ya
 simp only [e]
 split
 · exact ⟨h,rfl,rfl,rfl⟩
 split
 · exact ⟨h.setChn c (fun _=>rfl),rfl,rfl,rfl⟩
 · exact ⟨(h.setStatus g 2).setChn c (fun _=>rfl),rfl,rfl,rfl⟩
theorem QDS (h:Ag A s t) {v w to_ c r ok:Int} (hg:A 5 g.toNat) (hc:A 3 c.toNat):DAg A (XD ⟨s,v,w,to_⟩ g c r ok) (XD ⟨t,v,w,to_⟩ g c r ok):=by
 have e:t.chn c=s.chn c:=(h.chans _ hc).symm
 unfold XD
 simp only [e]
 split
 · exact ⟨((h.setChn c (fun _=>rfl)).setReg hg _ _).setReg hg _ _,rfl,rfl,rfl⟩
 split
 · exact ⟨((h.setChn c (fun _=>rfl)).setReg hg _ _).setReg hg _ _,rfl,rfl,rfl⟩
 · exact ⟨((h.setChn c (fun _=>rfl)).setReg hg _ _).setReg hg _ _,rfl,rfl,rfl⟩
theorem QGj (h:Ag A s t) {v w to_ c:Int} (hc:A 3 c.toNat):DAg A (YM ⟨s,v,w,to_⟩ c) (YM ⟨t,v,w,to_⟩ c):=by
 have e:t.chn c=s.chn c:=(h.chans _ hc).symm
 unfold YM
 simp only [e]
 split
 · exact ⟨h,rfl,rfl,rfl⟩
 split
 · exact ⟨h.setChn c (fun _=>rfl),rfl,rfl,rfl⟩
 · exact ⟨h.setChn c (fun _=>rfl),rfl,rfl,rfl⟩
theorem QGf (h:Ag A s t) {v w to_ c:Int} (hc:A 3 c.toNat):DAg A (Yh ⟨s,v,w,to_⟩ g c) (Yh ⟨t,v,w,to_⟩ g c):=by
 have e:t.chn c=s.chn c:=(h.chans _ hc).symm
 unfold Yh
 simp only [e]
 exact ⟨(h.setChn c (fun _=>rfl)).setStatus g 1,rfl,rfl,rfl⟩
theorem QGh (h:Ag A s t) {v w to_:Int} {x:Instr} (hg:A 5 g.toNat) (hn:A 4 0):DAg A (Z9 p ⟨s,v,w,to_⟩ g x) (Z9 p ⟨t,v,w,to_⟩ g x):=by
 have e:t.count=s.count:=(h.count hn).symm
 have e2:t.gor g=s.gor g:=(h.gos _ hg).symm
 unfold Z9 Z1
 simp only [e,e2]
 split
 · exact ⟨h,rfl,rfl,rfl⟩
 · exact ⟨((h.setGor s.count.toNat (fun _=>rfl)).setCnt (fun _=>rfl)).setReg hg _ _,rfl,rfl,rfl⟩
theorem QIr (h:Ag A s t) {v w to_:Int} {x:Instr} (hg:A 5 g.toNat) (h50:x.op=50→A 1 x.b.toNat) (h52:x.op=52∨x.op=53→A 1 x.b.toNat) (h56:x.op=56→A 2 x.a.toNat) (h57:x.op=57→A 2 x.b.toNat) :
 DAg A (Za ⟨s,v,w,to_⟩ g x) (Za ⟨t,v,w,to_⟩ g x):=by
 have e2:t.gor g=s.gor g:=(h.gos _ hg).symm
 unfold Za
 simp only [e2]
 split
 · rename_i q
   have e:t.vars.getD x.b.toNat 0=s.vars.getD x.b.toNat 0:=(h.vars _ (h50 q)).symm
   simp only [e]
   exact ⟨h.setReg hg _ _,rfl,rfl,rfl⟩
 split
 · exact ⟨h.setVar _ (fun _=>rfl),rfl,rfl,rfl⟩
 split
 · rename_i q
   have e:t.vars.getD x.b.toNat 0=s.vars.getD x.b.toNat 0:=(h.vars _ (h52 (.inl q))).symm
   simp only [e]
   have k:=h.setReg hg x.a (s.vars.getD x.b.toNat 0)
   exact ⟨k.setVar _ (fun q=>by rw [k.vars _ q]),rfl,rfl,rfl⟩
 split
 · rename_i q
   have e:t.vars.getD x.b.toNat 0=s.vars.getD x.b.toNat 0:=(h.vars _ (h52 (.inr q))).symm
   simp only [e]
   split
   · exact ⟨(h.setVar _ (fun _=>rfl)).setReg hg _ _,rfl,rfl,rfl⟩
   · exact ⟨h.setReg hg _ _,rfl,rfl,rfl⟩
 split
 · exact ⟨h,rfl,rfl,rfl⟩
 split
 · exact ⟨h.setOwn _ (fun _=>rfl),rfl,rfl,rfl⟩
 split
 · rename_i q
   have e:t.owner.getD x.a.toNat 0=s.owner.getD x.a.toNat 0:=(h.owner _ (h56 q)).symm
   simp only [e]
   split
   · exact ⟨h,rfl,rfl,rfl⟩
   · exact ⟨h.setOwn _ (fun _=>rfl),rfl,rfl,rfl⟩
 split
 · rename_i q
   have e:t.owner.getD x.b.toNat 0=s.owner.getD x.b.toNat 0:=(h.owner _ (h57 q)).symm
   simp only [e]
   split
   · exact ⟨(h.setOwn _ (fun _=>rfl)).setReg hg _ _,rfl,rfl,rfl⟩
   · exact ⟨h.setReg hg _ _,rfl,rfl,rfl⟩
 · exact ⟨h,rfl,rfl,rfl⟩
theorem QDR (h:Ag A s t) {v w to_ c x:Int} (hg:¬A 5 g.toNat) (hc:¬A 3 c.toNat):Ag A (Ya p ⟨s,v,w,to_⟩ g c x).s t:=by
 unfold Ya
 simp only
 split
 · exact h
 split
 · exact h.setChn1 _ hc
 · exact (h.setStatus1 hg 2).setChn1 _ hc
theorem QDT (h:Ag A s t) {v w to_ c r ok:Int} (hg:¬A 5 g.toNat) (hc:¬A 3 c.toNat):Ag A (XD ⟨s,v,w,to_⟩ g c r ok).s t:=by
 unfold XD
 simp only
 split
 · exact ((h.setChn1 _ hc).setReg1 hg _ _).setReg1 hg _ _
 split
 · exact ((h.setChn1 _ hc).setReg1 hg _ _).setReg1 hg _ _
 · exact ((h.setChn1 _ hc).setReg1 hg _ _).setReg1 hg _ _
theorem QGk (h:Ag A s t) {v w to_ c:Int} (hc:¬A 3 c.toNat):Ag A (YM ⟨s,v,w,to_⟩ c).s t:=by
 unfold YM
 simp only
 split
 · exact h
 split
 · exact h.setChn1 _ hc
 · exact h.setChn1 _ hc
theorem QGg (h:Ag A s t) {v w to_ c:Int} (hg:¬A 5 g.toNat) (hc:¬A 3 c.toNat):Ag A (Yh ⟨s,v,w,to_⟩ g c).s t:=(h.setChn1 _ hc).setStatus1 hg 1
theorem QGi (h:Ag A s t) {v w to_:Int} {x:Instr} (hg:¬A 5 g.toNat) (hn:¬A 4 0) (hk:s.count<6→¬A 5 s.count.toNat):Ag A (Z9 p ⟨s,v,w,to_⟩ g x).s t:=by
 unfold Z9
 simp only
 split
 · exact h
 · exact ((h.setGor1 _ (hk (by omega))).setCnt1 _ hn).setReg1 hg _ _
theorem QIs (h:Ag A s t) {v w to_:Int} {x:Instr} (hg:¬A 5 g.toNat) (h51:x.op=51→¬A 1 x.a.toNat) (h52:x.op=52∨x.op=53→¬A 1 x.b.toNat) (h55:x.op=55∨x.op=56→¬A 2 x.a.toNat) (h57:x.op=57→¬A 2 x.b.toNat) :
 Ag A (Za ⟨s,v,w,to_⟩ g x).s t:=by
 unfold Za
 simp only
 split
 · exact h.setReg1 hg _ _
 split
 · rename_i q;exact h.setVar1 _ (h51 q)
 split
 · rename_i q;exact (h.setReg1 hg _ _).setVar1 _ (h52 (.inl q))
 split
 · rename_i q
   split
   · exact (h.setVar1 _ (h52 (.inr q))).setReg1 hg _ _
   · exact h.setReg1 hg _ _
 split
 · exact h
 split
 · rename_i q;exact h.setOwn1 _ (h55 (.inl q))
 split
 · rename_i q
   split
   · exact h
   · exact h.setOwn1 _ (h55 (.inr q))
 split
 · rename_i q
   split
   · exact (h.setOwn1 _ (h57 q)).setReg1 hg _ _
   · exact h.setReg1 hg _ _
 · exact h
end
end Go.Eng
namespace Go.Eng
def Tch (l:List Access) (k n:Int):Prop:=∃ a∈l,a.kind=k∧a.num=n
def Wrt (l:List Access) (k n:Int):Prop:=∃ a∈l,a.kind=k∧a.num=n∧a.write=true
theorem Wrt.tch {l:List Access} {k n:Int} (h:Wrt l k n):Tch l k n:=let ⟨a,h1,h2,h3,_⟩:=h;⟨a,h1,h2,h3⟩
theorem QCO (k n:Int) (w:Bool):∀ l:List Access,∃ y∈add k n w l,y.kind=k∧y.num=n∧(w=true→y.write=true)
 | []=>⟨⟨k,n,w⟩,by simp [add],rfl,rfl,id⟩
 | x::l=>by
   unfold add
   split
   · rename_i h;exact ⟨_,List.mem_cons_self,h.1,h.2,fun q=>by simp [q]⟩
   split
   · exact ⟨_,List.mem_cons_self,rfl,rfl,id⟩
   · obtain ⟨y,hy,h⟩:=QCO k n w l
     exact ⟨y,List.mem_cons_of_mem _ hy,h⟩
theorem QCN (k n:Int) (w:Bool):∀ {l:List Access} {x:Access},x∈l→∃ y∈add k n w l,y.kind=x.kind∧y.num=x.num∧(x.write=true→y.write=true)
 | [],x,h=>by cases h
 | z::l,x,h=>by
   unfold add
   rcases List.mem_cons.1 h with e|h
   · subst e
     split
     · exact ⟨_,List.mem_cons_self,rfl,rfl,fun q=>by simp [q]⟩
     split
     · exact ⟨_,List.mem_cons_of_mem _ List.mem_cons_self,rfl,rfl,id⟩
     · exact ⟨_,List.mem_cons_self,rfl,rfl,id⟩
   · split
     · exact ⟨x,List.mem_cons_of_mem _ h,rfl,rfl,id⟩
     split
     · exact ⟨x,List.mem_cons_of_mem _ (List.mem_cons_of_mem _ h),rfl,rfl,id⟩
     · obtain ⟨y,hy,q⟩:=QCN k n w h
       exact ⟨y,List.mem_cons_of_mem _ hy,q⟩
theorem Tch.new (k n:Int) (w:Bool) (l:List Access):Tch (add k n w l) k n:=let ⟨y,h1,h2,h3,_⟩:=QCO k n w l;⟨y,h1,h2,h3⟩
theorem Wrt.new (k n:Int) (l:List Access):Wrt (add k n true l) k n:=let ⟨y,h1,h2,h3,h4⟩:=QCO k n true l;⟨y,h1,h2,h3,h4 rfl⟩
theorem Tch.old {l:List Access} {k' n':Int} (h:Tch l k' n') (k n:Int) (w:Bool):Tch (add k n w l) k' n':=by
 obtain ⟨x,hx,rfl,rfl⟩:=h
 obtain ⟨y,h1,h2,h3,_⟩:=QCN k n w hx
 exact ⟨y,h1,h2,h3⟩
theorem Wrt.old {l:List Access} {k' n':Int} (h:Wrt l k' n') (k n:Int) (w:Bool):Wrt (add k n w l) k' n':=by
 obtain ⟨x,hx,rfl,rfl,e⟩:=h
 obtain ⟨y,h1,h2,h3,h4⟩:=QCN k n w hx
 exact ⟨y,h1,h2,h3,h4 e⟩
theorem Wrt.chans (q:Sel):∀ (n:Nat) {l:List Access} {k m:Int},Wrt l k m→Wrt (ZV q n l) k m
 | 0,l,k,m,h=>h
 | n+1,l,k,m,h=>by
   by_cases hn:n<q.cases.length
   · unfold ZV
     rw [List.take_succ_eq_append_getElem hn,List.foldl_append]
     exact (Wrt.chans q n h).old _ _ _
   · have:=Wrt.chans q n h
     unfold ZV at this ⊢
     rw [List.take_of_length_le (by omega)] at this ⊢
     exact this
theorem Wrt.chan (q:Sel):∀ (n:Nat) (l:List Access) {i:Nat},i<n→n≤q.cases.length→Wrt (ZV q n l) 3 (q.cases.getD i default).chan
 | 0,_,_,h,_=>by omega
 | n+1,l,i,h,hn=>by
   unfold ZV
   rw [List.take_succ_eq_append_getElem (by omega:n<q.cases.length),List.foldl_append]
   by_cases e:i=n
   · subst e
     rw [List.getD_eq_getElem?_getD,List.getElem?_eq_getElem (by omega:i<q.cases.length)]
     exact Wrt.new _ _ _
   · exact (Wrt.chan q n l (by omega) (by omega)).old _ _ _
structure Foot (A B:Int→Int→Prop) (p:Prg) (s:Stt) (g:Int):Prop where
 own:B 5 g
 c50:QO p s g=50→A 1 (QB p s g).b
 c54:QO p s g=54→A 1 (QB p s g).a
 c51:QO p s g=51→B 1 (QB p s g).a
 c52:QO p s g=52∨QO p s g=53→B 1 (QB p s g).b
 c55:QO p s g=55∨QO p s g=56→B 2 (QB p s g).a
 c57:QO p s g=57→B 2 (QB p s g).b
 c58:QO p s g=58∨QO p s g=60∨QO p s g=66→B 3 (QB p s g).a
 c59:QO p s g=59→B 3 (QB p s g).b
 c61:QO p s g=61→∀ i,i<(Qu p s g).cases.length→B 3 ((Qu p s g).cases.getD i default).chan
 c62:QO p s g=62→B 4 0∧(s.count<6→B 5 s.count)
 c63:QO p s g=63→A 4 0∧(0≤(s.gor g).reg (QB p s g).a∧(s.gor g).reg (QB p s g).a<s.count→A 5 ((s.gor g).reg (QB p s g).a))
theorem Wrt.base (g:Int):Wrt [⟨5,g,true⟩] 5 g:=⟨_,List.mem_cons_self,rfl,rfl,rfl⟩
section
variable (p:Prg) (s:Stt) (g:Int)
theorem QJg (h:QO p s g=50):touch p s g=add 1 (QB p s g).b false [⟨5,g,true⟩]:=if_pos h
theorem QJd (h:QO p s g=54):touch p s g=add 1 (QB p s g).a false [⟨5,g,true⟩]:=(if_neg (by omega)).trans (if_pos h)
theorem QJf (h:QO p s g=51):touch p s g=add 1 (QB p s g).a true [⟨5,g,true⟩]:=(if_neg (by omega)).trans ((if_neg (by omega)).trans (if_pos h))
theorem QJe (h:QO p s g=52∨QO p s g=53):touch p s g=add 1 (QB p s g).b true [⟨5,g,true⟩]:=(if_neg (by omega)).trans ((if_neg (by omega)).trans ((if_neg (by omega)).trans (if_pos h)))
theorem QJc (h:QO p s g=55∨QO p s g=56):touch p s g=add 2 (QB p s g).a true [⟨5,g,true⟩]:=(if_neg (by omega)).trans ((if_neg (by omega)).trans ((if_neg (by omega)).trans ((if_neg (by omega)).trans (if_pos h))))
theorem QJb (h:QO p s g=57):touch p s g=add 2 (QB p s g).b true [⟨5,g,true⟩]:=(if_neg (by omega)).trans ((if_neg (by omega)).trans ((if_neg (by omega)).trans ((if_neg (by omega)).trans ((if_neg (by omega)).trans (if_pos h)))))
theorem QJa (h:QO p s g=58∨QO p s g=60∨QO p s g=66):touch p s g=add 3 (QB p s g).a true [⟨5,g,true⟩]:=(if_neg (by omega)).trans ((if_neg (by omega)).trans ((if_neg (by omega)).trans ((if_neg (by omega)).trans ((if_neg (by omega)).trans ((if_neg (by omega)).trans (if_pos h))))))
theorem QJZ (h:QO p s g=59):touch p s g=add 3 (QB p s g).b true [⟨5,g,true⟩]:=(if_neg (by omega)).trans ((if_neg (by omega)).trans ((if_neg (by omega)).trans ((if_neg (by omega)).trans ((if_neg (by omega)).trans ((if_neg (by omega)).trans ((if_neg (by omega)).trans (if_pos h)))))))
theorem QJY (h:QO p s g=61):touch p s g=ZV (Qu p s g) (Qu p s g).cases.length [⟨5,g,true⟩]:=(if_neg (by omega)).trans ((if_neg (by omega)).trans ((if_neg (by omega)).trans ((if_neg (by omega)).trans ((if_neg (by omega)).trans ((if_neg (by omega)).trans ((if_neg (by omega)).trans ((if_neg (by omega)).trans (if_pos h))))))))
theorem QBQ (h:QO p s g=62):touch p s g=if s.count<6 then add 5 s.count true (add 4 0 true [⟨5,g,true⟩]) else add 4 0 true [⟨5,g,true⟩]:=(if_neg (by omega)).trans ((if_neg (by omega)).trans ((if_neg (by omega)).trans ((if_neg (by omega)).trans ((if_neg (by omega)).trans ((if_neg (by omega)).trans ((if_neg (by omega)).trans ((if_neg (by omega)).trans ((if_neg (by omega)).trans (if_pos h)))))))))
theorem QBP (h:QO p s g=63):touch p s g=if 0≤(s.gor g).reg (QB p s g).a∧(s.gor g).reg (QB p s g).a<s.count then add 5 ((s.gor g).reg (QB p s g).a) false (add 4 0 false [⟨5,g,true⟩]) else add 4 0 false [⟨5,g,true⟩]:=(if_neg (by omega)).trans ((if_neg (by omega)).trans ((if_neg (by omega)).trans ((if_neg (by omega)).trans ((if_neg (by omega)).trans ((if_neg (by omega)).trans ((if_neg (by omega)).trans ((if_neg (by omega)).trans ((if_neg (by omega)).trans ((if_neg (by omega)).trans (if_pos h))))))))))
theorem QFp:Wrt (touch p s g) 5 g:=by
 have hb:=Wrt.base g
 have I:∀ {c:Prop} [Decidable c] {a b:List Access},Wrt a 5 g→Wrt b 5 g→Wrt (if c then a else b) 5 g:=fun h1 h2=>by split<;>assumption
 exact I (hb.old _ _ _) (I (hb.old _ _ _) (I (hb.old _ _ _) (I (hb.old _ _ _) (I (hb.old _ _ _) (I (hb.old _ _ _) (I (hb.old _ _ _) (I (hb.old _ _ _) (I (hb.chans _ _) (I (I ((hb.old _ _ _).old _ _ _) (hb.old _ _ _)) (I (I ((hb.old _ _ _).old _ _ _) (hb.old _ _ _)) (I (hb.old _ _ _) hb)))))))))))
theorem Xf:Foot (Tch (touch p s g)) (Wrt (touch p s g)) p s g where
 own:=QFp p s g
 c50 h:=by rw [QJg p s g h];exact Tch.new _ _ _ _
 c54 h:=by rw [QJd p s g h];exact Tch.new _ _ _ _
 c51 h:=by rw [QJf p s g h];exact Wrt.new _ _ _
 c52 h:=by rw [QJe p s g h];exact Wrt.new _ _ _
 c55 h:=by rw [QJc p s g h];exact Wrt.new _ _ _
 c57 h:=by rw [QJb p s g h];exact Wrt.new _ _ _
 c58 h:=by rw [QJa p s g h];exact Wrt.new _ _ _
 c59 h:=by rw [QJZ p s g h];exact Wrt.new _ _ _
 c61 h i hi:=by rw [QJY p s g h];exact Wrt.chan _ _ _ hi (Nat.le_refl _)
 c62 h:=by
  rw [QBQ p s g h]
  split
  · exact ⟨(Wrt.new _ _ _).old _ _ _,fun _=>Wrt.new _ _ _⟩
  · rename_i q;exact ⟨Wrt.new _ _ _,fun q'=>absurd q' q⟩
 c63 h:=by
  rw [QBP p s g h]
  split
  · exact ⟨(Tch.new _ _ _ _).old _ _ _,fun _=>Tch.new _ _ _ _⟩
  · rename_i q;exact ⟨Tch.new _ _ _ _,fun q'=>absurd q' q⟩
end
end Go.Eng
namespace Go.Eng
section
variable {A B:Int→Int→Prop} {s t:Stt} {p:Prg} {g:Int}
theorem WW {c:Prop} [Decidable c] {a b a' b':Did} (h1:c→DAg A a a') (h2:¬c→DAg A b b'):DAg A (if c then a else b) (if c then a' else b'):=by
 by_cases h:c
 · rw [if_pos h,if_pos h];exact h1 h
 · rw [if_neg h,if_neg h];exact h2 h
theorem xd (n:Int) (h:0≤n) {k:Int} (hA:A k n):A k (n.toNat:Int):=by rw [Int.toNat_of_nonneg h];exact hA
structure Stand (p:Prg) (s t:Stt) (g:Int):Prop where
 gor:t.gor g=s.gor g
 ins:QB p t g=QB p s g
 op:QO p t g=QO p s g
 sel:Qu p t g=Qu p s g
theorem Stand.of (h:s.gor g=t.gor g):Stand p s t g:=by
 have ei:QB p t g=QB p s g:=by unfold QB;rw [h]
 exact ⟨h.symm,ei,by unfold QO;rw [h,ei],by unfold Qu;rw [h,ei]⟩
theorem QCz (h:QO p s g≠66):QO p s g=(QB p s g).op:=by
 unfold QO at h ⊢
 by_cases hs:(s.gor g).status=2
 · rw [if_pos hs] at h;exact absurd rfl h
 · rw [if_neg hs]
structure Opers (p:Prg) (s:Stt) (g:Int):Prop where
 o50:QO p s g=50→0≤(QB p s g).b
 o54:QO p s g=54→0≤(QB p s g).a
 o51:QO p s g=51→0≤(QB p s g).a
 o52:QO p s g=52∨QO p s g=53→0≤(QB p s g).b
 o55:QO p s g=55∨QO p s g=56→0≤(QB p s g).a
 o57:QO p s g=57→0≤(QB p s g).b
 o58:QO p s g=58∨QO p s g=60∨QO p s g=66→0≤(QB p s g).a
 o59:QO p s g=59→0≤(QB p s g).b
 o61:QO p s g=61→∀ i,i<(Qu p s g).cases.length→0≤((Qu p s g).cases.getD i default).chan
theorem QE2 (hok:p.Ok) (hw:Wf p s) (hg:0≤g∧g<s.count):Opers p s g:=by
 have hgi:=hw.gos g hg.1 hg.2
 have hrt:Qa p (p.funcs.getD (s.gos.getD g.toNat default).func.toNat default) (QB p s g)=0:=hw.right hok hg.1 hg.2
 have opc:∀ {k:Int},QO p s g=k→k≠66→(QB p s g).op=k:=fun h hk=>hw.op_at hok hg.1 hg.2 h hk
 refine ⟨fun h=>(QCb hrt (opc h (by decide))).2.1,fun h=>(QCX hrt (opc h (by decide))).1.1,fun h=>(QCa hrt (opc h (by decide))).1.1,fun h=>?_,fun h=>?_,fun h=>(QCW hrt (opc h (by decide))).2.1,fun h=>?_,fun h=>(xD hrt (opc h (by decide))).2.1.1,fun h i hi=>?_⟩
 · rcases h with h|h
   · exact (QCZ hrt (opc h (by decide))).2.1.1
   · exact (QCY hrt (opc h (by decide))).2.1.1
 · exact (xy hrt (by rcases h with h|h;exact .inl (opc h (by decide));exact .inr (opc h (by decide)))).1
 · rcases h with h|h|h
   · exact (Uo hrt (opc h (by decide))).1.1
   · exact (QCV hrt (opc h (by decide))).1
   · exact (Uo hrt (hw.op66 hok hg.1 hg.2 h)).1.1
 · have hI:=zm hrt (opc h (by decide))
   exact (qo hok (i:=(s.gos.getD g.toNat default).func.toNat) (j:=(QB p s g).a.toNat) (k:=i) (by have:=hgi.f0;have:=hgi.f1;omega) (by omega) hi).chan.1
theorem QFk (h:Ag A s t) (hF:Foot A B p s g) (hBA:∀ k n,B k n→A k n) (hO:Opers p s g) (hg0:0≤g) {alt:Int} (ha:alt∈Qr p s g):DAg A (QV p s g alt) (QV p t g alt):=by
 have hg:A 5 g.toNat:=xd g hg0 (hBA _ _ hF.own)
 obtain ⟨eg,ei,eo,es⟩:=Stand.of (p:=p) (h.gos g.toNat hg)
 unfold QV
 simp only [eg,ei,eo,es]
 refine WW (fun h66=>QGf h (xd _ (hO.o58 (.inr (.inr h66))) (hBA _ _ (hF.c58 (.inr (.inr h66)))))) (fun n66=>?_)
 refine WW (fun h58=>QDQ h (xd _ (hO.o58 (.inl h58)) (hBA _ _ (hF.c58 (.inl h58))))) (fun n58=>?_)
 refine WW (fun h59=>QDS h hg (xd _ (hO.o59 h59) (hBA _ _ (hF.c59 h59)))) (fun n59=>?_)
 refine WW (fun h60=>QGj h (xd _ (hO.o58 (.inr (.inl h60))) (hBA _ _ (hF.c58 (.inr (.inl h60)))))) (fun n60=>?_)
 refine WW (fun h62=>QGh h hg (hBA _ _ (hF.c62 h62).1)) (fun n62=>?_)
 refine WW (fun h63=>?_) (fun n63=>?_)
 · rw [← h.count (hF.c63 h63).1]
   exact WW (fun _=>⟨h,rfl,rfl,rfl⟩) (fun _=>⟨h,rfl,rfl,rfl⟩)
 refine WW (fun _=>⟨h,rfl,rfl,rfl⟩) (fun n65=>?_)
 refine WW (fun h61=>?_) (fun n61=>?_)
 · refine WW (fun _=>⟨h,rfl,rfl,rfl⟩) (fun hn=>?_)
   rcases vU ha h61 with q|⟨k,rfl,hk,_⟩
   · exact absurd q hn
   · rw [Int.toNat_natCast]
     have hc:A 3 (((Qu p s g).cases.getD k default).chan.toNat:Int):=xd _ (hO.o61 h61 k hk) (hBA _ _ (hF.c61 h61 k hk))
     split
     · exact QDQ h hc
     · exact QDS h hg hc
 · have e:=QCz n66
   refine QIr h hg (fun q=>?_) (fun q=>?_) (fun q=>?_) (fun q=>?_)
   · exact xd _ (hO.o50 (e.trans q)) (hF.c50 (e.trans q))
   · exact xd _ (hO.o52 (by rw [e];exact q)) (hBA _ _ (hF.c52 (by rw [e];exact q)))
   · exact xd _ (hO.o55 (.inr (e.trans q))) (hBA _ _ (hF.c55 (.inr (e.trans q))))
   · exact xd _ (hO.o57 (e.trans q)) (hBA _ _ (hF.c57 (e.trans q)))
theorem yr (n:Int) (h:0≤n) {k:Int} (hB:B k n) (hBA:∀ k n,B k n→¬A k n):¬A k (n.toNat:Int):=by rw [Int.toNat_of_nonneg h];exact hBA _ _ hB
theorem QFl {C:Int→Int→Prop} (hF:Foot C B p s g) (hBA:∀ k n,B k n→¬A k n) (hO:Opers p s g) (hg0:0≤g) (hc0:0≤s.count) {alt:Int} (ha:alt∈Qr p s g):Ag A (QV p s g alt).s s:=by
 have hg:¬A 5 g.toNat:=yr g hg0 hF.own hBA
 have h:Ag A s s:=Ag.refl s
 unfold QV
 refine Qd (q:=fun u=>Ag A u s) (fun h66=>QGg h hg (yr _ (hO.o58 (.inr (.inr h66))) (hF.c58 (.inr (.inr h66))) hBA)) (fun n66=>?_)
 refine Qd (q:=fun u=>Ag A u s) (fun h58=>QDR h hg (yr _ (hO.o58 (.inl h58)) (hF.c58 (.inl h58)) hBA)) (fun n58=>?_)
 refine Qd (q:=fun u=>Ag A u s) (fun h59=>QDT h hg (yr _ (hO.o59 h59) (hF.c59 h59) hBA)) (fun n59=>?_)
 refine Qd (q:=fun u=>Ag A u s) (fun h60=>QGk h (yr _ (hO.o58 (.inr (.inl h60))) (hF.c58 (.inr (.inl h60))) hBA)) (fun n60=>?_)
 refine Qd (q:=fun u=>Ag A u s) (fun h62=>QGi h hg (hBA _ _ (hF.c62 h62).1) (fun q=>yr _ hc0 ((hF.c62 h62).2 q) hBA)) (fun n62=>?_)
 refine Qd (q:=fun u=>Ag A u s) (fun h63=>Qd (q:=fun u=>Ag A u s) (fun _=>h) (fun _=>h)) (fun n63=>?_)
 refine Qd (q:=fun u=>Ag A u s) (fun _=>h) (fun n65=>?_)
 refine Qd (q:=fun u=>Ag A u s) (fun h61=>?_) (fun n61=>?_)
 · refine Qd (q:=fun u=>Ag A u s) (fun _=>h) (fun hn=>?_)
   rcases vU ha h61 with q|⟨k,rfl,hk,_⟩
   · exact absurd q hn
   · rw [Int.toNat_natCast]
     have hc:¬A 3 (((Qu p s g).cases.getD k default).chan.toNat:Int):=yr _ (hO.o61 h61 k hk) (hF.c61 h61 k hk) hBA
     exact Qd (q:=fun u=>Ag A u s) (fun _=>QDR h hg hc) (fun _=>QDT h hg hc)
 · have e:=QCz n66
   refine QIs h hg (fun q=>?_) (fun q=>?_) (fun q=>?_) (fun q=>?_)
   · exact yr _ (hO.o51 (e.trans q)) (hF.c51 (e.trans q)) hBA
   · exact yr _ (hO.o52 (by rw [e];exact q)) (hF.c52 (by rw [e];exact q)) hBA
   · exact yr _ (hO.o55 (by rw [e];exact q)) (hF.c55 (by rw [e];exact q)) hBA
   · exact yr _ (hO.o57 (e.trans q)) (hF.c57 (e.trans q)) hBA
theorem QEx (h:Ag A s t) {c:Int} (hc:A 3 c.toNat):WI p t c=WI p s c:=by
 have e:t.chn c=s.chn c:=(h.chans _ hc).symm
 unfold WI;rw [e]
theorem wW (h:Ag A s t) {c:Int} (hc:A 3 c.toNat):We t c=We s c:=by
 have e:t.chn c=s.chn c:=(h.chans _ hc).symm
 unfold We;rw [e]
theorem QJr (h:Ag A s t) (hF:Foot A B p s g) (hBA:∀ k n,B k n→A k n) (hO:Opers p s g) (hg0:0≤g):plain p t g=plain p s g:=by
 have hg:A 5 g.toNat:=xd g hg0 (hBA _ _ hF.own)
 obtain ⟨eg,ei,eo,es⟩:=Stand.of (p:=p) (h.gos g.toNat hg)
 unfold plain
 simp only [eg,ei,eo]
 by_cases h54:QO p s g=54
 · rw [if_pos h54,if_pos h54,h.vars _ (xd _ (hO.o54 h54) (hF.c54 h54))]
 rw [if_neg h54,if_neg h54]
 by_cases h55:QO p s g=55
 · rw [if_pos h55,if_pos h55,h.owner _ (xd _ (hO.o55 (.inl h55)) (hBA _ _ (hF.c55 (.inl h55))))]
 rw [if_neg h55,if_neg h55]
 by_cases h58:QO p s g=58
 · rw [if_pos h58,if_pos h58,QEx h (xd _ (hO.o58 (.inl h58)) (hBA _ _ (hF.c58 (.inl h58))))]
 rw [if_neg h58,if_neg h58]
 by_cases h59:QO p s g=59
 · rw [if_pos h59,if_pos h59,wW h (xd _ (hO.o59 h59) (hBA _ _ (hF.c59 h59)))]
 rw [if_neg h59,if_neg h59]
 by_cases h66:QO p s g=66
 · have e:t.chn (QB p s g).a=s.chn (QB p s g).a:=(h.chans _ (xd _ (hO.o58 (.inr (.inr h66))) (hBA _ _ (hF.c58 (.inr (.inr h66)))))).symm
   rw [if_pos h66,if_pos h66,e]
 rw [if_neg h66,if_neg h66]
 by_cases h63:QO p s g=63
 · have hc:=h.count (hF.c63 h63).1
   have hk:=(hF.c63 h63).2
   rw [if_pos h63,if_pos h63]
   generalize (s.gor g).reg (QB p s g).a=k at *
   rw [← hc]
   by_cases q:0≤k∧k<s.count
   · have e:t.gor k=s.gor k:=(h.gos _ (xd _ q.1 (hk q))).symm
     have e2:Z8 t k=Z8 s k:=by unfold Z8;rw [e,← hc]
     rw [e2]
   · by_cases q0:k<0
     · rw [decide_eq_true q0];simp
     · rw [decide_eq_true (show s.count≤k by omega)];simp
 rw [if_neg h63,if_neg h63]
theorem QGr (h:Ag A s t) {q:Sel} (hq:∀ i,i<q.cases.length→A 3 (q.cases.getD i default).chan.toNat):ZT p t q q.cases.length=ZT p s q q.cases.length:=by
 unfold ZT
 congr 1
 refine List.filter_congr fun i hi=>?_
 have:=List.mem_range.1 hi
 unfold WQ
 rw [QEx h (hq i this),wW h (hq i this)]
theorem QEj (h:Ag A s t) (hF:Foot A B p s g) (hBA:∀ k n,B k n→A k n) (hO:Opers p s g) (hg:0≤g∧g<s.count) (hgt:g<t.count):Qr p t g=Qr p s g:=by
 have hgA:A 5 g.toNat:=xd g hg.1 (hBA _ _ hF.own)
 obtain ⟨eg,ei,eo,es⟩:=Stand.of (p:=p) (h.gos g.toNat hgA)
 have el:Z8 t g=Z8 s g:=by
  unfold Z8
  rw [eg,decide_eq_true hgt,decide_eq_true hg.2]
 unfold Qr
 simp only [el,eo,es]
 by_cases hl:Z8 s g=true
 · rw [if_pos hl,if_pos hl]
   by_cases h61:QO p s g=61
   · rw [if_pos h61,if_pos h61,QGr h (fun i hi=>xd _ (hO.o61 h61 i hi) (hBA _ _ (hF.c61 h61 i hi)))]
   · rw [if_neg h61,if_neg h61,QJr h hF hBA hO hg.1]
 · rw [if_neg hl,if_neg hl]
theorem QBO (h:Ag A s t) (hF:Foot A B p s g) (hBA:∀ k n,B k n→A k n) (hg0:0≤g):touch p t g=touch p s g:=by
 have hgA:A 5 g.toNat:=xd g hg0 (hBA _ _ hF.own)
 obtain ⟨eg,ei,eo,es⟩:=Stand.of (p:=p) (h.gos g.toNat hgA)
 by_cases h62:QO p s g=62
 · rw [QBQ p s g h62,QBQ p t g (eo.trans h62),h.count (hBA _ _ (hF.c62 h62).1)]
 by_cases h63:QO p s g=63
 · rw [QBP p s g h63,QBP p t g (eo.trans h63),h.count (hF.c63 h63).1,eg,ei]
 unfold touch
 simp only [eg,ei,eo,es,if_neg h62,if_neg h63]
theorem QKI (h:Ag A s t) {x:Pck} (hF:Foot A B p s x.go) (hBA:∀ k n,B k n→A k n) (hg0:0≤x.go) (v:Int):event p t x v=event p s x v:=by
 have hgA:A 5 x.go.toNat:=xd x.go hg0 (hBA _ _ hF.own)
 obtain ⟨eg,ei,eo,es⟩:=Stand.of (p:=p) (h.gos x.go.toNat hgA)
 unfold event
 rw [eg,ei,eo,QBO h hF hBA hg0]
def Ux (apply:Int→Int→Int→Int × Int) (p:Prg) (fuel:Int) (g:Int) (s:Stt):Stt:=if (s.gor g).status=1∨(s.gor g).status=5 then { s with gos:=s.gos.set g.toNat (X8 apply p (s.gor g) fuel) } else s
variable {apply:Int→Int→Int→Int × Int} {fuel:Int}
theorem QHX (h:Ag A s t) (hg:A 5 g.toNat):Ag A (Ux apply p fuel g s) (Ux apply p fuel g t):=by
 have e:t.gor g=s.gor g:=(h.gos _ hg).symm
 unfold Ux
 simp only [e]
 split
 · exact h.setGor _ (fun _=>rfl)
 · exact h
theorem QHY (h:Ag A s t) (hg:¬A 5 g.toNat):Ag A (Ux apply p fuel g s) t:=by
 unfold Ux
 split
 · exact h.setGor1 _ hg
 · exact h
theorem xo (hap:WF apply) (hr:QT p=true) (hok:p.Ok) (hv:Vld p s) {x:Pck} (ha:x.alt∈Qr p s x.go) (hf:0≤fuel∧fuel≤4096) :
 take apply p s x fuel=(let d:=QV p s x.go x.alt
  if d.why≠0 then (W4 d x.go,event p s x 0) else if d.to_<0 then (d.s,event p s x d.val)
  else (if s.count<d.s.count then Ux apply p fuel s.count (Ux apply p fuel x.go (Zs d x.go)) else Ux apply p fuel x.go (Zs d x.go),event p s x d.val)):=by
 have hg:=(live_iff.1 (ZU ha)).1
 have hd:=zJ hok hr hv ha
 have ht:take apply p s x fuel=(let d:=QV p s x.go x.alt
  if d.why≠0 then (W4 d x.go,event p s x 0) else if d.to_<0 then (d.s,event p s x d.val)
  else (if s.count<(Q6 apply p (Zs d x.go) x.go fuel).1.count then (Q6 apply p (Q6 apply p (Zs d x.go) x.go fuel).1 s.count fuel).1 else (Q6 apply p (Zs d x.go) x.go fuel).1,event p s x d.val)):=rfl
 rw [ht]
 simp only
 by_cases hw:(QV p s x.go x.alt).why≠0
 · rw [if_pos hw,if_pos hw]
 rw [if_neg hw,if_neg hw]
 by_cases h0:(QV p s x.go x.alt).to_<0
 · rw [if_pos h0,if_pos h0]
 rw [if_neg h0,if_neg h0]
 have hw:(QV p s x.go x.alt).why=0:=by simpa using hw
 have hvA:=qL hg hd hw (by omega)
 have hcA:(Zs (QV p s x.go x.alt) x.go).count=(QV p s x.go x.alt).s.count:=rfl
 have hgA:0≤x.go∧x.go<(Zs (QV p s x.go x.alt) x.go).count:=⟨hg.1,by rw [hcA];have:=hd.cnt;omega⟩
 have e1:(Q6 apply p (Zs (QV p s x.go x.alt) x.go) x.go fuel).1=Ux apply p fuel x.go (Zs (QV p s x.go x.alt) x.go):=qU hr hok hvA hgA hf
 have hS:=qT hap hr hok hvA hgA hf
 have hK:=(zr (apply:=apply) hr hok hvA hgA hf).2.2.2.1
 rw [hK,hcA]
 rw [e1] at hS hK ⊢
 by_cases hc:s.count<(QV p s x.go x.alt).s.count
 · rw [if_pos hc,if_pos hc]
   have e2:(Q6 apply p (Ux apply p fuel x.go (Zs (QV p s x.go x.alt) x.go)) s.count fuel).1=Ux apply p fuel s.count (Ux apply p fuel x.go (Zs (QV p s x.go x.alt) x.go)):=qU hr hok hS ⟨by have:=hv.count;omega,by rw [hK,hcA];exact hc⟩ hf
   rw [e2]
 · rw [if_neg hc,if_neg hc]
end
end Go.Eng
namespace Go.Eng
section
variable {A B:Int→Int→Prop} {s t:Stt} {p:Prg} {g:Int}
theorem Un (h62:QO p s g≠62) (alt:Int):(QV p s g alt).s.count=s.count:=by
 unfold QV
 refine Qd (q:=fun u=>u.count=s.count) (fun _=>rfl) (fun n66=>?_)
 refine Qd (q:=fun u=>u.count=s.count) (fun _=>(Wk p (⟨s,0,0,(s.gor g).pc+1⟩:Did) _ _ _).count) (fun n58=>?_)
 refine Qd (q:=fun u=>u.count=s.count) (fun _=>(Wl (⟨s,0,0,(s.gor g).pc+1⟩:Did) _ _ _ _).count) (fun n59=>?_)
 refine Qd (q:=fun u=>u.count=s.count) (fun _=>(UU (⟨s,0,0,(s.gor g).pc+1⟩:Did) _).count) (fun n60=>?_)
 refine Qd (q:=fun u=>u.count=s.count) (fun q=>absurd q h62) (fun n62=>?_)
 refine Qd (q:=fun u=>u.count=s.count) (fun _=>Qd (q:=fun u=>u.count=s.count) (fun _=>rfl) (fun _=>rfl)) (fun n63=>?_)
 refine Qd (q:=fun u=>u.count=s.count) (fun _=>rfl) (fun n65=>?_)
 refine Qd (q:=fun u=>u.count=s.count) (fun _=>?_) (fun n61=>UT _ _ _)
 refine Qd (q:=fun u=>u.count=s.count) (fun _=>rfl) (fun hn=>?_)
 exact Qd (q:=fun u=>u.count=s.count) (fun _=>(Wk p ⟨s,0,0,((Qu p s g).cases.getD alt.toNat default).to_⟩ _ _ _).count) (fun _=>(Wl ⟨s,0,0,((Qu p s g).cases.getD alt.toNat default).to_⟩ _ _ _ _).count)
theorem QDt (h:QO p s g=62) (alt:Int):QV p s g alt=Z9 p ⟨s,0,0,(s.gor g).pc+1⟩ g (QB p s g):=(if_neg (by omega)).trans ((if_neg (by omega)).trans ((if_neg (by omega)).trans ((if_neg (by omega)).trans (if_pos h))))
theorem zl {alt:Int} (h:s.count<(QV p s g alt).s.count):QO p s g=62∧s.count<6:=by
 by_cases h62:QO p s g=62
 · refine ⟨h62,?_⟩
   rw [QDt h62] at h
   by_cases h6:6≤s.count
   · rw [show Z9 p ⟨s,0,0,(s.gor g).pc+1⟩ g (QB p s g)=_ from if_pos h6] at h
     exact absurd h (Int.lt_irrefl _)
   · omega
 · rw [Un h62] at h
   exact absurd h (Int.lt_irrefl _)
variable {apply:Int→Int→Int→Int × Int} {fuel:Int}
theorem QDM {d e:Did} (h:DAg A d e) (g:Int):Ag A (W4 d g) (W4 e g):=by
 unfold W4
 exact h.s.setGor _ (fun q=>by rw [show d.s.gor g=e.s.gor g from h.s.gos _ q,h.why])
theorem QEl {d e:Did} (h:DAg A d e) (g:Int):Ag A (Zs d g) (Zs e g):=by
 unfold Zs
 exact h.s.setGor _ (fun q=>by rw [show d.s.gor g=e.s.gor g from h.s.gos _ q,h.to_])
theorem QL5 (hap:WF apply) (hr:QT p=true) (hok:p.Ok) (hs:Vld p s) (ht:Vld p t) {x:Pck} (ha:x.alt∈Qr p s x.go) (hf:0≤fuel∧fuel≤4096)
 (h:Ag A s t) (hF:Foot A B p s x.go) (hBA:∀ k n,B k n→A k n) (hgt:x.go<t.count) :
 x.alt∈Qr p t x.go∧Ag A (take apply p s x fuel).1 (take apply p t x fuel).1∧(take apply p t x fuel).2=(take apply p s x fuel).2:=by
 have hg:=(live_iff.1 (ZU ha)).1
 have hO:=QE2 hok (hs.wf hok hr) hg
 have hat:x.alt∈Qr p t x.go:=by rw [QEj h hF hBA hO hg hgt];exact ha
 refine ⟨hat,?_⟩
 rw [xo hap hr hok hs ha hf,xo hap hr hok ht hat hf]
 have hd:=QFk h hF hBA hO hg.1 ha
 have hc:s.count<(QV p s x.go x.alt).s.count↔t.count<(QV p t x.go x.alt).s.count:=by
  by_cases h62:QO p s x.go=62
  · have hA:=hBA _ _ (hF.c62 h62).1
    rw [h.count hA,hd.s.count hA]
  · have eo:=(Stand.of (p:=p) (h.gos x.go.toNat (xd x.go hg.1 (hBA _ _ hF.own)))).op
    rw [Un h62,Un (by rw [eo];exact h62)]
    simp
 have hgA:A 5 x.go.toNat:=xd x.go hg.1 (hBA _ _ hF.own)
 simp only [QKI h hF hBA hg.1,← hd.why,← hd.to_,← hd.val]
 by_cases hw:(QV p s x.go x.alt).why≠0
 · rw [if_pos hw,if_pos hw];exact ⟨QDM hd _,rfl⟩
 rw [if_neg hw,if_neg hw]
 by_cases h0:(QV p s x.go x.alt).to_<0
 · rw [if_pos h0,if_pos h0];exact ⟨hd.s,rfl⟩
 rw [if_neg h0,if_neg h0]
 refine ⟨?_,rfl⟩
 have hS:Ag A (Ux apply p fuel x.go (Zs (QV p s x.go x.alt) x.go)) (Ux apply p fuel x.go (Zs (QV p t x.go x.alt) x.go)):=QHX (QEl hd _) hgA
 by_cases hn:s.count<(QV p s x.go x.alt).s.count
 · obtain ⟨h62,h6⟩:=zl hn
   have hA:=hF.c62 h62
   have hc1:=hc.1 hn
   rw [← h.count (hBA _ _ hA.1)] at hc1
   simp only [if_pos hn,← h.count (hBA _ _ hA.1),if_pos hc1]
   exact QHX hS (xd _ (by have:=hs.count;omega) (hBA _ _ (hA.2 h6)))
 · simp only [if_neg hn,if_neg (fun q=>hn (hc.2 q))]
   exact hS
theorem x8 {C:Int→Int→Prop} (hap:WF apply) (hr:QT p=true) (hok:p.Ok) (hs:Vld p s) {x:Pck} (ha:x.alt∈Qr p s x.go) (hf:0≤fuel∧fuel≤4096)
 (hF:Foot C B p s x.go) (hBA:∀ k n,B k n→¬A k n):Ag A (take apply p s x fuel).1 s:=by
 have hg:=(live_iff.1 (ZU ha)).1
 have hO:=QE2 hok (hs.wf hok hr) hg
 have hct:=hs.count
 rw [xo hap hr hok hs ha hf]
 have hd:=QFl (A:=A) hF hBA hO hg.1 (by omega) ha
 have hgA:¬A 5 x.go.toNat:=yr x.go hg.1 hF.own hBA
 simp only
 by_cases hw:(QV p s x.go x.alt).why≠0
 · rw [if_pos hw];exact hd.setGor1 _ hgA
 rw [if_neg hw]
 by_cases h0:(QV p s x.go x.alt).to_<0
 · rw [if_pos h0];exact hd
 rw [if_neg h0]
 have hS:Ag A (Ux apply p fuel x.go (Zs (QV p s x.go x.alt) x.go)) s:=QHY (hd.setGor1 _ hgA) hgA
 by_cases hn:s.count<(QV p s x.go x.alt).s.count
 · obtain ⟨h62,h6⟩:=zl hn
   simp only [if_pos hn]
   exact QHY hS (yr _ (by omega) ((hF.c62 h62).2 h6) hBA)
 · simp only [if_neg hn]
   exact hS
theorem zM (g:Int) (s:Stt):(Ux apply p fuel g s).count=s.count:=by unfold Ux;split<;>rfl
theorem QDw (hap:WF apply) (hr:QT p=true) (hok:p.Ok) (hs:Vld p s) {x:Pck} (ha:x.alt∈Qr p s x.go) (hf:0≤fuel∧fuel≤4096):s.count≤(take apply p s x fuel).1.count:=by
 rw [xo hap hr hok hs ha hf]
 have:=vr p s x.go x.alt
 simp only
 by_cases hw:(QV p s x.go x.alt).why≠0
 · rw [if_pos hw];exact this
 rw [if_neg hw]
 by_cases h0:(QV p s x.go x.alt).to_<0
 · rw [if_pos h0];exact this
 rw [if_neg h0]
 simp only
 split
 · rw [zM,zM];exact this
 · rw [zM];exact this
theorem Ag.ext (h:Ag (fun _ _=>True) s t):s=t:=by
 have e1:s.vars=t.vars:=List.ext_getElem? fun i=>by
  have:=h.vars i trivial
  rw [List.getD_eq_getElem?_getD,List.getD_eq_getElem?_getD] at this
  by_cases hi:i<s.vars.length
  · rw [List.getElem?_eq_getElem hi,List.getElem?_eq_getElem (h.lv▸hi)] at this ⊢
    simpa using this
  · rw [List.getElem?_eq_none (by omega),List.getElem?_eq_none (by rw [← h.lv];omega)]
 have e2:s.owner=t.owner:=List.ext_getElem? fun i=>by
  have:=h.owner i trivial
  rw [List.getD_eq_getElem?_getD,List.getD_eq_getElem?_getD] at this
  by_cases hi:i<s.owner.length
  · rw [List.getElem?_eq_getElem hi,List.getElem?_eq_getElem (h.lo▸hi)] at this ⊢
    simpa using this
  · rw [List.getElem?_eq_none (by omega),List.getElem?_eq_none (by rw [← h.lo];omega)]
 have e3:s.chans=t.chans:=List.ext_getElem? fun i=>by
  have:=h.chans i trivial
  rw [List.getD_eq_getElem?_getD,List.getD_eq_getElem?_getD] at this
  by_cases hi:i<s.chans.length
  · rw [List.getElem?_eq_getElem hi,List.getElem?_eq_getElem (h.lc▸hi)] at this ⊢
    simpa using this
  · rw [List.getElem?_eq_none (by omega),List.getElem?_eq_none (by rw [← h.lc];omega)]
 have e4:s.gos=t.gos:=List.ext_getElem? fun i=>by
  have:=h.gos i trivial
  rw [List.getD_eq_getElem?_getD,List.getD_eq_getElem?_getD] at this
  by_cases hi:i<s.gos.length
  · rw [List.getElem?_eq_getElem hi,List.getElem?_eq_getElem (h.lg▸hi)] at this ⊢
    simpa using this
  · rw [List.getElem?_eq_none (by omega),List.getElem?_eq_none (by rw [← h.lg];omega)]
 have e5:=h.count trivial
 cases s;cases t
 simp_all
def Apart (a b:List Access):Prop:=∀ k n,(Wrt a k n→¬Tch b k n)∧(Wrt b k n→¬Tch a k n)
theorem Apart.symm {a b:List Access} (h:Apart a b):Apart b a:=fun k n=>(h k n).symm
theorem qP (hap:WF apply) (hr:QT p=true) (hok:p.Ok) (hs:Vld p s) {x y:Pck} (hx:x.alt∈Qr p s x.go) (hy:y.alt∈Qr p s y.go) (hf:0≤fuel∧fuel≤4096) (hxy:Apart (touch p s x.go) (touch p s y.go)) :
 Qr p (take apply p s x fuel).1 y.go=Qr p s y.go∧(take apply p (take apply p s x fuel).1 y fuel).2=(take apply p s y fuel).2 ∧
  Ag (Tch (touch p s y.go)) (take apply p s y fuel).1 (take apply p (take apply p s x fuel).1 y fuel).1 ∧
  (∀ A:Int→Int→Prop,(∀ k n,Wrt (touch p s y.go) k n→¬A k n)→Ag A (take apply p (take apply p s x fuel).1 y fuel).1 (take apply p s x fuel).1):=by
 have hg:=(live_iff.1 (ZU hy)).1
 have hO:=QE2 hok (hs.wf hok hr) hg
 have hv:=QBR hap hr hok hs hx hf
 have hc:=QDw hap hr hok hs hx hf
 have hFx:=Xf p s x.go
 have hFy:=Xf p s y.go
 have h1:Ag (Tch (touch p s y.go)) s (take apply p s x fuel).1:=(x8 hap hr hok hs hx hf hFx (fun k n q=>(hxy k n).1 q)).symm
 have hal:=QEj h1 hFy (fun _ _=>Wrt.tch) hO hg (by omega)
 obtain ⟨h2,h3,h4⟩:=QL5 hap hr hok hs hv hy hf h1 hFy (fun _ _=>Wrt.tch) (by omega)
 refine ⟨hal,h4,h3,fun A hA=>?_⟩
 have hFt:=Xf p (take apply p s x fuel).1 y.go
 rw [QBO h1 hFy (fun _ _=>Wrt.tch) hg.1] at hFt
 exact x8 hap hr hok hv h2 hf hFt hA
theorem vu (hap:WF apply) (hr:QT p=true) (hok:p.Ok) (hs:Vld p s) {x y:Pck} (hx:x.alt∈Qr p s x.go) (hy:y.alt∈Qr p s y.go) (hf:0≤fuel∧fuel≤4096) (hxy:Apart (touch p s x.go) (touch p s y.go)) :
 (take apply p (take apply p s x fuel).1 y fuel).1=(take apply p (take apply p s y fuel).1 x fuel).1:=by
 obtain ⟨_,_,h1,h2⟩:=qP hap hr hok hs hx hy hf hxy
 obtain ⟨_,_,k1,k2⟩:=qP hap hr hok hs hy hx hf hxy.symm
 have fx:∀ A:Int→Int→Prop,(∀ k n,Wrt (touch p s x.go) k n→¬A k n)→Ag A (take apply p s x fuel).1 s:=fun A hA=>x8 hap hr hok hs hx hf (Xf p s x.go) hA
 have fy:∀ A:Int→Int→Prop,(∀ k n,Wrt (touch p s y.go) k n→¬A k n)→Ag A (take apply p s y fuel).1 s:=fun A hA=>x8 hap hr hok hs hy hf (Xf p s y.go) hA
 have tr:∀ {A:Int→Int→Prop} {a b c:Stt},Ag A a b→Ag A b c→Ag A a c:=fun h k=>⟨h.lv.trans k.lv,h.lo.trans k.lo,h.lc.trans k.lc,h.lg.trans k.lg,fun i q=>(h.vars i q).trans (k.vars i q),fun i q=>(h.owner i q).trans (k.owner i q),fun i q=>(h.chans i q).trans (k.chans i q),fun i q=>(h.gos i q).trans (k.gos i q),fun q=>(h.count q).trans (k.count q)⟩
 have a1:Ag (Wrt (touch p s y.go)) (take apply p (take apply p s x fuel).1 y fuel).1 (take apply p (take apply p s y fuel).1 x fuel).1 :=
  tr ((h1.mono (fun _ _=>Wrt.tch)).symm) ((k2 _ (fun k n q r=>(hxy k n).1 q r.tch)).symm)
 have a2:Ag (Wrt (touch p s x.go)) (take apply p (take apply p s x fuel).1 y fuel).1 (take apply p (take apply p s y fuel).1 x fuel).1 :=
  tr (h2 _ (fun k n q r=>(hxy k n).2 q r.tch)) (k1.mono (fun _ _=>Wrt.tch))
 have a3:Ag (fun k n=>¬Wrt (touch p s x.go) k n∧¬Wrt (touch p s y.go) k n) (take apply p (take apply p s x fuel).1 y fuel).1 (take apply p (take apply p s y fuel).1 x fuel).1 :=
  tr (tr (h2 _ (fun k n q r=>r.2 q)) (fx _ (fun k n q r=>r.1 q))) (tr (k2 _ (fun k n q r=>r.1 q)) (fy _ (fun k n q r=>r.2 q))).symm
 refine Ag.ext ⟨a1.lv,a1.lo,a1.lc,a1.lg,fun i _=>?_,fun i _=>?_,fun i _=>?_,fun i _=>?_,fun _=>?_⟩
 · by_cases q:Wrt (touch p s x.go) 1 i;· exact a2.vars i q
   by_cases r:Wrt (touch p s y.go) 1 i;· exact a1.vars i r
   exact a3.vars i ⟨q,r⟩
 · by_cases q:Wrt (touch p s x.go) 2 i;· exact a2.owner i q
   by_cases r:Wrt (touch p s y.go) 2 i;· exact a1.owner i r
   exact a3.owner i ⟨q,r⟩
 · by_cases q:Wrt (touch p s x.go) 3 i;· exact a2.chans i q
   by_cases r:Wrt (touch p s y.go) 3 i;· exact a1.chans i r
   exact a3.chans i ⟨q,r⟩
 · by_cases q:Wrt (touch p s x.go) 5 i;· exact a2.gos i q
   by_cases r:Wrt (touch p s y.go) 5 i;· exact a1.gos i r
   exact a3.gos i ⟨q,r⟩
 · by_cases q:Wrt (touch p s x.go) 4 0;· exact a2.count q
   by_cases r:Wrt (touch p s y.go) 4 0;· exact a1.count r
   exact a3.count ⟨q,r⟩
end
end Go.Eng
namespace Go.Eng
theorem Vb {p:Prg} {s:Stt} {x:Pck} {fuel:Int} (hf:0≤fuel∧fuel≤4096) (ha:x.alt∈Qr p s x.go):XV QA p s x fuel=((take QA p s x fuel).1,(take QA p s x fuel).2,0):=by
 have hh:has p s x=true:=decide_eq_true ha
 unfold XV
 rw [if_neg (by omega),if_neg (by rw [hh];decide)]
theorem QGD {apply:Int→Int→Int→Int × Int} {p:Prg} {s:Stt} {fuel:Int} (hap:WF apply) (hr:QT p=true) (hok:p.Ok) (hs:Vld p s) {x y:Pck} (hx:x.alt∈Qr p s x.go) (hf:0≤fuel∧fuel≤4096)
 (hy:y.alt∈Qr p (take apply p s x fuel).1 y.go) (hxy:Apart (touch p s x.go) (touch p (take apply p s x fuel).1 y.go)) :
 y.alt∈Qr p s y.go∧touch p s y.go=touch p (take apply p s x fuel).1 y.go:=by
 have hv1:=QBR hap hr hok hs hx hf
 have hl:=live_iff.1 (ZU hy)
 have hg1:=hl.1
 have hA:Ag (Tch (touch p (take apply p s x fuel).1 y.go)) (take apply p s x fuel).1 s:=x8 hap hr hok hs hx hf (Xf p s x.go) (fun k n q=>(hxy k n).1 q)
 have hF:=Xf p (take apply p s x fuel).1 y.go
 have hgo:(take apply p s x fuel).1.gor y.go=s.gor y.go:=hA.gos y.go.toNat (xd y.go hg1.1 hF.own.tch)
 have hct:=hv1.count
 have hc:y.go<s.count:=by
  by_cases h:y.go<s.count
  · exact h
  · exfalso
    have hz:=hs.rest y.go.toNat (by omega) (by omega)
    have e:(take apply p s x fuel).1.gos.getD y.go.toNat default=s.gos.getD y.go.toNat default:=hgo
    rw [e,hz] at hl
    rcases hl.2 with q|q<;>exact absurd q (by decide)
 have hO:=QE2 hok (hv1.wf hok hr) hg1
 have hal:=QEj hA hF (fun _ _=>Wrt.tch) hO hg1 hc
 exact ⟨by rw [hal];exact hy,QBO hA hF (fun _ _=>Wrt.tch) hg1.1⟩
end Go.Eng
namespace Go.Eng
def Qo (l:List Pck) (i:Nat):List Pck:=(l.set i (l.getD (i+1) default)).set (i+1) (l.getD i default)
theorem WK (l:List Pck) (i:Nat):(Qo l i).length=l.length:=by simp [Qo]
theorem QFr {l:List Pck} {i k:Nat} (h:k≤i):(Qo l i).take k=l.take k:=by
 refine List.ext_getElem? fun j=>?_
 rw [List.getElem?_take,List.getElem?_take]
 by_cases hj:j<k
 · rw [if_pos hj,if_pos hj]
   unfold Qo
   rw [List.getElem?_set_ne (by omega),List.getElem?_set_ne (by omega)]
 · rw [if_neg hj,if_neg hj]
theorem wE {l:List Pck} {i:Nat} (h:i+1<l.length):(Qo l i).getD i default=l.getD (i+1) default:=by
 unfold Qo
 rw [List.getD_eq_getElem?_getD,List.getElem?_set_ne (by omega),List.getElem?_set_self (by omega)]
 rfl
theorem wD {l:List Pck} {i:Nat} (h:i+1<l.length):(Qo l i).getD (i+1) default=l.getD i default:=by
 unfold Qo
 rw [List.getD_eq_getElem?_getD,List.getElem?_set_self (by simpa using h)]
 rfl
theorem wC {l:List Pck} {i k:Nat} (h0:k≠i) (h1:k≠i+1):(Qo l i).getD k default=l.getD k default:=by
 unfold Qo
 rw [List.getD_eq_getElem?_getD,List.getElem?_set_ne (by omega),List.getElem?_set_ne (by omega),← List.getD_eq_getElem?_getD]
section
variable {p:Prg} {fuel:Int} {l:List Pck} {i:Nat}
structure Swapped (p:Prg) (fuel:Int) (s0:Stt) (l:List Pck) (i:Nat):Prop where
 legal:∀ j,j<l.length→Zy QA p fuel s0 (Qo l i) j=true
 state:∀ k,k≤l.length→k≠i+1→QG QA p fuel s0 (Qo l i) k=QG QA p fuel s0 l k
 ev0:Qj QA p fuel s0 (Qo l i) i=Qj QA p fuel s0 l (i+1)
 ev1:Qj QA p fuel s0 (Qo l i) (i+1)=Qj QA p fuel s0 l i
 evk:∀ j,j<l.length→j≠i→j≠i+1→Qj QA p fuel s0 (Qo l i) j=Qj QA p fuel s0 l j
 near:(l.getD (i+1) default).alt∈Qr p (QG QA p fuel s0 l i) (l.getD (i+1) default).go
theorem QHP (hr:QT p=true) (hf:0≤fuel∧fuel≤4096) {s0:Stt} (hv0:Vld p s0) (hi:i+1<l.length) (hok:∀ j,j<l.length→Zy QA p fuel s0 l j=true)
 (hxy:Apart (touch p (QG QA p fuel s0 l i) (l.getD i default).go) (touch p (QG QA p fuel s0 l (i+1)) (l.getD (i+1) default).go)):Swapped p fuel s0 l i:=by
 have hk:=Prg.ok hr
 have hs:Vld p (QG QA p fuel s0 l i):=Y5 ZO hr hk hf hv0 (by omega) (fun j hj=>hok j (by omega))
 have hx:=okAtR_iff.1 (hok i (by omega))
 have hy:=okAtR_iff.1 (hok (i+1) hi)
 generalize hse:QG QA p fuel s0 l i=s at *
 generalize hxe:l.getD i default=x at *
 generalize hye:l.getD (i+1) default=y at *
 have e1:QG QA p fuel s0 l (i+1)=(take QA p s x fuel).1:=by
  rw [Z7 QA p fuel s0 l (by omega),hse,hxe,Vb hf hx]
 rw [e1] at hy hxy
 obtain ⟨hy0,ht⟩:=QGD ZO hr hk hs hx hf hy hxy
 rw [← ht] at hxy
 obtain ⟨a1,a2,_,_⟩:=qP ZO hr hk hs hx hy0 hf hxy
 obtain ⟨b1,b2,_,_⟩:=qP ZO hr hk hs hy0 hx hf hxy.symm
 have hc:=vu ZO hr hk hs hx hy0 hf hxy
 have hx2:x.alt∈Qr p (take QA p s y fuel).1 x.go:=by rw [b1];exact hx
 have e2:QG QA p fuel s0 l (i+2)=(take QA p (take QA p s x fuel).1 y fuel).1:=by
  rw [Z7 QA p fuel s0 l hi,e1,hye,Vb hf hy]
 have hlen:=WK l i
 have lo:∀ k,k≤i→QG QA p fuel s0 (Qo l i) k=QG QA p fuel s0 l k:=fun k h=>by
  unfold QG
  rw [QFr h]
 have f0:QG QA p fuel s0 (Qo l i) i=s:=(lo i (Nat.le_refl _)).trans hse
 have f1:QG QA p fuel s0 (Qo l i) (i+1)=(take QA p s y fuel).1:=by
  rw [Z7 QA p fuel s0 _ (by omega),f0,wE hi,hye,Vb hf hy0]
 have f2:QG QA p fuel s0 (Qo l i) (i+2)=QG QA p fuel s0 l (i+2):=by
  rw [Z7 QA p fuel s0 _ (by omega),f1,wD hi,hxe,Vb hf hx2,e2,hc]
 have hi2:∀ d,i+2+d≤l.length→QG QA p fuel s0 (Qo l i) (i+2+d)=QG QA p fuel s0 l (i+2+d):=by
  intro d
  induction d with
  | zero=>intro _;exact f2
  | succ d ih =>
    intro h
    rw [show i+2+(d+1)=(i+2+d)+1 from rfl,Z7 QA p fuel s0 _ (by omega),Z7 QA p fuel s0 l (by omega),ih (by omega),wC (by omega) (by omega)]
 have st:∀ k,k≤l.length→k≠i+1→QG QA p fuel s0 (Qo l i) k=QG QA p fuel s0 l k:=fun k h1 h2=>by
  by_cases h:k≤i
  · exact lo k h
  · have:=hi2 (k-(i+2)) (by omega)
    rwa [show i+2+(k-(i+2))=k by omega] at this
 refine ⟨fun j hj=>?_,st,?_,?_,fun j hj h0 h1=>?_,by rw [hse,hye];exact hy0⟩
 · rw [okAtR_iff]
   by_cases h0:j=i
   · subst h0
     rw [wE hi,hye,f0];exact hy0
   · by_cases h1:j=i+1
     · subst h1
       rw [wD hi,hxe,f1];exact hx2
     · rw [wC h0 h1,st j (by omega) h1]
       exact okAtR_iff.1 (hok j hj)
 · unfold Qj
   rw [f0,wE hi,e1,hye,Vb hf hy0,Vb hf hy]
   exact a2.symm
 · unfold Qj
   rw [f1,wD hi,hse,hxe,Vb hf hx2,Vb hf hx]
   exact b2
 · unfold Qj
   rw [st j (by omega) h1,wC h0 h1]
end
end Go.Eng
namespace Go.Eng
def QCC (a b:Access):Bool:=decide (a.kind=b.kind)&&decide (a.num=b.num)&&(a.write||b.write)
def QEb (a b:List Access):Bool:=a.any fun x=>b.any fun y=>QCC x y
theorem QDa {a b:List Access} (h:QEb a b=false):Apart a b:=by
 have key:∀ x∈a,∀ y∈b,x.kind=y.kind→x.num=y.num→x.write=false∧y.write=false:=by
  intro x hx y hy e1 e2
  have q:QCC x y=false:=by
   cases hb:QCC x y
   · rfl
   · have:QEb a b=true:=by unfold QEb;exact List.any_eq_true.2 ⟨x,hx,List.any_eq_true.2 ⟨y,hy,hb⟩⟩
     rw [h] at this;cases this
  unfold QCC at q
  rw [e1,e2,decide_eq_true rfl,decide_eq_true rfl] at q
  simpa using q
 intro k n
 refine ⟨fun ⟨x,hx,e1,e2,e3⟩ ⟨y,hy,f1,f2⟩=>?_,fun ⟨y,hy,e1,e2,e3⟩ ⟨x,hx,f1,f2⟩=>?_⟩
 · have:=(key x hx y hy (e1.trans f1.symm) (e2.trans f2.symm)).1
   rw [e3] at this;cases this
 · have:=(key x hx y hy (f1.trans e1.symm) (f2.trans e2.symm)).2
   rw [e3] at this;cases this
end Go.Eng
namespace Go.Eng
theorem QIp {p:Prg} {s:Stt} {x:Pck} {v:Int} (h6:(touch p s x.go).length≤6):(event p s x v).of=touch p s x.go:=by
 show (W2 (touch p s x.go)).take (max 0 (min 6 ((touch p s x.go).length:Int))).toNat=_
 rw [show (max 0 (min 6 ((touch p s x.go).length:Int))).toNat=(touch p s x.go).length by omega]
 exact x5 h6
theorem w4 {p:Prg} {fuel:Int} {s0:Stt} {l:List Pck} {j:Nat} (hr:QT p=true) (hf:0≤fuel∧fuel≤4096) (hv:Vld p (QG QA p fuel s0 l j)) (h:Zy QA p fuel s0 l j=true) :
 (Qj QA p fuel s0 l j).of=touch p (QG QA p fuel s0 l j) (l.getD j default).go:=by
 have ha:=okAtR_iff.1 h
 obtain ⟨v,hv2⟩:=zL (apply:=QA) ha hf
 have ht:=QCc (Prg.ok hr) (hv.wf (Prg.ok hr) hr) (live_iff.1 (ZU ha)).1
 unfold Qj
 rw [hv2]
 exact QIp ht.2.2
theorem QJG {p:Prg} {fuel:Int} {s0:Stt} {l:List Pck} {i j:Nat} (hr:QT p=true) (hf:0≤fuel∧fuel≤4096) (hvi:Vld p (QG QA p fuel s0 l i)) (hi:Zy QA p fuel s0 l i=true) (hvj:Vld p (QG QA p fuel s0 l j)) (hj:Zy QA p fuel s0 l j=true)
 (h:ZA (Qj QA p fuel s0 l i) (Qj QA p fuel s0 l j)=false):Apart (touch p (QG QA p fuel s0 l i) (l.getD i default).go) (touch p (QG QA p fuel s0 l j) (l.getD j default).go):=by
 unfold ZA at h
 rw [w4 hr hf hvi hi,w4 hr hf hvj hj] at h
 exact QDa h
theorem wA {p:Prg} {fuel:Int} {s0:Stt} {l:List Pck} {i:Nat} (hr:QT p=true) (hf:0≤fuel∧fuel≤4096) (hv0:Vld p s0) (hi:i+1<l.length) (hok:∀ j,j<l.length→Zy QA p fuel s0 l j=true)
 (h:ZA (Qj QA p fuel s0 l i) (Qj QA p fuel s0 l (i+1))=false):Swapped p fuel s0 l i:=by
 have hv:∀ k,k≤l.length→Vld p (QG QA p fuel s0 l k):=fun k hk=>Y5 ZO hr (Prg.ok hr) hf hv0 hk (fun j hj=>hok j (by omega))
 exact QHP hr hf hv0 hi hok (QJG hr hf (hv i (by omega)) (hok i (by omega)) (hv (i+1) (by omega)) (hok (i+1) hi) h)
def ZC (l:List Pck) (i:Nat):Nat→List Pck
 | 0=>l
 | n+1=>Qo (ZC l i n) (i-(n+1))
structure Sunk (p:Prg) (fuel:Int) (s0:Stt) (l:List Pck) (i n:Nat):Prop where
 legal:∀ j,j<l.length→Zy QA p fuel s0 (ZC l i n) j=true
 last:QG QA p fuel s0 (ZC l i n) l.length=QG QA p fuel s0 l l.length
 here:Qj QA p fuel s0 (ZC l i n) (i-n)=Qj QA p fuel s0 l i
 low:∀ j,j<i-n→Qj QA p fuel s0 (ZC l i n) j=Qj QA p fuel s0 l j
 mid:∀ j,i-n<j→j≤i→Qj QA p fuel s0 (ZC l i n) j=Qj QA p fuel s0 l (j-1)
 high:∀ j,i<j→j<l.length→Qj QA p fuel s0 (ZC l i n) j=Qj QA p fuel s0 l j
end Go.Eng
