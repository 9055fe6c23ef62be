/- A part of the proof: walks through the program's functions, and what they compute. -/
import Derived.Test.YtmonhjagbhpbeaaGreatDoorPk24
set_option linter.unusedSimpArgs false
set_option linter.unusedVariables false
namespace Go.Eng
theorem QKY {α:Type} {n i:Nat} (h:i<n) (f:Nat→α):((List.range n).map f)[i]?=some (f i):=by simp [h]
theorem QAT {l:List Access} (h:l.length≤6):(Vf l).take l.length=l:=by
 apply List.ext_getElem?
 intro i
 rw [List.getElem?_take]
 split
 · rename_i hi
   unfold Vf
   rw [QKY (by omega),if_pos hi]
   simp [List.getD_eq_getElem?_getD,hi]
 · rw [List.getElem?_eq_none (by omega)]
theorem v6 {α:Type} {l m:List α} {i j:Nat} {x d:α} (hx:i≠j) (h:l.getD j d=m.getD j d):(l.set i x).getD j d=m.getD j d:=by
 rw [QU,if_neg (fun q=>hx q.1)]
 exact h
section
variable {A:Int→Int→Prop} {s t:Stt}
theorem Ag.setVar (h:Ag A s t) (i:Nat) {x y:Int} (hx:A 1 i→x=y):Ag A { s with vars:=s.vars.set i x } { t with vars:=t.vars.set i y } :=
 ⟨by show (s.vars.set i x).length=(t.vars.set i y).length;rw [List.length_set,List.length_set];exact h.lv,h.lo,h.lc,h.lg,fun j q=>xe h.lv (fun e=>hx (e▸q)) (h.vars j q),h.owner,h.chans,h.gos,h.count⟩
theorem Ag.setVar1 (h:Ag A s t) {i:Nat} (x:Int) (hx:¬A 1 i):Ag A { s with vars:=s.vars.set i x } t :=
 ⟨by show (s.vars.set i x).length=_;rw [List.length_set];exact h.lv,h.lo,h.lc,h.lg,fun j q=>v6 (fun e=>hx (e▸q)) (h.vars j q),h.owner,h.chans,h.gos,h.count⟩
theorem Ag.setOwn (h:Ag A s t) (i:Nat) {x y:Int} (hx:A 2 i→x=y):Ag A { s with owner:=s.owner.set i x } { t with owner:=t.owner.set i y } :=
 ⟨h.lv,by show (s.owner.set i x).length=(t.owner.set i y).length;rw [List.length_set,List.length_set];exact h.lo,h.lc,h.lg,h.vars,fun j q=>xe h.lo (fun e=>hx (e▸q)) (h.owner j q),h.chans,h.gos,h.count⟩
theorem Ag.setOwn1 (h:Ag A s t) {i:Nat} (x:Int) (hx:¬A 2 i):Ag A { s with owner:=s.owner.set i x } t :=
 ⟨h.lv,by show (s.owner.set i x).length=_;rw [List.length_set];exact h.lo,h.lc,h.lg,h.vars,fun j q=>v6 (fun e=>hx (e▸q)) (h.owner j q),h.chans,h.gos,h.count⟩
theorem Ag.setChn1 (h:Ag A s t) {c:Int} (x:Chn) (hx:¬A 3 c.toNat):Ag A (s.setChn c x) t :=
 ⟨h.lv,h.lo,by show (s.chans.set _ x).length=_;rw [List.length_set];exact h.lc,h.lg,h.vars,h.owner,fun j q=>v6 (fun e=>hx (e▸q)) (h.chans j q),h.gos,h.count⟩
theorem Ag.setGor1 (h:Ag A s t) {i:Nat} (x:Gor) (hx:¬A 5 i):Ag A { s with gos:=s.gos.set i x } t :=
 ⟨h.lv,h.lo,h.lc,by show (s.gos.set i x).length=_;rw [List.length_set];exact h.lg,h.vars,h.owner,h.chans,fun j q=>v6 (fun e=>hx (e▸q)) (h.gos j q),h.count⟩
theorem Ag.setCnt (h:Ag A s t) {m n:Int} (hx:A 4 0→m=n):Ag A { s with count:=m } { t with count:=n }:=⟨h.lv,h.lo,h.lc,h.lg,h.vars,h.owner,h.chans,h.gos,hx⟩
theorem Ag.setCnt1 (h:Ag A s t) (m:Int) (hx:¬A 4 0):Ag A { s with count:=m } t:=⟨h.lv,h.lo,h.lc,h.lg,h.vars,h.owner,h.chans,h.gos,fun q=>absurd q hx⟩
theorem Ag.setReg1 (h:Ag A s t) {g:Int} (hg:¬A 5 g.toNat) (r v:Int):Ag A (s.setReg g r v) t:=by
 unfold Stt.setReg
 split
 · exact h.setGor1 _ hg
 · exact h
theorem Ag.setStatus1 (h:Ag A s t) {g:Int} (hg:¬A 5 g.toNat) (v:Int):Ag A (s.setStatus g v) t:=h.setGor1 _ hg
variable {p:Prg} {g:Int}
theorem QFo (h:Ag A s t) {v w to_ c x:Int} (hc:A 3 c.toNat):DAg A (YD p ⟨s,v,w,to_⟩ g c x) (YD p ⟨t,v,w,to_⟩ g c x):=by
 have e:t.chn c=s.chn c:=(h.chans _ hc).symm
 unfold YD
 simp only [e]
 split
 · exact ⟨h,rfl,rfl,rfl⟩
 split
 · exact ⟨h.setChn c (fun _=>rfl),rfl,rfl,rfl⟩
 · exact ⟨(h.setStatus g 2).setChn c (fun _=>rfl),rfl,rfl,rfl⟩
theorem QFq (h:Ag A s t) {v w to_ c r ok:Int} (hg:A 5 g.toNat) (hc:A 3 c.toNat):DAg A (YX ⟨s,v,w,to_⟩ g c r ok) (YX ⟨t,v,w,to_⟩ g c r ok):=by
 have e:t.chn c=s.chn c:=(h.chans _ hc).symm
 unfold YX
 simp only [e]
 split
 · exact ⟨((h.setChn c (fun _=>rfl)).setReg hg _ _).setReg hg _ _,rfl,rfl,rfl⟩
 split
 · exact ⟨((h.setChn c (fun _=>rfl)).setReg hg _ _).setReg hg _ _,rfl,rfl,rfl⟩
 · exact ⟨((h.setChn c (fun _=>rfl)).setReg hg _ _).setReg hg _ _,rfl,rfl,rfl⟩
theorem QJh (h:Ag A s t) {v w to_ c:Int} (hc:A 3 c.toNat):DAg A (Zu ⟨s,v,w,to_⟩ c) (Zu ⟨t,v,w,to_⟩ c):=by
 have e:t.chn c=s.chn c:=(h.chans _ hc).symm
 unfold Zu
 simp only [e]
 split
 · exact ⟨h,rfl,rfl,rfl⟩
 split
 · exact ⟨h.setChn c (fun _=>rfl),rfl,rfl,rfl⟩
 · exact ⟨h.setChn c (fun _=>rfl),rfl,rfl,rfl⟩
theorem QJd (h:Ag A s t) {v w to_ c:Int} (hc:A 3 c.toNat):DAg A (YN ⟨s,v,w,to_⟩ g c) (YN ⟨t,v,w,to_⟩ g c):=by
 have e:t.chn c=s.chn c:=(h.chans _ hc).symm
 unfold YN
 simp only [e]
 exact ⟨(h.setChn c (fun _=>rfl)).setStatus g 1,rfl,rfl,rfl⟩
theorem QJf (h:Ag A s t) {v w to_:Int} {x:Instr} (hg:A 5 g.toNat) (hn:A 4 0):DAg A (Zo p ⟨s,v,w,to_⟩ g x) (Zo p ⟨t,v,w,to_⟩ g x):=by
 have e:t.count=s.count:=(h.count hn).symm
 have e2:t.gor g=s.gor g:=(h.gos _ hg).symm
 unfold Zo Q7
 simp only [e,e2]
 split
 · exact ⟨h,rfl,rfl,rfl⟩
 · exact ⟨((h.setGor s.count.toNat (fun _=>rfl)).setCnt (fun _=>rfl)).setReg hg _ _,rfl,rfl,rfl⟩
theorem QLq (h:Ag A s t) {v w to_:Int} {x:Instr} (hg:A 5 g.toNat) (h50:x.op=50→A 1 x.b.toNat) (h52:x.op=52∨x.op=53→A 1 x.b.toNat) (h56:x.op=56→A 2 x.a.toNat) (h57:x.op=57→A 2 x.b.toNat) :
 DAg A (ZB ⟨s,v,w,to_⟩ g x) (ZB ⟨t,v,w,to_⟩ g x):=by
 have e2:t.gor g=s.gor g:=(h.gos _ hg).symm
 unfold ZB
 simp only [e2]
 split
 · rename_i q
   have e:t.vars.getD x.b.toNat 0=s.vars.getD x.b.toNat 0:=(h.vars _ (h50 q)).symm
   simp only [e]
   exact ⟨h.setReg hg _ _,rfl,rfl,rfl⟩
 split
 · exact ⟨h.setVar _ (fun _=>rfl),rfl,rfl,rfl⟩
 split
 · rename_i q
   have e:t.vars.getD x.b.toNat 0=s.vars.getD x.b.toNat 0:=(h.vars _ (h52 (.inl q))).symm
   simp only [e]
   have k:=h.setReg hg x.a (s.vars.getD x.b.toNat 0)
   exact ⟨k.setVar _ (fun q=>by rw [k.vars _ q]),rfl,rfl,rfl⟩
 split
 · rename_i q
   have e:t.vars.getD x.b.toNat 0=s.vars.getD x.b.toNat 0:=(h.vars _ (h52 (.inr q))).symm
   simp only [e]
   split
   · exact ⟨(h.setVar _ (fun _=>rfl)).setReg hg _ _,rfl,rfl,rfl⟩
   · exact ⟨h.setReg hg _ _,rfl,rfl,rfl⟩
 split
 · exact ⟨h,rfl,rfl,rfl⟩
 split
 · exact ⟨h.setOwn _ (fun _=>rfl),rfl,rfl,rfl⟩
 split
 · rename_i q
   have e:t.owner.getD x.a.toNat 0=s.owner.getD x.a.toNat 0:=(h.owner _ (h56 q)).symm
   simp only [e]
   split
   · exact ⟨h,rfl,rfl,rfl⟩
   · exact ⟨h.setOwn _ (fun _=>rfl),rfl,rfl,rfl⟩
 split
 · rename_i q
   have e:t.owner.getD x.b.toNat 0=s.owner.getD x.b.toNat 0:=(h.owner _ (h57 q)).symm
   simp only [e]
   split
   · exact ⟨(h.setOwn _ (fun _=>rfl)).setReg hg _ _,rfl,rfl,rfl⟩
   · exact ⟨h.setReg hg _ _,rfl,rfl,rfl⟩
 · exact ⟨h,rfl,rfl,rfl⟩
theorem QFp (h:Ag A s t) {v w to_ c x:Int} (hg:¬A 5 g.toNat) (hc:¬A 3 c.toNat):Ag A (YD p ⟨s,v,w,to_⟩ g c x).s t:=by
 unfold YD
 simp only
 split
 · exact h
 split
 · exact h.setChn1 _ hc
 · exact (h.setStatus1 hg 2).setChn1 _ hc
theorem QFr (h:Ag A s t) {v w to_ c r ok:Int} (hg:¬A 5 g.toNat) (hc:¬A 3 c.toNat):Ag A (YX ⟨s,v,w,to_⟩ g c r ok).s t:=by
 unfold YX
 simp only
 split
 · exact ((h.setChn1 _ hc).setReg1 hg _ _).setReg1 hg _ _
 split
 · exact ((h.setChn1 _ hc).setReg1 hg _ _).setReg1 hg _ _
 · exact ((h.setChn1 _ hc).setReg1 hg _ _).setReg1 hg _ _
theorem QJi (h:Ag A s t) {v w to_ c:Int} (hc:¬A 3 c.toNat):Ag A (Zu ⟨s,v,w,to_⟩ c).s t:=by
 unfold Zu
 simp only
 split
 · exact h
 split
 · exact h.setChn1 _ hc
 · exact h.setChn1 _ hc
theorem QJe (h:Ag A s t) {v w to_ c:Int} (hg:¬A 5 g.toNat) (hc:¬A 3 c.toNat):Ag A (YN ⟨s,v,w,to_⟩ g c).s t:=(h.setChn1 _ hc).setStatus1 hg 1
theorem QJg (h:Ag A s t) {v w to_:Int} {x:Instr} (hg:¬A 5 g.toNat) (hn:¬A 4 0) (hk:s.count<6→¬A 5 s.count.toNat):Ag A (Zo p ⟨s,v,w,to_⟩ g x).s t:=by
 unfold Zo
 simp only
 split
 · exact h
 · exact ((h.setGor1 _ (hk (by omega))).setCnt1 _ hn).setReg1 hg _ _
theorem QLr (h:Ag A s t) {v w to_:Int} {x:Instr} (hg:¬A 5 g.toNat) (h51:x.op=51→¬A 1 x.a.toNat) (h52:x.op=52∨x.op=53→¬A 1 x.b.toNat) (h55:x.op=55∨x.op=56→¬A 2 x.a.toNat) (h57:x.op=57→¬A 2 x.b.toNat) :
 Ag A (ZB ⟨s,v,w,to_⟩ g x).s t:=by
 unfold ZB
 simp only
 split
 · exact h.setReg1 hg _ _
 split
 · rename_i q;exact h.setVar1 _ (h51 q)
 split
 · rename_i q;exact (h.setReg1 hg _ _).setVar1 _ (h52 (.inl q))
 split
 · rename_i q
   split
   · exact (h.setVar1 _ (h52 (.inr q))).setReg1 hg _ _
   · exact h.setReg1 hg _ _
 split
 · exact h
 split
 · rename_i q;exact h.setOwn1 _ (h55 (.inl q))
 split
 · rename_i q
   split
   · exact h
   · exact h.setOwn1 _ (h55 (.inr q))
 split
 · rename_i q
   split
   · exact (h.setOwn1 _ (h57 q)).setReg1 hg _ _
   · exact h.setReg1 hg _ _
 · exact h
end
theorem Wrt.tch {l:List Access} {k n:Int} (h:Wrt l k n):Tch l k n:=let ⟨a,h1,h2,h3,_⟩:=h;⟨a,h1,h2,h3⟩
section
variable (p:Prg) (s:Stt) (g:Int)
theorem QMg (h:QK p s g=50):touch p s g=add 1 (QA p s g).b false [⟨5,g,true⟩]:=if_pos h
theorem QMd (h:QK p s g=54):touch p s g=add 1 (QA p s g).a false [⟨5,g,true⟩]:=(if_neg (by omega)).trans (if_pos h)
theorem QMf (h:QK p s g=51):touch p s g=add 1 (QA p s g).a true [⟨5,g,true⟩]:=(if_neg (by omega)).trans ((if_neg (by omega)).trans (if_pos h))
theorem QMe (h:QK p s g=52∨QK p s g=53):touch p s g=add 1 (QA p s g).b true [⟨5,g,true⟩]:=(if_neg (by omega)).trans ((if_neg (by omega)).trans ((if_neg (by omega)).trans (if_pos h)))
theorem QMc (h:QK p s g=55∨QK p s g=56):touch p s g=add 2 (QA p s g).a true [⟨5,g,true⟩]:=(if_neg (by omega)).trans ((if_neg (by omega)).trans ((if_neg (by omega)).trans ((if_neg (by omega)).trans (if_pos h))))
theorem QMb (h:QK p s g=57):touch p s g=add 2 (QA p s g).b true [⟨5,g,true⟩]:=(if_neg (by omega)).trans ((if_neg (by omega)).trans ((if_neg (by omega)).trans ((if_neg (by omega)).trans ((if_neg (by omega)).trans (if_pos h)))))
theorem QMa (h:QK p s g=58∨QK p s g=60∨QK p s g=66):touch p s g=add 3 (QA p s g).a true [⟨5,g,true⟩]:=(if_neg (by omega)).trans ((if_neg (by omega)).trans ((if_neg (by omega)).trans ((if_neg (by omega)).trans ((if_neg (by omega)).trans ((if_neg (by omega)).trans (if_pos h))))))
theorem QMZ (h:QK p s g=59):touch p s g=add 3 (QA p s g).b true [⟨5,g,true⟩]:=(if_neg (by omega)).trans ((if_neg (by omega)).trans ((if_neg (by omega)).trans ((if_neg (by omega)).trans ((if_neg (by omega)).trans ((if_neg (by omega)).trans ((if_neg (by omega)).trans (if_pos h)))))))
theorem QMY (h:QK p s g=61):touch p s g=QY (Qw p s g) (Qw p s g).cases.length [⟨5,g,true⟩]:=(if_neg (by omega)).trans ((if_neg (by omega)).trans ((if_neg (by omega)).trans ((if_neg (by omega)).trans ((if_neg (by omega)).trans ((if_neg (by omega)).trans ((if_neg (by omega)).trans ((if_neg (by omega)).trans (if_pos h))))))))
theorem QDm (h:QK p s g=62):touch p s g=if s.count<6 then add 5 s.count true (add 4 0 true [⟨5,g,true⟩]) else add 4 0 true [⟨5,g,true⟩]:=(if_neg (by omega)).trans ((if_neg (by omega)).trans ((if_neg (by omega)).trans ((if_neg (by omega)).trans ((if_neg (by omega)).trans ((if_neg (by omega)).trans ((if_neg (by omega)).trans ((if_neg (by omega)).trans ((if_neg (by omega)).trans (if_pos h)))))))))
theorem QDl (h:QK p s g=63):touch p s g=if 0≤(s.gor g).reg (QA p s g).a∧(s.gor g).reg (QA p s g).a<s.count then add 5 ((s.gor g).reg (QA p s g).a) false (add 4 0 false [⟨5,g,true⟩]) else add 4 0 false [⟨5,g,true⟩]:=(if_neg (by omega)).trans ((if_neg (by omega)).trans ((if_neg (by omega)).trans ((if_neg (by omega)).trans ((if_neg (by omega)).trans ((if_neg (by omega)).trans ((if_neg (by omega)).trans ((if_neg (by omega)).trans ((if_neg (by omega)).trans ((if_neg (by omega)).trans (if_pos h))))))))))
theorem QIf:Wrt (touch p s g) 5 g:=by
 have hb:=Wrt.base g
 have I:∀ {c:Prop} [Decidable c] {a b:List Access},Wrt a 5 g→Wrt b 5 g→Wrt (if c then a else b) 5 g:=fun h1 h2=>by split<;>assumption
 exact I (hb.old _ _ _) (I (hb.old _ _ _) (I (hb.old _ _ _) (I (hb.old _ _ _) (I (hb.old _ _ _) (I (hb.old _ _ _) (I (hb.old _ _ _) (I (hb.old _ _ _) (I (hb.chans _ _) (I (I ((hb.old _ _ _).old _ _ _) (hb.old _ _ _)) (I (I ((hb.old _ _ _).old _ _ _) (hb.old _ _ _)) (I (hb.old _ _ _) hb)))))))))))
theorem WG:Foot (Tch (touch p s g)) (Wrt (touch p s g)) p s g where
 own:=QIf p s g
 c50 h:=by rw [QMg p s g h];exact Tch.new _ _ _ _
 c54 h:=by rw [QMd p s g h];exact Tch.new _ _ _ _
 c51 h:=by rw [QMf p s g h];exact Wrt.new _ _ _
 c52 h:=by rw [QMe p s g h];exact Wrt.new _ _ _
 c55 h:=by rw [QMc p s g h];exact Wrt.new _ _ _
 c57 h:=by rw [QMb p s g h];exact Wrt.new _ _ _
 c58 h:=by rw [QMa p s g h];exact Wrt.new _ _ _
 c59 h:=by rw [QMZ p s g h];exact Wrt.new _ _ _
 c61 h i hi:=by rw [QMY p s g h];exact Wrt.chan _ _ _ hi (Nat.le_refl _)
 c62 h:=by
  rw [QDm p s g h]
  split
  · exact ⟨(Wrt.new _ _ _).old _ _ _,fun _=>Wrt.new _ _ _⟩
  · rename_i q;exact ⟨Wrt.new _ _ _,fun q'=>absurd q' q⟩
 c63 h:=by
  rw [QDl p s g h]
  split
  · exact ⟨(Tch.new _ _ _ _).old _ _ _,fun _=>Tch.new _ _ _ _⟩
  · rename_i q;exact ⟨Tch.new _ _ _ _,fun q'=>absurd q' q⟩
end
section
variable {A B:Int→Int→Prop} {s t:Stt} {p:Prg} {g:Int}
theorem W1 {c:Prop} [Decidable c] {a b a' b':Did} (h1:c→DAg A a a') (h2:¬c→DAg A b b'):DAg A (if c then a else b) (if c then a' else b'):=by
 by_cases h:c
 · rw [if_pos h,if_pos h];exact h1 h
 · rw [if_neg h,if_neg h];exact h2 h
theorem vf (n:Int) (h:0≤n) {k:Int} (hA:A k n):A k (n.toNat:Int):=by rw [Int.toNat_of_nonneg h];exact hA
theorem QFL (h:QK p s g≠66):QK p s g=(QA p s g).op:=by
 unfold QK at h ⊢
 by_cases hs:(s.gor g).status=2
 · rw [if_pos hs] at h;exact absurd rfl h
 · rw [if_neg hs]
theorem QHf (hok:p.Ok) (hw:Wf p s) (hg:0≤g∧g<s.count):Opers p s g:=by
 have hgi:=hw.gos g hg.1 hg.2
 have hrt:Qb p (p.funcs.getD (s.gos.getD g.toNat default).func.toNat default) (QA p s g)=0:=hw.right hok hg.1 hg.2
 have opc:∀ {k:Int},QK p s g=k→k≠66→(QA p s g).op=k:=fun h hk=>hw.op_at hok hg.1 hg.2 h hk
 refine ⟨fun h=>(QCY hrt (opc h (by decide))).2.1,fun h=>(QAP hrt (opc h (by decide))).1.1,fun h=>(QCX hrt (opc h (by decide))).1.1,fun h=>?_,fun h=>?_,fun h=>(QCU hrt (opc h (by decide))).2.1,fun h=>?_,fun h=>(yc hrt (opc h (by decide))).2.1.1,fun h i hi=>?_⟩
 · rcases h with h|h
   · exact (QCW hrt (opc h (by decide))).2.1.1
   · exact (QCV hrt (opc h (by decide))).2.1.1
 · exact (yd hrt (by rcases h with h|h;exact .inl (opc h (by decide));exact .inr (opc h (by decide)))).1
 · rcases h with h|h|h
   · exact (Vm hrt (opc h (by decide))).1.1
   · exact (QCT hrt (opc h (by decide))).1
   · exact (Vm hrt (hw.op66 hok hg.1 hg.2 h)).1.1
 · have hI:=UB hrt (opc h (by decide))
   exact (Vb hok (i:=(s.gos.getD g.toNat default).func.toNat) (j:=(QA p s g).a.toNat) (k:=i) (by have:=hgi.f0;have:=hgi.f1;omega) (by omega) hi).chan.1
theorem QIZ (h:Ag A s t) (hF:Foot A B p s g) (hBA:∀ k n,B k n→A k n) (hO:Opers p s g) (hg0:0≤g) {alt:Int} (ha:alt∈Qn p s g):DAg A (QG p s g alt) (QG p t g alt):=by
 have hg:A 5 g.toNat:=vf g hg0 (hBA _ _ hF.own)
 obtain ⟨eg,ei,eo,es⟩:=Stand.of (p:=p) (h.gos g.toNat hg)
 unfold QG
 simp only [eg,ei,eo,es]
 refine W1 (fun h66=>QJd h (vf _ (hO.o58 (.inr (.inr h66))) (hBA _ _ (hF.c58 (.inr (.inr h66)))))) (fun n66=>?_)
 refine W1 (fun h58=>QFo h (vf _ (hO.o58 (.inl h58)) (hBA _ _ (hF.c58 (.inl h58))))) (fun n58=>?_)
 refine W1 (fun h59=>QFq h hg (vf _ (hO.o59 h59) (hBA _ _ (hF.c59 h59)))) (fun n59=>?_)
 refine W1 (fun h60=>QJh h (vf _ (hO.o58 (.inr (.inl h60))) (hBA _ _ (hF.c58 (.inr (.inl h60)))))) (fun n60=>?_)
 refine W1 (fun h62=>QJf h hg (hBA _ _ (hF.c62 h62).1)) (fun n62=>?_)
 refine W1 (fun h63=>?_) (fun n63=>?_)
 · rw [← h.count (hF.c63 h63).1]
   exact W1 (fun _=>⟨h,rfl,rfl,rfl⟩) (fun _=>⟨h,rfl,rfl,rfl⟩)
 refine W1 (fun _=>⟨h,rfl,rfl,rfl⟩) (fun n65=>?_)
 refine W1 (fun h61=>?_) (fun n61=>?_)
 · refine W1 (fun _=>⟨h,rfl,rfl,rfl⟩) (fun hn=>?_)
   rcases zw ha h61 with q|⟨k,rfl,hk,_⟩
   · exact absurd q hn
   · rw [Int.toNat_natCast]
     have hc:A 3 (((Qw p s g).cases.getD k default).chan.toNat:Int):=vf _ (hO.o61 h61 k hk) (hBA _ _ (hF.c61 h61 k hk))
     split
     · exact QFo h hc
     · exact QFq h hg hc
 · have e:=QFL n66
   refine QLq h hg (fun q=>?_) (fun q=>?_) (fun q=>?_) (fun q=>?_)
   · exact vf _ (hO.o50 (e.trans q)) (hF.c50 (e.trans q))
   · exact vf _ (hO.o52 (by rw [e];exact q)) (hBA _ _ (hF.c52 (by rw [e];exact q)))
   · exact vf _ (hO.o55 (.inr (e.trans q))) (hBA _ _ (hF.c55 (.inr (e.trans q))))
   · exact vf _ (hO.o57 (e.trans q)) (hBA _ _ (hF.c57 (e.trans q)))
theorem wh (n:Int) (h:0≤n) {k:Int} (hB:B k n) (hBA:∀ k n,B k n→¬A k n):¬A k (n.toNat:Int):=by rw [Int.toNat_of_nonneg h];exact hBA _ _ hB
theorem QIa {C:Int→Int→Prop} (hF:Foot C B p s g) (hBA:∀ k n,B k n→¬A k n) (hO:Opers p s g) (hg0:0≤g) (hc0:0≤s.count) {alt:Int} (ha:alt∈Qn p s g):Ag A (QG p s g alt).s s:=by
 have hg:¬A 5 g.toNat:=wh g hg0 hF.own hBA
 have h:Ag A s s:=Ag.refl s
 unfold QG
 refine QO (q:=fun u=>Ag A u s) (fun h66=>QJe h hg (wh _ (hO.o58 (.inr (.inr h66))) (hF.c58 (.inr (.inr h66))) hBA)) (fun n66=>?_)
 refine QO (q:=fun u=>Ag A u s) (fun h58=>QFp h hg (wh _ (hO.o58 (.inl h58)) (hF.c58 (.inl h58)) hBA)) (fun n58=>?_)
 refine QO (q:=fun u=>Ag A u s) (fun h59=>QFr h hg (wh _ (hO.o59 h59) (hF.c59 h59) hBA)) (fun n59=>?_)
 refine QO (q:=fun u=>Ag A u s) (fun h60=>QJi h (wh _ (hO.o58 (.inr (.inl h60))) (hF.c58 (.inr (.inl h60))) hBA)) (fun n60=>?_)
 refine QO (q:=fun u=>Ag A u s) (fun h62=>QJg h hg (hBA _ _ (hF.c62 h62).1) (fun q=>wh _ hc0 ((hF.c62 h62).2 q) hBA)) (fun n62=>?_)
 refine QO (q:=fun u=>Ag A u s) (fun h63=>QO (q:=fun u=>Ag A u s) (fun _=>h) (fun _=>h)) (fun n63=>?_)
 refine QO (q:=fun u=>Ag A u s) (fun _=>h) (fun n65=>?_)
 refine QO (q:=fun u=>Ag A u s) (fun h61=>?_) (fun n61=>?_)
 · refine QO (q:=fun u=>Ag A u s) (fun _=>h) (fun hn=>?_)
   rcases zw ha h61 with q|⟨k,rfl,hk,_⟩
   · exact absurd q hn
   · rw [Int.toNat_natCast]
     have hc:¬A 3 (((Qw p s g).cases.getD k default).chan.toNat:Int):=wh _ (hO.o61 h61 k hk) (hF.c61 h61 k hk) hBA
     exact QO (q:=fun u=>Ag A u s) (fun _=>QFp h hg hc) (fun _=>QFr h hg hc)
 · have e:=QFL n66
   refine QLr h hg (fun q=>?_) (fun q=>?_) (fun q=>?_) (fun q=>?_)
   · exact wh _ (hO.o51 (e.trans q)) (hF.c51 (e.trans q)) hBA
   · exact wh _ (hO.o52 (by rw [e];exact q)) (hF.c52 (by rw [e];exact q)) hBA
   · exact wh _ (hO.o55 (by rw [e];exact q)) (hF.c55 (by rw [e];exact q)) hBA
   · exact wh _ (hO.o57 (e.trans q)) (hF.c57 (e.trans q)) hBA
theorem QHX (h:Ag A s t) {c:Int} (hc:A 3 c.toNat):Ys p t c=Ys p s c:=by
 have e:t.chn c=s.chn c:=(h.chans _ hc).symm
 unfold Ys;rw [e]
theorem QA3 (h:Ag A s t) {c:Int} (hc:A 3 c.toNat):XG t c=XG s c:=by
 have e:t.chn c=s.chn c:=(h.chans _ hc).symm
 unfold XG;rw [e]
theorem QMr (h:Ag A s t) (hF:Foot A B p s g) (hBA:∀ k n,B k n→A k n) (hO:Opers p s g) (hg0:0≤g):plain p t g=plain p s g:=by
 have hg:A 5 g.toNat:=vf g hg0 (hBA _ _ hF.own)
 obtain ⟨eg,ei,eo,es⟩:=Stand.of (p:=p) (h.gos g.toNat hg)
 unfold plain
 simp only [eg,ei,eo]
 by_cases h54:QK p s g=54
 · rw [if_pos h54,if_pos h54,h.vars _ (vf _ (hO.o54 h54) (hF.c54 h54))]
 rw [if_neg h54,if_neg h54]
 by_cases h55:QK p s g=55
 · rw [if_pos h55,if_pos h55,h.owner _ (vf _ (hO.o55 (.inl h55)) (hBA _ _ (hF.c55 (.inl h55))))]
 rw [if_neg h55,if_neg h55]
 by_cases h58:QK p s g=58
 · rw [if_pos h58,if_pos h58,QHX h (vf _ (hO.o58 (.inl h58)) (hBA _ _ (hF.c58 (.inl h58))))]
 rw [if_neg h58,if_neg h58]
 by_cases h59:QK p s g=59
 · rw [if_pos h59,if_pos h59,QA3 h (vf _ (hO.o59 h59) (hBA _ _ (hF.c59 h59)))]
 rw [if_neg h59,if_neg h59]
 by_cases h66:QK p s g=66
 · have e:t.chn (QA p s g).a=s.chn (QA p s g).a:=(h.chans _ (vf _ (hO.o58 (.inr (.inr h66))) (hBA _ _ (hF.c58 (.inr (.inr h66)))))).symm
   rw [if_pos h66,if_pos h66,e]
 rw [if_neg h66,if_neg h66]
 by_cases h63:QK p s g=63
 · have hc:=h.count (hF.c63 h63).1
   have hk:=(hF.c63 h63).2
   rw [if_pos h63,if_pos h63]
   generalize (s.gor g).reg (QA p s g).a=k at *
   rw [← hc]
   by_cases q:0≤k∧k<s.count
   · have e:t.gor k=s.gor k:=(h.gos _ (vf _ q.1 (hk q))).symm
     have e2:YB t k=YB s k:=by unfold YB;rw [e,← hc]
     rw [e2]
   · by_cases q0:k<0
     · rw [decide_eq_true q0];simp
     · rw [decide_eq_true (show s.count≤k by omega)];simp
 rw [if_neg h63,if_neg h63]
theorem QJq (h:Ag A s t) {q:Sel} (hq:∀ i,i<q.cases.length→A 3 (q.cases.getD i default).chan.toNat):ZO p t q q.cases.length=ZO p s q q.cases.length:=by
 unfold ZO
 congr 1
 refine List.filter_congr fun i hi=>?_
 have:=List.mem_range.1 hi
 unfold XQ
 rw [QHX h (hq i this),QA3 h (hq i this)]
theorem QHI (h:Ag A s t) (hF:Foot A B p s g) (hBA:∀ k n,B k n→A k n) (hO:Opers p s g) (hg:0≤g∧g<s.count) (hgt:g<t.count):Qn p t g=Qn p s g:=by
 have hgA:A 5 g.toNat:=vf g hg.1 (hBA _ _ hF.own)
 obtain ⟨eg,ei,eo,es⟩:=Stand.of (p:=p) (h.gos g.toNat hgA)
 have el:YB t g=YB s g:=by
  unfold YB
  rw [eg,decide_eq_true hgt,decide_eq_true hg.2]
 unfold Qn
 simp only [el,eo,es]
 by_cases hl:YB s g=true
 · rw [if_pos hl,if_pos hl]
   by_cases h61:QK p s g=61
   · rw [if_pos h61,if_pos h61,QJq h (fun i hi=>vf _ (hO.o61 h61 i hi) (hBA _ _ (hF.c61 h61 i hi)))]
   · rw [if_neg h61,if_neg h61,QMr h hF hBA hO hg.1]
 · rw [if_neg hl,if_neg hl]
theorem QDk (h:Ag A s t) (hF:Foot A B p s g) (hBA:∀ k n,B k n→A k n) (hg0:0≤g):touch p t g=touch p s g:=by
 have hgA:A 5 g.toNat:=vf g hg0 (hBA _ _ hF.own)
 obtain ⟨eg,ei,eo,es⟩:=Stand.of (p:=p) (h.gos g.toNat hgA)
 by_cases h62:QK p s g=62
 · rw [QDm p s g h62,QDm p t g (eo.trans h62),h.count (hBA _ _ (hF.c62 h62).1)]
 by_cases h63:QK p s g=63
 · rw [QDl p s g h63,QDl p t g (eo.trans h63),h.count (hF.c63 h63).1,eg,ei]
 unfold touch
 simp only [eg,ei,eo,es,if_neg h62,if_neg h63]
theorem QNZ (h:Ag A s t) {x:Pck} (hF:Foot A B p s x.go) (hBA:∀ k n,B k n→A k n) (hg0:0≤x.go) (v:Int):event p t x v=event p s x v:=by
 have hgA:A 5 x.go.toNat:=vf x.go hg0 (hBA _ _ hF.own)
 obtain ⟨eg,ei,eo,es⟩:=Stand.of (p:=p) (h.gos x.go.toNat hgA)
 unfold event
 rw [eg,ei,eo,QDk h hF hBA hg0]
def zO (apply:Int→Int→Int→Int × Int) (p:Prg) (fuel:Int) (g:Int) (s:Stt):Stt:=if (s.gor g).status=1∨(s.gor g).status=5 then { s with gos:=s.gos.set g.toNat (Yh apply p (s.gor g) fuel) } else s
variable {apply:Int→Int→Int→Int × Int} {fuel:Int}
theorem QKS (h:Ag A s t) (hg:A 5 g.toNat):Ag A (zO apply p fuel g s) (zO apply p fuel g t):=by
 have e:t.gor g=s.gor g:=(h.gos _ hg).symm
 unfold zO
 simp only [e]
 split
 · exact h.setGor _ (fun _=>rfl)
 · exact h
theorem QKT (h:Ag A s t) (hg:¬A 5 g.toNat):Ag A (zO apply p fuel g s) t:=by
 unfold zO
 split
 · exact h.setGor1 _ hg
 · exact h
theorem vz (hap:Wj apply) (hr:QN p=true) (hok:p.Ok) (hv:Vld p s) {x:Pck} (ha:x.alt∈Qn p s x.go) (hf:0≤fuel∧fuel≤4096) :
 take apply p s x fuel=(let d:=QG p s x.go x.alt
  if d.why≠0 then (Vi d x.go,event p s x 0) else if d.to_<0 then (d.s,event p s x d.val)
  else (if s.count<d.s.count then zO apply p fuel s.count (zO apply p fuel x.go (Z8 d x.go)) else zO apply p fuel x.go (Z8 d x.go),event p s x d.val)):=by
 have hg:=(live_iff.1 (Zm ha)).1
 have hd:=yv hok hr hv ha
 have ht:take apply p s x fuel=(let d:=QG p s x.go x.alt
  if d.why≠0 then (Vi d x.go,event p s x 0) else if d.to_<0 then (d.s,event p s x d.val)
  else (if s.count<(QZ apply p (Z8 d x.go) x.go fuel).1.count then (QZ apply p (QZ apply p (Z8 d x.go) x.go fuel).1 s.count fuel).1 else (QZ apply p (Z8 d x.go) x.go fuel).1,event p s x d.val)):=rfl
 rw [ht]
 simp only
 by_cases hw:(QG p s x.go x.alt).why≠0
 · rw [if_pos hw,if_pos hw]
 rw [if_neg hw,if_neg hw]
 by_cases h0:(QG p s x.go x.alt).to_<0
 · rw [if_pos h0,if_pos h0]
 rw [if_neg h0,if_neg h0]
 have hw:(QG p s x.go x.alt).why=0:=by simpa using hw
 have hvA:=zy hg hd hw (by omega)
 have hcA:(Z8 (QG p s x.go x.alt) x.go).count=(QG p s x.go x.alt).s.count:=rfl
 have hgA:0≤x.go∧x.go<(Z8 (QG p s x.go x.alt) x.go).count:=⟨hg.1,by rw [hcA];have:=hd.cnt;omega⟩
 have e1:(QZ apply p (Z8 (QG p s x.go x.alt) x.go) x.go fuel).1=zO apply p fuel x.go (Z8 (QG p s x.go x.alt) x.go):=yE hr hok hvA hgA hf
 have hS:=yD hap hr hok hvA hgA hf
 have hK:=(xd (apply:=apply) hr hok hvA hgA hf).2.2.2.1
 rw [hK,hcA]
 rw [e1] at hS hK ⊢
 by_cases hc:s.count<(QG p s x.go x.alt).s.count
 · rw [if_pos hc,if_pos hc]
   have e2:(QZ apply p (zO apply p fuel x.go (Z8 (QG p s x.go x.alt) x.go)) s.count fuel).1=zO apply p fuel s.count (zO apply p fuel x.go (Z8 (QG p s x.go x.alt) x.go)):=yE hr hok hS ⟨by have:=hv.count;omega,by rw [hK,hcA];exact hc⟩ hf
   rw [e2]
 · rw [if_neg hc,if_neg hc]
end
section
variable {A B:Int→Int→Prop} {s t:Stt} {p:Prg} {g:Int}
theorem zD (h62:QK p s g≠62) (alt:Int):(QG p s g alt).s.count=s.count:=by
 unfold QG
 refine QO (q:=fun u=>u.count=s.count) (fun _=>rfl) (fun n66=>?_)
 refine QO (q:=fun u=>u.count=s.count) (fun _=>(VG p (⟨s,0,0,(s.gor g).pc+1⟩:Did) _ _ _).count) (fun n58=>?_)
 refine QO (q:=fun u=>u.count=s.count) (fun _=>(VH (⟨s,0,0,(s.gor g).pc+1⟩:Did) _ _ _ _).count) (fun n59=>?_)
 refine QO (q:=fun u=>u.count=s.count) (fun _=>(qb (⟨s,0,0,(s.gor g).pc+1⟩:Did) _).count) (fun n60=>?_)
 refine QO (q:=fun u=>u.count=s.count) (fun q=>absurd q h62) (fun n62=>?_)
 refine QO (q:=fun u=>u.count=s.count) (fun _=>QO (q:=fun u=>u.count=s.count) (fun _=>rfl) (fun _=>rfl)) (fun n63=>?_)
 refine QO (q:=fun u=>u.count=s.count) (fun _=>rfl) (fun n65=>?_)
 refine QO (q:=fun u=>u.count=s.count) (fun _=>?_) (fun n61=>qa _ _ _)
 refine QO (q:=fun u=>u.count=s.count) (fun _=>rfl) (fun hn=>?_)
 exact QO (q:=fun u=>u.count=s.count) (fun _=>(VG p ⟨s,0,0,((Qw p s g).cases.getD alt.toNat default).to_⟩ _ _ _).count) (fun _=>(VH ⟨s,0,0,((Qw p s g).cases.getD alt.toNat default).to_⟩ _ _ _ _).count)
theorem QGJ (h:QK p s g=62) (alt:Int):QG p s g alt=Zo p ⟨s,0,0,(s.gor g).pc+1⟩ g (QA p s g):=(if_neg (by omega)).trans ((if_neg (by omega)).trans ((if_neg (by omega)).trans ((if_neg (by omega)).trans (if_pos h))))
theorem xV {alt:Int} (h:s.count<(QG p s g alt).s.count):QK p s g=62∧s.count<6:=by
 by_cases h62:QK p s g=62
 · refine ⟨h62,?_⟩
   rw [QGJ h62] at h
   by_cases h6:6≤s.count
   · rw [show Zo p ⟨s,0,0,(s.gor g).pc+1⟩ g (QA p s g)=_ from if_pos h6] at h
     exact absurd h (Int.lt_irrefl _)
   · omega
 · rw [zD h62] at h
   exact absurd h (Int.lt_irrefl _)
variable {apply:Int→Int→Int→Int × Int} {fuel:Int}
theorem QFk {d e:Did} (h:DAg A d e) (g:Int):Ag A (Vi d g) (Vi e g):=by
 unfold Vi
 exact h.s.setGor _ (fun q=>by rw [show d.s.gor g=e.s.gor g from h.s.gos _ q,h.why])
theorem QHK {d e:Did} (h:DAg A d e) (g:Int):Ag A (Z8 d g) (Z8 e g):=by
 unfold Z8
 exact h.s.setGor _ (fun q=>by rw [show d.s.gor g=e.s.gor g from h.s.gos _ q,h.to_])
theorem QPo (hap:Wj apply) (hr:QN p=true) (hok:p.Ok) (hs:Vld p s) (ht:Vld p t) {x:Pck} (ha:x.alt∈Qn p s x.go) (hf:0≤fuel∧fuel≤4096)
 (h:Ag A s t) (hF:Foot A B p s x.go) (hBA:∀ k n,B k n→A k n) (hgt:x.go<t.count) :
 x.alt∈Qn p t x.go∧Ag A (take apply p s x fuel).1 (take apply p t x fuel).1∧(take apply p t x fuel).2=(take apply p s x fuel).2:=by
 have hg:=(live_iff.1 (Zm ha)).1
 have hO:=QHf hok (hs.wf hok hr) hg
 have hat:x.alt∈Qn p t x.go:=by rw [QHI h hF hBA hO hg hgt];exact ha
 refine ⟨hat,?_⟩
 rw [vz hap hr hok hs ha hf,vz hap hr hok ht hat hf]
 have hd:=QIZ h hF hBA hO hg.1 ha
 have hc:s.count<(QG p s x.go x.alt).s.count↔t.count<(QG p t x.go x.alt).s.count:=by
  by_cases h62:QK p s x.go=62
  · have hA:=hBA _ _ (hF.c62 h62).1
    rw [h.count hA,hd.s.count hA]
  · have eo:=(Stand.of (p:=p) (h.gos x.go.toNat (vf x.go hg.1 (hBA _ _ hF.own)))).op
    rw [zD h62,zD (by rw [eo];exact h62)]
    simp
 have hgA:A 5 x.go.toNat:=vf x.go hg.1 (hBA _ _ hF.own)
 simp only [QNZ h hF hBA hg.1,← hd.why,← hd.to_,← hd.val]
 by_cases hw:(QG p s x.go x.alt).why≠0
 · rw [if_pos hw,if_pos hw];exact ⟨QFk hd _,rfl⟩
 rw [if_neg hw,if_neg hw]
 by_cases h0:(QG p s x.go x.alt).to_<0
 · rw [if_pos h0,if_pos h0];exact ⟨hd.s,rfl⟩
 rw [if_neg h0,if_neg h0]
 refine ⟨?_,rfl⟩
 have hS:Ag A (zO apply p fuel x.go (Z8 (QG p s x.go x.alt) x.go)) (zO apply p fuel x.go (Z8 (QG p t x.go x.alt) x.go)):=QKS (QHK hd _) hgA
 by_cases hn:s.count<(QG p s x.go x.alt).s.count
 · obtain ⟨h62,h6⟩:=xV hn
   have hA:=hF.c62 h62
   have hc1:=hc.1 hn
   rw [← h.count (hBA _ _ hA.1)] at hc1
   simp only [if_pos hn,← h.count (hBA _ _ hA.1),if_pos hc1]
   exact QKS hS (vf _ (by have:=hs.count;omega) (hBA _ _ (hA.2 h6)))
 · simp only [if_neg hn,if_neg (fun q=>hn (hc.2 q))]
   exact hS
theorem QAW {C:Int→Int→Prop} (hap:Wj apply) (hr:QN p=true) (hok:p.Ok) (hs:Vld p s) {x:Pck} (ha:x.alt∈Qn p s x.go) (hf:0≤fuel∧fuel≤4096)
 (hF:Foot C B p s x.go) (hBA:∀ k n,B k n→¬A k n):Ag A (take apply p s x fuel).1 s:=by
 have hg:=(live_iff.1 (Zm ha)).1
 have hO:=QHf hok (hs.wf hok hr) hg
 have hct:=hs.count
 rw [vz hap hr hok hs ha hf]
 have hd:=QIa (A:=A) hF hBA hO hg.1 (by omega) ha
 have hgA:¬A 5 x.go.toNat:=wh x.go hg.1 hF.own hBA
 simp only
 by_cases hw:(QG p s x.go x.alt).why≠0
 · rw [if_pos hw];exact hd.setGor1 _ hgA
 rw [if_neg hw]
 by_cases h0:(QG p s x.go x.alt).to_<0
 · rw [if_pos h0];exact hd
 rw [if_neg h0]
 have hS:Ag A (zO apply p fuel x.go (Z8 (QG p s x.go x.alt) x.go)) s:=QKT (hd.setGor1 _ hgA) hgA
 by_cases hn:s.count<(QG p s x.go x.alt).s.count
 · obtain ⟨h62,h6⟩:=xV hn
   simp only [if_pos hn]
   exact QKT hS (wh _ (by omega) ((hF.c62 h62).2 h6) hBA)
 · simp only [if_neg hn]
   exact hS
theorem yx (g:Int) (s:Stt):(zO apply p fuel g s).count=s.count:=by unfold zO;split<;>rfl
theorem QGM (hap:Wj apply) (hr:QN p=true) (hok:p.Ok) (hs:Vld p s) {x:Pck} (ha:x.alt∈Qn p s x.go) (hf:0≤fuel∧fuel≤4096):s.count≤(take apply p s x fuel).1.count:=by
 rw [vz hap hr hok hs ha hf]
 have:=UX p s x.go x.alt
 simp only
 by_cases hw:(QG p s x.go x.alt).why≠0
 · rw [if_pos hw];exact this
 rw [if_neg hw]
 by_cases h0:(QG p s x.go x.alt).to_<0
 · rw [if_pos h0];exact this
 rw [if_neg h0]
 simp only
 split
 · rw [yx,yx];exact this
 · rw [yx];exact this
theorem z8 (hap:Wj apply) (hr:QN p=true) (hok:p.Ok) (hs:Vld p s) {x y:Pck} (hx:x.alt∈Qn p s x.go) (hy:y.alt∈Qn p s y.go) (hf:0≤fuel∧fuel≤4096) (hxy:Apart (touch p s x.go) (touch p s y.go)) :
 Qn p (take apply p s x fuel).1 y.go=Qn p s y.go∧(take apply p (take apply p s x fuel).1 y fuel).2=(take apply p s y fuel).2 ∧
  Ag (Tch (touch p s y.go)) (take apply p s y fuel).1 (take apply p (take apply p s x fuel).1 y fuel).1 ∧
  (∀ A:Int→Int→Prop,(∀ k n,Wrt (touch p s y.go) k n→¬A k n)→Ag A (take apply p (take apply p s x fuel).1 y fuel).1 (take apply p s x fuel).1):=by
 have hg:=(live_iff.1 (Zm hy)).1
 have hO:=QHf hok (hs.wf hok hr) hg
 have hv:=QDn hap hr hok hs hx hf
 have hc:=QGM hap hr hok hs hx hf
 have hFx:=WG p s x.go
 have hFy:=WG p s y.go
 have h1:Ag (Tch (touch p s y.go)) s (take apply p s x fuel).1:=(QAW hap hr hok hs hx hf hFx (fun k n q=>(hxy k n).1 q)).symm
 have hal:=QHI h1 hFy (fun _ _=>Wrt.tch) hO hg (by omega)
 obtain ⟨h2,h3,h4⟩:=QPo hap hr hok hs hv hy hf h1 hFy (fun _ _=>Wrt.tch) (by omega)
 refine ⟨hal,h4,h3,fun A hA=>?_⟩
 have hFt:=WG p (take apply p s x fuel).1 y.go
 rw [QDk h1 hFy (fun _ _=>Wrt.tch) hg.1] at hFt
 exact QAW hap hr hok hv h2 hf hFt hA
theorem QB7 (hap:Wj apply) (hr:QN p=true) (hok:p.Ok) (hs:Vld p s) {x y:Pck} (hx:x.alt∈Qn p s x.go) (hy:y.alt∈Qn p s y.go) (hf:0≤fuel∧fuel≤4096) (hxy:Apart (touch p s x.go) (touch p s y.go)) :
 (take apply p (take apply p s x fuel).1 y fuel).1=(take apply p (take apply p s y fuel).1 x fuel).1:=by
 obtain ⟨_,_,h1,h2⟩:=z8 hap hr hok hs hx hy hf hxy
 obtain ⟨_,_,k1,k2⟩:=z8 hap hr hok hs hy hx hf hxy.symm
 have fx:∀ A:Int→Int→Prop,(∀ k n,Wrt (touch p s x.go) k n→¬A k n)→Ag A (take apply p s x fuel).1 s:=fun A hA=>QAW hap hr hok hs hx hf (WG p s x.go) hA
 have fy:∀ A:Int→Int→Prop,(∀ k n,Wrt (touch p s y.go) k n→¬A k n)→Ag A (take apply p s y fuel).1 s:=fun A hA=>QAW hap hr hok hs hy hf (WG p s y.go) hA
 have tr:∀ {A:Int→Int→Prop} {a b c:Stt},Ag A a b→Ag A b c→Ag A a c:=fun h k=>⟨h.lv.trans k.lv,h.lo.trans k.lo,h.lc.trans k.lc,h.lg.trans k.lg,fun i q=>(h.vars i q).trans (k.vars i q),fun i q=>(h.owner i q).trans (k.owner i q),fun i q=>(h.chans i q).trans (k.chans i q),fun i q=>(h.gos i q).trans (k.gos i q),fun q=>(h.count q).trans (k.count q)⟩
 have a1:Ag (Wrt (touch p s y.go)) (take apply p (take apply p s x fuel).1 y fuel).1 (take apply p (take apply p s y fuel).1 x fuel).1 :=
  tr ((h1.mono (fun _ _=>Wrt.tch)).symm) ((k2 _ (fun k n q r=>(hxy k n).1 q r.tch)).symm)
 have a2:Ag (Wrt (touch p s x.go)) (take apply p (take apply p s x fuel).1 y fuel).1 (take apply p (take apply p s y fuel).1 x fuel).1 :=
  tr (h2 _ (fun k n q r=>(hxy k n).2 q r.tch)) (k1.mono (fun _ _=>Wrt.tch))
 have a3:Ag (fun k n=>¬Wrt (touch p s x.go) k n∧¬Wrt (touch p s y.go) k n) (take apply p (take apply p s x fuel).1 y fuel).1 (take apply p (take apply p s y fuel).1 x fuel).1 :=
  tr (tr (h2 _ (fun k n q r=>r.2 q)) (fx _ (fun k n q r=>r.1 q))) (tr (k2 _ (fun k n q r=>r.1 q)) (fy _ (fun k n q r=>r.2 q))).symm
 refine Ag.ext ⟨a1.lv,a1.lo,a1.lc,a1.lg,fun i _=>?_,fun i _=>?_,fun i _=>?_,fun i _=>?_,fun _=>?_⟩
 · by_cases q:Wrt (touch p s x.go) 1 i;· exact a2.vars i q
   by_cases r:Wrt (touch p s y.go) 1 i;· exact a1.vars i r
   exact a3.vars i ⟨q,r⟩
 · by_cases q:Wrt (touch p s x.go) 2 i;· exact a2.owner i q
   by_cases r:Wrt (touch p s y.go) 2 i;· exact a1.owner i r
   exact a3.owner i ⟨q,r⟩
 · by_cases q:Wrt (touch p s x.go) 3 i;· exact a2.chans i q
   by_cases r:Wrt (touch p s y.go) 3 i;· exact a1.chans i r
   exact a3.chans i ⟨q,r⟩
 · by_cases q:Wrt (touch p s x.go) 5 i;· exact a2.gos i q
   by_cases r:Wrt (touch p s y.go) 5 i;· exact a1.gos i r
   exact a3.gos i ⟨q,r⟩
 · by_cases q:Wrt (touch p s x.go) 4 0;· exact a2.count q
   by_cases r:Wrt (touch p s y.go) 4 0;· exact a1.count r
   exact a3.count ⟨q,r⟩
end
theorem UP {p:Prg} {s:Stt} {x:Pck} {fuel:Int} (hf:0≤fuel∧fuel≤4096) (ha:x.alt∈Qn p s x.go):YO QB p s x fuel=((take QB p s x fuel).1,(take QB p s x fuel).2,0):=by
 have hh:has p s x=true:=decide_eq_true ha
 unfold YO
 rw [if_neg (by omega),if_neg (by rw [hh];decide)]
theorem QJA {apply:Int→Int→Int→Int × Int} {p:Prg} {s:Stt} {fuel:Int} (hap:Wj apply) (hr:QN p=true) (hok:p.Ok) (hs:Vld p s) {x y:Pck} (hx:x.alt∈Qn p s x.go) (hf:0≤fuel∧fuel≤4096)
 (hy:y.alt∈Qn p (take apply p s x fuel).1 y.go) (hxy:Apart (touch p s x.go) (touch p (take apply p s x fuel).1 y.go)) :
 y.alt∈Qn p s y.go∧touch p s y.go=touch p (take apply p s x fuel).1 y.go:=by
 have hv1:=QDn hap hr hok hs hx hf
 have hl:=live_iff.1 (Zm hy)
 have hg1:=hl.1
 have hA:Ag (Tch (touch p (take apply p s x fuel).1 y.go)) (take apply p s x fuel).1 s:=QAW hap hr hok hs hx hf (WG p s x.go) (fun k n q=>(hxy k n).1 q)
 have hF:=WG p (take apply p s x fuel).1 y.go
 have hgo:(take apply p s x fuel).1.gor y.go=s.gor y.go:=hA.gos y.go.toNat (vf y.go hg1.1 hF.own.tch)
 have hct:=hv1.count
 have hc:y.go<s.count:=by
  by_cases h:y.go<s.count
  · exact h
  · exfalso
    have hz:=hs.rest y.go.toNat (by omega) (by omega)
    have e:(take apply p s x fuel).1.gos.getD y.go.toNat default=s.gos.getD y.go.toNat default:=hgo
    rw [e,hz] at hl
    rcases hl.2 with q|q<;>exact absurd q (by decide)
 have hO:=QHf hok (hv1.wf hok hr) hg1
 have hal:=QHI hA hF (fun _ _=>Wrt.tch) hO hg1 hc
 exact ⟨by rw [hal];exact hy,QDk hA hF (fun _ _=>Wrt.tch) hg1.1⟩
theorem QIl {l:List Pck} {i k:Nat} (h:k≤i):(Qx l i).take k=l.take k:=by
 refine List.ext_getElem? fun j=>?_
 rw [List.getElem?_take,List.getElem?_take]
 by_cases hj:j<k
 · rw [if_pos hj,if_pos hj]
   unfold Qx
   rw [List.getElem?_set_ne (by omega),List.getElem?_set_ne (by omega)]
 · rw [if_neg hj,if_neg hj]
theorem QAb {l:List Pck} {i:Nat} (h:i+1<l.length):(Qx l i).getD i default=l.getD (i+1) default:=by
 unfold Qx
 rw [List.getD_eq_getElem?_getD,List.getElem?_set_ne (by omega),List.getElem?_set_self (by omega)]
 rfl
theorem QAa {l:List Pck} {i:Nat} (h:i+1<l.length):(Qx l i).getD (i+1) default=l.getD i default:=by
 unfold Qx
 rw [List.getD_eq_getElem?_getD,List.getElem?_set_self (by simpa using h)]
 rfl
theorem QAZ {l:List Pck} {i k:Nat} (h0:k≠i) (h1:k≠i+1):(Qx l i).getD k default=l.getD k default:=by
 unfold Qx
 rw [List.getD_eq_getElem?_getD,List.getElem?_set_ne (by omega),List.getElem?_set_ne (by omega),← List.getD_eq_getElem?_getD]
section
variable {p:Prg} {fuel:Int} {l:List Pck} {i:Nat}
theorem QKL (hr:QN p=true) (hf:0≤fuel∧fuel≤4096) {s0:Stt} (hv0:Vld p s0) (hi:i+1<l.length) (hok:∀ j,j<l.length→Z6 QB p fuel s0 l j=true)
 (hxy:Apart (touch p (QP QB p fuel s0 l i) (l.getD i default).go) (touch p (QP QB p fuel s0 l (i+1)) (l.getD (i+1) default).go)):Swapped p fuel s0 l i:=by
 have hk:=Prg.ok hr
 have hs:Vld p (QP QB p fuel s0 l i):=Wl Zd hr hk hf hv0 (by omega) (fun j hj=>hok j (by omega))
 have hx:=okAtR_iff.1 (hok i (by omega))
 have hy:=okAtR_iff.1 (hok (i+1) hi)
 generalize hse:QP QB p fuel s0 l i=s at *
 generalize hxe:l.getD i default=x at *
 generalize hye:l.getD (i+1) default=y at *
 have e1:QP QB p fuel s0 l (i+1)=(take QB p s x fuel).1:=by
  rw [YK QB p fuel s0 l (by omega),hse,hxe,UP hf hx]
 rw [e1] at hy hxy
 obtain ⟨hy0,ht⟩:=QJA Zd hr hk hs hx hf hy hxy
 rw [← ht] at hxy
 obtain ⟨a1,a2,_,_⟩:=z8 Zd hr hk hs hx hy0 hf hxy
 obtain ⟨b1,b2,_,_⟩:=z8 Zd hr hk hs hy0 hx hf hxy.symm
 have hc:=QB7 Zd hr hk hs hx hy0 hf hxy
 have hx2:x.alt∈Qn p (take QB p s y fuel).1 x.go:=by rw [b1];exact hx
 have e2:QP QB p fuel s0 l (i+2)=(take QB p (take QB p s x fuel).1 y fuel).1:=by
  rw [YK QB p fuel s0 l hi,e1,hye,UP hf hy]
 have hlen:=Xa l i
 have lo:∀ k,k≤i→QP QB p fuel s0 (Qx l i) k=QP QB p fuel s0 l k:=fun k h=>by
  unfold QP
  rw [QIl h]
 have f0:QP QB p fuel s0 (Qx l i) i=s:=(lo i (Nat.le_refl _)).trans hse
 have f1:QP QB p fuel s0 (Qx l i) (i+1)=(take QB p s y fuel).1:=by
  rw [YK QB p fuel s0 _ (by omega),f0,QAb hi,hye,UP hf hy0]
 have f2:QP QB p fuel s0 (Qx l i) (i+2)=QP QB p fuel s0 l (i+2):=by
  rw [YK QB p fuel s0 _ (by omega),f1,QAa hi,hxe,UP hf hx2,e2,hc]
 have hi2:∀ d,i+2+d≤l.length→QP QB p fuel s0 (Qx l i) (i+2+d)=QP QB p fuel s0 l (i+2+d):=by
  intro d
  induction d with
  | zero=>intro _;exact f2
  | succ d ih =>
    intro h
    rw [show i+2+(d+1)=(i+2+d)+1 from rfl,YK QB p fuel s0 _ (by omega),YK QB p fuel s0 l (by omega),ih (by omega),QAZ (by omega) (by omega)]
 have st:∀ k,k≤l.length→k≠i+1→QP QB p fuel s0 (Qx l i) k=QP QB p fuel s0 l k:=fun k h1 h2=>by
  by_cases h:k≤i
  · exact lo k h
  · have:=hi2 (k-(i+2)) (by omega)
    rwa [show i+2+(k-(i+2))=k by omega] at this
 refine ⟨fun j hj=>?_,st,?_,?_,fun j hj h0 h1=>?_,by rw [hse,hye];exact hy0⟩
 · rw [okAtR_iff]
   by_cases h0:j=i
   · subst h0
     rw [QAb hi,hye,f0];exact hy0
   · by_cases h1:j=i+1
     · subst h1
       rw [QAa hi,hxe,f1];exact hx2
     · rw [QAZ h0 h1,st j (by omega) h1]
       exact okAtR_iff.1 (hok j hj)
 · unfold Qy
   rw [f0,QAb hi,e1,hye,UP hf hy0,UP hf hy]
   exact a2.symm
 · unfold Qy
   rw [f1,QAa hi,hse,hxe,UP hf hx2,UP hf hx]
   exact b2
 · unfold Qy
   rw [st j (by omega) h1,QAZ h0 h1]
end
def QEe (a b:Access):Bool:=decide (a.kind=b.kind)&&decide (a.num=b.num)&&(a.write||b.write)
def QG8 (a b:List Access):Bool:=a.any fun x=>b.any fun y=>QEe x y
theorem QFy {a b:List Access} (h:QG8 a b=false):Apart a b:=by
 have key:∀ x∈a,∀ y∈b,x.kind=y.kind→x.num=y.num→x.write=false∧y.write=false:=by
  intro x hx y hy e1 e2
  have q:QEe x y=false:=by
   cases hb:QEe x y
   · rfl
   · have:QG8 a b=true:=by unfold QG8;exact List.any_eq_true.2 ⟨x,hx,List.any_eq_true.2 ⟨y,hy,hb⟩⟩
     rw [h] at this;cases this
  unfold QEe at q
  rw [e1,e2,decide_eq_true rfl,decide_eq_true rfl] at q
  simpa using q
 intro k n
 refine ⟨fun ⟨x,hx,e1,e2,e3⟩ ⟨y,hy,f1,f2⟩=>?_,fun ⟨y,hy,e1,e2,e3⟩ ⟨x,hx,f1,f2⟩=>?_⟩
 · have:=(key x hx y hy (e1.trans f1.symm) (e2.trans f2.symm)).1
   rw [e3] at this;cases this
 · have:=(key x hx y hy (f1.trans e1.symm) (f2.trans e2.symm)).2
   rw [e3] at this;cases this
theorem QLn {p:Prg} {s:Stt} {x:Pck} {v:Int} (h6:(touch p s x.go).length≤6):(event p s x v).of=touch p s x.go:=by
 show (Vf (touch p s x.go)).take (max 0 (min 6 ((touch p s x.go).length:Int))).toNat=_
 rw [show (max 0 (min 6 ((touch p s x.go).length:Int))).toNat=(touch p s x.go).length by omega]
 exact QAT h6
theorem QBT {p:Prg} {fuel:Int} {s0:Stt} {l:List Pck} {j:Nat} (hr:QN p=true) (hf:0≤fuel∧fuel≤4096) (hv:Vld p (QP QB p fuel s0 l j)) (h:Z6 QB p fuel s0 l j=true) :
 (Qy QB p fuel s0 l j).of=touch p (QP QB p fuel s0 l j) (l.getD j default).go:=by
 have ha:=okAtR_iff.1 h
 obtain ⟨v,hv2⟩:=QAd (apply:=QB) ha hf
 have ht:=QEu (Prg.ok hr) (hv.wf (Prg.ok hr) hr) (live_iff.1 (Zm ha)).1
 unfold Qy
 rw [hv2]
 exact QLn ht.2.2
theorem QME {p:Prg} {fuel:Int} {s0:Stt} {l:List Pck} {i j:Nat} (hr:QN p=true) (hf:0≤fuel∧fuel≤4096) (hvi:Vld p (QP QB p fuel s0 l i)) (hi:Z6 QB p fuel s0 l i=true) (hvj:Vld p (QP QB p fuel s0 l j)) (hj:Z6 QB p fuel s0 l j=true)
 (h:ZH (Qy QB p fuel s0 l i) (Qy QB p fuel s0 l j)=false):Apart (touch p (QP QB p fuel s0 l i) (l.getD i default).go) (touch p (QP QB p fuel s0 l j) (l.getD j default).go):=by
 unfold ZH at h
 rw [QBT hr hf hvi hi,QBT hr hf hvj hj] at h
 exact QFy h
theorem QAX {p:Prg} {fuel:Int} {s0:Stt} {l:List Pck} {i:Nat} (hr:QN p=true) (hf:0≤fuel∧fuel≤4096) (hv0:Vld p s0) (hi:i+1<l.length) (hok:∀ j,j<l.length→Z6 QB p fuel s0 l j=true)
 (h:ZH (Qy QB p fuel s0 l i) (Qy QB p fuel s0 l (i+1))=false):Swapped p fuel s0 l i:=by
 have hv:∀ k,k≤l.length→Vld p (QP QB p fuel s0 l k):=fun k hk=>Wl Zd hr (Prg.ok hr) hf hv0 hk (fun j hj=>hok j (by omega))
 exact QKL hr hf hv0 hi hok (QME hr hf (hv i (by omega)) (hok i (by omega)) (hv (i+1) (by omega)) (hok (i+1) hi) h)
end Go.Eng
