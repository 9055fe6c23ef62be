/- A part of the proof: walks through the program's functions, and what they compute. -/
import Derived.Test.YtedceinkpkoncaaGreatDoorPk2
import Derived.Lib.SliceRun
set_option linter.unusedSimpArgs false
set_option linter.unusedVariables false
namespace Go.Eng
open Go.RowKit
variable {P:Program} {T:Tab} {w w':World} {w0:Base T} {F:Nat→Prop} {ρ:Nat→RI} {σ:St} {a:Act} {outs:List (Array Value)}
theorem pickA_sound (hR:Rel T w F ρ w0 σ a.tmps outs) {g:Bool} {c x y:Operand} {K:E→Prop} (h:pickA σ g c x y K) :
 ∃ e,K e∧(g=true→Yields1 P T w F ρ a (.pick c x y) e):=by
 obtain ⟨ec,h1,hc⟩:=evalO_sound hR h
 split at h1;rotate_left;· exact h1.elim
 rename_i cb
 obtain ⟨ea,h2,ha⟩:=evalO_sound hR h1
 obtain ⟨eb,h3,hb⟩:=evalO_sound hR h2
 have run:∀ W:World,g=true→∀ o:Oper,o.op=.pick c x y→(execOp a.eval o).run P W=.ok (.value (if cb then a.eval x else a.eval y)) W:=by
  intro W hg o ho
  have hcv:a.eval c=.bool cb:=hc hg
  simp [execOp,ho,hcv,asBool]
 split at h3
 · rename_i p q
   refine ⟨_,h3,fun hg=>⟨_,?_,fun W _=>run W hg⟩⟩
   cases cb
   · exact hb (by simp [hg])
   · exact ha (by simp [hg])
 · rename_i k p k' q
   obtain ⟨rfl,h3⟩:=h3
   refine ⟨_,h3,fun hg=>⟨_,?_,fun W _=>run W hg⟩⟩
   cases cb
   · exact hb (by simp [hg])
   · exact ha (by simp [hg])
 · exact h3.elim
theorem loadA_sound (hP:TabOk P T) (hR:Rel T w F ρ w0 σ a.tmps outs) {g:Bool} {t:TypeId} {x:Operand} {ex:E} {K:E→Prop} (hx:g=true→ERel T w F ρ ex (a.eval x)) (h:loadA T σ g t ex K) :
 ∃ e,K e∧(g=true→Yields1 P T w F ρ a (.load t x) e):=by
 have fin:∀ (W:World) (b off:Nat) (cs:List Value) (v:Value),a.eval x=.pointer (some ⟨b,off,none⟩)→Seg W b off cs→T.ty t≠.other→cs.length=T.sz t→ValOf T t v cs →
  ∀ o:Oper,o.op=.load t x→(execOp a.eval o).run P W=.ok (.value v) W:=by
  intro W b off cs v hv hs ht hl hval o ho
  simp [execOp,ho,hv,Instr.loadAt,Instr.sureAddr,run_loadVar_seg hP ht hs hl hval]
 unfold loadA at h
 split at h
 · rename_i t' v
   obtain ⟨rfl,h⟩:=h
   refine ⟨_,h,fun hg=>?_⟩
   obtain ⟨b,off,cs,h1,h2,h3,h4⟩:=hx hg
   obtain ⟨y,hy⟩:=valOf_take hP.sized h4
   exact ⟨y,fromV_rel h4 hy,fun W hW=>fin W b off cs y h1 (h3.later (hR.fsub b h2) hW) h4.notOther (h4.len hP.sized) hy⟩
 · rename_i i p t'
   obtain ⟨rfl,h⟩:=h
   split at h;rotate_left;· exact h.elim
   rename_i tv e ho
   have hob:=hR.ob _ _ ho
   cases p with
   | nil =>
     refine ⟨_,h,fun hg=>?_⟩
     obtain ⟨b,root,off,h1,h2,h3⟩:=hx hg
     rw [h1] at hob
     obtain ⟨⟨q1,q1',_⟩,q2,q3,cs,ct,v,q4,q5,q6,q7⟩:=hob
     cases h2
     subst q1
     have hlt:b<w.heap.size:=(Array.getElem?_eq_some_iff.1 q4).1
     exact ⟨v,q5,fun W hW=>fin W b 0 cs.toList v h3 (seg_all ((hW.block b hlt).trans q4)) q1' (by simpa using q6.1) q6.valOf⟩
   | cons k p =>
     simp only at h
     split at h
     rotate_left
     · rename_i ta l
       split at h;rotate_left;· exact h.elim
       rename_i k' hp
       cases hp
       obtain ⟨rfl,h⟩:=h
       split at h;rotate_left;· exact h.elim
       rename_i el hk
       refine ⟨_,h,fun hg=>?_⟩
       obtain ⟨b,root,off,h1,h2,h3⟩:=hx hg
       rw [h1] at hob
       obtain ⟨⟨q1,q1',q1''⟩,q2,q3,cs,ct,y,q4,q5,q6,q7⟩:=hob
       obtain ⟨ts,vs,cs',hts,rfl,h5,h6⟩:=q5
       subst q1
       have hcs:cs'=cs:=by have:=q6.2;rw [if_pos (by rw [hts];rfl)] at this;simpa using this
       subst hcs
       have hlt:b<w.heap.size:=(Array.getElem?_eq_some_iff.1 q4).1
       obtain ⟨ho1,ho2,ho3⟩:ts[k]?=some t'∧T.ty t'≠.other∧off=T.offs ts k:=by
        cases h2 with
        | fld a1 a2 a3 =>
          cases a1
          rw [hts] at a2
          cases a2
          obtain ⟨fs,f1,f2,f3,f4⟩:=hP.struct _ _ hts
          have hk2:=a3
          rw [← f2,List.getElem?_map] at hk2
          cases hfk:fs.toList[k]? with
          | none=>rw [hfk] at hk2;cases hk2
          | some f =>
            rw [hfk] at hk2
            simp at hk2
            refine ⟨a3,?_,Nat.zero_add _⟩
            rw [← hk2]
            exact (f4 k f (by simpa using hfk)).2.2.2
        | idx a1 a2 a3 =>
          cases a1
          rw [hts] at a2
          cases a2
       obtain ⟨z,z1,z2,z3⟩:=h6.nth ho1
       have hkl:k<l.length:=(List.getElem?_eq_some_iff.1 hk).1
       obtain ⟨z',y1,y2⟩:=h5.at hkl
       have:z'=z:=by rw [y1] at z1;simpa using z1
       subst this
       have hel:l.getD k .undef=el:=by rw [List.getD_eq_getElem?_getD,hk];rfl
       rw [hel] at y2
       refine ⟨z',y2,fun W hW=>fin W b off z'.cells.toList z' h3 ?_ ho2 (by simpa using z2.1) z2.valOf⟩
       rw [ho3,← z3]
       exact seg_of_cells ((hW.block b hlt).trans q4) _ _
     · exact h.elim
     rename_i td v
     refine ⟨_,h,fun hg=>?_⟩
     obtain ⟨b,root,off,h1,h2,h3⟩:=hx hg
     rw [h1] at hob
     obtain ⟨⟨q1,q1',q1''⟩,q2,q3,cs,ct,y,q4,q5,q6,q7⟩:=hob
     obtain ⟨cs',rfl,hA,hf⟩:=q5
     have:=q1'' _ _ rfl
     subst this
     subst q1
     have hcs:cs'=cs:=by have:=q6.2;rw [if_pos hA] at this;simpa using this
     subst hcs
     have hlt:b<w.heap.size:=(Array.getElem?_eq_some_iff.1 q4).1
     obtain ⟨g1,g2⟩:=h2.get hP.sized hf
     obtain ⟨z,hz⟩:=valOf_take hP.sized g1
     exact ⟨z,fromV_rel g1 hz,fun W hW=>fin W b off _ z h3 (seg_of_cells ((hW.block b hlt).trans q4) off _) g1.notOther (g1.len hP.sized) hz⟩
 · rename_i i j p t'
   obtain ⟨rfl,h⟩:=h
   split at h
   rotate_left
   · rename_i e l ho
     obtain ⟨⟨rfl,rfl,hj⟩,h⟩:=h
     have hob:=hR.ob _ _ ho
     refine ⟨_,h,fun hg=>?_⟩
     have hj:=hj hg
     obtain ⟨b,e',n,cap,off,h1,h2,h3⟩:=hx hg
     rw [h1] at hob
     obtain ⟨rfl,q2,⟨z1,z2,z3⟩,xs,q3,q4,q5⟩:=hob
     cases h2
     rcases q3.2 with ⟨q,_⟩|⟨b',cap',cur,hr,hb,hh,hn,hc,hs,htk⟩
     · cases q
     · cases hr
       have hlt:b<w.heap.size:=(Array.getElem?_eq_some_iff.1 hh).1
       obtain ⟨z,hz1,hz2⟩:=q4.at hj
       refine ⟨z,hz2,fun W hW=>?_⟩
       have hxs:Seg W b 0 xs:=by
        have:=seg_of_cells (w:=W) ((hW.block b hlt).trans hh) 0 (l.length*T.sz e')
        rw [List.drop_zero,htk] at this
        exact this
       have hseg:Seg W b (j*T.sz e'+0) [z]:=by
        intro k y hy
        have hk:k=0:=by
         have:=(List.getElem?_eq_some_iff.1 hy).1
         simp at this;omega
        subst hk
        simp at hy
        subst hy
        have:=hxs j z hz1
        rw [z1]
        simpa using this
       exact fin W b _ [z] z h3 hseg z3 (by rw [z1];rfl) (by unfold ValOf;rw [z2];rfl)
   · exact h.elim
   rename_i e l ho
   have hob:=hR.ob _ _ ho
   refine ⟨_,h.2,fun hg=>?_⟩
   have hj:=h.1 hg
   obtain ⟨b,e',n,cap,off,h1,h2,h3⟩:=hx hg
   rw [h1] at hob
   obtain ⟨rfl,q2,xs,q3,q4⟩:=hob
   rcases q3.2 with ⟨q,_⟩|⟨b',cap',cur,hr,hb,hh,hn,hc,hs,htk⟩
   · cases q
   · cases hr
     have hlt:b<w.heap.size:=(Array.getElem?_eq_some_iff.1 hh).1
     have hrep:(List.replicate l.length e')[j]?=some e':=by simp [hj]
     have hel:=q4.nth hP.sized hrep
     rw [offs_replicate T _ j e' (by omega)] at hel
     obtain ⟨g1,g2⟩:=h2.get hP.sized hel
     obtain ⟨z,hz⟩:=valOf_take hP.sized g1
     refine ⟨z,fromV_rel g1 hz,fun W hW=>?_⟩
     have hseg:Seg W b (j*T.sz e'+off) (((xs.drop (j*T.sz e')).take (T.sz e')).drop off |>.take (T.sz t')):=by
      have hxs:Seg W b 0 xs:=by
       have:=seg_of_cells (w:=W) ((hW.block b hlt).trans hh) 0 (l.length*T.sz e')
       rw [List.drop_zero,htk] at this
       exact this
      have s1:=(hxs.sub (j*T.sz e') (T.sz e')).sub off (T.sz t')
      rwa [Nat.zero_add] at s1
     exact fin W b _ _ z h3 hseg g1.notOther (g1.len hP.sized) hz
 · exact h.elim
theorem fieldAddrA_sound (hP:TabOk P T) {g:Bool} {s:TypeId} {k:Nat} {x:Operand} {ex:E} {K:E→Prop} (hx:g=true→ERel T w F ρ ex (a.eval x)) (h:fieldAddrA T s k ex K) :
 ∃ e,K e∧(g=true→Yields1 P T w F ρ a (.fieldAddr s x k) e):=by
 unfold fieldAddrA at h
 split at h;rotate_left;· exact h.elim
 rename_i ts hs
 split at h;rotate_left;· exact h.elim
 rename_i u hu
 obtain ⟨fs,f1,f2,_,f3⟩:=hP.struct _ _ hs
 obtain ⟨f,hf⟩:∃ f,fs[k]?=some f:=by
  have:fs.toList[k]?.map (·.type)=some u:=by rw [← List.getElem?_map,f2];exact hu
  cases hk:fs[k]? with
  | none=>simp [hk] at this
  | some f=>exact ⟨f,rfl⟩
 have hfu:f.type=u:=by
  have:fs.toList[k]?.map (·.type)=some u:=by rw [← List.getElem?_map,f2];exact hu
  simpa [hf] using this
 obtain ⟨o1,o2,_,hno⟩:=f3 k f hf
 have run:∀ (W:World) (b off:Nat),a.eval x=.pointer (some ⟨b,off,none⟩)→∀ o:Oper,o.op=.fieldAddr s x k →
  (execOp a.eval o).run P W=.ok (.value (.pointer (some ⟨b,off+T.offs ts k,none⟩))) W:=by
  intro W b off hv o ho
  have hne:¬ T.sz f.type=0:=by omega
  simp [execOp,ho,hv,Instr.fieldAt,Instr.sureAddr,run_underlying f1,hf,fieldPlace,run_sizeOf hP hno,hne,addr_add,o1]
 split at h
 · rename_i i p s'
   obtain ⟨rfl,h⟩:=h
   refine ⟨_,h,fun hg=>?_⟩
   obtain ⟨b,root,off,h1,h2,h3⟩:=hx hg
   exact ⟨_,⟨b,root,_,h1,.fld h2 hs hu,rfl⟩,fun W _=>run W b off h3⟩
 · rename_i i j p s'
   obtain ⟨rfl,h⟩:=h
   refine ⟨_,h,fun hg=>?_⟩
   obtain ⟨b,e,n,cap,off,h1,h2,h3⟩:=hx hg
   exact ⟨_,⟨b,e,n,cap,_,h1,.fld h2 hs hu,rfl⟩,fun W _=>by rw [← Nat.add_assoc];exact run W b _ h3⟩
 · rename_i s' v
   obtain ⟨rfl,h⟩:=h
   refine ⟨_,h,fun hg=>?_⟩
   obtain ⟨b,off,cs,h1,h2,h3,h4⟩:=hx hg
   obtain ⟨l,rfl,h5⟩:=h4.inv' hs
   exact ⟨_,⟨b,off+T.offs ts k,_,rfl,h2,h3.sub _ _,h5.nth hP.sized hu⟩,fun W _=>run W b off h1⟩
 · exact h.elim
theorem indexAddrA_sound (hP:TabOk P T) {g:Bool} {t:TypeId} {x y:Operand} {ex:E} {k:IntKind} {n:Int} {K:E→Prop} (hx:g=true→ERel T w F ρ ex (a.eval x))
 (hy:g=true→a.eval y=.int k n) (h:indexAddrA T g t ex n K):∃ e,K e∧(g=true→Yields1 P T w F ρ a (.indexAddr t x y) e):=by
 unfold indexAddrA at h
 split at h
 · rename_i m e ht
   obtain ⟨hu,h1m,hse,hno⟩:=hP.arr _ _ _ ht
   obtain ⟨hb,h⟩:=h
   have run:∀ (W:World) (b off:Nat),g=true→a.eval x=.pointer (some ⟨b,off,none⟩)→∀ o:Oper,o.op=.indexAddr t x y →
    (execOp a.eval o).run P W=.ok (.value (.pointer (some ⟨b,off+n.toNat*T.sz e,none⟩))) W:=by
    intro W b off hg hv o ho
    obtain ⟨b1,b2⟩:=hb hg
    simp [execOp,ho,hv,hy hg,Instr.indexAt,asIntOf,Instr.sureAddr,run_underlying hu,run_sizeOf hP hno,b1,b2,addr_add]
   have hlt:g=true→n.toNat<m:=fun hg=>by have:=hb hg;omega
   split at h
   · rename_i j p t'
     obtain ⟨rfl,h⟩:=h
     refine ⟨_,h,fun hg=>?_⟩
     obtain ⟨b,root,off,h1,h2,h3⟩:=hx hg
     exact ⟨_,⟨b,root,_,h1,.idx h2 ht (hlt hg),rfl⟩,fun W _=>run W b off hg h3⟩
   · rename_i j q p t'
     obtain ⟨rfl,h⟩:=h
     refine ⟨_,h,fun hg=>?_⟩
     obtain ⟨b,e',n',cap,off,h1,h2,h3⟩:=hx hg
     exact ⟨_,⟨b,e',n',cap,_,h1,.idx h2 ht (hlt hg),rfl⟩,fun W _=>by rw [← Nat.add_assoc];exact run W b _ hg h3⟩
   · rename_i t' v
     obtain ⟨rfl,h⟩:=h
     refine ⟨_,h,fun hg=>?_⟩
     obtain ⟨b,off,cs,h1,h2,h3,h4⟩:=hx hg
     obtain ⟨l,rfl,h5⟩:=h4.inv' ht
     have hrep:(List.replicate m e)[n.toNat]?=some e:=by simp [hlt hg]
     have h6:=h5.nth hP.sized hrep
     rw [offs_replicate T _ _ e (Nat.le_of_lt (hlt hg))] at h6
     exact ⟨_,⟨b,off+n.toNat*T.sz e,_,rfl,h2,h3.sub _ _,h6⟩,fun W _=>run W b off hg h1⟩
   · exact h.elim
 · rename_i e ht
   obtain ⟨hu,hno⟩:=hP.slice _ _ ht
   have run:∀ (W:World) (b off len cap:Nat),g=true→a.eval x=.slice (some ⟨b,off,none⟩) len cap→0≤n→n<len→∀ o:Oper,o.op=.indexAddr t x y →
    (execOp a.eval o).run P W=.ok (.value (.pointer (some ⟨b,off+n.toNat*T.sz e,none⟩))) W:=by
    intro W b off len cap hg hv b1 b2 o ho
    simp [execOp,ho,hv,hy hg,Instr.indexAt,asIntOf,run_underlying hu,run_sizeOf hP hno,b1,b2,addr_add]
   split at h
   · rename_i e' l c
     obtain ⟨rfl,hb,h⟩:=h
     refine ⟨_,h,fun hg=>?_⟩
     obtain ⟨b1,b2⟩:=hb hg
     rcases hx hg with ⟨_,_,h1,h2,_⟩|⟨b,off,cap,cs,h1,h2,h3,h4,h5,h6⟩
     · subst h2;simp at b2;omega
     · have hlt:n.toNat<l.length:=by omega
       have hrep:(List.replicate l.length e')[n.toNat]?=some e':=by simp [hlt]
       have h7:=h6.nth hP.sized hrep
       rw [offs_replicate T _ _ e' (Nat.le_of_lt hlt)] at h7
       exact ⟨_,⟨b,off+n.toNat*T.sz e',_,rfl,h4,h5.sub _ _,h7⟩,fun W _=>run W b off _ cap hg h1 b1 b2⟩
   · rename_i j e' lo len c
     obtain ⟨rfl,hb,h⟩:=h
     refine ⟨_,h,fun hg=>?_⟩
     obtain ⟨b1,b2⟩:=hb hg
     rcases hx hg with ⟨h1,h2,h3,h4⟩|⟨b,n',cap,off,h1,h2,h3,h4,h5,h6⟩
     · omega
     · have hoff:off=lo*T.sz e':=by rcases h6 with h6|h6<;>omega
       refine ⟨_,⟨b,e',n',cap,0,h1,.nil,rfl⟩,fun W _=>?_⟩
       have:=run W b off len _ hg h4 b1 b2
       rw [hoff,← Nat.add_mul] at this
       exact this
   · exact h.elim
 · exact h.elim
theorem fieldA_run (hP:TabOk P T) {s:TypeId} {ts:List TypeId} (hs:T.ty s=.struct ts) {k:Nat} {u:TypeId} (hu:ts[k]?=some u) {cs:Array Value} {v:V} (hf:Fits T w F s v cs.toList) :
 ∃ y,ERel T w F ρ (fromV T u (v.sub k)) y∧∀ W,(Instr.field s (.agg cs) k).run P W=.ok y W:=by
 obtain ⟨fs,f1,f2,_,f3⟩:=hP.struct _ _ hs
 have hk:fs.toList[k]?.map (·.type)=some u:=by rw [← List.getElem?_map,f2];exact hu
 obtain ⟨f,hfk⟩:∃ f,fs[k]?=some f:=by
  cases hk':fs[k]? with
  | none=>simp [hk'] at hk
  | some f=>exact ⟨f,rfl⟩
 have hfu:f.type=u:=by simpa [hfk] using hk
 obtain ⟨o1,o2,_,hno⟩:=f3 k f hfk
 obtain ⟨l,rfl,fl⟩:=hf.inv' hs
 have n1:=fl.nth hP.sized hu
 subst hfu
 rw [← o1] at n1
 obtain ⟨y,_,hy⟩:=part_run hP n1 default
 refine ⟨y,fromV_rel n1 hy,fun W=>?_⟩
 obtain ⟨y',hr,hy'⟩:=part_run hP n1 W
 have:y'=y:=by
  unfold ValOf at hy hy'
  split at hy
  · rename_i hA;rw [if_pos hA] at hy';rw [hy,hy']
  · rename_i hA;rw [if_neg hA] at hy';rw [hy] at hy';simpa using hy'.symm
 subst this
 simp [Instr.field,run_underlying f1,hfk,asAgg,hr]
theorem indexA_sound (hP:TabOk P T) {g:Bool} {t:TypeId} {x y:Operand} {ex:E} {k:IntKind} {n:Int} {K:E→Prop} (hx:g=true→ERel T w F ρ ex (a.eval x))
 (hy:g=true→a.eval y=.int k n) (h:indexA T g t ex n K):∃ e,K e∧(g=true→Yields1 P T w F ρ a (.index t x y) e):=by
 unfold indexA at h
 split at h
 · rename_i m e ht
   obtain ⟨hu,h1m,hse,hno⟩:=hP.arr _ _ _ ht
   split at h;rotate_left;· exact h.elim
   rename_i t' v
   obtain ⟨rfl,hb,h⟩:=h
   refine ⟨_,h,fun hg=>?_⟩
   obtain ⟨b1,b2⟩:=hb hg
   obtain ⟨cs,h1,h2,h3⟩:=hx hg
   obtain ⟨l,rfl,h4⟩:=h3.inv' ht
   have hlt:n.toNat<m:=by omega
   have hrep:(List.replicate m e)[n.toNat]?=some e:=by simp [hlt]
   have n1:=h4.nth hP.sized hrep
   rw [offs_replicate T _ _ e (Nat.le_of_lt hlt)] at n1
   obtain ⟨z,_,hz⟩:=part_run hP n1 default
   refine ⟨z,fromV_rel n1 hz,fun W _ o ho=>?_⟩
   obtain ⟨z',hr,hz'⟩:=part_run hP n1 W
   have:z'=z:=by
    unfold ValOf at hz hz'
    split at hz
    · rename_i hA;rw [if_pos hA] at hz';rw [hz,hz']
    · rename_i hA;rw [if_neg hA] at hz';rw [hz] at hz';simpa using hz'.symm
   subst this
   simp [execOp,ho,h1,hy hg,Instr.index,asIntOf,run_underlying hu,b1,b2,run_sizeOf hP hno,hr]
 · rename_i ht
   split at h;rotate_left;· exact h.elim
   rename_i s
   obtain ⟨hb,h⟩:=h
   refine ⟨_,h,fun hg=>?_⟩
   obtain ⟨b1,b2⟩:=hb hg
   have h1:a.eval x=.string s:=hx hg
   have hlt:n.toNat<s.size:=by omega
   have hlt':n.toNat<s.data.size:=hlt
   refine ⟨_,⟨rfl,?_⟩,fun W _ o ho=>?_⟩
   · have:=UInt8.toNat_lt ((s.data[n.toNat]?).getD 0)
     simp [IntKind.has,IntKind.min,IntKind.max,IntKind.signed,IntKind.bits]
     omega
   · have hg2:s[n.toNat]?=some s[n.toNat]:=by simp [hlt]
     have hd:s.data[n.toNat]?=some s[n.toNat]:=by rw [Array.getElem?_eq_getElem hlt'];rfl
     rw [hd]
     simp [execOp,ho,h1,hy hg,Instr.index,asIntOf,run_underlying (hP.str _ ht),b1,hg2]
 · exact h.elim
end Go.Eng
namespace Go.Eng
open Go.RowKit
variable {P:Program} {T:Tab} {w w':World} {w0:Base T} {F:Nat→Prop} {ρ:Nat→RI} {σ:St} {a:Act} {outs:List (Array Value)}
theorem bounds_run {isS:Bool} {len cap:Nat} {lo hi mx:Option Operand} {A B M:Int} (hlo:OptIs a lo 0 A) (hhi:OptIs a hi len B) (hmx:OptIs a mx B M)
 (h0:0≤A) (h1:A≤B) (h2:B≤len) (h3:len≤cap) (h4:mx.isSome=true→B=M) (h5:mx.isSome=true→hi.isSome=true) (W:World) :
 (Instr.sliceBounds isS len cap (lo.map a.eval) (hi.map a.eval) (mx.map a.eval)).run P W=.ok (A.toNat,B.toNat,if mx.isSome then M.toNat else cap) W:=by
 have c1:B≤(cap:Int):=by omega
 have c2:0≤B:=by omega
 have cm:max B 0=B:=by omega
 unfold OptIs at hlo hhi hmx
 cases mx with
 | none =>
   cases hi with
   | none =>
     cases lo with
     | none=>simp at hlo hhi;subst hlo;subst hhi;simp [Instr.sliceBounds]
     | some o=>obtain ⟨k,hk⟩:=hlo;simp at hhi;subst hhi;simp [Instr.sliceBounds,Instr.sliceBound,hk,asIntOf,h0,h1]
   | some p =>
     obtain ⟨k,hk⟩:=hhi
     cases lo with
     | none=>simp at hlo;subst hlo;simp [Instr.sliceBounds,Instr.sliceBound,hk,asIntOf,c1,c2]
     | some o =>
       obtain ⟨k',hk'⟩:=hlo
       simp [Instr.sliceBounds,Instr.sliceBound,hk,hk',asIntOf,c1,c2,h0,cm,h1]
 | some q =>
   obtain ⟨k2,hk2⟩:=hmx
   have hBM:=h4 rfl
   subst hBM
   cases hi with
   | none=>simp at h5
   | some p =>
     obtain ⟨k,hk⟩:=hhi
     cases lo with
     | none=>simp at hlo;subst hlo;simp [Instr.sliceBounds,Instr.sliceBound,hk,hk2,asIntOf,c1,c2,cm]
     | some o =>
       obtain ⟨k',hk'⟩:=hlo
       simp [Instr.sliceBounds,Instr.sliceBound,hk,hk',hk2,asIntOf,c1,c2,cm,h0,h1]
theorem sliceA_sound (hP:TabOk P T) (hR:Rel T w F ρ w0 σ a.tmps outs) {g:Bool} {t:TypeId} {x:Operand} {lo hi mx:Option Operand} {ex:E} {K:E→Prop}
 (hx:g=true→ERel T w F ρ ex (a.eval x)) (h:sliceA T σ g t ex lo hi mx K) (hmh:mx.isSome=true→hi.isSome=true) :
 ∃ e,K e∧(g=true→Yields1 P T w F ρ a (.slice t x lo hi mx) e):=by
 unfold sliceA at h
 split at h
 · rename_i e ht
   obtain ⟨hu,hno⟩:=hP.slice _ _ ht
   split at h
   · rename_i e' l c
     obtain ⟨rfl,h⟩:=h
     obtain ⟨A,h,hA⟩:=evalOptI_sound hR h
     obtain ⟨B,h,hB⟩:=evalOptI_sound hR h
     obtain ⟨M,h,hM⟩:=evalOptI_sound hR h
     obtain ⟨hb,h⟩:=h
     refine ⟨_,h,fun hg=>?_⟩
     obtain ⟨b0,b1,b2,b3⟩:=hb hg
     have run:∀ (W:World) (b off cap:Nat),a.eval x=.slice (some ⟨b,off,none⟩) l.length cap→l.length≤cap→∀ o:Oper,o.op=.slice t x lo hi mx →
      (execOp a.eval o).run P W=.ok (.value (.slice (some ⟨b,if (if mx.isSome then M.toNat else cap)=A.toNat then off else off+A.toNat*T.sz e',none⟩) (B.toNat-A.toNat) ((if mx.isSome then M.toNat else cap)-A.toNat))) W:=by
      intro W b off cap hv hc o ho
      have hbr:=bounds_run (P:=P) (isS:=true) (hA hg) (hB hg) (hM hg) b0 b1 b2 hc b3 hmh W
      by_cases hm:(if mx.isSome then M.toNat else cap)=A.toNat
      · simp [execOp,ho,hv,Instr.sliceAt,Instr.slice,run_underlying hu,hbr,run_sizeOf hP hno,hm]
      · simp [execOp,ho,hv,Instr.sliceAt,Instr.slice,run_underlying hu,hbr,run_sizeOf hP hno,hm,addr_add]
     rcases hx hg with ⟨ad,c0,h1,h2,h3,h4⟩|⟨b,off,cap,cs,h1,h2,h3,h4,h5,h6⟩
     · subst h2
       simp only [List.length_nil] at b2 hB
       have e1:A=0:=by omega
       have e2:B=0:=by omega
       subst e1;subst e2
       have hbr:=fun W=>bounds_run (P:=P) (isS:=true) (len:=0) (cap:=c0) (hA hg) (hB hg) (hM hg) (by omega) (by omega) (by omega) (by omega) b3 hmh W
       refine ⟨.slice ad 0 (if mx.isSome then M.toNat else c0),.inl ⟨ad,_,rfl,by simp,fun h=>?_,fun h=>?_⟩,fun W _ o ho=>?_⟩
       · split
         · rename_i q;have:=b3 q;omega
         · exact h3 h
       · simp only [List.length_nil,Int.natCast_zero,decide_true,Bool.and_true,Bool.or_eq_true] at h
         split
         · rename_i q;have:=b3 q;omega
         · rename_i q;exact h4 (h.resolve_left q)
       · have hbr:=hbr W
         simp only [Int.toNat_zero] at hbr
         cases ad with
         | none =>
           have hm0:(if mx.isSome then M.toNat else c0)=0:=by
            split
            · rename_i q;have:=b3 q;omega
            · exact h3 rfl
           rw [hm0] at hbr ⊢
           simp [execOp,ho,h1,Instr.sliceAt,Instr.slice,run_underlying hu,hbr,run_sizeOf hP hno]
         | some ad=>simp [execOp,ho,h1,Instr.sliceAt,Instr.slice,run_underlying hu,hbr,run_sizeOf hP hno,Addr.add]
     · refine ⟨_,.inr ⟨b,if (if mx.isSome then M.toNat else cap)=A.toNat then off else off+A.toNat*T.sz e',(if mx.isSome then M.toNat else cap)-A.toNat,(cs.drop (A.toNat*T.sz e')).take ((B.toNat-A.toNat)*T.sz e'),?_,?_,?_,h4,?_,?_⟩,fun W _=>run W b off cap h1 h2⟩
       · have:((l.drop A.toNat).take (B.toNat-A.toNat)).length=B.toNat-A.toNat:=by simp;omega
         rw [this]
       · have:((l.drop A.toNat).take (B.toNat-A.toNat)).length=B.toNat-A.toNat:=by simp;omega
         rw [this]
         split
         · rename_i q;have:=b3 q;omega
         · omega
       · intro hc
         have:((l.drop A.toNat).take (B.toNat-A.toNat)).length=B.toNat-A.toNat:=by simp;omega
         rw [this]
         simp only [Bool.or_eq_true,Bool.and_eq_true,decide_eq_true_eq] at hc
         split
         · rename_i q;have:=b3 q;omega
         · rename_i q
           rcases hc with hc|⟨hc1,hc2⟩
           · exact absurd hc q
           · have:=h3 hc1;omega
       · by_cases hm:(if mx.isSome then M.toNat else cap)=A.toNat
         · have:B.toNat-A.toNat=0:=by
            split at hm
            · rename_i q;have:=b3 q;omega
            · omega
           rw [this]
           intro j y hy
           simp at hy
         · rw [if_neg hm]
           exact h5.sub _ _
       · have:((l.drop A.toNat).take (B.toNat-A.toNat)).length=B.toNat-A.toNat:=by simp;omega
         rw [this]
         exact h6.slice hP.sized (by omega)
   · rename_i i e' l0 len c
     obtain ⟨rfl,h⟩:=h
     obtain ⟨A,h,hA⟩:=evalOptI_sound hR h
     obtain ⟨B,h,hB⟩:=evalOptI_sound hR h
     obtain ⟨M,h,hM⟩:=evalOptI_sound hR h
     obtain ⟨hb,hcl,h⟩:=h
     refine ⟨_,h,fun hg=>?_⟩
     obtain ⟨b0,b1,b2,b3⟩:=hb hg
     rcases hx hg with ⟨h1,h2,h3,h4⟩|⟨b,n,cap,off,h1,h2,h3,h4,h5,h6⟩
     · subst h3;subst h4
       have e1:A=0:=by omega
       have e2:B=0:=by omega
       subst e1;subst e2
       refine ⟨.slice none 0 0,.inl ⟨h1,rfl,rfl,rfl⟩,fun W _ o ho=>?_⟩
       have hbr:=bounds_run (P:=P) (isS:=true) (len:=0) (cap:=0) (hA hg) (hB hg) (hM hg) (by omega) (by omega) (by omega) (by omega) b3 hmh W
       have hm0:(if mx.isSome then M.toNat else 0)=0:=by
        split
        · rename_i q;have:=b3 q;omega
        · rfl
       simp only [hm0,Int.toNat_zero] at hbr
       simp [execOp,ho,h2,Instr.sliceAt,Instr.slice,run_underlying hu,hbr,run_sizeOf hP hno]
     · generalize hcap:(if c=true then len else cap-l0)=cap' at h4
       have hc:len≤cap':=by subst hcap;split<;>omega
       have hbr:=fun W=>bounds_run (P:=P) (isS:=true) (hA hg) (hB hg) (hM hg) b0 b1 b2 hc b3 hmh W
       refine ⟨.slice (some ⟨b,if (if mx.isSome then M.toNat else cap')=A.toNat then off else off+A.toNat*T.sz e',none⟩) (B.toNat-A.toNat) ((if mx.isSome then M.toNat else cap')-A.toNat),
        .inr ⟨b,n,cap,if (if mx.isSome then M.toNat else cap')=A.toNat then off else off+A.toNat*T.sz e',h1,by omega,h3,?_,?_,?_⟩,fun W _ o ho=>?_⟩
       · congr 1
         by_cases hmx:mx.isSome=true
         · have:=b3 hmx
           simp [hmx]
           omega
         · simp only [hmx,Bool.false_eq_true,if_false,Bool.false_or]
           subst hcap
           cases c
           · simp;omega
           · have:=(hcl rfl).resolve_left hmx
             simp [this]
       · intro q
         have e1:l0=0:=by omega
         have e2:A.toNat=0:=by omega
         have e3:=h5 e1
         subst e3
         rw [e2]
         split<;>simp
       · by_cases hm:(if mx.isSome then M.toNat else cap')=A.toNat
         · left
           split at hm
           · rename_i q;have:=b3 q;omega
           · omega
         · rw [if_neg hm]
           rcases h6 with h6|h6
           · left;omega
           · right;rw [h6,Nat.add_mul]
       · by_cases hm:(if mx.isSome then M.toNat else cap')=A.toNat
         · simp [execOp,ho,h4,Instr.sliceAt,Instr.slice,run_underlying hu,hbr W,run_sizeOf hP hno,hm]
         · simp [execOp,ho,h4,Instr.sliceAt,Instr.slice,run_underlying hu,hbr W,run_sizeOf hP hno,hm,addr_add]
   · exact h.elim
 · rename_i n e ht
   obtain ⟨hu,h1n,hse,hno⟩:=hP.arr _ _ _ ht
   split at h;rotate_left
   · rename_i i p t'
     obtain ⟨rfl,hmx,hhi,h⟩:=h
     have hmx':mx=none:=by cases mx<;>simp_all
     have hhi':hi=none:=by cases hi<;>simp_all
     subst hmx'
     subst hhi'
     obtain ⟨A,h,hA⟩:=evalOptI_sound hR h
     obtain ⟨hb,h⟩:=h
     refine ⟨_,h,fun hg=>?_⟩
     obtain ⟨b0,b1⟩:=hb hg
     obtain ⟨b,root,off,h1,h2,h3⟩:=hx hg
     have hbr:=fun W=>bounds_run (P:=P) (isS:=false) (len:=n) (cap:=n) (hi:=none) (mx:=none) (B:=n) (M:=n) (hA hg) (by simp [OptIs]) (by simp [OptIs]) b0 (by omega) (Int.le_refl _) (Nat.le_refl _) (by simp) (by simp) W
     simp only [Option.map_none,Option.isSome_none,Bool.false_eq_true,if_false] at hbr
     have hm:¬n=A.toNat:=by omega
     refine ⟨.slice (some ⟨b,off+A.toNat*T.sz e,none⟩) (n-A.toNat) (n-A.toNat),⟨b,root,off,n,e,h1,h2,ht,by omega,rfl⟩,fun W _ o ho=>?_⟩
     simp [execOp,ho,h3,Instr.sliceAt,Instr.sureAddr,run_underlying hu,hbr W,run_sizeOf hP hno,hm,addr_add]
   · exact h.elim
   rename_i t' v
   obtain ⟨rfl,hmx,h⟩:=h
   have hmx':mx=none:=by cases mx<;>simp_all
   subst hmx'
   obtain ⟨A,h,hA⟩:=evalOptI_sound hR h
   obtain ⟨B,h,hB⟩:=evalOptI_sound hR h
   obtain ⟨hb,h⟩:=h
   refine ⟨_,h,fun hg=>?_⟩
   obtain ⟨b0,b1,b2⟩:=hb hg
   obtain ⟨b,off,cs,h1,h2,h3,h4⟩:=hx hg
   obtain ⟨l,rfl,h5⟩:=h4.inv' ht
   have hl:=h5.lens
   rw [List.length_replicate] at hl
   have hbr:=fun W=>bounds_run (P:=P) (isS:=false) (len:=n) (cap:=n) (mx:=none) (M:=B) (hA hg) (hB hg) rfl b0 b1 b2 (Nat.le_refl _) (by simp) (by simp) W
   simp only [Option.map_none,Option.isSome_none,Bool.false_eq_true,if_false] at hbr
   have hlen:((l.drop A.toNat).take (B.toNat-A.toNat)).length=B.toNat-A.toNat:=by simp;omega
   refine ⟨.slice (some ⟨b,if n=A.toNat then off else off+A.toNat*T.sz e,none⟩) (B.toNat-A.toNat) (n-A.toNat),.inr ⟨b,if n=A.toNat then off else off+A.toNat*T.sz e,n-A.toNat,(cs.drop (A.toNat*T.sz e)).take ((B.toNat-A.toNat)*T.sz e),?_,?_,?_,h2,?_,?_⟩,fun W _ o ho=>?_⟩
   · simp only [V.toList_agg];rw [hlen]
   · simp only [V.toList_agg];rw [hlen];omega
   · intro hd
     simp only [decide_eq_true_eq] at hd
     simp only [V.toList_agg];rw [hlen];omega
   · by_cases hm:n=A.toNat
     · have:B.toNat-A.toNat=0:=by omega
       rw [this]
       intro j y hy
       simp at hy
     · rw [if_neg hm]
       exact h3.sub _ _
   · simp only [V.toList_agg]
     rw [hlen]
     exact h5.slice hP.sized (by omega)
   · by_cases hm:n=A.toNat
     · have hb2:=hbr W
       rw [if_pos hm]
       have hm':(n=A.toNat)=True:=by simp [hm]
       simp [execOp,ho,h1,Instr.sliceAt,Instr.sureAddr,run_underlying hu,hb2,run_sizeOf hP hno,hm']
     · simp [execOp,ho,h1,Instr.sliceAt,Instr.sureAddr,run_underlying hu,hbr W,run_sizeOf hP hno,hm,addr_add]
 · exact h.elim
theorem builtinA_sound (hP:TabOk P T) {g:Bool} {c:Call} {b:Builtin} {es:List E} {K:E→Prop} (hc:c.callee=.builtin b) (hx:g=true→ERelL T w F ρ es (c.args.toList.map a.eval))
 (h:builtinA T g b c.argTypes.toList es K):∃ e,K e∧(g=true→Yields1 P T w F ρ a (.call c) e):=by
 unfold builtinA at h
 split at h
 · rename_i t x hts
   have hx':g=true→∃ o v,c.args=#[o]∧a.eval o=v∧ERel T w F ρ x v:=by
    intro hg
    have h1:=hx hg
    match hl:c.args.toList,h1 with
    | [o],h1=>exact ⟨o,_,by rw [← Array.toArray_toList (xs:=c.args),hl],rfl,h1.1⟩
   have hat:c.argTypes=#[t]:=by rw [← Array.toArray_toList (xs:=c.argTypes),hts]
   split at h
   · rename_i e ht
     obtain ⟨hu,hno⟩:=hP.slice _ _ ht
     have run:∀ (W:World) (o:Operand) (ad:Option Addr) (n cp:Nat),c.args=#[o]→a.eval o=.slice ad n cp→∀ op:Oper,op.op=.call c→(execOp a.eval op).run P W=.ok (.value (.int .i64 n)) W:=by
      intro W o ad n cp h1 h2 op hop
      simp [execOp,hop,resolve,hc,h1,h2,invoke,builtin,Builtin.len_,hat,run_underlying hu,goInt]
     have lenHas:∀ n:Nat,n≤maxLen→IntKind.i64.has (n:Int):=by
      intro n hn
      unfold maxLen at hn
      simp [IntKind.has,IntKind.min,IntKind.max,IntKind.signed,IntKind.bits]
      omega
     split at h
     · rename_i e' l cl
       refine ⟨_,h.2,fun hg=>?_⟩
       obtain ⟨o,v,h1,h2,h3⟩:=hx' hg
       have hl:=lenHas _ (h.1 hg)
       rcases h3 with ⟨ad,c0,q1,q2,_⟩|⟨b',off,cap,cs,q1,q2,_⟩
       · subst q2
         exact ⟨_,⟨rfl,hl⟩,fun W _=>run W o ad 0 c0 h1 (h2.trans q1)⟩
       · exact ⟨_,⟨rfl,hl⟩,fun W _=>run W o _ _ _ h1 (h2.trans q1)⟩
     · rename_i i e' lo n cl
       refine ⟨_,h.2,fun hg=>?_⟩
       obtain ⟨o,v,h1,h2,h3⟩:=hx' hg
       have hl:=lenHas _ (h.1 hg)
       rcases h3 with ⟨_,q1,_,q2⟩|⟨b',n',cap,off,_,_,_,q1,_⟩
       · subst q2
         exact ⟨_,⟨rfl,hl⟩,fun W _=>run W o none 0 0 h1 (h2.trans q1)⟩
       · exact ⟨_,⟨rfl,hl⟩,fun W _=>run W o _ _ _ h1 (h2.trans q1)⟩
     · refine ⟨_,h,fun hg=>?_⟩
       obtain ⟨o,v,h1,h2,h3⟩:=hx' hg
       exact ⟨_,⟨rfl,lenHas 0 (by decide)⟩,fun W _=>run W o none 0 0 h1 (h2.trans h3)⟩
     · exact h.elim
   · rename_i ht
     split at h;rotate_left;· exact h.elim
     rename_i s
     refine ⟨_,h.2,fun hg=>?_⟩
     obtain ⟨o,v,h1,h2,h3⟩:=hx' hg
     have h2':a.eval o=.string s:=h2.trans h3
     have hl:IntKind.i64.has (s.size:Int):=by
      have:=h.1 hg
      unfold maxLen at this
      simp [IntKind.has,IntKind.min,IntKind.max,IntKind.signed,IntKind.bits]
      omega
     refine ⟨_,⟨rfl,hl⟩,fun W _ op hop=>?_⟩
     simp [execOp,hop,resolve,hc,h1,h2',invoke,builtin,Builtin.len_,hat,run_underlying (hP.str _ ht),goInt]
   · exact h.elim
 · obtain ⟨rfl,h⟩:=h
   refine ⟨_,h,fun hg=>?_⟩
   have h1:=hx hg
   match hl:c.args.toList,h1 with
   | [o1,o2],h1 =>
     have ha:c.args=#[o1,o2]:=by rw [← Array.toArray_toList (xs:=c.args),hl]
     obtain ⟨⟨e1,r1⟩,⟨e2,r2⟩,_⟩:=h1
     refine ⟨_,⟨rfl,?_⟩,fun W _ op hop=>?_⟩
     · unfold IntKind.has at *;omega
     · simp [execOp,hop,resolve,hc,ha,e1,e2,invoke,builtin,Builtin.min_,Builtin.min2]
       split<;>omega
 · obtain ⟨rfl,h⟩:=h
   refine ⟨_,h,fun hg=>?_⟩
   have h1:=hx hg
   match hl:c.args.toList,h1 with
   | [o1,o2],h1 =>
     have ha:c.args=#[o1,o2]:=by rw [← Array.toArray_toList (xs:=c.args),hl]
     obtain ⟨⟨e1,r1⟩,⟨e2,r2⟩,_⟩:=h1
     refine ⟨_,⟨rfl,?_⟩,fun W _ op hop=>?_⟩
     · unfold IntKind.has at *;omega
     · simp [execOp,hop,resolve,hc,ha,e1,e2,invoke,builtin,Builtin.max_,Builtin.max2]
       split<;>omega
 · exact h.elim
theorem run_slice_nil {t e:TypeId} (h:P.underlying t=some (.slice e)) (W:World) (a:Option Addr) (n c:Nat) {op:BinOp} {b:Bool} (hb:(op=.eql∧b=a.isNone)∨(op=.neq∧b=!a.isNone)) :
 (binOp op t (.slice a n c) (.slice none 0 0)).run P W=.ok (.bool b) W:=by
 rcases hb with ⟨rfl,rfl⟩|⟨rfl,rfl⟩<;>simp only [binOp]<;>simp [Op.equal,Op.maxDepth,Lib.run_equalIn_slice_nil W 9999 t e a n c 0 0 h]
theorem eqA_sound {op:BinOp} {r:Bool} {K:E→Prop} (h:eqA op r K):∃ b,K (.bool b)∧((op=.eql∧b=r)∨(op=.neq∧b=!r)):=by
 unfold eqA at h
 split at h
 · exact ⟨_,h,.inl ⟨rfl,rfl⟩⟩
 · exact ⟨_,h,.inr ⟨rfl,rfl⟩⟩
 · exact h.elim
theorem binA_sound (hP:TabOk P T) {g:Bool} {op:BinOp} {t t':TypeId} {x y:Operand} {ex ey:E} {K:E→Prop} (hx:g=true→ERel T w F ρ ex (a.eval x)) (hy:g=true→ERel T w F ρ ey (a.eval y))
 (h:binA T op t g ex ey K):∃ e,K e∧(g=true→Yields1 P T w F ρ a (.binOp op t x y t') e):=by
 have run1:∀ (W:World) (v:Value),(eqGuard op t x y (a.eval x) (a.eval y)).run P W=.ok () W→(binOp op t (a.eval x) (a.eval y)).run P W=.ok v W→∀ o:Oper,o.op=.binOp op t x y t'→(execOp a.eval o).run P W=.ok (.value v) W:=by
  intro W v h1 h2 o ho
  simp [execOp,ho,h1,h2]
 have shr:(op=.shl∨op=.shr)→shiftA op g ex ey K→∃ e,K e∧(g=true→Yields1 P T w F ρ a (.binOp op t x y t') e):=by
  intro hop h'
  unfold shiftA at h'
  split at h';rotate_left;· exact h'.elim
  rename_i k p k' q
  split at h';rotate_left;· exact h'.elim
  rename_i e he
  refine ⟨e,h'.2,fun hg=>?_⟩
  obtain ⟨e1,r1⟩:=hx hg
  obtain ⟨e2,_⟩:=hy hg
  obtain ⟨v,hv,_⟩:=shifts_run (P:=P) (T:=T) (w:=w) (F:=F) (ρ:=ρ) (k':=k') he (h'.1 hg) r1 t default
  refine ⟨v,hv,fun W _=>run1 W v (by rcases hop with rfl|rfl<;>simp [eqGuard]) ?_⟩
  obtain ⟨v',hv',hr⟩:=shifts_run (P:=P) (T:=T) (w:=w) (F:=F) (ρ:=ρ) (k':=k') he (h'.1 hg) r1 t W
  rw [e1,e2]
  have:v'=v:=by
   cases op<;>simp [shifts] at he<;>subst he<;>exact hv'.1.trans hv.1.symm
  exact this▸hr
 have oth:(op≠.shl∧op≠.shr)→plainA T op t g ex ey K→∃ e,K e∧(g=true→Yields1 P T w F ρ a (.binOp op t x y t') e):=by
  intro hop h'
  unfold plainA at h'
  split at h'
  · rename_i k p k' q
    obtain ⟨rfl,h'⟩:=h'
    split at h';rotate_left;· exact h'.elim
    rename_i pre e he
    refine ⟨e,h'.2,fun hg=>?_⟩
    obtain ⟨e1,r1⟩:=hx hg
    obtain ⟨e2,_⟩:=hy hg
    obtain ⟨v,hv,_⟩:=arith_run (P:=P) (T:=T) (w:=w) (F:=F) (ρ:=ρ) he (h'.1 hg) r1 t default hop
    refine ⟨v,hv,fun W _=>run1 W v (by rw [e1,e2];cases op<;>simp [eqGuard]) ?_⟩
    obtain ⟨v',hv',hr⟩:=arith_run (P:=P) (T:=T) (w:=w) (F:=F) (ρ:=ρ) he (h'.1 hg) r1 t W hop
    rw [e1,e2]
    have:v'=v:=by
     cases op<;>simp [arith] at he<;>obtain ⟨_,rfl⟩:=he<;>first|exact hv'.1.trans hv.1.symm|exact Eq.trans hv' hv.symm
    exact this▸hr
  · rename_i p q
    obtain ⟨ht,h'⟩:=h'
    obtain ⟨b,hK,hb⟩:=eqA_sound h'
    refine ⟨_,hK,fun hg=>⟨_,rfl,fun W _=>?_⟩⟩
    have e1:a.eval x=.bool p:=hx hg
    have e2:a.eval y=.bool q:=hy hg
    refine run1 W _ (by rw [e1,e2];rcases hb with ⟨rfl,_⟩|⟨rfl,_⟩<;>simp [eqGuard]) ?_
    rw [e1,e2]
    rcases hb with ⟨rfl,rfl⟩|⟨rfl,rfl⟩
    · show ((do pure (Value.bool (← Op.equal t (.bool p) (.bool q))):Sem Value)).run P W=_
      rw [Sem.run_bind,run_equal_bool W t p q (hP.bool _ ht)];rfl
    · show ((do pure (Value.bool (!(← Op.equal t (.bool p) (.bool q)))):Sem Value)).run P W=_
      rw [Sem.run_bind,run_equal_bool W t p q (hP.bool _ ht)];rfl
  · rename_i p q
    obtain ⟨b,hK,hb⟩:=eqA_sound h'
    refine ⟨_,hK,fun hg=>⟨_,rfl,fun W _=>?_⟩⟩
    have e1:a.eval x=.string p:=hx hg
    have e2:a.eval y=.string q:=hy hg
    refine run1 W _ (by rw [e1,e2];rcases hb with ⟨rfl,_⟩|⟨rfl,_⟩<;>simp [eqGuard]) ?_
    rw [e1,e2]
    rcases hb with ⟨rfl,rfl⟩|⟨rfl,rfl⟩<;>simp [binOp,Op.stringOp]
  · rename_i t1 p t2 q
    obtain ⟨rfl,rfl,hf,h'⟩:=h'
    obtain ⟨b,hK,hb⟩:=eqA_sound h'
    refine ⟨_,hK,fun hg=>⟨_,rfl,fun W _=>?_⟩⟩
    obtain ⟨cs,e1,hA,f1⟩:=hx hg
    obtain ⟨ds,e2,_,f2⟩:=hy hg
    refine run1 W _ (by rw [e1,e2];exact run_eqGuard_agg W op _ x y cs ds (hP.guard _ hA)) ?_
    have hq:=equalIn_run hP W 20 _ hf 10000 (by omega) f1 f2 (x:=.agg cs) (y:=.agg ds) (by simp [ValOf,hA]) (by simp [ValOf,hA])
    rw [e1,e2]
    rcases hb with ⟨rfl,rfl⟩|⟨rfl,rfl⟩
    · rw [run_eql_struct,hq];rfl
    · rw [run_neq_struct,hq];rfl
  · rename_i e l cl
    obtain ⟨ht,h1,h2⟩:=h'
    obtain ⟨hu,_⟩:=hP.slice _ _ ht
    cases g with
    | false =>
      obtain ⟨b,hK,_⟩:=eqA_sound h1
      exact ⟨_,hK,fun hg=>by cases hg⟩
    | true =>
      have e2:a.eval y=.slice none 0 0:=hy rfl
      rcases hx rfl with ⟨ad,c0,e1,rfl,hc0,_⟩|⟨bb,off,cap,cs,e1,_⟩
      · cases ad with
        | none =>
          rw [hc0 rfl] at e1
          obtain ⟨b,hK,hb⟩:=eqA_sound (h2 rfl)
          refine ⟨_,hK,fun _=>⟨_,rfl,fun W _=>run1 W _ (by rw [e1,e2];rcases hb with ⟨rfl,_⟩|⟨rfl,_⟩<;>simp [eqGuard]) ?_⟩⟩
          rw [e1,e2]
          exact run_slice_nil hu W none 0 0 hb
        | some ad =>
          obtain ⟨b,hK,hb⟩:=eqA_sound h1
          refine ⟨_,hK,fun _=>⟨_,rfl,fun W _=>run1 W _ (by rw [e1,e2];rcases hb with ⟨rfl,_⟩|⟨rfl,_⟩<;>simp [eqGuard]) ?_⟩⟩
          rw [e1,e2]
          exact run_slice_nil hu W _ _ _ hb
      · obtain ⟨b,hK,hb⟩:=eqA_sound h1
        refine ⟨_,hK,fun _=>⟨_,rfl,fun W _=>run1 W _ (by rw [e1,e2];rcases hb with ⟨rfl,_⟩|⟨rfl,_⟩<;>simp [eqGuard]) ?_⟩⟩
        rw [e1,e2]
        exact run_slice_nil hu W _ _ _ hb
  · rename_i i e lo n cl
    obtain ⟨ht,h1,h2⟩:=h'
    obtain ⟨hu,_⟩:=hP.slice _ _ ht
    cases g with
    | false =>
      obtain ⟨b,hK,_⟩:=eqA_sound h1
      exact ⟨_,hK,fun hg=>by cases hg⟩
    | true =>
      have e2:a.eval y=.slice none 0 0:=hy rfl
      rcases hx rfl with ⟨_,e1,_,n0⟩|⟨bb,n1,cap,off,_,_,_,e1,_⟩
      · obtain ⟨b,hK,hb⟩:=eqA_sound (h2 n0)
        refine ⟨_,hK,fun _=>⟨_,rfl,fun W _=>run1 W _ (by rw [e1,e2];rcases hb with ⟨rfl,_⟩|⟨rfl,_⟩<;>simp [eqGuard]) ?_⟩⟩
        rw [e1,e2]
        exact run_slice_nil hu W none 0 0 hb
      · obtain ⟨b,hK,hb⟩:=eqA_sound h1
        refine ⟨_,hK,fun _=>⟨_,rfl,fun W _=>run1 W _ (by rw [e1,e2];rcases hb with ⟨rfl,_⟩|⟨rfl,_⟩<;>simp [eqGuard]) ?_⟩⟩
        rw [e1,e2]
        exact run_slice_nil hu W _ _ _ hb
  · exact h'.elim
 unfold binA at h
 split at h
 · exact shr (.inl rfl) h
 · exact shr (.inr rfl) h
 · rename_i h1 h2
   exact oth ⟨h1,h2⟩ h
end Go.Eng
