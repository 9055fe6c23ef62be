/- A part of the proof: walks through the program's functions, and what they compute. -/
import Derived.Test.YtmonhjagbhpbeaaGreatDoorPk5
set_option linter.unusedSimpArgs false
set_option linter.unusedVariables false
namespace Go.Eng
section
variable (apply:Int→Int→Int→Int × Int) {p:Prg} {g:Gor}
theorem vG (hok:p.Ok):∀ (m:Nat) {g:Gor},gorIn p g→gorIn p (Zr apply p m g)
 | 0,g,hg=>by
   cases h:Qp (p.instr g).op
   · rw [XI apply h];exact hg
   · rw [Wy apply h];exact ⟨hg.f0,hg.f1,hg.p0,hg.p1,hg.regs⟩
 | m+1,g,hg=>by
   cases h:Qp (p.instr g).op
   · rw [XI apply h];exact hg
   · rw [Q8 apply h]
     split
     · exact vG hok m (Zs apply hok hg h)
     · exact Zs apply hok hg h
theorem QAq (hok:p.Ok) (hg:gorIn p g) (m:Int):gorIn p (Yh apply p g m):=vG apply hok _ ⟨hg.f0,hg.f1,hg.p0,hg.p1,hg.regs⟩
end
theorem QJN (s:Stt) (g:Int):YB s g=(decide (0≤g)&&decide (g<s.count)&&(decide ((s.gos.getD g.toNat default).status=1)||decide ((s.gos.getD g.toNat default).status=2))):=rfl
theorem QHA (p:Prg) (s:Stt) (c:Cas):(bif (bif c.send then Ys p s c.chan else false) then true else (bif !c.send then XG s c.chan else false))=XQ p s c:=by
 unfold XQ
 cases c.send
 · cases XG s c.chan<;>rfl
 · cases Ys p s c.chan<;>rfl
theorem QDy (b:List Int):YF b 0=b:=by
 unfold YF
 apply List.ext_getElem
 · simp
 · intro i h1 h2;simp [List.getD_eq_getElem?_getD,h2]
theorem QDz (b:List Int) {n:Nat} (hn:n<b.length):(YF b n).set n (b.getD (n+1) 0)=YF b (n+1):=by
 unfold YF
 rw [zR hn]
 apply List.map_congr_left
 intro k hk
 by_cases h1:k=n
 · subst h1;simp
 · rw [if_neg h1]
   by_cases h2:k<n
   · rw [if_pos h2,if_pos (by omega)]
   · rw [if_neg h2,if_neg (by omega)]
theorem QAg (s:Stt) (g c:Int):Q7 s g c 0=List.replicate 8 0:=by simp [Q7];rfl
theorem QAh (s:Stt) (g c:Int) {n:Nat} (hn:n<8):(Q7 s g c n).set n ((s.gor g).reg (c+n))=Q7 s g c (n+1):=by
 unfold Q7
 rw [zR hn]
 apply List.map_congr_left
 intro k hk
 by_cases h1:k=n
 · subst h1;simp
 · rw [if_neg h1]
   by_cases h2:k<n
   · rw [if_pos h2,if_pos (by omega)]
   · rw [if_neg h2,if_neg (by omega)]
theorem yB {s:Stt} (hs:s.Shape) {g:Int} (hg:0≤g∧g<6) (r v:Int):(s.setReg g r v).Shape:=by
 unfold Stt.setReg
 split
 · exact Yr hs _ _ (by rw [List.length_set];exact hs.regs _ (Qj _ (by rw [hs.gos];omega)))
 · exact hs
theorem QAu {p:Prg} {s:Stt} (hok:p.Ok) (hw:Wf p s) {c:Int} (h:Ys p s c=true):(s.chans.getD c.toNat default).closed=false→0<p.chans.getD c.toNat 0→0≤(s.chans.getD c.toNat default).len∧(s.chans.getD c.toNat default).len<4:=by
 intro h1 h2
 have e:Ys p s c=decide ((s.chans.getD c.toNat default).len<p.chans.getD c.toNat 0):=(if_neg (fun q=>Bool.noConfusion (h1.symm.trans q))).trans (if_pos h2)
 rw [e] at h
 have h:=of_decide_eq_true h
 have:=(hok.caps c.toNat).2
 exact ⟨(hw.chans c.toNat).1,by omega⟩
section
variable {p:Prg} {s:Stt} (hok:p.Ok) (hw:Wf p s)
include hw
theorem Wf.chn' (c:Nat) {X:Chn} (hb:X.buf.length=(s.chans.getD c default).buf.length) (hl:0≤X.len∧X.len≤p.chans.getD c 0):Wf p ⟨s.vars,s.owner,s.chans.set c X,s.gos,s.count⟩:=by
 rcases hw.buf c with h|h
 · exact hw.chn c (by omega) hl
 · rw [List.set_eq_of_length_le (by rw [hw.shape.chans];exact h)];exact hw
end
theorem QDG {p:Prg} {d:Did} {g c v:Int} (hw:Wf p d.s) (hg:0≤g∧g<d.s.count)
 (hl:(d.s.chans.getD c.toNat default).closed=false→0<p.chans.getD c.toNat 0→(d.s.chans.getD c.toNat default).len<p.chans.getD c.toNat 0)
 (h58:(d.s.chans.getD c.toNat default).closed=false→¬0<p.chans.getD c.toNat 0→(qo p d.s g).op=58):Wf p (YD p d g c v).s:=by
 have hc:=hw.chans c.toNat
 unfold YD
 refine QO (q:=Wf p) (fun _=>hw) (fun h1=>?_)
 have h1:(d.s.chans.getD c.toNat default).closed=false:=Bool.of_not_eq_true h1
 refine QO (q:=Wf p) (fun h2=>?_) (fun h2=>?_)
 · exact hw.chn' c.toNat (by show (List.set _ _ _).length=_;rw [List.length_set];rfl) ⟨by show 0≤(d.s.chans.getD c.toNat default).len+1;omega,by show (d.s.chans.getD c.toNat default).len+1≤_;have:=hl h1 h2;omega⟩
 · exact (hw.status hg 2 (fun _=>h58 h1 h2)).chn' c.toNat rfl hc
theorem QDI {p:Prg} {d:Did} {g c r ok:Int} (hw:Wf p d.s) (hg:0≤g∧g<d.s.count):Wf p (YX d g c r ok).s:=by
 have hc:=hw.chans c.toNat
 have two:∀ {X:Stt} (hX:Wf p X) (he:X.count=d.s.count) (x y:Int),Wf p ((X.setReg g r x).setReg g ok y):=by
  intro X hX he x y
  have e:(X.setReg g r x).count=d.s.count:=by unfold Stt.setReg;split<;>exact he
  exact (hX.reg (by omega) r x).reg (by omega) ok y
 unfold YX
 refine QO (q:=Wf p) (fun h=>?_) (fun _=>QO (q:=Wf p) (fun _=>?_) (fun _=>?_))
 · have h:0<(d.s.chans.getD c.toNat default).len:=h
   refine two (hw.chn' c.toNat ?_ ⟨?_,?_⟩) rfl _ _
   · show (List.set (YF _ _) _ _).length=_;rw [List.length_set,Yg];rfl
   · show 0≤(d.s.chans.getD c.toNat default).len-1;omega
   · show (d.s.chans.getD c.toNat default).len-1≤_;omega
 · exact two (hw.chn' c.toNat (X:={ d.s.chans.getD c.toNat default with offer:=2,val:=0 }) rfl hc) rfl _ _
 · exact two (hw.chn' c.toNat (X:=d.s.chans.getD c.toNat default) rfl hc) rfl _ _
theorem QG2 {p:Prg} {d:Did} {c:Int} (hw:Wf p d.s):Wf p (Zu d c).s:=by
 have hc:=hw.chans c.toNat
 unfold Zu
 exact QO (q:=Wf p) (fun _=>hw) (fun _=>QO (q:=Wf p) (fun _=>hw.chn' c.toNat rfl hc) (fun _=>hw.chn' c.toNat rfl hc))
theorem QGz {p:Prg} {d:Did} {g c:Int} (hw:Wf p d.s) (hg:0≤g∧g<d.s.count):Wf p (YN d g c).s :=
 (hw.chn' c.toNat (X:=⟨(d.s.chans.getD c.toNat default).buf,(d.s.chans.getD c.toNat default).len,(d.s.chans.getD c.toNat default).closed,0,0,0⟩) rfl (hw.chans c.toNat)).status hg 1 (fun q=>absurd q (by decide))
theorem QG0 {p:Prg} (hok:p.Ok) {d:Did} {g:Int} {x:Instr} (hw:Wf p d.s) (hg:0≤g∧g<d.s.count) (hb:0≤x.b∧x.b<(p.funcs.length:Int)):Wf p (Zo p d g x).s:=by
 unfold Zo
 refine QO (q:=Wf p) (fun _=>hw) (fun h=>?_)
 have hcnt:=hw.count
 have hcd:=hok.code x.b.toNat (by omega)
 have hX:gorIn p ⟨1,x.b,0,0,Q7 d.s g x.c (p.fn x.b).params.toNat⟩:=⟨hb.1,hb.2,Int.le_refl 0,(show (0:Int)<((p.funcs.getD x.b.toNat default).code.length:Int) by omega),Ua _ _ _ _⟩
 have h1:Wf p ⟨d.s.vars,d.s.owner,d.s.chans,d.s.gos.set d.s.count.toNat ⟨1,x.b,0,0,Q7 d.s g x.c (p.fn x.b).params.toNat⟩,d.s.count+1⟩:=by
  refine ⟨Yr hw.shape _ _ (Ua _ _ _ _),⟨by show 0≤d.s.count+1;omega,by show d.s.count+1≤6;omega⟩,fun k h0 hc=>?_,fun k h0 hc=>?_,hw.chans⟩
  · have hc:k<d.s.count+1:=hc
    show gorIn p ((d.s.gos.set d.s.count.toNat _).getD k.toNat default)
    rw [QU]
    split
    · exact hX
    · rename_i q;exact hw.gos k h0 (by have:=hw.shape.gos;omega)
  · have hc:k<d.s.count+1:=hc
    show ((d.s.gos.set d.s.count.toNat _).getD k.toNat default).status=2→(p.instr ((d.s.gos.set d.s.count.toNat _).getD k.toNat default)).op=58
    rw [QU]
    split
    · intro q;exact absurd (show (1:Int)=2 from q) (by decide)
    · rename_i q;exact hw.wait k h0 (by have:=hw.shape.gos;omega)
 exact h1.reg ⟨hg.1,by show g<d.s.count+1;omega⟩ _ _
theorem QJb {p:Prg} {d:Did} {g:Int} {x:Instr} (hw:Wf p d.s) (hg:0≤g∧g<d.s.count):Wf p (ZB d g x).s:=by
 have e:∀ r v,(d.s.setReg g r v).count=d.s.count:=by intro r v;unfold Stt.setReg;split<;>rfl
 unfold ZB
 refine QO (q:=Wf p) (fun _=>hw.reg hg _ _) (fun _=>?_)
 refine QO (q:=Wf p) (fun _=>hw.var _ _) (fun _=>?_)
 refine QO (q:=Wf p) (fun _=>(hw.reg hg _ _).var _ _) (fun _=>?_)
 refine QO (q:=Wf p) (fun _=>?_) (fun _=>?_)
 · show Wf p (Stt.setReg (if _ then _ else _) g _ _)
   by_cases h:XY (decide (d.s.vars.getD x.b.toNat 0=(d.s.gor g).reg x.c))=1
   · rw [if_pos h];exact (hw.var _ _).reg hg _ _
   · rw [if_neg h];exact hw.reg hg _ _
 refine QO (q:=Wf p) (fun _=>hw) (fun _=>?_)
 refine QO (q:=Wf p) (fun _=>hw.own _ _) (fun _=>?_)
 refine QO (q:=Wf p) (fun _=>QO (q:=Wf p) (fun _=>hw) (fun _=>hw.own _ _)) (fun _=>?_)
 refine QO (q:=Wf p) (fun _=>?_) (fun _=>hw)
 show Wf p (Stt.setReg (if _ then _ else _) g _ _)
 by_cases h:XY (decide (d.s.owner.getD x.b.toNat 0=0))=1
 · rw [if_pos h];exact (hw.own _ _).reg hg _ _
 · rw [if_neg h];exact hw.reg hg _ _
theorem QAO {p:Prg} (hok:p.Ok) {s:Stt} (hw:Wf p s) {g alt:Int} (hg:0≤g∧g<s.count) (ha:alt∈Qn p s g):Wf p (QG p s g alt).s:=by
 have hrt:=hw.right hok hg.1 hg.2
 have hgi:=hw.gos g hg.1 hg.2
 unfold QG
 refine QO (q:=Wf p) (fun _=>QGz hw hg) (fun h66=>?_)
 refine QO (q:=Wf p) (fun h=>?_) (fun _=>?_)
 · have h:=hw.op_at hok hg.1 hg.2 h (by decide)
   exact QDG hw hg (wX ((y7 (by assumption)).symm.trans (V7 ha (by omega)).1)) (fun _ _=>h)
 refine QO (q:=Wf p) (fun _=>QDI hw hg) (fun _=>?_)
 refine QO (q:=Wf p) (fun _=>QG2 hw) (fun _=>?_)
 refine QO (q:=Wf p) (fun h=>?_) (fun _=>?_)
 · exact QG0 hok hw hg (QHS hrt (hw.op_at hok hg.1 hg.2 h (by decide))).2.1
 refine QO (q:=Wf p) (fun _=>QO (q:=Wf p) (fun _=>hw) (fun _=>hw)) (fun _=>?_)
 refine QO (q:=Wf p) (fun _=>hw) (fun _=>?_)
 refine QO (q:=Wf p) (fun h=>?_) (fun _=>QJb hw hg)
 refine QO (q:=Wf p) (fun _=>hw) (fun hne=>?_)
 obtain ⟨k,rfl,hk,hco⟩:=(zw ha h).resolve_left hne
 have hI:=UB hrt (hw.op_at hok hg.1 hg.2 h (by decide))
 have hC:=Vb hok (i:=(s.gos.getD g.toNat default).func.toNat) (j:=(qo p s g).a.toNat) (k:=k) (by have:=hgi.f0;have:=hgi.f1;omega) (by have:=hI;omega) hk
 refine QO (q:=Wf p) (fun hs=>?_) (fun _=>QDI hw hg)
 have hs:((Qw p s g).cases.getD k default).send=true:=hs
 have hcap:=hC.cap hs
 have hsn:Ys p s ((Qw p s g).cases.getD k default).chan=true:=by
  unfold XQ at hco
  rw [if_pos hs] at hco
  exact hco
 have h0:=(hok.caps ((Qw p s g).cases.getD k default).chan.toNat).1
 exact QDG hw hg (wX hsn) (fun _ q=>absurd (by show 0<p.chans.getD ((Qw p s g).cases.getD k default).chan.toNat 0
                                               have hcap:¬p.chans.getD ((Qw p s g).cases.getD k default).chan.toNat 0=0:=hcap
                                               omega) q)
section
variable (apply:Int→Int→Int→Int × Int)
theorem VQ {p:Prg}:∀ (m:Nat) (g:Gor),g.status≠2→(Zr apply p m g).status≠2
 | 0,g,h=>by
   unfold Zr
   split
   · show (5:Int)≠2;decide
   · exact h
 | m+1,g,h=>by
   have hl:(Qi apply p g).1.status≠2:=by
    unfold Qi
    simp only
    repeat' split
    all_goals first|exact h|(show (3:Int)≠2;decide)|(show (4:Int)≠2;decide)
   unfold Zr
   split
   · simp only
     split
     · exact VQ m _ hl
     · exact hl
   · exact h
theorem wW {p:Prg} (hok:p.Ok) {s:Stt} (hs:s.Shape) (g fuel:Int):Wf p (QZ apply p s g fuel).1:=by
 have hz:=xR hok
 unfold QZ
 by_cases h1:QN p=false
 · rw [if_pos h1];exact hz
 rw [if_neg h1]
 by_cases h2:YI p s=false
 · rw [if_pos h2];exact hz
 rw [if_neg h2]
 have hw:=QEt hok hs (by simpa using h2)
 by_cases h3:g<0∨6≤g∨fuel<0∨4096<fuel
 · rw [if_pos h3];exact hz
 rw [if_neg h3]
 by_cases h4:s.count≤g
 · rw [if_pos h4];exact hz
 rw [if_neg h4]
 split
 · have hgi:=hw.gos g (by omega) (by omega)
   exact hw.go g (QAq apply hok hgi fuel) (fun q=>absurd q (VQ apply _ _ (by show (1:Int)≠2;decide)))
 · exact hw
end
def Vc (k n:Int) (w:Bool) (st:List Access × Bool) (x:Access):List Access × Bool :=
 if (st.2=false∧x.kind=k)∧x.num=n then (st.1++[⟨x.kind,x.num,x.write||w⟩],true)
 else if st.2=false∧(k<x.kind∨x.kind=k∧n<x.num) then (st.1++[⟨k,n,w⟩,x],true)
 else (st.1++[x],st.2)
def Wi (k n:Int) (w:Bool) (l:List Access) (i:Nat):List Access × Bool:=(l.take i).foldl (Vc k n w) ([],false)
theorem qj (k n:Int) (w:Bool) (l:List Access) {i:Nat} (h:i<l.length):Wi k n w l (i+1)=Vc k n w (Wi k n w l i) (l.getD i default):=by
 unfold Wi
 rw [List.take_succ_eq_append_getElem h,List.foldl_append]
 simp [List.getD_eq_getElem?_getD,h]
theorem QBu (k n:Int) (w:Bool):∀ (l:List Access) (XB:List Access),l.foldl (Vc k n w) (XB,true)=(XB++l,true)
 | [],XB=>by simp
 | x::l,XB=>by
   rw [List.foldl_cons,show Vc k n w (XB,true) x=(XB++[x],true) from (if_neg (by simp)).trans (if_neg (by simp)),QBu k n w l]
   simp
def xO (k n:Int) (w:Bool) (r:List Access × Bool):List Access:=if r.2=true then r.1 else r.1++[⟨k,n,w⟩]
theorem QGA (k n:Int) (w:Bool):∀ (l:List Access) (XB:List Access),xO k n w (l.foldl (Vc k n w) (XB,false))=XB++add k n w l
 | [],XB=>by simp [add,xO]
 | x::l,XB=>by
   rw [List.foldl_cons]
   unfold add
   by_cases h1:x.kind=k∧x.num=n
   · rw [show Vc k n w (XB,false) x=(XB++[⟨x.kind,x.num,x.write||w⟩],true) from if_pos ⟨⟨rfl,h1.1⟩,h1.2⟩,QBu,if_pos h1]
     simp [xO]
   · by_cases h2:k<x.kind∨x.kind=k∧n<x.num
     · rw [show Vc k n w (XB,false) x=(XB++[⟨k,n,w⟩,x],true) from (if_neg (fun q=>h1 ⟨q.1.2,q.2⟩)).trans (if_pos ⟨rfl,h2⟩),QBu,if_neg h1,if_pos h2]
       simp [xO]
     · rw [show Vc k n w (XB,false) x=(XB++[x],false) from (if_neg (fun q=>h1 ⟨q.1.2,q.2⟩)).trans (if_neg (fun q=>h2 q.2)),if_neg h1,if_neg h2,QGA k n w l (XB++[x])]
       simp
theorem QIO (k n:Int) (w:Bool) (l:List Access):add k n w l=xO k n w (Wi k n w l l.length):=by
 have:=QGA k n w l []
 rw [List.nil_append] at this
 unfold Wi
 rw [List.take_length,← this]
theorem QDZ (k n:Int) (w:Bool) (l:List Access):∀ i:Nat,(Wi k n w l i).1.length≤i+(if (Wi k n w l i).2=true then 1 else 0)
 | 0=>by simp [Wi]
 | i+1=>by
   have ih:=QDZ k n w l i
   by_cases h:i<l.length
   · rw [qj k n w l h]
     unfold Vc
     split
     · rename_i h1
       rw [h1.1.1] at ih
       simp at ih ⊢
       omega
     · split
       · rename_i h1
         rw [h1.1] at ih
         simp at ih ⊢
         omega
       · simp only [List.length_append,List.length_cons,List.length_nil]
         split<;>rename_i h2<;>simp only [h2,if_true,Bool.false_eq_true,if_false] at ih ⊢<;>omega
   · have e:Wi k n w l (i+1)=Wi k n w l i:=by
      unfold Wi
      rw [List.take_of_length_le (by omega),List.take_of_length_le (by omega)]
     rw [e];omega
theorem QBv (k n:Int) (w:Bool) (l:List Access) (i:Nat):(Wi k n w l i).1.length≤i+1:=by
 have:=QDZ k n w l i
 split at this<;>omega
end Go.Eng
