/- A part of the proof: walks through the program's functions, and what they compute. -/
import Derived.Test.YtedceinkpkoncaaGreatDoorPk22
set_option linter.unusedSimpArgs false
set_option linter.unusedVariables false
namespace Go.Eng
section
variable (apply:Int→Int→Int→Int × Int) {p:Prg} {g:Gor}
theorem wE (hok:p.Ok):∀ (m:Nat) {g:Gor},gorIn p g→gorIn p (Zh apply p m g)
 | 0,g,hg=>by
   cases h:Ql (p.instr g).op
   · rw [Y6 apply h];exact hg
   · rw [Wq apply h];exact ⟨hg.f0,hg.f1,hg.p0,hg.p1,hg.regs⟩
 | m+1,g,hg=>by
   cases h:Ql (p.instr g).op
   · rw [Y6 apply h];exact hg
   · rw [Q5 apply h]
     split
     · exact wE hok m (Zi apply hok hg h)
     · exact Zi apply hok hg h
theorem vL (hok:p.Ok) (hg:gorIn p g) (m:Int):gorIn p (Yb apply p g m):=wE apply hok _ ⟨hg.f0,hg.f1,hg.p0,hg.p1,hg.regs⟩
end
end Go.Eng
namespace Go.Eng
theorem QCW (b:List Int):Zz b 0=b:=by
 unfold Zz
 apply List.ext_getElem
 · simp
 · intro i h1 h2;simp [List.getD_eq_getElem?_getD,h2]
theorem QCX (b:List Int) {n:Nat} (hn:n<b.length):(Zz b n).set n (b.getD (n+1) 0)=Zz b (n+1):=by
 unfold Zz
 rw [qh hn]
 apply List.map_congr_left
 intro k hk
 by_cases h1:k=n
 · subst h1;simp
 · rw [if_neg h1]
   by_cases h2:k<n
   · rw [if_pos h2,if_pos (by omega)]
   · rw [if_neg h2,if_neg (by omega)]
theorem vD (s:Stt) (g c:Int):Q3 s g c 0=List.replicate 8 0:=by simp [Q3];rfl
theorem vE (s:Stt) (g c:Int) {n:Nat} (hn:n<8):(Q3 s g c n).set n ((s.gor g).reg (c+n))=Q3 s g c (n+1):=by
 unfold Q3
 rw [qh hn]
 apply List.map_congr_left
 intro k hk
 by_cases h1:k=n
 · subst h1;simp
 · rw [if_neg h1]
   by_cases h2:k<n
   · rw [if_pos h2,if_pos (by omega)]
   · rw [if_neg h2,if_neg (by omega)]
theorem zG {s:Stt} (hs:s.Shape) {g:Int} (hg:0≤g∧g<6) (r v:Int):(s.setReg g r v).Shape:=by
 unfold Stt.setReg
 split
 · exact Yd hs _ _ (by rw [List.length_set];exact hs.regs _ (Qn _ (by rw [hs.gos];omega)))
 · exact hs
end Go.Eng
namespace Go.Eng
theorem vP {p:Prg} {s:Stt} (hok:p.Ok) (hw:Wf p s) {c:Int} (h:XF p s c=true):(s.chans.getD c.toNat default).closed=false→0<p.chans.getD c.toNat 0→0≤(s.chans.getD c.toNat default).len∧(s.chans.getD c.toNat default).len<4:=by
 intro h1 h2
 have e:XF p s c=decide ((s.chans.getD c.toNat default).len<p.chans.getD c.toNat 0):=(if_neg (fun q=>Bool.noConfusion (h1.symm.trans q))).trans (if_pos h2)
 rw [e] at h
 have h:=of_decide_eq_true h
 have:=(hok.caps c.toNat).2
 exact ⟨(hw.chans c.toNat).1,by omega⟩
end Go.Eng
namespace Go.Eng
section
variable {p:Prg} {s:Stt} (hok:p.Ok) (hw:Wf p s)
include hw
theorem Wf.chn' (c:Nat) {X:Chn} (hb:X.buf.length=(s.chans.getD c default).buf.length) (hl:0≤X.len∧X.len≤p.chans.getD c 0):Wf p ⟨s.vars,s.owner,s.chans.set c X,s.gos,s.count⟩:=by
 rcases hw.buf c with h|h
 · exact hw.chn c (by omega) hl
 · rw [List.set_eq_of_length_le (by rw [hw.shape.chans];exact h)];exact hw
end
theorem QBq {p:Prg} {d:Did} {g c v:Int} (hw:Wf p d.s) (hg:0≤g∧g<d.s.count)
 (hl:(d.s.chans.getD c.toNat default).closed=false→0<p.chans.getD c.toNat 0→(d.s.chans.getD c.toNat default).len<p.chans.getD c.toNat 0)
 (h58:(d.s.chans.getD c.toNat default).closed=false→¬0<p.chans.getD c.toNat 0→(UZ p d.s g).op=58):Wf p (YW p d g c v).s:=by
 have hc:=hw.chans c.toNat
 unfold YW
 refine Qb (q:=Wf p) (fun _=>hw) (fun h1=>?_)
 have h1:(d.s.chans.getD c.toNat default).closed=false:=Bool.of_not_eq_true h1
 refine Qb (q:=Wf p) (fun h2=>?_) (fun h2=>?_)
 · exact hw.chn' c.toNat (by show (List.set _ _ _).length=_;rw [List.length_set];rfl) ⟨by show 0≤(d.s.chans.getD c.toNat default).len+1;omega,by show (d.s.chans.getD c.toNat default).len+1≤_;have:=hl h1 h2;omega⟩
 · exact (hw.status hg 2 (fun _=>h58 h1 h2)).chn' c.toNat rfl hc
theorem QBs {p:Prg} {d:Did} {g c r ok:Int} (hw:Wf p d.s) (hg:0≤g∧g<d.s.count):Wf p (XE d g c r ok).s:=by
 have hc:=hw.chans c.toNat
 have two:∀ {X:Stt} (hX:Wf p X) (he:X.count=d.s.count) (x y:Int),Wf p ((X.setReg g r x).setReg g ok y):=by
  intro X hX he x y
  have e:(X.setReg g r x).count=d.s.count:=by unfold Stt.setReg;split<;>exact he
  exact (hX.reg (by omega) r x).reg (by omega) ok y
 unfold XE
 refine Qb (q:=Wf p) (fun h=>?_) (fun _=>Qb (q:=Wf p) (fun _=>?_) (fun _=>?_))
 · have h:0<(d.s.chans.getD c.toNat default).len:=h
   refine two (hw.chn' c.toNat ?_ ⟨?_,?_⟩) rfl _ _
   · show (List.set (Zz _ _) _ _).length=_;rw [List.length_set,YN];rfl
   · show 0≤(d.s.chans.getD c.toNat default).len-1;omega
   · show (d.s.chans.getD c.toNat default).len-1≤_;omega
 · exact two (hw.chn' c.toNat (X:={ d.s.chans.getD c.toNat default with offer:=2,val:=0 }) rfl hc) rfl _ _
 · exact two (hw.chn' c.toNat (X:=d.s.chans.getD c.toNat default) rfl hc) rfl _ _
theorem QFT {p:Prg} {d:Did} {c:Int} (hw:Wf p d.s):Wf p (YH d c).s:=by
 have hc:=hw.chans c.toNat
 unfold YH
 exact Qb (q:=Wf p) (fun _=>hw) (fun _=>Qb (q:=Wf p) (fun _=>hw.chn' c.toNat rfl hc) (fun _=>hw.chn' c.toNat rfl hc))
theorem QFQ {p:Prg} {d:Did} {g c:Int} (hw:Wf p d.s) (hg:0≤g∧g<d.s.count):Wf p (Yw d g c).s :=
 (hw.chn' c.toNat (X:=⟨(d.s.chans.getD c.toNat default).buf,(d.s.chans.getD c.toNat default).len,(d.s.chans.getD c.toNat default).closed,0,0,0⟩) rfl (hw.chans c.toNat)).status hg 1 (fun q=>absurd q (by decide))
theorem QFR {p:Prg} (hok:p.Ok) {d:Did} {g:Int} {x:Instr} (hw:Wf p d.s) (hg:0≤g∧g<d.s.count) (hb:0≤x.b∧x.b<(p.funcs.length:Int)):Wf p (YO p d g x).s:=by
 unfold YO
 refine Qb (q:=Wf p) (fun _=>hw) (fun h=>?_)
 have hcnt:=hw.count
 have hcd:=hok.code x.b.toNat (by omega)
 have hX:gorIn p ⟨1,x.b,0,0,Q3 d.s g x.c (p.fn x.b).params.toNat⟩:=⟨hb.1,hb.2,Int.le_refl 0,(show (0:Int)<((p.funcs.getD x.b.toNat default).code.length:Int) by omega),UH _ _ _ _⟩
 have h1:Wf p ⟨d.s.vars,d.s.owner,d.s.chans,d.s.gos.set d.s.count.toNat ⟨1,x.b,0,0,Q3 d.s g x.c (p.fn x.b).params.toNat⟩,d.s.count+1⟩:=by
  refine ⟨Yd hw.shape _ _ (UH _ _ _ _),⟨by show 0≤d.s.count+1;omega,by show d.s.count+1≤6;omega⟩,fun k h0 hc=>?_,fun k h0 hc=>?_,hw.chans⟩
  · have hc:k<d.s.count+1:=hc
    show gorIn p ((d.s.gos.set d.s.count.toNat _).getD k.toNat default)
    rw [QW]
    split
    · exact hX
    · rename_i q;exact hw.gos k h0 (by have:=hw.shape.gos;omega)
  · have hc:k<d.s.count+1:=hc
    show ((d.s.gos.set d.s.count.toNat _).getD k.toNat default).status=2→(p.instr ((d.s.gos.set d.s.count.toNat _).getD k.toNat default)).op=58
    rw [QW]
    split
    · intro q;exact absurd (show (1:Int)=2 from q) (by decide)
    · rename_i q;exact hw.wait k h0 (by have:=hw.shape.gos;omega)
 exact h1.reg ⟨hg.1,by show g<d.s.count+1;omega⟩ _ _
theorem QHZ {p:Prg} {d:Did} {g:Int} {x:Instr} (hw:Wf p d.s) (hg:0≤g∧g<d.s.count):Wf p (ZK d g x).s:=by
 have e:∀ r v,(d.s.setReg g r v).count=d.s.count:=by intro r v;unfold Stt.setReg;split<;>rfl
 unfold ZK
 refine Qb (q:=Wf p) (fun _=>hw.reg hg _ _) (fun _=>?_)
 refine Qb (q:=Wf p) (fun _=>hw.var _ _) (fun _=>?_)
 refine Qb (q:=Wf p) (fun _=>(hw.reg hg _ _).var _ _) (fun _=>?_)
 refine Qb (q:=Wf p) (fun _=>?_) (fun _=>?_)
 · show Wf p (Stt.setReg (if _ then _ else _) g _ _)
   by_cases h:XL (decide (d.s.vars.getD x.b.toNat 0=(d.s.gor g).reg x.c))=1
   · rw [if_pos h];exact (hw.var _ _).reg hg _ _
   · rw [if_neg h];exact hw.reg hg _ _
 refine Qb (q:=Wf p) (fun _=>hw) (fun _=>?_)
 refine Qb (q:=Wf p) (fun _=>hw.own _ _) (fun _=>?_)
 refine Qb (q:=Wf p) (fun _=>Qb (q:=Wf p) (fun _=>hw) (fun _=>hw.own _ _)) (fun _=>?_)
 refine Qb (q:=Wf p) (fun _=>?_) (fun _=>hw)
 show Wf p (Stt.setReg (if _ then _ else _) g _ _)
 by_cases h:XL (decide (d.s.owner.getD x.b.toNat 0=0))=1
 · rw [if_pos h];exact (hw.own _ _).reg hg _ _
 · rw [if_neg h];exact hw.reg hg _ _
theorem wz {p:Prg} (hok:p.Ok) {s:Stt} (hw:Wf p s) {g alt:Int} (hg:0≤g∧g<s.count) (ha:alt∈Qj p s g):Wf p (QI p s g alt).s:=by
 have hrt:=hw.right hok hg.1 hg.2
 have hgi:=hw.gos g hg.1 hg.2
 unfold QI
 refine Qb (q:=Wf p) (fun _=>QFQ hw hg) (fun h66=>?_)
 refine Qb (q:=Wf p) (fun h=>?_) (fun _=>?_)
 · have h:=hw.op_at hok hg.1 hg.2 h (by decide)
   exact QBq hw hg (xb ((z8 (by assumption)).symm.trans (Vt ha (by omega)).1)) (fun _ _=>h)
 refine Qb (q:=Wf p) (fun _=>QBs hw hg) (fun _=>?_)
 refine Qb (q:=Wf p) (fun _=>QFT hw) (fun _=>?_)
 refine Qb (q:=Wf p) (fun h=>?_) (fun _=>?_)
 · exact QFR hok hw hg (QFq hrt (hw.op_at hok hg.1 hg.2 h (by decide))).2.1
 refine Qb (q:=Wf p) (fun _=>Qb (q:=Wf p) (fun _=>hw) (fun _=>hw)) (fun _=>?_)
 refine Qb (q:=Wf p) (fun _=>hw) (fun _=>?_)
 refine Qb (q:=Wf p) (fun h=>?_) (fun _=>QHZ hw hg)
 refine Qb (q:=Wf p) (fun _=>hw) (fun hne=>?_)
 obtain ⟨k,rfl,hk,hco⟩:=(QAX ha h).resolve_left hne
 have hI:=V0 hrt (hw.op_at hok hg.1 hg.2 h (by decide))
 have hC:=UC hok (i:=(s.gos.getD g.toNat default).func.toNat) (j:=(UZ p s g).a.toNat) (k:=k) (by have:=hgi.f0;have:=hgi.f1;omega) (by have:=hI;omega) hk
 refine Qb (q:=Wf p) (fun hs=>?_) (fun _=>QBs hw hg)
 have hs:((Qx p s g).cases.getD k default).send=true:=hs
 have hcap:=hC.cap hs
 have hsn:XF p s ((Qx p s g).cases.getD k default).chan=true:=by
  unfold XX at hco
  rw [if_pos hs] at hco
  exact hco
 have h0:=(hok.caps ((Qx p s g).cases.getD k default).chan.toNat).1
 exact QBq hw hg (xb hsn) (fun _ q=>absurd (by show 0<p.chans.getD ((Qx p s g).cases.getD k default).chan.toNat 0
                                               have hcap:¬p.chans.getD ((Qx p s g).cases.getD k default).chan.toNat 0=0:=hcap
                                               omega) q)
theorem QC9 (p:Prg) (d:Did) (g:Int) (x:Instr):d.s.count≤(YO p d g x).s.count∧(YO p d g x).s.owner=d.s.owner:=by
 unfold YO
 refine Qb (q:=fun t=>d.s.count≤t.count∧t.owner=d.s.owner) (fun _=>⟨Int.le_refl _,rfl⟩) (fun _=>⟨?_,(Uu _ _ _ _)⟩)
 show d.s.count≤(Stt.setReg _ _ _ _).count
 rw [ZS]
 show d.s.count≤d.s.count+1
 omega
theorem QCI {q:Stt→Prop} {p:Prg} {s:Stt} {g alt:Int} (h1:q s) (h2:∀ t,Same s t→q t) (h3:q (YO p ⟨s,0,0,(s.gor g).pc+1⟩ g (QA p s g)).s)
 (h4:¬QL p s g=66→(QA p s g).op≠58→q (ZK ⟨s,0,0,(s.gor g).pc+1⟩ g (QA p s g)).s):q (QI p s g alt).s:=by
 unfold QI
 refine Qb (q:=q) (fun _=>h2 _ ⟨rfl,rfl⟩) (fun h66=>?_)
 have e:QL p s g=(QA p s g).op:=by
  unfold QL at h66 ⊢
  by_cases hs:(s.gor g).status=2
  · rw [if_pos hs] at h66;exact absurd rfl h66
  · rw [if_neg hs]
 refine Qb (q:=q) (fun _=>h2 _ (qv p (⟨s,0,0,(s.gor g).pc+1⟩:Did) _ _ _)) (fun h58=>?_)
 refine Qb (q:=q) (fun _=>h2 _ (qw (⟨s,0,0,(s.gor g).pc+1⟩:Did) _ _ _ _)) (fun _=>?_)
 refine Qb (q:=q) (fun _=>h2 _ (xC (⟨s,0,0,(s.gor g).pc+1⟩:Did) _)) (fun _=>?_)
 refine Qb (q:=q) (fun _=>h3) (fun _=>?_)
 refine Qb (q:=q) (fun _=>Qb (q:=q) (fun _=>h1) (fun _=>h1)) (fun _=>?_)
 refine Qb (q:=q) (fun _=>h1) (fun _=>?_)
 refine Qb (q:=q) (fun _=>?_) (fun _=>h4 h66 (by rw [← e];exact h58))
 refine Qb (q:=q) (fun _=>h1) (fun _=>?_)
 exact Qb (q:=q) (fun _=>h2 _ (qv p ⟨s,0,0,((Qx p s g).cases.getD alt.toNat default).to_⟩ _ _ _)) (fun _=>h2 _ (qw ⟨s,0,0,((Qx p s g).cases.getD alt.toNat default).to_⟩ _ _ _ _))
theorem zb (p:Prg) (s:Stt) (g alt:Int):s.count≤(QI p s g alt).s.count :=
 QCI (q:=fun t=>s.count≤t.count) (Int.le_refl _) (fun t h=>by rw [h.count];exact Int.le_refl _) (QC9 _ _ _ _).1 (fun _ _=>by rw [xA];exact Int.le_refl _)
section
variable (apply:Int→Int→Int→Int × Int)
theorem W8 {p:Prg}:∀ (m:Nat) (g:Gor),g.status≠2→(Zh apply p m g).status≠2
 | 0,g,h=>by
   unfold Zh
   split
   · show (5:Int)≠2;decide
   · exact h
 | m+1,g,h=>by
   have hl:(Qg apply p g).1.status≠2:=by
    unfold Qg
    simp only
    repeat' split
    all_goals first|exact h|(show (3:Int)≠2;decide)|(show (4:Int)≠2;decide)
   unfold Zh
   split
   · simp only
     split
     · exact W8 m _ hl
     · exact hl
   · exact h
theorem xZ {p:Prg} (hok:p.Ok) {s:Stt} (hs:s.Shape) (g fuel:Int):Wf p (Qd apply p s g fuel).1:=by
 have hz:=yQ hok
 unfold Qd
 by_cases h1:QP p=false
 · rw [if_pos h1];exact hz
 rw [if_neg h1]
 by_cases h2:Zf p s=false
 · rw [if_pos h2];exact hz
 rw [if_neg h2]
 have hw:=QDb hok hs (by simpa using h2)
 by_cases h3:g<0∨6≤g∨fuel<0∨4096<fuel
 · rw [if_pos h3];exact hz
 rw [if_neg h3]
 by_cases h4:s.count≤g
 · rw [if_pos h4];exact hz
 rw [if_neg h4]
 split
 · have hgi:=hw.gos g (by omega) (by omega)
   exact hw.go g (vL apply hok hgi fuel) (fun q=>absurd q (W8 apply _ _ (by show (1:Int)≠2;decide)))
 · exact hw
end
end Go.Eng
