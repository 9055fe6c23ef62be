/- A part of the proof: walks through the program's functions, and what they compute. -/
import Derived.Test.YtedceinkpkoncaaGreatDoorPk22
import Derived.Test.YtedceinkpkoncaaGreatDoorPk17
set_option linter.unusedSimpArgs false
set_option linter.unusedVariables false
namespace Go.Eng.Tryz
open Go.RowKit Go.Eng
set_option maxHeartbeats 0
set_option maxRecDepth 20000
theorem papply_ctr (op a b:Int):Ctr Go.Proofs.Tryz.prog tab 160 [43,2,2] [2,49] [.int op,.int a,.int b] [.int (applyW op a b).1,.int (applyW op a b).2] :=
 Ctr.ranged (enters_of Go.Proofs.Tryz.func160 rfl rfl) fun h=>wapply_ctr op a b (IntKind.i64_has (h 1 rfl rfl rfl)) (IntKind.i64_has (h 2 rfl rfl rfl))
end Go.Eng.Tryz
namespace Go.Eng
structure At (g:Int) (s t:Stt):Prop where
 status:(t.gor g).status=(s.gor g).status
 func:(t.gor g).func=(s.gor g).func
 pc:(t.gor g).pc=(s.gor g).pc
theorem At.refl (g:Int) (s:Stt):At g s s:=⟨rfl,rfl,rfl⟩
theorem At.trans {g:Int} {s t u:Stt} (h:At g s t) (k:At g t u):At g s u:=⟨k.status.trans h.status,k.func.trans h.func,k.pc.trans h.pc⟩
theorem setReg_at {s:Stt} (h6:s.gos.length=6) {g:Int} (hg:0≤g∧g<6) (r v:Int):At g s (s.setReg g r v):=by
 unfold Stt.setReg
 split
 · have e:(({ s with gos:=s.gos.set g.toNat { s.gor g with regs:=(s.gor g).regs.set r.toNat v } }:Stt).gor g)={ s.gor g with regs:=(s.gor g).regs.set r.toNat v }:=by
    show (s.gos.set _ _).getD _ _=_
    rw [getD_set,if_pos ⟨rfl,by omega⟩]
   refine ⟨?_,?_,?_⟩<;>rw [e]
 · exact At.refl _ _
structure VisOk (p:Prg) (s:Stt) (g:Int) (d:Did):Prop where
 vld:Vld p d.s
 func:(d.s.gor g).func=(s.gor g).func
 pc:(d.s.gor g).pc=(s.gor g).pc
 cnt:s.count≤d.s.count
 fail:d.why≠0→(d.s.gor g).status=1∧failing (instrAt p s g).op d.why=true
 on:d.why=0→0≤d.to_→(d.s.gor g).status=1∧d.to_<((p.fn (s.gor g).func).code.length:Int)
section
variable {p:Prg} {s:Stt} {g:Int}
theorem VisOk.plain {d:Did} (hv:Vld p d.s) (ha:At g s d.s) (hc:s.count≤d.s.count) (h1:(s.gor g).status=1) (hw:d.why=0) (ht:d.to_<((p.fn (s.gor g).func).code.length:Int)):VisOk p s g d :=
 ⟨hv,ha.func,ha.pc,hc,fun q=>absurd hw q,fun _ _=>⟨ha.status.trans h1,ht⟩⟩
theorem VisOk.failed {d:Did} (hv:Vld p d.s) (ha:At g s d.s) (hc:s.count≤d.s.count) (h1:(s.gor g).status=1) (hf:failing (instrAt p s g).op d.why=true) (hw:d.why≠0):VisOk p s g d :=
 ⟨hv,ha.func,ha.pc,hc,fun _=>⟨ha.status.trans h1,hf⟩,fun q=>absurd q hw⟩
theorem Vld.offer (hok:p.Ok) (h:Vld p s) {g c:Nat} (hg:(g:Int)<s.count) (h1:(s.gos.getD g default).status=1) (hop:(p.instr (s.gos.getD g default)).op=58) (ha:(p.instr (s.gos.getD g default)).a=(c:Int))
 (hc:c<p.chans.length) (hcap:p.chans.getD c 0=0) (ho:(s.chans.getD c default).offer=0) (hcl:(s.chans.getD c default).closed=false) (v:Int) :
 Vld p ⟨s.vars,s.owner,s.chans.set c ⟨(s.chans.getD c default).buf,(s.chans.getD c default).len,(s.chans.getD c default).closed,1,(g:Int),v⟩,s.gos.set g ⟨2,(s.gos.getD g default).func,(s.gos.getD g default).pc,(s.gos.getD g default).why,(s.gos.getD g default).regs⟩,s.count⟩:=by
 have hG:=h.gos g hg
 have hC:=h.chans c hc
 have h4:=hok.four
 have hl4:=h.shape.chans
 have hl6:=h.shape.gos
 have hcnt:=h.count
 have hX:GorP p ⟨2,(s.gos.getD g default).func,(s.gos.getD g default).pc,(s.gos.getD g default).why,(s.gos.getD g default).regs⟩:=by
  refine ⟨⟨by show (1:Int)≤2;decide,by show (2:Int)≤5;decide⟩,⟨hG.inn.f0,hG.inn.f1,hG.inn.p0,hG.inn.p1,hG.inn.regs⟩,fun k hk h8=>hG.zero k ?_ h8,fun q=>absurd (show (2:Int)=4 from q) (by decide),fun _=>hG.why (by omega),fun q=>absurd (show (2:Int)=3 from q) (by decide),fun q=>absurd (show (2:Int)=5 from q) (by decide)⟩
  have e1:gorM p (s.gos.getD g default)=(p.fn (s.gos.getD g default).func).regs:=if_neg (by omega)
  rw [e1];exact hk
 have hs1:=shape_gos h.shape g s.count (X:=⟨2,(s.gos.getD g default).func,(s.gos.getD g default).pc,(s.gos.getD g default).why,(s.gos.getD g default).regs⟩) hG.inn.regs
 have hb4:(s.chans.getD c default).buf.length=4:=h.shape.bufs _ (getD_mem _ (by omega))
 refine ⟨shape_chn hs1 c hb4,h.count,fun k hk=>?_,fun k h6 hk=>?_,h.vars,h.own,fun j hj=>?_,fun j hj4 hj=>?_,fun k hk hs=>?_⟩
 · show GorP p ((s.gos.set g _).getD k default)
   rw [getD_set];split
   · exact hX
   · exact h.gos k hk
 · show (s.gos.set g _).getD k default=zeroGor
   have hk:s.count≤(k:Int):=hk
   rw [getD_set,if_neg (by omega)]
   exact h.rest k h6 hk
 · show ChnP p (s.gos.set g _) s.count j ((s.chans.set c _).getD j default)
   rw [getD_set];split
   · rename_i q
     obtain ⟨q1,q2⟩:=q
     subst q1
     refine ⟨hC.len,⟨by show (0:Int)≤1;decide,by show (1:Int)≤3;decide⟩,fun w=>absurd hcap w,hC.buf,fun w=>absurd (show (1:Int)=0 from w) (by decide),fun _ w=>absurd rfl w,fun _=>hcl,fun w=>absurd (show (1:Int)=3 from w) (by decide),fun _=>⟨⟨by show (0:Int)≤(g:Int);omega,hg⟩,?_⟩⟩
     show Waits p (s.gos.set g _) ((g:Int)).toNat c
     rw [Int.toNat_natCast]
     unfold Waits
     rw [getD_set,if_pos ⟨rfl,by omega⟩]
     exact ⟨rfl,hop,ha⟩
   · exact (h.chans j hj).go (by omega)
 · show (s.chans.set c _).getD j default=zeroChn
   rw [getD_set,if_neg (by omega)]
   exact h.rchans j hj4 hj
 · have hs:((s.gos.set g _).getD k default).status=2:=hs
   rw [getD_set] at hs
   split at hs
   · rename_i q
     refine ⟨c,hc,?_⟩
     show ((s.chans.set c _).getD c default).offer≠0∧((s.chans.set c _).getD c default).from_=(k:Int)
     rw [getD_set,if_pos ⟨rfl,by omega⟩]
     exact ⟨by show (1:Int)≠0;decide,by show (g:Int)=(k:Int);rw [q.1]⟩
   · obtain ⟨j,hj,w1,w2⟩:=h.waits k hk hs
     refine ⟨j,hj,?_⟩
     show ((s.chans.set c _).getD j default).offer≠0∧((s.chans.set c _).getD j default).from_=(k:Int)
     have hjc:c≠j:=fun q=>w1 (by rw [← q];exact ho)
     rw [getD_set,if_neg (fun q=>hjc q.1)]
     exact ⟨w1,w2⟩
theorem Vld.waiting (h:Vld p s) {g:Nat} (hg:(g:Int)<s.count) (h2:(s.gos.getD g default).status=2):∃ c:Nat,c<p.chans.length∧(s.chans.getD c default).offer≠0∧(s.chans.getD c default).from_=(g:Int)∧Waits p s.gos g c:=by
 obtain ⟨c,hc,h1,h3⟩:=h.waits g hg h2
 have:=(h.chans c hc).from_ h1
 rw [h3,Int.toNat_natCast] at this
 exact ⟨c,hc,h1,h3,this.2⟩
theorem Vld.taken (hok:p.Ok) (h:Vld p s) {g c:Nat} (hg:(g:Int)<s.count) (h2:(s.gos.getD g default).status=2) (ha:(p.instr (s.gos.getD g default)).a=(c:Int)) :
 Vld p ⟨s.vars,s.owner,s.chans.set c ⟨(s.chans.getD c default).buf,(s.chans.getD c default).len,(s.chans.getD c default).closed,0,0,0⟩,s.gos.set g ⟨1,(s.gos.getD g default).func,(s.gos.getD g default).pc,(s.gos.getD g default).why,(s.gos.getD g default).regs⟩,s.count⟩:=by
 obtain ⟨c',hc,ho,hf,hw⟩:=h.waiting hg h2
 have e:c'=c:=by have:=hw.2.2.symm.trans ha;omega
 subst e
 have hG:=h.gos g hg
 have hC:=h.chans c' hc
 have h4:=hok.four
 have hl4:=h.shape.chans
 have hl6:=h.shape.gos
 have hcnt:=h.count
 have hX:GorP p ⟨1,(s.gos.getD g default).func,(s.gos.getD g default).pc,(s.gos.getD g default).why,(s.gos.getD g default).regs⟩:=by
  refine ⟨⟨by show (1:Int)≤1;decide,by show (1:Int)≤5;decide⟩,⟨hG.inn.f0,hG.inn.f1,hG.inn.p0,hG.inn.p1,hG.inn.regs⟩,fun k hk h8=>hG.zero k ?_ h8,fun q=>absurd (show (1:Int)=4 from q) (by decide),fun _=>hG.why (by omega),fun q=>absurd (show (1:Int)=3 from q) (by decide),fun q=>absurd (show (1:Int)=5 from q) (by decide)⟩
  have e1:gorM p (s.gos.getD g default)=(p.fn (s.gos.getD g default).func).regs:=if_neg (by omega)
  rw [e1];exact hk
 have hs1:=shape_gos h.shape g s.count (X:=⟨1,(s.gos.getD g default).func,(s.gos.getD g default).pc,(s.gos.getD g default).why,(s.gos.getD g default).regs⟩) hG.inn.regs
 have hb4:(s.chans.getD c' default).buf.length=4:=h.shape.bufs _ (getD_mem _ (by omega))
 refine ⟨shape_chn hs1 c' hb4,h.count,fun k hk=>?_,fun k h6 hk=>?_,h.vars,h.own,fun j hj=>?_,fun j hj4 hj=>?_,fun k hk hs=>?_⟩
 · show GorP p ((s.gos.set g _).getD k default)
   rw [getD_set];split
   · exact hX
   · exact h.gos k hk
 · show (s.gos.set g _).getD k default=zeroGor
   have hk:s.count≤(k:Int):=hk
   rw [getD_set,if_neg (by omega)]
   exact h.rest k h6 hk
 · show ChnP p (s.gos.set g _) s.count j ((s.chans.set c' _).getD j default)
   rw [getD_set];split
   · rename_i q
     obtain ⟨q1,q2⟩:=q
     subst q1
     exact ⟨hC.len,⟨by show (0:Int)≤0;decide,by show (0:Int)≤3;decide⟩,fun w=>rfl,hC.buf,fun w=>⟨rfl,rfl⟩,fun w=>absurd rfl w,fun w=>absurd (show (0:Int)=1 from w) (by decide),fun w=>absurd (show (0:Int)=3 from w) (by decide),fun w=>absurd rfl w⟩
   · rename_i q
     have hJ:=h.chans j hj
     refine ⟨hJ.len,hJ.off,hJ.cap,hJ.buf,hJ.none,hJ.val,hJ.open_,hJ.lost,fun w=>⟨(hJ.from_ w).1,?_⟩⟩
     have hwj:=(hJ.from_ w).2
     have hne:g≠(s.chans.getD j default).from_.toNat:=by
      intro q2
      have e2:(p.instr (s.gos.getD (s.chans.getD j default).from_.toNat default)).a=(j:Int):=hwj.2.2
      rw [← q2,hw.2.2] at e2
      exact q ⟨by omega,by omega⟩
     unfold Waits at *
     rw [getD_set,if_neg (fun q2=>hne q2.1)]
     exact hwj
 · show (s.chans.set c' _).getD j default=zeroChn
   rw [getD_set,if_neg (by omega)]
   exact h.rchans j hj4 hj
 · have hs:((s.gos.set g _).getD k default).status=2:=hs
   rw [getD_set] at hs
   split at hs
   · exact absurd (show (1:Int)=2 from hs) (by decide)
   · rename_i q
     obtain ⟨j,hj,w1,w2⟩:=h.waits k hk hs
     refine ⟨j,hj,?_⟩
     show ((s.chans.set c' _).getD j default).offer≠0∧((s.chans.set c' _).getD j default).from_=(k:Int)
     have hjc:c'≠j:=by
      intro q2
      rw [← q2,hf] at w2
      exact q ⟨by omega,by omega⟩
     rw [getD_set,if_neg (fun q=>hjc q.1)]
     exact ⟨w1,w2⟩
theorem Vld.spawn (hok:p.Ok) (h:Vld p s) (h6:s.count<6) {b:Int} (hb:0≤b∧b<p.funcs.length) {X:Gor} (hX:GorP p X) (h1:X.status=1):Vld p ⟨s.vars,s.owner,s.chans,s.gos.set s.count.toNat X,s.count+1⟩:=by
 have hcnt:=h.count
 have hl6:=h.shape.gos
 have hz:(s.gos.getD s.count.toNat default).status≠2:=by rw [h.rest s.count.toNat (by omega) (by omega)];decide
 refine ⟨shape_gos h.shape _ _ hX.inn.regs,⟨by show 1≤s.count+1;omega,by show s.count+1≤6;omega⟩,fun k hk=>?_,fun k h6 hk=>?_,h.vars,fun k hk=>?_,fun c hc=>?_,h.rchans,fun g hg hs=>?_⟩
 · have hk:(k:Int)<s.count+1:=hk
   show GorP p ((s.gos.set s.count.toNat X).getD k default)
   rw [getD_set];split
   · exact hX
   · exact h.gos k (by omega)
 · have hk:s.count+1≤(k:Int):=hk
   show (s.gos.set s.count.toNat X).getD k default=zeroGor
   rw [getD_set,if_neg (by omega)]
   exact h.rest k h6 (by omega)
 · have:=h.own k hk
   exact ⟨⟨this.1.1,Int.le_trans this.1.2 (by show s.count≤s.count+1;omega)⟩,this.2⟩
 · have hC:=(h.chans c hc).go (X:=X) hz
   exact ⟨hC.len,hC.off,hC.cap,hC.buf,hC.none,hC.val,hC.open_,hC.lost,fun q=>⟨⟨(hC.from_ q).1.1,Int.lt_trans (hC.from_ q).1.2 (by show s.count<s.count+1;omega)⟩,(hC.from_ q).2⟩⟩
 · have hs:((s.gos.set s.count.toNat X).getD g default).status=2:=hs
   have hg:(g:Int)<s.count+1:=hg
   rw [getD_set] at hs
   split at hs
   · omega
   · exact h.waits g (by omega) hs
end
end Go.Eng
namespace Go.Eng
theorem ite_vis {p:Prg} {s:Stt} {g:Int} {c:Prop} [Decidable c] {a b:Did} (h1:c→VisOk p s g a) (h2:¬c→VisOk p s g b):VisOk p s g (if c then a else b):=by
 by_cases h:c
 · rw [if_pos h];exact h1 h
 · rw [if_neg h];exact h2 h
section
variable {p:Prg} (hok:p.Ok) {s:Stt} (hv:Vld p s) {g:Int} (hg:0≤g∧g<s.count) (h1:(s.gor g).status=1)
include hok hv hg h1
theorem doSend_ok {v0 t c:Int} (v:Int) (ht:t<((p.fn (s.gor g).func).code.length:Int)) (hc:0≤c∧c<(p.chans.length:Int)) (hsn:sends p s c=true)
 (h58:p.cap c=0→(instrAt p s g).op=58∧(instrAt p s g).a=c) (hf:(instrAt p s g).op=58∨(instrAt p s g).op=61):VisOk p s g (doSend p ⟨s,v0,0,t⟩ g c v):=by
 have h4:=hok.four
 have hC:=hv.chans c.toNat (by omega)
 have hb4:(s.chans.getD c.toNat default).buf.length=4:=hv.shape.bufs _ (getD_mem _ (by rw [hv.shape.chans];omega))
 have hcp0:=(hok.caps c.toNat).1
 have hcp4:=(hok.caps c.toNat).2
 unfold doSend
 refine ite_vis (fun hcl=>?_) (fun hcl=>ite_vis (fun hcp=>?_) (fun hcp=>?_))
 · refine VisOk.failed hv (At.refl _ _) (Int.le_refl _) h1 ?_ (by show (4:Int)≠0;decide)
   show failing (instrAt p s g).op 4=true
   simp only [failing]
   rcases hf with q|q<;>simp [q]
 · have hcl:(s.chans.getD c.toNat default).closed=false:=Bool.of_not_eq_true hcl
   have hcp:0<p.chans.getD c.toNat 0:=hcp
   have hl:=sends_len hsn hcl hcp
   have ho:=hC.cap (by omega)
   have hV:Vld p (s.setChn c ⟨(s.chans.getD c.toNat default).buf.set (s.chans.getD c.toNat default).len.toNat v,(s.chans.getD c.toNat default).len+1,(s.chans.getD c.toNat default).closed,(s.chans.getD c.toNat default).offer,(s.chans.getD c.toNat default).from_,(s.chans.getD c.toNat default).val⟩):=by
    refine hv.chn (c:=c.toNat) (by omega) (by show (List.set _ _ _).length=4;rw [List.length_set];exact hb4) ⟨⟨by have:=hC.len.1;show 0≤_+1;omega,by show _+1≤_;omega⟩,hC.off,hC.cap,fun k q1 q2=>?_,hC.none,hC.val,hC.open_,hC.lost,hC.from_⟩ (fun q=>absurd ho q)
    have q1:(s.chans.getD c.toNat default).len+1≤(k:Int):=q1
    have:=hC.len.1
    show (List.set _ _ _).getD k 0=0
    rw [getD_set,if_neg (by omega)]
    exact hC.buf k (by omega) q2
   exact VisOk.plain hV ⟨rfl,rfl,rfl⟩ (Int.le_refl _) h1 rfl ht
 · have hcl:(s.chans.getD c.toNat default).closed=false:=Bool.of_not_eq_true hcl
   have hcp:¬0<p.chans.getD c.toNat 0:=hcp
   have hcap:p.chans.getD c.toNat 0=0:=by omega
   have ho:(s.chans.getD c.toNat default).offer=0:=by
    have e:sends p s c=decide ((s.chn c).offer=0):=(if_neg (fun q=>Bool.noConfusion (hcl.symm.trans q))).trans (if_neg hcp)
    rw [e] at hsn
    exact of_decide_eq_true hsn
   obtain ⟨hop,ha⟩:=h58 hcap
   have hV:=hv.offer hok (g:=g.toNat) (c:=c.toNat) (by omega) h1 hop (by have:(instrAt p s g).a=(p.instr (s.gos.getD g.toNat default)).a:=rfl;omega) (by omega) hcap ho hcl v
   rw [show ((g.toNat:Nat):Int)=g by omega] at hV
   have e:∀ {x:Stt},x=(s.setStatus g 2).setChn c ⟨(s.chans.getD c.toNat default).buf,(s.chans.getD c.toNat default).len,(s.chans.getD c.toNat default).closed,1,g,v⟩→(x.gor g).func=(s.gor g).func∧(x.gor g).pc=(s.gor g).pc:=by
    rintro x rfl
    show ((s.gos.set g.toNat _).getD g.toNat default).func=_∧((s.gos.set g.toNat _).getD g.toNat default).pc=_
    have hc6:=hv.count
    rw [getD_set,if_pos ⟨rfl,by rw [hv.shape.gos];omega⟩]
    exact ⟨rfl,rfl⟩
   exact ⟨hV,(e rfl).1,(e rfl).2,Int.le_refl _,fun q=>absurd rfl q,fun _ q=>absurd (show (0:Int) ≤ -1 from q) (by decide)⟩
theorem doRecv_ok {v0 t c r ok:Int} (ht:t<((p.fn (s.gor g).func).code.length:Int)) (hc:0≤c∧c<(p.chans.length:Int)) (hr:r = -1∨0≤r∧r<(p.fn (s.gor g).func).regs) (hk:ok = -1∨0≤ok∧ok<(p.fn (s.gor g).func).regs) :
 VisOk p s g (doRecv ⟨s,v0,0,t⟩ g c r ok):=by
 have h4:=hok.four
 have hC:=hv.chans c.toNat (by omega)
 have hb4:(s.chans.getD c.toNat default).buf.length=4:=hv.shape.bufs _ (getD_mem _ (by rw [hv.shape.chans];omega))
 have hcp4:=(hok.caps c.toNat).2
 have hc6:=hv.count
 have two:∀ (X:Stt) (x y vv:Int),Vld p X→X.gos=s.gos→X.count=s.count→VisOk p s g ⟨(X.setReg g r x).setReg g ok y,vv,0,t⟩:=by
  intro X x y vv hX e1 e2
  have eg:X.gor g=s.gor g:=by unfold Stt.gor;rw [e1]
  have a1:=setReg_at (s:=X) (by rw [hX.shape.gos]) (g:=g) ⟨hg.1,by omega⟩ r x
  have b1:=hX.reg (g:=g) ⟨hg.1,by omega⟩ (by rw [eg];exact h1) (r:=r) (by rw [eg];exact hr) x
  have a2:=setReg_at (s:=X.setReg g r x) (by rw [b1.shape.gos]) (g:=g) ⟨hg.1,by omega⟩ ok y
  have b2:=b1.reg (g:=g) ⟨hg.1,by rw [setReg_count];omega⟩ (by rw [a1.status,eg];exact h1) (r:=ok) (by rw [a1.func,eg];exact hk) y
  have a0:At g s X:=⟨by rw [eg],by rw [eg],by rw [eg]⟩
  exact VisOk.plain b2 (a0.trans (a1.trans a2)) (by show s.count≤(Stt.setReg _ _ _ _).count;rw [setReg_count,setReg_count,e2];exact Int.le_refl _) h1 rfl ht
 unfold doRecv
 refine ite_vis (fun hl=>?_) (fun hl=>ite_vis (fun ho=>?_) (fun ho=>?_))
 · have hl:0<(s.chans.getD c.toNat default).len:=hl
   have hl2:=hC.len
   have hof:=hC.cap (by omega)
   have hV:Vld p (s.setChn c ⟨(shiftTo (s.chans.getD c.toNat default).buf ((s.chans.getD c.toNat default).len-1).toNat).set ((s.chans.getD c.toNat default).len-1).toNat 0,(s.chans.getD c.toNat default).len-1,(s.chans.getD c.toNat default).closed,(s.chans.getD c.toNat default).offer,(s.chans.getD c.toNat default).from_,(s.chans.getD c.toNat default).val⟩):=by
    refine hv.chn (c:=c.toNat) (by omega) (by show (List.set _ _ _).length=4;rw [List.length_set,shiftTo_len];exact hb4) ⟨⟨by show 0≤_-1;omega,by show _-1≤_;omega⟩,hC.off,hC.cap,fun k q1 q2=>?_,hC.none,hC.val,hC.open_,hC.lost,hC.from_⟩ (fun q=>absurd hof q)
    have q1:(s.chans.getD c.toNat default).len-1≤(k:Int):=q1
    show (List.set _ _ _).getD k 0=0
    rw [getD_set];split
    · rfl
    · rename_i q
      have hne:((s.chans.getD c.toNat default).len-1).toNat≠k:=fun w=>q ⟨w,by rw [shiftTo_len];omega⟩
      rw [shiftTo_at _ (by omega) (by omega)]
      exact hC.buf k (by omega) q2
   exact two _ _ _ _ hV rfl rfl
 · have ho:(s.chans.getD c.toNat default).offer=1:=ho
   have hV:Vld p (s.setChn c ⟨(s.chans.getD c.toNat default).buf,(s.chans.getD c.toNat default).len,(s.chans.getD c.toNat default).closed,2,(s.chans.getD c.toNat default).from_,0⟩):=by
    refine hv.chn (c:=c.toNat) (by omega) hb4 ⟨hC.len,⟨by show (0:Int)≤2;decide,by show (2:Int)≤3;decide⟩,fun q=>absurd (hC.cap q) (by omega),hC.buf,fun q=>absurd (show (2:Int)=0 from q) (by decide),fun _ _=>rfl,fun q=>absurd (show (2:Int)=1 from q) (by decide),fun q=>absurd (show (2:Int)=3 from q) (by decide),fun _=>hC.from_ (by omega)⟩ (fun _=>⟨by show (2:Int)≠0;decide,rfl⟩)
   exact two _ _ _ _ hV rfl rfl
 · have hV:Vld p (s.setChn c (s.chans.getD c.toNat default)):=hv.chn (c:=c.toNat) (by omega) hb4 hC (fun q=>⟨q,rfl⟩)
   exact two _ _ _ _ hV rfl rfl
omit hg in
theorem doClose_ok {v0 t c:Int} (ht:t<((p.fn (s.gor g).func).code.length:Int)) (hc:0≤c∧c<(p.chans.length:Int)) (hop:(instrAt p s g).op=60):VisOk p s g (doClose ⟨s,v0,0,t⟩ c):=by
 have h4:=hok.four
 have hC:=hv.chans c.toNat (by omega)
 have hb4:(s.chans.getD c.toNat default).buf.length=4:=hv.shape.bufs _ (getD_mem _ (by rw [hv.shape.chans];omega))
 unfold doClose
 refine ite_vis (fun hcl=>?_) (fun hcl=>ite_vis (fun ho=>?_) (fun ho=>?_))
 · refine VisOk.failed hv (At.refl _ _) (Int.le_refl _) h1 ?_ (by show (5:Int)≠0;decide)
   show failing (instrAt p s g).op 5=true
   simp [failing,hop]
 · have ho:(s.chans.getD c.toNat default).offer=1:=ho
   have hV:Vld p (s.setChn c ⟨(s.chans.getD c.toNat default).buf,(s.chans.getD c.toNat default).len,true,3,(s.chans.getD c.toNat default).from_,0⟩):=by
    refine hv.chn (c:=c.toNat) (by omega) hb4 ⟨hC.len,⟨by show (0:Int)≤3;decide,by show (3:Int)≤3;decide⟩,fun q=>absurd (hC.cap q) (by omega),hC.buf,fun q=>absurd (show (3:Int)=0 from q) (by decide),fun _ _=>rfl,fun q=>absurd (show (3:Int)=1 from q) (by decide),fun _=>rfl,fun _=>hC.from_ (by omega)⟩ (fun _=>⟨by show (3:Int)≠0;decide,rfl⟩)
   exact VisOk.plain hV ⟨rfl,rfl,rfl⟩ (Int.le_refl _) h1 rfl ht
 · have ho:¬(s.chans.getD c.toNat default).offer=1:=ho
   have hV:Vld p (s.setChn c ⟨(s.chans.getD c.toNat default).buf,(s.chans.getD c.toNat default).len,true,(s.chans.getD c.toNat default).offer,(s.chans.getD c.toNat default).from_,(s.chans.getD c.toNat default).val⟩):=by
    exact hv.chn (c:=c.toNat) (by omega) hb4 ⟨hC.len,hC.off,hC.cap,hC.buf,hC.none,hC.val,fun q=>absurd q ho,fun _=>rfl,hC.from_⟩ (fun q=>⟨q,rfl⟩)
   exact VisOk.plain hV ⟨rfl,rfl,rfl⟩ (Int.le_refl _) h1 rfl ht
theorem doSpawn_ok {v0 t:Int} {x:Instr} (hx:x=instrAt p s g) (ht:t<((p.fn (s.gor g).func).code.length:Int)) (hop:(instrAt p s g).op=62) (ha:x.a = -1∨0≤x.a∧x.a<(p.fn (s.gor g).func).regs) (hb:0≤x.b∧x.b<(p.funcs.length:Int)):VisOk p s g (doSpawn p ⟨s,v0,0,t⟩ g x):=by
 have hc6:=hv.count
 unfold doSpawn
 refine ite_vis (fun hcl=>?_) (fun hcl=>?_)
 · refine VisOk.failed hv (At.refl _ _) (Int.le_refl _) h1 ?_ (by show (8:Int)≠0;decide)
   show failing (instrAt p s g).op 8=true
   simp [failing,hop]
 · have hcl:¬6≤s.count:=hcl
   have hcd:=hok.code x.b.toNat (by omega)
   have hpm:=hok.params x.b.toNat
   have hX:GorP p ⟨1,x.b,0,0,spawnRegs s g x.c (p.fn x.b).params.toNat⟩:=by
    refine ⟨⟨by show (1:Int)≤1;decide,by show (1:Int)≤5;decide⟩,⟨hb.1,hb.2,Int.le_refl 0,(show (0:Int)<((p.funcs.getD x.b.toNat default).code.length:Int) by omega),spawnRegs_len _ _ _ _⟩,fun k hk h8=>?_,fun q=>absurd (show (1:Int)=4 from q) (by decide),fun _=>rfl,fun q=>absurd (show (1:Int)=3 from q) (by decide),fun q=>absurd (show (1:Int)=5 from q) (by decide)⟩
    have hk:(p.funcs.getD x.b.toNat default).regs≤(k:Int):=hk
    show (spawnRegs s g x.c (p.fn x.b).params.toNat).getD k 0=0
    unfold spawnRegs
    rw [rows_getD h8,if_neg (by show ¬k<(p.funcs.getD x.b.toNat default).params.toNat;omega)]
   have hV:=hv.spawn hok (by omega) hb hX rfl
   have eg:∀ {X:Stt},X=⟨s.vars,s.owner,s.chans,s.gos.set s.count.toNat ⟨1,x.b,0,0,spawnRegs s g x.c (p.fn x.b).params.toNat⟩,s.count+1⟩→X.gor g=s.gor g:=by
    rintro X rfl
    show (s.gos.set s.count.toNat _).getD g.toNat default=_
    rw [getD_set,if_neg (by omega)];rfl
   have a1:=setReg_at hV.shape.gos (g:=g) ⟨hg.1,by omega⟩ x.a s.count
   have b1:=hV.reg (g:=g) ⟨hg.1,by show g<s.count+1;omega⟩ (by rw [eg rfl];exact h1) (r:=x.a) (by rw [eg rfl];exact ha) s.count
   refine VisOk.plain b1 ⟨?_,?_,?_⟩ (by show s.count≤(Stt.setReg _ _ _ _).count;rw [setReg_count];show s.count≤s.count+1;omega) h1 rfl ht
   · exact a1.status.trans (by rw [eg rfl])
   · exact a1.func.trans (by rw [eg rfl])
   · exact a1.pc.trans (by rw [eg rfl])
theorem doVars_ok {v0 t:Int} {x:Instr} (hx:x=instrAt p s g) (ht:t<((p.fn (s.gor g).func).code.length:Int)):VisOk p s g (doVars ⟨s,v0,0,t⟩ g x):=by
 have hc6:=hv.count
 have hgi:=(hv.gos g.toNat (by omega)).inn
 have hrt:instrErr p (p.funcs.getD (s.gos.getD g.toNat default).func.toNat default) x=0:=by rw [hx];exact instr_right hok hgi
 have reg:∀ (X:Stt) (r v vv:Int),Vld p X→X.gos=s.gos→X.count=s.count→(r = -1∨0≤r∧r<(p.fn (s.gor g).func).regs)→VisOk p s g ⟨X.setReg g r v,vv,0,t⟩:=by
  intro X r v vv hX e1 e2 hr
  have eg:X.gor g=s.gor g:=by unfold Stt.gor;rw [e1]
  have a1:=setReg_at (s:=X) (by rw [hX.shape.gos]) (g:=g) ⟨hg.1,by omega⟩ r v
  have b1:=hX.reg (g:=g) ⟨hg.1,by omega⟩ (by rw [eg];exact h1) (r:=r) (by rw [eg];exact hr) v
  have a0:At g s X:=⟨by rw [eg],by rw [eg],by rw [eg]⟩
  exact VisOk.plain b1 (a0.trans a1) (by show s.count≤(Stt.setReg _ _ _ _).count;rw [setReg_count,e2];exact Int.le_refl _) h1 rfl ht
 by_cases h53:x.op=53
 · have hI:=vis53 hrt h53
   rw [doVars53 (by omega) (by omega) (by omega) h53]
   have hr:x.a = -1∨0≤x.a∧x.a<(p.fn (s.gor g).func).regs:=by have:=hI.1;first|exact this|exact .inr this
   exact ite_vis (fun _=>reg _ _ _ _ (hv.var (i:=x.b.toNat) (by omega) _) rfl rfl hr) (fun _=>reg s _ _ _ hv rfl rfl hr)
 by_cases h57:x.op=57
 · have hI:=vis57 hrt h57
   rw [doVars57 (by omega) (by omega) (by omega) (by omega) (by omega) (by omega) (by omega) h57]
   have hr:x.a = -1∨0≤x.a∧x.a<(p.fn (s.gor g).func).regs:=by have:=hI.1;first|exact this|exact .inr this
   exact ite_vis (fun _=>reg _ _ _ _ (hv.owns (i:=x.b.toNat) (by omega) (x:=g+1) (by omega)) rfl rfl hr) (fun _=>reg s _ _ _ hv rfl rfl hr)
 unfold doVars
 refine ite_vis (fun h=>?_) (fun _=>?_)
 · have hI:=vis50 hrt h
   exact reg s _ _ _ hv rfl rfl (by have:=hI.1;first|exact this|exact .inr this)
 refine ite_vis (fun h=>?_) (fun _=>?_)
 · have hI:=vis51 hrt h
   exact VisOk.plain (hv.var (i:=x.a.toNat) (by omega) _) ⟨rfl,rfl,rfl⟩ (Int.le_refl _) h1 rfl ht
 refine ite_vis (fun h=>?_) (fun _=>?_)
 · have hI:=vis52 hrt h
   have h2:=reg s x.a (s.vars.getD x.b.toNat 0) ((s.gor g).reg x.c) hv rfl rfl (by have:=hI.1;first|exact this|exact .inr this)
   have hV:=h2.vld.var (i:=x.b.toNat) (by omega) (w64 ((s.setReg g x.a (s.vars.getD x.b.toNat 0)).vars.getD x.b.toNat 0+(s.gor g).reg x.c))
   exact ⟨hV,h2.func,h2.pc,h2.cnt,fun q=>absurd rfl q,h2.on⟩
 refine ite_vis (fun h=>absurd h h53) (fun _=>?_)
 refine ite_vis (fun h=>VisOk.plain hv (At.refl _ _) (Int.le_refl _) h1 rfl ht) (fun _=>?_)
 refine ite_vis (fun h=>?_) (fun _=>?_)
 · have hI:=vis55 hrt (.inl h)
   exact VisOk.plain (hv.owns (i:=x.a.toNat) (by omega) (x:=g+1) (by omega)) ⟨rfl,rfl,rfl⟩ (Int.le_refl _) h1 rfl ht
 refine ite_vis (fun h=>?_) (fun _=>?_)
 · have hI:=vis55 hrt (.inr h)
   refine ite_vis (fun _=>?_) (fun _=>?_)
   · refine VisOk.failed hv (At.refl _ _) (Int.le_refl _) h1 ?_ (by show (6:Int)≠0;decide)
     show failing (instrAt p s g).op 6=true
     rw [← hx];simp [failing,h]
   · exact VisOk.plain (hv.owns (i:=x.a.toNat) (by omega) (x:=0) (by omega)) ⟨rfl,rfl,rfl⟩ (Int.le_refl _) h1 rfl ht
 exact ite_vis (fun h=>absurd h h57) (fun _=>VisOk.plain hv (At.refl _ _) (Int.le_refl _) h1 rfl ht)
end
theorem visible_ok {p:Prg} (hok:p.Ok) (hr:rightP p=true) {s:Stt} (hv:Vld p s) {g alt:Int} (ha:alt∈alts p s g):VisOk p s g (visible p s g alt):=by
 have hl:=live_iff.1 (alts_live ha)
 have hg:=hl.1
 have hw:=hv.wf hok hr
 have hc6:=hv.count
 have hgi:=(hv.gos g.toNat (by omega)).inn
 have hrt:instrErr p (p.funcs.getD (s.gos.getD g.toNat default).func.toNat default) (instrAt p s g)=0:=instr_right hok hgi
 have hnx:(instrAt p s g).op≠42∧(instrAt p s g).op≠45∧(instrAt p s g).op≠61→(s.gor g).pc+1<((p.fn (s.gor g).func).code.length:Int):=fun h=>next_in hok hgi h
 unfold visible
 refine ite_vis (fun h66=>?_) (fun h66=>?_)
 · have h2:(s.gos.getD g.toNat default).status=2:=by
    rcases opAt_cases h66 with h|h
    · exact h.1
    · have:=op_le hrt
      have e:(insAt p s g).op=(instrAt p s g).op:=rfl
      omega
   obtain ⟨c,hc,ho,hf,hwt⟩:=hv.waiting (g:=g.toNat) (by omega) h2
   have hop:(instrAt p s g).op=58:=hwt.2.1
   have hA:(instrAt p s g).a=(c:Int):=hwt.2.2
   have hV:=hv.taken hok (g:=g.toNat) (c:=c) (by omega) h2 hwt.2.2
   have e:(doTaken ⟨s,0,0,(s.gor g).pc+1⟩ g (instrAt p s g).a).s=⟨s.vars,s.owner,s.chans.set c ⟨(s.chans.getD c default).buf,(s.chans.getD c default).len,(s.chans.getD c default).closed,0,0,0⟩,s.gos.set g.toNat ⟨1,(s.gos.getD g.toNat default).func,(s.gos.getD g.toNat default).pc,(s.gos.getD g.toNat default).why,(s.gos.getD g.toNat default).regs⟩,s.count⟩:=by
    unfold doTaken
    rw [hA];rfl
   have eg:(doTaken ⟨s,0,0,(s.gor g).pc+1⟩ g (instrAt p s g).a).s.gor g=⟨1,(s.gos.getD g.toNat default).func,(s.gos.getD g.toNat default).pc,(s.gos.getD g.toNat default).why,(s.gos.getD g.toNat default).regs⟩:=by
    rw [e]
    show (s.gos.set g.toNat _).getD g.toNat default=_
    rw [getD_set,if_pos ⟨rfl,by rw [hv.shape.gos];omega⟩]
   refine ⟨by rw [e];exact hV,by rw [eg];rfl,by rw [eg];rfl,by rw [e];exact Int.le_refl _,fun q=>⟨by rw [eg],?_⟩,fun _ _=>⟨by rw [eg],hnx (by omega)⟩⟩
   have e4:(doTaken ⟨s,0,0,(s.gor g).pc+1⟩ g (instrAt p s g).a).why=4:=by
    unfold doTaken at q ⊢
    simp only at q ⊢
    split
    · rfl
    · rename_i q2;rw [if_neg q2] at q;exact absurd rfl q
   rw [e4];simp [failing,hop]
 have h1:(s.gor g).status=1:=by
  rcases hl.2 with h|h
  · exact h
  · exact absurd (by unfold opAt;exact if_pos h) h66
 have e:opAt p s g=(instrAt p s g).op:=by
  unfold opAt
  exact if_neg (by omega)
 rw [e] at h66 ⊢
 refine ite_vis (fun h=>?_) (fun h58=>?_)
 · have hI:=vis58 hrt h
   have hsn:sends p s (instrAt p s g).a=true:=(plain_send (by rw [e];exact h)).symm.trans (alts_plain ha (by omega)).1
   exact doSend_ok hok hv hg h1 _ (hnx (by omega)) hI.1 hsn (fun _=>⟨h,rfl⟩) (.inl h)
 refine ite_vis (fun h=>?_) (fun _=>?_)
 · have hI:=vis59 hrt h
   exact doRecv_ok hok hv hg h1 (hnx (by omega)) hI.2.1 hI.1 hI.2.2
 refine ite_vis (fun h=>?_) (fun _=>?_)
 · exact doClose_ok hok hv h1 (hnx (by omega)) (vis60 hrt h) h
 refine ite_vis (fun h=>?_) (fun _=>?_)
 · have hI:=vis62 hrt h
   exact doSpawn_ok hok hv hg h1 rfl (hnx (by omega)) h hI.1 hI.2.1
 refine ite_vis (fun h=>ite_vis (fun _=>?_) (fun _=>?_)) (fun h63=>?_)
 · refine VisOk.failed hv (At.refl _ _) (Int.le_refl _) h1 ?_ (by show (7:Int)≠0;decide)
   show failing (instrAt p s g).op 7=true
   simp [failing,h]
 · exact VisOk.plain hv (At.refl _ _) (Int.le_refl _) h1 rfl (hnx (by omega))
 refine ite_vis (fun h=>VisOk.plain hv (At.refl _ _) (Int.le_refl _) h1 rfl (hnx (by omega))) (fun h65=>?_)
 refine ite_vis (fun h=>ite_vis (fun hal=>?_) (fun hne=>?_)) (fun h61=>?_)
 · have hI:=vis61 hrt h
   have hel:=else_ok hok (i:=(s.gos.getD g.toNat default).func.toNat) (j:=(instrAt p s g).a.toNat) (by have:=hgi.f0;have:=hgi.f1;omega) (by omega)
   refine VisOk.plain hv (At.refl _ _) (Int.le_refl _) h1 rfl ?_
   show (selAt p s g).els<_
   have e2:(selAt p s g).els=((p.funcs.getD (s.gos.getD g.toNat default).func.toNat default).sels.getD (instrAt p s g).a.toNat default).els:=rfl
   have e3:(p.fn (s.gor g).func).code.length=(p.funcs.getD (s.gos.getD g.toNat default).func.toNat default).code.length:=rfl
   have:=hok.code (s.gos.getD g.toNat default).func.toNat (by have:=hgi.f0;have:=hgi.f1;omega)
   omega
 · obtain ⟨k,rfl,hk,hco⟩:=(alts_sel ha (by rw [e];exact h)).resolve_left hne
   have hI:=vis61 hrt h
   have hC:=case_ok hok (i:=(s.gos.getD g.toNat default).func.toNat) (j:=(instrAt p s g).a.toNat) (k:=k) (by have:=hgi.f0;have:=hgi.f1;omega) (by have:=hI;omega) hk
   have hto:((selAt p s g).cases.getD (k:Int).toNat default).to_<((p.fn (s.gor g).func).code.length:Int):=hC.to_.2
   refine ite_vis (fun hs=>?_) (fun hs=>?_)
   · have hs:((selAt p s g).cases.getD k default).send=true:=hs
     have hcap:=hC.cap hs
     have hsn:sends p s ((selAt p s g).cases.getD k default).chan=true:=by
      unfold caseOk at hco
      rw [if_pos hs] at hco
      exact hco
     exact doSend_ok hok hv hg h1 _ hto hC.chan hsn (fun q=>absurd q hcap) (.inr h)
   · have hs:((selAt p s g).cases.getD k default).send=false:=Bool.of_not_eq_true hs
     have hreg:=hC.reg
     exact doRecv_ok hok hv hg h1 hto hC.chan (by
      rcases hreg with q|q
      · exact .inr q
      · exact .inl q.2) (.inl rfl)
 · by_cases hvs:(instrAt p s g).op=42∨(instrAt p s g).op=45
   · have hp:=(alts_plain ha (by rw [e];exact h61)).1
     exfalso
     unfold plain at hp
     simp only [e] at hp
     rw [if_neg (by omega),if_neg (by omega),if_neg (by omega),if_neg (by omega),if_neg (by omega),if_neg (by omega)] at hp
     have:=of_decide_eq_true hp
     omega
   · exact doVars_ok hok hv hg h1 rfl (hnx (by omega))
end Go.Eng
