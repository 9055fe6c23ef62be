/- A part of the proof: walks through the program's functions, and what they compute. -/
import Derived.Test.YtedceinkpkoncaaGreatDoorPk16
import Derived.Test.YtedceinkpkoncaaGreatDoorPk15
set_option linter.unusedSimpArgs false
set_option linter.unusedVariables false
namespace Go.Eng
structure GorP (p:Prg) (g:Gor):Prop where
 st:1≤g.status∧g.status≤5
 inn:gorIn p g
 zero:∀ k:Nat,gorM p g≤k→k<8→g.regs.getD k 0=0
 fail:g.status=4→failing (p.instr g).op g.why=true
 why:g.status≠4→g.why=0
 done:g.status=3→(p.instr g).op=45
 spun:g.status=5→isLocal (p.instr g).op=true
theorem GorP.of {p:Prg} {g:Gor} (h8:g.regs.length=8) (h:gorOk p g=true):GorP p g:=by
 have hr:=gorOk_R h
 rw [gorOk_in hr] at h
 have hr':=hr;unfold gorR at hr'
 split at h;· cases h
 rename_i hz
 have hz:regsZero g (gorM p g) 8=true:=by simpa using hz
 have hz':∀ k:Nat,gorM p g≤k→k<8→g.regs.getD k 0=0:=by
  intro k h1 h2
  have:=List.all_eq_true.1 hz k (List.mem_range.2 h2)
  simp only [Bool.or_eq_true,decide_eq_true_eq] at this
  omega
 have hin:gorIn p g:=⟨by omega,by omega,by omega,by omega,h8⟩
 split at h
 · rename_i h4
   exact ⟨by omega,hin,hz',fun _=>h,fun q=>absurd h4 q,fun q=>by omega,fun q=>by omega⟩
 · rename_i h4
   simp only [Bool.and_eq_true,Bool.or_eq_true,decide_eq_true_eq] at h
   exact ⟨by omega,hin,hz',fun q=>absurd q h4,fun _=>h.1.1,fun q=>h.1.2.resolve_left (fun w=>w q),fun q=>h.2.resolve_left (fun w=>w q)⟩
theorem GorP.ok {p:Prg} {g:Gor} (h:GorP p g):gorOk p g=true:=by
 have hr:gorR p g:=by
  have h1:=h.inn.f0;have h2:=h.inn.f1;have h3:=h.inn.p0;have h4:=h.inn.p1;have h5:=h.st
  unfold gorR;omega
 rw [gorOk_in hr,if_neg (by rw [regs_good (fun k h1 h2=>h.zero k h1 (by omega))];simp)]
 split
 · rename_i h4;exact h.fail h4
 · rename_i h4
   simp only [Bool.and_eq_true,Bool.or_eq_true,decide_eq_true_eq]
   refine ⟨⟨h.why h4,?_⟩,?_⟩
   · by_cases q:g.status=3
     · exact .inr (h.done q)
     · exact .inl q
   · by_cases q:g.status=5
     · exact .inr (h.spun q)
     · exact .inl q
def Waits (p:Prg) (gos:List Gor) (g i:Nat):Prop:=(gos.getD g default).status=2∧(p.instr (gos.getD g default)).op=58∧(p.instr (gos.getD g default)).a=(i:Int)
structure ChnP (p:Prg) (gos:List Gor) (count:Int) (i:Nat) (x:Chn):Prop where
 len:0≤x.len∧x.len≤p.chans.getD i 0
 off:0≤x.offer∧x.offer≤3
 cap:p.chans.getD i 0≠0→x.offer=0
 buf:∀ k:Nat,x.len≤k→k<4→x.buf.getD k 0=0
 none:x.offer=0→x.from_=0∧x.val=0
 val:x.offer≠0→x.offer≠1→x.val=0
 open_:x.offer=1→x.closed=false
 lost:x.offer=3→x.closed=true
 from_:x.offer≠0→(0≤x.from_∧x.from_<count)∧Waits p gos x.from_.toNat i
theorem ChnP.of {p:Prg} {s:Stt} {i:Nat} (h:chanOk p s i=true):ChnP p s.gos s.count i (s.chans.getD i default):=by
 rw [chanOk_eq] at h
 simp only [Int.toNat_natCast] at h
 split at h;· cases h
 rename_i h1
 split at h;· cases h
 rename_i h2
 have h2:bufZero (s.chans.getD i default) 4=true:=by simpa using h2
 have hb:∀ k:Nat,(s.chans.getD i default).len≤k→k<4→(s.chans.getD i default).buf.getD k 0=0:=by
  intro k q1 q2
  have:=List.all_eq_true.1 h2 k (List.mem_range.2 q2)
  simp only [Bool.or_eq_true,decide_eq_true_eq] at this
  omega
 split at h
 · rename_i h3
   simp only [Bool.and_eq_true,decide_eq_true_eq] at h
   exact ⟨by omega,by omega,fun _=>h3,hb,fun _=>h,fun q=>absurd h3 q,fun q=>by omega,fun q=>by omega,fun q=>absurd h3 q⟩
 · rename_i h3
   split at h;· cases h
   rename_i h4
   split at h;· cases h
   rename_i h5
   simp only [Bool.and_eq_true,decide_eq_true_eq] at h
   have h6:(s.gos.getD (s.chans.getD i default).from_.toNat default).status=2:=by
    by_cases q:(s.gos.getD (s.chans.getD i default).from_.toNat default).status=2
    · exact q
    · exact absurd (.inr (.inr q)) h5
   refine ⟨by omega,by omega,fun q=>?_,hb,fun q=>absurd q h3,fun _ q2=>?_,fun q=>?_,fun q=>?_,fun _=>⟨by omega,h6,h.1,h.2⟩⟩
   · by_cases q2:(s.chans.getD i default).offer=0
     · exact q2
     · exact absurd (.inr (.inr (.inr (.inr ⟨q,q2⟩)))) h1
   · by_cases w:(s.chans.getD i default).val=0
     · exact w
     · exact absurd (.inl ⟨q2,w⟩) h4
   · cases w:(s.chans.getD i default).closed
     · rfl
     · exact absurd (.inr (.inl ⟨q,w⟩)) h4
   · cases w:(s.chans.getD i default).closed
     · exact absurd (.inr (.inr ⟨q,w⟩)) h4
     · rfl
theorem ChnP.ok {p:Prg} {s:Stt} {i:Nat} (h:ChnP p s.gos s.count i (s.chans.getD i default)):chanOk p s i=true:=by
 rw [chanOk_eq]
 simp only [Int.toNat_natCast]
 have h1:=h.len;have h2:=h.off
 rw [if_neg (by
  rintro (q|q|q|q|⟨q,q2⟩)
  · omega
  · omega
  · omega
  · omega
  · exact q2 (h.cap q))]
 rw [buf_good (fun k q1 q2=>h.buf k q1 (by omega)),if_neg (by simp)]
 split
 · rename_i h3
   simp only [Bool.and_eq_true,decide_eq_true_eq]
   exact h.none h3
 · rename_i h3
   rw [if_neg (by
    rintro (⟨q1,q2⟩|⟨q1,q2⟩|⟨q1,q2⟩)
    · exact q2 (h.val h3 q1)
    · rw [h.open_ q1] at q2;cases q2
    · rw [h.lost q1] at q2;cases q2)]
   obtain ⟨⟨f0,f1⟩,w1,w2,w3⟩:=h.from_ h3
   rw [if_neg (by
    rintro (q|q|q)
    · omega
    · omega
    · exact q w1)]
   simp only [Bool.and_eq_true,decide_eq_true_eq]
   exact ⟨w2,w3⟩
structure Vld (p:Prg) (s:Stt):Prop where
 shape:s.Shape
 count:1≤s.count∧s.count≤6
 gos:∀ i:Nat,(i:Int)<s.count→GorP p (s.gos.getD i default)
 rest:∀ i:Nat,i<6→s.count≤(i:Int)→s.gos.getD i default=zeroGor
 vars:∀ i:Nat,p.vars.length≤i→i<8→s.vars.getD i 0=0
 own:∀ i:Nat,i<4→(0≤s.owner.getD i 0∧s.owner.getD i 0≤s.count)∧(p.locks≤(i:Int)→s.owner.getD i 0=0)
 chans:∀ i:Nat,i<p.chans.length→ChnP p s.gos s.count i (s.chans.getD i default)
 rchans:∀ i:Nat,i<4→p.chans.length≤i→s.chans.getD i default=zeroChn
 waits:∀ g:Nat,(g:Int)<s.count→(s.gos.getD g default).status=2→∃ c:Nat,c<p.chans.length∧(s.chans.getD c default).offer≠0∧(s.chans.getD c default).from_=(g:Int)
theorem Prg.Ok.four {p:Prg} (h:p.Ok):p.chans.length≤4:=by have:=h.sizes;unfold Sizes at this;omega
theorem Prg.Ok.eight {p:Prg} (h:p.Ok):p.vars.length≤8:=by have:=h.sizes;unfold Sizes at this;omega
theorem Vld.of {p:Prg} (hok:p.Ok) {s:Stt} (hs:s.Shape) (h:validP p s=true):Vld p s:=by
 obtain ⟨_,hc,hg,hv,ho,hch,hwt⟩:=valid_parts h
 have h4:=hok.four
 have rch:∀ i:Nat,i<4→p.chans.length≤i→s.chans.getD i default=zeroChn:=fun i h1 h2=>(chans_at hch h1).2 h2
 have chs:∀ i:Nat,i<p.chans.length→ChnP p s.gos s.count i (s.chans.getD i default):=fun i hi=>ChnP.of ((chans_at hch (by omega)).1 hi)
 refine ⟨hs,hc,fun i hi=>?_,fun i h6 hi=>?_,fun i h1 h2=>?_,fun i hi=>?_,chs,rch,fun g hg2 h2=>?_⟩
 · have:=gorsOk_at hg (i:=(i:Int)) (by omega) (by omega) hi
   rw [Int.toNat_natCast] at this
   exact GorP.of (hs.regs _ (getD_mem _ (by rw [hs.gos];omega))) this
 · have:=List.all_eq_true.1 hg i (List.mem_range.2 h6)
   rw [if_neg (by omega)] at this
   have:=of_decide_eq_true this
   simpa [Stt.gor] using this
 · have:=List.all_eq_true.1 hv i (List.mem_range.2 h2)
   simp only [Bool.or_eq_true,decide_eq_true_eq] at this
   omega
 · exact own_at.1 (List.all_eq_true.1 ho i (List.mem_range.2 hi))
 · have h3:=List.all_eq_true.1 hwt g (List.mem_range.2 (by omega))
   rw [Bool.or_eq_true,decide_eq_true_eq,decide_eq_true_eq] at h3
   have h3:offersTo s (g:Int) 4=1:=by
    rcases h3 with h3|h3
    · exact absurd (by simpa [Stt.gor] using h2) h3
    · exact h3
   unfold offersTo at h3
   obtain ⟨i,hi⟩:=List.exists_mem_of_length_pos (l:=(List.range 4).filter fun (i:Nat)=>decide ((s.chn i).offer≠0)&&decide ((s.chn i).from_=(g:Int))) (by omega)
   have hm:=List.mem_filter.1 hi
   have hi4:i<4:=List.mem_range.1 hm.1
   have hoff:(s.chans.getD i default).offer≠0∧(s.chans.getD i default).from_=(g:Int):=by
    have:=hm.2
    rw [Bool.and_eq_true,decide_eq_true_eq,decide_eq_true_eq] at this
    simpa [Stt.chn] using this
   by_cases hlt:i<p.chans.length
   · exact ⟨i,hlt,hoff⟩
   · rw [rch i hi4 (by omega)] at hoff;exact absurd rfl hoff.1
theorem Vld.ok {p:Prg} (hok:p.Ok) (hr:rightP p=true) {s:Stt} (h:Vld p s):validP p s=true:=by
 have h4:=hok.four
 have hc:=h.count
 have e1:gorsOk p s 6=true:=List.all_eq_true.2 fun i hi=>by
  have hi:i<6:=List.mem_range.1 hi
  simp only [Stt.gor,Int.toNat_natCast]
  split
  · rename_i q;exact (h.gos i q).ok
  · rename_i q;exact decide_eq_true (h.rest i hi (by omega))
 have e2:chansOk p s 4=true:=List.all_eq_true.2 fun i hi=>by
  have hi:i<4:=List.mem_range.1 hi
  simp only [Stt.chn,Int.toNat_natCast]
  split
  · rename_i q;exact (h.chans i q).ok
  · rename_i q;exact decide_eq_true (h.rchans i hi (by omega))
 have e3:ownersOk p s 4=true:=List.all_eq_true.2 fun i hi=>own_at.2 (h.own i (List.mem_range.1 hi))
 have e4:waitsOk s s.count.toNat=true:=List.all_eq_true.2 fun g hg=>by
  have hg:(g:Int)<s.count:=by have:=List.mem_range.1 hg;omega
  rw [Bool.or_eq_true,decide_eq_true_eq,decide_eq_true_eq]
  by_cases q:(s.gor (g:Int)).status=2
  · right
    have q2:(s.gos.getD g default).status=2:=by simpa [Stt.gor] using q
    obtain ⟨c,hc1,hc2,hc3⟩:=h.waits g hg q2
    have hw:=(h.chans c hc1).from_ hc2
    rw [hc3] at hw
    simp only [Int.toNat_natCast] at hw
    have one:∀ j:Nat,j<4→(decide ((s.chn (j:Int)).offer≠0)&&decide ((s.chn (j:Int)).from_=(g:Int)))=decide (j=c):=by
     intro j hj
     simp only [Stt.chn,Int.toNat_natCast]
     by_cases hjc:j=c
     · subst hjc;rw [show decide (j=j)=true from by simp,Bool.and_eq_true];exact ⟨decide_eq_true hc2,decide_eq_true hc3⟩
     · rw [decide_eq_false hjc,Bool.and_eq_false_iff]
       by_cases ho:(s.chans.getD j default).offer=0
       · left;exact decide_eq_false (fun q=>q ho)
       · right
         refine decide_eq_false fun hf=>hjc ?_
         by_cases hlt:j<p.chans.length
         · have hw2:=(h.chans j hlt).from_ ho
           rw [hf] at hw2
           simp only [Int.toNat_natCast] at hw2
           have:=hw.2.2.2.symm.trans hw2.2.2.2
           omega
         · rw [h.rchans j hj (by omega)] at ho;exact absurd rfl ho
    unfold offersTo
    rw [List.filter_congr (q:=fun j=>decide (j=c)) (fun j hj=>one j (List.mem_range.1 hj))]
    rcases (show c=0∨c=1∨c=2∨c=3 by omega) with rfl|rfl|rfl|rfl<;>rfl
  · exact .inl q
 simp only [validP,Bool.and_eq_true,decide_eq_true_eq]
 exact ⟨⟨⟨⟨⟨⟨⟨hr,hc.1⟩,hc.2⟩,e1⟩,vars_good h.vars⟩,e3⟩,e2⟩,e4⟩
theorem Vld.wf {p:Prg} {s:Stt} (hok:p.Ok) (hr:rightP p=true) (h:Vld p s):Wf p s:=valid_wf hok h.shape (h.ok hok hr)
section
variable {p:Prg} {s:Stt}
theorem Waits.set {gos:List Gor} {g i j:Nat} {X:Gor} (h:Waits p gos g j) (h1:(gos.getD i default).status≠2):Waits p (gos.set i X) g j:=by
 have hne:i≠g:=fun q=>h1 (by rw [q];exact h.1)
 unfold Waits at *
 rw [getD_set,if_neg (fun q=>hne q.1)]
 exact h
theorem ChnP.go {gos:List Gor} {count:Int} {i j:Nat} {X:Gor} {x:Chn} (h:ChnP p gos count j x) (h1:(gos.getD i default).status≠2):ChnP p (gos.set i X) count j x :=
 ⟨h.len,h.off,h.cap,h.buf,h.none,h.val,h.open_,h.lost,fun q=>⟨(h.from_ q).1,(h.from_ q).2.set h1⟩⟩
theorem Vld.go (h:Vld p s) {i:Nat} (hi:(i:Int)<s.count) {X:Gor} (hX:GorP p X) (h1:(s.gos.getD i default).status≠2) (h2:X.status≠2):Vld p ⟨s.vars,s.owner,s.chans,s.gos.set i X,s.count⟩:=by
 refine ⟨shape_gos h.shape _ _ hX.inn.regs,h.count,fun k hk=>?_,fun k h6 hk=>?_,h.vars,h.own,fun c hc=>(h.chans c hc).go h1,h.rchans,fun g hg hs=>?_⟩
 · show GorP p ((s.gos.set i X).getD k default)
   rw [getD_set];split
   · exact hX
   · exact h.gos k hk
 · show (s.gos.set i X).getD k default=zeroGor
   have hk:s.count≤(k:Int):=hk
   rw [getD_set,if_neg (by omega)]
   exact h.rest k h6 hk
 · have hs:((s.gos.set i X).getD g default).status=2:=hs
   rw [getD_set] at hs
   split at hs
   · exact absurd hs h2
   · exact h.waits g hg hs
theorem Vld.chn (h:Vld p s) {c:Nat} (hc:c<p.chans.length) {X:Chn} (hb:X.buf.length=4) (hX:ChnP p s.gos s.count c X)
 (hk:(s.chans.getD c default).offer≠0→X.offer≠0∧X.from_=(s.chans.getD c default).from_):Vld p ⟨s.vars,s.owner,s.chans.set c X,s.gos,s.count⟩:=by
 refine ⟨shape_chn h.shape _ hb,h.count,h.gos,h.rest,h.vars,h.own,fun j hj=>?_,fun j h4 hj=>?_,fun g hg hs=>?_⟩
 · show ChnP p s.gos s.count j ((s.chans.set c X).getD j default)
   rw [getD_set];split
   · rename_i q;rw [← q.1];exact hX
   · exact h.chans j hj
 · show (s.chans.set c X).getD j default=zeroChn
   rw [getD_set,if_neg (by omega)]
   exact h.rchans j h4 hj
 · obtain ⟨j,hj,h1,h2⟩:=h.waits g hg hs
   refine ⟨j,hj,?_⟩
   show ((s.chans.set c X).getD j default).offer≠0∧((s.chans.set c X).getD j default).from_=(g:Int)
   rw [getD_set];split
   · rename_i q
     have:=hk (by rw [q.1];exact h1)
     rw [q.1] at this
     exact ⟨this.1,this.2.trans h2⟩
   · exact ⟨h1,h2⟩
theorem Vld.var (h:Vld p s) {i:Nat} (hi:i<p.vars.length) (x:Int):Vld p ⟨s.vars.set i x,s.owner,s.chans,s.gos,s.count⟩:=by
 refine ⟨shape_vars h.shape _ _,h.count,h.gos,h.rest,fun k h1 h2=>?_,h.own,h.chans,h.rchans,h.waits⟩
 show (s.vars.set i x).getD k 0=0
 rw [getD_set,if_neg (by omega)]
 exact h.vars k h1 h2
theorem Vld.owns (h:Vld p s) {i:Nat} (hi:(i:Int)<p.locks) {x:Int} (hx:0≤x∧x≤s.count):Vld p ⟨s.vars,s.owner.set i x,s.chans,s.gos,s.count⟩:=by
 refine ⟨shape_own h.shape _ _,h.count,h.gos,h.rest,h.vars,fun k hk=>?_,h.chans,h.rchans,h.waits⟩
 show (0≤(s.owner.set i x).getD k 0∧(s.owner.set i x).getD k 0≤s.count)∧(p.locks≤(k:Int)→(s.owner.set i x).getD k 0=0)
 rw [getD_set];split
 · exact ⟨hx,fun q=>by omega⟩
 · exact h.own k hk
theorem GorP.reg {g:Gor} (h:GorP p g) {r:Int} (hr:0≤r∧r<(p.fn g.func).regs) (h1:g.status=1) (v:Int):GorP p { g with regs:=g.regs.set r.toNat v }:=by
 have hm:gorM p g=(p.fn g.func).regs:=if_neg (by omega)
 refine ⟨h.st,⟨h.inn.f0,h.inn.f1,h.inn.p0,h.inn.p1,by show (g.regs.set _ _).length=8;rw [List.length_set];exact h.inn.regs⟩,fun k hk h8=>?_,fun q=>?_,h.why,h.done,h.spun⟩
 · have hk:gorM p g≤(k:Int):=hk
   show (g.regs.set r.toNat v).getD k 0=0
   rw [getD_set,if_neg (by omega)]
   exact h.zero k hk h8
 · have q:g.status=4:=q
   omega
theorem Vld.reg (h:Vld p s) {g:Int} (hg:0≤g∧g<s.count) (h1:(s.gor g).status=1) {r:Int} (hr:r = -1∨0≤r∧r<(p.fn (s.gor g).func).regs) (v:Int):Vld p (s.setReg g r v):=by
 unfold Stt.setReg
 split
 · have hG:=h.gos g.toNat (by omega)
   have:=h.go (i:=g.toNat) (by omega) (X:={ s.gor g with regs:=(s.gor g).regs.set r.toNat v }) (hG.reg (r:=r) (by have:(p.fn (s.gos.getD g.toNat default).func).regs=(p.fn (s.gor g).func).regs:=rfl;omega) h1 v) (by have h1:(s.gos.getD g.toNat default).status=1:=h1;omega) (by show (s.gor g).status≠2;omega)
   exact this
 · exact h
end
end Go.Eng
namespace Go.Eng
def waitsB (p:Prg) (s:Stt) (g c:Int):Bool:=if g<0∨s.count≤g∨(s.gos.getD g.toNat default).status≠2 then false else decide ((insAt p s g).op=58)&&decide ((insAt p s g).a=c)
theorem chan_tail {p:Prg} {s:Stt} {m:Int} (h1:¬((s.chans.getD m.toNat default).len<0∨p.chans.getD m.toNat 0<(s.chans.getD m.toNat default).len∨(s.chans.getD m.toNat default).offer<0∨3<(s.chans.getD m.toNat default).offer∨(p.chans.getD m.toNat 0≠0∧(s.chans.getD m.toNat default).offer≠0)))
 (hb:bufZero (s.chans.getD m.toNat default) 4=true):chanOk p s m=if (s.chans.getD m.toNat default).offer=0 then decide ((s.chans.getD m.toNat default).from_=0)&&decide ((s.chans.getD m.toNat default).val=0)
   else if (s.chans.getD m.toNat default).offer=1 then !(s.chans.getD m.toNat default).closed&&waitsB p s (s.chans.getD m.toNat default).from_ m
   else if (s.chans.getD m.toNat default).offer=2 then decide ((s.chans.getD m.toNat default).val=0)&&waitsB p s (s.chans.getD m.toNat default).from_ m
   else decide ((s.chans.getD m.toNat default).val=0)&&(s.chans.getD m.toNat default).closed&&waitsB p s (s.chans.getD m.toNat default).from_ m:=by
 rw [chanOk_eq,if_neg h1,hb,if_neg (by simp)]
 by_cases h0:(s.chans.getD m.toNat default).offer=0
 · rw [if_pos h0,if_pos h0]
 · rw [if_neg h0,if_neg h0]
   have e:∀ b:Bool,(if (s.chans.getD m.toNat default).from_<0∨s.count≤(s.chans.getD m.toNat default).from_∨(s.gos.getD (s.chans.getD m.toNat default).from_.toNat default).status≠2 then false
    else decide (((p.funcs.getD (s.gos.getD (s.chans.getD m.toNat default).from_.toNat default).func.toNat default).code.getD (s.gos.getD (s.chans.getD m.toNat default).from_.toNat default).pc.toNat default).op=58) &&
     decide (((p.funcs.getD (s.gos.getD (s.chans.getD m.toNat default).from_.toNat default).func.toNat default).code.getD (s.gos.getD (s.chans.getD m.toNat default).from_.toNat default).pc.toNat default).a=m))=waitsB p s (s.chans.getD m.toNat default).from_ m:=fun _=>rfl
   rw [e false]
   by_cases h2:(s.chans.getD m.toNat default).offer=1
   · rw [if_pos h2]
     cases hc:(s.chans.getD m.toNat default).closed
     · rw [if_neg (by rintro (q|q|q);exact q.1 h2;exact Bool.noConfusion q.2;omega)];rfl
     · rw [if_pos (.inr (.inl ⟨h2,rfl⟩))];rfl
   · rw [if_neg h2]
     by_cases h3:(s.chans.getD m.toNat default).offer=2
     · rw [if_pos h3]
       by_cases hv:(s.chans.getD m.toNat default).val=0
       · rw [decide_eq_true hv,if_neg (by rintro (q|q|q);exact q.2 hv;exact h2 q.1;omega)];rfl
       · rw [decide_eq_false hv,if_pos (.inl ⟨h2,hv⟩)];rfl
     · rw [if_neg h3]
       have h4:(s.chans.getD m.toNat default).offer=3:=by omega
       by_cases hv:(s.chans.getD m.toNat default).val=0
       · rw [decide_eq_true hv]
         cases hc:(s.chans.getD m.toNat default).closed
         · rw [if_pos (.inr (.inr ⟨h4,rfl⟩))];rfl
         · rw [if_neg (by rintro (q|q|q);exact q.2 hv;exact h2 q.1;exact Bool.noConfusion q.2)];rfl
       · rw [decide_eq_false hv,if_pos (.inl ⟨h2,hv⟩)];rfl
theorem valid_no {p:Prg} {s:Stt} (h:rightP p=false∨s.count<1∨6<s.count∨gorsOk p s 6=false∨varsOk p s 8=false∨ownersOk p s 4=false∨chansOk p s 4=false∨waitsOk s s.count.toNat=false):validP p s=false:=by
 cases hv:validP p s
 · rfl
 · obtain ⟨h1,h2,h3,h4,h5,h6,h7⟩:=valid_parts hv
   rcases h with h|h|h|h|h|h|h|h
   · rw [h1] at h;cases h
   · omega
   · omega
   · rw [h3] at h;cases h
   · rw [h4] at h;cases h
   · rw [h5] at h;cases h
   · rw [h6] at h;cases h
   · rw [h7] at h;cases h
theorem valid_yes {p:Prg} {s:Stt} (h1:rightP p=true) (h2:1≤s.count∧s.count≤6) (h3:gorsOk p s 6=true) (h4:varsOk p s 8=true) (h5:ownersOk p s 4=true) (h6:chansOk p s 4=true) (h7:waitsOk s s.count.toNat=true):validP p s=true:=by
 simp only [validP,Bool.and_eq_true,decide_eq_true_eq]
 exact ⟨⟨⟨⟨⟨⟨⟨h1,h2.1⟩,h2.2⟩,h3⟩,h4⟩,h5⟩,h6⟩,h7⟩
def offersV (s:Stt) (i:Nat):List Int:=(List.range 6).map fun (g:Nat)=>(offersTo s (g:Int) i:Int)
theorem offersV_at (s:Stt) (i:Nat) {g:Int} (h0:0≤g) (h6:g<6):(offersV s i).getD g.toNat 0=(offersTo s g i:Int):=by
 unfold offersV
 rw [rows_getD (by omega),show ((g.toNat:Nat):Int)=g by omega]
theorem offersV_hit {s:Stt} {i:Nat} (h:¬(s.chans.getD i default).offer=0) (h0:0≤(s.chans.getD i default).from_) (h6:(s.chans.getD i default).from_<6) :
 (offersV s i).set (s.chans.getD i default).from_.toNat ((offersTo s (s.chans.getD i default).from_ i:Int)+1)=offersV s (i+1):=by
 unfold offersV
 rw [rows_set (by omega)]
 refine List.map_congr_left fun k hk=>?_
 have hk:k<6:=List.mem_range.1 hk
 by_cases e:k=(s.chans.getD i default).from_.toNat
 · rw [if_pos e,offers_hit (g:=(k:Int)) ⟨h,by omega⟩,show (s.chans.getD i default).from_=(k:Int) by omega];rfl
 · rw [if_neg e,offers_miss (g:=(k:Int)) (fun _ q=>e (by omega))]
theorem offersV_miss {s:Stt} {i:Nat} (h:(s.chans.getD i default).offer=0):offersV s (i+1)=offersV s i:=by
 unfold offersV
 refine List.map_congr_left fun k hk=>?_
 rw [offers_miss (fun q=>absurd h q)]
theorem offersTo_small (s:Stt) (g:Int) (i:Nat):offersTo s g i≤i:=offers_le s g i
theorem zero_status (g:Gor) (h:g=zeroGor):g.status=0:=by rw [h];rfl
theorem zero_offer (c:Chn) (h:c=zeroChn):c.offer=0:=by rw [h];rfl
theorem buf_tail (l:List Int) (h:l.length=4) (n:Nat):List.take (4-n) (List.drop n (l.map V.int))=(l.drop n).map V.int:=by
 rw [List.take_of_length_le (by rw [List.length_drop,List.length_map,h];exact Nat.le_refl _),List.map_drop]
theorem drop_at (l:List Int) (n j:Nat):(l.drop n).getD j 0=l.getD (n+j) 0:=by simp [List.getD_eq_getElem?_getD]
theorem chan_from {p:Prg} {s:Stt} {i:Nat} (h:chanOk p s i=true) (h0:¬(s.chans.getD i default).offer=0):0≤(s.chans.getD i default).from_∧(s.chans.getD i default).from_<s.count:=((ChnP.of h).from_ h0).1
theorem offersV_nat (s:Stt) {g:Nat} (h6:g<6):(offersV s 4).getD g 0=(offersTo s (g:Int) 4:Int):=by
 unfold offersV;rw [rows_getD h6]
theorem waits_less {s:Stt} {n m:Nat} (h:waitsOk s n=true) (hm:m≤n):waitsOk s m=true:=by
 unfold waitsOk at *
 rw [List.all_eq_true] at *
 exact fun x hx=>h x (List.mem_range.2 (by have:=List.mem_range.1 hx;omega))
theorem gorM_eq (g:Gor) (p:Prg):gorM p g=if g.status=3∨g.status=4 then 0 else (p.funcs.getD g.func.toNat default).regs:=rfl
end Go.Eng
namespace Go.Eng.Tryz
open Go.RowKit Go.Eng
set_option maxHeartbeats 0
set_option maxRecDepth 20000
def lv131:List (Nat × List Nat):=[(0,[0,1]),(1,[1,5]),(2,[1,5,6]),(3,[4]),(4,[1,5,10]),(5,[4]),(6,[1,5,18]),(7,[4]),(8,[1,5,26]),(9,[4]),(10,[1,5,34]),(11,[4]),(12,[1,5,38]),(13,[4]),(14,[1,5,42]),(15,[4]),(16,[1,46]),(17,[4]),(18,[4])]
theorem may_ctr (why op:Int):Ctr Go.Proofs.Tryz.prog tab 131 [3,43] [4] [.int why,.int op] [.bool (failing op why)]:=by
 refine Ctr.body ok Go.Proofs.Tryz.func131 rfl rfl 50 rfl [.tmp 4] rfl (by simp [fromVs]) ?_
 simp only [fromVs,fromV,args0,V.toList_list,V.toInt_int,V.toBool_bool,Nat.zero_add,Nat.reduceAdd,ty3,ty43]
 repeat' first
  | ((with_reducible refine SARA.do fun R1 hR1=>?_);(simp only [go_sem,seval,-List.reduceReplicate,Bool.cond_false_right,Bool.cond_true_left]);(repeat' with_reducible refine And.intro ?_ ?_);all_goals first|(refine hR1 _ ?_;clear hR1 R1)|omega|rfl|decide|assumption|(intro _;omega)|(simp;done)|(simp;omega))
  | ((with_reducible refine SARA.nil ?_);refine hR _ ?_;clear hR R;try simp only [go_sem,lv131,lvOf,Nat.reduceBEq,Option.getD_some])
  | (with_reducible first|refine J1 ?_|refine J2 ?_|refine J3 ?_|refine J4 ?_|refine J5 ?_|refine J6 ?_|refine J7 ?_|refine J8 (by decide) ?_|refine J9 ?_|refine J10 ?_|refine J11 ?_|refine J12 ?_|refine J13 ?_|refine J14 ?_|refine J15 ?_|refine J16 ?_|refine J17 ?_|refine J18 ?_|refine J19 ?_)
  | ((with_reducible refine J21 ok (by kernel_rfl) lv131 ?_);intro R hR;simp only [go_sem,strip])
  | ((with_reducible refine SA.cond rfl ?_ ?_)
     all_goals
      intro hb
      try simp [-List.getD_eq_getElem?_getD] at hb
      try (exfalso;omega))
  | ((with_reducible first|refine ctrK.normal ?_|refine ctrK.ret ?_)
     simp only [go_sem,resA,resV,backK,seval]
     refine ⟨rfl,?_⟩
     first|(subst_vars;rfl)|(subst_vars;simp [failing];done)|(simp_all [failing];done))
def lv76:List (Nat × List Nat):=[(0,[2,3]),(1,[2,3,30]),(2,[4]),(3,[3,5]),(4,[3,5,47]),(5,[4]),(6,[3,5,6]),(7,[3,5,6,57,58]),(8,[3,5,6,57,58,59]),(9,[3,5,6,7,8,57,58]),(10,[3,5,6,57,58,72]),(11,[4]),(12,[3,5,6,57,58]),(13,[3,9]),(14,[3,9,82]),(15,[3,9,82,83]),(16,[4]),(17,[3,9,82,89]),(18,[4]),(19,[3,9,98]),(20,[4]),(21,[4])]
theorem fits_ctr (p:Prg) (g:Gor) (hp:p.Fit) (h8:g.regs.length=8):Ctr Go.Proofs.Tryz.prog tab 76 [26,34] [4] [p.v,g.v] [.bool (gorOk p g)]:=by
 have hfit:=hp
 have hcode:=p.code_len hp
 have hsl:=p.sels_len hp
 obtain ⟨hp1,hp2,hp3,hp4⟩:=hp
 refine Ctr.body ok Go.Proofs.Tryz.func76 rfl rfl 110 rfl [.tmp 4] rfl (by simp [fromVs]) ?_
 simp only [fromVs,fromV,args0,V.toList_list,V.toInt_int,V.toBool_bool,Nat.zero_add,Nat.reduceAdd,ty26,ty34]
 repeat' first
  | ((with_reducible refine SARA.told 3 5 ?_)
     rw [getD_fncs (by omega)])
  | ((with_reducible refine SARA.told 13 5 ?_)
     rw [getD_instrs (by omega)])
  | ((with_reducible refine SARA.do fun R1 hR1=>?_);(simp only [go_sem,seval,-List.reduceReplicate,Bool.cond_false_right,Bool.cond_true_left]);(repeat' with_reducible refine And.intro ?_ ?_);all_goals first|(refine hR1 _ ?_;clear hR1 R1)|((first|refine cq (cc (may_ctr _ _)) ?_|refine ⟨_,_,rfl,.inl ⟨_,fun hg=>CallQ.ctr ok (may_ctr _ _) (by first|rfl|(simp [go_sem];done)|fail) rfl,?_⟩⟩|refine cq (cc (plocal_ctr _)) ?_|refine ⟨_,_,rfl,.inl ⟨_,fun hg=>CallQ.ctr ok (plocal_ctr _) (by first|rfl|(simp [go_sem];done)|fail) rfl,?_⟩⟩);all_goals ((try simp only [go_sem,seval,-List.reduceReplicate,Bool.cond_false_right,Bool.cond_true_left]);(repeat' with_reducible refine And.intro ?_ ?_);all_goals first|(refine hR1 _ ?_;clear hR1 R1)|omega|rfl|decide|assumption|(intro _;omega)|(simp;done)|(simp [-List.getD_eq_getElem?_getD];omega)|exact hcode _|(intro _;exact hcode _)|exact hsl _|(intro _;exact hsl _)))|omega|rfl|decide|assumption|(intro _;omega)|(simp;done)|(simp [-List.getD_eq_getElem?_getD];omega)|exact hcode _|(intro _;exact hcode _)|exact hsl _|(intro _;exact hsl _))
  | ((with_reducible refine SARA.nil ?_);refine hR _ ?_;clear hR R;try simp only [go_sem,lv76,lvOf,Nat.reduceBEq,Option.getD_some])
  | (with_reducible first|refine J1 ?_|refine J2 ?_|refine J3 ?_|refine J4 ?_|refine J5 ?_|refine J6 ?_|refine J7 ?_|refine J8 (by decide) ?_|refine J9 ?_|refine J10 ?_|refine J11 ?_|refine J12 ?_|refine J13 ?_|refine J14 ?_|refine J15 ?_|refine J16 ?_|refine J17 ?_|refine J18 ?_|refine J19 ?_)
  | ((with_reducible refine J21 ok (by kernel_rfl) lv76 ?_);intro R hR;simp only [go_sem,strip])
  | ((with_reducible refine J20 30 rfl (fun hb30=>?_) (fun hb30=>?_))
     all_goals
      try simp [-List.getD_eq_getElem?_getD] at hb30
      try (exfalso;omega))
  | ((with_reducible refine J20 47 rfl (fun hb47=>?_) (fun hb47=>?_))
     all_goals
      try simp [-List.getD_eq_getElem?_getD] at hb47
      try (exfalso;omega))
  | ((with_reducible refine J20 59 rfl (fun hb59=>?_) (fun hb59=>?_))
     all_goals
      try simp [-List.getD_eq_getElem?_getD] at hb59
      try (exfalso;omega))
  | ((with_reducible refine J20 72 rfl (fun hb72=>?_) (fun hb72=>?_))
     all_goals
      try simp [-List.getD_eq_getElem?_getD] at hb72
      try (exfalso;omega))
  | ((with_reducible refine J20 83 rfl (fun hb83=>?_) (fun hb83=>?_))
     all_goals
      try simp [-List.getD_eq_getElem?_getD] at hb83
      try (exfalso;omega))
  | ((with_reducible refine J20 89 rfl (fun hb89=>?_) (fun hb89=>?_))
     all_goals
      try simp [-List.getD_eq_getElem?_getD] at hb89
      try (exfalso;omega))
  | ((with_reducible refine J20 98 rfl (fun hb98=>?_) (fun hb98=>?_))
     all_goals
      try simp [-List.getD_eq_getElem?_getD] at hb98
      try (exfalso;omega))
  | ((with_reducible refine SA.atLoop ?_)
     refine SA.weaken (St.le.of_eq (by first|rfl|(simp;done)|fail)) (SA.loop (fun n τ=>∃ (j:Nat),n=8-j∧(j≤8∧∀ k:Nat,k<j→gorM p g≤(k:Int)→g.regs.getD k 0=0)∧τ={ tm:=[(3,true,.ptr 1 [] 34),(5,true,.ptr 2 [] 121),(6,true,.bool (decide (g.status=3)||decide (g.status=4))),(57,true,.data 27 (.agg (g.regs.map V.int))),(58,true,.int .i64 j)],ob:=[.var 26 (.data 26 p.v),.var 34 (.data 34 g.v),.var 121 (.data 121 (p.funcs.getD g.func.toNat default).v)],out:=[],nt:=110 }) (8) ⟨0,rfl,⟨by omega,fun k h=>by omega⟩,rfl⟩ ?_)
     rintro n τ ⟨j,hn,⟨hj,hz⟩,rfl⟩)
  | ((with_reducible refine loopK.round ?_)
     first
      | (have hlt:j<8:=by omega
         have hw:=wrap_succ (n:=j) (m:=8) hlt (by decide)
         refine loopK.normal (8-(j+1)) _ (by omega) (St.le.of_eq (by simp only [hw])) ⟨j+1,rfl,⟨hlt,fun k h1 h2=>?_⟩,rfl⟩
         by_cases h3:k<j
         · exact hz k h3 h2
         · have h4:k=j:=by omega
           subst h4
           rw [gorM_eq] at h2
           by_cases q:g.regs.getD k 0=0
           · exact q
           · have:=hb72 q
             split at h2<;>omega))
  | ((with_reducible first|refine ctrK.normal ?_|refine ctrK.ret ?_)
     simp only [go_sem,resA,resV,backK,seval]
     first
      | (have q:((_∨_)∨_)∨_:=hb30
         refine ⟨rfl,?_⟩
         rw [gorOk_range (by unfold gorR;omega)])
      | (have q:_∨_:=hb47
         refine ⟨rfl,?_⟩
         rw [gorOk_range (by unfold gorR;omega)])
      | (have q:_∧_:=hb72
         refine ⟨rfl,?_⟩
         rw [gorOk_in (by unfold gorR;omega),regs_bad (i:=(j:Int)) (by rw [gorM_eq];split<;>omega) (by omega) (by omega) (by simpa using hb72.1),if_pos rfl])
      | (have hj8:j=8:=by omega
         subst hj8
         refine ⟨rfl,?_⟩
         rw [gorOk_in (by unfold gorR;omega),regs_good (fun k q1 q2=>hz k (by omega) q1),if_neg (by simp)]
         rw [if_pos hb83])
      | (have hj8:j=8:=by omega
         subst hj8
         refine ⟨rfl,?_⟩
         rw [gorOk_in (by unfold gorR;omega),regs_good (fun k q1 q2=>hz k (by omega) q1),if_neg (by simp)]
         rw [if_neg hb83]
         first|(simp [-List.getD_eq_getElem?_getD,hb89];done)|(simp [-List.getD_eq_getElem?_getD,hb89,hb98];done)))
def lv133:List (Nat × List Nat):=[(0,[2,3,4,5]),(1,[2,3,4,5,25]),(2,[8]),(3,[3,9]),(4,[8])]
theorem waits_ctr (p:Prg) (s:Stt) (g c:Int) (hp:p.Fit) (hs:s.Shape) (hcnt:s.count≤6) (hgs:gorsOk p s 6=true):Ctr Go.Proofs.Tryz.prog tab 133 [26,37,3,3] [4] [p.v,s.v,.int g,.int c] [.bool (waitsB p s g c)]:=by
 have hfit:=hp
 have hcode:=p.code_len hp
 have hsl:=p.sels_len hp
 obtain ⟨hp1,hp2,hp3,hp4⟩:=hp
 have hs5:=hs.gos
 refine Ctr.body ok Go.Proofs.Tryz.func133 rfl rfl 52 rfl [.tmp 8] rfl (by simp [fromVs]) ?_
 simp only [fromVs,fromV,args0,V.toList_list,V.toInt_int,V.toBool_bool,Nat.zero_add,Nat.reduceAdd,ty3,ty26,ty37]
 repeat' first
  | ((with_reducible refine SART.told 3 16 ?_)
     rw [getD_instrs (by omega)])
  | ((with_reducible first|refine SARA.do fun R1 hR1=>?_|refine SART.do fun R1 hR1=>?_|refine SARB.keep fun R1 hR1=>?_|refine SARB.any fun R1 hR1=>?_);(simp only [go_sem,seval,-List.reduceReplicate,Bool.cond_false_right,Bool.cond_true_left]);(repeat' with_reducible refine And.intro ?_ ?_);all_goals first|(refine hR1 _ ?_;clear hR1 R1)|(intro hgf;simp only [hgf];refine hR1 _ ?_;clear hR1 R1)|omega|rfl|decide|assumption|(intro _;omega)|(simp;done)|(simp [-List.getD_eq_getElem?_getD];omega)|exact hcode _|(intro _;exact hcode _)|exact hsl _|(intro _;exact hsl _))
  | ((with_reducible refine SART.done ?_);refine hR _ ?_;clear hR R;try simp only [go_sem,lv133,lvOf,Nat.reduceBEq,Option.getD_some])
  | (with_reducible first|refine SART.br ?_ ?_|exact SARL.nil|refine SARL.cons ?_ ?_)
  | ((with_reducible refine SARA.nil ?_);refine hR _ ?_;clear hR R;try simp only [go_sem,lv133,lvOf,Nat.reduceBEq,Option.getD_some])
  | (with_reducible first|refine J1 ?_|refine J2 ?_|refine J3 ?_|refine J4 ?_|refine J5 ?_|refine J6 ?_|refine J7 ?_|refine J8 (by decide) ?_|refine J9 ?_|refine J10 ?_|refine J11 ?_|refine J12 ?_|refine J13 ?_|refine J14 ?_|refine J15 ?_|refine J16 ?_|refine J17 ?_|refine J18 ?_|refine J19 ?_)
  | ((with_reducible refine SA.at 3 ?_)
     have hG:=gorOk_R (gorsOk_at hgs (i:=g) (by omega) (by omega) (by omega))
     unfold gorR at hG
     refine SA.regionT ok mixed (.take 0 (.take 1 (.take 2 (.take 3 (.take 4 (.take 5 (.take 6 (.take 7 (.take 8 (.take 9 (.take 10 (.take 11 (.take 12 (.take 13 (.take 14 (.take 15 (.take 16 (.br 17 (.br 18 .done .nil) .nil)))))))))))))))))) [18] lv133 (by kernel_rfl) (fun R hR=>?_);simp only [go_sem,strip])
  | ((with_reducible refine J21 ok (by kernel_rfl) lv133 ?_);intro R hR;simp only [go_sem,strip])
  | ((with_reducible refine J20 25 rfl (fun hb25=>?_) (fun hb25=>?_))
     all_goals
      try simp [-List.getD_eq_getElem?_getD] at hb25
      try (exfalso;omega))
  | ((with_reducible first|refine ctrK.normal ?_|refine ctrK.ret ?_)
     simp only [go_sem,resA,resV,backK,seval]
     first
      | (have q:_∨_:=hb25
         refine ⟨rfl,?_⟩
         unfold waitsB
         rw [if_pos (or_assoc.1 hb25)])
      | (refine ⟨rfl,?_⟩
         unfold waitsB
         rw [if_neg (by omega)]))
def lv77:List (Nat × List Nat):=[(0,[2,3,4]),(1,[2,3,4,7]),(2,[2,3,4,7,49]),(3,[6]),(4,[2,3,4,7,53,54,55]),(5,[2,3,4,7,53,54,55,56]),(6,[2,3,4,7,9,53,54,55]),(7,[2,3,4,7,53,54,55,60]),(8,[6]),(9,[2,3,4,7,53,54,55]),(10,[2,3,4,7,63]),(11,[2,3,4,7,63,64]),(12,[6]),(13,[2,3,4,7,63,74]),(14,[6]),(15,[2,3,4,7,87]),(16,[6]),(17,[6])]
theorem pchannel_ctr (p:Prg) (s:Stt) (m:Int) (hp:p.Fit) (hr:rightP p=true) (hm:0≤m∧m<p.chans.length) (hs:s.Shape) (hcnt:s.count≤6) (hgs:gorsOk p s 6=true):Ctr Go.Proofs.Tryz.prog tab 77 [26,37,3] [4] [p.v,s.v,.int m] [.bool (chanOk p s m)]:=by
 have hpp:=hp
 have hfit:=hp
 have hcode:=p.code_len hp
 have hsl:=p.sels_len hp
 obtain ⟨hp1,hp2,hp3,hp4⟩:=hp
 have hok:=Prg.ok hr
 have hcap:=hok.caps m.toNat
 have h4:p.chans.length≤4:=by
  have:=hok.sizes
  unfold Sizes at this
  omega
 have hs3:=hs.chans
 have hb4:(s.chans.getD m.toNat default).buf.length=4:=hs.bufs _ (getD_mem _ (by omega))
 refine Ctr.body ok Go.Proofs.Tryz.func77 rfl rfl 115 rfl [.tmp 6] rfl (by simp [fromVs]) ?_
 simp only [fromVs,fromV,args0,V.toList_list,V.toInt_int,V.toBool_bool,Nat.zero_add,Nat.reduceAdd,ty3,ty26,ty37]
 repeat' first
  | ((with_reducible refine SARA.told 1 4 ?_)
     rw [getD_chns (by omega)])
  | ((with_reducible refine SARA.told 4 4 ?_)
     rw [buf_tail _ hb4]
     have hdl:((s.chans.getD m.toNat default).buf.drop (s.chans.getD m.toNat default).len.toNat).length≤maxLen:=by rw [List.length_drop,hb4];unfold maxLen;omega
     have hd4:((s.chans.getD m.toNat default).buf.drop (s.chans.getD m.toNat default).len.toNat).length=4-(s.chans.getD m.toNat default).len.toNat:=by rw [List.length_drop,hb4])
  | ((with_reducible first|refine SARA.do fun R1 hR1=>?_|refine SARQ.do fun R1 hR1=>?_);(simp only [go_sem,seval,-List.reduceReplicate,Bool.cond_false_right,Bool.cond_true_left]);(repeat' with_reducible refine And.intro ?_ ?_);all_goals first|(refine hR1 _ ?_;clear hR1 R1)|(intro hgf;simp only [hgf];refine hR1 _ ?_;clear hR1 R1)|((first|refine ⟨_,_,rfl,_,CallQ.ctr ok (waits_ctr p s _ _ hpp hs hcnt hgs) (by first|rfl|(simp [go_sem];done)|fail) rfl,?_⟩|refine ⟨_,_,rfl,_,fun hg=>CallQ.ctr ok (waits_ctr p s _ _ hpp hs hcnt hgs) (by first|rfl|(simp [go_sem];done)|fail) rfl,?_⟩|refine cq (cc (waits_ctr p s _ _ hpp hs hcnt hgs)) ?_|refine ⟨_,_,rfl,.inl ⟨_,fun hg=>CallQ.ctr ok (waits_ctr p s _ _ hpp hs hcnt hgs) (by first|rfl|(simp [go_sem];done)|fail) rfl,?_⟩⟩);all_goals ((try simp only [go_sem,seval,-List.reduceReplicate,Bool.cond_false_right,Bool.cond_true_left]);(repeat' with_reducible refine And.intro ?_ ?_);all_goals first|(refine hR1 _ ?_;clear hR1 R1)|(intro hgf;simp only [hgf];refine hR1 _ ?_;clear hR1 R1)|omega|rfl|decide|assumption|(intro _;omega)|(simp;done)|(simp [-List.getD_eq_getElem?_getD];omega)|exact hcode _|(intro _;exact hcode _)|exact hsl _|(intro _;exact hsl _)))|omega|rfl|decide|assumption|(intro _;omega)|(simp;done)|(simp [-List.getD_eq_getElem?_getD];omega)|exact hcode _|(intro _;exact hcode _)|exact hsl _|(intro _;exact hsl _))
  | ((with_reducible refine SARA.nil ?_);refine hR _ ?_;clear hR R;try simp only [go_sem,lv77,lvOf,Nat.reduceBEq,Option.getD_some])
  | ((with_reducible refine SARQ.nil ?_);refine hR _ ?_;clear hR R;try simp only [go_sem,lv77,lvOf,Nat.reduceBEq,Option.getD_some])
  | (with_reducible first|refine J1 ?_|refine J2 ?_|refine J3 ?_|refine J4 ?_|refine J5 ?_|refine J6 ?_|refine J7 ?_|refine J8 (by decide) ?_|refine J9 ?_|refine J10 ?_|refine J11 ?_|refine J12 ?_|refine J13 ?_|refine J14 ?_|refine J15 ?_|refine J16 ?_|refine J17 ?_|refine J18 ?_|refine J19 ?_)
  | ((with_reducible refine SA.at 4 ?_)
     refine SA.weaken (St.le.frz ok.sized 2 rfl) ?_
     simp only [St.frz,Tm.frz,E.frz,E.frzL,Obj.frz,List.map_cons,List.map_nil,List.set_cons_zero,List.set_cons_succ,Nat.reduceBEq,Nat.beq_refl,if_true,if_false,Nat.beq_eq_true_eq,reduceCtorEq,Bool.false_eq_true,V.get,Nat.reduceEqDiff]
     (with_reducible refine J21 ok (by kernel_rfl) lv77 ?_);intro R hR;simp only [go_sem,strip])
  | ((with_reducible refine J21 ok (by kernel_rfl) lv77 ?_);intro R hR;simp only [go_sem,strip])
  | ((with_reducible refine SA.regionD ok mixed (by kernel_rfl) (by kernel_rfl) lv77 ?_);intro R hR;simp only [go_sem,strip])
  | ((with_reducible refine J20 49 rfl (fun hb49=>?_) (fun hb49=>?_))
     all_goals
      try simp [-List.getD_eq_getElem?_getD] at hb49
      try (exfalso;omega))
  | ((with_reducible refine J20 56 rfl (fun hb56=>?_) (fun hb56=>?_))
     all_goals
      try simp [-List.getD_eq_getElem?_getD] at hb56
      try (exfalso;omega))
  | ((with_reducible refine J20 60 rfl (fun hb60=>?_) (fun hb60=>?_))
     all_goals
      try simp [-List.getD_eq_getElem?_getD] at hb60
      try (exfalso;omega))
  | ((with_reducible refine J20 64 rfl (fun hb64=>?_) (fun hb64=>?_))
     all_goals
      try simp [-List.getD_eq_getElem?_getD] at hb64
      try (exfalso;omega))
  | ((with_reducible refine J20 74 rfl (fun hb74=>?_) (fun hb74=>?_))
     all_goals
      try simp [-List.getD_eq_getElem?_getD] at hb74
      try (exfalso;omega))
  | ((with_reducible refine J20 87 rfl (fun hb87=>?_) (fun hb87=>?_))
     all_goals
      try simp [-List.getD_eq_getElem?_getD] at hb87
      try (exfalso;omega))
  | ((with_reducible refine SA.atLoop ?_)
     refine SA.weaken (St.le.of_eq (by first|rfl|(simp;done))) (SA.loop (fun n τ=>∃ (j:Nat),n=((s.chans.getD m.toNat default).buf.drop (s.chans.getD m.toNat default).len.toNat).length-j∧(j≤((s.chans.getD m.toNat default).buf.drop (s.chans.getD m.toNat default).len.toNat).length∧∀ k:Nat,k<j→((s.chans.getD m.toNat default).buf.drop (s.chans.getD m.toNat default).len.toNat).getD k 0=0)∧τ={ tm:=[(2,true,.int .i64 m),(3,true,.ptr 0 [] 26),(4,true,.ptr 1 [] 37),(7,true,.fptr 31 (s.chans.getD m.toNat default).v),(53,true,.fs 2 (((s.chans.getD m.toNat default).buf.drop (s.chans.getD m.toNat default).len.toNat).map V.int) true),(54,true,.int .i64 ((s.chans.getD m.toNat default).buf.drop (s.chans.getD m.toNat default).len.toNat).length),(55,true,.int .i64 j)],ob:=[.var 26 (.data 26 p.v),.var 37 (.data 37 s.v),.dead],out:=[],nt:=115 }) (((s.chans.getD m.toNat default).buf.drop (s.chans.getD m.toNat default).len.toNat).length) ⟨0,rfl,⟨by omega,fun k h=>by omega⟩,rfl⟩ ?_)
     rintro n τ ⟨j,hn,⟨hj,hz⟩,rfl⟩)
  | ((with_reducible refine loopK.round ?_)
     first
      | (have hlt:j<((s.chans.getD m.toNat default).buf.drop (s.chans.getD m.toNat default).len.toNat).length:=by omega
         have hw:=wrap_succ (n:=j) (m:=256) (by omega) (by decide)
         refine loopK.normal (((s.chans.getD m.toNat default).buf.drop (s.chans.getD m.toNat default).len.toNat).length-(j+1)) _ (by omega) (St.le.of_eq (by simp only [hw])) ⟨j+1,rfl,⟨hlt,fun k h1=>?_⟩,rfl⟩
         by_cases h3:k<j
         · exact hz k h3
         · have h4:k=j:=by omega
           rw [h4];exact hb60))
  | ((with_reducible first|refine ctrK.normal ?_|refine ctrK.ret ?_)
     simp only [go_sem,resA,resV,backK,seval]
     first
      | (have q:(((_∨_)∨_)∨_)∨_:=hb49
         refine ⟨rfl,?_⟩
         rw [chanOk_eq,if_pos (by omega)])
      | (have q:¬_:=hb60
         refine ⟨rfl,?_⟩
         rw [drop_at] at hb60
         rw [chanOk_eq,if_neg (by omega),buf_bad (i:=(((s.chans.getD m.toNat default).len.toNat+j:Nat):Int)) (by omega) (by omega) (by omega) (by rw [Int.toNat_natCast];exact hb60),if_pos rfl])
      | (have hj4:((s.chans.getD m.toNat default).buf.drop (s.chans.getD m.toNat default).len.toNat).length=j:=by omega
         refine ⟨rfl,?_⟩
         rw [chan_tail (by omega) (buf_good (fun k q1 q2=>by
          have:=hz (k-(s.chans.getD m.toNat default).len.toNat) (by omega)
          rw [drop_at,show (s.chans.getD m.toNat default).len.toNat+(k-(s.chans.getD m.toNat default).len.toNat)=k by omega] at this
          exact this))]
         rw [if_pos hb64])
      | (have hj4:((s.chans.getD m.toNat default).buf.drop (s.chans.getD m.toNat default).len.toNat).length=j:=by omega
         refine ⟨rfl,?_⟩
         rw [chan_tail (by omega) (buf_good (fun k q1 q2=>by
          have:=hz (k-(s.chans.getD m.toNat default).len.toNat) (by omega)
          rw [drop_at,show (s.chans.getD m.toNat default).len.toNat+(k-(s.chans.getD m.toNat default).len.toNat)=k by omega] at this
          exact this))]
         rw [if_neg hb64,if_pos hb74])
      | (have hj4:((s.chans.getD m.toNat default).buf.drop (s.chans.getD m.toNat default).len.toNat).length=j:=by omega
         refine ⟨rfl,?_⟩
         rw [chan_tail (by omega) (buf_good (fun k q1 q2=>by
          have:=hz (k-(s.chans.getD m.toNat default).len.toNat) (by omega)
          rw [drop_at,show (s.chans.getD m.toNat default).len.toNat+(k-(s.chans.getD m.toNat default).len.toNat)=k by omega] at this
          exact this))]
         rw [if_neg hb64,if_neg hb74,if_pos hb87])
      | (have hj4:((s.chans.getD m.toNat default).buf.drop (s.chans.getD m.toNat default).len.toNat).length=j:=by omega
         refine ⟨rfl,?_⟩
         rw [chan_tail (by omega) (buf_good (fun k q1 q2=>by
          have:=hz (k-(s.chans.getD m.toNat default).len.toNat) (by omega)
          rw [drop_at,show (s.chans.getD m.toNat default).len.toNat+(k-(s.chans.getD m.toNat default).len.toNat)=k by omega] at this
          exact this))]
         rw [if_neg hb64,if_neg hb74,if_neg hb87]))
end Go.Eng.Tryz
