/- A part of the proof: walks through the program's functions, and what they compute. -/
import Derived.Test.YtedceinkpkoncaaGreatDoorPk5
set_option linter.unusedSimpArgs false
set_option linter.unusedVariables false
namespace Go.Eng
theorem QKZ {x k:Int} (h:0≤k∧k<64):IntKind.u64.wrap ((BitVec.ofInt 64 (IntKind.u64.wrap (x*2^min (IntKind.u64.wrap ((BitVec.ofInt 64 (IntKind.u64.wrap k) &&& 63#64).toNat:Int)).toNat 64)) ||| BitVec.ofInt 64 (x.fdiv (2^min (IntKind.u64.wrap (64-IntKind.u64.wrap ((BitVec.ofInt 64 (IntKind.u64.wrap k) &&& 63#64).toNat:Int))).toNat 64))).toNat:Int)=QIO x k:=by
 rw [QN7 h,show IntKind.u64.wrap (64-k)=64-k by rw [ZD];omega];rfl
theorem QN4 (a b:Int):IntKind.i64.wrap (QIO (IntKind.u64.wrap a) (b % 64))=QE1 a b:=by
 symm
 refine QQI a b fun i hi=>?_
 unfold QIO
 rw [W5,Vw,W5]
 have hm:(b % 64).toNat<64:=by omega
 have hb:((b % 64).toNat:Int)=b % 64:=by omega
 have hs:(64-b % 64).toNat=64-(b % 64).toNat:=by omega
 rw [hs]
 generalize hmm:(b % 64).toNat=m at *
 rw [Nat.min_eq_left (by omega),Nat.min_eq_left (by omega),QJ8 _ (by omega),W5,Xn,y5,Vw,BitVec.getLsbD_or,BitVec.getLsbD_shiftLeft,BitVec.getLsbD_ushiftRight]
 by_cases h:i<m
 · have e:((i:Int)-b) % 64=((64-m+i:Nat):Int):=by omega
   rw [e,Int.toNat_natCast]
   simp [h]
 · have e:((i:Int)-b) % 64=((i-m:Nat):Int):=by omega
   rw [e,Int.toNat_natCast,BitVec.getLsbD_of_ge _ (64-m+i) (by omega)]
   simp [h,hi]
theorem QIn (x y:Int):IntKind.i64.wrap (IntKind.i64.wrap x*y)=IntKind.i64.wrap (x*y):=by
 rw [XZ,XZ (x*y),QDK,QGc,QDK]
theorem QDr {a b:Int} (ha : -9223372036854775808≤a∧a<9223372036854775808):IntKind.i64.wrap (a-IntKind.i64.wrap (IntKind.i64.wrap (a.tdiv b)*b))=a.tmod b:=by
 have e:a.tmod b=a-a.tdiv b*b:=by rw [Int.tmod_def,Int.mul_comm]
 have hr:(0≤a→0≤a.tmod b∧a.tmod b≤a)∧(a<0→a.tmod b≤0∧a≤a.tmod b):=by
  constructor
  · intro h
    refine ⟨Int.tmod_nonneg b h,?_⟩
    obtain ⟨n,rfl⟩:=Int.eq_ofNat_of_zero_le h
    have h2:=Int.tmod_nonneg b h
    rw [← Int.natAbs_of_nonneg h2,Int.natAbs_tmod]
    exact Int.ofNat_le.2 (Nat.mod_le _ _)
  · intro h
    have h1:(-a).tmod b = -(a.tmod b):=Int.neg_tmod a b
    have h2:=Int.tmod_nonneg b (show 0 ≤ -a by omega)
    have h3:(-a).tmod b ≤ -a:=by
     obtain ⟨n,hn⟩:=Int.eq_ofNat_of_zero_le (show 0 ≤ -a by omega)
     rw [hn] at h2 ⊢
     rw [← Int.natAbs_of_nonneg h2,Int.natAbs_tmod]
     exact Int.ofNat_le.2 (Nat.mod_le _ _)
    omega
 rw [QIn]
 generalize a.tmod b=r at *
 have hq:a.tdiv b*b=a-r:=by omega
 rw [hq,Q4 (x:=a-r) (by omega) (by omega),Q4 (by omega) (by omega)]
 omega
theorem QQK (a:Int):IntKind.i64.wrap ((BitVec.ofInt 64 (-1) ^^^ BitVec.ofInt 64 a).toNat:Int)=IntKind.i64.wrap (-1-a):=by
 rw [QDP,XZ]
 congr 1
 apply BitVec.eq_of_toNat_eq
 rw [show BitVec.ofInt 64 (-1)=BitVec.allOnes 64 from by decide,BitVec.allOnes_xor,BitVec.toNat_not,BitVec.toNat_ofInt,BitVec.toNat_ofInt]
 omega
theorem vI {b:Int} (h:0≤b∧b<9223372036854775808):IntKind.u64.wrap b=b:=by rw [ZD];omega
theorem QNM {a:Int} (ha : -9223372036854775808≤a∧a<9223372036854775808) (n:Nat):IntKind.i64.wrap (a.fdiv (2^n))=a.fdiv (2^n):=by
 rw [Int.fdiv_eq_ediv_of_nonneg _ (Int.le_of_lt (Int.pow_pos (by decide)))]
 have hp:(0:Int)<2^n:=Int.pow_pos (by decide)
 refine Q4 ?_ ?_
 · refine (Int.le_ediv_iff_mul_le hp).2 ?_
   generalize (2:Int)^n=q at *
   omega
 · by_cases h:a<0
   · have:=Int.ediv_neg_of_neg_of_pos h hp
     omega
   · have:=Int.ediv_le_self (2^n) (show 0≤a by omega)
     omega
theorem QRh (b:Int):0≤IntKind.i64.wrap ((BitVec.ofInt 64 b &&& 63#64).toNat:Int)∧IntKind.i64.wrap ((BitVec.ofInt 64 b &&& 63#64).toNat:Int)<64:=by rw [QMo];omega
theorem QN2 (a b:Int):IntKind.i64.wrap (QIO (IntKind.u64.wrap a) (IntKind.i64.wrap ((BitVec.ofInt 64 b &&& 63#64).toNat:Int)))=QE1 a b:=by rw [QMo];exact QN4 a b
theorem QOn {op:Int} (h:X9 op=1):1≤op∧op≤15:=by
 unfold X9 at h
 split at h
 · omega
 · split at h<;>omega
theorem QOm {op:Int} (h0:¬X9 op=0) (h:¬X9 op=1):16≤op∧op≤36:=by
 unfold X9 at h h0
 split at h
 · next q=>rw [if_pos q] at h0;omega
 · split at h<;>omega
theorem QKO {op a b:Int} (h1:¬(op=19∨op=20)) (h2:¬(op=25∨op=26∨op=27)):(XK op a b).2=0:=by
 unfold XK
 rw [if_neg h1,if_neg h2]
 (repeat' split)<;>rfl
def QGJ (a:Int) (k:Nat) (r:Int):Int:=IntKind.u64.wrap ((BitVec.ofInt 64 r ||| BitVec.ofInt 64 (IntKind.u64.wrap (IntKind.u64.wrap ((BitVec.ofInt 64 ((IntKind.u64.wrap a).fdiv (2^min k 64)) &&& 1#64).toNat:Int)*2^min (63-k) 64))).toNat:Int)
def QBi (a:Int):Nat→BitVec 64
 | 0=>0#64
 | n+1=>QBi a n ||| if (BitVec.ofInt 64 a).getLsbD n then BitVec.twoPow 64 (63-n) else 0#64
theorem QEO (a:Int):∀ n,n≤64→YB (QGJ a) 0 n=((QBi a n).toNat:Int)
 | 0,_=>rfl
 | n+1,h=>by
   rw [UN,QEO a n (by omega)]
   unfold QGJ
   rw [Nat.min_eq_left (by omega),Nat.min_eq_left (by omega),Xn a,y5,Vw,Vw,QGX,BitVec.getLsbD_ushiftRight,W5,Xn,Vw]
   congr 2
   show _=QBi a n ||| _
   congr 1
   simp only [Nat.add_zero]
   cases (BitVec.ofInt 64 a).getLsbD n
   · simp [IntKind.wrap,IntKind.signed,IntKind.bits]
   · rw [if_pos rfl,if_pos rfl,show IntKind.u64.wrap (((1#64).toNat:Nat):Int)=1 from by decide,Int.one_mul,QFk (by omega)]
theorem QBh (a:Int):∀ n,n≤64→∀ i,i<64→(QBi a n).getLsbD i=(decide (64-n≤i)&&(BitVec.ofInt 64 a).getLsbD (63-i))
 | 0,_,i,hi=>by simp [QBi];omega
 | n+1,h,i,hi=>by
   unfold QBi
   rw [BitVec.getLsbD_or,QBh a n (by omega) i hi]
   by_cases h1:i=63-n
   · have e:63-i=n:=by omega
     rw [e,decide_eq_false (show ¬64-n≤i by omega),decide_eq_true (show 64-(n+1)≤i by omega),Bool.false_and,Bool.false_or,Bool.true_and]
     cases (BitVec.ofInt 64 a).getLsbD n
     · simp
     · simp [BitVec.getLsbD_twoPow,h1];omega
   · have e:(if (BitVec.ofInt 64 a).getLsbD n then BitVec.twoPow 64 (63-n) else 0#64).getLsbD i=false:=by
      cases (BitVec.ofInt 64 a).getLsbD n<;>simp [BitVec.getLsbD_twoPow]
      omega
     rw [e,Bool.or_false]
     congr 1
     exact decide_eq_decide.2 ⟨fun q=>by omega,fun q=>by omega⟩
theorem QLJ (a:Int):IntKind.i64.wrap (YB (QGJ a) 0 64)=YB (wN a) 0 64:=by
 rw [QEO a 64 (by omega)]
 symm
 refine QOZ a fun i hi=>?_
 rw [Vw,QBh a 64 (by omega) i hi]
 simp
end Go.Eng
namespace Go.Eng
open Go.RowKit
variable {P:Program} {T:Tab} {σ:St}
theorem SA.condF {x y:Code} {K:Exit→St→Prop} (h:SA P T y K σ):SA P T (.cond (.const (.bool false)) x y) K σ:=by
 intro w0 w F ρ a outs hd hR
 exact wp_cond_split (show a.eval _=.bool false from rfl) (fun hb=>absurd hb (by simp)) (fun _=>h w0 w F ρ a outs hd hR)
theorem SA.condT {x y:Code} {K:Exit→St→Prop} (h:SA P T x K σ):SA P T (.cond (.const (.bool true)) x y) K σ:=by
 intro w0 w F ρ a outs hd hR
 exact wp_cond_split (show a.eval _=.bool true from rfl) (fun _=>h w0 w F ρ a outs hd hR) (fun hb=>absurd hb (by simp))
end Go.Eng
namespace Go.Eng
open Go.RowKit
variable {P:Program} {T:Tab}
theorem ArgsFit.at {w:World} {F:Nat→Prop}:∀ {ts:List TypeId} {vs:List V} {xs:List Value},ArgsFit T w F ts vs xs→∀ (i:Nat) {t:TypeId} {k:IntKind} {n:Int},ts[i]?=some t→T.ty t=.int k→vs[i]?=some (.int n)→k.has n
 | [],[],[],_,i,_,_,_,h,_,_=>by simp at h
 | t::ts,v::vs,x::xs,⟨⟨h1,h2⟩,h⟩,0,t',k,n,e1,e2,e3=>by
   simp only [List.getElem?_cons_zero,Option.some.injEq] at e1 e3
   subst e1 e3
   generalize x.cells.toList=cs at h1
   cases h1 with
   | int a b=>rw [a] at e2;cases e2;exact b
 | t::ts,v::vs,x::xs,⟨⟨h1,h2⟩,h⟩,i+1,t',k,n,e1,e2,e3=>by
   simp only [List.getElem?_cons_succ] at e1 e3
   exact h.at i e1 e2 e3
 | [],[],_::_,h,_,_,_,_,_,_,_=>h.elim
 | [],_::_,_,h,_,_,_,_,_,_,_=>h.elim
 | _::_,[],_,h,_,_,_,_,_,_,_=>h.elim
 | _::_,_::_,[],h,_,_,_,_,_,_,_=>h.elim
theorem Ctr.ranged {f:FuncId} {pts rts:List TypeId} {vs rs:List V} (he:zC P f) (h:(∀ (i:Nat) {t:TypeId} {k:IntKind} {n:Int},pts[i]?=some t→T.ty t=.int k→vs[i]?=some (.int n)→k.has n)→Ctr P T f pts rts vs rs):Ctr P T f pts rts vs rs :=
 ⟨he,fun w F xs hF hg ha=>(h fun i=>ha.at i).2 w F xs hF hg ha⟩
theorem IntKind.i64_has {n:Int} (h:IntKind.i64.has n) : -9223372036854775808≤n∧n<9223372036854775808:=by
 unfold IntKind.has IntKind.min IntKind.max IntKind.signed IntKind.bits at h
 simp at h
 omega
end Go.Eng
namespace Go.Eng
structure At (g:Int) (s t:Stt):Prop where
 status:(t.gor g).status=(s.gor g).status
 func:(t.gor g).func=(s.gor g).func
 pc:(t.gor g).pc=(s.gor g).pc
theorem At.refl (g:Int) (s:Stt):At g s s:=⟨rfl,rfl,rfl⟩
theorem At.trans {g:Int} {s t u:Stt} (h:At g s t) (k:At g t u):At g s u:=⟨k.status.trans h.status,k.func.trans h.func,k.pc.trans h.pc⟩
theorem zI {s:Stt} (h6:s.gos.length=6) {g:Int} (hg:0≤g∧g<6) (r v:Int):At g s (s.setReg g r v):=by
 unfold Stt.setReg
 split
 · have e:(({ s with gos:=s.gos.set g.toNat { s.gor g with regs:=(s.gor g).regs.set r.toNat v } }:Stt).gor g)={ s.gor g with regs:=(s.gor g).regs.set r.toNat v }:=by
    show (s.gos.set _ _).getD _ _=_
    rw [QW,if_pos ⟨rfl,by omega⟩]
   refine ⟨?_,?_,?_⟩<;>rw [e]
 · exact At.refl _ _
structure VisOk (p:Prg) (s:Stt) (g:Int) (d:Did):Prop where
 vld:Vld p d.s
 func:(d.s.gor g).func=(s.gor g).func
 pc:(d.s.gor g).pc=(s.gor g).pc
 cnt:s.count≤d.s.count
 fail:d.why≠0→(d.s.gor g).status=1∧ZP (QA p s g).op d.why=true
 on:d.why=0→0≤d.to_→(d.s.gor g).status=1∧d.to_<((p.fn (s.gor g).func).code.length:Int)
section
variable {p:Prg} {s:Stt} {g:Int}
theorem VisOk.plain {d:Did} (hv:Vld p d.s) (ha:At g s d.s) (hc:s.count≤d.s.count) (h1:(s.gor g).status=1) (hw:d.why=0) (ht:d.to_<((p.fn (s.gor g).func).code.length:Int)):VisOk p s g d :=
 ⟨hv,ha.func,ha.pc,hc,fun q=>absurd hw q,fun _ _=>⟨ha.status.trans h1,ht⟩⟩
theorem VisOk.failed {d:Did} (hv:Vld p d.s) (ha:At g s d.s) (hc:s.count≤d.s.count) (h1:(s.gor g).status=1) (hf:ZP (QA p s g).op d.why=true) (hw:d.why≠0):VisOk p s g d :=
 ⟨hv,ha.func,ha.pc,hc,fun _=>⟨ha.status.trans h1,hf⟩,fun q=>absurd q hw⟩
theorem Vld.offer (hok:p.Ok) (h:Vld p s) {g c:Nat} (hg:(g:Int)<s.count) (h1:(s.gos.getD g default).status=1) (hop:(p.instr (s.gos.getD g default)).op=58) (ha:(p.instr (s.gos.getD g default)).a=(c:Int))
 (hc:c<p.chans.length) (hcap:p.chans.getD c 0=0) (ho:(s.chans.getD c default).offer=0) (hcl:(s.chans.getD c default).closed=false) (v:Int) :
 Vld p ⟨s.vars,s.owner,s.chans.set c ⟨(s.chans.getD c default).buf,(s.chans.getD c default).len,(s.chans.getD c default).closed,1,(g:Int),v⟩,s.gos.set g ⟨2,(s.gos.getD g default).func,(s.gos.getD g default).pc,(s.gos.getD g default).why,(s.gos.getD g default).regs⟩,s.count⟩:=by
 have hG:=h.gos g hg
 have hC:=h.chans c hc
 have h4:=hok.four
 have hl4:=h.shape.chans
 have hl6:=h.shape.gos
 have hcnt:=h.count
 have hX:GorP p ⟨2,(s.gos.getD g default).func,(s.gos.getD g default).pc,(s.gos.getD g default).why,(s.gos.getD g default).regs⟩:=by
  refine ⟨⟨by show (1:Int)≤2;decide,by show (2:Int)≤5;decide⟩,⟨hG.inn.f0,hG.inn.f1,hG.inn.p0,hG.inn.p1,hG.inn.regs⟩,fun k hk h8=>hG.zero k ?_ h8,fun q=>absurd (show (2:Int)=4 from q) (by decide),fun _=>hG.why (by omega),fun q=>absurd (show (2:Int)=3 from q) (by decide),fun q=>absurd (show (2:Int)=5 from q) (by decide)⟩
  have e1:Ub p (s.gos.getD g default)=(p.fn (s.gos.getD g default).func).regs:=if_neg (by omega)
  rw [e1];exact hk
 have hs1:=Yd h.shape g s.count (X:=⟨2,(s.gos.getD g default).func,(s.gos.getD g default).pc,(s.gos.getD g default).why,(s.gos.getD g default).regs⟩) hG.inn.regs
 have hb4:(s.chans.getD c default).buf.length=4:=h.shape.bufs _ (Qn _ (by omega))
 refine ⟨YJ hs1 c hb4,h.count,fun k hk=>?_,fun k h6 hk=>?_,h.vars,h.own,fun j hj=>?_,fun j hj4 hj=>?_,fun k hk hs=>?_⟩
 · show GorP p ((s.gos.set g _).getD k default)
   rw [QW];split
   · exact hX
   · exact h.gos k hk
 · show (s.gos.set g _).getD k default=zeroGor
   have hk:s.count≤(k:Int):=hk
   rw [QW,if_neg (by omega)]
   exact h.rest k h6 hk
 · show ChnP p (s.gos.set g _) s.count j ((s.chans.set c _).getD j default)
   rw [QW];split
   · rename_i q
     obtain ⟨q1,q2⟩:=q
     subst q1
     refine ⟨hC.len,⟨by show (0:Int)≤1;decide,by show (1:Int)≤3;decide⟩,fun w=>absurd hcap w,hC.buf,fun w=>absurd (show (1:Int)=0 from w) (by decide),fun _ w=>absurd rfl w,fun _=>hcl,fun w=>absurd (show (1:Int)=3 from w) (by decide),fun _=>⟨⟨by show (0:Int)≤(g:Int);omega,hg⟩,?_⟩⟩
     show Waits p (s.gos.set g _) ((g:Int)).toNat c
     rw [Int.toNat_natCast]
     unfold Waits
     rw [QW,if_pos ⟨rfl,by omega⟩]
     exact ⟨rfl,hop,ha⟩
   · exact (h.chans j hj).go (by omega)
 · show (s.chans.set c _).getD j default=zeroChn
   rw [QW,if_neg (by omega)]
   exact h.rchans j hj4 hj
 · have hs:((s.gos.set g _).getD k default).status=2:=hs
   rw [QW] at hs
   split at hs
   · rename_i q
     refine ⟨c,hc,?_⟩
     show ((s.chans.set c _).getD c default).offer≠0∧((s.chans.set c _).getD c default).from_=(k:Int)
     rw [QW,if_pos ⟨rfl,by omega⟩]
     exact ⟨by show (1:Int)≠0;decide,by show (g:Int)=(k:Int);rw [q.1]⟩
   · obtain ⟨j,hj,w1,w2⟩:=h.waits k hk hs
     refine ⟨j,hj,?_⟩
     show ((s.chans.set c _).getD j default).offer≠0∧((s.chans.set c _).getD j default).from_=(k:Int)
     have hjc:c≠j:=fun q=>w1 (by rw [← q];exact ho)
     rw [QW,if_neg (fun q=>hjc q.1)]
     exact ⟨w1,w2⟩
theorem Vld.waiting (h:Vld p s) {g:Nat} (hg:(g:Int)<s.count) (h2:(s.gos.getD g default).status=2):∃ c:Nat,c<p.chans.length∧(s.chans.getD c default).offer≠0∧(s.chans.getD c default).from_=(g:Int)∧Waits p s.gos g c:=by
 obtain ⟨c,hc,h1,h3⟩:=h.waits g hg h2
 have:=(h.chans c hc).from_ h1
 rw [h3,Int.toNat_natCast] at this
 exact ⟨c,hc,h1,h3,this.2⟩
theorem Vld.taken (hok:p.Ok) (h:Vld p s) {g c:Nat} (hg:(g:Int)<s.count) (h2:(s.gos.getD g default).status=2) (ha:(p.instr (s.gos.getD g default)).a=(c:Int)) :
 Vld p ⟨s.vars,s.owner,s.chans.set c ⟨(s.chans.getD c default).buf,(s.chans.getD c default).len,(s.chans.getD c default).closed,0,0,0⟩,s.gos.set g ⟨1,(s.gos.getD g default).func,(s.gos.getD g default).pc,(s.gos.getD g default).why,(s.gos.getD g default).regs⟩,s.count⟩:=by
 obtain ⟨c',hc,ho,hf,hw⟩:=h.waiting hg h2
 have e:c'=c:=by have:=hw.2.2.symm.trans ha;omega
 subst e
 have hG:=h.gos g hg
 have hC:=h.chans c' hc
 have h4:=hok.four
 have hl4:=h.shape.chans
 have hl6:=h.shape.gos
 have hcnt:=h.count
 have hX:GorP p ⟨1,(s.gos.getD g default).func,(s.gos.getD g default).pc,(s.gos.getD g default).why,(s.gos.getD g default).regs⟩:=by
  refine ⟨⟨by show (1:Int)≤1;decide,by show (1:Int)≤5;decide⟩,⟨hG.inn.f0,hG.inn.f1,hG.inn.p0,hG.inn.p1,hG.inn.regs⟩,fun k hk h8=>hG.zero k ?_ h8,fun q=>absurd (show (1:Int)=4 from q) (by decide),fun _=>hG.why (by omega),fun q=>absurd (show (1:Int)=3 from q) (by decide),fun q=>absurd (show (1:Int)=5 from q) (by decide)⟩
  have e1:Ub p (s.gos.getD g default)=(p.fn (s.gos.getD g default).func).regs:=if_neg (by omega)
  rw [e1];exact hk
 have hs1:=Yd h.shape g s.count (X:=⟨1,(s.gos.getD g default).func,(s.gos.getD g default).pc,(s.gos.getD g default).why,(s.gos.getD g default).regs⟩) hG.inn.regs
 have hb4:(s.chans.getD c' default).buf.length=4:=h.shape.bufs _ (Qn _ (by omega))
 refine ⟨YJ hs1 c' hb4,h.count,fun k hk=>?_,fun k h6 hk=>?_,h.vars,h.own,fun j hj=>?_,fun j hj4 hj=>?_,fun k hk hs=>?_⟩
 · show GorP p ((s.gos.set g _).getD k default)
   rw [QW];split
   · exact hX
   · exact h.gos k hk
 · show (s.gos.set g _).getD k default=zeroGor
   have hk:s.count≤(k:Int):=hk
   rw [QW,if_neg (by omega)]
   exact h.rest k h6 hk
 · show ChnP p (s.gos.set g _) s.count j ((s.chans.set c' _).getD j default)
   rw [QW];split
   · rename_i q
     obtain ⟨q1,q2⟩:=q
     subst q1
     exact ⟨hC.len,⟨by show (0:Int)≤0;decide,by show (0:Int)≤3;decide⟩,fun w=>rfl,hC.buf,fun w=>⟨rfl,rfl⟩,fun w=>absurd rfl w,fun w=>absurd (show (0:Int)=1 from w) (by decide),fun w=>absurd (show (0:Int)=3 from w) (by decide),fun w=>absurd rfl w⟩
   · rename_i q
     have hJ:=h.chans j hj
     refine ⟨hJ.len,hJ.off,hJ.cap,hJ.buf,hJ.none,hJ.val,hJ.open_,hJ.lost,fun w=>⟨(hJ.from_ w).1,?_⟩⟩
     have hwj:=(hJ.from_ w).2
     have hne:g≠(s.chans.getD j default).from_.toNat:=by
      intro q2
      have e2:(p.instr (s.gos.getD (s.chans.getD j default).from_.toNat default)).a=(j:Int):=hwj.2.2
      rw [← q2,hw.2.2] at e2
      exact q ⟨by omega,by omega⟩
     unfold Waits at *
     rw [QW,if_neg (fun q2=>hne q2.1)]
     exact hwj
 · show (s.chans.set c' _).getD j default=zeroChn
   rw [QW,if_neg (by omega)]
   exact h.rchans j hj4 hj
 · have hs:((s.gos.set g _).getD k default).status=2:=hs
   rw [QW] at hs
   split at hs
   · exact absurd (show (1:Int)=2 from hs) (by decide)
   · rename_i q
     obtain ⟨j,hj,w1,w2⟩:=h.waits k hk hs
     refine ⟨j,hj,?_⟩
     show ((s.chans.set c' _).getD j default).offer≠0∧((s.chans.set c' _).getD j default).from_=(k:Int)
     have hjc:c'≠j:=by
      intro q2
      rw [← q2,hf] at w2
      exact q ⟨by omega,by omega⟩
     rw [QW,if_neg (fun q=>hjc q.1)]
     exact ⟨w1,w2⟩
theorem Vld.spawn (hok:p.Ok) (h:Vld p s) (h6:s.count<6) {b:Int} (hb:0≤b∧b<p.funcs.length) {X:Gor} (hX:GorP p X) (h1:X.status=1):Vld p ⟨s.vars,s.owner,s.chans,s.gos.set s.count.toNat X,s.count+1⟩:=by
 have hcnt:=h.count
 have hl6:=h.shape.gos
 have hz:(s.gos.getD s.count.toNat default).status≠2:=by rw [h.rest s.count.toNat (by omega) (by omega)];decide
 refine ⟨Yd h.shape _ _ hX.inn.regs,⟨by show 1≤s.count+1;omega,by show s.count+1≤6;omega⟩,fun k hk=>?_,fun k h6 hk=>?_,h.vars,fun k hk=>?_,fun c hc=>?_,h.rchans,fun g hg hs=>?_⟩
 · have hk:(k:Int)<s.count+1:=hk
   show GorP p ((s.gos.set s.count.toNat X).getD k default)
   rw [QW];split
   · exact hX
   · exact h.gos k (by omega)
 · have hk:s.count+1≤(k:Int):=hk
   show (s.gos.set s.count.toNat X).getD k default=zeroGor
   rw [QW,if_neg (by omega)]
   exact h.rest k h6 (by omega)
 · have:=h.own k hk
   exact ⟨⟨this.1.1,Int.le_trans this.1.2 (by show s.count≤s.count+1;omega)⟩,this.2⟩
 · have hC:=(h.chans c hc).go (X:=X) hz
   exact ⟨hC.len,hC.off,hC.cap,hC.buf,hC.none,hC.val,hC.open_,hC.lost,fun q=>⟨⟨(hC.from_ q).1.1,Int.lt_trans (hC.from_ q).1.2 (by show s.count<s.count+1;omega)⟩,(hC.from_ q).2⟩⟩
 · have hs:((s.gos.set s.count.toNat X).getD g default).status=2:=hs
   have hg:(g:Int)<s.count+1:=hg
   rw [QW] at hs
   split at hs
   · omega
   · exact h.waits g (by omega) hs
end
end Go.Eng
namespace Go.Eng
theorem ZL {p:Prg} {s:Stt} {g:Int} {c:Prop} [Decidable c] {a b:Did} (h1:c→VisOk p s g a) (h2:¬c→VisOk p s g b):VisOk p s g (if c then a else b):=by
 by_cases h:c
 · rw [if_pos h];exact h1 h
 · rw [if_neg h];exact h2 h
section
variable {p:Prg} (hok:p.Ok) {s:Stt} (hv:Vld p s) {g:Int} (hg:0≤g∧g<s.count) (h1:(s.gor g).status=1)
include hok hv hg h1
theorem QBr {v0 t c:Int} (v:Int) (ht:t<((p.fn (s.gor g).func).code.length:Int)) (hc:0≤c∧c<(p.chans.length:Int)) (hsn:XF p s c=true)
 (h58:p.cap c=0→(QA p s g).op=58∧(QA p s g).a=c) (hf:(QA p s g).op=58∨(QA p s g).op=61):VisOk p s g (YW p ⟨s,v0,0,t⟩ g c v):=by
 have h4:=hok.four
 have hC:=hv.chans c.toNat (by omega)
 have hb4:(s.chans.getD c.toNat default).buf.length=4:=hv.shape.bufs _ (Qn _ (by rw [hv.shape.chans];omega))
 have hcp0:=(hok.caps c.toNat).1
 have hcp4:=(hok.caps c.toNat).2
 unfold YW
 refine ZL (fun hcl=>?_) (fun hcl=>ZL (fun hcp=>?_) (fun hcp=>?_))
 · refine VisOk.failed hv (At.refl _ _) (Int.le_refl _) h1 ?_ (by show (4:Int)≠0;decide)
   show ZP (QA p s g).op 4=true
   simp only [ZP]
   rcases hf with q|q<;>simp [q]
 · have hcl:(s.chans.getD c.toNat default).closed=false:=Bool.of_not_eq_true hcl
   have hcp:0<p.chans.getD c.toNat 0:=hcp
   have hl:=xb hsn hcl hcp
   have ho:=hC.cap (by omega)
   have hV:Vld p (s.setChn c ⟨(s.chans.getD c.toNat default).buf.set (s.chans.getD c.toNat default).len.toNat v,(s.chans.getD c.toNat default).len+1,(s.chans.getD c.toNat default).closed,(s.chans.getD c.toNat default).offer,(s.chans.getD c.toNat default).from_,(s.chans.getD c.toNat default).val⟩):=by
    refine hv.chn (c:=c.toNat) (by omega) (by show (List.set _ _ _).length=4;rw [List.length_set];exact hb4) ⟨⟨by have:=hC.len.1;show 0≤_+1;omega,by show _+1≤_;omega⟩,hC.off,hC.cap,fun k q1 q2=>?_,hC.none,hC.val,hC.open_,hC.lost,hC.from_⟩ (fun q=>absurd ho q)
    have q1:(s.chans.getD c.toNat default).len+1≤(k:Int):=q1
    have:=hC.len.1
    show (List.set _ _ _).getD k 0=0
    rw [QW,if_neg (by omega)]
    exact hC.buf k (by omega) q2
   exact VisOk.plain hV ⟨rfl,rfl,rfl⟩ (Int.le_refl _) h1 rfl ht
 · have hcl:(s.chans.getD c.toNat default).closed=false:=Bool.of_not_eq_true hcl
   have hcp:¬0<p.chans.getD c.toNat 0:=hcp
   have hcap:p.chans.getD c.toNat 0=0:=by omega
   have ho:(s.chans.getD c.toNat default).offer=0:=by
    have e:XF p s c=decide ((s.chn c).offer=0):=(if_neg (fun q=>Bool.noConfusion (hcl.symm.trans q))).trans (if_neg hcp)
    rw [e] at hsn
    exact of_decide_eq_true hsn
   obtain ⟨hop,ha⟩:=h58 hcap
   have hV:=hv.offer hok (g:=g.toNat) (c:=c.toNat) (by omega) h1 hop (by have:(QA p s g).a=(p.instr (s.gos.getD g.toNat default)).a:=rfl;omega) (by omega) hcap ho hcl v
   rw [show ((g.toNat:Nat):Int)=g by omega] at hV
   have e:∀ {x:Stt},x=(s.setStatus g 2).setChn c ⟨(s.chans.getD c.toNat default).buf,(s.chans.getD c.toNat default).len,(s.chans.getD c.toNat default).closed,1,g,v⟩→(x.gor g).func=(s.gor g).func∧(x.gor g).pc=(s.gor g).pc:=by
    rintro x rfl
    show ((s.gos.set g.toNat _).getD g.toNat default).func=_∧((s.gos.set g.toNat _).getD g.toNat default).pc=_
    have hc6:=hv.count
    rw [QW,if_pos ⟨rfl,by rw [hv.shape.gos];omega⟩]
    exact ⟨rfl,rfl⟩
   exact ⟨hV,(e rfl).1,(e rfl).2,Int.le_refl _,fun q=>absurd rfl q,fun _ q=>absurd (show (0:Int) ≤ -1 from q) (by decide)⟩
theorem QBt {v0 t c r ok:Int} (ht:t<((p.fn (s.gor g).func).code.length:Int)) (hc:0≤c∧c<(p.chans.length:Int)) (hr:r = -1∨0≤r∧r<(p.fn (s.gor g).func).regs) (hk:ok = -1∨0≤ok∧ok<(p.fn (s.gor g).func).regs) :
 VisOk p s g (XE ⟨s,v0,0,t⟩ g c r ok):=by
 have h4:=hok.four
 have hC:=hv.chans c.toNat (by omega)
 have hb4:(s.chans.getD c.toNat default).buf.length=4:=hv.shape.bufs _ (Qn _ (by rw [hv.shape.chans];omega))
 have hcp4:=(hok.caps c.toNat).2
 have hc6:=hv.count
 have two:∀ (X:Stt) (x y vv:Int),Vld p X→X.gos=s.gos→X.count=s.count→VisOk p s g ⟨(X.setReg g r x).setReg g ok y,vv,0,t⟩:=by
  intro X x y vv hX e1 e2
  have eg:X.gor g=s.gor g:=by unfold Stt.gor;rw [e1]
  have a1:=zI (s:=X) (by rw [hX.shape.gos]) (g:=g) ⟨hg.1,by omega⟩ r x
  have b1:=hX.reg (g:=g) ⟨hg.1,by omega⟩ (by rw [eg];exact h1) (r:=r) (by rw [eg];exact hr) x
  have a2:=zI (s:=X.setReg g r x) (by rw [b1.shape.gos]) (g:=g) ⟨hg.1,by omega⟩ ok y
  have b2:=b1.reg (g:=g) ⟨hg.1,by rw [ZS];omega⟩ (by rw [a1.status,eg];exact h1) (r:=ok) (by rw [a1.func,eg];exact hk) y
  have a0:At g s X:=⟨by rw [eg],by rw [eg],by rw [eg]⟩
  exact VisOk.plain b2 (a0.trans (a1.trans a2)) (by show s.count≤(Stt.setReg _ _ _ _).count;rw [ZS,ZS,e2];exact Int.le_refl _) h1 rfl ht
 unfold XE
 refine ZL (fun hl=>?_) (fun hl=>ZL (fun ho=>?_) (fun ho=>?_))
 · have hl:0<(s.chans.getD c.toNat default).len:=hl
   have hl2:=hC.len
   have hof:=hC.cap (by omega)
   have hV:Vld p (s.setChn c ⟨(Zz (s.chans.getD c.toNat default).buf ((s.chans.getD c.toNat default).len-1).toNat).set ((s.chans.getD c.toNat default).len-1).toNat 0,(s.chans.getD c.toNat default).len-1,(s.chans.getD c.toNat default).closed,(s.chans.getD c.toNat default).offer,(s.chans.getD c.toNat default).from_,(s.chans.getD c.toNat default).val⟩):=by
    refine hv.chn (c:=c.toNat) (by omega) (by show (List.set _ _ _).length=4;rw [List.length_set,YN];exact hb4) ⟨⟨by show 0≤_-1;omega,by show _-1≤_;omega⟩,hC.off,hC.cap,fun k q1 q2=>?_,hC.none,hC.val,hC.open_,hC.lost,hC.from_⟩ (fun q=>absurd hof q)
    have q1:(s.chans.getD c.toNat default).len-1≤(k:Int):=q1
    show (List.set _ _ _).getD k 0=0
    rw [QW];split
    · rfl
    · rename_i q
      have hne:((s.chans.getD c.toNat default).len-1).toNat≠k:=fun w=>q ⟨w,by rw [YN];omega⟩
      rw [vJ _ (by omega) (by omega)]
      exact hC.buf k (by omega) q2
   exact two _ _ _ _ hV rfl rfl
 · have ho:(s.chans.getD c.toNat default).offer=1:=ho
   have hV:Vld p (s.setChn c ⟨(s.chans.getD c.toNat default).buf,(s.chans.getD c.toNat default).len,(s.chans.getD c.toNat default).closed,2,(s.chans.getD c.toNat default).from_,0⟩):=by
    refine hv.chn (c:=c.toNat) (by omega) hb4 ⟨hC.len,⟨by show (0:Int)≤2;decide,by show (2:Int)≤3;decide⟩,fun q=>absurd (hC.cap q) (by omega),hC.buf,fun q=>absurd (show (2:Int)=0 from q) (by decide),fun _ _=>rfl,fun q=>absurd (show (2:Int)=1 from q) (by decide),fun q=>absurd (show (2:Int)=3 from q) (by decide),fun _=>hC.from_ (by omega)⟩ (fun _=>⟨by show (2:Int)≠0;decide,rfl⟩)
   exact two _ _ _ _ hV rfl rfl
 · have hV:Vld p (s.setChn c (s.chans.getD c.toNat default)):=hv.chn (c:=c.toNat) (by omega) hb4 hC (fun q=>⟨q,rfl⟩)
   exact two _ _ _ _ hV rfl rfl
omit hg in
theorem QFU {v0 t c:Int} (ht:t<((p.fn (s.gor g).func).code.length:Int)) (hc:0≤c∧c<(p.chans.length:Int)) (hop:(QA p s g).op=60):VisOk p s g (YH ⟨s,v0,0,t⟩ c):=by
 have h4:=hok.four
 have hC:=hv.chans c.toNat (by omega)
 have hb4:(s.chans.getD c.toNat default).buf.length=4:=hv.shape.bufs _ (Qn _ (by rw [hv.shape.chans];omega))
 unfold YH
 refine ZL (fun hcl=>?_) (fun hcl=>ZL (fun ho=>?_) (fun ho=>?_))
 · refine VisOk.failed hv (At.refl _ _) (Int.le_refl _) h1 ?_ (by show (5:Int)≠0;decide)
   show ZP (QA p s g).op 5=true
   simp [ZP,hop]
 · have ho:(s.chans.getD c.toNat default).offer=1:=ho
   have hV:Vld p (s.setChn c ⟨(s.chans.getD c.toNat default).buf,(s.chans.getD c.toNat default).len,true,3,(s.chans.getD c.toNat default).from_,0⟩):=by
    refine hv.chn (c:=c.toNat) (by omega) hb4 ⟨hC.len,⟨by show (0:Int)≤3;decide,by show (3:Int)≤3;decide⟩,fun q=>absurd (hC.cap q) (by omega),hC.buf,fun q=>absurd (show (3:Int)=0 from q) (by decide),fun _ _=>rfl,fun q=>absurd (show (3:Int)=1 from q) (by decide),fun _=>rfl,fun _=>hC.from_ (by omega)⟩ (fun _=>⟨by show (3:Int)≠0;decide,rfl⟩)
   exact VisOk.plain hV ⟨rfl,rfl,rfl⟩ (Int.le_refl _) h1 rfl ht
 · have ho:¬(s.chans.getD c.toNat default).offer=1:=ho
   have hV:Vld p (s.setChn c ⟨(s.chans.getD c.toNat default).buf,(s.chans.getD c.toNat default).len,true,(s.chans.getD c.toNat default).offer,(s.chans.getD c.toNat default).from_,(s.chans.getD c.toNat default).val⟩):=by
    exact hv.chn (c:=c.toNat) (by omega) hb4 ⟨hC.len,hC.off,hC.cap,hC.buf,hC.none,hC.val,fun q=>absurd q ho,fun _=>rfl,hC.from_⟩ (fun q=>⟨q,rfl⟩)
   exact VisOk.plain hV ⟨rfl,rfl,rfl⟩ (Int.le_refl _) h1 rfl ht
theorem QFS {v0 t:Int} {x:Instr} (hx:x=QA p s g) (ht:t<((p.fn (s.gor g).func).code.length:Int)) (hop:(QA p s g).op=62) (ha:x.a = -1∨0≤x.a∧x.a<(p.fn (s.gor g).func).regs) (hb:0≤x.b∧x.b<(p.funcs.length:Int)):VisOk p s g (YO p ⟨s,v0,0,t⟩ g x):=by
 have hc6:=hv.count
 unfold YO
 refine ZL (fun hcl=>?_) (fun hcl=>?_)
 · refine VisOk.failed hv (At.refl _ _) (Int.le_refl _) h1 ?_ (by show (8:Int)≠0;decide)
   show ZP (QA p s g).op 8=true
   simp [ZP,hop]
 · have hcl:¬6≤s.count:=hcl
   have hcd:=hok.code x.b.toNat (by omega)
   have hpm:=hok.params x.b.toNat
   have hX:GorP p ⟨1,x.b,0,0,Q3 s g x.c (p.fn x.b).params.toNat⟩:=by
    refine ⟨⟨by show (1:Int)≤1;decide,by show (1:Int)≤5;decide⟩,⟨hb.1,hb.2,Int.le_refl 0,(show (0:Int)<((p.funcs.getD x.b.toNat default).code.length:Int) by omega),UH _ _ _ _⟩,fun k hk h8=>?_,fun q=>absurd (show (1:Int)=4 from q) (by decide),fun _=>rfl,fun q=>absurd (show (1:Int)=3 from q) (by decide),fun q=>absurd (show (1:Int)=5 from q) (by decide)⟩
    have hk:(p.funcs.getD x.b.toNat default).regs≤(k:Int):=hk
    show (Q3 s g x.c (p.fn x.b).params.toNat).getD k 0=0
    unfold Q3
    rw [VQ h8,if_neg (by show ¬k<(p.funcs.getD x.b.toNat default).params.toNat;omega)]
   have hV:=hv.spawn hok (by omega) hb hX rfl
   have eg:∀ {X:Stt},X=⟨s.vars,s.owner,s.chans,s.gos.set s.count.toNat ⟨1,x.b,0,0,Q3 s g x.c (p.fn x.b).params.toNat⟩,s.count+1⟩→X.gor g=s.gor g:=by
    rintro X rfl
    show (s.gos.set s.count.toNat _).getD g.toNat default=_
    rw [QW,if_neg (by omega)];rfl
   have a1:=zI hV.shape.gos (g:=g) ⟨hg.1,by omega⟩ x.a s.count
   have b1:=hV.reg (g:=g) ⟨hg.1,by show g<s.count+1;omega⟩ (by rw [eg rfl];exact h1) (r:=x.a) (by rw [eg rfl];exact ha) s.count
   refine VisOk.plain b1 ⟨?_,?_,?_⟩ (by show s.count≤(Stt.setReg _ _ _ _).count;rw [ZS];show s.count≤s.count+1;omega) h1 rfl ht
   · exact a1.status.trans (by rw [eg rfl])
   · exact a1.func.trans (by rw [eg rfl])
   · exact a1.pc.trans (by rw [eg rfl])
theorem QHa {v0 t:Int} {x:Instr} (hx:x=QA p s g) (ht:t<((p.fn (s.gor g).func).code.length:Int)):VisOk p s g (ZK ⟨s,v0,0,t⟩ g x):=by
 have hc6:=hv.count
 have hgi:=(hv.gos g.toNat (by omega)).inn
 have hrt:QV p (p.funcs.getD (s.gos.getD g.toNat default).func.toNat default) x=0:=by rw [hx];exact XU hok hgi
 have reg:∀ (X:Stt) (r v vv:Int),Vld p X→X.gos=s.gos→X.count=s.count→(r = -1∨0≤r∧r<(p.fn (s.gor g).func).regs)→VisOk p s g ⟨X.setReg g r v,vv,0,t⟩:=by
  intro X r v vv hX e1 e2 hr
  have eg:X.gor g=s.gor g:=by unfold Stt.gor;rw [e1]
  have a1:=zI (s:=X) (by rw [hX.shape.gos]) (g:=g) ⟨hg.1,by omega⟩ r v
  have b1:=hX.reg (g:=g) ⟨hg.1,by omega⟩ (by rw [eg];exact h1) (r:=r) (by rw [eg];exact hr) v
  have a0:At g s X:=⟨by rw [eg],by rw [eg],by rw [eg]⟩
  exact VisOk.plain b1 (a0.trans a1) (by show s.count≤(Stt.setReg _ _ _ _).count;rw [ZS,e2];exact Int.le_refl _) h1 rfl ht
 by_cases h53:x.op=53
 · have hI:=QDW hrt h53
   rw [QAG (by omega) (by omega) (by omega) h53]
   have hr:x.a = -1∨0≤x.a∧x.a<(p.fn (s.gor g).func).regs:=by have:=hI.1;first|exact this|exact .inr this
   exact ZL (fun _=>reg _ _ _ _ (hv.var (i:=x.b.toNat) (by omega) _) rfl rfl hr) (fun _=>reg s _ _ _ hv rfl rfl hr)
 by_cases h57:x.op=57
 · have hI:=QDV hrt h57
   rw [QAF (by omega) (by omega) (by omega) (by omega) (by omega) (by omega) (by omega) h57]
   have hr:x.a = -1∨0≤x.a∧x.a<(p.fn (s.gor g).func).regs:=by have:=hI.1;first|exact this|exact .inr this
   exact ZL (fun _=>reg _ _ _ _ (hv.owns (i:=x.b.toNat) (by omega) (x:=g+1) (by omega)) rfl rfl hr) (fun _=>reg s _ _ _ hv rfl rfl hr)
 unfold ZK
 refine ZL (fun h=>?_) (fun _=>?_)
 · have hI:=QDZ hrt h
   exact reg s _ _ _ hv rfl rfl (by have:=hI.1;first|exact this|exact .inr this)
 refine ZL (fun h=>?_) (fun _=>?_)
 · have hI:=QDY hrt h
   exact VisOk.plain (hv.var (i:=x.a.toNat) (by omega) _) ⟨rfl,rfl,rfl⟩ (Int.le_refl _) h1 rfl ht
 refine ZL (fun h=>?_) (fun _=>?_)
 · have hI:=QDX hrt h
   have h2:=reg s x.a (s.vars.getD x.b.toNat 0) ((s.gor g).reg x.c) hv rfl rfl (by have:=hI.1;first|exact this|exact .inr this)
   have hV:=h2.vld.var (i:=x.b.toNat) (by omega) (w64 ((s.setReg g x.a (s.vars.getD x.b.toNat 0)).vars.getD x.b.toNat 0+(s.gor g).reg x.c))
   exact ⟨hV,h2.func,h2.pc,h2.cnt,fun q=>absurd rfl q,h2.on⟩
 refine ZL (fun h=>absurd h h53) (fun _=>?_)
 refine ZL (fun h=>VisOk.plain hv (At.refl _ _) (Int.le_refl _) h1 rfl ht) (fun _=>?_)
 refine ZL (fun h=>?_) (fun _=>?_)
 · have hI:=qY hrt (.inl h)
   exact VisOk.plain (hv.owns (i:=x.a.toNat) (by omega) (x:=g+1) (by omega)) ⟨rfl,rfl,rfl⟩ (Int.le_refl _) h1 rfl ht
 refine ZL (fun h=>?_) (fun _=>?_)
 · have hI:=qY hrt (.inr h)
   refine ZL (fun _=>?_) (fun _=>?_)
   · refine VisOk.failed hv (At.refl _ _) (Int.le_refl _) h1 ?_ (by show (6:Int)≠0;decide)
     show ZP (QA p s g).op 6=true
     rw [← hx];simp [ZP,h]
   · exact VisOk.plain (hv.owns (i:=x.a.toNat) (by omega) (x:=0) (by omega)) ⟨rfl,rfl,rfl⟩ (Int.le_refl _) h1 rfl ht
 exact ZL (fun h=>absurd h h57) (fun _=>VisOk.plain hv (At.refl _ _) (Int.le_refl _) h1 rfl ht)
end
theorem w4 {p:Prg} (hok:p.Ok) (hr:QP p=true) {s:Stt} (hv:Vld p s) {g alt:Int} (ha:alt∈Qj p s g):VisOk p s g (QI p s g alt):=by
 have hl:=live_iff.1 (Yq ha)
 have hg:=hl.1
 have hw:=hv.wf hok hr
 have hc6:=hv.count
 have hgi:=(hv.gos g.toNat (by omega)).inn
 have hrt:QV p (p.funcs.getD (s.gos.getD g.toNat default).func.toNat default) (QA p s g)=0:=XU hok hgi
 have hnx:(QA p s g).op≠42∧(QA p s g).op≠45∧(QA p s g).op≠61→(s.gor g).pc+1<((p.fn (s.gor g).func).code.length:Int):=fun h=>QCo hok hgi h
 unfold QI
 refine ZL (fun h66=>?_) (fun h66=>?_)
 · have h2:(s.gos.getD g.toNat default).status=2:=by
    rcases U1 h66 with h|h
    · exact h.1
    · have:=QFz hrt
      have e:(UZ p s g).op=(QA p s g).op:=rfl
      omega
   obtain ⟨c,hc,ho,hf,hwt⟩:=hv.waiting (g:=g.toNat) (by omega) h2
   have hop:(QA p s g).op=58:=hwt.2.1
   have hA:(QA p s g).a=(c:Int):=hwt.2.2
   have hV:=hv.taken hok (g:=g.toNat) (c:=c) (by omega) h2 hwt.2.2
   have e:(Yw ⟨s,0,0,(s.gor g).pc+1⟩ g (QA p s g).a).s=⟨s.vars,s.owner,s.chans.set c ⟨(s.chans.getD c default).buf,(s.chans.getD c default).len,(s.chans.getD c default).closed,0,0,0⟩,s.gos.set g.toNat ⟨1,(s.gos.getD g.toNat default).func,(s.gos.getD g.toNat default).pc,(s.gos.getD g.toNat default).why,(s.gos.getD g.toNat default).regs⟩,s.count⟩:=by
    unfold Yw
    rw [hA];rfl
   have eg:(Yw ⟨s,0,0,(s.gor g).pc+1⟩ g (QA p s g).a).s.gor g=⟨1,(s.gos.getD g.toNat default).func,(s.gos.getD g.toNat default).pc,(s.gos.getD g.toNat default).why,(s.gos.getD g.toNat default).regs⟩:=by
    rw [e]
    show (s.gos.set g.toNat _).getD g.toNat default=_
    rw [QW,if_pos ⟨rfl,by rw [hv.shape.gos];omega⟩]
   refine ⟨by rw [e];exact hV,by rw [eg];rfl,by rw [eg];rfl,by rw [e];exact Int.le_refl _,fun q=>⟨by rw [eg],?_⟩,fun _ _=>⟨by rw [eg],hnx (by omega)⟩⟩
   have e4:(Yw ⟨s,0,0,(s.gor g).pc+1⟩ g (QA p s g).a).why=4:=by
    unfold Yw at q ⊢
    simp only at q ⊢
    split
    · rfl
    · rename_i q2;rw [if_neg q2] at q;exact absurd rfl q
   rw [e4];simp [ZP,hop]
 have h1:(s.gor g).status=1:=by
  rcases hl.2 with h|h
  · exact h
  · exact absurd (by unfold QL;exact if_pos h) h66
 have e:QL p s g=(QA p s g).op:=by
  unfold QL
  exact if_neg (by omega)
 rw [e] at h66 ⊢
 refine ZL (fun h=>?_) (fun h58=>?_)
 · have hI:=VU hrt h
   have hsn:XF p s (QA p s g).a=true:=(z8 (by rw [e];exact h)).symm.trans (Vt ha (by omega)).1
   exact QBr hok hv hg h1 _ (hnx (by omega)) hI.1 hsn (fun _=>⟨h,rfl⟩) (.inl h)
 refine ZL (fun h=>?_) (fun _=>?_)
 · have hI:=yU hrt h
   exact QBt hok hv hg h1 (hnx (by omega)) hI.2.1 hI.1 hI.2.2
 refine ZL (fun h=>?_) (fun _=>?_)
 · exact QFU hok hv h1 (hnx (by omega)) (QDU hrt h) h
 refine ZL (fun h=>?_) (fun _=>?_)
 · have hI:=QFq hrt h
   exact QFS hok hv hg h1 rfl (hnx (by omega)) h hI.1 hI.2.1
 refine ZL (fun h=>ZL (fun _=>?_) (fun _=>?_)) (fun h63=>?_)
 · refine VisOk.failed hv (At.refl _ _) (Int.le_refl _) h1 ?_ (by show (7:Int)≠0;decide)
   show ZP (QA p s g).op 7=true
   simp [ZP,h]
 · exact VisOk.plain hv (At.refl _ _) (Int.le_refl _) h1 rfl (hnx (by omega))
 refine ZL (fun h=>VisOk.plain hv (At.refl _ _) (Int.le_refl _) h1 rfl (hnx (by omega))) (fun h65=>?_)
 refine ZL (fun h=>ZL (fun hal=>?_) (fun hne=>?_)) (fun h61=>?_)
 · have hI:=V0 hrt h
   have hel:=QGN hok (i:=(s.gos.getD g.toNat default).func.toNat) (j:=(QA p s g).a.toNat) (by have:=hgi.f0;have:=hgi.f1;omega) (by omega)
   refine VisOk.plain hv (At.refl _ _) (Int.le_refl _) h1 rfl ?_
   show (Qx p s g).els<_
   have e2:(Qx p s g).els=((p.funcs.getD (s.gos.getD g.toNat default).func.toNat default).sels.getD (QA p s g).a.toNat default).els:=rfl
   have e3:(p.fn (s.gor g).func).code.length=(p.funcs.getD (s.gos.getD g.toNat default).func.toNat default).code.length:=rfl
   have:=hok.code (s.gos.getD g.toNat default).func.toNat (by have:=hgi.f0;have:=hgi.f1;omega)
   omega
 · obtain ⟨k,rfl,hk,hco⟩:=(QAX ha (by rw [e];exact h)).resolve_left hne
   have hI:=V0 hrt h
   have hC:=UC hok (i:=(s.gos.getD g.toNat default).func.toNat) (j:=(QA p s g).a.toNat) (k:=k) (by have:=hgi.f0;have:=hgi.f1;omega) (by have:=hI;omega) hk
   have hto:((Qx p s g).cases.getD (k:Int).toNat default).to_<((p.fn (s.gor g).func).code.length:Int):=hC.to_.2
   refine ZL (fun hs=>?_) (fun hs=>?_)
   · have hs:((Qx p s g).cases.getD k default).send=true:=hs
     have hcap:=hC.cap hs
     have hsn:XF p s ((Qx p s g).cases.getD k default).chan=true:=by
      unfold XX at hco
      rw [if_pos hs] at hco
      exact hco
     exact QBr hok hv hg h1 _ hto hC.chan hsn (fun q=>absurd q hcap) (.inr h)
   · have hs:((Qx p s g).cases.getD k default).send=false:=Bool.of_not_eq_true hs
     have hreg:=hC.reg
     exact QBt hok hv hg h1 hto hC.chan (by
      rcases hreg with q|q
      · exact .inr q
      · exact .inl q.2) (.inl rfl)
 · by_cases hvs:(QA p s g).op=42∨(QA p s g).op=45
   · have hp:=(Vt ha (by rw [e];exact h61)).1
     exfalso
     unfold plain at hp
     simp only [e] at hp
     rw [if_neg (by omega),if_neg (by omega),if_neg (by omega),if_neg (by omega),if_neg (by omega),if_neg (by omega)] at hp
     have:=of_decide_eq_true hp
     omega
   · exact QHa hok hv hg h1 rfl (hnx (by omega))
end Go.Eng
namespace Go.Eng
def wu (apply:Int→Int→Int→Int × Int):Prop:=∀ op a b,((apply op a b).2=20→op=19∨op=20)∧((apply op a b).2=21→25≤op∧op≤27)
theorem QIP (n k:Nat):(List.replicate n (0:Int)).getD k 0=0:=by
 rw [List.getD_eq_getElem?_getD,List.getElem?_replicate]
 split<;>rfl
theorem yI {op w:Int} (h:(w=1∧op=44)∨(w=2∧(op=19∨op=20))∨(w=3∧25≤op∧op≤27)):ZP op w=true:=by
 rcases h with ⟨rfl,h⟩|⟨rfl,h⟩|⟨rfl,h⟩
 · simp [ZP,h]
 · rcases h with rfl|rfl<;>rfl
 · simp [ZP,h]
section
variable {apply:Int→Int→Int→Int × Int} (hap:wu apply) {p:Prg} (hok:p.Ok)
theorem GorP.ended {g:Gor} (h:GorP p g) {w:Int} (hf:ZP (p.instr g).op w=true):GorP p (ended g 4 w) :=
 ⟨⟨by show (1:Int)≤4;decide,by show (4:Int)≤5;decide⟩,⟨h.inn.f0,h.inn.f1,h.inn.p0,h.inn.p1,rfl⟩,fun k _ h8=>by show (List.replicate 8 (0:Int)).getD k 0=0;exact QIP 8 k,fun _=>hf,fun q=>absurd rfl q,fun q=>absurd (show (4:Int)=3 from q) (by decide),fun q=>absurd (show (4:Int)=5 from q) (by decide)⟩
theorem GorP.over {g:Gor} (h:GorP p g) (h1:g.status=1) (hf:(p.instr g).op=45):GorP p (Go.Eng.ended g 3 0) :=
 ⟨⟨by show (1:Int)≤3;decide,by show (3:Int)≤5;decide⟩,⟨h.inn.f0,h.inn.f1,h.inn.p0,h.inn.p1,rfl⟩,fun k _ h8=>by show (List.replicate 8 (0:Int)).getD k 0=0;exact QIP 8 k,fun q=>absurd (show (3:Int)=4 from q) (by decide),fun _=>rfl,fun _=>hf,fun q=>absurd (show (3:Int)=5 from q) (by decide)⟩
include hap hok in
theorem QCw {g:Gor} (hG:GorP p g) (h1:g.status=1) (hl:Ql (p.instr g).op=true) :
 GorP p (Qg apply p g).1∧((Qg apply p g).2=true→(Qg apply p g).1.status=1)∧(Qg apply p g).1.status≠2∧(Qg apply p g).1.status≠5∧(Qg apply p g).1.func=g.func:=by
 have hr:=V6 hl
 have hg:=hG.inn
 have hin:=XU hok hg
 have hm:Ub p g=(p.fn g.func).regs:=if_neg (by omega)
 have h8:=hg.regs
 have mk:∀ (pc:Int) (regs:List Int),0≤pc→pc<(p.funcs.getD g.func.toNat default).code.length→regs.length=8→(∀ k:Nat,(p.fn g.func).regs≤k→k<8→regs.getD k 0=0)→GorP p ⟨g.status,g.func,pc,g.why,regs⟩:=by
  intro pc regs q0 q1 q2 q3
  refine ⟨hG.st,⟨hg.f0,hg.f1,q0,q1,q2⟩,fun k hk hk8=>q3 k ?_ hk8,fun q=>?_,hG.why,fun q=>?_,fun q=>?_⟩
  · have e:Ub p ⟨g.status,g.func,pc,g.why,regs⟩=(p.fn g.func).regs:=if_neg (by show ¬(g.status=3∨g.status=4);omega)
    rw [e] at hk;exact hk
  · have q:g.status=4:=q;omega
  · have q:g.status=3:=q;omega
  · have q:g.status=5:=q;omega
 have next:∀ regs:List Int,regs.length=8→(∀ k:Nat,(p.fn g.func).regs≤k→k<8→regs.getD k 0=0)→((p.instr g).op≠42∧(p.instr g).op≠45∧(p.instr g).op≠61)→GorP p ⟨g.status,g.func,g.pc+1,g.why,regs⟩:=fun regs q2 q3 ho =>
  mk _ _ (by have:=hg.p0;omega) (QCo hok hg ho) q2 q3
 have hz:∀ k:Nat,(p.fn g.func).regs≤k→k<8→g.regs.getD k 0=0:=fun k q1 q2=>hG.zero k (by rw [hm];exact q1) q2
 have hset:∀ (a v:Int),0≤a∧a<(p.fn g.func).regs→∀ k:Nat,(p.fn g.func).regs≤k→k<8→(g.regs.set a.toNat v).getD k 0=0:=by
  intro a v ha k q1 q2
  rw [QW,if_neg (by omega)]
  exact hz k q1 q2
 have fin:∀ {r:Gor × Bool} {pc:Int} {regs:List Int} {b:Bool},r=(⟨g.status,g.func,pc,g.why,regs⟩,b)→GorP p ⟨g.status,g.func,pc,g.why,regs⟩→GorP p r.1∧(r.2=true→r.1.status=1)∧r.1.status≠2∧r.1.status≠5∧r.1.func=g.func:=by
  rintro r pc regs b rfl hG2
  exact ⟨hG2,fun _=>h1,by show g.status≠2;omega,by show g.status≠5;omega,rfl⟩
 have fal:∀ {r:Gor × Bool} {w:Int},r=(ended g 4 w,false)→ZP (p.instr g).op w=true→GorP p r.1∧(r.2=true→r.1.status=1)∧r.1.status≠2∧r.1.status≠5∧r.1.func=g.func:=by
  rintro r w rfl hf
  exact ⟨hG.ended hf,fun q=>Bool.noConfusion (show false=true from q),by show (4:Int)≠2;decide,by show (4:Int)≠5;decide,rfl⟩
 by_cases h1':(p.instr g).op≤15
 · exact fin (ls1 apply h1') (next _ (by rw [List.length_set];exact h8) (hset _ _ (QOS hin (by omega) h1').1) (by omega))
 by_cases h2:(p.instr g).op≤36
 · by_cases e1:(apply (p.instr g).op (g.regs.getD (p.instr g).b.toNat 0) (g.regs.getD (p.instr g).c.toNat 0)).2=20
   · refine fal (QK9 apply h1' h2 e1) ?_
     exact yI (.inr (.inl ⟨rfl,(hap _ _ _).1 e1⟩))
   by_cases e2:(apply (p.instr g).op (g.regs.getD (p.instr g).b.toNat 0) (g.regs.getD (p.instr g).c.toNat 0)).2=21
   · refine fal (QLA apply h1' h2 e1 e2) ?_
     exact yI (.inr (.inr ⟨rfl,(hap _ _ _).2 e2⟩))
   · exact fin (ls2 apply h1' h2 e1 e2) (next _ (by rw [List.length_set];exact h8) (hset _ _ (QLC hin (by omega) h2).1) (by omega))
 by_cases h3:(p.instr g).op=40
 · exact fin (QK8 apply h1' h2 h3) (next _ (by rw [List.length_set];exact h8) (hset _ _ (QJI hin h3)) (by omega))
 by_cases h4:(p.instr g).op=41
 · exact fin (QK7 apply h1' h2 h3 h4) (next _ (by rw [List.length_set];exact h8) (hset _ _ (QJH hin h4).1) (by omega))
 by_cases h5:(p.instr g).op=42
 · have:=QMq hin h5
   exact fin (QK6 apply h1' h2 h3 h4 h5) (mk _ _ this.1 this.2 h8 hz)
 by_cases h6:(p.instr g).op=43
 · by_cases e:g.regs.getD (p.instr g).a.toNat 0=0
   · exact fin (QGB apply h1' h2 h3 h4 h5 h6 e) (next _ h8 hz (by omega))
   · have:=(QGC hin h6).2
     exact fin (QK5 apply h1' h2 h3 h4 h5 h6 e) (mk _ _ this.1 this.2 h8 hz)
 by_cases h7:(p.instr g).op=44
 · by_cases e:g.regs.getD (p.instr g).a.toNat 0=0
   · exact fal (QGA apply h1' h2 h3 h4 h5 h6 h7 e) (yI (.inl ⟨rfl,h7⟩))
   · exact fin (QK4 apply h1' h2 h3 h4 h5 h6 h7 e) (next _ h8 hz (by omega))
 · rw [QK3 apply h1' h2 h3 h4 h5 h6 h7]
   exact ⟨hG.over h1 (by omega),fun q=>Bool.noConfusion (show false=true from q),by show (3:Int)≠2;decide,by show (3:Int)≠5;decide,rfl⟩
include hap hok in
theorem qf:∀ (m:Nat) {g:Gor},GorP p g→g.status=1→GorP p (Zh apply p m g)∧(Zh apply p m g).status≠2∧(Zh apply p m g).func=g.func
 | 0,g,hG,h1=>by
   cases h:Ql (p.instr g).op
   · rw [Y6 apply h];exact ⟨hG,by omega,rfl⟩
   · rw [Wq apply h]
     refine ⟨⟨⟨by show (1:Int)≤5;decide,by show (5:Int)≤5;decide⟩,⟨hG.inn.f0,hG.inn.f1,hG.inn.p0,hG.inn.p1,hG.inn.regs⟩,fun k hk h8=>hG.zero k ?_ h8,fun q=>absurd (show (5:Int)=4 from q) (by decide),fun _=>hG.why (by omega),fun q=>absurd (show (5:Int)=3 from q) (by decide),fun _=>h⟩,by show (5:Int)≠2;decide,rfl⟩
     have e1:Ub p g=(p.fn g.func).regs:=if_neg (by omega)
     rw [e1];exact hk
 | m+1,g,hG,h1=>by
   cases h:Ql (p.instr g).op
   · rw [Y6 apply h];exact ⟨hG,by omega,rfl⟩
   · rw [Q5 apply h]
     obtain ⟨a1,a2,a3,_,a4⟩:=QCw hap hok hG h1 h
     split
     · rename_i q
       have:=qf m a1 (a2 q)
       exact ⟨this.1,this.2.1,this.2.2.trans a4⟩
     · exact ⟨a1,a3,a4⟩
include hap hok in
theorem QEz {g:Gor} (hG:GorP p g) (h1:g.status=1∨g.status=5) (fuel:Int):GorP p (Yb apply p g fuel)∧(Yb apply p g fuel).status≠2∧(Yb apply p g fuel).func=g.func:=by
 have hX:GorP p { g with status:=1 }:=by
  refine ⟨⟨by show (1:Int)≤1;decide,by show (1:Int)≤5;decide⟩,⟨hG.inn.f0,hG.inn.f1,hG.inn.p0,hG.inn.p1,hG.inn.regs⟩,fun k hk h8=>hG.zero k ?_ h8,fun q=>absurd (show (1:Int)=4 from q) (by decide),fun _=>hG.why (by omega),fun q=>absurd (show (1:Int)=3 from q) (by decide),fun q=>absurd (show (1:Int)=5 from q) (by decide)⟩
  have e1:Ub p g=(p.fn g.func).regs:=if_neg (by omega)
  rw [e1];exact hk
 exact qf hap hok _ hX rfl
theorem QBE {s:Stt} (hr:QP p=true) (hok:p.Ok) (hv:Vld p s) {g fuel:Int} (hg:0≤g∧g<s.count) (hf:0≤fuel∧fuel≤4096) :
 (Qd apply p s g fuel).1=if (s.gor g).status=1∨(s.gor g).status=5 then { s with gos:=s.gos.set g.toNat (Yb apply p (s.gor g) fuel) } else s:=by
 have hc:=hv.count
 unfold Qd
 rw [if_neg (by rw [hr];decide),if_neg (by rw [hv.ok hok hr];decide),if_neg (by omega),if_neg (by omega)]
 split<;>rfl
include hap in
theorem xa {s:Stt} (hr:QP p=true) (hok:p.Ok) (hv:Vld p s) {g fuel:Int} (hg:0≤g∧g<s.count) (hf:0≤fuel∧fuel≤4096) :
 Vld p (Qd apply p s g fuel).1:=by
 rw [QBE hr hok hv hg hf]
 split
 · rename_i h
   have hG:=hv.gos g.toNat (by omega)
   have:=QEz hap hok hG h fuel
   exact hv.go (i:=g.toNat) (by omega) this.1 (by have h:(s.gos.getD g.toNat default).status=1∨(s.gos.getD g.toNat default).status=5:=h;omega) this.2.1
 · exact hv
theorem QCZ {s:Stt} (hr:QP p=true) (hok:p.Ok) (hv:Vld p s) {g fuel:Int} (hg:0≤g∧g<s.count) (hf:0≤fuel∧fuel≤4096) :
 (Qd apply p s g fuel).1.vars=s.vars∧(Qd apply p s g fuel).1.owner=s.owner∧(Qd apply p s g fuel).1.chans=s.chans∧(Qd apply p s g fuel).1.count=s.count∧∀ i:Nat,i≠g.toNat→(Qd apply p s g fuel).1.gos.getD i default=s.gos.getD i default:=by
 rw [QBE hr hok hv hg hf]
 split
 · refine ⟨rfl,rfl,rfl,rfl,fun i hi=>?_⟩
   show (s.gos.set _ _).getD i default=_
   rw [QW,if_neg (fun q=>hi q.1.symm)]
 · exact ⟨rfl,rfl,rfl,rfl,fun _ _=>rfl⟩
def QJ3 (d:Did) (g:Int):Stt:={ d.s with gos:=d.s.gos.set g.toNat { d.s.gor g with pc:=d.to_ } }
theorem wX {s:Stt} {g:Int} {d:Did} (hg:0≤g∧g<s.count) (hd:VisOk p s g d) (hw:d.why=0) (ht:0≤d.to_):Vld p (QJ3 d g):=by
 have hv:=hd.vld
 have h1:=(hd.on hw ht).1
 have h2:=(hd.on hw ht).2
 have hc:=hd.cnt
 have hG:=hv.gos g.toNat (by omega)
 refine hv.go (i:=g.toNat) (by omega) (X:={ d.s.gor g with pc:=d.to_ }) ⟨hG.st,⟨hG.inn.f0,hG.inn.f1,ht,?_,hG.inn.regs⟩,hG.zero,fun q=>?_,hG.why,fun q=>?_,fun q=>?_⟩ (by have h1:(d.s.gos.getD g.toNat default).status=1:=h1;omega) (by show (d.s.gor g).status≠2;omega)
 · rw [← hd.func] at h2;exact h2
 · have q:(d.s.gor g).status=4:=q;omega
 · have q:(d.s.gor g).status=3:=q;omega
 · have q:(d.s.gor g).status=5:=q;omega
end
theorem Yp:wu QB:=by
 intro op a b
 unfold QB
 split
 · exact ⟨fun q=>absurd (show (22:Int)=20 from q) (by decide),fun q=>absurd (show (22:Int)=21 from q) (by decide)⟩
 split
 · exact ⟨fun q=>absurd (show (0:Int)=20 from q) (by decide),fun q=>absurd (show (0:Int)=21 from q) (by decide)⟩
 unfold XK
 have no:∀ {x:Int},(x,(0:Int)).2≠20∧(x,(0:Int)).2≠21:=⟨by show (0:Int)≠20;decide,by show (0:Int)≠21;decide⟩
 by_cases h1:op=16
 · rw [if_pos h1];exact ⟨fun q=>absurd q no.1,fun q=>absurd q no.2⟩
 rw [if_neg h1]
 by_cases h2:op=17
 · rw [if_pos h2];exact ⟨fun q=>absurd q no.1,fun q=>absurd q no.2⟩
 rw [if_neg h2]
 by_cases h3:op=18
 · rw [if_pos h3];exact ⟨fun q=>absurd q no.1,fun q=>absurd q no.2⟩
 rw [if_neg h3]
 by_cases h4:op=19∨op=20
 · rw [if_pos h4]
   refine ⟨fun _=>h4,?_⟩
   by_cases q1:b=0
   · rw [if_pos q1];exact fun q=>absurd (show (20:Int)=21 from q) (by decide)
   rw [if_neg q1]
   by_cases q2:b = -1
   · rw [if_pos q2];split<;>exact fun q=>absurd q no.2
   rw [if_neg q2];split<;>exact fun q=>absurd q no.2
 rw [if_neg h4]
 by_cases h5:op=21∨op=22∨op=23∨op=24
 · rw [if_pos h5];exact ⟨fun q=>absurd q no.1,fun q=>absurd q no.2⟩
 rw [if_neg h5]
 by_cases h6:op=25∨op=26∨op=27
 · rw [if_pos h6]
   refine ⟨?_,fun _=>by omega⟩
   by_cases q1:b<0
   · rw [if_pos q1];exact fun q=>absurd (show (21:Int)=20 from q) (by decide)
   rw [if_neg q1]
   split
   · exact fun q=>absurd q no.1
   · split<;>exact fun q=>absurd q no.1
 rw [if_neg h6]
 split<;>exact ⟨fun q=>absurd q no.1,fun q=>absurd q no.2⟩
end Go.Eng
namespace Go.Eng
section
variable (apply:Int→Int→Int→Int × Int) {p:Prg} {g:Gor}
theorem xj (g:Gor):((Qg apply p g).2=true∧(Qg apply p g).1.status=g.status∨(Qg apply p g).2=false∧((Qg apply p g).1.status=3∨(Qg apply p g).1.status=4)):=by
 unfold Qg
 simp only
 repeat' split
 all_goals first|exact .inl ⟨rfl,rfl⟩|exact .inr ⟨rfl,.inl rfl⟩|exact .inr ⟨rfl,.inr rfl⟩
theorem vr (g:Gor):(Qg apply p g).1.func=g.func:=by
 unfold Qg
 simp only
 repeat' split
 all_goals rfl
def onN (p:Prg) (m:Nat) (g:Gor):Gor:=if g.status=1 then Zh apply p m g else g
theorem QIl {m:Nat} (h:g.status=1):onN apply p m g=Zh apply p m g:=if_pos h
theorem QIj {m:Nat} (h1:g.status=1) (hl:Ql (p.instr g).op=true):onN apply p (m+1) g=onN apply p m (Qg apply p g).1:=by
 unfold onN
 rw [if_pos h1,Q5 apply hl]
 rcases xj apply (p:=p) g with ⟨e1,e2⟩|⟨e1,e2⟩
 · rw [e1,if_pos rfl,if_pos (by omega)]
 · rw [e1,if_neg (by simp),if_neg (by omega)]
theorem QIi {m:Nat} (h:Ql (p.instr g).op=false):onN apply p m g=g:=by
 unfold onN
 split
 · exact Y6 apply h
 · rfl
theorem QIk {m:Nat} (h:g.status≠1):onN apply p m g=g:=if_neg h
theorem QIh (h1:g.status=1) (hl:Ql (p.instr g).op=true):onN apply p 0 g=⟨5,g.func,g.pc,g.why,g.regs⟩:=by
 unfold onN;rw [if_pos h1];exact Wq apply hl
end
end Go.Eng
namespace Go.Eng
def ZO (p:Prg) (s:Stt):Int:=if QP p=false then 3 else if Zf p s=false then 4 else 0
def WE (s:Stt) (g:Int):Bool:=decide ((s.gos.getD g.toNat default).status=1)||decide ((s.gos.getD g.toNat default).status=2)
def atI (p:Prg) (s:Stt) (g:Int):Instr:={ QA p s g with op:=QL p s g }
def Xj (s:Stt) (g k:Int):Bool:=decide (0≤k)&&decide (k<s.count)&&!decide (k=g)
def Qi (s:Stt) (n:Nat):List Int:=((List.range n).filter fun (g:Nat)=>WE s (g:Int)).map fun (g:Nat)=>(g:Int)
theorem YP {p:Prg} {s:Stt} (h:ZO p s=0):QP p=true∧Zf p s=true:=by
 unfold ZO at h
 split at h;· cases h
 rename_i h1
 split at h;· cases h
 rename_i h2
 exact ⟨by simpa using h1,by simpa using h2⟩
theorem Zv {p:Prg} {s:Stt} (hv:Vld p s) {g:Int} (h0:0≤g) (h6:g<6) (h:WE s g=true):g<s.count:=by
 by_cases hc:g<s.count
 · exact hc
 · have:=hv.rest g.toNat (by omega) (by omega)
   unfold WE at h
   rw [this] at h
   exact absurd h (by decide)
theorem WF {s:Stt} {g:Int} (h0:0≤g) (hc:g<s.count):ZE s g=WE s g:=by
 unfold ZE WE
 rw [decide_eq_true h0,decide_eq_true hc];rfl
theorem XR {p:Prg} {s:Stt} (hv:Vld p s) {g:Int} (h0:0≤g) (h6:g<6):ZE s g=WE s g:=by
 by_cases hc:g<s.count
 · exact WF h0 hc
 · cases h:WE s g
   · unfold ZE;rw [decide_eq_false hc];simp
   · exact absurd (Zv hv h0 h6 h) hc
theorem qo (s:Stt) (n:Nat):Qi s (n+1)=Qi s n++if WE s (n:Int)=true then [(n:Int)] else []:=by
 unfold Qi
 rw [List.range_succ,List.filter_append,List.map_append]
 congr 1
 simp only [List.filter_cons,List.filter_nil]
 split<;>rfl
theorem yF (s:Stt) (n:Nat):(Qi s n).length≤n:=by
 unfold Qi
 rw [List.length_map]
 exact Nat.le_trans (List.length_filter_le _ _) (by simp)
theorem QIH {p:Prg} {s:Stt} {c:Int} (h:0≤p.chans.getD c.toNat 0):XF p s c=((s.chans.getD c.toNat default).closed||(decide (0<p.chans.getD c.toNat 0)&&decide ((s.chans.getD c.toNat default).len<p.chans.getD c.toNat 0))||(decide (p.chans.getD c.toNat 0=0)&&decide ((s.chans.getD c.toNat default).offer=0))):=by
 show (if (s.chans.getD c.toNat default).closed=true then true else if 0<p.chans.getD c.toNat 0 then decide ((s.chans.getD c.toNat default).len<p.chans.getD c.toNat 0) else decide ((s.chans.getD c.toNat default).offer=0))=_
 cases (s.chans.getD c.toNat default).closed
 · rw [if_neg (by simp)]
   by_cases h2:0<p.chans.getD c.toNat 0
   · rw [if_pos h2,decide_eq_true h2,decide_eq_false (show ¬p.chans.getD c.toNat 0=0 by omega)];simp
   · rw [if_neg h2,decide_eq_false h2,decide_eq_true (show p.chans.getD c.toNat 0=0 by omega)];simp
 · rw [if_pos rfl];simp
section
variable {p:Prg} {s:Stt} {g:Int}
theorem QKf (h:QL p s g=54):plain p s g=decide (s.vars.getD (QA p s g).a.toNat 0=(s.gos.getD g.toNat default).regs.getD (QA p s g).b.toNat 0):=if_pos h
theorem QKe (h:QL p s g=55):plain p s g=decide (s.owner.getD (QA p s g).a.toNat 0=0):=(if_neg (by omega)).trans (if_pos h)
theorem QFw (h:QL p s g=58):plain p s g=XF p s (QA p s g).a:=(if_neg (by omega)).trans ((if_neg (by omega)).trans (if_pos h))
theorem QKd (h:QL p s g=59):plain p s g=WU s (QA p s g).b:=(if_neg (by omega)).trans ((if_neg (by omega)).trans ((if_neg (by omega)).trans (if_pos h)))
theorem QKb (h:QL p s g=66):plain p s g=(decide ((s.chans.getD (QA p s g).a.toNat default).offer=2)||decide ((s.chans.getD (QA p s g).a.toNat default).offer=3)):=(if_neg (by omega)).trans ((if_neg (by omega)).trans ((if_neg (by omega)).trans ((if_neg (by omega)).trans (if_pos h))))
theorem QKc (h:QL p s g=63):plain p s g=(!Xj s g ((s.gos.getD g.toNat default).regs.getD (QA p s g).a.toNat 0)||!WE s ((s.gos.getD g.toNat default).regs.getD (QA p s g).a.toNat 0)):=by
 have e:plain p s g=(decide ((s.gos.getD g.toNat default).regs.getD (QA p s g).a.toNat 0<0)||decide (s.count≤(s.gos.getD g.toNat default).regs.getD (QA p s g).a.toNat 0)||decide ((s.gos.getD g.toNat default).regs.getD (QA p s g).a.toNat 0=g)||!ZE s ((s.gos.getD g.toNat default).regs.getD (QA p s g).a.toNat 0)) :=
  (if_neg (by omega)).trans ((if_neg (by omega)).trans ((if_neg (by omega)).trans ((if_neg (by omega)).trans ((if_neg (by omega)).trans (if_pos h)))))
 rw [e]
 generalize (s.gos.getD g.toNat default).regs.getD (QA p s g).a.toNat 0=k
 unfold Xj
 by_cases h0:0≤k
 · by_cases h1:k<s.count
   · rw [decide_eq_false (show ¬k<0 by omega),decide_eq_false (show ¬s.count≤k by omega),decide_eq_true h0,decide_eq_true h1,WF h0 h1];cases decide (k=g)<;>rfl
   · rw [decide_eq_true (show s.count≤k by omega),decide_eq_false h1];simp
 · rw [decide_eq_true (show k<0 by omega),decide_eq_false h0];simp
theorem QE3 (h:QL p s g≠54∧QL p s g≠55∧QL p s g≠58∧QL p s g≠59∧QL p s g≠66∧QL p s g≠63):plain p s g=decide (50≤QL p s g) :=
 (if_neg h.1).trans ((if_neg h.2.1).trans ((if_neg h.2.2.1).trans ((if_neg h.2.2.2.1).trans ((if_neg h.2.2.2.2.1).trans (if_neg h.2.2.2.2.2)))))
end
end Go.Eng
namespace Go.Eng
theorem VO {l:List Int} {j:Nat} (h:j<l.length):l.take (j+1)=l.take j++[l.getD j 0]:=by
 rw [List.take_succ_eq_append_getElem h];simp [List.getD_eq_getElem?_getD,h]
def xe (p:Prg) (s:Stt) (l:List Int):List Pck:=l.flatMap fun g=>(Qj p s g).map fun a=>⟨g,a⟩
theorem QBJ (p:Prg) (s:Stt) (l:List Int) (g:Int):xe p s (l++[g])=xe p s l++(Qj p s g).map fun a=>⟨g,a⟩:=by
 unfold xe
 rw [List.flatMap_append]
 simp
theorem WB {p:Prg} {s:Stt} (hok:p.Ok) (hw:Wf p s) (g:Int):(Qj p s g).length≤5:=by
 unfold Qj
 split
 · rename_i hl
   have hl:=live_iff.1 hl
   split
   · rename_i hop
     have hgi:=hw.gos g hl.1.1 hl.1.2
     have hI:=V0 (hw.right hok hl.1.1 hl.1.2) (hw.op_at hok hl.1.1 hl.1.2 hop (by decide))
     have hsh:=hok.short (s.gos.getD g.toNat default).func.toNat (UZ p s g).a.toNat (by omega)
     have h4:(Qx p s g).cases.length≤4:=hsh.2
     have:=WI p s (Qx p s g) (Qx p s g).cases.length
     simp only
     split
     · rw [List.length_append];simp;omega
     · omega
   · split<;>simp
 · simp
theorem QDx {p:Prg} {s:Stt} (hok:p.Ok) (hw:Wf p s):∀ l:List Int,(xe p s l).length≤5*l.length
 | []=>by simp [xe]
 | g::l=>by
   have h1:=QDx hok hw l
   have h2:=WB hok hw g
   have:xe p s (g::l)=((Qj p s g).map fun a=>(⟨g,a⟩:Pck))++xe p s l:=rfl
   rw [this,List.length_append,List.length_map,List.length_cons]
   omega
theorem QFE {s:Stt} {n:Nat} {g:Int} (h:g∈Qi s n):(0≤g∧g<n)∧WE s g=true:=by
 unfold Qi at h
 obtain ⟨k,hk,rfl⟩:=List.mem_map.1 h
 obtain ⟨h1,h2⟩:=List.mem_filter.1 hk
 have:=List.mem_range.1 h1
 exact ⟨by omega,h2⟩
theorem QBc {p:Prg} {s:Stt} (hv:Vld p s) {k:Nat} (hk:k<(Qi s 6).length):(0≤(Qi s 6).getD k 0∧(Qi s 6).getD k 0<s.count)∧ZE s ((Qi s 6).getD k 0)=true:=by
 have hm:(Qi s 6).getD k 0∈Qi s 6:=by rw [List.getD_eq_getElem?_getD,List.getElem?_eq_getElem hk];exact List.getElem_mem hk
 obtain ⟨h1,h2⟩:=QFE hm
 have h3:=Zv hv h1.1 h1.2 h2
 exact ⟨⟨h1.1,h3⟩,(WF h1.1 h3).trans h2⟩
theorem QCB {p:Prg} {s:Stt} {g:Int} (h:ZE s g=false):Qj p s g=[]:=if_neg (by rw [h];simp)
theorem QCg {p:Prg} {s:Stt} {n:Nat} (h:s.count≤n):XG p s n=ready p s:=by
 unfold ready XG
 obtain ⟨k,rfl⟩:∃ k,n=s.count.toNat+k:=⟨n-s.count.toNat,by omega⟩
 rw [List.range_add,List.flatMap_append]
 have:(List.map (fun x=>s.count.toNat+x) (List.range k)).flatMap (fun (g:Nat)=>(Qj p s g).map fun a=>(⟨g,a⟩:Pck))=[]:=by
  rw [List.flatMap_eq_nil_iff]
  intro x hx
  obtain ⟨y,hy,rfl⟩:=List.mem_map.1 hx
  rw [QCB]
  · rfl
  · unfold ZE
    rw [decide_eq_false (show ¬((s.count.toNat+y:Nat):Int)<s.count by omega)];simp
 rw [this,List.append_nil]
theorem QFu {p:Prg} {s:Stt} (hv:Vld p s):∀ n:Nat,n≤6→xe p s (Qi s n)=XG p s n
 | 0,_=>rfl
 | n+1,hn=>by
   rw [qo,Uw,← QFu hv n (by omega)]
   split
   · rw [QBJ]
   · rename_i h
     have:ZE s (n:Int)=false:=by rw [XR hv (by omega) (by omega)];simpa using h
     rw [QCB this];simp
theorem QG0 {p:Prg} {s:Stt} (hv:Vld p s):xe p s (Qi s 6)=ready p s:=by
 rw [QFu hv 6 (by omega)]
 exact QCg (by have:=hv.count;omega)
def Yc (p:Prg) (s:Stt) (l:List Int):List Int:=l.filter fun g=>!decide (0<(Qj p s g).length)
end Go.Eng
namespace Go.Eng
theorem Wu (k n:Int) (w:Bool):∀ l:List Access,(add k n w l).length≤l.length+1
 | []=>by simp [add]
 | x::l=>by
   unfold add
   split
   · simp
   · split
     · simp
     · have:=Wu k n w l
       simp only [List.length_cons];omega
theorem Access.put2 (x:Access) (b:Bool):V.setSub x.v 2 (.bool b)=Access.v ⟨x.kind,x.num,b⟩:=rfl
theorem Event.put6 (e:Event) (x:Int):V.setSub e.v 6 (.int x)=Event.v ⟨e.go,e.func,e.pc,e.op,e.alt,e.val,x,e.touch,e.touches⟩:=rfl
theorem Event.put7 (e:Event) (x:List Access):V.setSub e.v 7 (.agg (x.map Access.v))=Event.v ⟨e.go,e.func,e.pc,e.op,e.alt,e.val,e.tag,x,e.touches⟩:=rfl
theorem Event.put8 (e:Event) (x:Int):V.setSub e.v 8 (.int x)=Event.v ⟨e.go,e.func,e.pc,e.op,e.alt,e.val,e.tag,e.touch,x⟩:=rfl
theorem Event.put0 (e:Event) (x:Int):V.setSub e.v 0 (.int x)=Event.v ⟨x,e.func,e.pc,e.op,e.alt,e.val,e.tag,e.touch,e.touches⟩:=rfl
theorem Event.put1 (e:Event) (x:Int):V.setSub e.v 1 (.int x)=Event.v ⟨e.go,x,e.pc,e.op,e.alt,e.val,e.tag,e.touch,e.touches⟩:=rfl
theorem Event.put2 (e:Event) (x:Int):V.setSub e.v 2 (.int x)=Event.v ⟨e.go,e.func,x,e.op,e.alt,e.val,e.tag,e.touch,e.touches⟩:=rfl
theorem Event.put3 (e:Event) (x:Int):V.setSub e.v 3 (.int x)=Event.v ⟨e.go,e.func,e.pc,x,e.alt,e.val,e.tag,e.touch,e.touches⟩:=rfl
theorem Event.put4 (e:Event) (x:Int):V.setSub e.v 4 (.int x)=Event.v ⟨e.go,e.func,e.pc,e.op,x,e.val,e.tag,e.touch,e.touches⟩:=rfl
theorem Event.put5 (e:Event) (x:Int):V.setSub e.v 5 (.int x)=Event.v ⟨e.go,e.func,e.pc,e.op,e.alt,x,e.tag,e.touch,e.touches⟩:=rfl
theorem Event.at3 (e:Event) (d:V):e.v.toList.getD 3 d=.int e.op:=rfl
theorem vN (l:List Access) (i:Nat) (x:Access):(l.map Access.v).set i x.v=(l.set i x).map Access.v:=(List.map_set ..).symm
attribute [go_sem] Access.put2 Event.put0 Event.put1 Event.put2 Event.put3 Event.put4 Event.put5 Event.put6 Event.put7 Event.put8 Event.at3 vN
end Go.Eng
namespace Go.Eng
def Uh (a b:Access):Prop:=a.kind<b.kind∨a.kind=b.kind∧a.num<b.num
theorem QAY (k n:Int) (w:Bool):∀ {l:List Access} {y:Access},y∈add k n w l→(∃ x∈l,x.kind=y.kind∧x.num=y.num)∨(y.kind=k∧y.num=n)
 | [],y,h=>by
   simp only [add,List.mem_cons,List.not_mem_nil,or_false] at h
   subst h;exact .inr ⟨rfl,rfl⟩
 | x::l,y,h=>by
   unfold add at h
   split at h
   · rcases List.mem_cons.1 h with rfl|h
     · exact .inl ⟨x,by simp,rfl,rfl⟩
     · exact .inl ⟨y,by simp [h],rfl,rfl⟩
   · split at h
     · rcases List.mem_cons.1 h with rfl|h
       · exact .inr ⟨rfl,rfl⟩
       · exact .inl ⟨y,h,rfl,rfl⟩
     · rcases List.mem_cons.1 h with rfl|h
       · exact .inl ⟨y,by simp,rfl,rfl⟩
       · rcases QAY k n w h with ⟨x',hx,e⟩|e
         · exact .inl ⟨x',by simp [hx],e⟩
         · exact .inr e
theorem yO (k n:Int) (w:Bool):∀ {l:List Access},l.Pairwise Uh→(add k n w l).Pairwise Uh
 | [],_=>by simp [add]
 | x::l,h=>by
   obtain ⟨h1,h2⟩:=List.pairwise_cons.1 h
   unfold add
   split
   · exact List.pairwise_cons.2 ⟨fun y hy=>by have:=h1 y hy;unfold Uh at this ⊢;exact this,h2⟩
   · rename_i hne
     split
     · rename_i hlt
       refine List.pairwise_cons.2 ⟨fun y hy=>?_,h⟩
       rcases List.mem_cons.1 hy with rfl|hy
       · unfold Uh;simp only;omega
       · have:=h1 y hy;unfold Uh at this ⊢;simp only;omega
     · rename_i hnl
       refine List.pairwise_cons.2 ⟨fun y hy=>?_,yO k n w h2⟩
       rcases QAY k n w hy with ⟨x',hx,e1,e2⟩|⟨e1,e2⟩
       · have:=h1 x' hx;unfold Uh at this ⊢;omega
       · unfold Uh;omega
theorem QGY (k n:Int) (w:Bool) {g:Int}:∀ {l:List Access},(⟨5,g,true⟩:Access)∈l→(⟨5,g,true⟩:Access)∈add k n w l
 | [],h=>by simp at h
 | x::l,h=>by
   unfold add
   split
   · rcases List.mem_cons.1 h with h|h
     · rw [← h];simp
     · simp [h]
   · split
     · simp only [List.mem_cons] at h ⊢;exact .inr h
     · rcases List.mem_cons.1 h with h|h
       · rw [← h];simp
       · exact List.mem_cons.2 (.inr (QGY k n w h))
structure TouchP (g:Int) (l:List Access):Prop where
 sorted:l.Pairwise Uh
 num:∀ a∈l,0≤a.num∧a.num<QAr a.kind
 own:(⟨5,g,true⟩:Access)∈l
theorem TouchP.add {g:Int} {l:List Access} (h:TouchP g l) {k n:Int} (hn:0≤n∧n<QAr k) (w:Bool):TouchP g (add k n w l) :=
 ⟨yO k n w h.sorted,fun a ha=>by
   rcases QAY k n w ha with ⟨x,hx,e1,e2⟩|⟨e1,e2⟩
   · rw [← e1,← e2];exact h.num x hx
   · rw [e1,e2];exact hn,QGY k n w h.own⟩
theorem TouchP.base {g:Int} (hg:0≤g∧g<6):TouchP g [⟨5,g,true⟩]:=⟨by simp,by intro a ha;simp at ha;subst ha;exact hg,by simp⟩
theorem TouchP.chans {g:Int} (q:Sel):∀ (n:Nat) {l:List Access},TouchP g l→(∀ i,i<q.cases.length→0≤(q.cases.getD i default).chan∧(q.cases.getD i default).chan<4)→TouchP g (Qf q n l)
 | 0,l,h,_=>by simpa [Qf] using h
 | n+1,l,h,hc=>by
   by_cases hn:n<q.cases.length
   · unfold Qf
     rw [List.take_succ_eq_append_getElem hn,List.foldl_append]
     have:=hc n hn
     rw [List.getD_eq_getElem?_getD,List.getElem?_eq_getElem hn] at this
     exact (TouchP.chans q n h hc).add (k:=3) this true
   · have:=TouchP.chans q n h hc
     unfold Qf at this ⊢
     rw [List.take_of_length_le (by omega)] at this ⊢
     exact this
theorem UL (q:Sel) (l:List Access):∀ j:Nat,(Qf q j l).length≤l.length+j
 | 0=>by simp [Qf]
 | j+1=>by
   by_cases h:j<q.cases.length
   · unfold Qf
     rw [List.take_succ_eq_append_getElem h,List.foldl_append]
     have h1:=Wu 3 q.cases[j].chan true (Qf q j l)
     have h2:=UL q l j
     show (add 3 q.cases[j].chan true (Qf q j l)).length≤_
     omega
   · have e:Qf q (j+1) l=Qf q j l:=by unfold Qf;rw [List.take_of_length_le (by omega),List.take_of_length_le (by omega)]
     rw [e]
     have:=UL q l j
     omega
theorem WW {g:Int} {c:Prop} [Decidable c] {a b:List Access} (h1:c→TouchP g a∧1≤a.length∧a.length≤6) (h2:¬c→TouchP g b∧1≤b.length∧b.length≤6):TouchP g (if c then a else b)∧1≤(if c then a else b).length∧(if c then a else b).length≤6:=by
 by_cases h:c
 · rw [if_pos h];exact h1 h
 · rw [if_neg h];exact h2 h
theorem QH5 {p:Prg} (hok:p.Ok) {s:Stt} (hw:Wf p s) {g:Int} (hg:0≤g∧g<s.count):TouchP g (touch p s g)∧1≤(touch p s g).length∧(touch p s g).length≤6:=by
 have hc:=hw.count
 have hgi:=hw.gos g hg.1 hg.2
 have hrt:QV p (p.funcs.getD (s.gos.getD g.toNat default).func.toNat default) (QA p s g)=0:=hw.right hok hg.1 hg.2
 have hsz:=hok.sizes
 unfold Ze at hsz
 have hB:TouchP g [⟨5,g,true⟩]:=TouchP.base ⟨hg.1,by omega⟩
 have hl1:([⟨5,g,true⟩]:List Access).length=1:=rfl
 have pos:∀ {l:List Access},TouchP g l→1≤l.length:=fun h=>List.length_pos_of_mem h.own
 have fin:∀ {l:List Access},TouchP g l→l.length≤6→TouchP g l∧1≤l.length∧l.length≤6:=fun h h2=>⟨h,pos h,h2⟩
 have one:∀ (k n:Int) (w:Bool),0≤n∧n<QAr k→TouchP g (add k n w [⟨5,g,true⟩])∧1≤(add k n w [⟨5,g,true⟩]).length∧(add k n w [⟨5,g,true⟩]).length≤6:=by
  intro k n w h
  exact fin (hB.add h w) (by have:=Wu k n w [⟨5,g,true⟩];omega)
 have opc:∀ {k:Int},QL p s g=k→k≠66→(QA p s g).op=k:=fun h hk=>hw.op_at hok hg.1 hg.2 h hk
 have m1:QAr 1=8:=rfl
 have m2:QAr 2=4:=rfl
 have m3:QAr 3=4:=rfl
 have m4:QAr 4=1:=rfl
 have m5:QAr 5=6:=rfl
 have m6:QAr 6=1:=rfl
 unfold touch
 refine WW (fun h=>?_) (fun _=>?_)
 · have hI:=QDZ hrt (opc h (by decide));exact one 1 _ _ (by omega)
 refine WW (fun h=>?_) (fun _=>?_)
 · have hI:=QA5 hrt (opc h (by decide));exact one 1 _ _ (by omega)
 refine WW (fun h=>?_) (fun _=>?_)
 · have hI:=QDY hrt (opc h (by decide));exact one 1 _ _ (by omega)
 refine WW (fun h=>?_) (fun _=>?_)
 · rcases h with h|h
   · have hI:=QDX hrt (opc h (by decide));exact one 1 _ _ (by omega)
   · have hI:=QDW hrt (opc h (by decide));exact one 1 _ _ (by omega)
 refine WW (fun h=>?_) (fun _=>?_)
 · have hI:=qY hrt (by rcases h with h|h;exact .inl (opc h (by decide));exact .inr (opc h (by decide)))
   exact one 2 _ _ (by omega)
 refine WW (fun h=>?_) (fun _=>?_)
 · have hI:=QDV hrt (opc h (by decide));exact one 2 _ _ (by omega)
 refine WW (fun h=>?_) (fun _=>?_)
 · rcases h with h|h|h
   · have hI:=VU hrt (opc h (by decide));exact one 3 _ _ (by omega)
   · have hI:=QDU hrt (opc h (by decide));exact one 3 _ _ (by omega)
   · have hI:=VU hrt (hw.op66 hok hg.1 hg.2 h);exact one 3 _ _ (by omega)
 refine WW (fun h=>?_) (fun _=>?_)
 · have hI:=yU hrt (opc h (by decide));exact one 3 _ _ (by omega)
 refine WW (fun h=>?_) (fun _=>?_)
 · have hI:=V0 hrt (opc h (by decide))
   have hsh:=hok.short (s.gos.getD g.toNat default).func.toNat (QA p s g).a.toNat (by omega)
   have hq:(Qx p s g).cases.length≤4:=hsh.2
   refine fin (hB.chans _ _ fun i hi=>?_) (by have:=UL (Qx p s g) [⟨5,g,true⟩] (Qx p s g).cases.length;omega)
   have hC:=(UC hok (i:=(s.gos.getD g.toNat default).func.toNat) (j:=(QA p s g).a.toNat) (k:=i) (by have:=hgi.f0;have:=hgi.f1;omega) (by omega) hi).chan
   have e:((p.funcs.getD (s.gos.getD g.toNat default).func.toNat default).sels.getD (QA p s g).a.toNat default).cases.getD i default=(Qx p s g).cases.getD i default:=rfl
   rw [e] at hC
   omega
 refine WW (fun h=>?_) (fun _=>?_)
 · have h4:=hB.add (k:=4) (n:=0) (by omega) true
   have l4:=Wu 4 0 true [⟨5,g,true⟩]
   refine WW (fun _=>?_) (fun _=>?_)
   · exact fin (h4.add (k:=5) (n:=s.count) (by omega) true) (by have:=Wu 5 s.count true (add 4 0 true [⟨5,g,true⟩]);omega)
   · exact fin h4 (by omega)
 refine WW (fun h=>?_) (fun _=>?_)
 · have h4:=hB.add (k:=4) (n:=0) (by omega) false
   have l4:=Wu 4 0 false [⟨5,g,true⟩]
   refine WW (fun q=>?_) (fun _=>?_)
   · have q:0≤(s.gor g).reg (QA p s g).a∧(s.gor g).reg (QA p s g).a<s.count:=q
     exact fin (h4.add (k:=5) (by omega) false) (by have:=Wu 5 ((s.gor g).reg (QA p s g).a) false (add 4 0 false [⟨5,g,true⟩]);omega)
   · exact fin h4 (by omega)
 exact WW (fun h=>one 6 _ _ (by omega)) (fun _=>fin hB (by omega))
end Go.Eng
namespace Go.Eng
def Xm (a:Access):Int:=a.kind*1000+a.num
def Wc (a:Access):Prop:=(0≤a.kind∧a.kind≤100)∧0≤a.num∧a.num<1000
theorem QIF {a b:Access} (ha:Wc a) (hb:Wc b):Xm a<Xm b↔Uh a b:=by
 unfold Wc at ha hb;unfold Xm Uh;omega
theorem QIG {a b:Access} (ha:Wc a) (hb:Wc b):Xm a=Xm b↔a.kind=b.kind∧a.num=b.num:=by
 unfold Wc at ha hb;unfold Xm;omega
def Yz (l:List Access) (k:Nat):Access:=l.getD k default
def VS:List Access→List Access
 | a::b::l=>if a=b then VS (b::l) else a::VS (b::l)
 | l=>l
theorem cpt_mem:∀ {l:List Access} {x:Access},x∈VS l↔x∈l
 | [],_=>Iff.rfl
 | [_],_=>Iff.rfl
 | a::b::l,x=>by
   unfold VS
   split
   · rename_i h
     rw [cpt_mem,← h];simp
   · rw [List.mem_cons,cpt_mem,← List.mem_cons]
theorem QES:∀ {l:List Access} {a:Access},l≠[]→VS (l++[a])=if l.getLast?=some a then VS l else VS l++[a]
 | [],_,h=>absurd rfl h
 | [x],a,_=>by
   simp only [List.cons_append,List.nil_append,List.getLast?_singleton,Option.some.injEq]
   unfold VS
   split
   · rename_i h;subst h;rfl
   · rfl
 | x::y::l,a,_=>by
   have ih:=QES (l:=y::l) (a:=a) (by simp)
   rw [List.getLast?_cons_cons]
   show VS (x::y::(l++[a]))=_
   have e1:VS (x::y::(l++[a]))=if x=y then VS (y::(l++[a])) else x::VS (y::(l++[a])):=by rw [VS]
   have e2:VS (x::y::l)=if x=y then VS (y::l) else x::VS (y::l):=by rw [VS]
   rw [e1,e2]
   rw [show y::(l++[a])=y::l++[a] from rfl,ih]
   split<;>split<;>rfl
theorem QHK {l:List Access} {k:Nat} (h0:0<k) (h:k≤l.length):(l.take k).getLast?=some (Yz l (k-1)):=by
 rw [List.getLast?_take,if_neg (by omega)]
 unfold Yz
 rw [List.getD_eq_getElem?_getD,List.getElem?_eq_getElem (by omega)];rfl
theorem vA {l:List Access} {k:Nat} (h:k<l.length):l.take (k+1)=l.take k++[Yz l k]:=by
 unfold Yz
 rw [List.take_succ_eq_append_getElem h];simp [List.getD_eq_getElem?_getD,h]
theorem xD {l:List Access} {k:Nat} (h0:0<k) (h:k<l.length):VS (l.take (k+1))=if Yz l k=Yz l (k-1) then VS (l.take k) else VS (l.take k)++[Yz l k]:=by
 rw [vA h,QES (by intro e;have:=congrArg List.length e;rw [List.length_take,List.length_nil] at this;omega),QHK h0 (by omega)]
 simp only [Option.some.injEq]
 by_cases e:Yz l k=Yz l (k-1)
 · rw [if_pos e.symm,if_pos e]
 · rw [if_neg (fun q=>e q.symm),if_neg e]
theorem vF:∀ {a b:List Access},a.Pairwise Uh→b.Pairwise Uh→(∀ x,x∈a↔x∈b)→a=b
 | [],[],_,_,_=>rfl
 | [],y::b,_,_,h=>absurd ((h y).2 (by simp)) (by simp)
 | x::a,[],_,_,h=>absurd ((h x).1 (by simp)) (by simp)
 | x::a,y::b,ha,hb,h=>by
   obtain ⟨a1,a2⟩:=List.pairwise_cons.1 ha
   obtain ⟨b1,b2⟩:=List.pairwise_cons.1 hb
   have irr:∀ z:Access,¬Uh z z:=fun z q=>by unfold Uh at q;omega
   have asy:∀ z u:Access,Uh z u→Uh u z→False:=fun z u q r=>by unfold Uh at q r;omega
   have e:x=y:=by
    rcases List.mem_cons.1 ((h x).1 (by simp)) with e|e
    · exact e
    · rcases List.mem_cons.1 ((h y).2 (by simp)) with f|f
      · exact f.symm
      · exact (asy _ _ (b1 x e) (a1 y f)).elim
   subst e
   rw [vF a2 b2 fun z=>⟨fun hz=>?_,fun hz=>?_⟩]
   · rcases List.mem_cons.1 ((h z).1 (List.mem_cons_of_mem _ hz)) with e|e
     · subst e;exact (irr _ (a1 _ hz)).elim
     · exact e
   · rcases List.mem_cons.1 ((h z).2 (List.mem_cons_of_mem _ hz)) with e|e
     · subst e;exact (irr _ (b1 _ hz)).elim
     · exact e
def SameKey (l:List Access):Prop:=∀ a∈l,∀ b∈l,a.kind=b.kind→a.num=b.num→a=b
theorem QAI:∀ {l:List Access},(∀ a∈l,Wc a)→SameKey l→l.Pairwise (fun a b=>Xm a≤Xm b)→(VS l).Pairwise Uh
 | [],_,_,_=>by simp [VS]
 | [_],_,_,_=>by simp [VS]
 | a::b::l,hs,hk,hp=>by
   obtain ⟨h1,h2⟩:=List.pairwise_cons.1 hp
   have ih:=QAI (l:=b::l) (fun x hx=>hs x (List.mem_cons_of_mem _ hx)) (fun x hx y hy=>hk x (List.mem_cons_of_mem _ hx) y (List.mem_cons_of_mem _ hy)) h2
   unfold VS
   split
   · exact ih
   · rename_i hne
     refine List.pairwise_cons.2 ⟨fun x hx=>?_,ih⟩
     have hx:=cpt_mem.1 hx
     have sa:=hs a (by simp)
     have sb:=hs b (by simp)
     have sx:=hs x (List.mem_cons_of_mem _ hx)
     rw [← QIF sa sx]
     have l1:=h1 b (by simp)
     have lt:Xm a<Xm b:=by
      rcases Int.lt_or_eq_of_le l1 with h|h
      · exact h
      · obtain ⟨e1,e2⟩:=(QIG sa sb).1 h
        exact absurd (hk a (by simp) b (by simp) e1 e2) hne
     rcases List.mem_cons.1 hx with e|e
     · rw [e];exact lt
     · have:=(List.pairwise_cons.1 h2).1 x e
       omega
def Zp (l Yz:List Access):List Access:=l.foldl (fun m a=>add a.kind a.num a.write m) Yz
theorem xN {k n:Int} {w:Bool}:∀ {l:List Access},(∀ a∈l,a.kind=k→a.num=n→a.write=w)→∀ x,x∈add k n w l↔x=⟨k,n,w⟩∨x∈l
 | [],_,x=>by simp [add]
 | y::l,h,x=>by
   unfold add
   split
   · rename_i hk
     have hw:=h y (by simp) hk.1 hk.2
     have:(⟨y.kind,y.num,y.write||w⟩:Access)=y:=by rw [hw,Bool.or_self,← hw]
     have e2:(⟨k,n,w⟩:Access)=y:=by rw [← hk.1,← hk.2,← hw]
     rw [this,e2,List.mem_cons]
     constructor
     · exact .inr
     · rintro (e|e)
       · exact .inl e
       · exact e
   · split
     · rw [List.mem_cons]
     · rw [List.mem_cons,xN (fun a ha=>h a (List.mem_cons_of_mem _ ha)),List.mem_cons]
       constructor
       · rintro (e|e|e)
         · exact .inr (.inl e)
         · exact .inl e
         · exact .inr (.inr e)
       · rintro (e|e|e)
         · exact .inr (.inl e)
         · exact .inl e
         · exact .inr (.inr e)
theorem QAb:∀ {l m:List Access},SameKey (l++m)→∀ x,x∈Zp l m↔x∈l++m
 | [],m,_,x=>Iff.rfl
 | a::l,m,hk,x=>by
   have e:Zp (a::l) m=Zp l (add a.kind a.num a.write m):=rfl
   have ha:∀ x,x∈add a.kind a.num a.write m↔x=a∨x∈m:=xN fun b hb h1 h2=>by
    have:=hk b (by simp [hb]) a (by simp) h1 h2
    rw [this]
   have h2:∀ x,x∈l++add a.kind a.num a.write m↔x∈a::l++m:=fun x=>by
    rw [List.mem_append,ha,List.cons_append,List.mem_cons,List.mem_append]
    constructor
    · rintro (h|h|h)
      · exact .inr (.inl h)
      · exact .inl h
      · exact .inr (.inr h)
    · rintro (h|h|h)
      · exact .inr (.inl h)
      · exact .inl h
      · exact .inr (.inr h)
   rw [e,QAb (fun u hu v hv=>hk u ((h2 u).1 hu) v ((h2 v).1 hv)),h2]
theorem zr:∀ {l m:List Access},m.Pairwise Uh→(Zp l m).Pairwise Uh
 | [],_,h=>h
 | a::l,m,h=>zr (l:=l) (yO a.kind a.num a.write h)
theorem QIE {l R:List Access} (hs:∀ a∈l,Wc a) (hk:SameKey l) (hp:R.Perm l) (ho:R.Pairwise (fun a b=>Xm a≤Xm b)):VS R=Zp l []:=by
 refine vF (QAI (fun a ha=>hs a (hp.mem_iff.1 ha)) (fun a ha b hb=>hk a (hp.mem_iff.1 ha) b (hp.mem_iff.1 hb)) ho) (zr List.Pairwise.nil) fun x=>?_
 rw [cpt_mem,hp.mem_iff,QAb (by rw [List.append_nil];exact hk),List.append_nil]
end Go.Eng
namespace Go.Eng
def QLV (a b:Access):Int:=if a.kind=b.kind then a.num-b.num else a.kind-b.kind
theorem QGa {a b:Access} (ha:Wc a) (hb:Wc b):QLV a b<0↔Xm a<Xm b:=by
 unfold Wc at ha hb;unfold Xm QLV;split<;>omega
def swp (R:List Access) (j:Nat):List Access:=(R.set j (Yz R (j-1))).set (j-1) (Yz R j)
theorem QKS (R:List Access) (j:Nat):(swp R j).length=R.length:=by simp [swp]
theorem QAc {R:List Access} {j:Nat} (h:j<R.length):Yz R j=R[j]:=by simp [Yz,List.getD_eq_getElem?_getD,h]
theorem QH9 {R:List Access} {j:Nat} (h0:0<j) (h:j<R.length):(swp R j).Perm R:=by
 have:=List.set_set_perm h (show j-1<R.length by omega)
 unfold swp
 rw [QAc h,QAc (show j-1<R.length by omega)]
 exact this
theorem QIA {R:List Access} {j k:Nat} (h0:0<j) (h:j<R.length):Yz (swp R j) k=if k=j then Yz R (j-1) else if k=j-1 then Yz R j else Yz R k:=by
 unfold swp
 unfold Yz
 rw [List.getD_eq_getElem?_getD,List.getElem?_set]
 by_cases h1:j-1=k
 · subst h1
   rw [if_pos rfl,if_pos (by simp;omega),if_neg (by omega),if_pos rfl];rfl
 · rw [if_neg h1,List.getElem?_set]
   by_cases h2:j=k
   · subst h2
     rw [if_pos rfl,if_pos h,if_pos rfl];rfl
   · rw [if_neg h2,if_neg (fun q=>h2 q.symm),if_neg (fun q=>h1 q.symm),← List.getD_eq_getElem?_getD]
structure SInvO (l R:List Access) (i:Nat):Prop where
 len:R.length=l.length
 perm:R.Perm l
 ord:∀ x y,x<y→y<i→Xm (Yz R x)≤Xm (Yz R y)
structure SInvI (l R:List Access) (i j:Nat):Prop where
 len:R.length=l.length
 perm:R.Perm l
 le:j≤i
 lt:i<l.length
 ord:∀ x y,x<y→y≤i→y≠j→Xm (Yz R x)≤Xm (Yz R y)
theorem SInvO.inner {l R:List Access} {i:Nat} (h:SInvO l R i) (hi:i<l.length):SInvI l R i i :=
 ⟨h.len,h.perm,Nat.le_refl _,hi,fun x y h1 h2 h3=>h.ord x y h1 (by omega)⟩
theorem SInvI.swap {l R:List Access} {i j:Nat} (h:SInvI l R i j) (h0:0<j) (hlt:Xm (Yz R j)<Xm (Yz R (j-1))):SInvI l (swp R j) i (j-1):=by
 have hl:=h.len
 have hle:=h.le
 have hli:=h.lt
 refine ⟨by rw [QKS];exact hl,(QH9 h0 (by omega)).trans h.perm,by omega,hli,fun x y h1 h2 h3=>?_⟩
 rw [QIA h0 (by omega),QIA h0 (by omega)]
 by_cases y1:y=j
 · subst y1
   rw [if_pos rfl,if_neg (by omega)]
   by_cases x1:x=y-1
   · rw [if_pos x1];omega
   · rw [if_neg x1];exact h.ord x (y-1) (by omega) (by omega) (by omega)
 · rw [if_neg y1,if_neg h3]
   by_cases x1:x=j
   · rw [if_pos x1];exact h.ord (j-1) y (by omega) h2 (by omega)
   · rw [if_neg x1]
     by_cases x2:x=j-1
     · rw [if_pos x2];exact h.ord j y (by omega) h2 y1
     · rw [if_neg x2];exact h.ord x y h1 h2 y1
theorem SInvI.done {l R:List Access} {i j:Nat} (h:SInvI l R i j) (hd:j=0∨Xm (Yz R (j-1))≤Xm (Yz R j)):SInvO l R (i+1):=by
 refine ⟨h.len,h.perm,fun x y h1 h2=>?_⟩
 by_cases y1:y=j
 · subst y1
   rcases hd with hd|hd
   · omega
   · by_cases x1:x=y-1
     · rw [x1];exact hd
     · have:=h.ord x (y-1) (by omega) (by have:=h.le;omega) (by omega)
       omega
 · exact h.ord x y h1 (by omega) y1
theorem SInvO.sorted {l R:List Access} {i:Nat} (h:SInvO l R i) (hi:l.length≤i):R.Pairwise (fun a b=>Xm a≤Xm b):=by
 rw [List.pairwise_iff_getElem]
 intro x y hx hy hxy
 have:=h.ord x y hxy (by have:=h.len;omega)
 rwa [QAc hx,QAc hy] at this
theorem SInvO.first (l:List Access):SInvO l l 1:=⟨rfl,List.Perm.refl _,fun x y h1 h2=>by omega⟩
theorem SInvI.all {l R:List Access} {i j:Nat} (h:SInvI l R i j) {P:Access→Prop} (hs:∀ a∈l,P a) {k:Nat} (hk:k<l.length):P (Yz R k):=by
 have hk':k<R.length:=by rw [h.len];exact hk
 exact hs _ (h.perm.mem_iff.1 (by rw [QAc hk'];exact List.getElem_mem hk'))
structure CInv (R C:List Access) (k0 k k2:Nat):Prop where
 len:C.length=R.length
 p0:0<k0
 le:k+1≤k0+k2
 p2:1≤k2
 kk:k0≤k
 hi:k0+k2≤R.length
 tk:C.take k=VS (R.take (k0+k2))
 num:k=(VS (R.take (k0+k2))).length
 dr:∀ x,k0+k2-1≤x→Yz C x=Yz R x
theorem CInv.first {R:List Access} {k0:Nat} (h0:0<k0) (hk:k0<R.length) (hc:VS (R.take k0)=R.take k0) (he:Yz R k0=Yz R (k0-1)):CInv R R k0 k0 1:=by
 have e:VS (R.take (k0+1))=R.take k0:=by rw [xD h0 hk,if_pos he,hc]
 exact ⟨rfl,h0,by omega,by omega,by omega,by omega,e.symm,by rw [e,List.length_take];omega,fun x _=>rfl⟩
theorem CInv.next {R C:List Access} {k0 k k2:Nat} (h:CInv R C k0 k k2) (hk:k0+k2<R.length) (he:Yz C (k0+k2)=Yz C (k0+k2-1)):CInv R C k0 k (k2+1):=by
 have:=h.p0
 rw [h.dr _ (by omega),h.dr _ (by omega)] at he
 have e:VS (R.take (k0+(k2+1)))=VS (R.take (k0+k2)):=by
  rw [← Nat.add_assoc,xD (by omega) hk,if_pos he]
 exact ⟨h.len,h.p0,by have:=h.le;omega,by omega,h.kk,by omega,by rw [e];exact h.tk,by rw [e];exact h.num,fun x hx=>h.dr x (by omega)⟩
theorem CInv.put {R C:List Access} {k0 k k2:Nat} (h:CInv R C k0 k k2) (hk:k0+k2<R.length) (he:¬Yz C (k0+k2)=Yz C (k0+k2-1)):CInv R (C.set k (Yz C (k0+k2))) k0 (k+1) (k2+1):=by
 have h1:=h.p0
 have h2:=h.le
 have h3:=h.len
 rw [h.dr _ (by omega),h.dr _ (by omega)] at he
 rw [h.dr (k0+k2) (by omega)]
 have e:VS (R.take (k0+(k2+1)))=VS (R.take (k0+k2))++[Yz R (k0+k2)]:=by
  rw [← Nat.add_assoc,xD (by omega) hk,if_neg he]
 refine ⟨by rw [List.length_set];exact h3,h1,by omega,by omega,by have:=h.kk;omega,by omega,?_,by rw [e,List.length_append,← h.num];rfl,fun x hx=>?_⟩
 · rw [e,← h.tk,vA (by rw [List.length_set];omega),List.take_set_of_le (by omega)]
   congr 1
   unfold Yz
   rw [List.getD_eq_getElem?_getD,List.getElem?_set_self (by omega)];rfl
 · unfold Yz
   rw [List.getD_eq_getElem?_getD,List.getElem?_set_ne (by omega),← List.getD_eq_getElem?_getD]
   exact h.dr x (by omega)
def QOU (n:Nat):Int:=if n=0 then 0 else if n=1 then 1 else if n<4 then 2 else 3
end Go.Eng
namespace Go.Eng
def tl0:List Access:=[]
def QX (L:List Access) (k n:Int) (w:Bool):List Access:=L++[⟨k,n,w⟩]
def chs (L:List Access) (q:Sel) (i:Nat):List Access:=L++(q.cases.take i).map fun c=>⟨3,c.chan,true⟩
theorem Z5 (L:List Access) (k n:Int) (w:Bool):(QX L k n w).length=L.length+1:=by simp [QX]
theorem Ya:tl0.length=0:=rfl
theorem QLQ (L:List Access) (q:Sel) (i:Nat) (h:i≤q.cases.length):(chs L q i).length=L.length+i:=by simp [chs,Nat.min_eq_left h]
theorem QJl (L:List Access) (q:Sel) {i:Nat} (h:i<q.cases.length):QX (chs L q i) 3 (q.cases.getD i default).chan true=chs L q (i+1):=by
 unfold QX chs
 rw [List.take_succ_eq_append_getElem h,List.map_append,List.append_assoc]
 simp [List.getD_eq_getElem?_getD,h]
theorem QJk (L:List Access) (q:Sel):chs L q 0=L:=by simp [chs]
def Smalls (l:List Access):Prop:=∀ a∈l,Wc a
theorem Smalls.nil:Smalls tl0:=by intro a h;cases h
theorem Smalls.app {L:List Access} (h:Smalls L) {k n:Int} (w:Bool) (hk:0≤k∧k≤100) (hn:0≤n∧n<1000):Smalls (QX L k n w):=by
 intro a ha
 rcases List.mem_append.1 ha with ha|ha
 · exact h a ha
 · rw [List.mem_singleton.1 ha];exact ⟨hk,hn⟩
theorem Smalls.chs {L:List Access} (h:Smalls L) {q:Sel} (hq:∀ i,i<q.cases.length→0≤(q.cases.getD i default).chan∧(q.cases.getD i default).chan<4) (i:Nat):Smalls (chs L q i):=by
 intro a ha
 rcases List.mem_append.1 ha with ha|ha
 · exact h a ha
 · obtain ⟨c,hc,rfl⟩:=List.mem_map.1 ha
   obtain ⟨j,hj,rfl⟩:=List.mem_iff_getElem.1 (List.mem_of_mem_take hc)
   have:=hq j hj
   rw [List.getD_eq_getElem?_getD,List.getElem?_eq_getElem hj] at this
   simp only [Option.getD_some] at this
   refine ⟨⟨by simp,by simp⟩,this.1,?_⟩
   show q.cases[j].chan<1000
   omega
theorem SameKey.one (g:Int):SameKey (QX tl0 5 g true):=by
 intro a ha b hb _ _
 simp [QX,tl0] at ha hb
 rw [ha,hb]
theorem SameKey.app {L:List Access} (h:SameKey L) {k n:Int} {w:Bool} (hn:∀ a∈L,a.kind=k→a.num=n→a.write=w):SameKey (QX L k n w):=by
 intro a ha b hb h1 h2
 rcases List.mem_append.1 ha with ha|ha
 · rcases List.mem_append.1 hb with hb|hb
   · exact h a ha b hb h1 h2
   · have hb:=List.mem_singleton.1 hb
     subst hb
     have:=hn a ha h1 h2
     obtain ⟨x,y,z⟩:=a
     simp only at h1 h2 this
     rw [h1,h2,this]
 · have ha:=List.mem_singleton.1 ha
   subst ha
   rcases List.mem_append.1 hb with hb|hb
   · have:=hn b hb h1.symm h2.symm
     obtain ⟨x,y,z⟩:=b
     simp only at h1 h2 this
     rw [h1,h2,this]
   · rw [List.mem_singleton.1 hb]
theorem VT {g:Int} {a:Access} (h:a∈QX tl0 5 g true):a=⟨5,g,true⟩:=by simpa [QX,tl0] using h
theorem SameKey.two {g k n:Int} {w:Bool} (h:k≠5):SameKey (QX (QX tl0 5 g true) k n w):=(SameKey.one g).app fun a ha h1 _=>by rw [VT ha] at h1;exact absurd h1.symm h
theorem SameKey.three {g k n m:Int} {w u:Bool} (h:k≠5) (hm:m≠g∨u=true):SameKey (QX (QX (QX tl0 5 g true) k n w) 5 m u):=(SameKey.two h).app fun a ha h1 h2=>by
 rcases List.mem_append.1 ha with ha|ha
 · have ha:=VT ha
   subst ha
   rcases hm with hm|hm
   · exact absurd h2.symm hm
   · rw [hm]
 · rw [List.mem_singleton.1 ha] at h1;exact absurd h1 h
theorem SameKey.chs {g:Int} {q:Sel} (i:Nat):SameKey (chs (QX tl0 5 g true) q i):=by
 intro a ha b hb h1 h2
 have three:∀ c,c∈(q.cases.take i).map (fun c=>(⟨3,c.chan,true⟩:Access))→c.kind=3∧c.write=true:=by
  intro c hc
  obtain ⟨x,_,rfl⟩:=List.mem_map.1 hc
  exact ⟨rfl,rfl⟩
 rcases List.mem_append.1 ha with ha|ha<;>rcases List.mem_append.1 hb with hb|hb
 · rw [VT ha,VT hb]
 · rw [VT ha] at h1;rw [(three b hb).1] at h1;simp at h1
 · rw [VT hb] at h1;rw [(three a ha).1] at h1;simp at h1
 · have e1:=three a ha
   have e2:=three b hb
   obtain ⟨x,y,z⟩:=a
   obtain ⟨x',y',z'⟩:=b
   simp only at h1 h2 e1 e2
   rw [h1,h2,e1.2,e2.2]
theorem Zb (L:List Access) (k n:Int) (w:Bool):Zp (QX L k n w) []=add k n w (Zp L []):=by simp [Zp,QX]
theorem Za (g:Int):Zp (QX tl0 5 g true) []=[⟨5,g,true⟩]:=rfl
theorem QFj (L:List Access) (q:Sel) (i:Nat):Zp (chs L q i) []=Qf q i (Zp L []):=by
 unfold Zp chs Qf
 rw [List.foldl_append,List.foldl_map]
section
variable {p:Prg} {s:Stt} {g:Int}
theorem t50 (h:QL p s g=50):Zp (QX (QX tl0 5 g true) 1 (QA p s g).b false) []=touch p s g:=by rw [Zb,Za];simp [touch,h]
theorem t54 (h:QL p s g=54):Zp (QX (QX tl0 5 g true) 1 (QA p s g).a false) []=touch p s g:=by rw [Zb,Za];simp [touch,h]
theorem t51 (h:QL p s g=51):Zp (QX (QX tl0 5 g true) 1 (QA p s g).a true) []=touch p s g:=by rw [Zb,Za];simp [touch,h]
theorem t52 (h:QL p s g=52∨QL p s g=53):Zp (QX (QX tl0 5 g true) 1 (QA p s g).b true) []=touch p s g:=by rw [Zb,Za];rcases h with h|h<;>simp [touch,h]
theorem t55 (h:QL p s g=55∨QL p s g=56):Zp (QX (QX tl0 5 g true) 2 (QA p s g).a true) []=touch p s g:=by rw [Zb,Za];rcases h with h|h<;>simp [touch,h]
theorem t57 (h:QL p s g=57):Zp (QX (QX tl0 5 g true) 2 (QA p s g).b true) []=touch p s g:=by rw [Zb,Za];simp [touch,h]
theorem t58 (h:QL p s g=58∨QL p s g=60∨QL p s g=66):Zp (QX (QX tl0 5 g true) 3 (QA p s g).a true) []=touch p s g:=by rw [Zb,Za];rcases h with h|h|h<;>simp [touch,h]
theorem t59 (h:QL p s g=59):Zp (QX (QX tl0 5 g true) 3 (QA p s g).b true) []=touch p s g:=by rw [Zb,Za];simp [touch,h]
theorem t61 (h:QL p s g=61):Zp (chs (QX tl0 5 g true) (Qx p s g) (Qx p s g).cases.length) []=touch p s g:=by rw [QFj,Za];simp [touch,h]
theorem t62 (h:QL p s g=62) (hc:s.count<6):Zp (QX (QX (QX tl0 5 g true) 4 0 true) 5 s.count true) []=touch p s g:=by rw [Zb,Zb,Za];simp [touch,h,hc]
theorem QRX (h:QL p s g=62) (hc:¬s.count<6):Zp (QX (QX tl0 5 g true) 4 0 true) []=touch p s g:=by rw [Zb,Za];simp [touch,h,hc]
theorem t63 (h:QL p s g=63) (hc:Xj s g ((s.gor g).reg (QA p s g).a)=true):Zp (QX (QX (QX tl0 5 g true) 4 0 false) 5 ((s.gor g).reg (QA p s g).a) false) []=touch p s g:=by
 unfold Xj at hc
 simp at hc
 rw [Zb,Zb,Za];simp [touch,h,hc]
theorem QRW (h:QL p s g=63) (hc:Xj s g ((s.gor g).reg (QA p s g).a)=false):Zp (QX (QX tl0 5 g true) 4 0 false) []=touch p s g:=by
 unfold Xj at hc
 simp at hc
 rw [Zb,Za]
 have e:touch p s g=if 0≤(s.gor g).reg (QA p s g).a∧(s.gor g).reg (QA p s g).a<s.count then add 5 ((s.gor g).reg (QA p s g).a) false (add 4 0 false [⟨5,g,true⟩]) else add 4 0 false [⟨5,g,true⟩]:=by simp [touch,h]
 rw [e]
 split
 · rename_i h1
   rw [hc h1.1 h1.2]
   simp [add]
 · rfl
theorem t65 (h:QL p s g=65):Zp (QX (QX tl0 5 g true) 6 0 true) []=touch p s g:=by rw [Zb,Za];simp [touch,h]
theorem QNI (h1:¬QL p s g=50) (h2:¬QL p s g=54) (h3:¬QL p s g=51) (h4:¬QL p s g=52) (h5:¬QL p s g=53) (h6:¬QL p s g=55) (h7:¬QL p s g=56) (h8:¬QL p s g=57) (h9:¬QL p s g=58) (h10:¬QL p s g=60) (h11:¬QL p s g=66) (h12:¬QL p s g=59) (h13:¬QL p s g=61) (h14:¬QL p s g=62) (h15:¬QL p s g=63) (h16:¬QL p s g=65):Zp (QX tl0 5 g true) []=touch p s g:=by
 rw [Za];simp [touch,h1,h2,h3,h4,h5,h6,h7,h8,h9,h10,h11,h12,h13,h14,h15,h16]
end
end Go.Eng
namespace Go.Eng
def machV (p:Prg) (s:Stt) (g fuel val:Int) (failed:Bool):V:=.agg [p.v,s.v,.int g,.int fuel,.int val,.bool failed]
section
variable (p:Prg) (s:Stt) (g fuel val:Int) (failed:Bool)
theorem machV.v0 (d:V):(machV p s g fuel val failed).toList.getD 0 d=p.v:=rfl
theorem machV.v1 (d:V):(machV p s g fuel val failed).toList.getD 1 d=s.v:=rfl
theorem machV.v2 (d:V):(machV p s g fuel val failed).toList.getD 2 d=.int g:=rfl
theorem machV.v3 (d:V):(machV p s g fuel val failed).toList.getD 3 d=.int fuel:=rfl
theorem machV.v4 (d:V):(machV p s g fuel val failed).toList.getD 4 d=.int val:=rfl
theorem machV.v5 (d:V):(machV p s g fuel val failed).toList.getD 5 d=.bool failed:=rfl
theorem machV.s1 (x:Stt):(machV p s g fuel val failed).setSub 1 x.v=machV p x g fuel val failed:=rfl
theorem machV.s4 (x:Int):(machV p s g fuel val failed).setSub 4 (.int x)=machV p s g fuel x failed:=rfl
theorem machV.s5 (x:Bool):(machV p s g fuel val failed).setSub 5 (.bool x)=machV p s g fuel val x:=rfl
end
end Go.Eng
namespace Go.Eng
def QMs (x:Gor) (why:Int):Gor:=⟨4,x.func,x.pc,why,List.replicate 8 0⟩
def QBn (s:Stt) (g why:Int):Stt:=⟨s.vars,s.owner,s.chans,s.gos.set g.toNat (QMs (s.gor g) why),s.count⟩
def machD (p:Prg) (g fuel:Int) (d:Did):V:=if d.why≠0 then machV p (QBn d.s g d.why) g fuel 0 true else machV p d.s g fuel d.val (decide (d.to_<0))
theorem machD.ok {p:Prg} {g fuel:Int} {d:Did} (h:d.why=0) (ht:0≤d.to_):machD p g fuel d=machV p d.s g fuel d.val false:=by
 unfold machD
 rw [if_neg (fun q=>q h),decide_eq_false (by omega)]
theorem machD.over {p:Prg} {g fuel:Int} {d:Did} (h:d.why=0) (ht:d.to_<0):machD p g fuel d=machV p d.s g fuel d.val true:=by
 unfold machD
 rw [if_neg (fun q=>q h),decide_eq_true ht]
theorem machD.fail {p:Prg} {g fuel:Int} {d:Did} (h:d.why≠0):machD p g fuel d=machV p (QBn d.s g d.why) g fuel 0 true:=if_pos h
theorem wo {l:List Chn} {k:Nat} (h:k<l.length) (X:Chn) (d:V):((l.set k X).map Chn.v).getD k d=X.v:=by
 rw [ZU (by simpa using h)]
 simp [List.getD_eq_getElem?_getD,h]
theorem QN6 {b:List Int} (h:b.length=4):vo (b.map V.int) 0 1 (min 3 4)=(b.drop 1++b.drop 3).map V.int:=by
 match b,h with
 | [x0,x1,x2,x3],_=>rfl
theorem ZR {p:Prg} {g fuel:Int} {s:Stt} {v t:Int} (ht:0≤t):machD p g fuel ⟨s,v,0,t⟩=machV p s g fuel v false:=machD.ok rfl ht
theorem QFC {p:Prg} {g fuel:Int} {s:Stt} {v:Int}:machD p g fuel ⟨s,v,0,-1⟩=machV p s g fuel v true:=machD.over rfl (by show (-1:Int)<0;decide)
theorem Wi {p:Prg} {g fuel:Int} {s:Stt} {v w t:Int} (h:w≠0):machD p g fuel ⟨s,v,w,t⟩=machV p (QBn s g w) g fuel 0 true:=machD.fail h
section
variable {p:Prg} {s:Stt} {g:Int}
def VB (s:Stt) (c:Int):Stt × Int × Bool :=
 if 0<(s.chn c).len then (s.setChn c ⟨(Zz (s.chn c).buf ((s.chn c).len-1).toNat).set ((s.chn c).len-1).toNat 0,(s.chn c).len-1,(s.chn c).closed,(s.chn c).offer,(s.chn c).from_,(s.chn c).val⟩,(s.chn c).buf.getD 0 0,true)
 else if (s.chn c).offer=1 then (s.setChn c ⟨(s.chn c).buf,(s.chn c).len,(s.chn c).closed,2,(s.chn c).from_,0⟩,(s.chn c).val,true)
 else (s,0,false)
theorem QDm {c:Int} (h:c.toNat<s.chans.length):s.setChn c (s.chn c)=s:=by
 unfold Stt.setChn Stt.chn
 have e:s.chans.set c.toNat (s.chans.getD c.toNat default)=s.chans:=by
  rw [List.getD_eq_getElem?_getD,List.getElem?_eq_getElem h]
  exact List.set_getElem_self h
 rw [e]
theorem QDt {v0 t c r ok:Int} (h:c.toNat<s.chans.length):XE ⟨s,v0,0,t⟩ g c r ok=⟨((VB s c).1.setReg g r (VB s c).2.1).setReg g ok (XL (VB s c).2.2),(VB s c).2.1,0,t⟩:=by
 unfold XE VB
 by_cases h1:0<(s.chn c).len
 · simp only [if_pos h1];rfl
 · simp only [if_neg h1]
   by_cases h2:(s.chn c).offer=1
   · simp only [if_pos h2];rfl
   · simp only [if_neg h2,QDm h];rfl
theorem QGw {b:List Int} (hb:b.length=4) {n:Nat} (hn:n<4) (hz:∀ i,n<i→i<4→b.getD i 0=0):(b.drop 1++b.drop 3).set n 0=(Zz b n).set n 0:=by
 match b,hb with
 | [x0,x1,x2,x3],_ =>
   have h1:0<1→n<1→x1=0:=fun _ h=>hz 1 h (by decide)
   have h2:n<2→x2=0:=fun h=>hz 2 h (by decide)
   have h3:n<3→x3=0:=fun h=>hz 3 h (by decide)
   match n,hn with
   | 0,_=>simp [Zz,h1 (by decide) (by decide),h2 (by decide),h3 (by decide),List.range,List.range.loop]
   | 1,_=>simp [Zz,h2 (by decide),h3 (by decide),List.range,List.range.loop]
   | 2,_=>simp [Zz,h3 (by decide),List.range,List.range.loop]
   | 3,_=>simp [Zz,List.range,List.range.loop]
end
end Go.Eng
namespace Go.Eng
structure VarsIn (x:Instr):Prop where
 i50:x.op=50→x.a<8∧0≤x.b∧x.b<8
 i51:x.op=51→(0≤x.a∧x.a<8)∧0≤x.b∧x.b<8
 i52:x.op=52→x.a<8∧(0≤x.b∧x.b<8)∧0≤x.c∧x.c<8
 i53:x.op=53→x.a<8∧(0≤x.b∧x.b<8)∧(0≤x.c∧x.c<8)∧0≤x.n∧x.n<8
 i54:x.op=54→0≤x.b∧x.b<8
 i55:x.op=55∨x.op=56→0≤x.a∧x.a<4
 i57:x.op=57→x.a<8∧0≤x.b∧x.b<4
section
variable {s:Stt} {g t:Int} {x:Instr}
abbrev Y3 (s:Stt) (g r:Int):Int:=(s.gos.getD g.toNat default).regs.getD r.toNat 0
abbrev WO (s:Stt) (k:Int):Int:=s.vars.getD k.toNat 0
theorem QSI (h:x.op=50):ZK ⟨s,0,0,t⟩ g x=⟨s.setReg g x.a (WO s x.b),WO s x.b,0,t⟩:=if_pos h
theorem QSH (h:x.op=51):ZK ⟨s,0,0,t⟩ g x=⟨⟨s.vars.set x.a.toNat (Y3 s g x.b),s.owner,s.chans,s.gos,s.count⟩,Y3 s g x.b,0,t⟩:=(if_neg (by omega)).trans (if_pos h)
theorem QSG (h:x.op=52):ZK ⟨s,0,0,t⟩ g x=⟨⟨(s.setReg g x.a (WO s x.b)).vars.set x.b.toNat (IntKind.i64.wrap (WO (s.setReg g x.a (WO s x.b)) x.b+Y3 s g x.c)),(s.setReg g x.a (WO s x.b)).owner,(s.setReg g x.a (WO s x.b)).chans,(s.setReg g x.a (WO s x.b)).gos,(s.setReg g x.a (WO s x.b)).count⟩,Y3 s g x.c,0,t⟩ :=
 (if_neg (by omega)).trans ((if_neg (by omega)).trans (if_pos h))
theorem QSF (h:x.op=53) (hv:XL (decide (WO s x.b=Y3 s g x.c))=1):ZK ⟨s,0,0,t⟩ g x=⟨Stt.setReg ⟨s.vars.set x.b.toNat (Y3 s g x.n),s.owner,s.chans,s.gos,s.count⟩ g x.a (XL (decide (WO s x.b=Y3 s g x.c))),XL (decide (WO s x.b=Y3 s g x.c)),0,t⟩ :=
 (if_neg (by omega)).trans ((if_neg (by omega)).trans ((if_neg (by omega)).trans ((if_pos h).trans (congrArg (fun u:Stt=>(⟨u.setReg g x.a (XL (decide (WO s x.b=Y3 s g x.c))),XL (decide (WO s x.b=Y3 s g x.c)),0,t⟩:Did)) (if_pos hv)))))
theorem QQr (h:x.op=53) (hv:¬XL (decide (WO s x.b=Y3 s g x.c))=1):ZK ⟨s,0,0,t⟩ g x=⟨s.setReg g x.a (XL (decide (WO s x.b=Y3 s g x.c))),XL (decide (WO s x.b=Y3 s g x.c)),0,t⟩ :=
 (if_neg (by omega)).trans ((if_neg (by omega)).trans ((if_neg (by omega)).trans ((if_pos h).trans (congrArg (fun u:Stt=>(⟨u.setReg g x.a (XL (decide (WO s x.b=Y3 s g x.c))),XL (decide (WO s x.b=Y3 s g x.c)),0,t⟩:Did)) (if_neg hv)))))
theorem QSE (h:x.op=54):ZK ⟨s,0,0,t⟩ g x=⟨s,Y3 s g x.b,0,t⟩:=(if_neg (by omega)).trans ((if_neg (by omega)).trans ((if_neg (by omega)).trans ((if_neg (by omega)).trans (if_pos h))))
theorem QSD (h:x.op=55):ZK ⟨s,0,0,t⟩ g x=⟨⟨s.vars,s.owner.set x.a.toNat (g+1),s.chans,s.gos,s.count⟩,0,0,t⟩:=(if_neg (by omega)).trans ((if_neg (by omega)).trans ((if_neg (by omega)).trans ((if_neg (by omega)).trans ((if_neg (by omega)).trans (if_pos h)))))
theorem QSC (h:x.op=56) (ho:s.owner.getD x.a.toNat 0=g+1):ZK ⟨s,0,0,t⟩ g x=⟨⟨s.vars,s.owner.set x.a.toNat 0,s.chans,s.gos,s.count⟩,0,0,t⟩:=(if_neg (by omega)).trans ((if_neg (by omega)).trans ((if_neg (by omega)).trans ((if_neg (by omega)).trans ((if_neg (by omega)).trans ((if_neg (by omega)).trans ((if_pos h).trans (if_neg (fun q=>q ho))))))))
theorem QQq (h:x.op=56) (ho:¬s.owner.getD x.a.toNat 0=g+1):ZK ⟨s,0,0,t⟩ g x=⟨s,0,6,t⟩:=(if_neg (by omega)).trans ((if_neg (by omega)).trans ((if_neg (by omega)).trans ((if_neg (by omega)).trans ((if_neg (by omega)).trans ((if_neg (by omega)).trans ((if_pos h).trans (if_pos ho)))))))
theorem QSB (h:x.op=57) (hv:XL (decide (s.owner.getD x.b.toNat 0=0))=1):ZK ⟨s,0,0,t⟩ g x=⟨Stt.setReg ⟨s.vars,s.owner.set x.b.toNat (g+1),s.chans,s.gos,s.count⟩ g x.a (XL (decide (s.owner.getD x.b.toNat 0=0))),XL (decide (s.owner.getD x.b.toNat 0=0)),0,t⟩ :=
 (if_neg (by omega)).trans ((if_neg (by omega)).trans ((if_neg (by omega)).trans ((if_neg (by omega)).trans ((if_neg (by omega)).trans ((if_neg (by omega)).trans ((if_neg (by omega)).trans ((if_pos h).trans (congrArg (fun u:Stt=>(⟨u.setReg g x.a (XL (decide (s.owner.getD x.b.toNat 0=0))),XL (decide (s.owner.getD x.b.toNat 0=0)),0,t⟩:Did)) (if_pos hv)))))))))
theorem QQp (h:x.op=57) (hv:¬XL (decide (s.owner.getD x.b.toNat 0=0))=1):ZK ⟨s,0,0,t⟩ g x=⟨s.setReg g x.a (XL (decide (s.owner.getD x.b.toNat 0=0))),XL (decide (s.owner.getD x.b.toNat 0=0)),0,t⟩ :=
 (if_neg (by omega)).trans ((if_neg (by omega)).trans ((if_neg (by omega)).trans ((if_neg (by omega)).trans ((if_neg (by omega)).trans ((if_neg (by omega)).trans ((if_neg (by omega)).trans ((if_pos h).trans (congrArg (fun u:Stt=>(⟨u.setReg g x.a (XL (decide (s.owner.getD x.b.toNat 0=0))),XL (decide (s.owner.getD x.b.toNat 0=0)),0,t⟩:Did)) (if_neg hv)))))))))
theorem QFO (h:x.op<50∨57<x.op):ZK ⟨s,0,0,t⟩ g x=⟨s,0,0,t⟩:=(if_neg (by omega)).trans ((if_neg (by omega)).trans ((if_neg (by omega)).trans ((if_neg (by omega)).trans ((if_neg (by omega)).trans ((if_neg (by omega)).trans ((if_neg (by omega)).trans (if_neg (by omega))))))))
theorem YT (s:Stt) (g r v:Int):(s.setReg g r v).gos.length=s.gos.length:=by
 unfold Stt.setReg
 split
 · simp
 · rfl
def zz (p:Prg) (s:Stt) (g:Int) (q:Sel) (alt:Int):Did :=
 if alt=q.cases.length then ⟨s,0,0,q.els⟩
 else if (q.cases.getD alt.toNat default).send then YW p ⟨s,0,0,(q.cases.getD alt.toNat default).to_⟩ g (q.cases.getD alt.toNat default).chan (Y3 s g (q.cases.getD alt.toNat default).reg)
 else XE ⟨s,0,0,(q.cases.getD alt.toNat default).to_⟩ g (q.cases.getD alt.toNat default).chan (q.cases.getD alt.toNat default).reg (-1)
theorem QIK {p:Prg} {q:Sel} {alt:Int} (h:alt=q.cases.length):zz p s g q alt=⟨s,0,0,q.els⟩:=if_pos h
theorem QII {p:Prg} {q:Sel} {alt:Int} (h:¬alt=q.cases.length) (hs:(q.cases.getD alt.toNat default).send=true):zz p s g q alt=YW p ⟨s,0,0,(q.cases.getD alt.toNat default).to_⟩ g (q.cases.getD alt.toNat default).chan (Y3 s g (q.cases.getD alt.toNat default).reg):=(if_neg h).trans (if_pos hs)
theorem QIJ {p:Prg} {q:Sel} {alt:Int} (h:¬alt=q.cases.length) (hs:(q.cases.getD alt.toNat default).send=false) (hc:(q.cases.getD alt.toNat default).chan.toNat<s.chans.length):zz p s g q alt=⟨(VB s (q.cases.getD alt.toNat default).chan).1.setReg g (q.cases.getD alt.toNat default).reg (VB s (q.cases.getD alt.toNat default).chan).2.1,(VB s (q.cases.getD alt.toNat default).chan).2.1,0,(q.cases.getD alt.toNat default).to_⟩:=by
 refine ((if_neg h).trans (if_neg (by rw [hs];decide))).trans ?_
 rw [QDt hc]
 rfl
def QGb (p:Prg) (s:Stt):Prop:=∀ c:Nat,c<p.chans.length→(0≤(s.chans.getD c default).len∧(s.chans.getD c default).len≤p.chans.getD c 0)∧p.chans.getD c 0≤4∧∀ k:Nat,(s.chans.getD c default).len≤k→k<4→(s.chans.getD c default).buf.getD k 0=0
def QMx (p:Prg) (q:Sel):Prop:=∀ k:Nat,k<q.cases.length→(0≤(q.cases.getD k default).chan∧(q.cases.getD k default).chan<p.chans.length)∧(q.cases.getD k default).reg<8∧((q.cases.getD k default).send=true→0≤(q.cases.getD k default).reg)∧0≤(q.cases.getD k default).to_
theorem Y8 (s:Stt) (c:Int):(VB s c).1.gos=s.gos:=by
 unfold VB
 (repeat' split)<;>rfl
theorem QBF {p:Prg} {s:Stt} {c:Int} (h:XF p s c=true) (hc:(s.chans.getD c.toNat default).closed=false) (h0:0<p.chans.getD c.toNat 0):(s.chans.getD c.toNat default).len<p.chans.getD c.toNat 0:=by
 unfold XF at h
 rw [if_neg (by rw [show (s.chn c).closed=false from hc];decide),if_pos (show 0<p.cap c from h0)] at h
 exact of_decide_eq_true h
def zV (s:Stt) (g:Int) (x:Instr) (n:Nat):Gor:=⟨1,x.b,0,0,Q3 s g x.c n⟩
theorem QDF:zV s g x 0=⟨1,x.b,0,0,List.replicate 8 0⟩:=by simp [zV,Q3];rfl
theorem QDG {n:Nat}:(Q3 s g x.c n).set n (Y3 s g (x.c+(n:Int)))=Q3 s g x.c (n+1):=by
 apply List.ext_getElem
 · simp [Q3]
 · intro i h1 h2
   simp only [Q3,List.getElem_set,List.getElem_map,List.getElem_range]
   by_cases h:n=i
   · subst h
     rw [if_pos rfl,if_pos (by omega)]
     rfl
   · rw [if_neg h]
     by_cases q:i<n
     · rw [if_pos q,if_pos (by omega)]
     · rw [if_neg q,if_neg (by omega)]
theorem QBC {p:Prg} {v0:Int} (h:6≤s.count):YO p ⟨s,v0,0,t⟩ g x=⟨s,v0,8,t⟩:=if_pos h
theorem QBD {p:Prg} {v0:Int} (h:¬6≤s.count):YO p ⟨s,v0,0,t⟩ g x=⟨Stt.setReg ⟨s.vars,s.owner,s.chans,s.gos.set s.count.toNat (zV s g x (p.fn x.b).params.toNat),s.count+1⟩ g x.a s.count,s.count,0,t⟩:=if_neg h
end
end Go.Eng
namespace Go.Eng
section
variable {p:Prg} {s:Stt} {g:Int}
def NextOk (s:Stt) (d:Did) (nx md:Int):Prop:=d.why=0→0≤d.to_→nx=d.to_∧md=if s.count<d.s.count then s.count else -1
theorem NextOk.same {d:Did} {nx:Int} (hc:d.s.count=s.count) (ht:d.why=0→0≤d.to_→nx=d.to_):NextOk s d nx (-1):=fun h1 h2=>⟨ht h1 h2,by rw [hc,if_neg (by omega)]⟩
theorem NextOk.vars {t:Int} {x:Instr}:NextOk s (ZK ⟨s,0,0,t⟩ g x) t (-1):=by
 refine NextOk.same (xA _ _ _) fun _ _=>?_
 unfold ZK
 (repeat' split)<;>rfl
theorem NextOk.send {t v0 c v:Int}:NextOk s (YW p ⟨s,v0,0,t⟩ g c v) t (-1):=by
 refine NextOk.same (qv p _ g c v).count fun h1 h2=>?_
 unfold YW at h1 h2 ⊢
 simp only at h1 h2 ⊢
 split
 · rfl
 · rename_i q
   rw [if_neg q] at h2
   split
   · rfl
   · rename_i q2
     rw [if_neg q2] at h2
     simp at h2
theorem NextOk.recv {t v0 c r ok:Int}:NextOk s (XE ⟨s,v0,0,t⟩ g c r ok) t (-1):=by
 refine NextOk.same (qw _ g c r ok).count fun _ _=>?_
 unfold XE
 simp only
 (repeat' split)<;>rfl
theorem NextOk.close {t v0 c:Int}:NextOk s (YH ⟨s,v0,0,t⟩ c) t (-1):=by
 refine NextOk.same (xC _ c).count fun _ _=>?_
 unfold YH
 simp only
 (repeat' split)<;>rfl
theorem NextOk.taken {t v0 c:Int}:NextOk s (Yw ⟨s,v0,0,t⟩ g c) t (-1):=NextOk.same rfl fun _ _=>rfl
theorem NextOk.spawn {t:Int} {x:Instr}:NextOk s (YO p ⟨s,0,0,t⟩ g x) t (if s.count=6 then -1 else s.count):=by
 by_cases h:6≤s.count
 · rw [QBC h];intro h1;exact absurd h1 (show ¬(8:Int)=0 by decide)
 · rw [QBD h]
   intro _ _
   have e:(Stt.setReg ⟨s.vars,s.owner,s.chans,s.gos.set s.count.toNat (zV s g x (p.fn x.b).params.toNat),s.count+1⟩ g x.a s.count).count=s.count+1:=ZS _ _ _ _
   refine ⟨rfl,?_⟩
   show _=if s.count<(Stt.setReg _ g x.a s.count).count then _ else _
   rw [e,if_neg (by omega),if_pos (by omega)]
theorem NextOk.sel {q:Sel} {alt:Int}:NextOk s (zz p s g q alt) (if alt=q.cases.length then q.els else (q.cases.getD alt.toNat default).to_) (-1):=by
 unfold zz
 split
 · exact NextOk.same rfl fun _ _=>rfl
 · split
   · exact NextOk.send
   · exact NextOk.recv
section
variable {alt:Int}
theorem QHx (h:QL p s g=58):QI p s g alt=YW p ⟨s,0,0,(s.gor g).pc+1⟩ g (QA p s g).a (Y3 s g (QA p s g).b):=(if_neg (by omega)).trans (if_pos h)
theorem QHw (h:QL p s g=59):QI p s g alt=XE ⟨s,0,0,(s.gor g).pc+1⟩ g (QA p s g).b (QA p s g).a (QA p s g).c:=(if_neg (by omega)).trans ((if_neg (by omega)).trans (if_pos h))
theorem QHr (h:QL p s g=66):QI p s g alt=Yw ⟨s,0,0,(s.gor g).pc+1⟩ g (QA p s g).a:=if_pos h
theorem QHv (h:QL p s g=60):QI p s g alt=YH ⟨s,0,0,(s.gor g).pc+1⟩ (QA p s g).a:=(if_neg (by omega)).trans ((if_neg (by omega)).trans ((if_neg (by omega)).trans (if_pos h)))
theorem QHt (h:QL p s g=62):QI p s g alt=YO p ⟨s,0,0,(s.gor g).pc+1⟩ g (QA p s g):=(if_neg (by omega)).trans ((if_neg (by omega)).trans ((if_neg (by omega)).trans ((if_neg (by omega)).trans (if_pos h))))
theorem QDT (h:QL p s g=63):QI p s g alt=if Y3 s g (QA p s g).a<0∨s.count≤Y3 s g (QA p s g).a∨Y3 s g (QA p s g).a=g then ⟨s,0,7,(s.gor g).pc+1⟩ else ⟨s,Y3 s g (QA p s g).a,0,(s.gor g).pc+1⟩:=(if_neg (by omega)).trans ((if_neg (by omega)).trans ((if_neg (by omega)).trans ((if_neg (by omega)).trans ((if_neg (by omega)).trans (if_pos h)))))
theorem QHs (h:QL p s g=65):QI p s g alt=⟨s,Y3 s g (QA p s g).a,0,(s.gor g).pc+1⟩:=(if_neg (by omega)).trans ((if_neg (by omega)).trans ((if_neg (by omega)).trans ((if_neg (by omega)).trans ((if_neg (by omega)).trans ((if_neg (by omega)).trans (if_pos h))))))
theorem QHu (h:QL p s g=61):QI p s g alt=zz p s g (Qx p s g) alt:=(if_neg (by omega)).trans ((if_neg (by omega)).trans ((if_neg (by omega)).trans ((if_neg (by omega)).trans ((if_neg (by omega)).trans ((if_neg (by omega)).trans ((if_neg (by omega)).trans (if_pos h)))))))
theorem QFp (h:QL p s g≠66∧QL p s g≠58∧QL p s g≠59∧QL p s g≠60∧QL p s g≠62∧QL p s g≠63∧QL p s g≠65∧QL p s g≠61):QI p s g alt=ZK ⟨s,0,0,(s.gor g).pc+1⟩ g (QA p s g):=(if_neg h.1).trans ((if_neg h.2.1).trans ((if_neg h.2.2.1).trans ((if_neg h.2.2.2.1).trans ((if_neg h.2.2.2.2.1).trans ((if_neg h.2.2.2.2.2.1).trans ((if_neg h.2.2.2.2.2.2.1).trans (if_neg h.2.2.2.2.2.2.2)))))))
end
theorem QDf {k:Int} (h:Xj s g k=false):k<0∨s.count≤k∨k=g:=by
 unfold Xj at h
 simp at h
 omega
theorem QEt {k:Int} (h:Xj s g k=true):¬(k<0∨s.count≤k∨k=g):=by
 unfold Xj at h
 simp at h
 omega
theorem QEf (h:QL p s g≠66):atI p s g=QA p s g:=by
 have e:QL p s g=(QA p s g).op:=by
  unfold QL at h ⊢
  split
  · rename_i q;rw [if_pos q] at h;exact absurd rfl h
  · rfl
 unfold atI
 rw [e]
theorem QAE (h:QL p s g≠66) {d:Did}:ZK d g (atI p s g)=ZK d g (QA p s g):=by rw [QEf h]
theorem QKJ (hok:p.Ok) (hw:Wf p s) (hg:0≤g∧g<s.count):VarsIn (atI p s g):=by
 have hrt:QV p (p.funcs.getD (s.gos.getD g.toNat default).func.toNat default) (QA p s g)=0:=hw.right hok hg.1 hg.2
 have hrg:=hok.regs (s.gos.getD g.toNat default).func.toNat
 have hsz:=hok.sizes
 unfold Ze at hsz
 have key:∀ k:Int,(atI p s g).op=k→k≠66→(QA p s g).op=k:=fun k h hk=>hw.op_at hok hg.1 hg.2 h hk
 refine ⟨fun h=>?_,fun h=>?_,fun h=>?_,fun h=>?_,fun h=>?_,fun h=>?_,fun h=>?_⟩
 · have:=QDZ hrt (key 50 h (by decide));show (QA p s g).a<8∧0≤(QA p s g).b∧(QA p s g).b<8;omega
 · have:=QDY hrt (key 51 h (by decide));show (0≤(QA p s g).a∧(QA p s g).a<8)∧0≤(QA p s g).b∧(QA p s g).b<8;omega
 · have:=QDX hrt (key 52 h (by decide));show (QA p s g).a<8∧(0≤(QA p s g).b∧(QA p s g).b<8)∧0≤(QA p s g).c∧(QA p s g).c<8;omega
 · have:=QDW hrt (key 53 h (by decide));show (QA p s g).a<8∧(0≤(QA p s g).b∧(QA p s g).b<8)∧(0≤(QA p s g).c∧(QA p s g).c<8)∧0≤(QA p s g).n∧(QA p s g).n<8;omega
 · have:=QA5 hrt (key 54 h (by decide));show 0≤(QA p s g).b∧(QA p s g).b<8;omega
 · have:=qY hrt (h.imp (fun q=>key 55 q (by decide)) (fun q=>key 56 q (by decide)));show 0≤(QA p s g).a∧(QA p s g).a<4;omega
 · have:=QDV hrt (key 57 h (by decide));show (QA p s g).a<8∧0≤(QA p s g).b∧(QA p s g).b<4;omega
theorem QJm (hok:p.Ok) (hv:Vld p s):QGb p s:=fun c hc=>⟨(hv.chans c hc).len,(hok.caps c).2,(hv.chans c hc).buf⟩
theorem QNL (hok:p.Ok) {f a:Nat} (hf:f<p.funcs.length) (ha:a<(p.funcs.getD f default).sels.length):QMx p ((p.funcs.getD f default).sels.getD a default):=fun k hk=>by
 have h:=UC hok hf ha hk
 have hr:=hok.regs f
 refine ⟨h.chan,?_,fun hs=>?_,h.to_.1⟩
 · rcases h.reg with q|q<;>omega
 · rcases h.reg with q|q
   · exact q.1
   · rw [q.1] at hs;cases hs
theorem QIC (hok:p.Ok) (hw:Wf p s) (hg:0≤g∧g<s.count) (h:QL p s g=62):(QA p s g).a<8∧(0≤(QA p s g).b∧(QA p s g).b<p.funcs.length)∧0≤(p.fn (QA p s g).b).params∧(0<(p.fn (QA p s g).b).params→0≤(QA p s g).c∧(QA p s g).c+(p.fn (QA p s g).b).params≤8)∧(p.fn (QA p s g).b).params≤8:=by
 have hrt:QV p (p.funcs.getD (s.gos.getD g.toNat default).func.toNat default) (QA p s g)=0:=hw.right hok hg.1 hg.2
 have hrg:=hok.regs (s.gos.getD g.toNat default).func.toNat
 have hI:=QFq hrt (hw.op_at hok hg.1 hg.2 h (by decide))
 have hp:=hok.params (QA p s g).b.toNat
 have hr2:=hok.regs (QA p s g).b.toNat
 have e:p.fn (QA p s g).b=p.funcs.getD (QA p s g).b.toNat default:=rfl
 rw [e] at hI ⊢
 refine ⟨by omega,hI.2.1,hp.1,fun h0=>?_,by omega⟩
 have h1:=hI.2.2.2 h0
 unfold w64 at h1
 rw [Q4 (by omega) (by omega)] at h1
 omega
theorem QOa (hok:p.Ok) {f a:Nat} (hf:f<p.funcs.length) (ha:a<(p.funcs.getD f default).sels.length) (h:((p.funcs.getD f default).sels.getD a default).els ≠ -1):0≤((p.funcs.getD f default).sels.getD a default).els:=by
 rcases QGN hok hf ha with q|q
 · exact absurd q h
 · exact q.1
theorem QOo {alt:Int} (ha:alt∈Qj p s g) (h:QL p s g=61):(0≤alt∧alt≤((Qx p s g).cases.length:Int))∧(alt<((Qx p s g).cases.length:Int)→XX p s ((Qx p s g).cases.getD alt.toNat default)=true)∧(alt=((Qx p s g).cases.length:Int)→(Qx p s g).els ≠ -1):=by
 have hl:=Yq ha
 unfold Qj at ha
 rw [if_pos hl,if_pos h] at ha
 simp only at ha
 split at ha
 · rename_i q
   rcases List.mem_append.1 ha with m|m
   · obtain ⟨k,rfl,hk,hc⟩:=UB m
     refine ⟨by omega,fun _=>by simpa using hc,fun e=>by omega⟩
   · simp only [List.mem_singleton] at m
     exact ⟨by omega,fun e=>by omega,fun _=>q.2⟩
 · obtain ⟨k,rfl,hk,hc⟩:=UB ha
   exact ⟨by omega,fun _=>by simpa using hc,fun e=>by omega⟩
end
end Go.Eng
namespace Go.Eng
theorem QLG {l:List Int} {v:Int} {i:Nat} (hi:i<l.length) (h:v=l.getD i 0) (hb:∀ j,j<i→¬v=l.getD j 0):(i:Int)=if v∈l then ((l.findIdx fun y=>decide (v=y):Nat):Int) else -1:=by
 have hm:v∈l:=by
  rw [h,List.getD_eq_getElem?_getD,List.getElem?_eq_getElem hi]
  exact List.getElem_mem hi
 rw [if_pos hm]
 congr 1
 symm
 rw [List.findIdx_eq hi]
 constructor
 · rw [decide_eq_true_eq,h,List.getD_eq_getElem?_getD,List.getElem?_eq_getElem hi];rfl
 · intro j hj
   rw [decide_eq_false_iff_not]
   have:=hb j hj
   rw [List.getD_eq_getElem?_getD,List.getElem?_eq_getElem (by omega)] at this
   exact this
theorem QJL {l:List Int} {v:Int} (hb:∀ j,j<l.length→¬v=l.getD j 0):(-1:Int)=if v∈l then ((l.findIdx fun y=>decide (v=y):Nat):Int) else -1:=by
 rw [if_neg]
 intro hm
 obtain ⟨j,hj,e⟩:=List.getElem_of_mem hm
 refine hb j hj ?_
 rw [List.getD_eq_getElem?_getD,List.getElem?_eq_getElem hj]
 exact e.symm
def xQ (p:Prg) (s:Stt) (x:Pck) (fuel:Int):Stt × Event × Int:=if ZO p s≠0 then (zeroStt,zeroEvent,ZO p s) else YV QB p s x fuel
def pcS (s:Stt) (g nx:Int):Stt:=⟨s.vars,s.owner,s.chans,s.gos.set g.toNat ⟨(s.gos.getD g.toNat default).status,(s.gos.getD g.toNat default).func,nx,(s.gos.getD g.toNat default).why,(s.gos.getD g.toNat default).regs⟩,s.count⟩
end Go.Eng
