/- A part of the proof: walks through the program's functions, and what they compute. -/
import Derived.Test.YtedceinkpkoncaaGreatDoorPk23
import Derived.Test.YtedceinkpkoncaaGreatDoorPk20
import Derived.Test.YtedceinkpkoncaaGreatDoorPk19
set_option linter.unusedSimpArgs false
set_option linter.unusedVariables false
namespace Go.Eng
def ApplyOk (apply:Int→Int→Int→Int × Int):Prop:=∀ op a b,((apply op a b).2=20→op=19∨op=20)∧((apply op a b).2=21→25≤op∧op≤27)
theorem rep0 (n k:Nat):(List.replicate n (0:Int)).getD k 0=0:=by
 rw [List.getD_eq_getElem?_getD,List.getElem?_replicate]
 split<;>rfl
theorem failing_of {op w:Int} (h:(w=1∧op=44)∨(w=2∧(op=19∨op=20))∨(w=3∧25≤op∧op≤27)):failing op w=true:=by
 rcases h with ⟨rfl,h⟩|⟨rfl,h⟩|⟨rfl,h⟩
 · simp [failing,h]
 · rcases h with rfl|rfl<;>rfl
 · simp [failing,h]
section
variable {apply:Int→Int→Int→Int × Int} (hap:ApplyOk apply) {p:Prg} (hok:p.Ok)
theorem GorP.ended {g:Gor} (h:GorP p g) {w:Int} (hf:failing (p.instr g).op w=true):GorP p (ended g 4 w) :=
 ⟨⟨by show (1:Int)≤4;decide,by show (4:Int)≤5;decide⟩,⟨h.inn.f0,h.inn.f1,h.inn.p0,h.inn.p1,rfl⟩,fun k _ h8=>by show (List.replicate 8 (0:Int)).getD k 0=0;exact rep0 8 k,fun _=>hf,fun q=>absurd rfl q,fun q=>absurd (show (4:Int)=3 from q) (by decide),fun q=>absurd (show (4:Int)=5 from q) (by decide)⟩
theorem GorP.over {g:Gor} (h:GorP p g) (h1:g.status=1) (hf:(p.instr g).op=45):GorP p (Go.Eng.ended g 3 0) :=
 ⟨⟨by show (1:Int)≤3;decide,by show (3:Int)≤5;decide⟩,⟨h.inn.f0,h.inn.f1,h.inn.p0,h.inn.p1,rfl⟩,fun k _ h8=>by show (List.replicate 8 (0:Int)).getD k 0=0;exact rep0 8 k,fun q=>absurd (show (3:Int)=4 from q) (by decide),fun _=>rfl,fun _=>hf,fun q=>absurd (show (3:Int)=5 from q) (by decide)⟩
include hap hok in
theorem localStep_ok {g:Gor} (hG:GorP p g) (h1:g.status=1) (hl:isLocal (p.instr g).op=true) :
 GorP p (localStep apply p g).1∧((localStep apply p g).2=true→(localStep apply p g).1.status=1)∧(localStep apply p g).1.status≠2∧(localStep apply p g).1.status≠5∧(localStep apply p g).1.func=g.func:=by
 have hr:=local_range hl
 have hg:=hG.inn
 have hin:=instr_right hok hg
 have hm:gorM p g=(p.fn g.func).regs:=if_neg (by omega)
 have h8:=hg.regs
 have mk:∀ (pc:Int) (regs:List Int),0≤pc→pc<(p.funcs.getD g.func.toNat default).code.length→regs.length=8→(∀ k:Nat,(p.fn g.func).regs≤k→k<8→regs.getD k 0=0)→GorP p ⟨g.status,g.func,pc,g.why,regs⟩:=by
  intro pc regs q0 q1 q2 q3
  refine ⟨hG.st,⟨hg.f0,hg.f1,q0,q1,q2⟩,fun k hk hk8=>q3 k ?_ hk8,fun q=>?_,hG.why,fun q=>?_,fun q=>?_⟩
  · have e:gorM p ⟨g.status,g.func,pc,g.why,regs⟩=(p.fn g.func).regs:=if_neg (by show ¬(g.status=3∨g.status=4);omega)
    rw [e] at hk;exact hk
  · have q:g.status=4:=q;omega
  · have q:g.status=3:=q;omega
  · have q:g.status=5:=q;omega
 have next:∀ regs:List Int,regs.length=8→(∀ k:Nat,(p.fn g.func).regs≤k→k<8→regs.getD k 0=0)→((p.instr g).op≠42∧(p.instr g).op≠45∧(p.instr g).op≠61)→GorP p ⟨g.status,g.func,g.pc+1,g.why,regs⟩:=fun regs q2 q3 ho =>
  mk _ _ (by have:=hg.p0;omega) (next_in hok hg ho) q2 q3
 have hz:∀ k:Nat,(p.fn g.func).regs≤k→k<8→g.regs.getD k 0=0:=fun k q1 q2=>hG.zero k (by rw [hm];exact q1) q2
 have hset:∀ (a v:Int),0≤a∧a<(p.fn g.func).regs→∀ k:Nat,(p.fn g.func).regs≤k→k<8→(g.regs.set a.toNat v).getD k 0=0:=by
  intro a v ha k q1 q2
  rw [getD_set,if_neg (by omega)]
  exact hz k q1 q2
 have fin:∀ {r:Gor × Bool} {pc:Int} {regs:List Int} {b:Bool},r=(⟨g.status,g.func,pc,g.why,regs⟩,b)→GorP p ⟨g.status,g.func,pc,g.why,regs⟩→GorP p r.1∧(r.2=true→r.1.status=1)∧r.1.status≠2∧r.1.status≠5∧r.1.func=g.func:=by
  rintro r pc regs b rfl hG2
  exact ⟨hG2,fun _=>h1,by show g.status≠2;omega,by show g.status≠5;omega,rfl⟩
 have fal:∀ {r:Gor × Bool} {w:Int},r=(ended g 4 w,false)→failing (p.instr g).op w=true→GorP p r.1∧(r.2=true→r.1.status=1)∧r.1.status≠2∧r.1.status≠5∧r.1.func=g.func:=by
  rintro r w rfl hf
  exact ⟨hG.ended hf,fun q=>Bool.noConfusion (show false=true from q),by show (4:Int)≠2;decide,by show (4:Int)≠5;decide,rfl⟩
 by_cases h1':(p.instr g).op≤15
 · exact fin (ls1 apply h1') (next _ (by rw [List.length_set];exact h8) (hset _ _ (loc1 hin (by omega) h1').1) (by omega))
 by_cases h2:(p.instr g).op≤36
 · by_cases e1:(apply (p.instr g).op (g.regs.getD (p.instr g).b.toNat 0) (g.regs.getD (p.instr g).c.toNat 0)).2=20
   · refine fal (ls2z apply h1' h2 e1) ?_
     exact failing_of (.inr (.inl ⟨rfl,(hap _ _ _).1 e1⟩))
   by_cases e2:(apply (p.instr g).op (g.regs.getD (p.instr g).b.toNat 0) (g.regs.getD (p.instr g).c.toNat 0)).2=21
   · refine fal (ls2s apply h1' h2 e1 e2) ?_
     exact failing_of (.inr (.inr ⟨rfl,(hap _ _ _).2 e2⟩))
   · exact fin (ls2 apply h1' h2 e1 e2) (next _ (by rw [List.length_set];exact h8) (hset _ _ (loc2 hin (by omega) h2).1) (by omega))
 by_cases h3:(p.instr g).op=40
 · exact fin (ls40 apply h1' h2 h3) (next _ (by rw [List.length_set];exact h8) (hset _ _ (loc40 hin h3)) (by omega))
 by_cases h4:(p.instr g).op=41
 · exact fin (ls41 apply h1' h2 h3 h4) (next _ (by rw [List.length_set];exact h8) (hset _ _ (loc41 hin h4).1) (by omega))
 by_cases h5:(p.instr g).op=42
 · have:=loc42 hin h5
   exact fin (ls42 apply h1' h2 h3 h4 h5) (mk _ _ this.1 this.2 h8 hz)
 by_cases h6:(p.instr g).op=43
 · by_cases e:g.regs.getD (p.instr g).a.toNat 0=0
   · exact fin (ls43f apply h1' h2 h3 h4 h5 h6 e) (next _ h8 hz (by omega))
   · have:=(loc43 hin h6).2
     exact fin (ls43 apply h1' h2 h3 h4 h5 h6 e) (mk _ _ this.1 this.2 h8 hz)
 by_cases h7:(p.instr g).op=44
 · by_cases e:g.regs.getD (p.instr g).a.toNat 0=0
   · exact fal (ls44z apply h1' h2 h3 h4 h5 h6 h7 e) (failing_of (.inl ⟨rfl,h7⟩))
   · exact fin (ls44 apply h1' h2 h3 h4 h5 h6 h7 e) (next _ h8 hz (by omega))
 · rw [ls45 apply h1' h2 h3 h4 h5 h6 h7]
   exact ⟨hG.over h1 (by omega),fun q=>Bool.noConfusion (show false=true from q),by show (3:Int)≠2;decide,by show (3:Int)≠5;decide,rfl⟩
include hap hok in
theorem settledN_ok:∀ (m:Nat) {g:Gor},GorP p g→g.status=1→GorP p (settledN apply p m g)∧(settledN apply p m g).status≠2∧(settledN apply p m g).func=g.func
 | 0,g,hG,h1=>by
   cases h:isLocal (p.instr g).op
   · rw [settledN_stop apply h];exact ⟨hG,by omega,rfl⟩
   · rw [settledN_zero apply h]
     refine ⟨⟨⟨by show (1:Int)≤5;decide,by show (5:Int)≤5;decide⟩,⟨hG.inn.f0,hG.inn.f1,hG.inn.p0,hG.inn.p1,hG.inn.regs⟩,fun k hk h8=>hG.zero k ?_ h8,fun q=>absurd (show (5:Int)=4 from q) (by decide),fun _=>hG.why (by omega),fun q=>absurd (show (5:Int)=3 from q) (by decide),fun _=>h⟩,by show (5:Int)≠2;decide,rfl⟩
     have e1:gorM p g=(p.fn g.func).regs:=if_neg (by omega)
     rw [e1];exact hk
 | m+1,g,hG,h1=>by
   cases h:isLocal (p.instr g).op
   · rw [settledN_stop apply h];exact ⟨hG,by omega,rfl⟩
   · rw [settledN_succ apply h]
     obtain ⟨a1,a2,a3,_,a4⟩:=localStep_ok hap hok hG h1 h
     split
     · rename_i q
       have:=settledN_ok m a1 (a2 q)
       exact ⟨this.1,this.2.1,this.2.2.trans a4⟩
     · exact ⟨a1,a3,a4⟩
include hap hok in
theorem settled_ok {g:Gor} (hG:GorP p g) (h1:g.status=1∨g.status=5) (fuel:Int):GorP p (settled apply p g fuel)∧(settled apply p g fuel).status≠2∧(settled apply p g fuel).func=g.func:=by
 have hX:GorP p { g with status:=1 }:=by
  refine ⟨⟨by show (1:Int)≤1;decide,by show (1:Int)≤5;decide⟩,⟨hG.inn.f0,hG.inn.f1,hG.inn.p0,hG.inn.p1,hG.inn.regs⟩,fun k hk h8=>hG.zero k ?_ h8,fun q=>absurd (show (1:Int)=4 from q) (by decide),fun _=>hG.why (by omega),fun q=>absurd (show (1:Int)=3 from q) (by decide),fun q=>absurd (show (1:Int)=5 from q) (by decide)⟩
  have e1:gorM p g=(p.fn g.func).regs:=if_neg (by omega)
  rw [e1];exact hk
 exact settledN_ok hap hok _ hX rfl
theorem settle_eq {s:Stt} (hr:rightP p=true) (hok:p.Ok) (hv:Vld p s) {g fuel:Int} (hg:0≤g∧g<s.count) (hf:0≤fuel∧fuel≤4096) :
 (settle apply p s g fuel).1=if (s.gor g).status=1∨(s.gor g).status=5 then { s with gos:=s.gos.set g.toNat (settled apply p (s.gor g) fuel) } else s:=by
 have hc:=hv.count
 unfold settle
 rw [if_neg (by rw [hr];decide),if_neg (by rw [hv.ok hok hr];decide),if_neg (by omega),if_neg (by omega)]
 split<;>rfl
include hap in
theorem settle_ok {s:Stt} (hr:rightP p=true) (hok:p.Ok) (hv:Vld p s) {g fuel:Int} (hg:0≤g∧g<s.count) (hf:0≤fuel∧fuel≤4096) :
 Vld p (settle apply p s g fuel).1:=by
 rw [settle_eq hr hok hv hg hf]
 split
 · rename_i h
   have hG:=hv.gos g.toNat (by omega)
   have:=settled_ok hap hok hG h fuel
   exact hv.go (i:=g.toNat) (by omega) this.1 (by have h:(s.gos.getD g.toNat default).status=1∨(s.gos.getD g.toNat default).status=5:=h;omega) this.2.1
 · exact hv
theorem settle_keeps {s:Stt} (hr:rightP p=true) (hok:p.Ok) (hv:Vld p s) {g fuel:Int} (hg:0≤g∧g<s.count) (hf:0≤fuel∧fuel≤4096) :
 (settle apply p s g fuel).1.vars=s.vars∧(settle apply p s g fuel).1.owner=s.owner∧(settle apply p s g fuel).1.chans=s.chans∧(settle apply p s g fuel).1.count=s.count∧∀ i:Nat,i≠g.toNat→(settle apply p s g fuel).1.gos.getD i default=s.gos.getD i default:=by
 rw [settle_eq hr hok hv hg hf]
 split
 · refine ⟨rfl,rfl,rfl,rfl,fun i hi=>?_⟩
   show (s.gos.set _ _).getD i default=_
   rw [getD_set,if_neg (fun q=>hi q.1.symm)]
 · exact ⟨rfl,rfl,rfl,rfl,fun _ _=>rfl⟩
def afterVis (d:Did) (g:Int):Stt:={ d.s with gos:=d.s.gos.set g.toNat { d.s.gor g with pc:=d.to_ } }
def failedVis (d:Did) (g:Int):Stt:={ d.s with gos:=d.s.gos.set g.toNat { d.s.gor g with status:=4,why:=d.why,regs:=List.replicate 8 0 } }
theorem afterVis_ok {s:Stt} {g:Int} {d:Did} (hg:0≤g∧g<s.count) (hd:VisOk p s g d) (hw:d.why=0) (ht:0≤d.to_):Vld p (afterVis d g):=by
 have hv:=hd.vld
 have h1:=(hd.on hw ht).1
 have h2:=(hd.on hw ht).2
 have hc:=hd.cnt
 have hG:=hv.gos g.toNat (by omega)
 refine hv.go (i:=g.toNat) (by omega) (X:={ d.s.gor g with pc:=d.to_ }) ⟨hG.st,⟨hG.inn.f0,hG.inn.f1,ht,?_,hG.inn.regs⟩,hG.zero,fun q=>?_,hG.why,fun q=>?_,fun q=>?_⟩ (by have h1:(d.s.gos.getD g.toNat default).status=1:=h1;omega) (by show (d.s.gor g).status≠2;omega)
 · rw [← hd.func] at h2;exact h2
 · have q:(d.s.gor g).status=4:=q;omega
 · have q:(d.s.gor g).status=3:=q;omega
 · have q:(d.s.gor g).status=5:=q;omega
theorem failedVis_ok {s:Stt} {g:Int} {d:Did} (hg:0≤g∧g<s.count) (hd:VisOk p s g d) (hw:d.why≠0):Vld p (failedVis d g):=by
 have hv:=hd.vld
 obtain ⟨h1,h2⟩:=hd.fail hw
 have hc:=hd.cnt
 have hG:=hv.gos g.toNat (by omega)
 have e:p.instr (d.s.gor g)=instrAt p s g:=by
  show (p.funcs.getD (d.s.gor g).func.toNat default).code.getD (d.s.gor g).pc.toNat default=_
  rw [hd.func,hd.pc];rfl
 refine hv.go (i:=g.toNat) (by omega) (X:={ d.s.gor g with status:=4,why:=d.why,regs:=List.replicate 8 0 }) ⟨⟨by show (1:Int)≤4;decide,by show (4:Int)≤5;decide⟩,⟨hG.inn.f0,hG.inn.f1,hG.inn.p0,hG.inn.p1,rfl⟩,fun k _ h8=>by show (List.replicate 8 (0:Int)).getD k 0=0;exact rep0 8 k,fun _=>?_,fun q=>absurd rfl q,fun q=>absurd (show (4:Int)=3 from q) (by decide),fun q=>absurd (show (4:Int)=5 from q) (by decide)⟩ (by have h1:(d.s.gos.getD g.toNat default).status=1:=h1;omega) (by show (4:Int)≠2;decide)
 show failing (p.instr (d.s.gor g)).op d.why=true
 rw [e];exact h2
include hap in
theorem take_ok {s:Stt} (hr:rightP p=true) (hok:p.Ok) (hv:Vld p s) {x:Pck} (ha:x.alt∈alts p s x.go) {fuel:Int} (hf:0≤fuel∧fuel≤4096):Vld p (take apply p s x fuel).1:=by
 have hg:=(live_iff.1 (alts_live ha)).1
 have hd:=visible_ok hok hr hv ha
 unfold take
 simp only
 split
 · rename_i hw;exact failedVis_ok hg hd hw
 · rename_i hw
   have hw:(visible p s x.go x.alt).why=0:=by simpa using hw
   split
   · exact hd.vld
   · rename_i ht
     have h1:=afterVis_ok hg hd hw (by omega)
     have hc:=hd.cnt
     have h2:=settle_ok hap hr hok h1 (g:=x.go) (fuel:=fuel) ⟨hg.1,by show x.go<(visible p s x.go x.alt).s.count;omega⟩ hf
     show Vld p (if _ then _ else _)
     refine ite_stt (q:=Vld p) (fun q=>?_) (fun _=>h2)
     exact settle_ok hap hr hok h2 ⟨by have:=hv.count;omega,q⟩ hf
include hap in
theorem do_ok {s:Stt} (hr:rightP p=true) (hok:p.Ok) (hv:Vld p s) {x:Pck} (ha:x.alt∈alts p s x.go) {fuel:Int} (hf:0≤fuel∧fuel≤4096):Vld p (doStep apply p s x fuel).1:=by
 unfold doStep
 rw [if_neg (by omega),if_neg (by unfold has;rw [decide_eq_true ha];decide)]
 exact take_ok hap hr hok hv ha hf
include hap in
theorem start_ok (hr:rightP p=true) (hok:p.Ok) {fuel:Int} (hf:0≤fuel∧fuel≤4096):Vld p (start apply p fuel).1:=by
 have hz:=zero_wf hok
 have h4:=hok.four
 have h8:=hok.eight
 unfold start
 rw [if_neg (by rw [hr];decide),if_neg (by omega)]
 have hG:GorP p ⟨1,0,0,0,List.replicate 8 0⟩:=by
  have hi:=start_in hok
  refine ⟨⟨by decide,by decide⟩,⟨hi.f0,hi.f1,hi.p0,hi.p1,rfl⟩,fun k _ h8=>by show (List.replicate 8 (0:Int)).getD k 0=0;exact rep0 8 k,fun q=>absurd (show (1:Int)=4 from q) (by decide),fun _=>rfl,fun q=>absurd (show (1:Int)=3 from q) (by decide),fun q=>absurd (show (1:Int)=5 from q) (by decide)⟩
 have hx:GorP p (settled apply p zeroGor fuel)∧(settled apply p zeroGor fuel).status≠2∧_:=settledN_ok hap hok fuel.toNat hG rfl
 have z4:∀ i:Nat,i<4→zeroStt.chans.getD i default=zeroChn:=by
  intro i hi
  rcases (show i=0∨i=1∨i=2∨i=3 by omega) with rfl|rfl|rfl|rfl<;>rfl
 have zg:∀ i:Nat,i<6→zeroStt.gos.getD i default=zeroGor:=by
  intro i hi
  rcases (show i=0∨i=1∨i=2∨i=3∨i=4∨i=5 by omega) with rfl|rfl|rfl|rfl|rfl|rfl<;>rfl
 refine ⟨⟨by simp [startVars],rfl,rfl,hz.shape.bufs,by show (List.set _ _ _).length=6;rw [List.length_set];rfl,mem_set hz.shape.regs hx.1.inn.regs 0⟩,⟨(by decide:(1:Int)≤1),(by decide:(1:Int)≤6)⟩,fun i hi=>?_,fun i h6 hi=>?_,fun i h1 h2=>?_,fun i hi=>?_,fun i hi=>?_,fun i h1 _=>z4 i h1,fun g hg h2=>?_⟩
 · have hi:(i:Int)<1:=hi
   have e:i=0:=by omega
   show GorP p ((zeroStt.gos.set 0 _).getD i default)
   rw [e,getD_set,if_pos ⟨rfl,by decide⟩]
   exact hx.1
 · have hi:(1:Int)≤i:=hi
   show (zeroStt.gos.set 0 _).getD i default=zeroGor
   rw [getD_set,if_neg (by omega)]
   exact zg i h6
 · show (startVars p p.vars.length).getD i 0=0
   unfold startVars
   rw [rows_getD h2,if_neg (by omega)]
 · have e:zeroStt.owner.getD i 0=0:=by rcases (show i=0∨i=1∨i=2∨i=3 by omega) with rfl|rfl|rfl|rfl<;>rfl
   show (0≤zeroStt.owner.getD i 0∧zeroStt.owner.getD i 0≤1)∧(p.locks≤(i:Int)→zeroStt.owner.getD i 0=0)
   rw [e];exact ⟨⟨by decide,by decide⟩,fun _=>rfl⟩
 · have e:=z4 i (by omega)
   have hcp:=hok.caps i
   show ChnP p _ 1 i (zeroStt.chans.getD i default)
   rw [e]
   exact ⟨⟨by show (0:Int)≤0;decide,hcp.1⟩,⟨by decide,by decide⟩,fun _=>rfl,fun k _ h4=>by show (List.replicate 4 (0:Int)).getD k 0=0;exact rep0 4 k,fun _=>⟨rfl,rfl⟩,fun q=>absurd rfl q,fun q=>absurd (show (0:Int)=1 from q) (by decide),fun q=>absurd (show (0:Int)=3 from q) (by decide),fun q=>absurd rfl q⟩
 · have hg:(g:Int)<1:=hg
   have e:g=0:=by omega
   have h2:((zeroStt.gos.set 0 _).getD g default).status=2:=h2
   rw [e,getD_set,if_pos ⟨rfl,by decide⟩] at h2
   exact absurd h2 hx.2.1
end
theorem applyW_ok:ApplyOk applyW:=by
 intro op a b
 unfold applyW
 split
 · exact ⟨fun q=>absurd (show (22:Int)=20 from q) (by decide),fun q=>absurd (show (22:Int)=21 from q) (by decide)⟩
 split
 · exact ⟨fun q=>absurd (show (0:Int)=20 from q) (by decide),fun q=>absurd (show (0:Int)=21 from q) (by decide)⟩
 unfold twoW
 have no:∀ {x:Int},(x,(0:Int)).2≠20∧(x,(0:Int)).2≠21:=⟨by show (0:Int)≠20;decide,by show (0:Int)≠21;decide⟩
 by_cases h1:op=16
 · rw [if_pos h1];exact ⟨fun q=>absurd q no.1,fun q=>absurd q no.2⟩
 rw [if_neg h1]
 by_cases h2:op=17
 · rw [if_pos h2];exact ⟨fun q=>absurd q no.1,fun q=>absurd q no.2⟩
 rw [if_neg h2]
 by_cases h3:op=18
 · rw [if_pos h3];exact ⟨fun q=>absurd q no.1,fun q=>absurd q no.2⟩
 rw [if_neg h3]
 by_cases h4:op=19∨op=20
 · rw [if_pos h4]
   refine ⟨fun _=>h4,?_⟩
   by_cases q1:b=0
   · rw [if_pos q1];exact fun q=>absurd (show (20:Int)=21 from q) (by decide)
   rw [if_neg q1]
   by_cases q2:b = -1
   · rw [if_pos q2];split<;>exact fun q=>absurd q no.2
   rw [if_neg q2];split<;>exact fun q=>absurd q no.2
 rw [if_neg h4]
 by_cases h5:op=21∨op=22∨op=23∨op=24
 · rw [if_pos h5];exact ⟨fun q=>absurd q no.1,fun q=>absurd q no.2⟩
 rw [if_neg h5]
 by_cases h6:op=25∨op=26∨op=27
 · rw [if_pos h6]
   refine ⟨?_,fun _=>by omega⟩
   by_cases q1:b<0
   · rw [if_pos q1];exact fun q=>absurd (show (21:Int)=20 from q) (by decide)
   rw [if_neg q1]
   split
   · exact fun q=>absurd q no.1
   · split<;>exact fun q=>absurd q no.1
 rw [if_neg h6]
 split<;>exact ⟨fun q=>absurd q no.1,fun q=>absurd q no.2⟩
end Go.Eng
namespace Go.Eng
section
variable (apply:Int→Int→Int→Int × Int) {p:Prg} {g:Gor}
theorem localStep_status (g:Gor):((localStep apply p g).2=true∧(localStep apply p g).1.status=g.status∨(localStep apply p g).2=false∧((localStep apply p g).1.status=3∨(localStep apply p g).1.status=4)):=by
 unfold localStep
 simp only
 repeat' split
 all_goals first|exact .inl ⟨rfl,rfl⟩|exact .inr ⟨rfl,.inl rfl⟩|exact .inr ⟨rfl,.inr rfl⟩
theorem localStep_func (g:Gor):(localStep apply p g).1.func=g.func:=by
 unfold localStep
 simp only
 repeat' split
 all_goals rfl
def onN (p:Prg) (m:Nat) (g:Gor):Gor:=if g.status=1 then settledN apply p m g else g
theorem onN_live {m:Nat} (h:g.status=1):onN apply p m g=settledN apply p m g:=if_pos h
theorem onN_step {m:Nat} (h1:g.status=1) (hl:isLocal (p.instr g).op=true):onN apply p (m+1) g=onN apply p m (localStep apply p g).1:=by
 unfold onN
 rw [if_pos h1,settledN_succ apply hl]
 rcases localStep_status apply (p:=p) g with ⟨e1,e2⟩|⟨e1,e2⟩
 · rw [e1,if_pos rfl,if_pos (by omega)]
 · rw [e1,if_neg (by simp),if_neg (by omega)]
theorem onN_stop {m:Nat} (h:isLocal (p.instr g).op=false):onN apply p m g=g:=by
 unfold onN
 split
 · exact settledN_stop apply h
 · rfl
theorem onN_over {m:Nat} (h:g.status≠1):onN apply p m g=g:=if_neg h
theorem onN_zero (h1:g.status=1) (hl:isLocal (p.instr g).op=true):onN apply p 0 g=⟨5,g.func,g.pc,g.why,g.regs⟩:=by
 unfold onN;rw [if_pos h1];exact settledN_zero apply hl
end
end Go.Eng
namespace Go.Eng.Tryz
open Go.RowKit Go.Eng
set_option maxHeartbeats 0
set_option maxRecDepth 20000
def lv159:List (Nat × List Nat):=[(0,[1,2,3,6]),(1,[3,6]),(2,[6])]
theorem done_ctr (g:Gor) (status why:Int):Ctr Go.Proofs.Tryz.prog tab 159 [34,3,3] [34] [g.v,.int status,.int why] [(ended g status why).v]:=by
 refine Ctr.body ok Go.Proofs.Tryz.func159 rfl rfl 14 rfl [.cell 6 34] rfl (by simp [fromVs]) ?_
 simp only [fromVs,fromV,args0,V.toList_list,V.toInt_int,V.toBool_bool,Nat.zero_add,Nat.reduceAdd,ty3,ty34]
 repeat' first
  | ((with_reducible refine SARA.do fun R1 hR1=>?_);(simp only [go_sem,seval,-List.reduceReplicate,zeroGo_at]);(repeat' with_reducible refine And.intro ?_ ?_);all_goals first|(refine hR1 _ ?_;clear hR1 R1)|omega|rfl|decide|assumption|(intro _;omega)|(simp;done)|(simp;omega)|(simp [roomFor,maxLen,by3,by39,by45,by48,by37]<;>omega))
  | ((with_reducible refine SARA.nil ?_);refine hR _ ?_;clear hR R;try simp only [go_sem,lv159,lvOf,Nat.reduceBEq,Option.getD_some])
  | (with_reducible first|refine J1 ?_|refine J2 ?_|refine J3 ?_|refine J4 ?_|refine J5 ?_|refine J6 ?_|refine J7 ?_|refine J8 (by decide) ?_|refine J9 ?_|refine J10 ?_|refine J11 ?_|refine J12 ?_|refine J13 ?_|refine J14 ?_|refine J15 ?_|refine J16 ?_|refine J17 ?_|refine J18 ?_|refine J19 ?_)
  | ((with_reducible refine J21 ok (by kernel_rfl) lv159 ?_);intro R hR;simp only [go_sem,strip])
  | ((with_reducible first|refine ctrK.normal ?_|refine ctrK.ret ?_)
     simp only [go_sem,resA,resV,backK,seval]
     exact ⟨rfl,rfl⟩)
def lv139:List (Nat × List Nat):=[(0,[2,3,4]),(1,[2,3,4]),(2,[2,3,4,13]),(3,[2,3,4,5]),(4,[2,3,4,5,16]),(5,[2,3,4,5]),(6,[2,3,4,6,7]),(7,[2,3,4,6,34]),(8,[2,3,4,6,34,35]),(9,[2,4]),(10,[4]),(11,[2,3,4,6,43]),(12,[2,4]),(13,[4]),(14,[2,4]),(15,[2,3,4,13,56]),(16,[2,4]),(17,[2,3,4,13,64]),(18,[2,4]),(19,[2,3,4,13,75]),(20,[2,4]),(21,[2,3,4,13,80]),(22,[2,3,4,87]),(23,[2,4]),(24,[2,3,4,13,91]),(25,[2,4,98]),(26,[2,4]),(27,[4]),(28,[2,3,4,105]),(29,[2,4]),(30,[4]),(31,[4])]
theorem slocal_ctr (p:Prg) (g:Gor) (hok:p.Ok) (hgi:gorIn p g) (hl:isLocal (p.instr g).op=true):Ctr Go.Proofs.Tryz.prog tab 139 [34,129] [34] [g.v,(p.instr g).v] [(localStep applyW p g).1.v]:=by
 obtain ⟨hf0,hf1,hpc0,hpc1,h8⟩:=hgi
 have hgi:gorIn p g:=⟨hf0,hf1,hpc0,hpc1,h8⟩
 have hcl:=hok.code g.func.toNat (by omega)
 have hrg:=hok.regs g.func.toNat
 have hin:=instr_right hok hgi
 have hlr:=local_range hl
 refine Ctr.body ok Go.Proofs.Tryz.func139 rfl rfl 114 rfl [.cell 4 34] rfl (by simp [fromVs]) ?_
 simp only [fromVs,fromV,args0,V.toList_list,V.toInt_int,V.toBool_bool,Nat.zero_add,Nat.reduceAdd,ty34,ty129]
 repeat' first
  | ((with_reducible refine SARA.told 1 3 ?_)
     rw [wrap64_ok (n:=g.pc+1) (by omega) (by omega)])
  | ((with_reducible refine SARA.told 26 3 ?_)
     rw [wrap64_ok (n:=g.pc+1-1) (by omega) (by omega),show g.pc+1-1=g.pc by omega])
  | ((with_reducible refine SARA.told 29 3 ?_)
     rw [wrap64_ok (n:=g.pc+1-1) (by omega) (by omega),show g.pc+1-1=g.pc by omega])
  | ((with_reducible refine SARA.told 9 3 ?_)
     rw [wrap64_ok (n:=g.pc+1-1) (by omega) (by omega),show g.pc+1-1=g.pc by omega])
  | ((with_reducible refine SARA.told 12 3 ?_)
     rw [wrap64_ok (n:=g.pc+1-1) (by omega) (by omega),show g.pc+1-1=g.pc by omega])
  | ((with_reducible first|refine SARA.do fun R1 hR1=>?_|refine SART.do fun R1 hR1=>?_|refine SARB.keep fun R1 hR1=>?_|refine SARB.any fun R1 hR1=>?_);(simp only [go_sem,seval,-List.reduceReplicate,zeroGo_at]);(repeat' with_reducible refine And.intro ?_ ?_);all_goals first|(refine hR1 _ ?_;clear hR1 R1)|((first|refine cq (cc (done_ctr _ _ _)) ?_|refine ce (cf (papply_ctr _ _ _) ?_)|refine ⟨_,_,rfl,.inr (CallB.ctr ok (papply_ctr _ _ _) (by first|rfl|(simp [go_sem];done)|fail) ?_)⟩);all_goals ((try simp only [go_sem,seval,-List.reduceReplicate,zeroGo_at]);(repeat' with_reducible refine And.intro ?_ ?_);all_goals first|(refine hR1 _ ?_;clear hR1 R1)|omega|rfl|decide|assumption|(intro _;omega)|(simp;done)|(simp [-List.getD_eq_getElem?_getD];omega)))|omega|rfl|decide|assumption|(intro _;omega)|(simp;done)|(simp [-List.getD_eq_getElem?_getD];omega))
  | ((with_reducible refine SART.done ?_);refine hR _ ?_;clear hR R;try simp only [go_sem,lv139,lvOf,Nat.reduceBEq,Option.getD_some])
  | (with_reducible first|refine SART.br ?_ ?_|exact SARL.nil|refine SARL.cons ?_ ?_)
  | ((with_reducible refine SARA.nil ?_);refine hR _ ?_;clear hR R;try simp only [go_sem,lv139,lvOf,Nat.reduceBEq,Option.getD_some])
  | (with_reducible first|refine J1 ?_|refine J2 ?_|refine J3 ?_|refine J4 ?_|refine J5 ?_|refine J6 ?_|refine J7 ?_|refine J8 (by decide) ?_|refine J9 ?_|refine J10 ?_|refine J11 ?_|refine J12 ?_|refine J13 ?_|refine J14 ?_|refine J15 ?_|refine J16 ?_|refine J17 ?_|refine J18 ?_|refine J19 ?_)
  | ((with_reducible refine SA.at 16 ?_)
     have hI:=loc40 hin hb56
     (with_reducible refine J21 ok (by kernel_rfl) lv139 ?_);intro R hR;simp only [go_sem,strip])
  | ((with_reducible refine SA.at 22 ?_)
     have hI:=(loc43 hin hb80).1
     (with_reducible refine J21 ok (by kernel_rfl) lv139 ?_);intro R hR;simp only [go_sem,strip])
  | ((with_reducible refine SA.at 25 ?_)
     have hI:=loc44 hin hb91
     (with_reducible refine J21 ok (by kernel_rfl) lv139 ?_);intro R hR;simp only [go_sem,strip])
  | ((with_reducible refine SA.at 5 ?_)
     have hI:=loc2 hin (by omega) (by omega)
     (with_reducible refine J21 ok (by kernel_rfl) lv139 ?_);intro R hR;simp only [go_sem,strip])
  | ((with_reducible refine SA.at 18 ?_)
     have hI:=loc41 hin hb64
     refine SA.regionT ok mixed (.take 0 (.take 1 (.take 2 (.take 3 (.take 4 (.take 5 (.take 6 (.take 7 (.take 8 (.br 9 .done .nil)))))))))) [9] lv139 (by kernel_rfl) (fun R hR=>?_);simp only [go_sem,strip])
  | ((with_reducible refine SA.at 6 ?_)
     have hI:(0≤(p.instr g).a∧(p.instr g).a<8)∧(0≤(p.instr g).b∧(p.instr g).b<8):=by
      by_cases h:(p.instr g).op≤15
      · have:=loc1 hin (by omega) h;omega
      · have:=loc2 hin (by omega) (by omega);omega
     refine SA.regionT ok mixed (.take 0 (.take 1 (.take 2 (.take 3 (.take 4 (.take 5 (.take 6 (.take 7 (.br 8 (.take 9 (.take 10 (.take 11 (.take 12 (.take 13 .done))))) .nil))))))))) [] lv139 (by kernel_rfl) (fun R hR=>?_);simp only [go_sem,strip])
  | ((with_reducible refine J21 ok (by kernel_rfl) lv139 ?_);intro R hR;simp only [go_sem,strip])
  | ((with_reducible refine J20 16 rfl (fun hb16=>?_) (fun hb16=>?_))
     all_goals
      try simp [-List.getD_eq_getElem?_getD] at hb16
      try (exfalso;omega))
  | ((with_reducible refine J20 35 rfl (fun hb35=>?_) (fun hb35=>?_))
     all_goals
      try simp [-List.getD_eq_getElem?_getD] at hb35
      try (exfalso;omega))
  | ((with_reducible refine J20 43 rfl (fun hb43=>?_) (fun hb43=>?_))
     all_goals
      try simp [-List.getD_eq_getElem?_getD] at hb43
      try (exfalso;omega))
  | ((with_reducible refine J20 56 rfl (fun hb56=>?_) (fun hb56=>?_))
     all_goals
      try simp [-List.getD_eq_getElem?_getD] at hb56
      try (exfalso;omega))
  | ((with_reducible refine J20 64 rfl (fun hb64=>?_) (fun hb64=>?_))
     all_goals
      try simp [-List.getD_eq_getElem?_getD] at hb64
      try (exfalso;omega))
  | ((with_reducible refine J20 75 rfl (fun hb75=>?_) (fun hb75=>?_))
     all_goals
      try simp [-List.getD_eq_getElem?_getD] at hb75
      try (exfalso;omega))
  | ((with_reducible refine J20 80 rfl (fun hb80=>?_) (fun hb80=>?_))
     all_goals
      try simp [-List.getD_eq_getElem?_getD] at hb80
      try (exfalso;omega))
  | ((with_reducible refine J20 87 rfl (fun hb87=>?_) (fun hb87=>?_))
     all_goals
      try simp [-List.getD_eq_getElem?_getD] at hb87
      try (exfalso;omega))
  | ((with_reducible refine J20 91 rfl (fun hb91=>?_) (fun hb91=>?_))
     all_goals
      try simp [-List.getD_eq_getElem?_getD] at hb91
      try (exfalso;omega))
  | ((with_reducible refine J20 98 rfl (fun hb98=>?_) (fun hb98=>?_))
     all_goals
      try simp [-List.getD_eq_getElem?_getD] at hb98
      try (exfalso;omega))
  | ((with_reducible refine J20 105 rfl (fun hb105=>?_) (fun hb105=>?_))
     all_goals
      try simp [-List.getD_eq_getElem?_getD] at hb105
      try (exfalso;omega))
  | ((with_reducible first|refine ctrK.normal ?_|refine ctrK.ret ?_)
     simp only [go_sem,resA,resV,backK,seval]
     first
      | (have q:(p.instr g).op=40:=hb56
         exact ⟨rfl,congrArg (fun r:Gor × Bool=>some r.1.v) (ls40 applyW (by omega) (by omega) hb56).symm⟩)
      | (have q:(p.instr g).op=41:=hb64
         exact ⟨rfl,congrArg (fun r:Gor × Bool=>some r.1.v) (ls41 applyW (by omega) (by omega) (by omega) hb64).symm⟩)
      | (have q:(p.instr g).op=42:=hb75
         exact ⟨rfl,congrArg (fun r:Gor × Bool=>some r.1.v) (ls42 applyW (by omega) (by omega) (by omega) (by omega) hb75).symm⟩)
      | (have q:¬_=_:=hb87
         exact ⟨rfl,congrArg (fun r:Gor × Bool=>some r.1.v) (ls43 applyW (by omega) (by omega) (by omega) (by omega) (by omega) hb80 hb87).symm⟩)
      | (have q:_=_:=hb87
         exact ⟨rfl,congrArg (fun r:Gor × Bool=>some r.1.v) (ls43f applyW (by omega) (by omega) (by omega) (by omega) (by omega) hb80 hb87).symm⟩)
      | (have q:_=_:=hb98
         exact ⟨rfl,congrArg (fun r:Gor × Bool=>some r.1.v) (ls44z applyW (by omega) (by omega) (by omega) (by omega) (by omega) (by omega) hb91 hb98).symm⟩)
      | (have q:¬_=_:=hb98
         exact ⟨rfl,congrArg (fun r:Gor × Bool=>some r.1.v) (ls44 applyW (by omega) (by omega) (by omega) (by omega) (by omega) (by omega) hb91 hb98).symm⟩)
      | (have q:(p.instr g).op=45:=hb105
         exact ⟨rfl,congrArg (fun r:Gor × Bool=>some r.1.v) (ls45 (p:=p) (g:=g) applyW (by omega) (by omega) (by omega) (by omega) (by omega) (by omega) (by omega) ).symm⟩)
      | (have q:15<(p.instr g).op:=hb16
         have q:_=_:=hb35
         exact ⟨rfl,congrArg (fun r:Gor × Bool=>some r.1.v) (ls2z applyW (by omega) (by omega) hb35).symm⟩)
      | (have q:15<(p.instr g).op:=hb16
         have q:_=_:=hb43
         exact ⟨rfl,congrArg (fun r:Gor × Bool=>some r.1.v) (ls2s applyW (by omega) (by omega) hb35 hb43).symm⟩)
      | (have q:15<(p.instr g).op:=hb16
         have q:¬_=_:=hb43
         exact ⟨rfl,congrArg (fun r:Gor × Bool=>some r.1.v) (ls2 applyW (by omega) (by omega) hb35 hb43).symm⟩)
      | (have q:(p.instr g).op≤15:=hb16
         have q:_=_:=hb35
         have q2:=(applyW_ok _ _ _).1 hb35
         exfalso
         omega)
      | (have q:(p.instr g).op≤15:=hb16
         have q:_=_:=hb43
         have q2:=(applyW_ok _ _ _).2 hb43
         exfalso
         omega)
      | (have q:(p.instr g).op≤15:=hb16
         exact ⟨rfl,congrArg (fun r:Gor × Bool=>some r.1.v) (ls1 applyW (by omega) ).symm⟩))
end Go.Eng.Tryz
namespace Go.Eng.Tryz
open Go.RowKit Go.Eng
set_option maxHeartbeats 0
set_option maxRecDepth 20000
theorem slocal2_ctr (p:Prg) (g:Gor) (x:Instr) (hx:x=p.instr g) (hok:p.Ok) (hgi:gorIn p g) (hl:isLocal (p.instr g).op=true):Ctr Go.Proofs.Tryz.prog tab 139 [34,129] [34] [g.v,x.v] [(localStep applyW p g).1.v]:=by subst hx;exact slocal_ctr p g hok hgi hl
def lv100:List (Nat × List Nat):=[(0,[2,3,4,6]),(1,[2,4,6,7]),(2,[2,4,6,7,26]),(3,[2,4,6,7,28]),(4,[4,6]),(5,[6]),(6,[2,4,6,7]),(7,[2,4,6,7]),(8,[6])]
theorem ssettled_ctr (p:Prg) (g:Gor) (m0:Nat) (hp:p.Fit) (hr:rightP p=true) (hg:gorIn p g) (hm0:m0≤4096) (h1:g.status=1):Ctr Go.Proofs.Tryz.prog tab 100 [26,34,3] [34] [p.v,g.v,.int m0] [(settledN applyW p m0 g).v]:=by
 have hfit:=hp
 have hcode:=p.code_len hp
 have hsl:=p.sels_len hp
 obtain ⟨hp1,hp2,hp3,hp4⟩:=hp
 have hok:=Prg.ok hr
 have hg0:=hg.f0
 have hg1:=hg.f1
 refine Ctr.body ok Go.Proofs.Tryz.func100 rfl rfl 41 rfl [.cell 6 34] rfl (by simp [fromVs]) ?_
 simp only [fromVs,fromV,args0,V.toList_list,V.toInt_int,V.toBool_bool,Nat.zero_add,Nat.reduceAdd,ty3,ty26,ty34]
 repeat' first
  | ((with_reducible refine SARA.told 1 5 ?_)
     rw [getD_fncs (by omega)])
  | ((with_reducible refine SARA.told 2 8 ?_)
     rw [getD_instrs (by omega)])
  | ((with_reducible refine SART.told 7 4 ?_)
     rw [getD_instrs (by omega)])
  | ((with_reducible first|refine SARA.do fun R1 hR1=>?_|refine SART.do fun R1 hR1=>?_|refine SARB.keep fun R1 hR1=>?_|refine SARB.any fun R1 hR1=>?_);(simp only [go_sem,seval,-List.reduceReplicate,zeroGo_at,Bool.cond_false_right,Bool.cond_true_left,Gor.put0,Gor.put2,Gor.put3,Gor.put4,set_ints]);(repeat' with_reducible refine And.intro ?_ ?_);all_goals first|(refine hR1 _ ?_;clear hR1 R1)|(intro hgf;simp only [hgf];refine hR1 _ ?_;clear hR1 R1)|((first|refine cq (cc (plocal_ctr _)) ?_|refine ⟨_,_,rfl,.inl ⟨_,fun hg=>CallQ.ctr ok (plocal_ctr _) (by first|rfl|(simp [go_sem];done)|fail) rfl,?_⟩⟩|refine cq (cc (slocal2_ctr p h ((p.funcs.getD g.func.toNat default).code.getD h.pc.toNat default) (by unfold Prg.instr;rw [hfn]) hok hgi hlc)) ?_|refine ⟨_,_,rfl,.inl ⟨_,fun hg=>CallQ.ctr ok (slocal2_ctr p h ((p.funcs.getD g.func.toNat default).code.getD h.pc.toNat default) (by unfold Prg.instr;rw [hfn]) hok hgi hlc) (by first|rfl|(simp [go_sem];done)|fail) rfl,?_⟩⟩);all_goals ((try simp only [go_sem,seval,-List.reduceReplicate,zeroGo_at,Bool.cond_false_right,Bool.cond_true_left,Gor.put0,Gor.put2,Gor.put3,Gor.put4,set_ints]);(repeat' with_reducible refine And.intro ?_ ?_);all_goals first|(refine hR1 _ ?_;clear hR1 R1)|(intro hgf;simp only [hgf];refine hR1 _ ?_;clear hR1 R1)|omega|rfl|decide|assumption|(intro _;omega)|(simp;done)|(simp [-List.getD_eq_getElem?_getD];omega)|exact hcode _|(intro _;exact hcode _)|exact hsl _|(intro _;exact hsl _)))|omega|rfl|decide|assumption|(intro _;omega)|(simp;done)|(simp [-List.getD_eq_getElem?_getD];omega)|exact hcode _|(intro _;exact hcode _)|exact hsl _|(intro _;exact hsl _))
  | ((with_reducible refine SART.done ?_);refine hR _ ?_;clear hR R;try simp only [go_sem,lv100,lvOf,Nat.reduceBEq,Option.getD_some])
  | (with_reducible first|refine SART.br ?_ ?_|exact SARL.nil|refine SARL.cons ?_ ?_)
  | ((with_reducible refine SARA.nil ?_);refine hR _ ?_;clear hR R;try simp only [go_sem,lv100,lvOf,Nat.reduceBEq,Option.getD_some])
  | (with_reducible first|refine J1 ?_|refine J2 ?_|refine J3 ?_|refine J4 ?_|refine J5 ?_|refine J6 ?_|refine J7 ?_|refine J8 (by decide) ?_|refine J9 ?_|refine J10 ?_|refine J11 ?_|refine J12 ?_|refine J13 ?_|refine J14 ?_|refine J15 ?_|refine J16 ?_|refine J17 ?_|refine J18 ?_|refine J19 ?_)
  | ((with_reducible refine SA.at 2 ?_)
     obtain ⟨hf0,hf1,hpc0,hpc1,h8⟩:=hgi
     have hgi:gorIn p h:=⟨hf0,hf1,hpc0,hpc1,h8⟩
     rw [hfn] at hpc1
     have hcl:=hok.code g.func.toNat (by omega)
     (with_reducible refine J21 ok (by kernel_rfl) lv100 ?_);intro R hR;simp only [go_sem,strip])
  | ((with_reducible refine SA.at 3 ?_)
     have hlc:isLocal (p.instr h).op=true:=by
      unfold Prg.instr
      rw [hfn]
      exact hb26.2
     (with_reducible refine J21 ok (by kernel_rfl) lv100 ?_);intro R hR;simp only [go_sem,strip])
  | ((with_reducible refine SA.at 7 ?_)
     refine SA.regionT ok mixed (.take 0 (.take 1 (.take 2 (.take 3 (.take 4 (.take 5 (.br 6 (.br 7 .done .nil) .nil))))))) [7] lv100 (by kernel_rfl) (fun R hR=>?_);simp only [go_sem,strip])
  | ((with_reducible refine J21 ok (by kernel_rfl) lv100 ?_);intro R hR;simp only [go_sem,strip])
  | ((with_reducible refine J20 26 rfl (fun hb26=>?_) (fun hb26=>?_))
     all_goals
      try simp [-List.getD_eq_getElem?_getD] at hb26
      try (exfalso;omega))
  | ((with_reducible refine J20 28 rfl (fun hb28=>?_) (fun hb28=>?_))
     all_goals
      try simp [-List.getD_eq_getElem?_getD] at hb28
      try (exfalso;omega))
  | ((with_reducible refine SA.atLoop ?_)
     refine SA.weaken (St.le.of_eq (by first|rfl|(simp;done)|fail)) (SA.loop (fun n τ=>∃ (m:Nat) (h:Gor),n=m∧(m≤4096∧gorIn p h∧h.func=g.func∧onN applyW p m h=settledN applyW p m0 g)∧τ={ tm:=[(2,true,.int .i64 m),(4,true,.ptr 1 [] 34),(6,true,.ptr 2 [] 34),(7,true,.fs 129 ((p.funcs.getD g.func.toNat default).code.map Instr.v) false)],ob:=[.var 26 (.data 26 p.v),.var 34 (.data 34 h.v),.var 34 (.data 34 zeroGor.v)],out:=[],nt:=41 }) (m0) ⟨m0,g,rfl,⟨hm0,hg,rfl,onN_live applyW h1⟩,rfl⟩ ?_)
     rintro n τ ⟨m,h,hn,⟨hm,hgi,hfn,hset⟩,rfl⟩)
  | ((with_reducible refine loopK.round ?_)
     first
      | (obtain ⟨m',rfl⟩:∃ m',m=m'+1:=⟨m-1,by omega⟩
         have hw:IntKind.i64.wrap (((m'+1:Nat):Int)-1)=(m':Int):=by rw [wrap64_ok (by omega) (by omega)];omega
         have hin':=localStep_in applyW hok hgi hlc
         have hst:=onN_step applyW (m:=m') hb26.1 hlc
         refine loopK.normal m' _ (by omega) (St.le.of_eq (by simp only [hw])) ⟨m',_,rfl,⟨by omega,hin',(localStep_func applyW h).trans hfn,by rw [← hst];exact hset⟩,rfl⟩))
  | ((with_reducible first|refine ctrK.normal ?_|refine ctrK.ret ?_)
     simp only [go_sem,resA,resV,backK,seval]
     first
      | (have q:m=0:=hb28
         subst hb28
         rw [onN_zero applyW hb26.1 hlc] at hset
         exact ⟨rfl,congrArg (fun g:Gor=>some g.v) hset⟩)
      | (have hs:onN applyW p m h=h:=by
          by_cases q:h.status=1
          · exact onN_stop applyW (by unfold Prg.instr;rw [hfn];exact hb26 q)
          · exact onN_over applyW q
         rw [hs] at hset
         exact ⟨rfl,congrArg (fun g:Gor=>some g.v) hset⟩))
def lv99:List (Nat × List Nat):=[(0,[0]),(1,[2])]
theorem fuelled_ctr (fuel:Int):Ctr Go.Proofs.Tryz.prog tab 99 [3] [4] [.int fuel] [.bool (decide (0≤fuel)&&decide (fuel≤4096))]:=by
 refine Ctr.body ok Go.Proofs.Tryz.func99 rfl rfl 9 rfl [.tmp 2] rfl (by simp [fromVs]) ?_
 simp only [fromVs,fromV,args0,V.toList_list,V.toInt_int,V.toBool_bool,Nat.zero_add,Nat.reduceAdd,ty3]
 repeat' first
  | ((with_reducible refine SARA.do fun R1 hR1=>?_);(simp only [go_sem,seval,-List.reduceReplicate,Bool.cond_false_right,Bool.cond_true_left]);(repeat' with_reducible refine And.intro ?_ ?_);all_goals first|(refine hR1 _ ?_;clear hR1 R1)|omega|rfl|decide|assumption|(intro _;omega)|(simp;done)|(simp;omega))
  | ((with_reducible refine SARA.nil ?_);refine hR _ ?_;clear hR R;try simp only [go_sem,lv99,lvOf,Nat.reduceBEq,Option.getD_some])
  | (with_reducible first|refine J1 ?_|refine J2 ?_|refine J3 ?_|refine J4 ?_|refine J5 ?_|refine J6 ?_|refine J7 ?_|refine J8 (by decide) ?_|refine J9 ?_|refine J10 ?_|refine J11 ?_|refine J12 ?_|refine J13 ?_|refine J14 ?_|refine J15 ?_|refine J16 ?_|refine J17 ?_|refine J18 ?_|refine J19 ?_)
  | ((with_reducible refine J21 ok (by kernel_rfl) lv99 ?_);intro R hR;simp only [go_sem,strip])
  | ((with_reducible first|refine ctrK.normal ?_|refine ctrK.ret ?_)
     simp only [go_sem,resA,resV,backK,seval]
     first|exact ⟨rfl,rfl⟩|rfl)
end Go.Eng.Tryz
namespace Go.Eng.Tryz
open Go.RowKit Go.Eng
set_option maxHeartbeats 0
set_option maxRecDepth 20000
theorem ssettled_ctr' (p:Prg) (g:Gor) (fuel:Int) (hp:p.Fit) (hr:rightP p=true) (hg:gorIn p g) (hf:0≤fuel∧fuel≤4096) (h1:g.status=1):Ctr Go.Proofs.Tryz.prog tab 100 [26,34,3] [34] [p.v,g.v,.int fuel] [(settledN applyW p fuel.toNat g).v]:=by
 obtain ⟨m,rfl⟩:=Int.eq_ofNat_of_zero_le hf.1
 exact ssettled_ctr p g m hp hr hg (by omega) h1
def lv122:List (Nat × List Nat):=[(0,[2,3,4,5,8]),(1,[2,3,4,5,8,13]),(2,[8,9]),(3,[2,3,4,5,8,18]),(4,[8,9]),(5,[2,3,4,5,8,30]),(6,[8,9]),(7,[2,3,4,5,8,35]),(8,[8,9]),(9,[2,3,4,5,8,10]),(10,[2,3,4,5,8,10,48]),(11,[2,3,4,5,8,10]),(12,[5,8]),(13,[8,9])]
theorem psettle_ctr (p:Prg) (s:Stt) (g fuel:Int) (hp:p.Fit) (hs:s.Shape):Ctr Go.Proofs.Tryz.prog tab 122 [26,37,3,3] [37,49] [p.v,s.v,.int g,.int fuel] [(settle applyW p s g fuel).1.v,.int (settle applyW p s g fuel).2]:=by
 have hpp:=hp
 have hfit:=hp
 have hcode:=p.code_len hp
 have hsl:=p.sels_len hp
 obtain ⟨hp1,hp2,hp3,hp4⟩:=hp
 have hs5:=hs.gos
 refine Ctr.body ok Go.Proofs.Tryz.func122 rfl rfl 58 rfl [.cell 8 37,.tmp 9] rfl (by simp [fromVs]) ?_
 simp only [fromVs,fromV,args0,V.toList_list,V.toInt_int,V.toBool_bool,Nat.zero_add,Nat.reduceAdd,ty3,ty26,ty37]
 repeat' first
  | ((with_reducible refine SARA.told 9 4 ?_)
     rw [getD_gors (by omega)])
  | ((with_reducible refine SARA.do fun R1 hR1=>?_);(simp only [go_sem,seval,-List.reduceReplicate,zeroGo_at,zeroState_at,Bool.cond_false_right,Bool.cond_true_left,Gor.put0,Gor.put2,Gor.put3,Gor.put4,set_ints]);(repeat' with_reducible refine And.intro ?_ ?_);all_goals first|(refine hR1 _ ?_;clear hR1 R1)|(intro hgf;simp only [hgf];refine hR1 _ ?_;clear hR1 R1)|((first|refine cq (cc (sright_ctr p hpp)) ?_|refine ⟨_,_,rfl,.inl ⟨_,fun hg=>CallQ.ctr ok (sright_ctr p hpp) (by first|rfl|(simp [go_sem];done)|fail) rfl,?_⟩⟩|refine cq (cc (pvalid_ctr p s hpp hs)) ?_|refine ⟨_,_,rfl,.inl ⟨_,fun hg=>CallQ.ctr ok (pvalid_ctr p s hpp hs) (by first|rfl|(simp [go_sem];done)|fail) rfl,?_⟩⟩|refine cq (cc (fuelled_ctr _)) ?_|refine ⟨_,_,rfl,.inl ⟨_,fun hg=>CallQ.ctr ok (fuelled_ctr _) (by first|rfl|(simp [go_sem];done)|fail) rfl,?_⟩⟩|refine cq (cc (ssettled_ctr' p ⟨1,(s.gos.getD g.toNat default).func,(s.gos.getD g.toNat default).pc,(s.gos.getD g.toNat default).why,(s.gos.getD g.toNat default).regs⟩ fuel hpp hb13 hgi1 hf rfl)) ?_|refine ⟨_,_,rfl,.inl ⟨_,fun hg=>CallQ.ctr ok (ssettled_ctr' p ⟨1,(s.gos.getD g.toNat default).func,(s.gos.getD g.toNat default).pc,(s.gos.getD g.toNat default).why,(s.gos.getD g.toNat default).regs⟩ fuel hpp hb13 hgi1 hf rfl) (by first|rfl|(simp [go_sem];done)|fail) rfl,?_⟩⟩);all_goals ((try simp only [go_sem,seval,-List.reduceReplicate,zeroGo_at,zeroState_at,Bool.cond_false_right,Bool.cond_true_left,Gor.put0,Gor.put2,Gor.put3,Gor.put4,set_ints]);(repeat' with_reducible refine And.intro ?_ ?_);all_goals first|(refine hR1 _ ?_;clear hR1 R1)|(intro hgf;simp only [hgf];refine hR1 _ ?_;clear hR1 R1)|omega|rfl|decide|assumption|(intro _;omega)|(simp;done)|(simp [-List.getD_eq_getElem?_getD];omega)|exact hcode _|(intro _;exact hcode _)|exact hsl _|(intro _;exact hsl _)))|omega|rfl|decide|assumption|(intro _;omega)|(simp;done)|(simp [-List.getD_eq_getElem?_getD];omega)|exact hcode _|(intro _;exact hcode _)|exact hsl _|(intro _;exact hsl _))
  | ((with_reducible refine SARA.nil ?_);refine hR _ ?_;clear hR R;try simp only [go_sem,lv122,lvOf,Nat.reduceBEq,Option.getD_some])
  | (with_reducible first|refine J1 ?_|refine J2 ?_|refine J3 ?_|refine J4 ?_|refine J5 ?_|refine J6 ?_|refine J7 ?_|refine J8 (by decide) ?_|refine J9 ?_|refine J10 ?_|refine J11 ?_|refine J12 ?_|refine J13 ?_|refine J14 ?_|refine J15 ?_|refine J16 ?_|refine J17 ?_|refine J18 ?_|refine J19 ?_)
  | ((with_reducible refine SA.at 5 ?_)
     obtain ⟨hv1,hv2,hv3,hv4⟩:=valid_parts hb18
     (with_reducible refine J21 ok (by kernel_rfl) lv122 ?_);intro R hR;simp only [go_sem,strip])
  | ((with_reducible refine SA.at 9 ?_)
     have hgi:=gor_in hs hv3 (g:=g) (by omega) (by omega) (by omega)
     have hf:0≤fuel∧fuel≤4096:=by omega
     have hgi1:gorIn p ⟨1,(s.gos.getD g.toNat default).func,(s.gos.getD g.toNat default).pc,(s.gos.getD g.toNat default).why,(s.gos.getD g.toNat default).regs⟩:=⟨hgi.f0,hgi.f1,hgi.p0,hgi.p1,hgi.regs⟩
     (with_reducible refine J21 ok (by kernel_rfl) lv122 ?_);intro R hR;simp only [go_sem,strip])
  | ((with_reducible refine J21 ok (by kernel_rfl) lv122 ?_);intro R hR;simp only [go_sem,strip])
  | ((with_reducible refine J20 13 rfl (fun hb13=>?_) (fun hb13=>?_))
     all_goals
      try simp [-List.getD_eq_getElem?_getD] at hb13
      try (exfalso;omega))
  | ((with_reducible refine J20 18 rfl (fun hb18=>?_) (fun hb18=>?_))
     all_goals
      try simp [-List.getD_eq_getElem?_getD] at hb18
      try (exfalso;omega))
  | ((with_reducible refine J20 30 rfl (fun hb30=>?_) (fun hb30=>?_))
     all_goals
      try simp [-List.getD_eq_getElem?_getD] at hb30
      try (exfalso;omega))
  | ((with_reducible refine J20 35 rfl (fun hb35=>?_) (fun hb35=>?_))
     all_goals
      try simp [-List.getD_eq_getElem?_getD] at hb35
      try (exfalso;omega))
  | ((with_reducible refine J20 48 rfl (fun hb48=>?_) (fun hb48=>?_))
     all_goals
      try simp [-List.getD_eq_getElem?_getD] at hb48
      try (exfalso;omega))
  | ((with_reducible first|refine ctrK.normal ?_|refine ctrK.ret ?_)
     simp only [go_sem,resA,resV,backK,seval]
     first
      | (have q:_∨_:=hb48
         have e:settle applyW p s g fuel=(⟨s.vars,s.owner,s.chans,s.gos.set g.toNat (settled applyW p (s.gor g) fuel),s.count⟩,0):=(if_neg (by rw [hb13];simp)).trans ((if_neg (by rw [hb18];simp)).trans ((if_neg (by omega)).trans ((if_neg (by omega)).trans (if_pos hb48))))
         rw [e]
         exact ⟨⟨rfl,rfl⟩,⟨rfl,rfl⟩⟩)
      | (have q:_∧_:=hb48
         have e:settle applyW p s g fuel=(s,0):=(if_neg (by rw [hb13];simp)).trans ((if_neg (by rw [hb18];simp)).trans ((if_neg (by omega)).trans ((if_neg (by omega)).trans (if_neg (fun q=>q.elim hb48.1 hb48.2)))))
         rw [e]
         exact ⟨⟨rfl,rfl⟩,⟨rfl,rfl⟩⟩)
      | (have q:=hb35
         have e:settle applyW p s g fuel=(zeroStt,9):=(if_neg (by rw [hb13];simp)).trans ((if_neg (by rw [hb18];simp)).trans ((if_neg (by omega)).trans (if_pos hb35)))
         rw [e]
         exact ⟨⟨rfl,rfl⟩,⟨rfl,rfl⟩⟩)
      | (have q:=hb30
         have e:settle applyW p s g fuel=(zeroStt,1):=(if_neg (by rw [hb13];simp)).trans ((if_neg (by rw [hb18];simp)).trans (if_pos (by omega)))
         rw [e]
         exact ⟨⟨rfl,rfl⟩,⟨rfl,rfl⟩⟩)
      | (have q:=hb18
         have e:settle applyW p s g fuel=(zeroStt,4):=(if_neg (by rw [hb13];simp)).trans (if_pos hb18)
         rw [e]
         exact ⟨⟨rfl,rfl⟩,⟨rfl,rfl⟩⟩)
      | (have e:settle applyW p s g fuel=(zeroStt,3):=if_pos hb13
         rw [e]
         exact ⟨⟨rfl,rfl⟩,⟨rfl,rfl⟩⟩))
end Go.Eng.Tryz
