/- A part of the proof: walks through the program's functions, and what they compute. -/
import Derived.Test.YtedceinkpkoncaaGreatDoorPk34
import Derived.Test.YtedceinkpkoncaaGreatDoorPk12
import Derived.Test.YtedceinkpkoncaaGreatDoorPk32
set_option linter.unusedSimpArgs false
set_option linter.unusedVariables false
namespace Go.Eng
section
variable {A B:Int→Int→Prop} {s t:Stt} {p:Prg} {g:Int}
theorem ite_dag {c:Prop} [Decidable c] {a b a' b':Did} (h1:c→DAg A a a') (h2:¬c→DAg A b b'):DAg A (if c then a else b) (if c then a' else b'):=by
 by_cases h:c
 · rw [if_pos h,if_pos h];exact h1 h
 · rw [if_neg h,if_neg h];exact h2 h
theorem toN (n:Int) (h:0≤n) {k:Int} (hA:A k n):A k (n.toNat:Int):=by rw [Int.toNat_of_nonneg h];exact hA
structure Stand (p:Prg) (s t:Stt) (g:Int):Prop where
 gor:t.gor g=s.gor g
 ins:instrAt p t g=instrAt p s g
 op:opAt p t g=opAt p s g
 sel:selAt p t g=selAt p s g
theorem Stand.of (h:s.gor g=t.gor g):Stand p s t g:=by
 have ei:instrAt p t g=instrAt p s g:=by unfold instrAt;rw [h]
 exact ⟨h.symm,ei,by unfold opAt;rw [h,ei],by unfold selAt;rw [h,ei]⟩
theorem op_not66 (h:opAt p s g≠66):opAt p s g=(instrAt p s g).op:=by
 unfold opAt at h ⊢
 by_cases hs:(s.gor g).status=2
 · rw [if_pos hs] at h;exact absurd rfl h
 · rw [if_neg hs]
structure Opers (p:Prg) (s:Stt) (g:Int):Prop where
 o50:opAt p s g=50→0≤(instrAt p s g).b
 o54:opAt p s g=54→0≤(instrAt p s g).a
 o51:opAt p s g=51→0≤(instrAt p s g).a
 o52:opAt p s g=52∨opAt p s g=53→0≤(instrAt p s g).b
 o55:opAt p s g=55∨opAt p s g=56→0≤(instrAt p s g).a
 o57:opAt p s g=57→0≤(instrAt p s g).b
 o58:opAt p s g=58∨opAt p s g=60∨opAt p s g=66→0≤(instrAt p s g).a
 o59:opAt p s g=59→0≤(instrAt p s g).b
 o61:opAt p s g=61→∀ i,i<(selAt p s g).cases.length→0≤((selAt p s g).cases.getD i default).chan
theorem opers (hok:p.Ok) (hw:Wf p s) (hg:0≤g∧g<s.count):Opers p s g:=by
 have hgi:=hw.gos g hg.1 hg.2
 have hrt:instrErr p (p.funcs.getD (s.gos.getD g.toNat default).func.toNat default) (instrAt p s g)=0:=hw.right hok hg.1 hg.2
 have opc:∀ {k:Int},opAt p s g=k→k≠66→(instrAt p s g).op=k:=fun h hk=>hw.op_at hok hg.1 hg.2 h hk
 refine ⟨fun h=>(vis50 hrt (opc h (by decide))).2.1,fun h=>(vis54 hrt (opc h (by decide))).1.1,fun h=>(vis51 hrt (opc h (by decide))).1.1,fun h=>?_,fun h=>?_,fun h=>(vis57 hrt (opc h (by decide))).2.1,fun h=>?_,fun h=>(vis59 hrt (opc h (by decide))).2.1.1,fun h i hi=>?_⟩
 · rcases h with h|h
   · exact (vis52 hrt (opc h (by decide))).2.1.1
   · exact (vis53 hrt (opc h (by decide))).2.1.1
 · exact (vis55 hrt (by rcases h with h|h;exact .inl (opc h (by decide));exact .inr (opc h (by decide)))).1
 · rcases h with h|h|h
   · exact (vis58 hrt (opc h (by decide))).1.1
   · exact (vis60 hrt (opc h (by decide))).1
   · exact (vis58 hrt (hw.op66 hok hg.1 hg.2 h)).1.1
 · have hI:=vis61 hrt (opc h (by decide))
   exact (case_ok hok (i:=(s.gos.getD g.toNat default).func.toNat) (j:=(instrAt p s g).a.toNat) (k:=i) (by have:=hgi.f0;have:=hgi.f1;omega) (by omega) hi).chan.1
theorem visible_R (h:Ag A s t) (hF:Foot A B p s g) (hBA:∀ k n,B k n→A k n) (hO:Opers p s g) (hg0:0≤g) {alt:Int} (ha:alt∈alts p s g):DAg A (visible p s g alt) (visible p t g alt):=by
 have hg:A 5 g.toNat:=toN g hg0 (hBA _ _ hF.own)
 obtain ⟨eg,ei,eo,es⟩:=Stand.of (p:=p) (h.gos g.toNat hg)
 unfold visible
 simp only [eg,ei,eo,es]
 refine ite_dag (fun h66=>doTaken_R h (toN _ (hO.o58 (.inr (.inr h66))) (hBA _ _ (hF.c58 (.inr (.inr h66)))))) (fun n66=>?_)
 refine ite_dag (fun h58=>doSend_R h (toN _ (hO.o58 (.inl h58)) (hBA _ _ (hF.c58 (.inl h58))))) (fun n58=>?_)
 refine ite_dag (fun h59=>doRecv_R h hg (toN _ (hO.o59 h59) (hBA _ _ (hF.c59 h59)))) (fun n59=>?_)
 refine ite_dag (fun h60=>doClose_R h (toN _ (hO.o58 (.inr (.inl h60))) (hBA _ _ (hF.c58 (.inr (.inl h60)))))) (fun n60=>?_)
 refine ite_dag (fun h62=>doSpawn_R h hg (hBA _ _ (hF.c62 h62).1)) (fun n62=>?_)
 refine ite_dag (fun h63=>?_) (fun n63=>?_)
 · rw [← h.count (hF.c63 h63).1]
   exact ite_dag (fun _=>⟨h,rfl,rfl,rfl⟩) (fun _=>⟨h,rfl,rfl,rfl⟩)
 refine ite_dag (fun _=>⟨h,rfl,rfl,rfl⟩) (fun n65=>?_)
 refine ite_dag (fun h61=>?_) (fun n61=>?_)
 · refine ite_dag (fun _=>⟨h,rfl,rfl,rfl⟩) (fun hn=>?_)
   rcases alts_sel ha h61 with q|⟨k,rfl,hk,_⟩
   · exact absurd q hn
   · rw [Int.toNat_natCast]
     have hc:A 3 (((selAt p s g).cases.getD k default).chan.toNat:Int):=toN _ (hO.o61 h61 k hk) (hBA _ _ (hF.c61 h61 k hk))
     split
     · exact doSend_R h hc
     · exact doRecv_R h hg hc
 · have e:=op_not66 n66
   refine doVars_R h hg (fun q=>?_) (fun q=>?_) (fun q=>?_) (fun q=>?_)
   · exact toN _ (hO.o50 (e.trans q)) (hF.c50 (e.trans q))
   · exact toN _ (hO.o52 (by rw [e];exact q)) (hBA _ _ (hF.c52 (by rw [e];exact q)))
   · exact toN _ (hO.o55 (.inr (e.trans q))) (hBA _ _ (hF.c55 (.inr (e.trans q))))
   · exact toN _ (hO.o57 (e.trans q)) (hBA _ _ (hF.c57 (e.trans q)))
theorem notA (n:Int) (h:0≤n) {k:Int} (hB:B k n) (hBA:∀ k n,B k n→¬A k n):¬A k (n.toNat:Int):=by rw [Int.toNat_of_nonneg h];exact hBA _ _ hB
theorem visible_F {C:Int→Int→Prop} (hF:Foot C B p s g) (hBA:∀ k n,B k n→¬A k n) (hO:Opers p s g) (hg0:0≤g) (hc0:0≤s.count) {alt:Int} (ha:alt∈alts p s g):Ag A (visible p s g alt).s s:=by
 have hg:¬A 5 g.toNat:=notA g hg0 hF.own hBA
 have h:Ag A s s:=Ag.refl s
 unfold visible
 refine ite_did (q:=fun u=>Ag A u s) (fun h66=>doTaken_F h hg (notA _ (hO.o58 (.inr (.inr h66))) (hF.c58 (.inr (.inr h66))) hBA)) (fun n66=>?_)
 refine ite_did (q:=fun u=>Ag A u s) (fun h58=>doSend_F h hg (notA _ (hO.o58 (.inl h58)) (hF.c58 (.inl h58)) hBA)) (fun n58=>?_)
 refine ite_did (q:=fun u=>Ag A u s) (fun h59=>doRecv_F h hg (notA _ (hO.o59 h59) (hF.c59 h59) hBA)) (fun n59=>?_)
 refine ite_did (q:=fun u=>Ag A u s) (fun h60=>doClose_F h (notA _ (hO.o58 (.inr (.inl h60))) (hF.c58 (.inr (.inl h60))) hBA)) (fun n60=>?_)
 refine ite_did (q:=fun u=>Ag A u s) (fun h62=>doSpawn_F h hg (hBA _ _ (hF.c62 h62).1) (fun q=>notA _ hc0 ((hF.c62 h62).2 q) hBA)) (fun n62=>?_)
 refine ite_did (q:=fun u=>Ag A u s) (fun h63=>ite_did (q:=fun u=>Ag A u s) (fun _=>h) (fun _=>h)) (fun n63=>?_)
 refine ite_did (q:=fun u=>Ag A u s) (fun _=>h) (fun n65=>?_)
 refine ite_did (q:=fun u=>Ag A u s) (fun h61=>?_) (fun n61=>?_)
 · refine ite_did (q:=fun u=>Ag A u s) (fun _=>h) (fun hn=>?_)
   rcases alts_sel ha h61 with q|⟨k,rfl,hk,_⟩
   · exact absurd q hn
   · rw [Int.toNat_natCast]
     have hc:¬A 3 (((selAt p s g).cases.getD k default).chan.toNat:Int):=notA _ (hO.o61 h61 k hk) (hF.c61 h61 k hk) hBA
     exact ite_did (q:=fun u=>Ag A u s) (fun _=>doSend_F h hg hc) (fun _=>doRecv_F h hg hc)
 · have e:=op_not66 n66
   refine doVars_F h hg (fun q=>?_) (fun q=>?_) (fun q=>?_) (fun q=>?_)
   · exact notA _ (hO.o51 (e.trans q)) (hF.c51 (e.trans q)) hBA
   · exact notA _ (hO.o52 (by rw [e];exact q)) (hF.c52 (by rw [e];exact q)) hBA
   · exact notA _ (hO.o55 (by rw [e];exact q)) (hF.c55 (by rw [e];exact q)) hBA
   · exact notA _ (hO.o57 (e.trans q)) (hF.c57 (e.trans q)) hBA
theorem sends_R (h:Ag A s t) {c:Int} (hc:A 3 c.toNat):sends p t c=sends p s c:=by
 have e:t.chn c=s.chn c:=(h.chans _ hc).symm
 unfold sends;rw [e]
theorem receives_R (h:Ag A s t) {c:Int} (hc:A 3 c.toNat):receives t c=receives s c:=by
 have e:t.chn c=s.chn c:=(h.chans _ hc).symm
 unfold receives;rw [e]
theorem plain_R (h:Ag A s t) (hF:Foot A B p s g) (hBA:∀ k n,B k n→A k n) (hO:Opers p s g) (hg0:0≤g):plain p t g=plain p s g:=by
 have hg:A 5 g.toNat:=toN g hg0 (hBA _ _ hF.own)
 obtain ⟨eg,ei,eo,es⟩:=Stand.of (p:=p) (h.gos g.toNat hg)
 unfold plain
 simp only [eg,ei,eo]
 by_cases h54:opAt p s g=54
 · rw [if_pos h54,if_pos h54,h.vars _ (toN _ (hO.o54 h54) (hF.c54 h54))]
 rw [if_neg h54,if_neg h54]
 by_cases h55:opAt p s g=55
 · rw [if_pos h55,if_pos h55,h.owner _ (toN _ (hO.o55 (.inl h55)) (hBA _ _ (hF.c55 (.inl h55))))]
 rw [if_neg h55,if_neg h55]
 by_cases h58:opAt p s g=58
 · rw [if_pos h58,if_pos h58,sends_R h (toN _ (hO.o58 (.inl h58)) (hBA _ _ (hF.c58 (.inl h58))))]
 rw [if_neg h58,if_neg h58]
 by_cases h59:opAt p s g=59
 · rw [if_pos h59,if_pos h59,receives_R h (toN _ (hO.o59 h59) (hBA _ _ (hF.c59 h59)))]
 rw [if_neg h59,if_neg h59]
 by_cases h66:opAt p s g=66
 · have e:t.chn (instrAt p s g).a=s.chn (instrAt p s g).a:=(h.chans _ (toN _ (hO.o58 (.inr (.inr h66))) (hBA _ _ (hF.c58 (.inr (.inr h66)))))).symm
   rw [if_pos h66,if_pos h66,e]
 rw [if_neg h66,if_neg h66]
 by_cases h63:opAt p s g=63
 · have hc:=h.count (hF.c63 h63).1
   have hk:=(hF.c63 h63).2
   rw [if_pos h63,if_pos h63]
   generalize (s.gor g).reg (instrAt p s g).a=k at *
   rw [← hc]
   by_cases q:0≤k∧k<s.count
   · have e:t.gor k=s.gor k:=(h.gos _ (toN _ q.1 (hk q))).symm
     have e2:isLive t k=isLive s k:=by unfold isLive;rw [e,← hc]
     rw [e2]
   · by_cases q0:k<0
     · rw [decide_eq_true q0];simp
     · rw [decide_eq_true (show s.count≤k by omega)];simp
 rw [if_neg h63,if_neg h63]
theorem casesTo_R (h:Ag A s t) {q:Sel} (hq:∀ i,i<q.cases.length→A 3 (q.cases.getD i default).chan.toNat):casesTo p t q q.cases.length=casesTo p s q q.cases.length:=by
 unfold casesTo
 congr 1
 refine List.filter_congr fun i hi=>?_
 have:=List.mem_range.1 hi
 unfold caseOk
 rw [sends_R h (hq i this),receives_R h (hq i this)]
theorem alts_R (h:Ag A s t) (hF:Foot A B p s g) (hBA:∀ k n,B k n→A k n) (hO:Opers p s g) (hg:0≤g∧g<s.count) (hgt:g<t.count):alts p t g=alts p s g:=by
 have hgA:A 5 g.toNat:=toN g hg.1 (hBA _ _ hF.own)
 obtain ⟨eg,ei,eo,es⟩:=Stand.of (p:=p) (h.gos g.toNat hgA)
 have el:isLive t g=isLive s g:=by
  unfold isLive
  rw [eg,decide_eq_true hgt,decide_eq_true hg.2]
 unfold alts
 simp only [el,eo,es]
 by_cases hl:isLive s g=true
 · rw [if_pos hl,if_pos hl]
   by_cases h61:opAt p s g=61
   · rw [if_pos h61,if_pos h61,casesTo_R h (fun i hi=>toN _ (hO.o61 h61 i hi) (hBA _ _ (hF.c61 h61 i hi)))]
   · rw [if_neg h61,if_neg h61,plain_R h hF hBA hO hg.1]
 · rw [if_neg hl,if_neg hl]
theorem touch_R (h:Ag A s t) (hF:Foot A B p s g) (hBA:∀ k n,B k n→A k n) (hg0:0≤g):touch p t g=touch p s g:=by
 have hgA:A 5 g.toNat:=toN g hg0 (hBA _ _ hF.own)
 obtain ⟨eg,ei,eo,es⟩:=Stand.of (p:=p) (h.gos g.toNat hgA)
 by_cases h62:opAt p s g=62
 · rw [touch62 p s g h62,touch62 p t g (eo.trans h62),h.count (hBA _ _ (hF.c62 h62).1)]
 by_cases h63:opAt p s g=63
 · rw [touch63 p s g h63,touch63 p t g (eo.trans h63),h.count (hF.c63 h63).1,eg,ei]
 unfold touch
 simp only [eg,ei,eo,es,if_neg h62,if_neg h63]
theorem event_R (h:Ag A s t) {x:Pck} (hF:Foot A B p s x.go) (hBA:∀ k n,B k n→A k n) (hg0:0≤x.go) (v:Int):event p t x v=event p s x v:=by
 have hgA:A 5 x.go.toNat:=toN x.go hg0 (hBA _ _ hF.own)
 obtain ⟨eg,ei,eo,es⟩:=Stand.of (p:=p) (h.gos x.go.toNat hgA)
 unfold event
 rw [eg,ei,eo,touch_R h hF hBA hg0]
def setl (apply:Int→Int→Int→Int × Int) (p:Prg) (fuel:Int) (g:Int) (s:Stt):Stt:=if (s.gor g).status=1∨(s.gor g).status=5 then { s with gos:=s.gos.set g.toNat (settled apply p (s.gor g) fuel) } else s
variable {apply:Int→Int→Int→Int × Int} {fuel:Int}
theorem setl_R (h:Ag A s t) (hg:A 5 g.toNat):Ag A (setl apply p fuel g s) (setl apply p fuel g t):=by
 have e:t.gor g=s.gor g:=(h.gos _ hg).symm
 unfold setl
 simp only [e]
 split
 · exact h.setGor _ (fun _=>rfl)
 · exact h
theorem setl_F (h:Ag A s t) (hg:¬A 5 g.toNat):Ag A (setl apply p fuel g s) t:=by
 unfold setl
 split
 · exact h.setGor1 _ hg
 · exact h
theorem take_eq (hap:ApplyOk apply) (hr:rightP p=true) (hok:p.Ok) (hv:Vld p s) {x:Pck} (ha:x.alt∈alts p s x.go) (hf:0≤fuel∧fuel≤4096) :
 take apply p s x fuel=(let d:=visible p s x.go x.alt
  if d.why≠0 then (failedVis d x.go,event p s x 0) else if d.to_<0 then (d.s,event p s x d.val)
  else (if s.count<d.s.count then setl apply p fuel s.count (setl apply p fuel x.go (afterVis d x.go)) else setl apply p fuel x.go (afterVis d x.go),event p s x d.val)):=by
 have hg:=(live_iff.1 (alts_live ha)).1
 have hd:=visible_ok hok hr hv ha
 have ht:take apply p s x fuel=(let d:=visible p s x.go x.alt
  if d.why≠0 then (failedVis d x.go,event p s x 0) else if d.to_<0 then (d.s,event p s x d.val)
  else (if s.count<(settle apply p (afterVis d x.go) x.go fuel).1.count then (settle apply p (settle apply p (afterVis d x.go) x.go fuel).1 s.count fuel).1 else (settle apply p (afterVis d x.go) x.go fuel).1,event p s x d.val)):=rfl
 rw [ht]
 simp only
 by_cases hw:(visible p s x.go x.alt).why≠0
 · rw [if_pos hw,if_pos hw]
 rw [if_neg hw,if_neg hw]
 by_cases h0:(visible p s x.go x.alt).to_<0
 · rw [if_pos h0,if_pos h0]
 rw [if_neg h0,if_neg h0]
 have hw:(visible p s x.go x.alt).why=0:=by simpa using hw
 have hvA:=afterVis_ok hg hd hw (by omega)
 have hcA:(afterVis (visible p s x.go x.alt) x.go).count=(visible p s x.go x.alt).s.count:=rfl
 have hgA:0≤x.go∧x.go<(afterVis (visible p s x.go x.alt) x.go).count:=⟨hg.1,by rw [hcA];have:=hd.cnt;omega⟩
 have e1:(settle apply p (afterVis (visible p s x.go x.alt) x.go) x.go fuel).1=setl apply p fuel x.go (afterVis (visible p s x.go x.alt) x.go):=settle_eq hr hok hvA hgA hf
 have hS:=settle_ok hap hr hok hvA hgA hf
 have hK:=(settle_keeps (apply:=apply) hr hok hvA hgA hf).2.2.2.1
 rw [hK,hcA]
 rw [e1] at hS hK ⊢
 by_cases hc:s.count<(visible p s x.go x.alt).s.count
 · rw [if_pos hc,if_pos hc]
   have e2:(settle apply p (setl apply p fuel x.go (afterVis (visible p s x.go x.alt) x.go)) s.count fuel).1=setl apply p fuel s.count (setl apply p fuel x.go (afterVis (visible p s x.go x.alt) x.go)):=settle_eq hr hok hS ⟨by have:=hv.count;omega,by rw [hK,hcA];exact hc⟩ hf
   rw [e2]
 · rw [if_neg hc,if_neg hc]
end
end Go.Eng
namespace Go.Eng
section
variable {A B:Int→Int→Prop} {s t:Stt} {p:Prg} {g:Int}
theorem visible_cnt (h62:opAt p s g≠62) (alt:Int):(visible p s g alt).s.count=s.count:=by
 unfold visible
 refine ite_did (q:=fun u=>u.count=s.count) (fun _=>rfl) (fun n66=>?_)
 refine ite_did (q:=fun u=>u.count=s.count) (fun _=>(doSend_same p (⟨s,0,0,(s.gor g).pc+1⟩:Did) _ _ _).count) (fun n58=>?_)
 refine ite_did (q:=fun u=>u.count=s.count) (fun _=>(doRecv_same (⟨s,0,0,(s.gor g).pc+1⟩:Did) _ _ _ _).count) (fun n59=>?_)
 refine ite_did (q:=fun u=>u.count=s.count) (fun _=>(doClose_same (⟨s,0,0,(s.gor g).pc+1⟩:Did) _).count) (fun n60=>?_)
 refine ite_did (q:=fun u=>u.count=s.count) (fun q=>absurd q h62) (fun n62=>?_)
 refine ite_did (q:=fun u=>u.count=s.count) (fun _=>ite_did (q:=fun u=>u.count=s.count) (fun _=>rfl) (fun _=>rfl)) (fun n63=>?_)
 refine ite_did (q:=fun u=>u.count=s.count) (fun _=>rfl) (fun n65=>?_)
 refine ite_did (q:=fun u=>u.count=s.count) (fun _=>?_) (fun n61=>doVars_count _ _ _)
 refine ite_did (q:=fun u=>u.count=s.count) (fun _=>rfl) (fun hn=>?_)
 exact ite_did (q:=fun u=>u.count=s.count) (fun _=>(doSend_same p ⟨s,0,0,((selAt p s g).cases.getD alt.toNat default).to_⟩ _ _ _).count) (fun _=>(doRecv_same ⟨s,0,0,((selAt p s g).cases.getD alt.toNat default).to_⟩ _ _ _ _).count)
theorem visible_62 (h:opAt p s g=62) (alt:Int):visible p s g alt=doSpawn p ⟨s,0,0,(s.gor g).pc+1⟩ g (instrAt p s g):=(if_neg (by omega)).trans ((if_neg (by omega)).trans ((if_neg (by omega)).trans ((if_neg (by omega)).trans (if_pos h))))
theorem visible_grow {alt:Int} (h:s.count<(visible p s g alt).s.count):opAt p s g=62∧s.count<6:=by
 by_cases h62:opAt p s g=62
 · refine ⟨h62,?_⟩
   rw [visible_62 h62] at h
   by_cases h6:6≤s.count
   · rw [show doSpawn p ⟨s,0,0,(s.gor g).pc+1⟩ g (instrAt p s g)=_ from if_pos h6] at h
     exact absurd h (Int.lt_irrefl _)
   · omega
 · rw [visible_cnt h62] at h
   exact absurd h (Int.lt_irrefl _)
variable {apply:Int→Int→Int→Int × Int} {fuel:Int}
theorem failedVis_R {d e:Did} (h:DAg A d e) (g:Int):Ag A (failedVis d g) (failedVis e g):=by
 unfold failedVis
 exact h.s.setGor _ (fun q=>by rw [show d.s.gor g=e.s.gor g from h.s.gos _ q,h.why])
theorem afterVis_R {d e:Did} (h:DAg A d e) (g:Int):Ag A (afterVis d g) (afterVis e g):=by
 unfold afterVis
 exact h.s.setGor _ (fun q=>by rw [show d.s.gor g=e.s.gor g from h.s.gos _ q,h.to_])
theorem take_R (hap:ApplyOk apply) (hr:rightP p=true) (hok:p.Ok) (hs:Vld p s) (ht:Vld p t) {x:Pck} (ha:x.alt∈alts p s x.go) (hf:0≤fuel∧fuel≤4096)
 (h:Ag A s t) (hF:Foot A B p s x.go) (hBA:∀ k n,B k n→A k n) (hgt:x.go<t.count) :
 x.alt∈alts p t x.go∧Ag A (take apply p s x fuel).1 (take apply p t x fuel).1∧(take apply p t x fuel).2=(take apply p s x fuel).2:=by
 have hg:=(live_iff.1 (alts_live ha)).1
 have hO:=opers hok (hs.wf hok hr) hg
 have hat:x.alt∈alts p t x.go:=by rw [alts_R h hF hBA hO hg hgt];exact ha
 refine ⟨hat,?_⟩
 rw [take_eq hap hr hok hs ha hf,take_eq hap hr hok ht hat hf]
 have hd:=visible_R h hF hBA hO hg.1 ha
 have hc:s.count<(visible p s x.go x.alt).s.count↔t.count<(visible p t x.go x.alt).s.count:=by
  by_cases h62:opAt p s x.go=62
  · have hA:=hBA _ _ (hF.c62 h62).1
    rw [h.count hA,hd.s.count hA]
  · have eo:=(Stand.of (p:=p) (h.gos x.go.toNat (toN x.go hg.1 (hBA _ _ hF.own)))).op
    rw [visible_cnt h62,visible_cnt (by rw [eo];exact h62)]
    simp
 have hgA:A 5 x.go.toNat:=toN x.go hg.1 (hBA _ _ hF.own)
 simp only [event_R h hF hBA hg.1,← hd.why,← hd.to_,← hd.val]
 by_cases hw:(visible p s x.go x.alt).why≠0
 · rw [if_pos hw,if_pos hw];exact ⟨failedVis_R hd _,rfl⟩
 rw [if_neg hw,if_neg hw]
 by_cases h0:(visible p s x.go x.alt).to_<0
 · rw [if_pos h0,if_pos h0];exact ⟨hd.s,rfl⟩
 rw [if_neg h0,if_neg h0]
 refine ⟨?_,rfl⟩
 have hS:Ag A (setl apply p fuel x.go (afterVis (visible p s x.go x.alt) x.go)) (setl apply p fuel x.go (afterVis (visible p t x.go x.alt) x.go)):=setl_R (afterVis_R hd _) hgA
 by_cases hn:s.count<(visible p s x.go x.alt).s.count
 · obtain ⟨h62,h6⟩:=visible_grow hn
   have hA:=hF.c62 h62
   have hc1:=hc.1 hn
   rw [← h.count (hBA _ _ hA.1)] at hc1
   simp only [if_pos hn,← h.count (hBA _ _ hA.1),if_pos hc1]
   exact setl_R hS (toN _ (by have:=hs.count;omega) (hBA _ _ (hA.2 h6)))
 · simp only [if_neg hn,if_neg (fun q=>hn (hc.2 q))]
   exact hS
theorem take_F {C:Int→Int→Prop} (hap:ApplyOk apply) (hr:rightP p=true) (hok:p.Ok) (hs:Vld p s) {x:Pck} (ha:x.alt∈alts p s x.go) (hf:0≤fuel∧fuel≤4096)
 (hF:Foot C B p s x.go) (hBA:∀ k n,B k n→¬A k n):Ag A (take apply p s x fuel).1 s:=by
 have hg:=(live_iff.1 (alts_live ha)).1
 have hO:=opers hok (hs.wf hok hr) hg
 have hct:=hs.count
 rw [take_eq hap hr hok hs ha hf]
 have hd:=visible_F (A:=A) hF hBA hO hg.1 (by omega) ha
 have hgA:¬A 5 x.go.toNat:=notA x.go hg.1 hF.own hBA
 simp only
 by_cases hw:(visible p s x.go x.alt).why≠0
 · rw [if_pos hw];exact hd.setGor1 _ hgA
 rw [if_neg hw]
 by_cases h0:(visible p s x.go x.alt).to_<0
 · rw [if_pos h0];exact hd
 rw [if_neg h0]
 have hS:Ag A (setl apply p fuel x.go (afterVis (visible p s x.go x.alt) x.go)) s:=setl_F (hd.setGor1 _ hgA) hgA
 by_cases hn:s.count<(visible p s x.go x.alt).s.count
 · obtain ⟨h62,h6⟩:=visible_grow hn
   simp only [if_pos hn]
   exact setl_F hS (notA _ (by omega) ((hF.c62 h62).2 h6) hBA)
 · simp only [if_neg hn]
   exact hS
theorem setl_count (g:Int) (s:Stt):(setl apply p fuel g s).count=s.count:=by unfold setl;split<;>rfl
theorem take_count (hap:ApplyOk apply) (hr:rightP p=true) (hok:p.Ok) (hs:Vld p s) {x:Pck} (ha:x.alt∈alts p s x.go) (hf:0≤fuel∧fuel≤4096):s.count≤(take apply p s x fuel).1.count:=by
 rw [take_eq hap hr hok hs ha hf]
 have:=visible_count p s x.go x.alt
 simp only
 by_cases hw:(visible p s x.go x.alt).why≠0
 · rw [if_pos hw];exact this
 rw [if_neg hw]
 by_cases h0:(visible p s x.go x.alt).to_<0
 · rw [if_pos h0];exact this
 rw [if_neg h0]
 simp only
 split
 · rw [setl_count,setl_count];exact this
 · rw [setl_count];exact this
theorem Ag.ext (h:Ag (fun _ _=>True) s t):s=t:=by
 have e1:s.vars=t.vars:=List.ext_getElem? fun i=>by
  have:=h.vars i trivial
  rw [List.getD_eq_getElem?_getD,List.getD_eq_getElem?_getD] at this
  by_cases hi:i<s.vars.length
  · rw [List.getElem?_eq_getElem hi,List.getElem?_eq_getElem (h.lv▸hi)] at this ⊢
    simpa using this
  · rw [List.getElem?_eq_none (by omega),List.getElem?_eq_none (by rw [← h.lv];omega)]
 have e2:s.owner=t.owner:=List.ext_getElem? fun i=>by
  have:=h.owner i trivial
  rw [List.getD_eq_getElem?_getD,List.getD_eq_getElem?_getD] at this
  by_cases hi:i<s.owner.length
  · rw [List.getElem?_eq_getElem hi,List.getElem?_eq_getElem (h.lo▸hi)] at this ⊢
    simpa using this
  · rw [List.getElem?_eq_none (by omega),List.getElem?_eq_none (by rw [← h.lo];omega)]
 have e3:s.chans=t.chans:=List.ext_getElem? fun i=>by
  have:=h.chans i trivial
  rw [List.getD_eq_getElem?_getD,List.getD_eq_getElem?_getD] at this
  by_cases hi:i<s.chans.length
  · rw [List.getElem?_eq_getElem hi,List.getElem?_eq_getElem (h.lc▸hi)] at this ⊢
    simpa using this
  · rw [List.getElem?_eq_none (by omega),List.getElem?_eq_none (by rw [← h.lc];omega)]
 have e4:s.gos=t.gos:=List.ext_getElem? fun i=>by
  have:=h.gos i trivial
  rw [List.getD_eq_getElem?_getD,List.getD_eq_getElem?_getD] at this
  by_cases hi:i<s.gos.length
  · rw [List.getElem?_eq_getElem hi,List.getElem?_eq_getElem (h.lg▸hi)] at this ⊢
    simpa using this
  · rw [List.getElem?_eq_none (by omega),List.getElem?_eq_none (by rw [← h.lg];omega)]
 have e5:=h.count trivial
 cases s;cases t
 simp_all
def Apart (a b:List Access):Prop:=∀ k n,(Wrt a k n→¬Tch b k n)∧(Wrt b k n→¬Tch a k n)
theorem Apart.symm {a b:List Access} (h:Apart a b):Apart b a:=fun k n=>(h k n).symm
theorem take_half (hap:ApplyOk apply) (hr:rightP p=true) (hok:p.Ok) (hs:Vld p s) {x y:Pck} (hx:x.alt∈alts p s x.go) (hy:y.alt∈alts p s y.go) (hf:0≤fuel∧fuel≤4096) (hxy:Apart (touch p s x.go) (touch p s y.go)) :
 alts p (take apply p s x fuel).1 y.go=alts p s y.go∧(take apply p (take apply p s x fuel).1 y fuel).2=(take apply p s y fuel).2 ∧
  Ag (Tch (touch p s y.go)) (take apply p s y fuel).1 (take apply p (take apply p s x fuel).1 y fuel).1 ∧
  (∀ A:Int→Int→Prop,(∀ k n,Wrt (touch p s y.go) k n→¬A k n)→Ag A (take apply p (take apply p s x fuel).1 y fuel).1 (take apply p s x fuel).1):=by
 have hg:=(live_iff.1 (alts_live hy)).1
 have hO:=opers hok (hs.wf hok hr) hg
 have hv:=take_ok hap hr hok hs hx hf
 have hc:=take_count hap hr hok hs hx hf
 have hFx:=touch_foot p s x.go
 have hFy:=touch_foot p s y.go
 have h1:Ag (Tch (touch p s y.go)) s (take apply p s x fuel).1:=(take_F hap hr hok hs hx hf hFx (fun k n q=>(hxy k n).1 q)).symm
 have hal:=alts_R h1 hFy (fun _ _=>Wrt.tch) hO hg (by omega)
 obtain ⟨h2,h3,h4⟩:=take_R hap hr hok hs hv hy hf h1 hFy (fun _ _=>Wrt.tch) (by omega)
 refine ⟨hal,h4,h3,fun A hA=>?_⟩
 have hFt:=touch_foot p (take apply p s x fuel).1 y.go
 rw [touch_R h1 hFy (fun _ _=>Wrt.tch) hg.1] at hFt
 exact take_F hap hr hok hv h2 hf hFt hA
theorem take_commutes (hap:ApplyOk apply) (hr:rightP p=true) (hok:p.Ok) (hs:Vld p s) {x y:Pck} (hx:x.alt∈alts p s x.go) (hy:y.alt∈alts p s y.go) (hf:0≤fuel∧fuel≤4096) (hxy:Apart (touch p s x.go) (touch p s y.go)) :
 (take apply p (take apply p s x fuel).1 y fuel).1=(take apply p (take apply p s y fuel).1 x fuel).1:=by
 obtain ⟨_,_,h1,h2⟩:=take_half hap hr hok hs hx hy hf hxy
 obtain ⟨_,_,k1,k2⟩:=take_half hap hr hok hs hy hx hf hxy.symm
 have fx:∀ A:Int→Int→Prop,(∀ k n,Wrt (touch p s x.go) k n→¬A k n)→Ag A (take apply p s x fuel).1 s:=fun A hA=>take_F hap hr hok hs hx hf (touch_foot p s x.go) hA
 have fy:∀ A:Int→Int→Prop,(∀ k n,Wrt (touch p s y.go) k n→¬A k n)→Ag A (take apply p s y fuel).1 s:=fun A hA=>take_F hap hr hok hs hy hf (touch_foot p s y.go) hA
 have tr:∀ {A:Int→Int→Prop} {a b c:Stt},Ag A a b→Ag A b c→Ag A a c:=fun h k=>⟨h.lv.trans k.lv,h.lo.trans k.lo,h.lc.trans k.lc,h.lg.trans k.lg,fun i q=>(h.vars i q).trans (k.vars i q),fun i q=>(h.owner i q).trans (k.owner i q),fun i q=>(h.chans i q).trans (k.chans i q),fun i q=>(h.gos i q).trans (k.gos i q),fun q=>(h.count q).trans (k.count q)⟩
 have a1:Ag (Wrt (touch p s y.go)) (take apply p (take apply p s x fuel).1 y fuel).1 (take apply p (take apply p s y fuel).1 x fuel).1 :=
  tr ((h1.mono (fun _ _=>Wrt.tch)).symm) ((k2 _ (fun k n q r=>(hxy k n).1 q r.tch)).symm)
 have a2:Ag (Wrt (touch p s x.go)) (take apply p (take apply p s x fuel).1 y fuel).1 (take apply p (take apply p s y fuel).1 x fuel).1 :=
  tr (h2 _ (fun k n q r=>(hxy k n).2 q r.tch)) (k1.mono (fun _ _=>Wrt.tch))
 have a3:Ag (fun k n=>¬Wrt (touch p s x.go) k n∧¬Wrt (touch p s y.go) k n) (take apply p (take apply p s x fuel).1 y fuel).1 (take apply p (take apply p s y fuel).1 x fuel).1 :=
  tr (tr (h2 _ (fun k n q r=>r.2 q)) (fx _ (fun k n q r=>r.1 q))) (tr (k2 _ (fun k n q r=>r.1 q)) (fy _ (fun k n q r=>r.2 q))).symm
 refine Ag.ext ⟨a1.lv,a1.lo,a1.lc,a1.lg,fun i _=>?_,fun i _=>?_,fun i _=>?_,fun i _=>?_,fun _=>?_⟩
 · by_cases q:Wrt (touch p s x.go) 1 i;· exact a2.vars i q
   by_cases r:Wrt (touch p s y.go) 1 i;· exact a1.vars i r
   exact a3.vars i ⟨q,r⟩
 · by_cases q:Wrt (touch p s x.go) 2 i;· exact a2.owner i q
   by_cases r:Wrt (touch p s y.go) 2 i;· exact a1.owner i r
   exact a3.owner i ⟨q,r⟩
 · by_cases q:Wrt (touch p s x.go) 3 i;· exact a2.chans i q
   by_cases r:Wrt (touch p s y.go) 3 i;· exact a1.chans i r
   exact a3.chans i ⟨q,r⟩
 · by_cases q:Wrt (touch p s x.go) 5 i;· exact a2.gos i q
   by_cases r:Wrt (touch p s y.go) 5 i;· exact a1.gos i r
   exact a3.gos i ⟨q,r⟩
 · by_cases q:Wrt (touch p s x.go) 4 0;· exact a2.count q
   by_cases r:Wrt (touch p s y.go) 4 0;· exact a1.count r
   exact a3.count ⟨q,r⟩
end
end Go.Eng
namespace Go.Eng
theorem V.beq_int (a b:Int):V.beq (.int a) (.int b)=decide (a=b):=rfl
theorem V.beq_bool (a b:Bool):V.beq (.bool a) (.bool b)=decide (a=b):=by
 show (a == b)=_
 cases a<;>cases b<;>rfl
theorem V.beqL_map {α:Type} [DecidableEq α] (f:α→V) (hf:∀ a b,V.beq (f a) (f b)=decide (a=b)):∀ l m:List α,V.beqL (l.map f) (m.map f)=decide (l=m)
 | [],[]=>rfl
 | [],_::_=>rfl
 | _::_,[]=>rfl
 | a::l,b::m=>by
   show (V.beq (f a) (f b)&&V.beqL (l.map f) (m.map f))=_
   rw [hf,V.beqL_map f hf l m]
   by_cases h1:a=b
   · by_cases h2:l=m
     · simp [h1,h2]
     · simp [h1,h2]
   · simp [h1]
theorem V.beqL_cons (a b:V) (l m:List V):V.beqL (a::l) (b::m)=(V.beq a b&&V.beqL l m):=rfl
theorem V.beqL_nil:V.beqL [] []=true:=rfl
theorem V.beq_agg (l m:List V):V.beq (.agg l) (.agg m)=V.beqL l m:=rfl
theorem Access.beq (a b:Access):V.beq a.v b.v=decide (a=b):=by
 cases a;cases b
 simp [Access.v,V.beq_agg,V.beqL_cons,V.beqL_nil,V.beq_int,V.beq_bool,Bool.decide_and]
theorem Pck.beq (a b:Pck):V.beq a.v b.v=decide (a=b):=by
 cases a;cases b
 simp [Pck.v,V.beq_agg,V.beqL_cons,V.beqL_nil,V.beq_int,V.beq_bool,Bool.decide_and]
theorem Instr.beq (a b:Instr):V.beq a.v b.v=decide (a=b):=by
 cases a;cases b
 simp [Instr.v,V.beq_agg,V.beqL_cons,V.beqL_nil,V.beq_int,V.beq_bool,Bool.decide_and]
theorem Cas.beq (a b:Cas):V.beq a.v b.v=decide (a=b):=by
 cases a;cases b
 simp [Cas.v,V.beq_agg,V.beqL_cons,V.beqL_nil,V.beq_int,V.beq_bool,Bool.decide_and]
theorem Vr.beq (a b:Vr):V.beq a.v b.v=decide (a=b):=by
 cases a;cases b
 simp [Vr.v,V.beq_agg,V.beqL_cons,V.beqL_nil,V.beq_int,V.beq_bool,Bool.decide_and]
theorem Gor.beq (a b:Gor):V.beq a.v b.v=decide (a=b):=by
 cases a;cases b
 simp [Gor.v,V.beq_agg,V.beqL_cons,V.beqL_nil,V.beq_int,V.beq_bool,Bool.decide_and,V.beqL_map V.int V.beq_int]
theorem Chn.beq (a b:Chn):V.beq a.v b.v=decide (a=b):=by
 cases a;cases b
 simp [Chn.v,V.beq_agg,V.beqL_cons,V.beqL_nil,V.beq_int,V.beq_bool,Bool.decide_and,V.beqL_map V.int V.beq_int]
theorem Stt.beq (a b:Stt):V.beq a.v b.v=decide (a=b):=by
 cases a;cases b
 simp [Stt.v,V.beq_agg,V.beqL_cons,V.beqL_nil,V.beq_int,V.beq_bool,Bool.decide_and,V.beqL_map V.int V.beq_int,V.beqL_map Chn.v Chn.beq,V.beqL_map Gor.v Gor.beq]
theorem Event.beq (a b:Event):V.beq a.v b.v=decide (a=b):=by
 cases a;cases b
 simp [Event.v,V.beq_agg,V.beqL_cons,V.beqL_nil,V.beq_int,V.beq_bool,Bool.decide_and,V.beqL_map Access.v Access.beq]
end Go.Eng
namespace Go.Eng
def caseV (p:Prg) (s:Stt) (x:Pck) (fuel:Int):V:=.agg [p.v,s.v,x.v,.int fuel]
theorem caseV0 (p:Prg) (s:Stt) (x:Pck) (fuel:Int) (d:V):(caseV p s x fuel).toList.getD 0 d=p.v:=rfl
theorem caseV1 (p:Prg) (s:Stt) (x:Pck) (fuel:Int) (d:V):(caseV p s x fuel).toList.getD 1 d=s.v:=rfl
theorem caseV2 (p:Prg) (s:Stt) (x:Pck) (fuel:Int) (d:V):(caseV p s x fuel).toList.getD 2 d=x.v:=rfl
theorem caseV3 (p:Prg) (s:Stt) (x:Pck) (fuel:Int) (d:V):(caseV p s x fuel).toList.getD 3 d=.int fuel:=rfl
def hitB (e:Event) (k n:Int) (j:Nat):Bool:=decide ((e.touch.getD j default).kind=k)&&decide ((e.touch.getD j default).num=n)
def touchedB (e:Event) (k n:Int):Bool:=(List.range 6).any fun j=>decide ((j:Int)<e.touches)&&hitB e k n j
theorem touched_hit {e:Event} {k n:Int} {i:Nat} (h:(i:Int)<e.touches∧i<6) (hk:(e.touch.getD i default).kind=k) (hn:(e.touch.getD i default).num=n):touchedB e k n=true:=by
 unfold touchedB hitB
 exact List.any_eq_true.2 ⟨i,List.mem_range.2 h.2,by simp [-List.getD_eq_getElem?_getD,h.1,hk,hn]⟩
theorem touched_miss {e:Event} {k n:Int} {i:Nat} (h:∀ j:Nat,j<i→¬((e.touch.getD j default).kind=k∧(e.touch.getD j default).num=n)) (hi:(i:Int)<e.touches→6≤i):touchedB e k n=false:=by
 cases hb:touchedB e k n
 · rfl
 · unfold touchedB hitB at hb
   obtain ⟨j,hj,h2⟩:=List.any_eq_true.1 hb
   have hj:=List.mem_range.1 hj
   simp only [Bool.and_eq_true,decide_eq_true_eq] at h2
   exact absurd h2.2 (h j (by by_cases q:(i:Int)<e.touches;· have:=hi q;omega
                              · omega))
def clashA (a b:Access):Bool:=decide (a.kind=b.kind)&&decide (a.num=b.num)&&(a.write||b.write)
def clashL (a b:List Access):Bool:=a.any fun x=>b.any fun y=>clashA x y
theorem clash_hit {a b:List Access} {i k:Nat} (hi:i<a.length) (hk:k<b.length) (h:clashA (a.getD i default) (b.getD k default)=true):clashL a b=true:=by
 unfold clashL
 refine List.any_eq_true.2 ⟨a.getD i default,getD_mem _ hi,List.any_eq_true.2 ⟨b.getD k default,getD_mem _ hk,h⟩⟩
theorem clash_miss {a b:List Access} (h:∀ i:Nat,i<a.length→∀ k:Nat,k<b.length→clashA (a.getD i default) (b.getD k default)=false):clashL a b=false:=by
 cases hb:clashL a b
 · rfl
 · unfold clashL at hb
   obtain ⟨x,hx,h2⟩:=List.any_eq_true.1 hb
   obtain ⟨y,hy,h3⟩:=List.any_eq_true.1 h2
   obtain ⟨i,hi,rfl⟩:=List.getElem_of_mem hx
   obtain ⟨k,hk,rfl⟩:=List.getElem_of_mem hy
   have:=h i hi k hk
   simp [List.getD_eq_getElem?_getD,hi,hk] at this
   rw [this] at h3;cases h3
theorem clash_apart {a b:List Access} (h:clashL a b=false):Apart a b:=by
 have key:∀ x∈a,∀ y∈b,x.kind=y.kind→x.num=y.num→x.write=false∧y.write=false:=by
  intro x hx y hy e1 e2
  have q:clashA x y=false:=by
   cases hb:clashA x y
   · rfl
   · have:clashL a b=true:=by unfold clashL;exact List.any_eq_true.2 ⟨x,hx,List.any_eq_true.2 ⟨y,hy,hb⟩⟩
     rw [h] at this;cases this
  unfold clashA at q
  rw [e1,e2,decide_eq_true rfl,decide_eq_true rfl] at q
  simpa using q
 intro k n
 refine ⟨fun ⟨x,hx,e1,e2,e3⟩ ⟨y,hy,f1,f2⟩=>?_,fun ⟨y,hy,e1,e2,e3⟩ ⟨x,hx,f1,f2⟩=>?_⟩
 · have:=(key x hx y hy (e1.trans f1.symm) (e2.trans f2.symm)).1
   rw [e3] at this;cases this
 · have:=(key x hx y hy (f1.trans e1.symm) (f2.trans e2.symm)).2
   rw [e3] at this;cases this
def apartB (p:Prg) (s:Stt) (g h:Int):Bool:=decide (oneErr p s g=0)&&decide (oneErr p s h=0)&&!clashL (touch p s g) (touch p s h)
end Go.Eng
