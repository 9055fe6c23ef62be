/- A part of the proof: walks through the program's functions, and what they compute. -/
import Derived.Test.YtedceinkpkoncaaGreatDoorPk35
import Derived.Test.YtedceinkpkoncaaGreatDoorPk36
import Derived.Test.YtedceinkpkoncaaGreatDoorPk9
import Derived.Test.YtedceinkpkoncaaGreatDoorPk12
import Derived.Test.YtedceinkpkoncaaGreatDoorRows
import Derived.Test.YtedceinkpkoncaaGreatDoorCards
import Derived.Test.YtedceinkpkoncaaGreatDoorTie
import Derived.ProofKit
import Derived.LaidMore
import Derived.SevenTiedAt
import Derived.OpenShut
set_option linter.unusedSimpArgs false
set_option linter.unusedVariables false
namespace Go.Eng
theorem take_event {apply:Int→Int→Int→Int × Int} {p:Prg} {s:Stt} {x:Pck} {fuel:Int} (hap:ApplyOk apply) (hr:rightP p=true) (hok:p.Ok) (hv:Vld p s) (ha:x.alt∈alts p s x.go) (hf:0≤fuel∧fuel≤4096):∃ v,(take apply p s x fuel).2=event p s x v:=by
 rw [take_eq hap hr hok hv ha hf]
 simp only
 split
 · exact ⟨_,rfl⟩
 split
 · exact ⟨_,rfl⟩
 · exact ⟨_,rfl⟩
theorem touched_tch {e:Event} {l:List Access} {k n:Int} (hl:e.touches=l.length) (h6:l.length≤6) (hat:∀ i,i<l.length→e.touch.getD i default=l.getD i default) (h:Tch l k n):touchedB e k n=true:=by
 obtain ⟨a,ha,h1,h2⟩:=h
 obtain ⟨i,hi,rfl⟩:=List.getElem_of_mem ha
 have q:=hat i hi
 have e1:l.getD i default=l[i]:=by simp [List.getD_eq_getElem?_getD,hi]
 exact touched_hit (i:=i) ⟨by omega,by omega⟩ (by rw [q,e1];exact h1) (by rw [q,e1];exact h2)
structure Kept (p:Prg) (s:Stt) (x:Pck) (fuel:Int) (t:Stt) (e:Event) (l:List Access):Prop where
 shape:t.Shape
 good:validP p t=true
 vld:Vld p t
 go:e.go=x.go
 alt:e.alt=x.alt
 len:e.touches=l.length
 six:l.length≤6
 six':e.touch.length=6
 fill:e.touch=touchFill l
 at_:∀ i,i<l.length→e.touch.getD i default=l.getD i default
 vars:∀ i:Nat,t.vars.getD i 0=s.vars.getD i 0∨touchedB e 1 i=true
 owner:∀ i:Nat,t.owner.getD i 0=s.owner.getD i 0∨touchedB e 2 i=true
 chans:∀ i:Nat,t.chans.getD i default=s.chans.getD i default∨touchedB e 3 i=true
 gos:∀ i:Nat,t.gos.getD i default=s.gos.getD i default∨touchedB e 5 i=true
 count:t.count=s.count∨touchedB e 4 0=true
 wake:∀ g:Int,0≤g∧g<s.count→isLive s g=true→(alts p s g).length=0→oneErr p t g=0∧((alts p t g).length=0∨clashL (touch p s g) l=true)
theorem kept {p:Prg} {s:Stt} {x:Pck} {fuel:Int} (hr:rightP p=true) (hv:Vld p s) (ha:x.alt∈alts p s x.go) (hf:0≤fuel∧fuel≤4096):Kept p s x fuel (take applyW p s x fuel).1 (take applyW p s x fuel).2 (touch p s x.go):=by
 have hok:=Prg.ok hr
 have hw:=hv.wf hok hr
 have hg:=(live_iff.1 (alts_live ha)).1
 have hvt:=take_ok applyW_ok hr hok hv ha hf
 have h6:=(touch_ok hok hw hg).2.2
 obtain ⟨v,he⟩:=take_event applyW_ok hr hok hv ha hf
 have hF:=touch_foot p s x.go
 have hK:Ag (fun k n=>¬Wrt (touch p s x.go) k n) (take applyW p s x fuel).1 s:=take_F applyW_ok hr hok hv ha hf hF (fun k n q r=>r q)
 have hct:=take_count applyW_ok hr hok hv ha hf
 rw [he]
 have hat:∀ i,i<(touch p s x.go).length→(event p s x v).touch.getD i default=(touch p s x.go).getD i default:=fun i hi=>by
  show (touchFill (touch p s x.go)).getD i default=_
  rw [touchFill_at _ (by omega),if_pos hi]
 have tt:∀ {k n:Int},Wrt (touch p s x.go) k n→touchedB (event p s x v) k n=true:=fun h=>touched_tch rfl h6 hat h.tch
 refine ⟨hvt.shape,hvt.ok hok hr,hvt,rfl,rfl,rfl,h6,by simp [event,touchFill],rfl,hat,fun i=>?_,fun i=>?_,fun i=>?_,fun i=>?_,?_,fun g hgc hl h0=>?_⟩
 · by_cases q:Wrt (touch p s x.go) 1 i
   · exact .inr (tt q)
   · exact .inl (hK.vars i q)
 · by_cases q:Wrt (touch p s x.go) 2 i
   · exact .inr (tt q)
   · exact .inl (hK.owner i q)
 · by_cases q:Wrt (touch p s x.go) 3 i
   · exact .inr (tt q)
   · exact .inl (hK.chans i q)
 · by_cases q:Wrt (touch p s x.go) 5 i
   · exact .inr (tt q)
   · exact .inl (hK.gos i q)
 · by_cases q:Wrt (touch p s x.go) 4 0
   · exact .inr (tt q)
   · exact .inl (hK.count q)
 · have hne:g≠x.go:=by
    intro e
    subst e
    have:=List.length_pos_of_mem ha
    omega
   have hgos:(take applyW p s x fuel).1.gor g=s.gor g:=by
    refine hK.gos g.toNat fun q=>?_
    rw [Int.toNat_of_nonneg hgc.1] at q
    rcases touch_gos p s x.go q with h|h
    · exact hne h
    · omega
   have hc6:=hvt.count
   refine ⟨?_,?_⟩
   · unfold oneErr
     have hask:askErr p (take applyW p s x fuel).1=0:=by unfold askErr;rw [hr,hvt.ok hok hr];decide
     have hlt:liveB (take applyW p s x fuel).1 g=true:=by
      have hl2:=(live_iff.1 hl).2
      have e:(take applyW p s x fuel).1.gos.getD g.toNat default=s.gos.getD g.toNat default:=hgos
      unfold liveB
      rw [e]
      rcases hl2 with q|q<;>simp [-List.getD_eq_getElem?_getD,q]
     rw [hask,if_neg (by decide),if_neg (by omega),hlt]
     rfl
   · cases hcl:clashL (touch p s g) (touch p s x.go)
     · left
       have hap:=clash_apart hcl
       have h1:Ag (Tch (touch p s g)) s (take applyW p s x fuel).1:=(hK.mono (fun k n q r=>(hap k n).2 r q)).symm
       rw [alts_R h1 (touch_foot p s g) (fun _ _=>Wrt.tch) (opers hok hw hgc) hgc (by omega)]
       exact h0
     · exact .inr rfl
end Go.Eng
namespace Go.Eng.Tryz
open Go.RowKit Go.Eng
set_option maxHeartbeats 0
set_option maxRecDepth 20000
theorem Event.at4 (e:Event) (d:V):e.v.toList.getD 4 d=.int e.alt:=rfl
attribute [go_sem] Event.at4
structure Did1 (p:Prg) (s:Stt) (x:Pck) (fuel:Int) (t:Stt) (e:Event) (l:List Access):Prop where
 kept:Kept p s x fuel t e l
 touch:Ctr Go.Proofs.Tryz.prog tab 23 [26,37,3] [60,49] [p.v,s.v,.int x.go] [.list (l.map Access.v),.int 0]
 do_:Ctr Go.Proofs.Tryz.prog tab 15 [26,37,39,3] [37,48,49] [p.v,s.v,x.v,.int fuel] [t.v,e.v,.int 0]
 good:Ctr Go.Proofs.Tryz.prog tab 24 [26,37] [4] [p.v,t.v] [.bool true]
theorem did1 {p:Prg} {s:Stt} {x:Pck} {fuel:Int} (hp:p.Fit) (hr:rightP p=true) (hs:s.Shape) (hvl:validP p s=true) (ha:x.alt∈alts p s x.go) (hf:0≤fuel∧fuel≤4096):∃ t e l,Did1 p s x fuel t e l∧∀ g,l=touch p s g∨g≠x.go:=by
 have hok:=Prg.ok hr
 have hv:=Vld.of hok hs hvl
 have hask:askErr p s=0:=by unfold askErr;rw [hr,hvl];decide
 have hl:=alts_live ha
 have hg:=(live_iff.1 hl).1
 have hc:=hv.count
 have h1:oneErr p s x.go=0:=by
  unfold oneErr
  rw [hask,if_neg (by decide),if_neg (by omega),← isLive_in hg.1 hg.2,hl]
  rfl
 have K:=kept hr hv ha hf
 refine ⟨_,_,_,⟨K,?_,?_,?_⟩,fun g=>if h:g=x.go then .inl (by rw [h]) else .inr h⟩
 · have c:=pTouch_ctr p s x.go hp hs
   rw [if_pos h1,h1] at c
   exact c
 · have c:=pdo_ctr p s x fuel hp hs
   rw [doV_take hask (by omega) ha] at c
   exact c
 · have c:=pvalid_ctr p _ hp K.shape
   rw [K.good] at c
   exact c
def lv4:List (Nat × List Nat):=[(0,[1]),(1,[1,35]),(2,[2]),(3,[1,3,4]),(4,[1,3,4,5,6,7]),(5,[1,3,5,6,101]),(6,[2]),(7,[1,3,5,6,8]),(8,[1,3,5,6,8,105]),(9,[1,3,5,6,8]),(10,[1,3,5,6,8,116]),(11,[2]),(12,[1,5,6,9]),(13,[1,5,6,9,118]),(14,[1,5,6,9]),(15,[1,5,6,9,136]),(16,[2]),(17,[1,5,6,10]),(18,[1,5,6,10,138]),(19,[1,5,6,10]),(20,[1,5,6,10,156]),(21,[2]),(22,[1,5,6,11]),(23,[1,5,6,11,158]),(24,[1,5,6,11]),(25,[1,5,6,11,176]),(26,[2]),(27,[1,5,6,12]),(28,[1,5,6,12,178]),(29,[1,5,6,12]),(30,[1,5,6,12,196]),(31,[2]),(32,[2])]
theorem stepKeeps_ctr (p:Prg) (s:Stt) (x:Pck) (fuel:Int) (hp:p.Fit) (hs:s.Shape):Ctr Go.Proofs.Tryz.prog tab 4 [41] [4] [caseV p s x fuel] [.bool true]:=by
 have hpp:=hp
 have hfit:=hp
 have hcode:=p.code_len hp
 have hsl:=p.sels_len hp
 obtain ⟨hp1,hp2,hp3,hp4⟩:=hp
 have hmx:256≤maxLen:=by decide
 have hs1:=hs.vars
 have hs2:=hs.owner
 have hs3:=hs.chans
 have hs5:=hs.gos
 refine Ctr.body ok Go.Proofs.Tryz.func4 rfl rfl 210 rfl [.tmp 2] rfl (by simp [fromVs]) ?_
 simp only [fromVs,fromV,args0,V.toList_list,V.toInt_int,V.toBool_bool,Nat.zero_add,Nat.reduceAdd,ty41]
 repeat' first
  | ((with_reducible refine SARA.told 1 2 ?_)
     rcases Bool.eq_false_or_eq_true (rightP p&&validP p s) with hft|hft<;>simp only [hft]
     first|(have hfr:=(Bool.and_eq_true_iff.1 hft).1;have hfv:=(Bool.and_eq_true_iff.1 hft).2;have hw:=(Vld.of (Prg.ok hfr) hs hfv).wf (Prg.ok hfr) hfr)|skip)
  | ((with_reducible refine SARQ.told 10 _ ?_);try simp only [hAt,hBt,hti])
  | ((with_reducible refine SART.told 25 _ ?_);try simp only [hAt,hBt])
  | ((with_reducible refine SART.told 30 _ ?_);try simp only [hAt,hBt])
  | ((with_reducible first|refine SARA.do fun R1 hR1=>?_|refine SARQ.do fun R1 hR1=>?_|refine SART.do fun R1 hR1=>?_|refine SARB.keep fun R1 hR1=>?_|refine SARB.any fun R1 hR1=>?_);(simp only [go_sem,seval,-List.reduceReplicate,Bool.cond_false_right,Bool.cond_true_left,decide_true,decide_false,Bool.not_true,Bool.not_false,Access.beq,Chn.beq,Gor.beq]);(repeat' with_reducible refine And.intro ?_ ?_);all_goals first|(refine hR1 _ ?_;clear hR1 R1)|(intro hgf;simp only [hgf];refine hR1 _ ?_;clear hR1 R1)|((first|refine ⟨_,_,rfl,_,CallQ.ctr ok (lfit_ctr p s x fuel hpp hs) (by first|rfl|(simp [go_sem,ty64,ty23,ty60,List.take_of_length_le,List.length_map];done)|fail) rfl,?_⟩|refine ⟨_,_,rfl,_,fun hg=>CallQ.ctr ok (lfit_ctr p s x fuel hpp hs) (by first|rfl|(simp [go_sem,ty64,ty23,ty60,List.take_of_length_le,List.length_map];done)|fail) rfl,?_⟩|refine cq (cc (lfit_ctr p s x fuel hpp hs) (by first|rfl|(simp [go_sem,ty64,ty23,ty60,List.take_of_length_le,List.length_map];done)|fail)) ?_|refine ⟨_,_,rfl,.inl ⟨_,fun hg=>CallQ.ctr ok (lfit_ctr p s x fuel hpp hs) (by first|rfl|(simp [go_sem,ty64,ty23,ty60,List.take_of_length_le,List.length_map];done)|fail) rfl,?_⟩⟩|refine ⟨_,_,rfl,_,CallQ.ctr ok (has_ctr p s x hpp hfr hw) (by first|rfl|(simp [go_sem,ty64,ty23,ty60,List.take_of_length_le,List.length_map];done)|fail) rfl,?_⟩|refine ⟨_,_,rfl,_,fun hg=>CallQ.ctr ok (has_ctr p s x hpp hfr hw) (by first|rfl|(simp [go_sem,ty64,ty23,ty60,List.take_of_length_le,List.length_map];done)|fail) rfl,?_⟩|refine cq (cc (has_ctr p s x hpp hfr hw) (by first|rfl|(simp [go_sem,ty64,ty23,ty60,List.take_of_length_le,List.length_map];done)|fail)) ?_|refine ⟨_,_,rfl,.inl ⟨_,fun hg=>CallQ.ctr ok (has_ctr p s x hpp hfr hw) (by first|rfl|(simp [go_sem,ty64,ty23,ty60,List.take_of_length_le,List.length_map];done)|fail) rfl,?_⟩⟩|refine ⟨_,_,rfl,_,CallQ.ctr ok (speaks_ctr) (by first|rfl|(simp [go_sem,ty64,ty23,ty60,List.take_of_length_le,List.length_map];done)|fail) rfl,?_⟩|refine ⟨_,_,rfl,_,fun hg=>CallQ.ctr ok (speaks_ctr) (by first|rfl|(simp [go_sem,ty64,ty23,ty60,List.take_of_length_le,List.length_map];done)|fail) rfl,?_⟩|refine cq (cc (speaks_ctr) (by first|rfl|(simp [go_sem,ty64,ty23,ty60,List.take_of_length_le,List.length_map];done)|fail)) ?_|refine ⟨_,_,rfl,.inl ⟨_,fun hg=>CallQ.ctr ok (speaks_ctr) (by first|rfl|(simp [go_sem,ty64,ty23,ty60,List.take_of_length_le,List.length_map];done)|fail) rfl,?_⟩⟩|refine ce (cf (hD.touch) ?_ (by first|rfl|(simp [go_sem,ty64,ty23,ty60,List.take_of_length_le,List.length_map];done)|fail))|refine ⟨_,_,rfl,.inr ⟨fun _=>CallE.ctr ok (hD.touch) (by first|rfl|(simp [go_sem,ty64,ty23,ty60,List.take_of_length_le,List.length_map];done)|fail) ?_,?_⟩⟩|refine ce (cf (hD.do_) ?_ (by first|rfl|(simp [go_sem,ty64,ty23,ty60,List.take_of_length_le,List.length_map];done)|fail))|refine ⟨_,_,rfl,.inr ⟨fun _=>CallE.ctr ok (hD.do_) (by first|rfl|(simp [go_sem,ty64,ty23,ty60,List.take_of_length_le,List.length_map];done)|fail) ?_,?_⟩⟩|refine ⟨_,_,rfl,_,CallQ.ctr ok (hD.good) (by first|rfl|(simp [go_sem,ty64,ty23,ty60,List.take_of_length_le,List.length_map];done)|fail) rfl,?_⟩|refine ⟨_,_,rfl,_,fun hg=>CallQ.ctr ok (hD.good) (by first|rfl|(simp [go_sem,ty64,ty23,ty60,List.take_of_length_le,List.length_map];done)|fail) rfl,?_⟩|refine cq (cc (hD.good) (by first|rfl|(simp [go_sem,ty64,ty23,ty60,List.take_of_length_le,List.length_map];done)|fail)) ?_|refine ⟨_,_,rfl,.inl ⟨_,fun hg=>CallQ.ctr ok (hD.good) (by first|rfl|(simp [go_sem,ty64,ty23,ty60,List.take_of_length_le,List.length_map];done)|fail) rfl,?_⟩⟩|refine ⟨_,_,rfl,_,CallQ.ctr ok (touched_ctr e _ _ hK.six') (by first|rfl|(simp [go_sem,ty64,ty23,ty60,List.take_of_length_le,List.length_map];done)|fail) rfl,?_⟩|refine ⟨_,_,rfl,_,fun hg=>CallQ.ctr ok (touched_ctr e _ _ hK.six') (by first|rfl|(simp [go_sem,ty64,ty23,ty60,List.take_of_length_le,List.length_map];done)|fail) rfl,?_⟩|refine cq (cc (touched_ctr e _ _ hK.six') (by first|rfl|(simp [go_sem,ty64,ty23,ty60,List.take_of_length_le,List.length_map];done)|fail)) ?_|refine ⟨_,_,rfl,.inl ⟨_,fun hg=>CallQ.ctr ok (touched_ctr e _ _ hK.six') (by first|rfl|(simp [go_sem,ty64,ty23,ty60,List.take_of_length_le,List.length_map];done)|fail) rfl,?_⟩⟩|refine ⟨_,_,rfl,.inl ⟨.bool false,?_⟩⟩);all_goals ((try simp only [go_sem,seval,-List.reduceReplicate,Bool.cond_false_right,Bool.cond_true_left,decide_true,decide_false,Bool.not_true,Bool.not_false,Access.beq,Chn.beq,Gor.beq]);(repeat' with_reducible refine And.intro ?_ ?_);all_goals first|(refine hR1 _ ?_;clear hR1 R1)|(intro hgf;simp only [hgf];refine hR1 _ ?_;clear hR1 R1)|omega|rfl|decide|assumption|(intro _;omega)|(simp;done)|(simp [-List.getD_eq_getElem?_getD];omega)|exact hcode _|(intro _;exact hcode _)|exact hsl _|(intro _;exact hsl _)|(simp [-List.getD_eq_getElem?_getD,roomFor,maxLen,by3,by39,by45,by48,by37];omega)|(simp [-List.getD_eq_getElem?_getD,roomFor,maxLen,by3,by39,by45,by48,by37];done)))|omega|rfl|decide|assumption|(intro _;omega)|(simp;done)|(simp [-List.getD_eq_getElem?_getD];omega)|exact hcode _|(intro _;exact hcode _)|exact hsl _|(intro _;exact hsl _)|(simp [-List.getD_eq_getElem?_getD,roomFor,maxLen,by3,by39,by45,by48,by37];omega)|(simp [-List.getD_eq_getElem?_getD,roomFor,maxLen,by3,by39,by45,by48,by37];done))
  | ((with_reducible refine SART.done ?_);refine hR _ ?_;clear hR R;try simp only [go_sem,lv4,lvOf,Nat.reduceBEq,Option.getD_some])
  | (with_reducible first|refine SART.br ?_ ?_|exact SARL.nil|refine SARL.cons ?_ ?_)
  | ((with_reducible refine SARA.nil ?_);refine hR _ ?_;clear hR R;try simp only [go_sem,lv4,lvOf,Nat.reduceBEq,Option.getD_some])
  | ((with_reducible refine SARQ.nil ?_);refine hR _ ?_;clear hR R;try simp only [go_sem,lv4,lvOf,Nat.reduceBEq,Option.getD_some])
  | (with_reducible first|refine J1 ?_|refine J2 ?_|refine J3 ?_|refine J4 ?_|refine J5 ?_|refine J6 ?_|refine J7 ?_|refine J8 (by decide) ?_|refine J9 ?_|refine J10 ?_|refine J11 ?_|refine J12 ?_|refine J13 ?_|refine J14 ?_|refine J15 ?_|refine J16 ?_|refine J17 ?_|refine J18 ?_|refine J19 ?_)
  | ((with_reducible refine SA.at 3 ?_)
     obtain ⟨t,e,l,hD,hl⟩:=did1 hpp hfr hs hfv (of_decide_eq_true hb35.2) (by omega:0≤fuel∧fuel≤4096)
     have hK:=hD.kept
     have hll:=hK.six
     have hgo:=hK.go
     have hal:=hK.alt
     have hln:=hK.len
     have ht1:=hK.shape.vars
     have ht2:=hK.shape.owner
     have ht3:=hK.shape.chans
     have ht5:=hK.shape.gos
     have htl:=hK.six'
     clear hl
     (with_reducible refine J21 ok (by kernel_rfl) lv4 ?_);intro R hR;simp only [go_sem,strip])
  | ((with_reducible refine SA.at 10 ?_)
     have hlt:i<l.length:=by omega
     have hAt:=getD_map Access.v e.touch (i:=i) (by omega)
     have hBt:=getD_map Access.v l (i:=i) (by omega)
     have hti:=hK.at_ i hlt
     (with_reducible refine SA.regionD ok mixed (by kernel_rfl) (by kernel_rfl) lv4 ?_);intro R hR;simp only [go_sem,strip])
  | ((with_reducible refine SA.at 15 ?_)
     have hti:=hK.vars i
     refine SA.regionT ok mixed (.take 0 (.take 1 (.take 2 (.take 3 (.take 4 (.take 5 (.take 6 (.take 7 (.take 8 (.take 9 (.take 10 (.take 11 (.take 12 (.br 13 (.take 14 (.take 15 .done)) .nil)))))))))))))) [] lv4 (by kernel_rfl) (fun R hR=>?_);simp only [go_sem,strip])
  | ((with_reducible refine SA.at 20 ?_)
     have hti:=hK.owner i
     refine SA.regionT ok mixed (.take 0 (.take 1 (.take 2 (.take 3 (.take 4 (.take 5 (.take 6 (.take 7 (.take 8 (.take 9 (.take 10 (.take 11 (.take 12 (.br 13 (.take 14 (.take 15 .done)) .nil)))))))))))))) [] lv4 (by kernel_rfl) (fun R hR=>?_);simp only [go_sem,strip])
  | ((with_reducible refine SA.at 25 ?_)
     have hti:=hK.chans i
     have hAt:=getD_map Chn.v t.chans (i:=i) (by omega)
     have hBt:=getD_map Chn.v s.chans (i:=i) (by omega)
     refine SA.regionT ok mixed (.take 0 (.take 1 (.take 2 (.take 3 (.take 4 (.take 5 (.take 6 (.take 7 (.take 8 (.take 9 (.take 10 (.take 11 (.take 12 (.br 13 (.take 14 (.take 15 .done)) .nil)))))))))))))) [] lv4 (by kernel_rfl) (fun R hR=>?_);simp only [go_sem,strip])
  | ((with_reducible refine SA.at 30 ?_)
     have hti:=hK.gos i
     have hAt:=getD_map Gor.v t.gos (i:=i) (by omega)
     have hBt:=getD_map Gor.v s.gos (i:=i) (by omega)
     refine SA.regionT ok mixed (.take 0 (.take 1 (.take 2 (.take 3 (.take 4 (.take 5 (.take 6 (.take 7 (.take 8 (.take 9 (.take 10 (.take 11 (.take 12 (.br 13 (.take 14 (.take 15 .done)) .nil)))))))))))))) [] lv4 (by kernel_rfl) (fun R hR=>?_);simp only [go_sem,strip])
  | ((with_reducible refine J21 ok (by kernel_rfl) lv4 ?_);intro R hR;simp only [go_sem,strip])
  | ((with_reducible refine SA.regionD ok mixed (by kernel_rfl) (by kernel_rfl) lv4 ?_);intro R hR;simp only [go_sem,strip])
  | ((with_reducible refine J20 35 rfl (fun hb35=>?_) (fun hb35=>?_))
     all_goals
      try simp [-List.getD_eq_getElem?_getD] at hb35
      try (exfalso;omega))
  | ((with_reducible refine J20 101 rfl (fun hb101=>?_) (fun hb101=>?_))
     all_goals
      try simp [-List.getD_eq_getElem?_getD] at hb101
      try (exfalso;omega))
  | ((with_reducible refine J20 116 rfl (fun hb116=>?_) (fun hb116=>?_))
     all_goals
      try simp [-List.getD_eq_getElem?_getD] at hb116
      try (exfalso;omega))
  | ((with_reducible refine J20 136 rfl (fun hb136=>?tt136) (fun hb136=>?ff136))
     case' tt136 =>
      try simp [-List.getD_eq_getElem?_getD] at hb136
      try (exfalso;omega)
      exact absurd hti (by intro q;rcases q with q|q;exact hb136.1 q;rw [q] at hb136;exact absurd hb136.2 (by decide))
     case' ff136 =>
      try simp [-List.getD_eq_getElem?_getD] at hb136
      try (exfalso;omega))
  | ((with_reducible refine J20 156 rfl (fun hb156=>?tt156) (fun hb156=>?ff156))
     case' tt156 =>
      try simp [-List.getD_eq_getElem?_getD] at hb156
      try (exfalso;omega)
      exact absurd hti (by intro q;rcases q with q|q;exact hb156.1 q;rw [q] at hb156;exact absurd hb156.2 (by decide))
     case' ff156 =>
      try simp [-List.getD_eq_getElem?_getD] at hb156
      try (exfalso;omega))
  | ((with_reducible refine J20 176 rfl (fun hb176=>?tt176) (fun hb176=>?ff176))
     case' tt176 =>
      try simp [-List.getD_eq_getElem?_getD] at hb176
      try (exfalso;omega)
      exact absurd hti (by intro q;rcases q with q|q;exact hb176.1 q;rw [q] at hb176;exact absurd hb176.2 (by decide))
     case' ff176 =>
      try simp [-List.getD_eq_getElem?_getD] at hb176
      try (exfalso;omega))
  | ((with_reducible refine J20 196 rfl (fun hb196=>?tt196) (fun hb196=>?ff196))
     case' tt196 =>
      try simp [-List.getD_eq_getElem?_getD] at hb196
      try (exfalso;omega)
      exact absurd hti (by intro q;rcases q with q|q;exact hb196.1 q;rw [q] at hb196;exact absurd hb196.2 (by decide))
     case' ff196 =>
      try simp [-List.getD_eq_getElem?_getD] at hb196
      try (exfalso;omega))
  | ((with_reducible refine SA.cond rfl ?_ ?_)
     all_goals
      intro hb
      try simp [-List.getD_eq_getElem?_getD] at hb
      try (exfalso;omega))
  | ((with_reducible refine SA.atLoop ?_)
     refine SA.weaken (St.le.of_eq (by rfl)) (SA.loop (fun n τ=>∃ (i:Nat),n=l.length-i∧(i≤l.length)∧τ={ tm:=[(1,true,.ptr 0 [] 41),(3,true,.sl 1 45 0 l.length false),(5,true,.ptr 2 [] 37),(6,true,.ptr 3 [] 48),(8,true,.int .i64 i)],ob:=[.var 41 (.data 41 (caseV p s x fuel)),.row 45 (l.map Access.v),.var 37 (.data 37 t.v),.var 48 (.data 48 e.v)],out:=[],nt:=210 }) (l.length) ⟨0,rfl,by omega,rfl⟩ ?_)
     rintro n τ ⟨i,hn,hi,rfl⟩)
  | ((with_reducible refine SA.atLoop ?_)
     refine SA.weaken (St.le.of_eq (by rfl)) (SA.loop (fun n τ=>∃ (i:Nat),n=8-i∧(i≤8)∧τ={ tm:=[(1,true,.ptr 0 [] 41),(5,true,.ptr 2 [] 37),(6,true,.ptr 3 [] 48),(9,true,.int .i64 i)],ob:=[.var 41 (.data 41 (caseV p s x fuel)),.row 45 (l.map Access.v),.var 37 (.data 37 t.v),.var 48 (.data 48 e.v)],out:=[],nt:=210 }) (8) ⟨0,rfl,by omega,rfl⟩ ?_)
     rintro n τ ⟨i,hn,hi,rfl⟩)
  | ((with_reducible refine SA.atLoop ?_)
     refine SA.weaken (St.le.of_eq (by rfl)) (SA.loop (fun n τ=>∃ (i:Nat),n=4-i∧(i≤4)∧τ={ tm:=[(1,true,.ptr 0 [] 41),(5,true,.ptr 2 [] 37),(6,true,.ptr 3 [] 48),(10,true,.int .i64 i)],ob:=[.var 41 (.data 41 (caseV p s x fuel)),.row 45 (l.map Access.v),.var 37 (.data 37 t.v),.var 48 (.data 48 e.v)],out:=[],nt:=210 }) (4) ⟨0,rfl,by omega,rfl⟩ ?_)
     rintro n τ ⟨i,hn,hi,rfl⟩)
  | ((with_reducible refine SA.atLoop ?_)
     refine SA.weaken (St.le.of_eq (by rfl)) (SA.loop (fun n τ=>∃ (i:Nat),n=4-i∧(i≤4)∧τ={ tm:=[(1,true,.ptr 0 [] 41),(5,true,.ptr 2 [] 37),(6,true,.ptr 3 [] 48),(11,true,.int .i64 i)],ob:=[.var 41 (.data 41 (caseV p s x fuel)),.row 45 (l.map Access.v),.var 37 (.data 37 t.v),.var 48 (.data 48 e.v)],out:=[],nt:=210 }) (4) ⟨0,rfl,by omega,rfl⟩ ?_)
     rintro n τ ⟨i,hn,hi,rfl⟩)
  | ((with_reducible refine SA.atLoop ?_)
     refine SA.weaken (St.le.of_eq (by rfl)) (SA.loop (fun n τ=>∃ (i:Nat),n=6-i∧(i≤6)∧τ={ tm:=[(1,true,.ptr 0 [] 41),(5,true,.ptr 2 [] 37),(6,true,.ptr 3 [] 48),(12,true,.int .i64 i)],ob:=[.var 41 (.data 41 (caseV p s x fuel)),.row 45 (l.map Access.v),.var 37 (.data 37 t.v),.var 48 (.data 48 e.v)],out:=[],nt:=210 }) (6) ⟨0,rfl,by omega,rfl⟩ ?_)
     rintro n τ ⟨i,hn,hi,rfl⟩)
  | ((with_reducible refine loopK.round ?_)
     first
      | (have hlt:i<l.length:=by omega
         have hw:=wrap_succ (n:=i) (m:=256) (by omega) (by decide)
         refine loopK.normal (l.length-(i+1)) _ (by omega) (St.le.of_eq (by simp only [hw])) ⟨i+1,rfl,hlt,rfl⟩)
      | (have hlt:i<8:=by omega
         have hw:=wrap_succ (n:=i) (m:=256) (by omega) (by decide)
         refine loopK.normal (8-(i+1)) _ (by omega) (St.le.of_eq (by simp only [hw])) ⟨i+1,rfl,hlt,rfl⟩)
      | (have hlt:i<4:=by omega
         have hw:=wrap_succ (n:=i) (m:=256) (by omega) (by decide)
         refine loopK.normal (4-(i+1)) _ (by omega) (St.le.of_eq (by simp only [hw])) ⟨i+1,rfl,hlt,rfl⟩)
      | (have hlt:i<4:=by omega
         have hw:=wrap_succ (n:=i) (m:=256) (by omega) (by decide)
         refine loopK.normal (4-(i+1)) _ (by omega) (St.le.of_eq (by simp only [hw])) ⟨i+1,rfl,hlt,rfl⟩)
      | (have hlt:i<6:=by omega
         have hw:=wrap_succ (n:=i) (m:=256) (by omega) (by decide)
         refine loopK.normal (6-(i+1)) _ (by omega) (St.le.of_eq (by simp only [hw])) ⟨i+1,rfl,hlt,rfl⟩))
  | ((with_reducible first|refine ctrK.normal ?_|refine ctrK.ret ?_)
     simp only [go_sem,resA,resV,backK,seval]
     first
      | (exact ⟨rfl,rfl⟩)
      | (rfl)
      | (refine ⟨rfl,?_⟩
         rcases hK.count with q|q
         · rw [decide_eq_true q];rfl
         · rw [q,Bool.or_true]))
end Go.Eng.Tryz
namespace Go.Eng.Tryz
open Go.RowKit Go.Eng
variable {w:World} {F:Nat→Prop}
theorem slice_of {α:Type} {f:α→V} {t e:TypeId} (ht:tab.ty t=.slice e) (hf:∀ v cs,Fits tab w F e v cs→∃ a,v=f a) {v:V} {cs:List Value} (h:Fits tab w F t v cs):∃ m:List α,v=.list (m.map f):=by
 rcases h.inv' ht with ⟨h,_⟩|⟨b,off,n,cap,l',ds,h,_,_,_,_,hf',_⟩
 · exact ⟨[],h⟩
 · obtain ⟨m,rfl⟩:=fits_list hf hf'
   exact ⟨m,h⟩
theorem array_of {α:Type} {f:α→V} {q:α→Prop} {t e:TypeId} {n:Nat} (ht:tab.ty t=.arr n e) (hf:∀ v cs,Fits tab w F e v cs→∃ a,q a∧v=f a) {v:V} {cs:List Value} (h:Fits tab w F t v cs):∃ m:List α,m.length=n∧(∀ a∈m,q a)∧v=.agg (m.map f):=by
 obtain ⟨l,hl,hf'⟩:=h.inv' ht
 obtain ⟨m,hm,rfl⟩:=fits_list' hf hf'
 have:=hf'.lens
 simp at this
 exact ⟨m,this,hm,hl⟩
theorem fits_int {t:TypeId} {k:IntKind} (ht:tab.ty t=.int k) (v:V) (cs:List Value) (h:Fits tab w F t v cs):∃ n:Int,k.has n∧v=.int n:=by
 obtain ⟨n,h1,h2,_⟩:=h.inv' ht
 exact ⟨n,h2,h1⟩
theorem fits_bool {t:TypeId} (ht:tab.ty t=.bool) (v:V) (cs:List Value) (h:Fits tab w F t v cs):∃ n:Bool,v=.bool n:=by
 obtain ⟨n,h1,_⟩:=h.inv' ht
 exact ⟨n,h1⟩
theorem fits_instr (v:V) (cs:List Value) (h:Fits tab w F 129 v cs):∃ a:Instr,v=a.v:=by
 obtain ⟨l,rfl,hl⟩:=h.inv' ty129
 cases hl with|cons h1 hl=>cases hl with|cons h2 hl=>cases hl with|cons h3 hl=>cases hl with|cons h4 hl=>cases hl with|cons h5 hl=>cases hl with|nil =>
  obtain ⟨a1,_,rfl⟩:=fits_int ty43 _ _ h1
  obtain ⟨a2,_,rfl⟩:=fits_int ty3 _ _ h2
  obtain ⟨a3,_,rfl⟩:=fits_int ty3 _ _ h3
  obtain ⟨a4,_,rfl⟩:=fits_int ty3 _ _ h4
  obtain ⟨a5,_,rfl⟩:=fits_int ty2 _ _ h5
  exact ⟨⟨a1,a2,a3,a4,a5⟩,rfl⟩
theorem fits_case (v:V) (cs:List Value) (h:Fits tab w F 156 v cs):∃ a:Cas,v=a.v:=by
 obtain ⟨l,rfl,hl⟩:=h.inv' ty156
 cases hl with|cons h1 hl=>cases hl with|cons h2 hl=>cases hl with|cons h3 hl=>cases hl with|cons h4 hl=>cases hl with|nil =>
  obtain ⟨a1,rfl⟩:=fits_bool ty4 _ _ h1
  obtain ⟨a2,_,rfl⟩:=fits_int ty3 _ _ h2
  obtain ⟨a3,_,rfl⟩:=fits_int ty3 _ _ h3
  obtain ⟨a4,_,rfl⟩:=fits_int ty3 _ _ h4
  exact ⟨⟨a1,a2,a3,a4⟩,rfl⟩
theorem fits_sel (v:V) (cs:List Value) (h:Fits tab w F 124 v cs):∃ a:Sel,v=a.v:=by
 obtain ⟨l,rfl,hl⟩:=h.inv' ty124
 cases hl with|cons h1 hl=>cases hl with|cons h2 hl=>cases hl with|nil =>
  obtain ⟨a1,rfl⟩:=slice_of ty122 fits_case h1
  obtain ⟨a2,_,rfl⟩:=fits_int ty3 _ _ h2
  exact ⟨⟨a1,a2⟩,rfl⟩
theorem fits_fnc (v:V) (cs:List Value) (h:Fits tab w F 121 v cs):∃ a:Fnc,v=a.v:=by
 obtain ⟨l,rfl,hl⟩:=h.inv' ty121
 cases hl with|cons h1 hl=>cases hl with|cons h2 hl=>cases hl with|cons h3 hl=>cases hl with|cons h4 hl=>cases hl with|nil =>
  obtain ⟨a1,_,rfl⟩:=fits_int ty3 _ _ h1
  obtain ⟨a2,_,rfl⟩:=fits_int ty3 _ _ h2
  obtain ⟨a3,rfl⟩:=slice_of ty118 fits_instr h3
  obtain ⟨a4,rfl⟩:=slice_of ty119 fits_sel h4
  exact ⟨⟨a1,a2,a3,a4⟩,rfl⟩
theorem fits_vr (v:V) (cs:List Value) (h:Fits tab w F 139 v cs):∃ a:Vr,v=a.v:=by
 obtain ⟨l,rfl,hl⟩:=h.inv' ty139
 cases hl with|cons h1 hl=>cases hl with|cons h2 hl=>cases hl with|nil =>
  obtain ⟨a1,rfl⟩:=fits_bool ty4 _ _ h1
  obtain ⟨a2,_,rfl⟩:=fits_int ty2 _ _ h2
  exact ⟨⟨a1,a2⟩,rfl⟩
theorem fits_prog (v:V) (cs:List Value) (h:Fits tab w F 26 v cs):∃ a:Prg,v=a.v:=by
 obtain ⟨l,rfl,hl⟩:=h.inv' ty26
 cases hl with|cons h1 hl=>cases hl with|cons h2 hl=>cases hl with|cons h3 hl=>cases hl with|cons h4 hl=>cases hl with|nil =>
  obtain ⟨a1,rfl⟩:=slice_of ty22 fits_vr h1
  obtain ⟨a2,_,rfl⟩:=fits_int ty3 _ _ h2
  obtain ⟨a3,rfl⟩:=slice_of ty23 (f:=V.int) (fun v cs h=>let ⟨n,_,e⟩:=fits_int ty3 v cs h;⟨n,e⟩) h3
  obtain ⟨a4,rfl⟩:=slice_of ty24 fits_fnc h4
  exact ⟨⟨a1,a2,a3,a4⟩,rfl⟩
theorem Prg.fit_of {p:Prg} (h:V.Lens p.v):p.Fit:=by
 have a:=V.Lens.of_agg h
 have h1:=(V.Lens.of_list (a (.list (p.vars.map Vr.v)) (by simp))).1
 have h3:=(V.Lens.of_list (a (.list (p.chans.map V.int)) (by simp))).1
 have h4:=V.Lens.of_list (a (.list (p.funcs.map Fnc.v)) (by simp))
 rw [List.length_map] at h1 h3
 refine ⟨h1,h3,by simpa using h4.1,fun f hf=>?_⟩
 have b:=V.Lens.of_agg (h4.2 f.v (List.mem_map.2 ⟨f,hf,rfl⟩))
 have c1:=(V.Lens.of_list (b (.list (f.code.map Instr.v)) (by simp))).1
 have c2:=V.Lens.of_list (b (.list (f.sels.map Sel.v)) (by simp))
 rw [List.length_map] at c1
 refine ⟨c1,by simpa using c2.1,fun s hs=>?_⟩
 have d:=V.Lens.of_agg (c2.2 s.v (List.mem_map.2 ⟨s,hs,rfl⟩))
 simpa using (V.Lens.of_list (d (.list (s.cases.map Cas.v)) (by simp))).1
theorem fits_gor (v:V) (cs:List Value) (h:Fits tab w F 34 v cs):∃ a:Gor,a.regs.length=8∧v=a.v:=by
 obtain ⟨l,rfl,hl⟩:=h.inv' ty34
 cases hl with|cons h1 hl=>cases hl with|cons h2 hl=>cases hl with|cons h3 hl=>cases hl with|cons h4 hl=>cases hl with|cons h5 hl=>cases hl with|nil =>
  obtain ⟨a1,_,rfl⟩:=fits_int ty3 _ _ h1
  obtain ⟨a2,_,rfl⟩:=fits_int ty3 _ _ h2
  obtain ⟨a3,_,rfl⟩:=fits_int ty3 _ _ h3
  obtain ⟨a4,_,rfl⟩:=fits_int ty3 _ _ h4
  obtain ⟨a5,hl5,_,rfl⟩:=array_of ty27 (fits_int ty2) h5
  exact ⟨⟨a1,a2,a3,a4,a5⟩,hl5,rfl⟩
theorem fits_chn (v:V) (cs:List Value) (h:Fits tab w F 31 v cs):∃ a:Chn,a.buf.length=4∧v=a.v:=by
 obtain ⟨l,rfl,hl⟩:=h.inv' ty31
 cases hl with|cons h1 hl=>cases hl with|cons h2 hl=>cases hl with|cons h3 hl=>cases hl with|cons h4 hl=>cases hl with|cons h5 hl=>cases hl with|cons h6 hl=>cases hl with|nil =>
  obtain ⟨a1,hl1,_,rfl⟩:=array_of ty29 (fits_int ty2) h1
  obtain ⟨a2,_,rfl⟩:=fits_int ty3 _ _ h2
  obtain ⟨a3,rfl⟩:=fits_bool ty4 _ _ h3
  obtain ⟨a4,_,rfl⟩:=fits_int ty3 _ _ h4
  obtain ⟨a5,_,rfl⟩:=fits_int ty3 _ _ h5
  obtain ⟨a6,_,rfl⟩:=fits_int ty2 _ _ h6
  exact ⟨⟨a1,a2,a3,a4,a5,a6⟩,hl1,rfl⟩
theorem fits_state (v:V) (cs:List Value) (h:Fits tab w F 37 v cs):∃ a:Stt,a.Shape∧v=a.v:=by
 obtain ⟨l,rfl,hl⟩:=h.inv' ty37
 cases hl with|cons h1 hl=>cases hl with|cons h2 hl=>cases hl with|cons h3 hl=>cases hl with|cons h4 hl=>cases hl with|cons h5 hl=>cases hl with|nil =>
  obtain ⟨a1,l1,_,rfl⟩:=array_of ty27 (fits_int ty2) h1
  obtain ⟨a2,l2,_,rfl⟩:=array_of ty28 (fits_int ty3) h2
  obtain ⟨a3,l3,q3,rfl⟩:=array_of ty32 fits_chn h3
  obtain ⟨a4,l4,q4,rfl⟩:=array_of ty35 fits_gor h4
  obtain ⟨a5,_,rfl⟩:=fits_int ty3 _ _ h5
  exact ⟨⟨a1,a2,a3,a4,a5⟩,⟨l1,l2,l3,q3,l4,q4⟩,rfl⟩
theorem fits_pick (v:V) (cs:List Value) (h:Fits tab w F 39 v cs):∃ a:Pck,v=a.v:=by
 obtain ⟨l,rfl,hl⟩:=h.inv' ty39
 cases hl with|cons h1 hl=>cases hl with|cons h2 hl=>cases hl with|nil =>
  obtain ⟨a1,_,rfl⟩:=fits_int ty3 _ _ h1
  obtain ⟨a2,_,rfl⟩:=fits_int ty3 _ _ h2
  exact ⟨⟨a1,a2⟩,rfl⟩
end Go.Eng.Tryz
namespace Go.Eng.Tryz
open Go.RowKit Go.Eng
variable {w:World} {F:Nat→Prop}
theorem fits_cse (v:V) (cs:List Value) (h:Fits tab w F 41 v cs):∃ (p:Prg) (s:Stt) (x:Pck) (fuel:Int),s.Shape∧v=caseV p s x fuel:=by
 obtain ⟨l,rfl,hl⟩:=h.inv' ty41
 cases hl with|cons h1 hl=>cases hl with|cons h2 hl=>cases hl with|cons h3 hl=>cases hl with|cons h4 hl=>cases hl with|nil =>
  obtain ⟨a1,rfl⟩:=fits_prog _ _ h1
  obtain ⟨a2,hs,rfl⟩:=fits_state _ _ h2
  obtain ⟨a3,rfl⟩:=fits_pick _ _ h3
  obtain ⟨a4,_,rfl⟩:=fits_int ty3 _ _ h4
  exact ⟨a1,a2,a3,a4,hs,rfl⟩
theorem cse_fit {p:Prg} {s:Stt} {x:Pck} {fuel:Int} (h:V.Lens (caseV p s x fuel)):p.Fit:=Prg.fit_of (V.Lens.of_agg h p.v (by simp))
end Go.Eng.Tryz
namespace Go.Proofs.YtedceinkpkoncaaGreatDoor
open Go.ChangeShapes Go.WideShapes Go.ChangeAt Go.RowKit
def laid1 {H : Type} : List (String × DataW H) := [("math/bits.deBruijn64tab", Rows.laid_math_bits_deBruijn64tab)]
theorem gTab : Tryz.prog.globalNamed "math/bits.deBruijn64tab" = some 0 := by kernel_rfl
theorem tTab:(Tryz.prog.globals[0]?).map (·.type)=some 267:=by kernel_rfl
theorem of_laid {W:World} (h:laidMetH Tryz.prog laid1 W):Go.Eng.Tryz.glob W:=by
 rw [MakeChecks.laidMetH_plain _ _ _ (by kernel_rfl)] at h
 obtain ⟨ps,⟨g0,t0,cs0,f0,p0,q0,hg0,ht0,hv0,hd0,_,_⟩,_,_⟩:=h
 obtain rfl:=Option.some.inj (gTab.symm.trans hg0)
 obtain rfl:=Option.some.inj (tTab.symm.trans ht0)
 obtain ⟨xs,m1,rfl,hx1,hlen,hn3,hel⟩:=DataW.trod_array Tryz.underlying267 hd0
 intro j hj
 have h64:Lib.deBruijn64tab.length=64:=rfl
 have hj':j<xs.length:=by omega
 have hd:=(Prod.mk.inj hx1).1
 have hl:Lib.deBruijn64tab.map (fun n:Nat=>(DataW.lit (.int .u8 (n:Int)):DataW _))=xs.map (·.1):=DataW.agg.inj hd
 have h1:=hel j (by omega)
 rw [List.getElem?_eq_getElem hj'] at h1
 obtain ⟨k,e1,e2,_⟩:=DataW.trod_int Tryz.underlying5 h1
 have hk:=congrArg (fun l=>l[j]?) hl
 simp only [List.getElem?_map,List.getElem?_eq_getElem hj,List.getElem?_eq_getElem hj',Option.map_some,e2] at hk
 have hk':k=(Lib.deBruijn64tab[j]:Int):=by
  generalize Lib.deBruijn64tab[j]=n at hk ⊢
  cases hk
  rfl
 have c1:Tryz.prog.cellsOf 5=1:=by kernel_rfl
 rw [c1,Nat.mul_one] at e1
 have hc:=World.var?_cell hg0 hv0 j
 have e3:cs0[j]?=some (.int .u8 k):=by
  have h:=congrArg (fun l:List Value=>l[0]?) e1
  simp at h
  simpa using h
 rw [hc,e3,hk',List.getD_eq_getElem?_getD,List.getElem?_eq_getElem hj]
 rfl
theorem door_met (os:Os) (args:Array Value):laidMetH Tryz.prog laid1 ((World.doorLaid Tryz.prog 400 os).forCall (fun _ _=>0) ⟨#[],args,[]⟩).memory :=
 laidMetH_of_parts3 (fuel:=8) (laidMet_of_run' 8 (by kernel_rfl) (by kernel_rfl)) (by kernel_rfl) (by kernel_rfl)
end Go.Proofs.YtedceinkpkoncaaGreatDoor
