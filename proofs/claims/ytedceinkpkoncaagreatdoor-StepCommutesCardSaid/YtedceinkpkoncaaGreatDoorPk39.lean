/- A part of the proof: walks through the program's functions, and what they compute. -/
import Derived.Test.YtedceinkpkoncaaGreatDoorPk37
import Derived.Test.YtedceinkpkoncaaGreatDoorPk38
set_option linter.unusedSimpArgs false
set_option linter.unusedVariables false
namespace Go.Eng.Tryz
open Go.RowKit Go.Eng
set_option maxHeartbeats 0
set_option maxRecDepth 20000
structure Comm (p:Prg) (s:Stt) (x y:Pck) (fuel:Int) (t u:Stt) (a b:Event) (M:List Int):Prop where
 one:Ctr Go.Proofs.Tryz.prog tab 28 [26,37,39,39,3] [37,48,48,4] [p.v,s.v,x.v,y.v,.int fuel] [u.v,a.v,b.v,.bool true]
 two:Ctr Go.Proofs.Tryz.prog tab 28 [26,37,39,39,3] [37,48,48,4] [p.v,s.v,y.v,x.v,.int fuel] [u.v,b.v,a.v,.bool true]
 do_:Ctr Go.Proofs.Tryz.prog tab 15 [26,37,39,3] [37,48,49] [p.v,s.v,x.v,.int fuel] [t.v,a.v,.int 0]
 alts1:Ctr Go.Proofs.Tryz.prog tab 29 [26,37,3] [23,49] [p.v,s.v,.int y.go] [.list (M.map V.int),.int 0]
 alts2:Ctr Go.Proofs.Tryz.prog tab 29 [26,37,3] [23,49] [p.v,t.v,.int y.go] [.list (M.map V.int),.int 0]
 few:M.length≤maxLen
theorem ask0 {p:Prg} {s:Stt} (hr:rightP p=true) (hv:validP p s=true):askErr p s=0:=by unfold askErr;rw [hr,hv];decide
theorem one0 {p:Prg} {s:Stt} (hr:rightP p=true) (hs:s.Shape) (hv:validP p s=true) {g a:Int} (ha:a∈alts p s g):oneErr p s g=0:=by
 have hl:=alts_live ha
 have hg:=(live_iff.1 hl).1
 have hc:=(Vld.of (Prg.ok hr) hs hv).count
 unfold oneErr
 rw [ask0 hr hv,if_neg (by decide),if_neg (by omega),← isLive_in hg.1 hg.2,hl]
 rfl
theorem both0 {p:Prg} {s:Stt} {x y:Pck} {fuel:Int} (hp:p.Fit) (hr:rightP p=true) (hs:s.Shape) (hvl:validP p s=true) (hx:x.alt∈alts p s x.go) (hy:y.alt∈alts p (take applyW p s x fuel).1 y.go) (hf:0≤fuel∧fuel≤4096):Ctr Go.Proofs.Tryz.prog tab 28 [26,37,39,39,3] [37,48,48,4] [p.v,s.v,x.v,y.v,.int fuel] [(take applyW p (take applyW p s x fuel).1 y fuel).1.v,(take applyW p s x fuel).2.v,(take applyW p (take applyW p s x fuel).1 y fuel).2.v,.bool true]:=by
 have K:=kept hr (Vld.of (Prg.ok hr) hs hvl) hx hf
 have e1:=doV_take (fuel:=fuel) (ask0 hr hvl) (by omega) hx
 have e2:=doV_take (fuel:=fuel) (ask0 hr K.good) (by omega) hy
 have c1:=pdo_ctr p s x fuel hp hs
 have c2:=pdo_ctr p (take applyW p s x fuel).1 y fuel hp K.shape
 rw [e1] at c1
 rw [e2] at c2
 exact both_ctr' c1 c2
theorem comm1 {p:Prg} {s:Stt} {x y:Pck} {fuel:Int} (hp:p.Fit) (hr:rightP p=true) (hs:s.Shape) (hvl:validP p s=true) (hx:x.alt∈alts p s x.go) (hy:y.alt∈alts p s y.go) (hf:0≤fuel∧fuel≤4096) (hap:apartB p s x.go y.go=true):∃ t u a b M,Comm p s x y fuel t u a b M:=by
 have hok:=Prg.ok hr
 have hv:=Vld.of hok hs hvl
 have hcl:clashL (touch p s x.go) (touch p s y.go)=false:=by
  unfold apartB at hap
  simp only [Bool.and_eq_true,decide_eq_true_eq,Bool.not_eq_true'] at hap
  exact hap.2
 have hA:=clash_apart hcl
 have K:=kept hr hv hx hf
 obtain ⟨a1,a2,_,_⟩:=take_half applyW_ok hr hok hv hx hy hf hA
 obtain ⟨b1,b2,_,_⟩:=take_half applyW_ok hr hok hv hy hx hf hA.symm
 have hc:=take_commutes applyW_ok hr hok hv hx hy hf hA
 have hyt:y.alt∈alts p (take applyW p s x fuel).1 y.go:=by rw [a1];exact hy
 have hxt:x.alt∈alts p (take applyW p s y fuel).1 x.go:=by rw [b1];exact hx
 refine ⟨(take applyW p s x fuel).1,(take applyW p (take applyW p s x fuel).1 y fuel).1,(take applyW p s x fuel).2,(take applyW p s y fuel).2,alts p s y.go,?_,?_,?_,?_,?_,Nat.le_trans (pAlts_short hok (hv.wf hok hr) _) (by decide)⟩
 · have c:=both0 hp hr hs hvl hx hyt hf
   rw [a2] at c
   exact c
 · have c:=both0 hp hr hs hvl hy hxt hf
   rw [b2,← hc] at c
   exact c
 · have c:=pdo_ctr p s x fuel hp hs
   rw [doV_take (ask0 hr hvl) (by omega) hx] at c
   exact c
 · have c:=pAlts_ctr p s y.go hp hs
   rw [if_pos (one0 hr hs hvl hy),one0 hr hs hvl hy] at c
   exact c
 · have c:=pAlts_ctr p (take applyW p s x fuel).1 y.go hp K.shape
   rw [if_pos (one0 hr K.shape K.good hyt),one0 hr K.shape K.good hyt,a1] at c
   exact c
theorem ready_ok {p:Prg} {s:Stt} (hp:p.Fit) (hr:rightP p=true) (hs:s.Shape) (hvl:validP p s=true):∃ L:List Pck,L.length≤256∧(∀ x∈L,x.alt∈alts p s x.go)∧Ctr Go.Proofs.Tryz.prog tab 26 [26,37] [64,49] [p.v,s.v] [.list (L.map Pck.v),.int 0]:=by
 have hok:=Prg.ok hr
 have hw:=(Vld.of hok hs hvl).wf hok hr
 refine ⟨ready p s,?_,fun x hx=>(ready_mem.1 hx).2,?_⟩
 · have:=readyTo_len hok hw s.count.toNat
   have:=hw.count
   unfold ready
   omega
 · have c:=pReady_ctr p s hp hs
   rw [if_pos (ask0 hr hvl),ask0 hr hvl] at c
   exact c
def lv5:List (Nat × List Nat):=[(0,[2,3,4]),(1,[2,3,4,44]),(2,[6]),(3,[2,3,4,7,8]),(4,[2,3,4,7,53]),(5,[6]),(6,[2,3,4,7,9]),(7,[2,3,4,7,9,57]),(8,[2,3,4,7,9]),(9,[2,3,4,7,9,10]),(10,[2,3,4,7,9,10,63]),(11,[2,3,4,7,9,10]),(12,[2,3,4,7,9,10,11,12]),(13,[2,3,4,7,9,10,11,12,88]),(14,[2,3,4,7,9,10,11,12,13,14,15,16]),(15,[2,3,4,7,9,10,11,12,13,14,15,16,17,18,19,20]),(16,[2,3,4,7,9,10,11,12,131]),(17,[6]),(18,[2,3,4,7,9,10,12,21,23]),(19,[2,3,4,7,9,10,12,21,23,24,25]),(20,[2,3,4,7,9,10,23,24,25,26,27]),(21,[2,3,4,7,9,10,172]),(22,[6]),(23,[6])]
theorem stepCommutes_ctr (p:Prg) (s:Stt) (fuel:Int) (hp:p.Fit) (hs:s.Shape):Ctr Go.Proofs.Tryz.prog tab 5 [26,37,3] [4] [p.v,s.v,.int fuel] [.bool true]:=by
 have hpp:=hp
 have hfit:=hp
 have hcode:=p.code_len hp
 have hsl:=p.sels_len hp
 obtain ⟨hp1,hp2,hp3,hp4⟩:=hp
 have hmx:256≤maxLen:=by decide
 refine Ctr.body ok Go.Proofs.Tryz.func5 rfl rfl 174 rfl [.tmp 6] rfl (by simp [fromVs]) ?_
 simp only [fromVs,fromV,args0,V.toList_list,V.toInt_int,V.toBool_bool,Nat.zero_add,Nat.reduceAdd,ty3,ty26,ty37]
 repeat' first
  | ((with_reducible refine SARA.told 1 2 ?_)
     rcases Bool.eq_false_or_eq_true (rightP p) with hfr|hfr<;>simp only [hfr])
  | ((with_reducible refine SART.told 12 _ ?_);try simp only [hAt,hBt])
  | ((with_reducible first|refine SARA.do fun R1 hR1=>?_|refine SART.do fun R1 hR1=>?_|refine SARB.keep fun R1 hR1=>?_|refine SARB.any fun R1 hR1=>?_);(simp only [go_sem,seval,-List.reduceReplicate,Bool.cond_false_right,Bool.cond_true_left,decide_true,decide_false,Bool.not_true,Bool.not_false,Stt.beq,Event.beq]);(repeat' with_reducible refine And.intro ?_ ?_);all_goals first|(refine hR1 _ ?_;clear hR1 R1)|(intro hgf;simp only [hgf];refine hR1 _ ?_;clear hR1 R1)|((first|refine cq (cc (right_ctr p hpp) (by first|rfl|(simp [go_sem,ty64,ty23,ty60,List.take_of_length_le,List.length_map];done)|fail)) ?_|refine ⟨_,_,rfl,.inl ⟨_,fun hg=>CallQ.ctr ok (right_ctr p hpp) (by first|rfl|(simp [go_sem,ty64,ty23,ty60,List.take_of_length_le,List.length_map];done)|fail) rfl,?_⟩⟩|refine cq (cc (valid_ctr p s hpp hs) (by first|rfl|(simp [go_sem,ty64,ty23,ty60,List.take_of_length_le,List.length_map];done)|fail)) ?_|refine ⟨_,_,rfl,.inl ⟨_,fun hg=>CallQ.ctr ok (valid_ctr p s hpp hs) (by first|rfl|(simp [go_sem,ty64,ty23,ty60,List.take_of_length_le,List.length_map];done)|fail) rfl,?_⟩⟩|refine cq (cc (speaks_ctr) (by first|rfl|(simp [go_sem,ty64,ty23,ty60,List.take_of_length_le,List.length_map];done)|fail)) ?_|refine ⟨_,_,rfl,.inl ⟨_,fun hg=>CallQ.ctr ok (speaks_ctr) (by first|rfl|(simp [go_sem,ty64,ty23,ty60,List.take_of_length_le,List.length_map];done)|fail) rfl,?_⟩⟩|refine ce (cf (hrd) ?_ (by first|rfl|(simp [go_sem,ty64,ty23,ty60,List.take_of_length_le,List.length_map];done)|fail))|refine ⟨_,_,rfl,.inr ⟨fun _=>CallE.ctr ok (hrd) (by first|rfl|(simp [go_sem,ty64,ty23,ty60,List.take_of_length_le,List.length_map];done)|fail) ?_,?_⟩⟩|refine ⟨_,_,rfl,.inr (CallB.ctr ok (hrd) (by first|rfl|(simp [go_sem,ty64,ty23,ty60,List.take_of_length_le,List.length_map];done)|fail) ?_)⟩|refine ⟨_,_,rfl,.inr ⟨fun _=>CallB.ctr ok (hrd) (by first|rfl|(simp [go_sem,ty64,ty23,ty60,List.take_of_length_le,List.length_map];done)|fail) ?_,?_⟩⟩|refine cq (cc (apart_ctr p s (L.getD i default).go (L.getD k default).go hpp hs hfr hv) (by first|rfl|(simp [go_sem,ty64,ty23,ty60,List.take_of_length_le,List.length_map];done)|fail)) ?_|refine ⟨_,_,rfl,.inl ⟨_,fun hg=>CallQ.ctr ok (apart_ctr p s (L.getD i default).go (L.getD k default).go hpp hs hfr hv) (by first|rfl|(simp [go_sem,ty64,ty23,ty60,List.take_of_length_le,List.length_map];done)|fail) rfl,?_⟩⟩|refine ce (cf (hC.one) ?_ (by first|rfl|(simp [go_sem,ty64,ty23,ty60,List.take_of_length_le,List.length_map];done)|fail))|refine ⟨_,_,rfl,.inr ⟨fun _=>CallE.ctr ok (hC.one) (by first|rfl|(simp [go_sem,ty64,ty23,ty60,List.take_of_length_le,List.length_map];done)|fail) ?_,?_⟩⟩|refine ⟨_,_,rfl,.inr (CallB.ctr ok (hC.one) (by first|rfl|(simp [go_sem,ty64,ty23,ty60,List.take_of_length_le,List.length_map];done)|fail) ?_)⟩|refine ⟨_,_,rfl,.inr ⟨fun _=>CallB.ctr ok (hC.one) (by first|rfl|(simp [go_sem,ty64,ty23,ty60,List.take_of_length_le,List.length_map];done)|fail) ?_,?_⟩⟩|refine ce (cf (hC.two) ?_ (by first|rfl|(simp [go_sem,ty64,ty23,ty60,List.take_of_length_le,List.length_map];done)|fail))|refine ⟨_,_,rfl,.inr ⟨fun _=>CallE.ctr ok (hC.two) (by first|rfl|(simp [go_sem,ty64,ty23,ty60,List.take_of_length_le,List.length_map];done)|fail) ?_,?_⟩⟩|refine ⟨_,_,rfl,.inr (CallB.ctr ok (hC.two) (by first|rfl|(simp [go_sem,ty64,ty23,ty60,List.take_of_length_le,List.length_map];done)|fail) ?_)⟩|refine ⟨_,_,rfl,.inr ⟨fun _=>CallB.ctr ok (hC.two) (by first|rfl|(simp [go_sem,ty64,ty23,ty60,List.take_of_length_le,List.length_map];done)|fail) ?_,?_⟩⟩|refine ce (cf (hC.do_) ?_ (by first|rfl|(simp [go_sem,ty64,ty23,ty60,List.take_of_length_le,List.length_map];done)|fail))|refine ⟨_,_,rfl,.inr ⟨fun _=>CallE.ctr ok (hC.do_) (by first|rfl|(simp [go_sem,ty64,ty23,ty60,List.take_of_length_le,List.length_map];done)|fail) ?_,?_⟩⟩|refine ⟨_,_,rfl,.inr (CallB.ctr ok (hC.do_) (by first|rfl|(simp [go_sem,ty64,ty23,ty60,List.take_of_length_le,List.length_map];done)|fail) ?_)⟩|refine ⟨_,_,rfl,.inr ⟨fun _=>CallB.ctr ok (hC.do_) (by first|rfl|(simp [go_sem,ty64,ty23,ty60,List.take_of_length_le,List.length_map];done)|fail) ?_,?_⟩⟩|refine ce (cf (hC.alts1) ?_ (by first|rfl|(simp [go_sem,ty64,ty23,ty60,List.take_of_length_le,List.length_map];done)|fail))|refine ⟨_,_,rfl,.inr ⟨fun _=>CallE.ctr ok (hC.alts1) (by first|rfl|(simp [go_sem,ty64,ty23,ty60,List.take_of_length_le,List.length_map];done)|fail) ?_,?_⟩⟩|refine ⟨_,_,rfl,.inr (CallB.ctr ok (hC.alts1) (by first|rfl|(simp [go_sem,ty64,ty23,ty60,List.take_of_length_le,List.length_map];done)|fail) ?_)⟩|refine ⟨_,_,rfl,.inr ⟨fun _=>CallB.ctr ok (hC.alts1) (by first|rfl|(simp [go_sem,ty64,ty23,ty60,List.take_of_length_le,List.length_map];done)|fail) ?_,?_⟩⟩|refine ce (cf (hC.alts2) ?_ (by first|rfl|(simp [go_sem,ty64,ty23,ty60,List.take_of_length_le,List.length_map];done)|fail))|refine ⟨_,_,rfl,.inr ⟨fun _=>CallE.ctr ok (hC.alts2) (by first|rfl|(simp [go_sem,ty64,ty23,ty60,List.take_of_length_le,List.length_map];done)|fail) ?_,?_⟩⟩|refine ⟨_,_,rfl,.inr (CallB.ctr ok (hC.alts2) (by first|rfl|(simp [go_sem,ty64,ty23,ty60,List.take_of_length_le,List.length_map];done)|fail) ?_)⟩|refine ⟨_,_,rfl,.inr ⟨fun _=>CallB.ctr ok (hC.alts2) (by first|rfl|(simp [go_sem,ty64,ty23,ty60,List.take_of_length_le,List.length_map];done)|fail) ?_,?_⟩⟩|refine cq (cc (sameInts_ctr M M hC.few hC.few) (by first|rfl|(simp [go_sem,ty64,ty23,ty60,List.take_of_length_le,List.length_map];done)|fail)) ?_|refine ⟨_,_,rfl,.inl ⟨_,fun hg=>CallQ.ctr ok (sameInts_ctr M M hC.few hC.few) (by first|rfl|(simp [go_sem,ty64,ty23,ty60,List.take_of_length_le,List.length_map];done)|fail) rfl,?_⟩⟩|refine ⟨_,_,rfl,.inl ⟨.bool false,?_⟩⟩);all_goals ((try simp only [go_sem,seval,-List.reduceReplicate,Bool.cond_false_right,Bool.cond_true_left,decide_true,decide_false,Bool.not_true,Bool.not_false,Stt.beq,Event.beq]);(repeat' with_reducible refine And.intro ?_ ?_);all_goals first|(refine hR1 _ ?_;clear hR1 R1)|(intro hgf;simp only [hgf];refine hR1 _ ?_;clear hR1 R1)|omega|rfl|decide|assumption|(intro _;omega)|(simp;done)|(simp [-List.getD_eq_getElem?_getD];omega)|exact hcode _|(intro _;exact hcode _)|exact hsl _|(intro _;exact hsl _)|(simp [-List.getD_eq_getElem?_getD,roomFor,maxLen,by3,by39,by45,by48,by37];omega)|(simp [-List.getD_eq_getElem?_getD,roomFor,maxLen,by3,by39,by45,by48,by37];done)))|omega|rfl|decide|assumption|(intro _;omega)|(simp;done)|(simp [-List.getD_eq_getElem?_getD];omega)|exact hcode _|(intro _;exact hcode _)|exact hsl _|(intro _;exact hsl _)|(simp [-List.getD_eq_getElem?_getD,roomFor,maxLen,by3,by39,by45,by48,by37];omega)|(simp [-List.getD_eq_getElem?_getD,roomFor,maxLen,by3,by39,by45,by48,by37];done))
  | ((with_reducible refine SART.doneAt 12 ?_);refine hR _ ?_;clear hR R;try simp only [go_sem,lv5,lvOf,Nat.reduceBEq,Option.getD_some]
     refine (St.le.frz ok.sized 3 rfl).trans ?_
     simp only [St.frz,Tm.frz,E.frz,E.frzL,Obj.frz,List.map_cons,List.map_nil,List.set_cons_zero,List.set_cons_succ,Nat.reduceBEq,Nat.beq_refl,if_true,if_false,Nat.beq_eq_true_eq,reduceCtorEq,Bool.false_eq_true,V.get,Nat.reduceEqDiff]
     refine (St.le.frz ok.sized 4 rfl).trans ?_
     simp only [St.frz,Tm.frz,E.frz,E.frzL,Obj.frz,List.map_cons,List.map_nil,List.set_cons_zero,List.set_cons_succ,Nat.reduceBEq,Nat.beq_refl,if_true,if_false,Nat.beq_eq_true_eq,reduceCtorEq,Bool.false_eq_true,V.get,Nat.reduceEqDiff]
     exact St.le.of_eq rfl)
  | ((with_reducible refine SART.done ?_);refine hR _ ?_;clear hR R;try simp only [go_sem,lv5,lvOf,Nat.reduceBEq,Option.getD_some])
  | (with_reducible first|refine SART.br ?_ ?_|exact SARL.nil|refine SARL.cons ?_ ?_)
  | ((with_reducible refine SARA.nil ?_);refine hR _ ?_;clear hR R;try simp only [go_sem,lv5,lvOf,Nat.reduceBEq,Option.getD_some])
  | (with_reducible first|refine J1 ?_|refine J2 ?_|refine J3 ?_|refine J4 ?_|refine J5 ?_|refine J6 ?_|refine J7 ?_|refine J8 (by decide) ?_|refine J9 ?_|refine J10 ?_|refine J11 ?_|refine J12 ?_|refine J13 ?_|refine J14 ?_|refine J15 ?_|refine J16 ?_|refine J17 ?_|refine J18 ?_|refine J19 ?_)
  | ((with_reducible refine SA.at 3 ?_)
     have hfv:validP p s=true:=hb44.1.1
     have hf:0≤fuel∧fuel≤4096:=by omega
     have hv:=Vld.of (Prg.ok hfr) hs hfv
     obtain ⟨L,hL6,hLa,hrd⟩:=ready_ok hpp hfr hs hfv
     (with_reducible refine J21 ok (by kernel_rfl) lv5 ?_);intro R hR;simp only [go_sem,strip])
  | ((with_reducible refine SA.at 14 ?_)
     obtain ⟨t,u,a,b,M,hC⟩:=comm1 hpp hfr hs hfv (hLa _ (getD_mem _ hlt)) (hLa _ (getD_mem _ hlk)) hf hb88.2
     have hfew:=hC.few
     (with_reducible refine J21 ok (by kernel_rfl) lv5 ?_);intro R hR;simp only [go_sem,strip])
  | ((with_reducible refine SA.at 12 ?_)
     have hlt:i<L.length:=by omega
     have hlk:k<L.length:=by omega
     have hAt:=getD_map Pck.v L (i:=i) hlt
     have hBt:=getD_map Pck.v L (i:=k) hlk
     refine SA.regionTP ok mixed (.take 0 (.take 1 (.take 2 (.take 3 (.br 4 (.br 5 (.br 6 (.br 7 (.br 8 (.br 9 (.br 10 (.br 11 .done .nil) .nil) .nil) (.br 9 (.br 8 (.br 10 (.br 11 .done .nil) .nil) .nil) .nil)) (.br 8 (.br 7 (.br 9 (.br 10 (.br 11 .done .nil) .nil) .nil) (.br 9 (.br 7 (.br 10 (.br 11 .done .nil) .nil) (.br 10 (.take 7 (.br 11 .done .nil)) .nil)) .nil)) (.br 9 (.br 7 (.br 8 (.br 10 (.br 11 .done .nil) .nil) .nil) (.br 8 (.br 7 (.br 10 (.br 11 .done .nil) .nil) (.br 10 (.take 7 (.br 11 .done .nil)) .nil)) .nil)) .nil))) (.br 8 (.br 6 (.br 7 (.br 9 (.br 10 (.br 11 .done .nil) .nil) .nil) (.br 9 (.br 7 (.br 10 (.br 11 .done .nil) .nil) (.br 10 (.take 7 (.br 11 .done .nil)) .nil)) .nil)) (.br 9 (.br 6 (.br 7 (.br 10 (.br 11 .done .nil) .nil) (.br 10 (.take 7 (.br 11 .done .nil)) .nil)) (.br 10 (.take 6 (.take 7 (.br 11 .done .nil))) .nil)) .nil)) (.br 9 (.br 6 (.br 7 (.br 8 (.br 10 (.br 11 .done .nil) .nil) .nil) (.br 8 (.br 7 (.br 10 (.br 11 .done .nil) .nil) (.br 10 (.take 7 (.br 11 .done .nil)) .nil)) .nil)) (.br 8 (.br 6 (.br 7 (.br 10 (.br 11 .done .nil) .nil) (.br 10 (.take 7 (.br 11 .done .nil)) .nil)) (.br 10 (.take 6 (.take 7 (.br 11 .done .nil))) .nil)) .nil)) .nil))) (.br 8 (.br 5 (.br 6 (.br 7 (.br 9 (.br 10 (.br 11 .done .nil) .nil) .nil) (.br 9 (.br 7 (.br 10 (.br 11 .done .nil) .nil) (.br 10 (.take 7 (.br 11 .done .nil)) .nil)) .nil)) (.br 9 (.br 6 (.br 7 (.br 10 (.br 11 .done .nil) .nil) (.br 10 (.take 7 (.br 11 .done .nil)) .nil)) (.br 10 (.take 6 (.take 7 (.br 11 .done .nil))) .nil)) .nil)) (.br 9 (.br 5 (.br 6 (.br 7 (.br 10 (.br 11 .done .nil) .nil) (.br 10 (.take 7 (.br 11 .done .nil)) .nil)) (.br 10 (.take 6 (.take 7 (.br 11 .done .nil))) .nil)) (.br 10 (.take 5 (.take 6 (.take 7 (.br 11 .done .nil)))) .nil)) .nil)) (.br 9 (.br 5 (.br 6 (.br 7 (.br 8 (.br 10 (.br 11 .done .nil) .nil) .nil) (.br 8 (.br 7 (.br 10 (.br 11 .done .nil) .nil) (.br 10 (.take 7 (.br 11 .done .nil)) .nil)) .nil)) (.br 8 (.br 6 (.br 7 (.br 10 (.br 11 .done .nil) .nil) (.br 10 (.take 7 (.br 11 .done .nil)) .nil)) (.br 10 (.take 6 (.take 7 (.br 11 .done .nil))) .nil)) .nil)) (.br 8 (.br 5 (.br 6 (.br 7 (.br 10 (.br 11 .done .nil) .nil) (.br 10 (.take 7 (.br 11 .done .nil)) .nil)) (.br 10 (.take 6 (.take 7 (.br 11 .done .nil))) .nil)) (.br 10 (.take 5 (.take 6 (.take 7 (.br 11 .done .nil)))) .nil)) .nil)) .nil))) (.br 5 (.br 4 (.br 6 (.br 7 (.br 8 (.br 9 (.br 10 (.br 11 .done .nil) .nil) .nil) (.br 9 (.br 8 (.br 10 (.br 11 .done .nil) .nil) .nil) .nil)) (.br 8 (.br 7 (.br 9 (.br 10 (.br 11 .done .nil) .nil) .nil) (.br 9 (.br 7 (.br 10 (.br 11 .done .nil) .nil) (.br 10 (.take 7 (.br 11 .done .nil)) .nil)) .nil)) (.br 9 (.br 7 (.br 8 (.br 10 (.br 11 .done .nil) .nil) .nil) (.br 8 (.br 7 (.br 10 (.br 11 .done .nil) .nil) (.br 10 (.take 7 (.br 11 .done .nil)) .nil)) .nil)) .nil))) (.br 8 (.br 6 (.br 7 (.br 9 (.br 10 (.br 11 .done .nil) .nil) .nil) (.br 9 (.br 7 (.br 10 (.br 11 .done .nil) .nil) (.br 10 (.take 7 (.br 11 .done .nil)) .nil)) .nil)) (.br 9 (.br 6 (.br 7 (.br 10 (.br 11 .done .nil) .nil) (.br 10 (.take 7 (.br 11 .done .nil)) .nil)) (.br 10 (.take 6 (.take 7 (.br 11 .done .nil))) .nil)) .nil)) (.br 9 (.br 6 (.br 7 (.br 8 (.br 10 (.br 11 .done .nil) .nil) .nil) (.br 8 (.br 7 (.br 10 (.br 11 .done .nil) .nil) (.br 10 (.take 7 (.br 11 .done .nil)) .nil)) .nil)) (.br 8 (.br 6 (.br 7 (.br 10 (.br 11 .done .nil) .nil) (.br 10 (.take 7 (.br 11 .done .nil)) .nil)) (.br 10 (.take 6 (.take 7 (.br 11 .done .nil))) .nil)) .nil)) .nil))) (.br 8 (.br 4 (.br 6 (.br 7 (.br 9 (.br 10 (.br 11 .done .nil) .nil) .nil) (.br 9 (.br 7 (.br 10 (.br 11 .done .nil) .nil) (.br 10 (.take 7 (.br 11 .done .nil)) .nil)) .nil)) (.br 9 (.br 6 (.br 7 (.br 10 (.br 11 .done .nil) .nil) (.br 10 (.take 7 (.br 11 .done .nil)) .nil)) (.br 10 (.take 6 (.take 7 (.br 11 .done .nil))) .nil)) .nil)) (.br 9 (.br 4 (.br 6 (.br 7 (.br 10 (.br 11 .done .nil) .nil) (.br 10 (.take 7 (.br 11 .done .nil)) .nil)) (.br 10 (.take 6 (.take 7 (.br 11 .done .nil))) .nil)) (.br 10 (.take 4 (.take 6 (.take 7 (.br 11 .done .nil)))) .nil)) .nil)) (.br 9 (.br 4 (.br 6 (.br 7 (.br 8 (.br 10 (.br 11 .done .nil) .nil) .nil) (.br 8 (.br 7 (.br 10 (.br 11 .done .nil) .nil) (.br 10 (.take 7 (.br 11 .done .nil)) .nil)) .nil)) (.br 8 (.br 6 (.br 7 (.br 10 (.br 11 .done .nil) .nil) (.br 10 (.take 7 (.br 11 .done .nil)) .nil)) (.br 10 (.take 6 (.take 7 (.br 11 .done .nil))) .nil)) .nil)) (.br 8 (.br 4 (.br 6 (.br 7 (.br 10 (.br 11 .done .nil) .nil) (.br 10 (.take 7 (.br 11 .done .nil)) .nil)) (.br 10 (.take 6 (.take 7 (.br 11 .done .nil))) .nil)) (.br 10 (.take 4 (.take 6 (.take 7 (.br 11 .done .nil)))) .nil)) .nil)) .nil))) (.br 8 (.br 4 (.br 5 (.br 6 (.br 7 (.br 9 (.br 10 (.br 11 .done .nil) .nil) .nil) (.br 9 (.br 7 (.br 10 (.br 11 .done .nil) .nil) (.br 10 (.take 7 (.br 11 .done .nil)) .nil)) .nil)) (.br 9 (.br 6 (.br 7 (.br 10 (.br 11 .done .nil) .nil) (.br 10 (.take 7 (.br 11 .done .nil)) .nil)) (.br 10 (.take 6 (.take 7 (.br 11 .done .nil))) .nil)) .nil)) (.br 9 (.br 5 (.br 6 (.br 7 (.br 10 (.br 11 .done .nil) .nil) (.br 10 (.take 7 (.br 11 .done .nil)) .nil)) (.br 10 (.take 6 (.take 7 (.br 11 .done .nil))) .nil)) (.br 10 (.take 5 (.take 6 (.take 7 (.br 11 .done .nil)))) .nil)) .nil)) (.br 5 (.br 4 (.br 6 (.br 7 (.br 9 (.br 10 (.br 11 .done .nil) .nil) .nil) (.br 9 (.br 7 (.br 10 (.br 11 .done .nil) .nil) (.br 10 (.take 7 (.br 11 .done .nil)) .nil)) .nil)) (.br 9 (.br 6 (.br 7 (.br 10 (.br 11 .done .nil) .nil) (.br 10 (.take 7 (.br 11 .done .nil)) .nil)) (.br 10 (.take 6 (.take 7 (.br 11 .done .nil))) .nil)) .nil)) (.br 9 (.br 4 (.br 6 (.br 7 (.br 10 (.br 11 .done .nil) .nil) (.br 10 (.take 7 (.br 11 .done .nil)) .nil)) (.br 10 (.take 6 (.take 7 (.br 11 .done .nil))) .nil)) (.br 10 (.take 4 (.take 6 (.take 7 (.br 11 .done .nil)))) .nil)) .nil)) (.br 9 (.br 4 (.br 5 (.br 6 (.br 7 (.br 10 (.br 11 .done .nil) .nil) (.br 10 (.take 7 (.br 11 .done .nil)) .nil)) (.br 10 (.take 6 (.take 7 (.br 11 .done .nil))) .nil)) (.br 10 (.take 5 (.take 6 (.take 7 (.br 11 .done .nil)))) .nil)) (.br 5 (.br 4 (.br 6 (.br 7 (.br 10 (.br 11 .done .nil) .nil) (.br 10 (.take 7 (.br 11 .done .nil)) .nil)) (.br 10 (.take 6 (.take 7 (.br 11 .done .nil))) .nil)) (.br 10 (.take 4 (.take 6 (.take 7 (.br 11 .done .nil)))) .nil)) (.br 10 (.take 4 (.take 5 (.take 6 (.take 7 (.br 11 .done .nil))))) .nil))) .nil))) (.br 9 (.br 4 (.br 5 (.br 6 (.br 7 (.br 8 (.br 10 (.br 11 .done .nil) .nil) .nil) (.br 8 (.br 7 (.br 10 (.br 11 .done .nil) .nil) (.br 10 (.take 7 (.br 11 .done .nil)) .nil)) .nil)) (.br 8 (.br 6 (.br 7 (.br 10 (.br 11 .done .nil) .nil) (.br 10 (.take 7 (.br 11 .done .nil)) .nil)) (.br 10 (.take 6 (.take 7 (.br 11 .done .nil))) .nil)) .nil)) (.br 8 (.br 5 (.br 6 (.br 7 (.br 10 (.br 11 .done .nil) .nil) (.br 10 (.take 7 (.br 11 .done .nil)) .nil)) (.br 10 (.take 6 (.take 7 (.br 11 .done .nil))) .nil)) (.br 10 (.take 5 (.take 6 (.take 7 (.br 11 .done .nil)))) .nil)) .nil)) (.br 5 (.br 4 (.br 6 (.br 7 (.br 8 (.br 10 (.br 11 .done .nil) .nil) .nil) (.br 8 (.br 7 (.br 10 (.br 11 .done .nil) .nil) (.br 10 (.take 7 (.br 11 .done .nil)) .nil)) .nil)) (.br 8 (.br 6 (.br 7 (.br 10 (.br 11 .done .nil) .nil) (.br 10 (.take 7 (.br 11 .done .nil)) .nil)) (.br 10 (.take 6 (.take 7 (.br 11 .done .nil))) .nil)) .nil)) (.br 8 (.br 4 (.br 6 (.br 7 (.br 10 (.br 11 .done .nil) .nil) (.br 10 (.take 7 (.br 11 .done .nil)) .nil)) (.br 10 (.take 6 (.take 7 (.br 11 .done .nil))) .nil)) (.br 10 (.take 4 (.take 6 (.take 7 (.br 11 .done .nil)))) .nil)) .nil)) (.br 8 (.br 4 (.br 5 (.br 6 (.br 7 (.br 10 (.br 11 .done .nil) .nil) (.br 10 (.take 7 (.br 11 .done .nil)) .nil)) (.br 10 (.take 6 (.take 7 (.br 11 .done .nil))) .nil)) (.br 10 (.take 5 (.take 6 (.take 7 (.br 11 .done .nil)))) .nil)) (.br 5 (.br 4 (.br 6 (.br 7 (.br 10 (.br 11 .done .nil) .nil) (.br 10 (.take 7 (.br 11 .done .nil)) .nil)) (.br 10 (.take 6 (.take 7 (.br 11 .done .nil))) .nil)) (.br 10 (.take 4 (.take 6 (.take 7 (.br 11 .done .nil)))) .nil)) (.br 10 (.take 4 (.take 5 (.take 6 (.take 7 (.br 11 .done .nil))))) .nil))) .nil))) .nil)))))))) [10,11] lv5 (by kernel_rfl) ({ tm:=[(2,true,.int .i64 fuel),(3,true,.ptr 0 [] 26),(4,true,.ptr 1 [] 37),(7,true,.sl 2 39 0 L.length false),(9,true,.int .i64 i),(10,true,.int .i64 k),(11,true,.fptr 39 (L.getD i default).v),(12,true,.fptr 39 (L.getD k default).v)],ob:=[.var 26 (.data 26 p.v),.var 37 (.data 37 s.v),.row 39 (L.map Pck.v),.dead,.dead],out:=[],nt:=174 }) (fun R hR=>?_) ?_;simp only [go_sem,strip])
  | ((with_reducible refine J21 ok (by kernel_rfl) lv5 ?_);intro R hR;simp only [go_sem,strip])
  | ((with_reducible refine J20 44 rfl (fun hb44=>?_) (fun hb44=>?_))
     all_goals
      try simp [-List.getD_eq_getElem?_getD] at hb44
      try (exfalso;omega))
  | ((with_reducible refine J20 53 rfl (fun hb53=>?_) (fun hb53=>?_))
     all_goals
      try simp [-List.getD_eq_getElem?_getD] at hb53
      try (exfalso;omega))
  | ((with_reducible refine J20 88 rfl (fun hb88=>?_) (fun hb88=>?_))
     all_goals
      try simp [-List.getD_eq_getElem?_getD] at hb88
      try (exfalso;omega))
  | ((with_reducible refine J20 131 rfl (fun hb131=>?_) (fun hb131=>?_))
     all_goals
      try simp [-List.getD_eq_getElem?_getD] at hb131
      try (exfalso;omega))
  | ((with_reducible refine J20 172 rfl (fun hb172=>?_) (fun hb172=>?_))
     all_goals
      try simp [-List.getD_eq_getElem?_getD] at hb172
      try (exfalso;omega))
  | ((with_reducible refine SA.cond rfl ?_ ?_)
     all_goals
      intro hb
      try simp [-List.getD_eq_getElem?_getD] at hb
      try (exfalso;omega))
  | ((with_reducible refine SA.atLoop ?_)
     refine SA.weaken (St.le.of_eq (by rfl)) (SA.loop (fun n τ=>∃ (i:Nat),n=L.length-i∧(i≤L.length)∧τ={ tm:=[(2,true,.int .i64 fuel),(3,true,.ptr 0 [] 26),(4,true,.ptr 1 [] 37),(7,true,.sl 2 39 0 L.length false),(9,true,.int .i64 i)],ob:=[.var 26 (.data 26 p.v),.var 37 (.data 37 s.v),.row 39 (L.map Pck.v)],out:=[],nt:=174 }) (L.length) ⟨0,rfl,by omega,rfl⟩ ?_)
     rintro n τ ⟨i,hn,hi,rfl⟩)
  | ((with_reducible refine SA.atLoop ?_)
     refine SA.weaken (St.le.of_eq (by rfl)) (SA.loop (fun n τ=>∃ (k:Nat),n=L.length-k∧(k≤L.length)∧τ={ tm:=[(2,true,.int .i64 fuel),(3,true,.ptr 0 [] 26),(4,true,.ptr 1 [] 37),(7,true,.sl 2 39 0 L.length false),(9,true,.int .i64 i),(10,true,.int .i64 k)],ob:=[.var 26 (.data 26 p.v),.var 37 (.data 37 s.v),.row 39 (L.map Pck.v)],out:=[],nt:=174 }) (L.length) ⟨0,rfl,by omega,rfl⟩ ?_)
     rintro n τ ⟨k,hn,hk,rfl⟩)
  | ((with_reducible refine loopK.round ?_)
     first
      | (have hlt:i<L.length:=by omega
         have hw:=wrap_succ (n:=i) (m:=256) (by omega) (by decide)
         refine loopK.normal (L.length-(i+1)) _ (by omega) (St.le.of_eq (by simp [hw])) ⟨i+1,rfl,hlt,rfl⟩)
      | (have hlt:k<L.length:=by omega
         have hw:=wrap_succ (n:=k) (m:=256) (by omega) (by decide)
         refine loopK.normal (L.length-(k+1)) _ (by omega) ((St.le.cut 3 rfl).trans (St.le.of_eq (by simp [hw]))) ⟨k+1,rfl,hlt,rfl⟩))
  | ((with_reducible first|refine ctrK.normal ?_|refine ctrK.ret ?_)
     simp only [go_sem,resA,resV,backK,seval]
     first
      | (exact ⟨rfl,rfl⟩)
      | (rfl))
end Go.Eng.Tryz
