/- A part of the proof: walks through the program's functions, and what they compute. -/
import Derived.Test.YtedceinkpkoncaaGreatDoorPk32
import Derived.Test.YtedceinkpkoncaaGreatDoorPk33
import Derived.Test.YtedceinkpkoncaaGreatDoorPk24
import Derived.Test.YtedceinkpkoncaaGreatDoorPk27
import Derived.Test.YtedceinkpkoncaaGreatDoorPk16
set_option linter.unusedSimpArgs false
set_option linter.unusedVariables false
namespace Go.Eng.Tryz
open Go.RowKit Go.Eng
set_option maxHeartbeats 0
set_option maxRecDepth 20000
theorem contains_q {σ:St} {i:Nat} (l:List Int) (v:Int) (hl:l.length≤256) (ho:σ.ob[i]?=some (.row 3 (l.map V.int))):CallQ Go.Proofs.Tryz.prog tab σ 62 [.sl i 3 0 l.length false,.int .i64 v] (.bool (decide (v∈l))):=by
 have ha:argsV tab σ [23,3] [.sl i 3 0 l.length false,.int .i64 v]=some [.list (l.map V.int),.int v]:=by
  simp [argsV,contentV,toV,ty23,ty3,ho,List.take_of_length_le]
 exact CallQ.ctr ok (pcontains_ctr l v hl) ha rfl
def evK (p:Prg) (s:Stt) (x:Pck) (val tag:Int) (l:List Access) (k:Nat):Event:=⟨x.go,(s.gos.getD x.go.toNat default).func,(s.gos.getD x.go.toNat default).pc,opAt p s x.go,x.alt,val,tag,fillTo l k,k⟩
theorem evK_touches (p:Prg) (s:Stt) (x:Pck) (v t:Int) (l:List Access) (k:Nat):(evK p s x v t l k).touches=k:=rfl
theorem evK_touch (p:Prg) (s:Stt) (x:Pck) (v t:Int) (l:List Access) (k:Nat):(evK p s x v t l k).touch=fillTo l k:=rfl
theorem Event.put5 (e:Event) (x:Int):V.setSub e.v 5 (.int x)=Event.v ⟨e.go,e.func,e.pc,e.op,e.alt,x,e.tag,e.touch,e.touches⟩:=rfl
theorem Event.put6 (e:Event) (x:Int):V.setSub e.v 6 (.int x)=Event.v ⟨e.go,e.func,e.pc,e.op,e.alt,e.val,x,e.touch,e.touches⟩:=rfl
theorem Event.put7 (e:Event) (l:List Access):V.setSub e.v 7 (.agg (l.map Access.v))=Event.v ⟨e.go,e.func,e.pc,e.op,e.alt,e.val,e.tag,l,e.touches⟩:=rfl
theorem Event.put8 (e:Event) (x:Int):V.setSub e.v 8 (.int x)=Event.v ⟨e.go,e.func,e.pc,e.op,e.alt,e.val,e.tag,e.touch,x⟩:=rfl
theorem tag_yes {p:Prg} {s:Stt} {x:Pck} (h:opAt p s x.go=65):tagOf p s x=(instrAt p s x.go).n:=if_pos h
theorem tag_no {p:Prg} {s:Stt} {x:Pck} (h:¬opAt p s x.go=65):tagOf p s x=0:=if_neg h
theorem event_k (p:Prg) (s:Stt) (x:Pck) (val:Int):event p s x val=evK p s x val (tagOf p s x) (touch p s x.go) (touch p s x.go).length:=rfl
def lv15:List (Nat × List Nat):=[(0,[3,4,5,6,8,9]),(1,[3,4,5,6,8,9,11]),(2,[3,4,5,6,8,9,11,23]),(3,[8,9,10]),(4,[3,4,5,6,8,9,32]),(5,[8,9,10]),(6,[3,4,5,6,8,9,60]),(7,[8,9,10]),(8,[3,4,5,6,8,9,12]),(9,[3,4,5,6,8,9,12,13]),(10,[3,4,5,6,8,9,12,13,91,92,93]),(11,[3,4,5,6,8,9,12,13,91,92,93,94]),(12,[3,4,5,6,8,9,12,13,15,91,92,93]),(13,[3,4,5,6,8,9,12,13,91,92,93]),(14,[3,4,5,6,8,9,12,13,91,92,93]),(15,[3,4,5,6,8,9,12,13,91,92,93]),(16,[6,8,9,12,13,16]),(17,[8,9,12,13,16,17,18]),(18,[8,9,12,13,16,17,18]),(19,[8,9,12,13,16,17,18,129]),(20,[8,9,13,16,17,18]),(21,[8,9,13,16,17,18,137]),(22,[8,9,13,16,18]),(23,[8,9,13,16,18]),(24,[8,9,13,16,18,150]),(25,[8,9,13,16]),(26,[8,9,10])]
theorem pdo_ctr (p:Prg) (s:Stt) (x:Pck) (fuel:Int) (hp:p.Fit) (hs:s.Shape):Ctr Go.Proofs.Tryz.prog tab 15 [26,37,39,3] [37,48,49] [p.v,s.v,x.v,.int fuel] [(doV p s x fuel).1.v,(doV p s x fuel).2.1.v,.int (doV p s x fuel).2.2]:=by
 have hpp:=hp
 have hfit:=hp
 have hcode:=p.code_len hp
 have hsl:=p.sels_len hp
 obtain ⟨hp1,hp2,hp3,hp4⟩:=hp
 have hs1:=hs.vars
 have hs2:=hs.owner
 have hs3:=hs.chans
 have hs5:=hs.gos
 have hmx:256≤maxLen:=by decide
 refine Ctr.body ok Go.Proofs.Tryz.func15 rfl rfl 159 rfl [.cell 8 37,.cell 9 48,.tmp 10] rfl (by simp [fromVs]) ?_
 simp only [fromVs,fromV,args0,V.toList_list,V.toInt_int,V.toBool_bool,Nat.zero_add,Nat.reduceAdd,ty3,ty26,ty37,ty39]
 repeat' first
  | ((with_reducible refine SART.told 6 8 ?_)
     rcases Bool.eq_false_or_eq_true (decide (x.go<0)||decide (6≤x.go)) with hgo|hgo<;>simp only [hgo])
  | ((with_reducible refine SART.told 6 12 ?_)
     rcases Bool.eq_false_or_eq_true (liveB s x.go) with hlv0|hlv0<;>try simp only [hlv0])
  | ((with_reducible refine SARA.told 12 2 ?_)
     rw [getD_map Access.v (touch p s x.go) (by omega)])
  | ((with_reducible first|refine SARA.do fun R1 hR1=>?_|refine SART.do fun R1 hR1=>?_|refine SARB.keep fun R1 hR1=>?_|refine SARB.any fun R1 hR1=>?_);(simp only [go_sem,seval,-List.reduceReplicate,Bool.cond_false_right,Bool.cond_true_left,atI_op,atI_a,atI_n,zeroState_at,zeroEvent_at,Event.at7,set_accs,fillTo_len,evK_touches,evK_touch,Event.put5,Event.put6,Event.put7,Event.put8,machV.s1,machV.s4,machV.s5,machV.v0,machV.v1,machV.v2,machV.v3,machV.v4,machV.v5,set_chns,set_ints,List.set_set,Chn.put0,Chn.put1,Chn.put2,Chn.put3,Chn.put4,Chn.put5,Stt.put0,Stt.put1,Stt.put2,Stt.put3,Stt.put4]);(repeat' with_reducible refine And.intro ?_ ?_);all_goals first|(refine hR1 _ ?_;clear hR1 R1)|((first|refine ⟨_,_,rfl,.inr (mact_call p s x.go x.alt fuel hpp hr hv hgc ha fun ys nx md hn=>?_)⟩|refine ⟨_,_,rfl,.inr (msettle_call p _ x.go hg6 (by first|exact hS1|exact hS2) fuel _ _ _ hpp ?_)⟩|refine cq (cc (pasked_ctr p s hpp hs) (by first|rfl|(simp [go_sem,List.length_map,List.take_of_length_le,argsV,contentV,toV];done)|fail)) ?_|refine ⟨_,_,rfl,.inl ⟨_,fun hg=>CallQ.ctr ok (pasked_ctr p s hpp hs) (by first|rfl|(simp [go_sem,List.length_map,List.take_of_length_le,argsV,contentV,toV];done)|fail) rfl,?_⟩⟩|refine cq (cc (steplive_ctr s x.go hs (go_bnd hgo)) (by first|rfl|(simp [go_sem,List.length_map,List.take_of_length_le,argsV,contentV,toV];done)|fail)) ?_|refine ⟨_,_,rfl,.inl ⟨_,fun hg=>CallQ.ctr ok (steplive_ctr s x.go hs (go_bnd hgo)) (by first|rfl|(simp [go_sem,List.length_map,List.take_of_length_le,argsV,contentV,toV];done)|fail) rfl,?_⟩⟩|refine ce (cf (palts_ctr p s x.go hpp hr hv ⟨(go_bnd hgo).1,liveB_count hv (go_bnd hgo).1 (go_bnd hgo).2 hlv0⟩ ((liveB_live hv (go_bnd hgo).1 (go_bnd hgo).2).trans hlv0)) ?_ (by first|rfl|(simp [go_sem,List.length_map,List.take_of_length_le,argsV,contentV,toV];done)|fail))|refine ⟨_,_,rfl,.inr ⟨fun _=>CallE.ctr ok (palts_ctr p s x.go hpp hr hv ⟨(go_bnd hgo).1,liveB_count hv (go_bnd hgo).1 (go_bnd hgo).2 hlv0⟩ ((liveB_live hv (go_bnd hgo).1 (go_bnd hgo).2).trans hlv0)) (by first|rfl|(simp [go_sem,List.length_map,List.take_of_length_le,argsV,contentV,toV];done)|fail) ?_,?_⟩⟩|refine ⟨_,_,rfl,.inr (CallB.ctr ok (palts_ctr p s x.go hpp hr hv ⟨(go_bnd hgo).1,liveB_count hv (go_bnd hgo).1 (go_bnd hgo).2 hlv0⟩ ((liveB_live hv (go_bnd hgo).1 (go_bnd hgo).2).trans hlv0)) (by first|rfl|(simp [go_sem,List.length_map,List.take_of_length_le,argsV,contentV,toV];done)|fail) ?_)⟩|refine ⟨_,_,rfl,.inr ⟨fun _=>CallB.ctr ok (palts_ctr p s x.go hpp hr hv ⟨(go_bnd hgo).1,liveB_count hv (go_bnd hgo).1 (go_bnd hgo).2 hlv0⟩ ((liveB_live hv (go_bnd hgo).1 (go_bnd hgo).2).trans hlv0)) (by first|rfl|(simp [go_sem,List.length_map,List.take_of_length_le,argsV,contentV,toV];done)|fail) ?_,?_⟩⟩|refine ⟨_,_,rfl,.inl ⟨_,contains_q (alts p s x.go) x.alt hl5 rfl,?_⟩⟩|refine cq (cc (pat_ctr p s x.go hpp hr hw hgc) (by first|rfl|(simp [go_sem,List.length_map,List.take_of_length_le,argsV,contentV,toV];done)|fail)) ?_|refine ⟨_,_,rfl,.inl ⟨_,fun hg=>CallQ.ctr ok (pat_ctr p s x.go hpp hr hw hgc) (by first|rfl|(simp [go_sem,List.length_map,List.take_of_length_le,argsV,contentV,toV];done)|fail) rfl,?_⟩⟩|refine ce (cf (ptouch_ctr p s x.go hpp hr hv hgc) ?_ (by first|rfl|(simp [go_sem,List.length_map,List.take_of_length_le,argsV,contentV,toV];done)|fail))|refine ⟨_,_,rfl,.inr ⟨fun _=>CallE.ctr ok (ptouch_ctr p s x.go hpp hr hv hgc) (by first|rfl|(simp [go_sem,List.length_map,List.take_of_length_le,argsV,contentV,toV];done)|fail) ?_,?_⟩⟩|refine ⟨_,_,rfl,.inr (CallB.ctr ok (ptouch_ctr p s x.go hpp hr hv hgc) (by first|rfl|(simp [go_sem,List.length_map,List.take_of_length_le,argsV,contentV,toV];done)|fail) ?_)⟩|refine ⟨_,_,rfl,.inr ⟨fun _=>CallB.ctr ok (ptouch_ctr p s x.go hpp hr hv hgc) (by first|rfl|(simp [go_sem,List.length_map,List.take_of_length_le,argsV,contentV,toV];done)|fail) ?_,?_⟩⟩|refine ⟨_,_,rfl,.inl ⟨_,mown_callQ p _ x.go hg6 fuel _ _ rfl,?_⟩⟩|refine ⟨_,_,rfl,.inl ⟨.bool false,?_⟩⟩);all_goals ((try simp only [go_sem,seval,-List.reduceReplicate,Bool.cond_false_right,Bool.cond_true_left,atI_op,atI_a,atI_n,zeroState_at,zeroEvent_at,Event.at7,set_accs,fillTo_len,evK_touches,evK_touch,Event.put5,Event.put6,Event.put7,Event.put8,machV.s1,machV.s4,machV.s5,machV.v0,machV.v1,machV.v2,machV.v3,machV.v4,machV.v5,set_chns,set_ints,List.set_set,Chn.put0,Chn.put1,Chn.put2,Chn.put3,Chn.put4,Chn.put5,Stt.put0,Stt.put1,Stt.put2,Stt.put3,Stt.put4]);(repeat' with_reducible refine And.intro ?_ ?_);all_goals first|(refine hR1 _ ?_;clear hR1 R1)|omega|rfl|decide|assumption|(intro _;omega)|(simp;done)|(simp [-List.getD_eq_getElem?_getD];omega)|exact hcode _|(intro _;exact hcode _)|exact hsl _|(intro _;exact hsl _)))|omega|rfl|decide|assumption|(intro _;omega)|(simp;done)|(simp [-List.getD_eq_getElem?_getD];omega)|exact hcode _|(intro _;exact hcode _)|exact hsl _|(intro _;exact hsl _))
  | ((with_reducible refine SART.doneAt 26 ?_);refine hR _ ?_;clear hR R;try simp only [go_sem,lv15,lvOf,Nat.reduceBEq,Option.getD_some]
     first|(have e:doV p s x fuel=(ms,event p s x mv,0):=(by rw [doV_take hb23 hnf ha,hA hb137]);rw [e];exact (St.le.cut 5 rfl).trans (St.le.of_eq (by rw [event_k,tag_yes hb129,← hkl];rfl)))|(have e:doV p s x fuel=((settle applyW p (settle applyW p (pcS ms x.go nx) x.go fuel).1 md fuel).1,event p s x mv,0):=(by rw [doV_take hb23 hnf ha,hT,if_pos hb150]);rw [e];exact (St.le.cut 5 rfl).trans (St.le.of_eq (by rw [event_k,tag_yes hb129,← hkl];rfl)))|(have e:doV p s x fuel=((settle applyW p (pcS ms x.go nx) x.go fuel).1,event p s x mv,0):=(by rw [doV_take hb23 hnf ha,hT,if_neg (Int.not_le.2 hb150)]);rw [e];exact (St.le.cut 5 rfl).trans (St.le.of_eq (by rw [event_k,tag_yes hb129,← hkl];rfl)))|(have e:doV p s x fuel=(ms,event p s x mv,0):=(by rw [doV_take hb23 hnf ha,hA hb137]);rw [e];exact (St.le.cut 5 rfl).trans (St.le.of_eq (by rw [event_k,tag_no hb129,← hkl];rfl)))|(have e:doV p s x fuel=((settle applyW p (settle applyW p (pcS ms x.go nx) x.go fuel).1 md fuel).1,event p s x mv,0):=(by rw [doV_take hb23 hnf ha,hT,if_pos hb150]);rw [e];exact (St.le.cut 5 rfl).trans (St.le.of_eq (by rw [event_k,tag_no hb129,← hkl];rfl)))|(have e:doV p s x fuel=((settle applyW p (pcS ms x.go nx) x.go fuel).1,event p s x mv,0):=(by rw [doV_take hb23 hnf ha,hT,if_neg (Int.not_le.2 hb150)]);rw [e];exact (St.le.cut 5 rfl).trans (St.le.of_eq (by rw [event_k,tag_no hb129,← hkl];rfl))))
  | ((with_reducible refine SART.done ?_);refine hR _ ?_;clear hR R;try simp only [go_sem,lv15,lvOf,Nat.reduceBEq,Option.getD_some])
  | (with_reducible first|refine SART.br ?_ ?_|exact SARL.nil|refine SARL.cons ?_ ?_)
  | ((with_reducible refine SARA.nil ?_);refine hR _ ?_;clear hR R;try simp only [go_sem,lv15,lvOf,Nat.reduceBEq,Option.getD_some])
  | (with_reducible first|refine J1 ?_|refine J2 ?_|refine J3 ?_|refine J4 ?_|refine J5 ?_|refine J6 ?_|refine J7 ?_|refine J8 (by decide) ?_|refine J9 ?_|refine J10 ?_|refine J11 ?_|refine J12 ?_|refine J13 ?_|refine J14 ?_|refine J15 ?_|refine J16 ?_|refine J17 ?_|refine J18 ?_|refine J19 ?_)
  | ((with_reducible refine SA.at 8 ?_)
     have ha:x.alt∈alts p s x.go:=hb60
     have hgc:=(live_iff.1 (alts_live ha)).1
     have hct:=hv.count
     have hg6:0≤x.go∧x.go<6:=by omega
     have hnf:¬(fuel<0∨4096<fuel):=by omega
     have hto:=touch_ok hok hw hgc
     have hln:=hto.2.2
     refine SA.weaken (St.le.cut 5 rfl) ?_
     (with_reducible refine J21 ok (by kernel_rfl) lv15 ?_);intro R hR;simp only [go_sem,strip])
  | ((with_reducible refine SA.at 12 ?_)
     have hk6:k<6:=by omega
     (with_reducible refine J21 ok (by kernel_rfl) lv15 ?_);intro R hR;simp only [go_sem,strip])
  | ((with_reducible refine SA.at 16 ?_)
     have hkl:k=(touch p s x.go).length:=by omega
     refine SA.weaken ((St.le.keep [3,4,5,6,8,9,12,13]).trans ((St.le.cut 7 rfl).trans (St.le.of_eq (show _=({ tm:=[(3,true,.int .i64 fuel),(4,true,.ptr 0 [] 26),(5,true,.ptr 1 [] 37),(6,true,.ptr 2 [] 39),(8,true,.ptr 3 [] 37),(9,true,.ptr 4 [] 48),(12,true,.ptr 5 [] 129),(13,true,.ptr 6 [] 48)],ob:=[.var 26 (.data 26 p.v),.var 37 (.data 37 s.v),.var 39 (.data 39 x.v),.var 37 (.data 37 zeroStt.v),.var 48 (.data 48 zeroEvent.v),.var 129 (.data 129 (atI p s x.go).v),.var 48 (.data 48 (Event.v (evK p s x 0 0 (touch p s x.go) k)))],out:=[],nt:=159 }:St) from rfl)))) ?_
     (with_reducible refine J21 ok (by kernel_rfl) lv15 ?_);intro R hR;simp only [go_sem,strip])
  | ((with_reducible refine SA.at 17 ?_)
     refine SA.weaken (St.le.of_eq (show _=({ tm:=[(6,true,.ptr 2 [] 39),(8,true,.ptr 3 [] 37),(9,true,.ptr 4 [] 48),(12,true,.ptr 5 [] 129),(13,true,.ptr 6 [] 48),(16,true,.ptr 7 [] 133)],ob:=[.var 26 (.data 26 p.v),.var 37 (.data 37 s.v),.var 39 (.data 39 x.v),.var 37 (.data 37 zeroStt.v),.var 48 (.data 48 zeroEvent.v),.var 129 (.data 129 (atI p s x.go).v),.var 48 (.data 48 (Event.v (evK p s x 0 0 (touch p s x.go) k))),.var 133 (.data 133 (machV p s x.go fuel 0 false))],out:=[],nt:=159 }:St) from rfl)) ?_
     (with_reducible refine J21 ok (by kernel_rfl) lv15 ?_);intro R hR;simp only [go_sem,strip])
  | ((with_reducible refine SA.at 18 ?_)
     obtain ⟨ms,mv,mo,hm,hm6,hA,hB⟩:=mach_after hr hok hv ha (fuel:=fuel) (by omega) hn
     rw [hm]
     refine SA.weaken ((St.le.cut 8 rfl).trans (St.le.of_eq (show _=({ tm:=[(8,true,.ptr 3 [] 37),(9,true,.ptr 4 [] 48),(12,true,.ptr 5 [] 129),(13,true,.ptr 6 [] 48),(16,true,.ptr 7 [] 133),(17,true,.int .i64 nx),(18,true,.int .i64 md)],ob:=[.var 26 (.data 26 p.v),.var 37 (.data 37 s.v),.var 39 (.data 39 x.v),.var 37 (.data 37 zeroStt.v),.var 48 (.data 48 zeroEvent.v),.var 129 (.data 129 (atI p s x.go).v),.var 48 (.data 48 (Event.v (evK p s x 0 0 (touch p s x.go) k))),.var 133 (.data 133 (machV p ms x.go fuel mv mo))],out:=[],nt:=159 }:St) from rfl))) ?_
     (with_reducible refine J21 ok (by kernel_rfl) lv15 ?_);intro R hR;simp only [go_sem,strip])
  | ((with_reducible refine SA.at 23 ?_)
     obtain ⟨hS1,hS2,hT⟩:=hB hb137
     (with_reducible refine J21 ok (by kernel_rfl) lv15 ?_);intro R hR;simp only [go_sem,strip])
  | ((with_reducible refine SA.at 6 ?_)
     have hr:=(ask_zero hb23).1
     have hok:=Prg.ok hr
     have hv:=Vld.of hok hs (ask_zero hb23).2
     have hw:=hv.wf hok hr
     have hal:=pAlts_short hok hw x.go
     have hl5:(alts p s x.go).length≤256:=by omega
     refine SA.regionT ok mixed (.take 0 (.take 1 (.take 2 (.take 3 (.take 4 (.take 5 (.take 6 (.take 7 (.take 8 (.take 9 (.take 10 (.take 11 (.br 12 (.take 13 (.take 14 (.take 15 (.take 16 (.take 17 (.take 18 (.take 19 (.take 21 (.take 22 (.br 20 (.br 23 (.take 24 (.take 25 .done)) .nil) .nil)))))))))) .nil))))))))))))) [] lv15 (by kernel_rfl) (fun R hR=>?_);simp only [go_sem,strip])
  | ((with_reducible refine SA.at 9 ?_)
     refine SA.regionT ok mixed (.take 0 (.take 1 (.take 2 (.take 3 (.take 4 (.take 5 (.take 6 (.take 7 (.take 8 (.take 9 (.take 10 (.take 11 (.take 12 (.take 13 (.take 14 (.take 15 (.take 16 (.take 17 (.take 18 (.br 19 (.br 20 .done .nil) .nil)))))))))))))))))))) [20] lv15 (by kernel_rfl) (fun R hR=>?_);simp only [go_sem,strip])
  | ((with_reducible refine SA.at 26 ?_)
     refine SA.regionTP ok mixed (.take 0 (.take 1 (.take 2 (.take 3 (.br 4 (.br 5 (.br 6 (.take 7 .done) .nil) .nil) (.br 5 (.take 4 (.br 6 (.take 7 .done) .nil)) .nil)))))) [5,6] lv15 (by kernel_rfl) ({ tm:=[(8,true,.ptr 3 [] 37),(9,true,.ptr 4 [] 48),(10,true,.int .i64 0)],ob:=[.var 26 (.data 26 p.v),.var 37 (.data 37 s.v),.var 39 (.data 39 x.v),.var 37 (.data 37 (doV p s x fuel).1.v),.var 48 (.data 48 (doV p s x fuel).2.1.v)],out:=[],nt:=159 }) (fun R hR=>?_) ?_;simp only [go_sem,strip])
  | ((with_reducible refine J21 ok (by kernel_rfl) lv15 ?_);intro R hR;simp only [go_sem,strip])
  | ((with_reducible refine J20 23 rfl (fun hb23=>?_) (fun hb23=>?_))
     all_goals
      try simp [-List.getD_eq_getElem?_getD] at hb23
      try (exfalso;omega))
  | ((with_reducible refine J20 32 rfl (fun hb32=>?_) (fun hb32=>?_))
     all_goals
      try simp [-List.getD_eq_getElem?_getD] at hb32
      try (exfalso;omega))
  | ((with_reducible refine J20 60 rfl (fun hb60=>?_) (fun hb60=>?_))
     all_goals
      try simp [-List.getD_eq_getElem?_getD] at hb60
      try (exfalso;omega))
  | ((with_reducible refine J20 129 rfl (fun hb129=>?_) (fun hb129=>?_))
     all_goals
      try simp [-List.getD_eq_getElem?_getD] at hb129
      try (exfalso;omega))
  | ((with_reducible refine J20 137 rfl (fun hb137=>?_) (fun hb137=>?_))
     all_goals
      try simp [-List.getD_eq_getElem?_getD] at hb137
      try (exfalso;omega))
  | ((with_reducible refine J20 150 rfl (fun hb150=>?_) (fun hb150=>?_))
     all_goals
      try simp [-List.getD_eq_getElem?_getD] at hb150
      try (exfalso;omega))
  | ((with_reducible refine SA.cond rfl ?_ ?_)
     all_goals
      intro hb
      try simp [-List.getD_eq_getElem?_getD] at hb
      try (exfalso;omega))
  | ((with_reducible refine SA.atLoop ?_)
     refine SA.weaken (St.le.of_eq (by rfl)) (SA.loop (fun n τ=>∃ (k:Nat),n=(touch p s x.go).length-k∧(k≤(touch p s x.go).length)∧τ={ tm:=[(3,true,.int .i64 fuel),(4,true,.ptr 0 [] 26),(5,true,.ptr 1 [] 37),(6,true,.ptr 2 [] 39),(8,true,.ptr 3 [] 37),(9,true,.ptr 4 [] 48),(12,true,.ptr 5 [] 129),(13,true,.ptr 6 [] 48),(91,true,.sl 7 45 0 (touch p s x.go).length false),(92,true,.int .i64 (touch p s x.go).length),(93,true,.int .i64 k)],ob:=[.var 26 (.data 26 p.v),.var 37 (.data 37 s.v),.var 39 (.data 39 x.v),.var 37 (.data 37 zeroStt.v),.var 48 (.data 48 zeroEvent.v),.var 129 (.data 129 (atI p s x.go).v),.var 48 (.data 48 (Event.v (evK p s x 0 0 (touch p s x.go) k))),.row 45 ((touch p s x.go).map Access.v)],out:=[],nt:=159 }) ((touch p s x.go).length) ⟨0,rfl,by omega,rfl⟩ ?_)
     rintro n τ ⟨k,hn,hk,rfl⟩)
  | ((with_reducible refine loopK.round ?_)
     first
      | (have hw2:=wrap_succ (n:=k) (m:=256) (by omega) (by decide)
         have e:=fillTo_succ (touch p s x.go) hk6
         refine loopK.normal ((touch p s x.go).length-(k+1)) _ (by omega) ((St.le.cut 8 rfl).trans (St.le.of_eq ?_)) ⟨k+1,rfl,by omega,rfl⟩
         simp only [hw2,evK,e,List.take_succ_cons,List.take_zero]))
  | ((with_reducible first|refine ctrK.normal ?_|refine ctrK.ret ?_)
     simp only [go_sem,resA,resV,backK,seval]
     first
      | (have q:¬_:=hb23
         rw [doV_ask hb23]
         exact ⟨⟨rfl,rfl⟩,⟨rfl,rfl⟩,rfl,rfl⟩)
      | (have q:_∨_:=hb32
         rw [doV_fuel hb23 hb32]
         exact ⟨⟨rfl,rfl⟩,⟨rfl,rfl⟩,rfl,rfl⟩)
      | (rw [doV_pick hb23 (by omega) (alts_none hv (.inl (go_none hgo)))]
         exact ⟨⟨rfl,rfl⟩,⟨rfl,rfl⟩,rfl,rfl⟩)
      | (rw [doV_pick hb23 (by omega) (alts_none hv (.inr hlv0))]
         exact ⟨⟨rfl,rfl⟩,⟨rfl,rfl⟩,rfl,rfl⟩)
      | (have q:¬_:=hb60
         rw [doV_pick hb23 (by omega) hb60]
         exact ⟨⟨rfl,rfl⟩,⟨rfl,rfl⟩,rfl,rfl⟩)
      | (have e:=doV_take hb23 hnf ha
         rw [e]
         exact ⟨rfl,rfl,rfl,rfl⟩))
end Go.Eng.Tryz
namespace Go.Eng
structure Ag (A:Int→Int→Prop) (s t:Stt):Prop where
 lv:s.vars.length=t.vars.length
 lo:s.owner.length=t.owner.length
 lc:s.chans.length=t.chans.length
 lg:s.gos.length=t.gos.length
 vars:∀ i:Nat,A 1 i→s.vars.getD i 0=t.vars.getD i 0
 owner:∀ i:Nat,A 2 i→s.owner.getD i 0=t.owner.getD i 0
 chans:∀ i:Nat,A 3 i→s.chans.getD i default=t.chans.getD i default
 gos:∀ i:Nat,A 5 i→s.gos.getD i default=t.gos.getD i default
 count:A 4 0→s.count=t.count
theorem set_both {α:Type} {l m:List α} (hl:l.length=m.length) {i j:Nat} {x y d:α} (hx:i=j→x=y) (h:l.getD j d=m.getD j d):(l.set i x).getD j d=(m.set i y).getD j d:=by
 rw [getD_set,getD_set,← hl]
 split
 · rename_i q;exact hx q.1
 · exact h
theorem set_one {α:Type} {l m:List α} {i j:Nat} {x d:α} (hx:i≠j) (h:l.getD j d=m.getD j d):(l.set i x).getD j d=m.getD j d:=by
 rw [getD_set,if_neg (fun q=>hx q.1)]
 exact h
section
variable {A:Int→Int→Prop} {s t:Stt}
theorem Ag.refl (s:Stt):Ag A s s:=⟨rfl,rfl,rfl,rfl,fun _ _=>rfl,fun _ _=>rfl,fun _ _=>rfl,fun _ _=>rfl,fun _=>rfl⟩
theorem Ag.symm (h:Ag A s t):Ag A t s:=⟨h.lv.symm,h.lo.symm,h.lc.symm,h.lg.symm,fun i q=>(h.vars i q).symm,fun i q=>(h.owner i q).symm,fun i q=>(h.chans i q).symm,fun i q=>(h.gos i q).symm,fun q=>(h.count q).symm⟩
theorem Ag.mono {B:Int→Int→Prop} (h:Ag A s t) (hB:∀ k n,B k n→A k n):Ag B s t:=⟨h.lv,h.lo,h.lc,h.lg,fun i q=>h.vars i (hB _ _ q),fun i q=>h.owner i (hB _ _ q),fun i q=>h.chans i (hB _ _ q),fun i q=>h.gos i (hB _ _ q),fun q=>h.count (hB _ _ q)⟩
theorem Ag.setVar (h:Ag A s t) (i:Nat) {x y:Int} (hx:A 1 i→x=y):Ag A { s with vars:=s.vars.set i x } { t with vars:=t.vars.set i y } :=
 ⟨by show (s.vars.set i x).length=(t.vars.set i y).length;rw [List.length_set,List.length_set];exact h.lv,h.lo,h.lc,h.lg,fun j q=>set_both h.lv (fun e=>hx (e▸q)) (h.vars j q),h.owner,h.chans,h.gos,h.count⟩
theorem Ag.setVar1 (h:Ag A s t) {i:Nat} (x:Int) (hx:¬A 1 i):Ag A { s with vars:=s.vars.set i x } t :=
 ⟨by show (s.vars.set i x).length=_;rw [List.length_set];exact h.lv,h.lo,h.lc,h.lg,fun j q=>set_one (fun e=>hx (e▸q)) (h.vars j q),h.owner,h.chans,h.gos,h.count⟩
theorem Ag.setOwn (h:Ag A s t) (i:Nat) {x y:Int} (hx:A 2 i→x=y):Ag A { s with owner:=s.owner.set i x } { t with owner:=t.owner.set i y } :=
 ⟨h.lv,by show (s.owner.set i x).length=(t.owner.set i y).length;rw [List.length_set,List.length_set];exact h.lo,h.lc,h.lg,h.vars,fun j q=>set_both h.lo (fun e=>hx (e▸q)) (h.owner j q),h.chans,h.gos,h.count⟩
theorem Ag.setOwn1 (h:Ag A s t) {i:Nat} (x:Int) (hx:¬A 2 i):Ag A { s with owner:=s.owner.set i x } t :=
 ⟨h.lv,by show (s.owner.set i x).length=_;rw [List.length_set];exact h.lo,h.lc,h.lg,h.vars,fun j q=>set_one (fun e=>hx (e▸q)) (h.owner j q),h.chans,h.gos,h.count⟩
theorem Ag.setChn (h:Ag A s t) (c:Int) {x y:Chn} (hx:A 3 c.toNat→x=y):Ag A (s.setChn c x) (t.setChn c y) :=
 ⟨h.lv,h.lo,by show (s.chans.set _ x).length=(t.chans.set _ y).length;rw [List.length_set,List.length_set];exact h.lc,h.lg,h.vars,h.owner,fun j q=>set_both h.lc (fun e=>hx (e▸q)) (h.chans j q),h.gos,h.count⟩
theorem Ag.setChn1 (h:Ag A s t) {c:Int} (x:Chn) (hx:¬A 3 c.toNat):Ag A (s.setChn c x) t :=
 ⟨h.lv,h.lo,by show (s.chans.set _ x).length=_;rw [List.length_set];exact h.lc,h.lg,h.vars,h.owner,fun j q=>set_one (fun e=>hx (e▸q)) (h.chans j q),h.gos,h.count⟩
theorem Ag.setGor (h:Ag A s t) (i:Nat) {x y:Gor} (hx:A 5 i→x=y):Ag A { s with gos:=s.gos.set i x } { t with gos:=t.gos.set i y } :=
 ⟨h.lv,h.lo,h.lc,by show (s.gos.set i x).length=(t.gos.set i y).length;rw [List.length_set,List.length_set];exact h.lg,h.vars,h.owner,h.chans,fun j q=>set_both h.lg (fun e=>hx (e▸q)) (h.gos j q),h.count⟩
theorem Ag.setGor1 (h:Ag A s t) {i:Nat} (x:Gor) (hx:¬A 5 i):Ag A { s with gos:=s.gos.set i x } t :=
 ⟨h.lv,h.lo,h.lc,by show (s.gos.set i x).length=_;rw [List.length_set];exact h.lg,h.vars,h.owner,h.chans,fun j q=>set_one (fun e=>hx (e▸q)) (h.gos j q),h.count⟩
theorem Ag.setCnt (h:Ag A s t) {m n:Int} (hx:A 4 0→m=n):Ag A { s with count:=m } { t with count:=n }:=⟨h.lv,h.lo,h.lc,h.lg,h.vars,h.owner,h.chans,h.gos,hx⟩
theorem Ag.setCnt1 (h:Ag A s t) (m:Int) (hx:¬A 4 0):Ag A { s with count:=m } t:=⟨h.lv,h.lo,h.lc,h.lg,h.vars,h.owner,h.chans,h.gos,fun q=>absurd q hx⟩
theorem Ag.setReg (h:Ag A s t) {g:Int} (hg:A 5 g.toNat) (r v:Int):Ag A (s.setReg g r v) (t.setReg g r v):=by
 unfold Stt.setReg
 split
 · exact h.setGor _ (fun q=>by rw [show s.gor g=t.gor g from h.gos _ q])
 · exact h
theorem Ag.setReg1 (h:Ag A s t) {g:Int} (hg:¬A 5 g.toNat) (r v:Int):Ag A (s.setReg g r v) t:=by
 unfold Stt.setReg
 split
 · exact h.setGor1 _ hg
 · exact h
theorem Ag.setStatus (h:Ag A s t) (g v:Int):Ag A (s.setStatus g v) (t.setStatus g v):=h.setGor _ (fun q=>by rw [show s.gor g=t.gor g from h.gos _ q])
theorem Ag.setStatus1 (h:Ag A s t) {g:Int} (hg:¬A 5 g.toNat) (v:Int):Ag A (s.setStatus g v) t:=h.setGor1 _ hg
structure DAg (A:Int→Int→Prop) (d e:Did):Prop where
 s:Ag A d.s e.s
 val:d.val=e.val
 why:d.why=e.why
 to_:d.to_=e.to_
variable {p:Prg} {g:Int}
theorem doSend_R (h:Ag A s t) {v w to_ c x:Int} (hc:A 3 c.toNat):DAg A (doSend p ⟨s,v,w,to_⟩ g c x) (doSend p ⟨t,v,w,to_⟩ g c x):=by
 have e:t.chn c=s.chn c:=(h.chans _ hc).symm
 unfold doSend
 simp only [e]
 split
 · exact ⟨h,rfl,rfl,rfl⟩
 split
 · exact ⟨h.setChn c (fun _=>rfl),rfl,rfl,rfl⟩
 · exact ⟨(h.setStatus g 2).setChn c (fun _=>rfl),rfl,rfl,rfl⟩
theorem doRecv_R (h:Ag A s t) {v w to_ c r ok:Int} (hg:A 5 g.toNat) (hc:A 3 c.toNat):DAg A (doRecv ⟨s,v,w,to_⟩ g c r ok) (doRecv ⟨t,v,w,to_⟩ g c r ok):=by
 have e:t.chn c=s.chn c:=(h.chans _ hc).symm
 unfold doRecv
 simp only [e]
 split
 · exact ⟨((h.setChn c (fun _=>rfl)).setReg hg _ _).setReg hg _ _,rfl,rfl,rfl⟩
 split
 · exact ⟨((h.setChn c (fun _=>rfl)).setReg hg _ _).setReg hg _ _,rfl,rfl,rfl⟩
 · exact ⟨((h.setChn c (fun _=>rfl)).setReg hg _ _).setReg hg _ _,rfl,rfl,rfl⟩
theorem doClose_R (h:Ag A s t) {v w to_ c:Int} (hc:A 3 c.toNat):DAg A (doClose ⟨s,v,w,to_⟩ c) (doClose ⟨t,v,w,to_⟩ c):=by
 have e:t.chn c=s.chn c:=(h.chans _ hc).symm
 unfold doClose
 simp only [e]
 split
 · exact ⟨h,rfl,rfl,rfl⟩
 split
 · exact ⟨h.setChn c (fun _=>rfl),rfl,rfl,rfl⟩
 · exact ⟨h.setChn c (fun _=>rfl),rfl,rfl,rfl⟩
theorem doTaken_R (h:Ag A s t) {v w to_ c:Int} (hc:A 3 c.toNat):DAg A (doTaken ⟨s,v,w,to_⟩ g c) (doTaken ⟨t,v,w,to_⟩ g c):=by
 have e:t.chn c=s.chn c:=(h.chans _ hc).symm
 unfold doTaken
 simp only [e]
 exact ⟨(h.setChn c (fun _=>rfl)).setStatus g 1,rfl,rfl,rfl⟩
theorem doSpawn_R (h:Ag A s t) {v w to_:Int} {x:Instr} (hg:A 5 g.toNat) (hn:A 4 0):DAg A (doSpawn p ⟨s,v,w,to_⟩ g x) (doSpawn p ⟨t,v,w,to_⟩ g x):=by
 have e:t.count=s.count:=(h.count hn).symm
 have e2:t.gor g=s.gor g:=(h.gos _ hg).symm
 unfold doSpawn spawnRegs
 simp only [e,e2]
 split
 · exact ⟨h,rfl,rfl,rfl⟩
 · exact ⟨((h.setGor s.count.toNat (fun _=>rfl)).setCnt (fun _=>rfl)).setReg hg _ _,rfl,rfl,rfl⟩
theorem doVars_R (h:Ag A s t) {v w to_:Int} {x:Instr} (hg:A 5 g.toNat) (h50:x.op=50→A 1 x.b.toNat) (h52:x.op=52∨x.op=53→A 1 x.b.toNat) (h56:x.op=56→A 2 x.a.toNat) (h57:x.op=57→A 2 x.b.toNat) :
 DAg A (doVars ⟨s,v,w,to_⟩ g x) (doVars ⟨t,v,w,to_⟩ g x):=by
 have e2:t.gor g=s.gor g:=(h.gos _ hg).symm
 unfold doVars
 simp only [e2]
 split
 · rename_i q
   have e:t.vars.getD x.b.toNat 0=s.vars.getD x.b.toNat 0:=(h.vars _ (h50 q)).symm
   simp only [e]
   exact ⟨h.setReg hg _ _,rfl,rfl,rfl⟩
 split
 · exact ⟨h.setVar _ (fun _=>rfl),rfl,rfl,rfl⟩
 split
 · rename_i q
   have e:t.vars.getD x.b.toNat 0=s.vars.getD x.b.toNat 0:=(h.vars _ (h52 (.inl q))).symm
   simp only [e]
   have k:=h.setReg hg x.a (s.vars.getD x.b.toNat 0)
   exact ⟨k.setVar _ (fun q=>by rw [k.vars _ q]),rfl,rfl,rfl⟩
 split
 · rename_i q
   have e:t.vars.getD x.b.toNat 0=s.vars.getD x.b.toNat 0:=(h.vars _ (h52 (.inr q))).symm
   simp only [e]
   split
   · exact ⟨(h.setVar _ (fun _=>rfl)).setReg hg _ _,rfl,rfl,rfl⟩
   · exact ⟨h.setReg hg _ _,rfl,rfl,rfl⟩
 split
 · exact ⟨h,rfl,rfl,rfl⟩
 split
 · exact ⟨h.setOwn _ (fun _=>rfl),rfl,rfl,rfl⟩
 split
 · rename_i q
   have e:t.owner.getD x.a.toNat 0=s.owner.getD x.a.toNat 0:=(h.owner _ (h56 q)).symm
   simp only [e]
   split
   · exact ⟨h,rfl,rfl,rfl⟩
   · exact ⟨h.setOwn _ (fun _=>rfl),rfl,rfl,rfl⟩
 split
 · rename_i q
   have e:t.owner.getD x.b.toNat 0=s.owner.getD x.b.toNat 0:=(h.owner _ (h57 q)).symm
   simp only [e]
   split
   · exact ⟨(h.setOwn _ (fun _=>rfl)).setReg hg _ _,rfl,rfl,rfl⟩
   · exact ⟨h.setReg hg _ _,rfl,rfl,rfl⟩
 · exact ⟨h,rfl,rfl,rfl⟩
theorem doSend_F (h:Ag A s t) {v w to_ c x:Int} (hg:¬A 5 g.toNat) (hc:¬A 3 c.toNat):Ag A (doSend p ⟨s,v,w,to_⟩ g c x).s t:=by
 unfold doSend
 simp only
 split
 · exact h
 split
 · exact h.setChn1 _ hc
 · exact (h.setStatus1 hg 2).setChn1 _ hc
theorem doRecv_F (h:Ag A s t) {v w to_ c r ok:Int} (hg:¬A 5 g.toNat) (hc:¬A 3 c.toNat):Ag A (doRecv ⟨s,v,w,to_⟩ g c r ok).s t:=by
 unfold doRecv
 simp only
 split
 · exact ((h.setChn1 _ hc).setReg1 hg _ _).setReg1 hg _ _
 split
 · exact ((h.setChn1 _ hc).setReg1 hg _ _).setReg1 hg _ _
 · exact ((h.setChn1 _ hc).setReg1 hg _ _).setReg1 hg _ _
theorem doClose_F (h:Ag A s t) {v w to_ c:Int} (hc:¬A 3 c.toNat):Ag A (doClose ⟨s,v,w,to_⟩ c).s t:=by
 unfold doClose
 simp only
 split
 · exact h
 split
 · exact h.setChn1 _ hc
 · exact h.setChn1 _ hc
theorem doTaken_F (h:Ag A s t) {v w to_ c:Int} (hg:¬A 5 g.toNat) (hc:¬A 3 c.toNat):Ag A (doTaken ⟨s,v,w,to_⟩ g c).s t:=(h.setChn1 _ hc).setStatus1 hg 1
theorem doSpawn_F (h:Ag A s t) {v w to_:Int} {x:Instr} (hg:¬A 5 g.toNat) (hn:¬A 4 0) (hk:s.count<6→¬A 5 s.count.toNat):Ag A (doSpawn p ⟨s,v,w,to_⟩ g x).s t:=by
 unfold doSpawn
 simp only
 split
 · exact h
 · exact ((h.setGor1 _ (hk (by omega))).setCnt1 _ hn).setReg1 hg _ _
theorem doVars_F (h:Ag A s t) {v w to_:Int} {x:Instr} (hg:¬A 5 g.toNat) (h51:x.op=51→¬A 1 x.a.toNat) (h52:x.op=52∨x.op=53→¬A 1 x.b.toNat) (h55:x.op=55∨x.op=56→¬A 2 x.a.toNat) (h57:x.op=57→¬A 2 x.b.toNat) :
 Ag A (doVars ⟨s,v,w,to_⟩ g x).s t:=by
 unfold doVars
 simp only
 split
 · exact h.setReg1 hg _ _
 split
 · rename_i q;exact h.setVar1 _ (h51 q)
 split
 · rename_i q;exact (h.setReg1 hg _ _).setVar1 _ (h52 (.inl q))
 split
 · rename_i q
   split
   · exact (h.setVar1 _ (h52 (.inr q))).setReg1 hg _ _
   · exact h.setReg1 hg _ _
 split
 · exact h
 split
 · rename_i q;exact h.setOwn1 _ (h55 (.inl q))
 split
 · rename_i q
   split
   · exact h
   · exact h.setOwn1 _ (h55 (.inr q))
 split
 · rename_i q
   split
   · exact (h.setOwn1 _ (h57 q)).setReg1 hg _ _
   · exact h.setReg1 hg _ _
 · exact h
end
end Go.Eng
namespace Go.Eng
def Tch (l:List Access) (k n:Int):Prop:=∃ a∈l,a.kind=k∧a.num=n
def Wrt (l:List Access) (k n:Int):Prop:=∃ a∈l,a.kind=k∧a.num=n∧a.write=true
theorem Wrt.tch {l:List Access} {k n:Int} (h:Wrt l k n):Tch l k n:=let ⟨a,h1,h2,h3,_⟩:=h;⟨a,h1,h2,h3⟩
theorem add_has (k n:Int) (w:Bool):∀ l:List Access,∃ y∈add k n w l,y.kind=k∧y.num=n∧(w=true→y.write=true)
 | []=>⟨⟨k,n,w⟩,by simp [add],rfl,rfl,id⟩
 | x::l=>by
   unfold add
   split
   · rename_i h;exact ⟨_,List.mem_cons_self,h.1,h.2,fun q=>by simp [q]⟩
   split
   · exact ⟨_,List.mem_cons_self,rfl,rfl,id⟩
   · obtain ⟨y,hy,h⟩:=add_has k n w l
     exact ⟨y,List.mem_cons_of_mem _ hy,h⟩
theorem add_old (k n:Int) (w:Bool):∀ {l:List Access} {x:Access},x∈l→∃ y∈add k n w l,y.kind=x.kind∧y.num=x.num∧(x.write=true→y.write=true)
 | [],x,h=>by cases h
 | z::l,x,h=>by
   unfold add
   rcases List.mem_cons.1 h with e|h
   · subst e
     split
     · exact ⟨_,List.mem_cons_self,rfl,rfl,fun q=>by simp [q]⟩
     split
     · exact ⟨_,List.mem_cons_of_mem _ List.mem_cons_self,rfl,rfl,id⟩
     · exact ⟨_,List.mem_cons_self,rfl,rfl,id⟩
   · split
     · exact ⟨x,List.mem_cons_of_mem _ h,rfl,rfl,id⟩
     split
     · exact ⟨x,List.mem_cons_of_mem _ (List.mem_cons_of_mem _ h),rfl,rfl,id⟩
     · obtain ⟨y,hy,q⟩:=add_old k n w h
       exact ⟨y,List.mem_cons_of_mem _ hy,q⟩
theorem Tch.new (k n:Int) (w:Bool) (l:List Access):Tch (add k n w l) k n:=let ⟨y,h1,h2,h3,_⟩:=add_has k n w l;⟨y,h1,h2,h3⟩
theorem Wrt.new (k n:Int) (l:List Access):Wrt (add k n true l) k n:=let ⟨y,h1,h2,h3,h4⟩:=add_has k n true l;⟨y,h1,h2,h3,h4 rfl⟩
theorem Tch.old {l:List Access} {k' n':Int} (h:Tch l k' n') (k n:Int) (w:Bool):Tch (add k n w l) k' n':=by
 obtain ⟨x,hx,rfl,rfl⟩:=h
 obtain ⟨y,h1,h2,h3,_⟩:=add_old k n w hx
 exact ⟨y,h1,h2,h3⟩
theorem Wrt.old {l:List Access} {k' n':Int} (h:Wrt l k' n') (k n:Int) (w:Bool):Wrt (add k n w l) k' n':=by
 obtain ⟨x,hx,rfl,rfl,e⟩:=h
 obtain ⟨y,h1,h2,h3,h4⟩:=add_old k n w hx
 exact ⟨y,h1,h2,h3,h4 e⟩
theorem Wrt.chans (q:Sel):∀ (n:Nat) {l:List Access} {k m:Int},Wrt l k m→Wrt (addChans q n l) k m
 | 0,l,k,m,h=>h
 | n+1,l,k,m,h=>by
   by_cases hn:n<q.cases.length
   · unfold addChans
     rw [List.take_succ_eq_append_getElem hn,List.foldl_append]
     exact (Wrt.chans q n h).old _ _ _
   · have:=Wrt.chans q n h
     unfold addChans at this ⊢
     rw [List.take_of_length_le (by omega)] at this ⊢
     exact this
theorem Wrt.chan (q:Sel):∀ (n:Nat) (l:List Access) {i:Nat},i<n→n≤q.cases.length→Wrt (addChans q n l) 3 (q.cases.getD i default).chan
 | 0,_,_,h,_=>by omega
 | n+1,l,i,h,hn=>by
   unfold addChans
   rw [List.take_succ_eq_append_getElem (by omega:n<q.cases.length),List.foldl_append]
   by_cases e:i=n
   · subst e
     rw [List.getD_eq_getElem?_getD,List.getElem?_eq_getElem (by omega:i<q.cases.length)]
     exact Wrt.new _ _ _
   · exact (Wrt.chan q n l (by omega) (by omega)).old _ _ _
structure Foot (A B:Int→Int→Prop) (p:Prg) (s:Stt) (g:Int):Prop where
 own:B 5 g
 c50:opAt p s g=50→A 1 (instrAt p s g).b
 c54:opAt p s g=54→A 1 (instrAt p s g).a
 c51:opAt p s g=51→B 1 (instrAt p s g).a
 c52:opAt p s g=52∨opAt p s g=53→B 1 (instrAt p s g).b
 c55:opAt p s g=55∨opAt p s g=56→B 2 (instrAt p s g).a
 c57:opAt p s g=57→B 2 (instrAt p s g).b
 c58:opAt p s g=58∨opAt p s g=60∨opAt p s g=66→B 3 (instrAt p s g).a
 c59:opAt p s g=59→B 3 (instrAt p s g).b
 c61:opAt p s g=61→∀ i,i<(selAt p s g).cases.length→B 3 ((selAt p s g).cases.getD i default).chan
 c62:opAt p s g=62→B 4 0∧(s.count<6→B 5 s.count)
 c63:opAt p s g=63→A 4 0∧(0≤(s.gor g).reg (instrAt p s g).a∧(s.gor g).reg (instrAt p s g).a<s.count→A 5 ((s.gor g).reg (instrAt p s g).a))
theorem Wrt.base (g:Int):Wrt [⟨5,g,true⟩] 5 g:=⟨_,List.mem_cons_self,rfl,rfl,rfl⟩
section
variable (p:Prg) (s:Stt) (g:Int)
theorem touch50 (h:opAt p s g=50):touch p s g=add 1 (instrAt p s g).b false [⟨5,g,true⟩]:=if_pos h
theorem touch54 (h:opAt p s g=54):touch p s g=add 1 (instrAt p s g).a false [⟨5,g,true⟩]:=(if_neg (by omega)).trans (if_pos h)
theorem touch51 (h:opAt p s g=51):touch p s g=add 1 (instrAt p s g).a true [⟨5,g,true⟩]:=(if_neg (by omega)).trans ((if_neg (by omega)).trans (if_pos h))
theorem touch52 (h:opAt p s g=52∨opAt p s g=53):touch p s g=add 1 (instrAt p s g).b true [⟨5,g,true⟩]:=(if_neg (by omega)).trans ((if_neg (by omega)).trans ((if_neg (by omega)).trans (if_pos h)))
theorem touch55 (h:opAt p s g=55∨opAt p s g=56):touch p s g=add 2 (instrAt p s g).a true [⟨5,g,true⟩]:=(if_neg (by omega)).trans ((if_neg (by omega)).trans ((if_neg (by omega)).trans ((if_neg (by omega)).trans (if_pos h))))
theorem touch57 (h:opAt p s g=57):touch p s g=add 2 (instrAt p s g).b true [⟨5,g,true⟩]:=(if_neg (by omega)).trans ((if_neg (by omega)).trans ((if_neg (by omega)).trans ((if_neg (by omega)).trans ((if_neg (by omega)).trans (if_pos h)))))
theorem touch58 (h:opAt p s g=58∨opAt p s g=60∨opAt p s g=66):touch p s g=add 3 (instrAt p s g).a true [⟨5,g,true⟩]:=(if_neg (by omega)).trans ((if_neg (by omega)).trans ((if_neg (by omega)).trans ((if_neg (by omega)).trans ((if_neg (by omega)).trans ((if_neg (by omega)).trans (if_pos h))))))
theorem touch59 (h:opAt p s g=59):touch p s g=add 3 (instrAt p s g).b true [⟨5,g,true⟩]:=(if_neg (by omega)).trans ((if_neg (by omega)).trans ((if_neg (by omega)).trans ((if_neg (by omega)).trans ((if_neg (by omega)).trans ((if_neg (by omega)).trans ((if_neg (by omega)).trans (if_pos h)))))))
theorem touch61 (h:opAt p s g=61):touch p s g=addChans (selAt p s g) (selAt p s g).cases.length [⟨5,g,true⟩]:=(if_neg (by omega)).trans ((if_neg (by omega)).trans ((if_neg (by omega)).trans ((if_neg (by omega)).trans ((if_neg (by omega)).trans ((if_neg (by omega)).trans ((if_neg (by omega)).trans ((if_neg (by omega)).trans (if_pos h))))))))
theorem touch62 (h:opAt p s g=62):touch p s g=if s.count<6 then add 5 s.count true (add 4 0 true [⟨5,g,true⟩]) else add 4 0 true [⟨5,g,true⟩]:=(if_neg (by omega)).trans ((if_neg (by omega)).trans ((if_neg (by omega)).trans ((if_neg (by omega)).trans ((if_neg (by omega)).trans ((if_neg (by omega)).trans ((if_neg (by omega)).trans ((if_neg (by omega)).trans ((if_neg (by omega)).trans (if_pos h)))))))))
theorem touch63 (h:opAt p s g=63):touch p s g=if 0≤(s.gor g).reg (instrAt p s g).a∧(s.gor g).reg (instrAt p s g).a<s.count then add 5 ((s.gor g).reg (instrAt p s g).a) false (add 4 0 false [⟨5,g,true⟩]) else add 4 0 false [⟨5,g,true⟩]:=(if_neg (by omega)).trans ((if_neg (by omega)).trans ((if_neg (by omega)).trans ((if_neg (by omega)).trans ((if_neg (by omega)).trans ((if_neg (by omega)).trans ((if_neg (by omega)).trans ((if_neg (by omega)).trans ((if_neg (by omega)).trans ((if_neg (by omega)).trans (if_pos h))))))))))
theorem touch_own:Wrt (touch p s g) 5 g:=by
 have hb:=Wrt.base g
 have I:∀ {c:Prop} [Decidable c] {a b:List Access},Wrt a 5 g→Wrt b 5 g→Wrt (if c then a else b) 5 g:=fun h1 h2=>by split<;>assumption
 exact I (hb.old _ _ _) (I (hb.old _ _ _) (I (hb.old _ _ _) (I (hb.old _ _ _) (I (hb.old _ _ _) (I (hb.old _ _ _) (I (hb.old _ _ _) (I (hb.old _ _ _) (I (hb.chans _ _) (I (I ((hb.old _ _ _).old _ _ _) (hb.old _ _ _)) (I (I ((hb.old _ _ _).old _ _ _) (hb.old _ _ _)) (I (hb.old _ _ _) hb)))))))))))
theorem touch_foot:Foot (Tch (touch p s g)) (Wrt (touch p s g)) p s g where
 own:=touch_own p s g
 c50 h:=by rw [touch50 p s g h];exact Tch.new _ _ _ _
 c54 h:=by rw [touch54 p s g h];exact Tch.new _ _ _ _
 c51 h:=by rw [touch51 p s g h];exact Wrt.new _ _ _
 c52 h:=by rw [touch52 p s g h];exact Wrt.new _ _ _
 c55 h:=by rw [touch55 p s g h];exact Wrt.new _ _ _
 c57 h:=by rw [touch57 p s g h];exact Wrt.new _ _ _
 c58 h:=by rw [touch58 p s g h];exact Wrt.new _ _ _
 c59 h:=by rw [touch59 p s g h];exact Wrt.new _ _ _
 c61 h i hi:=by rw [touch61 p s g h];exact Wrt.chan _ _ _ hi (Nat.le_refl _)
 c62 h:=by
  rw [touch62 p s g h]
  split
  · exact ⟨(Wrt.new _ _ _).old _ _ _,fun _=>Wrt.new _ _ _⟩
  · rename_i q;exact ⟨Wrt.new _ _ _,fun q'=>absurd q' q⟩
 c63 h:=by
  rw [touch63 p s g h]
  split
  · exact ⟨(Tch.new _ _ _ _).old _ _ _,fun _=>Tch.new _ _ _ _⟩
  · rename_i q;exact ⟨Tch.new _ _ _ _,fun q'=>absurd q' q⟩
theorem touch_gos {n:Int} (h:Wrt (touch p s g) 5 n):n=g∨n=s.count:=by
 have hb:∀ {l:List Access} {k m:Int} {w:Bool},(∀ y∈l,y.kind=5→y.write=true→y.num=g∨y.num=s.count)→(k=5→w=true→m=s.count)→∀ y∈add k m w l,y.kind=5→y.write=true→y.num=g∨y.num=s.count:=by
  intro l k m w hl hk
  induction l with
  | nil=>intro y hy h5 hw;simp [add] at hy;subst hy;exact .inr (hk h5 hw)
  | cons x l ih =>
    intro y hy h5 hw
    unfold add at hy
    split at hy
    · rename_i q
      rcases List.mem_cons.1 hy with e|hy
      · subst e
        have h5:x.kind=5:=h5
        have hw:(x.write||w)=true:=hw
        rcases Bool.or_eq_true_iff.1 hw with hw|hw
        · exact hl x List.mem_cons_self h5 hw
        · exact .inr (q.2.trans (hk (q.1.symm.trans h5) hw))
      · exact hl y (List.mem_cons_of_mem _ hy) h5 hw
    split at hy
    · rcases List.mem_cons.1 hy with e|hy
      · subst e;exact .inr (hk h5 hw)
      · exact hl y hy h5 hw
    · rcases List.mem_cons.1 hy with e|hy
      · subst e;exact hl _ List.mem_cons_self h5 hw
      · exact ih (fun y hy=>hl y (List.mem_cons_of_mem _ hy)) y hy h5 hw
 have h0:∀ y∈([⟨5,g,true⟩]:List Access),y.kind=5→y.write=true→y.num=g∨y.num=s.count:=by
  intro y hy _ _;simp at hy;subst hy;exact .inl rfl
 have hcs:∀ (q:Sel) (n:Nat),∀ y∈addChans q n [⟨5,g,true⟩],y.kind=5→y.write=true→y.num=g∨y.num=s.count:=by
  intro q n
  induction n with
  | zero=>exact h0
  | succ n ih =>
    by_cases hn:n<q.cases.length
    · unfold addChans at ih ⊢
      rw [List.take_succ_eq_append_getElem hn,List.foldl_append]
      exact hb ih (fun q=>absurd q (by decide))
    · unfold addChans at ih ⊢
      rw [List.take_of_length_le (by omega)] at ih ⊢
      exact ih
 obtain ⟨a,ha,h5,rfl,hw⟩:=h
 have I:∀ {c:Prop} [Decidable c] {a b:List Access},(∀ y∈a,y.kind=5→y.write=true→y.num=g∨y.num=s.count)→(∀ y∈b,y.kind=5→y.write=true→y.num=g∨y.num=s.count)→∀ y∈(if c then a else b),y.kind=5→y.write=true→y.num=g∨y.num=s.count:=fun h1 h2=>by split<;>assumption
 have n:∀ {k m:Int} {w:Bool},k≠5→k=5→w=true→m=s.count:=fun q e=>absurd e q
 have n1:(1:Int)≠5:=by decide
 have n2:(2:Int)≠5:=by decide
 have n3:(3:Int)≠5:=by decide
 have n4:(4:Int)≠5:=by decide
 have n6:(6:Int)≠5:=by decide
 exact (I (hb h0 (n n1)) (I (hb h0 (n n1)) (I (hb h0 (n n1)) (I (hb h0 (n n1)) (I (hb h0 (n n2)) (I (hb h0 (n n2)) (I (hb h0 (n n3)) (I (hb h0 (n n3)) (I (hcs _ _) (I (I (hb (hb h0 (n n4)) (fun _ _=>rfl)) (hb h0 (n n4))) (I (I (hb (hb h0 (n n4)) (fun _ q=>absurd q (by decide))) (hb h0 (n n4))) (I (hb h0 (n n6)) h0)))))))))))) a ha h5 hw
end
end Go.Eng
