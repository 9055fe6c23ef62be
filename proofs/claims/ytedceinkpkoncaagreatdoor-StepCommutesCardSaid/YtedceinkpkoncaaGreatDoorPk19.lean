/- A part of the proof: walks through the program's functions, and what they compute. -/
import Derived.Test.YtedceinkpkoncaaGreatDoorPk18
import Derived.Test.YtedceinkpkoncaaGreatDoorPk14
import Derived.Test.YtedceinkpkoncaaGreatDoorPk17
set_option linter.unusedSimpArgs false
set_option linter.unusedVariables false
namespace Go.Eng.Tryz
open Go.RowKit Go.Eng
set_option maxHeartbeats 0
set_option maxRecDepth 20000
def lv126:List (Nat × List Nat):=[(0,[0,1]),(1,[0,5]),(2,[0,5,6]),(3,[4]),(4,[0,5,10]),(5,[4]),(6,[0,5,18]),(7,[4]),(8,[0,5,26]),(9,[4]),(10,[0,5,34]),(11,[4]),(12,[0,5,38]),(13,[4]),(14,[0,5,42]),(15,[4]),(16,[0,46]),(17,[4]),(18,[4])]
theorem failing_ctr (op why:Int):Ctr Go.Proofs.Tryz.prog tab 126 [3,3] [4] [.int op,.int why] [.bool (failing op why)]:=by
 refine Ctr.body ok Go.Proofs.Tryz.func126 rfl rfl 50 rfl [.tmp 4] rfl (by simp [fromVs]) ?_
 simp only [fromVs,fromV,args0,V.toList_list,V.toInt_int,V.toBool_bool,Nat.zero_add,Nat.reduceAdd,ty3]
 repeat' first
  | ((with_reducible refine SARA.do fun R1 hR1=>?_);(simp only [go_sem,seval,-List.reduceReplicate]);(repeat' with_reducible refine And.intro ?_ ?_);all_goals first|(refine hR1 _ ?_;clear hR1 R1)|omega|rfl|decide|assumption|(intro _;omega)|(simp;done)|(simp;omega))
  | ((with_reducible refine SARA.nil ?_);refine hR _ ?_;clear hR R;try simp only [go_sem,lv126,lvOf,Nat.reduceBEq,Option.getD_some])
  | (with_reducible first|refine J1 ?_|refine J2 ?_|refine J3 ?_|refine J4 ?_|refine J5 ?_|refine J6 ?_|refine J7 ?_|refine J8 (by decide) ?_|refine J9 ?_|refine J10 ?_|refine J11 ?_|refine J12 ?_|refine J13 ?_|refine J14 ?_|refine J15 ?_|refine J16 ?_|refine J17 ?_|refine J18 ?_|refine J19 ?_)
  | ((with_reducible refine J21 ok (by kernel_rfl) lv126 ?_);intro R hR;simp only [go_sem,strip])
  | ((with_reducible refine J20 6 rfl (fun hb6=>?_) (fun hb6=>?_))
     all_goals
      try simp only [decide_eq_true_eq,decide_eq_false_iff_not] at hb6)
  | ((with_reducible refine J20 10 rfl (fun hb10=>?_) (fun hb10=>?_))
     all_goals
      try simp only [decide_eq_true_eq,decide_eq_false_iff_not] at hb10)
  | ((with_reducible refine J20 18 rfl (fun hb18=>?_) (fun hb18=>?_))
     all_goals
      try simp only [decide_eq_true_eq,decide_eq_false_iff_not] at hb18)
  | ((with_reducible refine J20 26 rfl (fun hb26=>?_) (fun hb26=>?_))
     all_goals
      try simp only [decide_eq_true_eq,decide_eq_false_iff_not] at hb26)
  | ((with_reducible refine J20 34 rfl (fun hb34=>?_) (fun hb34=>?_))
     all_goals
      try simp only [decide_eq_true_eq,decide_eq_false_iff_not] at hb34)
  | ((with_reducible refine J20 38 rfl (fun hb38=>?_) (fun hb38=>?_))
     all_goals
      try simp only [decide_eq_true_eq,decide_eq_false_iff_not] at hb38)
  | ((with_reducible refine J20 42 rfl (fun hb42=>?_) (fun hb42=>?_))
     all_goals
      try simp only [decide_eq_true_eq,decide_eq_false_iff_not] at hb42)
  | ((with_reducible refine J20 46 rfl (fun hb46=>?_) (fun hb46=>?_))
     all_goals
      try simp only [decide_eq_true_eq,decide_eq_false_iff_not] at hb46)
  | ((with_reducible first|refine ctrK.normal ?_|refine ctrK.ret ?_)
     simp only [go_sem,resA,resV,backK,seval]
     refine ⟨rfl,?_⟩
     first|rfl|(simp [failing, *];done)|(simp only [failing, *];simp;cases decide (op=19)<;>rfl))
def lv71:List (Nat × List Nat):=[(0,[2,3]),(1,[2,3,46]),(2,[4]),(3,[2,3,5]),(4,[2,3,5,61]),(5,[2,3,5]),(6,[2,3,6]),(7,[2,3,6,64]),(8,[2,3,6]),(9,[2,3,6,71]),(10,[4]),(11,[3,7]),(12,[3,7,86]),(13,[4]),(14,[4])]
theorem goroutine_ctr (p:Prg) (g:Gor) (hp:p.Fit) (hr:rightP p=true) (hg:g.regs.length=8):Ctr Go.Proofs.Tryz.prog tab 71 [26,34] [4] [p.v,g.v] [.bool (gorOk p g)]:=by
 have hfit:=hp
 have hcode:=p.code_len hp
 have hsl:=p.sels_len hp
 obtain ⟨hp1,hp2,hp3,hp4⟩:=hp
 have hok:=Prg.ok hr
 have hM0:0≤gorM p g:=by
  unfold gorM
  split
  · exact Int.le_refl _
  · exact (hok.regs _).1
 refine Ctr.body ok Go.Proofs.Tryz.func71 rfl rfl 112 rfl [.tmp 4] rfl (by simp [fromVs]) ?_
 simp only [fromVs,fromV,args0,V.toList_list,V.toInt_int,V.toBool_bool,Nat.zero_add,Nat.reduceAdd,ty26,ty34]
 repeat' first
  | ((with_reducible first|refine SARA.do fun R1 hR1=>?_|refine SARQ.do fun R1 hR1=>?_);(simp only [go_sem,seval,-List.reduceReplicate]);(repeat' with_reducible refine And.intro ?_ ?_);all_goals first|(refine hR1 _ ?_;clear hR1 R1)|((first|refine ⟨_,_,rfl,_,CallQ.ctr ok (failing_ctr _ _) (by first|rfl|(simp [go_sem];done)|fail) rfl,?_⟩|refine ⟨_,_,rfl,_,fun hg=>CallQ.ctr ok (failing_ctr _ _) (by first|rfl|(simp [go_sem];done)|fail) rfl,?_⟩|refine cq (cc (failing_ctr _ _)) ?_|refine ⟨_,_,rfl,.inl ⟨_,fun hg=>CallQ.ctr ok (failing_ctr _ _) (by first|rfl|(simp [go_sem];done)|fail) rfl,?_⟩⟩|refine ⟨_,_,rfl,_,CallQ.ctr ok (local_ctr _) (by first|rfl|(simp [go_sem];done)|fail) rfl,?_⟩|refine ⟨_,_,rfl,_,fun hg=>CallQ.ctr ok (local_ctr _) (by first|rfl|(simp [go_sem];done)|fail) rfl,?_⟩|refine cq (cc (local_ctr _)) ?_|refine ⟨_,_,rfl,.inl ⟨_,fun hg=>CallQ.ctr ok (local_ctr _) (by first|rfl|(simp [go_sem];done)|fail) rfl,?_⟩⟩);all_goals ((try simp only [go_sem,seval,-List.reduceReplicate]);(repeat' with_reducible refine And.intro ?_ ?_);all_goals first|(refine hR1 _ ?_;clear hR1 R1)|omega|rfl|decide|assumption|(intro _;omega)|(simp;done)|(simp [-List.getD_eq_getElem?_getD];omega)|exact hcode _|(intro _;exact hcode _)|exact hsl _|(intro _;exact hsl _)))|omega|rfl|decide|assumption|(intro _;omega)|(simp;done)|(simp [-List.getD_eq_getElem?_getD];omega)|exact hcode _|(intro _;exact hcode _)|exact hsl _|(intro _;exact hsl _))
  | ((with_reducible refine SARA.nil ?_);refine hR _ ?_;clear hR R;try simp only [go_sem,lv71,lvOf,Nat.reduceBEq,Option.getD_some])
  | ((with_reducible refine SARQ.nil ?_);refine hR _ ?_;clear hR R;try simp only [go_sem,lv71,lvOf,Nat.reduceBEq,Option.getD_some])
  | (with_reducible first|refine J1 ?_|refine J2 ?_|refine J3 ?_|refine J4 ?_|refine J5 ?_|refine J6 ?_|refine J7 ?_|refine J8 (by decide) ?_|refine J9 ?_|refine J10 ?_|refine J11 ?_|refine J12 ?_|refine J13 ?_|refine J14 ?_|refine J15 ?_|refine J16 ?_|refine J17 ?_|refine J18 ?_|refine J19 ?_)
  | ((with_reducible refine SA.at 6 ?_)
     first|have hM:gorM p g=0:=if_pos hb61|have hM:gorM p g=(p.funcs.getD g.func.toNat default).regs:=if_neg (by omega)
     (with_reducible refine J21 ok (by kernel_rfl) lv71 ?_);intro R hR;simp only [go_sem,strip])
  | ((with_reducible refine J21 ok (by kernel_rfl) lv71 ?_);intro R hR;simp only [go_sem,strip])
  | ((with_reducible refine SA.regionD ok mixed (by kernel_rfl) (by kernel_rfl) lv71 ?_);intro R hR;simp only [go_sem,strip])
  | ((with_reducible refine J20 46 rfl (fun hb46=>?_) (fun hb46=>?_))
     all_goals
      try simp [-List.getD_eq_getElem?_getD] at hb46
      try (exfalso;omega))
  | ((with_reducible refine J20 61 rfl (fun hb61=>?_) (fun hb61=>?_))
     all_goals
      try simp [-List.getD_eq_getElem?_getD] at hb61
      try (exfalso;omega))
  | ((with_reducible refine J20 64 rfl (fun hb64=>?_) (fun hb64=>?_))
     all_goals
      try simp [-List.getD_eq_getElem?_getD] at hb64
      try (exfalso;omega))
  | ((with_reducible refine J20 71 rfl (fun hb71=>?_) (fun hb71=>?_))
     all_goals
      try simp [-List.getD_eq_getElem?_getD] at hb71
      try (exfalso;omega))
  | ((with_reducible refine J20 86 rfl (fun hb86=>?_) (fun hb86=>?_))
     all_goals
      try simp [-List.getD_eq_getElem?_getD] at hb86
      try (exfalso;omega))
  | ((with_reducible refine SA.atLoop ?_)
     refine SA.weaken (St.le.of_eq (by first|rfl|(simp;done)|fail)) (SA.loop (fun n τ=>∃ (i:Int),n=(8-i).toNat∧(gorM p g≤i∧∀ k:Nat,gorM p g≤k→(k:Int)<i→g.regs.getD k 0=0)∧τ={ tm:=[(2,true,.ptr 0 [] 26),(3,true,.ptr 1 [] 34),(6,true,.int .i64 i)],ob:=[.var 26 (.data 26 p.v),.var 34 (.data 34 g.v)],out:=[],nt:=112 }) (_) ⟨_,rfl,⟨by rw [hM];exact Int.le_refl _,fun k h1 h2=>by rw [hM] at h1;omega⟩,rfl⟩ ?_)
     rintro n τ ⟨i,hn,⟨hi,hz⟩,rfl⟩)
  | ((with_reducible refine loopK.round ?_)
     first
      | (have hw:IntKind.i64.wrap (i+1)=i+1:=wrap64_ok (by omega) (by omega)
         refine loopK.normal (8-(i+1)).toNat _ (by omega) (St.le.of_eq (by rw [hw])) ⟨i+1,rfl,⟨by omega,fun k h1 h2=>?_⟩,rfl⟩
         by_cases h3:(k:Int)<i
         · exact hz k h1 h3
         · have:k=i.toNat:=by omega
           rw [this];exact hb71))
  | ((with_reducible first|refine ctrK.normal ?_|refine ctrK.ret ?_)
     simp only [go_sem,resA,resV,backK,seval]
     first
      | (refine ⟨rfl,?_⟩
         rw [gorOk_in hb46,regs_bad hi (by omega) hb64 hb71]
         rfl)
      | (refine ⟨rfl,?_⟩
         rw [gorOk_in hb46,regs_good (fun k h1 h2=>hz k h1 (by omega)),if_neg (by simp),if_pos hb86])
      | (refine ⟨rfl,?_⟩
         rw [gorOk_in hb46,regs_good (fun k h1 h2=>hz k h1 (by omega)),if_neg (by simp),if_neg hb86]
         cases decide (g.why=0)<;>by_cases h3:g.status=3<;>by_cases h5:g.status=5<;>simp [-List.getD_eq_getElem?_getD,h3,h5])
      | (refine ⟨rfl,?_⟩
         rw [gorOk_range (by unfold gorR;omega)]))
end Go.Eng.Tryz
namespace Go.Eng.Tryz
open Go.RowKit Go.Eng
set_option maxHeartbeats 0
set_option maxRecDepth 20000
def lv72:List (Nat × List Nat):=[(0,[2,3,4]),(1,[2,3,4,7]),(2,[2,3,4,7,49]),(3,[6]),(4,[2,3,4,7,8]),(5,[2,3,4,7,8,53]),(6,[2,3,4,7,8]),(7,[2,3,4,7,8,60]),(8,[6]),(9,[2,3,4,7,63]),(10,[6]),(11,[2,3,4,7,98]),(12,[6]),(13,[2,3,4,7,117]),(14,[6]),(15,[2,9]),(16,[6])]
theorem channel_ctr (p:Prg) (s:Stt) (m:Int) (hp:p.Fit) (hr:rightP p=true) (hm:0≤m∧m<p.chans.length) (hc4:s.chans.length=4) (hcnt:s.count≤6) (hgs:gorsOk p s 6=true):Ctr Go.Proofs.Tryz.prog tab 72 [26,37,3] [4] [p.v,s.v,.int m] [.bool (chanOk p s m)]:=by
 have hfit:=hp
 have hcode:=p.code_len hp
 have hsl:=p.sels_len hp
 obtain ⟨hp1,hp2,hp3,hp4⟩:=hp
 have hok:=Prg.ok hr
 have hcap:=hok.caps m.toNat
 have hsz:=hok.sizes
 unfold Sizes at hsz
 refine Ctr.body ok Go.Proofs.Tryz.func72 rfl rfl 146 rfl [.tmp 6] rfl (by simp [fromVs]) ?_
 simp only [fromVs,fromV,args0,V.toList_list,V.toInt_int,V.toBool_bool,Nat.zero_add,Nat.reduceAdd,ty3,ty26,ty37]
 repeat' first
  | ((with_reducible refine SARA.told 1 4 ?_)
     rw [getD_chns (by omega)])
  | ((with_reducible refine SART.told 15 18 ?_)
     rw [getD_instrs (by omega)])
  | ((with_reducible first|refine SARA.do fun R1 hR1=>?_|refine SARQ.do fun R1 hR1=>?_|refine SART.do fun R1 hR1=>?_|refine SARB.keep fun R1 hR1=>?_|refine SARB.any fun R1 hR1=>?_);(simp only [go_sem,seval,-List.reduceReplicate]);(repeat' with_reducible refine And.intro ?_ ?_);all_goals first|(refine hR1 _ ?_;clear hR1 R1)|omega|rfl|decide|assumption|(intro _;omega)|(simp;done)|(simp [-List.getD_eq_getElem?_getD];omega)|exact hcode _|(intro _;exact hcode _)|exact hsl _|(intro _;exact hsl _))
  | ((with_reducible refine SART.done ?_);refine hR _ ?_;clear hR R;try simp only [go_sem,lv72,lvOf,Nat.reduceBEq,Option.getD_some])
  | (with_reducible first|refine SART.br ?_ ?_|exact SARL.nil|refine SARL.cons ?_ ?_)
  | ((with_reducible refine SARA.nil ?_);refine hR _ ?_;clear hR R;try simp only [go_sem,lv72,lvOf,Nat.reduceBEq,Option.getD_some])
  | ((with_reducible refine SARQ.nil ?_);refine hR _ ?_;clear hR R;try simp only [go_sem,lv72,lvOf,Nat.reduceBEq,Option.getD_some])
  | (with_reducible first|refine J1 ?_|refine J2 ?_|refine J3 ?_|refine J4 ?_|refine J5 ?_|refine J6 ?_|refine J7 ?_|refine J8 (by decide) ?_|refine J9 ?_|refine J10 ?_|refine J11 ?_|refine J12 ?_|refine J13 ?_|refine J14 ?_|refine J15 ?_|refine J16 ?_|refine J17 ?_|refine J18 ?_|refine J19 ?_)
  | ((with_reducible refine SA.at 15 ?_)
     have hG:=gorOk_R (gorsOk_at hgs (i:=(s.chans.getD m.toNat default).from_) (by omega) (by omega) (by omega))
     unfold gorR at hG
     refine SA.regionT ok mixed (.take 0 (.take 1 (.take 2 (.take 3 (.take 4 (.take 5 (.take 6 (.take 7 (.take 8 (.take 9 (.take 10 (.take 11 (.take 12 (.take 13 (.take 14 (.take 15 (.take 16 (.take 17 (.take 18 (.br 19 (.br 20 .done .nil) .nil)))))))))))))))))))) [20] lv72 (by kernel_rfl) (fun R hR=>?_);simp only [go_sem,strip])
  | ((with_reducible refine J21 ok (by kernel_rfl) lv72 ?_);intro R hR;simp only [go_sem,strip])
  | ((with_reducible refine SA.regionD ok mixed (by kernel_rfl) (by kernel_rfl) lv72 ?_);intro R hR;simp only [go_sem,strip])
  | ((with_reducible refine J20 49 rfl (fun hb49=>?_) (fun hb49=>?_))
     all_goals
      try simp [-List.getD_eq_getElem?_getD] at hb49
      try (exfalso;omega))
  | ((with_reducible refine J20 53 rfl (fun hb53=>?_) (fun hb53=>?_))
     all_goals
      try simp [-List.getD_eq_getElem?_getD] at hb53
      try (exfalso;omega))
  | ((with_reducible refine J20 60 rfl (fun hb60=>?_) (fun hb60=>?_))
     all_goals
      try simp [-List.getD_eq_getElem?_getD] at hb60
      try (exfalso;omega))
  | ((with_reducible refine J20 63 rfl (fun hb63=>?_) (fun hb63=>?_))
     all_goals
      try simp [-List.getD_eq_getElem?_getD] at hb63
      try (exfalso;omega))
  | ((with_reducible refine J20 98 rfl (fun hb98=>?_) (fun hb98=>?_))
     all_goals
      try simp [-List.getD_eq_getElem?_getD] at hb98
      try (exfalso;omega))
  | ((with_reducible refine J20 117 rfl (fun hb117=>?_) (fun hb117=>?_))
     all_goals
      try simp [-List.getD_eq_getElem?_getD] at hb117
      try (exfalso;omega))
  | ((with_reducible refine SA.atLoop ?_)
     refine SA.weaken (St.le.of_eq (by first|rfl|(simp;done)|fail)) (SA.loop (fun n τ=>∃ (i:Int),n=(4-i).toNat∧((s.chans.getD m.toNat default).len≤i∧∀ k:Nat,(s.chans.getD m.toNat default).len≤k→(k:Int)<i→(s.chans.getD m.toNat default).buf.getD k 0=0)∧τ={ tm:=[(2,true,.int .i64 m),(3,true,.ptr 0 [] 26),(4,true,.ptr 1 [] 37),(7,true,.ptr 2 [] 31),(8,true,.int .i64 i)],ob:=[.var 26 (.data 26 p.v),.var 37 (.data 37 s.v),.var 31 (.data 31 (s.chans.getD m.toNat default).v)],out:=[],nt:=146 }) (_) ⟨_,rfl,⟨Int.le_refl _,fun k h1 h2=>by omega⟩,rfl⟩ ?_)
     rintro n τ ⟨i,hn,⟨hi,hz⟩,rfl⟩)
  | ((with_reducible refine loopK.round ?_)
     first
      | (have hw:IntKind.i64.wrap (i+1)=i+1:=wrap64_ok (by omega) (by omega)
         refine loopK.normal (4-(i+1)).toNat _ (by omega) (St.le.of_eq (by rw [hw])) ⟨i+1,rfl,⟨by omega,fun k h1 h2=>?_⟩,rfl⟩
         by_cases h3:(k:Int)<i
         · exact hz k h1 h3
         · have:k=i.toNat:=by omega
           rw [this];exact hb60))
  | ((with_reducible first|refine ctrK.normal ?_|refine ctrK.ret ?_)
     simp only [go_sem,resA,resV,backK,seval]
     first
      | (have q:(_∧_)∧_:=hb117
         refine ⟨rfl,?_⟩
         rw [chanOk_eq,if_neg (by omega),buf_good (fun k h1 h2=>hz k h1 (by omega)),if_neg (by simp),if_neg hb63,if_neg (by rintro (⟨q1,q2⟩|⟨q1,q2⟩|⟨q1,q2⟩)<;>first|exact q2 (hb98.1.1 q1)|(rw [hb98.1.2 q1] at q2;cases q2)|(rw [hb98.2 q1] at q2;cases q2)),if_neg (by omega)]
         first|rfl|(simp;done))
      | (have q:(_∨_)∨_:=hb117
         refine ⟨rfl,?_⟩
         rw [chanOk_eq,if_neg (by omega),buf_good (fun k h1 h2=>hz k h1 (by omega)),if_neg (by simp),if_neg hb63,if_neg (by rintro (⟨q1,q2⟩|⟨q1,q2⟩|⟨q1,q2⟩)<;>first|exact q2 (hb98.1.1 q1)|(rw [hb98.1.2 q1] at q2;cases q2)|(rw [hb98.2 q1] at q2;cases q2)),if_pos (by omega)])
      | (have q:(_∨_)∨_:=hb98
         refine ⟨rfl,?_⟩
         rw [chanOk_eq,if_neg (by omega),buf_good (fun k h1 h2=>hz k h1 (by omega)),if_neg (by simp),if_neg hb63,if_pos (or_assoc.1 hb98)])
      | (have q:_=_:=hb63
         refine ⟨rfl,?_⟩
         rw [chanOk_eq,if_neg (by omega),buf_good (fun k h1 h2=>hz k h1 (by omega)),if_neg (by simp),if_pos hb63]
         first|rfl|(simp;done))
      | (have q:¬ _:=hb60
         refine ⟨rfl,?_⟩
         rw [chanOk_eq,if_neg (by omega),buf_bad hi (by omega) (by omega) hb60,if_pos rfl])
      | (have q:_∨_:=hb49
         refine ⟨rfl,?_⟩
         rw [chanOk_eq,if_pos (by omega)]))
end Go.Eng.Tryz
namespace Go.Eng.Tryz
open Go.RowKit Go.Eng
set_option maxHeartbeats 0
set_option maxRecDepth 20000
theorem zeroGo_at:tab.zero 34=zeroGor.v:=rfl
theorem zeroChan_at:tab.zero 31=zeroChn.v:=rfl
theorem zeroState_at:tab.zero 37=zeroStt.v:=rfl
def lv19:List (Nat × List Nat):=[(0,[2,3]),(1,[2,3,24]),(2,[4]),(3,[2,3,25]),(4,[2,3,25,26]),(5,[2,3,5,25]),(6,[2,3,25,54]),(7,[4]),(8,[2,3,25]),(9,[2,3,6]),(10,[2,3,6,60]),(11,[2,3,6]),(12,[2,3,6,67]),(13,[4]),(14,[2,3,68]),(15,[2,3,68,69]),(16,[2,3,7,68]),(17,[2,3,68,97]),(18,[4]),(19,[2,3,68]),(20,[2,3,99]),(21,[2,3,99,100]),(22,[2,3,8,99]),(23,[2,3,99,128]),(24,[4]),(25,[2,3,99]),(26,[3,9]),(27,[3,9,133]),(28,[3,9]),(29,[3,9,10]),(30,[3,9,10,136]),(31,[3,9,10,136,137]),(32,[3,9,10,11,136]),(33,[3,9,10,136,153]),(34,[3,9,10,136]),(35,[3,9,10,136]),(36,[3,9,166]),(37,[4]),(38,[4])]
theorem valid_ctr (p:Prg) (s:Stt) (hp:p.Fit) (hs:s.Shape):Ctr Go.Proofs.Tryz.prog tab 19 [26,37] [4] [p.v,s.v] [.bool (validP p s)]:=by
 have hfit:=hp
 have hcode:=p.code_len hp
 have hsl:=p.sels_len hp
 obtain ⟨hp1,hp2,hp3,hp4⟩:=hp
 obtain ⟨hs1,hs2,hs3,hs4,hs5,hs6⟩:=hs
 refine Ctr.body ok Go.Proofs.Tryz.func19 rfl rfl 167 rfl [.tmp 4] rfl (by simp [fromVs]) ?_
 simp only [fromVs,fromV,args0,V.toList_list,V.toInt_int,V.toBool_bool,Nat.zero_add,Nat.reduceAdd,ty26,ty37]
 repeat' first
  | ((with_reducible refine SARQ.told 6 10 ?_)
     rw [getD_gors (by omega)])
  | ((with_reducible refine SARQ.told 6 23 ?_)
     rw [getD_gors (by omega)])
  | ((with_reducible refine SARA.told 23 10 ?_)
     rw [getD_chns (by omega)])
  | ((with_reducible first|refine SARA.do fun R1 hR1=>?_|refine SARQ.do fun R1 hR1=>?_);(simp only [go_sem,seval,-List.reduceReplicate,zeroGo_at,zeroChan_at,beq_gor,beq_chn]);(repeat' with_reducible refine And.intro ?_ ?_);all_goals first|(refine hR1 _ ?_;clear hR1 R1)|((first|refine ⟨_,_,rfl,_,CallQ.ctr ok (right_ctr p hfit) (by first|rfl|(simp [go_sem];done)|fail) rfl,?_⟩|refine ⟨_,_,rfl,_,fun hg=>CallQ.ctr ok (right_ctr p hfit) (by first|rfl|(simp [go_sem];done)|fail) rfl,?_⟩|refine cq (cc (right_ctr p hfit)) ?_|refine ⟨_,_,rfl,.inl ⟨_,fun hg=>CallQ.ctr ok (right_ctr p hfit) (by first|rfl|(simp [go_sem];done)|fail) rfl,?_⟩⟩|refine ⟨_,_,rfl,_,CallQ.ctr ok (goroutine_ctr p _ hfit hr (hs6 _ (getD_mem (i:=i) _ (by omega)))) (by first|rfl|(simp [go_sem];done)|fail) rfl,?_⟩|refine ⟨_,_,rfl,_,fun hg=>CallQ.ctr ok (goroutine_ctr p _ hfit hr (hs6 _ (getD_mem (i:=i) _ (by omega)))) (by first|rfl|(simp [go_sem];done)|fail) rfl,?_⟩|refine cq (cc (goroutine_ctr p _ hfit hr (hs6 _ (getD_mem (i:=i) _ (by omega))))) ?_|refine ⟨_,_,rfl,.inl ⟨_,fun hg=>CallQ.ctr ok (goroutine_ctr p _ hfit hr (hs6 _ (getD_mem (i:=i) _ (by omega)))) (by first|rfl|(simp [go_sem];done)|fail) rfl,?_⟩⟩|refine ⟨_,_,rfl,_,CallQ.ctr ok (channel_ctr p s (i:Int) hfit hr (by simp at hg;omega) hs3 hc2 hgs) (by first|rfl|(simp [go_sem];done)|fail) rfl,?_⟩|refine ⟨_,_,rfl,_,fun hg=>CallQ.ctr ok (channel_ctr p s (i:Int) hfit hr (by simp at hg;omega) hs3 hc2 hgs) (by first|rfl|(simp [go_sem];done)|fail) rfl,?_⟩|refine cq (cc (channel_ctr p s (i:Int) hfit hr (by simp at hg;omega) hs3 hc2 hgs)) ?_|refine ⟨_,_,rfl,.inl ⟨_,fun hg=>CallQ.ctr ok (channel_ctr p s (i:Int) hfit hr (by simp at hg;omega) hs3 hc2 hgs) (by first|rfl|(simp [go_sem];done)|fail) rfl,?_⟩⟩);all_goals ((try simp only [go_sem,seval,-List.reduceReplicate,zeroGo_at,zeroChan_at,beq_gor,beq_chn]);(repeat' with_reducible refine And.intro ?_ ?_);all_goals first|(refine hR1 _ ?_;clear hR1 R1)|omega|rfl|decide|assumption|(intro _;omega)|(simp;done)|(simp [-List.getD_eq_getElem?_getD];omega)|exact hcode _|(intro _;exact hcode _)|exact hsl _|(intro _;exact hsl _)))|omega|rfl|decide|assumption|(intro _;omega)|(simp;done)|(simp [-List.getD_eq_getElem?_getD];omega)|exact hcode _|(intro _;exact hcode _)|exact hsl _|(intro _;exact hsl _))
  | ((with_reducible refine SARA.nil ?_);refine hR _ ?_;clear hR R;try simp only [go_sem,lv19,lvOf,Nat.reduceBEq,Option.getD_some])
  | ((with_reducible refine SARQ.nil ?_);refine hR _ ?_;clear hR R;try simp only [go_sem,lv19,lvOf,Nat.reduceBEq,Option.getD_some])
  | (with_reducible first|refine J1 ?_|refine J2 ?_|refine J3 ?_|refine J4 ?_|refine J5 ?_|refine J6 ?_|refine J7 ?_|refine J8 (by decide) ?_|refine J9 ?_|refine J10 ?_|refine J11 ?_|refine J12 ?_|refine J13 ?_|refine J14 ?_|refine J15 ?_|refine J16 ?_|refine J17 ?_|refine J18 ?_|refine J19 ?_)
  | ((with_reducible refine SA.at 3 ?_)
     obtain ⟨⟨hr,hc1⟩,hc2⟩:=hb24
     have hok:=Prg.ok hr
     have hsz:=hok.sizes
     unfold Sizes at hsz
     (with_reducible refine J21 ok (by kernel_rfl) lv19 ?_);intro R hR;simp only [go_sem,strip])
  | ((with_reducible refine SA.at 9 ?_)
     have hgs:gorsOk p s 6=true:=(show i=6 by omega)▸hz
     (with_reducible refine J21 ok (by kernel_rfl) lv19 ?_);intro R hR;simp only [go_sem,strip])
  | ((with_reducible refine SA.at 14 ?_)
     have hvs:varsOk p s 8=true:=vars_good (fun k h1 h2=>hz k h1 (by omega))
     (with_reducible refine J21 ok (by kernel_rfl) lv19 ?_);intro R hR;simp only [go_sem,strip])
  | ((with_reducible refine SA.at 20 ?_)
     have hos:ownersOk p s 4=true:=(show i=4 by omega)▸hz
     (with_reducible refine J21 ok (by kernel_rfl) lv19 ?_);intro R hR;simp only [go_sem,strip])
  | ((with_reducible refine SA.at 26 ?_)
     have hcs:chansOk p s 4=true:=(show i=4 by omega)▸hz
     (with_reducible refine J21 ok (by kernel_rfl) lv19 ?_);intro R hR;simp only [go_sem,strip])
  | ((with_reducible refine J21 ok (by kernel_rfl) lv19 ?_);intro R hR;simp only [go_sem,strip])
  | ((with_reducible refine SA.regionD ok mixed (by kernel_rfl) (by kernel_rfl) lv19 ?_);intro R hR;simp only [go_sem,strip])
  | ((with_reducible refine J20 24 rfl (fun hb24=>?_) (fun hb24=>?_))
     all_goals
      try simp [-List.getD_eq_getElem?_getD] at hb24
      try (exfalso;omega))
  | ((with_reducible refine J20 26 rfl (fun hb26=>?_) (fun hb26=>?_))
     all_goals
      try simp [-List.getD_eq_getElem?_getD] at hb26
      try (exfalso;omega))
  | ((with_reducible refine J20 54 rfl (fun hb54=>?_) (fun hb54=>?_))
     all_goals
      try simp [-List.getD_eq_getElem?_getD] at hb54
      try (exfalso;omega))
  | ((with_reducible refine J20 60 rfl (fun hb60=>?_) (fun hb60=>?_))
     all_goals
      try simp [-List.getD_eq_getElem?_getD] at hb60
      try (exfalso;omega))
  | ((with_reducible refine J20 67 rfl (fun hb67=>?_) (fun hb67=>?_))
     all_goals
      try simp [-List.getD_eq_getElem?_getD] at hb67
      try (exfalso;omega))
  | ((with_reducible refine J20 69 rfl (fun hb69=>?_) (fun hb69=>?_))
     all_goals
      try simp [-List.getD_eq_getElem?_getD] at hb69
      try (exfalso;omega))
  | ((with_reducible refine J20 97 rfl (fun hb97=>?_) (fun hb97=>?_))
     all_goals
      try simp [-List.getD_eq_getElem?_getD] at hb97
      try (exfalso;omega))
  | ((with_reducible refine J20 100 rfl (fun hb100=>?_) (fun hb100=>?_))
     all_goals
      try simp [-List.getD_eq_getElem?_getD] at hb100
      try (exfalso;omega))
  | ((with_reducible refine J20 128 rfl (fun hb128=>?_) (fun hb128=>?_))
     all_goals
      try simp [-List.getD_eq_getElem?_getD] at hb128
      try (exfalso;omega))
  | ((with_reducible refine J20 133 rfl (fun hb133=>?_) (fun hb133=>?_))
     all_goals
      try simp [-List.getD_eq_getElem?_getD] at hb133
      try (exfalso;omega))
  | ((with_reducible refine J20 137 rfl (fun hb137=>?_) (fun hb137=>?_))
     all_goals
      try simp [-List.getD_eq_getElem?_getD] at hb137
      try (exfalso;omega))
  | ((with_reducible refine J20 153 rfl (fun hb153=>?_) (fun hb153=>?_))
     all_goals
      try simp [-List.getD_eq_getElem?_getD] at hb153
      try (exfalso;omega))
  | ((with_reducible refine J20 166 rfl (fun hb166=>?_) (fun hb166=>?_))
     all_goals
      try simp [-List.getD_eq_getElem?_getD] at hb166
      try (exfalso;omega))
  | ((with_reducible refine SA.atLoop ?_)
     refine SA.weaken (St.le.of_eq (by first|rfl|(simp;done)|fail)) (SA.loop (fun n τ=>∃ (i:Nat),n=6-i∧(i≤6∧gorsOk p s i=true)∧τ={ tm:=[(2,true,.ptr 0 [] 26),(3,true,.ptr 1 [] 37),(25,true,.int .i64 i)],ob:=[.var 26 (.data 26 p.v),.var 37 (.data 37 s.v)],out:=[],nt:=167 }) (6) ⟨0,rfl,⟨by omega,rfl⟩,rfl⟩ ?_)
     rintro n τ ⟨i,hn,⟨hi,hz⟩,rfl⟩)
  | ((with_reducible refine SA.atLoop ?_)
     refine SA.weaken (St.le.of_eq (by first|rfl|(simp;done)|fail)) (SA.loop (fun n τ=>∃ (i:Nat),n=8-i∧(p.vars.length≤i∧i≤8∧∀ k:Nat,p.vars.length≤k→k<i→s.vars.getD k 0=0)∧τ={ tm:=[(2,true,.ptr 0 [] 26),(3,true,.ptr 1 [] 37),(6,true,.int .i64 i)],ob:=[.var 26 (.data 26 p.v),.var 37 (.data 37 s.v)],out:=[],nt:=167 }) (8-p.vars.length) ⟨p.vars.length,rfl,⟨Nat.le_refl _,by omega,fun k h1 h2=>by omega⟩,rfl⟩ ?_)
     rintro n τ ⟨i,hn,⟨hi0,hi,hz⟩,rfl⟩)
  | ((with_reducible refine SA.atLoop ?_)
     refine SA.weaken (St.le.of_eq (by first|rfl|(simp;done)|fail)) (SA.loop (fun n τ=>∃ (i:Nat),n=4-i∧(i≤4∧ownersOk p s i=true)∧τ={ tm:=[(2,true,.ptr 0 [] 26),(3,true,.ptr 1 [] 37),(68,true,.int .i64 i)],ob:=[.var 26 (.data 26 p.v),.var 37 (.data 37 s.v)],out:=[],nt:=167 }) (4) ⟨0,rfl,⟨by omega,rfl⟩,rfl⟩ ?_)
     rintro n τ ⟨i,hn,⟨hi,hz⟩,rfl⟩)
  | ((with_reducible refine SA.atLoop ?_)
     refine SA.weaken (St.le.of_eq (by first|rfl|(simp;done)|fail)) (SA.loop (fun n τ=>∃ (i:Nat),n=4-i∧(i≤4∧chansOk p s i=true)∧τ={ tm:=[(2,true,.ptr 0 [] 26),(3,true,.ptr 1 [] 37),(99,true,.int .i64 i)],ob:=[.var 26 (.data 26 p.v),.var 37 (.data 37 s.v)],out:=[],nt:=167 }) (4) ⟨0,rfl,⟨by omega,rfl⟩,rfl⟩ ?_)
     rintro n τ ⟨i,hn,⟨hi,hz⟩,rfl⟩)
  | ((with_reducible refine SA.atLoop ?_)
     refine SA.weaken (St.le.of_eq (by first|rfl|(simp;done)|fail)) (SA.loop (fun n τ=>∃ (i:Nat),n=s.count.toNat-i∧(i≤s.count.toNat∧waitsOk s i=true)∧τ={ tm:=[(3,true,.ptr 1 [] 37),(9,true,.int .i64 i)],ob:=[.var 26 (.data 26 p.v),.var 37 (.data 37 s.v)],out:=[],nt:=167 }) (s.count.toNat) ⟨0,rfl,⟨by omega,rfl⟩,rfl⟩ ?_)
     rintro n τ ⟨i,hn,⟨hi,hz⟩,rfl⟩)
  | ((with_reducible refine SA.atLoop ?_)
     refine SA.weaken (St.le.of_eq (by first|rfl|(simp;done)|fail)) (SA.loop (fun n τ=>∃ (j:Nat),n=4-j∧(j≤4)∧τ={ tm:=[(3,true,.ptr 1 [] 37),(9,true,.int .i64 i),(10,true,.int .i64 (offersTo s i j)),(136,true,.int .i64 j)],ob:=[.var 26 (.data 26 p.v),.var 37 (.data 37 s.v)],out:=[],nt:=167 }) (4) ⟨0,rfl,by omega,rfl⟩ ?_)
     rintro n τ ⟨j,hn,hj,rfl⟩)
  | ((with_reducible refine loopK.round ?_)
     first
      | (have hlt:i<6:=by omega
         refine loopK.normal (6-(i+1)) _ (by omega) (St.le.of_eq (by simp only [wrap_succ hlt (by decide:6≤maxLen)])) ⟨i+1,rfl,⟨hlt,gors_succ hz hb54⟩,rfl⟩)
      | (have hlt:i<8:=by omega
         refine loopK.normal (8-(i+1)) _ (by omega) (St.le.of_eq (by simp only [wrap_succ hlt (by decide:8≤maxLen)])) ⟨i+1,rfl,⟨by omega,hlt,fun k h1 h2=>?_⟩,rfl⟩
         by_cases h3:k<i
         · exact hz k h1 h3
         · have h4:k=i:=by omega
           rw [h4];exact hb67)
      | (have hlt:i<4:=by omega
         refine loopK.normal (4-(i+1)) _ (by omega) (St.le.of_eq (by simp only [wrap_succ hlt (by decide:4≤maxLen)])) ⟨i+1,rfl,⟨hlt,own_succ hz hb97⟩,rfl⟩)
      | (have hlt:i<4:=by omega
         refine loopK.normal (4-(i+1)) _ (by omega) (St.le.of_eq (by simp only [wrap_succ hlt (by decide:4≤maxLen)])) ⟨i+1,rfl,⟨hlt,chans_succ hz hb128⟩,rfl⟩)
      | (have hlt:i<s.count.toNat:=by omega
         refine loopK.normal (s.count.toNat-(i+1)) _ (by omega) (St.le.of_eq (by simp only [wrap_succ (n:=i) (m:=6) (by omega) (by decide)])) ⟨i+1,rfl,⟨hlt,waits_succ hz ?_⟩,rfl⟩
         rw [show (4:Nat)=j by omega];exact hb166)
      | (have hlt:j<4:=by omega
         have ho:=offers_le s i j
         first
          | have q:_∧_:=hb153
            refine loopK.normal (4-(j+1)) _ (by omega) (St.le.of_eq (by simp only [wrap_succ (n:=j) (m:=4) hlt (by decide),wrap_succ (n:=offersTo s i j) (m:=4) (by omega) (by decide),offers_hit hb153])) ⟨j+1,rfl,hlt,rfl⟩
          | refine loopK.normal (4-(j+1)) _ (by omega) (St.le.of_eq (by simp only [wrap_succ (n:=j) (m:=4) hlt (by decide),offers_miss hb153])) ⟨j+1,rfl,hlt,rfl⟩))
  | ((with_reducible first|refine ctrK.normal ?_|refine ctrK.ret ?_)
     simp only [go_sem,resA,resV,backK,seval]
     first
      | (have q:=hb166.2
         refine ⟨rfl,?_⟩
         rw [show j=4 by omega] at hb166
         rw [validP,waits_bad (n:=s.count.toNat) (i:=i) (by omega) hb166,Bool.and_false])
      | (have q:_∨_:=hb128
         refine ⟨rfl,?_⟩
         rw [validP,chans_bad (by omega) hb128,Bool.and_false,Bool.false_and])
      | (have q:_∨_:=hb97
         refine ⟨rfl,?_⟩
         rw [validP,own_bad (by omega) hb97,Bool.and_false,Bool.false_and,Bool.false_and])
      | (have q:¬_:=hb67
         refine ⟨rfl,?_⟩
         rw [validP,vars_bad hi0 (by omega) hb67,Bool.and_false,Bool.false_and,Bool.false_and,Bool.false_and])
      | (have q:_∨_:=hb54
         refine ⟨rfl,?_⟩
         rw [validP,gors_bad (by omega) hb54,Bool.and_false,Bool.false_and,Bool.false_and,Bool.false_and,Bool.false_and])
      | (have q:=hb133
         refine ⟨rfl,?_⟩
         have hw:waitsOk s s.count.toNat=true:=(show i=s.count.toNat by omega)▸hz
         simp only [validP,hr,hgs,hvs,hos,hcs,decide_eq_true hc1,decide_eq_true hc2,hw,Bool.and_self])
      | (have q:(_∨_)∨_:=hb24
         refine ⟨rfl,?_⟩
         rcases hb24 with (h|h)|h
         · rw [validP,h];rfl
         · rw [validP,decide_eq_false (show ¬1≤s.count by omega)];cases rightP p<;>rfl
         · rw [validP,decide_eq_false (show ¬s.count≤6 by omega)];cases rightP p<;>cases decide (1≤s.count)<;>rfl))
end Go.Eng.Tryz
namespace Go.Eng.Tryz
open Go.RowKit Go.Eng
set_option maxHeartbeats 0
set_option maxRecDepth 20000
def lv24:List (Nat × List Nat):=[(0,[2,3]),(1,[2,3,28]),(2,[4]),(3,[2,3,30,31]),(4,[2,3,30,31,32]),(5,[2,3,5,6,30,31]),(6,[2,3,30,31,43]),(7,[4]),(8,[2,3,30,31]),(9,[2,3,46,47]),(10,[2,3,46,47,48]),(11,[2,3,7,8,46,47]),(12,[2,3,46,47,68]),(13,[4]),(14,[2,3,46,47]),(15,[2,3,71,72]),(16,[2,3,71,72,73]),(17,[2,3,9,10,71,72]),(18,[2,3,71,72,96]),(19,[4]),(20,[2,3,71,72]),(21,[2,3,11]),(22,[2,3,11,100,101]),(23,[2,3,11,100,101,102]),(24,[2,3,11,12,13,100,101]),(25,[2,3,11,12,13,100,101,109]),(26,[2,3,11,100,101,112]),(27,[4]),(28,[2,3,11,13,100,101,117]),(29,[4]),(30,[2,3,11,13,100,101,120]),(31,[2,3,11,100,101]),(32,[2,3,11,100,101]),(33,[11,129,130]),(34,[11,129,130,131]),(35,[11,14,15,129,130]),(36,[11,129,130,142]),(37,[4]),(38,[11,129,130]),(39,[4])]
theorem pvalid_ctr (p:Prg) (s:Stt) (hp:p.Fit) (hs:s.Shape):Ctr Go.Proofs.Tryz.prog tab 24 [26,37] [4] [p.v,s.v] [.bool (validP p s)]:=by
 have hpp:=hp
 have hfit:=hp
 have hcode:=p.code_len hp
 have hsl:=p.sels_len hp
 obtain ⟨hp1,hp2,hp3,hp4⟩:=hp
 have hs1:=hs.vars
 have hs2:=hs.owner
 have hs3:=hs.chans
 have hs5:=hs.gos
 refine Ctr.body ok Go.Proofs.Tryz.func24 rfl rfl 144 rfl [.tmp 4] rfl (by simp [fromVs]) ?_
 simp only [fromVs,fromV,args0,V.toList_list,V.toInt_int,V.toBool_bool,Nat.zero_add,Nat.reduceAdd,ty26,ty37]
 repeat' first
  | ((with_reducible refine SARA.told 17 2 ?_)
     rw [getD_gors (by omega)])
  | ((with_reducible refine SARA.told 24 2 ?_)
     rw [getD_chns (by omega)])
  | ((with_reducible refine SARA.told 35 2 ?_)
     rw [getD_gors (by omega)])
  | ((with_reducible refine SARA.do fun R1 hR1=>?_);(simp only [go_sem,seval,-List.reduceReplicate,Bool.cond_false_right,Bool.cond_true_left,beq_gor,beq_chn,zeroGo_at,zeroChan_at]);(repeat' with_reducible refine And.intro ?_ ?_);all_goals first|(refine hR1 _ ?_;clear hR1 R1)|(intro hgf;simp only [hgf];refine hR1 _ ?_;clear hR1 R1)|((first|refine cq (cc (sright_ctr p hpp)) ?_|refine ⟨_,_,rfl,.inl ⟨_,fun hg=>CallQ.ctr ok (sright_ctr p hpp) (by first|rfl|(simp [go_sem];done)|fail) rfl,?_⟩⟩|refine cq (cc (fits_ctr p (s.gos.getD i default) hpp (hs.regs _ (getD_mem (i:=i) _ (by omega))))) ?_|refine ⟨_,_,rfl,.inl ⟨_,fun hg=>CallQ.ctr ok (fits_ctr p (s.gos.getD i default) hpp (hs.regs _ (getD_mem (i:=i) _ (by omega)))) (by first|rfl|(simp [go_sem];done)|fail) rfl,?_⟩⟩|refine cq (cc (pchannel_ctr p s (i:Int) hpp hr (by omega) hs (by omega) hg)) ?_|refine ⟨_,_,rfl,.inl ⟨_,fun hg=>CallQ.ctr ok (pchannel_ctr p s (i:Int) hpp hr (by omega) hs (by omega) hg) (by first|rfl|(simp [go_sem];done)|fail) rfl,?_⟩⟩);all_goals ((try simp only [go_sem,seval,-List.reduceReplicate,Bool.cond_false_right,Bool.cond_true_left,beq_gor,beq_chn,zeroGo_at,zeroChan_at]);(repeat' with_reducible refine And.intro ?_ ?_);all_goals first|(refine hR1 _ ?_;clear hR1 R1)|(intro hgf;simp only [hgf];refine hR1 _ ?_;clear hR1 R1)|omega|rfl|decide|assumption|(intro _;omega)|(simp;done)|(simp [-List.getD_eq_getElem?_getD];omega)|exact hcode _|(intro _;exact hcode _)|exact hsl _|(intro _;exact hsl _)))|omega|rfl|decide|assumption|(intro _;omega)|(simp;done)|(simp [-List.getD_eq_getElem?_getD];omega)|exact hcode _|(intro _;exact hcode _)|exact hsl _|(intro _;exact hsl _))
  | ((with_reducible refine SARA.nil ?_);refine hR _ ?_;clear hR R;try simp only [go_sem,lv24,lvOf,Nat.reduceBEq,Option.getD_some])
  | (with_reducible first|refine J1 ?_|refine J2 ?_|refine J3 ?_|refine J4 ?_|refine J5 ?_|refine J6 ?_|refine J7 ?_|refine J8 (by decide) ?_|refine J9 ?_|refine J10 ?_|refine J11 ?_|refine J12 ?_|refine J13 ?_|refine J14 ?_|refine J15 ?_|refine J16 ?_|refine J17 ?_|refine J18 ?_|refine J19 ?_)
  | ((with_reducible refine SA.at 33 ?_)
     have hi4:i=4:=by omega
     subst hi4
     (with_reducible refine J21 ok (by kernel_rfl) lv24 ?_);intro R hR;simp only [go_sem,strip])
  | ((with_reducible refine SA.at 31 ?_)
     have hfr:=chan_from hb117 hb120
     have hfo:=offersV_at s i (g:=(s.chans.getD i default).from_) (by omega) (by omega)
     have hfs:=offersTo_small s (s.chans.getD i default).from_ i
     (with_reducible refine J21 ok (by kernel_rfl) lv24 ?_);intro R hR;simp only [go_sem,strip])
  | ((with_reducible refine SA.at 3 ?_)
     have hr:rightP p=true:=hb28.1.1
     have hok:=Prg.ok hr
     (with_reducible refine J21 ok (by kernel_rfl) lv24 ?_);intro R hR;simp only [go_sem,strip])
  | ((with_reducible refine J21 ok (by kernel_rfl) lv24 ?_);intro R hR;simp only [go_sem,strip])
  | ((with_reducible refine J20 28 rfl (fun hb28=>?_) (fun hb28=>?_))
     all_goals
      try simp [-List.getD_eq_getElem?_getD] at hb28
      try (exfalso;omega))
  | ((with_reducible refine J20 32 rfl (fun hb32=>?_) (fun hb32=>?_))
     all_goals
      try simp [-List.getD_eq_getElem?_getD] at hb32
      try (exfalso;omega))
  | ((with_reducible refine J20 43 rfl (fun hb43=>?_) (fun hb43=>?_))
     all_goals
      try simp [-List.getD_eq_getElem?_getD] at hb43
      try (exfalso;omega))
  | ((with_reducible refine J20 48 rfl (fun hb48=>?_) (fun hb48=>?_))
     all_goals
      try simp [-List.getD_eq_getElem?_getD] at hb48
      try (exfalso;omega))
  | ((with_reducible refine J20 68 rfl (fun hb68=>?_) (fun hb68=>?_))
     all_goals
      try simp [-List.getD_eq_getElem?_getD] at hb68
      try (exfalso;omega))
  | ((with_reducible refine J20 73 rfl (fun hb73=>?_) (fun hb73=>?_))
     all_goals
      try simp [-List.getD_eq_getElem?_getD] at hb73
      try (exfalso;omega))
  | ((with_reducible refine J20 96 rfl (fun hb96=>?_) (fun hb96=>?_))
     all_goals
      try simp [-List.getD_eq_getElem?_getD] at hb96
      try (exfalso;omega))
  | ((with_reducible refine J20 102 rfl (fun hb102=>?_) (fun hb102=>?_))
     all_goals
      try simp [-List.getD_eq_getElem?_getD] at hb102
      try (exfalso;omega))
  | ((with_reducible refine J20 109 rfl (fun hb109=>?_) (fun hb109=>?_))
     all_goals
      try simp [-List.getD_eq_getElem?_getD] at hb109
      try (exfalso;omega))
  | ((with_reducible refine J20 112 rfl (fun hb112=>?_) (fun hb112=>?_))
     all_goals
      try simp [-List.getD_eq_getElem?_getD] at hb112
      try (exfalso;omega))
  | ((with_reducible refine J20 117 rfl (fun hb117=>?_) (fun hb117=>?_))
     all_goals
      try simp [-List.getD_eq_getElem?_getD] at hb117
      try (exfalso;omega))
  | ((with_reducible refine J20 120 rfl (fun hb120=>?_) (fun hb120=>?_))
     all_goals
      try simp [-List.getD_eq_getElem?_getD] at hb120
      try (exfalso;omega))
  | ((with_reducible refine J20 131 rfl (fun hb131=>?_) (fun hb131=>?_))
     all_goals
      try simp [-List.getD_eq_getElem?_getD] at hb131
      try (exfalso;omega))
  | ((with_reducible refine J20 142 rfl (fun hb142=>?_) (fun hb142=>?_))
     all_goals
      try simp [-List.getD_eq_getElem?_getD] at hb142
      try (exfalso;omega))
  | ((with_reducible refine SA.atLoop ?_)
     refine SA.weaken (St.le.of_eq (by first|rfl|(simp;done)|fail)) (SA.loop (fun n τ=>∃ (i:Nat),n=8-i∧(i≤8∧∀ k:Nat,k<i→p.vars.length≤k→s.vars.getD k 0=0)∧τ={ tm:=[(2,true,.ptr 0 [] 26),(3,true,.ptr 1 [] 37),(30,true,.data 27 (.agg (s.vars.map V.int))),(31,true,.int .i64 i)],ob:=[.var 26 (.data 26 p.v),.var 37 (.data 37 s.v)],out:=[],nt:=144 }) (8) ⟨0,rfl,⟨by omega,fun k h=>by omega⟩,rfl⟩ ?_)
     rintro n τ ⟨i,hn,⟨hi,hz⟩,rfl⟩)
  | ((with_reducible refine SA.atLoop ?_)
     refine SA.weaken (St.le.of_eq (by first|rfl|(simp;done)|fail)) (SA.loop (fun n τ=>∃ (i:Nat),n=4-i∧(i≤4∧varsOk p s 8=true∧ownersOk p s i=true)∧τ={ tm:=[(2,true,.ptr 0 [] 26),(3,true,.ptr 1 [] 37),(46,true,.data 28 (.agg (s.owner.map V.int))),(47,true,.int .i64 i)],ob:=[.var 26 (.data 26 p.v),.var 37 (.data 37 s.v)],out:=[],nt:=144 }) (4) ⟨0,rfl,⟨by omega,vars_good (fun k h1 h2=>hz k (by omega) h1),rfl⟩,rfl⟩ ?_)
     rintro n τ ⟨i,hn,⟨hi,hv,ho⟩,rfl⟩)
  | ((with_reducible refine SA.atLoop ?_)
     refine SA.weaken (St.le.of_eq (by first|rfl|(simp;done)|fail)) (SA.loop (fun n τ=>∃ (i:Nat),n=6-i∧(i≤6∧varsOk p s 8=true∧ownersOk p s 4=true∧gorsOk p s i=true)∧τ={ tm:=[(2,true,.ptr 0 [] 26),(3,true,.ptr 1 [] 37),(71,true,.data 35 (.agg (s.gos.map Gor.v))),(72,true,.int .i64 i)],ob:=[.var 26 (.data 26 p.v),.var 37 (.data 37 s.v)],out:=[],nt:=144 }) (6) ⟨0,rfl,⟨by omega,hv,(show i=4 by omega)▸ho,rfl⟩,rfl⟩ ?_)
     rintro n τ ⟨i,hn,⟨hi,hv,ho,hg⟩,rfl⟩)
  | ((with_reducible refine SA.atLoop ?_)
     refine SA.weaken (St.le.of_eq (by first|rfl|(simp;done)|fail)) (SA.loop (fun n τ=>∃ (i:Nat),n=4-i∧(i≤4∧varsOk p s 8=true∧ownersOk p s 4=true∧gorsOk p s 6=true∧chansOk p s i=true)∧τ={ tm:=[(2,true,.ptr 0 [] 26),(3,true,.ptr 1 [] 37),(11,true,.ptr 2 [] 149),(100,true,.data 32 (.agg (s.chans.map Chn.v))),(101,true,.int .i64 i)],ob:=[.var 26 (.data 26 p.v),.var 37 (.data 37 s.v),.var 149 (.data 149 (.agg ((offersV s i).map V.int)))],out:=[],nt:=144 }) (4) ⟨0,rfl,⟨by omega,hv,ho,(show i=6 by omega)▸hg,rfl⟩,rfl⟩ ?_)
     rintro n τ ⟨i,hn,⟨hi,hv,ho,hg,hc⟩,rfl⟩)
  | ((with_reducible refine SA.atLoop ?_)
     refine SA.weaken (St.le.of_eq (by first|rfl|(simp;done)|fail)) (SA.loop (fun n τ=>∃ (i:Nat),n=6-i∧(i≤6∧varsOk p s 8=true∧ownersOk p s 4=true∧gorsOk p s 6=true∧chansOk p s 4=true∧waitsOk s i=true)∧τ={ tm:=[(11,true,.ptr 2 [] 149),(129,true,.data 35 (.agg (s.gos.map Gor.v))),(130,true,.int .i64 i)],ob:=[.var 26 (.data 26 p.v),.var 37 (.data 37 s.v),.var 149 (.data 149 (.agg ((offersV s 4).map V.int)))],out:=[],nt:=144 }) (6) ⟨0,rfl,⟨by omega,hv,ho,hg,hc,rfl⟩,rfl⟩ ?_)
     rintro n τ ⟨i,hn,⟨hi,hv,ho,hg,hc,hw4⟩,rfl⟩)
  | ((with_reducible refine loopK.round ?_)
     first
      | (have hlt:i<8:=by omega
         have hw:=wrap_succ (n:=i) (m:=256) (by omega) (by decide)
         refine loopK.normal (8-(i+1)) _ (by omega) (St.le.of_eq (by simp only [hw])) ⟨i+1,rfl,⟨hlt,fun k h1 h2=>?_⟩,rfl⟩
         by_cases h3:k<i
         · exact hz k h3 h2
         · have h4:k=i:=by omega
           rw [h4] at h2 ⊢
           exact hb43 (by omega))
      | (have hlt:i<4:=by omega
         have hw:=wrap_succ (n:=i) (m:=256) (by omega) (by decide)
         refine loopK.normal (4-(i+1)) _ (by omega) (St.le.of_eq (by simp only [hw])) ⟨i+1,rfl,⟨hlt,hv,own_succ ho hb68⟩,rfl⟩)
      | (have hlt:i<6:=by omega
         have hw:=wrap_succ (n:=i) (m:=256) (by omega) (by decide)
         refine loopK.normal (6-(i+1)) _ (by omega) ((St.le.cut 2 rfl).trans (St.le.of_eq (by simp only [hw,List.take_succ_cons,List.take_zero]))) ⟨i+1,rfl,⟨hlt,hv,ho,gors_succ hg ⟨hb96.2,hb96.1⟩⟩,rfl⟩)
      | (have q:=hb112
         have hlt:i<4:=by omega
         have hw:=wrap_succ (n:=i) (m:=256) (by omega) (by decide)
         have e:=offersV_miss (s:=s) (i:=i) (zero_offer _ hb112)
         refine loopK.normal (4-(i+1)) _ (by omega) ((St.le.cut 3 rfl).trans (St.le.of_eq (by simp only [hw,e,List.take_succ_cons,List.take_zero]))) ⟨i+1,rfl,⟨hlt,hv,ho,hg,chans_succ hc ⟨fun _=>hb112,fun h=>by omega⟩⟩,rfl⟩)
      | (have q:_=_:=hb120
         have hlt:i<4:=by omega
         have hw:=wrap_succ (n:=i) (m:=256) (by omega) (by decide)
         have e:=offersV_miss (s:=s) (i:=i) hb120
         refine loopK.normal (4-(i+1)) _ (by omega) ((St.le.cut 3 rfl).trans (St.le.of_eq (by simp only [hw,e,List.take_succ_cons,List.take_zero]))) ⟨i+1,rfl,⟨hlt,hv,ho,hg,chans_succ hc ⟨fun h=>by omega,fun _=>hb117⟩⟩,rfl⟩)
      | (have q:¬_=_:=hb120
         have hlt:i<4:=by omega
         have hw:=wrap_succ (n:=i) (m:=256) (by omega) (by decide)
         have hfr:=chan_from hb117 hb120
         have hfs:=offersTo_small s (s.chans.getD i default).from_ i
         have hw2:IntKind.i64.wrap ((offersTo s (s.chans.getD i default).from_ i:Int)+1)=(offersTo s (s.chans.getD i default).from_ i:Int)+1:=wrap64_ok (by omega) (by omega)
         have e:=offersV_hit (s:=s) (i:=i) hb120 hfr.1 (by omega)
         have hfo:=offersV_at s i (g:=(s.chans.getD i default).from_) hfr.1 (by omega)
         refine loopK.normal (4-(i+1)) _ (by omega) ((St.le.cut 3 rfl).trans (St.le.of_eq ?_)) ⟨i+1,rfl,⟨hlt,hv,ho,hg,chans_succ hc ⟨fun h=>by omega,fun _=>hb117⟩⟩,rfl⟩
         simp only [hw,hfo,hw2,set_ints,e,List.take_succ_cons,List.take_zero])
      | (have hlt:i<6:=by omega
         have hw:=wrap_succ (n:=i) (m:=256) (by omega) (by decide)
         refine loopK.normal (6-(i+1)) _ (by omega) ((St.le.cut 3 rfl).trans (St.le.of_eq (by simp only [hw,List.take_succ_cons,List.take_zero]))) ⟨i+1,rfl,⟨hlt,hv,ho,hg,hc,waits_succ hw4 (fun q=>(offersV_nat s hlt).symm.trans (hb142 q))⟩,rfl⟩))
  | ((with_reducible first|refine ctrK.normal ?_|refine ctrK.ret ?_)
     simp only [go_sem,resA,resV,backK,seval]
     first
      | (have q:(_∨_)∨_:=hb28
         refine ⟨rfl,?_⟩
         rw [valid_no (p:=p) (s:=s) (by rcases hb28 with (h|h)|h;exact .inl h;exact .inr (.inl h);exact .inr (.inr (.inl h)))])
      | (have q:_∧_:=hb43
         refine ⟨rfl,?_⟩
         rw [valid_no (p:=p) (s:=s) (.inr (.inr (.inr (.inr (.inl (vars_bad hb43.1 (by omega) hb43.2))))))])
      | (have q:(_∨_)∨_:=hb68
         refine ⟨rfl,?_⟩
         rw [valid_no (p:=p) (s:=s) (.inr (.inr (.inr (.inr (.inr (.inl (own_bad (by omega) hb68)))))))])
      | (have q:_∨_:=hb96
         refine ⟨rfl,?_⟩
         rw [valid_no (p:=p) (s:=s) (.inr (.inr (.inr (.inl (gors_bad (i:=i) (by omega) (by rcases hb96 with h|h;exact .inr h;exact .inl h))))))])
      | (have q:¬_:=hb112
         refine ⟨rfl,?_⟩
         rw [valid_no (p:=p) (s:=s) (.inr (.inr (.inr (.inr (.inr (.inr (.inl (chans_bad (i:=i) (by omega) (.inl ⟨by omega,hb112⟩)))))))))])
      | (have q:_=false:=hb117
         refine ⟨rfl,?_⟩
         rw [valid_no (p:=p) (s:=s) (.inr (.inr (.inr (.inr (.inr (.inr (.inl (chans_bad (i:=i) (by omega) (.inr ⟨by omega,hb117⟩)))))))))])
      | (have q:_∧_:=hb142
         have hci:(i:Int)<s.count:=by
          by_cases h:(i:Int)<s.count
          · exact h
          · have:=List.all_eq_true.1 hg i (List.mem_range.2 (by omega))
            rw [if_neg h] at this
            have:=zero_status _ (of_decide_eq_true this)
            simp only [Stt.gor,Int.toNat_natCast] at this
            omega
         refine ⟨rfl,?_⟩
         rw [valid_no (p:=p) (s:=s) (.inr (.inr (.inr (.inr (.inr (.inr (.inr (waits_bad (n:=s.count.toNat) (i:=i) (by omega) ⟨hb142.1,by rw [← offersV_nat s (by omega)];exact hb142.2⟩))))))))])
      | (have hi6:i=6:=by omega
         subst hi6
         refine ⟨rfl,?_⟩
         rw [valid_yes hr ⟨by omega,by omega⟩ hg hv ho hc (waits_less hw4 (by omega))]))
end Go.Eng.Tryz
