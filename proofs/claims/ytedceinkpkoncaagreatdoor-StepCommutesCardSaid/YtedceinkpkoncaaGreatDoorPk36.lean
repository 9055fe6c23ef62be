/- A part of the proof: walks through the program's functions, and what they compute. -/
import Derived.Test.YtedceinkpkoncaaGreatDoorPk34
import Derived.Test.YtedceinkpkoncaaGreatDoorPk33
import Derived.Test.YtedceinkpkoncaaGreatDoorPk35
set_option linter.unusedSimpArgs false
set_option linter.unusedVariables false
namespace Go.Eng.Tryz
open Go.RowKit Go.Eng
set_option maxHeartbeats 0
set_option maxRecDepth 20000
theorem one_touch {p:Prg} {s:Stt} {g:Int} (hr:rightP p=true) (hv:Vld p s) (h:oneErr p s g=0):(touch p s g).length≤maxLen:=by
 have h1:=one_zero h
 exact Nat.le_trans (touch_ok (Prg.ok hr) (hv.wf (Prg.ok hr) hr) ⟨h1.2.1.1,liveB_count hv h1.2.1.1 h1.2.1.2 h1.2.2⟩).2.2 (by decide)
theorem apartB_ok {p:Prg} {s:Stt} {g h:Int} (hg1:oneErr p s g=0) (hg2:oneErr p s h=0):apartB p s g h=!clashL (touch p s g) (touch p s h):=by simp [apartB,hg1,hg2]
attribute [go_sem] caseV0 caseV1 caseV2 caseV3
def lv21:List (Nat × List Nat):=[(0,[1]),(1,[2])]
theorem lfit_ctr (p:Prg) (s:Stt) (x:Pck) (fuel:Int) (hp:p.Fit) (hs:s.Shape):Ctr Go.Proofs.Tryz.prog tab 21 [41] [4] [caseV p s x fuel] [.bool (rightP p&&validP p s)]:=by
 have hpp:=hp
 have hfit:=hp
 have hcode:=p.code_len hp
 have hsl:=p.sels_len hp
 obtain ⟨hp1,hp2,hp3,hp4⟩:=hp
 refine Ctr.body ok Go.Proofs.Tryz.func21 rfl rfl 13 rfl [.tmp 2] rfl (by simp [fromVs]) ?_
 simp only [fromVs,fromV,args0,V.toList_list,V.toInt_int,V.toBool_bool,Nat.zero_add,Nat.reduceAdd,ty41]
 repeat' first
  | ((with_reducible refine SARA.do fun R1 hR1=>?_);(simp only [go_sem,seval,-List.reduceReplicate,Bool.cond_false_right,Bool.cond_true_left,decide_true,decide_false,Bool.not_true,Bool.not_false]);(repeat' with_reducible refine And.intro ?_ ?_);all_goals first|(refine hR1 _ ?_;clear hR1 R1)|((first|refine cq (cc (right_ctr p hpp) (by first|rfl|(simp [go_sem,ty64,ty23,ty60,List.take_of_length_le,List.length_map];done)|fail)) ?_|refine ⟨_,_,rfl,.inl ⟨_,fun hg=>CallQ.ctr ok (right_ctr p hpp) (by first|rfl|(simp [go_sem,ty64,ty23,ty60,List.take_of_length_le,List.length_map];done)|fail) rfl,?_⟩⟩|refine cq (cc (valid_ctr p s hpp hs) (by first|rfl|(simp [go_sem,ty64,ty23,ty60,List.take_of_length_le,List.length_map];done)|fail)) ?_|refine ⟨_,_,rfl,.inl ⟨_,fun hg=>CallQ.ctr ok (valid_ctr p s hpp hs) (by first|rfl|(simp [go_sem,ty64,ty23,ty60,List.take_of_length_le,List.length_map];done)|fail) rfl,?_⟩⟩);all_goals ((try simp only [go_sem,seval,-List.reduceReplicate,Bool.cond_false_right,Bool.cond_true_left,decide_true,decide_false,Bool.not_true,Bool.not_false]);(repeat' with_reducible refine And.intro ?_ ?_);all_goals first|(refine hR1 _ ?_;clear hR1 R1)|omega|rfl|decide|assumption|(intro _;omega)|(simp;done)|(simp [-List.getD_eq_getElem?_getD];omega)|exact hcode _|(intro _;exact hcode _)|exact hsl _|(intro _;exact hsl _)|(simp [-List.getD_eq_getElem?_getD,roomFor,maxLen,by3,by39,by45,by48,by37];omega)|(simp [-List.getD_eq_getElem?_getD,roomFor,maxLen,by3,by39,by45,by48,by37];done)))|omega|rfl|decide|assumption|(intro _;omega)|(simp;done)|(simp [-List.getD_eq_getElem?_getD];omega)|exact hcode _|(intro _;exact hcode _)|exact hsl _|(intro _;exact hsl _)|(simp [-List.getD_eq_getElem?_getD,roomFor,maxLen,by3,by39,by45,by48,by37];omega)|(simp [-List.getD_eq_getElem?_getD,roomFor,maxLen,by3,by39,by45,by48,by37];done))
  | ((with_reducible refine SARA.nil ?_);refine hR _ ?_;clear hR R;try simp only [go_sem,lv21,lvOf,Nat.reduceBEq,Option.getD_some])
  | (with_reducible first|refine J1 ?_|refine J2 ?_|refine J3 ?_|refine J4 ?_|refine J5 ?_|refine J6 ?_|refine J7 ?_|refine J8 (by decide) ?_|refine J9 ?_|refine J10 ?_|refine J11 ?_|refine J12 ?_|refine J13 ?_|refine J14 ?_|refine J15 ?_|refine J16 ?_|refine J17 ?_|refine J18 ?_|refine J19 ?_)
  | ((with_reducible refine J21 ok (by kernel_rfl) lv21 ?_);intro R hR;simp only [go_sem,strip])
  | ((with_reducible first|refine ctrK.normal ?_|refine ctrK.ret ?_)
     simp only [go_sem,resA,resV,backK,seval]
     first
      | (exact ⟨rfl,rfl⟩)
      | (rfl)
      | (refine ⟨rfl,?_⟩
         cases rightP p<;>cases validP p s<;>rfl))
def lv25:List (Nat × List Nat):=[(0,[1,2,3]),(1,[1,2,3,7]),(2,[1,2,3,7,15]),(3,[1,2,3,7]),(4,[1,2,3,7,33]),(5,[6]),(6,[6])]
theorem touched_ctr (e:Event) (k m:Int) (h6:e.touch.length=6):Ctr Go.Proofs.Tryz.prog tab 25 [48,3,3] [4] [e.v,.int k,.int m] [.bool (touchedB e k m)]:=by
 have hcode:True→True:=id
 have hsl:True→True:=id
 refine Ctr.body ok Go.Proofs.Tryz.func25 rfl rfl 34 rfl [.tmp 6] rfl (by simp [fromVs]) ?_
 simp only [fromVs,fromV,args0,V.toList_list,V.toInt_int,V.toBool_bool,Nat.zero_add,Nat.reduceAdd,ty3,ty48]
 repeat' first
  | ((with_reducible refine SARA.do fun R1 hR1=>?_);(simp only [go_sem,seval,-List.reduceReplicate,Bool.cond_false_right,Bool.cond_true_left,decide_true,decide_false,Bool.not_true,Bool.not_false]);(repeat' with_reducible refine And.intro ?_ ?_);all_goals first|(refine hR1 _ ?_;clear hR1 R1)|omega|rfl|decide|assumption|(intro _;omega)|(simp;done)|(simp [-List.getD_eq_getElem?_getD];omega)|exact hcode _|(intro _;exact hcode _)|exact hsl _|(intro _;exact hsl _)|(simp [-List.getD_eq_getElem?_getD,roomFor,maxLen,by3,by39,by45,by48,by37];omega)|(simp [-List.getD_eq_getElem?_getD,roomFor,maxLen,by3,by39,by45,by48,by37];done))
  | ((with_reducible refine SARA.nil ?_);refine hR _ ?_;clear hR R;try simp only [go_sem,lv25,lvOf,Nat.reduceBEq,Option.getD_some])
  | (with_reducible first|refine J1 ?_|refine J2 ?_|refine J3 ?_|refine J4 ?_|refine J5 ?_|refine J6 ?_|refine J7 ?_|refine J8 (by decide) ?_|refine J9 ?_|refine J10 ?_|refine J11 ?_|refine J12 ?_|refine J13 ?_|refine J14 ?_|refine J15 ?_|refine J16 ?_|refine J17 ?_|refine J18 ?_|refine J19 ?_)
  | ((with_reducible refine SA.at 4 ?_)
     have hAt:=getD_map Access.v e.touch (i:=i) (by omega)
     (with_reducible refine J21 ok (by kernel_rfl) lv25 ?_);intro R hR;simp only [go_sem,strip])
  | ((with_reducible refine J21 ok (by kernel_rfl) lv25 ?_);intro R hR;simp only [go_sem,strip])
  | ((with_reducible refine J20 15 rfl (fun hb15=>?_) (fun hb15=>?_))
     all_goals
      try simp [-List.getD_eq_getElem?_getD] at hb15
      try (exfalso;omega))
  | ((with_reducible refine J20 33 rfl (fun hb33=>?_) (fun hb33=>?_))
     all_goals
      simp [-List.getD_eq_getElem?_getD] at hb33
      simp only [hAt,Access.v0,Access.v1,V.toInt_int] at hb33)
  | ((with_reducible refine SA.atLoop ?_)
     refine SA.weaken (St.le.of_eq (by first|rfl|(simp;done)|fail)) (SA.loop (fun n τ=>∃ (i:Nat),n=6-i∧(i≤6∧∀ j:Nat,j<i→¬((e.touch.getD j default).kind=k∧(e.touch.getD j default).num=m))∧τ={ tm:=[(1,true,.int .i64 k),(2,true,.int .i64 m),(3,true,.ptr 0 [] 48),(7,true,.int .i64 i)],ob:=[.var 48 (.data 48 e.v)],out:=[],nt:=34 }) (6) ⟨0,rfl,⟨by omega,fun j h=>by omega⟩,rfl⟩ ?_)
     rintro n τ ⟨i,hn,⟨hi,hz⟩,rfl⟩)
  | ((with_reducible refine loopK.round ?_)
     first
      | (have hlt:i<6:=by omega
         have hw:=wrap_succ (n:=i) (m:=256) (by omega) (by decide)
         refine loopK.normal (6-(i+1)) _ (by omega) (St.le.of_eq (by simp only [hw])) ⟨i+1,rfl,⟨hlt,fun j h=>?_⟩,rfl⟩
         by_cases h2:j<i
         · exact hz j h2
         · have h3:j=i:=by omega
           rw [h3];exact fun q=>hb33 q.1 q.2))
  | ((with_reducible first|refine ctrK.normal ?_|refine ctrK.ret ?_)
     simp only [go_sem,resA,resV,backK,seval]
     first
      | (have q:_∧_:=hb33
         refine ⟨rfl,?_⟩
         rw [touched_hit ⟨hb15.1,by omega⟩ hb33.1 hb33.2])
      | (refine ⟨rfl,?_⟩
         rw [touched_miss hz (fun q=>by have:=hb15 q;omega)]))
def lv32:List (Nat × List Nat):=[(0,[0,1]),(1,[0,1,5]),(2,[0,1,5,10]),(3,[0,1,5]),(4,[0,1,5,6]),(5,[0,1,5,6,16]),(6,[0,1,5,6]),(7,[0,1,5,6,56]),(8,[4]),(9,[4])]
theorem lclash_ctr (a b:List Access) (ha:a.length≤maxLen) (hb:b.length≤maxLen):Ctr Go.Proofs.Tryz.prog tab 32 [60,60] [4] [.list (a.map Access.v),.list (b.map Access.v)] [.bool (clashL a b)]:=by
 have hcode:True→True:=id
 have hsl:True→True:=id
 refine Ctr.body ok Go.Proofs.Tryz.func32 rfl rfl 57 rfl [.tmp 4] rfl (by simp [fromVs]) ?_
 simp only [fromVs,fromV,args0,V.toList_list,V.toInt_int,V.toBool_bool,Nat.zero_add,Nat.reduceAdd,ty60]
 repeat' first
  | ((with_reducible refine SARQ.told 7 _ ?_);try simp only [hAt,hBt])
  | ((with_reducible first|refine SARA.do fun R1 hR1=>?_|refine SARQ.do fun R1 hR1=>?_);(simp only [go_sem,seval,-List.reduceReplicate,Bool.cond_false_right,Bool.cond_true_left,decide_true,decide_false,Bool.not_true,Bool.not_false]);(repeat' with_reducible refine And.intro ?_ ?_);all_goals first|(refine hR1 _ ?_;clear hR1 R1)|omega|rfl|decide|assumption|(intro _;omega)|(simp;done)|(simp [-List.getD_eq_getElem?_getD];omega)|exact hcode _|(intro _;exact hcode _)|exact hsl _|(intro _;exact hsl _)|(simp [-List.getD_eq_getElem?_getD,roomFor,maxLen,by3,by39,by45,by48,by37];omega)|(simp [-List.getD_eq_getElem?_getD,roomFor,maxLen,by3,by39,by45,by48,by37];done))
  | ((with_reducible refine SARA.nil ?_);refine hR _ ?_;clear hR R;try simp only [go_sem,lv32,lvOf,Nat.reduceBEq,Option.getD_some])
  | ((with_reducible refine SARQ.nil ?_);refine hR _ ?_;clear hR R;try simp only [go_sem,lv32,lvOf,Nat.reduceBEq,Option.getD_some])
  | (with_reducible first|refine J1 ?_|refine J2 ?_|refine J3 ?_|refine J4 ?_|refine J5 ?_|refine J6 ?_|refine J7 ?_|refine J8 (by decide) ?_|refine J9 ?_|refine J10 ?_|refine J11 ?_|refine J12 ?_|refine J13 ?_|refine J14 ?_|refine J15 ?_|refine J16 ?_|refine J17 ?_|refine J18 ?_|refine J19 ?_)
  | ((with_reducible refine SA.at 7 ?_)
     have hAt:=getD_map Access.v a (i:=i) (by omega)
     have hBt:=getD_map Access.v b (i:=k) (by omega)
     (with_reducible refine SA.regionD ok mixed (by kernel_rfl) (by kernel_rfl) lv32 ?_);intro R hR;simp only [go_sem,strip])
  | ((with_reducible refine J21 ok (by kernel_rfl) lv32 ?_);intro R hR;simp only [go_sem,strip])
  | ((with_reducible refine SA.regionD ok mixed (by kernel_rfl) (by kernel_rfl) lv32 ?_);intro R hR;simp only [go_sem,strip])
  | ((with_reducible refine J20 10 rfl (fun hb10=>?_) (fun hb10=>?_))
     all_goals
      try simp [-List.getD_eq_getElem?_getD] at hb10
      try (exfalso;omega))
  | ((with_reducible refine J20 16 rfl (fun hb16=>?_) (fun hb16=>?_))
     all_goals
      try simp [-List.getD_eq_getElem?_getD] at hb16
      try (exfalso;omega))
  | ((with_reducible refine J20 56 rfl (fun hb56=>?_) (fun hb56=>?_))
     all_goals
      skip)
  | ((with_reducible refine SA.atLoop ?_)
     refine SA.weaken (St.le.of_eq (by first|rfl|(simp;done)|fail)) (SA.loop (fun n τ=>∃ (i:Nat),n=a.length-i∧(i≤a.length∧∀ j:Nat,j<i→∀ m:Nat,m<b.length→clashA (a.getD j default) (b.getD m default)=false)∧τ={ tm:=[(0,true,.fs 45 (a.map Access.v) false),(1,true,.fs 45 (b.map Access.v) false),(5,true,.int .i64 i)],ob:=[],out:=[],nt:=57 }) (a.length) ⟨0,rfl,⟨by omega,fun j h=>by omega⟩,rfl⟩ ?_)
     rintro n τ ⟨i,hn,⟨hi,hz⟩,rfl⟩)
  | ((with_reducible refine SA.atLoop ?_)
     refine SA.weaken (St.le.of_eq (by first|rfl|(simp;done)|fail)) (SA.loop (fun n τ=>∃ (k:Nat),n=b.length-k∧(k≤b.length∧∀ m:Nat,m<k→clashA (a.getD i default) (b.getD m default)=false)∧τ={ tm:=[(0,true,.fs 45 (a.map Access.v) false),(1,true,.fs 45 (b.map Access.v) false),(5,true,.int .i64 i),(6,true,.int .i64 k)],ob:=[],out:=[],nt:=57 }) (b.length) ⟨0,rfl,⟨by omega,fun j h=>by omega⟩,rfl⟩ ?_)
     rintro n τ ⟨k,hn,⟨hk,hy⟩,rfl⟩)
  | ((with_reducible refine loopK.round ?_)
     first
      | (have hlt:i<a.length:=by omega
         have hw:=wrap_succ hlt ha
         refine loopK.normal (a.length-(i+1)) _ (by omega) (St.le.of_eq (by simp only [hw])) ⟨i+1,rfl,⟨hlt,fun j h m hm=>?_⟩,rfl⟩
         by_cases h2:j<i
         · exact hz j h2 m hm
         · have h3:j=i:=by omega
           rw [h3];exact hy m (by omega))
      | (have hlt:k<b.length:=by omega
         have hw:=wrap_succ hlt hb
         refine loopK.normal (b.length-(k+1)) _ (by omega) (St.le.of_eq (by simp only [hw])) ⟨k+1,rfl,⟨hlt,fun j h=>?_⟩,rfl⟩
         by_cases h2:j<k
         · exact hy j h2
         · have h3:j=k:=by omega
           rw [h3];exact hb56))
  | ((with_reducible first|refine ctrK.normal ?_|refine ctrK.ret ?_)
     simp only [go_sem,resA,resV,backK,seval]
     first
      | (have q:_=true:=hb56
         refine ⟨rfl,?_⟩
         rw [clash_hit (i:=i) (k:=k) (by omega) (by omega) hb56])
      | (refine ⟨rfl,?_⟩
         rw [clash_miss (fun j h=>hz j (by omega))]))
def lv27:List (Nat × List Nat):=[(0,[2,3,4,5]),(1,[3,4,5,9,10]),(2,[9,10,11,12]),(3,[8])]
theorem apart_ctr (p:Prg) (s:Stt) (g h:Int) (hp:p.Fit) (hs:s.Shape) (hr:rightP p=true) (hv:Vld p s):Ctr Go.Proofs.Tryz.prog tab 27 [26,37,3,3] [4] [p.v,s.v,.int g,.int h] [.bool (apartB p s g h)]:=by
 have hpp:=hp
 have hfit:=hp
 have hcode:=p.code_len hp
 have hsl:=p.sels_len hp
 obtain ⟨hp1,hp2,hp3,hp4⟩:=hp
 refine Ctr.body ok Go.Proofs.Tryz.func27 rfl rfl 39 rfl [.tmp 8] rfl (by simp [fromVs]) ?_
 simp only [fromVs,fromV,args0,V.toList_list,V.toInt_int,V.toBool_bool,Nat.zero_add,Nat.reduceAdd,ty3,ty26,ty37]
 repeat' first
  | ((with_reducible refine SARA.told 3 7 ?_)
     rcases Bool.eq_false_or_eq_true (decide (oneErr p s g=0)&&decide (oneErr p s h=0)) with hgo|hgo<;>simp only [hgo]
     first|(simp only [Bool.and_eq_true,decide_eq_true_eq] at hgo;obtain ⟨hg1,hg2⟩:=hgo;have hgl:=one_touch hr hv hg1;have hhl:=one_touch hr hv hg2;have hAB:=apartB_ok hg1 hg2;simp only [if_pos hg1,if_pos hg2];generalize touch p s g=TA at *;generalize touch p s h=TB at *)|skip)
  | ((with_reducible refine SARA.do fun R1 hR1=>?_);(simp only [go_sem,seval,-List.reduceReplicate,Bool.cond_false_right,Bool.cond_true_left,decide_true,decide_false,Bool.not_true,Bool.not_false]);(repeat' with_reducible refine And.intro ?_ ?_);all_goals first|(refine hR1 _ ?_;clear hR1 R1)|(intro hgf;simp only [hgf];refine hR1 _ ?_;clear hR1 R1)|((first|refine ce (cf (pTouch_ctr p s g hpp hs) ?_ (by first|rfl|(simp [go_sem,ty64,ty23,ty60,List.take_of_length_le,List.length_map];done)|fail))|refine ⟨_,_,rfl,.inr ⟨fun _=>CallE.ctr ok (pTouch_ctr p s g hpp hs) (by first|rfl|(simp [go_sem,ty64,ty23,ty60,List.take_of_length_le,List.length_map];done)|fail) ?_,?_⟩⟩|refine ce (cf (pTouch_ctr p s h hpp hs) ?_ (by first|rfl|(simp [go_sem,ty64,ty23,ty60,List.take_of_length_le,List.length_map];done)|fail))|refine ⟨_,_,rfl,.inr ⟨fun _=>CallE.ctr ok (pTouch_ctr p s h hpp hs) (by first|rfl|(simp [go_sem,ty64,ty23,ty60,List.take_of_length_le,List.length_map];done)|fail) ?_,?_⟩⟩|refine cq (cc (lclash_ctr _ _ hgl hhl) (by first|rfl|(simp [go_sem,ty64,ty23,ty60,List.take_of_length_le,List.length_map];done)|fail)) ?_|refine ⟨_,_,rfl,.inl ⟨_,fun hg=>CallQ.ctr ok (lclash_ctr _ _ hgl hhl) (by first|rfl|(simp [go_sem,ty64,ty23,ty60,List.take_of_length_le,List.length_map];done)|fail) rfl,?_⟩⟩|refine ⟨_,_,rfl,.inl ⟨.bool false,?_⟩⟩);all_goals ((try simp only [go_sem,seval,-List.reduceReplicate,Bool.cond_false_right,Bool.cond_true_left,decide_true,decide_false,Bool.not_true,Bool.not_false]);(repeat' with_reducible refine And.intro ?_ ?_);all_goals first|(refine hR1 _ ?_;clear hR1 R1)|(intro hgf;simp only [hgf];refine hR1 _ ?_;clear hR1 R1)|omega|rfl|decide|assumption|(intro _;omega)|(simp;done)|(simp [-List.getD_eq_getElem?_getD];omega)|exact hcode _|(intro _;exact hcode _)|exact hsl _|(intro _;exact hsl _)|(simp [-List.getD_eq_getElem?_getD,roomFor,maxLen,by3,by39,by45,by48,by37];omega)|(simp [-List.getD_eq_getElem?_getD,roomFor,maxLen,by3,by39,by45,by48,by37];done)))|omega|rfl|decide|assumption|(intro _;omega)|(simp;done)|(simp [-List.getD_eq_getElem?_getD];omega)|exact hcode _|(intro _;exact hcode _)|exact hsl _|(intro _;exact hsl _)|(simp [-List.getD_eq_getElem?_getD,roomFor,maxLen,by3,by39,by45,by48,by37];omega)|(simp [-List.getD_eq_getElem?_getD,roomFor,maxLen,by3,by39,by45,by48,by37];done))
  | ((with_reducible refine SARA.nil ?_);refine hR _ ?_;clear hR R;try simp only [go_sem,lv27,lvOf,Nat.reduceBEq,Option.getD_some])
  | (with_reducible first|refine J1 ?_|refine J2 ?_|refine J3 ?_|refine J4 ?_|refine J5 ?_|refine J6 ?_|refine J7 ?_|refine J8 (by decide) ?_|refine J9 ?_|refine J10 ?_|refine J11 ?_|refine J12 ?_|refine J13 ?_|refine J14 ?_|refine J15 ?_|refine J16 ?_|refine J17 ?_|refine J18 ?_|refine J19 ?_)
  | ((with_reducible refine J21 ok (by kernel_rfl) lv27 ?_);intro R hR;simp only [go_sem,strip])
  | ((with_reducible first|refine ctrK.normal ?_|refine ctrK.ret ?_)
     simp only [go_sem,resA,resV,backK,seval]
     first
      | (have q:=hg1
         refine ⟨rfl,?_⟩
         rw [hAB])
      | (have q:_=false:=hgo
         refine ⟨rfl,?_⟩
         unfold apartB
         rw [hgo]
         rfl))
def lv28:List (Nat × List Nat):=[(0,[4,5,6,7,8,10,11,12]),(1,[4,5,8,10,11,12,14,15,16]),(2,[10,11,12,15,16,17,18,19]),(3,[10,11,12,13])]
theorem both_ctr' {p:Prg} {s t u:Stt} {x y:Pck} {fuel:Int} {a b:Event} {e f:Int} (c1:Ctr Go.Proofs.Tryz.prog tab 15 [26,37,39,3] [37,48,49] [p.v,s.v,x.v,.int fuel] [t.v,a.v,.int e]) (c2:Ctr Go.Proofs.Tryz.prog tab 15 [26,37,39,3] [37,48,49] [p.v,t.v,y.v,.int fuel] [u.v,b.v,.int f]):Ctr Go.Proofs.Tryz.prog tab 28 [26,37,39,39,3] [37,48,48,4] [p.v,s.v,x.v,y.v,.int fuel] [u.v,a.v,b.v,.bool (decide (e=0)&&decide (f=0))]:=by
 have hcode:True→True:=id
 have hsl:True→True:=id
 refine Ctr.body ok Go.Proofs.Tryz.func28 rfl rfl 47 rfl [.cell 10 37,.cell 11 48,.cell 12 48,.tmp 13] rfl (by simp [fromVs]) ?_
 simp only [fromVs,fromV,args0,V.toList_list,V.toInt_int,V.toBool_bool,Nat.zero_add,Nat.reduceAdd,ty3,ty26,ty37,ty39]
 repeat' first
  | ((with_reducible first|refine SARA.do fun R1 hR1=>?_|refine SART.do fun R1 hR1=>?_|refine SARB.keep fun R1 hR1=>?_|refine SARB.any fun R1 hR1=>?_);(simp only [go_sem,seval,-List.reduceReplicate,Bool.cond_false_right,Bool.cond_true_left,decide_true,decide_false,Bool.not_true,Bool.not_false,zeroEvent_at,zeroState_at]);(repeat' with_reducible refine And.intro ?_ ?_);all_goals first|(refine hR1 _ ?_;clear hR1 R1)|((first|refine ce (cf (c1) ?_ (by first|rfl|(simp [go_sem,ty64,ty23,ty60,List.take_of_length_le,List.length_map];done)|fail))|refine ce (cf (c2) ?_ (by first|rfl|(simp [go_sem,ty64,ty23,ty60,List.take_of_length_le,List.length_map];done)|fail)));all_goals ((try simp only [go_sem,seval,-List.reduceReplicate,Bool.cond_false_right,Bool.cond_true_left,decide_true,decide_false,Bool.not_true,Bool.not_false,zeroEvent_at,zeroState_at]);(repeat' with_reducible refine And.intro ?_ ?_);all_goals first|(refine hR1 _ ?_;clear hR1 R1)|omega|rfl|decide|assumption|(intro _;omega)|(simp;done)|(simp [-List.getD_eq_getElem?_getD];omega)|exact hcode _|(intro _;exact hcode _)|exact hsl _|(intro _;exact hsl _)|(simp [-List.getD_eq_getElem?_getD,roomFor,maxLen,by3,by39,by45,by48,by37];omega)|(simp [-List.getD_eq_getElem?_getD,roomFor,maxLen,by3,by39,by45,by48,by37];done)))|omega|rfl|decide|assumption|(intro _;omega)|(simp;done)|(simp [-List.getD_eq_getElem?_getD];omega)|exact hcode _|(intro _;exact hcode _)|exact hsl _|(intro _;exact hsl _)|(simp [-List.getD_eq_getElem?_getD,roomFor,maxLen,by3,by39,by45,by48,by37];omega)|(simp [-List.getD_eq_getElem?_getD,roomFor,maxLen,by3,by39,by45,by48,by37];done))
  | ((with_reducible refine SART.doneAt 3 ?_);refine hR _ ?_;clear hR R;try simp only [go_sem,lv28,lvOf,Nat.reduceBEq,Option.getD_some]
     exact St.le.of_eq rfl)
  | ((with_reducible refine SART.done ?_);refine hR _ ?_;clear hR R;try simp only [go_sem,lv28,lvOf,Nat.reduceBEq,Option.getD_some])
  | (with_reducible first|refine SART.br ?_ ?_|exact SARL.nil|refine SARL.cons ?_ ?_)
  | ((with_reducible refine SARA.nil ?_);refine hR _ ?_;clear hR R;try simp only [go_sem,lv28,lvOf,Nat.reduceBEq,Option.getD_some])
  | (with_reducible first|refine J1 ?_|refine J2 ?_|refine J3 ?_|refine J4 ?_|refine J5 ?_|refine J6 ?_|refine J7 ?_|refine J8 (by decide) ?_|refine J9 ?_|refine J10 ?_|refine J11 ?_|refine J12 ?_|refine J13 ?_|refine J14 ?_|refine J15 ?_|refine J16 ?_|refine J17 ?_|refine J18 ?_|refine J19 ?_)
  | ((with_reducible refine SA.at 3 ?_)
     refine SA.regionTP ok mixed (.take 0 (.take 3 (.take 4 (.take 5 (.br 1 (.br 2 (.br 6 (.br 7 (.br 8 (.br 9 (.br 10 (.br 11 (.take 12 .done) .nil) .nil) .nil) (.br 9 (.br 8 (.br 10 (.br 11 (.take 12 .done) .nil) .nil) (.br 10 (.br 8 (.br 11 (.take 12 .done) .nil) (.br 11 (.take 8 (.take 12 .done)) .nil)) .nil)) .nil)) (.br 9 (.br 7 (.br 8 (.br 10 (.br 11 (.take 12 .done) .nil) .nil) (.br 10 (.br 8 (.br 11 (.take 12 .done) .nil) (.br 11 (.take 8 (.take 12 .done)) .nil)) .nil)) (.br 10 (.br 7 (.br 8 (.br 11 (.take 12 .done) .nil) (.br 11 (.take 8 (.take 12 .done)) .nil)) (.br 11 (.take 7 (.take 8 (.take 12 .done))) .nil)) .nil)) .nil)) (.br 9 (.br 6 (.br 7 (.br 8 (.br 10 (.br 11 (.take 12 .done) .nil) .nil) (.br 10 (.br 8 (.br 11 (.take 12 .done) .nil) (.br 11 (.take 8 (.take 12 .done)) .nil)) .nil)) (.br 10 (.br 7 (.br 8 (.br 11 (.take 12 .done) .nil) (.br 11 (.take 8 (.take 12 .done)) .nil)) (.br 11 (.take 7 (.take 8 (.take 12 .done))) .nil)) .nil)) (.br 10 (.br 6 (.br 7 (.br 8 (.br 11 (.take 12 .done) .nil) (.br 11 (.take 8 (.take 12 .done)) .nil)) (.br 11 (.take 7 (.take 8 (.take 12 .done))) .nil)) (.br 11 (.take 6 (.take 7 (.take 8 (.take 12 .done)))) .nil)) .nil)) .nil)) (.br 6 (.br 2 (.br 7 (.br 8 (.br 9 (.br 10 (.br 11 (.take 12 .done) .nil) .nil) .nil) (.br 9 (.br 8 (.br 10 (.br 11 (.take 12 .done) .nil) .nil) (.br 10 (.br 8 (.br 11 (.take 12 .done) .nil) (.br 11 (.take 8 (.take 12 .done)) .nil)) .nil)) .nil)) (.br 9 (.br 7 (.br 8 (.br 10 (.br 11 (.take 12 .done) .nil) .nil) (.br 10 (.br 8 (.br 11 (.take 12 .done) .nil) (.br 11 (.take 8 (.take 12 .done)) .nil)) .nil)) (.br 10 (.br 7 (.br 8 (.br 11 (.take 12 .done) .nil) (.br 11 (.take 8 (.take 12 .done)) .nil)) (.br 11 (.take 7 (.take 8 (.take 12 .done))) .nil)) .nil)) .nil)) (.br 7 (.br 2 (.br 8 (.br 9 (.br 10 (.br 11 (.take 12 .done) .nil) .nil) .nil) (.br 9 (.br 8 (.br 10 (.br 11 (.take 12 .done) .nil) .nil) (.br 10 (.br 8 (.br 11 (.take 12 .done) .nil) (.br 11 (.take 8 (.take 12 .done)) .nil)) .nil)) .nil)) (.br 8 (.br 2 (.br 9 (.br 10 (.br 11 (.take 12 .done) .nil) .nil) .nil) (.br 9 (.br 2 (.br 10 (.br 11 (.take 12 .done) .nil) .nil) (.br 10 (.take 2 (.br 11 (.take 12 .done) .nil)) .nil)) .nil)) (.br 9 (.br 2 (.br 8 (.br 10 (.br 11 (.take 12 .done) .nil) .nil) (.br 10 (.br 8 (.br 11 (.take 12 .done) .nil) (.br 11 (.take 8 (.take 12 .done)) .nil)) .nil)) (.br 8 (.br 2 (.br 10 (.br 11 (.take 12 .done) .nil) .nil) (.br 10 (.take 2 (.br 11 (.take 12 .done) .nil)) .nil)) (.br 10 (.take 2 (.br 8 (.br 11 (.take 12 .done) .nil) (.br 11 (.take 8 (.take 12 .done)) .nil))) .nil))) .nil))) (.br 9 (.br 2 (.br 7 (.br 8 (.br 10 (.br 11 (.take 12 .done) .nil) .nil) (.br 10 (.br 8 (.br 11 (.take 12 .done) .nil) (.br 11 (.take 8 (.take 12 .done)) .nil)) .nil)) (.br 10 (.br 7 (.br 8 (.br 11 (.take 12 .done) .nil) (.br 11 (.take 8 (.take 12 .done)) .nil)) (.br 11 (.take 7 (.take 8 (.take 12 .done))) .nil)) .nil)) (.br 7 (.br 2 (.br 8 (.br 10 (.br 11 (.take 12 .done) .nil) .nil) (.br 10 (.br 8 (.br 11 (.take 12 .done) .nil) (.br 11 (.take 8 (.take 12 .done)) .nil)) .nil)) (.br 8 (.br 2 (.br 10 (.br 11 (.take 12 .done) .nil) .nil) (.br 10 (.take 2 (.br 11 (.take 12 .done) .nil)) .nil)) (.br 10 (.take 2 (.br 8 (.br 11 (.take 12 .done) .nil) (.br 11 (.take 8 (.take 12 .done)) .nil))) .nil))) (.br 10 (.take 2 (.br 7 (.br 8 (.br 11 (.take 12 .done) .nil) (.br 11 (.take 8 (.take 12 .done)) .nil)) (.br 11 (.take 7 (.take 8 (.take 12 .done))) .nil))) .nil))) .nil))) (.br 9 (.br 2 (.br 6 (.br 7 (.br 8 (.br 10 (.br 11 (.take 12 .done) .nil) .nil) (.br 10 (.br 8 (.br 11 (.take 12 .done) .nil) (.br 11 (.take 8 (.take 12 .done)) .nil)) .nil)) (.br 10 (.br 7 (.br 8 (.br 11 (.take 12 .done) .nil) (.br 11 (.take 8 (.take 12 .done)) .nil)) (.br 11 (.take 7 (.take 8 (.take 12 .done))) .nil)) .nil)) (.br 10 (.br 6 (.br 7 (.br 8 (.br 11 (.take 12 .done) .nil) (.br 11 (.take 8 (.take 12 .done)) .nil)) (.br 11 (.take 7 (.take 8 (.take 12 .done))) .nil)) (.br 11 (.take 6 (.take 7 (.take 8 (.take 12 .done)))) .nil)) .nil)) (.br 6 (.br 2 (.br 7 (.br 8 (.br 10 (.br 11 (.take 12 .done) .nil) .nil) (.br 10 (.br 8 (.br 11 (.take 12 .done) .nil) (.br 11 (.take 8 (.take 12 .done)) .nil)) .nil)) (.br 10 (.br 7 (.br 8 (.br 11 (.take 12 .done) .nil) (.br 11 (.take 8 (.take 12 .done)) .nil)) (.br 11 (.take 7 (.take 8 (.take 12 .done))) .nil)) .nil)) (.br 7 (.br 2 (.br 8 (.br 10 (.br 11 (.take 12 .done) .nil) .nil) (.br 10 (.br 8 (.br 11 (.take 12 .done) .nil) (.br 11 (.take 8 (.take 12 .done)) .nil)) .nil)) (.br 8 (.br 2 (.br 10 (.br 11 (.take 12 .done) .nil) .nil) (.br 10 (.take 2 (.br 11 (.take 12 .done) .nil)) .nil)) (.br 10 (.take 2 (.br 8 (.br 11 (.take 12 .done) .nil) (.br 11 (.take 8 (.take 12 .done)) .nil))) .nil))) (.br 10 (.take 2 (.br 7 (.br 8 (.br 11 (.take 12 .done) .nil) (.br 11 (.take 8 (.take 12 .done)) .nil)) (.br 11 (.take 7 (.take 8 (.take 12 .done))) .nil))) .nil))) (.br 10 (.take 2 (.br 6 (.br 7 (.br 8 (.br 11 (.take 12 .done) .nil) (.br 11 (.take 8 (.take 12 .done)) .nil)) (.br 11 (.take 7 (.take 8 (.take 12 .done))) .nil)) (.br 11 (.take 6 (.take 7 (.take 8 (.take 12 .done)))) .nil))) .nil))) .nil))) (.br 2 (.br 1 (.br 6 (.br 7 (.br 8 (.br 9 (.br 10 (.br 11 (.take 12 .done) .nil) .nil) .nil) (.br 9 (.br 8 (.br 10 (.br 11 (.take 12 .done) .nil) .nil) (.br 10 (.br 8 (.br 11 (.take 12 .done) .nil) (.br 11 (.take 8 (.take 12 .done)) .nil)) .nil)) .nil)) (.br 9 (.br 7 (.br 8 (.br 10 (.br 11 (.take 12 .done) .nil) .nil) (.br 10 (.br 8 (.br 11 (.take 12 .done) .nil) (.br 11 (.take 8 (.take 12 .done)) .nil)) .nil)) (.br 10 (.br 7 (.br 8 (.br 11 (.take 12 .done) .nil) (.br 11 (.take 8 (.take 12 .done)) .nil)) (.br 11 (.take 7 (.take 8 (.take 12 .done))) .nil)) .nil)) .nil)) (.br 9 (.br 6 (.br 7 (.br 8 (.br 10 (.br 11 (.take 12 .done) .nil) .nil) (.br 10 (.br 8 (.br 11 (.take 12 .done) .nil) (.br 11 (.take 8 (.take 12 .done)) .nil)) .nil)) (.br 10 (.br 7 (.br 8 (.br 11 (.take 12 .done) .nil) (.br 11 (.take 8 (.take 12 .done)) .nil)) (.br 11 (.take 7 (.take 8 (.take 12 .done))) .nil)) .nil)) (.br 10 (.br 6 (.br 7 (.br 8 (.br 11 (.take 12 .done) .nil) (.br 11 (.take 8 (.take 12 .done)) .nil)) (.br 11 (.take 7 (.take 8 (.take 12 .done))) .nil)) (.br 11 (.take 6 (.take 7 (.take 8 (.take 12 .done)))) .nil)) .nil)) .nil)) (.br 6 (.br 1 (.br 7 (.br 8 (.br 9 (.br 10 (.br 11 (.take 12 .done) .nil) .nil) .nil) (.br 9 (.br 8 (.br 10 (.br 11 (.take 12 .done) .nil) .nil) (.br 10 (.br 8 (.br 11 (.take 12 .done) .nil) (.br 11 (.take 8 (.take 12 .done)) .nil)) .nil)) .nil)) (.br 9 (.br 7 (.br 8 (.br 10 (.br 11 (.take 12 .done) .nil) .nil) (.br 10 (.br 8 (.br 11 (.take 12 .done) .nil) (.br 11 (.take 8 (.take 12 .done)) .nil)) .nil)) (.br 10 (.br 7 (.br 8 (.br 11 (.take 12 .done) .nil) (.br 11 (.take 8 (.take 12 .done)) .nil)) (.br 11 (.take 7 (.take 8 (.take 12 .done))) .nil)) .nil)) .nil)) (.br 7 (.br 1 (.br 8 (.br 9 (.br 10 (.br 11 (.take 12 .done) .nil) .nil) .nil) (.br 9 (.br 8 (.br 10 (.br 11 (.take 12 .done) .nil) .nil) (.br 10 (.br 8 (.br 11 (.take 12 .done) .nil) (.br 11 (.take 8 (.take 12 .done)) .nil)) .nil)) .nil)) (.br 8 (.br 1 (.br 9 (.br 10 (.br 11 (.take 12 .done) .nil) .nil) .nil) (.br 9 (.take 1 (.br 10 (.br 11 (.take 12 .done) .nil) .nil)) .nil)) (.br 9 (.take 1 (.br 8 (.br 10 (.br 11 (.take 12 .done) .nil) .nil) (.br 10 (.br 8 (.br 11 (.take 12 .done) .nil) (.br 11 (.take 8 (.take 12 .done)) .nil)) .nil))) .nil))) (.br 9 (.take 1 (.br 7 (.br 8 (.br 10 (.br 11 (.take 12 .done) .nil) .nil) (.br 10 (.br 8 (.br 11 (.take 12 .done) .nil) (.br 11 (.take 8 (.take 12 .done)) .nil)) .nil)) (.br 10 (.br 7 (.br 8 (.br 11 (.take 12 .done) .nil) (.br 11 (.take 8 (.take 12 .done)) .nil)) (.br 11 (.take 7 (.take 8 (.take 12 .done))) .nil)) .nil))) .nil))) (.br 9 (.take 1 (.br 6 (.br 7 (.br 8 (.br 10 (.br 11 (.take 12 .done) .nil) .nil) (.br 10 (.br 8 (.br 11 (.take 12 .done) .nil) (.br 11 (.take 8 (.take 12 .done)) .nil)) .nil)) (.br 10 (.br 7 (.br 8 (.br 11 (.take 12 .done) .nil) (.br 11 (.take 8 (.take 12 .done)) .nil)) (.br 11 (.take 7 (.take 8 (.take 12 .done))) .nil)) .nil)) (.br 10 (.br 6 (.br 7 (.br 8 (.br 11 (.take 12 .done) .nil) (.br 11 (.take 8 (.take 12 .done)) .nil)) (.br 11 (.take 7 (.take 8 (.take 12 .done))) .nil)) (.br 11 (.take 6 (.take 7 (.take 8 (.take 12 .done)))) .nil)) .nil))) .nil))) (.br 6 (.br 1 (.br 2 (.br 7 (.br 8 (.br 9 (.br 10 (.br 11 (.take 12 .done) .nil) .nil) .nil) (.br 9 (.br 8 (.br 10 (.br 11 (.take 12 .done) .nil) .nil) (.br 10 (.br 8 (.br 11 (.take 12 .done) .nil) (.br 11 (.take 8 (.take 12 .done)) .nil)) .nil)) .nil)) (.br 9 (.br 7 (.br 8 (.br 10 (.br 11 (.take 12 .done) .nil) .nil) (.br 10 (.br 8 (.br 11 (.take 12 .done) .nil) (.br 11 (.take 8 (.take 12 .done)) .nil)) .nil)) (.br 10 (.br 7 (.br 8 (.br 11 (.take 12 .done) .nil) (.br 11 (.take 8 (.take 12 .done)) .nil)) (.br 11 (.take 7 (.take 8 (.take 12 .done))) .nil)) .nil)) .nil)) (.br 7 (.br 2 (.br 8 (.br 9 (.br 10 (.br 11 (.take 12 .done) .nil) .nil) .nil) (.br 9 (.br 8 (.br 10 (.br 11 (.take 12 .done) .nil) .nil) (.br 10 (.br 8 (.br 11 (.take 12 .done) .nil) (.br 11 (.take 8 (.take 12 .done)) .nil)) .nil)) .nil)) (.br 8 (.br 2 (.br 9 (.br 10 (.br 11 (.take 12 .done) .nil) .nil) .nil) (.br 9 (.br 2 (.br 10 (.br 11 (.take 12 .done) .nil) .nil) (.br 10 (.take 2 (.br 11 (.take 12 .done) .nil)) .nil)) .nil)) (.br 9 (.br 2 (.br 8 (.br 10 (.br 11 (.take 12 .done) .nil) .nil) (.br 10 (.br 8 (.br 11 (.take 12 .done) .nil) (.br 11 (.take 8 (.take 12 .done)) .nil)) .nil)) (.br 8 (.br 2 (.br 10 (.br 11 (.take 12 .done) .nil) .nil) (.br 10 (.take 2 (.br 11 (.take 12 .done) .nil)) .nil)) (.br 10 (.take 2 (.br 8 (.br 11 (.take 12 .done) .nil) (.br 11 (.take 8 (.take 12 .done)) .nil))) .nil))) .nil))) (.br 9 (.br 2 (.br 7 (.br 8 (.br 10 (.br 11 (.take 12 .done) .nil) .nil) (.br 10 (.br 8 (.br 11 (.take 12 .done) .nil) (.br 11 (.take 8 (.take 12 .done)) .nil)) .nil)) (.br 10 (.br 7 (.br 8 (.br 11 (.take 12 .done) .nil) (.br 11 (.take 8 (.take 12 .done)) .nil)) (.br 11 (.take 7 (.take 8 (.take 12 .done))) .nil)) .nil)) (.br 7 (.br 2 (.br 8 (.br 10 (.br 11 (.take 12 .done) .nil) .nil) (.br 10 (.br 8 (.br 11 (.take 12 .done) .nil) (.br 11 (.take 8 (.take 12 .done)) .nil)) .nil)) (.br 8 (.br 2 (.br 10 (.br 11 (.take 12 .done) .nil) .nil) (.br 10 (.take 2 (.br 11 (.take 12 .done) .nil)) .nil)) (.br 10 (.take 2 (.br 8 (.br 11 (.take 12 .done) .nil) (.br 11 (.take 8 (.take 12 .done)) .nil))) .nil))) (.br 10 (.take 2 (.br 7 (.br 8 (.br 11 (.take 12 .done) .nil) (.br 11 (.take 8 (.take 12 .done)) .nil)) (.br 11 (.take 7 (.take 8 (.take 12 .done))) .nil))) .nil))) .nil))) (.br 2 (.br 1 (.br 7 (.br 8 (.br 9 (.br 10 (.br 11 (.take 12 .done) .nil) .nil) .nil) (.br 9 (.br 8 (.br 10 (.br 11 (.take 12 .done) .nil) .nil) (.br 10 (.br 8 (.br 11 (.take 12 .done) .nil) (.br 11 (.take 8 (.take 12 .done)) .nil)) .nil)) .nil)) (.br 9 (.br 7 (.br 8 (.br 10 (.br 11 (.take 12 .done) .nil) .nil) (.br 10 (.br 8 (.br 11 (.take 12 .done) .nil) (.br 11 (.take 8 (.take 12 .done)) .nil)) .nil)) (.br 10 (.br 7 (.br 8 (.br 11 (.take 12 .done) .nil) (.br 11 (.take 8 (.take 12 .done)) .nil)) (.br 11 (.take 7 (.take 8 (.take 12 .done))) .nil)) .nil)) .nil)) (.br 7 (.br 1 (.br 8 (.br 9 (.br 10 (.br 11 (.take 12 .done) .nil) .nil) .nil) (.br 9 (.br 8 (.br 10 (.br 11 (.take 12 .done) .nil) .nil) (.br 10 (.br 8 (.br 11 (.take 12 .done) .nil) (.br 11 (.take 8 (.take 12 .done)) .nil)) .nil)) .nil)) (.br 8 (.br 1 (.br 9 (.br 10 (.br 11 (.take 12 .done) .nil) .nil) .nil) (.br 9 (.take 1 (.br 10 (.br 11 (.take 12 .done) .nil) .nil)) .nil)) (.br 9 (.take 1 (.br 8 (.br 10 (.br 11 (.take 12 .done) .nil) .nil) (.br 10 (.br 8 (.br 11 (.take 12 .done) .nil) (.br 11 (.take 8 (.take 12 .done)) .nil)) .nil))) .nil))) (.br 9 (.take 1 (.br 7 (.br 8 (.br 10 (.br 11 (.take 12 .done) .nil) .nil) (.br 10 (.br 8 (.br 11 (.take 12 .done) .nil) (.br 11 (.take 8 (.take 12 .done)) .nil)) .nil)) (.br 10 (.br 7 (.br 8 (.br 11 (.take 12 .done) .nil) (.br 11 (.take 8 (.take 12 .done)) .nil)) (.br 11 (.take 7 (.take 8 (.take 12 .done))) .nil)) .nil))) .nil))) (.br 7 (.br 1 (.br 2 (.br 8 (.br 9 (.br 10 (.br 11 (.take 12 .done) .nil) .nil) .nil) (.br 9 (.br 8 (.br 10 (.br 11 (.take 12 .done) .nil) .nil) (.br 10 (.br 8 (.br 11 (.take 12 .done) .nil) (.br 11 (.take 8 (.take 12 .done)) .nil)) .nil)) .nil)) (.br 8 (.br 2 (.br 9 (.br 10 (.br 11 (.take 12 .done) .nil) .nil) .nil) (.br 9 (.br 2 (.br 10 (.br 11 (.take 12 .done) .nil) .nil) (.br 10 (.take 2 (.br 11 (.take 12 .done) .nil)) .nil)) .nil)) (.br 9 (.br 2 (.br 8 (.br 10 (.br 11 (.take 12 .done) .nil) .nil) (.br 10 (.br 8 (.br 11 (.take 12 .done) .nil) (.br 11 (.take 8 (.take 12 .done)) .nil)) .nil)) (.br 8 (.br 2 (.br 10 (.br 11 (.take 12 .done) .nil) .nil) (.br 10 (.take 2 (.br 11 (.take 12 .done) .nil)) .nil)) (.br 10 (.take 2 (.br 8 (.br 11 (.take 12 .done) .nil) (.br 11 (.take 8 (.take 12 .done)) .nil))) .nil))) .nil))) (.br 2 (.br 1 (.br 8 (.br 9 (.br 10 (.br 11 (.take 12 .done) .nil) .nil) .nil) (.br 9 (.br 8 (.br 10 (.br 11 (.take 12 .done) .nil) .nil) (.br 10 (.br 8 (.br 11 (.take 12 .done) .nil) (.br 11 (.take 8 (.take 12 .done)) .nil)) .nil)) .nil)) (.br 8 (.br 1 (.br 9 (.br 10 (.br 11 (.take 12 .done) .nil) .nil) .nil) (.br 9 (.take 1 (.br 10 (.br 11 (.take 12 .done) .nil) .nil)) .nil)) (.br 9 (.take 1 (.br 8 (.br 10 (.br 11 (.take 12 .done) .nil) .nil) (.br 10 (.br 8 (.br 11 (.take 12 .done) .nil) (.br 11 (.take 8 (.take 12 .done)) .nil)) .nil))) .nil))) (.br 8 (.br 1 (.br 2 (.br 9 (.br 10 (.br 11 (.take 12 .done) .nil) .nil) .nil) (.br 9 (.br 2 (.br 10 (.br 11 (.take 12 .done) .nil) .nil) (.br 10 (.take 2 (.br 11 (.take 12 .done) .nil)) .nil)) .nil)) (.br 2 (.br 1 (.br 9 (.br 10 (.br 11 (.take 12 .done) .nil) .nil) .nil) (.br 9 (.take 1 (.br 10 (.br 11 (.take 12 .done) .nil) .nil)) .nil)) (.br 9 (.take 1 (.br 2 (.br 10 (.br 11 (.take 12 .done) .nil) .nil) (.br 10 (.take 2 (.br 11 (.take 12 .done) .nil)) .nil))) .nil))) (.br 9 (.take 1 (.br 2 (.br 8 (.br 10 (.br 11 (.take 12 .done) .nil) .nil) (.br 10 (.br 8 (.br 11 (.take 12 .done) .nil) (.br 11 (.take 8 (.take 12 .done)) .nil)) .nil)) (.br 8 (.br 2 (.br 10 (.br 11 (.take 12 .done) .nil) .nil) (.br 10 (.take 2 (.br 11 (.take 12 .done) .nil)) .nil)) (.br 10 (.take 2 (.br 8 (.br 11 (.take 12 .done) .nil) (.br 11 (.take 8 (.take 12 .done)) .nil))) .nil)))) .nil)))) (.br 9 (.take 1 (.br 2 (.br 7 (.br 8 (.br 10 (.br 11 (.take 12 .done) .nil) .nil) (.br 10 (.br 8 (.br 11 (.take 12 .done) .nil) (.br 11 (.take 8 (.take 12 .done)) .nil)) .nil)) (.br 10 (.br 7 (.br 8 (.br 11 (.take 12 .done) .nil) (.br 11 (.take 8 (.take 12 .done)) .nil)) (.br 11 (.take 7 (.take 8 (.take 12 .done))) .nil)) .nil)) (.br 7 (.br 2 (.br 8 (.br 10 (.br 11 (.take 12 .done) .nil) .nil) (.br 10 (.br 8 (.br 11 (.take 12 .done) .nil) (.br 11 (.take 8 (.take 12 .done)) .nil)) .nil)) (.br 8 (.br 2 (.br 10 (.br 11 (.take 12 .done) .nil) .nil) (.br 10 (.take 2 (.br 11 (.take 12 .done) .nil)) .nil)) (.br 10 (.take 2 (.br 8 (.br 11 (.take 12 .done) .nil) (.br 11 (.take 8 (.take 12 .done)) .nil))) .nil))) (.br 10 (.take 2 (.br 7 (.br 8 (.br 11 (.take 12 .done) .nil) (.br 11 (.take 8 (.take 12 .done)) .nil)) (.br 11 (.take 7 (.take 8 (.take 12 .done))) .nil))) .nil)))) .nil)))) (.br 9 (.take 1 (.br 2 (.br 6 (.br 7 (.br 8 (.br 10 (.br 11 (.take 12 .done) .nil) .nil) (.br 10 (.br 8 (.br 11 (.take 12 .done) .nil) (.br 11 (.take 8 (.take 12 .done)) .nil)) .nil)) (.br 10 (.br 7 (.br 8 (.br 11 (.take 12 .done) .nil) (.br 11 (.take 8 (.take 12 .done)) .nil)) (.br 11 (.take 7 (.take 8 (.take 12 .done))) .nil)) .nil)) (.br 10 (.br 6 (.br 7 (.br 8 (.br 11 (.take 12 .done) .nil) (.br 11 (.take 8 (.take 12 .done)) .nil)) (.br 11 (.take 7 (.take 8 (.take 12 .done))) .nil)) (.br 11 (.take 6 (.take 7 (.take 8 (.take 12 .done)))) .nil)) .nil)) (.br 6 (.br 2 (.br 7 (.br 8 (.br 10 (.br 11 (.take 12 .done) .nil) .nil) (.br 10 (.br 8 (.br 11 (.take 12 .done) .nil) (.br 11 (.take 8 (.take 12 .done)) .nil)) .nil)) (.br 10 (.br 7 (.br 8 (.br 11 (.take 12 .done) .nil) (.br 11 (.take 8 (.take 12 .done)) .nil)) (.br 11 (.take 7 (.take 8 (.take 12 .done))) .nil)) .nil)) (.br 7 (.br 2 (.br 8 (.br 10 (.br 11 (.take 12 .done) .nil) .nil) (.br 10 (.br 8 (.br 11 (.take 12 .done) .nil) (.br 11 (.take 8 (.take 12 .done)) .nil)) .nil)) (.br 8 (.br 2 (.br 10 (.br 11 (.take 12 .done) .nil) .nil) (.br 10 (.take 2 (.br 11 (.take 12 .done) .nil)) .nil)) (.br 10 (.take 2 (.br 8 (.br 11 (.take 12 .done) .nil) (.br 11 (.take 8 (.take 12 .done)) .nil))) .nil))) (.br 10 (.take 2 (.br 7 (.br 8 (.br 11 (.take 12 .done) .nil) (.br 11 (.take 8 (.take 12 .done)) .nil)) (.br 11 (.take 7 (.take 8 (.take 12 .done))) .nil))) .nil))) (.br 10 (.take 2 (.br 6 (.br 7 (.br 8 (.br 11 (.take 12 .done) .nil) (.br 11 (.take 8 (.take 12 .done)) .nil)) (.br 11 (.take 7 (.take 8 (.take 12 .done))) .nil)) (.br 11 (.take 6 (.take 7 (.take 8 (.take 12 .done)))) .nil))) .nil)))) .nil)))))))) [9,10,11] lv28 (by kernel_rfl) ({ tm:=[(10,true,.ptr 4 [] 37),(11,true,.ptr 5 [] 48),(12,true,.ptr 6 [] 48),(13,true,.bool (decide (e=0)&&decide (f=0)))],ob:=[.var 26 (.data 26 p.v),.var 37 (.data 37 s.v),.var 39 (.data 39 x.v),.var 39 (.data 39 y.v),.var 37 (.data 37 u.v),.var 48 (.data 48 a.v),.var 48 (.data 48 b.v),.var 37 (.data 37 t.v),.var 48 (.data 48 a.v),.var 37 (.data 37 u.v),.var 48 (.data 48 b.v)],out:=[],nt:=47 }) (fun R hR=>?_) ?_;simp only [go_sem,strip])
  | ((with_reducible refine J21 ok (by kernel_rfl) lv28 ?_);intro R hR;simp only [go_sem,strip])
  | ((with_reducible first|refine ctrK.normal ?_|refine ctrK.ret ?_)
     simp only [go_sem,resA,resV,backK,seval]
     exact ⟨rfl,rfl,rfl,rfl⟩)
end Go.Eng.Tryz
namespace Go.Eng.Tryz
open Go.RowKit Go.Eng
set_option maxHeartbeats 0
set_option maxRecDepth 20000
def p0:Prg:=⟨[],0,[],[⟨0,0,[⟨64,0,0,0,0⟩,⟨45,0,0,0,0⟩],[]⟩]⟩
def s0:Stt:=⟨List.replicate 8 0,List.replicate 4 0,List.replicate 4 zeroChn,[⟨1,0,0,0,List.replicate 8 0⟩,zeroGor,zeroGor,zeroGor,zeroGor,zeroGor],1⟩
def s1:Stt:=⟨List.replicate 8 0,List.replicate 4 0,List.replicate 4 zeroChn,[⟨3,0,1,0,List.replicate 8 0⟩,zeroGor,zeroGor,zeroGor,zeroGor,zeroGor],1⟩
def e1:Event:=⟨0,0,0,64,0,0,0,[⟨5,0,true⟩,⟨0,0,false⟩,⟨0,0,false⟩,⟨0,0,false⟩,⟨0,0,false⟩,⟨0,0,false⟩],1⟩
theorem p0_fit:p0.Fit:=⟨by decide,by decide,by decide,by
 intro f hf
 simp [p0] at hf
 subst hf
 exact ⟨by decide,by decide,by intro s hs;simp at hs⟩⟩
theorem s0_shape:s0.Shape:=⟨rfl,rfl,rfl,by intro c hc;simp [s0] at hc;subst hc;rfl,rfl,by intro g hg;simp [s0] at hg;rcases hg with rfl|rfl<;>rfl⟩
theorem s1_shape:s1.Shape:=⟨rfl,rfl,rfl,by intro c hc;simp [s1] at hc;subst hc;rfl,rfl,by intro g hg;simp [s1] at hg;rcases hg with rfl|rfl<;>rfl⟩
theorem sp_ready:Ctr Go.Proofs.Tryz.prog tab 26 [26,37] [64,49] [p0.v,s0.v] [.list [Pck.v ⟨0,0⟩],.int 0]:=by
 have h:=pReady_ctr p0 s0 p0_fit s0_shape
 rw [show askErr p0 s0=0 by decide +kernel,if_pos rfl,show ready p0 s0=[⟨0,0⟩] by decide +kernel] at h
 exact h
theorem sp_do1:Ctr Go.Proofs.Tryz.prog tab 15 [26,37,39,3] [37,48,49] [p0.v,s0.v,Pck.v ⟨0,0⟩,.int 1] [s1.v,e1.v,.int 0]:=by
 have h:=pdo_ctr p0 s0 ⟨0,0⟩ 1 p0_fit s0_shape
 rw [show doV p0 s0 ⟨0,0⟩ 1=(s1,e1,0) by decide +kernel] at h
 exact h
theorem sp_do2:Ctr Go.Proofs.Tryz.prog tab 15 [26,37,39,3] [37,48,49] [p0.v,s1.v,Pck.v ⟨0,0⟩,.int 1] [zeroStt.v,zeroEvent.v,.int 5]:=by
 have h:=pdo_ctr p0 s1 ⟨0,0⟩ 1 p0_fit s1_shape
 rw [show doV p0 s1 ⟨0,0⟩ 1=(zeroStt,zeroEvent,5) by decide +kernel] at h
 exact h
def lv17:List (Nat × List Nat):=[(0,[]),(1,[1]),(2,[1,2]),(3,[1,2]),(4,[1,2,3,4]),(5,[1,3,4,5,6,7]),(6,[3,4,5,6,7,10]),(7,[0])]
theorem speaks_ctr:Ctr Go.Proofs.Tryz.prog tab 17 [] [4] [] [.bool true]:=by
 have hmx:256≤maxLen:=by decide
 refine Ctr.body ok Go.Proofs.Tryz.func17 rfl rfl 75 rfl [.tmp 0] rfl (by simp [fromVs]) ?_
 simp only [fromVs,fromV,args0,V.toList_list,V.toInt_int,V.toBool_bool,Nat.zero_add,Nat.reduceAdd,]
 repeat' first
  | ((with_reducible refine SARW.told 1 3 ?_)
     refine SARW.weak (St.le.frzRow ok.sized 0 rfl) ?_
     simp only [St.frz,Tm.frz,E.frz,E.frzL,Obj.frz,List.map_cons,List.map_nil,List.set_cons_zero,List.set_cons_succ,Nat.reduceBEq,Nat.beq_refl,if_true,if_false,Nat.beq_eq_true_eq,reduceCtorEq,Bool.false_eq_true,V.get,Nat.reduceEqDiff])
  | ((with_reducible refine SARW.told 1 5 ?_)
     refine SARW.weak (St.le.frzRow ok.sized 1 rfl) ?_
     simp only [St.frz,Tm.frz,E.frz,E.frzL,Obj.frz,List.map_cons,List.map_nil,List.set_cons_zero,List.set_cons_succ,Nat.reduceBEq,Nat.beq_refl,if_true,if_false,Nat.beq_eq_true_eq,reduceCtorEq,Bool.false_eq_true,V.get,Nat.reduceEqDiff])
  | ((with_reducible first|refine SARA.do fun R1 hR1=>?_|refine SARW.do fun R1 hR1=>?_);(simp only [go_sem,seval,-List.reduceReplicate,Bool.cond_false_right,Bool.cond_true_left]);(repeat' with_reducible refine And.intro ?_ ?_);all_goals first|(refine hR1 _ ?_;clear hR1 R1)|((first|refine ce (cf (sp_ready) ?_ (by first|rfl|(simp [go_sem,List.length_map,List.take_of_length_le];done)|fail))|refine ce (cf (sp_do1) ?_ (by first|rfl|(simp [go_sem,List.length_map,List.take_of_length_le];done)|fail))|refine ce (cf (sp_do2) ?_ (by first|rfl|(simp [go_sem,List.length_map,List.take_of_length_le];done)|fail)));all_goals ((try simp only [go_sem,seval,-List.reduceReplicate,Bool.cond_false_right,Bool.cond_true_left]);(repeat' with_reducible refine And.intro ?_ ?_);all_goals first|(refine hR1 _ ?_;clear hR1 R1)|omega|rfl|decide|assumption|(intro _;omega)|(simp;done)|(simp [-List.getD_eq_getElem?_getD];omega)|exact hcode _|(intro _;exact hcode _)|exact hsl _|(intro _;exact hsl _)|(simp [-List.getD_eq_getElem?_getD,roomFor,maxLen,by3,by39,by45,by48,by37];omega)|(simp [-List.getD_eq_getElem?_getD,roomFor,maxLen,by3,by39,by45,by48,by37];done)))|omega|rfl|decide|assumption|(intro _;omega)|(simp;done)|(simp [-List.getD_eq_getElem?_getD];omega)|exact hcode _|(intro _;exact hcode _)|exact hsl _|(intro _;exact hsl _)|(simp [-List.getD_eq_getElem?_getD,roomFor,maxLen,by3,by39,by45,by48,by37];omega)|(simp [-List.getD_eq_getElem?_getD,roomFor,maxLen,by3,by39,by45,by48,by37];done))
  | ((with_reducible refine SARA.nil ?_);refine hR _ ?_;clear hR R;try simp only [go_sem,lv17,lvOf,Nat.reduceBEq,Option.getD_some])
  | ((with_reducible refine SARW.nil ?_);refine hR _ ?_;clear hR R;try simp only [go_sem,lv17,lvOf,Nat.reduceBEq,Option.getD_some])
  | (with_reducible first|refine J1 ?_|refine J2 ?_|refine J3 ?_|refine J4 ?_|refine J5 ?_|refine J6 ?_|refine J7 ?_|refine J8 (by decide) ?_|refine J9 ?_|refine J10 ?_|refine J11 ?_|refine J12 ?_|refine J13 ?_|refine J14 ?_|refine J15 ?_|refine J16 ?_|refine J17 ?_|refine J18 ?_|refine J19 ?_)
  | ((with_reducible refine SA.at 2 ?_)
     refine SA.weaken (St.le.of_eq (show _=({ tm:=[(1,true,.ptr 2 [] 26)],ob:=[.dead,.dead,.var 26 (.data 26 p0.v)],out:=[],nt:=75 }:St) from rfl)) ?_
     (with_reducible refine J21 ok (by kernel_rfl) lv17 ?_);intro R hR;simp only [go_sem,strip])
  | ((with_reducible refine SA.at 4 ?_)
     refine SA.weaken (St.le.of_eq (show _=({ tm:=[(1,true,.ptr 2 [] 26),(2,true,.ptr 3 [] 37)],ob:=[.dead,.dead,.var 26 (.data 26 p0.v),.var 37 (.data 37 s0.v)],out:=[],nt:=75 }:St) from rfl)) ?_
     (with_reducible refine J21 ok (by kernel_rfl) lv17 ?_);intro R hR;simp only [go_sem,strip])
  | ((with_reducible refine SA.at 1 ?_)
     skip
     (with_reducible refine SA.regionWN ok (by kernel_rfl) lv17 ?_);intro R hR;simp only [go_sem,strip])
  | ((with_reducible refine J21 ok (by kernel_rfl) lv17 ?_);intro R hR;simp only [go_sem,strip])
  | ((with_reducible first|refine ctrK.normal ?_|refine ctrK.ret ?_)
     simp only [go_sem,resA,resV,backK,seval]
     exact ⟨rfl,rfl⟩)
end Go.Eng.Tryz
