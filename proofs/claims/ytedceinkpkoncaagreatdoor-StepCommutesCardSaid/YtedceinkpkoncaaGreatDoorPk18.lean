/- A part of the proof: walks through the program's functions, and what they compute. -/
import Derived.Test.YtedceinkpkoncaaGreatDoorPk13
set_option linter.unusedSimpArgs false
set_option linter.unusedVariables false
namespace Go.Eng.Tryz
open Go.RowKit Go.Eng
set_option maxHeartbeats 0
set_option maxRecDepth 20000
def lv147:List (Nat × List Nat):=[(0,[0,1]),(1,[4])]
theorem within_ctr (x n:Int):Ctr Go.Proofs.Tryz.prog tab 147 [2,3] [4] [.int x,.int n] [.bool (within x n)]:=by
 refine Ctr.body ok Go.Proofs.Tryz.func147 rfl rfl 12 rfl [.tmp 4] rfl (by simp [fromVs]) ?_
 simp only [fromVs,fromV,args0,V.toList_list,V.toInt_int,V.toBool_bool,Nat.zero_add,Nat.reduceAdd,ty2,ty3]
 repeat' first
  | ((with_reducible refine SARA.do fun R1 hR1=>?_);(simp only [go_sem,seval,-List.reduceReplicate]);(repeat' with_reducible refine And.intro ?_ ?_);all_goals first|(refine hR1 _ ?_;clear hR1 R1)|omega|rfl|decide|assumption|(intro _;omega)|(simp;done)|(simp;omega))
  | ((with_reducible refine SARA.nil ?_);refine hR _ ?_;clear hR R;try simp only [go_sem,lv147,lvOf,Nat.reduceBEq,Option.getD_some])
  | (with_reducible first|refine J1 ?_|refine J2 ?_|refine J3 ?_|refine J4 ?_|refine J5 ?_|refine J6 ?_|refine J7 ?_|refine J8 (by decide) ?_|refine J9 ?_|refine J10 ?_|refine J11 ?_|refine J12 ?_|refine J13 ?_|refine J14 ?_|refine J15 ?_|refine J16 ?_|refine J17 ?_|refine J18 ?_|refine J19 ?_)
  | ((with_reducible refine J21 ok (by kernel_rfl) lv147 ?_);intro R hR;simp only [go_sem,strip])
  | ((with_reducible first|refine ctrK.normal ?_|refine ctrK.ret ?_)
     simp only [go_sem,resA,resV,backK,seval]
     refine ⟨rfl,?_⟩
     simp only [within]
     cases decide (0≤x)<;>rfl)
def lv127:List (Nat × List Nat):=[(0,[0]),(1,[2])]
theorem local_ctr (x:Int):Ctr Go.Proofs.Tryz.prog tab 127 [43] [4] [.int x] [.bool (isLocal x)]:=by
 refine Ctr.body ok Go.Proofs.Tryz.func127 rfl rfl 17 rfl [.tmp 2] rfl (by simp [fromVs]) ?_
 simp only [fromVs,fromV,args0,V.toList_list,V.toInt_int,V.toBool_bool,Nat.zero_add,Nat.reduceAdd,ty43]
 repeat' first
  | ((with_reducible refine SARA.do fun R1 hR1=>?_);(simp only [go_sem,seval,-List.reduceReplicate]);(repeat' with_reducible refine And.intro ?_ ?_);all_goals first|(refine hR1 _ ?_;clear hR1 R1)|omega|rfl|decide|assumption|(intro _;omega)|(simp;done)|(simp;omega))
  | ((with_reducible refine SARA.nil ?_);refine hR _ ?_;clear hR R;try simp only [go_sem,lv127,lvOf,Nat.reduceBEq,Option.getD_some])
  | (with_reducible first|refine J1 ?_|refine J2 ?_|refine J3 ?_|refine J4 ?_|refine J5 ?_|refine J6 ?_|refine J7 ?_|refine J8 (by decide) ?_|refine J9 ?_|refine J10 ?_|refine J11 ?_|refine J12 ?_|refine J13 ?_|refine J14 ?_|refine J15 ?_|refine J16 ?_|refine J17 ?_|refine J18 ?_|refine J19 ?_)
  | ((with_reducible refine J21 ok (by kernel_rfl) lv127 ?_);intro R hR;simp only [go_sem,strip])
  | ((with_reducible first|refine ctrK.normal ?_|refine ctrK.ret ?_)
     simp only [go_sem,resA,resV,backK,seval]
     refine ⟨rfl,?_⟩
     simp only [isLocal]
     cases decide (1≤x)<;>cases decide (x≤36)<;>cases decide (40≤x)<;>rfl)
def lv148:List (Nat × List Nat):=[(0,[0]),(1,[2])]
theorem visible_ctr (x:Int):Ctr Go.Proofs.Tryz.prog tab 148 [43] [4] [.int x] [.bool (isVisible x)]:=by
 refine Ctr.body ok Go.Proofs.Tryz.func148 rfl rfl 9 rfl [.tmp 2] rfl (by simp [fromVs]) ?_
 simp only [fromVs,fromV,args0,V.toList_list,V.toInt_int,V.toBool_bool,Nat.zero_add,Nat.reduceAdd,ty43]
 repeat' first
  | ((with_reducible refine SARA.do fun R1 hR1=>?_);(simp only [go_sem,seval,-List.reduceReplicate]);(repeat' with_reducible refine And.intro ?_ ?_);all_goals first|(refine hR1 _ ?_;clear hR1 R1)|omega|rfl|decide|assumption|(intro _;omega)|(simp;done)|(simp;omega))
  | ((with_reducible refine SARA.nil ?_);refine hR _ ?_;clear hR R;try simp only [go_sem,lv148,lvOf,Nat.reduceBEq,Option.getD_some])
  | (with_reducible first|refine J1 ?_|refine J2 ?_|refine J3 ?_|refine J4 ?_|refine J5 ?_|refine J6 ?_|refine J7 ?_|refine J8 (by decide) ?_|refine J9 ?_|refine J10 ?_|refine J11 ?_|refine J12 ?_|refine J13 ?_|refine J14 ?_|refine J15 ?_|refine J16 ?_|refine J17 ?_|refine J18 ?_|refine J19 ?_)
  | ((with_reducible refine J21 ok (by kernel_rfl) lv148 ?_);intro R hR;simp only [go_sem,strip])
  | ((with_reducible first|refine ctrK.normal ?_|refine ctrK.ret ?_)
     simp only [go_sem,resA,resV,backK,seval]
     refine ⟨rfl,?_⟩
     simp only [isVisible]
     cases decide (50≤x)<;>rfl)
def lv149:List (Nat × List Nat):=[(0,[0]),(1,[0,8]),(2,[2]),(3,[0,14]),(4,[2]),(5,[15]),(6,[15,16]),(7,[2]),(8,[15,18]),(9,[2]),(10,[15,20]),(11,[2]),(12,[15,22]),(13,[2]),(14,[15,24]),(15,[2]),(16,[15,26]),(17,[2]),(18,[15,28]),(19,[2]),(20,[15,30]),(21,[2]),(22,[15,32]),(23,[2]),(24,[15,34]),(25,[2]),(26,[15,36]),(27,[2]),(28,[15,38]),(29,[15,38]),(30,[2]),(31,[15,41]),(32,[2]),(33,[15,43]),(34,[2]),(35,[15,45]),(36,[2]),(37,[15,47]),(38,[2]),(39,[15,49]),(40,[2]),(41,[15,51]),(42,[2]),(43,[15,53]),(44,[2]),(45,[15,55]),(46,[2]),(47,[57]),(48,[2]),(49,[2])]
theorem form_ctr (op:Int):Ctr Go.Proofs.Tryz.prog tab 149 [43] [9] [.int op] [.str (formB op)]:=by
 refine Ctr.body ok Go.Proofs.Tryz.func149 rfl rfl 59 rfl [.tmp 2] rfl (by simp [fromVs]) ?_
 simp only [fromVs,fromV,args0,V.toList_list,V.toInt_int,V.toBool_bool,Nat.zero_add,Nat.reduceAdd,ty43]
 repeat' first
  | ((with_reducible refine SARA.do fun R1 hR1=>?_);(simp only [go_sem,seval,-List.reduceReplicate]);(repeat' with_reducible refine And.intro ?_ ?_);all_goals first|(refine hR1 _ ?_;clear hR1 R1)|omega|rfl|decide|assumption|(intro _;omega)|(simp;done)|(simp;omega))
  | ((with_reducible refine SARA.nil ?_);refine hR _ ?_;clear hR R;try simp only [go_sem,lv149,lvOf,Nat.reduceBEq,Option.getD_some])
  | (with_reducible first|refine J1 ?_|refine J2 ?_|refine J3 ?_|refine J4 ?_|refine J5 ?_|refine J6 ?_|refine J7 ?_|refine J8 (by decide) ?_|refine J9 ?_|refine J10 ?_|refine J11 ?_|refine J12 ?_|refine J13 ?_|refine J14 ?_|refine J15 ?_|refine J16 ?_|refine J17 ?_|refine J18 ?_|refine J19 ?_)
  | ((with_reducible refine J21 ok (by kernel_rfl) lv149 ?_);intro R hR;simp only [go_sem,strip])
  | ((with_reducible refine J20 8 rfl (fun hb8=>?_) (fun hb8=>?_))
     all_goals
      try simp at hb8
      try (exfalso;omega))
  | ((with_reducible refine J20 14 rfl (fun hb14=>?_) (fun hb14=>?_))
     all_goals
      try simp at hb14
      try (exfalso;omega))
  | ((with_reducible refine J20 16 rfl (fun hb16=>?_) (fun hb16=>?_))
     all_goals
      try simp at hb16
      try (exfalso;omega))
  | ((with_reducible refine J20 18 rfl (fun hb18=>?_) (fun hb18=>?_))
     all_goals
      try simp at hb18
      try (exfalso;omega))
  | ((with_reducible refine J20 20 rfl (fun hb20=>?_) (fun hb20=>?_))
     all_goals
      try simp at hb20
      try (exfalso;omega))
  | ((with_reducible refine SA.cond rfl ?_ ?_)
     all_goals
      intro hb
      try simp at hb
      try (exfalso;omega))
  | ((with_reducible first|refine ctrK.normal ?_|refine ctrK.ret ?_)
     simp only [go_sem,resA,resV,backK,seval]
     refine ⟨rfl,?_⟩
     first|(subst_vars;rfl)|(unfold formB formL;(repeat (rw [if_neg (by omega)]));(try rw [if_pos (by omega)]);rfl))
def lv150:List (Nat × List Nat):=[(0,[2,3,5,6,9]),(1,[3,5,6,9,12]),(2,[3,5,6,9,12,13]),(3,[3,5,6,9,12,13]),(4,[20]),(5,[10]),(6,[3,5,6,9,12,21]),(7,[31]),(8,[10]),(9,[3,5,6,9,12,32]),(10,[3,6,11]),(11,[62]),(12,[10]),(13,[3,5,6,12,63]),(14,[70]),(15,[10]),(16,[3,5,6,12,71]),(17,[3,5,78]),(18,[10]),(19,[85]),(20,[10]),(21,[3,5,6,12,86]),(22,[92]),(23,[10]),(24,[3,5,6,12,93]),(25,[100]),(26,[10]),(27,[3,5,6,12,101]),(28,[108]),(29,[10]),(30,[3,5,6,12,109]),(31,[116]),(32,[10]),(33,[3,6,117]),(34,[124]),(35,[10]),(36,[10])]
theorem operand_ctr (p:Prg) (f:Fnc) (letter x:Int) (i:Instr) (hp:p.Fit) (hf:f.Fit) (h112:letter=112→0≤i.b∧i.b<p.funcs.length):Ctr Go.Proofs.Tryz.prog tab 150 [26,121,5,2,129] [3] [p.v,f.v,.int letter,.int x,i.v] [.int (operandErr p f letter x i)]:=by
 obtain ⟨hp1,hp2,hp3,hp4⟩:=hp
 obtain ⟨hf1,hf2,hf3⟩:=hf
 refine Ctr.body ok Go.Proofs.Tryz.func150 rfl rfl 125 rfl [.tmp 10] rfl (by simp [fromVs]) ?_
 simp only [fromVs,fromV,args0,V.toList_list,V.toInt_int,V.toBool_bool,Nat.zero_add,Nat.reduceAdd,ty2,ty5,ty26,ty121,ty129]
 repeat' first
  | ((with_reducible refine SARA.told 19 4 ?_)
     rw [getD_vrs (by omega)])
  | ((with_reducible refine SARA.told 10 5 ?_)
     rw [getD_fncs (by omega)])
  | ((with_reducible refine SARA.do fun R1 hR1=>?_);(simp only [go_sem,seval,-List.reduceReplicate]);(repeat' with_reducible refine And.intro ?_ ?_);all_goals first|(refine hR1 _ ?_;clear hR1 R1)|((first|refine cq (cc (within_ctr _ _)) ?_|refine ⟨_,_,rfl,.inl ⟨_,fun hg=>CallQ.ctr ok (within_ctr _ _) (by first|rfl|(simp [go_sem];done)|fail) rfl,?_⟩⟩);all_goals ((try simp only [go_sem,seval,-List.reduceReplicate]);(repeat' with_reducible refine And.intro ?_ ?_);all_goals first|(refine hR1 _ ?_;clear hR1 R1)|omega|rfl|decide|assumption|(intro _;omega)|(simp;done)|(simp;omega)|(simp [roomFor,maxLen]<;>omega)))|omega|rfl|decide|assumption|(intro _;omega)|(simp;done)|(simp;omega)|(simp [roomFor,maxLen]<;>omega))
  | ((with_reducible refine SARA.nil ?_);refine hR _ ?_;clear hR R;try simp only [go_sem,lv150,lvOf,Nat.reduceBEq,Option.getD_some])
  | (with_reducible first|refine J1 ?_|refine J2 ?_|refine J3 ?_|refine J4 ?_|refine J5 ?_|refine J6 ?_|refine J7 ?_|refine J8 (by decide) ?_|refine J9 ?_|refine J10 ?_|refine J11 ?_|refine J12 ?_|refine J13 ?_|refine J14 ?_|refine J15 ?_|refine J16 ?_|refine J17 ?_|refine J18 ?_|refine J19 ?_)
  | ((with_reducible refine J21 ok (by kernel_rfl) lv150 ?_);intro R hR;simp only [go_sem,strip])
  | ((with_reducible refine J20 13 rfl (fun hb13=>?_) (fun hb13=>?_))
     all_goals
      try simp [within] at hb13
      try (exfalso;omega))
  | ((with_reducible refine J20 20 rfl (fun hb20=>?_) (fun hb20=>?_))
     all_goals
      try simp [within] at hb20
      try (exfalso;omega))
  | ((with_reducible refine J20 21 rfl (fun hb21=>?_) (fun hb21=>?_))
     all_goals
      try simp [within] at hb21
      try (exfalso;omega))
  | ((with_reducible refine J20 31 rfl (fun hb31=>?_) (fun hb31=>?_))
     all_goals
      try simp [within] at hb31
      try (exfalso;omega))
  | ((with_reducible refine J20 32 rfl (fun hb32=>?_) (fun hb32=>?_))
     all_goals
      try simp [within] at hb32
      try (exfalso;omega))
  | ((with_reducible refine J20 62 rfl (fun hb62=>?_) (fun hb62=>?_))
     all_goals
      try simp [within] at hb62
      try (exfalso;omega))
  | ((with_reducible refine J20 63 rfl (fun hb63=>?_) (fun hb63=>?_))
     all_goals
      try simp [within] at hb63
      try (exfalso;omega))
  | ((with_reducible refine J20 70 rfl (fun hb70=>?_) (fun hb70=>?_))
     all_goals
      try simp [within] at hb70
      try (exfalso;omega))
  | ((with_reducible refine J20 71 rfl (fun hb71=>?_) (fun hb71=>?_))
     all_goals
      try simp [within] at hb71
      try (exfalso;omega))
  | ((with_reducible refine J20 78 rfl (fun hb78=>?_) (fun hb78=>?_))
     all_goals
      try simp [within] at hb78
      try (exfalso;omega))
  | ((with_reducible refine J20 85 rfl (fun hb85=>?_) (fun hb85=>?_))
     all_goals
      try simp [within] at hb85
      try (exfalso;omega))
  | ((with_reducible refine J20 86 rfl (fun hb86=>?_) (fun hb86=>?_))
     all_goals
      try simp [within] at hb86
      try (exfalso;omega))
  | ((with_reducible refine J20 92 rfl (fun hb92=>?_) (fun hb92=>?_))
     all_goals
      try simp [within] at hb92
      try (exfalso;omega))
  | ((with_reducible refine J20 93 rfl (fun hb93=>?_) (fun hb93=>?_))
     all_goals
      try simp [within] at hb93
      try (exfalso;omega))
  | ((with_reducible refine J20 100 rfl (fun hb100=>?_) (fun hb100=>?_))
     all_goals
      try simp [within] at hb100
      try (exfalso;omega))
  | ((with_reducible refine J20 101 rfl (fun hb101=>?_) (fun hb101=>?_))
     all_goals
      try simp [within] at hb101
      try (exfalso;omega))
  | ((with_reducible refine J20 108 rfl (fun hb108=>?_) (fun hb108=>?_))
     all_goals
      try simp [within] at hb108
      try (exfalso;omega))
  | ((with_reducible refine J20 109 rfl (fun hb109=>?_) (fun hb109=>?_))
     all_goals
      try simp [within] at hb109
      try (exfalso;omega))
  | ((with_reducible refine J20 116 rfl (fun hb116=>?_) (fun hb116=>?_))
     all_goals
      try simp [within] at hb116
      try (exfalso;omega))
  | ((with_reducible refine J20 117 rfl (fun hb117=>?_) (fun hb117=>?_))
     all_goals
      try simp [within] at hb117
      try (exfalso;omega))
  | ((with_reducible refine J20 124 rfl (fun hb124=>?_) (fun hb124=>?_))
     all_goals
      try simp [within] at hb124
      try (exfalso;omega))
  | ((with_reducible first|refine ctrK.normal ?_|refine ctrK.ret ?_)
     simp only [go_sem,resA,resV,backK,seval]
     refine ⟨rfl,?_⟩
     first|(subst_vars;simp [operandErr,within,Prg.fn,w64, *];done)|(simp only [operandErr,within,Prg.fn,w64];simp [*];done)|(simp only [operandErr,within,Prg.fn,w64];simp [*];omega)|(simp_all [operandErr,within];done))
end Go.Eng.Tryz
namespace Go.Eng.Tryz
open Go.RowKit Go.Eng
set_option maxHeartbeats 0
set_option maxRecDepth 20000
def lv125:List (Nat × List Nat):=[(0,[3,4,5]),(1,[3,4,5,21]),(2,[6]),(3,[3,4,5,7]),(4,[3,4,5,7,8]),(5,[3,4,5,7,8,9]),(6,[3,4,5,7,8,9,35]),(7,[3,4,5,7,8,9]),(8,[3,4,5,7,8,9,47]),(9,[6]),(10,[3,4,5,7,8,10]),(11,[3,4,5,7,8,10,49]),(12,[3,4,5,7,8,10]),(13,[3,4,5,7,8,10,11]),(14,[3,4,5,7,8,10,11,63]),(15,[6]),(16,[6])]
theorem instr_ctr (p:Prg) (f:Fnc) (i:Instr) (hp:p.Fit) (hf:f.Fit):Ctr Go.Proofs.Tryz.prog tab 125 [26,121,129] [3] [p.v,f.v,i.v] [.int (instrErr p f i)]:=by
 refine Ctr.body ok Go.Proofs.Tryz.func125 rfl rfl 65 rfl [.tmp 6] rfl (by simp [fromVs]) ?_
 simp only [fromVs,fromV,args0,V.toList_list,V.toInt_int,V.toBool_bool,Nat.zero_add,Nat.reduceAdd,ty26,ty121,ty129]
 repeat' first
  | ((with_reducible first|refine SARA.do fun R1 hR1=>?_|refine SARQ.do fun R1 hR1=>?_);(simp only [go_sem,seval,-List.reduceReplicate,formB_at,formB_size]);(repeat' with_reducible refine And.intro ?_ ?_);all_goals first|(refine hR1 _ ?_;clear hR1 R1)|((first|refine ⟨_,_,rfl,_,CallQ.ctr ok (local_ctr _) (by first|rfl|(simp [go_sem];done)|fail) rfl,?_⟩|refine ⟨_,_,rfl,_,fun hg=>CallQ.ctr ok (local_ctr _) (by first|rfl|(simp [go_sem];done)|fail) rfl,?_⟩|refine cq (cc (local_ctr _)) ?_|refine ⟨_,_,rfl,.inl ⟨_,fun hg=>CallQ.ctr ok (local_ctr _) (by first|rfl|(simp [go_sem];done)|fail) rfl,?_⟩⟩|refine ⟨_,_,rfl,_,CallQ.ctr ok (visible_ctr _) (by first|rfl|(simp [go_sem];done)|fail) rfl,?_⟩|refine ⟨_,_,rfl,_,fun hg=>CallQ.ctr ok (visible_ctr _) (by first|rfl|(simp [go_sem];done)|fail) rfl,?_⟩|refine cq (cc (visible_ctr _)) ?_|refine ⟨_,_,rfl,.inl ⟨_,fun hg=>CallQ.ctr ok (visible_ctr _) (by first|rfl|(simp [go_sem];done)|fail) rfl,?_⟩⟩|refine ⟨_,_,rfl,_,CallQ.ctr ok (form_ctr _) (by first|rfl|(simp [go_sem];done)|fail) rfl,?_⟩|refine ⟨_,_,rfl,_,fun hg=>CallQ.ctr ok (form_ctr _) (by first|rfl|(simp [go_sem];done)|fail) rfl,?_⟩|refine cq (cc (form_ctr _)) ?_|refine ⟨_,_,rfl,.inl ⟨_,fun hg=>CallQ.ctr ok (form_ctr _) (by first|rfl|(simp [go_sem];done)|fail) rfl,?_⟩⟩|refine ⟨_,_,rfl,_,CallQ.ctr ok (operand_ctr p f _ _ i hp hf (fun h=>oper_112 hz h)) (by first|rfl|(simp [go_sem];done)|fail) rfl,?_⟩|refine ⟨_,_,rfl,_,fun hg=>CallQ.ctr ok (operand_ctr p f _ _ i hp hf (fun h=>oper_112 hz h)) (by first|rfl|(simp [go_sem];done)|fail) rfl,?_⟩|refine cq (cc (operand_ctr p f _ _ i hp hf (fun h=>oper_112 hz h))) ?_|refine ⟨_,_,rfl,.inl ⟨_,fun hg=>CallQ.ctr ok (operand_ctr p f _ _ i hp hf (fun h=>oper_112 hz h)) (by first|rfl|(simp [go_sem];done)|fail) rfl,?_⟩⟩);all_goals ((try simp only [go_sem,seval,-List.reduceReplicate,formB_at,formB_size]);(repeat' with_reducible refine And.intro ?_ ?_);all_goals first|(refine hR1 _ ?_;clear hR1 R1)|omega|rfl|decide|assumption|(intro _;omega)|(simp;done)|(simp;omega)|(simp [roomFor,maxLen]<;>omega)))|omega|rfl|decide|assumption|(intro _;omega)|(simp;done)|(simp;omega)|(simp [roomFor,maxLen]<;>omega))
  | ((with_reducible refine SARA.nil ?_);refine hR _ ?_;clear hR R;try simp only [go_sem,lv125,lvOf,Nat.reduceBEq,Option.getD_some])
  | ((with_reducible refine SARQ.nil ?_);refine hR _ ?_;clear hR R;try simp only [go_sem,lv125,lvOf,Nat.reduceBEq,Option.getD_some])
  | (with_reducible first|refine J1 ?_|refine J2 ?_|refine J3 ?_|refine J4 ?_|refine J5 ?_|refine J6 ?_|refine J7 ?_|refine J8 (by decide) ?_|refine J9 ?_|refine J10 ?_|refine J11 ?_|refine J12 ?_|refine J13 ?_|refine J14 ?_|refine J15 ?_|refine J16 ?_|refine J17 ?_|refine J18 ?_|refine J19 ?_)
  | ((with_reducible refine J21 ok (by kernel_rfl) lv125 ?_);intro R hR;simp only [go_sem,strip])
  | ((with_reducible refine SA.regionD ok mixed (by kernel_rfl) (by kernel_rfl) lv125 ?_);intro R hR;simp only [go_sem,strip])
  | ((with_reducible refine J20 21 rfl (fun hb21=>?_) (fun hb21=>?_))
     all_goals
      try simp at hb21
      try (exfalso;omega))
  | ((with_reducible refine J20 35 rfl (fun hb35=>?_) (fun hb35=>?_))
     all_goals
      try simp at hb35
      try (exfalso;omega))
  | ((with_reducible refine J20 47 rfl (fun hb47=>?_) (fun hb47=>?_))
     all_goals
      try simp at hb47
      try (exfalso;omega))
  | ((with_reducible refine J20 49 rfl (fun hb49=>?_) (fun hb49=>?_))
     all_goals
      try simp at hb49
      try (exfalso;omega))
  | ((with_reducible refine J20 63 rfl (fun hb63=>?_) (fun hb63=>?_))
     all_goals
      try simp at hb63
      try (exfalso;omega))
  | ((with_reducible refine SA.atLoop ?_)
     refine SA.weaken (St.le.of_eq (by first|rfl|(simp;done)|fail)) (SA.loop (fun n τ=>∃ (j:Nat),n=4-j∧(j≤4∧(isLocal i.op=true∨isVisible i.op=true)∧unusedTo i j=false)∧τ={ tm:=[(3,true,.ptr 0 [] 26),(4,true,.ptr 1 [] 121),(5,true,.ptr 2 [] 129),(7,true,.str (formB i.op)),(8,true,.ptr 3 [] 29),(9,true,.int .i64 j)],ob:=[.var 26 (.data 26 p.v),.var 121 (.data 121 f.v),.var 129 (.data 129 i.v),.var 29 (.data 29 (.agg [.int i.a,.int i.b,.int i.c,.int i.n]))],out:=[],nt:=65 }) (4) ⟨0,rfl,⟨by omega,by cases h1:isLocal i.op<;>simp_all,rfl⟩,rfl⟩ ?_)
     rintro n τ ⟨j,hn,⟨hj,hv,hu⟩,rfl⟩
     have h4:=formL_four hv)
  | ((with_reducible refine SA.atLoop ?_)
     refine SA.weaken (St.le.of_eq (by first|rfl|(simp;done)|fail)) (SA.loop (fun n τ=>∃ (j:Nat),n=4-j∧(j≤4∧(isLocal i.op=true∨isVisible i.op=true)∧unusedTo i 4=false∧operTo p f i j=0)∧τ={ tm:=[(3,true,.ptr 0 [] 26),(4,true,.ptr 1 [] 121),(5,true,.ptr 2 [] 129),(7,true,.str (formB i.op)),(8,true,.ptr 3 [] 29),(10,true,.int .i64 j)],ob:=[.var 26 (.data 26 p.v),.var 121 (.data 121 f.v),.var 129 (.data 129 i.v),.var 29 (.data 29 (.agg [.int i.a,.int i.b,.int i.c,.int i.n]))],out:=[],nt:=65 }) (4) ⟨0,rfl,⟨by omega,hv,(show j=4 by omega)▸hu,rfl⟩,rfl⟩ ?_)
     rintro n τ ⟨j,hn,⟨hj,hv,hu,hz⟩,rfl⟩
     have h4:=formL_four hv)
  | ((with_reducible refine loopK.round ?_)
     first
      | (have hlt:j<4:=by omega
         refine loopK.normal (4-(j+1)) _ (by omega) (St.le.of_eq (by simp only [wrap_succ hlt (by decide:4≤maxLen)])) ⟨j+1,rfl,⟨hlt,hv,?_⟩,rfl⟩
         have e:letterAt i j=45→i.field j=0:=by simpa only [letterAt,List.getD_eq_getElem?_getD] using hb47
         rw [unusedTo_succ,hu]
         simpa using e)
      | (have hlt:j<4:=by omega
         refine loopK.normal (4-(j+1)) _ (by omega) (St.le.of_eq (by simp only [wrap_succ hlt (by decide:4≤maxLen)])) ⟨j+1,rfl,⟨hlt,hv,hu,?_⟩,rfl⟩
         rw [operTo_succ,hz,if_neg (by simp)]
         exact hb63))
  | ((with_reducible first|refine ctrK.normal ?_|refine ctrK.ret ?_)
     simp only [go_sem,resA,resV,backK,seval]
     first
      | (refine ⟨rfl,?_⟩
         have e:letterAt i j=45∧¬i.field j=0:=by simpa only [letterAt,List.getD_eq_getElem?_getD] using hb47
         have h1:unusedTo i (j+1)=true:=by rw [unusedTo_succ,hu];simp [e]
         have h2:=unusedTo_end h1 (4-(j+1))
         rw [show j+1+(4-(j+1))=4 by omega] at h2
         simp only [instrErr,h2,if_true]
         rw [if_neg (by intro h;rcases hv with hv|hv<;>simp [hv] at h)])
      | (refine ⟨rfl,?_⟩
         have h1:operTo p f i (j+1)=operandErr p f (letterAt i j) (i.field j) i:=by rw [operTo_succ,hz,if_neg (by simp)]
         have h2:=operTo_end (n:=j+1) (by rw [h1];exact hb63) (4-(j+1))
         rw [show j+1+(4-(j+1))=4 by omega,h1] at h2
         simp only [instrErr,h2,hu]
         rw [if_neg (by intro h;rcases hv with hv|hv<;>simp [hv] at h)]
         rfl)
      | (refine ⟨rfl,?_⟩
         have hj4:j=4:=by omega
         subst hj4
         simp only [instrErr,hz,hu]
         rw [if_neg (by intro h;rcases hv with hv|hv<;>simp [hv] at h)]
         rfl)
      | (refine ⟨rfl,?_⟩
         simp [instrErr,hb21]))
def lv123:List (Nat × List Nat):=[(0,[0,3]),(1,[3,35]),(2,[4]),(3,[3,51]),(4,[4]),(5,[53,54,55]),(6,[53,54,55,56]),(7,[6,53,54,55]),(8,[53,54,55,68]),(9,[4]),(10,[53,54,55]),(11,[4])]
theorem formed_ctr (m:Int) (f:Fnc) (hf:f.Fit):Ctr Go.Proofs.Tryz.prog tab 123 [3,121] [4] [.int m,f.v] [.bool (formed m f)]:=by
 obtain ⟨hf1,hf2,hf3⟩:=hf
 refine Ctr.body ok Go.Proofs.Tryz.func123 rfl rfl 70 rfl [.tmp 4] rfl (by simp [fromVs]) ?_
 simp only [fromVs,fromV,args0,V.toList_list,V.toInt_int,V.toBool_bool,Nat.zero_add,Nat.reduceAdd,ty3,ty121]
 repeat' first
  | ((with_reducible refine SARA.told 7 1 ?_)
     rw [getD_sels (by omega)])
  | ((with_reducible refine SARA.do fun R1 hR1=>?_);(simp only [go_sem,seval,-List.reduceReplicate]);(repeat' with_reducible refine And.intro ?_ ?_);all_goals first|(refine hR1 _ ?_;clear hR1 R1)|omega|rfl|decide|assumption|(intro _;omega)|(simp;done)|(simp;omega)|(simp [roomFor,maxLen]<;>omega))
  | ((with_reducible refine SARA.nil ?_);refine hR _ ?_;clear hR R;try simp only [go_sem,lv123,lvOf,Nat.reduceBEq,Option.getD_some])
  | (with_reducible first|refine J1 ?_|refine J2 ?_|refine J3 ?_|refine J4 ?_|refine J5 ?_|refine J6 ?_|refine J7 ?_|refine J8 (by decide) ?_|refine J9 ?_|refine J10 ?_|refine J11 ?_|refine J12 ?_|refine J13 ?_|refine J14 ?_|refine J15 ?_|refine J16 ?_|refine J17 ?_|refine J18 ?_|refine J19 ?_)
  | ((with_reducible refine SA.at 8 ?_)
     have hc3:=hf3 _ (getD_mem_sels (i:=j) (by omega))
     (with_reducible refine J21 ok (by kernel_rfl) lv123 ?_);intro R hR;simp only [go_sem,strip])
  | ((with_reducible refine J21 ok (by kernel_rfl) lv123 ?_);intro R hR;simp only [go_sem,strip])
  | ((with_reducible refine J20 35 rfl (fun hb35=>?_) (fun hb35=>?_))
     all_goals
      try simp [-List.getD_eq_getElem?_getD] at hb35
      try (exfalso;omega))
  | ((with_reducible refine J20 51 rfl (fun hb51=>?_) (fun hb51=>?_))
     all_goals
      try simp [-List.getD_eq_getElem?_getD] at hb51
      try (exfalso;omega))
  | ((with_reducible refine J20 56 rfl (fun hb56=>?_) (fun hb56=>?_))
     all_goals
      try simp [-List.getD_eq_getElem?_getD] at hb56
      try (exfalso;omega))
  | ((with_reducible refine J20 68 rfl (fun hb68=>?_) (fun hb68=>?_))
     all_goals
      try simp [-List.getD_eq_getElem?_getD] at hb68
      try (exfalso;omega))
  | ((with_reducible refine SA.atLoop ?_)
     refine SA.weaken (St.le.of_eq (by first|rfl|(simp;done)|fail)) (SA.loop (fun n τ=>∃ (j:Nat),n=f.sels.length-j∧(j≤f.sels.length∧selsShort f j=true)∧τ={ tm:=[(53,true,.fs 124 (f.sels.map Sel.v) false),(54,true,.int .i64 f.sels.length),(55,true,.int .i64 j)],ob:=[.var 121 (.data 121 f.v)],out:=[],nt:=70 }) (f.sels.length) ⟨0,rfl,⟨by omega,rfl⟩,rfl⟩ ?_)
     rintro n τ ⟨j,hn,⟨hj,hs⟩,rfl⟩)
  | ((with_reducible refine loopK.round ?_)
     first
      | (have hlt:j<f.sels.length:=by omega
         refine loopK.normal (f.sels.length-(j+1)) _ (by omega) ((St.le.cut 1 rfl).trans (St.le.of_eq (by simp only [wrap_succ hlt hf2,List.take_succ_cons,List.take_zero]))) ⟨j+1,rfl,⟨hlt,?_⟩,rfl⟩
         unfold selsShort at hs ⊢
         rw [all_take _ _ hlt,hs]
         simp only [Bool.true_and,Bool.and_eq_true,decide_eq_true_eq]
         omega))
  | ((with_reducible first|refine ctrK.normal ?_|refine ctrK.ret ?_)
     simp only [go_sem,resA,resV,backK,seval]
     first
      | (refine ⟨rfl,?_⟩
         have e:=all_miss (f:=fun s:Sel=>decide (1≤s.cases.length)&&decide (s.cases.length≤4)) (b:=f.sels) (i:=j) (by omega) (by simp only [Bool.and_eq_false_iff,decide_eq_false_iff_not];omega)
         unfold formed selsShort
         rw [List.take_length,e,if_neg (by omega),if_neg (by omega)])
      | (refine ⟨rfl,?_⟩
         have e:j=f.sels.length:=by omega
         subst e
         unfold formed
         rw [hs,if_neg (by omega),if_neg (by omega)])
      | (refine ⟨rfl,?_⟩
         unfold formed
         rw [if_pos (by omega)])
      | (refine ⟨rfl,?_⟩
         unfold formed
         rw [if_neg (by omega),if_pos (by omega)]))
def lv124:List (Nat × List Nat):=[(0,[2,3]),(1,[2,3,10,11,12]),(2,[2,3,10,11,12,13]),(3,[2,3,6,10,11,12]),(4,[2,3,6,10,11,12,17,18,19]),(5,[2,3,6,10,11,12,17,18,19,20]),(6,[2,3,6,8,10,11,12,17,18,19]),(7,[2,3,6,8,10,11,12,17,18,19,29]),(8,[4]),(9,[2,3,6,8,10,11,12,17,18,19,44]),(10,[4]),(11,[2,3,6,8,10,11,12,17,18,19,55]),(12,[4]),(13,[2,3,6,10,11,12,17,18,19,62]),(14,[4]),(15,[2,3,6,10,11,12,17,18,19]),(16,[2,3,10,11,12,75]),(17,[4]),(18,[2,3,10,11,12]),(19,[4])]
theorem selects_ctr (p:Prg) (f:Fnc) (hp:p.Fit) (hf:f.Fit):Ctr Go.Proofs.Tryz.prog tab 124 [26,121] [3] [p.v,f.v] [.int (selsErr p f f.sels.length)]:=by
 obtain ⟨hp1,hp2,hp3,hp4⟩:=hp
 obtain ⟨hf1,hf2,hf3⟩:=hf
 refine Ctr.body ok Go.Proofs.Tryz.func124 rfl rfl 77 rfl [.tmp 4] rfl (by simp [fromVs]) ?_
 simp only [fromVs,fromV,args0,V.toList_list,V.toInt_int,V.toBool_bool,Nat.zero_add,Nat.reduceAdd,ty26,ty121]
 repeat' first
  | ((with_reducible refine SARA.told 3 1 ?_)
     rw [getD_sels (by omega)])
  | ((with_reducible refine SARA.told 6 1 ?_)
     rw [getD_cass (by omega)])
  | ((with_reducible refine SARA.do fun R1 hR1=>?_);(simp only [go_sem,seval,-List.reduceReplicate]);(repeat' with_reducible refine And.intro ?_ ?_);all_goals first|(refine hR1 _ ?_;clear hR1 R1)|((first|refine cq (cc (within_ctr _ _)) ?_|refine ⟨_,_,rfl,.inl ⟨_,fun hg=>CallQ.ctr ok (within_ctr _ _) (by first|rfl|(simp [go_sem];done)|fail) rfl,?_⟩⟩);all_goals ((try simp only [go_sem,seval,-List.reduceReplicate]);(repeat' with_reducible refine And.intro ?_ ?_);all_goals first|(refine hR1 _ ?_;clear hR1 R1)|omega|rfl|decide|assumption|(intro _;omega)|(simp;done)|(simp;omega)|(simp [roomFor,maxLen]<;>omega)))|omega|rfl|decide|assumption|(intro _;omega)|(simp;done)|(simp;omega)|(simp [roomFor,maxLen]<;>omega))
  | ((with_reducible refine SARA.nil ?_);refine hR _ ?_;clear hR R;try simp only [go_sem,lv124,lvOf,Nat.reduceBEq,Option.getD_some])
  | (with_reducible first|refine J1 ?_|refine J2 ?_|refine J3 ?_|refine J4 ?_|refine J5 ?_|refine J6 ?_|refine J7 ?_|refine J8 (by decide) ?_|refine J9 ?_|refine J10 ?_|refine J11 ?_|refine J12 ?_|refine J13 ?_|refine J14 ?_|refine J15 ?_|refine J16 ?_|refine J17 ?_|refine J18 ?_|refine J19 ?_)
  | ((with_reducible refine SA.at 4 ?_)
     have hc3:=hf3 _ (getD_mem_sels (i:=i) (by omega))
     (with_reducible refine J21 ok (by kernel_rfl) lv124 ?_);intro R hR;simp only [go_sem,strip])
  | ((with_reducible refine J21 ok (by kernel_rfl) lv124 ?_);intro R hR;simp only [go_sem,strip])
  | ((with_reducible refine J20 13 rfl (fun hb13=>?_) (fun hb13=>?_))
     all_goals
      try simp [within,-List.getD_eq_getElem?_getD] at hb13
      try (exfalso;omega))
  | ((with_reducible refine J20 20 rfl (fun hb20=>?_) (fun hb20=>?_))
     all_goals
      try simp [within,-List.getD_eq_getElem?_getD] at hb20
      try (exfalso;omega))
  | ((with_reducible refine J20 29 rfl (fun hb29=>?_) (fun hb29=>?_))
     all_goals
      try simp [within,-List.getD_eq_getElem?_getD] at hb29
      try (exfalso;omega))
  | ((with_reducible refine J20 44 rfl (fun hb44=>?_) (fun hb44=>?_))
     all_goals
      try simp [within,-List.getD_eq_getElem?_getD] at hb44
      try (exfalso;omega))
  | ((with_reducible refine J20 55 rfl (fun hb55=>?_) (fun hb55=>?_))
     all_goals
      try simp [within,-List.getD_eq_getElem?_getD] at hb55
      try (exfalso;omega))
  | ((with_reducible refine J20 62 rfl (fun hb62=>?_) (fun hb62=>?_))
     all_goals
      try simp [within,-List.getD_eq_getElem?_getD] at hb62
      try (exfalso;omega))
  | ((with_reducible refine J20 75 rfl (fun hb75=>?_) (fun hb75=>?_))
     all_goals
      try simp [within,-List.getD_eq_getElem?_getD] at hb75
      try (exfalso;omega))
  | ((with_reducible refine SA.atLoop ?_)
     refine SA.weaken (St.le.of_eq (by first|rfl|(simp;done)|fail)) (SA.loop (fun n τ=>∃ (i:Nat),n=f.sels.length-i∧(i≤f.sels.length∧selsErr p f i=0)∧τ={ tm:=[(2,true,.ptr 0 [] 26),(3,true,.ptr 1 [] 121),(10,true,.fs 124 (f.sels.map Sel.v) false),(11,true,.int .i64 f.sels.length),(12,true,.int .i64 i)],ob:=[.var 26 (.data 26 p.v),.var 121 (.data 121 f.v)],out:=[],nt:=77 }) (f.sels.length) ⟨0,rfl,⟨by omega,rfl⟩,rfl⟩ ?_)
     rintro n τ ⟨i,hn,⟨hi,hz⟩,rfl⟩)
  | ((with_reducible refine SA.atLoop ?_)
     refine SA.weaken (St.le.of_eq (by first|rfl|(simp;done)|fail)) (SA.loop (fun n τ=>∃ (j:Nat),n=(f.sels.getD i default).cases.length-j∧(j≤(f.sels.getD i default).cases.length∧casesErr p f (f.sels.getD i default) j=0)∧τ={ tm:=[(2,true,.ptr 0 [] 26),(3,true,.ptr 1 [] 121),(6,true,.ptr 2 [] 124),(10,true,.fs 124 (f.sels.map Sel.v) false),(11,true,.int .i64 f.sels.length),(12,true,.int .i64 i),(17,true,.fs 156 ((f.sels.getD i default).cases.map Cas.v) false),(18,true,.int .i64 (f.sels.getD i default).cases.length),(19,true,.int .i64 j)],ob:=[.var 26 (.data 26 p.v),.var 121 (.data 121 f.v),.var 124 (.data 124 (f.sels.getD i default).v)],out:=[],nt:=77 }) ((f.sels.getD i default).cases.length) ⟨0,rfl,⟨by omega,rfl⟩,rfl⟩ ?_)
     rintro n τ ⟨j,hn,⟨hj,hc⟩,rfl⟩)
  | ((with_reducible refine loopK.round ?_)
     first
      | (have hlt:i<f.sels.length:=by omega
         refine loopK.normal (f.sels.length-(i+1)) _ (by omega) ((St.le.cut 2 rfl).trans (St.le.of_eq (by simp only [wrap_succ hlt hf2,List.take_succ_cons,List.take_zero]))) ⟨i+1,rfl,⟨hlt,?_⟩,rfl⟩
         have hjc:j=(f.sels.getD i default).cases.length:=by omega
         subst hjc
         rw [selsErr_succ p f hlt,if_neg (fun q=>q hz)]
         simp only [selErr,hc]
         rw [if_neg (fun q=>q rfl),if_neg (by rw [within_false];rintro ⟨q1,q2⟩;have:=hb75 q1;omega)])
      | (have hlt:j<(f.sels.getD i default).cases.length:=by omega
         refine loopK.normal ((f.sels.getD i default).cases.length-(j+1)) _ (by omega) ((St.le.cut 3 rfl).trans (St.le.of_eq (by simp only [wrap_succ hlt hc3,List.take_succ_cons,List.take_zero]))) ⟨j+1,rfl,⟨hlt,?_⟩,rfl⟩
         rw [casesErr_succ p f _ hlt,if_neg (fun q=>q hc)]
         exact caseErr_0 hb29 hb44 hb55 hb62))
  | ((with_reducible first|refine ctrK.normal ?_|refine ctrK.ret ?_)
     simp only [go_sem,resA,resV,backK,seval]
     first
      | (exact ⟨rfl,congrArg (fun e=>some (V.int e)) (selects_hit (by omega) hz (by omega) hc (caseErr_36 hb29) (by decide)).symm⟩)
      | (exact ⟨rfl,congrArg (fun e=>some (V.int e)) (selects_hit (by omega) hz (by omega) hc (caseErr_35 hb29 hb44) (by decide)).symm⟩)
      | (exact ⟨rfl,congrArg (fun e=>some (V.int e)) (selects_hit (by omega) hz (by omega) hc (caseErr_37 hb29 hb44 hb55) (by decide)).symm⟩)
      | (exact ⟨rfl,congrArg (fun e=>some (V.int e)) (selects_hit (by omega) hz (by omega) hc (caseErr_38 hb29 hb44 hb55 hb62) (by decide)).symm⟩)
      | (have hjc:j=(f.sels.getD i default).cases.length:=by omega
         subst hjc
         refine ⟨rfl,congrArg (fun e=>some (V.int e)) (sels_hit (by omega) hz ?_ (by decide)).symm⟩
         simp only [selErr,hc]
         rw [if_neg (fun q=>q rfl),if_pos ⟨hb75.1,within_false.2 hb75.2⟩])
      | (have e:i=f.sels.length:=by omega
         subst e
         exact ⟨rfl,congrArg (fun e=>some (V.int e)) hz.symm⟩))
end Go.Eng.Tryz
namespace Go.Eng.Tryz
open Go.RowKit Go.Eng
set_option maxHeartbeats 0
set_option maxRecDepth 20000
def lv70:List (Nat × List Nat):=[(0,[1,3]),(1,[1,3,43]),(2,[2,3]),(3,[1,3,46,47,48]),(4,[1,3,46,47,48,49]),(5,[1,3,5,46,47,48]),(6,[1,3,46,47,48,57]),(7,[2,3]),(8,[1,3,46,47,48]),(9,[1,3,61,62,63]),(10,[1,3,61,62,63,64]),(11,[1,3,6,7,61,62,63]),(12,[1,3,6,7,61,62,63,71]),(13,[2,3]),(14,[1,3,6,7,8,61,62,63]),(15,[1,3,6,7,8,61,62,63,78]),(16,[2,3]),(17,[1,3,6,7,61,62,63,83,84,85]),(18,[1,3,6,7,61,62,63,83,84,85,86]),(19,[1,3,6,7,9,10,61,62,63,83,84,85]),(20,[1,3,6,7,8,9,61,62,63,83,84,85]),(21,[1,3,6,7,8,9,61,62,63,83,84,85,95]),(22,[2,3]),(23,[1,3,6,7,61,62,63,83,84,85]),(24,[1,3,6,7,11,61,62,63]),(25,[1,3,6,7,61,62,63,119]),(26,[2,3]),(27,[1,3,61,62,63]),(28,[2,3])]
theorem check_ctr (p:Prg) (hp:p.Fit):Ctr Go.Proofs.Tryz.prog tab 70 [26] [3,142] [p.v] [.int (checkP p),.agg [.int (spotP p).1,.int (spotP p).2]]:=by
 have hpf:=hp
 obtain ⟨hp1,hp2,hp3,hp4⟩:=hp
 refine Ctr.body ok Go.Proofs.Tryz.func70 rfl rfl 128 rfl [.tmp 2,.cell 3 142] rfl (by simp [fromVs]) ?_
 simp only [fromVs,fromV,args0,V.toList_list,V.toInt_int,V.toBool_bool,Nat.zero_add,Nat.reduceAdd,ty26]
 repeat' first
  | ((with_reducible refine SARA.told 11 2 ?_)
     rw [getD_fncs (by omega)])
  | ((with_reducible refine SARA.told 19 2 ?_)
     rw [getD_instrs (by omega)])
  | ((with_reducible refine SARA.told 24 6 ?_)
     have e1:IntKind.i64.wrap (((p.funcs.getD i default).code.length:Int)-1)=(((p.funcs.getD i default).code.length-1:Nat):Int):=by rw [wrap64_ok (by unfold maxLen at hcl;omega) (by unfold maxLen at hcl;omega)];omega
     rw [e1])
  | ((with_reducible refine SARA.told 24 7 ?_)
     rw [getD_instrs (by omega)])
  | ((with_reducible refine SART.told 26 4 ?_)
     have e1:IntKind.i64.wrap (((p.funcs.getD i default).code.length:Int)-1)=((p.funcs.getD i default).code.length:Int)-1:=wrap64_ok (by unfold maxLen at hcl;omega) (by unfold maxLen at hcl;omega)
     rw [e1])
  | ((with_reducible first|refine SARA.do fun R1 hR1=>?_|refine SART.do fun R1 hR1=>?_|refine SARB.keep fun R1 hR1=>?_|refine SARB.any fun R1 hR1=>?_);(simp only [go_sem,seval,-List.reduceReplicate,zero142,z142,z3,zero142,z142,z3]);(repeat' with_reducible refine And.intro ?_ ?_);all_goals first|(refine hR1 _ ?_;clear hR1 R1)|((first|refine cq (cc (formed_ctr _ _ hfi)) ?_|refine cq (cc (selects_ctr p _ hpf hfi)) ?_|refine cq (cc (instr_ctr p _ _ hpf hfi)) ?_);all_goals ((try simp only [go_sem,seval,-List.reduceReplicate,zero142,z142,z3,zero142,z142,z3]);(repeat' with_reducible refine And.intro ?_ ?_);all_goals first|(refine hR1 _ ?_;clear hR1 R1)|omega|rfl|decide|assumption|(intro _;omega)|(simp;done)|(simp;omega)|(simp [roomFor,maxLen]<;>omega)))|omega|rfl|decide|assumption|(intro _;omega)|(simp;done)|(simp;omega)|(simp [roomFor,maxLen]<;>omega))
  | ((with_reducible refine SART.done ?_);refine hR _ ?_;clear hR R;try simp only [go_sem,lv70,lvOf,Nat.reduceBEq,Option.getD_some])
  | (with_reducible first|refine SART.br ?_ ?_|exact SARL.nil|refine SARL.cons ?_ ?_)
  | ((with_reducible refine SARA.nil ?_);refine hR _ ?_;clear hR R;try simp only [go_sem,lv70,lvOf,Nat.reduceBEq,Option.getD_some])
  | (with_reducible first|refine J1 ?_|refine J2 ?_|refine J3 ?_|refine J4 ?_|refine J5 ?_|refine J6 ?_|refine J7 ?_|refine J8 (by decide) ?_|refine J9 ?_|refine J10 ?_|refine J11 ?_|refine J12 ?_|refine J13 ?_|refine J14 ?_|refine J15 ?_|refine J16 ?_|refine J17 ?_|refine J18 ?_|refine J19 ?_)
  | ((with_reducible refine SA.at 11 ?_)
     have hfi:=hp4 (p.funcs.getD i default) (getD_mem _ (by omega))
     (with_reducible refine J21 ok (by kernel_rfl) lv70 ?_);intro R hR;simp only [go_sem,strip])
  | ((with_reducible refine SA.at 17 ?_)
     have hcl:=hfi.1
     (with_reducible refine J21 ok (by kernel_rfl) lv70 ?_);intro R hR;simp only [go_sem,strip])
  | ((with_reducible refine SA.at 24 ?_)
     obtain ⟨hl0,hl1,hl2,hl3⟩:=formed_len hb71
     (with_reducible refine J21 ok (by kernel_rfl) lv70 ?_);intro R hR;simp only [go_sem,strip])
  | ((with_reducible refine SA.at 26 ?_)
     refine SA.regionT ok mixed (.take 0 (.take 1 (.take 2 (.take 3 (.take 4 (.take 5 (.take 6 (.br 7 .done .nil)))))))) [7] lv70 (by kernel_rfl) (fun R hR=>?_);simp only [go_sem,strip])
  | ((with_reducible refine J21 ok (by kernel_rfl) lv70 ?_);intro R hR;simp only [go_sem,strip])
  | ((with_reducible refine J20 43 rfl (fun hb43=>?_) (fun hb43=>?_))
     all_goals
      try simp [-List.getD_eq_getElem?_getD] at hb43
      try (exfalso;omega))
  | ((with_reducible refine J20 49 rfl (fun hb49=>?_) (fun hb49=>?_))
     all_goals
      try simp [-List.getD_eq_getElem?_getD] at hb49
      try (exfalso;omega))
  | ((with_reducible refine J20 57 rfl (fun hb57=>?_) (fun hb57=>?_))
     all_goals
      try simp [-List.getD_eq_getElem?_getD] at hb57
      try (exfalso;omega))
  | ((with_reducible refine J20 64 rfl (fun hb64=>?_) (fun hb64=>?_))
     all_goals
      try simp [-List.getD_eq_getElem?_getD] at hb64
      try (exfalso;omega))
  | ((with_reducible refine J20 71 rfl (fun hb71=>?_) (fun hb71=>?_))
     all_goals
      try simp [-List.getD_eq_getElem?_getD] at hb71
      try (exfalso;omega))
  | ((with_reducible refine J20 78 rfl (fun hb78=>?_) (fun hb78=>?_))
     all_goals
      try simp [-List.getD_eq_getElem?_getD] at hb78
      try (exfalso;omega))
  | ((with_reducible refine J20 86 rfl (fun hb86=>?_) (fun hb86=>?_))
     all_goals
      try simp [-List.getD_eq_getElem?_getD] at hb86
      try (exfalso;omega))
  | ((with_reducible refine J20 95 rfl (fun hb95=>?_) (fun hb95=>?_))
     all_goals
      try simp [-List.getD_eq_getElem?_getD] at hb95
      try (exfalso;omega))
  | ((with_reducible refine J20 119 rfl (fun hb119=>?_) (fun hb119=>?_))
     all_goals
      try simp [-List.getD_eq_getElem?_getD] at hb119
      try (exfalso;omega))
  | ((with_reducible refine SA.atLoop ?_)
     refine SA.weaken (St.le.of_eq (by first|rfl|(simp;done)|fail)) (SA.loop (fun n τ=>∃ (i:Nat),n=p.chans.length-i∧(i≤p.chans.length∧Sizes p∧capsErr p i=true)∧τ={ tm:=[(1,true,.ptr 0 [] 26),(3,true,.ptr 1 [] 142),(46,true,.fs 3 (p.chans.map V.int) false),(47,true,.int .i64 p.chans.length),(48,true,.int .i64 i)],ob:=[.var 26 (.data 26 p.v),.var 142 (.data 142 (.agg [.int 0,.int 0]))],out:=[],nt:=128 }) (p.chans.length) ⟨0,rfl,⟨by omega,by unfold Sizes;omega,rfl⟩,rfl⟩ ?_)
     rintro n τ ⟨i,hn,⟨hi,hs,hc⟩,rfl⟩)
  | ((with_reducible refine SA.atLoop ?_)
     refine SA.weaken (St.le.of_eq (by first|rfl|(simp;done)|fail)) (SA.loop (fun n τ=>∃ (i:Nat),n=p.funcs.length-i∧(i≤p.funcs.length∧Sizes p∧capsErr p p.chans.length=true∧funcsErr p i=0)∧τ={ tm:=[(1,true,.ptr 0 [] 26),(3,true,.ptr 1 [] 142),(61,true,.fs 121 (p.funcs.map Fnc.v) false),(62,true,.int .i64 p.funcs.length),(63,true,.int .i64 i)],ob:=[.var 26 (.data 26 p.v),.var 142 (.data 142 (.agg [.int 0,.int 0]))],out:=[],nt:=128 }) (p.funcs.length) ⟨0,rfl,⟨by omega,hs,(show i=p.chans.length by omega)▸hc,rfl⟩,rfl⟩ ?_)
     rintro n τ ⟨i,hn,⟨hi,hs,hc,hz⟩,rfl⟩)
  | ((with_reducible refine SA.atLoop ?_)
     refine SA.weaken (St.le.of_eq (by first|rfl|(simp;done)|fail)) (SA.loop (fun n τ=>∃ (j:Nat),n=(p.funcs.getD i default).code.length-j∧(j≤(p.funcs.getD i default).code.length∧codeErr p (p.funcs.getD i default) j=0)∧τ={ tm:=[(1,true,.ptr 0 [] 26),(3,true,.ptr 1 [] 142),(6,true,.int .i64 i),(7,true,.ptr 2 [] 121),(61,true,.fs 121 (p.funcs.map Fnc.v) false),(62,true,.int .i64 p.funcs.length),(63,true,.int .i64 i),(83,true,.fs 129 ((p.funcs.getD i default).code.map Instr.v) false),(84,true,.int .i64 (p.funcs.getD i default).code.length),(85,true,.int .i64 j)],ob:=[.var 26 (.data 26 p.v),.var 142 (.data 142 (.agg [.int 0,.int 0])),.var 121 (.data 121 (p.funcs.getD i default).v)],out:=[],nt:=128 }) ((p.funcs.getD i default).code.length) ⟨0,rfl,⟨by omega,rfl⟩,rfl⟩ ?_)
     rintro n τ ⟨j,hn,⟨hj,hk⟩,rfl⟩)
  | ((with_reducible refine loopK.round ?_)
     first
      | (have hlt:i<p.chans.length:=by omega
         refine loopK.normal (p.chans.length-(i+1)) _ (by omega) (St.le.of_eq (by simp only [wrap_succ hlt hp2])) ⟨i+1,rfl,⟨hlt,hs,?_⟩,rfl⟩
         unfold capsErr at hc ⊢
         rw [all_take _ _ hlt,hc]
         simp only [Bool.true_and,Bool.and_eq_true,decide_eq_true_eq]
         exact hb57)
      | (have hlt:i<p.funcs.length:=by omega
         refine loopK.normal (p.funcs.length-(i+1)) _ (by omega) ((St.le.cut 2 rfl).trans (St.le.of_eq (by simp only [wrap_succ hlt hp3,List.take_succ_cons,List.take_zero]))) ⟨i+1,rfl,⟨hlt,hs,hc,?_⟩,rfl⟩
         have hjc:j=(p.funcs.getD i default).code.length:=by omega
         subst hjc
         rw [funcsErr_succ,if_neg (fun q=>q hz),fn_nat]
         unfold funcErr
         rw [if_neg (by rw [hb71];simp),if_neg (fun q=>q hb78),if_neg (fun q=>q hk)]
         exact if_pos (last_good hl1 hb119))
      | (have hlt:j<(p.funcs.getD i default).code.length:=by omega
         refine loopK.normal ((p.funcs.getD i default).code.length-(j+1)) _ (by omega) ((St.le.cut 3 rfl).trans (St.le.of_eq (by simp only [wrap_succ hlt hcl,List.take_succ_cons,List.take_zero]))) ⟨j+1,rfl,⟨hlt,?_⟩,rfl⟩
         rw [codeErr_succ p _ hlt,if_neg (fun q=>q hk)]
         exact hb95))
  | ((with_reducible first|refine ctrK.normal ?_|refine ctrK.ret ?_)
     simp only [go_sem,resA,resV,backK,seval]
     first
      | (obtain ⟨e1,e2⟩:=check_fall hs hc (by omega) hz hb71 hb78 ((show j=(p.funcs.getD i default).code.length by omega)▸hk) (last_bad hl1 hb119)
         exact ⟨⟨rfl,congrArg (fun e=>some (V.int e)) e1.symm⟩,⟨rfl,by rw [e2]⟩⟩)
      | (obtain ⟨e1,e2⟩:=check_code hs hc (by omega) hz hb71 hb78 (by omega) hk hb95
         exact ⟨⟨rfl,congrArg (fun e=>some (V.int e)) e1.symm⟩,⟨rfl,by rw [e2]⟩⟩)
      | (obtain ⟨e1,e2⟩:=check_sels hs hc (by omega) hz hb71 hb78
         exact ⟨⟨rfl,congrArg (fun e=>some (V.int e)) e1.symm⟩,⟨rfl,by rw [e2]⟩⟩)
      | (obtain ⟨e1,e2⟩:=check_formed hs hc (by omega) hz hb71
         exact ⟨⟨rfl,congrArg (fun e=>some (V.int e)) e1.symm⟩,⟨rfl,by rw [e2]⟩⟩)
      | (obtain ⟨e1,e2⟩:=check_ok hs hc ((show i=p.funcs.length by omega)▸hz)
         exact ⟨⟨rfl,congrArg (fun e=>some (V.int e)) e1.symm⟩,⟨rfl,by rw [e2]⟩⟩)
      | (obtain ⟨e1,e2⟩:=check_caps hs (caps_miss (i:=i) (by omega) hb57)
         exact ⟨⟨rfl,congrArg (fun e=>some (V.int e)) e1.symm⟩,⟨rfl,by rw [e2]⟩⟩)
      | (obtain ⟨e1,e2⟩:=check_sizes (p:=p) (by omega)
         exact ⟨⟨rfl,congrArg (fun e=>some (V.int e)) e1.symm⟩,⟨rfl,by rw [e2]⟩⟩))
def lv18:List (Nat × List Nat):=[(0,[1]),(1,[3]),(2,[2])]
theorem right_ctr (p:Prg) (hp:p.Fit):Ctr Go.Proofs.Tryz.prog tab 18 [26] [4] [p.v] [.bool (rightP p)]:=by
 refine Ctr.body ok Go.Proofs.Tryz.func18 rfl rfl 12 rfl [.tmp 2] rfl (by simp [fromVs]) ?_
 simp only [fromVs,fromV,args0,V.toList_list,V.toInt_int,V.toBool_bool,Nat.zero_add,Nat.reduceAdd,ty26]
 repeat' first
  | ((with_reducible refine SARA.do fun R1 hR1=>?_);(simp only [go_sem,seval,-List.reduceReplicate,zero142,z142,z3,zero142,z142,z3]);(repeat' with_reducible refine And.intro ?_ ?_);all_goals first|(refine hR1 _ ?_;clear hR1 R1)|((first|refine ce (cf (check_ctr p hp) ?_));all_goals ((try simp only [go_sem,seval,-List.reduceReplicate,zero142,z142,z3,zero142,z142,z3]);(repeat' with_reducible refine And.intro ?_ ?_);all_goals first|(refine hR1 _ ?_;clear hR1 R1)|omega|rfl|decide|assumption|(intro _;omega)|(simp;done)|(simp;omega)|(simp [roomFor,maxLen]<;>omega)))|omega|rfl|decide|assumption|(intro _;omega)|(simp;done)|(simp;omega)|(simp [roomFor,maxLen]<;>omega))
  | ((with_reducible refine SARA.nil ?_);refine hR _ ?_;clear hR R;try simp only [go_sem,lv18,lvOf,Nat.reduceBEq,Option.getD_some])
  | (with_reducible first|refine J1 ?_|refine J2 ?_|refine J3 ?_|refine J4 ?_|refine J5 ?_|refine J6 ?_|refine J7 ?_|refine J8 (by decide) ?_|refine J9 ?_|refine J10 ?_|refine J11 ?_|refine J12 ?_|refine J13 ?_|refine J14 ?_|refine J15 ?_|refine J16 ?_|refine J17 ?_|refine J18 ?_|refine J19 ?_)
  | ((with_reducible refine J21 ok (by kernel_rfl) lv18 ?_);intro R hR;simp only [go_sem,strip])
  | ((with_reducible first|refine ctrK.normal ?_|refine ctrK.ret ?_)
     simp only [go_sem,resA,resV,backK,seval]
     exact ⟨rfl,rfl⟩)
end Go.Eng.Tryz
