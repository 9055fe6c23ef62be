/- A part of the proof: walks through the program's functions, and what they compute. -/
import Derived.Test.YtedceinkpkoncaaGreatDoorPk14
import Derived.Test.YtedceinkpkoncaaGreatDoorPk13
set_option linter.unusedSimpArgs false
set_option linter.unusedVariables false
namespace Go.Eng
def ckV (p:Prg) (f:Fnc):V:=.agg [p.v,f.v]
theorem ckV0 (p:Prg) (f:Fnc) (d:V):(ckV p f).toList.getD 0 d=p.v:=rfl
theorem ckV1 (p:Prg) (f:Fnc) (d:V):(ckV p f).toList.getD 1 d=f.v:=rfl
def obErr (e x n:Int):Int:=if within x n then 0 else e
theorem obErr_zero {e x n:Int} (h:obErr e x n=0) (he:e≠0):0≤x∧x<n:=by
 unfold obErr at h
 split at h
 · rename_i q;exact within_iff.1 q
 · exact absurd h he
theorem obErr_ne {e x n:Int} (h:obErr e x n≠0):within x n=false:=by
 unfold obErr at h
 split at h
 · exact absurd rfl h
 · rename_i q;simpa using q
theorem formB_fin:∀ n:Fin 66,((formB n.val).toList == (ByteArray.mk #[]).toList)=!(isLocal n.val||isVisible n.val):=by decide +kernel
theorem formB_none (op:Int):((formB op).toList == (ByteArray.mk #[]).toList)=!(isLocal op||isVisible op):=by
 by_cases h:op<1∨65<op
 · have e:formB op=ByteArray.mk #[]:=by unfold formB;rw [formL_none h];rfl
   have h1:isLocal op=false:=by
    unfold isLocal
    rw [Bool.or_eq_false_iff,Bool.and_eq_false_iff,Bool.and_eq_false_iff]
    simp only [decide_eq_false_iff_not];omega
   have h2:isVisible op=false:=by
    unfold isVisible
    rw [Bool.and_eq_false_iff]
    simp only [decide_eq_false_iff_not];omega
   rw [e,h1,h2];simp
 · have:=formB_fin ⟨op.toNat,by omega⟩
   rwa [show ((⟨op.toNat,by omega⟩:Fin 66).val:Int)=op from by simp;omega] at this
theorem obErr_val {e x n:Int} (h:obErr e x n≠0):obErr e x n=e:=by
 have:=obErr_ne h
 unfold obErr
 rw [this];rfl
section
variable {p:Prg} {f:Fnc} {c:Cas}
theorem case36 (h:obErr 36 c.chan p.chans.length≠0):caseErr p f c=obErr 36 c.chan p.chans.length:=by
 rw [obErr_val h];exact caseErr_36 (within_false.1 (obErr_ne h))
theorem case35 (h:obErr 36 c.chan p.chans.length=0) (h1:c.send=true∨¬c.reg = -1) (h2:obErr 35 c.reg f.regs≠0):caseErr p f c=obErr 35 c.reg f.regs:=by
 rw [obErr_val h2];exact caseErr_35 (obErr_zero h (by decide)) ⟨within_false.1 (obErr_ne h2),h1⟩
theorem case_reg (h2:(c.send=false∧c.reg = -1)∨obErr 35 c.reg f.regs=0):c.reg<0∨f.regs≤c.reg→c.send=false∧c.reg = -1:=by
 intro q
 rcases h2 with h2|h2
 · exact h2
 · have:=obErr_zero h2 (by decide);omega
theorem case37 (h:obErr 36 c.chan p.chans.length=0) (h2:(c.send=false∧c.reg = -1)∨obErr 35 c.reg f.regs=0) (h3:c.send=true∧p.chans.getD c.chan.toNat 0=0):caseErr p f c=37 :=
 caseErr_37 (obErr_zero h (by decide)) (case_reg h2) h3
theorem case38 (h:obErr 36 c.chan p.chans.length=0) (h2:(c.send=false∧c.reg = -1)∨obErr 35 c.reg f.regs=0) (h3:c.send=true→¬p.chans.getD c.chan.toNat 0=0) (h4:obErr 38 c.to_ f.code.length≠0):caseErr p f c=obErr 38 c.to_ f.code.length:=by
 rw [obErr_val h4];exact caseErr_38 (obErr_zero h (by decide)) (case_reg h2) h3 (within_false.1 (obErr_ne h4))
theorem case0 (h:obErr 36 c.chan p.chans.length=0) (h2:(c.send=false∧c.reg = -1)∨obErr 35 c.reg f.regs=0) (h3:c.send=true→¬p.chans.getD c.chan.toNat 0=0) (h4:obErr 38 c.to_ f.code.length=0):caseErr p f c=0 :=
 caseErr_0 (obErr_zero h (by decide)) (case_reg h2) h3 (obErr_zero h4 (by decide))
end
def wholeErr (p:Prg):Int:=if 8<p.vars.length∨p.locks<0∨4<p.locks∨4<p.chans.length∨p.funcs.length<1∨8<p.funcs.length then 30 else if capsErr p p.chans.length=false then 31 else 0
theorem whole_hit {p:Prg} (h:wholeErr p≠0):checkP p=wholeErr p∧spotP p=(0,0):=by
 unfold wholeErr at *
 by_cases h1:8<p.vars.length∨p.locks<0∨4<p.locks∨4<p.chans.length∨p.funcs.length<1∨8<p.funcs.length
 · rw [if_pos h1];exact check_sizes h1
 · rw [if_neg h1] at h ⊢
   by_cases h2:capsErr p p.chans.length=false
   · rw [if_pos h2];exact check_caps h1 h2
   · rw [if_neg h2] at h;exact absurd rfl h
theorem whole_zero {p:Prg} (h:wholeErr p=0):Sizes p∧capsErr p p.chans.length=true:=by
 unfold wholeErr at h
 by_cases h1:8<p.vars.length∨p.locks<0∨4<p.locks∨4<p.chans.length∨p.funcs.length<1∨8<p.funcs.length
 · rw [if_pos h1] at h;cases h
 · rw [if_neg h1] at h
   by_cases h2:capsErr p p.chans.length=false
   · rw [if_pos h2] at h;cases h
   · exact ⟨h1,by simpa using h2⟩
def sizesErr (m:Int) (f:Fnc):Int:=if formed m f then 0 else 32
end Go.Eng
namespace Go.Eng.Tryz
open Go.RowKit Go.Eng
set_option maxHeartbeats 0
set_option maxRecDepth 20000
attribute [go_sem] ckV0 ckV1
def lv187:List (Nat × List Nat):=[(0,[0,1]),(1,[4])]
theorem pwithin_ctr (x n:Int):Ctr Go.Proofs.Tryz.prog tab 187 [2,3] [4] [.int x,.int n] [.bool (within x n)]:=by
 refine Ctr.body ok Go.Proofs.Tryz.func187 rfl rfl 12 rfl [.tmp 4] rfl (by simp [fromVs]) ?_
 simp only [fromVs,fromV,args0,V.toList_list,V.toInt_int,V.toBool_bool,Nat.zero_add,Nat.reduceAdd,ty2,ty3]
 repeat' first
  | ((with_reducible refine SARA.do fun R1 hR1=>?_);(simp only [go_sem,seval,-List.reduceReplicate]);(repeat' with_reducible refine And.intro ?_ ?_);all_goals first|(refine hR1 _ ?_;clear hR1 R1)|omega|rfl|decide|assumption|(intro _;omega)|(simp;done)|(simp;omega))
  | ((with_reducible refine SARA.nil ?_);refine hR _ ?_;clear hR R;try simp only [go_sem,lv187,lvOf,Nat.reduceBEq,Option.getD_some])
  | (with_reducible first|refine J1 ?_|refine J2 ?_|refine J3 ?_|refine J4 ?_|refine J5 ?_|refine J6 ?_|refine J7 ?_|refine J8 (by decide) ?_|refine J9 ?_|refine J10 ?_|refine J11 ?_|refine J12 ?_|refine J13 ?_|refine J14 ?_|refine J15 ?_|refine J16 ?_|refine J17 ?_|refine J18 ?_|refine J19 ?_)
  | ((with_reducible refine J21 ok (by kernel_rfl) lv187 ?_);intro R hR;simp only [go_sem,strip])
  | ((with_reducible first|refine ctrK.normal ?_|refine ctrK.ret ?_)
     simp only [go_sem,resA,resV,backK,seval]
     refine ⟨rfl,?_⟩
     simp only [within]
     cases decide (0≤x)<;>rfl)
def lv132:List (Nat × List Nat):=[(0,[0]),(1,[2])]
theorem plocal_ctr (x:Int):Ctr Go.Proofs.Tryz.prog tab 132 [43] [4] [.int x] [.bool (isLocal x)]:=by
 refine Ctr.body ok Go.Proofs.Tryz.func132 rfl rfl 17 rfl [.tmp 2] rfl (by simp [fromVs]) ?_
 simp only [fromVs,fromV,args0,V.toList_list,V.toInt_int,V.toBool_bool,Nat.zero_add,Nat.reduceAdd,ty43]
 repeat' first
  | ((with_reducible refine SARA.do fun R1 hR1=>?_);(simp only [go_sem,seval,-List.reduceReplicate]);(repeat' with_reducible refine And.intro ?_ ?_);all_goals first|(refine hR1 _ ?_;clear hR1 R1)|omega|rfl|decide|assumption|(intro _;omega)|(simp;done)|(simp;omega))
  | ((with_reducible refine SARA.nil ?_);refine hR _ ?_;clear hR R;try simp only [go_sem,lv132,lvOf,Nat.reduceBEq,Option.getD_some])
  | (with_reducible first|refine J1 ?_|refine J2 ?_|refine J3 ?_|refine J4 ?_|refine J5 ?_|refine J6 ?_|refine J7 ?_|refine J8 (by decide) ?_|refine J9 ?_|refine J10 ?_|refine J11 ?_|refine J12 ?_|refine J13 ?_|refine J14 ?_|refine J15 ?_|refine J16 ?_|refine J17 ?_|refine J18 ?_|refine J19 ?_)
  | ((with_reducible refine J21 ok (by kernel_rfl) lv132 ?_);intro R hR;simp only [go_sem,strip])
  | ((with_reducible first|refine ctrK.normal ?_|refine ctrK.ret ?_)
     simp only [go_sem,resA,resV,backK,seval]
     refine ⟨rfl,?_⟩
     simp only [isLocal]
     cases decide (1≤x)<;>cases decide (x≤36)<;>cases decide (40≤x)<;>rfl)
def lv144:List (Nat × List Nat):=[(0,[0]),(1,[2])]
theorem pvisible_ctr (x:Int):Ctr Go.Proofs.Tryz.prog tab 144 [43] [4] [.int x] [.bool (isVisible x)]:=by
 refine Ctr.body ok Go.Proofs.Tryz.func144 rfl rfl 9 rfl [.tmp 2] rfl (by simp [fromVs]) ?_
 simp only [fromVs,fromV,args0,V.toList_list,V.toInt_int,V.toBool_bool,Nat.zero_add,Nat.reduceAdd,ty43]
 repeat' first
  | ((with_reducible refine SARA.do fun R1 hR1=>?_);(simp only [go_sem,seval,-List.reduceReplicate]);(repeat' with_reducible refine And.intro ?_ ?_);all_goals first|(refine hR1 _ ?_;clear hR1 R1)|omega|rfl|decide|assumption|(intro _;omega)|(simp;done)|(simp;omega))
  | ((with_reducible refine SARA.nil ?_);refine hR _ ?_;clear hR R;try simp only [go_sem,lv144,lvOf,Nat.reduceBEq,Option.getD_some])
  | (with_reducible first|refine J1 ?_|refine J2 ?_|refine J3 ?_|refine J4 ?_|refine J5 ?_|refine J6 ?_|refine J7 ?_|refine J8 (by decide) ?_|refine J9 ?_|refine J10 ?_|refine J11 ?_|refine J12 ?_|refine J13 ?_|refine J14 ?_|refine J15 ?_|refine J16 ?_|refine J17 ?_|refine J18 ?_|refine J19 ?_)
  | ((with_reducible refine J21 ok (by kernel_rfl) lv144 ?_);intro R hR;simp only [go_sem,strip])
  | ((with_reducible first|refine ctrK.normal ?_|refine ctrK.ret ?_)
     simp only [go_sem,resA,resV,backK,seval]
     refine ⟨rfl,?_⟩
     simp only [isVisible]
     cases decide (50≤x)<;>rfl)
def lv164:List (Nat × List Nat):=[(0,[0]),(1,[0,3]),(2,[2]),(3,[0,10]),(4,[2]),(5,[17]),(6,[17,18]),(7,[17,18]),(8,[17,18]),(9,[2]),(10,[17,22]),(11,[2]),(12,[17,24]),(13,[2]),(14,[17,26]),(15,[2]),(16,[17,28]),(17,[17,28]),(18,[2]),(19,[17,31]),(20,[2]),(21,[17,33]),(22,[2]),(23,[17,35]),(24,[2]),(25,[17,37]),(26,[2]),(27,[17,39]),(28,[2]),(29,[17,41]),(30,[17,41]),(31,[2]),(32,[17,44]),(33,[2]),(34,[17,46]),(35,[2]),(36,[17,48]),(37,[2]),(38,[17,50]),(39,[2]),(40,[17,52]),(41,[2]),(42,[17,54]),(43,[2]),(44,[56]),(45,[2]),(46,[2])]
theorem pform_ctr (op:Int):Ctr Go.Proofs.Tryz.prog tab 164 [43] [9] [.int op] [.str (formB op)]:=by
 refine Ctr.body ok Go.Proofs.Tryz.func164 rfl rfl 58 rfl [.tmp 2] rfl (by simp [fromVs]) ?_
 simp only [fromVs,fromV,args0,V.toList_list,V.toInt_int,V.toBool_bool,Nat.zero_add,Nat.reduceAdd,ty43]
 repeat' first
  | ((with_reducible refine SARA.do fun R1 hR1=>?_);(simp only [go_sem,seval,-List.reduceReplicate]);(repeat' with_reducible refine And.intro ?_ ?_);all_goals first|(refine hR1 _ ?_;clear hR1 R1)|omega|rfl|decide|assumption|(intro _;omega)|(simp;done)|(simp;omega))
  | ((with_reducible refine SARA.nil ?_);refine hR _ ?_;clear hR R;try simp only [go_sem,lv164,lvOf,Nat.reduceBEq,Option.getD_some])
  | (with_reducible first|refine J1 ?_|refine J2 ?_|refine J3 ?_|refine J4 ?_|refine J5 ?_|refine J6 ?_|refine J7 ?_|refine J8 (by decide) ?_|refine J9 ?_|refine J10 ?_|refine J11 ?_|refine J12 ?_|refine J13 ?_|refine J14 ?_|refine J15 ?_|refine J16 ?_|refine J17 ?_|refine J18 ?_|refine J19 ?_)
  | ((with_reducible refine J21 ok (by kernel_rfl) lv164 ?_);intro R hR;simp only [go_sem,strip])
  | ((with_reducible refine SA.cond rfl ?_ ?_)
     all_goals
      intro hb
      try simp at hb
      try (exfalso;omega))
  | ((with_reducible first|refine ctrK.normal ?_|refine ctrK.ret ?_)
     simp only [go_sem,resA,resV,backK,seval]
     refine ⟨rfl,?_⟩
     first|(subst_vars;rfl)|(unfold formB formL;(repeat (rw [if_neg (by omega)]));(try rw [if_pos (by omega)]);rfl))
def lv161:List (Nat × List Nat):=[(0,[0,1]),(1,[8]),(2,[4]),(3,[4])]
theorem object_ctr (x n:Int):Ctr Go.Proofs.Tryz.prog tab 161 [2,3] [49] [.int x,.int n] [.int (obErr 36 x n)]:=by
 refine Ctr.body ok Go.Proofs.Tryz.func161 rfl rfl 9 rfl [.tmp 4] rfl (by simp [fromVs]) ?_
 simp only [fromVs,fromV,args0,V.toList_list,V.toInt_int,V.toBool_bool,Nat.zero_add,Nat.reduceAdd,ty2,ty3]
 repeat' first
  | ((with_reducible refine SARA.do fun R1 hR1=>?_);(simp only [go_sem,seval,-List.reduceReplicate]);(repeat' with_reducible refine And.intro ?_ ?_);all_goals first|(refine hR1 _ ?_;clear hR1 R1)|((first|refine cq (cc (pwithin_ctr _ _)) ?_);all_goals ((try simp only [go_sem,seval,-List.reduceReplicate]);(repeat' with_reducible refine And.intro ?_ ?_);all_goals first|(refine hR1 _ ?_;clear hR1 R1)|omega|rfl|decide|assumption|(intro _;omega)|(simp;done)|(simp;omega)|(simp [roomFor,maxLen]<;>omega)))|omega|rfl|decide|assumption|(intro _;omega)|(simp;done)|(simp;omega)|(simp [roomFor,maxLen]<;>omega))
  | ((with_reducible refine SARA.nil ?_);refine hR _ ?_;clear hR R;try simp only [go_sem,lv161,lvOf,Nat.reduceBEq,Option.getD_some])
  | (with_reducible first|refine J1 ?_|refine J2 ?_|refine J3 ?_|refine J4 ?_|refine J5 ?_|refine J6 ?_|refine J7 ?_|refine J8 (by decide) ?_|refine J9 ?_|refine J10 ?_|refine J11 ?_|refine J12 ?_|refine J13 ?_|refine J14 ?_|refine J15 ?_|refine J16 ?_|refine J17 ?_|refine J18 ?_|refine J19 ?_)
  | ((with_reducible refine J21 ok (by kernel_rfl) lv161 ?_);intro R hR;simp only [go_sem,strip])
  | ((with_reducible refine J20 8 rfl (fun hb8=>?_) (fun hb8=>?_))
     all_goals
      try simp at hb8
      try (exfalso;omega))
  | ((with_reducible first|refine ctrK.normal ?_|refine ctrK.ret ?_)
     simp only [go_sem,resA,resV,backK,seval]
     refine ⟨rfl,?_⟩
     simp [obErr,hb8])
def lv162:List (Nat × List Nat):=[(0,[0,1]),(1,[12]),(2,[4]),(3,[4])]
theorem register_ctr (p:Prg) (f:Fnc) (x:Int):Ctr Go.Proofs.Tryz.prog tab 162 [202,2] [49] [.ref (ckV p f),.int x] [.int (obErr 35 x f.regs)]:=by
 refine Ctr.body ok Go.Proofs.Tryz.func162 rfl rfl 13 rfl [.tmp 4] rfl (by simp [fromVs]) ?_
 simp only [fromVs,fromV,args0,V.toList_list,V.toInt_int,V.toBool_bool,Nat.zero_add,Nat.reduceAdd,ty2,ty202]
 repeat' first
  | ((with_reducible refine SARA.do fun R1 hR1=>?_);(simp only [go_sem,seval,-List.reduceReplicate]);(repeat' with_reducible refine And.intro ?_ ?_);all_goals first|(refine hR1 _ ?_;clear hR1 R1)|((first|refine cq (cc (pwithin_ctr _ _)) ?_);all_goals ((try simp only [go_sem,seval,-List.reduceReplicate]);(repeat' with_reducible refine And.intro ?_ ?_);all_goals first|(refine hR1 _ ?_;clear hR1 R1)|omega|rfl|decide|assumption|(intro _;omega)|(simp;done)|(simp;omega)|(simp [roomFor,maxLen]<;>omega)))|omega|rfl|decide|assumption|(intro _;omega)|(simp;done)|(simp;omega)|(simp [roomFor,maxLen]<;>omega))
  | ((with_reducible refine SARA.nil ?_);refine hR _ ?_;clear hR R;try simp only [go_sem,lv162,lvOf,Nat.reduceBEq,Option.getD_some])
  | (with_reducible first|refine J1 ?_|refine J2 ?_|refine J3 ?_|refine J4 ?_|refine J5 ?_|refine J6 ?_|refine J7 ?_|refine J8 (by decide) ?_|refine J9 ?_|refine J10 ?_|refine J11 ?_|refine J12 ?_|refine J13 ?_|refine J14 ?_|refine J15 ?_|refine J16 ?_|refine J17 ?_|refine J18 ?_|refine J19 ?_)
  | ((with_reducible refine J21 ok (by kernel_rfl) lv162 ?_);intro R hR;simp only [go_sem,strip])
  | ((with_reducible refine J20 12 rfl (fun hb12=>?_) (fun hb12=>?_))
     all_goals
      try simp at hb12
      try (exfalso;omega))
  | ((with_reducible first|refine ctrK.normal ?_|refine ctrK.ret ?_)
     simp only [go_sem,resA,resV,backK,seval]
     refine ⟨rfl,?_⟩
     simp [obErr,hb12])
def lv163:List (Nat × List Nat):=[(0,[0,1]),(1,[13]),(2,[4]),(3,[4])]
theorem target_ctr (p:Prg) (f:Fnc) (x:Int) (hf:f.Fit):Ctr Go.Proofs.Tryz.prog tab 163 [202,2] [49] [.ref (ckV p f),.int x] [.int (obErr 38 x f.code.length)]:=by
 have hf1:=hf.1
 refine Ctr.body ok Go.Proofs.Tryz.func163 rfl rfl 14 rfl [.tmp 4] rfl (by simp [fromVs]) ?_
 simp only [fromVs,fromV,args0,V.toList_list,V.toInt_int,V.toBool_bool,Nat.zero_add,Nat.reduceAdd,ty2,ty202]
 repeat' first
  | ((with_reducible refine SARA.do fun R1 hR1=>?_);(simp only [go_sem,seval,-List.reduceReplicate]);(repeat' with_reducible refine And.intro ?_ ?_);all_goals first|(refine hR1 _ ?_;clear hR1 R1)|((first|refine cq (cc (pwithin_ctr _ _)) ?_);all_goals ((try simp only [go_sem,seval,-List.reduceReplicate]);(repeat' with_reducible refine And.intro ?_ ?_);all_goals first|(refine hR1 _ ?_;clear hR1 R1)|omega|rfl|decide|assumption|(intro _;omega)|(simp;done)|(simp;omega)|(simp [roomFor,maxLen]<;>omega)))|omega|rfl|decide|assumption|(intro _;omega)|(simp;done)|(simp;omega)|(simp [roomFor,maxLen]<;>omega))
  | ((with_reducible refine SARA.nil ?_);refine hR _ ?_;clear hR R;try simp only [go_sem,lv163,lvOf,Nat.reduceBEq,Option.getD_some])
  | (with_reducible first|refine J1 ?_|refine J2 ?_|refine J3 ?_|refine J4 ?_|refine J5 ?_|refine J6 ?_|refine J7 ?_|refine J8 (by decide) ?_|refine J9 ?_|refine J10 ?_|refine J11 ?_|refine J12 ?_|refine J13 ?_|refine J14 ?_|refine J15 ?_|refine J16 ?_|refine J17 ?_|refine J18 ?_|refine J19 ?_)
  | ((with_reducible refine J21 ok (by kernel_rfl) lv163 ?_);intro R hR;simp only [go_sem,strip])
  | ((with_reducible refine J20 13 rfl (fun hb13=>?_) (fun hb13=>?_))
     all_goals
      try simp at hb13
      try (exfalso;omega))
  | ((with_reducible first|refine ctrK.normal ?_|refine ctrK.ret ?_)
     simp only [go_sem,resA,resV,backK,seval]
     refine ⟨rfl,?_⟩
     simp [obErr,hb13])
def lv165:List (Nat × List Nat):=[(0,[1,2]),(1,[2])]
theorem operands_ctr (i:Instr):Ctr Go.Proofs.Tryz.prog tab 165 [129] [29] [i.v] [.agg [.int i.a,.int i.b,.int i.c,.int i.n]]:=by
 refine Ctr.body ok Go.Proofs.Tryz.func165 rfl rfl 12 rfl [.cell 2 29] rfl (by simp [fromVs]) ?_
 simp only [fromVs,fromV,args0,V.toList_list,V.toInt_int,V.toBool_bool,Nat.zero_add,Nat.reduceAdd,ty129]
 repeat' first
  | ((with_reducible refine SARA.do fun R1 hR1=>?_);(simp only [go_sem,seval,-List.reduceReplicate,zero29,z29,z2]);(repeat' with_reducible refine And.intro ?_ ?_);all_goals first|(refine hR1 _ ?_;clear hR1 R1)|omega|rfl|decide|assumption|(intro _;omega)|(simp;done)|(simp;omega)|(simp [roomFor,maxLen]<;>omega))
  | ((with_reducible refine SARA.nil ?_);refine hR _ ?_;clear hR R;try simp only [go_sem,lv165,lvOf,Nat.reduceBEq,Option.getD_some])
  | (with_reducible first|refine J1 ?_|refine J2 ?_|refine J3 ?_|refine J4 ?_|refine J5 ?_|refine J6 ?_|refine J7 ?_|refine J8 (by decide) ?_|refine J9 ?_|refine J10 ?_|refine J11 ?_|refine J12 ?_|refine J13 ?_|refine J14 ?_|refine J15 ?_|refine J16 ?_|refine J17 ?_|refine J18 ?_|refine J19 ?_)
  | ((with_reducible refine J21 ok (by kernel_rfl) lv165 ?_);intro R hR;simp only [go_sem,strip])
  | ((with_reducible first|refine ctrK.normal ?_|refine ctrK.ret ?_)
     simp only [go_sem,resA,resV,backK,seval]
     rfl)
def lv166:List (Nat × List Nat):=[(0,[0,1,2,7]),(1,[0,2,7,12]),(2,[0,2,7,12,13]),(3,[0,2,16]),(4,[8]),(5,[8]),(6,[0,2,7,12,20]),(7,[0,2,7,12,20]),(8,[8]),(9,[0,2,7,12,26]),(10,[9]),(11,[9,37]),(12,[8]),(13,[8]),(14,[0,2,7,12,39]),(15,[0,2,10]),(16,[0,2,10,50]),(17,[8]),(18,[61]),(19,[8]),(20,[0,2,7,12,62]),(21,[8]),(22,[0,2,7,12,71]),(23,[8]),(24,[0,2,7,12,81]),(25,[8]),(26,[0,2,7,12,91]),(27,[8]),(28,[0,2,7,12,101]),(29,[8]),(30,[0,2,7,106]),(31,[0,2,11]),(32,[142]),(33,[8]),(34,[8])]
theorem poperand_ctr (p:Prg) (f:Fnc) (letter x:Int) (i:Instr) (hp:p.Fit) (hf:f.Fit) (h112:letter=112→0≤i.b∧i.b<p.funcs.length):Ctr Go.Proofs.Tryz.prog tab 166 [202,5,2,129] [49] [.ref (ckV p f),.int letter,.int x,i.v] [.int (operandErr p f letter x i)]:=by
 obtain ⟨hp1,hp2,hp3,hp4⟩:=hp
 have hff:=hf
 obtain ⟨hf1,hf2,hf3⟩:=hf
 refine Ctr.body ok Go.Proofs.Tryz.func166 rfl rfl 143 rfl [.tmp 8] rfl (by simp [fromVs]) ?_
 simp only [fromVs,fromV,args0,V.toList_list,V.toInt_int,V.toBool_bool,Nat.zero_add,Nat.reduceAdd,ty2,ty5,ty129,ty202]
 repeat' first
  | ((with_reducible refine SARA.told 18 7 ?_)
     rw [getD_vrs (by omega)])
  | ((with_reducible first|refine SARA.do fun R1 hR1=>?_|refine SARQ.do fun R1 hR1=>?_);(simp only [go_sem,seval,-List.reduceReplicate]);(repeat' with_reducible refine And.intro ?_ ?_);all_goals first|(refine hR1 _ ?_;clear hR1 R1)|((first|refine ⟨_,_,rfl,_,CallQ.ctr ok (object_ctr _ _) (by first|rfl|(simp [go_sem];done)|fail) rfl,?_⟩|refine cq (cc (object_ctr _ _)) ?_|refine ⟨_,_,rfl,_,CallQ.ctr ok (register_ctr p f _) (by first|rfl|(simp [go_sem];done)|fail) rfl,?_⟩|refine cq (cc (register_ctr p f _)) ?_|refine ⟨_,_,rfl,_,CallQ.ctr ok (target_ctr p f _ hff) (by first|rfl|(simp [go_sem];done)|fail) rfl,?_⟩|refine cq (cc (target_ctr p f _ hff)) ?_);all_goals ((try simp only [go_sem,seval,-List.reduceReplicate]);(repeat' with_reducible refine And.intro ?_ ?_);all_goals first|(refine hR1 _ ?_;clear hR1 R1)|omega|rfl|decide|assumption|(intro _;omega)|(simp;done)|(simp;omega)|(simp [roomFor,maxLen]<;>omega)))|omega|rfl|decide|assumption|(intro _;omega)|(simp;done)|(simp;omega)|(simp [roomFor,maxLen]<;>omega))
  | ((with_reducible refine SARA.nil ?_);refine hR _ ?_;clear hR R;try simp only [go_sem,lv166,lvOf,Nat.reduceBEq,Option.getD_some])
  | ((with_reducible refine SARQ.nil ?_);refine hR _ ?_;clear hR R;try simp only [go_sem,lv166,lvOf,Nat.reduceBEq,Option.getD_some])
  | (with_reducible first|refine J1 ?_|refine J2 ?_|refine J3 ?_|refine J4 ?_|refine J5 ?_|refine J6 ?_|refine J7 ?_|refine J8 (by decide) ?_|refine J9 ?_|refine J10 ?_|refine J11 ?_|refine J12 ?_|refine J13 ?_|refine J14 ?_|refine J15 ?_|refine J16 ?_|refine J17 ?_|refine J18 ?_|refine J19 ?_)
  | ((with_reducible refine SA.at 18 ?_)
     have hx:=obErr_zero hb50 (by decide)
     (with_reducible refine J21 ok (by kernel_rfl) lv166 ?_);intro R hR;simp only [go_sem,strip])
  | ((with_reducible refine J21 ok (by kernel_rfl) lv166 ?_);intro R hR;simp only [go_sem,strip])
  | ((with_reducible refine SA.regionD ok mixed (by kernel_rfl) (by kernel_rfl) lv166 ?_);intro R hR;simp only [go_sem,strip])
  | ((with_reducible refine J20 50 rfl (fun hb50=>?_) (fun hb50=>?_))
     all_goals
      try simp at hb50
      try (exfalso;omega))
  | ((with_reducible refine SA.cond rfl ?_ ?_)
     all_goals
      intro hb
      try simp at hb
      try (exfalso;omega))
  | ((with_reducible first|refine ctrK.normal ?_|refine ctrK.ret ?_)
     simp only [go_sem,resA,resV,backK,seval]
     refine ⟨rfl,?_⟩
     first|(subst_vars;simp [operandErr,obErr,within,Prg.fn,w64, *];done)|(subst_vars;simp only [operandErr,obErr,within,Prg.fn,w64];simp [*];omega)|(simp_all [operandErr,obErr,within];done)|(simp_all [operandErr,obErr,within,Prg.fn,w64];omega))
end Go.Eng.Tryz
namespace Go.Eng.Tryz
open Go.RowKit Go.Eng
set_option maxHeartbeats 0
set_option maxRecDepth 20000
def lv143:List (Nat × List Nat):=[(0,[0,3]),(1,[0,3,5]),(2,[0,3,5,16]),(3,[4]),(4,[0,3,5,6]),(5,[0,3,5,6,19,20]),(6,[0,3,5,6,19,20,21]),(7,[0,3,5,6,7,8,19,20]),(8,[0,3,5,6,19,20,31]),(9,[4]),(10,[0,3,5,6,19,20]),(11,[0,3,5,33,34]),(12,[0,3,5,33,34,35]),(13,[0,3,5,9,10,33,34]),(14,[0,3,5,11,33,34]),(15,[0,3,5,11,33,34,46]),(16,[4]),(17,[0,3,5,33,34]),(18,[4])]
theorem pinstr_ctr (p:Prg) (f:Fnc) (i:Instr) (hp:p.Fit) (hf:f.Fit):Ctr Go.Proofs.Tryz.prog tab 143 [202,129] [49] [.ref (ckV p f),i.v] [.int (instrErr p f i)]:=by
 refine Ctr.body ok Go.Proofs.Tryz.func143 rfl rfl 49 rfl [.tmp 4] rfl (by simp [fromVs]) ?_
 simp only [fromVs,fromV,args0,V.toList_list,V.toInt_int,V.toBool_bool,Nat.zero_add,Nat.reduceAdd,ty129,ty202]
 repeat' first
  | ((with_reducible first|refine SARA.do fun R1 hR1=>?_|refine SARQ.do fun R1 hR1=>?_);(simp only [go_sem,seval,-List.reduceReplicate,formB_at,formB_size]);(repeat' with_reducible refine And.intro ?_ ?_);all_goals first|(refine hR1 _ ?_;clear hR1 R1)|((first|refine ⟨_,_,rfl,_,CallQ.ctr ok (pform_ctr _) (by first|rfl|(simp [go_sem];done)|fail) rfl,?_⟩|refine cq (cc (pform_ctr _)) ?_|refine ⟨_,_,rfl,_,CallQ.ctr ok (operands_ctr i) (by first|rfl|(simp [go_sem];done)|fail) rfl,?_⟩|refine cq (cc (operands_ctr i)) ?_|refine ⟨_,_,rfl,_,CallQ.ctr ok (poperand_ctr p f _ _ i hp hf (fun h=>oper_112 hz h)) (by first|rfl|(simp [go_sem];done)|fail) rfl,?_⟩|refine cq (cc (poperand_ctr p f _ _ i hp hf (fun h=>oper_112 hz h))) ?_);all_goals ((try simp only [go_sem,seval,-List.reduceReplicate,formB_at,formB_size]);(repeat' with_reducible refine And.intro ?_ ?_);all_goals first|(refine hR1 _ ?_;clear hR1 R1)|omega|rfl|decide|assumption|(intro _;omega)|(simp;done)|(simp;omega)|(simp [roomFor,maxLen]<;>omega)))|omega|rfl|decide|assumption|(intro _;omega)|(simp;done)|(simp;omega)|(simp [roomFor,maxLen]<;>omega))
  | ((with_reducible refine SARA.nil ?_);refine hR _ ?_;clear hR R;try simp only [go_sem,lv143,lvOf,Nat.reduceBEq,Option.getD_some])
  | ((with_reducible refine SARQ.nil ?_);refine hR _ ?_;clear hR R;try simp only [go_sem,lv143,lvOf,Nat.reduceBEq,Option.getD_some])
  | (with_reducible first|refine J1 ?_|refine J2 ?_|refine J3 ?_|refine J4 ?_|refine J5 ?_|refine J6 ?_|refine J7 ?_|refine J8 (by decide) ?_|refine J9 ?_|refine J10 ?_|refine J11 ?_|refine J12 ?_|refine J13 ?_|refine J14 ?_|refine J15 ?_|refine J16 ?_|refine J17 ?_|refine J18 ?_|refine J19 ?_)
  | ((with_reducible refine J21 ok (by kernel_rfl) lv143 ?_);intro R hR;simp only [go_sem,strip])
  | ((with_reducible refine SA.regionD ok mixed (by kernel_rfl) (by kernel_rfl) lv143 ?_);intro R hR;simp only [go_sem,strip])
  | ((with_reducible refine J20 16 rfl (fun hb16=>?_) (fun hb16=>?_))
     all_goals
      rw [formB_none] at hb16
      simp at hb16)
  | ((with_reducible refine J20 31 rfl (fun hb31=>?_) (fun hb31=>?_))
     all_goals
      try simp at hb31
      try (exfalso;omega))
  | ((with_reducible refine J20 46 rfl (fun hb46=>?_) (fun hb46=>?_))
     all_goals
      try simp at hb46
      try (exfalso;omega))
  | ((with_reducible refine SA.cond rfl ?_ ?_)
     all_goals
      intro hb
      try simp at hb
      try (exfalso;omega))
  | ((with_reducible refine SA.atLoop ?_)
     refine SA.weaken (St.le.of_eq (by first|rfl|(simp;done)|fail)) (SA.loop (fun n τ=>∃ (j:Nat),n=4-j∧(j≤4∧(isLocal i.op=true∨isVisible i.op=true)∧unusedTo i j=false)∧τ={ tm:=[(0,true,.fptr 204 (ckV p f)),(3,true,.ptr 0 [] 129),(5,true,.str (formB i.op)),(6,true,.ptr 1 [] 29),(19,true,.data 29 (.agg [.int i.a,.int i.b,.int i.c,.int i.n])),(20,true,.int .i64 j)],ob:=[.var 129 (.data 129 i.v),.var 29 (.data 29 (.agg [.int i.a,.int i.b,.int i.c,.int i.n]))],out:=[],nt:=49 }) (4) ⟨0,rfl,⟨by omega,by cases h1:isLocal i.op<;>simp_all,rfl⟩,rfl⟩ ?_)
     rintro n τ ⟨j,hn,⟨hj,hv,hu⟩,rfl⟩
     have h4:=formL_four hv)
  | ((with_reducible refine SA.atLoop ?_)
     refine SA.weaken (St.le.of_eq (by first|rfl|(simp;done)|fail)) (SA.loop (fun n τ=>∃ (j:Nat),n=4-j∧(j≤4∧(isLocal i.op=true∨isVisible i.op=true)∧unusedTo i 4=false∧operTo p f i j=0)∧τ={ tm:=[(0,true,.fptr 204 (ckV p f)),(3,true,.ptr 0 [] 129),(5,true,.str (formB i.op)),(33,true,.data 29 (.agg [.int i.a,.int i.b,.int i.c,.int i.n])),(34,true,.int .i64 j)],ob:=[.var 129 (.data 129 i.v),.var 29 (.data 29 (.agg [.int i.a,.int i.b,.int i.c,.int i.n]))],out:=[],nt:=49 }) (4) ⟨0,rfl,⟨by omega,hv,(show j=4 by omega)▸hu,rfl⟩,rfl⟩ ?_)
     rintro n τ ⟨j,hn,⟨hj,hv,hu,hz⟩,rfl⟩
     have h4:=formL_four hv)
  | ((with_reducible refine loopK.round ?_)
     first
      | (have hlt:j<4:=by omega
         refine loopK.normal (4-(j+1)) _ (by omega) (St.le.of_eq (by simp only [wrap_succ hlt (by decide:4≤maxLen)])) ⟨j+1,rfl,⟨hlt,hv,?_⟩,rfl⟩
         have e:letterAt i j=45→i.field j=0:=by simpa only [letterAt,List.getD_eq_getElem?_getD] using hb31
         rw [unusedTo_succ,hu]
         simpa using e)
      | (have hlt:j<4:=by omega
         refine loopK.normal (4-(j+1)) _ (by omega) (St.le.of_eq (by simp only [wrap_succ hlt (by decide:4≤maxLen)])) ⟨j+1,rfl,⟨hlt,hv,hu,?_⟩,rfl⟩
         rw [operTo_succ,hz,if_neg (by simp)]
         exact hb46))
  | ((with_reducible first|refine ctrK.normal ?_|refine ctrK.ret ?_)
     simp only [go_sem,resA,resV,backK,seval]
     first
      | (refine ⟨rfl,?_⟩
         have e:letterAt i j=45∧¬i.field j=0:=by simpa only [letterAt,List.getD_eq_getElem?_getD] using hb31
         have h1:unusedTo i (j+1)=true:=by rw [unusedTo_succ,hu];simp [e]
         have h2:=unusedTo_end h1 (4-(j+1))
         rw [show j+1+(4-(j+1))=4 by omega] at h2
         simp only [instrErr,h2,if_true]
         rw [if_neg (by intro h;rcases hv with hv|hv<;>simp [hv] at h)])
      | (refine ⟨rfl,?_⟩
         have h1:operTo p f i (j+1)=operandErr p f (letterAt i j) (i.field j) i:=by rw [operTo_succ,hz,if_neg (by simp)]
         have h2:=operTo_end (n:=j+1) (by rw [h1];exact hb46) (4-(j+1))
         rw [show j+1+(4-(j+1))=4 by omega,h1] at h2
         simp only [instrErr,h2,hu]
         rw [if_neg (by intro h;rcases hv with hv|hv<;>simp [hv] at h)]
         rfl)
      | (refine ⟨rfl,?_⟩
         have hj4:j=4:=by omega
         subst hj4
         simp only [instrErr,hz,hu]
         rw [if_neg (by intro h;rcases hv with hv|hv<;>simp [hv] at h)]
         rfl)
      | (refine ⟨rfl,?_⟩
         simp [instrErr,hb16]))
def lv142:List (Nat × List Nat):=[(0,[0]),(1,[0,15,16,17]),(2,[0,15,16,17,18]),(3,[0,4,15,16,17]),(4,[0,4,15,16,17,22,23,24]),(5,[0,4,15,16,17,22,23,24,25]),(6,[0,4,6,15,16,17,22,23,24]),(7,[0,4,6,7,15,16,17,22,23,24]),(8,[0,4,6,7,15,16,17,22,23,24,38]),(9,[2]),(10,[0,4,6,15,16,17,22,23,24,46]),(11,[0,4,6,8,15,16,17,22,23,24]),(12,[0,4,6,8,15,16,17,22,23,24,52]),(13,[2]),(14,[0,4,6,15,16,17,22,23,24,67]),(15,[2]),(16,[0,4,9,15,16,17,22,23,24]),(17,[0,4,9,15,16,17,22,23,24,73]),(18,[2]),(19,[0,4,15,16,17,22,23,24]),(20,[0,4,15,16,17,78]),(21,[0,10,15,16,17]),(22,[0,10,15,16,17,84]),(23,[2]),(24,[0,15,16,17]),(25,[2])]
theorem pselects_ctr (p:Prg) (f:Fnc) (hp:p.Fit) (hf:f.Fit):Ctr Go.Proofs.Tryz.prog tab 142 [202] [49] [.ref (ckV p f)] [.int (selsErr p f f.sels.length)]:=by
 obtain ⟨hp1,hp2,hp3,hp4⟩:=hp
 have hff:=hf
 obtain ⟨hf1,hf2,hf3⟩:=hf
 refine Ctr.body ok Go.Proofs.Tryz.func142 rfl rfl 87 rfl [.tmp 2] rfl (by simp [fromVs]) ?_
 simp only [fromVs,fromV,args0,V.toList_list,V.toInt_int,V.toBool_bool,Nat.zero_add,Nat.reduceAdd,ty202]
 repeat' first
  | ((with_reducible refine SARA.told 3 1 ?_)
     rw [getD_sels (by omega)])
  | ((with_reducible refine SARA.told 6 1 ?_)
     rw [getD_cass (by omega)])
  | ((with_reducible first|refine SARA.do fun R1 hR1=>?_|refine SARQ.do fun R1 hR1=>?_);(simp only [go_sem,seval,-List.reduceReplicate]);(repeat' with_reducible refine And.intro ?_ ?_);all_goals first|(refine hR1 _ ?_;clear hR1 R1)|((first|refine ⟨_,_,rfl,_,CallQ.ctr ok (object_ctr _ _) (by first|rfl|(simp [go_sem];done)|fail) rfl,?_⟩|refine cq (cc (object_ctr _ _)) ?_|refine ⟨_,_,rfl,_,CallQ.ctr ok (register_ctr p f _) (by first|rfl|(simp [go_sem];done)|fail) rfl,?_⟩|refine cq (cc (register_ctr p f _)) ?_|refine ⟨_,_,rfl,_,CallQ.ctr ok (target_ctr p f _ hff) (by first|rfl|(simp [go_sem];done)|fail) rfl,?_⟩|refine cq (cc (target_ctr p f _ hff)) ?_);all_goals ((try simp only [go_sem,seval,-List.reduceReplicate]);(repeat' with_reducible refine And.intro ?_ ?_);all_goals first|(refine hR1 _ ?_;clear hR1 R1)|omega|rfl|decide|assumption|(intro _;omega)|(simp;done)|(simp;omega)|(simp [roomFor,maxLen]<;>omega)))|omega|rfl|decide|assumption|(intro _;omega)|(simp;done)|(simp;omega)|(simp [roomFor,maxLen]<;>omega))
  | ((with_reducible refine SARA.nil ?_);refine hR _ ?_;clear hR R;try simp only [go_sem,lv142,lvOf,Nat.reduceBEq,Option.getD_some])
  | ((with_reducible refine SARQ.nil ?_);refine hR _ ?_;clear hR R;try simp only [go_sem,lv142,lvOf,Nat.reduceBEq,Option.getD_some])
  | (with_reducible first|refine J1 ?_|refine J2 ?_|refine J3 ?_|refine J4 ?_|refine J5 ?_|refine J6 ?_|refine J7 ?_|refine J8 (by decide) ?_|refine J9 ?_|refine J10 ?_|refine J11 ?_|refine J12 ?_|refine J13 ?_|refine J14 ?_|refine J15 ?_|refine J16 ?_|refine J17 ?_|refine J18 ?_|refine J19 ?_)
  | ((with_reducible refine SA.at 4 ?_)
     have hc3:=hf3 _ (getD_mem_sels (i:=i) (by omega))
     (with_reducible refine J21 ok (by kernel_rfl) lv142 ?_);intro R hR;simp only [go_sem,strip])
  | ((with_reducible refine J21 ok (by kernel_rfl) lv142 ?_);intro R hR;simp only [go_sem,strip])
  | ((with_reducible refine SA.regionD ok mixed (by kernel_rfl) (by kernel_rfl) lv142 ?_);intro R hR;simp only [go_sem,strip])
  | ((with_reducible refine J20 18 rfl (fun hb18=>?_) (fun hb18=>?_))
     all_goals
      try simp [-List.getD_eq_getElem?_getD] at hb18
      try (exfalso;omega))
  | ((with_reducible refine J20 25 rfl (fun hb25=>?_) (fun hb25=>?_))
     all_goals
      try simp [-List.getD_eq_getElem?_getD] at hb25
      try (exfalso;omega))
  | ((with_reducible refine J20 38 rfl (fun hb38=>?tt38) (fun hb38=>?ff38))
     case' tt38 =>
      try simp [-List.getD_eq_getElem?_getD] at hb38
      try (exfalso;omega)
     case' ff38 =>
      simp [-List.getD_eq_getElem?_getD] at hb38
      have hx:=obErr_zero hb38 (by decide))
  | ((with_reducible refine J20 46 rfl (fun hb46=>?_) (fun hb46=>?_))
     all_goals
      try simp [-List.getD_eq_getElem?_getD] at hb46
      try (exfalso;omega))
  | ((with_reducible refine J20 52 rfl (fun hb52=>?_) (fun hb52=>?_))
     all_goals
      try simp [-List.getD_eq_getElem?_getD] at hb52
      try (exfalso;omega))
  | ((with_reducible refine J20 67 rfl (fun hb67=>?_) (fun hb67=>?_))
     all_goals
      try simp [-List.getD_eq_getElem?_getD] at hb67
      try (exfalso;omega))
  | ((with_reducible refine J20 73 rfl (fun hb73=>?_) (fun hb73=>?_))
     all_goals
      try simp [-List.getD_eq_getElem?_getD] at hb73
      try (exfalso;omega))
  | ((with_reducible refine J20 78 rfl (fun hb78=>?_) (fun hb78=>?_))
     all_goals
      try simp [-List.getD_eq_getElem?_getD] at hb78
      try (exfalso;omega))
  | ((with_reducible refine J20 84 rfl (fun hb84=>?_) (fun hb84=>?_))
     all_goals
      try simp [-List.getD_eq_getElem?_getD] at hb84
      try (exfalso;omega))
  | ((with_reducible refine SA.atLoop ?_)
     refine SA.weaken (St.le.of_eq (by first|rfl|(simp;done)|fail)) (SA.loop (fun n τ=>∃ (i:Nat),n=f.sels.length-i∧(i≤f.sels.length∧selsErr p f i=0)∧τ={ tm:=[(0,true,.fptr 204 (ckV p f)),(15,true,.fs 124 (f.sels.map Sel.v) false),(16,true,.int .i64 f.sels.length),(17,true,.int .i64 i)],ob:=[],out:=[],nt:=87 }) (f.sels.length) ⟨0,rfl,⟨by omega,rfl⟩,rfl⟩ ?_)
     rintro n τ ⟨i,hn,⟨hi,hz⟩,rfl⟩)
  | ((with_reducible refine SA.atLoop ?_)
     refine SA.weaken (St.le.of_eq (by first|rfl|(simp;done)|fail)) (SA.loop (fun n τ=>∃ (j:Nat),n=(f.sels.getD i default).cases.length-j∧(j≤(f.sels.getD i default).cases.length∧casesErr p f (f.sels.getD i default) j=0)∧τ={ tm:=[(0,true,.fptr 204 (ckV p f)),(4,true,.ptr 0 [] 124),(15,true,.fs 124 (f.sels.map Sel.v) false),(16,true,.int .i64 f.sels.length),(17,true,.int .i64 i),(22,true,.fs 156 ((f.sels.getD i default).cases.map Cas.v) false),(23,true,.int .i64 (f.sels.getD i default).cases.length),(24,true,.int .i64 j)],ob:=[.var 124 (.data 124 (f.sels.getD i default).v)],out:=[],nt:=87 }) ((f.sels.getD i default).cases.length) ⟨0,rfl,⟨by omega,rfl⟩,rfl⟩ ?_)
     rintro n τ ⟨j,hn,⟨hj,hc⟩,rfl⟩)
  | ((with_reducible refine loopK.round ?_)
     first
      | (have hlt:i<f.sels.length:=by omega
         refine loopK.normal (f.sels.length-(i+1)) _ (by omega) ((St.le.cut 0 rfl).trans (St.le.of_eq (by simp only [wrap_succ hlt hf2,List.take_zero]))) ⟨i+1,rfl,⟨hlt,?_⟩,rfl⟩
         have hjc:j=(f.sels.getD i default).cases.length:=by omega
         subst hjc
         rw [selsErr_succ p f hlt,if_neg (fun q=>q hz)]
         simp only [selErr,hc]
         rw [if_neg (fun q=>q rfl),if_neg (by
          rintro ⟨q1,q2⟩
          first
           | exact q1 hb78
           | (have:=obErr_zero hb84 (by decide);rw [within_false] at q2;omega))])
      | (have hlt:j<(f.sels.getD i default).cases.length:=by omega
         refine loopK.normal ((f.sels.getD i default).cases.length-(j+1)) _ (by omega) ((St.le.cut 1 rfl).trans (St.le.of_eq (by simp only [wrap_succ hlt hc3,List.take_succ_cons,List.take_zero]))) ⟨j+1,rfl,⟨hlt,?_⟩,rfl⟩
         rw [casesErr_succ p f _ hlt,if_neg (fun q=>q hc)]
         exact case0 hb38 (by first|exact .inr hb52|exact .inl hb46) hb67 hb73))
  | ((with_reducible first|refine ctrK.normal ?_|refine ctrK.ret ?_)
     simp only [go_sem,resA,resV,backK,seval]
     first
      | (exact ⟨rfl,congrArg (fun e=>some (V.int e)) (selects_hit (by omega) hz (by omega) hc (case38 hb38 (by first|exact .inr hb52|exact .inl hb46) hb67 hb73) (by first|decide|assumption)).symm⟩)
      | (exact ⟨rfl,congrArg (fun e=>some (V.int e)) (selects_hit (by omega) hz (by omega) hc (case37 hb38 (by first|exact .inr hb52|exact .inl hb46) hb67) (by first|decide|assumption)).symm⟩)
      | (exact ⟨rfl,congrArg (fun e=>some (V.int e)) (selects_hit (by omega) hz (by omega) hc (case35 hb38 hb46 hb52) (by first|decide|assumption)).symm⟩)
      | (exact ⟨rfl,congrArg (fun e=>some (V.int e)) (selects_hit (by omega) hz (by omega) hc (case36 hb38) (by first|decide|assumption)).symm⟩)
      | (have hjc:j=(f.sels.getD i default).cases.length:=by omega
         subst hjc
         refine ⟨rfl,congrArg (fun e=>some (V.int e)) (sels_hit (by omega) hz ?_ hb84).symm⟩
         simp only [selErr,hc]
         rw [if_neg (fun q=>q rfl),if_pos ⟨hb78,obErr_ne hb84⟩]
         exact (obErr_val hb84).symm)
      | (have e:i=f.sels.length:=by omega
         subst e
         exact ⟨rfl,congrArg (fun e=>some (V.int e)) hz.symm⟩))
def lv140:List (Nat × List Nat):=[(0,[1]),(1,[1,36]),(2,[2]),(3,[38,39,40]),(4,[38,39,40,41]),(5,[4,38,39,40]),(6,[38,39,40,49]),(7,[2]),(8,[38,39,40]),(9,[2])]
theorem whole_ctr (p:Prg) (hp:p.Fit):Ctr Go.Proofs.Tryz.prog tab 140 [26] [49] [p.v] [.int (wholeErr p)]:=by
 obtain ⟨hp1,hp2,hp3,hp4⟩:=hp
 refine Ctr.body ok Go.Proofs.Tryz.func140 rfl rfl 51 rfl [.tmp 2] rfl (by simp [fromVs]) ?_
 simp only [fromVs,fromV,args0,V.toList_list,V.toInt_int,V.toBool_bool,Nat.zero_add,Nat.reduceAdd,ty26]
 repeat' first
  | ((with_reducible refine SARA.do fun R1 hR1=>?_);(simp only [go_sem,seval,-List.reduceReplicate]);(repeat' with_reducible refine And.intro ?_ ?_);all_goals first|(refine hR1 _ ?_;clear hR1 R1)|omega|rfl|decide|assumption|(intro _;omega)|(simp;done)|(simp;omega)|(simp [roomFor,maxLen]<;>omega))
  | ((with_reducible refine SARA.nil ?_);refine hR _ ?_;clear hR R;try simp only [go_sem,lv140,lvOf,Nat.reduceBEq,Option.getD_some])
  | (with_reducible first|refine J1 ?_|refine J2 ?_|refine J3 ?_|refine J4 ?_|refine J5 ?_|refine J6 ?_|refine J7 ?_|refine J8 (by decide) ?_|refine J9 ?_|refine J10 ?_|refine J11 ?_|refine J12 ?_|refine J13 ?_|refine J14 ?_|refine J15 ?_|refine J16 ?_|refine J17 ?_|refine J18 ?_|refine J19 ?_)
  | ((with_reducible refine J21 ok (by kernel_rfl) lv140 ?_);intro R hR;simp only [go_sem,strip])
  | ((with_reducible refine J20 36 rfl (fun hb36=>?_) (fun hb36=>?_))
     all_goals
      try simp [-List.getD_eq_getElem?_getD] at hb36
      try (exfalso;omega))
  | ((with_reducible refine J20 41 rfl (fun hb41=>?_) (fun hb41=>?_))
     all_goals
      try simp [-List.getD_eq_getElem?_getD] at hb41
      try (exfalso;omega))
  | ((with_reducible refine J20 49 rfl (fun hb49=>?_) (fun hb49=>?_))
     all_goals
      try simp [-List.getD_eq_getElem?_getD] at hb49
      try (exfalso;omega))
  | ((with_reducible refine SA.atLoop ?_)
     refine SA.weaken (St.le.of_eq (by first|rfl|(simp;done)|fail)) (SA.loop (fun n τ=>∃ (i:Nat),n=p.chans.length-i∧(i≤p.chans.length∧Sizes p∧capsErr p i=true)∧τ={ tm:=[(38,true,.fs 3 (p.chans.map V.int) false),(39,true,.int .i64 p.chans.length),(40,true,.int .i64 i)],ob:=[.var 26 (.data 26 p.v)],out:=[],nt:=51 }) (p.chans.length) ⟨0,rfl,⟨by omega,by unfold Sizes;omega,rfl⟩,rfl⟩ ?_)
     rintro n τ ⟨i,hn,⟨hi,hs,hc⟩,rfl⟩)
  | ((with_reducible refine loopK.round ?_)
     first
      | (have hlt:i<p.chans.length:=by omega
         refine loopK.normal (p.chans.length-(i+1)) _ (by omega) (St.le.of_eq (by simp only [wrap_succ hlt hp2])) ⟨i+1,rfl,⟨hlt,hs,?_⟩,rfl⟩
         unfold capsErr at hc ⊢
         rw [all_take _ _ hlt,hc]
         simp only [Bool.true_and,Bool.and_eq_true,decide_eq_true_eq]
         exact hb49))
  | ((with_reducible first|refine ctrK.normal ?_|refine ctrK.ret ?_)
     simp only [go_sem,resA,resV,backK,seval]
     first
      | (have q:_∨_:=hb49
         exact ⟨rfl,congrArg (fun e=>some (V.int e)) (Eq.symm ((if_neg hs).trans (if_pos (caps_miss (i:=i) (by omega) hb49))))⟩)
      | (exact ⟨rfl,congrArg (fun e=>some (V.int e)) (Eq.symm ((if_neg hs).trans (if_neg (by rw [show p.chans.length=i by omega,hc];simp))))⟩)
      | (exact ⟨rfl,congrArg (fun e=>some (V.int e)) (Eq.symm (if_pos (by omega)))⟩))
end Go.Eng.Tryz
