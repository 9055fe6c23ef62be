/- A part of the proof: walks through the program's functions, and what they compute. -/
import Derived.Test.YtedceinkpkoncaaGreatDoorPk23
import Derived.Test.YtedceinkpkoncaaGreatDoorPk19
import Derived.Test.YtedceinkpkoncaaGreatDoorPk17
import Derived.Test.YtedceinkpkoncaaGreatDoorPk16
set_option linter.unusedSimpArgs false
set_option linter.unusedVariables false
namespace Go.Eng
section
variable (apply:Int→Int→Int→Int × Int) {p:Prg} {g:Gor}
theorem localStep_status (g:Gor):((localStep apply p g).2=true∧(localStep apply p g).1.status=g.status∨(localStep apply p g).2=false∧((localStep apply p g).1.status=3∨(localStep apply p g).1.status=4)):=by
 unfold localStep
 simp only
 repeat' split
 all_goals first|exact .inl ⟨rfl,rfl⟩|exact .inr ⟨rfl,.inl rfl⟩|exact .inr ⟨rfl,.inr rfl⟩
theorem localStep_func (g:Gor):(localStep apply p g).1.func=g.func:=by
 unfold localStep
 simp only
 repeat' split
 all_goals rfl
def onN (p:Prg) (m:Nat) (g:Gor):Gor:=if g.status=1 then settledN apply p m g else g
theorem onN_live {m:Nat} (h:g.status=1):onN apply p m g=settledN apply p m g:=if_pos h
theorem onN_step {m:Nat} (h1:g.status=1) (hl:isLocal (p.instr g).op=true):onN apply p (m+1) g=onN apply p m (localStep apply p g).1:=by
 unfold onN
 rw [if_pos h1,settledN_succ apply hl]
 rcases localStep_status apply (p:=p) g with ⟨e1,e2⟩|⟨e1,e2⟩
 · rw [e1,if_pos rfl,if_pos (by omega)]
 · rw [e1,if_neg (by simp),if_neg (by omega)]
theorem onN_stop {m:Nat} (h:isLocal (p.instr g).op=false):onN apply p m g=g:=by
 unfold onN
 split
 · exact settledN_stop apply h
 · rfl
theorem onN_over {m:Nat} (h:g.status≠1):onN apply p m g=g:=if_neg h
theorem onN_zero (h1:g.status=1) (hl:isLocal (p.instr g).op=true):onN apply p 0 g=⟨5,g.func,g.pc,g.why,g.regs⟩:=by
 unfold onN;rw [if_pos h1];exact settledN_zero apply hl
end
end Go.Eng
namespace Go.Eng.Tryz
open Go.RowKit Go.Eng
set_option maxHeartbeats 0
set_option maxRecDepth 20000
def lv159:List (Nat × List Nat):=[(0,[1,2,3,6]),(1,[3,6]),(2,[6])]
theorem done_ctr (g:Gor) (status why:Int):Ctr Go.Proofs.Tryz.prog tab 159 [34,3,3] [34] [g.v,.int status,.int why] [(ended g status why).v]:=by
 refine Ctr.body ok Go.Proofs.Tryz.func159 rfl rfl 14 rfl [.cell 6 34] rfl (by simp [fromVs]) ?_
 simp only [fromVs,fromV,args0,V.toList_list,V.toInt_int,V.toBool_bool,Nat.zero_add,Nat.reduceAdd,ty3,ty34]
 repeat' first
  | ((with_reducible refine SARA.do fun R1 hR1=>?_);(simp only [go_sem,seval,-List.reduceReplicate,zeroGo_at]);(repeat' with_reducible refine And.intro ?_ ?_);all_goals first|(refine hR1 _ ?_;clear hR1 R1)|omega|rfl|decide|assumption|(intro _;omega)|(simp;done)|(simp;omega)|(simp [roomFor,maxLen,by3,by39,by45,by48,by37]<;>omega))
  | ((with_reducible refine SARA.nil ?_);refine hR _ ?_;clear hR R;try simp only [go_sem,lv159,lvOf,Nat.reduceBEq,Option.getD_some])
  | (with_reducible first|refine J1 ?_|refine J2 ?_|refine J3 ?_|refine J4 ?_|refine J5 ?_|refine J6 ?_|refine J7 ?_|refine J8 (by decide) ?_|refine J9 ?_|refine J10 ?_|refine J11 ?_|refine J12 ?_|refine J13 ?_|refine J14 ?_|refine J15 ?_|refine J16 ?_|refine J17 ?_|refine J18 ?_|refine J19 ?_)
  | ((with_reducible refine J21 ok (by kernel_rfl) lv159 ?_);intro R hR;simp only [go_sem,strip])
  | ((with_reducible first|refine ctrK.normal ?_|refine ctrK.ret ?_)
     simp only [go_sem,resA,resV,backK,seval]
     exact ⟨rfl,rfl⟩)
def lv139:List (Nat × List Nat):=[(0,[2,3,4]),(1,[2,3,4]),(2,[2,3,4,13]),(3,[2,3,4,5]),(4,[2,3,4,5,16]),(5,[2,3,4,5]),(6,[2,3,4,6,7]),(7,[2,3,4,6,34]),(8,[2,3,4,6,34,35]),(9,[2,4]),(10,[4]),(11,[2,3,4,6,43]),(12,[2,4]),(13,[4]),(14,[2,4]),(15,[2,3,4,13,56]),(16,[2,4]),(17,[2,3,4,13,64]),(18,[2,4]),(19,[2,3,4,13,75]),(20,[2,4]),(21,[2,3,4,13,80]),(22,[2,3,4,87]),(23,[2,4]),(24,[2,3,4,13,91]),(25,[2,4,98]),(26,[2,4]),(27,[4]),(28,[2,3,4,105]),(29,[2,4]),(30,[4]),(31,[4])]
theorem slocal_ctr (p:Prg) (g:Gor) (hok:p.Ok) (hgi:gorIn p g) (hl:isLocal (p.instr g).op=true):Ctr Go.Proofs.Tryz.prog tab 139 [34,129] [34] [g.v,(p.instr g).v] [(localStep applyW p g).1.v]:=by
 obtain ⟨hf0,hf1,hpc0,hpc1,h8⟩:=hgi
 have hgi:gorIn p g:=⟨hf0,hf1,hpc0,hpc1,h8⟩
 have hcl:=hok.code g.func.toNat (by omega)
 have hrg:=hok.regs g.func.toNat
 have hin:=instr_right hok hgi
 have hlr:=local_range hl
 refine Ctr.body ok Go.Proofs.Tryz.func139 rfl rfl 114 rfl [.cell 4 34] rfl (by simp [fromVs]) ?_
 simp only [fromVs,fromV,args0,V.toList_list,V.toInt_int,V.toBool_bool,Nat.zero_add,Nat.reduceAdd,ty34,ty129]
 repeat' first
  | ((with_reducible refine SARA.told 1 3 ?_)
     rw [wrap64_ok (n:=g.pc+1) (by omega) (by omega)])
  | ((with_reducible refine SARA.told 26 3 ?_)
     rw [wrap64_ok (n:=g.pc+1-1) (by omega) (by omega),show g.pc+1-1=g.pc by omega])
  | ((with_reducible refine SARA.told 29 3 ?_)
     rw [wrap64_ok (n:=g.pc+1-1) (by omega) (by omega),show g.pc+1-1=g.pc by omega])
  | ((with_reducible refine SARA.told 9 3 ?_)
     rw [wrap64_ok (n:=g.pc+1-1) (by omega) (by omega),show g.pc+1-1=g.pc by omega])
  | ((with_reducible refine SARA.told 12 3 ?_)
     rw [wrap64_ok (n:=g.pc+1-1) (by omega) (by omega),show g.pc+1-1=g.pc by omega])
  | ((with_reducible first|refine SARA.do fun R1 hR1=>?_|refine SART.do fun R1 hR1=>?_|refine SARB.keep fun R1 hR1=>?_|refine SARB.any fun R1 hR1=>?_);(simp only [go_sem,seval,-List.reduceReplicate,zeroGo_at]);(repeat' with_reducible refine And.intro ?_ ?_);all_goals first|(refine hR1 _ ?_;clear hR1 R1)|((first|refine cq (cc (done_ctr _ _ _)) ?_|refine ce (cf (papply_ctr _ _ _) ?_)|refine ⟨_,_,rfl,.inr (CallB.ctr ok (papply_ctr _ _ _) (by first|rfl|(simp [go_sem];done)|fail) ?_)⟩);all_goals ((try simp only [go_sem,seval,-List.reduceReplicate,zeroGo_at]);(repeat' with_reducible refine And.intro ?_ ?_);all_goals first|(refine hR1 _ ?_;clear hR1 R1)|omega|rfl|decide|assumption|(intro _;omega)|(simp;done)|(simp [-List.getD_eq_getElem?_getD];omega)))|omega|rfl|decide|assumption|(intro _;omega)|(simp;done)|(simp [-List.getD_eq_getElem?_getD];omega))
  | ((with_reducible refine SART.done ?_);refine hR _ ?_;clear hR R;try simp only [go_sem,lv139,lvOf,Nat.reduceBEq,Option.getD_some])
  | (with_reducible first|refine SART.br ?_ ?_|exact SARL.nil|refine SARL.cons ?_ ?_)
  | ((with_reducible refine SARA.nil ?_);refine hR _ ?_;clear hR R;try simp only [go_sem,lv139,lvOf,Nat.reduceBEq,Option.getD_some])
  | (with_reducible first|refine J1 ?_|refine J2 ?_|refine J3 ?_|refine J4 ?_|refine J5 ?_|refine J6 ?_|refine J7 ?_|refine J8 (by decide) ?_|refine J9 ?_|refine J10 ?_|refine J11 ?_|refine J12 ?_|refine J13 ?_|refine J14 ?_|refine J15 ?_|refine J16 ?_|refine J17 ?_|refine J18 ?_|refine J19 ?_)
  | ((with_reducible refine SA.at 16 ?_)
     have hI:=loc40 hin hb56
     (with_reducible refine J21 ok (by kernel_rfl) lv139 ?_);intro R hR;simp only [go_sem,strip])
  | ((with_reducible refine SA.at 22 ?_)
     have hI:=(loc43 hin hb80).1
     (with_reducible refine J21 ok (by kernel_rfl) lv139 ?_);intro R hR;simp only [go_sem,strip])
  | ((with_reducible refine SA.at 25 ?_)
     have hI:=loc44 hin hb91
     (with_reducible refine J21 ok (by kernel_rfl) lv139 ?_);intro R hR;simp only [go_sem,strip])
  | ((with_reducible refine SA.at 5 ?_)
     have hI:=loc2 hin (by omega) (by omega)
     (with_reducible refine J21 ok (by kernel_rfl) lv139 ?_);intro R hR;simp only [go_sem,strip])
  | ((with_reducible refine SA.at 18 ?_)
     have hI:=loc41 hin hb64
     refine SA.regionT ok mixed (.take 0 (.take 1 (.take 2 (.take 3 (.take 4 (.take 5 (.take 6 (.take 7 (.take 8 (.br 9 .done .nil)))))))))) [9] lv139 (by kernel_rfl) (fun R hR=>?_);simp only [go_sem,strip])
  | ((with_reducible refine SA.at 6 ?_)
     have hI:(0≤(p.instr g).a∧(p.instr g).a<8)∧(0≤(p.instr g).b∧(p.instr g).b<8):=by
      by_cases h:(p.instr g).op≤15
      · have:=loc1 hin (by omega) h;omega
      · have:=loc2 hin (by omega) (by omega);omega
     refine SA.regionT ok mixed (.take 0 (.take 1 (.take 2 (.take 3 (.take 4 (.take 5 (.take 6 (.take 7 (.br 8 (.take 9 (.take 10 (.take 11 (.take 12 (.take 13 .done))))) .nil))))))))) [] lv139 (by kernel_rfl) (fun R hR=>?_);simp only [go_sem,strip])
  | ((with_reducible refine J21 ok (by kernel_rfl) lv139 ?_);intro R hR;simp only [go_sem,strip])
  | ((with_reducible refine J20 16 rfl (fun hb16=>?_) (fun hb16=>?_))
     all_goals
      try simp [-List.getD_eq_getElem?_getD] at hb16
      try (exfalso;omega))
  | ((with_reducible refine J20 35 rfl (fun hb35=>?_) (fun hb35=>?_))
     all_goals
      try simp [-List.getD_eq_getElem?_getD] at hb35
      try (exfalso;omega))
  | ((with_reducible refine J20 43 rfl (fun hb43=>?_) (fun hb43=>?_))
     all_goals
      try simp [-List.getD_eq_getElem?_getD] at hb43
      try (exfalso;omega))
  | ((with_reducible refine J20 56 rfl (fun hb56=>?_) (fun hb56=>?_))
     all_goals
      try simp [-List.getD_eq_getElem?_getD] at hb56
      try (exfalso;omega))
  | ((with_reducible refine J20 64 rfl (fun hb64=>?_) (fun hb64=>?_))
     all_goals
      try simp [-List.getD_eq_getElem?_getD] at hb64
      try (exfalso;omega))
  | ((with_reducible refine J20 75 rfl (fun hb75=>?_) (fun hb75=>?_))
     all_goals
      try simp [-List.getD_eq_getElem?_getD] at hb75
      try (exfalso;omega))
  | ((with_reducible refine J20 80 rfl (fun hb80=>?_) (fun hb80=>?_))
     all_goals
      try simp [-List.getD_eq_getElem?_getD] at hb80
      try (exfalso;omega))
  | ((with_reducible refine J20 87 rfl (fun hb87=>?_) (fun hb87=>?_))
     all_goals
      try simp [-List.getD_eq_getElem?_getD] at hb87
      try (exfalso;omega))
  | ((with_reducible refine J20 91 rfl (fun hb91=>?_) (fun hb91=>?_))
     all_goals
      try simp [-List.getD_eq_getElem?_getD] at hb91
      try (exfalso;omega))
  | ((with_reducible refine J20 98 rfl (fun hb98=>?_) (fun hb98=>?_))
     all_goals
      try simp [-List.getD_eq_getElem?_getD] at hb98
      try (exfalso;omega))
  | ((with_reducible refine J20 105 rfl (fun hb105=>?_) (fun hb105=>?_))
     all_goals
      try simp [-List.getD_eq_getElem?_getD] at hb105
      try (exfalso;omega))
  | ((with_reducible first|refine ctrK.normal ?_|refine ctrK.ret ?_)
     simp only [go_sem,resA,resV,backK,seval]
     first
      | (have q:(p.instr g).op=40:=hb56
         exact ⟨rfl,congrArg (fun r:Gor × Bool=>some r.1.v) (ls40 applyW (by omega) (by omega) hb56).symm⟩)
      | (have q:(p.instr g).op=41:=hb64
         exact ⟨rfl,congrArg (fun r:Gor × Bool=>some r.1.v) (ls41 applyW (by omega) (by omega) (by omega) hb64).symm⟩)
      | (have q:(p.instr g).op=42:=hb75
         exact ⟨rfl,congrArg (fun r:Gor × Bool=>some r.1.v) (ls42 applyW (by omega) (by omega) (by omega) (by omega) hb75).symm⟩)
      | (have q:¬_=_:=hb87
         exact ⟨rfl,congrArg (fun r:Gor × Bool=>some r.1.v) (ls43 applyW (by omega) (by omega) (by omega) (by omega) (by omega) hb80 hb87).symm⟩)
      | (have q:_=_:=hb87
         exact ⟨rfl,congrArg (fun r:Gor × Bool=>some r.1.v) (ls43f applyW (by omega) (by omega) (by omega) (by omega) (by omega) hb80 hb87).symm⟩)
      | (have q:_=_:=hb98
         exact ⟨rfl,congrArg (fun r:Gor × Bool=>some r.1.v) (ls44z applyW (by omega) (by omega) (by omega) (by omega) (by omega) (by omega) hb91 hb98).symm⟩)
      | (have q:¬_=_:=hb98
         exact ⟨rfl,congrArg (fun r:Gor × Bool=>some r.1.v) (ls44 applyW (by omega) (by omega) (by omega) (by omega) (by omega) (by omega) hb91 hb98).symm⟩)
      | (have q:(p.instr g).op=45:=hb105
         exact ⟨rfl,congrArg (fun r:Gor × Bool=>some r.1.v) (ls45 (p:=p) (g:=g) applyW (by omega) (by omega) (by omega) (by omega) (by omega) (by omega) (by omega) ).symm⟩)
      | (have q:15<(p.instr g).op:=hb16
         have q:_=_:=hb35
         exact ⟨rfl,congrArg (fun r:Gor × Bool=>some r.1.v) (ls2z applyW (by omega) (by omega) hb35).symm⟩)
      | (have q:15<(p.instr g).op:=hb16
         have q:_=_:=hb43
         exact ⟨rfl,congrArg (fun r:Gor × Bool=>some r.1.v) (ls2s applyW (by omega) (by omega) hb35 hb43).symm⟩)
      | (have q:15<(p.instr g).op:=hb16
         have q:¬_=_:=hb43
         exact ⟨rfl,congrArg (fun r:Gor × Bool=>some r.1.v) (ls2 applyW (by omega) (by omega) hb35 hb43).symm⟩)
      | (have q:(p.instr g).op≤15:=hb16
         have q:_=_:=hb35
         have q2:=(applyW_ok _ _ _).1 hb35
         exfalso
         omega)
      | (have q:(p.instr g).op≤15:=hb16
         have q:_=_:=hb43
         have q2:=(applyW_ok _ _ _).2 hb43
         exfalso
         omega)
      | (have q:(p.instr g).op≤15:=hb16
         exact ⟨rfl,congrArg (fun r:Gor × Bool=>some r.1.v) (ls1 applyW (by omega) ).symm⟩))
end Go.Eng.Tryz
namespace Go.Eng.Tryz
open Go.RowKit Go.Eng
set_option maxHeartbeats 0
set_option maxRecDepth 20000
theorem slocal2_ctr (p:Prg) (g:Gor) (x:Instr) (hx:x=p.instr g) (hok:p.Ok) (hgi:gorIn p g) (hl:isLocal (p.instr g).op=true):Ctr Go.Proofs.Tryz.prog tab 139 [34,129] [34] [g.v,x.v] [(localStep applyW p g).1.v]:=by subst hx;exact slocal_ctr p g hok hgi hl
def lv100:List (Nat × List Nat):=[(0,[2,3,4,6]),(1,[2,4,6,7]),(2,[2,4,6,7,26]),(3,[2,4,6,7,28]),(4,[4,6]),(5,[6]),(6,[2,4,6,7]),(7,[2,4,6,7]),(8,[6])]
theorem ssettled_ctr (p:Prg) (g:Gor) (m0:Nat) (hp:p.Fit) (hr:rightP p=true) (hg:gorIn p g) (hm0:m0≤4096) (h1:g.status=1):Ctr Go.Proofs.Tryz.prog tab 100 [26,34,3] [34] [p.v,g.v,.int m0] [(settledN applyW p m0 g).v]:=by
 have hfit:=hp
 have hcode:=p.code_len hp
 have hsl:=p.sels_len hp
 obtain ⟨hp1,hp2,hp3,hp4⟩:=hp
 have hok:=Prg.ok hr
 have hg0:=hg.f0
 have hg1:=hg.f1
 refine Ctr.body ok Go.Proofs.Tryz.func100 rfl rfl 41 rfl [.cell 6 34] rfl (by simp [fromVs]) ?_
 simp only [fromVs,fromV,args0,V.toList_list,V.toInt_int,V.toBool_bool,Nat.zero_add,Nat.reduceAdd,ty3,ty26,ty34]
 repeat' first
  | ((with_reducible refine SARA.told 1 5 ?_)
     rw [getD_fncs (by omega)])
  | ((with_reducible refine SARA.told 2 8 ?_)
     rw [getD_instrs (by omega)])
  | ((with_reducible refine SART.told 7 4 ?_)
     rw [getD_instrs (by omega)])
  | ((with_reducible first|refine SARA.do fun R1 hR1=>?_|refine SART.do fun R1 hR1=>?_|refine SARB.keep fun R1 hR1=>?_|refine SARB.any fun R1 hR1=>?_);(simp only [go_sem,seval,-List.reduceReplicate,zeroGo_at,Bool.cond_false_right,Bool.cond_true_left,Gor.put0,Gor.put2,Gor.put3,Gor.put4,set_ints]);(repeat' with_reducible refine And.intro ?_ ?_);all_goals first|(refine hR1 _ ?_;clear hR1 R1)|(intro hgf;simp only [hgf];refine hR1 _ ?_;clear hR1 R1)|((first|refine cq (cc (plocal_ctr _)) ?_|refine ⟨_,_,rfl,.inl ⟨_,fun hg=>CallQ.ctr ok (plocal_ctr _) (by first|rfl|(simp [go_sem];done)|fail) rfl,?_⟩⟩|refine cq (cc (slocal2_ctr p h ((p.funcs.getD g.func.toNat default).code.getD h.pc.toNat default) (by unfold Prg.instr;rw [hfn]) hok hgi hlc)) ?_|refine ⟨_,_,rfl,.inl ⟨_,fun hg=>CallQ.ctr ok (slocal2_ctr p h ((p.funcs.getD g.func.toNat default).code.getD h.pc.toNat default) (by unfold Prg.instr;rw [hfn]) hok hgi hlc) (by first|rfl|(simp [go_sem];done)|fail) rfl,?_⟩⟩);all_goals ((try simp only [go_sem,seval,-List.reduceReplicate,zeroGo_at,Bool.cond_false_right,Bool.cond_true_left,Gor.put0,Gor.put2,Gor.put3,Gor.put4,set_ints]);(repeat' with_reducible refine And.intro ?_ ?_);all_goals first|(refine hR1 _ ?_;clear hR1 R1)|(intro hgf;simp only [hgf];refine hR1 _ ?_;clear hR1 R1)|omega|rfl|decide|assumption|(intro _;omega)|(simp;done)|(simp [-List.getD_eq_getElem?_getD];omega)|exact hcode _|(intro _;exact hcode _)|exact hsl _|(intro _;exact hsl _)))|omega|rfl|decide|assumption|(intro _;omega)|(simp;done)|(simp [-List.getD_eq_getElem?_getD];omega)|exact hcode _|(intro _;exact hcode _)|exact hsl _|(intro _;exact hsl _))
  | ((with_reducible refine SART.done ?_);refine hR _ ?_;clear hR R;try simp only [go_sem,lv100,lvOf,Nat.reduceBEq,Option.getD_some])
  | (with_reducible first|refine SART.br ?_ ?_|exact SARL.nil|refine SARL.cons ?_ ?_)
  | ((with_reducible refine SARA.nil ?_);refine hR _ ?_;clear hR R;try simp only [go_sem,lv100,lvOf,Nat.reduceBEq,Option.getD_some])
  | (with_reducible first|refine J1 ?_|refine J2 ?_|refine J3 ?_|refine J4 ?_|refine J5 ?_|refine J6 ?_|refine J7 ?_|refine J8 (by decide) ?_|refine J9 ?_|refine J10 ?_|refine J11 ?_|refine J12 ?_|refine J13 ?_|refine J14 ?_|refine J15 ?_|refine J16 ?_|refine J17 ?_|refine J18 ?_|refine J19 ?_)
  | ((with_reducible refine SA.at 2 ?_)
     obtain ⟨hf0,hf1,hpc0,hpc1,h8⟩:=hgi
     have hgi:gorIn p h:=⟨hf0,hf1,hpc0,hpc1,h8⟩
     rw [hfn] at hpc1
     have hcl:=hok.code g.func.toNat (by omega)
     (with_reducible refine J21 ok (by kernel_rfl) lv100 ?_);intro R hR;simp only [go_sem,strip])
  | ((with_reducible refine SA.at 3 ?_)
     have hlc:isLocal (p.instr h).op=true:=by
      unfold Prg.instr
      rw [hfn]
      exact hb26.2
     (with_reducible refine J21 ok (by kernel_rfl) lv100 ?_);intro R hR;simp only [go_sem,strip])
  | ((with_reducible refine SA.at 7 ?_)
     refine SA.regionT ok mixed (.take 0 (.take 1 (.take 2 (.take 3 (.take 4 (.take 5 (.br 6 (.br 7 .done .nil) .nil))))))) [7] lv100 (by kernel_rfl) (fun R hR=>?_);simp only [go_sem,strip])
  | ((with_reducible refine J21 ok (by kernel_rfl) lv100 ?_);intro R hR;simp only [go_sem,strip])
  | ((with_reducible refine J20 26 rfl (fun hb26=>?_) (fun hb26=>?_))
     all_goals
      try simp [-List.getD_eq_getElem?_getD] at hb26
      try (exfalso;omega))
  | ((with_reducible refine J20 28 rfl (fun hb28=>?_) (fun hb28=>?_))
     all_goals
      try simp [-List.getD_eq_getElem?_getD] at hb28
      try (exfalso;omega))
  | ((with_reducible refine SA.atLoop ?_)
     refine SA.weaken (St.le.of_eq (by first|rfl|(simp;done)|fail)) (SA.loop (fun n τ=>∃ (m:Nat) (h:Gor),n=m∧(m≤4096∧gorIn p h∧h.func=g.func∧onN applyW p m h=settledN applyW p m0 g)∧τ={ tm:=[(2,true,.int .i64 m),(4,true,.ptr 1 [] 34),(6,true,.ptr 2 [] 34),(7,true,.fs 129 ((p.funcs.getD g.func.toNat default).code.map Instr.v) false)],ob:=[.var 26 (.data 26 p.v),.var 34 (.data 34 h.v),.var 34 (.data 34 zeroGor.v)],out:=[],nt:=41 }) (m0) ⟨m0,g,rfl,⟨hm0,hg,rfl,onN_live applyW h1⟩,rfl⟩ ?_)
     rintro n τ ⟨m,h,hn,⟨hm,hgi,hfn,hset⟩,rfl⟩)
  | ((with_reducible refine loopK.round ?_)
     first
      | (obtain ⟨m',rfl⟩:∃ m',m=m'+1:=⟨m-1,by omega⟩
         have hw:IntKind.i64.wrap (((m'+1:Nat):Int)-1)=(m':Int):=by rw [wrap64_ok (by omega) (by omega)];omega
         have hin':=localStep_in applyW hok hgi hlc
         have hst:=onN_step applyW (m:=m') hb26.1 hlc
         refine loopK.normal m' _ (by omega) (St.le.of_eq (by simp only [hw])) ⟨m',_,rfl,⟨by omega,hin',(localStep_func applyW h).trans hfn,by rw [← hst];exact hset⟩,rfl⟩))
  | ((with_reducible first|refine ctrK.normal ?_|refine ctrK.ret ?_)
     simp only [go_sem,resA,resV,backK,seval]
     first
      | (have q:m=0:=hb28
         subst hb28
         rw [onN_zero applyW hb26.1 hlc] at hset
         exact ⟨rfl,congrArg (fun g:Gor=>some g.v) hset⟩)
      | (have hs:onN applyW p m h=h:=by
          by_cases q:h.status=1
          · exact onN_stop applyW (by unfold Prg.instr;rw [hfn];exact hb26 q)
          · exact onN_over applyW q
         rw [hs] at hset
         exact ⟨rfl,congrArg (fun g:Gor=>some g.v) hset⟩))
def lv99:List (Nat × List Nat):=[(0,[0]),(1,[2])]
theorem fuelled_ctr (fuel:Int):Ctr Go.Proofs.Tryz.prog tab 99 [3] [4] [.int fuel] [.bool (decide (0≤fuel)&&decide (fuel≤4096))]:=by
 refine Ctr.body ok Go.Proofs.Tryz.func99 rfl rfl 9 rfl [.tmp 2] rfl (by simp [fromVs]) ?_
 simp only [fromVs,fromV,args0,V.toList_list,V.toInt_int,V.toBool_bool,Nat.zero_add,Nat.reduceAdd,ty3]
 repeat' first
  | ((with_reducible refine SARA.do fun R1 hR1=>?_);(simp only [go_sem,seval,-List.reduceReplicate,Bool.cond_false_right,Bool.cond_true_left]);(repeat' with_reducible refine And.intro ?_ ?_);all_goals first|(refine hR1 _ ?_;clear hR1 R1)|omega|rfl|decide|assumption|(intro _;omega)|(simp;done)|(simp;omega))
  | ((with_reducible refine SARA.nil ?_);refine hR _ ?_;clear hR R;try simp only [go_sem,lv99,lvOf,Nat.reduceBEq,Option.getD_some])
  | (with_reducible first|refine J1 ?_|refine J2 ?_|refine J3 ?_|refine J4 ?_|refine J5 ?_|refine J6 ?_|refine J7 ?_|refine J8 (by decide) ?_|refine J9 ?_|refine J10 ?_|refine J11 ?_|refine J12 ?_|refine J13 ?_|refine J14 ?_|refine J15 ?_|refine J16 ?_|refine J17 ?_|refine J18 ?_|refine J19 ?_)
  | ((with_reducible refine J21 ok (by kernel_rfl) lv99 ?_);intro R hR;simp only [go_sem,strip])
  | ((with_reducible first|refine ctrK.normal ?_|refine ctrK.ret ?_)
     simp only [go_sem,resA,resV,backK,seval]
     first|exact ⟨rfl,rfl⟩|rfl)
end Go.Eng.Tryz
namespace Go.Eng.Tryz
open Go.RowKit Go.Eng
set_option maxHeartbeats 0
set_option maxRecDepth 20000
theorem ssettled_ctr' (p:Prg) (g:Gor) (fuel:Int) (hp:p.Fit) (hr:rightP p=true) (hg:gorIn p g) (hf:0≤fuel∧fuel≤4096) (h1:g.status=1):Ctr Go.Proofs.Tryz.prog tab 100 [26,34,3] [34] [p.v,g.v,.int fuel] [(settledN applyW p fuel.toNat g).v]:=by
 obtain ⟨m,rfl⟩:=Int.eq_ofNat_of_zero_le hf.1
 exact ssettled_ctr p g m hp hr hg (by omega) h1
def lv122:List (Nat × List Nat):=[(0,[2,3,4,5,8]),(1,[2,3,4,5,8,13]),(2,[8,9]),(3,[2,3,4,5,8,18]),(4,[8,9]),(5,[2,3,4,5,8,30]),(6,[8,9]),(7,[2,3,4,5,8,35]),(8,[8,9]),(9,[2,3,4,5,8,10]),(10,[2,3,4,5,8,10,48]),(11,[2,3,4,5,8,10]),(12,[5,8]),(13,[8,9])]
theorem psettle_ctr (p:Prg) (s:Stt) (g fuel:Int) (hp:p.Fit) (hs:s.Shape):Ctr Go.Proofs.Tryz.prog tab 122 [26,37,3,3] [37,49] [p.v,s.v,.int g,.int fuel] [(settle applyW p s g fuel).1.v,.int (settle applyW p s g fuel).2]:=by
 have hpp:=hp
 have hfit:=hp
 have hcode:=p.code_len hp
 have hsl:=p.sels_len hp
 obtain ⟨hp1,hp2,hp3,hp4⟩:=hp
 have hs5:=hs.gos
 refine Ctr.body ok Go.Proofs.Tryz.func122 rfl rfl 58 rfl [.cell 8 37,.tmp 9] rfl (by simp [fromVs]) ?_
 simp only [fromVs,fromV,args0,V.toList_list,V.toInt_int,V.toBool_bool,Nat.zero_add,Nat.reduceAdd,ty3,ty26,ty37]
 repeat' first
  | ((with_reducible refine SARA.told 9 4 ?_)
     rw [getD_gors (by omega)])
  | ((with_reducible refine SARA.do fun R1 hR1=>?_);(simp only [go_sem,seval,-List.reduceReplicate,zeroGo_at,zeroState_at,Bool.cond_false_right,Bool.cond_true_left,Gor.put0,Gor.put2,Gor.put3,Gor.put4,set_ints]);(repeat' with_reducible refine And.intro ?_ ?_);all_goals first|(refine hR1 _ ?_;clear hR1 R1)|(intro hgf;simp only [hgf];refine hR1 _ ?_;clear hR1 R1)|((first|refine cq (cc (sright_ctr p hpp)) ?_|refine ⟨_,_,rfl,.inl ⟨_,fun hg=>CallQ.ctr ok (sright_ctr p hpp) (by first|rfl|(simp [go_sem];done)|fail) rfl,?_⟩⟩|refine cq (cc (pvalid_ctr p s hpp hs)) ?_|refine ⟨_,_,rfl,.inl ⟨_,fun hg=>CallQ.ctr ok (pvalid_ctr p s hpp hs) (by first|rfl|(simp [go_sem];done)|fail) rfl,?_⟩⟩|refine cq (cc (fuelled_ctr _)) ?_|refine ⟨_,_,rfl,.inl ⟨_,fun hg=>CallQ.ctr ok (fuelled_ctr _) (by first|rfl|(simp [go_sem];done)|fail) rfl,?_⟩⟩|refine cq (cc (ssettled_ctr' p ⟨1,(s.gos.getD g.toNat default).func,(s.gos.getD g.toNat default).pc,(s.gos.getD g.toNat default).why,(s.gos.getD g.toNat default).regs⟩ fuel hpp hb13 hgi1 hf rfl)) ?_|refine ⟨_,_,rfl,.inl ⟨_,fun hg=>CallQ.ctr ok (ssettled_ctr' p ⟨1,(s.gos.getD g.toNat default).func,(s.gos.getD g.toNat default).pc,(s.gos.getD g.toNat default).why,(s.gos.getD g.toNat default).regs⟩ fuel hpp hb13 hgi1 hf rfl) (by first|rfl|(simp [go_sem];done)|fail) rfl,?_⟩⟩);all_goals ((try simp only [go_sem,seval,-List.reduceReplicate,zeroGo_at,zeroState_at,Bool.cond_false_right,Bool.cond_true_left,Gor.put0,Gor.put2,Gor.put3,Gor.put4,set_ints]);(repeat' with_reducible refine And.intro ?_ ?_);all_goals first|(refine hR1 _ ?_;clear hR1 R1)|(intro hgf;simp only [hgf];refine hR1 _ ?_;clear hR1 R1)|omega|rfl|decide|assumption|(intro _;omega)|(simp;done)|(simp [-List.getD_eq_getElem?_getD];omega)|exact hcode _|(intro _;exact hcode _)|exact hsl _|(intro _;exact hsl _)))|omega|rfl|decide|assumption|(intro _;omega)|(simp;done)|(simp [-List.getD_eq_getElem?_getD];omega)|exact hcode _|(intro _;exact hcode _)|exact hsl _|(intro _;exact hsl _))
  | ((with_reducible refine SARA.nil ?_);refine hR _ ?_;clear hR R;try simp only [go_sem,lv122,lvOf,Nat.reduceBEq,Option.getD_some])
  | (with_reducible first|refine J1 ?_|refine J2 ?_|refine J3 ?_|refine J4 ?_|refine J5 ?_|refine J6 ?_|refine J7 ?_|refine J8 (by decide) ?_|refine J9 ?_|refine J10 ?_|refine J11 ?_|refine J12 ?_|refine J13 ?_|refine J14 ?_|refine J15 ?_|refine J16 ?_|refine J17 ?_|refine J18 ?_|refine J19 ?_)
  | ((with_reducible refine SA.at 5 ?_)
     obtain ⟨hv1,hv2,hv3,hv4⟩:=valid_parts hb18
     (with_reducible refine J21 ok (by kernel_rfl) lv122 ?_);intro R hR;simp only [go_sem,strip])
  | ((with_reducible refine SA.at 9 ?_)
     have hgi:=gor_in hs hv3 (g:=g) (by omega) (by omega) (by omega)
     have hf:0≤fuel∧fuel≤4096:=by omega
     have hgi1:gorIn p ⟨1,(s.gos.getD g.toNat default).func,(s.gos.getD g.toNat default).pc,(s.gos.getD g.toNat default).why,(s.gos.getD g.toNat default).regs⟩:=⟨hgi.f0,hgi.f1,hgi.p0,hgi.p1,hgi.regs⟩
     (with_reducible refine J21 ok (by kernel_rfl) lv122 ?_);intro R hR;simp only [go_sem,strip])
  | ((with_reducible refine J21 ok (by kernel_rfl) lv122 ?_);intro R hR;simp only [go_sem,strip])
  | ((with_reducible refine J20 13 rfl (fun hb13=>?_) (fun hb13=>?_))
     all_goals
      try simp [-List.getD_eq_getElem?_getD] at hb13
      try (exfalso;omega))
  | ((with_reducible refine J20 18 rfl (fun hb18=>?_) (fun hb18=>?_))
     all_goals
      try simp [-List.getD_eq_getElem?_getD] at hb18
      try (exfalso;omega))
  | ((with_reducible refine J20 30 rfl (fun hb30=>?_) (fun hb30=>?_))
     all_goals
      try simp [-List.getD_eq_getElem?_getD] at hb30
      try (exfalso;omega))
  | ((with_reducible refine J20 35 rfl (fun hb35=>?_) (fun hb35=>?_))
     all_goals
      try simp [-List.getD_eq_getElem?_getD] at hb35
      try (exfalso;omega))
  | ((with_reducible refine J20 48 rfl (fun hb48=>?_) (fun hb48=>?_))
     all_goals
      try simp [-List.getD_eq_getElem?_getD] at hb48
      try (exfalso;omega))
  | ((with_reducible first|refine ctrK.normal ?_|refine ctrK.ret ?_)
     simp only [go_sem,resA,resV,backK,seval]
     first
      | (have q:_∨_:=hb48
         have e:settle applyW p s g fuel=(⟨s.vars,s.owner,s.chans,s.gos.set g.toNat (settled applyW p (s.gor g) fuel),s.count⟩,0):=(if_neg (by rw [hb13];simp)).trans ((if_neg (by rw [hb18];simp)).trans ((if_neg (by omega)).trans ((if_neg (by omega)).trans (if_pos hb48))))
         rw [e]
         exact ⟨⟨rfl,rfl⟩,⟨rfl,rfl⟩⟩)
      | (have q:_∧_:=hb48
         have e:settle applyW p s g fuel=(s,0):=(if_neg (by rw [hb13];simp)).trans ((if_neg (by rw [hb18];simp)).trans ((if_neg (by omega)).trans ((if_neg (by omega)).trans (if_neg (fun q=>q.elim hb48.1 hb48.2)))))
         rw [e]
         exact ⟨⟨rfl,rfl⟩,⟨rfl,rfl⟩⟩)
      | (have q:=hb35
         have e:settle applyW p s g fuel=(zeroStt,9):=(if_neg (by rw [hb13];simp)).trans ((if_neg (by rw [hb18];simp)).trans ((if_neg (by omega)).trans (if_pos hb35)))
         rw [e]
         exact ⟨⟨rfl,rfl⟩,⟨rfl,rfl⟩⟩)
      | (have q:=hb30
         have e:settle applyW p s g fuel=(zeroStt,1):=(if_neg (by rw [hb13];simp)).trans ((if_neg (by rw [hb18];simp)).trans (if_pos (by omega)))
         rw [e]
         exact ⟨⟨rfl,rfl⟩,⟨rfl,rfl⟩⟩)
      | (have q:=hb18
         have e:settle applyW p s g fuel=(zeroStt,4):=(if_neg (by rw [hb13];simp)).trans (if_pos hb18)
         rw [e]
         exact ⟨⟨rfl,rfl⟩,⟨rfl,rfl⟩⟩)
      | (have e:settle applyW p s g fuel=(zeroStt,3):=if_pos hb13
         rw [e]
         exact ⟨⟨rfl,rfl⟩,⟨rfl,rfl⟩⟩))
end Go.Eng.Tryz
namespace Go.Eng
def askErr (p:Prg) (s:Stt):Int:=if rightP p=false then 3 else if validP p s=false then 4 else 0
def liveB (s:Stt) (g:Int):Bool:=decide ((s.gos.getD g.toNat default).status=1)||decide ((s.gos.getD g.toNat default).status=2)
def oneErr (p:Prg) (s:Stt) (g:Int):Int:=if askErr p s≠0 then askErr p s else if g<0∨6≤g then 1 else if liveB s g=false then 9 else 0
def atI (p:Prg) (s:Stt) (g:Int):Instr:={ instrAt p s g with op:=opAt p s g }
def thereB (s:Stt) (g k:Int):Bool:=decide (0≤k)&&decide (k<s.count)&&!decide (k=g)
def liveTo (s:Stt) (n:Nat):List Int:=((List.range n).filter fun (g:Nat)=>liveB s (g:Int)).map fun (g:Nat)=>(g:Int)
theorem ask_zero {p:Prg} {s:Stt} (h:askErr p s=0):rightP p=true∧validP p s=true:=by
 unfold askErr at h
 split at h;· cases h
 rename_i h1
 split at h;· cases h
 rename_i h2
 exact ⟨by simpa using h1,by simpa using h2⟩
theorem one_zero {p:Prg} {s:Stt} {g:Int} (h:oneErr p s g=0):askErr p s=0∧(0≤g∧g<6)∧liveB s g=true:=by
 unfold oneErr at h
 split at h
 · rename_i h1;exact absurd h h1
 · rename_i h1
   split at h;· cases h
   rename_i h2
   split at h;· cases h
   rename_i h3
   exact ⟨Decidable.not_not.1 h1,by omega,by simpa using h3⟩
theorem liveB_count {p:Prg} {s:Stt} (hv:Vld p s) {g:Int} (h0:0≤g) (h6:g<6) (h:liveB s g=true):g<s.count:=by
 by_cases hc:g<s.count
 · exact hc
 · have:=hv.rest g.toNat (by omega) (by omega)
   unfold liveB at h
   rw [this] at h
   exact absurd h (by decide)
theorem isLive_in {s:Stt} {g:Int} (h0:0≤g) (hc:g<s.count):isLive s g=liveB s g:=by
 unfold isLive liveB
 rw [decide_eq_true h0,decide_eq_true hc];rfl
theorem liveB_live {p:Prg} {s:Stt} (hv:Vld p s) {g:Int} (h0:0≤g) (h6:g<6):isLive s g=liveB s g:=by
 by_cases hc:g<s.count
 · exact isLive_in h0 hc
 · cases h:liveB s g
   · unfold isLive;rw [decide_eq_false hc];simp
   · exact absurd (liveB_count hv h0 h6 h) hc
theorem liveTo_succ (s:Stt) (n:Nat):liveTo s (n+1)=liveTo s n++if liveB s (n:Int)=true then [(n:Int)] else []:=by
 unfold liveTo
 rw [List.range_succ,List.filter_append,List.map_append]
 congr 1
 simp only [List.filter_cons,List.filter_nil]
 split<;>rfl
theorem liveTo_len (s:Stt) (n:Nat):(liveTo s n).length≤n:=by
 unfold liveTo
 rw [List.length_map]
 exact Nat.le_trans (List.length_filter_le _ _) (by simp)
theorem sends_eq {p:Prg} {s:Stt} {c:Int} (h:0≤p.chans.getD c.toNat 0):sends p s c=((s.chans.getD c.toNat default).closed||(decide (0<p.chans.getD c.toNat 0)&&decide ((s.chans.getD c.toNat default).len<p.chans.getD c.toNat 0))||(decide (p.chans.getD c.toNat 0=0)&&decide ((s.chans.getD c.toNat default).offer=0))):=by
 show (if (s.chans.getD c.toNat default).closed=true then true else if 0<p.chans.getD c.toNat 0 then decide ((s.chans.getD c.toNat default).len<p.chans.getD c.toNat 0) else decide ((s.chans.getD c.toNat default).offer=0))=_
 cases (s.chans.getD c.toNat default).closed
 · rw [if_neg (by simp)]
   by_cases h2:0<p.chans.getD c.toNat 0
   · rw [if_pos h2,decide_eq_true h2,decide_eq_false (show ¬p.chans.getD c.toNat 0=0 by omega)];simp
   · rw [if_neg h2,decide_eq_false h2,decide_eq_true (show p.chans.getD c.toNat 0=0 by omega)];simp
 · rw [if_pos rfl];simp
section
variable {p:Prg} {s:Stt} {g:Int}
theorem plain54 (h:opAt p s g=54):plain p s g=decide (s.vars.getD (instrAt p s g).a.toNat 0=(s.gos.getD g.toNat default).regs.getD (instrAt p s g).b.toNat 0):=if_pos h
theorem plain55 (h:opAt p s g=55):plain p s g=decide (s.owner.getD (instrAt p s g).a.toNat 0=0):=(if_neg (by omega)).trans (if_pos h)
theorem plain58 (h:opAt p s g=58):plain p s g=sends p s (instrAt p s g).a:=(if_neg (by omega)).trans ((if_neg (by omega)).trans (if_pos h))
theorem plain59 (h:opAt p s g=59):plain p s g=receives s (instrAt p s g).b:=(if_neg (by omega)).trans ((if_neg (by omega)).trans ((if_neg (by omega)).trans (if_pos h)))
theorem plain66 (h:opAt p s g=66):plain p s g=(decide ((s.chans.getD (instrAt p s g).a.toNat default).offer=2)||decide ((s.chans.getD (instrAt p s g).a.toNat default).offer=3)):=(if_neg (by omega)).trans ((if_neg (by omega)).trans ((if_neg (by omega)).trans ((if_neg (by omega)).trans (if_pos h))))
theorem plain63 (h:opAt p s g=63):plain p s g=(!thereB s g ((s.gos.getD g.toNat default).regs.getD (instrAt p s g).a.toNat 0)||!liveB s ((s.gos.getD g.toNat default).regs.getD (instrAt p s g).a.toNat 0)):=by
 have e:plain p s g=(decide ((s.gos.getD g.toNat default).regs.getD (instrAt p s g).a.toNat 0<0)||decide (s.count≤(s.gos.getD g.toNat default).regs.getD (instrAt p s g).a.toNat 0)||decide ((s.gos.getD g.toNat default).regs.getD (instrAt p s g).a.toNat 0=g)||!isLive s ((s.gos.getD g.toNat default).regs.getD (instrAt p s g).a.toNat 0)) :=
  (if_neg (by omega)).trans ((if_neg (by omega)).trans ((if_neg (by omega)).trans ((if_neg (by omega)).trans ((if_neg (by omega)).trans (if_pos h)))))
 rw [e]
 generalize (s.gos.getD g.toNat default).regs.getD (instrAt p s g).a.toNat 0=k
 unfold thereB
 by_cases h0:0≤k
 · by_cases h1:k<s.count
   · rw [decide_eq_false (show ¬k<0 by omega),decide_eq_false (show ¬s.count≤k by omega),decide_eq_true h0,decide_eq_true h1,isLive_in h0 h1];cases decide (k=g)<;>rfl
   · rw [decide_eq_true (show s.count≤k by omega),decide_eq_false h1];simp
 · rw [decide_eq_true (show k<0 by omega),decide_eq_false h0];simp
theorem plain_else (h:opAt p s g≠54∧opAt p s g≠55∧opAt p s g≠58∧opAt p s g≠59∧opAt p s g≠66∧opAt p s g≠63):plain p s g=decide (50≤opAt p s g) :=
 (if_neg h.1).trans ((if_neg h.2.1).trans ((if_neg h.2.2.1).trans ((if_neg h.2.2.2.1).trans ((if_neg h.2.2.2.2.1).trans (if_neg h.2.2.2.2.2)))))
end
end Go.Eng
namespace Go.Eng.Tryz
open Go.RowKit Go.Eng
set_option maxHeartbeats 0
set_option maxRecDepth 20000
def lv39:List (Nat × List Nat):=[(0,[1]),(1,[1,3]),(2,[3,7,8]),(3,[3,7,8,9]),(4,[3,4,5,7,8]),(5,[3,4,7,8,19]),(6,[3,7,8]),(7,[3,7,8]),(8,[2])]
theorem plive_ctr (s:Stt) (hs:s.Shape):Ctr Go.Proofs.Tryz.prog tab 39 [37] [23] [s.v] [.list ((liveTo s 6).map V.int)]:=by
 have hcode:True→True:=id
 have hsl:True→True:=id
 have hs5:=hs.gos
 refine Ctr.body ok Go.Proofs.Tryz.func39 rfl rfl 26 rfl [.tmp 2] rfl (by simp [fromVs]) ?_
 simp only [fromVs,fromV,args0,V.toList_list,V.toInt_int,V.toBool_bool,Nat.zero_add,Nat.reduceAdd,ty37]
 repeat' first
  | ((with_reducible refine SARA.told 4 2 ?_)
     rw [getD_gors (by omega)])
  | ((with_reducible refine SARA.do fun R1 hR1=>?_);(simp only [go_sem,seval,-List.reduceReplicate,zeroGo_at,zeroState_at,zero142,z142,z3,Bool.cond_false_right,Bool.cond_true_left]);(repeat' with_reducible refine And.intro ?_ ?_);all_goals first|(refine hR1 _ ?_;clear hR1 R1)|omega|rfl|decide|assumption|(intro _;omega)|(simp;done)|(simp [-List.getD_eq_getElem?_getD];omega)|exact hcode _|(intro _;exact hcode _)|exact hsl _|(intro _;exact hsl _)|(simp [-List.getD_eq_getElem?_getD,roomFor,maxLen,by3,by39,by45,by48,by37];omega)|(simp [-List.getD_eq_getElem?_getD,roomFor,maxLen,by3,by39,by45,by48,by37];done))
  | ((with_reducible refine SARA.nil ?_);refine hR _ ?_;clear hR R;try simp only [go_sem,lv39,lvOf,Nat.reduceBEq,Option.getD_some])
  | (with_reducible first|refine J1 ?_|refine J2 ?_|refine J3 ?_|refine J4 ?_|refine J5 ?_|refine J6 ?_|refine J7 ?_|refine J8 (by decide) ?_|refine J9 ?_|refine J10 ?_|refine J11 ?_|refine J12 ?_|refine J13 ?_|refine J14 ?_|refine J15 ?_|refine J16 ?_|refine J17 ?_|refine J18 ?_|refine J19 ?_)
  | ((with_reducible refine SA.at 6 ?_)
     have hll:=liveTo_len s i
     (with_reducible refine J21 ok (by kernel_rfl) lv39 ?_);intro R hR;simp only [go_sem,strip])
  | ((with_reducible refine J21 ok (by kernel_rfl) lv39 ?_);intro R hR;simp only [go_sem,strip])
  | ((with_reducible refine J20 9 rfl (fun hb9=>?_) (fun hb9=>?_))
     all_goals
      try simp [-List.getD_eq_getElem?_getD] at hb9
      try (exfalso;omega))
  | ((with_reducible refine J20 19 rfl (fun hb19=>?_) (fun hb19=>?_))
     all_goals
      try simp [-List.getD_eq_getElem?_getD] at hb19
      try (exfalso;omega))
  | ((with_reducible refine SA.atLoop ?_)
     refine SA.weaken ((St.le.own (t:=3) 3 rfl).trans ((St.le.keep [3,7,8]).trans (St.le.of_eq (by first|rfl|(simp [liveTo];done))))) (SA.loop (fun n τ=>∃ (i:Nat),n=6-i∧(i≤6)∧τ={ tm:=[(3,true,.sl 1 3 0 (liveTo s i).length false),(7,true,.data 35 (.agg (s.gos.map Gor.v))),(8,true,.int .i64 i)],ob:=[.var 37 (.data 37 s.v),.row 3 ((liveTo s i).map V.int)],out:=[],nt:=26 }) (6) ⟨0,rfl,by omega,rfl⟩ ?_)
     rintro n τ ⟨i,hn,hi,rfl⟩)
  | ((with_reducible refine loopK.round ?_)
     first
      | (have q:_∨_:=hb19
         have hlt:i<6:=by omega
         have hw:=wrap_succ (n:=i) (m:=256) (by omega) (by decide)
         have e:=liveTo_succ s i
         rw [if_pos (by unfold liveB;simpa using hb19)] at e
         refine loopK.normal (6-(i+1)) _ (by omega) ((St.le.cut 2 rfl).trans (St.le.of_eq (by simp [-List.getD_eq_getElem?_getD,hw,e,List.take_of_length_le]))) ⟨i+1,rfl,hlt,rfl⟩)
      | (have q:_∧_:=hb19
         have hlt:i<6:=by omega
         have hw:=wrap_succ (n:=i) (m:=256) (by omega) (by decide)
         have e:=liveTo_succ s i
         rw [if_neg (by unfold liveB;simpa using hb19),List.append_nil] at e
         refine loopK.normal (6-(i+1)) _ (by omega) ((St.le.cut 2 rfl).trans (St.le.of_eq (by simp [-List.getD_eq_getElem?_getD,hw,e,List.take_of_length_le]))) ⟨i+1,rfl,hlt,rfl⟩))
  | ((with_reducible first|refine ctrK.normal ?_|refine ctrK.ret ?_)
     simp only [go_sem,resA,resV,backK,seval]
     have e:i=6:=by omega
     subst e
     refine ⟨rfl,?_⟩
     simp [List.take_of_length_le])
def lv60:List (Nat × List Nat):=[(0,[2,3]),(1,[2,3,5]),(2,[2,3,13]),(3,[4]),(4,[17]),(5,[4]),(6,[4])]
theorem pasked_ctr (p:Prg) (s:Stt) (hp:p.Fit) (hs:s.Shape):Ctr Go.Proofs.Tryz.prog tab 60 [26,37] [49] [p.v,s.v] [.int (askErr p s)]:=by
 have hpp:=hp
 have hfit:=hp
 have hcode:=p.code_len hp
 have hsl:=p.sels_len hp
 obtain ⟨hp1,hp2,hp3,hp4⟩:=hp
 refine Ctr.body ok Go.Proofs.Tryz.func60 rfl rfl 18 rfl [.tmp 4] rfl (by simp [fromVs]) ?_
 simp only [fromVs,fromV,args0,V.toList_list,V.toInt_int,V.toBool_bool,Nat.zero_add,Nat.reduceAdd,ty26,ty37]
 repeat' first
  | ((with_reducible refine SARA.do fun R1 hR1=>?_);(simp only [go_sem,seval,-List.reduceReplicate,zeroGo_at,zeroState_at,zero142,z142,z3,Bool.cond_false_right,Bool.cond_true_left]);(repeat' with_reducible refine And.intro ?_ ?_);all_goals first|(refine hR1 _ ?_;clear hR1 R1)|((first|refine ce (cf (pcheck_ctr p hpp) ?_)|refine cq (cc (pvalid_ctr p s hpp hs)) ?_);all_goals ((try simp only [go_sem,seval,-List.reduceReplicate,zeroGo_at,zeroState_at,zero142,z142,z3,Bool.cond_false_right,Bool.cond_true_left]);(repeat' with_reducible refine And.intro ?_ ?_);all_goals first|(refine hR1 _ ?_;clear hR1 R1)|omega|rfl|decide|assumption|(intro _;omega)|(simp;done)|(simp [-List.getD_eq_getElem?_getD];omega)|exact hcode _|(intro _;exact hcode _)|exact hsl _|(intro _;exact hsl _)))|omega|rfl|decide|assumption|(intro _;omega)|(simp;done)|(simp [-List.getD_eq_getElem?_getD];omega)|exact hcode _|(intro _;exact hcode _)|exact hsl _|(intro _;exact hsl _))
  | ((with_reducible refine SARA.nil ?_);refine hR _ ?_;clear hR R;try simp only [go_sem,lv60,lvOf,Nat.reduceBEq,Option.getD_some])
  | (with_reducible first|refine J1 ?_|refine J2 ?_|refine J3 ?_|refine J4 ?_|refine J5 ?_|refine J6 ?_|refine J7 ?_|refine J8 (by decide) ?_|refine J9 ?_|refine J10 ?_|refine J11 ?_|refine J12 ?_|refine J13 ?_|refine J14 ?_|refine J15 ?_|refine J16 ?_|refine J17 ?_|refine J18 ?_|refine J19 ?_)
  | ((with_reducible refine J21 ok (by kernel_rfl) lv60 ?_);intro R hR;simp only [go_sem,strip])
  | ((with_reducible refine J20 13 rfl (fun hb13=>?_) (fun hb13=>?_))
     all_goals
      try simp [-List.getD_eq_getElem?_getD] at hb13
      try (exfalso;omega))
  | ((with_reducible refine J20 17 rfl (fun hb17=>?_) (fun hb17=>?_))
     all_goals
      try simp [-List.getD_eq_getElem?_getD] at hb17
      try (exfalso;omega))
  | ((with_reducible first|refine ctrK.normal ?_|refine ctrK.ret ?_)
     simp only [go_sem,resA,resV,backK,seval]
     first
      | (have q:=hb17
         exact ⟨rfl,congrArg (fun e=>some (V.int e)) (Eq.symm ((if_neg (by unfold rightP;simp [hb13])).trans (if_pos hb17)))⟩)
      | (have q:=hb17
         exact ⟨rfl,congrArg (fun e=>some (V.int e)) (Eq.symm ((if_neg (by unfold rightP;simp [hb13])).trans (if_neg (by simp [hb17]))))⟩)
      | (exact ⟨rfl,congrArg (fun e=>some (V.int e)) (Eq.symm (if_pos (by unfold rightP;simp [hb13])))⟩))
def lv61:List (Nat × List Nat):=[(0,[1,2]),(1,[4])]
theorem steplive_ctr (s:Stt) (g:Int) (hs:s.Shape) (hg:0≤g∧g<6):Ctr Go.Proofs.Tryz.prog tab 61 [37,3] [4] [s.v,.int g] [.bool (liveB s g)]:=by
 have hcode:True→True:=id
 have hsl:True→True:=id
 have hs5:=hs.gos
 refine Ctr.body ok Go.Proofs.Tryz.func61 rfl rfl 19 rfl [.tmp 4] rfl (by simp [fromVs]) ?_
 simp only [fromVs,fromV,args0,V.toList_list,V.toInt_int,V.toBool_bool,Nat.zero_add,Nat.reduceAdd,ty3,ty37]
 repeat' first
  | ((with_reducible refine SARA.do fun R1 hR1=>?_);(simp only [go_sem,seval,-List.reduceReplicate,zeroGo_at,zeroState_at,zero142,z142,z3,Bool.cond_false_right,Bool.cond_true_left]);(repeat' with_reducible refine And.intro ?_ ?_);all_goals first|(refine hR1 _ ?_;clear hR1 R1)|omega|rfl|decide|assumption|(intro _;omega)|(simp;done)|(simp [-List.getD_eq_getElem?_getD];omega)|exact hcode _|(intro _;exact hcode _)|exact hsl _|(intro _;exact hsl _))
  | ((with_reducible refine SARA.nil ?_);refine hR _ ?_;clear hR R;try simp only [go_sem,lv61,lvOf,Nat.reduceBEq,Option.getD_some])
  | (with_reducible first|refine J1 ?_|refine J2 ?_|refine J3 ?_|refine J4 ?_|refine J5 ?_|refine J6 ?_|refine J7 ?_|refine J8 (by decide) ?_|refine J9 ?_|refine J10 ?_|refine J11 ?_|refine J12 ?_|refine J13 ?_|refine J14 ?_|refine J15 ?_|refine J16 ?_|refine J17 ?_|refine J18 ?_|refine J19 ?_)
  | ((with_reducible refine J21 ok (by kernel_rfl) lv61 ?_);intro R hR;simp only [go_sem,strip])
  | ((with_reducible first|refine ctrK.normal ?_|refine ctrK.ret ?_)
     simp only [go_sem,resA,resV,backK,seval]
     exact ⟨rfl,rfl⟩)
def lv74:List (Nat × List Nat):=[(0,[2,3,4]),(1,[2,4,7]),(2,[2,4,7,11]),(3,[6]),(4,[2,4,15]),(5,[6]),(6,[22]),(7,[6]),(8,[6])]
theorem pone_ctr (p:Prg) (s:Stt) (g:Int) (hp:p.Fit) (hs:s.Shape):Ctr Go.Proofs.Tryz.prog tab 74 [26,37,3] [49] [p.v,s.v,.int g] [.int (oneErr p s g)]:=by
 have hpp:=hp
 have hfit:=hp
 have hcode:=p.code_len hp
 have hsl:=p.sels_len hp
 obtain ⟨hp1,hp2,hp3,hp4⟩:=hp
 refine Ctr.body ok Go.Proofs.Tryz.func74 rfl rfl 27 rfl [.tmp 6] rfl (by simp [fromVs]) ?_
 simp only [fromVs,fromV,args0,V.toList_list,V.toInt_int,V.toBool_bool,Nat.zero_add,Nat.reduceAdd,ty3,ty26,ty37]
 repeat' first
  | ((with_reducible refine SARA.do fun R1 hR1=>?_);(simp only [go_sem,seval,-List.reduceReplicate,zeroGo_at,zeroState_at,zero142,z142,z3,Bool.cond_false_right,Bool.cond_true_left]);(repeat' with_reducible refine And.intro ?_ ?_);all_goals first|(refine hR1 _ ?_;clear hR1 R1)|((first|refine cq (cc (pasked_ctr p s hpp hs)) ?_|refine cq (cc (steplive_ctr s g hs (by omega))) ?_);all_goals ((try simp only [go_sem,seval,-List.reduceReplicate,zeroGo_at,zeroState_at,zero142,z142,z3,Bool.cond_false_right,Bool.cond_true_left]);(repeat' with_reducible refine And.intro ?_ ?_);all_goals first|(refine hR1 _ ?_;clear hR1 R1)|omega|rfl|decide|assumption|(intro _;omega)|(simp;done)|(simp [-List.getD_eq_getElem?_getD];omega)|exact hcode _|(intro _;exact hcode _)|exact hsl _|(intro _;exact hsl _)))|omega|rfl|decide|assumption|(intro _;omega)|(simp;done)|(simp [-List.getD_eq_getElem?_getD];omega)|exact hcode _|(intro _;exact hcode _)|exact hsl _|(intro _;exact hsl _))
  | ((with_reducible refine SARA.nil ?_);refine hR _ ?_;clear hR R;try simp only [go_sem,lv74,lvOf,Nat.reduceBEq,Option.getD_some])
  | (with_reducible first|refine J1 ?_|refine J2 ?_|refine J3 ?_|refine J4 ?_|refine J5 ?_|refine J6 ?_|refine J7 ?_|refine J8 (by decide) ?_|refine J9 ?_|refine J10 ?_|refine J11 ?_|refine J12 ?_|refine J13 ?_|refine J14 ?_|refine J15 ?_|refine J16 ?_|refine J17 ?_|refine J18 ?_|refine J19 ?_)
  | ((with_reducible refine J21 ok (by kernel_rfl) lv74 ?_);intro R hR;simp only [go_sem,strip])
  | ((with_reducible refine J20 11 rfl (fun hb11=>?_) (fun hb11=>?_))
     all_goals
      try simp [-List.getD_eq_getElem?_getD] at hb11
      try (exfalso;omega))
  | ((with_reducible refine J20 15 rfl (fun hb15=>?_) (fun hb15=>?_))
     all_goals
      try simp [-List.getD_eq_getElem?_getD] at hb15
      try (exfalso;omega))
  | ((with_reducible refine J20 22 rfl (fun hb22=>?_) (fun hb22=>?_))
     all_goals
      try simp [-List.getD_eq_getElem?_getD] at hb22
      try (exfalso;omega))
  | ((with_reducible first|refine ctrK.normal ?_|refine ctrK.ret ?_)
     simp only [go_sem,resA,resV,backK,seval]
     first
      | (have q:_=false:=hb22
         exact ⟨rfl,congrArg (fun e=>some (V.int e)) (Eq.symm ((if_neg (fun h=>h hb11)).trans ((if_neg (by omega)).trans (if_pos hb22))))⟩)
      | (have q:=hb22
         exact ⟨rfl,congrArg (fun e=>some (V.int e)) (Eq.symm ((if_neg (fun h=>h hb11)).trans ((if_neg (by omega)).trans (if_neg (by simp [hb22])))))⟩)
      | (have q:=hb15
         exact ⟨rfl,congrArg (fun e=>some (V.int e)) (Eq.symm ((if_neg (fun h=>h hb11)).trans (if_pos (by omega))))⟩)
      | (exact ⟨rfl,congrArg (fun e=>some (V.int e)) (Eq.symm (if_pos hb11))⟩))
end Go.Eng.Tryz
