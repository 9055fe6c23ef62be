/- A part of the proof: walks through the program's functions, and what they compute. -/
import Derived.Test.YtedceinkpkoncaaGreatDoorPk32
import Derived.Test.YtedceinkpkoncaaGreatDoorPk14
import Derived.Test.YtedceinkpkoncaaGreatDoorPk16
import Derived.Test.YtedceinkpkoncaaGreatDoorPk27
set_option linter.unusedSimpArgs false
set_option linter.unusedVariables false
namespace Go.Eng.Tryz
open Go.RowKit Go.Eng
set_option maxHeartbeats 0
set_option maxRecDepth 20000
def lv83:List (Nat × List Nat):=[(0,[1,2]),(1,[4])]
theorem live_ctr (s:Stt) (g:Int) (hs:s.Shape) (hc6:s.count≤6):Ctr Go.Proofs.Tryz.prog tab 83 [37,3] [4] [s.v,.int g] [.bool (isLive s g)]:=by
 have hs1:=hs.vars
 have hs2:=hs.owner
 have hs3:=hs.chans
 have hs5:=hs.gos
 refine Ctr.body ok Go.Proofs.Tryz.func83 rfl rfl 29 rfl [.tmp 4] rfl (by simp [fromVs]) ?_
 simp only [fromVs,fromV,args0,V.toList_list,V.toInt_int,V.toBool_bool,Nat.zero_add,Nat.reduceAdd,ty3,ty37]
 repeat' first
  | ((with_reducible refine SARA.do fun R1 hR1=>?_);(simp only [go_sem,seval,-List.reduceReplicate]);(repeat' with_reducible refine And.intro ?_ ?_);all_goals first|(refine hR1 _ ?_;clear hR1 R1)|omega|rfl|decide|assumption|(intro _;omega)|(simp;done)|(simp [-List.getD_eq_getElem?_getD];omega)|exact hcode _|(intro _;exact hcode _)|exact hsl _|(intro _;exact hsl _))
  | ((with_reducible refine SARA.nil ?_);refine hR _ ?_;clear hR R;try simp only [go_sem,lv83,lvOf,Nat.reduceBEq,Option.getD_some])
  | (with_reducible first|refine J1 ?_|refine J2 ?_|refine J3 ?_|refine J4 ?_|refine J5 ?_|refine J6 ?_|refine J7 ?_|refine J8 (by decide) ?_|refine J9 ?_|refine J10 ?_|refine J11 ?_|refine J12 ?_|refine J13 ?_|refine J14 ?_|refine J15 ?_|refine J16 ?_|refine J17 ?_|refine J18 ?_|refine J19 ?_)
  | ((with_reducible refine J21 ok (by kernel_rfl) lv83 ?_);intro R hR;simp only [go_sem,strip])
  | ((with_reducible first|refine ctrK.normal ?_|refine ctrK.ret ?_)
     simp only [go_sem,resA,resV,backK,seval]
     refine ⟨rfl,?_⟩
     rw [isLive_eq]
     cases decide (0≤g)<;>cases decide (g<s.count)<;>cases decide ((s.gos.getD g.toNat default).status=1)<;>rfl)
def lv84:List (Nat × List Nat):=[(0,[2,3,4,6]),(1,[6])]
theorem instr8_ctr (p:Prg) (s:Stt) (g:Int) (hp:p.Fit) (hs:s.Shape) (hg:0≤g∧g<6) (hgi:gorIn p (s.gos.getD g.toNat default)):Ctr Go.Proofs.Tryz.prog tab 84 [26,37,3] [129] [p.v,s.v,.int g] [(instrAt p s g).v]:=by
 have hfit:=hp
 have hcode:=p.code_len hp
 have hsl:=p.sels_len hp
 obtain ⟨hp1,hp2,hp3,hp4⟩:=hp
 have hs1:=hs.vars
 have hs2:=hs.owner
 have hs3:=hs.chans
 have hs5:=hs.gos
 obtain ⟨hf0,hf1,hpc0,hpc1,h8⟩:=hgi
 have hgi:gorIn p (s.gos.getD g.toNat default):=⟨hf0,hf1,hpc0,hpc1,h8⟩
 refine Ctr.body ok Go.Proofs.Tryz.func84 rfl rfl 24 rfl [.cell 6 129] rfl (by simp [fromVs]) ?_
 simp only [fromVs,fromV,args0,V.toList_list,V.toInt_int,V.toBool_bool,Nat.zero_add,Nat.reduceAdd,ty3,ty26,ty37]
 repeat' first
  | ((with_reducible refine SART.told 1 16 ?_)
     rw [getD_instrs (by omega)])
  | ((with_reducible first|refine SARA.do fun R1 hR1=>?_|refine SART.do fun R1 hR1=>?_|refine SARB.keep fun R1 hR1=>?_|refine SARB.any fun R1 hR1=>?_);(simp only [go_sem,seval,-List.reduceReplicate]);(repeat' with_reducible refine And.intro ?_ ?_);all_goals first|(refine hR1 _ ?_;clear hR1 R1)|omega|rfl|decide|assumption|(intro _;omega)|(simp;done)|(simp [-List.getD_eq_getElem?_getD];omega)|exact hcode _|(intro _;exact hcode _)|exact hsl _|(intro _;exact hsl _))
  | ((with_reducible refine SART.done ?_);refine hR _ ?_;clear hR R;try simp only [go_sem,lv84,lvOf,Nat.reduceBEq,Option.getD_some])
  | (with_reducible first|refine SART.br ?_ ?_|exact SARL.nil|refine SARL.cons ?_ ?_)
  | ((with_reducible refine SARA.nil ?_);refine hR _ ?_;clear hR R;try simp only [go_sem,lv84,lvOf,Nat.reduceBEq,Option.getD_some])
  | (with_reducible first|refine J1 ?_|refine J2 ?_|refine J3 ?_|refine J4 ?_|refine J5 ?_|refine J6 ?_|refine J7 ?_|refine J8 (by decide) ?_|refine J9 ?_|refine J10 ?_|refine J11 ?_|refine J12 ?_|refine J13 ?_|refine J14 ?_|refine J15 ?_|refine J16 ?_|refine J17 ?_|refine J18 ?_|refine J19 ?_)
  | ((with_reducible refine SA.at 1 ?_)
     refine SA.regionT ok mixed (.take 0 (.take 1 (.take 2 (.take 3 (.take 4 (.take 5 (.take 6 (.take 7 (.take 8 (.take 9 (.take 10 (.take 11 (.take 12 (.take 13 (.take 14 (.take 15 (.take 16 (.br 17 .done .nil)))))))))))))))))) [17] lv84 (by kernel_rfl) (fun R hR=>?_);simp only [go_sem,strip])
  | ((with_reducible refine J21 ok (by kernel_rfl) lv84 ?_);intro R hR;simp only [go_sem,strip])
  | ((with_reducible first|refine ctrK.normal ?_|refine ctrK.ret ?_)
     simp only [go_sem,resA,resV,backK,seval]
     exact ⟨rfl,rfl⟩)
def lv45:List (Nat × List Nat):=[(0,[2,3,4]),(1,[2,3,4,12]),(2,[6]),(3,[6])]
theorem at_ctr (p:Prg) (s:Stt) (g:Int) (hp:p.Fit) (hs:s.Shape) (hg:0≤g∧g<6) (hgi:gorIn p (s.gos.getD g.toNat default)):Ctr Go.Proofs.Tryz.prog tab 45 [26,37,3] [43] [p.v,s.v,.int g] [.int (opAt p s g)]:=by
 have hpp:=hp
 have hfit:=hp
 have hcode:=p.code_len hp
 have hsl:=p.sels_len hp
 obtain ⟨hp1,hp2,hp3,hp4⟩:=hp
 have hs1:=hs.vars
 have hs2:=hs.owner
 have hs3:=hs.chans
 have hs5:=hs.gos
 obtain ⟨hf0,hf1,hpc0,hpc1,h8⟩:=hgi
 have hgi:gorIn p (s.gos.getD g.toNat default):=⟨hf0,hf1,hpc0,hpc1,h8⟩
 refine Ctr.body ok Go.Proofs.Tryz.func45 rfl rfl 18 rfl [.tmp 6] rfl (by simp [fromVs]) ?_
 simp only [fromVs,fromV,args0,V.toList_list,V.toInt_int,V.toBool_bool,Nat.zero_add,Nat.reduceAdd,ty3,ty26,ty37]
 repeat' first
  | ((with_reducible refine SARA.do fun R1 hR1=>?_);(simp only [go_sem,seval,-List.reduceReplicate]);(repeat' with_reducible refine And.intro ?_ ?_);all_goals first|(refine hR1 _ ?_;clear hR1 R1)|((first|refine cq (cc (instr8_ctr p s g hpp hs hg hgi)) ?_);all_goals ((try simp only [go_sem,seval,-List.reduceReplicate]);(repeat' with_reducible refine And.intro ?_ ?_);all_goals first|(refine hR1 _ ?_;clear hR1 R1)|omega|rfl|decide|assumption|(intro _;omega)|(simp;done)|(simp [-List.getD_eq_getElem?_getD];omega)|exact hcode _|(intro _;exact hcode _)|exact hsl _|(intro _;exact hsl _)))|omega|rfl|decide|assumption|(intro _;omega)|(simp;done)|(simp [-List.getD_eq_getElem?_getD];omega)|exact hcode _|(intro _;exact hcode _)|exact hsl _|(intro _;exact hsl _))
  | ((with_reducible refine SARA.nil ?_);refine hR _ ?_;clear hR R;try simp only [go_sem,lv45,lvOf,Nat.reduceBEq,Option.getD_some])
  | (with_reducible first|refine J1 ?_|refine J2 ?_|refine J3 ?_|refine J4 ?_|refine J5 ?_|refine J6 ?_|refine J7 ?_|refine J8 (by decide) ?_|refine J9 ?_|refine J10 ?_|refine J11 ?_|refine J12 ?_|refine J13 ?_|refine J14 ?_|refine J15 ?_|refine J16 ?_|refine J17 ?_|refine J18 ?_|refine J19 ?_)
  | ((with_reducible refine J21 ok (by kernel_rfl) lv45 ?_);intro R hR;simp only [go_sem,strip])
  | ((with_reducible refine J20 12 rfl (fun hb12=>?_) (fun hb12=>?_))
     all_goals
      try simp [-List.getD_eq_getElem?_getD] at hb12
      try (exfalso;omega))
  | ((with_reducible first|refine ctrK.normal ?_|refine ctrK.ret ?_)
     simp only [go_sem,resA,resV,backK,seval]
     first
      | (have q:¬_:=hb12
         refine ⟨rfl,?_⟩
         unfold opAt
         rw [if_neg (show ¬(s.gor g).status=2 from hb12)])
      | (refine ⟨rfl,?_⟩
         unfold opAt
         rw [if_pos (show (s.gor g).status=2 from hb12)]))
def lv86:List (Nat × List Nat):=[(0,[2,3,4]),(1,[2,3,7]),(2,[2,3,7,13]),(3,[6]),(4,[2,3,7,19]),(5,[6]),(6,[6])]
theorem sends_ctr (p:Prg) (s:Stt) (c:Int) (hp:p.Fit) (hs:s.Shape) (hc:0≤c∧c<p.chans.length) (hc4:p.chans.length≤4):Ctr Go.Proofs.Tryz.prog tab 86 [26,37,3] [4] [p.v,s.v,.int c] [.bool (sends p s c)]:=by
 have hfit:=hp
 have hcode:=p.code_len hp
 have hsl:=p.sels_len hp
 obtain ⟨hp1,hp2,hp3,hp4⟩:=hp
 have hs1:=hs.vars
 have hs2:=hs.owner
 have hs3:=hs.chans
 have hs5:=hs.gos
 refine Ctr.body ok Go.Proofs.Tryz.func86 rfl rfl 31 rfl [.tmp 6] rfl (by simp [fromVs]) ?_
 simp only [fromVs,fromV,args0,V.toList_list,V.toInt_int,V.toBool_bool,Nat.zero_add,Nat.reduceAdd,ty3,ty26,ty37]
 repeat' first
  | ((with_reducible refine SARA.told 1 4 ?_)
     rw [getD_chns (by omega)])
  | ((with_reducible first|refine SARA.do fun R1 hR1=>?_|refine SARQ.do fun R1 hR1=>?_);(simp only [go_sem,seval,-List.reduceReplicate]);(repeat' with_reducible refine And.intro ?_ ?_);all_goals first|(refine hR1 _ ?_;clear hR1 R1)|omega|rfl|decide|assumption|(intro _;omega)|(simp;done)|(simp [-List.getD_eq_getElem?_getD];omega)|exact hcode _|(intro _;exact hcode _)|exact hsl _|(intro _;exact hsl _))
  | ((with_reducible refine SARA.nil ?_);refine hR _ ?_;clear hR R;try simp only [go_sem,lv86,lvOf,Nat.reduceBEq,Option.getD_some])
  | ((with_reducible refine SARQ.nil ?_);refine hR _ ?_;clear hR R;try simp only [go_sem,lv86,lvOf,Nat.reduceBEq,Option.getD_some])
  | (with_reducible first|refine J1 ?_|refine J2 ?_|refine J3 ?_|refine J4 ?_|refine J5 ?_|refine J6 ?_|refine J7 ?_|refine J8 (by decide) ?_|refine J9 ?_|refine J10 ?_|refine J11 ?_|refine J12 ?_|refine J13 ?_|refine J14 ?_|refine J15 ?_|refine J16 ?_|refine J17 ?_|refine J18 ?_|refine J19 ?_)
  | ((with_reducible refine J21 ok (by kernel_rfl) lv86 ?_);intro R hR;simp only [go_sem,strip])
  | ((with_reducible refine SA.regionD ok mixed (by kernel_rfl) (by kernel_rfl) lv86 ?_);intro R hR;simp only [go_sem,strip])
  | ((with_reducible refine J20 13 rfl (fun hb13=>?_) (fun hb13=>?_))
     all_goals
      try simp [-List.getD_eq_getElem?_getD] at hb13
      try (exfalso;omega))
  | ((with_reducible refine J20 19 rfl (fun hb19=>?_) (fun hb19=>?_))
     all_goals
      try simp [-List.getD_eq_getElem?_getD] at hb19
      try (exfalso;omega))
  | ((with_reducible first|refine ctrK.normal ?_|refine ctrK.ret ?_)
     simp only [go_sem,resA,resV,backK,seval]
     first
      | (have q:=hb19
         refine ⟨rfl,?_⟩
         have e:sends p s c=if 0<p.chans.getD c.toNat 0 then decide ((s.chans.getD c.toNat default).len<p.chans.getD c.toNat 0) else decide ((s.chans.getD c.toNat default).offer=0):=if_neg (by rw [show (s.chn c).closed=false from hb13];simp)
         first|rw [e,if_pos hb19]|rw [e,if_neg (by omega)])
      | (refine ⟨rfl,?_⟩
         have e:sends p s c=true:=if_pos hb13
         rw [e]))
def lv87:List (Nat × List Nat):=[(0,[1,2]),(1,[5]),(2,[4])]
theorem receives_ctr (s:Stt) (c:Int) (hs:s.Shape) (hc:0≤c∧c<4):Ctr Go.Proofs.Tryz.prog tab 87 [37,3] [4] [s.v,.int c] [.bool (receives s c)]:=by
 have hs1:=hs.vars
 have hs2:=hs.owner
 have hs3:=hs.chans
 have hs5:=hs.gos
 refine Ctr.body ok Go.Proofs.Tryz.func87 rfl rfl 22 rfl [.tmp 4] rfl (by simp [fromVs]) ?_
 simp only [fromVs,fromV,args0,V.toList_list,V.toInt_int,V.toBool_bool,Nat.zero_add,Nat.reduceAdd,ty3,ty37]
 repeat' first
  | ((with_reducible refine SARA.told 1 4 ?_)
     rw [getD_chns (by omega)])
  | ((with_reducible refine SARA.do fun R1 hR1=>?_);(simp only [go_sem,seval,-List.reduceReplicate]);(repeat' with_reducible refine And.intro ?_ ?_);all_goals first|(refine hR1 _ ?_;clear hR1 R1)|omega|rfl|decide|assumption|(intro _;omega)|(simp;done)|(simp [-List.getD_eq_getElem?_getD];omega)|exact hcode _|(intro _;exact hcode _)|exact hsl _|(intro _;exact hsl _))
  | ((with_reducible refine SARA.nil ?_);refine hR _ ?_;clear hR R;try simp only [go_sem,lv87,lvOf,Nat.reduceBEq,Option.getD_some])
  | (with_reducible first|refine J1 ?_|refine J2 ?_|refine J3 ?_|refine J4 ?_|refine J5 ?_|refine J6 ?_|refine J7 ?_|refine J8 (by decide) ?_|refine J9 ?_|refine J10 ?_|refine J11 ?_|refine J12 ?_|refine J13 ?_|refine J14 ?_|refine J15 ?_|refine J16 ?_|refine J17 ?_|refine J18 ?_|refine J19 ?_)
  | ((with_reducible refine J21 ok (by kernel_rfl) lv87 ?_);intro R hR;simp only [go_sem,strip])
  | ((with_reducible first|refine ctrK.normal ?_|refine ctrK.ret ?_)
     simp only [go_sem,resA,resV,backK,seval]
     refine ⟨rfl,?_⟩
     unfold receives Stt.chn
     cases decide (0<(s.chans.getD c.toNat default).len)<;>cases (s.chans.getD c.toNat default).closed<;>rfl)
def lv85:List (Nat × List Nat):=[(0,[2,3,4]),(1,[2,3,4,7]),(2,[2,3,4,7,8]),(3,[2,3,4,7,8,23]),(4,[2,3,4,7,8,23,24]),(5,[6]),(6,[2,3,4,7,8,23,36]),(7,[6]),(8,[2,3,4,7,8,23,44]),(9,[6]),(10,[2,3,4,7,8,23,51]),(11,[6]),(12,[2,3,4,7,8,23,57]),(13,[9]),(14,[6]),(15,[2,3,4,7,8,71]),(16,[2,4,10]),(17,[6]),(18,[6])]
theorem plain_ctr (p:Prg) (s:Stt) (g:Int) (hp:p.Fit) (hr:rightP p=true) (hw:Wf p s) (hg:0≤g∧g<s.count):Ctr Go.Proofs.Tryz.prog tab 85 [26,37,3] [4] [p.v,s.v,.int g] [.bool (plain p s g)]:=by
 have hpp:=hp
 have hok:=Prg.ok hr
 have hs:=hw.shape
 have hcnt:=hw.count
 have hgi:=hw.gos g hg.1 hg.2
 have h8:=hgi.regs
 have hfit:=hp
 have hcode:=p.code_len hp
 have hsl:=p.sels_len hp
 obtain ⟨hp1,hp2,hp3,hp4⟩:=hp
 have hs1:=hs.vars
 have hs2:=hs.owner
 have hs3:=hs.chans
 have hs5:=hs.gos
 have hsz:=hok.sizes
 unfold Sizes at hsz
 have hrt:instrErr p (p.funcs.getD (s.gos.getD g.toNat default).func.toNat default) (instrAt p s g)=0:=hw.right hok hg.1 hg.2
 have hrg:=hok.regs (s.gos.getD g.toNat default).func.toNat
 refine Ctr.body ok Go.Proofs.Tryz.func85 rfl rfl 101 rfl [.tmp 6] rfl (by simp [fromVs]) ?_
 simp only [fromVs,fromV,args0,V.toList_list,V.toInt_int,V.toBool_bool,Nat.zero_add,Nat.reduceAdd,ty3,ty26,ty37]
 repeat' first
  | ((with_reducible first|refine SARA.do fun R1 hR1=>?_|refine SARQ.do fun R1 hR1=>?_);(simp only [go_sem,seval,-List.reduceReplicate]);(repeat' with_reducible refine And.intro ?_ ?_);all_goals first|(refine hR1 _ ?_;clear hR1 R1)|((first|refine ⟨_,_,rfl,_,CallQ.ctr ok (instr8_ctr p s g hpp hs (by omega) hgi) (by first|rfl|(simp [go_sem];done)|fail) rfl,?_⟩|refine ⟨_,_,rfl,_,fun hg=>CallQ.ctr ok (instr8_ctr p s g hpp hs (by omega) hgi) (by first|rfl|(simp [go_sem];done)|fail) rfl,?_⟩|refine cq (cc (instr8_ctr p s g hpp hs (by omega) hgi)) ?_|refine ⟨_,_,rfl,.inl ⟨_,fun hg=>CallQ.ctr ok (instr8_ctr p s g hpp hs (by omega) hgi) (by first|rfl|(simp [go_sem];done)|fail) rfl,?_⟩⟩|refine ⟨_,_,rfl,_,CallQ.ctr ok (at_ctr p s g hpp hs (by omega) hgi) (by first|rfl|(simp [go_sem];done)|fail) rfl,?_⟩|refine ⟨_,_,rfl,_,fun hg=>CallQ.ctr ok (at_ctr p s g hpp hs (by omega) hgi) (by first|rfl|(simp [go_sem];done)|fail) rfl,?_⟩|refine cq (cc (at_ctr p s g hpp hs (by omega) hgi)) ?_|refine ⟨_,_,rfl,.inl ⟨_,fun hg=>CallQ.ctr ok (at_ctr p s g hpp hs (by omega) hgi) (by first|rfl|(simp [go_sem];done)|fail) rfl,?_⟩⟩|refine ⟨_,_,rfl,_,CallQ.ctr ok (sends_ctr p s _ hpp hs hc hcl) (by first|rfl|(simp [go_sem];done)|fail) rfl,?_⟩|refine ⟨_,_,rfl,_,fun hg=>CallQ.ctr ok (sends_ctr p s _ hpp hs hc hcl) (by first|rfl|(simp [go_sem];done)|fail) rfl,?_⟩|refine cq (cc (sends_ctr p s _ hpp hs hc hcl)) ?_|refine ⟨_,_,rfl,.inl ⟨_,fun hg=>CallQ.ctr ok (sends_ctr p s _ hpp hs hc hcl) (by first|rfl|(simp [go_sem];done)|fail) rfl,?_⟩⟩|refine ⟨_,_,rfl,_,CallQ.ctr ok (receives_ctr s _ hs hc) (by first|rfl|(simp [go_sem];done)|fail) rfl,?_⟩|refine ⟨_,_,rfl,_,fun hg=>CallQ.ctr ok (receives_ctr s _ hs hc) (by first|rfl|(simp [go_sem];done)|fail) rfl,?_⟩|refine cq (cc (receives_ctr s _ hs hc)) ?_|refine ⟨_,_,rfl,.inl ⟨_,fun hg=>CallQ.ctr ok (receives_ctr s _ hs hc) (by first|rfl|(simp [go_sem];done)|fail) rfl,?_⟩⟩|refine ⟨_,_,rfl,_,CallQ.ctr ok (live_ctr s _ hs (by omega)) (by first|rfl|(simp [go_sem];done)|fail) rfl,?_⟩|refine ⟨_,_,rfl,_,fun hg=>CallQ.ctr ok (live_ctr s _ hs (by omega)) (by first|rfl|(simp [go_sem];done)|fail) rfl,?_⟩|refine cq (cc (live_ctr s _ hs (by omega))) ?_|refine ⟨_,_,rfl,.inl ⟨_,fun hg=>CallQ.ctr ok (live_ctr s _ hs (by omega)) (by first|rfl|(simp [go_sem];done)|fail) rfl,?_⟩⟩);all_goals ((try simp only [go_sem,seval,-List.reduceReplicate]);(repeat' with_reducible refine And.intro ?_ ?_);all_goals first|(refine hR1 _ ?_;clear hR1 R1)|omega|rfl|decide|assumption|(intro _;omega)|(simp;done)|(simp [-List.getD_eq_getElem?_getD];omega)|exact hcode _|(intro _;exact hcode _)|exact hsl _|(intro _;exact hsl _)))|omega|rfl|decide|assumption|(intro _;omega)|(simp;done)|(simp [-List.getD_eq_getElem?_getD];omega)|exact hcode _|(intro _;exact hcode _)|exact hsl _|(intro _;exact hsl _))
  | ((with_reducible refine SARA.nil ?_);refine hR _ ?_;clear hR R;try simp only [go_sem,lv85,lvOf,Nat.reduceBEq,Option.getD_some])
  | ((with_reducible refine SARQ.nil ?_);refine hR _ ?_;clear hR R;try simp only [go_sem,lv85,lvOf,Nat.reduceBEq,Option.getD_some])
  | (with_reducible first|refine J1 ?_|refine J2 ?_|refine J3 ?_|refine J4 ?_|refine J5 ?_|refine J6 ?_|refine J7 ?_|refine J8 (by decide) ?_|refine J9 ?_|refine J10 ?_|refine J11 ?_|refine J12 ?_|refine J13 ?_|refine J14 ?_|refine J15 ?_|refine J16 ?_|refine J17 ?_|refine J18 ?_|refine J19 ?_)
  | ((with_reducible refine SA.at 5 ?_)
     have hI:=vis54 hrt (hw.op_at hok hg.1 hg.2 hb24 (by decide))
     (with_reducible refine SA.regionD ok mixed (by kernel_rfl) (by kernel_rfl) lv85 ?_);intro R hR;simp only [go_sem,strip])
  | ((with_reducible refine SA.at 7 ?_)
     have hI:=vis55 hrt (.inl (hw.op_at hok hg.1 hg.2 hb36 (by decide)))
     (with_reducible refine J21 ok (by kernel_rfl) lv85 ?_);intro R hR;simp only [go_sem,strip])
  | ((with_reducible refine SA.at 9 ?_)
     have hI:=vis58 hrt (hw.op_at hok hg.1 hg.2 hb44 (by decide))
     have hc:=hI.1
     have hcl:p.chans.length≤4:=by omega
     (with_reducible refine J21 ok (by kernel_rfl) lv85 ?_);intro R hR;simp only [go_sem,strip])
  | ((with_reducible refine SA.at 11 ?_)
     have hI:=vis59 hrt (hw.op_at hok hg.1 hg.2 hb51 (by decide))
     have hc:0≤(instrAt p s g).b∧(instrAt p s g).b<4:=by omega
     (with_reducible refine J21 ok (by kernel_rfl) lv85 ?_);intro R hR;simp only [go_sem,strip])
  | ((with_reducible refine SA.at 13 ?_)
     have hI:=vis58 hrt (hw.op66 hok hg.1 hg.2 hb57)
     (with_reducible refine J21 ok (by kernel_rfl) lv85 ?_);intro R hR;simp only [go_sem,strip])
  | ((with_reducible refine SA.at 16 ?_)
     have hI:=vis63 hrt (.inl (hw.op_at hok hg.1 hg.2 hb71 (by decide)))
     (with_reducible refine J21 ok (by kernel_rfl) lv85 ?_);intro R hR;simp only [go_sem,strip])
  | ((with_reducible refine J21 ok (by kernel_rfl) lv85 ?_);intro R hR;simp only [go_sem,strip])
  | ((with_reducible refine SA.regionD ok mixed (by kernel_rfl) (by kernel_rfl) lv85 ?_);intro R hR;simp only [go_sem,strip])
  | ((with_reducible refine J20 24 rfl (fun hb24=>?_) (fun hb24=>?_))
     all_goals
      try simp [-List.getD_eq_getElem?_getD] at hb24
      try (exfalso;omega))
  | ((with_reducible refine J20 36 rfl (fun hb36=>?_) (fun hb36=>?_))
     all_goals
      try simp [-List.getD_eq_getElem?_getD] at hb36
      try (exfalso;omega))
  | ((with_reducible refine J20 44 rfl (fun hb44=>?_) (fun hb44=>?_))
     all_goals
      try simp [-List.getD_eq_getElem?_getD] at hb44
      try (exfalso;omega))
  | ((with_reducible refine J20 51 rfl (fun hb51=>?_) (fun hb51=>?_))
     all_goals
      try simp [-List.getD_eq_getElem?_getD] at hb51
      try (exfalso;omega))
  | ((with_reducible refine J20 57 rfl (fun hb57=>?_) (fun hb57=>?_))
     all_goals
      try simp [-List.getD_eq_getElem?_getD] at hb57
      try (exfalso;omega))
  | ((with_reducible refine J20 71 rfl (fun hb71=>?_) (fun hb71=>?_))
     all_goals
      try simp [-List.getD_eq_getElem?_getD] at hb71
      try (exfalso;omega))
  | ((with_reducible first|refine ctrK.normal ?_|refine ctrK.ret ?_)
     simp only [go_sem,resA,resV,backK,seval]
     first
      | (exact ⟨rfl,congrArg (fun b=>some (V.bool b)) (show _=plain p s g from Eq.symm (if_pos hb24))⟩)
      | (exact ⟨rfl,congrArg (fun b=>some (V.bool b)) (show _=plain p s g from Eq.symm ((if_neg hb24).trans (if_pos hb36)))⟩)
      | (exact ⟨rfl,congrArg (fun b=>some (V.bool b)) (show _=plain p s g from Eq.symm ((if_neg hb24).trans ((if_neg hb36).trans (if_pos hb44))))⟩)
      | (exact ⟨rfl,congrArg (fun b=>some (V.bool b)) (show _=plain p s g from Eq.symm ((if_neg hb24).trans ((if_neg hb36).trans ((if_neg hb44).trans (if_pos hb51)))))⟩)
      | (refine ⟨rfl,?_⟩
         have e:plain p s g=(decide ((s.chans.getD (instrAt p s g).a.toNat default).offer=2)||decide ((s.chans.getD (instrAt p s g).a.toNat default).offer=3)):=(if_neg hb24).trans ((if_neg hb36).trans ((if_neg hb44).trans ((if_neg hb51).trans (if_pos hb57))))
         rw [e]
         cases decide ((s.chans.getD (instrAt p s g).a.toNat default).offer=2)<;>rfl)
      | (refine ⟨rfl,?_⟩
         have e:plain p s g=(decide ((s.gos.getD g.toNat default).regs.getD (instrAt p s g).a.toNat 0<0)||decide (s.count≤(s.gos.getD g.toNat default).regs.getD (instrAt p s g).a.toNat 0)||decide ((s.gos.getD g.toNat default).regs.getD (instrAt p s g).a.toNat 0=g)||!isLive s ((s.gos.getD g.toNat default).regs.getD (instrAt p s g).a.toNat 0)):=(if_neg hb24).trans ((if_neg hb36).trans ((if_neg hb44).trans ((if_neg hb51).trans ((if_neg hb57).trans (if_pos hb71)))))
         rw [e]
         cases decide ((s.gos.getD g.toNat default).regs.getD (instrAt p s g).a.toNat 0<0)<;>cases decide (s.count≤(s.gos.getD g.toNat default).regs.getD (instrAt p s g).a.toNat 0)<;>cases decide ((s.gos.getD g.toNat default).regs.getD (instrAt p s g).a.toNat 0=g)<;>rfl)
      | (exact ⟨rfl,congrArg (fun b=>some (V.bool b)) (show _=plain p s g from Eq.symm ((if_neg hb24).trans ((if_neg hb36).trans ((if_neg hb44).trans ((if_neg hb51).trans ((if_neg hb57).trans ((if_neg hb71).trans (rfl))))))))⟩))
end Go.Eng.Tryz
namespace Go.Eng.Tryz
open Go.RowKit Go.Eng
set_option maxHeartbeats 0
set_option maxRecDepth 20000
def lv46:List (Nat × List Nat):=[(0,[2,3,4]),(1,[2,3,4,7]),(2,[2,3,4,7,15]),(3,[6]),(4,[2,3,4,7,21]),(5,[7,25]),(6,[7]),(7,[6]),(8,[2,3,4,7,8]),(9,[3,4,7,9]),(10,[3,4,7,9,10]),(11,[3,4,7,9,10,52]),(12,[3,4,7,9,10]),(13,[3,4,7,9,10,11]),(14,[3,4,7,9,10,79]),(15,[3,4,7,9,10]),(16,[7,9,91]),(17,[7]),(18,[6])]
theorem alts_ctr (p:Prg) (s:Stt) (g:Int) (hp:p.Fit) (hr:rightP p=true) (hw:Wf p s):Ctr Go.Proofs.Tryz.prog tab 46 [26,37,3] [23] [p.v,s.v,.int g] [.list ((alts p s g).map V.int)]:=by
 have hpp:=hp
 have hok:=Prg.ok hr
 have hs:=hw.shape
 have hcnt:=hw.count
 have hcode:=p.code_len hp
 have hsl:=p.sels_len hp
 obtain ⟨hp1,hp2,hp3,hp4⟩:=hp
 have hs1:=hs.vars
 have hs2:=hs.owner
 have hs3:=hs.chans
 have hs5:=hs.gos
 have hsz:=hok.sizes
 unfold Sizes at hsz
 have hmx:256≤maxLen:=by decide
 refine Ctr.body ok Go.Proofs.Tryz.func46 rfl rfl 99 rfl [.tmp 6] rfl (by simp [fromVs]) ?_
 simp only [fromVs,fromV,args0,V.toList_list,V.toInt_int,V.toBool_bool,Nat.zero_add,Nat.reduceAdd,ty3,ty26,ty37]
 repeat' first
  | ((with_reducible refine SART.told 8 8 ?_)
     rw [getD_fncs (by omega)])
  | ((with_reducible refine SART.told 9 8 ?_)
     rw [getD_sels (by omega)])
  | ((with_reducible refine SARA.told 13 5 ?_)
     rw [getD_cass (by omega)])
  | ((with_reducible first|refine SARA.do fun R1 hR1=>?_|refine SART.do fun R1 hR1=>?_|refine SARB.keep fun R1 hR1=>?_|refine SARB.any fun R1 hR1=>?_);(simp only [go_sem,seval,-List.reduceReplicate]);(repeat' with_reducible refine And.intro ?_ ?_);all_goals first|(refine hR1 _ ?_;clear hR1 R1)|((first|refine cq (cc (live_ctr s g hs (by omega))) ?_|refine ⟨_,_,rfl,.inl ⟨_,fun hg=>CallQ.ctr ok (live_ctr s g hs (by omega)) (by first|rfl|(simp [go_sem];done)|fail) rfl,?_⟩⟩|refine cq (cc (at_ctr p s g hpp hs (by omega) hgi)) ?_|refine ⟨_,_,rfl,.inl ⟨_,fun hg=>CallQ.ctr ok (at_ctr p s g hpp hs (by omega) hgi) (by first|rfl|(simp [go_sem];done)|fail) rfl,?_⟩⟩|refine cq (cc (plain_ctr p s g hpp hr hw hl.1)) ?_|refine ⟨_,_,rfl,.inl ⟨_,fun hg=>CallQ.ctr ok (plain_ctr p s g hpp hr hw hl.1) (by first|rfl|(simp [go_sem];done)|fail) rfl,?_⟩⟩|refine cq (cc (sends_ctr p s _ hpp hs hC.chan (by omega))) ?_|refine ⟨_,_,rfl,.inl ⟨_,fun hg=>CallQ.ctr ok (sends_ctr p s _ hpp hs hC.chan (by omega)) (by first|rfl|(simp [go_sem];done)|fail) rfl,?_⟩⟩|refine cq (cc (receives_ctr s _ hs hC4)) ?_|refine ⟨_,_,rfl,.inl ⟨_,fun hg=>CallQ.ctr ok (receives_ctr s _ hs hC4) (by first|rfl|(simp [go_sem];done)|fail) rfl,?_⟩⟩|refine cq (cc (instr8_ctr p s g hpp hs (by omega) hgi)) ?_|refine ⟨_,_,rfl,.inl ⟨_,fun hg=>CallQ.ctr ok (instr8_ctr p s g hpp hs (by omega) hgi) (by first|rfl|(simp [go_sem];done)|fail) rfl,?_⟩⟩);all_goals ((try simp only [go_sem,seval,-List.reduceReplicate]);(repeat' with_reducible refine And.intro ?_ ?_);all_goals first|(refine hR1 _ ?_;clear hR1 R1)|omega|rfl|decide|assumption|(intro _;omega)|(simp;done)|(simp [-List.getD_eq_getElem?_getD];omega)|exact hcode _|(intro _;exact hcode _)|exact hsl _|(intro _;exact hsl _)|(simp [-List.getD_eq_getElem?_getD,roomFor,maxLen,by3,by39,by45];omega)|(simp [-List.getD_eq_getElem?_getD,roomFor,maxLen,by3,by39,by45];done)))|omega|rfl|decide|assumption|(intro _;omega)|(simp;done)|(simp [-List.getD_eq_getElem?_getD];omega)|exact hcode _|(intro _;exact hcode _)|exact hsl _|(intro _;exact hsl _)|(simp [-List.getD_eq_getElem?_getD,roomFor,maxLen,by3,by39,by45];omega)|(simp [-List.getD_eq_getElem?_getD,roomFor,maxLen,by3,by39,by45];done))
  | ((with_reducible refine SART.doneAt 9 ?_);refine hR _ ?_;clear hR R;try simp only [go_sem,lv46,lvOf,Nat.reduceBEq,Option.getD_some]
     exact St.le.of_eq rfl)
  | ((with_reducible refine SART.done ?_);refine hR _ ?_;clear hR R;try simp only [go_sem,lv46,lvOf,Nat.reduceBEq,Option.getD_some])
  | (with_reducible first|refine SART.br ?_ ?_|exact SARL.nil|refine SARL.cons ?_ ?_)
  | ((with_reducible refine SARA.nil ?_);refine hR _ ?_;clear hR R;try simp only [go_sem,lv46,lvOf,Nat.reduceBEq,Option.getD_some])
  | (with_reducible first|refine J1 ?_|refine J2 ?_|refine J3 ?_|refine J4 ?_|refine J5 ?_|refine J6 ?_|refine J7 ?_|refine J8 (by decide) ?_|refine J9 ?_|refine J10 ?_|refine J11 ?_|refine J12 ?_|refine J13 ?_|refine J14 ?_|refine J15 ?_|refine J16 ?_|refine J17 ?_|refine J18 ?_|refine J19 ?_)
  | ((with_reducible refine SA.at 4 ?_)
     have hl:=live_iff.1 hb15
     have hgi:=hw.gos g hl.1.1 hl.1.2
     obtain ⟨hf0,hf1,hpc0,hpc1,h8⟩:=hgi
     have hgi:=hw.gos g hl.1.1 hl.1.2
     (with_reducible refine J21 ok (by kernel_rfl) lv46 ?_);intro R hR;simp only [go_sem,strip])
  | ((with_reducible refine SA.at 13 ?_)
     have hC:=case_ok hok (i:=(s.gos.getD g.toNat default).func.toNat) (j:=(instrAt p s g).a.toNat) (k:=i) (by omega) (by omega) (by omega)
     have hC4:0≤(((p.funcs.getD (s.gos.getD g.toNat default).func.toNat default).sels.getD (instrAt p s g).a.toNat default).cases.getD i default).chan∧(((p.funcs.getD (s.gos.getD g.toNat default).func.toNat default).sels.getD (instrAt p s g).a.toNat default).cases.getD i default).chan<4:=⟨hC.chan.1,by have:=hC.chan.2;omega⟩
     have hq:=casesTo_len p s ((p.funcs.getD (s.gos.getD g.toNat default).func.toNat default).sels.getD (instrAt p s g).a.toNat default) i
     (with_reducible refine J21 ok (by kernel_rfl) lv46 ?_);intro R hR;simp only [go_sem,strip])
  | ((with_reducible refine SA.at 16 ?_)
     have hq:=casesTo_len p s ((p.funcs.getD (s.gos.getD g.toNat default).func.toNat default).sels.getD (instrAt p s g).a.toNat default) i
     (with_reducible refine J21 ok (by kernel_rfl) lv46 ?_);intro R hR;simp only [go_sem,strip])
  | ((with_reducible refine SA.at 8 ?_)
     have hop:=hw.op_at hok hl.1.1 hl.1.2 hb21 (by decide)
     have hI:0≤(instrAt p s g).a∧(instrAt p s g).a<((p.funcs.getD (s.gos.getD g.toNat default).func.toNat default).sels.length:Int):=vis61 (hw.right hok hl.1.1 hl.1.2) hop
     have hsh:=hok.short (s.gos.getD g.toNat default).func.toNat (instrAt p s g).a.toNat (by omega)
     refine SA.regionT ok mixed (.take 0 (.take 1 (.take 2 (.take 3 (.take 4 (.take 5 (.take 6 (.take 7 (.take 8 (.br 9 (.br 10 .done .nil) .nil)))))))))) [10] lv46 (by kernel_rfl) (fun R hR=>?_);simp only [go_sem,strip])
  | ((with_reducible refine SA.at 9 ?_)
     refine SA.regionTP ok mixed (.take 0 (.take 1 (.take 2 (.take 3 (.take 4 (.br 5 (.take 6 (.take 7 (.take 8 (.br 9 (.br 10 .done .nil) .nil)))) (.br 9 (.br 5 (.take 6 (.take 7 (.take 8 (.br 10 .done .nil)))) .nil) .nil))))))) [10] lv46 (by kernel_rfl) ({ tm:=[(3,true,.ptr 0 [] 26),(4,true,.ptr 1 [] 37),(7,true,.nilsl),(9,true,.ptr 3 [] 124)],ob:=[.var 26 (.data 26 p.v),.var 37 (.data 37 s.v),.var 121 (.data 121 (p.funcs.getD (s.gos.getD g.toNat default).func.toNat default).v),.var 124 (.data 124 ((p.funcs.getD (s.gos.getD g.toNat default).func.toNat default).sels.getD (instrAt p s g).a.toNat default).v)],out:=[],nt:=99 }) (fun R hR=>?_) ?_;simp only [go_sem,strip])
  | ((with_reducible refine J21 ok (by kernel_rfl) lv46 ?_);intro R hR;simp only [go_sem,strip])
  | ((with_reducible refine J20 15 rfl (fun hb15=>?_) (fun hb15=>?_))
     all_goals
      try simp [-List.getD_eq_getElem?_getD] at hb15
      try (exfalso;omega))
  | ((with_reducible refine J20 21 rfl (fun hb21=>?_) (fun hb21=>?_))
     all_goals
      try simp [-List.getD_eq_getElem?_getD] at hb21
      try (exfalso;omega))
  | ((with_reducible refine J20 25 rfl (fun hb25=>?_) (fun hb25=>?_))
     all_goals
      try simp [-List.getD_eq_getElem?_getD] at hb25
      try (exfalso;omega))
  | ((with_reducible refine J20 52 rfl (fun hb52=>?_) (fun hb52=>?_))
     all_goals
      try simp [-List.getD_eq_getElem?_getD] at hb52
      try (exfalso;omega))
  | ((with_reducible refine J20 79 rfl (fun hb79=>?_) (fun hb79=>?_))
     all_goals
      rw [caseOk_bif] at hb79)
  | ((with_reducible refine J20 91 rfl (fun hb91=>?_) (fun hb91=>?_))
     all_goals
      try simp [-List.getD_eq_getElem?_getD] at hb91
      try (exfalso;omega))
  | ((with_reducible refine SA.atLoop ?_)
     refine SA.weaken ((St.le.own (t:=7) 3 rfl).trans ((St.le.keep [3,4,7,9,10]).trans (St.le.of_eq (by first|rfl|(simp;done)|fail)))) (SA.loop (fun n τ=>∃ (i:Nat),n=((p.funcs.getD (s.gos.getD g.toNat default).func.toNat default).sels.getD (instrAt p s g).a.toNat default).cases.length-i∧(i≤((p.funcs.getD (s.gos.getD g.toNat default).func.toNat default).sels.getD (instrAt p s g).a.toNat default).cases.length)∧τ={ tm:=[(3,true,.ptr 0 [] 26),(4,true,.ptr 1 [] 37),(7,true,.sl 4 3 0 (casesTo p s ((p.funcs.getD (s.gos.getD g.toNat default).func.toNat default).sels.getD (instrAt p s g).a.toNat default) i).length false),(9,true,.ptr 3 [] 124),(10,true,.int .i64 i)],ob:=[.var 26 (.data 26 p.v),.var 37 (.data 37 s.v),.var 121 (.data 121 (p.funcs.getD (s.gos.getD g.toNat default).func.toNat default).v),.var 124 (.data 124 ((p.funcs.getD (s.gos.getD g.toNat default).func.toNat default).sels.getD (instrAt p s g).a.toNat default).v),.row 3 ((casesTo p s ((p.funcs.getD (s.gos.getD g.toNat default).func.toNat default).sels.getD (instrAt p s g).a.toNat default) i).map V.int)],out:=[],nt:=99 }) (((p.funcs.getD (s.gos.getD g.toNat default).func.toNat default).sels.getD (instrAt p s g).a.toNat default).cases.length) ⟨0,rfl,by omega,rfl⟩ ?_)
     rintro n τ ⟨i,hn,hi,rfl⟩)
  | ((with_reducible refine loopK.round ?_)
     first
      | (have q:=casesTo_hit (n:=i) hb79
         have hlt:i<((p.funcs.getD (s.gos.getD g.toNat default).func.toNat default).sels.getD (instrAt p s g).a.toNat default).cases.length:=by omega
         have hw:=wrap_succ (n:=i) (m:=256) (by omega) (by decide)
         refine loopK.normal (((p.funcs.getD (s.gos.getD g.toNat default).func.toNat default).sels.getD (instrAt p s g).a.toNat default).cases.length-(i+1)) _ (by omega) ((St.le.cut 5 rfl).trans (St.le.of_eq (by simp [-List.getD_eq_getElem?_getD,q,hw,List.take_of_length_le]))) ⟨i+1,rfl,hlt,rfl⟩)
      | (have q:=casesTo_miss (n:=i) hb79
         have hlt:i<((p.funcs.getD (s.gos.getD g.toNat default).func.toNat default).sels.getD (instrAt p s g).a.toNat default).cases.length:=by omega
         have hw:=wrap_succ (n:=i) (m:=256) (by omega) (by decide)
         refine loopK.normal (((p.funcs.getD (s.gos.getD g.toNat default).func.toNat default).sels.getD (instrAt p s g).a.toNat default).cases.length-(i+1)) _ (by omega) ((St.le.cut 5 rfl).trans (St.le.of_eq (by simp [-List.getD_eq_getElem?_getD,q,hw,List.take_of_length_le]))) ⟨i+1,rfl,hlt,rfl⟩))
  | ((with_reducible first|refine ctrK.normal ?_|refine ctrK.ret ?_)
     simp only [go_sem,resA,resV,backK,seval]
     first
      | (have q:_=false:=hb15
         refine ⟨rfl,?_⟩
         rw [show alts p s g=[] from if_neg (by rw [hb15];simp)]
         rfl)
      | (have q:_=true:=hb25
         refine ⟨rfl,?_⟩
         rw [show alts p s g=[0] from (if_pos hb15).trans ((if_neg hb21).trans (if_pos hb25))]
         simp)
      | (have q:_=false:=hb25
         refine ⟨rfl,?_⟩
         rw [show alts p s g=[] from (if_pos hb15).trans ((if_neg hb21).trans (if_neg (by rw [hb25];simp)))]
         rfl)
      | (have q:_∧_:=hb91
         have hi':i=((p.funcs.getD (s.gos.getD g.toNat default).func.toNat default).sels.getD (instrAt p s g).a.toNat default).cases.length:=by omega
         subst hi'
         refine ⟨rfl,?_⟩
         rw [show alts p s g=casesTo p s ((p.funcs.getD (s.gos.getD g.toNat default).func.toNat default).sels.getD (instrAt p s g).a.toNat default) ((p.funcs.getD (s.gos.getD g.toNat default).func.toNat default).sels.getD (instrAt p s g).a.toNat default).cases.length++[(((p.funcs.getD (s.gos.getD g.toNat default).func.toNat default).sels.getD (instrAt p s g).a.toNat default).cases.length:Int)] from (if_pos hb15).trans ((if_pos hb21).trans (if_pos ⟨congrArg List.length hb91.1,hb91.2⟩))]
         simp [-List.getD_eq_getElem?_getD,List.take_of_length_le])
      | (have hi':i=((p.funcs.getD (s.gos.getD g.toNat default).func.toNat default).sels.getD (instrAt p s g).a.toNat default).cases.length:=by omega
         subst hi'
         refine ⟨rfl,?_⟩
         rw [show alts p s g=casesTo p s ((p.funcs.getD (s.gos.getD g.toNat default).func.toNat default).sels.getD (instrAt p s g).a.toNat default) ((p.funcs.getD (s.gos.getD g.toNat default).func.toNat default).sels.getD (instrAt p s g).a.toNat default).cases.length from (if_pos hb15).trans ((if_pos hb21).trans (if_neg (fun q=>q.2 (hb91 (List.eq_nil_of_length_eq_zero q.1)))))]
         simp [-List.getD_eq_getElem?_getD,List.take_of_length_le]))
end Go.Eng.Tryz
namespace Go.Eng.Tryz
open Go.RowKit Go.Eng
set_option maxHeartbeats 0
set_option maxRecDepth 20000
theorem alts_short {p:Prg} {s:Stt} (hok:p.Ok) (hw:Wf p s) (g:Int):(alts p s g).length≤5:=by
 unfold alts
 split
 · rename_i hl
   have hl:=live_iff.1 hl
   split
   · rename_i hop
     have hgi:=hw.gos g hl.1.1 hl.1.2
     have hI:=vis61 (hw.right hok hl.1.1 hl.1.2) (hw.op_at hok hl.1.1 hl.1.2 hop (by decide))
     have hsh:=hok.short (s.gos.getD g.toNat default).func.toNat (insAt p s g).a.toNat (by omega)
     have h4:(selAt p s g).cases.length≤4:=hsh.2
     have:=casesTo_len p s (selAt p s g) (selAt p s g).cases.length
     simp only
     split
     · rw [List.length_append];simp;omega
     · omega
   · split<;>simp
 · simp
theorem readyTo_len {p:Prg} {s:Stt} (hok:p.Ok) (hw:Wf p s):∀ n:Nat,(readyTo p s n).length≤5*n
 | 0=>by simp [readyTo]
 | n+1=>by
   rw [readyTo_succ,List.length_append,List.length_map]
   have:=readyTo_len hok hw n
   have:=alts_short hok hw (n:Int)
   omega
def lv22:List (Nat × List Nat):=[(0,[3,4,5]),(1,[5,7]),(2,[5,7,8]),(3,[5,7,8,17]),(4,[5,7,8]),(5,[5,7,8,26]),(6,[6]),(7,[6])]
theorem has_ctr (p:Prg) (s:Stt) (x:Pck) (hp:p.Fit) (hr:rightP p=true) (hw:Wf p s):Ctr Go.Proofs.Tryz.prog tab 22 [26,37,39] [4] [p.v,s.v,x.v] [.bool (has p s x)]:=by
 have hpp:=hp
 have hok:=Prg.ok hr
 have hs:=hw.shape
 have hcnt:=hw.count
 have hcode:=p.code_len hp
 have hsl:=p.sels_len hp
 obtain ⟨hp1,hp2,hp3,hp4⟩:=hp
 have hs1:=hs.vars
 have hs2:=hs.owner
 have hs3:=hs.chans
 have hs5:=hs.gos
 have hsz:=hok.sizes
 unfold Sizes at hsz
 have hmx:256≤maxLen:=by decide
 refine Ctr.body ok Go.Proofs.Tryz.func22 rfl rfl 27 rfl [.tmp 6] rfl (by simp [fromVs]) ?_
 simp only [fromVs,fromV,args0,V.toList_list,V.toInt_int,V.toBool_bool,Nat.zero_add,Nat.reduceAdd,ty26,ty37,ty39]
 repeat' first
  | ((with_reducible first|refine SARA.do fun R1 hR1=>?_|refine SARQ.do fun R1 hR1=>?_);(simp only [go_sem,seval,-List.reduceReplicate]);(repeat' with_reducible refine And.intro ?_ ?_);all_goals first|(refine hR1 _ ?_;clear hR1 R1)|((first|refine ce (cf (alts_ctr p s _ hpp hr hw) ?_));all_goals ((try simp only [go_sem,seval,-List.reduceReplicate]);(repeat' with_reducible refine And.intro ?_ ?_);all_goals first|(refine hR1 _ ?_;clear hR1 R1)|omega|rfl|decide|assumption|(intro _;omega)|(simp;done)|(simp [-List.getD_eq_getElem?_getD];omega)|exact hcode _|(intro _;exact hcode _)|exact hsl _|(intro _;exact hsl _)|(simp [-List.getD_eq_getElem?_getD,roomFor,maxLen,by3,by39,by45,by48,by37];omega)|(simp [-List.getD_eq_getElem?_getD,roomFor,maxLen,by3,by39,by45,by48,by37];done)))|omega|rfl|decide|assumption|(intro _;omega)|(simp;done)|(simp [-List.getD_eq_getElem?_getD];omega)|exact hcode _|(intro _;exact hcode _)|exact hsl _|(intro _;exact hsl _)|(simp [-List.getD_eq_getElem?_getD,roomFor,maxLen,by3,by39,by45,by48,by37];omega)|(simp [-List.getD_eq_getElem?_getD,roomFor,maxLen,by3,by39,by45,by48,by37];done))
  | ((with_reducible refine SARA.nil ?_);refine hR _ ?_;clear hR R;try simp only [go_sem,lv22,lvOf,Nat.reduceBEq,Option.getD_some])
  | ((with_reducible refine SARQ.nil ?_);refine hR _ ?_;clear hR R;try simp only [go_sem,lv22,lvOf,Nat.reduceBEq,Option.getD_some])
  | (with_reducible first|refine J1 ?_|refine J2 ?_|refine J3 ?_|refine J4 ?_|refine J5 ?_|refine J6 ?_|refine J7 ?_|refine J8 (by decide) ?_|refine J9 ?_|refine J10 ?_|refine J11 ?_|refine J12 ?_|refine J13 ?_|refine J14 ?_|refine J15 ?_|refine J16 ?_|refine J17 ?_|refine J18 ?_|refine J19 ?_)
  | ((with_reducible refine SA.at 3 ?_)
     have hal:=alts_short hok hw x.go
     (with_reducible refine J21 ok (by kernel_rfl) lv22 ?_);intro R hR;simp only [go_sem,strip])
  | ((with_reducible refine J21 ok (by kernel_rfl) lv22 ?_);intro R hR;simp only [go_sem,strip])
  | ((with_reducible refine SA.regionD ok mixed (by kernel_rfl) (by kernel_rfl) lv22 ?_);intro R hR;simp only [go_sem,strip])
  | ((with_reducible refine J20 17 rfl (fun hb17=>?_) (fun hb17=>?_))
     all_goals
      try simp [-List.getD_eq_getElem?_getD] at hb17
      try (exfalso;omega))
  | ((with_reducible refine J20 26 rfl (fun hb26=>?_) (fun hb26=>?_))
     all_goals
      try simp [-List.getD_eq_getElem?_getD] at hb26
      try (exfalso;omega))
  | ((with_reducible refine SA.atLoop ?_)
     refine SA.weaken (St.le.of_eq (by first|rfl|(simp;done)|fail)) (SA.loop (fun n τ=>∃ (j:Nat),n=(alts p s x.go).length-j∧(j≤(alts p s x.go).length∧∀ k:Nat,k<j→¬(alts p s x.go).getD k 0=x.alt)∧τ={ tm:=[(5,true,.ptr 2 [] 39),(7,true,.sl 3 3 0 (alts p s x.go).length false),(8,true,.int .i64 j)],ob:=[.var 26 (.data 26 p.v),.var 37 (.data 37 s.v),.var 39 (.data 39 x.v),.row 3 ((alts p s x.go).map V.int)],out:=[],nt:=27 }) ((alts p s x.go).length) ⟨0,rfl,⟨by omega,fun k h=>by omega⟩,rfl⟩ ?_)
     rintro n τ ⟨j,hn,⟨hj,hz⟩,rfl⟩)
  | ((with_reducible refine loopK.round ?_)
     first
      | (have hlt:j<(alts p s x.go).length:=by omega
         have hw:=wrap_succ (n:=j) (m:=256) (by omega) (by decide)
         refine loopK.normal ((alts p s x.go).length-(j+1)) _ (by omega) (St.le.of_eq (by simp only [hw])) ⟨j+1,rfl,⟨hlt,fun k h=>?_⟩,rfl⟩
         by_cases h2:k<j
         · exact hz k h2
         · have h3:k=j:=by omega
           rw [h3];exact hb26))
  | ((with_reducible first|refine ctrK.normal ?_|refine ctrK.ret ?_)
     simp only [go_sem,resA,resV,backK,seval]
     first
      | (have q:_=_:=hb26
         refine ⟨rfl,?_⟩
         have hlt:j<(alts p s x.go).length:=by omega
         rw [show has p s x=true from decide_eq_true (by rw [← hb26,List.getD_eq_getElem?_getD,List.getElem?_eq_getElem hlt];exact List.getElem_mem hlt)])
      | (have hlt:j=(alts p s x.go).length:=by omega
         subst hlt
         refine ⟨rfl,?_⟩
         rw [show has p s x=false from decide_eq_false (fun q=>by
          obtain ⟨k,hk,e⟩:=List.mem_iff_getElem.1 q
          exact hz k hk (by rw [List.getD_eq_getElem?_getD,List.getElem?_eq_getElem hk];exact e))]))
end Go.Eng.Tryz
namespace Go.Eng.Tryz
open Go.RowKit Go.Eng
set_option maxHeartbeats 0
set_option maxRecDepth 20000
end Go.Eng.Tryz
namespace Go.Eng.Tryz
open Go.RowKit Go.Eng
set_option maxHeartbeats 0
set_option maxRecDepth 20000
end Go.Eng.Tryz
namespace Go.Eng.Tryz
open Go.RowKit Go.Eng
set_option maxHeartbeats 0
set_option maxRecDepth 20000
end Go.Eng.Tryz
namespace Go.Eng.Tryz
open Go.RowKit Go.Eng
set_option maxHeartbeats 0
set_option maxRecDepth 20000
end Go.Eng.Tryz
namespace Go.Eng.Tryz
open Go.RowKit Go.Eng
set_option maxHeartbeats 0
set_option maxRecDepth 20000
end Go.Eng.Tryz
namespace Go.Eng.Tryz
open Go.RowKit Go.Eng
set_option maxHeartbeats 0
set_option maxRecDepth 20000
end Go.Eng.Tryz
namespace Go.Eng.Tryz
open Go.RowKit Go.Eng
set_option maxHeartbeats 0
set_option maxRecDepth 20000
end Go.Eng.Tryz
namespace Go.Eng.Tryz
open Go.RowKit Go.Eng
set_option maxHeartbeats 0
set_option maxRecDepth 20000
theorem zeroEvent_at:tab.zero 48=zeroEvent.v:=rfl
def fillTo (l:List Access) (n:Nat):List Access:=(List.range 6).map fun i=>if i<n then l.getD i default else ⟨0,0,false⟩
theorem fillTo_len (l:List Access) (n:Nat):(fillTo l n).length=6:=by simp [fillTo]
theorem fillTo_succ (l:List Access) {n:Nat} (hn:n<6):(fillTo l n).set n (l.getD n default)=fillTo l (n+1):=by
 unfold fillTo
 rw [rows_set hn]
 apply List.map_congr_left
 intro k hk
 by_cases h1:k=n
 · subst h1;simp
 · rw [if_neg h1]
   by_cases h2:k<n
   · rw [if_pos h2,if_pos (by omega)]
   · rw [if_neg h2,if_neg (by omega)]
theorem Event.at7 (e:Event) (d:V):e.v.toList.getD 7 d=.agg (e.touch.map Access.v):=rfl
def tagOf (p:Prg) (s:Stt) (x:Pck):Int:=if opAt p s x.go=65 then (instrAt p s x.go).n else 0
end Go.Eng.Tryz
