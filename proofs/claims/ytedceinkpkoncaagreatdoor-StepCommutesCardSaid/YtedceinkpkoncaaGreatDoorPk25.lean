/- A part of the proof: walks through the program's functions, and what they compute. -/
import Derived.Test.YtedceinkpkoncaaGreatDoorPk17
import Derived.Test.YtedceinkpkoncaaGreatDoorPk16
import Derived.Test.YtedceinkpkoncaaGreatDoorPk24
import Derived.Test.YtedceinkpkoncaaGreatDoorPk14
set_option linter.unusedSimpArgs false
set_option linter.unusedVariables false
namespace Go.Eng
def askErr (p:Prg) (s:Stt):Int:=if rightP p=false then 3 else if validP p s=false then 4 else 0
def liveB (s:Stt) (g:Int):Bool:=decide ((s.gos.getD g.toNat default).status=1)||decide ((s.gos.getD g.toNat default).status=2)
def oneErr (p:Prg) (s:Stt) (g:Int):Int:=if askErr p s≠0 then askErr p s else if g<0∨6≤g then 1 else if liveB s g=false then 9 else 0
def atI (p:Prg) (s:Stt) (g:Int):Instr:={ instrAt p s g with op:=opAt p s g }
def thereB (s:Stt) (g k:Int):Bool:=decide (0≤k)&&decide (k<s.count)&&!decide (k=g)
def liveTo (s:Stt) (n:Nat):List Int:=((List.range n).filter fun (g:Nat)=>liveB s (g:Int)).map fun (g:Nat)=>(g:Int)
theorem ask_zero {p:Prg} {s:Stt} (h:askErr p s=0):rightP p=true∧validP p s=true:=by
 unfold askErr at h
 split at h;· cases h
 rename_i h1
 split at h;· cases h
 rename_i h2
 exact ⟨by simpa using h1,by simpa using h2⟩
theorem one_zero {p:Prg} {s:Stt} {g:Int} (h:oneErr p s g=0):askErr p s=0∧(0≤g∧g<6)∧liveB s g=true:=by
 unfold oneErr at h
 split at h
 · rename_i h1;exact absurd h h1
 · rename_i h1
   split at h;· cases h
   rename_i h2
   split at h;· cases h
   rename_i h3
   exact ⟨Decidable.not_not.1 h1,by omega,by simpa using h3⟩
theorem liveB_count {p:Prg} {s:Stt} (hv:Vld p s) {g:Int} (h0:0≤g) (h6:g<6) (h:liveB s g=true):g<s.count:=by
 by_cases hc:g<s.count
 · exact hc
 · have:=hv.rest g.toNat (by omega) (by omega)
   unfold liveB at h
   rw [this] at h
   exact absurd h (by decide)
theorem isLive_in {s:Stt} {g:Int} (h0:0≤g) (hc:g<s.count):isLive s g=liveB s g:=by
 unfold isLive liveB
 rw [decide_eq_true h0,decide_eq_true hc];rfl
theorem liveB_live {p:Prg} {s:Stt} (hv:Vld p s) {g:Int} (h0:0≤g) (h6:g<6):isLive s g=liveB s g:=by
 by_cases hc:g<s.count
 · exact isLive_in h0 hc
 · cases h:liveB s g
   · unfold isLive;rw [decide_eq_false hc];simp
   · exact absurd (liveB_count hv h0 h6 h) hc
theorem liveTo_succ (s:Stt) (n:Nat):liveTo s (n+1)=liveTo s n++if liveB s (n:Int)=true then [(n:Int)] else []:=by
 unfold liveTo
 rw [List.range_succ,List.filter_append,List.map_append]
 congr 1
 simp only [List.filter_cons,List.filter_nil]
 split<;>rfl
theorem liveTo_len (s:Stt) (n:Nat):(liveTo s n).length≤n:=by
 unfold liveTo
 rw [List.length_map]
 exact Nat.le_trans (List.length_filter_le _ _) (by simp)
theorem sends_eq {p:Prg} {s:Stt} {c:Int} (h:0≤p.chans.getD c.toNat 0):sends p s c=((s.chans.getD c.toNat default).closed||(decide (0<p.chans.getD c.toNat 0)&&decide ((s.chans.getD c.toNat default).len<p.chans.getD c.toNat 0))||(decide (p.chans.getD c.toNat 0=0)&&decide ((s.chans.getD c.toNat default).offer=0))):=by
 show (if (s.chans.getD c.toNat default).closed=true then true else if 0<p.chans.getD c.toNat 0 then decide ((s.chans.getD c.toNat default).len<p.chans.getD c.toNat 0) else decide ((s.chans.getD c.toNat default).offer=0))=_
 cases (s.chans.getD c.toNat default).closed
 · rw [if_neg (by simp)]
   by_cases h2:0<p.chans.getD c.toNat 0
   · rw [if_pos h2,decide_eq_true h2,decide_eq_false (show ¬p.chans.getD c.toNat 0=0 by omega)];simp
   · rw [if_neg h2,decide_eq_false h2,decide_eq_true (show p.chans.getD c.toNat 0=0 by omega)];simp
 · rw [if_pos rfl];simp
section
variable {p:Prg} {s:Stt} {g:Int}
theorem plain54 (h:opAt p s g=54):plain p s g=decide (s.vars.getD (instrAt p s g).a.toNat 0=(s.gos.getD g.toNat default).regs.getD (instrAt p s g).b.toNat 0):=if_pos h
theorem plain55 (h:opAt p s g=55):plain p s g=decide (s.owner.getD (instrAt p s g).a.toNat 0=0):=(if_neg (by omega)).trans (if_pos h)
theorem plain58 (h:opAt p s g=58):plain p s g=sends p s (instrAt p s g).a:=(if_neg (by omega)).trans ((if_neg (by omega)).trans (if_pos h))
theorem plain59 (h:opAt p s g=59):plain p s g=receives s (instrAt p s g).b:=(if_neg (by omega)).trans ((if_neg (by omega)).trans ((if_neg (by omega)).trans (if_pos h)))
theorem plain66 (h:opAt p s g=66):plain p s g=(decide ((s.chans.getD (instrAt p s g).a.toNat default).offer=2)||decide ((s.chans.getD (instrAt p s g).a.toNat default).offer=3)):=(if_neg (by omega)).trans ((if_neg (by omega)).trans ((if_neg (by omega)).trans ((if_neg (by omega)).trans (if_pos h))))
theorem plain63 (h:opAt p s g=63):plain p s g=(!thereB s g ((s.gos.getD g.toNat default).regs.getD (instrAt p s g).a.toNat 0)||!liveB s ((s.gos.getD g.toNat default).regs.getD (instrAt p s g).a.toNat 0)):=by
 have e:plain p s g=(decide ((s.gos.getD g.toNat default).regs.getD (instrAt p s g).a.toNat 0<0)||decide (s.count≤(s.gos.getD g.toNat default).regs.getD (instrAt p s g).a.toNat 0)||decide ((s.gos.getD g.toNat default).regs.getD (instrAt p s g).a.toNat 0=g)||!isLive s ((s.gos.getD g.toNat default).regs.getD (instrAt p s g).a.toNat 0)) :=
  (if_neg (by omega)).trans ((if_neg (by omega)).trans ((if_neg (by omega)).trans ((if_neg (by omega)).trans ((if_neg (by omega)).trans (if_pos h)))))
 rw [e]
 generalize (s.gos.getD g.toNat default).regs.getD (instrAt p s g).a.toNat 0=k
 unfold thereB
 by_cases h0:0≤k
 · by_cases h1:k<s.count
   · rw [decide_eq_false (show ¬k<0 by omega),decide_eq_false (show ¬s.count≤k by omega),decide_eq_true h0,decide_eq_true h1,isLive_in h0 h1];cases decide (k=g)<;>rfl
   · rw [decide_eq_true (show s.count≤k by omega),decide_eq_false h1];simp
 · rw [decide_eq_true (show k<0 by omega),decide_eq_false h0];simp
theorem plain_else (h:opAt p s g≠54∧opAt p s g≠55∧opAt p s g≠58∧opAt p s g≠59∧opAt p s g≠66∧opAt p s g≠63):plain p s g=decide (50≤opAt p s g) :=
 (if_neg h.1).trans ((if_neg h.2.1).trans ((if_neg h.2.2.1).trans ((if_neg h.2.2.2.1).trans ((if_neg h.2.2.2.2.1).trans (if_neg h.2.2.2.2.2)))))
end
end Go.Eng
namespace Go.Eng.Tryz
open Go.RowKit Go.Eng
set_option maxHeartbeats 0
set_option maxRecDepth 20000
def lv39:List (Nat × List Nat):=[(0,[1]),(1,[1,3]),(2,[3,7,8]),(3,[3,7,8,9]),(4,[3,4,5,7,8]),(5,[3,4,7,8,19]),(6,[3,7,8]),(7,[3,7,8]),(8,[2])]
theorem plive_ctr (s:Stt) (hs:s.Shape):Ctr Go.Proofs.Tryz.prog tab 39 [37] [23] [s.v] [.list ((liveTo s 6).map V.int)]:=by
 have hcode:True→True:=id
 have hsl:True→True:=id
 have hs5:=hs.gos
 refine Ctr.body ok Go.Proofs.Tryz.func39 rfl rfl 26 rfl [.tmp 2] rfl (by simp [fromVs]) ?_
 simp only [fromVs,fromV,args0,V.toList_list,V.toInt_int,V.toBool_bool,Nat.zero_add,Nat.reduceAdd,ty37]
 repeat' first
  | ((with_reducible refine SARA.told 4 2 ?_)
     rw [getD_gors (by omega)])
  | ((with_reducible refine SARA.do fun R1 hR1=>?_);(simp only [go_sem,seval,-List.reduceReplicate,zeroGo_at,zeroState_at,zero142,z142,z3,Bool.cond_false_right,Bool.cond_true_left]);(repeat' with_reducible refine And.intro ?_ ?_);all_goals first|(refine hR1 _ ?_;clear hR1 R1)|omega|rfl|decide|assumption|(intro _;omega)|(simp;done)|(simp [-List.getD_eq_getElem?_getD];omega)|exact hcode _|(intro _;exact hcode _)|exact hsl _|(intro _;exact hsl _)|(simp [-List.getD_eq_getElem?_getD,roomFor,maxLen,by3,by39,by45,by48,by37];omega)|(simp [-List.getD_eq_getElem?_getD,roomFor,maxLen,by3,by39,by45,by48,by37];done))
  | ((with_reducible refine SARA.nil ?_);refine hR _ ?_;clear hR R;try simp only [go_sem,lv39,lvOf,Nat.reduceBEq,Option.getD_some])
  | (with_reducible first|refine J1 ?_|refine J2 ?_|refine J3 ?_|refine J4 ?_|refine J5 ?_|refine J6 ?_|refine J7 ?_|refine J8 (by decide) ?_|refine J9 ?_|refine J10 ?_|refine J11 ?_|refine J12 ?_|refine J13 ?_|refine J14 ?_|refine J15 ?_|refine J16 ?_|refine J17 ?_|refine J18 ?_|refine J19 ?_)
  | ((with_reducible refine SA.at 6 ?_)
     have hll:=liveTo_len s i
     (with_reducible refine J21 ok (by kernel_rfl) lv39 ?_);intro R hR;simp only [go_sem,strip])
  | ((with_reducible refine J21 ok (by kernel_rfl) lv39 ?_);intro R hR;simp only [go_sem,strip])
  | ((with_reducible refine J20 9 rfl (fun hb9=>?_) (fun hb9=>?_))
     all_goals
      try simp [-List.getD_eq_getElem?_getD] at hb9
      try (exfalso;omega))
  | ((with_reducible refine J20 19 rfl (fun hb19=>?_) (fun hb19=>?_))
     all_goals
      try simp [-List.getD_eq_getElem?_getD] at hb19
      try (exfalso;omega))
  | ((with_reducible refine SA.atLoop ?_)
     refine SA.weaken ((St.le.own (t:=3) 3 rfl).trans ((St.le.keep [3,7,8]).trans (St.le.of_eq (by first|rfl|(simp [liveTo];done))))) (SA.loop (fun n τ=>∃ (i:Nat),n=6-i∧(i≤6)∧τ={ tm:=[(3,true,.sl 1 3 0 (liveTo s i).length false),(7,true,.data 35 (.agg (s.gos.map Gor.v))),(8,true,.int .i64 i)],ob:=[.var 37 (.data 37 s.v),.row 3 ((liveTo s i).map V.int)],out:=[],nt:=26 }) (6) ⟨0,rfl,by omega,rfl⟩ ?_)
     rintro n τ ⟨i,hn,hi,rfl⟩)
  | ((with_reducible refine loopK.round ?_)
     first
      | (have q:_∨_:=hb19
         have hlt:i<6:=by omega
         have hw:=wrap_succ (n:=i) (m:=256) (by omega) (by decide)
         have e:=liveTo_succ s i
         rw [if_pos (by unfold liveB;simpa using hb19)] at e
         refine loopK.normal (6-(i+1)) _ (by omega) ((St.le.cut 2 rfl).trans (St.le.of_eq (by simp [-List.getD_eq_getElem?_getD,hw,e,List.take_of_length_le]))) ⟨i+1,rfl,hlt,rfl⟩)
      | (have q:_∧_:=hb19
         have hlt:i<6:=by omega
         have hw:=wrap_succ (n:=i) (m:=256) (by omega) (by decide)
         have e:=liveTo_succ s i
         rw [if_neg (by unfold liveB;simpa using hb19),List.append_nil] at e
         refine loopK.normal (6-(i+1)) _ (by omega) ((St.le.cut 2 rfl).trans (St.le.of_eq (by simp [-List.getD_eq_getElem?_getD,hw,e,List.take_of_length_le]))) ⟨i+1,rfl,hlt,rfl⟩))
  | ((with_reducible first|refine ctrK.normal ?_|refine ctrK.ret ?_)
     simp only [go_sem,resA,resV,backK,seval]
     have e:i=6:=by omega
     subst e
     refine ⟨rfl,?_⟩
     simp [List.take_of_length_le])
def lv60:List (Nat × List Nat):=[(0,[2,3]),(1,[2,3,5]),(2,[2,3,13]),(3,[4]),(4,[17]),(5,[4]),(6,[4])]
theorem pasked_ctr (p:Prg) (s:Stt) (hp:p.Fit) (hs:s.Shape):Ctr Go.Proofs.Tryz.prog tab 60 [26,37] [49] [p.v,s.v] [.int (askErr p s)]:=by
 have hpp:=hp
 have hfit:=hp
 have hcode:=p.code_len hp
 have hsl:=p.sels_len hp
 obtain ⟨hp1,hp2,hp3,hp4⟩:=hp
 refine Ctr.body ok Go.Proofs.Tryz.func60 rfl rfl 18 rfl [.tmp 4] rfl (by simp [fromVs]) ?_
 simp only [fromVs,fromV,args0,V.toList_list,V.toInt_int,V.toBool_bool,Nat.zero_add,Nat.reduceAdd,ty26,ty37]
 repeat' first
  | ((with_reducible refine SARA.do fun R1 hR1=>?_);(simp only [go_sem,seval,-List.reduceReplicate,zeroGo_at,zeroState_at,zero142,z142,z3,Bool.cond_false_right,Bool.cond_true_left]);(repeat' with_reducible refine And.intro ?_ ?_);all_goals first|(refine hR1 _ ?_;clear hR1 R1)|((first|refine ce (cf (pcheck_ctr p hpp) ?_)|refine cq (cc (pvalid_ctr p s hpp hs)) ?_);all_goals ((try simp only [go_sem,seval,-List.reduceReplicate,zeroGo_at,zeroState_at,zero142,z142,z3,Bool.cond_false_right,Bool.cond_true_left]);(repeat' with_reducible refine And.intro ?_ ?_);all_goals first|(refine hR1 _ ?_;clear hR1 R1)|omega|rfl|decide|assumption|(intro _;omega)|(simp;done)|(simp [-List.getD_eq_getElem?_getD];omega)|exact hcode _|(intro _;exact hcode _)|exact hsl _|(intro _;exact hsl _)))|omega|rfl|decide|assumption|(intro _;omega)|(simp;done)|(simp [-List.getD_eq_getElem?_getD];omega)|exact hcode _|(intro _;exact hcode _)|exact hsl _|(intro _;exact hsl _))
  | ((with_reducible refine SARA.nil ?_);refine hR _ ?_;clear hR R;try simp only [go_sem,lv60,lvOf,Nat.reduceBEq,Option.getD_some])
  | (with_reducible first|refine J1 ?_|refine J2 ?_|refine J3 ?_|refine J4 ?_|refine J5 ?_|refine J6 ?_|refine J7 ?_|refine J8 (by decide) ?_|refine J9 ?_|refine J10 ?_|refine J11 ?_|refine J12 ?_|refine J13 ?_|refine J14 ?_|refine J15 ?_|refine J16 ?_|refine J17 ?_|refine J18 ?_|refine J19 ?_)
  | ((with_reducible refine J21 ok (by kernel_rfl) lv60 ?_);intro R hR;simp only [go_sem,strip])
  | ((with_reducible refine J20 13 rfl (fun hb13=>?_) (fun hb13=>?_))
     all_goals
      try simp [-List.getD_eq_getElem?_getD] at hb13
      try (exfalso;omega))
  | ((with_reducible refine J20 17 rfl (fun hb17=>?_) (fun hb17=>?_))
     all_goals
      try simp [-List.getD_eq_getElem?_getD] at hb17
      try (exfalso;omega))
  | ((with_reducible first|refine ctrK.normal ?_|refine ctrK.ret ?_)
     simp only [go_sem,resA,resV,backK,seval]
     first
      | (have q:=hb17
         exact ⟨rfl,congrArg (fun e=>some (V.int e)) (Eq.symm ((if_neg (by unfold rightP;simp [hb13])).trans (if_pos hb17)))⟩)
      | (have q:=hb17
         exact ⟨rfl,congrArg (fun e=>some (V.int e)) (Eq.symm ((if_neg (by unfold rightP;simp [hb13])).trans (if_neg (by simp [hb17]))))⟩)
      | (exact ⟨rfl,congrArg (fun e=>some (V.int e)) (Eq.symm (if_pos (by unfold rightP;simp [hb13])))⟩))
def lv61:List (Nat × List Nat):=[(0,[1,2]),(1,[4])]
theorem steplive_ctr (s:Stt) (g:Int) (hs:s.Shape) (hg:0≤g∧g<6):Ctr Go.Proofs.Tryz.prog tab 61 [37,3] [4] [s.v,.int g] [.bool (liveB s g)]:=by
 have hcode:True→True:=id
 have hsl:True→True:=id
 have hs5:=hs.gos
 refine Ctr.body ok Go.Proofs.Tryz.func61 rfl rfl 19 rfl [.tmp 4] rfl (by simp [fromVs]) ?_
 simp only [fromVs,fromV,args0,V.toList_list,V.toInt_int,V.toBool_bool,Nat.zero_add,Nat.reduceAdd,ty3,ty37]
 repeat' first
  | ((with_reducible refine SARA.do fun R1 hR1=>?_);(simp only [go_sem,seval,-List.reduceReplicate,zeroGo_at,zeroState_at,zero142,z142,z3,Bool.cond_false_right,Bool.cond_true_left]);(repeat' with_reducible refine And.intro ?_ ?_);all_goals first|(refine hR1 _ ?_;clear hR1 R1)|omega|rfl|decide|assumption|(intro _;omega)|(simp;done)|(simp [-List.getD_eq_getElem?_getD];omega)|exact hcode _|(intro _;exact hcode _)|exact hsl _|(intro _;exact hsl _))
  | ((with_reducible refine SARA.nil ?_);refine hR _ ?_;clear hR R;try simp only [go_sem,lv61,lvOf,Nat.reduceBEq,Option.getD_some])
  | (with_reducible first|refine J1 ?_|refine J2 ?_|refine J3 ?_|refine J4 ?_|refine J5 ?_|refine J6 ?_|refine J7 ?_|refine J8 (by decide) ?_|refine J9 ?_|refine J10 ?_|refine J11 ?_|refine J12 ?_|refine J13 ?_|refine J14 ?_|refine J15 ?_|refine J16 ?_|refine J17 ?_|refine J18 ?_|refine J19 ?_)
  | ((with_reducible refine J21 ok (by kernel_rfl) lv61 ?_);intro R hR;simp only [go_sem,strip])
  | ((with_reducible first|refine ctrK.normal ?_|refine ctrK.ret ?_)
     simp only [go_sem,resA,resV,backK,seval]
     exact ⟨rfl,rfl⟩)
def lv74:List (Nat × List Nat):=[(0,[2,3,4]),(1,[2,4,7]),(2,[2,4,7,11]),(3,[6]),(4,[2,4,15]),(5,[6]),(6,[22]),(7,[6]),(8,[6])]
theorem pone_ctr (p:Prg) (s:Stt) (g:Int) (hp:p.Fit) (hs:s.Shape):Ctr Go.Proofs.Tryz.prog tab 74 [26,37,3] [49] [p.v,s.v,.int g] [.int (oneErr p s g)]:=by
 have hpp:=hp
 have hfit:=hp
 have hcode:=p.code_len hp
 have hsl:=p.sels_len hp
 obtain ⟨hp1,hp2,hp3,hp4⟩:=hp
 refine Ctr.body ok Go.Proofs.Tryz.func74 rfl rfl 27 rfl [.tmp 6] rfl (by simp [fromVs]) ?_
 simp only [fromVs,fromV,args0,V.toList_list,V.toInt_int,V.toBool_bool,Nat.zero_add,Nat.reduceAdd,ty3,ty26,ty37]
 repeat' first
  | ((with_reducible refine SARA.do fun R1 hR1=>?_);(simp only [go_sem,seval,-List.reduceReplicate,zeroGo_at,zeroState_at,zero142,z142,z3,Bool.cond_false_right,Bool.cond_true_left]);(repeat' with_reducible refine And.intro ?_ ?_);all_goals first|(refine hR1 _ ?_;clear hR1 R1)|((first|refine cq (cc (pasked_ctr p s hpp hs)) ?_|refine cq (cc (steplive_ctr s g hs (by omega))) ?_);all_goals ((try simp only [go_sem,seval,-List.reduceReplicate,zeroGo_at,zeroState_at,zero142,z142,z3,Bool.cond_false_right,Bool.cond_true_left]);(repeat' with_reducible refine And.intro ?_ ?_);all_goals first|(refine hR1 _ ?_;clear hR1 R1)|omega|rfl|decide|assumption|(intro _;omega)|(simp;done)|(simp [-List.getD_eq_getElem?_getD];omega)|exact hcode _|(intro _;exact hcode _)|exact hsl _|(intro _;exact hsl _)))|omega|rfl|decide|assumption|(intro _;omega)|(simp;done)|(simp [-List.getD_eq_getElem?_getD];omega)|exact hcode _|(intro _;exact hcode _)|exact hsl _|(intro _;exact hsl _))
  | ((with_reducible refine SARA.nil ?_);refine hR _ ?_;clear hR R;try simp only [go_sem,lv74,lvOf,Nat.reduceBEq,Option.getD_some])
  | (with_reducible first|refine J1 ?_|refine J2 ?_|refine J3 ?_|refine J4 ?_|refine J5 ?_|refine J6 ?_|refine J7 ?_|refine J8 (by decide) ?_|refine J9 ?_|refine J10 ?_|refine J11 ?_|refine J12 ?_|refine J13 ?_|refine J14 ?_|refine J15 ?_|refine J16 ?_|refine J17 ?_|refine J18 ?_|refine J19 ?_)
  | ((with_reducible refine J21 ok (by kernel_rfl) lv74 ?_);intro R hR;simp only [go_sem,strip])
  | ((with_reducible refine J20 11 rfl (fun hb11=>?_) (fun hb11=>?_))
     all_goals
      try simp [-List.getD_eq_getElem?_getD] at hb11
      try (exfalso;omega))
  | ((with_reducible refine J20 15 rfl (fun hb15=>?_) (fun hb15=>?_))
     all_goals
      try simp [-List.getD_eq_getElem?_getD] at hb15
      try (exfalso;omega))
  | ((with_reducible refine J20 22 rfl (fun hb22=>?_) (fun hb22=>?_))
     all_goals
      try simp [-List.getD_eq_getElem?_getD] at hb22
      try (exfalso;omega))
  | ((with_reducible first|refine ctrK.normal ?_|refine ctrK.ret ?_)
     simp only [go_sem,resA,resV,backK,seval]
     first
      | (have q:_=false:=hb22
         exact ⟨rfl,congrArg (fun e=>some (V.int e)) (Eq.symm ((if_neg (fun h=>h hb11)).trans ((if_neg (by omega)).trans (if_pos hb22))))⟩)
      | (have q:=hb22
         exact ⟨rfl,congrArg (fun e=>some (V.int e)) (Eq.symm ((if_neg (fun h=>h hb11)).trans ((if_neg (by omega)).trans (if_neg (by simp [hb22])))))⟩)
      | (have q:=hb15
         exact ⟨rfl,congrArg (fun e=>some (V.int e)) (Eq.symm ((if_neg (fun h=>h hb11)).trans (if_pos (by omega))))⟩)
      | (exact ⟨rfl,congrArg (fun e=>some (V.int e)) (Eq.symm (if_pos hb11))⟩))
end Go.Eng.Tryz
namespace Go.Eng.Tryz
open Go.RowKit Go.Eng
set_option maxHeartbeats 0
set_option maxRecDepth 20000
theorem atI_op (p:Prg) (s:Stt) (g:Int):(atI p s g).op=opAt p s g:=rfl
theorem atI_a (p:Prg) (s:Stt) (g:Int):(atI p s g).a=(instrAt p s g).a:=rfl
theorem atI_b (p:Prg) (s:Stt) (g:Int):(atI p s g).b=(instrAt p s g).b:=rfl
theorem atI_c (p:Prg) (s:Stt) (g:Int):(atI p s g).c=(instrAt p s g).c:=rfl
theorem atI_n (p:Prg) (s:Stt) (g:Int):(atI p s g).n=(instrAt p s g).n:=rfl
theorem there_in {s:Stt} {g k:Int} (hc:s.count≤6) (h:thereB s g k=true):0≤k∧k<6:=by
 unfold thereB at h
 simp at h
 omega
theorem plain66V {p:Prg} {s:Stt} {g:Int} (hok:p.Ok) (hr:rightP p=true) (hv:Vld p s) (hg:0≤g∧g<s.count) (h:opAt p s g=66):plain p s g=!decide ((s.chans.getD (instrAt p s g).a.toNat default).offer=1):=by
 rw [plain66 h]
 have h2:(s.gos.getD g.toNat default).status=2:=by
  rcases opAt_cases h with h|h
  · exact h.1
  · have:=op_le ((hv.wf hok hr).right hok hg.1 hg.2)
    exact absurd h.2 (by omega)
 obtain ⟨c,hc,ho,hf,hw⟩:=hv.waiting (g:=g.toNat) (by omega) h2
 have ha:(instrAt p s g).a=(c:Int):=hw.2.2
 rw [ha]
 have ho3:=(hv.chans c hc).off
 rw [Int.toNat_natCast]
 by_cases h1:(s.chans.getD c default).offer=1
 · rw [decide_eq_true h1,h1];rfl
 · by_cases h2:(s.chans.getD c default).offer=2
   · rw [decide_eq_true h2,decide_eq_false h1];rfl
   · rw [decide_eq_true (show (s.chans.getD c default).offer=3 by omega),decide_eq_false h1];simp
theorem plain_vis {p:Prg} {s:Stt} {g:Int} (hok:p.Ok) (hw:Wf p s) (hg:0≤g∧g<s.count) (h1:¬opAt p s g=54) (h2:¬opAt p s g=55) (h3:¬opAt p s g=58) (h4:¬opAt p s g=59) (h5:¬opAt p s g=66) (h6:¬opAt p s g=63) (h7:¬opAt p s g=61):plain p s g=isVisible (opAt p s g):=by
 rw [plain_else ⟨h1,h2,h3,h4,h5,h6⟩]
 have e:=hw.op_at hok hg.1 hg.2 rfl h5
 have:=op_le (hw.right hok hg.1 hg.2)
 unfold isVisible
 rw [decide_eq_true (show opAt p s g≤65 by omega),Bool.and_true]
def lv64:List (Nat × List Nat):=[(0,[2,3,4,6]),(1,[2,4,6,7]),(2,[6,7,30]),(3,[6,7]),(4,[6])]
theorem pat_ctr (p:Prg) (s:Stt) (g:Int) (hp:p.Fit) (hr:rightP p=true) (hw:Wf p s) (hg:0≤g∧g<s.count):Ctr Go.Proofs.Tryz.prog tab 64 [26,37,3] [129] [p.v,s.v,.int g] [(atI p s g).v]:=by
 have hpp:=hp
 have hok:=Prg.ok hr
 have hs:=hw.shape
 have hcnt:=hw.count
 have hcode:=p.code_len hp
 have hsl:=p.sels_len hp
 obtain ⟨hp1,hp2,hp3,hp4⟩:=hp
 have hs1:=hs.vars
 have hs2:=hs.owner
 have hs3:=hs.chans
 have hs5:=hs.gos
 have hsz:=hok.sizes
 unfold Sizes at hsz
 have hmx:256≤maxLen:=by decide
 have hgi:=hw.gos g (by omega) (by omega)
 have hgf:=hgi.f0
 have hgf1:=hgi.f1
 have hgp:=hgi.p0
 have hgp1:=hgi.p1
 have h8:=hgi.regs
 refine Ctr.body ok Go.Proofs.Tryz.func64 rfl rfl 33 rfl [.cell 6 129] rfl (by simp [fromVs]) ?_
 simp only [fromVs,fromV,args0,V.toList_list,V.toInt_int,V.toBool_bool,Nat.zero_add,Nat.reduceAdd,ty3,ty26,ty37]
 repeat' first
  | ((with_reducible refine SART.told 1 16 ?_)
     rw [getD_instrs (by omega)])
  | ((with_reducible first|refine SARA.do fun R1 hR1=>?_|refine SART.do fun R1 hR1=>?_|refine SARB.keep fun R1 hR1=>?_|refine SARB.any fun R1 hR1=>?_);(simp only [go_sem,seval,-List.reduceReplicate,Bool.cond_false_right,Bool.cond_true_left]);(repeat' with_reducible refine And.intro ?_ ?_);all_goals first|(refine hR1 _ ?_;clear hR1 R1)|omega|rfl|decide|assumption|(intro _;omega)|(simp;done)|(simp [-List.getD_eq_getElem?_getD];omega)|exact hcode _|(intro _;exact hcode _)|exact hsl _|(intro _;exact hsl _))
  | ((with_reducible refine SART.done ?_);refine hR _ ?_;clear hR R;try simp only [go_sem,lv64,lvOf,Nat.reduceBEq,Option.getD_some])
  | (with_reducible first|refine SART.br ?_ ?_|exact SARL.nil|refine SARL.cons ?_ ?_)
  | ((with_reducible refine SARA.nil ?_);refine hR _ ?_;clear hR R;try simp only [go_sem,lv64,lvOf,Nat.reduceBEq,Option.getD_some])
  | (with_reducible first|refine J1 ?_|refine J2 ?_|refine J3 ?_|refine J4 ?_|refine J5 ?_|refine J6 ?_|refine J7 ?_|refine J8 (by decide) ?_|refine J9 ?_|refine J10 ?_|refine J11 ?_|refine J12 ?_|refine J13 ?_|refine J14 ?_|refine J15 ?_|refine J16 ?_|refine J17 ?_|refine J18 ?_|refine J19 ?_)
  | ((with_reducible refine SA.at 1 ?_)
     refine SA.regionT ok mixed (.take 0 (.take 1 (.take 2 (.take 3 (.take 4 (.take 5 (.take 6 (.take 7 (.take 8 (.take 9 (.take 10 (.take 11 (.take 12 (.take 13 (.take 14 (.take 15 (.take 16 (.br 17 (.br 18 .done .nil) .nil)))))))))))))))))) [18] lv64 (by kernel_rfl) (fun R hR=>?_);simp only [go_sem,strip])
  | ((with_reducible refine J21 ok (by kernel_rfl) lv64 ?_);intro R hR;simp only [go_sem,strip])
  | ((with_reducible refine J20 30 rfl (fun hb30=>?_) (fun hb30=>?_))
     all_goals
      try simp [-List.getD_eq_getElem?_getD] at hb30
      try (exfalso;omega))
  | ((with_reducible first|refine ctrK.normal ?_|refine ctrK.ret ?_)
     simp only [go_sem,resA,resV,backK,seval]
     first
      | (have q:¬_:=hb30
         have e:opAt p s g=(instrAt p s g).op:=if_neg hb30
         exact ⟨rfl,congrArg (fun e=>some (Instr.v { instrAt p s g with op:=e })) e.symm⟩)
      | (have e:opAt p s g=66:=if_pos hb30
         exact ⟨rfl,congrArg (fun e=>some (Instr.v { instrAt p s g with op:=e })) e.symm⟩))
def lv105:List (Nat × List Nat):=[(0,[2,3,4]),(1,[2,3,7]),(2,[6])]
theorem psends_ctr (p:Prg) (s:Stt) (c:Int) (hp:p.Fit) (hr:rightP p=true) (hw:Wf p s) (hc:0≤c∧c<p.chans.length):Ctr Go.Proofs.Tryz.prog tab 105 [26,37,3] [4] [p.v,s.v,.int c] [.bool (sends p s c)]:=by
 have hpp:=hp
 have hok:=Prg.ok hr
 have hs:=hw.shape
 have hcnt:=hw.count
 have hcode:=p.code_len hp
 have hsl:=p.sels_len hp
 obtain ⟨hp1,hp2,hp3,hp4⟩:=hp
 have hs1:=hs.vars
 have hs2:=hs.owner
 have hs3:=hs.chans
 have hs5:=hs.gos
 have hsz:=hok.sizes
 unfold Sizes at hsz
 have hmx:256≤maxLen:=by decide
 refine Ctr.body ok Go.Proofs.Tryz.func105 rfl rfl 45 rfl [.tmp 6] rfl (by simp [fromVs]) ?_
 simp only [fromVs,fromV,args0,V.toList_list,V.toInt_int,V.toBool_bool,Nat.zero_add,Nat.reduceAdd,ty3,ty26,ty37]
 repeat' first
  | ((with_reducible refine SARA.told 1 4 ?_)
     rw [getD_chns (by omega)])
  | ((with_reducible first|refine SARA.do fun R1 hR1=>?_|refine SARQ.do fun R1 hR1=>?_);(simp only [go_sem,seval,-List.reduceReplicate,Bool.cond_false_right,Bool.cond_true_left]);(repeat' with_reducible refine And.intro ?_ ?_);all_goals first|(refine hR1 _ ?_;clear hR1 R1)|omega|rfl|decide|assumption|(intro _;omega)|(simp;done)|(simp [-List.getD_eq_getElem?_getD];omega)|exact hcode _|(intro _;exact hcode _)|exact hsl _|(intro _;exact hsl _))
  | ((with_reducible refine SARA.nil ?_);refine hR _ ?_;clear hR R;try simp only [go_sem,lv105,lvOf,Nat.reduceBEq,Option.getD_some])
  | ((with_reducible refine SARQ.nil ?_);refine hR _ ?_;clear hR R;try simp only [go_sem,lv105,lvOf,Nat.reduceBEq,Option.getD_some])
  | (with_reducible first|refine J1 ?_|refine J2 ?_|refine J3 ?_|refine J4 ?_|refine J5 ?_|refine J6 ?_|refine J7 ?_|refine J8 (by decide) ?_|refine J9 ?_|refine J10 ?_|refine J11 ?_|refine J12 ?_|refine J13 ?_|refine J14 ?_|refine J15 ?_|refine J16 ?_|refine J17 ?_|refine J18 ?_|refine J19 ?_)
  | ((with_reducible refine J21 ok (by kernel_rfl) lv105 ?_);intro R hR;simp only [go_sem,strip])
  | ((with_reducible refine SA.regionD ok mixed (by kernel_rfl) (by kernel_rfl) lv105 ?_);intro R hR;simp only [go_sem,strip])
  | ((with_reducible first|refine ctrK.normal ?_|refine ctrK.ret ?_)
     simp only [go_sem,resA,resV,backK,seval]
     have hcp:0≤p.chans.getD c.toNat 0:=(hok.caps _).1
     refine ⟨rfl,?_⟩
     rw [sends_eq hcp])
def lv106:List (Nat × List Nat):=[(0,[1,2]),(1,[5]),(2,[4])]
theorem preceives_ctr (s:Stt) (c:Int) (hs:s.Shape) (hc:0≤c∧c<4):Ctr Go.Proofs.Tryz.prog tab 106 [37,3] [4] [s.v,.int c] [.bool (receives s c)]:=by
 have hs3:=hs.chans
 refine Ctr.body ok Go.Proofs.Tryz.func106 rfl rfl 22 rfl [.tmp 4] rfl (by simp [fromVs]) ?_
 simp only [fromVs,fromV,args0,V.toList_list,V.toInt_int,V.toBool_bool,Nat.zero_add,Nat.reduceAdd,ty3,ty37]
 repeat' first
  | ((with_reducible refine SARA.told 1 4 ?_)
     rw [getD_chns (by omega)])
  | ((with_reducible refine SARA.do fun R1 hR1=>?_);(simp only [go_sem,seval,-List.reduceReplicate,Bool.cond_false_right,Bool.cond_true_left]);(repeat' with_reducible refine And.intro ?_ ?_);all_goals first|(refine hR1 _ ?_;clear hR1 R1)|omega|rfl|decide|assumption|(intro _;omega)|(simp;done)|(simp [-List.getD_eq_getElem?_getD];omega)|exact hcode _|(intro _;exact hcode _)|exact hsl _|(intro _;exact hsl _))
  | ((with_reducible refine SARA.nil ?_);refine hR _ ?_;clear hR R;try simp only [go_sem,lv106,lvOf,Nat.reduceBEq,Option.getD_some])
  | (with_reducible first|refine J1 ?_|refine J2 ?_|refine J3 ?_|refine J4 ?_|refine J5 ?_|refine J6 ?_|refine J7 ?_|refine J8 (by decide) ?_|refine J9 ?_|refine J10 ?_|refine J11 ?_|refine J12 ?_|refine J13 ?_|refine J14 ?_|refine J15 ?_|refine J16 ?_|refine J17 ?_|refine J18 ?_|refine J19 ?_)
  | ((with_reducible refine J21 ok (by kernel_rfl) lv106 ?_);intro R hR;simp only [go_sem,strip])
  | ((with_reducible first|refine ctrK.normal ?_|refine ctrK.ret ?_)
     simp only [go_sem,resA,resV,backK,seval]
     refine ⟨rfl,?_⟩
     unfold receives Stt.chn
     cases decide (0<(s.chans.getD c.toNat default).len)<;>cases (s.chans.getD c.toNat default).closed<;>rfl)
def lv108:List (Nat × List Nat):=[(0,[1,2,3]),(1,[6])]
theorem pthere_ctr (s:Stt) (g k:Int) (hs:s.Shape):Ctr Go.Proofs.Tryz.prog tab 108 [37,3,2] [4] [s.v,.int g,.int k] [.bool (thereB s g k)]:=by
 refine Ctr.body ok Go.Proofs.Tryz.func108 rfl rfl 20 rfl [.tmp 6] rfl (by simp [fromVs]) ?_
 simp only [fromVs,fromV,args0,V.toList_list,V.toInt_int,V.toBool_bool,Nat.zero_add,Nat.reduceAdd,ty2,ty3,ty37]
 repeat' first
  | ((with_reducible refine SARA.do fun R1 hR1=>?_);(simp only [go_sem,seval,-List.reduceReplicate,Bool.cond_false_right,Bool.cond_true_left]);(repeat' with_reducible refine And.intro ?_ ?_);all_goals first|(refine hR1 _ ?_;clear hR1 R1)|omega|rfl|decide|assumption|(intro _;omega)|(simp;done)|(simp [-List.getD_eq_getElem?_getD];omega)|exact hcode _|(intro _;exact hcode _)|exact hsl _|(intro _;exact hsl _))
  | ((with_reducible refine SARA.nil ?_);refine hR _ ?_;clear hR R;try simp only [go_sem,lv108,lvOf,Nat.reduceBEq,Option.getD_some])
  | (with_reducible first|refine J1 ?_|refine J2 ?_|refine J3 ?_|refine J4 ?_|refine J5 ?_|refine J6 ?_|refine J7 ?_|refine J8 (by decide) ?_|refine J9 ?_|refine J10 ?_|refine J11 ?_|refine J12 ?_|refine J13 ?_|refine J14 ?_|refine J15 ?_|refine J16 ?_|refine J17 ?_|refine J18 ?_|refine J19 ?_)
  | ((with_reducible refine J21 ok (by kernel_rfl) lv108 ?_);intro R hR;simp only [go_sem,strip])
  | ((with_reducible first|refine ctrK.normal ?_|refine ctrK.ret ?_)
     simp only [go_sem,resA,resV,backK,seval]
     refine ⟨rfl,?_⟩
     unfold thereB
     cases decide (0≤k)<;>cases decide (k<s.count)<;>rfl)
def lv103:List (Nat × List Nat):=[(0,[2,3,4]),(1,[2,3,4,7]),(2,[2,3,4,7,8]),(3,[2,3,4,7,8,19]),(4,[2,3,4,7,8,19,20]),(5,[6]),(6,[2,3,4,7,8,19,32]),(7,[6]),(8,[2,3,4,7,8,19,40]),(9,[6]),(10,[2,4,7,8,19,47]),(11,[6]),(12,[2,4,7,8,19,53]),(13,[6]),(14,[2,4,7,8,62]),(15,[6]),(16,[6])]
theorem pready_ctr (p:Prg) (s:Stt) (g:Int) (hp:p.Fit) (hr:rightP p=true) (hv:Vld p s) (hg:0≤g∧g<s.count) (h61:¬opAt p s g=61):Ctr Go.Proofs.Tryz.prog tab 103 [26,37,3] [4] [p.v,s.v,.int g] [.bool (plain p s g)]:=by
 have hw:=hv.wf (Prg.ok hr) hr
 have hpp:=hp
 have hok:=Prg.ok hr
 have hs:=hw.shape
 have hcnt:=hw.count
 have hcode:=p.code_len hp
 have hsl:=p.sels_len hp
 obtain ⟨hp1,hp2,hp3,hp4⟩:=hp
 have hs1:=hs.vars
 have hs2:=hs.owner
 have hs3:=hs.chans
 have hs5:=hs.gos
 have hsz:=hok.sizes
 unfold Sizes at hsz
 have hmx:256≤maxLen:=by decide
 have hgi:=hw.gos g (by omega) (by omega)
 have hgf:=hgi.f0
 have hgf1:=hgi.f1
 have hgp:=hgi.p0
 have hgp1:=hgi.p1
 have h8:=hgi.regs
 have hrt:instrErr p (p.funcs.getD (s.gos.getD g.toNat default).func.toNat default) (instrAt p s g)=0:=hw.right hok hg.1 hg.2
 have hrg:=hok.regs (s.gos.getD g.toNat default).func.toNat
 refine Ctr.body ok Go.Proofs.Tryz.func103 rfl rfl 84 rfl [.tmp 6] rfl (by simp [fromVs]) ?_
 simp only [fromVs,fromV,args0,V.toList_list,V.toInt_int,V.toBool_bool,Nat.zero_add,Nat.reduceAdd,ty3,ty26,ty37]
 repeat' first
  | ((with_reducible first|refine SARA.do fun R1 hR1=>?_|refine SARQ.do fun R1 hR1=>?_);(simp only [go_sem,seval,-List.reduceReplicate,Bool.cond_false_right,Bool.cond_true_left,atI_op,atI_a,atI_b]);(repeat' with_reducible refine And.intro ?_ ?_);all_goals first|(refine hR1 _ ?_;clear hR1 R1)|(intro hgf;simp only [hgf];refine hR1 _ ?_;clear hR1 R1)|((first|refine ⟨_,_,rfl,_,CallQ.ctr ok (pat_ctr p s g hpp hr hw hg) (by first|rfl|(simp [go_sem];done)|fail) rfl,?_⟩|refine ⟨_,_,rfl,_,fun hg=>CallQ.ctr ok (pat_ctr p s g hpp hr hw hg) (by first|rfl|(simp [go_sem];done)|fail) rfl,?_⟩|refine cq (cc (pat_ctr p s g hpp hr hw hg)) ?_|refine ⟨_,_,rfl,.inl ⟨_,fun hg=>CallQ.ctr ok (pat_ctr p s g hpp hr hw hg) (by first|rfl|(simp [go_sem];done)|fail) rfl,?_⟩⟩|refine ⟨_,_,rfl,_,CallQ.ctr ok (psends_ctr p s _ hpp hr hw hI.1) (by first|rfl|(simp [go_sem];done)|fail) rfl,?_⟩|refine ⟨_,_,rfl,_,fun hg=>CallQ.ctr ok (psends_ctr p s _ hpp hr hw hI.1) (by first|rfl|(simp [go_sem];done)|fail) rfl,?_⟩|refine cq (cc (psends_ctr p s _ hpp hr hw hI.1)) ?_|refine ⟨_,_,rfl,.inl ⟨_,fun hg=>CallQ.ctr ok (psends_ctr p s _ hpp hr hw hI.1) (by first|rfl|(simp [go_sem];done)|fail) rfl,?_⟩⟩|refine ⟨_,_,rfl,_,CallQ.ctr ok (preceives_ctr s _ hs hc4) (by first|rfl|(simp [go_sem];done)|fail) rfl,?_⟩|refine ⟨_,_,rfl,_,fun hg=>CallQ.ctr ok (preceives_ctr s _ hs hc4) (by first|rfl|(simp [go_sem];done)|fail) rfl,?_⟩|refine cq (cc (preceives_ctr s _ hs hc4)) ?_|refine ⟨_,_,rfl,.inl ⟨_,fun hg=>CallQ.ctr ok (preceives_ctr s _ hs hc4) (by first|rfl|(simp [go_sem];done)|fail) rfl,?_⟩⟩|refine ⟨_,_,rfl,_,CallQ.ctr ok (pthere_ctr s g _ hs) (by first|rfl|(simp [go_sem];done)|fail) rfl,?_⟩|refine ⟨_,_,rfl,_,fun hg=>CallQ.ctr ok (pthere_ctr s g _ hs) (by first|rfl|(simp [go_sem];done)|fail) rfl,?_⟩|refine cq (cc (pthere_ctr s g _ hs)) ?_|refine ⟨_,_,rfl,.inl ⟨_,fun hg=>CallQ.ctr ok (pthere_ctr s g _ hs) (by first|rfl|(simp [go_sem];done)|fail) rfl,?_⟩⟩|refine ⟨_,_,rfl,_,CallQ.ctr ok (pvisible_ctr _) (by first|rfl|(simp [go_sem];done)|fail) rfl,?_⟩|refine ⟨_,_,rfl,_,fun hg=>CallQ.ctr ok (pvisible_ctr _) (by first|rfl|(simp [go_sem];done)|fail) rfl,?_⟩|refine cq (cc (pvisible_ctr _)) ?_|refine ⟨_,_,rfl,.inl ⟨_,fun hg=>CallQ.ctr ok (pvisible_ctr _) (by first|rfl|(simp [go_sem];done)|fail) rfl,?_⟩⟩|refine ⟨_,_,rfl,_,CallQ.ctr ok (steplive_ctr s _ hs (there_in hcnt.2 (by simpa using hg))) (by first|rfl|(simp [go_sem];done)|fail) rfl,?_⟩|refine ⟨_,_,rfl,_,fun hg=>CallQ.ctr ok (steplive_ctr s _ hs (there_in hcnt.2 (by simpa using hg))) (by first|rfl|(simp [go_sem];done)|fail) rfl,?_⟩|refine cq (cc (steplive_ctr s _ hs (there_in hcnt.2 (by simpa using hg)))) ?_|refine ⟨_,_,rfl,.inl ⟨_,fun hg=>CallQ.ctr ok (steplive_ctr s _ hs (there_in hcnt.2 (by simpa using hg))) (by first|rfl|(simp [go_sem];done)|fail) rfl,?_⟩⟩);all_goals ((try simp only [go_sem,seval,-List.reduceReplicate,Bool.cond_false_right,Bool.cond_true_left,atI_op,atI_a,atI_b]);(repeat' with_reducible refine And.intro ?_ ?_);all_goals first|(refine hR1 _ ?_;clear hR1 R1)|(intro hgf;simp only [hgf];refine hR1 _ ?_;clear hR1 R1)|omega|rfl|decide|assumption|(intro _;omega)|(simp;done)|(simp [-List.getD_eq_getElem?_getD];omega)|exact hcode _|(intro _;exact hcode _)|exact hsl _|(intro _;exact hsl _)))|omega|rfl|decide|assumption|(intro _;omega)|(simp;done)|(simp [-List.getD_eq_getElem?_getD];omega)|exact hcode _|(intro _;exact hcode _)|exact hsl _|(intro _;exact hsl _))
  | ((with_reducible refine SARA.nil ?_);refine hR _ ?_;clear hR R;try simp only [go_sem,lv103,lvOf,Nat.reduceBEq,Option.getD_some])
  | ((with_reducible refine SARQ.nil ?_);refine hR _ ?_;clear hR R;try simp only [go_sem,lv103,lvOf,Nat.reduceBEq,Option.getD_some])
  | (with_reducible first|refine J1 ?_|refine J2 ?_|refine J3 ?_|refine J4 ?_|refine J5 ?_|refine J6 ?_|refine J7 ?_|refine J8 (by decide) ?_|refine J9 ?_|refine J10 ?_|refine J11 ?_|refine J12 ?_|refine J13 ?_|refine J14 ?_|refine J15 ?_|refine J16 ?_|refine J17 ?_|refine J18 ?_|refine J19 ?_)
  | ((with_reducible refine SA.at 5 ?_)
     have hI:=vis54 hrt (hw.op_at hok hg.1 hg.2 hb20 (by decide))
     (with_reducible refine SA.regionD ok mixed (by kernel_rfl) (by kernel_rfl) lv103 ?_);intro R hR;simp only [go_sem,strip])
  | ((with_reducible refine SA.at 7 ?_)
     have hI:=vis55 hrt (.inl (hw.op_at hok hg.1 hg.2 hb32 (by decide)))
     (with_reducible refine J21 ok (by kernel_rfl) lv103 ?_);intro R hR;simp only [go_sem,strip])
  | ((with_reducible refine SA.at 9 ?_)
     have hI:=vis58 hrt (hw.op_at hok hg.1 hg.2 hb40 (by decide))
     (with_reducible refine J21 ok (by kernel_rfl) lv103 ?_);intro R hR;simp only [go_sem,strip])
  | ((with_reducible refine SA.at 11 ?_)
     have hI:=vis59 hrt (hw.op_at hok hg.1 hg.2 hb47 (by decide))
     have hc4:0≤(instrAt p s g).b∧(instrAt p s g).b<4:=by omega
     (with_reducible refine J21 ok (by kernel_rfl) lv103 ?_);intro R hR;simp only [go_sem,strip])
  | ((with_reducible refine SA.at 13 ?_)
     have hI:=vis58 hrt (hw.op66 hok hg.1 hg.2 hb53)
     (with_reducible refine J21 ok (by kernel_rfl) lv103 ?_);intro R hR;simp only [go_sem,strip])
  | ((with_reducible refine SA.at 15 ?_)
     have hI:=vis63 hrt (.inl (hw.op_at hok hg.1 hg.2 hb62 (by decide)))
     (with_reducible refine SA.regionD ok mixed (by kernel_rfl) (by kernel_rfl) lv103 ?_);intro R hR;simp only [go_sem,strip])
  | ((with_reducible refine J21 ok (by kernel_rfl) lv103 ?_);intro R hR;simp only [go_sem,strip])
  | ((with_reducible refine SA.regionD ok mixed (by kernel_rfl) (by kernel_rfl) lv103 ?_);intro R hR;simp only [go_sem,strip])
  | ((with_reducible refine J20 20 rfl (fun hb20=>?_) (fun hb20=>?_))
     all_goals
      try simp [-List.getD_eq_getElem?_getD] at hb20
      try (exfalso;omega))
  | ((with_reducible refine J20 32 rfl (fun hb32=>?_) (fun hb32=>?_))
     all_goals
      try simp [-List.getD_eq_getElem?_getD] at hb32
      try (exfalso;omega))
  | ((with_reducible refine J20 40 rfl (fun hb40=>?_) (fun hb40=>?_))
     all_goals
      try simp [-List.getD_eq_getElem?_getD] at hb40
      try (exfalso;omega))
  | ((with_reducible refine J20 47 rfl (fun hb47=>?_) (fun hb47=>?_))
     all_goals
      try simp [-List.getD_eq_getElem?_getD] at hb47
      try (exfalso;omega))
  | ((with_reducible refine J20 53 rfl (fun hb53=>?_) (fun hb53=>?_))
     all_goals
      try simp [-List.getD_eq_getElem?_getD] at hb53
      try (exfalso;omega))
  | ((with_reducible refine J20 62 rfl (fun hb62=>?_) (fun hb62=>?_))
     all_goals
      try simp [-List.getD_eq_getElem?_getD] at hb62
      try (exfalso;omega))
  | ((with_reducible first|refine ctrK.normal ?_|refine ctrK.ret ?_)
     simp only [go_sem,resA,resV,backK,seval]
     first
      | (have q:=hb20
         exact ⟨rfl,congrArg (fun b=>some (V.bool b)) (plain54 hb20).symm⟩)
      | (have q:=hb32
         exact ⟨rfl,congrArg (fun b=>some (V.bool b)) (plain55 hb32).symm⟩)
      | (have q:=hb40
         exact ⟨rfl,congrArg (fun b=>some (V.bool b)) (plain58 hb40).symm⟩)
      | (have q:=hb47
         exact ⟨rfl,congrArg (fun b=>some (V.bool b)) (plain59 hb47).symm⟩)
      | (have q:=hb53
         exact ⟨rfl,congrArg (fun b=>some (V.bool b)) (plain66V hok hr hv hg hb53).symm⟩)
      | (have q:=hb62
         refine ⟨rfl,?_⟩
         simp only [← List.getD_eq_getElem?_getD]
         exact congrArg (fun b=>some (V.bool b)) (plain63 hb62).symm)
      | (exact ⟨rfl,congrArg (fun b=>some (V.bool b)) (plain_vis hok hw hg hb20 hb32 hb40 hb47 hb53 hb62 h61).symm⟩))
end Go.Eng.Tryz
