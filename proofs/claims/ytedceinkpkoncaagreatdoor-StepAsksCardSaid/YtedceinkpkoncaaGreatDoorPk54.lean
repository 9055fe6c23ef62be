/- A part of the proof: walks through the program's functions, and what they compute. -/
import Derived.Test.YtedceinkpkoncaaGreatDoorPk16
import Derived.Test.YtedceinkpkoncaaGreatDoorPk53
set_option linter.unusedSimpArgs false
set_option linter.unusedVariables false
namespace Go.Eng.Tryz
open Go.RowKit Go.Eng
set_option maxHeartbeats 0
set_option maxRecDepth 20000
def QQZ:List (List Nat):=[[2,3,4],[2,4,7],[2,4,7,11],[6],[2,4,15],[6],[22],[6],[6]]
theorem yh (p:Prg) (s:Stt) (g:Int) (hp:p.Fit) (hs:s.Shape):Ctr Go.Proofs.Tryz.prog tab 74 [26,37,3] [49] [p.v,s.v,.int g] [.int (Z7 p s g)]:=by
 have hpp:=hp
 have hfit:=hp
 have hcode:=p.code_len hp
 have hsl:=p.sels_len hp
 obtain ⟨hp1,hp2,hp3,hp4⟩:=hp
 refine Ctr.body ok Go.Proofs.Tryz.func74 rfl rfl 27 rfl [.tmp 6] rfl (by simp [QE]) ?_
 simp only [go_sem,Nat.reduceAdd]
 repeat' first
  | ((with_reducible refine Q2 fun R1 hR1=>?_);(simp only [go_sem,seval,-List.reduceReplicate,Qv,QF,YG,UF,z3,Bool.cond_false_right,Bool.cond_true_left]);(repeat' with_reducible refine And.intro ?_ ?_);all_goals first|(refine hR1 _ ?_;clear hR1 R1)|((first|refine cq (cc (Vg p s hpp hs)) ?_|refine cq (cc (Yt s g hs (by omega))) ?_);all_goals ((try simp only [go_sem,seval,-List.reduceReplicate,Qv,QF,YG,UF,z3,Bool.cond_false_right,Bool.cond_true_left]);(repeat' with_reducible refine And.intro ?_ ?_);all_goals first|(refine hR1 _ ?_;clear hR1 R1)|exact ZQ))|exact ZQ)
  | ((with_reducible refine Q1 ?_);refine hR _ ?_;clear hR R;try simp only [go_sem,QQZ,Nat.reduceBEq])
  | (with_reducible first|refine J1 ?_|refine J2 ?_|refine J3 ?_|refine J4 ?_|refine J5 ?_|refine J6 ?_|refine J7 ?_|refine J8 (by decide) ?_|refine J9 ?_|refine Q0 ?_|refine Qz ?_|refine YZ ?_)
  | ((with_reducible refine rg QQZ fun R hR=>?_);simp only [go_sem,QC])
  | ((with_reducible refine QH 11 rfl (fun hb11=>?_) fun hb11=>?_);all_goals (try simp [-List.getD_eq_getElem?_getD] at hb11;try (exfalso;omega)))
  | ((with_reducible refine QH 15 rfl (fun hb15=>?_) fun hb15=>?_);all_goals (try simp [-List.getD_eq_getElem?_getD] at hb15;try (exfalso;omega)))
  | ((with_reducible refine QH 22 rfl (fun hb22=>?_) fun hb22=>?_);all_goals (try simp [-List.getD_eq_getElem?_getD] at hb22;try (exfalso;omega)))
  | ((with_reducible first|refine ZH ?_|refine ZG ?_)
     simp only [go_sem,QJ,QK,QG,seval]
     first
      | (have q:_=false:=hb22
         exact ⟨rfl,congrArg (fun e=>some (V.int e)) (Eq.symm ((if_neg (fun h=>h hb11)).trans ((if_neg (by omega)).trans (if_pos hb22))))⟩)
      | (have q:=hb22
         exact ⟨rfl,congrArg (fun e=>some (V.int e)) (Eq.symm ((if_neg (fun h=>h hb11)).trans ((if_neg (by omega)).trans (if_neg (by simp [hb22])))))⟩)
      | (have q:=hb15
         exact ⟨rfl,congrArg (fun e=>some (V.int e)) (Eq.symm ((if_neg (fun h=>h hb11)).trans (if_pos (by omega))))⟩)
      | (exact ⟨rfl,congrArg (fun e=>some (V.int e)) (Eq.symm (if_pos hb11))⟩))
end Go.Eng.Tryz
namespace Go.Eng.Tryz
open Go.RowKit Go.Eng
set_option maxHeartbeats 0
set_option maxRecDepth 20000
def QOM:List (List Nat):=[[2,3,4],[2,3,4,8],[2,3,4,8,14],[6,7],[6,7]]
theorem QFv (p:Prg) (s:Stt) (g:Int) (hp:p.Fit) (hs:s.Shape):Ctr Go.Proofs.Tryz.prog tab 41 [26,37,3] [43,49] [p.v,s.v,.int g] [.int (if Z7 p s g=0 then QL p s g else 0),.int (Z7 p s g)]:=by
 have hpp:=hp
 have hfit:=hp
 have hcode:=p.code_len hp
 have hsl:=p.sels_len hp
 obtain ⟨hp1,hp2,hp3,hp4⟩:=hp
 refine Ctr.body ok Go.Proofs.Tryz.func41 rfl rfl 21 rfl [.tmp 6,.tmp 7] rfl (by simp [QE]) ?_
 simp only [go_sem,Nat.reduceAdd]
 repeat' first
  | ((with_reducible refine Q2 fun R1 hR1=>?_);(simp only [go_sem,seval,-List.reduceReplicate,Bool.cond_false_right,Bool.cond_true_left]);(repeat' with_reducible refine And.intro ?_ ?_);all_goals first|(refine hR1 _ ?_;clear hR1 R1)|((first|refine cq (cc (yh p s g hpp hs)) ?_|refine cq (cc (Xt p s g hpp hr (hv.wf hok hr) hgc)) ?_);all_goals ((try simp only [go_sem,seval,-List.reduceReplicate,Bool.cond_false_right,Bool.cond_true_left]);(repeat' with_reducible refine And.intro ?_ ?_);all_goals first|(refine hR1 _ ?_;clear hR1 R1)|exact ZQ))|exact ZQ)
  | ((with_reducible refine Q1 ?_);refine hR _ ?_;clear hR R;try simp only [go_sem,QOM,Nat.reduceBEq])
  | (with_reducible first|refine J1 ?_|refine J2 ?_|refine J3 ?_|refine Q0 ?_|refine Qz ?_)
  | ((with_reducible refine QZ 4 ?_)
     have h1:=UW hb14
     have hr:=(YP h1.1).1
     have hok:=Prg.ok hr
     have hv:=Vld.of hok hs (YP h1.1).2
     have hgc:0≤g∧g<s.count:=⟨h1.2.1.1,Zv hv h1.2.1.1 h1.2.1.2 h1.2.2⟩
     (with_reducible refine rg QOM fun R hR=>?_);simp only [go_sem,QC])
  | ((with_reducible refine rg QOM fun R hR=>?_);simp only [go_sem,QC])
  | ((with_reducible refine QH 14 rfl (fun hb14=>?_) fun hb14=>?_);all_goals (try simp [-List.getD_eq_getElem?_getD] at hb14;try (exfalso;omega)))
  | ((with_reducible first|refine ZH ?_|refine ZG ?_)
     simp only [go_sem,QJ,QK,QG,seval]
     first
      | (have q:¬_:=hb14
         exact ⟨⟨rfl,congrArg (fun e=>some (V.int e)) (if_neg hb14).symm⟩,rfl⟩)
      | (rw [hb14]
         refine ⟨⟨rfl,?_⟩,⟨rfl,?_⟩⟩<;>rfl))
end Go.Eng.Tryz
namespace Go.Eng.Tryz
open Go.RowKit Go.Eng
set_option maxHeartbeats 0
set_option maxRecDepth 20000
def QOP:List (List Nat):=[[2,3,4],[2,3,4,8],[2,3,4,8,14],[6,7],[6,7]]
theorem QBP (p:Prg) (s:Stt) (g:Int) (hp:p.Fit) (hs:s.Shape):Ctr Go.Proofs.Tryz.prog tab 29 [26,37,3] [23,49] [p.v,s.v,.int g] [.list ((if Z7 p s g=0 then Qj p s g else []).map V.int),.int (Z7 p s g)]:=by
 have hpp:=hp
 have hfit:=hp
 have hcode:=p.code_len hp
 have hsl:=p.sels_len hp
 obtain ⟨hp1,hp2,hp3,hp4⟩:=hp
 refine Ctr.body ok Go.Proofs.Tryz.func29 rfl rfl 20 rfl [.tmp 6,.tmp 7] rfl (by simp [QE]) ?_
 simp only [go_sem,Nat.reduceAdd]
 repeat' first
  | ((with_reducible refine Q2 fun R1 hR1=>?_);(simp only [go_sem,seval,-List.reduceReplicate,Bool.cond_false_right,Bool.cond_true_left]);(repeat' with_reducible refine And.intro ?_ ?_);all_goals first|(refine hR1 _ ?_;clear hR1 R1)|((first|refine cq (cc (yh p s g hpp hs)) ?_|refine ce (cf (WA p s g hpp hr hv hgc hlv) ?_));all_goals ((try simp only [go_sem,seval,-List.reduceReplicate,Bool.cond_false_right,Bool.cond_true_left]);(repeat' with_reducible refine And.intro ?_ ?_);all_goals first|(refine hR1 _ ?_;clear hR1 R1)|exact ZQ))|exact ZQ)
  | ((with_reducible refine Q1 ?_);refine hR _ ?_;clear hR R;try simp only [go_sem,QOP,Nat.reduceBEq])
  | (with_reducible first|refine J1 ?_|refine J2 ?_|refine J3 ?_|refine Q0 ?_|refine Qz ?_)
  | ((with_reducible refine QZ 4 ?_)
     have h1:=UW hb14
     have hr:=(YP h1.1).1
     have hok:=Prg.ok hr
     have hv:=Vld.of hok hs (YP h1.1).2
     have hgc:0≤g∧g<s.count:=⟨h1.2.1.1,Zv hv h1.2.1.1 h1.2.1.2 h1.2.2⟩
     have hlv:ZE s g=true:=(WF hgc.1 hgc.2).trans h1.2.2
     (with_reducible refine rg QOP fun R hR=>?_);simp only [go_sem,QC])
  | ((with_reducible refine rg QOP fun R hR=>?_);simp only [go_sem,QC])
  | ((with_reducible refine QH 14 rfl (fun hb14=>?_) fun hb14=>?_);all_goals (try simp [-List.getD_eq_getElem?_getD] at hb14;try (exfalso;omega)))
  | ((with_reducible first|refine ZH ?_|refine ZG ?_)
     simp only [go_sem,QJ,QK,QG,seval]
     first
      | (have q:¬_:=hb14
         refine ⟨⟨rfl,?_⟩,rfl⟩
         rw [if_neg hb14]
         rfl)
      | (rw [hb14]
         refine ⟨⟨rfl,?_,?_⟩,rfl,rfl⟩
         · simp [List.take_of_length_le]
         · intro e h j u lo n c q
           simp at h
           subst h
           cases q))
end Go.Eng.Tryz
namespace Go.Eng.Tryz
open Go.RowKit Go.Eng
set_option maxHeartbeats 0
set_option maxRecDepth 20000
def QQW:List (List Nat):=[[0,1,2],[4]]
theorem wy (p:Prg) (s:Stt) (hp:p.Fit) (hr:QP p=true) (hv:Vld p s) (k:Int) (hg:(0≤k∧k<s.count)∧ZE s k=true) {tm:Tm} {out:List Tm} {nt:Nat} {xs:List Obj} {K:St→E→Prop} (h:∀ ys,K { tm:=tm,ob:=.var 26 (.data 26 p.v)::.var 37 (.data 37 s.v)::(xs++ys),out:=out,nt:=nt } (.bool (del p s k))):CallE Go.Proofs.Tryz.prog tab { tm:=tm,ob:=.var 26 (.data 26 p.v)::.var 37 (.data 37 s.v)::xs,out:=out,nt:=nt } 79 [.int .i64 k,.ptr 0 [] 26,.ptr 1 [] 37] K:=by
 have hal:=WB (Prg.ok hr) (hv.wf (Prg.ok hr) hr) k
 have hmx:256≤maxLen:=by decide
 refine CallE.body ok Go.Proofs.Tryz.func79 rfl rfl 11 rfl [.tmp 4] rfl (by simp) ?_
 simp only [enter,Zl,Nat.zero_add,Nat.reduceAdd]
 repeat' first
  | ((with_reducible refine Q2 fun R1 hR1=>?_);(simp only [go_sem,seval,-List.reduceReplicate,Bool.cond_false_right,Bool.cond_true_left]);(repeat' with_reducible refine And.intro ?_ ?_);all_goals first|(refine hR1 _ ?_;clear hR1 R1)|((first|refine ce (cf (WA p s k hp hr hv hg.1 hg.2) ?_));all_goals ((try simp only [go_sem,seval,-List.reduceReplicate,Bool.cond_false_right,Bool.cond_true_left]);(repeat' with_reducible refine And.intro ?_ ?_);all_goals first|(refine hR1 _ ?_;clear hR1 R1)|exact ZQ))|exact ZQ)
  | ((with_reducible refine Q1 ?_);refine hR _ ?_;clear hR R;try simp only [go_sem,QQW,Nat.reduceBEq])
  | (with_reducible first|refine J1 ?_|refine J2 ?_|refine Q0 ?_|refine Qz ?_)
  | ((with_reducible refine rg QQW fun R hR=>?_);simp only [go_sem,QC])
  | ((with_reducible first|refine xS ?_|refine xR ?_)
     simp only [go_sem,QJ,QK,QG,seval]
     have q:=h [Obj.row 3 (List.map V.int (Qj p s k))]
     have e:(decide (0<((Qj p s k).length:Int)))=del p s k:=by unfold del;simp
     rw [e]
     exact q)
def QI9:List (List Nat):=[[0,1],[0,1,7,8],[0,1,7,8,9],[0,1,5,7,8],[0,1,5,7,8,16],[4],[0,1,7,8],[4]]
theorem QDz (p:Prg) (s:Stt) (hp:p.Fit) (hr:QP p=true) (hv:Vld p s) (l:List Int) (hl:∀ k,k<l.length→(0≤l.getD k 0∧l.getD k 0<s.count)∧ZE s (l.getD k 0)=true) (hn:l.length≤6) {tm:Tm} {out:List Tm} {nt:Nat} {xs:List Obj} {K:St→E→Prop} (h1:∀ (i:Nat) ys,i<l.length→(∀ k,k<i→del p s (l.getD k 0)=false)→del p s (l.getD i 0)=true→K { tm:=tm,ob:=.var 26 (.data 26 p.v)::.var 37 (.data 37 s.v)::.row 3 (l.map V.int)::(xs++ys),out:=out,nt:=nt } (.int .i64 i)) (h2:∀ ys,(∀ k,k<l.length→del p s (l.getD k 0)=false)→K { tm:=tm,ob:=.var 26 (.data 26 p.v)::.var 37 (.data 37 s.v)::.row 3 (l.map V.int)::(xs++ys),out:=out,nt:=nt } (.int .i64 (-1))):CallE Go.Proofs.Tryz.prog tab { tm:=tm,ob:=.var 26 (.data 26 p.v)::.var 37 (.data 37 s.v)::.row 3 (l.map V.int)::xs,out:=out,nt:=nt } 134 [.sl 2 3 0 l.length false,.fn 79 [.ptr 0 [] 26,.ptr 1 [] 37]] K:=by
 have hmx:256≤maxLen:=by decide
 refine CallE.body ok Go.Proofs.Tryz.func134 rfl rfl 19 rfl [.tmp 4] rfl (by simp) ?_
 simp only [enter,Zl,Nat.zero_add,Nat.reduceAdd]
 repeat' first
  | ((with_reducible refine Q2 fun R1 hR1=>?_);(simp only [go_sem,seval,-List.reduceReplicate,Bool.cond_false_right,Bool.cond_true_left]);(repeat' with_reducible refine And.intro ?_ ?_);all_goals first|(refine hR1 _ ?_;clear hR1 R1)|((first|refine ⟨_,_,rfl,.inr (wy p s hp hr hv _ (hl i hlt) (xs:=_::_) fun ys=>?_)⟩);all_goals ((try simp only [go_sem,seval,-List.reduceReplicate,Bool.cond_false_right,Bool.cond_true_left]);(repeat' with_reducible refine And.intro ?_ ?_);all_goals first|(refine hR1 _ ?_;clear hR1 R1)|exact ZQ))|exact ZQ)
  | ((with_reducible refine Q1 ?_);refine hR _ ?_;clear hR R;try simp only [go_sem,QI9,Nat.reduceBEq])
  | (with_reducible first|refine J1 ?_|refine J2 ?_|refine J3 ?_|refine J4 ?_|refine J5 ?_|refine J6 ?_|refine J7 ?_|refine J8 (by decide) ?_|refine J9 ?_|refine WL ?_|refine Q0 ?_|refine Qz ?_|refine YZ ?_|refine WK ?_)
  | ((with_reducible refine QZ 4 ?_)
     have hlt:i<l.length:=by omega
     (with_reducible refine rg QI9 fun R hR=>?_);simp only [go_sem,QC])
  | ((with_reducible refine rg QI9 fun R hR=>?_);simp only [go_sem,QC])
  | ((with_reducible refine QH 16 rfl (fun hb16=>?_) fun hb16=>?_);all_goals (try simp [-List.getD_eq_getElem?_getD] at hb16;try (exfalso;omega)))
  | ((with_reducible refine SA.cond rfl ?_ ?_)
     all_goals
      intro hb
      try simp [-List.getD_eq_getElem?_getD] at hb
      try (exfalso;omega))
  | ((with_reducible refine YQ ?_)
     refine Zo (Qq (by first|(simp;done)|fail)) (YR (fun n τ=>∃ (i:Nat) (zs:List Obj),n=l.length-i∧(i≤l.length∧∀ k,k<i→del p s (l.getD k 0)=false)∧τ={ tm:=[(0,true,.sl 2 3 0 l.length false),(1,true,.fn 79 [.ptr 0 [] 26,.ptr 1 [] 37]),(7,true,.int .i64 l.length),(8,true,.int .i64 i)],ob:=.var 26 (.data 26 p.v)::.var 37 (.data 37 s.v)::.row 3 (l.map V.int)::(xs++zs),out:=tm::out,nt:=19 }) (l.length) ⟨0,[],rfl,⟨by omega,fun k h=>by omega⟩,rfl⟩ ?_)
     rintro n τ ⟨i,zs,hn,⟨hi,hz⟩,rfl⟩)
  | ((with_reducible refine WM ?_)
     first
      | (have q:_=false:=hb16
         have hlt:i<l.length:=by omega
         have hw:=QD (n:=i) (m:=256) (by omega) (by decide)
         refine Zt (l.length-(i+1)) _ (by omega) (Qq (by simp only [hw,List.append_assoc])) ⟨i+1,zs++ys,rfl,⟨hlt,fun k h=>?_⟩,rfl⟩
         by_cases h2:k<i
         · exact hz k h2
         · rw [show k=i by omega];exact q))
  | ((with_reducible first|refine xS ?_|refine xR ?_)
     simp only [go_sem,QJ,QK,QG,seval]
     first
      | (have q:_=true:=hb16
         rw [List.append_assoc]
         exact h1 i _ (by omega) hz hb16)
      | (have hi':i=l.length:=by omega
         subst hi'
         exact h2 _ hz))
def QKp:List (List Nat):=[[0,1],[0,1,5],[0,1,5,12],[4],[0,1,5,6],[0,1,5,6,19],[0,1,5,6],[0,1,5,6,7],[0,1,5,6,7,29],[0,1,5,6],[0,1,5,6],[0,5],[4]]
theorem QCl (p:Prg) (s:Stt) (hp:p.Fit) (hr:QP p=true) (hv:Vld p s) (l:List Int) (hl:∀ k,k<l.length→(0≤l.getD k 0∧l.getD k 0<s.count)∧ZE s (l.getD k 0)=true) (hn:l.length≤6) {tm:Tm} {out:List Tm} {nt:Nat} {xs:List Obj} {K:St→E→Prop} (h:∀ (R:List V) ys,(Yc p s l).length≤R.length→R.take (Yc p s l).length=(Yc p s l).map V.int→K { tm:=tm,ob:=.var 26 (.data 26 p.v)::.var 37 (.data 37 s.v)::.row 3 R::(xs++ys),out:=out,nt:=nt } (.sl 2 3 0 (Yc p s l).length false)):CallE Go.Proofs.Tryz.prog tab { tm:=tm,ob:=.var 26 (.data 26 p.v)::.var 37 (.data 37 s.v)::.row 3 (l.map V.int)::xs,out:=out,nt:=nt } 78 [.sl 2 3 0 l.length false,.fn 79 [.ptr 0 [] 26,.ptr 1 [] 37]] K:=by
 have hmx:256≤maxLen:=by decide
 refine CallE.body ok Go.Proofs.Tryz.func78 rfl rfl 42 rfl [.tmp 4] rfl (by simp) ?_
 simp only [enter,Zl,Nat.zero_add,Nat.reduceAdd]
 repeat' first
  | ((with_reducible refine Q2 fun R1 hR1=>?_);(simp only [go_sem,seval,-List.reduceReplicate,Bool.cond_false_right,Bool.cond_true_left,xu,QFl,List.getElem?_cons_succ,List.getElem?_cons_zero,List.set_cons_succ,List.set_cons_zero]);(repeat' with_reducible refine And.intro ?_ ?_);all_goals first|(refine hR1 _ ?_;clear hR1 R1)|((first|refine ⟨_,_,rfl,.inr (wy p s hp hr hv _ (by rw [hRj];exact hl j hlt) (xs:=_::_) fun ys=>?_)⟩|refine ⟨_,_,rfl,.inr (QDz p s hp hr hv l hl hn (fun i0 ys0 hi0 hp0 hd0=>?_) (fun ys0 hp0=>?_))⟩);all_goals ((try simp only [go_sem,seval,-List.reduceReplicate,Bool.cond_false_right,Bool.cond_true_left,xu,QFl,List.getElem?_cons_succ,List.getElem?_cons_zero,List.set_cons_succ,List.set_cons_zero]);(repeat' with_reducible refine And.intro ?_ ?_);all_goals first|(refine hR1 _ ?_;clear hR1 R1)|exact ZQ))|exact ZQ)
  | ((with_reducible refine Q1 ?_);refine hR _ ?_;clear hR R;try simp only [go_sem,QKp,Nat.reduceBEq])
  | (with_reducible first|refine J1 ?_|refine J2 ?_|refine J3 ?_|refine J4 ?_|refine J5 ?_|refine J6 ?_|refine J7 ?_|refine J8 (by decide) ?_|refine J9 ?_|refine WL ?_|refine Q0 ?_|refine Qz ?_|refine YZ ?_|refine WK ?_)
  | ((with_reducible refine QZ 7 ?_)
     have hlt:j<l.length:=by omega
     have hRj:=hI.at_ hlt
     have hIl:=hI.len
     have hIj:=hI.lt
     (with_reducible refine rg QKp fun R hR=>?_);simp only [go_sem,QC])
  | ((with_reducible refine QZ 11 ?_)
     have hIl:=hI.len
     have hIj:=hI.lt
     (with_reducible refine rg QKp fun R hR=>?_);simp only [go_sem,QC])
  | ((with_reducible refine rg QKp fun R hR=>?_);simp only [go_sem,QC])
  | ((with_reducible refine QH 12 rfl (fun hb12=>?_) fun hb12=>?_);all_goals (try simp [-List.getD_eq_getElem?_getD] at hb12;try (exfalso;omega)))
  | ((with_reducible refine QH 29 rfl (fun hb29=>?_) fun hb29=>?_);all_goals (try simp [-List.getD_eq_getElem?_getD] at hb29;try (exfalso;omega)))
  | ((with_reducible refine SA.cond rfl ?_ ?_)
     all_goals
      intro hb
      try simp [-List.getD_eq_getElem?_getD] at hb
      try (exfalso;omega))
  | ((with_reducible refine YQ ?_)
     refine Zo (Qq (by first|(simp only [QD (n:=i0) (m:=256) (by omega) (by decide)];done)|(simp only [QD (n:=i0) (m:=256) (by omega) (by decide)];rfl))) (YR (fun n τ=>∃ (i:Nat) (j:Nat) (R:List Int) (zs:List Obj),n=l.length-j∧(j≤l.length∧DInv p s l i j R)∧τ={ tm:=[(0,true,.sl 2 3 0 l.length false),(1,true,.fn 79 [.ptr 0 [] 26,.ptr 1 [] 37]),(5,true,.int .i64 i),(6,true,.int .i64 j)],ob:=.var 26 (.data 26 p.v)::.var 37 (.data 37 s.v)::.row 3 (R.map V.int)::(xs++zs),out:=tm::out,nt:=42 }) (l.length-(i0+1)) ⟨i0,i0+1,l,ys0,rfl,⟨by omega,DInv.first hi0 hp0 hd0⟩,rfl⟩ ?_)
     rintro n τ ⟨i,j,R,zs,hn,⟨hj,hI⟩,rfl⟩)
  | ((with_reducible refine WM ?_)
     first
      | (have q:_=false:=hb29
         have hw1:=QD (n:=i) (m:=256) (by omega) (by decide)
         have hw2:=QD (n:=j) (m:=256) (by omega) (by decide)
         refine Zt (l.length-(j+1)) _ (by omega) (Qq (by simp only [hw1,hw2,List.append_assoc])) ⟨i+1,j+1,R.set i (R.getD j 0),zs++ys,rfl,⟨hlt,hI.keep hlt hb29⟩,rfl⟩)
      | (have q:_=true:=hb29
         have hw2:=QD (n:=j) (m:=256) (by omega) (by decide)
         refine Zt (l.length-(j+1)) _ (by omega) (Qq (by simp only [hw2,List.append_assoc])) ⟨i,j+1,R,zs++ys,rfl,⟨hlt,hI.drop hlt hb29⟩,rfl⟩))
  | ((with_reducible first|refine xS ?_|refine xR ?_)
     simp only [go_sem,QJ,QK,QG,seval]
     first
      | (have e:Yc p s l=l:=QBA hp0
         have q:=h (l.map V.int) ys0 (by rw [e];simp) (by rw [e];simp [List.take_of_length_le])
         rw [e] at q
         exact q)
      | (have hj':j=l.length:=by omega
         subst hj'
         have e1:=hI.num
         have e2:=hI.tk
         rw [List.take_length] at e1 e2
         have e3:i≤R.length:=by omega
         have q:=h (List.take i (List.map V.int R)++List.replicate (l.length-i) z3++List.drop (i+(l.length-i)) (List.map V.int R)) zs (by rw [← e1];simp;omega) (by rw [← e1,List.append_assoc,List.take_append_of_le_length (by simp;omega),List.take_take,Nat.min_self,← List.map_take,e2])
         rw [← e1] at q
         exact q))
def QOO:List (List Nat):=[[2,3],[2,3,6],[2,3,6,11],[4,5],[4,5]]
theorem yj (p:Prg) (s:Stt) (hp:p.Fit) (hs:s.Shape):Ctr Go.Proofs.Tryz.prog tab 31 [26,37] [23,49] [p.v,s.v] [.list ((if ZO p s=0 then YM p s s.count.toNat else []).map V.int),.int (ZO p s)]:=by
 have hpp:=hp
 have hfit:=hp
 have hcode:=p.code_len hp
 have hsl:=p.sels_len hp
 obtain ⟨hp1,hp2,hp3,hp4⟩:=hp
 have hmx:256≤maxLen:=by decide
 refine Ctr.body ok Go.Proofs.Tryz.func31 rfl rfl 17 rfl [.tmp 4,.tmp 5] rfl (by simp [QE]) ?_
 simp only [go_sem,Nat.reduceAdd]
 repeat' first
  | ((with_reducible refine Q2 fun R1 hR1=>?_);(simp only [go_sem,seval,-List.reduceReplicate,Bool.cond_false_right,Bool.cond_true_left]);(repeat' with_reducible refine And.intro ?_ ?_);all_goals first|(refine hR1 _ ?_;clear hR1 R1)|((first|refine cq (cc (Vg p s hpp hs)) ?_|refine ce (cf (QBL s hs) ?_)|refine ⟨_,_,rfl,.inr (QCl p s hpp hr hv (Qi s 6) (fun k hk=>QBc hv hk) hll (xs:=[]) fun RV ys hQ1 hQ2=>?_)⟩);all_goals ((try simp only [go_sem,seval,-List.reduceReplicate,Bool.cond_false_right,Bool.cond_true_left]);(repeat' with_reducible refine And.intro ?_ ?_);all_goals first|(refine hR1 _ ?_;clear hR1 R1)|exact ZQ))|exact ZQ)
  | ((with_reducible refine Q1 ?_);refine hR _ ?_;clear hR R;try simp only [go_sem,QOO,Nat.reduceBEq])
  | (with_reducible first|refine J1 ?_|refine J2 ?_|refine J3 ?_|refine Q0 ?_|refine Qz ?_)
  | ((with_reducible refine QZ 4 ?_)
     have hr:=(YP hb11).1
     have hok:=Prg.ok hr
     have hv:=Vld.of hok hs (YP hb11).2
     have hll:=yF s 6
     (with_reducible refine rg QOO fun R hR=>?_);simp only [go_sem,QC])
  | ((with_reducible refine rg QOO fun R hR=>?_);simp only [go_sem,QC])
  | ((with_reducible refine QH 11 rfl (fun hb11=>?_) fun hb11=>?_);all_goals (try simp [-List.getD_eq_getElem?_getD] at hb11;try (exfalso;omega)))
  | ((with_reducible first|refine ZH ?_|refine ZG ?_)
     simp only [go_sem,QJ,QK,QG,seval]
     first
      | (have q:¬_:=hb11
         refine ⟨⟨rfl,?_⟩,rfl⟩
         rw [if_neg hb11]
         rfl)
      | (rw [hb11]
         refine ⟨⟨rfl,?_,?_⟩,rfl,rfl⟩
         · rw [if_pos rfl,← QDg hv]
           simp [hQ2]
         · intro e h j u lo n c q
           simp at h
           subst h
           cases q))
end Go.Eng.Tryz
namespace Go.Eng.Tryz
open Go.RowKit Go.Eng
set_option maxHeartbeats 0
set_option maxRecDepth 20000
def QOQ:List (List Nat):=[[2,3,4],[2,3,4,8],[2,3,4,8,14],[6,7],[6,7]]
theorem vc (p:Prg) (s:Stt) (g:Int) (hp:p.Fit) (hs:s.Shape):Ctr Go.Proofs.Tryz.prog tab 23 [26,37,3] [60,49] [p.v,s.v,.int g] [.list ((if Z7 p s g=0 then touch p s g else []).map Access.v),.int (Z7 p s g)]:=by
 have hpp:=hp
 have hfit:=hp
 have hcode:=p.code_len hp
 have hsl:=p.sels_len hp
 obtain ⟨hp1,hp2,hp3,hp4⟩:=hp
 refine Ctr.body ok Go.Proofs.Tryz.func23 rfl rfl 20 rfl [.tmp 6,.tmp 7] rfl (by simp [QE]) ?_
 simp only [go_sem,Nat.reduceAdd]
 repeat' first
  | ((with_reducible refine Q2 fun R1 hR1=>?_);(simp only [go_sem,seval,-List.reduceReplicate,Bool.cond_false_right,Bool.cond_true_left]);(repeat' with_reducible refine And.intro ?_ ?_);all_goals first|(refine hR1 _ ?_;clear hR1 R1)|((first|refine cq (cc (yh p s g hpp hs)) ?_|refine ce (cf (Vf p s g hpp hr hv hgc) ?_));all_goals ((try simp only [go_sem,seval,-List.reduceReplicate,Bool.cond_false_right,Bool.cond_true_left]);(repeat' with_reducible refine And.intro ?_ ?_);all_goals first|(refine hR1 _ ?_;clear hR1 R1)|exact ZQ))|exact ZQ)
  | ((with_reducible refine Q1 ?_);refine hR _ ?_;clear hR R;try simp only [go_sem,QOQ,Nat.reduceBEq])
  | (with_reducible first|refine J1 ?_|refine J2 ?_|refine J3 ?_|refine Q0 ?_|refine Qz ?_)
  | ((with_reducible refine QZ 4 ?_)
     have h1:=UW hb14
     have hr:=(YP h1.1).1
     have hok:=Prg.ok hr
     have hv:=Vld.of hok hs (YP h1.1).2
     have hgc:0≤g∧g<s.count:=⟨h1.2.1.1,Zv hv h1.2.1.1 h1.2.1.2 h1.2.2⟩
     have hlv:ZE s g=true:=(WF hgc.1 hgc.2).trans h1.2.2
     (with_reducible refine rg QOQ fun R hR=>?_);simp only [go_sem,QC])
  | ((with_reducible refine rg QOQ fun R hR=>?_);simp only [go_sem,QC])
  | ((with_reducible refine QH 14 rfl (fun hb14=>?_) fun hb14=>?_);all_goals (try simp [-List.getD_eq_getElem?_getD] at hb14;try (exfalso;omega)))
  | ((with_reducible first|refine ZH ?_|refine ZG ?_)
     simp only [go_sem,QJ,QK,QG,seval]
     first
      | (have q:¬_:=hb14
         refine ⟨⟨rfl,?_⟩,rfl⟩
         rw [if_neg hb14]
         rfl)
      | (rw [hb14]
         refine ⟨⟨rfl,?_,?_⟩,rfl,rfl⟩
         · simp [List.take_of_length_le]
         · intro e h j u lo n c q
           simp at h
           subst h
           cases q))
def QHG:List (List Nat):=[[2,3,4],[2,3,4,8],[2,3,4,8,15],[6,7],[2,3,4,22],[6,7],[2,3,4,9],[2,3,4,9,28],[2,3,4,9,28,29],[6,7],[2,3,4,9,28,38],[6,7],[3,4,9,49],[4,9,57],[6,7],[6,7]]
theorem vd (p:Prg) (s:Stt) (g:Int) (hp:p.Fit) (hs:s.Shape):Ctr Go.Proofs.Tryz.prog tab 40 [26,37,3] [23,49] [p.v,s.v,.int g] [.list ((if Z7 p s g=0 then YY p s g else []).map V.int),.int (Z7 p s g)]:=by
 have hpp:=hp
 have hfit:=hp
 have hcode:=p.code_len hp
 have hsl:=p.sels_len hp
 obtain ⟨hp1,hp2,hp3,hp4⟩:=hp
 have hs1:=hs.vars
 have hs2:=hs.owner
 have hs3:=hs.chans
 have hs5:=hs.gos
 have hmx:256≤maxLen:=by decide
 refine Ctr.body ok Go.Proofs.Tryz.func40 rfl rfl 65 rfl [.tmp 6,.tmp 7] rfl (by simp [QE]) ?_
 simp only [go_sem,Nat.reduceAdd]
 repeat' first
  | ((with_reducible refine SARA.told 14 4 ?_)
     rw [ZU (by omega)])
  | ((with_reducible first|refine Q2 fun R1 hR1=>?_|refine qR fun R1 hR1=>?_|refine qQ fun R1 hR1=>?_|refine qP fun R1 hR1=>?_);(simp only [go_sem,seval,-List.reduceReplicate,Bool.cond_false_right,Bool.cond_true_left,VA,qK,zo]);(repeat' with_reducible refine And.intro ?_ ?_);all_goals first|(refine hR1 _ ?_;clear hR1 R1)|((first|refine cq (cc (yh p s g hpp hs)) ?_|refine cq (cc (Xt p s g hpp hr hw hgc)) ?_|refine ce (cf (WA p s g hpp hr hv hgc hlv) ?_));all_goals ((try simp only [go_sem,seval,-List.reduceReplicate,Bool.cond_false_right,Bool.cond_true_left,VA,qK,zo]);(repeat' with_reducible refine And.intro ?_ ?_);all_goals first|(refine hR1 _ ?_;clear hR1 R1)|exact ZQ))|exact ZQ)
  | ((with_reducible first|refine qO ?_|refine Q1 ?_);refine hR _ ?_;clear hR R;try simp only [go_sem,QHG,Nat.reduceBEq])
  | (with_reducible first|refine qN ?_ ?_|exact qM|refine qL ?_ ?_)
  | (with_reducible first|refine J1 ?_|refine J2 ?_|refine J3 ?_|refine J4 ?_|refine J5 ?_|refine J6 ?_|refine J7 ?_|refine J8 (by decide) ?_|refine J9 ?_|refine Q0 ?_|refine Qz ?_|refine YZ ?_)
  | ((with_reducible refine QZ 4 ?_)
     have h1:=UW hb15
     have hr:=(YP h1.1).1
     have hok:=Prg.ok hr
     have hv:=Vld.of hok hs (YP h1.1).2
     have hgc:0≤g∧g<s.count:=⟨h1.2.1.1,Zv hv h1.2.1.1 h1.2.1.2 h1.2.2⟩
     have hlv:ZE s g=true:=(WF hgc.1 hgc.2).trans h1.2.2
     have hw:=hv.wf hok hr
     have hal:=WB hok hw g
     have hsz:=hok.sizes
     unfold Ze at hsz
     have hgi:=hw.gos g (by omega) (by omega)
     have h8:=hgi.regs
     have hrt:QV p (p.funcs.getD (s.gos.getD g.toNat default).func.toNat default) (QA p s g)=0:=hw.right hok hgc.1 hgc.2
     have hrg:=hok.regs (s.gos.getD g.toNat default).func.toNat
     (with_reducible refine rg QHG fun R hR=>?_);simp only [go_sem,QC])
  | ((with_reducible refine QZ 9 ?_)
     have hI:=qY hrt (.inl (hw.op_at hok hgc.1 hgc.2 hb29 (by decide)))
     (with_reducible refine rg QHG fun R hR=>?_);simp only [go_sem,QC])
  | ((with_reducible refine QZ 13 ?_)
     have hI:=VU hrt (hw.op_at hok hgc.1 hgc.2 hb49 (by decide))
     (with_reducible refine rg QHG fun R hR=>?_);simp only [go_sem,QC])
  | ((with_reducible refine QZ 11 ?_)
     have hI:=zc hrt (.inl (hw.op_at hok hgc.1 hgc.2 hb38 (by decide)))
     refine WJ ok QN (.take 0 (.take 1 (.take 2 (.take 3 (.take 4 (.take 5 (.take 6 (.take 7 (.br 8 (.take 9 (.take 10 .done)) .nil))))))))) [] QHG (by kernel_rfl) (fun R hR=>?_);simp only [go_sem,QC])
  | ((with_reducible refine rg QHG fun R hR=>?_);simp only [go_sem,QC])
  | ((with_reducible refine QH 15 rfl (fun hb15=>?_) fun hb15=>?_);all_goals (try simp [-List.getD_eq_getElem?_getD] at hb15;try (exfalso;omega)))
  | ((with_reducible refine QH 22 rfl (fun hb22=>?_) fun hb22=>?_);all_goals (try simp [-List.getD_eq_getElem?_getD] at hb22;try (exfalso;omega)))
  | ((with_reducible refine QH 29 rfl (fun hb29=>?_) fun hb29=>?_);all_goals (try simp [-List.getD_eq_getElem?_getD] at hb29;try (exfalso;omega)))
  | ((with_reducible refine QH 38 rfl (fun hb38=>?_) fun hb38=>?_);all_goals (try simp [-List.getD_eq_getElem?_getD] at hb38;try (exfalso;omega)))
  | ((with_reducible refine QH 49 rfl (fun hb49=>?_) fun hb49=>?_);all_goals (try simp [-List.getD_eq_getElem?_getD] at hb49;try (exfalso;omega)))
  | ((with_reducible refine QH 57 rfl (fun hb57=>?_) fun hb57=>?_);all_goals (try simp [-List.getD_eq_getElem?_getD] at hb57;try (exfalso;omega)))
  | ((with_reducible first|refine ZH ?_|refine ZG ?_)
     simp only [go_sem,QJ,QK,QG,seval]
     first
      | (have q:¬Z7 p s g=0:=hb15
         refine ⟨⟨rfl,?_⟩,rfl⟩
         rw [if_neg hb15]
         rfl)
      | (have q:0<_:=hb22
         have e:YY p s g=[]:=if_pos hb22
         rw [hb15,if_pos rfl,e]
         exact ⟨⟨rfl,rfl⟩,rfl,rfl⟩)
      | (have hl:¬0<(Qj p s g).length:=by rw [hb22];simp
         have q:=hb29
         have hct:=hv.count
         have hov:=(hv.own (QA p s g).a.toNat (by omega)).1
         have e:YY p s g=[s.owner.getD (QA p s g).a.toNat 0-1]:=(if_neg hl).trans (if_pos hb29)
         rw [hb15,if_pos rfl,e]
         refine ⟨⟨rfl,?_,?_⟩,rfl,rfl⟩
         · rw [QU (by omega) (by omega)];rfl
         · intro e h j u lo n c q
           simp at h
           subst h
           cases q)
      | (have hl:¬0<(Qj p s g).length:=by rw [hb22];simp
         have q:=hb38
         have e:YY p s g=[(s.gos.getD g.toNat default).regs.getD (QA p s g).a.toNat 0]:=(if_neg hl).trans ((if_neg hb29).trans (if_pos hb38))
         rw [hb15,if_pos rfl,e]
         refine ⟨⟨rfl,?_,?_⟩,rfl,rfl⟩
         · rfl
         · intro e h j u lo n c q
           simp at h
           subst h
           cases q)
      | (have hl:¬0<(Qj p s g).length:=by rw [hb22];simp
         have q:p.chans.getD (QA p s g).a.toNat 0=0:=hb57
         have e:YY p s g=[(s.chans.getD (QA p s g).a.toNat default).from_]:=(if_neg hl).trans ((if_neg hb29).trans ((if_neg hb38).trans (if_pos ⟨hb49,hb57⟩)))
         rw [hb15,if_pos rfl,e]
         refine ⟨⟨rfl,?_,?_⟩,rfl,rfl⟩
         · rfl
         · intro e h j u lo n c q
           simp at h
           subst h
           cases q)
      | (have hl:¬0<(Qj p s g).length:=by rw [hb22];simp
         have q:¬_:=hb57
         have e:YY p s g=[]:=(if_neg hl).trans ((if_neg hb29).trans ((if_neg hb38).trans (if_neg (fun w=>hb57 w.2))))
         rw [hb15,if_pos rfl,e]
         exact ⟨⟨rfl,rfl⟩,rfl,rfl⟩)
      | (have hl:¬0<(Qj p s g).length:=by rw [hb22];simp
         have q:¬_:=hb49
         have e:YY p s g=[]:=(if_neg hl).trans ((if_neg hb29).trans ((if_neg hb38).trans (if_neg (fun w=>hb49 w.1))))
         rw [hb15,if_pos rfl,e]
         exact ⟨⟨rfl,rfl⟩,rfl,rfl⟩))
end Go.Eng.Tryz
namespace Go.Eng.Tryz
open Go.RowKit Go.Eng
set_option maxHeartbeats 0
set_option maxRecDepth 20000
theorem Ul (p:Prg) (s:Stt) (n:Nat):YM p s (n+1)=YM p s n++if ZE s (n:Int)=true∧(Qj p s (n:Int)).length=0 then [(n:Int)] else []:=by
 unfold YM
 rw [List.range_succ,List.filter_append,List.map_append]
 congr 1
 simp only [List.filter_cons,List.filter_nil]
 by_cases h1:ZE s (n:Int)=true
 · by_cases h2:(Qj p s (n:Int)).length=0
   · rw [h1,decide_eq_true h2];simp [h2]
   · rw [h1,decide_eq_false h2];simp [h2]
 · rw [Bool.not_eq_true] at h1
   rw [h1];simp
theorem xL {p:Prg} {s:Stt} (h1:QP p=true) (h2:Zf p s=true):ZO p s=0:=by
 unfold ZO
 rw [h1,h2]
 decide
end Go.Eng.Tryz
