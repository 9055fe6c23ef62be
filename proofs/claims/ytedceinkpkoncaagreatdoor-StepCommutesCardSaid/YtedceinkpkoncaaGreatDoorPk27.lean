/- A part of the proof: walks through the program's functions, and what they compute. -/
import Derived.Test.YtedceinkpkoncaaGreatDoorPk26
import Derived.Test.YtedceinkpkoncaaGreatDoorPk16
import Derived.Test.YtedceinkpkoncaaGreatDoorPk24
set_option linter.unusedSimpArgs false
set_option linter.unusedVariables false
namespace Go.Eng.Tryz
open Go.RowKit Go.Eng
set_option maxHeartbeats 0
set_option maxRecDepth 20000
def del (p:Prg) (s:Stt) (g:Int):Bool:=decide (0<(alts p s g).length)
theorem stuck_all {p:Prg} {s:Stt} {l:List Int} (h:∀ k,k<l.length→del p s (l.getD k 0)=false):stuckL p s l=l:=by
 unfold stuckL
 rw [List.filter_eq_self]
 intro a ha
 obtain ⟨k,hk,rfl⟩:=List.mem_iff_getElem.1 ha
 have:=h k hk
 unfold del at this
 rw [List.getD_eq_getElem?_getD,List.getElem?_eq_getElem hk,Option.getD_some] at this
 rw [this];rfl
theorem stuck_snoc (p:Prg) (s:Stt) (l:List Int) (g:Int):stuckL p s (l++[g])=stuckL p s l++if del p s g=true then [] else [g]:=by
 unfold stuckL
 rw [List.filter_append]
 congr 1
 unfold del
 by_cases h:0<(alts p s g).length
 · rw [decide_eq_true h];simp [h]
 · rw [decide_eq_false h];simp [h]
structure DInv (p:Prg) (s:Stt) (l:List Int) (i j:Nat) (R:List Int):Prop where
 lt:i<j
 len:R.length=l.length
 num:i=(stuckL p s (l.take j)).length
 tk:R.take i=stuckL p s (l.take j)
 dr:R.drop j=l.drop j
theorem DInv.at_ {p:Prg} {s:Stt} {l R:List Int} {i j:Nat} (h:DInv p s l i j R) (hj:j<l.length):R.getD j 0=l.getD j 0:=by
 have:=congrArg (fun m:List Int=>m.getD 0 0) h.dr
 simpa [List.getD_eq_getElem?_getD] using this
theorem DInv.first {p:Prg} {s:Stt} {l:List Int} {i:Nat} (hi:i<l.length) (hp:∀ k,k<i→del p s (l.getD k 0)=false) (hd:del p s (l.getD i 0)=true):DInv p s l i (i+1) l:=by
 have e:stuckL p s (l.take i)=l.take i:=stuck_all fun k hk=>by
  rw [List.length_take] at hk
  have:=hp k (by omega)
  rw [List.getD_eq_getElem?_getD,List.getElem?_take_of_lt (by omega),← List.getD_eq_getElem?_getD]
  exact this
 have e2:stuckL p s (l.take (i+1))=l.take i:=by rw [take_getD hi,stuck_snoc,e,if_pos hd,List.append_nil]
 exact ⟨by omega,rfl,by rw [e2,List.length_take];omega,by rw [e2],rfl⟩
theorem DInv.drop {p:Prg} {s:Stt} {l R:List Int} {i j:Nat} (h:DInv p s l i j R) (hj:j<l.length) (hd:del p s (R.getD j 0)=true):DInv p s l i (j+1) R:=by
 rw [h.at_ hj] at hd
 have e2:stuckL p s (l.take (j+1))=stuckL p s (l.take j):=by rw [take_getD hj,stuck_snoc,if_pos hd,List.append_nil]
 have:=h.lt
 refine ⟨by omega,h.len,by rw [e2];exact h.num,by rw [e2];exact h.tk,?_⟩
 rw [← List.drop_drop,h.dr,List.drop_drop]
theorem DInv.keep {p:Prg} {s:Stt} {l R:List Int} {i j:Nat} (h:DInv p s l i j R) (hj:j<l.length) (hd:del p s (R.getD j 0)=false):DInv p s l (i+1) (j+1) (R.set i (R.getD j 0)):=by
 rw [h.at_ hj] at hd ⊢
 have e2:stuckL p s (l.take (j+1))=stuckL p s (l.take j)++[l.getD j 0]:=by rw [take_getD hj,stuck_snoc,if_neg (by rw [hd];simp)]
 have hl:=h.lt
 have hn:=h.len
 refine ⟨by omega,by rw [List.length_set];exact h.len,by rw [e2,List.length_append,← h.num];rfl,?_,?_⟩
 · rw [e2,take_getD (by rw [List.length_set];omega),List.take_set_of_le (by omega),h.tk]
   congr 1
   rw [List.getD_eq_getElem?_getD,List.getElem?_set_self (by omega)];rfl
 · rw [List.drop_set_of_lt (by omega),← List.drop_drop,h.dr,List.drop_drop]
def lv79:List (Nat × List Nat):=[(0,[0,1,2]),(1,[4])]
theorem wait1_call (p:Prg) (s:Stt) (hp:p.Fit) (hr:rightP p=true) (hv:Vld p s) (k:Int) (hg:(0≤k∧k<s.count)∧isLive s k=true) {tm:Tm} {out:List Tm} {nt:Nat} {xs:List Obj} {K:St→E→Prop} (h:∀ ys,K { tm:=tm,ob:=.var 26 (.data 26 p.v)::.var 37 (.data 37 s.v)::(xs++ys),out:=out,nt:=nt } (.bool (del p s k))):CallE Go.Proofs.Tryz.prog tab { tm:=tm,ob:=.var 26 (.data 26 p.v)::.var 37 (.data 37 s.v)::xs,out:=out,nt:=nt } 79 [.int .i64 k,.ptr 0 [] 26,.ptr 1 [] 37] K:=by
 have hal:=pAlts_short (Prg.ok hr) (hv.wf (Prg.ok hr) hr) k
 have hmx:256≤maxLen:=by decide
 refine CallE.body ok Go.Proofs.Tryz.func79 rfl rfl 11 rfl [.tmp 4] rfl (by simp) ?_
 simp only [enter,args0,Nat.zero_add,Nat.reduceAdd]
 repeat' first
  | ((with_reducible refine SARA.do fun R1 hR1=>?_);(simp only [go_sem,seval,-List.reduceReplicate,Bool.cond_false_right,Bool.cond_true_left]);(repeat' with_reducible refine And.intro ?_ ?_);all_goals first|(refine hR1 _ ?_;clear hR1 R1)|((first|refine ce (cf (palts_ctr p s k hp hr hv hg.1 hg.2) ?_));all_goals ((try simp only [go_sem,seval,-List.reduceReplicate,Bool.cond_false_right,Bool.cond_true_left]);(repeat' with_reducible refine And.intro ?_ ?_);all_goals first|(refine hR1 _ ?_;clear hR1 R1)|omega|rfl|decide|assumption|(intro _;omega)|(simp;done)|(simp [-List.getD_eq_getElem?_getD];omega)|exact hcode _|(intro _;exact hcode _)|exact hsl _|(intro _;exact hsl _)))|omega|rfl|decide|assumption|(intro _;omega)|(simp;done)|(simp [-List.getD_eq_getElem?_getD];omega)|exact hcode _|(intro _;exact hcode _)|exact hsl _|(intro _;exact hsl _))
  | ((with_reducible refine SARA.nil ?_);refine hR _ ?_;clear hR R;try simp only [go_sem,lv79,lvOf,Nat.reduceBEq,Option.getD_some])
  | (with_reducible first|refine J1 ?_|refine J2 ?_|refine J3 ?_|refine J4 ?_|refine J5 ?_|refine J6 ?_|refine J7 ?_|refine J8 (by decide) ?_|refine J9 ?_|refine J10 ?_|refine J11 ?_|refine J12 ?_|refine J13 ?_|refine J14 ?_|refine J15 ?_|refine J16 ?_|refine J17 ?_|refine J18 ?_|refine J19 ?_)
  | ((with_reducible refine J21 ok (by kernel_rfl) lv79 ?_);intro R hR;simp only [go_sem,strip])
  | ((with_reducible first|refine bodyK.normal ?_|refine bodyK.ret ?_)
     simp only [go_sem,resA,resV,backK,seval]
     have q:=h [Obj.row 3 (List.map V.int (alts p s k))]
     have e:(decide (0<((alts p s k).length:Int)))=del p s k:=by unfold del;simp
     rw [e]
     exact q)
def lv134:List (Nat × List Nat):=[(0,[0,1]),(1,[0,1,7,8]),(2,[0,1,7,8,9]),(3,[0,1,5,7,8]),(4,[0,1,5,7,8,16]),(5,[4]),(6,[0,1,7,8]),(7,[4])]
theorem pindex_call (p:Prg) (s:Stt) (hp:p.Fit) (hr:rightP p=true) (hv:Vld p s) (l:List Int) (hl:∀ k,k<l.length→(0≤l.getD k 0∧l.getD k 0<s.count)∧isLive s (l.getD k 0)=true) (hn:l.length≤6) {tm:Tm} {out:List Tm} {nt:Nat} {xs:List Obj} {K:St→E→Prop} (h1:∀ (i:Nat) ys,i<l.length→(∀ k,k<i→del p s (l.getD k 0)=false)→del p s (l.getD i 0)=true→K { tm:=tm,ob:=.var 26 (.data 26 p.v)::.var 37 (.data 37 s.v)::.row 3 (l.map V.int)::(xs++ys),out:=out,nt:=nt } (.int .i64 i)) (h2:∀ ys,(∀ k,k<l.length→del p s (l.getD k 0)=false)→K { tm:=tm,ob:=.var 26 (.data 26 p.v)::.var 37 (.data 37 s.v)::.row 3 (l.map V.int)::(xs++ys),out:=out,nt:=nt } (.int .i64 (-1))):CallE Go.Proofs.Tryz.prog tab { tm:=tm,ob:=.var 26 (.data 26 p.v)::.var 37 (.data 37 s.v)::.row 3 (l.map V.int)::xs,out:=out,nt:=nt } 134 [.sl 2 3 0 l.length false,.fn 79 [.ptr 0 [] 26,.ptr 1 [] 37]] K:=by
 have hmx:256≤maxLen:=by decide
 refine CallE.body ok Go.Proofs.Tryz.func134 rfl rfl 19 rfl [.tmp 4] rfl (by simp) ?_
 simp only [enter,args0,Nat.zero_add,Nat.reduceAdd]
 repeat' first
  | ((with_reducible refine SARA.do fun R1 hR1=>?_);(simp only [go_sem,seval,-List.reduceReplicate,Bool.cond_false_right,Bool.cond_true_left]);(repeat' with_reducible refine And.intro ?_ ?_);all_goals first|(refine hR1 _ ?_;clear hR1 R1)|((first|refine ⟨_,_,rfl,.inr (wait1_call p s hp hr hv _ (hl i hlt) (xs:=_::_) fun ys=>?_)⟩);all_goals ((try simp only [go_sem,seval,-List.reduceReplicate,Bool.cond_false_right,Bool.cond_true_left]);(repeat' with_reducible refine And.intro ?_ ?_);all_goals first|(refine hR1 _ ?_;clear hR1 R1)|omega|rfl|decide|assumption|(intro _;omega)|(simp;done)|(simp [-List.getD_eq_getElem?_getD];omega)|exact hcode _|(intro _;exact hcode _)|exact hsl _|(intro _;exact hsl _)))|omega|rfl|decide|assumption|(intro _;omega)|(simp;done)|(simp [-List.getD_eq_getElem?_getD];omega)|exact hcode _|(intro _;exact hcode _)|exact hsl _|(intro _;exact hsl _))
  | ((with_reducible refine SARA.nil ?_);refine hR _ ?_;clear hR R;try simp only [go_sem,lv134,lvOf,Nat.reduceBEq,Option.getD_some])
  | (with_reducible first|refine J1 ?_|refine J2 ?_|refine J3 ?_|refine J4 ?_|refine J5 ?_|refine J6 ?_|refine J7 ?_|refine J8 (by decide) ?_|refine J9 ?_|refine J10 ?_|refine J11 ?_|refine J12 ?_|refine J13 ?_|refine J14 ?_|refine J15 ?_|refine J16 ?_|refine J17 ?_|refine J18 ?_|refine J19 ?_)
  | ((with_reducible refine SA.at 4 ?_)
     have hlt:i<l.length:=by omega
     (with_reducible refine J21 ok (by kernel_rfl) lv134 ?_);intro R hR;simp only [go_sem,strip])
  | ((with_reducible refine J21 ok (by kernel_rfl) lv134 ?_);intro R hR;simp only [go_sem,strip])
  | ((with_reducible refine J20 16 rfl (fun hb16=>?_) (fun hb16=>?_))
     all_goals
      try simp [-List.getD_eq_getElem?_getD] at hb16
      try (exfalso;omega))
  | ((with_reducible refine SA.cond rfl ?_ ?_)
     all_goals
      intro hb
      try simp [-List.getD_eq_getElem?_getD] at hb
      try (exfalso;omega))
  | ((with_reducible refine SA.atLoop ?_)
     refine SA.weaken (St.le.of_eq (by first|(simp;done)|fail)) (SA.loop (fun n τ=>∃ (i:Nat) (zs:List Obj),n=l.length-i∧(i≤l.length∧∀ k,k<i→del p s (l.getD k 0)=false)∧τ={ tm:=[(0,true,.sl 2 3 0 l.length false),(1,true,.fn 79 [.ptr 0 [] 26,.ptr 1 [] 37]),(7,true,.int .i64 l.length),(8,true,.int .i64 i)],ob:=.var 26 (.data 26 p.v)::.var 37 (.data 37 s.v)::.row 3 (l.map V.int)::(xs++zs),out:=tm::out,nt:=19 }) (l.length) ⟨0,[],rfl,⟨by omega,fun k h=>by omega⟩,rfl⟩ ?_)
     rintro n τ ⟨i,zs,hn,⟨hi,hz⟩,rfl⟩)
  | ((with_reducible refine loopK.round ?_)
     first
      | (have q:_=false:=hb16
         have hlt:i<l.length:=by omega
         have hw:=wrap_succ (n:=i) (m:=256) (by omega) (by decide)
         refine loopK.normal (l.length-(i+1)) _ (by omega) (St.le.of_eq (by simp only [hw,List.append_assoc])) ⟨i+1,zs++ys,rfl,⟨hlt,fun k h=>?_⟩,rfl⟩
         by_cases h2:k<i
         · exact hz k h2
         · rw [show k=i by omega];exact q))
  | ((with_reducible first|refine bodyK.normal ?_|refine bodyK.ret ?_)
     simp only [go_sem,resA,resV,backK,seval]
     first
      | (have q:_=true:=hb16
         rw [List.append_assoc]
         exact h1 i _ (by omega) hz hb16)
      | (have hi':i=l.length:=by omega
         subst hi'
         exact h2 _ hz))
def lv78:List (Nat × List Nat):=[(0,[0,1]),(1,[0,1,5]),(2,[0,1,5,12]),(3,[4]),(4,[0,1,5,6]),(5,[0,1,5,6,19]),(6,[0,1,5,6]),(7,[0,1,5,6,7]),(8,[0,1,5,6,7,29]),(9,[0,1,5,6]),(10,[0,1,5,6]),(11,[0,5]),(12,[4])]
theorem pdelete_call (p:Prg) (s:Stt) (hp:p.Fit) (hr:rightP p=true) (hv:Vld p s) (l:List Int) (hl:∀ k,k<l.length→(0≤l.getD k 0∧l.getD k 0<s.count)∧isLive s (l.getD k 0)=true) (hn:l.length≤6) {tm:Tm} {out:List Tm} {nt:Nat} {xs:List Obj} {K:St→E→Prop} (h:∀ (R:List V) ys,(stuckL p s l).length≤R.length→R.take (stuckL p s l).length=(stuckL p s l).map V.int→K { tm:=tm,ob:=.var 26 (.data 26 p.v)::.var 37 (.data 37 s.v)::.row 3 R::(xs++ys),out:=out,nt:=nt } (.sl 2 3 0 (stuckL p s l).length false)):CallE Go.Proofs.Tryz.prog tab { tm:=tm,ob:=.var 26 (.data 26 p.v)::.var 37 (.data 37 s.v)::.row 3 (l.map V.int)::xs,out:=out,nt:=nt } 78 [.sl 2 3 0 l.length false,.fn 79 [.ptr 0 [] 26,.ptr 1 [] 37]] K:=by
 have hmx:256≤maxLen:=by decide
 refine CallE.body ok Go.Proofs.Tryz.func78 rfl rfl 42 rfl [.tmp 4] rfl (by simp) ?_
 simp only [enter,args0,Nat.zero_add,Nat.reduceAdd]
 repeat' first
  | ((with_reducible refine SARA.do fun R1 hR1=>?_);(simp only [go_sem,seval,-List.reduceReplicate,Bool.cond_false_right,Bool.cond_true_left,clearA,zero3,List.getElem?_cons_succ,List.getElem?_cons_zero,List.set_cons_succ,List.set_cons_zero]);(repeat' with_reducible refine And.intro ?_ ?_);all_goals first|(refine hR1 _ ?_;clear hR1 R1)|((first|refine ⟨_,_,rfl,.inr (wait1_call p s hp hr hv _ (by rw [hRj];exact hl j hlt) (xs:=_::_) fun ys=>?_)⟩|refine ⟨_,_,rfl,.inr (pindex_call p s hp hr hv l hl hn (fun i0 ys0 hi0 hp0 hd0=>?_) (fun ys0 hp0=>?_))⟩);all_goals ((try simp only [go_sem,seval,-List.reduceReplicate,Bool.cond_false_right,Bool.cond_true_left,clearA,zero3,List.getElem?_cons_succ,List.getElem?_cons_zero,List.set_cons_succ,List.set_cons_zero]);(repeat' with_reducible refine And.intro ?_ ?_);all_goals first|(refine hR1 _ ?_;clear hR1 R1)|omega|rfl|decide|assumption|(intro _;omega)|(simp;done)|(simp [-List.getD_eq_getElem?_getD];omega)|exact hcode _|(intro _;exact hcode _)|exact hsl _|(intro _;exact hsl _)))|omega|rfl|decide|assumption|(intro _;omega)|(simp;done)|(simp [-List.getD_eq_getElem?_getD];omega)|exact hcode _|(intro _;exact hcode _)|exact hsl _|(intro _;exact hsl _))
  | ((with_reducible refine SARA.nil ?_);refine hR _ ?_;clear hR R;try simp only [go_sem,lv78,lvOf,Nat.reduceBEq,Option.getD_some])
  | (with_reducible first|refine J1 ?_|refine J2 ?_|refine J3 ?_|refine J4 ?_|refine J5 ?_|refine J6 ?_|refine J7 ?_|refine J8 (by decide) ?_|refine J9 ?_|refine J10 ?_|refine J11 ?_|refine J12 ?_|refine J13 ?_|refine J14 ?_|refine J15 ?_|refine J16 ?_|refine J17 ?_|refine J18 ?_|refine J19 ?_)
  | ((with_reducible refine SA.at 7 ?_)
     have hlt:j<l.length:=by omega
     have hRj:=hI.at_ hlt
     have hIl:=hI.len
     have hIj:=hI.lt
     (with_reducible refine J21 ok (by kernel_rfl) lv78 ?_);intro R hR;simp only [go_sem,strip])
  | ((with_reducible refine SA.at 11 ?_)
     have hIl:=hI.len
     have hIj:=hI.lt
     (with_reducible refine J21 ok (by kernel_rfl) lv78 ?_);intro R hR;simp only [go_sem,strip])
  | ((with_reducible refine J21 ok (by kernel_rfl) lv78 ?_);intro R hR;simp only [go_sem,strip])
  | ((with_reducible refine J20 12 rfl (fun hb12=>?_) (fun hb12=>?_))
     all_goals
      try simp [-List.getD_eq_getElem?_getD] at hb12
      try (exfalso;omega))
  | ((with_reducible refine J20 29 rfl (fun hb29=>?_) (fun hb29=>?_))
     all_goals
      try simp [-List.getD_eq_getElem?_getD] at hb29
      try (exfalso;omega))
  | ((with_reducible refine SA.cond rfl ?_ ?_)
     all_goals
      intro hb
      try simp [-List.getD_eq_getElem?_getD] at hb
      try (exfalso;omega))
  | ((with_reducible refine SA.atLoop ?_)
     refine SA.weaken (St.le.of_eq (by first|(simp only [wrap_succ (n:=i0) (m:=256) (by omega) (by decide)];done)|(simp only [wrap_succ (n:=i0) (m:=256) (by omega) (by decide)];rfl))) (SA.loop (fun n τ=>∃ (i:Nat) (j:Nat) (R:List Int) (zs:List Obj),n=l.length-j∧(j≤l.length∧DInv p s l i j R)∧τ={ tm:=[(0,true,.sl 2 3 0 l.length false),(1,true,.fn 79 [.ptr 0 [] 26,.ptr 1 [] 37]),(5,true,.int .i64 i),(6,true,.int .i64 j)],ob:=.var 26 (.data 26 p.v)::.var 37 (.data 37 s.v)::.row 3 (R.map V.int)::(xs++zs),out:=tm::out,nt:=42 }) (l.length-(i0+1)) ⟨i0,i0+1,l,ys0,rfl,⟨by omega,DInv.first hi0 hp0 hd0⟩,rfl⟩ ?_)
     rintro n τ ⟨i,j,R,zs,hn,⟨hj,hI⟩,rfl⟩)
  | ((with_reducible refine loopK.round ?_)
     first
      | (have q:_=false:=hb29
         have hw1:=wrap_succ (n:=i) (m:=256) (by omega) (by decide)
         have hw2:=wrap_succ (n:=j) (m:=256) (by omega) (by decide)
         refine loopK.normal (l.length-(j+1)) _ (by omega) (St.le.of_eq (by simp only [hw1,hw2,List.append_assoc])) ⟨i+1,j+1,R.set i (R.getD j 0),zs++ys,rfl,⟨hlt,hI.keep hlt hb29⟩,rfl⟩)
      | (have q:_=true:=hb29
         have hw2:=wrap_succ (n:=j) (m:=256) (by omega) (by decide)
         refine loopK.normal (l.length-(j+1)) _ (by omega) (St.le.of_eq (by simp only [hw2,List.append_assoc])) ⟨i,j+1,R,zs++ys,rfl,⟨hlt,hI.drop hlt hb29⟩,rfl⟩))
  | ((with_reducible first|refine bodyK.normal ?_|refine bodyK.ret ?_)
     simp only [go_sem,resA,resV,backK,seval]
     first
      | (have e:stuckL p s l=l:=stuck_all hp0
         have q:=h (l.map V.int) ys0 (by rw [e];simp) (by rw [e];simp [List.take_of_length_le])
         rw [e] at q
         exact q)
      | (have hj':j=l.length:=by omega
         subst hj'
         have e1:=hI.num
         have e2:=hI.tk
         rw [List.take_length] at e1 e2
         have e3:i≤R.length:=by omega
         have q:=h (List.take i (List.map V.int R)++List.replicate (l.length-i) z3++List.drop (i+(l.length-i)) (List.map V.int R)) zs (by rw [← e1];simp;omega) (by rw [← e1,List.append_assoc,List.take_append_of_le_length (by simp;omega),List.take_take,Nat.min_self,← List.map_take,e2])
         rw [← e1] at q
         exact q))
def lv31:List (Nat × List Nat):=[(0,[2,3]),(1,[2,3,6]),(2,[2,3,6,11]),(3,[4,5]),(4,[4,5])]
theorem pWaiting_ctr (p:Prg) (s:Stt) (hp:p.Fit) (hs:s.Shape):Ctr Go.Proofs.Tryz.prog tab 31 [26,37] [23,49] [p.v,s.v] [.list ((if askErr p s=0 then waitsTo p s s.count.toNat else []).map V.int),.int (askErr p s)]:=by
 have hpp:=hp
 have hfit:=hp
 have hcode:=p.code_len hp
 have hsl:=p.sels_len hp
 obtain ⟨hp1,hp2,hp3,hp4⟩:=hp
 have hmx:256≤maxLen:=by decide
 refine Ctr.body ok Go.Proofs.Tryz.func31 rfl rfl 17 rfl [.tmp 4,.tmp 5] rfl (by simp [fromVs]) ?_
 simp only [fromVs,fromV,args0,V.toList_list,V.toInt_int,V.toBool_bool,Nat.zero_add,Nat.reduceAdd,ty26,ty37]
 repeat' first
  | ((with_reducible refine SARA.do fun R1 hR1=>?_);(simp only [go_sem,seval,-List.reduceReplicate,Bool.cond_false_right,Bool.cond_true_left]);(repeat' with_reducible refine And.intro ?_ ?_);all_goals first|(refine hR1 _ ?_;clear hR1 R1)|((first|refine cq (cc (pasked_ctr p s hpp hs)) ?_|refine ce (cf (plive_ctr s hs) ?_)|refine ⟨_,_,rfl,.inr (pdelete_call p s hpp hr hv (liveTo s 6) (fun k hk=>liveTo_at hv hk) hll (xs:=[]) fun RV ys hQ1 hQ2=>?_)⟩);all_goals ((try simp only [go_sem,seval,-List.reduceReplicate,Bool.cond_false_right,Bool.cond_true_left]);(repeat' with_reducible refine And.intro ?_ ?_);all_goals first|(refine hR1 _ ?_;clear hR1 R1)|omega|rfl|decide|assumption|(intro _;omega)|(simp;done)|(simp [-List.getD_eq_getElem?_getD];omega)|exact hcode _|(intro _;exact hcode _)|exact hsl _|(intro _;exact hsl _)))|omega|rfl|decide|assumption|(intro _;omega)|(simp;done)|(simp [-List.getD_eq_getElem?_getD];omega)|exact hcode _|(intro _;exact hcode _)|exact hsl _|(intro _;exact hsl _))
  | ((with_reducible refine SARA.nil ?_);refine hR _ ?_;clear hR R;try simp only [go_sem,lv31,lvOf,Nat.reduceBEq,Option.getD_some])
  | (with_reducible first|refine J1 ?_|refine J2 ?_|refine J3 ?_|refine J4 ?_|refine J5 ?_|refine J6 ?_|refine J7 ?_|refine J8 (by decide) ?_|refine J9 ?_|refine J10 ?_|refine J11 ?_|refine J12 ?_|refine J13 ?_|refine J14 ?_|refine J15 ?_|refine J16 ?_|refine J17 ?_|refine J18 ?_|refine J19 ?_)
  | ((with_reducible refine SA.at 4 ?_)
     have hr:=(ask_zero hb11).1
     have hok:=Prg.ok hr
     have hv:=Vld.of hok hs (ask_zero hb11).2
     have hll:=liveTo_len s 6
     (with_reducible refine J21 ok (by kernel_rfl) lv31 ?_);intro R hR;simp only [go_sem,strip])
  | ((with_reducible refine J21 ok (by kernel_rfl) lv31 ?_);intro R hR;simp only [go_sem,strip])
  | ((with_reducible refine J20 11 rfl (fun hb11=>?_) (fun hb11=>?_))
     all_goals
      try simp [-List.getD_eq_getElem?_getD] at hb11
      try (exfalso;omega))
  | ((with_reducible first|refine ctrK.normal ?_|refine ctrK.ret ?_)
     simp only [go_sem,resA,resV,backK,seval]
     first
      | (have q:¬_:=hb11
         refine ⟨⟨rfl,?_⟩,rfl⟩
         rw [if_neg hb11]
         rfl)
      | (rw [hb11]
         refine ⟨⟨rfl,?_,?_⟩,rfl,rfl⟩
         · rw [if_pos rfl,← stuckL_live hv]
           simp [hQ2]
         · intro e h j u lo n c q
           simp at h
           subst h
           cases q))
end Go.Eng.Tryz
namespace Go.Eng
theorem add_len (k n:Int) (w:Bool):∀ l:List Access,(add k n w l).length≤l.length+1
 | []=>by simp [add]
 | x::l=>by
   unfold add
   split
   · simp
   · split
     · simp
     · have:=add_len k n w l
       simp only [List.length_cons];omega
theorem Access.put2 (x:Access) (b:Bool):V.setSub x.v 2 (.bool b)=Access.v ⟨x.kind,x.num,b⟩:=rfl
theorem Event.put6 (e:Event) (x:Int):V.setSub e.v 6 (.int x)=Event.v ⟨e.go,e.func,e.pc,e.op,e.alt,e.val,x,e.touch,e.touches⟩:=rfl
theorem Event.put7 (e:Event) (x:List Access):V.setSub e.v 7 (.agg (x.map Access.v))=Event.v ⟨e.go,e.func,e.pc,e.op,e.alt,e.val,e.tag,x,e.touches⟩:=rfl
theorem Event.put8 (e:Event) (x:Int):V.setSub e.v 8 (.int x)=Event.v ⟨e.go,e.func,e.pc,e.op,e.alt,e.val,e.tag,e.touch,x⟩:=rfl
theorem Event.put0 (e:Event) (x:Int):V.setSub e.v 0 (.int x)=Event.v ⟨x,e.func,e.pc,e.op,e.alt,e.val,e.tag,e.touch,e.touches⟩:=rfl
theorem Event.put1 (e:Event) (x:Int):V.setSub e.v 1 (.int x)=Event.v ⟨e.go,x,e.pc,e.op,e.alt,e.val,e.tag,e.touch,e.touches⟩:=rfl
theorem Event.put2 (e:Event) (x:Int):V.setSub e.v 2 (.int x)=Event.v ⟨e.go,e.func,x,e.op,e.alt,e.val,e.tag,e.touch,e.touches⟩:=rfl
theorem Event.put3 (e:Event) (x:Int):V.setSub e.v 3 (.int x)=Event.v ⟨e.go,e.func,e.pc,x,e.alt,e.val,e.tag,e.touch,e.touches⟩:=rfl
theorem Event.put4 (e:Event) (x:Int):V.setSub e.v 4 (.int x)=Event.v ⟨e.go,e.func,e.pc,e.op,x,e.val,e.tag,e.touch,e.touches⟩:=rfl
theorem Event.put5 (e:Event) (x:Int):V.setSub e.v 5 (.int x)=Event.v ⟨e.go,e.func,e.pc,e.op,e.alt,x,e.tag,e.touch,e.touches⟩:=rfl
theorem Event.at3 (e:Event) (d:V):e.v.toList.getD 3 d=.int e.op:=rfl
theorem set_accs (l:List Access) (i:Nat) (x:Access):(l.map Access.v).set i x.v=(l.set i x).map Access.v:=(List.map_set ..).symm
attribute [go_sem] Access.put2 Event.put0 Event.put1 Event.put2 Event.put3 Event.put4 Event.put5 Event.put6 Event.put7 Event.put8 Event.at3 set_accs
end Go.Eng
namespace Go.Eng
def alt' (a b:Access):Prop:=a.kind<b.kind∨a.kind=b.kind∧a.num<b.num
theorem alt'_cmp {a b:Access} (h:alt' a b):cmp a b<0:=by
 unfold alt' at h
 unfold cmp
 rw [if_pos (by omega)];decide
theorem add_keys (k n:Int) (w:Bool):∀ {l:List Access} {y:Access},y∈add k n w l→(∃ x∈l,x.kind=y.kind∧x.num=y.num)∨(y.kind=k∧y.num=n)
 | [],y,h=>by
   simp only [add,List.mem_cons,List.not_mem_nil,or_false] at h
   subst h;exact .inr ⟨rfl,rfl⟩
 | x::l,y,h=>by
   unfold add at h
   split at h
   · rcases List.mem_cons.1 h with rfl|h
     · exact .inl ⟨x,by simp,rfl,rfl⟩
     · exact .inl ⟨y,by simp [h],rfl,rfl⟩
   · split at h
     · rcases List.mem_cons.1 h with rfl|h
       · exact .inr ⟨rfl,rfl⟩
       · exact .inl ⟨y,h,rfl,rfl⟩
     · rcases List.mem_cons.1 h with rfl|h
       · exact .inl ⟨y,by simp,rfl,rfl⟩
       · rcases add_keys k n w h with ⟨x',hx,e⟩|e
         · exact .inl ⟨x',by simp [hx],e⟩
         · exact .inr e
theorem add_sorted (k n:Int) (w:Bool):∀ {l:List Access},l.Pairwise alt'→(add k n w l).Pairwise alt'
 | [],_=>by simp [add]
 | x::l,h=>by
   obtain ⟨h1,h2⟩:=List.pairwise_cons.1 h
   unfold add
   split
   · exact List.pairwise_cons.2 ⟨fun y hy=>by have:=h1 y hy;unfold alt' at this ⊢;exact this,h2⟩
   · rename_i hne
     split
     · rename_i hlt
       refine List.pairwise_cons.2 ⟨fun y hy=>?_,h⟩
       rcases List.mem_cons.1 hy with rfl|hy
       · unfold alt';simp only;omega
       · have:=h1 y hy;unfold alt' at this ⊢;simp only;omega
     · rename_i hnl
       refine List.pairwise_cons.2 ⟨fun y hy=>?_,add_sorted k n w h2⟩
       rcases add_keys k n w hy with ⟨x',hx,e1,e2⟩|⟨e1,e2⟩
       · have:=h1 x' hx;unfold alt' at this ⊢;omega
       · unfold alt';omega
theorem add_own (k n:Int) (w:Bool) {g:Int}:∀ {l:List Access},(⟨5,g,true⟩:Access)∈l→(⟨5,g,true⟩:Access)∈add k n w l
 | [],h=>by simp at h
 | x::l,h=>by
   unfold add
   split
   · rcases List.mem_cons.1 h with h|h
     · rw [← h];simp
     · simp [h]
   · split
     · simp only [List.mem_cons] at h ⊢;exact .inr h
     · rcases List.mem_cons.1 h with h|h
       · rw [← h];simp
       · exact List.mem_cons.2 (.inr (add_own k n w h))
structure TouchP (g:Int) (l:List Access):Prop where
 sorted:l.Pairwise alt'
 num:∀ a∈l,0≤a.num∧a.num<most a.kind
 own:(⟨5,g,true⟩:Access)∈l
theorem TouchP.add {g:Int} {l:List Access} (h:TouchP g l) {k n:Int} (hn:0≤n∧n<most k) (w:Bool):TouchP g (add k n w l) :=
 ⟨add_sorted k n w h.sorted,fun a ha=>by
   rcases add_keys k n w ha with ⟨x,hx,e1,e2⟩|⟨e1,e2⟩
   · rw [← e1,← e2];exact h.num x hx
   · rw [e1,e2];exact hn,add_own k n w h.own⟩
theorem TouchP.base {g:Int} (hg:0≤g∧g<6):TouchP g [⟨5,g,true⟩]:=⟨by simp,by intro a ha;simp at ha;subst ha;exact hg,by simp⟩
theorem TouchP.chans {g:Int} (q:Sel):∀ (n:Nat) {l:List Access},TouchP g l→(∀ i,i<q.cases.length→0≤(q.cases.getD i default).chan∧(q.cases.getD i default).chan<4)→TouchP g (addChans q n l)
 | 0,l,h,_=>by simpa [addChans] using h
 | n+1,l,h,hc=>by
   by_cases hn:n<q.cases.length
   · unfold addChans
     rw [List.take_succ_eq_append_getElem hn,List.foldl_append]
     have:=hc n hn
     rw [List.getD_eq_getElem?_getD,List.getElem?_eq_getElem hn] at this
     exact (TouchP.chans q n h hc).add (k:=3) this true
   · have:=TouchP.chans q n h hc
     unfold addChans at this ⊢
     rw [List.take_of_length_le (by omega)] at this ⊢
     exact this
theorem addChans_long (q:Sel) (l:List Access):∀ j:Nat,(addChans q j l).length≤l.length+j
 | 0=>by simp [addChans]
 | j+1=>by
   by_cases h:j<q.cases.length
   · unfold addChans
     rw [List.take_succ_eq_append_getElem h,List.foldl_append]
     have h1:=add_len 3 q.cases[j].chan true (addChans q j l)
     have h2:=addChans_long q l j
     show (add 3 q.cases[j].chan true (addChans q j l)).length≤_
     omega
   · have e:addChans q (j+1) l=addChans q j l:=by unfold addChans;rw [List.take_of_length_le (by omega),List.take_of_length_le (by omega)]
     rw [e]
     have:=addChans_long q l j
     omega
theorem ite_tp {g:Int} {c:Prop} [Decidable c] {a b:List Access} (h1:c→TouchP g a∧1≤a.length∧a.length≤6) (h2:¬c→TouchP g b∧1≤b.length∧b.length≤6):TouchP g (if c then a else b)∧1≤(if c then a else b).length∧(if c then a else b).length≤6:=by
 by_cases h:c
 · rw [if_pos h];exact h1 h
 · rw [if_neg h];exact h2 h
theorem touch_ok {p:Prg} (hok:p.Ok) {s:Stt} (hw:Wf p s) {g:Int} (hg:0≤g∧g<s.count):TouchP g (touch p s g)∧1≤(touch p s g).length∧(touch p s g).length≤6:=by
 have hc:=hw.count
 have hgi:=hw.gos g hg.1 hg.2
 have hrt:instrErr p (p.funcs.getD (s.gos.getD g.toNat default).func.toNat default) (instrAt p s g)=0:=hw.right hok hg.1 hg.2
 have hsz:=hok.sizes
 unfold Sizes at hsz
 have hB:TouchP g [⟨5,g,true⟩]:=TouchP.base ⟨hg.1,by omega⟩
 have hl1:([⟨5,g,true⟩]:List Access).length=1:=rfl
 have pos:∀ {l:List Access},TouchP g l→1≤l.length:=fun h=>List.length_pos_of_mem h.own
 have fin:∀ {l:List Access},TouchP g l→l.length≤6→TouchP g l∧1≤l.length∧l.length≤6:=fun h h2=>⟨h,pos h,h2⟩
 have one:∀ (k n:Int) (w:Bool),0≤n∧n<most k→TouchP g (add k n w [⟨5,g,true⟩])∧1≤(add k n w [⟨5,g,true⟩]).length∧(add k n w [⟨5,g,true⟩]).length≤6:=by
  intro k n w h
  exact fin (hB.add h w) (by have:=add_len k n w [⟨5,g,true⟩];omega)
 have opc:∀ {k:Int},opAt p s g=k→k≠66→(instrAt p s g).op=k:=fun h hk=>hw.op_at hok hg.1 hg.2 h hk
 have m1:most 1=8:=rfl
 have m2:most 2=4:=rfl
 have m3:most 3=4:=rfl
 have m4:most 4=1:=rfl
 have m5:most 5=6:=rfl
 have m6:most 6=1:=rfl
 unfold touch
 refine ite_tp (fun h=>?_) (fun _=>?_)
 · have hI:=vis50 hrt (opc h (by decide));exact one 1 _ _ (by omega)
 refine ite_tp (fun h=>?_) (fun _=>?_)
 · have hI:=vis54 hrt (opc h (by decide));exact one 1 _ _ (by omega)
 refine ite_tp (fun h=>?_) (fun _=>?_)
 · have hI:=vis51 hrt (opc h (by decide));exact one 1 _ _ (by omega)
 refine ite_tp (fun h=>?_) (fun _=>?_)
 · rcases h with h|h
   · have hI:=vis52 hrt (opc h (by decide));exact one 1 _ _ (by omega)
   · have hI:=vis53 hrt (opc h (by decide));exact one 1 _ _ (by omega)
 refine ite_tp (fun h=>?_) (fun _=>?_)
 · have hI:=vis55 hrt (by rcases h with h|h;exact .inl (opc h (by decide));exact .inr (opc h (by decide)))
   exact one 2 _ _ (by omega)
 refine ite_tp (fun h=>?_) (fun _=>?_)
 · have hI:=vis57 hrt (opc h (by decide));exact one 2 _ _ (by omega)
 refine ite_tp (fun h=>?_) (fun _=>?_)
 · rcases h with h|h|h
   · have hI:=vis58 hrt (opc h (by decide));exact one 3 _ _ (by omega)
   · have hI:=vis60 hrt (opc h (by decide));exact one 3 _ _ (by omega)
   · have hI:=vis58 hrt (hw.op66 hok hg.1 hg.2 h);exact one 3 _ _ (by omega)
 refine ite_tp (fun h=>?_) (fun _=>?_)
 · have hI:=vis59 hrt (opc h (by decide));exact one 3 _ _ (by omega)
 refine ite_tp (fun h=>?_) (fun _=>?_)
 · have hI:=vis61 hrt (opc h (by decide))
   have hsh:=hok.short (s.gos.getD g.toNat default).func.toNat (instrAt p s g).a.toNat (by omega)
   have hq:(selAt p s g).cases.length≤4:=hsh.2
   refine fin (hB.chans _ _ fun i hi=>?_) (by have:=addChans_long (selAt p s g) [⟨5,g,true⟩] (selAt p s g).cases.length;omega)
   have hC:=(case_ok hok (i:=(s.gos.getD g.toNat default).func.toNat) (j:=(instrAt p s g).a.toNat) (k:=i) (by have:=hgi.f0;have:=hgi.f1;omega) (by omega) hi).chan
   have e:((p.funcs.getD (s.gos.getD g.toNat default).func.toNat default).sels.getD (instrAt p s g).a.toNat default).cases.getD i default=(selAt p s g).cases.getD i default:=rfl
   rw [e] at hC
   omega
 refine ite_tp (fun h=>?_) (fun _=>?_)
 · have h4:=hB.add (k:=4) (n:=0) (by omega) true
   have l4:=add_len 4 0 true [⟨5,g,true⟩]
   refine ite_tp (fun _=>?_) (fun _=>?_)
   · exact fin (h4.add (k:=5) (n:=s.count) (by omega) true) (by have:=add_len 5 s.count true (add 4 0 true [⟨5,g,true⟩]);omega)
   · exact fin h4 (by omega)
 refine ite_tp (fun h=>?_) (fun _=>?_)
 · have h4:=hB.add (k:=4) (n:=0) (by omega) false
   have l4:=add_len 4 0 false [⟨5,g,true⟩]
   refine ite_tp (fun q=>?_) (fun _=>?_)
   · have q:0≤(s.gor g).reg (instrAt p s g).a∧(s.gor g).reg (instrAt p s g).a<s.count:=q
     exact fin (h4.add (k:=5) (by omega) false) (by have:=add_len 5 ((s.gor g).reg (instrAt p s g).a) false (add 4 0 false [⟨5,g,true⟩]);omega)
   · exact fin h4 (by omega)
 exact ite_tp (fun h=>one 6 _ _ (by omega)) (fun _=>fin hB (by omega))
theorem touchFill_at (l:List Access) {i:Nat} (hi:i<6):(touchFill l).getD i default=if i<l.length then l.getD i default else ⟨0,0,false⟩:=by
 unfold touchFill;exact rows_getD hi _ _
theorem touchFill_take {l:List Access} (h:l.length≤6):(touchFill l).take l.length=l:=by
 apply List.ext_getElem?
 intro i
 rw [List.getElem?_take]
 split
 · rename_i hi
   unfold touchFill
   rw [rows_get (by omega),if_pos hi]
   simp [List.getD_eq_getElem?_getD,hi]
 · rw [List.getElem?_eq_none (by omega)]
theorem event_right {p:Prg} (hok:p.Ok) {s:Stt} (hw:Wf p s) {x:Pck} (hg:0≤x.go∧x.go<s.count) (val:Int):right (event p s x val)=true:=by
 obtain ⟨hT,h1,h6⟩:=touch_ok hok hw hg
 have hc:=hw.count
 have eg:(event p s x val).go=x.go:=rfl
 have et:(event p s x val).touches=((touch p s x.go).length:Int):=rfl
 have ef:(event p s x val).touch=touchFill (touch p s x.go):=rfl
 unfold right
 simp only [Bool.and_eq_true,decide_eq_true_eq,eg,et]
 refine ⟨⟨⟨⟨hg.1,by omega⟩,by omega⟩,by omega⟩,?_,?_⟩
 · refine List.all_eq_true.2 fun i hi=>?_
   have hi:i<6:=List.mem_range.1 hi
   unfold placeOk
   rw [et,ef,touchFill_at _ hi]
   split
   · rename_i q;rw [if_neg (by omega)];exact decide_eq_true rfl
   · rename_i q
     rw [if_pos (by omega)]
     have hm:(touch p s x.go).getD i default∈touch p s x.go:=getD_mem _ (by omega)
     have hn:=hT.num _ hm
     rw [decide_eq_true hn.1,decide_eq_true hn.2,Bool.true_and,Bool.true_and]
     by_cases h0:i=0
     · rw [decide_eq_true h0];rfl
     · rw [touchFill_at _ (by omega),if_pos (by omega),Bool.or_eq_true]
       refine .inr (decide_eq_true (alt'_cmp ?_))
       have:=List.pairwise_iff_getElem.1 hT.sorted (i-1) i (by omega) (by omega) (by omega)
       simpa [List.getD_eq_getElem?_getD,show i-1<(touch p s x.go).length by omega,show i<(touch p s x.go).length by omega] using this
 · obtain ⟨i,hi,e⟩:=List.mem_iff_getElem.1 hT.own
   refine List.any_eq_true.2 ⟨i,List.mem_range.2 (by omega),?_⟩
   unfold ownAt
   rw [et,ef,eg,touchFill_at _ (by omega),if_pos hi,Bool.and_eq_true,decide_eq_true_eq,decide_eq_true_eq]
   exact ⟨by omega,by simpa [List.getD_eq_getElem?_getD,hi] using e⟩
theorem event_lock {p:Prg} {s:Stt} {x:Pck} {val:Int} (h:(touch p s x.go).length≤6):lockOf (event p s x val)=firstLock (touch p s x.go):=by
 unfold lockOf
 show firstLock ((touchFill (touch p s x.go)).take ((touch p s x.go).length:Int).toNat)=_
 rw [Int.toNat_natCast,touchFill_take h]
end Go.Eng
namespace Go.Eng
def akey (a:Access):Int:=a.kind*1000+a.num
def small (a:Access):Prop:=(0≤a.kind∧a.kind≤100)∧0≤a.num∧a.num<1000
theorem small_lt {a b:Access} (ha:small a) (hb:small b):akey a<akey b↔alt' a b:=by
 unfold small at ha hb;unfold akey alt';omega
theorem small_eq {a b:Access} (ha:small a) (hb:small b):akey a=akey b↔a.kind=b.kind∧a.num=b.num:=by
 unfold small at ha hb;unfold akey;omega
def acc (l:List Access) (k:Nat):Access:=l.getD k default
def cpt:List Access→List Access
 | a::b::l=>if a=b then cpt (b::l) else a::cpt (b::l)
 | l=>l
theorem cpt_mem:∀ {l:List Access} {x:Access},x∈cpt l↔x∈l
 | [],_=>Iff.rfl
 | [_],_=>Iff.rfl
 | a::b::l,x=>by
   unfold cpt
   split
   · rename_i h
     rw [cpt_mem,← h];simp
   · rw [List.mem_cons,cpt_mem,← List.mem_cons]
theorem cpt_snoc:∀ {l:List Access} {a:Access},l≠[]→cpt (l++[a])=if l.getLast?=some a then cpt l else cpt l++[a]
 | [],_,h=>absurd rfl h
 | [x],a,_=>by
   simp only [List.cons_append,List.nil_append,List.getLast?_singleton,Option.some.injEq]
   unfold cpt
   split
   · rename_i h;subst h;rfl
   · rfl
 | x::y::l,a,_=>by
   have ih:=cpt_snoc (l:=y::l) (a:=a) (by simp)
   rw [List.getLast?_cons_cons]
   show cpt (x::y::(l++[a]))=_
   have e1:cpt (x::y::(l++[a]))=if x=y then cpt (y::(l++[a])) else x::cpt (y::(l++[a])):=by rw [cpt]
   have e2:cpt (x::y::l)=if x=y then cpt (y::l) else x::cpt (y::l):=by rw [cpt]
   rw [e1,e2]
   rw [show y::(l++[a])=y::l++[a] from rfl,ih]
   split<;>split<;>rfl
theorem last_take {l:List Access} {k:Nat} (h0:0<k) (h:k≤l.length):(l.take k).getLast?=some (acc l (k-1)):=by
 rw [List.getLast?_take,if_neg (by omega)]
 unfold acc
 rw [List.getD_eq_getElem?_getD,List.getElem?_eq_getElem (by omega)];rfl
theorem take_acc {l:List Access} {k:Nat} (h:k<l.length):l.take (k+1)=l.take k++[acc l k]:=by
 unfold acc
 rw [List.take_succ_eq_append_getElem h];simp [List.getD_eq_getElem?_getD,h]
theorem cpt_take {l:List Access} {k:Nat} (h0:0<k) (h:k<l.length):cpt (l.take (k+1))=if acc l k=acc l (k-1) then cpt (l.take k) else cpt (l.take k)++[acc l k]:=by
 rw [take_acc h,cpt_snoc (by intro e;have:=congrArg List.length e;rw [List.length_take,List.length_nil] at this;omega),last_take h0 (by omega)]
 simp only [Option.some.injEq]
 by_cases e:acc l k=acc l (k-1)
 · rw [if_pos e.symm,if_pos e]
 · rw [if_neg (fun q=>e q.symm),if_neg e]
theorem sorted_ext:∀ {a b:List Access},a.Pairwise alt'→b.Pairwise alt'→(∀ x,x∈a↔x∈b)→a=b
 | [],[],_,_,_=>rfl
 | [],y::b,_,_,h=>absurd ((h y).2 (by simp)) (by simp)
 | x::a,[],_,_,h=>absurd ((h x).1 (by simp)) (by simp)
 | x::a,y::b,ha,hb,h=>by
   obtain ⟨a1,a2⟩:=List.pairwise_cons.1 ha
   obtain ⟨b1,b2⟩:=List.pairwise_cons.1 hb
   have irr:∀ z:Access,¬alt' z z:=fun z q=>by unfold alt' at q;omega
   have asy:∀ z u:Access,alt' z u→alt' u z→False:=fun z u q r=>by unfold alt' at q r;omega
   have e:x=y:=by
    rcases List.mem_cons.1 ((h x).1 (by simp)) with e|e
    · exact e
    · rcases List.mem_cons.1 ((h y).2 (by simp)) with f|f
      · exact f.symm
      · exact (asy _ _ (b1 x e) (a1 y f)).elim
   subst e
   rw [sorted_ext a2 b2 fun z=>⟨fun hz=>?_,fun hz=>?_⟩]
   · rcases List.mem_cons.1 ((h z).1 (List.mem_cons_of_mem _ hz)) with e|e
     · subst e;exact (irr _ (a1 _ hz)).elim
     · exact e
   · rcases List.mem_cons.1 ((h z).2 (List.mem_cons_of_mem _ hz)) with e|e
     · subst e;exact (irr _ (b1 _ hz)).elim
     · exact e
def SameKey (l:List Access):Prop:=∀ a∈l,∀ b∈l,a.kind=b.kind→a.num=b.num→a=b
theorem cpt_strict:∀ {l:List Access},(∀ a∈l,small a)→SameKey l→l.Pairwise (fun a b=>akey a≤akey b)→(cpt l).Pairwise alt'
 | [],_,_,_=>by simp [cpt]
 | [_],_,_,_=>by simp [cpt]
 | a::b::l,hs,hk,hp=>by
   obtain ⟨h1,h2⟩:=List.pairwise_cons.1 hp
   have ih:=cpt_strict (l:=b::l) (fun x hx=>hs x (List.mem_cons_of_mem _ hx)) (fun x hx y hy=>hk x (List.mem_cons_of_mem _ hx) y (List.mem_cons_of_mem _ hy)) h2
   unfold cpt
   split
   · exact ih
   · rename_i hne
     refine List.pairwise_cons.2 ⟨fun x hx=>?_,ih⟩
     have hx:=cpt_mem.1 hx
     have sa:=hs a (by simp)
     have sb:=hs b (by simp)
     have sx:=hs x (List.mem_cons_of_mem _ hx)
     rw [← small_lt sa sx]
     have l1:=h1 b (by simp)
     have lt:akey a<akey b:=by
      rcases Int.lt_or_eq_of_le l1 with h|h
      · exact h
      · obtain ⟨e1,e2⟩:=(small_eq sa sb).1 h
        exact absurd (hk a (by simp) b (by simp) e1 e2) hne
     rcases List.mem_cons.1 hx with e|e
     · rw [e];exact lt
     · have:=(List.pairwise_cons.1 h2).1 x e
       omega
def addAll (l acc:List Access):List Access:=l.foldl (fun m a=>add a.kind a.num a.write m) acc
theorem add_mem_same {k n:Int} {w:Bool}:∀ {l:List Access},(∀ a∈l,a.kind=k→a.num=n→a.write=w)→∀ x,x∈add k n w l↔x=⟨k,n,w⟩∨x∈l
 | [],_,x=>by simp [add]
 | y::l,h,x=>by
   unfold add
   split
   · rename_i hk
     have hw:=h y (by simp) hk.1 hk.2
     have:(⟨y.kind,y.num,y.write||w⟩:Access)=y:=by rw [hw,Bool.or_self,← hw]
     have e2:(⟨k,n,w⟩:Access)=y:=by rw [← hk.1,← hk.2,← hw]
     rw [this,e2,List.mem_cons]
     constructor
     · exact .inr
     · rintro (e|e)
       · exact .inl e
       · exact e
   · split
     · rw [List.mem_cons]
     · rw [List.mem_cons,add_mem_same (fun a ha=>h a (List.mem_cons_of_mem _ ha)),List.mem_cons]
       constructor
       · rintro (e|e|e)
         · exact .inr (.inl e)
         · exact .inl e
         · exact .inr (.inr e)
       · rintro (e|e|e)
         · exact .inr (.inl e)
         · exact .inl e
         · exact .inr (.inr e)
theorem addAll_mem:∀ {l m:List Access},SameKey (l++m)→∀ x,x∈addAll l m↔x∈l++m
 | [],m,_,x=>Iff.rfl
 | a::l,m,hk,x=>by
   have e:addAll (a::l) m=addAll l (add a.kind a.num a.write m):=rfl
   have ha:∀ x,x∈add a.kind a.num a.write m↔x=a∨x∈m:=add_mem_same fun b hb h1 h2=>by
    have:=hk b (by simp [hb]) a (by simp) h1 h2
    rw [this]
   have h2:∀ x,x∈l++add a.kind a.num a.write m↔x∈a::l++m:=fun x=>by
    rw [List.mem_append,ha,List.cons_append,List.mem_cons,List.mem_append]
    constructor
    · rintro (h|h|h)
      · exact .inr (.inl h)
      · exact .inl h
      · exact .inr (.inr h)
    · rintro (h|h|h)
      · exact .inr (.inl h)
      · exact .inl h
      · exact .inr (.inr h)
   rw [e,addAll_mem (fun u hu v hv=>hk u ((h2 u).1 hu) v ((h2 v).1 hv)),h2]
theorem addAll_sorted:∀ {l m:List Access},m.Pairwise alt'→(addAll l m).Pairwise alt'
 | [],_,h=>h
 | a::l,m,h=>addAll_sorted (l:=l) (add_sorted a.kind a.num a.write h)
theorem sort_cpt {l R:List Access} (hs:∀ a∈l,small a) (hk:SameKey l) (hp:R.Perm l) (ho:R.Pairwise (fun a b=>akey a≤akey b)):cpt R=addAll l []:=by
 refine sorted_ext (cpt_strict (fun a ha=>hs a (hp.mem_iff.1 ha)) (fun a ha b hb=>hk a (hp.mem_iff.1 ha) b (hp.mem_iff.1 hb)) ho) (addAll_sorted List.Pairwise.nil) fun x=>?_
 rw [cpt_mem,hp.mem_iff,addAll_mem (by rw [List.append_nil];exact hk),List.append_nil]
end Go.Eng
