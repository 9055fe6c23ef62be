/- A part of the proof: walks through the program's functions, and what they compute. -/
import Derived.Test.YtmonhjagbhpbeaaGreatDoorPk15
set_option linter.unusedSimpArgs false
set_option linter.unusedVariables false
namespace Go.Eng.Tryz
open Go.RowKit Go.Eng
set_option maxHeartbeats 0
set_option maxRecDepth 20000
theorem QBl (l:List Access) (hs:∀ a∈l,WH a) (hn:l.length≤7) {o0 o1 o2:Obj} {tm:Tm} {out:List Tm} {nt:Nat} {xs:List Obj} {K:St→E→Prop} (h:∀ R:List Access,R.Perm l→R.Pairwise (fun a b=>XW a≤XW b)→K { tm:=tm,ob:=o0::o1::o2::.row 60 (R.map Access.v)::xs,out:=out,nt:=nt } (.tup [])):CallE Go.Proofs.Tryz.prog tab { tm:=tm,ob:=o0::o1::o2::.row 60 (l.map Access.v)::xs,out:=out,nt:=nt } 204 [.sl 3 60 0 l.length false,.int .i64 0,.int .i64 l.length,.fn 154 []] K:=by
 refine CallE.body ok Go.Proofs.Tryz.func204 rfl rfl 53 rfl [] rfl (by simp) ?_
 simp only [enter,Zr,Nat.zero_add,Nat.reduceAdd]
 repeat' first
  | ((with_reducible refine SARQ.told 4 9 ?_)
     rw [XP (by omega)])
  | ((with_reducible refine SARQ.told 4 13 ?_)
     rw [QEr (by omega)])
  | ((with_reducible refine SARQ.told 4 14 ?_)
     rw [XP (by omega)])
  | ((with_reducible first|refine Zx fun R1 hR1=>?_|refine J23 fun R1 hR1=>?_|refine vp fun R1 hR1=>?_|refine vo fun R1 hR1=>?_|refine vn fun R1 hR1=>?_);(simp only [go_sem,seval,-List.reduceReplicate,Bool.cond_false_right,Bool.cond_true_left]);(repeat' with_reducible refine And.intro ?_ ?_);all_goals first|(refine hR1 _ ?_;clear hR1 R1)|(intro hgf;simp only [hgf];refine hR1 _ ?_;clear hR1 R1)|((first|refine ⟨_,_,rfl,_,CallQ.ctr ok (qY (Xv Y j) (Xv Y (j-1)) (hI.all hs (by omega)) (hI.all hs (by omega))) (by first|rfl|(simp [go_sem];done)|fail) rfl,?_⟩|refine ⟨_,_,rfl,_,fun hg=>CallQ.ctr ok (qY (Xv Y j) (Xv Y (j-1)) (hI.all hs (by omega)) (hI.all hs (by omega))) (by first|rfl|(simp [go_sem];done)|fail) rfl,?_⟩|refine cq (cc (qY (Xv Y j) (Xv Y (j-1)) (hI.all hs (by omega)) (hI.all hs (by omega)))) ?_|refine ⟨_,_,rfl,.inl ⟨_,fun hg=>CallQ.ctr ok (qY (Xv Y j) (Xv Y (j-1)) (hI.all hs (by omega)) (hI.all hs (by omega))) (by first|rfl|(simp [go_sem];done)|fail) rfl,?_⟩⟩);all_goals ((try simp only [go_sem,seval,-List.reduceReplicate,Bool.cond_false_right,Bool.cond_true_left]);(repeat' with_reducible refine And.intro ?_ ?_);all_goals first|(refine hR1 _ ?_;clear hR1 R1)|(intro hgf;simp only [hgf];refine hR1 _ ?_;clear hR1 R1)|omega|rfl|decide|assumption|(intro _;omega)|(simp;done)|(simp [-List.getD_eq_getElem?_getD];omega)|exact hcode _|(intro _;exact hcode _)|exact hsl _|(intro _;exact hsl _)|(intro q;rw [hwj (by simpa using q)];have q:=of_decide_eq_true q;omega)))|omega|rfl|decide|assumption|(intro _;omega)|(simp;done)|(simp [-List.getD_eq_getElem?_getD];omega)|exact hcode _|(intro _;exact hcode _)|exact hsl _|(intro _;exact hsl _)|(intro q;rw [hwj (by simpa using q)];have q:=of_decide_eq_true q;omega))
  | ((with_reducible refine SART.doneAt 6 ?_);refine hR _ ?_;clear hR R;try simp only [go_sem,QAl,Nat.reduceBEq]
     exact ZZ (by simp only [St.keep,List.filterMap_cons,List.filterMap_nil,List.lookup_cons,List.lookup_nil,Option.map_some,Option.map_none,beq_self_eq_true,Nat.reduceBEq,swp,List.map_set,hwp,he1,he2]<;>first|rfl|rw [List.set_comm _ _ (show j-1≠j by omega)]))
  | ((with_reducible first|refine vm ?_|refine Zw ?_|refine J29 ?_);refine hR _ ?_;clear hR R;try simp only [go_sem,QAl,Nat.reduceBEq])
  | (with_reducible first|refine vk ?_ ?_|exact vj|refine vi ?_ ?_)
  | (with_reducible first|refine J1 ?_|refine J2 ?_|refine J3 ?_|refine J4 ?_|refine J5 ?_|refine J6 ?_|refine J7 ?_|refine J8 (by decide) ?_|refine J9 ?_|refine Uf ?_|refine ZL ?_|refine ZS ?_|refine Y3 ?_|refine V7 ?_)
  | ((with_reducible refine Qy 4 ?_)
     have hwj:0<j→IntKind.i64.wrap ((j:Int)-1)=((j-1:Nat):Int):=fun h0=>QDm (by have:=hI.lt;have:=hI.le;omega) h0
     have hwp:=QEr (j:=j) (by have:=hI.lt;have:=hI.le;omega)
     have he1:=XP (R:=Y) (k:=j) (by have:=hI.lt;have:=hI.le;have:=hI.len;omega) default
     have he2:=XP (R:=Y) (k:=j-1) (by have:=hI.lt;have:=hI.le;have:=hI.len;omega) default
     have hjn:=hI.lt
     have hjl:=hI.len
     have hjle:=hI.le
     (with_reducible refine qq ok Qc (by kernel_rfl) (by kernel_rfl) QAl ?_);intro R hR;simp only [go_sem,QC])
  | ((with_reducible refine Qy 6 ?_)
     have hjn:=hI.lt
     have hjl:=hI.len
     have hjle:=hI.le
     refine J35 ok Qc (.take 0 (.take 1 (.take 5 (.take 6 (.take 7 (.take 8 (.take 9 (.take 10 (.take 11 (.take 12 (.take 13 (.take 14 (.br 2 (.br 3 (.br 4 (.br 15 (.take 16 (.br 17 .done .nil)) .nil) (.br 15 (.take 4 (.take 16 (.br 17 .done .nil))) .nil)) (.br 15 (.take 3 (.take 4 (.take 16 (.br 17 .done .nil)))) .nil)) (.br 3 (.br 2 (.br 4 (.br 15 (.take 16 (.br 17 .done .nil)) .nil) (.br 15 (.take 4 (.take 16 (.br 17 .done .nil))) .nil)) (.br 4 (.br 2 (.br 15 (.take 16 (.br 17 .done .nil)) .nil) (.br 15 (.take 2 (.take 16 (.br 17 .done .nil))) .nil)) (.br 15 (.take 2 (.take 4 (.take 16 (.br 17 .done .nil)))) .nil))) (.br 15 (.take 2 (.take 3 (.take 4 (.take 16 (.br 17 .done .nil))))) .nil))))))))))))))) [15,17] QAl (by kernel_rfl) ({ tm:=[(0,true,.sl 3 60 0 l.length false),(1,true,.int .i64 0),(2,true,.int .i64 l.length),(3,true,.fn 154 []),(8,true,.int .i64 i),(9,true,.int .i64 j)],ob:=o0::o1::o2::.row 60 ((swp Y j).map Access.v)::xs,out:=tm::out,nt:=53 }) (fun R hR=>?_) ?_;simp only [go_sem,QC])
  | ((with_reducible refine rg QAl fun R hR=>?_);simp only [go_sem,QC])
  | ((with_reducible refine qq ok Qc (by kernel_rfl) (by kernel_rfl) QAl ?_);intro R hR;simp only [go_sem,QC])
  | ((with_reducible refine QR 14 rfl (fun hb14=>?_) fun hb14=>?_);all_goals (try simp [-List.getD_eq_getElem?_getD] at hb14;try (exfalso;omega)))
  | ((with_reducible refine QR 34 rfl (fun hb34=>?_) fun hb34=>?_);all_goals (try simp [-List.getD_eq_getElem?_getD] at hb34;try (exfalso;omega)))
  | ((with_reducible refine W1 ?_)
     refine Yx (ZZ (by first|rfl|(simp;done)|fail)) (Wo (fun n τ=>∃ (i:Nat) (Y:List Access),n=l.length-i∧((1≤i∧(i≤l.length∨i=1))∧SInvO l Y i)∧τ={ tm:=[(0,true,.sl 3 60 0 l.length false),(1,true,.int .i64 0),(2,true,.int .i64 l.length),(3,true,.fn 154 []),(8,true,.int .i64 i)],ob:=o0::o1::o2::.row 60 (Y.map Access.v)::xs,out:=tm::out,nt:=53 }) (l.length-1) ⟨1,l,rfl,⟨by omega,SInvO.first l⟩,rfl⟩ ?_)
     rintro n τ ⟨i,Y,hn,⟨hi,hO⟩,rfl⟩)
  | ((with_reducible refine W1 ?_)
     refine Yx (ZZ (by first|rfl|(simp;done)|fail)) (Wo (fun n τ=>∃ (j:Nat) (Y:List Access),n=j∧(SInvI l Y i j)∧τ={ tm:=[(0,true,.sl 3 60 0 l.length false),(1,true,.int .i64 0),(2,true,.int .i64 l.length),(3,true,.fn 154 []),(8,true,.int .i64 i),(9,true,.int .i64 j)],ob:=o0::o1::o2::.row 60 (Y.map Access.v)::xs,out:=tm::out,nt:=53 }) (i) ⟨i,Y,rfl,hO.inner (by omega),rfl⟩ ?_)
     rintro n τ ⟨j,Y,hn,hI,rfl⟩)
  | ((with_reducible refine zF ?_)
     first
      | (have hl9:i<l.length:=by omega
         have hw:=QN (n:=i) (m:=256) (by omega) (by decide)
         have hle:=hI.done (by rcases Nat.eq_zero_or_pos j with h0|h0;exact .inl h0;right;have h1:=hb34 (by omega);have h2:=QFa (hI.all hs (k:=j) (by omega)) (hI.all hs (k:=j-1) (by omega));omega)
         refine WE (l.length-(i+1)) _ (by omega) (ZZ (by simp only [hw])) ⟨i+1,Y,rfl,⟨by omega,hle⟩,rfl⟩)
      | (have q:_∧_:=hb34
         have h0:0<j:=by omega
         have h2:=QFa (hI.all hs (k:=j) (by omega)) (hI.all hs (k:=j-1) (by omega))
         refine WE (j-1) _ (by omega) (ZZ (by simp only [hwj h0])) ⟨j-1,swp Y j,rfl,hI.swap h0 (h2.1 q.2),rfl⟩))
  | ((with_reducible first|refine vd ?_|refine xA ?_)
     simp only [go_sem,QS,QW,QM,seval]
     exact h Y hO.perm (hO.sorted (by omega)))
def QIM:List (List Nat):=[[0,1,2,3,4,10],[0,1,2,3,4,10,11],[0,1,2,3,4,10,11,12],[0,1,2,3,4,10,11,12,25],[],[0,1,2,3,4,10,11,12,32],[],[0,1,2,3,4,10,11,12,39],[0,1,2,3,4,10,11,12],[0,1,2,3,4,10,11,12],[0,1,2,3,4,10,11,12,13,14],[0,1,2,3,4,10,11,12,13,14,56],[0,1,2,3,4,10,11,12,13],[0,1,2,3,4,10,11,12,13],[0,1,2,3,4,10,11,12,13,14],[0,1,2,3,4,10,11,12,13,75],[0,1,2,3,4,10,11,12,13,80],[0,1,2,3,4,10,11,12,13,97],[0,2,3,4,10,11,15],[0,1,2,3,4,10,11],[0,1,2,3,4,12,16,17],[0,1,2,3,4,11,12,16],[0,1,2,3,4,11,12,16,18,19],[0,1,2,3,4,11,16,18,19,20],[0,1,2,3,4,11,16,18,19,20,125],[0,1,2,3,4,10,11,16],[0,2,3,4,10,11,16],[0,1,2,3,4,10,11],[0,1,2,3,4,10,11,16],[0,1,3,4,10,11,16],[0,1,2,3,4,10,11]]
theorem QF3 (l:List Access) (hs:∀ a∈l,WH a) (hl7:l.length≤7) (lim:Int) {o0 o1 o2:Obj} {tm:Tm} {out:List Tm} {nt:Nat} {xs:List Obj} {K:St→E→Prop} (h:∀ R:List Access,R.Perm l→R.Pairwise (fun a b=>XW a≤XW b)→K { tm:=tm,ob:=o0::o1::o2::.row 60 (R.map Access.v)::xs,out:=out,nt:=nt } (.tup [])):CallE Go.Proofs.Tryz.prog tab { tm:=tm,ob:=o0::o1::o2::.row 60 (l.map Access.v)::xs,out:=out,nt:=nt } 183 [.sl 3 60 0 l.length false,.int .i64 0,.int .i64 l.length,.int .i64 lim,.fn 154 []] K:=by
 have hw0:IntKind.i64.wrap ((l.length:Int)-0)=l.length:=by rw [Zj (by omega) (by omega)];omega
 refine CallE.body ok Go.Proofs.Tryz.func183 rfl rfl 148 rfl [] rfl (by simp) ?_
 simp only [enter,Zr,Nat.zero_add,Nat.reduceAdd]
 repeat' first
  | ((with_reducible first|refine Zx fun R1 hR1=>?_|refine vp fun R1 hR1=>?_|refine vo fun R1 hR1=>?_|refine vn fun R1 hR1=>?_);(simp only [go_sem,seval,-List.reduceReplicate,Bool.cond_false_right,Bool.cond_true_left,hw0]);(repeat' with_reducible refine And.intro ?_ ?_);all_goals first|(refine hR1 _ ?_;clear hR1 R1)|((first|refine ⟨_,_,rfl,.inr (QBl l hs hl7 fun Y hY1 hY2=>?_)⟩);all_goals ((try simp only [go_sem,seval,-List.reduceReplicate,Bool.cond_false_right,Bool.cond_true_left,hw0]);(repeat' with_reducible refine And.intro ?_ ?_);all_goals first|(refine hR1 _ ?_;clear hR1 R1)|exact YJ))|exact YJ)
  | ((with_reducible first|refine vm ?_|refine Zw ?_);refine hR _ ?_;clear hR R;try simp only [go_sem,QIM,Nat.reduceBEq])
  | (with_reducible first|refine vk ?_ ?_|exact vj|refine vi ?_ ?_)
  | (with_reducible first|refine J1 ?_|refine J2 ?_|refine J3 ?_|refine J4 ?_|refine J5 ?_|refine J6 ?_|refine J7 ?_|refine J8 (by decide) ?_|refine J9 ?_|refine Uf ?_|refine ZL ?_|refine ZS ?_|refine Y3 ?_|refine V7 ?_)
  | ((with_reducible refine Qy 17 ?_)
     refine V6 ok Qc (.take 0 (.take 1 (.take 2 (.take 3 (.take 4 (.take 5 (.take 6 (.take 7 (.take 8 (.take 9 (.take 10 (.take 11 (.take 12 (.br 13 (.take 14 (.take 15 (.take 16 .done))) .nil)))))))))))))) [] QIM (by kernel_rfl) (fun R hR=>?_);simp only [go_sem,QC])
  | ((with_reducible refine rg QIM fun R hR=>?_);simp only [go_sem,QC])
  | ((with_reducible refine QR 25 rfl (fun hb25=>?_) fun hb25=>?_);all_goals (try simp [-List.getD_eq_getElem?_getD] at hb25;try (exfalso;omega)))
  | ((with_reducible refine SA.cond rfl ?_ ?_)
     all_goals
      intro hb
      try simp [-List.getD_eq_getElem?_getD] at hb
      try (exfalso;omega))
  | ((with_reducible refine W1 ?_)
     refine Yx (ZZ (by first|rfl|(simp;done)|fail)) (Wo (fun n τ=>∃ (z:Nat),n=z∧(z=0)∧τ={ tm:=[(0,true,.sl 3 60 0 l.length false),(1,true,.int .i64 0),(2,true,.int .i64 l.length),(3,true,.int .i64 lim),(4,true,.fn 154 []),(10,true,.bool true),(11,true,.bool true)],ob:=o0::o1::o2::.row 60 (l.map Access.v)::xs,out:=tm::out,nt:=148 }) (0) ⟨0,rfl,rfl,rfl⟩ ?_)
     rintro n τ ⟨z,hn,hz,rfl⟩)
  | ((with_reducible first|refine vd ?_|refine xA ?_)
     simp only [go_sem,QS,QW,QM,seval]
     exact h Y hY1 hY2)
def QLE:List (List Nat):=[[0,1,4],[]]
theorem QD8 (l:List Access) (hs:∀ a∈l,WH a) (hn:l.length≤7) {o0 o1 o2:Obj} {tm:Tm} {out:List Tm} {nt:Nat} {xs:List Obj} {K:St→E→Prop} (h:∀ R:List Access,R.Perm l→R.Pairwise (fun a b=>XW a≤XW b)→K { tm:=tm,ob:=o0::o1::o2::.row 60 (R.map Access.v)::xs,out:=out,nt:=nt } (.tup [])):CallE Go.Proofs.Tryz.prog tab { tm:=tm,ob:=o0::o1::o2::.row 60 (l.map Access.v)::xs,out:=out,nt:=nt } 153 [.sl 3 60 0 l.length false,.fn 154 []] K:=by
 have hmx:256≤maxLen:=by decide
 have hu64:IntKind.u64.wrap (l.length:Int)=l.length:=by simp [IntKind.wrap,IntKind.signed,IntKind.bits];omega
 refine CallE.body ok Go.Proofs.Tryz.func153 rfl rfl 14 rfl [] rfl (by simp) ?_
 simp only [enter,Zr,Nat.zero_add,Nat.reduceAdd]
 repeat' first
  | ((with_reducible refine Zx fun R1 hR1=>?_);(simp only [go_sem,seval,-List.reduceReplicate,Bool.cond_false_right,Bool.cond_true_left,hu64]);(repeat' with_reducible refine And.intro ?_ ?_);all_goals first|(refine hR1 _ ?_;clear hR1 R1)|((first|refine cq (cc (QJ9 l.length (by omega))) ?_|refine ⟨_,_,rfl,.inr (QF3 l hs hn _ fun Y hY1 hY2=>?_)⟩);all_goals ((try simp only [go_sem,seval,-List.reduceReplicate,Bool.cond_false_right,Bool.cond_true_left,hu64]);(repeat' with_reducible refine And.intro ?_ ?_);all_goals first|(refine hR1 _ ?_;clear hR1 R1)|exact YJ))|exact YJ)
  | ((with_reducible refine Zw ?_);refine hR _ ?_;clear hR R;try simp only [go_sem,QLE,Nat.reduceBEq])
  | (with_reducible first|refine J1 ?_|refine J2 ?_|refine ZL ?_|refine ZS ?_)
  | ((with_reducible refine rg QLE fun R hR=>?_);simp only [go_sem,QC])
  | ((with_reducible first|refine vd ?_|refine xA ?_)
     simp only [go_sem,QS,QW,QM,seval]
     exact h Y hY1 hY2)
end Go.Eng.Tryz
namespace Go.Eng.Tryz
open Go.RowKit Go.Eng
set_option maxHeartbeats 0
set_option maxRecDepth 20000
theorem QA2 {l:List Access} (h:l.length<2):W6 l=l:=by
 match l,h with
 | [],_=>rfl
 | [_],_=>rfl
 | a::b::l,h=>simp at h;omega
theorem QI0 {l:List Access} {k:Nat} (h0:0<k) (hk:k<l.length) (hc:W6 (l.take k)=l.take k) (he:¬Xv l k=Xv l (k-1)):W6 (l.take (k+1))=l.take (k+1):=by
 rw [yW h0 hk,if_neg he,hc,← x7 hk]
theorem V5 (a b:Access):a.v.beq b.v=decide (a=b):=by
 obtain ⟨k,n,w⟩:=a
 obtain ⟨k',n',w'⟩:=b
 by_cases h1:k=k'<;>by_cases h2:n=n'<;>cases w<;>cases w'<;>simp [Access.v,V.beq,V.beqL,h1,h2]
theorem QGn (l:List Access):W6 (l.take 1)=l.take 1:=QA2 (by rw [List.length_take];omega)
def wn:List (List Nat):=[[0],[0,8],[2],[0,3],[0,3,13],[0,3],[0,3,25],[0,3,4],[0,3,4,5],[0,3,4,5,32],[0,3,4,5],[0,3,4,5,44],[0,3,4,5],[0,3,4,5],[0,3],[2],[2]]
theorem QAB (l:List Access) (hl7:l.length≤7) {o0 o1 o2:Obj} {tm:Tm} {out:List Tm} {nt:Nat} {xs:List Obj} {K:St→E→Prop} (h:∀ Y:List V,(W6 l).length≤Y.length→Y.take (W6 l).length=(W6 l).map Access.v→K { tm:=tm,ob:=o0::o1::o2::.row 60 (Y)::xs,out:=out,nt:=nt } (.sl 3 60 0 (W6 l).length false)):CallE Go.Proofs.Tryz.prog tab { tm:=tm,ob:=o0::o1::o2::.row 60 (l.map Access.v)::xs,out:=out,nt:=nt } 155 [.sl 3 60 0 l.length false] K:=by
 have hmx:256≤maxLen:=by decide
 refine CallE.body ok Go.Proofs.Tryz.func155 rfl rfl 61 rfl [.tmp 2] rfl (by simp) ?_
 simp only [enter,Zr,Nat.zero_add,Nat.reduceAdd]
 repeat' first
  | ((with_reducible refine SARQ.told 6 4 ?_)
     rw [XP (by omega)])
  | ((with_reducible refine SARQ.told 6 9 ?_)
     rw [hwp])
  | ((with_reducible refine SARQ.told 6 10 ?_)
     rw [XP (by omega)])
  | ((with_reducible refine SARQ.told 11 4 ?_)
     rw [XP (by omega)])
  | ((with_reducible refine SARQ.told 11 8 ?_)
     rw [hwp2])
  | ((with_reducible refine SARQ.told 11 9 ?_)
     rw [XP (by omega)])
  | ((with_reducible refine SARA.told 12 6 ?_)
     rw [XP (by omega)])
  | ((with_reducible first|refine Zx fun R1 hR1=>?_|refine J23 fun R1 hR1=>?_);(simp only [go_sem,seval,-List.reduceReplicate,Bool.cond_false_right,Bool.cond_true_left,V5,QCB,List.getElem?_cons_succ,List.getElem?_cons_zero,List.set_cons_succ,List.set_cons_zero]);(repeat' with_reducible refine And.intro ?_ ?_);all_goals first|(refine hR1 _ ?_;clear hR1 R1)|omega|rfl|decide|assumption|(intro _;omega)|(simp;done)|(simp [-List.getD_eq_getElem?_getD];omega)|exact hcode _|(intro _;exact hcode _)|exact hsl _|(intro _;exact hsl _)|(rw [hwk];omega)|(rw [hwk2];omega)|(intro _;rw [hwk];omega)|(intro _;rw [hwk2];omega))
  | ((with_reducible first|refine Zw ?_|refine J29 ?_);refine hR _ ?_;clear hR R;try simp only [go_sem,wn,Nat.reduceBEq])
  | (with_reducible first|refine J1 ?_|refine J2 ?_|refine J3 ?_|refine J4 ?_|refine J5 ?_|refine J6 ?_|refine J7 ?_|refine J8 (by decide) ?_|refine J9 ?_|refine Uf ?_|refine ZL ?_|refine ZS ?_|refine Y3 ?_|refine V7 ?_)
  | ((with_reducible refine Qy 6 ?_)
     have hwk:=QDm (j:=k0) (by omega) (by omega)
     have hwp:=QEr (j:=k0) (by omega)
     (with_reducible refine qq ok Qc (by kernel_rfl) (by kernel_rfl) wn ?_);intro R hR;simp only [go_sem,QC])
  | ((with_reducible refine Qy 11 ?_)
     have hC1:=hC.len
     have hC2:=hC.p2
     have hC3:=hC.kk
     have hwk2:=QDm (j:=k2) (by omega) (by omega)
     have hwp2:=QEr (j:=k2) (by omega)
     (with_reducible refine qq ok Qc (by kernel_rfl) (by kernel_rfl) wn ?_);intro R hR;simp only [go_sem,QC])
  | ((with_reducible refine Qy 14 ?_)
     have hC1:=hC.len
     have hC2:=hC.p2
     have hC3:=hC.kk
     have hC4:=hC.le
     have hC5:=hC.hi
     (with_reducible refine rg wn fun R hR=>?_);simp only [go_sem,QC])
  | ((with_reducible refine Qy 12 ?_)
     have hC4:=hC.le
     have hC5:=hC.hi
     (with_reducible refine rg wn fun R hR=>?_);simp only [go_sem,QC])
  | ((with_reducible refine rg wn fun R hR=>?_);simp only [go_sem,QC])
  | ((with_reducible refine qq ok Qc (by kernel_rfl) (by kernel_rfl) wn ?_);intro R hR;simp only [go_sem,QC])
  | ((with_reducible refine QR 8 rfl (fun hb8=>?_) fun hb8=>?_);all_goals (try simp [-List.getD_eq_getElem?_getD,V5] at hb8;try (exfalso;omega)))
  | ((with_reducible refine QR 13 rfl (fun hb13=>?_) fun hb13=>?_);all_goals (try simp [-List.getD_eq_getElem?_getD,V5] at hb13;try (exfalso;omega)))
  | ((with_reducible refine QR 25 rfl (fun hb25=>?_) fun hb25=>?_);all_goals (try simp [-List.getD_eq_getElem?_getD,V5] at hb25;try (exfalso;omega)))
  | ((with_reducible refine QR 32 rfl (fun hb32=>?_) fun hb32=>?_);all_goals (try simp [-List.getD_eq_getElem?_getD,V5] at hb32;try (exfalso;omega)))
  | ((with_reducible refine QR 44 rfl (fun hb44=>?_) fun hb44=>?_);all_goals (try simp [-List.getD_eq_getElem?_getD,V5] at hb44;try (exfalso;omega)))
  | ((with_reducible refine W1 ?_)
     refine Yx (ZZ (by first|rfl|(simp;done)|fail)) (Wo (fun n τ=>∃ (k0:Nat),n=l.length-k0∧((1≤k0∧k0≤l.length)∧W6 (l.take k0)=l.take k0)∧τ={ tm:=[(0,true,.sl 3 60 0 l.length false),(3,true,.int .i64 k0)],ob:=o0::o1::o2::.row 60 (l.map Access.v)::xs,out:=tm::out,nt:=61 }) (l.length-1) ⟨1,rfl,⟨by omega,QGn l⟩,rfl⟩ ?_)
     rintro n τ ⟨k0,hn,⟨hk,hc⟩,rfl⟩)
  | ((with_reducible refine W1 ?_)
     refine Yx (ZZ (by first|rfl|(simp;done)|fail)) (Wo (fun n τ=>∃ (k:Nat) (k2:Nat) (C:List Access),n=l.length-k0-k2∧(CInv l C k0 k k2)∧τ={ tm:=[(0,true,.sl 3 60 0 l.length false),(3,true,.int .i64 k),(4,true,.sl 3 60 k0 (l.length-k0) false),(5,true,.int .i64 k2)],ob:=o0::o1::o2::.row 60 (C.map Access.v)::xs,out:=tm::out,nt:=61 }) (l.length-k0-1) ⟨k0,1,l,rfl,CInv.first (by omega) (by omega) hc hb25,rfl⟩ ?_)
     rintro n τ ⟨k,k2,C,hn,hC,rfl⟩)
  | ((with_reducible refine zF ?_)
     first
      | (have q:¬Xv l k0=Xv l (k0-1):=hb25
         have hw:=QN (n:=k0) (m:=256) (by omega) (by decide)
         refine WE (l.length-(k0+1)) _ (by omega) (ZZ (by simp only [hw])) ⟨k0+1,rfl,⟨by omega,QI0 (by omega) (by omega) hc q⟩,rfl⟩)
      | (have hlt:k0+k2<l.length:=by omega
         have q:¬Xv C (k0+k2)=Xv C (k0+(k2-1)):=hb44
         have hw:=QN (n:=k) (m:=256) (by omega) (by decide)
         have hw2:=QN (n:=k2) (m:=256) (by omega) (by decide)
         refine WE (l.length-k0-(k2+1)) _ (by omega) (ZZ (by simp only [hw,hw2,List.map_set])) ⟨k+1,k2+1,C.set k (Xv C (k0+k2)),rfl,hC.put hlt (by rw [show k0+k2-1=k0+(k2-1) by omega];exact q),rfl⟩)
      | (have hlt:k0+k2<l.length:=by omega
         have q:Xv C (k0+k2)=Xv C (k0+(k2-1)):=hb44
         have hw2:=QN (n:=k2) (m:=256) (by omega) (by decide)
         refine WE (l.length-k0-(k2+1)) _ (by omega) (ZZ (by simp only [hw2])) ⟨k,k2+1,C,rfl,hC.next hlt (by rw [show k0+k2-1=k0+(k2-1) by omega];exact q),rfl⟩))
  | ((with_reducible first|refine vd ?_|refine xA ?_)
     simp only [go_sem,QS,QW,QM,seval]
     first
      | (have q:=hb8
         have e:W6 l=l:=QA2 (by omega)
         have q:=h (l.map Access.v) (by rw [e];simp) (by rw [e];simp [List.take_of_length_le])
         rw [e] at q
         exact q)
      | (have q:l.length≤k0:=by omega
         rw [List.take_of_length_le (by omega)] at hc
         have q:=h (l.map Access.v) (by rw [hc];simp) (by rw [hc];simp [List.take_of_length_le])
         rw [hc] at q
         exact q)
      | (have e0:k0+k2=l.length:=by omega
         have e1:=hC.num
         have e2:=hC.tk
         rw [e0,List.take_length] at e1 e2
         have q:=h (List.take k (List.map Access.v C)++List.replicate (l.length-k) (tab.zero 60)++List.drop (k+(l.length-k)) (List.map Access.v C)) (by rw [← e1];simp;omega) (by rw [← e1,List.append_assoc,List.take_append_of_le_length (by simp;omega),List.take_take,Nat.min_self,← List.map_take,e2])
         rw [← e1] at q
         exact q))
end Go.Eng.Tryz
namespace Go.Eng.Tryz
open Go.RowKit Go.Eng
set_option maxHeartbeats 0
set_option maxRecDepth 20000
theorem QKm {p:Prg} {s:Stt} {g:Int} {l Y:List Access} (hs:Smalls l) (hk:SameKey l) (h1:Y.Perm l) (h2:Y.Pairwise (fun a b=>XW a≤XW b)) (e:Zm l []=touch p s g):W6 Y=touch p s g:=(QHT hs hk h1 h2).trans e
theorem wa (l:List Access) {n:Nat} (hln:l.length=n) (hl7:l.length≤7) {o0 o1 o2:Obj} {tm:Tm} {out:List Tm} {nt:Nat} {xs:List Obj} {K:St→E→Prop} (h:∀ Y:List V,(W6 l).length≤Y.length→Y.take (W6 l).length=(W6 l).map Access.v→K { tm:=tm,ob:=o0::o1::o2::.row 60 (Y)::xs,out:=out,nt:=nt } (.sl 3 60 0 (W6 l).length false)):CallE Go.Proofs.Tryz.prog tab { tm:=tm,ob:=o0::o1::o2::.row 60 (l.map Access.v)::xs,out:=out,nt:=nt } 155 [.sl 3 60 0 n false] K:=by
 subst hln
 exact QAB l hl7 h
theorem QHL {s:Stt} {g k:Int} (h:XU s g k=true):k≠g:=by
 unfold XU at h
 simp at h
 exact h.2
theorem QHn {l Y:List Access} (h:Y.Perm l) (hn:l.length≤7):Y.length≤7:=by rw [h.length_eq];exact hn
def QLF:List (List Nat):=[[]]
theorem xF {P S:V} {L:List Access} {k n:Int} {w:Bool} {tm:Tm} {out:List Tm} {nt:Nat} {xs:List Obj} {K:St→E→Prop} (hL:L.length≤1000) (hx:xs.map (Obj.kill 3)=xs) (hk1:Tm.kill 3 tm=tm) (hk2:out.map (Tm.kill 3)=out) (h:K { tm:=tm,ob:=.var 26 (.data 26 P)::.var 47 (.data 47 S)::.var 94 (.sl 3 60 0 (QX L k n w).length false)::.row 60 ((QX L k n w).map Access.v)::(xs++[.row 60 [Access.v ⟨k,n,w⟩]]),out:=out,nt:=nt } (.tup [])):CallE Go.Proofs.Tryz.prog tab { tm:=tm,ob:=.var 26 (.data 26 P)::.var 47 (.data 47 S)::.var 94 (.sl 3 60 0 L.length false)::.row 60 (L.map Access.v)::xs,out:=out,nt:=nt } 152 [.int .i64 k,.int .i64 n,.bool w,.ptr 2 [] 94] K:=by
 have hk1':(tm.map fun x=>(x.1,x.2.1,E.kill 3 x.2.2))=tm:=hk1
 have hmx:5000≤maxLen:=by decide
 refine CallE.body ok Go.Proofs.Tryz.func152 rfl rfl 14 rfl [] rfl (by simp) ?_
 simp only [enter,Zr,Nat.zero_add,Nat.reduceAdd]
 repeat' first
  | ((with_reducible refine Zx fun R1 hR1=>?_);(simp only [go_sem,seval,-List.reduceReplicate,hk1',hk2,hx,List.getElem?_cons_succ,List.set_cons_succ,List.set_cons_zero,V0]);(repeat' with_reducible refine And.intro ?_ ?_);all_goals first|(refine hR1 _ ?_;clear hR1 R1)|omega|rfl|decide|assumption|(intro _;omega)|(simp;done)|(simp [-List.getD_eq_getElem?_getD];omega)|exact hcode _|(intro _;exact hcode _)|exact hsl _|(intro _;exact hsl _)|(simp [-List.getD_eq_getElem?_getD,QF,maxLen,YN,Q0,Qz,Qw,Qx];omega)|(simp [-List.getD_eq_getElem?_getD,QF,maxLen,YN,Q0,Qz,Qw,Qx];done))
  | ((with_reducible refine Zw ?_);refine hR _ ?_;clear hR R;try simp only [go_sem,QLF,Nat.reduceBEq])
  | (with_reducible first|refine J1 ?_|refine J2 ?_|refine ZL ?_|refine ZS ?_)
  | ((with_reducible refine rg QLF fun R hR=>?_);simp only [go_sem,QC])
  | ((with_reducible first|refine vd ?_|refine xA ?_)
     simp only [go_sem,QS,QW,QM,seval]
     have e:(((tab.zero 60).setSub 0 (V.int k)).setSub 1 (V.int n)).setSub 2 (V.bool w)=Access.v ⟨k,n,w⟩:=rfl
     simp only [e]
     simpa [QX,hx,Obj.kill,List.take_of_length_le] using h)
def Yy:List (List Nat):=[[2,3,4],[2,3,4,7],[2,3,4,7,8],[2,3,4,7,8],[2,3,4,7,8,9],[2,3,4,7,8,9,22],[2,3,4,7,8,9,22,23],[7],[2,3,4,7,8,9,22,29],[7],[2,3,4,7,8,9,22,35],[7],[2,3,4,7,8,9,22,41],[2,3,4,7,8,9,22,41],[7],[2,3,4,7,8,9,22,48],[2,3,4,7,8,9,22,48],[7],[2,3,4,7,8,9,22,55],[7],[2,3,4,7,8,9,22,61],[2,3,4,7,8,9,22,61],[2,3,4,7,8,9,22,61],[7],[2,3,4,7,8,9,22,69],[7],[2,3,4,7,8,9,22,75],[7,8,91,92,93],[7,8,91,92,93,94],[7,8,11,91,92,93],[7,8,91,92,93],[7,8,91,92,93],[2,4,7,8,9,22,102],[4,7,8],[4,7,8,108],[7],[2,4,7,8,9,22,113],[2,4,7,8,9],[2,4,7,8,12],[7,8,12,128],[7],[7,8,132],[7],[7],[6]]
end Go.Eng.Tryz
