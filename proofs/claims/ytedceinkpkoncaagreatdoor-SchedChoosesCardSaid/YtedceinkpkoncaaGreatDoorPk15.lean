/- A part of the proof: walks through the program's functions, and what they compute. -/
import Derived.Test.YtedceinkpkoncaaGreatDoorPk14
set_option linter.unusedSimpArgs false
set_option linter.unusedVariables false
namespace Go.Eng.Tryz
open Go.RowKit Go.Eng
set_option maxHeartbeats 0
set_option maxRecDepth 20000
theorem Wh (p:Prg) (s:Stt) (hp:p.Fit) (hs:s.Shape):Ctr Go.Proofs.Tryz.prog tab 26 [26,37] [64,49] [p.v,s.v] [.list ((if ZO p s=0 then ready p s else []).map Pck.v),.int (ZO p s)]:=by
 have hpp:=hp
 have hfit:=hp
 have hcode:=p.code_len hp
 have hsl:=p.sels_len hp
 obtain ⟨hp1,hp2,hp3,hp4⟩:=hp
 have hmx:256≤maxLen:=by decide
 refine Ctr.body ok Go.Proofs.Tryz.func26 rfl rfl 43 rfl [.tmp 4,.tmp 5] rfl (by simp [QE]) ?_
 simp only [go_sem,Nat.reduceAdd]
 repeat' first
  | ((with_reducible refine Q2 fun R1 hR1=>?_);(simp only [go_sem,seval,-List.reduceReplicate,Bool.cond_false_right,Bool.cond_true_left,QCF,z39,z3]);(repeat' with_reducible refine And.intro ?_ ?_);all_goals first|(refine hR1 _ ?_;clear hR1 R1)|((first|refine cq (cc (Vg p s hpp hs)) ?_|refine ce (cf (QBL s hs) ?_)|refine ce (cf (WA p s ((Qi s 6).getD i 0) hpp hr hv hgi.1 hgi.2) ?_));all_goals ((try simp only [go_sem,seval,-List.reduceReplicate,Bool.cond_false_right,Bool.cond_true_left,QCF,z39,z3]);(repeat' with_reducible refine And.intro ?_ ?_);all_goals first|(refine hR1 _ ?_;clear hR1 R1)|exact Xk))|exact Xk)
  | ((with_reducible refine Q1 ?_);refine hR _ ?_;clear hR R;try simp only [go_sem,QK0,Nat.reduceBEq])
  | (with_reducible first|refine J1 ?_|refine J2 ?_|refine J3 ?_|refine J4 ?_|refine J5 ?_|refine J6 ?_|refine J7 ?_|refine J8 (by decide) ?_|refine J9 ?_|refine WL ?_|refine Q0 ?_|refine Qz ?_|refine YZ ?_|refine WK ?_)
  | ((with_reducible refine QZ 4 ?_)
     have hr:=(YP hb16).1
     have hok:=Prg.ok hr
     have hv:=Vld.of hok hs (YP hb16).2
     have hw:=hv.wf hok hr
     have hll:=yF s 6
     (with_reducible refine rg QK0 fun R hR=>?_);simp only [go_sem,QC])
  | ((with_reducible refine QZ 8 ?_)
     have hgi:=QBc hv (k:=i) (by omega)
     have hal:=WB hok hw ((Qi s 6).getD i 0)
     have hrl:=QDx hok hw ((Qi s 6).take i)
     rw [List.length_take] at hrl
     (with_reducible refine rg QK0 fun R hR=>?_);simp only [go_sem,QC])
  | ((with_reducible refine rg QK0 fun R hR=>?_);simp only [go_sem,QC])
  | ((with_reducible refine QH 16 rfl (fun hb16=>?_) fun hb16=>?_);all_goals (try simp [-List.getD_eq_getElem?_getD] at hb16;try (exfalso;omega)))
  | ((with_reducible refine SA.cond rfl ?_ ?_)
     all_goals
      intro hb
      try simp [-List.getD_eq_getElem?_getD] at hb
      try (exfalso;omega))
  | ((with_reducible refine YQ ?_)
     refine Zo ((St.le.own (t:=7) 39 rfl).trans ((St.le.keep [2,3,7,19,20,21]).trans (Qq (by first|rfl|(simp;done)|fail)))) (YR (fun n τ=>∃ (i:Nat),n=(Qi s 6).length-i∧(i≤(Qi s 6).length)∧τ={ tm:=[(2,true,.ptr 0 [] 26),(3,true,.ptr 1 [] 37),(7,true,.sl 3 39 0 (xe p s ((Qi s 6).take i)).length false),(19,true,.sl 2 3 0 (Qi s 6).length false),(20,true,.int .i64 (Qi s 6).length),(21,true,.int .i64 i)],ob:=[.var 26 (.data 26 p.v),.var 37 (.data 37 s.v),.row 3 ((Qi s 6).map V.int),.row 39 ((xe p s ((Qi s 6).take i)).map Pck.v)],out:=[],nt:=43 }) ((Qi s 6).length) ⟨0,rfl,by omega,rfl⟩ ?_)
     rintro n τ ⟨i,hn,hi,rfl⟩)
  | ((with_reducible refine YQ ?_)
     refine Zo (Qq (by first|(simp;done)|fail)) (YR (fun n τ=>∃ (j:Nat),n=(Qj p s ((Qi s 6).getD i 0)).length-j∧(j≤(Qj p s ((Qi s 6).getD i 0)).length)∧τ={ tm:=[(2,true,.ptr 0 [] 26),(3,true,.ptr 1 [] 37),(7,true,.sl 3 39 0 (xe p s ((Qi s 6).take i)++((Qj p s ((Qi s 6).getD i 0)).take j).map fun a=>(⟨(Qi s 6).getD i 0,a⟩:Pck)).length false),(9,true,.int .i64 ((Qi s 6).getD i 0)),(19,true,.sl 2 3 0 (Qi s 6).length false),(20,true,.int .i64 (Qi s 6).length),(21,true,.int .i64 i),(28,true,.sl 4 3 0 (Qj p s ((Qi s 6).getD i 0)).length false),(29,true,.int .i64 (Qj p s ((Qi s 6).getD i 0)).length),(30,true,.int .i64 j)],ob:=[.var 26 (.data 26 p.v),.var 37 (.data 37 s.v),.row 3 ((Qi s 6).map V.int),.row 39 ((xe p s ((Qi s 6).take i)++((Qj p s ((Qi s 6).getD i 0)).take j).map fun a=>(⟨(Qi s 6).getD i 0,a⟩:Pck)).map Pck.v),.row 3 ((Qj p s ((Qi s 6).getD i 0)).map V.int)],out:=[],nt:=43 }) ((Qj p s ((Qi s 6).getD i 0)).length) ⟨0,rfl,by omega,rfl⟩ ?_)
     rintro n τ ⟨j,hn,hj,rfl⟩)
  | ((with_reducible refine WM ?_)
     first
      | (have hlt:i<(Qi s 6).length:=by omega
         have hw:=QD (n:=i) (m:=256) (by omega) (by decide)
         have hj':j=(Qj p s ((Qi s 6).getD i 0)).length:=by omega
         subst hj'
         have e:(Qi s 6).take (i+1)=(Qi s 6).take i++[(Qi s 6).getD i 0]:=VO hlt
         refine Zt ((Qi s 6).length-(i+1)) _ (by omega) ((WN 4 rfl).trans (Qq (by simp only [hw,e,QBJ,List.take_length,List.take_succ_cons,List.take_zero]))) ⟨i+1,rfl,hlt,rfl⟩)
      | (have hlt:j<(Qj p s ((Qi s 6).getD i 0)).length:=by omega
         have hw:=QD (n:=j) (m:=256) (by omega) (by decide)
         have e:(Qj p s ((Qi s 6).getD i 0)).take (j+1)=(Qj p s ((Qi s 6).getD i 0)).take j++[(Qj p s ((Qi s 6).getD i 0)).getD j 0]:=VO hlt
         refine Zt ((Qj p s ((Qi s 6).getD i 0)).length-(j+1)) _ (by omega) ((WN 5 rfl).trans (Qq (by simp [-List.getD_eq_getElem?_getD,hw,e,Pck.v,List.take_of_length_le,Nat.add_assoc]))) ⟨j+1,rfl,hlt,rfl⟩))
  | ((with_reducible first|refine ZH ?_|refine ZG ?_)
     simp only [go_sem,QJ,QK,QG,seval]
     first
      | (have q:¬_:=hb16
         refine ⟨⟨rfl,?_⟩,rfl⟩
         rw [if_neg hb16]
         rfl)
      | (have hi':i=(Qi s 6).length:=by omega
         subst hi'
         rw [hb16]
         refine ⟨⟨rfl,?_,?_⟩,rfl,rfl⟩
         · rw [if_pos rfl,List.take_length,QG0 hv]
           simp [List.take_of_length_le]
         · intro e h j u lo n c q
           simp at h
           subst h
           cases q))
end Go.Eng.Tryz
namespace Go.Eng.Tryz
open Go.RowKit Go.Eng
set_option maxHeartbeats 0
set_option maxRecDepth 20000
def del (p:Prg) (s:Stt) (g:Int):Bool:=decide (0<(Qj p s g).length)
theorem QBA {p:Prg} {s:Stt} {l:List Int} (h:∀ k,k<l.length→del p s (l.getD k 0)=false):Yc p s l=l:=by
 unfold Yc
 rw [List.filter_eq_self]
 intro a ha
 obtain ⟨k,hk,rfl⟩:=List.mem_iff_getElem.1 ha
 have:=h k hk
 unfold del at this
 rw [List.getD_eq_getElem?_getD,List.getElem?_eq_getElem hk,Option.getD_some] at this
 rw [this];rfl
theorem zx (p:Prg) (s:Stt) (l:List Int) (g:Int):Yc p s (l++[g])=Yc p s l++if del p s g=true then [] else [g]:=by
 unfold Yc
 rw [List.filter_append]
 congr 1
 unfold del
 by_cases h:0<(Qj p s g).length
 · rw [decide_eq_true h];simp [h]
 · rw [decide_eq_false h];simp [h]
structure DInv (p:Prg) (s:Stt) (l:List Int) (i j:Nat) (R:List Int):Prop where
 lt:i<j
 len:R.length=l.length
 num:i=(Yc p s (l.take j)).length
 tk:R.take i=Yc p s (l.take j)
 dr:R.drop j=l.drop j
theorem DInv.at_ {p:Prg} {s:Stt} {l R:List Int} {i j:Nat} (h:DInv p s l i j R) (hj:j<l.length):R.getD j 0=l.getD j 0:=by
 have:=congrArg (fun m:List Int=>m.getD 0 0) h.dr
 simpa [List.getD_eq_getElem?_getD] using this
theorem DInv.first {p:Prg} {s:Stt} {l:List Int} {i:Nat} (hi:i<l.length) (hp:∀ k,k<i→del p s (l.getD k 0)=false) (hd:del p s (l.getD i 0)=true):DInv p s l i (i+1) l:=by
 have e:Yc p s (l.take i)=l.take i:=QBA fun k hk=>by
  rw [List.length_take] at hk
  have:=hp k (by omega)
  rw [List.getD_eq_getElem?_getD,List.getElem?_take_of_lt (by omega),← List.getD_eq_getElem?_getD]
  exact this
 have e2:Yc p s (l.take (i+1))=l.take i:=by rw [VO hi,zx,e,if_pos hd,List.append_nil]
 exact ⟨by omega,rfl,by rw [e2,List.length_take];omega,by rw [e2],rfl⟩
theorem DInv.drop {p:Prg} {s:Stt} {l R:List Int} {i j:Nat} (h:DInv p s l i j R) (hj:j<l.length) (hd:del p s (R.getD j 0)=true):DInv p s l i (j+1) R:=by
 rw [h.at_ hj] at hd
 have e2:Yc p s (l.take (j+1))=Yc p s (l.take j):=by rw [VO hj,zx,if_pos hd,List.append_nil]
 have:=h.lt
 refine ⟨by omega,h.len,by rw [e2];exact h.num,by rw [e2];exact h.tk,?_⟩
 rw [← List.drop_drop,h.dr,List.drop_drop]
theorem DInv.keep {p:Prg} {s:Stt} {l R:List Int} {i j:Nat} (h:DInv p s l i j R) (hj:j<l.length) (hd:del p s (R.getD j 0)=false):DInv p s l (i+1) (j+1) (R.set i (R.getD j 0)):=by
 rw [h.at_ hj] at hd ⊢
 have e2:Yc p s (l.take (j+1))=Yc p s (l.take j)++[l.getD j 0]:=by rw [VO hj,zx,if_neg (by rw [hd];simp)]
 have hl:=h.lt
 have hn:=h.len
 refine ⟨by omega,by rw [List.length_set];exact h.len,by rw [e2,List.length_append,← h.num];rfl,?_,?_⟩
 · rw [e2,VO (by rw [List.length_set];omega),List.take_set_of_le (by omega),h.tk]
   congr 1
   rw [List.getD_eq_getElem?_getD,List.getElem?_set_self (by omega)];rfl
 · rw [List.drop_set_of_lt (by omega),← List.drop_drop,h.dr,List.drop_drop]
end Go.Eng.Tryz
namespace Go.Eng.Tryz
open Go.RowKit Go.Eng
set_option maxHeartbeats 0
set_option maxRecDepth 20000
theorem QFo {j:Nat} (h:j≤1000):(IntKind.i64.wrap ((j:Int)-1)).toNat=j-1:=by rw [QU (by omega) (by omega)];omega
theorem QEm {j:Nat} (h:j≤1000) (h0:0<j):IntKind.i64.wrap ((j:Int)-1)=((j-1:Nat):Int):=by rw [QU (by omega) (by omega)];omega
theorem Xh {R:List Access} {k:Nat} (h:k<R.length) (d:V):(R.map Access.v).getD k d=(Yz R k).v:=by
 unfold Yz
 simp [List.getD_eq_getElem?_getD,h]
theorem QOT:∀ n:Fin 8,QOU n.1=(Zm n.1:Int):=by decide +kernel
theorem QHJ (n:Nat) (hn:n≤7):Ctr Go.Proofs.Tryz.prog tab 176 [240] [3] [.int n] [.int (QOU n)]:=by
 rw [QOT ⟨n,by omega⟩]
 exact QEI n (by omega)
def QMh:List (List Nat):=[[2,3],[2,3,9],[4],[4]]
theorem zL (a b:Access) (ha:Wc a) (hb:Wc b):Ctr Go.Proofs.Tryz.prog tab 110 [45,45] [3] [a.v,b.v] [.int (QLV a b)]:=by
 refine Ctr.body ok Go.Proofs.Tryz.func110 rfl rfl 20 rfl [.tmp 4] rfl (by simp [QE]) ?_
 simp only [go_sem,Nat.reduceAdd]
 repeat' first
  | ((with_reducible refine Q2 fun R1 hR1=>?_);(simp only [go_sem,seval,-List.reduceReplicate,Bool.cond_false_right,Bool.cond_true_left]);(repeat' with_reducible refine And.intro ?_ ?_);all_goals first|(refine hR1 _ ?_;clear hR1 R1)|exact ZQ)
  | ((with_reducible refine Q1 ?_);refine hR _ ?_;clear hR R;try simp only [go_sem,QMh,Nat.reduceBEq])
  | (with_reducible first|refine J1 ?_|refine J2 ?_|refine J3 ?_|refine Q0 ?_|refine Qz ?_)
  | ((with_reducible refine rg QMh fun R hR=>?_);simp only [go_sem,QC])
  | ((with_reducible refine QH 9 rfl (fun hb9=>?_) fun hb9=>?_);all_goals (try simp [-List.getD_eq_getElem?_getD] at hb9;try (exfalso;omega)))
  | ((with_reducible first|refine ZH ?_|refine ZG ?_)
     simp only [go_sem,QJ,QK,QG,seval]
     have q:=hb9
     refine ⟨rfl,congrArg (fun e=>some (V.int e)) ?_⟩
     unfold Wc at ha hb
     unfold QLV
     rw [QU (by omega) (by omega)]
     first|rw [if_pos hb9]|rw [if_neg hb9])
def QMT:List (List Nat):=[[0],[2],[2]]
theorem QLD (n:Nat) (hn:n≤7):Ctr Go.Proofs.Tryz.prog tab 146 [209] [3] [.int n] [.int (QOU n)]:=by
 refine Ctr.body ok Go.Proofs.Tryz.func146 rfl rfl 8 rfl [.tmp 2] rfl (by simp [QE]) ?_
 simp only [go_sem,Nat.reduceAdd]
 repeat' first
  | ((with_reducible refine Q2 fun R1 hR1=>?_);(simp only [go_sem,seval,-List.reduceReplicate,Bool.cond_false_right,Bool.cond_true_left]);(repeat' with_reducible refine And.intro ?_ ?_);all_goals first|(refine hR1 _ ?_;clear hR1 R1)|((first|refine cq (cc (QHJ n hn)) ?_);all_goals ((try simp only [go_sem,seval,-List.reduceReplicate,Bool.cond_false_right,Bool.cond_true_left]);(repeat' with_reducible refine And.intro ?_ ?_);all_goals first|(refine hR1 _ ?_;clear hR1 R1)|exact ZQ))|exact ZQ)
  | ((with_reducible refine Q1 ?_);refine hR _ ?_;clear hR R;try simp only [go_sem,QMT,Nat.reduceBEq])
  | (with_reducible first|refine J1 ?_|refine J2 ?_|refine J3 ?_|refine Q0 ?_|refine Qz ?_)
  | ((with_reducible refine rg QMT fun R hR=>?_);simp only [go_sem,QC])
  | ((with_reducible first|refine SA.condF ?_|refine SA.condT ?_))
  | ((with_reducible first|refine ZH ?_|refine ZG ?_)
     simp only [go_sem,QJ,QK,QG,seval]
     exact rfl)
def QBW:List (List Nat):=[[0,1,2,3,8],[0,1,2,3,8,14],[0,1,2,3,8],[0,1,2,3,8,9],[0,1,2,3,8,9,34],[0,1,2,3,8,9],[0,1,2,3,8,9]]
theorem QCk (l:List Access) (hs:∀ a∈l,Wc a) (hn:l.length≤7) {o0 o1 o2:Obj} {tm:Tm} {out:List Tm} {nt:Nat} {xs:List Obj} {K:St→E→Prop} (h:∀ R:List Access,R.Perm l→R.Pairwise (fun a b=>Xm a≤Xm b)→K { tm:=tm,ob:=o0::o1::o2::.row 45 (R.map Access.v)::xs,out:=out,nt:=nt } (.tup [])):CallE Go.Proofs.Tryz.prog tab { tm:=tm,ob:=o0::o1::o2::.row 45 (l.map Access.v)::xs,out:=out,nt:=nt } 167 [.sl 3 45 0 l.length false,.int .i64 0,.int .i64 l.length,.fn 110 []] K:=by
 refine CallE.body ok Go.Proofs.Tryz.func167 rfl rfl 53 rfl [] rfl (by simp) ?_
 simp only [enter,Zl,Nat.zero_add,Nat.reduceAdd]
 repeat' first
  | ((with_reducible refine SARQ.told 4 9 ?_)
     rw [Xh (by omega)])
  | ((with_reducible refine SARQ.told 4 13 ?_)
     rw [QFo (by omega)])
  | ((with_reducible refine SARQ.told 4 14 ?_)
     rw [Xh (by omega)])
  | ((with_reducible first|refine Q2 fun R1 hR1=>?_|refine xP fun R1 hR1=>?_|refine qR fun R1 hR1=>?_|refine qQ fun R1 hR1=>?_|refine qP fun R1 hR1=>?_);(simp only [go_sem,seval,-List.reduceReplicate,Bool.cond_false_right,Bool.cond_true_left]);(repeat' with_reducible refine And.intro ?_ ?_);all_goals first|(refine hR1 _ ?_;clear hR1 R1)|(intro hgf;simp only [hgf];refine hR1 _ ?_;clear hR1 R1)|((first|refine ⟨_,_,rfl,_,CallQ.ctr ok (zL (Yz Y j) (Yz Y (j-1)) (hI.all hs (by omega)) (hI.all hs (by omega))) (by first|rfl|(simp [go_sem];done)|fail) rfl,?_⟩|refine ⟨_,_,rfl,_,fun hg=>CallQ.ctr ok (zL (Yz Y j) (Yz Y (j-1)) (hI.all hs (by omega)) (hI.all hs (by omega))) (by first|rfl|(simp [go_sem];done)|fail) rfl,?_⟩|refine cq (cc (zL (Yz Y j) (Yz Y (j-1)) (hI.all hs (by omega)) (hI.all hs (by omega)))) ?_|refine ⟨_,_,rfl,.inl ⟨_,fun hg=>CallQ.ctr ok (zL (Yz Y j) (Yz Y (j-1)) (hI.all hs (by omega)) (hI.all hs (by omega))) (by first|rfl|(simp [go_sem];done)|fail) rfl,?_⟩⟩);all_goals ((try simp only [go_sem,seval,-List.reduceReplicate,Bool.cond_false_right,Bool.cond_true_left]);(repeat' with_reducible refine And.intro ?_ ?_);all_goals first|(refine hR1 _ ?_;clear hR1 R1)|(intro hgf;simp only [hgf];refine hR1 _ ?_;clear hR1 R1)|exact ZQ|(intro q;rw [hwj (by simpa using q)];have q:=of_decide_eq_true q;omega)))|exact ZQ|(intro q;rw [hwj (by simpa using q)];have q:=of_decide_eq_true q;omega))
  | ((with_reducible refine SART.doneAt 6 ?_);refine hR _ ?_;clear hR R;try simp only [go_sem,QBW,Nat.reduceBEq]
     exact Qq (by simp only [St.keep,List.filterMap_cons,List.filterMap_nil,List.lookup_cons,List.lookup_nil,Option.map_some,Option.map_none,beq_self_eq_true,Nat.reduceBEq,swp,List.map_set,hwp,he1,he2]<;>first|rfl|rw [List.set_comm _ _ (show j-1≠j by omega)]))
  | ((with_reducible first|refine qO ?_|refine Q1 ?_|refine xO ?_);refine hR _ ?_;clear hR R;try simp only [go_sem,QBW,Nat.reduceBEq])
  | (with_reducible first|refine qN ?_ ?_|exact qM|refine qL ?_ ?_)
  | (with_reducible first|refine J1 ?_|refine J2 ?_|refine J3 ?_|refine J4 ?_|refine J5 ?_|refine J6 ?_|refine J7 ?_|refine J8 (by decide) ?_|refine J9 ?_|refine WL ?_|refine Q0 ?_|refine Qz ?_|refine YZ ?_|refine WK ?_)
  | ((with_reducible refine QZ 4 ?_)
     have hwj:0<j→IntKind.i64.wrap ((j:Int)-1)=((j-1:Nat):Int):=fun h0=>QEm (by have:=hI.lt;have:=hI.le;omega) h0
     have hwp:=QFo (j:=j) (by have:=hI.lt;have:=hI.le;omega)
     have he1:=Xh (R:=Y) (k:=j) (by have:=hI.lt;have:=hI.le;have:=hI.len;omega) default
     have he2:=Xh (R:=Y) (k:=j-1) (by have:=hI.lt;have:=hI.le;have:=hI.len;omega) default
     have hjn:=hI.lt
     have hjl:=hI.len
     have hjle:=hI.le
     (with_reducible refine Vv ok QN (by kernel_rfl) (by kernel_rfl) QBW ?_);intro R hR;simp only [go_sem,QC])
  | ((with_reducible refine QZ 6 ?_)
     have hjn:=hI.lt
     have hjl:=hI.len
     have hjle:=hI.le
     refine J35 ok QN (.take 0 (.take 1 (.take 5 (.take 6 (.take 7 (.take 8 (.take 9 (.take 10 (.take 11 (.take 12 (.take 13 (.take 14 (.br 2 (.br 3 (.br 4 (.br 15 (.take 16 (.br 17 .done .nil)) .nil) (.br 15 (.take 4 (.take 16 (.br 17 .done .nil))) .nil)) (.br 15 (.take 3 (.take 4 (.take 16 (.br 17 .done .nil)))) .nil)) (.br 3 (.br 2 (.br 4 (.br 15 (.take 16 (.br 17 .done .nil)) .nil) (.br 15 (.take 4 (.take 16 (.br 17 .done .nil))) .nil)) (.br 4 (.br 2 (.br 15 (.take 16 (.br 17 .done .nil)) .nil) (.br 15 (.take 2 (.take 16 (.br 17 .done .nil))) .nil)) (.br 15 (.take 2 (.take 4 (.take 16 (.br 17 .done .nil)))) .nil))) (.br 15 (.take 2 (.take 3 (.take 4 (.take 16 (.br 17 .done .nil))))) .nil))))))))))))))) [15,17] QBW (by kernel_rfl) ({ tm:=[(0,true,.sl 3 45 0 l.length false),(1,true,.int .i64 0),(2,true,.int .i64 l.length),(3,true,.fn 110 []),(8,true,.int .i64 i),(9,true,.int .i64 j)],ob:=o0::o1::o2::.row 45 ((swp Y j).map Access.v)::xs,out:=tm::out,nt:=53 }) (fun R hR=>?_) ?_;simp only [go_sem,QC])
  | ((with_reducible refine rg QBW fun R hR=>?_);simp only [go_sem,QC])
  | ((with_reducible refine Vv ok QN (by kernel_rfl) (by kernel_rfl) QBW ?_);intro R hR;simp only [go_sem,QC])
  | ((with_reducible refine QH 14 rfl (fun hb14=>?_) fun hb14=>?_);all_goals (try simp [-List.getD_eq_getElem?_getD] at hb14;try (exfalso;omega)))
  | ((with_reducible refine QH 34 rfl (fun hb34=>?_) fun hb34=>?_);all_goals (try simp [-List.getD_eq_getElem?_getD] at hb34;try (exfalso;omega)))
  | ((with_reducible refine YQ ?_)
     refine Zo (Qq (by first|rfl|(simp;done)|fail)) (YR (fun n τ=>∃ (i:Nat) (Y:List Access),n=l.length-i∧((1≤i∧(i≤l.length∨i=1))∧SInvO l Y i)∧τ={ tm:=[(0,true,.sl 3 45 0 l.length false),(1,true,.int .i64 0),(2,true,.int .i64 l.length),(3,true,.fn 110 []),(8,true,.int .i64 i)],ob:=o0::o1::o2::.row 45 (Y.map Access.v)::xs,out:=tm::out,nt:=53 }) (l.length-1) ⟨1,l,rfl,⟨by omega,SInvO.first l⟩,rfl⟩ ?_)
     rintro n τ ⟨i,Y,hn,⟨hi,hO⟩,rfl⟩)
  | ((with_reducible refine YQ ?_)
     refine Zo (Qq (by first|rfl|(simp;done)|fail)) (YR (fun n τ=>∃ (j:Nat) (Y:List Access),n=j∧(SInvI l Y i j)∧τ={ tm:=[(0,true,.sl 3 45 0 l.length false),(1,true,.int .i64 0),(2,true,.int .i64 l.length),(3,true,.fn 110 []),(8,true,.int .i64 i),(9,true,.int .i64 j)],ob:=o0::o1::o2::.row 45 (Y.map Access.v)::xs,out:=tm::out,nt:=53 }) (i) ⟨i,Y,rfl,hO.inner (by omega),rfl⟩ ?_)
     rintro n τ ⟨j,Y,hn,hI,rfl⟩)
  | ((with_reducible refine WM ?_)
     first
      | (have hl9:i<l.length:=by omega
         have hw:=QD (n:=i) (m:=256) (by omega) (by decide)
         have hle:=hI.done (by rcases Nat.eq_zero_or_pos j with h0|h0;exact .inl h0;right;have h1:=hb34 (by omega);have h2:=QGa (hI.all hs (k:=j) (by omega)) (hI.all hs (k:=j-1) (by omega));omega)
         refine Zt (l.length-(i+1)) _ (by omega) (Qq (by simp only [hw])) ⟨i+1,Y,rfl,⟨by omega,hle⟩,rfl⟩)
      | (have q:_∧_:=hb34
         have h0:0<j:=by omega
         have h2:=QGa (hI.all hs (k:=j) (by omega)) (hI.all hs (k:=j-1) (by omega))
         refine Zt (j-1) _ (by omega) (Qq (by simp only [hwj h0])) ⟨j-1,swp Y j,rfl,hI.swap h0 (h2.1 q.2),rfl⟩))
  | ((with_reducible first|refine xS ?_|refine xR ?_)
     simp only [go_sem,QJ,QK,QG,seval]
     exact h Y hO.perm (hO.sorted (by omega)))
def QI6:List (List Nat):=[[0,1,2,3,4,10],[0,1,2,3,4,10,11],[0,1,2,3,4,10,11,12],[0,1,2,3,4,10,11,12,25],[],[0,1,2,3,4,10,11,12,32],[],[0,1,2,3,4,10,11,12,39],[0,1,2,3,4,10,11,12],[0,1,2,3,4,10,11,12],[0,1,2,3,4,10,11,12,13,14],[0,1,2,3,4,10,11,12,13,14,56],[0,1,2,3,4,10,11,12,13],[0,1,2,3,4,10,11,12,13],[0,1,2,3,4,10,11,12,13,14],[0,1,2,3,4,10,11,12,13,75],[0,1,2,3,4,10,11,12,13,80],[0,1,2,3,4,10,11,12,13,97],[0,2,3,4,10,11,15],[0,1,2,3,4,10,11],[0,1,2,3,4,12,16,17],[0,1,2,3,4,11,12,16],[0,1,2,3,4,11,12,16,18,19],[0,1,2,3,4,11,16,18,19,20],[0,1,2,3,4,11,16,18,19,20,125],[0,1,2,3,4,10,11,16],[0,2,3,4,10,11,16],[0,1,2,3,4,10,11],[0,1,2,3,4,10,11,16],[0,1,3,4,10,11,16],[0,1,2,3,4,10,11]]
theorem QG1 (l:List Access) (hs:∀ a∈l,Wc a) (hl7:l.length≤7) (lim:Int) {o0 o1 o2:Obj} {tm:Tm} {out:List Tm} {nt:Nat} {xs:List Obj} {K:St→E→Prop} (h:∀ R:List Access,R.Perm l→R.Pairwise (fun a b=>Xm a≤Xm b)→K { tm:=tm,ob:=o0::o1::o2::.row 45 (R.map Access.v)::xs,out:=out,nt:=nt } (.tup [])):CallE Go.Proofs.Tryz.prog tab { tm:=tm,ob:=o0::o1::o2::.row 45 (l.map Access.v)::xs,out:=out,nt:=nt } 145 [.sl 3 45 0 l.length false,.int .i64 0,.int .i64 l.length,.int .i64 lim,.fn 110 []] K:=by
 have hw0:IntKind.i64.wrap ((l.length:Int)-0)=l.length:=by rw [QU (by omega) (by omega)];omega
 refine CallE.body ok Go.Proofs.Tryz.func145 rfl rfl 148 rfl [] rfl (by simp) ?_
 simp only [enter,Zl,Nat.zero_add,Nat.reduceAdd]
 repeat' first
  | ((with_reducible first|refine Q2 fun R1 hR1=>?_|refine qR fun R1 hR1=>?_|refine qQ fun R1 hR1=>?_|refine qP fun R1 hR1=>?_);(simp only [go_sem,seval,-List.reduceReplicate,Bool.cond_false_right,Bool.cond_true_left,hw0]);(repeat' with_reducible refine And.intro ?_ ?_);all_goals first|(refine hR1 _ ?_;clear hR1 R1)|((first|refine ⟨_,_,rfl,.inr (QCk l hs hl7 fun Y hY1 hY2=>?_)⟩);all_goals ((try simp only [go_sem,seval,-List.reduceReplicate,Bool.cond_false_right,Bool.cond_true_left,hw0]);(repeat' with_reducible refine And.intro ?_ ?_);all_goals first|(refine hR1 _ ?_;clear hR1 R1)|exact ZQ))|exact ZQ)
  | ((with_reducible first|refine qO ?_|refine Q1 ?_);refine hR _ ?_;clear hR R;try simp only [go_sem,QI6,Nat.reduceBEq])
  | (with_reducible first|refine qN ?_ ?_|exact qM|refine qL ?_ ?_)
  | (with_reducible first|refine J1 ?_|refine J2 ?_|refine J3 ?_|refine J4 ?_|refine J5 ?_|refine J6 ?_|refine J7 ?_|refine J8 (by decide) ?_|refine J9 ?_|refine WL ?_|refine Q0 ?_|refine Qz ?_|refine YZ ?_|refine WK ?_)
  | ((with_reducible refine QZ 17 ?_)
     refine WJ ok QN (.take 0 (.take 1 (.take 2 (.take 3 (.take 4 (.take 5 (.take 6 (.take 7 (.take 8 (.take 9 (.take 10 (.take 11 (.take 12 (.br 13 (.take 14 (.take 15 (.take 16 .done))) .nil)))))))))))))) [] QI6 (by kernel_rfl) (fun R hR=>?_);simp only [go_sem,QC])
  | ((with_reducible refine rg QI6 fun R hR=>?_);simp only [go_sem,QC])
  | ((with_reducible refine QH 25 rfl (fun hb25=>?_) fun hb25=>?_);all_goals (try simp [-List.getD_eq_getElem?_getD] at hb25;try (exfalso;omega)))
  | ((with_reducible refine SA.cond rfl ?_ ?_)
     all_goals
      intro hb
      try simp [-List.getD_eq_getElem?_getD] at hb
      try (exfalso;omega))
  | ((with_reducible refine YQ ?_)
     refine Zo (Qq (by first|rfl|(simp;done)|fail)) (YR (fun n τ=>∃ (z:Nat),n=z∧(z=0)∧τ={ tm:=[(0,true,.sl 3 45 0 l.length false),(1,true,.int .i64 0),(2,true,.int .i64 l.length),(3,true,.int .i64 lim),(4,true,.fn 110 []),(10,true,.bool true),(11,true,.bool true)],ob:=o0::o1::o2::.row 45 (l.map Access.v)::xs,out:=tm::out,nt:=148 }) (0) ⟨0,rfl,rfl,rfl⟩ ?_)
     rintro n τ ⟨z,hn,hz,rfl⟩)
  | ((with_reducible first|refine xS ?_|refine xR ?_)
     simp only [go_sem,QJ,QK,QG,seval]
     exact h Y hY1 hY2)
def QMi:List (List Nat):=[[0,1,4],[]]
theorem QE2 (l:List Access) (hs:∀ a∈l,Wc a) (hn:l.length≤7) {o0 o1 o2:Obj} {tm:Tm} {out:List Tm} {nt:Nat} {xs:List Obj} {K:St→E→Prop} (h:∀ R:List Access,R.Perm l→R.Pairwise (fun a b=>Xm a≤Xm b)→K { tm:=tm,ob:=o0::o1::o2::.row 45 (R.map Access.v)::xs,out:=out,nt:=nt } (.tup [])):CallE Go.Proofs.Tryz.prog tab { tm:=tm,ob:=o0::o1::o2::.row 45 (l.map Access.v)::xs,out:=out,nt:=nt } 109 [.sl 3 45 0 l.length false,.fn 110 []] K:=by
 have hmx:256≤maxLen:=by decide
 have hu64:IntKind.u64.wrap (l.length:Int)=l.length:=by simp [IntKind.wrap,IntKind.signed,IntKind.bits];omega
 refine CallE.body ok Go.Proofs.Tryz.func109 rfl rfl 14 rfl [] rfl (by simp) ?_
 simp only [enter,Zl,Nat.zero_add,Nat.reduceAdd]
 repeat' first
  | ((with_reducible refine Q2 fun R1 hR1=>?_);(simp only [go_sem,seval,-List.reduceReplicate,Bool.cond_false_right,Bool.cond_true_left,hu64]);(repeat' with_reducible refine And.intro ?_ ?_);all_goals first|(refine hR1 _ ?_;clear hR1 R1)|((first|refine cq (cc (QLD l.length (by omega))) ?_|refine ⟨_,_,rfl,.inr (QG1 l hs hn _ fun Y hY1 hY2=>?_)⟩);all_goals ((try simp only [go_sem,seval,-List.reduceReplicate,Bool.cond_false_right,Bool.cond_true_left,hu64]);(repeat' with_reducible refine And.intro ?_ ?_);all_goals first|(refine hR1 _ ?_;clear hR1 R1)|exact ZQ))|exact ZQ)
  | ((with_reducible refine Q1 ?_);refine hR _ ?_;clear hR R;try simp only [go_sem,QMi,Nat.reduceBEq])
  | (with_reducible first|refine J1 ?_|refine J2 ?_|refine Q0 ?_|refine Qz ?_)
  | ((with_reducible refine rg QMi fun R hR=>?_);simp only [go_sem,QC])
  | ((with_reducible first|refine xS ?_|refine xR ?_)
     simp only [go_sem,QJ,QK,QG,seval]
     exact h Y hY1 hY2)
end Go.Eng.Tryz
namespace Go.Eng.Tryz
open Go.RowKit Go.Eng
set_option maxHeartbeats 0
set_option maxRecDepth 20000
theorem QBu {l:List Access} (h:l.length<2):VS l=l:=by
 match l,h with
 | [],_=>rfl
 | [_],_=>rfl
 | a::b::l,h=>simp at h;omega
theorem QJg {l:List Access} {k:Nat} (h0:0<k) (hk:k<l.length) (hc:VS (l.take k)=l.take k) (he:¬Yz l k=Yz l (k-1)):VS (l.take (k+1))=l.take (k+1):=by
 rw [xD h0 hk,if_neg he,hc,← vA hk]
theorem Ui (a b:Access):a.v.beq b.v=decide (a=b):=by
 obtain ⟨k,n,w⟩:=a
 obtain ⟨k',n',w'⟩:=b
 by_cases h1:k=k'<;>by_cases h2:n=n'<;>cases w<;>cases w'<;>simp [Access.v,V.beq,V.beqL,h1,h2]
theorem QHc (l:List Access):VS (l.take 1)=l.take 1:=QBu (by rw [List.length_take];omega)
def vq:List (List Nat):=[[0],[0,8],[2],[0,3],[0,3,13],[0,3],[0,3,25],[0,3,4],[0,3,4,5],[0,3,4,5,32],[0,3,4,5],[0,3,4,5,44],[0,3,4,5],[0,3,4,5],[0,3],[2],[2]]
end Go.Eng.Tryz
