/- A part of the proof: walks through the program's functions, and what they compute. -/
import Derived.Test.YtedceinkpkoncaaGreatDoorPk8
import Derived.Test.YtedceinkpkoncaaGreatDoorPk23
import Derived.Test.YtedceinkpkoncaaGreatDoorPk25
set_option linter.unusedSimpArgs false
set_option linter.unusedVariables false
namespace Go.Eng.Tryz
open Go.RowKit Go.Eng
set_option maxHeartbeats 0
set_option maxRecDepth 20000
theorem VN (p:Prg) (s:Stt) (hp:p.Fit) (hs:s.Shape):Ctr Go.Proofs.Tryz.prog tab 19 [26,37] [4] [p.v,s.v] [.bool (Zf p s)]:=by
 have hfit:=hp
 have hcode:=p.code_len hp
 have hsl:=p.sels_len hp
 obtain ⟨hp1,hp2,hp3,hp4⟩:=hp
 obtain ⟨hs1,hs2,hs3,hs4,hs5,hs6⟩:=hs
 refine Ctr.body ok Go.Proofs.Tryz.func19 rfl rfl 167 rfl [.tmp 4] rfl (by simp [QE]) ?_
 simp only [go_sem,Nat.reduceAdd]
 repeat' first
  | ((with_reducible refine SARQ.told 6 10 ?_)
     rw [YL (by omega)])
  | ((with_reducible refine SARQ.told 6 23 ?_)
     rw [YL (by omega)])
  | ((with_reducible refine SARA.told 23 10 ?_)
     rw [ZU (by omega)])
  | ((with_reducible first|refine Q2 fun R1 hR1=>?_|refine xP fun R1 hR1=>?_);(simp only [go_sem,seval,-List.reduceReplicate,Qv,Vy,wq,ws]);(repeat' with_reducible refine And.intro ?_ ?_);all_goals first|(refine hR1 _ ?_;clear hR1 R1)|((first|refine ⟨_,_,rfl,_,CallQ.ctr ok (YK p hfit) (by first|rfl|(simp [go_sem];done)|fail) rfl,?_⟩|refine ⟨_,_,rfl,_,fun hg=>CallQ.ctr ok (YK p hfit) (by first|rfl|(simp [go_sem];done)|fail) rfl,?_⟩|refine cq (cc (YK p hfit)) ?_|refine ⟨_,_,rfl,.inl ⟨_,fun hg=>CallQ.ctr ok (YK p hfit) (by first|rfl|(simp [go_sem];done)|fail) rfl,?_⟩⟩|refine ⟨_,_,rfl,_,CallQ.ctr ok (Wr p _ hfit hr (hs6 _ (Qn (i:=i) _ (by omega)))) (by first|rfl|(simp [go_sem];done)|fail) rfl,?_⟩|refine ⟨_,_,rfl,_,fun hg=>CallQ.ctr ok (Wr p _ hfit hr (hs6 _ (Qn (i:=i) _ (by omega)))) (by first|rfl|(simp [go_sem];done)|fail) rfl,?_⟩|refine cq (cc (Wr p _ hfit hr (hs6 _ (Qn (i:=i) _ (by omega))))) ?_|refine ⟨_,_,rfl,.inl ⟨_,fun hg=>CallQ.ctr ok (Wr p _ hfit hr (hs6 _ (Qn (i:=i) _ (by omega)))) (by first|rfl|(simp [go_sem];done)|fail) rfl,?_⟩⟩|refine ⟨_,_,rfl,_,CallQ.ctr ok (UA p s (i:Int) hfit hr (by simp at hg;omega) hs3 hc2 hgs) (by first|rfl|(simp [go_sem];done)|fail) rfl,?_⟩|refine ⟨_,_,rfl,_,fun hg=>CallQ.ctr ok (UA p s (i:Int) hfit hr (by simp at hg;omega) hs3 hc2 hgs) (by first|rfl|(simp [go_sem];done)|fail) rfl,?_⟩|refine cq (cc (UA p s (i:Int) hfit hr (by simp at hg;omega) hs3 hc2 hgs)) ?_|refine ⟨_,_,rfl,.inl ⟨_,fun hg=>CallQ.ctr ok (UA p s (i:Int) hfit hr (by simp at hg;omega) hs3 hc2 hgs) (by first|rfl|(simp [go_sem];done)|fail) rfl,?_⟩⟩);all_goals ((try simp only [go_sem,seval,-List.reduceReplicate,Qv,Vy,wq,ws]);(repeat' with_reducible refine And.intro ?_ ?_);all_goals first|(refine hR1 _ ?_;clear hR1 R1)|exact ZQ))|exact ZQ)
  | ((with_reducible first|refine Q1 ?_|refine xO ?_);refine hR _ ?_;clear hR R;try simp only [go_sem,QED,Nat.reduceBEq])
  | (with_reducible first|refine J1 ?_|refine J2 ?_|refine J3 ?_|refine J4 ?_|refine J5 ?_|refine J6 ?_|refine J7 ?_|refine J8 (by decide) ?_|refine J9 ?_|refine WL ?_|refine Q0 ?_|refine Qz ?_|refine YZ ?_|refine WK ?_)
  | ((with_reducible refine QZ 3 ?_)
     obtain ⟨⟨hr,hc1⟩,hc2⟩:=hb24
     have hok:=Prg.ok hr
     have hsz:=hok.sizes
     unfold Ze at hsz
     (with_reducible refine rg QED fun R hR=>?_);simp only [go_sem,QC])
  | ((with_reducible refine QZ 9 ?_)
     have hgs:Yh p s 6=true:=(show i=6 by omega)▸hz
     (with_reducible refine rg QED fun R hR=>?_);simp only [go_sem,QC])
  | ((with_reducible refine QZ 14 ?_)
     have hvs:W6 p s 8=true:=xT (fun k h1 h2=>hz k h1 (by omega))
     (with_reducible refine rg QED fun R hR=>?_);simp only [go_sem,QC])
  | ((with_reducible refine QZ 20 ?_)
     have hos:YC p s 4=true:=(show i=4 by omega)▸hz
     (with_reducible refine rg QED fun R hR=>?_);simp only [go_sem,QC])
  | ((with_reducible refine QZ 26 ?_)
     have hcs:XH p s 4=true:=(show i=4 by omega)▸hz
     (with_reducible refine rg QED fun R hR=>?_);simp only [go_sem,QC])
  | ((with_reducible refine rg QED fun R hR=>?_);simp only [go_sem,QC])
  | ((with_reducible refine Vv ok QN (by kernel_rfl) (by kernel_rfl) QED ?_);intro R hR;simp only [go_sem,QC])
  | ((with_reducible refine QH 24 rfl (fun hb24=>?_) fun hb24=>?_);all_goals (try simp [-List.getD_eq_getElem?_getD] at hb24;try (exfalso;omega)))
  | ((with_reducible refine QH 26 rfl (fun hb26=>?_) fun hb26=>?_);all_goals (try simp [-List.getD_eq_getElem?_getD] at hb26;try (exfalso;omega)))
  | ((with_reducible refine QH 54 rfl (fun hb54=>?_) fun hb54=>?_);all_goals (try simp [-List.getD_eq_getElem?_getD] at hb54;try (exfalso;omega)))
  | ((with_reducible refine QH 60 rfl (fun hb60=>?_) fun hb60=>?_);all_goals (try simp [-List.getD_eq_getElem?_getD] at hb60;try (exfalso;omega)))
  | ((with_reducible refine QH 67 rfl (fun hb67=>?_) fun hb67=>?_);all_goals (try simp [-List.getD_eq_getElem?_getD] at hb67;try (exfalso;omega)))
  | ((with_reducible refine QH 69 rfl (fun hb69=>?_) fun hb69=>?_);all_goals (try simp [-List.getD_eq_getElem?_getD] at hb69;try (exfalso;omega)))
  | ((with_reducible refine QH 97 rfl (fun hb97=>?_) fun hb97=>?_);all_goals (try simp [-List.getD_eq_getElem?_getD] at hb97;try (exfalso;omega)))
  | ((with_reducible refine QH 100 rfl (fun hb100=>?_) fun hb100=>?_);all_goals (try simp [-List.getD_eq_getElem?_getD] at hb100;try (exfalso;omega)))
  | ((with_reducible refine QH 128 rfl (fun hb128=>?_) fun hb128=>?_);all_goals (try simp [-List.getD_eq_getElem?_getD] at hb128;try (exfalso;omega)))
  | ((with_reducible refine QH 133 rfl (fun hb133=>?_) fun hb133=>?_);all_goals (try simp [-List.getD_eq_getElem?_getD] at hb133;try (exfalso;omega)))
  | ((with_reducible refine QH 137 rfl (fun hb137=>?_) fun hb137=>?_);all_goals (try simp [-List.getD_eq_getElem?_getD] at hb137;try (exfalso;omega)))
  | ((with_reducible refine QH 153 rfl (fun hb153=>?_) fun hb153=>?_);all_goals (try simp [-List.getD_eq_getElem?_getD] at hb153;try (exfalso;omega)))
  | ((with_reducible refine QH 166 rfl (fun hb166=>?_) fun hb166=>?_);all_goals (try simp [-List.getD_eq_getElem?_getD] at hb166;try (exfalso;omega)))
  | ((with_reducible refine YQ ?_)
     refine Zo (Qq (by first|rfl|(simp;done)|fail)) (YR (fun n τ=>∃ (i:Nat),n=6-i∧(i≤6∧Yh p s i=true)∧τ={ tm:=[(2,true,.ptr 0 [] 26),(3,true,.ptr 1 [] 37),(25,true,.int .i64 i)],ob:=[.var 26 (.data 26 p.v),.var 37 (.data 37 s.v)],out:=[],nt:=167 }) (6) ⟨0,rfl,⟨by omega,rfl⟩,rfl⟩ ?_)
     rintro n τ ⟨i,hn,⟨hi,hz⟩,rfl⟩)
  | ((with_reducible refine YQ ?_)
     refine Zo (Qq (by first|rfl|(simp;done)|fail)) (YR (fun n τ=>∃ (i:Nat),n=8-i∧(p.vars.length≤i∧i≤8∧∀ k:Nat,p.vars.length≤k→k<i→s.vars.getD k 0=0)∧τ={ tm:=[(2,true,.ptr 0 [] 26),(3,true,.ptr 1 [] 37),(6,true,.int .i64 i)],ob:=[.var 26 (.data 26 p.v),.var 37 (.data 37 s.v)],out:=[],nt:=167 }) (8-p.vars.length) ⟨p.vars.length,rfl,⟨Nat.le_refl _,by omega,fun k h1 h2=>by omega⟩,rfl⟩ ?_)
     rintro n τ ⟨i,hn,⟨hi0,hi,hz⟩,rfl⟩)
  | ((with_reducible refine YQ ?_)
     refine Zo (Qq (by first|rfl|(simp;done)|fail)) (YR (fun n τ=>∃ (i:Nat),n=4-i∧(i≤4∧YC p s i=true)∧τ={ tm:=[(2,true,.ptr 0 [] 26),(3,true,.ptr 1 [] 37),(68,true,.int .i64 i)],ob:=[.var 26 (.data 26 p.v),.var 37 (.data 37 s.v)],out:=[],nt:=167 }) (4) ⟨0,rfl,⟨by omega,rfl⟩,rfl⟩ ?_)
     rintro n τ ⟨i,hn,⟨hi,hz⟩,rfl⟩)
  | ((with_reducible refine YQ ?_)
     refine Zo (Qq (by first|rfl|(simp;done)|fail)) (YR (fun n τ=>∃ (i:Nat),n=4-i∧(i≤4∧XH p s i=true)∧τ={ tm:=[(2,true,.ptr 0 [] 26),(3,true,.ptr 1 [] 37),(99,true,.int .i64 i)],ob:=[.var 26 (.data 26 p.v),.var 37 (.data 37 s.v)],out:=[],nt:=167 }) (4) ⟨0,rfl,⟨by omega,rfl⟩,rfl⟩ ?_)
     rintro n τ ⟨i,hn,⟨hi,hz⟩,rfl⟩)
  | ((with_reducible refine YQ ?_)
     refine Zo (Qq (by first|rfl|(simp;done)|fail)) (YR (fun n τ=>∃ (i:Nat),n=s.count.toNat-i∧(i≤s.count.toNat∧Ys s i=true)∧τ={ tm:=[(3,true,.ptr 1 [] 37),(9,true,.int .i64 i)],ob:=[.var 26 (.data 26 p.v),.var 37 (.data 37 s.v)],out:=[],nt:=167 }) (s.count.toNat) ⟨0,rfl,⟨by omega,rfl⟩,rfl⟩ ?_)
     rintro n τ ⟨i,hn,⟨hi,hz⟩,rfl⟩)
  | ((with_reducible refine YQ ?_)
     refine Zo (Qq (by first|rfl|(simp;done)|fail)) (YR (fun n τ=>∃ (j:Nat),n=4-j∧(j≤4)∧τ={ tm:=[(3,true,.ptr 1 [] 37),(9,true,.int .i64 i),(10,true,.int .i64 (Q9 s i j)),(136,true,.int .i64 j)],ob:=[.var 26 (.data 26 p.v),.var 37 (.data 37 s.v)],out:=[],nt:=167 }) (4) ⟨0,rfl,by omega,rfl⟩ ?_)
     rintro n τ ⟨j,hn,hj,rfl⟩)
  | ((with_reducible refine WM ?_)
     first
      | (have hlt:i<6:=by omega
         refine Zt (6-(i+1)) _ (by omega) (Qq (by simp only [QD hlt (by decide:6≤maxLen)])) ⟨i+1,rfl,⟨hlt,QBe hz hb54⟩,rfl⟩)
      | (have hlt:i<8:=by omega
         refine Zt (8-(i+1)) _ (by omega) (Qq (by simp only [QD hlt (by decide:8≤maxLen)])) ⟨i+1,rfl,⟨by omega,hlt,fun k h1 h2=>?_⟩,rfl⟩
         by_cases h3:k<i
         · exact hz k h1 h3
         · have h4:k=i:=by omega
           rw [h4];exact hb67)
      | (have hlt:i<4:=by omega
         refine Zt (4-(i+1)) _ (by omega) (Qq (by simp only [QD hlt (by decide:4≤maxLen)])) ⟨i+1,rfl,⟨hlt,QD1 hz hb97⟩,rfl⟩)
      | (have hlt:i<4:=by omega
         refine Zt (4-(i+1)) _ (by omega) (Qq (by simp only [QD hlt (by decide:4≤maxLen)])) ⟨i+1,rfl,⟨hlt,qD hz hb128⟩,rfl⟩)
      | (have hlt:i<s.count.toNat:=by omega
         refine Zt (s.count.toNat-(i+1)) _ (by omega) (Qq (by simp only [QD (n:=i) (m:=6) (by omega) (by decide)])) ⟨i+1,rfl,⟨hlt,wx hz ?_⟩,rfl⟩
         rw [show (4:Nat)=j by omega];exact hb166)
      | (have hlt:j<4:=by omega
         have ho:=QBT s i j
         first
          | have q:_∧_:=hb153
            refine Zt (4-(j+1)) _ (by omega) (Qq (by simp only [QD (n:=j) (m:=4) hlt (by decide),QD (n:=Q9 s i j) (m:=4) (by omega) (by decide),vj hb153])) ⟨j+1,rfl,hlt,rfl⟩
          | refine Zt (4-(j+1)) _ (by omega) (Qq (by simp only [QD (n:=j) (m:=4) hlt (by decide),qk hb153])) ⟨j+1,rfl,hlt,rfl⟩))
  | ((with_reducible first|refine ZH ?_|refine ZG ?_)
     simp only [go_sem,QJ,QK,QG,seval]
     first
      | (have q:=hb166.2
         refine ⟨rfl,?_⟩
         rw [show j=4 by omega] at hb166
         rw [Zf,QA4 (n:=s.count.toNat) (i:=i) (by omega) hb166,Bool.and_false])
      | (have q:_∨_:=hb128
         refine ⟨rfl,?_⟩
         rw [Zf,xv (by omega) hb128,Bool.and_false,Bool.false_and])
      | (have q:_∨_:=hb97
         refine ⟨rfl,?_⟩
         rw [Zf,QFy (by omega) hb97,Bool.and_false,Bool.false_and,Bool.false_and])
      | (have q:¬_:=hb67
         refine ⟨rfl,?_⟩
         rw [Zf,QDa hi0 (by omega) hb67,Bool.and_false,Bool.false_and,Bool.false_and,Bool.false_and])
      | (have q:_∨_:=hb54
         refine ⟨rfl,?_⟩
         rw [Zf,QEN (by omega) hb54,Bool.and_false,Bool.false_and,Bool.false_and,Bool.false_and,Bool.false_and])
      | (have q:=hb133
         refine ⟨rfl,?_⟩
         have hw:Ys s s.count.toNat=true:=(show i=s.count.toNat by omega)▸hz
         simp only [Zf,hr,hgs,hvs,hos,hcs,decide_eq_true hc1,decide_eq_true hc2,hw,Bool.and_self])
      | (have q:(_∨_)∨_:=hb24
         refine ⟨rfl,?_⟩
         rcases hb24 with (h|h)|h
         · rw [Zf,h];rfl
         · rw [Zf,decide_eq_false (show ¬1≤s.count by omega)];cases QP p<;>rfl
         · rw [Zf,decide_eq_false (show ¬s.count≤6 by omega)];cases QP p<;>cases decide (1≤s.count)<;>rfl))
end Go.Eng.Tryz
namespace Go.Eng.Tryz
open Go.RowKit Go.Eng
set_option maxHeartbeats 0
set_option maxRecDepth 20000
def QQT:List (List Nat):=[[1,2],[4]]
theorem WV (s:Stt) (g:Int) (hs:s.Shape) (hc6:s.count≤6):Ctr Go.Proofs.Tryz.prog tab 83 [37,3] [4] [s.v,.int g] [.bool (ZE s g)]:=by
 have hs1:=hs.vars
 have hs2:=hs.owner
 have hs3:=hs.chans
 have hs5:=hs.gos
 refine Ctr.body ok Go.Proofs.Tryz.func83 rfl rfl 29 rfl [.tmp 4] rfl (by simp [QE]) ?_
 simp only [go_sem,Nat.reduceAdd]
 repeat' first
  | ((with_reducible refine Q2 fun R1 hR1=>?_);(simp only [go_sem,seval,-List.reduceReplicate]);(repeat' with_reducible refine And.intro ?_ ?_);all_goals first|(refine hR1 _ ?_;clear hR1 R1)|exact ZQ)
  | ((with_reducible refine Q1 ?_);refine hR _ ?_;clear hR R;try simp only [go_sem,QQT,Nat.reduceBEq])
  | (with_reducible first|refine J1 ?_|refine J2 ?_|refine Q0 ?_|refine Qz ?_)
  | ((with_reducible refine rg QQT fun R hR=>?_);simp only [go_sem,QC])
  | ((with_reducible first|refine ZH ?_|refine ZG ?_)
     simp only [go_sem,QJ,QK,QG,seval]
     refine ⟨rfl,?_⟩
     rw [QHM]
     cases decide (0≤g)<;>cases decide (g<s.count)<;>cases decide ((s.gos.getD g.toNat default).status=1)<;>rfl)
def QOB:List (List Nat):=[[2,3,4,6],[6]]
theorem Z2 (p:Prg) (s:Stt) (g:Int) (hp:p.Fit) (hs:s.Shape) (hg:0≤g∧g<6) (hgi:gorIn p (s.gos.getD g.toNat default)):Ctr Go.Proofs.Tryz.prog tab 84 [26,37,3] [129] [p.v,s.v,.int g] [(QA p s g).v]:=by
 have hfit:=hp
 have hcode:=p.code_len hp
 have hsl:=p.sels_len hp
 obtain ⟨hp1,hp2,hp3,hp4⟩:=hp
 have hs1:=hs.vars
 have hs2:=hs.owner
 have hs3:=hs.chans
 have hs5:=hs.gos
 obtain ⟨hf0,hf1,hpc0,hpc1,h8⟩:=hgi
 have hgi:gorIn p (s.gos.getD g.toNat default):=⟨hf0,hf1,hpc0,hpc1,h8⟩
 refine Ctr.body ok Go.Proofs.Tryz.func84 rfl rfl 24 rfl [.cell 6 129] rfl (by simp [QE]) ?_
 simp only [go_sem,Nat.reduceAdd]
 repeat' first
  | ((with_reducible refine SART.told 1 16 ?_)
     rw [Zn (by omega)])
  | ((with_reducible first|refine Q2 fun R1 hR1=>?_|refine qR fun R1 hR1=>?_|refine qQ fun R1 hR1=>?_|refine qP fun R1 hR1=>?_);(simp only [go_sem,seval,-List.reduceReplicate]);(repeat' with_reducible refine And.intro ?_ ?_);all_goals first|(refine hR1 _ ?_;clear hR1 R1)|exact ZQ)
  | ((with_reducible first|refine qO ?_|refine Q1 ?_);refine hR _ ?_;clear hR R;try simp only [go_sem,QOB,Nat.reduceBEq])
  | (with_reducible first|refine qN ?_ ?_|exact qM|refine qL ?_ ?_)
  | (with_reducible first|refine J1 ?_|refine J2 ?_|refine Q0 ?_|refine Qz ?_)
  | ((with_reducible refine QZ 1 ?_)
     refine WJ ok QN (.take 0 (.take 1 (.take 2 (.take 3 (.take 4 (.take 5 (.take 6 (.take 7 (.take 8 (.take 9 (.take 10 (.take 11 (.take 12 (.take 13 (.take 14 (.take 15 (.take 16 (.br 17 .done .nil)))))))))))))))))) [17] QOB (by kernel_rfl) (fun R hR=>?_);simp only [go_sem,QC])
  | ((with_reducible refine rg QOB fun R hR=>?_);simp only [go_sem,QC])
  | ((with_reducible first|refine ZH ?_|refine ZG ?_)
     simp only [go_sem,QJ,QK,QG,seval]
     exact ⟨rfl,rfl⟩)
def QQe:List (List Nat):=[[2,3,4],[2,3,4,12],[6],[6]]
theorem Wo (p:Prg) (s:Stt) (g:Int) (hp:p.Fit) (hs:s.Shape) (hg:0≤g∧g<6) (hgi:gorIn p (s.gos.getD g.toNat default)):Ctr Go.Proofs.Tryz.prog tab 45 [26,37,3] [43] [p.v,s.v,.int g] [.int (QL p s g)]:=by
 have hpp:=hp
 have hfit:=hp
 have hcode:=p.code_len hp
 have hsl:=p.sels_len hp
 obtain ⟨hp1,hp2,hp3,hp4⟩:=hp
 have hs1:=hs.vars
 have hs2:=hs.owner
 have hs3:=hs.chans
 have hs5:=hs.gos
 obtain ⟨hf0,hf1,hpc0,hpc1,h8⟩:=hgi
 have hgi:gorIn p (s.gos.getD g.toNat default):=⟨hf0,hf1,hpc0,hpc1,h8⟩
 refine Ctr.body ok Go.Proofs.Tryz.func45 rfl rfl 18 rfl [.tmp 6] rfl (by simp [QE]) ?_
 simp only [go_sem,Nat.reduceAdd]
 repeat' first
  | ((with_reducible refine Q2 fun R1 hR1=>?_);(simp only [go_sem,seval,-List.reduceReplicate]);(repeat' with_reducible refine And.intro ?_ ?_);all_goals first|(refine hR1 _ ?_;clear hR1 R1)|((first|refine cq (cc (Z2 p s g hpp hs hg hgi)) ?_);all_goals ((try simp only [go_sem,seval,-List.reduceReplicate]);(repeat' with_reducible refine And.intro ?_ ?_);all_goals first|(refine hR1 _ ?_;clear hR1 R1)|exact ZQ))|exact ZQ)
  | ((with_reducible refine Q1 ?_);refine hR _ ?_;clear hR R;try simp only [go_sem,QQe,Nat.reduceBEq])
  | (with_reducible first|refine J1 ?_|refine J2 ?_|refine J3 ?_|refine Q0 ?_|refine Qz ?_)
  | ((with_reducible refine rg QQe fun R hR=>?_);simp only [go_sem,QC])
  | ((with_reducible refine QH 12 rfl (fun hb12=>?_) fun hb12=>?_);all_goals (try simp [-List.getD_eq_getElem?_getD] at hb12;try (exfalso;omega)))
  | ((with_reducible first|refine ZH ?_|refine ZG ?_)
     simp only [go_sem,QJ,QK,QG,seval]
     first
      | (have q:¬_:=hb12
         refine ⟨rfl,?_⟩
         unfold QL
         rw [if_neg (show ¬(s.gor g).status=2 from hb12)])
      | (refine ⟨rfl,?_⟩
         unfold QL
         rw [if_pos (show (s.gor g).status=2 from hb12)]))
def QOA:List (List Nat):=[[2,3,4],[2,3,7],[2,3,7,13],[6],[2,3,7,19],[6],[6]]
theorem VP (p:Prg) (s:Stt) (c:Int) (hp:p.Fit) (hs:s.Shape) (hc:0≤c∧c<p.chans.length) (hc4:p.chans.length≤4):Ctr Go.Proofs.Tryz.prog tab 86 [26,37,3] [4] [p.v,s.v,.int c] [.bool (XF p s c)]:=by
 have hfit:=hp
 have hcode:=p.code_len hp
 have hsl:=p.sels_len hp
 obtain ⟨hp1,hp2,hp3,hp4⟩:=hp
 have hs1:=hs.vars
 have hs2:=hs.owner
 have hs3:=hs.chans
 have hs5:=hs.gos
 refine Ctr.body ok Go.Proofs.Tryz.func86 rfl rfl 31 rfl [.tmp 6] rfl (by simp [QE]) ?_
 simp only [go_sem,Nat.reduceAdd]
 repeat' first
  | ((with_reducible refine SARA.told 1 4 ?_)
     rw [ZU (by omega)])
  | ((with_reducible first|refine Q2 fun R1 hR1=>?_|refine xP fun R1 hR1=>?_);(simp only [go_sem,seval,-List.reduceReplicate]);(repeat' with_reducible refine And.intro ?_ ?_);all_goals first|(refine hR1 _ ?_;clear hR1 R1)|exact ZQ)
  | ((with_reducible first|refine Q1 ?_|refine xO ?_);refine hR _ ?_;clear hR R;try simp only [go_sem,QOA,Nat.reduceBEq])
  | (with_reducible first|refine J1 ?_|refine J2 ?_|refine J3 ?_|refine Q0 ?_|refine Qz ?_)
  | ((with_reducible refine rg QOA fun R hR=>?_);simp only [go_sem,QC])
  | ((with_reducible refine Vv ok QN (by kernel_rfl) (by kernel_rfl) QOA ?_);intro R hR;simp only [go_sem,QC])
  | ((with_reducible refine QH 13 rfl (fun hb13=>?_) fun hb13=>?_);all_goals (try simp [-List.getD_eq_getElem?_getD] at hb13;try (exfalso;omega)))
  | ((with_reducible refine QH 19 rfl (fun hb19=>?_) fun hb19=>?_);all_goals (try simp [-List.getD_eq_getElem?_getD] at hb19;try (exfalso;omega)))
  | ((with_reducible first|refine ZH ?_|refine ZG ?_)
     simp only [go_sem,QJ,QK,QG,seval]
     first
      | (have q:=hb19
         refine ⟨rfl,?_⟩
         have e:XF p s c=if 0<p.chans.getD c.toNat 0 then decide ((s.chans.getD c.toNat default).len<p.chans.getD c.toNat 0) else decide ((s.chans.getD c.toNat default).offer=0):=if_neg (by rw [show (s.chn c).closed=false from hb13];simp)
         first|rw [e,if_pos hb19]|rw [e,if_neg (by omega)])
      | (refine ⟨rfl,?_⟩
         have e:XF p s c=true:=if_pos hb13
         rw [e]))
def QQS:List (List Nat):=[[1,2],[5],[4]]
theorem Xe (s:Stt) (c:Int) (hs:s.Shape) (hc:0≤c∧c<4):Ctr Go.Proofs.Tryz.prog tab 87 [37,3] [4] [s.v,.int c] [.bool (WU s c)]:=by
 have hs1:=hs.vars
 have hs2:=hs.owner
 have hs3:=hs.chans
 have hs5:=hs.gos
 refine Ctr.body ok Go.Proofs.Tryz.func87 rfl rfl 22 rfl [.tmp 4] rfl (by simp [QE]) ?_
 simp only [go_sem,Nat.reduceAdd]
 repeat' first
  | ((with_reducible refine SARA.told 1 4 ?_)
     rw [ZU (by omega)])
  | ((with_reducible refine Q2 fun R1 hR1=>?_);(simp only [go_sem,seval,-List.reduceReplicate]);(repeat' with_reducible refine And.intro ?_ ?_);all_goals first|(refine hR1 _ ?_;clear hR1 R1)|exact ZQ)
  | ((with_reducible refine Q1 ?_);refine hR _ ?_;clear hR R;try simp only [go_sem,QQS,Nat.reduceBEq])
  | (with_reducible first|refine J1 ?_|refine J2 ?_|refine Q0 ?_|refine Qz ?_)
  | ((with_reducible refine rg QQS fun R hR=>?_);simp only [go_sem,QC])
  | ((with_reducible first|refine ZH ?_|refine ZG ?_)
     simp only [go_sem,QJ,QK,QG,seval]
     refine ⟨rfl,?_⟩
     unfold WU Stt.chn
     cases decide (0<(s.chans.getD c.toNat default).len)<;>cases (s.chans.getD c.toNat default).closed<;>rfl)
def QCu:List (List Nat):=[[2,3,4],[2,3,4,7],[2,3,4,7,8],[2,3,4,7,8,23],[2,3,4,7,8,23,24],[6],[2,3,4,7,8,23,36],[6],[2,3,4,7,8,23,44],[6],[2,3,4,7,8,23,51],[6],[2,3,4,7,8,23,57],[9],[6],[2,3,4,7,8,71],[2,4,10],[6],[6]]
theorem QBM (p:Prg) (s:Stt) (g:Int) (hp:p.Fit) (hr:QP p=true) (hw:Wf p s) (hg:0≤g∧g<s.count):Ctr Go.Proofs.Tryz.prog tab 85 [26,37,3] [4] [p.v,s.v,.int g] [.bool (plain p s g)]:=by
 have hpp:=hp
 have hok:=Prg.ok hr
 have hs:=hw.shape
 have hcnt:=hw.count
 have hgi:=hw.gos g hg.1 hg.2
 have h8:=hgi.regs
 have hfit:=hp
 have hcode:=p.code_len hp
 have hsl:=p.sels_len hp
 obtain ⟨hp1,hp2,hp3,hp4⟩:=hp
 have hs1:=hs.vars
 have hs2:=hs.owner
 have hs3:=hs.chans
 have hs5:=hs.gos
 have hsz:=hok.sizes
 unfold Ze at hsz
 have hrt:QV p (p.funcs.getD (s.gos.getD g.toNat default).func.toNat default) (QA p s g)=0:=hw.right hok hg.1 hg.2
 have hrg:=hok.regs (s.gos.getD g.toNat default).func.toNat
 refine Ctr.body ok Go.Proofs.Tryz.func85 rfl rfl 101 rfl [.tmp 6] rfl (by simp [QE]) ?_
 simp only [go_sem,Nat.reduceAdd]
 repeat' first
  | ((with_reducible first|refine Q2 fun R1 hR1=>?_|refine xP fun R1 hR1=>?_);(simp only [go_sem,seval,-List.reduceReplicate]);(repeat' with_reducible refine And.intro ?_ ?_);all_goals first|(refine hR1 _ ?_;clear hR1 R1)|((first|refine ⟨_,_,rfl,_,CallQ.ctr ok (Z2 p s g hpp hs (by omega) hgi) (by first|rfl|(simp [go_sem];done)|fail) rfl,?_⟩|refine ⟨_,_,rfl,_,fun hg=>CallQ.ctr ok (Z2 p s g hpp hs (by omega) hgi) (by first|rfl|(simp [go_sem];done)|fail) rfl,?_⟩|refine cq (cc (Z2 p s g hpp hs (by omega) hgi)) ?_|refine ⟨_,_,rfl,.inl ⟨_,fun hg=>CallQ.ctr ok (Z2 p s g hpp hs (by omega) hgi) (by first|rfl|(simp [go_sem];done)|fail) rfl,?_⟩⟩|refine ⟨_,_,rfl,_,CallQ.ctr ok (Wo p s g hpp hs (by omega) hgi) (by first|rfl|(simp [go_sem];done)|fail) rfl,?_⟩|refine ⟨_,_,rfl,_,fun hg=>CallQ.ctr ok (Wo p s g hpp hs (by omega) hgi) (by first|rfl|(simp [go_sem];done)|fail) rfl,?_⟩|refine cq (cc (Wo p s g hpp hs (by omega) hgi)) ?_|refine ⟨_,_,rfl,.inl ⟨_,fun hg=>CallQ.ctr ok (Wo p s g hpp hs (by omega) hgi) (by first|rfl|(simp [go_sem];done)|fail) rfl,?_⟩⟩|refine ⟨_,_,rfl,_,CallQ.ctr ok (VP p s _ hpp hs hc hcl) (by first|rfl|(simp [go_sem];done)|fail) rfl,?_⟩|refine ⟨_,_,rfl,_,fun hg=>CallQ.ctr ok (VP p s _ hpp hs hc hcl) (by first|rfl|(simp [go_sem];done)|fail) rfl,?_⟩|refine cq (cc (VP p s _ hpp hs hc hcl)) ?_|refine ⟨_,_,rfl,.inl ⟨_,fun hg=>CallQ.ctr ok (VP p s _ hpp hs hc hcl) (by first|rfl|(simp [go_sem];done)|fail) rfl,?_⟩⟩|refine ⟨_,_,rfl,_,CallQ.ctr ok (Xe s _ hs hc) (by first|rfl|(simp [go_sem];done)|fail) rfl,?_⟩|refine ⟨_,_,rfl,_,fun hg=>CallQ.ctr ok (Xe s _ hs hc) (by first|rfl|(simp [go_sem];done)|fail) rfl,?_⟩|refine cq (cc (Xe s _ hs hc)) ?_|refine ⟨_,_,rfl,.inl ⟨_,fun hg=>CallQ.ctr ok (Xe s _ hs hc) (by first|rfl|(simp [go_sem];done)|fail) rfl,?_⟩⟩|refine ⟨_,_,rfl,_,CallQ.ctr ok (WV s _ hs (by omega)) (by first|rfl|(simp [go_sem];done)|fail) rfl,?_⟩|refine ⟨_,_,rfl,_,fun hg=>CallQ.ctr ok (WV s _ hs (by omega)) (by first|rfl|(simp [go_sem];done)|fail) rfl,?_⟩|refine cq (cc (WV s _ hs (by omega))) ?_|refine ⟨_,_,rfl,.inl ⟨_,fun hg=>CallQ.ctr ok (WV s _ hs (by omega)) (by first|rfl|(simp [go_sem];done)|fail) rfl,?_⟩⟩);all_goals ((try simp only [go_sem,seval,-List.reduceReplicate]);(repeat' with_reducible refine And.intro ?_ ?_);all_goals first|(refine hR1 _ ?_;clear hR1 R1)|exact ZQ))|exact ZQ)
  | ((with_reducible first|refine Q1 ?_|refine xO ?_);refine hR _ ?_;clear hR R;try simp only [go_sem,QCu,Nat.reduceBEq])
  | (with_reducible first|refine J1 ?_|refine J2 ?_|refine J3 ?_|refine J4 ?_|refine J5 ?_|refine J6 ?_|refine J7 ?_|refine J8 (by decide) ?_|refine J9 ?_|refine Q0 ?_|refine Qz ?_|refine YZ ?_)
  | ((with_reducible refine QZ 5 ?_)
     have hI:=QA5 hrt (hw.op_at hok hg.1 hg.2 hb24 (by decide))
     (with_reducible refine Vv ok QN (by kernel_rfl) (by kernel_rfl) QCu ?_);intro R hR;simp only [go_sem,QC])
  | ((with_reducible refine QZ 7 ?_)
     have hI:=qY hrt (.inl (hw.op_at hok hg.1 hg.2 hb36 (by decide)))
     (with_reducible refine rg QCu fun R hR=>?_);simp only [go_sem,QC])
  | ((with_reducible refine QZ 9 ?_)
     have hI:=VU hrt (hw.op_at hok hg.1 hg.2 hb44 (by decide))
     have hc:=hI.1
     have hcl:p.chans.length≤4:=by omega
     (with_reducible refine rg QCu fun R hR=>?_);simp only [go_sem,QC])
  | ((with_reducible refine QZ 11 ?_)
     have hI:=yU hrt (hw.op_at hok hg.1 hg.2 hb51 (by decide))
     have hc:0≤(QA p s g).b∧(QA p s g).b<4:=by omega
     (with_reducible refine rg QCu fun R hR=>?_);simp only [go_sem,QC])
  | ((with_reducible refine QZ 13 ?_)
     have hI:=VU hrt (hw.op66 hok hg.1 hg.2 hb57)
     (with_reducible refine rg QCu fun R hR=>?_);simp only [go_sem,QC])
  | ((with_reducible refine QZ 16 ?_)
     have hI:=zc hrt (.inl (hw.op_at hok hg.1 hg.2 hb71 (by decide)))
     (with_reducible refine rg QCu fun R hR=>?_);simp only [go_sem,QC])
  | ((with_reducible refine rg QCu fun R hR=>?_);simp only [go_sem,QC])
  | ((with_reducible refine Vv ok QN (by kernel_rfl) (by kernel_rfl) QCu ?_);intro R hR;simp only [go_sem,QC])
  | ((with_reducible refine QH 24 rfl (fun hb24=>?_) fun hb24=>?_);all_goals (try simp [-List.getD_eq_getElem?_getD] at hb24;try (exfalso;omega)))
  | ((with_reducible refine QH 36 rfl (fun hb36=>?_) fun hb36=>?_);all_goals (try simp [-List.getD_eq_getElem?_getD] at hb36;try (exfalso;omega)))
  | ((with_reducible refine QH 44 rfl (fun hb44=>?_) fun hb44=>?_);all_goals (try simp [-List.getD_eq_getElem?_getD] at hb44;try (exfalso;omega)))
  | ((with_reducible refine QH 51 rfl (fun hb51=>?_) fun hb51=>?_);all_goals (try simp [-List.getD_eq_getElem?_getD] at hb51;try (exfalso;omega)))
  | ((with_reducible refine QH 57 rfl (fun hb57=>?_) fun hb57=>?_);all_goals (try simp [-List.getD_eq_getElem?_getD] at hb57;try (exfalso;omega)))
  | ((with_reducible refine QH 71 rfl (fun hb71=>?_) fun hb71=>?_);all_goals (try simp [-List.getD_eq_getElem?_getD] at hb71;try (exfalso;omega)))
  | ((with_reducible first|refine ZH ?_|refine ZG ?_)
     simp only [go_sem,QJ,QK,QG,seval]
     first
      | (exact ⟨rfl,congrArg (fun b=>some (V.bool b)) (show _=plain p s g from Eq.symm (if_pos hb24))⟩)
      | (exact ⟨rfl,congrArg (fun b=>some (V.bool b)) (show _=plain p s g from Eq.symm ((if_neg hb24).trans (if_pos hb36)))⟩)
      | (exact ⟨rfl,congrArg (fun b=>some (V.bool b)) (show _=plain p s g from Eq.symm ((if_neg hb24).trans ((if_neg hb36).trans (if_pos hb44))))⟩)
      | (exact ⟨rfl,congrArg (fun b=>some (V.bool b)) (show _=plain p s g from Eq.symm ((if_neg hb24).trans ((if_neg hb36).trans ((if_neg hb44).trans (if_pos hb51)))))⟩)
      | (refine ⟨rfl,?_⟩
         have e:plain p s g=(decide ((s.chans.getD (QA p s g).a.toNat default).offer=2)||decide ((s.chans.getD (QA p s g).a.toNat default).offer=3)):=(if_neg hb24).trans ((if_neg hb36).trans ((if_neg hb44).trans ((if_neg hb51).trans (if_pos hb57))))
         rw [e]
         cases decide ((s.chans.getD (QA p s g).a.toNat default).offer=2)<;>rfl)
      | (refine ⟨rfl,?_⟩
         have e:plain p s g=(decide ((s.gos.getD g.toNat default).regs.getD (QA p s g).a.toNat 0<0)||decide (s.count≤(s.gos.getD g.toNat default).regs.getD (QA p s g).a.toNat 0)||decide ((s.gos.getD g.toNat default).regs.getD (QA p s g).a.toNat 0=g)||!ZE s ((s.gos.getD g.toNat default).regs.getD (QA p s g).a.toNat 0)):=(if_neg hb24).trans ((if_neg hb36).trans ((if_neg hb44).trans ((if_neg hb51).trans ((if_neg hb57).trans (if_pos hb71)))))
         rw [e]
         cases decide ((s.gos.getD g.toNat default).regs.getD (QA p s g).a.toNat 0<0)<;>cases decide (s.count≤(s.gos.getD g.toNat default).regs.getD (QA p s g).a.toNat 0)<;>cases decide ((s.gos.getD g.toNat default).regs.getD (QA p s g).a.toNat 0=g)<;>rfl)
      | (exact ⟨rfl,congrArg (fun b=>some (V.bool b)) (show _=plain p s g from Eq.symm ((if_neg hb24).trans ((if_neg hb36).trans ((if_neg hb44).trans ((if_neg hb51).trans ((if_neg hb57).trans ((if_neg hb71).trans (rfl))))))))⟩))
end Go.Eng.Tryz
namespace Go.Eng.Tryz
open Go.RowKit Go.Eng
set_option maxHeartbeats 0
set_option maxRecDepth 20000
def QEC:List (List Nat):=[[2,3,4],[2,3,4,7],[2,3,4,7,15],[6],[2,3,4,7,21],[7,25],[7],[6],[2,3,4,7,8],[3,4,7,9],[3,4,7,9,10],[3,4,7,9,10,52],[3,4,7,9,10],[3,4,7,9,10,11],[3,4,7,9,10,79],[3,4,7,9,10],[7,9,91],[7],[6]]
end Go.Eng.Tryz
