/- A part of the proof: walks through the program's functions, and what they compute. -/
import Derived.Test.YtedceinkpkoncaaGreatDoorPk26
import Derived.Test.YtedceinkpkoncaaGreatDoorPk35
set_option linter.unusedSimpArgs false
set_option linter.unusedVariables false
namespace Go.Eng.Tryz
open Go.RowKit Go.Eng
set_option maxHeartbeats 0
set_option maxRecDepth 20000
theorem QKP (op a b:Int):Ctr Go.Proofs.Tryz.prog tab 181 [3,2,2] [2,3] [.int op,.int a,.int b] [.int (XK op a b).1,.int (XK op a b).2]:=by
 refine Ctr.body ok Go.Proofs.Tryz.func181 rfl rfl 114 rfl [.tmp 6,.tmp 7] rfl (by simp [QE]) ?_
 simp only [go_sem,Nat.reduceAdd]
 repeat' first
  | ((with_reducible refine Q2 fun R1 hR1=>?_);(simp only [go_sem,seval,-List.reduceReplicate]);(repeat' with_reducible refine And.intro ?_ ?_);all_goals first|(refine hR1 _ ?_;clear hR1 R1)|((first|refine cq (cc (UD _ _)) ?_|refine cq (cc (zK _ _ _)) ?_|refine cq (cc (QJW _)) ?_|refine cq (cc (QJz _ _ _)) ?_|refine cq (cc (QGv _ _ _)) ?_|refine cq (cc (QJM _ _ _)) ?_|refine ce (cf (QDQ _ _) ?_));all_goals ((try simp only [go_sem,seval,-List.reduceReplicate]);(repeat' with_reducible refine And.intro ?_ ?_);all_goals first|(refine hR1 _ ?_;clear hR1 R1)|omega|rfl|decide|assumption|(intro _;omega)|(simp;done)|(simp;omega)|(simp [QQ,maxLen]<;>omega)))|omega|rfl|decide|assumption|(intro _;omega)|(simp;done)|(simp;omega)|(simp [QQ,maxLen]<;>omega))
  | ((with_reducible refine Q1 ?_);refine hR _ ?_;clear hR R;try simp only [go_sem,QMA,Nat.reduceBEq])
  | (with_reducible first|refine J1 ?_|refine J2 ?_|refine J3 ?_|refine J4 ?_|refine J5 ?_|refine J6 ?_|refine J7 ?_|refine J8 (by decide) ?_|refine J9 ?_|refine WL ?_|refine Q0 ?_|refine Qz ?_|refine YZ ?_|refine WK ?_)
  | ((with_reducible refine rg QMA fun R hR=>?_);simp only [go_sem,QC])
  | ((with_reducible refine QH 13 rfl (fun hb13=>?_) fun hb13=>?_);all_goals (try simp only [decide_eq_true_eq,decide_eq_false_iff_not] at hb13;try (exfalso;omega)))
  | ((with_reducible refine QH 18 rfl (fun hb18=>?_) fun hb18=>?_);all_goals (try simp only [decide_eq_true_eq,decide_eq_false_iff_not] at hb18;try (exfalso;omega)))
  | ((with_reducible refine QH 23 rfl (fun hb23=>?_) fun hb23=>?_);all_goals (try simp only [decide_eq_true_eq,decide_eq_false_iff_not] at hb23;try (exfalso;omega)))
  | ((with_reducible refine QH 33 rfl (fun hb33=>?_) fun hb33=>?_);all_goals (try simp only [decide_eq_true_eq,decide_eq_false_iff_not] at hb33;try (exfalso;omega)))
  | ((with_reducible refine QH 37 rfl (fun hb37=>?_) fun hb37=>?_);all_goals (try simp only [decide_eq_true_eq,decide_eq_false_iff_not] at hb37;try (exfalso;omega)))
  | ((with_reducible refine QH 39 rfl (fun hb39=>?_) fun hb39=>?_);all_goals (try simp only [decide_eq_true_eq,decide_eq_false_iff_not] at hb39;try (exfalso;omega)))
  | ((with_reducible refine QH 41 rfl (fun hb41=>?_) fun hb41=>?_);all_goals (try simp only [decide_eq_true_eq,decide_eq_false_iff_not] at hb41;try (exfalso;omega)))
  | ((with_reducible refine QH 45 rfl (fun hb45=>?_) fun hb45=>?_);all_goals (try simp only [decide_eq_true_eq,decide_eq_false_iff_not] at hb45;try (exfalso;omega)))
  | ((with_reducible refine QH 56 rfl (fun hb56=>?_) fun hb56=>?_);all_goals (try simp only [decide_eq_true_eq,decide_eq_false_iff_not] at hb56;try (exfalso;omega)))
  | ((with_reducible refine QH 65 rfl (fun hb65=>?_) fun hb65=>?_);all_goals (try simp only [decide_eq_true_eq,decide_eq_false_iff_not] at hb65;try (exfalso;omega)))
  | ((with_reducible refine QH 70 rfl (fun hb70=>?_) fun hb70=>?_);all_goals (try simp only [decide_eq_true_eq,decide_eq_false_iff_not] at hb70;try (exfalso;omega)))
  | ((with_reducible refine QH 72 rfl (fun hb72=>?_) fun hb72=>?_);all_goals (try simp only [decide_eq_true_eq,decide_eq_false_iff_not] at hb72;try (exfalso;omega)))
  | ((with_reducible refine QH 78 rfl (fun hb78=>?_) fun hb78=>?_);all_goals (try simp only [decide_eq_true_eq,decide_eq_false_iff_not] at hb78;try (exfalso;omega)))
  | ((with_reducible refine QH 91 rfl (fun hb91=>?_) fun hb91=>?_);all_goals (try simp only [decide_eq_true_eq,decide_eq_false_iff_not] at hb91;try (exfalso;omega)))
  | ((with_reducible refine SA.cond rfl ?_ ?_)
     all_goals
      intro hb
      try simp only [decide_eq_true_eq,decide_eq_false_iff_not] at hb
      try (exfalso;omega))
  | ((with_reducible refine YQ ?_)
     refine Zo (Qq (by first|rfl|(simp [YB];done)|fail)) (YR (fun n τ=>∃ (k:Nat),n=64-k∧(k≤64)∧τ={ tm:=[(1,true,.int .i64 a),(2,true,.int .i64 b),(10,true,.int .i64 (YB (QIN a b) 0 k)),(11,true,.int .i64 k)],ob:=[],out:=[],nt:=114 }) (64) ⟨0,rfl,by omega,rfl⟩ ?_)
     rintro n τ ⟨k,hn,hk,rfl⟩)
  | ((with_reducible refine WM ?_)
     first
      | (have hk:k<64:=by omega
         have hw:IntKind.i64.wrap ((k:Int)+1)=((k+1:Nat):Int):=QD hk (by decide)
         refine Zt (64-(k+1)) _ (by omega) (Qq (by simp only [hw,YB];first|rfl|(simp [QIN, *];done)|(simp only [QIN, *];(repeat' split)<;>first|rfl|omega|(exfalso;omega)|(simp_all;done)|fail)|fail)) ⟨k+1,rfl,by omega,rfl⟩))
  | ((with_reducible first|refine ZH ?_|refine ZG ?_)
     simp only [go_sem,QJ,QK,QG,seval]
     first
      | ((repeat' with_reducible refine And.intro ?_ ?_)
         all_goals first|rfl|(simp [XK, *];done)|(simp [XK, *];omega))
      | (have hk64:k=64:=by omega
         subst hk64
         (repeat' with_reducible refine And.intro ?_ ?_)
         all_goals first|rfl|(simp [XK,QE1, *];done)|(simp [XK,QE1, *];omega)))
def QMM:List (List Nat):=[[0,1,2],[0,1,2,9],[0,1,2,9,10],[6,7],[0,1,2,12],[6,7],[6,7]]
theorem QB9 (op a b:Int):Ctr Go.Proofs.Tryz.prog tab 157 [3,2,2] [2,3] [.int op,.int a,.int b] [.int (QB op a b).1,.int (QB op a b).2]:=by
 refine Ctr.body ok Go.Proofs.Tryz.func157 rfl rfl 23 rfl [.tmp 6,.tmp 7] rfl (by simp [QE]) ?_
 simp only [go_sem,Nat.reduceAdd]
 repeat' first
  | ((with_reducible refine Q2 fun R1 hR1=>?_);(simp only [go_sem,seval,-List.reduceReplicate]);(repeat' with_reducible refine And.intro ?_ ?_);all_goals first|(refine hR1 _ ?_;clear hR1 R1)|((first|refine cq (cc (QHg _)) ?_|refine cq (cc (QKm _ _)) ?_|refine ce (cf (QKP _ _ _) ?_));all_goals ((try simp only [go_sem,seval,-List.reduceReplicate]);(repeat' with_reducible refine And.intro ?_ ?_);all_goals first|(refine hR1 _ ?_;clear hR1 R1)|omega|rfl|decide|assumption|(intro _;omega)|(simp;done)|(simp;omega)|(simp [QQ,maxLen]<;>omega)))|omega|rfl|decide|assumption|(intro _;omega)|(simp;done)|(simp;omega)|(simp [QQ,maxLen]<;>omega))
  | ((with_reducible refine Q1 ?_);refine hR _ ?_;clear hR R;try simp only [go_sem,QMM,Nat.reduceBEq])
  | (with_reducible first|refine J1 ?_|refine J2 ?_|refine J3 ?_|refine J4 ?_|refine J5 ?_|refine J6 ?_|refine J7 ?_|refine J8 (by decide) ?_|refine J9 ?_|refine Q0 ?_|refine Qz ?_|refine YZ ?_)
  | ((with_reducible refine rg QMM fun R hR=>?_);simp only [go_sem,QC])
  | ((with_reducible refine QH 10 rfl (fun hb10=>?_) fun hb10=>?_);all_goals (try simp at hb10))
  | ((with_reducible refine QH 12 rfl (fun hb12=>?_) fun hb12=>?_);all_goals (try simp at hb12))
  | ((with_reducible first|refine ZH ?_|refine ZG ?_)
     simp only [go_sem,QJ,QK,QG,seval]
     (repeat' with_reducible refine And.intro ?_ ?_)
     all_goals first|rfl|(simp only [QB];(repeat' split)<;>first|rfl|omega|(exfalso;omega)|(simp_all;done)|(simp_all;omega))|(simp [QB, *];done)|(simp [QB, *];omega))
end Go.Eng.Tryz
namespace Go.Eng.Tryz
open Go.RowKit Go.Eng
set_option maxHeartbeats 0
set_option maxRecDepth 20000
def QML:List (List Nat):=[[1,2,3,6],[6]]
theorem QHY (g:Gor) (status why:Int):Ctr Go.Proofs.Tryz.prog tab 158 [34,3,3] [34] [g.v,.int status,.int why] [(ended g status why).v]:=by
 refine Ctr.body ok Go.Proofs.Tryz.func158 rfl rfl 14 rfl [.cell 6 34] rfl (by simp [QE]) ?_
 simp only [go_sem,Nat.reduceAdd]
 repeat' first
  | ((with_reducible refine Q2 fun R1 hR1=>?_);(simp only [go_sem,seval,-List.reduceReplicate,Qv]);(repeat' with_reducible refine And.intro ?_ ?_);all_goals first|(refine hR1 _ ?_;clear hR1 R1)|omega|rfl|decide|assumption|(intro _;omega)|(simp;done)|(simp;omega)|(simp [QQ,maxLen]<;>omega))
  | ((with_reducible refine Q1 ?_);refine hR _ ?_;clear hR R;try simp only [go_sem,QML,Nat.reduceBEq])
  | (with_reducible first|refine J1 ?_|refine J2 ?_|refine Q0 ?_|refine Qz ?_)
  | ((with_reducible refine rg QML fun R hR=>?_);simp only [go_sem,QC])
  | ((with_reducible first|refine ZH ?_|refine ZG ?_)
     simp only [go_sem,QJ,QK,QG,seval]
     exact ⟨rfl,rfl⟩)
def zi:List (List Nat):=[[2,3,4,6],[2,3,4,6],[2,3,4,6,7],[2,3,4,6,7,27],[6],[2,3,4,6,7,30],[4,6],[6],[2,3,4,6,7],[6],[2,3,4,6,7,37],[2,3,4,6,7,8],[2,3,4,6],[2,3,4,6,7,57],[2,3,4,6,7,10,11],[2,3,4,6,7,10,11,78],[6],[2,3,4,6,7,10,82],[6],[2,3,4,6],[2,3,4,6,7,90],[2,3,4,6],[2,3,4,6,7,100],[2,3,4,6],[2,3,4,6,7,113],[2,3,4,6],[2,3,4,6,7,120],[2,3,4,6,7,129],[2,3,4,6],[2,3,4,6,7,133],[2,3,4,6,142],[6],[2,3,4,6]]
theorem QDk (p:Prg) (g:Gor) (m0:Nat) (hp:p.Fit) (hr:QP p=true) (hg:gorIn p g) (hm0:m0≤4096):Ctr Go.Proofs.Tryz.prog tab 138 [26,34,3] [34] [p.v,g.v,.int m0] [(Yb QB p g m0).v]:=by
 have hfit:=hp
 have hcode:=p.code_len hp
 have hsl:=p.sels_len hp
 obtain ⟨hp1,hp2,hp3,hp4⟩:=hp
 have hok:=Prg.ok hr
 refine Ctr.body ok Go.Proofs.Tryz.func138 rfl rfl 149 rfl [.cell 6 34] rfl (by simp [QE]) ?_
 simp only [go_sem,Nat.reduceAdd]
 repeat' first
  | ((with_reducible refine SART.told 2 10 ?_)
     rw [Zn (by omega)])
  | ((with_reducible refine SARA.told 32 3 ?_)
     rw [QU (n:=h.pc+1) (by omega) (by omega)])
  | ((with_reducible first|refine Q2 fun R1 hR1=>?_|refine qR fun R1 hR1=>?_|refine qQ fun R1 hR1=>?_|refine qP fun R1 hR1=>?_);(simp only [go_sem,seval,-List.reduceReplicate,Qv]);(repeat' with_reducible refine And.intro ?_ ?_);all_goals first|(refine hR1 _ ?_;clear hR1 R1)|((first|refine cq (cc (Xg _)) ?_|refine cq (cc (QHY _ _ _)) ?_|refine ce (cf (QB9 _ _ _) ?_)|refine ⟨_,_,rfl,.inr (CallB.ctr ok (QB9 _ _ _) (by first|rfl|(simp [go_sem];done)|fail) ?_)⟩);all_goals ((try simp only [go_sem,seval,-List.reduceReplicate,Qv]);(repeat' with_reducible refine And.intro ?_ ?_);all_goals first|(refine hR1 _ ?_;clear hR1 R1)|exact ZQ))|exact ZQ)
  | ((with_reducible first|refine qO ?_|refine Q1 ?_);refine hR _ ?_;clear hR R;try simp only [go_sem,zi,Nat.reduceBEq])
  | (with_reducible first|refine qN ?_ ?_|exact qM|refine qL ?_ ?_)
  | (with_reducible first|refine J1 ?_|refine J2 ?_|refine J3 ?_|refine J4 ?_|refine J5 ?_|refine J6 ?_|refine J7 ?_|refine J8 (by decide) ?_|refine J9 ?_|refine WL ?_|refine Q0 ?_|refine Qz ?_|refine YZ ?_|refine WK ?_)
  | ((with_reducible refine QZ 10 ?_)
     have hlr:=V6 hb27
     (with_reducible refine rg zi fun R hR=>?_);simp only [go_sem,QC])
  | ((with_reducible refine QZ 21 ?_)
     have hI:=QJI hin hb90
     (with_reducible refine rg zi fun R hR=>?_);simp only [go_sem,QC])
  | ((with_reducible refine QZ 27 ?_)
     have hI:=QGC hin hb120
     (with_reducible refine rg zi fun R hR=>?_);simp only [go_sem,QC])
  | ((with_reducible refine QZ 30 ?_)
     have hI:=QMp hin hb133
     (with_reducible refine rg zi fun R hR=>?_);simp only [go_sem,QC])
  | ((with_reducible refine QZ 2 ?_)
     obtain ⟨hf0,hf1,hpc0,hpc1,h8⟩:=hgi
     have hgi:gorIn p h:=⟨hf0,hf1,hpc0,hpc1,h8⟩
     have hcl:=hok.code h.func.toNat (by omega)
     have hrg:=hok.regs h.func.toNat
     have hin:=XU hok hgi
     simp only [Prg.instr] at hin
     refine WJ ok QN (.take 0 (.take 1 (.take 2 (.take 3 (.take 4 (.take 5 (.take 6 (.take 7 (.take 8 (.take 9 (.take 10 (.br 11 (.br 12 .done .nil) .nil)))))))))))) [12] zi (by kernel_rfl) (fun R hR=>?_);simp only [go_sem,QC])
  | ((with_reducible refine QZ 11 ?_)
     have hI:=QOS hin (by omega) (by omega)
     refine WJ ok QN (.take 0 (.take 1 (.take 2 (.take 3 (.take 4 (.take 5 (.take 6 (.br 7 (.take 8 (.take 9 (.take 10 (.take 11 (.take 12 .done))))) .nil)))))))) [] zi (by kernel_rfl) (fun R hR=>?_);simp only [go_sem,QC])
  | ((with_reducible refine QZ 14 ?_)
     have hI:=QLC hin (by omega) (by omega)
     refine WJ ok QN (.take 0 (.take 1 (.take 2 (.take 3 (.take 4 (.take 5 (.take 6 (.take 7 (.take 8 (.take 9 (.take 10 (.take 11 (.br 12 (.take 13 (.take 14 (.take 15 (.take 16 (.take 17 .done))))) .nil))))))))))))) [] zi (by kernel_rfl) (fun R hR=>?_);simp only [go_sem,QC])
  | ((with_reducible refine QZ 23 ?_)
     have hI:=QJH hin hb100
     refine WJ ok QN (.take 0 (.take 1 (.take 2 (.take 3 (.take 4 (.take 5 (.take 6 (.take 7 (.take 8 (.br 9 .done .nil)))))))))) [9] zi (by kernel_rfl) (fun R hR=>?_);simp only [go_sem,QC])
  | ((with_reducible refine rg zi fun R hR=>?_);simp only [go_sem,QC])
  | ((with_reducible refine QH 27 rfl (fun hb27=>?_) fun hb27=>?_);all_goals (try simp only [Bool.not_eq_true',decide_eq_true_eq,decide_eq_false_iff_not,Bool.not_eq_eq_eq_not,Bool.not_true,Bool.not_false,decide_not,Bool.not_eq_true] at hb27;try (exfalso;omega)))
  | ((with_reducible refine QH 30 rfl (fun hb30=>?_) fun hb30=>?_);all_goals (try simp only [Bool.not_eq_true',decide_eq_true_eq,decide_eq_false_iff_not,Bool.not_eq_eq_eq_not,Bool.not_true,Bool.not_false,decide_not,Bool.not_eq_true] at hb30;try (exfalso;omega)))
  | ((with_reducible refine QH 37 rfl (fun hb37=>?_) fun hb37=>?_);all_goals (try simp only [Bool.not_eq_true',decide_eq_true_eq,decide_eq_false_iff_not,Bool.not_eq_eq_eq_not,Bool.not_true,Bool.not_false,decide_not,Bool.not_eq_true] at hb37;try (exfalso;omega)))
  | ((with_reducible refine QH 57 rfl (fun hb57=>?_) fun hb57=>?_);all_goals (try simp only [Bool.not_eq_true',decide_eq_true_eq,decide_eq_false_iff_not,Bool.not_eq_eq_eq_not,Bool.not_true,Bool.not_false,decide_not,Bool.not_eq_true] at hb57;try (exfalso;omega)))
  | ((with_reducible refine QH 78 rfl (fun hb78=>?_) fun hb78=>?_);all_goals (try simp only [Bool.not_eq_true',decide_eq_true_eq,decide_eq_false_iff_not,Bool.not_eq_eq_eq_not,Bool.not_true,Bool.not_false,decide_not,Bool.not_eq_true] at hb78;try (exfalso;omega)))
  | ((with_reducible refine QH 82 rfl (fun hb82=>?_) fun hb82=>?_);all_goals (try simp only [Bool.not_eq_true',decide_eq_true_eq,decide_eq_false_iff_not,Bool.not_eq_eq_eq_not,Bool.not_true,Bool.not_false,decide_not,Bool.not_eq_true] at hb82;try (exfalso;omega)))
  | ((with_reducible refine QH 90 rfl (fun hb90=>?_) fun hb90=>?_);all_goals (try simp only [Bool.not_eq_true',decide_eq_true_eq,decide_eq_false_iff_not,Bool.not_eq_eq_eq_not,Bool.not_true,Bool.not_false,decide_not,Bool.not_eq_true] at hb90;try (exfalso;omega)))
  | ((with_reducible refine QH 100 rfl (fun hb100=>?_) fun hb100=>?_);all_goals (try simp only [Bool.not_eq_true',decide_eq_true_eq,decide_eq_false_iff_not,Bool.not_eq_eq_eq_not,Bool.not_true,Bool.not_false,decide_not,Bool.not_eq_true] at hb100;try (exfalso;omega)))
  | ((with_reducible refine QH 113 rfl (fun hb113=>?_) fun hb113=>?_);all_goals (try simp only [Bool.not_eq_true',decide_eq_true_eq,decide_eq_false_iff_not,Bool.not_eq_eq_eq_not,Bool.not_true,Bool.not_false,decide_not,Bool.not_eq_true] at hb113;try (exfalso;omega)))
  | ((with_reducible refine QH 120 rfl (fun hb120=>?_) fun hb120=>?_);all_goals (try simp only [Bool.not_eq_true',decide_eq_true_eq,decide_eq_false_iff_not,Bool.not_eq_eq_eq_not,Bool.not_true,Bool.not_false,decide_not,Bool.not_eq_true] at hb120;try (exfalso;omega)))
  | ((with_reducible refine QH 129 rfl (fun hb129=>?_) fun hb129=>?_);all_goals (try simp only [Bool.not_eq_true',decide_eq_true_eq,decide_eq_false_iff_not,Bool.not_eq_eq_eq_not,Bool.not_true,Bool.not_false,decide_not,Bool.not_eq_true] at hb129;try (exfalso;omega)))
  | ((with_reducible refine QH 133 rfl (fun hb133=>?_) fun hb133=>?_);all_goals (try simp only [Bool.not_eq_true',decide_eq_true_eq,decide_eq_false_iff_not,Bool.not_eq_eq_eq_not,Bool.not_true,Bool.not_false,decide_not,Bool.not_eq_true] at hb133;try (exfalso;omega)))
  | ((with_reducible refine QH 142 rfl (fun hb142=>?_) fun hb142=>?_);all_goals (try simp only [Bool.not_eq_true',decide_eq_true_eq,decide_eq_false_iff_not,Bool.not_eq_eq_eq_not,Bool.not_true,Bool.not_false,decide_not,Bool.not_eq_true] at hb142;try (exfalso;omega)))
  | ((with_reducible refine YQ ?_)
     refine Zo (Qq (by first|rfl|(simp;done)|fail)) (YR (fun n τ=>∃ (m:Nat) (h:Gor),n=m∧(m≤4096∧gorIn p h∧Zh QB p m h=Yb QB p g m0)∧τ={ tm:=[(2,true,.int .i64 m),(3,true,.ptr 0 [] 26),(4,true,.ptr 1 [] 34),(6,true,.ptr 2 [] 34)],ob:=[.var 26 (.data 26 p.v),.var 34 (.data 34 h.v),.var 34 (.data 34 zeroGor.v)],out:=[],nt:=149 }) (m0) ⟨m0,⟨1,g.func,g.pc,g.why,g.regs⟩,rfl,⟨hm0,⟨hg.f0,hg.f1,hg.p0,hg.p1,hg.regs⟩,rfl⟩,rfl⟩ ?_)
     rintro n τ ⟨m,h,hn,⟨hm,hgi,hset⟩,rfl⟩)
  | ((with_reducible refine WM ?_)
     first
      | (have hl:=ls1 QB hb37
         obtain ⟨m',rfl⟩:∃ m',m=m'+1:=⟨m-1,by omega⟩
         have hw:IntKind.i64.wrap (((m'+1:Nat):Int)-1)=(m':Int):=by rw [QU (by omega) (by omega)];omega
         have hin':=Zi QB hok hgi hb27
         have hset':=hset
         rw [Q5 QB hb27,hl,if_pos rfl] at hset'
         rw [hl] at hin'
         refine Zt m' _ (by omega) ((WN 3 rfl).trans (Qq (by simp only [hw,List.take_succ_cons,List.take_zero]))) ⟨m',_,rfl,⟨by omega,hin',hset'⟩,rfl⟩)
      | (have hl:=ls2 QB hb37 hb57 hb78 hb82
         obtain ⟨m',rfl⟩:∃ m',m=m'+1:=⟨m-1,by omega⟩
         have hw:IntKind.i64.wrap (((m'+1:Nat):Int)-1)=(m':Int):=by rw [QU (by omega) (by omega)];omega
         have hin':=Zi QB hok hgi hb27
         have hset':=hset
         rw [Q5 QB hb27,hl,if_pos rfl] at hset'
         rw [hl] at hin'
         refine Zt m' _ (by omega) ((WN 3 rfl).trans (Qq (by simp only [hw,List.take_succ_cons,List.take_zero]))) ⟨m',_,rfl,⟨by omega,hin',hset'⟩,rfl⟩)
      | (have hl:=QK8 QB hb37 hb57 hb90
         obtain ⟨m',rfl⟩:∃ m',m=m'+1:=⟨m-1,by omega⟩
         have hw:IntKind.i64.wrap (((m'+1:Nat):Int)-1)=(m':Int):=by rw [QU (by omega) (by omega)];omega
         have hin':=Zi QB hok hgi hb27
         have hset':=hset
         rw [Q5 QB hb27,hl,if_pos rfl] at hset'
         rw [hl] at hin'
         refine Zt m' _ (by omega) ((WN 3 rfl).trans (Qq (by simp only [hw,List.take_succ_cons,List.take_zero]))) ⟨m',_,rfl,⟨by omega,hin',hset'⟩,rfl⟩)
      | (have hl:=QK7 QB hb37 hb57 hb90 hb100
         obtain ⟨m',rfl⟩:∃ m',m=m'+1:=⟨m-1,by omega⟩
         have hw:IntKind.i64.wrap (((m'+1:Nat):Int)-1)=(m':Int):=by rw [QU (by omega) (by omega)];omega
         have hin':=Zi QB hok hgi hb27
         have hset':=hset
         rw [Q5 QB hb27,hl,if_pos rfl] at hset'
         rw [hl] at hin'
         refine Zt m' _ (by omega) ((WN 3 rfl).trans (Qq (by simp only [hw,List.take_succ_cons,List.take_zero]))) ⟨m',_,rfl,⟨by omega,hin',hset'⟩,rfl⟩)
      | (have hl:=QK6 QB hb37 hb57 hb90 hb100 hb113
         obtain ⟨m',rfl⟩:∃ m',m=m'+1:=⟨m-1,by omega⟩
         have hw:IntKind.i64.wrap (((m'+1:Nat):Int)-1)=(m':Int):=by rw [QU (by omega) (by omega)];omega
         have hin':=Zi QB hok hgi hb27
         have hset':=hset
         rw [Q5 QB hb27,hl,if_pos rfl] at hset'
         rw [hl] at hin'
         refine Zt m' _ (by omega) ((WN 3 rfl).trans (Qq (by simp only [hw,List.take_succ_cons,List.take_zero]))) ⟨m',_,rfl,⟨by omega,hin',hset'⟩,rfl⟩)
      | (have hl:=QK5 QB hb37 hb57 hb90 hb100 hb113 hb120 hb129
         obtain ⟨m',rfl⟩:∃ m',m=m'+1:=⟨m-1,by omega⟩
         have hw:IntKind.i64.wrap (((m'+1:Nat):Int)-1)=(m':Int):=by rw [QU (by omega) (by omega)];omega
         have hin':=Zi QB hok hgi hb27
         have hset':=hset
         rw [Q5 QB hb27,hl,if_pos rfl] at hset'
         rw [hl] at hin'
         refine Zt m' _ (by omega) ((WN 3 rfl).trans (Qq (by simp only [hw,List.take_succ_cons,List.take_zero]))) ⟨m',_,rfl,⟨by omega,hin',hset'⟩,rfl⟩)
      | (have hl:=QGB QB hb37 hb57 hb90 hb100 hb113 hb120 hb129
         obtain ⟨m',rfl⟩:∃ m',m=m'+1:=⟨m-1,by omega⟩
         have hw:IntKind.i64.wrap (((m'+1:Nat):Int)-1)=(m':Int):=by rw [QU (by omega) (by omega)];omega
         have hin':=Zi QB hok hgi hb27
         have hset':=hset
         rw [Q5 QB hb27,hl,if_pos rfl] at hset'
         rw [hl] at hin'
         refine Zt m' _ (by omega) ((WN 3 rfl).trans (Qq (by simp only [hw,List.take_succ_cons,List.take_zero]))) ⟨m',_,rfl,⟨by omega,hin',hset'⟩,rfl⟩)
      | (have hl:=QK4 QB hb37 hb57 hb90 hb100 hb113 hb120 hb133 hb142
         obtain ⟨m',rfl⟩:∃ m',m=m'+1:=⟨m-1,by omega⟩
         have hw:IntKind.i64.wrap (((m'+1:Nat):Int)-1)=(m':Int):=by rw [QU (by omega) (by omega)];omega
         have hin':=Zi QB hok hgi hb27
         have hset':=hset
         rw [Q5 QB hb27,hl,if_pos rfl] at hset'
         rw [hl] at hin'
         refine Zt m' _ (by omega) ((WN 3 rfl).trans (Qq (by simp only [hw,List.take_succ_cons,List.take_zero]))) ⟨m',_,rfl,⟨by omega,hin',hset'⟩,rfl⟩))
  | ((with_reducible first|refine ZH ?_|refine ZG ?_)
     simp only [go_sem,QJ,QK,QG,seval]
     first
      | (have hl:=QK9 QB hb37 hb57 hb78
         obtain ⟨m',rfl⟩:∃ m',m=m'+1:=⟨m-1,by omega⟩
         have hset':=hset
         rw [Q5 QB hb27,hl,if_neg (by simp)] at hset'
         refine ⟨rfl,?_⟩
         exact congrArg (fun g:Gor=>some g.v) hset')
      | (have hl:=QLA QB hb37 hb57 hb78 hb82
         obtain ⟨m',rfl⟩:∃ m',m=m'+1:=⟨m-1,by omega⟩
         have hset':=hset
         rw [Q5 QB hb27,hl,if_neg (by simp)] at hset'
         refine ⟨rfl,?_⟩
         exact congrArg (fun g:Gor=>some g.v) hset')
      | (have hl:=QGA QB hb37 hb57 hb90 hb100 hb113 hb120 hb133 hb142
         obtain ⟨m',rfl⟩:∃ m',m=m'+1:=⟨m-1,by omega⟩
         have hset':=hset
         rw [Q5 QB hb27,hl,if_neg (by simp)] at hset'
         refine ⟨rfl,?_⟩
         exact congrArg (fun g:Gor=>some g.v) hset')
      | (have hl:=QK3 QB hb37 hb57 hb90 hb100 hb113 hb120 hb133
         obtain ⟨m',rfl⟩:∃ m',m=m'+1:=⟨m-1,by omega⟩
         have hset':=hset
         rw [Q5 QB hb27,hl,if_neg (by simp)] at hset'
         refine ⟨rfl,?_⟩
         exact congrArg (fun g:Gor=>some g.v) hset')
      | (refine ⟨rfl,?_⟩
         rw [Y6 QB hb27] at hset
         exact congrArg (fun g:Gor=>some g.v) hset)
      | (have hm1:m=0:=by omega
         subst hm1
         refine ⟨rfl,?_⟩
         rw [Wq QB hb27] at hset
         exact congrArg (fun g:Gor=>some g.v) hset))
end Go.Eng.Tryz
namespace Go.Eng.Tryz
open Go.RowKit Go.Eng
set_option maxHeartbeats 0
set_option maxRecDepth 20000
theorem yb (p:Prg) (g:Gor) (fuel:Int) (hp:p.Fit) (hr:QP p=true) (hg:gorIn p g) (hf:0≤fuel∧fuel≤4096):Ctr Go.Proofs.Tryz.prog tab 138 [26,34,3] [34] [p.v,g.v,.int fuel] [(Yb QB p g fuel).v]:=by
 obtain ⟨m,rfl⟩:=Int.eq_ofNat_of_zero_le hf.1
 exact QDk p g m hp hr hg (by omega)
def QF6:List (List Nat):=[[2,3,4,5,8],[2,3,4,5,8,12],[8,9],[2,3,4,5,8,17],[8,9],[2,3,4,5,8,32],[8,9],[2,3,4,5,8,37],[8,9],[2,3,4,5,8,52],[5,8],[8,9]]
theorem vM (p:Prg) (s:Stt) (g fuel:Int) (hp:p.Fit) (hs:s.Shape):Ctr Go.Proofs.Tryz.prog tab 130 [26,37,3,3] [37,3] [p.v,s.v,.int g,.int fuel] [(Qd QB p s g fuel).1.v,.int (Qd QB p s g fuel).2]:=by
 have hfit:=hp
 have hcode:=p.code_len hp
 have hsl:=p.sels_len hp
 obtain ⟨hp1,hp2,hp3,hp4⟩:=hp
 have hs5:=hs.gos
 refine Ctr.body ok Go.Proofs.Tryz.func130 rfl rfl 64 rfl [.cell 8 37,.tmp 9] rfl (by simp [QE]) ?_
 simp only [go_sem,Nat.reduceAdd]
 repeat' first
  | ((with_reducible refine SART.told 10 5 ?_)
     rw [YL (by omega)])
  | ((with_reducible first|refine Q2 fun R1 hR1=>?_|refine qR fun R1 hR1=>?_|refine qQ fun R1 hR1=>?_|refine qP fun R1 hR1=>?_);(simp only [go_sem,seval,-List.reduceReplicate,Qv,QF]);(repeat' with_reducible refine And.intro ?_ ?_);all_goals first|(refine hR1 _ ?_;clear hR1 R1)|((first|refine cq (cc (YK p hfit)) ?_|refine cq (cc (VN p s hfit hs)) ?_|refine cq (cc (yb p _ _ hfit hb12 hgi hf)) ?_);all_goals ((try simp only [go_sem,seval,-List.reduceReplicate,Qv,QF]);(repeat' with_reducible refine And.intro ?_ ?_);all_goals first|(refine hR1 _ ?_;clear hR1 R1)|exact ZQ))|exact ZQ)
  | ((with_reducible first|refine qO ?_|refine Q1 ?_);refine hR _ ?_;clear hR R;try simp only [go_sem,QF6,Nat.reduceBEq])
  | (with_reducible first|refine qN ?_ ?_|exact qM|refine qL ?_ ?_)
  | (with_reducible first|refine J1 ?_|refine J2 ?_|refine J3 ?_|refine Q0 ?_|refine Qz ?_)
  | ((with_reducible refine QZ 5 ?_)
     obtain ⟨hv1,hv2,hv3,hv4⟩:=Wv hb17
     (with_reducible refine rg QF6 fun R hR=>?_);simp only [go_sem,QC])
  | ((with_reducible refine QZ 10 ?_)
     have hgi:=QFH hs hv3 (g:=g) (by omega) (by omega) (by omega)
     have hf:0≤fuel∧fuel≤4096:=by omega
     refine WJ ok QN (.take 0 (.take 1 (.take 2 (.take 3 (.take 4 (.take 5 (.take 6 (.take 8 (.br 7 (.take 9 (.br 10 .done .nil)) .nil))))))))) [10] QF6 (by kernel_rfl) (fun R hR=>?_);simp only [go_sem,QC])
  | ((with_reducible refine rg QF6 fun R hR=>?_);simp only [go_sem,QC])
  | ((with_reducible refine QH 12 rfl (fun hb12=>?_) fun hb12=>?_);all_goals (try simp [-List.getD_eq_getElem?_getD] at hb12;try (exfalso;omega)))
  | ((with_reducible refine QH 17 rfl (fun hb17=>?_) fun hb17=>?_);all_goals (try simp [-List.getD_eq_getElem?_getD] at hb17;try (exfalso;omega)))
  | ((with_reducible refine QH 32 rfl (fun hb32=>?_) fun hb32=>?_);all_goals (try simp [-List.getD_eq_getElem?_getD] at hb32;try (exfalso;omega)))
  | ((with_reducible refine QH 37 rfl (fun hb37=>?_) fun hb37=>?_);all_goals (try simp [-List.getD_eq_getElem?_getD] at hb37;try (exfalso;omega)))
  | ((with_reducible refine QH 52 rfl (fun hb52=>?_) fun hb52=>?_);all_goals (try simp [-List.getD_eq_getElem?_getD] at hb52;try (exfalso;omega)))
  | ((with_reducible first|refine ZH ?_|refine ZG ?_)
     simp only [go_sem,QJ,QK,QG,seval]
     first
      | (have q:_∨_:=hb52
         have e:Qd QB p s g fuel=(⟨s.vars,s.owner,s.chans,s.gos.set g.toNat (Yb QB p (s.gor g) fuel),s.count⟩,0):=(if_neg (by rw [hb12];simp)).trans ((if_neg (by rw [hb17];simp)).trans ((if_neg (by omega)).trans ((if_neg (by omega)).trans (if_pos hb52))))
         rw [e]
         exact ⟨⟨rfl,rfl⟩,⟨rfl,rfl⟩⟩)
      | (have q:_∧_:=hb52
         have e:Qd QB p s g fuel=(s,0):=(if_neg (by rw [hb12];simp)).trans ((if_neg (by rw [hb17];simp)).trans ((if_neg (by omega)).trans ((if_neg (by omega)).trans (if_neg (fun q=>q.elim hb52.1 hb52.2)))))
         rw [e]
         exact ⟨⟨rfl,rfl⟩,⟨rfl,rfl⟩⟩)
      | (have q:=hb37
         have e:Qd QB p s g fuel=(zeroStt,9):=(if_neg (by rw [hb12];simp)).trans ((if_neg (by rw [hb17];simp)).trans ((if_neg (by omega)).trans (if_pos hb37)))
         rw [e]
         exact ⟨⟨rfl,rfl⟩,⟨rfl,rfl⟩⟩)
      | (have q:=hb32
         have e:Qd QB p s g fuel=(zeroStt,1):=(if_neg (by rw [hb12];simp)).trans ((if_neg (by rw [hb17];simp)).trans (if_pos (by omega)))
         rw [e]
         exact ⟨⟨rfl,rfl⟩,⟨rfl,rfl⟩⟩)
      | (have q:=hb17
         have e:Qd QB p s g fuel=(zeroStt,4):=(if_neg (by rw [hb12];simp)).trans (if_pos hb17)
         rw [e]
         exact ⟨⟨rfl,rfl⟩,⟨rfl,rfl⟩⟩)
      | (have e:Qd QB p s g fuel=(zeroStt,3):=if_pos hb12
         rw [e]
         exact ⟨⟨rfl,rfl⟩,⟨rfl,rfl⟩⟩))
end Go.Eng.Tryz
namespace Go.Eng.Tryz
open Go.RowKit Go.Eng
set_option maxHeartbeats 0
set_option maxRecDepth 20000
def QK1:List (List Nat):=[[3,4,5],[5,7],[5,7,8],[5,7,8,17],[5,7,8],[5,7,8,26],[6],[6]]
end Go.Eng.Tryz
