/- A part of the proof: walks through the program's functions, and what they compute. -/
import Derived.Test.YtmonhjagbhpbeaaGreatDoorPk30
set_option linter.unusedSimpArgs false
set_option linter.unusedVariables false
namespace Go.Eng.Tryz
open Go.RowKit Go.Eng
set_option maxHeartbeats 0
set_option maxRecDepth 20000
theorem QM3 (op a:Int):Ctr Go.Proofs.Tryz.prog tab 172 [3,2] [2] [.int op,.int a] [.int (QEH op a)]:=by
 refine Ctr.body ok Go.Proofs.Tryz.func172 rfl rfl 117 rfl [.tmp 4] rfl (by simp [QF]) ?_
 simp only [go_sem,Nat.reduceAdd]
 repeat' first
  | ((with_reducible refine Q5 fun R1 hR1=>?_);(simp only [go_sem,seval,-List.reduceReplicate]);(repeat' with_reducible refine And.intro ?_ ?_);all_goals first|(refine hR1 _ ?_;clear hR1 R1)|((first|refine cq (cc (UV _ _)) ?_|refine Y4 (fun hg=>cc (UV _ _)) ?_|refine cq (cc (yI _ _ _)) ?_|refine Y4 (fun hg=>cc (yI _ _ _)) ?_|refine cq (cc (xT _)) ?_|refine Y4 (fun hg=>cc (xT _)) ?_|refine cq (cc (QFv _ _ _)) ?_|refine Y4 (fun hg=>cc (QFv _ _ _)) ?_);all_goals ((try simp only [go_sem,seval,-List.reduceReplicate]);(repeat' with_reducible refine And.intro ?_ ?_);all_goals first|(refine hR1 _ ?_;clear hR1 R1)|exact Vz))|exact Vz)
  | ((with_reducible refine Q4 ?_);refine hR _ ?_;clear hR R;try simp only [go_sem,QOb,Nat.reduceBEq])
  | (with_reducible first|refine J1 ?_|refine J2 ?_|refine J3 ?_|refine J4 ?_|refine J5 ?_|refine J6 ?_|refine J7 ?_|refine J8 (by decide) ?_|refine J9 ?_|refine Xu ?_|refine Q2 ?_|refine Q1 ?_|refine Yc ?_|refine Xt ?_)
  | ((with_reducible refine rg QOb fun R hR=>?_);simp only [go_sem,QC])
  | ((with_reducible refine QI 14 rfl (fun hb14=>?_) fun hb14=>?_);all_goals (try simp at hb14))
  | ((with_reducible refine QI 18 rfl (fun hb18=>?_) fun hb18=>?_);all_goals (try simp at hb18))
  | ((with_reducible refine QI 22 rfl (fun hb22=>?_) fun hb22=>?_);all_goals (try simp at hb22))
  | ((with_reducible refine QI 25 rfl (fun hb25=>?_) fun hb25=>?_);all_goals (try simp at hb25))
  | ((with_reducible refine QI 29 rfl (fun hb29=>?_) fun hb29=>?_);all_goals (try simp at hb29))
  | ((with_reducible refine QI 41 rfl (fun hb41=>?_) fun hb41=>?_);all_goals (try simp at hb41))
  | ((with_reducible refine QI 50 rfl (fun hb50=>?_) (fun hb50=>?_))
     all_goals
      skip)
  | ((with_reducible refine QI 56 rfl (fun hb56=>?_) fun hb56=>?_);all_goals (try simp at hb56))
  | ((with_reducible refine QI 65 rfl (fun hb65=>?_) (fun hb65=>?_))
     all_goals
      skip)
  | ((with_reducible refine QI 71 rfl (fun hb71=>?_) fun hb71=>?_);all_goals (try simp at hb71))
  | ((with_reducible refine QI 85 rfl (fun hb85=>?_) fun hb85=>?_);all_goals (try simp at hb85))
  | ((with_reducible refine QI 90 rfl (fun hb90=>?_) fun hb90=>?_);all_goals (try simp at hb90))
  | ((with_reducible refine QI 95 rfl (fun hb95=>?_) fun hb95=>?_);all_goals (try simp at hb95))
  | ((with_reducible refine QI 99 rfl (fun hb99=>?_) fun hb99=>?_);all_goals (try simp at hb99))
  | ((with_reducible refine QI 103 rfl (fun hb103=>?_) fun hb103=>?_);all_goals (try simp at hb103))
  | ((with_reducible refine QI 107 rfl (fun hb107=>?_) fun hb107=>?_);all_goals (try simp at hb107))
  | ((with_reducible refine QI 111 rfl (fun hb111=>?_) fun hb111=>?_);all_goals (try simp at hb111))
  | ((with_reducible refine SA.cond rfl ?_ ?_)
     all_goals
      intro hb
      try simp at hb)
  | ((with_reducible refine Ya ?_)
     refine Zv (Qo (by first|rfl|(simp [YT];done)|fail)) (Yb (fun n τ=>∃ (k:Nat),n=64-k∧(k≤64)∧τ={ tm:=[(1,true,.int .i64 a),(5,true,.int .i64 (YT (vI a) 0 k)),(6,true,.int .i64 k)],ob:=[],out:=[],nt:=117 }) (64) ⟨0,rfl,by omega,rfl⟩ ?_)
     rintro n τ ⟨k,hn,hk,rfl⟩)
  | ((with_reducible refine Ya ?_)
     refine Zv (Qo (by first|rfl|(simp [YT];done)|fail)) (Yb (fun n τ=>∃ (k:Nat),n=64-k∧(k≤64∧∀ j:Nat,j<k→WL a (63-(j:Int))=0)∧τ={ tm:=[(1,true,.int .i64 a),(7,true,.int .i64 k),(8,true,.int .i64 (63-(k:Int)))],ob:=[],out:=[],nt:=117 }) (64) ⟨0,rfl,⟨by omega,fun j hj=>by omega⟩,rfl⟩ ?_)
     rintro n τ ⟨k,hn,⟨hk,hz⟩,rfl⟩)
  | ((with_reducible refine Ya ?_)
     refine Zv (Qo (by first|rfl|(simp [YT];done)|fail)) (Yb (fun n τ=>∃ (k:Nat),n=64-k∧(k≤64∧∀ j:Nat,j<k→WL a j=0)∧τ={ tm:=[(1,true,.int .i64 a),(9,true,.int .i64 k),(10,true,.int .i64 k)],ob:=[],out:=[],nt:=117 }) (64) ⟨0,rfl,⟨by omega,fun j hj=>by omega⟩,rfl⟩ ?_)
     rintro n τ ⟨k,hn,⟨hk,hz⟩,rfl⟩)
  | ((with_reducible refine Ya ?_)
     refine Zv (Qo (by first|rfl|(simp [YT];done)|fail)) (Yb (fun n τ=>∃ (k:Nat),n=64-k∧(k≤64)∧τ={ tm:=[(1,true,.int .i64 a),(11,true,.int .i64 (YT (vQ a) 0 k)),(12,true,.int .i64 k)],ob:=[],out:=[],nt:=117 }) (64) ⟨0,rfl,by omega,rfl⟩ ?_)
     rintro n τ ⟨k,hn,hk,rfl⟩)
  | ((with_reducible refine WC ?_)
     first
      | (have hk:k<64:=by omega
         have hw:IntKind.i64.wrap ((k:Int)+1)=((k+1:Nat):Int):=QD hk (by decide)
         refine Z0 (64-(k+1)) _ (by omega) (Qo (by simp only [hw,YT];first|rfl|(simp [vI, *];done)|(simp only [vI, *];(repeat' split)<;>first|rfl|omega|(exfalso;omega)|(simp_all;done)|fail)|fail)) ⟨k+1,rfl,by omega,rfl⟩)
      | (simp at hb50
         have hk:k<64:=by omega
         have hw:IntKind.i64.wrap ((k:Int)+1)=((k+1:Nat):Int):=QD hk (by decide)
         have hv:IntKind.i64.wrap (63-(k:Int)-1)=63-((k+1:Nat):Int):=by rw [Qc (by omega) (by omega)];omega
         refine Z0 (64-(k+1)) _ (by omega) (Qo (by simp only [hw,hv])) ⟨k+1,rfl,⟨by omega,fun j hj=>?_⟩,rfl⟩
         rcases Nat.lt_or_ge j k with h|h
         · exact hz j h
         · have:j=k:=by omega
           subst this;exact hb50.2)
      | (simp at hb65
         have hk:k<64:=by omega
         have hw:IntKind.i64.wrap ((k:Int)+1)=((k+1:Nat):Int):=QD hk (by decide)
         refine Z0 (64-(k+1)) _ (by omega) (Qo (by simp only [hw])) ⟨k+1,rfl,⟨by omega,fun j hj=>?_⟩,rfl⟩
         rcases Nat.lt_or_ge j k with h|h
         · exact hz j h
         · have:j=k:=by omega
           subst this;exact hb65.2)
      | (have hk:k<64:=by omega
         have hw:IntKind.i64.wrap ((k:Int)+1)=((k+1:Nat):Int):=QD hk (by decide)
         refine Z0 (64-(k+1)) _ (by omega) (Qo (by simp only [hw,YT];first|rfl|(simp [vQ, *];done)|(simp only [vQ, *];(repeat' split)<;>first|rfl|omega|(exfalso;omega)|(simp_all;done)|fail)|fail)) ⟨k+1,rfl,by omega,rfl⟩))
  | ((with_reducible first|refine ZQ ?_|refine ZP ?_)
     simp only [go_sem,QL,QM,QH,seval]
     first
      | ((repeat' with_reducible refine And.intro ?_ ?_)
         all_goals first|rfl|(subst_vars;rfl)|(simp only [QEH];simp [*];done)|(simp only [QEH];(repeat' split)<;>first|rfl|omega|(exfalso;omega)))
      | (have hk64:k=64:=by omega
         subst hk64
         (repeat' with_reducible refine And.intro ?_ ?_)
         all_goals first|rfl|(simp only [QEH];simp [*];done))
      | (simp at hb50
         have e:QFb a=k:=Ud hk (fun j hj=>by simp [hz j hj]) (by rcases Nat.lt_or_ge k 64 with h|h;exact .inr (by simpa using hb50 (by omega));exact .inl (by omega))
         (repeat' with_reducible refine And.intro ?_ ?_)
         all_goals first|rfl|(simp [QEH, *];done))
      | (simp at hb65
         have e:QAS a=k:=Ud hk (fun j hj=>by simp [hz j hj]) (by rcases Nat.lt_or_ge k 64 with h|h;exact .inr (by simpa using hb65 (by omega));exact .inl (by omega))
         (repeat' with_reducible refine And.intro ?_ ?_)
         all_goals first|rfl|(simp [QEH, *];done)))
def QOI:List (List Nat):=[[0,1,2],[1,2,9],[1,2,9,10],[6],[1,2,9,16],[6],[1,2,9,22],[6],[1,2,9,28],[6],[1,2,9,34],[6],[1,2,9,42],[1,2,46],[6],[6],[1,2,49],[1,2,53],[6],[6],[7],[6]]
theorem QLe (op a b:Int):Ctr Go.Proofs.Tryz.prog tab 198 [3,2,2] [2] [.int op,.int a,.int b] [.int (QFf op a b)]:=by
 refine Ctr.body ok Go.Proofs.Tryz.func198 rfl rfl 63 rfl [.tmp 6] rfl (by simp [QF]) ?_
 simp only [go_sem,Nat.reduceAdd]
 repeat' first
  | ((with_reducible refine Q5 fun R1 hR1=>?_);(simp only [go_sem,seval,-List.reduceReplicate]);(repeat' with_reducible refine And.intro ?_ ?_);all_goals first|(refine hR1 _ ?_;clear hR1 R1)|((first|refine cq (cc (UV _ _)) ?_|refine cq (cc (xT _)) ?_|refine ce (cf (QEq _ _) ?_));all_goals ((try simp only [go_sem,seval,-List.reduceReplicate]);(repeat' with_reducible refine And.intro ?_ ?_);all_goals first|(refine hR1 _ ?_;clear hR1 R1)|exact Vz))|exact Vz)
  | ((with_reducible refine Q4 ?_);refine hR _ ?_;clear hR R;try simp only [go_sem,QOI,Nat.reduceBEq])
  | (with_reducible first|refine J1 ?_|refine J2 ?_|refine J3 ?_|refine J4 ?_|refine J5 ?_|refine J6 ?_|refine J7 ?_|refine J8 (by decide) ?_|refine J9 ?_|refine Q2 ?_|refine Q1 ?_|refine Yc ?_)
  | ((with_reducible refine rg QOI fun R hR=>?_);simp only [go_sem,QC])
  | ((with_reducible refine QI 10 rfl (fun hb10=>?_) fun hb10=>?_);all_goals (try simp at hb10))
  | ((with_reducible refine QI 16 rfl (fun hb16=>?_) fun hb16=>?_);all_goals (try simp at hb16))
  | ((with_reducible refine QI 22 rfl (fun hb22=>?_) fun hb22=>?_);all_goals (try simp at hb22))
  | ((with_reducible refine QI 28 rfl (fun hb28=>?_) fun hb28=>?_);all_goals (try simp at hb28))
  | ((with_reducible refine QI 34 rfl (fun hb34=>?_) fun hb34=>?_);all_goals (try simp at hb34))
  | ((with_reducible refine QI 42 rfl (fun hb42=>?_) fun hb42=>?_);all_goals (try simp at hb42))
  | ((with_reducible refine QI 46 rfl (fun hb46=>?_) fun hb46=>?_);all_goals (try simp at hb46))
  | ((with_reducible refine QI 49 rfl (fun hb49=>?_) fun hb49=>?_);all_goals (try simp at hb49))
  | ((with_reducible refine QI 53 rfl (fun hb53=>?_) fun hb53=>?_);all_goals (try simp at hb53))
  | ((with_reducible first|refine ZQ ?_|refine ZP ?_)
     simp only [go_sem,QL,QM,QH,seval]
     (repeat' with_reducible refine And.intro ?_ ?_)
     all_goals first|rfl|(simp only [QFf];(repeat' split)<;>first|rfl|omega|(exfalso;omega)|(simp_all;done)|(simp_all;omega))|(simp [QFf, *];done)|(simp [QFf, *];omega))
def QOa:List (List Nat):=[[0,1,2],[0,1,2,12],[0,1,2,12,13],[6,7],[0,1,2,12,18],[6,7],[0,1,2,12,23],[9],[6,7],[0,1,2,12,33],[0,1,2,12,33],[0,1,2,37],[6,7],[0,1,2,39],[1,41],[6,7],[6,7],[1,2,45],[6,7],[6,7],[0,1,2,12,56],[0,1,2,12,56],[0,1,2,12,56],[0,1,2,12,56],[6,7],[0,1,2,12,65],[0,1,2,12,65],[0,1,2,12,65],[0,1,2,70],[6,7],[0,1,2,72],[6,7],[1,2,78],[6,7],[6,7],[0,1,2,91],[1,2,10],[1,2,10,11],[1,2,10,11,94],[1,2,10,11],[1,2,10,11],[6,7],[6,7]]
theorem QMX (op a b:Int):Ctr Go.Proofs.Tryz.prog tab 173 [3,2,2] [2,3] [.int op,.int a,.int b] [.int (XW op a b).1,.int (XW op a b).2]:=by
 refine Ctr.body ok Go.Proofs.Tryz.func173 rfl rfl 114 rfl [.tmp 6,.tmp 7] rfl (by simp [QF]) ?_
 simp only [go_sem,Nat.reduceAdd]
 repeat' first
  | ((with_reducible refine Q5 fun R1 hR1=>?_);(simp only [go_sem,seval,-List.reduceReplicate]);(repeat' with_reducible refine And.intro ?_ ?_);all_goals first|(refine hR1 _ ?_;clear hR1 R1)|((first|refine cq (cc (UV _ _)) ?_|refine cq (cc (yI _ _ _)) ?_|refine cq (cc (QLl _)) ?_|refine cq (cc (QMB _ _ _)) ?_|refine cq (cc (QIt _ _ _)) ?_|refine cq (cc (QLe _ _ _)) ?_|refine ce (cf (QEq _ _) ?_));all_goals ((try simp only [go_sem,seval,-List.reduceReplicate]);(repeat' with_reducible refine And.intro ?_ ?_);all_goals first|(refine hR1 _ ?_;clear hR1 R1)|exact Vz))|exact Vz)
  | ((with_reducible refine Q4 ?_);refine hR _ ?_;clear hR R;try simp only [go_sem,QOa,Nat.reduceBEq])
  | (with_reducible first|refine J1 ?_|refine J2 ?_|refine J3 ?_|refine J4 ?_|refine J5 ?_|refine J6 ?_|refine J7 ?_|refine J8 (by decide) ?_|refine J9 ?_|refine Xu ?_|refine Q2 ?_|refine Q1 ?_|refine Yc ?_|refine Xt ?_)
  | ((with_reducible refine rg QOa fun R hR=>?_);simp only [go_sem,QC])
  | ((with_reducible refine QI 13 rfl (fun hb13=>?_) fun hb13=>?_);all_goals (try simp only [decide_eq_true_eq,decide_eq_false_iff_not] at hb13;try (exfalso;omega)))
  | ((with_reducible refine QI 18 rfl (fun hb18=>?_) fun hb18=>?_);all_goals (try simp only [decide_eq_true_eq,decide_eq_false_iff_not] at hb18;try (exfalso;omega)))
  | ((with_reducible refine QI 23 rfl (fun hb23=>?_) fun hb23=>?_);all_goals (try simp only [decide_eq_true_eq,decide_eq_false_iff_not] at hb23;try (exfalso;omega)))
  | ((with_reducible refine QI 33 rfl (fun hb33=>?_) fun hb33=>?_);all_goals (try simp only [decide_eq_true_eq,decide_eq_false_iff_not] at hb33;try (exfalso;omega)))
  | ((with_reducible refine QI 37 rfl (fun hb37=>?_) fun hb37=>?_);all_goals (try simp only [decide_eq_true_eq,decide_eq_false_iff_not] at hb37;try (exfalso;omega)))
  | ((with_reducible refine QI 39 rfl (fun hb39=>?_) fun hb39=>?_);all_goals (try simp only [decide_eq_true_eq,decide_eq_false_iff_not] at hb39;try (exfalso;omega)))
  | ((with_reducible refine QI 41 rfl (fun hb41=>?_) fun hb41=>?_);all_goals (try simp only [decide_eq_true_eq,decide_eq_false_iff_not] at hb41;try (exfalso;omega)))
  | ((with_reducible refine QI 45 rfl (fun hb45=>?_) fun hb45=>?_);all_goals (try simp only [decide_eq_true_eq,decide_eq_false_iff_not] at hb45;try (exfalso;omega)))
  | ((with_reducible refine QI 56 rfl (fun hb56=>?_) fun hb56=>?_);all_goals (try simp only [decide_eq_true_eq,decide_eq_false_iff_not] at hb56;try (exfalso;omega)))
  | ((with_reducible refine QI 65 rfl (fun hb65=>?_) fun hb65=>?_);all_goals (try simp only [decide_eq_true_eq,decide_eq_false_iff_not] at hb65;try (exfalso;omega)))
  | ((with_reducible refine QI 70 rfl (fun hb70=>?_) fun hb70=>?_);all_goals (try simp only [decide_eq_true_eq,decide_eq_false_iff_not] at hb70;try (exfalso;omega)))
  | ((with_reducible refine QI 72 rfl (fun hb72=>?_) fun hb72=>?_);all_goals (try simp only [decide_eq_true_eq,decide_eq_false_iff_not] at hb72;try (exfalso;omega)))
  | ((with_reducible refine QI 78 rfl (fun hb78=>?_) fun hb78=>?_);all_goals (try simp only [decide_eq_true_eq,decide_eq_false_iff_not] at hb78;try (exfalso;omega)))
  | ((with_reducible refine QI 91 rfl (fun hb91=>?_) fun hb91=>?_);all_goals (try simp only [decide_eq_true_eq,decide_eq_false_iff_not] at hb91;try (exfalso;omega)))
  | ((with_reducible refine SA.cond rfl ?_ ?_)
     all_goals
      intro hb
      try simp only [decide_eq_true_eq,decide_eq_false_iff_not] at hb
      try (exfalso;omega))
  | ((with_reducible refine Ya ?_)
     refine Zv (Qo (by first|rfl|(simp [YT];done)|fail)) (Yb (fun n τ=>∃ (k:Nat),n=64-k∧(k≤64)∧τ={ tm:=[(1,true,.int .i64 a),(2,true,.int .i64 b),(10,true,.int .i64 (YT (QKa a b) 0 k)),(11,true,.int .i64 k)],ob:=[],out:=[],nt:=114 }) (64) ⟨0,rfl,by omega,rfl⟩ ?_)
     rintro n τ ⟨k,hn,hk,rfl⟩)
  | ((with_reducible refine WC ?_)
     first
      | (have hk:k<64:=by omega
         have hw:IntKind.i64.wrap ((k:Int)+1)=((k+1:Nat):Int):=QD hk (by decide)
         refine Z0 (64-(k+1)) _ (by omega) (Qo (by simp only [hw,YT];first|rfl|(simp [QKa, *];done)|(simp only [QKa, *];(repeat' split)<;>first|rfl|omega|(exfalso;omega)|(simp_all;done)|fail)|fail)) ⟨k+1,rfl,by omega,rfl⟩))
  | ((with_reducible first|refine ZQ ?_|refine ZP ?_)
     simp only [go_sem,QL,QM,QH,seval]
     first
      | ((repeat' with_reducible refine And.intro ?_ ?_)
         all_goals first|rfl|(simp [XW, *];done)|(simp [XW, *];omega))
      | (have hk64:k=64:=by omega
         subst hk64
         (repeat' with_reducible refine And.intro ?_ ?_)
         all_goals first|rfl|(simp [XW,QGZ, *];done)|(simp [XW,QGZ, *];omega)))
def QOw:List (List Nat):=[[0,1,2],[0,1,2,9],[0,1,2,9,10],[6,7],[0,1,2,12],[6,7],[6,7]]
theorem QDW (op a b:Int):Ctr Go.Proofs.Tryz.prog tab 136 [3,2,2] [2,3] [.int op,.int a,.int b] [.int (QB op a b).1,.int (QB op a b).2]:=by
 refine Ctr.body ok Go.Proofs.Tryz.func136 rfl rfl 23 rfl [.tmp 6,.tmp 7] rfl (by simp [QF]) ?_
 simp only [go_sem,Nat.reduceAdd]
 repeat' first
  | ((with_reducible refine Q5 fun R1 hR1=>?_);(simp only [go_sem,seval,-List.reduceReplicate]);(repeat' with_reducible refine And.intro ?_ ?_);all_goals first|(refine hR1 _ ?_;clear hR1 R1)|((first|refine cq (cc (QJs _)) ?_|refine cq (cc (QM3 _ _)) ?_|refine ce (cf (QMX _ _ _) ?_));all_goals ((try simp only [go_sem,seval,-List.reduceReplicate]);(repeat' with_reducible refine And.intro ?_ ?_);all_goals first|(refine hR1 _ ?_;clear hR1 R1)|exact Vz))|exact Vz)
  | ((with_reducible refine Q4 ?_);refine hR _ ?_;clear hR R;try simp only [go_sem,QOw,Nat.reduceBEq])
  | (with_reducible first|refine J1 ?_|refine J2 ?_|refine J3 ?_|refine J4 ?_|refine J5 ?_|refine J6 ?_|refine J7 ?_|refine J8 (by decide) ?_|refine J9 ?_|refine Q2 ?_|refine Q1 ?_|refine Yc ?_)
  | ((with_reducible refine rg QOw fun R hR=>?_);simp only [go_sem,QC])
  | ((with_reducible refine QI 10 rfl (fun hb10=>?_) fun hb10=>?_);all_goals (try simp at hb10))
  | ((with_reducible refine QI 12 rfl (fun hb12=>?_) fun hb12=>?_);all_goals (try simp at hb12))
  | ((with_reducible first|refine ZQ ?_|refine ZP ?_)
     simp only [go_sem,QL,QM,QH,seval]
     (repeat' with_reducible refine And.intro ?_ ?_)
     all_goals first|rfl|(simp only [QB];(repeat' split)<;>first|rfl|omega|(exfalso;omega)|(simp_all;done)|(simp_all;omega))|(simp [QB, *];done)|(simp [QB, *];omega))
def QOv:List (List Nat):=[[1,2,3,6],[6]]
theorem QJa (g:Gor) (status why:Int):Ctr Go.Proofs.Tryz.prog tab 137 [44,3,3] [44] [g.v,.int status,.int why] [(ended g status why).v]:=by
 refine Ctr.body ok Go.Proofs.Tryz.func137 rfl rfl 14 rfl [.cell 6 44] rfl (by simp [QF]) ?_
 simp only [go_sem,Nat.reduceAdd]
 repeat' first
  | ((with_reducible refine Q5 fun R1 hR1=>?_);(simp only [go_sem,seval,-List.reduceReplicate,Q6]);(repeat' with_reducible refine And.intro ?_ ?_);all_goals first|(refine hR1 _ ?_;clear hR1 R1)|exact Vz)
  | ((with_reducible refine Q4 ?_);refine hR _ ?_;clear hR R;try simp only [go_sem,QOv,Nat.reduceBEq])
  | (with_reducible first|refine J1 ?_|refine J2 ?_|refine Q2 ?_|refine Q1 ?_)
  | ((with_reducible refine rg QOv fun R hR=>?_);simp only [go_sem,QC])
  | ((with_reducible first|refine ZQ ?_|refine ZP ?_)
     simp only [go_sem,QL,QM,QH,seval]
     exact ⟨rfl,rfl⟩)
def QCF:List (List Nat):=[[2,3,4,6],[2,3,4,6],[2,3,4,6,7],[2,3,4,6,7,27],[6],[2,3,4,6,7,30],[4,6],[6],[2,3,4,6,7],[6],[2,3,4,6,7,37],[2,3,4,6,7,8],[2,3,4,6],[2,3,4,6,7,57],[2,3,4,6,7,10,11],[2,3,4,6,7,10,11,78],[6],[2,3,4,6,7,10,82],[6],[2,3,4,6],[2,3,4,6,7,90],[2,3,4,6],[2,3,4,6,7,100],[2,3,4,6],[2,3,4,6,7,113],[2,3,4,6],[2,3,4,6,7,120],[2,3,4,6,7,129],[2,3,4,6],[2,3,4,6,7,133],[2,3,4,6,142],[6],[2,3,4,6]]
end Go.Eng.Tryz
