/- A part of the proof: walks through the program's functions, and what they compute. -/
import Derived.Test.YtmonhjagbhpbeaaGreatDoorPk11
set_option linter.unusedSimpArgs false
set_option linter.unusedVariables false
namespace Go.Eng.Tryz
open Go.RowKit Go.Eng
set_option maxHeartbeats 0
set_option maxRecDepth 20000
theorem QFa (n:Nat) (hn:n<18446744073709551616):Ctr Go.Proofs.Tryz.prog tab 213 [266] [3] [.int n] [.int (Zw n)]:=by
 refine Ctr.body ok Go.Proofs.Tryz.func213 rfl rfl 25 rfl [.tmp 2] rfl (by simp [QF]) ?_
 simp only [go_sem,Nat.reduceAdd]
 repeat' first
  | ((with_reducible refine SARA.told 2 2 ?_)
     simp only [QEV])
  | ((with_reducible refine SARA.told 5 2 ?_)
     simp only [QEW])
  | ((with_reducible refine SARA.told 8 2 ?_)
     simp only [f8'])
  | ((with_reducible refine Q5 fun R1 hR1=>?_);(simp only [go_sem,seval,-List.reduceReplicate,Bool.cond_false_right,Bool.cond_true_left]);(repeat' with_reducible refine And.intro ?_ ?_);all_goals first|(refine hR1 _ ?_;clear hR1 R1)|omega|decide|(intro _;omega)|(intro _;decide)|exact Um hsz _|exact (Um hsz _).1|exact (Um hsz _).2|(intro _;exact Um hsz _)|(intro _;exact (Um hsz _).1)|(intro _;exact (Um hsz _).2))
  | ((with_reducible refine Q4 ?_);refine hR _ ?_;clear hR R;try simp only [go_sem,QLE,Nat.reduceBEq])
  | (with_reducible first|refine J1 ?_|refine J2 ?_|refine J3 ?_|refine Q2 ?_|refine Q1 ?_)
  | ((with_reducible refine Qe 0 ?_)
     generalize hTB:ByteArray.mk _=TB
     have hsz:TB.size=256:=by rw [← hTB];rfl
     have hv:∀ n:Fin 256,(((TB.data[n.1]?).getD 0).toNat:Nat)=Zw n.1:=by
      rw [← hTB]
      decide +kernel
     clear hTB
     (with_reducible refine rg QLE fun R hR=>?_);simp only [go_sem,QC])
  | ((with_reducible refine rg QLE fun R hR=>?_);simp only [go_sem,QC])
  | ((with_reducible refine QI 4 rfl (fun hb4=>?_) fun hb4=>?_);all_goals (try simp [-List.getD_eq_getElem?_getD] at hb4;try (exfalso;omega)))
  | ((with_reducible refine QI 8 rfl (fun hb8=>?_) fun hb8=>?_);all_goals (try simp [-List.getD_eq_getElem?_getD] at hb8;try (exfalso;omega)))
  | ((with_reducible refine QI 14 rfl (fun hb14=>?_) fun hb14=>?_);all_goals (try simp [-List.getD_eq_getElem?_getD] at hb14;try (exfalso;omega)))
  | ((with_reducible first|refine ZQ ?_|refine ZP ?_)
     simp only [go_sem,QL,QM,QH,seval]
     first
      | (have q0:n<4294967296:=by omega
         have q1:n<65536:=by omega
         have q2:n<256:=by omega
         have hX:n<256:=by omega
         have hl:=Yv (x:=n) (by omega)
         refine ⟨rfl,congrArg (fun e=>some (V.int e)) ?_⟩
         try simp only [QEV,QEW,f8']
         rw [w9 hX,hv ⟨n,hX⟩]
         try simp only [w48,w40,w16,w8,Int.reduceAdd,w56,w24]
         rw [Qm (x:=(Zw n:Int)) (by omega) (by omega),Qm (by omega) (by omega)]
         omega)
      | (have q0:n<4294967296:=by omega
         have q1:n<65536:=by omega
         have q2:256≤n:=by omega
         have s0:Zw n=Zw (n / 256)+8:=QEQ (x:=n) (by omega)
         have hX:(n / 256)<256:=by omega
         have hl:=Yv (x:=(n / 256)) (by omega)
         refine ⟨rfl,congrArg (fun e=>some (V.int e)) ?_⟩
         try simp only [QEV,QEW,f8']
         rw [w9 hX,hv ⟨(n / 256),hX⟩]
         try simp only [w48,w40,w16,w8,Int.reduceAdd,w56,w24]
         rw [Qm (x:=(Zw (n / 256):Int)) (by omega) (by omega),Qm (by omega) (by omega)]
         omega)
      | (have q0:n<4294967296:=by omega
         have q1:65536≤n:=by omega
         have q2:(n / 65536)<256:=by omega
         have s0:Zw n=Zw (n / 65536)+16:=QAC (x:=n) (by omega)
         have hX:(n / 65536)<256:=by omega
         have hl:=Yv (x:=(n / 65536)) (by omega)
         refine ⟨rfl,congrArg (fun e=>some (V.int e)) ?_⟩
         try simp only [QEV,QEW,f8']
         rw [w9 hX,hv ⟨(n / 65536),hX⟩]
         try simp only [w48,w40,w16,w8,Int.reduceAdd,w56,w24]
         rw [Qm (x:=(Zw (n / 65536):Int)) (by omega) (by omega),Qm (by omega) (by omega)]
         omega)
      | (have q0:n<4294967296:=by omega
         have q1:65536≤n:=by omega
         have q2:256≤(n / 65536):=by omega
         have s0:Zw n=Zw (n / 65536)+16:=QAC (x:=n) (by omega)
         have s1:Zw (n / 65536)=Zw ((n / 65536) / 256)+8:=QEQ (x:=(n / 65536)) (by omega)
         have hX:((n / 65536) / 256)<256:=by omega
         have hl:=Yv (x:=((n / 65536) / 256)) (by omega)
         refine ⟨rfl,congrArg (fun e=>some (V.int e)) ?_⟩
         try simp only [QEV,QEW,f8']
         rw [w9 hX,hv ⟨((n / 65536) / 256),hX⟩]
         try simp only [w48,w40,w16,w8,Int.reduceAdd,w56,w24]
         rw [Qm (x:=(Zw ((n / 65536) / 256):Int)) (by omega) (by omega),Qm (by omega) (by omega)]
         omega)
      | (have q0:4294967296≤n:=by omega
         have q1:(n / 4294967296)<65536:=by omega
         have q2:(n / 4294967296)<256:=by omega
         have s0:Zw n=Zw (n / 4294967296)+32:=QAB (x:=n) (by omega)
         have hX:(n / 4294967296)<256:=by omega
         have hl:=Yv (x:=(n / 4294967296)) (by omega)
         refine ⟨rfl,congrArg (fun e=>some (V.int e)) ?_⟩
         try simp only [QEV,QEW,f8']
         rw [w9 hX,hv ⟨(n / 4294967296),hX⟩]
         try simp only [w48,w40,w16,w8,Int.reduceAdd,w56,w24]
         rw [Qm (x:=(Zw (n / 4294967296):Int)) (by omega) (by omega),Qm (by omega) (by omega)]
         omega)
      | (have q0:4294967296≤n:=by omega
         have q1:(n / 4294967296)<65536:=by omega
         have q2:256≤(n / 4294967296):=by omega
         have s0:Zw n=Zw (n / 4294967296)+32:=QAB (x:=n) (by omega)
         have s1:Zw (n / 4294967296)=Zw ((n / 4294967296) / 256)+8:=QEQ (x:=(n / 4294967296)) (by omega)
         have hX:((n / 4294967296) / 256)<256:=by omega
         have hl:=Yv (x:=((n / 4294967296) / 256)) (by omega)
         refine ⟨rfl,congrArg (fun e=>some (V.int e)) ?_⟩
         try simp only [QEV,QEW,f8']
         rw [w9 hX,hv ⟨((n / 4294967296) / 256),hX⟩]
         try simp only [w48,w40,w16,w8,Int.reduceAdd,w56,w24]
         rw [Qm (x:=(Zw ((n / 4294967296) / 256):Int)) (by omega) (by omega),Qm (by omega) (by omega)]
         omega)
      | (have q0:4294967296≤n:=by omega
         have q1:65536≤(n / 4294967296):=by omega
         have q2:((n / 4294967296) / 65536)<256:=by omega
         have s0:Zw n=Zw (n / 4294967296)+32:=QAB (x:=n) (by omega)
         have s1:Zw (n / 4294967296)=Zw ((n / 4294967296) / 65536)+16:=QAC (x:=(n / 4294967296)) (by omega)
         have hX:((n / 4294967296) / 65536)<256:=by omega
         have hl:=Yv (x:=((n / 4294967296) / 65536)) (by omega)
         refine ⟨rfl,congrArg (fun e=>some (V.int e)) ?_⟩
         try simp only [QEV,QEW,f8']
         rw [w9 hX,hv ⟨((n / 4294967296) / 65536),hX⟩]
         try simp only [w48,w40,w16,w8,Int.reduceAdd,w56,w24]
         rw [Qm (x:=(Zw ((n / 4294967296) / 65536):Int)) (by omega) (by omega),Qm (by omega) (by omega)]
         omega)
      | (have q0:4294967296≤n:=by omega
         have q1:65536≤(n / 4294967296):=by omega
         have q2:256≤((n / 4294967296) / 65536):=by omega
         have s0:Zw n=Zw (n / 4294967296)+32:=QAB (x:=n) (by omega)
         have s1:Zw (n / 4294967296)=Zw ((n / 4294967296) / 65536)+16:=QAC (x:=(n / 4294967296)) (by omega)
         have s2:Zw ((n / 4294967296) / 65536)=Zw (((n / 4294967296) / 65536) / 256)+8:=QEQ (x:=((n / 4294967296) / 65536)) (by omega)
         have hX:(((n / 4294967296) / 65536) / 256)<256:=by omega
         have hl:=Yv (x:=(((n / 4294967296) / 65536) / 256)) (by omega)
         refine ⟨rfl,congrArg (fun e=>some (V.int e)) ?_⟩
         try simp only [QEV,QEW,f8']
         rw [w9 hX,hv ⟨(((n / 4294967296) / 65536) / 256),hX⟩]
         try simp only [w48,w40,w16,w8,Int.reduceAdd,w56,w24]
         rw [Qm (x:=(Zw (((n / 4294967296) / 65536) / 256):Int)) (by omega) (by omega),Qm (by omega) (by omega)]
         omega))
def QOE:List (List Nat):=[[0],[2]]
theorem QLY (n:Nat) (hn:n<18446744073709551616):Ctr Go.Proofs.Tryz.prog tab 215 [266] [3] [.int n] [.int (64-(Zw n:Int))]:=by
 refine Ctr.body ok Go.Proofs.Tryz.func215 rfl rfl 6 rfl [.tmp 2] rfl (by simp [QF]) ?_
 simp only [go_sem,Nat.reduceAdd]
 repeat' first
  | ((with_reducible refine Q5 fun R1 hR1=>?_);(simp only [go_sem,seval,-List.reduceReplicate,Bool.cond_false_right,Bool.cond_true_left]);(repeat' with_reducible refine And.intro ?_ ?_);all_goals first|(refine hR1 _ ?_;clear hR1 R1)|((first|refine cq (cc (QFa n hn)) ?_);all_goals ((try simp only [go_sem,seval,-List.reduceReplicate,Bool.cond_false_right,Bool.cond_true_left]);(repeat' with_reducible refine And.intro ?_ ?_);all_goals first|(refine hR1 _ ?_;clear hR1 R1)|omega|decide|(intro _;omega)|(intro _;decide)))|omega|decide|(intro _;omega)|(intro _;decide))
  | ((with_reducible refine Q4 ?_);refine hR _ ?_;clear hR R;try simp only [go_sem,QOE,Nat.reduceBEq])
  | (with_reducible first|refine J1 ?_|refine J2 ?_|refine Q2 ?_|refine Q1 ?_)
  | ((with_reducible refine rg QOE fun R hR=>?_);simp only [go_sem,QC])
  | ((with_reducible first|refine ZQ ?_|refine ZP ?_)
     simp only [go_sem,QL,QM,QH,seval]
     have hl:=Yv hn
     exact ⟨rfl,congrArg (fun e=>some (V.int e)) (Qm (by omega) (by omega))⟩)
def QOA:List (List Nat):=[[0,1],[0,1,6,7],[0,1,6,7,17],[0,1,6,7],[0,6,7,23],[6,7],[4,5]]
theorem QIT (a b:Int) (ha : -9223372036854775808≤a∧a<9223372036854775808) (hb : -9223372036854775808≤b∧b<9223372036854775808):Ctr Go.Proofs.Tryz.prog tab 220 [2,2] [2,266] [.int a,.int b] [.int (w5 a b).1,.int (w5 a b).2]:=by
 obtain ⟨ua,hua⟩:∃ n:Nat,IntKind.u64.wrap a=(n:Int):=⟨_,Xz a⟩
 obtain ⟨ub,hub⟩:∃ n:Nat,IntKind.u64.wrap b=(n:Int):=⟨_,Xz b⟩
 have h1:ua<18446744073709551616:=by rw [ZL] at hua;omega
 have h2:ub<18446744073709551616:=by rw [ZL] at hub;omega
 refine Ctr.body ok Go.Proofs.Tryz.func220 rfl rfl 31 rfl [.tmp 4,.tmp 5] rfl (by simp [QF]) ?_
 simp only [go_sem,Nat.reduceAdd]
 repeat' first
  | ((with_reducible refine Q5 fun R1 hR1=>?_);(simp only [go_sem,seval,-List.reduceReplicate,Bool.cond_false_right,Bool.cond_true_left,hua,hub]);(repeat' with_reducible refine And.intro ?_ ?_);all_goals first|(refine hR1 _ ?_;clear hR1 R1)|((first|refine ce (cf (QJB ua ub h1 h2) ?_));all_goals ((try simp only [go_sem,seval,-List.reduceReplicate,Bool.cond_false_right,Bool.cond_true_left,hua,hub]);(repeat' with_reducible refine And.intro ?_ ?_);all_goals first|(refine hR1 _ ?_;clear hR1 R1)|omega|decide|(intro _;omega)|(intro _;decide)))|omega|decide|(intro _;omega)|(intro _;decide))
  | ((with_reducible refine Q4 ?_);refine hR _ ?_;clear hR R;try simp only [go_sem,QOA,Nat.reduceBEq])
  | (with_reducible first|refine J1 ?_|refine J2 ?_|refine J3 ?_|refine Q2 ?_|refine Q1 ?_)
  | ((with_reducible refine rg QOA fun R hR=>?_);simp only [go_sem,QC])
  | ((with_reducible refine QI 17 rfl (fun hb17=>?_) fun hb17=>?_);all_goals (try simp [-List.getD_eq_getElem?_getD] at hb17;try (exfalso;omega)))
  | ((with_reducible refine QI 23 rfl (fun hb23=>?_) fun hb23=>?_);all_goals (try simp [-List.getD_eq_getElem?_getD] at hb23;try (exfalso;omega)))
  | ((with_reducible first|refine ZQ ?_|refine ZP ?_)
     simp only [go_sem,QL,QM,QH,seval]
     first
      | (have q1:0≤a:=hb17
         have q2:0≤b:=hb23
         have hw:=qB ha hb
         simp only [← ZL,hua,hub,if_neg (Int.not_lt.2 hb17),if_neg (Int.not_lt.2 hb23)] at hw
         have c:((ua*ub / 18446744073709551616:Nat):Int)=(ua:Int)*ub / 18446744073709551616:=by simp
         have c2:((ua*ub % 18446744073709551616:Nat):Int)=IntKind.u64.wrap ((ua:Int)*ub):=by rw [ZL];simp
         rw [zA ha hb]
         refine ⟨⟨rfl,congrArg (fun e=>some (V.int e)) ?_⟩,rfl,congrArg (fun e=>some (V.int e)) ?_⟩
         · rw [c];exact hw.1
         · rw [c2,hw.2,ZL])
      | (have q1:0≤a:=hb17
         have q2:b<0:=hb23
         have hw:=qB ha hb
         simp only [← ZL,hua,hub,if_neg (Int.not_lt.2 hb17),if_pos hb23] at hw
         have c:((ua*ub / 18446744073709551616:Nat):Int)=(ua:Int)*ub / 18446744073709551616:=by simp
         have c2:((ua*ub % 18446744073709551616:Nat):Int)=IntKind.u64.wrap ((ua:Int)*ub):=by rw [ZL];simp
         rw [zA ha hb]
         refine ⟨⟨rfl,congrArg (fun e=>some (V.int e)) ?_⟩,rfl,congrArg (fun e=>some (V.int e)) ?_⟩
         · rw [c];exact hw.1
         · rw [c2,hw.2,ZL])
      | (have q1:a<0:=hb17
         have q2:0≤b:=hb23
         have hw:=qB ha hb
         simp only [← ZL,hua,hub,if_pos hb17,if_neg (Int.not_lt.2 hb23)] at hw
         have c:((ua*ub / 18446744073709551616:Nat):Int)=(ua:Int)*ub / 18446744073709551616:=by simp
         have c2:((ua*ub % 18446744073709551616:Nat):Int)=IntKind.u64.wrap ((ua:Int)*ub):=by rw [ZL];simp
         rw [zA ha hb]
         refine ⟨⟨rfl,congrArg (fun e=>some (V.int e)) ?_⟩,rfl,congrArg (fun e=>some (V.int e)) ?_⟩
         · rw [c];exact hw.1
         · rw [c2,hw.2,ZL])
      | (have q1:a<0:=hb17
         have q2:b<0:=hb23
         have hw:=qB ha hb
         simp only [← ZL,hua,hub,if_pos hb17,if_pos hb23] at hw
         have c:((ua*ub / 18446744073709551616:Nat):Int)=(ua:Int)*ub / 18446744073709551616:=by simp
         have c2:((ua*ub % 18446744073709551616:Nat):Int)=IntKind.u64.wrap ((ua:Int)*ub):=by rw [ZL];simp
         rw [zA ha hb]
         refine ⟨⟨rfl,congrArg (fun e=>some (V.int e)) ?_⟩,rfl,congrArg (fun e=>some (V.int e)) ?_⟩
         · rw [c];exact hw.1
         · rw [c2,hw.2,ZL]))
def QOU:List (List Nat):=[[0,1],[1,5],[1,5,6],[1,5,8],[1,5,10],[1,5,12],[1,5,14],[1,5,16],[1,5,18],[1,5,20],[1,5,22],[1,5,24],[1,5,26],[1,5,28],[1,5,30],[1,32],[1,35],[4],[4],[4],[4],[4],[4],[4],[4],[4],[4],[4],[4],[4],[4],[4]]
theorem QJz (op a:Int) (hop:1≤op∧op≤15) (ha : -9223372036854775808≤a∧a<9223372036854775808):Ctr Go.Proofs.Tryz.prog tab 186 [58,2] [2] [.int op,.int a] [.int (QEH op a)]:=by
 obtain ⟨ua,hua⟩:∃ n:Nat,IntKind.u64.wrap a=(n:Int):=⟨_,Xz a⟩
 have h1:ua<18446744073709551616:=by rw [ZL] at hua;omega
 have hu:(BitVec.ofInt 64 a).toNat=ua:=by
  have h:=Xz a
  rw [hua] at h
  omega
 refine Ctr.body ok Go.Proofs.Tryz.func186 rfl rfl 76 rfl [.tmp 4] rfl (by simp [QF]) ?_
 simp only [go_sem,Nat.reduceAdd]
 repeat' first
  | ((with_reducible refine Q5 fun R1 hR1=>?_);(simp only [go_sem,seval,-List.reduceReplicate,Bool.cond_false_right,Bool.cond_true_left,hua]);(repeat' with_reducible refine And.intro ?_ ?_);all_goals first|(refine hR1 _ ?_;clear hR1 R1)|((first|refine cq (cc (QKs ua h1)) ?_|refine cq (cc (QLY ua h1)) ?_|refine cq (cc (QNd ua h1)) ?_|refine cq (cc (QIX a)) ?_|refine cq (cc (QEo _)) ?_);all_goals ((try simp only [go_sem,seval,-List.reduceReplicate,Bool.cond_false_right,Bool.cond_true_left,hua]);(repeat' with_reducible refine And.intro ?_ ?_);all_goals first|(refine hR1 _ ?_;clear hR1 R1)|omega|decide|(intro _;omega)|(intro _;decide)))|omega|decide|(intro _;omega)|(intro _;decide))
  | ((with_reducible refine Q4 ?_);refine hR _ ?_;clear hR R;try simp only [go_sem,QOU,Nat.reduceBEq])
  | (with_reducible first|refine J1 ?_|refine J2 ?_|refine J3 ?_|refine J4 ?_|refine J5 ?_|refine J6 ?_|refine J7 ?_|refine J8 (by decide) ?_|refine J9 ?_|refine Q2 ?_|refine Q1 ?_|refine Yc ?_)
  | ((with_reducible refine rg QOU fun R hR=>?_);simp only [go_sem,QC])
  | ((with_reducible refine QI 6 rfl (fun hb6=>?_) fun hb6=>?_);all_goals (try simp [-List.getD_eq_getElem?_getD] at hb6;try (exfalso;omega)))
  | ((with_reducible refine QI 8 rfl (fun hb8=>?_) fun hb8=>?_);all_goals (try simp [-List.getD_eq_getElem?_getD] at hb8;try (exfalso;omega)))
  | ((with_reducible refine QI 10 rfl (fun hb10=>?_) fun hb10=>?_);all_goals (try simp [-List.getD_eq_getElem?_getD] at hb10;try (exfalso;omega)))
  | ((with_reducible refine QI 12 rfl (fun hb12=>?_) fun hb12=>?_);all_goals (try simp [-List.getD_eq_getElem?_getD] at hb12;try (exfalso;omega)))
  | ((with_reducible refine QI 14 rfl (fun hb14=>?_) fun hb14=>?_);all_goals (try simp [-List.getD_eq_getElem?_getD] at hb14;try (exfalso;omega)))
  | ((with_reducible refine QI 16 rfl (fun hb16=>?_) fun hb16=>?_);all_goals (try simp [-List.getD_eq_getElem?_getD] at hb16;try (exfalso;omega)))
  | ((with_reducible refine QI 18 rfl (fun hb18=>?_) fun hb18=>?_);all_goals (try simp [-List.getD_eq_getElem?_getD] at hb18;try (exfalso;omega)))
  | ((with_reducible refine QI 20 rfl (fun hb20=>?_) fun hb20=>?_);all_goals (try simp [-List.getD_eq_getElem?_getD] at hb20;try (exfalso;omega)))
  | ((with_reducible refine QI 22 rfl (fun hb22=>?_) fun hb22=>?_);all_goals (try simp [-List.getD_eq_getElem?_getD] at hb22;try (exfalso;omega)))
  | ((with_reducible refine QI 24 rfl (fun hb24=>?_) fun hb24=>?_);all_goals (try simp [-List.getD_eq_getElem?_getD] at hb24;try (exfalso;omega)))
  | ((with_reducible refine QI 26 rfl (fun hb26=>?_) fun hb26=>?_);all_goals (try simp [-List.getD_eq_getElem?_getD] at hb26;try (exfalso;omega)))
  | ((with_reducible refine QI 28 rfl (fun hb28=>?_) fun hb28=>?_);all_goals (try simp [-List.getD_eq_getElem?_getD] at hb28;try (exfalso;omega)))
  | ((with_reducible refine QI 30 rfl (fun hb30=>?_) fun hb30=>?_);all_goals (try simp [-List.getD_eq_getElem?_getD] at hb30;try (exfalso;omega)))
  | ((with_reducible refine QI 32 rfl (fun hb32=>?_) fun hb32=>?_);all_goals (try simp [-List.getD_eq_getElem?_getD] at hb32;try (exfalso;omega)))
  | ((with_reducible refine QI 35 rfl (fun hb35=>?_) fun hb35=>?_);all_goals (try simp [-List.getD_eq_getElem?_getD] at hb35;try (exfalso;omega)))
  | ((with_reducible first|refine ZQ ?_|refine ZP ?_)
     simp only [go_sem,QL,QM,QH,seval]
     first
      | (have q2:0≤a:=hb35
         have q:op=3:=hb6
         subst q
         refine ⟨rfl,congrArg (fun e=>some (V.int e)) ?_⟩
         show a=if a<0 then _ else a
         rw [if_neg (by omega)])
      | (have q2:a<0:=hb35
         have q:op=3:=hb6
         subst q
         refine ⟨rfl,congrArg (fun e=>some (V.int e)) ?_⟩
         show _=if a<0 then _ else a
         rw [if_pos hb35])
      | (have q:op=1:=hb8
         subst q
         refine ⟨rfl,congrArg (fun e=>some (V.int e)) ?_⟩
         rfl)
      | (have q:op=2:=hb10
         subst q
         refine ⟨rfl,congrArg (fun e=>some (V.int e)) ?_⟩
         exact QTQ a)
      | (have q:op=4:=hb12
         subst q
         refine ⟨rfl,congrArg (fun e=>some (V.int e)) ?_⟩
         rw [← hu]
         exact (QKt a).symm)
      | (have q:op=5:=hb14
         subst q
         refine ⟨rfl,congrArg (fun e=>some (V.int e)) ?_⟩
         show _=((QFb a:Nat):Int)
         have hl:=Yv h1
         rw [QLX,hu]
         omega)
      | (have q:op=6:=hb16
         subst q
         refine ⟨rfl,congrArg (fun e=>some (V.int e)) ?_⟩
         show _=((QAS a:Nat):Int)
         rw [QIe,hu])
      | (have q:op=7:=hb18
         subst q
         refine ⟨rfl,congrArg (fun e=>some (V.int e)) ?_⟩
         rfl)
      | (have q:op=8:=hb20
         subst q
         refine ⟨rfl,congrArg (fun e=>some (V.int e)) ?_⟩
         show XY _=XY (decide (a≠0))
         congr 1
         simp)
      | (have q:op=9:=hb22
         subst q
         refine ⟨rfl,congrArg (fun e=>some (V.int e)) ?_⟩
         rfl)
      | (have q:op=10:=hb24
         subst q
         refine ⟨rfl,congrArg (fun e=>some (V.int e)) ?_⟩
         rw [QPb]
         exact (QL0 a (w:=8) (by decide) (by decide)).symm)
      | (have q:op=11:=hb26
         subst q
         refine ⟨rfl,congrArg (fun e=>some (V.int e)) ?_⟩
         rw [QMS]
         exact (QL0 a (w:=16) (by decide) (by decide)).symm)
      | (have q:op=12:=hb28
         subst q
         refine ⟨rfl,congrArg (fun e=>some (V.int e)) ?_⟩
         rw [QMR]
         exact (QL0 a (w:=32) (by decide) (by decide)).symm)
      | (have q:op=13:=hb30
         subst q
         refine ⟨rfl,congrArg (fun e=>some (V.int e)) ?_⟩
         rw [QPa]
         exact (QLz a (w:=8) (by decide) (by decide)).symm)
      | (have q:op=14:=hb32
         subst q
         refine ⟨rfl,congrArg (fun e=>some (V.int e)) ?_⟩
         rw [QMQ]
         exact (QLz a (w:=16) (by decide) (by decide)).symm)
      | (have q:op=15:=by omega
         subst q
         refine ⟨rfl,congrArg (fun e=>some (V.int e)) ?_⟩
         rw [QMP]
         exact (QLz a (w:=32) (by decide) (by decide)).symm))
def QOR:List (List Nat):=[[0,1,2],[1,2,9],[1,2,9,10],[6],[1,2,9,15],[6],[1,2,9,20],[6],[1,2,9,25],[6],[1,2,9,30],[6],[1,2,9,35],[6],[1,2,9,40],[6],[1,2,9,45],[6],[1,2,9,53],[6],[1,2,9,59],[6],[1,2,9,65],[6],[1,2,9,71],[6],[1,2,9,77],[6],[1,2,9,85],[6],[1,2,90],[6],[7],[6]]
theorem QJy (op a b:Int) (hop:16≤op∧op≤36∧¬(op=19∨op=20)∧¬(op=25∨op=26∨op=27)) (ha : -9223372036854775808≤a∧a<9223372036854775808) (hb : -9223372036854775808≤b∧b<9223372036854775808):Ctr Go.Proofs.Tryz.prog tab 189 [58,2,2] [2] [.int op,.int a,.int b] [.int (XW op a b).1]:=by
 refine Ctr.body ok Go.Proofs.Tryz.func189 rfl rfl 102 rfl [.tmp 6] rfl (by simp [QF]) ?_
 simp only [go_sem,Nat.reduceAdd]
 repeat' first
  | ((with_reducible refine Q5 fun R1 hR1=>?_);(simp only [go_sem,seval,-List.reduceReplicate,Bool.cond_false_right,Bool.cond_true_left]);(repeat' with_reducible refine And.intro ?_ ?_);all_goals first|(refine hR1 _ ?_;clear hR1 R1)|((first|refine cq (cc (QKZ _ _ (QUy b))) ?_|refine ce (cf (QIT a b ha hb) ?_)|refine cq (cc (QEo _)) ?_);all_goals ((try simp only [go_sem,seval,-List.reduceReplicate,Bool.cond_false_right,Bool.cond_true_left]);(repeat' with_reducible refine And.intro ?_ ?_);all_goals first|(refine hR1 _ ?_;clear hR1 R1)|omega|decide|(intro _;omega)|(intro _;decide)))|omega|decide|(intro _;omega)|(intro _;decide))
  | ((with_reducible refine Q4 ?_);refine hR _ ?_;clear hR R;try simp only [go_sem,QOR,Nat.reduceBEq])
  | (with_reducible first|refine J1 ?_|refine J2 ?_|refine J3 ?_|refine J4 ?_|refine J5 ?_|refine J6 ?_|refine J7 ?_|refine J8 (by decide) ?_|refine J9 ?_|refine Q2 ?_|refine Q1 ?_|refine Yc ?_)
  | ((with_reducible refine rg QOR fun R hR=>?_);simp only [go_sem,QC])
  | ((with_reducible refine QI 10 rfl (fun hb10=>?_) fun hb10=>?_);all_goals (try simp [-List.getD_eq_getElem?_getD] at hb10;try (exfalso;omega)))
  | ((with_reducible refine QI 15 rfl (fun hb15=>?_) fun hb15=>?_);all_goals (try simp [-List.getD_eq_getElem?_getD] at hb15;try (exfalso;omega)))
  | ((with_reducible refine QI 20 rfl (fun hb20=>?_) fun hb20=>?_);all_goals (try simp [-List.getD_eq_getElem?_getD] at hb20;try (exfalso;omega)))
  | ((with_reducible refine QI 25 rfl (fun hb25=>?_) fun hb25=>?_);all_goals (try simp [-List.getD_eq_getElem?_getD] at hb25;try (exfalso;omega)))
  | ((with_reducible refine QI 30 rfl (fun hb30=>?_) fun hb30=>?_);all_goals (try simp [-List.getD_eq_getElem?_getD] at hb30;try (exfalso;omega)))
  | ((with_reducible refine QI 35 rfl (fun hb35=>?_) fun hb35=>?_);all_goals (try simp [-List.getD_eq_getElem?_getD] at hb35;try (exfalso;omega)))
  | ((with_reducible refine QI 40 rfl (fun hb40=>?_) fun hb40=>?_);all_goals (try simp [-List.getD_eq_getElem?_getD] at hb40;try (exfalso;omega)))
  | ((with_reducible refine QI 45 rfl (fun hb45=>?_) fun hb45=>?_);all_goals (try simp [-List.getD_eq_getElem?_getD] at hb45;try (exfalso;omega)))
  | ((with_reducible refine QI 53 rfl (fun hb53=>?_) fun hb53=>?_);all_goals (try simp [-List.getD_eq_getElem?_getD] at hb53;try (exfalso;omega)))
  | ((with_reducible refine QI 59 rfl (fun hb59=>?_) fun hb59=>?_);all_goals (try simp [-List.getD_eq_getElem?_getD] at hb59;try (exfalso;omega)))
  | ((with_reducible refine QI 65 rfl (fun hb65=>?_) fun hb65=>?_);all_goals (try simp [-List.getD_eq_getElem?_getD] at hb65;try (exfalso;omega)))
  | ((with_reducible refine QI 71 rfl (fun hb71=>?_) fun hb71=>?_);all_goals (try simp [-List.getD_eq_getElem?_getD] at hb71;try (exfalso;omega)))
  | ((with_reducible refine QI 77 rfl (fun hb77=>?_) fun hb77=>?_);all_goals (try simp [-List.getD_eq_getElem?_getD] at hb77;try (exfalso;omega)))
  | ((with_reducible refine QI 85 rfl (fun hb85=>?_) fun hb85=>?_);all_goals (try simp [-List.getD_eq_getElem?_getD] at hb85;try (exfalso;omega)))
  | ((with_reducible refine QI 90 rfl (fun hb90=>?_) fun hb90=>?_);all_goals (try simp [-List.getD_eq_getElem?_getD] at hb90;try (exfalso;omega)))
  | ((with_reducible first|refine ZQ ?_|refine ZP ?_)
     simp only [go_sem,QL,QM,QH,seval]
     first
      | (have q:op=16:=hb10
         subst q
         refine ⟨rfl,congrArg (fun e=>some (V.int e)) ?_⟩
         rfl)
      | (have q:op=17:=hb15
         subst q
         refine ⟨rfl,congrArg (fun e=>some (V.int e)) ?_⟩
         rfl)
      | (have q:op=18:=hb20
         subst q
         refine ⟨rfl,congrArg (fun e=>some (V.int e)) ?_⟩
         show _=IntKind.i64.wrap (w5 a b).2
         rw [zA ha hb]
         show _=IntKind.i64.wrap (a*b % 18446744073709551616)
         rw [← ZL,QAM])
      | (have q:op=21:=hb25
         subst q
         refine ⟨rfl,congrArg (fun e=>some (V.int e)) ?_⟩
         exact (QMC a b).symm)
      | (have q:op=22:=hb30
         subst q
         refine ⟨rfl,congrArg (fun e=>some (V.int e)) ?_⟩
         exact (QNf a b).symm)
      | (have q:op=23:=hb35
         subst q
         refine ⟨rfl,congrArg (fun e=>some (V.int e)) ?_⟩
         exact (QMA a b).symm)
      | (have q:op=24:=hb40
         subst q
         refine ⟨rfl,congrArg (fun e=>some (V.int e)) ?_⟩
         exact (QHE a b).symm)
      | (have q:op=28:=hb45
         subst q
         refine ⟨rfl,congrArg (fun e=>some (V.int e)) ?_⟩
         exact QQp a b)
      | (have q:op=29:=hb53
         subst q
         refine ⟨rfl,congrArg (fun e=>some (V.int e)) ?_⟩
         rfl)
      | (have q:op=30:=hb59
         subst q
         refine ⟨rfl,congrArg (fun e=>some (V.int e)) ?_⟩
         show XY _=XY (decide (a≠b))
         congr 1
         simp)
      | (have q:op=31:=hb65
         subst q
         refine ⟨rfl,congrArg (fun e=>some (V.int e)) ?_⟩
         rfl)
      | (have q:op=32:=hb71
         subst q
         refine ⟨rfl,congrArg (fun e=>some (V.int e)) ?_⟩
         rfl)
      | (have q:op=33:=hb77
         subst q
         refine ⟨rfl,congrArg (fun e=>some (V.int e)) ?_⟩
         rfl)
      | (have q:op=34:=hb85
         subst q
         refine ⟨rfl,congrArg (fun e=>some (V.int e)) ?_⟩
         show min a b=if b<a then b else a
         rw [Int.min_def]
         (repeat' split)<;>omega)
      | (have q:op=35:=hb90
         subst q
         refine ⟨rfl,congrArg (fun e=>some (V.int e)) ?_⟩
         show max a b=if a<b then b else a
         rw [Int.max_def]
         (repeat' split)<;>omega)
      | (have q:op=36:=by omega
         subst q
         refine ⟨rfl,congrArg (fun e=>some (V.int e)) ?_⟩
         rfl))
def QFX:List (List Nat):=[[0,1,2],[0,1,2,8],[6,7],[0,1,2,12],[6,7],[0,1,2,19],[6,7],[0,1,2,32],[6,7],[6,7]]
theorem QGH (op a b:Int) (ha : -9223372036854775808≤a∧a<9223372036854775808) (hb : -9223372036854775808≤b∧b<9223372036854775808):Ctr Go.Proofs.Tryz.prog tab 168 [58,2,2] [2,30] [.int op,.int a,.int b] [.int (QB op a b).1,.int (QB op a b).2]:=by
 refine Ctr.body ok Go.Proofs.Tryz.func168 rfl rfl 49 rfl [.tmp 6,.tmp 7] rfl (by simp [QF]) ?_
 simp only [go_sem,Nat.reduceAdd]
 repeat' first
  | ((with_reducible refine Q5 fun R1 hR1=>?_);(simp only [go_sem,seval,-List.reduceReplicate,Bool.cond_false_right,Bool.cond_true_left]);(repeat' with_reducible refine And.intro ?_ ?_);all_goals first|(refine hR1 _ ?_;clear hR1 R1)|((first|refine cq (cc (QGG op)) ?_|refine cq (cc (QJz op a hop1 ha)) ?_|refine ce (cf (QDg op a b hb19 ha hb) ?_)|refine ce (cf (QDf op a b hop3 ha hb) ?_)|refine cq (cc (QJy op a b hop2 ha hb)) ?_);all_goals ((try simp only [go_sem,seval,-List.reduceReplicate,Bool.cond_false_right,Bool.cond_true_left]);(repeat' with_reducible refine And.intro ?_ ?_);all_goals first|(refine hR1 _ ?_;clear hR1 R1)|omega|decide|(intro _;omega)|(intro _;decide)))|omega|decide|(intro _;omega)|(intro _;decide))
  | ((with_reducible refine Q4 ?_);refine hR _ ?_;clear hR R;try simp only [go_sem,QFX,Nat.reduceBEq])
  | (with_reducible first|refine J1 ?_|refine J2 ?_|refine J3 ?_|refine J4 ?_|refine J5 ?_|refine J6 ?_|refine J7 ?_|refine J8 (by decide) ?_|refine J9 ?_|refine Q2 ?_|refine Q1 ?_|refine Yc ?_)
  | ((with_reducible refine Qe 4 ?_)
     have hop1:=QRd hb12
     (with_reducible refine rg QFX fun R hR=>?_);simp only [go_sem,QC])
  | ((with_reducible refine Qe 8 ?_)
     have hop3:op=25∨op=26∨op=27:=by omega
     (with_reducible refine rg QFX fun R hR=>?_);simp only [go_sem,QC])
  | ((with_reducible refine Qe 9 ?_)
     have hop2:16≤op∧op≤36∧¬(op=19∨op=20)∧¬(op=25∨op=26∨op=27):=by have:=QRc hb8 hb12;omega
     (with_reducible refine rg QFX fun R hR=>?_);simp only [go_sem,QC])
  | ((with_reducible refine rg QFX fun R hR=>?_);simp only [go_sem,QC])
  | ((with_reducible refine QI 8 rfl (fun hb8=>?_) fun hb8=>?_);all_goals (try simp [-List.getD_eq_getElem?_getD] at hb8;try (exfalso;omega)))
  | ((with_reducible refine QI 12 rfl (fun hb12=>?_) fun hb12=>?_);all_goals (try simp [-List.getD_eq_getElem?_getD] at hb12;try (exfalso;omega)))
  | ((with_reducible refine QI 19 rfl (fun hb19=>?_) fun hb19=>?_);all_goals (try simp [-List.getD_eq_getElem?_getD] at hb19;try (exfalso;omega)))
  | ((with_reducible refine QI 32 rfl (fun hb32=>?_) fun hb32=>?_);all_goals (try simp [-List.getD_eq_getElem?_getD] at hb32;try (exfalso;omega)))
  | ((with_reducible first|refine ZQ ?_|refine ZP ?_)
     simp only [go_sem,QL,QM,QH,seval]
     first
      | (have q:WM op=0:=hb8
         have e:QB op a b=(0,22):=if_pos hb8
         rw [e]
         exact ⟨⟨rfl,rfl⟩,rfl,rfl⟩)
      | (have q:WM op=1:=hb12
         have e:QB op a b=(QEH op a,0):=(if_neg hb8).trans (if_pos hb12)
         rw [e]
         exact ⟨⟨rfl,rfl⟩,rfl,rfl⟩)
      | (have q:_∨_:=hb19
         have e:QB op a b=XW op a b:=(if_neg hb8).trans (if_neg hb12)
         rw [e]
         exact ⟨⟨rfl,rfl⟩,rfl,rfl⟩)
      | (have q:op=25∨op=26∨op=27:=hop3
         have e:QB op a b=XW op a b:=(if_neg hb8).trans (if_neg hb12)
         rw [e]
         exact ⟨⟨rfl,rfl⟩,rfl,rfl⟩)
      | (have q:=hop2
         have e0:=QMW (op:=op) (a:=a) (b:=b) hop2.2.2.1 hop2.2.2.2
         have e:QB op a b=((XW op a b).1,0):=((if_neg hb8).trans (if_neg hb12)).trans (Prod.ext rfl e0)
         rw [e]
         exact ⟨⟨rfl,rfl⟩,rfl,rfl⟩))
end Go.Eng.Tryz
