/- A part of the proof: walks through the program's functions, and what they compute. -/
import Derived.Test.YtmonhjagbhpbeaaGreatDoorPk23
set_option linter.unusedSimpArgs false
set_option linter.unusedVariables false
namespace Go.Eng.Tryz
open Go.RowKit Go.Eng
set_option maxHeartbeats 0
set_option maxRecDepth 20000
theorem QC9 (k:Int):Ctr Go.Proofs.Tryz.prog tab 142 [3] [3] [.int k] [.int (Vv k)]:=by
 refine Ctr.body ok Go.Proofs.Tryz.func142 rfl rfl 15 rfl [.tmp 2] rfl (by simp [QL]) ?_
 simp only [go_sem,Nat.reduceAdd]
 refine J2 ?_
 refine SA.region ok (by kernel_rfl) [0] ?_
 intro R hR
 simp only [go_sem,QC]
 iterate 1 (refine QE fun R1 hR1=>?_;simp only [go_sem,seval,-List.reduceReplicate,List.length_map,QI,Zh,z3,z4,Int.toNat_natCast,Int.natCast_zero,Event.v0,Event.v7,Event.v8,Access.v0,Access.v1,Access.v2,QH];(repeat' with_reducible refine And.intro ?_ ?_);all_goals first|(refine hR1 _ ?_;clear hR1 R1)|omega|rfl|decide|assumption|(intro _;omega)|(simp;done)|(simp;omega))
 refine QJ (hR _ ?_)
 clear hR R
 try simp only [go_sem,Nat.reduceBEq]
 refine J1 (J2 ?_)
 refine J2 ?_
 refine SA.region ok (by kernel_rfl) [3] ?_
 intro R hR
 simp only [go_sem,QC]
 iterate 1 (refine QE fun R1 hR1=>?_;simp only [go_sem,seval,-List.reduceReplicate,List.length_map,QI,Zh,z3,z4,Int.toNat_natCast,Int.natCast_zero,Event.v0,Event.v7,Event.v8,Access.v0,Access.v1,Access.v2,QH];(repeat' with_reducible refine And.intro ?_ ?_);all_goals first|(refine hR1 _ ?_;clear hR1 R1)|omega|rfl|decide|assumption|(intro _;omega)|(simp;done)|(simp;omega))
 refine QJ (hR _ ?_)
 clear hR R
 try simp only [go_sem,Nat.reduceBEq]
 refine J1 (J4 ?_)
 refine J2 ?_
 refine SA.region ok (by kernel_rfl) [3,4] ?_
 intro R hR
 simp only [go_sem,QC]
 iterate 2 (refine QE fun R1 hR1=>?_;simp only [go_sem,seval,-List.reduceReplicate,List.length_map,QI,Zh,z3,z4,Int.toNat_natCast,Int.natCast_zero,Event.v0,Event.v7,Event.v8,Access.v0,Access.v1,Access.v2,QH];(repeat' with_reducible refine And.intro ?_ ?_);all_goals first|(refine hR1 _ ?_;clear hR1 R1)|omega|rfl|decide|assumption|(intro _;omega)|(simp;done)|(simp;omega))
 refine QJ (hR _ ?_)
 clear hR R
 try simp only [go_sem,Nat.reduceBEq]
 refine J1 ?_
 refine SA.cond rfl ?_ ?_
 · intro hb1
   try simp only [decide_eq_true_eq,decide_eq_false_iff_not] at hb1
   refine J2 ?_
   refine SA.region ok (by kernel_rfl) [2] ?_
   intro R hR
   simp only [go_sem,QC]
   iterate 1 (refine QE fun R1 hR1=>?_;simp only [go_sem,seval,-List.reduceReplicate,List.length_map,QI,Zh,z3,z4,Int.toNat_natCast,Int.natCast_zero,Event.v0,Event.v7,Event.v8,Access.v0,Access.v1,Access.v2,QH];(repeat' with_reducible refine And.intro ?_ ?_);all_goals first|(refine hR1 _ ?_;clear hR1 R1)|omega|rfl|decide|assumption|(intro _;omega)|(simp;done)|(simp;omega))
   refine QJ (hR _ ?_)
   clear hR R
   try simp only [go_sem,Nat.reduceBEq]
   refine J1 (ZL ?_)
   refine Y3 ?_
   refine ZS ?_
   refine Zv ?_
   simp only [QS,Qn,QW,QM,Y2,Yw,qr,WJ,List.lookup_cons,List.lookup_nil,beq_self_eq_true,forall_const,true_and,and_true]
   refine ⟨rfl,?_⟩
   first|(simp [Vv, *];done)|(exfalso;omega)
 · intro hb1
   try simp only [decide_eq_true_eq,decide_eq_false_iff_not] at hb1
   refine J2 ?_
   refine SA.region ok (by kernel_rfl) [3,6] ?_
   intro R hR
   simp only [go_sem,QC]
   iterate 2 (refine QE fun R1 hR1=>?_;simp only [go_sem,seval,-List.reduceReplicate,List.length_map,QI,Zh,z3,z4,Int.toNat_natCast,Int.natCast_zero,Event.v0,Event.v7,Event.v8,Access.v0,Access.v1,Access.v2,QH];(repeat' with_reducible refine And.intro ?_ ?_);all_goals first|(refine hR1 _ ?_;clear hR1 R1)|omega|rfl|decide|assumption|(intro _;omega)|(simp;done)|(simp;omega))
   refine QJ (hR _ ?_)
   clear hR R
   try simp only [go_sem,Nat.reduceBEq]
   refine J1 ?_
   refine SA.cond rfl ?_ ?_
   · intro hb2
     try simp only [decide_eq_true_eq,decide_eq_false_iff_not] at hb2
     refine J2 ?_
     refine SA.region ok (by kernel_rfl) [2] ?_
     intro R hR
     simp only [go_sem,QC]
     iterate 1 (refine QE fun R1 hR1=>?_;simp only [go_sem,seval,-List.reduceReplicate,List.length_map,QI,Zh,z3,z4,Int.toNat_natCast,Int.natCast_zero,Event.v0,Event.v7,Event.v8,Access.v0,Access.v1,Access.v2,QH];(repeat' with_reducible refine And.intro ?_ ?_);all_goals first|(refine hR1 _ ?_;clear hR1 R1)|omega|rfl|decide|assumption|(intro _;omega)|(simp;done)|(simp;omega))
     refine QJ (hR _ ?_)
     clear hR R
     try simp only [go_sem,Nat.reduceBEq]
     refine J1 (ZL ?_)
     refine Y3 ?_
     refine ZS ?_
     refine Zv ?_
     simp only [QS,Qn,QW,QM,Y2,Yw,qr,WJ,List.lookup_cons,List.lookup_nil,beq_self_eq_true,forall_const,true_and,and_true]
     refine ⟨rfl,?_⟩
     first|(simp [Vv, *];done)|(exfalso;omega)
   · intro hb2
     try simp only [decide_eq_true_eq,decide_eq_false_iff_not] at hb2
     refine J2 ?_
     refine SA.region ok (by kernel_rfl) [3,8] ?_
     intro R hR
     simp only [go_sem,QC]
     iterate 2 (refine QE fun R1 hR1=>?_;simp only [go_sem,seval,-List.reduceReplicate,List.length_map,QI,Zh,z3,z4,Int.toNat_natCast,Int.natCast_zero,Event.v0,Event.v7,Event.v8,Access.v0,Access.v1,Access.v2,QH];(repeat' with_reducible refine And.intro ?_ ?_);all_goals first|(refine hR1 _ ?_;clear hR1 R1)|omega|rfl|decide|assumption|(intro _;omega)|(simp;done)|(simp;omega))
     refine QJ (hR _ ?_)
     clear hR R
     try simp only [go_sem,Nat.reduceBEq]
     refine J1 ?_
     refine SA.cond rfl ?_ ?_
     · intro hb3
       try simp only [decide_eq_true_eq,decide_eq_false_iff_not] at hb3
       refine J2 ?_
       refine SA.region ok (by kernel_rfl) [2] ?_
       intro R hR
       simp only [go_sem,QC]
       iterate 1 (refine QE fun R1 hR1=>?_;simp only [go_sem,seval,-List.reduceReplicate,List.length_map,QI,Zh,z3,z4,Int.toNat_natCast,Int.natCast_zero,Event.v0,Event.v7,Event.v8,Access.v0,Access.v1,Access.v2,QH];(repeat' with_reducible refine And.intro ?_ ?_);all_goals first|(refine hR1 _ ?_;clear hR1 R1)|omega|rfl|decide|assumption|(intro _;omega)|(simp;done)|(simp;omega))
       refine QJ (hR _ ?_)
       clear hR R
       try simp only [go_sem,Nat.reduceBEq]
       refine J1 (ZL ?_)
       refine Y3 ?_
       refine ZS ?_
       refine Zv ?_
       simp only [QS,Qn,QW,QM,Y2,Yw,qr,WJ,List.lookup_cons,List.lookup_nil,beq_self_eq_true,forall_const,true_and,and_true]
       refine ⟨rfl,?_⟩
       first|(simp [Vv, *];done)|(exfalso;omega)
     · intro hb3
       try simp only [decide_eq_true_eq,decide_eq_false_iff_not] at hb3
       refine J2 ?_
       refine J2 ?_
       refine SA.region ok (by kernel_rfl) [3,10] ?_
       intro R hR
       simp only [go_sem,QC]
       iterate 2 (refine QE fun R1 hR1=>?_;simp only [go_sem,seval,-List.reduceReplicate,List.length_map,QI,Zh,z3,z4,Int.toNat_natCast,Int.natCast_zero,Event.v0,Event.v7,Event.v8,Access.v0,Access.v1,Access.v2,QH];(repeat' with_reducible refine And.intro ?_ ?_);all_goals first|(refine hR1 _ ?_;clear hR1 R1)|omega|rfl|decide|assumption|(intro _;omega)|(simp;done)|(simp;omega))
       refine QJ (hR _ ?_)
       clear hR R
       try simp only [go_sem,Nat.reduceBEq]
       refine J1 ?_
       refine SA.cond rfl ?_ ?_
       · intro hb4
         try simp only [decide_eq_true_eq,decide_eq_false_iff_not] at hb4
         refine J3 ?_
         refine J1 ?_
         refine SA.cond rfl ?_ ?_
         · intro hb5
           try simp only [decide_eq_true_eq,decide_eq_false_iff_not] at hb5
           refine J2 ?_
           refine SA.region ok (by kernel_rfl) [2] ?_
           intro R hR
           simp only [go_sem,QC]
           iterate 1 (refine QE fun R1 hR1=>?_;simp only [go_sem,seval,-List.reduceReplicate,List.length_map,QI,Zh,z3,z4,Int.toNat_natCast,Int.natCast_zero,Event.v0,Event.v7,Event.v8,Access.v0,Access.v1,Access.v2,QH];(repeat' with_reducible refine And.intro ?_ ?_);all_goals first|(refine hR1 _ ?_;clear hR1 R1)|omega|rfl|decide|assumption|(intro _;omega)|(simp;done)|(simp;omega))
           refine QJ (hR _ ?_)
           clear hR R
           try simp only [go_sem,Nat.reduceBEq]
           refine J1 (ZL ?_)
           refine Y3 ?_
           refine ZS ?_
           refine Zv ?_
           simp only [QS,Qn,QW,QM,Y2,Yw,qr,WJ,List.lookup_cons,List.lookup_nil,beq_self_eq_true,forall_const,true_and,and_true]
           refine ⟨rfl,?_⟩
           first|(simp [Vv, *];done)|(exfalso;omega)
         · intro hb5
           try simp only [decide_eq_true_eq,decide_eq_false_iff_not] at hb5
           refine J2 ?_
           refine SA.region ok (by kernel_rfl) [13] ?_
           intro R hR
           simp only [go_sem,QC]
           iterate 2 (refine QE fun R1 hR1=>?_;simp only [go_sem,seval,-List.reduceReplicate,List.length_map,QI,Zh,z3,z4,Int.toNat_natCast,Int.natCast_zero,Event.v0,Event.v7,Event.v8,Access.v0,Access.v1,Access.v2,QH];(repeat' with_reducible refine And.intro ?_ ?_);all_goals first|(refine hR1 _ ?_;clear hR1 R1)|omega|rfl|decide|assumption|(intro _;omega)|(simp;done)|(simp;omega))
           refine QJ (hR _ ?_)
           clear hR R
           try simp only [go_sem,Nat.reduceBEq]
           refine J1 ?_
           refine SA.cond rfl ?_ ?_
           · intro hb6
             try simp only [decide_eq_true_eq,decide_eq_false_iff_not] at hb6
             refine J2 ?_
             refine SA.region ok (by kernel_rfl) [2] ?_
             intro R hR
             simp only [go_sem,QC]
             iterate 1 (refine QE fun R1 hR1=>?_;simp only [go_sem,seval,-List.reduceReplicate,List.length_map,QI,Zh,z3,z4,Int.toNat_natCast,Int.natCast_zero,Event.v0,Event.v7,Event.v8,Access.v0,Access.v1,Access.v2,QH];(repeat' with_reducible refine And.intro ?_ ?_);all_goals first|(refine hR1 _ ?_;clear hR1 R1)|omega|rfl|decide|assumption|(intro _;omega)|(simp;done)|(simp;omega))
             refine QJ (hR _ ?_)
             clear hR R
             try simp only [go_sem,Nat.reduceBEq]
             refine J1 (ZL ?_)
             refine Y3 ?_
             refine ZS ?_
             refine Zv ?_
             simp only [QS,Qn,QW,QM,Y2,Yw,qr,WJ,List.lookup_cons,List.lookup_nil,beq_self_eq_true,forall_const,true_and,and_true]
             refine ⟨rfl,?_⟩
             first|(simp [Vv, *];done)|(exfalso;omega)
           · intro hb6
             try simp only [decide_eq_true_eq,decide_eq_false_iff_not] at hb6
             refine J3 ?_
             refine J5 (J1 ?_)
             refine J2 ?_
             refine SA.region ok (by kernel_rfl) [2] ?_
             intro R hR
             simp only [go_sem,QC]
             iterate 1 (refine QE fun R1 hR1=>?_;simp only [go_sem,seval,-List.reduceReplicate,List.length_map,QI,Zh,z3,z4,Int.toNat_natCast,Int.natCast_zero,Event.v0,Event.v7,Event.v8,Access.v0,Access.v1,Access.v2,QH];(repeat' with_reducible refine And.intro ?_ ?_);all_goals first|(refine hR1 _ ?_;clear hR1 R1)|omega|rfl|decide|assumption|(intro _;omega)|(simp;done)|(simp;omega))
             refine QJ (hR _ ?_)
             clear hR R
             try simp only [go_sem,Nat.reduceBEq]
             refine J1 (ZL ?_)
             refine Zv ?_
             simp only [QS,Qn,QW,QM,Y2,Yw,qr,WJ,List.lookup_cons,List.lookup_nil,beq_self_eq_true,forall_const,true_and,and_true]
             refine ⟨rfl,?_⟩
             first|(simp [Vv, *];done)|(exfalso;omega)
       · intro hb4
         try simp only [decide_eq_true_eq,decide_eq_false_iff_not] at hb4
         refine SA.region ok (by kernel_rfl) [3,10] ?_
         intro R hR
         simp only [go_sem,QC]
         iterate 2 (refine QE fun R1 hR1=>?_;simp only [go_sem,seval,-List.reduceReplicate,List.length_map,QI,Zh,z3,z4,Int.toNat_natCast,Int.natCast_zero,Event.v0,Event.v7,Event.v8,Access.v0,Access.v1,Access.v2,QH];(repeat' with_reducible refine And.intro ?_ ?_);all_goals first|(refine hR1 _ ?_;clear hR1 R1)|omega|rfl|decide|assumption|(intro _;omega)|(simp;done)|(simp;omega))
         refine QJ (hR _ ?_)
         clear hR R
         try simp only [go_sem,Nat.reduceBEq]
         refine J1 ?_
         refine SA.cond rfl ?_ ?_
         · intro hb7
           try simp only [decide_eq_true_eq,decide_eq_false_iff_not] at hb7
           refine J2 ?_
           refine SA.region ok (by kernel_rfl) [2] ?_
           intro R hR
           simp only [go_sem,QC]
           iterate 1 (refine QE fun R1 hR1=>?_;simp only [go_sem,seval,-List.reduceReplicate,List.length_map,QI,Zh,z3,z4,Int.toNat_natCast,Int.natCast_zero,Event.v0,Event.v7,Event.v8,Access.v0,Access.v1,Access.v2,QH];(repeat' with_reducible refine And.intro ?_ ?_);all_goals first|(refine hR1 _ ?_;clear hR1 R1)|omega|rfl|decide|assumption|(intro _;omega)|(simp;done)|(simp;omega))
           refine QJ (hR _ ?_)
           clear hR R
           try simp only [go_sem,Nat.reduceBEq]
           refine J1 (ZL ?_)
           refine Y3 ?_
           refine ZS ?_
           refine Zv ?_
           simp only [QS,Qn,QW,QM,Y2,Yw,qr,WJ,List.lookup_cons,List.lookup_nil,beq_self_eq_true,forall_const,true_and,and_true]
           refine ⟨rfl,?_⟩
           first|(simp [Vv, *];done)|(exfalso;omega)
         · intro hb7
           try simp only [decide_eq_true_eq,decide_eq_false_iff_not] at hb7
           refine J2 ?_
           refine SA.region ok (by kernel_rfl) [13] ?_
           intro R hR
           simp only [go_sem,QC]
           iterate 2 (refine QE fun R1 hR1=>?_;simp only [go_sem,seval,-List.reduceReplicate,List.length_map,QI,Zh,z3,z4,Int.toNat_natCast,Int.natCast_zero,Event.v0,Event.v7,Event.v8,Access.v0,Access.v1,Access.v2,QH];(repeat' with_reducible refine And.intro ?_ ?_);all_goals first|(refine hR1 _ ?_;clear hR1 R1)|omega|rfl|decide|assumption|(intro _;omega)|(simp;done)|(simp;omega))
           refine QJ (hR _ ?_)
           clear hR R
           try simp only [go_sem,Nat.reduceBEq]
           refine J1 ?_
           refine SA.cond rfl ?_ ?_
           · intro hb8
             try simp only [decide_eq_true_eq,decide_eq_false_iff_not] at hb8
             refine J2 ?_
             refine SA.region ok (by kernel_rfl) [2] ?_
             intro R hR
             simp only [go_sem,QC]
             iterate 1 (refine QE fun R1 hR1=>?_;simp only [go_sem,seval,-List.reduceReplicate,List.length_map,QI,Zh,z3,z4,Int.toNat_natCast,Int.natCast_zero,Event.v0,Event.v7,Event.v8,Access.v0,Access.v1,Access.v2,QH];(repeat' with_reducible refine And.intro ?_ ?_);all_goals first|(refine hR1 _ ?_;clear hR1 R1)|omega|rfl|decide|assumption|(intro _;omega)|(simp;done)|(simp;omega))
             refine QJ (hR _ ?_)
             clear hR R
             try simp only [go_sem,Nat.reduceBEq]
             refine J1 (ZL ?_)
             refine Y3 ?_
             refine ZS ?_
             refine Zv ?_
             simp only [QS,Qn,QW,QM,Y2,Yw,qr,WJ,List.lookup_cons,List.lookup_nil,beq_self_eq_true,forall_const,true_and,and_true]
             refine ⟨rfl,?_⟩
             first|(simp [Vv, *];done)|(exfalso;omega)
           · intro hb8
             try simp only [decide_eq_true_eq,decide_eq_false_iff_not] at hb8
             refine J3 ?_
             refine J5 (J1 ?_)
             refine J2 ?_
             refine SA.region ok (by kernel_rfl) [2] ?_
             intro R hR
             simp only [go_sem,QC]
             iterate 1 (refine QE fun R1 hR1=>?_;simp only [go_sem,seval,-List.reduceReplicate,List.length_map,QI,Zh,z3,z4,Int.toNat_natCast,Int.natCast_zero,Event.v0,Event.v7,Event.v8,Access.v0,Access.v1,Access.v2,QH];(repeat' with_reducible refine And.intro ?_ ?_);all_goals first|(refine hR1 _ ?_;clear hR1 R1)|omega|rfl|decide|assumption|(intro _;omega)|(simp;done)|(simp;omega))
             refine QJ (hR _ ?_)
             clear hR R
             try simp only [go_sem,Nat.reduceBEq]
             refine J1 (ZL ?_)
             refine Zv ?_
             simp only [QS,Qn,QW,QM,Y2,Yw,qr,WJ,List.lookup_cons,List.lookup_nil,beq_self_eq_true,forall_const,true_and,and_true]
             refine ⟨rfl,?_⟩
             first|(simp [Vv, *];done)|(exfalso;omega)
theorem xY (x y:Access):Ctr Go.Proofs.Tryz.prog tab 143 [60,60] [3] [x.v,y.v] [.int (cmp x y)]:=by
 refine Ctr.body ok Go.Proofs.Tryz.func143 rfl rfl 45 rfl [.tmp 4] rfl (by simp [QL]) ?_
 simp only [go_sem,Nat.reduceAdd]
 refine J2 ?_
 refine SA.region ok (by kernel_rfl) [2,3] ?_
 intro R hR
 simp only [go_sem,QC]
 iterate 3 (refine QE fun R1 hR1=>?_;simp only [go_sem,seval,-List.reduceReplicate,List.length_map,QI,Zh,z3,z4,Int.toNat_natCast,Int.natCast_zero,Event.v0,Event.v7,Event.v8,Access.v0,Access.v1,Access.v2,QH];(repeat' with_reducible refine And.intro ?_ ?_);all_goals first|(refine hR1 _ ?_;clear hR1 R1)|omega|rfl|decide|assumption|(intro _;omega)|(simp;done)|(simp;omega)|(simp [QF,maxLen,YN,Q0,Qz,Qw,Qx]<;>omega))
 refine QJ (hR _ ?_)
 clear hR R
 try simp only [go_sem,Nat.reduceBEq]
 refine J1 (J2 ?_)
 refine J4 ?_
 refine J2 ?_
 refine SA.region ok (by kernel_rfl) [2,3,5] ?_
 intro R hR
 simp only [go_sem,QC]
 iterate 27 (refine QE fun R1 hR1=>?_;simp only [go_sem,seval,-List.reduceReplicate,List.length_map,QI,Zh,z3,z4,Int.toNat_natCast,Int.natCast_zero,Event.v0,Event.v7,Event.v8,Access.v0,Access.v1,Access.v2,QH];(repeat' with_reducible refine And.intro ?_ ?_);all_goals first|(refine hR1 _ ?_;clear hR1 R1)|omega|rfl|decide|assumption|(intro _;omega)|(simp;done)|(simp;omega))
 refine QJ (hR _ ?_)
 clear hR R
 try simp only [go_sem,Nat.reduceBEq]
 refine J1 ?_
 refine SA.cond rfl ?_ ?_
 · intro hb1
   simp at hb1
   refine J2 ?_
   refine SA.region ok (by kernel_rfl) [4] ?_
   intro R hR
   simp only [go_sem,QC]
   iterate 1 (refine QE fun R1 hR1=>?_;simp only [go_sem,seval,-List.reduceReplicate,List.length_map,QI,Zh,z3,z4,Int.toNat_natCast,Int.natCast_zero,Event.v0,Event.v7,Event.v8,Access.v0,Access.v1,Access.v2,QH];(repeat' with_reducible refine And.intro ?_ ?_);all_goals first|(refine hR1 _ ?_;clear hR1 R1)|omega|rfl|decide|assumption|(intro _;omega)|(simp;done)|(simp;omega))
   refine QJ (hR _ ?_)
   clear hR R
   try simp only [go_sem,Nat.reduceBEq]
   refine J1 (ZL ?_)
   refine Y3 ?_
   refine ZS ?_
   refine Zv ?_
   simp only [QS,Qn,QW,QM,Y2,Yw,qr,WJ,List.lookup_cons,List.lookup_nil,beq_self_eq_true,forall_const,true_and,and_true]
   refine ⟨rfl,?_⟩
   first|(simp [cmp, *];done)|(simp only [if_true,Option.some.injEq,V.int.injEq];unfold cmp;rw [if_neg (by omega),if_neg (by omega)])
 · intro hb1
   simp at hb1
   refine J2 ?_
   refine SA.region ok (by kernel_rfl) [32] ?_
   intro R hR
   simp only [go_sem,QC]
   iterate 13 (refine QE fun R1 hR1=>?_;simp only [go_sem,seval,-List.reduceReplicate,List.length_map,QI,Zh,z3,z4,Int.toNat_natCast,Int.natCast_zero,Event.v0,Event.v7,Event.v8,Access.v0,Access.v1,Access.v2,QH];(repeat' with_reducible refine And.intro ?_ ?_);all_goals first|(refine hR1 _ ?_;clear hR1 R1)|omega|rfl|decide|assumption|(intro _;omega)|(simp;done)|(simp;omega))
   refine QJ (hR _ ?_)
   clear hR R
   try simp only [go_sem,Nat.reduceBEq]
   refine J1 ?_
   refine SA.cond rfl ?_ ?_
   · intro hb2
     simp at hb2
     refine J2 ?_
     refine SA.region ok (by kernel_rfl) [4] ?_
     intro R hR
     simp only [go_sem,QC]
     iterate 1 (refine QE fun R1 hR1=>?_;simp only [go_sem,seval,-List.reduceReplicate,List.length_map,QI,Zh,z3,z4,Int.toNat_natCast,Int.natCast_zero,Event.v0,Event.v7,Event.v8,Access.v0,Access.v1,Access.v2,QH];(repeat' with_reducible refine And.intro ?_ ?_);all_goals first|(refine hR1 _ ?_;clear hR1 R1)|omega|rfl|decide|assumption|(intro _;omega)|(simp;done)|(simp;omega))
     refine QJ (hR _ ?_)
     clear hR R
     try simp only [go_sem,Nat.reduceBEq]
     refine J1 (ZL ?_)
     refine Y3 ?_
     refine ZS ?_
     refine Zv ?_
     simp only [QS,Qn,QW,QM,Y2,Yw,qr,WJ,List.lookup_cons,List.lookup_nil,beq_self_eq_true,forall_const,true_and,and_true]
     refine ⟨rfl,?_⟩
     first|(simp [cmp, *];done)|(simp only [if_true,Option.some.injEq,V.int.injEq];unfold cmp;rw [if_neg (by omega),if_neg (by omega)])
   · intro hb2
     simp at hb2
     refine J3 ?_
     refine J5 (J1 ?_)
     refine J2 ?_
     refine SA.region ok (by kernel_rfl) [4] ?_
     intro R hR
     simp only [go_sem,QC]
     iterate 1 (refine QE fun R1 hR1=>?_;simp only [go_sem,seval,-List.reduceReplicate,List.length_map,QI,Zh,z3,z4,Int.toNat_natCast,Int.natCast_zero,Event.v0,Event.v7,Event.v8,Access.v0,Access.v1,Access.v2,QH];(repeat' with_reducible refine And.intro ?_ ?_);all_goals first|(refine hR1 _ ?_;clear hR1 R1)|omega|rfl|decide|assumption|(intro _;omega)|(simp;done)|(simp;omega))
     refine QJ (hR _ ?_)
     clear hR R
     try simp only [go_sem,Nat.reduceBEq]
     refine J1 (ZL ?_)
     refine Zv ?_
     simp only [QS,Qn,QW,QM,Y2,Yw,qr,WJ,List.lookup_cons,List.lookup_nil,beq_self_eq_true,forall_const,true_and,and_true]
     refine ⟨rfl,?_⟩
     first|(simp [cmp, *];done)|(simp only [if_true,Option.some.injEq,V.int.injEq];unfold cmp;rw [if_neg (by omega),if_neg (by omega)])
end Go.Eng.Tryz
