/- A part of the proof: walks through the program's functions, and what they compute. -/
import Derived.Test.YtmonhjagbhpbeaaGreatDoorPk25
set_option linter.unusedSimpArgs false
set_option linter.unusedVariables false
namespace Go.Eng.Tryz
open Go.RowKit Go.Eng
set_option maxHeartbeats 0
set_option maxRecDepth 20000
theorem w6 (e:Event) (he:e.touch.length=6):Ctr Go.Proofs.Tryz.prog tab 102 [63] [4] [e.v] [.bool (right e)]:=by
 refine Ctr.body ok Go.Proofs.Tryz.func102 rfl rfl 72 rfl [.tmp 2] rfl (by simp [QL]) ?_
 simp only [go_sem,Nat.reduceAdd]
 refine J2 ?_
 refine SA.region ok (by kernel_rfl) [1] ?_
 intro R hR
 simp only [go_sem,QC]
 iterate 2 (refine QE fun R1 hR1=>?_;simp only [go_sem,seval,-List.reduceReplicate,List.length_map,QI,Zh,z3,z4,Int.toNat_natCast,Int.natCast_zero,Event.v0,Event.v7,Event.v8,Access.v0,Access.v1,Access.v2,QH];(repeat' with_reducible refine And.intro ?_ ?_);all_goals first|(refine hR1 _ ?_;clear hR1 R1)|omega|rfl|decide|assumption|(intro _;omega)|(simp;done)|(simp;omega)|(simp [QF,maxLen,YN,Q0,Qz,Qw,Qx]<;>omega))
 refine QJ (hR _ ?_)
 clear hR R
 try simp only [go_sem,Nat.reduceBEq]
 refine J1 (J2 ?_)
 refine J2 ?_
 refine SA.region ok (by kernel_rfl) [1,23] ?_
 intro R hR
 simp only [go_sem,QC]
 iterate 18 (refine QE fun R1 hR1=>?_;simp only [go_sem,seval,-List.reduceReplicate,List.length_map,QI,Zh,z3,z4,Int.toNat_natCast,Int.natCast_zero,Event.v0,Event.v7,Event.v8,Access.v0,Access.v1,Access.v2,QH];(repeat' with_reducible refine And.intro ?_ ?_);all_goals first|(refine hR1 _ ?_;clear hR1 R1)|omega|rfl|decide|assumption|(intro _;omega)|(simp;done)|(simp;omega))
 refine QJ (hR _ ?_)
 clear hR R
 try simp only [go_sem,Nat.reduceBEq]
 refine J1 ?_
 refine SA.cond rfl ?_ ?_
 · intro hb1
   simp at hb1
   refine J2 ?_
   refine SA.region ok (by kernel_rfl) [2] ?_
   intro R hR
   simp only [go_sem,QC]
   iterate 1 (refine QE fun R1 hR1=>?_;simp only [go_sem,seval,-List.reduceReplicate,List.length_map,QI,Zh,z3,z4,Int.toNat_natCast,Int.natCast_zero,Event.v0,Event.v7,Event.v8,Access.v0,Access.v1,Access.v2,QH];(repeat' with_reducible refine And.intro ?_ ?_);all_goals first|(refine hR1 _ ?_;clear hR1 R1)|omega|rfl|decide|assumption|(intro _;omega)|(simp;done)|(simp;omega))
   refine QJ (hR _ ?_)
   clear hR R
   try simp only [go_sem,Nat.reduceBEq]
   refine J1 (ZL ?_)
   refine ZS ?_
   refine Zv ?_
   simp only [QS,Qn,QW,QM,Y2,Yw,qr,WJ,List.lookup_cons,List.lookup_nil,beq_self_eq_true,forall_const,true_and,and_true]
   refine ⟨rfl,?_⟩
   have:right e=false:=Bool.eq_false_iff.2 fun h=>by simp [right] at h;omega
   rw [this];rfl
 · intro hb1
   simp at hb1
   refine J3 ?_
   refine J1 (J2 ?_)
   refine SA.region ok (by kernel_rfl) [1,3] ?_
   intro R hR
   simp only [go_sem,QC]
   iterate 1 (refine QE fun R1 hR1=>?_;simp only [go_sem,seval,-List.reduceReplicate,List.length_map,QI,Zh,z3,z4,Int.toNat_natCast,Int.natCast_zero,Event.v0,Event.v7,Event.v8,Access.v0,Access.v1,Access.v2,QH];(repeat' with_reducible refine And.intro ?_ ?_);all_goals first|(refine hR1 _ ?_;clear hR1 R1)|omega|rfl|decide|assumption|(intro _;omega)|(simp;done)|(simp;omega))
   refine QJ (hR _ ?_)
   clear hR R
   try simp only [go_sem,Nat.reduceBEq]
   refine J1 (J2 ?_)
   refine J2 ?_
   refine SA.region ok (by kernel_rfl) [1,3,25,26] ?_
   intro R hR
   simp only [go_sem,QC]
   iterate 3 (refine QE fun R1 hR1=>?_;simp only [go_sem,seval,-List.reduceReplicate,List.length_map,QI,Zh,z3,z4,Int.toNat_natCast,Int.natCast_zero,Event.v0,Event.v7,Event.v8,Access.v0,Access.v1,Access.v2,QH];(repeat' with_reducible refine And.intro ?_ ?_);all_goals first|(refine hR1 _ ?_;clear hR1 R1)|omega|rfl|decide|assumption|(intro _;omega)|(simp;done)|(simp;omega))
   refine QJ (hR _ ?_)
   clear hR R
   try simp only [go_sem,Nat.reduceBEq]
   refine J1 (J4 ?_)
   refine Yx (ZZ (by first|rfl|(simp;done)|fail)) (Wo (fun n τ=>∃ (i:Nat),n=6-i∧(i≤6∧(0≤e.go∧e.go<6∧1≤e.touches∧e.touches≤6)∧(List.range i).all (WU e)=true)∧τ={ tm:=[(1,true,.ptr 0 [] 63),(3,true,.bool ((List.range i).any (z7 e))),(25,true,.data 61 (.agg (e.touch.map Access.v))),(26,true,.int .i64 i)],ob:=[.var 63 (.data 63 e.v)],out:=[],nt:=72 }) (6) ⟨0,rfl,⟨by omega,by omega,rfl⟩,rfl⟩ ?_)
   rintro n τ ⟨i,hn,⟨hi,hc,hd⟩,rfl⟩
   refine J2 ?_
   refine SA.region ok (by kernel_rfl) [1,3,25,26,27] ?_
   intro R hR
   simp only [go_sem,QC]
   iterate 1 (refine QE fun R1 hR1=>?_;simp only [go_sem,seval,-List.reduceReplicate,List.length_map,QI,Zh,z3,z4,Int.toNat_natCast,Int.natCast_zero,Event.v0,Event.v7,Event.v8,Access.v0,Access.v1,Access.v2,QH];(repeat' with_reducible refine And.intro ?_ ?_);all_goals first|(refine hR1 _ ?_;clear hR1 R1)|omega|rfl|decide|assumption|(intro _;omega)|(simp;done)|(simp;omega))
   refine QJ (hR _ ?_)
   clear hR R
   try simp only [go_sem,Nat.reduceBEq]
   refine J1 (J2 ?_)
   refine SA.cond rfl ?_ ?_
   · intro hb2
     simp at hb2
     refine J3 ?_
     refine J1 (J2 ?_)
     refine J4 ?_
     refine J2 ?_
     refine SA.region ok (by kernel_rfl) [1,3,4,5,25,26] ?_
     intro R hR
     simp only [go_sem,QC]
     iterate 5 (refine QE fun R1 hR1=>?_;simp only [go_sem,seval,-List.reduceReplicate,List.length_map,QI,Zh,z3,z4,Int.toNat_natCast,Int.natCast_zero,Event.v0,Event.v7,Event.v8,Access.v0,Access.v1,Access.v2,QH];(repeat' with_reducible refine And.intro ?_ ?_);all_goals first|(refine hR1 _ ?_;clear hR1 R1)|omega|rfl|decide|assumption|(intro _;omega)|(simp;done)|(simp;omega)|(simp [QF,maxLen,YN,Q0,Qz,Qw,Qx]<;>omega))
     refine QJ (hR _ ?_)
     clear hR R
     try simp only [go_sem,Nat.reduceBEq]
     have hl:i<e.touch.length:=by omega
     rw [Qt Access.v e.touch hl]
     refine J1 (J2 ?_)
     refine J2 ?_
     refine SA.region ok (by kernel_rfl) [1,3,4,5,25,26,33] ?_
     intro R hR
     simp only [go_sem,QC]
     iterate 4 (refine QE fun R1 hR1=>?_;simp only [go_sem,seval,-List.reduceReplicate,List.length_map,QI,Zh,z3,z4,Int.toNat_natCast,Int.natCast_zero,Event.v0,Event.v7,Event.v8,Access.v0,Access.v1,Access.v2,QH];(repeat' with_reducible refine And.intro ?_ ?_);all_goals first|(refine hR1 _ ?_;clear hR1 R1)|omega|rfl|decide|assumption|(intro _;omega)|(simp;done)|(simp;omega))
     refine QJ (hR _ ?_)
     clear hR R
     try simp only [go_sem,Nat.reduceBEq]
     refine J1 ?_
     refine SA.cond rfl ?_ ?_
     · intro hb3
       simp at hb3
       refine J2 ?_
       refine J2 ?_
       refine SA.region ok (by kernel_rfl) [1,3,25,26,36] ?_
       intro R hR
       simp only [go_sem,QC]
       iterate 3 (refine QE fun R1 hR1=>?_;simp only [go_sem,seval,-List.reduceReplicate,List.length_map,QI,Zh,z3,z4,Int.toNat_natCast,Int.natCast_zero,Event.v0,Event.v7,Event.v8,Access.v0,Access.v1,Access.v2,QH];(repeat' with_reducible refine And.intro ?_ ?_);all_goals first|(refine hR1 _ ?_;clear hR1 R1)|omega|rfl|decide|assumption|(intro _;omega)|(simp;done)|(simp;omega))
       refine QJ (hR _ ?_)
       clear hR R
       try simp only [go_sem,Nat.reduceBEq]
       refine J1 ?_
       refine SA.cond rfl ?_ ?_
       · intro hb4
         simp at hb4
         refine J2 ?_
         refine SA.region ok (by kernel_rfl) [2] ?_
         intro R hR
         simp only [go_sem,QC]
         iterate 1 (refine QE fun R1 hR1=>?_;simp only [go_sem,seval,-List.reduceReplicate,List.length_map,QI,Zh,z3,z4,Int.toNat_natCast,Int.natCast_zero,Event.v0,Event.v7,Event.v8,Access.v0,Access.v1,Access.v2,QH];(repeat' with_reducible refine And.intro ?_ ?_);all_goals first|(refine hR1 _ ?_;clear hR1 R1)|omega|rfl|decide|assumption|(intro _;omega)|(simp;done)|(simp;omega))
         refine QJ (hR _ ?_)
         clear hR R
         try simp only [go_sem,Nat.reduceBEq]
         refine J1 (ZL ?_)
         refine ZS ?_
         refine ZS ?_
         refine Y3 ?_
         refine ZS ?_
         refine V7 ?_
         refine Y3 ?_
         refine ZS ?_
         refine Zv ?_
         simp only [QS,Qn,QW,QM,Y2,Yw,qr,WJ,List.lookup_cons,List.lookup_nil,beq_self_eq_true,forall_const,true_and,and_true]
         refine ⟨rfl,?_⟩
         have hp:WU e i=false:=by simp [WU,hb3,hb4]
         have:right e=false:=by simp [right,ZY (show i<6 by omega) hp]
         rw [this];rfl
       · intro hb4
         simp at hb4
         refine J3 ?_
         refine J1 ?_
         refine J6 ?_
         refine J9 ?_
         refine J7 ?_
         refine J1 ?_
         refine SA.region ok (by kernel_rfl) [1,3,25,26] ?_
         intro R hR
         simp only [go_sem,QC]
         iterate 2 (refine QE fun R1 hR1=>?_;simp only [go_sem,seval,-List.reduceReplicate,List.length_map,QI,Zh,z3,z4,Int.toNat_natCast,Int.natCast_zero,Event.v0,Event.v7,Event.v8,Access.v0,Access.v1,Access.v2,QH];(repeat' with_reducible refine And.intro ?_ ?_);all_goals first|(refine hR1 _ ?_;clear hR1 R1)|omega|rfl|decide|assumption|(intro _;omega)|(simp;done)|(simp;omega))
         refine QJ (hR _ ?_)
         clear hR R
         try simp only [go_sem,Nat.reduceBEq]
         have hlt:i<6:=by omega
         have hp:WU e i=true:=by simp [WU,hb3,hb4]
         have ho:z7 e i=false:=by simp [z7];omega
         refine WE (6-(i+1)) _ (by omega) ((Vk 1 rfl).trans (ZZ (by simp only [QN hlt (by decide:6≤maxLen),VN,ho,Bool.or_false,List.take_succ_cons,List.take_zero]))) ⟨i+1,rfl,⟨hlt,hc,?_⟩,rfl⟩
         rw [Yb,hd,hp];rfl
     · intro hb3
       simp at hb3
       refine J3 ?_
       refine J1 (J2 ?_)
       refine J2 ?_
       refine SA.regionQ ok Qc (by kernel_rfl) (by kernel_rfl) [1,3,5,25,26,61] ?_
       intro R hR
       simp only [go_sem,QC]
       iterate 8 (refine Ys fun R1 hR1=>?_;simp only [go_sem,seval,-List.reduceReplicate,List.length_map,QI,Zh,z3,z4,Int.toNat_natCast,Int.natCast_zero,Event.v0,Event.v7,Event.v8,Access.v0,Access.v1,Access.v2,QH];(repeat' with_reducible refine And.intro ?_ ?_);all_goals first|(refine hR1 _ ?_;clear hR1 R1)|omega|rfl|decide|assumption|(intro _;omega)|(simp;done)|(simp;omega)|(simp [QF,maxLen,YN,Q0,Qz,Qw,Qx]<;>omega))
       refine Ys fun R1 hR1=>?_
       simp only [go_sem,seval,-List.reduceReplicate,List.length_map,QI,Zh,z3,z4,Int.toNat_natCast,Int.natCast_zero,Event.v0,Event.v7,Event.v8,Access.v0,Access.v1,Access.v2,QH]
       repeat' with_reducible refine And.intro ?_ ?_
       all_goals try (first|omega|assumption|(intro _;omega))
       first|refine ⟨_,_,rfl,_,CallQ.ctr ok (QC9 (e.touch.getD i default).kind) (by first|rfl|(simp [Q9,Xg,Qf,Yw,Yz,XR,UB,UC,Vo,List.length_map,List.take_of_length_le])) rfl,?_⟩|refine ⟨_,_,rfl,_,fun hg=>CallQ.ctr ok (QC9 (e.touch.getD i default).kind) (by first|rfl|(simp [Q9,Xg,Qf,Yw,Yz,XR,UB,UC,Vo,List.length_map,List.take_of_length_le])) rfl,?_⟩
       simp only [go_sem,seval,-List.reduceReplicate,List.length_map,QI,Zh,z3,z4,Int.toNat_natCast,Int.natCast_zero,Event.v0,Event.v7,Event.v8,Access.v0,Access.v1,Access.v2,QH]
       repeat' with_reducible refine And.intro ?_ ?_
       all_goals first|(refine hR1 _ ?_;clear hR1 R1)|omega|rfl|decide|assumption|(intro _;omega)|(simp;done)|(simp;omega)|(simp [QF,maxLen,YN,Q0,Qz,Qw,Qx]<;>omega)
       iterate 7 (refine Ys fun R1 hR1=>?_;simp only [go_sem,seval,-List.reduceReplicate,List.length_map,QI,Zh,z3,z4,Int.toNat_natCast,Int.natCast_zero,Event.v0,Event.v7,Event.v8,Access.v0,Access.v1,Access.v2,QH];(repeat' with_reducible refine And.intro ?_ ?_);all_goals first|(refine hR1 _ ?_;clear hR1 R1)|omega|rfl|decide|assumption|(intro _;omega)|(simp;done)|(simp;omega)|(simp [QF,maxLen,YN,Q0,Qz,Qw,Qx]<;>omega))
       refine Ys fun R1 hR1=>?_
       simp only [go_sem,seval,-List.reduceReplicate,List.length_map,QI,Zh,z3,z4,Int.toNat_natCast,Int.natCast_zero,Event.v0,Event.v7,Event.v8,Access.v0,Access.v1,Access.v2,QH]
       repeat' with_reducible refine And.intro ?_ ?_
       all_goals first|(refine hR1 _ ?_;clear hR1 R1)|omega|rfl|decide|assumption|(intro _;omega)|(simp;done)|(simp;omega)|(simp [QF,maxLen,YN,Q0,Qz,Qw,Qx]<;>omega)
       rw [Zj (n:=(i:Int)-1) (by omega) (by omega)]
       iterate 2 (refine Ys fun R1 hR1=>?_;simp only [go_sem,seval,-List.reduceReplicate,List.length_map,QI,Zh,z3,z4,Int.toNat_natCast,Int.natCast_zero,Event.v0,Event.v7,Event.v8,Access.v0,Access.v1,Access.v2,QH];(repeat' with_reducible refine And.intro ?_ ?_);all_goals first|(refine hR1 _ ?_;clear hR1 R1)|omega|rfl|decide|assumption|(intro _;omega)|(simp;done)|(simp;omega)|(simp [QF,maxLen,YN,Q0,Qz,Qw,Qx]<;>omega))
       refine Ys fun R1 hR1=>?_
       simp only [go_sem,seval,-List.reduceReplicate,List.length_map,QI,Zh,z3,z4,Int.toNat_natCast,Int.natCast_zero,Event.v0,Event.v7,Event.v8,Access.v0,Access.v1,Access.v2,QH]
       repeat' with_reducible refine And.intro ?_ ?_
       all_goals first|(refine hR1 _ ?_;clear hR1 R1)|omega|rfl|decide|assumption|(intro _;omega)|(simp;done)|(simp;omega)|(simp [QF,maxLen,YN,Q0,Qz,Qw,Qx]<;>omega)
       have hk:((i:Int)-1).toNat=i-1:=by omega
       rw [hk,Qt Access.v e.touch (by omega:i-1<e.touch.length)]
       iterate 1 (refine Ys fun R1 hR1=>?_;simp only [go_sem,seval,-List.reduceReplicate,List.length_map,QI,Zh,z3,z4,Int.toNat_natCast,Int.natCast_zero,Event.v0,Event.v7,Event.v8,Access.v0,Access.v1,Access.v2,QH];(repeat' with_reducible refine And.intro ?_ ?_);all_goals first|(refine hR1 _ ?_;clear hR1 R1)|omega|rfl|decide|assumption|(intro _;omega)|(simp;done)|(simp;omega)|(simp [QF,maxLen,YN,Q0,Qz,Qw,Qx]<;>omega))
       refine Ys fun R1 hR1=>?_
       simp only [go_sem,seval,-List.reduceReplicate,List.length_map,QI,Zh,z3,z4,Int.toNat_natCast,Int.natCast_zero,Event.v0,Event.v7,Event.v8,Access.v0,Access.v1,Access.v2,QH]
       repeat' with_reducible refine And.intro ?_ ?_
       all_goals try (first|omega|assumption|(intro _;omega))
       first|refine ⟨_,_,rfl,_,CallQ.ctr ok (xY (e.touch.getD (i-1) default) (e.touch.getD i default)) (by first|rfl|(simp [Q9,Xg,Qf,Yw,Yz,XR,UB,UC,Vo,List.length_map,List.take_of_length_le])) rfl,?_⟩|refine ⟨_,_,rfl,_,fun hg=>CallQ.ctr ok (xY (e.touch.getD (i-1) default) (e.touch.getD i default)) (by first|rfl|(simp [Q9,Xg,Qf,Yw,Yz,XR,UB,UC,Vo,List.length_map,List.take_of_length_le])) rfl,?_⟩
       simp only [go_sem,seval,-List.reduceReplicate,List.length_map,QI,Zh,z3,z4,Int.toNat_natCast,Int.natCast_zero,Event.v0,Event.v7,Event.v8,Access.v0,Access.v1,Access.v2,QH]
       repeat' with_reducible refine And.intro ?_ ?_
       all_goals first|(refine hR1 _ ?_;clear hR1 R1)|omega|rfl|decide|assumption|(intro _;omega)|(simp;done)|(simp;omega)|(simp [QF,maxLen,YN,Q0,Qz,Qw,Qx]<;>omega)
       iterate 3 (refine Ys fun R1 hR1=>?_;simp only [go_sem,seval,-List.reduceReplicate,List.length_map,QI,Zh,z3,z4,Int.toNat_natCast,Int.natCast_zero,Event.v0,Event.v7,Event.v8,Access.v0,Access.v1,Access.v2,QH];(repeat' with_reducible refine And.intro ?_ ?_);all_goals first|(refine hR1 _ ?_;clear hR1 R1)|omega|rfl|decide|assumption|(intro _;omega)|(simp;done)|(simp;omega)|(simp [QF,maxLen,YN,Q0,Qz,Qw,Qx]<;>omega))
       refine QCx (hR _ ?_)
       clear hR R
       try simp only [go_sem,Nat.reduceBEq]
       refine J1 ?_
       refine SA.cond rfl ?_ ?_
       · intro hb5
         simp at hb5
         refine J2 ?_
         refine SA.region ok (by kernel_rfl) [2] ?_
         intro R hR
         simp only [go_sem,QC]
         iterate 1 (refine QE fun R1 hR1=>?_;simp only [go_sem,seval,-List.reduceReplicate,List.length_map,QI,Zh,z3,z4,Int.toNat_natCast,Int.natCast_zero,Event.v0,Event.v7,Event.v8,Access.v0,Access.v1,Access.v2,QH];(repeat' with_reducible refine And.intro ?_ ?_);all_goals first|(refine hR1 _ ?_;clear hR1 R1)|omega|rfl|decide|assumption|(intro _;omega)|(simp;done)|(simp;omega))
         refine QJ (hR _ ?_)
         clear hR R
         try simp only [go_sem,Nat.reduceBEq]
         refine J1 (ZL ?_)
         refine ZS ?_
         refine Y3 ?_
         refine ZS ?_
         refine V7 ?_
         refine Y3 ?_
         refine ZS ?_
         refine Zv ?_
         simp only [QS,Qn,QW,QM,Y2,Yw,qr,WJ,List.lookup_cons,List.lookup_nil,beq_self_eq_true,forall_const,true_and,and_true]
         refine ⟨rfl,?_⟩
         have hp:WU e i=false:=by
          rw [Bool.eq_false_iff];intro h
          simp [WU,show ¬ e.touches≤i by omega] at h
          omega
         have:right e=false:=by simp [right,ZY (show i<6 by omega) hp]
         rw [this];rfl
       · intro hb5
         simp at hb5
         refine J3 ?_
         refine J1 ?_
         refine SA.region ok (by kernel_rfl) [1,3,25,26] ?_
         intro R hR
         simp only [go_sem,QC]
         iterate 9 (refine QE fun R1 hR1=>?_;simp only [go_sem,seval,-List.reduceReplicate,List.length_map,QI,Zh,z3,z4,Int.toNat_natCast,Int.natCast_zero,Event.v0,Event.v7,Event.v8,Access.v0,Access.v1,Access.v2,QH];(repeat' with_reducible refine And.intro ?_ ?_);all_goals first|(refine hR1 _ ?_;clear hR1 R1)|omega|rfl|decide|assumption|(intro _;omega)|(simp;done)|(simp;omega))
         refine QJ (hR _ ?_)
         clear hR R
         try simp only [go_sem,Nat.reduceBEq]
         refine J5 (J1 ?_)
         refine SA.region ok (by kernel_rfl) [1,3,25,26] ?_
         intro R hR
         simp only [go_sem,QC]
         iterate 2 (refine QE fun R1 hR1=>?_;simp only [go_sem,seval,-List.reduceReplicate,List.length_map,QI,Zh,z3,z4,Int.toNat_natCast,Int.natCast_zero,Event.v0,Event.v7,Event.v8,Access.v0,Access.v1,Access.v2,QH];(repeat' with_reducible refine And.intro ?_ ?_);all_goals first|(refine hR1 _ ?_;clear hR1 R1)|omega|rfl|decide|assumption|(intro _;omega)|(simp;done)|(simp;omega))
         refine QJ (hR _ ?_)
         clear hR R
         try simp only [go_sem,Nat.reduceBEq]
         have hlt:i<6:=by omega
         have hp:WU e i=true:=by
          simp [WU,show ¬ e.touches≤i by omega]
          omega
         have ho:(bif (List.range i).any (z7 e) then true else decide (e.touch.getD i default={ kind:=5,num:=e.go,write:=true }))=(List.range (i+1)).any (z7 e):=by
          rw [VN]
          have:decide ((i:Int)<e.touches)=true:=by simpa using hb3
          simp only [z7,this,Bool.true_and]
          cases (List.range i).any (z7 e)<;>rfl
         refine WE (6-(i+1)) _ (by omega) ((Vk 1 rfl).trans (ZZ (by simp only [QN hlt (by decide:6≤maxLen),ho,List.take_succ_cons,List.take_zero]))) ⟨i+1,rfl,⟨hlt,hc,?_⟩,rfl⟩
         rw [Yb,hd,hp];rfl
   · intro hb2
     simp at hb2
     refine J6 ?_
     refine J9 ?_
     refine Uf ?_
     refine J7 ?_
     refine J1 (J2 ?_)
     refine SA.region ok (by kernel_rfl) [2] ?_
     intro R hR
     simp only [go_sem,QC]
     iterate 2 (refine QE fun R1 hR1=>?_;simp only [go_sem,seval,-List.reduceReplicate,List.length_map,QI,Zh,z3,z4,Int.toNat_natCast,Int.natCast_zero,Event.v0,Event.v7,Event.v8,Access.v0,Access.v1,Access.v2,QH];(repeat' with_reducible refine And.intro ?_ ?_);all_goals first|(refine hR1 _ ?_;clear hR1 R1)|omega|rfl|decide|assumption|(intro _;omega)|(simp;done)|(simp;omega))
     refine QJ (hR _ ?_)
     clear hR R
     try simp only [go_sem,Nat.reduceBEq]
     refine J1 (ZL ?_)
     refine Zv ?_
     simp only [QS,Qn,QW,QM,Y2,Yw,qr,WJ,List.lookup_cons,List.lookup_nil,beq_self_eq_true,forall_const,true_and,and_true]
     refine ⟨rfl,?_⟩
     have h6:i=6:=by omega
     subst h6
     have:right e=(List.range 6).any (z7 e):=by
      simp only [right,hd,Bool.true_and,decide_eq_true hc.1,decide_eq_true hc.2.1,decide_eq_true hc.2.2.1,decide_eq_true hc.2.2.2]
     rw [this];rfl
end Go.Eng.Tryz
namespace Go.Eng.Tryz
open Go.RowKit Go.Eng
set_option maxHeartbeats 0
set_option maxRecDepth 20000
theorem QDW (e:Event) (he:e.touch.length=6):Ctr Go.Proofs.Tryz.prog tab 101 [63] [4] [e.v] [.bool (!right e)]:=by
 refine Ctr.body ok Go.Proofs.Tryz.func101 rfl rfl 6 rfl [.tmp 2] rfl (by simp [QL]) ?_
 simp only [go_sem,Nat.reduceAdd]
 refine J2 ?_
 refine SA.region ok (by kernel_rfl) [1] ?_
 intro R hR
 simp only [go_sem,QC]
 iterate 2 (refine QE fun R1 hR1=>?_;simp only [go_sem,seval,-List.reduceReplicate,List.length_map,QI,Zh,z3,z4,Int.toNat_natCast,Int.natCast_zero,Event.v0,Event.v7,Event.v8,Access.v0,Access.v1,Access.v2,QH];(repeat' with_reducible refine And.intro ?_ ?_);all_goals first|(refine hR1 _ ?_;clear hR1 R1)|omega|rfl|decide|assumption|(intro _;omega)|(simp;done)|(simp;omega)|(simp [QF,maxLen,YN,Q0,Qz,Qw,Qx]<;>omega))
 refine QJ (hR _ ?_)
 clear hR R
 try simp only [go_sem,Nat.reduceBEq]
 refine J1 (J2 ?_)
 refine SA.region ok (by kernel_rfl) [2] ?_
 intro R hR
 simp only [go_sem,QC]
 iterate 1 (refine QE fun R1 hR1=>?_;simp only [go_sem,seval,-List.reduceReplicate,List.length_map,QI,Zh,z3,z4,Int.toNat_natCast,Int.natCast_zero,Event.v0,Event.v7,Event.v8,Access.v0,Access.v1,Access.v2,QH];(repeat' with_reducible refine And.intro ?_ ?_);all_goals first|(refine hR1 _ ?_;clear hR1 R1)|omega|rfl|decide|assumption|(intro _;omega)|(simp;done)|(simp;omega)|(simp [QF,maxLen,YN,Q0,Qz,Qw,Qx]<;>omega))
 refine QE fun R1 hR1=>?_
 simp only [go_sem,seval,-List.reduceReplicate,List.length_map,QI,Zh,z3,z4,Int.toNat_natCast,Int.natCast_zero,Event.v0,Event.v7,Event.v8,Access.v0,Access.v1,Access.v2,QH]
 repeat' with_reducible refine And.intro ?_ ?_
 all_goals try (first|omega|assumption|(intro _;omega))
 first|refine ⟨_,_,rfl,.inl ⟨_,CallQ.ctr ok (w6 e he) (by first|rfl|(simp [Q9,Xg,Qf,Yw,Yz,XR,UB,UC,Vo,List.length_map,List.take_of_length_le])) rfl,?_⟩⟩|refine ⟨_,_,rfl,.inl ⟨_,fun hg=>CallQ.ctr ok (w6 e he) (by first|rfl|(simp [Q9,Xg,Qf,Yw,Yz,XR,UB,UC,Vo,List.length_map,List.take_of_length_le])) rfl,?_⟩⟩
 simp only [go_sem,seval,-List.reduceReplicate,List.length_map,QI,Zh,z3,z4,Int.toNat_natCast,Int.natCast_zero,Event.v0,Event.v7,Event.v8,Access.v0,Access.v1,Access.v2,QH]
 repeat' with_reducible refine And.intro ?_ ?_
 all_goals first|(refine hR1 _ ?_;clear hR1 R1)|omega|rfl|decide|assumption|(intro _;omega)|(simp;done)|(simp;omega)|(simp [QF,maxLen,YN,Q0,Qz,Qw,Qx]<;>omega)
 iterate 2 (refine QE fun R1 hR1=>?_;simp only [go_sem,seval,-List.reduceReplicate,List.length_map,QI,Zh,z3,z4,Int.toNat_natCast,Int.natCast_zero,Event.v0,Event.v7,Event.v8,Access.v0,Access.v1,Access.v2,QH];(repeat' with_reducible refine And.intro ?_ ?_);all_goals first|(refine hR1 _ ?_;clear hR1 R1)|omega|rfl|decide|assumption|(intro _;omega)|(simp;done)|(simp;omega)|(simp [QF,maxLen,YN,Q0,Qz,Qw,Qx]<;>omega))
 refine QJ (hR _ ?_)
 clear hR R
 try simp only [go_sem,Nat.reduceBEq]
 refine J1 (ZL ?_)
 refine Zv ?_
 simp only [QS,Qn,QW,QM,Y2,Yw,qr,WJ,List.lookup_cons,List.lookup_nil,beq_self_eq_true,forall_const,true_and,and_true]
 exact ⟨rfl,rfl⟩
end Go.Eng.Tryz
