/- A part of the proof: walks through the program's functions, and what they compute. -/
import Derived.Test.YtmonhjagbhpbeaaGreatDoorPk22
import Derived.Test.YtmonhjagbhpbeaaGreatDoorPk23
set_option linter.unusedSimpArgs false
set_option linter.unusedVariables false
namespace Go.Eng.Tryz
open Go.RowKit Go.Eng
set_option maxHeartbeats 0
set_option maxRecDepth 20000
theorem Xs (a b:List Access) (ha:a.length≤maxLen) (hb:b.length≤maxLen):Ctr Go.Proofs.Tryz.prog tab 61 [94,94] [4] [.list (a.map Access.v),.list (b.map Access.v)] [.bool (yZ a b)]:=by
 refine Ctr.body ok Go.Proofs.Tryz.func61 rfl rfl 43 rfl [.tmp 4] rfl (by simp [QL]) ?_
 simp only [go_sem,Nat.reduceAdd]
 refine J2 ?_
 refine SA.region ok (by kernel_rfl) [0,1] ?_
 intro R hR
 simp only [go_sem,QC]
 iterate 1 (refine QE fun R1 hR1=>?_;simp only [go_sem,seval,-List.reduceReplicate,List.length_map,QI,Zh,z3,z4,Int.toNat_natCast,Access.v,Int.natCast_zero];(repeat' with_reducible refine And.intro ?_ ?_);all_goals first|(refine hR1 _ ?_;clear hR1 R1)|omega|rfl|decide|assumption|(intro _;omega)|(simp;done)|(simp;omega))
 refine QJ (hR _ ?_)
 clear hR R
 try simp only [go_sem,Nat.reduceBEq]
 refine J1 (J2 ?_)
 refine J2 ?_
 refine SA.region ok (by kernel_rfl) [1,9,10,11] ?_
 intro R hR
 simp only [go_sem,QC]
 iterate 3 (refine QE fun R1 hR1=>?_;simp only [go_sem,seval,-List.reduceReplicate,List.length_map,QI,Zh,z3,z4,Int.toNat_natCast,Access.v,Int.natCast_zero];(repeat' with_reducible refine And.intro ?_ ?_);all_goals first|(refine hR1 _ ?_;clear hR1 R1)|omega|rfl|decide|assumption|(intro _;omega)|(simp;done)|(simp;omega)|(simp [QF,maxLen,YN,Q0,Qz,Qw,Qx]<;>omega))
 refine QJ (hR _ ?_)
 clear hR R
 try simp only [go_sem,Nat.reduceBEq]
 refine J1 (J4 ?_)
 refine Yx (ZZ (by first|rfl|(simp;done)|fail)) (Wo (fun n τ=>∃ (i:Nat),n=a.length-i∧(i≤a.length∧yZ (a.take i) b=false)∧τ={ tm:=[(1,true,.fs 60 (b.map Access.v) false),(9,true,.fs 60 (a.map Access.v) false),(10,true,.int .i64 a.length),(11,true,.int .i64 i)],ob:=[],out:=[],nt:=43 }) (a.length) ⟨0,rfl,⟨Nat.zero_le _,rfl⟩,rfl⟩ ?_)
 rintro n τ ⟨i,hn,⟨hi,hc⟩,rfl⟩
 refine J2 ?_
 refine SA.region ok (by kernel_rfl) [1,9,10,11,12] ?_
 intro R hR
 simp only [go_sem,QC]
 iterate 1 (refine QE fun R1 hR1=>?_;simp only [go_sem,seval,-List.reduceReplicate,List.length_map,QI,Zh,z3,z4,Int.toNat_natCast,Access.v,Int.natCast_zero];(repeat' with_reducible refine And.intro ?_ ?_);all_goals first|(refine hR1 _ ?_;clear hR1 R1)|omega|rfl|decide|assumption|(intro _;omega)|(simp;done)|(simp;omega))
 refine QJ (hR _ ?_)
 clear hR R
 try simp only [go_sem,Nat.reduceBEq]
 refine J1 (J2 ?_)
 refine SA.cond rfl ?_ ?_
 · intro hb1
   try simp only [decide_eq_true_eq,decide_eq_false_iff_not] at hb1
   refine J3 ?_
   refine J1 (J2 ?_)
   refine J4 ?_
   refine J2 ?_
   refine SA.region ok (by kernel_rfl) [1,6,9,10,11] ?_
   intro R hR
   simp only [go_sem,QC]
   iterate 4 (refine QE fun R1 hR1=>?_;simp only [go_sem,seval,-List.reduceReplicate,List.length_map,QI,Zh,z3,z4,Int.toNat_natCast,Access.v,Int.natCast_zero];(repeat' with_reducible refine And.intro ?_ ?_);all_goals first|(refine hR1 _ ?_;clear hR1 R1)|omega|rfl|decide|assumption|(intro _;omega)|(simp;done)|(simp;omega)|(simp [QF,maxLen,YN,Q0,Qz,Qw,Qx]<;>omega))
   refine QJ (hR _ ?_)
   clear hR R
   try simp only [go_sem,Nat.reduceBEq]
   have hlt:i<a.length:=by omega
   rw [Qt Access.v a hlt]
   refine J1 (J2 ?_)
   refine SA.region ok (by kernel_rfl) [1,6,9,10,11,15,16,17] ?_
   intro R hR
   simp only [go_sem,QC]
   iterate 3 (refine QE fun R1 hR1=>?_;simp only [go_sem,seval,-List.reduceReplicate,List.length_map,QI,Zh,z3,z4,Int.toNat_natCast,Access.v,Int.natCast_zero];(repeat' with_reducible refine And.intro ?_ ?_);all_goals first|(refine hR1 _ ?_;clear hR1 R1)|omega|rfl|decide|assumption|(intro _;omega)|(simp;done)|(simp;omega)|(simp [QF,maxLen,YN,Q0,Qz,Qw,Qx]<;>omega))
   refine QJ (hR _ ?_)
   clear hR R
   try simp only [go_sem,Nat.reduceBEq]
   refine J1 (J4 ?_)
   refine Yx (ZZ (by first|rfl|(simp;done)|fail)) (Wo (fun n τ=>∃ (j:Nat),n=b.length-j∧(j≤b.length∧((b.take j).any fun y=>y5 (a.getD i default) y)=false)∧τ={ tm:=[(1,true,.fs 60 (b.map Access.v) false),(6,true,.ptr 0 [] 60),(9,true,.fs 60 (a.map Access.v) false),(10,true,.int .i64 a.length),(11,true,.int .i64 i),(15,true,.fs 60 (b.map Access.v) false),(16,true,.int .i64 b.length),(17,true,.int .i64 j)],ob:=[.var 60 (.data 60 (a.getD i default).v)],out:=[],nt:=43 }) (b.length) ⟨0,rfl,⟨Nat.zero_le _,rfl⟩,rfl⟩ ?_)
   rintro n τ ⟨j,hn,⟨hj,hd⟩,rfl⟩
   refine J2 ?_
   refine SA.region ok (by kernel_rfl) [1,6,9,10,11,15,16,17,18] ?_
   intro R hR
   simp only [go_sem,QC]
   iterate 1 (refine QE fun R1 hR1=>?_;simp only [go_sem,seval,-List.reduceReplicate,List.length_map,QI,Zh,z3,z4,Int.toNat_natCast,Access.v,Int.natCast_zero];(repeat' with_reducible refine And.intro ?_ ?_);all_goals first|(refine hR1 _ ?_;clear hR1 R1)|omega|rfl|decide|assumption|(intro _;omega)|(simp;done)|(simp;omega))
   refine QJ (hR _ ?_)
   clear hR R
   try simp only [go_sem,Nat.reduceBEq]
   refine J1 (J2 ?_)
   refine SA.cond rfl ?_ ?_
   · intro hb2
     try simp only [decide_eq_true_eq,decide_eq_false_iff_not] at hb2
     refine J3 ?_
     refine J1 (J2 ?_)
     refine J4 ?_
     refine J2 ?_
     refine SA.region ok (by kernel_rfl) [1,6,8,9,10,11,15,16,17] ?_
     intro R hR
     simp only [go_sem,QC]
     iterate 4 (refine QE fun R1 hR1=>?_;simp only [go_sem,seval,-List.reduceReplicate,List.length_map,QI,Zh,z3,z4,Int.toNat_natCast,Access.v,Int.natCast_zero];(repeat' with_reducible refine And.intro ?_ ?_);all_goals first|(refine hR1 _ ?_;clear hR1 R1)|omega|rfl|decide|assumption|(intro _;omega)|(simp;done)|(simp;omega)|(simp [QF,maxLen,YN,Q0,Qz,Qw,Qx]<;>omega))
     refine QJ (hR _ ?_)
     clear hR R
     try simp only [go_sem,Nat.reduceBEq]
     have hjl:j<b.length:=by omega
     rw [Qt Access.v b hjl]
     refine J1 (J2 ?_)
     refine SA.region ok (by kernel_rfl) [1,6,9,10,11,15,16,17,40] ?_
     intro R hR
     simp only [go_sem,QC]
     iterate 20 (refine QE fun R1 hR1=>?_;simp only [go_sem,seval,-List.reduceReplicate,List.length_map,QI,Zh,z3,z4,Int.toNat_natCast,Access.v,Int.natCast_zero];(repeat' with_reducible refine And.intro ?_ ?_);all_goals first|(refine hR1 _ ?_;clear hR1 R1)|omega|rfl|decide|assumption|(intro _;omega)|(simp;done)|(simp;omega))
     refine QJ (hR _ ?_)
     clear hR R
     try simp only [go_sem,Nat.reduceBEq]
     refine J1 ?_
     refine SA.cond rfl ?_ ?_
     · intro hb3
       try simp only [decide_eq_true_eq,decide_eq_false_iff_not] at hb3
       refine J2 ?_
       refine SA.region ok (by kernel_rfl) [4] ?_
       intro R hR
       simp only [go_sem,QC]
       iterate 1 (refine QE fun R1 hR1=>?_;simp only [go_sem,seval,-List.reduceReplicate,List.length_map,QI,Zh,z3,z4,Int.toNat_natCast,Access.v,Int.natCast_zero];(repeat' with_reducible refine And.intro ?_ ?_);all_goals first|(refine hR1 _ ?_;clear hR1 R1)|omega|rfl|decide|assumption|(intro _;omega)|(simp;done)|(simp;omega))
       refine QJ (hR _ ?_)
       clear hR R
       try simp only [go_sem,Nat.reduceBEq]
       refine J1 (ZL ?_)
       refine Y3 ?_
       refine ZS ?_
       refine V7 ?_
       refine Y3 ?_
       refine Y3 ?_
       refine ZS ?_
       refine V7 ?_
       refine Y3 ?_
       refine ZS ?_
       refine Zv ?_
       simp only [QS,Qn,QW,QM,Y2,Yw,qr,WJ,List.lookup_cons,List.lookup_nil,beq_self_eq_true,forall_const,true_and,and_true]
       refine ⟨rfl,?_⟩
       have h3:y5 (a.getD i default) (b.getD j default)=true:=by simpa [y5] using hb3
       have h4:yZ a b=true:=List.any_eq_true.2 ⟨_,Q8 a hlt,List.any_eq_true.2 ⟨_,Q8 b hjl,h3⟩⟩
       rw [h4];rfl
     · intro hb3
       try simp only [decide_eq_true_eq,decide_eq_false_iff_not] at hb3
       refine J3 ?_
       refine J5 (J1 ?_)
       refine SA.region ok (by kernel_rfl) [1,6,9,10,11,15,16,17] ?_
       intro R hR
       simp only [go_sem,QC]
       iterate 2 (refine QE fun R1 hR1=>?_;simp only [go_sem,seval,-List.reduceReplicate,List.length_map,QI,Zh,z3,z4,Int.toNat_natCast,Access.v,Int.natCast_zero];(repeat' with_reducible refine And.intro ?_ ?_);all_goals first|(refine hR1 _ ?_;clear hR1 R1)|omega|rfl|decide|assumption|(intro _;omega)|(simp;done)|(simp;omega))
       refine QJ (hR _ ?_)
       clear hR R
       try simp only [go_sem,Nat.reduceBEq]
       refine WE (b.length-(j+1)) _ (by omega) ((Vk 1 rfl).trans (ZZ (by simp only [QN hjl hb,List.take_succ_cons,List.take_zero]<;>rfl))) ⟨j+1,rfl,⟨hjl,?_⟩,rfl⟩
       rw [ye _ b hjl,hd,Bool.false_or]
       simpa [y5] using hb3
   · intro hb2
     try simp only [decide_eq_true_eq,decide_eq_false_iff_not] at hb2
     refine J6 ?_
     refine J9 ?_
     refine Uf ?_
     refine J7 ?_
     refine J5 (J1 ?_)
     refine SA.region ok (by kernel_rfl) [1,9,10,11] ?_
     intro R hR
     simp only [go_sem,QC]
     iterate 2 (refine QE fun R1 hR1=>?_;simp only [go_sem,seval,-List.reduceReplicate,List.length_map,QI,Zh,z3,z4,Int.toNat_natCast,Access.v,Int.natCast_zero];(repeat' with_reducible refine And.intro ?_ ?_);all_goals first|(refine hR1 _ ?_;clear hR1 R1)|omega|rfl|decide|assumption|(intro _;omega)|(simp;done)|(simp;omega))
     refine QJ (hR _ ?_)
     clear hR R
     try simp only [go_sem,Nat.reduceBEq]
     have hlt:i<a.length:=by omega
     refine WE (a.length-(i+1)) _ (by omega) ((Vk 0 rfl).trans (ZZ (by simp only [QN hlt ha,List.take_zero]))) ⟨i+1,rfl,⟨hlt,?_⟩,rfl⟩
     rw [QEa a b hlt,hc,Bool.false_or]
     have:j=b.length:=by omega
     subst this
     simpa using hd
 · intro hb1
   try simp only [decide_eq_true_eq,decide_eq_false_iff_not] at hb1
   refine J6 ?_
   refine J9 ?_
   refine Uf ?_
   refine J7 ?_
   refine J1 (J2 ?_)
   refine SA.region ok (by kernel_rfl) [4] ?_
   intro R hR
   simp only [go_sem,QC]
   iterate 1 (refine QE fun R1 hR1=>?_;simp only [go_sem,seval,-List.reduceReplicate,List.length_map,QI,Zh,z3,z4,Int.toNat_natCast,Access.v,Int.natCast_zero];(repeat' with_reducible refine And.intro ?_ ?_);all_goals first|(refine hR1 _ ?_;clear hR1 R1)|omega|rfl|decide|assumption|(intro _;omega)|(simp;done)|(simp;omega))
   refine QJ (hR _ ?_)
   clear hR R
   try simp only [go_sem,Nat.reduceBEq]
   refine J1 (ZL ?_)
   refine Zv ?_
   simp only [QS,Qn,QW,QM,Y2,Yw,qr,WJ,List.lookup_cons,List.lookup_nil,beq_self_eq_true,forall_const,true_and,and_true]
   refine ⟨rfl,?_⟩
   have:i=a.length:=by omega
   subst this
   rw [List.take_length] at hc
   rw [hc];rfl
theorem zp (e:Event) (he:e.touch.length=6) {σ:St} {K:St→E→Prop} (h:∀ c,K σ (.fs 60 (e.of.map Access.v) c)):CallE Go.Proofs.Tryz.prog tab σ 66 [.fptr 63 e.v] K:=by
 refine CallE.body ok Go.Proofs.Tryz.func66 rfl rfl 13 rfl [.tmp 2] rfl (by simp) ?_
 simp only [enter,Zr,Nat.zero_add,Nat.reduceAdd]
 refine J2 ?_
 refine SA.region ok (by kernel_rfl) [0] ?_
 intro R hR
 simp only [go_sem,QC]
 iterate 1 (refine QE fun R1 hR1=>?_;simp only [go_sem,seval,-List.reduceReplicate,List.length_map,QI,Zh,z3,z4,Int.toNat_natCast,Access.v,Int.natCast_zero];(repeat' with_reducible refine And.intro ?_ ?_);all_goals first|(refine hR1 _ ?_;clear hR1 R1)|omega|rfl|decide|assumption|(intro _;omega)|(simp;done)|(simp;omega))
 refine QJ (hR _ ?_)
 clear hR R
 try simp only [go_sem,Nat.reduceBEq]
 refine J1 (J2 ?_)
 refine SA.regionQ ok Qc (by kernel_rfl) (by kernel_rfl) [2] ?_
 intro R hR
 simp only [go_sem,QC]
 iterate 11 (refine Ys fun R1 hR1=>?_;simp only [go_sem,seval,-List.reduceReplicate,List.length_map,QI,Zh,z3,z4,Int.toNat_natCast,Access.v,Int.natCast_zero];(repeat' with_reducible refine And.intro ?_ ?_);all_goals first|(refine hR1 _ ?_;clear hR1 R1)|omega|rfl|decide|assumption|(intro _;omega)|(simp;done)|(simp;omega))
 refine QCx (hR _ ?_)
 clear hR R
 try simp only [go_sem,Nat.reduceBEq]
 refine J1 (ZL ?_)
 refine xA ?_
 simp only [QS,Qn,QW,QM,Y2,Yw,qr,WJ,List.lookup_cons,List.lookup_nil,beq_self_eq_true,forall_const,true_and,and_true]
 simpa [Event.v,Event.of,List.map_take] using h (decide (max 0 (min 6 e.touches)=6))
theorem YC (a b:Event) (ha:a.touch.length=6) (hb:b.touch.length=6):Ctr Go.Proofs.Tryz.prog tab 32 [63,63] [4] [a.v,b.v] [.bool (ZA a b)]:=by
 refine Ctr.body ok Go.Proofs.Tryz.func32 rfl rfl 8 rfl [.tmp 4] rfl (by simp [QL]) ?_
 simp only [go_sem,Nat.reduceAdd]
 refine J2 ?_
 refine SA.region ok (by kernel_rfl) [2,3] ?_
 intro R hR
 simp only [go_sem,QC]
 iterate 3 (refine QE fun R1 hR1=>?_;simp only [go_sem,seval,-List.reduceReplicate,List.length_map,QI,Zh,z3,z4,Int.toNat_natCast,Access.v,Int.natCast_zero];(repeat' with_reducible refine And.intro ?_ ?_);all_goals first|(refine hR1 _ ?_;clear hR1 R1)|omega|rfl|decide|assumption|(intro _;omega)|(simp;done)|(simp;omega)|(simp [QF,maxLen,YN,Q0,Qz,Qw,Qx]<;>omega))
 refine QJ (hR _ ?_)
 clear hR R
 try simp only [go_sem,Nat.reduceBEq]
 refine J1 (J2 ?_)
 refine Yx ((St.le.frz ok.sized 0 rfl).trans (St.le.frz ok.sized 1 rfl)) ?_
 simp only [St.frz,Tm.frz,E.frz,E.frzL,Obj.frz,List.map_cons,List.map_nil,List.set_cons_zero,List.set_cons_succ,Nat.reduceBEq,Nat.beq_refl,if_true,if_false,Nat.beq_eq_true_eq,reduceCtorEq,Bool.false_eq_true,V.get,Nat.reduceEqDiff]
 refine SA.region ok (by kernel_rfl) [4] ?_
 intro R hR
 simp only [go_sem,QC]
 refine QE fun R1 hR1=>?_
 simp only [go_sem,seval,-List.reduceReplicate,List.length_map,QI,Zh,z3,z4,Int.toNat_natCast,Access.v,Int.natCast_zero]
 repeat' with_reducible refine And.intro ?_ ?_
 all_goals try (first|omega|assumption|(intro _;omega))
 refine ⟨_,_,rfl,.inr (zp a ha fun c1=>?_)⟩
 try simp only [go_sem,seval,-List.reduceReplicate,List.length_map,QI,Zh,z3,z4,Int.toNat_natCast,Access.v,Int.natCast_zero]
 repeat' with_reducible refine And.intro ?_ ?_
 all_goals first|(refine hR1 _ ?_;clear hR1 R1)|omega|rfl|decide|assumption|(intro _;omega)|(simp;done)|(simp;omega)|(simp [QF,maxLen,YN,Q0,Qz,Qw,Qx]<;>omega)
 refine QE fun R1 hR1=>?_
 simp only [go_sem,seval,-List.reduceReplicate,List.length_map,QI,Zh,z3,z4,Int.toNat_natCast,Access.v,Int.natCast_zero]
 repeat' with_reducible refine And.intro ?_ ?_
 all_goals try (first|omega|assumption|(intro _;omega))
 refine ⟨_,_,rfl,.inr (zp b hb fun c2=>?_)⟩
 try simp only [go_sem,seval,-List.reduceReplicate,List.length_map,QI,Zh,z3,z4,Int.toNat_natCast,Access.v,Int.natCast_zero]
 repeat' with_reducible refine And.intro ?_ ?_
 all_goals first|(refine hR1 _ ?_;clear hR1 R1)|omega|rfl|decide|assumption|(intro _;omega)|(simp;done)|(simp;omega)|(simp [QF,maxLen,YN,Q0,Qz,Qw,Qx]<;>omega)
 refine QE fun R1 hR1=>?_
 simp only [go_sem,seval,-List.reduceReplicate,List.length_map,QI,Zh,z3,z4,Int.toNat_natCast,Access.v,Int.natCast_zero]
 repeat' with_reducible refine And.intro ?_ ?_
 all_goals try (first|omega|assumption|(intro _;omega))
 first|refine ⟨_,_,rfl,.inl ⟨_,CallQ.ctr ok (Xs a.of b.of (by have:=a.of_len ha;unfold maxLen;omega) (by have:=b.of_len hb;unfold maxLen;omega)) (by first|rfl|(simp [Q9,Xg,Qf,Yw,Yz,XR,UB,UC,Vo,List.length_map,List.take_of_length_le])) rfl,?_⟩⟩|refine ⟨_,_,rfl,.inl ⟨_,fun hg=>CallQ.ctr ok (Xs a.of b.of (by have:=a.of_len ha;unfold maxLen;omega) (by have:=b.of_len hb;unfold maxLen;omega)) (by first|rfl|(simp [Q9,Xg,Qf,Yw,Yz,XR,UB,UC,Vo,List.length_map,List.take_of_length_le])) rfl,?_⟩⟩
 simp only [go_sem,seval,-List.reduceReplicate,List.length_map,QI,Zh,z3,z4,Int.toNat_natCast,Access.v,Int.natCast_zero]
 repeat' with_reducible refine And.intro ?_ ?_
 all_goals first|(refine hR1 _ ?_;clear hR1 R1)|omega|rfl|decide|assumption|(intro _;omega)|(simp;done)|(simp;omega)|(simp [QF,maxLen,YN,Q0,Qz,Qw,Qx]<;>omega)
 iterate 1 (refine QE fun R1 hR1=>?_;simp only [go_sem,seval,-List.reduceReplicate,List.length_map,QI,Zh,z3,z4,Int.toNat_natCast,Access.v,Int.natCast_zero];(repeat' with_reducible refine And.intro ?_ ?_);all_goals first|(refine hR1 _ ?_;clear hR1 R1)|omega|rfl|decide|assumption|(intro _;omega)|(simp;done)|(simp;omega)|(simp [QF,maxLen,YN,Q0,Qz,Qw,Qx]<;>omega))
 refine QJ (hR _ ?_)
 clear hR R
 try simp only [go_sem,Nat.reduceBEq]
 refine J1 (ZL ?_)
 refine Zv ?_
 simp only [QS,Qn,QW,QM,Y2,Yw,qr,WJ,List.lookup_cons,List.lookup_nil,beq_self_eq_true,forall_const,true_and,and_true]
 exact ⟨rfl,rfl⟩
end Go.Eng.Tryz
namespace Go.Eng.Tryz
open Go.RowKit Go.Eng
set_option maxHeartbeats 0
set_option maxRecDepth 20000
theorem RunOk.all {p:Prg} {l:List Pck} {b:Bud} (h:RunOk p l b):∀ j,j<l.length→Zy QA p b.fuel (start QA p b.fuel).1 l j=true:=fun j hj=>yh QA (by rw [h.stop];exact hj)
theorem RunOk.start {p:Prg} {l:List Pck} {b:Bud} (h:RunOk p l b):Vld p (start QA p b.fuel).1:=Ut ZO h.right (Prg.ok h.right) h.fuel
def ZR (p:Prg) (l:List Pck) (b:Bud) (i:Nat):Event:=Qj QA p b.fuel (start QA p b.fuel).1 l i
theorem RunOk.touch {p:Prg} {l:List Pck} {b:Bud} (h:RunOk p l b) {j:Nat} (hj:j<l.length):(ZR p l b j).touch.length=6:=by
 obtain ⟨v,hv⟩:=zL (apply:=QA) (qZ (h.all j hj)) h.fuel
 unfold ZR Qj
 rw [hv]
 exact vt _
theorem QDN {p:Prg} {l:List Pck} {b:Bud} {j:Nat} (hj:j<l.length):(ZK p l b).getD j default=ZR p l b j:=qz hj
theorem YL (p:Prg) (l:List Pck) (b:Bud):(ZK p l b).length=l.length:=WB ..
theorem Xk {p:Prg} {l:List Pck} {b:Bud} {k:Nat} {d:V} (h:k<l.length):((ZK p l b).map Event.v).getD k d=Event.v (ZR p l b k):=by
 rw [Qt Event.v (ZK p l b) (i:=k) (by rw [YL];exact h),QDN h]
end Go.Eng.Tryz
