/- A part of the proof: walks through the program's functions, and what they compute. -/
import Derived.Test.YtmonhjagbhpbeaaGreatDoorPk24
import Derived.Test.YtmonhjagbhpbeaaGreatDoorPk26
set_option linter.unusedSimpArgs false
set_option linter.unusedVariables false
namespace Go.Eng.Tryz
open Go.RowKit Go.Eng
set_option maxHeartbeats 0
set_option maxRecDepth 20000
theorem xj {f:FuncId} {p:Event→Bool} (l:List Event) (c:Bool) (hl:l.length≤maxLen) (hf:∀ e∈l,Ctr Go.Proofs.Tryz.prog tab f [63] [4] [e.v] [.bool (p e)]) {σ:St} {K:St→E→Prop} (h:K σ (.int .i64 (QER p l))):CallE Go.Proofs.Tryz.prog tab σ 141 [.fs 63 (l.map Event.v) c,.fn f []] K:=by
 refine CallE.body ok Go.Proofs.Tryz.func141 rfl rfl 19 rfl [.tmp 4] rfl (by simp) ?_
 simp only [enter,Zr,Nat.zero_add,Nat.reduceAdd]
 refine J2 ?_
 refine SA.region ok (by kernel_rfl) [0,1] ?_
 intro R hR
 simp only [go_sem,QC]
 iterate 1 (refine QE fun R1 hR1=>?_;simp only [go_sem,seval,-List.reduceReplicate,List.length_map,QI,Zh,z3,z4,Int.toNat_natCast,Int.natCast_zero,Event.v0,Event.v7,Event.v8,Access.v0,Access.v1,Access.v2,QH];(repeat' with_reducible refine And.intro ?_ ?_);all_goals first|(refine hR1 _ ?_;clear hR1 R1)|omega|rfl|decide|assumption|(intro _;omega)|(simp;done)|(simp;omega))
 refine QJ (hR _ ?_)
 clear hR R
 try simp only [go_sem,Nat.reduceBEq]
 refine J1 (J2 ?_)
 refine J2 ?_
 refine SA.region ok (by kernel_rfl) [0,1,7,8] ?_
 intro R hR
 simp only [go_sem,QC]
 iterate 3 (refine QE fun R1 hR1=>?_;simp only [go_sem,seval,-List.reduceReplicate,List.length_map,QI,Zh,z3,z4,Int.toNat_natCast,Int.natCast_zero,Event.v0,Event.v7,Event.v8,Access.v0,Access.v1,Access.v2,QH];(repeat' with_reducible refine And.intro ?_ ?_);all_goals first|(refine hR1 _ ?_;clear hR1 R1)|omega|rfl|decide|assumption|(intro _;omega)|(simp;done)|(simp;omega)|(simp [QF,maxLen,YN,Q0,Qz,Qw,Qx]<;>omega))
 refine QJ (hR _ ?_)
 clear hR R
 try simp only [go_sem,Nat.reduceBEq]
 refine J1 (J4 ?_)
 refine Yx (ZZ (by first|rfl|(simp;done)|fail)) (Wo (fun n τ=>∃ (i:Nat),n=l.length-i∧(i≤l.length∧(l.take i).any p=false)∧τ={ tm:=[(0,true,.fs 63 (l.map Event.v) c),(1,true,.fn f []),(7,true,.int .i64 l.length),(8,true,.int .i64 i)],ob:=σ.ob,out:=σ.tm::σ.out,nt:=19 }) (l.length) ⟨0,rfl,⟨Nat.zero_le _,rfl⟩,rfl⟩ ?_)
 rintro n τ ⟨i,hn,⟨hi,hc⟩,rfl⟩
 refine J2 ?_
 refine SA.region ok (by kernel_rfl) [0,1,7,8,9] ?_
 intro R hR
 simp only [go_sem,QC]
 iterate 1 (refine QE fun R1 hR1=>?_;simp only [go_sem,seval,-List.reduceReplicate,List.length_map,QI,Zh,z3,z4,Int.toNat_natCast,Int.natCast_zero,Event.v0,Event.v7,Event.v8,Access.v0,Access.v1,Access.v2,QH];(repeat' with_reducible refine And.intro ?_ ?_);all_goals first|(refine hR1 _ ?_;clear hR1 R1)|omega|rfl|decide|assumption|(intro _;omega)|(simp;done)|(simp;omega))
 refine QJ (hR _ ?_)
 clear hR R
 try simp only [go_sem,Nat.reduceBEq]
 refine J1 (J2 ?_)
 refine SA.cond rfl ?_ ?_
 · intro hb1
   try simp only [decide_eq_true_eq,decide_eq_false_iff_not] at hb1
   refine J3 ?_
   refine J1 (J2 ?_)
   refine J4 ?_
   refine J2 ?_
   refine SA.region ok (by kernel_rfl) [0,1,5,7,8] ?_
   intro R hR
   simp only [go_sem,QC]
   iterate 2 (refine QE fun R1 hR1=>?_;simp only [go_sem,seval,-List.reduceReplicate,List.length_map,QI,Zh,z3,z4,Int.toNat_natCast,Int.natCast_zero,Event.v0,Event.v7,Event.v8,Access.v0,Access.v1,Access.v2,QH];(repeat' with_reducible refine And.intro ?_ ?_);all_goals first|(refine hR1 _ ?_;clear hR1 R1)|omega|rfl|decide|assumption|(intro _;omega)|(simp;done)|(simp;omega))
   refine QJ (hR _ ?_)
   clear hR R
   try simp only [go_sem,Nat.reduceBEq]
   refine J1 (J2 ?_)
   refine SA.region ok (by kernel_rfl) [0,1,5,7,8,16] ?_
   intro R hR
   simp only [go_sem,QC]
   iterate 4 (refine QE fun R1 hR1=>?_;simp only [go_sem,seval,-List.reduceReplicate,List.length_map,QI,Zh,z3,z4,Int.toNat_natCast,Int.natCast_zero,Event.v0,Event.v7,Event.v8,Access.v0,Access.v1,Access.v2,QH];(repeat' with_reducible refine And.intro ?_ ?_);all_goals first|(refine hR1 _ ?_;clear hR1 R1)|omega|rfl|decide|assumption|(intro _;omega)|(simp;done)|(simp;omega)|(simp [QF,maxLen,YN,Q0,Qz,Qw,Qx]<;>omega))
   refine QE fun R1 hR1=>?_
   simp only [go_sem,seval,-List.reduceReplicate,List.length_map,QI,Zh,z3,z4,Int.toNat_natCast,Int.natCast_zero,Event.v0,Event.v7,Event.v8,Access.v0,Access.v1,Access.v2,QH]
   repeat' with_reducible refine And.intro ?_ ?_
   all_goals first|(refine hR1 _ ?_;clear hR1 R1)|omega|rfl|decide|assumption|(intro _;omega)|(simp;done)|(simp;omega)|(simp [QF,maxLen,YN,Q0,Qz,Qw,Qx]<;>omega)
   have hlt:i<l.length:=by omega
   rw [Qt Event.v l hlt]
   refine QE fun R1 hR1=>?_
   simp only [go_sem,seval,-List.reduceReplicate,List.length_map,QI,Zh,z3,z4,Int.toNat_natCast,Int.natCast_zero,Event.v0,Event.v7,Event.v8,Access.v0,Access.v1,Access.v2,QH]
   repeat' with_reducible refine And.intro ?_ ?_
   all_goals try (first|omega|assumption|(intro _;omega))
   first|refine ⟨_,_,rfl,.inl ⟨_,CallQ.ctr ok (hf _ (Q8 l hlt)) (by first|rfl|(simp [Q9,Xg,Qf,Yw,Yz,XR,UB,UC,Vo,List.length_map,List.take_of_length_le])) rfl,?_⟩⟩|refine ⟨_,_,rfl,.inl ⟨_,fun hg=>CallQ.ctr ok (hf _ (Q8 l hlt)) (by first|rfl|(simp [Q9,Xg,Qf,Yw,Yz,XR,UB,UC,Vo,List.length_map,List.take_of_length_le])) rfl,?_⟩⟩
   simp only [go_sem,seval,-List.reduceReplicate,List.length_map,QI,Zh,z3,z4,Int.toNat_natCast,Int.natCast_zero,Event.v0,Event.v7,Event.v8,Access.v0,Access.v1,Access.v2,QH]
   repeat' with_reducible refine And.intro ?_ ?_
   all_goals first|(refine hR1 _ ?_;clear hR1 R1)|omega|rfl|decide|assumption|(intro _;omega)|(simp;done)|(simp;omega)|(simp [QF,maxLen,YN,Q0,Qz,Qw,Qx]<;>omega)
   refine QJ (hR _ ?_)
   clear hR R
   try simp only [go_sem,Nat.reduceBEq]
   refine J1 ?_
   refine SA.cond rfl ?_ ?_
   · intro hb2
     try simp only [decide_eq_true_eq,decide_eq_false_iff_not] at hb2
     refine J2 ?_
     refine SA.region ok (by kernel_rfl) [4] ?_
     intro R hR
     simp only [go_sem,QC]
     iterate 2 (refine QE fun R1 hR1=>?_;simp only [go_sem,seval,-List.reduceReplicate,List.length_map,QI,Zh,z3,z4,Int.toNat_natCast,Int.natCast_zero,Event.v0,Event.v7,Event.v8,Access.v0,Access.v1,Access.v2,QH];(repeat' with_reducible refine And.intro ?_ ?_);all_goals first|(refine hR1 _ ?_;clear hR1 R1)|omega|rfl|decide|assumption|(intro _;omega)|(simp;done)|(simp;omega))
     refine QJ (hR _ ?_)
     clear hR R
     try simp only [go_sem,Nat.reduceBEq]
     refine J1 (ZL ?_)
     refine Y3 ?_
     refine ZS ?_
     refine V7 ?_
     refine Y3 ?_
     refine ZS ?_
     refine xA ?_
     simp only [QS,Qn,QW,QM,Y2,Yw,qr,WJ,List.lookup_cons,List.lookup_nil,beq_self_eq_true,forall_const,true_and,and_true]
     have hlt:i<l.length:=by omega
     rw [QIn hlt hc hb2] at h
     exact h
   · intro hb2
     try simp only [decide_eq_true_eq,decide_eq_false_iff_not] at hb2
     refine J3 ?_
     refine J5 (J1 ?_)
     refine SA.region ok (by kernel_rfl) [0,1,7,8] ?_
     intro R hR
     simp only [go_sem,QC]
     iterate 2 (refine QE fun R1 hR1=>?_;simp only [go_sem,seval,-List.reduceReplicate,List.length_map,QI,Zh,z3,z4,Int.toNat_natCast,Int.natCast_zero,Event.v0,Event.v7,Event.v8,Access.v0,Access.v1,Access.v2,QH];(repeat' with_reducible refine And.intro ?_ ?_);all_goals first|(refine hR1 _ ?_;clear hR1 R1)|omega|rfl|decide|assumption|(intro _;omega)|(simp;done)|(simp;omega))
     refine QJ (hR _ ?_)
     clear hR R
     try simp only [go_sem,Nat.reduceBEq]
     have hlt:i<l.length:=by omega
     refine WE (l.length-(i+1)) _ (by omega) (ZZ (by simp only [QN hlt hl])) ⟨i+1,rfl,⟨hlt,?_⟩,rfl⟩
     rw [ye _ l hlt,hc,hb2];rfl
 · intro hb1
   try simp only [decide_eq_true_eq,decide_eq_false_iff_not] at hb1
   refine J6 ?_
   refine J9 ?_
   refine Uf ?_
   refine J7 ?_
   refine J1 (J2 ?_)
   refine SA.region ok (by kernel_rfl) [4] ?_
   intro R hR
   simp only [go_sem,QC]
   iterate 1 (refine QE fun R1 hR1=>?_;simp only [go_sem,seval,-List.reduceReplicate,List.length_map,QI,Zh,z3,z4,Int.toNat_natCast,Int.natCast_zero,Event.v0,Event.v7,Event.v8,Access.v0,Access.v1,Access.v2,QH];(repeat' with_reducible refine And.intro ?_ ?_);all_goals first|(refine hR1 _ ?_;clear hR1 R1)|omega|rfl|decide|assumption|(intro _;omega)|(simp;done)|(simp;omega))
   refine QJ (hR _ ?_)
   clear hR R
   try simp only [go_sem,Nat.reduceBEq]
   refine J1 (ZL ?_)
   refine xA ?_
   simp only [QS,Qn,QW,QM,Y2,Yw,qr,WJ,List.lookup_cons,List.lookup_nil,beq_self_eq_true,forall_const,true_and,and_true]
   have:i=l.length:=by omega
   subst this
   rw [List.take_length] at hc
   rw [QGd hc] at h
   exact h
theorem zb {f:FuncId} {p:Event→Bool} (l:List Event) (c:Bool) (hl:l.length≤maxLen) (hf:∀ e∈l,Ctr Go.Proofs.Tryz.prog tab f [63] [4] [e.v] [.bool (p e)]) {σ:St} {K:St→E→Prop} (h:K σ (.bool (l.any p))):CallE Go.Proofs.Tryz.prog tab σ 100 [.fs 63 (l.map Event.v) c,.fn f []] K:=by
 refine CallE.body ok Go.Proofs.Tryz.func100 rfl rfl 9 rfl [.tmp 4] rfl (by simp) ?_
 simp only [enter,Zr,Nat.zero_add,Nat.reduceAdd]
 refine J2 ?_
 refine SA.region ok (by kernel_rfl) [0,1] ?_
 intro R hR
 simp only [go_sem,QC]
 iterate 1 (refine QE fun R1 hR1=>?_;simp only [go_sem,seval,-List.reduceReplicate,List.length_map,QI,Zh,z3,z4,Int.toNat_natCast,Int.natCast_zero,Event.v0,Event.v7,Event.v8,Access.v0,Access.v1,Access.v2,QH];(repeat' with_reducible refine And.intro ?_ ?_);all_goals first|(refine hR1 _ ?_;clear hR1 R1)|omega|rfl|decide|assumption|(intro _;omega)|(simp;done)|(simp;omega))
 refine QJ (hR _ ?_)
 clear hR R
 try simp only [go_sem,Nat.reduceBEq]
 refine J1 (J2 ?_)
 refine SA.region ok (by kernel_rfl) [4] ?_
 intro R hR
 simp only [go_sem,QC]
 iterate 2 (refine QE fun R1 hR1=>?_;simp only [go_sem,seval,-List.reduceReplicate,List.length_map,QI,Zh,z3,z4,Int.toNat_natCast,Int.natCast_zero,Event.v0,Event.v7,Event.v8,Access.v0,Access.v1,Access.v2,QH];(repeat' with_reducible refine And.intro ?_ ?_);all_goals first|(refine hR1 _ ?_;clear hR1 R1)|omega|rfl|decide|assumption|(intro _;omega)|(simp;done)|(simp;omega)|(simp [QF,maxLen,YN,Q0,Qz,Qw,Qx]<;>omega))
 refine QE fun R1 hR1=>?_
 simp only [go_sem,seval,-List.reduceReplicate,List.length_map,QI,Zh,z3,z4,Int.toNat_natCast,Int.natCast_zero,Event.v0,Event.v7,Event.v8,Access.v0,Access.v1,Access.v2,QH]
 repeat' with_reducible refine And.intro ?_ ?_
 all_goals try (first|omega|assumption|(intro _;omega))
 refine ⟨_,_,rfl,.inr (xj l c hl hf ?_)⟩
 try simp only [go_sem,seval,-List.reduceReplicate,List.length_map,QI,Zh,z3,z4,Int.toNat_natCast,Int.natCast_zero,Event.v0,Event.v7,Event.v8,Access.v0,Access.v1,Access.v2,QH]
 repeat' with_reducible refine And.intro ?_ ?_
 all_goals first|(refine hR1 _ ?_;clear hR1 R1)|omega|rfl|decide|assumption|(intro _;omega)|(simp;done)|(simp;omega)|(simp [QF,maxLen,YN,Q0,Qz,Qw,Qx]<;>omega)
 iterate 2 (refine QE fun R1 hR1=>?_;simp only [go_sem,seval,-List.reduceReplicate,List.length_map,QI,Zh,z3,z4,Int.toNat_natCast,Int.natCast_zero,Event.v0,Event.v7,Event.v8,Access.v0,Access.v1,Access.v2,QH];(repeat' with_reducible refine And.intro ?_ ?_);all_goals first|(refine hR1 _ ?_;clear hR1 R1)|omega|rfl|decide|assumption|(intro _;omega)|(simp;done)|(simp;omega)|(simp [QF,maxLen,YN,Q0,Qz,Qw,Qx]<;>omega))
 refine QJ (hR _ ?_)
 clear hR R
 try simp only [go_sem,Nat.reduceBEq]
 refine J1 (ZL ?_)
 refine xA ?_
 simp only [QS,Qn,QW,QM,Y2,Yw,qr,WJ,List.lookup_cons,List.lookup_nil,beq_self_eq_true,forall_const,true_and,and_true]
 rw [QKG]
 exact h
theorem vB (t:List Event) (ht:t.length≤maxLen) (h6:∀ e∈t,e.touch.length=6):Ctr Go.Proofs.Tryz.prog tab 62 [36] [30] [.list (t.map Event.v)] [.int (vJ t)]:=by
 refine Ctr.body ok Go.Proofs.Tryz.func62 rfl rfl 8 rfl [.tmp 2] rfl (by simp [QL]) ?_
 simp only [go_sem,Nat.reduceAdd]
 refine J2 ?_
 refine SA.region ok (by kernel_rfl) [0] ?_
 intro R hR
 simp only [go_sem,QC]
 iterate 1 (refine QE fun R1 hR1=>?_;simp only [go_sem,seval,-List.reduceReplicate,List.length_map,QI,Zh,z3,z4,Int.toNat_natCast,Int.natCast_zero,Event.v0,Event.v7,Event.v8,Access.v0,Access.v1,Access.v2,QH];(repeat' with_reducible refine And.intro ?_ ?_);all_goals first|(refine hR1 _ ?_;clear hR1 R1)|omega|rfl|decide|assumption|(intro _;omega)|(simp;done)|(simp;omega))
 refine QJ (hR _ ?_)
 clear hR R
 try simp only [go_sem,Nat.reduceBEq]
 refine J1 (J2 ?_)
 refine J2 ?_
 refine SA.region ok (by kernel_rfl) [0,5] ?_
 intro R hR
 simp only [go_sem,QC]
 iterate 3 (refine QE fun R1 hR1=>?_;simp only [go_sem,seval,-List.reduceReplicate,List.length_map,QI,Zh,z3,z4,Int.toNat_natCast,Int.natCast_zero,Event.v0,Event.v7,Event.v8,Access.v0,Access.v1,Access.v2,QH];(repeat' with_reducible refine And.intro ?_ ?_);all_goals first|(refine hR1 _ ?_;clear hR1 R1)|omega|rfl|decide|assumption|(intro _;omega)|(simp;done)|(simp;omega)|(simp [QF,maxLen,YN,Q0,Qz,Qw,Qx]<;>omega))
 refine QJ (hR _ ?_)
 clear hR R
 try simp only [go_sem,Nat.reduceBEq]
 refine J1 ?_
 refine SA.cond rfl ?_ ?_
 · intro hb1
   simp at hb1
   refine J2 ?_
   refine SA.region ok (by kernel_rfl) [2] ?_
   intro R hR
   simp only [go_sem,QC]
   iterate 1 (refine QE fun R1 hR1=>?_;simp only [go_sem,seval,-List.reduceReplicate,List.length_map,QI,Zh,z3,z4,Int.toNat_natCast,Int.natCast_zero,Event.v0,Event.v7,Event.v8,Access.v0,Access.v1,Access.v2,QH];(repeat' with_reducible refine And.intro ?_ ?_);all_goals first|(refine hR1 _ ?_;clear hR1 R1)|omega|rfl|decide|assumption|(intro _;omega)|(simp;done)|(simp;omega))
   refine QJ (hR _ ?_)
   clear hR R
   try simp only [go_sem,Nat.reduceBEq]
   refine J1 (ZL ?_)
   refine ZS ?_
   refine Zv ?_
   simp only [QS,Qn,QW,QM,Y2,Yw,qr,WJ,List.lookup_cons,List.lookup_nil,beq_self_eq_true,forall_const,true_and,and_true]
   refine ⟨rfl,?_⟩
   have:vJ t=2:=if_pos (by omega)
   rw [this];rfl
 · intro hb1
   simp at hb1
   refine J3 ?_
   refine J1 (J2 ?_)
   refine J2 ?_
   refine SA.region ok (by kernel_rfl) [7] ?_
   intro R hR
   simp only [go_sem,QC]
   iterate 1 (refine QE fun R1 hR1=>?_;simp only [go_sem,seval,-List.reduceReplicate,List.length_map,QI,Zh,z3,z4,Int.toNat_natCast,Int.natCast_zero,Event.v0,Event.v7,Event.v8,Access.v0,Access.v1,Access.v2,QH];(repeat' with_reducible refine And.intro ?_ ?_);all_goals first|(refine hR1 _ ?_;clear hR1 R1)|omega|rfl|decide|assumption|(intro _;omega)|(simp;done)|(simp;omega)|(simp [QF,maxLen,YN,Q0,Qz,Qw,Qx]<;>omega))
   refine QE fun R1 hR1=>?_
   simp only [go_sem,seval,-List.reduceReplicate,List.length_map,QI,Zh,z3,z4,Int.toNat_natCast,Int.natCast_zero,Event.v0,Event.v7,Event.v8,Access.v0,Access.v1,Access.v2,QH]
   repeat' with_reducible refine And.intro ?_ ?_
   all_goals try (first|omega|assumption|(intro _;omega))
   refine ⟨_,_,rfl,.inr (zb (p:=fun e=>!right e) t false ht (fun e he=>QDW e (h6 e he)) ?_)⟩
   try simp only [go_sem,seval,-List.reduceReplicate,List.length_map,QI,Zh,z3,z4,Int.toNat_natCast,Int.natCast_zero,Event.v0,Event.v7,Event.v8,Access.v0,Access.v1,Access.v2,QH]
   repeat' with_reducible refine And.intro ?_ ?_
   all_goals first|(refine hR1 _ ?_;clear hR1 R1)|omega|rfl|decide|assumption|(intro _;omega)|(simp;done)|(simp;omega)|(simp [QF,maxLen,YN,Q0,Qz,Qw,Qx]<;>omega)
   refine QJ (hR _ ?_)
   clear hR R
   try simp only [go_sem,Nat.reduceBEq]
   refine J1 ?_
   refine SA.cond rfl ?_ ?_
   · intro hb2
     simp at hb2
     refine J2 ?_
     refine SA.region ok (by kernel_rfl) [2] ?_
     intro R hR
     simp only [go_sem,QC]
     iterate 1 (refine QE fun R1 hR1=>?_;simp only [go_sem,seval,-List.reduceReplicate,List.length_map,QI,Zh,z3,z4,Int.toNat_natCast,Int.natCast_zero,Event.v0,Event.v7,Event.v8,Access.v0,Access.v1,Access.v2,QH];(repeat' with_reducible refine And.intro ?_ ?_);all_goals first|(refine hR1 _ ?_;clear hR1 R1)|omega|rfl|decide|assumption|(intro _;omega)|(simp;done)|(simp;omega))
     refine QJ (hR _ ?_)
     clear hR R
     try simp only [go_sem,Nat.reduceBEq]
     refine J1 (ZL ?_)
     refine ZS ?_
     refine Zv ?_
     simp only [QS,Qn,QW,QM,Y2,Yw,qr,WJ,List.lookup_cons,List.lookup_nil,beq_self_eq_true,forall_const,true_and,and_true]
     refine ⟨rfl,?_⟩
     have:t.all right=false:=by simpa using hb2
     have:vJ t=7:=by unfold vJ;rw [if_neg (by omega),this];rfl
     rw [this];rfl
   · intro hb2
     simp at hb2
     refine J3 ?_
     refine J1 (J2 ?_)
     refine SA.region ok (by kernel_rfl) [2] ?_
     intro R hR
     simp only [go_sem,QC]
     iterate 1 (refine QE fun R1 hR1=>?_;simp only [go_sem,seval,-List.reduceReplicate,List.length_map,QI,Zh,z3,z4,Int.toNat_natCast,Int.natCast_zero,Event.v0,Event.v7,Event.v8,Access.v0,Access.v1,Access.v2,QH];(repeat' with_reducible refine And.intro ?_ ?_);all_goals first|(refine hR1 _ ?_;clear hR1 R1)|omega|rfl|decide|assumption|(intro _;omega)|(simp;done)|(simp;omega))
     refine QJ (hR _ ?_)
     clear hR R
     try simp only [go_sem,Nat.reduceBEq]
     refine J1 (ZL ?_)
     refine Zv ?_
     simp only [QS,Qn,QW,QM,Y2,Yw,qr,WJ,List.lookup_cons,List.lookup_nil,beq_self_eq_true,forall_const,true_and,and_true]
     refine ⟨rfl,?_⟩
     have:t.all right=true:=by simpa using hb2
     have:vJ t=0:=by unfold vJ;rw [if_neg (by omega),this];rfl
     rw [this];rfl
end Go.Eng.Tryz
namespace Go.Eng.Tryz
open Go.RowKit Go.Eng
set_option maxHeartbeats 0
set_option maxRecDepth 20000
theorem Qv:Ctr Go.Proofs.Tryz.prog tab 27 [] [4] [] [.bool true]:=by
 refine Ctr.body ok Go.Proofs.Tryz.func27 rfl rfl 27 rfl [.tmp 0] rfl (by simp [QL]) ?_
 simp only [go_sem,Nat.reduceAdd]
 refine J2 ?_
 refine SA.region ok (by kernel_rfl) [] ?_
 intro R hR
 simp only [go_sem,QC]
 iterate 1 (refine QE fun R1 hR1=>?_;simp only [go_sem,seval,-List.reduceReplicate,XS,z63,XT,z61,List.length_map,QI,Zh,z3,z4,Int.toNat_natCast,Int.natCast_zero,Event.v0,Event.v7,Event.v8,Access.v0,Access.v1,Access.v2,QH];(repeat' with_reducible refine And.intro ?_ ?_);all_goals first|(refine hR1 _ ?_;clear hR1 R1)|omega|rfl|decide|assumption|(intro _;omega)|(simp;done)|(simp;omega))
 refine QJ (hR _ ?_)
 clear hR R
 try simp only [go_sem,Nat.reduceBEq]
 refine J1 (J2 ?_)
 refine SA.region ok (by kernel_rfl) [1] ?_
 intro R hR
 simp only [go_sem,QC]
 iterate 3 (refine QE fun R1 hR1=>?_;simp only [go_sem,seval,-List.reduceReplicate,XS,z63,XT,z61,List.length_map,QI,Zh,z3,z4,Int.toNat_natCast,Int.natCast_zero,Event.v0,Event.v7,Event.v8,Access.v0,Access.v1,Access.v2,QH];(repeat' with_reducible refine And.intro ?_ ?_);all_goals first|(refine hR1 _ ?_;clear hR1 R1)|omega|rfl|decide|assumption|(intro _;omega)|(simp;done)|(simp;omega)|(simp [QF,maxLen,YN,Q0,Qz,Qw,Qx]<;>omega))
 refine QJ (hR _ ?_)
 clear hR R
 try simp only [go_sem,Nat.reduceBEq]
 refine J1 (J2 ?_)
 refine SA.region ok (by kernel_rfl) [1,2] ?_
 intro R hR
 simp only [go_sem,QC]
 iterate 3 (refine QE fun R1 hR1=>?_;simp only [go_sem,seval,-List.reduceReplicate,XS,z63,XT,z61,List.length_map,QI,Zh,z3,z4,Int.toNat_natCast,Int.natCast_zero,Event.v0,Event.v7,Event.v8,Access.v0,Access.v1,Access.v2,QH];(repeat' with_reducible refine And.intro ?_ ?_);all_goals first|(refine hR1 _ ?_;clear hR1 R1)|omega|rfl|decide|assumption|(intro _;omega)|(simp;done)|(simp;omega)|(simp [QF,maxLen,YN,Q0,Qz,Qw,Qx]<;>omega))
 refine QJ (hR _ ?_)
 clear hR R
 try simp only [go_sem,Nat.reduceBEq]
 refine J1 (J2 ?_)
 refine SA.region ok (by kernel_rfl) [0] ?_
 intro R hR
 simp only [go_sem,QC]
 iterate 2 (refine QE fun R1 hR1=>?_;simp only [go_sem,seval,-List.reduceReplicate,XS,z63,XT,z61,List.length_map,QI,Zh,z3,z4,Int.toNat_natCast,Int.natCast_zero,Event.v0,Event.v7,Event.v8,Access.v0,Access.v1,Access.v2,QH];(repeat' with_reducible refine And.intro ?_ ?_);all_goals first|(refine hR1 _ ?_;clear hR1 R1)|omega|rfl|decide|assumption|(intro _;omega)|(simp;done)|(simp;omega)|(simp [QF,maxLen,YN,Q0,Qz,Qw,Qx]<;>omega))
 refine QE fun R1 hR1=>?_
 simp only [go_sem,seval,-List.reduceReplicate,XS,z63,XT,z61,List.length_map,QI,Zh,z3,z4,Int.toNat_natCast,Int.natCast_zero,Event.v0,Event.v7,Event.v8,Access.v0,Access.v1,Access.v2,QH]
 repeat' with_reducible refine And.intro ?_ ?_
 all_goals try (first|omega|assumption|(intro _;omega))
 first|refine ⟨_,_,rfl,.inl ⟨_,CallQ.ctr ok (Xs [(⟨1,0,false⟩:Access)] [(⟨1,0,true⟩:Access)] (by decide) (by decide)) (by first|rfl|(simp [Q9,Xg,Qf,Yw,Yz,XR,UB,UC,Vo,List.length_map,List.take_of_length_le])) rfl,?_⟩⟩|refine ⟨_,_,rfl,.inl ⟨_,fun hg=>CallQ.ctr ok (Xs [(⟨1,0,false⟩:Access)] [(⟨1,0,true⟩:Access)] (by decide) (by decide)) (by first|rfl|(simp [Q9,Xg,Qf,Yw,Yz,XR,UB,UC,Vo,List.length_map,List.take_of_length_le])) rfl,?_⟩⟩
 simp only [go_sem,seval,-List.reduceReplicate,XS,z63,XT,z61,List.length_map,QI,Zh,z3,z4,Int.toNat_natCast,Int.natCast_zero,Event.v0,Event.v7,Event.v8,Access.v0,Access.v1,Access.v2,QH]
 repeat' with_reducible refine And.intro ?_ ?_
 all_goals first|(refine hR1 _ ?_;clear hR1 R1)|omega|rfl|decide|assumption|(intro _;omega)|(simp;done)|(simp;omega)|(simp [QF,maxLen,YN,Q0,Qz,Qw,Qx]<;>omega)
 rw [show yZ [(⟨1,0,false⟩:Access)] [(⟨1,0,true⟩:Access)]=true from rfl]
 iterate 3 (refine QE fun R1 hR1=>?_;simp only [go_sem,seval,-List.reduceReplicate,XS,z63,XT,z61,List.length_map,QI,Zh,z3,z4,Int.toNat_natCast,Int.natCast_zero,Event.v0,Event.v7,Event.v8,Access.v0,Access.v1,Access.v2,QH];(repeat' with_reducible refine And.intro ?_ ?_);all_goals first|(refine hR1 _ ?_;clear hR1 R1)|omega|rfl|decide|assumption|(intro _;omega)|(simp;done)|(simp;omega)|(simp [QF,maxLen,YN,Q0,Qz,Qw,Qx]<;>omega))
 refine QE fun R1 hR1=>?_
 simp only [go_sem,seval,-List.reduceReplicate,XS,z63,XT,z61,List.length_map,QI,Zh,z3,z4,Int.toNat_natCast,Int.natCast_zero,Event.v0,Event.v7,Event.v8,Access.v0,Access.v1,Access.v2,QH]
 repeat' with_reducible refine And.intro ?_ ?_
 all_goals try (first|omega|assumption|(intro _;omega))
 first|refine ⟨_,_,rfl,.inl ⟨_,CallQ.ctr ok (Xs [(⟨1,0,true⟩:Access)] [(⟨1,0,true⟩:Access)] (by decide) (by decide)) (by first|rfl|(simp [Q9,Xg,Qf,Yw,Yz,XR,UB,UC,Vo,List.length_map,List.take_of_length_le])) rfl,?_⟩⟩|refine ⟨_,_,rfl,.inl ⟨_,fun hg=>CallQ.ctr ok (Xs [(⟨1,0,true⟩:Access)] [(⟨1,0,true⟩:Access)] (by decide) (by decide)) (by first|rfl|(simp [Q9,Xg,Qf,Yw,Yz,XR,UB,UC,Vo,List.length_map,List.take_of_length_le])) rfl,?_⟩⟩
 simp only [go_sem,seval,-List.reduceReplicate,XS,z63,XT,z61,List.length_map,QI,Zh,z3,z4,Int.toNat_natCast,Int.natCast_zero,Event.v0,Event.v7,Event.v8,Access.v0,Access.v1,Access.v2,QH]
 repeat' with_reducible refine And.intro ?_ ?_
 all_goals first|(refine hR1 _ ?_;clear hR1 R1)|omega|rfl|decide|assumption|(intro _;omega)|(simp;done)|(simp;omega)|(simp [QF,maxLen,YN,Q0,Qz,Qw,Qx]<;>omega)
 rw [show yZ [(⟨1,0,true⟩:Access)] [(⟨1,0,true⟩:Access)]=true from rfl]
 iterate 4 (refine QE fun R1 hR1=>?_;simp only [go_sem,seval,-List.reduceReplicate,XS,z63,XT,z61,List.length_map,QI,Zh,z3,z4,Int.toNat_natCast,Int.natCast_zero,Event.v0,Event.v7,Event.v8,Access.v0,Access.v1,Access.v2,QH];(repeat' with_reducible refine And.intro ?_ ?_);all_goals first|(refine hR1 _ ?_;clear hR1 R1)|omega|rfl|decide|assumption|(intro _;omega)|(simp;done)|(simp;omega)|(simp [QF,maxLen,YN,Q0,Qz,Qw,Qx]<;>omega))
 refine QE fun R1 hR1=>?_
 simp only [go_sem,seval,-List.reduceReplicate,XS,z63,XT,z61,List.length_map,QI,Zh,z3,z4,Int.toNat_natCast,Int.natCast_zero,Event.v0,Event.v7,Event.v8,Access.v0,Access.v1,Access.v2,QH]
 repeat' with_reducible refine And.intro ?_ ?_
 all_goals try (first|omega|assumption|(intro _;omega))
 first|refine ⟨_,_,rfl,.inl ⟨_,CallQ.ctr ok (Xs [(⟨1,0,false⟩:Access)] [(⟨1,0,false⟩:Access)] (by decide) (by decide)) (by first|rfl|(simp [Q9,Xg,Qf,Yw,Yz,XR,UB,UC,Vo,List.length_map,List.take_of_length_le])) rfl,?_⟩⟩|refine ⟨_,_,rfl,.inl ⟨_,fun hg=>CallQ.ctr ok (Xs [(⟨1,0,false⟩:Access)] [(⟨1,0,false⟩:Access)] (by decide) (by decide)) (by first|rfl|(simp [Q9,Xg,Qf,Yw,Yz,XR,UB,UC,Vo,List.length_map,List.take_of_length_le])) rfl,?_⟩⟩
 simp only [go_sem,seval,-List.reduceReplicate,XS,z63,XT,z61,List.length_map,QI,Zh,z3,z4,Int.toNat_natCast,Int.natCast_zero,Event.v0,Event.v7,Event.v8,Access.v0,Access.v1,Access.v2,QH]
 repeat' with_reducible refine And.intro ?_ ?_
 all_goals first|(refine hR1 _ ?_;clear hR1 R1)|omega|rfl|decide|assumption|(intro _;omega)|(simp;done)|(simp;omega)|(simp [QF,maxLen,YN,Q0,Qz,Qw,Qx]<;>omega)
 rw [show yZ [(⟨1,0,false⟩:Access)] [(⟨1,0,false⟩:Access)]=false from rfl]
 iterate 5 (refine QE fun R1 hR1=>?_;simp only [go_sem,seval,-List.reduceReplicate,XS,z63,XT,z61,List.length_map,QI,Zh,z3,z4,Int.toNat_natCast,Int.natCast_zero,Event.v0,Event.v7,Event.v8,Access.v0,Access.v1,Access.v2,QH];(repeat' with_reducible refine And.intro ?_ ?_);all_goals first|(refine hR1 _ ?_;clear hR1 R1)|omega|rfl|decide|assumption|(intro _;omega)|(simp;done)|(simp;omega)|(simp [QF,maxLen,YN,Q0,Qz,Qw,Qx]<;>omega))
 refine QE fun R1 hR1=>?_
 simp only [go_sem,seval,-List.reduceReplicate,XS,z63,XT,z61,List.length_map,QI,Zh,z3,z4,Int.toNat_natCast,Int.natCast_zero,Event.v0,Event.v7,Event.v8,Access.v0,Access.v1,Access.v2,QH]
 repeat' with_reducible refine And.intro ?_ ?_
 all_goals try (first|omega|assumption|(intro _;omega))
 first|refine ⟨_,_,rfl,.inl ⟨_,CallQ.ctr ok (vB [(⟨0,0,0,0,0,0,0,[⟨0,0,false⟩,⟨0,0,false⟩,⟨0,0,false⟩,⟨0,0,false⟩,⟨0,0,false⟩,⟨0,0,false⟩],0⟩:Event)] (by decide) (by decide)) (by first|rfl|(simp [Q9,Xg,Qf,Yw,Yz,XR,UB,UC,Vo,List.length_map,List.take_of_length_le])) rfl,?_⟩⟩|refine ⟨_,_,rfl,.inl ⟨_,fun hg=>CallQ.ctr ok (vB [(⟨0,0,0,0,0,0,0,[⟨0,0,false⟩,⟨0,0,false⟩,⟨0,0,false⟩,⟨0,0,false⟩,⟨0,0,false⟩,⟨0,0,false⟩],0⟩:Event)] (by decide) (by decide)) (by first|rfl|(simp [Q9,Xg,Qf,Yw,Yz,XR,UB,UC,Vo,List.length_map,List.take_of_length_le])) rfl,?_⟩⟩
 simp only [go_sem,seval,-List.reduceReplicate,XS,z63,XT,z61,List.length_map,QI,Zh,z3,z4,Int.toNat_natCast,Int.natCast_zero,Event.v0,Event.v7,Event.v8,Access.v0,Access.v1,Access.v2,QH]
 repeat' with_reducible refine And.intro ?_ ?_
 all_goals first|(refine hR1 _ ?_;clear hR1 R1)|omega|rfl|decide|assumption|(intro _;omega)|(simp;done)|(simp;omega)|(simp [QF,maxLen,YN,Q0,Qz,Qw,Qx]<;>omega)
 rw [show vJ [(⟨0,0,0,0,0,0,0,[⟨0,0,false⟩,⟨0,0,false⟩,⟨0,0,false⟩,⟨0,0,false⟩,⟨0,0,false⟩,⟨0,0,false⟩],0⟩:Event)]=7 from by decide]
 iterate 3 (refine QE fun R1 hR1=>?_;simp only [go_sem,seval,-List.reduceReplicate,XS,z63,XT,z61,List.length_map,QI,Zh,z3,z4,Int.toNat_natCast,Int.natCast_zero,Event.v0,Event.v7,Event.v8,Access.v0,Access.v1,Access.v2,QH];(repeat' with_reducible refine And.intro ?_ ?_);all_goals first|(refine hR1 _ ?_;clear hR1 R1)|omega|rfl|decide|assumption|(intro _;omega)|(simp;done)|(simp;omega)|(simp [QF,maxLen,YN,Q0,Qz,Qw,Qx]<;>omega))
 refine QJ (hR _ ?_)
 clear hR R
 try simp only [go_sem,Nat.reduceBEq]
 refine J1 (ZL ?_)
 refine Zv ?_
 simp only [QS,Qn,QW,QM,Y2,Yw,qr,WJ,List.lookup_cons,List.lookup_nil,beq_self_eq_true,forall_const,true_and,and_true]
 exact ⟨rfl,rfl⟩
end Go.Eng.Tryz
