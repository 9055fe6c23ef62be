/- A part of the proof: walks through the program's functions, and what they compute. -/
import Derived.Test.YtmonhjagbhpbeaaGreatDoorPk22
import Derived.Test.YtmonhjagbhpbeaaGreatDoorPk25
set_option linter.unusedSimpArgs false
set_option linter.unusedVariables false
namespace Go.Eng.Tryz
open Go.RowKit Go.Eng
set_option maxHeartbeats 0
set_option maxRecDepth 20000
theorem vp {f:FuncId} {p:Event→Bool} (l:List Event) (c:Bool) (hl:l.length≤maxLen) (hf:∀ e∈l,Ctr Go.Proofs.Tryz.prog tab f [63] [4] [e.v] [.bool (p e)]) {σ:St} {K:St→E→Prop} (h:K σ (.int .i64 (QGt p l))):CallE Go.Proofs.Tryz.prog tab σ 141 [.fs 63 (l.map Event.v) c,.fn f []] K:=by
 refine CallE.body ok Go.Proofs.Tryz.func141 rfl rfl 19 rfl [.tmp 4] rfl (by simp) ?_
 simp only [enter,Zf,Nat.zero_add,Nat.reduceAdd]
 repeat' first
  | ((with_reducible refine SARA.told 4 5 ?_)
     have hlt:i<l.length:=by omega
     rw [Qg Event.v l hlt])
  | ((with_reducible refine Q5 fun R1 hR1=>?_);(simp only [go_sem,seval,-List.reduceReplicate,List.length_map,YS,wP,z3,z4,Int.toNat_natCast,Int.natCast_zero,Event.v0,Event.v7,Event.v8,Access.v0,Access.v1,Access.v2,XA]);(repeat' with_reducible refine And.intro ?_ ?_);all_goals first|(refine hR1 _ ?_;clear hR1 R1)|((first|refine cq (cc (hf _ (Qj l hlt)) (by first|rfl|(simp [go_sem,VN,VO,Yo,List.length_map,List.take_of_length_le];done)|fail)) ?_);all_goals ((try simp only [go_sem,seval,-List.reduceReplicate,List.length_map,YS,wP,z3,z4,Int.toNat_natCast,Int.natCast_zero,Event.v0,Event.v7,Event.v8,Access.v0,Access.v1,Access.v2,XA]);(repeat' with_reducible refine And.intro ?_ ?_);all_goals first|(refine hR1 _ ?_;clear hR1 R1)|exact ob5))|exact ob5)
  | ((with_reducible refine Q4 ?_);refine hR _ ?_;clear hR R;try simp only [go_sem,QOu,Nat.reduceBEq])
  | (with_reducible first|refine J1 ?_|refine J2 ?_|refine J3 ?_|refine J4 ?_|refine J5 ?_|refine J6 ?_|refine J7 ?_|refine J8 (by decide) ?_|refine J9 ?_|refine Xu ?_|refine Q2 ?_|refine Q1 ?_|refine Yc ?_|refine Xt ?_)
  | ((with_reducible refine rg QOu fun R hR=>?_);simp only [go_sem,QC])
  | ((with_reducible refine QI 9 rfl (fun hb9=>?_) (fun hf9=>?_))
     all_goals
      try
       (try simp only [decide_eq_true_eq,decide_eq_false_iff_not] at hb9)
      try
       (try simp only [decide_eq_true_eq,decide_eq_false_iff_not] at hf9))
  | ((with_reducible refine QI 16 rfl (fun hb16=>?_) (fun hf16=>?_))
     all_goals
      try
       (try simp only [decide_eq_true_eq,decide_eq_false_iff_not] at hb16)
      try
       (try simp only [decide_eq_true_eq,decide_eq_false_iff_not] at hf16))
  | ((with_reducible refine Ya ?_)
     refine Zv (Qo (by first|rfl|(simp;done)|fail)) (Yb (fun n τ=>∃ (i:Nat),n=l.length-i∧(i≤l.length∧(l.take i).any p=false)∧τ={ tm:=[(0,true,.fs 63 (l.map Event.v) c),(1,true,.fn f []),(7,true,.int .i64 l.length),(8,true,.int .i64 i)],ob:=σ.ob,out:=σ.tm::σ.out,nt:=19 }) (l.length) ⟨0,rfl,⟨Nat.zero_le _,rfl⟩,rfl⟩ ?_)
     rintro n τ ⟨i,hn,⟨hi,hc⟩,rfl⟩)
  | ((with_reducible refine WC ?_)
     first
      | (have _:=hb9
         have _:=hf16
         have hlt:i<l.length:=by omega
         refine Z0 (l.length-(i+1)) _ (by omega) (Qo (by simp only [QD hlt hl])) ⟨i+1,rfl,⟨hlt,?_⟩,rfl⟩
         rw [zu _ l hlt,hc,hf16];rfl))
  | ((with_reducible first|refine xQ ?_|refine xP ?_)
     simp only [QL,ZD,QM,QH,VZ,UY,ty4,U9,List.lookup_cons,List.lookup_nil,beq_self_eq_true,forall_const,true_and,and_true]
     first
      | (have _:=hb9
         have _:=hb16
         have hlt:i<l.length:=by omega
         rw [QLk hlt hc hb16] at h
         exact h)
      | (have _:=hf9
         have:i=l.length:=by omega
         subst this
         rw [List.take_length] at hc
         rw [QJY hc] at h
         exact h))
def QPF:List (List Nat):=[[0,1],[4]]
theorem xI {f:FuncId} {p:Event→Bool} (l:List Event) (c:Bool) (hl:l.length≤maxLen) (hf:∀ e∈l,Ctr Go.Proofs.Tryz.prog tab f [63] [4] [e.v] [.bool (p e)]) {σ:St} {K:St→E→Prop} (h:K σ (.bool (l.any p))):CallE Go.Proofs.Tryz.prog tab σ 100 [.fs 63 (l.map Event.v) c,.fn f []] K:=by
 refine CallE.body ok Go.Proofs.Tryz.func100 rfl rfl 9 rfl [.tmp 4] rfl (by simp) ?_
 simp only [enter,Zf,Nat.zero_add,Nat.reduceAdd]
 repeat' first
  | ((with_reducible refine Q5 fun R1 hR1=>?_);(simp only [go_sem,seval,-List.reduceReplicate,List.length_map,YS,wP,z3,z4,Int.toNat_natCast,Int.natCast_zero,Event.v0,Event.v7,Event.v8,Access.v0,Access.v1,Access.v2,XA]);(repeat' with_reducible refine And.intro ?_ ?_);all_goals first|(refine hR1 _ ?_;clear hR1 R1)|((first|refine ⟨_,_,rfl,.inr (vp l c hl hf ?_)⟩);all_goals ((try simp only [go_sem,seval,-List.reduceReplicate,List.length_map,YS,wP,z3,z4,Int.toNat_natCast,Int.natCast_zero,Event.v0,Event.v7,Event.v8,Access.v0,Access.v1,Access.v2,XA]);(repeat' with_reducible refine And.intro ?_ ?_);all_goals first|(refine hR1 _ ?_;clear hR1 R1)|exact ob5))|exact ob5)
  | ((with_reducible refine Q4 ?_);refine hR _ ?_;clear hR R;try simp only [go_sem,QPF,Nat.reduceBEq])
  | (with_reducible first|refine J1 ?_|refine J2 ?_|refine Q2 ?_|refine Q1 ?_)
  | ((with_reducible refine rg QPF fun R hR=>?_);simp only [go_sem,QC])
  | ((with_reducible first|refine xQ ?_|refine xP ?_)
     simp only [QL,ZD,QM,QH,VZ,UY,ty4,U9,List.lookup_cons,List.lookup_nil,beq_self_eq_true,forall_const,true_and,and_true]
     rw [QNX]
     exact h)
def QTY:List (List Nat):=[[0],[0,5],[2],[7],[2],[2]]
theorem QBa (t:List Event) (ht:t.length≤maxLen) (h6:∀ e∈t,e.touch.length=6):Ctr Go.Proofs.Tryz.prog tab 62 [36] [30] [.list (t.map Event.v)] [.int (QBi t)]:=by
 refine Ctr.body ok Go.Proofs.Tryz.func62 rfl rfl 8 rfl [.tmp 2] rfl (by simp [QF]) ?_
 simp only [go_sem,Nat.reduceAdd]
 repeat' first
  | ((with_reducible refine Q5 fun R1 hR1=>?_);(simp only [go_sem,seval,-List.reduceReplicate,List.length_map,YS,wP,z3,z4,Int.toNat_natCast,Int.natCast_zero,Event.v0,Event.v7,Event.v8,Access.v0,Access.v1,Access.v2,XA]);(repeat' with_reducible refine And.intro ?_ ?_);all_goals first|(refine hR1 _ ?_;clear hR1 R1)|((first|refine ⟨_,_,rfl,.inr (xI (p:=fun e=>!right e) t false ht (fun e he=>QFs e (h6 e he)) ?_)⟩);all_goals ((try simp only [go_sem,seval,-List.reduceReplicate,List.length_map,YS,wP,z3,z4,Int.toNat_natCast,Int.natCast_zero,Event.v0,Event.v7,Event.v8,Access.v0,Access.v1,Access.v2,XA]);(repeat' with_reducible refine And.intro ?_ ?_);all_goals first|(refine hR1 _ ?_;clear hR1 R1)|exact ob5))|exact ob5)
  | ((with_reducible refine Q4 ?_);refine hR _ ?_;clear hR R;try simp only [go_sem,QTY,Nat.reduceBEq])
  | (with_reducible first|refine J1 ?_|refine J2 ?_|refine J3 ?_|refine Q2 ?_|refine Q1 ?_)
  | ((with_reducible refine rg QTY fun R hR=>?_);simp only [go_sem,QC])
  | ((with_reducible refine QI 5 rfl (fun hb5=>?_) (fun hf5=>?_))
     all_goals
      try
       (simp at hb5)
      try
       (simp at hf5))
  | ((with_reducible refine QI 7 rfl (fun hb7=>?_) (fun hf7=>?_))
     all_goals
      try
       (simp at hb7)
      try
       (simp at hf7))
  | ((with_reducible first|refine ZQ ?_|refine ZP ?_)
     simp only [QL,ZD,QM,QH,VZ,UY,ty4,U9,List.lookup_cons,List.lookup_nil,beq_self_eq_true,forall_const,true_and,and_true]
     first
      | (have _:=hb5
         refine ⟨rfl,?_⟩
         have:QBi t=2:=if_pos (by omega)
         rw [this];rfl)
      | (have _:=hf5
         have _:=hb7
         refine ⟨rfl,?_⟩
         have:t.all right=false:=by simpa using hb7
         have:QBi t=7:=by unfold QBi;rw [if_neg (by omega),this];rfl
         rw [this];rfl)
      | (have _:=hf5
         have _:=hf7
         refine ⟨rfl,?_⟩
         have:t.all right=true:=by simpa using hf7
         have:QBi t=0:=by unfold QBi;rw [if_neg (by omega),this];rfl
         rw [this];rfl))
def QTj:List (List Nat):=[[],[1],[1,2],[0]]
theorem ZE:Ctr Go.Proofs.Tryz.prog tab 27 [] [4] [] [.bool true]:=by
 refine Ctr.body ok Go.Proofs.Tryz.func27 rfl rfl 27 rfl [.tmp 0] rfl (by simp [QF]) ?_
 simp only [go_sem,Nat.reduceAdd]
 repeat' first
  | ((with_reducible refine SARA.told 3 3 ?_)
     rw [show qq [(⟨1,0,false⟩:Access)] [(⟨1,0,true⟩:Access)]=true from rfl])
  | ((with_reducible refine SARA.told 3 7 ?_)
     rw [show qq [(⟨1,0,true⟩:Access)] [(⟨1,0,true⟩:Access)]=true from rfl])
  | ((with_reducible refine SARA.told 3 12 ?_)
     rw [show qq [(⟨1,0,false⟩:Access)] [(⟨1,0,false⟩:Access)]=false from rfl])
  | ((with_reducible refine SARA.told 3 18 ?_)
     rw [show QBi [(⟨0,0,0,0,0,0,0,[⟨0,0,false⟩,⟨0,0,false⟩,⟨0,0,false⟩,⟨0,0,false⟩,⟨0,0,false⟩,⟨0,0,false⟩],0⟩:Event)]=7 from by decide])
  | ((with_reducible refine Q5 fun R1 hR1=>?_);(simp only [go_sem,seval,-List.reduceReplicate,QDc,z63,QJv,z61,List.length_map,YS,wP,z3,z4,Int.toNat_natCast,Int.natCast_zero,Event.v0,Event.v7,Event.v8,Access.v0,Access.v1,Access.v2,XA]);(repeat' with_reducible refine And.intro ?_ ?_);all_goals first|(refine hR1 _ ?_;clear hR1 R1)|((first|refine cq (cc (Wu [(⟨1,0,false⟩:Access)] [(⟨1,0,true⟩:Access)] (by decide) (by decide)) (by first|rfl|(simp [go_sem,VN,VO,Yo,List.length_map,List.take_of_length_le];done)|fail)) ?_|refine Y4 (fun hg=>cc (Wu [(⟨1,0,false⟩:Access)] [(⟨1,0,true⟩:Access)] (by decide) (by decide)) (by first|rfl|(simp [go_sem,VN,VO,Yo,List.length_map,List.take_of_length_le];done)|fail)) ?_|refine cq (cc (Wu [(⟨1,0,true⟩:Access)] [(⟨1,0,true⟩:Access)] (by decide) (by decide)) (by first|rfl|(simp [go_sem,VN,VO,Yo,List.length_map,List.take_of_length_le];done)|fail)) ?_|refine Y4 (fun hg=>cc (Wu [(⟨1,0,true⟩:Access)] [(⟨1,0,true⟩:Access)] (by decide) (by decide)) (by first|rfl|(simp [go_sem,VN,VO,Yo,List.length_map,List.take_of_length_le];done)|fail)) ?_|refine cq (cc (Wu [(⟨1,0,false⟩:Access)] [(⟨1,0,false⟩:Access)] (by decide) (by decide)) (by first|rfl|(simp [go_sem,VN,VO,Yo,List.length_map,List.take_of_length_le];done)|fail)) ?_|refine Y4 (fun hg=>cc (Wu [(⟨1,0,false⟩:Access)] [(⟨1,0,false⟩:Access)] (by decide) (by decide)) (by first|rfl|(simp [go_sem,VN,VO,Yo,List.length_map,List.take_of_length_le];done)|fail)) ?_|refine cq (cc (QBa [(⟨0,0,0,0,0,0,0,[⟨0,0,false⟩,⟨0,0,false⟩,⟨0,0,false⟩,⟨0,0,false⟩,⟨0,0,false⟩,⟨0,0,false⟩],0⟩:Event)] (by decide) (by decide)) (by first|rfl|(simp [go_sem,VN,VO,Yo,List.length_map,List.take_of_length_le];done)|fail)) ?_|refine Y4 (fun hg=>cc (QBa [(⟨0,0,0,0,0,0,0,[⟨0,0,false⟩,⟨0,0,false⟩,⟨0,0,false⟩,⟨0,0,false⟩,⟨0,0,false⟩,⟨0,0,false⟩],0⟩:Event)] (by decide) (by decide)) (by first|rfl|(simp [go_sem,VN,VO,Yo,List.length_map,List.take_of_length_le];done)|fail)) ?_);all_goals ((try simp only [go_sem,seval,-List.reduceReplicate,QDc,z63,QJv,z61,List.length_map,YS,wP,z3,z4,Int.toNat_natCast,Int.natCast_zero,Event.v0,Event.v7,Event.v8,Access.v0,Access.v1,Access.v2,XA]);(repeat' with_reducible refine And.intro ?_ ?_);all_goals first|(refine hR1 _ ?_;clear hR1 R1)|exact ob5))|exact ob5)
  | ((with_reducible refine Q4 ?_);refine hR _ ?_;clear hR R;try simp only [go_sem,QTj,Nat.reduceBEq])
  | (with_reducible first|refine J1 ?_|refine J2 ?_|refine Q2 ?_|refine Q1 ?_)
  | ((with_reducible refine rg QTj fun R hR=>?_);simp only [go_sem,QC])
  | ((with_reducible first|refine ZQ ?_|refine ZP ?_)
     simp only [QL,ZD,QM,QH,VZ,UY,ty4,U9,List.lookup_cons,List.lookup_nil,beq_self_eq_true,forall_const,true_and,and_true]
     exact ⟨rfl,rfl⟩)
attribute [go_sem] QRV QRU QRT QRS
end Go.Eng.Tryz
