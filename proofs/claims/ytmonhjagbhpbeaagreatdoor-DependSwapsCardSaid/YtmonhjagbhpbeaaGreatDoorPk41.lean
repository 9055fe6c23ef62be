/- A part of the proof: walks through the program's functions, and what they compute. -/
import Derived.Test.YtmonhjagbhpbeaaGreatDoorPk26
set_option linter.unusedSimpArgs false
set_option linter.unusedVariables false
namespace Go.Eng.Tryz
open Go.RowKit Go.Eng
set_option maxHeartbeats 0
set_option maxRecDepth 20000
def Un (p:Prg) (l:List Pck) (i:Int) (b:Bud):List Pck × Bool × Int :=
 if (Z1 p l i ((l.length:Int)-2) b).2≠0 then ([],false,(Z1 p l i ((l.length:Int)-2) b).2)
 else if ZH (Zb p l b i.toNat) (Zb p l b (i.toNat+1))=true then ([],false,0) else (Qx l i.toNat,true,0)
theorem wT {p:Prg} {l:List Pck} {i:Int} {b:Bud} (h:¬(Z1 p l i ((l.length:Int)-2) b).2=0):Un p l i b=([],false,(Z1 p l i ((l.length:Int)-2) b).2):=if_pos h
theorem wS {p:Prg} {l:List Pck} {k:Nat} {b:Bud} (h:(Z1 p l k ((l.length:Int)-2) b).2=0) (h2:ZH (Zb p l b k) (Zb p l b (k+1))=true):Un p l k b=([],false,0):=(if_neg (fun q=>q h)).trans (if_pos h2)
theorem QAY {p:Prg} {l:List Pck} {k:Nat} {b:Bud} (h:(Z1 p l k ((l.length:Int)-2) b).2=0) (h2:¬ZH (Zb p l b k) (Zb p l b (k+1))=true):Un p l k b=(Qx l k,true,0):=(if_neg (fun q=>q h)).trans (if_neg h2)
def QLD:List (List Nat):=[[1,2,4,7],[1,2,11,12],[1,2,12,40],[8,9,10],[2,13],[13],[8,9,10]]
theorem vX (p:Prg) (l:List Pck) (i:Int) (b:Bud) (hp:p.Fit) (hl:l.length≤maxLen):Ctr Go.Proofs.Tryz.prog tab 26 [26,29,3,28] [29,4,30] [p.v,.list (l.map Pck.v),.int i,b.v] [.list ((Un p l i b).1.map Pck.v),.bool (Un p l i b).2.1,.int (Un p l i b).2.2]:=by
 have hpp:=hp
 have hcode:True→True:=id
 have hsl:True→True:=id
 have hmx:400≤maxLen:=by decide
 have hlx:=hl
 unfold maxLen at hlx
 have hw2:IntKind.i64.wrap ((l.length:Int)-2)=(l.length:Int)-2:=Qm (by omega) (by omega)
 have hE0:=True.intro
 have hE1:=True.intro
 have hw1:=True.intro
 have hP0:=True.intro
 have hP1:=True.intro
 refine Ctr.body ok Go.Proofs.Tryz.func26 rfl rfl 61 rfl [.tmp 8,.tmp 9,.tmp 10] rfl (by simp [QF]) ?_
 simp only [go_sem,Nat.reduceAdd]
 repeat' first
  | (fail_if_success (have:=hz)
     (with_reducible refine Qe 2 ?_)
     rcases Decidable.em ((Z1 p l i ((l.length:Int)-2) b).2=0) with hz|hz
     (obtain ⟨h0,h1,hS,hD⟩:=Vj hz
      obtain ⟨k,rfl⟩:=Int.eq_ofNat_of_zero_le h0
      rw [hD]))
  | ((with_reducible refine SART.told 2 _ ?_);try simp only [hz,hE0,hE1,hw1,Int.toNat_natCast])
  | ((with_reducible refine SART.told 5 _ ?_);try simp only [hw1,Int.toNat_natCast])
  | ((with_reducible first|refine Q5 fun R1 hR1=>?_|refine qz fun R1 hR1=>?_|refine qy fun R1 hR1=>?_|refine qx fun R1 hR1=>?_);(simp only [go_sem,seval,-List.reduceReplicate,Bool.cond_false_right,Bool.cond_true_left,QE,hw2,decide_true,decide_false]);(repeat' with_reducible refine And.intro ?_ ?_);all_goals first|(refine hR1 _ ?_;clear hR1 R1)|(intro hgf;simp only [hgf];refine hR1 _ ?_;clear hR1 R1)|((first|refine ⟨_,_,rfl,.inr (CallE.ctrZ (qc p l i ((l.length:Int)-2) b hpp hl) (by first|rfl|(simp [go_sem,List.take_of_length_le,List.length_map,List.map_take,List.drop_zero];done)|fail) ?_)⟩|refine ⟨_,_,rfl,.inr ⟨fun _=>CallE.ctrZ (qc p l i ((l.length:Int)-2) b hpp hl) (by first|rfl|(simp [go_sem,List.take_of_length_le,List.length_map,List.map_take,List.drop_zero];done)|fail) ?_,?_⟩⟩|refine ce (wO (W6 l (by omega) (by omega)) ?_)|refine ⟨_,_,rfl,.inr ⟨fun _=>CallE.ctr ok (W6 l (by omega) (by omega)) (by first|rfl|(simp [go_sem,List.take_of_length_le,List.length_map,List.map_take,List.drop_zero];done)|fail) ?_,?_⟩⟩|refine cq (VK (W5 (Zb p l b k) (Zb p l b (k+1)) hT0 hT1)) ?_|refine Y4 (fun hg=>VK (W5 (Zb p l b k) (Zb p l b (k+1)) hT0 hT1)) ?_|refine ⟨_,_,rfl,.inl ⟨.bool false,?_⟩⟩);all_goals ((try simp only [go_sem,seval,-List.reduceReplicate,Bool.cond_false_right,Bool.cond_true_left,QE,hw2,decide_true,decide_false]);(repeat' with_reducible refine And.intro ?_ ?_);all_goals first|(refine hR1 _ ?_;clear hR1 R1)|(intro hgf;simp only [hgf];refine hR1 _ ?_;clear hR1 R1)|exact Zp))|exact Zp)
  | ((with_reducible refine SART.doneAt 5 ?_);refine hR _ ?_;clear hR R;try simp only [go_sem,QLD,Nat.reduceBEq]
     exact Qo (by simp [-List.getD_eq_getElem?_getD,← yw,hP0,hP1]))
  | ((with_reducible first|refine qw ?_|refine Q4 ?_);refine hR _ ?_;clear hR R;try simp only [go_sem,QLD,Nat.reduceBEq])
  | (with_reducible first|refine qv ?_ ?_|exact qu|refine qt ?_ ?_)
  | (with_reducible first|refine J1 ?_|refine J2 ?_|refine J3 ?_|refine Q2 ?_|refine Q1 ?_)
  | ((with_reducible refine Qe 2 ?_)
     try (have hk1:k+1<l.length:=by omega
          have hR:=(YZ hS).1
          have hT0:=hR.touch (show k<l.length by omega)
          have hT1:=hR.touch hk1
          have hw1:=QD (show k<l.length by omega) hl
          have hE0:=fun d:V=>Xh (p:=p) (b:=b) (d:=d) (show k<l.length by omega)
          have hE1:=fun d:V=>Xh (p:=p) (b:=b) (d:=d) hk1
          have hlen:=hR.len
          have hevl:=YM p l b
          have hP0:=Qg Pck.v l (i:=k) (by omega)
          have hP1:=Qg Pck.v l (i:=k+1) hk1)
     refine WT ok QQ (.take 0 (.take 1 (.take 2 (.take 3 (.take 4 (.take 5 (.take 6 (.take 7 (.take 8 (.take 9 (.take 10 (.take 11 (.take 12 (.take 13 (.br 14 (.take 15 .done) .nil))))))))))))))) [] QLD (by kernel_rfl) (fun R hR=>?_);simp only [go_sem,QC])
  | ((with_reducible refine Qe 5 ?_)
     refine J35 ok QQ (.take 0 (.take 1 (.take 5 (.take 6 (.take 7 (.take 8 (.take 9 (.take 10 (.take 11 (.take 12 (.take 13 (.take 14 (.br 2 (.br 3 (.br 4 (.br 15 (.take 16 (.br 17 .done .nil)) .nil) (.br 15 (.take 4 (.take 16 (.br 17 .done .nil))) .nil)) (.br 15 (.take 3 (.take 4 (.take 16 (.br 17 .done .nil)))) .nil)) (.br 3 (.br 2 (.br 4 (.br 15 (.take 16 (.br 17 .done .nil)) .nil) (.br 15 (.take 4 (.take 16 (.br 17 .done .nil))) .nil)) (.br 4 (.br 2 (.br 15 (.take 16 (.br 17 .done .nil)) .nil) (.br 15 (.take 2 (.take 16 (.br 17 .done .nil))) .nil)) (.br 15 (.take 2 (.take 4 (.take 16 (.br 17 .done .nil)))) .nil))) (.br 15 (.take 2 (.take 3 (.take 4 (.take 16 (.br 17 .done .nil))))) .nil))))))))))))))) [15,17] QLD (by kernel_rfl) ({ tm:=[(13,true,.sl 3 56 0 l.length false)],ob:=[.var 26 (.data 26 p.v),.var 28 (.data 28 b.v),.var 49 (.data 49 (Trc.v ⟨Qh p l b,Qs p l b,decide ((l.length:Int)=b.steps)&&decide (0<(ready p (Qs p l b)).length)⟩)),.row 56 ((Qx l k).map Pck.v)],out:=[],nt:=61 }) (fun R hR=>?_) ?_;simp only [go_sem,QC])
  | ((with_reducible refine rg QLD fun R hR=>?_);simp only [go_sem,QC])
  | ((with_reducible refine QI 40 rfl (fun hb40=>?_) fun hb40=>?_);all_goals (try simp [-List.getD_eq_getElem?_getD] at hb40;try (exfalso;omega)))
  | ((with_reducible first|refine ZQ ?_|refine ZP ?_)
     simp only [go_sem,QL,QM,QH,seval]
     first
      | (have q:¬_:=hz
         rw [wT hz]
         exact ⟨⟨rfl,rfl⟩,⟨rfl,rfl⟩,rfl,rfl⟩)
      | (have q:_=true:=hb40
         rw [wS hz hb40]
         exact ⟨⟨rfl,rfl⟩,⟨rfl,rfl⟩,rfl,rfl⟩)
      | (have q:=hb40
         rw [QAY hz (by simp [hb40])]
         refine ⟨⟨rfl,?_,?_⟩,⟨rfl,rfl⟩,rfl,rfl⟩
         · simp [List.take_of_length_le,Xa]
         · intro e he j u lo n c h
           simp at he
           rcases he with rfl|rfl<;>cases h))
theorem vB (p:Prg) (l:List Pck) (i:Int) (b:Bud):(∃ e:Int,Un p l i b=([],false,e)) ∨
 ∃ k:Nat,i=k∧k+1<l.length∧(XX p l b).2.2.1=0∧ZH (Zb p l b k) (Zb p l b (k+1))=false∧Un p l i b=(Qx l k,true,0):=by
 by_cases h:(Z1 p l i ((l.length:Int)-2) b).2=0
 · obtain ⟨h0,h1,hS,_⟩:=Vj h
   obtain ⟨k,rfl⟩:=Int.eq_ofNat_of_zero_le h0
   cases hd:ZH (Zb p l b k) (Zb p l b (k+1)) with
   | true=>exact .inl ⟨0,wS h hd⟩
   | false=>exact .inr ⟨k,rfl,by omega,hS,hd,QAY h (by rw [hd];decide)⟩
 · exact .inl ⟨_,wT h⟩
end Go.Eng.Tryz
