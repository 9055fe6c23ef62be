/- A part of the proof: walks through the program's functions, and what they compute. -/
import Derived.Test.YtedceinkpkoncaaGreatDoorPk33
import Derived.Test.YtedceinkpkoncaaGreatDoorPk39
import Derived.Test.YtedceinkpkoncaaGreatDoorPk41
import Derived.Test.YtedceinkpkoncaaGreatDoorPk42
import Derived.Test.YtedceinkpkoncaaGreatDoorPk44
set_option linter.unusedSimpArgs false
set_option linter.unusedVariables false
namespace Go.Eng.Tryz
open Go.RowKit Go.Eng
set_option maxHeartbeats 0
set_option maxRecDepth 20000
def QEB:List (List Nat):=[[1,3,5],[1,3,5,8],[1,3,5,8,22],[6,7],[1,3,5,9],[1,3,5,9,11],[3,5,9,11,31,32,33],[3,5,9,11,31,32,33,34],[3,5,9,11,13,31,32,33],[3,5,9,11,13,14,31,32,33],[3,5,9,11,13,14,31,32,33,49],[3,5,9,11,14,15,31,32,33],[3,5,9,11,14,15,31,32,33,55],[3,5,9,11,14,15,31,32,33],[3,5,9,11,14,15,31,32,33],[3,5,9,11,31,32,33],[3,5,9,11,31,32,33],[6,7]]
theorem zh (p:Prg) (l:List Int) (b:Bud) (hp:p.Fit) (hl:l.length≤maxLen):Ctr Go.Proofs.Tryz.prog tab 57 [26,23,77] [64,3] [p.v,.list (l.map V.int),b.v] [.list ((QR p l b).map Pck.v),.int (ZF p l.length b)]:=by
 have hpp:=hp
 have hcode:True→True:=id
 have hsl:True→True:=id
 have hmx:400≤maxLen:=by decide
 have hmost:Yn l b=min l.length b.steps.toNat:=rfl
 refine Ctr.body ok Go.Proofs.Tryz.func57 rfl rfl 82 rfl [.tmp 6,.tmp 7] rfl (by simp [QE]) ?_
 simp only [go_sem,Nat.reduceAdd]
 repeat' first
  | ((with_reducible refine SARA.told 14 _ ?_);try simp only [hAt])
  | ((with_reducible refine SART.told 15 _ ?_);try simp only [hAt])
  | ((with_reducible first|refine Q2 fun R1 hR1=>?_|refine qR fun R1 hR1=>?_|refine qQ fun R1 hR1=>?_|refine qP fun R1 hR1=>?_);(simp only [go_sem,seval,-List.reduceReplicate,Bool.cond_false_right,Bool.cond_true_left,QF,Nat.zero_add]);(repeat' with_reducible refine And.intro ?_ ?_);all_goals first|(refine hR1 _ ?_;clear hR1 R1)|(intro hgf;simp only [hgf];refine hR1 _ ?_;clear hR1 R1)|((first|refine cq (cc (zY p _ b hpp) (by first|rfl|(simp [go_sem,List.take_of_length_le,List.length_map,List.map_take,List.drop_zero];done)|fail)) ?_|refine ce (cf (xX p b.fuel hpp) ?_ (by first|rfl|(simp [go_sem,List.take_of_length_le,List.length_map,List.map_take,List.drop_zero];done)|fail))|refine ⟨_,_,rfl,.inr (CallB.ctr ok (xX p b.fuel hpp) (by first|rfl|(simp [go_sem,List.take_of_length_le,List.length_map,List.map_take,List.drop_zero];done)|fail) ?_)⟩|refine ce (cf (Xf p (Qy p b.fuel l i).1 hpp hr hw) ?_ (by first|rfl|(simp [go_sem,List.take_of_length_le,List.length_map,List.map_take,List.drop_zero];done)|fail))|refine ⟨_,_,rfl,.inr (CallB.ctr ok (Xf p (Qy p b.fuel l i).1 hpp hr hw) (by first|rfl|(simp [go_sem,List.take_of_length_le,List.length_map,List.map_take,List.drop_zero];done)|fail) ?_)⟩|refine ce (cf (QAD p (Qy p b.fuel l i).1 ((ready p (Qy p b.fuel l i).1).getD (Vx (l.getD i 0) (ready p (Qy p b.fuel l i).1).length).toNat default) b.fuel hpp hr hw) ?_ (by first|rfl|(simp [go_sem,List.take_of_length_le,List.length_map,List.map_take,List.drop_zero];done)|fail))|refine ⟨_,_,rfl,.inr (CallB.ctr ok (QAD p (Qy p b.fuel l i).1 ((ready p (Qy p b.fuel l i).1).getD (Vx (l.getD i 0) (ready p (Qy p b.fuel l i).1).length).toNat default) b.fuel hpp hr hw) (by first|rfl|(simp [go_sem,List.take_of_length_le,List.length_map,List.map_take,List.drop_zero];done)|fail) ?_)⟩);all_goals ((try simp only [go_sem,seval,-List.reduceReplicate,Bool.cond_false_right,Bool.cond_true_left,QF,Nat.zero_add]);(repeat' with_reducible refine And.intro ?_ ?_);all_goals first|(refine hR1 _ ?_;clear hR1 R1)|(intro hgf;simp only [hgf];refine hR1 _ ?_;clear hR1 R1)|exact Xk))|exact Xk)
  | ((with_reducible refine SART.doneAt 15 ?_);refine hR _ ?_;clear hR R;try simp only [go_sem,QEB,Nat.reduceBEq]
     exact Qq (by simp only [St.keep,List.filterMap_cons,List.filterMap_nil,List.lookup_cons,List.lookup_nil,Option.map_some,Option.map_none,beq_self_eq_true,Nat.reduceBEq]))
  | ((with_reducible first|refine qO ?_|refine Q1 ?_);refine hR _ ?_;clear hR R;try simp only [go_sem,QEB,Nat.reduceBEq])
  | (with_reducible first|refine qN ?_ ?_|exact qM|refine qL ?_ ?_)
  | (with_reducible first|refine J1 ?_|refine J2 ?_|refine J3 ?_|refine J4 ?_|refine J5 ?_|refine J6 ?_|refine J7 ?_|refine J8 (by decide) ?_|refine J9 ?_|refine WL ?_|refine Q0 ?_|refine Qz ?_|refine YZ ?_|refine WK ?_)
  | ((with_reducible refine QZ 4 ?_)
     have hz0:=UY hb22
     have hr:=hz0.2.2.1
     have hok:=Prg.ok hr
     (with_reducible refine rg QEB fun R hR=>?_);simp only [go_sem,QC])
  | ((with_reducible refine QZ 9 ?_)
     have hvk:Vld p (Qy p b.fuel l i).1:=QEa hr hz0.2.1 hz
     have hw:=hvk.wf hok hr
     have hrl:=Zu hok hw (Qy p b.fuel l i).1.count.toNat
     have hct:=hvk.count
     have hrl2:(ready p (Qy p b.fuel l i).1).length≤384:=by unfold ready;omega
     have hrl3:(ready p (Qy p b.fuel l i).1).length≤maxLen:=by omega
     (with_reducible refine rg QEB fun R hR=>?_);simp only [go_sem,QC])
  | ((with_reducible refine QZ 11 ?_)
     have hr0:0<(ready p (Qy p b.fuel l i).1).length:=List.length_pos_iff.2 hb49.1
     have hb1:=Int.tmod_lt_of_pos (l.getD i 0) (b:=((ready p (Qy p b.fuel l i).1).length:Int)) (by omega)
     have hb2:=Int.lt_tmod_of_pos (l.getD i 0) (b:=((ready p (Qy p b.fuel l i).1).length:Int)) (by omega)
     have hx:=vw (c:=l.getD i 0) hr0
     have hwp:(l.getD i 0).tmod (ready p (Qy p b.fuel l i).1).length<0→IntKind.i64.wrap ((l.getD i 0).tmod (ready p (Qy p b.fuel l i).1).length+(ready p (Qy p b.fuel l i).1).length)=Vx (l.getD i 0) (ready p (Qy p b.fuel l i).1).length:=fun h=>by
      rw [Q4 (by omega) (by omega)]
      unfold Vx
      rw [if_pos h]
     have hwn:¬(l.getD i 0).tmod (ready p (Qy p b.fuel l i).1).length<0→(l.getD i 0).tmod (ready p (Qy p b.fuel l i).1).length=Vx (l.getD i 0) (ready p (Qy p b.fuel l i).1).length:=fun h=>by
      unfold Vx
      rw [if_neg h]
     have hAt:=Qr Pck.v (ready p (Qy p b.fuel l i).1) (i:=(Vx (l.getD i 0) (ready p (Qy p b.fuel l i).1).length).toNat) (by omega)
     (with_reducible refine rg QEB fun R hR=>?_);simp only [go_sem,QC])
  | ((with_reducible refine QZ 14 ?_)
     first|rw [hwp (by omega)]|rw [hwn (by omega)]
     (with_reducible refine rg QEB fun R hR=>?_);simp only [go_sem,QC])
  | ((with_reducible refine QZ 15 ?_)
     have hTK:List.take i (List.map Pck.v (Qy p b.fuel l i).2)=List.map Pck.v (Qy p b.fuel l i).2:=List.take_of_length_le (by rw [List.length_map,hkl2];exact Nat.le_refl _)
     simp only [List.drop_zero,List.take_succ_cons,List.take_zero,List.length_cons,List.length_nil,Nat.zero_add,hTK]
     refine J35 ok QN (.take 0 (.take 1 (.take 2 (.take 3 (.take 4 (.take 5 (.take 6 (.take 7 (.br 8 (.take 9 (.take 10 (.br 11 (.br 12 (.br 13 .done .nil) (.br 13 (.take 12 .done) .nil)) (.br 12 (.br 11 (.br 13 .done .nil) (.br 13 (.take 11 .done) .nil)) (.br 13 (.take 11 (.take 12 .done)) .nil))))) .nil))))))))) [13] QEB (by kernel_rfl) ({ tm:=[(3,true,.ptr 0 [] 26),(5,true,.ptr 1 [] 77),(9,true,.ptr 2 [] 37),(11,true,.sl 3 39 0 (i+1) false),(31,true,.fs 3 (l.map V.int) false),(32,true,.int .i64 l.length),(33,true,.int .i64 i)],ob:=[.var 26 (.data 26 p.v),.var 77 (.data 77 b.v),.var 37 (.data 37 (Stt.v (YV QB p (Qy p b.fuel l i).1 ((ready p (Qy p b.fuel l i).1).getD (Vx (l.getD i 0) (ready p (Qy p b.fuel l i).1).length).toNat default) b.fuel).1)),.row 39 ((Qy p b.fuel l i).2.map Pck.v++[Pck.v ((ready p (Qy p b.fuel l i).1).getD (Vx (l.getD i 0) (ready p (Qy p b.fuel l i).1).length).toNat default)]),.row 39 ((ready p (Qy p b.fuel l i).1).map Pck.v),.row 39 [Pck.v ((ready p (Qy p b.fuel l i).1).getD (Vx (l.getD i 0) (ready p (Qy p b.fuel l i).1).length).toNat default)]],out:=[],nt:=82 }) (fun R hR=>?_) ?_;simp only [go_sem,QC])
  | ((with_reducible refine rg QEB fun R hR=>?_);simp only [go_sem,QC])
  | ((with_reducible refine QH 22 rfl (fun hb22=>?_) fun hb22=>?_);all_goals (try simp [-List.getD_eq_getElem?_getD] at hb22;try (exfalso;omega)))
  | ((with_reducible refine QH 34 rfl (fun hb34=>?_) fun hb34=>?_);all_goals (try simp [-List.getD_eq_getElem?_getD] at hb34;try (exfalso;omega)))
  | ((with_reducible refine QH 49 rfl (fun hb49=>?_) fun hb49=>?_);all_goals (try simp [-List.getD_eq_getElem?_getD] at hb49;try (exfalso;omega)))
  | ((with_reducible refine QH 55 rfl (fun hb55=>?_) fun hb55=>?_);all_goals (try simp [-List.getD_eq_getElem?_getD] at hb55;try (exfalso;omega)))
  | ((with_reducible refine YQ ?_)
     refine Zo ((St.le.own (t:=11) 39 rfl).trans ((St.le.keep [3,5,9,11,31,32,33]).trans (Qq (by first|rfl|(simp;done)|fail)))) (YR (fun n τ=>∃ (i:Nat),n=l.length-i∧(i≤Yn l b∧∀ j:Nat,j<i→0<(ready p (Qy p b.fuel l j).1).length)∧τ={ tm:=[(3,true,.ptr 0 [] 26),(5,true,.ptr 1 [] 77),(9,true,.ptr 2 [] 37),(11,true,.sl 3 39 0 i false),(31,true,.fs 3 (l.map V.int) false),(32,true,.int .i64 l.length),(33,true,.int .i64 i)],ob:=[.var 26 (.data 26 p.v),.var 77 (.data 77 b.v),.var 37 (.data 37 (Stt.v (Qy p b.fuel l i).1)),.row 39 ((Qy p b.fuel l i).2.map Pck.v)],out:=[],nt:=82 }) (l.length) ⟨0,rfl,⟨Nat.zero_le _,fun j h=>by omega⟩,rfl⟩ ?_)
     rintro n τ ⟨i,hn,⟨hi,hz⟩,rfl⟩
     have hkl2:=Xr (p:=p) (fuel:=b.fuel) (l:=l) i)
  | ((with_reducible refine WM ?_)
     first
      | (have hlt:i<Yn l b:=by have q:=hb49.2;omega
         have hw1:=QD (show i<l.length by omega) hl
         refine Zt (l.length-(i+1)) _ (by omega) ((WN 4 rfl).trans (Qq (by simp [-List.getD_eq_getElem?_getD,Qy,yA,List.take_of_length_le,hkl2,hw1]))) ⟨i+1,rfl,⟨hlt,fun j h=>?_⟩,rfl⟩
         by_cases h2:j<i
         · exact hz j h2
         · have h3:j=i:=by omega
           rw [h3];exact hr0))
  | ((with_reducible first|refine ZH ?_|refine ZG ?_)
     simp only [go_sem,QJ,QK,QG,seval]
     first
      | (have q:=hb22
         refine ⟨⟨rfl,?_⟩,rfl⟩
         unfold QR
         rw [if_neg hb22]
         rfl)
      | (have q:=hb49
         have e:Ym p l b=i:=by
          by_cases hc:i<Yn l b
          · refine QB0 hc ?_ hz
            rcases hb49 with h|h
            · rw [h];rfl
            · exfalso;omega
          · exact Vp (by omega) hz
         refine ⟨⟨rfl,?_,?_⟩,rfl,?_⟩
         · unfold QR
           rw [if_pos hb22,e]
           simp [List.take_of_length_le,hkl2]
         · intro e he
           first|(cases he;done)|(intro j u lo n c h;simp at he;subst he;cases h)
         · rw [hb22])
      | (have e:Ym p l b=i:=Vp (by omega) hz
         refine ⟨⟨rfl,?_,?_⟩,rfl,?_⟩
         · unfold QR
           rw [if_pos hb22,e]
           simp [List.take_of_length_le,hkl2]
         · intro e he
           first|(cases he;done)|(intro j u lo n c h;simp at he;subst he;cases h)
         · rw [hb22]))
def QQj:List (List Nat):=[[1,3,5],[1,3,5,7,8],[7,8,9,10],[6]]
theorem xc (p:Prg) (l:List Int) (b:Bud) (hp:p.Fit) (hl:l.length≤maxLen):Ctr Go.Proofs.Tryz.prog tab 11 [26,23,77] [4] [p.v,.list (l.map V.int),b.v] [.bool true]:=by
 have hpp:=hp
 have hcode:True→True:=id
 have hsl:True→True:=id
 have hmx:256≤maxLen:=by decide
 have hcl:(QR p l b).length≤maxLen:=Nat.le_trans (yL p l b) hmx
 refine Ctr.body ok Go.Proofs.Tryz.func11 rfl rfl 36 rfl [.tmp 6] rfl (by simp [QE]) ?_
 simp only [go_sem,Nat.reduceAdd]
 repeat' first
  | ((with_reducible refine Q2 fun R1 hR1=>?_);(simp only [go_sem,seval,-List.reduceReplicate,Bool.cond_false_right,Bool.cond_true_left,QF,decide_true,Bool.not_true,Bool.not_false]);(repeat' with_reducible refine And.intro ?_ ?_);all_goals first|(refine hR1 _ ?_;clear hR1 R1)|(intro hgf;simp only [hgf];refine hR1 _ ?_;clear hR1 R1)|((first|refine ce (cf (Z1 p l b hpp hl) ?_ (by first|rfl|(simp [go_sem,List.take_of_length_le,List.length_map,List.map_take,List.drop_zero];done)|fail))|refine ⟨_,_,rfl,.inr ⟨fun _=>CallE.ctr ok (Z1 p l b hpp hl) (by first|rfl|(simp [go_sem,List.take_of_length_le,List.length_map,List.map_take,List.drop_zero];done)|fail) ?_,?_⟩⟩|refine ce (cf (zh p l b hpp hl) ?_ (by first|rfl|(simp [go_sem,List.take_of_length_le,List.length_map,List.map_take,List.drop_zero];done)|fail))|refine ⟨_,_,rfl,.inr ⟨fun _=>CallE.ctr ok (zh p l b hpp hl) (by first|rfl|(simp [go_sem,List.take_of_length_le,List.length_map,List.map_take,List.drop_zero];done)|fail) ?_,?_⟩⟩|refine cq (cc (Y7 (QR p l b) (QR p l b) hcl hcl) (by first|rfl|(simp [go_sem,List.take_of_length_le,List.length_map,List.map_take,List.drop_zero];done)|fail)) ?_|refine ⟨_,_,rfl,.inl ⟨_,fun hg=>CallQ.ctr ok (Y7 (QR p l b) (QR p l b) hcl hcl) (by first|rfl|(simp [go_sem,List.take_of_length_le,List.length_map,List.map_take,List.drop_zero];done)|fail) rfl,?_⟩⟩|refine cq (cc (Xa) (by first|rfl|(simp [go_sem,List.take_of_length_le,List.length_map,List.map_take,List.drop_zero];done)|fail)) ?_|refine ⟨_,_,rfl,.inl ⟨_,fun hg=>CallQ.ctr ok (Xa) (by first|rfl|(simp [go_sem,List.take_of_length_le,List.length_map,List.map_take,List.drop_zero];done)|fail) rfl,?_⟩⟩);all_goals ((try simp only [go_sem,seval,-List.reduceReplicate,Bool.cond_false_right,Bool.cond_true_left,QF,decide_true,Bool.not_true,Bool.not_false]);(repeat' with_reducible refine And.intro ?_ ?_);all_goals first|(refine hR1 _ ?_;clear hR1 R1)|(intro hgf;simp only [hgf];refine hR1 _ ?_;clear hR1 R1)|exact ZQ))|exact ZQ)
  | ((with_reducible refine Q1 ?_);refine hR _ ?_;clear hR R;try simp only [go_sem,QQj,Nat.reduceBEq])
  | (with_reducible first|refine J1 ?_|refine J2 ?_|refine Q0 ?_|refine Qz ?_)
  | ((with_reducible refine rg QQj fun R hR=>?_);simp only [go_sem,QC])
  | ((with_reducible first|refine ZH ?_|refine ZG ?_)
     simp only [go_sem,QJ,QK,QG,seval]
     first
      | (exact ⟨rfl,rfl⟩)
      | (rfl)
      | (refine ⟨rfl,?_⟩
         simp))
end Go.Eng.Tryz
