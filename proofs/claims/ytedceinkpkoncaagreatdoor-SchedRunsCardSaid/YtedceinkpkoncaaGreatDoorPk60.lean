/- A part of the proof: walks through the program's functions, and what they compute. -/
import Derived.Test.YtedceinkpkoncaaGreatDoorPk41
import Derived.Test.YtedceinkpkoncaaGreatDoorPk47
import Derived.Test.YtedceinkpkoncaaGreatDoorPk49
import Derived.Test.YtedceinkpkoncaaGreatDoorPk50
set_option linter.unusedSimpArgs false
set_option linter.unusedVariables false
namespace Go.Eng
open Go.RowKit
variable {P:Program} {T:Tab} {w:World} {H:Type} {enc:TypeId × Value→H} {spare:Nat→Bool} {held:Bool}
theorem QDi (hP:TabOk P T) {t e:TypeId} {r:Reach} {b0:Nat} {v:Value} {d:DataW H} {p:List MemPlace} {F:Nat→Prop} (ht:T.ty t=.slice e) (hval:Value.okWide P w r b0 t v)
 (h:DataW.Trod enc P w 0 spare held t v d p) {l:List V} (hf:Fits T w F t (.list l) v.cells.toList) {ts:List TypeId} {ds:List (DataW H)} {j:Nat} (hz:(DataW.weightsEach P ts ds).all (· ≤ reachBytes)=true) (hj:ts[j]?=some t) (hd:ds[j]?=some d):l.length*T.by_ e≤140737488355328:=by
 obtain ⟨hu,hno⟩:=hP.slice _ _ ht
 obtain ⟨i,i1,_,i3,_⟩:=hP.info _ hno
 have hby:P.bytesOf e=T.by_ e:=by unfold Program.bytesOf;rw [i1];exact i3
 obtain ⟨a,len,cap,rfl⟩:=Go.WideShapes.okWide_slice hu hval
 obtain ⟨fuel,h⟩:=h
 rcases Go.Deep.open_slice hu h with ⟨hcs,_⟩|⟨ad,l',c,m,n,D,Pl,hcs,_,hl,hm,hmm,hx,_⟩
 · simp [Value.cells] at hcs
   obtain ⟨rfl,rfl,rfl⟩:=hcs
   rcases hf.inv' ht with ⟨h,_⟩|⟨b,off,n,cap,l',ds,h,hc,_⟩
   · cases h;simp
   · simp [Value.cells] at hc
 · simp [Value.cells] at hcs
   obtain ⟨rfl,rfl,rfl⟩:=hcs
   cases hx
   have hb:=sized_slice hz hj hd hu
   rw [hby] at hb
   simp only [List.length_map,List.length_range] at hb
   have hle:len*T.by_ e≤reachBytes:=Nat.le_trans (Nat.mul_le_mul_right _ (Nat.le_add_right _ _)) hb
   have h47:=reachBytes_lt
   rcases hf.inv' ht with ⟨h,_⟩|⟨b,off,n,cap,l'',ds,h,hc,h3,h4⟩
   · cases h;simp
   · cases h
     simp [Value.cells] at hc
     obtain ⟨_,rfl,_⟩:=hc
     have:l.length=len:=by
      have h5:=h4
      simp_all
     rw [this];omega
end Go.Eng
namespace Go.Eng.Tryz
open Go.RowKit Go.Eng
set_option maxHeartbeats 0
set_option maxRecDepth 20000
theorem QGy (p:Prg) (l:List Pck) (b:Bud):(WT p l b).1.events.length≤l.length:=by
 by_cases h:(Xc p l b).2.2.1=0
 · rw [(WS h).2.2]
   exact Nat.le_of_eq (Zj ..)
 · rw [ye h]
   exact Nat.zero_le _
def QQf:List (List Nat):=[[2,3],[4]]
theorem zf (t:Trc) (ht:t.events.length≤maxLen):Ctr Go.Proofs.Tryz.prog tab 36 [81,81] [4] [t.v,t.v] [.bool true]:=by
 have hcode:True→True:=id
 have hsl:True→True:=id
 refine Ctr.body ok Go.Proofs.Tryz.func36 rfl rfl 24 rfl [.tmp 4] rfl (by simp [QE]) ?_
 simp only [go_sem,Nat.reduceAdd]
 repeat' first
  | ((with_reducible refine Q2 fun R1 hR1=>?_);(simp only [go_sem,seval,-List.reduceReplicate,Bool.cond_false_right,Bool.cond_true_left,decide_true,Bool.not_true,Bool.not_false,Stt.beq]);(repeat' with_reducible refine And.intro ?_ ?_);all_goals first|(refine hR1 _ ?_;clear hR1 R1)|(intro hgf;simp only [hgf];refine hR1 _ ?_;clear hR1 R1)|((first|refine cq (cc (Vd t.events t.events ht ht) (by first|rfl|(simp [go_sem,List.take_of_length_le,List.length_map];done)|fail)) ?_);all_goals ((try simp only [go_sem,seval,-List.reduceReplicate,Bool.cond_false_right,Bool.cond_true_left,decide_true,Bool.not_true,Bool.not_false,Stt.beq]);(repeat' with_reducible refine And.intro ?_ ?_);all_goals first|(refine hR1 _ ?_;clear hR1 R1)|(intro hgf;simp only [hgf];refine hR1 _ ?_;clear hR1 R1)|exact ZQ))|exact ZQ)
  | ((with_reducible refine Q1 ?_);refine hR _ ?_;clear hR R;try simp only [go_sem,QQf,Nat.reduceBEq])
  | (with_reducible first|refine J1 ?_|refine J2 ?_|refine Q0 ?_|refine Qz ?_)
  | ((with_reducible refine rg QQf fun R hR=>?_);simp only [go_sem,QC])
  | ((with_reducible first|refine ZH ?_|refine ZG ?_)
     simp only [go_sem,QJ,QK,QG,seval]
     first
      | (exact ⟨rfl,rfl⟩)
      | (rfl)
      | (refine ⟨rfl,?_⟩
         simp))
def QQg:List (List Nat):=[[0],[0,3],[2]]
theorem QBN (l:List Pck) (hl:l.length≤maxLen) (hz:l.length*16≤140737488355328):Ctr Go.Proofs.Tryz.prog tab 33 [64] [64] [.list (l.map Pck.v)] [.list (l.map Pck.v)]:=by
 have hcode:True→True:=id
 have hsl:True→True:=id
 refine Ctr.body ok Go.Proofs.Tryz.func33 rfl rfl 7 rfl [.tmp 2] rfl (by simp [QE]) ?_
 simp only [go_sem,Nat.reduceAdd]
 repeat' first
  | ((with_reducible refine Q2 fun R1 hR1=>?_);(simp only [go_sem,seval,-List.reduceReplicate,QQ]);(repeat' with_reducible refine And.intro ?_ ?_);all_goals first|(refine hR1 _ ?_;clear hR1 R1)|omega|rfl|decide|assumption|(intro _;omega)|(simp only [QDH];omega)|(simp;done))
  | ((with_reducible refine Q1 ?_);refine hR _ ?_;clear hR R;try simp only [go_sem,QQg,Nat.reduceBEq])
  | (with_reducible first|refine J1 ?_|refine J2 ?_|refine Q0 ?_|refine Qz ?_)
  | ((with_reducible refine rg QQg fun R hR=>?_);simp only [go_sem,QC])
  | ((with_reducible first|refine ZH ?_|refine ZG ?_)
     simp only [go_sem,QJ,QK,QG,seval]
     first
      | (refine ⟨rfl,?_,?_⟩
         · simp [List.take_of_length_le]
         · intro e he j u lo n c h
           simp at he
           subst he
           cases h)
      | (refine ⟨rfl,?_,?_⟩
         · simp [List.take_of_length_le]
         · intro e he
           cases he))
def lv7:List (List Nat):=[[1,3,5],[1,3,5,7],[1,3,5,7,8],[1,3,5,7,8,9,10,11],[1,3,7,8,9,10,11,12,13,14],[6]]
theorem QAl (p:Prg) (l:List Pck) (b:Bud) (hp:p.Fit) (hz:p.Sz) (hl:l.length≤maxLen) (hlz:l.length*16≤140737488355328):Ctr Go.Proofs.Tryz.prog tab 7 [26,64,77] [4] [p.v,.list (l.map Pck.v),b.v] [.bool true]:=by
 have hpp:=hp
 have hcode:True→True:=id
 have hsl:True→True:=id
 have hev:(WT p l b).1.events.length≤maxLen:=Nat.le_trans (QGy p l b) hl
 refine Ctr.body ok Go.Proofs.Tryz.func7 rfl rfl 61 rfl [.tmp 6] rfl (by simp [QE]) ?_
 simp only [go_sem,Nat.reduceAdd]
 repeat' first
  | ((with_reducible refine Q2 fun R1 hR1=>?_);(simp only [go_sem,seval,-List.reduceReplicate,Bool.cond_false_right,Bool.cond_true_left,decide_true,Bool.not_true,Bool.not_false,Stt.beq]);(repeat' with_reducible refine And.intro ?_ ?_);all_goals first|(refine hR1 _ ?_;clear hR1 R1)|(intro hgf;simp only [hgf];refine hR1 _ ?_;clear hR1 R1)|((first|refine ⟨_,_,rfl,.inr (CallE.ctrZ (VK p hpp hz) (by first|rfl|(simp [go_sem,List.take_of_length_le,List.length_map];done)|fail) ?_)⟩|refine ⟨_,_,rfl,.inr ⟨fun _=>CallE.ctrZ (VK p hpp hz) (by first|rfl|(simp [go_sem,List.take_of_length_le,List.length_map];done)|fail) ?_,?_⟩⟩|refine ce (cf (QBN l hl hlz) ?_ (by first|rfl|(simp [go_sem,List.take_of_length_le,List.length_map];done)|fail))|refine ⟨_,_,rfl,.inr ⟨fun _=>CallE.ctr ok (QBN l hl hlz) (by first|rfl|(simp [go_sem,List.take_of_length_le,List.length_map];done)|fail) ?_,?_⟩⟩|refine ⟨_,_,rfl,.inr (CallE.ctrZ (YU p l b hpp hl) (by first|rfl|(simp [go_sem,List.take_of_length_le,List.length_map];done)|fail) ?_)⟩|refine ⟨_,_,rfl,.inr ⟨fun _=>CallE.ctrZ (YU p l b hpp hl) (by first|rfl|(simp [go_sem,List.take_of_length_le,List.length_map];done)|fail) ?_,?_⟩⟩|refine ⟨_,_,rfl,.inr (CallE.ctrZ (QCc p l b hpp hl) (by first|rfl|(simp [go_sem,List.take_of_length_le,List.length_map];done)|fail) ?_)⟩|refine ⟨_,_,rfl,.inr ⟨fun _=>CallE.ctrZ (QCc p l b hpp hl) (by first|rfl|(simp [go_sem,List.take_of_length_le,List.length_map];done)|fail) ?_,?_⟩⟩|refine cq (cc (zf (WT p l b).1 hev) (by first|rfl|(simp [go_sem,List.take_of_length_le,List.length_map];done)|fail)) ?_|refine ⟨_,_,rfl,.inl ⟨_,fun hg=>CallQ.ctr ok (zf (WT p l b).1 hev) (by first|rfl|(simp [go_sem,List.take_of_length_le,List.length_map];done)|fail) rfl,?_⟩⟩|refine cq (cc (VF p hpp) (by first|rfl|(simp [go_sem,List.take_of_length_le,List.length_map];done)|fail)) ?_|refine ⟨_,_,rfl,.inl ⟨_,fun hg=>CallQ.ctr ok (VF p hpp) (by first|rfl|(simp [go_sem,List.take_of_length_le,List.length_map];done)|fail) rfl,?_⟩⟩|refine cq (cc (Y7 l l hl hl) (by first|rfl|(simp [go_sem,List.take_of_length_le,List.length_map];done)|fail)) ?_|refine ⟨_,_,rfl,.inl ⟨_,fun hg=>CallQ.ctr ok (Y7 l l hl hl) (by first|rfl|(simp [go_sem,List.take_of_length_le,List.length_map];done)|fail) rfl,?_⟩⟩|refine cq (cc (Xa) (by first|rfl|(simp [go_sem,List.take_of_length_le,List.length_map];done)|fail)) ?_|refine ⟨_,_,rfl,.inl ⟨_,fun hg=>CallQ.ctr ok (Xa) (by first|rfl|(simp [go_sem,List.take_of_length_le,List.length_map];done)|fail) rfl,?_⟩⟩);all_goals ((try simp only [go_sem,seval,-List.reduceReplicate,Bool.cond_false_right,Bool.cond_true_left,decide_true,Bool.not_true,Bool.not_false,Stt.beq]);(repeat' with_reducible refine And.intro ?_ ?_);all_goals first|(refine hR1 _ ?_;clear hR1 R1)|(intro hgf;simp only [hgf];refine hR1 _ ?_;clear hR1 R1)|exact ZQ))|exact ZQ)
  | ((with_reducible refine Q1 ?_);refine hR _ ?_;clear hR R;try simp only [go_sem,lv7,Nat.reduceBEq])
  | (with_reducible first|refine J1 ?_|refine J2 ?_|refine Q0 ?_|refine Qz ?_)
  | ((with_reducible refine QZ 3 ?_)
     refine Zo (J49 ok.sized 3 rfl) ?_
     simp only [St.frz,Tm.frz,E.frz,E.frzL,Obj.frz,List.map_cons,List.map_nil,List.set_cons_zero,List.set_cons_succ,Nat.reduceBEq,Nat.beq_refl,if_true,if_false,Nat.beq_eq_true_eq,reduceCtorEq,Bool.false_eq_true,V.get,Nat.reduceEqDiff]
     simp only [List.drop_zero,List.take_of_length_le,List.length_map,Nat.le_refl]
     (with_reducible refine rg lv7 fun R hR=>?_);simp only [go_sem,QC])
  | ((with_reducible refine rg lv7 fun R hR=>?_);simp only [go_sem,QC])
  | ((with_reducible first|refine ZH ?_|refine ZG ?_)
     simp only [go_sem,QJ,QK,QG,seval]
     first
      | (exact ⟨rfl,rfl⟩)
      | (rfl)
      | (refine ⟨rfl,?_⟩
         simp))
end Go.Eng.Tryz
