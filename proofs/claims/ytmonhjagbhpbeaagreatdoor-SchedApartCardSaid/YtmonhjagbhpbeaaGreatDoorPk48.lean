/- A part of the proof: walks through the program's functions, and what they compute. -/
import Derived.Test.YtmonhjagbhpbeaaGreatDoorPk40
import Derived.Test.YtmonhjagbhpbeaaGreatDoorPk47
set_option linter.unusedSimpArgs false
set_option linter.unusedVariables false
namespace Go.Eng.Tryz
open Go.RowKit Go.Eng
set_option maxHeartbeats 0
set_option maxRecDepth 20000
theorem QAy (p:Prg) (l:List Int) (b:Bud) (hp:p.Fit) (hl:l.length≤maxLen):Ctr Go.Proofs.Tryz.prog tab 4 [26,23,28] [4] [p.v,.list (l.map V.int),b.v] [.bool true]:=by
 have hpp:=hp
 have hcode:True→True:=id
 have hsl:True→True:=id
 have hmx:400≤maxLen:=by decide
 have hcl2:=QG9 p l b
 have hcl:(QJ p l b).length≤maxLen:=Nat.le_trans hcl2 (by decide)
 refine Ctr.body ok Go.Proofs.Tryz.func4 rfl rfl 112 rfl [.tmp 6] rfl (by simp [QF]) ?_
 simp only [go_sem,Nat.reduceAdd]
 repeat' first
  | ((with_reducible refine Q5 fun R1 hR1=>?_);(simp only [go_sem,seval,-List.reduceReplicate,Bool.cond_false_right,Bool.cond_true_left,QE,decide_true,Bool.not_true,Bool.not_false,List.take_succ_cons,List.take_zero,List.drop_succ_cons,List.drop_zero]);(repeat' with_reducible refine And.intro ?_ ?_);all_goals first|(refine hR1 _ ?_;clear hR1 R1)|(intro hgf;simp only [hgf];refine hR1 _ ?_;clear hR1 R1)|((first|refine ce (wO (qm p l b hpp hl) ?_)|refine ⟨_,_,rfl,.inr ⟨fun _=>CallE.ctr ok (qm p l b hpp hl) (by first|rfl|(simp [go_sem,List.take_of_length_le,List.length_map,List.map_take,List.drop_zero];done)|fail) ?_,?_⟩⟩|refine cq (VK (yA)) ?_|refine Y4 (fun hg=>VK (yA)) ?_|refine ce (wO (hSt) ?_)|refine ⟨_,_,rfl,.inr ⟨fun _=>CallE.ctr ok (hSt) (by first|rfl|(simp [go_sem,List.take_of_length_le,List.length_map,List.map_take,List.drop_zero];done)|fail) ?_,?_⟩⟩|refine ⟨_,_,rfl,.inr (CallE.ctrZ (hRf) (by first|rfl|(simp [go_sem,List.take_of_length_le,List.length_map,List.map_take,List.drop_zero];done)|fail) ?_)⟩|refine ⟨_,_,rfl,.inr ⟨fun _=>CallE.ctrZ (hRf) (by first|rfl|(simp [go_sem,List.take_of_length_le,List.length_map,List.map_take,List.drop_zero];done)|fail) ?_,?_⟩⟩|refine cq (VK (yh ⟨Qh p (QJ p l b) b,Qs p (QJ p l b) b,(decide (((QJ p l b).length:Int)=b.steps)&&decide (0<(ready p (Qs p (QJ p l b) b)).length))⟩ hev)) ?_|refine Y4 (fun hg=>VK (yh ⟨Qh p (QJ p l b) b,Qs p (QJ p l b) b,(decide (((QJ p l b).length:Int)=b.steps)&&decide (0<(ready p (Qs p (QJ p l b) b)).length))⟩ hev)) ?_|((refine ⟨_,_,rfl,.inr (CallE.ctrA ok hTA (by simp [go_sem,List.take_of_length_le]) ?_)⟩);(simp only [List.cons_append,List.nil_append,Yu,List.take_succ_cons,List.take_zero,List.drop_succ_cons,List.drop_zero])));all_goals ((try simp only [go_sem,seval,-List.reduceReplicate,Bool.cond_false_right,Bool.cond_true_left,QE,decide_true,Bool.not_true,Bool.not_false,List.take_succ_cons,List.take_zero,List.drop_succ_cons,List.drop_zero]);(repeat' with_reducible refine And.intro ?_ ?_);all_goals first|(refine hR1 _ ?_;clear hR1 R1)|(intro hgf;simp only [hgf];refine hR1 _ ?_;clear hR1 R1)|exact VL))|exact VL)
  | ((with_reducible refine Q4 ?_);refine hR _ ?_;clear hR R;try simp only [go_sem,lv4,Nat.reduceBEq])
  | (with_reducible first|refine J1 ?_|refine J2 ?_|refine J3 ?_|refine J4 ?_|refine J5 ?_|refine J6 ?_|refine J7 ?_|refine J8 (by decide) ?_|refine J9 ?_|refine Xu ?_|refine Q2 ?_|refine Q1 ?_|refine Yc ?_|refine Xt ?_)
  | ((with_reducible refine Qe 4 ?_)
     have hS:=QJm hb33
     obtain ⟨hOk,_,hO⟩:=YZ hS
     have hTA:=QCA p (QJ p l b) b hpp hcl hS
     have hT:=YP p (QJ p l b) b hpp hcl
     rw [hO] at hT
     have hevl:(Qh p (QJ p l b) b).length=(QJ p l b).length:=Yk ..
     have hev:(Qh p (QJ p l b) b).length≤maxLen:=by omega
     have hSt:=vh p (QJ p l b) b hpp hcl
     rw [hOk.eq] at hSt
     have hstl:(Q0 QB p b.fuel (start QB p b.fuel).1 (QJ p l b) (QJ p l b).length).length=(QJ p l b).length+1:=WX ..
     have hRf:=QHY p (QJ p l b) b hpp hcl
     rw [hO] at hRf
     (with_reducible refine rg lv4 fun R hR=>?_);simp only [go_sem,QC])
  | ((with_reducible refine Qe 7 ?_)
     refine Zv (J49 ok.sized 5 rfl) ?_
     simp only [St.frz,Tm.frz,E.frz,E.frzL,Obj.frz,List.map_cons,List.map_nil,List.set_cons_zero,List.set_cons_succ,Nat.reduceBEq,Nat.beq_refl,if_true,if_false,Nat.beq_eq_true_eq,reduceCtorEq,Bool.false_eq_true,V.get,Nat.reduceEqDiff]
     simp only [List.drop_zero,List.take_of_length_le,List.length_map,Nat.le_refl]
     refine Zv (St.le.ofAgg 6 (ts:=[36,47,4]) QPk rfl rfl) ?_
     simp only [List.set_cons_succ,List.set_cons_zero]
     (with_reducible refine rg lv4 fun R hR=>?_);simp only [go_sem,QC])
  | ((with_reducible refine Qe 12 ?_)
     have hi2:i=(Qh p (QJ p l b) b).length:=by omega
     subst hi2
     (with_reducible refine rg lv4 fun R hR=>?_);simp only [go_sem,QC])
  | ((with_reducible refine Qe 17 ?_)
     have hi2:i=(Q0 QB p b.fuel (start QB p b.fuel).1 (QJ p l b) (QJ p l b).length).length:=by omega
     subst hi2
     (with_reducible refine rg lv4 fun R hR=>?_);simp only [go_sem,QC])
  | ((with_reducible refine Qe 22 ?_)
     have hi2:i=(QJ p l b).length:=by omega
     subst hi2
     (with_reducible refine rg lv4 fun R hR=>?_);simp only [go_sem,QC])
  | ((with_reducible refine Qe 23 ?_)
     refine Zv (J49 ok.sized 8 rfl) ?_
     simp only [St.frz,Tm.frz,E.frz,E.frzL,Obj.frz,List.map_cons,List.map_nil,List.set_cons_zero,List.set_cons_succ,Nat.reduceBEq,Nat.beq_refl,if_true,if_false,Nat.beq_eq_true_eq,reduceCtorEq,Bool.false_eq_true,V.get,Nat.reduceEqDiff]
     simp only [List.drop_zero,List.take_of_length_le,List.length_map,Nat.le_refl]
     (with_reducible refine rg lv4 fun R hR=>?_);simp only [go_sem,QC])
  | ((with_reducible refine rg lv4 fun R hR=>?_);simp only [go_sem,QC])
  | ((with_reducible refine QI 33 rfl (fun hb33=>?_) fun hb33=>?_);all_goals (try simp [-List.getD_eq_getElem?_getD] at hb33;try (exfalso;omega)))
  | ((with_reducible refine SA.cond rfl ?_ ?_)
     all_goals
      intro hb
      try simp [-List.getD_eq_getElem?_getD] at hb
      try (exfalso;omega))
  | ((with_reducible refine Ya ?_)
     refine Zv (Qo (by first|rfl|(simp;done)|fail)) (Yb (fun n τ=>∃ (i:Nat),n=(Qh p (QJ p l b) b).length-i∧(i≤(Qh p (QJ p l b) b).length)∧τ={ tm:=[(1,true,.fs 3 (l.map V.int) false),(3,true,.ptr 0 [] 26),(5,true,.ptr 1 [] 28),(7,true,.sl 2 56 0 (QJ p l b).length false),(9,true,.ptr 4 [] 49),(12,true,.ptr 6 [] 49),(15,true,.sl 7 47 0 (Q0 QB p b.fuel (start QB p b.fuel).1 (QJ p l b) (QJ p l b).length).length false),(60,true,.int .i64 (Qh p (QJ p l b) b).length),(61,true,.int .i64 i)],ob:=[.var 26 (.data 26 p.v),.var 28 (.data 28 b.v),.row 56 ((QJ p l b).map Pck.v),.row 63 (List.replicate i (V.setSub (tab.zero 63) 0 (.int 9))++(((Qh p (QJ p l b) b).map Event.v)).drop i),.var 49 (.agg 49 [.sl 3 63 0 (Qh p (QJ p l b) b).length false,.data 47 (Qs p (QJ p l b) b).v,.bool (decide (((QJ p l b).length:Int)=b.steps)&&decide (0<(ready p (Qs p (QJ p l b) b)).length))]),.dead,.var 49 (.data 49 (Trc.v ⟨Qh p (QJ p l b) b,Qs p (QJ p l b) b,(decide (((QJ p l b).length:Int)=b.steps)&&decide (0<(ready p (Qs p (QJ p l b) b)).length))⟩)),.row 47 ((Q0 QB p b.fuel (start QB p b.fuel).1 (QJ p l b) (QJ p l b).length).map Stt.v)],out:=[],nt:=112 }) ((Qh p (QJ p l b) b).length) ⟨0,rfl,Nat.zero_le _,rfl⟩ ?_)
     rintro n τ ⟨i,hn,hi,rfl⟩)
  | ((with_reducible refine Ya ?_)
     refine Zv (Qo (by first|rfl|(simp;done)|fail)) (Yb (fun n τ=>∃ (i:Nat),n=(Q0 QB p b.fuel (start QB p b.fuel).1 (QJ p l b) (QJ p l b).length).length-i∧(i≤(Q0 QB p b.fuel (start QB p b.fuel).1 (QJ p l b) (QJ p l b).length).length)∧τ={ tm:=[(1,true,.fs 3 (l.map V.int) false),(3,true,.ptr 0 [] 26),(5,true,.ptr 1 [] 28),(7,true,.sl 2 56 0 (QJ p l b).length false),(12,true,.ptr 6 [] 49),(15,true,.sl 7 47 0 (Q0 QB p b.fuel (start QB p b.fuel).1 (QJ p l b) (QJ p l b).length).length false),(71,true,.int .i64 (Q0 QB p b.fuel (start QB p b.fuel).1 (QJ p l b) (QJ p l b).length).length),(72,true,.int .i64 i)],ob:=[.var 26 (.data 26 p.v),.var 28 (.data 28 b.v),.row 56 ((QJ p l b).map Pck.v),.row 63 (List.replicate ((Qh p (QJ p l b) b).length) (V.setSub (tab.zero 63) 0 (.int 9))++(((Qh p (QJ p l b) b).map Event.v)).drop ((Qh p (QJ p l b) b).length)),.var 49 (.agg 49 [.sl 3 63 0 (Qh p (QJ p l b) b).length false,.data 47 (Qs p (QJ p l b) b).v,.bool (decide (((QJ p l b).length:Int)=b.steps)&&decide (0<(ready p (Qs p (QJ p l b) b)).length))]),.dead,.var 49 (.data 49 (Trc.v ⟨Qh p (QJ p l b) b,Qs p (QJ p l b) b,(decide (((QJ p l b).length:Int)=b.steps)&&decide (0<(ready p (Qs p (QJ p l b) b)).length))⟩)),.row 47 (List.replicate i (Stt.v ⟨zeroStt.vars,zeroStt.owner,zeroStt.chans,zeroStt.gos,99⟩)++(((Q0 QB p b.fuel (start QB p b.fuel).1 (QJ p l b) (QJ p l b).length).map Stt.v)).drop i)],out:=[],nt:=112 }) ((Q0 QB p b.fuel (start QB p b.fuel).1 (QJ p l b) (QJ p l b).length).length) ⟨0,rfl,Nat.zero_le _,rfl⟩ ?_)
     rintro n τ ⟨i,hn,hi,rfl⟩)
  | ((with_reducible refine Ya ?_)
     refine Zv (Qo (by first|rfl|(simp;done)|fail)) (Yb (fun n τ=>∃ (i:Nat),n=(QJ p l b).length-i∧(i≤(QJ p l b).length)∧τ={ tm:=[(1,true,.fs 3 (l.map V.int) false),(3,true,.ptr 0 [] 26),(5,true,.ptr 1 [] 28),(7,true,.sl 2 56 0 (QJ p l b).length false),(12,true,.ptr 6 [] 49),(81,true,.int .i64 (QJ p l b).length),(82,true,.int .i64 i)],ob:=[.var 26 (.data 26 p.v),.var 28 (.data 28 b.v),.row 56 (List.replicate i (V.setSub (tab.zero 56) 0 (.int 9))++(((QJ p l b).map Pck.v)).drop i),.row 63 (List.replicate ((Qh p (QJ p l b) b).length) (V.setSub (tab.zero 63) 0 (.int 9))++(((Qh p (QJ p l b) b).map Event.v)).drop ((Qh p (QJ p l b) b).length)),.var 49 (.agg 49 [.sl 3 63 0 (Qh p (QJ p l b) b).length false,.data 47 (Qs p (QJ p l b) b).v,.bool (decide (((QJ p l b).length:Int)=b.steps)&&decide (0<(ready p (Qs p (QJ p l b) b)).length))]),.dead,.var 49 (.data 49 (Trc.v ⟨Qh p (QJ p l b) b,Qs p (QJ p l b) b,(decide (((QJ p l b).length:Int)=b.steps)&&decide (0<(ready p (Qs p (QJ p l b) b)).length))⟩)),.row 47 (List.replicate ((Q0 QB p b.fuel (start QB p b.fuel).1 (QJ p l b) (QJ p l b).length).length) (Stt.v ⟨zeroStt.vars,zeroStt.owner,zeroStt.chans,zeroStt.gos,99⟩)++(((Q0 QB p b.fuel (start QB p b.fuel).1 (QJ p l b) (QJ p l b).length).map Stt.v)).drop ((Q0 QB p b.fuel (start QB p b.fuel).1 (QJ p l b) (QJ p l b).length).length))],out:=[],nt:=112 }) ((QJ p l b).length) ⟨0,rfl,Nat.zero_le _,rfl⟩ ?_)
     rintro n τ ⟨i,hn,hi,rfl⟩)
  | ((with_reducible refine WC ?_)
     first
      | (have hlt:i<(Qh p (QJ p l b) b).length:=by omega
         have hw:=QD (m:=300) (show i<300 by omega) (by decide)
         refine Z0 ((Qh p (QJ p l b) b).length-(i+1)) _ (by omega) (Qo (by simp only [hw,QBS (V.setSub (tab.zero 63) 0 (.int 9)) (((Qh p (QJ p l b) b).map Event.v)) (i:=i) (by simp only [List.length_map];omega)])) ⟨i+1,rfl,hlt,rfl⟩)
      | (have hlt:i<(Q0 QB p b.fuel (start QB p b.fuel).1 (QJ p l b) (QJ p l b).length).length:=by omega
         have hw:=QD (m:=300) (show i<300 by omega) (by decide)
         refine Z0 ((Q0 QB p b.fuel (start QB p b.fuel).1 (QJ p l b) (QJ p l b).length).length-(i+1)) _ (by omega) (Qo (by simp only [hw,QBS (Stt.v ⟨zeroStt.vars,zeroStt.owner,zeroStt.chans,zeroStt.gos,99⟩) (((Q0 QB p b.fuel (start QB p b.fuel).1 (QJ p l b) (QJ p l b).length).map Stt.v)) (i:=i) (by simp only [List.length_map];omega)])) ⟨i+1,rfl,hlt,rfl⟩)
      | (have hlt:i<(QJ p l b).length:=by omega
         have hw:=QD (m:=300) (show i<300 by omega) (by decide)
         refine Z0 ((QJ p l b).length-(i+1)) _ (by omega) (Qo (by simp only [hw,QBS (V.setSub (tab.zero 56) 0 (.int 9)) (((QJ p l b).map Pck.v)) (i:=i) (by simp only [List.length_map];omega)])) ⟨i+1,rfl,hlt,rfl⟩))
  | ((with_reducible first|refine ZQ ?_|refine ZP ?_)
     simp only [go_sem,QL,QM,QH,seval]
     first
      | (exact ⟨rfl,rfl⟩)
      | (rfl)
      | (refine ⟨rfl,?_⟩
         simp))
end Go.Eng.Tryz
