/- A part of the proof: walks through the program's functions, and what they compute. -/
import Derived.Test.YtedceinkpkoncaaGreatDoorPk46
set_option linter.unusedSimpArgs false
set_option linter.unusedVariables false
namespace Go.Eng.Tryz
open Go.RowKit Go.Eng
set_option maxHeartbeats 0
set_option maxRecDepth 20000
theorem yY {α:Type} [Inhabited α] (f:α→V) (l:List α) {i:Nat} (h:i<l.length):(l.take (i+1)).map f=(l.take i).map f++[f (l.getD i default)]:=by
 rw [List.take_succ_eq_append_getElem h,List.map_append]
 simp [List.getD_eq_getElem?_getD,h]
def QAs:List (List Nat):=[[1,2],[1,2,3],[1,2,3],[1,2,3],[1,2,3],[2,3,26,27,28],[2,3,26,27,28,29],[2,3,5,26,27,28],[2,3,5,6,26,27,28],[2,3,5,6,26,27,28],[2,3,5,6,26,27,28],[2,3,5,6,26,27,28],[2,3,6,26,27,28,45,46,47],[2,3,6,26,27,28,45,46,47,48],[2,3,6,8,26,27,28,45,46,47],[2,3,6,8,9,26,27,28,45,46,47],[2,3,6,8,9,26,27,28,45,46,47],[2,3,6,9,26,27,28,45,46,47],[2,3,6,26,27,28,45,46,47],[2,3,6,26,27,28,45,46,47],[2,3,26,27,28],[2,3,26,27,28],[2]]
theorem VK (p:Prg) (hp:p.Fit) (hz:p.Sz):CtrZ Go.Proofs.Tryz.prog tab 14 [26] [26] [p.v] [p.v]:=by
 have hcode:True→True:=id
 have hsl:True→True:=id
 obtain ⟨hp1,hp2,hp3,hp4⟩:=hp
 obtain ⟨hz1,hz2,hz3,hz4⟩:=hz
 refine CtrZ.body ok Go.Proofs.Tryz.func14 rfl rfl 75 rfl [.cell 2 26] rfl (by simp [QE]) ?_
 simp only [go_sem,Nat.reduceAdd]
 repeat' first
  | ((with_reducible refine SARA.told 7 _ ?_);try simp only [hAt])
  | ((with_reducible refine SARA.told 14 _ ?_);try simp only [hBt])
  | ((with_reducible refine Q2 fun R1 hR1=>?_);(simp only [go_sem,seval,-List.reduceReplicate,QQ,List.length_take]);(repeat' with_reducible refine And.intro ?_ ?_);all_goals first|(refine hR1 _ ?_;clear hR1 R1)|omega|rfl|decide|assumption|(intro _;omega)|(simp only [by3,QJr,QJu,QJs,QJt,QJq];omega)|(simp;done)|(simp [-List.getD_eq_getElem?_getD];omega)|(simp [-List.getD_eq_getElem?_getD,by3,QJr,QJu,QJs,QJt,QJq];omega))
  | ((with_reducible refine Q1 ?_);refine hR _ ?_;clear hR R;try simp only [go_sem,QAs,Nat.reduceBEq])
  | (with_reducible first|refine J1 ?_|refine J2 ?_|refine J3 ?_|refine J4 ?_|refine J5 ?_|refine J6 ?_|refine J7 ?_|refine J8 (by decide) ?_|refine J9 ?_|refine WL ?_|refine Q0 ?_|refine Qz ?_|refine YZ ?_|refine WK ?_)
  | ((with_reducible refine QZ 4 ?_)
     refine Zo (J49 ok.sized 3 rfl) ?_
     simp only [St.frz,Tm.frz,E.frz,E.frzL,Obj.frz,List.map_cons,List.map_nil,List.set_cons_zero,List.set_cons_succ,Nat.reduceBEq,Nat.beq_refl,if_true,if_false,Nat.beq_eq_true_eq,reduceCtorEq,Bool.false_eq_true,V.get,Nat.reduceEqDiff]
     simp only [List.drop_zero,List.take_of_length_le,List.length_map,Nat.le_refl]
     (with_reducible refine rg QAs fun R hR=>?_);simp only [go_sem,QC])
  | ((with_reducible refine QZ 5 ?_)
     refine Zo (J49 ok.sized 4 rfl) ?_
     simp only [St.frz,Tm.frz,E.frz,E.frzL,Obj.frz,List.map_cons,List.map_nil,List.set_cons_zero,List.set_cons_succ,Nat.reduceBEq,Nat.beq_refl,if_true,if_false,Nat.beq_eq_true_eq,reduceCtorEq,Bool.false_eq_true,V.get,Nat.reduceEqDiff]
     simp only [List.drop_zero,List.take_of_length_le,List.length_map,Nat.le_refl]
     (with_reducible refine rg QAs fun R hR=>?_);simp only [go_sem,QC])
  | ((with_reducible refine QZ 7 ?_)
     have hlt:i<p.funcs.length:=by omega
     have hAt:=Qr Fnc.v p.funcs (i:=i) (by omega)
     obtain ⟨hf1,hf2,hf3⟩:=hp4 _ (Qn p.funcs hlt)
     obtain ⟨hg1,hg2,hg3⟩:=hz4 _ hlt
     (with_reducible refine rg QAs fun R hR=>?_);simp only [go_sem,QC])
  | ((with_reducible refine QZ 12 ?_)
     refine Zo (J49 ok.sized 8 rfl) ?_
     simp only [St.frz,Tm.frz,E.frz,E.frzL,Obj.frz,List.map_cons,List.map_nil,List.set_cons_zero,List.set_cons_succ,Nat.reduceBEq,Nat.beq_refl,if_true,if_false,Nat.beq_eq_true_eq,reduceCtorEq,Bool.false_eq_true,V.get,Nat.reduceEqDiff]
     simp only [List.drop_zero,List.take_of_length_le,List.length_map,Nat.le_refl]
     (with_reducible refine rg QAs fun R hR=>?_);simp only [go_sem,QC])
  | ((with_reducible refine QZ 14 ?_)
     have hltk:k<(p.funcs.getD i default).sels.length:=by omega
     have hBt:=Qr Sel.v (p.funcs.getD i default).sels (i:=k) (by omega)
     have hc1:=hf3 _ (Qn (p.funcs.getD i default).sels hltk)
     have hc2:=hg3 _ hltk
     (with_reducible refine rg QAs fun R hR=>?_);simp only [go_sem,QC])
  | ((with_reducible refine QZ 18 ?_)
     refine Zo (J49 ok.sized 12 rfl) ?_
     simp only [St.frz,Tm.frz,E.frz,E.frzL,Obj.frz,List.map_cons,List.map_nil,List.set_cons_zero,List.set_cons_succ,Nat.reduceBEq,Nat.beq_refl,if_true,if_false,Nat.beq_eq_true_eq,reduceCtorEq,Bool.false_eq_true,V.get,Nat.reduceEqDiff]
     simp only [List.drop_zero,List.take_of_length_le,List.length_map,Nat.le_refl]
     refine Zo (St.le.ofAgg 11 (ts:=[122,3]) QDc rfl rfl) ?_
     simp only [List.set_cons_succ,List.set_cons_zero]
     (with_reducible refine rg QAs fun R hR=>?_);simp only [go_sem,QC])
  | ((with_reducible refine QZ 20 ?_)
     have hke:k=(p.funcs.getD i default).sels.length:=by omega
     subst hke
     refine Zo (J49 ok.sized 9 rfl) ?_
     simp only [St.frz,Tm.frz,E.frz,E.frzL,Obj.frz,List.map_cons,List.map_nil,List.set_cons_zero,List.set_cons_succ,Nat.reduceBEq,Nat.beq_refl,if_true,if_false,Nat.beq_eq_true_eq,reduceCtorEq,Bool.false_eq_true,V.get,Nat.reduceEqDiff]
     simp only [List.drop_zero,List.take_of_length_le,List.length_map,Nat.le_refl]
     refine Zo (St.le.ofAgg 7 (ts:=[3,3,118,119]) QA7 rfl rfl) ?_
     simp only [List.set_cons_succ,List.set_cons_zero]
     (with_reducible refine rg QAs fun R hR=>?_);simp only [go_sem,QC])
  | ((with_reducible refine QZ 22 ?_)
     have hie:i=p.funcs.length:=by omega
     subst hie
     refine Zo (J49 ok.sized 5 rfl) ?_
     simp only [St.frz,Tm.frz,E.frz,E.frzL,Obj.frz,List.map_cons,List.map_nil,List.set_cons_zero,List.set_cons_succ,Nat.reduceBEq,Nat.beq_refl,if_true,if_false,Nat.beq_eq_true_eq,reduceCtorEq,Bool.false_eq_true,V.get,Nat.reduceEqDiff]
     simp only [List.drop_zero,List.take_of_length_le,List.length_map,Nat.le_refl]
     refine Zo (St.le.ofAgg 2 (ts:=[22,3,23,24]) QGm rfl rfl) ?_
     simp only [List.set_cons_succ,List.set_cons_zero]
     (with_reducible refine rg QAs fun R hR=>?_);simp only [go_sem,QC])
  | ((with_reducible refine rg QAs fun R hR=>?_);simp only [go_sem,QC])
  | ((with_reducible refine SA.cond rfl ?_ ?_)
     all_goals
      intro hb
      try simp [-List.getD_eq_getElem?_getD] at hb
      try (exfalso;omega))
  | ((with_reducible refine YQ ?_)
     refine Zo ((St.le.ownPart 2 3 (e:=121) rfl rfl).trans (Qq (by simp))) (YR (fun n τ=>∃ (i:Nat),n=p.funcs.length-i∧(i≤p.funcs.length)∧τ={ tm:=[(2,true,.ptr 1 [] 26),(3,true,.ptr 2 [] 26),(26,true,.fs 121 (p.funcs.map Fnc.v) false),(27,true,.int .i64 p.funcs.length),(28,true,.int .i64 i)],ob:=[.var 26 (.data 26 p.v),.var 26 (.agg 26 [.nilsl,.int .i64 0,.nilsl,.nilsl]),.var 26 (.agg 26 [.fs 139 (p.vars.map Vr.v) false,.int .i64 p.locks,.fs 3 (p.chans.map V.int) false,.sl 5 121 0 i false]),.dead,.dead,.row 121 ((p.funcs.take i).map Fnc.v)],out:=[],nt:=75 }) (p.funcs.length) ⟨0,rfl,by omega,rfl⟩ ?_)
     rintro n τ ⟨i,hn,hi,rfl⟩)
  | ((with_reducible refine YQ ?_)
     refine Zo ((St.le.ownPart 7 3 (e:=124) rfl rfl).trans (Qq (by simp))) (YR (fun n τ=>∃ (k:Nat),n=(p.funcs.getD i default).sels.length-k∧(k≤(p.funcs.getD i default).sels.length)∧τ={ tm:=[(2,true,.ptr 1 [] 26),(3,true,.ptr 2 [] 26),(6,true,.ptr 7 [] 121),(26,true,.fs 121 (p.funcs.map Fnc.v) false),(27,true,.int .i64 p.funcs.length),(28,true,.int .i64 i),(45,true,.fs 124 ((p.funcs.getD i default).sels.map Sel.v) false),(46,true,.int .i64 (p.funcs.getD i default).sels.length),(47,true,.int .i64 k)],ob:=[.var 26 (.data 26 p.v),.var 26 (.agg 26 [.nilsl,.int .i64 0,.nilsl,.nilsl]),.var 26 (.agg 26 [.fs 139 (p.vars.map Vr.v) false,.int .i64 p.locks,.fs 3 (p.chans.map V.int) false,.sl 5 121 0 i false]),.dead,.dead,.row 121 ((p.funcs.take i).map Fnc.v),.var 121 (.data 121 (p.funcs.getD i default).v),.var 121 (.agg 121 [.int .i64 (p.funcs.getD i default).params,.int .i64 (p.funcs.getD i default).regs,.fs 129 ((p.funcs.getD i default).code.map Instr.v) false,.sl 9 124 0 k false]),.dead,.row 124 (((p.funcs.getD i default).sels.take k).map Sel.v)],out:=[],nt:=75 }) ((p.funcs.getD i default).sels.length) ⟨0,rfl,by omega,rfl⟩ ?_)
     rintro n τ ⟨k,hn,hk,rfl⟩)
  | ((with_reducible refine WM ?_)
     first
      | (have hlt:i<p.funcs.length:=by omega
         have hw:=QD hlt hp3
         have e:=yY Fnc.v p.funcs hlt
         refine Zt (p.funcs.length-(i+1)) _ (by omega) ((WN 6 rfl).trans (Qq (by rw [e];simp [-List.getD_eq_getElem?_getD,hw,List.take_of_length_le,List.take_take,Nat.min_self,Fnc.v]))) ⟨i+1,rfl,hlt,rfl⟩)
      | (have hlt:k<(p.funcs.getD i default).sels.length:=by omega
         have hw:=QD hlt hf2
         have e:=yY Sel.v (p.funcs.getD i default).sels hlt
         refine Zt ((p.funcs.getD i default).sels.length-(k+1)) _ (by omega) ((WN 10 rfl).trans (Qq (by rw [e];simp [-List.getD_eq_getElem?_getD,hw,List.take_of_length_le,List.take_take,Nat.min_self,Sel.v]))) ⟨k+1,rfl,hlt,rfl⟩))
  | ((with_reducible first|refine J46 ?_|refine J47 ?_)
     simp only [go_sem,QJ,QK,QG,seval]
     first
      | (exact rfl)
      | (rfl))
end Go.Eng.Tryz
namespace Go.Eng.Tryz
open Go.RowKit Go.Eng
set_option maxHeartbeats 0
set_option maxRecDepth 20000
def QHE:List (List Nat):=[[2,3],[2,3,39],[4],[2,3,42,43],[2,3,42,43,44],[2,3,5,42,43],[2,3,42,43,56],[4],[2,3,42,43],[2,3,60,61],[2,3,60,61,62],[2,3,6,60,61],[2,3,6,7,60,61],[2,3,7,8,60,61],[2,3,7,8,60,61,87],[4],[2,3,7,8,60,61,90,91],[2,3,7,8,60,61,90,91,92],[2,3,7,8,9,60,61,90,91],[2,3,7,8,60,61,90,91,104],[4],[2,3,7,8,60,61,90,91],[2,3,60,61],[4]]
theorem yd (f:Fnc) (hf:f.Fit):Ctr Go.Proofs.Tryz.prog tab 69 [121,121] [4] [f.v,f.v] [.bool true]:=by
 have hcode:True→True:=id
 have hsl:True→True:=id
 obtain ⟨hf1,hf2,hf3⟩:=hf
 refine Ctr.body ok Go.Proofs.Tryz.func69 rfl rfl 107 rfl [.tmp 4] rfl (by simp [QE]) ?_
 simp only [go_sem,Nat.reduceAdd]
 repeat' first
  | ((with_reducible refine SARQ.told 6 _ ?_);try simp only [hAt])
  | ((with_reducible refine SARA.told 12 _ ?_);try simp only [hAt])
  | ((with_reducible refine SARA.told 13 _ ?_);try simp only [hAt])
  | ((with_reducible refine SARQ.told 19 _ ?_);try simp only [hBt])
  | ((with_reducible first|refine Q2 fun R1 hR1=>?_|refine xP fun R1 hR1=>?_);(simp only [go_sem,seval,-List.reduceReplicate,decide_true,decide_false,Bool.not_true,Bool.not_false,Instr.beq,Cas.beq,Vr.beq,Bool.cond_false_right,Bool.cond_true_left]);(repeat' with_reducible refine And.intro ?_ ?_);all_goals first|(refine hR1 _ ?_;clear hR1 R1)|(intro hgf;simp only [hgf];refine hR1 _ ?_;clear hR1 R1)|exact Xk)
  | ((with_reducible first|refine Q1 ?_|refine xO ?_);refine hR _ ?_;clear hR R;try simp only [go_sem,QHE,Nat.reduceBEq])
  | (with_reducible first|refine J1 ?_|refine J2 ?_|refine J3 ?_|refine J4 ?_|refine J5 ?_|refine J6 ?_|refine J7 ?_|refine J8 (by decide) ?_|refine J9 ?_|refine WL ?_|refine Q0 ?_|refine Qz ?_|refine YZ ?_|refine WK ?_)
  | ((with_reducible refine QZ 6 ?_)
     have hlt:i<f.code.length:=by omega
     have hAt:=Qr Instr.v f.code (i:=i) (by omega)
     (with_reducible refine Vv ok QN (by kernel_rfl) (by kernel_rfl) QHE ?_);intro R hR;simp only [go_sem,QC])
  | ((with_reducible refine QZ 12 ?_)
     have hlt:i<f.sels.length:=by omega
     have hAt:=Qr Sel.v f.sels (i:=i) (by omega)
     have hf4:=hf3 _ (Qn f.sels hlt)
     (with_reducible refine rg QHE fun R hR=>?_);simp only [go_sem,QC])
  | ((with_reducible refine QZ 19 ?_)
     have hltk:k<(f.sels.getD i default).cases.length:=by omega
     have hBt:=Qr Cas.v (f.sels.getD i default).cases (i:=k) (by omega)
     (with_reducible refine Vv ok QN (by kernel_rfl) (by kernel_rfl) QHE ?_);intro R hR;simp only [go_sem,QC])
  | ((with_reducible refine rg QHE fun R hR=>?_);simp only [go_sem,QC])
  | ((with_reducible refine Vv ok QN (by kernel_rfl) (by kernel_rfl) QHE ?_);intro R hR;simp only [go_sem,QC])
  | ((with_reducible refine QH 39 rfl (fun hb39=>?_) fun hb39=>?_);all_goals (try simp [-List.getD_eq_getElem?_getD] at hb39;try (exfalso;omega)))
  | ((with_reducible refine QH 56 rfl (fun hb56=>?_) fun hb56=>?_);all_goals (try simp [-List.getD_eq_getElem?_getD] at hb56;try (exfalso;omega)))
  | ((with_reducible refine QH 87 rfl (fun hb87=>?_) fun hb87=>?_);all_goals (try simp [-List.getD_eq_getElem?_getD] at hb87;try (exfalso;omega)))
  | ((with_reducible refine QH 104 rfl (fun hb104=>?_) fun hb104=>?_);all_goals (try simp [-List.getD_eq_getElem?_getD] at hb104;try (exfalso;omega)))
  | ((with_reducible refine SA.cond rfl ?_ ?_)
     all_goals
      intro hb
      try simp [-List.getD_eq_getElem?_getD] at hb
      try (exfalso;omega))
  | ((with_reducible refine YQ ?_)
     refine Zo (Qq (by first|rfl|(simp;done)|fail)) (YR (fun n τ=>∃ (i:Nat),n=f.code.length-i∧(i≤f.code.length)∧τ={ tm:=[(2,true,.ptr 0 [] 121),(3,true,.ptr 1 [] 121),(42,true,.int .i64 f.code.length),(43,true,.int .i64 i)],ob:=[.var 121 (.data 121 f.v),.var 121 (.data 121 f.v)],out:=[],nt:=107 }) (f.code.length) ⟨0,rfl,by omega,rfl⟩ ?_)
     rintro n τ ⟨i,hn,hii,rfl⟩)
  | ((with_reducible refine YQ ?_)
     refine Zo (Qq (by first|rfl|(simp;done)|fail)) (YR (fun n τ=>∃ (i:Nat),n=f.sels.length-i∧(i≤f.sels.length)∧τ={ tm:=[(2,true,.ptr 0 [] 121),(3,true,.ptr 1 [] 121),(60,true,.int .i64 f.sels.length),(61,true,.int .i64 i)],ob:=[.var 121 (.data 121 f.v),.var 121 (.data 121 f.v)],out:=[],nt:=107 }) (f.sels.length) ⟨0,rfl,by omega,rfl⟩ ?_)
     rintro n τ ⟨i,hn,hii,rfl⟩)
  | ((with_reducible refine YQ ?_)
     refine Zo (Qq (by first|rfl|(simp;done)|fail)) (YR (fun n τ=>∃ (k:Nat),n=(f.sels.getD i default).cases.length-k∧(k≤(f.sels.getD i default).cases.length)∧τ={ tm:=[(2,true,.ptr 0 [] 121),(3,true,.ptr 1 [] 121),(7,true,.ptr 2 [] 124),(8,true,.ptr 3 [] 124),(60,true,.int .i64 f.sels.length),(61,true,.int .i64 i),(90,true,.int .i64 (f.sels.getD i default).cases.length),(91,true,.int .i64 k)],ob:=[.var 121 (.data 121 f.v),.var 121 (.data 121 f.v),.var 124 (.data 124 (f.sels.getD i default).v),.var 124 (.data 124 (f.sels.getD i default).v)],out:=[],nt:=107 }) ((f.sels.getD i default).cases.length) ⟨0,rfl,by omega,rfl⟩ ?_)
     rintro n τ ⟨k,hn,hik,rfl⟩)
  | ((with_reducible refine WM ?_)
     first
      | (have hlt:i<f.code.length:=by omega
         have hw:=QD hlt hf1
         refine Zt (f.code.length-(i+1)) _ (by omega) (Qq (by simp only [hw,List.take_succ_cons,List.take_zero])) ⟨i+1,rfl,hlt,rfl⟩)
      | (have hlt:i<f.sels.length:=by omega
         have hw:=QD hlt hf2
         refine Zt (f.sels.length-(i+1)) _ (by omega) ((WN 2 rfl).trans (Qq (by simp only [hw,List.take_succ_cons,List.take_zero]))) ⟨i+1,rfl,hlt,rfl⟩)
      | (have hlt:k<(f.sels.getD i default).cases.length:=by omega
         have hw:=QD hlt hf4
         refine Zt ((f.sels.getD i default).cases.length-(k+1)) _ (by omega) (Qq (by simp only [hw,List.take_succ_cons,List.take_zero])) ⟨k+1,rfl,hlt,rfl⟩))
  | ((with_reducible first|refine ZH ?_|refine ZG ?_)
     simp only [go_sem,QJ,QK,QG,seval]
     first
      | (exact ⟨rfl,rfl⟩)
      | (rfl))
def QHH:List (List Nat):=[[2,3],[2,3,39],[4],[2,3,42,43],[2,3,42,43,44],[2,3,5,42,43],[2,3,42,43,56],[4],[2,3,42,43],[2,3,60,61],[2,3,60,61,62],[2,3,6,60,61],[2,3,60,61,74],[4],[2,3,60,61],[2,3,78,79],[2,3,78,79,80],[2,3,7,78,79],[2,3,78,79,93],[4],[2,3,78,79],[4]]
theorem VF (p:Prg) (hp:p.Fit):Ctr Go.Proofs.Tryz.prog tab 16 [26,26] [4] [p.v,p.v] [.bool true]:=by
 have hcode:True→True:=id
 have hsl:True→True:=id
 obtain ⟨hp1,hp2,hp3,hp4⟩:=hp
 refine Ctr.body ok Go.Proofs.Tryz.func16 rfl rfl 95 rfl [.tmp 4] rfl (by simp [QE]) ?_
 simp only [go_sem,Nat.reduceAdd]
 repeat' first
  | ((with_reducible refine SARQ.told 6 _ ?_);try simp only [hAt])
  | ((with_reducible refine SARQ.told 12 _ ?_);try simp only [hAt])
  | ((with_reducible refine SART.told 18 _ ?_);try simp only [hAt])
  | ((with_reducible first|refine Q2 fun R1 hR1=>?_|refine xP fun R1 hR1=>?_|refine qR fun R1 hR1=>?_|refine qQ fun R1 hR1=>?_|refine qP fun R1 hR1=>?_);(simp only [go_sem,seval,-List.reduceReplicate,decide_true,decide_false,Bool.not_true,Bool.not_false,Instr.beq,Cas.beq,Vr.beq,Bool.cond_false_right,Bool.cond_true_left]);(repeat' with_reducible refine And.intro ?_ ?_);all_goals first|(refine hR1 _ ?_;clear hR1 R1)|(intro hgf;simp only [hgf];refine hR1 _ ?_;clear hR1 R1)|((first|refine ⟨_,_,rfl,_,CallQ.ctr ok (yd (p.funcs.getD i default) hfi) (by first|rfl|(simp [go_sem];done)|fail) rfl,?_⟩|refine cq (cc (yd (p.funcs.getD i default) hfi)) ?_);all_goals ((try simp only [go_sem,seval,-List.reduceReplicate,decide_true,decide_false,Bool.not_true,Bool.not_false,Instr.beq,Cas.beq,Vr.beq,Bool.cond_false_right,Bool.cond_true_left]);(repeat' with_reducible refine And.intro ?_ ?_);all_goals first|(refine hR1 _ ?_;clear hR1 R1)|(intro hgf;simp only [hgf];refine hR1 _ ?_;clear hR1 R1)|exact Xk))|exact Xk)
  | ((with_reducible first|refine qO ?_|refine Q1 ?_|refine xO ?_);refine hR _ ?_;clear hR R;try simp only [go_sem,QHH,Nat.reduceBEq])
  | (with_reducible first|refine qN ?_ ?_|exact qM|refine qL ?_ ?_)
  | (with_reducible first|refine J1 ?_|refine J2 ?_|refine J3 ?_|refine J4 ?_|refine J5 ?_|refine J6 ?_|refine J7 ?_|refine J8 (by decide) ?_|refine J9 ?_|refine WL ?_|refine Q0 ?_|refine Qz ?_|refine YZ ?_|refine WK ?_)
  | ((with_reducible refine QZ 6 ?_)
     have hlt:i<p.vars.length:=by omega
     have hAt:=Qr Vr.v p.vars (i:=i) (by omega)
     (with_reducible refine Vv ok QN (by kernel_rfl) (by kernel_rfl) QHH ?_);intro R hR;simp only [go_sem,QC])
  | ((with_reducible refine QZ 12 ?_)
     have hlt:i<p.chans.length:=by omega
     have hAt:=Qr V.int p.chans (i:=i) (by omega)
     (with_reducible refine Vv ok QN (by kernel_rfl) (by kernel_rfl) QHH ?_);intro R hR;simp only [go_sem,QC])
  | ((with_reducible refine QZ 18 ?_)
     have hlt:i<p.funcs.length:=by omega
     have hAt:=Qr Fnc.v p.funcs (i:=i) (by omega)
     have hfi:=hp4 _ (Qn p.funcs hlt)
     refine WJ ok QN (.take 0 (.take 1 (.take 2 (.take 3 (.take 4 (.take 5 (.take 6 (.take 7 (.take 8 (.take 9 (.br 10 (.take 11 .done) .nil))))))))))) [] QHH (by kernel_rfl) (fun R hR=>?_);simp only [go_sem,QC])
  | ((with_reducible refine rg QHH fun R hR=>?_);simp only [go_sem,QC])
  | ((with_reducible refine Vv ok QN (by kernel_rfl) (by kernel_rfl) QHH ?_);intro R hR;simp only [go_sem,QC])
  | ((with_reducible refine QH 39 rfl (fun hb39=>?_) fun hb39=>?_);all_goals (try simp [-List.getD_eq_getElem?_getD] at hb39;try (exfalso;omega)))
  | ((with_reducible refine QH 56 rfl (fun hb56=>?_) fun hb56=>?_);all_goals (try simp [-List.getD_eq_getElem?_getD] at hb56;try (exfalso;omega)))
  | ((with_reducible refine QH 74 rfl (fun hb74=>?_) fun hb74=>?_);all_goals (try simp [-List.getD_eq_getElem?_getD] at hb74;try (exfalso;omega)))
  | ((with_reducible refine QH 93 rfl (fun hb93=>?_) fun hb93=>?_);all_goals (try simp [-List.getD_eq_getElem?_getD] at hb93;try (exfalso;omega)))
  | ((with_reducible refine SA.cond rfl ?_ ?_)
     all_goals
      intro hb
      try simp [-List.getD_eq_getElem?_getD] at hb
      try (exfalso;omega))
  | ((with_reducible refine YQ ?_)
     refine Zo (Qq (by first|rfl|(simp;done)|fail)) (YR (fun n τ=>∃ (i:Nat),n=p.vars.length-i∧(i≤p.vars.length)∧τ={ tm:=[(2,true,.ptr 0 [] 26),(3,true,.ptr 1 [] 26),(42,true,.int .i64 p.vars.length),(43,true,.int .i64 i)],ob:=[.var 26 (.data 26 p.v),.var 26 (.data 26 p.v)],out:=[],nt:=95 }) (p.vars.length) ⟨0,rfl,by omega,rfl⟩ ?_)
     rintro n τ ⟨i,hn,hii,rfl⟩)
  | ((with_reducible refine YQ ?_)
     refine Zo (Qq (by first|rfl|(simp;done)|fail)) (YR (fun n τ=>∃ (i:Nat),n=p.chans.length-i∧(i≤p.chans.length)∧τ={ tm:=[(2,true,.ptr 0 [] 26),(3,true,.ptr 1 [] 26),(60,true,.int .i64 p.chans.length),(61,true,.int .i64 i)],ob:=[.var 26 (.data 26 p.v),.var 26 (.data 26 p.v)],out:=[],nt:=95 }) (p.chans.length) ⟨0,rfl,by omega,rfl⟩ ?_)
     rintro n τ ⟨i,hn,hii,rfl⟩)
  | ((with_reducible refine YQ ?_)
     refine Zo (Qq (by first|rfl|(simp;done)|fail)) (YR (fun n τ=>∃ (i:Nat),n=p.funcs.length-i∧(i≤p.funcs.length)∧τ={ tm:=[(2,true,.ptr 0 [] 26),(3,true,.ptr 1 [] 26),(78,true,.int .i64 p.funcs.length),(79,true,.int .i64 i)],ob:=[.var 26 (.data 26 p.v),.var 26 (.data 26 p.v)],out:=[],nt:=95 }) (p.funcs.length) ⟨0,rfl,by omega,rfl⟩ ?_)
     rintro n τ ⟨i,hn,hii,rfl⟩)
  | ((with_reducible refine WM ?_)
     first
      | (have hlt:i<p.vars.length:=by omega
         have hw:=QD hlt hp1
         refine Zt (p.vars.length-(i+1)) _ (by omega) (Qq (by simp only [hw,List.take_succ_cons,List.take_zero])) ⟨i+1,rfl,hlt,rfl⟩)
      | (have hlt:i<p.chans.length:=by omega
         have hw:=QD hlt hp2
         refine Zt (p.chans.length-(i+1)) _ (by omega) (Qq (by simp only [hw,List.take_succ_cons,List.take_zero])) ⟨i+1,rfl,hlt,rfl⟩)
      | (have hlt:i<p.funcs.length:=by omega
         have hw:=QD hlt hp3
         refine Zt (p.funcs.length-(i+1)) _ (by omega) (Qq (by simp only [hw,List.take_succ_cons,List.take_zero])) ⟨i+1,rfl,hlt,rfl⟩))
  | ((with_reducible first|refine ZH ?_|refine ZG ?_)
     simp only [go_sem,QJ,QK,QG,seval]
     first
      | (exact ⟨rfl,rfl⟩)
      | (rfl))
end Go.Eng.Tryz
