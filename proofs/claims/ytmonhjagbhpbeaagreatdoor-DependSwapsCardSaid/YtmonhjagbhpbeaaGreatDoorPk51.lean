/- A part of the proof: walks through the program's functions, and what they compute. -/
import Derived.Test.YtmonhjagbhpbeaaGreatDoorPk38
import Derived.Test.YtmonhjagbhpbeaaGreatDoorPk50
set_option linter.unusedSimpArgs false
set_option linter.unusedVariables false
namespace Go.Eng.Tryz
open Go.RowKit Go.Eng
set_option maxHeartbeats 0
set_option maxRecDepth 20000
theorem vt (p:Prg) (l:List Pck) (i:Int) (b:Bud) (hp:p.Fit) (hl:l.length≤maxLen) (hlz:l.length*16≤140737488355328):Ctr Go.Proofs.Tryz.prog tab 8 [75] [4] [UU p l i b] [.bool true]:=by
 have hpp:=hp
 have hcode:True→True:=id
 have hsl:True→True:=id
 have hmx:400≤maxLen:=by decide
 have h1:=Nat.le_trans (QIk p l i b) hl
 have h2:=Nat.le_trans (QIr p l i b) hl
 have hsw:=vX p l i b hpp hl
 have hsk:=zn p l i b hpp hl
 have hrw:=QFA p l i b hpp hl
 have hrk:=QFB p l i b hpp hl
 generalize Un p l i b=X at hsw hrw h1
 generalize Up p l i b=Y at hsk hrk h2
 refine Ctr.body ok Go.Proofs.Tryz.func8 rfl rfl 106 rfl [.tmp 2] rfl (by simp [QF]) ?_
 simp only [go_sem,Nat.reduceAdd]
 repeat' first
  | ((with_reducible refine Q5 fun R1 hR1=>?_);(simp only [go_sem,seval,-List.reduceReplicate,Bool.cond_false_right,Bool.cond_true_left,QE,decide_true,decide_false]);(repeat' with_reducible refine And.intro ?_ ?_);all_goals first|(refine hR1 _ ?_;clear hR1 R1)|(intro hgf;simp only [hgf];refine hR1 _ ?_;clear hR1 R1)|((first|refine ce (wO (QCp l hl hlz) ?_)|refine ⟨_,_,rfl,.inr ⟨fun _=>CallE.ctr ok (QCp l hl hlz) (by first|rfl|(simp [go_sem,List.take_of_length_le,List.length_map,List.map_take,List.drop_zero];done)|fail) ?_,?_⟩⟩|refine ce (wO (hsw) ?_)|refine ⟨_,_,rfl,.inr ⟨fun _=>CallE.ctr ok (hsw) (by first|rfl|(simp [go_sem,List.take_of_length_le,List.length_map,List.map_take,List.drop_zero];done)|fail) ?_,?_⟩⟩|refine ⟨_,_,rfl,.inr (CallE.ctrZ (hrw) (by first|rfl|(simp [go_sem,List.take_of_length_le,List.length_map,List.map_take,List.drop_zero];done)|fail) ?_)⟩|refine ⟨_,_,rfl,.inr ⟨fun _=>CallE.ctrZ (hrw) (by first|rfl|(simp [go_sem,List.take_of_length_le,List.length_map,List.map_take,List.drop_zero];done)|fail) ?_,?_⟩⟩|refine ce (wO (hsk) ?_)|refine ⟨_,_,rfl,.inr ⟨fun _=>CallE.ctr ok (hsk) (by first|rfl|(simp [go_sem,List.take_of_length_le,List.length_map,List.map_take,List.drop_zero];done)|fail) ?_,?_⟩⟩|refine ⟨_,_,rfl,.inr (CallE.ctrZ (hrk) (by first|rfl|(simp [go_sem,List.take_of_length_le,List.length_map,List.map_take,List.drop_zero];done)|fail) ?_)⟩|refine ⟨_,_,rfl,.inr ⟨fun _=>CallE.ctrZ (hrk) (by first|rfl|(simp [go_sem,List.take_of_length_le,List.length_map,List.map_take,List.drop_zero];done)|fail) ?_,?_⟩⟩|refine cq (VK (ZX X.1 X.1 h1 h1)) ?_|refine Y4 (fun hg=>VK (ZX X.1 X.1 h1 h1)) ?_|refine cq (VK (ZX Y.1 Y.1 h2 h2)) ?_|refine Y4 (fun hg=>VK (ZX Y.1 Y.1 h2 h2)) ?_|refine cq (VK (ZX l l hl hl)) ?_|refine Y4 (fun hg=>VK (ZX l l hl hl)) ?_|refine cq (VK (ZE)) ?_|refine Y4 (fun hg=>VK (ZE)) ?_);all_goals ((try simp only [go_sem,seval,-List.reduceReplicate,Bool.cond_false_right,Bool.cond_true_left,QE,decide_true,decide_false]);(repeat' with_reducible refine And.intro ?_ ?_);all_goals first|(refine hR1 _ ?_;clear hR1 R1)|(intro hgf;simp only [hgf];refine hR1 _ ?_;clear hR1 R1)|exact Zp))|exact Zp)
  | ((with_reducible refine Q4 ?_);refine hR _ ?_;clear hR R;try simp only [go_sem,lv8,Nat.reduceBEq])
  | (with_reducible first|refine J1 ?_|refine J2 ?_|refine J3 ?_|refine Q2 ?_|refine Q1 ?_)
  | ((with_reducible refine rg lv8 fun R hR=>?_);simp only [go_sem,QC])
  | ((with_reducible refine QI 98 rfl (fun hb98=>?_) fun hb98=>?_);all_goals (try simp [-List.getD_eq_getElem?_getD] at hb98;try (exfalso;omega)))
  | ((with_reducible first|refine ZQ ?_|refine ZP ?_)
     simp only [go_sem,QL,QM,QH,seval]
     first
      | (exact ⟨rfl,rfl⟩)
      | (rfl)
      | (refine ⟨rfl,?_⟩
         simp))
end Go.Eng.Tryz
