/- A part of the proof: walks through the program's functions, and what they compute. -/
import Derived.Test.YtedceinkpkoncaaGreatDoorPk33
import Derived.Test.YtedceinkpkoncaaGreatDoorPk41
import Derived.Test.YtedceinkpkoncaaGreatDoorPk45
import Derived.Test.YtedceinkpkoncaaGreatDoorPk55
set_option linter.unusedSimpArgs false
set_option linter.unusedVariables false
namespace Go.Eng.Tryz
open Go.RowKit Go.Eng
set_option maxHeartbeats 0
set_option maxRecDepth 20000
theorem QCO (p:Prg) (s:Stt) (g:Int) (hp:p.Fit) (hs:s.Shape):Ctr Go.Proofs.Tryz.prog tab 9 [26,37,3] [4] [p.v,s.v,.int g] [.bool true]:=by
 have hpp:=hp
 have hfit:=hp
 have hcode:=p.code_len hp
 have hsl:=p.sels_len hp
 obtain ⟨hp1,hp2,hp3,hp4⟩:=hp
 have hmx:256≤maxLen:=by decide
 refine Ctr.body ok Go.Proofs.Tryz.func9 rfl rfl 166 rfl [.tmp 6] rfl (by simp [QE]) ?_
 simp only [go_sem,Nat.reduceAdd]
 repeat' first
  | ((with_reducible refine Q2 fun R1 hR1=>?_);(simp only [go_sem,seval,-List.reduceReplicate,Bool.cond_false_right,Bool.cond_true_left,decide_true,decide_false,Bool.not_true,Bool.not_false]);(repeat' with_reducible refine And.intro ?_ ?_);all_goals first|(refine hR1 _ ?_;clear hR1 R1)|(intro hgf;simp only [hgf];refine hR1 _ ?_;clear hR1 R1)|((first|refine ce (cf (QFv p s g hpp hs) ?_ (by first|rfl|(simp [go_sem,Zg,Z6,YS,List.take_of_length_le,List.length_map];done)|fail))|refine ⟨_,_,rfl,.inr ⟨fun _=>CallE.ctr ok (QFv p s g hpp hs) (by first|rfl|(simp [go_sem,Zg,Z6,YS,List.take_of_length_le,List.length_map];done)|fail) ?_,?_⟩⟩|refine ce (cf (QBP p s g hpp hs) ?_ (by first|rfl|(simp [go_sem,Zg,Z6,YS,List.take_of_length_le,List.length_map];done)|fail))|refine ⟨_,_,rfl,.inr ⟨fun _=>CallE.ctr ok (QBP p s g hpp hs) (by first|rfl|(simp [go_sem,Zg,Z6,YS,List.take_of_length_le,List.length_map];done)|fail) ?_,?_⟩⟩|refine ce (cf (vc p s g hpp hs) ?_ (by first|rfl|(simp [go_sem,Zg,Z6,YS,List.take_of_length_le,List.length_map];done)|fail))|refine ⟨_,_,rfl,.inr ⟨fun _=>CallE.ctr ok (vc p s g hpp hs) (by first|rfl|(simp [go_sem,Zg,Z6,YS,List.take_of_length_le,List.length_map];done)|fail) ?_,?_⟩⟩|refine ce (cf (vd p s g hpp hs) ?_ (by first|rfl|(simp [go_sem,Zg,Z6,YS,List.take_of_length_le,List.length_map];done)|fail))|refine ⟨_,_,rfl,.inr ⟨fun _=>CallE.ctr ok (vd p s g hpp hs) (by first|rfl|(simp [go_sem,Zg,Z6,YS,List.take_of_length_le,List.length_map];done)|fail) ?_,?_⟩⟩|refine ce (cf (Wh p s hpp hs) ?_ (by first|rfl|(simp [go_sem,Zg,Z6,YS,List.take_of_length_le,List.length_map];done)|fail))|refine ⟨_,_,rfl,.inr ⟨fun _=>CallE.ctr ok (Wh p s hpp hs) (by first|rfl|(simp [go_sem,Zg,Z6,YS,List.take_of_length_le,List.length_map];done)|fail) ?_,?_⟩⟩|refine ce (cf (yj p s hpp hs) ?_ (by first|rfl|(simp [go_sem,Zg,Z6,YS,List.take_of_length_le,List.length_map];done)|fail))|refine ⟨_,_,rfl,.inr ⟨fun _=>CallE.ctr ok (yj p s hpp hs) (by first|rfl|(simp [go_sem,Zg,Z6,YS,List.take_of_length_le,List.length_map];done)|fail) ?_,?_⟩⟩|refine cq (cc (YK p hpp) (by first|rfl|(simp [go_sem,Zg,Z6,YS,List.take_of_length_le,List.length_map];done)|fail)) ?_|refine ⟨_,_,rfl,.inl ⟨_,fun hg=>CallQ.ctr ok (YK p hpp) (by first|rfl|(simp [go_sem,Zg,Z6,YS,List.take_of_length_le,List.length_map];done)|fail) rfl,?_⟩⟩|refine cq (cc (VN p s hpp hs) (by first|rfl|(simp [go_sem,Zg,Z6,YS,List.take_of_length_le,List.length_map];done)|fail)) ?_|refine ⟨_,_,rfl,.inl ⟨_,fun hg=>CallQ.ctr ok (VN p s hpp hs) (by first|rfl|(simp [go_sem,Zg,Z6,YS,List.take_of_length_le,List.length_map];done)|fail) rfl,?_⟩⟩|refine cq (cc (Ur) (by first|rfl|(simp [go_sem,Zg,Z6,YS,List.take_of_length_le,List.length_map];done)|fail)) ?_|refine ⟨_,_,rfl,.inl ⟨_,fun hg=>CallQ.ctr ok (Ur) (by first|rfl|(simp [go_sem,Zg,Z6,YS,List.take_of_length_le,List.length_map];done)|fail) rfl,?_⟩⟩|refine cq (cc (QGK p s g hpp hs) (by first|rfl|(simp [go_sem,Zg,Z6,YS,List.take_of_length_le,List.length_map];done)|fail)) ?_|refine ⟨_,_,rfl,.inl ⟨_,fun hg=>CallQ.ctr ok (QGK p s g hpp hs) (by first|rfl|(simp [go_sem,Zg,Z6,YS,List.take_of_length_le,List.length_map];done)|fail) rfl,?_⟩⟩|refine ce (cf (Xf p s hpp hr hw) ?_ (by first|rfl|(simp [go_sem,Zg,Z6,YS,List.take_of_length_le,List.length_map];done)|fail))|refine ⟨_,_,rfl,.inr ⟨fun _=>CallE.ctr ok (Xf p s hpp hr hw) (by first|rfl|(simp [go_sem,Zg,Z6,YS,List.take_of_length_le,List.length_map];done)|fail) ?_,?_⟩⟩|refine ce (cf (x8 p s hpp hr hw) ?_ (by first|rfl|(simp [go_sem,Zg,Z6,YS,List.take_of_length_le,List.length_map];done)|fail))|refine ⟨_,_,rfl,.inr ⟨fun _=>CallE.ctr ok (x8 p s hpp hr hw) (by first|rfl|(simp [go_sem,Zg,Z6,YS,List.take_of_length_le,List.length_map];done)|fail) ?_,?_⟩⟩|refine cq (cc (Y7 (ready p s) (ready p s) hrl hrl) (by first|rfl|(simp [go_sem,Zg,Z6,YS,List.take_of_length_le,List.length_map];done)|fail)) ?_|refine ⟨_,_,rfl,.inl ⟨_,fun hg=>CallQ.ctr ok (Y7 (ready p s) (ready p s) hrl hrl) (by first|rfl|(simp [go_sem,Zg,Z6,YS,List.take_of_length_le,List.length_map];done)|fail) rfl,?_⟩⟩|refine cq (cc (Xb (YM p s s.count.toNat) (YM p s s.count.toNat) hwl hwl) (by first|rfl|(simp [go_sem,Zg,Z6,YS,List.take_of_length_le,List.length_map];done)|fail)) ?_|refine ⟨_,_,rfl,.inl ⟨_,fun hg=>CallQ.ctr ok (Xb (YM p s s.count.toNat) (YM p s s.count.toNat) hwl hwl) (by first|rfl|(simp [go_sem,Zg,Z6,YS,List.take_of_length_le,List.length_map];done)|fail) rfl,?_⟩⟩|refine cq (cc (Wo p s g hpp hs hg6 hgi) (by first|rfl|(simp [go_sem,Zg,Z6,YS,List.take_of_length_le,List.length_map];done)|fail)) ?_|refine ⟨_,_,rfl,.inl ⟨_,fun hg=>CallQ.ctr ok (Wo p s g hpp hs hg6 hgi) (by first|rfl|(simp [go_sem,Zg,Z6,YS,List.take_of_length_le,List.length_map];done)|fail) rfl,?_⟩⟩|refine ce (cf (Vu p s g hpp hr hw) ?_ (by first|rfl|(simp [go_sem,Zg,Z6,YS,List.take_of_length_le,List.length_map];done)|fail))|refine ⟨_,_,rfl,.inr ⟨fun _=>CallE.ctr ok (Vu p s g hpp hr hw) (by first|rfl|(simp [go_sem,Zg,Z6,YS,List.take_of_length_le,List.length_map];done)|fail) ?_,?_⟩⟩|refine ce (cf (xU p s g hpp hr hw hgc) ?_ (by first|rfl|(simp [go_sem,Zg,Z6,YS,List.take_of_length_le,List.length_map];done)|fail))|refine ⟨_,_,rfl,.inr ⟨fun _=>CallE.ctr ok (xU p s g hpp hr hw hgc) (by first|rfl|(simp [go_sem,Zg,Z6,YS,List.take_of_length_le,List.length_map];done)|fail) ?_,?_⟩⟩|refine ce (cf (QB7 p s g hpp hr hv hgc hlv) ?_ (by first|rfl|(simp [go_sem,Zg,Z6,YS,List.take_of_length_le,List.length_map];done)|fail))|refine ⟨_,_,rfl,.inr ⟨fun _=>CallE.ctr ok (QB7 p s g hpp hr hv hgc hlv) (by first|rfl|(simp [go_sem,Zg,Z6,YS,List.take_of_length_le,List.length_map];done)|fail) ?_,?_⟩⟩|refine cq (cc (Xb (Qj p s g) (Qj p s g) hal hal) (by first|rfl|(simp [go_sem,Zg,Z6,YS,List.take_of_length_le,List.length_map];done)|fail)) ?_|refine ⟨_,_,rfl,.inl ⟨_,fun hg=>CallQ.ctr ok (Xb (Qj p s g) (Qj p s g) hal hal) (by first|rfl|(simp [go_sem,Zg,Z6,YS,List.take_of_length_le,List.length_map];done)|fail) rfl,?_⟩⟩|refine cq (cc (US (touch p s g) (touch p s g) htl htl) (by first|rfl|(simp [go_sem,Zg,Z6,YS,List.take_of_length_le,List.length_map];done)|fail)) ?_|refine ⟨_,_,rfl,.inl ⟨_,fun hg=>CallQ.ctr ok (US (touch p s g) (touch p s g) htl htl) (by first|rfl|(simp [go_sem,Zg,Z6,YS,List.take_of_length_le,List.length_map];done)|fail) rfl,?_⟩⟩|refine cq (cc (Xb (YY p s g) (YY p s g) hbl hbl) (by first|rfl|(simp [go_sem,Zg,Z6,YS,List.take_of_length_le,List.length_map];done)|fail)) ?_|refine ⟨_,_,rfl,.inl ⟨_,fun hg=>CallQ.ctr ok (Xb (YY p s g) (YY p s g) hbl hbl) (by first|rfl|(simp [go_sem,Zg,Z6,YS,List.take_of_length_le,List.length_map];done)|fail) rfl,?_⟩⟩|refine ⟨_,_,rfl,.inl ⟨.bool false,?_⟩⟩);all_goals ((try simp only [go_sem,seval,-List.reduceReplicate,Bool.cond_false_right,Bool.cond_true_left,decide_true,decide_false,Bool.not_true,Bool.not_false]);(repeat' with_reducible refine And.intro ?_ ?_);all_goals first|(refine hR1 _ ?_;clear hR1 R1)|(intro hgf;simp only [hgf];refine hR1 _ ?_;clear hR1 R1)|exact Xk))|exact Xk)
  | ((with_reducible refine Q1 ?_);refine hR _ ?_;clear hR R;try simp only [go_sem,lv9,Nat.reduceBEq])
  | (with_reducible first|refine J1 ?_|refine J2 ?_|refine J3 ?_|refine Q0 ?_|refine Qz ?_)
  | ((with_reducible refine QZ 14 ?_)
     first
      | (have hz:ZO p s=3:=(by unfold ZO;rw [hb64];rfl);have h9:=QF1 (g:=g) hz (by decide))
      | (have hz:ZO p s=4:=(by unfold ZO;rw [hb64,hb68];rfl);have h9:=QF1 (g:=g) hz (by decide))
      | (have hz:ZO p s=0:=xL hb64 hb68;have hr:=hb64;have hok:=Prg.ok hr;have hv:=Vld.of hok hs hb68;have hw:=hv.wf hok hr;have hrl:(ready p s).length≤maxLen:=QDv hok hw;have hwl:(YM p s s.count.toNat).length≤maxLen:=QDS hw)
     simp only [hz,if_true,if_false,(by decide:¬(3:Int)=0),(by decide:¬(4:Int)=0)]
     (with_reducible refine rg lv9 fun R hR=>?_);simp only [go_sem,QC])
  | ((with_reducible refine QZ 22 ?_)
     simp only [if_neg hb118]
     (with_reducible refine rg lv9 fun R hR=>?_);simp only [go_sem,QC])
  | ((with_reducible refine QZ 23 ?_)
     have h1:=UW hb118
     have hgc:0≤g∧g<s.count:=⟨h1.2.1.1,Zv hv h1.2.1.1 h1.2.1.2 h1.2.2⟩
     have hlv:ZE s g=true:=(WF hgc.1 hgc.2).trans h1.2.2
     have hg6:=h1.2.1
     have hgi:=hw.gos g hgc.1 hgc.2
     have hal:(Qj p s g).length≤maxLen:=Nat.le_trans (WB hok hw g) (by decide)
     have htl:(touch p s g).length≤maxLen:=Nat.le_trans (QDd hok hw hgc) (by decide)
     have hbl:(YY p s g).length≤maxLen:=QEd
     simp only [if_pos hb118]
     (with_reducible refine rg lv9 fun R hR=>?_);simp only [go_sem,QC])
  | ((with_reducible refine rg lv9 fun R hR=>?_);simp only [go_sem,QC])
  | ((with_reducible refine QH 61 rfl (fun hb61=>?_) fun hb61=>?_);all_goals (try simp [-List.getD_eq_getElem?_getD] at hb61;try (exfalso;omega)))
  | ((with_reducible refine QH 64 rfl (fun hb64=>?_) fun hb64=>?_);all_goals (try simp [-List.getD_eq_getElem?_getD] at hb64;try (exfalso;omega)))
  | ((with_reducible refine QH 68 rfl (fun hb68=>?_) fun hb68=>?_);all_goals (try simp [-List.getD_eq_getElem?_getD] at hb68;try (exfalso;omega)))
  | ((with_reducible refine QH 76 rfl (fun hb76=>?_) fun hb76=>?_);all_goals (try simp [-List.getD_eq_getElem?_getD] at hb76;try (exfalso;omega)))
  | ((with_reducible refine QH 94 rfl (fun hb94=>?_) fun hb94=>?_);all_goals (try simp [-List.getD_eq_getElem?_getD] at hb94;try (exfalso;omega)))
  | ((with_reducible refine QH 116 rfl (fun hb116=>?_) fun hb116=>?_);all_goals (try simp [-List.getD_eq_getElem?_getD] at hb116;try (exfalso;omega)))
  | ((with_reducible refine QH 118 rfl (fun hb118=>?_) fun hb118=>?_);all_goals (try simp [-List.getD_eq_getElem?_getD] at hb118;try (exfalso;omega)))
  | ((with_reducible first|refine ZH ?_|refine ZG ?_)
     simp only [go_sem,QJ,QK,QG,seval]
     first
      | (exact ⟨rfl,rfl⟩)
      | (rfl))
end Go.Eng.Tryz
