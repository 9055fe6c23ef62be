/- A part of the proof: walks through the program's functions, and what they compute. -/
import Derived.Test.YtmonhjagbhpbeaaGreatDoorPk27
import Derived.Test.YtmonhjagbhpbeaaGreatDoorPk30
import Derived.Test.YtmonhjagbhpbeaaGreatDoorPk32
import Derived.Test.YtmonhjagbhpbeaaGreatDoorPk38
set_option linter.unusedSimpArgs false
set_option linter.unusedVariables false
namespace Go.Eng.Tryz
open Go.RowKit Go.Eng
set_option maxHeartbeats 0
set_option maxRecDepth 20000
def QPj:List (List Nat):=[[2,3,4],[2,4,7],[2,4,7,11],[6],[2,4,15],[6],[22],[6],[6]]
theorem QHj (p:Prg) (s:Stt) (g:Int) (hp:p.Fit) (hs:s.Shape):Ctr Go.Proofs.Tryz.prog tab 67 [26,47,3] [30] [p.v,s.v,.int g] [.int (zT p s g)]:=by
 have hpp:=hp
 have hfit:=hp
 have hcode:=p.code_len hp
 have hsl:=p.sels_len hp
 obtain ⟨hp1,hp2,hp3,hp4⟩:=hp
 refine Ctr.body ok Go.Proofs.Tryz.func67 rfl rfl 27 rfl [.tmp 6] rfl (by simp [QL]) ?_
 simp only [go_sem,Nat.reduceAdd]
 repeat' first
  | ((with_reducible refine Zx fun R1 hR1=>?_);(simp only [go_sem,seval,-List.reduceReplicate,Zd,QK,Yu,vq,z3,Bool.cond_false_right,Bool.cond_true_left]);(repeat' with_reducible refine And.intro ?_ ?_);all_goals first|(refine hR1 _ ?_;clear hR1 R1)|((first|refine cq (cc (UI p s hpp hs)) ?_|refine cq (cc (Ye s g hs (by omega))) ?_);all_goals ((try simp only [go_sem,seval,-List.reduceReplicate,Zd,QK,Yu,vq,z3,Bool.cond_false_right,Bool.cond_true_left]);(repeat' with_reducible refine And.intro ?_ ?_);all_goals first|(refine hR1 _ ?_;clear hR1 R1)|exact YJ))|exact YJ)
  | ((with_reducible refine Zw ?_);refine hR _ ?_;clear hR R;try simp only [go_sem,QPj,Nat.reduceBEq])
  | (with_reducible first|refine J1 ?_|refine J2 ?_|refine J3 ?_|refine J4 ?_|refine J5 ?_|refine J6 ?_|refine J7 ?_|refine J8 (by decide) ?_|refine J9 ?_|refine ZL ?_|refine ZS ?_|refine Y3 ?_)
  | ((with_reducible refine rg QPj fun R hR=>?_);simp only [go_sem,QC])
  | ((with_reducible refine QR 11 rfl (fun hb11=>?_) fun hb11=>?_);all_goals (try simp [-List.getD_eq_getElem?_getD] at hb11;try (exfalso;omega)))
  | ((with_reducible refine QR 15 rfl (fun hb15=>?_) fun hb15=>?_);all_goals (try simp [-List.getD_eq_getElem?_getD] at hb15;try (exfalso;omega)))
  | ((with_reducible refine QR 22 rfl (fun hb22=>?_) fun hb22=>?_);all_goals (try simp [-List.getD_eq_getElem?_getD] at hb22;try (exfalso;omega)))
  | ((with_reducible first|refine YQ ?_|refine Zv ?_)
     simp only [go_sem,QS,QW,QM,seval]
     first
      | (have q:_=false:=hb22
         exact ⟨rfl,congrArg (fun e=>some (V.int e)) (Eq.symm ((if_neg (fun h=>h hb11)).trans ((if_neg (by omega)).trans (if_pos hb22))))⟩)
      | (have q:=hb22
         exact ⟨rfl,congrArg (fun e=>some (V.int e)) (Eq.symm ((if_neg (fun h=>h hb11)).trans ((if_neg (by omega)).trans (if_neg (by simp [hb22])))))⟩)
      | (have q:=hb15
         exact ⟨rfl,congrArg (fun e=>some (V.int e)) (Eq.symm ((if_neg (fun h=>h hb11)).trans (if_pos (by omega))))⟩)
      | (exact ⟨rfl,congrArg (fun e=>some (V.int e)) (Eq.symm (if_pos hb11))⟩))
end Go.Eng.Tryz
namespace Go.Eng.Tryz
open Go.RowKit Go.Eng
set_option maxHeartbeats 0
set_option maxRecDepth 20000
def QNE:List (List Nat):=[[2,3,4],[2,3,4,8],[2,3,4,8,14],[6,7],[6,7]]
theorem QF6 (p:Prg) (s:Stt) (g:Int) (hp:p.Fit) (hs:s.Shape):Ctr Go.Proofs.Tryz.prog tab 33 [26,47,3] [23,30] [p.v,s.v,.int g] [.list ((if zT p s g=0 then Qr p s g else []).map V.int),.int (zT p s g)]:=by
 have hpp:=hp
 have hfit:=hp
 have hcode:=p.code_len hp
 have hsl:=p.sels_len hp
 obtain ⟨hp1,hp2,hp3,hp4⟩:=hp
 refine Ctr.body ok Go.Proofs.Tryz.func33 rfl rfl 20 rfl [.tmp 6,.tmp 7] rfl (by simp [QL]) ?_
 simp only [go_sem,Nat.reduceAdd]
 repeat' first
  | ((with_reducible refine Zx fun R1 hR1=>?_);(simp only [go_sem,seval,-List.reduceReplicate,Bool.cond_false_right,Bool.cond_true_left]);(repeat' with_reducible refine And.intro ?_ ?_);all_goals first|(refine hR1 _ ?_;clear hR1 R1)|((first|refine cq (cc (QHj p s g hpp hs)) ?_|refine ce (cf (W3 p s g hpp hr hv hgc hlv) ?_));all_goals ((try simp only [go_sem,seval,-List.reduceReplicate,Bool.cond_false_right,Bool.cond_true_left]);(repeat' with_reducible refine And.intro ?_ ?_);all_goals first|(refine hR1 _ ?_;clear hR1 R1)|exact YJ))|exact YJ)
  | ((with_reducible refine Zw ?_);refine hR _ ?_;clear hR R;try simp only [go_sem,QNE,Nat.reduceBEq])
  | (with_reducible first|refine J1 ?_|refine J2 ?_|refine J3 ?_|refine ZL ?_|refine ZS ?_)
  | ((with_reducible refine Qy 4 ?_)
     have h1:=QH3 hb14
     have hr:=(V2 h1.1).1
     have hok:=Prg.ok hr
     have hv:=Vld.of hok hs (V2 h1.1).2
     have hgc:0≤g∧g<s.count:=⟨h1.2.1.1,Y9 hv h1.2.1.1 h1.2.1.2 h1.2.2⟩
     have hlv:Z8 s g=true:=(Vw hgc.1 hgc.2).trans h1.2.2
     (with_reducible refine rg QNE fun R hR=>?_);simp only [go_sem,QC])
  | ((with_reducible refine rg QNE fun R hR=>?_);simp only [go_sem,QC])
  | ((with_reducible refine QR 14 rfl (fun hb14=>?_) fun hb14=>?_);all_goals (try simp [-List.getD_eq_getElem?_getD] at hb14;try (exfalso;omega)))
  | ((with_reducible first|refine YQ ?_|refine Zv ?_)
     simp only [go_sem,QS,QW,QM,seval]
     first
      | (have q:¬_:=hb14
         refine ⟨⟨rfl,?_⟩,rfl⟩
         rw [if_neg hb14]
         rfl)
      | (rw [hb14]
         refine ⟨⟨rfl,?_,?_⟩,rfl,rfl⟩
         · simp [List.take_of_length_le]
         · intro e h j u lo n c q
           simp at h
           subst h
           cases q))
end Go.Eng.Tryz
namespace Go.Eng.Tryz
open Go.RowKit Go.Eng
set_option maxHeartbeats 0
set_option maxRecDepth 20000
theorem QHq {p:Prg} {s:Stt} (hp:p.Fit) (hr:QT p=true) (hv:Vld p s) {x:Pck} (hx:x.alt∈Qr p s x.go):Ctr Go.Proofs.Tryz.prog tab 33 [26,47,3] [23,30] [p.v,s.v,.int x.go] [.list ((Qr p s x.go).map V.int),.int 0]∧(Qr p s x.go).length≤maxLen:=by
 have hl:=live_iff.1 (ZU hx)
 have hct:=hv.count
 have hg:=(ready_mem.1 (ready_mem.2 ⟨hl.1,hx⟩)).1
 have h1:zT p s x.go=0:=by
  unfold zT
  rw [Ub hr hv,if_neg (by decide),if_neg (by omega),← Vw hg.1 hg.2,ZU hx]
  rfl
 have c:=QF6 p s x.go hp hv.shape
 rw [if_pos h1,h1] at c
 exact ⟨c,Nat.le_trans (VV (Prg.ok hr) (hv.wf (Prg.ok hr) hr) x.go) (by decide)⟩
def lv9:List (List Nat):=[[1,3,5],[3,5,7,8],[3,5,7,27],[6],[3,5,7,9,10],[3,7,9,10,12,13],[3,7,9,12,70],[6],[3,7,9,12,14],[3,7,9,12,14,75],[3,7,9,12,14],[3,7,9,12,14,103],[3,7,9,12,14,15,16],[3,7,9,12,14,15,16,17],[3,7,9,12,14,15,16,17,18],[3,7,9,12,14,15,16,17,18,122],[3,7,9,12,14,15,16,17,18],[3,7,9,12,14,15,16,17,18],[3,7,9,12,14,144],[6],[6]]
theorem QDV (p:Prg) (l:List Int) (b:Bud) (hp:p.Fit) (hl:l.length≤maxLen):Ctr Go.Proofs.Tryz.prog tab 9 [26,23,28] [4] [p.v,.list (l.map V.int),b.v] [.bool true]:=by
 have hpp:=hp
 have hcode:True→True:=id
 have hsl:True→True:=id
 have hmx:400≤maxLen:=by decide
 have hcl2:=vE p l b
 have hcl:(QD p l b).length≤maxLen:=Nat.le_trans hcl2 (by decide)
 refine Ctr.body ok Go.Proofs.Tryz.func9 rfl rfl 146 rfl [.tmp 6] rfl (by simp [QL]) ?_
 simp only [go_sem,Nat.reduceAdd]
 repeat' first
  | ((with_reducible refine SARA.told 6 _ ?_);try simp only [hevl,hstl])
  | ((with_reducible refine SARA.told 9 _ ?_);try simp only [hwi])
  | ((with_reducible refine SART.told 11 _ ?_);try simp only [hA0,hA1,hE0,hE1,hwi,Int.toNat_natCast,Pck.v0])
  | ((with_reducible refine SART.told 12 _ ?_);try simp only [hA1,hStt,hwi,Int.toNat_natCast,Pck.v0])
  | ((with_reducible refine SARQ.told 17 _ ?_);try simp only [hAk,hA1,hwi,Int.toNat_natCast,Pck.v1])
  | ((with_reducible first|refine Zx fun R1 hR1=>?_|refine J23 fun R1 hR1=>?_|refine vp fun R1 hR1=>?_|refine vo fun R1 hR1=>?_|refine vn fun R1 hR1=>?_);(simp only [go_sem,seval,-List.reduceReplicate,Bool.cond_false_right,Bool.cond_true_left,QK,decide_true,Bool.not_true,Bool.not_false]);(repeat' with_reducible refine And.intro ?_ ?_);all_goals first|(refine hR1 _ ?_;clear hR1 R1)|(intro hgf;simp only [hgf];refine hR1 _ ?_;clear hR1 R1)|((first|refine ce (cf (ZW p l b hpp hl) ?_ (by first|rfl|(simp [go_sem,List.take_of_length_le,List.length_map,List.map_take,List.drop_zero];done)|fail))|refine ⟨_,_,rfl,.inr ⟨fun _=>CallE.ctr ok (ZW p l b hpp hl) (by first|rfl|(simp [go_sem,List.take_of_length_le,List.length_map,List.map_take,List.drop_zero];done)|fail) ?_,?_⟩⟩|refine ⟨_,_,rfl,.inr (CallB.ctr ok (ZW p l b hpp hl) (by first|rfl|(simp [go_sem,List.take_of_length_le,List.length_map,List.map_take,List.drop_zero];done)|fail) ?_)⟩|refine ⟨_,_,rfl,.inr ⟨fun _=>CallB.ctr ok (ZW p l b hpp hl) (by first|rfl|(simp [go_sem,List.take_of_length_le,List.length_map,List.map_take,List.drop_zero];done)|fail) ?_,?_⟩⟩|refine ⟨_,_,rfl,.inr (CallE.ctrZ (hT) (by first|rfl|(simp [go_sem,List.take_of_length_le,List.length_map,List.map_take,List.drop_zero];done)|fail) ?_)⟩|refine ⟨_,_,rfl,.inr ⟨fun _=>CallE.ctrZ (hT) (by first|rfl|(simp [go_sem,List.take_of_length_le,List.length_map,List.map_take,List.drop_zero];done)|fail) ?_,?_⟩⟩|refine ⟨_,_,rfl,.inr (CallB.ctrZ (hT) (by first|rfl|(simp [go_sem,List.take_of_length_le,List.length_map,List.map_take,List.drop_zero];done)|fail) ?_)⟩|refine ⟨_,_,rfl,.inr ⟨fun _=>CallB.ctrZ (hT) (by first|rfl|(simp [go_sem,List.take_of_length_le,List.length_map,List.map_take,List.drop_zero];done)|fail) ?_,?_⟩⟩|refine ce (cf (hSt) ?_ (by first|rfl|(simp [go_sem,List.take_of_length_le,List.length_map,List.map_take,List.drop_zero];done)|fail))|refine ⟨_,_,rfl,.inr ⟨fun _=>CallE.ctr ok (hSt) (by first|rfl|(simp [go_sem,List.take_of_length_le,List.length_map,List.map_take,List.drop_zero];done)|fail) ?_,?_⟩⟩|refine ⟨_,_,rfl,.inr (CallB.ctr ok (hSt) (by first|rfl|(simp [go_sem,List.take_of_length_le,List.length_map,List.map_take,List.drop_zero];done)|fail) ?_)⟩|refine ⟨_,_,rfl,.inr ⟨fun _=>CallB.ctr ok (hSt) (by first|rfl|(simp [go_sem,List.take_of_length_le,List.length_map,List.map_take,List.drop_zero];done)|fail) ?_,?_⟩⟩|refine ce (cf (hal.1) ?_ (by first|rfl|(simp [go_sem,List.take_of_length_le,List.length_map,List.map_take,List.drop_zero];done)|fail))|refine ⟨_,_,rfl,.inr ⟨fun _=>CallE.ctr ok (hal.1) (by first|rfl|(simp [go_sem,List.take_of_length_le,List.length_map,List.map_take,List.drop_zero];done)|fail) ?_,?_⟩⟩|refine ⟨_,_,rfl,.inr (CallB.ctr ok (hal.1) (by first|rfl|(simp [go_sem,List.take_of_length_le,List.length_map,List.map_take,List.drop_zero];done)|fail) ?_)⟩|refine ⟨_,_,rfl,.inr ⟨fun _=>CallB.ctr ok (hal.1) (by first|rfl|(simp [go_sem,List.take_of_length_le,List.length_map,List.map_take,List.drop_zero];done)|fail) ?_,?_⟩⟩|refine ⟨_,_,rfl,_,CallQ.ctr ok (Qv) (by first|rfl|(simp [go_sem,List.take_of_length_le,List.length_map,List.map_take,List.drop_zero];done)|fail) rfl,?_⟩|refine ⟨_,_,rfl,_,fun hg=>CallQ.ctr ok (Qv) (by first|rfl|(simp [go_sem,List.take_of_length_le,List.length_map,List.map_take,List.drop_zero];done)|fail) rfl,?_⟩|refine cq (cc (Qv) (by first|rfl|(simp [go_sem,List.take_of_length_le,List.length_map,List.map_take,List.drop_zero];done)|fail)) ?_|refine ⟨_,_,rfl,.inl ⟨_,fun hg=>CallQ.ctr ok (Qv) (by first|rfl|(simp [go_sem,List.take_of_length_le,List.length_map,List.map_take,List.drop_zero];done)|fail) rfl,?_⟩⟩|refine ⟨_,_,rfl,_,CallQ.ctr ok (YC (ZR p (QD p l b) b i) (ZR p (QD p l b) b (i+1)) hT0 hT1) (by first|rfl|(simp [go_sem,List.take_of_length_le,List.length_map,List.map_take,List.drop_zero];done)|fail) rfl,?_⟩|refine ⟨_,_,rfl,_,fun hg=>CallQ.ctr ok (YC (ZR p (QD p l b) b i) (ZR p (QD p l b) b (i+1)) hT0 hT1) (by first|rfl|(simp [go_sem,List.take_of_length_le,List.length_map,List.map_take,List.drop_zero];done)|fail) rfl,?_⟩|refine cq (cc (YC (ZR p (QD p l b) b i) (ZR p (QD p l b) b (i+1)) hT0 hT1) (by first|rfl|(simp [go_sem,List.take_of_length_le,List.length_map,List.map_take,List.drop_zero];done)|fail)) ?_|refine ⟨_,_,rfl,.inl ⟨_,fun hg=>CallQ.ctr ok (YC (ZR p (QD p l b) b i) (ZR p (QD p l b) b (i+1)) hT0 hT1) (by first|rfl|(simp [go_sem,List.take_of_length_le,List.length_map,List.map_take,List.drop_zero];done)|fail) rfl,?_⟩⟩);all_goals ((try simp only [go_sem,seval,-List.reduceReplicate,Bool.cond_false_right,Bool.cond_true_left,QK,decide_true,Bool.not_true,Bool.not_false]);(repeat' with_reducible refine And.intro ?_ ?_);all_goals first|(refine hR1 _ ?_;clear hR1 R1)|(intro hgf;simp only [hgf];refine hR1 _ ?_;clear hR1 R1)|omega|rfl|decide|assumption|(intro _;omega)|(simp;done)|(simp [-List.getD_eq_getElem?_getD];omega)|exact hcode _|(intro _;exact hcode _)|exact hsl _|(intro _;exact hsl _)|(simp [-List.getD_eq_getElem?_getD,QF,maxLen,YN,Q0,Qz,Qw,Qx];omega)|(simp [-List.getD_eq_getElem?_getD,QF,maxLen,YN,Q0,Qz,Qw,Qx];done)))|omega|rfl|decide|assumption|(intro _;omega)|(simp;done)|(simp [-List.getD_eq_getElem?_getD];omega)|exact hcode _|(intro _;exact hcode _)|exact hsl _|(intro _;exact hsl _)|(simp [-List.getD_eq_getElem?_getD,QF,maxLen,YN,Q0,Qz,Qw,Qx];omega)|(simp [-List.getD_eq_getElem?_getD,QF,maxLen,YN,Q0,Qz,Qw,Qx];done))
  | ((with_reducible first|refine vm ?_|refine Zw ?_|refine J29 ?_);refine hR _ ?_;clear hR R;try simp only [go_sem,lv9,Nat.reduceBEq])
  | (with_reducible first|refine vk ?_ ?_|exact vj|refine vi ?_ ?_)
  | (with_reducible first|refine J1 ?_|refine J2 ?_|refine J3 ?_|refine J4 ?_|refine J5 ?_|refine J6 ?_|refine J7 ?_|refine J8 (by decide) ?_|refine J9 ?_|refine Uf ?_|refine ZL ?_|refine ZS ?_|refine Y3 ?_|refine V7 ?_)
  | ((with_reducible refine Qy 3 ?_)
     have hc0:QD p l b=[]:=if_neg hb27
     simp only [hc0,List.map_nil,List.length_nil]
     (with_reducible refine rg lv9 fun R hR=>?_);simp only [go_sem,QC])
  | ((with_reducible refine Qy 4 ?_)
     obtain ⟨hOk,hS,hO⟩:=YS (y6 hb27)
     have hr:=hOk.right
     have hT:=Zz p (QD p l b) b hpp hcl
     rw [hO] at hT
     have hevl:=YL p (QD p l b) b
     have hSt:=Uh p (QD p l b) b hpp hcl
     rw [hOk.eq] at hSt
     have hstl:(ZP QA p b.fuel (start QA p b.fuel).1 (QD p l b) (QD p l b).length).length=(QD p l b).length+1:=UE ..
     have hwl:=QN (n:=(QD p l b).length) (m:=300) (by omega) (by decide)
     have hoj:=hOk.all
     refine Yx (J49 ok.sized 2 rfl) ?_
     simp only [St.frz,Tm.frz,E.frz,E.frzL,Obj.frz,List.map_cons,List.map_nil,List.set_cons_zero,List.set_cons_succ,Nat.reduceBEq,Nat.beq_refl,if_true,if_false,Nat.beq_eq_true_eq,reduceCtorEq,Bool.false_eq_true,V.get,Nat.reduceEqDiff]
     simp only [List.drop_zero,List.take_of_length_le,List.length_map,Nat.le_refl]
     (with_reducible refine rg lv9 fun R hR=>?_);simp only [go_sem,QC])
  | ((with_reducible refine Qy 6 ?_)
     refine Yx (J49 ok.sized 4 rfl) ?_
     simp only [St.frz,Tm.frz,E.frz,E.frzL,Obj.frz,List.map_cons,List.map_nil,List.set_cons_zero,List.set_cons_succ,Nat.reduceBEq,Nat.beq_refl,if_true,if_false,Nat.beq_eq_true_eq,reduceCtorEq,Bool.false_eq_true,V.get,Nat.reduceEqDiff]
     simp only [List.drop_zero,List.take_of_length_le,List.length_map,Nat.le_refl]
     (with_reducible refine rg lv9 fun R hR=>?_);simp only [go_sem,QC])
  | ((with_reducible refine Qy 13 ?_)
     refine Yx (J49 ok.sized 5 rfl) ?_
     simp only [St.frz,Tm.frz,E.frz,E.frzL,Obj.frz,List.map_cons,List.map_nil,List.set_cons_zero,List.set_cons_succ,Nat.reduceBEq,Nat.beq_refl,if_true,if_false,Nat.beq_eq_true_eq,reduceCtorEq,Bool.false_eq_true,V.get,Nat.reduceEqDiff]
     simp only [List.drop_zero,List.take_of_length_le,List.length_map,Nat.le_refl]
     (with_reducible refine rg lv9 fun R hR=>?_);simp only [go_sem,QC])
  | ((with_reducible refine Qy 17 ?_)
     have hkt:k<(Qr p (QG QA p b.fuel (start QA p b.fuel).1 (QD p l b) i) ((QD p l b).getD (i+1) default).go).length:=by omega
     have hAk:=Qt V.int (Qr p (QG QA p b.fuel (start QA p b.fuel).1 (QD p l b) i) ((QD p l b).getD (i+1) default).go) (i:=k) hkt
     (with_reducible refine qq ok Qc (by kernel_rfl) (by kernel_rfl) lv9 ?_);intro R hR;simp only [go_sem,QC])
  | ((with_reducible refine Qy 18 ?_)
     have hk2:k=(Qr p (QG QA p b.fuel (start QA p b.fuel).1 (QD p l b) i) ((QD p l b).getD (i+1) default).go).length:=by omega
     subst hk2
     have hany:(List.take (Qr p (QG QA p b.fuel (start QA p b.fuel).1 (QD p l b) i) ((QD p l b).getD (i+1) default).go).length (Qr p (QG QA p b.fuel (start QA p b.fuel).1 (QD p l b) i) ((QD p l b).getD (i+1) default).go)).any (fun a=>decide (a=((QD p l b).getD (i+1) default).alt))=true:=by
      rw [List.take_length]
      exact List.any_eq_true.2 ⟨_,hnr,by simp⟩
     rw [hany]
     (with_reducible refine rg lv9 fun R hR=>?_);simp only [go_sem,QC])
  | ((with_reducible refine Qy 11 ?_)
     have hi1:i+1<(QD p l b).length:=by omega
     have hA0:=Qt Pck.v (QD p l b) (i:=i) (by omega)
     have hA1:=Qt Pck.v (QD p l b) (i:=i+1) hi1
     have hT0:=hOk.touch (show i<(QD p l b).length by omega)
     have hT1:=hOk.touch hi1
     have hE0:=fun d:V=>Xk (p:=p) (b:=b) (d:=d) (show i<(QD p l b).length by omega)
     have hE1:=fun d:V=>Xk (p:=p) (b:=b) (d:=d) hi1
     refine V6 ok Qc (.take 0 (.take 1 (.take 2 (.take 3 (.take 4 (.take 5 (.take 6 (.take 7 (.take 8 (.take 9 (.take 10 (.take 11 (.take 12 (.take 13 (.take 14 (.take 15 (.take 16 (.take 17 (.take 18 (.take 19 (.take 20 (.take 21 (.take 22 (.take 23 (.br 24 (.take 25 .done) .nil))))))))))))))))))))))))) [] lv9 (by kernel_rfl) (fun R hR=>?_);simp only [go_sem,QC])
  | ((with_reducible refine Qy 12 ?_)
     have hdp:ZA (ZR p (QD p l b) b i) (ZR p (QD p l b) b (i+1))=false:=by simpa using hb103.2
     have hvi:Vld p (QG QA p b.fuel (start QA p b.fuel).1 (QD p l b) i):=Y5 ZO hr (Prg.ok hr) hOk.fuel hOk.start (by omega) (fun j hj=>hoj j (by omega))
     have hnr:=(x9 hOk hi1 hdp).near
     have hal:=QHq hpp hr hvi hnr
     have hall:=hal.2
     have hStt:∀ d:V,((ZP QA p b.fuel (start QA p b.fuel).1 (QD p l b) (QD p l b).length).map Stt.v).getD i d=Stt.v (QG QA p b.fuel (start QA p b.fuel).1 (QD p l b) i):=fun d=>by
      rw [Qt Stt.v (ZP QA p b.fuel (start QA p b.fuel).1 (QD p l b) (QD p l b).length) (i:=i) (by omega),qt (by omega)]
     refine V6 ok Qc (.take 0 (.take 1 (.take 2 (.take 3 (.take 4 (.take 5 (.take 6 (.take 7 (.take 8 (.take 9 (.take 10 (.br 11 (.take 12 (.take 13 (.take 14 (.take 15 (.take 16 .done))))) .nil)))))))))))) [] lv9 (by kernel_rfl) (fun R hR=>?_);simp only [go_sem,QC])
  | ((with_reducible refine rg lv9 fun R hR=>?_);simp only [go_sem,QC])
  | ((with_reducible refine qq ok Qc (by kernel_rfl) (by kernel_rfl) lv9 ?_);intro R hR;simp only [go_sem,QC])
  | ((with_reducible refine QR 27 rfl (fun hb27=>?_) fun hb27=>?_);all_goals (try simp [-List.getD_eq_getElem?_getD] at hb27;try (exfalso;omega)))
  | ((with_reducible refine QR 70 rfl (fun hb70=>?_) fun hb70=>?_);all_goals (try simp [-List.getD_eq_getElem?_getD] at hb70;try (exfalso;omega)))
  | ((with_reducible refine QR 75 rfl (fun hb75=>?_) fun hb75=>?_);all_goals (try simp [-List.getD_eq_getElem?_getD] at hb75;try (exfalso;omega)))
  | ((with_reducible refine QR 103 rfl (fun hb103=>?_) fun hb103=>?_);all_goals (try simp [-List.getD_eq_getElem?_getD] at hb103;try (exfalso;omega)))
  | ((with_reducible refine QR 122 rfl (fun hb122=>?_) fun hb122=>?_);all_goals (try simp [-List.getD_eq_getElem?_getD] at hb122;try (exfalso;omega)))
  | ((with_reducible refine QR 144 rfl (fun hb144=>?_) fun hb144=>?_);all_goals (try simp [-List.getD_eq_getElem?_getD] at hb144;try (exfalso;omega)))
  | ((with_reducible refine W1 ?_)
     refine Yx (ZZ (by first|rfl|(simp;done)|fail)) (Wo (fun n τ=>∃ (i:Nat),n=(QD p l b).length-i∧(i≤(QD p l b).length)∧τ={ tm:=[(3,true,.ptr 0 [] 26),(7,true,.fs 56 ((QD p l b).map Pck.v) false),(9,true,.ptr 3 [] 49),(12,true,.fs 47 ((ZP QA p b.fuel (start QA p b.fuel).1 (QD p l b) (QD p l b).length).map Stt.v) false),(14,true,.int .i64 i)],ob:=[.var 26 (.data 26 p.v),.var 28 (.data 28 b.v),.dead,.var 49 (.data 49 (Trc.v ⟨ZK p (QD p l b) b,ZE p (QD p l b) b,decide (((QD p l b).length:Int)=b.steps)&&decide (0<(ready p (ZE p (QD p l b) b)).length)⟩)),.dead],out:=[],nt:=146 }) ((QD p l b).length) ⟨0,rfl,Nat.zero_le _,rfl⟩ ?_)
     rintro n τ ⟨i,hn,hi,rfl⟩
     have hwi:IntKind.i64.wrap ((i:Int)+1)=((i+1:Nat):Int):=by
      rw [Qp (by omega) (by omega)]
      omega)
  | ((with_reducible refine W1 ?_)
     refine Yx (ZZ (by first|rfl|(simp;done)|fail)) (Wo (fun n τ=>∃ (k:Nat),n=(Qr p (QG QA p b.fuel (start QA p b.fuel).1 (QD p l b) i) ((QD p l b).getD (i+1) default).go).length-k∧(k≤(Qr p (QG QA p b.fuel (start QA p b.fuel).1 (QD p l b) i) ((QD p l b).getD (i+1) default).go).length)∧τ={ tm:=[(3,true,.ptr 0 [] 26),(7,true,.fs 56 ((QD p l b).map Pck.v) false),(9,true,.ptr 3 [] 49),(12,true,.fs 47 ((ZP QA p b.fuel (start QA p b.fuel).1 (QD p l b) (QD p l b).length).map Stt.v) false),(14,true,.int .i64 i),(15,true,.fs 3 ((Qr p (QG QA p b.fuel (start QA p b.fuel).1 (QD p l b) i) ((QD p l b).getD (i+1) default).go).map V.int) false),(16,true,.int .i64 0),(17,true,.bool ((List.take k (Qr p (QG QA p b.fuel (start QA p b.fuel).1 (QD p l b) i) ((QD p l b).getD (i+1) default).go)).any (fun a=>decide (a=((QD p l b).getD (i+1) default).alt)))),(18,true,.int .i64 k)],ob:=[.var 26 (.data 26 p.v),.var 28 (.data 28 b.v),.dead,.var 49 (.data 49 (Trc.v ⟨ZK p (QD p l b) b,ZE p (QD p l b) b,decide (((QD p l b).length:Int)=b.steps)&&decide (0<(ready p (ZE p (QD p l b) b)).length)⟩)),.dead,.dead],out:=[],nt:=146 }) ((Qr p (QG QA p b.fuel (start QA p b.fuel).1 (QD p l b) i) ((QD p l b).getD (i+1) default).go).length) ⟨0,rfl,Nat.zero_le _,rfl⟩ ?_)
     rintro n τ ⟨k,hn,hk,rfl⟩)
  | ((with_reducible refine zF ?_)
     first
      | (refine WE ((QD p l b).length-(i+1)) _ (by omega) ((Vk 5 rfl).trans (ZZ (by simp only [hwi,List.take_succ_cons,List.take_zero]))) ⟨i+1,rfl,by omega,rfl⟩)
      | (have hw:=QN hkt hall
         have e:=ye (fun a=>decide (a=((QD p l b).getD (i+1) default).alt)) (Qr p (QG QA p b.fuel (start QA p b.fuel).1 (QD p l b) i) ((QD p l b).getD (i+1) default).go) hkt
         refine WE ((Qr p (QG QA p b.fuel (start QA p b.fuel).1 (QD p l b) i) ((QD p l b).getD (i+1) default).go).length-(k+1)) _ (by omega) (ZZ (by simp only [hw,e];first|rfl|(cases (List.take k (Qr p (QG QA p b.fuel (start QA p b.fuel).1 (QD p l b) i) ((QD p l b).getD (i+1) default).go)).any (fun a=>decide (a=((QD p l b).getD (i+1) default).alt))<;>rfl))) ⟨k+1,rfl,hkt,rfl⟩))
  | ((with_reducible first|refine YQ ?_|refine Zv ?_)
     simp only [go_sem,QS,QW,QM,seval]
     first
      | (exact ⟨rfl,rfl⟩)
      | (rfl)
      | (refine ⟨rfl,?_⟩
         simp))
end Go.Eng.Tryz
