/- A part of the proof: walks through the program's functions, and what they compute. -/
import Derived.Test.YtmonhjagbhpbeaaGreatDoorPk35
set_option linter.unusedSimpArgs false
set_option linter.unusedVariables false
namespace Go.Eng.Tryz
open Go.RowKit Go.Eng
set_option maxHeartbeats 0
set_option maxRecDepth 20000
theorem QIh (p:Prg) (s:Stt) (g:Int) (hp:p.Fit) (hr:QN p=true) (hw:Wf p s) (hg:0≤g∧g<s.count):Ctr Go.Proofs.Tryz.prog tab 180 [26,47,3] [94] [p.v,s.v,.int g] [.list ((touch p s g).map Access.v)]:=by
 have hpp:=hp
 have hok:=Prg.ok hr
 have hs:=hw.shape
 have hcnt:=hw.count
 have hcode:=p.code_len hp
 have hsl:=p.sels_len hp
 obtain ⟨hp1,hp2,hp3,hp4⟩:=hp
 have hs1:=hs.vars
 have hs2:=hs.owner
 have hs3:=hs.chans
 have hs5:=hs.gos
 have hsz:=hok.sizes
 unfold Zz at hsz
 have hmx:256≤maxLen:=by decide
 have hg6:0≤g∧g<6:=by omega
 have hgi:=hw.gos g hg.1 hg.2
 obtain ⟨hf0,hf1,hpc0,hpc1,h8⟩:=hgi
 have hgi:=hw.gos g hg.1 hg.2
 have hrt:Qb p (p.funcs.getD (s.gos.getD g.toNat default).func.toNat default) (QA p s g)=0:=hw.right hok hg.1 hg.2
 have hrg:=hok.regs (s.gos.getD g.toNat default).func.toNat
 refine Ctr.body ok Go.Proofs.Tryz.func180 rfl rfl 144 rfl [.tmp 6] rfl (by simp [QF]) ?_
 simp only [go_sem,Nat.reduceAdd]
 repeat' first
  | ((with_reducible refine SART.told 25 13 ?_)
     rw [XL (by omega)])
  | ((with_reducible first|refine Q5 fun R1 hR1=>?_|refine yb fun R1 hR1=>?_|refine qz fun R1 hR1=>?_|refine qy fun R1 hR1=>?_|refine qx fun R1 hR1=>?_);(simp only [go_sem,seval,-List.reduceReplicate,XU,Qr,yp]);(repeat' with_reducible refine And.intro ?_ ?_);all_goals first|(refine hR1 _ ?_;clear hR1 R1)|((first|refine V4 (cc (YV p s g hpp hs hg6 hgi) (by first|rfl|(simp [go_sem,List.take_of_length_le,List.length_map,XU,Qr];done)|fail)) ?_|refine cq (cc (YV p s g hpp hs hg6 hgi) (by first|rfl|(simp [go_sem,List.take_of_length_le,List.length_map,XU,Qr];done)|fail)) ?_|refine V4 (cc (Uh p s g hpp hs hg6 hgi) (by first|rfl|(simp [go_sem,List.take_of_length_le,List.length_map,XU,Qr];done)|fail)) ?_|refine cq (cc (Uh p s g hpp hs hg6 hgi) (by first|rfl|(simp [go_sem,List.take_of_length_le,List.length_map,XU,Qr];done)|fail)) ?_|refine ce (cf (UW [] _ _ _ (by simp)) ?_ (by first|rfl|(simp [go_sem,List.take_of_length_le,List.length_map,XU,Qr];done)|fail))|refine ce (cf (UW [(⟨5,g,true⟩:Access)] _ _ _ (by simp)) ?_ (by first|rfl|(simp [go_sem,List.take_of_length_le,List.length_map,XU,Qr];done)|fail))|refine ce (cf (UW [(⟨4,0,true⟩:Access),⟨5,g,true⟩] _ _ _ (by simp)) ?_ (by first|rfl|(simp [go_sem,List.take_of_length_le,List.length_map,XU,Qr];done)|fail))|refine ce (cf (UW [(⟨4,0,false⟩:Access),⟨5,g,true⟩] _ _ _ (by simp)) ?_ (by first|rfl|(simp [go_sem,List.take_of_length_le,List.length_map,XU,Qr];done)|fail))|refine ce (cf (UW (QY sl 0 [(⟨5,g,true⟩:Access)]) 3 (sl.cases.getD 0 default).chan true (hal 0 (by decide))) ?_ (by first|rfl|(simp [go_sem,List.take_of_length_le,List.length_map,XU,Qr];done)|fail))|refine ce (cf (UW (QY sl 1 [(⟨5,g,true⟩:Access)]) 3 (sl.cases.getD 1 default).chan true (hal 1 (by decide))) ?_ (by first|rfl|(simp [go_sem,List.take_of_length_le,List.length_map,XU,Qr];done)|fail))|refine ce (cf (UW (QY sl 2 [(⟨5,g,true⟩:Access)]) 3 (sl.cases.getD 2 default).chan true (hal 2 (by decide))) ?_ (by first|rfl|(simp [go_sem,List.take_of_length_le,List.length_map,XU,Qr];done)|fail))|refine ce (cf (UW (QY sl 3 [(⟨5,g,true⟩:Access)]) 3 (sl.cases.getD 3 default).chan true (hal 3 (by decide))) ?_ (by first|rfl|(simp [go_sem,List.take_of_length_le,List.length_map,XU,Qr];done)|fail)));all_goals ((try simp only [go_sem,seval,-List.reduceReplicate,XU,Qr,yp]);(repeat' with_reducible refine And.intro ?_ ?_);all_goals first|(refine hR1 _ ?_;clear hR1 R1)|exact VL))|exact VL)
  | ((with_reducible first|refine qw ?_|refine Q4 ?_|refine ya ?_);refine hR _ ?_;clear hR R;try simp only [go_sem,QCx,Nat.reduceBEq])
  | (with_reducible first|refine qv ?_ ?_|exact qu|refine qt ?_ ?_)
  | (with_reducible first|refine J1 ?_|refine J2 ?_|refine J3 ?_|refine J4 ?_|refine J5 ?_|refine J6 ?_|refine J7 ?_|refine J8 (by decide) ?_|refine J9 ?_|refine Xu ?_|refine Q2 ?_|refine Q1 ?_|refine Yc ?_|refine Xt ?_)
  | ((with_reducible refine Qe 26 ?_)
     obtain ⟨sl,hq⟩:∃ sl,sl=((p.funcs.getD (s.gos.getD g.toNat default).func.toNat default).sels.getD (QA p s g).a.toNat default):=⟨_,rfl⟩
     rw [← hq] at hsh
     rw [← hq]
     have hal:∀ j:Nat,j≤4→(QY sl j [(⟨5,g,true⟩:Access)]).length≤16:=fun j hj=>Nat.le_trans (Vd _ _ j) (by simp only [List.length_cons,List.length_nil];omega)
     (with_reducible refine rg QCx fun R hR=>?_);simp only [go_sem,QC])
  | ((with_reducible refine Qe 36 ?_)
     have hI:=w7 hrt (.inl (hw.op_at hok hg.1 hg.2 hb116 (by decide)))
     (with_reducible refine Ve ok QQ (by kernel_rfl) (by kernel_rfl) QCx ?_);intro R hR;simp only [go_sem,QC])
  | ((with_reducible refine Qe 25 ?_)
     have hI:0≤(QA p s g).a∧(QA p s g).a<((p.funcs.getD (s.gos.getD g.toNat default).func.toNat default).sels.length:Int):=UB hrt (hw.op_at hok hg.1 hg.2 hb74 (by decide))
     have hsh:=hok.short (s.gos.getD g.toNat default).func.toNat (QA p s g).a.toNat (by omega)
     refine WT ok QQ (.take 0 (.take 1 (.take 2 (.take 3 (.take 4 (.take 5 (.take 6 (.take 7 (.take 8 (.take 9 (.take 10 (.take 11 (.take 12 (.take 13 (.br 14 (.br 15 .done .nil) .nil))))))))))))))) [15] QCx (by kernel_rfl) (fun R hR=>?_);simp only [go_sem,QC])
  | ((with_reducible refine rg QCx fun R hR=>?_);simp only [go_sem,QC])
  | ((with_reducible refine Ve ok QQ (by kernel_rfl) (by kernel_rfl) QCx ?_);intro R hR;simp only [go_sem,QC])
  | ((with_reducible refine QI 22 rfl (fun hb22=>?_) fun hb22=>?_);all_goals (try simp [-List.getD_eq_getElem?_getD] at hb22;try (exfalso;omega)))
  | ((with_reducible refine QI 28 rfl (fun hb28=>?_) fun hb28=>?_);all_goals (try simp [-List.getD_eq_getElem?_getD] at hb28;try (exfalso;omega)))
  | ((with_reducible refine QI 34 rfl (fun hb34=>?_) fun hb34=>?_);all_goals (try simp [-List.getD_eq_getElem?_getD] at hb34;try (exfalso;omega)))
  | ((with_reducible refine QI 40 rfl (fun hb40=>?_) fun hb40=>?_);all_goals (try simp [-List.getD_eq_getElem?_getD] at hb40;try (exfalso;omega)))
  | ((with_reducible refine QI 47 rfl (fun hb47=>?_) fun hb47=>?_);all_goals (try simp [-List.getD_eq_getElem?_getD] at hb47;try (exfalso;omega)))
  | ((with_reducible refine QI 54 rfl (fun hb54=>?_) fun hb54=>?_);all_goals (try simp [-List.getD_eq_getElem?_getD] at hb54;try (exfalso;omega)))
  | ((with_reducible refine QI 60 rfl (fun hb60=>?_) fun hb60=>?_);all_goals (try simp [-List.getD_eq_getElem?_getD] at hb60;try (exfalso;omega)))
  | ((with_reducible refine QI 68 rfl (fun hb68=>?_) fun hb68=>?_);all_goals (try simp [-List.getD_eq_getElem?_getD] at hb68;try (exfalso;omega)))
  | ((with_reducible refine QI 74 rfl (fun hb74=>?_) fun hb74=>?_);all_goals (try simp [-List.getD_eq_getElem?_getD] at hb74;try (exfalso;omega)))
  | ((with_reducible refine QI 94 rfl (fun hb94=>?_) fun hb94=>?_);all_goals (try simp [-List.getD_eq_getElem?_getD] at hb94;try (exfalso;omega)))
  | ((with_reducible refine QI 105 rfl (fun hb105=>?_) fun hb105=>?_);all_goals (try simp [-List.getD_eq_getElem?_getD] at hb105;try (exfalso;omega)))
  | ((with_reducible refine QI 111 rfl (fun hb111=>?_) fun hb111=>?_);all_goals (try simp [-List.getD_eq_getElem?_getD] at hb111;try (exfalso;omega)))
  | ((with_reducible refine QI 116 rfl (fun hb116=>?_) fun hb116=>?_);all_goals (try simp [-List.getD_eq_getElem?_getD] at hb116;try (exfalso;omega)))
  | ((with_reducible refine QI 135 rfl (fun hb135=>?_) fun hb135=>?_);all_goals (try simp [-List.getD_eq_getElem?_getD] at hb135;try (exfalso;omega)))
  | ((with_reducible refine QI 139 rfl (fun hb139=>?_) fun hb139=>?_);all_goals (try simp [-List.getD_eq_getElem?_getD] at hb139;try (exfalso;omega)))
  | ((with_reducible refine Ya ?_)
     refine Zv (Qo (by first|rfl|fail)) (Yb (fun n τ=>∃ (j:Nat),n=sl.cases.length-j∧(j≤sl.cases.length)∧τ={ tm:=[(8,true,.sl (z6 j) 60 0 (QY sl j [(⟨5,g,true⟩:Access)]).length false),(9,true,.ptr 4 [] 173),(10,true,.int .i64 j)],ob:=(qD p s (QA p s g) sl [(⟨5,g,true⟩:Access)] j),out:=[],nt:=144 }) (sl.cases.length) ⟨0,rfl,by omega,rfl⟩ ?_)
     rintro n τ ⟨j,hn,hj,rfl⟩
     have hj4:j≤4:=by omega
     rcases (show j=0∨j=1∨j=2∨j=3∨j=4 by omega) with rfl|rfl|rfl|rfl|rfl
     all_goals simp only [z6,qD,List.cons_append,List.nil_append,Nat.reduceAdd])
  | ((with_reducible refine WC ?_)
     first
      | (have hac:=WB sl (j:=0) (by omega) [(⟨5,g,true⟩:Access)]
         refine Z0 (sl.cases.length-1) _ (by omega) (Qo ?_) ⟨1,rfl,?_,rfl⟩
         · simp only [z6,qD,List.cons_append,List.nil_append,Nat.reduceAdd,hac]
           rfl
         · omega)
      | (have hac:=WB sl (j:=1) (by omega) [(⟨5,g,true⟩:Access)]
         refine Z0 (sl.cases.length-2) _ (by omega) (Qo ?_) ⟨2,rfl,?_,rfl⟩
         · simp only [z6,qD,List.cons_append,List.nil_append,Nat.reduceAdd,hac]
           rfl
         · omega)
      | (have hac:=WB sl (j:=2) (by omega) [(⟨5,g,true⟩:Access)]
         refine Z0 (sl.cases.length-3) _ (by omega) (Qo ?_) ⟨3,rfl,?_,rfl⟩
         · simp only [z6,qD,List.cons_append,List.nil_append,Nat.reduceAdd,hac]
           rfl
         · omega)
      | (have hac:=WB sl (j:=3) (by omega) [(⟨5,g,true⟩:Access)]
         refine Z0 (sl.cases.length-4) _ (by omega) (Qo ?_) ⟨4,rfl,?_,rfl⟩
         · simp only [z6,qD,List.cons_append,List.nil_append,Nat.reduceAdd,hac]
           rfl
         · omega))
  | ((with_reducible first|refine ZQ ?_|refine ZP ?_)
     simp only [go_sem,QL,QM,QH,seval]
     first
      | (have q:QK p s g=50:=hb22
         refine ⟨rfl,?_⟩
         rw [show touch p s g=add 1 (QA p s g).b false [(⟨5,g,true⟩:Access)] from if_pos hb22]
         simp [-List.getD_eq_getElem?_getD,List.take_of_length_le,Qr])
      | (have q:QK p s g=54:=hb28
         refine ⟨rfl,?_⟩
         rw [show touch p s g=add 1 (QA p s g).a false [(⟨5,g,true⟩:Access)] from (if_neg (by omega)).trans (if_pos hb28)]
         simp [-List.getD_eq_getElem?_getD,List.take_of_length_le,Qr])
      | (have q:QK p s g=51:=hb34
         refine ⟨rfl,?_⟩
         rw [show touch p s g=add 1 (QA p s g).a true [(⟨5,g,true⟩:Access)] from (if_neg (by omega)).trans ((if_neg (by omega)).trans (if_pos hb34))]
         simp [-List.getD_eq_getElem?_getD,List.take_of_length_le,Qr])
      | (have q:QK p s g=52:=hb40
         refine ⟨rfl,?_⟩
         rw [show touch p s g=add 1 (QA p s g).b true [(⟨5,g,true⟩:Access)] from (if_neg (by omega)).trans ((if_neg (by omega)).trans ((if_neg (by omega)).trans (if_pos (.inl q))))]
         simp [-List.getD_eq_getElem?_getD,List.take_of_length_le,Qr])
      | (have q:QK p s g=53:=hb40
         refine ⟨rfl,?_⟩
         rw [show touch p s g=add 1 (QA p s g).b true [(⟨5,g,true⟩:Access)] from (if_neg (by omega)).trans ((if_neg (by omega)).trans ((if_neg (by omega)).trans (if_pos (.inr q))))]
         simp [-List.getD_eq_getElem?_getD,List.take_of_length_le,Qr])
      | (have q:QK p s g=55:=hb47
         refine ⟨rfl,?_⟩
         rw [show touch p s g=add 2 (QA p s g).a true [(⟨5,g,true⟩:Access)] from (if_neg (by omega)).trans ((if_neg (by omega)).trans ((if_neg (by omega)).trans ((if_neg (by omega)).trans (if_pos (.inl q)))))]
         simp [-List.getD_eq_getElem?_getD,List.take_of_length_le,Qr])
      | (have q:QK p s g=56:=hb47
         refine ⟨rfl,?_⟩
         rw [show touch p s g=add 2 (QA p s g).a true [(⟨5,g,true⟩:Access)] from (if_neg (by omega)).trans ((if_neg (by omega)).trans ((if_neg (by omega)).trans ((if_neg (by omega)).trans (if_pos (.inr q)))))]
         simp [-List.getD_eq_getElem?_getD,List.take_of_length_le,Qr])
      | (have q:QK p s g=57:=hb54
         refine ⟨rfl,?_⟩
         rw [show touch p s g=add 2 (QA p s g).b true [(⟨5,g,true⟩:Access)] from (if_neg (by omega)).trans ((if_neg (by omega)).trans ((if_neg (by omega)).trans ((if_neg (by omega)).trans ((if_neg (by omega)).trans (if_pos q)))))]
         simp [-List.getD_eq_getElem?_getD,List.take_of_length_le,Qr])
      | (have q:QK p s g=58:=hb60
         refine ⟨rfl,?_⟩
         rw [show touch p s g=add 3 (QA p s g).a true [(⟨5,g,true⟩:Access)] from (if_neg (by omega)).trans ((if_neg (by omega)).trans ((if_neg (by omega)).trans ((if_neg (by omega)).trans ((if_neg (by omega)).trans ((if_neg (by omega)).trans (if_pos (.inl q)))))))]
         simp [-List.getD_eq_getElem?_getD,List.take_of_length_le,Qr])
      | (have q:QK p s g=60:=hb60
         refine ⟨rfl,?_⟩
         rw [show touch p s g=add 3 (QA p s g).a true [(⟨5,g,true⟩:Access)] from (if_neg (by omega)).trans ((if_neg (by omega)).trans ((if_neg (by omega)).trans ((if_neg (by omega)).trans ((if_neg (by omega)).trans ((if_neg (by omega)).trans (if_pos (.inr (.inl q))))))))]
         simp [-List.getD_eq_getElem?_getD,List.take_of_length_le,Qr])
      | (have q:QK p s g=66:=hb60
         refine ⟨rfl,?_⟩
         rw [show touch p s g=add 3 (QA p s g).a true [(⟨5,g,true⟩:Access)] from (if_neg (by omega)).trans ((if_neg (by omega)).trans ((if_neg (by omega)).trans ((if_neg (by omega)).trans ((if_neg (by omega)).trans ((if_neg (by omega)).trans (if_pos (.inr (.inr q))))))))]
         simp [-List.getD_eq_getElem?_getD,List.take_of_length_le,Qr])
      | (have q:QK p s g=59:=hb68
         refine ⟨rfl,?_⟩
         rw [show touch p s g=add 3 (QA p s g).b true [(⟨5,g,true⟩:Access)] from (if_neg (by omega)).trans ((if_neg (by omega)).trans ((if_neg (by omega)).trans ((if_neg (by omega)).trans ((if_neg (by omega)).trans ((if_neg (by omega)).trans ((if_neg (by omega)).trans (if_pos q)))))))]
         simp [-List.getD_eq_getElem?_getD,List.take_of_length_le,Qr])
      | (have q:QK p s g=61:=hb74
         have q2:0≤sl.cases.length:=hj
         have hj':sl.cases.length=0:=by first|omega|(rw [hb94];rfl)
         rw [hq] at hj'
         refine ⟨rfl,?_⟩
         rw [show touch p s g=[(⟨5,g,true⟩:Access)] from (if_neg (by omega)).trans ((if_neg (by omega)).trans ((if_neg (by omega)).trans ((if_neg (by omega)).trans ((if_neg (by omega)).trans ((if_neg (by omega)).trans ((if_neg (by omega)).trans ((if_neg (by omega)).trans ((if_pos q).trans (congrArg (fun n=>QY ((p.funcs.getD (s.gos.getD g.toNat default).func.toNat default).sels.getD (QA p s g).a.toNat default) n [(⟨5,g,true⟩:Access)]) hj')))))))))]
         simp [-List.getD_eq_getElem?_getD,List.take_of_length_le,Qr])
      | (have q:QK p s g=61:=hb74
         have q2:1≤sl.cases.length:=hj
         have hj':sl.cases.length=1:=by first|omega|(rw [hb94];rfl)
         rw [hq] at hj'
         refine ⟨rfl,?_⟩
         rw [show touch p s g=QY ((p.funcs.getD (s.gos.getD g.toNat default).func.toNat default).sels.getD (QA p s g).a.toNat default) 1 [(⟨5,g,true⟩:Access)] from (if_neg (by omega)).trans ((if_neg (by omega)).trans ((if_neg (by omega)).trans ((if_neg (by omega)).trans ((if_neg (by omega)).trans ((if_neg (by omega)).trans ((if_neg (by omega)).trans ((if_neg (by omega)).trans ((if_pos q).trans (congrArg (fun n=>QY ((p.funcs.getD (s.gos.getD g.toNat default).func.toNat default).sels.getD (QA p s g).a.toNat default) n [(⟨5,g,true⟩:Access)]) hj')))))))))]
         rw [← hq]
         simp [-List.getD_eq_getElem?_getD,List.take_of_length_le,Qr])
      | (have q:QK p s g=61:=hb74
         have q2:2≤sl.cases.length:=hj
         have hj':sl.cases.length=2:=by first|omega|(rw [hb94];rfl)
         rw [hq] at hj'
         refine ⟨rfl,?_⟩
         rw [show touch p s g=QY ((p.funcs.getD (s.gos.getD g.toNat default).func.toNat default).sels.getD (QA p s g).a.toNat default) 2 [(⟨5,g,true⟩:Access)] from (if_neg (by omega)).trans ((if_neg (by omega)).trans ((if_neg (by omega)).trans ((if_neg (by omega)).trans ((if_neg (by omega)).trans ((if_neg (by omega)).trans ((if_neg (by omega)).trans ((if_neg (by omega)).trans ((if_pos q).trans (congrArg (fun n=>QY ((p.funcs.getD (s.gos.getD g.toNat default).func.toNat default).sels.getD (QA p s g).a.toNat default) n [(⟨5,g,true⟩:Access)]) hj')))))))))]
         rw [← hq]
         simp [-List.getD_eq_getElem?_getD,List.take_of_length_le,Qr])
      | (have q:QK p s g=61:=hb74
         have q2:3≤sl.cases.length:=hj
         have hj':sl.cases.length=3:=by first|omega|(rw [hb94];rfl)
         rw [hq] at hj'
         refine ⟨rfl,?_⟩
         rw [show touch p s g=QY ((p.funcs.getD (s.gos.getD g.toNat default).func.toNat default).sels.getD (QA p s g).a.toNat default) 3 [(⟨5,g,true⟩:Access)] from (if_neg (by omega)).trans ((if_neg (by omega)).trans ((if_neg (by omega)).trans ((if_neg (by omega)).trans ((if_neg (by omega)).trans ((if_neg (by omega)).trans ((if_neg (by omega)).trans ((if_neg (by omega)).trans ((if_pos q).trans (congrArg (fun n=>QY ((p.funcs.getD (s.gos.getD g.toNat default).func.toNat default).sels.getD (QA p s g).a.toNat default) n [(⟨5,g,true⟩:Access)]) hj')))))))))]
         rw [← hq]
         simp [-List.getD_eq_getElem?_getD,List.take_of_length_le,Qr])
      | (have q:QK p s g=61:=hb74
         have q2:4≤sl.cases.length:=hj
         have hj':sl.cases.length=4:=by first|omega|(rw [hb94];rfl)
         rw [hq] at hj'
         refine ⟨rfl,?_⟩
         rw [show touch p s g=QY ((p.funcs.getD (s.gos.getD g.toNat default).func.toNat default).sels.getD (QA p s g).a.toNat default) 4 [(⟨5,g,true⟩:Access)] from (if_neg (by omega)).trans ((if_neg (by omega)).trans ((if_neg (by omega)).trans ((if_neg (by omega)).trans ((if_neg (by omega)).trans ((if_neg (by omega)).trans ((if_neg (by omega)).trans ((if_neg (by omega)).trans ((if_pos q).trans (congrArg (fun n=>QY ((p.funcs.getD (s.gos.getD g.toNat default).func.toNat default).sels.getD (QA p s g).a.toNat default) n [(⟨5,g,true⟩:Access)]) hj')))))))))]
         rw [← hq]
         simp [-List.getD_eq_getElem?_getD,List.take_of_length_le,Qr])
      | (have q:QK p s g=62:=hb105
         have q2:_<_:=hb111
         refine ⟨rfl,?_⟩
         rw [show touch p s g=add 5 s.count true (add 4 0 true [(⟨5,g,true⟩:Access)]) from (if_neg (by omega)).trans ((if_neg (by omega)).trans ((if_neg (by omega)).trans ((if_neg (by omega)).trans ((if_neg (by omega)).trans ((if_neg (by omega)).trans ((if_neg (by omega)).trans ((if_neg (by omega)).trans ((if_neg (by omega)).trans ((if_pos q).trans (if_pos hb111))))))))))]
         simp [-List.getD_eq_getElem?_getD,List.take_of_length_le,Qr])
      | (have q:QK p s g=62:=hb105
         have q2:_≤_:=hb111
         refine ⟨rfl,?_⟩
         rw [show touch p s g=add 4 0 true [(⟨5,g,true⟩:Access)] from (if_neg (by omega)).trans ((if_neg (by omega)).trans ((if_neg (by omega)).trans ((if_neg (by omega)).trans ((if_neg (by omega)).trans ((if_neg (by omega)).trans ((if_neg (by omega)).trans ((if_neg (by omega)).trans ((if_neg (by omega)).trans ((if_pos q).trans (if_neg (Int.not_lt.2 hb111)))))))))))]
         simp [-List.getD_eq_getElem?_getD,List.take_of_length_le,Qr])
      | (have q:QK p s g=63:=hb116
         have q2:_∧_:=hb135
         refine ⟨rfl,?_⟩
         rw [show touch p s g=add 5 ((s.gos.getD g.toNat default).regs.getD (QA p s g).a.toNat 0) false (add 4 0 false [(⟨5,g,true⟩:Access)]) from (if_neg (by omega)).trans ((if_neg (by omega)).trans ((if_neg (by omega)).trans ((if_neg (by omega)).trans ((if_neg (by omega)).trans ((if_neg (by omega)).trans ((if_neg (by omega)).trans ((if_neg (by omega)).trans ((if_neg (by omega)).trans ((if_neg (by omega)).trans ((if_pos q).trans (if_pos hb135)))))))))))]
         simp [-List.getD_eq_getElem?_getD,List.take_of_length_le,Qr])
      | (have q:QK p s g=63:=hb116
         refine ⟨rfl,?_⟩
         rw [show touch p s g=add 4 0 false [(⟨5,g,true⟩:Access)] from (if_neg (by omega)).trans ((if_neg (by omega)).trans ((if_neg (by omega)).trans ((if_neg (by omega)).trans ((if_neg (by omega)).trans ((if_neg (by omega)).trans ((if_neg (by omega)).trans ((if_neg (by omega)).trans ((if_neg (by omega)).trans ((if_neg (by omega)).trans ((if_pos q).trans (if_neg (fun h=>absurd h.2 (Int.not_lt.2 (hb135 h.1))))))))))))))]
         simp [-List.getD_eq_getElem?_getD,List.take_of_length_le,Qr])
      | (have q:QK p s g=65:=hb139
         refine ⟨rfl,?_⟩
         rw [show touch p s g=add 6 0 true [(⟨5,g,true⟩:Access)] from (if_neg (by omega)).trans ((if_neg (by omega)).trans ((if_neg (by omega)).trans ((if_neg (by omega)).trans ((if_neg (by omega)).trans ((if_neg (by omega)).trans ((if_neg (by omega)).trans ((if_neg (by omega)).trans ((if_neg (by omega)).trans ((if_neg (by omega)).trans ((if_neg (by omega)).trans (if_pos q)))))))))))]
         simp [-List.getD_eq_getElem?_getD,List.take_of_length_le,Qr])
      | (skip
         refine ⟨rfl,?_⟩
         rw [show touch p s g=[(⟨5,g,true⟩:Access)] from (if_neg (by omega)).trans ((if_neg (by omega)).trans ((if_neg (by omega)).trans ((if_neg (by omega)).trans ((if_neg (by omega)).trans ((if_neg (by omega)).trans ((if_neg (by omega)).trans ((if_neg (by omega)).trans ((if_neg (by omega)).trans ((if_neg (by omega)).trans ((if_neg (by omega)).trans ((if_neg (by omega)).trans (rfl))))))))))))]
         simp [-List.getD_eq_getElem?_getD,List.take_of_length_le,Qr]))
theorem QNR {α:Type} {c:Prop} [Decidable c] {a b:List α} {n:Nat} (h1:c→a.length≤n) (h2:¬c→b.length≤n):(if c then a else b).length≤n:=by
 by_cases h:c
 · rw [if_pos h];exact h1 h
 · rw [if_neg h];exact h2 h
theorem QIg (p:Prg) (s:Stt) (g:Int) (hq:QK p s g=61→(Qw p s g).cases.length≤4):(touch p s g).length≤6:=by
 have h1:∀ k n w,(add k n w [(⟨5,g,true⟩:Access)]).length≤2:=fun k n w=>W7 k n w _
 have h2:∀ k n w k' n' w',(add k n w (add k' n' w' [(⟨5,g,true⟩:Access)])).length≤3:=fun k n w k' n' w'=>Nat.le_trans (W7 k n w _) (Nat.succ_le_succ (h1 _ _ _))
 have h3:QK p s g=61→(QY (Qw p s g) (Qw p s g).cases.length [(⟨5,g,true⟩:Access)]).length≤6:=fun h=>Nat.le_trans (Vd _ _ _) (by have:=hq h;simp;omega)
 unfold touch
 simp only
 repeat' with_reducible first|(refine QNR (fun h=>?_) (fun _=>?_))|(refine Nat.le_trans (h1 _ _ _) ?_)|(refine Nat.le_trans (h2 _ _ _ _ _ _) ?_)|(refine h3 ?_)
 all_goals first|decide|assumption|(simp;done)
def QEX (p:Prg) (s:Stt) (x:Pck) (val:Int) (t:Int) (l:List Access):Event :=
 ⟨x.go,(s.gos.getD x.go.toNat default).func,(s.gos.getD x.go.toNat default).pc,QK p s x.go,x.alt,val,t,l,0⟩
def QC0:List (List Nat):=[[3,4,5,6,8],[3,4,5,6,8,9],[4,5,6,8,9,10],[4,5,6,8,9,10,43],[4,5,6,8,10],[8,10,11],[8,10,11,12],[8,10,11,12,55],[8,10,11,12],[8,10,11,12],[8,10],[8]]
theorem QDE (p:Prg) (s:Stt) (x:Pck) (val:Int) (hp:p.Fit) (hr:QN p=true) (hw:Wf p s) (hg:0≤x.go∧x.go<s.count):Ctr Go.Proofs.Tryz.prog tab 139 [26,47,56,2] [63] [p.v,s.v,x.v,.int val] [(event p s x val).v]:=by
 have hpp:=hp
 have hok:=Prg.ok hr
 have hs:=hw.shape
 have hcnt:=hw.count
 have hcode:=p.code_len hp
 have hsl:=p.sels_len hp
 obtain ⟨hp1,hp2,hp3,hp4⟩:=hp
 have hs1:=hs.vars
 have hs2:=hs.owner
 have hs3:=hs.chans
 have hs5:=hs.gos
 have hsz:=hok.sizes
 unfold Zz at hsz
 have hmx:256≤maxLen:=by decide
 have hg6:0≤x.go∧x.go<6:=by omega
 have hgi:=hw.gos x.go hg.1 hg.2
 obtain ⟨hf0,hf1,hpc0,hpc1,h8⟩:=hgi
 have hgi:=hw.gos x.go hg.1 hg.2
 have hrt:Qb p (p.funcs.getD (s.gos.getD x.go.toNat default).func.toNat default) (QA p s x.go)=0:=hw.right hok hg.1 hg.2
 have htl:(touch p s x.go).length≤6:=QIg p s x.go (fun h=>by
  have hI:=UB hrt (hw.op_at hok hg.1 hg.2 h (by decide))
  exact (hok.short (s.gos.getD x.go.toNat default).func.toNat (QA p s x.go).a.toNat (by omega)).2)
 refine Ctr.body ok Go.Proofs.Tryz.func139 rfl rfl 69 rfl [.cell 8 63] rfl (by simp [QF]) ?_
 simp only [go_sem,Nat.reduceAdd]
 repeat' first
  | ((with_reducible refine SARA.told 9 5 ?_)
     rw [Qg Access.v l (by omega)])
  | ((with_reducible first|refine Q5 fun R1 hR1=>?_|refine qz fun R1 hR1=>?_|refine qy fun R1 hR1=>?_|refine qx fun R1 hR1=>?_);(simp only [go_sem,seval,-List.reduceReplicate,YA,Event.at7,qW]);(repeat' with_reducible refine And.intro ?_ ?_);all_goals first|(refine hR1 _ ?_;clear hR1 R1)|((first|refine cq (cc (YV p s x.go hpp hs hg6 hgi)) ?_|refine cq (cc (Uh p s x.go hpp hs hg6 hgi)) ?_|refine ce (cf (QIh p s x.go hpp hr hw hg) ?_));all_goals ((try simp only [go_sem,seval,-List.reduceReplicate,YA,Event.at7,qW]);(repeat' with_reducible refine And.intro ?_ ?_);all_goals first|(refine hR1 _ ?_;clear hR1 R1)|exact VL))|exact VL)
  | ((with_reducible refine SART.doneAt 2 ?_);refine hR _ ?_;clear hR R;try simp only [go_sem,QC0,Nat.reduceBEq]
     exact Qo rfl)
  | ((with_reducible first|refine qw ?_|refine Q4 ?_);refine hR _ ?_;clear hR R;try simp only [go_sem,QC0,Nat.reduceBEq])
  | (with_reducible first|refine qv ?_ ?_|exact qu|refine qt ?_ ?_)
  | (with_reducible first|refine J1 ?_|refine J2 ?_|refine J3 ?_|refine J4 ?_|refine J5 ?_|refine J6 ?_|refine J7 ?_|refine J8 (by decide) ?_|refine J9 ?_|refine Xu ?_|refine Q2 ?_|refine Q1 ?_|refine Yc ?_|refine Xt ?_)
  | ((with_reducible refine Qe 6 ?_)
     obtain ⟨l,hl⟩:∃ l,l=touch p s x.go:=⟨_,rfl⟩
     rw [← hl] at htl
     rw [← hl]
     (with_reducible refine rg QC0 fun R hR=>?_);simp only [go_sem,QC])
  | ((with_reducible refine Qe 9 ?_)
     have hk6:k<6:=by omega
     (with_reducible refine rg QC0 fun R hR=>?_);simp only [go_sem,QC])
  | ((with_reducible refine Qe 2 ?_)
     refine J35 ok QQ (.take 0 (.take 1 (.take 2 (.take 3 (.take 4 (.take 5 (.take 6 (.take 7 (.take 8 (.take 9 (.take 10 (.take 11 (.take 12 (.take 13 (.take 14 (.take 15 (.take 16 (.take 17 (.take 19 (.take 20 (.take 21 (.br 18 (.take 22 (.br 23 (.br 24 .done .nil) .nil)) (.br 23 (.br 18 (.take 22 (.br 24 .done .nil)) .nil) .nil))))))))))))))))))))))) [24] QC0 (by kernel_rfl) ({ tm:=[(4,true,.ptr 0 [] 26),(5,true,.ptr 1 [] 47),(6,true,.ptr 2 [] 56),(8,true,.ptr 3 [] 63),(9,true,.ptr 4 [] 104),(10,true,.ptr 5 [] 63)],ob:=[.var 26 (.data 26 p.v),.var 47 (.data 47 s.v),.var 56 (.data 56 x.v),.var 63 (.data 63 zeroEvent.v),.var 104 (.data 104 (QA p s x.go).v),.var 63 (.data 63 (Event.v (QEX p s x val 0 (qX [] 0))))],out:=[],nt:=69 }) (fun R hR=>?_) ?_;simp only [go_sem,QC])
  | ((with_reducible refine rg QC0 fun R hR=>?_);simp only [go_sem,QC])
  | ((with_reducible refine QI 43 rfl (fun hb43=>?_) fun hb43=>?_);all_goals (try simp [-List.getD_eq_getElem?_getD] at hb43;try (exfalso;omega)))
  | ((with_reducible refine QI 55 rfl (fun hb55=>?_) fun hb55=>?_);all_goals (try simp [-List.getD_eq_getElem?_getD] at hb55;try (exfalso;omega)))
  | ((with_reducible refine Ya ?_)
     refine Zv (Qo (by first|(rw [show QCb p s x=(QA p s x.go).n from if_pos hb43];rfl)|(rw [show QCb p s x=0 from if_neg hb43];rfl)|fail)) (Yb (fun n τ=>∃ (k:Nat),n=l.length-k∧(k≤l.length)∧τ={ tm:=[(8,true,.ptr 3 [] 63),(10,true,.ptr 5 [] 63),(11,true,.sl 6 60 0 l.length false),(12,true,.int .i64 k)],ob:=[.var 26 (.data 26 p.v),.var 47 (.data 47 s.v),.var 56 (.data 56 x.v),.var 63 (.data 63 zeroEvent.v),.var 104 (.data 104 (QA p s x.go).v),.var 63 (.data 63 (Event.v (QEX p s x val (QCb p s x) (qX l k)))),.row 60 (l.map Access.v)],out:=[],nt:=69 }) (l.length) ⟨0,rfl,by omega,rfl⟩ ?_)
     rintro n τ ⟨k,hn,hk,rfl⟩)
  | ((with_reducible refine WC ?_)
     first
      | (have hw:=QD (n:=k) (m:=6) (by omega) (by decide)
         have e:=vT l hk6
         refine Z0 (l.length-(k+1)) _ (by omega) (Qo ?_) ⟨k+1,rfl,by omega,rfl⟩
         simp only [hw,QEX,e]))
  | ((with_reducible first|refine ZQ ?_|refine ZP ?_)
     simp only [go_sem,QL,QM,QH,seval]
     have e:k=l.length:=by omega
     subst e
     subst hl
     exact ⟨rfl,congrArg (fun e:Event=>some e.v) (show _=event p s x val from rfl)⟩)
theorem w4:tab.zero 37=.agg ((List.replicate 8 (0:Int)).map V.int):=rfl
def QBI:List (List Nat):=[[3,4,5,6,8,9],[3,4,5,6,8,9,10],[3,4,5,6,8,9,10,11],[3,4,5,6,8,9,10,11,25],[4,5,6,8,9,10,11],[4,5,6,8,9,10,11],[4,5,6,8,9,11],[8,9],[3,4,5,8,9,10,11,12],[3,4,5,8,9,10,11,12,58],[8,9],[3,4,5,8,9,10,11,12],[3,4,5,8,9,12,13],[3,4,5,8,9,12,13,82],[8,9,12,13],[8,9]]
end Go.Eng.Tryz
