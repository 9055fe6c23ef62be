/- A part of the proof: walks through the program's functions, and what they compute. -/
import Derived.Test.YtedceinkpkoncaaGreatDoorPk27
set_option linter.unusedSimpArgs false
set_option linter.unusedVariables false
namespace Go.Eng.Tryz
open Go.RowKit Go.Eng
set_option maxHeartbeats 0
set_option maxRecDepth 20000
theorem xU (p:Prg) (s:Stt) (g:Int) (hp:p.Fit) (hr:QP p=true) (hw:Wf p s) (hg:0≤g∧g<s.count):Ctr Go.Proofs.Tryz.prog tab 48 [26,37,3] [60] [p.v,s.v,.int g] [.list ((touch p s g).map Access.v)]:=by
 have hpp:=hp
 have hok:=Prg.ok hr
 have hs:=hw.shape
 have hcnt:=hw.count
 have hcode:=p.code_len hp
 have hsl:=p.sels_len hp
 obtain ⟨hp1,hp2,hp3,hp4⟩:=hp
 have hs1:=hs.vars
 have hs2:=hs.owner
 have hs3:=hs.chans
 have hs5:=hs.gos
 have hsz:=hok.sizes
 unfold Ze at hsz
 have hmx:256≤maxLen:=by decide
 have hg6:0≤g∧g<6:=by omega
 have hgi:=hw.gos g hg.1 hg.2
 obtain ⟨hf0,hf1,hpc0,hpc1,h8⟩:=hgi
 have hgi:=hw.gos g hg.1 hg.2
 have hrt:QV p (p.funcs.getD (s.gos.getD g.toNat default).func.toNat default) (QA p s g)=0:=hw.right hok hg.1 hg.2
 have hrg:=hok.regs (s.gos.getD g.toNat default).func.toNat
 refine Ctr.body ok Go.Proofs.Tryz.func48 rfl rfl 144 rfl [.tmp 6] rfl (by simp [QE]) ?_
 simp only [go_sem,Nat.reduceAdd]
 repeat' first
  | ((with_reducible refine SART.told 25 13 ?_)
     rw [XA (by omega)])
  | ((with_reducible first|refine Q2 fun R1 hR1=>?_|refine xP fun R1 hR1=>?_|refine qR fun R1 hR1=>?_|refine qQ fun R1 hR1=>?_|refine qP fun R1 hR1=>?_);(simp only [go_sem,seval,-List.reduceReplicate,XI,Qp,zq]);(repeat' with_reducible refine And.intro ?_ ?_);all_goals first|(refine hR1 _ ?_;clear hR1 R1)|((first|refine ⟨_,_,rfl,_,CallQ.ctr ok (Z2 p s g hpp hs hg6 hgi) (by first|rfl|(simp [go_sem,List.take_of_length_le,List.length_map,XI,Qp];done)|fail) rfl,?_⟩|refine cq (cc (Z2 p s g hpp hs hg6 hgi) (by first|rfl|(simp [go_sem,List.take_of_length_le,List.length_map,XI,Qp];done)|fail)) ?_|refine ⟨_,_,rfl,_,CallQ.ctr ok (Wo p s g hpp hs hg6 hgi) (by first|rfl|(simp [go_sem,List.take_of_length_le,List.length_map,XI,Qp];done)|fail) rfl,?_⟩|refine cq (cc (Wo p s g hpp hs hg6 hgi) (by first|rfl|(simp [go_sem,List.take_of_length_le,List.length_map,XI,Qp];done)|fail)) ?_|refine ce (cf (UE [] _ _ _ (by simp)) ?_ (by first|rfl|(simp [go_sem,List.take_of_length_le,List.length_map,XI,Qp];done)|fail))|refine ce (cf (UE [(⟨5,g,true⟩:Access)] _ _ _ (by simp)) ?_ (by first|rfl|(simp [go_sem,List.take_of_length_le,List.length_map,XI,Qp];done)|fail))|refine ce (cf (UE [(⟨4,0,true⟩:Access),⟨5,g,true⟩] _ _ _ (by simp)) ?_ (by first|rfl|(simp [go_sem,List.take_of_length_le,List.length_map,XI,Qp];done)|fail))|refine ce (cf (UE [(⟨4,0,false⟩:Access),⟨5,g,true⟩] _ _ _ (by simp)) ?_ (by first|rfl|(simp [go_sem,List.take_of_length_le,List.length_map,XI,Qp];done)|fail))|refine ce (cf (UE (Qf sl 0 [(⟨5,g,true⟩:Access)]) 3 (sl.cases.getD 0 default).chan true (hal 0 (by decide))) ?_ (by first|rfl|(simp [go_sem,List.take_of_length_le,List.length_map,XI,Qp];done)|fail))|refine ce (cf (UE (Qf sl 1 [(⟨5,g,true⟩:Access)]) 3 (sl.cases.getD 1 default).chan true (hal 1 (by decide))) ?_ (by first|rfl|(simp [go_sem,List.take_of_length_le,List.length_map,XI,Qp];done)|fail))|refine ce (cf (UE (Qf sl 2 [(⟨5,g,true⟩:Access)]) 3 (sl.cases.getD 2 default).chan true (hal 2 (by decide))) ?_ (by first|rfl|(simp [go_sem,List.take_of_length_le,List.length_map,XI,Qp];done)|fail))|refine ce (cf (UE (Qf sl 3 [(⟨5,g,true⟩:Access)]) 3 (sl.cases.getD 3 default).chan true (hal 3 (by decide))) ?_ (by first|rfl|(simp [go_sem,List.take_of_length_le,List.length_map,XI,Qp];done)|fail)));all_goals ((try simp only [go_sem,seval,-List.reduceReplicate,XI,Qp,zq]);(repeat' with_reducible refine And.intro ?_ ?_);all_goals first|(refine hR1 _ ?_;clear hR1 R1)|exact Xk))|exact Xk)
  | ((with_reducible first|refine qO ?_|refine Q1 ?_|refine xO ?_);refine hR _ ?_;clear hR R;try simp only [go_sem,QHF,Nat.reduceBEq])
  | (with_reducible first|refine qN ?_ ?_|exact qM|refine qL ?_ ?_)
  | (with_reducible first|refine J1 ?_|refine J2 ?_|refine J3 ?_|refine J4 ?_|refine J5 ?_|refine J6 ?_|refine J7 ?_|refine J8 (by decide) ?_|refine J9 ?_|refine WL ?_|refine Q0 ?_|refine Qz ?_|refine YZ ?_|refine WK ?_)
  | ((with_reducible refine QZ 26 ?_)
     obtain ⟨sl,hq⟩:∃ sl,sl=((p.funcs.getD (s.gos.getD g.toNat default).func.toNat default).sels.getD (QA p s g).a.toNat default):=⟨_,rfl⟩
     rw [← hq] at hsh
     rw [← hq]
     have hal:∀ j:Nat,j≤4→(Qf sl j [(⟨5,g,true⟩:Access)]).length≤16:=fun j hj=>Nat.le_trans (VM _ _ j) (by simp only [List.length_cons,List.length_nil];omega)
     (with_reducible refine rg QHF fun R hR=>?_);simp only [go_sem,QC])
  | ((with_reducible refine QZ 36 ?_)
     have hI:=zc hrt (.inl (hw.op_at hok hg.1 hg.2 hb116 (by decide)))
     (with_reducible refine Vv ok QN (by kernel_rfl) (by kernel_rfl) QHF ?_);intro R hR;simp only [go_sem,QC])
  | ((with_reducible refine QZ 25 ?_)
     have hI:0≤(QA p s g).a∧(QA p s g).a<((p.funcs.getD (s.gos.getD g.toNat default).func.toNat default).sels.length:Int):=V0 hrt (hw.op_at hok hg.1 hg.2 hb74 (by decide))
     have hsh:=hok.short (s.gos.getD g.toNat default).func.toNat (QA p s g).a.toNat (by omega)
     refine WJ ok QN (.take 0 (.take 1 (.take 2 (.take 3 (.take 4 (.take 5 (.take 6 (.take 7 (.take 8 (.take 9 (.take 10 (.take 11 (.take 12 (.take 13 (.br 14 (.br 15 .done .nil) .nil))))))))))))))) [15] QHF (by kernel_rfl) (fun R hR=>?_);simp only [go_sem,QC])
  | ((with_reducible refine rg QHF fun R hR=>?_);simp only [go_sem,QC])
  | ((with_reducible refine Vv ok QN (by kernel_rfl) (by kernel_rfl) QHF ?_);intro R hR;simp only [go_sem,QC])
  | ((with_reducible refine QH 22 rfl (fun hb22=>?_) fun hb22=>?_);all_goals (try simp [-List.getD_eq_getElem?_getD] at hb22;try (exfalso;omega)))
  | ((with_reducible refine QH 28 rfl (fun hb28=>?_) fun hb28=>?_);all_goals (try simp [-List.getD_eq_getElem?_getD] at hb28;try (exfalso;omega)))
  | ((with_reducible refine QH 34 rfl (fun hb34=>?_) fun hb34=>?_);all_goals (try simp [-List.getD_eq_getElem?_getD] at hb34;try (exfalso;omega)))
  | ((with_reducible refine QH 40 rfl (fun hb40=>?_) fun hb40=>?_);all_goals (try simp [-List.getD_eq_getElem?_getD] at hb40;try (exfalso;omega)))
  | ((with_reducible refine QH 47 rfl (fun hb47=>?_) fun hb47=>?_);all_goals (try simp [-List.getD_eq_getElem?_getD] at hb47;try (exfalso;omega)))
  | ((with_reducible refine QH 54 rfl (fun hb54=>?_) fun hb54=>?_);all_goals (try simp [-List.getD_eq_getElem?_getD] at hb54;try (exfalso;omega)))
  | ((with_reducible refine QH 60 rfl (fun hb60=>?_) fun hb60=>?_);all_goals (try simp [-List.getD_eq_getElem?_getD] at hb60;try (exfalso;omega)))
  | ((with_reducible refine QH 68 rfl (fun hb68=>?_) fun hb68=>?_);all_goals (try simp [-List.getD_eq_getElem?_getD] at hb68;try (exfalso;omega)))
  | ((with_reducible refine QH 74 rfl (fun hb74=>?_) fun hb74=>?_);all_goals (try simp [-List.getD_eq_getElem?_getD] at hb74;try (exfalso;omega)))
  | ((with_reducible refine QH 94 rfl (fun hb94=>?_) fun hb94=>?_);all_goals (try simp [-List.getD_eq_getElem?_getD] at hb94;try (exfalso;omega)))
  | ((with_reducible refine QH 105 rfl (fun hb105=>?_) fun hb105=>?_);all_goals (try simp [-List.getD_eq_getElem?_getD] at hb105;try (exfalso;omega)))
  | ((with_reducible refine QH 111 rfl (fun hb111=>?_) fun hb111=>?_);all_goals (try simp [-List.getD_eq_getElem?_getD] at hb111;try (exfalso;omega)))
  | ((with_reducible refine QH 116 rfl (fun hb116=>?_) fun hb116=>?_);all_goals (try simp [-List.getD_eq_getElem?_getD] at hb116;try (exfalso;omega)))
  | ((with_reducible refine QH 135 rfl (fun hb135=>?_) fun hb135=>?_);all_goals (try simp [-List.getD_eq_getElem?_getD] at hb135;try (exfalso;omega)))
  | ((with_reducible refine QH 139 rfl (fun hb139=>?_) fun hb139=>?_);all_goals (try simp [-List.getD_eq_getElem?_getD] at hb139;try (exfalso;omega)))
  | ((with_reducible refine YQ ?_)
     refine Zo (Qq (by first|rfl|fail)) (YR (fun n τ=>∃ (j:Nat),n=sl.cases.length-j∧(j≤sl.cases.length)∧τ={ tm:=[(8,true,.sl (zE j) 45 0 (Qf sl j [(⟨5,g,true⟩:Access)]).length false),(9,true,.ptr 4 [] 124),(10,true,.int .i64 j)],ob:=(Un p s (QA p s g) sl [(⟨5,g,true⟩:Access)] j),out:=[],nt:=144 }) (sl.cases.length) ⟨0,rfl,by omega,rfl⟩ ?_)
     rintro n τ ⟨j,hn,hj,rfl⟩
     have hj4:j≤4:=by omega
     rcases (show j=0∨j=1∨j=2∨j=3∨j=4 by omega) with rfl|rfl|rfl|rfl|rfl
     all_goals simp only [zE,Un,List.cons_append,List.nil_append,Nat.reduceAdd])
  | ((with_reducible refine WM ?_)
     first
      | (have hac:=Xs sl (j:=0) (by omega) [(⟨5,g,true⟩:Access)]
         refine Zt (sl.cases.length-1) _ (by omega) (Qq ?_) ⟨1,rfl,?_,rfl⟩
         · simp only [zE,Un,List.cons_append,List.nil_append,Nat.reduceAdd,hac]
           rfl
         · omega)
      | (have hac:=Xs sl (j:=1) (by omega) [(⟨5,g,true⟩:Access)]
         refine Zt (sl.cases.length-2) _ (by omega) (Qq ?_) ⟨2,rfl,?_,rfl⟩
         · simp only [zE,Un,List.cons_append,List.nil_append,Nat.reduceAdd,hac]
           rfl
         · omega)
      | (have hac:=Xs sl (j:=2) (by omega) [(⟨5,g,true⟩:Access)]
         refine Zt (sl.cases.length-3) _ (by omega) (Qq ?_) ⟨3,rfl,?_,rfl⟩
         · simp only [zE,Un,List.cons_append,List.nil_append,Nat.reduceAdd,hac]
           rfl
         · omega)
      | (have hac:=Xs sl (j:=3) (by omega) [(⟨5,g,true⟩:Access)]
         refine Zt (sl.cases.length-4) _ (by omega) (Qq ?_) ⟨4,rfl,?_,rfl⟩
         · simp only [zE,Un,List.cons_append,List.nil_append,Nat.reduceAdd,hac]
           rfl
         · omega))
  | ((with_reducible first|refine ZH ?_|refine ZG ?_)
     simp only [go_sem,QJ,QK,QG,seval]
     first
      | (have q:QL p s g=50:=hb22
         refine ⟨rfl,?_⟩
         rw [show touch p s g=add 1 (QA p s g).b false [(⟨5,g,true⟩:Access)] from if_pos hb22]
         simp [-List.getD_eq_getElem?_getD,List.take_of_length_le,Qp])
      | (have q:QL p s g=54:=hb28
         refine ⟨rfl,?_⟩
         rw [show touch p s g=add 1 (QA p s g).a false [(⟨5,g,true⟩:Access)] from (if_neg (by omega)).trans (if_pos hb28)]
         simp [-List.getD_eq_getElem?_getD,List.take_of_length_le,Qp])
      | (have q:QL p s g=51:=hb34
         refine ⟨rfl,?_⟩
         rw [show touch p s g=add 1 (QA p s g).a true [(⟨5,g,true⟩:Access)] from (if_neg (by omega)).trans ((if_neg (by omega)).trans (if_pos hb34))]
         simp [-List.getD_eq_getElem?_getD,List.take_of_length_le,Qp])
      | (have q:QL p s g=52:=hb40
         refine ⟨rfl,?_⟩
         rw [show touch p s g=add 1 (QA p s g).b true [(⟨5,g,true⟩:Access)] from (if_neg (by omega)).trans ((if_neg (by omega)).trans ((if_neg (by omega)).trans (if_pos (.inl q))))]
         simp [-List.getD_eq_getElem?_getD,List.take_of_length_le,Qp])
      | (have q:QL p s g=53:=hb40
         refine ⟨rfl,?_⟩
         rw [show touch p s g=add 1 (QA p s g).b true [(⟨5,g,true⟩:Access)] from (if_neg (by omega)).trans ((if_neg (by omega)).trans ((if_neg (by omega)).trans (if_pos (.inr q))))]
         simp [-List.getD_eq_getElem?_getD,List.take_of_length_le,Qp])
      | (have q:QL p s g=55:=hb47
         refine ⟨rfl,?_⟩
         rw [show touch p s g=add 2 (QA p s g).a true [(⟨5,g,true⟩:Access)] from (if_neg (by omega)).trans ((if_neg (by omega)).trans ((if_neg (by omega)).trans ((if_neg (by omega)).trans (if_pos (.inl q)))))]
         simp [-List.getD_eq_getElem?_getD,List.take_of_length_le,Qp])
      | (have q:QL p s g=56:=hb47
         refine ⟨rfl,?_⟩
         rw [show touch p s g=add 2 (QA p s g).a true [(⟨5,g,true⟩:Access)] from (if_neg (by omega)).trans ((if_neg (by omega)).trans ((if_neg (by omega)).trans ((if_neg (by omega)).trans (if_pos (.inr q)))))]
         simp [-List.getD_eq_getElem?_getD,List.take_of_length_le,Qp])
      | (have q:QL p s g=57:=hb54
         refine ⟨rfl,?_⟩
         rw [show touch p s g=add 2 (QA p s g).b true [(⟨5,g,true⟩:Access)] from (if_neg (by omega)).trans ((if_neg (by omega)).trans ((if_neg (by omega)).trans ((if_neg (by omega)).trans ((if_neg (by omega)).trans (if_pos q)))))]
         simp [-List.getD_eq_getElem?_getD,List.take_of_length_le,Qp])
      | (have q:QL p s g=58:=hb60
         refine ⟨rfl,?_⟩
         rw [show touch p s g=add 3 (QA p s g).a true [(⟨5,g,true⟩:Access)] from (if_neg (by omega)).trans ((if_neg (by omega)).trans ((if_neg (by omega)).trans ((if_neg (by omega)).trans ((if_neg (by omega)).trans ((if_neg (by omega)).trans (if_pos (.inl q)))))))]
         simp [-List.getD_eq_getElem?_getD,List.take_of_length_le,Qp])
      | (have q:QL p s g=60:=hb60
         refine ⟨rfl,?_⟩
         rw [show touch p s g=add 3 (QA p s g).a true [(⟨5,g,true⟩:Access)] from (if_neg (by omega)).trans ((if_neg (by omega)).trans ((if_neg (by omega)).trans ((if_neg (by omega)).trans ((if_neg (by omega)).trans ((if_neg (by omega)).trans (if_pos (.inr (.inl q))))))))]
         simp [-List.getD_eq_getElem?_getD,List.take_of_length_le,Qp])
      | (have q:QL p s g=66:=hb60
         refine ⟨rfl,?_⟩
         rw [show touch p s g=add 3 (QA p s g).a true [(⟨5,g,true⟩:Access)] from (if_neg (by omega)).trans ((if_neg (by omega)).trans ((if_neg (by omega)).trans ((if_neg (by omega)).trans ((if_neg (by omega)).trans ((if_neg (by omega)).trans (if_pos (.inr (.inr q))))))))]
         simp [-List.getD_eq_getElem?_getD,List.take_of_length_le,Qp])
      | (have q:QL p s g=59:=hb68
         refine ⟨rfl,?_⟩
         rw [show touch p s g=add 3 (QA p s g).b true [(⟨5,g,true⟩:Access)] from (if_neg (by omega)).trans ((if_neg (by omega)).trans ((if_neg (by omega)).trans ((if_neg (by omega)).trans ((if_neg (by omega)).trans ((if_neg (by omega)).trans ((if_neg (by omega)).trans (if_pos q)))))))]
         simp [-List.getD_eq_getElem?_getD,List.take_of_length_le,Qp])
      | (have q:QL p s g=61:=hb74
         have q2:0≤sl.cases.length:=hj
         have hj':sl.cases.length=0:=by first|omega|(rw [hb94];rfl)
         rw [hq] at hj'
         refine ⟨rfl,?_⟩
         rw [show touch p s g=[(⟨5,g,true⟩:Access)] from (if_neg (by omega)).trans ((if_neg (by omega)).trans ((if_neg (by omega)).trans ((if_neg (by omega)).trans ((if_neg (by omega)).trans ((if_neg (by omega)).trans ((if_neg (by omega)).trans ((if_neg (by omega)).trans ((if_pos q).trans (congrArg (fun n=>Qf ((p.funcs.getD (s.gos.getD g.toNat default).func.toNat default).sels.getD (QA p s g).a.toNat default) n [(⟨5,g,true⟩:Access)]) hj')))))))))]
         simp [-List.getD_eq_getElem?_getD,List.take_of_length_le,Qp])
      | (have q:QL p s g=61:=hb74
         have q2:1≤sl.cases.length:=hj
         have hj':sl.cases.length=1:=by first|omega|(rw [hb94];rfl)
         rw [hq] at hj'
         refine ⟨rfl,?_⟩
         rw [show touch p s g=Qf ((p.funcs.getD (s.gos.getD g.toNat default).func.toNat default).sels.getD (QA p s g).a.toNat default) 1 [(⟨5,g,true⟩:Access)] from (if_neg (by omega)).trans ((if_neg (by omega)).trans ((if_neg (by omega)).trans ((if_neg (by omega)).trans ((if_neg (by omega)).trans ((if_neg (by omega)).trans ((if_neg (by omega)).trans ((if_neg (by omega)).trans ((if_pos q).trans (congrArg (fun n=>Qf ((p.funcs.getD (s.gos.getD g.toNat default).func.toNat default).sels.getD (QA p s g).a.toNat default) n [(⟨5,g,true⟩:Access)]) hj')))))))))]
         rw [← hq]
         simp [-List.getD_eq_getElem?_getD,List.take_of_length_le,Qp])
      | (have q:QL p s g=61:=hb74
         have q2:2≤sl.cases.length:=hj
         have hj':sl.cases.length=2:=by first|omega|(rw [hb94];rfl)
         rw [hq] at hj'
         refine ⟨rfl,?_⟩
         rw [show touch p s g=Qf ((p.funcs.getD (s.gos.getD g.toNat default).func.toNat default).sels.getD (QA p s g).a.toNat default) 2 [(⟨5,g,true⟩:Access)] from (if_neg (by omega)).trans ((if_neg (by omega)).trans ((if_neg (by omega)).trans ((if_neg (by omega)).trans ((if_neg (by omega)).trans ((if_neg (by omega)).trans ((if_neg (by omega)).trans ((if_neg (by omega)).trans ((if_pos q).trans (congrArg (fun n=>Qf ((p.funcs.getD (s.gos.getD g.toNat default).func.toNat default).sels.getD (QA p s g).a.toNat default) n [(⟨5,g,true⟩:Access)]) hj')))))))))]
         rw [← hq]
         simp [-List.getD_eq_getElem?_getD,List.take_of_length_le,Qp])
      | (have q:QL p s g=61:=hb74
         have q2:3≤sl.cases.length:=hj
         have hj':sl.cases.length=3:=by first|omega|(rw [hb94];rfl)
         rw [hq] at hj'
         refine ⟨rfl,?_⟩
         rw [show touch p s g=Qf ((p.funcs.getD (s.gos.getD g.toNat default).func.toNat default).sels.getD (QA p s g).a.toNat default) 3 [(⟨5,g,true⟩:Access)] from (if_neg (by omega)).trans ((if_neg (by omega)).trans ((if_neg (by omega)).trans ((if_neg (by omega)).trans ((if_neg (by omega)).trans ((if_neg (by omega)).trans ((if_neg (by omega)).trans ((if_neg (by omega)).trans ((if_pos q).trans (congrArg (fun n=>Qf ((p.funcs.getD (s.gos.getD g.toNat default).func.toNat default).sels.getD (QA p s g).a.toNat default) n [(⟨5,g,true⟩:Access)]) hj')))))))))]
         rw [← hq]
         simp [-List.getD_eq_getElem?_getD,List.take_of_length_le,Qp])
      | (have q:QL p s g=61:=hb74
         have q2:4≤sl.cases.length:=hj
         have hj':sl.cases.length=4:=by first|omega|(rw [hb94];rfl)
         rw [hq] at hj'
         refine ⟨rfl,?_⟩
         rw [show touch p s g=Qf ((p.funcs.getD (s.gos.getD g.toNat default).func.toNat default).sels.getD (QA p s g).a.toNat default) 4 [(⟨5,g,true⟩:Access)] from (if_neg (by omega)).trans ((if_neg (by omega)).trans ((if_neg (by omega)).trans ((if_neg (by omega)).trans ((if_neg (by omega)).trans ((if_neg (by omega)).trans ((if_neg (by omega)).trans ((if_neg (by omega)).trans ((if_pos q).trans (congrArg (fun n=>Qf ((p.funcs.getD (s.gos.getD g.toNat default).func.toNat default).sels.getD (QA p s g).a.toNat default) n [(⟨5,g,true⟩:Access)]) hj')))))))))]
         rw [← hq]
         simp [-List.getD_eq_getElem?_getD,List.take_of_length_le,Qp])
      | (have q:QL p s g=62:=hb105
         have q2:_<_:=hb111
         refine ⟨rfl,?_⟩
         rw [show touch p s g=add 5 s.count true (add 4 0 true [(⟨5,g,true⟩:Access)]) from (if_neg (by omega)).trans ((if_neg (by omega)).trans ((if_neg (by omega)).trans ((if_neg (by omega)).trans ((if_neg (by omega)).trans ((if_neg (by omega)).trans ((if_neg (by omega)).trans ((if_neg (by omega)).trans ((if_neg (by omega)).trans ((if_pos q).trans (if_pos hb111))))))))))]
         simp [-List.getD_eq_getElem?_getD,List.take_of_length_le,Qp])
      | (have q:QL p s g=62:=hb105
         have q2:_≤_:=hb111
         refine ⟨rfl,?_⟩
         rw [show touch p s g=add 4 0 true [(⟨5,g,true⟩:Access)] from (if_neg (by omega)).trans ((if_neg (by omega)).trans ((if_neg (by omega)).trans ((if_neg (by omega)).trans ((if_neg (by omega)).trans ((if_neg (by omega)).trans ((if_neg (by omega)).trans ((if_neg (by omega)).trans ((if_neg (by omega)).trans ((if_pos q).trans (if_neg (Int.not_lt.2 hb111)))))))))))]
         simp [-List.getD_eq_getElem?_getD,List.take_of_length_le,Qp])
      | (have q:QL p s g=63:=hb116
         have q2:_∧_:=hb135
         refine ⟨rfl,?_⟩
         rw [show touch p s g=add 5 ((s.gos.getD g.toNat default).regs.getD (QA p s g).a.toNat 0) false (add 4 0 false [(⟨5,g,true⟩:Access)]) from (if_neg (by omega)).trans ((if_neg (by omega)).trans ((if_neg (by omega)).trans ((if_neg (by omega)).trans ((if_neg (by omega)).trans ((if_neg (by omega)).trans ((if_neg (by omega)).trans ((if_neg (by omega)).trans ((if_neg (by omega)).trans ((if_neg (by omega)).trans ((if_pos q).trans (if_pos hb135)))))))))))]
         simp [-List.getD_eq_getElem?_getD,List.take_of_length_le,Qp])
      | (have q:QL p s g=63:=hb116
         refine ⟨rfl,?_⟩
         rw [show touch p s g=add 4 0 false [(⟨5,g,true⟩:Access)] from (if_neg (by omega)).trans ((if_neg (by omega)).trans ((if_neg (by omega)).trans ((if_neg (by omega)).trans ((if_neg (by omega)).trans ((if_neg (by omega)).trans ((if_neg (by omega)).trans ((if_neg (by omega)).trans ((if_neg (by omega)).trans ((if_neg (by omega)).trans ((if_pos q).trans (if_neg (fun h=>absurd h.2 (Int.not_lt.2 (hb135 h.1))))))))))))))]
         simp [-List.getD_eq_getElem?_getD,List.take_of_length_le,Qp])
      | (have q:QL p s g=65:=hb139
         refine ⟨rfl,?_⟩
         rw [show touch p s g=add 6 0 true [(⟨5,g,true⟩:Access)] from (if_neg (by omega)).trans ((if_neg (by omega)).trans ((if_neg (by omega)).trans ((if_neg (by omega)).trans ((if_neg (by omega)).trans ((if_neg (by omega)).trans ((if_neg (by omega)).trans ((if_neg (by omega)).trans ((if_neg (by omega)).trans ((if_neg (by omega)).trans ((if_neg (by omega)).trans (if_pos q)))))))))))]
         simp [-List.getD_eq_getElem?_getD,List.take_of_length_le,Qp])
      | (skip
         refine ⟨rfl,?_⟩
         rw [show touch p s g=[(⟨5,g,true⟩:Access)] from (if_neg (by omega)).trans ((if_neg (by omega)).trans ((if_neg (by omega)).trans ((if_neg (by omega)).trans ((if_neg (by omega)).trans ((if_neg (by omega)).trans ((if_neg (by omega)).trans ((if_neg (by omega)).trans ((if_neg (by omega)).trans ((if_neg (by omega)).trans ((if_neg (by omega)).trans ((if_neg (by omega)).trans (rfl))))))))))))]
         simp [-List.getD_eq_getElem?_getD,List.take_of_length_le,Qp]))
end Go.Eng.Tryz
namespace Go.Eng.Tryz
open Go.RowKit Go.Eng
set_option maxHeartbeats 0
set_option maxRecDepth 20000
theorem QLF {α:Type} {c:Prop} [Decidable c] {a b:List α} {n:Nat} (h1:c→a.length≤n) (h2:¬c→b.length≤n):(if c then a else b).length≤n:=by
 by_cases h:c
 · rw [if_pos h];exact h1 h
 · rw [if_neg h];exact h2 h
theorem QA8 (p:Prg) (s:Stt) (g:Int) (hq:QL p s g=61→(Qx p s g).cases.length≤4):(touch p s g).length≤6:=by
 have h1:∀ k n w,(add k n w [(⟨5,g,true⟩:Access)]).length≤2:=fun k n w=>Wu k n w _
 have h2:∀ k n w k' n' w',(add k n w (add k' n' w' [(⟨5,g,true⟩:Access)])).length≤3:=fun k n w k' n' w'=>Nat.le_trans (Wu k n w _) (Nat.succ_le_succ (h1 _ _ _))
 have h3:QL p s g=61→(Qf (Qx p s g) (Qx p s g).cases.length [(⟨5,g,true⟩:Access)]).length≤6:=fun h=>Nat.le_trans (VM _ _ _) (by have:=hq h;simp;omega)
 unfold touch
 simp only
 repeat' with_reducible first|(refine QLF (fun h=>?_) (fun _=>?_))|(refine Nat.le_trans (h1 _ _ _) ?_)|(refine Nat.le_trans (h2 _ _ _ _ _ _) ?_)|(refine h3 ?_)
 all_goals first|decide|assumption|(simp;done)
end Go.Eng.Tryz
