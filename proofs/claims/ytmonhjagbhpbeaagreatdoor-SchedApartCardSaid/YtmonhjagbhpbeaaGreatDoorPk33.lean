/- A part of the proof: walks through the program's functions, and what they compute. -/
import Derived.Test.YtmonhjagbhpbeaaGreatDoorPk32
set_option linter.unusedSimpArgs false
set_option linter.unusedVariables false
namespace Go.Eng.Tryz
open Go.RowKit Go.Eng
set_option maxHeartbeats 0
set_option maxRecDepth 20000
theorem Xq (s:Stt) (c:Int) (hs:s.Shape) (hc:0≤c∧c<4):Ctr Go.Proofs.Tryz.prog tab 135 [47,3] [4] [s.v,.int c] [.bool (XG s c)]:=by
 have hs1:=hs.vars
 have hs2:=hs.owner
 have hs3:=hs.chans
 have hs5:=hs.gos
 refine Ctr.body ok Go.Proofs.Tryz.func135 rfl rfl 22 rfl [.tmp 4] rfl (by simp [QF]) ?_
 simp only [go_sem,Nat.reduceAdd]
 repeat' first
  | ((with_reducible refine SARA.told 1 4 ?_)
     rw [Zl (by omega)])
  | ((with_reducible refine Q5 fun R1 hR1=>?_);(simp only [go_sem,seval,-List.reduceReplicate]);(repeat' with_reducible refine And.intro ?_ ?_);all_goals first|(refine hR1 _ ?_;clear hR1 R1)|exact Zp)
  | ((with_reducible refine Q4 ?_);refine hR _ ?_;clear hR R;try simp only [go_sem,QOx,Nat.reduceBEq])
  | (with_reducible first|refine J1 ?_|refine J2 ?_|refine Q2 ?_|refine Q1 ?_)
  | ((with_reducible refine rg QOx fun R hR=>?_);simp only [go_sem,QC])
  | ((with_reducible first|refine ZQ ?_|refine ZP ?_)
     simp only [go_sem,QL,QM,QH,seval]
     refine ⟨rfl,?_⟩
     unfold XG Stt.chn
     cases decide (0<(s.chans.getD c.toNat default).len)<;>cases (s.chans.getD c.toNat default).closed<;>rfl)
def xu:List (List Nat):=[[2,3,4],[2,3,4,7],[2,3,4,7,8],[2,3,4,7,8,23],[2,3,4,7,8,23,24],[6],[2,3,4,7,8,23,36],[6],[2,3,4,7,8,23,44],[6],[2,3,4,7,8,23,51],[6],[2,3,4,7,8,23,57],[9],[6],[2,3,4,7,8,71],[2,4,10],[6],[6]]
theorem QCo (p:Prg) (s:Stt) (g:Int) (hp:p.Fit) (hr:QN p=true) (hw:Wf p s) (hg:0≤g∧g<s.count):Ctr Go.Proofs.Tryz.prog tab 132 [26,47,3] [4] [p.v,s.v,.int g] [.bool (plain p s g)]:=by
 have hpp:=hp
 have hok:=Prg.ok hr
 have hs:=hw.shape
 have hcnt:=hw.count
 have hgi:=hw.gos g hg.1 hg.2
 have h8:=hgi.regs
 have hfit:=hp
 have hcode:=p.code_len hp
 have hsl:=p.sels_len hp
 obtain ⟨hp1,hp2,hp3,hp4⟩:=hp
 have hs1:=hs.vars
 have hs2:=hs.owner
 have hs3:=hs.chans
 have hs5:=hs.gos
 have hsz:=hok.sizes
 unfold Zz at hsz
 have hrt:Qb p (p.funcs.getD (s.gos.getD g.toNat default).func.toNat default) (QA p s g)=0:=hw.right hok hg.1 hg.2
 have hrg:=hok.regs (s.gos.getD g.toNat default).func.toNat
 refine Ctr.body ok Go.Proofs.Tryz.func132 rfl rfl 101 rfl [.tmp 6] rfl (by simp [QF]) ?_
 simp only [go_sem,Nat.reduceAdd]
 repeat' first
  | ((with_reducible first|refine Q5 fun R1 hR1=>?_|refine yb fun R1 hR1=>?_);(simp only [go_sem,seval,-List.reduceReplicate]);(repeat' with_reducible refine And.intro ?_ ?_);all_goals first|(refine hR1 _ ?_;clear hR1 R1)|((first|refine V4 (cc (YV p s g hpp hs (by omega) hgi)) ?_|refine wB (fun hg=>cc (YV p s g hpp hs (by omega) hgi)) ?_|refine cq (cc (YV p s g hpp hs (by omega) hgi)) ?_|refine Y4 (fun hg=>cc (YV p s g hpp hs (by omega) hgi)) ?_|refine V4 (cc (Uh p s g hpp hs (by omega) hgi)) ?_|refine wB (fun hg=>cc (Uh p s g hpp hs (by omega) hgi)) ?_|refine cq (cc (Uh p s g hpp hs (by omega) hgi)) ?_|refine Y4 (fun hg=>cc (Uh p s g hpp hs (by omega) hgi)) ?_|refine V4 (cc (Vg p s _ hpp hs hc hcl)) ?_|refine wB (fun hg=>cc (Vg p s _ hpp hs hc hcl)) ?_|refine cq (cc (Vg p s _ hpp hs hc hcl)) ?_|refine Y4 (fun hg=>cc (Vg p s _ hpp hs hc hcl)) ?_|refine V4 (cc (Xq s _ hs hc)) ?_|refine wB (fun hg=>cc (Xq s _ hs hc)) ?_|refine cq (cc (Xq s _ hs hc)) ?_|refine Y4 (fun hg=>cc (Xq s _ hs hc)) ?_|refine V4 (cc (Uz s _ hs (by omega))) ?_|refine wB (fun hg=>cc (Uz s _ hs (by omega))) ?_|refine cq (cc (Uz s _ hs (by omega))) ?_|refine Y4 (fun hg=>cc (Uz s _ hs (by omega))) ?_);all_goals ((try simp only [go_sem,seval,-List.reduceReplicate]);(repeat' with_reducible refine And.intro ?_ ?_);all_goals first|(refine hR1 _ ?_;clear hR1 R1)|exact Zp))|exact Zp)
  | ((with_reducible first|refine Q4 ?_|refine ya ?_);refine hR _ ?_;clear hR R;try simp only [go_sem,xu,Nat.reduceBEq])
  | (with_reducible first|refine J1 ?_|refine J2 ?_|refine J3 ?_|refine J4 ?_|refine J5 ?_|refine J6 ?_|refine J7 ?_|refine J8 (by decide) ?_|refine J9 ?_|refine Q2 ?_|refine Q1 ?_|refine Yc ?_)
  | ((with_reducible refine Qe 5 ?_)
     have hI:=QAP hrt (hw.op_at hok hg.1 hg.2 hb24 (by decide))
     (with_reducible refine Ve ok QQ (by kernel_rfl) (by kernel_rfl) xu ?_);intro R hR;simp only [go_sem,QC])
  | ((with_reducible refine Qe 7 ?_)
     have hI:=yd hrt (.inl (hw.op_at hok hg.1 hg.2 hb36 (by decide)))
     (with_reducible refine rg xu fun R hR=>?_);simp only [go_sem,QC])
  | ((with_reducible refine Qe 9 ?_)
     have hI:=Vm hrt (hw.op_at hok hg.1 hg.2 hb44 (by decide))
     have hc:=hI.1
     have hcl:p.chans.length≤4:=by omega
     (with_reducible refine rg xu fun R hR=>?_);simp only [go_sem,QC])
  | ((with_reducible refine Qe 11 ?_)
     have hI:=yc hrt (hw.op_at hok hg.1 hg.2 hb51 (by decide))
     have hc:0≤(QA p s g).b∧(QA p s g).b<4:=by omega
     (with_reducible refine rg xu fun R hR=>?_);simp only [go_sem,QC])
  | ((with_reducible refine Qe 13 ?_)
     have hI:=Vm hrt (hw.op66 hok hg.1 hg.2 hb57)
     (with_reducible refine rg xu fun R hR=>?_);simp only [go_sem,QC])
  | ((with_reducible refine Qe 16 ?_)
     have hI:=w7 hrt (.inl (hw.op_at hok hg.1 hg.2 hb71 (by decide)))
     (with_reducible refine rg xu fun R hR=>?_);simp only [go_sem,QC])
  | ((with_reducible refine rg xu fun R hR=>?_);simp only [go_sem,QC])
  | ((with_reducible refine Ve ok QQ (by kernel_rfl) (by kernel_rfl) xu ?_);intro R hR;simp only [go_sem,QC])
  | ((with_reducible refine QI 24 rfl (fun hb24=>?_) fun hb24=>?_);all_goals (try simp [-List.getD_eq_getElem?_getD] at hb24;try (exfalso;omega)))
  | ((with_reducible refine QI 36 rfl (fun hb36=>?_) fun hb36=>?_);all_goals (try simp [-List.getD_eq_getElem?_getD] at hb36;try (exfalso;omega)))
  | ((with_reducible refine QI 44 rfl (fun hb44=>?_) fun hb44=>?_);all_goals (try simp [-List.getD_eq_getElem?_getD] at hb44;try (exfalso;omega)))
  | ((with_reducible refine QI 51 rfl (fun hb51=>?_) fun hb51=>?_);all_goals (try simp [-List.getD_eq_getElem?_getD] at hb51;try (exfalso;omega)))
  | ((with_reducible refine QI 57 rfl (fun hb57=>?_) fun hb57=>?_);all_goals (try simp [-List.getD_eq_getElem?_getD] at hb57;try (exfalso;omega)))
  | ((with_reducible refine QI 71 rfl (fun hb71=>?_) fun hb71=>?_);all_goals (try simp [-List.getD_eq_getElem?_getD] at hb71;try (exfalso;omega)))
  | ((with_reducible first|refine ZQ ?_|refine ZP ?_)
     simp only [go_sem,QL,QM,QH,seval]
     first
      | (exact ⟨rfl,congrArg (fun b=>some (V.bool b)) (show _=plain p s g from Eq.symm (if_pos hb24))⟩)
      | (exact ⟨rfl,congrArg (fun b=>some (V.bool b)) (show _=plain p s g from Eq.symm ((if_neg hb24).trans (if_pos hb36)))⟩)
      | (exact ⟨rfl,congrArg (fun b=>some (V.bool b)) (show _=plain p s g from Eq.symm ((if_neg hb24).trans ((if_neg hb36).trans (if_pos hb44))))⟩)
      | (exact ⟨rfl,congrArg (fun b=>some (V.bool b)) (show _=plain p s g from Eq.symm ((if_neg hb24).trans ((if_neg hb36).trans ((if_neg hb44).trans (if_pos hb51)))))⟩)
      | (refine ⟨rfl,?_⟩
         have e:plain p s g=(decide ((s.chans.getD (QA p s g).a.toNat default).offer=2)||decide ((s.chans.getD (QA p s g).a.toNat default).offer=3)):=(if_neg hb24).trans ((if_neg hb36).trans ((if_neg hb44).trans ((if_neg hb51).trans (if_pos hb57))))
         rw [e]
         cases decide ((s.chans.getD (QA p s g).a.toNat default).offer=2)<;>rfl)
      | (refine ⟨rfl,?_⟩
         have e:plain p s g=(decide ((s.gos.getD g.toNat default).regs.getD (QA p s g).a.toNat 0<0)||decide (s.count≤(s.gos.getD g.toNat default).regs.getD (QA p s g).a.toNat 0)||decide ((s.gos.getD g.toNat default).regs.getD (QA p s g).a.toNat 0=g)||!YB s ((s.gos.getD g.toNat default).regs.getD (QA p s g).a.toNat 0)):=(if_neg hb24).trans ((if_neg hb36).trans ((if_neg hb44).trans ((if_neg hb51).trans ((if_neg hb57).trans (if_pos hb71)))))
         rw [e]
         cases decide ((s.gos.getD g.toNat default).regs.getD (QA p s g).a.toNat 0<0)<;>cases decide (s.count≤(s.gos.getD g.toNat default).regs.getD (QA p s g).a.toNat 0)<;>cases decide ((s.gos.getD g.toNat default).regs.getD (QA p s g).a.toNat 0=g)<;>rfl)
      | (exact ⟨rfl,congrArg (fun b=>some (V.bool b)) (show _=plain p s g from Eq.symm ((if_neg hb24).trans ((if_neg hb36).trans ((if_neg hb44).trans ((if_neg hb51).trans ((if_neg hb57).trans ((if_neg hb71).trans (rfl))))))))⟩))
def QFU:List (List Nat):=[[2,3,4],[2,3,4,7],[2,3,4,7,15],[6],[2,3,4,7,21],[7,25],[7],[6],[2,3,4,7,8],[3,4,7,9],[3,4,7,9,10],[3,4,7,9,10,52],[3,4,7,9,10],[3,4,7,9,10,11],[3,4,7,9,10,79],[3,4,7,9,10],[7,9,91],[7],[6]]
theorem QF8 (p:Prg) (s:Stt) (g:Int) (hp:p.Fit) (hr:QN p=true) (hw:Wf p s):Ctr Go.Proofs.Tryz.prog tab 96 [26,47,3] [23] [p.v,s.v,.int g] [.list ((Qn p s g).map V.int)]:=by
 have hpp:=hp
 have hok:=Prg.ok hr
 have hs:=hw.shape
 have hcnt:=hw.count
 have hcode:=p.code_len hp
 have hsl:=p.sels_len hp
 obtain ⟨hp1,hp2,hp3,hp4⟩:=hp
 have hs1:=hs.vars
 have hs2:=hs.owner
 have hs3:=hs.chans
 have hs5:=hs.gos
 have hsz:=hok.sizes
 unfold Zz at hsz
 have hmx:256≤maxLen:=by decide
 refine Ctr.body ok Go.Proofs.Tryz.func96 rfl rfl 99 rfl [.tmp 6] rfl (by simp [QF]) ?_
 simp only [go_sem,Nat.reduceAdd]
 repeat' first
  | ((with_reducible refine SART.told 8 8 ?_)
     rw [XM (by omega)])
  | ((with_reducible refine SART.told 9 8 ?_)
     rw [XL (by omega)])
  | ((with_reducible refine SARA.told 13 5 ?_)
     rw [Wq (by omega)])
  | ((with_reducible first|refine Q5 fun R1 hR1=>?_|refine qz fun R1 hR1=>?_|refine qy fun R1 hR1=>?_|refine qx fun R1 hR1=>?_);(simp only [go_sem,seval,-List.reduceReplicate]);(repeat' with_reducible refine And.intro ?_ ?_);all_goals first|(refine hR1 _ ?_;clear hR1 R1)|((first|refine cq (cc (Uz s g hs (by omega))) ?_|refine Y4 (fun hg=>cc (Uz s g hs (by omega))) ?_|refine cq (cc (Uh p s g hpp hs (by omega) hgi)) ?_|refine Y4 (fun hg=>cc (Uh p s g hpp hs (by omega) hgi)) ?_|refine cq (cc (QCo p s g hpp hr hw hl.1)) ?_|refine Y4 (fun hg=>cc (QCo p s g hpp hr hw hl.1)) ?_|refine cq (cc (Vg p s _ hpp hs hC.chan (by omega))) ?_|refine Y4 (fun hg=>cc (Vg p s _ hpp hs hC.chan (by omega))) ?_|refine cq (cc (Xq s _ hs hC4)) ?_|refine Y4 (fun hg=>cc (Xq s _ hs hC4)) ?_|refine cq (cc (YV p s g hpp hs (by omega) hgi)) ?_|refine Y4 (fun hg=>cc (YV p s g hpp hs (by omega) hgi)) ?_);all_goals ((try simp only [go_sem,seval,-List.reduceReplicate]);(repeat' with_reducible refine And.intro ?_ ?_);all_goals first|(refine hR1 _ ?_;clear hR1 R1)|omega|rfl|decide|assumption|(intro _;omega)|(simp;done)|(simp [-List.getD_eq_getElem?_getD];omega)|exact hcode _|(intro _;exact hcode _)|exact hsl _|(intro _;exact hsl _)|(simp [-List.getD_eq_getElem?_getD,Q3,maxLen,by3,VS,V5];omega)|(simp [-List.getD_eq_getElem?_getD,Q3,maxLen,by3,VS,V5];done)))|omega|rfl|decide|assumption|(intro _;omega)|(simp;done)|(simp [-List.getD_eq_getElem?_getD];omega)|exact hcode _|(intro _;exact hcode _)|exact hsl _|(intro _;exact hsl _)|(simp [-List.getD_eq_getElem?_getD,Q3,maxLen,by3,VS,V5];omega)|(simp [-List.getD_eq_getElem?_getD,Q3,maxLen,by3,VS,V5];done))
  | ((with_reducible refine SART.doneAt 9 ?_);refine hR _ ?_;clear hR R;try simp only [go_sem,QFU,Nat.reduceBEq]
     exact Qo rfl)
  | ((with_reducible first|refine qw ?_|refine Q4 ?_);refine hR _ ?_;clear hR R;try simp only [go_sem,QFU,Nat.reduceBEq])
  | (with_reducible first|refine qv ?_ ?_|exact qu|refine qt ?_ ?_)
  | (with_reducible first|refine J1 ?_|refine J2 ?_|refine J3 ?_|refine J4 ?_|refine J5 ?_|refine J6 ?_|refine J7 ?_|refine J8 (by decide) ?_|refine J9 ?_|refine Xu ?_|refine Q2 ?_|refine Q1 ?_|refine Yc ?_|refine Xt ?_)
  | ((with_reducible refine Qe 4 ?_)
     have hl:=live_iff.1 hb15
     have hgi:=hw.gos g hl.1.1 hl.1.2
     obtain ⟨hf0,hf1,hpc0,hpc1,h8⟩:=hgi
     have hgi:=hw.gos g hl.1.1 hl.1.2
     (with_reducible refine rg QFU fun R hR=>?_);simp only [go_sem,QC])
  | ((with_reducible refine Qe 13 ?_)
     have hC:=Vb hok (i:=(s.gos.getD g.toNat default).func.toNat) (j:=(QA p s g).a.toNat) (k:=i) (by omega) (by omega) (by omega)
     have hC4:0≤(((p.funcs.getD (s.gos.getD g.toNat default).func.toNat default).sels.getD (QA p s g).a.toNat default).cases.getD i default).chan∧(((p.funcs.getD (s.gos.getD g.toNat default).func.toNat default).sels.getD (QA p s g).a.toNat default).cases.getD i default).chan<4:=⟨hC.chan.1,by have:=hC.chan.2;omega⟩
     have hq:=WR p s ((p.funcs.getD (s.gos.getD g.toNat default).func.toNat default).sels.getD (QA p s g).a.toNat default) i
     (with_reducible refine rg QFU fun R hR=>?_);simp only [go_sem,QC])
  | ((with_reducible refine Qe 16 ?_)
     have hq:=WR p s ((p.funcs.getD (s.gos.getD g.toNat default).func.toNat default).sels.getD (QA p s g).a.toNat default) i
     (with_reducible refine rg QFU fun R hR=>?_);simp only [go_sem,QC])
  | ((with_reducible refine Qe 8 ?_)
     have hop:=hw.op_at hok hl.1.1 hl.1.2 hb21 (by decide)
     have hI:0≤(QA p s g).a∧(QA p s g).a<((p.funcs.getD (s.gos.getD g.toNat default).func.toNat default).sels.length:Int):=UB (hw.right hok hl.1.1 hl.1.2) hop
     have hsh:=hok.short (s.gos.getD g.toNat default).func.toNat (QA p s g).a.toNat (by omega)
     refine WT ok QQ (.take 0 (.take 1 (.take 2 (.take 3 (.take 4 (.take 5 (.take 6 (.take 7 (.take 8 (.br 9 (.br 10 .done .nil) .nil)))))))))) [10] QFU (by kernel_rfl) (fun R hR=>?_);simp only [go_sem,QC])
  | ((with_reducible refine Qe 9 ?_)
     refine J35 ok QQ (.take 0 (.take 1 (.take 2 (.take 3 (.take 4 (.br 5 (.take 6 (.take 7 (.take 8 (.br 9 (.br 10 .done .nil) .nil)))) (.br 9 (.br 5 (.take 6 (.take 7 (.take 8 (.br 10 .done .nil)))) .nil) .nil))))))) [10] QFU (by kernel_rfl) ({ tm:=[(3,true,.ptr 0 [] 26),(4,true,.ptr 1 [] 47),(7,true,.nilsl),(9,true,.ptr 3 [] 173)],ob:=[.var 26 (.data 26 p.v),.var 47 (.data 47 s.v),.var 108 (.data 108 (p.funcs.getD (s.gos.getD g.toNat default).func.toNat default).v),.var 173 (.data 173 ((p.funcs.getD (s.gos.getD g.toNat default).func.toNat default).sels.getD (QA p s g).a.toNat default).v)],out:=[],nt:=99 }) (fun R hR=>?_) ?_;simp only [go_sem,QC])
  | ((with_reducible refine rg QFU fun R hR=>?_);simp only [go_sem,QC])
  | ((with_reducible refine QI 15 rfl (fun hb15=>?_) fun hb15=>?_);all_goals (try simp [-List.getD_eq_getElem?_getD] at hb15;try (exfalso;omega)))
  | ((with_reducible refine QI 21 rfl (fun hb21=>?_) fun hb21=>?_);all_goals (try simp [-List.getD_eq_getElem?_getD] at hb21;try (exfalso;omega)))
  | ((with_reducible refine QI 25 rfl (fun hb25=>?_) fun hb25=>?_);all_goals (try simp [-List.getD_eq_getElem?_getD] at hb25;try (exfalso;omega)))
  | ((with_reducible refine QI 52 rfl (fun hb52=>?_) fun hb52=>?_);all_goals (try simp [-List.getD_eq_getElem?_getD] at hb52;try (exfalso;omega)))
  | ((with_reducible refine QI 79 rfl (fun hb79=>?_) (fun hb79=>?_))
     all_goals
      rw [QHA] at hb79)
  | ((with_reducible refine QI 91 rfl (fun hb91=>?_) fun hb91=>?_);all_goals (try simp [-List.getD_eq_getElem?_getD] at hb91;try (exfalso;omega)))
  | ((with_reducible refine Ya ?_)
     refine Zv ((St.le.own (t:=7) 3 rfl).trans ((St.le.keep [3,4,7,9,10]).trans (Qo (by first|rfl|(simp;done)|fail)))) (Yb (fun n τ=>∃ (i:Nat),n=((p.funcs.getD (s.gos.getD g.toNat default).func.toNat default).sels.getD (QA p s g).a.toNat default).cases.length-i∧(i≤((p.funcs.getD (s.gos.getD g.toNat default).func.toNat default).sels.getD (QA p s g).a.toNat default).cases.length)∧τ={ tm:=[(3,true,.ptr 0 [] 26),(4,true,.ptr 1 [] 47),(7,true,.sl 4 3 0 (ZO p s ((p.funcs.getD (s.gos.getD g.toNat default).func.toNat default).sels.getD (QA p s g).a.toNat default) i).length false),(9,true,.ptr 3 [] 173),(10,true,.int .i64 i)],ob:=[.var 26 (.data 26 p.v),.var 47 (.data 47 s.v),.var 108 (.data 108 (p.funcs.getD (s.gos.getD g.toNat default).func.toNat default).v),.var 173 (.data 173 ((p.funcs.getD (s.gos.getD g.toNat default).func.toNat default).sels.getD (QA p s g).a.toNat default).v),.row 3 ((ZO p s ((p.funcs.getD (s.gos.getD g.toNat default).func.toNat default).sels.getD (QA p s g).a.toNat default) i).map V.int)],out:=[],nt:=99 }) (((p.funcs.getD (s.gos.getD g.toNat default).func.toNat default).sels.getD (QA p s g).a.toNat default).cases.length) ⟨0,rfl,by omega,rfl⟩ ?_)
     rintro n τ ⟨i,hn,hi,rfl⟩)
  | ((with_reducible refine WC ?_)
     first
      | (have q:=vZ (n:=i) hb79
         have hlt:i<((p.funcs.getD (s.gos.getD g.toNat default).func.toNat default).sels.getD (QA p s g).a.toNat default).cases.length:=by omega
         have hw:=QD (n:=i) (m:=256) (by omega) (by decide)
         refine Z0 (((p.funcs.getD (s.gos.getD g.toNat default).func.toNat default).sels.getD (QA p s g).a.toNat default).cases.length-(i+1)) _ (by omega) ((WS 5 rfl).trans (Qo (by simp [-List.getD_eq_getElem?_getD,q,hw,List.take_of_length_le]))) ⟨i+1,rfl,hlt,rfl⟩)
      | (have q:=wH (n:=i) hb79
         have hlt:i<((p.funcs.getD (s.gos.getD g.toNat default).func.toNat default).sels.getD (QA p s g).a.toNat default).cases.length:=by omega
         have hw:=QD (n:=i) (m:=256) (by omega) (by decide)
         refine Z0 (((p.funcs.getD (s.gos.getD g.toNat default).func.toNat default).sels.getD (QA p s g).a.toNat default).cases.length-(i+1)) _ (by omega) ((WS 5 rfl).trans (Qo (by simp [-List.getD_eq_getElem?_getD,q,hw,List.take_of_length_le]))) ⟨i+1,rfl,hlt,rfl⟩))
  | ((with_reducible first|refine ZQ ?_|refine ZP ?_)
     simp only [go_sem,QL,QM,QH,seval]
     first
      | (have q:_=false:=hb15
         refine ⟨rfl,?_⟩
         rw [show Qn p s g=[] from if_neg (by rw [hb15];simp)]
         rfl)
      | (have q:_=true:=hb25
         refine ⟨rfl,?_⟩
         rw [show Qn p s g=[0] from (if_pos hb15).trans ((if_neg hb21).trans (if_pos hb25))]
         simp)
      | (have q:_=false:=hb25
         refine ⟨rfl,?_⟩
         rw [show Qn p s g=[] from (if_pos hb15).trans ((if_neg hb21).trans (if_neg (by rw [hb25];simp)))]
         rfl)
      | (have q:_∧_:=hb91
         have hi':i=((p.funcs.getD (s.gos.getD g.toNat default).func.toNat default).sels.getD (QA p s g).a.toNat default).cases.length:=by omega
         subst hi'
         refine ⟨rfl,?_⟩
         rw [show Qn p s g=ZO p s ((p.funcs.getD (s.gos.getD g.toNat default).func.toNat default).sels.getD (QA p s g).a.toNat default) ((p.funcs.getD (s.gos.getD g.toNat default).func.toNat default).sels.getD (QA p s g).a.toNat default).cases.length++[(((p.funcs.getD (s.gos.getD g.toNat default).func.toNat default).sels.getD (QA p s g).a.toNat default).cases.length:Int)] from (if_pos hb15).trans ((if_pos hb21).trans (if_pos ⟨congrArg List.length hb91.1,hb91.2⟩))]
         simp [-List.getD_eq_getElem?_getD,List.take_of_length_le])
      | (have hi':i=((p.funcs.getD (s.gos.getD g.toNat default).func.toNat default).sels.getD (QA p s g).a.toNat default).cases.length:=by omega
         subst hi'
         refine ⟨rfl,?_⟩
         rw [show Qn p s g=ZO p s ((p.funcs.getD (s.gos.getD g.toNat default).func.toNat default).sels.getD (QA p s g).a.toNat default) ((p.funcs.getD (s.gos.getD g.toNat default).func.toNat default).sels.getD (QA p s g).a.toNat default).cases.length from (if_pos hb15).trans ((if_pos hb21).trans (if_neg (fun q=>q.2 (hb91 (List.eq_nil_of_length_eq_zero q.1)))))]
         simp [-List.getD_eq_getElem?_getD,List.take_of_length_le]))
def QQ6:List (List Nat):=[[2,3],[2,3,5],[2,3,5,6],[2,3,5,6,12],[2,3,5,6],[2,3,5,6,7],[2,3,5,6,7,8],[2,3,5,6,7,8,22],[2,3,5,6,7,8],[2,3,5,6,7,8],[4]]
theorem Uv (p:Prg) (s:Stt) (hp:p.Fit) (hr:QN p=true) (hw:Wf p s):Ctr Go.Proofs.Tryz.prog tab 51 [26,47] [29] [p.v,s.v] [.list ((ready p s).map Pck.v)]:=by
 have hpp:=hp
 have hok:=Prg.ok hr
 have hs:=hw.shape
 have hcnt:=hw.count
 have hcode:=p.code_len hp
 have hsl:=p.sels_len hp
 obtain ⟨hp1,hp2,hp3,hp4⟩:=hp
 have hs1:=hs.vars
 have hs2:=hs.owner
 have hs3:=hs.chans
 have hs5:=hs.gos
 have hsz:=hok.sizes
 unfold Zz at hsz
 have hmx:256≤maxLen:=by decide
 refine Ctr.body ok Go.Proofs.Tryz.func51 rfl rfl 35 rfl [.tmp 4] rfl (by simp [QF]) ?_
 simp only [go_sem,Nat.reduceAdd]
 repeat' first
  | ((with_reducible refine Q5 fun R1 hR1=>?_);(simp only [go_sem,seval,-List.reduceReplicate,QDd,z56,z3]);(repeat' with_reducible refine And.intro ?_ ?_);all_goals first|(refine hR1 _ ?_;clear hR1 R1)|((first|refine ce (cf (QF8 p s _ hpp hr hw) ?_));all_goals ((try simp only [go_sem,seval,-List.reduceReplicate,QDd,z56,z3]);(repeat' with_reducible refine And.intro ?_ ?_);all_goals first|(refine hR1 _ ?_;clear hR1 R1)|exact VL))|exact VL)
  | ((with_reducible refine Q4 ?_);refine hR _ ?_;clear hR R;try simp only [go_sem,QQ6,Nat.reduceBEq])
  | (with_reducible first|refine J1 ?_|refine J2 ?_|refine J3 ?_|refine J4 ?_|refine J5 ?_|refine J6 ?_|refine J7 ?_|refine J8 (by decide) ?_|refine J9 ?_|refine Xu ?_|refine Q2 ?_|refine Q1 ?_|refine Yc ?_|refine Xt ?_)
  | ((with_reducible refine Qe 7 ?_)
     have hal:=xM hok hw (i:Int)
     have hrl:=Yj hok hw i
     (with_reducible refine rg QQ6 fun R hR=>?_);simp only [go_sem,QC])
  | ((with_reducible refine rg QQ6 fun R hR=>?_);simp only [go_sem,QC])
  | ((with_reducible refine QI 12 rfl (fun hb12=>?_) fun hb12=>?_);all_goals (try simp [-List.getD_eq_getElem?_getD] at hb12;try (exfalso;omega)))
  | ((with_reducible refine QI 22 rfl (fun hb22=>?_) fun hb22=>?_);all_goals (try simp [-List.getD_eq_getElem?_getD] at hb22;try (exfalso;omega)))
  | ((with_reducible refine Ya ?_)
     refine Zv ((St.le.own (t:=5) 56 rfl).trans ((St.le.keep [2,3,5,6]).trans (Qo (by first|rfl|(simp;done)|fail)))) (Yb (fun n τ=>∃ (i:Nat),n=s.count.toNat-i∧(i≤s.count.toNat)∧τ={ tm:=[(2,true,.ptr 0 [] 26),(3,true,.ptr 1 [] 47),(5,true,.sl 2 56 0 (YG p s i).length false),(6,true,.int .i64 i)],ob:=[.var 26 (.data 26 p.v),.var 47 (.data 47 s.v),.row 56 ((YG p s i).map Pck.v)],out:=[],nt:=35 }) (s.count.toNat) ⟨0,rfl,by omega,rfl⟩ ?_)
     rintro n τ ⟨i,hn,hi,rfl⟩)
  | ((with_reducible refine Ya ?_)
     refine Zv (Qo (by first|(simp;done)|fail)) (Yb (fun n τ=>∃ (j:Nat),n=(Qn p s (i:Int)).length-j∧(j≤(Qn p s (i:Int)).length)∧τ={ tm:=[(2,true,.ptr 0 [] 26),(3,true,.ptr 1 [] 47),(5,true,.sl 2 56 0 (YG p s i++((Qn p s (i:Int)).take j).map fun a=>(⟨(i:Int),a⟩:Pck)).length false),(6,true,.int .i64 i),(7,true,.sl 3 3 0 (Qn p s (i:Int)).length false),(8,true,.int .i64 j)],ob:=[.var 26 (.data 26 p.v),.var 47 (.data 47 s.v),.row 56 ((YG p s i++((Qn p s (i:Int)).take j).map fun a=>(⟨(i:Int),a⟩:Pck)).map Pck.v),.row 3 ((Qn p s (i:Int)).map V.int)],out:=[],nt:=35 }) ((Qn p s (i:Int)).length) ⟨0,rfl,by omega,rfl⟩ ?_)
     rintro n τ ⟨j,hn,hj,rfl⟩)
  | ((with_reducible refine WC ?_)
     first
      | (have hlt:i<s.count.toNat:=by omega
         have hw:=QD (n:=i) (m:=256) (by omega) (by decide)
         have hj':j=(Qn p s (i:Int)).length:=by omega
         subst hj'
         refine Z0 (s.count.toNat-(i+1)) _ (by omega) ((WS 3 rfl).trans (Qo (by simp [hw,qL]))) ⟨i+1,rfl,hlt,rfl⟩)
      | (have hlt:j<(Qn p s (i:Int)).length:=by omega
         have hw:=QD (n:=j) (m:=256) (by omega) (by decide)
         have e:(Qn p s (i:Int)).take (j+1)=(Qn p s (i:Int)).take j++[(Qn p s (i:Int)).getD j 0]:=by rw [List.take_succ_eq_append_getElem hlt];simp [List.getD_eq_getElem?_getD,hlt]
         refine Z0 ((Qn p s (i:Int)).length-(j+1)) _ (by omega) ((WS 4 rfl).trans (Qo (by simp [-List.getD_eq_getElem?_getD,hw,e,Pck.v,List.take_of_length_le,Nat.add_assoc]))) ⟨j+1,rfl,hlt,rfl⟩))
  | ((with_reducible first|refine ZQ ?_|refine ZP ?_)
     simp only [go_sem,QL,QM,QH,seval]
     have hi':i=s.count.toNat:=by omega
     subst hi'
     refine ⟨rfl,?_⟩
     simp [ready,List.take_of_length_le])
def QM5:List (List Nat):=[[3,4,5],[5,7],[5,7,8],[5,7,8,17],[5,7,8],[5,7,8,26],[6],[6]]
theorem QNT (p:Prg) (s:Stt) (x:Pck) (hp:p.Fit) (hr:QN p=true) (hw:Wf p s):Ctr Go.Proofs.Tryz.prog tab 98 [26,47,56] [4] [p.v,s.v,x.v] [.bool (has p s x)]:=by
 have hpp:=hp
 have hok:=Prg.ok hr
 have hs:=hw.shape
 have hcnt:=hw.count
 have hcode:=p.code_len hp
 have hsl:=p.sels_len hp
 obtain ⟨hp1,hp2,hp3,hp4⟩:=hp
 have hs1:=hs.vars
 have hs2:=hs.owner
 have hs3:=hs.chans
 have hs5:=hs.gos
 have hsz:=hok.sizes
 unfold Zz at hsz
 have hmx:256≤maxLen:=by decide
 refine Ctr.body ok Go.Proofs.Tryz.func98 rfl rfl 27 rfl [.tmp 6] rfl (by simp [QF]) ?_
 simp only [go_sem,Nat.reduceAdd]
 repeat' first
  | ((with_reducible first|refine Q5 fun R1 hR1=>?_|refine yb fun R1 hR1=>?_);(simp only [go_sem,seval,-List.reduceReplicate]);(repeat' with_reducible refine And.intro ?_ ?_);all_goals first|(refine hR1 _ ?_;clear hR1 R1)|((first|refine ce (cf (QF8 p s _ hpp hr hw) ?_));all_goals ((try simp only [go_sem,seval,-List.reduceReplicate]);(repeat' with_reducible refine And.intro ?_ ?_);all_goals first|(refine hR1 _ ?_;clear hR1 R1)|exact VL))|exact VL)
  | ((with_reducible first|refine Q4 ?_|refine ya ?_);refine hR _ ?_;clear hR R;try simp only [go_sem,QM5,Nat.reduceBEq])
  | (with_reducible first|refine J1 ?_|refine J2 ?_|refine J3 ?_|refine J4 ?_|refine J5 ?_|refine J6 ?_|refine J7 ?_|refine J8 (by decide) ?_|refine J9 ?_|refine Xu ?_|refine Q2 ?_|refine Q1 ?_|refine Yc ?_|refine Xt ?_)
  | ((with_reducible refine Qe 3 ?_)
     have hal:=xM hok hw x.go
     (with_reducible refine rg QM5 fun R hR=>?_);simp only [go_sem,QC])
  | ((with_reducible refine rg QM5 fun R hR=>?_);simp only [go_sem,QC])
  | ((with_reducible refine Ve ok QQ (by kernel_rfl) (by kernel_rfl) QM5 ?_);intro R hR;simp only [go_sem,QC])
  | ((with_reducible refine QI 17 rfl (fun hb17=>?_) fun hb17=>?_);all_goals (try simp [-List.getD_eq_getElem?_getD] at hb17;try (exfalso;omega)))
  | ((with_reducible refine QI 26 rfl (fun hb26=>?_) fun hb26=>?_);all_goals (try simp [-List.getD_eq_getElem?_getD] at hb26;try (exfalso;omega)))
  | ((with_reducible refine Ya ?_)
     refine Zv (Qo (by first|rfl|(simp;done)|fail)) (Yb (fun n τ=>∃ (j:Nat),n=(Qn p s x.go).length-j∧(j≤(Qn p s x.go).length∧∀ k:Nat,k<j→¬(Qn p s x.go).getD k 0=x.alt)∧τ={ tm:=[(5,true,.ptr 2 [] 56),(7,true,.sl 3 3 0 (Qn p s x.go).length false),(8,true,.int .i64 j)],ob:=[.var 26 (.data 26 p.v),.var 47 (.data 47 s.v),.var 56 (.data 56 x.v),.row 3 ((Qn p s x.go).map V.int)],out:=[],nt:=27 }) ((Qn p s x.go).length) ⟨0,rfl,⟨by omega,fun k h=>by omega⟩,rfl⟩ ?_)
     rintro n τ ⟨j,hn,⟨hj,hz⟩,rfl⟩)
  | ((with_reducible refine WC ?_)
     first
      | (have hlt:j<(Qn p s x.go).length:=by omega
         have hw:=QD (n:=j) (m:=256) (by omega) (by decide)
         refine Z0 ((Qn p s x.go).length-(j+1)) _ (by omega) (Qo (by simp only [hw])) ⟨j+1,rfl,⟨hlt,fun k h=>?_⟩,rfl⟩
         by_cases h2:k<j
         · exact hz k h2
         · have h3:k=j:=by omega
           rw [h3];exact hb26))
  | ((with_reducible first|refine ZQ ?_|refine ZP ?_)
     simp only [go_sem,QL,QM,QH,seval]
     first
      | (have q:_=_:=hb26
         refine ⟨rfl,?_⟩
         have hlt:j<(Qn p s x.go).length:=by omega
         rw [show has p s x=true from decide_eq_true (by rw [← hb26,List.getD_eq_getElem?_getD,List.getElem?_eq_getElem hlt];exact List.getElem_mem hlt)])
      | (have hlt:j=(Qn p s x.go).length:=by omega
         subst hlt
         refine ⟨rfl,?_⟩
         rw [show has p s x=false from decide_eq_false (fun q=>by
          obtain ⟨k,hk,e⟩:=List.mem_iff_getElem.1 q
          exact hz k hk (by rw [List.getD_eq_getElem?_getD,List.getElem?_eq_getElem hk];exact e))]))
def QOH:List (List Nat):=[[1,2,3,4,8],[1,2,3,4,8,10],[4,8],[8]]
theorem v9 (s:Stt) (g r v:Int) (hs:s.Shape) (hg:0≤g∧g<6) (hr:r<8):Ctr Go.Proofs.Tryz.prog tab 199 [47,3,3,2] [47] [s.v,.int g,.int r,.int v] [(s.setReg g r v).v]:=by
 have hs1:=hs.vars
 have hs2:=hs.owner
 have hs3:=hs.chans
 have hs4:=hs.bufs
 have hs5:=hs.gos
 have hs6:=hs.regs
 have h8:(s.gos.getD g.toNat default).regs.length=8:=hs6 _ (Qj _ (by omega))
 refine Ctr.body ok Go.Proofs.Tryz.func199 rfl rfl 19 rfl [.cell 8 47] rfl (by simp [QF]) ?_
 simp only [go_sem,Nat.reduceAdd]
 repeat' first
  | ((with_reducible refine Q5 fun R1 hR1=>?_);(simp only [go_sem,seval,-List.reduceReplicate]);(repeat' with_reducible refine And.intro ?_ ?_);all_goals first|(refine hR1 _ ?_;clear hR1 R1)|exact VL)
  | ((with_reducible refine Q4 ?_);refine hR _ ?_;clear hR R;try simp only [go_sem,QOH,Nat.reduceBEq])
  | (with_reducible first|refine J1 ?_|refine J2 ?_|refine J3 ?_|refine Q2 ?_|refine Q1 ?_)
  | ((with_reducible refine rg QOH fun R hR=>?_);simp only [go_sem,QC])
  | ((with_reducible refine QI 10 rfl (fun hb10=>?_) fun hb10=>?_);all_goals (try simp only [decide_eq_true_eq,decide_eq_false_iff_not] at hb10))
  | ((with_reducible first|refine ZQ ?_|refine ZP ?_)
     simp only [go_sem,QL,QM,QH,seval]
     first
      | (have q:¬_:=hb10
         exact ⟨rfl,congrArg (fun s:Stt=>some s.v) (show _=s.setReg g r v from Eq.symm (if_neg hb10))⟩)
      | (exact ⟨rfl,congrArg (fun s:Stt=>some s.v) (show _=s.setReg g r v from Eq.symm (if_pos hb10))⟩))
def QOG:List (List Nat):=[[0],[3],[2],[2]]
end Go.Eng.Tryz
