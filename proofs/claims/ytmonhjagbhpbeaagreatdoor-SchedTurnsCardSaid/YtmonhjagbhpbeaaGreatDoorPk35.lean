/- A part of the proof: walks through the program's functions, and what they compute. -/
import Derived.Test.YtmonhjagbhpbeaaGreatDoorPk34
set_option linter.unusedSimpArgs false
set_option linter.unusedVariables false
namespace Go.Eng.Tryz
open Go.RowKit Go.Eng
set_option maxHeartbeats 0
set_option maxRecDepth 20000
theorem QDi (p:Prg) (s:Stt) (g alt:Int) (hp:p.Fit) (hr:QN p=true) (hw:Wf p s) (hg:0≤g∧g<s.count) (ha:alt∈Qn p s g):Ctr Go.Proofs.Tryz.prog tab 138 [26,47,3,3] [223] [p.v,s.v,.int g,.int alt] [(QG p s g alt).v]:=by
 have hpp:=hp
 have hok:=Prg.ok hr
 have hs:=hw.shape
 have hcnt:=hw.count
 have hcode:=p.code_len hp
 have hsl:=p.sels_len hp
 obtain ⟨hp1,hp2,hp3,hp4⟩:=hp
 have hs1:=hs.vars
 have hs2:=hs.owner
 have hs3:=hs.chans
 have hs5:=hs.gos
 have hsz:=hok.sizes
 unfold Zz at hsz
 have hmx:256≤maxLen:=by decide
 have hg6:0≤g∧g<6:=by omega
 have hgi:=hw.gos g hg.1 hg.2
 obtain ⟨hf0,hf1,hpc0,hpc1,h8⟩:=hgi
 have hgi:=hw.gos g hg.1 hg.2
 have hrt:Qb p (p.funcs.getD (s.gos.getD g.toNat default).func.toNat default) (QA p s g)=0:=hw.right hok hg.1 hg.2
 have hrg:=hok.regs (s.gos.getD g.toNat default).func.toNat
 have hcl:=hok.code (s.gos.getD g.toNat default).func.toNat (by omega)
 have hch:∀ c:Nat,0≤(s.chans.getD c default).len∧(s.chans.getD c default).len≤4:=fun c=>⟨(hw.chans c).1,by have:=(hw.chans c).2;have:=(hok.caps c).2;omega⟩
 refine Ctr.body ok Go.Proofs.Tryz.func138 rfl rfl 167 rfl [.cell 8 223] rfl (by simp [QF]) ?_
 simp only [go_sem,Nat.reduceAdd]
 repeat' first
  | ((with_reducible refine SART.told 2 6 ?_)
     rw [Qc (n:=(s.gos.getD g.toNat default).pc+1) (by omega) (by omega)])
  | ((with_reducible refine SART.told 26 13 ?_)
     rw [XL (by omega)])
  | ((with_reducible refine SARA.told 30 5 ?_)
     rw [Wq (by omega)])
  | ((with_reducible first|refine Q5 fun R1 hR1=>?_|refine qz fun R1 hR1=>?_|refine qy fun R1 hR1=>?_|refine qx fun R1 hR1=>?_);(simp only [go_sem,seval,-List.reduceReplicate,QAL]);(repeat' with_reducible refine And.intro ?_ ?_);all_goals first|(refine hR1 _ ?_;clear hR1 R1)|((first|refine cq (cc (YV p s g hpp hs hg6 hgi)) ?_|refine cq (cc (Uh p s g hpp hs hg6 hgi)) ?_|refine cq (cc (QIj _ g _ hs hg6 hc)) ?_|refine cq (cc (QFD _ g _ _ _ hs hg6 hc hr8 hk8 hl)) ?_|refine cq (cc (QG7 _ _ hs hc)) ?_|refine cq (cc (QIo p _ g _ hs hg6 hcnt.1 (by omega) hI.2.1 (by omega) hx)) ?_|refine cq (cc (QB5 p _ _ g _ hs hg6 hrt hrg.2 (by omega))) ?_|refine cq (cc (QFD _ g _ _ (-1) hs hg6 hc4 hr8 (by decide) (hch _))) ?_|((first|refine cq (cc (QE3 p _ g _ _ hpp hs hg6 hc hl)) ?_|refine cq (cc (QE3 p _ g _ _ hpp hs hg6 ?_ ?_)) ?_)));all_goals ((try simp only [go_sem,seval,-List.reduceReplicate,QAL]);(repeat' with_reducible refine And.intro ?_ ?_);all_goals first|(refine hR1 _ ?_;clear hR1 R1)|exact VL))|exact VL)
  | ((with_reducible first|refine qw ?_|refine Q4 ?_);refine hR _ ?_;clear hR R;try simp only [go_sem,UI,Nat.reduceBEq])
  | (with_reducible first|refine qv ?_ ?_|exact qu|refine qt ?_ ?_)
  | (with_reducible first|refine J1 ?_|refine J2 ?_|refine J3 ?_|refine J4 ?_|refine J5 ?_|refine J6 ?_|refine J7 ?_|refine J8 (by decide) ?_|refine J9 ?_|refine Q2 ?_|refine Q1 ?_|refine Yc ?_)
  | ((with_reducible refine Qe 6 ?_)
     have hI:=Vm hrt (hw.op66 hok hg.1 hg.2 hb36)
     have hc:0≤(QA p s g).a∧(QA p s g).a<4:=by omega
     (with_reducible refine rg UI fun R hR=>?_);simp only [go_sem,QC])
  | ((with_reducible refine Qe 10 ?_)
     have hI:=yc hrt (hw.op_at hok hg.1 hg.2 hb55 (by decide))
     have hc:0≤(QA p s g).b∧(QA p s g).b<4:=by omega
     have hr8:(QA p s g).a<8:=by omega
     have hk8:(QA p s g).c<8:=by omega
     have hl:=hch (QA p s g).b.toNat
     (with_reducible refine rg UI fun R hR=>?_);simp only [go_sem,QC])
  | ((with_reducible refine Qe 12 ?_)
     have hI:=QCT hrt (hw.op_at hok hg.1 hg.2 hb66 (by decide))
     have hc:0≤(QA p s g).a∧(QA p s g).a<4:=by omega
     (with_reducible refine rg UI fun R hR=>?_);simp only [go_sem,QC])
  | ((with_reducible refine Qe 14 ?_)
     have hI:=QHS hrt (hw.op_at hok hg.1 hg.2 hb72 (by decide))
     have hpm:=hok.params (QA p s g).b.toNat
     have hpr:=hok.regs (QA p s g).b.toNat
     have hx:0<(p.funcs.getD (QA p s g).b.toNat default).params→0≤(QA p s g).c∧(QA p s g).c+(p.funcs.getD (QA p s g).b.toNat default).params≤8:=by
      intro q
      have h1:=hI.2.2.2 q
      have h2:w64 ((p.funcs.getD (s.gos.getD g.toNat default).func.toNat default).regs-(p.fn (QA p s g).b).params)=(p.funcs.getD (s.gos.getD g.toNat default).func.toNat default).regs-(p.funcs.getD (QA p s g).b.toNat default).params:=Qc (n:=(p.funcs.getD (s.gos.getD g.toNat default).func.toNat default).regs-(p.funcs.getD (QA p s g).b.toNat default).params) (by omega) (by omega)
      rw [h2] at h1
      omega
     (with_reducible refine rg UI fun R hR=>?_);simp only [go_sem,QC])
  | ((with_reducible refine Qe 16 ?_)
     have hI:=w7 hrt (.inl (hw.op_at hok hg.1 hg.2 hb79 (by decide)))
     (with_reducible refine rg UI fun R hR=>?_);simp only [go_sem,QC])
  | ((with_reducible refine Qe 23 ?_)
     have hI:=w7 hrt (.inr (hw.op_at hok hg.1 hg.2 hb103 (by decide)))
     (with_reducible refine rg UI fun R hR=>?_);simp only [go_sem,QC])
  | ((with_reducible refine Qe 30 ?_)
     obtain ⟨k,rfl,hk,hco⟩:=has.resolve_left hb131
     have hC:=Vb hok (i:=(s.gos.getD g.toNat default).func.toNat) (j:=(QA p s g).a.toNat) (k:=k) (by omega) (by omega) hk
     have hreg:=hC.reg
     have hcc:=hC.chan
     (with_reducible refine rg UI fun R hR=>?_);simp only [go_sem,QC])
  | ((with_reducible refine Qe 34 ?_)
     have hc4:0≤(((p.funcs.getD (s.gos.getD g.toNat default).func.toNat default).sels.getD (QA p s g).a.toNat default).cases.getD k default).chan∧(((p.funcs.getD (s.gos.getD g.toNat default).func.toNat default).sels.getD (QA p s g).a.toNat default).cases.getD k default).chan<4:=by omega
     have hr8:(((p.funcs.getD (s.gos.getD g.toNat default).func.toNat default).sels.getD (QA p s g).a.toNat default).cases.getD k default).reg<8:=by omega
     (with_reducible refine rg UI fun R hR=>?_);simp only [go_sem,QC])
  | ((with_reducible refine Qe 2 ?_)
     refine WT ok QQ (.take 0 (.take 1 (.take 2 (.take 3 (.take 4 (.take 5 (.take 6 (.take 7 (.br 8 (.br 9 .done .nil) .nil))))))))) [9] UI (by kernel_rfl) (fun R hR=>?_);simp only [go_sem,QC])
  | ((with_reducible refine Qe 8 ?_)
     have hI:=Vm hrt (hw.op_at hok hg.1 hg.2 hb43 (by decide))
     have hc:0≤(QA p s g).a∧(QA p s g).a<p.chans.length∧(QA p s g).a<4:=by omega
     have hl:=QAu hok hw ((y7 hb43).symm.trans (V7 ha (by omega)).1)
     refine WT ok QQ (.take 0 (.take 1 (.take 2 (.take 3 (.take 4 (.take 5 (.take 6 (.take 7 (.take 8 (.br 9 (.br 10 .done .nil) .nil)))))))))) [10] UI (by kernel_rfl) (fun R hR=>?_);simp only [go_sem,QC])
  | ((with_reducible refine Qe 26 ?_)
     have hI:0≤(QA p s g).a∧(QA p s g).a<((p.funcs.getD (s.gos.getD g.toNat default).func.toNat default).sels.length:Int):=UB hrt (hw.op_at hok hg.1 hg.2 hb111 (by decide))
     have hsh:=hok.short (s.gos.getD g.toNat default).func.toNat (QA p s g).a.toNat (by omega)
     have has:alt=(((p.funcs.getD (s.gos.getD g.toNat default).func.toNat default).sels.getD (QA p s g).a.toNat default).cases.length:Int)∨∃ k:Nat,alt=k∧k<((p.funcs.getD (s.gos.getD g.toNat default).func.toNat default).sels.getD (QA p s g).a.toNat default).cases.length∧XQ p s (((p.funcs.getD (s.gos.getD g.toNat default).func.toNat default).sels.getD (QA p s g).a.toNat default).cases.getD k default)=true:=zw ha hb111
     refine WT ok QQ (.take 0 (.take 1 (.take 2 (.take 3 (.take 4 (.take 5 (.take 6 (.take 7 (.take 8 (.take 9 (.take 10 (.take 11 (.take 12 (.take 13 (.br 14 (.br 15 .done .nil) .nil))))))))))))))) [15] UI (by kernel_rfl) (fun R hR=>?_);simp only [go_sem,QC])
  | ((with_reducible refine Qe 33 ?_)
     have hr0:0≤(((p.funcs.getD (s.gos.getD g.toNat default).func.toNat default).sels.getD (QA p s g).a.toNat default).cases.getD k default).reg∧(((p.funcs.getD (s.gos.getD g.toNat default).func.toNat default).sels.getD (QA p s g).a.toNat default).cases.getD k default).reg<(p.funcs.getD (s.gos.getD g.toNat default).func.toNat default).regs:=hreg.resolve_right (fun q=>Bool.noConfusion (q.1.symm.trans hb145))
     have hsn:Ys p s (((p.funcs.getD (s.gos.getD g.toNat default).func.toNat default).sels.getD (QA p s g).a.toNat default).cases.getD k default).chan=true:=by
      unfold XQ at hco
      rw [if_pos hb145] at hco
      exact hco
     have hl:=QAu hok hw hsn
     have hc:0≤(((p.funcs.getD (s.gos.getD g.toNat default).func.toNat default).sels.getD (QA p s g).a.toNat default).cases.getD k default).chan∧(((p.funcs.getD (s.gos.getD g.toNat default).func.toNat default).sels.getD (QA p s g).a.toNat default).cases.getD k default).chan<p.chans.length∧(((p.funcs.getD (s.gos.getD g.toNat default).func.toNat default).sels.getD (QA p s g).a.toNat default).cases.getD k default).chan<4:=by omega
     refine WT ok QQ (.take 0 (.take 1 (.take 2 (.take 3 (.take 4 (.take 5 (.take 6 (.take 7 (.take 8 (.br 9 (.br 10 .done .nil) .nil)))))))))) [10] UI (by kernel_rfl) (fun R hR=>?_);simp only [go_sem,QC])
  | ((with_reducible refine rg UI fun R hR=>?_);simp only [go_sem,QC])
  | ((with_reducible refine QI 36 rfl (fun hb36=>?_) fun hb36=>?_);all_goals (try simp only [decide_eq_true_eq,decide_eq_false_iff_not] at hb36))
  | ((with_reducible refine QI 43 rfl (fun hb43=>?_) fun hb43=>?_);all_goals (try simp only [decide_eq_true_eq,decide_eq_false_iff_not] at hb43))
  | ((with_reducible refine QI 55 rfl (fun hb55=>?_) fun hb55=>?_);all_goals (try simp only [decide_eq_true_eq,decide_eq_false_iff_not] at hb55))
  | ((with_reducible refine QI 66 rfl (fun hb66=>?_) fun hb66=>?_);all_goals (try simp only [decide_eq_true_eq,decide_eq_false_iff_not] at hb66))
  | ((with_reducible refine QI 72 rfl (fun hb72=>?_) fun hb72=>?_);all_goals (try simp only [decide_eq_true_eq,decide_eq_false_iff_not] at hb72))
  | ((with_reducible refine QI 79 rfl (fun hb79=>?_) fun hb79=>?_);all_goals (try simp only [decide_eq_true_eq,decide_eq_false_iff_not] at hb79))
  | ((with_reducible refine QI 97 rfl (fun hb97=>?_) (fun hb97=>?_))
     all_goals
      simp at hb97)
  | ((with_reducible refine QI 103 rfl (fun hb103=>?_) fun hb103=>?_);all_goals (try simp only [decide_eq_true_eq,decide_eq_false_iff_not] at hb103))
  | ((with_reducible refine QI 111 rfl (fun hb111=>?_) fun hb111=>?_);all_goals (try simp only [decide_eq_true_eq,decide_eq_false_iff_not] at hb111))
  | ((with_reducible refine QI 131 rfl (fun hb131=>?_) fun hb131=>?_);all_goals (try simp only [decide_eq_true_eq,decide_eq_false_iff_not] at hb131))
  | ((with_reducible refine QI 145 rfl (fun hb145=>?_) fun hb145=>?_);all_goals (try simp only [decide_eq_true_eq,decide_eq_false_iff_not] at hb145))
  | ((with_reducible first|refine ZQ ?_|refine ZP ?_)
     simp only [go_sem,QL,QM,QH,seval]
     first
      | (have q:_=true:=hb145
         exact ⟨rfl,congrArg (fun d:Did=>some d.v) (show _=QG p s g _ from Eq.symm ((if_neg hb36).trans ((if_neg hb43).trans ((if_neg hb55).trans ((if_neg hb66).trans ((if_neg hb72).trans ((if_neg hb79).trans ((if_neg hb103).trans ((if_pos hb111).trans ((if_neg hb131).trans (if_pos hb145)))))))))))⟩)
      | (have q:_=false:=hb145
         exact ⟨rfl,congrArg (fun d:Did=>some d.v) (show _=QG p s g _ from Eq.symm ((if_neg hb36).trans ((if_neg hb43).trans ((if_neg hb55).trans ((if_neg hb66).trans ((if_neg hb72).trans ((if_neg hb79).trans ((if_neg hb103).trans ((if_pos hb111).trans ((if_neg hb131).trans (if_neg (fun q=>Bool.noConfusion (hb145.symm.trans q)))))))))))))⟩)
      | (have q:_=_:=hb131
         exact ⟨rfl,congrArg (fun d:Did=>some d.v) (show _=QG p s g _ from Eq.symm ((if_neg hb36).trans ((if_neg hb43).trans ((if_neg hb55).trans ((if_neg hb66).trans ((if_neg hb72).trans ((if_neg hb79).trans ((if_neg hb103).trans ((if_pos hb111).trans (if_pos hb131))))))))))⟩)
      | (have q:(_∨_)∨_:=hb97
         exact ⟨rfl,congrArg (fun d:Did=>some d.v) (show _=QG p s g _ from Eq.symm ((if_neg hb36).trans ((if_neg hb43).trans ((if_neg hb55).trans ((if_neg hb66).trans ((if_neg hb72).trans ((if_pos hb79).trans (if_pos (or_assoc.1 hb97)))))))))⟩)
      | (have q:_∧_:=hb97
         exact ⟨rfl,congrArg (fun d:Did=>some d.v) (show _=QG p s g _ from Eq.symm ((if_neg hb36).trans ((if_neg hb43).trans ((if_neg hb55).trans ((if_neg hb66).trans ((if_neg hb72).trans ((if_pos hb79).trans (if_neg (fun q=>q.elim (fun q=>absurd q (Int.not_lt.2 hb97.1.1)) (fun q=>q.elim (fun q=>absurd hb97.1.2 (Int.not_lt.2 q)) hb97.2))))))))))⟩)
      | (exact ⟨rfl,congrArg (fun d:Did=>some d.v) (show _=QG p s g _ from Eq.symm (if_pos hb36))⟩)
      | (exact ⟨rfl,congrArg (fun d:Did=>some d.v) (show _=QG p s g _ from Eq.symm ((if_neg hb36).trans (if_pos hb43)))⟩)
      | (exact ⟨rfl,congrArg (fun d:Did=>some d.v) (show _=QG p s g _ from Eq.symm ((if_neg hb36).trans ((if_neg hb43).trans (if_pos hb55))))⟩)
      | (exact ⟨rfl,congrArg (fun d:Did=>some d.v) (show _=QG p s g _ from Eq.symm ((if_neg hb36).trans ((if_neg hb43).trans ((if_neg hb55).trans (if_pos hb66)))))⟩)
      | (exact ⟨rfl,congrArg (fun d:Did=>some d.v) (show _=QG p s g _ from Eq.symm ((if_neg hb36).trans ((if_neg hb43).trans ((if_neg hb55).trans ((if_neg hb66).trans (if_pos hb72))))))⟩)
      | (exact ⟨rfl,congrArg (fun d:Did=>some d.v) (show _=QG p s g _ from Eq.symm ((if_neg hb36).trans ((if_neg hb43).trans ((if_neg hb55).trans ((if_neg hb66).trans ((if_neg hb72).trans ((if_neg hb79).trans (if_pos hb103))))))))⟩)
      | (exact ⟨rfl,congrArg (fun d:Did=>some d.v) (show _=QG p s g _ from Eq.symm ((if_neg hb36).trans ((if_neg hb43).trans ((if_neg hb55).trans ((if_neg hb66).trans ((if_neg hb72).trans ((if_neg hb79).trans ((if_neg hb103).trans ((if_neg hb111).trans (rfl))))))))))⟩))
def QHm:List (List Nat):=[[0,1,2,3],[0,1,2,3,9],[0,1,2,3,9,10],[0,1,2,3,9,10,11],[0,1,2,3,9,10,11,16],[0,1,2,3,9,10,11],[0,1,2,3,9,10,11,12],[0,1,2,3,9,10,11,12,36],[0,1,2,3,9,11,12],[0,1,2,3,9,10,11,12],[0,1,2,3,9,10,11,12,62],[0,1,2,3,9,11,12],[0,1,2,3,9,10,11,12],[0,1,2,3,9,10,11],[1,2,3,9,75],[9],[8]]
theorem UW (l:List Access) (k m:Int) (w:Bool) (hl:l.length≤16):Ctr Go.Proofs.Tryz.prog tab 201 [94,3,3,4] [94] [.list (l.map Access.v),.int k,.int m,.bool w] [.list ((add k m w l).map Access.v)]:=by
 have hmx:256≤maxLen:=by decide
 have hcode:True→True:=id
 have hsl:True→True:=id
 refine Ctr.body ok Go.Proofs.Tryz.func201 rfl rfl 84 rfl [.tmp 8] rfl (by simp [QF]) ?_
 simp only [go_sem,Nat.reduceAdd]
 repeat' first
  | ((with_reducible refine SARA.told 6 4 ?_)
     rw [Qg Access.v l (by omega)])
  | ((with_reducible refine Q5 fun R1 hR1=>?_);(simp only [go_sem,seval,-List.reduceReplicate,YS,wP,z3,z4]);(repeat' with_reducible refine And.intro ?_ ?_);all_goals first|(refine hR1 _ ?_;clear hR1 R1)|exact VL)
  | ((with_reducible refine Q4 ?_);refine hR _ ?_;clear hR R;try simp only [go_sem,QHm,Nat.reduceBEq])
  | (with_reducible first|refine J1 ?_|refine J2 ?_|refine J3 ?_|refine J4 ?_|refine J5 ?_|refine J6 ?_|refine J7 ?_|refine J8 (by decide) ?_|refine J9 ?_|refine Xu ?_|refine Q2 ?_|refine Q1 ?_|refine Yc ?_|refine Xt ?_)
  | ((with_reducible refine Qe 6 ?_)
     have hq:=QBv k m w l i
     (with_reducible refine rg QHm fun R hR=>?_);simp only [go_sem,QC])
  | ((with_reducible refine Qe 14 ?_)
     have hq:=QBv k m w l i
     (with_reducible refine rg QHm fun R hR=>?_);simp only [go_sem,QC])
  | ((with_reducible refine rg QHm fun R hR=>?_);simp only [go_sem,QC])
  | ((with_reducible refine QI 16 rfl (fun hb16=>?_) fun hb16=>?_);all_goals (try simp [-List.getD_eq_getElem?_getD] at hb16;try (exfalso;omega)))
  | ((with_reducible refine QI 36 rfl (fun hb36=>?_) fun hb36=>?_);all_goals (try simp [-List.getD_eq_getElem?_getD] at hb36;try (exfalso;omega)))
  | ((with_reducible refine QI 62 rfl (fun hb62=>?_) fun hb62=>?_);all_goals (try simp [-List.getD_eq_getElem?_getD] at hb62;try (exfalso;omega)))
  | ((with_reducible refine QI 75 rfl (fun hb75=>?_) fun hb75=>?_);all_goals (try simp [-List.getD_eq_getElem?_getD] at hb75;try (exfalso;omega)))
  | ((with_reducible refine Ya ?_)
     refine Zv ((St.le.own (t:=9) 60 rfl).trans ((St.le.keep [0,1,2,3,9,10,11]).trans (Qo (by first|rfl|(simp;done)|fail)))) (Yb (fun n τ=>∃ (i:Nat),n=l.length-i∧(i≤l.length)∧τ={ tm:=[(0,true,.fs 60 (l.map Access.v) false),(1,true,.int .i64 k),(2,true,.int .i64 m),(3,true,.bool w),(9,true,.sl 0 60 0 (Wi k m w l i).1.length false),(10,true,.bool (Wi k m w l i).2),(11,true,.int .i64 i)],ob:=[.row 60 ((Wi k m w l i).1.map Access.v)],out:=[],nt:=84 }) (l.length) ⟨0,rfl,by omega,rfl⟩ ?_)
     rintro n τ ⟨i,hn,hi,rfl⟩)
  | ((with_reducible refine WC ?_)
     first
      | (have q:(_∧_)∧_:=hb36
         have hlt:i<l.length:=by omega
         have hw:=QD (n:=i) (m:=256) (by omega) (by decide)
         have e:=(qj k m w l hlt).trans (if_pos hb36)
         refine Z0 (l.length-(i+1)) _ (by omega) ((WS 1 rfl).trans (Qo (by simp [-List.getD_eq_getElem?_getD,e,hw,Access.v,List.take_of_length_le,Nat.add_assoc,Bool.or_comm]))) ⟨i+1,rfl,hlt,rfl⟩)
      | (have q:_∧_:=hb62
         have hlt:i<l.length:=by omega
         have hw:=QD (n:=i) (m:=256) (by omega) (by decide)
         have e:=(qj k m w l hlt).trans ((if_neg (fun q=>absurd (hb36 q.1.1 q.1.2) (fun h=>h q.2))).trans (if_pos hb62))
         refine Z0 (l.length-(i+1)) _ (by omega) ((WS 1 rfl).trans (Qo (by simp [-List.getD_eq_getElem?_getD,e,hw,Access.v,List.take_of_length_le,Nat.add_assoc]))) ⟨i+1,rfl,hlt,rfl⟩)
      | (have hlt:i<l.length:=by omega
         have hw:=QD (n:=i) (m:=256) (by omega) (by decide)
         have e:=(qj k m w l hlt).trans ((if_neg (fun q=>absurd (hb36 q.1.1 q.1.2) (fun h=>h q.2))).trans (if_neg (fun q=>q.2.elim (fun h=>absurd h (Int.not_lt.2 (hb62 q.1).1)) (fun h=>absurd h.2 (Int.not_lt.2 ((hb62 q.1).2 h.1))))))
         refine Z0 (l.length-(i+1)) _ (by omega) ((WS 1 rfl).trans (Qo (by simp [-List.getD_eq_getElem?_getD,e,hw,Access.v,List.take_of_length_le,Nat.add_assoc]))) ⟨i+1,rfl,hlt,rfl⟩))
  | ((with_reducible first|refine ZQ ?_|refine ZP ?_)
     simp only [go_sem,QL,QM,QH,seval]
     first
      | (have q:_=true:=hb75
         have e:i=l.length:=by omega
         subst e
         refine ⟨rfl,?_⟩
         rw [QIO,show xO k m w (Wi k m w l l.length)=(Wi k m w l l.length).1 from if_pos hb75]
         simp [List.take_of_length_le])
      | (have e:i=l.length:=by omega
         subst e
         refine ⟨rfl,?_⟩
         rw [QIO,show xO k m w (Wi k m w l l.length)=(Wi k m w l l.length).1++[⟨k,m,w⟩] from if_neg (by rw [hb75];simp)]
         simp [List.take_of_length_le,Access.v]))
theorem XU (k n:Int) (w:Bool):add k n w []=[⟨k,n,w⟩]:=rfl
theorem WB (q:Sel) {j:Nat} (h:j<q.cases.length) (l:List Access):QY q (j+1) l=add 3 (q.cases.getD j default).chan true (QY q j l):=by
 unfold QY
 rw [List.take_succ_eq_append_getElem h,List.foldl_append]
 simp [List.getD_eq_getElem?_getD,h]
theorem Vd (q:Sel) (l:List Access):∀ j:Nat,(QY q j l).length≤l.length+j
 | 0=>by simp [QY]
 | j+1=>by
   by_cases h:j<q.cases.length
   · rw [WB q h]
     have:=W7 3 (q.cases.getD j default).chan true (QY q j l)
     have:=Vd q l j
     omega
   · have e:QY q (j+1) l=QY q j l:=by unfold QY;rw [List.take_of_length_le (by omega),List.take_of_length_le (by omega)]
     rw [e]
     have:=Vd q l j
     omega
theorem Qr (g:Int) (w:Bool):add 4 0 w [(⟨5,g,true⟩:Access)]=[⟨4,0,w⟩,⟨5,g,true⟩]:=by simp [add]
def z6:Nat→Nat
 | 0=>3
 | j+1=>5+j
def qD (p:Prg) (s:Stt) (x:Instr) (q:Sel) (l:List Access):Nat→List Obj
 | 0=>[.var 26 (.data 26 p.v),.var 47 (.data 47 s.v),.var 104 (.data 104 x.v),.row 60 ((QY q 0 l).map Access.v),.var 173 (.data 173 q.v)]
 | j+1=>qD p s x q l j++[.row 60 ((QY q (j+1) l).map Access.v)]
theorem yp (q:Sel) (l:List Access):QY q 0 l=l:=rfl
def QCx:List (List Nat):=[[2,3,4],[2,3,4,7],[2,3,4,7,8],[2,3,4,7,8,21],[2,3,4,7,8,21,22],[8],[2,3,4,7,8,21,28],[8],[2,3,4,7,8,21,34],[8],[2,3,4,7,8,21,40],[2,3,4,7,8,21,40],[8],[2,3,4,7,8,21,47],[2,3,4,7,8,21,47],[8],[2,3,4,7,8,21,54],[8],[2,3,4,7,8,21,60],[2,3,4,7,8,21,60],[2,3,4,7,8,21,60],[8],[2,3,4,7,8,21,68],[8],[2,3,4,7,8,21,74],[8,9],[8,9,10],[8,9,10,94],[8,9,10],[8,9,10],[2,4,7,8,21,105],[4,8],[4,8,111],[8],[2,4,7,8,21,116],[2,4,7,8],[4,8,11],[8,11,135],[8],[8,139],[8],[6]]
end Go.Eng.Tryz
