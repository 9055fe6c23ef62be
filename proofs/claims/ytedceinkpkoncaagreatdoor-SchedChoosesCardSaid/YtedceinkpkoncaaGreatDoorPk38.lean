/- A part of the proof: walks through the program's functions, and what they compute. -/
import Derived.Test.YtedceinkpkoncaaGreatDoorPk28
import Derived.Test.YtedceinkpkoncaaGreatDoorPk37
set_option linter.unusedSimpArgs false
set_option linter.unusedVariables false
namespace Go.Eng.Tryz
open Go.RowKit Go.Eng
set_option maxHeartbeats 0
set_option maxRecDepth 20000
theorem QGt (p:Prg) (d:Did) (g:Int) (x:Instr) (hs:d.s.Shape) (hg:0≤g∧g<6) (hc0:0≤d.s.count) (ha:x.a<8) (hb:0≤x.b∧x.b<p.funcs.length) (hpm:0≤(p.funcs.getD x.b.toNat default).params∧(p.funcs.getD x.b.toNat default).params≤8) (hx:0<(p.funcs.getD x.b.toNat default).params→0≤x.c∧x.c+(p.funcs.getD x.b.toNat default).params≤8):Ctr Go.Proofs.Tryz.prog tab 155 [26,189,3,129] [189] [p.v,d.v,.int g,x.v] [(YO p d g x).v]:=by
 have hs1:=hs.vars
 have hs2:=hs.owner
 have hs3:=hs.chans
 have hs4:=hs.bufs
 have hs5:=hs.gos
 have hs6:=hs.regs
 have h8:(d.s.gos.getD g.toNat default).regs.length=8:=hs6 _ (Qn _ (by omega))
 refine Ctr.body ok Go.Proofs.Tryz.func155 rfl rfl 71 rfl [.cell 8 189] rfl (by simp [QE]) ?_
 simp only [go_sem,Nat.reduceAdd]
 repeat' first
  | ((with_reducible refine SARA.told 5 6 ?_)
     rw [XB (by omega)])
  | ((with_reducible refine SART.told 10 5 ?_)
     rw [QU (n:=x.c+(i:Int)) (by omega) (by omega)])
  | ((with_reducible refine SARA.told 12 2 ?_)
     rw [QU (n:=d.s.count+1) (by omega) (by omega)])
  | ((with_reducible first|refine Q2 fun R1 hR1=>?_|refine qR fun R1 hR1=>?_|refine qQ fun R1 hR1=>?_|refine qP fun R1 hR1=>?_);(simp only [go_sem,seval,-List.reduceReplicate,Qv]);(repeat' with_reducible refine And.intro ?_ ?_);all_goals first|(refine hR1 _ ?_;clear hR1 R1)|((first|refine cq (cc (wh _ g _ _ ?_ hg ha)) ?_);all_goals ((try simp only [go_sem,seval,-List.reduceReplicate,Qv]);(repeat' with_reducible refine And.intro ?_ ?_);all_goals first|(refine hR1 _ ?_;clear hR1 R1)|omega|rfl|decide|assumption|(intro _;omega)|(simp;done)|(simp [-List.getD_eq_getElem?_getD];omega)|exact hcode _|(intro _;exact hcode _)|exact hsl _|(intro _;exact hsl _)|(simp [-List.getD_eq_getElem?_getD,QQ,maxLen,by3,QDH,QFc,QJo,QJp];omega)|(simp [-List.getD_eq_getElem?_getD,QQ,maxLen,by3,QDH,QFc,QJo,QJp];done)|exact Yd hs _ _ (by simp [Q3])))|omega|rfl|decide|assumption|(intro _;omega)|(simp;done)|(simp [-List.getD_eq_getElem?_getD];omega)|exact hcode _|(intro _;exact hcode _)|exact hsl _|(intro _;exact hsl _)|(simp [-List.getD_eq_getElem?_getD,QQ,maxLen,by3,QDH,QFc,QJo,QJp];omega)|(simp [-List.getD_eq_getElem?_getD,QQ,maxLen,by3,QDH,QFc,QJo,QJp];done)|exact Yd hs _ _ (by simp [Q3]))
  | ((with_reducible first|refine qO ?_|refine Q1 ?_);refine hR _ ?_;clear hR R;try simp only [go_sem,QI3,Nat.reduceBEq])
  | (with_reducible first|refine qN ?_ ?_|exact qM|refine qL ?_ ?_)
  | (with_reducible first|refine J1 ?_|refine J2 ?_|refine J3 ?_|refine J4 ?_|refine J5 ?_|refine J6 ?_|refine J7 ?_|refine J8 (by decide) ?_|refine J9 ?_|refine WL ?_|refine Q0 ?_|refine Qz ?_|refine YZ ?_|refine WK ?_)
  | ((with_reducible refine QZ 10 ?_)
     have hxx:=hx (by omega)
     refine WJ ok QN (.take 0 (.take 1 (.take 2 (.take 3 (.take 4 (.take 5 (.take 6 (.take 7 (.take 8 (.take 9 (.take 10 (.take 11 (.take 12 (.take 13 (.br 14 .done .nil))))))))))))))) [14] QI3 (by kernel_rfl) (fun R hR=>?_);simp only [go_sem,QC])
  | ((with_reducible refine rg QI3 fun R hR=>?_);simp only [go_sem,QC])
  | ((with_reducible refine QH 16 rfl (fun hb16=>?_) fun hb16=>?_);all_goals (try simp only [decide_eq_true_eq,decide_eq_false_iff_not] at hb16))
  | ((with_reducible refine QH 34 rfl (fun hb34=>?_) fun hb34=>?_);all_goals (try simp only [decide_eq_true_eq,decide_eq_false_iff_not] at hb34))
  | ((with_reducible refine YQ ?_)
     refine Zo (Qq (by simp only [vD];rfl)) (YR (fun n τ=>∃ (i:Nat),n=(p.funcs.getD x.b.toNat default).params.toNat-i∧((i:Int)≤(p.funcs.getD x.b.toNat default).params)∧τ={ tm:=[(2,true,.int .i64 g),(5,true,.ptr 1 [] 189),(7,true,.ptr 2 [] 129),(8,true,.ptr 3 [] 189),(9,true,.int .i64 d.s.count),(10,true,.ptr 4 [] 121),(11,true,.ptr 5 [] 34),(12,true,.int .i64 i)],ob:=[.var 26 (.data 26 p.v),.var 189 (.data 189 d.v),.var 129 (.data 129 x.v),.var 189 (.data 189 (tab.zero 189)),.var 121 (.data 121 (p.funcs.getD x.b.toNat default).v),.var 34 (.data 34 (Gor.v ⟨1,x.b,0,0,Q3 d.s g x.c i⟩))],out:=[],nt:=71 }) ((p.funcs.getD x.b.toNat default).params.toNat) ⟨0,rfl,by omega,rfl⟩ ?_)
     rintro n τ ⟨i,hn,hi,rfl⟩)
  | ((with_reducible refine WM ?_)
     first
      | (have hw:=QD (n:=i) (m:=256) (by omega) (by decide)
         have hsp:(Q3 d.s g x.c i).set i ((d.s.gos.getD g.toNat default).regs.getD (x.c+(i:Int)).toNat 0)=Q3 d.s g x.c (i+1):=vE d.s g x.c (by omega)
         refine Zt ((p.funcs.getD x.b.toNat default).params.toNat-(i+1)) _ (by omega) (Qq (by simp only [hw,hsp])) ⟨i+1,rfl,by omega,rfl⟩))
  | ((with_reducible first|refine ZH ?_|refine ZG ?_)
     simp only [go_sem,QJ,QK,QG,seval]
     first
      | (have q:=hb16
         exact ⟨rfl,congrArg (fun d:Did=>some d.v) (show _=YO p d g x from Eq.symm (if_pos hb16))⟩)
      | (have e:(i:Int)=(p.funcs.getD x.b.toNat default).params:=by omega
         have e2:i=(p.funcs.getD x.b.toNat default).params.toNat:=by omega
         subst e2
         exact ⟨rfl,congrArg (fun d:Did=>some d.v) (show _=YO p d g x from Eq.symm (if_neg (show ¬6≤d.s.count by omega)))⟩))
end Go.Eng.Tryz
namespace Go.Eng.Tryz
open Go.RowKit Go.Eng
set_option maxHeartbeats 0
set_option maxRecDepth 20000
theorem wv:tab.zero 189=Did.v ⟨zeroStt,0,0,0⟩:=rfl
def V5:List (List Nat):=[[2,3,4,5,8],[2,3,4,5,8,9],[2,3,4,5,8,9,10],[2,3,4,5,8,9,10,11],[2,3,4,5,8,9,10,11,35],[2,3,4,5,8,9,10,11,35,36],[8],[2,3,4,5,8,9,10,11,35,43],[8],[2,3,4,5,8,9,10,11,35,55],[8],[2,3,4,5,8,9,10,11,35,66],[8],[2,3,4,5,8,9,10,11,35,72],[8],[2,3,4,5,8,9,10,11,35,79],[2,5,8,10,12],[8,10,12,97],[8,10],[8],[8,10],[8],[2,3,4,5,8,9,10,11,35,103],[8,10],[8],[2,3,4,5,8,9,10,11,111],[2,3,4,8,10,11,13],[2,3,4,8,10,11,13,131],[8,10],[8],[2,4,8,10,11,14],[2,4,8,10,11,14],[2,4,8,10,11,14,145],[8],[8],[8]]
theorem QCJ (p:Prg) (s:Stt) (g alt:Int) (hp:p.Fit) (hr:QP p=true) (hw:Wf p s) (hg:0≤g∧g<s.count) (ha:alt∈Qj p s g):Ctr Go.Proofs.Tryz.prog tab 128 [26,37,3,3] [189] [p.v,s.v,.int g,.int alt] [(QI p s g alt).v]:=by
 have hpp:=hp
 have hok:=Prg.ok hr
 have hs:=hw.shape
 have hcnt:=hw.count
 have hcode:=p.code_len hp
 have hsl:=p.sels_len hp
 obtain ⟨hp1,hp2,hp3,hp4⟩:=hp
 have hs1:=hs.vars
 have hs2:=hs.owner
 have hs3:=hs.chans
 have hs5:=hs.gos
 have hsz:=hok.sizes
 unfold Ze at hsz
 have hmx:256≤maxLen:=by decide
 have hg6:0≤g∧g<6:=by omega
 have hgi:=hw.gos g hg.1 hg.2
 obtain ⟨hf0,hf1,hpc0,hpc1,h8⟩:=hgi
 have hgi:=hw.gos g hg.1 hg.2
 have hrt:QV p (p.funcs.getD (s.gos.getD g.toNat default).func.toNat default) (QA p s g)=0:=hw.right hok hg.1 hg.2
 have hrg:=hok.regs (s.gos.getD g.toNat default).func.toNat
 have hcl:=hok.code (s.gos.getD g.toNat default).func.toNat (by omega)
 have hch:∀ c:Nat,0≤(s.chans.getD c default).len∧(s.chans.getD c default).len≤4:=fun c=>⟨(hw.chans c).1,by have:=(hw.chans c).2;have:=(hok.caps c).2;omega⟩
 refine Ctr.body ok Go.Proofs.Tryz.func128 rfl rfl 167 rfl [.cell 8 189] rfl (by simp [QE]) ?_
 simp only [go_sem,Nat.reduceAdd]
 repeat' first
  | ((with_reducible refine SART.told 2 6 ?_)
     rw [QU (n:=(s.gos.getD g.toNat default).pc+1) (by omega) (by omega)])
  | ((with_reducible refine SART.told 26 13 ?_)
     rw [XA (by omega)])
  | ((with_reducible refine SARA.told 30 5 ?_)
     rw [Wj (by omega)])
  | ((with_reducible first|refine Q2 fun R1 hR1=>?_|refine qR fun R1 hR1=>?_|refine qQ fun R1 hR1=>?_|refine qP fun R1 hR1=>?_);(simp only [go_sem,seval,-List.reduceReplicate,wv]);(repeat' with_reducible refine And.intro ?_ ?_);all_goals first|(refine hR1 _ ?_;clear hR1 R1)|((first|refine cq (cc (Z2 p s g hpp hs hg6 hgi)) ?_|refine cq (cc (Wo p s g hpp hs hg6 hgi)) ?_|refine cq (cc (QGq _ g _ hs hg6 hc)) ?_|refine cq (cc (QDu _ g _ _ _ hs hg6 hc hr8 hk8 hl)) ?_|refine cq (cc (QFY _ _ hs hc)) ?_|refine cq (cc (QGt p _ g _ hs hg6 hcnt.1 (by omega) hI.2.1 (by omega) hx)) ?_|refine cq (cc (QAi p _ _ g _ hs hg6 hrt hrg.2 (by omega))) ?_|refine cq (cc (QDu _ g _ _ (-1) hs hg6 hc4 hr8 (by decide) (hch _))) ?_|((first|refine cq (cc (QDn p _ g _ _ hpp hs hg6 hc hl)) ?_|refine cq (cc (QDn p _ g _ _ hpp hs hg6 ?_ ?_)) ?_)));all_goals ((try simp only [go_sem,seval,-List.reduceReplicate,wv]);(repeat' with_reducible refine And.intro ?_ ?_);all_goals first|(refine hR1 _ ?_;clear hR1 R1)|exact Xk))|exact Xk)
  | ((with_reducible first|refine qO ?_|refine Q1 ?_);refine hR _ ?_;clear hR R;try simp only [go_sem,V5,Nat.reduceBEq])
  | (with_reducible first|refine qN ?_ ?_|exact qM|refine qL ?_ ?_)
  | (with_reducible first|refine J1 ?_|refine J2 ?_|refine J3 ?_|refine J4 ?_|refine J5 ?_|refine J6 ?_|refine J7 ?_|refine J8 (by decide) ?_|refine J9 ?_|refine Q0 ?_|refine Qz ?_|refine YZ ?_)
  | ((with_reducible refine QZ 6 ?_)
     have hI:=VU hrt (hw.op66 hok hg.1 hg.2 hb36)
     have hc:0≤(QA p s g).a∧(QA p s g).a<4:=by omega
     (with_reducible refine rg V5 fun R hR=>?_);simp only [go_sem,QC])
  | ((with_reducible refine QZ 10 ?_)
     have hI:=yU hrt (hw.op_at hok hg.1 hg.2 hb55 (by decide))
     have hc:0≤(QA p s g).b∧(QA p s g).b<4:=by omega
     have hr8:(QA p s g).a<8:=by omega
     have hk8:(QA p s g).c<8:=by omega
     have hl:=hch (QA p s g).b.toNat
     (with_reducible refine rg V5 fun R hR=>?_);simp only [go_sem,QC])
  | ((with_reducible refine QZ 12 ?_)
     have hI:=QDU hrt (hw.op_at hok hg.1 hg.2 hb66 (by decide))
     have hc:0≤(QA p s g).a∧(QA p s g).a<4:=by omega
     (with_reducible refine rg V5 fun R hR=>?_);simp only [go_sem,QC])
  | ((with_reducible refine QZ 14 ?_)
     have hI:=QFq hrt (hw.op_at hok hg.1 hg.2 hb72 (by decide))
     have hpm:=hok.params (QA p s g).b.toNat
     have hpr:=hok.regs (QA p s g).b.toNat
     have hx:0<(p.funcs.getD (QA p s g).b.toNat default).params→0≤(QA p s g).c∧(QA p s g).c+(p.funcs.getD (QA p s g).b.toNat default).params≤8:=by
      intro q
      have h1:=hI.2.2.2 q
      have h2:w64 ((p.funcs.getD (s.gos.getD g.toNat default).func.toNat default).regs-(p.fn (QA p s g).b).params)=(p.funcs.getD (s.gos.getD g.toNat default).func.toNat default).regs-(p.funcs.getD (QA p s g).b.toNat default).params:=QU (n:=(p.funcs.getD (s.gos.getD g.toNat default).func.toNat default).regs-(p.funcs.getD (QA p s g).b.toNat default).params) (by omega) (by omega)
      rw [h2] at h1
      omega
     (with_reducible refine rg V5 fun R hR=>?_);simp only [go_sem,QC])
  | ((with_reducible refine QZ 16 ?_)
     have hI:=zc hrt (.inl (hw.op_at hok hg.1 hg.2 hb79 (by decide)))
     (with_reducible refine rg V5 fun R hR=>?_);simp only [go_sem,QC])
  | ((with_reducible refine QZ 23 ?_)
     have hI:=zc hrt (.inr (hw.op_at hok hg.1 hg.2 hb103 (by decide)))
     (with_reducible refine rg V5 fun R hR=>?_);simp only [go_sem,QC])
  | ((with_reducible refine QZ 30 ?_)
     obtain ⟨k,rfl,hk,hco⟩:=has.resolve_left hb131
     have hC:=UC hok (i:=(s.gos.getD g.toNat default).func.toNat) (j:=(QA p s g).a.toNat) (k:=k) (by omega) (by omega) hk
     have hreg:=hC.reg
     have hcc:=hC.chan
     (with_reducible refine rg V5 fun R hR=>?_);simp only [go_sem,QC])
  | ((with_reducible refine QZ 34 ?_)
     have hc4:0≤(((p.funcs.getD (s.gos.getD g.toNat default).func.toNat default).sels.getD (QA p s g).a.toNat default).cases.getD k default).chan∧(((p.funcs.getD (s.gos.getD g.toNat default).func.toNat default).sels.getD (QA p s g).a.toNat default).cases.getD k default).chan<4:=by omega
     have hr8:(((p.funcs.getD (s.gos.getD g.toNat default).func.toNat default).sels.getD (QA p s g).a.toNat default).cases.getD k default).reg<8:=by omega
     (with_reducible refine rg V5 fun R hR=>?_);simp only [go_sem,QC])
  | ((with_reducible refine QZ 2 ?_)
     refine WJ ok QN (.take 0 (.take 1 (.take 2 (.take 3 (.take 4 (.take 5 (.take 6 (.take 7 (.br 8 (.br 9 .done .nil) .nil))))))))) [9] V5 (by kernel_rfl) (fun R hR=>?_);simp only [go_sem,QC])
  | ((with_reducible refine QZ 8 ?_)
     have hI:=VU hrt (hw.op_at hok hg.1 hg.2 hb43 (by decide))
     have hc:0≤(QA p s g).a∧(QA p s g).a<p.chans.length∧(QA p s g).a<4:=by omega
     have hl:=vP hok hw ((z8 hb43).symm.trans (Vt ha (by omega)).1)
     refine WJ ok QN (.take 0 (.take 1 (.take 2 (.take 3 (.take 4 (.take 5 (.take 6 (.take 7 (.take 8 (.br 9 (.br 10 .done .nil) .nil)))))))))) [10] V5 (by kernel_rfl) (fun R hR=>?_);simp only [go_sem,QC])
  | ((with_reducible refine QZ 26 ?_)
     have hI:0≤(QA p s g).a∧(QA p s g).a<((p.funcs.getD (s.gos.getD g.toNat default).func.toNat default).sels.length:Int):=V0 hrt (hw.op_at hok hg.1 hg.2 hb111 (by decide))
     have hsh:=hok.short (s.gos.getD g.toNat default).func.toNat (QA p s g).a.toNat (by omega)
     have has:alt=(((p.funcs.getD (s.gos.getD g.toNat default).func.toNat default).sels.getD (QA p s g).a.toNat default).cases.length:Int)∨∃ k:Nat,alt=k∧k<((p.funcs.getD (s.gos.getD g.toNat default).func.toNat default).sels.getD (QA p s g).a.toNat default).cases.length∧XX p s (((p.funcs.getD (s.gos.getD g.toNat default).func.toNat default).sels.getD (QA p s g).a.toNat default).cases.getD k default)=true:=QAX ha hb111
     refine WJ ok QN (.take 0 (.take 1 (.take 2 (.take 3 (.take 4 (.take 5 (.take 6 (.take 7 (.take 8 (.take 9 (.take 10 (.take 11 (.take 12 (.take 13 (.br 14 (.br 15 .done .nil) .nil))))))))))))))) [15] V5 (by kernel_rfl) (fun R hR=>?_);simp only [go_sem,QC])
  | ((with_reducible refine QZ 33 ?_)
     have hr0:0≤(((p.funcs.getD (s.gos.getD g.toNat default).func.toNat default).sels.getD (QA p s g).a.toNat default).cases.getD k default).reg∧(((p.funcs.getD (s.gos.getD g.toNat default).func.toNat default).sels.getD (QA p s g).a.toNat default).cases.getD k default).reg<(p.funcs.getD (s.gos.getD g.toNat default).func.toNat default).regs:=hreg.resolve_right (fun q=>Bool.noConfusion (q.1.symm.trans hb145))
     have hsn:XF p s (((p.funcs.getD (s.gos.getD g.toNat default).func.toNat default).sels.getD (QA p s g).a.toNat default).cases.getD k default).chan=true:=by
      unfold XX at hco
      rw [if_pos hb145] at hco
      exact hco
     have hl:=vP hok hw hsn
     have hc:0≤(((p.funcs.getD (s.gos.getD g.toNat default).func.toNat default).sels.getD (QA p s g).a.toNat default).cases.getD k default).chan∧(((p.funcs.getD (s.gos.getD g.toNat default).func.toNat default).sels.getD (QA p s g).a.toNat default).cases.getD k default).chan<p.chans.length∧(((p.funcs.getD (s.gos.getD g.toNat default).func.toNat default).sels.getD (QA p s g).a.toNat default).cases.getD k default).chan<4:=by omega
     refine WJ ok QN (.take 0 (.take 1 (.take 2 (.take 3 (.take 4 (.take 5 (.take 6 (.take 7 (.take 8 (.br 9 (.br 10 .done .nil) .nil)))))))))) [10] V5 (by kernel_rfl) (fun R hR=>?_);simp only [go_sem,QC])
  | ((with_reducible refine rg V5 fun R hR=>?_);simp only [go_sem,QC])
  | ((with_reducible refine QH 36 rfl (fun hb36=>?_) fun hb36=>?_);all_goals (try simp only [decide_eq_true_eq,decide_eq_false_iff_not] at hb36))
  | ((with_reducible refine QH 43 rfl (fun hb43=>?_) fun hb43=>?_);all_goals (try simp only [decide_eq_true_eq,decide_eq_false_iff_not] at hb43))
  | ((with_reducible refine QH 55 rfl (fun hb55=>?_) fun hb55=>?_);all_goals (try simp only [decide_eq_true_eq,decide_eq_false_iff_not] at hb55))
  | ((with_reducible refine QH 66 rfl (fun hb66=>?_) fun hb66=>?_);all_goals (try simp only [decide_eq_true_eq,decide_eq_false_iff_not] at hb66))
  | ((with_reducible refine QH 72 rfl (fun hb72=>?_) fun hb72=>?_);all_goals (try simp only [decide_eq_true_eq,decide_eq_false_iff_not] at hb72))
  | ((with_reducible refine QH 79 rfl (fun hb79=>?_) fun hb79=>?_);all_goals (try simp only [decide_eq_true_eq,decide_eq_false_iff_not] at hb79))
  | ((with_reducible refine QH 97 rfl (fun hb97=>?_) (fun hb97=>?_))
     all_goals
      simp at hb97)
  | ((with_reducible refine QH 103 rfl (fun hb103=>?_) fun hb103=>?_);all_goals (try simp only [decide_eq_true_eq,decide_eq_false_iff_not] at hb103))
  | ((with_reducible refine QH 111 rfl (fun hb111=>?_) fun hb111=>?_);all_goals (try simp only [decide_eq_true_eq,decide_eq_false_iff_not] at hb111))
  | ((with_reducible refine QH 131 rfl (fun hb131=>?_) fun hb131=>?_);all_goals (try simp only [decide_eq_true_eq,decide_eq_false_iff_not] at hb131))
  | ((with_reducible refine QH 145 rfl (fun hb145=>?_) fun hb145=>?_);all_goals (try simp only [decide_eq_true_eq,decide_eq_false_iff_not] at hb145))
  | ((with_reducible first|refine ZH ?_|refine ZG ?_)
     simp only [go_sem,QJ,QK,QG,seval]
     first
      | (have q:_=true:=hb145
         exact ⟨rfl,congrArg (fun d:Did=>some d.v) (show _=QI p s g _ from Eq.symm ((if_neg hb36).trans ((if_neg hb43).trans ((if_neg hb55).trans ((if_neg hb66).trans ((if_neg hb72).trans ((if_neg hb79).trans ((if_neg hb103).trans ((if_pos hb111).trans ((if_neg hb131).trans (if_pos hb145)))))))))))⟩)
      | (have q:_=false:=hb145
         exact ⟨rfl,congrArg (fun d:Did=>some d.v) (show _=QI p s g _ from Eq.symm ((if_neg hb36).trans ((if_neg hb43).trans ((if_neg hb55).trans ((if_neg hb66).trans ((if_neg hb72).trans ((if_neg hb79).trans ((if_neg hb103).trans ((if_pos hb111).trans ((if_neg hb131).trans (if_neg (fun q=>Bool.noConfusion (hb145.symm.trans q)))))))))))))⟩)
      | (have q:_=_:=hb131
         exact ⟨rfl,congrArg (fun d:Did=>some d.v) (show _=QI p s g _ from Eq.symm ((if_neg hb36).trans ((if_neg hb43).trans ((if_neg hb55).trans ((if_neg hb66).trans ((if_neg hb72).trans ((if_neg hb79).trans ((if_neg hb103).trans ((if_pos hb111).trans (if_pos hb131))))))))))⟩)
      | (have q:(_∨_)∨_:=hb97
         exact ⟨rfl,congrArg (fun d:Did=>some d.v) (show _=QI p s g _ from Eq.symm ((if_neg hb36).trans ((if_neg hb43).trans ((if_neg hb55).trans ((if_neg hb66).trans ((if_neg hb72).trans ((if_pos hb79).trans (if_pos (or_assoc.1 hb97)))))))))⟩)
      | (have q:_∧_:=hb97
         exact ⟨rfl,congrArg (fun d:Did=>some d.v) (show _=QI p s g _ from Eq.symm ((if_neg hb36).trans ((if_neg hb43).trans ((if_neg hb55).trans ((if_neg hb66).trans ((if_neg hb72).trans ((if_pos hb79).trans (if_neg (fun q=>q.elim (fun q=>absurd q (Int.not_lt.2 hb97.1.1)) (fun q=>q.elim (fun q=>absurd hb97.1.2 (Int.not_lt.2 q)) hb97.2))))))))))⟩)
      | (exact ⟨rfl,congrArg (fun d:Did=>some d.v) (show _=QI p s g _ from Eq.symm (if_pos hb36))⟩)
      | (exact ⟨rfl,congrArg (fun d:Did=>some d.v) (show _=QI p s g _ from Eq.symm ((if_neg hb36).trans (if_pos hb43)))⟩)
      | (exact ⟨rfl,congrArg (fun d:Did=>some d.v) (show _=QI p s g _ from Eq.symm ((if_neg hb36).trans ((if_neg hb43).trans (if_pos hb55))))⟩)
      | (exact ⟨rfl,congrArg (fun d:Did=>some d.v) (show _=QI p s g _ from Eq.symm ((if_neg hb36).trans ((if_neg hb43).trans ((if_neg hb55).trans (if_pos hb66)))))⟩)
      | (exact ⟨rfl,congrArg (fun d:Did=>some d.v) (show _=QI p s g _ from Eq.symm ((if_neg hb36).trans ((if_neg hb43).trans ((if_neg hb55).trans ((if_neg hb66).trans (if_pos hb72))))))⟩)
      | (exact ⟨rfl,congrArg (fun d:Did=>some d.v) (show _=QI p s g _ from Eq.symm ((if_neg hb36).trans ((if_neg hb43).trans ((if_neg hb55).trans ((if_neg hb66).trans ((if_neg hb72).trans ((if_neg hb79).trans (if_pos hb103))))))))⟩)
      | (exact ⟨rfl,congrArg (fun d:Did=>some d.v) (show _=QI p s g _ from Eq.symm ((if_neg hb36).trans ((if_neg hb43).trans ((if_neg hb55).trans ((if_neg hb66).trans ((if_neg hb72).trans ((if_neg hb79).trans ((if_neg hb103).trans ((if_neg hb111).trans (rfl))))))))))⟩))
end Go.Eng.Tryz
namespace Go.Eng.Tryz
open Go.RowKit Go.Eng
set_option maxHeartbeats 0
set_option maxRecDepth 20000
def QC6 (p:Prg) (s:Stt) (x:Pck) (val:Int) (t:Int) (l:List Access):Event :=
 ⟨x.go,(s.gos.getD x.go.toNat default).func,(s.gos.getD x.go.toNat default).pc,QL p s x.go,x.alt,val,t,l,0⟩
def QBX:List (List Nat):=[[3,4,5,6,8],[3,4,5,6,8,9],[4,5,6,8,9,10],[4,5,6,8,9,10,43],[4,5,6,8,10],[8,10,11],[8,10,11,12],[8,10,11,12,55],[8,10,11,12],[8,10,11,12],[8,10],[8]]
theorem QBo (p:Prg) (s:Stt) (x:Pck) (val:Int) (hp:p.Fit) (hr:QP p=true) (hw:Wf p s) (hg:0≤x.go∧x.go<s.count):Ctr Go.Proofs.Tryz.prog tab 129 [26,37,39,2] [48] [p.v,s.v,x.v,.int val] [(event p s x val).v]:=by
 have hpp:=hp
 have hok:=Prg.ok hr
 have hs:=hw.shape
 have hcnt:=hw.count
 have hcode:=p.code_len hp
 have hsl:=p.sels_len hp
 obtain ⟨hp1,hp2,hp3,hp4⟩:=hp
 have hs1:=hs.vars
 have hs2:=hs.owner
 have hs3:=hs.chans
 have hs5:=hs.gos
 have hsz:=hok.sizes
 unfold Ze at hsz
 have hmx:256≤maxLen:=by decide
 have hg6:0≤x.go∧x.go<6:=by omega
 have hgi:=hw.gos x.go hg.1 hg.2
 obtain ⟨hf0,hf1,hpc0,hpc1,h8⟩:=hgi
 have hgi:=hw.gos x.go hg.1 hg.2
 have hrt:QV p (p.funcs.getD (s.gos.getD x.go.toNat default).func.toNat default) (QA p s x.go)=0:=hw.right hok hg.1 hg.2
 have htl:(touch p s x.go).length≤6:=QA8 p s x.go (fun h=>by
  have hI:=V0 hrt (hw.op_at hok hg.1 hg.2 h (by decide))
  exact (hok.short (s.gos.getD x.go.toNat default).func.toNat (QA p s x.go).a.toNat (by omega)).2)
 refine Ctr.body ok Go.Proofs.Tryz.func129 rfl rfl 69 rfl [.cell 8 48] rfl (by simp [QE]) ?_
 simp only [go_sem,Nat.reduceAdd]
 repeat' first
  | ((with_reducible refine SARA.told 9 5 ?_)
     rw [Qr Access.v l (by omega)])
  | ((with_reducible first|refine Q2 fun R1 hR1=>?_|refine qR fun R1 hR1=>?_|refine qQ fun R1 hR1=>?_|refine qP fun R1 hR1=>?_);(simp only [go_sem,seval,-List.reduceReplicate,ZY,Event.at7,U9]);(repeat' with_reducible refine And.intro ?_ ?_);all_goals first|(refine hR1 _ ?_;clear hR1 R1)|((first|refine cq (cc (Z2 p s x.go hpp hs hg6 hgi)) ?_|refine cq (cc (Wo p s x.go hpp hs hg6 hgi)) ?_|refine ce (cf (xU p s x.go hpp hr hw hg) ?_));all_goals ((try simp only [go_sem,seval,-List.reduceReplicate,ZY,Event.at7,U9]);(repeat' with_reducible refine And.intro ?_ ?_);all_goals first|(refine hR1 _ ?_;clear hR1 R1)|exact Xk))|exact Xk)
  | ((with_reducible refine SART.doneAt 2 ?_);refine hR _ ?_;clear hR R;try simp only [go_sem,QBX,Nat.reduceBEq]
     exact Qq rfl)
  | ((with_reducible first|refine qO ?_|refine Q1 ?_);refine hR _ ?_;clear hR R;try simp only [go_sem,QBX,Nat.reduceBEq])
  | (with_reducible first|refine qN ?_ ?_|exact qM|refine qL ?_ ?_)
  | (with_reducible first|refine J1 ?_|refine J2 ?_|refine J3 ?_|refine J4 ?_|refine J5 ?_|refine J6 ?_|refine J7 ?_|refine J8 (by decide) ?_|refine J9 ?_|refine WL ?_|refine Q0 ?_|refine Qz ?_|refine YZ ?_|refine WK ?_)
  | ((with_reducible refine QZ 6 ?_)
     obtain ⟨l,hl⟩:∃ l,l=touch p s x.go:=⟨_,rfl⟩
     rw [← hl] at htl
     rw [← hl]
     (with_reducible refine rg QBX fun R hR=>?_);simp only [go_sem,QC])
  | ((with_reducible refine QZ 9 ?_)
     have hk6:k<6:=by omega
     (with_reducible refine rg QBX fun R hR=>?_);simp only [go_sem,QC])
  | ((with_reducible refine QZ 2 ?_)
     refine J35 ok QN (.take 0 (.take 1 (.take 2 (.take 3 (.take 4 (.take 5 (.take 6 (.take 7 (.take 8 (.take 9 (.take 10 (.take 11 (.take 12 (.take 13 (.take 14 (.take 15 (.take 16 (.take 17 (.take 19 (.take 20 (.take 21 (.br 18 (.take 22 (.br 23 (.br 24 .done .nil) .nil)) (.br 23 (.br 18 (.take 22 (.br 24 .done .nil)) .nil) .nil))))))))))))))))))))))) [24] QBX (by kernel_rfl) ({ tm:=[(4,true,.ptr 0 [] 26),(5,true,.ptr 1 [] 37),(6,true,.ptr 2 [] 39),(8,true,.ptr 3 [] 48),(9,true,.ptr 4 [] 129),(10,true,.ptr 5 [] 48)],ob:=[.var 26 (.data 26 p.v),.var 37 (.data 37 s.v),.var 39 (.data 39 x.v),.var 48 (.data 48 zeroEvent.v),.var 129 (.data 129 (QA p s x.go).v),.var 48 (.data 48 (Event.v (QC6 p s x val 0 (qA [] 0))))],out:=[],nt:=69 }) (fun R hR=>?_) ?_;simp only [go_sem,QC])
  | ((with_reducible refine rg QBX fun R hR=>?_);simp only [go_sem,QC])
  | ((with_reducible refine QH 43 rfl (fun hb43=>?_) fun hb43=>?_);all_goals (try simp [-List.getD_eq_getElem?_getD] at hb43;try (exfalso;omega)))
  | ((with_reducible refine QH 55 rfl (fun hb55=>?_) fun hb55=>?_);all_goals (try simp [-List.getD_eq_getElem?_getD] at hb55;try (exfalso;omega)))
  | ((with_reducible refine YQ ?_)
     refine Zo (Qq (by first|(rw [show QA9 p s x=(QA p s x.go).n from if_pos hb43];rfl)|(rw [show QA9 p s x=0 from if_neg hb43];rfl)|fail)) (YR (fun n τ=>∃ (k:Nat),n=l.length-k∧(k≤l.length)∧τ={ tm:=[(8,true,.ptr 3 [] 48),(10,true,.ptr 5 [] 48),(11,true,.sl 6 45 0 l.length false),(12,true,.int .i64 k)],ob:=[.var 26 (.data 26 p.v),.var 37 (.data 37 s.v),.var 39 (.data 39 x.v),.var 48 (.data 48 zeroEvent.v),.var 129 (.data 129 (QA p s x.go).v),.var 48 (.data 48 (Event.v (QC6 p s x val (QA9 p s x) (qA l k)))),.row 45 (l.map Access.v)],out:=[],nt:=69 }) (l.length) ⟨0,rfl,by omega,rfl⟩ ?_)
     rintro n τ ⟨k,hn,hk,rfl⟩)
  | ((with_reducible refine WM ?_)
     first
      | (have hw:=QD (n:=k) (m:=6) (by omega) (by decide)
         have e:=wP l hk6
         refine Zt (l.length-(k+1)) _ (by omega) (Qq ?_) ⟨k+1,rfl,by omega,rfl⟩
         simp only [hw,QC6,e]))
  | ((with_reducible first|refine ZH ?_|refine ZG ?_)
     simp only [go_sem,QJ,QK,QG,seval]
     have e:k=l.length:=by omega
     subst e
     subst hl
     exact ⟨rfl,congrArg (fun e:Event=>some e.v) (show _=event p s x val from rfl)⟩)
end Go.Eng.Tryz
namespace Go.Eng.Tryz
open Go.RowKit Go.Eng
set_option maxHeartbeats 0
set_option maxRecDepth 20000
theorem x4:tab.zero 27=.agg ((List.replicate 8 (0:Int)).map V.int):=rfl
def vp:List (List Nat):=[[3,4,5,6,8,9],[3,4,5,6,8,9,10],[3,4,5,6,8,9,10,11],[3,4,5,6,8,9,10,11,25],[4,5,6,8,9,10,11],[4,5,6,8,9,10,11],[4,5,6,8,9,11],[8,9],[3,4,5,8,9,10,11,12],[3,4,5,8,9,10,11,12,58],[8,9],[3,4,5,8,9,10,11,12],[3,4,5,8,9,12,13],[3,4,5,8,9,12,13,82],[8,9,12,13],[8,9]]
end Go.Eng.Tryz
