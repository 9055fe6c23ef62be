/- A part of the proof: walks through the program's functions, and what they compute. -/
import Derived.Test.YtmonhjagbhpbeaaGreatDoorPk17
set_option linter.unusedSimpArgs false
set_option linter.unusedVariables false
namespace Go.Eng.Tryz
open Go.RowKit Go.Eng
set_option maxHeartbeats 0
set_option maxRecDepth 20000
theorem QEK (p:Prg) (s:Stt) (g:Int) (hg:0≤g∧g<6) (hs5:s.gos.length=6) (fuel:Int) (t:Int) (ht:0≤t) (x:Instr) (hx:VarsIn x) {o8:Obj} {o0 o1 o2 o3 o4 o5 o6:Obj} {tm:Tm} {out:List Tm} {nt:Nat} {K:St→E→Prop} (h:∀ a b:Obj,K { tm:=tm,ob:=o0::o1::o2::o3::o4::o5::o6::.var 203 (.data 203 (machD p g fuel (ZB ⟨s,0,0,t⟩ g x)))::[o8,a,b],out:=out,nt:=nt } (.bool (decide (50≤x.op∧x.op≤57)))):CallE Go.Proofs.Tryz.prog tab { tm:=tm,ob:=o0::o1::o2::o3::o4::o5::o6::.var 203 (.data 203 (machV p s g fuel 0 false))::[o8],out:=out,nt:=nt } 156 [.ptr 7 [] 203,.data 104 x.v] K:=by
 have hg1:IntKind.i64.wrap (g+1)=g+1:=Qm (by omega) (by omega)
 refine CallE.body ok Go.Proofs.Tryz.func156 rfl rfl 223 rfl [.tmp 4] rfl (by simp) ?_
 simp only [enter,Zf,Nat.zero_add,Nat.reduceAdd]
 repeat' first
  | ((with_reducible first|refine Q5 fun R1 hR1=>?_|refine yb fun R1 hR1=>?_|refine qz fun R1 hR1=>?_|refine qy fun R1 hR1=>?_|refine qx fun R1 hR1=>?_);(simp only [go_sem,seval,-List.reduceReplicate,Bool.cond_false_right,Bool.cond_true_left,List.getElem?_cons_succ,List.getElem?_cons_zero,List.set_cons_succ,List.set_cons_zero,machV.s1,machV.s4,machV.s5,machV.v0,machV.v1,machV.v2,machV.v3,machV.v4,machV.v5,Z5,ZK,List.set_set,Chn.put0,Chn.put1,Chn.put2,Chn.put3,Chn.put4,Chn.put5,Stt.put0,Stt.put1,Stt.put2,Stt.put3,Stt.put4,hg1]);(repeat' with_reducible refine And.intro ?_ ?_);all_goals first|(refine hR1 _ ?_;clear hR1 R1)|((first|refine ⟨_,_,rfl,.inr (WI p _ g hg (by first|exact hs5|(simpa using hs5)|(rw [Yl];exact hs5)|(rw [XJ];exact hs5)) fuel _ _ _ ?_)⟩|refine ⟨_,_,rfl,.inr (yM p _ g hg (by first|exact hs5|(simpa using hs5)|(rw [Yl];exact hs5)|(rw [XJ];exact hs5)) fuel _ _ _ _ (by omega) ?_)⟩|refine V4 (cc (Xe _)) ?_|refine cq (cc (Xe _)) ?_|refine ⟨_,_,rfl,.inl ⟨_,V0 p _ g hg fuel _ _ rfl,?_⟩⟩);all_goals ((try simp only [go_sem,seval,-List.reduceReplicate,Bool.cond_false_right,Bool.cond_true_left,List.getElem?_cons_succ,List.getElem?_cons_zero,List.set_cons_succ,List.set_cons_zero,machV.s1,machV.s4,machV.s5,machV.v0,machV.v1,machV.v2,machV.v3,machV.v4,machV.v5,Z5,ZK,List.set_set,Chn.put0,Chn.put1,Chn.put2,Chn.put3,Chn.put4,Chn.put5,Stt.put0,Stt.put1,Stt.put2,Stt.put3,Stt.put4,hg1]);(repeat' with_reducible refine And.intro ?_ ?_);all_goals first|(refine hR1 _ ?_;clear hR1 R1)|exact Zp))|exact Zp)
  | ((with_reducible first|refine qw ?_|refine Q4 ?_|refine ya ?_);refine hR _ ?_;clear hR R;try simp only [go_sem,WO,Nat.reduceBEq])
  | (with_reducible first|refine qv ?_ ?_|exact qu|refine qt ?_ ?_)
  | (with_reducible first|refine J1 ?_|refine J2 ?_|refine J3 ?_|refine J4 ?_|refine J5 ?_|refine J6 ?_|refine J7 ?_|refine J8 (by decide) ?_|refine J9 ?_|refine Q2 ?_|refine Q1 ?_|refine Yc ?_)
  | ((with_reducible refine Qe 8 ?_)
     have hI:=hx.i51 hb34
     (with_reducible refine rg WO fun R hR=>?_);simp only [go_sem,QC])
  | ((with_reducible refine Qe 11 ?_)
     have hI:=hx.i52 hb54
     (with_reducible refine rg WO fun R hR=>?_);simp only [go_sem,QC])
  | ((with_reducible refine Qe 20 ?_)
     have hI:=hx.i54 hb135
     (with_reducible refine rg WO fun R hR=>?_);simp only [go_sem,QC])
  | ((with_reducible refine Qe 24 ?_)
     have hI:=hx.i55 (.inr hb158)
     (with_reducible refine Ve ok QQ (by kernel_rfl) (by kernel_rfl) WO ?_);intro R hR;simp only [go_sem,QC])
  | ((with_reducible refine Qe 5 ?_)
     have hI:=hx.i50 hb13
     refine WT ok QQ (.take 0 (.take 1 (.take 2 (.take 3 (.take 4 (.take 5 (.take 6 (.take 7 (.take 8 (.take 9 (.take 10 (.br 11 .done .nil)))))))))))) [11] WO (by kernel_rfl) (fun R hR=>?_);simp only [go_sem,QC])
  | ((with_reducible refine Qe 6 ?_)
     refine WT ok QQ (.take 0 (.take 1 (.take 2 (.take 3 (.take 4 (.take 5 (.take 6 (.br 7 .done .nil)))))))) [7] WO (by kernel_rfl) (fun R hR=>?_);simp only [go_sem,QC])
  | ((with_reducible refine Qe 9 ?_)
     refine WT ok QQ (.take 0 (.take 1 (.take 2 (.take 3 (.take 4 (.take 5 (.take 6 (.take 7 (.take 8 (.take 9 (.take 10 (.br 11 .done .nil)))))))))))) [11] WO (by kernel_rfl) (fun R hR=>?_);simp only [go_sem,QC])
  | ((with_reducible refine Qe 12 ?_)
     refine WT ok QQ (.take 0 (.take 1 (.take 2 (.take 3 (.take 4 (.take 5 (.take 6 (.take 7 (.take 8 (.take 9 (.take 10 (.br 11 .done .nil)))))))))))) [11] WO (by kernel_rfl) (fun R hR=>?_);simp only [go_sem,QC])
  | ((with_reducible refine Qe 13 ?_)
     refine WT ok QQ (.take 0 (.take 1 (.take 2 (.take 3 (.take 4 (.take 5 (.take 6 (.take 7 (.take 8 (.take 9 (.take 10 (.take 11 (.take 12 (.take 13 (.take 14 (.take 15 (.take 16 (.br 17 .done .nil)))))))))))))))))) [17] WO (by kernel_rfl) (fun R hR=>?_);simp only [go_sem,QC])
  | ((with_reducible refine Qe 15 ?_)
     have hI:=hx.i53 hb92
     refine WT ok QQ (.take 0 (.take 1 (.take 2 (.take 3 (.take 4 (.take 5 (.take 6 (.take 7 (.take 8 (.take 9 (.take 10 (.take 11 (.take 12 (.take 13 (.br 14 (.take 15 (.take 16 (.br 17 .done .nil))) .nil))))))))))))))) [17] WO (by kernel_rfl) (fun R hR=>?_);simp only [go_sem,QC])
  | ((with_reducible refine Qe 17 ?_)
     refine WT ok QQ (.take 0 (.take 1 (.take 2 (.take 3 (.take 4 (.take 5 (.take 6 (.take 7 (.take 8 (.take 9 (.take 10 (.br 11 .done .nil)))))))))))) [11] WO (by kernel_rfl) (fun R hR=>?_);simp only [go_sem,QC])
  | ((with_reducible refine Qe 18 ?_)
     refine WT ok QQ (.take 0 (.take 1 (.take 2 (.take 3 (.take 4 (.take 5 (.take 6 (.br 7 .done .nil)))))))) [7] WO (by kernel_rfl) (fun R hR=>?_);simp only [go_sem,QC])
  | ((with_reducible refine Qe 22 ?_)
     have hI:=hx.i55 (.inl hb144)
     refine WT ok QQ (.take 0 (.take 1 (.take 2 (.take 3 (.take 4 (.take 5 (.take 6 (.take 7 (.take 8 (.take 9 (.take 10 (.take 11 (.br 12 .done .nil))))))))))))) [12] WO (by kernel_rfl) (fun R hR=>?_);simp only [go_sem,QC])
  | ((with_reducible refine Qe 27 ?_)
     refine WT ok QQ (.take 0 (.take 1 (.take 2 (.take 3 (.take 4 (.take 5 (.take 6 (.br 7 .done .nil)))))))) [7] WO (by kernel_rfl) (fun R hR=>?_);simp only [go_sem,QC])
  | ((with_reducible refine Qe 29 ?_)
     have hI:=hx.i57 hb183
     refine WT ok QQ (.take 0 (.take 1 (.take 2 (.take 3 (.take 4 (.take 5 (.take 6 (.take 7 (.take 8 (.take 9 (.br 10 (.take 11 (.take 12 (.br 13 .done .nil))) .nil))))))))))) [13] WO (by kernel_rfl) (fun R hR=>?_);simp only [go_sem,QC])
  | ((with_reducible refine Qe 31 ?_)
     refine WT ok QQ (.take 0 (.take 1 (.take 2 (.take 3 (.take 4 (.take 5 (.take 6 (.take 7 (.take 8 (.take 9 (.take 10 (.take 11 (.br 12 .done .nil))))))))))))) [12] WO (by kernel_rfl) (fun R hR=>?_);simp only [go_sem,QC])
  | ((with_reducible refine Qe 32 ?_)
     refine WT ok QQ (.take 0 (.take 1 (.take 2 (.take 3 (.take 4 (.take 5 (.take 6 (.br 7 .done .nil)))))))) [7] WO (by kernel_rfl) (fun R hR=>?_);simp only [go_sem,QC])
  | ((with_reducible refine rg WO fun R hR=>?_);simp only [go_sem,QC])
  | ((with_reducible refine Ve ok QQ (by kernel_rfl) (by kernel_rfl) WO ?_);intro R hR;simp only [go_sem,QC])
  | ((with_reducible refine QI 13 rfl (fun hb13=>?_) fun hb13=>?_);all_goals (try simp [-List.getD_eq_getElem?_getD] at hb13;try (exfalso;omega)))
  | ((with_reducible refine QI 34 rfl (fun hb34=>?_) fun hb34=>?_);all_goals (try simp [-List.getD_eq_getElem?_getD] at hb34;try (exfalso;omega)))
  | ((with_reducible refine QI 54 rfl (fun hb54=>?_) fun hb54=>?_);all_goals (try simp [-List.getD_eq_getElem?_getD] at hb54;try (exfalso;omega)))
  | ((with_reducible refine QI 92 rfl (fun hb92=>?_) fun hb92=>?_);all_goals (try simp [-List.getD_eq_getElem?_getD] at hb92;try (exfalso;omega)))
  | ((with_reducible refine QI 115 rfl (fun hb115=>?_) fun hb115=>?_);all_goals (try simp [-List.getD_eq_getElem?_getD] at hb115;try (exfalso;omega)))
  | ((with_reducible refine QI 135 rfl (fun hb135=>?_) fun hb135=>?_);all_goals (try simp [-List.getD_eq_getElem?_getD] at hb135;try (exfalso;omega)))
  | ((with_reducible refine QI 144 rfl (fun hb144=>?_) fun hb144=>?_);all_goals (try simp [-List.getD_eq_getElem?_getD] at hb144;try (exfalso;omega)))
  | ((with_reducible refine QI 158 rfl (fun hb158=>?_) fun hb158=>?_);all_goals (try simp [-List.getD_eq_getElem?_getD] at hb158;try (exfalso;omega)))
  | ((with_reducible refine QI 173 rfl (fun hb173=>?_) fun hb173=>?_);all_goals (try simp [-List.getD_eq_getElem?_getD] at hb173;try (exfalso;omega)))
  | ((with_reducible refine QI 183 rfl (fun hb183=>?_) fun hb183=>?_);all_goals (try simp [-List.getD_eq_getElem?_getD] at hb183;try (exfalso;omega)))
  | ((with_reducible refine QI 202 rfl (fun hb202=>?_) fun hb202=>?_);all_goals (try simp [-List.getD_eq_getElem?_getD] at hb202;try (exfalso;omega)))
  | ((with_reducible first|refine xQ ?_|refine xP ?_)
     simp only [go_sem,QL,QM,QH,seval]
     first
      | (have q:x.op=50:=hb13
         have e:=QVY (s:=s) (g:=g) (t:=t) hb13
         simp only [e,ZW ht,show decide (50≤x.op∧x.op≤57)=true from decide_eq_true (by omega)] at h
         exact h _ _)
      | (have q:x.op=51:=hb34
         have e:=QVX (s:=s) (g:=g) (t:=t) hb34
         simp only [e,ZW ht,show decide (50≤x.op∧x.op≤57)=true from decide_eq_true (by omega)] at h
         exact h _ _)
      | (have q:x.op=52:=hb54
         have e:=QVW (s:=s) (g:=g) (t:=t) hb54
         simp only [e,ZW ht,show decide (50≤x.op∧x.op≤57)=true from decide_eq_true (by omega)] at h
         exact h _ _)
      | (have q:x.op=53:=hb92
         have q2:XY _=1:=hb115
         have e:=QVV (s:=s) (g:=g) (t:=t) hb92 hb115
         simp only [e,ZW ht,show decide (50≤x.op∧x.op≤57)=true from decide_eq_true (by omega)] at h
         exact h _ _)
      | (have q:x.op=53:=hb92
         have q2:¬_:=hb115
         have e:=QTv (s:=s) (g:=g) (t:=t) hb92 hb115
         simp only [e,ZW ht,show decide (50≤x.op∧x.op≤57)=true from decide_eq_true (by omega)] at h
         exact h _ _)
      | (have q:x.op=54:=hb135
         have e:=QVU (s:=s) (g:=g) (t:=t) hb135
         simp only [e,ZW ht,show decide (50≤x.op∧x.op≤57)=true from decide_eq_true (by omega)] at h
         exact h _ _)
      | (have q:x.op=55:=hb144
         have e:=QVT (s:=s) (g:=g) (t:=t) hb144
         simp only [e,ZW ht,show decide (50≤x.op∧x.op≤57)=true from decide_eq_true (by omega)] at h
         exact h _ _)
      | (have q:x.op=56:=hb158
         have q2:¬_:=hb173
         have e:=QTu (s:=s) (g:=g) (t:=t) hb158 hb173
         simp only [e,Wo (show (6:Int)≠0 by decide),show decide (50≤x.op∧x.op≤57)=true from decide_eq_true (by omega)] at h
         exact h _ _)
      | (have q:x.op=56:=hb158
         have q2:_=_:=hb173
         have e:=QVS (s:=s) (g:=g) (t:=t) hb158 hb173
         simp only [e,ZW ht,show decide (50≤x.op∧x.op≤57)=true from decide_eq_true (by omega)] at h
         exact h _ _)
      | (have q:x.op=57:=hb183
         have q2:XY _=1:=hb202
         have e:=QVR (s:=s) (g:=g) (t:=t) hb183 hb202
         simp only [e,ZW ht,show decide (50≤x.op∧x.op≤57)=true from decide_eq_true (by omega)] at h
         exact h _ _)
      | (have q:x.op=57:=hb183
         have q2:¬_:=hb202
         have e:=QTt (s:=s) (g:=g) (t:=t) hb183 hb202
         simp only [e,ZW ht,show decide (50≤x.op∧x.op≤57)=true from decide_eq_true (by omega)] at h
         exact h _ _)
      | (have q:¬x.op=57:=hb183
         have e:=QGx (s:=s) (g:=g) (t:=t) (x:=x) (by omega)
         simp only [e,ZW ht,show decide (50≤x.op∧x.op≤57)=false from decide_eq_false (by omega)] at h
         exact h _ _))
def QCz:List (List Nat):=[[0,2,4],[0,2,4,12],[6],[0,7],[0,7,21],[7],[0,7],[7],[6]]
theorem QEM (p:Prg) (s:Stt) (g:Int) (hg:0≤g∧g<6) (hs:s.Shape) (fuel:Int) (q:Sel) (alt:Int) (hp:p.Fit) (h4:p.chans.length≤4) (hq:q.cases.length≤4) (ha:0≤alt∧alt≤q.cases.length) (hc:QPQ p q) (hok:alt<q.cases.length→XQ p s (q.cases.getD alt.toNat default)=true) (hels:alt=q.cases.length→0≤q.els) (hch:QIQ p s) {o8 o9 oa ob:Obj} {o0 o1 o2 o3 o4 o5 o6:Obj} {tm:Tm} {out:List Tm} {nt:Nat} {K:St→E→Prop} (h:∀ ys:List Obj,K { tm:=tm,ob:=o0::o1::o2::o3::o4::o5::o6::.var 203 (.data 203 (machD p g fuel (yy p s g q alt)))::o8::o9::oa::ob::ys,out:=out,nt:=nt } (.int .i64 (if alt=q.cases.length then q.els else (q.cases.getD alt.toNat default).to_))):CallE Go.Proofs.Tryz.prog tab { tm:=tm,ob:=o0::o1::o2::o3::o4::o5::o6::.var 203 (.data 203 (machV p s g fuel 0 false))::[o8,o9,oa,ob],out:=out,nt:=nt } 163 [.ptr 7 [] 203,.data 173 q.v,.int .i64 alt] K:=by
 have hs5:=hs.gos
 have hs3:=hs.chans
 have hmx:256≤maxLen:=by decide
 refine CallE.body ok Go.Proofs.Tryz.func163 rfl rfl 48 rfl [.tmp 6] rfl (by simp) ?_
 simp only [enter,Zf,Nat.zero_add,Nat.reduceAdd]
 repeat' first
  | ((with_reducible refine SARA.told 3 4 ?_)
     rw [Wq (by omega)])
  | ((with_reducible first|refine Q5 fun R1 hR1=>?_|refine qz fun R1 hR1=>?_|refine qy fun R1 hR1=>?_|refine qx fun R1 hR1=>?_);(simp only [go_sem,seval,-List.reduceReplicate,Bool.cond_false_right,Bool.cond_true_left,List.getElem?_cons_succ,List.getElem?_cons_zero,List.set_cons_succ,List.set_cons_zero,machV.s1,machV.s4,machV.s5,machV.v0,machV.v1,machV.v2,machV.v3,machV.v4,machV.v5,Z5,ZK,List.set_set,Chn.put0,Chn.put1,Chn.put2,Chn.put3,Chn.put4,Chn.put5,Stt.put0,Stt.put1,Stt.put2,Stt.put3,Stt.put4]);(repeat' with_reducible refine And.intro ?_ ?_);all_goals first|(refine hR1 _ ?_;clear hR1 R1)|((first|refine ⟨_,_,rfl,.inr (WI p _ g hg (by first|exact hs5|(simpa using hs5)|(rw [Yl];exact hs5)|(rw [XJ];exact hs5)) fuel _ _ _ ?_)⟩|refine ⟨_,_,rfl,.inr (yM p _ g hg (by first|exact hs5|(simpa using hs5)|(rw [Yl];exact hs5)|(rw [XJ];exact hs5)) fuel _ _ _ _ (by omega) ?_)⟩|refine cq (cc (Xe _)) ?_|refine ⟨_,_,rfl,.inl ⟨_,V0 p _ g hg fuel _ _ rfl,?_⟩⟩|refine ⟨_,_,rfl,.inr (QBF p _ g hg hs fuel 0 0 _ _ _ hp hcc.1 h4 hcc.2.2.2 hrm ?_)⟩|refine ⟨_,_,rfl,.inr (QBG p _ g hg hs fuel _ _ _ ⟨hcc.1.1,by omega⟩ ⟨hcl.1.1,by omega⟩ hcl.2.2 ?_)⟩);all_goals ((try simp only [go_sem,seval,-List.reduceReplicate,Bool.cond_false_right,Bool.cond_true_left,List.getElem?_cons_succ,List.getElem?_cons_zero,List.set_cons_succ,List.set_cons_zero,machV.s1,machV.s4,machV.s5,machV.v0,machV.v1,machV.v2,machV.v3,machV.v4,machV.v5,Z5,ZK,List.set_set,Chn.put0,Chn.put1,Chn.put2,Chn.put3,Chn.put4,Chn.put5,Stt.put0,Stt.put1,Stt.put2,Stt.put3,Stt.put4]);(repeat' with_reducible refine And.intro ?_ ?_);all_goals first|(refine hR1 _ ?_;clear hR1 R1)|exact Zp))|exact Zp)
  | ((with_reducible first|refine qw ?_|refine Q4 ?_);refine hR _ ?_;clear hR R;try simp only [go_sem,QCz,Nat.reduceBEq])
  | (with_reducible first|refine qv ?_ ?_|exact qu|refine qt ?_ ?_)
  | (with_reducible first|refine J1 ?_|refine J2 ?_|refine J3 ?_|refine Q2 ?_|refine Q1 ?_)
  | ((with_reducible refine Qe 6 ?_)
     have hlt:alt<q.cases.length:=by omega
     have hcc:=hc alt.toNat (by omega)
     have hcl:=hch (q.cases.getD alt.toNat default).chan.toNat (by omega)
     (with_reducible refine rg QCz fun R hR=>?_);simp only [go_sem,QC])
  | ((with_reducible refine Qe 3 ?_)
     have hlt:alt<q.cases.length:=by omega
     (with_reducible refine rg QCz fun R hR=>?_);simp only [go_sem,QC])
  | ((with_reducible refine Qe 5 ?_)
     have hlt:alt<q.cases.length:=by omega
     have hcc:=hc alt.toNat (by omega)
     have hcl:=hch (q.cases.getD alt.toNat default).chan.toNat (by omega)
     have hsn:Ys p s (q.cases.getD alt.toNat default).chan=true:=by
      have h:=hok hlt
      unfold XQ at h
      rw [hb21] at h
      exact h
     have hrm:(s.chans.getD (q.cases.getD alt.toNat default).chan.toNat default).closed=false→0<p.chans.getD (q.cases.getD alt.toNat default).chan.toNat 0→0≤(s.chans.getD (q.cases.getD alt.toNat default).chan.toNat default).len∧(s.chans.getD (q.cases.getD alt.toNat default).chan.toNat default).len<4:=fun h1 h2=>⟨hcl.1.1,by have:=QCi hsn h1 h2;omega⟩
     have hrg:=hcc.2.2.1 hb21
     refine WT ok QQ (.take 0 (.take 1 (.take 2 (.take 3 (.take 5 (.take 6 (.br 4 (.take 7 (.take 8 (.take 9 (.take 10 (.br 11 .done .nil))))) .nil))))))) [11] QCz (by kernel_rfl) (fun R hR=>?_);simp only [go_sem,QC])
  | ((with_reducible refine Qe 7 ?_)
     refine WT ok QQ (.take 0 (.take 1 (.take 2 (.take 3 (.take 4 (.take 5 (.take 6 (.br 7 .done .nil)))))))) [7] QCz (by kernel_rfl) (fun R hR=>?_);simp only [go_sem,QC])
  | ((with_reducible refine rg QCz fun R hR=>?_);simp only [go_sem,QC])
  | ((with_reducible refine QI 12 rfl (fun hb12=>?_) fun hb12=>?_);all_goals (try simp [-List.getD_eq_getElem?_getD] at hb12;try (exfalso;omega)))
  | ((with_reducible refine QI 21 rfl (fun hb21=>?_) fun hb21=>?_);all_goals (try simp [-List.getD_eq_getElem?_getD] at hb21;try (exfalso;omega)))
  | ((with_reducible first|refine xQ ?_|refine xP ?_)
     simp only [go_sem,QL,QM,QH,seval]
     first
      | (have q1:alt=_:=hb12
         have e:=QKX (s:=s) (g:=g) (p:=p) hb12
         simp only [e,ZW (hels hb12),if_pos hb12] at h
         exact h _)
      | (have q1:_=true:=hb21
         simp only [QKV hb12 hb21,if_neg hb12] at h
         exact h _)
      | (have q1:_=false:=hb21
         have hlt:alt<q.cases.length:=by omega
         have hcc:=hc alt.toNat (by omega)
         simp only [QKW hb12 hb21 (show (q.cases.getD alt.toNat default).chan.toNat<s.chans.length by omega),ZW hcc.2.2.2,if_neg hb12] at h
         exact h _))
def QCy:List (List Nat):=[[0,3],[0,3,13],[],[4],[0,3,5],[0,3,5,28,29],[0,3,5,28,29,30],[0,3,5,6,28,29],[0,3,5,28,29],[0,3,5,28,29],[0,3,5,7],[0,3,7],[0,3,7],[0,3,7],[7],[4]]
theorem QFT (p:Prg) (s:Stt) (g:Int) (hg:0≤g∧g<6) (hs5:s.gos.length=6) (fuel:Int) (hct:0≤s.count∧s.count≤6) (t:Int) (ht:0≤t) (x:Instr) (hp:p.Fit) (ha:x.a<8) (hb:0≤x.b∧x.b<p.funcs.length) (hpr:0≤(p.fn x.b).params∧(p.fn x.b).params≤8) (hc:0<(p.fn x.b).params→0≤x.c∧x.c+(p.fn x.b).params≤8) {o8 o9 oa ob:Obj} {o0 o1 o2 o3 o4 o5 o6:Obj} {tm:Tm} {out:List Tm} {nt:Nat} {K:St→E→Prop} (h:∀ ys:List Obj,K { tm:=tm,ob:=o0::o1::o2::o3::o4::o5::o6::.var 203 (.data 203 (machD p g fuel (Zo p ⟨s,0,0,t⟩ g x)))::o8::o9::oa::ob::ys,out:=out,nt:=nt } (.int .i64 (if s.count=6 then -1 else s.count))):CallE Go.Proofs.Tryz.prog tab { tm:=tm,ob:=o0::o1::o2::o3::o4::o5::o6::.var 203 (.data 203 (machV p s g fuel 0 false))::[o8,o9,oa,ob],out:=out,nt:=nt } 164 [.ptr 7 [] 203,.data 104 x.v] K:=by
 have hpp:=hp
 obtain ⟨hp1,hp2,hp3,hp4⟩:=hp
 have hfn:p.fn x.b=p.funcs.getD x.b.toNat default:=rfl
 rw [hfn] at hpr hc
 have hcw:IntKind.i64.wrap (s.count+1)=s.count+1:=Qm (by omega) (by omega)
 have hsg:∀ X:Gor,(List.map Gor.v s.gos).set s.count.toNat X.v=List.map Gor.v (s.gos.set s.count.toNat X):=fun X=>VA _ _ _
 refine CallE.body ok Go.Proofs.Tryz.func164 rfl rfl 80 rfl [.tmp 4] rfl (by simp) ?_
 simp only [enter,Zf,Nat.zero_add,Nat.reduceAdd]
 repeat' first
  | ((with_reducible refine SARQ.told 5 8 ?_)
     rw [XM (by omega)])
  | ((with_reducible refine SART.told 8 6 ?_)
     rw [hwc])
  | ((with_reducible first|refine Q5 fun R1 hR1=>?_|refine yb fun R1 hR1=>?_|refine qz fun R1 hR1=>?_|refine qy fun R1 hR1=>?_|refine qx fun R1 hR1=>?_);(simp only [go_sem,seval,-List.reduceReplicate,Bool.cond_false_right,Bool.cond_true_left,List.getElem?_cons_succ,List.getElem?_cons_zero,List.set_cons_succ,List.set_cons_zero,machV.s1,machV.s4,machV.s5,machV.v0,machV.v1,machV.v2,machV.v3,machV.v4,machV.v5,Z5,ZK,List.set_set,Chn.put0,Chn.put1,Chn.put2,Chn.put3,Chn.put4,Chn.put5,Stt.put0,Stt.put1,Stt.put2,Stt.put3,Stt.put4,hcw,hsg]);(repeat' with_reducible refine And.intro ?_ ?_);all_goals first|(refine hR1 _ ?_;clear hR1 R1)|((first|refine ⟨_,_,rfl,.inr (WI p _ g hg (by first|exact hs5|(simpa using hs5)|(rw [Yl];exact hs5)|(rw [XJ];exact hs5)) fuel _ _ _ ?_)⟩|refine ⟨_,_,rfl,.inr (yM p _ g hg (by first|exact hs5|(simpa using hs5)|(rw [Yl];exact hs5)|(rw [XJ];exact hs5)) fuel _ _ _ _ (by omega) ?_)⟩|refine V4 (cc (Xe _)) ?_|refine cq (cc (Xe _)) ?_|refine ⟨_,_,rfl,.inl ⟨_,V0 p _ g hg fuel _ _ rfl,?_⟩⟩);all_goals ((try simp only [go_sem,seval,-List.reduceReplicate,Bool.cond_false_right,Bool.cond_true_left,List.getElem?_cons_succ,List.getElem?_cons_zero,List.set_cons_succ,List.set_cons_zero,machV.s1,machV.s4,machV.s5,machV.v0,machV.v1,machV.v2,machV.v3,machV.v4,machV.v5,Z5,ZK,List.set_set,Chn.put0,Chn.put1,Chn.put2,Chn.put3,Chn.put4,Chn.put5,Stt.put0,Stt.put1,Stt.put2,Stt.put3,Stt.put4,hcw,hsg]);(repeat' with_reducible refine And.intro ?_ ?_);all_goals first|(refine hR1 _ ?_;clear hR1 R1)|exact Zp))|exact Zp)
  | ((with_reducible first|refine qw ?_|refine Q4 ?_|refine ya ?_);refine hR _ ?_;clear hR R;try simp only [go_sem,QCy,Nat.reduceBEq])
  | (with_reducible first|refine qv ?_ ?_|exact qu|refine qt ?_ ?_)
  | (with_reducible first|refine J1 ?_|refine J2 ?_|refine J3 ?_|refine J4 ?_|refine J5 ?_|refine J6 ?_|refine J7 ?_|refine J8 (by decide) ?_|refine J9 ?_|refine Xu ?_|refine Q2 ?_|refine Q1 ?_|refine Yc ?_|refine Xt ?_)
  | ((with_reducible refine Qe 8 ?_)
     have hlt:(i:Int)<(p.funcs.getD x.b.toNat default).params:=by omega
     have hcc:=hc (by omega)
     have hwc:IntKind.i64.wrap (x.c+(i:Int))=x.c+(i:Int):=Qm (by omega) (by omega)
     refine WT ok QQ (.take 0 (.take 1 (.take 3 (.take 4 (.take 5 (.take 6 (.take 11 (.br 2 (.take 7 (.take 8 (.take 9 (.take 10 (.take 12 (.br 13 .done .nil)))))) .nil)))))))) [13] QCy (by kernel_rfl) (fun R hR=>?_);simp only [go_sem,QC])
  | ((with_reducible refine Qe 11 ?_)
     refine WT ok QQ (.take 0 (.take 1 (.take 2 (.take 3 (.take 4 (.take 5 (.take 6 (.br 7 .done .nil)))))))) [7] QCy (by kernel_rfl) (fun R hR=>?_);simp only [go_sem,QC])
  | ((with_reducible refine Qe 14 ?_)
     refine WT ok QQ (.take 0 (.take 1 (.take 2 (.take 3 (.take 4 (.take 5 (.take 6 (.br 7 .done .nil)))))))) [7] QCy (by kernel_rfl) (fun R hR=>?_);simp only [go_sem,QC])
  | ((with_reducible refine rg QCy fun R hR=>?_);simp only [go_sem,QC])
  | ((with_reducible refine Ve ok QQ (by kernel_rfl) (by kernel_rfl) QCy ?_);intro R hR;simp only [go_sem,QC])
  | ((with_reducible refine QI 13 rfl (fun hb13=>?_) fun hb13=>?_);all_goals (try simp [-List.getD_eq_getElem?_getD] at hb13;try (exfalso;omega)))
  | ((with_reducible refine SA.cond rfl ?_ ?_)
     all_goals
      intro hb
      try simp [-List.getD_eq_getElem?_getD] at hb
      try (exfalso;omega))
  | ((with_reducible refine Ya ?_)
     refine Zv (Qo (by (rw [QEg];rfl))) (Yb (fun n τ=>∃ (i:Nat),n=(p.funcs.getD x.b.toNat default).params.toNat-i∧((i:Int)≤(p.funcs.getD x.b.toNat default).params)∧τ={ tm:=[(0,true,.ptr 7 [] 203),(3,true,.ptr 12 [] 104),(5,true,.ptr 13 [] 44),(28,true,.int .i64 (p.funcs.getD x.b.toNat default).params),(29,true,.int .i64 i)],ob:=o0::o1::o2::o3::o4::o5::o6::.var 203 (.data 203 (machV p s g fuel 0 false))::[o8,o9,oa,ob,.var 104 (.data 104 x.v),.var 44 (.data 44 (yV s g x i).v)],out:=tm::out,nt:=80 }) ((p.funcs.getD x.b.toNat default).params.toNat) ⟨0,rfl,by omega,rfl⟩ ?_)
     rintro n τ ⟨i,hn,hi,rfl⟩)
  | ((with_reducible refine WC ?_)
     first
      | (have hlt:(i:Int)<(p.funcs.getD x.b.toNat default).params:=by omega
         have hw:=QD (n:=i) (m:=256) (by omega) (by decide)
         have e:=QEh (s:=s) (g:=g) (x:=x) (n:=i)
         refine Z0 ((p.funcs.getD x.b.toNat default).params.toNat-(i+1)) _ (by omega) (Qo (by simp only [hw];unfold yV;rw [← e])) ⟨i+1,rfl,by omega,rfl⟩))
  | ((with_reducible first|refine xQ ?_|refine xP ?_)
     simp only [go_sem,QL,QM,QH,seval]
     first
      | (have q:s.count=6:=hb13
         simp only [QCf (show 6≤s.count by omega),Wo (show (8:Int)≠0 by decide),if_pos hb13] at h
         exact h _)
      | (have q:¬s.count=6:=hb13
         have e:i=(p.fn x.b).params.toNat:=by rw [hfn];omega
         subst e
         simp only [QCg (show ¬6≤s.count by omega),ZW ht,if_neg hb13] at h
         exact h _))
def UJ:List (List Nat):=[[0,2,4],[0,2,4,6,7],[0,2,4,6,7,18],[6,7],[0,2,4,6,7,8],[0,2,4,6,7,8,27],[0,2,4,6,7,8,27,28],[6,7],[0,2,4,6,7,8,27,38],[0,4,6,7,9],[0,4,6,7,9],[6,7],[0,2,4,6,7,8,27,58],[6,7],[0,2,4,6,7,8,27,64],[6,7],[0,2,4,6,7,8,27,70],[6,7],[0,4,6,7,8,27,92],[6,7],[0,4,6,7,8,27,97],[0,6,7],[0,6,7,119],[6,7],[0,4,6,7,8,122],[6,7],[6,7]]
end Go.Eng.Tryz
