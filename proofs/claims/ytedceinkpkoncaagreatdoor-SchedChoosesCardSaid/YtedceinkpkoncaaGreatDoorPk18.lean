/- A part of the proof: walks through the program's functions, and what they compute. -/
import Derived.Test.YtedceinkpkoncaaGreatDoorPk17
set_option linter.unusedSimpArgs false
set_option linter.unusedVariables false
namespace Go.Eng.Tryz
open Go.RowKit Go.Eng
set_option maxHeartbeats 0
set_option maxRecDepth 20000
theorem QCp (p:Prg) (s:Stt) (g:Int) (hg:0≤g∧g<6) (hs5:s.gos.length=6) (fuel:Int) (t:Int) (ht:0≤t) (x:Instr) (hx:VarsIn x) {o8:Obj} {o0 o1 o2 o3 o4 o5 o6:Obj} {tm:Tm} {out:List Tm} {nt:Nat} {K:St→E→Prop} (h:∀ a b:Obj,K { tm:=tm,ob:=o0::o1::o2::o3::o4::o5::o6::.var 133 (.data 133 (machD p g fuel (ZK ⟨s,0,0,t⟩ g x)))::[o8,a,b],out:=out,nt:=nt } (.bool (decide (50≤x.op∧x.op≤57)))):CallE Go.Proofs.Tryz.prog tab { tm:=tm,ob:=o0::o1::o2::o3::o4::o5::o6::.var 133 (.data 133 (machV p s g fuel 0 false))::[o8],out:=out,nt:=nt } 112 [.ptr 7 [] 133,.data 129 x.v] K:=by
 have hg1:IntKind.i64.wrap (g+1)=g+1:=Q4 (by omega) (by omega)
 refine CallE.body ok Go.Proofs.Tryz.func112 rfl rfl 223 rfl [.tmp 4] rfl (by simp) ?_
 simp only [enter,Zl,Nat.zero_add,Nat.reduceAdd]
 repeat' first
  | ((with_reducible first|refine Q2 fun R1 hR1=>?_|refine xP fun R1 hR1=>?_|refine qR fun R1 hR1=>?_|refine qQ fun R1 hR1=>?_|refine qP fun R1 hR1=>?_);(simp only [go_sem,seval,-List.reduceReplicate,Bool.cond_false_right,Bool.cond_true_left,List.getElem?_cons_succ,List.getElem?_cons_zero,List.set_cons_succ,List.set_cons_zero,machV.s1,machV.s4,machV.s5,machV.v0,machV.v1,machV.v2,machV.v3,machV.v4,machV.v5,Zs,ZC,List.set_set,Chn.put0,Chn.put1,Chn.put2,Chn.put3,Chn.put4,Chn.put5,Stt.put0,Stt.put1,Stt.put2,Stt.put3,Stt.put4,hg1]);(repeat' with_reducible refine And.intro ?_ ?_);all_goals first|(refine hR1 _ ?_;clear hR1 R1)|((first|refine ⟨_,_,rfl,.inr (Xy p _ g hg (by first|exact hs5|(simpa using hs5)|(rw [YT];exact hs5)|(rw [Y8];exact hs5)) fuel _ _ _ ?_)⟩|refine ⟨_,_,rfl,.inr (zO p _ g hg (by first|exact hs5|(simpa using hs5)|(rw [YT];exact hs5)|(rw [Y8];exact hs5)) fuel _ _ _ _ (by omega) ?_)⟩|refine ⟨_,_,rfl,_,CallQ.ctr ok (XQ _) (by first|rfl|(simp [go_sem];done)|fail) rfl,?_⟩|refine cq (cc (XQ _)) ?_|refine ⟨_,_,rfl,.inl ⟨_,Vi p _ g hg fuel _ _ rfl,?_⟩⟩);all_goals ((try simp only [go_sem,seval,-List.reduceReplicate,Bool.cond_false_right,Bool.cond_true_left,List.getElem?_cons_succ,List.getElem?_cons_zero,List.set_cons_succ,List.set_cons_zero,machV.s1,machV.s4,machV.s5,machV.v0,machV.v1,machV.v2,machV.v3,machV.v4,machV.v5,Zs,ZC,List.set_set,Chn.put0,Chn.put1,Chn.put2,Chn.put3,Chn.put4,Chn.put5,Stt.put0,Stt.put1,Stt.put2,Stt.put3,Stt.put4,hg1]);(repeat' with_reducible refine And.intro ?_ ?_);all_goals first|(refine hR1 _ ?_;clear hR1 R1)|exact ZQ))|exact ZQ)
  | ((with_reducible first|refine qO ?_|refine Q1 ?_|refine xO ?_);refine hR _ ?_;clear hR R;try simp only [go_sem,WD,Nat.reduceBEq])
  | (with_reducible first|refine qN ?_ ?_|exact qM|refine qL ?_ ?_)
  | (with_reducible first|refine J1 ?_|refine J2 ?_|refine J3 ?_|refine J4 ?_|refine J5 ?_|refine J6 ?_|refine J7 ?_|refine J8 (by decide) ?_|refine J9 ?_|refine Q0 ?_|refine Qz ?_|refine YZ ?_)
  | ((with_reducible refine QZ 8 ?_)
     have hI:=hx.i51 hb34
     (with_reducible refine rg WD fun R hR=>?_);simp only [go_sem,QC])
  | ((with_reducible refine QZ 11 ?_)
     have hI:=hx.i52 hb54
     (with_reducible refine rg WD fun R hR=>?_);simp only [go_sem,QC])
  | ((with_reducible refine QZ 20 ?_)
     have hI:=hx.i54 hb135
     (with_reducible refine rg WD fun R hR=>?_);simp only [go_sem,QC])
  | ((with_reducible refine QZ 24 ?_)
     have hI:=hx.i55 (.inr hb158)
     (with_reducible refine Vv ok QN (by kernel_rfl) (by kernel_rfl) WD ?_);intro R hR;simp only [go_sem,QC])
  | ((with_reducible refine QZ 5 ?_)
     have hI:=hx.i50 hb13
     refine WJ ok QN (.take 0 (.take 1 (.take 2 (.take 3 (.take 4 (.take 5 (.take 6 (.take 7 (.take 8 (.take 9 (.take 10 (.br 11 .done .nil)))))))))))) [11] WD (by kernel_rfl) (fun R hR=>?_);simp only [go_sem,QC])
  | ((with_reducible refine QZ 6 ?_)
     refine WJ ok QN (.take 0 (.take 1 (.take 2 (.take 3 (.take 4 (.take 5 (.take 6 (.br 7 .done .nil)))))))) [7] WD (by kernel_rfl) (fun R hR=>?_);simp only [go_sem,QC])
  | ((with_reducible refine QZ 9 ?_)
     refine WJ ok QN (.take 0 (.take 1 (.take 2 (.take 3 (.take 4 (.take 5 (.take 6 (.take 7 (.take 8 (.take 9 (.take 10 (.br 11 .done .nil)))))))))))) [11] WD (by kernel_rfl) (fun R hR=>?_);simp only [go_sem,QC])
  | ((with_reducible refine QZ 12 ?_)
     refine WJ ok QN (.take 0 (.take 1 (.take 2 (.take 3 (.take 4 (.take 5 (.take 6 (.take 7 (.take 8 (.take 9 (.take 10 (.br 11 .done .nil)))))))))))) [11] WD (by kernel_rfl) (fun R hR=>?_);simp only [go_sem,QC])
  | ((with_reducible refine QZ 13 ?_)
     refine WJ ok QN (.take 0 (.take 1 (.take 2 (.take 3 (.take 4 (.take 5 (.take 6 (.take 7 (.take 8 (.take 9 (.take 10 (.take 11 (.take 12 (.take 13 (.take 14 (.take 15 (.take 16 (.br 17 .done .nil)))))))))))))))))) [17] WD (by kernel_rfl) (fun R hR=>?_);simp only [go_sem,QC])
  | ((with_reducible refine QZ 15 ?_)
     have hI:=hx.i53 hb92
     refine WJ ok QN (.take 0 (.take 1 (.take 2 (.take 3 (.take 4 (.take 5 (.take 6 (.take 7 (.take 8 (.take 9 (.take 10 (.take 11 (.take 12 (.take 13 (.br 14 (.take 15 (.take 16 (.br 17 .done .nil))) .nil))))))))))))))) [17] WD (by kernel_rfl) (fun R hR=>?_);simp only [go_sem,QC])
  | ((with_reducible refine QZ 17 ?_)
     refine WJ ok QN (.take 0 (.take 1 (.take 2 (.take 3 (.take 4 (.take 5 (.take 6 (.take 7 (.take 8 (.take 9 (.take 10 (.br 11 .done .nil)))))))))))) [11] WD (by kernel_rfl) (fun R hR=>?_);simp only [go_sem,QC])
  | ((with_reducible refine QZ 18 ?_)
     refine WJ ok QN (.take 0 (.take 1 (.take 2 (.take 3 (.take 4 (.take 5 (.take 6 (.br 7 .done .nil)))))))) [7] WD (by kernel_rfl) (fun R hR=>?_);simp only [go_sem,QC])
  | ((with_reducible refine QZ 22 ?_)
     have hI:=hx.i55 (.inl hb144)
     refine WJ ok QN (.take 0 (.take 1 (.take 2 (.take 3 (.take 4 (.take 5 (.take 6 (.take 7 (.take 8 (.take 9 (.take 10 (.take 11 (.br 12 .done .nil))))))))))))) [12] WD (by kernel_rfl) (fun R hR=>?_);simp only [go_sem,QC])
  | ((with_reducible refine QZ 27 ?_)
     refine WJ ok QN (.take 0 (.take 1 (.take 2 (.take 3 (.take 4 (.take 5 (.take 6 (.br 7 .done .nil)))))))) [7] WD (by kernel_rfl) (fun R hR=>?_);simp only [go_sem,QC])
  | ((with_reducible refine QZ 29 ?_)
     have hI:=hx.i57 hb183
     refine WJ ok QN (.take 0 (.take 1 (.take 2 (.take 3 (.take 4 (.take 5 (.take 6 (.take 7 (.take 8 (.take 9 (.br 10 (.take 11 (.take 12 (.br 13 .done .nil))) .nil))))))))))) [13] WD (by kernel_rfl) (fun R hR=>?_);simp only [go_sem,QC])
  | ((with_reducible refine QZ 31 ?_)
     refine WJ ok QN (.take 0 (.take 1 (.take 2 (.take 3 (.take 4 (.take 5 (.take 6 (.take 7 (.take 8 (.take 9 (.take 10 (.take 11 (.br 12 .done .nil))))))))))))) [12] WD (by kernel_rfl) (fun R hR=>?_);simp only [go_sem,QC])
  | ((with_reducible refine QZ 32 ?_)
     refine WJ ok QN (.take 0 (.take 1 (.take 2 (.take 3 (.take 4 (.take 5 (.take 6 (.br 7 .done .nil)))))))) [7] WD (by kernel_rfl) (fun R hR=>?_);simp only [go_sem,QC])
  | ((with_reducible refine rg WD fun R hR=>?_);simp only [go_sem,QC])
  | ((with_reducible refine Vv ok QN (by kernel_rfl) (by kernel_rfl) WD ?_);intro R hR;simp only [go_sem,QC])
  | ((with_reducible refine QH 13 rfl (fun hb13=>?_) fun hb13=>?_);all_goals (try simp [-List.getD_eq_getElem?_getD] at hb13;try (exfalso;omega)))
  | ((with_reducible refine QH 34 rfl (fun hb34=>?_) fun hb34=>?_);all_goals (try simp [-List.getD_eq_getElem?_getD] at hb34;try (exfalso;omega)))
  | ((with_reducible refine QH 54 rfl (fun hb54=>?_) fun hb54=>?_);all_goals (try simp [-List.getD_eq_getElem?_getD] at hb54;try (exfalso;omega)))
  | ((with_reducible refine QH 92 rfl (fun hb92=>?_) fun hb92=>?_);all_goals (try simp [-List.getD_eq_getElem?_getD] at hb92;try (exfalso;omega)))
  | ((with_reducible refine QH 115 rfl (fun hb115=>?_) fun hb115=>?_);all_goals (try simp [-List.getD_eq_getElem?_getD] at hb115;try (exfalso;omega)))
  | ((with_reducible refine QH 135 rfl (fun hb135=>?_) fun hb135=>?_);all_goals (try simp [-List.getD_eq_getElem?_getD] at hb135;try (exfalso;omega)))
  | ((with_reducible refine QH 144 rfl (fun hb144=>?_) fun hb144=>?_);all_goals (try simp [-List.getD_eq_getElem?_getD] at hb144;try (exfalso;omega)))
  | ((with_reducible refine QH 158 rfl (fun hb158=>?_) fun hb158=>?_);all_goals (try simp [-List.getD_eq_getElem?_getD] at hb158;try (exfalso;omega)))
  | ((with_reducible refine QH 173 rfl (fun hb173=>?_) fun hb173=>?_);all_goals (try simp [-List.getD_eq_getElem?_getD] at hb173;try (exfalso;omega)))
  | ((with_reducible refine QH 183 rfl (fun hb183=>?_) fun hb183=>?_);all_goals (try simp [-List.getD_eq_getElem?_getD] at hb183;try (exfalso;omega)))
  | ((with_reducible refine QH 202 rfl (fun hb202=>?_) fun hb202=>?_);all_goals (try simp [-List.getD_eq_getElem?_getD] at hb202;try (exfalso;omega)))
  | ((with_reducible first|refine xS ?_|refine xR ?_)
     simp only [go_sem,QJ,QK,QG,seval]
     first
      | (have q:x.op=50:=hb13
         have e:=QSI (s:=s) (g:=g) (t:=t) hb13
         simp only [e,ZR ht,show decide (50≤x.op∧x.op≤57)=true from decide_eq_true (by omega)] at h
         exact h _ _)
      | (have q:x.op=51:=hb34
         have e:=QSH (s:=s) (g:=g) (t:=t) hb34
         simp only [e,ZR ht,show decide (50≤x.op∧x.op≤57)=true from decide_eq_true (by omega)] at h
         exact h _ _)
      | (have q:x.op=52:=hb54
         have e:=QSG (s:=s) (g:=g) (t:=t) hb54
         simp only [e,ZR ht,show decide (50≤x.op∧x.op≤57)=true from decide_eq_true (by omega)] at h
         exact h _ _)
      | (have q:x.op=53:=hb92
         have q2:XL _=1:=hb115
         have e:=QSF (s:=s) (g:=g) (t:=t) hb92 hb115
         simp only [e,ZR ht,show decide (50≤x.op∧x.op≤57)=true from decide_eq_true (by omega)] at h
         exact h _ _)
      | (have q:x.op=53:=hb92
         have q2:¬_:=hb115
         have e:=QQr (s:=s) (g:=g) (t:=t) hb92 hb115
         simp only [e,ZR ht,show decide (50≤x.op∧x.op≤57)=true from decide_eq_true (by omega)] at h
         exact h _ _)
      | (have q:x.op=54:=hb135
         have e:=QSE (s:=s) (g:=g) (t:=t) hb135
         simp only [e,ZR ht,show decide (50≤x.op∧x.op≤57)=true from decide_eq_true (by omega)] at h
         exact h _ _)
      | (have q:x.op=55:=hb144
         have e:=QSD (s:=s) (g:=g) (t:=t) hb144
         simp only [e,ZR ht,show decide (50≤x.op∧x.op≤57)=true from decide_eq_true (by omega)] at h
         exact h _ _)
      | (have q:x.op=56:=hb158
         have q2:¬_:=hb173
         have e:=QQq (s:=s) (g:=g) (t:=t) hb158 hb173
         simp only [e,Wi (show (6:Int)≠0 by decide),show decide (50≤x.op∧x.op≤57)=true from decide_eq_true (by omega)] at h
         exact h _ _)
      | (have q:x.op=56:=hb158
         have q2:_=_:=hb173
         have e:=QSC (s:=s) (g:=g) (t:=t) hb158 hb173
         simp only [e,ZR ht,show decide (50≤x.op∧x.op≤57)=true from decide_eq_true (by omega)] at h
         exact h _ _)
      | (have q:x.op=57:=hb183
         have q2:XL _=1:=hb202
         have e:=QSB (s:=s) (g:=g) (t:=t) hb183 hb202
         simp only [e,ZR ht,show decide (50≤x.op∧x.op≤57)=true from decide_eq_true (by omega)] at h
         exact h _ _)
      | (have q:x.op=57:=hb183
         have q2:¬_:=hb202
         have e:=QQp (s:=s) (g:=g) (t:=t) hb183 hb202
         simp only [e,ZR ht,show decide (50≤x.op∧x.op≤57)=true from decide_eq_true (by omega)] at h
         exact h _ _)
      | (have q:¬x.op=57:=hb183
         have e:=QFO (s:=s) (g:=g) (t:=t) (x:=x) (by omega)
         simp only [e,ZR ht,show decide (50≤x.op∧x.op≤57)=false from decide_eq_false (by omega)] at h
         exact h _ _))
def QBZ:List (List Nat):=[[0,2,4],[0,2,4,12],[6],[0,7],[0,7,21],[7],[0,7],[7],[6]]
theorem QCr (p:Prg) (s:Stt) (g:Int) (hg:0≤g∧g<6) (hs:s.Shape) (fuel:Int) (q:Sel) (alt:Int) (hp:p.Fit) (h4:p.chans.length≤4) (hq:q.cases.length≤4) (ha:0≤alt∧alt≤q.cases.length) (hc:QMx p q) (hok:alt<q.cases.length→XX p s (q.cases.getD alt.toNat default)=true) (hels:alt=q.cases.length→0≤q.els) (hch:QGb p s) {o8 o9 oa ob:Obj} {o0 o1 o2 o3 o4 o5 o6:Obj} {tm:Tm} {out:List Tm} {nt:Nat} {K:St→E→Prop} (h:∀ ys:List Obj,K { tm:=tm,ob:=o0::o1::o2::o3::o4::o5::o6::.var 133 (.data 133 (machD p g fuel (zz p s g q alt)))::o8::o9::oa::ob::ys,out:=out,nt:=nt } (.int .i64 (if alt=q.cases.length then q.els else (q.cases.getD alt.toNat default).to_))):CallE Go.Proofs.Tryz.prog tab { tm:=tm,ob:=o0::o1::o2::o3::o4::o5::o6::.var 133 (.data 133 (machV p s g fuel 0 false))::[o8,o9,oa,ob],out:=out,nt:=nt } 119 [.ptr 7 [] 133,.data 124 q.v,.int .i64 alt] K:=by
 have hs5:=hs.gos
 have hs3:=hs.chans
 have hmx:256≤maxLen:=by decide
 refine CallE.body ok Go.Proofs.Tryz.func119 rfl rfl 48 rfl [.tmp 6] rfl (by simp) ?_
 simp only [enter,Zl,Nat.zero_add,Nat.reduceAdd]
 repeat' first
  | ((with_reducible refine SARA.told 3 4 ?_)
     rw [Wj (by omega)])
  | ((with_reducible first|refine Q2 fun R1 hR1=>?_|refine qR fun R1 hR1=>?_|refine qQ fun R1 hR1=>?_|refine qP fun R1 hR1=>?_);(simp only [go_sem,seval,-List.reduceReplicate,Bool.cond_false_right,Bool.cond_true_left,List.getElem?_cons_succ,List.getElem?_cons_zero,List.set_cons_succ,List.set_cons_zero,machV.s1,machV.s4,machV.s5,machV.v0,machV.v1,machV.v2,machV.v3,machV.v4,machV.v5,Zs,ZC,List.set_set,Chn.put0,Chn.put1,Chn.put2,Chn.put3,Chn.put4,Chn.put5,Stt.put0,Stt.put1,Stt.put2,Stt.put3,Stt.put4]);(repeat' with_reducible refine And.intro ?_ ?_);all_goals first|(refine hR1 _ ?_;clear hR1 R1)|((first|refine ⟨_,_,rfl,.inr (Xy p _ g hg (by first|exact hs5|(simpa using hs5)|(rw [YT];exact hs5)|(rw [Y8];exact hs5)) fuel _ _ _ ?_)⟩|refine ⟨_,_,rfl,.inr (zO p _ g hg (by first|exact hs5|(simpa using hs5)|(rw [YT];exact hs5)|(rw [Y8];exact hs5)) fuel _ _ _ _ (by omega) ?_)⟩|refine cq (cc (XQ _)) ?_|refine ⟨_,_,rfl,.inl ⟨_,Vi p _ g hg fuel _ _ rfl,?_⟩⟩|refine ⟨_,_,rfl,.inr (vm p _ g hg hs fuel 0 0 _ _ _ hp hcc.1 h4 hcc.2.2.2 hrm ?_)⟩|refine ⟨_,_,rfl,.inr (vn p _ g hg hs fuel _ _ _ ⟨hcc.1.1,by omega⟩ ⟨hcl.1.1,by omega⟩ hcl.2.2 ?_)⟩);all_goals ((try simp only [go_sem,seval,-List.reduceReplicate,Bool.cond_false_right,Bool.cond_true_left,List.getElem?_cons_succ,List.getElem?_cons_zero,List.set_cons_succ,List.set_cons_zero,machV.s1,machV.s4,machV.s5,machV.v0,machV.v1,machV.v2,machV.v3,machV.v4,machV.v5,Zs,ZC,List.set_set,Chn.put0,Chn.put1,Chn.put2,Chn.put3,Chn.put4,Chn.put5,Stt.put0,Stt.put1,Stt.put2,Stt.put3,Stt.put4]);(repeat' with_reducible refine And.intro ?_ ?_);all_goals first|(refine hR1 _ ?_;clear hR1 R1)|exact ZQ))|exact ZQ)
  | ((with_reducible first|refine qO ?_|refine Q1 ?_);refine hR _ ?_;clear hR R;try simp only [go_sem,QBZ,Nat.reduceBEq])
  | (with_reducible first|refine qN ?_ ?_|exact qM|refine qL ?_ ?_)
  | (with_reducible first|refine J1 ?_|refine J2 ?_|refine J3 ?_|refine Q0 ?_|refine Qz ?_)
  | ((with_reducible refine QZ 6 ?_)
     have hlt:alt<q.cases.length:=by omega
     have hcc:=hc alt.toNat (by omega)
     have hcl:=hch (q.cases.getD alt.toNat default).chan.toNat (by omega)
     (with_reducible refine rg QBZ fun R hR=>?_);simp only [go_sem,QC])
  | ((with_reducible refine QZ 3 ?_)
     have hlt:alt<q.cases.length:=by omega
     (with_reducible refine rg QBZ fun R hR=>?_);simp only [go_sem,QC])
  | ((with_reducible refine QZ 5 ?_)
     have hlt:alt<q.cases.length:=by omega
     have hcc:=hc alt.toNat (by omega)
     have hcl:=hch (q.cases.getD alt.toNat default).chan.toNat (by omega)
     have hsn:XF p s (q.cases.getD alt.toNat default).chan=true:=by
      have h:=hok hlt
      unfold XX at h
      rw [hb21] at h
      exact h
     have hrm:(s.chans.getD (q.cases.getD alt.toNat default).chan.toNat default).closed=false→0<p.chans.getD (q.cases.getD alt.toNat default).chan.toNat 0→0≤(s.chans.getD (q.cases.getD alt.toNat default).chan.toNat default).len∧(s.chans.getD (q.cases.getD alt.toNat default).chan.toNat default).len<4:=fun h1 h2=>⟨hcl.1.1,by have:=QBF hsn h1 h2;omega⟩
     have hrg:=hcc.2.2.1 hb21
     refine WJ ok QN (.take 0 (.take 1 (.take 2 (.take 3 (.take 5 (.take 6 (.br 4 (.take 7 (.take 8 (.take 9 (.take 10 (.br 11 .done .nil))))) .nil))))))) [11] QBZ (by kernel_rfl) (fun R hR=>?_);simp only [go_sem,QC])
  | ((with_reducible refine QZ 7 ?_)
     refine WJ ok QN (.take 0 (.take 1 (.take 2 (.take 3 (.take 4 (.take 5 (.take 6 (.br 7 .done .nil)))))))) [7] QBZ (by kernel_rfl) (fun R hR=>?_);simp only [go_sem,QC])
  | ((with_reducible refine rg QBZ fun R hR=>?_);simp only [go_sem,QC])
  | ((with_reducible refine QH 12 rfl (fun hb12=>?_) fun hb12=>?_);all_goals (try simp [-List.getD_eq_getElem?_getD] at hb12;try (exfalso;omega)))
  | ((with_reducible refine QH 21 rfl (fun hb21=>?_) fun hb21=>?_);all_goals (try simp [-List.getD_eq_getElem?_getD] at hb21;try (exfalso;omega)))
  | ((with_reducible first|refine xS ?_|refine xR ?_)
     simp only [go_sem,QJ,QK,QG,seval]
     first
      | (have q1:alt=_:=hb12
         have e:=QIK (s:=s) (g:=g) (p:=p) hb12
         simp only [e,ZR (hels hb12),if_pos hb12] at h
         exact h _)
      | (have q1:_=true:=hb21
         simp only [QII hb12 hb21,if_neg hb12] at h
         exact h _)
      | (have q1:_=false:=hb21
         have hlt:alt<q.cases.length:=by omega
         have hcc:=hc alt.toNat (by omega)
         simp only [QIJ hb12 hb21 (show (q.cases.getD alt.toNat default).chan.toNat<s.chans.length by omega),ZR hcc.2.2.2,if_neg hb12] at h
         exact h _))
def QBY:List (List Nat):=[[0,3],[0,3,13],[],[4],[0,3,5],[0,3,5,28,29],[0,3,5,28,29,30],[0,3,5,6,28,29],[0,3,5,28,29],[0,3,5,28,29],[0,3,5,7],[0,3,7],[0,3,7],[0,3,7],[7],[4]]
theorem QEA (p:Prg) (s:Stt) (g:Int) (hg:0≤g∧g<6) (hs5:s.gos.length=6) (fuel:Int) (hct:0≤s.count∧s.count≤6) (t:Int) (ht:0≤t) (x:Instr) (hp:p.Fit) (ha:x.a<8) (hb:0≤x.b∧x.b<p.funcs.length) (hpr:0≤(p.fn x.b).params∧(p.fn x.b).params≤8) (hc:0<(p.fn x.b).params→0≤x.c∧x.c+(p.fn x.b).params≤8) {o8 o9 oa ob:Obj} {o0 o1 o2 o3 o4 o5 o6:Obj} {tm:Tm} {out:List Tm} {nt:Nat} {K:St→E→Prop} (h:∀ ys:List Obj,K { tm:=tm,ob:=o0::o1::o2::o3::o4::o5::o6::.var 133 (.data 133 (machD p g fuel (YO p ⟨s,0,0,t⟩ g x)))::o8::o9::oa::ob::ys,out:=out,nt:=nt } (.int .i64 (if s.count=6 then -1 else s.count))):CallE Go.Proofs.Tryz.prog tab { tm:=tm,ob:=o0::o1::o2::o3::o4::o5::o6::.var 133 (.data 133 (machV p s g fuel 0 false))::[o8,o9,oa,ob],out:=out,nt:=nt } 120 [.ptr 7 [] 133,.data 129 x.v] K:=by
 have hpp:=hp
 obtain ⟨hp1,hp2,hp3,hp4⟩:=hp
 have hfn:p.fn x.b=p.funcs.getD x.b.toNat default:=rfl
 rw [hfn] at hpr hc
 have hcw:IntKind.i64.wrap (s.count+1)=s.count+1:=Q4 (by omega) (by omega)
 have hsg:∀ X:Gor,(List.map Gor.v s.gos).set s.count.toNat X.v=List.map Gor.v (s.gos.set s.count.toNat X):=fun X=>Wy _ _ _
 refine CallE.body ok Go.Proofs.Tryz.func120 rfl rfl 80 rfl [.tmp 4] rfl (by simp) ?_
 simp only [enter,Zl,Nat.zero_add,Nat.reduceAdd]
 repeat' first
  | ((with_reducible refine SARQ.told 5 8 ?_)
     rw [XB (by omega)])
  | ((with_reducible refine SART.told 8 6 ?_)
     rw [hwc])
  | ((with_reducible first|refine Q2 fun R1 hR1=>?_|refine xP fun R1 hR1=>?_|refine qR fun R1 hR1=>?_|refine qQ fun R1 hR1=>?_|refine qP fun R1 hR1=>?_);(simp only [go_sem,seval,-List.reduceReplicate,Bool.cond_false_right,Bool.cond_true_left,List.getElem?_cons_succ,List.getElem?_cons_zero,List.set_cons_succ,List.set_cons_zero,machV.s1,machV.s4,machV.s5,machV.v0,machV.v1,machV.v2,machV.v3,machV.v4,machV.v5,Zs,ZC,List.set_set,Chn.put0,Chn.put1,Chn.put2,Chn.put3,Chn.put4,Chn.put5,Stt.put0,Stt.put1,Stt.put2,Stt.put3,Stt.put4,hcw,hsg]);(repeat' with_reducible refine And.intro ?_ ?_);all_goals first|(refine hR1 _ ?_;clear hR1 R1)|((first|refine ⟨_,_,rfl,.inr (Xy p _ g hg (by first|exact hs5|(simpa using hs5)|(rw [YT];exact hs5)|(rw [Y8];exact hs5)) fuel _ _ _ ?_)⟩|refine ⟨_,_,rfl,.inr (zO p _ g hg (by first|exact hs5|(simpa using hs5)|(rw [YT];exact hs5)|(rw [Y8];exact hs5)) fuel _ _ _ _ (by omega) ?_)⟩|refine ⟨_,_,rfl,_,CallQ.ctr ok (XQ _) (by first|rfl|(simp [go_sem];done)|fail) rfl,?_⟩|refine cq (cc (XQ _)) ?_|refine ⟨_,_,rfl,.inl ⟨_,Vi p _ g hg fuel _ _ rfl,?_⟩⟩);all_goals ((try simp only [go_sem,seval,-List.reduceReplicate,Bool.cond_false_right,Bool.cond_true_left,List.getElem?_cons_succ,List.getElem?_cons_zero,List.set_cons_succ,List.set_cons_zero,machV.s1,machV.s4,machV.s5,machV.v0,machV.v1,machV.v2,machV.v3,machV.v4,machV.v5,Zs,ZC,List.set_set,Chn.put0,Chn.put1,Chn.put2,Chn.put3,Chn.put4,Chn.put5,Stt.put0,Stt.put1,Stt.put2,Stt.put3,Stt.put4,hcw,hsg]);(repeat' with_reducible refine And.intro ?_ ?_);all_goals first|(refine hR1 _ ?_;clear hR1 R1)|exact ZQ))|exact ZQ)
  | ((with_reducible first|refine qO ?_|refine Q1 ?_|refine xO ?_);refine hR _ ?_;clear hR R;try simp only [go_sem,QBY,Nat.reduceBEq])
  | (with_reducible first|refine qN ?_ ?_|exact qM|refine qL ?_ ?_)
  | (with_reducible first|refine J1 ?_|refine J2 ?_|refine J3 ?_|refine J4 ?_|refine J5 ?_|refine J6 ?_|refine J7 ?_|refine J8 (by decide) ?_|refine J9 ?_|refine WL ?_|refine Q0 ?_|refine Qz ?_|refine YZ ?_|refine WK ?_)
  | ((with_reducible refine QZ 8 ?_)
     have hlt:(i:Int)<(p.funcs.getD x.b.toNat default).params:=by omega
     have hcc:=hc (by omega)
     have hwc:IntKind.i64.wrap (x.c+(i:Int))=x.c+(i:Int):=Q4 (by omega) (by omega)
     refine WJ ok QN (.take 0 (.take 1 (.take 3 (.take 4 (.take 5 (.take 6 (.take 11 (.br 2 (.take 7 (.take 8 (.take 9 (.take 10 (.take 12 (.br 13 .done .nil)))))) .nil)))))))) [13] QBY (by kernel_rfl) (fun R hR=>?_);simp only [go_sem,QC])
  | ((with_reducible refine QZ 11 ?_)
     refine WJ ok QN (.take 0 (.take 1 (.take 2 (.take 3 (.take 4 (.take 5 (.take 6 (.br 7 .done .nil)))))))) [7] QBY (by kernel_rfl) (fun R hR=>?_);simp only [go_sem,QC])
  | ((with_reducible refine QZ 14 ?_)
     refine WJ ok QN (.take 0 (.take 1 (.take 2 (.take 3 (.take 4 (.take 5 (.take 6 (.br 7 .done .nil)))))))) [7] QBY (by kernel_rfl) (fun R hR=>?_);simp only [go_sem,QC])
  | ((with_reducible refine rg QBY fun R hR=>?_);simp only [go_sem,QC])
  | ((with_reducible refine Vv ok QN (by kernel_rfl) (by kernel_rfl) QBY ?_);intro R hR;simp only [go_sem,QC])
  | ((with_reducible refine QH 13 rfl (fun hb13=>?_) fun hb13=>?_);all_goals (try simp [-List.getD_eq_getElem?_getD] at hb13;try (exfalso;omega)))
  | ((with_reducible refine SA.cond rfl ?_ ?_)
     all_goals
      intro hb
      try simp [-List.getD_eq_getElem?_getD] at hb
      try (exfalso;omega))
  | ((with_reducible refine YQ ?_)
     refine Zo (Qq (by (rw [QDF];rfl))) (YR (fun n τ=>∃ (i:Nat),n=(p.funcs.getD x.b.toNat default).params.toNat-i∧((i:Int)≤(p.funcs.getD x.b.toNat default).params)∧τ={ tm:=[(0,true,.ptr 7 [] 133),(3,true,.ptr 12 [] 129),(5,true,.ptr 13 [] 34),(28,true,.int .i64 (p.funcs.getD x.b.toNat default).params),(29,true,.int .i64 i)],ob:=o0::o1::o2::o3::o4::o5::o6::.var 133 (.data 133 (machV p s g fuel 0 false))::[o8,o9,oa,ob,.var 129 (.data 129 x.v),.var 34 (.data 34 (zV s g x i).v)],out:=tm::out,nt:=80 }) ((p.funcs.getD x.b.toNat default).params.toNat) ⟨0,rfl,by omega,rfl⟩ ?_)
     rintro n τ ⟨i,hn,hi,rfl⟩)
  | ((with_reducible refine WM ?_)
     first
      | (have hlt:(i:Int)<(p.funcs.getD x.b.toNat default).params:=by omega
         have hw:=QD (n:=i) (m:=256) (by omega) (by decide)
         have e:=QDG (s:=s) (g:=g) (x:=x) (n:=i)
         refine Zt ((p.funcs.getD x.b.toNat default).params.toNat-(i+1)) _ (by omega) (Qq (by simp only [hw];unfold zV;rw [← e])) ⟨i+1,rfl,by omega,rfl⟩))
  | ((with_reducible first|refine xS ?_|refine xR ?_)
     simp only [go_sem,QJ,QK,QG,seval]
     first
      | (have q:s.count=6:=hb13
         simp only [QBC (show 6≤s.count by omega),Wi (show (8:Int)≠0 by decide),if_pos hb13] at h
         exact h _)
      | (have q:¬s.count=6:=hb13
         have e:i=(p.fn x.b).params.toNat:=by rw [hfn];omega
         subst e
         simp only [QBD (show ¬6≤s.count by omega),ZR ht,if_neg hb13] at h
         exact h _))
end Go.Eng.Tryz
namespace Go.Eng.Tryz
open Go.RowKit Go.Eng
set_option maxHeartbeats 0
set_option maxRecDepth 20000
def yr:List (List Nat):=[[0,2,4],[0,2,4,6,7],[0,2,4,6,7,18],[6,7],[0,2,4,6,7,8],[0,2,4,6,7,8,27],[0,2,4,6,7,8,27,28],[6,7],[0,2,4,6,7,8,27,38],[0,4,6,7,9],[0,4,6,7,9],[6,7],[0,2,4,6,7,8,27,58],[6,7],[0,2,4,6,7,8,27,64],[6,7],[0,2,4,6,7,8,27,70],[6,7],[0,4,6,7,8,27,92],[6,7],[0,4,6,7,8,27,97],[0,6,7],[0,6,7,119],[6,7],[0,4,6,7,8,122],[6,7],[6,7]]
end Go.Eng.Tryz
