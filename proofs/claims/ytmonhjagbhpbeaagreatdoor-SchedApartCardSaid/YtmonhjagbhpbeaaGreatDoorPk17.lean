/- A part of the proof: walks through the program's functions, and what they compute. -/
import Derived.Test.YtmonhjagbhpbeaaGreatDoorPk16
import Derived.Deep.QuietTactic
set_option linter.unusedSimpArgs false
set_option linter.unusedVariables false
namespace Go.Eng.Tryz
open Go.RowKit Go.Eng
set_option maxHeartbeats 0
set_option maxRecDepth 20000
theorem yM (p:Prg) (s:Stt) (g:Int) (hg:0≤g∧g<6) (hs5:s.gos.length=6) (fuel val:Int) (failed:Bool) (r x:Int) (hr:r<8) {o0 o1 o2 o3 o4 o5 o6:Obj} {tm:Tm} {out:List Tm} {nt:Nat} {xs:List Obj} {K:St→E→Prop} (h:K { tm:=tm,ob:=o0::o1::o2::o3::o4::o5::o6::.var 203 (.data 203 (machV p (s.setReg g r x) g fuel val failed))::xs,out:=out,nt:=nt } (.tup [])):CallE Go.Proofs.Tryz.prog tab { tm:=tm,ob:=o0::o1::o2::o3::o4::o5::o6::.var 203 (.data 203 (machV p s g fuel val failed))::xs,out:=out,nt:=nt } 159 [.ptr 7 [] 203,.int .i64 r,.int .i64 x] K:=by
 refine CallE.body ok Go.Proofs.Tryz.func159 rfl rfl 15 rfl [] rfl (by simp) ?_
 simp only [enter,Zf,Nat.zero_add,Nat.reduceAdd]
 repeat' first
  | ((with_reducible refine Q5 fun R1 hR1=>?_);(simp only [go_sem,seval,-List.reduceReplicate,Bool.cond_false_right,Bool.cond_true_left,List.getElem?_cons_succ,List.getElem?_cons_zero,List.set_cons_succ,List.set_cons_zero,machV.s1,machV.s4,machV.s5,machV.v0,machV.v1,machV.v2,machV.v3,machV.v4,machV.v5]);(repeat' with_reducible refine And.intro ?_ ?_);all_goals first|(refine hR1 _ ?_;clear hR1 R1)|((first|refine ⟨_,_,rfl,.inr (yN p _ g hg (by first|exact hs5|simpa using hs5) fuel _ _ ?_)⟩);all_goals ((try simp only [go_sem,seval,-List.reduceReplicate,Bool.cond_false_right,Bool.cond_true_left,List.getElem?_cons_succ,List.getElem?_cons_zero,List.set_cons_succ,List.set_cons_zero,machV.s1,machV.s4,machV.s5,machV.v0,machV.v1,machV.v2,machV.v3,machV.v4,machV.v5]);(repeat' with_reducible refine And.intro ?_ ?_);all_goals first|(refine hR1 _ ?_;clear hR1 R1)|exact Zp))|exact Zp)
  | ((with_reducible refine Q4 ?_);refine hR _ ?_;clear hR R;try simp only [go_sem,QOi,Nat.reduceBEq])
  | (with_reducible first|refine J1 ?_|refine J2 ?_|refine J3 ?_|refine Q2 ?_|refine Q1 ?_)
  | ((with_reducible refine rg QOi fun R hR=>?_);simp only [go_sem,QC])
  | ((with_reducible refine QI 7 rfl (fun hb7=>?_) fun hb7=>?_);all_goals (try simp [-List.getD_eq_getElem?_getD] at hb7;try (exfalso;omega)))
  | ((with_reducible first|refine xQ ?_|refine xP ?_)
     simp only [go_sem,QL,QM,QH,seval]
     first
      | (have q:0≤r:=hb7
         have e:s.setReg g r x=_:=if_pos hb7
         rw [e] at h
         exact h)
      | (have q:r<0:=hb7
         have e:s.setReg g r x=s:=if_neg (by omega)
         rw [e] at h
         exact h))
def QLL:List (List Nat):=[[0,1,4],[0],[]]
theorem WI (p:Prg) (s:Stt) (g:Int) (hg:0≤g∧g<6) (hs5:s.gos.length=6) (fuel val:Int) (failed:Bool) (why:Int) {o0 o1 o2 o3 o4 o5 o6:Obj} {tm:Tm} {out:List Tm} {nt:Nat} {xs:List Obj} {K:St→E→Prop} (h:K { tm:=tm,ob:=o0::o1::o2::o3::o4::o5::o6::.var 203 (.data 203 (machV p (QDD s g why) g fuel 0 true))::xs,out:=out,nt:=nt } (.tup [])):CallE Go.Proofs.Tryz.prog tab { tm:=tm,ob:=o0::o1::o2::o3::o4::o5::o6::.var 203 (.data 203 (machV p s g fuel val failed))::xs,out:=out,nt:=nt } 165 [.ptr 7 [] 203,.int .i64 why] K:=by
 refine CallE.body ok Go.Proofs.Tryz.func165 rfl rfl 25 rfl [] rfl (by simp) ?_
 simp only [enter,Zf,Nat.zero_add,Nat.reduceAdd]
 repeat' first
  | ((with_reducible first|refine Q5 fun R1 hR1=>?_|refine qz fun R1 hR1=>?_|refine qy fun R1 hR1=>?_|refine qx fun R1 hR1=>?_);(simp only [go_sem,seval,-List.reduceReplicate,Bool.cond_false_right,Bool.cond_true_left,List.getElem?_cons_succ,List.getElem?_cons_zero,List.set_cons_succ,List.set_cons_zero,machV.s1,machV.s4,machV.s5,machV.v0,machV.v1,machV.v2,machV.v3,machV.v4,machV.v5]);(repeat' with_reducible refine And.intro ?_ ?_);all_goals first|(refine hR1 _ ?_;clear hR1 R1)|((first|refine ⟨_,_,rfl,.inr (yN p _ g hg (by first|exact hs5|simpa using hs5) fuel _ _ ?_)⟩);all_goals ((try simp only [go_sem,seval,-List.reduceReplicate,Bool.cond_false_right,Bool.cond_true_left,List.getElem?_cons_succ,List.getElem?_cons_zero,List.set_cons_succ,List.set_cons_zero,machV.s1,machV.s4,machV.s5,machV.v0,machV.v1,machV.v2,machV.v3,machV.v4,machV.v5]);(repeat' with_reducible refine And.intro ?_ ?_);all_goals first|(refine hR1 _ ?_;clear hR1 R1)|exact Zp))|exact Zp)
  | ((with_reducible first|refine qw ?_|refine Q4 ?_);refine hR _ ?_;clear hR R;try simp only [go_sem,QLL,Nat.reduceBEq])
  | (with_reducible first|refine qv ?_ ?_|exact qu|refine qt ?_ ?_)
  | (with_reducible first|refine J1 ?_|refine J2 ?_|refine Q2 ?_|refine Q1 ?_)
  | ((with_reducible refine Qe 1 ?_)
     refine WT ok QQ (.take 0 (.take 1 (.take 2 (.take 3 (.take 4 (.take 5 (.take 6 (.take 7 (.take 8 (.take 9 (.take 10 (.take 11 (.br 12 .done .nil))))))))))))) [12] QLL (by kernel_rfl) (fun R hR=>?_);simp only [go_sem,QC])
  | ((with_reducible refine rg QLL fun R hR=>?_);simp only [go_sem,QC])
  | ((with_reducible first|refine xQ ?_|refine xP ?_)
     simp only [go_sem,QL,QM,QH,seval]
     rw [show ((((tab.zero 44).setSub 0 (V.int 4)).setSub 1 (V.int (s.gos.getD g.toNat default).func)).setSub 2 (V.int (s.gos.getD g.toNat default).pc)).setSub 3 (V.int why)=(QPK (s.gos.getD g.toNat default) why).v from rfl,VA]
     exact h)
def QLQ:List (List Nat):=[[]]
theorem QEL (p:Prg) (s:Stt) (g:Int) (hg:0≤g∧g<6) (hs:s.Shape) (fuel val:Int) (failed:Bool) (k:Int) (hp:p.Fit) {o0 o1 o2 o3 o4 o5 o6:Obj} {tm:Tm} {out:List Tm} {nt:Nat} {xs:List Obj} {K:St→E→Prop} (h:K { tm:=tm,ob:=o0::o1::o2::o3::o4::o5::o6::.var 203 (.data 203 (machV p (QZ QB p s k fuel).1 g fuel val failed))::xs,out:=out,nt:=nt } (.tup [])):CallE Go.Proofs.Tryz.prog tab { tm:=tm,ob:=o0::o1::o2::o3::o4::o5::o6::.var 203 (.data 203 (machV p s g fuel val failed))::xs,out:=out,nt:=nt } 117 [.ptr 7 [] 203,.int .i64 k] K:=by
 have hs1:=hs.vars
 have hs2:=hs.owner
 have hs3:=hs.chans
 have hs5:=hs.gos
 refine CallE.body ok Go.Proofs.Tryz.func117 rfl rfl 24 rfl [] rfl (by simp) ?_
 simp only [enter,Zf,Nat.zero_add,Nat.reduceAdd]
 repeat' first
  | ((with_reducible first|refine qz fun R1 hR1=>?_|refine qy fun R1 hR1=>?_|refine qx fun R1 hR1=>?_);(simp only [go_sem,seval,-List.reduceReplicate,Bool.cond_false_right,Bool.cond_true_left,List.getElem?_cons_succ,List.getElem?_cons_zero,List.set_cons_succ,List.set_cons_zero,machV.s1,machV.s4,machV.s5,machV.v0,machV.v1,machV.v2,machV.v3,machV.v4,machV.v5]);(repeat' with_reducible refine And.intro ?_ ?_);all_goals first|(refine hR1 _ ?_;clear hR1 R1)|((first|refine ⟨_,_,rfl,.inr (CallB.ctr ok (QFH p s k fuel hp hs) (by first|rfl|(simp [go_sem];done)|fail) ?_)⟩);all_goals ((try simp only [go_sem,seval,-List.reduceReplicate,Bool.cond_false_right,Bool.cond_true_left,List.getElem?_cons_succ,List.getElem?_cons_zero,List.set_cons_succ,List.set_cons_zero,machV.s1,machV.s4,machV.s5,machV.v0,machV.v1,machV.v2,machV.v3,machV.v4,machV.v5]);(repeat' with_reducible refine And.intro ?_ ?_);all_goals first|(refine hR1 _ ?_;clear hR1 R1)|exact Zp))|exact Zp)
  | ((with_reducible refine SART.doneAt 0 ?_);refine hR _ ?_;clear hR R;try simp only [go_sem,QLQ,Nat.reduceBEq]
     exact Qo (by simp only [St.keep,List.filterMap_cons,List.filterMap_nil,List.lookup_cons,List.lookup_nil,Option.map_some,Option.map_none,beq_self_eq_true,Nat.reduceBEq]))
  | ((with_reducible refine qw ?_);refine hR _ ?_;clear hR R;try simp only [go_sem,QLQ,Nat.reduceBEq])
  | (with_reducible first|refine qv ?_ ?_|exact qu|refine qt ?_ ?_)
  | (with_reducible first|refine J1 ?_|refine J2 ?_|refine Q2 ?_|refine Q1 ?_)
  | ((with_reducible refine Qe 0 ?_)
     refine J35 ok QQ (.take 0 (.take 1 (.take 2 (.take 3 (.take 4 (.take 5 (.take 6 (.take 7 (.take 8 (.take 9 (.take 10 (.take 11 (.take 12 (.take 13 (.br 14 (.take 15 (.take 16 (.take 18 (.take 19 (.br 17 (.br 20 .done .nil) (.br 20 (.take 17 .done) .nil)))))) .nil))))))))))))))) [20] QLQ (by kernel_rfl) ({ tm:=[],ob:=o0::o1::o2::o3::o4::o5::o6::.var 203 (.data 203 (machV p (QZ QB p s k fuel).1 g fuel val failed))::xs,out:=tm::out,nt:=24 }) (fun R hR=>?_) ?_;simp only [go_sem,QC])
  | ((with_reducible first|refine xQ ?_|refine xP ?_)
     simp only [go_sem,QL,QM,QH,seval]
     exact h)
def QHq:List (List Nat):=[[0,1,2,6],[0,1,2,6],[0],[0],[],[0,1,2,6,38],[],[0,2,6,45],[6],[]]
theorem QBF (p:Prg) (s:Stt) (g:Int) (hg:0≤g∧g<6) (hs:s.Shape) (fuel val:Int) (v0:Int) (c x t:Int) (hp:p.Fit) (hc:0≤c∧c<p.chans.length) (h4:p.chans.length≤4) (ht:0≤t) (hroom:(s.chans.getD c.toNat default).closed=false→0<p.chans.getD c.toNat 0→0≤(s.chans.getD c.toNat default).len∧(s.chans.getD c.toNat default).len<4) {o0 o1 o2 o3 o4 o5 o6:Obj} {tm:Tm} {out:List Tm} {nt:Nat} {xs:List Obj} {K:St→E→Prop} (h:K { tm:=tm,ob:=o0::o1::o2::o3::o4::o5::o6::.var 203 (.data 203 (machD p g fuel (YD p ⟨s,v0,0,t⟩ g c x)))::xs,out:=out,nt:=nt } (.tup [])):CallE Go.Proofs.Tryz.prog tab { tm:=tm,ob:=o0::o1::o2::o3::o4::o5::o6::.var 203 (.data 203 (machV p s g fuel val false))::xs,out:=out,nt:=nt } 157 [.ptr 7 [] 203,.int .i64 c,.int .i64 x] K:=by
 have hs1:=hs.vars
 have hs2:=hs.owner
 have hs3:=hs.chans
 have hs5:=hs.gos
 have hpp:=hp
 obtain ⟨hp1,hp2,hp3,hp4⟩:=hp
 have hcl:c.toNat<s.chans.length:=by omega
 have hgc:∀ d,(s.chans.map Chn.v).getD c.toNat d=(s.chans.getD c.toNat default).v:=fun d=>Zl hcl d
 have hgs:∀ (X:Chn) d,((s.chans.set c.toNat X).map Chn.v).getD c.toNat d=X.v:=fun X d=>QAH hcl X d
 refine CallE.body ok Go.Proofs.Tryz.func157 rfl rfl 71 rfl [] rfl (by simp) ?_
 simp only [enter,Zf,Nat.zero_add,Nat.reduceAdd]
 repeat' first
  | ((with_reducible first|refine Q5 fun R1 hR1=>?_|refine qz fun R1 hR1=>?_|refine qy fun R1 hR1=>?_|refine qx fun R1 hR1=>?_);(simp only [go_sem,seval,-List.reduceReplicate,Bool.cond_false_right,Bool.cond_true_left,List.getElem?_cons_succ,List.getElem?_cons_zero,List.set_cons_succ,List.set_cons_zero,machV.s1,machV.s4,machV.s5,machV.v0,machV.v1,machV.v2,machV.v3,machV.v4,machV.v5,hgc,hgs,Z5,ZK,List.set_set,Chn.put0,Chn.put1,Chn.put2,Chn.put3,Chn.put4,Chn.put5,Stt.put0,Stt.put1,Stt.put2,Stt.put3,Stt.put4]);(repeat' with_reducible refine And.intro ?_ ?_);all_goals first|(refine hR1 _ ?_;clear hR1 R1)|((first|refine ⟨_,_,rfl,.inr (yN p _ g hg (by first|exact hs5|simpa using hs5) fuel _ _ ?_)⟩|refine ⟨_,_,rfl,.inr (WI p _ g hg (by first|exact hs5|simpa using hs5) fuel _ _ _ ?_)⟩);all_goals ((try simp only [go_sem,seval,-List.reduceReplicate,Bool.cond_false_right,Bool.cond_true_left,List.getElem?_cons_succ,List.getElem?_cons_zero,List.set_cons_succ,List.set_cons_zero,machV.s1,machV.s4,machV.s5,machV.v0,machV.v1,machV.v2,machV.v3,machV.v4,machV.v5,hgc,hgs,Z5,ZK,List.set_set,Chn.put0,Chn.put1,Chn.put2,Chn.put3,Chn.put4,Chn.put5,Stt.put0,Stt.put1,Stt.put2,Stt.put3,Stt.put4]);(repeat' with_reducible refine And.intro ?_ ?_);all_goals first|(refine hR1 _ ?_;clear hR1 R1)|exact Zp))|exact Zp)
  | ((with_reducible first|refine qw ?_|refine Q4 ?_);refine hR _ ?_;clear hR R;try simp only [go_sem,QHq,Nat.reduceBEq])
  | (with_reducible first|refine qv ?_ ?_|exact qu|refine qt ?_ ?_)
  | (with_reducible first|refine J1 ?_|refine J2 ?_|refine J4 ?_|refine J5 ?_|refine J6 ?_|refine J7 ?_|refine J8 (by decide) ?_|refine J9 ?_|refine Q2 ?_|refine Q1 ?_|refine Yc ?_)
  | ((with_reducible refine Qe 9 ?_)
     have hrm:=hroom hb38 hb45
     (with_reducible refine rg QHq fun R hR=>?_);simp only [go_sem,QC])
  | ((with_reducible refine Qe 8 ?_)
     have hrm:=hroom hb38 hb45
     refine WT ok QQ (.take 0 (.take 1 (.take 2 (.take 3 (.take 4 (.take 5 (.take 6 (.take 7 (.take 8 (.br 9 .done .nil)))))))))) [9] QHq (by kernel_rfl) (fun R hR=>?_);simp only [go_sem,QC])
  | ((with_reducible refine rg QHq fun R hR=>?_);simp only [go_sem,QC])
  | ((with_reducible refine QI 38 rfl (fun hb38=>?_) fun hb38=>?_);all_goals (try simp [-List.getD_eq_getElem?_getD] at hb38;try (exfalso;omega)))
  | ((with_reducible refine QI 45 rfl (fun hb45=>?_) fun hb45=>?_);all_goals (try simp [-List.getD_eq_getElem?_getD] at hb45;try (exfalso;omega)))
  | ((with_reducible first|refine xQ ?_|refine xP ?_)
     simp only [go_sem,QL,QM,QH,seval]
     first
      | (have q:_=true:=hb38
         have e:YD p ⟨s,v0,0,t⟩ g c x=⟨s,v0,4,t⟩:=if_pos hb38
         rw [e,Wo (show (4:Int)≠0 by decide)] at h
         exact h)
      | (have q:(0:Int)<_:=hb45
         have hrm:=hroom hb38 hb45
         have e:YD p ⟨s,v0,0,t⟩ g c x=⟨s.setChn c ⟨(s.chn c).buf.set (s.chn c).len.toNat x,(s.chn c).len+1,(s.chn c).closed,(s.chn c).offer,(s.chn c).from_,(s.chn c).val⟩,x,0,t⟩:=(if_neg (by rw [show (s.chn c).closed=false from hb38];decide)).trans (if_pos hb45)
         rw [e,ZW ht] at h
         rw [Qm (x:=(s.chans.getD c.toNat default).len+1) (by omega) (by omega)]
         exact h)
      | (have q:_≤(0:Int):=hb45
         have e:YD p ⟨s,v0,0,t⟩ g c x=⟨(s.setStatus g 2).setChn c ⟨(s.chn c).buf,(s.chn c).len,(s.chn c).closed,1,g,x⟩,x,0,-1⟩:=(if_neg (by rw [show (s.chn c).closed=false from hb38];decide)).trans (if_neg (Int.not_lt.2 hb45))
         rw [e,QGj] at h
         exact h))
def QHp:List (List Nat):=[[0,1],[0,5],[],[4],[0,5,15],[5],[5],[5],[],[0,5,53],[5],[],[4]]
theorem QBG (p:Prg) (s:Stt) (g:Int) (hg:0≤g∧g<6) (hs:s.Shape) (fuel val:Int) (failed:Bool) (c:Int) (hc:0≤c∧c<4) (hl:0≤(s.chans.getD c.toNat default).len∧(s.chans.getD c.toNat default).len≤4) (hz:∀ k:Nat,(s.chans.getD c.toNat default).len≤k→k<4→(s.chans.getD c.toNat default).buf.getD k 0=0) {o0 o1 o2 o3 o4 o5 o6:Obj} {tm:Tm} {out:List Tm} {nt:Nat} {xs:List Obj} {K:St→E→Prop} (h:K { tm:=tm,ob:=o0::o1::o2::o3::o4::o5::o6::.var 203 (.data 203 (machV p (VT s c).1 g fuel (VT s c).2.1 failed))::xs,out:=out,nt:=nt } (.bool (VT s c).2.2)):CallE Go.Proofs.Tryz.prog tab { tm:=tm,ob:=o0::o1::o2::o3::o4::o5::o6::.var 203 (.data 203 (machV p s g fuel val failed))::xs,out:=out,nt:=nt } 158 [.ptr 7 [] 203,.int .i64 c] K:=by
 have hs1:=hs.vars
 have hs2:=hs.owner
 have hs3:=hs.chans
 have hs5:=hs.gos
 have hcl:c.toNat<s.chans.length:=by omega
 have hgc:∀ d,(s.chans.map Chn.v).getD c.toNat d=(s.chans.getD c.toNat default).v:=fun d=>Zl hcl d
 have hgs:∀ (X:Chn) d,((s.chans.set c.toNat X).map Chn.v).getD c.toNat d=X.v:=fun X d=>QAH hcl X d
 have hb4:=hs.bufs _ (Qj s.chans (i:=c.toNat) (by omega))
 have hlw:IntKind.i64.wrap ((s.chans.getD c.toNat default).len-1)=(s.chans.getD c.toNat default).len-1:=Qm (by omega) (by omega)
 have hmv:=QQt hb4
 refine CallE.body ok Go.Proofs.Tryz.func158 rfl rfl 72 rfl [.tmp 4] rfl (by simp) ?_
 simp only [enter,Zf,Nat.zero_add,Nat.reduceAdd]
 repeat' first
  | ((with_reducible first|refine Q5 fun R1 hR1=>?_|refine qz fun R1 hR1=>?_|refine qy fun R1 hR1=>?_|refine qx fun R1 hR1=>?_);(simp only [go_sem,seval,-List.reduceReplicate,Bool.cond_false_right,Bool.cond_true_left,List.getElem?_cons_succ,List.getElem?_cons_zero,List.set_cons_succ,List.set_cons_zero,machV.s1,machV.s4,machV.s5,machV.v0,machV.v1,machV.v2,machV.v3,machV.v4,machV.v5,hgc,hgs,Z5,ZK,List.set_set,Chn.put0,Chn.put1,Chn.put2,Chn.put3,Chn.put4,Chn.put5,Stt.put0,Stt.put1,Stt.put2,Stt.put3,Stt.put4,QID,hlw,hmv]);(repeat' with_reducible refine And.intro ?_ ?_);all_goals first|(refine hR1 _ ?_;clear hR1 R1)|exact Zp)
  | ((with_reducible first|refine qw ?_|refine Q4 ?_);refine hR _ ?_;clear hR R;try simp only [go_sem,QHp,Nat.reduceBEq])
  | (with_reducible first|refine qv ?_ ?_|exact qu|refine qt ?_ ?_)
  | (with_reducible first|refine J1 ?_|refine J2 ?_|refine J4 ?_|refine J5 ?_|refine J6 ?_|refine J7 ?_|refine J8 (by decide) ?_|refine J9 ?_|refine Q2 ?_|refine Q1 ?_|refine Yc ?_)
  | ((with_reducible refine Qe 6 ?_)
     refine WT ok QQ (.take 0 (.take 1 (.take 2 (.take 3 (.take 4 (.take 5 (.take 6 (.take 7 (.br 8 .done .nil))))))))) [8] QHp (by kernel_rfl) (fun R hR=>?_);simp only [go_sem,QC])
  | ((with_reducible refine Qe 8 ?_)
     refine WT ok QQ (.take 0 (.take 1 (.take 2 (.take 3 (.take 4 (.take 5 (.take 6 (.take 7 (.br 8 .done .nil))))))))) [8] QHp (by kernel_rfl) (fun R hR=>?_);simp only [go_sem,QC])
  | ((with_reducible refine rg QHp fun R hR=>?_);simp only [go_sem,QC])
  | ((with_reducible refine QI 15 rfl (fun hb15=>?_) fun hb15=>?_);all_goals (try simp [-List.getD_eq_getElem?_getD] at hb15;try (exfalso;omega)))
  | ((with_reducible refine QI 53 rfl (fun hb53=>?_) fun hb53=>?_);all_goals (try simp [-List.getD_eq_getElem?_getD] at hb53;try (exfalso;omega)))
  | ((with_reducible first|refine xQ ?_|refine xP ?_)
     simp only [go_sem,QL,QM,QH,seval]
     first
      | (have q:(0:Int)<_:=hb15
         have e:VT s c=(s.setChn c ⟨(YF (s.chn c).buf ((s.chn c).len-1).toNat).set ((s.chn c).len-1).toNat 0,(s.chn c).len-1,(s.chn c).closed,(s.chn c).offer,(s.chn c).from_,(s.chn c).val⟩,(s.chn c).buf.getD 0 0,true):=if_pos hb15
         rw [e] at h
         rw [QIu hb4 (n:=((s.chans.getD c.toNat default).len-1).toNat) (by omega) (fun i h1 h2=>hz i (by omega) h2)]
         exact h)
      | (have q:_=(1:Int):=hb53
         have e:VT s c=(s.setChn c ⟨(s.chn c).buf,(s.chn c).len,(s.chn c).closed,2,(s.chn c).from_,0⟩,(s.chn c).val,true):=(if_neg (Int.not_lt.2 hb15)).trans (if_pos hb53)
         rw [e] at h
         exact h)
      | (have q:¬_:=hb53
         have e:VT s c=(s,0,false):=(if_neg (Int.not_lt.2 hb15)).trans (if_neg hb53)
         rw [e] at h
         exact h))
def QOg:List (List Nat):=[[0,4],[0,4,5],[0,5],[0,5],[0,30],[]]
theorem QFS (p:Prg) (s:Stt) (g:Int) (hg:0≤g∧g<6) (hs:s.Shape) (fuel val:Int) (c t:Int) (hc:0≤c∧c<4) (ht:0≤t) {o0 o1 o2 o3 o4 o5 o6:Obj} {tm:Tm} {out:List Tm} {nt:Nat} {xs:List Obj} {K:St→E→Prop} (h:K { tm:=tm,ob:=o0::o1::o2::o3::o4::o5::o6::.var 203 (.data 203 (machD p g fuel (YN ⟨s,val,0,t⟩ g c)))::xs,out:=out,nt:=nt } (.tup [])):CallE Go.Proofs.Tryz.prog tab { tm:=tm,ob:=o0::o1::o2::o3::o4::o5::o6::.var 203 (.data 203 (machV p s g fuel val false))::xs,out:=out,nt:=nt } 161 [.ptr 7 [] 203,.int .i64 c] K:=by
 have hs1:=hs.vars
 have hs2:=hs.owner
 have hs3:=hs.chans
 have hs5:=hs.gos
 have hcl:c.toNat<s.chans.length:=by omega
 have hgc:∀ d,(s.chans.map Chn.v).getD c.toNat d=(s.chans.getD c.toNat default).v:=fun d=>Zl hcl d
 have hgs:∀ (X:Chn) d,((s.chans.set c.toNat X).map Chn.v).getD c.toNat d=X.v:=fun X d=>QAH hcl X d
 refine CallE.body ok Go.Proofs.Tryz.func161 rfl rfl 33 rfl [] rfl (by simp) ?_
 simp only [enter,Zf,Nat.zero_add,Nat.reduceAdd]
 repeat' first
  | ((with_reducible refine Q5 fun R1 hR1=>?_);(simp only [go_sem,seval,-List.reduceReplicate,Bool.cond_false_right,Bool.cond_true_left,List.getElem?_cons_succ,List.getElem?_cons_zero,List.set_cons_succ,List.set_cons_zero,machV.s1,machV.s4,machV.s5,machV.v0,machV.v1,machV.v2,machV.v3,machV.v4,machV.v5,hgc,hgs,Z5,ZK,List.set_set,Chn.put0,Chn.put1,Chn.put2,Chn.put3,Chn.put4,Chn.put5,Stt.put0,Stt.put1,Stt.put2,Stt.put3,Stt.put4]);(repeat' with_reducible refine And.intro ?_ ?_);all_goals first|(refine hR1 _ ?_;clear hR1 R1)|((first|refine ⟨_,_,rfl,.inr (yN p _ g hg (by first|exact hs5|simpa using hs5) fuel _ _ ?_)⟩|refine ⟨_,_,rfl,.inr (WI p _ g hg (by first|exact hs5|simpa using hs5) fuel _ _ _ ?_)⟩);all_goals ((try simp only [go_sem,seval,-List.reduceReplicate,Bool.cond_false_right,Bool.cond_true_left,List.getElem?_cons_succ,List.getElem?_cons_zero,List.set_cons_succ,List.set_cons_zero,machV.s1,machV.s4,machV.s5,machV.v0,machV.v1,machV.v2,machV.v3,machV.v4,machV.v5,hgc,hgs,Z5,ZK,List.set_set,Chn.put0,Chn.put1,Chn.put2,Chn.put3,Chn.put4,Chn.put5,Stt.put0,Stt.put1,Stt.put2,Stt.put3,Stt.put4]);(repeat' with_reducible refine And.intro ?_ ?_);all_goals first|(refine hR1 _ ?_;clear hR1 R1)|exact Zp))|exact Zp)
  | ((with_reducible refine Q4 ?_);refine hR _ ?_;clear hR R;try simp only [go_sem,QOg,Nat.reduceBEq])
  | (with_reducible first|refine J1 ?_|refine J2 ?_|refine J3 ?_|refine Q2 ?_|refine Q1 ?_)
  | ((with_reducible refine rg QOg fun R hR=>?_);simp only [go_sem,QC])
  | ((with_reducible refine QI 30 rfl (fun hb30=>?_) fun hb30=>?_);all_goals (try simp [-List.getD_eq_getElem?_getD] at hb30;try (exfalso;omega)))
  | ((with_reducible first|refine xQ ?_|refine xP ?_)
     simp only [go_sem,QL,QM,QH,seval]
     first
      | (have q:_=(3:Int):=hb30
         have e:YN ⟨s,val,0,t⟩ g c=⟨(s.setChn c ⟨(s.chn c).buf,(s.chn c).len,(s.chn c).closed,0,0,0⟩).setStatus g 1,val,4,t⟩:=congrArg (fun w=>(⟨(s.setChn c ⟨(s.chn c).buf,(s.chn c).len,(s.chn c).closed,0,0,0⟩).setStatus g 1,val,w,t⟩:Did)) (if_pos hb30)
         rw [e,Wo (show (4:Int)≠0 by decide)] at h
         exact h)
      | (have q:¬_:=hb30
         have e:YN ⟨s,val,0,t⟩ g c=⟨(s.setChn c ⟨(s.chn c).buf,(s.chn c).len,(s.chn c).closed,0,0,0⟩).setStatus g 1,val,0,t⟩:=congrArg (fun w=>(⟨(s.setChn c ⟨(s.chn c).buf,(s.chn c).len,(s.chn c).closed,0,0,0⟩).setStatus g 1,val,w,t⟩:Did)) (if_neg hb30)
         rw [e,ZW ht] at h
         exact h))
def QOf:List (List Nat):=[[0,4],[0,4,14],[],[4],[4,24],[]]
theorem QGh (p:Prg) (s:Stt) (g:Int) (hg:0≤g∧g<6) (hs:s.Shape) (fuel val:Int) (c t:Int) (hc:0≤c∧c<4) (ht:0≤t) {o0 o1 o2 o3 o4 o5 o6:Obj} {tm:Tm} {out:List Tm} {nt:Nat} {xs:List Obj} {K:St→E→Prop} (h:K { tm:=tm,ob:=o0::o1::o2::o3::o4::o5::o6::.var 203 (.data 203 (machD p g fuel (Zu ⟨s,val,0,t⟩ c)))::xs,out:=out,nt:=nt } (.tup [])):CallE Go.Proofs.Tryz.prog tab { tm:=tm,ob:=o0::o1::o2::o3::o4::o5::o6::.var 203 (.data 203 (machV p s g fuel val false))::xs,out:=out,nt:=nt } 162 [.ptr 7 [] 203,.int .i64 c] K:=by
 have hs1:=hs.vars
 have hs2:=hs.owner
 have hs3:=hs.chans
 have hs5:=hs.gos
 have hcl:c.toNat<s.chans.length:=by omega
 have hgc:∀ d,(s.chans.map Chn.v).getD c.toNat d=(s.chans.getD c.toNat default).v:=fun d=>Zl hcl d
 have hgs:∀ (X:Chn) d,((s.chans.set c.toNat X).map Chn.v).getD c.toNat d=X.v:=fun X d=>QAH hcl X d
 refine CallE.body ok Go.Proofs.Tryz.func162 rfl rfl 31 rfl [] rfl (by simp) ?_
 simp only [enter,Zf,Nat.zero_add,Nat.reduceAdd]
 repeat' first
  | ((with_reducible refine Q5 fun R1 hR1=>?_);(simp only [go_sem,seval,-List.reduceReplicate,Bool.cond_false_right,Bool.cond_true_left,List.getElem?_cons_succ,List.getElem?_cons_zero,List.set_cons_succ,List.set_cons_zero,machV.s1,machV.s4,machV.s5,machV.v0,machV.v1,machV.v2,machV.v3,machV.v4,machV.v5,hgc,hgs,Z5,ZK,List.set_set,Chn.put0,Chn.put1,Chn.put2,Chn.put3,Chn.put4,Chn.put5,Stt.put0,Stt.put1,Stt.put2,Stt.put3,Stt.put4]);(repeat' with_reducible refine And.intro ?_ ?_);all_goals first|(refine hR1 _ ?_;clear hR1 R1)|((first|refine ⟨_,_,rfl,.inr (WI p _ g hg (by first|exact hs5|simpa using hs5) fuel _ _ _ ?_)⟩);all_goals ((try simp only [go_sem,seval,-List.reduceReplicate,Bool.cond_false_right,Bool.cond_true_left,List.getElem?_cons_succ,List.getElem?_cons_zero,List.set_cons_succ,List.set_cons_zero,machV.s1,machV.s4,machV.s5,machV.v0,machV.v1,machV.v2,machV.v3,machV.v4,machV.v5,hgc,hgs,Z5,ZK,List.set_set,Chn.put0,Chn.put1,Chn.put2,Chn.put3,Chn.put4,Chn.put5,Stt.put0,Stt.put1,Stt.put2,Stt.put3,Stt.put4]);(repeat' with_reducible refine And.intro ?_ ?_);all_goals first|(refine hR1 _ ?_;clear hR1 R1)|exact Zp))|exact Zp)
  | ((with_reducible refine Q4 ?_);refine hR _ ?_;clear hR R;try simp only [go_sem,QOf,Nat.reduceBEq])
  | (with_reducible first|refine J1 ?_|refine J2 ?_|refine J3 ?_|refine Q2 ?_|refine Q1 ?_)
  | ((with_reducible refine rg QOf fun R hR=>?_);simp only [go_sem,QC])
  | ((with_reducible refine QI 14 rfl (fun hb14=>?_) fun hb14=>?_);all_goals (try simp [-List.getD_eq_getElem?_getD] at hb14;try (exfalso;omega)))
  | ((with_reducible refine QI 24 rfl (fun hb24=>?_) fun hb24=>?_);all_goals (try simp [-List.getD_eq_getElem?_getD] at hb24;try (exfalso;omega)))
  | ((with_reducible first|refine xQ ?_|refine xP ?_)
     simp only [go_sem,QL,QM,QH,seval]
     first
      | (have q:_=true:=hb14
         have e:Zu ⟨s,val,0,t⟩ c=⟨s,val,5,t⟩:=if_pos hb14
         rw [e,Wo (show (5:Int)≠0 by decide)] at h
         exact h)
      | (have q:_=(1:Int):=hb24
         have e:Zu ⟨s,val,0,t⟩ c=⟨s.setChn c ⟨(s.chn c).buf,(s.chn c).len,true,3,(s.chn c).from_,0⟩,val,0,t⟩:=(if_neg (by rw [show (s.chn c).closed=false from hb14];decide)).trans (if_pos hb24)
         rw [e,ZW ht] at h
         exact h)
      | (have q:¬_:=hb24
         have e:Zu ⟨s,val,0,t⟩ c=⟨s.setChn c ⟨(s.chn c).buf,(s.chn c).len,true,(s.chn c).offer,(s.chn c).from_,(s.chn c).val⟩,val,0,t⟩:=(if_neg (by rw [show (s.chn c).closed=false from hb14];decide)).trans (if_neg hb24)
         rw [e,ZW ht] at h
         exact h))
def QOh:List (List Nat):=[[0],[3],[2],[2]]
theorem Xe (b:Bool):Ctr Go.Proofs.Tryz.prog tab 160 [4] [2] [.bool b] [.int (XY b)]:=by
 refine Ctr.body ok Go.Proofs.Tryz.func160 rfl rfl 4 rfl [.tmp 2] rfl (by simp [QF]) ?_
 simp only [go_sem,Nat.reduceAdd]
 repeat' first
  | ((with_reducible refine Q5 fun R1 hR1=>?_);(simp only [go_sem,seval,-List.reduceReplicate,Bool.cond_false_right,Bool.cond_true_left,List.getElem?_cons_succ,List.getElem?_cons_zero,List.set_cons_succ,List.set_cons_zero]);(repeat' with_reducible refine And.intro ?_ ?_);all_goals first|(refine hR1 _ ?_;clear hR1 R1)|exact Zp)
  | ((with_reducible refine Q4 ?_);refine hR _ ?_;clear hR R;try simp only [go_sem,QOh,Nat.reduceBEq])
  | (with_reducible first|refine J1 ?_|refine J2 ?_|refine J3 ?_|refine Q2 ?_|refine Q1 ?_)
  | ((with_reducible refine rg QOh fun R hR=>?_);simp only [go_sem,QC])
  | ((with_reducible refine QI 3 rfl (fun hb3=>?_) fun hb3=>?_);all_goals (try simp only [decide_eq_true_eq,decide_eq_false_iff_not] at hb3))
  | ((with_reducible first|refine ZQ ?_|refine ZP ?_)
     simp only [go_sem,QL,QM,QH,seval]
     have q:=hb3
     rw [hb3]
     exact ⟨rfl,rfl⟩)
theorem QI3 (b:Nat) (w:World) (x:Int) (hx:0≤x∧x<6) (hc:w.cell? ⟨b,125,none⟩=some (.int .i64 x)):Calls Go.Proofs.Tryz.prog 116 #[.pointer (some ⟨b,0,none⟩)] w fun e w'=>e=.returned (.pointer (some ⟨b,52+x.toNat*12,none⟩))∧Below w.heap.size w w':=by
 go_enter Go.Proofs.Tryz.func116,Go.Proofs.Tryz.ntmps116
 go_wp2
 go_region
 go_wp2
 go_ret
 exact ⟨rfl,(Below.refl _ _).drew⟩
theorem QKl {g:Int} (hg:0≤g∧g<6):PathOk tab 203 [g.toNat,3,1] (52+g.toNat*12) 44:=by
 have h1:PathOk tab 203 [1] 4 47:=PathOk.fld PathOk.nil QHU rfl
 have h2:PathOk tab 203 [3,1] 52 45:=PathOk.fld h1 QPl rfl
 exact PathOk.idx h2 QSE (by omega)
theorem V0 (p:Prg) (s:Stt) (g:Int) (hg:0≤g∧g<6) (fuel val:Int) (failed:Bool) {σ:St} (ho:σ.ob[7]?=some (.var 203 (.data 203 (machV p s g fuel val failed)))):CallQ Go.Proofs.Tryz.prog tab σ 116 [.ptr 7 [] 203] (.ptr 7 [g.toNat,3,1] 44):=by
 refine ⟨Wt Go.Proofs.Tryz.func116 rfl rfl,fun w0 w F ρ tmps outs xs hR hx=>?_⟩
 match xs,hx with
 | [v],⟨hv,_⟩ =>
   obtain ⟨b,root,off,hρ,hp,rfl⟩:=hv
   cases hp
   have h7:=hR.ob 7 _ ho
   rw [hρ] at h7
   obtain ⟨_,_,_,cs,ct,v,hb,hv,hH,_⟩:=h7
   obtain ⟨cs',rfl,hagg,hfit⟩:=hv
   have hcs:cs'=cs:=by
    have h:=hH.2
    rw [if_pos hagg] at h
    exact (Value.agg.inj h)
   subst hcs
   have h2:PathOk tab 203 [2] 125 3:=PathOk.fld PathOk.nil QHU rfl
   obtain ⟨hf,hl⟩:=h2.get ok.sized hfit
   have hc1:(cs'.toList.drop 125).take (tab.sz 3)=[.int .i64 g]:=by
    generalize (cs'.toList.drop 125).take (tab.sz 3)=q at hf
    have e:(machV p s g fuel val failed).get [2]=.int g:=rfl
    rw [e] at hf
    cases hf with
    | int a c =>
      have:tab.ty 3=.int .i64:=rfl
      rw [this] at a
      cases a
      rfl
   have hcell:cs'[125]?=some (.int .i64 g):=by
    have h:=congrArg (fun l:List Value=>l[0]?) hc1
    simp [show tab.sz 3=1 from rfl] at h
    simpa using h
   refine ⟨_,⟨b,_,_,hρ,QKl hg,rfl⟩,fun w' hw=>QI3 b w' g hg ?_⟩
   have hbl:w'.heap[b]?=some (.cells cs' ct (0,0)):=by rw [hw.block b (Array.getElem?_eq_some_iff.1 hb).1];exact hb
   simp [World.cell?,hbl,hcell]
def WO:List (List Nat):=[[0,3],[0,3,5],[0,3,5,12],[4],[0,3,5,12,13],[0,3],[],[0,3,5,12,34],[0,3],[],[0,3,5,12,54],[0,3],[0,3],[],[0,3,5,12,92],[0,3,5],[0,3,5,115],[0,3],[],[0,3,5,12,135],[],[0,3,12,144],[],[0,3,12,158],[0,3,173],[],[4],[],[0,3,183],[0,3],[0,3,202],[0,3],[],[4]]
end Go.Eng.Tryz
