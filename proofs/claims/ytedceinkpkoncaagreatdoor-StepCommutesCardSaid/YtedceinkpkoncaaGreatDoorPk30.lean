/- A part of the proof: walks through the program's functions, and what they compute. -/
import Derived.Test.YtedceinkpkoncaaGreatDoorPk29
import Derived.WalkKit
import Derived.Deep.QuietTactic
set_option linter.unusedSimpArgs false
set_option linter.unusedVariables false
namespace Go.Eng.Tryz
open Go.RowKit Go.Eng
set_option maxHeartbeats 0
set_option maxRecDepth 20000
def lv67:List (Nat × List Nat):=[(0,[0]),(1,[2])]
theorem mown_call (p:Prg) (s:Stt) (g:Int) (hg:0≤g∧g<6) (hs5:s.gos.length=6) (fuel val:Int) (failed:Bool)  {o0 o1 o2 o3 o4 o5 o6:Obj} {tm:Tm} {out:List Tm} {nt:Nat} {xs:List Obj} {K:St→E→Prop} (h:K { tm:=tm,ob:=o0::o1::o2::o3::o4::o5::o6::.var 133 (.data 133 (machV p s g fuel val failed))::xs,out:=out,nt:=nt } (.ptr 7 [g.toNat,3,1] 34)):CallE Go.Proofs.Tryz.prog tab { tm:=tm,ob:=o0::o1::o2::o3::o4::o5::o6::.var 133 (.data 133 (machV p s g fuel val failed))::xs,out:=out,nt:=nt } 67 [.ptr 7 [] 133] K:=by
 refine CallE.body ok Go.Proofs.Tryz.func67 rfl rfl 12 rfl [.tmp 2] rfl (by simp) ?_
 simp only [enter,args0,Nat.zero_add,Nat.reduceAdd]
 repeat' first
  | ((with_reducible first|refine SARA.do fun R1 hR1=>?_|refine SARQ.do fun R1 hR1=>?_);(simp only [go_sem,seval,-List.reduceReplicate,Bool.cond_false_right,Bool.cond_true_left,List.getElem?_cons_succ,List.getElem?_cons_zero,List.set_cons_succ,List.set_cons_zero,machV.s1,machV.s4,machV.s5,machV.v0,machV.v1,machV.v2,machV.v3,machV.v4,machV.v5]);(repeat' with_reducible refine And.intro ?_ ?_);all_goals first|(refine hR1 _ ?_;clear hR1 R1)|omega|rfl|decide|assumption|(intro _;omega)|(simp;done)|(simp [-List.getD_eq_getElem?_getD];omega)|exact hcode _|(intro _;exact hcode _)|exact hsl _|(intro _;exact hsl _))
  | ((with_reducible refine SARA.nil ?_);refine hR _ ?_;clear hR R;try simp only [go_sem,lv67,lvOf,Nat.reduceBEq,Option.getD_some])
  | ((with_reducible refine SARQ.nil ?_);refine hR _ ?_;clear hR R;try simp only [go_sem,lv67,lvOf,Nat.reduceBEq,Option.getD_some])
  | (with_reducible first|refine J1 ?_|refine J2 ?_|refine J3 ?_|refine J4 ?_|refine J5 ?_|refine J6 ?_|refine J7 ?_|refine J8 (by decide) ?_|refine J9 ?_|refine J10 ?_|refine J11 ?_|refine J12 ?_|refine J13 ?_|refine J14 ?_|refine J15 ?_|refine J16 ?_|refine J17 ?_|refine J18 ?_|refine J19 ?_)
  | ((with_reducible refine J21 ok (by kernel_rfl) lv67 ?_);intro R hR;simp only [go_sem,strip])
  | ((with_reducible refine SA.regionD ok mixed (by kernel_rfl) (by kernel_rfl) lv67 ?_);intro R hR;simp only [go_sem,strip])
  | ((with_reducible first|refine bodyK.normal ?_|refine bodyK.ret ?_)
     simp only [go_sem,resA,resV,backK,seval]
     exact h)
def lv115:List (Nat × List Nat):=[(0,[0,1,2,7]),(1,[])]
theorem mset_call (p:Prg) (s:Stt) (g:Int) (hg:0≤g∧g<6) (hs5:s.gos.length=6) (fuel val:Int) (failed:Bool) (r x:Int) (hr:r<8) {o0 o1 o2 o3 o4 o5 o6:Obj} {tm:Tm} {out:List Tm} {nt:Nat} {xs:List Obj} {K:St→E→Prop} (h:K { tm:=tm,ob:=o0::o1::o2::o3::o4::o5::o6::.var 133 (.data 133 (machV p (s.setReg g r x) g fuel val failed))::xs,out:=out,nt:=nt } (.tup [])):CallE Go.Proofs.Tryz.prog tab { tm:=tm,ob:=o0::o1::o2::o3::o4::o5::o6::.var 133 (.data 133 (machV p s g fuel val failed))::xs,out:=out,nt:=nt } 115 [.ptr 7 [] 133,.int .i64 r,.int .i64 x] K:=by
 refine CallE.body ok Go.Proofs.Tryz.func115 rfl rfl 15 rfl [] rfl (by simp) ?_
 simp only [enter,args0,Nat.zero_add,Nat.reduceAdd]
 repeat' first
  | ((with_reducible refine SARA.do fun R1 hR1=>?_);(simp only [go_sem,seval,-List.reduceReplicate,Bool.cond_false_right,Bool.cond_true_left,List.getElem?_cons_succ,List.getElem?_cons_zero,List.set_cons_succ,List.set_cons_zero,machV.s1,machV.s4,machV.s5,machV.v0,machV.v1,machV.v2,machV.v3,machV.v4,machV.v5]);(repeat' with_reducible refine And.intro ?_ ?_);all_goals first|(refine hR1 _ ?_;clear hR1 R1)|((first|refine ⟨_,_,rfl,.inr (mown_call p _ g hg (by first|exact hs5|simpa using hs5) fuel _ _ ?_)⟩);all_goals ((try simp only [go_sem,seval,-List.reduceReplicate,Bool.cond_false_right,Bool.cond_true_left,List.getElem?_cons_succ,List.getElem?_cons_zero,List.set_cons_succ,List.set_cons_zero,machV.s1,machV.s4,machV.s5,machV.v0,machV.v1,machV.v2,machV.v3,machV.v4,machV.v5]);(repeat' with_reducible refine And.intro ?_ ?_);all_goals first|(refine hR1 _ ?_;clear hR1 R1)|omega|rfl|decide|assumption|(intro _;omega)|(simp;done)|(simp [-List.getD_eq_getElem?_getD];omega)|exact hcode _|(intro _;exact hcode _)|exact hsl _|(intro _;exact hsl _)))|omega|rfl|decide|assumption|(intro _;omega)|(simp;done)|(simp [-List.getD_eq_getElem?_getD];omega)|exact hcode _|(intro _;exact hcode _)|exact hsl _|(intro _;exact hsl _))
  | ((with_reducible refine SARA.nil ?_);refine hR _ ?_;clear hR R;try simp only [go_sem,lv115,lvOf,Nat.reduceBEq,Option.getD_some])
  | (with_reducible first|refine J1 ?_|refine J2 ?_|refine J3 ?_|refine J4 ?_|refine J5 ?_|refine J6 ?_|refine J7 ?_|refine J8 (by decide) ?_|refine J9 ?_|refine J10 ?_|refine J11 ?_|refine J12 ?_|refine J13 ?_|refine J14 ?_|refine J15 ?_|refine J16 ?_|refine J17 ?_|refine J18 ?_|refine J19 ?_)
  | ((with_reducible refine J21 ok (by kernel_rfl) lv115 ?_);intro R hR;simp only [go_sem,strip])
  | ((with_reducible refine J20 7 rfl (fun hb7=>?_) (fun hb7=>?_))
     all_goals
      try simp [-List.getD_eq_getElem?_getD] at hb7
      try (exfalso;omega))
  | ((with_reducible first|refine bodyK.normal ?_|refine bodyK.ret ?_)
     simp only [go_sem,resA,resV,backK,seval]
     first
      | (have q:0≤r:=hb7
         have e:s.setReg g r x=_:=if_pos hb7
         rw [e] at h
         exact h)
      | (have q:r<0:=hb7
         have e:s.setReg g r x=s:=if_neg (by omega)
         rw [e] at h
         exact h))
def lv121:List (Nat × List Nat):=[(0,[0,1,4]),(1,[0]),(2,[])]
theorem mfail_call (p:Prg) (s:Stt) (g:Int) (hg:0≤g∧g<6) (hs5:s.gos.length=6) (fuel val:Int) (failed:Bool) (why:Int) {o0 o1 o2 o3 o4 o5 o6:Obj} {tm:Tm} {out:List Tm} {nt:Nat} {xs:List Obj} {K:St→E→Prop} (h:K { tm:=tm,ob:=o0::o1::o2::o3::o4::o5::o6::.var 133 (.data 133 (machV p (failS s g why) g fuel 0 true))::xs,out:=out,nt:=nt } (.tup [])):CallE Go.Proofs.Tryz.prog tab { tm:=tm,ob:=o0::o1::o2::o3::o4::o5::o6::.var 133 (.data 133 (machV p s g fuel val failed))::xs,out:=out,nt:=nt } 121 [.ptr 7 [] 133,.int .i64 why] K:=by
 refine CallE.body ok Go.Proofs.Tryz.func121 rfl rfl 25 rfl [] rfl (by simp) ?_
 simp only [enter,args0,Nat.zero_add,Nat.reduceAdd]
 repeat' first
  | ((with_reducible first|refine SARA.do fun R1 hR1=>?_|refine SART.do fun R1 hR1=>?_|refine SARB.keep fun R1 hR1=>?_|refine SARB.any fun R1 hR1=>?_);(simp only [go_sem,seval,-List.reduceReplicate,Bool.cond_false_right,Bool.cond_true_left,List.getElem?_cons_succ,List.getElem?_cons_zero,List.set_cons_succ,List.set_cons_zero,machV.s1,machV.s4,machV.s5,machV.v0,machV.v1,machV.v2,machV.v3,machV.v4,machV.v5]);(repeat' with_reducible refine And.intro ?_ ?_);all_goals first|(refine hR1 _ ?_;clear hR1 R1)|((first|refine ⟨_,_,rfl,.inr (mown_call p _ g hg (by first|exact hs5|simpa using hs5) fuel _ _ ?_)⟩);all_goals ((try simp only [go_sem,seval,-List.reduceReplicate,Bool.cond_false_right,Bool.cond_true_left,List.getElem?_cons_succ,List.getElem?_cons_zero,List.set_cons_succ,List.set_cons_zero,machV.s1,machV.s4,machV.s5,machV.v0,machV.v1,machV.v2,machV.v3,machV.v4,machV.v5]);(repeat' with_reducible refine And.intro ?_ ?_);all_goals first|(refine hR1 _ ?_;clear hR1 R1)|omega|rfl|decide|assumption|(intro _;omega)|(simp;done)|(simp [-List.getD_eq_getElem?_getD];omega)|exact hcode _|(intro _;exact hcode _)|exact hsl _|(intro _;exact hsl _)))|omega|rfl|decide|assumption|(intro _;omega)|(simp;done)|(simp [-List.getD_eq_getElem?_getD];omega)|exact hcode _|(intro _;exact hcode _)|exact hsl _|(intro _;exact hsl _))
  | ((with_reducible refine SART.done ?_);refine hR _ ?_;clear hR R;try simp only [go_sem,lv121,lvOf,Nat.reduceBEq,Option.getD_some])
  | (with_reducible first|refine SART.br ?_ ?_|exact SARL.nil|refine SARL.cons ?_ ?_)
  | ((with_reducible refine SARA.nil ?_);refine hR _ ?_;clear hR R;try simp only [go_sem,lv121,lvOf,Nat.reduceBEq,Option.getD_some])
  | (with_reducible first|refine J1 ?_|refine J2 ?_|refine J3 ?_|refine J4 ?_|refine J5 ?_|refine J6 ?_|refine J7 ?_|refine J8 (by decide) ?_|refine J9 ?_|refine J10 ?_|refine J11 ?_|refine J12 ?_|refine J13 ?_|refine J14 ?_|refine J15 ?_|refine J16 ?_|refine J17 ?_|refine J18 ?_|refine J19 ?_)
  | ((with_reducible refine SA.at 1 ?_)
     refine SA.regionT ok mixed (.take 0 (.take 1 (.take 2 (.take 3 (.take 4 (.take 5 (.take 6 (.take 7 (.take 8 (.take 9 (.take 10 (.take 11 (.br 12 .done .nil))))))))))))) [12] lv121 (by kernel_rfl) (fun R hR=>?_);simp only [go_sem,strip])
  | ((with_reducible refine J21 ok (by kernel_rfl) lv121 ?_);intro R hR;simp only [go_sem,strip])
  | ((with_reducible first|refine bodyK.normal ?_|refine bodyK.ret ?_)
     simp only [go_sem,resA,resV,backK,seval]
     rw [show ((((tab.zero 34).setSub 0 (V.int 4)).setSub 1 (V.int (s.gos.getD g.toNat default).func)).setSub 2 (V.int (s.gos.getD g.toNat default).pc)).setSub 3 (V.int why)=(failG (s.gos.getD g.toNat default) why).v from rfl,set_gors]
     exact h)
def lv68:List (Nat × List Nat):=[(0,[])]
theorem msettle_call (p:Prg) (s:Stt) (g:Int) (hg:0≤g∧g<6) (hs:s.Shape) (fuel val:Int) (failed:Bool) (k:Int) (hp:p.Fit) {o0 o1 o2 o3 o4 o5 o6:Obj} {tm:Tm} {out:List Tm} {nt:Nat} {xs:List Obj} {K:St→E→Prop} (h:K { tm:=tm,ob:=o0::o1::o2::o3::o4::o5::o6::.var 133 (.data 133 (machV p (settle applyW p s k fuel).1 g fuel val failed))::xs,out:=out,nt:=nt } (.tup [])):CallE Go.Proofs.Tryz.prog tab { tm:=tm,ob:=o0::o1::o2::o3::o4::o5::o6::.var 133 (.data 133 (machV p s g fuel val failed))::xs,out:=out,nt:=nt } 68 [.ptr 7 [] 133,.int .i64 k] K:=by
 have hs1:=hs.vars
 have hs2:=hs.owner
 have hs3:=hs.chans
 have hs5:=hs.gos
 refine CallE.body ok Go.Proofs.Tryz.func68 rfl rfl 24 rfl [] rfl (by simp) ?_
 simp only [enter,args0,Nat.zero_add,Nat.reduceAdd]
 repeat' first
  | ((with_reducible first|refine SART.do fun R1 hR1=>?_|refine SARB.keep fun R1 hR1=>?_|refine SARB.any fun R1 hR1=>?_);(simp only [go_sem,seval,-List.reduceReplicate,Bool.cond_false_right,Bool.cond_true_left,List.getElem?_cons_succ,List.getElem?_cons_zero,List.set_cons_succ,List.set_cons_zero,machV.s1,machV.s4,machV.s5,machV.v0,machV.v1,machV.v2,machV.v3,machV.v4,machV.v5]);(repeat' with_reducible refine And.intro ?_ ?_);all_goals first|(refine hR1 _ ?_;clear hR1 R1)|((first|refine ⟨_,_,rfl,.inr (CallB.ctr ok (psettle_ctr p s k fuel hp hs) (by first|rfl|(simp [go_sem];done)|fail) ?_)⟩);all_goals ((try simp only [go_sem,seval,-List.reduceReplicate,Bool.cond_false_right,Bool.cond_true_left,List.getElem?_cons_succ,List.getElem?_cons_zero,List.set_cons_succ,List.set_cons_zero,machV.s1,machV.s4,machV.s5,machV.v0,machV.v1,machV.v2,machV.v3,machV.v4,machV.v5]);(repeat' with_reducible refine And.intro ?_ ?_);all_goals first|(refine hR1 _ ?_;clear hR1 R1)|omega|rfl|decide|assumption|(intro _;omega)|(simp;done)|(simp [-List.getD_eq_getElem?_getD];omega)|exact hcode _|(intro _;exact hcode _)|exact hsl _|(intro _;exact hsl _)))|omega|rfl|decide|assumption|(intro _;omega)|(simp;done)|(simp [-List.getD_eq_getElem?_getD];omega)|exact hcode _|(intro _;exact hcode _)|exact hsl _|(intro _;exact hsl _))
  | ((with_reducible refine SART.doneAt 0 ?_);refine hR _ ?_;clear hR R;try simp only [go_sem,lv68,lvOf,Nat.reduceBEq,Option.getD_some]
     exact St.le.of_eq (by simp only [St.keep,List.filterMap_cons,List.filterMap_nil,List.lookup_cons,List.lookup_nil,Option.map_some,Option.map_none,beq_self_eq_true,Nat.reduceBEq]))
  | ((with_reducible refine SART.done ?_);refine hR _ ?_;clear hR R;try simp only [go_sem,lv68,lvOf,Nat.reduceBEq,Option.getD_some])
  | (with_reducible first|refine SART.br ?_ ?_|exact SARL.nil|refine SARL.cons ?_ ?_)
  | (with_reducible first|refine J1 ?_|refine J2 ?_|refine J3 ?_|refine J4 ?_|refine J5 ?_|refine J6 ?_|refine J7 ?_|refine J8 (by decide) ?_|refine J9 ?_|refine J10 ?_|refine J11 ?_|refine J12 ?_|refine J13 ?_|refine J14 ?_|refine J15 ?_|refine J16 ?_|refine J17 ?_|refine J18 ?_|refine J19 ?_)
  | ((with_reducible refine SA.at 0 ?_)
     refine SA.regionTP ok mixed (.take 0 (.take 1 (.take 2 (.take 3 (.take 4 (.take 5 (.take 6 (.take 7 (.take 8 (.take 9 (.take 10 (.take 11 (.take 12 (.take 13 (.br 14 (.take 15 (.take 16 (.take 18 (.take 19 (.br 17 (.br 20 .done .nil) (.br 20 (.take 17 .done) .nil)))))) .nil))))))))))))))) [20] lv68 (by kernel_rfl) ({ tm:=[],ob:=o0::o1::o2::o3::o4::o5::o6::.var 133 (.data 133 (machV p (settle applyW p s k fuel).1 g fuel val failed))::xs,out:=tm::out,nt:=24 }) (fun R hR=>?_) ?_;simp only [go_sem,strip])
  | ((with_reducible first|refine bodyK.normal ?_|refine bodyK.ret ?_)
     simp only [go_sem,resA,resV,backK,seval]
     exact h)
def lv113:List (Nat × List Nat):=[(0,[0,1,2,6]),(1,[0,1,2,6]),(2,[0]),(3,[0]),(4,[]),(5,[0,1,2,6,38]),(6,[]),(7,[0,2,6,45]),(8,[6]),(9,[])]
theorem msend_call (p:Prg) (s:Stt) (g:Int) (hg:0≤g∧g<6) (hs:s.Shape) (fuel val:Int) (v0:Int) (c x t:Int) (hp:p.Fit) (hc:0≤c∧c<p.chans.length) (h4:p.chans.length≤4) (ht:0≤t) (hroom:(s.chans.getD c.toNat default).closed=false→0<p.chans.getD c.toNat 0→0≤(s.chans.getD c.toNat default).len∧(s.chans.getD c.toNat default).len<4) {o0 o1 o2 o3 o4 o5 o6:Obj} {tm:Tm} {out:List Tm} {nt:Nat} {xs:List Obj} {K:St→E→Prop} (h:K { tm:=tm,ob:=o0::o1::o2::o3::o4::o5::o6::.var 133 (.data 133 (machD p g fuel (doSend p ⟨s,v0,0,t⟩ g c x)))::xs,out:=out,nt:=nt } (.tup [])):CallE Go.Proofs.Tryz.prog tab { tm:=tm,ob:=o0::o1::o2::o3::o4::o5::o6::.var 133 (.data 133 (machV p s g fuel val false))::xs,out:=out,nt:=nt } 113 [.ptr 7 [] 133,.int .i64 c,.int .i64 x] K:=by
 have hs1:=hs.vars
 have hs2:=hs.owner
 have hs3:=hs.chans
 have hs5:=hs.gos
 have hpp:=hp
 obtain ⟨hp1,hp2,hp3,hp4⟩:=hp
 have hcl:c.toNat<s.chans.length:=by omega
 have hgc:∀ d,(s.chans.map Chn.v).getD c.toNat d=(s.chans.getD c.toNat default).v:=fun d=>getD_chns hcl d
 have hgs:∀ (X:Chn) d,((s.chans.set c.toNat X).map Chn.v).getD c.toNat d=X.v:=fun X d=>chn_set hcl X d
 refine CallE.body ok Go.Proofs.Tryz.func113 rfl rfl 71 rfl [] rfl (by simp) ?_
 simp only [enter,args0,Nat.zero_add,Nat.reduceAdd]
 repeat' first
  | ((with_reducible first|refine SARA.do fun R1 hR1=>?_|refine SART.do fun R1 hR1=>?_|refine SARB.keep fun R1 hR1=>?_|refine SARB.any fun R1 hR1=>?_);(simp only [go_sem,seval,-List.reduceReplicate,Bool.cond_false_right,Bool.cond_true_left,List.getElem?_cons_succ,List.getElem?_cons_zero,List.set_cons_succ,List.set_cons_zero,machV.s1,machV.s4,machV.s5,machV.v0,machV.v1,machV.v2,machV.v3,machV.v4,machV.v5,hgc,hgs,set_chns,set_ints,List.set_set,Chn.put0,Chn.put1,Chn.put2,Chn.put3,Chn.put4,Chn.put5,Stt.put0,Stt.put1,Stt.put2,Stt.put3,Stt.put4]);(repeat' with_reducible refine And.intro ?_ ?_);all_goals first|(refine hR1 _ ?_;clear hR1 R1)|((first|refine ⟨_,_,rfl,.inr (mown_call p _ g hg (by first|exact hs5|simpa using hs5) fuel _ _ ?_)⟩|refine ⟨_,_,rfl,.inr (mfail_call p _ g hg (by first|exact hs5|simpa using hs5) fuel _ _ _ ?_)⟩);all_goals ((try simp only [go_sem,seval,-List.reduceReplicate,Bool.cond_false_right,Bool.cond_true_left,List.getElem?_cons_succ,List.getElem?_cons_zero,List.set_cons_succ,List.set_cons_zero,machV.s1,machV.s4,machV.s5,machV.v0,machV.v1,machV.v2,machV.v3,machV.v4,machV.v5,hgc,hgs,set_chns,set_ints,List.set_set,Chn.put0,Chn.put1,Chn.put2,Chn.put3,Chn.put4,Chn.put5,Stt.put0,Stt.put1,Stt.put2,Stt.put3,Stt.put4]);(repeat' with_reducible refine And.intro ?_ ?_);all_goals first|(refine hR1 _ ?_;clear hR1 R1)|omega|rfl|decide|assumption|(intro _;omega)|(simp;done)|(simp [-List.getD_eq_getElem?_getD];omega)|exact hcode _|(intro _;exact hcode _)|exact hsl _|(intro _;exact hsl _)))|omega|rfl|decide|assumption|(intro _;omega)|(simp;done)|(simp [-List.getD_eq_getElem?_getD];omega)|exact hcode _|(intro _;exact hcode _)|exact hsl _|(intro _;exact hsl _))
  | ((with_reducible refine SART.done ?_);refine hR _ ?_;clear hR R;try simp only [go_sem,lv113,lvOf,Nat.reduceBEq,Option.getD_some])
  | (with_reducible first|refine SART.br ?_ ?_|exact SARL.nil|refine SARL.cons ?_ ?_)
  | ((with_reducible refine SARA.nil ?_);refine hR _ ?_;clear hR R;try simp only [go_sem,lv113,lvOf,Nat.reduceBEq,Option.getD_some])
  | (with_reducible first|refine J1 ?_|refine J2 ?_|refine J3 ?_|refine J4 ?_|refine J5 ?_|refine J6 ?_|refine J7 ?_|refine J8 (by decide) ?_|refine J9 ?_|refine J10 ?_|refine J11 ?_|refine J12 ?_|refine J13 ?_|refine J14 ?_|refine J15 ?_|refine J16 ?_|refine J17 ?_|refine J18 ?_|refine J19 ?_)
  | ((with_reducible refine SA.at 9 ?_)
     have hrm:=hroom hb38 hb45
     (with_reducible refine J21 ok (by kernel_rfl) lv113 ?_);intro R hR;simp only [go_sem,strip])
  | ((with_reducible refine SA.at 8 ?_)
     have hrm:=hroom hb38 hb45
     refine SA.regionT ok mixed (.take 0 (.take 1 (.take 2 (.take 3 (.take 4 (.take 5 (.take 6 (.take 7 (.take 8 (.br 9 .done .nil)))))))))) [9] lv113 (by kernel_rfl) (fun R hR=>?_);simp only [go_sem,strip])
  | ((with_reducible refine J21 ok (by kernel_rfl) lv113 ?_);intro R hR;simp only [go_sem,strip])
  | ((with_reducible refine J20 38 rfl (fun hb38=>?_) (fun hb38=>?_))
     all_goals
      try simp [-List.getD_eq_getElem?_getD] at hb38
      try (exfalso;omega))
  | ((with_reducible refine J20 45 rfl (fun hb45=>?_) (fun hb45=>?_))
     all_goals
      try simp [-List.getD_eq_getElem?_getD] at hb45
      try (exfalso;omega))
  | ((with_reducible first|refine bodyK.normal ?_|refine bodyK.ret ?_)
     simp only [go_sem,resA,resV,backK,seval]
     first
      | (have q:_=true:=hb38
         have e:doSend p ⟨s,v0,0,t⟩ g c x=⟨s,v0,4,t⟩:=if_pos hb38
         rw [e,machD_fail (show (4:Int)≠0 by decide)] at h
         exact h)
      | (have q:(0:Int)<_:=hb45
         have hrm:=hroom hb38 hb45
         have e:doSend p ⟨s,v0,0,t⟩ g c x=⟨s.setChn c ⟨(s.chn c).buf.set (s.chn c).len.toNat x,(s.chn c).len+1,(s.chn c).closed,(s.chn c).offer,(s.chn c).from_,(s.chn c).val⟩,x,0,t⟩:=(if_neg (by rw [show (s.chn c).closed=false from hb38];decide)).trans (if_pos hb45)
         rw [e,machD_ok ht] at h
         rw [i64_ok (x:=(s.chans.getD c.toNat default).len+1) (by omega) (by omega)]
         exact h)
      | (have q:_≤(0:Int):=hb45
         have e:doSend p ⟨s,v0,0,t⟩ g c x=⟨(s.setStatus g 2).setChn c ⟨(s.chn c).buf,(s.chn c).len,(s.chn c).closed,1,g,x⟩,x,0,-1⟩:=(if_neg (by rw [show (s.chn c).closed=false from hb38];decide)).trans (if_neg (Int.not_lt.2 hb45))
         rw [e,machD_over] at h
         exact h))
def lv114:List (Nat × List Nat):=[(0,[0,1]),(1,[0,5]),(2,[]),(3,[4]),(4,[0,5,15]),(5,[5]),(6,[5]),(7,[5]),(8,[]),(9,[0,5,53]),(10,[5]),(11,[]),(12,[4])]
theorem mrecv_call (p:Prg) (s:Stt) (g:Int) (hg:0≤g∧g<6) (hs:s.Shape) (fuel val:Int) (failed:Bool) (c:Int) (hc:0≤c∧c<4) (hl:0≤(s.chans.getD c.toNat default).len∧(s.chans.getD c.toNat default).len≤4) (hz:∀ k:Nat,(s.chans.getD c.toNat default).len≤k→k<4→(s.chans.getD c.toNat default).buf.getD k 0=0) {o0 o1 o2 o3 o4 o5 o6:Obj} {tm:Tm} {out:List Tm} {nt:Nat} {xs:List Obj} {K:St→E→Prop} (h:K { tm:=tm,ob:=o0::o1::o2::o3::o4::o5::o6::.var 133 (.data 133 (machV p (recvS s c).1 g fuel (recvS s c).2.1 failed))::xs,out:=out,nt:=nt } (.bool (recvS s c).2.2)):CallE Go.Proofs.Tryz.prog tab { tm:=tm,ob:=o0::o1::o2::o3::o4::o5::o6::.var 133 (.data 133 (machV p s g fuel val failed))::xs,out:=out,nt:=nt } 114 [.ptr 7 [] 133,.int .i64 c] K:=by
 have hs1:=hs.vars
 have hs2:=hs.owner
 have hs3:=hs.chans
 have hs5:=hs.gos
 have hcl:c.toNat<s.chans.length:=by omega
 have hgc:∀ d,(s.chans.map Chn.v).getD c.toNat d=(s.chans.getD c.toNat default).v:=fun d=>getD_chns hcl d
 have hgs:∀ (X:Chn) d,((s.chans.set c.toNat X).map Chn.v).getD c.toNat d=X.v:=fun X d=>chn_set hcl X d
 have hb4:=hs.bufs _ (getD_mem s.chans (i:=c.toNat) (by omega))
 have hlw:IntKind.i64.wrap ((s.chans.getD c.toNat default).len-1)=(s.chans.getD c.toNat default).len-1:=i64_ok (by omega) (by omega)
 have hmv:=moved4 hb4
 refine CallE.body ok Go.Proofs.Tryz.func114 rfl rfl 72 rfl [.tmp 4] rfl (by simp) ?_
 simp only [enter,args0,Nat.zero_add,Nat.reduceAdd]
 repeat' first
  | ((with_reducible first|refine SARA.do fun R1 hR1=>?_|refine SART.do fun R1 hR1=>?_|refine SARB.keep fun R1 hR1=>?_|refine SARB.any fun R1 hR1=>?_);(simp only [go_sem,seval,-List.reduceReplicate,Bool.cond_false_right,Bool.cond_true_left,List.getElem?_cons_succ,List.getElem?_cons_zero,List.set_cons_succ,List.set_cons_zero,machV.s1,machV.s4,machV.s5,machV.v0,machV.v1,machV.v2,machV.v3,machV.v4,machV.v5,hgc,hgs,set_chns,set_ints,List.set_set,Chn.put0,Chn.put1,Chn.put2,Chn.put3,Chn.put4,Chn.put5,Stt.put0,Stt.put1,Stt.put2,Stt.put3,Stt.put4,copyA,hlw,hmv]);(repeat' with_reducible refine And.intro ?_ ?_);all_goals first|(refine hR1 _ ?_;clear hR1 R1)|omega|rfl|decide|assumption|(intro _;omega)|(simp;done)|(simp [-List.getD_eq_getElem?_getD];omega)|exact hcode _|(intro _;exact hcode _)|exact hsl _|(intro _;exact hsl _))
  | ((with_reducible refine SART.done ?_);refine hR _ ?_;clear hR R;try simp only [go_sem,lv114,lvOf,Nat.reduceBEq,Option.getD_some])
  | (with_reducible first|refine SART.br ?_ ?_|exact SARL.nil|refine SARL.cons ?_ ?_)
  | ((with_reducible refine SARA.nil ?_);refine hR _ ?_;clear hR R;try simp only [go_sem,lv114,lvOf,Nat.reduceBEq,Option.getD_some])
  | (with_reducible first|refine J1 ?_|refine J2 ?_|refine J3 ?_|refine J4 ?_|refine J5 ?_|refine J6 ?_|refine J7 ?_|refine J8 (by decide) ?_|refine J9 ?_|refine J10 ?_|refine J11 ?_|refine J12 ?_|refine J13 ?_|refine J14 ?_|refine J15 ?_|refine J16 ?_|refine J17 ?_|refine J18 ?_|refine J19 ?_)
  | ((with_reducible refine SA.at 6 ?_)
     refine SA.regionT ok mixed (.take 0 (.take 1 (.take 2 (.take 3 (.take 4 (.take 5 (.take 6 (.take 7 (.br 8 .done .nil))))))))) [8] lv114 (by kernel_rfl) (fun R hR=>?_);simp only [go_sem,strip])
  | ((with_reducible refine SA.at 8 ?_)
     refine SA.regionT ok mixed (.take 0 (.take 1 (.take 2 (.take 3 (.take 4 (.take 5 (.take 6 (.take 7 (.br 8 .done .nil))))))))) [8] lv114 (by kernel_rfl) (fun R hR=>?_);simp only [go_sem,strip])
  | ((with_reducible refine J21 ok (by kernel_rfl) lv114 ?_);intro R hR;simp only [go_sem,strip])
  | ((with_reducible refine J20 15 rfl (fun hb15=>?_) (fun hb15=>?_))
     all_goals
      try simp [-List.getD_eq_getElem?_getD] at hb15
      try (exfalso;omega))
  | ((with_reducible refine J20 53 rfl (fun hb53=>?_) (fun hb53=>?_))
     all_goals
      try simp [-List.getD_eq_getElem?_getD] at hb53
      try (exfalso;omega))
  | ((with_reducible first|refine bodyK.normal ?_|refine bodyK.ret ?_)
     simp only [go_sem,resA,resV,backK,seval]
     first
      | (have q:(0:Int)<_:=hb15
         have e:recvS s c=(s.setChn c ⟨(shiftTo (s.chn c).buf ((s.chn c).len-1).toNat).set ((s.chn c).len-1).toNat 0,(s.chn c).len-1,(s.chn c).closed,(s.chn c).offer,(s.chn c).from_,(s.chn c).val⟩,(s.chn c).buf.getD 0 0,true):=if_pos hb15
         rw [e] at h
         rw [shift_buf hb4 (n:=((s.chans.getD c.toNat default).len-1).toNat) (by omega) (fun i h1 h2=>hz i (by omega) h2)]
         exact h)
      | (have q:_=(1:Int):=hb53
         have e:recvS s c=(s.setChn c ⟨(s.chn c).buf,(s.chn c).len,(s.chn c).closed,2,(s.chn c).from_,0⟩,(s.chn c).val,true):=(if_neg (Int.not_lt.2 hb15)).trans (if_pos hb53)
         rw [e] at h
         exact h)
      | (have q:¬_:=hb53
         have e:recvS s c=(s,0,false):=(if_neg (Int.not_lt.2 hb15)).trans (if_neg hb53)
         rw [e] at h
         exact h))
def lv117:List (Nat × List Nat):=[(0,[0,4]),(1,[0,4,5]),(2,[0,5]),(3,[0,5]),(4,[0,30]),(5,[])]
theorem mtaken_call (p:Prg) (s:Stt) (g:Int) (hg:0≤g∧g<6) (hs:s.Shape) (fuel val:Int) (c t:Int) (hc:0≤c∧c<4) (ht:0≤t) {o0 o1 o2 o3 o4 o5 o6:Obj} {tm:Tm} {out:List Tm} {nt:Nat} {xs:List Obj} {K:St→E→Prop} (h:K { tm:=tm,ob:=o0::o1::o2::o3::o4::o5::o6::.var 133 (.data 133 (machD p g fuel (doTaken ⟨s,val,0,t⟩ g c)))::xs,out:=out,nt:=nt } (.tup [])):CallE Go.Proofs.Tryz.prog tab { tm:=tm,ob:=o0::o1::o2::o3::o4::o5::o6::.var 133 (.data 133 (machV p s g fuel val false))::xs,out:=out,nt:=nt } 117 [.ptr 7 [] 133,.int .i64 c] K:=by
 have hs1:=hs.vars
 have hs2:=hs.owner
 have hs3:=hs.chans
 have hs5:=hs.gos
 have hcl:c.toNat<s.chans.length:=by omega
 have hgc:∀ d,(s.chans.map Chn.v).getD c.toNat d=(s.chans.getD c.toNat default).v:=fun d=>getD_chns hcl d
 have hgs:∀ (X:Chn) d,((s.chans.set c.toNat X).map Chn.v).getD c.toNat d=X.v:=fun X d=>chn_set hcl X d
 refine CallE.body ok Go.Proofs.Tryz.func117 rfl rfl 33 rfl [] rfl (by simp) ?_
 simp only [enter,args0,Nat.zero_add,Nat.reduceAdd]
 repeat' first
  | ((with_reducible refine SARA.do fun R1 hR1=>?_);(simp only [go_sem,seval,-List.reduceReplicate,Bool.cond_false_right,Bool.cond_true_left,List.getElem?_cons_succ,List.getElem?_cons_zero,List.set_cons_succ,List.set_cons_zero,machV.s1,machV.s4,machV.s5,machV.v0,machV.v1,machV.v2,machV.v3,machV.v4,machV.v5,hgc,hgs,set_chns,set_ints,List.set_set,Chn.put0,Chn.put1,Chn.put2,Chn.put3,Chn.put4,Chn.put5,Stt.put0,Stt.put1,Stt.put2,Stt.put3,Stt.put4]);(repeat' with_reducible refine And.intro ?_ ?_);all_goals first|(refine hR1 _ ?_;clear hR1 R1)|((first|refine ⟨_,_,rfl,.inr (mown_call p _ g hg (by first|exact hs5|simpa using hs5) fuel _ _ ?_)⟩|refine ⟨_,_,rfl,.inr (mfail_call p _ g hg (by first|exact hs5|simpa using hs5) fuel _ _ _ ?_)⟩);all_goals ((try simp only [go_sem,seval,-List.reduceReplicate,Bool.cond_false_right,Bool.cond_true_left,List.getElem?_cons_succ,List.getElem?_cons_zero,List.set_cons_succ,List.set_cons_zero,machV.s1,machV.s4,machV.s5,machV.v0,machV.v1,machV.v2,machV.v3,machV.v4,machV.v5,hgc,hgs,set_chns,set_ints,List.set_set,Chn.put0,Chn.put1,Chn.put2,Chn.put3,Chn.put4,Chn.put5,Stt.put0,Stt.put1,Stt.put2,Stt.put3,Stt.put4]);(repeat' with_reducible refine And.intro ?_ ?_);all_goals first|(refine hR1 _ ?_;clear hR1 R1)|omega|rfl|decide|assumption|(intro _;omega)|(simp;done)|(simp [-List.getD_eq_getElem?_getD];omega)|exact hcode _|(intro _;exact hcode _)|exact hsl _|(intro _;exact hsl _)))|omega|rfl|decide|assumption|(intro _;omega)|(simp;done)|(simp [-List.getD_eq_getElem?_getD];omega)|exact hcode _|(intro _;exact hcode _)|exact hsl _|(intro _;exact hsl _))
  | ((with_reducible refine SARA.nil ?_);refine hR _ ?_;clear hR R;try simp only [go_sem,lv117,lvOf,Nat.reduceBEq,Option.getD_some])
  | (with_reducible first|refine J1 ?_|refine J2 ?_|refine J3 ?_|refine J4 ?_|refine J5 ?_|refine J6 ?_|refine J7 ?_|refine J8 (by decide) ?_|refine J9 ?_|refine J10 ?_|refine J11 ?_|refine J12 ?_|refine J13 ?_|refine J14 ?_|refine J15 ?_|refine J16 ?_|refine J17 ?_|refine J18 ?_|refine J19 ?_)
  | ((with_reducible refine J21 ok (by kernel_rfl) lv117 ?_);intro R hR;simp only [go_sem,strip])
  | ((with_reducible refine J20 30 rfl (fun hb30=>?_) (fun hb30=>?_))
     all_goals
      try simp [-List.getD_eq_getElem?_getD] at hb30
      try (exfalso;omega))
  | ((with_reducible first|refine bodyK.normal ?_|refine bodyK.ret ?_)
     simp only [go_sem,resA,resV,backK,seval]
     first
      | (have q:_=(3:Int):=hb30
         have e:doTaken ⟨s,val,0,t⟩ g c=⟨(s.setChn c ⟨(s.chn c).buf,(s.chn c).len,(s.chn c).closed,0,0,0⟩).setStatus g 1,val,4,t⟩:=congrArg (fun w=>(⟨(s.setChn c ⟨(s.chn c).buf,(s.chn c).len,(s.chn c).closed,0,0,0⟩).setStatus g 1,val,w,t⟩:Did)) (if_pos hb30)
         rw [e,machD_fail (show (4:Int)≠0 by decide)] at h
         exact h)
      | (have q:¬_:=hb30
         have e:doTaken ⟨s,val,0,t⟩ g c=⟨(s.setChn c ⟨(s.chn c).buf,(s.chn c).len,(s.chn c).closed,0,0,0⟩).setStatus g 1,val,0,t⟩:=congrArg (fun w=>(⟨(s.setChn c ⟨(s.chn c).buf,(s.chn c).len,(s.chn c).closed,0,0,0⟩).setStatus g 1,val,w,t⟩:Did)) (if_neg hb30)
         rw [e,machD_ok ht] at h
         exact h))
def lv118:List (Nat × List Nat):=[(0,[0,4]),(1,[0,4,14]),(2,[]),(3,[4]),(4,[4,24]),(5,[])]
theorem mshut_call (p:Prg) (s:Stt) (g:Int) (hg:0≤g∧g<6) (hs:s.Shape) (fuel val:Int) (c t:Int) (hc:0≤c∧c<4) (ht:0≤t) {o0 o1 o2 o3 o4 o5 o6:Obj} {tm:Tm} {out:List Tm} {nt:Nat} {xs:List Obj} {K:St→E→Prop} (h:K { tm:=tm,ob:=o0::o1::o2::o3::o4::o5::o6::.var 133 (.data 133 (machD p g fuel (doClose ⟨s,val,0,t⟩ c)))::xs,out:=out,nt:=nt } (.tup [])):CallE Go.Proofs.Tryz.prog tab { tm:=tm,ob:=o0::o1::o2::o3::o4::o5::o6::.var 133 (.data 133 (machV p s g fuel val false))::xs,out:=out,nt:=nt } 118 [.ptr 7 [] 133,.int .i64 c] K:=by
 have hs1:=hs.vars
 have hs2:=hs.owner
 have hs3:=hs.chans
 have hs5:=hs.gos
 have hcl:c.toNat<s.chans.length:=by omega
 have hgc:∀ d,(s.chans.map Chn.v).getD c.toNat d=(s.chans.getD c.toNat default).v:=fun d=>getD_chns hcl d
 have hgs:∀ (X:Chn) d,((s.chans.set c.toNat X).map Chn.v).getD c.toNat d=X.v:=fun X d=>chn_set hcl X d
 refine CallE.body ok Go.Proofs.Tryz.func118 rfl rfl 31 rfl [] rfl (by simp) ?_
 simp only [enter,args0,Nat.zero_add,Nat.reduceAdd]
 repeat' first
  | ((with_reducible refine SARA.do fun R1 hR1=>?_);(simp only [go_sem,seval,-List.reduceReplicate,Bool.cond_false_right,Bool.cond_true_left,List.getElem?_cons_succ,List.getElem?_cons_zero,List.set_cons_succ,List.set_cons_zero,machV.s1,machV.s4,machV.s5,machV.v0,machV.v1,machV.v2,machV.v3,machV.v4,machV.v5,hgc,hgs,set_chns,set_ints,List.set_set,Chn.put0,Chn.put1,Chn.put2,Chn.put3,Chn.put4,Chn.put5,Stt.put0,Stt.put1,Stt.put2,Stt.put3,Stt.put4]);(repeat' with_reducible refine And.intro ?_ ?_);all_goals first|(refine hR1 _ ?_;clear hR1 R1)|((first|refine ⟨_,_,rfl,.inr (mfail_call p _ g hg (by first|exact hs5|simpa using hs5) fuel _ _ _ ?_)⟩);all_goals ((try simp only [go_sem,seval,-List.reduceReplicate,Bool.cond_false_right,Bool.cond_true_left,List.getElem?_cons_succ,List.getElem?_cons_zero,List.set_cons_succ,List.set_cons_zero,machV.s1,machV.s4,machV.s5,machV.v0,machV.v1,machV.v2,machV.v3,machV.v4,machV.v5,hgc,hgs,set_chns,set_ints,List.set_set,Chn.put0,Chn.put1,Chn.put2,Chn.put3,Chn.put4,Chn.put5,Stt.put0,Stt.put1,Stt.put2,Stt.put3,Stt.put4]);(repeat' with_reducible refine And.intro ?_ ?_);all_goals first|(refine hR1 _ ?_;clear hR1 R1)|omega|rfl|decide|assumption|(intro _;omega)|(simp;done)|(simp [-List.getD_eq_getElem?_getD];omega)|exact hcode _|(intro _;exact hcode _)|exact hsl _|(intro _;exact hsl _)))|omega|rfl|decide|assumption|(intro _;omega)|(simp;done)|(simp [-List.getD_eq_getElem?_getD];omega)|exact hcode _|(intro _;exact hcode _)|exact hsl _|(intro _;exact hsl _))
  | ((with_reducible refine SARA.nil ?_);refine hR _ ?_;clear hR R;try simp only [go_sem,lv118,lvOf,Nat.reduceBEq,Option.getD_some])
  | (with_reducible first|refine J1 ?_|refine J2 ?_|refine J3 ?_|refine J4 ?_|refine J5 ?_|refine J6 ?_|refine J7 ?_|refine J8 (by decide) ?_|refine J9 ?_|refine J10 ?_|refine J11 ?_|refine J12 ?_|refine J13 ?_|refine J14 ?_|refine J15 ?_|refine J16 ?_|refine J17 ?_|refine J18 ?_|refine J19 ?_)
  | ((with_reducible refine J21 ok (by kernel_rfl) lv118 ?_);intro R hR;simp only [go_sem,strip])
  | ((with_reducible refine J20 14 rfl (fun hb14=>?_) (fun hb14=>?_))
     all_goals
      try simp [-List.getD_eq_getElem?_getD] at hb14
      try (exfalso;omega))
  | ((with_reducible refine J20 24 rfl (fun hb24=>?_) (fun hb24=>?_))
     all_goals
      try simp [-List.getD_eq_getElem?_getD] at hb24
      try (exfalso;omega))
  | ((with_reducible first|refine bodyK.normal ?_|refine bodyK.ret ?_)
     simp only [go_sem,resA,resV,backK,seval]
     first
      | (have q:_=true:=hb14
         have e:doClose ⟨s,val,0,t⟩ c=⟨s,val,5,t⟩:=if_pos hb14
         rw [e,machD_fail (show (5:Int)≠0 by decide)] at h
         exact h)
      | (have q:_=(1:Int):=hb24
         have e:doClose ⟨s,val,0,t⟩ c=⟨s.setChn c ⟨(s.chn c).buf,(s.chn c).len,true,3,(s.chn c).from_,0⟩,val,0,t⟩:=(if_neg (by rw [show (s.chn c).closed=false from hb14];decide)).trans (if_pos hb24)
         rw [e,machD_ok ht] at h
         exact h)
      | (have q:¬_:=hb24
         have e:doClose ⟨s,val,0,t⟩ c=⟨s.setChn c ⟨(s.chn c).buf,(s.chn c).len,true,(s.chn c).offer,(s.chn c).from_,(s.chn c).val⟩,val,0,t⟩:=(if_neg (by rw [show (s.chn c).closed=false from hb14];decide)).trans (if_neg hb24)
         rw [e,machD_ok ht] at h
         exact h))
def lv116:List (Nat × List Nat):=[(0,[0]),(1,[3]),(2,[2]),(3,[2])]
theorem mnumber_ctr (b:Bool):Ctr Go.Proofs.Tryz.prog tab 116 [4] [2] [.bool b] [.int (yes b)]:=by
 refine Ctr.body ok Go.Proofs.Tryz.func116 rfl rfl 4 rfl [.tmp 2] rfl (by simp [fromVs]) ?_
 simp only [fromVs,fromV,args0,V.toList_list,V.toInt_int,V.toBool_bool,Nat.zero_add,Nat.reduceAdd,ty4]
 repeat' first
  | ((with_reducible refine SARA.do fun R1 hR1=>?_);(simp only [go_sem,seval,-List.reduceReplicate,Bool.cond_false_right,Bool.cond_true_left,List.getElem?_cons_succ,List.getElem?_cons_zero,List.set_cons_succ,List.set_cons_zero]);(repeat' with_reducible refine And.intro ?_ ?_);all_goals first|(refine hR1 _ ?_;clear hR1 R1)|omega|rfl|decide|assumption|(intro _;omega)|(simp;done)|(simp [-List.getD_eq_getElem?_getD];omega)|exact hcode _|(intro _;exact hcode _)|exact hsl _|(intro _;exact hsl _))
  | ((with_reducible refine SARA.nil ?_);refine hR _ ?_;clear hR R;try simp only [go_sem,lv116,lvOf,Nat.reduceBEq,Option.getD_some])
  | (with_reducible first|refine J1 ?_|refine J2 ?_|refine J3 ?_|refine J4 ?_|refine J5 ?_|refine J6 ?_|refine J7 ?_|refine J8 (by decide) ?_|refine J9 ?_|refine J10 ?_|refine J11 ?_|refine J12 ?_|refine J13 ?_|refine J14 ?_|refine J15 ?_|refine J16 ?_|refine J17 ?_|refine J18 ?_|refine J19 ?_)
  | ((with_reducible refine J21 ok (by kernel_rfl) lv116 ?_);intro R hR;simp only [go_sem,strip])
  | ((with_reducible refine J20 3 rfl (fun hb3=>?_) (fun hb3=>?_))
     all_goals
      try simp only [decide_eq_true_eq,decide_eq_false_iff_not] at hb3)
  | ((with_reducible first|refine ctrK.normal ?_|refine ctrK.ret ?_)
     simp only [go_sem,resA,resV,backK,seval]
     have q:=hb3
     rw [hb3]
     exact ⟨rfl,rfl⟩)
end Go.Eng.Tryz
namespace Go.Eng
structure VarsIn (x:Instr):Prop where
 i50:x.op=50→x.a<8∧0≤x.b∧x.b<8
 i51:x.op=51→(0≤x.a∧x.a<8)∧0≤x.b∧x.b<8
 i52:x.op=52→x.a<8∧(0≤x.b∧x.b<8)∧0≤x.c∧x.c<8
 i53:x.op=53→x.a<8∧(0≤x.b∧x.b<8)∧(0≤x.c∧x.c<8)∧0≤x.n∧x.n<8
 i54:x.op=54→0≤x.b∧x.b<8
 i55:x.op=55∨x.op=56→0≤x.a∧x.a<4
 i57:x.op=57→x.a<8∧0≤x.b∧x.b<4
section
variable {s:Stt} {g t:Int} {x:Instr}
abbrev regOf (s:Stt) (g r:Int):Int:=(s.gos.getD g.toNat default).regs.getD r.toNat 0
abbrev varOf (s:Stt) (k:Int):Int:=s.vars.getD k.toNat 0
theorem dv50 (h:x.op=50):doVars ⟨s,0,0,t⟩ g x=⟨s.setReg g x.a (varOf s x.b),varOf s x.b,0,t⟩:=if_pos h
theorem dv51 (h:x.op=51):doVars ⟨s,0,0,t⟩ g x=⟨⟨s.vars.set x.a.toNat (regOf s g x.b),s.owner,s.chans,s.gos,s.count⟩,regOf s g x.b,0,t⟩:=(if_neg (by omega)).trans (if_pos h)
theorem dv52 (h:x.op=52):doVars ⟨s,0,0,t⟩ g x=⟨⟨(s.setReg g x.a (varOf s x.b)).vars.set x.b.toNat (IntKind.i64.wrap (varOf (s.setReg g x.a (varOf s x.b)) x.b+regOf s g x.c)),(s.setReg g x.a (varOf s x.b)).owner,(s.setReg g x.a (varOf s x.b)).chans,(s.setReg g x.a (varOf s x.b)).gos,(s.setReg g x.a (varOf s x.b)).count⟩,regOf s g x.c,0,t⟩ :=
 (if_neg (by omega)).trans ((if_neg (by omega)).trans (if_pos h))
theorem dv53 (h:x.op=53) (hv:yes (decide (varOf s x.b=regOf s g x.c))=1):doVars ⟨s,0,0,t⟩ g x=⟨Stt.setReg ⟨s.vars.set x.b.toNat (regOf s g x.n),s.owner,s.chans,s.gos,s.count⟩ g x.a (yes (decide (varOf s x.b=regOf s g x.c))),yes (decide (varOf s x.b=regOf s g x.c)),0,t⟩ :=
 (if_neg (by omega)).trans ((if_neg (by omega)).trans ((if_neg (by omega)).trans ((if_pos h).trans (congrArg (fun u:Stt=>(⟨u.setReg g x.a (yes (decide (varOf s x.b=regOf s g x.c))),yes (decide (varOf s x.b=regOf s g x.c)),0,t⟩:Did)) (if_pos hv)))))
theorem dv53' (h:x.op=53) (hv:¬yes (decide (varOf s x.b=regOf s g x.c))=1):doVars ⟨s,0,0,t⟩ g x=⟨s.setReg g x.a (yes (decide (varOf s x.b=regOf s g x.c))),yes (decide (varOf s x.b=regOf s g x.c)),0,t⟩ :=
 (if_neg (by omega)).trans ((if_neg (by omega)).trans ((if_neg (by omega)).trans ((if_pos h).trans (congrArg (fun u:Stt=>(⟨u.setReg g x.a (yes (decide (varOf s x.b=regOf s g x.c))),yes (decide (varOf s x.b=regOf s g x.c)),0,t⟩:Did)) (if_neg hv)))))
theorem dv54 (h:x.op=54):doVars ⟨s,0,0,t⟩ g x=⟨s,regOf s g x.b,0,t⟩:=(if_neg (by omega)).trans ((if_neg (by omega)).trans ((if_neg (by omega)).trans ((if_neg (by omega)).trans (if_pos h))))
theorem dv55 (h:x.op=55):doVars ⟨s,0,0,t⟩ g x=⟨⟨s.vars,s.owner.set x.a.toNat (g+1),s.chans,s.gos,s.count⟩,0,0,t⟩:=(if_neg (by omega)).trans ((if_neg (by omega)).trans ((if_neg (by omega)).trans ((if_neg (by omega)).trans ((if_neg (by omega)).trans (if_pos h)))))
theorem dv56 (h:x.op=56) (ho:s.owner.getD x.a.toNat 0=g+1):doVars ⟨s,0,0,t⟩ g x=⟨⟨s.vars,s.owner.set x.a.toNat 0,s.chans,s.gos,s.count⟩,0,0,t⟩:=(if_neg (by omega)).trans ((if_neg (by omega)).trans ((if_neg (by omega)).trans ((if_neg (by omega)).trans ((if_neg (by omega)).trans ((if_neg (by omega)).trans ((if_pos h).trans (if_neg (fun q=>q ho))))))))
theorem dv56' (h:x.op=56) (ho:¬s.owner.getD x.a.toNat 0=g+1):doVars ⟨s,0,0,t⟩ g x=⟨s,0,6,t⟩:=(if_neg (by omega)).trans ((if_neg (by omega)).trans ((if_neg (by omega)).trans ((if_neg (by omega)).trans ((if_neg (by omega)).trans ((if_neg (by omega)).trans ((if_pos h).trans (if_pos ho)))))))
theorem dv57 (h:x.op=57) (hv:yes (decide (s.owner.getD x.b.toNat 0=0))=1):doVars ⟨s,0,0,t⟩ g x=⟨Stt.setReg ⟨s.vars,s.owner.set x.b.toNat (g+1),s.chans,s.gos,s.count⟩ g x.a (yes (decide (s.owner.getD x.b.toNat 0=0))),yes (decide (s.owner.getD x.b.toNat 0=0)),0,t⟩ :=
 (if_neg (by omega)).trans ((if_neg (by omega)).trans ((if_neg (by omega)).trans ((if_neg (by omega)).trans ((if_neg (by omega)).trans ((if_neg (by omega)).trans ((if_neg (by omega)).trans ((if_pos h).trans (congrArg (fun u:Stt=>(⟨u.setReg g x.a (yes (decide (s.owner.getD x.b.toNat 0=0))),yes (decide (s.owner.getD x.b.toNat 0=0)),0,t⟩:Did)) (if_pos hv)))))))))
theorem dv57' (h:x.op=57) (hv:¬yes (decide (s.owner.getD x.b.toNat 0=0))=1):doVars ⟨s,0,0,t⟩ g x=⟨s.setReg g x.a (yes (decide (s.owner.getD x.b.toNat 0=0))),yes (decide (s.owner.getD x.b.toNat 0=0)),0,t⟩ :=
 (if_neg (by omega)).trans ((if_neg (by omega)).trans ((if_neg (by omega)).trans ((if_neg (by omega)).trans ((if_neg (by omega)).trans ((if_neg (by omega)).trans ((if_neg (by omega)).trans ((if_pos h).trans (congrArg (fun u:Stt=>(⟨u.setReg g x.a (yes (decide (s.owner.getD x.b.toNat 0=0))),yes (decide (s.owner.getD x.b.toNat 0=0)),0,t⟩:Did)) (if_neg hv)))))))))
theorem dvElse (h:x.op<50∨57<x.op):doVars ⟨s,0,0,t⟩ g x=⟨s,0,0,t⟩:=(if_neg (by omega)).trans ((if_neg (by omega)).trans ((if_neg (by omega)).trans ((if_neg (by omega)).trans ((if_neg (by omega)).trans ((if_neg (by omega)).trans ((if_neg (by omega)).trans (if_neg (by omega))))))))
theorem setReg_gos (s:Stt) (g r v:Int):(s.setReg g r v).gos.length=s.gos.length:=by
 unfold Stt.setReg
 split
 · simp
 · rfl
def selDid (p:Prg) (s:Stt) (g:Int) (q:Sel) (alt:Int):Did :=
 if alt=q.cases.length then ⟨s,0,0,q.els⟩
 else if (q.cases.getD alt.toNat default).send then doSend p ⟨s,0,0,(q.cases.getD alt.toNat default).to_⟩ g (q.cases.getD alt.toNat default).chan (regOf s g (q.cases.getD alt.toNat default).reg)
 else doRecv ⟨s,0,0,(q.cases.getD alt.toNat default).to_⟩ g (q.cases.getD alt.toNat default).chan (q.cases.getD alt.toNat default).reg (-1)
theorem sel_else {p:Prg} {q:Sel} {alt:Int} (h:alt=q.cases.length):selDid p s g q alt=⟨s,0,0,q.els⟩:=if_pos h
theorem sel_send {p:Prg} {q:Sel} {alt:Int} (h:¬alt=q.cases.length) (hs:(q.cases.getD alt.toNat default).send=true):selDid p s g q alt=doSend p ⟨s,0,0,(q.cases.getD alt.toNat default).to_⟩ g (q.cases.getD alt.toNat default).chan (regOf s g (q.cases.getD alt.toNat default).reg):=(if_neg h).trans (if_pos hs)
theorem sel_recv {p:Prg} {q:Sel} {alt:Int} (h:¬alt=q.cases.length) (hs:(q.cases.getD alt.toNat default).send=false) (hc:(q.cases.getD alt.toNat default).chan.toNat<s.chans.length):selDid p s g q alt=⟨(recvS s (q.cases.getD alt.toNat default).chan).1.setReg g (q.cases.getD alt.toNat default).reg (recvS s (q.cases.getD alt.toNat default).chan).2.1,(recvS s (q.cases.getD alt.toNat default).chan).2.1,0,(q.cases.getD alt.toNat default).to_⟩:=by
 refine ((if_neg h).trans (if_neg (by rw [hs];decide))).trans ?_
 rw [recv_did hc]
 rfl
def ChansIn (p:Prg) (s:Stt):Prop:=∀ c:Nat,c<p.chans.length→(0≤(s.chans.getD c default).len∧(s.chans.getD c default).len≤p.chans.getD c 0)∧p.chans.getD c 0≤4∧∀ k:Nat,(s.chans.getD c default).len≤k→k<4→(s.chans.getD c default).buf.getD k 0=0
def SelIn (p:Prg) (q:Sel):Prop:=∀ k:Nat,k<q.cases.length→(0≤(q.cases.getD k default).chan∧(q.cases.getD k default).chan<p.chans.length)∧(q.cases.getD k default).reg<8∧((q.cases.getD k default).send=true→0≤(q.cases.getD k default).reg)∧0≤(q.cases.getD k default).to_
theorem recvS_gos (s:Stt) (c:Int):(recvS s c).1.gos=s.gos:=by
 unfold recvS
 (repeat' split)<;>rfl
theorem send_room {p:Prg} {s:Stt} {c:Int} (h:sends p s c=true) (hc:(s.chans.getD c.toNat default).closed=false) (h0:0<p.chans.getD c.toNat 0):(s.chans.getD c.toNat default).len<p.chans.getD c.toNat 0:=by
 unfold sends at h
 rw [if_neg (by rw [show (s.chn c).closed=false from hc];decide),if_pos (show 0<p.cap c from h0)] at h
 exact of_decide_eq_true h
def childTo (s:Stt) (g:Int) (x:Instr) (n:Nat):Gor:=⟨1,x.b,0,0,spawnRegs s g x.c n⟩
theorem childTo_zero:childTo s g x 0=⟨1,x.b,0,0,List.replicate 8 0⟩:=by simp [childTo,spawnRegs];rfl
theorem childTo_succ {n:Nat}:(spawnRegs s g x.c n).set n (regOf s g (x.c+(n:Int)))=spawnRegs s g x.c (n+1):=by
 apply List.ext_getElem
 · simp [spawnRegs]
 · intro i h1 h2
   simp only [spawnRegs,List.getElem_set,List.getElem_map,List.getElem_range]
   by_cases h:n=i
   · subst h
     rw [if_pos rfl,if_pos (by omega)]
     rfl
   · rw [if_neg h]
     by_cases q:i<n
     · rw [if_pos q,if_pos (by omega)]
     · rw [if_neg q,if_neg (by omega)]
theorem spawn_few {p:Prg} {v0:Int} (h:6≤s.count):doSpawn p ⟨s,v0,0,t⟩ g x=⟨s,v0,8,t⟩:=if_pos h
theorem spawn_did {p:Prg} {v0:Int} (h:¬6≤s.count):doSpawn p ⟨s,v0,0,t⟩ g x=⟨Stt.setReg ⟨s.vars,s.owner,s.chans,s.gos.set s.count.toNat (childTo s g x (p.fn x.b).params.toNat),s.count+1⟩ g x.a s.count,s.count,0,t⟩:=if_neg h
end
end Go.Eng
namespace Go.Eng.Tryz
open Go.RowKit Go.Eng
set_option maxHeartbeats 0
set_option maxRecDepth 20000
theorem own_calls (b:Nat) (w:World) (x:Int) (hx:0≤x∧x<6) (hc:w.cell? ⟨b,125,none⟩=some (.int .i64 x)):Calls Go.Proofs.Tryz.prog 67 #[.pointer (some ⟨b,0,none⟩)] w fun e w'=>e=.returned (.pointer (some ⟨b,52+x.toNat*12,none⟩))∧Below w.heap.size w w':=by
 go_enter Go.Proofs.Tryz.func67,Go.Proofs.Tryz.ntmps67
 go_wp2
 go_region
 go_wp2
 go_ret
 exact ⟨rfl,(Below.refl _ _).drew⟩
theorem own_path {g:Int} (hg:0≤g∧g<6):PathOk tab 133 [g.toNat,3,1] (52+g.toNat*12) 34:=by
 have h1:PathOk tab 133 [1] 4 37:=PathOk.fld PathOk.nil ty133 rfl
 have h2:PathOk tab 133 [3,1] 52 35:=PathOk.fld h1 ty37 rfl
 exact PathOk.idx h2 ty35 (by omega)
theorem mown_callQ (p:Prg) (s:Stt) (g:Int) (hg:0≤g∧g<6) (fuel val:Int) (failed:Bool) {σ:St} (ho:σ.ob[7]?=some (.var 133 (.data 133 (machV p s g fuel val failed)))):CallQ Go.Proofs.Tryz.prog tab σ 67 [.ptr 7 [] 133] (.ptr 7 [g.toNat,3,1] 34):=by
 refine ⟨enters_of Go.Proofs.Tryz.func67 rfl rfl,fun w0 w F ρ tmps outs xs hR hx=>?_⟩
 match xs,hx with
 | [v],⟨hv,_⟩ =>
   obtain ⟨b,root,off,hρ,hp,rfl⟩:=hv
   cases hp
   have h7:=hR.ob 7 _ ho
   rw [hρ] at h7
   obtain ⟨_,_,_,cs,ct,v,hb,hv,hH,_⟩:=h7
   obtain ⟨cs',rfl,hagg,hfit⟩:=hv
   have hcs:cs'=cs:=by
    have h:=hH.2
    rw [if_pos hagg] at h
    exact (Value.agg.inj h)
   subst hcs
   have h2:PathOk tab 133 [2] 125 3:=PathOk.fld PathOk.nil ty133 rfl
   obtain ⟨hf,hl⟩:=h2.get ok.sized hfit
   have hc1:(cs'.toList.drop 125).take (tab.sz 3)=[.int .i64 g]:=by
    generalize (cs'.toList.drop 125).take (tab.sz 3)=q at hf
    have e:(machV p s g fuel val failed).get [2]=.int g:=rfl
    rw [e] at hf
    cases hf with
    | int a c =>
      have:tab.ty 3=.int .i64:=rfl
      rw [this] at a
      cases a
      rfl
   have hcell:cs'[125]?=some (.int .i64 g):=by
    have h:=congrArg (fun l:List Value=>l[0]?) hc1
    simp [show tab.sz 3=1 from rfl] at h
    simpa using h
   refine ⟨_,⟨b,_,_,hρ,own_path hg,rfl⟩,fun w' hw=>own_calls b w' g hg ?_⟩
   have hbl:w'.heap[b]?=some (.cells cs' ct (0,0)):=by rw [hw.block b (Array.getElem?_eq_some_iff.1 hb).1];exact hb
   simp [World.cell?,hbl,hcell]
end Go.Eng.Tryz
