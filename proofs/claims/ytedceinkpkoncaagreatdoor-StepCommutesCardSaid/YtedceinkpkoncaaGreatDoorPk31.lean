/- A part of the proof: walks through the program's functions, and what they compute. -/
import Derived.Test.YtedceinkpkoncaaGreatDoorPk30
import Derived.Test.YtedceinkpkoncaaGreatDoorPk20
set_option linter.unusedSimpArgs false
set_option linter.unusedVariables false
namespace Go.Eng
section
variable {p:Prg} {s:Stt} {g:Int}
def NextOk (s:Stt) (d:Did) (nx md:Int):Prop:=d.why=0→0≤d.to_→nx=d.to_∧md=if s.count<d.s.count then s.count else -1
theorem NextOk.same {d:Did} {nx:Int} (hc:d.s.count=s.count) (ht:d.why=0→0≤d.to_→nx=d.to_):NextOk s d nx (-1):=fun h1 h2=>⟨ht h1 h2,by rw [hc,if_neg (by omega)]⟩
theorem NextOk.vars {t:Int} {x:Instr}:NextOk s (doVars ⟨s,0,0,t⟩ g x) t (-1):=by
 refine NextOk.same (doVars_count _ _ _) fun _ _=>?_
 unfold doVars
 (repeat' split)<;>rfl
theorem NextOk.send {t v0 c v:Int}:NextOk s (doSend p ⟨s,v0,0,t⟩ g c v) t (-1):=by
 refine NextOk.same (doSend_same p _ g c v).count fun h1 h2=>?_
 unfold doSend at h1 h2 ⊢
 simp only at h1 h2 ⊢
 split
 · rfl
 · rename_i q
   rw [if_neg q] at h2
   split
   · rfl
   · rename_i q2
     rw [if_neg q2] at h2
     simp at h2
theorem NextOk.recv {t v0 c r ok:Int}:NextOk s (doRecv ⟨s,v0,0,t⟩ g c r ok) t (-1):=by
 refine NextOk.same (doRecv_same _ g c r ok).count fun _ _=>?_
 unfold doRecv
 simp only
 (repeat' split)<;>rfl
theorem NextOk.close {t v0 c:Int}:NextOk s (doClose ⟨s,v0,0,t⟩ c) t (-1):=by
 refine NextOk.same (doClose_same _ c).count fun _ _=>?_
 unfold doClose
 simp only
 (repeat' split)<;>rfl
theorem NextOk.taken {t v0 c:Int}:NextOk s (doTaken ⟨s,v0,0,t⟩ g c) t (-1):=NextOk.same rfl fun _ _=>rfl
theorem NextOk.spawn {t:Int} {x:Instr}:NextOk s (doSpawn p ⟨s,0,0,t⟩ g x) t (if s.count=6 then -1 else s.count):=by
 by_cases h:6≤s.count
 · rw [spawn_few h];intro h1;exact absurd h1 (show ¬(8:Int)=0 by decide)
 · rw [spawn_did h]
   intro _ _
   have e:(Stt.setReg ⟨s.vars,s.owner,s.chans,s.gos.set s.count.toNat (childTo s g x (p.fn x.b).params.toNat),s.count+1⟩ g x.a s.count).count=s.count+1:=setReg_count _ _ _ _
   refine ⟨rfl,?_⟩
   show _=if s.count<(Stt.setReg _ g x.a s.count).count then _ else _
   rw [e,if_neg (by omega),if_pos (by omega)]
theorem NextOk.sel {q:Sel} {alt:Int}:NextOk s (selDid p s g q alt) (if alt=q.cases.length then q.els else (q.cases.getD alt.toNat default).to_) (-1):=by
 unfold selDid
 split
 · exact NextOk.same rfl fun _ _=>rfl
 · split
   · exact NextOk.send
   · exact NextOk.recv
section
variable {alt:Int}
theorem vis_at58 (h:opAt p s g=58):visible p s g alt=doSend p ⟨s,0,0,(s.gor g).pc+1⟩ g (instrAt p s g).a (regOf s g (instrAt p s g).b):=(if_neg (by omega)).trans (if_pos h)
theorem vis_at59 (h:opAt p s g=59):visible p s g alt=doRecv ⟨s,0,0,(s.gor g).pc+1⟩ g (instrAt p s g).b (instrAt p s g).a (instrAt p s g).c:=(if_neg (by omega)).trans ((if_neg (by omega)).trans (if_pos h))
theorem vis_at66 (h:opAt p s g=66):visible p s g alt=doTaken ⟨s,0,0,(s.gor g).pc+1⟩ g (instrAt p s g).a:=if_pos h
theorem vis_at60 (h:opAt p s g=60):visible p s g alt=doClose ⟨s,0,0,(s.gor g).pc+1⟩ (instrAt p s g).a:=(if_neg (by omega)).trans ((if_neg (by omega)).trans ((if_neg (by omega)).trans (if_pos h)))
theorem vis_at62 (h:opAt p s g=62):visible p s g alt=doSpawn p ⟨s,0,0,(s.gor g).pc+1⟩ g (instrAt p s g):=(if_neg (by omega)).trans ((if_neg (by omega)).trans ((if_neg (by omega)).trans ((if_neg (by omega)).trans (if_pos h))))
theorem vis_at63 (h:opAt p s g=63):visible p s g alt=if regOf s g (instrAt p s g).a<0∨s.count≤regOf s g (instrAt p s g).a∨regOf s g (instrAt p s g).a=g then ⟨s,0,7,(s.gor g).pc+1⟩ else ⟨s,regOf s g (instrAt p s g).a,0,(s.gor g).pc+1⟩:=(if_neg (by omega)).trans ((if_neg (by omega)).trans ((if_neg (by omega)).trans ((if_neg (by omega)).trans ((if_neg (by omega)).trans (if_pos h)))))
theorem vis_at65 (h:opAt p s g=65):visible p s g alt=⟨s,regOf s g (instrAt p s g).a,0,(s.gor g).pc+1⟩:=(if_neg (by omega)).trans ((if_neg (by omega)).trans ((if_neg (by omega)).trans ((if_neg (by omega)).trans ((if_neg (by omega)).trans ((if_neg (by omega)).trans (if_pos h))))))
theorem vis_at61 (h:opAt p s g=61):visible p s g alt=selDid p s g (selAt p s g) alt:=(if_neg (by omega)).trans ((if_neg (by omega)).trans ((if_neg (by omega)).trans ((if_neg (by omega)).trans ((if_neg (by omega)).trans ((if_neg (by omega)).trans ((if_neg (by omega)).trans (if_pos h)))))))
theorem vis_atV (h:opAt p s g≠66∧opAt p s g≠58∧opAt p s g≠59∧opAt p s g≠60∧opAt p s g≠62∧opAt p s g≠63∧opAt p s g≠65∧opAt p s g≠61):visible p s g alt=doVars ⟨s,0,0,(s.gor g).pc+1⟩ g (instrAt p s g):=(if_neg h.1).trans ((if_neg h.2.1).trans ((if_neg h.2.2.1).trans ((if_neg h.2.2.2.1).trans ((if_neg h.2.2.2.2.1).trans ((if_neg h.2.2.2.2.2.1).trans ((if_neg h.2.2.2.2.2.2.1).trans (if_neg h.2.2.2.2.2.2.2)))))))
end
theorem there_false {k:Int} (h:thereB s g k=false):k<0∨s.count≤k∨k=g:=by
 unfold thereB at h
 simp at h
 omega
theorem there_true {k:Int} (h:thereB s g k=true):¬(k<0∨s.count≤k∨k=g):=by
 unfold thereB at h
 simp at h
 omega
theorem atI_same (h:opAt p s g≠66):atI p s g=instrAt p s g:=by
 have e:opAt p s g=(instrAt p s g).op:=by
  unfold opAt at h ⊢
  split
  · rename_i q;rw [if_pos q] at h;exact absurd rfl h
  · rfl
 unfold atI
 rw [e]
theorem doVars_atI (h:opAt p s g≠66) {d:Did}:doVars d g (atI p s g)=doVars d g (instrAt p s g):=by rw [atI_same h]
theorem vars_in (hok:p.Ok) (hw:Wf p s) (hg:0≤g∧g<s.count):VarsIn (atI p s g):=by
 have hrt:instrErr p (p.funcs.getD (s.gos.getD g.toNat default).func.toNat default) (instrAt p s g)=0:=hw.right hok hg.1 hg.2
 have hrg:=hok.regs (s.gos.getD g.toNat default).func.toNat
 have hsz:=hok.sizes
 unfold Sizes at hsz
 have key:∀ k:Int,(atI p s g).op=k→k≠66→(instrAt p s g).op=k:=fun k h hk=>hw.op_at hok hg.1 hg.2 h hk
 refine ⟨fun h=>?_,fun h=>?_,fun h=>?_,fun h=>?_,fun h=>?_,fun h=>?_,fun h=>?_⟩
 · have:=vis50 hrt (key 50 h (by decide));show (instrAt p s g).a<8∧0≤(instrAt p s g).b∧(instrAt p s g).b<8;omega
 · have:=vis51 hrt (key 51 h (by decide));show (0≤(instrAt p s g).a∧(instrAt p s g).a<8)∧0≤(instrAt p s g).b∧(instrAt p s g).b<8;omega
 · have:=vis52 hrt (key 52 h (by decide));show (instrAt p s g).a<8∧(0≤(instrAt p s g).b∧(instrAt p s g).b<8)∧0≤(instrAt p s g).c∧(instrAt p s g).c<8;omega
 · have:=vis53 hrt (key 53 h (by decide));show (instrAt p s g).a<8∧(0≤(instrAt p s g).b∧(instrAt p s g).b<8)∧(0≤(instrAt p s g).c∧(instrAt p s g).c<8)∧0≤(instrAt p s g).n∧(instrAt p s g).n<8;omega
 · have:=vis54 hrt (key 54 h (by decide));show 0≤(instrAt p s g).b∧(instrAt p s g).b<8;omega
 · have:=vis55 hrt (h.imp (fun q=>key 55 q (by decide)) (fun q=>key 56 q (by decide)));show 0≤(instrAt p s g).a∧(instrAt p s g).a<4;omega
 · have:=vis57 hrt (key 57 h (by decide));show (instrAt p s g).a<8∧0≤(instrAt p s g).b∧(instrAt p s g).b<4;omega
theorem chans_in (hok:p.Ok) (hv:Vld p s):ChansIn p s:=fun c hc=>⟨(hv.chans c hc).len,(hok.caps c).2,(hv.chans c hc).buf⟩
theorem sel_in (hok:p.Ok) {f a:Nat} (hf:f<p.funcs.length) (ha:a<(p.funcs.getD f default).sels.length):SelIn p ((p.funcs.getD f default).sels.getD a default):=fun k hk=>by
 have h:=case_ok hok hf ha hk
 have hr:=hok.regs f
 refine ⟨h.chan,?_,fun hs=>?_,h.to_.1⟩
 · rcases h.reg with q|q<;>omega
 · rcases h.reg with q|q
   · exact q.1
   · rw [q.1] at hs;cases hs
theorem spawn_in (hok:p.Ok) (hw:Wf p s) (hg:0≤g∧g<s.count) (h:opAt p s g=62):(instrAt p s g).a<8∧(0≤(instrAt p s g).b∧(instrAt p s g).b<p.funcs.length)∧0≤(p.fn (instrAt p s g).b).params∧(0<(p.fn (instrAt p s g).b).params→0≤(instrAt p s g).c∧(instrAt p s g).c+(p.fn (instrAt p s g).b).params≤8)∧(p.fn (instrAt p s g).b).params≤8:=by
 have hrt:instrErr p (p.funcs.getD (s.gos.getD g.toNat default).func.toNat default) (instrAt p s g)=0:=hw.right hok hg.1 hg.2
 have hrg:=hok.regs (s.gos.getD g.toNat default).func.toNat
 have hI:=vis62 hrt (hw.op_at hok hg.1 hg.2 h (by decide))
 have hp:=hok.params (instrAt p s g).b.toNat
 have hr2:=hok.regs (instrAt p s g).b.toNat
 have e:p.fn (instrAt p s g).b=p.funcs.getD (instrAt p s g).b.toNat default:=rfl
 rw [e] at hI ⊢
 refine ⟨by omega,hI.2.1,hp.1,fun h0=>?_,by omega⟩
 have h1:=hI.2.2.2 h0
 unfold w64 at h1
 rw [i64_ok (by omega) (by omega)] at h1
 omega
theorem els_in (hok:p.Ok) {f a:Nat} (hf:f<p.funcs.length) (ha:a<(p.funcs.getD f default).sels.length) (h:((p.funcs.getD f default).sels.getD a default).els ≠ -1):0≤((p.funcs.getD f default).sels.getD a default).els:=by
 rcases else_ok hok hf ha with q|q
 · exact absurd q h
 · exact q.1
theorem alt_in {alt:Int} (ha:alt∈alts p s g) (h:opAt p s g=61):(0≤alt∧alt≤((selAt p s g).cases.length:Int))∧(alt<((selAt p s g).cases.length:Int)→caseOk p s ((selAt p s g).cases.getD alt.toNat default)=true)∧(alt=((selAt p s g).cases.length:Int)→(selAt p s g).els ≠ -1):=by
 have hl:=alts_live ha
 unfold alts at ha
 rw [if_pos hl,if_pos h] at ha
 simp only at ha
 split at ha
 · rename_i q
   rcases List.mem_append.1 ha with m|m
   · obtain ⟨k,rfl,hk,hc⟩:=casesTo_mem m
     refine ⟨by omega,fun _=>by simpa using hc,fun e=>by omega⟩
   · simp only [List.mem_singleton] at m
     exact ⟨by omega,fun e=>by omega,fun _=>q.2⟩
 · obtain ⟨k,rfl,hk,hc⟩:=casesTo_mem ha
   exact ⟨by omega,fun _=>by simpa using hc,fun e=>by omega⟩
end
end Go.Eng
namespace Go.Eng.Tryz
open Go.RowKit Go.Eng
set_option maxHeartbeats 0
set_option maxRecDepth 20000
def lv112:List (Nat × List Nat):=[(0,[0,3]),(1,[0,3,5]),(2,[0,3,5,12]),(3,[4]),(4,[0,3,5,12,13]),(5,[0,3]),(6,[]),(7,[0,3,5,12,34]),(8,[0,3]),(9,[]),(10,[0,3,5,12,54]),(11,[0,3]),(12,[0,3]),(13,[]),(14,[0,3,5,12,92]),(15,[0,3,5]),(16,[0,3,5,115]),(17,[0,3]),(18,[]),(19,[0,3,5,12,135]),(20,[]),(21,[0,3,12,144]),(22,[]),(23,[0,3,12,158]),(24,[0,3,173]),(25,[]),(26,[4]),(27,[]),(28,[0,3,183]),(29,[0,3]),(30,[0,3,202]),(31,[0,3]),(32,[]),(33,[4])]
theorem mshared_call (p:Prg) (s:Stt) (g:Int) (hg:0≤g∧g<6) (hs5:s.gos.length=6) (fuel:Int) (t:Int) (ht:0≤t) (x:Instr) (hx:VarsIn x) {o8:Obj} {o0 o1 o2 o3 o4 o5 o6:Obj} {tm:Tm} {out:List Tm} {nt:Nat} {K:St→E→Prop} (h:∀ a b:Obj,K { tm:=tm,ob:=o0::o1::o2::o3::o4::o5::o6::.var 133 (.data 133 (machD p g fuel (doVars ⟨s,0,0,t⟩ g x)))::[o8,a,b],out:=out,nt:=nt } (.bool (decide (50≤x.op∧x.op≤57)))):CallE Go.Proofs.Tryz.prog tab { tm:=tm,ob:=o0::o1::o2::o3::o4::o5::o6::.var 133 (.data 133 (machV p s g fuel 0 false))::[o8],out:=out,nt:=nt } 112 [.ptr 7 [] 133,.data 129 x.v] K:=by
 have hg1:IntKind.i64.wrap (g+1)=g+1:=i64_ok (by omega) (by omega)
 refine CallE.body ok Go.Proofs.Tryz.func112 rfl rfl 223 rfl [.tmp 4] rfl (by simp) ?_
 simp only [enter,args0,Nat.zero_add,Nat.reduceAdd]
 repeat' first
  | ((with_reducible first|refine SARA.do fun R1 hR1=>?_|refine SARQ.do fun R1 hR1=>?_|refine SART.do fun R1 hR1=>?_|refine SARB.keep fun R1 hR1=>?_|refine SARB.any fun R1 hR1=>?_);(simp only [go_sem,seval,-List.reduceReplicate,Bool.cond_false_right,Bool.cond_true_left,List.getElem?_cons_succ,List.getElem?_cons_zero,List.set_cons_succ,List.set_cons_zero,machV.s1,machV.s4,machV.s5,machV.v0,machV.v1,machV.v2,machV.v3,machV.v4,machV.v5,set_chns,set_ints,List.set_set,Chn.put0,Chn.put1,Chn.put2,Chn.put3,Chn.put4,Chn.put5,Stt.put0,Stt.put1,Stt.put2,Stt.put3,Stt.put4,hg1]);(repeat' with_reducible refine And.intro ?_ ?_);all_goals first|(refine hR1 _ ?_;clear hR1 R1)|((first|refine ⟨_,_,rfl,.inr (mfail_call p _ g hg (by first|exact hs5|(simpa using hs5)|(rw [setReg_gos];exact hs5)|(rw [recvS_gos];exact hs5)) fuel _ _ _ ?_)⟩|refine ⟨_,_,rfl,.inr (mset_call p _ g hg (by first|exact hs5|(simpa using hs5)|(rw [setReg_gos];exact hs5)|(rw [recvS_gos];exact hs5)) fuel _ _ _ _ (by omega) ?_)⟩|refine ⟨_,_,rfl,_,CallQ.ctr ok (mnumber_ctr _) (by first|rfl|(simp [go_sem];done)|fail) rfl,?_⟩|refine cq (cc (mnumber_ctr _)) ?_|refine ⟨_,_,rfl,.inl ⟨_,mown_callQ p _ g hg fuel _ _ rfl,?_⟩⟩);all_goals ((try simp only [go_sem,seval,-List.reduceReplicate,Bool.cond_false_right,Bool.cond_true_left,List.getElem?_cons_succ,List.getElem?_cons_zero,List.set_cons_succ,List.set_cons_zero,machV.s1,machV.s4,machV.s5,machV.v0,machV.v1,machV.v2,machV.v3,machV.v4,machV.v5,set_chns,set_ints,List.set_set,Chn.put0,Chn.put1,Chn.put2,Chn.put3,Chn.put4,Chn.put5,Stt.put0,Stt.put1,Stt.put2,Stt.put3,Stt.put4,hg1]);(repeat' with_reducible refine And.intro ?_ ?_);all_goals first|(refine hR1 _ ?_;clear hR1 R1)|omega|rfl|decide|assumption|(intro _;omega)|(simp;done)|(simp [-List.getD_eq_getElem?_getD];omega)|exact hcode _|(intro _;exact hcode _)|exact hsl _|(intro _;exact hsl _)))|omega|rfl|decide|assumption|(intro _;omega)|(simp;done)|(simp [-List.getD_eq_getElem?_getD];omega)|exact hcode _|(intro _;exact hcode _)|exact hsl _|(intro _;exact hsl _))
  | ((with_reducible refine SART.done ?_);refine hR _ ?_;clear hR R;try simp only [go_sem,lv112,lvOf,Nat.reduceBEq,Option.getD_some])
  | (with_reducible first|refine SART.br ?_ ?_|exact SARL.nil|refine SARL.cons ?_ ?_)
  | ((with_reducible refine SARA.nil ?_);refine hR _ ?_;clear hR R;try simp only [go_sem,lv112,lvOf,Nat.reduceBEq,Option.getD_some])
  | ((with_reducible refine SARQ.nil ?_);refine hR _ ?_;clear hR R;try simp only [go_sem,lv112,lvOf,Nat.reduceBEq,Option.getD_some])
  | (with_reducible first|refine J1 ?_|refine J2 ?_|refine J3 ?_|refine J4 ?_|refine J5 ?_|refine J6 ?_|refine J7 ?_|refine J8 (by decide) ?_|refine J9 ?_|refine J10 ?_|refine J11 ?_|refine J12 ?_|refine J13 ?_|refine J14 ?_|refine J15 ?_|refine J16 ?_|refine J17 ?_|refine J18 ?_|refine J19 ?_)
  | ((with_reducible refine SA.at 8 ?_)
     have hI:=hx.i51 hb34
     (with_reducible refine J21 ok (by kernel_rfl) lv112 ?_);intro R hR;simp only [go_sem,strip])
  | ((with_reducible refine SA.at 11 ?_)
     have hI:=hx.i52 hb54
     (with_reducible refine J21 ok (by kernel_rfl) lv112 ?_);intro R hR;simp only [go_sem,strip])
  | ((with_reducible refine SA.at 20 ?_)
     have hI:=hx.i54 hb135
     (with_reducible refine J21 ok (by kernel_rfl) lv112 ?_);intro R hR;simp only [go_sem,strip])
  | ((with_reducible refine SA.at 24 ?_)
     have hI:=hx.i55 (.inr hb158)
     (with_reducible refine SA.regionD ok mixed (by kernel_rfl) (by kernel_rfl) lv112 ?_);intro R hR;simp only [go_sem,strip])
  | ((with_reducible refine SA.at 5 ?_)
     have hI:=hx.i50 hb13
     refine SA.regionT ok mixed (.take 0 (.take 1 (.take 2 (.take 3 (.take 4 (.take 5 (.take 6 (.take 7 (.take 8 (.take 9 (.take 10 (.br 11 .done .nil)))))))))))) [11] lv112 (by kernel_rfl) (fun R hR=>?_);simp only [go_sem,strip])
  | ((with_reducible refine SA.at 6 ?_)
     refine SA.regionT ok mixed (.take 0 (.take 1 (.take 2 (.take 3 (.take 4 (.take 5 (.take 6 (.br 7 .done .nil)))))))) [7] lv112 (by kernel_rfl) (fun R hR=>?_);simp only [go_sem,strip])
  | ((with_reducible refine SA.at 9 ?_)
     refine SA.regionT ok mixed (.take 0 (.take 1 (.take 2 (.take 3 (.take 4 (.take 5 (.take 6 (.take 7 (.take 8 (.take 9 (.take 10 (.br 11 .done .nil)))))))))))) [11] lv112 (by kernel_rfl) (fun R hR=>?_);simp only [go_sem,strip])
  | ((with_reducible refine SA.at 12 ?_)
     refine SA.regionT ok mixed (.take 0 (.take 1 (.take 2 (.take 3 (.take 4 (.take 5 (.take 6 (.take 7 (.take 8 (.take 9 (.take 10 (.br 11 .done .nil)))))))))))) [11] lv112 (by kernel_rfl) (fun R hR=>?_);simp only [go_sem,strip])
  | ((with_reducible refine SA.at 13 ?_)
     refine SA.regionT ok mixed (.take 0 (.take 1 (.take 2 (.take 3 (.take 4 (.take 5 (.take 6 (.take 7 (.take 8 (.take 9 (.take 10 (.take 11 (.take 12 (.take 13 (.take 14 (.take 15 (.take 16 (.br 17 .done .nil)))))))))))))))))) [17] lv112 (by kernel_rfl) (fun R hR=>?_);simp only [go_sem,strip])
  | ((with_reducible refine SA.at 15 ?_)
     have hI:=hx.i53 hb92
     refine SA.regionT ok mixed (.take 0 (.take 1 (.take 2 (.take 3 (.take 4 (.take 5 (.take 6 (.take 7 (.take 8 (.take 9 (.take 10 (.take 11 (.take 12 (.take 13 (.br 14 (.take 15 (.take 16 (.br 17 .done .nil))) .nil))))))))))))))) [17] lv112 (by kernel_rfl) (fun R hR=>?_);simp only [go_sem,strip])
  | ((with_reducible refine SA.at 17 ?_)
     refine SA.regionT ok mixed (.take 0 (.take 1 (.take 2 (.take 3 (.take 4 (.take 5 (.take 6 (.take 7 (.take 8 (.take 9 (.take 10 (.br 11 .done .nil)))))))))))) [11] lv112 (by kernel_rfl) (fun R hR=>?_);simp only [go_sem,strip])
  | ((with_reducible refine SA.at 18 ?_)
     refine SA.regionT ok mixed (.take 0 (.take 1 (.take 2 (.take 3 (.take 4 (.take 5 (.take 6 (.br 7 .done .nil)))))))) [7] lv112 (by kernel_rfl) (fun R hR=>?_);simp only [go_sem,strip])
  | ((with_reducible refine SA.at 22 ?_)
     have hI:=hx.i55 (.inl hb144)
     refine SA.regionT ok mixed (.take 0 (.take 1 (.take 2 (.take 3 (.take 4 (.take 5 (.take 6 (.take 7 (.take 8 (.take 9 (.take 10 (.take 11 (.br 12 .done .nil))))))))))))) [12] lv112 (by kernel_rfl) (fun R hR=>?_);simp only [go_sem,strip])
  | ((with_reducible refine SA.at 27 ?_)
     refine SA.regionT ok mixed (.take 0 (.take 1 (.take 2 (.take 3 (.take 4 (.take 5 (.take 6 (.br 7 .done .nil)))))))) [7] lv112 (by kernel_rfl) (fun R hR=>?_);simp only [go_sem,strip])
  | ((with_reducible refine SA.at 29 ?_)
     have hI:=hx.i57 hb183
     refine SA.regionT ok mixed (.take 0 (.take 1 (.take 2 (.take 3 (.take 4 (.take 5 (.take 6 (.take 7 (.take 8 (.take 9 (.br 10 (.take 11 (.take 12 (.br 13 .done .nil))) .nil))))))))))) [13] lv112 (by kernel_rfl) (fun R hR=>?_);simp only [go_sem,strip])
  | ((with_reducible refine SA.at 31 ?_)
     refine SA.regionT ok mixed (.take 0 (.take 1 (.take 2 (.take 3 (.take 4 (.take 5 (.take 6 (.take 7 (.take 8 (.take 9 (.take 10 (.take 11 (.br 12 .done .nil))))))))))))) [12] lv112 (by kernel_rfl) (fun R hR=>?_);simp only [go_sem,strip])
  | ((with_reducible refine SA.at 32 ?_)
     refine SA.regionT ok mixed (.take 0 (.take 1 (.take 2 (.take 3 (.take 4 (.take 5 (.take 6 (.br 7 .done .nil)))))))) [7] lv112 (by kernel_rfl) (fun R hR=>?_);simp only [go_sem,strip])
  | ((with_reducible refine J21 ok (by kernel_rfl) lv112 ?_);intro R hR;simp only [go_sem,strip])
  | ((with_reducible refine SA.regionD ok mixed (by kernel_rfl) (by kernel_rfl) lv112 ?_);intro R hR;simp only [go_sem,strip])
  | ((with_reducible refine J20 13 rfl (fun hb13=>?_) (fun hb13=>?_))
     all_goals
      try simp [-List.getD_eq_getElem?_getD] at hb13
      try (exfalso;omega))
  | ((with_reducible refine J20 34 rfl (fun hb34=>?_) (fun hb34=>?_))
     all_goals
      try simp [-List.getD_eq_getElem?_getD] at hb34
      try (exfalso;omega))
  | ((with_reducible refine J20 54 rfl (fun hb54=>?_) (fun hb54=>?_))
     all_goals
      try simp [-List.getD_eq_getElem?_getD] at hb54
      try (exfalso;omega))
  | ((with_reducible refine J20 92 rfl (fun hb92=>?_) (fun hb92=>?_))
     all_goals
      try simp [-List.getD_eq_getElem?_getD] at hb92
      try (exfalso;omega))
  | ((with_reducible refine J20 115 rfl (fun hb115=>?_) (fun hb115=>?_))
     all_goals
      try simp [-List.getD_eq_getElem?_getD] at hb115
      try (exfalso;omega))
  | ((with_reducible refine J20 135 rfl (fun hb135=>?_) (fun hb135=>?_))
     all_goals
      try simp [-List.getD_eq_getElem?_getD] at hb135
      try (exfalso;omega))
  | ((with_reducible refine J20 144 rfl (fun hb144=>?_) (fun hb144=>?_))
     all_goals
      try simp [-List.getD_eq_getElem?_getD] at hb144
      try (exfalso;omega))
  | ((with_reducible refine J20 158 rfl (fun hb158=>?_) (fun hb158=>?_))
     all_goals
      try simp [-List.getD_eq_getElem?_getD] at hb158
      try (exfalso;omega))
  | ((with_reducible refine J20 173 rfl (fun hb173=>?_) (fun hb173=>?_))
     all_goals
      try simp [-List.getD_eq_getElem?_getD] at hb173
      try (exfalso;omega))
  | ((with_reducible refine J20 183 rfl (fun hb183=>?_) (fun hb183=>?_))
     all_goals
      try simp [-List.getD_eq_getElem?_getD] at hb183
      try (exfalso;omega))
  | ((with_reducible refine J20 202 rfl (fun hb202=>?_) (fun hb202=>?_))
     all_goals
      try simp [-List.getD_eq_getElem?_getD] at hb202
      try (exfalso;omega))
  | ((with_reducible first|refine bodyK.normal ?_|refine bodyK.ret ?_)
     simp only [go_sem,resA,resV,backK,seval]
     first
      | (have q:x.op=50:=hb13
         have e:=dv50 (s:=s) (g:=g) (t:=t) hb13
         simp only [e,machD_ok ht,show decide (50≤x.op∧x.op≤57)=true from decide_eq_true (by omega)] at h
         exact h _ _)
      | (have q:x.op=51:=hb34
         have e:=dv51 (s:=s) (g:=g) (t:=t) hb34
         simp only [e,machD_ok ht,show decide (50≤x.op∧x.op≤57)=true from decide_eq_true (by omega)] at h
         exact h _ _)
      | (have q:x.op=52:=hb54
         have e:=dv52 (s:=s) (g:=g) (t:=t) hb54
         simp only [e,machD_ok ht,show decide (50≤x.op∧x.op≤57)=true from decide_eq_true (by omega)] at h
         exact h _ _)
      | (have q:x.op=53:=hb92
         have q2:yes _=1:=hb115
         have e:=dv53 (s:=s) (g:=g) (t:=t) hb92 hb115
         simp only [e,machD_ok ht,show decide (50≤x.op∧x.op≤57)=true from decide_eq_true (by omega)] at h
         exact h _ _)
      | (have q:x.op=53:=hb92
         have q2:¬_:=hb115
         have e:=dv53' (s:=s) (g:=g) (t:=t) hb92 hb115
         simp only [e,machD_ok ht,show decide (50≤x.op∧x.op≤57)=true from decide_eq_true (by omega)] at h
         exact h _ _)
      | (have q:x.op=54:=hb135
         have e:=dv54 (s:=s) (g:=g) (t:=t) hb135
         simp only [e,machD_ok ht,show decide (50≤x.op∧x.op≤57)=true from decide_eq_true (by omega)] at h
         exact h _ _)
      | (have q:x.op=55:=hb144
         have e:=dv55 (s:=s) (g:=g) (t:=t) hb144
         simp only [e,machD_ok ht,show decide (50≤x.op∧x.op≤57)=true from decide_eq_true (by omega)] at h
         exact h _ _)
      | (have q:x.op=56:=hb158
         have q2:¬_:=hb173
         have e:=dv56' (s:=s) (g:=g) (t:=t) hb158 hb173
         simp only [e,machD_fail (show (6:Int)≠0 by decide),show decide (50≤x.op∧x.op≤57)=true from decide_eq_true (by omega)] at h
         exact h _ _)
      | (have q:x.op=56:=hb158
         have q2:_=_:=hb173
         have e:=dv56 (s:=s) (g:=g) (t:=t) hb158 hb173
         simp only [e,machD_ok ht,show decide (50≤x.op∧x.op≤57)=true from decide_eq_true (by omega)] at h
         exact h _ _)
      | (have q:x.op=57:=hb183
         have q2:yes _=1:=hb202
         have e:=dv57 (s:=s) (g:=g) (t:=t) hb183 hb202
         simp only [e,machD_ok ht,show decide (50≤x.op∧x.op≤57)=true from decide_eq_true (by omega)] at h
         exact h _ _)
      | (have q:x.op=57:=hb183
         have q2:¬_:=hb202
         have e:=dv57' (s:=s) (g:=g) (t:=t) hb183 hb202
         simp only [e,machD_ok ht,show decide (50≤x.op∧x.op≤57)=true from decide_eq_true (by omega)] at h
         exact h _ _)
      | (have q:¬x.op=57:=hb183
         have e:=dvElse (s:=s) (g:=g) (t:=t) (x:=x) (by omega)
         simp only [e,machD_ok ht,show decide (50≤x.op∧x.op≤57)=false from decide_eq_false (by omega)] at h
         exact h _ _))
def lv119:List (Nat × List Nat):=[(0,[0,2,4]),(1,[0,2,4,12]),(2,[6]),(3,[0,7]),(4,[0,7,21]),(5,[7]),(6,[0,7]),(7,[7]),(8,[6])]
theorem mchoose_call (p:Prg) (s:Stt) (g:Int) (hg:0≤g∧g<6) (hs:s.Shape) (fuel:Int) (q:Sel) (alt:Int) (hp:p.Fit) (h4:p.chans.length≤4) (hq:q.cases.length≤4) (ha:0≤alt∧alt≤q.cases.length) (hc:SelIn p q) (hok:alt<q.cases.length→caseOk p s (q.cases.getD alt.toNat default)=true) (hels:alt=q.cases.length→0≤q.els) (hch:ChansIn p s) {o8 o9 oa ob:Obj} {o0 o1 o2 o3 o4 o5 o6:Obj} {tm:Tm} {out:List Tm} {nt:Nat} {K:St→E→Prop} (h:∀ ys:List Obj,K { tm:=tm,ob:=o0::o1::o2::o3::o4::o5::o6::.var 133 (.data 133 (machD p g fuel (selDid p s g q alt)))::o8::o9::oa::ob::ys,out:=out,nt:=nt } (.int .i64 (if alt=q.cases.length then q.els else (q.cases.getD alt.toNat default).to_))):CallE Go.Proofs.Tryz.prog tab { tm:=tm,ob:=o0::o1::o2::o3::o4::o5::o6::.var 133 (.data 133 (machV p s g fuel 0 false))::[o8,o9,oa,ob],out:=out,nt:=nt } 119 [.ptr 7 [] 133,.data 124 q.v,.int .i64 alt] K:=by
 have hs5:=hs.gos
 have hs3:=hs.chans
 have hmx:256≤maxLen:=by decide
 refine CallE.body ok Go.Proofs.Tryz.func119 rfl rfl 48 rfl [.tmp 6] rfl (by simp) ?_
 simp only [enter,args0,Nat.zero_add,Nat.reduceAdd]
 repeat' first
  | ((with_reducible refine SARA.told 3 4 ?_)
     rw [getD_cass (by omega)])
  | ((with_reducible first|refine SARA.do fun R1 hR1=>?_|refine SART.do fun R1 hR1=>?_|refine SARB.keep fun R1 hR1=>?_|refine SARB.any fun R1 hR1=>?_);(simp only [go_sem,seval,-List.reduceReplicate,Bool.cond_false_right,Bool.cond_true_left,List.getElem?_cons_succ,List.getElem?_cons_zero,List.set_cons_succ,List.set_cons_zero,machV.s1,machV.s4,machV.s5,machV.v0,machV.v1,machV.v2,machV.v3,machV.v4,machV.v5,set_chns,set_ints,List.set_set,Chn.put0,Chn.put1,Chn.put2,Chn.put3,Chn.put4,Chn.put5,Stt.put0,Stt.put1,Stt.put2,Stt.put3,Stt.put4]);(repeat' with_reducible refine And.intro ?_ ?_);all_goals first|(refine hR1 _ ?_;clear hR1 R1)|((first|refine ⟨_,_,rfl,.inr (mfail_call p _ g hg (by first|exact hs5|(simpa using hs5)|(rw [setReg_gos];exact hs5)|(rw [recvS_gos];exact hs5)) fuel _ _ _ ?_)⟩|refine ⟨_,_,rfl,.inr (mset_call p _ g hg (by first|exact hs5|(simpa using hs5)|(rw [setReg_gos];exact hs5)|(rw [recvS_gos];exact hs5)) fuel _ _ _ _ (by omega) ?_)⟩|refine cq (cc (mnumber_ctr _)) ?_|refine ⟨_,_,rfl,.inl ⟨_,mown_callQ p _ g hg fuel _ _ rfl,?_⟩⟩|refine ⟨_,_,rfl,.inr (msend_call p _ g hg hs fuel 0 0 _ _ _ hp hcc.1 h4 hcc.2.2.2 hrm ?_)⟩|refine ⟨_,_,rfl,.inr (mrecv_call p _ g hg hs fuel _ _ _ ⟨hcc.1.1,by omega⟩ ⟨hcl.1.1,by omega⟩ hcl.2.2 ?_)⟩);all_goals ((try simp only [go_sem,seval,-List.reduceReplicate,Bool.cond_false_right,Bool.cond_true_left,List.getElem?_cons_succ,List.getElem?_cons_zero,List.set_cons_succ,List.set_cons_zero,machV.s1,machV.s4,machV.s5,machV.v0,machV.v1,machV.v2,machV.v3,machV.v4,machV.v5,set_chns,set_ints,List.set_set,Chn.put0,Chn.put1,Chn.put2,Chn.put3,Chn.put4,Chn.put5,Stt.put0,Stt.put1,Stt.put2,Stt.put3,Stt.put4]);(repeat' with_reducible refine And.intro ?_ ?_);all_goals first|(refine hR1 _ ?_;clear hR1 R1)|omega|rfl|decide|assumption|(intro _;omega)|(simp;done)|(simp [-List.getD_eq_getElem?_getD];omega)|exact hcode _|(intro _;exact hcode _)|exact hsl _|(intro _;exact hsl _)))|omega|rfl|decide|assumption|(intro _;omega)|(simp;done)|(simp [-List.getD_eq_getElem?_getD];omega)|exact hcode _|(intro _;exact hcode _)|exact hsl _|(intro _;exact hsl _))
  | ((with_reducible refine SART.done ?_);refine hR _ ?_;clear hR R;try simp only [go_sem,lv119,lvOf,Nat.reduceBEq,Option.getD_some])
  | (with_reducible first|refine SART.br ?_ ?_|exact SARL.nil|refine SARL.cons ?_ ?_)
  | ((with_reducible refine SARA.nil ?_);refine hR _ ?_;clear hR R;try simp only [go_sem,lv119,lvOf,Nat.reduceBEq,Option.getD_some])
  | (with_reducible first|refine J1 ?_|refine J2 ?_|refine J3 ?_|refine J4 ?_|refine J5 ?_|refine J6 ?_|refine J7 ?_|refine J8 (by decide) ?_|refine J9 ?_|refine J10 ?_|refine J11 ?_|refine J12 ?_|refine J13 ?_|refine J14 ?_|refine J15 ?_|refine J16 ?_|refine J17 ?_|refine J18 ?_|refine J19 ?_)
  | ((with_reducible refine SA.at 6 ?_)
     have hlt:alt<q.cases.length:=by omega
     have hcc:=hc alt.toNat (by omega)
     have hcl:=hch (q.cases.getD alt.toNat default).chan.toNat (by omega)
     (with_reducible refine J21 ok (by kernel_rfl) lv119 ?_);intro R hR;simp only [go_sem,strip])
  | ((with_reducible refine SA.at 3 ?_)
     have hlt:alt<q.cases.length:=by omega
     (with_reducible refine J21 ok (by kernel_rfl) lv119 ?_);intro R hR;simp only [go_sem,strip])
  | ((with_reducible refine SA.at 5 ?_)
     have hlt:alt<q.cases.length:=by omega
     have hcc:=hc alt.toNat (by omega)
     have hcl:=hch (q.cases.getD alt.toNat default).chan.toNat (by omega)
     have hsn:sends p s (q.cases.getD alt.toNat default).chan=true:=by
      have h:=hok hlt
      unfold caseOk at h
      rw [hb21] at h
      exact h
     have hrm:(s.chans.getD (q.cases.getD alt.toNat default).chan.toNat default).closed=false→0<p.chans.getD (q.cases.getD alt.toNat default).chan.toNat 0→0≤(s.chans.getD (q.cases.getD alt.toNat default).chan.toNat default).len∧(s.chans.getD (q.cases.getD alt.toNat default).chan.toNat default).len<4:=fun h1 h2=>⟨hcl.1.1,by have:=send_room hsn h1 h2;omega⟩
     have hrg:=hcc.2.2.1 hb21
     refine SA.regionT ok mixed (.take 0 (.take 1 (.take 2 (.take 3 (.take 5 (.take 6 (.br 4 (.take 7 (.take 8 (.take 9 (.take 10 (.br 11 .done .nil))))) .nil))))))) [11] lv119 (by kernel_rfl) (fun R hR=>?_);simp only [go_sem,strip])
  | ((with_reducible refine SA.at 7 ?_)
     refine SA.regionT ok mixed (.take 0 (.take 1 (.take 2 (.take 3 (.take 4 (.take 5 (.take 6 (.br 7 .done .nil)))))))) [7] lv119 (by kernel_rfl) (fun R hR=>?_);simp only [go_sem,strip])
  | ((with_reducible refine J21 ok (by kernel_rfl) lv119 ?_);intro R hR;simp only [go_sem,strip])
  | ((with_reducible refine J20 12 rfl (fun hb12=>?_) (fun hb12=>?_))
     all_goals
      try simp [-List.getD_eq_getElem?_getD] at hb12
      try (exfalso;omega))
  | ((with_reducible refine J20 21 rfl (fun hb21=>?_) (fun hb21=>?_))
     all_goals
      try simp [-List.getD_eq_getElem?_getD] at hb21
      try (exfalso;omega))
  | ((with_reducible first|refine bodyK.normal ?_|refine bodyK.ret ?_)
     simp only [go_sem,resA,resV,backK,seval]
     first
      | (have q1:alt=_:=hb12
         have e:=sel_else (s:=s) (g:=g) (p:=p) hb12
         simp only [e,machD_ok (hels hb12),if_pos hb12] at h
         exact h _)
      | (have q1:_=true:=hb21
         simp only [sel_send hb12 hb21,if_neg hb12] at h
         exact h _)
      | (have q1:_=false:=hb21
         have hlt:alt<q.cases.length:=by omega
         have hcc:=hc alt.toNat (by omega)
         simp only [sel_recv hb12 hb21 (show (q.cases.getD alt.toNat default).chan.toNat<s.chans.length by omega),machD_ok hcc.2.2.2,if_neg hb12] at h
         exact h _))
def lv120:List (Nat × List Nat):=[(0,[0,3]),(1,[0,3,13]),(2,[]),(3,[4]),(4,[0,3,5]),(5,[0,3,5,28,29]),(6,[0,3,5,28,29,30]),(7,[0,3,5,6,28,29]),(8,[0,3,5,28,29]),(9,[0,3,5,28,29]),(10,[0,3,5,7]),(11,[0,3,7]),(12,[0,3,7]),(13,[0,3,7]),(14,[7]),(15,[4])]
theorem mspawn_call (p:Prg) (s:Stt) (g:Int) (hg:0≤g∧g<6) (hs5:s.gos.length=6) (fuel:Int) (hct:0≤s.count∧s.count≤6) (t:Int) (ht:0≤t) (x:Instr) (hp:p.Fit) (ha:x.a<8) (hb:0≤x.b∧x.b<p.funcs.length) (hpr:0≤(p.fn x.b).params∧(p.fn x.b).params≤8) (hc:0<(p.fn x.b).params→0≤x.c∧x.c+(p.fn x.b).params≤8) {o8 o9 oa ob:Obj} {o0 o1 o2 o3 o4 o5 o6:Obj} {tm:Tm} {out:List Tm} {nt:Nat} {K:St→E→Prop} (h:∀ ys:List Obj,K { tm:=tm,ob:=o0::o1::o2::o3::o4::o5::o6::.var 133 (.data 133 (machD p g fuel (doSpawn p ⟨s,0,0,t⟩ g x)))::o8::o9::oa::ob::ys,out:=out,nt:=nt } (.int .i64 (if s.count=6 then -1 else s.count))):CallE Go.Proofs.Tryz.prog tab { tm:=tm,ob:=o0::o1::o2::o3::o4::o5::o6::.var 133 (.data 133 (machV p s g fuel 0 false))::[o8,o9,oa,ob],out:=out,nt:=nt } 120 [.ptr 7 [] 133,.data 129 x.v] K:=by
 have hpp:=hp
 obtain ⟨hp1,hp2,hp3,hp4⟩:=hp
 have hfn:p.fn x.b=p.funcs.getD x.b.toNat default:=rfl
 rw [hfn] at hpr hc
 have hcw:IntKind.i64.wrap (s.count+1)=s.count+1:=i64_ok (by omega) (by omega)
 have hsg:∀ X:Gor,(List.map Gor.v s.gos).set s.count.toNat X.v=List.map Gor.v (s.gos.set s.count.toNat X):=fun X=>set_gors _ _ _
 refine CallE.body ok Go.Proofs.Tryz.func120 rfl rfl 80 rfl [.tmp 4] rfl (by simp) ?_
 simp only [enter,args0,Nat.zero_add,Nat.reduceAdd]
 repeat' first
  | ((with_reducible refine SARQ.told 5 8 ?_)
     rw [getD_fncs (by omega)])
  | ((with_reducible refine SART.told 8 6 ?_)
     rw [hwc])
  | ((with_reducible first|refine SARA.do fun R1 hR1=>?_|refine SARQ.do fun R1 hR1=>?_|refine SART.do fun R1 hR1=>?_|refine SARB.keep fun R1 hR1=>?_|refine SARB.any fun R1 hR1=>?_);(simp only [go_sem,seval,-List.reduceReplicate,Bool.cond_false_right,Bool.cond_true_left,List.getElem?_cons_succ,List.getElem?_cons_zero,List.set_cons_succ,List.set_cons_zero,machV.s1,machV.s4,machV.s5,machV.v0,machV.v1,machV.v2,machV.v3,machV.v4,machV.v5,set_chns,set_ints,List.set_set,Chn.put0,Chn.put1,Chn.put2,Chn.put3,Chn.put4,Chn.put5,Stt.put0,Stt.put1,Stt.put2,Stt.put3,Stt.put4,hcw,hsg]);(repeat' with_reducible refine And.intro ?_ ?_);all_goals first|(refine hR1 _ ?_;clear hR1 R1)|((first|refine ⟨_,_,rfl,.inr (mfail_call p _ g hg (by first|exact hs5|(simpa using hs5)|(rw [setReg_gos];exact hs5)|(rw [recvS_gos];exact hs5)) fuel _ _ _ ?_)⟩|refine ⟨_,_,rfl,.inr (mset_call p _ g hg (by first|exact hs5|(simpa using hs5)|(rw [setReg_gos];exact hs5)|(rw [recvS_gos];exact hs5)) fuel _ _ _ _ (by omega) ?_)⟩|refine ⟨_,_,rfl,_,CallQ.ctr ok (mnumber_ctr _) (by first|rfl|(simp [go_sem];done)|fail) rfl,?_⟩|refine cq (cc (mnumber_ctr _)) ?_|refine ⟨_,_,rfl,.inl ⟨_,mown_callQ p _ g hg fuel _ _ rfl,?_⟩⟩);all_goals ((try simp only [go_sem,seval,-List.reduceReplicate,Bool.cond_false_right,Bool.cond_true_left,List.getElem?_cons_succ,List.getElem?_cons_zero,List.set_cons_succ,List.set_cons_zero,machV.s1,machV.s4,machV.s5,machV.v0,machV.v1,machV.v2,machV.v3,machV.v4,machV.v5,set_chns,set_ints,List.set_set,Chn.put0,Chn.put1,Chn.put2,Chn.put3,Chn.put4,Chn.put5,Stt.put0,Stt.put1,Stt.put2,Stt.put3,Stt.put4,hcw,hsg]);(repeat' with_reducible refine And.intro ?_ ?_);all_goals first|(refine hR1 _ ?_;clear hR1 R1)|omega|rfl|decide|assumption|(intro _;omega)|(simp;done)|(simp [-List.getD_eq_getElem?_getD];omega)|exact hcode _|(intro _;exact hcode _)|exact hsl _|(intro _;exact hsl _)))|omega|rfl|decide|assumption|(intro _;omega)|(simp;done)|(simp [-List.getD_eq_getElem?_getD];omega)|exact hcode _|(intro _;exact hcode _)|exact hsl _|(intro _;exact hsl _))
  | ((with_reducible refine SART.done ?_);refine hR _ ?_;clear hR R;try simp only [go_sem,lv120,lvOf,Nat.reduceBEq,Option.getD_some])
  | (with_reducible first|refine SART.br ?_ ?_|exact SARL.nil|refine SARL.cons ?_ ?_)
  | ((with_reducible refine SARA.nil ?_);refine hR _ ?_;clear hR R;try simp only [go_sem,lv120,lvOf,Nat.reduceBEq,Option.getD_some])
  | ((with_reducible refine SARQ.nil ?_);refine hR _ ?_;clear hR R;try simp only [go_sem,lv120,lvOf,Nat.reduceBEq,Option.getD_some])
  | (with_reducible first|refine J1 ?_|refine J2 ?_|refine J3 ?_|refine J4 ?_|refine J5 ?_|refine J6 ?_|refine J7 ?_|refine J8 (by decide) ?_|refine J9 ?_|refine J10 ?_|refine J11 ?_|refine J12 ?_|refine J13 ?_|refine J14 ?_|refine J15 ?_|refine J16 ?_|refine J17 ?_|refine J18 ?_|refine J19 ?_)
  | ((with_reducible refine SA.at 8 ?_)
     have hlt:(i:Int)<(p.funcs.getD x.b.toNat default).params:=by omega
     have hcc:=hc (by omega)
     have hwc:IntKind.i64.wrap (x.c+(i:Int))=x.c+(i:Int):=i64_ok (by omega) (by omega)
     refine SA.regionT ok mixed (.take 0 (.take 1 (.take 3 (.take 4 (.take 5 (.take 6 (.take 11 (.br 2 (.take 7 (.take 8 (.take 9 (.take 10 (.take 12 (.br 13 .done .nil)))))) .nil)))))))) [13] lv120 (by kernel_rfl) (fun R hR=>?_);simp only [go_sem,strip])
  | ((with_reducible refine SA.at 11 ?_)
     refine SA.regionT ok mixed (.take 0 (.take 1 (.take 2 (.take 3 (.take 4 (.take 5 (.take 6 (.br 7 .done .nil)))))))) [7] lv120 (by kernel_rfl) (fun R hR=>?_);simp only [go_sem,strip])
  | ((with_reducible refine SA.at 14 ?_)
     refine SA.regionT ok mixed (.take 0 (.take 1 (.take 2 (.take 3 (.take 4 (.take 5 (.take 6 (.br 7 .done .nil)))))))) [7] lv120 (by kernel_rfl) (fun R hR=>?_);simp only [go_sem,strip])
  | ((with_reducible refine J21 ok (by kernel_rfl) lv120 ?_);intro R hR;simp only [go_sem,strip])
  | ((with_reducible refine SA.regionD ok mixed (by kernel_rfl) (by kernel_rfl) lv120 ?_);intro R hR;simp only [go_sem,strip])
  | ((with_reducible refine J20 13 rfl (fun hb13=>?_) (fun hb13=>?_))
     all_goals
      try simp [-List.getD_eq_getElem?_getD] at hb13
      try (exfalso;omega))
  | ((with_reducible refine SA.cond rfl ?_ ?_)
     all_goals
      intro hb
      try simp [-List.getD_eq_getElem?_getD] at hb
      try (exfalso;omega))
  | ((with_reducible refine SA.atLoop ?_)
     refine SA.weaken (St.le.of_eq (by (rw [childTo_zero];rfl))) (SA.loop (fun n τ=>∃ (i:Nat),n=(p.funcs.getD x.b.toNat default).params.toNat-i∧((i:Int)≤(p.funcs.getD x.b.toNat default).params)∧τ={ tm:=[(0,true,.ptr 7 [] 133),(3,true,.ptr 12 [] 129),(5,true,.ptr 13 [] 34),(28,true,.int .i64 (p.funcs.getD x.b.toNat default).params),(29,true,.int .i64 i)],ob:=o0::o1::o2::o3::o4::o5::o6::.var 133 (.data 133 (machV p s g fuel 0 false))::[o8,o9,oa,ob,.var 129 (.data 129 x.v),.var 34 (.data 34 (childTo s g x i).v)],out:=tm::out,nt:=80 }) ((p.funcs.getD x.b.toNat default).params.toNat) ⟨0,rfl,by omega,rfl⟩ ?_)
     rintro n τ ⟨i,hn,hi,rfl⟩)
  | ((with_reducible refine loopK.round ?_)
     first
      | (have hlt:(i:Int)<(p.funcs.getD x.b.toNat default).params:=by omega
         have hw:=wrap_succ (n:=i) (m:=256) (by omega) (by decide)
         have e:=childTo_succ (s:=s) (g:=g) (x:=x) (n:=i)
         refine loopK.normal ((p.funcs.getD x.b.toNat default).params.toNat-(i+1)) _ (by omega) (St.le.of_eq (by simp only [hw];unfold childTo;rw [← e])) ⟨i+1,rfl,by omega,rfl⟩))
  | ((with_reducible first|refine bodyK.normal ?_|refine bodyK.ret ?_)
     simp only [go_sem,resA,resV,backK,seval]
     first
      | (have q:s.count=6:=hb13
         simp only [spawn_few (show 6≤s.count by omega),machD_fail (show (8:Int)≠0 by decide),if_pos hb13] at h
         exact h _)
      | (have q:¬s.count=6:=hb13
         have e:i=(p.fn x.b).params.toNat:=by rw [hfn];omega
         subst e
         simp only [spawn_did (show ¬6≤s.count by omega),machD_ok ht,if_neg hb13] at h
         exact h _))
end Go.Eng.Tryz
