/- A part of the proof: walks through the program's functions, and what they compute. -/
import Derived.Test.YtedceinkpkoncaaGreatDoorPk31
import Derived.Test.YtedceinkpkoncaaGreatDoorPk13
import Derived.Test.YtedceinkpkoncaaGreatDoorPk20
import Derived.Test.YtedceinkpkoncaaGreatDoorPk19
import Derived.Test.YtedceinkpkoncaaGreatDoorPk14
set_option linter.unusedSimpArgs false
set_option linter.unusedVariables false
namespace Go.Eng.Tryz
open Go.RowKit Go.Eng
set_option maxHeartbeats 0
set_option maxRecDepth 20000
def lv66:List (Nat × List Nat):=[(0,[0,2,4]),(1,[0,2,4,6,7]),(2,[0,2,4,6,7,18]),(3,[6,7]),(4,[0,2,4,6,7,8]),(5,[0,2,4,6,7,8,27]),(6,[0,2,4,6,7,8,27,28]),(7,[6,7]),(8,[0,2,4,6,7,8,27,38]),(9,[0,4,6,7,9]),(10,[0,4,6,7,9]),(11,[6,7]),(12,[0,2,4,6,7,8,27,58]),(13,[6,7]),(14,[0,2,4,6,7,8,27,64]),(15,[6,7]),(16,[0,2,4,6,7,8,27,70]),(17,[6,7]),(18,[0,4,6,7,8,27,92]),(19,[6,7]),(20,[0,4,6,7,8,27,97]),(21,[0,6,7]),(22,[0,6,7,119]),(23,[6,7]),(24,[0,4,6,7,8,122]),(25,[6,7]),(26,[6,7])]
theorem mact_call (p:Prg) (s:Stt) (g:Int) (alt fuel:Int) (hp:p.Fit) (hr:rightP p=true) (hv:Vld p s) (hg:0≤g∧g<s.count) (ha:alt∈alts p s g) {o0 o1 o2 o3 o4 o5 o6:Obj} {tm:Tm} {out:List Tm} {nt:Nat} {K:St→E→Prop} (h:∀ (ys:List Obj) (nx md:Int),NextOk s (visible p s g alt) nx md→K { tm:=tm,ob:=o0::o1::o2::o3::o4::o5::o6::.var 133 (.data 133 (machD p g fuel (visible p s g alt)))::ys,out:=out,nt:=nt } (.tup [.int .i64 nx,.int .i64 md])):CallE Go.Proofs.Tryz.prog tab { tm:=tm,ob:=o0::o1::o2::o3::o4::o5::o6::.var 133 (.data 133 (machV p s g fuel 0 false))::[],out:=out,nt:=nt } 66 [.ptr 7 [] 133,.data 129 (atI p s g).v,.int .i64 alt] K:=by
 have hw:=hv.wf (Prg.ok hr) hr
 have hpp:=hp
 have hok:=Prg.ok hr
 have hs:=hw.shape
 have hcnt:=hw.count
 have hcode:=p.code_len hp
 have hsl:=p.sels_len hp
 obtain ⟨hp1,hp2,hp3,hp4⟩:=hp
 have hs1:=hs.vars
 have hs2:=hs.owner
 have hs3:=hs.chans
 have hs5:=hs.gos
 have hsz:=hok.sizes
 unfold Sizes at hsz
 have hmx:256≤maxLen:=by decide
 have hgi:=hw.gos g (by omega) (by omega)
 have hgf:=hgi.f0
 have hgf1:=hgi.f1
 have hgp:=hgi.p0
 have hgp1:=hgi.p1
 have h8:=hgi.regs
 have hrt:instrErr p (p.funcs.getD (s.gos.getD g.toNat default).func.toNat default) (instrAt p s g)=0:=hw.right hok hg.1 hg.2
 have hrg:=hok.regs (s.gos.getD g.toNat default).func.toNat
 have hg6:0≤g∧g<6:=by omega
 have hcd:=hok.code (s.gos.getD g.toNat default).func.toNat (by omega)
 have hVI:=vars_in hok hw hg
 have hCI:=chans_in hok hv
 have hpw:IntKind.i64.wrap ((s.gos.getD g.toNat default).pc+1)=(s.gos.getD g.toNat default).pc+1:=i64_ok (by omega) (by omega)
 refine CallE.body ok Go.Proofs.Tryz.func66 rfl rfl 133 rfl [.tmp 6,.tmp 7] rfl (by simp) ?_
 simp only [enter,args0,Nat.zero_add,Nat.reduceAdd]
 repeat' first
  | ((with_reducible refine SART.told 17 17 ?_)
     rw [getD_sels (by omega)])
  | ((with_reducible first|refine SARA.do fun R1 hR1=>?_|refine SARQ.do fun R1 hR1=>?_|refine SART.do fun R1 hR1=>?_|refine SARB.keep fun R1 hR1=>?_|refine SARB.any fun R1 hR1=>?_);(simp only [go_sem,seval,-List.reduceReplicate,Bool.cond_false_right,Bool.cond_true_left,List.getElem?_cons_succ,List.getElem?_cons_zero,List.set_cons_succ,List.set_cons_zero,atI_op,atI_a,atI_b,atI_c,atI_n,machV.s1,machV.s4,machV.s5,machV.v0,machV.v1,machV.v2,machV.v3,machV.v4,machV.v5,set_chns,set_ints,List.set_set,Chn.put0,Chn.put1,Chn.put2,Chn.put3,Chn.put4,Chn.put5,Stt.put0,Stt.put1,Stt.put2,Stt.put3,Stt.put4,hpw]);(repeat' with_reducible refine And.intro ?_ ?_);all_goals first|(refine hR1 _ ?_;clear hR1 R1)|((first|refine ⟨_,_,rfl,.inr (mfail_call p _ g hg6 (by first|exact hs5|(simpa using hs5)|(rw [setReg_gos];exact hs5)|(rw [recvS_gos];exact hs5)|(rw [setReg_gos,recvS_gos];exact hs5)) fuel _ _ _ ?_)⟩|refine ⟨_,_,rfl,.inr (mset_call p _ g hg6 (by first|exact hs5|(simpa using hs5)|(rw [setReg_gos];exact hs5)|(rw [recvS_gos];exact hs5)|(rw [setReg_gos,recvS_gos];exact hs5)) fuel _ _ _ _ (by omega) ?_)⟩|refine ⟨_,_,rfl,.inr (mshared_call p s g hg6 hs5 fuel ((s.gos.getD g.toNat default).pc+1) (by omega) _ hVI fun a9 a10=>?_)⟩|refine ⟨_,_,rfl,.inr (msend_call p _ g hg6 hs fuel 0 0 _ _ ((s.gos.getD g.toNat default).pc+1) hpp hI.1 hok.four (by omega) hrm ?_)⟩|refine ⟨_,_,rfl,.inr (mrecv_call p _ g hg6 hs fuel _ _ _ ⟨hI.2.1.1,by omega⟩ ⟨hcl.1.1,by omega⟩ hcl.2.2 ?_)⟩|refine ⟨_,_,rfl,.inr (mtaken_call p _ g hg6 hs fuel _ _ ((s.gos.getD g.toNat default).pc+1) hI4 (by omega) ?_)⟩|refine ⟨_,_,rfl,.inr (mshut_call p _ g hg6 hs fuel _ _ ((s.gos.getD g.toNat default).pc+1) hI4 (by omega) ?_)⟩|refine ⟨_,_,rfl,.inr (mchoose_call p s g hg6 hs fuel _ _ hpp hok.four hq4 hAl.1 hSI hAl.2.1 (fun e=>hEl (hAl.2.2 e)) hCI fun ys=>?_)⟩|refine ⟨_,_,rfl,.inr (mspawn_call p s g hg6 hs5 fuel ⟨by omega,hcnt.2⟩ ((s.gos.getD g.toNat default).pc+1) (by omega) (atI p s g) hpp hSp.1 hSp.2.1 ⟨hSp.2.2.1,hSp.2.2.2.2⟩ hSp.2.2.2.1 fun ys=>?_)⟩|refine ⟨_,_,rfl,_,CallQ.ctr ok (mnumber_ctr _) (by first|rfl|(simp [go_sem];done)|fail) rfl,?_⟩|refine cq (cc (mnumber_ctr _)) ?_|refine ⟨_,_,rfl,_,CallQ.ctr ok (pthere_ctr s g _ hs) (by first|rfl|(simp [go_sem];done)|fail) rfl,?_⟩|refine cq (cc (pthere_ctr s g _ hs)) ?_|refine ⟨_,_,rfl,.inl ⟨_,mown_callQ p _ g hg6 fuel _ _ rfl,?_⟩⟩);all_goals ((try simp only [go_sem,seval,-List.reduceReplicate,Bool.cond_false_right,Bool.cond_true_left,List.getElem?_cons_succ,List.getElem?_cons_zero,List.set_cons_succ,List.set_cons_zero,atI_op,atI_a,atI_b,atI_c,atI_n,machV.s1,machV.s4,machV.s5,machV.v0,machV.v1,machV.v2,machV.v3,machV.v4,machV.v5,set_chns,set_ints,List.set_set,Chn.put0,Chn.put1,Chn.put2,Chn.put3,Chn.put4,Chn.put5,Stt.put0,Stt.put1,Stt.put2,Stt.put3,Stt.put4,hpw]);(repeat' with_reducible refine And.intro ?_ ?_);all_goals first|(refine hR1 _ ?_;clear hR1 R1)|omega|rfl|decide|assumption|(intro _;omega)|(simp;done)|(simp [-List.getD_eq_getElem?_getD];omega)|exact hcode _|(intro _;exact hcode _)|exact hsl _|(intro _;exact hsl _)))|omega|rfl|decide|assumption|(intro _;omega)|(simp;done)|(simp [-List.getD_eq_getElem?_getD];omega)|exact hcode _|(intro _;exact hcode _)|exact hsl _|(intro _;exact hsl _))
  | ((with_reducible refine SART.done ?_);refine hR _ ?_;clear hR R;try simp only [go_sem,lv66,lvOf,Nat.reduceBEq,Option.getD_some])
  | (with_reducible first|refine SART.br ?_ ?_|exact SARL.nil|refine SARL.cons ?_ ?_)
  | ((with_reducible refine SARA.nil ?_);refine hR _ ?_;clear hR R;try simp only [go_sem,lv66,lvOf,Nat.reduceBEq,Option.getD_some])
  | ((with_reducible refine SARQ.nil ?_);refine hR _ ?_;clear hR R;try simp only [go_sem,lv66,lvOf,Nat.reduceBEq,Option.getD_some])
  | (with_reducible first|refine J1 ?_|refine J2 ?_|refine J3 ?_|refine J4 ?_|refine J5 ?_|refine J6 ?_|refine J7 ?_|refine J8 (by decide) ?_|refine J9 ?_|refine J10 ?_|refine J11 ?_|refine J12 ?_|refine J13 ?_|refine J14 ?_|refine J15 ?_|refine J16 ?_|refine J17 ?_|refine J18 ?_|refine J19 ?_)
  | ((with_reducible refine SA.at 4 ?_)
     have hno:¬(50≤opAt p s g∧opAt p s g≤57):=of_decide_eq_false hb18
     rw [dvElse (s:=s) (g:=g) (t:=(s.gos.getD g.toNat default).pc+1) (x:=atI p s g) (show opAt p s g<50∨57<opAt p s g by omega),machD_ok (show 0≤(s.gos.getD g.toNat default).pc+1 by omega)]
     (with_reducible refine J21 ok (by kernel_rfl) lv66 ?_);intro R hR;simp only [go_sem,strip])
  | ((with_reducible refine SA.at 9 ?_)
     have hI:=vis59 hrt (hw.op_at hok hg.1 hg.2 hb38 (by decide))
     have h4:=hok.four
     have hcl:=hCI (instrAt p s g).b.toNat (by omega)
     (with_reducible refine J21 ok (by kernel_rfl) lv66 ?_);intro R hR;simp only [go_sem,strip])
  | ((with_reducible refine SA.at 13 ?_)
     have hI:=vis58 hrt (hw.op66 hok hg.1 hg.2 hb58)
     have h4:=hok.four
     have hI4:0≤(instrAt p s g).a∧(instrAt p s g).a<4:=by omega
     (with_reducible refine J21 ok (by kernel_rfl) lv66 ?_);intro R hR;simp only [go_sem,strip])
  | ((with_reducible refine SA.at 15 ?_)
     have hI:=vis60 hrt (hw.op_at hok hg.1 hg.2 hb64 (by decide))
     have h4:=hok.four
     have hI4:0≤(instrAt p s g).a∧(instrAt p s g).a<4:=by omega
     (with_reducible refine J21 ok (by kernel_rfl) lv66 ?_);intro R hR;simp only [go_sem,strip])
  | ((with_reducible refine SA.at 19 ?_)
     have hSp:=spawn_in hok hw hg hb92
     (with_reducible refine J21 ok (by kernel_rfl) lv66 ?_);intro R hR;simp only [go_sem,strip])
  | ((with_reducible refine SA.at 21 ?_)
     have hI:=vis63 hrt (.inl (hw.op_at hok hg.1 hg.2 hb97 (by decide)))
     (with_reducible refine J21 ok (by kernel_rfl) lv66 ?_);intro R hR;simp only [go_sem,strip])
  | ((with_reducible refine SA.at 25 ?_)
     have hI:=vis63 hrt (.inr (hw.op_at hok hg.1 hg.2 hb122 (by decide)))
     (with_reducible refine J21 ok (by kernel_rfl) lv66 ?_);intro R hR;simp only [go_sem,strip])
  | ((with_reducible refine SA.at 7 ?_)
     have hI:=vis58 hrt (hw.op_at hok hg.1 hg.2 hb28 (by decide))
     have hcl:=hCI (instrAt p s g).a.toNat (by omega)
     have hrm:(s.chans.getD (instrAt p s g).a.toNat default).closed=false→0<p.chans.getD (instrAt p s g).a.toNat 0→0≤(s.chans.getD (instrAt p s g).a.toNat default).len∧(s.chans.getD (instrAt p s g).a.toNat default).len<4:=fun h1 h2=>⟨hcl.1.1,by have:=send_room ((plain58 hb28).symm.trans (alts_plain ha (by omega)).1) h1 h2;omega⟩
     refine SA.regionT ok mixed (.take 0 (.take 1 (.take 2 (.take 3 (.take 4 (.take 5 (.take 6 (.br 7 .done .nil)))))))) [7] lv66 (by kernel_rfl) (fun R hR=>?_);simp only [go_sem,strip])
  | ((with_reducible refine SA.at 10 ?_)
     have hI:=vis59 hrt (hw.op_at hok hg.1 hg.2 hb38 (by decide))
     refine SA.regionT ok mixed (.take 0 (.take 1 (.take 2 (.take 3 (.take 4 (.take 5 (.take 6 (.br 7 .done .nil)))))))) [7] lv66 (by kernel_rfl) (fun R hR=>?_);simp only [go_sem,strip])
  | ((with_reducible refine SA.at 11 ?_)
     have hI:=vis59 hrt (hw.op_at hok hg.1 hg.2 hb38 (by decide))
     refine SA.regionT ok mixed (.take 0 (.take 1 (.take 2 (.take 3 (.br 4 (.br 5 .done .nil) .nil))))) [5] lv66 (by kernel_rfl) (fun R hR=>?_);simp only [go_sem,strip])
  | ((with_reducible refine SA.at 17 ?_)
     have hI:=vis61 hrt (hw.op_at hok hg.1 hg.2 hb70 (by decide))
     have hq4:=(hok.short (s.gos.getD g.toNat default).func.toNat (instrAt p s g).a.toNat (by omega)).2
     have hAl:=alt_in ha hb70
     have hSI:=sel_in hok (f:=(s.gos.getD g.toNat default).func.toNat) (a:=(instrAt p s g).a.toNat) (by omega) (by omega)
     have hEl:=els_in hok (f:=(s.gos.getD g.toNat default).func.toNat) (a:=(instrAt p s g).a.toNat) (by omega) (by omega)
     refine SA.regionT ok mixed (.take 0 (.take 1 (.take 2 (.take 3 (.take 4 (.take 5 (.take 6 (.take 14 (.take 15 (.take 18 (.br 7 (.take 8 (.take 9 (.take 10 (.take 11 (.take 12 (.take 13 (.take 16 (.take 17 (.br 19 (.take 20 .done) .nil))))))))) .nil))))))))))) [19] lv66 (by kernel_rfl) (fun R hR=>?_);simp only [go_sem,strip])
  | ((with_reducible refine J21 ok (by kernel_rfl) lv66 ?_);intro R hR;simp only [go_sem,strip])
  | ((with_reducible refine SA.regionD ok mixed (by kernel_rfl) (by kernel_rfl) lv66 ?_);intro R hR;simp only [go_sem,strip])
  | ((with_reducible refine J20 18 rfl (fun hb18=>?_) (fun hb18=>?_))
     all_goals
      try simp [-List.getD_eq_getElem?_getD] at hb18
      try (exfalso;omega))
  | ((with_reducible refine J20 28 rfl (fun hb28=>?_) (fun hb28=>?_))
     all_goals
      try simp [-List.getD_eq_getElem?_getD] at hb28
      try (exfalso;omega))
  | ((with_reducible refine J20 38 rfl (fun hb38=>?_) (fun hb38=>?_))
     all_goals
      try simp [-List.getD_eq_getElem?_getD] at hb38
      try (exfalso;omega))
  | ((with_reducible refine J20 58 rfl (fun hb58=>?_) (fun hb58=>?_))
     all_goals
      try simp [-List.getD_eq_getElem?_getD] at hb58
      try (exfalso;omega))
  | ((with_reducible refine J20 64 rfl (fun hb64=>?_) (fun hb64=>?_))
     all_goals
      try simp [-List.getD_eq_getElem?_getD] at hb64
      try (exfalso;omega))
  | ((with_reducible refine J20 70 rfl (fun hb70=>?_) (fun hb70=>?_))
     all_goals
      try simp [-List.getD_eq_getElem?_getD] at hb70
      try (exfalso;omega))
  | ((with_reducible refine J20 92 rfl (fun hb92=>?_) (fun hb92=>?_))
     all_goals
      try simp [-List.getD_eq_getElem?_getD] at hb92
      try (exfalso;omega))
  | ((with_reducible refine J20 97 rfl (fun hb97=>?_) (fun hb97=>?_))
     all_goals
      try simp [-List.getD_eq_getElem?_getD] at hb97
      try (exfalso;omega))
  | ((with_reducible refine J20 119 rfl (fun hb119=>?_) (fun hb119=>?_))
     all_goals
      try simp [-List.getD_eq_getElem?_getD] at hb119
      try (exfalso;omega))
  | ((with_reducible refine J20 122 rfl (fun hb122=>?_) (fun hb122=>?_))
     all_goals
      try simp [-List.getD_eq_getElem?_getD] at hb122
      try (exfalso;omega))
  | ((with_reducible first|refine bodyK.normal ?_|refine bodyK.ret ?_)
     simp only [go_sem,resA,resV,backK,seval]
     first
      | (have q:decide _=true:=hb18
         have hin:=of_decide_eq_true hb18
         rw [(vis_atV (alt:=alt) (p:=p) (s:=s) (g:=g) (by omega)).trans (doVars_atI (by omega)).symm] at h
         exact h _ _ _ NextOk.vars)
      | (have q:opAt p s g=58:=hb28
         rw [vis_at58 hb28] at h
         exact h _ _ _ NextOk.send)
      | (have q:opAt p s g=59:=hb38
         rw [vis_at59 hb38] at h
         have h:=fun ys=>h ys _ _ NextOk.recv
         simp only [recv_did (show (instrAt p s g).b.toNat<s.chans.length by omega),machD_ok (show 0≤(s.gor g).pc+1 by show 0≤(s.gos.getD g.toNat default).pc+1;omega)] at h
         exact h _)
      | (have q:opAt p s g=66:=hb58
         rw [vis_at66 hb58] at h
         exact h _ _ _ NextOk.taken)
      | (have q:opAt p s g=60:=hb64
         rw [vis_at60 hb64] at h
         exact h _ _ _ NextOk.close)
      | (have q:opAt p s g=61:=hb70
         rw [vis_at61 hb70] at h
         exact h _ _ _ NextOk.sel)
      | (have q:opAt p s g=62:=hb92
         rw [(vis_at62 hb92).trans (by rw [← atI_same (by omega)])] at h
         exact h _ _ _ NextOk.spawn)
      | (have q:opAt p s g=63:=hb97
         have q2:_=false:=hb119
         rw [(vis_at63 hb97).trans (if_pos (there_false hb119))] at h
         have h:=fun ys=>h ys ((s.gor g).pc+1) (-1) fun h1=>absurd h1 (show ¬(7:Int)=0 by decide)
         simp only [machD_fail (show (7:Int)≠0 by decide)] at h
         exact h _)
      | (have q:opAt p s g=63:=hb97
         have q2:_=true:=hb119
         rw [(vis_at63 hb97).trans (if_neg (there_true hb119))] at h
         have h:=fun ys=>h ys ((s.gor g).pc+1) (-1) (NextOk.same rfl fun _ _=>rfl)
         simp only [machD_ok (show 0≤(s.gor g).pc+1 by show 0≤(s.gos.getD g.toNat default).pc+1;omega)] at h
         exact h _)
      | (have q:opAt p s g=65:=hb122
         rw [vis_at65 hb122] at h
         have h:=fun ys=>h ys ((s.gor g).pc+1) (-1) (NextOk.same rfl fun _ _=>rfl)
         simp only [machD_ok (show 0≤(s.gor g).pc+1 by show 0≤(s.gos.getD g.toNat default).pc+1;omega)] at h
         exact h _)
      | (have q:¬opAt p s g=65:=hb122
         rw [(vis_atV (alt:=alt) (p:=p) (s:=s) (g:=g) (by omega)).trans ((doVars_atI (by omega)).symm.trans (dvElse (x:=atI p s g) (show opAt p s g<50∨57<opAt p s g by omega)))] at h
         have h:=fun ys=>h ys ((s.gor g).pc+1) (-1) (NextOk.same rfl fun _ _=>rfl)
         simp only [machD_ok (show 0≤(s.gor g).pc+1 by show 0≤(s.gos.getD g.toNat default).pc+1;omega)] at h
         exact h _))
end Go.Eng.Tryz
namespace Go.Eng
theorem idx_hit {l:List Int} {v:Int} {i:Nat} (hi:i<l.length) (h:v=l.getD i 0) (hb:∀ j,j<i→¬v=l.getD j 0):(i:Int)=if v∈l then ((l.findIdx fun y=>decide (v=y):Nat):Int) else -1:=by
 have hm:v∈l:=by
  rw [h,List.getD_eq_getElem?_getD,List.getElem?_eq_getElem hi]
  exact List.getElem_mem hi
 rw [if_pos hm]
 congr 1
 symm
 rw [List.findIdx_eq hi]
 constructor
 · rw [decide_eq_true_eq,h,List.getD_eq_getElem?_getD,List.getElem?_eq_getElem hi];rfl
 · intro j hj
   rw [decide_eq_false_iff_not]
   have:=hb j hj
   rw [List.getD_eq_getElem?_getD,List.getElem?_eq_getElem (by omega)] at this
   exact this
theorem idx_miss {l:List Int} {v:Int} (hb:∀ j,j<l.length→¬v=l.getD j 0):(-1:Int)=if v∈l then ((l.findIdx fun y=>decide (v=y):Nat):Int) else -1:=by
 rw [if_neg]
 intro hm
 obtain ⟨j,hj,e⟩:=List.getElem_of_mem hm
 refine hb j hj ?_
 rw [List.getD_eq_getElem?_getD,List.getElem?_eq_getElem hj]
 exact e.symm
def doV (p:Prg) (s:Stt) (x:Pck) (fuel:Int):Stt × Event × Int:=if askErr p s≠0 then (zeroStt,zeroEvent,askErr p s) else doStep applyW p s x fuel
def pcS (s:Stt) (g nx:Int):Stt:=⟨s.vars,s.owner,s.chans,s.gos.set g.toNat ⟨(s.gos.getD g.toNat default).status,(s.gos.getD g.toNat default).func,nx,(s.gos.getD g.toNat default).why,(s.gos.getD g.toNat default).regs⟩,s.count⟩
theorem mach_after {p:Prg} (hr:rightP p=true) (hok:p.Ok) {s:Stt} (hv:Vld p s) {x:Pck} (ha:x.alt∈alts p s x.go) {fuel:Int} (hf:0≤fuel∧fuel≤4096) {nx md:Int} (hn:NextOk s (visible p s x.go x.alt) nx md) :
 ∃ (ms:Stt) (mv:Int) (mo:Bool),machD p x.go fuel (visible p s x.go x.alt)=machV p ms x.go fuel mv mo∧ms.gos.length=6∧(mo=true→take applyW p s x fuel=(ms,event p s x mv)) ∧
   (mo=false→(pcS ms x.go nx).Shape∧(settle applyW p (pcS ms x.go nx) x.go fuel).1.Shape∧take applyW p s x fuel=(if 0≤md then (settle applyW p (settle applyW p (pcS ms x.go nx) x.go fuel).1 md fuel).1 else (settle applyW p (pcS ms x.go nx) x.go fuel).1,event p s x mv)):=by
 have hg:=(live_iff.1 (alts_live ha)).1
 have hd:=visible_ok hok hr hv ha
 have ht:take applyW p s x fuel=(let d:=visible p s x.go x.alt
  if d.why≠0 then (failS d.s x.go d.why,event p s x 0)
  else if d.to_<0 then (d.s,event p s x d.val)
  else (if s.count<(settle applyW p (pcS d.s x.go d.to_) x.go fuel).1.count then (settle applyW p (settle applyW p (pcS d.s x.go d.to_) x.go fuel).1 s.count fuel).1 else (settle applyW p (pcS d.s x.go d.to_) x.go fuel).1,event p s x d.val)):=rfl
 rw [ht]
 generalize visible p s x.go x.alt=d at *
 simp only
 have hsh:=hd.vld.shape
 by_cases hw:d.why=0
 · by_cases h0:0≤d.to_
   · obtain ⟨rfl,hmd⟩:=hn hw h0
     refine ⟨d.s,d.val,false,machD.ok hw h0,hsh.gos,fun h=>(by cases h),fun _=>?_⟩
     have hvA:Vld p (pcS d.s x.go d.to_):=afterVis_ok hg hd hw h0
     have hgA:0≤x.go∧x.go<(pcS d.s x.go d.to_).count:=⟨hg.1,by have:=hd.cnt;show x.go<d.s.count;omega⟩
     have hS:=settle_ok applyW_ok hr hok hvA hgA hf
     have hK:=(settle_keeps (apply:=applyW) hr hok hvA hgA hf).2.2.2.1
     refine ⟨hvA.shape,hS.shape,?_⟩
     rw [if_neg (fun q=>q hw),if_neg (by omega),hK]
     have e:(pcS d.s x.go d.to_).count=d.s.count:=rfl
     rw [e]
     by_cases hc:s.count<d.s.count
     · rw [if_pos hc] at hmd
       subst hmd
       rw [if_pos hc,if_pos (by have:=hv.count;omega)]
     · rw [if_neg hc] at hmd
       subst hmd
       rw [if_neg hc,if_neg (by decide)]
   · refine ⟨d.s,d.val,true,machD.over hw (by omega),hsh.gos,fun _=>?_,fun h=>(by cases h)⟩
     rw [if_neg (fun q=>q hw),if_pos (by omega)]
 · refine ⟨failS d.s x.go d.why,0,true,machD.fail hw,(by show (d.s.gos.set _ _).length=6;rw [List.length_set];exact hsh.gos),fun _=>?_,fun h=>(by cases h)⟩
   rw [if_pos hw]
theorem doV_ask {p:Prg} {s:Stt} {x:Pck} {fuel:Int} (h:¬askErr p s=0):doV p s x fuel=(zeroStt,zeroEvent,askErr p s):=if_pos h
theorem doV_fuel {p:Prg} {s:Stt} {x:Pck} {fuel:Int} (h:askErr p s=0) (hf:fuel<0∨4096<fuel):doV p s x fuel=(zeroStt,zeroEvent,1):=(if_neg (fun q=>q h)).trans (if_pos hf)
theorem doV_pick {p:Prg} {s:Stt} {x:Pck} {fuel:Int} (h:askErr p s=0) (hf:¬(fuel<0∨4096<fuel)) (ha:¬x.alt∈alts p s x.go):doV p s x fuel=(zeroStt,zeroEvent,5):=(if_neg (fun q=>q h)).trans ((if_neg hf).trans (if_pos (decide_eq_false ha)))
theorem doV_take {p:Prg} {s:Stt} {x:Pck} {fuel:Int} (h:askErr p s=0) (hf:¬(fuel<0∨4096<fuel)) (ha:x.alt∈alts p s x.go):doV p s x fuel=((take applyW p s x fuel).1,(take applyW p s x fuel).2,0):=(if_neg (fun q=>q h)).trans ((if_neg hf).trans (if_neg (by unfold has;rw [decide_eq_true ha];decide)))
theorem alts_none {p:Prg} {s:Stt} (hv:Vld p s) {g a:Int} (h:(g<0∨6≤g)∨liveB s g=false):¬a∈alts p s g:=by
 intro ha
 have hl:=alts_live ha
 have h1:=live_iff.1 hl
 have hc:=hv.count
 rcases h with h|h
 · omega
 · rw [← liveB_live hv (by omega) (by omega),hl] at h
   cases h
theorem go_bnd {g:Int} (h:(decide (g<0)||decide (6≤g))=false):0≤g∧g<6:=by simp at h;omega
theorem go_none {g:Int} (h:(decide (g<0)||decide (6≤g))=true):g<0∨6≤g:=by simpa using h
end Go.Eng
namespace Go.Eng.Tryz
open Go.RowKit Go.Eng
set_option maxHeartbeats 0
set_option maxRecDepth 20000
def lv102:List (Nat × List Nat):=[(0,[0,1]),(1,[0,1,7,8]),(2,[0,1,7,8,9]),(3,[0,1,5,7,8]),(4,[0,1,5,7,8,16]),(5,[4]),(6,[0,1,7,8]),(7,[4])]
theorem pidx_ctr (l:List Int) (v:Int) (hl:l.length≤256):Ctr Go.Proofs.Tryz.prog tab 102 [23,3] [3] [.list (l.map V.int),.int v] [.int (if v∈l then (l.findIdx fun y=>decide (v=y):Nat) else -1)]:=by
 have hmx:256≤maxLen:=by decide
 refine Ctr.body ok Go.Proofs.Tryz.func102 rfl rfl 19 rfl [.tmp 4] rfl (by simp [fromVs]) ?_
 simp only [fromVs,fromV,args0,V.toList_list,V.toInt_int,V.toBool_bool,Nat.zero_add,Nat.reduceAdd,ty3,ty23]
 repeat' first
  | ((with_reducible refine SARA.do fun R1 hR1=>?_);(simp only [go_sem,seval,-List.reduceReplicate,Bool.cond_false_right,Bool.cond_true_left]);(repeat' with_reducible refine And.intro ?_ ?_);all_goals first|(refine hR1 _ ?_;clear hR1 R1)|omega|rfl|decide|assumption|(intro _;omega)|(simp;done)|(simp [-List.getD_eq_getElem?_getD];omega)|exact hcode _|(intro _;exact hcode _)|exact hsl _|(intro _;exact hsl _))
  | ((with_reducible refine SARA.nil ?_);refine hR _ ?_;clear hR R;try simp only [go_sem,lv102,lvOf,Nat.reduceBEq,Option.getD_some])
  | (with_reducible first|refine J1 ?_|refine J2 ?_|refine J3 ?_|refine J4 ?_|refine J5 ?_|refine J6 ?_|refine J7 ?_|refine J8 (by decide) ?_|refine J9 ?_|refine J10 ?_|refine J11 ?_|refine J12 ?_|refine J13 ?_|refine J14 ?_|refine J15 ?_|refine J16 ?_|refine J17 ?_|refine J18 ?_|refine J19 ?_)
  | ((with_reducible refine J21 ok (by kernel_rfl) lv102 ?_);intro R hR;simp only [go_sem,strip])
  | ((with_reducible refine J20 16 rfl (fun hb16=>?_) (fun hb16=>?_))
     all_goals
      try simp [-List.getD_eq_getElem?_getD] at hb16
      try (exfalso;omega))
  | ((with_reducible refine SA.cond rfl ?_ ?_)
     all_goals
      intro hb
      try simp [-List.getD_eq_getElem?_getD] at hb
      try (exfalso;omega))
  | ((with_reducible refine SA.atLoop ?_)
     refine SA.weaken (St.le.of_eq (by first|rfl|(simp;done)|fail)) (SA.loop (fun n τ=>∃ (i:Nat),n=l.length-i∧(i≤l.length∧∀ j,j<i→¬v=l.getD j 0)∧τ={ tm:=[(0,true,.fs 3 (l.map V.int) false),(1,true,.int .i64 v),(7,true,.int .i64 l.length),(8,true,.int .i64 i)],ob:=[],out:=[],nt:=19 }) (l.length) ⟨0,rfl,⟨by omega,fun j h=>absurd h (by omega)⟩,rfl⟩ ?_)
     rintro n τ ⟨i,hn,⟨hi,hno⟩,rfl⟩)
  | ((with_reducible refine loopK.round ?_)
     first
      | (have hlt:i<l.length:=by omega
         have hw:=wrap_succ (n:=i) (m:=256) (by omega) (by decide)
         have hno':∀ j,j<i+1→¬v=l.getD j 0:=fun j h=>by
          by_cases q:j=i
          · subst q;exact hb16
          · exact hno j (by omega)
         refine loopK.normal (l.length-(i+1)) _ (by omega) (St.le.of_eq (by simp only [hw])) ⟨i+1,rfl,⟨hlt,hno'⟩,rfl⟩))
  | ((with_reducible first|refine ctrK.normal ?_|refine ctrK.ret ?_)
     simp only [go_sem,resA,resV,backK,seval]
     first
      | (have q:v=_:=hb16
         have hlt:i<l.length:=by omega
         exact ⟨rfl,congrArg (fun e=>some (V.int e)) (idx_hit hlt hb16 hno)⟩)
      | (have e:i=l.length:=by omega
         subst e
         exact ⟨rfl,congrArg (fun e=>some (V.int e)) (idx_miss hno)⟩))
def lv62:List (Nat × List Nat):=[(0,[0,1]),(1,[4])]
theorem pcontains_ctr (l:List Int) (v:Int) (hl:l.length≤256):Ctr Go.Proofs.Tryz.prog tab 62 [23,3] [4] [.list (l.map V.int),.int v] [.bool (decide (v∈l))]:=by
 refine Ctr.body ok Go.Proofs.Tryz.func62 rfl rfl 9 rfl [.tmp 4] rfl (by simp [fromVs]) ?_
 simp only [fromVs,fromV,args0,V.toList_list,V.toInt_int,V.toBool_bool,Nat.zero_add,Nat.reduceAdd,ty3,ty23]
 repeat' first
  | ((with_reducible refine SARA.do fun R1 hR1=>?_);(simp only [go_sem,seval,-List.reduceReplicate,Bool.cond_false_right,Bool.cond_true_left]);(repeat' with_reducible refine And.intro ?_ ?_);all_goals first|(refine hR1 _ ?_;clear hR1 R1)|((first|refine cq (cc (pidx_ctr l v hl) (by first|rfl|(simp [go_sem,List.length_map,List.take_of_length_le,argsV,contentV,toV];done)|fail)) ?_);all_goals ((try simp only [go_sem,seval,-List.reduceReplicate,Bool.cond_false_right,Bool.cond_true_left]);(repeat' with_reducible refine And.intro ?_ ?_);all_goals first|(refine hR1 _ ?_;clear hR1 R1)|omega|rfl|decide|assumption|(intro _;omega)|(simp;done)|(simp [-List.getD_eq_getElem?_getD];omega)|exact hcode _|(intro _;exact hcode _)|exact hsl _|(intro _;exact hsl _)))|omega|rfl|decide|assumption|(intro _;omega)|(simp;done)|(simp [-List.getD_eq_getElem?_getD];omega)|exact hcode _|(intro _;exact hcode _)|exact hsl _|(intro _;exact hsl _))
  | ((with_reducible refine SARA.nil ?_);refine hR _ ?_;clear hR R;try simp only [go_sem,lv62,lvOf,Nat.reduceBEq,Option.getD_some])
  | (with_reducible first|refine J1 ?_|refine J2 ?_|refine J3 ?_|refine J4 ?_|refine J5 ?_|refine J6 ?_|refine J7 ?_|refine J8 (by decide) ?_|refine J9 ?_|refine J10 ?_|refine J11 ?_|refine J12 ?_|refine J13 ?_|refine J14 ?_|refine J15 ?_|refine J16 ?_|refine J17 ?_|refine J18 ?_|refine J19 ?_)
  | ((with_reducible refine J21 ok (by kernel_rfl) lv62 ?_);intro R hR;simp only [go_sem,strip])
  | ((with_reducible first|refine ctrK.normal ?_|refine ctrK.ret ?_)
     simp only [go_sem,resA,resV,backK,seval]
     refine ⟨rfl,congrArg (fun e=>some (V.bool e)) ?_⟩
     by_cases h:v∈l
     · rw [if_pos h,decide_eq_true h];exact decide_eq_true (Int.natCast_nonneg _)
     · rw [if_neg h,decide_eq_false h];rfl)
end Go.Eng.Tryz
namespace Go.Eng.Tryz
open Go.RowKit Go.Eng
set_option maxHeartbeats 0
set_option maxRecDepth 20000
end Go.Eng.Tryz
namespace Go.Eng.Tryz
open Go.RowKit Go.Eng
set_option maxHeartbeats 0
set_option maxRecDepth 20000
end Go.Eng.Tryz
namespace Go.Eng.Tryz
open Go.RowKit Go.Eng
set_option maxHeartbeats 0
set_option maxRecDepth 20000
end Go.Eng.Tryz
namespace Go.Eng.Tryz
open Go.RowKit Go.Eng
set_option maxHeartbeats 0
set_option maxRecDepth 20000
end Go.Eng.Tryz
