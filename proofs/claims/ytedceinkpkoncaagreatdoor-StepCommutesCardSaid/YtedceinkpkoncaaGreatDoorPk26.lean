/- A part of the proof: walks through the program's functions, and what they compute. -/
import Derived.Test.YtedceinkpkoncaaGreatDoorPk25
import Derived.Test.YtedceinkpkoncaaGreatDoorPk24
set_option linter.unusedSimpArgs false
set_option linter.unusedVariables false
namespace Go.Eng.Tryz
open Go.RowKit Go.Eng
set_option maxHeartbeats 0
set_option maxRecDepth 20000
def addIf (L:List Int) (b:Bool) (k:Int):List Int:=if b then L++[k] else L
theorem alts_fin {p:Prg} {s:Stt} {g:Int} (hl:isLive s g=true) (h:opAt p s g=61) {q:Sel} (hq:selAt p s g=q) {i:Nat} (hi:i=q.cases.length) :
 alts p s g=addIf (casesTo p s q i) (decide (((casesTo p s q i).length:Int)=0)&&!decide (q.els = -1)) (q.cases.length:Int):=by
 subst hq
 subst hi
 have e:alts p s g=if (casesTo p s (selAt p s g) (selAt p s g).cases.length).length=0∧(selAt p s g).els ≠ -1 then casesTo p s (selAt p s g) (selAt p s g).cases.length++[((selAt p s g).cases.length:Int)] else casesTo p s (selAt p s g) (selAt p s g).cases.length:=(if_pos hl).trans (if_pos h)
 rw [e]
 by_cases h1:(casesTo p s (selAt p s g) (selAt p s g).cases.length).length=0
 · by_cases h2:(selAt p s g).els = -1
   · rw [if_neg (fun q=>q.2 h2),decide_eq_true h2,Bool.not_true,Bool.and_false];rfl
   · rw [if_pos ⟨h1,h2⟩,decide_eq_false h2,decide_eq_true (show ((casesTo p s (selAt p s g) (selAt p s g).cases.length).length:Int)=0 by omega)];rfl
 · rw [if_neg (fun q=>h1 q.1),decide_eq_false (show ¬((casesTo p s (selAt p s g) (selAt p s g).cases.length).length:Int)=0 by omega)];rfl
def lv104:List (Nat × List Nat):=[(0,[0,2,5]),(1,[])]
theorem alts1_call (P S X C:V) (L:List Int) (k:Int) (b:Bool) {tm:Tm} {out:List Tm} {nt:Nat} {xs:List Obj} {K:St→E→Prop} (hL:L.length≤1000) (hx:xs.map (Obj.kill 5)=xs) (hk1:Tm.kill 5 tm=tm) (hk2:out.map (Tm.kill 5)=out) (h:∀ ys,K { tm:=tm,ob:=.var 26 (.data 26 P)::.var 37 (.data 37 S)::.var 129 (.data 129 X)::.var 23 (.sl 5 3 0 (addIf L b k).length false)::.var 124 (.data 124 C)::.row 3 ((addIf L b k).map V.int)::(xs++ys),out:=out,nt:=nt } (.tup [])):CallE Go.Proofs.Tryz.prog tab { tm:=tm,ob:=.var 26 (.data 26 P)::.var 37 (.data 37 S)::.var 129 (.data 129 X)::.var 23 (.sl 5 3 0 L.length false)::.var 124 (.data 124 C)::.row 3 (L.map V.int)::xs,out:=out,nt:=nt } 104 [.int .i64 k,.bool b,.ptr 3 [] 23] K:=by
 have hk1':(tm.map fun x=>(x.1,x.2.1,E.kill 5 x.2.2))=tm:=hk1
 refine CallE.body ok Go.Proofs.Tryz.func104 rfl rfl 10 rfl [] rfl (by simp) ?_
 simp only [enter,args0,Nat.zero_add,Nat.reduceAdd]
 repeat' first
  | ((with_reducible refine SARA.do fun R1 hR1=>?_);(simp only [go_sem,seval,-List.reduceReplicate,hk1',hk2,hx,List.getElem?_cons_succ,List.set_cons_succ,List.set_cons_zero,concat_at]);(repeat' with_reducible refine And.intro ?_ ?_);all_goals first|(refine hR1 _ ?_;clear hR1 R1)|omega|rfl|decide|assumption|(intro _;omega)|(simp;done)|(simp [-List.getD_eq_getElem?_getD];omega)|exact hcode _|(intro _;exact hcode _)|exact hsl _|(intro _;exact hsl _)|(simp [-List.getD_eq_getElem?_getD,roomFor,maxLen,by3,by39,by45,by48,by37];omega)|(simp [-List.getD_eq_getElem?_getD,roomFor,maxLen,by3,by39,by45,by48,by37];done))
  | ((with_reducible refine SARA.nil ?_);refine hR _ ?_;clear hR R;try simp only [go_sem,lv104,lvOf,Nat.reduceBEq,Option.getD_some])
  | (with_reducible first|refine J1 ?_|refine J2 ?_|refine J3 ?_|refine J4 ?_|refine J5 ?_|refine J6 ?_|refine J7 ?_|refine J8 (by decide) ?_|refine J9 ?_|refine J10 ?_|refine J11 ?_|refine J12 ?_|refine J13 ?_|refine J14 ?_|refine J15 ?_|refine J16 ?_|refine J17 ?_|refine J18 ?_|refine J19 ?_)
  | ((with_reducible refine J21 ok (by kernel_rfl) lv104 ?_);intro R hR;simp only [go_sem,strip])
  | ((with_reducible refine J20 5 rfl (fun hb5=>?_) (fun hb5=>?_))
     all_goals
      try simp at hb5
      try subst hb5)
  | ((with_reducible first|refine bodyK.normal ?_|refine bodyK.ret ?_)
     simp only [go_sem,resA,resV,backK,seval]
     first
      | (have q:=h [Obj.row 3 [V.int k]]
         simpa [addIf,hx,Obj.kill,List.take_of_length_le] using q)
      | (have q:=h []
         simpa [addIf] using q))
def lv63:List (Nat × List Nat):=[(0,[2,3,4]),(1,[2,3,4,7]),(2,[2,3,4,7,19]),(3,[23]),(4,[6]),(5,[6]),(6,[2,3,4,7,8]),(7,[3,4,8,9]),(8,[3,4,8,9,10]),(9,[3,4,8,9,10,41,42,43]),(10,[3,4,8,9,10,41,42,43,44]),(11,[3,4,8,9,10,11,12,41,42,43]),(12,[3,4,8,9,10,41,42,43]),(13,[3,4,8,9,10,41,42,43]),(14,[8]),(15,[6])]
theorem palts_ctr (p:Prg) (s:Stt) (g:Int) (hp:p.Fit) (hr:rightP p=true) (hv:Vld p s) (hg:0≤g∧g<s.count) (hl:isLive s g=true):Ctr Go.Proofs.Tryz.prog tab 63 [26,37,3] [23] [p.v,s.v,.int g] [.list ((alts p s g).map V.int)]:=by
 have hw:=hv.wf (Prg.ok hr) hr
 have hpp:=hp
 have hok:=Prg.ok hr
 have hs:=hw.shape
 have hcnt:=hw.count
 have hcode:=p.code_len hp
 have hsl:=p.sels_len hp
 obtain ⟨hp1,hp2,hp3,hp4⟩:=hp
 have hs1:=hs.vars
 have hs2:=hs.owner
 have hs3:=hs.chans
 have hs5:=hs.gos
 have hsz:=hok.sizes
 unfold Sizes at hsz
 have hmx:256≤maxLen:=by decide
 have hgi:=hw.gos g (by omega) (by omega)
 have hgf:=hgi.f0
 have hgf1:=hgi.f1
 have hgp:=hgi.p0
 have hgp1:=hgi.p1
 have h8:=hgi.regs
 have hrt:instrErr p (p.funcs.getD (s.gos.getD g.toNat default).func.toNat default) (instrAt p s g)=0:=hw.right hok hg.1 hg.2
 have hrg:=hok.regs (s.gos.getD g.toNat default).func.toNat
 refine Ctr.body ok Go.Proofs.Tryz.func63 rfl rfl 86 rfl [.tmp 6] rfl (by simp [fromVs]) ?_
 simp only [fromVs,fromV,args0,V.toList_list,V.toInt_int,V.toBool_bool,Nat.zero_add,Nat.reduceAdd,ty3,ty26,ty37]
 repeat' first
  | ((with_reducible refine SARW.told 14 12 ?_)
     refine SARW.weak (St.le.keep [8,72,75,83]) ?_
     simp only [St.keep,List.filterMap_cons,List.filterMap_nil,List.lookup_cons,List.lookup_nil,Option.map_some,Option.map_none,beq_self_eq_true,Nat.reduceBEq])
  | ((with_reducible refine SARA.told 11 3 ?_)
     rw [getD_cass (by omega)])
  | ((with_reducible refine SART.told 7 7 ?_)
     rw [getD_fncs (by omega)])
  | ((with_reducible refine SART.told 7 12 ?_)
     rw [getD_sels (by omega)])
  | ((with_reducible first|refine SARA.do fun R1 hR1=>?_|refine SARW.do fun R1 hR1=>?_|refine SART.do fun R1 hR1=>?_|refine SARB.keep fun R1 hR1=>?_|refine SARB.any fun R1 hR1=>?_);(simp only [go_sem,seval,-List.reduceReplicate,Bool.cond_false_right,Bool.cond_true_left,atI_op,atI_a,atI_b,z3]);(repeat' with_reducible refine And.intro ?_ ?_);all_goals first|(refine hR1 _ ?_;clear hR1 R1)|((first|refine cq (cc (pat_ctr p s g hpp hr hw hg)) ?_|refine ⟨_,_,rfl,.inl ⟨_,fun hg=>CallQ.ctr ok (pat_ctr p s g hpp hr hw hg) (by first|rfl|(simp [go_sem];done)|fail) rfl,?_⟩⟩|refine cq (cc (pready_ctr p s g hpp hr hv hg hb19)) ?_|refine ⟨_,_,rfl,.inl ⟨_,fun hg=>CallQ.ctr ok (pready_ctr p s g hpp hr hv hg hb19) (by first|rfl|(simp [go_sem];done)|fail) rfl,?_⟩⟩|refine cq (cc (psends_ctr p s _ hpp hr hw hC.chan)) ?_|refine ⟨_,_,rfl,.inl ⟨_,fun hg=>CallQ.ctr ok (psends_ctr p s _ hpp hr hw hC.chan) (by first|rfl|(simp [go_sem];done)|fail) rfl,?_⟩⟩|refine cq (cc (preceives_ctr s _ hs hC4)) ?_|refine ⟨_,_,rfl,.inl ⟨_,fun hg=>CallQ.ctr ok (preceives_ctr s _ hs hC4) (by first|rfl|(simp [go_sem];done)|fail) rfl,?_⟩⟩|refine ⟨_,_,rfl,.inr (alts1_call _ _ _ _ _ _ _ (by omega) rfl rfl rfl fun ys=>?_)⟩);all_goals ((try simp only [go_sem,seval,-List.reduceReplicate,Bool.cond_false_right,Bool.cond_true_left,atI_op,atI_a,atI_b,z3]);(repeat' with_reducible refine And.intro ?_ ?_);all_goals first|(refine hR1 _ ?_;clear hR1 R1)|omega|rfl|decide|assumption|(intro _;omega)|(simp;done)|(simp [-List.getD_eq_getElem?_getD];omega)|exact hcode _|(intro _;exact hcode _)|exact hsl _|(intro _;exact hsl _)|(simp [-List.getD_eq_getElem?_getD,roomFor,maxLen,by3,by39,by45,by48,by37];omega)|(simp [-List.getD_eq_getElem?_getD,roomFor,maxLen,by3,by39,by45,by48,by37];done)))|omega|rfl|decide|assumption|(intro _;omega)|(simp;done)|(simp [-List.getD_eq_getElem?_getD];omega)|exact hcode _|(intro _;exact hcode _)|exact hsl _|(intro _;exact hsl _)|(simp [-List.getD_eq_getElem?_getD,roomFor,maxLen,by3,by39,by45,by48,by37];omega)|(simp [-List.getD_eq_getElem?_getD,roomFor,maxLen,by3,by39,by45,by48,by37];done))
  | ((with_reducible refine SART.done ?_);refine hR _ ?_;clear hR R;try simp only [go_sem,lv63,lvOf,Nat.reduceBEq,Option.getD_some])
  | (with_reducible first|refine SART.br ?_ ?_|exact SARL.nil|refine SARL.cons ?_ ?_)
  | ((with_reducible refine SARA.nil ?_);refine hR _ ?_;clear hR R;try simp only [go_sem,lv63,lvOf,Nat.reduceBEq,Option.getD_some])
  | ((with_reducible refine SARW.nil ?_);refine hR _ ?_;clear hR R;try simp only [go_sem,lv63,lvOf,Nat.reduceBEq,Option.getD_some])
  | (with_reducible first|refine J1 ?_|refine J2 ?_|refine J3 ?_|refine J4 ?_|refine J5 ?_|refine J6 ?_|refine J7 ?_|refine J8 (by decide) ?_|refine J9 ?_|refine J10 ?_|refine J11 ?_|refine J12 ?_|refine J13 ?_|refine J14 ?_|refine J15 ?_|refine J16 ?_|refine J17 ?_|refine J18 ?_|refine J19 ?_)
  | ((with_reducible refine SA.at 12 ?_)
     have hC:=case_ok hok (i:=(s.gos.getD g.toNat default).func.toNat) (j:=(instrAt p s g).a.toNat) (k:=i) (by omega) (by omega) (by omega)
     have hC4:0≤(((p.funcs.getD (s.gos.getD g.toNat default).func.toNat default).sels.getD (instrAt p s g).a.toNat default).cases.getD i default).chan∧(((p.funcs.getD (s.gos.getD g.toNat default).func.toNat default).sels.getD (instrAt p s g).a.toNat default).cases.getD i default).chan<4:=⟨hC.chan.1,by have:=hC.chan.2;omega⟩
     have hq:=casesTo_len p s ((p.funcs.getD (s.gos.getD g.toNat default).func.toNat default).sels.getD (instrAt p s g).a.toNat default) i
     (with_reducible refine J21 ok (by kernel_rfl) lv63 ?_);intro R hR;simp only [go_sem,strip])
  | ((with_reducible refine SA.at 14 ?_)
     have hq:=casesTo_len p s ((p.funcs.getD (s.gos.getD g.toNat default).func.toNat default).sels.getD (instrAt p s g).a.toNat default) i
     (with_reducible refine SA.regionWN ok (by kernel_rfl) lv63 ?_);intro R hR;simp only [go_sem,strip])
  | ((with_reducible refine SA.at 7 ?_)
     have hop:=hw.op_at hok hg.1 hg.2 hb19 (by decide)
     have hI:0≤(instrAt p s g).a∧(instrAt p s g).a<((p.funcs.getD (s.gos.getD g.toNat default).func.toNat default).sels.length:Int):=vis61 hrt hop
     have hsh:=hok.short (s.gos.getD g.toNat default).func.toNat (instrAt p s g).a.toNat (by omega)
     refine SA.regionT ok mixed (.take 0 (.take 1 (.take 2 (.take 3 (.take 4 (.take 5 (.take 6 (.take 7 (.take 8 (.take 9 (.take 10 (.take 11 (.take 12 (.take 13 (.br 14 (.br 15 .done .nil) .nil))))))))))))))) [15] lv63 (by kernel_rfl) (fun R hR=>?_);simp only [go_sem,strip])
  | ((with_reducible refine J21 ok (by kernel_rfl) lv63 ?_);intro R hR;simp only [go_sem,strip])
  | ((with_reducible refine J20 19 rfl (fun hb19=>?_) (fun hb19=>?_))
     all_goals
      try simp [-List.getD_eq_getElem?_getD] at hb19
      try (exfalso;omega))
  | ((with_reducible refine J20 23 rfl (fun hb23=>?_) (fun hb23=>?_))
     all_goals
      try simp [-List.getD_eq_getElem?_getD] at hb23
      try (exfalso;omega))
  | ((with_reducible refine SA.cond rfl ?_ ?_)
     all_goals
      intro hb
      try simp [-List.getD_eq_getElem?_getD] at hb
      try (exfalso;omega))
  | ((with_reducible refine SA.atLoop ?_)
     refine SA.weaken ((St.le.ownVar 3 (e:=3) rfl).trans (St.le.of_eq rfl)) (SA.loop (fun n τ=>∃ (i:Nat),n=((p.funcs.getD (s.gos.getD g.toNat default).func.toNat default).sels.getD (instrAt p s g).a.toNat default).cases.length-i∧(i≤((p.funcs.getD (s.gos.getD g.toNat default).func.toNat default).sels.getD (instrAt p s g).a.toNat default).cases.length)∧τ={ tm:=[(3,true,.ptr 0 [] 26),(4,true,.ptr 1 [] 37),(8,true,.ptr 3 [] 23),(9,true,.ptr 4 [] 124),(10,true,.fn 104 [.ptr 3 [] 23]),(41,true,.fs 156 (((p.funcs.getD (s.gos.getD g.toNat default).func.toNat default).sels.getD (instrAt p s g).a.toNat default).cases.map Cas.v) false),(42,true,.int .i64 ((p.funcs.getD (s.gos.getD g.toNat default).func.toNat default).sels.getD (instrAt p s g).a.toNat default).cases.length),(43,true,.int .i64 i)],ob:=[.var 26 (.data 26 p.v),.var 37 (.data 37 s.v),.var 129 (.data 129 (atI p s g).v),.var 23 (.sl 5 3 0 (casesTo p s ((p.funcs.getD (s.gos.getD g.toNat default).func.toNat default).sels.getD (instrAt p s g).a.toNat default) i).length false),.var 124 (.data 124 ((p.funcs.getD (s.gos.getD g.toNat default).func.toNat default).sels.getD (instrAt p s g).a.toNat default).v),.row 3 ((casesTo p s ((p.funcs.getD (s.gos.getD g.toNat default).func.toNat default).sels.getD (instrAt p s g).a.toNat default) i).map V.int)],out:=[],nt:=86 }) (((p.funcs.getD (s.gos.getD g.toNat default).func.toNat default).sels.getD (instrAt p s g).a.toNat default).cases.length) ⟨0,rfl,by omega,rfl⟩ ?_)
     rintro n τ ⟨i,hn,hi,rfl⟩)
  | ((with_reducible refine loopK.round ?_)
     first
      | (have hlt:i<((p.funcs.getD (s.gos.getD g.toNat default).func.toNat default).sels.getD (instrAt p s g).a.toNat default).cases.length:=by omega
         have hw:=wrap_succ (n:=i) (m:=256) (by omega) (by decide)
         have e:∀ x,x=caseOk p s (((p.funcs.getD (s.gos.getD g.toNat default).func.toNat default).sels.getD (instrAt p s g).a.toNat default).cases.getD i default)→addIf (casesTo p s ((p.funcs.getD (s.gos.getD g.toNat default).func.toNat default).sels.getD (instrAt p s g).a.toNat default) i) x i=casesTo p s ((p.funcs.getD (s.gos.getD g.toNat default).func.toNat default).sels.getD (instrAt p s g).a.toNat default) (i+1):=by
          intro x hx
          subst hx
          cases hc:caseOk p s (((p.funcs.getD (s.gos.getD g.toNat default).func.toNat default).sels.getD (instrAt p s g).a.toNat default).cases.getD i default)
          · exact (casesTo_miss hc).symm
          · exact (casesTo_hit hc).symm
         refine loopK.normal (((p.funcs.getD (s.gos.getD g.toNat default).func.toNat default).sels.getD (instrAt p s g).a.toNat default).cases.length-(i+1)) _ (by omega) ((St.le.cut 6 rfl).trans (St.le.of_eq (by rw [e _ (by unfold caseOk;cases (((p.funcs.getD (s.gos.getD g.toNat default).func.toNat default).sels.getD (instrAt p s g).a.toNat default).cases.getD i default).send<;>simp)];simp only [hw,List.take_succ_cons,List.take_zero]))) ⟨i+1,rfl,hlt,rfl⟩))
  | ((with_reducible first|refine ctrK.normal ?_|refine ctrK.ret ?_)
     simp only [go_sem,resA,resV,backK,seval]
     first
      | (have q:=hb23
         refine ⟨rfl,?_⟩
         rw [show alts p s g=[0] from (if_pos hl).trans ((if_neg hb19).trans (if_pos hb23))]
         simp)
      | (have q:=hb23
         refine ⟨rfl,?_⟩
         rw [show alts p s g=[] from (if_pos hl).trans ((if_neg hb19).trans (if_neg (by rw [hb23];simp)))]
         rfl)
      | (have hi':i=((p.funcs.getD (s.gos.getD g.toNat default).func.toNat default).sels.getD (instrAt p s g).a.toNat default).cases.length:=by omega
         refine ⟨rfl,?_,fun _ h=>absurd h (by simp)⟩
         rw [alts_fin hl hb19 (q:=((p.funcs.getD (s.gos.getD g.toNat default).func.toNat default).sels.getD (instrAt p s g).a.toNat default)) rfl hi']
         simp [-List.getD_eq_getElem?_getD,List.take_of_length_le]))
def lv29:List (Nat × List Nat):=[(0,[2,3,4]),(1,[2,3,4,8]),(2,[2,3,4,8,14]),(3,[6,7]),(4,[6,7])]
theorem pAlts_ctr (p:Prg) (s:Stt) (g:Int) (hp:p.Fit) (hs:s.Shape):Ctr Go.Proofs.Tryz.prog tab 29 [26,37,3] [23,49] [p.v,s.v,.int g] [.list ((if oneErr p s g=0 then alts p s g else []).map V.int),.int (oneErr p s g)]:=by
 have hpp:=hp
 have hfit:=hp
 have hcode:=p.code_len hp
 have hsl:=p.sels_len hp
 obtain ⟨hp1,hp2,hp3,hp4⟩:=hp
 refine Ctr.body ok Go.Proofs.Tryz.func29 rfl rfl 20 rfl [.tmp 6,.tmp 7] rfl (by simp [fromVs]) ?_
 simp only [fromVs,fromV,args0,V.toList_list,V.toInt_int,V.toBool_bool,Nat.zero_add,Nat.reduceAdd,ty3,ty26,ty37]
 repeat' first
  | ((with_reducible refine SARA.do fun R1 hR1=>?_);(simp only [go_sem,seval,-List.reduceReplicate,Bool.cond_false_right,Bool.cond_true_left]);(repeat' with_reducible refine And.intro ?_ ?_);all_goals first|(refine hR1 _ ?_;clear hR1 R1)|((first|refine cq (cc (pone_ctr p s g hpp hs)) ?_|refine ce (cf (palts_ctr p s g hpp hr hv hgc hlv) ?_));all_goals ((try simp only [go_sem,seval,-List.reduceReplicate,Bool.cond_false_right,Bool.cond_true_left]);(repeat' with_reducible refine And.intro ?_ ?_);all_goals first|(refine hR1 _ ?_;clear hR1 R1)|omega|rfl|decide|assumption|(intro _;omega)|(simp;done)|(simp [-List.getD_eq_getElem?_getD];omega)|exact hcode _|(intro _;exact hcode _)|exact hsl _|(intro _;exact hsl _)))|omega|rfl|decide|assumption|(intro _;omega)|(simp;done)|(simp [-List.getD_eq_getElem?_getD];omega)|exact hcode _|(intro _;exact hcode _)|exact hsl _|(intro _;exact hsl _))
  | ((with_reducible refine SARA.nil ?_);refine hR _ ?_;clear hR R;try simp only [go_sem,lv29,lvOf,Nat.reduceBEq,Option.getD_some])
  | (with_reducible first|refine J1 ?_|refine J2 ?_|refine J3 ?_|refine J4 ?_|refine J5 ?_|refine J6 ?_|refine J7 ?_|refine J8 (by decide) ?_|refine J9 ?_|refine J10 ?_|refine J11 ?_|refine J12 ?_|refine J13 ?_|refine J14 ?_|refine J15 ?_|refine J16 ?_|refine J17 ?_|refine J18 ?_|refine J19 ?_)
  | ((with_reducible refine SA.at 4 ?_)
     have h1:=one_zero hb14
     have hr:=(ask_zero h1.1).1
     have hok:=Prg.ok hr
     have hv:=Vld.of hok hs (ask_zero h1.1).2
     have hgc:0≤g∧g<s.count:=⟨h1.2.1.1,liveB_count hv h1.2.1.1 h1.2.1.2 h1.2.2⟩
     have hlv:isLive s g=true:=(isLive_in hgc.1 hgc.2).trans h1.2.2
     (with_reducible refine J21 ok (by kernel_rfl) lv29 ?_);intro R hR;simp only [go_sem,strip])
  | ((with_reducible refine J21 ok (by kernel_rfl) lv29 ?_);intro R hR;simp only [go_sem,strip])
  | ((with_reducible refine J20 14 rfl (fun hb14=>?_) (fun hb14=>?_))
     all_goals
      try simp [-List.getD_eq_getElem?_getD] at hb14
      try (exfalso;omega))
  | ((with_reducible first|refine ctrK.normal ?_|refine ctrK.ret ?_)
     simp only [go_sem,resA,resV,backK,seval]
     first
      | (have q:¬_:=hb14
         refine ⟨⟨rfl,?_⟩,rfl⟩
         rw [if_neg hb14]
         rfl)
      | (rw [hb14]
         refine ⟨⟨rfl,?_,?_⟩,rfl,rfl⟩
         · simp [List.take_of_length_le]
         · intro e h j u lo n c q
           simp at h
           subst h
           cases q))
end Go.Eng.Tryz
namespace Go.Eng
theorem take_getD {l:List Int} {j:Nat} (h:j<l.length):l.take (j+1)=l.take j++[l.getD j 0]:=by
 rw [List.take_succ_eq_append_getElem h];simp [List.getD_eq_getElem?_getD,h]
def rdyL (p:Prg) (s:Stt) (l:List Int):List Pck:=l.flatMap fun g=>(alts p s g).map fun a=>⟨g,a⟩
theorem rdyL_snoc (p:Prg) (s:Stt) (l:List Int) (g:Int):rdyL p s (l++[g])=rdyL p s l++(alts p s g).map fun a=>⟨g,a⟩:=by
 unfold rdyL
 rw [List.flatMap_append]
 simp
theorem pAlts_short {p:Prg} {s:Stt} (hok:p.Ok) (hw:Wf p s) (g:Int):(alts p s g).length≤5:=by
 unfold alts
 split
 · rename_i hl
   have hl:=live_iff.1 hl
   split
   · rename_i hop
     have hgi:=hw.gos g hl.1.1 hl.1.2
     have hI:=vis61 (hw.right hok hl.1.1 hl.1.2) (hw.op_at hok hl.1.1 hl.1.2 hop (by decide))
     have hsh:=hok.short (s.gos.getD g.toNat default).func.toNat (insAt p s g).a.toNat (by omega)
     have h4:(selAt p s g).cases.length≤4:=hsh.2
     have:=casesTo_len p s (selAt p s g) (selAt p s g).cases.length
     simp only
     split
     · rw [List.length_append];simp;omega
     · omega
   · split<;>simp
 · simp
theorem rdyL_len {p:Prg} {s:Stt} (hok:p.Ok) (hw:Wf p s):∀ l:List Int,(rdyL p s l).length≤5*l.length
 | []=>by simp [rdyL]
 | g::l=>by
   have h1:=rdyL_len hok hw l
   have h2:=pAlts_short hok hw g
   have:rdyL p s (g::l)=((alts p s g).map fun a=>(⟨g,a⟩:Pck))++rdyL p s l:=rfl
   rw [this,List.length_append,List.length_map,List.length_cons]
   omega
theorem liveTo_mem {s:Stt} {n:Nat} {g:Int} (h:g∈liveTo s n):(0≤g∧g<n)∧liveB s g=true:=by
 unfold liveTo at h
 obtain ⟨k,hk,rfl⟩:=List.mem_map.1 h
 obtain ⟨h1,h2⟩:=List.mem_filter.1 hk
 have:=List.mem_range.1 h1
 exact ⟨by omega,h2⟩
theorem liveTo_at {p:Prg} {s:Stt} (hv:Vld p s) {k:Nat} (hk:k<(liveTo s 6).length):(0≤(liveTo s 6).getD k 0∧(liveTo s 6).getD k 0<s.count)∧isLive s ((liveTo s 6).getD k 0)=true:=by
 have hm:(liveTo s 6).getD k 0∈liveTo s 6:=by rw [List.getD_eq_getElem?_getD,List.getElem?_eq_getElem hk];exact List.getElem_mem hk
 obtain ⟨h1,h2⟩:=liveTo_mem hm
 have h3:=liveB_count hv h1.1 h1.2 h2
 exact ⟨⟨h1.1,h3⟩,(isLive_in h1.1 h3).trans h2⟩
theorem alts_dead {p:Prg} {s:Stt} {g:Int} (h:isLive s g=false):alts p s g=[]:=if_neg (by rw [h];simp)
theorem readyTo_over {p:Prg} {s:Stt} {n:Nat} (h:s.count≤n):readyTo p s n=ready p s:=by
 unfold ready readyTo
 obtain ⟨k,rfl⟩:∃ k,n=s.count.toNat+k:=⟨n-s.count.toNat,by omega⟩
 rw [List.range_add,List.flatMap_append]
 have:(List.map (fun x=>s.count.toNat+x) (List.range k)).flatMap (fun (g:Nat)=>(alts p s g).map fun a=>(⟨g,a⟩:Pck))=[]:=by
  rw [List.flatMap_eq_nil_iff]
  intro x hx
  obtain ⟨y,hy,rfl⟩:=List.mem_map.1 hx
  rw [alts_dead]
  · rfl
  · unfold isLive
    rw [decide_eq_false (show ¬((s.count.toNat+y:Nat):Int)<s.count by omega)];simp
 rw [this,List.append_nil]
theorem rdyL_to {p:Prg} {s:Stt} (hv:Vld p s):∀ n:Nat,n≤6→rdyL p s (liveTo s n)=readyTo p s n
 | 0,_=>rfl
 | n+1,hn=>by
   rw [liveTo_succ,readyTo_succ,← rdyL_to hv n (by omega)]
   split
   · rw [rdyL_snoc]
   · rename_i h
     have:isLive s (n:Int)=false:=by rw [liveB_live hv (by omega) (by omega)];simpa using h
     rw [alts_dead this];simp
theorem rdyL_live {p:Prg} {s:Stt} (hv:Vld p s):rdyL p s (liveTo s 6)=ready p s:=by
 rw [rdyL_to hv 6 (by omega)]
 exact readyTo_over (by have:=hv.count;omega)
def stuckL (p:Prg) (s:Stt) (l:List Int):List Int:=l.filter fun g=>!decide (0<(alts p s g).length)
theorem stuckL_live {p:Prg} {s:Stt} (hv:Vld p s):stuckL p s (liveTo s 6)=waitsTo p s s.count.toNat:=by
 have hc:=hv.count
 unfold stuckL liveTo waitsTo
 rw [List.filter_map,List.filter_filter]
 obtain ⟨k,hk⟩:∃ k,6=s.count.toNat+k:=⟨6-s.count.toNat,by omega⟩
 rw [hk,List.range_add,List.filter_append]
 have h2:(List.map (fun x=>s.count.toNat+x) (List.range k)).filter (fun (a:Nat)=>((fun g=>!decide (0<(alts p s g).length)) ∘ fun (g:Nat)=>(g:Int)) a&&liveB s (a:Int))=[]:=by
  rw [List.filter_eq_nil_iff]
  intro x hx
  obtain ⟨y,hy,rfl⟩:=List.mem_map.1 hx
  have hy:=List.mem_range.1 hy
  have:isLive s ((s.count.toNat+y:Nat):Int)=false:=by
   unfold isLive
   rw [decide_eq_false (show ¬((s.count.toNat+y:Nat):Int)<s.count by omega)];simp
  rw [liveB_live hv (by omega) (by omega)] at this
  show ¬(_&&liveB s ((s.count.toNat+y:Nat):Int))=true
  rw [this,Bool.and_false];simp
 rw [h2,List.append_nil]
 congr 1
 apply List.filter_congr
 intro x hx
 have hx:=List.mem_range.1 hx
 show (!decide (0<(alts p s (x:Int)).length)&&liveB s (x:Int))=(isLive s (x:Int)&&decide ((alts p s (x:Int)).length=0))
 rw [isLive_in (by omega) (by omega),Bool.and_comm]
 congr 1
 by_cases h:(alts p s (x:Int)).length=0
 · rw [decide_eq_true h,decide_eq_false (show ¬0<(alts p s (x:Int)).length by omega)];rfl
 · rw [decide_eq_false h,decide_eq_true (show 0<(alts p s (x:Int)).length by omega)];rfl
end Go.Eng
namespace Go.Eng.Tryz
open Go.RowKit Go.Eng
set_option maxHeartbeats 0
set_option maxRecDepth 20000
def lv26:List (Nat × List Nat):=[(0,[2,3]),(1,[2,3,6]),(2,[2,3,6,16]),(3,[4,5]),(4,[2,3,7]),(5,[2,3,7,19,20,21]),(6,[2,3,7,19,20,21,22]),(7,[2,3,7,9,19,20,21]),(8,[2,3,7,9,19,20,21,28,29,30]),(9,[2,3,7,9,19,20,21,28,29,30,31]),(10,[2,3,7,9,11,19,20,21,28,29,30]),(11,[2,3,7,9,19,20,21,28,29,30]),(12,[2,3,7,9,19,20,21,28,29,30]),(13,[2,3,7,19,20,21]),(14,[4,5])]
theorem pReady_ctr (p:Prg) (s:Stt) (hp:p.Fit) (hs:s.Shape):Ctr Go.Proofs.Tryz.prog tab 26 [26,37] [64,49] [p.v,s.v] [.list ((if askErr p s=0 then ready p s else []).map Pck.v),.int (askErr p s)]:=by
 have hpp:=hp
 have hfit:=hp
 have hcode:=p.code_len hp
 have hsl:=p.sels_len hp
 obtain ⟨hp1,hp2,hp3,hp4⟩:=hp
 have hmx:256≤maxLen:=by decide
 refine Ctr.body ok Go.Proofs.Tryz.func26 rfl rfl 43 rfl [.tmp 4,.tmp 5] rfl (by simp [fromVs]) ?_
 simp only [fromVs,fromV,args0,V.toList_list,V.toInt_int,V.toBool_bool,Nat.zero_add,Nat.reduceAdd,ty26,ty37]
 repeat' first
  | ((with_reducible refine SARA.do fun R1 hR1=>?_);(simp only [go_sem,seval,-List.reduceReplicate,Bool.cond_false_right,Bool.cond_true_left,zero39,z39,z3]);(repeat' with_reducible refine And.intro ?_ ?_);all_goals first|(refine hR1 _ ?_;clear hR1 R1)|((first|refine cq (cc (pasked_ctr p s hpp hs)) ?_|refine ce (cf (plive_ctr s hs) ?_)|refine ce (cf (palts_ctr p s ((liveTo s 6).getD i 0) hpp hr hv hgi.1 hgi.2) ?_));all_goals ((try simp only [go_sem,seval,-List.reduceReplicate,Bool.cond_false_right,Bool.cond_true_left,zero39,z39,z3]);(repeat' with_reducible refine And.intro ?_ ?_);all_goals first|(refine hR1 _ ?_;clear hR1 R1)|omega|rfl|decide|assumption|(intro _;omega)|(simp;done)|(simp [-List.getD_eq_getElem?_getD];omega)|exact hcode _|(intro _;exact hcode _)|exact hsl _|(intro _;exact hsl _)|(simp [-List.getD_eq_getElem?_getD,roomFor,maxLen,by3,by39,by45,by48,by37];omega)|(simp [-List.getD_eq_getElem?_getD,roomFor,maxLen,by3,by39,by45,by48,by37];done)))|omega|rfl|decide|assumption|(intro _;omega)|(simp;done)|(simp [-List.getD_eq_getElem?_getD];omega)|exact hcode _|(intro _;exact hcode _)|exact hsl _|(intro _;exact hsl _)|(simp [-List.getD_eq_getElem?_getD,roomFor,maxLen,by3,by39,by45,by48,by37];omega)|(simp [-List.getD_eq_getElem?_getD,roomFor,maxLen,by3,by39,by45,by48,by37];done))
  | ((with_reducible refine SARA.nil ?_);refine hR _ ?_;clear hR R;try simp only [go_sem,lv26,lvOf,Nat.reduceBEq,Option.getD_some])
  | (with_reducible first|refine J1 ?_|refine J2 ?_|refine J3 ?_|refine J4 ?_|refine J5 ?_|refine J6 ?_|refine J7 ?_|refine J8 (by decide) ?_|refine J9 ?_|refine J10 ?_|refine J11 ?_|refine J12 ?_|refine J13 ?_|refine J14 ?_|refine J15 ?_|refine J16 ?_|refine J17 ?_|refine J18 ?_|refine J19 ?_)
  | ((with_reducible refine SA.at 4 ?_)
     have hr:=(ask_zero hb16).1
     have hok:=Prg.ok hr
     have hv:=Vld.of hok hs (ask_zero hb16).2
     have hw:=hv.wf hok hr
     have hll:=liveTo_len s 6
     (with_reducible refine J21 ok (by kernel_rfl) lv26 ?_);intro R hR;simp only [go_sem,strip])
  | ((with_reducible refine SA.at 8 ?_)
     have hgi:=liveTo_at hv (k:=i) (by omega)
     have hal:=pAlts_short hok hw ((liveTo s 6).getD i 0)
     have hrl:=rdyL_len hok hw ((liveTo s 6).take i)
     rw [List.length_take] at hrl
     (with_reducible refine J21 ok (by kernel_rfl) lv26 ?_);intro R hR;simp only [go_sem,strip])
  | ((with_reducible refine J21 ok (by kernel_rfl) lv26 ?_);intro R hR;simp only [go_sem,strip])
  | ((with_reducible refine J20 16 rfl (fun hb16=>?_) (fun hb16=>?_))
     all_goals
      try simp [-List.getD_eq_getElem?_getD] at hb16
      try (exfalso;omega))
  | ((with_reducible refine SA.cond rfl ?_ ?_)
     all_goals
      intro hb
      try simp [-List.getD_eq_getElem?_getD] at hb
      try (exfalso;omega))
  | ((with_reducible refine SA.atLoop ?_)
     refine SA.weaken ((St.le.own (t:=7) 39 rfl).trans ((St.le.keep [2,3,7,19,20,21]).trans (St.le.of_eq (by first|rfl|(simp;done)|fail)))) (SA.loop (fun n τ=>∃ (i:Nat),n=(liveTo s 6).length-i∧(i≤(liveTo s 6).length)∧τ={ tm:=[(2,true,.ptr 0 [] 26),(3,true,.ptr 1 [] 37),(7,true,.sl 3 39 0 (rdyL p s ((liveTo s 6).take i)).length false),(19,true,.sl 2 3 0 (liveTo s 6).length false),(20,true,.int .i64 (liveTo s 6).length),(21,true,.int .i64 i)],ob:=[.var 26 (.data 26 p.v),.var 37 (.data 37 s.v),.row 3 ((liveTo s 6).map V.int),.row 39 ((rdyL p s ((liveTo s 6).take i)).map Pck.v)],out:=[],nt:=43 }) ((liveTo s 6).length) ⟨0,rfl,by omega,rfl⟩ ?_)
     rintro n τ ⟨i,hn,hi,rfl⟩)
  | ((with_reducible refine SA.atLoop ?_)
     refine SA.weaken (St.le.of_eq (by first|(simp;done)|fail)) (SA.loop (fun n τ=>∃ (j:Nat),n=(alts p s ((liveTo s 6).getD i 0)).length-j∧(j≤(alts p s ((liveTo s 6).getD i 0)).length)∧τ={ tm:=[(2,true,.ptr 0 [] 26),(3,true,.ptr 1 [] 37),(7,true,.sl 3 39 0 (rdyL p s ((liveTo s 6).take i)++((alts p s ((liveTo s 6).getD i 0)).take j).map fun a=>(⟨(liveTo s 6).getD i 0,a⟩:Pck)).length false),(9,true,.int .i64 ((liveTo s 6).getD i 0)),(19,true,.sl 2 3 0 (liveTo s 6).length false),(20,true,.int .i64 (liveTo s 6).length),(21,true,.int .i64 i),(28,true,.sl 4 3 0 (alts p s ((liveTo s 6).getD i 0)).length false),(29,true,.int .i64 (alts p s ((liveTo s 6).getD i 0)).length),(30,true,.int .i64 j)],ob:=[.var 26 (.data 26 p.v),.var 37 (.data 37 s.v),.row 3 ((liveTo s 6).map V.int),.row 39 ((rdyL p s ((liveTo s 6).take i)++((alts p s ((liveTo s 6).getD i 0)).take j).map fun a=>(⟨(liveTo s 6).getD i 0,a⟩:Pck)).map Pck.v),.row 3 ((alts p s ((liveTo s 6).getD i 0)).map V.int)],out:=[],nt:=43 }) ((alts p s ((liveTo s 6).getD i 0)).length) ⟨0,rfl,by omega,rfl⟩ ?_)
     rintro n τ ⟨j,hn,hj,rfl⟩)
  | ((with_reducible refine loopK.round ?_)
     first
      | (have hlt:i<(liveTo s 6).length:=by omega
         have hw:=wrap_succ (n:=i) (m:=256) (by omega) (by decide)
         have hj':j=(alts p s ((liveTo s 6).getD i 0)).length:=by omega
         subst hj'
         have e:(liveTo s 6).take (i+1)=(liveTo s 6).take i++[(liveTo s 6).getD i 0]:=take_getD hlt
         refine loopK.normal ((liveTo s 6).length-(i+1)) _ (by omega) ((St.le.cut 4 rfl).trans (St.le.of_eq (by simp only [hw,e,rdyL_snoc,List.take_length,List.take_succ_cons,List.take_zero]))) ⟨i+1,rfl,hlt,rfl⟩)
      | (have hlt:j<(alts p s ((liveTo s 6).getD i 0)).length:=by omega
         have hw:=wrap_succ (n:=j) (m:=256) (by omega) (by decide)
         have e:(alts p s ((liveTo s 6).getD i 0)).take (j+1)=(alts p s ((liveTo s 6).getD i 0)).take j++[(alts p s ((liveTo s 6).getD i 0)).getD j 0]:=take_getD hlt
         refine loopK.normal ((alts p s ((liveTo s 6).getD i 0)).length-(j+1)) _ (by omega) ((St.le.cut 5 rfl).trans (St.le.of_eq (by simp [-List.getD_eq_getElem?_getD,hw,e,Pck.v,List.take_of_length_le,Nat.add_assoc]))) ⟨j+1,rfl,hlt,rfl⟩))
  | ((with_reducible first|refine ctrK.normal ?_|refine ctrK.ret ?_)
     simp only [go_sem,resA,resV,backK,seval]
     first
      | (have q:¬_:=hb16
         refine ⟨⟨rfl,?_⟩,rfl⟩
         rw [if_neg hb16]
         rfl)
      | (have hi':i=(liveTo s 6).length:=by omega
         subst hi'
         rw [hb16]
         refine ⟨⟨rfl,?_,?_⟩,rfl,rfl⟩
         · rw [if_pos rfl,List.take_length,rdyL_live hv]
           simp [List.take_of_length_le]
         · intro e h j u lo n c q
           simp at h
           subst h
           cases q))
end Go.Eng.Tryz
