/- A part of the proof: walks through the program's functions, and what they compute. -/
import Derived.Test.YtedceinkpkoncaaGreatDoorPk28
import Derived.Test.YtedceinkpkoncaaGreatDoorPk26
import Derived.Test.YtedceinkpkoncaaGreatDoorPk24
import Derived.Test.YtedceinkpkoncaaGreatDoorPk25
set_option linter.unusedSimpArgs false
set_option linter.unusedVariables false
namespace Go.Eng.Tryz
open Go.RowKit Go.Eng
set_option maxHeartbeats 0
set_option maxRecDepth 20000
theorem t_fin {p:Prg} {s:Stt} {g:Int} {l Y:List Access} (hs:Smalls l) (hk:SameKey l) (h1:Y.Perm l) (h2:Y.Pairwise (fun a b=>akey a≤akey b)) (e:addAll l []=touch p s g):cpt Y=touch p s g:=(sort_cpt hs hk h1 h2).trans e
theorem pcompact_call' (l:List Access) {n:Nat} (hln:l.length=n) (hl7:l.length≤7) {o0 o1 o2:Obj} {tm:Tm} {out:List Tm} {nt:Nat} {xs:List Obj} {K:St→E→Prop} (h:∀ Y:List V,(cpt l).length≤Y.length→Y.take (cpt l).length=(cpt l).map Access.v→K { tm:=tm,ob:=o0::o1::o2::.row 45 (Y)::xs,out:=out,nt:=nt } (.sl 3 45 0 (cpt l).length false)):CallE Go.Proofs.Tryz.prog tab { tm:=tm,ob:=o0::o1::o2::.row 45 (l.map Access.v)::xs,out:=out,nt:=nt } 111 [.sl 3 45 0 n false] K:=by
 subst hln
 exact pcompact_call l hl7 h
theorem there_ne {s:Stt} {g k:Int} (h:thereB s g k=true):k≠g:=by
 unfold thereB at h
 simp at h
 exact h.2
theorem perm_len {l Y:List Access} (h:Y.Perm l) (hn:l.length≤7):Y.length≤7:=by rw [h.length_eq];exact hn
def lv107:List (Nat × List Nat):=[(0,[])]
theorem touch1_call {P S:V} {L:List Access} {k n:Int} {w:Bool} {tm:Tm} {out:List Tm} {nt:Nat} {xs:List Obj} {K:St→E→Prop} (hL:L.length≤1000) (hx:xs.map (Obj.kill 3)=xs) (hk1:Tm.kill 3 tm=tm) (hk2:out.map (Tm.kill 3)=out) (h:K { tm:=tm,ob:=.var 26 (.data 26 P)::.var 37 (.data 37 S)::.var 60 (.sl 3 45 0 (app1 L k n w).length false)::.row 45 ((app1 L k n w).map Access.v)::(xs++[.row 45 [Access.v ⟨k,n,w⟩]]),out:=out,nt:=nt } (.tup [])):CallE Go.Proofs.Tryz.prog tab { tm:=tm,ob:=.var 26 (.data 26 P)::.var 37 (.data 37 S)::.var 60 (.sl 3 45 0 L.length false)::.row 45 (L.map Access.v)::xs,out:=out,nt:=nt } 107 [.int .i64 k,.int .i64 n,.bool w,.ptr 2 [] 60] K:=by
 have hk1':(tm.map fun x=>(x.1,x.2.1,E.kill 3 x.2.2))=tm:=hk1
 have hmx:5000≤maxLen:=by decide
 refine CallE.body ok Go.Proofs.Tryz.func107 rfl rfl 14 rfl [] rfl (by simp) ?_
 simp only [enter,args0,Nat.zero_add,Nat.reduceAdd]
 repeat' first
  | ((with_reducible refine SARA.do fun R1 hR1=>?_);(simp only [go_sem,seval,-List.reduceReplicate,hk1',hk2,hx,List.getElem?_cons_succ,List.set_cons_succ,List.set_cons_zero,concat_at]);(repeat' with_reducible refine And.intro ?_ ?_);all_goals first|(refine hR1 _ ?_;clear hR1 R1)|omega|rfl|decide|assumption|(intro _;omega)|(simp;done)|(simp [-List.getD_eq_getElem?_getD];omega)|exact hcode _|(intro _;exact hcode _)|exact hsl _|(intro _;exact hsl _)|(simp [-List.getD_eq_getElem?_getD,roomFor,maxLen,by3,by39,by45,by48,by37];omega)|(simp [-List.getD_eq_getElem?_getD,roomFor,maxLen,by3,by39,by45,by48,by37];done))
  | ((with_reducible refine SARA.nil ?_);refine hR _ ?_;clear hR R;try simp only [go_sem,lv107,lvOf,Nat.reduceBEq,Option.getD_some])
  | (with_reducible first|refine J1 ?_|refine J2 ?_|refine J3 ?_|refine J4 ?_|refine J5 ?_|refine J6 ?_|refine J7 ?_|refine J8 (by decide) ?_|refine J9 ?_|refine J10 ?_|refine J11 ?_|refine J12 ?_|refine J13 ?_|refine J14 ?_|refine J15 ?_|refine J16 ?_|refine J17 ?_|refine J18 ?_|refine J19 ?_)
  | ((with_reducible refine J21 ok (by kernel_rfl) lv107 ?_);intro R hR;simp only [go_sem,strip])
  | ((with_reducible first|refine bodyK.normal ?_|refine bodyK.ret ?_)
     simp only [go_sem,resA,resV,backK,seval]
     have e:(((tab.zero 45).setSub 0 (V.int k)).setSub 1 (V.int n)).setSub 2 (V.bool w)=Access.v ⟨k,n,w⟩:=rfl
     simp only [e]
     simpa [app1,hx,Obj.kill,List.take_of_length_le] using h)
def lv65:List (Nat × List Nat):=[(0,[2,3,4]),(1,[2,3,4,7]),(2,[2,3,4,7,8]),(3,[2,3,4,7,8]),(4,[2,3,4,7,8,9]),(5,[2,3,4,7,8,9,22]),(6,[2,3,4,7,8,9,22,23]),(7,[7]),(8,[2,3,4,7,8,9,22,29]),(9,[7]),(10,[2,3,4,7,8,9,22,35]),(11,[7]),(12,[2,3,4,7,8,9,22,41]),(13,[2,3,4,7,8,9,22,41]),(14,[7]),(15,[2,3,4,7,8,9,22,48]),(16,[2,3,4,7,8,9,22,48]),(17,[7]),(18,[2,3,4,7,8,9,22,55]),(19,[7]),(20,[2,3,4,7,8,9,22,61]),(21,[2,3,4,7,8,9,22,61]),(22,[2,3,4,7,8,9,22,61]),(23,[7]),(24,[2,3,4,7,8,9,22,69]),(25,[7]),(26,[2,3,4,7,8,9,22,75]),(27,[7,8,91,92,93]),(28,[7,8,91,92,93,94]),(29,[7,8,11,91,92,93]),(30,[7,8,91,92,93]),(31,[7,8,91,92,93]),(32,[2,4,7,8,9,22,102]),(33,[4,7,8]),(34,[4,7,8,108]),(35,[7]),(36,[2,4,7,8,9,22,113]),(37,[2,4,7,8,9]),(38,[2,4,7,8,12]),(39,[7,8,12,128]),(40,[7]),(41,[7,8,132]),(42,[7]),(43,[7]),(44,[6])]
theorem ptouch_ctr (p:Prg) (s:Stt) (g:Int) (hp:p.Fit) (hr:rightP p=true) (hv:Vld p s) (hg:0≤g∧g<s.count):Ctr Go.Proofs.Tryz.prog tab 65 [26,37,3] [60] [p.v,s.v,.int g] [.list ((touch p s g).map Access.v)]:=by
 have hw:=hv.wf (Prg.ok hr) hr
 have hpp:=hp
 have hok:=Prg.ok hr
 have hs:=hw.shape
 have hcnt:=hw.count
 have hcode:=p.code_len hp
 have hsl:=p.sels_len hp
 obtain ⟨hp1,hp2,hp3,hp4⟩:=hp
 have hs1:=hs.vars
 have hs2:=hs.owner
 have hs3:=hs.chans
 have hs5:=hs.gos
 have hsz:=hok.sizes
 unfold Sizes at hsz
 have hmx:256≤maxLen:=by decide
 have hgi:=hw.gos g (by omega) (by omega)
 have hgf:=hgi.f0
 have hgf1:=hgi.f1
 have hgp:=hgi.p0
 have hgp1:=hgi.p1
 have h8:=hgi.regs
 have hrt:instrErr p (p.funcs.getD (s.gos.getD g.toNat default).func.toNat default) (instrAt p s g)=0:=hw.right hok hg.1 hg.2
 have hrg:=hok.regs (s.gos.getD g.toNat default).func.toNat
 have hg6:g<6:=by omega
 refine Ctr.body ok Go.Proofs.Tryz.func65 rfl rfl 140 rfl [.tmp 6] rfl (by simp [fromVs]) ?_
 simp only [fromVs,fromV,args0,V.toList_list,V.toInt_int,V.toBool_bool,Nat.zero_add,Nat.reduceAdd,ty3,ty26,ty37]
 repeat' first
  | ((with_reducible refine SARQ.told 27 8 ?_)
     rw [getD_fncs (by omega)])
  | ((with_reducible refine SARQ.told 27 13 ?_)
     rw [getD_sels (by omega)])
  | ((with_reducible refine SARA.told 29 2 ?_)
     rw [getD_cass (by omega)])
  | ((with_reducible first|refine SARA.do fun R1 hR1=>?_|refine SARQ.do fun R1 hR1=>?_);(simp only [go_sem,seval,-List.reduceReplicate,Bool.cond_false_right,Bool.cond_true_left,atI_op,atI_a,atI_b]);(repeat' with_reducible refine And.intro ?_ ?_);all_goals first|(refine hR1 _ ?_;clear hR1 R1)|((first|refine ⟨_,_,rfl,_,CallQ.ctr ok (pat_ctr p s g hpp hr hw hg) (by first|rfl|(simp [go_sem];done)|fail) rfl,?_⟩|refine cq (cc (pat_ctr p s g hpp hr hw hg)) ?_|refine ⟨_,_,rfl,_,CallQ.ctr ok (pthere_ctr s g _ hs) (by first|rfl|(simp [go_sem];done)|fail) rfl,?_⟩|refine cq (cc (pthere_ctr s g _ hs)) ?_|refine ⟨_,_,rfl,.inr (touch1_call (by simp only [app1_len,tl0_len];first|omega|decide) rfl rfl rfl ?_)⟩|refine ⟨_,_,rfl,.inr (touch1_call (by omega) rfl rfl rfl ?_)⟩|refine ⟨_,_,rfl,.inr (psort_call _ hS hn7 fun Y hY1 hY2=>?_)⟩|refine ⟨_,_,rfl,.inr (pcompact_call' Y hY1.length_eq (perm_len hY1 hn7) fun Z hZ1 hZ2=>?_)⟩);all_goals ((try simp only [go_sem,seval,-List.reduceReplicate,Bool.cond_false_right,Bool.cond_true_left,atI_op,atI_a,atI_b]);(repeat' with_reducible refine And.intro ?_ ?_);all_goals first|(refine hR1 _ ?_;clear hR1 R1)|omega|rfl|decide|assumption|(intro _;omega)|(simp;done)|(simp [-List.getD_eq_getElem?_getD];omega)|exact hcode _|(intro _;exact hcode _)|exact hsl _|(intro _;exact hsl _)|(simp [-List.getD_eq_getElem?_getD,roomFor,maxLen,by3,by39,by45,by48,by37];omega)|(simp [-List.getD_eq_getElem?_getD,roomFor,maxLen,by3,by39,by45,by48,by37];done)))|omega|rfl|decide|assumption|(intro _;omega)|(simp;done)|(simp [-List.getD_eq_getElem?_getD];omega)|exact hcode _|(intro _;exact hcode _)|exact hsl _|(intro _;exact hsl _)|(simp [-List.getD_eq_getElem?_getD,roomFor,maxLen,by3,by39,by45,by48,by37];omega)|(simp [-List.getD_eq_getElem?_getD,roomFor,maxLen,by3,by39,by45,by48,by37];done))
  | ((with_reducible refine SARA.nil ?_);refine hR _ ?_;clear hR R;try simp only [go_sem,lv65,lvOf,Nat.reduceBEq,Option.getD_some])
  | ((with_reducible refine SARQ.nil ?_);refine hR _ ?_;clear hR R;try simp only [go_sem,lv65,lvOf,Nat.reduceBEq,Option.getD_some])
  | (with_reducible first|refine J1 ?_|refine J2 ?_|refine J3 ?_|refine J4 ?_|refine J5 ?_|refine J6 ?_|refine J7 ?_|refine J8 (by decide) ?_|refine J9 ?_|refine J10 ?_|refine J11 ?_|refine J12 ?_|refine J13 ?_|refine J14 ?_|refine J15 ?_|refine J16 ?_|refine J17 ?_|refine J18 ?_|refine J19 ?_)
  | ((with_reducible refine SA.at 7 ?_)
     have hI:=(vis50 hrt (hw.op_at hok hg.1 hg.2 hb23 (by decide))).2
     have hS:Smalls (app1 (app1 tl0 5 g true) 1 (instrAt p s g).b false):=(Smalls.nil.app true (by omega) (by omega)).app false (by omega) (by omega)
     have hK:SameKey (app1 (app1 tl0 5 g true) 1 (instrAt p s g).b false):=SameKey.two (by decide)
     have hn7:(app1 (app1 tl0 5 g true) 1 (instrAt p s g).b false).length≤7:=by simp only [app1_len,tl0_len];omega
     (with_reducible refine J21 ok (by kernel_rfl) lv65 ?_);intro R hR;simp only [go_sem,strip])
  | ((with_reducible refine SA.at 9 ?_)
     have hI:=(vis54 hrt (hw.op_at hok hg.1 hg.2 hb29 (by decide))).1
     have hS:Smalls (app1 (app1 tl0 5 g true) 1 (instrAt p s g).a false):=(Smalls.nil.app true (by omega) (by omega)).app false (by omega) (by omega)
     have hK:SameKey (app1 (app1 tl0 5 g true) 1 (instrAt p s g).a false):=SameKey.two (by decide)
     have hn7:(app1 (app1 tl0 5 g true) 1 (instrAt p s g).a false).length≤7:=by simp only [app1_len,tl0_len];omega
     (with_reducible refine J21 ok (by kernel_rfl) lv65 ?_);intro R hR;simp only [go_sem,strip])
  | ((with_reducible refine SA.at 11 ?_)
     have hI:=(vis51 hrt (hw.op_at hok hg.1 hg.2 hb35 (by decide))).1
     have hS:Smalls (app1 (app1 tl0 5 g true) 1 (instrAt p s g).a true):=(Smalls.nil.app true (by omega) (by omega)).app true (by omega) (by omega)
     have hK:SameKey (app1 (app1 tl0 5 g true) 1 (instrAt p s g).a true):=SameKey.two (by decide)
     have hn7:(app1 (app1 tl0 5 g true) 1 (instrAt p s g).a true).length≤7:=by simp only [app1_len,tl0_len];omega
     (with_reducible refine J21 ok (by kernel_rfl) lv65 ?_);intro R hR;simp only [go_sem,strip])
  | ((with_reducible refine SA.at 14 ?_)
     have hI:0≤(instrAt p s g).b∧(instrAt p s g).b<(p.vars.length:Int):=by first|exact (vis52 hrt (hw.op_at hok hg.1 hg.2 hb41 (by decide))).2.1|exact (vis53 hrt (hw.op_at hok hg.1 hg.2 hb41 (by decide))).2.1
     have hS:Smalls (app1 (app1 tl0 5 g true) 1 (instrAt p s g).b true):=(Smalls.nil.app true (by omega) (by omega)).app true (by omega) (by omega)
     have hK:SameKey (app1 (app1 tl0 5 g true) 1 (instrAt p s g).b true):=SameKey.two (by decide)
     have hn7:(app1 (app1 tl0 5 g true) 1 (instrAt p s g).b true).length≤7:=by simp only [app1_len,tl0_len];omega
     (with_reducible refine J21 ok (by kernel_rfl) lv65 ?_);intro R hR;simp only [go_sem,strip])
  | ((with_reducible refine SA.at 17 ?_)
     have hI:=vis55 hrt (by first|exact .inl (hw.op_at hok hg.1 hg.2 hb48 (by decide))|exact .inr (hw.op_at hok hg.1 hg.2 hb48 (by decide)))
     have hS:Smalls (app1 (app1 tl0 5 g true) 2 (instrAt p s g).a true):=(Smalls.nil.app true (by omega) (by omega)).app true (by omega) (by omega)
     have hK:SameKey (app1 (app1 tl0 5 g true) 2 (instrAt p s g).a true):=SameKey.two (by decide)
     have hn7:(app1 (app1 tl0 5 g true) 2 (instrAt p s g).a true).length≤7:=by simp only [app1_len,tl0_len];omega
     (with_reducible refine J21 ok (by kernel_rfl) lv65 ?_);intro R hR;simp only [go_sem,strip])
  | ((with_reducible refine SA.at 19 ?_)
     have hI:=(vis57 hrt (hw.op_at hok hg.1 hg.2 hb55 (by decide))).2
     have hS:Smalls (app1 (app1 tl0 5 g true) 2 (instrAt p s g).b true):=(Smalls.nil.app true (by omega) (by omega)).app true (by omega) (by omega)
     have hK:SameKey (app1 (app1 tl0 5 g true) 2 (instrAt p s g).b true):=SameKey.two (by decide)
     have hn7:(app1 (app1 tl0 5 g true) 2 (instrAt p s g).b true).length≤7:=by simp only [app1_len,tl0_len];omega
     (with_reducible refine J21 ok (by kernel_rfl) lv65 ?_);intro R hR;simp only [go_sem,strip])
  | ((with_reducible refine SA.at 23 ?_)
     have hI:0≤(instrAt p s g).a∧(instrAt p s g).a<(p.chans.length:Int):=by first|exact (vis58 hrt (hw.op_at hok hg.1 hg.2 hb61 (by decide))).1|exact vis60 hrt (hw.op_at hok hg.1 hg.2 hb61 (by decide))|exact (vis58 hrt (hw.op66 hok hg.1 hg.2 hb61)).1
     have hS:Smalls (app1 (app1 tl0 5 g true) 3 (instrAt p s g).a true):=(Smalls.nil.app true (by omega) (by omega)).app true (by omega) (by omega)
     have hK:SameKey (app1 (app1 tl0 5 g true) 3 (instrAt p s g).a true):=SameKey.two (by decide)
     have hn7:(app1 (app1 tl0 5 g true) 3 (instrAt p s g).a true).length≤7:=by simp only [app1_len,tl0_len];omega
     (with_reducible refine J21 ok (by kernel_rfl) lv65 ?_);intro R hR;simp only [go_sem,strip])
  | ((with_reducible refine SA.at 25 ?_)
     have hI:=(vis59 hrt (hw.op_at hok hg.1 hg.2 hb69 (by decide))).2.1
     have hS:Smalls (app1 (app1 tl0 5 g true) 3 (instrAt p s g).b true):=(Smalls.nil.app true (by omega) (by omega)).app true (by omega) (by omega)
     have hK:SameKey (app1 (app1 tl0 5 g true) 3 (instrAt p s g).b true):=SameKey.two (by decide)
     have hn7:(app1 (app1 tl0 5 g true) 3 (instrAt p s g).b true).length≤7:=by simp only [app1_len,tl0_len];omega
     (with_reducible refine J21 ok (by kernel_rfl) lv65 ?_);intro R hR;simp only [go_sem,strip])
  | ((with_reducible refine SA.at 27 ?_)
     have hI:=vis61 hrt (hw.op_at hok hg.1 hg.2 hb75 (by decide))
     have hsh:=hok.short (s.gos.getD g.toNat default).func.toNat (instrAt p s g).a.toNat (by omega)
     (with_reducible refine SA.regionD ok mixed (by kernel_rfl) (by kernel_rfl) lv65 ?_);intro R hR;simp only [go_sem,strip])
  | ((with_reducible refine SA.at 28 ?_)
     have hq:∀ i,i<((p.funcs.getD (s.gos.getD g.toNat default).func.toNat default).sels.getD (instrAt p s g).a.toNat default).cases.length→0≤(((p.funcs.getD (s.gos.getD g.toNat default).func.toNat default).sels.getD (instrAt p s g).a.toNat default).cases.getD i default).chan∧(((p.funcs.getD (s.gos.getD g.toNat default).func.toNat default).sels.getD (instrAt p s g).a.toNat default).cases.getD i default).chan<4:=fun i hi=>by
      have hC:=case_ok hok (i:=(s.gos.getD g.toNat default).func.toNat) (j:=(instrAt p s g).a.toNat) (k:=i) (by omega) (by omega) hi
      exact ⟨hC.chan.1,by have:=hC.chan.2;omega⟩
     have hS:Smalls (chs (app1 tl0 5 g true) ((p.funcs.getD (s.gos.getD g.toNat default).func.toNat default).sels.getD (instrAt p s g).a.toNat default) i):=Smalls.chs (Smalls.nil.app true (by omega) (by omega)) hq i
     have hK:SameKey (chs (app1 tl0 5 g true) ((p.funcs.getD (s.gos.getD g.toNat default).func.toNat default).sels.getD (instrAt p s g).a.toNat default) i):=SameKey.chs i
     have hcl:(chs (app1 tl0 5 g true) ((p.funcs.getD (s.gos.getD g.toNat default).func.toNat default).sels.getD (instrAt p s g).a.toNat default) i).length=1+i:=by rw [chs_len _ _ _ hi,app1_len,tl0_len]
     have hn7:(chs (app1 tl0 5 g true) ((p.funcs.getD (s.gos.getD g.toNat default).func.toNat default).sels.getD (instrAt p s g).a.toNat default) i).length≤7:=by omega
     (with_reducible refine J21 ok (by kernel_rfl) lv65 ?_);intro R hR;simp only [go_sem,strip])
  | ((with_reducible refine SA.at 33 ?_)
     have hS:Smalls (app1 (app1 tl0 5 g true) 4 0 true):=(Smalls.nil.app true (by omega) (by omega)).app true (by omega) (by omega)
     have hK:SameKey (app1 (app1 tl0 5 g true) 4 0 true):=SameKey.two (by decide)
     have hn7:(app1 (app1 tl0 5 g true) 4 0 true).length≤7:=by simp only [app1_len,tl0_len];omega
     (with_reducible refine J21 ok (by kernel_rfl) lv65 ?_);intro R hR;simp only [go_sem,strip])
  | ((with_reducible refine SA.at 35 ?_)
     have hS:Smalls (app1 (app1 (app1 tl0 5 g true) 4 0 true) 5 s.count true):=((Smalls.nil.app true (by omega) (by omega)).app true (by omega) (by omega)).app true (by omega) (by omega)
     have hK:SameKey (app1 (app1 (app1 tl0 5 g true) 4 0 true) 5 s.count true):=SameKey.three (by decide) (.inr rfl)
     have hn7:(app1 (app1 (app1 tl0 5 g true) 4 0 true) 5 s.count true).length≤7:=by simp only [app1_len,tl0_len];omega
     (with_reducible refine J21 ok (by kernel_rfl) lv65 ?_);intro R hR;simp only [go_sem,strip])
  | ((with_reducible refine SA.at 37 ?_)
     have hI:=vis63 hrt (.inl (hw.op_at hok hg.1 hg.2 hb113 (by decide)))
     have hS:Smalls (app1 (app1 tl0 5 g true) 4 0 false):=(Smalls.nil.app true (by omega) (by omega)).app false (by omega) (by omega)
     have hK:SameKey (app1 (app1 tl0 5 g true) 4 0 false):=SameKey.two (by decide)
     have hn7:(app1 (app1 tl0 5 g true) 4 0 false).length≤7:=by simp only [app1_len,tl0_len];omega
     (with_reducible refine J21 ok (by kernel_rfl) lv65 ?_);intro R hR;simp only [go_sem,strip])
  | ((with_reducible refine SA.at 40 ?_)
     have hth:=there_in hcnt.2 hb128
     have hS:Smalls (app1 (app1 (app1 tl0 5 g true) 4 0 false) 5 ((s.gos.getD g.toNat default).regs.getD (instrAt p s g).a.toNat 0) false):=((Smalls.nil.app true (by omega) (by omega)).app false (by omega) (by omega)).app false (by omega) (by omega)
     have hK:SameKey (app1 (app1 (app1 tl0 5 g true) 4 0 false) 5 ((s.gos.getD g.toNat default).regs.getD (instrAt p s g).a.toNat 0) false):=SameKey.three (by decide) (.inl (there_ne hb128))
     have hn7:(app1 (app1 (app1 tl0 5 g true) 4 0 false) 5 ((s.gos.getD g.toNat default).regs.getD (instrAt p s g).a.toNat 0) false).length≤7:=by simp only [app1_len,tl0_len];omega
     (with_reducible refine J21 ok (by kernel_rfl) lv65 ?_);intro R hR;simp only [go_sem,strip])
  | ((with_reducible refine SA.at 42 ?_)
     have hS:Smalls (app1 (app1 tl0 5 g true) 6 0 true):=(Smalls.nil.app true (by omega) (by omega)).app true (by omega) (by omega)
     have hK:SameKey (app1 (app1 tl0 5 g true) 6 0 true):=SameKey.two (by decide)
     have hn7:(app1 (app1 tl0 5 g true) 6 0 true).length≤7:=by simp only [app1_len,tl0_len];omega
     (with_reducible refine J21 ok (by kernel_rfl) lv65 ?_);intro R hR;simp only [go_sem,strip])
  | ((with_reducible refine SA.at 4 ?_)
     have hS:Smalls (app1 tl0 5 g true):=(Smalls.nil.app true (by omega) (by omega))
     have hK:SameKey (app1 tl0 5 g true):=SameKey.one g
     have hn7:(app1 tl0 5 g true).length≤7:=by simp only [app1_len,tl0_len];omega
     (with_reducible refine J21 ok (by kernel_rfl) lv65 ?_);intro R hR;simp only [go_sem,strip])
  | ((with_reducible refine SA.at 13 ?_)
     have hh52:=hb41
     (with_reducible refine J21 ok (by kernel_rfl) lv65 ?_);intro R hR;simp only [go_sem,strip])
  | ((with_reducible refine SA.at 16 ?_)
     have hh55:=hb48
     (with_reducible refine J21 ok (by kernel_rfl) lv65 ?_);intro R hR;simp only [go_sem,strip])
  | ((with_reducible refine SA.at 21 ?_)
     have hh58:=hb61
     (with_reducible refine J21 ok (by kernel_rfl) lv65 ?_);intro R hR;simp only [go_sem,strip])
  | ((with_reducible refine SA.at 22 ?_)
     have hh60:=hb61
     (with_reducible refine J21 ok (by kernel_rfl) lv65 ?_);intro R hR;simp only [go_sem,strip])
  | ((with_reducible refine SA.at 3 ?_)
     refine SA.weaken ((St.le.ownVar 2 (e:=45) rfl).trans (St.le.of_eq (show _=({ tm:=[(2,true,.int .i64 g),(3,true,.ptr 0 [] 26),(4,true,.ptr 1 [] 37),(7,true,.ptr 2 [] 60),(8,true,.fn 107 [.ptr 2 [] 60])],ob:=.var 26 (.data 26 p.v)::.var 37 (.data 37 s.v)::.var 60 (.sl 3 45 0 tl0.length false)::.row 45 (tl0.map Access.v)::[],out:=[],nt:=140 }:St) from rfl))) ?_
     (with_reducible refine J21 ok (by kernel_rfl) lv65 ?_);intro R hR;simp only [go_sem,strip])
  | ((with_reducible refine J21 ok (by kernel_rfl) lv65 ?_);intro R hR;simp only [go_sem,strip])
  | ((with_reducible refine SA.regionD ok mixed (by kernel_rfl) (by kernel_rfl) lv65 ?_);intro R hR;simp only [go_sem,strip])
  | ((with_reducible refine J20 23 rfl (fun hb23=>?_) (fun hb23=>?_))
     all_goals
      try simp [-List.getD_eq_getElem?_getD] at hb23
      try (exfalso;omega))
  | ((with_reducible refine J20 29 rfl (fun hb29=>?_) (fun hb29=>?_))
     all_goals
      try simp [-List.getD_eq_getElem?_getD] at hb29
      try (exfalso;omega))
  | ((with_reducible refine J20 35 rfl (fun hb35=>?_) (fun hb35=>?_))
     all_goals
      try simp [-List.getD_eq_getElem?_getD] at hb35
      try (exfalso;omega))
  | ((with_reducible refine J20 41 rfl (fun hb41=>?_) (fun hb41=>?_))
     all_goals
      try simp [-List.getD_eq_getElem?_getD] at hb41
      try (exfalso;omega))
  | ((with_reducible refine J20 48 rfl (fun hb48=>?_) (fun hb48=>?_))
     all_goals
      try simp [-List.getD_eq_getElem?_getD] at hb48
      try (exfalso;omega))
  | ((with_reducible refine J20 55 rfl (fun hb55=>?_) (fun hb55=>?_))
     all_goals
      try simp [-List.getD_eq_getElem?_getD] at hb55
      try (exfalso;omega))
  | ((with_reducible refine J20 61 rfl (fun hb61=>?_) (fun hb61=>?_))
     all_goals
      try simp [-List.getD_eq_getElem?_getD] at hb61
      try (exfalso;omega))
  | ((with_reducible refine J20 69 rfl (fun hb69=>?_) (fun hb69=>?_))
     all_goals
      try simp [-List.getD_eq_getElem?_getD] at hb69
      try (exfalso;omega))
  | ((with_reducible refine J20 75 rfl (fun hb75=>?_) (fun hb75=>?_))
     all_goals
      try simp [-List.getD_eq_getElem?_getD] at hb75
      try (exfalso;omega))
  | ((with_reducible refine J20 102 rfl (fun hb102=>?_) (fun hb102=>?_))
     all_goals
      try simp [-List.getD_eq_getElem?_getD] at hb102
      try (exfalso;omega))
  | ((with_reducible refine J20 108 rfl (fun hb108=>?_) (fun hb108=>?_))
     all_goals
      try simp [-List.getD_eq_getElem?_getD] at hb108
      try (exfalso;omega))
  | ((with_reducible refine J20 113 rfl (fun hb113=>?_) (fun hb113=>?_))
     all_goals
      try simp [-List.getD_eq_getElem?_getD] at hb113
      try (exfalso;omega))
  | ((with_reducible refine J20 128 rfl (fun hb128=>?_) (fun hb128=>?_))
     all_goals
      try simp [-List.getD_eq_getElem?_getD] at hb128
      try (exfalso;omega))
  | ((with_reducible refine J20 132 rfl (fun hb132=>?_) (fun hb132=>?_))
     all_goals
      try simp [-List.getD_eq_getElem?_getD] at hb132
      try (exfalso;omega))
  | ((with_reducible refine SA.cond rfl ?_ ?_)
     all_goals
      intro hb
      try simp [-List.getD_eq_getElem?_getD] at hb
      try (exfalso;omega))
  | ((with_reducible refine SA.atLoop ?_)
     refine SA.weaken (St.le.of_eq (by (rw [chs_zero];rfl))) (SA.loop (fun n τ=>∃ (i:Nat),n=((p.funcs.getD (s.gos.getD g.toNat default).func.toNat default).sels.getD (instrAt p s g).a.toNat default).cases.length-i∧(i≤((p.funcs.getD (s.gos.getD g.toNat default).func.toNat default).sels.getD (instrAt p s g).a.toNat default).cases.length)∧τ={ tm:=[(7,true,.ptr 2 [] 60),(8,true,.fn 107 [.ptr 2 [] 60]),(91,true,.fs 156 (((p.funcs.getD (s.gos.getD g.toNat default).func.toNat default).sels.getD (instrAt p s g).a.toNat default).cases.map Cas.v) false),(92,true,.int .i64 ((p.funcs.getD (s.gos.getD g.toNat default).func.toNat default).sels.getD (instrAt p s g).a.toNat default).cases.length),(93,true,.int .i64 i)],ob:=[.var 26 (.data 26 p.v),.var 37 (.data 37 s.v),.var 60 (.sl 3 45 0 (chs (app1 tl0 5 g true) ((p.funcs.getD (s.gos.getD g.toNat default).func.toNat default).sels.getD (instrAt p s g).a.toNat default) i).length false),.row 45 ((chs (app1 tl0 5 g true) ((p.funcs.getD (s.gos.getD g.toNat default).func.toNat default).sels.getD (instrAt p s g).a.toNat default) i).map Access.v),.row 45 [Access.v ⟨5,g,true⟩],.var 129 (.data 129 (atI p s g).v)],out:=[],nt:=140 }) (((p.funcs.getD (s.gos.getD g.toNat default).func.toNat default).sels.getD (instrAt p s g).a.toNat default).cases.length) ⟨0,rfl,by omega,rfl⟩ ?_)
     rintro n τ ⟨i,hn,hi,rfl⟩)
  | ((with_reducible refine loopK.round ?_)
     first
      | (have hlt:i<((p.funcs.getD (s.gos.getD g.toNat default).func.toNat default).sels.getD (instrAt p s g).a.toNat default).cases.length:=by omega
         have hw:=wrap_succ (n:=i) (m:=256) (by omega) (by decide)
         refine loopK.normal (((p.funcs.getD (s.gos.getD g.toNat default).func.toNat default).sels.getD (instrAt p s g).a.toNat default).cases.length-(i+1)) _ (by omega) ((St.le.cut 6 rfl).trans (St.le.of_eq (by rw [chs_succ _ _ hlt];simp only [hw,List.take_succ_cons,List.take_zero]))) ⟨i+1,rfl,hlt,rfl⟩))
  | ((with_reducible first|refine ctrK.normal ?_|refine ctrK.ret ?_)
     simp only [go_sem,resA,resV,backK,seval]
     first
      | (have q:=hcl
         have hi':i=((p.funcs.getD (s.gos.getD g.toNat default).func.toNat default).sels.getD (instrAt p s g).a.toNat default).cases.length:=Nat.le_antisymm hi hb
         have e:=t61 (p:=p) (s:=s) (g:=g) hb75
         refine ⟨rfl,?_,fun _ h=>absurd h (by simp)⟩
         rw [hZ2,t_fin hS hK hY1 hY2 (by rw [hi'];exact e)])
      | (refine ⟨rfl,?_,fun _ h=>absurd h (by simp)⟩
         rw [hZ2,t_fin hS hK hY1 hY2 (by first|exact t50 hb23|exact t54 hb29|exact t51 hb35|exact t52 (.inl hb41)|exact t52 (.inr hb41)|exact t55 (.inl hb48)|exact t55 (.inr hb48)|exact t57 hb55|exact t58 (.inl hb61)|exact t58 (.inr (.inl hb61))|exact t58 (.inr (.inr hb61))|exact t59 hb69|(have hi':i=((p.funcs.getD (s.gos.getD g.toNat default).func.toNat default).sels.getD (instrAt p s g).a.toNat default).cases.length:=by omega;subst hi';exact t61 hb75)|exact t62 hb102 hb108|exact t62' hb102 (by omega)|exact t63 hb113 hb128|exact t63' hb113 hb128|exact t65 hb132|exact t_else hb23 hb29 hb35 hh52 hb41 hh55 hb48 hb55 hh58 hh60 hb61 hb69 hb75 hb102 hb113 hb132)]))
end Go.Eng.Tryz
namespace Go.Eng
end Go.Eng
namespace Go.Eng.Tryz
open Go.RowKit Go.Eng
set_option maxHeartbeats 0
set_option maxRecDepth 20000
def lv23:List (Nat × List Nat):=[(0,[2,3,4]),(1,[2,3,4,8]),(2,[2,3,4,8,14]),(3,[6,7]),(4,[6,7])]
theorem pTouch_ctr (p:Prg) (s:Stt) (g:Int) (hp:p.Fit) (hs:s.Shape):Ctr Go.Proofs.Tryz.prog tab 23 [26,37,3] [60,49] [p.v,s.v,.int g] [.list ((if oneErr p s g=0 then touch p s g else []).map Access.v),.int (oneErr p s g)]:=by
 have hpp:=hp
 have hfit:=hp
 have hcode:=p.code_len hp
 have hsl:=p.sels_len hp
 obtain ⟨hp1,hp2,hp3,hp4⟩:=hp
 refine Ctr.body ok Go.Proofs.Tryz.func23 rfl rfl 20 rfl [.tmp 6,.tmp 7] rfl (by simp [fromVs]) ?_
 simp only [fromVs,fromV,args0,V.toList_list,V.toInt_int,V.toBool_bool,Nat.zero_add,Nat.reduceAdd,ty3,ty26,ty37]
 repeat' first
  | ((with_reducible refine SARA.do fun R1 hR1=>?_);(simp only [go_sem,seval,-List.reduceReplicate,Bool.cond_false_right,Bool.cond_true_left]);(repeat' with_reducible refine And.intro ?_ ?_);all_goals first|(refine hR1 _ ?_;clear hR1 R1)|((first|refine cq (cc (pone_ctr p s g hpp hs)) ?_|refine ce (cf (ptouch_ctr p s g hpp hr hv hgc) ?_));all_goals ((try simp only [go_sem,seval,-List.reduceReplicate,Bool.cond_false_right,Bool.cond_true_left]);(repeat' with_reducible refine And.intro ?_ ?_);all_goals first|(refine hR1 _ ?_;clear hR1 R1)|omega|rfl|decide|assumption|(intro _;omega)|(simp;done)|(simp [-List.getD_eq_getElem?_getD];omega)|exact hcode _|(intro _;exact hcode _)|exact hsl _|(intro _;exact hsl _)))|omega|rfl|decide|assumption|(intro _;omega)|(simp;done)|(simp [-List.getD_eq_getElem?_getD];omega)|exact hcode _|(intro _;exact hcode _)|exact hsl _|(intro _;exact hsl _))
  | ((with_reducible refine SARA.nil ?_);refine hR _ ?_;clear hR R;try simp only [go_sem,lv23,lvOf,Nat.reduceBEq,Option.getD_some])
  | (with_reducible first|refine J1 ?_|refine J2 ?_|refine J3 ?_|refine J4 ?_|refine J5 ?_|refine J6 ?_|refine J7 ?_|refine J8 (by decide) ?_|refine J9 ?_|refine J10 ?_|refine J11 ?_|refine J12 ?_|refine J13 ?_|refine J14 ?_|refine J15 ?_|refine J16 ?_|refine J17 ?_|refine J18 ?_|refine J19 ?_)
  | ((with_reducible refine SA.at 4 ?_)
     have h1:=one_zero hb14
     have hr:=(ask_zero h1.1).1
     have hok:=Prg.ok hr
     have hv:=Vld.of hok hs (ask_zero h1.1).2
     have hgc:0≤g∧g<s.count:=⟨h1.2.1.1,liveB_count hv h1.2.1.1 h1.2.1.2 h1.2.2⟩
     have hlv:isLive s g=true:=(isLive_in hgc.1 hgc.2).trans h1.2.2
     (with_reducible refine J21 ok (by kernel_rfl) lv23 ?_);intro R hR;simp only [go_sem,strip])
  | ((with_reducible refine J21 ok (by kernel_rfl) lv23 ?_);intro R hR;simp only [go_sem,strip])
  | ((with_reducible refine J20 14 rfl (fun hb14=>?_) (fun hb14=>?_))
     all_goals
      try simp [-List.getD_eq_getElem?_getD] at hb14
      try (exfalso;omega))
  | ((with_reducible first|refine ctrK.normal ?_|refine ctrK.ret ?_)
     simp only [go_sem,resA,resV,backK,seval]
     first
      | (have q:¬_:=hb14
         refine ⟨⟨rfl,?_⟩,rfl⟩
         rw [if_neg hb14]
         rfl)
      | (rw [hb14]
         refine ⟨⟨rfl,?_,?_⟩,rfl,rfl⟩
         · simp [List.take_of_length_le]
         · intro e h j u lo n c q
           simp at h
           subst h
           cases q))
end Go.Eng.Tryz
namespace Go.Eng
def machV (p:Prg) (s:Stt) (g fuel val:Int) (failed:Bool):V:=.agg [p.v,s.v,.int g,.int fuel,.int val,.bool failed]
section
variable (p:Prg) (s:Stt) (g fuel val:Int) (failed:Bool)
theorem machV.v0 (d:V):(machV p s g fuel val failed).toList.getD 0 d=p.v:=rfl
theorem machV.v1 (d:V):(machV p s g fuel val failed).toList.getD 1 d=s.v:=rfl
theorem machV.v2 (d:V):(machV p s g fuel val failed).toList.getD 2 d=.int g:=rfl
theorem machV.v3 (d:V):(machV p s g fuel val failed).toList.getD 3 d=.int fuel:=rfl
theorem machV.v4 (d:V):(machV p s g fuel val failed).toList.getD 4 d=.int val:=rfl
theorem machV.v5 (d:V):(machV p s g fuel val failed).toList.getD 5 d=.bool failed:=rfl
theorem machV.s1 (x:Stt):(machV p s g fuel val failed).setSub 1 x.v=machV p x g fuel val failed:=rfl
theorem machV.s4 (x:Int):(machV p s g fuel val failed).setSub 4 (.int x)=machV p s g fuel x failed:=rfl
theorem machV.s5 (x:Bool):(machV p s g fuel val failed).setSub 5 (.bool x)=machV p s g fuel val x:=rfl
end
end Go.Eng
namespace Go.Eng
def failG (x:Gor) (why:Int):Gor:=⟨4,x.func,x.pc,why,List.replicate 8 0⟩
def failS (s:Stt) (g why:Int):Stt:=⟨s.vars,s.owner,s.chans,s.gos.set g.toNat (failG (s.gor g) why),s.count⟩
def machD (p:Prg) (g fuel:Int) (d:Did):V:=if d.why≠0 then machV p (failS d.s g d.why) g fuel 0 true else machV p d.s g fuel d.val (decide (d.to_<0))
theorem machD.ok {p:Prg} {g fuel:Int} {d:Did} (h:d.why=0) (ht:0≤d.to_):machD p g fuel d=machV p d.s g fuel d.val false:=by
 unfold machD
 rw [if_neg (fun q=>q h),decide_eq_false (by omega)]
theorem machD.over {p:Prg} {g fuel:Int} {d:Did} (h:d.why=0) (ht:d.to_<0):machD p g fuel d=machV p d.s g fuel d.val true:=by
 unfold machD
 rw [if_neg (fun q=>q h),decide_eq_true ht]
theorem machD.fail {p:Prg} {g fuel:Int} {d:Did} (h:d.why≠0):machD p g fuel d=machV p (failS d.s g d.why) g fuel 0 true:=if_pos h
theorem chn_set {l:List Chn} {k:Nat} (h:k<l.length) (X:Chn) (d:V):((l.set k X).map Chn.v).getD k d=X.v:=by
 rw [getD_chns (by simpa using h)]
 simp [List.getD_eq_getElem?_getD,h]
theorem moved4 {b:List Int} (h:b.length=4):movedV (b.map V.int) 0 1 (min 3 4)=(b.drop 1++b.drop 3).map V.int:=by
 match b,h with
 | [x0,x1,x2,x3],_=>rfl
theorem machD_ok {p:Prg} {g fuel:Int} {s:Stt} {v t:Int} (ht:0≤t):machD p g fuel ⟨s,v,0,t⟩=machV p s g fuel v false:=machD.ok rfl ht
theorem machD_over {p:Prg} {g fuel:Int} {s:Stt} {v:Int}:machD p g fuel ⟨s,v,0,-1⟩=machV p s g fuel v true:=machD.over rfl (by show (-1:Int)<0;decide)
theorem machD_fail {p:Prg} {g fuel:Int} {s:Stt} {v w t:Int} (h:w≠0):machD p g fuel ⟨s,v,w,t⟩=machV p (failS s g w) g fuel 0 true:=machD.fail h
section
variable {p:Prg} {s:Stt} {g:Int}
def recvS (s:Stt) (c:Int):Stt × Int × Bool :=
 if 0<(s.chn c).len then (s.setChn c ⟨(shiftTo (s.chn c).buf ((s.chn c).len-1).toNat).set ((s.chn c).len-1).toNat 0,(s.chn c).len-1,(s.chn c).closed,(s.chn c).offer,(s.chn c).from_,(s.chn c).val⟩,(s.chn c).buf.getD 0 0,true)
 else if (s.chn c).offer=1 then (s.setChn c ⟨(s.chn c).buf,(s.chn c).len,(s.chn c).closed,2,(s.chn c).from_,0⟩,(s.chn c).val,true)
 else (s,0,false)
theorem setChn_self {c:Int} (h:c.toNat<s.chans.length):s.setChn c (s.chn c)=s:=by
 unfold Stt.setChn Stt.chn
 have e:s.chans.set c.toNat (s.chans.getD c.toNat default)=s.chans:=by
  rw [List.getD_eq_getElem?_getD,List.getElem?_eq_getElem h]
  exact List.set_getElem_self h
 rw [e]
theorem recv_did {v0 t c r ok:Int} (h:c.toNat<s.chans.length):doRecv ⟨s,v0,0,t⟩ g c r ok=⟨((recvS s c).1.setReg g r (recvS s c).2.1).setReg g ok (yes (recvS s c).2.2),(recvS s c).2.1,0,t⟩:=by
 unfold doRecv recvS
 by_cases h1:0<(s.chn c).len
 · simp only [if_pos h1];rfl
 · simp only [if_neg h1]
   by_cases h2:(s.chn c).offer=1
   · simp only [if_pos h2];rfl
   · simp only [if_neg h2,setChn_self h];rfl
theorem shift_buf {b:List Int} (hb:b.length=4) {n:Nat} (hn:n<4) (hz:∀ i,n<i→i<4→b.getD i 0=0):(b.drop 1++b.drop 3).set n 0=(shiftTo b n).set n 0:=by
 match b,hb with
 | [x0,x1,x2,x3],_ =>
   have h1:0<1→n<1→x1=0:=fun _ h=>hz 1 h (by decide)
   have h2:n<2→x2=0:=fun h=>hz 2 h (by decide)
   have h3:n<3→x3=0:=fun h=>hz 3 h (by decide)
   match n,hn with
   | 0,_=>simp [shiftTo,h1 (by decide) (by decide),h2 (by decide),h3 (by decide),List.range,List.range.loop]
   | 1,_=>simp [shiftTo,h2 (by decide),h3 (by decide),List.range,List.range.loop]
   | 2,_=>simp [shiftTo,h3 (by decide),List.range,List.range.loop]
   | 3,_=>simp [shiftTo,List.range,List.range.loop]
end
end Go.Eng
