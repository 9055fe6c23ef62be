/- A part of the proof: walks through the program's functions, and what they compute. -/
import Derived.Test.YtedceinkpkoncaaGreatDoorPk37
import Derived.Test.YtedceinkpkoncaaGreatDoorPk29
import Derived.Test.YtedceinkpkoncaaGreatDoorPk33
import Derived.Test.YtedceinkpkoncaaGreatDoorPk35
import Derived.Test.YtedceinkpkoncaaGreatDoorPk27
import Derived.Test.YtedceinkpkoncaaGreatDoorPk14
set_option linter.unusedSimpArgs false
set_option linter.unusedVariables false
namespace Go.Eng.Tryz
open Go.RowKit Go.Eng
set_option maxHeartbeats 0
set_option maxRecDepth 20000
theorem waits_at {p:Prg} {s:Stt} {i:Nat} (h:i<(waitsTo p s s.count.toNat).length):(0≤(waitsTo p s s.count.toNat).getD i 0∧(waitsTo p s s.count.toNat).getD i 0<s.count)∧isLive s ((waitsTo p s s.count.toNat).getD i 0)=true∧(alts p s ((waitsTo p s s.count.toNat).getD i 0)).length=0:=by
 have hm:(waitsTo p s s.count.toNat).getD i 0∈waitsTo p s s.count.toNat:=by rw [List.getD_eq_getElem?_getD,List.getElem?_eq_getElem h];exact List.getElem_mem h
 generalize (waitsTo p s s.count.toNat).getD i 0=g at hm
 unfold waitsTo at hm
 obtain ⟨k,hk,rfl⟩:=List.mem_map.1 hm
 obtain ⟨h1,h2⟩:=List.mem_filter.1 hk
 have:=List.mem_range.1 h1
 simp only [Bool.and_eq_true,decide_eq_true_eq] at h2
 exact ⟨by omega,h2⟩
structure Wake1 (p:Prg) (s t:Stt) (g:Int) (l:List Access) (M:List Int) (A:List Access):Prop where
 alts:Ctr Go.Proofs.Tryz.prog tab 29 [26,37,3] [23,49] [p.v,t.v,.int g] [.list (M.map V.int),.int 0]
 touch:Ctr Go.Proofs.Tryz.prog tab 23 [26,37,3] [60,49] [p.v,s.v,.int g] [.list (A.map Access.v),.int 0]
 few:M.length≤maxLen
 short:A.length≤maxLen
 wake:M.length=0∨clashL A l=true
theorem wake1 {p:Prg} {s t:Stt} {x:Pck} {fuel:Int} {e:Event} {l:List Access} (hp:p.Fit) (hr:rightP p=true) (hs:s.Shape) (hvl:validP p s=true) (K:Kept p s x fuel t e l) {g:Int} (hg:(0≤g∧g<s.count)∧isLive s g=true∧(alts p s g).length=0):∃ M A,Wake1 p s t g l M A:=by
 have hok:=Prg.ok hr
 have hv:=Vld.of hok hs hvl
 have hask:askErr p s=0:=by unfold askErr;rw [hr,hvl];decide
 have hc:=hv.count
 have h1:oneErr p s g=0:=by
  unfold oneErr
  rw [hask,if_neg (by decide),if_neg (by omega),← isLive_in hg.1.1 hg.1.2,hg.2.1]
  rfl
 obtain ⟨h2,h3⟩:=K.wake g hg.1 hg.2.1 hg.2.2
 refine ⟨_,_,?_,?_,Nat.le_trans (pAlts_short hok (K.vld.wf hok hr) g) (by decide),?_,h3⟩
 · have c:=pAlts_ctr p t g hp K.shape
   rw [if_pos h2,h2] at c
   exact c
 · have c:=pTouch_ctr p s g hp hs
   rw [if_pos h1,h1] at c
   exact c
 · exact Nat.le_trans (touch_ok hok (hv.wf hok hr) hg.1).2.2 (by decide)
theorem kept_slice {p:Prg} {s t:Stt} {x:Pck} {fuel:Int} {e:Event} {l:List Access} (K:Kept p s x fuel t e l):List.take (e.touches.toNat-0) (List.drop 0 (List.map Access.v e.touch))=l.map Access.v:=by
 rw [K.len,Int.toNat_natCast,Nat.sub_zero,List.drop_zero,K.fill,← List.map_take,touchFill_take K.six]
theorem waits_ok {p:Prg} {s:Stt} (hp:p.Fit) (hr:rightP p=true) (hs:s.Shape) (hvl:validP p s=true):∃ L:List Int,L=waitsTo p s s.count.toNat∧L.length≤6∧Ctr Go.Proofs.Tryz.prog tab 31 [26,37] [23,49] [p.v,s.v] [.list (L.map V.int),.int 0]:=by
 have hask:askErr p s=0:=by unfold askErr;rw [hr,hvl];decide
 refine ⟨_,rfl,?_,?_⟩
 · have:=(Vld.of (Prg.ok hr) hs hvl).count
   unfold waitsTo
   rw [List.length_map]
   exact Nat.le_trans (List.length_filter_le _ _) (by rw [List.length_range];omega)
 · have c:=pWaiting_ctr p s hp hs
   rw [if_pos hask,hask] at c
   exact c
def lv6:List (Nat × List Nat):=[(0,[1]),(1,[1,35]),(2,[2]),(3,[1,3,4,5]),(4,[1,3,4,5,6,7]),(5,[1,3,4,6,63]),(6,[2]),(7,[1,3,4,6,8]),(8,[1,3,4,6,8,67]),(9,[1,3,4,6,8]),(10,[1,3,4,6,8,9,10]),(11,[1,3,4,6,8,9,10,11,12]),(12,[1,3,4,6,8,9,11,108]),(13,[2]),(14,[1,3,4,6,8,120]),(15,[2]),(16,[2])]
theorem stepWakes_ctr (p:Prg) (s:Stt) (x:Pck) (fuel:Int) (hp:p.Fit) (hs:s.Shape):Ctr Go.Proofs.Tryz.prog tab 6 [41] [4] [caseV p s x fuel] [.bool true]:=by
 have hpp:=hp
 have hfit:=hp
 have hcode:=p.code_len hp
 have hsl:=p.sels_len hp
 obtain ⟨hp1,hp2,hp3,hp4⟩:=hp
 have hmx:256≤maxLen:=by decide
 have hs1:=hs.vars
 have hs2:=hs.owner
 have hs3:=hs.chans
 have hs5:=hs.gos
 refine Ctr.body ok Go.Proofs.Tryz.func6 rfl rfl 122 rfl [.tmp 2] rfl (by simp [fromVs]) ?_
 simp only [fromVs,fromV,args0,V.toList_list,V.toInt_int,V.toBool_bool,Nat.zero_add,Nat.reduceAdd,ty41]
 repeat' first
  | ((with_reducible refine SARA.told 1 2 ?_)
     rcases Bool.eq_false_or_eq_true (rightP p&&validP p s) with hft|hft<;>simp only [hft]
     first|(have hfr:=(Bool.and_eq_true_iff.1 hft).1;have hfv:=(Bool.and_eq_true_iff.1 hft).2;have hw:=(Vld.of (Prg.ok hfr) hs hfv).wf (Prg.ok hfr) hfr)|skip)
  | ((with_reducible refine SARA.told 14 9 ?_)
     rw [kept_slice hK])
  | ((with_reducible first|refine SARA.do fun R1 hR1=>?_|refine SART.do fun R1 hR1=>?_|refine SARB.keep fun R1 hR1=>?_|refine SARB.any fun R1 hR1=>?_);(simp only [go_sem,seval,-List.reduceReplicate,Bool.cond_false_right,Bool.cond_true_left,decide_true,decide_false,Bool.not_true,Bool.not_false]);(repeat' with_reducible refine And.intro ?_ ?_);all_goals first|(refine hR1 _ ?_;clear hR1 R1)|(intro hgf;simp only [hgf];refine hR1 _ ?_;clear hR1 R1)|((first|refine cq (cc (lfit_ctr p s x fuel hpp hs) (by first|rfl|(simp [go_sem,ty64,ty23,ty60,List.take_of_length_le,List.length_map];done)|fail)) ?_|refine ⟨_,_,rfl,.inl ⟨_,fun hg=>CallQ.ctr ok (lfit_ctr p s x fuel hpp hs) (by first|rfl|(simp [go_sem,ty64,ty23,ty60,List.take_of_length_le,List.length_map];done)|fail) rfl,?_⟩⟩|refine cq (cc (has_ctr p s x hpp hfr hw) (by first|rfl|(simp [go_sem,ty64,ty23,ty60,List.take_of_length_le,List.length_map];done)|fail)) ?_|refine ⟨_,_,rfl,.inl ⟨_,fun hg=>CallQ.ctr ok (has_ctr p s x hpp hfr hw) (by first|rfl|(simp [go_sem,ty64,ty23,ty60,List.take_of_length_le,List.length_map];done)|fail) rfl,?_⟩⟩|refine cq (cc (speaks_ctr) (by first|rfl|(simp [go_sem,ty64,ty23,ty60,List.take_of_length_le,List.length_map];done)|fail)) ?_|refine ⟨_,_,rfl,.inl ⟨_,fun hg=>CallQ.ctr ok (speaks_ctr) (by first|rfl|(simp [go_sem,ty64,ty23,ty60,List.take_of_length_le,List.length_map];done)|fail) rfl,?_⟩⟩|refine ce (cf (hD.do_) ?_ (by first|rfl|(simp [go_sem,ty64,ty23,ty60,List.take_of_length_le,List.length_map];done)|fail))|refine ⟨_,_,rfl,.inr ⟨fun _=>CallE.ctr ok (hD.do_) (by first|rfl|(simp [go_sem,ty64,ty23,ty60,List.take_of_length_le,List.length_map];done)|fail) ?_,?_⟩⟩|refine ⟨_,_,rfl,.inr (CallB.ctr ok (hD.do_) (by first|rfl|(simp [go_sem,ty64,ty23,ty60,List.take_of_length_le,List.length_map];done)|fail) ?_)⟩|refine ⟨_,_,rfl,.inr ⟨fun _=>CallB.ctr ok (hD.do_) (by first|rfl|(simp [go_sem,ty64,ty23,ty60,List.take_of_length_le,List.length_map];done)|fail) ?_,?_⟩⟩|refine ce (cf (hwt) ?_ (by first|rfl|(simp [go_sem,ty64,ty23,ty60,List.take_of_length_le,List.length_map];done)|fail))|refine ⟨_,_,rfl,.inr ⟨fun _=>CallE.ctr ok (hwt) (by first|rfl|(simp [go_sem,ty64,ty23,ty60,List.take_of_length_le,List.length_map];done)|fail) ?_,?_⟩⟩|refine ⟨_,_,rfl,.inr (CallB.ctr ok (hwt) (by first|rfl|(simp [go_sem,ty64,ty23,ty60,List.take_of_length_le,List.length_map];done)|fail) ?_)⟩|refine ⟨_,_,rfl,.inr ⟨fun _=>CallB.ctr ok (hwt) (by first|rfl|(simp [go_sem,ty64,ty23,ty60,List.take_of_length_le,List.length_map];done)|fail) ?_,?_⟩⟩|refine ce (cf (hW.alts) ?_ (by first|rfl|(simp [go_sem,ty64,ty23,ty60,List.take_of_length_le,List.length_map];done)|fail))|refine ⟨_,_,rfl,.inr ⟨fun _=>CallE.ctr ok (hW.alts) (by first|rfl|(simp [go_sem,ty64,ty23,ty60,List.take_of_length_le,List.length_map];done)|fail) ?_,?_⟩⟩|refine ⟨_,_,rfl,.inr (CallB.ctr ok (hW.alts) (by first|rfl|(simp [go_sem,ty64,ty23,ty60,List.take_of_length_le,List.length_map];done)|fail) ?_)⟩|refine ⟨_,_,rfl,.inr ⟨fun _=>CallB.ctr ok (hW.alts) (by first|rfl|(simp [go_sem,ty64,ty23,ty60,List.take_of_length_le,List.length_map];done)|fail) ?_,?_⟩⟩|refine ce (cf (hW.touch) ?_ (by first|rfl|(simp [go_sem,ty64,ty23,ty60,List.take_of_length_le,List.length_map];done)|fail))|refine ⟨_,_,rfl,.inr ⟨fun _=>CallE.ctr ok (hW.touch) (by first|rfl|(simp [go_sem,ty64,ty23,ty60,List.take_of_length_le,List.length_map];done)|fail) ?_,?_⟩⟩|refine ⟨_,_,rfl,.inr (CallB.ctr ok (hW.touch) (by first|rfl|(simp [go_sem,ty64,ty23,ty60,List.take_of_length_le,List.length_map];done)|fail) ?_)⟩|refine ⟨_,_,rfl,.inr ⟨fun _=>CallB.ctr ok (hW.touch) (by first|rfl|(simp [go_sem,ty64,ty23,ty60,List.take_of_length_le,List.length_map];done)|fail) ?_,?_⟩⟩|refine cq (cc (lclash_ctr A l hW.short (Nat.le_trans hK.six (by decide))) (by first|rfl|(simp [go_sem,ty64,ty23,ty60,List.take_of_length_le,List.length_map];done)|fail)) ?_|refine ⟨_,_,rfl,.inl ⟨_,fun hg=>CallQ.ctr ok (lclash_ctr A l hW.short (Nat.le_trans hK.six (by decide))) (by first|rfl|(simp [go_sem,ty64,ty23,ty60,List.take_of_length_le,List.length_map];done)|fail) rfl,?_⟩⟩|refine ⟨_,_,rfl,.inl ⟨.bool false,?_⟩⟩);all_goals ((try simp only [go_sem,seval,-List.reduceReplicate,Bool.cond_false_right,Bool.cond_true_left,decide_true,decide_false,Bool.not_true,Bool.not_false]);(repeat' with_reducible refine And.intro ?_ ?_);all_goals first|(refine hR1 _ ?_;clear hR1 R1)|(intro hgf;simp only [hgf];refine hR1 _ ?_;clear hR1 R1)|omega|rfl|decide|assumption|(intro _;omega)|(simp;done)|(simp [-List.getD_eq_getElem?_getD];omega)|exact hcode _|(intro _;exact hcode _)|exact hsl _|(intro _;exact hsl _)|(simp [-List.getD_eq_getElem?_getD,roomFor,maxLen,by3,by39,by45,by48,by37];omega)|(simp [-List.getD_eq_getElem?_getD,roomFor,maxLen,by3,by39,by45,by48,by37];done)))|omega|rfl|decide|assumption|(intro _;omega)|(simp;done)|(simp [-List.getD_eq_getElem?_getD];omega)|exact hcode _|(intro _;exact hcode _)|exact hsl _|(intro _;exact hsl _)|(simp [-List.getD_eq_getElem?_getD,roomFor,maxLen,by3,by39,by45,by48,by37];omega)|(simp [-List.getD_eq_getElem?_getD,roomFor,maxLen,by3,by39,by45,by48,by37];done))
  | ((with_reducible refine SART.done ?_);refine hR _ ?_;clear hR R;try simp only [go_sem,lv6,lvOf,Nat.reduceBEq,Option.getD_some])
  | (with_reducible first|refine SART.br ?_ ?_|exact SARL.nil|refine SARL.cons ?_ ?_)
  | ((with_reducible refine SARA.nil ?_);refine hR _ ?_;clear hR R;try simp only [go_sem,lv6,lvOf,Nat.reduceBEq,Option.getD_some])
  | (with_reducible first|refine J1 ?_|refine J2 ?_|refine J3 ?_|refine J4 ?_|refine J5 ?_|refine J6 ?_|refine J7 ?_|refine J8 (by decide) ?_|refine J9 ?_|refine J10 ?_|refine J11 ?_|refine J12 ?_|refine J13 ?_|refine J14 ?_|refine J15 ?_|refine J16 ?_|refine J17 ?_|refine J18 ?_|refine J19 ?_)
  | ((with_reducible refine SA.at 3 ?_)
     obtain ⟨t,e,l,hD,hl⟩:=did1 hpp hfr hs hfv (of_decide_eq_true hb35.2) (by omega:0≤fuel∧fuel≤4096)
     obtain ⟨L,hL,hL6,hwt⟩:=waits_ok hpp hfr hs hfv
     have hK:=hD.kept
     have hll:=hK.six
     have hln:=hK.len
     have htl:=hK.six'
     clear hl
     (with_reducible refine J21 ok (by kernel_rfl) lv6 ?_);intro R hR;simp only [go_sem,strip])
  | ((with_reducible refine SA.at 14 ?_)
     have hfew:=hW.few
     (with_reducible refine J21 ok (by kernel_rfl) lv6 ?_);intro R hR;simp only [go_sem,strip])
  | ((with_reducible refine SA.at 7 ?_)
     refine SA.weaken (St.le.frz ok.sized 2 rfl) ?_
     simp only [St.frz,Tm.frz,E.frz,E.frzL,Obj.frz,List.map_cons,List.map_nil,List.set_cons_zero,List.set_cons_succ,Nat.reduceBEq,Nat.beq_refl,if_true,if_false,Nat.beq_eq_true_eq,reduceCtorEq,Bool.false_eq_true,V.get,Nat.reduceEqDiff]
     (with_reducible refine J21 ok (by kernel_rfl) lv6 ?_);intro R hR;simp only [go_sem,strip])
  | ((with_reducible refine SA.at 10 ?_)
     have hlt:i<L.length:=by omega
     obtain ⟨M,A,hW⟩:=wake1 hpp hfr hs hfv hK (waits_at (by rw [← hL];exact hlt))
     rw [← hL] at hW
     refine SA.regionT ok mixed (.take 0 (.take 1 (.take 2 (.take 3 (.take 4 (.take 5 (.take 6 (.br 7 (.take 8 (.take 9 (.take 10 (.take 11 (.take 12 .done))))) .nil)))))))) [] lv6 (by kernel_rfl) (fun R hR=>?_);simp only [go_sem,strip])
  | ((with_reducible refine SA.at 11 ?_)
     refine SA.regionT ok mixed (.take 0 (.take 1 (.take 2 (.take 3 (.take 4 (.take 5 (.take 6 (.take 7 (.br 8 (.take 9 (.take 10 (.take 11 (.take 12 (.take 13 .done))))) .nil))))))))) [] lv6 (by kernel_rfl) (fun R hR=>?_);simp only [go_sem,strip])
  | ((with_reducible refine J21 ok (by kernel_rfl) lv6 ?_);intro R hR;simp only [go_sem,strip])
  | ((with_reducible refine J20 35 rfl (fun hb35=>?_) (fun hb35=>?_))
     all_goals
      try simp [-List.getD_eq_getElem?_getD] at hb35
      try (exfalso;omega))
  | ((with_reducible refine J20 63 rfl (fun hb63=>?_) (fun hb63=>?_))
     all_goals
      try simp [-List.getD_eq_getElem?_getD] at hb63
      try (exfalso;omega))
  | ((with_reducible refine J20 108 rfl (fun hb108=>?_) (fun hb108=>?_))
     all_goals
      try simp [-List.getD_eq_getElem?_getD] at hb108
      try (exfalso;omega))
  | ((with_reducible refine J20 120 rfl (fun hb120=>?tt120) (fun hb120=>?ff120))
     case' tt120 =>
      try simp [-List.getD_eq_getElem?_getD] at hb120
      try (exfalso;omega)
      exact absurd hW.wake (by intro q;rcases q with q|q;omega;rw [q] at hb120;exact absurd hb120.2 (by decide))
     case' ff120 =>
      try simp [-List.getD_eq_getElem?_getD] at hb120
      try (exfalso;omega))
  | ((with_reducible refine SA.cond rfl ?_ ?_)
     all_goals
      intro hb
      try simp [-List.getD_eq_getElem?_getD] at hb
      try (exfalso;omega))
  | ((with_reducible refine SA.atLoop ?_)
     refine SA.weaken (St.le.of_eq (by rfl)) (SA.loop (fun n τ=>∃ (i:Nat),n=L.length-i∧(i≤L.length)∧τ={ tm:=[(1,true,.ptr 0 [] 41),(3,true,.ptr 1 [] 37),(4,true,.fptr 48 e.v),(6,true,.sl 3 3 0 L.length false),(8,true,.int .i64 i)],ob:=[.var 41 (.data 41 (caseV p s x fuel)),.var 37 (.data 37 t.v),.dead,.row 3 (L.map V.int)],out:=[],nt:=122 }) (L.length) ⟨0,rfl,by omega,rfl⟩ ?_)
     rintro n τ ⟨i,hn,hi,rfl⟩)
  | ((with_reducible refine loopK.round ?_)
     first
      | (have hlt:i<L.length:=by omega
         have hw:=wrap_succ (n:=i) (m:=256) (by omega) (by decide)
         refine loopK.normal (L.length-(i+1)) _ (by omega) ((St.le.cut 4 rfl).trans (St.le.of_eq (by simp [hw]))) ⟨i+1,rfl,hlt,rfl⟩))
  | ((with_reducible first|refine ctrK.normal ?_|refine ctrK.ret ?_)
     simp only [go_sem,resA,resV,backK,seval]
     first
      | (exact ⟨rfl,rfl⟩)
      | (rfl))
end Go.Eng.Tryz
namespace Go.Eng.Tryz
open Go.RowKit Go.Eng
set_option maxHeartbeats 0
set_option maxRecDepth 20000
def lv30:List (Nat × List Nat):=[(0,[0,1]),(1,[0,1,10]),(2,[4]),(3,[0,1,12,13]),(4,[0,1,12,13,14]),(5,[0,1,5,12,13]),(6,[0,1,12,13,24]),(7,[4]),(8,[0,1,12,13]),(9,[4])]
theorem sameInts_ctr (a b:List Int) (ha:a.length≤maxLen) (hb:b.length≤maxLen):Ctr Go.Proofs.Tryz.prog tab 30 [23,23] [4] [.list (a.map V.int),.list (b.map V.int)] [.bool (decide (a=b))]:=by
 have hcode:True→True:=id
 have hsl:True→True:=id
 refine Ctr.body ok Go.Proofs.Tryz.func30 rfl rfl 26 rfl [.tmp 4] rfl (by simp [fromVs]) ?_
 simp only [fromVs,fromV,args0,V.toList_list,V.toInt_int,V.toBool_bool,Nat.zero_add,Nat.reduceAdd,ty23]
 repeat' first
  | ((with_reducible refine SARQ.told 6 _ ?_);try simp only [getD_map V.int a hlt,getD_map V.int b hlt'])
  | ((with_reducible first|refine SARA.do fun R1 hR1=>?_|refine SARQ.do fun R1 hR1=>?_);(simp only [go_sem,seval,-List.reduceReplicate,Pck.beq,Access.beq]);(repeat' with_reducible refine And.intro ?_ ?_);all_goals first|(refine hR1 _ ?_;clear hR1 R1)|omega|rfl|decide|assumption|(intro _;omega)|(simp;done)|(simp [-List.getD_eq_getElem?_getD];omega)|exact hcode _|(intro _;exact hcode _)|exact hsl _|(intro _;exact hsl _)|(simp [-List.getD_eq_getElem?_getD,roomFor,maxLen,by3,by39,by45,by48,by37];omega)|(simp [-List.getD_eq_getElem?_getD,roomFor,maxLen,by3,by39,by45,by48,by37];done))
  | ((with_reducible refine SARA.nil ?_);refine hR _ ?_;clear hR R;try simp only [go_sem,lv30,lvOf,Nat.reduceBEq,Option.getD_some])
  | ((with_reducible refine SARQ.nil ?_);refine hR _ ?_;clear hR R;try simp only [go_sem,lv30,lvOf,Nat.reduceBEq,Option.getD_some])
  | (with_reducible first|refine J1 ?_|refine J2 ?_|refine J3 ?_|refine J4 ?_|refine J5 ?_|refine J6 ?_|refine J7 ?_|refine J8 (by decide) ?_|refine J9 ?_|refine J10 ?_|refine J11 ?_|refine J12 ?_|refine J13 ?_|refine J14 ?_|refine J15 ?_|refine J16 ?_|refine J17 ?_|refine J18 ?_|refine J19 ?_)
  | ((with_reducible refine SA.at 6 ?_)
     have hlt:i<a.length:=by omega
     have hlt':i<b.length:=by omega
     (with_reducible refine SA.regionD ok mixed (by kernel_rfl) (by kernel_rfl) lv30 ?_);intro R hR;simp only [go_sem,strip])
  | ((with_reducible refine J21 ok (by kernel_rfl) lv30 ?_);intro R hR;simp only [go_sem,strip])
  | ((with_reducible refine SA.regionD ok mixed (by kernel_rfl) (by kernel_rfl) lv30 ?_);intro R hR;simp only [go_sem,strip])
  | ((with_reducible refine J20 10 rfl (fun hb10=>?_) (fun hb10=>?_))
     all_goals
      try simp [-List.getD_eq_getElem?_getD] at hb10)
  | ((with_reducible refine J20 24 rfl (fun hb24=>?_) (fun hb24=>?_))
     all_goals
      try simp [-List.getD_eq_getElem?_getD] at hb24)
  | ((with_reducible refine SA.cond rfl ?_ ?_)
     all_goals
      intro hb
      try simp [-List.getD_eq_getElem?_getD] at hb)
  | ((with_reducible refine SA.atLoop ?_)
     refine SA.weaken (St.le.of_eq (by first|rfl|(simp;done)|fail)) (SA.loop (fun n τ=>∃ (i:Nat),n=a.length-i∧(i≤a.length∧a.length=b.length∧a.take i=b.take i)∧τ={ tm:=[(0,true,.fs 3 (a.map V.int) false),(1,true,.fs 3 (b.map V.int) false),(12,true,.int .i64 a.length),(13,true,.int .i64 i)],ob:=[],out:=[],nt:=26 }) (a.length) ⟨0,rfl,⟨Nat.zero_le _,by omega,rfl⟩,rfl⟩ ?_)
     rintro n τ ⟨i,hn,⟨hi,hl,hc⟩,rfl⟩)
  | ((with_reducible refine loopK.round ?_)
     first
      | (have hlt:i<a.length:=by omega
         refine loopK.normal (a.length-(i+1)) _ (by omega) (St.le.of_eq (by simp only [wrap_succ hlt ha])) ⟨i+1,rfl,⟨hlt,hl,?_⟩,rfl⟩
         have hlt':i<b.length:=by omega
         rw [List.take_succ_eq_append_getElem hlt,List.take_succ_eq_append_getElem hlt',hc]
         have:a[i]=b[i]:=by simpa [hlt,hlt'] using hb24
         rw [this]))
  | ((with_reducible first|refine ctrK.normal ?_|refine ctrK.ret ?_)
     simp only [go_sem,resA,resV,backK,seval]
     first
      | (have q:¬(_=_):=hb10
         refine ⟨rfl,?_⟩
         rw [decide_eq_false (fun h:a=b=>hb10 (by rw [h]))])
      | (have q:¬(_=_):=hb24
         refine ⟨rfl,?_⟩
         rw [decide_eq_false (fun h:a=b=>hb24 (by rw [h]))])
      | (refine ⟨rfl,?_⟩
         have:i=a.length:=by omega
         subst this
         rw [List.take_length,hl,List.take_length] at hc
         simp [hc]))
end Go.Eng.Tryz
namespace Go.Eng
def Owned (s:Stt) (g:Int) (L:List Bool):Prop:=∀ k:Nat,k<4→L.getD k false=decide (s.owner.getD k 0=g+1)
theorem lockStep_none {L:List Bool} {e:Event} (h:e.op≠55∧e.op≠56∧e.op≠57):lockStep L e=L:=by
 unfold lockStep
 split
 · rfl
 · rw [if_neg (by omega),if_neg (by omega)]
section
variable {apply:Int→Int→Int→Int × Int} (hap:ApplyOk apply) {p:Prg}
include hap in
theorem take_owner {s:Stt} (hr:rightP p=true) (hok:p.Ok) (hv:Vld p s) {x:Pck} (ha:x.alt∈alts p s x.go) {fuel:Int} (hf:0≤fuel∧fuel≤4096) :
 (take apply p s x fuel).1.owner=(visible p s x.go x.alt).s.owner:=by
 have hg:=(live_iff.1 (alts_live ha)).1
 have hd:=visible_ok hok hr hv ha
 unfold take
 simp only
 split
 · rfl
 · rename_i hw
   have hw:(visible p s x.go x.alt).why=0:=by simpa using hw
   split
   · rfl
   · rename_i ht
     have h1:=afterVis_ok hg hd hw (by omega)
     have hc:=hd.cnt
     have hk:=settle_keeps (apply:=apply) hr hok h1 (g:=x.go) (fuel:=fuel) ⟨hg.1,by show x.go<(visible p s x.go x.alt).s.count;omega⟩ hf
     have h2:=settle_ok hap hr hok h1 (g:=x.go) (fuel:=fuel) ⟨hg.1,by show x.go<(visible p s x.go x.alt).s.count;omega⟩ hf
     show (if _ then _ else _:Stt).owner=_
     refine ite_stt (q:=fun t:Stt=>t.owner=(visible p s x.go x.alt).s.owner) (fun q=>?_) (fun _=>hk.2.1)
     have hcn:=hv.count
     exact (settle_keeps (apply:=apply) hr hok h2 (g:=s.count) (fuel:=fuel) ⟨by omega,q⟩ hf).2.1.trans hk.2.1
theorem visible_vars {s:Stt} {g alt:Int} (h:opAt p s g=55∨opAt p s g=56∨opAt p s g=57):visible p s g alt=doVars ⟨s,0,0,(s.gor g).pc+1⟩ g (instrAt p s g) :=
 (if_neg (by omega)).trans ((if_neg (by omega)).trans ((if_neg (by omega)).trans ((if_neg (by omega)).trans ((if_neg (by omega)).trans ((if_neg (by omega)).trans ((if_neg (by omega)).trans (if_neg (by omega))))))))
theorem doVars55 {d:Did} {g:Int} {x:Instr} (h:x.op=55):doVars d g x={ d with s:={ d.s with owner:=d.s.owner.set x.a.toNat (g+1) } } :=
 (if_neg (by omega)).trans ((if_neg (by omega)).trans ((if_neg (by omega)).trans ((if_neg (by omega)).trans ((if_neg (by omega)).trans (if_pos h)))))
theorem doVars56 {d:Did} {g:Int} {x:Instr} (h:x.op=56):doVars d g x=if d.s.owner.getD x.a.toNat 0≠g+1 then { d with why:=6 } else { d with s:={ d.s with owner:=d.s.owner.set x.a.toNat 0 } } :=
 (if_neg (by omega)).trans ((if_neg (by omega)).trans ((if_neg (by omega)).trans ((if_neg (by omega)).trans ((if_neg (by omega)).trans ((if_neg (by omega)).trans (if_pos h))))))
theorem touch_lock {s:Stt} {g:Int} (h:opAt p s g=55∨opAt p s g=56):firstLock (touch p s g)=(instrAt p s g).a:=by
 have e:touch p s g=add 2 (instrAt p s g).a true [⟨5,g,true⟩]:=(if_neg (by omega)).trans ((if_neg (by omega)).trans ((if_neg (by omega)).trans ((if_neg (by omega)).trans (if_pos h))))
 rw [e];simp [add,firstLock]
theorem touch_try {s:Stt} {g:Int} (h:opAt p s g=57):firstLock (touch p s g)=(instrAt p s g).b:=by
 have e:touch p s g=add 2 (instrAt p s g).b true [⟨5,g,true⟩]:=(if_neg (by omega)).trans ((if_neg (by omega)).trans ((if_neg (by omega)).trans ((if_neg (by omega)).trans ((if_neg (by omega)).trans (if_pos h)))))
 rw [e];simp [add,firstLock]
include hap in
theorem own_step {s:Stt} (hr:rightP p=true) (hok:p.Ok) (hv:Vld p s) {x:Pck} (ha:x.alt∈alts p s x.go) {fuel:Int} (hf:0≤fuel∧fuel≤4096) {g:Int} (hg0:0≤g) {L:List Bool} (hL:L.length=4) (h:Owned s g L) :
 Owned (doStep apply p s x fuel).1 g (if x.go=g then lockStep L (doStep apply p s x fuel).2.1 else L):=by
 have hg:=(live_iff.1 (alts_live ha)).1
 have hw:=hv.wf hok hr
 have hc:=hv.count
 have h4:=hv.shape.owner
 have hsz:=hok.sizes
 unfold Sizes at hsz
 have hT:=touch_ok hok hw hg
 have hrt:instrErr p (p.funcs.getD (s.gos.getD x.go.toNat default).func.toNat default) (instrAt p s x.go)=0:=hw.right hok hg.1 hg.2
 have e1:(doStep apply p s x fuel).1.owner=(visible p s x.go x.alt).s.owner:=by
  unfold doStep
  rw [if_neg (by omega),if_neg (by unfold has;rw [decide_eq_true ha];decide)]
  exact take_owner hap hr hok hv ha hf
 have e2:(doStep apply p s x fuel).2.1=event p s x (if (visible p s x.go x.alt).why≠0 then 0 else (visible p s x.go x.alt).val):=by
  unfold doStep
  rw [if_neg (by omega),if_neg (by unfold has;rw [decide_eq_true ha];decide)]
  unfold take
  simp only
  split
  · rfl
  · split<;>rfl
 have e3:∀ v,(event p s x v).op=opAt p s x.go:=fun _=>rfl
 unfold Owned at *
 rw [e1,e2]
 by_cases hop:opAt p s x.go=55∨opAt p s x.go=56∨opAt p s x.go=57
 · have hin:(instrAt p s x.go).op=opAt p s x.go:=by
    rcases hop with q|q|q<;>(rw [q];exact hw.op_at hok hg.1 hg.2 q (by decide))
   rw [visible_vars hop]
   rcases hop with q|q|q
   · have hq:(instrAt p s x.go).op=55:=by omega
     have hI:=vis55 hrt (.inl hq)
     have hfree:s.owner.getD (instrAt p s x.go).a.toNat 0=0:=by
      have hp:=(alts_plain ha (by omega)).1
      have e:plain p s x.go=decide (s.owner.getD (instrAt p s x.go).a.toNat 0=0):=(if_neg (by omega)).trans (if_pos q)
      rw [e] at hp
      exact of_decide_eq_true hp
     rw [doVars55 hq]
     intro k hk
     show (if x.go=g then lockStep L (event p s x _) else L).getD k false=decide ((s.owner.set (instrAt p s x.go).a.toNat (x.go+1)).getD k 0=g+1)
     have el:lockStep L (event p s x (if (0:Int)≠0 then 0 else 0))=L.set (instrAt p s x.go).a.toNat true:=by
      unfold lockStep
      rw [event_lock hT.2.2,touch_lock (.inl q),if_neg (by omega),if_pos (.inl q)]
     rw [getD_set]
     by_cases hgo:x.go=g
     · rw [if_pos hgo]
       refine (congrArg (fun l=>List.getD l k false) el).trans ?_
       rw [getD_set]
       by_cases hk2:(instrAt p s x.go).a.toNat=k
       · rw [if_pos ⟨hk2,by omega⟩,if_pos ⟨hk2,by omega⟩,hgo];simp
       · rw [if_neg (fun w=>hk2 w.1),if_neg (fun w=>hk2 w.1)];exact h k hk
     · rw [if_neg hgo]
       by_cases hk2:(instrAt p s x.go).a.toNat=k
       · rw [if_pos ⟨hk2,by omega⟩,h k hk,← hk2,hfree,decide_eq_false (by omega),decide_eq_false (by omega)]
       · rw [if_neg (fun w=>hk2 w.1)];exact h k hk
   · have hq:(instrAt p s x.go).op=56:=by omega
     have hI:=vis55 hrt (.inr hq)
     have el:∀ v,lockStep L (event p s x v)=L.set (instrAt p s x.go).a.toNat false:=by
      intro v
      unfold lockStep
      rw [event_lock hT.2.2,touch_lock (.inr q),if_neg (by omega),if_neg (by rw [e3];omega),if_pos (by rw [e3];exact q)]
     rw [doVars56 hq]
     intro k hk
     by_cases ho:s.owner.getD (instrAt p s x.go).a.toNat 0≠x.go+1
     · have e5:∀ d:Did,d=⟨s,0,0,(s.gor x.go).pc+1⟩→(if d.s.owner.getD (instrAt p s x.go).a.toNat 0≠x.go+1 then { d with why:=6 } else { d with s:={ d.s with owner:=d.s.owner.set (instrAt p s x.go).a.toNat 0 } }).s.owner=s.owner:=by
        rintro d rfl;rw [if_pos ho]
       rw [e5 _ rfl,el]
       by_cases hgo:x.go=g
       · rw [if_pos hgo,getD_set]
         by_cases hk2:(instrAt p s x.go).a.toNat=k
         · rw [if_pos ⟨hk2,by omega⟩,← hk2,← hgo,decide_eq_false ho]
         · rw [if_neg (fun w=>hk2 w.1)];exact h k hk
       · rw [if_neg hgo];exact h k hk
     · have ho':s.owner.getD (instrAt p s x.go).a.toNat 0=x.go+1:=Decidable.not_not.1 ho
       have e5:∀ d:Did,d=⟨s,0,0,(s.gor x.go).pc+1⟩→(if d.s.owner.getD (instrAt p s x.go).a.toNat 0≠x.go+1 then { d with why:=6 } else { d with s:={ d.s with owner:=d.s.owner.set (instrAt p s x.go).a.toNat 0 } }).s.owner=s.owner.set (instrAt p s x.go).a.toNat 0:=by
        rintro d rfl;rw [if_neg ho]
       rw [e5 _ rfl,el,getD_set]
       by_cases hgo:x.go=g
       · rw [if_pos hgo,getD_set]
         by_cases hk2:(instrAt p s x.go).a.toNat=k
         · rw [if_pos ⟨hk2,by omega⟩,if_pos ⟨hk2,by omega⟩,decide_eq_false (by omega)]
         · rw [if_neg (fun w=>hk2 w.1),if_neg (fun w=>hk2 w.1)];exact h k hk
       · rw [if_neg hgo]
         by_cases hk2:(instrAt p s x.go).a.toNat=k
         · rw [if_pos ⟨hk2,by omega⟩,h k hk,← hk2,ho',decide_eq_false (by omega),decide_eq_false (by omega)]
         · rw [if_neg (fun w=>hk2 w.1)];exact h k hk
   · have hq:(instrAt p s x.go).op=57:=by omega
     have hI:=vis57 hrt hq
     have e6:=doVars57 (d:=⟨s,0,0,(s.gor x.go).pc+1⟩) (g:=x.go) (by omega) (by omega) (by omega) (by omega) (by omega) (by omega) (by omega) hq
     by_cases ho:s.owner.getD (instrAt p s x.go).b.toNat 0=0
     · have hy:yes (decide (s.owner.getD (instrAt p s x.go).b.toNat 0=0))=1:=by rw [decide_eq_true ho];rfl
       rw [if_pos hy] at e6
       rw [e6]
       intro k hk
       rw [setReg_owner]
       show (if x.go=g then lockStep L (event p s x (if (0:Int)≠0 then 0 else yes (decide (s.owner.getD (instrAt p s x.go).b.toNat 0=0)))) else L).getD k false=decide ((s.owner.set (instrAt p s x.go).b.toNat (x.go+1)).getD k 0=g+1)
       rw [hy]
       have el:lockStep L (event p s x (if (0:Int)≠0 then 0 else 1))=L.set (instrAt p s x.go).b.toNat true:=by
        unfold lockStep
        rw [event_lock hT.2.2,touch_try q,if_neg (by omega),if_pos (.inr ⟨q,rfl⟩)]
       rw [el,getD_set]
       by_cases hgo:x.go=g
       · rw [if_pos hgo,getD_set]
         by_cases hk2:(instrAt p s x.go).b.toNat=k
         · rw [if_pos ⟨hk2,by omega⟩,if_pos ⟨hk2,by omega⟩,hgo];simp
         · rw [if_neg (fun w=>hk2 w.1),if_neg (fun w=>hk2 w.1)];exact h k hk
       · rw [if_neg hgo]
         by_cases hk2:(instrAt p s x.go).b.toNat=k
         · rw [if_pos ⟨hk2,by omega⟩,h k hk,← hk2,ho,decide_eq_false (by omega),decide_eq_false (by omega)]
         · rw [if_neg (fun w=>hk2 w.1)];exact h k hk
     · have hy:yes (decide (s.owner.getD (instrAt p s x.go).b.toNat 0=0))=0:=by rw [decide_eq_false ho];rfl
       rw [if_neg (by show ¬yes (decide (s.owner.getD (instrAt p s x.go).b.toNat 0=0))=1;rw [hy];decide)] at e6
       rw [e6]
       intro k hk
       rw [setReg_owner]
       show (if x.go=g then lockStep L (event p s x (if (0:Int)≠0 then 0 else yes (decide (s.owner.getD (instrAt p s x.go).b.toNat 0=0)))) else L).getD k false=decide (s.owner.getD k 0=g+1)
       rw [hy]
       have el:lockStep L (event p s x (if (0:Int)≠0 then 0 else 0))=L:=by
        unfold lockStep
        rw [event_lock hT.2.2,touch_try q,if_neg (by omega),if_neg (by
         rintro (w|w)
         · have:=(e3 (if (0:Int)≠0 then 0 else 0)).symm.trans w;omega
         · exact absurd (show (0:Int)=1 from w.2) (by decide)),if_neg (by
         intro w
         have:=(e3 (if (0:Int)≠0 then 0 else 0)).symm.trans w;omega)]
       rw [el]
       split<;>exact h k hk
 · have e4:(visible p s x.go x.alt).s.owner=s.owner:=by
    by_cases h66:(s.gos.getD x.go.toNat default).status=2
    · have hop6:=hw.wait x.go hg.1 hg.2 h66
      have:(instrAt p s x.go).op=58:=hop6
      exact visible_owner p s x.go x.alt (by omega)
    · have e:opAt p s x.go=(instrAt p s x.go).op:=if_neg h66
      exact visible_owner p s x.go x.alt (by omega)
   rw [e4,lockStep_none (by rw [e3];omega)]
   intro k hk
   split<;>exact h k hk
theorem ready_mem {s:Stt} {x:Pck}:x∈ready p s↔(0≤x.go∧x.go<s.count)∧x.alt∈alts p s x.go:=by
 unfold ready readyTo
 simp only [List.mem_flatMap,List.mem_range,List.mem_map]
 constructor
 · rintro ⟨g,hg,a,ha,rfl⟩
   exact ⟨by show 0≤(g:Int)∧(g:Int)<s.count;omega,ha⟩
 · rintro ⟨hg,ha⟩
   refine ⟨x.go.toNat,by omega,x.alt,?_,?_⟩
   · rw [show ((x.go.toNat:Nat):Int)=x.go by omega];exact ha
   · cases x;simp only [Pck.mk.injEq,and_true];simp only at hg;omega
theorem okAt_alts {fuel:Int} {s:Stt} {l:List Pck} {j:Nat} (h:okAtR apply p fuel s l j=true):(l.getD j default).alt∈alts p (stateAt apply p fuel s l j) (l.getD j default).go:=by
 unfold okAtR at h
 obtain ⟨y,hy,e⟩:=List.any_eq_true.1 h
 have e:=of_decide_eq_true e
 rw [e]
 exact (ready_mem.1 hy).2
include hap in
theorem stateAt_ok (hr:rightP p=true) (hok:p.Ok) {fuel:Int} (hf:0≤fuel∧fuel≤4096) {s:Stt} (hv:Vld p s) {l:List Pck}:∀ {n:Nat},n≤l.length→(∀ j,j<n→okAtR apply p fuel s l j=true)→Vld p (stateAt apply p fuel s l n)
 | 0,_,_=>by rw [stateAt_zero];exact hv
 | n+1,hn,h=>by
   rw [stateAt_succ apply p fuel s l (by omega)]
   exact do_ok hap hr hok (stateAt_ok hr hok hf hv (by omega) fun j hj=>h j (by omega)) (okAt_alts (h n (by omega))) hf
include hap in
theorem run_owned (hr:rightP p=true) (hok:p.Ok) {fuel:Int} (hf:0≤fuel∧fuel≤4096) {l:List Pck} (hlast:∀ j,j<l.length→okAtR apply p fuel (start apply p fuel).1 l j=true) {g:Int} (hg:0≤g):∀ {n:Nat},n≤l.length →
 Owned (stateAt apply p fuel (start apply p fuel).1 l n) g (locksTo (eventsTo apply p fuel (start apply p fuel).1 l l.length) n g)
 | 0,_=>by
   rw [stateAt_zero,locksTo_zero]
   intro k hk
   have e:(start apply p fuel).1.owner.getD k 0=0:=by
    unfold start
    rw [if_neg (by rw [hr];decide),if_neg (by omega)]
    show zeroStt.owner.getD k 0=0
    rcases (show k=0∨k=1∨k=2∨k=3 by omega) with rfl|rfl|rfl|rfl<;>rfl
   rw [e,decide_eq_false (by omega)]
   rcases (show k=0∨k=1∨k=2∨k=3 by omega) with rfl|rfl|rfl|rfl<;>rfl
 | n+1,hn=>by
   have hv:=stateAt_ok hap hr hok hf (start_ok hap hr hok hf) (l:=l) (n:=n) (by omega) fun j hj=>hlast j (by omega)
   have ih:=run_owned hr hok hf hlast hg (n:=n) (by omega)
   have ha:=okAt_alts (hlast n (by omega))
   have:=own_step hap hr hok hv ha hf hg (locksTo_len _ n g) ih
   rw [stateAt_succ apply p fuel _ l (by omega),locksTo_succ _ (by rw [eventsTo_len];omega)]
   have e:(eventsTo apply p fuel (start apply p fuel).1 l l.length).getD n default=eventAt apply p fuel (start apply p fuel).1 l n:=by
    unfold eventsTo;exact rows_getD (by omega) _ _
   rw [e]
   have ego:(eventAt apply p fuel (start apply p fuel).1 l n).go=(l.getD n default).go:=by
    unfold eventAt doStep
    rw [if_neg (by omega),if_neg (by unfold has;rw [decide_eq_true ha];decide)]
    unfold take
    simp only
    split
    · rfl
    · split<;>rfl
   rw [ego]
   exact this
end
def ownsTo (s:Stt) (g:Int) (n:Nat):List Int:=((List.range n).filter fun k=>decide (s.owner.getD k 0=g+1)).map fun (k:Nat)=>(k:Int)
theorem nums_owned {s:Stt} {g:Int} {L:List Bool} (h:Owned s g L):numsOf L 4=ownsTo s g 4:=by
 unfold numsOf ownsTo
 rw [List.filter_congr (fun k hk=>h k (List.mem_range.1 hk))]
section
variable {apply:Int→Int→Int→Int × Int} (hap:ApplyOk apply) {p:Prg}
theorem step_event {s:Stt} {x:Pck} (ha:x.alt∈alts p s x.go) {fuel:Int} (hf:0≤fuel∧fuel≤4096):∃ v,(doStep apply p s x fuel).2.1=event p s x v:=by
 unfold doStep
 rw [if_neg (by omega),if_neg (by unfold has;rw [decide_eq_true ha];decide)]
 unfold take
 simp only
 split
 · exact ⟨_,rfl⟩
 · split<;>exact ⟨_,rfl⟩
theorem touchFill_len (l:List Access):(touchFill l).length=6:=by simp [touchFill]
theorem step_right (hok:p.Ok) {s:Stt} (hw:Wf p s) {x:Pck} (ha:x.alt∈alts p s x.go) {fuel:Int} (hf:0≤fuel∧fuel≤4096):right (doStep apply p s x fuel).2.1=true∧(doStep apply p s x fuel).2.1.touch.length=6∧(doStep apply p s x fuel).2.1.go=x.go:=by
 obtain ⟨v,e⟩:=step_event (apply:=apply) ha hf
 rw [e]
 exact ⟨event_right hok hw (live_iff.1 (alts_live ha)).1 v,touchFill_len _,rfl⟩
include hap in
theorem events_right (hr:rightP p=true) (hok:p.Ok) {fuel:Int} (hf:0≤fuel∧fuel≤4096) {l:List Pck} (hlast:∀ j,j<l.length→okAtR apply p fuel (start apply p fuel).1 l j=true):∀ e∈eventsTo apply p fuel (start apply p fuel).1 l l.length,right e=true∧e.touch.length=6:=by
 intro e he
 unfold eventsTo at he
 obtain ⟨j,hj,rfl⟩:=List.mem_map.1 he
 have hj:j<l.length:=List.mem_range.1 hj
 have hv:=stateAt_ok hap hr hok hf (start_ok hap hr hok hf) (l:=l) (n:=j) (by omega) fun i hi=>hlast i (by omega)
 have:=step_right (apply:=apply) hok (hv.wf hok hr) (okAt_alts (hlast j hj)) hf
 exact ⟨this.1,this.2.1⟩
include hap in
theorem own_last (hr:rightP p=true) (hok:p.Ok) {fuel:Int} (hf:0≤fuel∧fuel≤4096) {l:List Pck} (hlast:∀ j,j<l.length→okAtR apply p fuel (start apply p fuel).1 l j=true) {x:Pck} (hx:x∈ready p (stateAt apply p fuel (start apply p fuel).1 l l.length)) {e:Event} (he:e=(doStep apply p (stateAt apply p fuel (start apply p fuel).1 l l.length) x fuel).2.1) :
 (∀ y∈eventsTo apply p fuel (start apply p fuel).1 l l.length++[e],y.touch.length=6)∧(l.length+1≤256→check (eventsTo apply p fuel (start apply p fuel).1 l l.length++[e])=0 ∧
 numsOf (heldOf (eventsTo apply p fuel (start apply p fuel).1 l l.length++[e]) l.length) 4=ownsTo (stateAt apply p fuel (start apply p fuel).1 l l.length) x.go 4):=by
 have hv:=stateAt_ok hap hr hok hf (start_ok hap hr hok hf) (l:=l) (n:=l.length) (Nat.le_refl _) hlast
 obtain ⟨hg,ha⟩:=ready_mem.1 hx
 have h1:=step_right (apply:=apply) hok (hv.wf hok hr) ha hf
 rw [← he] at h1
 have h2:=events_right hap hr hok hf hlast
 have hlen:=eventsTo_len apply p fuel (start apply p fuel).1 l l.length
 have hall:∀ y∈eventsTo apply p fuel (start apply p fuel).1 l l.length++[e],right y=true∧y.touch.length=6:=by
  intro y hy
  rcases List.mem_append.1 hy with hy|hy
  · exact h2 y hy
  · rw [List.mem_singleton.1 hy];exact ⟨h1.1,h1.2.1⟩
 refine ⟨fun y hy=>(hall y hy).2,fun h256=>⟨?_,?_⟩⟩
 · unfold check
   rw [if_neg (by rw [List.length_append,hlen];simp;omega),if_pos (List.all_eq_true.2 fun y hy=>(hall y hy).1)]
 · refine nums_owned ?_
   unfold heldOf
   have e1:(eventsTo apply p fuel (start apply p fuel).1 l l.length++[e]).getD l.length default=e:=by
    simp [List.getD_eq_getElem?_getD,hlen]
   have e2:locksTo (eventsTo apply p fuel (start apply p fuel).1 l l.length++[e]) l.length x.go=locksTo (eventsTo apply p fuel (start apply p fuel).1 l l.length) l.length x.go:=by
    unfold locksTo
    rw [List.take_append_of_le_length (by rw [hlen];exact Nat.le_refl _)]
   rw [e1,h1.2.2,e2]
   exact run_owned hap hr hok hf hlast hg.1 (Nat.le_refl _)
end
end Go.Eng
