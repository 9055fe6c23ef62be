/- A part of the proof: walks through the program's functions, and what they compute. -/
import Derived.Test.YtedceinkpkoncaaGreatDoorPk27
import Derived.Test.YtedceinkpkoncaaGreatDoorPk21
set_option linter.unusedSimpArgs false
set_option linter.unusedVariables false
namespace Go.Eng
def acmp (a b:Access):Int:=if a.kind=b.kind then a.num-b.num else a.kind-b.kind
theorem acmp_lt {a b:Access} (ha:small a) (hb:small b):acmp a b<0↔akey a<akey b:=by
 unfold small at ha hb;unfold akey acmp;split<;>omega
def swp (R:List Access) (j:Nat):List Access:=(R.set j (acc R (j-1))).set (j-1) (acc R j)
theorem swp_len (R:List Access) (j:Nat):(swp R j).length=R.length:=by simp [swp]
theorem acc_at {R:List Access} {j:Nat} (h:j<R.length):acc R j=R[j]:=by simp [acc,List.getD_eq_getElem?_getD,h]
theorem swp_perm {R:List Access} {j:Nat} (h0:0<j) (h:j<R.length):(swp R j).Perm R:=by
 have:=List.set_set_perm h (show j-1<R.length by omega)
 unfold swp
 rw [acc_at h,acc_at (show j-1<R.length by omega)]
 exact this
theorem swp_at {R:List Access} {j k:Nat} (h0:0<j) (h:j<R.length):acc (swp R j) k=if k=j then acc R (j-1) else if k=j-1 then acc R j else acc R k:=by
 unfold swp
 unfold acc
 rw [List.getD_eq_getElem?_getD,List.getElem?_set]
 by_cases h1:j-1=k
 · subst h1
   rw [if_pos rfl,if_pos (by simp;omega),if_neg (by omega),if_pos rfl];rfl
 · rw [if_neg h1,List.getElem?_set]
   by_cases h2:j=k
   · subst h2
     rw [if_pos rfl,if_pos h,if_pos rfl];rfl
   · rw [if_neg h2,if_neg (fun q=>h2 q.symm),if_neg (fun q=>h1 q.symm),← List.getD_eq_getElem?_getD]
structure SInvO (l R:List Access) (i:Nat):Prop where
 len:R.length=l.length
 perm:R.Perm l
 ord:∀ x y,x<y→y<i→akey (acc R x)≤akey (acc R y)
structure SInvI (l R:List Access) (i j:Nat):Prop where
 len:R.length=l.length
 perm:R.Perm l
 le:j≤i
 lt:i<l.length
 ord:∀ x y,x<y→y≤i→y≠j→akey (acc R x)≤akey (acc R y)
theorem SInvO.inner {l R:List Access} {i:Nat} (h:SInvO l R i) (hi:i<l.length):SInvI l R i i :=
 ⟨h.len,h.perm,Nat.le_refl _,hi,fun x y h1 h2 h3=>h.ord x y h1 (by omega)⟩
theorem SInvI.swap {l R:List Access} {i j:Nat} (h:SInvI l R i j) (h0:0<j) (hlt:akey (acc R j)<akey (acc R (j-1))):SInvI l (swp R j) i (j-1):=by
 have hl:=h.len
 have hle:=h.le
 have hli:=h.lt
 refine ⟨by rw [swp_len];exact hl,(swp_perm h0 (by omega)).trans h.perm,by omega,hli,fun x y h1 h2 h3=>?_⟩
 rw [swp_at h0 (by omega),swp_at h0 (by omega)]
 by_cases y1:y=j
 · subst y1
   rw [if_pos rfl,if_neg (by omega)]
   by_cases x1:x=y-1
   · rw [if_pos x1];omega
   · rw [if_neg x1];exact h.ord x (y-1) (by omega) (by omega) (by omega)
 · rw [if_neg y1,if_neg h3]
   by_cases x1:x=j
   · rw [if_pos x1];exact h.ord (j-1) y (by omega) h2 (by omega)
   · rw [if_neg x1]
     by_cases x2:x=j-1
     · rw [if_pos x2];exact h.ord j y (by omega) h2 y1
     · rw [if_neg x2];exact h.ord x y h1 h2 y1
theorem SInvI.done {l R:List Access} {i j:Nat} (h:SInvI l R i j) (hd:j=0∨akey (acc R (j-1))≤akey (acc R j)):SInvO l R (i+1):=by
 refine ⟨h.len,h.perm,fun x y h1 h2=>?_⟩
 by_cases y1:y=j
 · subst y1
   rcases hd with hd|hd
   · omega
   · by_cases x1:x=y-1
     · rw [x1];exact hd
     · have:=h.ord x (y-1) (by omega) (by have:=h.le;omega) (by omega)
       omega
 · exact h.ord x y h1 (by omega) y1
theorem SInvO.sorted {l R:List Access} {i:Nat} (h:SInvO l R i) (hi:l.length≤i):R.Pairwise (fun a b=>akey a≤akey b):=by
 rw [List.pairwise_iff_getElem]
 intro x y hx hy hxy
 have:=h.ord x y hxy (by have:=h.len;omega)
 rwa [acc_at hx,acc_at hy] at this
theorem SInvO.first (l:List Access):SInvO l l 1:=⟨rfl,List.Perm.refl _,fun x y h1 h2=>by omega⟩
theorem SInvO.all {l R:List Access} {i:Nat} (h:SInvO l R i) {P:Access→Prop} (hs:∀ a∈l,P a) {k:Nat} (hk:k<l.length):P (acc R k):=by
 have hk':k<R.length:=by rw [h.len];exact hk
 exact hs _ (h.perm.mem_iff.1 (by rw [acc_at hk'];exact List.getElem_mem hk'))
theorem SInvI.all {l R:List Access} {i j:Nat} (h:SInvI l R i j) {P:Access→Prop} (hs:∀ a∈l,P a) {k:Nat} (hk:k<l.length):P (acc R k):=by
 have hk':k<R.length:=by rw [h.len];exact hk
 exact hs _ (h.perm.mem_iff.1 (by rw [acc_at hk'];exact List.getElem_mem hk'))
structure CInv (R C:List Access) (k0 k k2:Nat):Prop where
 len:C.length=R.length
 p0:0<k0
 le:k+1≤k0+k2
 p2:1≤k2
 kk:k0≤k
 hi:k0+k2≤R.length
 tk:C.take k=cpt (R.take (k0+k2))
 num:k=(cpt (R.take (k0+k2))).length
 dr:∀ x,k0+k2-1≤x→acc C x=acc R x
theorem CInv.first {R:List Access} {k0:Nat} (h0:0<k0) (hk:k0<R.length) (hc:cpt (R.take k0)=R.take k0) (he:acc R k0=acc R (k0-1)):CInv R R k0 k0 1:=by
 have e:cpt (R.take (k0+1))=R.take k0:=by rw [cpt_take h0 hk,if_pos he,hc]
 exact ⟨rfl,h0,by omega,by omega,by omega,by omega,e.symm,by rw [e,List.length_take];omega,fun x _=>rfl⟩
theorem CInv.next {R C:List Access} {k0 k k2:Nat} (h:CInv R C k0 k k2) (hk:k0+k2<R.length) (he:acc C (k0+k2)=acc C (k0+k2-1)):CInv R C k0 k (k2+1):=by
 have:=h.p0
 rw [h.dr _ (by omega),h.dr _ (by omega)] at he
 have e:cpt (R.take (k0+(k2+1)))=cpt (R.take (k0+k2)):=by
  rw [← Nat.add_assoc,cpt_take (by omega) hk,if_pos he]
 exact ⟨h.len,h.p0,by have:=h.le;omega,by omega,h.kk,by omega,by rw [e];exact h.tk,by rw [e];exact h.num,fun x hx=>h.dr x (by omega)⟩
theorem CInv.put {R C:List Access} {k0 k k2:Nat} (h:CInv R C k0 k k2) (hk:k0+k2<R.length) (he:¬acc C (k0+k2)=acc C (k0+k2-1)):CInv R (C.set k (acc C (k0+k2))) k0 (k+1) (k2+1):=by
 have h1:=h.p0
 have h2:=h.le
 have h3:=h.len
 rw [h.dr _ (by omega),h.dr _ (by omega)] at he
 rw [h.dr (k0+k2) (by omega)]
 have e:cpt (R.take (k0+(k2+1)))=cpt (R.take (k0+k2))++[acc R (k0+k2)]:=by
  rw [← Nat.add_assoc,cpt_take (by omega) hk,if_neg he]
 refine ⟨by rw [List.length_set];exact h3,h1,by omega,by omega,by have:=h.kk;omega,by omega,?_,by rw [e,List.length_append,← h.num];rfl,fun x hx=>?_⟩
 · rw [e,← h.tk,take_acc (by rw [List.length_set];omega),List.take_set_of_le (by omega)]
   congr 1
   unfold acc
   rw [List.getD_eq_getElem?_getD,List.getElem?_set_self (by omega)];rfl
 · unfold acc
   rw [List.getD_eq_getElem?_getD,List.getElem?_set_ne (by omega),← List.getD_eq_getElem?_getD]
   exact h.dr x (by omega)
def lenV (n:Nat):Int:=if n=0 then 0 else if n=1 then 1 else if n<4 then 2 else 3
end Go.Eng
namespace Go.Eng.Tryz
open Go.RowKit Go.Eng
set_option maxHeartbeats 0
set_option maxRecDepth 20000
theorem wpred {j:Nat} (h:j≤1000):(IntKind.i64.wrap ((j:Int)-1)).toNat=j-1:=by rw [wrap64_ok (by omega) (by omega)];omega
theorem wpred' {j:Nat} (h:j≤1000) (h0:0<j):IntKind.i64.wrap ((j:Int)-1)=((j-1:Nat):Int):=by rw [wrap64_ok (by omega) (by omega)];omega
theorem getD_accs {R:List Access} {k:Nat} (h:k<R.length) (d:V):(R.map Access.v).getD k d=(acc R k).v:=by
 unfold acc
 simp [List.getD_eq_getElem?_getD,h]
theorem lenV_N:∀ n:Fin 8,lenV n.1=(lenN n.1:Int):=by decide +kernel
theorem len64_ctr (n:Nat) (hn:n≤7):Ctr Go.Proofs.Tryz.prog tab 176 [240] [3] [.int n] [.int (lenV n)]:=by
 rw [lenV_N ⟨n,by omega⟩]
 exact lenN_ctr n (by omega)
def lv110:List (Nat × List Nat):=[(0,[2,3]),(1,[2,3,9]),(2,[4]),(3,[4])]
theorem pacmp_ctr (a b:Access) (ha:small a) (hb:small b):Ctr Go.Proofs.Tryz.prog tab 110 [45,45] [3] [a.v,b.v] [.int (acmp a b)]:=by
 refine Ctr.body ok Go.Proofs.Tryz.func110 rfl rfl 20 rfl [.tmp 4] rfl (by simp [fromVs]) ?_
 simp only [fromVs,fromV,args0,V.toList_list,V.toInt_int,V.toBool_bool,Nat.zero_add,Nat.reduceAdd,ty45]
 repeat' first
  | ((with_reducible refine SARA.do fun R1 hR1=>?_);(simp only [go_sem,seval,-List.reduceReplicate,Bool.cond_false_right,Bool.cond_true_left]);(repeat' with_reducible refine And.intro ?_ ?_);all_goals first|(refine hR1 _ ?_;clear hR1 R1)|omega|rfl|decide|assumption|(intro _;omega)|(simp;done)|(simp [-List.getD_eq_getElem?_getD];omega)|exact hcode _|(intro _;exact hcode _)|exact hsl _|(intro _;exact hsl _))
  | ((with_reducible refine SARA.nil ?_);refine hR _ ?_;clear hR R;try simp only [go_sem,lv110,lvOf,Nat.reduceBEq,Option.getD_some])
  | (with_reducible first|refine J1 ?_|refine J2 ?_|refine J3 ?_|refine J4 ?_|refine J5 ?_|refine J6 ?_|refine J7 ?_|refine J8 (by decide) ?_|refine J9 ?_|refine J10 ?_|refine J11 ?_|refine J12 ?_|refine J13 ?_|refine J14 ?_|refine J15 ?_|refine J16 ?_|refine J17 ?_|refine J18 ?_|refine J19 ?_)
  | ((with_reducible refine J21 ok (by kernel_rfl) lv110 ?_);intro R hR;simp only [go_sem,strip])
  | ((with_reducible refine J20 9 rfl (fun hb9=>?_) (fun hb9=>?_))
     all_goals
      try simp [-List.getD_eq_getElem?_getD] at hb9
      try (exfalso;omega))
  | ((with_reducible first|refine ctrK.normal ?_|refine ctrK.ret ?_)
     simp only [go_sem,resA,resV,backK,seval]
     have q:=hb9
     refine ⟨rfl,congrArg (fun e=>some (V.int e)) ?_⟩
     unfold small at ha hb
     unfold acmp
     rw [wrap64_ok (by omega) (by omega)]
     first|rw [if_pos hb9]|rw [if_neg hb9])
def lv146:List (Nat × List Nat):=[(0,[0]),(1,[2]),(2,[2])]
theorem len_ctr (n:Nat) (hn:n≤7):Ctr Go.Proofs.Tryz.prog tab 146 [209] [3] [.int n] [.int (lenV n)]:=by
 refine Ctr.body ok Go.Proofs.Tryz.func146 rfl rfl 8 rfl [.tmp 2] rfl (by simp [fromVs]) ?_
 simp only [fromVs,fromV,args0,V.toList_list,V.toInt_int,V.toBool_bool,Nat.zero_add,Nat.reduceAdd,ty209]
 repeat' first
  | ((with_reducible refine SARA.do fun R1 hR1=>?_);(simp only [go_sem,seval,-List.reduceReplicate,Bool.cond_false_right,Bool.cond_true_left]);(repeat' with_reducible refine And.intro ?_ ?_);all_goals first|(refine hR1 _ ?_;clear hR1 R1)|((first|refine cq (cc (len64_ctr n hn)) ?_);all_goals ((try simp only [go_sem,seval,-List.reduceReplicate,Bool.cond_false_right,Bool.cond_true_left]);(repeat' with_reducible refine And.intro ?_ ?_);all_goals first|(refine hR1 _ ?_;clear hR1 R1)|omega|rfl|decide|assumption|(intro _;omega)|(simp;done)|(simp [-List.getD_eq_getElem?_getD];omega)|exact hcode _|(intro _;exact hcode _)|exact hsl _|(intro _;exact hsl _)))|omega|rfl|decide|assumption|(intro _;omega)|(simp;done)|(simp [-List.getD_eq_getElem?_getD];omega)|exact hcode _|(intro _;exact hcode _)|exact hsl _|(intro _;exact hsl _))
  | ((with_reducible refine SARA.nil ?_);refine hR _ ?_;clear hR R;try simp only [go_sem,lv146,lvOf,Nat.reduceBEq,Option.getD_some])
  | (with_reducible first|refine J1 ?_|refine J2 ?_|refine J3 ?_|refine J4 ?_|refine J5 ?_|refine J6 ?_|refine J7 ?_|refine J8 (by decide) ?_|refine J9 ?_|refine J10 ?_|refine J11 ?_|refine J12 ?_|refine J13 ?_|refine J14 ?_|refine J15 ?_|refine J16 ?_|refine J17 ?_|refine J18 ?_|refine J19 ?_)
  | ((with_reducible refine J21 ok (by kernel_rfl) lv146 ?_);intro R hR;simp only [go_sem,strip])
  | ((with_reducible first|refine SA.condF ?_|refine SA.condT ?_))
  | ((with_reducible first|refine ctrK.normal ?_|refine ctrK.ret ?_)
     simp only [go_sem,resA,resV,backK,seval]
     exact rfl)
def lv167:List (Nat × List Nat):=[(0,[0,1,2,3,8]),(1,[0,1,2,3,8,14]),(2,[0,1,2,3,8]),(3,[0,1,2,3,8,9]),(4,[0,1,2,3,8,9,34]),(5,[0,1,2,3,8,9]),(6,[0,1,2,3,8,9])]
theorem pinsert_call (l:List Access) (hs:∀ a∈l,small a) (hn:l.length≤7) {o0 o1 o2:Obj} {tm:Tm} {out:List Tm} {nt:Nat} {xs:List Obj} {K:St→E→Prop} (h:∀ R:List Access,R.Perm l→R.Pairwise (fun a b=>akey a≤akey b)→K { tm:=tm,ob:=o0::o1::o2::.row 45 (R.map Access.v)::xs,out:=out,nt:=nt } (.tup [])):CallE Go.Proofs.Tryz.prog tab { tm:=tm,ob:=o0::o1::o2::.row 45 (l.map Access.v)::xs,out:=out,nt:=nt } 167 [.sl 3 45 0 l.length false,.int .i64 0,.int .i64 l.length,.fn 110 []] K:=by
 refine CallE.body ok Go.Proofs.Tryz.func167 rfl rfl 53 rfl [] rfl (by simp) ?_
 simp only [enter,args0,Nat.zero_add,Nat.reduceAdd]
 repeat' first
  | ((with_reducible refine SARQ.told 4 9 ?_)
     rw [getD_accs (by omega)])
  | ((with_reducible refine SARQ.told 4 13 ?_)
     rw [wpred (by omega)])
  | ((with_reducible refine SARQ.told 4 14 ?_)
     rw [getD_accs (by omega)])
  | ((with_reducible first|refine SARA.do fun R1 hR1=>?_|refine SARQ.do fun R1 hR1=>?_|refine SART.do fun R1 hR1=>?_|refine SARB.keep fun R1 hR1=>?_|refine SARB.any fun R1 hR1=>?_);(simp only [go_sem,seval,-List.reduceReplicate,Bool.cond_false_right,Bool.cond_true_left]);(repeat' with_reducible refine And.intro ?_ ?_);all_goals first|(refine hR1 _ ?_;clear hR1 R1)|(intro hgf;simp only [hgf];refine hR1 _ ?_;clear hR1 R1)|((first|refine ⟨_,_,rfl,_,CallQ.ctr ok (pacmp_ctr (acc Y j) (acc Y (j-1)) (hI.all hs (by omega)) (hI.all hs (by omega))) (by first|rfl|(simp [go_sem];done)|fail) rfl,?_⟩|refine ⟨_,_,rfl,_,fun hg=>CallQ.ctr ok (pacmp_ctr (acc Y j) (acc Y (j-1)) (hI.all hs (by omega)) (hI.all hs (by omega))) (by first|rfl|(simp [go_sem];done)|fail) rfl,?_⟩|refine cq (cc (pacmp_ctr (acc Y j) (acc Y (j-1)) (hI.all hs (by omega)) (hI.all hs (by omega)))) ?_|refine ⟨_,_,rfl,.inl ⟨_,fun hg=>CallQ.ctr ok (pacmp_ctr (acc Y j) (acc Y (j-1)) (hI.all hs (by omega)) (hI.all hs (by omega))) (by first|rfl|(simp [go_sem];done)|fail) rfl,?_⟩⟩);all_goals ((try simp only [go_sem,seval,-List.reduceReplicate,Bool.cond_false_right,Bool.cond_true_left]);(repeat' with_reducible refine And.intro ?_ ?_);all_goals first|(refine hR1 _ ?_;clear hR1 R1)|(intro hgf;simp only [hgf];refine hR1 _ ?_;clear hR1 R1)|omega|rfl|decide|assumption|(intro _;omega)|(simp;done)|(simp [-List.getD_eq_getElem?_getD];omega)|exact hcode _|(intro _;exact hcode _)|exact hsl _|(intro _;exact hsl _)|(intro q;rw [hwj (by simpa using q)];have q:=of_decide_eq_true q;omega)))|omega|rfl|decide|assumption|(intro _;omega)|(simp;done)|(simp [-List.getD_eq_getElem?_getD];omega)|exact hcode _|(intro _;exact hcode _)|exact hsl _|(intro _;exact hsl _)|(intro q;rw [hwj (by simpa using q)];have q:=of_decide_eq_true q;omega))
  | ((with_reducible refine SART.doneAt 6 ?_);refine hR _ ?_;clear hR R;try simp only [go_sem,lv167,lvOf,Nat.reduceBEq,Option.getD_some]
     exact St.le.of_eq (by simp only [St.keep,List.filterMap_cons,List.filterMap_nil,List.lookup_cons,List.lookup_nil,Option.map_some,Option.map_none,beq_self_eq_true,Nat.reduceBEq,swp,List.map_set,hwp,he1,he2]<;>first|rfl|rw [List.set_comm _ _ (show j-1≠j by omega)]))
  | ((with_reducible refine SART.done ?_);refine hR _ ?_;clear hR R;try simp only [go_sem,lv167,lvOf,Nat.reduceBEq,Option.getD_some])
  | (with_reducible first|refine SART.br ?_ ?_|exact SARL.nil|refine SARL.cons ?_ ?_)
  | ((with_reducible refine SARA.nil ?_);refine hR _ ?_;clear hR R;try simp only [go_sem,lv167,lvOf,Nat.reduceBEq,Option.getD_some])
  | ((with_reducible refine SARQ.nil ?_);refine hR _ ?_;clear hR R;try simp only [go_sem,lv167,lvOf,Nat.reduceBEq,Option.getD_some])
  | (with_reducible first|refine J1 ?_|refine J2 ?_|refine J3 ?_|refine J4 ?_|refine J5 ?_|refine J6 ?_|refine J7 ?_|refine J8 (by decide) ?_|refine J9 ?_|refine J10 ?_|refine J11 ?_|refine J12 ?_|refine J13 ?_|refine J14 ?_|refine J15 ?_|refine J16 ?_|refine J17 ?_|refine J18 ?_|refine J19 ?_)
  | ((with_reducible refine SA.at 4 ?_)
     have hwj:0<j→IntKind.i64.wrap ((j:Int)-1)=((j-1:Nat):Int):=fun h0=>wpred' (by have:=hI.lt;have:=hI.le;omega) h0
     have hwp:=wpred (j:=j) (by have:=hI.lt;have:=hI.le;omega)
     have he1:=getD_accs (R:=Y) (k:=j) (by have:=hI.lt;have:=hI.le;have:=hI.len;omega) default
     have he2:=getD_accs (R:=Y) (k:=j-1) (by have:=hI.lt;have:=hI.le;have:=hI.len;omega) default
     have hjn:=hI.lt
     have hjl:=hI.len
     have hjle:=hI.le
     (with_reducible refine SA.regionD ok mixed (by kernel_rfl) (by kernel_rfl) lv167 ?_);intro R hR;simp only [go_sem,strip])
  | ((with_reducible refine SA.at 6 ?_)
     have hjn:=hI.lt
     have hjl:=hI.len
     have hjle:=hI.le
     refine SA.regionTP ok mixed (.take 0 (.take 1 (.take 5 (.take 6 (.take 7 (.take 8 (.take 9 (.take 10 (.take 11 (.take 12 (.take 13 (.take 14 (.br 2 (.br 3 (.br 4 (.br 15 (.take 16 (.br 17 .done .nil)) .nil) (.br 15 (.take 4 (.take 16 (.br 17 .done .nil))) .nil)) (.br 15 (.take 3 (.take 4 (.take 16 (.br 17 .done .nil)))) .nil)) (.br 3 (.br 2 (.br 4 (.br 15 (.take 16 (.br 17 .done .nil)) .nil) (.br 15 (.take 4 (.take 16 (.br 17 .done .nil))) .nil)) (.br 4 (.br 2 (.br 15 (.take 16 (.br 17 .done .nil)) .nil) (.br 15 (.take 2 (.take 16 (.br 17 .done .nil))) .nil)) (.br 15 (.take 2 (.take 4 (.take 16 (.br 17 .done .nil)))) .nil))) (.br 15 (.take 2 (.take 3 (.take 4 (.take 16 (.br 17 .done .nil))))) .nil))))))))))))))) [15,17] lv167 (by kernel_rfl) ({ tm:=[(0,true,.sl 3 45 0 l.length false),(1,true,.int .i64 0),(2,true,.int .i64 l.length),(3,true,.fn 110 []),(8,true,.int .i64 i),(9,true,.int .i64 j)],ob:=o0::o1::o2::.row 45 ((swp Y j).map Access.v)::xs,out:=tm::out,nt:=53 }) (fun R hR=>?_) ?_;simp only [go_sem,strip])
  | ((with_reducible refine J21 ok (by kernel_rfl) lv167 ?_);intro R hR;simp only [go_sem,strip])
  | ((with_reducible refine SA.regionD ok mixed (by kernel_rfl) (by kernel_rfl) lv167 ?_);intro R hR;simp only [go_sem,strip])
  | ((with_reducible refine J20 14 rfl (fun hb14=>?_) (fun hb14=>?_))
     all_goals
      try simp [-List.getD_eq_getElem?_getD] at hb14
      try (exfalso;omega))
  | ((with_reducible refine J20 34 rfl (fun hb34=>?_) (fun hb34=>?_))
     all_goals
      try simp [-List.getD_eq_getElem?_getD] at hb34
      try (exfalso;omega))
  | ((with_reducible refine SA.atLoop ?_)
     refine SA.weaken (St.le.of_eq (by first|rfl|(simp;done)|fail)) (SA.loop (fun n τ=>∃ (i:Nat) (Y:List Access),n=l.length-i∧((1≤i∧(i≤l.length∨i=1))∧SInvO l Y i)∧τ={ tm:=[(0,true,.sl 3 45 0 l.length false),(1,true,.int .i64 0),(2,true,.int .i64 l.length),(3,true,.fn 110 []),(8,true,.int .i64 i)],ob:=o0::o1::o2::.row 45 (Y.map Access.v)::xs,out:=tm::out,nt:=53 }) (l.length-1) ⟨1,l,rfl,⟨by omega,SInvO.first l⟩,rfl⟩ ?_)
     rintro n τ ⟨i,Y,hn,⟨hi,hO⟩,rfl⟩)
  | ((with_reducible refine SA.atLoop ?_)
     refine SA.weaken (St.le.of_eq (by first|rfl|(simp;done)|fail)) (SA.loop (fun n τ=>∃ (j:Nat) (Y:List Access),n=j∧(SInvI l Y i j)∧τ={ tm:=[(0,true,.sl 3 45 0 l.length false),(1,true,.int .i64 0),(2,true,.int .i64 l.length),(3,true,.fn 110 []),(8,true,.int .i64 i),(9,true,.int .i64 j)],ob:=o0::o1::o2::.row 45 (Y.map Access.v)::xs,out:=tm::out,nt:=53 }) (i) ⟨i,Y,rfl,hO.inner (by omega),rfl⟩ ?_)
     rintro n τ ⟨j,Y,hn,hI,rfl⟩)
  | ((with_reducible refine loopK.round ?_)
     first
      | (have hl9:i<l.length:=by omega
         have hw:=wrap_succ (n:=i) (m:=256) (by omega) (by decide)
         have hle:=hI.done (by rcases Nat.eq_zero_or_pos j with h0|h0;exact .inl h0;right;have h1:=hb34 (by omega);have h2:=acmp_lt (hI.all hs (k:=j) (by omega)) (hI.all hs (k:=j-1) (by omega));omega)
         refine loopK.normal (l.length-(i+1)) _ (by omega) (St.le.of_eq (by simp only [hw])) ⟨i+1,Y,rfl,⟨by omega,hle⟩,rfl⟩)
      | (have q:_∧_:=hb34
         have h0:0<j:=by omega
         have h2:=acmp_lt (hI.all hs (k:=j) (by omega)) (hI.all hs (k:=j-1) (by omega))
         refine loopK.normal (j-1) _ (by omega) (St.le.of_eq (by simp only [hwj h0])) ⟨j-1,swp Y j,rfl,hI.swap h0 (h2.1 q.2),rfl⟩))
  | ((with_reducible first|refine bodyK.normal ?_|refine bodyK.ret ?_)
     simp only [go_sem,resA,resV,backK,seval]
     exact h Y hO.perm (hO.sorted (by omega)))
def lv145:List (Nat × List Nat):=[(0,[0,1,2,3,4,10]),(1,[0,1,2,3,4,10,11]),(2,[0,1,2,3,4,10,11,12]),(3,[0,1,2,3,4,10,11,12,25]),(4,[]),(5,[0,1,2,3,4,10,11,12,32]),(6,[]),(7,[0,1,2,3,4,10,11,12,39]),(8,[0,1,2,3,4,10,11,12]),(9,[0,1,2,3,4,10,11,12]),(10,[0,1,2,3,4,10,11,12,13,14]),(11,[0,1,2,3,4,10,11,12,13,14,56]),(12,[0,1,2,3,4,10,11,12,13]),(13,[0,1,2,3,4,10,11,12,13]),(14,[0,1,2,3,4,10,11,12,13,14]),(15,[0,1,2,3,4,10,11,12,13,75]),(16,[0,1,2,3,4,10,11,12,13,80]),(17,[0,1,2,3,4,10,11,12,13,97]),(18,[0,2,3,4,10,11,15]),(19,[0,1,2,3,4,10,11]),(20,[0,1,2,3,4,12,16,17]),(21,[0,1,2,3,4,11,12,16]),(22,[0,1,2,3,4,11,12,16,18,19]),(23,[0,1,2,3,4,11,16,18,19,20]),(24,[0,1,2,3,4,11,16,18,19,20,125]),(25,[0,1,2,3,4,10,11,16]),(26,[0,2,3,4,10,11,16]),(27,[0,1,2,3,4,10,11]),(28,[0,1,2,3,4,10,11,16]),(29,[0,1,3,4,10,11,16]),(30,[0,1,2,3,4,10,11])]
theorem ppdq_call (l:List Access) (hs:∀ a∈l,small a) (hl7:l.length≤7) (lim:Int) {o0 o1 o2:Obj} {tm:Tm} {out:List Tm} {nt:Nat} {xs:List Obj} {K:St→E→Prop} (h:∀ R:List Access,R.Perm l→R.Pairwise (fun a b=>akey a≤akey b)→K { tm:=tm,ob:=o0::o1::o2::.row 45 (R.map Access.v)::xs,out:=out,nt:=nt } (.tup [])):CallE Go.Proofs.Tryz.prog tab { tm:=tm,ob:=o0::o1::o2::.row 45 (l.map Access.v)::xs,out:=out,nt:=nt } 145 [.sl 3 45 0 l.length false,.int .i64 0,.int .i64 l.length,.int .i64 lim,.fn 110 []] K:=by
 have hw0:IntKind.i64.wrap ((l.length:Int)-0)=l.length:=by rw [wrap64_ok (by omega) (by omega)];omega
 refine CallE.body ok Go.Proofs.Tryz.func145 rfl rfl 148 rfl [] rfl (by simp) ?_
 simp only [enter,args0,Nat.zero_add,Nat.reduceAdd]
 repeat' first
  | ((with_reducible first|refine SARA.do fun R1 hR1=>?_|refine SART.do fun R1 hR1=>?_|refine SARB.keep fun R1 hR1=>?_|refine SARB.any fun R1 hR1=>?_);(simp only [go_sem,seval,-List.reduceReplicate,Bool.cond_false_right,Bool.cond_true_left,hw0]);(repeat' with_reducible refine And.intro ?_ ?_);all_goals first|(refine hR1 _ ?_;clear hR1 R1)|((first|refine ⟨_,_,rfl,.inr (pinsert_call l hs hl7 fun Y hY1 hY2=>?_)⟩);all_goals ((try simp only [go_sem,seval,-List.reduceReplicate,Bool.cond_false_right,Bool.cond_true_left,hw0]);(repeat' with_reducible refine And.intro ?_ ?_);all_goals first|(refine hR1 _ ?_;clear hR1 R1)|omega|rfl|decide|assumption|(intro _;omega)|(simp;done)|(simp [-List.getD_eq_getElem?_getD];omega)|exact hcode _|(intro _;exact hcode _)|exact hsl _|(intro _;exact hsl _)))|omega|rfl|decide|assumption|(intro _;omega)|(simp;done)|(simp [-List.getD_eq_getElem?_getD];omega)|exact hcode _|(intro _;exact hcode _)|exact hsl _|(intro _;exact hsl _))
  | ((with_reducible refine SART.done ?_);refine hR _ ?_;clear hR R;try simp only [go_sem,lv145,lvOf,Nat.reduceBEq,Option.getD_some])
  | (with_reducible first|refine SART.br ?_ ?_|exact SARL.nil|refine SARL.cons ?_ ?_)
  | ((with_reducible refine SARA.nil ?_);refine hR _ ?_;clear hR R;try simp only [go_sem,lv145,lvOf,Nat.reduceBEq,Option.getD_some])
  | (with_reducible first|refine J1 ?_|refine J2 ?_|refine J3 ?_|refine J4 ?_|refine J5 ?_|refine J6 ?_|refine J7 ?_|refine J8 (by decide) ?_|refine J9 ?_|refine J10 ?_|refine J11 ?_|refine J12 ?_|refine J13 ?_|refine J14 ?_|refine J15 ?_|refine J16 ?_|refine J17 ?_|refine J18 ?_|refine J19 ?_)
  | ((with_reducible refine SA.at 17 ?_)
     refine SA.regionT ok mixed (.take 0 (.take 1 (.take 2 (.take 3 (.take 4 (.take 5 (.take 6 (.take 7 (.take 8 (.take 9 (.take 10 (.take 11 (.take 12 (.br 13 (.take 14 (.take 15 (.take 16 .done))) .nil)))))))))))))) [] lv145 (by kernel_rfl) (fun R hR=>?_);simp only [go_sem,strip])
  | ((with_reducible refine J21 ok (by kernel_rfl) lv145 ?_);intro R hR;simp only [go_sem,strip])
  | ((with_reducible refine J20 25 rfl (fun hb25=>?_) (fun hb25=>?_))
     all_goals
      try simp [-List.getD_eq_getElem?_getD] at hb25
      try (exfalso;omega))
  | ((with_reducible refine SA.cond rfl ?_ ?_)
     all_goals
      intro hb
      try simp [-List.getD_eq_getElem?_getD] at hb
      try (exfalso;omega))
  | ((with_reducible refine SA.atLoop ?_)
     refine SA.weaken (St.le.of_eq (by first|rfl|(simp;done)|fail)) (SA.loop (fun n τ=>∃ (z:Nat),n=z∧(z=0)∧τ={ tm:=[(0,true,.sl 3 45 0 l.length false),(1,true,.int .i64 0),(2,true,.int .i64 l.length),(3,true,.int .i64 lim),(4,true,.fn 110 []),(10,true,.bool true),(11,true,.bool true)],ob:=o0::o1::o2::.row 45 (l.map Access.v)::xs,out:=tm::out,nt:=148 }) (0) ⟨0,rfl,rfl,rfl⟩ ?_)
     rintro n τ ⟨z,hn,hz,rfl⟩)
  | ((with_reducible first|refine bodyK.normal ?_|refine bodyK.ret ?_)
     simp only [go_sem,resA,resV,backK,seval]
     exact h Y hY1 hY2)
def lv109:List (Nat × List Nat):=[(0,[0,1,4]),(1,[])]
theorem psort_call (l:List Access) (hs:∀ a∈l,small a) (hn:l.length≤7) {o0 o1 o2:Obj} {tm:Tm} {out:List Tm} {nt:Nat} {xs:List Obj} {K:St→E→Prop} (h:∀ R:List Access,R.Perm l→R.Pairwise (fun a b=>akey a≤akey b)→K { tm:=tm,ob:=o0::o1::o2::.row 45 (R.map Access.v)::xs,out:=out,nt:=nt } (.tup [])):CallE Go.Proofs.Tryz.prog tab { tm:=tm,ob:=o0::o1::o2::.row 45 (l.map Access.v)::xs,out:=out,nt:=nt } 109 [.sl 3 45 0 l.length false,.fn 110 []] K:=by
 have hmx:256≤maxLen:=by decide
 have hu64:IntKind.u64.wrap (l.length:Int)=l.length:=by simp [IntKind.wrap,IntKind.signed,IntKind.bits];omega
 refine CallE.body ok Go.Proofs.Tryz.func109 rfl rfl 14 rfl [] rfl (by simp) ?_
 simp only [enter,args0,Nat.zero_add,Nat.reduceAdd]
 repeat' first
  | ((with_reducible refine SARA.do fun R1 hR1=>?_);(simp only [go_sem,seval,-List.reduceReplicate,Bool.cond_false_right,Bool.cond_true_left,hu64]);(repeat' with_reducible refine And.intro ?_ ?_);all_goals first|(refine hR1 _ ?_;clear hR1 R1)|((first|refine cq (cc (len_ctr l.length (by omega))) ?_|refine ⟨_,_,rfl,.inr (ppdq_call l hs hn _ fun Y hY1 hY2=>?_)⟩);all_goals ((try simp only [go_sem,seval,-List.reduceReplicate,Bool.cond_false_right,Bool.cond_true_left,hu64]);(repeat' with_reducible refine And.intro ?_ ?_);all_goals first|(refine hR1 _ ?_;clear hR1 R1)|omega|rfl|decide|assumption|(intro _;omega)|(simp;done)|(simp [-List.getD_eq_getElem?_getD];omega)|exact hcode _|(intro _;exact hcode _)|exact hsl _|(intro _;exact hsl _)))|omega|rfl|decide|assumption|(intro _;omega)|(simp;done)|(simp [-List.getD_eq_getElem?_getD];omega)|exact hcode _|(intro _;exact hcode _)|exact hsl _|(intro _;exact hsl _))
  | ((with_reducible refine SARA.nil ?_);refine hR _ ?_;clear hR R;try simp only [go_sem,lv109,lvOf,Nat.reduceBEq,Option.getD_some])
  | (with_reducible first|refine J1 ?_|refine J2 ?_|refine J3 ?_|refine J4 ?_|refine J5 ?_|refine J6 ?_|refine J7 ?_|refine J8 (by decide) ?_|refine J9 ?_|refine J10 ?_|refine J11 ?_|refine J12 ?_|refine J13 ?_|refine J14 ?_|refine J15 ?_|refine J16 ?_|refine J17 ?_|refine J18 ?_|refine J19 ?_)
  | ((with_reducible refine J21 ok (by kernel_rfl) lv109 ?_);intro R hR;simp only [go_sem,strip])
  | ((with_reducible first|refine bodyK.normal ?_|refine bodyK.ret ?_)
     simp only [go_sem,resA,resV,backK,seval]
     exact h Y hY1 hY2)
end Go.Eng.Tryz
namespace Go.Eng.Tryz
open Go.RowKit Go.Eng
set_option maxHeartbeats 0
set_option maxRecDepth 20000
theorem cpt_short {l:List Access} (h:l.length<2):cpt l=l:=by
 match l,h with
 | [],_=>rfl
 | [_],_=>rfl
 | a::b::l,h=>simp at h;omega
theorem cpt_grow {l:List Access} {k:Nat} (h0:0<k) (hk:k<l.length) (hc:cpt (l.take k)=l.take k) (he:¬acc l k=acc l (k-1)):cpt (l.take (k+1))=l.take (k+1):=by
 rw [cpt_take h0 hk,if_neg he,hc,← take_acc hk]
theorem accs_beq (a b:Access):a.v.beq b.v=decide (a=b):=by
 obtain ⟨k,n,w⟩:=a
 obtain ⟨k',n',w'⟩:=b
 by_cases h1:k=k'<;>by_cases h2:n=n'<;>cases w<;>cases w'<;>simp [Access.v,V.beq,V.beqL,h1,h2]
theorem cpt_first (l:List Access):cpt (l.take 1)=l.take 1:=cpt_short (by rw [List.length_take];omega)
def lv111:List (Nat × List Nat):=[(0,[0]),(1,[0,8]),(2,[2]),(3,[0,3]),(4,[0,3,13]),(5,[0,3]),(6,[0,3,25]),(7,[0,3,4]),(8,[0,3,4,5]),(9,[0,3,4,5,32]),(10,[0,3,4,5]),(11,[0,3,4,5,44]),(12,[0,3,4,5]),(13,[0,3,4,5]),(14,[0,3]),(15,[2]),(16,[2])]
theorem pcompact_call (l:List Access) (hl7:l.length≤7) {o0 o1 o2:Obj} {tm:Tm} {out:List Tm} {nt:Nat} {xs:List Obj} {K:St→E→Prop} (h:∀ Y:List V,(cpt l).length≤Y.length→Y.take (cpt l).length=(cpt l).map Access.v→K { tm:=tm,ob:=o0::o1::o2::.row 45 (Y)::xs,out:=out,nt:=nt } (.sl 3 45 0 (cpt l).length false)):CallE Go.Proofs.Tryz.prog tab { tm:=tm,ob:=o0::o1::o2::.row 45 (l.map Access.v)::xs,out:=out,nt:=nt } 111 [.sl 3 45 0 l.length false] K:=by
 have hmx:256≤maxLen:=by decide
 refine CallE.body ok Go.Proofs.Tryz.func111 rfl rfl 61 rfl [.tmp 2] rfl (by simp) ?_
 simp only [enter,args0,Nat.zero_add,Nat.reduceAdd]
 repeat' first
  | ((with_reducible refine SARQ.told 6 4 ?_)
     rw [getD_accs (by omega)])
  | ((with_reducible refine SARQ.told 6 9 ?_)
     rw [hwp])
  | ((with_reducible refine SARQ.told 6 10 ?_)
     rw [getD_accs (by omega)])
  | ((with_reducible refine SARQ.told 11 4 ?_)
     rw [getD_accs (by omega)])
  | ((with_reducible refine SARQ.told 11 8 ?_)
     rw [hwp2])
  | ((with_reducible refine SARQ.told 11 9 ?_)
     rw [getD_accs (by omega)])
  | ((with_reducible refine SARA.told 12 6 ?_)
     rw [getD_accs (by omega)])
  | ((with_reducible first|refine SARA.do fun R1 hR1=>?_|refine SARQ.do fun R1 hR1=>?_);(simp only [go_sem,seval,-List.reduceReplicate,Bool.cond_false_right,Bool.cond_true_left,accs_beq,clearA,List.getElem?_cons_succ,List.getElem?_cons_zero,List.set_cons_succ,List.set_cons_zero]);(repeat' with_reducible refine And.intro ?_ ?_);all_goals first|(refine hR1 _ ?_;clear hR1 R1)|omega|rfl|decide|assumption|(intro _;omega)|(simp;done)|(simp [-List.getD_eq_getElem?_getD];omega)|exact hcode _|(intro _;exact hcode _)|exact hsl _|(intro _;exact hsl _)|(rw [hwk];omega)|(rw [hwk2];omega)|(intro _;rw [hwk];omega)|(intro _;rw [hwk2];omega))
  | ((with_reducible refine SARA.nil ?_);refine hR _ ?_;clear hR R;try simp only [go_sem,lv111,lvOf,Nat.reduceBEq,Option.getD_some])
  | ((with_reducible refine SARQ.nil ?_);refine hR _ ?_;clear hR R;try simp only [go_sem,lv111,lvOf,Nat.reduceBEq,Option.getD_some])
  | (with_reducible first|refine J1 ?_|refine J2 ?_|refine J3 ?_|refine J4 ?_|refine J5 ?_|refine J6 ?_|refine J7 ?_|refine J8 (by decide) ?_|refine J9 ?_|refine J10 ?_|refine J11 ?_|refine J12 ?_|refine J13 ?_|refine J14 ?_|refine J15 ?_|refine J16 ?_|refine J17 ?_|refine J18 ?_|refine J19 ?_)
  | ((with_reducible refine SA.at 6 ?_)
     have hwk:=wpred' (j:=k0) (by omega) (by omega)
     have hwp:=wpred (j:=k0) (by omega)
     (with_reducible refine SA.regionD ok mixed (by kernel_rfl) (by kernel_rfl) lv111 ?_);intro R hR;simp only [go_sem,strip])
  | ((with_reducible refine SA.at 11 ?_)
     have hC1:=hC.len
     have hC2:=hC.p2
     have hC3:=hC.kk
     have hwk2:=wpred' (j:=k2) (by omega) (by omega)
     have hwp2:=wpred (j:=k2) (by omega)
     (with_reducible refine SA.regionD ok mixed (by kernel_rfl) (by kernel_rfl) lv111 ?_);intro R hR;simp only [go_sem,strip])
  | ((with_reducible refine SA.at 14 ?_)
     have hC1:=hC.len
     have hC2:=hC.p2
     have hC3:=hC.kk
     have hC4:=hC.le
     have hC5:=hC.hi
     (with_reducible refine J21 ok (by kernel_rfl) lv111 ?_);intro R hR;simp only [go_sem,strip])
  | ((with_reducible refine SA.at 12 ?_)
     have hC4:=hC.le
     have hC5:=hC.hi
     (with_reducible refine J21 ok (by kernel_rfl) lv111 ?_);intro R hR;simp only [go_sem,strip])
  | ((with_reducible refine J21 ok (by kernel_rfl) lv111 ?_);intro R hR;simp only [go_sem,strip])
  | ((with_reducible refine SA.regionD ok mixed (by kernel_rfl) (by kernel_rfl) lv111 ?_);intro R hR;simp only [go_sem,strip])
  | ((with_reducible refine J20 8 rfl (fun hb8=>?_) (fun hb8=>?_))
     all_goals
      try simp [-List.getD_eq_getElem?_getD,accs_beq] at hb8
      try (exfalso;omega))
  | ((with_reducible refine J20 13 rfl (fun hb13=>?_) (fun hb13=>?_))
     all_goals
      try simp [-List.getD_eq_getElem?_getD,accs_beq] at hb13
      try (exfalso;omega))
  | ((with_reducible refine J20 25 rfl (fun hb25=>?_) (fun hb25=>?_))
     all_goals
      try simp [-List.getD_eq_getElem?_getD,accs_beq] at hb25
      try (exfalso;omega))
  | ((with_reducible refine J20 32 rfl (fun hb32=>?_) (fun hb32=>?_))
     all_goals
      try simp [-List.getD_eq_getElem?_getD,accs_beq] at hb32
      try (exfalso;omega))
  | ((with_reducible refine J20 44 rfl (fun hb44=>?_) (fun hb44=>?_))
     all_goals
      try simp [-List.getD_eq_getElem?_getD,accs_beq] at hb44
      try (exfalso;omega))
  | ((with_reducible refine SA.atLoop ?_)
     refine SA.weaken (St.le.of_eq (by first|rfl|(simp;done)|fail)) (SA.loop (fun n τ=>∃ (k0:Nat),n=l.length-k0∧((1≤k0∧k0≤l.length)∧cpt (l.take k0)=l.take k0)∧τ={ tm:=[(0,true,.sl 3 45 0 l.length false),(3,true,.int .i64 k0)],ob:=o0::o1::o2::.row 45 (l.map Access.v)::xs,out:=tm::out,nt:=61 }) (l.length-1) ⟨1,rfl,⟨by omega,cpt_first l⟩,rfl⟩ ?_)
     rintro n τ ⟨k0,hn,⟨hk,hc⟩,rfl⟩)
  | ((with_reducible refine SA.atLoop ?_)
     refine SA.weaken (St.le.of_eq (by first|rfl|(simp;done)|fail)) (SA.loop (fun n τ=>∃ (k:Nat) (k2:Nat) (C:List Access),n=l.length-k0-k2∧(CInv l C k0 k k2)∧τ={ tm:=[(0,true,.sl 3 45 0 l.length false),(3,true,.int .i64 k),(4,true,.sl 3 45 k0 (l.length-k0) false),(5,true,.int .i64 k2)],ob:=o0::o1::o2::.row 45 (C.map Access.v)::xs,out:=tm::out,nt:=61 }) (l.length-k0-1) ⟨k0,1,l,rfl,CInv.first (by omega) (by omega) hc hb25,rfl⟩ ?_)
     rintro n τ ⟨k,k2,C,hn,hC,rfl⟩)
  | ((with_reducible refine loopK.round ?_)
     first
      | (have q:¬acc l k0=acc l (k0-1):=hb25
         have hw:=wrap_succ (n:=k0) (m:=256) (by omega) (by decide)
         refine loopK.normal (l.length-(k0+1)) _ (by omega) (St.le.of_eq (by simp only [hw])) ⟨k0+1,rfl,⟨by omega,cpt_grow (by omega) (by omega) hc q⟩,rfl⟩)
      | (have hlt:k0+k2<l.length:=by omega
         have q:¬acc C (k0+k2)=acc C (k0+(k2-1)):=hb44
         have hw:=wrap_succ (n:=k) (m:=256) (by omega) (by decide)
         have hw2:=wrap_succ (n:=k2) (m:=256) (by omega) (by decide)
         refine loopK.normal (l.length-k0-(k2+1)) _ (by omega) (St.le.of_eq (by simp only [hw,hw2,List.map_set])) ⟨k+1,k2+1,C.set k (acc C (k0+k2)),rfl,hC.put hlt (by rw [show k0+k2-1=k0+(k2-1) by omega];exact q),rfl⟩)
      | (have hlt:k0+k2<l.length:=by omega
         have q:acc C (k0+k2)=acc C (k0+(k2-1)):=hb44
         have hw2:=wrap_succ (n:=k2) (m:=256) (by omega) (by decide)
         refine loopK.normal (l.length-k0-(k2+1)) _ (by omega) (St.le.of_eq (by simp only [hw2])) ⟨k,k2+1,C,rfl,hC.next hlt (by rw [show k0+k2-1=k0+(k2-1) by omega];exact q),rfl⟩))
  | ((with_reducible first|refine bodyK.normal ?_|refine bodyK.ret ?_)
     simp only [go_sem,resA,resV,backK,seval]
     first
      | (have q:=hb8
         have e:cpt l=l:=cpt_short (by omega)
         have q:=h (l.map Access.v) (by rw [e];simp) (by rw [e];simp [List.take_of_length_le])
         rw [e] at q
         exact q)
      | (have q:l.length≤k0:=by omega
         rw [List.take_of_length_le (by omega)] at hc
         have q:=h (l.map Access.v) (by rw [hc];simp) (by rw [hc];simp [List.take_of_length_le])
         rw [hc] at q
         exact q)
      | (have e0:k0+k2=l.length:=by omega
         have e1:=hC.num
         have e2:=hC.tk
         rw [e0,List.take_length] at e1 e2
         have q:=h (List.take k (List.map Access.v C)++List.replicate (l.length-k) (tab.zero 45)++List.drop (k+(l.length-k)) (List.map Access.v C)) (by rw [← e1];simp;omega) (by rw [← e1,List.append_assoc,List.take_append_of_le_length (by simp;omega),List.take_take,Nat.min_self,← List.map_take,e2])
         rw [← e1] at q
         exact q))
end Go.Eng.Tryz
namespace Go.Eng
def tl0:List Access:=[]
def app1 (L:List Access) (k n:Int) (w:Bool):List Access:=L++[⟨k,n,w⟩]
def chs (L:List Access) (q:Sel) (i:Nat):List Access:=L++(q.cases.take i).map fun c=>⟨3,c.chan,true⟩
theorem app1_len (L:List Access) (k n:Int) (w:Bool):(app1 L k n w).length=L.length+1:=by simp [app1]
theorem tl0_len:tl0.length=0:=rfl
theorem chs_len (L:List Access) (q:Sel) (i:Nat) (h:i≤q.cases.length):(chs L q i).length=L.length+i:=by simp [chs,Nat.min_eq_left h]
theorem chs_succ (L:List Access) (q:Sel) {i:Nat} (h:i<q.cases.length):app1 (chs L q i) 3 (q.cases.getD i default).chan true=chs L q (i+1):=by
 unfold app1 chs
 rw [List.take_succ_eq_append_getElem h,List.map_append,List.append_assoc]
 simp [List.getD_eq_getElem?_getD,h]
theorem chs_zero (L:List Access) (q:Sel):chs L q 0=L:=by simp [chs]
def Smalls (l:List Access):Prop:=∀ a∈l,small a
theorem Smalls.nil:Smalls tl0:=by intro a h;cases h
theorem Smalls.app {L:List Access} (h:Smalls L) {k n:Int} (w:Bool) (hk:0≤k∧k≤100) (hn:0≤n∧n<1000):Smalls (app1 L k n w):=by
 intro a ha
 rcases List.mem_append.1 ha with ha|ha
 · exact h a ha
 · rw [List.mem_singleton.1 ha];exact ⟨hk,hn⟩
theorem Smalls.chs {L:List Access} (h:Smalls L) {q:Sel} (hq:∀ i,i<q.cases.length→0≤(q.cases.getD i default).chan∧(q.cases.getD i default).chan<4) (i:Nat):Smalls (chs L q i):=by
 intro a ha
 rcases List.mem_append.1 ha with ha|ha
 · exact h a ha
 · obtain ⟨c,hc,rfl⟩:=List.mem_map.1 ha
   obtain ⟨j,hj,rfl⟩:=List.mem_iff_getElem.1 (List.mem_of_mem_take hc)
   have:=hq j hj
   rw [List.getD_eq_getElem?_getD,List.getElem?_eq_getElem hj] at this
   simp only [Option.getD_some] at this
   refine ⟨⟨by simp,by simp⟩,this.1,?_⟩
   show q.cases[j].chan<1000
   omega
theorem SameKey.one (g:Int):SameKey (app1 tl0 5 g true):=by
 intro a ha b hb _ _
 simp [app1,tl0] at ha hb
 rw [ha,hb]
theorem SameKey.app {L:List Access} (h:SameKey L) {k n:Int} {w:Bool} (hn:∀ a∈L,a.kind=k→a.num=n→a.write=w):SameKey (app1 L k n w):=by
 intro a ha b hb h1 h2
 rcases List.mem_append.1 ha with ha|ha
 · rcases List.mem_append.1 hb with hb|hb
   · exact h a ha b hb h1 h2
   · have hb:=List.mem_singleton.1 hb
     subst hb
     have:=hn a ha h1 h2
     obtain ⟨x,y,z⟩:=a
     simp only at h1 h2 this
     rw [h1,h2,this]
 · have ha:=List.mem_singleton.1 ha
   subst ha
   rcases List.mem_append.1 hb with hb|hb
   · have:=hn b hb h1.symm h2.symm
     obtain ⟨x,y,z⟩:=b
     simp only at h1 h2 this
     rw [h1,h2,this]
   · rw [List.mem_singleton.1 hb]
theorem app1_kind {g:Int} {a:Access} (h:a∈app1 tl0 5 g true):a=⟨5,g,true⟩:=by simpa [app1,tl0] using h
theorem SameKey.two {g k n:Int} {w:Bool} (h:k≠5):SameKey (app1 (app1 tl0 5 g true) k n w):=(SameKey.one g).app fun a ha h1 _=>by rw [app1_kind ha] at h1;exact absurd h1.symm h
theorem SameKey.three {g k n m:Int} {w u:Bool} (h:k≠5) (hm:m≠g∨u=true):SameKey (app1 (app1 (app1 tl0 5 g true) k n w) 5 m u):=(SameKey.two h).app fun a ha h1 h2=>by
 rcases List.mem_append.1 ha with ha|ha
 · have ha:=app1_kind ha
   subst ha
   rcases hm with hm|hm
   · exact absurd h2.symm hm
   · rw [hm]
 · rw [List.mem_singleton.1 ha] at h1;exact absurd h1 h
theorem SameKey.chs {g:Int} {q:Sel} (i:Nat):SameKey (chs (app1 tl0 5 g true) q i):=by
 intro a ha b hb h1 h2
 have three:∀ c,c∈(q.cases.take i).map (fun c=>(⟨3,c.chan,true⟩:Access))→c.kind=3∧c.write=true:=by
  intro c hc
  obtain ⟨x,_,rfl⟩:=List.mem_map.1 hc
  exact ⟨rfl,rfl⟩
 rcases List.mem_append.1 ha with ha|ha<;>rcases List.mem_append.1 hb with hb|hb
 · rw [app1_kind ha,app1_kind hb]
 · rw [app1_kind ha] at h1;rw [(three b hb).1] at h1;simp at h1
 · rw [app1_kind hb] at h1;rw [(three a ha).1] at h1;simp at h1
 · have e1:=three a ha
   have e2:=three b hb
   obtain ⟨x,y,z⟩:=a
   obtain ⟨x',y',z'⟩:=b
   simp only at h1 h2 e1 e2
   rw [h1,h2,e1.2,e2.2]
theorem addAll_app (L:List Access) (k n:Int) (w:Bool):addAll (app1 L k n w) []=add k n w (addAll L []):=by simp [addAll,app1]
theorem addAll_one (g:Int):addAll (app1 tl0 5 g true) []=[⟨5,g,true⟩]:=rfl
theorem addAll_chs (L:List Access) (q:Sel) (i:Nat):addAll (chs L q i) []=addChans q i (addAll L []):=by
 unfold addAll chs addChans
 rw [List.foldl_append,List.foldl_map]
section
variable {p:Prg} {s:Stt} {g:Int}
theorem t50 (h:opAt p s g=50):addAll (app1 (app1 tl0 5 g true) 1 (instrAt p s g).b false) []=touch p s g:=by rw [addAll_app,addAll_one];simp [touch,h]
theorem t54 (h:opAt p s g=54):addAll (app1 (app1 tl0 5 g true) 1 (instrAt p s g).a false) []=touch p s g:=by rw [addAll_app,addAll_one];simp [touch,h]
theorem t51 (h:opAt p s g=51):addAll (app1 (app1 tl0 5 g true) 1 (instrAt p s g).a true) []=touch p s g:=by rw [addAll_app,addAll_one];simp [touch,h]
theorem t52 (h:opAt p s g=52∨opAt p s g=53):addAll (app1 (app1 tl0 5 g true) 1 (instrAt p s g).b true) []=touch p s g:=by rw [addAll_app,addAll_one];rcases h with h|h<;>simp [touch,h]
theorem t55 (h:opAt p s g=55∨opAt p s g=56):addAll (app1 (app1 tl0 5 g true) 2 (instrAt p s g).a true) []=touch p s g:=by rw [addAll_app,addAll_one];rcases h with h|h<;>simp [touch,h]
theorem t57 (h:opAt p s g=57):addAll (app1 (app1 tl0 5 g true) 2 (instrAt p s g).b true) []=touch p s g:=by rw [addAll_app,addAll_one];simp [touch,h]
theorem t58 (h:opAt p s g=58∨opAt p s g=60∨opAt p s g=66):addAll (app1 (app1 tl0 5 g true) 3 (instrAt p s g).a true) []=touch p s g:=by rw [addAll_app,addAll_one];rcases h with h|h|h<;>simp [touch,h]
theorem t59 (h:opAt p s g=59):addAll (app1 (app1 tl0 5 g true) 3 (instrAt p s g).b true) []=touch p s g:=by rw [addAll_app,addAll_one];simp [touch,h]
theorem t61 (h:opAt p s g=61):addAll (chs (app1 tl0 5 g true) (selAt p s g) (selAt p s g).cases.length) []=touch p s g:=by rw [addAll_chs,addAll_one];simp [touch,h]
theorem t62 (h:opAt p s g=62) (hc:s.count<6):addAll (app1 (app1 (app1 tl0 5 g true) 4 0 true) 5 s.count true) []=touch p s g:=by rw [addAll_app,addAll_app,addAll_one];simp [touch,h,hc]
theorem t62' (h:opAt p s g=62) (hc:¬s.count<6):addAll (app1 (app1 tl0 5 g true) 4 0 true) []=touch p s g:=by rw [addAll_app,addAll_one];simp [touch,h,hc]
theorem t63 (h:opAt p s g=63) (hc:thereB s g ((s.gor g).reg (instrAt p s g).a)=true):addAll (app1 (app1 (app1 tl0 5 g true) 4 0 false) 5 ((s.gor g).reg (instrAt p s g).a) false) []=touch p s g:=by
 unfold thereB at hc
 simp at hc
 rw [addAll_app,addAll_app,addAll_one];simp [touch,h,hc]
theorem t63' (h:opAt p s g=63) (hc:thereB s g ((s.gor g).reg (instrAt p s g).a)=false):addAll (app1 (app1 tl0 5 g true) 4 0 false) []=touch p s g:=by
 unfold thereB at hc
 simp at hc
 rw [addAll_app,addAll_one]
 have e:touch p s g=if 0≤(s.gor g).reg (instrAt p s g).a∧(s.gor g).reg (instrAt p s g).a<s.count then add 5 ((s.gor g).reg (instrAt p s g).a) false (add 4 0 false [⟨5,g,true⟩]) else add 4 0 false [⟨5,g,true⟩]:=by simp [touch,h]
 rw [e]
 split
 · rename_i h1
   rw [hc h1.1 h1.2]
   simp [add]
 · rfl
theorem t65 (h:opAt p s g=65):addAll (app1 (app1 tl0 5 g true) 6 0 true) []=touch p s g:=by rw [addAll_app,addAll_one];simp [touch,h]
theorem t_else (h1:¬opAt p s g=50) (h2:¬opAt p s g=54) (h3:¬opAt p s g=51) (h4:¬opAt p s g=52) (h5:¬opAt p s g=53) (h6:¬opAt p s g=55) (h7:¬opAt p s g=56) (h8:¬opAt p s g=57) (h9:¬opAt p s g=58) (h10:¬opAt p s g=60) (h11:¬opAt p s g=66) (h12:¬opAt p s g=59) (h13:¬opAt p s g=61) (h14:¬opAt p s g=62) (h15:¬opAt p s g=63) (h16:¬opAt p s g=65):addAll (app1 tl0 5 g true) []=touch p s g:=by
 rw [addAll_one];simp [touch,h1,h2,h3,h4,h5,h6,h7,h8,h9,h10,h11,h12,h13,h14,h15,h16]
end
end Go.Eng
