/- A part of the proof: walks through the program's functions, and what they compute. -/
import Derived.Test.YtmonhjagbhpbeaaGreatDoorPk23
import Derived.Test.YtmonhjagbhpbeaaGreatDoorPk44
import Derived.Test.YtmonhjagbhpbeaaGreatDoorPk53
set_option linter.unusedSimpArgs false
set_option linter.unusedVariables false
namespace Go.Eng.Tryz
open Go.RowKit Go.Eng
set_option maxHeartbeats 0
set_option maxRecDepth 20000
def QFV:List (List Nat):=[[2,3,4],[2,3,4,7],[2,3,4,7,9],[2,3,4,7,9,25],[2,3,4,7,9,10],[2,3,4,7,9,10,34],[2,3,4,7,9,12,13],[2,3,4,7,9,12,44],[2,3,4,7,9,12],[2,3,4,7,9],[6]]
theorem QCL (p:Prg) (b:Bud) (hp:p.Fit) (hr:QN p=true) (hf:0≤b.fuel∧b.fuel≤4096) (hst:0≤b.steps∧b.steps≤256) {f:FuncId}
 (hcall:∀ (k:Nat) (c:Bool) (tm:Tm) (out:List Tm) (nt:Nat) (L:List Obj) (K:St→E→Prop),(∀ j,j≤k→0<(ready p (QX p b.fuel j).1).length)→Tm.under (3+L.length) tm=true→QT (3+L.length) out=true→QV (3+L.length) L=true →
   K { tm:=tm,ob:=.var 26 (.data 26 p.v)::.var 28 (.data 28 b.v)::.var 3 (.int .i64 (Xo p b.fuel (k+1)))::L,out:=out,nt:=nt } (.tup [.data 56 (Pck.v (ZN (ready p (QX p b.fuel k).1) (QX p b.fuel k).2.2)),.bool true]) →
   CallE Go.Proofs.Tryz.prog tab { tm:=tm,ob:=.var 26 (.data 26 p.v)::.var 28 (.data 28 b.v)::.var 3 (.int .i64 (Xo p b.fuel k))::L,out:=out,nt:=nt } f (.int .i64 k::.fs 56 ((ready p (QX p b.fuel k).1).map Pck.v) c::[.ptr 2 [] 3]) K)
 {tm:Tm} {out:List Tm} {nt:Nat} {K:St→E→Prop} (ht:Tm.under 3 tm=true) (ho:QT 3 out=true)
 (h:∀ (s:V) (ys:List Obj),K { tm:=tm,ob:=.var 26 (.data 26 p.v)::.var 28 (.data 28 b.v)::.var 3 (.int .i64 (Xo p b.fuel (Yi p b)))::.var 26 (.data 26 p.v)::.var 28 (.data 28 b.v)::.var 47 (.data 47 s)::.row 56 ((QX p b.fuel (Yi p b)).2.1.map Pck.v)::ys,out:=out,nt:=nt } (.sl 6 56 0 (Yi p b) false)) :
 CallE Go.Proofs.Tryz.prog tab { tm:=tm,ob:=.var 26 (.data 26 p.v)::.var 28 (.data 28 b.v)::.var 3 (.int .i64 5)::[],out:=out,nt:=nt } 39 [.data 26 p.v,.data 28 b.v,.fn f [.ptr 2 [] 3]] K:=by
 have hpp:=hp
 have hok:=Prg.ok hr
 have hcode:True→True:=id
 have hsl:True→True:=id
 have hmx:400≤maxLen:=by decide
 have ht':∀ m,Tm.under (3+m) tm=true:=fun m=>Tm.under_mono (by omega) ht
 have ho':∀ m,QT (3+m) out=true:=fun m=>Ym (by omega) ho
 have hf6:∀ v l,Tm.frz 6 v l tm=tm:=fun v l=>Tm.under_frz (by decide) ht
 have hf7:∀ v l,Tm.frz 7 v l tm=tm:=fun v l=>Tm.under_frz (by decide) ht
 have hg6:∀ v l,out.map (Tm.frz 6 v l)=out:=fun v l=>Uc (by decide) ho
 have hg7:∀ v l,out.map (Tm.frz 7 v l)=out:=fun v l=>Uc (by decide) ho
 have hk1:Tm.kill 6 tm=tm:=Tm.under_kill (by decide) ht
 have hk1':(tm.map fun x=>(x.1,x.2.1,E.kill 6 x.2.2))=tm:=hk1
 have hk2:out.map (Tm.kill 6)=out:=zW (by decide) ho
 have ht7:Tm.under 7 tm=true:=Tm.under_mono (by decide) ht
 have ho7:QT 7 out=true:=Ym (by decide) ho
 have ht8:Tm.under 8 tm=true:=Tm.under_mono (by decide) ht
 have ho8:QT 8 out=true:=Ym (by decide) ho
 refine CallE.body ok Go.Proofs.Tryz.func39 rfl rfl 60 rfl [.tmp 6] rfl (by simp) ?_
 simp only [enter,Zf,Nat.zero_add,Nat.reduceAdd]
 repeat' first
  | ((with_reducible refine Q5 fun R1 hR1=>?_);(simp only [go_sem,seval,-List.reduceReplicate,Bool.cond_false_right,Bool.cond_true_left,QE,List.take_succ_cons,List.take_zero,hk1',hk2]);(repeat' with_reducible refine And.intro ?_ ?_);all_goals first|(refine hR1 _ ?_;clear hR1 R1)|((first|refine ce (wO (qN p b.fuel hpp) ?_)|refine ce (wO (hrd) ?_)|refine ce (wO (hdo) ?_)|refine ⟨_,_,rfl,.inr (hcall k _ _ _ _ _ _ hz2 ?_ ?_ ?_ ?_)⟩);all_goals ((try simp only [go_sem,seval,-List.reduceReplicate,Bool.cond_false_right,Bool.cond_true_left,QE,List.take_succ_cons,List.take_zero,hk1',hk2]);(repeat' with_reducible refine And.intro ?_ ?_);all_goals first|(refine hR1 _ ?_;clear hR1 R1)|omega|rfl|decide|assumption|(intro _;omega)|(simp;done)|(simp [-List.getD_eq_getElem?_getD];omega)|exact hcode _|(intro _;exact hcode _)|exact hsl _|(intro _;exact hsl _)|(simp [-List.getD_eq_getElem?_getD,Q3,maxLen,by3,VS,V5,Uf,Ug];omega)|(simp [-List.getD_eq_getElem?_getD,Q3,maxLen,by3,VS,V5,Uf,Ug];done)|(simp [QT,ht8,ho8];done)|(simp [Tm.under,E.under,E.underL,QT,QV,ht8,ho8];done)))|omega|rfl|decide|assumption|(intro _;omega)|(simp;done)|(simp [-List.getD_eq_getElem?_getD];omega)|exact hcode _|(intro _;exact hcode _)|exact hsl _|(intro _;exact hsl _)|(simp [-List.getD_eq_getElem?_getD,Q3,maxLen,by3,VS,V5,Uf,Ug];omega)|(simp [-List.getD_eq_getElem?_getD,Q3,maxLen,by3,VS,V5,Uf,Ug];done)|(simp [QT,ht8,ho8];done)|(simp [Tm.under,E.under,E.underL,QT,QV,ht8,ho8];done))
  | ((with_reducible refine Q4 ?_);refine hR _ ?_;clear hR R;try simp only [go_sem,QFV,Nat.reduceBEq])
  | (with_reducible first|refine J1 ?_|refine J2 ?_|refine J3 ?_|refine J4 ?_|refine J5 ?_|refine J6 ?_|refine J7 ?_|refine J8 (by decide) ?_|refine J9 ?_|refine Xu ?_|refine Q2 ?_|refine Q1 ?_|refine Yc ?_|refine Xt ?_)
  | ((with_reducible refine Qe 4 ?_)
     have hvk:Vld p (QX p b.fuel k).1:=Ur hr hf hz
     have hrd:=y9 p (QX p b.fuel k).1 hpp hvk.shape
     rw [yZ hr hvk,if_pos rfl] at hrd
     have hw:=hvk.wf hok hr
     have hrl:=Yj hok hw (QX p b.fuel k).1.count.toNat
     have hct:=hvk.count
     have hrl2:(ready p (QX p b.fuel k).1).length≤384:=by unfold ready;omega
     have hrl3:(ready p (QX p b.fuel k).1).length≤maxLen:=by omega
     (with_reducible refine rg QFV fun R hR=>?_);simp only [go_sem,QC])
  | ((with_reducible refine Qe 6 ?_)
     have hr0:0<(ready p (QX p b.fuel k).1).length:=by have q:=hb34;exact List.length_pos_iff.2 q
     have hz2:∀ j:Nat,j≤k→0<(ready p (QX p b.fuel j).1).length:=fun j hj=>by
      rcases Nat.lt_or_ge j k with h2|h2
      · exact hz j h2
      · obtain rfl:j=k:=by omega
        exact hr0
     refine Zv (J49 ok.sized 7 rfl) ?_
     simp only [St.frz,List.map_cons,hf7,hg7]
     simp only [St.frz,Tm.frz,E.frz,E.frzL,Obj.frz,List.map_cons,List.map_nil,List.set_cons_zero,List.set_cons_succ,Nat.reduceBEq,Nat.beq_refl,if_true,if_false,Nat.beq_eq_true_eq,reduceCtorEq,Bool.false_eq_true,V.get,Nat.reduceEqDiff]
     simp only [List.drop_zero,List.take_of_length_le,List.length_map,Nat.le_refl]
     (with_reducible refine rg QFV fun R hR=>?_);simp only [go_sem,QC])
  | ((with_reducible refine Qe 8 ?_)
     have hdo:=QEF p (QX p b.fuel k).1 (ZN (ready p (QX p b.fuel k).1) (QX p b.fuel k).2.2) b.fuel hpp hvk.shape
     rw [QLu hr hvk] at hdo
     (with_reducible refine rg QFV fun R hR=>?_);simp only [go_sem,QC])
  | ((with_reducible refine rg QFV fun R hR=>?_);simp only [go_sem,QC])
  | ((with_reducible refine QI 25 rfl (fun hb25=>?_) fun hb25=>?_);all_goals (try simp [-List.getD_eq_getElem?_getD] at hb25;try (exfalso;omega)))
  | ((with_reducible refine QI 34 rfl (fun hb34=>?_) fun hb34=>?_);all_goals (try simp [-List.getD_eq_getElem?_getD] at hb34;try (exfalso;omega)))
  | ((with_reducible refine QI 44 rfl (fun hb44=>?_) fun hb44=>?_);all_goals (try simp [-List.getD_eq_getElem?_getD] at hb44;try (exfalso;omega)))
  | ((with_reducible refine Ya ?_)
     refine Zv ((St.le.own (t:=9) 56 rfl).trans ((St.le.keep [2,3,4,7,9]).trans (Qo (by first|rfl|(simp;done)|fail)))) (Yb (fun n τ=>∃ (k:Nat),n=b.steps.toNat+1-k∧(k≤b.steps.toNat∧∀ j:Nat,j<k→0<(ready p (QX p b.fuel j).1).length)∧τ={ tm:=[(2,true,.fn f [.ptr 2 [] 3]),(3,true,.ptr 3 [] 26),(4,true,.ptr 4 [] 28),(7,true,.ptr 5 [] 47),(9,true,.sl 6 56 0 k false)],ob:=(.var 26 (.data 26 p.v)::.var 28 (.data 28 b.v)::.var 3 (.int .i64 (Xo p b.fuel k))::[.var 26 (.data 26 p.v),.var 28 (.data 28 b.v),.var 47 (.data 47 (Stt.v (QX p b.fuel k).1)),.row 56 ((QX p b.fuel k).2.1.map Pck.v)]),out:=(tm::out),nt:=60 }) (b.steps.toNat+1) ⟨0,rfl,⟨Nat.zero_le _,fun j h=>by omega⟩,rfl⟩ ?_)
     rintro n τ ⟨k,hn,⟨hk,hz⟩,rfl⟩
     have hkl2:=Us (p:=p) (fuel:=b.fuel) k)
  | ((with_reducible refine WC ?_)
     first
      | (have hlt:k<b.steps.toNat:=by omega
         refine Z0 (b.steps.toNat+1-(k+1)) _ (by omega) ((WS 7 (by simp [St.under,Tm.under,E.under,E.underL,QT,QV,ht7,ho7,hk1',hk1,hk2])).trans (Qo (by simp [-List.getD_eq_getElem?_getD,QX,List.take_of_length_le,hkl2,hk1',hk2]))) ⟨k+1,rfl,⟨hlt,fun j h=>?_⟩,rfl⟩
         by_cases h2:j<k
         · exact hz j h2
         · have h3:j=k:=by omega
           rw [h3];exact hr0))
  | ((with_reducible first|refine xQ ?_|refine xP ?_)
     simp only [go_sem,QL,QM,QH,seval]
     first
      | (have q:=hb34
         have h0:(ready p (QX p b.fuel k).1).length=0:=by rw [hb34];rfl
         have e:Yi p b=k:=by
          by_cases hc:k<b.steps.toNat
          · exact QA2 hc h0 hz
          · exact UC (by omega) hz
         rw [e] at h
         exact h _ _)
      | (have e:Yi p b=k:=UC (by omega) hz
         rw [e] at h
         exact h _ _))
def vR (q:Pck→Bool) (l:List Pck):Int:=if l.any q then (l.findIdx q:Nat) else -1
theorem QJZ {p:Pck→Bool} {l:List Pck} {i:Nat} (hi:i<l.length) (h0:(l.take i).any p=false) (h1:p (l.getD i default)=true):vR p l=i:=by
 have hi':l.getD i default=l[i]:=by simp [List.getD_eq_getElem?_getD,hi]
 have:l.any p=true:=List.any_eq_true.2 ⟨_,Qj l hi,h1⟩
 unfold vR
 rw [if_pos this]
 have:l.findIdx p=i:=by
  rw [List.findIdx_eq hi]
  refine ⟨hi'▸h1,fun j hj=>?_⟩
  have hm:l[j]∈l.take i:=by
   rw [List.mem_take_iff_getElem]
   exact ⟨j,by omega,rfl⟩
  exact Bool.eq_false_iff.2 fun q=>by rw [List.any_eq_true.2 ⟨_,hm,q⟩] at h0;cases h0
 rw [this]
theorem QBQ {p:Pck→Bool} {l:List Pck} (h:l.any p=false):vR p l = -1:=by simp [vR,h]
theorem QGs {rd:List Pck} (hs:rd.Pairwise (fun a b=>a.go≤b.go)) (h0:0<rd.length) (hg:∀ x∈rd,0≤x.go∧x.go<6) {last cur:Int} (hc:last=cur∧0≤cur∧cur<6∨last = -1∧cur=5) :
 (∀ d:Nat,1≤d→d<yz cur (ZN rd last).go→vR (fun x=>decide (x.go=(cur+d) % 6)) rd = -1)∧vR (fun x=>decide (x.go=(cur+(yz cur (ZN rd last).go:Nat)) % 6)) rd=Uq rd last:=by
 obtain ⟨h1,h2⟩:=QKc hs h0 hg hc
 have hlt:=xh h0 last
 have hgi:=hg _ (Xb h0 last)
 have hd:=QHa (cur:=cur) (g:=(ZN rd last).go) (by omega) hgi
 refine ⟨fun d hd1 hd2=>QBQ ?_,?_⟩
 · rw [List.any_eq_false]
   intro x hx
   have:=h1 d hd1 hd2 x hx
   simpa using this
 · rw [hd.2.2]
   unfold vR
   rw [h2,if_pos]
   exact List.any_eq_true.2 ⟨_,Xb h0 last,by simp⟩
def QQ5:List (List Nat):=[[0,1],[0,1,7,8],[0,1,7,8,9],[0,1,5,7,8],[0,1,5,7,8,16],[4],[0,1,7,8],[4]]
theorem QBN {f:FuncId} {caps:List E} {q:Pck→Bool} (l:List Pck) (hl:l.length≤maxLen) {c:Bool} {N:Nat} {tm:Tm} {ob:List Obj} {out:List Tm} {nt:Nat} {K:St→E→Prop} (ht:Tm.under N tm=true) (ho:QT N out=true) (hcaps:E.underL N caps=true)
 (hf:∀ x∈l,∀ {tm':Tm} {out':List Tm} {nt':Nat} {K':St→E→Prop},Tm.under N tm'=true→QT N out'=true→K' { tm:=tm',ob:=ob,out:=out',nt:=nt' } (.bool (q x))→CallE Go.Proofs.Tryz.prog tab { tm:=tm',ob:=ob,out:=out',nt:=nt' } f (.data 56 x.v::caps) K')
 (h:K { tm:=tm,ob:=ob,out:=out,nt:=nt } (.int .i64 (vR q l))):CallE Go.Proofs.Tryz.prog tab { tm:=tm,ob:=ob,out:=out,nt:=nt } 54 [.fs 56 (l.map Pck.v) c,.fn f caps] K:=by
 have hcode:True→True:=id
 have hsl:True→True:=id
 refine CallE.body ok Go.Proofs.Tryz.func54 rfl rfl 19 rfl [.tmp 4] rfl (by simp) ?_
 simp only [enter,Zf,Nat.zero_add,Nat.reduceAdd]
 repeat' first
  | ((with_reducible refine SARA.told 4 _ ?_);try simp only [hA])
  | ((with_reducible refine Q5 fun R1 hR1=>?_);(simp only [go_sem,seval,-List.reduceReplicate,Bool.cond_false_right,Bool.cond_true_left]);(repeat' with_reducible refine And.intro ?_ ?_);all_goals first|(refine hR1 _ ?_;clear hR1 R1)|((first|refine ⟨_,_,rfl,.inr (hf _ (Qj l hlt) ?_ ?_ ?_)⟩);all_goals ((try simp only [go_sem,seval,-List.reduceReplicate,Bool.cond_false_right,Bool.cond_true_left]);(repeat' with_reducible refine And.intro ?_ ?_);all_goals first|(refine hR1 _ ?_;clear hR1 R1)|omega|rfl|decide|assumption|(intro _;omega)|(simp;done)|(simp [-List.getD_eq_getElem?_getD];omega)|exact hcode _|(intro _;exact hcode _)|exact hsl _|(intro _;exact hsl _)|(simp [Tm.under,E.under,E.underL,QT,QV,Nat.blt_eq,ht,ho,hcaps];done)))|omega|rfl|decide|assumption|(intro _;omega)|(simp;done)|(simp [-List.getD_eq_getElem?_getD];omega)|exact hcode _|(intro _;exact hcode _)|exact hsl _|(intro _;exact hsl _)|(simp [Tm.under,E.under,E.underL,QT,QV,Nat.blt_eq,ht,ho,hcaps];done))
  | ((with_reducible refine Q4 ?_);refine hR _ ?_;clear hR R;try simp only [go_sem,QQ5,Nat.reduceBEq])
  | (with_reducible first|refine J1 ?_|refine J2 ?_|refine J3 ?_|refine J4 ?_|refine J5 ?_|refine J6 ?_|refine J7 ?_|refine J8 (by decide) ?_|refine J9 ?_|refine Xu ?_|refine Q2 ?_|refine Q1 ?_|refine Yc ?_|refine Xt ?_)
  | ((with_reducible refine Qe 4 ?_)
     have hlt:k<l.length:=by omega
     have hA:=Qg Pck.v l (i:=k) hlt
     (with_reducible refine rg QQ5 fun R hR=>?_);simp only [go_sem,QC])
  | ((with_reducible refine rg QQ5 fun R hR=>?_);simp only [go_sem,QC])
  | ((with_reducible refine QI 9 rfl (fun hb9=>?_) fun hb9=>?_);all_goals (try simp [-List.getD_eq_getElem?_getD] at hb9;try (exfalso;omega)))
  | ((with_reducible refine QI 16 rfl (fun hb16=>?_) fun hb16=>?_);all_goals (try simp [-List.getD_eq_getElem?_getD] at hb16;try (exfalso;omega)))
  | ((with_reducible refine Ya ?_)
     refine Zv (Qo (by first|rfl|(simp;done)|fail)) (Yb (fun n τ=>∃ (k:Nat),n=l.length-k∧(k≤l.length∧(l.take k).any q=false)∧τ={ tm:=[(0,true,.fs 56 (l.map Pck.v) c),(1,true,.fn f caps),(7,true,.int .i64 l.length),(8,true,.int .i64 k)],ob:=ob,out:=(tm::out),nt:=19 }) (l.length) ⟨0,rfl,⟨Nat.zero_le _,rfl⟩,rfl⟩ ?_)
     rintro n τ ⟨k,hn,⟨hk,hz⟩,rfl⟩)
  | ((with_reducible refine WC ?_)
     first
      | (have hw:=QD hlt hl
         refine Z0 (l.length-(k+1)) _ (by omega) (Qo (by simp only [hw])) ⟨k+1,rfl,⟨hlt,?_⟩,rfl⟩
         rw [zu _ l hlt,hz,Bool.false_or]
         simpa using hb16))
  | ((with_reducible first|refine xQ ?_|refine xP ?_)
     simp only [go_sem,QL,QM,QH,seval]
     first
      | (have q2:=hb16
         rw [QJZ hlt hz (by simpa using hb16)] at h
         exact h)
      | (have hk2:k=l.length:=by omega
         subst hk2
         rw [List.take_length] at hz
         rw [QBQ hz] at h
         exact h))
def QTc:List (List Nat):=[[1,2],[3]]
theorem QD5 {ob:List Obj} {N:Nat} {cur:Int} (hN:ob.length=N) (hob:ob[2]?=some (.var 3 (.int .i64 cur))) (hou:QV N ob=true) (x:Pck) {tm:Tm} {out:List Tm} {nt:Nat} {K:St→E→Prop} (ht:Tm.under N tm=true) (ho:QT N out=true)
 (h:K { tm:=tm,ob:=ob,out:=out,nt:=nt } (.bool (decide (x.go=cur)))):CallE Go.Proofs.Tryz.prog tab { tm:=tm,ob:=ob,out:=out,nt:=nt } 55 (.data 56 x.v::[.ptr 2 [] 3]) K:=by
 refine CallE.cut N ?_
 have hcode:True→True:=id
 have hsl:True→True:=id
 have hob2:∀ v:List Obj,(ob++v)[2]?=some (.var 3 (.int .i64 cur)):=fun v=>by
  rw [List.getElem?_append_left (List.getElem?_eq_some_iff.1 hob).1]
  exact hob
 refine CallE.body ok Go.Proofs.Tryz.func55 rfl rfl 8 rfl [.tmp 3] rfl (by simp) ?_
 simp only [enter,Zf,Nat.zero_add,Nat.reduceAdd]
 repeat' first
  | ((with_reducible refine Q5 fun R1 hR1=>?_);(simp only [go_sem,seval,-List.reduceReplicate,Bool.cond_false_right,Bool.cond_true_left,hob2,hN,List.append_assoc,List.length_append,wl (X:=ob) (N:=N) hN,qp (X:=ob) (N:=N) hN,QAt (X:=ob) (N:=N) hN,yg (X:=ob) (N:=N) hN,Pck.v0]);(repeat' with_reducible refine And.intro ?_ ?_);all_goals first|(refine hR1 _ ?_;clear hR1 R1)|exact Zp)
  | ((with_reducible refine Q4 ?_);refine hR _ ?_;clear hR R;try simp only [go_sem,QTc,Nat.reduceBEq])
  | (with_reducible first|refine J1 ?_|refine J2 ?_|refine Q2 ?_|refine Q1 ?_)
  | ((with_reducible refine rg QTc fun R hR=>?_);simp only [go_sem,QC])
  | ((with_reducible first|refine xQ ?_|refine xP ?_)
     simp only [go_sem,QL,QM,QH,seval]
     refine ⟨⟨by simp [St.under,WW hN,Tm.under,E.under,E.underL,QT,QV,Nat.blt_eq,ht,ho,hou],rfl⟩,?_⟩
     simpa [WW hN] using h)
def QM8:List (List Nat):=[[1,2,5],[1,2,5],[1,2,5,7],[1,2,5,7,15],[5,6]]
theorem QA1 (P B:V) (rd:List Pck) (hs:rd.Pairwise (fun a b=>a.go≤b.go)) (h0:0<rd.length) (hrl:rd.length≤maxLen) (hg:∀ x∈rd,0≤x.go∧x.go<6) {last cur:Int} (hc:last=cur∧0≤cur∧cur<6∨last = -1∧cur=5) {a:E} {c:Bool} {tm:Tm} {out:List Tm} {nt:Nat} {L:List Obj} {K:St→E→Prop} (ht:Tm.under (L.length+3) tm=true) (ho:QT (L.length+3) out=true) (hL:QV (L.length+3) L=true)
 (h:K { tm:=tm,ob:=.var 26 (.data 26 P)::.var 28 (.data 28 B)::.var 3 (.int .i64 (ZN rd last).go)::L,out:=out,nt:=nt } (.tup [.data 56 (Pck.v (ZN rd last)),.bool true])):CallE Go.Proofs.Tryz.prog tab { tm:=tm,ob:=.var 26 (.data 26 P)::.var 28 (.data 28 B)::.var 3 (.int .i64 cur)::L,out:=out,nt:=nt } 53 (a::.fs 56 (rd.map Pck.v) c::[.ptr 2 [] 3]) K:=by
 refine CallE.cut (L.length+3) ?_
 have hcode:True→True:=id
 have hsl:True→True:=id
 have hmx:400≤maxLen:=by decide
 have hT:=QGs hs h0 hg hc
 have hix:=xh h0 last
 have hgi:=hg _ (Xb h0 last)
 have hD:=QHa (cur:=cur) (g:=(ZN rd last).go) (by omega) hgi
 have hA:=Qg Pck.v rd (i:=Uq rd last) hix
 have ht4:Tm.under (L.length+4) tm=true:=Tm.under_mono (by omega) ht
 have ho4:QT (L.length+4) out=true:=Ym (by omega) ho
 have hL4:QV (L.length+4) L=true:=YL (by omega) hL
 refine CallE.body ok Go.Proofs.Tryz.func53 rfl rfl 20 rfl [.cell 5 56,.tmp 6] rfl (by simp) ?_
 simp only [enter,Zf,Nat.zero_add,Nat.reduceAdd]
 repeat' first
  | (fail_if_success (have:=hdl)
     (with_reducible refine Qe 3 ?_)
     refine (Nat.lt_or_ge (d+1) (yz cur (ZN rd last).go)).elim (fun hdl=>?lt) (fun hdl=>?ge)
     case' lt =>
      rw [hT.1 (d+1) (by omega) hdl]
     case' ge =>
      have hde:d+1=yz cur (ZN rd last).go:=by omega
      rw [hde,hT.2])
  | ((with_reducible refine SARA.told 1 _ ?_);try simp only [hrem])
  | ((with_reducible refine SARA.told 4 _ ?_);try simp only [hA,Int.toNat_natCast])
  | ((with_reducible refine Q5 fun R1 hR1=>?_);(simp only [go_sem,seval,-List.reduceReplicate,Bool.cond_false_right,Bool.cond_true_left,List.getElem?_cons_succ,List.set_cons_succ,List.set_cons_zero,wl (X:=L) (N:=L.length) rfl,qp (X:=L) (N:=L.length) rfl,QAt (X:=L) (N:=L.length) rfl,yg (X:=L) (N:=L.length) rfl,List.length_append,List.append_assoc]);(repeat' with_reducible refine And.intro ?_ ?_);all_goals first|(refine hR1 _ ?_;clear hR1 R1)|((first|refine ⟨_,_,rfl,.inr (QBN (N:=L.length+4) (q:=fun x=>decide (x.go=(cur+(d+1:Nat)) % 6)) rd hrl ?_ ?_ ?_ (fun x _ {_ _ _ _} h1 h2 h3=>QD5 (by simp) rfl (by simp [QV,E.under,Qq,hL4]) x h1 h2 h3) ?_)⟩);all_goals ((try simp only [go_sem,seval,-List.reduceReplicate,Bool.cond_false_right,Bool.cond_true_left,List.getElem?_cons_succ,List.set_cons_succ,List.set_cons_zero,wl (X:=L) (N:=L.length) rfl,qp (X:=L) (N:=L.length) rfl,QAt (X:=L) (N:=L.length) rfl,yg (X:=L) (N:=L.length) rfl,List.length_append,List.append_assoc]);(repeat' with_reducible refine And.intro ?_ ?_);all_goals first|(refine hR1 _ ?_;clear hR1 R1)|omega|rfl|decide|assumption|(intro _;omega)|(simp;done)|(simp [-List.getD_eq_getElem?_getD];omega)|exact hcode _|(intro _;exact hcode _)|exact hsl _|(intro _;exact hsl _)|(simp [Tm.under,E.under,E.underL,QT,QV,Nat.blt_eq,ht4,ho4];done)))|omega|rfl|decide|assumption|(intro _;omega)|(simp;done)|(simp [-List.getD_eq_getElem?_getD];omega)|exact hcode _|(intro _;exact hcode _)|exact hsl _|(intro _;exact hsl _)|(simp [Tm.under,E.under,E.underL,QT,QV,Nat.blt_eq,ht4,ho4];done))
  | ((with_reducible refine Q4 ?_);refine hR _ ?_;clear hR R;try simp only [go_sem,QM8,Nat.reduceBEq])
  | (with_reducible first|refine J1 ?_|refine J2 ?_|refine J3 ?_|refine J4 ?_|refine J5 ?_|refine J6 ?_|refine J7 ?_|refine J8 (by decide) ?_|refine J9 ?_|refine Xu ?_|refine Q2 ?_|refine Q1 ?_|refine Yc ?_|refine Xt ?_)
  | ((with_reducible refine Qe 1 ?_)
     have hrem:(IntKind.i64.wrap ((cur+d) % 6+1)).tmod 6=(cur+(d+1:Nat)) % 6:=by
      rw [Qm (by omega) (by omega),Int.tmod_eq_emod_of_nonneg (by omega)]
      omega
     (with_reducible refine rg QM8 fun R hR=>?_);simp only [go_sem,QC])
  | ((with_reducible refine Qe 4 ?_)
     have q:=hb15
     (with_reducible refine rg QM8 fun R hR=>?_);simp only [go_sem,QC])
  | ((with_reducible refine rg QM8 fun R hR=>?_);simp only [go_sem,QC])
  | ((with_reducible refine QI 15 rfl (fun hb15=>?_) fun hb15=>?_);all_goals (try simp [-List.getD_eq_getElem?_getD] at hb15;try (exfalso;omega)))
  | ((with_reducible refine Ya ?_)
     refine Zv (Qo (by (rw [show (cur+(0:Nat)) % 6=cur by omega];try rfl))) (Yb (fun n τ=>∃ (d:Nat),n=yz cur (ZN rd last).go-d∧(d<yz cur (ZN rd last).go)∧τ={ tm:=[(1,true,.fs 56 (rd.map Pck.v) c),(2,true,.ptr 2 [] 3),(5,true,.ptr (L.length+3) [] 56)],ob:=(.var 26 (.data 26 P)::.var 28 (.data 28 B)::.var 3 (.int .i64 ((cur+d) % 6))::(L++[.var 56 (.data 56 (tab.zero 56))])),out:=(tm::out),nt:=20 }) (yz cur (ZN rd last).go) ⟨0,rfl,by omega,rfl⟩ ?_)
     rintro n τ ⟨d,hn,hd,rfl⟩)
  | ((with_reducible refine WC ?_)
     first
      | (refine Z0 (yz cur (ZN rd last).go-(d+1)) _ (by omega) ((St.le.keep [1,2,5]).trans (Qo (by first|rfl|simp [St.keep]))) ⟨d+1,rfl,hdl,rfl⟩))
  | ((with_reducible first|refine xQ ?_|refine xP ?_)
     simp only [go_sem,QL,QM,QH,seval]
     have htk:∀ (a b c:Obj) (M:List Obj),List.take (L.length+3) (a::b::c::(L++M))=a::b::c::L:=fun a b c M=>by
      show a::b::c::List.take L.length (L++M)=_
      rw [List.take_left]
     rw [hD.2.2]
     refine ⟨⟨?_,rfl⟩,?_⟩
     · simp only [St.under,htk]
       simp [Tm.under,E.under,E.underL,QT,QV,Nat.blt_eq,ht,ho,hL]
     · simp only [htk]
       exact h)
theorem QEy {l:List Pck} {k:Nat} (h0:0<k) (h:¬(l.getD k default).go=(l.getD (k-1) default).go):Qu l (k+1)=Qu l k+1:=by
 show Qu l k+QGQ l k=_
 unfold QGQ
 rw [if_pos ⟨h0,h⟩]
theorem QHW {l:List Pck} {k:Nat} (h:0<k→(l.getD k default).go=(l.getD (k-1) default).go):Qu l (k+1)=Qu l k:=by
 show Qu l k+QGQ l k=_
 unfold QGQ
 rw [if_neg (fun q=>q.2 (h q.1)),Int.add_zero]
def QRC:List (List Nat):=[[0],[0,3],[0,3,6,7],[0,3,6,7,8],[0,3,4,6,7],[0,3,6,7,25],[0,3,6,7],[0,3,6,7],[2]]
theorem xZ (l:List Pck) (hl:l.length≤maxLen):Ctr Go.Proofs.Tryz.prog tab 24 [29] [3] [.list (l.map Pck.v)] [.int (zI l)]:=by
 have hcode:True→True:=id
 have hsl:True→True:=id
 have hlx:=hl
 unfold maxLen at hlx
 refine Ctr.body ok Go.Proofs.Tryz.func24 rfl rfl 30 rfl [.tmp 2] rfl (by simp [QF]) ?_
 simp only [go_sem,Nat.reduceAdd]
 repeat' first
  | (fail_if_success (have:=hk0)
     (with_reducible refine Qe 5 ?_)
     refine (Nat.eq_zero_or_pos k).elim (fun hk0=>?ze) (fun hk0=>?po)
     case' ze =>
      have hgt:decide ((k:Int) > 0)=false:=decide_eq_false (by omega)
      have hlt:k<l.length:=by omega
      have hA0:=True.intro
      have hA1:=True.intro
      have hwm:=True.intro
     case' po =>
      have hgt:decide ((k:Int) > 0)=true:=decide_eq_true (by omega)
      have hlt:k<l.length:=by omega
      have hA0:=Qg Pck.v l (i:=k) (by omega)
      have hA1:=Qg Pck.v l (i:=k-1) (by omega)
      have hwm:IntKind.i64.wrap ((k:Int)-1)=((k-1:Nat):Int):=by
       rw [Qm (by omega) (by omega)]
       omega)
  | ((with_reducible refine SARQ.told 5 _ ?_);try simp only [hgt,hA0,hA1,hwm,Int.toNat_natCast,Pck.v0])
  | ((with_reducible first|refine Q5 fun R1 hR1=>?_|refine yb fun R1 hR1=>?_);(simp only [go_sem,seval,-List.reduceReplicate,Bool.cond_false_right,Bool.cond_true_left]);(repeat' with_reducible refine And.intro ?_ ?_);all_goals first|(refine hR1 _ ?_;clear hR1 R1)|(intro hgf;simp only [hgf];refine hR1 _ ?_;clear hR1 R1)|exact Zp)
  | ((with_reducible first|refine Q4 ?_|refine ya ?_);refine hR _ ?_;clear hR R;try simp only [go_sem,QRC,Nat.reduceBEq])
  | (with_reducible first|refine J1 ?_|refine J2 ?_|refine J3 ?_|refine J4 ?_|refine J5 ?_|refine J6 ?_|refine J7 ?_|refine J8 (by decide) ?_|refine J9 ?_|refine Xu ?_|refine Q2 ?_|refine Q1 ?_|refine Yc ?_|refine Xt ?_)
  | ((with_reducible refine rg QRC fun R hR=>?_);simp only [go_sem,QC])
  | ((with_reducible refine Ve ok QQ (by kernel_rfl) (by kernel_rfl) QRC ?_);intro R hR;simp only [go_sem,QC])
  | ((with_reducible refine QI 25 rfl (fun hb25=>?_) fun hb25=>?_);all_goals (try simp [-List.getD_eq_getElem?_getD] at hb25;try (exfalso;omega)))
  | ((with_reducible refine SA.cond rfl ?_ ?_)
     all_goals
      intro hb
      try simp [-List.getD_eq_getElem?_getD] at hb
      try (exfalso;omega))
  | ((with_reducible refine Ya ?_)
     refine Zv (Qo (by first|rfl|(simp;done)|fail)) (Yb (fun n τ=>∃ (k:Nat),n=l.length-k∧(k≤l.length)∧τ={ tm:=[(0,true,.fs 56 (l.map Pck.v) false),(3,true,.int .i64 (Qu l k)),(6,true,.int .i64 l.length),(7,true,.int .i64 k)],ob:=[],out:=[],nt:=30 }) (l.length) ⟨0,rfl,Nat.zero_le _,rfl⟩ ?_)
     rintro n τ ⟨k,hn,hk,rfl⟩)
  | ((with_reducible refine WC ?_)
     first
      | (have q:=hb25
         have e:=QEy hk0 hb25
         have hb:=Vp l k
         have hw:=QD hlt hl
         have hw2:IntKind.i64.wrap (Qu l k+1)=Qu l k+1:=Qm (by omega) (by omega)
         refine Z0 (l.length-(k+1)) _ (by omega) (Qo (by simp only [hw,hw2,e])) ⟨k+1,rfl,hlt,rfl⟩)
      | (have e:Qu l (k+1)=Qu l k:=QHW (fun h=>by first|exact hb25|(exfalso;omega))
         have hw:=QD hlt hl
         refine Z0 (l.length-(k+1)) _ (by omega) (Qo (by simp only [hw,e])) ⟨k+1,rfl,hlt,rfl⟩))
  | ((with_reducible first|refine ZQ ?_|refine ZP ?_)
     simp only [go_sem,QL,QM,QH,seval]
     have hk2:k=l.length:=by omega
     subst hk2
     exact ⟨rfl,rfl⟩)
def QNB:List (List Nat):=[[0],[0,3],[0,3,4],[0,3,4,8],[0,3,4],[0,3,4,22],[0,3,4],[2]]
theorem qn (l:List Pck) (hl:l.length≤maxLen):Ctr Go.Proofs.Tryz.prog tab 25 [29] [3] [.list (l.map Pck.v)] [.int (zI l)]:=by
 have hcode:True→True:=id
 have hsl:True→True:=id
 have hlx:=hl
 unfold maxLen at hlx
 refine Ctr.body ok Go.Proofs.Tryz.func25 rfl rfl 26 rfl [.tmp 2] rfl (by simp [QF]) ?_
 simp only [go_sem,Nat.reduceAdd]
 repeat' first
  | ((with_reducible refine SARQ.told 5 _ ?_);try simp only [hA0,hA1,hwm,Int.toNat_natCast,Pck.v0])
  | ((with_reducible first|refine Q5 fun R1 hR1=>?_|refine yb fun R1 hR1=>?_);(simp only [go_sem,seval,-List.reduceReplicate,Bool.cond_false_right,Bool.cond_true_left]);(repeat' with_reducible refine And.intro ?_ ?_);all_goals first|(refine hR1 _ ?_;clear hR1 R1)|exact Zp)
  | ((with_reducible first|refine Q4 ?_|refine ya ?_);refine hR _ ?_;clear hR R;try simp only [go_sem,QNB,Nat.reduceBEq])
  | (with_reducible first|refine J1 ?_|refine J2 ?_|refine J3 ?_|refine J4 ?_|refine J5 ?_|refine J6 ?_|refine J7 ?_|refine J8 (by decide) ?_|refine J9 ?_|refine Xu ?_|refine Q2 ?_|refine Q1 ?_|refine Yc ?_|refine Xt ?_)
  | ((with_reducible refine Qe 5 ?_)
     have hlt:k+1<l.length:=by omega
     have hA0:=Qg Pck.v l (i:=k+1) hlt
     have hA1:=Qg Pck.v l (i:=k) (by omega)
     have hwm:IntKind.i64.wrap (((k+1:Nat):Int)-1)=(k:Int):=by
      rw [Qm (by omega) (by omega)]
      omega
     (with_reducible refine Ve ok QQ (by kernel_rfl) (by kernel_rfl) QNB ?_);intro R hR;simp only [go_sem,QC])
  | ((with_reducible refine rg QNB fun R hR=>?_);simp only [go_sem,QC])
  | ((with_reducible refine Ve ok QQ (by kernel_rfl) (by kernel_rfl) QNB ?_);intro R hR;simp only [go_sem,QC])
  | ((with_reducible refine QI 22 rfl (fun hb22=>?_) fun hb22=>?_);all_goals (try simp [-List.getD_eq_getElem?_getD] at hb22;try (exfalso;omega)))
  | ((with_reducible refine SA.cond rfl ?_ ?_)
     all_goals
      intro hb
      try simp [-List.getD_eq_getElem?_getD] at hb
      try (exfalso;omega))
  | ((with_reducible refine Ya ?_)
     refine Zv (Qo (by (rw [show Qu l (0+1)=0 from zH l];rfl))) (Yb (fun n τ=>∃ (k:Nat),n=l.length-k∧(k+1≤l.length∨k=0)∧τ={ tm:=[(0,true,.fs 56 (l.map Pck.v) false),(3,true,.int .i64 (Qu l (k+1))),(4,true,.int .i64 (k+1:Nat))],ob:=[],out:=[],nt:=26 }) (l.length) ⟨0,rfl,.inr rfl,rfl⟩ ?_)
     rintro n τ ⟨k,hn,hk,rfl⟩)
  | ((with_reducible refine WC ?_)
     first
      | (have q:¬_:=hb22
         have e:=QEy (l:=l) (k:=k+1) (by omega) hb22
         have hb:=Vp l (k+1)
         have hw:=QD hlt hl
         have hw2:IntKind.i64.wrap (Qu l (k+1)+1)=Qu l (k+1)+1:=Qm (by omega) (by omega)
         refine Z0 (l.length-(k+1)) _ (by omega) (Qo (by simp only [hw,hw2,e])) ⟨k+1,rfl,.inl hlt,rfl⟩)
      | (have e:Qu l (k+1+1)=Qu l (k+1):=QHW (fun h=>hb22)
         have hw:=QD hlt hl
         refine Z0 (l.length-(k+1)) _ (by omega) (Qo (by simp only [hw,e])) ⟨k+1,rfl,.inl hlt,rfl⟩))
  | ((with_reducible first|refine ZQ ?_|refine ZP ?_)
     simp only [go_sem,QL,QM,QH,seval]
     have e:Qu l (k+1)=zI l:=by
      by_cases h:l.length=0
      · have h0:k=0:=by omega
        subst h0
        unfold zI
        rw [h]
        exact zH l
      · have h0:k+1=l.length:=by omega
        unfold zI
        rw [h0]
     rw [e]
     exact ⟨rfl,rfl⟩)
theorem QE6 {p:Prg} {b:Bud} (hr:QN p=true) (hf:0≤b.fuel∧b.fuel≤4096) (k:Nat) (c:Bool) (tm:Tm) (out:List Tm) (nt:Nat) (L:List Obj) (K:St→E→Prop) (hz:∀ j,j≤k→0<(ready p (QX p b.fuel j).1).length) (h1:Tm.under (3+L.length) tm=true) (h2:QT (3+L.length) out=true) (h3:QV (3+L.length) L=true)
 (hK:K { tm:=tm,ob:=.var 26 (.data 26 p.v)::.var 28 (.data 28 b.v)::.var 3 (.int .i64 (Xo p b.fuel (k+1)))::L,out:=out,nt:=nt } (.tup [.data 56 (Pck.v (ZN (ready p (QX p b.fuel k).1) (QX p b.fuel k).2.2)),.bool true])) :
 CallE Go.Proofs.Tryz.prog tab { tm:=tm,ob:=.var 26 (.data 26 p.v)::.var 28 (.data 28 b.v)::.var 3 (.int .i64 (Xo p b.fuel k))::L,out:=out,nt:=nt } 53 (.int .i64 k::.fs 56 ((ready p (QX p b.fuel k).1).map Pck.v) c::[.ptr 2 [] 3]) K:=by
 have hv:=Ur hr hf (m:=k) (fun j hj=>hz j (by omega))
 have hrl:=Yj (Prg.ok hr) (hv.wf (Prg.ok hr) hr) (QX p b.fuel k).1.count.toNat
 have hct:=hv.count
 have hmx:400≤maxLen:=by decide
 rw [Nat.add_comm] at h1 h2 h3
 rw [QD6] at hK
 exact QA1 p.v b.v _ (QD9 _) (hz k (Nat.le_refl _)) (by unfold ready;omega) (fun x hx=>QFE hv hx) (QIy hr hf fun j hj=>hz j (by omega)) h1 h2 h3 hK
def QRD:List (List Nat):=[[2,3],[2,3,6],[2,3,6,12],[4,5],[2,3,7],[4,5]]
end Go.Eng.Tryz
