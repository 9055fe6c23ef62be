/- A part of the proof: walks through the program's functions, and what they compute. -/
import Derived.Test.YtedceinkpkoncaaGreatDoorPk32
import Derived.Test.YtedceinkpkoncaaGreatDoorPk40
set_option linter.unusedSimpArgs false
set_option linter.unusedVariables false
namespace Go.Eng
open Go.RowKit
variable {P:Program} {T:Tab} {w w':World} {w0:Base T} {F F':Nat→Prop} {ρ ρ':Nat→RI} {σ σ':St} {a:Act} {outs:List (Array Value)}
theorem St.le.frzVal (hS:T.Sized) (i:Nat) {t:TypeId} {e:E} {v:V} (ho:σ.ob[i]?=some (.var t e)) (hv:yX T t e=some v):St.le T σ (σ.frz i v []):=by
 refine St.le.frz_aux hS (List.getElem?_eq_some_iff.1 ho).1 ?_
 intro w F ρ w0 tmps outs h
 have h1:=h.ob i _ ho
 cases hρ:ρ i with
 | none=>rw [hρ] at h1;exact h1.elim
 | row _ _=>rw [hρ] at h1;exact h1.elim
 | var b t' =>
   rw [hρ] at h1
   obtain ⟨⟨rfl,q2,q3⟩,q4,q5,cs,ct,x,q6,q7,q8,_⟩:=h1
   have hf:=(Y2 q7 hv).1
   have hcs:x.cells=cs:=by
    have h2:=q8.2
    split at h2
    · rw [h2];rfl
    · obtain ⟨rfl,h3⟩:=h2
      cases x<;>first|rfl|(simp [Value.oneCell'] at h3)
   rw [hcs] at hf
   exact ⟨.inr rfl,cs.toList,QCa q6,hf.mono (fun _ x=>.inl x) (fun _ _=>rfl)⟩
end Go.Eng
namespace Go.Eng
def Vx (c:Int) (n:Nat):Int:=if c.tmod n<0 then c.tmod n+n else c.tmod n
theorem vw {c:Int} {n:Nat} (h:0<n):0≤Vx c n∧Vx c n<n:=by
 have h1:=Int.tmod_lt_of_pos c (b:=(n:Int)) (by omega)
 have h2:=Int.lt_tmod_of_pos c (b:=(n:Int)) (by omega)
 unfold Vx
 split<;>omega
def yA (p:Prg) (s:Stt) (c:Int):Pck:=(ready p s).getD (Vx c (ready p s).length).toNat default
theorem QE5 {p:Prg} {s:Stt} {c:Int} (h:0<(ready p s).length):yA p s c∈ready p s:=by
 have:=vw (c:=c) h
 unfold yA
 exact Qn _ (by omega)
def Qy (p:Prg) (fuel:Int) (l:List Int):Nat→Stt × List Pck
 | 0=>((QS QB p fuel).1,[])
 | k+1=>((YV QB p (Qy p fuel l k).1 (yA p (Qy p fuel l k).1 (l.getD k 0)) fuel).1,(Qy p fuel l k).2++[yA p (Qy p fuel l k).1 (l.getD k 0)])
def Yn (l:List Int) (b:Bud):Nat:=min l.length b.steps.toNat
def Ym (p:Prg) (l:List Int) (b:Bud):Nat:=(List.range (Yn l b)).findIdx fun k=>decide ((ready p (Qy p b.fuel l k).1).length=0)
def QR (p:Prg) (l:List Int) (b:Bud):List Pck:=if ZF p l.length b=0 then (Qy p b.fuel l (Ym p l b)).2 else []
section
variable {p:Prg} {fuel:Int} {l:List Int}
theorem Xr:∀ k:Nat,(Qy p fuel l k).2.length=k
 | 0=>rfl
 | k+1=>by simp [Qy,Xr k]
theorem xw:∀ {m k:Nat},k≤m→(Qy p fuel l m).2.take k=(Qy p fuel l k).2
 | 0,k,h=>by
   obtain rfl:k=0:=by omega
   rfl
 | m+1,k,h=>by
   by_cases hk:k=m+1
   · subst hk
     exact List.take_of_length_le (by rw [Xr];exact Nat.le_refl _)
   · show ((Qy p fuel l m).2++_).take k=_
     rw [List.take_append_of_le_length (by rw [Xr];omega)]
     exact xw (by omega)
theorem QAN:∀ k:Nat,(Qy p fuel l k).1=wF QB p fuel (QS QB p fuel).1 (Qy p fuel l k).2
 | 0=>rfl
 | k+1=>by
   show (YV QB p (Qy p fuel l k).1 _ fuel).1=wF QB p fuel _ ((Qy p fuel l k).2++[_])
   unfold wF
   rw [List.foldl_append]
   show _=(YV QB p (wF QB p fuel _ (Qy p fuel l k).2) _ fuel).1
   rw [← QAN k]
theorem yM {m k:Nat} (h:k≤m):QY QB p fuel (QS QB p fuel).1 (Qy p fuel l m).2 k=(Qy p fuel l k).1:=by
 unfold QY
 rw [xw h,← QAN]
theorem QHe {m k:Nat} (h:k<m):(Qy p fuel l m).2.getD k default=yA p (Qy p fuel l k).1 (l.getD k 0):=by
 have e:(Qy p fuel l m).2.take (k+1)=(Qy p fuel l (k+1)).2:=xw h
 have e2:((Qy p fuel l m).2.take (k+1)).getD k default=(Qy p fuel l m).2.getD k default:=by
  simp [List.getD_eq_getElem?_getD,List.getElem?_take]
 rw [← e2,e]
 show ((Qy p fuel l k).2++[_]).getD k default=_
 rw [List.getD_eq_getElem?_getD,List.getElem?_append_right (by rw [Xr];exact Nat.le_refl _),Xr,Nat.sub_self]
 rfl
theorem QB1 {m:Nat} (hz:∀ j,j<m→0<(ready p (Qy p fuel l j).1).length) {k:Nat} (h:k<m):YD QB p fuel (QS QB p fuel).1 (Qy p fuel l m).2 k=true:=by
 rw [okAtR_iff,yM (by omega),QHe h]
 exact (ready_mem.1 (QE5 (hz k h))).2
theorem QEa (hr:QP p=true) (hf:0≤fuel∧fuel≤4096) {m:Nat} (hz:∀ j,j<m→0<(ready p (Qy p fuel l j).1).length):Vld p (Qy p fuel l m).1:=by
 have:=VX Yp hr (Prg.ok hr) hf (ya Yp hr (Prg.ok hr) hf) (l:=(Qy p fuel l m).2) (n:=m) (by rw [Xr];exact Nat.le_refl _) (fun j hj=>QB1 hz hj)
 rwa [yM (Nat.le_refl _)] at this
end
theorem QB0 {p:Prg} {l:List Int} {b:Bud} {k:Nat} (hk:k<Yn l b) (h0:(ready p (Qy p b.fuel l k).1).length=0) (hz:∀ j,j<k→0<(ready p (Qy p b.fuel l j).1).length):Ym p l b=k:=by
 unfold Ym
 rw [List.findIdx_eq (by simpa using hk)]
 refine ⟨by simp [h0],fun j hj=>?_⟩
 have:=hz j hj
 simp
 intro q
 rw [q] at this
 simp at this
theorem Vp {p:Prg} {l:List Int} {b:Bud} {k:Nat} (hk:k=Yn l b) (hz:∀ j,j<k→0<(ready p (Qy p b.fuel l j).1).length):Ym p l b=k:=by
 subst hk
 unfold Ym
 rw [List.findIdx_eq_length_of_false]
 · simp
 · intro j hj
   have:=hz j (by simpa using hj)
   simp
   intro q
   rw [q] at this
   simp at this
theorem QBz (p:Prg) (l:List Int) (b:Bud):Ym p l b≤Yn l b:=by
 unfold Ym
 have:=List.findIdx_le_length (xs:=List.range (Yn l b)) (p:=fun k=>decide ((ready p (Qy p b.fuel l k).1).length=0))
 simpa using this
theorem QEZ {p:Prg} {l:List Int} {b:Bud} {j:Nat} (h:j<Ym p l b):0<(ready p (Qy p b.fuel l j).1).length:=by
 have hle:=QBz p l b
 have:=List.not_of_lt_findIdx (xs:=List.range (Yn l b)) (p:=fun k=>decide ((ready p (Qy p b.fuel l k).1).length=0)) (i:=j) h
 simp at this
 exact List.length_pos_iff.2 this
theorem yK {p:Prg} {l:List Int} {b:Bud} (h:ZF p l.length b=0):(QR p l b).length=Ym p l b∧Ym p l b≤Yn l b∧Xc p (QR p l b) b=((QR p l b).length,(Qy p b.fuel l (Ym p l b)).1,0,0):=by
 have hz:=Vq h
 have hle:=QBz p l b
 have hm:(Yn l b:Int)≤b.steps:=by unfold Yn;omega
 have e:QR p l b=(Qy p b.fuel l (Ym p l b)).2:=if_pos h
 have hlen:(QR p l b).length=Ym p l b:=by rw [e,Xr]
 refine ⟨hlen,hle,?_⟩
 have ha:ZF p (QR p l b).length b=0:=by
  unfold ZF
  rw [if_neg (by rw [hz.1];simp),if_neg (by omega),if_neg (by rw [hz.2.2.1];simp)]
 have hst:ZN QB p b.fuel (QS QB p b.fuel).1 (QR p l b)=(QR p l b).length:=Up QB (fun k hk=>by
  rw [e] at hk ⊢
  rw [Xr] at hk
  exact QB1 (fun j hj=>QEZ hj) hk)
 unfold Xc
 simp only
 rw [if_neg (fun q=>q ha),if_neg (by omega),hst,if_neg (Nat.lt_irrefl _),hlen]
 refine congrArg (fun x=>(Ym p l b,x,(0:Int),(0:Int))) ?_
 rw [e]
 exact yM (Nat.le_refl _)
end Go.Eng
namespace Go.Eng.Tryz
open Go.RowKit Go.Eng
set_option maxHeartbeats 0
set_option maxRecDepth 20000
theorem QOc {p:Prg} (hr:QP p=true) {s:Stt} (hv:Vld p s) {x:Pck} {fuel:Int}:xQ p s x fuel=YV QB p s x fuel:=by
 unfold xQ
 rw [zZ hr hv,if_neg (by decide)]
def QN9:List (List Nat):=[[0,1,2,5],[0,1,2,5,11],[5,6],[1,5,7],[1,5,7,21],[1,5,7],[5,6]]
theorem QDE (l:List Int) (rd:List Pck) (n:Nat) (hl:l.length≤maxLen) (hr0:0<rd.length) (hr1:rd.length≤1000) {c:Bool} {tm:Tm} {ob:List Obj} {out:List Tm} {nt:Nat} {K:St→E→Prop} (h:∀ ys,K { tm:=tm,ob:=ob++ys,out:=out,nt:=nt } (.tup [.data 39 (Pck.v (if n<l.length then rd.getD (Vx (l.getD n 0) rd.length).toNat default else ⟨0,0⟩:Pck)),.bool (decide (n<l.length))])) :
 CallE Go.Proofs.Tryz.prog tab { tm:=tm,ob:=ob,out:=out,nt:=nt } 97 [.int .i64 n,.fs 39 (rd.map Pck.v) c,.fptr 23 (.list (l.map V.int))] K:=by
 have hcode:True→True:=id
 have hsl:True→True:=id
 have hmx:1000≤maxLen:=by decide
 have hb1:=Int.tmod_lt_of_pos (l.getD n 0) (b:=(rd.length:Int)) (by omega)
 have hb2:=Int.lt_tmod_of_pos (l.getD n 0) (b:=(rd.length:Int)) (by omega)
 have hx:=vw (c:=l.getD n 0) hr0
 have hwp:(l.getD n 0).tmod rd.length<0→IntKind.i64.wrap ((l.getD n 0).tmod rd.length+rd.length)=Vx (l.getD n 0) rd.length:=fun h=>by
  rw [Q4 (by omega) (by omega)]
  unfold Vx
  rw [if_pos h]
 have hwn:¬(l.getD n 0).tmod rd.length<0→(l.getD n 0).tmod rd.length=Vx (l.getD n 0) rd.length:=fun h=>by
  unfold Vx
  rw [if_neg h]
 have hAt:=Qr Pck.v rd (i:=(Vx (l.getD n 0) rd.length).toNat) (by omega)
 refine CallE.body ok Go.Proofs.Tryz.func97 rfl rfl 30 rfl [.cell 5 39,.tmp 6] rfl (by simp) ?_
 simp only [enter,Zl,Nat.zero_add,Nat.reduceAdd]
 repeat' first
  | ((with_reducible refine SARA.told 6 _ ?_);try simp only [hAt])
  | ((with_reducible refine Q2 fun R1 hR1=>?_);(simp only [go_sem,seval,-List.reduceReplicate,Bool.cond_false_right,Bool.cond_true_left,QF,List.append_assoc,List.length_append,QAt (X:=ob) (N:=ob.length) rfl,yv (X:=ob) (N:=ob.length) rfl,QDl (X:=ob) (N:=ob.length) rfl,vO (X:=ob) (N:=ob.length) rfl]);(repeat' with_reducible refine And.intro ?_ ?_);all_goals first|(refine hR1 _ ?_;clear hR1 R1)|exact ZQ)
  | ((with_reducible refine Q1 ?_);refine hR _ ?_;clear hR R;try simp only [go_sem,QN9,Nat.reduceBEq])
  | (with_reducible first|refine J1 ?_|refine J2 ?_|refine J3 ?_|refine Q0 ?_|refine Qz ?_)
  | ((with_reducible refine QZ 6 ?_)
     first|rw [hwp (by omega)]|rw [hwn (by omega)]
     (with_reducible refine rg QN9 fun R hR=>?_);simp only [go_sem,QC])
  | ((with_reducible refine rg QN9 fun R hR=>?_);simp only [go_sem,QC])
  | ((with_reducible refine QH 11 rfl (fun hb11=>?_) fun hb11=>?_);all_goals (try simp [-List.getD_eq_getElem?_getD] at hb11;try (exfalso;omega)))
  | ((with_reducible refine QH 21 rfl (fun hb21=>?_) fun hb21=>?_);all_goals (try simp [-List.getD_eq_getElem?_getD] at hb21;try (exfalso;omega)))
  | ((with_reducible first|refine xS ?_|refine xR ?_)
     simp only [go_sem,QJ,QK,QG,seval]
     first
      | (have q:=hb11
         have e:=h [.var 39 (.data 39 (Pck.v ⟨0,0⟩))]
         rw [decide_eq_false (show ¬n<l.length by omega),if_neg (show ¬n<l.length by omega)] at e
         exact e)
      | (have q:=hb11
         have e:=h [.var 39 (.data 39 (Pck.v (rd.getD (Vx (l.getD n 0) rd.length).toNat default)))]
         rw [decide_eq_true (show n<l.length by omega),if_pos (show n<l.length by omega)] at e
         exact e))
def QIr:List (List Nat):=[[2,3,4],[2,3,4,7],[2,3,4,7,9],[2,3,4,7,9,25],[2,3,4,7,9,10],[2,3,4,7,9,10,34],[2,3,4,7,9,12,13],[2,3,4,7,9,12,44],[2,3,4,7,9,12],[2,3,4,7,9],[6]]
theorem QEX (p:Prg) (l:List Int) (b:Bud) (hp:p.Fit) (hr:QP p=true) (hf:0≤b.fuel∧b.fuel≤4096) (hst:0≤b.steps∧b.steps≤256) (hl:l.length≤maxLen):Ctr Go.Proofs.Tryz.prog tab 96 [26,77,165] [64] [p.v,b.v,.clo 97 [23] [.list (l.map V.int)]] [.list ((Qy p b.fuel l (Ym p l b)).2.map Pck.v)]:=by
 have hpp:=hp
 have hok:=Prg.ok hr
 have hcode:True→True:=id
 have hsl:True→True:=id
 have hmx:400≤maxLen:=by decide
 have hmost:Yn l b=min l.length b.steps.toNat:=rfl
 refine Ctr.body ok Go.Proofs.Tryz.func96 rfl rfl 60 rfl [.tmp 6] rfl (by simp [QE]) ?_
 simp only [go_sem,Nat.reduceAdd]
 repeat' first
  | ((with_reducible refine Q2 fun R1 hR1=>?_);(simp only [go_sem,seval,-List.reduceReplicate,Bool.cond_false_right,Bool.cond_true_left,QF,List.take_succ_cons,List.take_zero]);(repeat' with_reducible refine And.intro ?_ ?_);all_goals first|(refine hR1 _ ?_;clear hR1 R1)|((first|refine ce (cf (Ux p b.fuel hpp) ?_ (by first|rfl|(simp [go_sem,List.take_of_length_le,List.length_map,List.map_take,List.drop_zero];done)|fail))|refine ce (cf (hrd) ?_ (by first|rfl|(simp [go_sem,List.take_of_length_le,List.length_map,List.map_take,List.drop_zero];done)|fail))|refine ce (cf (hdo) ?_ (by first|rfl|(simp [go_sem,List.take_of_length_le,List.length_map,List.map_take,List.drop_zero];done)|fail))|refine ⟨_,_,rfl,.inr (CallE.cut 5 (QDE l (ready p (Qy p b.fuel l k).1) k hl (by omega) (by omega) fun ys=>⟨⟨rfl,rfl⟩,?_⟩))⟩);all_goals ((try simp only [go_sem,seval,-List.reduceReplicate,Bool.cond_false_right,Bool.cond_true_left,QF,List.take_succ_cons,List.take_zero]);(repeat' with_reducible refine And.intro ?_ ?_);all_goals first|(refine hR1 _ ?_;clear hR1 R1)|exact Xk))|exact Xk)
  | ((with_reducible refine Q1 ?_);refine hR _ ?_;clear hR R;try simp only [go_sem,QIr,Nat.reduceBEq])
  | (with_reducible first|refine J1 ?_|refine J2 ?_|refine J3 ?_|refine J4 ?_|refine J5 ?_|refine J6 ?_|refine J7 ?_|refine J8 (by decide) ?_|refine J9 ?_|refine WL ?_|refine Q0 ?_|refine Qz ?_|refine YZ ?_|refine WK ?_)
  | ((with_reducible refine QZ 4 ?_)
     have hvk:Vld p (Qy p b.fuel l k).1:=QEa hr hf hz
     have hrd:=Wh p (Qy p b.fuel l k).1 hpp hvk.shape
     rw [zZ hr hvk,if_pos rfl] at hrd
     have hw:=hvk.wf hok hr
     have hrl:=Zu hok hw (Qy p b.fuel l k).1.count.toNat
     have hct:=hvk.count
     have hrl2:(ready p (Qy p b.fuel l k).1).length≤384:=by unfold ready;omega
     have hrl3:(ready p (Qy p b.fuel l k).1).length≤maxLen:=by omega
     (with_reducible refine rg QIr fun R hR=>?_);simp only [go_sem,QC])
  | ((with_reducible refine QZ 6 ?_)
     have hr0:0<(ready p (Qy p b.fuel l k).1).length:=by have q:=hb34;exact List.length_pos_iff.2 q
     refine Zo (J49 ok.sized 4 rfl) ?_
     simp only [St.frz,Tm.frz,E.frz,E.frzL,Obj.frz,List.map_cons,List.map_nil,List.set_cons_zero,List.set_cons_succ,Nat.reduceBEq,Nat.beq_refl,if_true,if_false,Nat.beq_eq_true_eq,reduceCtorEq,Bool.false_eq_true,V.get,Nat.reduceEqDiff]
     simp only [List.drop_zero,List.take_of_length_le,List.length_map,Nat.le_refl]
     (with_reducible refine rg QIr fun R hR=>?_);simp only [go_sem,QC])
  | ((with_reducible refine QZ 8 ?_)
     have hkl:k<l.length:=hb44
     rw [if_pos hkl]
     have hdo:=Uz p (Qy p b.fuel l k).1 ((ready p (Qy p b.fuel l k).1).getD (Vx (l.getD k 0) (ready p (Qy p b.fuel l k).1).length).toNat default) b.fuel hpp hvk.shape
     rw [QOc hr hvk] at hdo
     (with_reducible refine rg QIr fun R hR=>?_);simp only [go_sem,QC])
  | ((with_reducible refine rg QIr fun R hR=>?_);simp only [go_sem,QC])
  | ((with_reducible refine QH 25 rfl (fun hb25=>?_) fun hb25=>?_);all_goals (try simp [-List.getD_eq_getElem?_getD] at hb25;try (exfalso;omega)))
  | ((with_reducible refine QH 34 rfl (fun hb34=>?_) fun hb34=>?_);all_goals (try simp [-List.getD_eq_getElem?_getD] at hb34;try (exfalso;omega)))
  | ((with_reducible refine QH 44 rfl (fun hb44=>?_) fun hb44=>?_);all_goals (try simp [-List.getD_eq_getElem?_getD] at hb44;try (exfalso;omega)))
  | ((with_reducible refine YQ ?_)
     refine Zo ((St.le.own (t:=9) 39 rfl).trans ((St.le.keep [2,3,4,7,9]).trans (Qq (by first|rfl|(simp;done)|fail)))) (YR (fun n τ=>∃ (k:Nat),n=b.steps.toNat+1-k∧(k≤Yn l b∧∀ j:Nat,j<k→0<(ready p (Qy p b.fuel l j).1).length)∧τ={ tm:=[(2,true,.fn 97 [.fptr 23 (.list (l.map V.int))]),(3,true,.ptr 0 [] 26),(4,true,.ptr 1 [] 77),(7,true,.ptr 2 [] 37),(9,true,.sl 3 39 0 k false)],ob:=[.var 26 (.data 26 p.v),.var 77 (.data 77 b.v),.var 37 (.data 37 (Stt.v (Qy p b.fuel l k).1)),.row 39 ((Qy p b.fuel l k).2.map Pck.v)],out:=[],nt:=60 }) (b.steps.toNat+1) ⟨0,rfl,⟨Nat.zero_le _,fun j h=>by omega⟩,rfl⟩ ?_)
     rintro n τ ⟨k,hn,⟨hk,hz⟩,rfl⟩
     have hkl2:=Xr (p:=p) (fuel:=b.fuel) (l:=l) k)
  | ((with_reducible refine WM ?_)
     first
      | (have hlt:k<Yn l b:=by omega
         refine Zt (b.steps.toNat+1-(k+1)) _ (by omega) ((WN 4 rfl).trans (Qq (by simp [-List.getD_eq_getElem?_getD,Qy,yA,List.take_of_length_le,hkl2]))) ⟨k+1,rfl,⟨hlt,fun j h=>?_⟩,rfl⟩
         by_cases h2:j<k
         · exact hz j h2
         · have h3:j=k:=by omega
           rw [h3];exact hr0))
  | ((with_reducible first|refine ZH ?_|refine ZG ?_)
     simp only [go_sem,QJ,QK,QG,seval]
     first
      | (have hkm:k=Yn l b:=by omega
         rw [Vp hkm hz]
         refine ⟨rfl,?_,?_⟩
         · simp [List.take_of_length_le,hkl2]
         · intro e he
           first|(cases he;done)|(intro j u lo n c h;simp at he;subst he;cases h))
      | (have q:=hb34
         have h0:(ready p (Qy p b.fuel l k).1).length=0:=by rw [hb34];rfl
         have e:Ym p l b=k:=by
          by_cases hc:k<Yn l b
          · exact QB0 hc h0 hz
          · exact Vp (by omega) hz
         rw [e]
         refine ⟨rfl,?_,?_⟩
         · simp [List.take_of_length_le,hkl2]
         · intro e he
           first|(cases he;done)|(intro j u lo n c h;simp at he;subst he;cases h))
      | (have q:=hb44
         have e:Ym p l b=k:=Vp (by omega) hz
         rw [e]
         refine ⟨rfl,?_,?_⟩
         · simp [List.take_of_length_le,hkl2]
         · intro e he
           first|(cases he;done)|(intro j u lo n c h;simp at he;subst he;cases h)))
def QOG:List (List Nat):=[[3,4,5],[3,4,5,8],[3,4,5,8,15],[6,7],[6,7]]
theorem Z1 (p:Prg) (l:List Int) (b:Bud) (hp:p.Fit) (hl:l.length≤maxLen):Ctr Go.Proofs.Tryz.prog tab 56 [26,23,77] [64,49] [p.v,.list (l.map V.int),b.v] [.list ((QR p l b).map Pck.v),.int (ZF p l.length b)]:=by
 have hpp:=hp
 have hcode:True→True:=id
 have hsl:True→True:=id
 refine Ctr.body ok Go.Proofs.Tryz.func56 rfl rfl 21 rfl [.tmp 6,.tmp 7] rfl (by simp [QE]) ?_
 simp only [go_sem,Nat.reduceAdd]
 repeat' first
  | ((with_reducible refine Q2 fun R1 hR1=>?_);(simp only [go_sem,seval,-List.reduceReplicate,Bool.cond_false_right,Bool.cond_true_left,QF]);(repeat' with_reducible refine And.intro ?_ ?_);all_goals first|(refine hR1 _ ?_;clear hR1 R1)|((first|refine cq (cc (Uv p _ b hpp) (by first|rfl|(simp [go_sem,List.take_of_length_le,List.length_map,List.map_take,List.drop_zero];done)|fail)) ?_|refine ce (cf (QEX p l b hpp hz.2.2.1 hz.2.1 hz.1 hl) ?_ (by first|rfl|(simp [go_sem,List.take_of_length_le,List.length_map,List.map_take,List.drop_zero];done)|fail)));all_goals ((try simp only [go_sem,seval,-List.reduceReplicate,Bool.cond_false_right,Bool.cond_true_left,QF]);(repeat' with_reducible refine And.intro ?_ ?_);all_goals first|(refine hR1 _ ?_;clear hR1 R1)|exact ZQ))|exact ZQ)
  | ((with_reducible refine Q1 ?_);refine hR _ ?_;clear hR R;try simp only [go_sem,QOG,Nat.reduceBEq])
  | (with_reducible first|refine J1 ?_|refine J2 ?_|refine J3 ?_|refine Q0 ?_|refine Qz ?_)
  | ((with_reducible refine QZ 4 ?_)
     have hz:=UY hb15
     refine Zo (St.le.frzVal ok.sized 1 rfl rfl) ?_
     simp only [St.frz,Tm.frz,E.frz,E.frzL,Obj.frz,List.map_cons,List.map_nil,List.set_cons_zero,List.set_cons_succ,Nat.reduceBEq,Nat.beq_refl,if_true,if_false,Nat.beq_eq_true_eq,reduceCtorEq,Bool.false_eq_true,V.get,Nat.reduceEqDiff]
     (with_reducible refine rg QOG fun R hR=>?_);simp only [go_sem,QC])
  | ((with_reducible refine rg QOG fun R hR=>?_);simp only [go_sem,QC])
  | ((with_reducible refine QH 15 rfl (fun hb15=>?_) fun hb15=>?_);all_goals (try simp [-List.getD_eq_getElem?_getD] at hb15;try (exfalso;omega)))
  | ((with_reducible first|refine ZH ?_|refine ZG ?_)
     simp only [go_sem,QJ,QK,QG,seval]
     first
      | (have q:=hb15
         refine ⟨⟨rfl,?_⟩,rfl⟩
         unfold QR
         rw [if_neg hb15]
         rfl)
      | (have q:=hb15
         have e:QR p l b=(Qy p b.fuel l (Ym p l b)).2:=if_pos hb15
         rw [e,hb15]
         refine ⟨⟨rfl,?_,?_⟩,rfl,rfl⟩
         · simp [List.take_of_length_le]
         · intro e he
           first|(cases he;done)|(intro j u lo n c h;simp at he;subst he;cases h)))
end Go.Eng.Tryz
namespace Go.Eng.Tryz
open Go.RowKit Go.Eng
set_option maxHeartbeats 0
set_option maxRecDepth 20000
theorem yL (p:Prg) (l:List Int) (b:Bud):(QR p l b).length≤256:=by
 by_cases h:ZF p l.length b=0
 · have hz:=UY h
   have:=yK h
   have hm:Yn l b=min l.length b.steps.toNat:=rfl
   omega
 · unfold QR
   rw [if_neg h]
   decide
end Go.Eng.Tryz
