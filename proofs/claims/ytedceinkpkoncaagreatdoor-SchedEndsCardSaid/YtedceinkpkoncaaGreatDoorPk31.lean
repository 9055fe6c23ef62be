/- A part of the proof: walks through the program's functions, and what they compute. -/
import Derived.Test.YtedceinkpkoncaaGreatDoorPk20
import Derived.Test.YtedceinkpkoncaaGreatDoorPk30
set_option linter.unusedSimpArgs false
set_option linter.unusedVariables false
namespace Go.Eng.Tryz
open Go.RowKit Go.Eng
set_option maxHeartbeats 0
set_option maxRecDepth 20000
def QOF:List (List Nat):=[[1,2,4],[1,2,4,11],[4,5],[1,2,4,15],[4,5],[1,2,4,6],[1,2,4,6,19,20,21],[1,2,4,6,19,20,21,22],[1,2,4,6,7,8,19,20,21],[1,2,4,6,19,20,21],[1,2,4,6,19,20,21],[4,6],[4,5]]
theorem Ux (p:Prg) (fuel:Int) (hp:p.Fit):Ctr Go.Proofs.Tryz.prog tab 58 [26,3] [37,49] [p.v,.int fuel] [(QS QB p fuel).1.v,.int (QS QB p fuel).2]:=by
 have hpp:=hp
 have hfit:=hp
 have hcode:=p.code_len hp
 have hsl:=p.sels_len hp
 obtain ⟨hp1,hp2,hp3,hp4⟩:=hp
 refine Ctr.body ok Go.Proofs.Tryz.func58 rfl rfl 39 rfl [.cell 4 37,.tmp 5] rfl (by simp [QE]) ?_
 simp only [go_sem,Nat.reduceAdd]
 repeat' first
  | ((with_reducible refine SARA.told 8 3 ?_)
     rw [yw (by omega)])
  | ((with_reducible refine Q2 fun R1 hR1=>?_);(simp only [go_sem,seval,-List.reduceReplicate,Qv,QF,Stt.put4,Stt.put0,Stt.put3,Bool.cond_false_right,Bool.cond_true_left,Gor.put0,Gor.put2,Gor.put3,Gor.put4,ZC]);(repeat' with_reducible refine And.intro ?_ ?_);all_goals first|(refine hR1 _ ?_;clear hR1 R1)|((first|refine cq (cc (VZ p hpp)) ?_|refine cq (cc (qr _)) ?_|refine cq (cc (UG p (⟨1,0,0,0,List.replicate 8 0⟩:Gor) fuel hpp hr hgi hf rfl)) ?_);all_goals ((try simp only [go_sem,seval,-List.reduceReplicate,Qv,QF,Stt.put4,Stt.put0,Stt.put3,Bool.cond_false_right,Bool.cond_true_left,Gor.put0,Gor.put2,Gor.put3,Gor.put4,ZC]);(repeat' with_reducible refine And.intro ?_ ?_);all_goals first|(refine hR1 _ ?_;clear hR1 R1)|exact ZQ))|exact ZQ)
  | ((with_reducible refine Q1 ?_);refine hR _ ?_;clear hR R;try simp only [go_sem,QOF,Nat.reduceBEq])
  | (with_reducible first|refine J1 ?_|refine J2 ?_|refine J3 ?_|refine J4 ?_|refine J5 ?_|refine J6 ?_|refine J7 ?_|refine J8 (by decide) ?_|refine J9 ?_|refine WL ?_|refine Q0 ?_|refine Qz ?_|refine YZ ?_|refine WK ?_)
  | ((with_reducible refine QZ 5 ?_)
     have hr:QP p=true:=hb11
     have hok:=Prg.ok hr
     have hsz:=hok.sizes
     unfold Ze at hsz
     have hf:0≤fuel∧fuel≤4096:=by omega
     have hgi:gorIn p (⟨1,0,0,0,List.replicate 8 0⟩:Gor):=⟨(VY hok).f0,(VY hok).f1,(VY hok).p0,(VY hok).p1,rfl⟩
     (with_reducible refine rg QOF fun R hR=>?_);simp only [go_sem,QC])
  | ((with_reducible refine rg QOF fun R hR=>?_);simp only [go_sem,QC])
  | ((with_reducible refine QH 11 rfl (fun hb11=>?_) fun hb11=>?_);all_goals (try simp [-List.getD_eq_getElem?_getD] at hb11;try (exfalso;omega)))
  | ((with_reducible refine QH 15 rfl (fun hb15=>?_) fun hb15=>?_);all_goals (try simp [-List.getD_eq_getElem?_getD] at hb15;try (exfalso;omega)))
  | ((with_reducible refine QH 22 rfl (fun hb22=>?_) fun hb22=>?_);all_goals (try simp [-List.getD_eq_getElem?_getD] at hb22;try (exfalso;omega)))
  | ((with_reducible refine YQ ?_)
     refine Zo (Qq (by (simp only [qd];rfl))) (YR (fun n τ=>∃ (i:Nat),n=p.vars.length-i∧(i≤p.vars.length)∧τ={ tm:=[(1,true,.int .i64 fuel),(2,true,.ptr 0 [] 26),(4,true,.ptr 1 [] 37),(6,true,.ptr 2 [] 37),(19,true,.fs 139 (p.vars.map Vr.v) false),(20,true,.int .i64 p.vars.length),(21,true,.int .i64 i)],ob:=[.var 26 (.data 26 p.v),.var 37 (.data 37 zeroStt.v),.var 37 (.data 37 (Stt.v ⟨Zy p i,zeroStt.owner,zeroStt.chans,zeroStt.gos,1⟩))],out:=[],nt:=39 }) (p.vars.length) ⟨0,rfl,by omega,rfl⟩ ?_)
     rintro n τ ⟨i,hn,hi,rfl⟩)
  | ((with_reducible refine WM ?_)
     first
      | (have hlt:i<p.vars.length:=by omega
         refine Zt (p.vars.length-(i+1)) _ (by omega) ((WN 3 rfl).trans (Qq (by simp only [QD hlt hp1,qe p (show i<8 by omega),List.take_succ_cons,List.take_zero]))) ⟨i+1,rfl,hlt,rfl⟩))
  | ((with_reducible first|refine ZH ?_|refine ZG ?_)
     simp only [go_sem,QJ,QK,QG,seval]
     first
      | (have hi':i=p.vars.length:=by omega
         subst hi'
         have e:QS QB p fuel=(⟨Zy p p.vars.length,zeroStt.owner,zeroStt.chans,zeroStt.gos.set 0 (Yb QB p zeroGor fuel),1⟩,0):=(if_neg (by rw [hr];simp)).trans (if_neg (by omega))
         rw [e]
         exact ⟨⟨rfl,rfl⟩,⟨rfl,rfl⟩⟩)
      | (have q:=hb15
         have e:QS QB p fuel=(zeroStt,1):=(if_neg (by rw [hb11];simp)).trans (if_pos (by omega))
         rw [e]
         exact ⟨⟨rfl,rfl⟩,⟨rfl,rfl⟩⟩)
      | (have e:QS QB p fuel=(zeroStt,3):=if_pos hb11
         rw [e]
         exact ⟨⟨rfl,rfl⟩,⟨rfl,rfl⟩⟩))
end Go.Eng.Tryz
namespace Go.Eng.Tryz
open Go.RowKit Go.Eng
set_option maxHeartbeats 0
set_option maxRecDepth 20000
theorem QOk {p:Prg} {n:Int} {b:Bud} (h:¬Yk p=0):ZF p n b=3:=by
 unfold ZF
 rw [if_pos (show QP p=false from decide_eq_false h)]
theorem QOl {p:Prg} {n:Int} {b:Bud} (h:Yk p=0) (h2:256<n):ZF p n b=2:=by
 unfold ZF
 rw [if_neg (by rw [show QP p=true from decide_eq_true h];simp),if_pos h2]
theorem QJ1 {p:Prg} {n:Int} {b:Bud} (h:Yk p=0) (h2:¬256<n):ZF p n b=if Yo b=false then 6 else 0:=by
 unfold ZF
 rw [if_neg (by rw [show QP p=true from decide_eq_true h];simp),if_neg h2]
def QMY:List (List Nat):=[[0,1],[4]]
theorem QBl (n m:Int):Ctr Go.Proofs.Tryz.prog tab 135 [3,3] [4] [.int n,.int m] [.bool (decide (0≤n)&&decide (n≤m))]:=by
 have hcode:True→True:=id
 have hsl:True→True:=id
 refine Ctr.body ok Go.Proofs.Tryz.func135 rfl rfl 12 rfl [.tmp 4] rfl (by simp [QE]) ?_
 simp only [go_sem,Nat.reduceAdd]
 repeat' first
  | ((with_reducible refine Q2 fun R1 hR1=>?_);(simp only [go_sem,seval,-List.reduceReplicate,Bool.cond_false_right,Bool.cond_true_left]);(repeat' with_reducible refine And.intro ?_ ?_);all_goals first|(refine hR1 _ ?_;clear hR1 R1)|(intro hgf;simp only [hgf];refine hR1 _ ?_;clear hR1 R1)|exact ZQ)
  | ((with_reducible refine Q1 ?_);refine hR _ ?_;clear hR R;try simp only [go_sem,QMY,Nat.reduceBEq])
  | (with_reducible first|refine J1 ?_|refine J2 ?_|refine Q0 ?_|refine Qz ?_)
  | ((with_reducible refine rg QMY fun R hR=>?_);simp only [go_sem,QC])
  | ((with_reducible first|refine ZH ?_|refine ZG ?_)
     simp only [go_sem,QJ,QK,QG,seval]
     first
      | (exact ⟨rfl,rfl⟩)
      | (rfl)
      | (refine ⟨rfl,?_⟩
         by_cases h:0≤n<;>simp [h]))
def QQR:List (List Nat):=[[1,3,5],[1,5,7],[1,5,16],[6],[5,18],[6],[5,9],[37],[6],[6]]
theorem Uv (p:Prg) (n:Int) (b:Bud) (hp:p.Fit):Ctr Go.Proofs.Tryz.prog tab 89 [26,3,77] [49] [p.v,.int n,b.v] [.int (ZF p n b)]:=by
 have hpp:=hp
 have hcode:True→True:=id
 have hsl:True→True:=id
 refine Ctr.body ok Go.Proofs.Tryz.func89 rfl rfl 38 rfl [.tmp 6] rfl (by simp [QE]) ?_
 simp only [go_sem,Nat.reduceAdd]
 repeat' first
  | ((with_reducible refine Q2 fun R1 hR1=>?_);(simp only [go_sem,seval,-List.reduceReplicate,Bool.cond_false_right,Bool.cond_true_left]);(repeat' with_reducible refine And.intro ?_ ?_);all_goals first|(refine hR1 _ ?_;clear hR1 R1)|(intro hgf;simp only [hgf];refine hR1 _ ?_;clear hR1 R1)|((first|refine ce (cf (U0 p hpp) ?_ (by first|rfl|(simp [go_sem,List.take_of_length_le,List.length_map];done)|fail))|refine ⟨_,_,rfl,.inr ⟨fun _=>CallE.ctr ok (U0 p hpp) (by first|rfl|(simp [go_sem,List.take_of_length_le,List.length_map];done)|fail) ?_,?_⟩⟩|refine cq (cc (QBl _ _) (by first|rfl|(simp [go_sem,List.take_of_length_le,List.length_map];done)|fail)) ?_|refine ⟨_,_,rfl,.inl ⟨_,fun hg=>CallQ.ctr ok (QBl _ _) (by first|rfl|(simp [go_sem,List.take_of_length_le,List.length_map];done)|fail) rfl,?_⟩⟩);all_goals ((try simp only [go_sem,seval,-List.reduceReplicate,Bool.cond_false_right,Bool.cond_true_left]);(repeat' with_reducible refine And.intro ?_ ?_);all_goals first|(refine hR1 _ ?_;clear hR1 R1)|(intro hgf;simp only [hgf];refine hR1 _ ?_;clear hR1 R1)|exact ZQ))|exact ZQ)
  | ((with_reducible refine Q1 ?_);refine hR _ ?_;clear hR R;try simp only [go_sem,QQR,Nat.reduceBEq])
  | (with_reducible first|refine J1 ?_|refine J2 ?_|refine J3 ?_|refine Q0 ?_|refine Qz ?_)
  | ((with_reducible refine rg QQR fun R hR=>?_);simp only [go_sem,QC])
  | ((with_reducible refine QH 16 rfl (fun hb16=>?_) fun hb16=>?_);all_goals (try simp [-List.getD_eq_getElem?_getD] at hb16))
  | ((with_reducible refine QH 18 rfl (fun hb18=>?_) fun hb18=>?_);all_goals (try simp [-List.getD_eq_getElem?_getD] at hb18))
  | ((with_reducible refine QH 37 rfl (fun hb37=>?_) fun hb37=>?_);all_goals (try simp [-List.getD_eq_getElem?_getD] at hb37))
  | ((with_reducible first|refine ZH ?_|refine ZG ?_)
     simp only [go_sem,QJ,QK,QG,seval]
     first
      | (have q:¬_:=hb16
         refine ⟨rfl,?_⟩
         rw [QOk hb16])
      | (have q:=hb18
         refine ⟨rfl,?_⟩
         rw [QOl hb16 hb18])
      | (have q:=hb37
         refine ⟨rfl,?_⟩
         rw [QJ1 hb16 (by omega)]
         first|(rw [if_pos (by simp only [Yo];simp;omega)];done)|(rw [if_neg (by simp only [Yo];simp;omega)];done)))
def QQU:List (List Nat):=[[2,3],[5],[4]]
theorem We (p:Prg) (s:Stt) (hp:p.Fit) (hr:QP p=true) (hv:Vld p s):Ctr Go.Proofs.Tryz.prog tab 82 [26,37] [4] [p.v,s.v] [.bool (decide (0<(ready p s).length))]:=by
 have hpp:=hp
 have hcode:True→True:=id
 have hsl:True→True:=id
 have hmx:256≤maxLen:=by decide
 have hw:=hv.wf (Prg.ok hr) hr
 have hrl:=Zu (Prg.ok hr) hw s.count.toNat
 have hct:=hv.count
 have hrl2:(ready p s).length≤384:=by unfold ready;omega
 have hmx2:384≤maxLen:=by decide
 have hrl3:(ready p s).length≤maxLen:=by omega
 have hrc:=Wh p s hpp hv.shape
 rw [zZ hr hv,if_pos rfl] at hrc
 refine Ctr.body ok Go.Proofs.Tryz.func82 rfl rfl 16 rfl [.tmp 4] rfl (by simp [QE]) ?_
 simp only [go_sem,Nat.reduceAdd]
 repeat' first
  | ((with_reducible refine Q2 fun R1 hR1=>?_);(simp only [go_sem,seval,-List.reduceReplicate,Bool.cond_false_right,Bool.cond_true_left]);(repeat' with_reducible refine And.intro ?_ ?_);all_goals first|(refine hR1 _ ?_;clear hR1 R1)|((first|refine ce (cf (hrc) ?_ (by first|rfl|(simp [go_sem,List.take_of_length_le,List.length_map];done)|fail)));all_goals ((try simp only [go_sem,seval,-List.reduceReplicate,Bool.cond_false_right,Bool.cond_true_left]);(repeat' with_reducible refine And.intro ?_ ?_);all_goals first|(refine hR1 _ ?_;clear hR1 R1)|exact ZQ))|exact ZQ)
  | ((with_reducible refine Q1 ?_);refine hR _ ?_;clear hR R;try simp only [go_sem,QQU,Nat.reduceBEq])
  | (with_reducible first|refine J1 ?_|refine J2 ?_|refine Q0 ?_|refine Qz ?_)
  | ((with_reducible refine rg QQU fun R hR=>?_);simp only [go_sem,QC])
  | ((with_reducible first|refine ZH ?_|refine ZG ?_)
     simp only [go_sem,QJ,QK,QG,seval]
     first
      | (exact ⟨rfl,rfl⟩)
      | (rfl)
      | (refine ⟨rfl,?_⟩
         simp))
end Go.Eng.Tryz
namespace Go.Eng.Tryz
open Go.RowKit Go.Eng
set_option maxHeartbeats 0
set_option maxRecDepth 20000
structure Grow (p:Prg) (l:List Pck) (b:Bud) (X:Nat→List Obj) (N r:Nat) (f:FuncId) (caps:List E):Prop where
 len:∀ k,(X k).length=N
 under:∀ k,Qk N (X k)=true
 capsU:E.underL N caps=true
 kills:E.killL r caps=caps
 row:r<N∨1000000≤r
 call:∀ (k:Nat) (tm:Tm) (out:List Tm) (nt:Nat) (L:List Obj) (K:St→E→Prop),k<l.length→k<256→Tm.under (N+L.length) tm=true→Q7 (N+L.length) out=true→Qk (N+L.length) L=true →
  Tm.kill r tm=tm→out.map (Tm.kill r)=out→L.map (Obj.kill r)=L→K { tm:=tm,ob:=X (k+1)++L,out:=out,nt:=nt } (.tup []) →
  CallE Go.Proofs.Tryz.prog tab { tm:=tm,ob:=X k++L,out:=out,nt:=nt } f (.data 37 (Stt.v (QY QB p b.fuel (QS QB p b.fuel).1 l (k+1)))::.data 48 (Event.v (Xi QB p b.fuel (QS QB p b.fuel).1 l k))::caps) K
theorem Nat.ne_of_row {r N:Nat} (h:r<N∨1000000≤r) (hN:N≤1000) (j:Nat) (hj:j≤50):(N+j=r)=False:=by
 simp;omega
theorem Nat.ne_of_row0 {r N:Nat} (h:r<N∨1000000≤r) (hN:N≤1000):(N=r)=False:=by
 simp;omega
theorem Xv (N i j:Nat):Nat.blt (N+i) (N+j)=decide (i<j):=by
 by_cases h:i<j
 · rw [decide_eq_true h,Nat.blt_eq];omega
 · rw [decide_eq_false h]
   cases hb:Nat.blt (N+i) (N+j) with
   | false=>rfl
   | true=>rw [Nat.blt_eq] at hb;omega
theorem XY (N j:Nat):Nat.blt N (N+j)=decide (0<j):=by
 have:=Xv N 0 j
 simpa using this
theorem QLM {p:Prg} (hr:QP p=true) {fuel:Int} (hf:0≤fuel∧fuel≤4096) {s:Stt} {l:List Pck} {j:Nat} (hv:Vld p (QY QB p fuel s l j)) (h:(xQ p (QY QB p fuel s l j) (l.getD j default) fuel).2.2=0):YD QB p fuel s l j=true:=by
 cases hk:YD QB p fuel s l j with
 | true=>rfl
 | false=>rw [QOb hr hf hv hk] at h;cases h
theorem QLN {p:Prg} (hr:QP p=true) {fuel:Int} (hf:0≤fuel∧fuel≤4096) {s:Stt} {l:List Pck} {j:Nat} (hj:j<l.length) (hv:Vld p (QY QB p fuel s l j)) (h:¬(xQ p (QY QB p fuel s l j) (l.getD j default) fuel).2.2=0):YD QB p fuel s l j=false:=by
 cases hk:YD QB p fuel s l j with
 | false=>rfl
 | true=>rw [QFP hr hf hj hv hk] at h;exact absurd rfl h
def QHC:List (List Nat):=[[1,3,4,6,8],[1,3,4,6,8,10],[1,3,4,6,8,10,24,25,26],[1,3,4,6,8,10,24,25,26,27],[1,3,4,6,8,10,12,13,24,25,26],[1,3,4,6,8,10,12,14,15,16,24,25,26],[1,3,4,6,8,10,12,14,15,24,25,26,42],[8,9],[1,3,4,6,8,10,15,24,25,26],[1,3,4,6,8,10,24,25,26],[1,3,4,6,8,10,24,25,26],[8,9]]
theorem Vb (p:Prg) (l:List Pck) (b:Bud) (hp:p.Fit) (hr:QP p=true) (hf:0≤b.fuel∧b.fuel≤4096) (hl:l.length≤256) {X:Nat→List Obj} {N r:Nat} {f:FuncId} {caps:List E} (hG:Grow p l b X N r f caps) (hN:N≤1000) {c:Bool} {pv:List V} (hpv:pv=l.map Pck.v) {tm:Tm} {out:List Tm} {nt:Nat} {K:St→E→Prop} (ht:Tm.under N tm=true) (ho:Q7 N out=true) (hk1:Tm.kill r tm=tm) (hk2:out.map (Tm.kill r)=out)
 (h:K { tm:=tm,ob:=X (ZN QB p b.fuel (QS QB p b.fuel).1 l),out:=out,nt:=nt } (.tup [.data 37 (Stt.v (QY QB p b.fuel (QS QB p b.fuel).1 l (ZN QB p b.fuel (QS QB p b.fuel).1 l))),.int .i64 (ZN QB p b.fuel (QS QB p b.fuel).1 l)])) :
 CallE Go.Proofs.Tryz.prog tab { tm:=tm,ob:=X 0,out:=out,nt:=nt } 90 [.data 26 p.v,.fs 39 pv c,.data 77 b.v,.fn f caps] K:=by
 subst hpv
 refine CallE.cut N ?_
 have hpp:=hp
 have hok:=Prg.ok hr
 have hcode:True→True:=id
 have hsl:True→True:=id
 have hmx:256<maxLen:=by decide
 have hnr:=Nat.ne_of_row hG.row hN
 have hnr0:=Nat.ne_of_row0 hG.row hN
 obtain ⟨s0,hs0⟩:∃ s0,s0=(QS QB p b.fuel).1:=⟨_,rfl⟩
 have hv0:Vld p s0:=by rw [hs0];exact ya Yp hr hok hf
 have hGc:=hG.call
 rw [← hs0] at h hGc
 have hk1':(tm.map fun x=>(x.1,x.2.1,E.kill r x.2.2))=tm:=hk1
 have ht':∀ m,Tm.under (N+m) tm=true:=fun m=>Tm.under_mono (by omega) ht
 have ho':∀ m,Q7 (N+m) out=true:=fun m=>UJ (by omega) ho
 have hcU:∀ m,E.underL (N+m) caps=true:=fun m=>E.underL_mono (by omega) hG.capsU
 have hX':∀ k m,Qk (N+m) (X k)=true:=fun k m=>Z8 (by omega) (hG.under k)
 refine CallE.body ok Go.Proofs.Tryz.func90 rfl rfl 54 rfl [.cell 8 37,.tmp 9] rfl (by simp) ?_
 simp only [enter,Zl,Nat.zero_add,Nat.reduceAdd]
 repeat' first
  | ((with_reducible refine SARA.told 4 _ ?_);try simp only [hAt])
  | ((with_reducible refine Q2 fun R1 hR1=>?_);(simp only [go_sem,seval,-List.reduceReplicate,List.append_assoc,List.length_append,hG.len,QAt (hG.len _),yv (hG.len _),QDl (hG.len _),vO (hG.len _),Nat.add_zero,Bool.cond_false_right,Bool.cond_true_left]);(repeat' with_reducible refine And.intro ?_ ?_);all_goals first|(refine hR1 _ ?_;clear hR1 R1)|((first|refine ce (cf (Ux p b.fuel hpp) ?_ (by first|rfl|(simp [go_sem,List.take_of_length_le,List.length_map];done)|fail))|refine ce (cf (hdo) ?_ (by first|rfl|(simp [go_sem,List.take_of_length_le,List.length_map];done)|fail))|refine ⟨_,_,rfl,.inr (hGc i _ _ _ _ _ hlt (by omega) ?_ ?_ ?_ ?_ ?_ ?_ ?_)⟩);all_goals ((try simp only [go_sem,seval,-List.reduceReplicate,List.append_assoc,List.length_append,hG.len,QAt (hG.len _),yv (hG.len _),QDl (hG.len _),vO (hG.len _),Nat.add_zero,Bool.cond_false_right,Bool.cond_true_left]);(repeat' with_reducible refine And.intro ?_ ?_);all_goals first|(refine hR1 _ ?_;clear hR1 R1)|omega|rfl|decide|assumption|(intro _;omega)|(simp;done)|(simp [-List.getD_eq_getElem?_getD];omega)|exact hcode _|(intro _;exact hcode _)|exact hsl _|(intro _;exact hsl _)|(simp [Tm.under,E.under,E.underL,Q7,Qk,Qm,W7 (hG.len _),Ww (hG.len _),Xv,XY,ht',ho',hcU,hX',ht,ho,hG.under,hk1',hk1,hk2,hnr,hnr0,hG.kills,decide_true];done)))|omega|rfl|decide|assumption|(intro _;omega)|(simp;done)|(simp [-List.getD_eq_getElem?_getD];omega)|exact hcode _|(intro _;exact hcode _)|exact hsl _|(intro _;exact hsl _)|(simp [Tm.under,E.under,E.underL,Q7,Qk,Qm,W7 (hG.len _),Ww (hG.len _),Xv,XY,ht',ho',hcU,hX',ht,ho,hG.under,hk1',hk1,hk2,hnr,hnr0,hG.kills,decide_true];done))
  | ((with_reducible refine Q1 ?_);refine hR _ ?_;clear hR R;try simp only [go_sem,QHC,Nat.reduceBEq])
  | (with_reducible first|refine J1 ?_|refine J2 ?_|refine J3 ?_|refine J4 ?_|refine J5 ?_|refine J6 ?_|refine J7 ?_|refine J8 (by decide) ?_|refine J9 ?_|refine WL ?_|refine Q0 ?_|refine Qz ?_|refine YZ ?_|refine WK ?_)
  | ((with_reducible refine QZ 2 ?_)
     rw [← hs0]
     (with_reducible refine rg QHC fun R hR=>?_);simp only [go_sem,QC])
  | ((with_reducible refine QZ 4 ?_)
     have hlt:i<l.length:=by omega
     have hAt:=Qr Pck.v l (i:=i) (by omega)
     (with_reducible refine rg QHC fun R hR=>?_);simp only [go_sem,QC])
  | ((with_reducible refine QZ 5 ?_)
     have hvi:Vld p (QY QB p b.fuel s0 l i):=VX Yp hr hok hf hv0 (by omega) hz
     have hdo:=Uz p (QY QB p b.fuel s0 l i) (l.getD i default) b.fuel hpp hvi.shape
     (with_reducible refine rg QHC fun R hR=>?_);simp only [go_sem,QC])
  | ((with_reducible refine QZ 8 ?_)
     have hk:=QLM hr hf hvi hb42
     rw [QFP hr hf hlt hvi hk]
     (with_reducible refine rg QHC fun R hR=>?_);simp only [go_sem,QC])
  | ((with_reducible refine rg QHC fun R hR=>?_);simp only [go_sem,QC])
  | ((with_reducible refine QH 27 rfl (fun hb27=>?_) fun hb27=>?_);all_goals (try simp [-List.getD_eq_getElem?_getD] at hb27;try (exfalso;omega)))
  | ((with_reducible refine QH 42 rfl (fun hb42=>?_) fun hb42=>?_);all_goals (try simp [-List.getD_eq_getElem?_getD] at hb42;try (exfalso;omega)))
  | ((with_reducible refine YQ ?_)
     refine Zo (Qq (by (simp only [WQ];rfl))) (YR (fun n τ=>∃ (i:Nat),n=l.length-i∧(i≤l.length∧∀ k:Nat,k<i→YD QB p b.fuel s0 l k=true)∧τ={ tm:=[(1,true,.fs 39 (l.map Pck.v) c),(3,true,.fn f caps),(4,true,.ptr N [] 26),(6,true,.ptr (N+1) [] 77),(8,true,.ptr (N+2) [] 37),(10,true,.ptr (N+3) [] 37),(24,true,.fs 39 (l.map Pck.v) c),(25,true,.int .i64 l.length),(26,true,.int .i64 i)],ob:=X i++[.var 26 (.data 26 p.v),.var 77 (.data 77 b.v),.var 37 (.data 37 (tab.zero 37)),.var 37 (.data 37 (Stt.v (QY QB p b.fuel s0 l i)))],out:=(tm::out),nt:=54 }) (l.length) ⟨0,rfl,⟨by omega,fun k h=>by omega⟩,rfl⟩ ?_)
     rintro n τ ⟨i,hn,⟨hi,hz⟩,rfl⟩)
  | ((with_reducible refine WM ?_)
     first
      | (have hlt:i<l.length:=by omega
         have hw:=QD hlt (show l.length≤maxLen by omega)
         refine Zt (l.length-(i+1)) _ (by omega) ((WN (N+4) (by simp [St.under,List.append_assoc,Tm.under,E.under,E.underL,Q7,Qk,Qm,W7 (hG.len _),Ww (hG.len _),Xv,XY,ht',ho',hcU,hX',ht,ho,hG.under,hk1',hk1,hk2,hnr,hnr0,hG.kills,decide_true])).trans (Qq (by simp [-List.getD_eq_getElem?_getD,hw,W7 (hG.len _)]))) ⟨i+1,rfl,⟨hlt,fun k h=>?_⟩,rfl⟩
         by_cases h2:k<i
         · exact hz k h2
         · have h3:k=i:=by omega
           rw [h3];exact hk))
  | ((with_reducible first|refine xS ?_|refine xR ?_)
     simp only [go_sem,QJ,QK,QG,seval]
     simp only [go_sem,seval,-List.reduceReplicate,List.append_assoc,List.length_append,hG.len,QAt (hG.len _),yv (hG.len _),QDl (hG.len _),vO (hG.len _),Nat.add_zero,Bool.cond_false_right,Bool.cond_true_left]
     first
      | (have q:=hb42
         have hk:=QLN hr hf hlt hvi hb42
         rw [QBB QB hlt hk hz] at h
         refine ⟨⟨by simp [St.under,Tm.under,E.under,E.underL,Q7,Qk,Qm,W7 (hG.len _),Ww (hG.len _),Xv,XY,ht',ho',hcU,hX',ht,ho,hG.under,hk1',hk1,hk2,hnr,hnr0,hG.kills,decide_true],rfl⟩,?_⟩
         simpa [Ww (hG.len _)] using h)
      | (have hi':i=l.length:=by omega
         subst hi'
         rw [Up QB (fun k h=>hz k (by omega))] at h
         refine ⟨⟨by simp [St.under,Tm.under,E.under,E.underL,Q7,Qk,Qm,W7 (hG.len _),Ww (hG.len _),Xv,XY,ht',ho',hcU,hX',ht,ho,hG.under,hk1',hk1,hk2,hnr,hnr0,hG.kills,decide_true],rfl⟩,?_⟩
         simpa [Ww (hG.len _)] using h))
end Go.Eng.Tryz
namespace Go.Eng.Tryz
open Go.RowKit Go.Eng
set_option maxHeartbeats 0
set_option maxRecDepth 20000
theorem Grow.ext {p:Prg} {l:List Pck} {b:Bud} {X:Nat→List Obj} {N r:Nat} {f:FuncId} {caps:List E} (hG:Grow p l b X N r f caps) {M:List Obj} (hu:Qk (N+M.length) M=true) (hk:M.map (Obj.kill r)=M) :
 Grow p l b (fun k=>X k++M) (N+M.length) r f caps:=by
 refine ⟨fun k=>by rw [List.length_append,hG.len],fun k=>by rw [Qm,Z8 (Nat.le_add_right _ _) (hG.under k),hu];rfl,E.underL_mono (Nat.le_add_right _ _) hG.capsU,hG.kills,by have:=hG.row;omega,?_⟩
 intro k tm out nt L K h0 h00 h1 h2 h3 h4 h5 h6 h7
 have e:N+(M++L).length=N+M.length+L.length:=by rw [List.length_append,Nat.add_assoc]
 have:=hG.call k tm out nt (M++L) K h0 h00 (by rw [e];exact h1) (by rw [e];exact h2) (by rw [e,Qm,h3,Z8 (Nat.le_add_right _ _) hu];rfl) h4 h5 (by rw [List.map_append,hk,h6]) (by rw [← List.append_assoc];exact h7)
 rw [← List.append_assoc] at this
 exact this
theorem vS {p:Prg} {l:List Pck} {b:Bud} (h:¬ZF p l.length b=0):Xc p l b=(0,zeroStt,ZF p l.length b,0):=if_pos h
theorem xd {p:Prg} {l:List Pck} {b:Bud} (h:ZF p l.length b=0) (h2:b.steps<(l.length:Int)):Xc p l b=(0,zeroStt,2,b.steps):=(if_neg (fun q=>q h)).trans (if_pos h2)
theorem QBH {p:Prg} {l:List Pck} {b:Bud} (h:ZF p l.length b=0) (h2:¬b.steps<(l.length:Int)) (h3:ZN QB p b.fuel (QS QB p b.fuel).1 l<l.length):Xc p l b=(ZN QB p b.fuel (QS QB p b.fuel).1 l,zeroStt,5,((ZN QB p b.fuel (QS QB p b.fuel).1 l:Nat):Int)):=(if_neg (fun q=>q h)).trans ((if_neg h2).trans (if_pos h3))
theorem yf {p:Prg} {l:List Pck} {b:Bud} (h:ZF p l.length b=0) (h2:¬b.steps<(l.length:Int)) (h3:¬ZN QB p b.fuel (QS QB p b.fuel).1 l<l.length):Xc p l b=(l.length,QY QB p b.fuel (QS QB p b.fuel).1 l l.length,0,0):=(if_neg (fun q=>q h)).trans ((if_neg h2).trans (if_neg h3))
def QIt:List (List Nat):=[[1,3,4,6,8],[1,3,4,6,8,11],[1,3,4,6,8,11,20],[8,9,10],[1,3,4,6,8,27],[8,9,10],[1,8,12,13],[8,12,13,42],[8,9,10],[8,9,10]]
theorem UI (p:Prg) (l:List Pck) (b:Bud) (hp:p.Fit) (hl:l.length≤maxLen) {X:Nat→List Obj} {N r:Nat} {f:FuncId} {caps:List E} (hG:Grow p l b X N r f caps) (hN:N≤900) {c:Bool} {tm:Tm} {out:List Tm} {nt:Nat} {K:St→E→Prop} (ht:Tm.under N tm=true) (ho:Q7 N out=true) (hk1:Tm.kill r tm=tm) (hk2:out.map (Tm.kill r)=out)
 (h:K { tm:=tm,ob:=X (Xc p l b).1,out:=out,nt:=nt } (.tup [.data 37 (Xc p l b).2.1.v,.int .i64 (Xc p l b).2.2.1,.int .i64 (Xc p l b).2.2.2])) :
 CallE Go.Proofs.Tryz.prog tab { tm:=tm,ob:=X 0,out:=out,nt:=nt } 80 [.data 26 p.v,.fs 39 (l.map Pck.v) c,.data 77 b.v,.fn f caps] K:=by
 refine CallE.cut N ?_
 have hpp:=hp
 have hcode:True→True:=id
 have hsl:True→True:=id
 have hmx:256<maxLen:=by decide
 have hnr:=Nat.ne_of_row hG.row (by omega)
 have hnr0:=Nat.ne_of_row0 hG.row (by omega)
 have hk1':(tm.map fun x=>(x.1,x.2.1,E.kill r x.2.2))=tm:=hk1
 have ht':∀ m,Tm.under (N+m) tm=true:=fun m=>Tm.under_mono (by omega) ht
 have ho':∀ m,Q7 (N+m) out=true:=fun m=>UJ (by omega) ho
 have hcU:∀ m,E.underL (N+m) caps=true:=fun m=>E.underL_mono (by omega) hG.capsU
 have hX':∀ k m,Qk (N+m) (X k)=true:=fun k m=>Z8 (by omega) (hG.under k)
 refine CallE.body ok Go.Proofs.Tryz.func80 rfl rfl 46 rfl [.cell 8 37,.tmp 9,.tmp 10] rfl (by simp) ?_
 simp only [enter,Zl,Nat.zero_add,Nat.reduceAdd]
 repeat' first
  | ((with_reducible first|refine Q2 fun R1 hR1=>?_|refine qR fun R1 hR1=>?_|refine qQ fun R1 hR1=>?_|refine qP fun R1 hR1=>?_);(simp only [go_sem,seval,-List.reduceReplicate,List.append_assoc,List.length_append,hG.len,QAt (hG.len _),yv (hG.len _),QDl (hG.len _),vO (hG.len _),Nat.add_zero,Bool.cond_false_right,Bool.cond_true_left,QF]);(repeat' with_reducible refine And.intro ?_ ?_);all_goals first|(refine hR1 _ ?_;clear hR1 R1)|((first|refine cq (cc (Uv p _ b hpp) (by first|rfl|(simp [go_sem,List.take_of_length_le,List.length_map];done)|fail)) ?_|refine ⟨_,_,rfl,.inr (Vb p l b hpp hz.1 hz.2.2.2.1 hl2 hG' (show N+3≤1000 by omega) rfl ?_ ?_ ?_ ?_ ?_)⟩);all_goals ((try simp only [go_sem,seval,-List.reduceReplicate,List.append_assoc,List.length_append,hG.len,QAt (hG.len _),yv (hG.len _),QDl (hG.len _),vO (hG.len _),Nat.add_zero,Bool.cond_false_right,Bool.cond_true_left,QF]);(repeat' with_reducible refine And.intro ?_ ?_);all_goals first|(refine hR1 _ ?_;clear hR1 R1)|omega|rfl|decide|assumption|(intro _;omega)|(simp;done)|(simp [-List.getD_eq_getElem?_getD];omega)|exact hcode _|(intro _;exact hcode _)|exact hsl _|(intro _;exact hsl _)|(simp [Tm.under,E.under,E.underL,Q7,Qk,Qm,W7 (hG.len _),Ww (hG.len _),Xv,XY,ht',ho',hcU,hX',ht,ho,hG.under,hk1',hk1,hk2,hnr,hnr0,hG.kills,decide_true];done)))|omega|rfl|decide|assumption|(intro _;omega)|(simp;done)|(simp [-List.getD_eq_getElem?_getD];omega)|exact hcode _|(intro _;exact hcode _)|exact hsl _|(intro _;exact hsl _)|(simp [Tm.under,E.under,E.underL,Q7,Qk,Qm,W7 (hG.len _),Ww (hG.len _),Xv,XY,ht',ho',hcU,hX',ht,ho,hG.under,hk1',hk1,hk2,hnr,hnr0,hG.kills,decide_true];done))
  | ((with_reducible refine SART.doneAt 5 ?_);refine hR _ ?_;clear hR R;try simp only [go_sem,QIt,Nat.reduceBEq]
     exact Qq (by simp only [St.keep,List.filterMap_cons,List.filterMap_nil,List.lookup_cons,List.lookup_nil,Option.map_some,Option.map_none,beq_self_eq_true,Nat.reduceBEq]))
  | ((with_reducible first|refine qO ?_|refine Q1 ?_);refine hR _ ?_;clear hR R;try simp only [go_sem,QIt,Nat.reduceBEq])
  | (with_reducible first|refine qN ?_ ?_|exact qM|refine qL ?_ ?_)
  | (with_reducible first|refine J1 ?_|refine J2 ?_|refine J3 ?_|refine Q0 ?_|refine Qz ?_)
  | ((with_reducible refine QZ 6 ?_)
     have hz:=Vq hb20
     have hl2:l.length≤256:=by have:=hz.2.1;omega
     have hG':=hG.ext (M:=[.var 26 (.data 26 p.v),.var 77 (.data 77 b.v),.var 37 (.data 37 zeroStt.v)]) rfl rfl
     (with_reducible refine rg QIt fun R hR=>?_);simp only [go_sem,QC])
  | ((with_reducible refine QZ 5 ?_)
     refine J35 ok QN (.take 0 (.br 1 (.br 2 (.br 3 (.take 4 (.take 5 .done)) .nil) (.br 3 (.take 2 (.take 4 (.take 5 .done))) .nil)) (.br 3 (.take 1 (.take 2 (.take 4 (.take 5 .done)))) .nil))) [3] QIt (by kernel_rfl) ({ tm:=[(8,true,.ptr (N+2) [] 37),(9,true,.int .i64 2),(10,true,.int .i64 b.steps)],ob:=X 0++[.var 26 (.data 26 p.v),.var 77 (.data 77 b.v),.var 37 (.data 37 zeroStt.v)],out:=tm::out,nt:=46 }) (fun R hR=>?_) ?_;simp only [go_sem,QC])
  | ((with_reducible refine rg QIt fun R hR=>?_);simp only [go_sem,QC])
  | ((with_reducible refine QH 20 rfl (fun hb20=>?_) fun hb20=>?_);all_goals (try simp [-List.getD_eq_getElem?_getD] at hb20;try (exfalso;omega)))
  | ((with_reducible refine QH 27 rfl (fun hb27=>?_) fun hb27=>?_);all_goals (try simp [-List.getD_eq_getElem?_getD] at hb27;try (exfalso;omega)))
  | ((with_reducible refine QH 42 rfl (fun hb42=>?_) fun hb42=>?_);all_goals (try simp [-List.getD_eq_getElem?_getD] at hb42;try (exfalso;omega)))
  | ((with_reducible first|refine xS ?_|refine xR ?_)
     simp only [go_sem,QJ,QK,QG,seval]
     simp only [go_sem,seval,-List.reduceReplicate,List.append_assoc,List.length_append,hG.len,QAt (hG.len _),yv (hG.len _),QDl (hG.len _),vO (hG.len _),Nat.add_zero,Bool.cond_false_right,Bool.cond_true_left,QF]
     first
      | (have q:=hb20
         rw [vS hb20] at h
         refine ⟨⟨by simp [St.under,Tm.under,E.under,E.underL,Q7,Qk,Qm,W7 (hG.len _),Ww (hG.len _),Xv,XY,ht',ho',hcU,hX',ht,ho,hG.under,hk1',hk1,hk2,hnr,hnr0,hG.kills,decide_true],rfl⟩,?_⟩
         simpa [Ww (hG.len _)] using h)
      | (have q:=hb27
         rw [xd hb20 (by omega)] at h
         refine ⟨⟨by simp [St.under,Tm.under,E.under,E.underL,Q7,Qk,Qm,W7 (hG.len _),Ww (hG.len _),Xv,XY,ht',ho',hcU,hX',ht,ho,hG.under,hk1',hk1,hk2,hnr,hnr0,hG.kills,decide_true],rfl⟩,?_⟩
         simpa [Ww (hG.len _)] using h)
      | (have q:=hb42
         rw [QBH hb20 (by omega) (by omega)] at h
         refine ⟨⟨by simp [St.under,Tm.under,E.under,E.underL,Q7,Qk,Qm,W7 (hG.len _),Ww (hG.len _),Xv,XY,ht',ho',hcU,hX',ht,ho,hG.under,hk1',hk1,hk2,hnr,hnr0,hG.kills,decide_true],rfl⟩,?_⟩
         simpa [Ww (hG.len _)] using h)
      | (have q:=hb42
         have e:(ZN QB p b.fuel (QS QB p b.fuel).1 l)=l.length:=by have:=UP QB p b.fuel (QS QB p b.fuel).1 l;omega
         rw [yf hb20 (by omega) (by omega)] at h
         rw [e]
         refine ⟨⟨by simp [St.under,Tm.under,E.under,E.underL,Q7,Qk,Qm,W7 (hG.len _),Ww (hG.len _),Xv,XY,ht',ho',hcU,hX',ht,ho,hG.under,hk1',hk1,hk2,hnr,hnr0,hG.kills,decide_true],rfl⟩,?_⟩
         simpa [Ww (hG.len _)] using h))
end Go.Eng.Tryz
namespace Go.Eng.Tryz
open Go.RowKit Go.Eng
set_option maxHeartbeats 0
set_option maxRecDepth 20000
theorem QCd (p:Prg) (l:List Pck) (b:Bud):(Qe p l b).2.2.1=(Xc p l b).2.2.1∧(Qe p l b).2.2.2=(Xc p l b).2.2.2:=by
 by_cases h1:ZF p l.length b=0
 · by_cases h2:b.steps<(l.length:Int)
   · rw [xd h1 h2]
     unfold Qe
     rw [if_neg (fun q=>q h1),if_pos h2]
     exact ⟨rfl,rfl⟩
   · by_cases h3:ZN QB p b.fuel (QS QB p b.fuel).1 l<l.length
     · rw [QBH h1 h2 h3]
       unfold Qe
       rw [if_neg (fun q=>q h1),if_neg h2]
       simp only [h3,if_true]
       exact ⟨trivial,trivial⟩
     · rw [yf h1 h2 h3]
       unfold Qe
       rw [if_neg (fun q=>q h1),if_neg h2]
       simp only [h3,if_false]
       exact ⟨trivial,trivial⟩
 · rw [vS h1]
   unfold Qe
   rw [if_pos h1]
   exact ⟨rfl,rfl⟩
theorem WS {p:Prg} {l:List Pck} {b:Bud} (h:(Xc p l b).2.2.1=0):RunOk p l b∧Xc p l b=(l.length,ZX p l b,0,0) ∧
 WT p l b=(⟨Y4 p l b,ZX p l b,decide ((l.length:Int)=b.steps)&&decide (0<(ready p (ZX p l b)).length)⟩,0,0):=by
 have hs:=(QCd p l b).1.trans h
 have hR:=wB hs
 refine ⟨hR,?_,if_neg (fun q=>q hs)⟩
 by_cases h1:ZF p l.length b=0
 · by_cases h2:b.steps<(l.length:Int)
   · rw [xd h1 h2] at h;cases h
   · exact yf h1 h2 (by rw [hR.stop];omega)
 · rw [vS h1] at h;exact absurd h h1
theorem ye {p:Prg} {l:List Pck} {b:Bud} (h:¬(Xc p l b).2.2.1=0):WT p l b=(⟨[],zeroStt,false⟩,(Xc p l b).2.2.1,(Xc p l b).2.2.2):=by
 have hs:=QCd p l b
 unfold WT
 rw [if_pos (by rw [hs.1];exact h),hs.1,hs.2]
theorem RunOk.vld {p:Prg} {l:List Pck} {b:Bud} (h:RunOk p l b):Vld p (ZX p l b) :=
 VX Yp h.right (Prg.ok h.right) h.fuel (ya Yp h.right (Prg.ok h.right) h.fuel) (Nat.le_refl _) (fun j hj=>xW QB (by rw [h.stop];exact hj))
def QQV:List (List Nat):=[[2,4],[]]
end Go.Eng.Tryz
