/- A part of the proof: walks through the program's functions, and what they compute. -/
import Derived.Test.YtmonhjagbhpbeaaGreatDoorPk38
import Derived.Test.YtmonhjagbhpbeaaGreatDoorPk42
import Derived.Test.YtmonhjagbhpbeaaGreatDoorPk43
import Derived.Test.YtmonhjagbhpbeaaGreatDoorPk45
set_option linter.unusedSimpArgs false
set_option linter.unusedVariables false
namespace Go.Eng
theorem QSr {p:Prg} {fuel:Int} {s0:Stt} {l:List Pck} {i:Nat} (hr:QN p=true) (hf:0≤fuel∧fuel≤4096) (hv0:Vld p s0) (hi:i<l.length) (hok:∀ j,j<l.length→Z6 QB p fuel s0 l j=true) :
 ∀ n:Nat,n≤i→(∀ k,k<n→ZH (Qy QB p fuel s0 l (i-(k+1))) (Qy QB p fuel s0 l i)=false)→Sunk p fuel s0 l i n
 | 0,_,_=>⟨hok,rfl,rfl,fun _ _=>rfl,fun j h1 h2=>by omega,fun _ _ _=>rfl⟩
 | n+1,hn,hd=>by
   have ih:=QSr hr hf hv0 hi hok n (by omega) (fun k hk=>hd k (by omega))
   have hl:=Yq l i n
   have e1:i-(n+1)+1=i-n:=by omega
   have hS:Swapped p fuel s0 (ZJ l i n) (i-(n+1)):=by
    refine QAX hr hf hv0 (by omega) (fun j hj=>ih.legal j (by omega)) ?_
    rw [e1,ih.here,ih.low _ (by omega)]
    exact hd n (by omega)
   refine ⟨fun j hj=>hS.legal j (by omega),?_,?_,fun j hj=>?_,fun j h1 h2=>?_,fun j h1 h2=>?_⟩
   · show QP QB p fuel s0 (Qx (ZJ l i n) (i-(n+1))) l.length=_
     rw [hS.state _ (by omega) (by omega)]
     exact ih.last
   · show Qy QB p fuel s0 (Qx (ZJ l i n) (i-(n+1))) (i-(n+1))=_
     rw [hS.ev0,e1]
     exact ih.here
   · show Qy QB p fuel s0 (Qx (ZJ l i n) (i-(n+1))) j=_
     rw [hS.evk j (by omega) (by omega) (by omega)]
     exact ih.low j (by omega)
   · show Qy QB p fuel s0 (Qx (ZJ l i n) (i-(n+1))) j=_
     by_cases hj:j=i-n
     · subst hj
       have:=hS.ev1
       rw [e1] at this
       rw [this,ih.low _ (by omega)]
       congr 1
     · rw [hS.evk j (by omega) (by omega) (by omega)]
       exact ih.mid j (by omega) h2
   · show Qy QB p fuel s0 (Qx (ZJ l i n) (i-(n+1))) j=_
     rw [hS.evk j (by omega) (by omega) (by omega)]
     exact ih.high j h1 h2
end Go.Eng
namespace Go.Eng.Tryz
open Go.RowKit Go.Eng
set_option maxHeartbeats 0
set_option maxRecDepth 20000
theorem xb (p:Prg) (l:List Pck) (b:Bud) (i:Nat):Zq p l b i≤i:=by
 have:=List.findIdx_le_length (xs:=List.range i) (p:=fun k=>ZH (Zb p l b (i-(k+1))) (Zb p l b i))
 simpa [Zq] using this
theorem QGW {p:Prg} {l:List Pck} {b:Bud} {i k:Nat} (h:k<Zq p l b i):ZH (Zb p l b (i-(k+1))) (Zb p l b i)=false:=by
 have hle:=xb p l b i
 have:=List.not_of_lt_findIdx (xs:=List.range i) (p:=fun k=>ZH (Zb p l b (i-(k+1))) (Zb p l b i)) (i:=k) h
 simpa using this
theorem QGV {p:Prg} {l:List Pck} {b:Bud} {i:Nat} (h:Zq p l b i<i):ZH (Zb p l b (i-(Zq p l b i+1))) (Zb p l b i)=true:=by
 have hl:List.findIdx (fun k=>ZH (Zb p l b (i-(k+1))) (Zb p l b i)) (List.range i)<(List.range i).length:=by simpa [Zq] using h
 have:=List.findIdx_getElem (w:=hl)
 simpa [Zq] using this
theorem QMj {p:Prg} {l:List Pck} {b:Bud} {i:Nat} (h:RunOk p l b) (hi:i<l.length):Sunk p b.fuel (start QB p b.fuel).1 l i (Zq p l b i) :=
 QSr h.right h.fuel h.start hi h.all _ (xb ..) fun _ hk=>QGW hk
def Vq (i n j:Nat):Nat:=if j=i then i-n else if i-n≤j∧j<i then j+1 else j
theorem QAj {p:Prg} {l:List Pck} {b:Bud} {i:Nat} (h:(XX p l b).2.2.1=0) (hi:i<l.length) :
 (XX p (ZJ l i (Zq p l b i)) b).2.2.1=0∧Qs p (ZJ l i (Zq p l b i)) b=Qs p l b∧(∀ j,j<l.length→Zb p l b j=Zb p (ZJ l i (Zq p l b i)) b (Vq i (Zq p l b i) j)) ∧
 Zq p (ZJ l i (Zq p l b i)) b (i-Zq p l b i)=0:=by
 have hS:=QMj (YZ h).1 hi
 have hle:=xb p l b i
 refine ⟨QCk h (Yq ..) hS.legal,?_,fun j hj=>?_,QAk (Nat.zero_le _) (fun q=>?_) (fun k q=>absurd q (Nat.not_lt_zero _))⟩
 · rw [yP,yP,Yq]
   exact hS.last
 · unfold Vq
   by_cases q:j=i
   · subst q;rw [if_pos rfl];exact hS.here.symm
   · rw [if_neg q]
     by_cases q2:i-Zq p l b i≤j∧j<i
     · rw [if_pos q2];exact (hS.mid (j+1) (by omega) (by omega)).symm
     · rw [if_neg q2]
       by_cases q3:j<i
       · exact (hS.low j (by omega)).symm
       · exact (hS.high j (by omega) hj).symm
 · have e1:Zb p (ZJ l i (Zq p l b i)) b (i-Zq p l b i)=Zb p l b i:=hS.here
   have e2:Zb p (ZJ l i (Zq p l b i)) b (i-Zq p l b i-(0+1))=Zb p l b (i-Zq p l b i-(0+1)):=hS.low _ (by omega)
   rw [e1,e2]
   have:=QGV (p:=p) (l:=l) (b:=b) (i:=i) (by omega)
   rwa [show i-(Zq p l b i+1)=i-Zq p l b i-(0+1) by omega] at this
theorem QJj {p:Prg} {l:List Pck} {i last:Int} {b:Bud} (h:(XX p l b).2.2.1=0) (h0:0≤i) (h1:i≤last):(Z1 p l i last b).2=0:=by
 have hR:=(YZ h).1
 have hl:=hR.len
 rw [QEZ (of_decide_eq_true hR.right) (by omega) (by omega),(YZ h).2.2]
theorem QGU {p:Prg} {l:List Pck} {b:Bud} {k:Nat} (h:(XX p l b).2.2.1=0) (hk:k<l.length) :
 Up p (ZJ l k (Zq p l b k)) ((k-Zq p l b k:Nat):Int) b=(ZJ l k (Zq p l b k),((k-Zq p l b k:Nat):Int),0):=by
 obtain ⟨h1,_,_,h4⟩:=QAj h hk
 rw [xa (QJj h1 (by omega) (by rw [Yq];omega)),h4]
 rfl
def kAt (a i j:Nat):Nat:=if j≤a then j else if j≤i then j+1 else if j=i+1∧a=i then i else j
theorem QLZ (a i:Nat):kAt a i 0=0:=if_pos (Nat.zero_le _)
theorem QLa {i n:Nat}:kAt (i-n) i (i+1)=kAt (i-n) i i:=by
 unfold kAt
 repeat' split
 all_goals omega
theorem QNQ {i n j:Nat} (hj:j≠i) (h:kAt (i-n) i j=i-n):Vq i n j=kAt (i-n) i j+1:=by
 unfold kAt at h ⊢
 unfold Vq
 rw [if_neg hj]
 revert h
 repeat' split
 all_goals omega
theorem QLc {i n j:Nat} (hj:j≠i) (h:kAt (i-n) i j≠i-n):Vq i n j=kAt (i-n) i j:=by
 unfold kAt at h ⊢
 unfold Vq
 rw [if_neg hj]
 revert h
 repeat' split
 all_goals omega
theorem QLb {i n j:Nat} (hj:j≠i):kAt (i-n) i (j+1)=Vq i n j+1:=by
 unfold kAt Vq
 rw [if_neg hj]
 repeat' split
 all_goals omega
theorem QIm {i n j m:Nat} (hj:j<m) (hi:i<m):Vq i n j<m:=by
 unfold Vq
 repeat' split
 all_goals omega
def QQ0:List (List Nat):=[[1],[1,3,4,5],[1,3,4,31],[2],[1,3,4,6,7],[1,3,4,6,7,9,10],[1,3,4,6,9,102],[2],[1,3,4,6,9,114],[2],[1,3,4,6,9,12],[1,3,4,6,9,12,13],[1,3,4,6,9,12,13,119],[1,3,4,6,9,12,13],[1,3,4,6,9,12,13,125],[1,3,4,6,9,12,13,128],[1,3,4,6,9,12,13],[1,3,4,6,9,12,13,141],[2],[1,3,4,6,9,12,13],[3,4,14,15,16],[2]]
theorem QBZ (p:Prg) (l:List Pck) (i:Int) (b:Bud) (e:Int) (he:¬e=0) (hsw:Ctr Go.Proofs.Tryz.prog tab 28 [26,29,3,28] [29,3,30] [p.v,.list (l.map Pck.v),.int i,b.v] [.list [],.int 0,.int e]):Ctr Go.Proofs.Tryz.prog tab 7 [75] [4] [UU p l i b] [.bool true]:=by
 have hcode:True→True:=id
 have hsl:True→True:=id
 refine Ctr.body ok Go.Proofs.Tryz.func7 rfl rfl 170 rfl [.tmp 2] rfl (by simp [QF]) ?_
 simp only [go_sem,Nat.reduceAdd]
 repeat' first
  | ((with_reducible first|refine Q5 fun R1 hR1=>?_|refine yb fun R1 hR1=>?_);(simp only [go_sem,seval,-List.reduceReplicate,Bool.cond_false_right,Bool.cond_true_left,QE,decide_true,Bool.not_true,Bool.not_false,Stt.beq,Event.beq]);(repeat' with_reducible refine And.intro ?_ ?_);all_goals first|(refine hR1 _ ?_;clear hR1 R1)|(intro hgf;simp only [hgf];refine hR1 _ ?_;clear hR1 R1)|((first|refine ce (wO (hsw) ?_)|refine ⟨_,_,rfl,.inr ⟨fun _=>CallE.ctr ok (hsw) (by first|rfl|(simp [go_sem,List.take_of_length_le,List.length_map,List.map_take,List.drop_zero];done)|fail) ?_,?_⟩⟩|refine V4 (VK (ZE)) ?_|refine wB (fun hg=>VK (ZE)) ?_|refine cq (VK (ZE)) ?_|refine Y4 (fun hg=>VK (ZE)) ?_);all_goals ((try simp only [go_sem,seval,-List.reduceReplicate,Bool.cond_false_right,Bool.cond_true_left,QE,decide_true,Bool.not_true,Bool.not_false,Stt.beq,Event.beq]);(repeat' with_reducible refine And.intro ?_ ?_);all_goals first|(refine hR1 _ ?_;clear hR1 R1)|(intro hgf;simp only [hgf];refine hR1 _ ?_;clear hR1 R1)|exact Zp))|exact Zp)
  | ((with_reducible first|refine Q4 ?_|refine ya ?_);refine hR _ ?_;clear hR R;try simp only [go_sem,QQ0,Nat.reduceBEq])
  | (with_reducible first|refine J1 ?_|refine J2 ?_|refine J3 ?_|refine J4 ?_|refine J5 ?_|refine J6 ?_|refine J7 ?_|refine J8 (by decide) ?_|refine J9 ?_|refine Xu ?_|refine Q2 ?_|refine Q1 ?_|refine Yc ?_|refine Xt ?_)
  | ((with_reducible refine rg QQ0 fun R hR=>?_);simp only [go_sem,QC])
  | ((with_reducible refine Ve ok QQ (by kernel_rfl) (by kernel_rfl) QQ0 ?_);intro R hR;simp only [go_sem,QC])
  | ((with_reducible refine QI 31 rfl (fun hb31=>?_) fun hb31=>?_);all_goals (try simp [-List.getD_eq_getElem?_getD] at hb31;try (exfalso;omega)))
  | ((with_reducible refine QI 102 rfl (fun hb102=>?_) fun hb102=>?_);all_goals (try simp [-List.getD_eq_getElem?_getD] at hb102;try (exfalso;omega)))
  | ((with_reducible refine QI 114 rfl (fun hb114=>?_) fun hb114=>?_);all_goals (try simp [-List.getD_eq_getElem?_getD] at hb114;try (exfalso;omega)))
  | ((with_reducible refine QI 125 rfl (fun hb125=>?_) fun hb125=>?_);all_goals (try simp [-List.getD_eq_getElem?_getD] at hb125;try (exfalso;omega)))
  | ((with_reducible refine QI 128 rfl (fun hb128=>?_) fun hb128=>?_);all_goals (try simp [-List.getD_eq_getElem?_getD] at hb128;try (exfalso;omega)))
  | ((with_reducible refine QI 141 rfl (fun hb141=>?_) fun hb141=>?_);all_goals (try simp [-List.getD_eq_getElem?_getD] at hb141;try (exfalso;omega)))
  | ((with_reducible refine SA.cond rfl ?_ ?_)
     all_goals
      intro hb
      try simp [-List.getD_eq_getElem?_getD] at hb
      try (exfalso;omega))
  | ((with_reducible first|refine ZQ ?_|refine ZP ?_)
     simp only [go_sem,QL,QM,QH,seval]
     first
      | (exact ⟨rfl,rfl⟩)
      | (rfl)
      | (refine ⟨rfl,?_⟩
         simp))
def lv7:List (List Nat):=[[1],[1,3,4,5],[1,3,4,31],[2],[1,3,4,6,7],[1,3,4,6,7,9,10],[1,3,4,6,9,102],[2],[1,3,4,6,9,114],[2],[1,3,4,6,9,12],[1,3,4,6,9,12,13],[1,3,4,6,9,12,13,119],[1,3,4,6,9,12,13],[1,3,4,6,9,12,13,125],[1,3,4,6,9,12,13,128],[1,3,4,6,9,12,13],[1,3,4,6,9,12,13,141],[2],[1,3,4,6,9,12,13],[3,4,14,15,16],[2]]
theorem vu (p:Prg) (l:List Pck) (i:Int) (b:Bud) (hp:p.Fit) (hl:l.length≤maxLen):Ctr Go.Proofs.Tryz.prog tab 7 [75] [4] [UU p l i b] [.bool true]:=by
 have hpp:=hp
 have hcode:True→True:=id
 have hsl:True→True:=id
 have hmx:400≤maxLen:=by decide
 have hlx:=hl
 unfold maxLen at hlx
 have hsw:=zn p l i b hpp hl
 rcases vF p l i b with ⟨e,he,hV⟩|⟨k,rfl,hk,hS,hV⟩
 · rw [hV] at hsw
   simp only [List.map_nil] at hsw
   exact QBZ p l i b e he hsw
 rw [hV] at hsw
 simp only at hsw
 obtain ⟨hS2,hla,hev,_⟩:=QAj hS hk
 have hag:=QGU hS hk
 have hnk:=xb p l b k
 generalize Zq p l b k=m at *
 refine Ctr.body ok Go.Proofs.Tryz.func7 rfl rfl 170 rfl [.tmp 2] rfl (by simp [QF]) ?_
 simp only [go_sem,Nat.reduceAdd]
 repeat' first
  | ((with_reducible refine SARA.told 6 _ ?_);try simp only [hevl,hevl2])
  | ((with_reducible refine SARQ.told 8 _ ?_);try simp only [hEk,hEa,ek,Int.toNat_natCast])
  | ((with_reducible refine SARQ.told 17 _ ?_);try simp only [hEj,hE2,ej,hw12,Int.toNat_natCast])
  | ((with_reducible first|refine Q5 fun R1 hR1=>?_|refine yb fun R1 hR1=>?_);(simp only [go_sem,seval,-List.reduceReplicate,Bool.cond_false_right,Bool.cond_true_left,QE,decide_true,Bool.not_true,Bool.not_false,Stt.beq,Event.beq]);(repeat' with_reducible refine And.intro ?_ ?_);all_goals first|(refine hR1 _ ?_;clear hR1 R1)|(intro hgf;simp only [hgf];refine hR1 _ ?_;clear hR1 R1)|((first|refine ce (wO (hsw) ?_)|refine ⟨_,_,rfl,.inr ⟨fun _=>CallE.ctr ok (hsw) (by first|rfl|(simp [go_sem,List.take_of_length_le,List.length_map,List.map_take,List.drop_zero];done)|fail) ?_,?_⟩⟩|refine ⟨_,_,rfl,.inr (CallE.ctrZ (hT) (by first|rfl|(simp [go_sem,List.take_of_length_le,List.length_map,List.map_take,List.drop_zero];done)|fail) ?_)⟩|refine ⟨_,_,rfl,.inr ⟨fun _=>CallE.ctrZ (hT) (by first|rfl|(simp [go_sem,List.take_of_length_le,List.length_map,List.map_take,List.drop_zero];done)|fail) ?_,?_⟩⟩|refine ⟨_,_,rfl,.inr (CallE.ctrZ (hT2) (by first|rfl|(simp [go_sem,List.take_of_length_le,List.length_map,List.map_take,List.drop_zero];done)|fail) ?_)⟩|refine ⟨_,_,rfl,.inr ⟨fun _=>CallE.ctrZ (hT2) (by first|rfl|(simp [go_sem,List.take_of_length_le,List.length_map,List.map_take,List.drop_zero];done)|fail) ?_,?_⟩⟩|refine ce (wO (hsk2) ?_)|refine ⟨_,_,rfl,.inr ⟨fun _=>CallE.ctr ok (hsk2) (by first|rfl|(simp [go_sem,List.take_of_length_le,List.length_map,List.map_take,List.drop_zero];done)|fail) ?_,?_⟩⟩|refine V4 (VK (ZX (ZJ l k m) (ZJ l k m) (by omega) (by omega))) ?_|refine wB (fun hg=>VK (ZX (ZJ l k m) (ZJ l k m) (by omega) (by omega))) ?_|refine cq (VK (ZX (ZJ l k m) (ZJ l k m) (by omega) (by omega))) ?_|refine Y4 (fun hg=>VK (ZX (ZJ l k m) (ZJ l k m) (by omega) (by omega))) ?_|refine V4 (VK (ZE)) ?_|refine wB (fun hg=>VK (ZE)) ?_|refine cq (VK (ZE)) ?_|refine Y4 (fun hg=>VK (ZE)) ?_);all_goals ((try simp only [go_sem,seval,-List.reduceReplicate,Bool.cond_false_right,Bool.cond_true_left,QE,decide_true,Bool.not_true,Bool.not_false,Stt.beq,Event.beq]);(repeat' with_reducible refine And.intro ?_ ?_);all_goals first|(refine hR1 _ ?_;clear hR1 R1)|(intro hgf;simp only [hgf];refine hR1 _ ?_;clear hR1 R1)|exact Zp))|exact Zp)
  | ((with_reducible first|refine Q4 ?_|refine ya ?_);refine hR _ ?_;clear hR R;try simp only [go_sem,lv7,Nat.reduceBEq])
  | (with_reducible first|refine J1 ?_|refine J2 ?_|refine J3 ?_|refine J4 ?_|refine J5 ?_|refine J6 ?_|refine J7 ?_|refine J8 (by decide) ?_|refine J9 ?_|refine Xu ?_|refine Q2 ?_|refine Q1 ?_|refine Yc ?_|refine Xt ?_)
  | ((with_reducible refine Qe 4 ?_)
     obtain ⟨hOk,_,hO⟩:=YZ hS
     obtain ⟨hOk2,_,hO2⟩:=YZ hS2
     have hlen:=hOk.len
     have hsl2:=Yq l k m
     have hT:=YP p l b hpp hl
     have hT2:=YP p (ZJ l k m) b hpp (by rw [hsl2];exact hl)
     rw [hO] at hT
     rw [hO2,hla] at hT2
     have hevl:=YM p l b
     have hevl2:=YM p (ZJ l k m) b
     refine Zv (J49 ok.sized 1 rfl) ?_
     simp only [St.frz,Tm.frz,E.frz,E.frzL,Obj.frz,List.map_cons,List.map_nil,List.set_cons_zero,List.set_cons_succ,Nat.reduceBEq,Nat.beq_refl,if_true,if_false,Nat.beq_eq_true_eq,reduceCtorEq,Bool.false_eq_true,V.get,Nat.reduceEqDiff]
     simp only [List.drop_zero,List.take_of_length_le,List.length_map,Nat.le_refl]
     (with_reducible refine rg lv7 fun R hR=>?_);simp only [go_sem,QC])
  | ((with_reducible refine Qe 8 ?_)
     have hEk:=fun d:V=>Xh (p:=p) (b:=b) (d:=d) hk
     have hEa:=fun d:V=>Xh (p:=p) (l:=(ZJ l k m)) (b:=b) (d:=d) (k:=k-m) (by omega)
     have ek:=hev k hk
     rw [show Vq k m k=k-m from if_pos rfl] at ek
     (with_reducible refine Ve ok QQ (by kernel_rfl) (by kernel_rfl) lv7 ?_);intro R hR;simp only [go_sem,QC])
  | ((with_reducible refine Qe 14 ?_)
     have hlt:j<l.length:=by omega
     have hwj:=QD hlt hl
     have hEj:=fun d:V=>Xh (p:=p) (b:=b) (d:=d) hlt
     (with_reducible refine rg lv7 fun R hR=>?_);simp only [go_sem,QC])
  | ((with_reducible refine Qe 15 ?_)
     have hjk:j≠k:=by omega
     have hst:=QIm (n:=m) hlt hk
     have ej:=hev j hlt
     have enx:=QLb (n:=m) hjk
     (with_reducible refine rg lv7 fun R hR=>?_);simp only [go_sem,QC])
  | ((with_reducible refine Qe 17 ?_)
     first
      | (have q:kAt (k-m) k j=k-m:=by omega
         rw [QNQ hjk q] at ej hst enx
         have hw12:=QD (n:=kAt (k-m) k j) (m:=300) (by omega) (by decide)
         have hw13:=QD (n:=kAt (k-m) k j+1) (m:=300) (by omega) (by decide)
         have hE2:=fun d:V=>Xh (p:=p) (l:=(ZJ l k m)) (b:=b) (d:=d) (k:=kAt (k-m) k j+1) (by omega))
      | (have q:kAt (k-m) k j≠k-m:=by omega
         rw [QLc hjk q] at ej hst enx
         have hw12:=QD (n:=kAt (k-m) k j) (m:=300) (by omega) (by decide)
         have hw13:=hw12
         have hE2:=fun d:V=>Xh (p:=p) (l:=(ZJ l k m)) (b:=b) (d:=d) (k:=kAt (k-m) k j) (by omega))
     (with_reducible refine Ve ok QQ (by kernel_rfl) (by kernel_rfl) lv7 ?_);intro R hR;simp only [go_sem,QC])
  | ((with_reducible refine Qe 20 ?_)
     have hsk2:=zn p (ZJ l k m) ((k-m:Nat):Int) b hpp (by omega)
     rw [hag] at hsk2
     simp only at hsk2
     (with_reducible refine rg lv7 fun R hR=>?_);simp only [go_sem,QC])
  | ((with_reducible refine rg lv7 fun R hR=>?_);simp only [go_sem,QC])
  | ((with_reducible refine Ve ok QQ (by kernel_rfl) (by kernel_rfl) lv7 ?_);intro R hR;simp only [go_sem,QC])
  | ((with_reducible refine QI 31 rfl (fun hb31=>?_) fun hb31=>?_);all_goals (try simp [-List.getD_eq_getElem?_getD] at hb31;try (exfalso;omega)))
  | ((with_reducible refine QI 102 rfl (fun hb102=>?_) fun hb102=>?_);all_goals (try simp [-List.getD_eq_getElem?_getD] at hb102;try (exfalso;omega)))
  | ((with_reducible refine QI 114 rfl (fun hb114=>?_) fun hb114=>?_);all_goals (try simp [-List.getD_eq_getElem?_getD] at hb114;try (exfalso;omega)))
  | ((with_reducible refine QI 125 rfl (fun hb125=>?_) fun hb125=>?_);all_goals (try simp [-List.getD_eq_getElem?_getD] at hb125;try (exfalso;omega)))
  | ((with_reducible refine QI 128 rfl (fun hb128=>?_) fun hb128=>?_);all_goals (try simp [-List.getD_eq_getElem?_getD] at hb128;try (exfalso;omega)))
  | ((with_reducible refine QI 141 rfl (fun hb141=>?_) fun hb141=>?_);all_goals (try simp [-List.getD_eq_getElem?_getD] at hb141;try (exfalso;omega)))
  | ((with_reducible refine SA.cond rfl ?_ ?_)
     all_goals
      intro hb
      try simp [-List.getD_eq_getElem?_getD] at hb
      try (exfalso;omega))
  | ((with_reducible refine Ya ?_)
     refine Zv (Qo (by (simp only [QLZ];rfl))) (Yb (fun n τ=>∃ (j:Nat),n=l.length-j∧(j≤l.length)∧τ={ tm:=[(1,true,.ptr 0 [] 75),(3,true,.fs 56 ((ZJ l k m).map Pck.v) false),(4,true,.int .i64 ((k-m:Nat):Int)),(6,true,.ptr 2 [] 49),(9,true,.ptr 3 [] 49),(12,true,.int .i64 (kAt (k-m) k j:Nat)),(13,true,.int .i64 j)],ob:=[.var 75 (.data 75 (UU p l k b)),.dead,.var 49 (.data 49 (Trc.v ⟨Qh p l b,Qs p l b,decide ((l.length:Int)=b.steps)&&decide (0<(ready p (Qs p l b)).length)⟩)),.var 49 (.data 49 (Trc.v ⟨Qh p (ZJ l k m) b,Qs p l b,decide (((ZJ l k m).length:Int)=b.steps)&&decide (0<(ready p (Qs p l b)).length)⟩))],out:=[],nt:=170 }) (l.length) ⟨0,rfl,Nat.zero_le _,rfl⟩ ?_)
     rintro n τ ⟨j,hn,hj,rfl⟩)
  | ((with_reducible refine WC ?_)
     first
      | (have q:j=k:=by omega
         have e12:kAt (k-m) k (j+1)=kAt (k-m) k j:=by rw [q];exact QLa
         refine Z0 (l.length-(j+1)) _ (by omega) (Qo (by simp only [hwj,e12])) ⟨j+1,rfl,hlt,rfl⟩)
      | (refine Z0 (l.length-(j+1)) _ (by omega) (Qo (by simp only [hwj,hw12,hw13,enx])) ⟨j+1,rfl,hlt,rfl⟩))
  | ((with_reducible first|refine ZQ ?_|refine ZP ?_)
     simp only [go_sem,QL,QM,QH,seval]
     first
      | (exact ⟨rfl,rfl⟩)
      | (rfl)
      | (refine ⟨rfl,?_⟩
         simp))
end Go.Eng.Tryz
