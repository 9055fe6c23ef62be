/- A part of the proof: walks through the program's functions, and what they compute. -/
import Derived.Test.YtedceinkpkoncaaGreatDoorPk50
import Derived.Test.YtedceinkpkoncaaGreatDoorPk52
set_option linter.unusedSimpArgs false
set_option linter.unusedVariables false
namespace Go.Eng
section
variable {p:Prg} {fuel:Int} {s:Stt} {l:List Pck}
theorem QBf (l:List Pck) {i j:Nat} (h:j<i):(l.take i).getD j default=l.getD j default:=by
 simp only [List.getD_eq_getElem?_getD,List.getElem?_take,if_pos h]
theorem VE {i k:Nat} (h:k≤i):QY QB p fuel s (l.take i) k=QY QB p fuel s l k:=by
 unfold QY
 rw [List.take_take,Nat.min_eq_left h]
theorem QC7 {i j:Nat} (h:j<i):Xi QB p fuel s (l.take i) j=Xi QB p fuel s l j:=by
 unfold Xi
 rw [VE (Nat.le_of_lt h),QBf l h]
theorem QE8 {i j:Nat} (h:j<i):YD QB p fuel s (l.take i) j=YD QB p fuel s l j:=by
 unfold YD
 rw [VE (Nat.le_of_lt h),QBf l h]
theorem xr {i n:Nat} (h:n≤i):Qu QB p fuel s (l.take i) n=Qu QB p fuel s l n:=by
 unfold Qu
 refine List.map_congr_left fun j hj=>?_
 have:=List.mem_range.1 hj
 exact QC7 (by omega)
theorem QC5 {i m:Nat} (h:i≤m):(Qu QB p fuel s l m).take i=Qu QB p fuel s l i:=by
 unfold Qu
 rw [← List.map_take,List.take_range,Nat.min_eq_left h]
theorem QAw {i m:Nat} (h:i<m):(Qu QB p fuel s l m).getD i default=Xi QB p fuel s l i:=by
 unfold Qu
 simp [List.getD_eq_getElem?_getD,h]
end
theorem QGs {p:Prg} {fuel:Int} (hr:QP p=true) (hf:0≤fuel∧fuel≤4096):(QS QB p fuel).2=0:=by
 unfold QS
 rw [if_neg (by rw [hr];simp),if_neg (by omega)]
theorem QGx {p:Prg} {l:List Pck} {b:Bud} (h:ZF p l.length b=0) (h2:(l.length:Int)≤b.steps) (h3:ZN QB p b.fuel (QS QB p b.fuel).1 l=l.length) {i:Nat} (hi:i≤l.length) :
 Xc p (l.take i) b=(i,QY QB p b.fuel (QS QB p b.fuel).1 l i,0,0):=by
 have hz:=Vq h
 have hlen:(l.take i).length=i:=by rw [List.length_take];omega
 have ha:ZF p (l.take i).length b=0:=by
  unfold ZF
  rw [if_neg (by rw [hz.1];simp),if_neg (by omega),if_neg (by rw [hz.2.2.1];simp)]
 have hst:ZN QB p b.fuel (QS QB p b.fuel).1 (l.take i)=(l.take i).length:=Up QB (fun k hk=>by
  rw [hlen] at hk
  rw [QE8 hk]
  exact xW QB (by omega))
 unfold Xc
 simp only
 rw [if_neg (fun q=>q ha),if_neg (by omega),hst,if_neg (Nat.lt_irrefl _),hlen,VE (Nat.le_refl _)]
end Go.Eng
namespace Go.Eng.Tryz
open Go.RowKit Go.Eng
set_option maxHeartbeats 0
set_option maxRecDepth 20000
theorem QE0 {p:Prg} {l:List Pck} {b:Bud} (h:ZF p l.length b=0) (h2:(l.length:Int)≤b.steps) (h3:ZN QB p b.fuel (QS QB p b.fuel).1 l=l.length) {i:Nat} (hi:i≤l.length) :
 ∃ c:Bool,WT p (l.take i) b=(⟨Qu QB p b.fuel (QS QB p b.fuel).1 l i,QY QB p b.fuel (QS QB p b.fuel).1 l i,c⟩,0,0):=by
 have hS:=QGx h h2 h3 hi
 have hlen:(l.take i).length=i:=by rw [List.length_take];omega
 obtain ⟨_,_,hO⟩:=WS (p:=p) (l:=l.take i) (b:=b) (by rw [hS])
 refine ⟨decide (((l.take i).length:Int)=b.steps)&&decide (0<(ready p (ZX p (l.take i) b)).length),?_⟩
 rw [hO]
 have e1:Y4 p (l.take i) b=Qu QB p b.fuel (QS QB p b.fuel).1 l i:=by
  show Qu QB p b.fuel _ (l.take i) (l.take i).length=_
  rw [hlen,xr (Nat.le_refl _)]
 have e2:ZX p (l.take i) b=QY QB p b.fuel (QS QB p b.fuel).1 l i:=by
  show QY QB p b.fuel _ (l.take i) (l.take i).length=_
  rw [hlen,VE (Nat.le_refl _)]
 rw [e1,e2]
theorem QDD {p:Prg} {l:List Int} {b:Bud} (h:ZF p l.length b=0):ZF p (QR p l b).length b=0∧((QR p l b).length:Int)≤b.steps:=by
 have hz:=Vq h
 have hc:=yK h
 have hm:Yn l b=min l.length b.steps.toNat:=rfl
 refine ⟨?_,by omega⟩
 unfold ZF
 rw [if_neg (by rw [hz.1];simp),if_neg (by omega),if_neg (by rw [hz.2.2.1];simp)]
def QCv:List (List Nat):=[[1,3,5],[3,5,7,8],[3,5,7,30],[6],[3,5,7,9,10],[3,5,7,9,10,12,13],[3,5,7,9,12,52],[6],[3,5,7,9,12,53,54,55],[3,5,7,9,12,53,54,55,56],[3,5,7,9,12,14,15,53,54,55],[3,5,7,9,12,14,16,17,18,53,54,55],[3,5,7,9,12,14,16,17,18,19,20,53,54,55],[3,5,7,9,12,16,53,54,55,110],[6],[3,5,7,9,12,53,54,55],[3,5,7,9,12,53,54,55],[6]]
theorem vR (p:Prg) (l:List Int) (b:Bud) (hp:p.Fit) (hl:l.length≤maxLen):Ctr Go.Proofs.Tryz.prog tab 12 [26,23,77] [4] [p.v,.list (l.map V.int),b.v] [.bool true]:=by
 have hpp:=hp
 have hcode:True→True:=id
 have hsl:True→True:=id
 have hmx:400≤maxLen:=by decide
 have hEp:=True.intro
 have hcl2:=yL p l b
 have hcl:(QR p l b).length≤maxLen:=Nat.le_trans hcl2 (by decide)
 refine Ctr.body ok Go.Proofs.Tryz.func12 rfl rfl 120 rfl [.tmp 6] rfl (by simp [QE]) ?_
 simp only [go_sem,Nat.reduceAdd]
 repeat' first
  | ((with_reducible refine SARA.told 10 _ ?_);try simp only [hAt])
  | ((with_reducible refine SART.told 13 _ ?_);try simp only [hEt])
  | ((with_reducible first|refine Q2 fun R1 hR1=>?_|refine qR fun R1 hR1=>?_|refine qQ fun R1 hR1=>?_|refine qP fun R1 hR1=>?_);(simp only [go_sem,seval,-List.reduceReplicate,Bool.cond_false_right,Bool.cond_true_left,QF,decide_true,Bool.not_true,Bool.not_false,Stt.beq,Event.beq]);(repeat' with_reducible refine And.intro ?_ ?_);all_goals first|(refine hR1 _ ?_;clear hR1 R1)|(intro hgf;simp only [hgf];refine hR1 _ ?_;clear hR1 R1)|((first|refine ce (cf (Z1 p l b hpp hl) ?_ (by first|rfl|(simp [go_sem,List.take_of_length_le,List.length_map,List.map_take,List.drop_zero,hEp];done)|fail))|refine ⟨_,_,rfl,.inr ⟨fun _=>CallE.ctr ok (Z1 p l b hpp hl) (by first|rfl|(simp [go_sem,List.take_of_length_le,List.length_map,List.map_take,List.drop_zero,hEp];done)|fail) ?_,?_⟩⟩|refine ⟨_,_,rfl,.inr (CallB.ctr ok (Z1 p l b hpp hl) (by first|rfl|(simp [go_sem,List.take_of_length_le,List.length_map,List.map_take,List.drop_zero,hEp];done)|fail) ?_)⟩|refine ⟨_,_,rfl,.inr ⟨fun _=>CallB.ctr ok (Z1 p l b hpp hl) (by first|rfl|(simp [go_sem,List.take_of_length_le,List.length_map,List.map_take,List.drop_zero,hEp];done)|fail) ?_,?_⟩⟩|refine ⟨_,_,rfl,.inr (CallE.ctrZ (hT) (by first|rfl|(simp [go_sem,List.take_of_length_le,List.length_map,List.map_take,List.drop_zero,hEp];done)|fail) ?_)⟩|refine ⟨_,_,rfl,.inr ⟨fun _=>CallE.ctrZ (hT) (by first|rfl|(simp [go_sem,List.take_of_length_le,List.length_map,List.map_take,List.drop_zero,hEp];done)|fail) ?_,?_⟩⟩|refine ⟨_,_,rfl,.inr (CallB.ctrZ (hT) (by first|rfl|(simp [go_sem,List.take_of_length_le,List.length_map,List.map_take,List.drop_zero,hEp];done)|fail) ?_)⟩|refine ⟨_,_,rfl,.inr ⟨fun _=>CallB.ctrZ (hT) (by first|rfl|(simp [go_sem,List.take_of_length_le,List.length_map,List.map_take,List.drop_zero,hEp];done)|fail) ?_,?_⟩⟩|refine ce (cf (hSt) ?_ (by first|rfl|(simp [go_sem,List.take_of_length_le,List.length_map,List.map_take,List.drop_zero,hEp];done)|fail))|refine ⟨_,_,rfl,.inr ⟨fun _=>CallE.ctr ok (hSt) (by first|rfl|(simp [go_sem,List.take_of_length_le,List.length_map,List.map_take,List.drop_zero,hEp];done)|fail) ?_,?_⟩⟩|refine ⟨_,_,rfl,.inr (CallB.ctr ok (hSt) (by first|rfl|(simp [go_sem,List.take_of_length_le,List.length_map,List.map_take,List.drop_zero,hEp];done)|fail) ?_)⟩|refine ⟨_,_,rfl,.inr ⟨fun _=>CallB.ctr ok (hSt) (by first|rfl|(simp [go_sem,List.take_of_length_le,List.length_map,List.map_take,List.drop_zero,hEp];done)|fail) ?_,?_⟩⟩|refine ce (cf (hdo) ?_ (by first|rfl|(simp [go_sem,List.take_of_length_le,List.length_map,List.map_take,List.drop_zero,hEp];done)|fail))|refine ⟨_,_,rfl,.inr ⟨fun _=>CallE.ctr ok (hdo) (by first|rfl|(simp [go_sem,List.take_of_length_le,List.length_map,List.map_take,List.drop_zero,hEp];done)|fail) ?_,?_⟩⟩|refine ⟨_,_,rfl,.inr (CallB.ctr ok (hdo) (by first|rfl|(simp [go_sem,List.take_of_length_le,List.length_map,List.map_take,List.drop_zero,hEp];done)|fail) ?_)⟩|refine ⟨_,_,rfl,.inr ⟨fun _=>CallB.ctr ok (hdo) (by first|rfl|(simp [go_sem,List.take_of_length_le,List.length_map,List.map_take,List.drop_zero,hEp];done)|fail) ?_,?_⟩⟩|refine ⟨_,_,rfl,.inr (CallE.ctrZ (hTi) (by first|rfl|(simp [go_sem,List.take_of_length_le,List.length_map,List.map_take,List.drop_zero,hEp];done)|fail) ?_)⟩|refine ⟨_,_,rfl,.inr ⟨fun _=>CallE.ctrZ (hTi) (by first|rfl|(simp [go_sem,List.take_of_length_le,List.length_map,List.map_take,List.drop_zero,hEp];done)|fail) ?_,?_⟩⟩|refine ⟨_,_,rfl,.inr (CallB.ctrZ (hTi) (by first|rfl|(simp [go_sem,List.take_of_length_le,List.length_map,List.map_take,List.drop_zero,hEp];done)|fail) ?_)⟩|refine ⟨_,_,rfl,.inr ⟨fun _=>CallB.ctrZ (hTi) (by first|rfl|(simp [go_sem,List.take_of_length_le,List.length_map,List.map_take,List.drop_zero,hEp];done)|fail) ?_,?_⟩⟩|refine cq (cc (Vd (Qu QB p b.fuel (QS QB p b.fuel).1 (QR p l b) i) (Qu QB p b.fuel (QS QB p b.fuel).1 (QR p l b) i) hel hel) (by first|rfl|(simp [go_sem,List.take_of_length_le,List.length_map,List.map_take,List.drop_zero,hEp];done)|fail)) ?_|refine ⟨_,_,rfl,.inl ⟨_,fun hg=>CallQ.ctr ok (Vd (Qu QB p b.fuel (QS QB p b.fuel).1 (QR p l b) i) (Qu QB p b.fuel (QS QB p b.fuel).1 (QR p l b) i) hel hel) (by first|rfl|(simp [go_sem,List.take_of_length_le,List.length_map,List.map_take,List.drop_zero,hEp];done)|fail) rfl,?_⟩⟩|refine cq (cc (Xa) (by first|rfl|(simp [go_sem,List.take_of_length_le,List.length_map,List.map_take,List.drop_zero,hEp];done)|fail)) ?_|refine ⟨_,_,rfl,.inl ⟨_,fun hg=>CallQ.ctr ok (Xa) (by first|rfl|(simp [go_sem,List.take_of_length_le,List.length_map,List.map_take,List.drop_zero,hEp];done)|fail) rfl,?_⟩⟩);all_goals ((try simp only [go_sem,seval,-List.reduceReplicate,Bool.cond_false_right,Bool.cond_true_left,QF,decide_true,Bool.not_true,Bool.not_false,Stt.beq,Event.beq]);(repeat' with_reducible refine And.intro ?_ ?_);all_goals first|(refine hR1 _ ?_;clear hR1 R1)|(intro hgf;simp only [hgf];refine hR1 _ ?_;clear hR1 R1)|exact ZQ))|exact ZQ)
  | ((with_reducible refine SART.doneAt 12 ?_);refine hR _ ?_;clear hR R;try simp only [go_sem,QCv,Nat.reduceBEq]
     exact Qq rfl)
  | ((with_reducible first|refine qO ?_|refine Q1 ?_);refine hR _ ?_;clear hR R;try simp only [go_sem,QCv,Nat.reduceBEq])
  | (with_reducible first|refine qN ?_ ?_|exact qM|refine qL ?_ ?_)
  | (with_reducible first|refine J1 ?_|refine J2 ?_|refine J3 ?_|refine J4 ?_|refine J5 ?_|refine J6 ?_|refine J7 ?_|refine J8 (by decide) ?_|refine J9 ?_|refine WL ?_|refine Q0 ?_|refine Qz ?_|refine YZ ?_|refine WK ?_)
  | ((with_reducible refine QZ 4 ?_)
     obtain ⟨hOk,hS,hO⟩:=WS (QBx hb30)
     have hcf:=QDD hb30
     have hr:=hOk.right
     have hT:=YU p (QR p l b) b hpp hcl
     rw [hO] at hT
     have hSt:=Ux p b.fuel hpp
     rw [QGs hr hOk.fuel] at hSt
     refine Zo (J49 ok.sized 2 rfl) ?_
     simp only [St.frz,Tm.frz,E.frz,E.frzL,Obj.frz,List.map_cons,List.map_nil,List.set_cons_zero,List.set_cons_succ,Nat.reduceBEq,Nat.beq_refl,if_true,if_false,Nat.beq_eq_true_eq,reduceCtorEq,Bool.false_eq_true,V.get,Nat.reduceEqDiff]
     simp only [List.drop_zero,List.take_of_length_le,List.length_map,Nat.le_refl]
     (with_reducible refine rg QCv fun R hR=>?_);simp only [go_sem,QC])
  | ((with_reducible refine QZ 10 ?_)
     have hlt:i<(QR p l b).length:=by omega
     have hAt:=Qr Pck.v (QR p l b) (i:=i) (by omega)
     (with_reducible refine rg QCv fun R hR=>?_);simp only [go_sem,QC])
  | ((with_reducible refine QZ 11 ?_)
     have hoj:∀ j,j<(QR p l b).length→YD QB p b.fuel (QS QB p b.fuel).1 (QR p l b) j=true:=fun j hj=>xW QB (by rw [hOk.stop];exact hj)
     have hvi:Vld p (QY QB p b.fuel (QS QB p b.fuel).1 (QR p l b) i):=VX Yp hr (Prg.ok hr) hOk.fuel (ya Yp hr (Prg.ok hr) hOk.fuel) (by omega) (fun j hj=>hoj j (by omega))
     have hdo:=Uz p (QY QB p b.fuel (QS QB p b.fuel).1 (QR p l b) i) ((QR p l b).getD i default) b.fuel hpp hvi.shape
     rw [QFP hr hOk.fuel hlt hvi (hoj i hlt)] at hdo
     (with_reducible refine rg QCv fun R hR=>?_);simp only [go_sem,QC])
  | ((with_reducible refine QZ 17 ?_)
     have hi':i=(QR p l b).length:=by omega
     subst hi'
     (with_reducible refine rg QCv fun R hR=>?_);simp only [go_sem,QC])
  | ((with_reducible refine QZ 12 ?_)
     obtain ⟨ck,hTe⟩:=QE0 hcf.1 hcf.2 hOk.stop (i:=i) (by omega)
     have hTi:=YU p ((QR p l b).take i) b hpp (by rw [List.length_take];omega)
     rw [hTe] at hTi
     refine J35 ok QN (.take 0 (.take 1 (.take 2 (.take 3 (.take 4 (.br 5 (.take 6 (.take 7 (.br 8 (.br 9 (.br 10 (.br 11 (.take 12 (.take 13 .done)) .nil) .nil) (.br 10 (.br 9 (.br 11 (.take 12 (.take 13 .done)) .nil) (.br 11 (.take 9 (.take 12 (.take 13 .done))) .nil)) .nil)) (.br 9 (.br 8 (.br 10 (.br 11 (.take 12 (.take 13 .done)) .nil) .nil) (.br 10 (.br 8 (.br 11 (.take 12 (.take 13 .done)) .nil) (.br 11 (.take 8 (.take 12 (.take 13 .done))) .nil)) .nil)) (.br 10 (.br 8 (.br 9 (.br 11 (.take 12 (.take 13 .done)) .nil) (.br 11 (.take 9 (.take 12 (.take 13 .done))) .nil)) (.br 9 (.br 8 (.br 11 (.take 12 (.take 13 .done)) .nil) (.br 11 (.take 8 (.take 12 (.take 13 .done))) .nil)) (.br 11 (.take 8 (.take 9 (.take 12 (.take 13 .done)))) .nil))) .nil))))) (.br 10 (.br 5 (.take 6 (.take 7 (.br 8 (.br 9 (.br 11 (.take 12 (.take 13 .done)) .nil) (.br 11 (.take 9 (.take 12 (.take 13 .done))) .nil)) (.br 9 (.br 8 (.br 11 (.take 12 (.take 13 .done)) .nil) (.br 11 (.take 8 (.take 12 (.take 13 .done))) .nil)) (.br 11 (.take 8 (.take 9 (.take 12 (.take 13 .done)))) .nil))))) .nil) .nil))))))) [11] QCv (by kernel_rfl) ({ tm:=[(3,true,.ptr 0 [] 26),(5,true,.ptr 1 [] 77),(7,true,.fs 39 ((QR p l b).map Pck.v) false),(9,true,.ptr 3 [] 81),(12,true,.ptr 4 [] 37),(14,true,.int .i64 i),(16,true,.ptr 6 [] 37),(17,true,.ptr 7 [] 48),(18,true,.int .i64 0),(19,true,.ptr 8 [] 81),(20,true,.int .i64 0),(53,true,.fs 39 ((QR p l b).map Pck.v) false),(54,true,.int .i64 (QR p l b).length),(55,true,.int .i64 i)],ob:=[.var 26 (.data 26 p.v),.var 77 (.data 77 b.v),.dead,.var 81 (.data 81 (Trc.v ⟨Y4 p (QR p l b) b,ZX p (QR p l b) b,decide (((QR p l b).length:Int)=b.steps)&&decide (0<(ready p (ZX p (QR p l b) b)).length)⟩)),.var 37 (.data 37 (Stt.v (QY QB p b.fuel (QS QB p b.fuel).1 (QR p l b) i))),.var 39 (.data 39 (Pck.v ((QR p l b).getD i default))),.var 37 (.data 37 (Stt.v (QY QB p b.fuel (QS QB p b.fuel).1 (QR p l b) (i+1)))),.var 48 (.data 48 (Event.v (Xi QB p b.fuel (QS QB p b.fuel).1 (QR p l b) i))),.var 81 (.data 81 (Trc.v ⟨(Qu QB p b.fuel (QS QB p b.fuel).1 (QR p l b) i),(QY QB p b.fuel (QS QB p b.fuel).1 (QR p l b) i),ck⟩))],out:=[],nt:=120 }) (fun R hR=>?_) ?_;simp only [go_sem,QC])
  | ((with_reducible refine QZ 13 ?_)
     have hel:(Qu QB p b.fuel (QS QB p b.fuel).1 (QR p l b) i).length≤maxLen:=by rw [Zj];omega
     have hEt:∀ d:V,((Y4 p (QR p l b) b).map Event.v).getD i d=Event.v (Xi QB p b.fuel (QS QB p b.fuel).1 (QR p l b) i):=fun d=>by
      rw [Qr Event.v (Y4 p (QR p l b) b) (i:=i) (by rw [Zj];omega),QAw hlt]
     have hEp:((Y4 p (QR p l b) b).map Event.v).take i=(Qu QB p b.fuel (QS QB p b.fuel).1 (QR p l b) i).map Event.v:=by rw [← List.map_take,QC5 (by omega)]
     have hevl:(Y4 p (QR p l b) b).length=(QR p l b).length:=Zj ..
     refine WJ ok QN (.take 0 (.take 1 (.take 2 (.take 3 (.take 4 (.take 5 (.take 6 (.take 7 (.take 8 (.take 9 (.take 10 (.take 11 (.take 12 (.take 13 (.take 14 (.take 15 (.take 16 (.take 17 (.take 18 (.take 19 (.take 20 (.take 21 (.take 22 (.take 23 (.take 24 (.take 25 (.take 26 (.take 27 (.br 28 (.take 29 (.take 30 .done)) .nil))))))))))))))))))))))))))))) [] QCv (by kernel_rfl) (fun R hR=>?_);simp only [go_sem,QC])
  | ((with_reducible refine rg QCv fun R hR=>?_);simp only [go_sem,QC])
  | ((with_reducible refine QH 30 rfl (fun hb30=>?_) fun hb30=>?_);all_goals (try simp [-List.getD_eq_getElem?_getD] at hb30;try (exfalso;omega)))
  | ((with_reducible refine QH 52 rfl (fun hb52=>?_) fun hb52=>?_);all_goals (try simp [-List.getD_eq_getElem?_getD] at hb52;try (exfalso;omega)))
  | ((with_reducible refine QH 110 rfl (fun hb110=>?_) fun hb110=>?_);all_goals (try simp [-List.getD_eq_getElem?_getD] at hb110;try (exfalso;omega)))
  | ((with_reducible refine SA.cond rfl ?_ ?_)
     all_goals
      intro hb
      try simp [-List.getD_eq_getElem?_getD] at hb
      try (exfalso;omega))
  | ((with_reducible refine YQ ?_)
     refine Zo (Qq (by (simp only [WQ];rfl))) (YR (fun n τ=>∃ (i:Nat),n=(QR p l b).length-i∧(i≤(QR p l b).length)∧τ={ tm:=[(3,true,.ptr 0 [] 26),(5,true,.ptr 1 [] 77),(7,true,.fs 39 ((QR p l b).map Pck.v) false),(9,true,.ptr 3 [] 81),(12,true,.ptr 4 [] 37),(53,true,.fs 39 ((QR p l b).map Pck.v) false),(54,true,.int .i64 (QR p l b).length),(55,true,.int .i64 i)],ob:=[.var 26 (.data 26 p.v),.var 77 (.data 77 b.v),.dead,.var 81 (.data 81 (Trc.v ⟨Y4 p (QR p l b) b,ZX p (QR p l b) b,decide (((QR p l b).length:Int)=b.steps)&&decide (0<(ready p (ZX p (QR p l b) b)).length)⟩)),.var 37 (.data 37 (Stt.v (QY QB p b.fuel (QS QB p b.fuel).1 (QR p l b) i)))],out:=[],nt:=120 }) ((QR p l b).length) ⟨0,rfl,Nat.zero_le _,rfl⟩ ?_)
     rintro n τ ⟨i,hn,hi,rfl⟩)
  | ((with_reducible refine WM ?_)
     first
      | (have hlt:i<(QR p l b).length:=by omega
         have hw:=QD hlt hcl
         refine Zt ((QR p l b).length-(i+1)) _ (by omega) ((WN 5 rfl).trans (Qq (by simp only [hw,List.take_succ_cons,List.take_zero]))) ⟨i+1,rfl,hlt,rfl⟩))
  | ((with_reducible first|refine ZH ?_|refine ZG ?_)
     simp only [go_sem,QJ,QK,QG,seval]
     first
      | (exact ⟨rfl,rfl⟩)
      | (rfl)
      | (refine ⟨rfl,?_⟩
         simp))
end Go.Eng.Tryz
