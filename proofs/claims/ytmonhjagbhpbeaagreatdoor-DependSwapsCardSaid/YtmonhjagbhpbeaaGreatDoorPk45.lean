/- A part of the proof: walks through the program's functions, and what they compute. -/
import Derived.Test.YtmonhjagbhpbeaaGreatDoorPk26
set_option linter.unusedSimpArgs false
set_option linter.unusedVariables false
namespace Go.Eng
theorem Yq (l:List Pck) (i:Nat):∀ n:Nat,(ZJ l i n).length=l.length
 | 0=>rfl
 | n+1=>by
   show (Qx _ _).length=_
   rw [Xa,Yq l i n]
end Go.Eng
namespace Go.Eng.Tryz
open Go.RowKit Go.Eng
set_option maxHeartbeats 0
set_option maxRecDepth 20000
def Zq (p:Prg) (l:List Pck) (b:Bud) (i:Nat):Nat:=(List.range i).findIdx fun k=>ZH (Zb p l b (i-(k+1))) (Zb p l b i)
def Up (p:Prg) (l:List Pck) (i:Int) (b:Bud):List Pck × Int × Int :=
 if (Z1 p l i ((l.length:Int)-1) b).2≠0 then ([],0,(Z1 p l i ((l.length:Int)-1) b).2)
 else (ZJ l i.toNat (Zq p l b i.toNat),((i.toNat-Zq p l b i.toNat:Nat):Int),0)
theorem QAk {p:Prg} {l:List Pck} {b:Bud} {i n:Nat} (hn:n≤i) (h1:n<i→ZH (Zb p l b (i-(n+1))) (Zb p l b i)=true) (h2:∀ k,k<n→ZH (Zb p l b (i-(k+1))) (Zb p l b i)=false):Zq p l b i=n:=by
 by_cases q:n<i
 · unfold Zq
   rw [List.findIdx_eq (by simpa using q)]
   exact ⟨by simpa using h1 q,fun j hj=>by simpa using h2 j hj⟩
 · obtain rfl:n=i:=by omega
   unfold Zq
   rw [List.findIdx_eq_length_of_false]
   · simp
   · intro j hj
     simpa using h2 j (by simpa using hj)
theorem wU {p:Prg} {l:List Pck} {i:Int} {b:Bud} (h:¬(Z1 p l i ((l.length:Int)-1) b).2=0):Up p l i b=([],0,(Z1 p l i ((l.length:Int)-1) b).2):=if_pos h
theorem xa {p:Prg} {l:List Pck} {k:Nat} {b:Bud} (h:(Z1 p l k ((l.length:Int)-1) b).2=0):Up p l k b=(ZJ l k (Zq p l b k),((k-Zq p l b k:Nat):Int),0):=if_neg (fun q=>q h)
theorem QEx {l:List Pck} {k:Nat}:((l.map Pck.v).set (k+1) (Pck.v (l.getD k default))).set k (Pck.v (l.getD (k+1) default))=(Qx l k).map Pck.v:=by
 rw [← yw,List.set_comm _ _ (by omega)]
theorem QIs {l:List Pck} {k n:Nat} (h:n<k):(((ZJ l k n).map Pck.v).set (k-n) (Pck.v ((ZJ l k n).getD (k-(n+1)) default))).set (k-(n+1)) (Pck.v ((ZJ l k n).getD (k-n) default))=(ZJ l k (n+1)).map Pck.v:=by
 have e:=QEx (l:=ZJ l k n) (k:=k-(n+1))
 rw [show k-(n+1)+1=k-n by omega] at e
 exact e
def QJH:List (List Nat):=[[1,2,4,7],[1,2,11,12],[1,2,11,12,27],[8,9,10],[2,11,13],[2,11,13,14],[2,11,13,14,48],[2,11,13,14],[2,11,13,14],[8,9,10]]
theorem zn (p:Prg) (l:List Pck) (i:Int) (b:Bud) (hp:p.Fit) (hl:l.length≤maxLen):Ctr Go.Proofs.Tryz.prog tab 28 [26,29,3,28] [29,3,30] [p.v,.list (l.map Pck.v),.int i,b.v] [.list ((Up p l i b).1.map Pck.v),.int (Up p l i b).2.1,.int (Up p l i b).2.2]:=by
 have hpp:=hp
 have hcode:True→True:=id
 have hsl:True→True:=id
 have hmx:400≤maxLen:=by decide
 have hlx:=hl
 unfold maxLen at hlx
 have hw2:IntKind.i64.wrap ((l.length:Int)-1)=(l.length:Int)-1:=Qm (by omega) (by omega)
 refine Ctr.body ok Go.Proofs.Tryz.func28 rfl rfl 69 rfl [.tmp 8,.tmp 9,.tmp 10] rfl (by simp [QF]) ?_
 simp only [go_sem,Nat.reduceAdd]
 repeat' first
  | (fail_if_success (have:=hnk)
     (with_reducible refine Qe 6 ?_)
     refine (Nat.lt_or_ge m k).elim (fun hnk=>?lt) (fun hnk=>?ge)
     case' lt =>
      have hgt:decide (((k-m:Nat):Int) > 0)=true:=decide_eq_true (by omega)
      have hw6:IntKind.i64.wrap (((k-m:Nat):Int)-1)=((k-(m+1):Nat):Int):=by
       rw [Qm (by omega) (by omega)]
       omega
      have hT0:=hR.touch (show k-(m+1)<l.length by omega)
      have hE6:=fun d:V=>Xh (p:=p) (b:=b) (d:=d) (show k-(m+1)<l.length by omega)
      have hsl:=Yq l k m
      have hP0:=Qg Pck.v (ZJ l k m) (i:=k-m) (by omega)
      have hP1:=Qg Pck.v (ZJ l k m) (i:=k-(m+1)) (by omega)
     case' ge =>
      have hgt:decide (((k-m:Nat):Int) > 0)=false:=decide_eq_false (by omega)
      have hw6:=True.intro
      have hE6:=True.intro)
  | ((with_reducible refine SART.told 6 _ ?_);try simp only [hgt,hw6,hE6,hEk,Int.toNat_natCast])
  | ((with_reducible refine SART.told 7 _ ?_);try simp only [hw6,Int.toNat_natCast])
  | ((with_reducible first|refine Q5 fun R1 hR1=>?_|refine qz fun R1 hR1=>?_|refine qy fun R1 hR1=>?_|refine qx fun R1 hR1=>?_);(simp only [go_sem,seval,-List.reduceReplicate,Bool.cond_false_right,Bool.cond_true_left,QE,hw2,decide_true,decide_false]);(repeat' with_reducible refine And.intro ?_ ?_);all_goals first|(refine hR1 _ ?_;clear hR1 R1)|(intro hgf;simp only [hgf];refine hR1 _ ?_;clear hR1 R1)|((first|refine ⟨_,_,rfl,.inr (CallE.ctrZ (qc p l i ((l.length:Int)-1) b hpp hl) (by first|rfl|(simp [go_sem,List.take_of_length_le,List.length_map,List.map_take,List.drop_zero];done)|fail) ?_)⟩|refine ⟨_,_,rfl,.inr ⟨fun _=>CallE.ctrZ (qc p l i ((l.length:Int)-1) b hpp hl) (by first|rfl|(simp [go_sem,List.take_of_length_le,List.length_map,List.map_take,List.drop_zero];done)|fail) ?_,?_⟩⟩|refine ce (wO (W6 l (by omega) (by omega)) ?_)|refine ⟨_,_,rfl,.inr ⟨fun _=>CallE.ctr ok (W6 l (by omega) (by omega)) (by first|rfl|(simp [go_sem,List.take_of_length_le,List.length_map,List.map_take,List.drop_zero];done)|fail) ?_,?_⟩⟩|refine cq (VK (W5 (Zb p l b (k-(m+1))) (Zb p l b k) hT0 hT1)) ?_|refine Y4 (fun hg=>VK (W5 (Zb p l b (k-(m+1))) (Zb p l b k) hT0 hT1)) ?_|refine ⟨_,_,rfl,.inl ⟨.bool false,?_⟩⟩);all_goals ((try simp only [go_sem,seval,-List.reduceReplicate,Bool.cond_false_right,Bool.cond_true_left,QE,hw2,decide_true,decide_false]);(repeat' with_reducible refine And.intro ?_ ?_);all_goals first|(refine hR1 _ ?_;clear hR1 R1)|(intro hgf;simp only [hgf];refine hR1 _ ?_;clear hR1 R1)|exact Zp))|exact Zp)
  | ((with_reducible refine SART.doneAt 7 ?_);refine hR _ ?_;clear hR R;try simp only [go_sem,QJH,Nat.reduceBEq]
     exact Qo (by simp [-List.getD_eq_getElem?_getD,QIs hnk,hP0,hP1]))
  | ((with_reducible first|refine qw ?_|refine Q4 ?_);refine hR _ ?_;clear hR R;try simp only [go_sem,QJH,Nat.reduceBEq])
  | (with_reducible first|refine qv ?_ ?_|exact qu|refine qt ?_ ?_)
  | (with_reducible first|refine J1 ?_|refine J2 ?_|refine J3 ?_|refine J4 ?_|refine J5 ?_|refine J6 ?_|refine J7 ?_|refine J8 (by decide) ?_|refine J9 ?_|refine Xu ?_|refine Q2 ?_|refine Q1 ?_|refine Yc ?_|refine Xt ?_)
  | ((with_reducible refine Qe 4 ?_)
     obtain ⟨h0,h1,hS,hD⟩:=Vj hb27
     obtain ⟨k,rfl⟩:=Int.eq_ofNat_of_zero_le h0
     rw [hD]
     have hk:k<l.length:=by omega
     have hR:=(YZ hS).1
     have hlen:=hR.len
     have hevl:=YM p l b
     have hT1:=hR.touch hk
     have hEk:=fun d:V=>Xh (p:=p) (b:=b) (d:=d) hk
     (with_reducible refine rg QJH fun R hR=>?_);simp only [go_sem,QC])
  | ((with_reducible refine Qe 6 ?_)
     refine WT ok QQ (.take 0 (.take 1 (.take 2 (.take 3 (.take 4 (.take 5 (.take 6 (.take 7 (.take 8 (.take 9 (.take 10 (.take 11 (.take 12 (.take 13 (.br 14 (.take 15 (.take 16 .done)) .nil))))))))))))))) [] QJH (by kernel_rfl) (fun R hR=>?_);simp only [go_sem,QC])
  | ((with_reducible refine Qe 7 ?_)
     refine J35 ok QQ (.take 0 (.take 1 (.take 5 (.take 6 (.take 7 (.take 8 (.take 9 (.take 10 (.take 11 (.take 12 (.take 13 (.take 14 (.br 2 (.br 3 (.br 4 (.br 15 (.take 16 (.br 17 .done .nil)) .nil) (.br 15 (.take 4 (.take 16 (.br 17 .done .nil))) .nil)) (.br 15 (.take 3 (.take 4 (.take 16 (.br 17 .done .nil)))) .nil)) (.br 3 (.br 2 (.br 4 (.br 15 (.take 16 (.br 17 .done .nil)) .nil) (.br 15 (.take 4 (.take 16 (.br 17 .done .nil))) .nil)) (.br 4 (.br 2 (.br 15 (.take 16 (.br 17 .done .nil)) .nil) (.br 15 (.take 2 (.take 16 (.br 17 .done .nil))) .nil)) (.br 15 (.take 2 (.take 4 (.take 16 (.br 17 .done .nil)))) .nil))) (.br 15 (.take 2 (.take 3 (.take 4 (.take 16 (.br 17 .done .nil))))) .nil))))))))))))))) [15,17] QJH (by kernel_rfl) ({ tm:=[(2,true,.int .i64 k),(11,true,.ptr 2 [] 49),(13,true,.sl 3 56 0 l.length false),(14,true,.int .i64 ((k-m:Nat):Int))],ob:=[.var 26 (.data 26 p.v),.var 28 (.data 28 b.v),.var 49 (.data 49 (Trc.v ⟨Qh p l b,Qs p l b,decide ((l.length:Int)=b.steps)&&decide (0<(ready p (Qs p l b)).length)⟩)),.row 56 ((ZJ l k (m+1)).map Pck.v)],out:=[],nt:=69 }) (fun R hR=>?_) ?_;simp only [go_sem,QC])
  | ((with_reducible refine rg QJH fun R hR=>?_);simp only [go_sem,QC])
  | ((with_reducible refine QI 27 rfl (fun hb27=>?_) fun hb27=>?_);all_goals (try simp [-List.getD_eq_getElem?_getD] at hb27;try (exfalso;omega)))
  | ((with_reducible refine QI 48 rfl (fun hb48=>?_) fun hb48=>?_);all_goals (try simp [-List.getD_eq_getElem?_getD] at hb48;try (exfalso;omega)))
  | ((with_reducible refine Ya ?_)
     refine Zv (Qo (by first|rfl|(simp;done)|fail)) (Yb (fun n τ=>∃ (m:Nat),n=k-m∧(m≤k∧∀ j,j<m→ZH (Zb p l b (k-(j+1))) (Zb p l b k)=false)∧τ={ tm:=[(2,true,.int .i64 k),(11,true,.ptr 2 [] 49),(13,true,.sl 3 56 0 l.length false),(14,true,.int .i64 ((k-m:Nat):Int))],ob:=[.var 26 (.data 26 p.v),.var 28 (.data 28 b.v),.var 49 (.data 49 (Trc.v ⟨Qh p l b,Qs p l b,decide ((l.length:Int)=b.steps)&&decide (0<(ready p (Qs p l b)).length)⟩)),.row 56 ((ZJ l k m).map Pck.v)],out:=[],nt:=69 }) (k) ⟨0,rfl,⟨Nat.zero_le _,fun j h=>absurd h (Nat.not_lt_zero _)⟩,rfl⟩ ?_)
     rintro n τ ⟨m,hn,⟨hn,hd⟩,rfl⟩)
  | ((with_reducible refine WC ?_)
     first
      | (refine Z0 (k-(m+1)) _ (by omega) (Qo (by simp only [hw6])) ⟨m+1,rfl,⟨hnk,fun j hj=>?_⟩,rfl⟩
         by_cases h2:j<m
         · exact hd j h2
         · have h3:j=m:=by omega
           rw [h3];simpa using hb48))
  | ((with_reducible first|refine ZQ ?_|refine ZP ?_)
     simp only [go_sem,QL,QM,QH,seval]
     first
      | (have q:¬_:=hb27
         rw [wU hb27]
         exact ⟨⟨rfl,rfl⟩,⟨rfl,rfl⟩,rfl,rfl⟩)
      | (have e:Zq p l b k=m:=QAk hn (fun h=>by first|(exfalso;omega)|simpa using hb48) hd
         rw [xa hb27,e]
         refine ⟨⟨rfl,?_,?_⟩,⟨rfl,rfl⟩,rfl,rfl⟩
         · simp [List.take_of_length_le,Yq]
         · intro e he j u lo n c h
           simp at he
           rcases he with rfl|rfl<;>cases h))
theorem vF (p:Prg) (l:List Pck) (i:Int) (b:Bud):(∃ e:Int,¬e=0∧Up p l i b=([],0,e)) ∨
 ∃ k:Nat,i=k∧k<l.length∧(XX p l b).2.2.1=0∧Up p l i b=(ZJ l k (Zq p l b k),((k-Zq p l b k:Nat):Int),0):=by
 by_cases h:(Z1 p l i ((l.length:Int)-1) b).2=0
 · obtain ⟨h0,h1,hS,_⟩:=Vj h
   obtain ⟨k,rfl⟩:=Int.eq_ofNat_of_zero_le h0
   exact .inr ⟨k,rfl,by omega,hS,xa h⟩
 · exact .inl ⟨_,h,wU h⟩
end Go.Eng.Tryz
