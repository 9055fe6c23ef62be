/- A part of the proof: walks through the program's functions, and what they compute. -/
import Derived.Test.YtmonhjagbhpbeaaGreatDoorPk29
set_option linter.unusedSimpArgs false
set_option linter.unusedVariables false
namespace Go.Eng
theorem QGQ {k n:Nat} (h:k<n):yG (k:Int) n=k:=by
 have e:(k:Int).tmod n=k:=Int.tmod_eq_of_lt (by omega) (by omega)
 unfold yG
 rw [e,if_neg (by omega)]
theorem QB6 {p:Prg} {fuel:Int} {s:Stt} {l:List Pck} {j:Nat} (hf:0≤fuel∧fuel≤4096) (h:Zy QA p fuel s l j=true):(Qj QA p fuel s l j).go=(l.getD j default).go∧(Qj QA p fuel s l j).alt=(l.getD j default).alt:=by
 obtain ⟨v,hv⟩:=zL (apply:=QA) (qZ h) hf
 unfold Qj
 rw [hv]
 exact ⟨rfl,rfl⟩
theorem ze {p:Prg} {fuel:Int} {ats:List Int} {l:List Pck} (hat:∀ j,j<l.length→∃ k:Nat,ats.getD j 0=k∧k<(ready p (QG QA p fuel (start QA p fuel).1 l j)).length∧(ready p (QG QA p fuel (start QA p fuel).1 l j)).getD k default=l.getD j default) :
 ∀ k:Nat,k≤l.length→Zg p fuel ats k=(QG QA p fuel (start QA p fuel).1 l k,l.take k)
 | 0,_=>by
   show ((start QA p fuel).1,[])=_
   rw [Wx,List.take_zero]
 | k+1,h=>by
   obtain ⟨n,h1,h2,h3⟩:=hat k (by omega)
   have ih:=ze hat k (by omega)
   have hp:Vg p (Zg p fuel ats k).1 (ats.getD k 0)=l.getD k default:=by
    unfold Vg
    rw [ih,h1,QGQ h2]
    exact h3
   show ((XV QA p (Zg p fuel ats k).1 (Vg p (Zg p fuel ats k).1 (ats.getD k 0)) fuel).1,(Zg p fuel ats k).2++[Vg p (Zg p fuel ats k).1 (ats.getD k 0)])=_
   rw [hp,ih,Z7 QA p fuel _ l (by omega)]
   refine Prod.ext rfl ?_
   show l.take k++[l.getD k default]=l.take (k+1)
   rw [List.take_succ_eq_append_getElem (by omega)]
   simp [List.getD_eq_getElem?_getD,show k<l.length by omega]
theorem QCE {p:Prg} {b:Bud} {ats:List Int} {l:List Pck} (ha:Zf p l.length b=0) (hs:(l.length:Int)≤b.steps) (hlen:ats.length=l.length)
 (hat:∀ j,j<l.length→∃ k:Nat,ats.getD j 0=k∧k<(ready p (QG QA p b.fuel (start QA p b.fuel).1 l j)).length∧(ready p (QG QA p b.fuel (start QA p b.fuel).1 l j)).getD k default=l.getD j default):QD p ats b=l:=by
 have hm:XE ats b=l.length:=by
  unfold XE
  omega
 have hc:Yj p ats b=l.length:=UW hm.symm (fun j hj=>by
  obtain ⟨k,_,h2,_⟩:=hat j hj
  rw [ze hat j (by omega)]
  show 0<(ready p (QG ..)).length
  omega)
 unfold QD
 rw [hlen,if_pos ha,hc,ze hat _ (Nat.le_refl _)]
 exact List.take_length
end Go.Eng
namespace Go.Eng
def UN (l:List Pck) (x:Pck):Nat→Int
 | 0 => -1
 | k+1=>if l.getD k default=x then (k:Int) else UN l x k
theorem ws {l:List Pck} {x:Pck}:∀ {k:Nat},(∃ j,j<k∧l.getD j default=x)→∃ j:Nat,UN l x k=j∧j<k∧l.getD j default=x
 | 0,h=>by obtain ⟨j,h,_⟩:=h;omega
 | k+1,h=>by
   unfold UN
   by_cases q:l.getD k default=x
   · exact ⟨k,if_pos q,Nat.lt_succ_self k,q⟩
   · obtain ⟨j,hj,hx⟩:=h
     have hjk:j≠k:=fun e=>q (e▸hx)
     obtain ⟨n,h1,h2,h3⟩:=ws (l:=l) (x:=x) (k:=k) ⟨j,by omega,hx⟩
     exact ⟨n,(if_neg q).trans h1,by omega,h3⟩
def QCM (p:Prg) (fuel:Int) (l:List Pck) (j:Nat):Int:=UN (ready p (QG QA p fuel (start QA p fuel).1 l j)) (l.getD j default) (ready p (QG QA p fuel (start QA p fuel).1 l j)).length
def Wa (p:Prg) (fuel:Int) (l:List Pck) (k:Nat):List Int:=(List.range k).map (QCM p fuel l)
section
variable {p:Prg} {fuel:Int} {l:List Pck}
theorem QCL (k:Nat):Wa p fuel l (k+1)=Wa p fuel l k++[QCM p fuel l k]:=by simp [Wa,List.range_succ]
theorem Wn (k:Nat):(Wa p fuel l k).length=k:=by simp [Wa]
theorem QCt {s:Stt} {j:Nat} (h:Zy QA p fuel s l j=true):l.getD j default∈ready p (QG QA p fuel s l j):=by
 have ha:=okAtR_iff.1 h
 exact ready_mem.2 ⟨(live_iff.1 (ZU ha)).1,ha⟩
theorem xc {j:Nat} (h:Zy QA p fuel (start QA p fuel).1 l j=true):∃ k:Nat,QCM p fuel l j=k∧k<(ready p (QG QA p fuel (start QA p fuel).1 l j)).length∧(ready p (QG QA p fuel (start QA p fuel).1 l j)).getD k default=l.getD j default:=by
 obtain ⟨k,hk,hx⟩:=List.mem_iff_getElem.1 (QCt h)
 exact ws ⟨k,hk,by rw [List.getD_eq_getElem?_getD,List.getElem?_eq_getElem hk];exact hx⟩
end
theorem QCD {p:Prg} {b:Bud} {l:List Pck} (ha:Zf p l.length b=0) (hs:(l.length:Int)≤b.steps) (hok:∀ j,j<l.length→Zy QA p b.fuel (start QA p b.fuel).1 l j=true):QD p (Wa p b.fuel l l.length) b=l:=by
 refine QCE ha hs (Wn _) fun j hj=>?_
 obtain ⟨k,h1,h2,h3⟩:=xc (hok j hj)
 refine ⟨k,?_,h2,h3⟩
 rw [← h1]
 simp [Wa,List.getD_eq_getElem?_getD,hj]
theorem QGt {p:Prg} {n:Nat} {b:Bud} (h:¬Zf p n b=0):(!QT p||decide (256<(n:Int))||!Z5 b)=true:=by
 unfold Zf at h
 cases h1:QT p
 · rfl
 · by_cases h2:256<(n:Int)
   · rw [decide_eq_true h2];rfl
   · cases h3:Z5 b
     · simp
     · rw [h1,h3,if_neg (by decide),if_neg (by omega),if_neg (by decide)] at h
       exact absurd rfl h
end Go.Eng
