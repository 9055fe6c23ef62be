/- A part of the proof: walks through the program's functions, and what they compute. -/
import Derived.Test.YtmonhjagbhpbeaaGreatDoorPk7
set_option linter.unusedSimpArgs false
set_option linter.unusedVariables false
namespace Go.Eng
open Go.RowKit
variable {P:Program} {T:Tab} {w w':World} {w0:Base T} {F F':Nat→Prop} {ρ ρ':Nat→RI} {σ σ':St} {a:Act} {outs:List (Array Value)} {ops:Array Oper} {keeps:Nat→Bool}
mutual
theorem E.under_frz {k i:Nat} {v:V} {l:List V} (hk:k≤i):∀ {e:E},e.under k=true→e.frz i v l=e
 | .int _ _,_=>rfl
 | .bool _,_=>rfl
 | .str _,_=>rfl
 | .data _ _,_=>rfl
 | .fs _ _ _,_=>rfl
 | .sl j e lo n c,h=>by
   have hj:j<k:=by simpa [E.under] using h
   have:Nat.beq j i=false:=by
    cases hb:Nat.beq j i with
    | false=>rfl
    | true=>have:=Nat.eq_of_beq_eq_true hb;omega
   simp [E.frz,this]
 | .nilsl,_=>rfl
 | .ptr j p t,h=>by
   have hj:j<k:=by simpa [E.under] using h
   have:Nat.beq j i=false:=by
    cases hb:Nat.beq j i with
    | false=>rfl
    | true=>have:=Nat.eq_of_beq_eq_true hb;omega
   simp [E.frz,this]
 | .av j p t m,h=>by
   have hj:j<k:=by simpa [E.under] using h
   have:Nat.beq j i=false:=by
    cases hb:Nat.beq j i with
    | false=>rfl
    | true=>have:=Nat.eq_of_beq_eq_true hb;omega
   simp [E.frz,this]
 | .rp j m p t,h=>by
   have hj:j<k:=by simpa [E.under] using h
   have:Nat.beq j i=false:=by
    cases hb:Nat.beq j i with
    | false=>rfl
    | true=>have:=Nat.eq_of_beq_eq_true hb;omega
   simp [E.frz,this]
 | .fptr _ _,_=>rfl
 | .fn f caps,h=>by
   have h':E.underL k caps=true:=by simpa [E.under] using h
   simp [E.frz,E.underL_frz hk h']
 | .nilfn,_=>rfl
 | .tup m,h=>by
   have h':E.underL k m=true:=by simpa [E.under] using h
   simp [E.frz,E.underL_frz hk h']
 | .agg _ m,h=>by
   have h':E.underL k m=true:=by simpa [E.under] using h
   simp [E.frz,E.underL_frz hk h']
 | .undef,_=>rfl
theorem E.underL_frz {k i:Nat} {v:V} {l:List V} (hk:k≤i):∀ {m:List E},E.underL k m=true→E.frzL i v l m=m
 | [],_=>rfl
 | e::m,h=>by
   simp only [E.underL,Bool.and_eq_true] at h
   simp [E.frzL,E.under_frz hk h.1,E.underL_frz hk h.2]
end
theorem Tm.under_frz {k i:Nat} {v:V} {l:List V} (hk:k≤i):∀ {tm:Tm},Tm.under k tm=true→Tm.frz i v l tm=tm
 | [],_=>rfl
 | (t,g,e)::tm,h=>by
   simp only [Tm.under,Bool.and_eq_true] at h
   have:=Tm.under_frz (v:=v) (l:=l) hk h.2
   unfold Tm.frz at this ⊢
   rw [List.map_cons,this]
   simp [E.under_frz hk h.1]
theorem Uc {k i:Nat} {v:V} {l:List V} (hk:k≤i):∀ {out:List Tm},QT k out=true→out.map (Tm.frz i v l)=out
 | [],_=>rfl
 | tm::out,h=>by
   simp only [QT,Bool.and_eq_true] at h
   rw [List.map_cons,Tm.under_frz hk h.1,Uc hk h.2]
def Uq (rd:List Pck) (last:Int):Nat:=if rd.findIdx (fun x=>decide (last<x.go))<rd.length then rd.findIdx (fun x=>decide (last<x.go)) else 0
def ZN (rd:List Pck) (last:Int):Pck:=rd.getD (Uq rd last) default
def QX (p:Prg) (fuel:Int):Nat→Stt × List Pck × Int
 | 0=>((start QB p fuel).1,[],-1)
 | k+1 =>
   ((YO QB p (QX p fuel k).1 (ZN (ready p (QX p fuel k).1) (QX p fuel k).2.2) fuel).1,(QX p fuel k).2.1++[ZN (ready p (QX p fuel k).1) (QX p fuel k).2.2],
     (ZN (ready p (QX p fuel k).1) (QX p fuel k).2.2).go)
def Yi (p:Prg) (b:Bud):Nat:=(List.range b.steps.toNat).findIdx fun k=>decide ((ready p (QX p b.fuel k).1).length=0)
def Vv (p:Prg) (b:Bud):List Pck:=if ZR p 0 b=0 then (QX p b.fuel (Yi p b)).2.1 else []
theorem xh {rd:List Pck} (h:0<rd.length) (last:Int):Uq rd last<rd.length:=by
 unfold Uq
 split<;>assumption
theorem Xb {rd:List Pck} (h:0<rd.length) (last:Int):ZN rd last∈rd:=Qj _ (xh h last)
section
variable {p:Prg} {fuel:Int}
theorem Us:∀ k:Nat,(QX p fuel k).2.1.length=k
 | 0=>rfl
 | k+1=>by simp [QX,Us k]
theorem zS (s:Stt):∀ n:Nat,(YG p s n).Pairwise (fun a b=>a.go≤b.go)∧∀ x∈YG p s n,x.go<n
 | 0=>by simp [YG]
 | n+1=>by
   obtain ⟨h1,h2⟩:=zS s n
   have e:YG p s (n+1)=YG p s n++(Qn p s (n:Int)).map (fun a=>(⟨n,a⟩:Pck)):=by
    unfold YG
    rw [List.range_succ,List.flatMap_append]
    simp
   rw [e]
   refine ⟨List.pairwise_append.2 ⟨h1,?_,fun a ha b hb=>?_⟩,fun x hx=>?_⟩
   · rw [List.pairwise_map]
     exact List.pairwise_of_forall (fun _ _=>Int.le_refl _)
   · obtain ⟨c,_,rfl⟩:=List.mem_map.1 hb
     have:=h2 a ha
     show a.go≤(n:Int)
     omega
   · rcases List.mem_append.1 hx with hx|hx
     · have:=h2 x hx;omega
     · obtain ⟨c,_,rfl⟩:=List.mem_map.1 hx
       show (n:Int)<((n+1:Nat):Int)
       omega
theorem QD9 (s:Stt):(ready p s).Pairwise (fun a b=>a.go≤b.go):=(zS s _).1
end
def yz (cur g:Int):Nat:=if cur<g then (g-cur).toNat else (g+6-cur).toNat
theorem QHa {cur g:Int} (hc:0≤cur∧cur<6) (hg:0≤g∧g<6):1≤yz cur g∧yz cur g≤6∧(cur+yz cur g) % 6=g:=by
 unfold yz
 split<;>omega
theorem QIp {rd:List Pck} (hs:rd.Pairwise (fun a b=>a.go≤b.go)) {i j:Nat} (hij:i≤j) (hj:j<rd.length):(rd.getD i default).go≤(rd.getD j default).go:=by
 by_cases h:i=j
 · subst h;exact Int.le_refl _
 · have:=List.pairwise_iff_getElem.1 hs i j (by omega) hj (by omega)
   simpa [List.getD_eq_getElem?_getD,hj,show i<rd.length by omega] using this
theorem QKc {rd:List Pck} (hs:rd.Pairwise (fun a b=>a.go≤b.go)) (h0:0<rd.length) (hg:∀ x∈rd,0≤x.go∧x.go<6) {last cur:Int} (hc:last=cur∧0≤cur∧cur<6∨last = -1∧cur=5) :
 (∀ d:Nat,1≤d→d<yz cur (ZN rd last).go→∀ x∈rd,x.go≠(cur+d) % 6)∧rd.findIdx (fun x=>decide (x.go=(ZN rd last).go))=Uq rd last:=by
 have hlt:=xh h0 last
 have hgi:=hg _ (Xb h0 last)
 have hmem:∀ x∈rd,∃ j,j<rd.length∧rd.getD j default=x:=fun x hx=>by
  obtain ⟨j,hj,rfl⟩:=List.mem_iff_getElem.1 hx
  exact ⟨j,hj,by simp [List.getD_eq_getElem?_getD,hj]⟩
 have hlow:∀ j,j<Uq rd last→(rd.getD j default).go≤last:=fun j hj=>by
  unfold Uq at hj
  split at hj
  · have:=List.not_of_lt_findIdx hj
    have hjl:j<rd.length:=by omega
    simp at this
    simpa [List.getD_eq_getElem?_getD,hjl] using this
  · omega
 have hcase:(last<(ZN rd last).go)∨(Uq rd last=0∧∀ x∈rd,x.go≤last):=by
  by_cases q:rd.findIdx (fun x=>decide (last<x.go))<rd.length
  · left
    have e:Uq rd last=rd.findIdx (fun x=>decide (last<x.go)):=if_pos q
    have:=List.findIdx_getElem (w:=q)
    unfold ZN
    rw [e]
    simpa [List.getD_eq_getElem?_getD,q] using this
  · right
    refine ⟨if_neg q,fun x hx=>?_⟩
    by_cases h:last<x.go
    · exact absurd (List.findIdx_lt_length_of_exists ⟨x,hx,decide_eq_true h⟩) q
    · omega
 refine ⟨fun d h1 h2 x hx hne=>?_,?_⟩
 · obtain ⟨j,hj,rfl⟩:=hmem x hx
   have hxg:=hg _ hx
   by_cases hjr:j<Uq rd last
   · have:=hlow j hjr
     unfold yz at h2
     rcases hcase with q|⟨q,_⟩
     · split at h2<;>rcases hc with ⟨rfl,_,_⟩|⟨rfl,rfl⟩<;>omega
     · omega
   · have hle:=QIp hs (show Uq rd last≤j by omega) hj
     have hle:(ZN rd last).go≤(rd.getD j default).go:=hle
     unfold yz at h2
     rcases hcase with q|⟨_,q⟩
     · split at h2<;>rcases hc with ⟨rfl,_,_⟩|⟨rfl,rfl⟩<;>omega
     · have hq:=q _ hx
       have hq2:=q _ (Xb h0 last)
       split at h2<;>rcases hc with ⟨rfl,_,_⟩|⟨rfl,rfl⟩<;>omega
 · rw [List.findIdx_eq hlt]
   refine ⟨by simp [ZN,List.getD_eq_getElem?_getD,hlt],fun j hj=>?_⟩
   have h1:=hlow j hj
   have hjl:j<rd.length:=by omega
   have h2:(rd.getD j default)=rd[j]:=by simp [List.getD_eq_getElem?_getD,hjl]
   rw [h2] at h1
   simp
   rcases hcase with q|⟨q,_⟩
   · omega
   · omega
def Xo (p:Prg) (fuel:Int) (k:Nat):Int:=if k=0 then 5 else (QX p fuel k).2.2
section
variable {p:Prg} {fuel:Int}
theorem Ur (hr:QN p=true) (hf:0≤fuel∧fuel≤4096):∀ {m:Nat},(∀ j,j<m→0<(ready p (QX p fuel j).1).length)→Vld p (QX p fuel m).1
 | 0,_=>zK Zd hr (Prg.ok hr) hf
 | m+1,hz=>QPN Zd hr (Prg.ok hr) (Ur hr hf fun j hj=>hz j (by omega)) (ready_mem.1 (Xb (hz m (by omega)) _)).2 hf
theorem QFE {s:Stt} (hv:Vld p s) {x:Pck} (h:x∈ready p s):0≤x.go∧x.go<6:=by
 have:=(ready_mem.1 h).1
 have:=hv.count
 omega
theorem QGa:∀ k:Nat,(QX p fuel (k+1)).2.2=(ZN (ready p (QX p fuel k).1) (QX p fuel k).2.2).go:=fun _=>rfl
theorem QIy (hr:QN p=true) (hf:0≤fuel∧fuel≤4096):∀ {m:Nat},(∀ j,j<m→0<(ready p (QX p fuel j).1).length) →
 ((QX p fuel m).2.2=Xo p fuel m∧0≤Xo p fuel m∧Xo p fuel m<6∨(QX p fuel m).2.2 = -1∧Xo p fuel m=5)
 | 0,_=>.inr ⟨rfl,rfl⟩
 | m+1,hz=>by
   have hv:=Ur hr hf (m:=m) fun j hj=>hz j (by omega)
   have:=QFE hv (Xb (hz m (by omega)) (QX p fuel m).2.2)
   left
   refine ⟨(if_neg (Nat.succ_ne_zero m)).symm,?_⟩
   unfold Xo
   rw [if_neg (Nat.succ_ne_zero m),QGa]
   exact this
end
theorem QA2 {p:Prg} {b:Bud} {k:Nat} (hk:k<b.steps.toNat) (h0:(ready p (QX p b.fuel k).1).length=0) (hz:∀ j,j<k→0<(ready p (QX p b.fuel j).1).length):Yi p b=k:=by
 unfold Yi
 rw [List.findIdx_eq (by simpa using hk)]
 refine ⟨by simp [h0],fun j hj=>?_⟩
 have:=hz j hj
 simp
 intro q
 rw [q] at this
 simp at this
theorem UC {p:Prg} {b:Bud} {k:Nat} (hk:k=b.steps.toNat) (hz:∀ j,j<k→0<(ready p (QX p b.fuel j).1).length):Yi p b=k:=by
 subst hk
 unfold Yi
 rw [List.findIdx_eq_length_of_false]
 · simp
 · intro j hj
   have:=hz j (by simpa using hj)
   simp
   intro q
   rw [q] at this
   simp at this
def QGQ (l:List Pck) (k:Nat):Int:=if 0<k∧(l.getD k default).go≠(l.getD (k-1) default).go then 1 else 0
def Qu (l:List Pck):Nat→Int
 | 0=>0
 | k+1=>Qu l k+QGQ l k
def zI (l:List Pck):Int:=Qu l l.length
theorem Vp (l:List Pck):∀ k:Nat,0≤Qu l k∧Qu l k≤k
 | 0=>by simp [Qu]
 | k+1=>by
   have:=Vp l k
   unfold Qu QGQ
   split<;>omega
theorem zH (l:List Pck):Qu l 1=0:=by simp [Qu,QGQ]
mutual
theorem E.under_kill {k i:Nat} (hk:k≤i):∀ {e:E},e.under k=true→e.kill i=e
 | .int _ _,_=>rfl
 | .bool _,_=>rfl
 | .str _,_=>rfl
 | .data _ _,_=>rfl
 | .fs _ _ _,_=>rfl
 | .sl j e lo n c,h=>by
   have hj:j<k:=by simpa [E.under] using h
   exact if_neg (by omega)
 | .nilsl,_=>rfl
 | .ptr j p t,h=>by
   have hj:j<k:=by simpa [E.under] using h
   exact if_neg (by omega)
 | .av j p t m,h=>by
   have hj:j<k:=by simpa [E.under] using h
   exact if_neg (by omega)
 | .rp j m p t,h=>by
   have hj:j<k:=by simpa [E.under] using h
   exact if_neg (by omega)
 | .fptr _ _,_=>rfl
 | .fn f caps,h=>by
   have h':E.underL k caps=true:=by simpa [E.under] using h
   simp [E.kill,E.underL_kill hk h']
 | .nilfn,_=>rfl
 | .tup m,h=>by
   have h':E.underL k m=true:=by simpa [E.under] using h
   simp [E.kill,E.underL_kill hk h']
 | .agg _ m,h=>by
   have h':E.underL k m=true:=by simpa [E.under] using h
   simp [E.kill,E.underL_kill hk h']
 | .undef,_=>rfl
theorem E.underL_kill {k i:Nat} (hk:k≤i):∀ {m:List E},E.underL k m=true→E.killL i m=m
 | [],_=>rfl
 | e::m,h=>by
   simp only [E.underL,Bool.and_eq_true] at h
   simp [E.killL,E.under_kill hk h.1,E.underL_kill hk h.2]
end
theorem Tm.under_kill {k i:Nat} (hk:k≤i):∀ {tm:Tm},Tm.under k tm=true→Tm.kill i tm=tm
 | [],_=>rfl
 | (t,g,e)::tm,h=>by
   simp only [Tm.under,Bool.and_eq_true] at h
   have:=Tm.under_kill hk h.2
   unfold Tm.kill at this ⊢
   rw [List.map_cons,this]
   simp [E.under_kill hk h.1]
theorem zW {k i:Nat} (hk:k≤i):∀ {out:List Tm},QT k out=true→out.map (Tm.kill i)=out
 | [],_=>rfl
 | tm::out,h=>by
   simp only [QT,Bool.and_eq_true] at h
   rw [List.map_cons,Tm.under_kill hk h.1,zW hk h.2]
def UD (rd:List Pck) (last:Int) (j:Nat):Pck:=if j+(rd.drop j).findIdx (fun x=>decide (last<x.go))<rd.length then rd.getD (j+(rd.drop j).findIdx (fun x=>decide (last<x.go))) default else rd.getD 0 default
theorem QD7 (rd:List Pck) (last:Int):UD rd last 0=ZN rd last:=by
 unfold UD ZN Uq
 rw [Nat.zero_add,List.drop_zero]
 split<;>rfl
theorem QE7 (rd:List Pck) (last:Int):UD rd last rd.length=rd.getD 0 default:=by
 unfold UD
 rw [if_neg (by omega)]
theorem QD8 {rd:List Pck} {j:Nat} (last:Int) (h:j<rd.length):UD rd last j=if last<(rd.getD j default).go then rd.getD j default else UD rd last (j+1):=by
 have e:rd.drop j=rd[j]::rd.drop (j+1):=List.drop_eq_getElem_cons h
 have e2:rd.getD j default=rd[j]:=by simp [List.getD_eq_getElem?_getD,h]
 unfold UD
 rw [e,List.findIdx_cons,e2]
 by_cases q:last<rd[j].go
 · simp only [decide_eq_true q,cond_true,Nat.add_zero,if_pos h,if_pos q,e2]
 · simp only [decide_eq_false q,cond_false,if_neg q]
   rw [show j+((rd.drop (j+1)).findIdx (fun x=>decide (last<x.go))+1)=j+1+(rd.drop (j+1)).findIdx (fun x=>decide (last<x.go)) by omega]
theorem QD6 {p:Prg} {fuel:Int} (k:Nat):Xo p fuel (k+1)=(ZN (ready p (QX p fuel k).1) (QX p fuel k).2.2).go:=by
 unfold Xo
 rw [if_neg (Nat.succ_ne_zero k)]
 rfl
end Go.Eng
