/- A part of the proof: walks through the program's functions, and what they compute. -/
import Derived.Test.YtmonhjagbhpbeaaGreatDoorPk7
set_option linter.unusedSimpArgs false
set_option linter.unusedVariables false
namespace Go.Eng
open Go.RowKit
variable {P:Program} {T:Tab} {w w':World} {w0:Base T} {F F':Nat→Prop} {ρ ρ':Nat→RI} {σ σ':St} {a:Act} {outs:List (Array Value)}
theorem St.le.frzVal (hS:T.Sized) (i:Nat) {t:TypeId} {e:E} {v:V} (ho:σ.ob[i]?=some (.var t e)) (hv:Yw T t e=some v):St.le T σ (σ.frz i v []):=by
 refine St.le.frz_aux hS (List.getElem?_eq_some_iff.1 ho).1 ?_
 intro w F ρ w0 tmps outs h
 have h1:=h.ob i _ ho
 cases hρ:ρ i with
 | none=>rw [hρ] at h1;exact h1.elim
 | row _ _=>rw [hρ] at h1;exact h1.elim
 | var b t' =>
   rw [hρ] at h1
   obtain ⟨⟨rfl,q2,q3⟩,q4,q5,cs,ct,x,q6,q7,q8,_⟩:=h1
   have hf:=(Yn q7 hv).1
   have hcs:x.cells=cs:=by
    have h2:=q8.2
    split at h2
    · rw [h2];rfl
    · obtain ⟨rfl,h3⟩:=h2
      cases x<;>first|rfl|(simp [Value.oneCell'] at h3)
   rw [hcs] at hf
   exact ⟨.inr rfl,cs.toList,QBc q6,hf.mono (fun _ x=>.inl x) (fun _ _=>rfl)⟩
end Go.Eng
namespace Go.Eng
open Go.RowKit
variable {H:Type} {enc:TypeId × Value→H} {P:Program} {T:Tab} {w:World} {base:Nat} {spare:Nat→Bool} {held:Bool} {F:Nat→Prop}
theorem QAD {d:Nat} {t:TypeId} (h:ZG T d t=true):T.ty t≠.other:=by
 intro h0
 cases d with
 | zero=>simp [ZG] at h
 | succ d=>simp [ZG,h0] at h
theorem QAt (hP:TabOk P T):∀ (d:Nat) {t:TypeId} {cs:List Value} {fuel:Nat} {x:DataW H × List MemPlace},ZG T d t=true→DataW.trod enc P w base spare held fuel t cs=some x→∃ v,Fits T w F t v cs:=by
 intro d
 induction d using Nat.strongRecOn with
 | _ d ih =>
   intro t cs fuel x hf h
   cases d with
   | zero=>simp [ZG] at hf
   | succ d =>
     have hno:=QAD hf
     have hc:=XF hP hno
     unfold ZG at hf
     split at hf
     · rename_i k hk
       obtain ⟨n,rfl,_,hw⟩:=DataW.trod_int (hP.int _ _ hk) h
       exact ⟨_,.int hk (by simpa [Lit.wf,IntKind.has] using hw)⟩
     · rename_i hk
       obtain ⟨b,rfl,_⟩:=DataW.trod_bool (hP.bool _ hk) h
       exact ⟨_,.bool hk⟩
     · rename_i hk
       obtain ⟨s,rfl,_⟩:=DataW.trod_string (hP.str _ hk) h
       exact ⟨_,.str hk⟩
     · rename_i ts hk
       obtain ⟨fs,f1,f2,_,f3⟩:=hP.struct _ _ hk
       obtain ⟨xs,n,rfl,_,hl,hxl,hx⟩:=DataW.trod_struct f1 h
       have hfl:fs.size=ts.length:=by rw [← f2];simp
       have hex:∀ i,i<ts.length→∃ v,∀ u,ts[i]?=some u→Fits T w F u v ((cs.drop (T.offs ts i)).take (T.sz u)):=by
        intro i hi
        obtain ⟨f,hfi⟩:∃ f,fs[i]?=some f:=⟨_,Array.getElem?_eq_getElem (by omega)⟩
        have hti:ts[i]?=some f.type:=by
         have:(fs.toList.map (·.type))[i]?=some f.type:=by simp [hfi]
         rwa [f2] at this
        obtain ⟨g1,g2,_,g4⟩:=f3 i _ hfi
        have hxi:=hx i _ hfi
        rw [List.getElem?_eq_getElem (by omega),g1,XF hP g4] at hxi
        obtain ⟨d',hd',hf'⟩:=Va hf hti
        obtain ⟨v,hv⟩:=ih d' (by omega) hf' hxi
        exact ⟨v,fun u hu=>by rw [hti] at hu;cases hu;exact hv⟩
       obtain ⟨l,hll,hl'⟩:=Wg hex
       refine ⟨.agg l,.struct hk (FitsL.ofNth hll ?_ fun k u hu=>hl' k (List.getElem?_eq_some_iff.1 hu).1 u hu)⟩
       rw [hl,hc,hP.sized.struct _ _ hk]
     · rename_i n e hk
       obtain ⟨g1,_,_,g4⟩:=hP.arr _ _ _ hk
       obtain ⟨xs,m,rfl,_,hl,hxl,hx⟩:=DataW.trod_array g1 h
       have hex:∀ i,i<n→∃ v,Fits T w F e v ((cs.drop (i*T.sz e)).take (T.sz e)):=by
        intro i hi
        have hxi:=hx i hi
        rw [List.getElem?_eq_getElem (by omega),XF hP g4] at hxi
        exact ih d (by omega) hf hxi
       obtain ⟨l,hll,hl'⟩:=Wg hex
       refine ⟨.agg l,.arr hk (FitsL.ofNth (by simp [hll]) ?_ fun k u hu=>?_)⟩
       · rw [hl,hc,hP.sized.arr _ _ _ hk]
       · rw [List.getElem?_replicate] at hu
         split at hu;rotate_left;· cases hu
         rename_i hkn
         cases hu
         rw [Qs T n k _ (by omega)]
         exact hl' k hkn
     · simp at hf
theorem QAZ (hP:TabOk P T) {t e:TypeId} {r:Reach} {b0:Nat} {v:Value} {d:DataW H} {p:List MemPlace} (ht:T.ty t=.slice e) (hf:ZG T 20 e=true) (hval:Value.okWide P w r b0 t v)
 (h:DataW.Trod enc P w 0 spare held t v d p):∃ l,Fits T w (fun b=>b<w.heap.size) t (.list l) v.cells.toList∧Qq T t v v.cells.toList∧l.length≤maxLen:=by
 obtain ⟨hu,hno⟩:=hP.slice _ _ ht
 obtain ⟨a,len,cap,rfl⟩:=Go.WideShapes.okWide_slice hu hval
 have hvo:∀ a len cap,Qq T t (.slice a len cap) (Value.slice a len cap).cells.toList:=fun a len cap=>by simp [Qq,ht,TyD.isAgg,Value.cells]
 obtain ⟨fuel,h⟩:=h
 have hse:=(hP.sized.slice _ _ ht).2
 have hc:=XF hP hno
 rcases Go.Deep.open_slice hu h with ⟨hcs,_⟩|⟨ad,l,c,m,n,D,Pl,hcs,_,hl,hm,hmm,_,hx⟩
 · simp [Value.cells] at hcs
   obtain ⟨rfl,rfl,rfl⟩:=hcs
   exact ⟨[],.nil ht,hvo _ _ _,by simp⟩
 · simp [Value.cells] at hcs
   obtain ⟨rfl,rfl,rfl⟩:=hcs
   have hok:ad.spot=none∧ad.block<w.heap.size:=by
    unfold Value.okWide at hval
    rw [hu] at hval
    simp only [Cell.okWide,hu,Cell.ok] at hval
    obtain ⟨_,_,_,h2,row,cells,h3,_⟩:=hval
    refine ⟨h2,?_⟩
    unfold World.shape? at h3
    cases hb:w.heap[ad.block]? with
    | none=>rw [hb] at h3;cases h3
    | some o=>exact (Array.getElem?_eq_some_iff.1 hb).1
   obtain ⟨b,off,sp⟩:=ad
   obtain ⟨rfl,hb⟩:=hok
   simp only at hb
   have hlm:len≤m:=by rw [hmm];split<;>omega
   have hex:∀ i,i<len→∃ c:List Value,c.length=T.sz e∧(∀ j,j<T.sz e→w.cell? ⟨b,off+(i*T.sz e+j),none⟩=c[j]?)∧∃ v,Fits T w (fun b=>b<w.heap.size) e v c:=by
    intro i hi
    obtain ⟨cs',h1,h2⟩:=hx i (by omega)
    rw [hc] at h1
    obtain ⟨_,q2,q3⟩:=World.cells?_some h1
    obtain ⟨v,hv⟩:=QAt (F:=fun b=>b<w.heap.size) hP 20 hf h2
    refine ⟨cs',q2,fun j hj=>?_,v,hv⟩
    rw [← q3 j hj,Zt,Zt,Nat.add_assoc]
   obtain ⟨cl,hcl,hcl'⟩:=Wg (α:=List Value) hex
   obtain ⟨vl,hvl,hvl'⟩:=Wg (α:=V) (p:=fun i v=>Fits T w (fun b=>b<w.heap.size) e v (cl.getD i default)) fun i hi=>(hcl' i hi).2.2
   have key:∀ (vl:List V) (cl:List (List Value)) (off:Nat),vl.length=cl.length→(∀ i,i<cl.length→(cl.getD i default).length=T.sz e∧(∀ j,j<T.sz e→w.cell? ⟨b,off+(i*T.sz e+j),none⟩=(cl.getD i default)[j]?)) →
    (∀ i,i<cl.length→Fits T w (fun b=>b<w.heap.size) e (vl.getD i default) (cl.getD i default))→Seg w b off cl.flatten∧FitsL T w (fun b=>b<w.heap.size) (List.replicate cl.length e) vl cl.flatten:=by
    intro vl cl
    induction cl generalizing vl with
    | nil =>
      intro off hl _ _
      have:vl=[]:=by simpa using hl
      subst this
      exact ⟨fun j x hj=>by simp at hj,.nil⟩
    | cons c cl ihc =>
      intro off hl h1 h2
      cases vl with
      | nil=>simp at hl
      | cons v vl =>
        have c0:=h1 0 (by simp)
        simp only [List.getD_cons_zero,Nat.zero_mul,Nat.zero_add] at c0
        have:=ihc vl (off+T.sz e) (by simpa using hl) (fun i hi=>by
         have:=h1 (i+1) (by simpa using hi)
         simp only [List.getD_cons_succ] at this
         refine ⟨this.1,fun j hj=>?_⟩
         rw [← this.2 j hj,Nat.add_mul,Nat.one_mul]
         congr 2
         omega) (fun i hi=>by
         have:=h2 (i+1) (by simpa using hi)
         simpa only [List.getD_cons_succ] using this)
        refine ⟨?_,?_⟩
        · intro j x hj
          rw [List.flatten_cons] at hj
          by_cases hjs:j<T.sz e
          · rw [List.getElem?_append_left (by omega)] at hj
            rw [c0.2 j hjs];exact hj
          · rw [List.getElem?_append_right (by omega),c0.1] at hj
            have:=this.1 _ _ hj
            rw [← this]
            congr 2
            omega
        · rw [List.length_cons,List.replicate_succ,List.flatten_cons]
          have h0:=h2 0 (by simp)
          simp only [List.getD_cons_zero] at h0
          exact .cons h0 this.2
   obtain ⟨k1,k2⟩:=key vl cl off (by omega) (fun i hi=>⟨(hcl' i (by omega)).1,(hcl' i (by omega)).2.1⟩) (fun i hi=>hvl' i (by omega))
   rw [hcl] at k2
   exact ⟨vl,.slice ht hb k1 hvl k2 hl,hvo _ _ _,by omega⟩
theorem QDJ (hP:TabOk P T) {t:TypeId} {r:Reach} {b0:Nat} {v:Value} {d:DataW H} {p:List MemPlace} (hf:ZG T 20 t=true) (hval:Value.okWide P w r b0 t v)
 (h:DataW.Trod enc P w 0 spare held t v d p):∃ x,Fits T w (fun b=>b<w.heap.size) t x v.cells.toList∧Qq T t v v.cells.toList:=by
 obtain ⟨fuel,h⟩:=h
 obtain ⟨x,hx⟩:=QAt (F:=fun b=>b<w.heap.size) hP 20 hf h
 refine ⟨x,hx,?_⟩
 unfold Qq
 have hf':=hf
 unfold ZG at hf'
 unfold Value.okWide at hval
 split at hf'
 · rename_i k hk
   rw [hP.int _ _ hk] at hval
   obtain ⟨n,hv,_,_⟩:=DataW.trod_int (hP.int _ _ hk) h
   simp only [Cell.okWide,hP.int _ _ hk] at hval
   cases v<;>simp_all [Cell.ok,Value.cells,TyD.isAgg]
 · rename_i hk
   simp only [Cell.okWide,hP.bool _ hk] at hval
   cases v<;>simp_all [Cell.ok,hP.bool _ hk,Value.cells,TyD.isAgg]
 · rename_i hk
   simp only [Cell.okWide,hP.str _ hk] at hval
   cases v<;>simp_all [Cell.ok,hP.str _ hk,Value.cells,TyD.isAgg]
 · rename_i ts hk
   obtain ⟨fs,f1,_⟩:=hP.struct _ _ hk
   rw [f1] at hval
   obtain ⟨cs,rfl,_⟩:=hval
   simp [hk,TyD.isAgg,Value.cells]
 · rename_i n e hk
   obtain ⟨f1,_⟩:=hP.arr _ _ _ hk
   rw [f1] at hval
   obtain ⟨cs,rfl,_⟩:=hval
   simp [hk,TyD.isAgg,Value.cells]
 · simp at hf'
end Go.Eng
namespace Go.Eng
section
variable (apply:Int→Int→Int→Int × Int)
theorem vw (p:Prg) (fuel:Int) (s:Stt) (l:List Pck):ZP apply p fuel s l 0=[s]:=by simp [ZP,Wx]
theorem vz (p:Prg) (fuel:Int) (s:Stt) (l:List Pck) (i:Nat):ZP apply p fuel s l (i+1)=ZP apply p fuel s l i++[QG apply p fuel s l (i+1)]:=by
 unfold ZP;rw [List.range_succ,List.map_append];simp
theorem UE (p:Prg) (fuel:Int) (s:Stt) (l:List Pck) (i:Nat):(ZP apply p fuel s l i).length=i+1:=by simp [ZP]
end
end Go.Eng
namespace Go.Eng
def yG (c:Int) (n:Nat):Int:=if c.tmod n<0 then c.tmod n+n else c.tmod n
theorem QDF {c:Int} {n:Nat} (h:0<n):0≤yG c n∧yG c n<n:=by
 have h1:=Int.tmod_lt_of_pos c (b:=(n:Int)) (by omega)
 have h2:=Int.lt_tmod_of_pos c (b:=(n:Int)) (by omega)
 unfold yG
 split<;>omega
def Vg (p:Prg) (s:Stt) (c:Int):Pck:=(ready p s).getD (yG c (ready p s).length).toNat default
theorem QEC {p:Prg} {s:Stt} {c:Int} (h:0<(ready p s).length):Vg p s c∈ready p s:=by
 have:=QDF (c:=c) h
 unfold Vg
 exact Q8 _ (by omega)
def Zg (p:Prg) (fuel:Int) (l:List Int):Nat→Stt × List Pck
 | 0=>((start QA p fuel).1,[])
 | k+1=>((XV QA p (Zg p fuel l k).1 (Vg p (Zg p fuel l k).1 (l.getD k 0)) fuel).1,(Zg p fuel l k).2++[Vg p (Zg p fuel l k).1 (l.getD k 0)])
def XE (l:List Int) (b:Bud):Nat:=min l.length b.steps.toNat
def Yj (p:Prg) (l:List Int) (b:Bud):Nat:=(List.range (XE l b)).findIdx fun k=>decide ((ready p (Zg p b.fuel l k).1).length=0)
def QD (p:Prg) (l:List Int) (b:Bud):List Pck:=if Zf p l.length b=0 then (Zg p b.fuel l (Yj p l b)).2 else []
section
variable {p:Prg} {fuel:Int} {l:List Int}
theorem WD:∀ k:Nat,(Zg p fuel l k).2.length=k
 | 0=>rfl
 | k+1=>by simp [Zg,WD k]
theorem y7:∀ {m k:Nat},k≤m→(Zg p fuel l m).2.take k=(Zg p fuel l k).2
 | 0,k,h=>by
   obtain rfl:k=0:=by omega
   rfl
 | m+1,k,h=>by
   by_cases hk:k=m+1
   · subst hk
     exact List.take_of_length_le (by rw [WD];exact Nat.le_refl _)
   · show ((Zg p fuel l m).2++_).take k=_
     rw [List.take_append_of_le_length (by rw [WD];omega)]
     exact y7 (by omega)
theorem vK:∀ k:Nat,(Zg p fuel l k).1=wX QA p fuel (start QA p fuel).1 (Zg p fuel l k).2
 | 0=>rfl
 | k+1=>by
   show (XV QA p (Zg p fuel l k).1 _ fuel).1=wX QA p fuel _ ((Zg p fuel l k).2++[_])
   unfold wX
   rw [List.foldl_append]
   show _=(XV QA p (wX QA p fuel _ (Zg p fuel l k).2) _ fuel).1
   rw [← vK k]
theorem zd {m k:Nat} (h:k≤m):QG QA p fuel (start QA p fuel).1 (Zg p fuel l m).2 k=(Zg p fuel l k).1:=by
 unfold QG
 rw [y7 h,← vK]
theorem QGq {m k:Nat} (h:k<m):(Zg p fuel l m).2.getD k default=Vg p (Zg p fuel l k).1 (l.getD k 0):=by
 have e:(Zg p fuel l m).2.take (k+1)=(Zg p fuel l (k+1)).2:=y7 h
 have e2:((Zg p fuel l m).2.take (k+1)).getD k default=(Zg p fuel l m).2.getD k default:=by
  simp [List.getD_eq_getElem?_getD,List.getElem?_take]
 rw [← e2,e]
 show ((Zg p fuel l k).2++[_]).getD k default=_
 rw [List.getD_eq_getElem?_getD,List.getElem?_append_right (by rw [WD];exact Nat.le_refl _),WD,Nat.sub_self]
 rfl
theorem QA8 {m:Nat} (hz:∀ j,j<m→0<(ready p (Zg p fuel l j).1).length) {k:Nat} (h:k<m):Zy QA p fuel (start QA p fuel).1 (Zg p fuel l m).2 k=true:=by
 rw [okAtR_iff,zd (by omega),QGq h]
 exact (ready_mem.1 (QEC (hz k h))).2
theorem QI7 (hr:QT p=true) (hf:0≤fuel∧fuel≤4096) {m:Nat} (hz:∀ j,j<m→0<(ready p (Zg p fuel l j).1).length):Vld p (Zg p fuel l m).1:=by
 have:=Y5 ZO hr (Prg.ok hr) hf (Ut ZO hr (Prg.ok hr) hf) (l:=(Zg p fuel l m).2) (n:=m) (by rw [WD];exact Nat.le_refl _) (fun j hj=>QA8 hz hj)
 rwa [zd (Nat.le_refl _)] at this
end
theorem QGp {p:Prg} {l:List Int} {b:Bud} {k:Nat} (hk:k<XE l b) (h0:(ready p (Zg p b.fuel l k).1).length=0) (hz:∀ j,j<k→0<(ready p (Zg p b.fuel l j).1).length):Yj p l b=k:=by
 unfold Yj
 rw [List.findIdx_eq (by simpa using hk)]
 refine ⟨by simp [h0],fun j hj=>?_⟩
 have:=hz j hj
 simp
 intro q
 rw [q] at this
 simp at this
theorem UW {p:Prg} {l:List Int} {b:Bud} {k:Nat} (hk:k=XE l b) (hz:∀ j,j<k→0<(ready p (Zg p b.fuel l j).1).length):Yj p l b=k:=by
 subst hk
 unfold Yj
 rw [List.findIdx_eq_length_of_false]
 · simp
 · intro j hj
   have:=hz j (by simpa using hj)
   simp
   intro q
   rw [q] at this
   simp at this
theorem QA7 (p:Prg) (l:List Int) (b:Bud):Yj p l b≤XE l b:=by
 unfold Yj
 have:=List.findIdx_le_length (xs:=List.range (XE l b)) (p:=fun k=>decide ((ready p (Zg p b.fuel l k).1).length=0))
 simpa using this
theorem QDd {p:Prg} {l:List Int} {b:Bud} {j:Nat} (h:j<Yj p l b):0<(ready p (Zg p b.fuel l j).1).length:=by
 have hle:=QA7 p l b
 have:=List.not_of_lt_findIdx (xs:=List.range (XE l b)) (p:=fun k=>decide ((ready p (Zg p b.fuel l k).1).length=0)) (i:=j) h
 simp at this
 exact List.length_pos_iff.2 this
theorem vD {p:Prg} {l:List Int} {b:Bud} (h:Zf p l.length b=0):(QD p l b).length=Yj p l b∧Yj p l b≤XE l b∧Y1 p (QD p l b) b=((QD p l b).length,(Zg p b.fuel l (Yj p l b)).1,0,0):=by
 have hz:=Ua h
 have hle:=QA7 p l b
 have hm:(XE l b:Int)≤b.steps:=by unfold XE;omega
 have e:QD p l b=(Zg p b.fuel l (Yj p l b)).2:=if_pos h
 have hlen:(QD p l b).length=Yj p l b:=by rw [e,WD]
 refine ⟨hlen,hle,?_⟩
 have ha:Zf p (QD p l b).length b=0:=by
  unfold Zf
  rw [if_neg (by rw [hz.1];simp),if_neg (by omega),if_neg (by rw [hz.2.2.1];simp)]
 have hst:Zu QA p b.fuel (start QA p b.fuel).1 (QD p l b)=(QD p l b).length:=zK QA (fun k hk=>by
  rw [e] at hk ⊢
  rw [WD] at hk
  exact QA8 (fun j hj=>QDd hj) hk)
 unfold Y1
 simp only
 rw [if_neg (fun q=>q ha),if_neg (by omega),hst,if_neg (Nat.lt_irrefl _),hlen]
 refine congrArg (fun x=>(Yj p l b,x,(0:Int),(0:Int))) ?_
 rw [e]
 exact zd (Nat.le_refl _)
end Go.Eng
namespace Go.Eng
theorem qt {p:Prg} {fuel:Int} {s:Stt} {l:List Pck} {i n:Nat} (h:i≤n):(ZP QA p fuel s l n).getD i default=QG QA p fuel s l i:=by
 have h2:i<n+1:=by omega
 unfold ZP
 simp [List.getD_eq_getElem?_getD,h2]
theorem y6 {p:Prg} {l:List Int} {b:Bud} (h:Zf p l.length b=0):(Y1 p (QD p l b) b).2.2.1=0:=by
 rw [(vD h).2.2]
theorem vE (p:Prg) (l:List Int) (b:Bud):(QD p l b).length≤256:=by
 by_cases h:Zf p l.length b=0
 · have hz:=Ua h
   have:=vD h
   have hm:XE l b=min l.length b.steps.toNat:=rfl
   omega
 · unfold QD
   rw [if_neg h]
   decide
end Go.Eng
