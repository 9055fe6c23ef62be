/- A part of the proof: walks through the program's functions, and what they compute. -/
import Derived.Test.YtmonhjagbhpbeaaGreatDoorPk21
set_option linter.unusedSimpArgs false
set_option linter.unusedVariables false
namespace Go.Eng
open Go.RowKit
variable {H:Type} {enc:TypeId × Value→H} {P:Program} {T:Tab} {w:World} {base:Nat} {spare:Nat→Bool} {held:Bool} {F:Nat→Prop}
theorem QCG {d:Nat} {t:TypeId} (h:ZM T d t=true):T.ty t≠.other:=by
 intro h0
 cases d with
 | zero=>simp [ZM] at h
 | succ d=>simp [ZM,h0] at h
theorem QC7 (hP:TabOk P T):∀ (d:Nat) {t:TypeId} {cs:List Value} {fuel:Nat} {x:DataW H × List MemPlace},ZM T d t=true→DataW.trod enc P w base spare held fuel t cs=some x→∃ v,Fits T w F t v cs:=by
 intro d
 induction d using Nat.strongRecOn with
 | _ d ih =>
   intro t cs fuel x hf h
   cases d with
   | zero=>simp [ZM] at hf
   | succ d =>
     have hno:=QCG hf
     have hc:=YY hP hno
     unfold ZM at hf
     split at hf
     · rename_i k hk
       obtain ⟨n,rfl,_,hw⟩:=DataW.trod_int (hP.int _ _ hk) h
       exact ⟨_,.int hk (by simpa [Lit.wf,IntKind.has] using hw)⟩
     · rename_i hk
       obtain ⟨b,rfl,_⟩:=DataW.trod_bool (hP.bool _ hk) h
       exact ⟨_,.bool hk⟩
     · rename_i hk
       obtain ⟨s,rfl,_⟩:=DataW.trod_string (hP.str _ hk) h
       exact ⟨_,.str hk⟩
     · rename_i ts hk
       obtain ⟨fs,f1,f2,_,f3⟩:=hP.struct _ _ hk
       obtain ⟨xs,n,rfl,_,hl,hxl,hx⟩:=DataW.trod_struct f1 h
       have hfl:fs.size=ts.length:=by rw [← f2];simp
       have hex:∀ i,i<ts.length→∃ v,∀ u,ts[i]?=some u→Fits T w F u v ((cs.drop (T.offs ts i)).take (T.sz u)):=by
        intro i hi
        obtain ⟨f,hfi⟩:∃ f,fs[i]?=some f:=⟨_,Array.getElem?_eq_getElem (by omega)⟩
        have hti:ts[i]?=some f.type:=by
         have:(fs.toList.map (·.type))[i]?=some f.type:=by simp [hfi]
         rwa [f2] at this
        obtain ⟨g1,g2,_,g4⟩:=f3 i _ hfi
        have hxi:=hx i _ hfi
        rw [List.getElem?_eq_getElem (by omega),g1,YY hP g4] at hxi
        obtain ⟨d',hd',hf'⟩:=UN hf hti
        obtain ⟨v,hv⟩:=ih d' (by omega) hf' hxi
        exact ⟨v,fun u hu=>by rw [hti] at hu;cases hu;exact hv⟩
       obtain ⟨l,hll,hl'⟩:=VB hex
       refine ⟨.agg l,.struct hk (FitsL.ofNth hll ?_ fun k u hu=>hl' k (List.getElem?_eq_some_iff.1 hu).1 u hu)⟩
       rw [hl,hc,hP.sized.struct _ _ hk]
     · rename_i n e hk
       obtain ⟨g1,_,_,g4⟩:=hP.arr _ _ _ hk
       obtain ⟨xs,m,rfl,_,hl,hxl,hx⟩:=DataW.trod_array g1 h
       have hex:∀ i,i<n→∃ v,Fits T w F e v ((cs.drop (i*T.sz e)).take (T.sz e)):=by
        intro i hi
        have hxi:=hx i hi
        rw [List.getElem?_eq_getElem (by omega),YY hP g4] at hxi
        exact ih d (by omega) hf hxi
       obtain ⟨l,hll,hl'⟩:=VB hex
       refine ⟨.agg l,.arr hk (FitsL.ofNth (by simp [hll]) ?_ fun k u hu=>?_)⟩
       · rw [hl,hc,hP.sized.arr _ _ _ hk]
       · rw [List.getElem?_replicate] at hu
         split at hu;rotate_left;· cases hu
         rename_i hkn
         cases hu
         rw [Qv T n k _ (by omega)]
         exact hl' k hkn
     · simp at hf
theorem QCh (hP:TabOk P T) {t e:TypeId} {r:Reach} {b0:Nat} {v:Value} {d:DataW H} {p:List MemPlace} (ht:T.ty t=.slice e) (hf:ZM T 20 e=true) (hval:Value.okWide P w r b0 t v)
 (h:DataW.Trod enc P w 0 spare held t v d p):∃ l,Fits T w (fun b=>b<w.heap.size) t (.list l) v.cells.toList∧Qz T t v v.cells.toList∧l.length≤maxLen:=by
 obtain ⟨hu,hno⟩:=hP.slice _ _ ht
 obtain ⟨a,len,cap,rfl⟩:=Go.WideShapes.okWide_slice hu hval
 have hvo:∀ a len cap,Qz T t (.slice a len cap) (Value.slice a len cap).cells.toList:=fun a len cap=>by simp [Qz,ht,TyD.isAgg,Value.cells]
 obtain ⟨fuel,h⟩:=h
 have hse:=(hP.sized.slice _ _ ht).2
 have hc:=YY hP hno
 rcases Go.Deep.open_slice hu h with ⟨hcs,_⟩|⟨ad,l,c,m,n,D,Pl,hcs,_,hl,hm,hmm,_,hx⟩
 · simp [Value.cells] at hcs
   obtain ⟨rfl,rfl,rfl⟩:=hcs
   exact ⟨[],.nil ht,hvo _ _ _,by simp⟩
 · simp [Value.cells] at hcs
   obtain ⟨rfl,rfl,rfl⟩:=hcs
   have hok:ad.spot=none∧ad.block<w.heap.size:=by
    unfold Value.okWide at hval
    rw [hu] at hval
    simp only [Cell.okWide,hu,Cell.ok] at hval
    obtain ⟨_,_,_,h2,row,cells,h3,_⟩:=hval
    refine ⟨h2,?_⟩
    unfold World.shape? at h3
    cases hb:w.heap[ad.block]? with
    | none=>rw [hb] at h3;cases h3
    | some o=>exact (Array.getElem?_eq_some_iff.1 hb).1
   obtain ⟨b,off,sp⟩:=ad
   obtain ⟨rfl,hb⟩:=hok
   simp only at hb
   have hlm:len≤m:=by rw [hmm];split<;>omega
   have hex:∀ i,i<len→∃ c:List Value,c.length=T.sz e∧(∀ j,j<T.sz e→w.cell? ⟨b,off+(i*T.sz e+j),none⟩=c[j]?)∧∃ v,Fits T w (fun b=>b<w.heap.size) e v c:=by
    intro i hi
    obtain ⟨cs',h1,h2⟩:=hx i (by omega)
    rw [hc] at h1
    obtain ⟨_,q2,q3⟩:=World.cells?_some h1
    obtain ⟨v,hv⟩:=QC7 (F:=fun b=>b<w.heap.size) hP 20 hf h2
    refine ⟨cs',q2,fun j hj=>?_,v,hv⟩
    rw [← q3 j hj,Zn,Zn,Nat.add_assoc]
   obtain ⟨cl,hcl,hcl'⟩:=VB (α:=List Value) hex
   obtain ⟨vl,hvl,hvl'⟩:=VB (α:=V) (p:=fun i v=>Fits T w (fun b=>b<w.heap.size) e v (cl.getD i default)) fun i hi=>(hcl' i hi).2.2
   have key:∀ (vl:List V) (cl:List (List Value)) (off:Nat),vl.length=cl.length→(∀ i,i<cl.length→(cl.getD i default).length=T.sz e∧(∀ j,j<T.sz e→w.cell? ⟨b,off+(i*T.sz e+j),none⟩=(cl.getD i default)[j]?)) →
    (∀ i,i<cl.length→Fits T w (fun b=>b<w.heap.size) e (vl.getD i default) (cl.getD i default))→Seg w b off cl.flatten∧FitsL T w (fun b=>b<w.heap.size) (List.replicate cl.length e) vl cl.flatten:=by
    intro vl cl
    induction cl generalizing vl with
    | nil =>
      intro off hl _ _
      have:vl=[]:=by simpa using hl
      subst this
      exact ⟨fun j x hj=>by simp at hj,.nil⟩
    | cons c cl ihc =>
      intro off hl h1 h2
      cases vl with
      | nil=>simp at hl
      | cons v vl =>
        have c0:=h1 0 (by simp)
        simp only [List.getD_cons_zero,Nat.zero_mul,Nat.zero_add] at c0
        have:=ihc vl (off+T.sz e) (by simpa using hl) (fun i hi=>by
         have:=h1 (i+1) (by simpa using hi)
         simp only [List.getD_cons_succ] at this
         refine ⟨this.1,fun j hj=>?_⟩
         rw [← this.2 j hj,Nat.add_mul,Nat.one_mul]
         congr 2
         omega) (fun i hi=>by
         have:=h2 (i+1) (by simpa using hi)
         simpa only [List.getD_cons_succ] using this)
        refine ⟨?_,?_⟩
        · intro j x hj
          rw [List.flatten_cons] at hj
          by_cases hjs:j<T.sz e
          · rw [List.getElem?_append_left (by omega)] at hj
            rw [c0.2 j hjs];exact hj
          · rw [List.getElem?_append_right (by omega),c0.1] at hj
            have:=this.1 _ _ hj
            rw [← this]
            congr 2
            omega
        · rw [List.length_cons,List.replicate_succ,List.flatten_cons]
          have h0:=h2 0 (by simp)
          simp only [List.getD_cons_zero] at h0
          exact .cons h0 this.2
   obtain ⟨k1,k2⟩:=key vl cl off (by omega) (fun i hi=>⟨(hcl' i (by omega)).1,(hcl' i (by omega)).2.1⟩) (fun i hi=>hvl' i (by omega))
   rw [hcl] at k2
   exact ⟨vl,.slice ht hb k1 hvl k2 hl,hvo _ _ _,by omega⟩
theorem QFi (hP:TabOk P T) {t:TypeId} {r:Reach} {b0:Nat} {v:Value} {d:DataW H} {p:List MemPlace} (hf:ZM T 20 t=true) (hval:Value.okWide P w r b0 t v)
 (h:DataW.Trod enc P w 0 spare held t v d p):∃ x,Fits T w (fun b=>b<w.heap.size) t x v.cells.toList∧Qz T t v v.cells.toList:=by
 obtain ⟨fuel,h⟩:=h
 obtain ⟨x,hx⟩:=QC7 (F:=fun b=>b<w.heap.size) hP 20 hf h
 refine ⟨x,hx,?_⟩
 unfold Qz
 have hf':=hf
 unfold ZM at hf'
 unfold Value.okWide at hval
 split at hf'
 · rename_i k hk
   rw [hP.int _ _ hk] at hval
   obtain ⟨n,hv,_,_⟩:=DataW.trod_int (hP.int _ _ hk) h
   simp only [Cell.okWide,hP.int _ _ hk] at hval
   cases v<;>simp_all [Cell.ok,Value.cells,TyD.isAgg]
 · rename_i hk
   simp only [Cell.okWide,hP.bool _ hk] at hval
   cases v<;>simp_all [Cell.ok,hP.bool _ hk,Value.cells,TyD.isAgg]
 · rename_i hk
   simp only [Cell.okWide,hP.str _ hk] at hval
   cases v<;>simp_all [Cell.ok,hP.str _ hk,Value.cells,TyD.isAgg]
 · rename_i ts hk
   obtain ⟨fs,f1,_⟩:=hP.struct _ _ hk
   rw [f1] at hval
   obtain ⟨cs,rfl,_⟩:=hval
   simp [hk,TyD.isAgg,Value.cells]
 · rename_i n e hk
   obtain ⟨f1,_⟩:=hP.arr _ _ _ hk
   rw [f1] at hval
   obtain ⟨cs,rfl,_⟩:=hval
   simp [hk,TyD.isAgg,Value.cells]
 · simp at hf'
end Go.Eng
namespace Go.Eng.Tryz
open Go.RowKit Go.Eng
set_option maxHeartbeats 0
set_option maxRecDepth 20000
theorem QKk:p0.Fit:=⟨by decide,by decide,by decide,by
 intro f hf
 simp [p0] at hf
 subst hf
 exact ⟨by decide,by decide,by intro s hs;simp at hs⟩⟩
theorem QMl:Wa p0 [⟨0,0⟩] ⟨2,2,0⟩=(t0,0,0):=by
 have h:XX p0 [⟨0,0⟩] ⟨2,2,0⟩=(1,s1,0,0):=by decide +kernel
 obtain ⟨_,hS,hO⟩:=YZ (p:=p0) (l:=[⟨0,0⟩]) (b:=⟨2,2,0⟩) (by rw [h])
 rw [hO]
 have e:Qh p0 [⟨0,0⟩] ⟨2,2,0⟩=[e1]:=by decide +kernel
 rw [h] at hS
 have e2:Qs p0 [⟨0,0⟩] ⟨2,2,0⟩=s1:=(congrArg (fun x=>x.2.1) hS).symm
 rw [e,e2]
 rfl
theorem QMk:Wa p0 [⟨1,0⟩] ⟨2,2,0⟩=(⟨[],zeroStt,false⟩,5,0):=by
 have h:XX p0 [⟨1,0⟩] ⟨2,2,0⟩=(0,zeroStt,5,0):=by decide +kernel
 rw [QA0 (by rw [h];decide),h]
theorem QMn:CtrZ Go.Proofs.Tryz.prog tab 16 [26,29,28] [49,30,3] [p0.v,.list [Pck.v ⟨0,0⟩],Bud.v ⟨2,2,0⟩] [t0.v,.int 0,.int 0]:=by
 have h:=YP p0 [⟨0,0⟩] ⟨2,2,0⟩ QKk (by decide)
 rw [QMl] at h
 exact h
theorem QMm:CtrZ Go.Proofs.Tryz.prog tab 16 [26,29,28] [49,30,3] [p0.v,.list [Pck.v ⟨1,0⟩],Bud.v ⟨2,2,0⟩] [Trc.v ⟨[],zeroStt,false⟩,.int 5,.int 0]:=by
 have h:=YP p0 [⟨1,0⟩] ⟨2,2,0⟩ QKk (by decide)
 rw [QMk] at h
 exact h
def QLN:List (List Nat):=[[],[1],[1,2,3,4],[2,3,4,6,7],[0]]
theorem yA:Ctr Go.Proofs.Tryz.prog tab 15 [] [4] [] [.bool true]:=by
 have hcode:True→True:=id
 have hsl:True→True:=id
 have hmx:256≤maxLen:=by decide
 refine Ctr.body ok Go.Proofs.Tryz.func15 rfl rfl 65 rfl [.tmp 0] rfl (by simp [QF]) ?_
 simp only [go_sem,Nat.reduceAdd]
 repeat' first
  | ((with_reducible refine SARW.told 1 3 ?_)
     refine J48 (J49 ok.sized 0 rfl) ?_
     simp only [St.frz,Tm.frz,E.frz,E.frzL,Obj.frz,List.map_cons,List.map_nil,List.set_cons_zero,List.set_cons_succ,Nat.reduceBEq,Nat.beq_refl,if_true,if_false,Nat.beq_eq_true_eq,reduceCtorEq,Bool.false_eq_true,V.get,Nat.reduceEqDiff])
  | ((with_reducible refine SARW.told 1 5 ?_)
     refine J48 (J49 ok.sized 1 rfl) ?_
     simp only [St.frz,Tm.frz,E.frz,E.frzL,Obj.frz,List.map_cons,List.map_nil,List.set_cons_zero,List.set_cons_succ,Nat.reduceBEq,Nat.beq_refl,if_true,if_false,Nat.beq_eq_true_eq,reduceCtorEq,Bool.false_eq_true,V.get,Nat.reduceEqDiff])
  | ((with_reducible refine SARW.told 2 3 ?_)
     refine J48 (J49 ok.sized 3 rfl) ?_
     simp only [St.frz,Tm.frz,E.frz,E.frzL,Obj.frz,List.map_cons,List.map_nil,List.set_cons_zero,List.set_cons_succ,Nat.reduceBEq,Nat.beq_refl,if_true,if_false,Nat.beq_eq_true_eq,reduceCtorEq,Bool.false_eq_true,V.get,Nat.reduceEqDiff])
  | ((with_reducible refine SARW.told 3 3 ?_)
     refine J48 (J49 ok.sized 5 rfl) ?_
     simp only [St.frz,Tm.frz,E.frz,E.frzL,Obj.frz,List.map_cons,List.map_nil,List.set_cons_zero,List.set_cons_succ,Nat.reduceBEq,Nat.beq_refl,if_true,if_false,Nat.beq_eq_true_eq,reduceCtorEq,Bool.false_eq_true,V.get,Nat.reduceEqDiff])
  | ((with_reducible first|refine Q5 fun R1 hR1=>?_|refine SARW.do fun R1 hR1=>?_);(simp only [go_sem,seval,-List.reduceReplicate,Bool.cond_false_right,Bool.cond_true_left,decide_true,Bool.not_true,Bool.not_false,Stt.beq]);(repeat' with_reducible refine And.intro ?_ ?_);all_goals first|(refine hR1 _ ?_;clear hR1 R1)|(intro hgf;simp only [hgf];refine hR1 _ ?_;clear hR1 R1)|((first|refine ⟨_,_,rfl,.inr (CallE.ctrZ (QMn) (by first|rfl|(simp [go_sem,List.take_of_length_le,List.length_map];done)|fail) ?_)⟩|refine ⟨_,_,rfl,.inr (CallE.ctrZ (QMm) (by first|rfl|(simp [go_sem,List.take_of_length_le,List.length_map];done)|fail) ?_)⟩);all_goals ((try simp only [go_sem,seval,-List.reduceReplicate,Bool.cond_false_right,Bool.cond_true_left,decide_true,Bool.not_true,Bool.not_false,Stt.beq]);(repeat' with_reducible refine And.intro ?_ ?_);all_goals first|(refine hR1 _ ?_;clear hR1 R1)|(intro hgf;simp only [hgf];refine hR1 _ ?_;clear hR1 R1)|exact VL))|exact VL)
  | ((with_reducible first|refine Q4 ?_|refine SARW.nil ?_);refine hR _ ?_;clear hR R;try simp only [go_sem,QLN,Nat.reduceBEq])
  | (with_reducible first|refine J1 ?_|refine J2 ?_|refine Q2 ?_|refine Q1 ?_)
  | ((with_reducible refine Qe 2 ?_)
     refine Zv (Qo (show _=({ tm:=[(1,true,.ptr 2 [] 26)],ob:=[.dead,.dead,.var 26 (.data 26 p0.v)],out:=[],nt:=65 }:St) from rfl)) ?_
     (with_reducible refine SA.regionWN ok (by kernel_rfl) QLN ?_);intro R hR;simp only [go_sem,QC])
  | ((with_reducible refine Qe 1 ?_)
     skip
     (with_reducible refine SA.regionWN ok (by kernel_rfl) QLN ?_);intro R hR;simp only [go_sem,QC])
  | ((with_reducible refine Qe 3 ?_)
     skip
     (with_reducible refine SA.regionWN ok (by kernel_rfl) QLN ?_);intro R hR;simp only [go_sem,QC])
  | ((with_reducible refine rg QLN fun R hR=>?_);simp only [go_sem,QC])
  | ((with_reducible first|refine ZQ ?_|refine ZP ?_)
     simp only [go_sem,QL,QM,QH,seval]
     first
      | (exact ⟨rfl,rfl⟩)
      | (rfl))
theorem yO {p:Prg} {n:Int} {b:Bud} (h:ZR p n b=0):(0≤b.steps∧b.steps≤256)∧(0≤b.fuel∧b.fuel≤4096)∧QN p=true∧n≤256:=by
 have:=qg h
 exact ⟨this.2.2.2.2,this.2.2.2.1,this.1,this.2.1⟩
theorem QLu {p:Prg} (hr:QN p=true) {s:Stt} (hv:Vld p s) {x:Pck} {fuel:Int}:doV p s x fuel=YO QB p s x fuel:=by
 unfold doV
 rw [yZ hr hv,if_neg (by decide)]
end Go.Eng.Tryz
