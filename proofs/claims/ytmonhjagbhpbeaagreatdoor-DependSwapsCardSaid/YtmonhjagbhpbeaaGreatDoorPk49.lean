/- A part of the proof: walks through the program's functions, and what they compute. -/
import Derived.Test.YtmonhjagbhpbeaaGreatDoorPk24
set_option linter.unusedSimpArgs false
set_option linter.unusedVariables false
namespace Go.Eng
theorem f8 (x:Nat):(x:Int).fdiv 256=((x / 256:Nat):Int):=QDx x 8
open Go.RowKit
variable {H:Type} {enc:TypeId × Value→H} {P:Program} {T:Tab} {w:World} {base:Nat} {spare:Nat→Bool} {held:Bool}
inductive VSz (T:Tab):TypeId→V→Prop
 | leaf {t v}:(∀ ts,T.ty t≠.struct ts)→(∀ n e,T.ty t≠.arr n e)→(∀ e,T.ty t≠.slice e)→VSz T t v
 | struct {t ts l}:T.ty t=.struct ts→(∀ k u,ts[k]?=some u→VSz T u (l.getD k default))→VSz T t (.agg l)
 | arr {t n e l}:T.ty t=.arr n e→(∀ i,i<l.length→VSz T e (l.getD i default))→VSz T t (.agg l)
 | slice {t e l}:T.ty t=.slice e→l.length*T.by_ e≤140737488355328→(∀ i,i<l.length→VSz T e (l.getD i default))→VSz T t (.list l)
theorem VSz.of_struct {t:TypeId} {ts:List TypeId} {l:List V} (h:VSz T t (.agg l)) (ht:T.ty t=.struct ts) {k:Nat} {u:TypeId} (hk:ts[k]?=some u):VSz T u (l.getD k default):=by
 cases h with
 | leaf h _ _=>exact absurd ht (h _)
 | struct h1 h2=>rw [ht] at h1;cases h1;exact h2 k u hk
 | arr h1 h2=>rw [ht] at h1;cases h1
theorem VSz.of_slice {t e:TypeId} {l:List V} (h:VSz T t (.list l)) (ht:T.ty t=.slice e):l.length*T.by_ e≤140737488355328∧∀ i,i<l.length→VSz T e (l.getD i default):=by
 cases h with
 | leaf _ _ h=>exact absurd ht (h _)
 | slice h1 h2 h3=>rw [ht] at h1;cases h1;exact ⟨h2,h3⟩
theorem zB {e:TypeId} {n:Nat}:∀ {ds:List (DataW H)} {d:DataW H},d∈ds→n∈d.weights P e→n∈DataW.weightsAll P e ds
 | [],_,h,_=>by simp at h
 | d0::ds,d,h,hn=>by
   simp only [DataW.weightsAll,List.mem_append]
   rcases List.mem_cons.1 h with rfl|h
   · exact .inl hn
   · exact .inr (zB h hn)
theorem QGT (hP:TabOk P T):∀ (d:Nat) {t:TypeId} {cs:List Value} {fuel:Nat} {x:DataW H × List MemPlace} {v:V} {F:Nat→Prop},Xx T d t=true→DataW.trod enc P w base spare held fuel t cs=some x →
 (∀ n∈x.1.weights P t,n≤reachBytes)→Fits T w F t v cs→VSz T t v:=by
 intro d
 induction d using Nat.strongRecOn with
 | _ d ih =>
   intro t cs fuel x v F hf h hz hv
   cases d with
   | zero=>simp [Xx] at hf
   | succ d =>
     have hno:=yl hf
     unfold Xx at hf
     split at hf
     · rename_i k hk
       exact .leaf (by rw [hk];simp) (by rw [hk];simp) (by rw [hk];simp)
     · rename_i hk
       exact .leaf (by rw [hk];simp) (by rw [hk];simp) (by rw [hk];simp)
     · rename_i hk
       exact .leaf (by rw [hk];simp) (by rw [hk];simp) (by rw [hk];simp)
     · rename_i ts hk
       obtain ⟨fs,f1,f2,_,f3⟩:=hP.struct _ _ hk
       obtain ⟨l,rfl,hl⟩:=hv.inv' hk
       obtain ⟨xs,n,rfl,rfl,hlc,hxl,hx⟩:=DataW.trod_struct f1 h
       have hfl:fs.size=ts.length:=by rw [← f2];simp
       refine .struct hk fun k u hu=>?_
       have hkl:k<ts.length:=(List.getElem?_eq_some_iff.1 hu).1
       obtain ⟨f,hfi⟩:∃ f,fs[k]?=some f:=⟨_,Array.getElem?_eq_getElem (by omega)⟩
       have hti:ts[k]?=some f.type:=by
        have:(fs.toList.map (·.type))[k]?=some f.type:=by simp [hfi]
        rwa [f2] at this
       rw [hti] at hu
       cases hu
       obtain ⟨g1,g2,_,g4⟩:=f3 k _ hfi
       have hxi:=hx k _ hfi
       rw [List.getElem?_eq_getElem (by omega),g1,YY hP g4] at hxi
       obtain ⟨d',hd',hf'⟩:=zp hf hti
       refine ih d' (by omega) hf' hxi (fun m hm=>hz m ?_) (hl.nth hP.sized hti)
       simp only [DataW.weights,f1]
       exact DataW.weights_mem_each (j:=k) (by rw [f2];exact hti) (by rw [List.getElem?_map,List.getElem?_eq_getElem (by omega)];rfl) m hm
     · rename_i n e hk
       obtain ⟨g1,_,_,g4⟩:=hP.arr _ _ _ hk
       obtain ⟨l,rfl,hl⟩:=hv.inv' hk
       obtain ⟨xs,m,rfl,rfl,hlc,hxl,hx⟩:=DataW.trod_array g1 h
       have hll:=hl.lens
       simp at hll
       refine .arr hk fun i hi=>?_
       have hin:i<n:=by omega
       have hxi:=hx i hin
       rw [List.getElem?_eq_getElem (by omega),YY hP g4] at hxi
       have hr:(List.replicate n e)[i]?=some e:=by simp [hin]
       have hn:=hl.nth hP.sized hr
       rw [Qv T n i e (by omega)] at hn
       refine ih d (by omega) hf hxi (fun m hm=>hz m ?_) hn
       simp only [DataW.weights,g1]
       exact zB (List.mem_map.2 ⟨_,List.getElem_mem (by omega),rfl⟩) hm
     · rename_i e hk
       obtain ⟨hu,hno'⟩:=hP.slice _ _ hk
       have hce:=YY hP hno'
       obtain ⟨i,i1,_,i3,_⟩:=hP.info _ hno'
       have hby:P.bytesOf e=T.by_ e:=by unfold Program.bytesOf;rw [i1];exact i3
       rcases hv.inv' hk with ⟨rfl,_⟩|⟨b,off,n,cap,l,ds,rfl,h2,h3,h4,rfl,h6,h7⟩
       · exact .slice hk (by simp) (fun i hi=>by simp at hi)
       · rcases Go.Deep.open_slice hu h with ⟨hcs,_⟩|⟨ad,len,cap',m,n',D,Pl,hcs,_,hle,hm,hmm,rfl,hx⟩
         · rw [hcs] at h2;simp at h2
         · rw [h2] at hcs
           simp at hcs
           obtain ⟨rfl,rfl,rfl⟩:=hcs
           have hlm:l.length≤m:=by rw [hmm];split<;>omega
           have hb:=hz ((l.length+(m-l.length))*P.bytesOf e) (by simp [DataW.weights,hu])
           rw [hby] at hb
           have hle:l.length*T.by_ e≤reachBytes:=Nat.le_trans (Nat.mul_le_mul_right _ (Nat.le_add_right _ _)) hb
           have h47:=reachBytes_lt
           refine .slice hk (by omega) fun i hi=>?_
           obtain ⟨cs',c1,c2⟩:=hx i (by omega)
           rw [hce] at c1
           obtain ⟨_,q2,q3⟩:=World.cells?_some c1
           have hr:(List.replicate l.length e)[i]?=some e:=by simp [hi]
           have hn:=h6.nth hP.sized hr
           rw [Qv T l.length i e (by omega)] at hn
           have hnl:=hn.len hP.sized
           have hcs':cs'=(ds.drop (i*T.sz e)).take (T.sz e):=by
            refine List.ext_getElem? fun j=>?_
            by_cases hj:j<T.sz e
            · have s1:=q3 j hj
              rw [Zn,Zn] at s1
              have hjl:j<((ds.drop (i*T.sz e)).take (T.sz e)).length:=by omega
              rw [List.getElem?_eq_getElem hjl]
              have e1:(ds.drop (i*T.sz e))[j]?=some (((ds.drop (i*T.sz e)).take (T.sz e))[j]):=by
               rw [← List.getElem?_eq_getElem hjl,List.getElem?_take,if_pos hj]
              rw [List.getElem?_drop] at e1
              have s2:=h4 _ _ e1
              rw [← s1,← s2,Nat.add_assoc]
            · rw [List.getElem?_eq_none (by omega),List.getElem?_eq_none (by omega)]
           rw [← hcs'] at hn
           refine ih d (by omega) hf c2 (fun m' hm'=>hz m' ?_) hn
           simp only [DataW.weights,hu,List.mem_cons,List.mem_append]
           exact .inr (.inl (zB (List.mem_map.2 ⟨i,by simp [hi],rfl⟩) hm'))
     · simp at hf
theorem QG4 (hP:TabOk P T) {t:TypeId} {v:Value} {d:DataW H} {p:List MemPlace} {F:Nat→Prop} (hf:Xx T 60 t=true) (h:DataW.Trod enc P w 0 spare held t v d p) {x:V} (hx:Fits T w F t x v.cells.toList)
 {ts:List TypeId} {ds:List (DataW H)} {j:Nat} (hz:(DataW.weightsEach P ts ds).all (· ≤ reachBytes)=true) (hj:ts[j]?=some t) (hd:ds[j]?=some d):VSz T t x:=by
 obtain ⟨fuel,h⟩:=h
 exact QGT hP 60 hf h (fun n hn=>by simpa using List.all_eq_true.1 hz n (DataW.weights_mem_each hj hd n hn)) hx
end Go.Eng
namespace Go.Eng.Tryz
open Go.RowKit Go.Eng
theorem QL6 {p:Prg} {l:List Pck} {i:Int} {b:Bud} (h:VSz tab 75 (UU p l i b)):l.length*16≤140737488355328:=by
 have h1:=(VSz.of_slice (VSz.of_struct h QPg (k:=1) rfl) Yo).1
 rw [VS,List.length_map] at h1
 exact h1
end Go.Eng.Tryz
