/- A part of the proof: walks through the program's functions, and what they compute. -/
import Derived.Test.YtmonhjagbhpbeaaGreatDoorPk7
set_option linter.unusedSimpArgs false
set_option linter.unusedVariables false
namespace Go.Eng
open Go.RowKit
variable {P:Program} {T:Tab} {w w':World} {w0:Base T} {F F':Nat→Prop} {ρ ρ':Nat→RI} {σ σ':St} {a:Act} {outs:List (Array Value)}
theorem St.le.frzVal (hS:T.Sized) (i:Nat) {t:TypeId} {e:E} {v:V} (ho:σ.ob[i]?=some (.var t e)) (hv:UY T t e=some v):St.le T σ (σ.frz i v []):=by
 refine St.le.frz_aux hS (List.getElem?_eq_some_iff.1 ho).1 ?_
 intro w F ρ w0 tmps outs h
 have h1:=h.ob i _ ho
 cases hρ:ρ i with
 | none=>rw [hρ] at h1;exact h1.elim
 | row _ _=>rw [hρ] at h1;exact h1.elim
 | var b t' =>
   rw [hρ] at h1
   obtain ⟨⟨rfl,q2,q3⟩,q4,q5,cs,ct,x,q6,q7,q8,_⟩:=h1
   have hf:=(XE q7 hv).1
   have hcs:x.cells=cs:=by
    have h2:=q8.2
    split at h2
    · rw [h2];rfl
    · obtain ⟨rfl,h3⟩:=h2
      cases x<;>first|rfl|(simp [Value.oneCell'] at h3)
   rw [hcs] at hf
   exact ⟨.inr rfl,cs.toList,QD1 q6,hf.mono (fun _ x=>.inl x) (fun _ _=>rfl)⟩
def vo (c:Int) (n:Nat):Int:=if c.tmod n<0 then c.tmod n+n else c.tmod n
theorem QFd {c:Int} {n:Nat} (h:0<n):0≤vo c n∧vo c n<n:=by
 have h1:=Int.tmod_lt_of_pos c (b:=(n:Int)) (by omega)
 have h2:=Int.lt_tmod_of_pos c (b:=(n:Int)) (by omega)
 unfold vo
 split<;>omega
def wa (p:Prg) (s:Stt) (c:Int):Pck:=(ready p s).getD (vo c (ready p s).length).toNat default
theorem QGe {p:Prg} {s:Stt} {c:Int} (h:0<(ready p s).length):wa p s c∈ready p s:=by
 have:=QFd (c:=c) h
 unfold wa
 exact Qj _ (by omega)
def Z9 (p:Prg) (fuel:Int) (l:List Int):Nat→Stt × List Pck
 | 0=>((start QB p fuel).1,[])
 | k+1=>((YO QB p (Z9 p fuel l k).1 (wa p (Z9 p fuel l k).1 (l.getD k 0)) fuel).1,(Z9 p fuel l k).2++[wa p (Z9 p fuel l k).1 (l.getD k 0)])
def WK (l:List Int) (b:Bud):Nat:=min l.length b.steps.toNat
def XP (p:Prg) (l:List Int) (b:Bud):Nat:=(List.range (WK l b)).findIdx fun k=>decide ((ready p (Z9 p b.fuel l k).1).length=0)
def QJ (p:Prg) (l:List Int) (b:Bud):List Pck:=if ZR p l.length b=0 then (Z9 p b.fuel l (XP p l b)).2 else []
section
variable {p:Prg} {fuel:Int} {l:List Int}
theorem We:∀ k:Nat,(Z9 p fuel l k).2.length=k
 | 0=>rfl
 | k+1=>by simp [Z9,We k]
theorem wv:∀ {m k:Nat},k≤m→(Z9 p fuel l m).2.take k=(Z9 p fuel l k).2
 | 0,k,h=>by
   obtain rfl:k=0:=by omega
   rfl
 | m+1,k,h=>by
   by_cases hk:k=m+1
   · subst hk
     exact List.take_of_length_le (by rw [We];exact Nat.le_refl _)
   · show ((Z9 p fuel l m).2++_).take k=_
     rw [List.take_append_of_le_length (by rw [We];omega)]
     exact wv (by omega)
theorem QBj:∀ k:Nat,(Z9 p fuel l k).1=vH QB p fuel (start QB p fuel).1 (Z9 p fuel l k).2
 | 0=>rfl
 | k+1=>by
   show (YO QB p (Z9 p fuel l k).1 _ fuel).1=vH QB p fuel _ ((Z9 p fuel l k).2++[_])
   unfold vH
   rw [List.foldl_append]
   show _=(YO QB p (vH QB p fuel _ (Z9 p fuel l k).2) _ fuel).1
   rw [← QBj k]
theorem xK {m k:Nat} (h:k≤m):QP QB p fuel (start QB p fuel).1 (Z9 p fuel l m).2 k=(Z9 p fuel l k).1:=by
 unfold QP
 rw [wv h,← QBj]
theorem QJp {m k:Nat} (h:k<m):(Z9 p fuel l m).2.getD k default=wa p (Z9 p fuel l k).1 (l.getD k 0):=by
 have e:(Z9 p fuel l m).2.take (k+1)=(Z9 p fuel l (k+1)).2:=wv h
 have e2:((Z9 p fuel l m).2.take (k+1)).getD k default=(Z9 p fuel l m).2.getD k default:=by
  simp [List.getD_eq_getElem?_getD,List.getElem?_take]
 rw [← e2,e]
 show ((Z9 p fuel l k).2++[_]).getD k default=_
 rw [List.getD_eq_getElem?_getD,List.getElem?_append_right (by rw [We];exact Nat.le_refl _),We,Nat.sub_self]
 rfl
theorem QDP {m:Nat} (hz:∀ j,j<m→0<(ready p (Z9 p fuel l j).1).length) {k:Nat} (h:k<m):Z6 QB p fuel (start QB p fuel).1 (Z9 p fuel l m).2 k=true:=by
 rw [okAtR_iff,xK (by omega),QJp h]
 exact (ready_mem.1 (QGe (hz k h))).2
theorem QL5 (hr:QN p=true) (hf:0≤fuel∧fuel≤4096) {m:Nat} (hz:∀ j,j<m→0<(ready p (Z9 p fuel l j).1).length):Vld p (Z9 p fuel l m).1:=by
 have:=Wl Zd hr (Prg.ok hr) hf (zK Zd hr (Prg.ok hr) hf) (l:=(Z9 p fuel l m).2) (n:=m) (by rw [We];exact Nat.le_refl _) (fun j hj=>QDP hz hj)
 rwa [xK (Nat.le_refl _)] at this
end
theorem QJo {p:Prg} {l:List Int} {b:Bud} {k:Nat} (hk:k<WK l b) (h0:(ready p (Z9 p b.fuel l k).1).length=0) (hz:∀ j,j<k→0<(ready p (Z9 p b.fuel l j).1).length):XP p l b=k:=by
 unfold XP
 rw [List.findIdx_eq (by simpa using hk)]
 refine ⟨by simp [h0],fun j hj=>?_⟩
 have:=hz j hj
 simp
 intro q
 rw [q] at this
 simp at this
theorem xJ {p:Prg} {l:List Int} {b:Bud} {k:Nat} (hk:k=WK l b) (hz:∀ j,j<k→0<(ready p (Z9 p b.fuel l j).1).length):XP p l b=k:=by
 subst hk
 unfold XP
 rw [List.findIdx_eq_length_of_false]
 · simp
 · intro j hj
   have:=hz j (by simpa using hj)
   simp
   intro q
   rw [q] at this
   simp at this
theorem QDO (p:Prg) (l:List Int) (b:Bud):XP p l b≤WK l b:=by
 unfold XP
 have:=List.findIdx_le_length (xs:=List.range (WK l b)) (p:=fun k=>decide ((ready p (Z9 p b.fuel l k).1).length=0))
 simpa using this
theorem QF1 {p:Prg} {l:List Int} {b:Bud} {j:Nat} (h:j<XP p l b):0<(ready p (Z9 p b.fuel l j).1).length:=by
 have hle:=QDO p l b
 have:=List.not_of_lt_findIdx (xs:=List.range (WK l b)) (p:=fun k=>decide ((ready p (Z9 p b.fuel l k).1).length=0)) (i:=j) h
 simp at this
 exact List.length_pos_iff.2 this
theorem QBd {p:Prg} {l:List Int} {b:Bud} (h:ZR p l.length b=0):(QJ p l b).length=XP p l b∧XP p l b≤WK l b∧XX p (QJ p l b) b=((QJ p l b).length,(Z9 p b.fuel l (XP p l b)).1,0,0):=by
 have hz:=qg h
 have hle:=QDO p l b
 have hm:(WK l b:Int)≤b.steps:=by unfold WK;omega
 have e:QJ p l b=(Z9 p b.fuel l (XP p l b)).2:=if_pos h
 have hlen:(QJ p l b).length=XP p l b:=by rw [e,We]
 refine ⟨hlen,hle,?_⟩
 have ha:ZR p (QJ p l b).length b=0:=by
  unfold ZR
  rw [if_neg (by rw [hz.1];simp),if_neg (by omega),if_neg (by rw [hz.2.2.1];simp)]
 have hst:ZY QB p b.fuel (start QB p b.fuel).1 (QJ p l b)=(QJ p l b).length:=qF QB (fun k hk=>by
  rw [e] at hk ⊢
  rw [We] at hk
  exact QDP (fun j hj=>QF1 hj) hk)
 unfold XX
 simp only
 rw [if_neg (fun q=>q ha),if_neg (by omega),hst,if_neg (Nat.lt_irrefl _),hlen]
 refine congrArg (fun x=>(XP p l b,x,(0:Int),(0:Int))) ?_
 rw [e]
 exact xK (Nat.le_refl _)
variable {P:Program} {T:Tab} {w:World} {F:Nat→Prop} {ρ:Nat→RI} {w0:Base T} {σ σ':St} {outs:List (Array Value)}
def CtrA (P:Program) (T:Tab) (f:FuncId) (pts:List TypeId) (rt:TypeId) (ts rts:List TypeId) (vs av rs:List V):Prop :=
 qk P f∧∀ (w:World) (F:Nat→Prop) (xs:List Value),(∀ b,F b→b<w.heap.size)→T.glob w→ArgsFit T w F pts vs xs →
  Calls P f xs.toArray w fun en w'=>∃ zs ys cs,en=.returned (QFK (.agg cs::ys))∧T.ty rt=.struct ts∧zs.length=ts.length∧Joins T ts zs cs.toList∧Below w.heap.size w w'∧wN T w' w.heap.size (ts++rts) (av++rs) (zs++ys)
def ctrAK (T:Tab) (res:List ResultVar) (rt:TypeId) (ts rts:List TypeId) (av rs:List V) (ex:Exit) (σ':St):Prop :=
 (ex=.normal∨ex=.ret)∧QL T σ' res fun es=>∃ parts es',es=.agg rt parts::es'∧T.ty rt=.struct ts∧parts.length=ts.length∧QM T σ' (ts++rts) (parts++es') (av++rs)
theorem ctrAK.normal {res:List ResultVar} {rt:TypeId} {ts rts:List TypeId} {av rs:List V} (h:QL T σ' res fun es=>∃ parts es',es=.agg rt parts::es'∧T.ty rt=.struct ts∧parts.length=ts.length∧QM T σ' (ts++rts) (parts++es') (av++rs)):ctrAK T res rt ts rts av rs .normal σ':=⟨.inl rfl,h⟩
theorem ctrAK.ret {res:List ResultVar} {rt:TypeId} {ts rts:List TypeId} {av rs:List V} (h:QL T σ' res fun es=>∃ parts es',es=.agg rt parts::es'∧T.ty rt=.struct ts∧parts.length=ts.length∧QM T σ' (ts++rts) (parts++es') (av++rs)):ctrAK T res rt ts rts av rs .ret σ':=⟨.inr rfl,h⟩
theorem ERelL.app:∀ {l:List E} {vs:List Value} {m:List E} {us:List Value},ERelL T w F ρ l vs→ERelL T w F ρ m us→ERelL T w F ρ (l++m) (vs++us)
 | [],[],_,_,_,h=>h
 | _::_,_::_,_,_,⟨h1,h2⟩,h=>⟨h1,ERelL.app h2 h⟩
 | [],_::_,_,_,h,_=>h.elim
 | _::_,[],_,_,h,_=>h.elim
theorem ERelL.part:∀ {n:Nat} {l:List E} {vs us:List Value},ERelL T w F ρ l (vs++us)→vs.length=n→ERelL T w F ρ (l.take n) vs∧ERelL T w F ρ (l.drop n) us
 | 0,l,[],us,h,_=>⟨by rw [List.take_zero];exact trivial,by simpa using h⟩
 | n+1,_::l,_::vs,us,⟨h1,h2⟩,e=>by
   obtain ⟨a,b⟩:=ERelL.part (n:=n) h2 (by simpa using e)
   exact ⟨⟨h1,a⟩,b⟩
 | _+1,[],_::_,_,h,_=>h.elim
 | 0,_,_::_,_,_,e=>by simp at e
 | _+1,_,[],_,_,e=>by simp at e
theorem CtrA.body (hP : TabOk P T) {f : FuncId} {fn : Func} {c : Code} {pts : List TypeId} {rt : TypeId} {ts rts : List TypeId} {vs av rs : List V} (hf : P.funcs[f]? = some fn) (hb : fn.body = some c) (hname : (fn.name == "runtime.NumGoroutine") = false) (n : Nat) (hnt : fn.ntmps = n) (res : List ResultVar) (hrs : fn.results.toList = res) (hn : (QF T pts vs).length ≤ n)
 (h:SA P T c (ctrAK T res rt ts rts av rs) { tm:=Zf 0 (QF T pts vs),ob:=[],out:=[],nt:=n }):CtrA P T f pts rt ts rts vs av rs:=by
 subst hnt hrs
 refine ⟨Wt hf (by rw [hb];rfl) hname,?_⟩
 intro w F xs hF hg hx
 refine calls_of_wp hf hb ?_
 have hl:=hx.len
 have hR:Rel T w F (fun _=>.none) ⟨w,F,hg⟩ { tm:=Zf 0 (QF T pts vs),ob:=[],out:=[],nt:=fn.ntmps } (xs.toArray++Array.replicate (fn.ntmps-xs.toArray.size) undef) [] :=
  ⟨QAK (Wr hx) _,trivial,fun i o h=>by simp at h,fun _ _=>rfl,fun i j b h=>by simp [RI.block] at h,hF,Below.refl _ _,by simp;omega,fun _ h=>.inr h⟩
 refine wp_mono (h ⟨w,F,hg⟩ w F _ { tmps:=xs.toArray++Array.replicate (fn.ntmps-xs.toArray.size) undef,defers:=[] } [] rfl hR) ?_
 rintro ex a' w' ⟨σ',F',ρ',⟨hex,hr⟩,hd',hR''⟩
 refine UL hP hR'' hd' hex hr fun es ys hv he=>?_
 obtain ⟨parts,es',rfl,hty,hlen,hv⟩:=hv
 match ys,he with
 | y::ys,⟨hy,hys⟩ =>
   obtain ⟨ts',zs,cs,h0,rfl,h2,h3⟩:=hy
   rw [hty] at h0
   cases h0
   exact ⟨zs,ys,cs,rfl,hty,by rw [← h2.lens,hlen],h3,hR''.below,y4 hP.sized hR'' hv (h2.app hys)⟩
theorem CallE.ctrA (hP:TabOk P T) {f:FuncId} {pts:List TypeId} {rt:TypeId} {ts rts:List TypeId} {vs av rs:List V} {es:List E} {K:St→E→Prop} (hc:CtrA P T f pts rt ts rts vs av rs) (hv:Zy T σ pts es=some vs)
 (hK:K { σ with ob:=σ.ob++(Yu T σ.ob.length (ts++rts) (av++rs)).1 } (VZ (.agg rt ((Yu T σ.ob.length (ts++rts) (av++rs)).2.take ts.length)::(Yu T σ.ob.length (ts++rts) (av++rs)).2.drop ts.length))):CallE P T σ f es K:=by
 obtain ⟨hE,hc⟩:=hc
 refine ⟨hE,?_⟩
 intro w0 w F ρ tmps outs xs hR hx
 refine (hc w _ xs (fun _ h=>h) (T.globB _ _ (Base.ok _) hR.below) (U5 hP hR hx hv)).mono ?_
 rintro en w' ⟨zs,ys,cs,rfl,hty,hlen,hj,hb,hres⟩
 have hR':=hR.later hb
 obtain ⟨ρ',r1,r2,_⟩:=zc (n0:=w.heap.size) hR.fsub hR' hR.below.size hres (fun y _ b _ hnb j hj=>by have:=(hR.own hj).1;omega)
 obtain ⟨q1,q2⟩:=r2.part hlen
 exact ⟨_,_,_,F,ρ',rfl,hK,zX (es:=.agg rt _::_) ⟨⟨ts,zs,cs,hty,rfl,q1,hj⟩,q2⟩,r1⟩
theorem QJm {p:Prg} {l:List Int} {b:Bud} (h:ZR p l.length b=0):(XX p (QJ p l b) b).2.2.1=0:=by
 rw [(QBd h).2.2]
theorem QG9 (p:Prg) (l:List Int) (b:Bud):(QJ p l b).length≤256:=by
 by_cases h:ZR p l.length b=0
 · have hz:=qg h
   have:=QBd h
   have hm:WK l b=min l.length b.steps.toNat:=rfl
   omega
 · unfold QJ
   rw [if_neg h]
   decide
end Go.Eng
