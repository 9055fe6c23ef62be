/- A part of the proof: walks through the program's functions, and what they compute. -/
import Derived.Test.YtedceinkpkoncaaGreatDoorPk29
import Derived.Test.YtedceinkpkoncaaGreatDoorPk34
set_option linter.unusedSimpArgs false
set_option linter.unusedVariables false
namespace Go.Eng.Tryz
open Go.RowKit Go.Eng
theorem QHl:tab.zero 37=z37:=rfl
theorem QHk:tab.zero 48=z48:=rfl
set_option maxRecDepth 20000
end Go.Eng.Tryz
namespace Go.Eng
open Go.RowKit
variable {P:Program} {T:Tab} {w w':World} {w0:Base T} {F F':Nat→Prop} {ρ ρ':Nat→RI} {σ σ' τ:St} {a:Act} {outs:List (Array Value)} {ops:Array Oper}
theorem St.le.unsaid (t:Nat) (e':E) {e:E} (hl:σ.tm.lookup t=some (false,e)):St.le T σ { σ with tm:=(t,false,e')::σ.tm }:=by
 intro w F ρ w0 tmps outs h
 refine ⟨F,ρ,?_,h.out,h.ob,h.free,h.inj,h.fsub,h.below,h.size,h.fold⟩
 intro s g e'' he
 simp only [List.lookup_cons] at he
 by_cases hst:s=t
 · subst hst
   simp at he
   obtain ⟨rfl,rfl⟩:=he
   obtain ⟨v,h1,_,h2⟩:=h.tm _ _ _ hl
   exact ⟨v,h1,by simp,h2⟩
 · have:(s == t)=false:=by simpa using hst
   rw [this] at he
   exact h.tm s g e'' he
end Go.Eng
namespace Go.Eng
section
variable (apply:Int→Int→Int→Int × Int)
theorem QKQ {p:Prg} (hok:p.Ok) {s:Stt} (hw:Wf p s) {x:Pck} (hg:0≤x.go∧x.go<s.count) (ha:x.alt∈Qj p s x.go) (fuel:Int):Wf p (take apply p s x fuel).1:=by
 have hv:=wz hok hw hg ha
 have hcn:s.count≤(QI p s x.go x.alt).s.count:=zb p s x.go x.alt
 have hgi:=hv.gos x.go hg.1 (by omega)
 unfold take
 simp only
 split
 · exact hv.go x.go (X:={ (QI p s x.go x.alt).s.gor x.go with status:=4,why:=(QI p s x.go x.alt).why,regs:=List.replicate 8 0 }) ⟨hgi.f0,hgi.f1,hgi.p0,hgi.p1,rfl⟩ (fun q=>absurd (show (4:Int)=2 from q) (by decide))
 · split
   · exact hv
   · have h1:=xZ apply hok (s:={ (QI p s x.go x.alt).s with gos:=(QI p s x.go x.alt).s.gos.set x.go.toNat { (QI p s x.go x.alt).s.gor x.go with pc:=(QI p s x.go x.alt).to_ } }) (Yd hv.shape _ _ hgi.regs) x.go fuel
     show Wf p (if _ then _ else _)
     refine wl (q:=Wf p) (fun _=>xZ apply hok h1.shape _ fuel) (fun _=>h1)
end
end Go.Eng
namespace Go.Eng
section
variable (apply:Int→Int→Int→Int × Int)
theorem QDh {p:Prg} (hok:p.Ok) (fuel:Int):Wf p (QS apply p fuel).1:=by
 have hz:=yQ hok
 unfold QS
 by_cases h1:QP p=false
 · rw [if_pos h1];exact hz
 rw [if_neg h1]
 by_cases h2:fuel<0∨4096<fuel
 · rw [if_pos h2];exact hz
 rw [if_neg h2]
 have hx:=vL apply hok (VY hok) fuel
 refine ⟨⟨by simp [Zy],rfl,rfl,hz.shape.bufs,by show (List.set _ _ _).length=6;rw [List.length_set];rfl,wi hz.shape.regs hx.regs 0⟩,⟨(by decide:(0:Int)≤1),(by decide:(1:Int)≤6)⟩,fun g h0 hc=>?_,fun g h0 hc=>?_,hz.chans⟩
 · have hc:g<1:=hc
   have e:g.toNat=0:=by omega
   show gorIn p ((zeroStt.gos.set 0 _).getD g.toNat default)
   rw [e,QW,if_pos ⟨rfl,by decide⟩]
   exact hx
 · have hc:g<1:=hc
   have e:g.toNat=0:=by omega
   show ((zeroStt.gos.set 0 _).getD g.toNat default).status=2→_
   rw [e,QW,if_pos ⟨rfl,by decide⟩]
   intro q
   exact absurd q (W8 apply _ _ (by show (1:Int)≠2;decide))
theorem QQs {p:Prg} (hok:p.Ok) {s:Stt} (hw:Wf p s) (x:Pck) (fuel:Int):Wf p (YV apply p s x fuel).1:=by
 unfold YV
 split
 · exact yQ hok
 · split
   · exact yQ hok
   · rename_i h
     have ha:x.alt∈Qj p s x.go:=of_decide_eq_true (by simpa [has] using h)
     exact QKQ apply hok hw (live_iff.1 (Yq ha)).1 ha fuel
theorem QDw {p:Prg} (hok:p.Ok) (fuel:Int):∀ (l:List Pck) {s:Stt},Wf p s→Wf p (wF apply p fuel s l)
 | [],s,h=>h
 | x::l,s,h=>QDw hok fuel l (QQs apply hok h x fuel)
theorem vC {p:Prg} (hok:p.Ok) (fuel:Int) {s:Stt} (hs:Wf p s) (l:List Pck) (i:Nat):Wf p (QY apply p fuel s l i):=QDw apply hok fuel _ hs
theorem zd (p:Prg) (fuel:Int) (s:Stt) (l:List Pck):Z4 apply p fuel s l 0=[s]:=by simp [Z4,WQ]
theorem ze (p:Prg) (fuel:Int) (s:Stt) (l:List Pck) (i:Nat):Z4 apply p fuel s l (i+1)=Z4 apply p fuel s l i++[QY apply p fuel s l (i+1)]:=by
 unfold Z4;rw [List.range_succ,List.map_append];simp
theorem WP (p:Prg) (fuel:Int) (s:Stt) (l:List Pck) (i:Nat):(Z4 apply p fuel s l i).length=i+1:=by simp [Z4]
theorem QAv (p:Prg) (fuel:Int) (s:Stt) (l:List Pck):Qu apply p fuel s l 0=[]:=by simp [Qu]
end
end Go.Eng
