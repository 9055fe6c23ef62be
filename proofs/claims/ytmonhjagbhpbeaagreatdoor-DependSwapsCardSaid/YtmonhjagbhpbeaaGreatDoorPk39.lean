/- A part of the proof: walks through the program's functions, and what they compute. -/
import Derived.Test.YtmonhjagbhpbeaaGreatDoorPk27
set_option linter.unusedSimpArgs false
set_option linter.unusedVariables false
namespace Go.Eng.Tryz
open Go.RowKit Go.Eng
theorem QJw:tab.zero 47=z47:=rfl
set_option maxRecDepth 20000
end Go.Eng.Tryz
namespace Go.Eng
open Go.RowKit
variable {P:Program} {T:Tab} {w w':World} {w0:Base T} {F F':Nat→Prop} {ρ ρ':Nat→RI} {σ σ' τ:St} {a:Act} {outs:List (Array Value)} {ops:Array Oper}
theorem St.le.unsaid (t:Nat) (e':E) {e:E} (hl:σ.tm.lookup t=some (false,e)):St.le T σ { σ with tm:=(t,false,e')::σ.tm }:=by
 intro w F ρ w0 tmps outs h
 refine ⟨F,ρ,?_,h.out,h.ob,h.free,h.inj,h.fsub,h.below,h.size,h.fold⟩
 intro s g e'' he
 simp only [List.lookup_cons] at he
 by_cases hst:s=t
 · subst hst
   simp at he
   obtain ⟨rfl,rfl⟩:=he
   obtain ⟨v,h1,_,h2⟩:=h.tm _ _ _ hl
   exact ⟨v,h1,by simp,h2⟩
 · have:(s == t)=false:=by simpa using hst
   rw [this] at he
   exact h.tm s g e'' he
section
variable (apply:Int→Int→Int→Int × Int)
theorem QMh {p:Prg} (hok:p.Ok) {s:Stt} (hw:Wf p s) {x:Pck} (hg:0≤x.go∧x.go<s.count) (ha:x.alt∈Qn p s x.go) (fuel:Int):Wf p (take apply p s x fuel).1:=by
 have hv:=QAO hok hw hg ha
 have hcn:s.count≤(QG p s x.go x.alt).s.count:=UX p s x.go x.alt
 have hgi:=hv.gos x.go hg.1 (by omega)
 unfold take
 simp only
 split
 · exact hv.go x.go (X:={ (QG p s x.go x.alt).s.gor x.go with status:=4,why:=(QG p s x.go x.alt).why,regs:=List.replicate 8 0 }) ⟨hgi.f0,hgi.f1,hgi.p0,hgi.p1,rfl⟩ (fun q=>absurd (show (4:Int)=2 from q) (by decide))
 · split
   · exact hv
   · have h1:=wW apply hok (s:={ (QG p s x.go x.alt).s with gos:=(QG p s x.go x.alt).s.gos.set x.go.toNat { (QG p s x.go x.alt).s.gor x.go with pc:=(QG p s x.go x.alt).to_ } }) (Yr hv.shape _ _ hgi.regs) x.go fuel
     show Wf p (if _ then _ else _)
     refine QAD (q:=Wf p) (fun _=>wW apply hok h1.shape _ fuel) (fun _=>h1)
end
section
variable (apply:Int→Int→Int→Int × Int)
theorem QEz {p:Prg} (hok:p.Ok) (fuel:Int):Wf p (start apply p fuel).1:=by
 have hz:=xR hok
 unfold start
 by_cases h1:QN p=false
 · rw [if_pos h1];exact hz
 rw [if_neg h1]
 by_cases h2:fuel<0∨4096<fuel
 · rw [if_pos h2];exact hz
 rw [if_neg h2]
 have hx:=QAq apply hok (Vs hok) fuel
 refine ⟨⟨by simp [YE],rfl,rfl,hz.shape.bufs,by show (List.set _ _ _).length=6;rw [List.length_set];rfl,QAA hz.shape.regs hx.regs 0⟩,⟨(by decide:(0:Int)≤1),(by decide:(1:Int)≤6)⟩,fun g h0 hc=>?_,fun g h0 hc=>?_,hz.chans⟩
 · have hc:g<1:=hc
   have e:g.toNat=0:=by omega
   show gorIn p ((zeroStt.gos.set 0 _).getD g.toNat default)
   rw [e,QU,if_pos ⟨rfl,by decide⟩]
   exact hx
 · have hc:g<1:=hc
   have e:g.toNat=0:=by omega
   show ((zeroStt.gos.set 0 _).getD g.toNat default).status=2→_
   rw [e,QU,if_pos ⟨rfl,by decide⟩]
   intro q
   exact absurd q (VQ apply _ _ (by show (1:Int)≠2;decide))
theorem QTw {p:Prg} (hok:p.Ok) {s:Stt} (hw:Wf p s) (x:Pck) (fuel:Int):Wf p (YO apply p s x fuel).1:=by
 unfold YO
 split
 · exact xR hok
 · split
   · exact xR hok
   · rename_i h
     have ha:x.alt∈Qn p s x.go:=of_decide_eq_true (by simpa [has] using h)
     exact QMh apply hok hw (live_iff.1 (Zm ha)).1 ha fuel
theorem QFF {p:Prg} (hok:p.Ok) (fuel:Int):∀ (l:List Pck) {s:Stt},Wf p s→Wf p (vH apply p fuel s l)
 | [],s,h=>h
 | x::l,s,h=>QFF hok fuel l (QTw apply hok h x fuel)
theorem QAf {p:Prg} (hok:p.Ok) (fuel:Int) {s:Stt} (hs:Wf p s) (l:List Pck) (i:Nat):Wf p (QP apply p fuel s l i):=QFF apply hok fuel _ hs
theorem ye (p:Prg) (fuel:Int) (s:Stt) (l:List Pck):Q0 apply p fuel s l 0=[s]:=by simp [Q0,VW]
theorem yf (p:Prg) (fuel:Int) (s:Stt) (l:List Pck) (i:Nat):Q0 apply p fuel s l (i+1)=Q0 apply p fuel s l i++[QP apply p fuel s l (i+1)]:=by
 unfold Q0;rw [List.range_succ,List.map_append];simp
theorem WX (p:Prg) (fuel:Int) (s:Stt) (l:List Pck) (i:Nat):(Q0 apply p fuel s l i).length=i+1:=by simp [Q0]
theorem QCH (p:Prg) (fuel:Int) (s:Stt) (l:List Pck):Z7 apply p fuel s l 0=[]:=by simp [Z7]
end
end Go.Eng
