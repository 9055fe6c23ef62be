/- A part of the proof: walks through the program's functions, and what they compute. -/
import Derived.Test.YtedceinkpkoncaaGreatDoorPk6
import Derived.Test.YtedceinkpkoncaaGreatDoorRows
import Derived.Test.YtedceinkpkoncaaGreatDoorCards
import Derived.Test.YtedceinkpkoncaaGreatDoorTie
import Derived.LaidMore
import Derived.SevenTiedAt
set_option linter.unusedSimpArgs false
set_option linter.unusedVariables false
namespace Go.Eng
theorem QFB {p:Prg} (hr:QP p=true) (hok:p.Ok) {s:Stt} (hv:Vld p s) {x:Pck} (ha:x.alt∈Qj p s x.go) {fuel:Int} (hf:0≤fuel∧fuel≤4096) {nx md:Int} (hn:NextOk s (QI p s x.go x.alt) nx md) :
 ∃ (ms:Stt) (mv:Int) (mo:Bool),machD p x.go fuel (QI p s x.go x.alt)=machV p ms x.go fuel mv mo∧ms.gos.length=6∧(mo=true→take QB p s x fuel=(ms,event p s x mv)) ∧
   (mo=false→(pcS ms x.go nx).Shape∧(Qd QB p (pcS ms x.go nx) x.go fuel).1.Shape∧take QB p s x fuel=(if 0≤md then (Qd QB p (Qd QB p (pcS ms x.go nx) x.go fuel).1 md fuel).1 else (Qd QB p (pcS ms x.go nx) x.go fuel).1,event p s x mv)):=by
 have hg:=(live_iff.1 (Yq ha)).1
 have hd:=w4 hok hr hv ha
 have ht:take QB p s x fuel=(let d:=QI p s x.go x.alt
  if d.why≠0 then (QBn d.s x.go d.why,event p s x 0)
  else if d.to_<0 then (d.s,event p s x d.val)
  else (if s.count<(Qd QB p (pcS d.s x.go d.to_) x.go fuel).1.count then (Qd QB p (Qd QB p (pcS d.s x.go d.to_) x.go fuel).1 s.count fuel).1 else (Qd QB p (pcS d.s x.go d.to_) x.go fuel).1,event p s x d.val)):=rfl
 rw [ht]
 generalize QI p s x.go x.alt=d at *
 simp only
 have hsh:=hd.vld.shape
 by_cases hw:d.why=0
 · by_cases h0:0≤d.to_
   · obtain ⟨rfl,hmd⟩:=hn hw h0
     refine ⟨d.s,d.val,false,machD.ok hw h0,hsh.gos,fun h=>(by cases h),fun _=>?_⟩
     have hvA:Vld p (pcS d.s x.go d.to_):=wX hg hd hw h0
     have hgA:0≤x.go∧x.go<(pcS d.s x.go d.to_).count:=⟨hg.1,by have:=hd.cnt;show x.go<d.s.count;omega⟩
     have hS:=xa Yp hr hok hvA hgA hf
     have hK:=(QCZ (apply:=QB) hr hok hvA hgA hf).2.2.2.1
     refine ⟨hvA.shape,hS.shape,?_⟩
     rw [if_neg (fun q=>q hw),if_neg (by omega),hK]
     have e:(pcS d.s x.go d.to_).count=d.s.count:=rfl
     rw [e]
     by_cases hc:s.count<d.s.count
     · rw [if_pos hc] at hmd
       subst hmd
       rw [if_pos hc,if_pos (by have:=hv.count;omega)]
     · rw [if_neg hc] at hmd
       subst hmd
       rw [if_neg hc,if_neg (by decide)]
   · refine ⟨d.s,d.val,true,machD.over hw (by omega),hsh.gos,fun _=>?_,fun h=>(by cases h)⟩
     rw [if_neg (fun q=>q hw),if_pos (by omega)]
 · refine ⟨QBn d.s x.go d.why,0,true,machD.fail hw,(by show (d.s.gos.set _ _).length=6;rw [List.length_set];exact hsh.gos),fun _=>?_,fun h=>(by cases h)⟩
   rw [if_pos hw]
theorem QC8 {p:Prg} {s:Stt} {x:Pck} {fuel:Int} (h:¬ZO p s=0):xQ p s x fuel=(zeroStt,zeroEvent,ZO p s):=if_pos h
theorem QJa {p:Prg} {s:Stt} {x:Pck} {fuel:Int} (h:ZO p s=0) (hf:fuel<0∨4096<fuel):xQ p s x fuel=(zeroStt,zeroEvent,1):=(if_neg (fun q=>q h)).trans (if_pos hf)
theorem xB {p:Prg} {s:Stt} {x:Pck} {fuel:Int} (h:ZO p s=0) (hf:¬(fuel<0∨4096<fuel)) (ha:¬x.alt∈Qj p s x.go):xQ p s x fuel=(zeroStt,zeroEvent,5):=(if_neg (fun q=>q h)).trans ((if_neg hf).trans (if_pos (decide_eq_false ha)))
theorem WY {p:Prg} {s:Stt} {x:Pck} {fuel:Int} (h:ZO p s=0) (hf:¬(fuel<0∨4096<fuel)) (ha:x.alt∈Qj p s x.go):xQ p s x fuel=((take QB p s x fuel).1,(take QB p s x fuel).2,0):=(if_neg (fun q=>q h)).trans ((if_neg hf).trans (if_neg (by unfold has;rw [decide_eq_true ha];decide)))
theorem QCA {p:Prg} {s:Stt} (hv:Vld p s) {g a:Int} (h:(g<0∨6≤g)∨WE s g=false):¬a∈Qj p s g:=by
 intro ha
 have hl:=Yq ha
 have h1:=live_iff.1 hl
 have hc:=hv.count
 rcases h with h|h
 · omega
 · rw [← XR hv (by omega) (by omega),hl] at h
   cases h
theorem YI {g:Int} (h:(decide (g<0)||decide (6≤g))=false):0≤g∧g<6:=by simp at h;omega
theorem QLI {g:Int} (h:(decide (g<0)||decide (6≤g))=true):g<0∨6≤g:=by simpa using h
end Go.Eng
namespace Go.Eng.Tryz
open Go.RowKit Go.Eng
variable {w:World} {F:Nat→Prop}
theorem XN {α:Type} {f:α→V} {t e:TypeId} (ht:tab.ty t=.slice e) (hf:∀ v cs,Fits tab w F e v cs→∃ a,v=f a) {v:V} {cs:List Value} (h:Fits tab w F t v cs):∃ m:List α,v=.list (m.map f):=by
 rcases h.inv' ht with ⟨h,_⟩|⟨b,off,n,cap,l',ds,h,_,_,_,_,hf',_⟩
 · exact ⟨[],h⟩
 · obtain ⟨m,rfl⟩:=QBk hf hf'
   exact ⟨m,h⟩
theorem Qo {t:TypeId} {k:IntKind} (ht:tab.ty t=.int k) (v:V) (cs:List Value) (h:Fits tab w F t v cs):∃ n:Int,k.has n∧v=.int n:=by
 obtain ⟨n,h1,h2,_⟩:=h.inv' ht
 exact ⟨n,h2,h1⟩
theorem xo {t:TypeId} (ht:tab.ty t=.bool) (v:V) (cs:List Value) (h:Fits tab w F t v cs):∃ n:Bool,v=.bool n:=by
 obtain ⟨n,h1,_⟩:=h.inv' ht
 exact ⟨n,h1⟩
theorem QFK (v:V) (cs:List Value) (h:Fits tab w F 129 v cs):∃ a:Instr,v=a.v:=by
 obtain ⟨l,rfl,hl⟩:=h.inv' QH1
 cases hl with|cons h1 hl=>cases hl with|cons h2 hl=>cases hl with|cons h3 hl=>cases hl with|cons h4 hl=>cases hl with|cons h5 hl=>cases hl with|nil =>
  obtain ⟨a1,_,rfl⟩:=Qo QPJ _ _ h1
  obtain ⟨a2,_,rfl⟩:=Qo qS _ _ h2
  obtain ⟨a3,_,rfl⟩:=Qo qS _ _ h3
  obtain ⟨a4,_,rfl⟩:=Qo qS _ _ h4
  obtain ⟨a5,_,rfl⟩:=Qo ty2 _ _ h5
  exact ⟨⟨a1,a2,a3,a4,a5⟩,rfl⟩
theorem QHW (v:V) (cs:List Value) (h:Fits tab w F 156 v cs):∃ a:Cas,v=a.v:=by
 obtain ⟨l,rfl,hl⟩:=h.inv' QHz
 cases hl with|cons h1 hl=>cases hl with|cons h2 hl=>cases hl with|cons h3 hl=>cases hl with|cons h4 hl=>cases hl with|nil =>
  obtain ⟨a1,rfl⟩:=xo ty4 _ _ h1
  obtain ⟨a2,_,rfl⟩:=Qo qS _ _ h2
  obtain ⟨a3,_,rfl⟩:=Qo qS _ _ h3
  obtain ⟨a4,_,rfl⟩:=Qo qS _ _ h4
  exact ⟨⟨a1,a2,a3,a4⟩,rfl⟩
theorem QJR (v:V) (cs:List Value) (h:Fits tab w F 124 v cs):∃ a:Sel,v=a.v:=by
 obtain ⟨l,rfl,hl⟩:=h.inv' QDc
 cases hl with|cons h1 hl=>cases hl with|cons h2 hl=>cases hl with|nil =>
  obtain ⟨a1,rfl⟩:=XN QH2 QHW h1
  obtain ⟨a2,_,rfl⟩:=Qo qS _ _ h2
  exact ⟨⟨a1,a2⟩,rfl⟩
theorem QJT (v:V) (cs:List Value) (h:Fits tab w F 121 v cs):∃ a:Fnc,v=a.v:=by
 obtain ⟨l,rfl,hl⟩:=h.inv' QA7
 cases hl with|cons h1 hl=>cases hl with|cons h2 hl=>cases hl with|cons h3 hl=>cases hl with|cons h4 hl=>cases hl with|nil =>
  obtain ⟨a1,_,rfl⟩:=Qo qS _ _ h1
  obtain ⟨a2,_,rfl⟩:=Qo qS _ _ h2
  obtain ⟨a3,rfl⟩:=XN QH4 QFK h3
  obtain ⟨a4,rfl⟩:=XN QH3 QJR h4
  exact ⟨⟨a1,a2,a3,a4⟩,rfl⟩
theorem QLK (v:V) (cs:List Value) (h:Fits tab w F 139 v cs):∃ a:Vr,v=a.v:=by
 obtain ⟨l,rfl,hl⟩:=h.inv' QH0
 cases hl with|cons h1 hl=>cases hl with|cons h2 hl=>cases hl with|nil =>
  obtain ⟨a1,rfl⟩:=xo ty4 _ _ h1
  obtain ⟨a2,_,rfl⟩:=Qo ty2 _ _ h2
  exact ⟨⟨a1,a2⟩,rfl⟩
theorem Wl (v:V) (cs:List Value) (h:Fits tab w F 26 v cs):∃ a:Prg,v=a.v:=by
 obtain ⟨l,rfl,hl⟩:=h.inv' QGm
 cases hl with|cons h1 hl=>cases hl with|cons h2 hl=>cases hl with|cons h3 hl=>cases hl with|cons h4 hl=>cases hl with|nil =>
  obtain ⟨a1,rfl⟩:=XN QNH QLK h1
  obtain ⟨a2,_,rfl⟩:=Qo qS _ _ h2
  obtain ⟨a3,rfl⟩:=XN Z6 (f:=V.int) (fun v cs h=>let ⟨n,_,e⟩:=Qo qS v cs h;⟨n,e⟩) h3
  obtain ⟨a4,rfl⟩:=XN QNG QJT h4
  exact ⟨⟨a1,a2,a3,a4⟩,rfl⟩
theorem Prg.fit_of {p:Prg} (h:V.Lens p.v):p.Fit:=by
 have a:=V.Lens.of_agg h
 have h1:=(V.Lens.of_list (a (.list (p.vars.map Vr.v)) (by simp))).1
 have h3:=(V.Lens.of_list (a (.list (p.chans.map V.int)) (by simp))).1
 have h4:=V.Lens.of_list (a (.list (p.funcs.map Fnc.v)) (by simp))
 rw [List.length_map] at h1 h3
 refine ⟨h1,h3,by simpa using h4.1,fun f hf=>?_⟩
 have b:=V.Lens.of_agg (h4.2 f.v (List.mem_map.2 ⟨f,hf,rfl⟩))
 have c1:=(V.Lens.of_list (b (.list (f.code.map Instr.v)) (by simp))).1
 have c2:=V.Lens.of_list (b (.list (f.sels.map Sel.v)) (by simp))
 rw [List.length_map] at c1
 refine ⟨c1,by simpa using c2.1,fun s hs=>?_⟩
 have d:=V.Lens.of_agg (c2.2 s.v (List.mem_map.2 ⟨s,hs,rfl⟩))
 simpa using (V.Lens.of_list (d (.list (s.cases.map Cas.v)) (by simp))).1
end Go.Eng.Tryz
namespace Go.Proofs.YtedceinkpkoncaaGreatDoor
open Go.ChangeShapes Go.WideShapes Go.ChangeAt Go.RowKit
def XS {H : Type} : List (String × DataW H) := [("math/bits.deBruijn64tab", Rows.laid_math_bits_deBruijn64tab)]
theorem gTab : Tryz.prog.globalNamed "math/bits.deBruijn64tab" = some 0 := by kernel_rfl
theorem tTab:(Tryz.prog.globals[0]?).map (·.type)=some 267:=by kernel_rfl
theorem U3 {W:World} (h:laidMetH Tryz.prog XS W):Go.Eng.Tryz.glob W:=by
 rw [MakeChecks.laidMetH_plain _ _ _ (by kernel_rfl)] at h
 obtain ⟨ps,⟨g0,t0,cs0,f0,p0,q0,hg0,ht0,hv0,hd0,_,_⟩,_,_⟩:=h
 obtain rfl:=Option.some.inj (gTab.symm.trans hg0)
 obtain rfl:=Option.some.inj (tTab.symm.trans ht0)
 obtain ⟨xs,m1,rfl,hx1,hlen,hn3,hel⟩:=DataW.trod_array Tryz.underlying267 hd0
 intro j hj
 have h64:Lib.deBruijn64tab.length=64:=rfl
 have hj':j<xs.length:=by omega
 have hd:=(Prod.mk.inj hx1).1
 have hl:Lib.deBruijn64tab.map (fun n:Nat=>(DataW.lit (.int .u8 (n:Int)):DataW _))=xs.map (·.1):=DataW.agg.inj hd
 have h1:=hel j (by omega)
 rw [List.getElem?_eq_getElem hj'] at h1
 obtain ⟨k,e1,e2,_⟩:=DataW.trod_int Tryz.underlying5 h1
 have hk:=congrArg (fun l=>l[j]?) hl
 simp only [List.getElem?_map,List.getElem?_eq_getElem hj,List.getElem?_eq_getElem hj',Option.map_some,e2] at hk
 have hk':k=(Lib.deBruijn64tab[j]:Int):=by
  generalize Lib.deBruijn64tab[j]=n at hk ⊢
  cases hk
  rfl
 have c1:Tryz.prog.cellsOf 5=1:=by kernel_rfl
 rw [c1,Nat.mul_one] at e1
 have hc:=World.var?_cell hg0 hv0 j
 have e3:cs0[j]?=some (.int .u8 k):=by
  have h:=congrArg (fun l:List Value=>l[0]?) e1
  simp at h
  simpa using h
 rw [hc,e3,hk',List.getD_eq_getElem?_getD,List.getElem?_eq_getElem hj]
 rfl
theorem Vn (os:Os) (args:Array Value):laidMetH Tryz.prog XS ((World.doorLaid Tryz.prog 400 os).forCall (fun _ _=>0) ⟨#[],args,[]⟩).memory :=
 laidMetH_of_parts3 (fuel:=8) (laidMet_of_run' 8 (by kernel_rfl) (by kernel_rfl)) (by kernel_rfl) (by kernel_rfl)
end Go.Proofs.YtedceinkpkoncaaGreatDoor
