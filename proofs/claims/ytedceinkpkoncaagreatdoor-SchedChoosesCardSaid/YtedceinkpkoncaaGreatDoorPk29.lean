/- A part of the proof: walks through the program's functions, and what they compute. -/
import Derived.Test.YtedceinkpkoncaaGreatDoorPk7
import Derived.Test.YtedceinkpkoncaaGreatDoorPk21
import Derived.Test.YtedceinkpkoncaaGreatDoorPk22
set_option linter.unusedSimpArgs false
set_option linter.unusedVariables false
namespace Go.Eng
open Go.RowKit
variable {H:Type} {enc:TypeId × Value→H} {P:Program} {T:Tab} {w:World} {base:Nat} {spare:Nat→Bool} {held:Bool} {F:Nat→Prop}
theorem UQ (hP:TabOk P T) {t e:TypeId} {r:Reach} {b0:Nat} {v:Value} {d:DataW H} {p:List MemPlace} (ht:T.ty t=.slice e) (hf:ZJ T 20 e=true) (hval:Value.okWide P w r b0 t v)
 (h:DataW.Trod enc P w 0 spare held t v d p):∃ l,Fits T w (fun b=>b<w.heap.size) t (.list l) v.cells.toList∧Qw T t v v.cells.toList∧l.length≤maxLen:=by
 obtain ⟨hu,hno⟩:=hP.slice _ _ ht
 obtain ⟨a,len,cap,rfl⟩:=Go.WideShapes.okWide_slice hu hval
 have hvo:∀ a len cap,Qw T t (.slice a len cap) (Value.slice a len cap).cells.toList:=fun a len cap=>by simp [Qw,ht,TyD.isAgg,Value.cells]
 obtain ⟨fuel,h⟩:=h
 have hse:=(hP.sized.slice _ _ ht).2
 have hc:=YF hP hno
 rcases Go.Deep.open_slice hu h with ⟨hcs,_⟩|⟨ad,l,c,m,n,D,Pl,hcs,_,hl,hm,hmm,_,hx⟩
 · simp [Value.cells] at hcs
   obtain ⟨rfl,rfl,rfl⟩:=hcs
   exact ⟨[],.nil ht,hvo _ _ _,by simp⟩
 · simp [Value.cells] at hcs
   obtain ⟨rfl,rfl,rfl⟩:=hcs
   have hok:ad.spot=none∧ad.block<w.heap.size:=by
    unfold Value.okWide at hval
    rw [hu] at hval
    simp only [Cell.okWide,hu,Cell.ok] at hval
    obtain ⟨_,_,_,h2,row,cells,h3,_⟩:=hval
    refine ⟨h2,?_⟩
    unfold World.shape? at h3
    cases hb:w.heap[ad.block]? with
    | none=>rw [hb] at h3;cases h3
    | some o=>exact (Array.getElem?_eq_some_iff.1 hb).1
   obtain ⟨b,off,sp⟩:=ad
   obtain ⟨rfl,hb⟩:=hok
   simp only at hb
   have hlm:len≤m:=by rw [hmm];split<;>omega
   have hex:∀ i,i<len→∃ c:List Value,c.length=T.sz e∧(∀ j,j<T.sz e→w.cell? ⟨b,off+(i*T.sz e+j),none⟩=c[j]?)∧∃ v,Fits T w (fun b=>b<w.heap.size) e v c:=by
    intro i hi
    obtain ⟨cs',h1,h2⟩:=hx i (by omega)
    rw [hc] at h1
    obtain ⟨_,q2,q3⟩:=World.cells?_some h1
    obtain ⟨v,hv⟩:=QBj (F:=fun b=>b<w.heap.size) hP 20 hf h2
    refine ⟨cs',q2,fun j hj=>?_,v,hv⟩
    rw [← q3 j hj,Zd,Zd,Nat.add_assoc]
   obtain ⟨cl,hcl,hcl'⟩:=Wz (α:=List Value) hex
   obtain ⟨vl,hvl,hvl'⟩:=Wz (α:=V) (p:=fun i v=>Fits T w (fun b=>b<w.heap.size) e v (cl.getD i default)) fun i hi=>(hcl' i hi).2.2
   have key:∀ (vl:List V) (cl:List (List Value)) (off:Nat),vl.length=cl.length→(∀ i,i<cl.length→(cl.getD i default).length=T.sz e∧(∀ j,j<T.sz e→w.cell? ⟨b,off+(i*T.sz e+j),none⟩=(cl.getD i default)[j]?)) →
    (∀ i,i<cl.length→Fits T w (fun b=>b<w.heap.size) e (vl.getD i default) (cl.getD i default))→Seg w b off cl.flatten∧FitsL T w (fun b=>b<w.heap.size) (List.replicate cl.length e) vl cl.flatten:=by
    intro vl cl
    induction cl generalizing vl with
    | nil =>
      intro off hl _ _
      have:vl=[]:=by simpa using hl
      subst this
      exact ⟨fun j x hj=>by simp at hj,.nil⟩
    | cons c cl ihc =>
      intro off hl h1 h2
      cases vl with
      | nil=>simp at hl
      | cons v vl =>
        have c0:=h1 0 (by simp)
        simp only [List.getD_cons_zero,Nat.zero_mul,Nat.zero_add] at c0
        have:=ihc vl (off+T.sz e) (by simpa using hl) (fun i hi=>by
         have:=h1 (i+1) (by simpa using hi)
         simp only [List.getD_cons_succ] at this
         refine ⟨this.1,fun j hj=>?_⟩
         rw [← this.2 j hj,Nat.add_mul,Nat.one_mul]
         congr 2
         omega) (fun i hi=>by
         have:=h2 (i+1) (by simpa using hi)
         simpa only [List.getD_cons_succ] using this)
        refine ⟨?_,?_⟩
        · intro j x hj
          rw [List.flatten_cons] at hj
          by_cases hjs:j<T.sz e
          · rw [List.getElem?_append_left (by omega)] at hj
            rw [c0.2 j hjs];exact hj
          · rw [List.getElem?_append_right (by omega),c0.1] at hj
            have:=this.1 _ _ hj
            rw [← this]
            congr 2
            omega
        · rw [List.length_cons,List.replicate_succ,List.flatten_cons]
          have h0:=h2 0 (by simp)
          simp only [List.getD_cons_zero] at h0
          exact .cons h0 this.2
   obtain ⟨k1,k2⟩:=key vl cl off (by omega) (fun i hi=>⟨(hcl' i (by omega)).1,(hcl' i (by omega)).2.1⟩) (fun i hi=>hvl' i (by omega))
   rw [hcl] at k2
   exact ⟨vl,.slice ht hb k1 hvl k2 hl,hvo _ _ _,by omega⟩
end Go.Eng
namespace Go.Eng
section
variable (apply:Int→Int→Int→Int × Int)
def Zy (p:Prg) (n:Nat):List Int:=(List.range 8).map fun i=>if i<n then (p.vars.getD i default).init else 0
def QS (p:Prg) (fuel:Int):Stt × Int :=
 if QP p=false then (zeroStt,3) else if fuel<0∨4096<fuel then (zeroStt,1)
 else ({ zeroStt with vars:=Zy p p.vars.length,gos:=zeroStt.gos.set 0 (Yb apply p zeroGor fuel),count:=1 },0)
def wF (p:Prg) (fuel:Int) (s:Stt) (l:List Pck):Stt:=l.foldl (fun s x=>(YV apply p s x fuel).1) s
def QY (p:Prg) (fuel:Int) (s:Stt) (l:List Pck) (j:Nat):Stt:=wF apply p fuel s (l.take j)
def Xi (p:Prg) (fuel:Int) (s:Stt) (l:List Pck) (j:Nat):Event:=(YV apply p (QY apply p fuel s l j) (l.getD j default) fuel).2.1
def YD (p:Prg) (fuel:Int) (s:Stt) (l:List Pck) (j:Nat):Bool:=(ready p (QY apply p fuel s l j)).any fun y=>decide (l.getD j default=y)
def ZN (p:Prg) (fuel:Int) (s:Stt) (l:List Pck):Nat:=(List.range l.length).findIdx fun j=>!YD apply p fuel s l j
def Z4 (p:Prg) (fuel:Int) (s:Stt) (l:List Pck) (n:Nat):List Stt:=(List.range (n+1)).map (QY apply p fuel s l)
def Qu (p:Prg) (fuel:Int) (s:Stt) (l:List Pck) (n:Nat):List Event:=(List.range n).map (Xi apply p fuel s l)
def Yo (b:Bud):Bool:=decide (0≤b.steps)&&decide (b.steps≤256)&&decide (0≤b.fuel)&&decide (b.fuel≤4096)&&decide (0≤b.runs)&&decide (b.runs≤65536)
def ZF (p:Prg) (n:Int) (b:Bud):Int:=if QP p=false then 3 else if 256<n then 2 else if Yo b=false then 6 else 0
end
end Go.Eng
namespace Go.Eng
theorem qd (p:Prg):Zy p 0=zeroStt.vars:=by simp [Zy,zeroStt];rfl
theorem qe (p:Prg) {i:Nat} (h:i<8):(Zy p i).set i (p.vars.getD i default).init=Zy p (i+1):=by
 unfold Zy
 rw [qh h]
 apply List.map_congr_left
 intro k hk
 by_cases h1:k=i
 · subst h1;simp
 · rw [if_neg h1]
   by_cases h2:k<i
   · rw [if_pos h2,if_pos (by omega)]
   · rw [if_neg h2,if_neg (by omega)]
theorem VY {p:Prg} (hok:p.Ok):gorIn p zeroGor:=by
 have hs:=hok.sizes
 unfold Ze at hs
 exact ⟨by decide,by show (0:Int)<_;omega,by decide,by have:=hok.code 0 (by omega);show (0:Int)<_;exact_mod_cast this.1,by decide⟩
end Go.Eng
namespace Go.Eng
section
variable (apply:Int→Int→Int→Int × Int)
theorem WQ (p:Prg) (fuel:Int) (s:Stt) (l:List Pck):QY apply p fuel s l 0=s:=by simp [QY,wF]
theorem Uq (p:Prg) (fuel:Int) (s:Stt) (l:List Pck) {i:Nat} (h:i<l.length):QY apply p fuel s l (i+1)=(YV apply p (QY apply p fuel s l i) (l.getD i default) fuel).1:=by
 unfold QY wF
 rw [List.take_succ_eq_append_getElem h,List.foldl_append]
 simp [List.getD_eq_getElem?_getD,h]
theorem zl (p:Prg) (fuel:Int) (s:Stt) (l:List Pck) (i:Nat):Qu apply p fuel s l (i+1)=Qu apply p fuel s l i++[Xi apply p fuel s l i]:=by
 unfold Qu;rw [List.range_succ,List.map_append];simp
theorem Zj (p:Prg) (fuel:Int) (s:Stt) (l:List Pck) (i:Nat):(Qu apply p fuel s l i).length=i:=by simp [Qu]
theorem QBB {p:Prg} {fuel:Int} {s:Stt} {l:List Pck} {i:Nat} (hi:i<l.length) (hb:YD apply p fuel s l i=false) (h:∀ k,k<i→YD apply p fuel s l k=true):ZN apply p fuel s l=i:=by
 unfold ZN
 rw [List.findIdx_eq (by simpa using hi)]
 refine ⟨by simp [hb],fun j hj=>?_⟩
 simp [h j hj]
theorem Up {p:Prg} {fuel:Int} {s:Stt} {l:List Pck} (h:∀ k,k<l.length→YD apply p fuel s l k=true):ZN apply p fuel s l=l.length:=by
 unfold ZN
 have e:∀ x∈List.range l.length,(!YD apply p fuel s l x)=false:=by
  intro x hx;rw [h x (List.mem_range.1 hx)];rfl
 rw [List.findIdx_eq_length.2 e]
 simp
theorem UP (p:Prg) (fuel:Int) (s:Stt) (l:List Pck):ZN apply p fuel s l≤l.length:=by
 unfold ZN
 have:=List.findIdx_le_length (xs:=List.range l.length) (p:=fun j=>!YD apply p fuel s l j)
 simpa using this
theorem xW {p:Prg} {fuel:Int} {s:Stt} {l:List Pck} {i:Nat} (hi:i<ZN apply p fuel s l):YD apply p fuel s l i=true:=by
 have hl:i<(List.range l.length).length:=by have:=UP apply p fuel s l;simp;omega
 have:=List.not_of_lt_findIdx (xs:=List.range l.length) (p:=fun j=>!YD apply p fuel s l j) hi
 simpa using this
end
end Go.Eng
namespace Go.Eng
theorem Prg.Ok.eight {p:Prg} (h:p.Ok):p.vars.length≤8:=by have:=h.sizes;unfold Ze at this;omega
end Go.Eng
namespace Go.Eng
section
variable {apply:Int→Int→Int→Int × Int} (hap:wu apply) {p:Prg} (hok:p.Ok)
def QHX (d:Did) (g:Int):Stt:={ d.s with gos:=d.s.gos.set g.toNat { d.s.gor g with status:=4,why:=d.why,regs:=List.replicate 8 0 } }
theorem QC2 {s:Stt} {g:Int} {d:Did} (hg:0≤g∧g<s.count) (hd:VisOk p s g d) (hw:d.why≠0):Vld p (QHX d g):=by
 have hv:=hd.vld
 obtain ⟨h1,h2⟩:=hd.fail hw
 have hc:=hd.cnt
 have hG:=hv.gos g.toNat (by omega)
 have e:p.instr (d.s.gor g)=QA p s g:=by
  show (p.funcs.getD (d.s.gor g).func.toNat default).code.getD (d.s.gor g).pc.toNat default=_
  rw [hd.func,hd.pc];rfl
 refine hv.go (i:=g.toNat) (by omega) (X:={ d.s.gor g with status:=4,why:=d.why,regs:=List.replicate 8 0 }) ⟨⟨by show (1:Int)≤4;decide,by show (4:Int)≤5;decide⟩,⟨hG.inn.f0,hG.inn.f1,hG.inn.p0,hG.inn.p1,rfl⟩,fun k _ h8=>by show (List.replicate 8 (0:Int)).getD k 0=0;exact QIP 8 k,fun _=>?_,fun q=>absurd rfl q,fun q=>absurd (show (4:Int)=3 from q) (by decide),fun q=>absurd (show (4:Int)=5 from q) (by decide)⟩ (by have h1:(d.s.gos.getD g.toNat default).status=1:=h1;omega) (by show (4:Int)≠2;decide)
 show ZP (p.instr (d.s.gor g)).op d.why=true
 rw [e];exact h2
include hap in
theorem QKR {s:Stt} (hr:QP p=true) (hok:p.Ok) (hv:Vld p s) {x:Pck} (ha:x.alt∈Qj p s x.go) {fuel:Int} (hf:0≤fuel∧fuel≤4096):Vld p (take apply p s x fuel).1:=by
 have hg:=(live_iff.1 (Yq ha)).1
 have hd:=w4 hok hr hv ha
 unfold take
 simp only
 split
 · rename_i hw;exact QC2 hg hd hw
 · rename_i hw
   have hw:(QI p s x.go x.alt).why=0:=by simpa using hw
   split
   · exact hd.vld
   · rename_i ht
     have h1:=wX hg hd hw (by omega)
     have hc:=hd.cnt
     have h2:=xa hap hr hok h1 (g:=x.go) (fuel:=fuel) ⟨hg.1,by show x.go<(QI p s x.go x.alt).s.count;omega⟩ hf
     show Vld p (if _ then _ else _)
     refine wl (q:=Vld p) (fun q=>?_) (fun _=>h2)
     exact xa hap hr hok h2 ⟨by have:=hv.count;omega,q⟩ hf
include hap in
theorem QQt {s:Stt} (hr:QP p=true) (hok:p.Ok) (hv:Vld p s) {x:Pck} (ha:x.alt∈Qj p s x.go) {fuel:Int} (hf:0≤fuel∧fuel≤4096):Vld p (YV apply p s x fuel).1:=by
 unfold YV
 rw [if_neg (by omega),if_neg (by unfold has;rw [decide_eq_true ha];decide)]
 exact QKR hap hr hok hv ha hf
include hap in
theorem ya (hr:QP p=true) (hok:p.Ok) {fuel:Int} (hf:0≤fuel∧fuel≤4096):Vld p (QS apply p fuel).1:=by
 have hz:=yQ hok
 have h4:=hok.four
 have h8:=hok.eight
 unfold QS
 rw [if_neg (by rw [hr];decide),if_neg (by omega)]
 have hG:GorP p ⟨1,0,0,0,List.replicate 8 0⟩:=by
  have hi:=VY hok
  refine ⟨⟨by decide,by decide⟩,⟨hi.f0,hi.f1,hi.p0,hi.p1,rfl⟩,fun k _ h8=>by show (List.replicate 8 (0:Int)).getD k 0=0;exact QIP 8 k,fun q=>absurd (show (1:Int)=4 from q) (by decide),fun _=>rfl,fun q=>absurd (show (1:Int)=3 from q) (by decide),fun q=>absurd (show (1:Int)=5 from q) (by decide)⟩
 have hx:GorP p (Yb apply p zeroGor fuel)∧(Yb apply p zeroGor fuel).status≠2∧_:=qf hap hok fuel.toNat hG rfl
 have z4:∀ i:Nat,i<4→zeroStt.chans.getD i default=zeroChn:=by
  intro i hi
  rcases (show i=0∨i=1∨i=2∨i=3 by omega) with rfl|rfl|rfl|rfl<;>rfl
 have zg:∀ i:Nat,i<6→zeroStt.gos.getD i default=zeroGor:=by
  intro i hi
  rcases (show i=0∨i=1∨i=2∨i=3∨i=4∨i=5 by omega) with rfl|rfl|rfl|rfl|rfl|rfl<;>rfl
 refine ⟨⟨by simp [Zy],rfl,rfl,hz.shape.bufs,by show (List.set _ _ _).length=6;rw [List.length_set];rfl,wi hz.shape.regs hx.1.inn.regs 0⟩,⟨(by decide:(1:Int)≤1),(by decide:(1:Int)≤6)⟩,fun i hi=>?_,fun i h6 hi=>?_,fun i h1 h2=>?_,fun i hi=>?_,fun i hi=>?_,fun i h1 _=>z4 i h1,fun g hg h2=>?_⟩
 · have hi:(i:Int)<1:=hi
   have e:i=0:=by omega
   show GorP p ((zeroStt.gos.set 0 _).getD i default)
   rw [e,QW,if_pos ⟨rfl,by decide⟩]
   exact hx.1
 · have hi:(1:Int)≤i:=hi
   show (zeroStt.gos.set 0 _).getD i default=zeroGor
   rw [QW,if_neg (by omega)]
   exact zg i h6
 · show (Zy p p.vars.length).getD i 0=0
   unfold Zy
   rw [VQ h2,if_neg (by omega)]
 · have e:zeroStt.owner.getD i 0=0:=by rcases (show i=0∨i=1∨i=2∨i=3 by omega) with rfl|rfl|rfl|rfl<;>rfl
   show (0≤zeroStt.owner.getD i 0∧zeroStt.owner.getD i 0≤1)∧(p.locks≤(i:Int)→zeroStt.owner.getD i 0=0)
   rw [e];exact ⟨⟨by decide,by decide⟩,fun _=>rfl⟩
 · have e:=z4 i (by omega)
   have hcp:=hok.caps i
   show ChnP p _ 1 i (zeroStt.chans.getD i default)
   rw [e]
   exact ⟨⟨by show (0:Int)≤0;decide,hcp.1⟩,⟨by decide,by decide⟩,fun _=>rfl,fun k _ h4=>by show (List.replicate 4 (0:Int)).getD k 0=0;exact QIP 4 k,fun _=>⟨rfl,rfl⟩,fun q=>absurd rfl q,fun q=>absurd (show (0:Int)=1 from q) (by decide),fun q=>absurd (show (0:Int)=3 from q) (by decide),fun q=>absurd rfl q⟩
 · have hg:(g:Int)<1:=hg
   have e:g=0:=by omega
   have h2:((zeroStt.gos.set 0 _).getD g default).status=2:=h2
   rw [e,QW,if_pos ⟨rfl,by decide⟩] at h2
   exact absurd h2 hx.2.1
end
end Go.Eng
namespace Go.Eng.Tryz
open Go.RowKit Go.Eng
variable {w:World} {F:Nat→Prop}
theorem W2 (v:V) (cs:List Value) (h:Fits tab w F 77 v cs):∃ a:Bud,v=a.v:=by
 obtain ⟨l,rfl,hl⟩:=h.inv' QPH
 cases hl with|cons h1 hl=>cases hl with|cons h2 hl=>cases hl with|cons h3 hl=>cases hl with|nil =>
  obtain ⟨a1,_,rfl⟩:=Qo qS _ _ h1
  obtain ⟨a2,_,rfl⟩:=Qo qS _ _ h2
  obtain ⟨a3,_,rfl⟩:=Qo qS _ _ h3
  exact ⟨⟨a1,a2,a3⟩,rfl⟩
end Go.Eng.Tryz
namespace Go.Eng
section
variable {apply:Int→Int→Int→Int × Int} (hap:wu apply) {p:Prg}
theorem ready_mem {s:Stt} {x:Pck}:x∈ready p s↔(0≤x.go∧x.go<s.count)∧x.alt∈Qj p s x.go:=by
 unfold ready XG
 simp only [List.mem_flatMap,List.mem_range,List.mem_map]
 constructor
 · rintro ⟨g,hg,a,ha,rfl⟩
   exact ⟨by show 0≤(g:Int)∧(g:Int)<s.count;omega,ha⟩
 · rintro ⟨hg,ha⟩
   refine ⟨x.go.toNat,by omega,x.alt,?_,?_⟩
   · rw [show ((x.go.toNat:Nat):Int)=x.go by omega];exact ha
   · cases x;simp only [Pck.mk.injEq,and_true];simp only at hg;omega
theorem QBS {fuel:Int} {s:Stt} {l:List Pck} {j:Nat} (h:YD apply p fuel s l j=true):(l.getD j default).alt∈Qj p (QY apply p fuel s l j) (l.getD j default).go:=by
 unfold YD at h
 obtain ⟨y,hy,e⟩:=List.any_eq_true.1 h
 have e:=of_decide_eq_true e
 rw [e]
 exact (ready_mem.1 hy).2
include hap in
theorem VX (hr:QP p=true) (hok:p.Ok) {fuel:Int} (hf:0≤fuel∧fuel≤4096) {s:Stt} (hv:Vld p s) {l:List Pck}:∀ {n:Nat},n≤l.length→(∀ j,j<n→YD apply p fuel s l j=true)→Vld p (QY apply p fuel s l n)
 | 0,_,_=>by rw [WQ];exact hv
 | n+1,hn,h=>by
   rw [Uq apply p fuel s l (by omega)]
   exact QQt hap hr hok (VX hr hok hf hv (by omega) fun j hj=>h j (by omega)) (QBS (h n (by omega))) hf
end
end Go.Eng
namespace Go.Eng
theorem okAtR_iff {p:Prg} {fuel:Int} {s:Stt} {l:List Pck} {j:Nat}:YD QB p fuel s l j=true↔(l.getD j default).alt∈Qj p (QY QB p fuel s l j) (l.getD j default).go:=by
 refine ⟨QBS,fun h=>?_⟩
 unfold YD
 exact List.any_eq_true.2 ⟨_,ready_mem.2 ⟨(live_iff.1 (Yq h)).1,h⟩,by simp⟩
theorem zZ {p:Prg} (hr:QP p=true) {s:Stt} (hv:Vld p s):ZO p s=0:=by
 unfold ZO
 rw [hr,hv.ok (Prg.ok hr) hr]
 decide
theorem QFP {p:Prg} (hr:QP p=true) {fuel:Int} (hf:0≤fuel∧fuel≤4096) {s:Stt} {l:List Pck} {j:Nat} (hj:j<l.length) (hv:Vld p (QY QB p fuel s l j)) (h:YD QB p fuel s l j=true) :
 xQ p (QY QB p fuel s l j) (l.getD j default) fuel=(QY QB p fuel s l (j+1),Xi QB p fuel s l j,0):=by
 have ha:=okAtR_iff.1 h
 have h0:=zZ hr hv
 have hn:¬(fuel<0∨4096<fuel):=by omega
 have hh:YV QB p (QY QB p fuel s l j) (l.getD j default) fuel=((take QB p (QY QB p fuel s l j) (l.getD j default) fuel).1,(take QB p (QY QB p fuel s l j) (l.getD j default) fuel).2,0):=by
  have e:=WY h0 hn ha
  unfold xQ at e
  rw [if_neg (fun q=>q h0)] at e
  exact e
 rw [WY h0 hn ha,Uq QB p fuel s l hj,Xi,hh]
theorem QOb {p:Prg} (hr:QP p=true) {fuel:Int} (hf:0≤fuel∧fuel≤4096) {s:Stt} {l:List Pck} {j:Nat} (hv:Vld p (QY QB p fuel s l j)) (h:YD QB p fuel s l j=false) :
 xQ p (QY QB p fuel s l j) (l.getD j default) fuel=(zeroStt,zeroEvent,5) :=
 xB (zZ hr hv) (by omega) (fun ha=>by rw [okAtR_iff.2 ha] at h;cases h)
def Xc (p:Prg) (l:List Pck) (b:Bud):Nat × Stt × Int × Int :=
 let s0:=(QS QB p b.fuel).1
 if ZF p l.length b≠0 then (0,zeroStt,ZF p l.length b,0)
 else if b.steps<(l.length:Int) then (0,zeroStt,2,b.steps)
 else if ZN QB p b.fuel s0 l<l.length then (ZN QB p b.fuel s0 l,zeroStt,5,ZN QB p b.fuel s0 l)
 else (l.length,QY QB p b.fuel s0 l l.length,0,0)
theorem Vq {p:Prg} {n:Int} {b:Bud} (h:ZF p n b=0):QP p=true∧n≤256∧Yo b=true∧(0≤b.fuel∧b.fuel≤4096)∧(0≤b.steps∧b.steps≤256):=by
 unfold ZF at h
 split at h;· cases h
 rename_i h1
 split at h;· cases h
 rename_i h2
 split at h;· cases h
 rename_i h3
 have hb:Yo b=true:=by simpa using h3
 refine ⟨by simpa using h1,by omega,hb,?_⟩
 simp only [Yo,Bool.and_eq_true,decide_eq_true_eq] at hb
 omega
end Go.Eng
namespace Go.Eng
open Go.RowKit
variable {P:Program} {T:Tab} {w w':World} {w0:Base T} {F F':Nat→Prop} {ρ ρ':Nat→RI} {σ σ':St} {outs:List (Array Value)}
theorem CallE.cut {f:FuncId} {es:List E} {K:St→E→Prop} (k:Nat) (h:CallE P T σ f es fun σ' e=>(σ'.under k=true∧e.under k=true)∧K { σ' with ob:=σ'.ob.take k } e):CallE P T σ f es K:=by
 obtain ⟨hE,h⟩:=h
 refine ⟨hE,fun w0 w F ρ tmps outs xs hR hx=>(h w0 w F ρ tmps outs xs hR hx).mono ?_⟩
 rintro en w' ⟨v,σ',e,F',ρ',rfl,⟨⟨hu,he⟩,hK⟩,hv,hR'⟩
 have hT:TmRel T w' F' ρ' [(0,true,e)] #[v]:=by
  intro t g e' ht
  by_cases h0:t=0
  · subst h0
    simp at ht
    obtain ⟨rfl,rfl⟩:=ht
    exact ⟨v,rfl,fun _=>hv,fun h=>by cases h⟩
  · have:(t == 0)=false:=by simpa using h0
    simp [List.lookup_cons,this] at ht
 have hR2:Rel T w' F' ρ' w0 { σ' with out:=[(0,true,e)]::σ'.out } tmps (#[v]::outs) :=
  ⟨hR'.tm,⟨hT,hR'.out⟩,hR'.ob,hR'.free,hR'.inj,hR'.fsub,hR'.below,hR'.size,hR'.fold⟩
 have hu2:St.under k { σ' with out:=[(0,true,e)]::σ'.out }=true:=by
  simp only [St.under,Bool.and_eq_true] at hu ⊢
  exact ⟨⟨hu.1.1,by simp only [Q7,Tm.under,he,Bool.true_and];exact hu.1.2⟩,hu.2⟩
 obtain ⟨F2,ρ2,hR3⟩:=WN (T:=T) k hu2 _ _ _ _ _ _ hR2
 obtain ⟨y,hy,hy2,_⟩:=hR3.out.1 0 true e (by simp)
 have:y=v:=by simpa using hy.symm
 subst this
 exact ⟨y,_,e,F2,ρ2,rfl,hK,hy2 rfl,⟨hR3.tm,hR3.out.2,hR3.ob,hR3.free,hR3.inj,hR3.fsub,hR3.below,hR3.size,hR3.fold⟩⟩
mutual
theorem E.under_mono {k m:Nat} (hkm:k≤m):∀ {e:E},e.under k=true→e.under m=true
 | .int _ _,_=>rfl
 | .bool _,_=>rfl
 | .str _,_=>rfl
 | .data _ _,_=>rfl
 | .fs _ _ _,_=>rfl
 | .sl i e lo n c,h=>by
   have:i<k:=by simpa [E.under] using h
   simp [E.under];omega
 | .nilsl,_=>rfl
 | .ptr i p t,h=>by
   have:i<k:=by simpa [E.under] using h
   simp [E.under];omega
 | .rp i j p t,h=>by
   have:i<k:=by simpa [E.under] using h
   simp [E.under];omega
 | .av i p t j,h=>by
   have:i<k:=by simpa [E.under] using h
   simp [E.under];omega
 | .fptr _ _,_=>rfl
 | .fn _ caps,h=>by
   have h':E.underL k caps=true:=by simpa [E.under] using h
   simpa [E.under] using E.underL_mono hkm h'
 | .nilfn,_=>rfl
 | .tup m',h=>by
   have h':E.underL k m'=true:=by simpa [E.under] using h
   simpa [E.under] using E.underL_mono hkm h'
 | .agg _ m',h=>by
   have h':E.underL k m'=true:=by simpa [E.under] using h
   simpa [E.under] using E.underL_mono hkm h'
 | .undef,_=>rfl
theorem E.underL_mono {k m:Nat} (hkm:k≤m):∀ {l:List E},E.underL k l=true→E.underL m l=true
 | [],_=>rfl
 | e::l,h=>by
   simp only [E.underL,Bool.and_eq_true] at h ⊢
   exact ⟨E.under_mono hkm h.1,E.underL_mono hkm h.2⟩
end
theorem Tm.under_mono {k m:Nat} (hkm:k≤m):∀ {tm:Tm},Tm.under k tm=true→Tm.under m tm=true
 | [],_=>rfl
 | x::tm,h=>by
   simp only [Tm.under,Bool.and_eq_true] at h ⊢
   exact ⟨E.under_mono hkm h.1,Tm.under_mono hkm h.2⟩
theorem UJ {k m:Nat} (hkm:k≤m):∀ {l:List Tm},Q7 k l=true→Q7 m l=true
 | [],_=>rfl
 | x::l,h=>by
   simp only [Q7,Bool.and_eq_true] at h ⊢
   exact ⟨Tm.under_mono hkm h.1,UJ hkm h.2⟩
theorem Z8 {k m:Nat} (hkm:k≤m):∀ {l:List Obj},Qk k l=true→Qk m l=true
 | [],_=>rfl
 | .var _ e::l,h=>by
   simp only [Qk,Bool.and_eq_true] at h ⊢
   exact ⟨E.under_mono hkm h.1,Z8 hkm h.2⟩
 | .erow _ e::l,h=>by
   simp only [Qk,Bool.and_eq_true] at h ⊢
   exact ⟨E.underL_mono hkm h.1,Z8 hkm h.2⟩
 | .row _ _::l,h=>by
   simp only [Qk] at h ⊢
   exact Z8 hkm h
 | .dead::l,h=>by
   simp only [Qk] at h ⊢
   exact Z8 hkm h
theorem Qm (k:Nat):∀ a b:List Obj,Qk k (a++b)=(Qk k a&&Qk k b)
 | [],_=>rfl
 | .var _ e::l,b=>by simp only [List.cons_append,Qk,Qm k l b,Bool.and_assoc]
 | .erow _ e::l,b=>by simp only [List.cons_append,Qk,Qm k l b,Bool.and_assoc]
 | .row _ _::l,b=>by simp only [List.cons_append,Qk,Qm k l b]
 | .dead::l,b=>by simp only [List.cons_append,Qk,Qm k l b]
section
variable {α:Type} {X L:List α} {N:Nat}
theorem QAt (h:X.length=N) (j:Nat):(X++L)[N+j]?=L[j]?:=by rw [List.getElem?_append_right (by omega),h,Nat.add_sub_cancel_left]
theorem yv (h:X.length=N):(X++L)[N]?=L[0]?:=QAt h 0
theorem QDl (h:X.length=N) (j:Nat) (o:α):(X++L).set (N+j) o=X++L.set j o:=by rw [List.set_append_right _ _ (by omega),h,Nat.add_sub_cancel_left]
theorem vO (h:X.length=N) (o:α):(X++L).set N o=X++L.set 0 o:=QDl h 0 o
theorem Ww (h:X.length=N):(X++L).take N=X:=by rw [← h,List.take_left]
theorem W7 (h:X.length=N) (j:Nat):(X++L).take (N+j)=X++L.take j:=by rw [← h,List.take_length_add_append]
end
end Go.Eng
