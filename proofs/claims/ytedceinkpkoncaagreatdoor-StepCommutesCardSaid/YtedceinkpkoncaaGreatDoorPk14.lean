/- A part of the proof: walks through the program's functions, and what they compute. -/
import Derived.Test.YtedceinkpkoncaaGreatDoorPk13
import Derived.Test.YtedceinkpkoncaaGreatDoorPk12
set_option linter.unusedSimpArgs false
set_option linter.unusedVariables false
namespace Go.Eng
theorem getD_all {α:Type} [Inhabited α] {q:α→Prop} {l:List α} (h:∀ x∈l,q x) (h0:q default) (i:Nat):q (l.getD i default):=by
 by_cases hi:i<l.length
 · exact h _ (getD_mem l hi)
 · rw [List.getD_eq_getElem?_getD,List.getElem?_eq_none (Nat.le_of_not_lt hi)];exact h0
theorem Prg.code_len {p:Prg} (h:p.Fit) (i:Nat):(p.funcs.getD i default).code.length≤maxLen:=getD_all (q:=fun f:Fnc=>f.code.length≤maxLen) (fun f hf=>(h.2.2.2 f hf).1) (by decide) i
theorem Prg.sels_len {p:Prg} (h:p.Fit) (i:Nat):(p.funcs.getD i default).sels.length≤maxLen:=getD_all (q:=fun f:Fnc=>f.sels.length≤maxLen) (fun f hf=>(h.2.2.2 f hf).2.1) (by decide) i
structure Prg.Ok (p:Prg):Prop where
 sizes:Sizes p
 caps:∀ i:Nat,0≤p.chans.getD i 0∧p.chans.getD i 0≤4
 regs:∀ i:Nat,0≤(p.funcs.getD i default).regs∧(p.funcs.getD i default).regs≤8
 params:∀ i:Nat,0≤(p.funcs.getD i default).params∧(p.funcs.getD i default).params≤(p.funcs.getD i default).regs
 main:(p.funcs.getD 0 default).params=0
 code:∀ i:Nat,i<p.funcs.length→1≤(p.funcs.getD i default).code.length∧(p.funcs.getD i default).code.length≤64
 short:∀ i j:Nat,j<(p.funcs.getD i default).sels.length→1≤((p.funcs.getD i default).sels.getD j default).cases.length∧((p.funcs.getD i default).sels.getD j default).cases.length≤4
 instr:∀ i j:Nat,i<p.funcs.length→j<(p.funcs.getD i default).code.length→instrErr p (p.funcs.getD i default) ((p.funcs.getD i default).code.getD j default)=0
 sels:∀ i j:Nat,i<p.funcs.length→j<(p.funcs.getD i default).sels.length→selErr p (p.funcs.getD i default) ((p.funcs.getD i default).sels.getD j default)=0
 last:∀ i:Nat,i<p.funcs.length→lastOk (p.funcs.getD i default)=true
theorem Prg.ok {p:Prg} (h:rightP p=true):p.Ok:=by
 simp only [rightP,decide_eq_true_eq] at h
 unfold checkP at h
 split at h;· cases h
 rename_i hs
 split at h;· cases h
 rename_i hc
 have hf:∀ i:Nat,i<p.funcs.length→funcErr p i (p.funcs.getD i default)=0:=by
  intro i hi
  have:=firstNZ_zero.1 h (funcErr p i (p.fn i)) (List.mem_map.2 ⟨i,by simpa using hi,rfl⟩)
  rwa [fn_nat] at this
 have hform:∀ i:Nat,i<p.funcs.length→formed i (p.funcs.getD i default)=true∧selsErr p (p.funcs.getD i default) (p.funcs.getD i default).sels.length=0∧codeErr p (p.funcs.getD i default) (p.funcs.getD i default).code.length=0∧lastOk (p.funcs.getD i default)=true:=by
  intro i hi
  have:=hf i hi
  unfold funcErr at this
  split at this;· cases this
  rename_i h1
  split at this;· rename_i h2;exact absurd this h2
  rename_i h2
  split at this;· rename_i h3;exact absurd this h3
  rename_i h3
  split at this
  · rename_i h4;exact ⟨by simpa using h1,by simpa using h2,by simpa using h3,h4⟩
  · cases this
 have hout:∀ i:Nat,¬ i<p.funcs.length→p.funcs.getD i default=default:=by
  intro i hi
  rw [List.getD_eq_getElem?_getD,List.getElem?_eq_none (Nat.le_of_not_lt hi)];rfl
 refine ⟨hs,fun i=>?_,fun i=>?_,fun i=>?_,?_,fun i hi=>?_,fun i j hj=>?_,fun i j hi hj=>?_,fun i j hi hj=>?_,fun i hi=>(hform i hi).2.2.2⟩
 · have hc':capsErr p p.chans.length=true:=by simpa using hc
   unfold capsErr at hc'
   rw [List.take_length,List.all_eq_true] at hc'
   exact getD_all (q:=fun c:Int=>0≤c∧c≤4) (fun c hc=>by simpa using hc' c hc) (by decide) i
 · by_cases hi:i<p.funcs.length
   · have:=(formed_len (hform i hi).1).1;omega
   · rw [hout i hi];decide
 · by_cases hi:i<p.funcs.length
   · have:=(formed_len (hform i hi).1).1;omega
   · rw [hout i hi];decide
 · have:=(formed_len (hform 0 (by omega)).1).1;exact this.2.2.2.2 rfl
 · have:=formed_len (hform i hi).1;exact ⟨this.2.1,this.2.2.1⟩
 · by_cases hi:i<p.funcs.length
   · have:=(formed_len (hform i hi).1).2.2.2.2
     unfold selsShort at this
     rw [List.take_length,List.all_eq_true] at this
     have:=this _ (getD_mem _ hj)
     simp only [Bool.and_eq_true,decide_eq_true_eq] at this
     exact this
   · rw [hout i hi] at hj;exact absurd hj (by simp [show (default:Fnc).sels=[] from rfl])
 · have:=(hform i hi).2.2.1
   unfold codeErr at this
   rw [List.take_length] at this
   exact firstNZ_zero.1 this _ (List.mem_map.2 ⟨_,getD_mem _ hj,rfl⟩)
 · have:=(hform i hi).2.1
   unfold selsErr at this
   rw [List.take_length] at this
   exact firstNZ_zero.1 this _ (List.mem_map.2 ⟨_,getD_mem _ hj,rfl⟩)
def gorM (p:Prg) (g:Gor):Int:=if g.status=3∨g.status=4 then 0 else (p.fn g.func).regs
def gorR (p:Prg) (g:Gor):Prop:=((((1≤g.status∧g.status≤5)∧0≤g.func)∧g.func<(p.funcs.length:Int))∧0≤g.pc)∧g.pc<((p.funcs.getD g.func.toNat default).code.length:Int)
theorem gorOk_range {p:Prg} {g:Gor} (h:¬gorR p g):gorOk p g=false:=by
 unfold gorOk
 rw [if_pos]
 unfold gorR at h
 unfold Prg.fn
 omega
theorem gorOk_in {p:Prg} {g:Gor} (h:gorR p g):gorOk p g=if regsZero g (gorM p g) 8=false then false else if g.status=4 then failing ((p.funcs.getD g.func.toNat default).code.getD g.pc.toNat default).op g.why
 else decide (g.why=0)&&(decide (g.status≠3)||decide (((p.funcs.getD g.func.toNat default).code.getD g.pc.toNat default).op=45))&&(decide (g.status≠5)||isLocal ((p.funcs.getD g.func.toNat default).code.getD g.pc.toNat default).op):=by
 unfold gorOk
 rw [if_neg]
 · rfl
 · unfold gorR at h
   unfold Prg.fn
   omega
theorem regs_bad {g:Gor} {m i:Int} (h1:m≤i) (h2:0≤i) (h3:i<8) (h4:¬g.regs.getD i.toNat 0=0):regsZero g m 8=false:=by
 refine all_range_false (i:=i.toNat) (by omega) ?_
 simp only [h4,decide_false,Bool.or_false,decide_eq_false_iff_not]
 omega
theorem chanOk_eq (p:Prg) (s:Stt) (m:Int):chanOk p s m =
 if (s.chans.getD m.toNat default).len<0∨p.chans.getD m.toNat 0<(s.chans.getD m.toNat default).len∨(s.chans.getD m.toNat default).offer<0∨3<(s.chans.getD m.toNat default).offer∨(p.chans.getD m.toNat 0≠0∧(s.chans.getD m.toNat default).offer≠0) then false
 else if bufZero (s.chans.getD m.toNat default) 4=false then false
 else if (s.chans.getD m.toNat default).offer=0 then decide ((s.chans.getD m.toNat default).from_=0)&&decide ((s.chans.getD m.toNat default).val=0)
 else if ((s.chans.getD m.toNat default).offer≠1∧(s.chans.getD m.toNat default).val≠0)∨((s.chans.getD m.toNat default).offer=1∧(s.chans.getD m.toNat default).closed=true)∨((s.chans.getD m.toNat default).offer=3∧(s.chans.getD m.toNat default).closed=false) then false
 else if (s.chans.getD m.toNat default).from_<0∨s.count≤(s.chans.getD m.toNat default).from_∨(s.gos.getD (s.chans.getD m.toNat default).from_.toNat default).status≠2 then false
 else decide (((p.funcs.getD (s.gos.getD (s.chans.getD m.toNat default).from_.toNat default).func.toNat default).code.getD (s.gos.getD (s.chans.getD m.toNat default).from_.toNat default).pc.toNat default).op=58) &&
  decide (((p.funcs.getD (s.gos.getD (s.chans.getD m.toNat default).from_.toNat default).func.toNat default).code.getD (s.gos.getD (s.chans.getD m.toNat default).from_.toNat default).pc.toNat default).a=m):=rfl
theorem buf_bad {c:Chn} {i:Int} (h1:c.len≤i) (h2:0≤i) (h3:i<4) (h4:¬c.buf.getD i.toNat 0=0):bufZero c 4=false:=by
 refine all_range_false (i:=i.toNat) (by omega) ?_
 simp only [h4,decide_false,Bool.or_false,decide_eq_false_iff_not]
 omega
theorem buf_good {c:Chn} (h:∀ k:Nat,c.len≤k→(k:Int)<4→c.buf.getD k 0=0):bufZero c 4=true:=by
 unfold bufZero
 rw [List.all_eq_true]
 intro k hk
 have hk:k<4:=by simpa using hk
 by_cases h1:(k:Int)<c.len
 · simp [h1]
 · have:=h k (by omega) (by omega)
   simp only [this,decide_true,Bool.or_true]
theorem gorOk_R {p:Prg} {g:Gor} (h:gorOk p g=true):gorR p g:=by
 by_cases hr:gorR p g
 · exact hr
 · rw [gorOk_range hr] at h;cases h
theorem gorsOk_at {p:Prg} {s:Stt} (h:gorsOk p s 6=true) {i:Int} (h0:0≤i) (h6:i<6) (hc:i<s.count):gorOk p (s.gos.getD i.toNat default)=true:=by
 unfold gorsOk at h
 rw [List.all_eq_true] at h
 have:=h i.toNat (by simp;omega)
 rw [if_pos (by omega)] at this
 exact this
theorem regs_good {g:Gor} {m:Int} (h:∀ k:Nat,m≤k→(k:Int)<8→g.regs.getD k 0=0):regsZero g m 8=true:=by
 unfold regsZero
 rw [List.all_eq_true]
 intro k hk
 have hk:k<8:=by simpa using hk
 by_cases h1:(k:Int)<m
 · simp [h1]
 · have:=h k (by omega) (by omega)
   simp only [this,decide_true,Bool.or_true]
theorem gors_succ {p:Prg} {s:Stt} {i:Nat} (hz:gorsOk p s i=true) (h:((i:Int)<s.count→gorOk p (s.gos.getD i default)=true)∧(s.count≤(i:Int)→s.gos.getD i default=zeroGor)):gorsOk p s (i+1)=true:=by
 unfold gorsOk at *
 rw [all_range_succ,hz,Bool.true_and]
 simp only [Stt.gor,Int.toNat_natCast]
 by_cases hc:(i:Int)<s.count
 · rw [if_pos hc];exact h.1 hc
 · rw [if_neg hc];exact decide_eq_true (h.2 (by omega))
theorem gors_bad {p:Prg} {s:Stt} {i:Nat} (hi:i<6) (h:(i:Int)<s.count∧gorOk p (s.gos.getD i default)=false∨s.count≤(i:Int)∧¬s.gos.getD i default=zeroGor):gorsOk p s 6=false:=by
 refine all_range_false hi ?_
 simp only [Stt.gor,Int.toNat_natCast]
 by_cases hc:(i:Int)<s.count
 · rw [if_pos hc]
   rcases h with h|h
   · exact h.2
   · omega
 · rw [if_neg hc]
   rcases h with h|h
   · omega
   · exact decide_eq_false h.2
theorem vars_good {p:Prg} {s:Stt} (h:∀ k:Nat,p.vars.length≤k→k<8→s.vars.getD k 0=0):varsOk p s 8=true:=by
 unfold varsOk
 rw [List.all_eq_true]
 intro k hk
 have hk:k<8:=by simpa using hk
 by_cases h1:k<p.vars.length
 · rw [decide_eq_true h1];rfl
 · rw [decide_eq_true (h k (by omega) hk),Bool.or_true]
theorem vars_bad {p:Prg} {s:Stt} {i:Nat} (h1:p.vars.length≤i) (hi:i<8) (h:¬s.vars.getD i 0=0):varsOk p s 8=false:=by
 refine all_range_false hi ?_
 rw [decide_eq_false h,decide_eq_false (by omega)];rfl
theorem own_at {p:Prg} {s:Stt} {i:Nat}:ownOk p s i=true↔(0≤s.owner.getD i 0∧s.owner.getD i 0≤s.count)∧(p.locks≤(i:Int)→s.owner.getD i 0=0):=by
 unfold ownOk
 rw [Bool.and_eq_true,Bool.and_eq_true,Bool.or_eq_true,decide_eq_true_eq,decide_eq_true_eq,decide_eq_true_eq,decide_eq_true_eq]
 omega
theorem own_succ {p:Prg} {s:Stt} {i:Nat} (hz:ownersOk p s i=true) (h:(0≤s.owner.getD i 0∧s.owner.getD i 0≤s.count)∧(p.locks≤(i:Int)→s.owner.getD i 0=0)):ownersOk p s (i+1)=true:=by
 unfold ownersOk at *
 rw [all_range_succ,hz,own_at.2 h];rfl
theorem own_bad {p:Prg} {s:Stt} {i:Nat} (hi:i<4) (h:(s.owner.getD i 0<0∨s.count<s.owner.getD i 0)∨p.locks≤(i:Int)∧¬s.owner.getD i 0=0):ownersOk p s 4=false:=by
 refine all_range_false hi ?_
 rw [Bool.eq_false_iff,Ne,own_at]
 omega
theorem chans_succ {p:Prg} {s:Stt} {i:Nat} (hz:chansOk p s i=true) (h:(p.chans.length≤i→s.chans.getD i default=zeroChn)∧(i<p.chans.length→chanOk p s i=true)):chansOk p s (i+1)=true:=by
 unfold chansOk at *
 rw [all_range_succ,hz,Bool.true_and]
 simp only [Stt.chn,Int.toNat_natCast]
 by_cases hc:i<p.chans.length
 · rw [if_pos hc];exact h.2 hc
 · rw [if_neg hc];exact decide_eq_true (h.1 (by omega))
theorem chans_bad {p:Prg} {s:Stt} {i:Nat} (hi:i<4) (h:p.chans.length≤i∧¬s.chans.getD i default=zeroChn∨i<p.chans.length∧chanOk p s i=false):chansOk p s 4=false:=by
 refine all_range_false hi ?_
 simp only [Stt.chn,Int.toNat_natCast]
 by_cases hc:i<p.chans.length
 · rw [if_pos hc]
   rcases h with h|h
   · omega
   · exact h.2
 · rw [if_neg hc]
   rcases h with h|h
   · exact decide_eq_false h.2
   · omega
theorem chn_nat (s:Stt) (j:Nat):s.chans.getD j default=s.chn (j:Int):=by simp only [Stt.chn,Int.toNat_natCast]
theorem offers_hit {s:Stt} {g:Int} {j:Nat} (h:¬(s.chans.getD j default).offer=0∧(s.chans.getD j default).from_=g):offersTo s g (j+1)=offersTo s g j+1:=by
 rw [chn_nat] at h
 unfold offersTo
 rw [List.range_succ,List.filter_append,List.length_append]
 congr 1
 simp only [List.filter_cons,List.filter_nil]
 rw [show decide ((s.chn (j:Int)).offer≠0)=true from decide_eq_true h.1,decide_eq_true h.2];rfl
theorem offers_miss {s:Stt} {g:Int} {j:Nat} (h:¬(s.chans.getD j default).offer=0→¬(s.chans.getD j default).from_=g):offersTo s g (j+1)=offersTo s g j:=by
 rw [chn_nat] at h
 unfold offersTo
 rw [List.range_succ,List.filter_append,List.length_append]
 simp only [List.filter_cons,List.filter_nil]
 by_cases h0:(s.chn (j:Int)).offer=0
 · rw [show decide ((s.chn (j:Int)).offer≠0)=false from decide_eq_false (fun q=>q h0)];rfl
 · rw [show decide ((s.chn (j:Int)).offer≠0)=true from decide_eq_true h0,decide_eq_false (h h0)];rfl
theorem offers_le (s:Stt) (g:Int) (j:Nat):offersTo s g j≤j:=by
 unfold offersTo;exact Nat.le_trans (List.length_filter_le _ _) (by simp)
theorem gor_nat (s:Stt) (j:Nat):s.gos.getD j default=s.gor (j:Int):=by simp only [Stt.gor,Int.toNat_natCast]
theorem waits_succ {s:Stt} {i:Nat} (hz:waitsOk s i=true) (h:(s.gos.getD i default).status=2→(offersTo s i 4:Int)=1):waitsOk s (i+1)=true:=by
 rw [gor_nat] at h
 unfold waitsOk at *
 rw [all_range_succ,hz,Bool.true_and]
 by_cases hs:(s.gor (i:Int)).status=2
 · have:=h hs
   rw [decide_eq_true (show offersTo s i 4=1 by omega),Bool.or_true]
 · rw [show decide ((s.gor (i:Int)).status≠2)=true from decide_eq_true hs];rfl
theorem waits_bad {s:Stt} {n i:Nat} (hi:i<n) (h:(s.gos.getD i default).status=2∧¬(offersTo s i 4:Int)=1):waitsOk s n=false:=by
 rw [gor_nat] at h
 refine all_range_false hi ?_
 rw [show decide ((s.gor (i:Int)).status≠2)=false from decide_eq_false (fun q=>q h.1),decide_eq_false (show ¬offersTo s i 4=1 by omega)];rfl
end Go.Eng
namespace Go.Eng
structure Edge where
 from_:Int
 to_:Int
 go:Int
 event:Int
 deriving DecidableEq,Inhabited
def Edge.v (e:Edge):V:=.agg [.int e.from_,.int e.to_,.int e.go,.int e.event]
theorem Edge.v0 (e:Edge):e.v.toList.getD 0 default=.int e.from_:=rfl
theorem Edge.v1 (e:Edge):e.v.toList.getD 1 default=.int e.to_:=rfl
theorem Edge.v2 (e:Edge):e.v.toList.getD 2 default=.int e.go:=rfl
theorem Edge.v3 (e:Edge):e.v.toList.getD 3 default=.int e.event:=rfl
theorem Event.v3 (e:Event):e.v.toList.getD 3 default=.int e.op:=rfl
theorem Event.v5 (e:Event):e.v.toList.getD 5 default=.int e.val:=rfl
theorem rows_get {α:Type} {n i:Nat} (h:i<n) (f:Nat→α):((List.range n).map f)[i]?=some (f i):=by simp [h]
theorem rows_getD {α:Type} {n i:Nat} (h:i<n) (f:Nat→α) (d:α):((List.range n).map f).getD i d=f i:=by simp [List.getD_eq_getElem?_getD,h]
theorem rows_set {α:Type} {n i:Nat} (h:i<n) (f:Nat→α) (x:α):((List.range n).map f).set i x=(List.range n).map fun k=>if k=i then x else f k:=by
 apply List.ext_getElem?
 intro k
 by_cases hk:k<n
 · by_cases hki:k=i
   · subst hki;simp [hk]
   · rw [List.getElem?_set_ne (Ne.symm hki)];simp [hk,hki]
 · rw [List.getElem?_eq_none (by simp;omega),List.getElem?_eq_none (by simp;omega)]
def firstLock:List Access→Int
 | [] => -1
 | a::l=>if a.kind=2 then a.num else firstLock l
def lockOf (e:Event):Int:=firstLock (e.touch.take e.touches.toNat)
def lockStep (l:List Bool) (e:Event):List Bool :=
 if lockOf e<0 then l else if e.op=55∨(e.op=57∧e.val=1) then l.set (lockOf e).toNat true else if e.op=56 then l.set (lockOf e).toNat false else l
def locksTo (t:List Event) (i:Nat) (g:Int):List Bool:=((t.take i).filter fun e=>decide (e.go=g)).foldl lockStep (List.replicate 4 false)
def heldOf (t:List Event) (i:Nat):List Bool:=locksTo t i (t.getD i default).go
theorem locksTo_zero (t:List Event) (g:Int):locksTo t 0 g=List.replicate 4 false:=rfl
theorem locksTo_succ (t:List Event) {i:Nat} (h:i<t.length) (g:Int):locksTo t (i+1) g=if (t.getD i default).go=g then lockStep (locksTo t i g) (t.getD i default) else locksTo t i g:=by
 unfold locksTo
 have e:t.getD i default=t[i]:=by simp [List.getD_eq_getElem?_getD,h]
 rw [e,List.take_succ_eq_append_getElem h,List.filter_append,List.foldl_append]
 by_cases hg:t[i].go=g
 · simp [hg]
 · simp [hg]
theorem lockStep_len (l:List Bool) (e:Event):(lockStep l e).length=l.length:=by
 unfold lockStep
 repeat' split
 all_goals simp
theorem foldl_len (m:List Event):∀ l:List Bool,(m.foldl lockStep l).length=l.length:=by
 induction m with
 | nil=>intro l;rfl
 | cons e m ih=>intro l;rw [List.foldl_cons,ih,lockStep_len]
theorem locksTo_len (t:List Event) (i:Nat) (g:Int):(locksTo t i g).length=4:=by
 unfold locksTo;rw [foldl_len];rfl
def numsOf (l:List Bool) (n:Nat):List Int:=((List.range n).filter fun k=>l.getD k false).map fun (k:Nat)=>(k:Int)
end Go.Eng
namespace Go.Eng
theorem set_ints (l:List Int) (i:Nat) (x:Int):(l.map V.int).set i (.int x)=(l.set i x).map V.int:=(List.map_set ..).symm
theorem set_gors (l:List Gor) (i:Nat) (x:Gor):(l.map Gor.v).set i x.v=(l.set i x).map Gor.v:=(List.map_set ..).symm
theorem set_chns (l:List Chn) (i:Nat) (x:Chn):(l.map Chn.v).set i x.v=(l.set i x).map Chn.v:=(List.map_set ..).symm
theorem Gor.put0 (g:Gor) (x:Int):V.setSub g.v 0 (.int x)=Gor.v ⟨x,g.func,g.pc,g.why,g.regs⟩:=rfl
theorem Gor.put1 (g:Gor) (x:Int):V.setSub g.v 1 (.int x)=Gor.v ⟨g.status,x,g.pc,g.why,g.regs⟩:=rfl
theorem Gor.put2 (g:Gor) (x:Int):V.setSub g.v 2 (.int x)=Gor.v ⟨g.status,g.func,x,g.why,g.regs⟩:=rfl
theorem Gor.put3 (g:Gor) (x:Int):V.setSub g.v 3 (.int x)=Gor.v ⟨g.status,g.func,g.pc,x,g.regs⟩:=rfl
theorem Gor.put4 (g:Gor) (x:List Int):V.setSub g.v 4 (.agg (x.map V.int))=Gor.v ⟨g.status,g.func,g.pc,g.why,x⟩:=rfl
theorem Chn.put0 (c:Chn) (x:List Int):V.setSub c.v 0 (.agg (x.map V.int))=Chn.v ⟨x,c.len,c.closed,c.offer,c.from_,c.val⟩:=rfl
theorem Chn.put1 (c:Chn) (x:Int):V.setSub c.v 1 (.int x)=Chn.v ⟨c.buf,x,c.closed,c.offer,c.from_,c.val⟩:=rfl
theorem Chn.put2 (c:Chn) (x:Bool):V.setSub c.v 2 (.bool x)=Chn.v ⟨c.buf,c.len,x,c.offer,c.from_,c.val⟩:=rfl
theorem Chn.put3 (c:Chn) (x:Int):V.setSub c.v 3 (.int x)=Chn.v ⟨c.buf,c.len,c.closed,x,c.from_,c.val⟩:=rfl
theorem Chn.put4 (c:Chn) (x:Int):V.setSub c.v 4 (.int x)=Chn.v ⟨c.buf,c.len,c.closed,c.offer,x,c.val⟩:=rfl
theorem Chn.put5 (c:Chn) (x:Int):V.setSub c.v 5 (.int x)=Chn.v ⟨c.buf,c.len,c.closed,c.offer,c.from_,x⟩:=rfl
theorem Stt.put0 (s:Stt) (x:List Int):V.setSub s.v 0 (.agg (x.map V.int))=Stt.v ⟨x,s.owner,s.chans,s.gos,s.count⟩:=rfl
theorem Stt.put1 (s:Stt) (x:List Int):V.setSub s.v 1 (.agg (x.map V.int))=Stt.v ⟨s.vars,x,s.chans,s.gos,s.count⟩:=rfl
theorem Stt.put2 (s:Stt) (x:List Chn):V.setSub s.v 2 (.agg (x.map Chn.v))=Stt.v ⟨s.vars,s.owner,x,s.gos,s.count⟩:=rfl
theorem Stt.put3 (s:Stt) (x:List Gor):V.setSub s.v 3 (.agg (x.map Gor.v))=Stt.v ⟨s.vars,s.owner,s.chans,x,s.count⟩:=rfl
theorem Stt.put4 (s:Stt) (x:Int):V.setSub s.v 4 (.int x)=Stt.v ⟨s.vars,s.owner,s.chans,s.gos,x⟩:=rfl
attribute [go_sem] set_ints set_gors set_chns Gor.put0 Gor.put1 Gor.put2 Gor.put3 Gor.put4 Chn.put0 Chn.put1 Chn.put2 Chn.put3 Chn.put4 Chn.put5 Stt.put0 Stt.put1 Stt.put2 Stt.put3 Stt.put4
theorem instr_oper {p:Prg} {f:Fnc} {i:Instr} (h:instrErr p f i=0):(isLocal i.op=true∨isVisible i.op=true)∧∀ j:Nat,j<4→operandErr p f (letterAt i j) (i.field j) i=0:=by
 unfold instrErr at h
 split at h;· cases h
 rename_i h1
 split at h;· cases h
 refine ⟨?_,fun j hj=>?_⟩
 · cases h2:isLocal i.op
   · right
     cases h3:isVisible i.op
     · exact absurd ⟨h2,h3⟩ h1
     · rfl
   · exact .inl rfl
 · exact firstNZ_zero.1 h _ (List.mem_map.2 ⟨j,by simpa using hj,rfl⟩)
theorem within_iff {x n:Int}:within x n=true↔0≤x∧x<n:=by simp [within]
theorem oper_reg {p:Prg} {f:Fnc} {i:Instr} {l x:Int} (h:operandErr p f l x i=0) (hl:l=114∨l=119):0≤x∧x<f.regs:=by
 unfold operandErr at h
 rw [if_pos hl] at h
 split at h
 · rename_i hw;exact within_iff.1 hw
 · cases h
theorem oper_opt {p:Prg} {f:Fnc} {i:Instr} {l x:Int} (h:operandErr p f l x i=0) (hl:l=111):x = -1∨0≤x∧x<f.regs:=by
 subst hl
 unfold operandErr at h
 rw [if_neg (by decide),if_pos rfl] at h
 split at h
 · cases h
 · rename_i hw
   rw [within_false] at hw
   omega
theorem oper_code {p:Prg} {f:Fnc} {i:Instr} {l x:Int} (h:operandErr p f l x i=0) (hl:l=116):0≤x∧x<(f.code.length:Int):=by
 subst hl
 unfold operandErr at h
 rw [if_neg (by decide),if_neg (by decide),if_neg (by decide),if_neg (by decide),if_neg (by decide),if_neg (by decide),if_neg (by decide),if_neg (by decide),if_neg (by decide),if_pos rfl] at h
 split at h
 · rename_i hw;exact within_iff.1 hw
 · cases h
theorem form1 {op:Int} (h1:1≤op) (h2:op≤15):formL op=[114,114,45,45]:=by unfold formL;rw [if_pos ⟨h1,h2⟩]
theorem form2 {op:Int} (h1:16≤op) (h2:op≤36):formL op=[114,114,114,45]:=by unfold formL;rw [if_neg (by omega),if_pos ⟨h1,h2⟩]
theorem loc1 {p:Prg} {f:Fnc} {i:Instr} (h:instrErr p f i=0) (h1:1≤i.op) (h2:i.op≤15):(0≤i.a∧i.a<f.regs)∧(0≤i.b∧i.b<f.regs):=by
 have:=(instr_oper h).2
 exact ⟨oper_reg (this 0 (by decide)) (.inl (by simp [letterAt,form1 h1 h2])),oper_reg (this 1 (by decide)) (.inl (by simp [letterAt,form1 h1 h2]))⟩
theorem loc2 {p:Prg} {f:Fnc} {i:Instr} (h:instrErr p f i=0) (h1:16≤i.op) (h2:i.op≤36):(0≤i.a∧i.a<f.regs)∧(0≤i.b∧i.b<f.regs)∧(0≤i.c∧i.c<f.regs):=by
 have:=(instr_oper h).2
 exact ⟨oper_reg (this 0 (by decide)) (.inl (by simp [letterAt,form2 h1 h2])),oper_reg (this 1 (by decide)) (.inl (by simp [letterAt,form2 h1 h2])),oper_reg (this 2 (by decide)) (.inl (by simp [letterAt,form2 h1 h2]))⟩
theorem loc40 {p:Prg} {f:Fnc} {i:Instr} (h:instrErr p f i=0) (h1:i.op=40):0≤i.a∧i.a<f.regs:=oper_reg ((instr_oper h).2 0 (by decide)) (.inl (by simp [letterAt,formL,h1]))
theorem loc41 {p:Prg} {f:Fnc} {i:Instr} (h:instrErr p f i=0) (h1:i.op=41):(0≤i.a∧i.a<f.regs)∧(0≤i.b∧i.b<f.regs) :=
 ⟨oper_reg ((instr_oper h).2 0 (by decide)) (.inl (by simp [letterAt,formL,h1])),oper_reg ((instr_oper h).2 1 (by decide)) (.inl (by simp [letterAt,formL,h1]))⟩
theorem loc42 {p:Prg} {f:Fnc} {i:Instr} (h:instrErr p f i=0) (h1:i.op=42):0≤i.a∧i.a<(f.code.length:Int):=oper_code ((instr_oper h).2 0 (by decide)) (by simp [letterAt,formL,h1])
theorem loc43 {p:Prg} {f:Fnc} {i:Instr} (h:instrErr p f i=0) (h1:i.op=43):(0≤i.a∧i.a<f.regs)∧(0≤i.b∧i.b<(f.code.length:Int)) :=
 ⟨oper_reg ((instr_oper h).2 0 (by decide)) (.inl (by simp [letterAt,formL,h1])),oper_code ((instr_oper h).2 1 (by decide)) (by simp [letterAt,formL,h1])⟩
theorem loc44 {p:Prg} {f:Fnc} {i:Instr} (h:instrErr p f i=0) (h1:i.op=44):0≤i.a∧i.a<f.regs:=oper_reg ((instr_oper h).2 0 (by decide)) (.inl (by simp [letterAt,formL,h1]))
structure gorIn (p:Prg) (g:Gor):Prop where
 f0:0≤g.func
 f1:g.func<p.funcs.length
 p0:0≤g.pc
 p1:g.pc<(p.funcs.getD g.func.toNat default).code.length
 regs:g.regs.length=8
abbrev Prg.instr (p:Prg) (g:Gor):Instr:=(p.funcs.getD g.func.toNat default).code.getD g.pc.toNat default
theorem instr_right {p:Prg} (hok:p.Ok) {g:Gor} (hg:gorIn p g):instrErr p (p.funcs.getD g.func.toNat default) (p.instr g)=0 :=
 hok.instr _ _ (by have:=hg.f0;have:=hg.f1;omega) (by have:=hg.p0;have:=hg.p1;omega)
theorem next_in {p:Prg} (hok:p.Ok) {g:Gor} (hg:gorIn p g) (h:(p.instr g).op≠42∧(p.instr g).op≠45∧(p.instr g).op≠61):g.pc+1<(p.funcs.getD g.func.toNat default).code.length:=by
 have h1:=hg.p1
 have h0:=hg.p0
 by_cases hc:g.pc+1<(p.funcs.getD g.func.toNat default).code.length
 · exact hc
 · have hl:=hok.last g.func.toNat (by have:=hg.f0;have:=hg.f1;omega)
   have e:g.pc=((p.funcs.getD g.func.toNat default).code.length:Int)-1:=by omega
   unfold lastOk Fnc.at_ at hl
   rw [← e] at hl
   simp only [Bool.or_eq_true,decide_eq_true_eq] at hl
   rcases hl with (hl|hl)|hl
   · exact absurd hl h.1
   · exact absurd hl h.2.1
   · exact absurd hl h.2.2
section
variable (apply:Int→Int→Int→Int × Int) {p:Prg} {g:Gor}
theorem ls1 (h:(p.instr g).op≤15):localStep apply p g=(⟨g.status,g.func,g.pc+1,g.why,g.regs.set (p.instr g).a.toNat (apply (p.instr g).op (g.regs.getD (p.instr g).b.toNat 0) 0).1⟩,true):=if_pos h
theorem ls2 (h1:¬(p.instr g).op≤15) (h:(p.instr g).op≤36) (e1:¬(apply (p.instr g).op (g.regs.getD (p.instr g).b.toNat 0) (g.regs.getD (p.instr g).c.toNat 0)).2=20) (e2:¬(apply (p.instr g).op (g.regs.getD (p.instr g).b.toNat 0) (g.regs.getD (p.instr g).c.toNat 0)).2=21) :
 localStep apply p g=(⟨g.status,g.func,g.pc+1,g.why,g.regs.set (p.instr g).a.toNat (apply (p.instr g).op (g.regs.getD (p.instr g).b.toNat 0) (g.regs.getD (p.instr g).c.toNat 0)).1⟩,true) :=
 (if_neg h1).trans ((if_pos h).trans ((if_neg e1).trans (if_neg e2)))
theorem ls2z (h1:¬(p.instr g).op≤15) (h:(p.instr g).op≤36) (e1:(apply (p.instr g).op (g.regs.getD (p.instr g).b.toNat 0) (g.regs.getD (p.instr g).c.toNat 0)).2=20):localStep apply p g=(ended g 4 2,false) :=
 (if_neg h1).trans ((if_pos h).trans (if_pos e1))
theorem ls2s (h1:¬(p.instr g).op≤15) (h:(p.instr g).op≤36) (e1:¬(apply (p.instr g).op (g.regs.getD (p.instr g).b.toNat 0) (g.regs.getD (p.instr g).c.toNat 0)).2=20) (e2:(apply (p.instr g).op (g.regs.getD (p.instr g).b.toNat 0) (g.regs.getD (p.instr g).c.toNat 0)).2=21):localStep apply p g=(ended g 4 3,false) :=
 (if_neg h1).trans ((if_pos h).trans ((if_neg e1).trans (if_pos e2)))
theorem ls40 (h1:¬(p.instr g).op≤15) (h2:¬(p.instr g).op≤36) (h:(p.instr g).op=40):localStep apply p g=(⟨g.status,g.func,g.pc+1,g.why,g.regs.set (p.instr g).a.toNat (p.instr g).n⟩,true) :=
 (if_neg h1).trans ((if_neg h2).trans (if_pos h))
theorem ls41 (h1:¬(p.instr g).op≤15) (h2:¬(p.instr g).op≤36) (h3:¬(p.instr g).op=40) (h:(p.instr g).op=41):localStep apply p g=(⟨g.status,g.func,g.pc+1,g.why,g.regs.set (p.instr g).a.toNat (g.regs.getD (p.instr g).b.toNat 0)⟩,true) :=
 (if_neg h1).trans ((if_neg h2).trans ((if_neg h3).trans (if_pos h)))
theorem ls42 (h1:¬(p.instr g).op≤15) (h2:¬(p.instr g).op≤36) (h3:¬(p.instr g).op=40) (h4:¬(p.instr g).op=41) (h:(p.instr g).op=42):localStep apply p g=(⟨g.status,g.func,(p.instr g).a,g.why,g.regs⟩,true) :=
 (if_neg h1).trans ((if_neg h2).trans ((if_neg h3).trans ((if_neg h4).trans (if_pos h))))
theorem ls43 (h1:¬(p.instr g).op≤15) (h2:¬(p.instr g).op≤36) (h3:¬(p.instr g).op=40) (h4:¬(p.instr g).op=41) (h5:¬(p.instr g).op=42) (h:(p.instr g).op=43) (e:¬g.regs.getD (p.instr g).a.toNat 0=0):localStep apply p g=(⟨g.status,g.func,(p.instr g).b,g.why,g.regs⟩,true):=by
 refine (if_neg h1).trans ((if_neg h2).trans ((if_neg h3).trans ((if_neg h4).trans ((if_neg h5).trans ((if_pos h).trans ?_)))))
 exact Prod.ext (if_pos e) rfl
theorem ls43f (h1:¬(p.instr g).op≤15) (h2:¬(p.instr g).op≤36) (h3:¬(p.instr g).op=40) (h4:¬(p.instr g).op=41) (h5:¬(p.instr g).op=42) (h:(p.instr g).op=43) (e:g.regs.getD (p.instr g).a.toNat 0=0):localStep apply p g=(⟨g.status,g.func,g.pc+1,g.why,g.regs⟩,true):=by
 refine (if_neg h1).trans ((if_neg h2).trans ((if_neg h3).trans ((if_neg h4).trans ((if_neg h5).trans ((if_pos h).trans ?_)))))
 exact Prod.ext (if_neg (fun q=>q e)) rfl
theorem ls44 (h1:¬(p.instr g).op≤15) (h2:¬(p.instr g).op≤36) (h3:¬(p.instr g).op=40) (h4:¬(p.instr g).op=41) (h5:¬(p.instr g).op=42) (h6:¬(p.instr g).op=43) (h:(p.instr g).op=44) (e:¬g.regs.getD (p.instr g).a.toNat 0=0):localStep apply p g=(⟨g.status,g.func,g.pc+1,g.why,g.regs⟩,true) :=
 (if_neg h1).trans ((if_neg h2).trans ((if_neg h3).trans ((if_neg h4).trans ((if_neg h5).trans ((if_neg h6).trans ((if_pos h).trans (if_neg e)))))))
theorem ls44z (h1:¬(p.instr g).op≤15) (h2:¬(p.instr g).op≤36) (h3:¬(p.instr g).op=40) (h4:¬(p.instr g).op=41) (h5:¬(p.instr g).op=42) (h6:¬(p.instr g).op=43) (h:(p.instr g).op=44) (e:g.regs.getD (p.instr g).a.toNat 0=0):localStep apply p g=(ended g 4 1,false) :=
 (if_neg h1).trans ((if_neg h2).trans ((if_neg h3).trans ((if_neg h4).trans ((if_neg h5).trans ((if_neg h6).trans ((if_pos h).trans (if_pos e)))))))
theorem ls45 (h1:¬(p.instr g).op≤15) (h2:¬(p.instr g).op≤36) (h3:¬(p.instr g).op=40) (h4:¬(p.instr g).op=41) (h5:¬(p.instr g).op=42) (h6:¬(p.instr g).op=43) (h:¬(p.instr g).op=44):localStep apply p g=(ended g 3 0,false) :=
 (if_neg h1).trans ((if_neg h2).trans ((if_neg h3).trans ((if_neg h4).trans ((if_neg h5).trans ((if_neg h6).trans (if_neg h))))))
theorem ended_in (hg:gorIn p g) (s w:Int):gorIn p (ended g s w):=⟨hg.f0,hg.f1,hg.p0,hg.p1,rfl⟩
theorem local_range {op:Int} (h:isLocal op=true):(1≤op∧op≤36)∨(40≤op∧op≤45):=by simpa [isLocal] using h
theorem localStep_in (hok:p.Ok) (hg:gorIn p g) (hl:isLocal (p.instr g).op=true):gorIn p (localStep apply p g).1:=by
 have hr:=local_range hl
 have hin:=instr_right hok hg
 have next:∀ regs:List Int,regs.length=8→((p.instr g).op≠42∧(p.instr g).op≠45∧(p.instr g).op≠61)→gorIn p ⟨g.status,g.func,g.pc+1,g.why,regs⟩:=fun regs h8 ho =>
  ⟨hg.f0,hg.f1,by have:=hg.p0;show 0≤g.pc+1;omega,next_in hok hg ho,h8⟩
 have h8:=hg.regs
 by_cases h1:(p.instr g).op≤15
 · rw [ls1 apply h1];exact next _ (by rw [List.length_set];exact h8) (by omega)
 by_cases h2:(p.instr g).op≤36
 · by_cases e1:(apply (p.instr g).op (g.regs.getD (p.instr g).b.toNat 0) (g.regs.getD (p.instr g).c.toNat 0)).2=20
   · rw [ls2z apply h1 h2 e1];exact ended_in hg _ _
   by_cases e2:(apply (p.instr g).op (g.regs.getD (p.instr g).b.toNat 0) (g.regs.getD (p.instr g).c.toNat 0)).2=21
   · rw [ls2s apply h1 h2 e1 e2];exact ended_in hg _ _
   · rw [ls2 apply h1 h2 e1 e2];exact next _ (by rw [List.length_set];exact h8) (by omega)
 by_cases h3:(p.instr g).op=40
 · rw [ls40 apply h1 h2 h3];exact next _ (by rw [List.length_set];exact h8) (by omega)
 by_cases h4:(p.instr g).op=41
 · rw [ls41 apply h1 h2 h3 h4];exact next _ (by rw [List.length_set];exact h8) (by omega)
 by_cases h5:(p.instr g).op=42
 · rw [ls42 apply h1 h2 h3 h4 h5]
   have:=loc42 hin h5
   exact ⟨hg.f0,hg.f1,this.1,this.2,h8⟩
 by_cases h6:(p.instr g).op=43
 · by_cases e:g.regs.getD (p.instr g).a.toNat 0=0
   · rw [ls43f apply h1 h2 h3 h4 h5 h6 e];exact next _ h8 (by omega)
   · rw [ls43 apply h1 h2 h3 h4 h5 h6 e]
     have:=(loc43 hin h6).2
     exact ⟨hg.f0,hg.f1,this.1,this.2,h8⟩
 by_cases h7:(p.instr g).op=44
 · by_cases e:g.regs.getD (p.instr g).a.toNat 0=0
   · rw [ls44z apply h1 h2 h3 h4 h5 h6 h7 e];exact ended_in hg _ _
   · rw [ls44 apply h1 h2 h3 h4 h5 h6 h7 e];exact next _ h8 (by omega)
 · rw [ls45 apply h1 h2 h3 h4 h5 h6 h7];exact ended_in hg _ _
theorem settledN_stop {m:Nat} (h:isLocal (p.instr g).op=false):settledN apply p m g=g:=by
 cases m with
 | zero=>exact if_neg (by rw [show ((p.fn g.func).at_ g.pc)=p.instr g from rfl,h];simp)
 | succ m=>exact if_neg (by rw [show ((p.fn g.func).at_ g.pc)=p.instr g from rfl,h];simp)
theorem settledN_zero (h:isLocal (p.instr g).op=true):settledN apply p 0 g=⟨5,g.func,g.pc,g.why,g.regs⟩:=if_pos h
theorem settledN_succ {m:Nat} (h:isLocal (p.instr g).op=true):settledN apply p (m+1) g=if (localStep apply p g).2 then settledN apply p m (localStep apply p g).1 else (localStep apply p g).1:=if_pos h
end
theorem valid_parts {p:Prg} {s:Stt} (h:validP p s=true):rightP p=true∧(1≤s.count∧s.count≤6)∧gorsOk p s 6=true∧varsOk p s 8=true∧ownersOk p s 4=true∧chansOk p s 4=true∧waitsOk s s.count.toNat=true:=by
 simp only [validP,Bool.and_eq_true,decide_eq_true_eq] at h
 exact ⟨h.1.1.1.1.1.1.1,⟨h.1.1.1.1.1.1.2,h.1.1.1.1.1.2⟩,h.1.1.1.1.2,h.1.1.1.2,h.1.1.2,h.1.2,h.2⟩
theorem gor_in {p:Prg} {s:Stt} (hs:s.Shape) (h:gorsOk p s 6=true) {g:Int} (h0:0≤g) (h6:g<6) (hc:g<s.count):gorIn p (s.gos.getD g.toNat default):=by
 have:=gorOk_R (gorsOk_at h h0 h6 hc)
 unfold gorR at this
 exact ⟨this.1.1.1.2,this.1.1.2,this.1.2,this.2,hs.regs _ (getD_mem _ (by rw [hs.gos];omega))⟩
theorem start_in {p:Prg} (hok:p.Ok):gorIn p zeroGor:=by
 have hs:=hok.sizes
 unfold Sizes at hs
 exact ⟨by decide,by show (0:Int)<_;omega,by decide,by have:=hok.code 0 (by omega);show (0:Int)<_;exact_mod_cast this.1,by decide⟩
end Go.Eng
namespace Go.Eng
theorem oper_var {p:Prg} {f:Fnc} {i:Instr} {l x:Int} (h:operandErr p f l x i=0) (hl:l=118∨l=97):0≤x∧x<(p.vars.length:Int):=by
 unfold operandErr at h
 rw [if_neg (by omega),if_neg (by omega),if_neg (by omega)] at h
 split at h
 · split at h
   · rename_i hw;exact within_iff.1 hw
   · cases h
 · rw [if_pos (by omega)] at h
   split at h
   · rename_i hw;exact within_iff.1 hw
   · cases h
theorem oper_lock {p:Prg} {f:Fnc} {i:Instr} {l x:Int} (h:operandErr p f l x i=0) (hl:l=108):0≤x∧x<p.locks:=by
 subst hl
 unfold operandErr at h
 rw [if_neg (by decide),if_neg (by decide),if_neg (by decide),if_neg (by decide),if_neg (by decide),if_pos rfl] at h
 split at h
 · rename_i hw;exact within_iff.1 hw
 · cases h
theorem oper_chan {p:Prg} {f:Fnc} {i:Instr} {l x:Int} (h:operandErr p f l x i=0) (hl:l=99):0≤x∧x<(p.chans.length:Int):=by
 subst hl
 unfold operandErr at h
 rw [if_neg (by decide),if_neg (by decide),if_neg (by decide),if_neg (by decide),if_neg (by decide),if_neg (by decide),if_pos rfl] at h
 split at h
 · rename_i hw;exact within_iff.1 hw
 · cases h
theorem oper_sel {p:Prg} {f:Fnc} {i:Instr} {l x:Int} (h:operandErr p f l x i=0) (hl:l=115):0≤x∧x<(f.sels.length:Int):=by
 subst hl
 unfold operandErr at h
 rw [if_neg (by decide),if_neg (by decide),if_neg (by decide),if_neg (by decide),if_neg (by decide),if_neg (by decide),if_neg (by decide),if_pos rfl] at h
 split at h
 · rename_i hw;exact within_iff.1 hw
 · cases h
theorem oper_fun {p:Prg} {f:Fnc} {i:Instr} {l x:Int} (h:operandErr p f l x i=0) (hl:l=102):0≤x∧x<(p.funcs.length:Int):=by
 subst hl
 unfold operandErr at h
 rw [if_neg (by decide),if_neg (by decide),if_neg (by decide),if_neg (by decide),if_neg (by decide),if_neg (by decide),if_neg (by decide),if_neg (by decide),if_pos rfl] at h
 split at h
 · rename_i hw;exact within_iff.1 hw
 · cases h
theorem oper_par {p:Prg} {f:Fnc} {i:Instr} {l x:Int} (h:operandErr p f l x i=0) (hl:l=112):((p.fn i.b).params=0→x=0)∧(0<(p.fn i.b).params→0≤x∧x≤w64 (f.regs-(p.fn i.b).params)):=by
 subst hl
 unfold operandErr at h
 rw [if_neg (by decide),if_neg (by decide),if_pos rfl] at h
 split at h
 · cases h
 · rename_i hw
   constructor
   · intro h0
     by_cases hx:x=0
     · exact hx
     · exact absurd (.inl ⟨h0,hx⟩) hw
   · intro h0
     omega
section
variable {p:Prg} {f:Fnc} {i:Instr} (h:instrErr p f i=0)
include h
theorem vis50 (h1:i.op=50):(0≤i.a∧i.a<f.regs)∧(0≤i.b∧i.b<(p.vars.length:Int)):=⟨oper_reg ((instr_oper h).2 0 (by decide)) (.inl (by simp [letterAt,formL,h1])),oper_var ((instr_oper h).2 1 (by decide)) (.inl (by simp [letterAt,formL,h1]))⟩
theorem vis51 (h1:i.op=51):(0≤i.a∧i.a<(p.vars.length:Int))∧(0≤i.b∧i.b<f.regs):=⟨oper_var ((instr_oper h).2 0 (by decide)) (.inl (by simp [letterAt,formL,h1])),oper_reg ((instr_oper h).2 1 (by decide)) (.inl (by simp [letterAt,formL,h1]))⟩
theorem vis52 (h1:i.op=52):(i.a = -1∨0≤i.a∧i.a<f.regs)∧(0≤i.b∧i.b<(p.vars.length:Int))∧(0≤i.c∧i.c<f.regs):=⟨oper_opt ((instr_oper h).2 0 (by decide)) (by simp [letterAt,formL,h1]),oper_var ((instr_oper h).2 1 (by decide)) (.inr (by simp [letterAt,formL,h1])),oper_reg ((instr_oper h).2 2 (by decide)) (.inl (by simp [letterAt,formL,h1]))⟩
theorem vis53 (h1:i.op=53):(0≤i.a∧i.a<f.regs)∧(0≤i.b∧i.b<(p.vars.length:Int))∧(0≤i.c∧i.c<f.regs)∧(0≤i.n∧i.n<f.regs):=⟨oper_reg ((instr_oper h).2 0 (by decide)) (.inl (by simp [letterAt,formL,h1])),oper_var ((instr_oper h).2 1 (by decide)) (.inr (by simp [letterAt,formL,h1])),oper_reg ((instr_oper h).2 2 (by decide)) (.inl (by simp [letterAt,formL,h1])),oper_reg ((instr_oper h).2 3 (by decide)) (.inr (by simp [letterAt,formL,h1]))⟩
theorem vis54 (h1:i.op=54):(0≤i.a∧i.a<(p.vars.length:Int))∧(0≤i.b∧i.b<f.regs):=⟨oper_var ((instr_oper h).2 0 (by decide)) (.inr (by simp [letterAt,formL,h1])),oper_reg ((instr_oper h).2 1 (by decide)) (.inl (by simp [letterAt,formL,h1]))⟩
theorem vis55 (h1:i.op=55∨i.op=56):0≤i.a∧i.a<p.locks:=oper_lock ((instr_oper h).2 0 (by decide)) (by rcases h1 with h1|h1<;>simp [letterAt,formL,h1])
theorem vis57 (h1:i.op=57):(0≤i.a∧i.a<f.regs)∧(0≤i.b∧i.b<p.locks):=⟨oper_reg ((instr_oper h).2 0 (by decide)) (.inl (by simp [letterAt,formL,h1])),oper_lock ((instr_oper h).2 1 (by decide)) (by simp [letterAt,formL,h1])⟩
theorem vis58 (h1:i.op=58):(0≤i.a∧i.a<(p.chans.length:Int))∧(0≤i.b∧i.b<f.regs):=⟨oper_chan ((instr_oper h).2 0 (by decide)) (by simp [letterAt,formL,h1]),oper_reg ((instr_oper h).2 1 (by decide)) (.inl (by simp [letterAt,formL,h1]))⟩
theorem vis59 (h1:i.op=59):(i.a = -1∨0≤i.a∧i.a<f.regs)∧(0≤i.b∧i.b<(p.chans.length:Int))∧(i.c = -1∨0≤i.c∧i.c<f.regs):=⟨oper_opt ((instr_oper h).2 0 (by decide)) (by simp [letterAt,formL,h1]),oper_chan ((instr_oper h).2 1 (by decide)) (by simp [letterAt,formL,h1]),oper_opt ((instr_oper h).2 2 (by decide)) (by simp [letterAt,formL,h1])⟩
theorem vis60 (h1:i.op=60):0≤i.a∧i.a<(p.chans.length:Int):=oper_chan ((instr_oper h).2 0 (by decide)) (by simp [letterAt,formL,h1])
theorem vis61 (h1:i.op=61):0≤i.a∧i.a<(f.sels.length:Int):=oper_sel ((instr_oper h).2 0 (by decide)) (by simp [letterAt,formL,h1])
theorem vis62 (h1:i.op=62):(i.a = -1∨0≤i.a∧i.a<f.regs)∧(0≤i.b∧i.b<(p.funcs.length:Int))∧((p.fn i.b).params=0→i.c=0)∧(0<(p.fn i.b).params→0≤i.c∧i.c≤w64 (f.regs-(p.fn i.b).params)):=⟨oper_opt ((instr_oper h).2 0 (by decide)) (by simp [letterAt,formL,h1]),oper_fun ((instr_oper h).2 1 (by decide)) (by simp [letterAt,formL,h1]),oper_par ((instr_oper h).2 2 (by decide)) (by simp [letterAt,formL,h1])⟩
theorem vis63 (h1:i.op=63∨i.op=65):0≤i.a∧i.a<f.regs:=oper_reg ((instr_oper h).2 0 (by decide)) (.inl (by rcases h1 with h1|h1<;>simp [letterAt,formL,h1]))
theorem op_le:1≤i.op∧i.op≤65:=by
 have:=(instr_oper h).1
 simp [isLocal,isVisible] at this
 omega
end
structure Wf (p:Prg) (s:Stt):Prop where
 shape:s.Shape
 count:0≤s.count∧s.count≤6
 gos:∀ g:Int,0≤g→g<s.count→gorIn p (s.gos.getD g.toNat default)
 wait:∀ g:Int,0≤g→g<s.count→(s.gos.getD g.toNat default).status=2→(p.instr (s.gos.getD g.toNat default)).op=58
 chans:∀ i:Nat,0≤(s.chans.getD i default).len∧(s.chans.getD i default).len≤p.chans.getD i 0
abbrev insAt (p:Prg) (s:Stt) (g:Int):Instr:=p.instr (s.gos.getD g.toNat default)
theorem opAt_cases {p:Prg} {s:Stt} {g k:Int} (h:opAt p s g=k):((s.gos.getD g.toNat default).status=2∧k=66)∨(¬(s.gos.getD g.toNat default).status=2∧(insAt p s g).op=k):=by
 unfold opAt at h
 split at h
 · rename_i h1;exact .inl ⟨h1,h.symm⟩
 · rename_i h1;exact .inr ⟨h1,h⟩
theorem Wf.right {p:Prg} {s:Stt} (hok:p.Ok) (hw:Wf p s) {g:Int} (h0:0≤g) (hc:g<s.count):instrErr p (p.funcs.getD (s.gos.getD g.toNat default).func.toNat default) (insAt p s g)=0:=instr_right hok (hw.gos g h0 hc)
theorem Wf.op_at {p:Prg} {s:Stt} (hok:p.Ok) (hw:Wf p s) {g k:Int} (h0:0≤g) (hc:g<s.count) (h:opAt p s g=k) (hk:k≠66):(insAt p s g).op=k:=by
 rcases opAt_cases h with h|h
 · exact absurd h.2 hk
 · exact h.2
theorem Wf.op66 {p:Prg} {s:Stt} (hok:p.Ok) (hw:Wf p s) {g:Int} (h0:0≤g) (hc:g<s.count) (h:opAt p s g=66):(insAt p s g).op=58:=by
 rcases opAt_cases h with h|h
 · exact hw.wait g h0 hc h.1
 · have:=op_le (hw.right hok h0 hc);omega
theorem live_iff {s:Stt} {g:Int}:isLive s g=true↔(0≤g∧g<s.count)∧((s.gos.getD g.toNat default).status=1∨(s.gos.getD g.toNat default).status=2):=by
 unfold isLive
 rw [Bool.and_eq_true,Bool.and_eq_true,Bool.or_eq_true,decide_eq_true_eq,decide_eq_true_eq,decide_eq_true_eq,decide_eq_true_eq]
 exact Iff.rfl
theorem isLive_eq (s:Stt) (g:Int):isLive s g=(decide (0≤g)&&decide (g<s.count)&&(decide ((s.gos.getD g.toNat default).status=1)||decide ((s.gos.getD g.toNat default).status=2))):=rfl
structure CasIn (p:Prg) (f:Fnc) (c:Cas):Prop where
 chan:0≤c.chan∧c.chan<(p.chans.length:Int)
 reg:(0≤c.reg∧c.reg<f.regs)∨(c.send=false∧c.reg = -1)
 cap:c.send=true→¬p.chans.getD c.chan.toNat 0=0
 to_:0≤c.to_∧c.to_<(f.code.length:Int)
theorem caseErr_in {p:Prg} {f:Fnc} {c:Cas} (h:caseErr p f c=0):CasIn p f c:=by
 unfold caseErr at h
 split at h;· cases h
 rename_i h1
 split at h;· cases h
 rename_i h2
 split at h;· cases h
 rename_i h3
 split at h;· cases h
 rename_i h4
 rw [within_false] at h1 h4
 rw [within_false] at h2
 refine ⟨by omega,?_,fun q q2=>h3 ⟨q,q2⟩,by omega⟩
 by_cases hr:0≤c.reg∧c.reg<f.regs
 · exact .inl hr
 · right
   cases hs:c.send
   · exact ⟨rfl,by by_cases q:c.reg = -1;exact q;exact absurd ⟨by omega,.inr q⟩ h2⟩
   · exact absurd ⟨by omega,.inl hs⟩ h2
theorem case_ok {p:Prg} (hok:p.Ok) {i j k:Nat} (hi:i<p.funcs.length) (hj:j<(p.funcs.getD i default).sels.length) (hk:k<((p.funcs.getD i default).sels.getD j default).cases.length) :
 CasIn p (p.funcs.getD i default) (((p.funcs.getD i default).sels.getD j default).cases.getD k default):=by
 have h:=hok.sels i j hi hj
 simp only [selErr] at h
 split at h
 · rename_i h1;exact absurd h h1
 · rename_i h1
   have h1:casesErr p (p.funcs.getD i default) ((p.funcs.getD i default).sels.getD j default) ((p.funcs.getD i default).sels.getD j default).cases.length=0:=by simpa using h1
   unfold casesErr at h1
   rw [List.take_length] at h1
   exact caseErr_in (firstNZ_zero.1 h1 _ (List.mem_map.2 ⟨_,getD_mem _ hk,rfl⟩))
theorem else_ok {p:Prg} (hok:p.Ok) {i j:Nat} (hi:i<p.funcs.length) (hj:j<(p.funcs.getD i default).sels.length) :
 ((p.funcs.getD i default).sels.getD j default).els = -1∨0≤((p.funcs.getD i default).sels.getD j default).els∧((p.funcs.getD i default).sels.getD j default).els<((p.funcs.getD i default).code.length:Int):=by
 have h:=hok.sels i j hi hj
 simp only [selErr] at h
 split at h
 · rename_i h1;exact absurd h h1
 · split at h
   · cases h
   · rename_i h2
     rw [within_false] at h2
     omega
theorem caseOk_bif (p:Prg) (s:Stt) (c:Cas):(bif (bif c.send then sends p s c.chan else false) then true else (bif !c.send then receives s c.chan else false))=caseOk p s c:=by
 unfold caseOk
 cases c.send
 · cases receives s c.chan<;>rfl
 · cases sends p s c.chan<;>rfl
theorem casesTo_len (p:Prg) (s:Stt) (q:Sel) (n:Nat):(casesTo p s q n).length≤n:=by
 unfold casesTo;rw [List.length_map];exact Nat.le_trans (List.length_filter_le _ _) (by simp)
theorem casesTo_hit {p:Prg} {s:Stt} {q:Sel} {n:Nat} (h:caseOk p s (q.cases.getD n default)=true):casesTo p s q (n+1)=casesTo p s q n++[(n:Int)]:=by
 unfold casesTo
 rw [List.range_succ,List.filter_append,List.map_append]
 simp only [List.filter_cons,List.filter_nil,h,if_true,List.map_cons,List.map_nil]
theorem casesTo_miss {p:Prg} {s:Stt} {q:Sel} {n:Nat} (h:caseOk p s (q.cases.getD n default)=false):casesTo p s q (n+1)=casesTo p s q n:=by
 unfold casesTo
 rw [List.range_succ,List.filter_append,List.map_append]
 simp only [List.filter_cons,List.filter_nil,h,Bool.false_eq_true,if_false,List.map_nil,List.append_nil]
theorem readyTo_succ (p:Prg) (s:Stt) (n:Nat):readyTo p s (n+1)=readyTo p s n++(alts p s n).map fun a=>⟨(n:Int),a⟩:=by
 unfold readyTo
 rw [List.range_succ,List.flatMap_append]
 simp
end Go.Eng
