/- A part of the proof: walks through the program's functions, and what they compute. -/
import Derived.Test.YtedceinkpkoncaaGreatDoorPk5
import Derived.Great.BuildSlice
import Derived.Great.FillDense
import Derived.Laws.MakeOwn
import Derived.Laws.CopyRow
set_option linter.unusedSimpArgs false
set_option linter.unusedVariables false
namespace Go.Eng
open Go.RowKit
variable {P:Program} {T:Tab} {w w':World} {w0:Base T} {F F':Nat→Prop} {ρ ρ':Nat→RI} {σ:St} {a:Act} {outs:List (Array Value)}
theorem below_drew (w:World):Below w.heap.size w w.drew:=(Below.refl _ _).drew
theorem append_new (hP:TabOk P T) {t e ty:TypeId} (ht:T.ty t=.slice e) {b off n cap:Nat} {olds:List Value} {base:Option Addr} (hbase:(base=none∧n=0∧cap=0∧olds=[])∨(base=some ⟨b,off,none⟩∧Seg w b off olds)∨(∃ ad,base=some ad∧n=0∧olds=[]))
 (hol:olds.length=n*T.sz e) {b' off' m c:Nat} {news:List Value} (hnl:news.length=m*T.sz e) (hns:Seg w b' off' news) (hm:0<m) (hg:cap<n+m) (hroom:roomFor T e (n+m)) :
 ∃ r w',(Builtin.append_ #[t,t] ty #[.slice base n cap,.slice (some ⟨b',off',none⟩) m c]).run P w=.ok r w'∧w'.ownsRow w.heap.size e (T.sz e) r (n+m) (olds++news)∧Below w.heap.size w w':=by
 obtain ⟨hu,hno⟩:=hP.slice _ _ ht
 obtain ⟨i,i1,i2,i3,z,i4,i5,i6,i7,_⟩:=hP.info e hno
 obtain ⟨r1,r2⟩:=hroom
 have h63:((n+m:Nat):Int)≤9223372036854775807:=by simp only [maxLen] at r1;omega
 have hol':olds.length=n*i.size:=by rw [i2];exact hol
 have hnl':news.length=m*i.size:=by rw [i2];exact hnl
 have hby:(n+m)*i.bytes≤140737488355328:=by rw [i3];exact r2
 have fin:∀ (old:Nat),∃ r w',Result.ok (.slice (some ⟨w.heap.size,0,none⟩) (n+m) (grownCap w (n+m) old e)) (w.drew.alloc (.cells (olds.toArray++news.toArray++Builtin.zeroCells z.cells (grownCap w (n+m) old e-(n+m))) e))=Result.ok r w' ∧
  w'.ownsRow w.heap.size e (T.sz e) r (n+m) (olds++news)∧Below w.heap.size w w':=by
  intro old
  have hge:=grownCap_ge w (n+m) old e
  have hcm:=grownCap_le_maxLen w (n+m) old e r1
  refine ⟨_,_,rfl,⟨?_,.inr ⟨w.heap.size,_,_,rfl,Nat.le_refl _,heap_alloc_new w.drew _,hge,hcm,?_,?_⟩⟩,(below_drew w).alloc (Nat.le_refl _) _⟩
  · rw [List.length_append,hol,hnl,Nat.add_mul]
  · simp only [Array.size_append,List.size_toArray,size_zeroCells,hol,hnl,i5,← Nat.add_mul]
    congr 1
    omega
  · simp only [Array.toList_append,List.append_assoc]
    rw [← List.append_assoc]
    have hlen:(olds++news).length=(n+m)*T.sz e:=by rw [List.length_append,hol,hnl,Nat.add_mul]
    rw [← hlen]
    exact List.take_left
 rcases hbase with ⟨rfl,rfl,rfl,rfl⟩|⟨rfl,hs⟩|⟨ad,rfl,rfl,rfl⟩
 · have:=run_append_nil (P:=P) w t ty e i z hu i1 i4 ⟨b',off',none⟩ m c news hnl' (fun j v hv=>by rw [addr_add];exact hns j v hv) hm (by simpa using h63) (by simp only [Nat.zero_add] at hby;omega)
   obtain ⟨r,w',h1,h2⟩:=fin 0
   refine ⟨r,w',?_,h2⟩
   rw [this,← h1]
   simp
 · have:=run_append_grow (P:=P) w t ty e i z hu i1 i4 ⟨b,off,none⟩ n cap olds hol' (fun j v hv=>by rw [addr_add];exact hs j v hv) ⟨b',off',none⟩ m c news hnl' (fun j v hv=>by rw [addr_add];exact hns j v hv) hg h63 (growslice_fits (by omega) hby)
   obtain ⟨r,w',h1,h2⟩:=fin cap
   exact ⟨r,w',by rw [this,← h1],h2⟩
 · have:=run_append_grow (P:=P) w t ty e i z hu i1 i4 ad 0 cap [] (by simp) (fun j v hv=>by simp at hv) ⟨b',off',none⟩ m c news hnl' (fun j v hv=>by rw [addr_add];exact hns j v hv) hg h63 (growslice_fits (by omega) hby)
   obtain ⟨r,w',h1,h2⟩:=fin cap
   exact ⟨r,w',by rw [this,← h1],h2⟩
theorem append_none (hP:TabOk P T) {t e ty:TypeId} (ht:T.ty t=.slice e) {base:Option Addr} {n cap m c:Nat} {x:Option Addr} (hn:n≤cap) (hx:(x=none∧m=0)∨m=0) (w:World) :
 (Builtin.append_ #[t,t] ty #[.slice base n cap,.slice x m c]).run P w=.ok (.slice base n cap) w:=by
 obtain ⟨hu,hno⟩:=hP.slice _ _ ht
 have hm:m=0:=by rcases hx with ⟨_,h⟩|h<;>exact h
 subst hm
 have hs:=fun W=>run_sizeOf (P:=P) hP hno W
 cases base<;>cases x<;>simp [Builtin.append_,run_underlying hu,hs,Builtin.lenOf,Builtin.firstCells,hn,storeCells,loadCells,loadCellsFrom]
theorem row_moved (hR:Rel T w F ρ w0 σ a.tmps outs) {i:Nat} (hi:i<σ.ob.length) {e:TypeId} {l:List V} {r:Value} {ys:List Value} {r0:Value} (hr0:ρ i=.row e r0)
 (hw:∀ k,k<w.heap.size→r0.ownBlock≠some k→w'.heap[k]?=w.heap[k]?) (hs:w.heap.size≤w'.heap.size) (hos:w'.os=w.os) (htp:w'.tape=w.tape) (hout:w'.output=w.output)
 (hr:∀ b,r.ownBlock=some b→r0.ownBlock=some b∨(w.heap.size≤b∧b<w'.heap.size)) (hown:w'.ownsRow w0.w.heap.size e (T.sz e) r l.length ys) (hf:FitsL T w' F (List.replicate l.length e) l ys) :
 Rel T w' F (upd ρ i (.row e r)) w0 { (σ.kill i) with ob:=(σ.kill i).ob.set i (.row e l) } a.tmps outs∧ERel T w' F (upd ρ i (.row e r)) (.sl i e 0 l.length false) r:=by
 refine ⟨hR.move hi (fun k hk hb=>hw k hk (by rw [hr0] at hb;exact hb)) hs hos htp hout (fun b hb=>?_) ⟨rfl,fun b hb hF=>?_,ys,hown,hf⟩,?_⟩
 · rcases hr b hb with h|h
   · left;rw [hr0];exact h
   · exact .inr h
 · rcases hr b hb with h|h
   · have:(ρ i).block=some b:=by rw [hr0];exact h
     exact (hR.own this).2.1 hF
   · have:=hR.fsub b hF;omega
 · unfold ERel
   rw [upd_self]
   rcases hown.2 with ⟨rfl,h0⟩|⟨g,cap,cur,rfl,q2,q3,q4,_⟩
   · exact .inl ⟨rfl,rfl,rfl,h0⟩
   · exact .inr ⟨g,_,cap,0,rfl,by omega,q4,rfl,fun _=>rfl,.inr (by simp)⟩
theorem ownsRow_base {base base':Nat} {e:TypeId} {size n:Nat} {v:Value} {xs:List Value} (h:w.ownsRow base e size v n xs) (hb:base'≤base):w.ownsRow base' e size v n xs:=by
 refine ⟨h.1,?_⟩
 rcases h.2 with h|⟨g,cap,cur,q1,q2,q3⟩
 · exact .inl h
 · exact .inr ⟨g,cap,cur,q1,Nat.le_trans hb q2,q3⟩
theorem appendA_sound (hP:TabOk P T) (hR:Rel T w F ρ w0 σ a.tmps outs) {t e:TypeId} (ht:T.ty t=.slice e) {c:Call} {s x:Operand} (hc:c.callee=.builtin .append) (hca:c.args=#[s,x]) (hct:c.argTypes=#[t,t])
 {es ex:E} {K:St→E→Prop} (hs:ERel T w F ρ es (a.eval s)) (hx:ERel T w F ρ ex (a.eval x)) (h:appendA T σ e es ex K):∃ σ' e',K σ' e'∧Does P T w0 w a outs (.call c) σ' e':=by
 have run:∀ (r:Value) (w':World),(∀ ty,(Builtin.append_ #[t,t] ty #[a.eval s,a.eval x]).run P w=.ok r w')→∀ o:Oper,o.op=.call c→(execOp a.eval o).run P w=.ok (.value r) w':=by
  intro r w' h1 o ho
  simp [execOp,ho,resolve,hc,hca,hct,invoke,builtin,h1 o.type]
 unfold appendA at h
 split at h;· exact h.elim
 rename_i xs hxs
 have hel:(xs=[]∧∃ ad c',a.eval x=.slice ad 0 c')∨(0<xs.length∧∃ b' off' c' news,a.eval x=.slice (some ⟨b',off',none⟩) xs.length c'∧Seg w b' off' news∧news.length=xs.length*T.sz e ∧
  FitsL T w F (List.replicate xs.length e) xs news):=by
  rcases elems_of hP hR hx hxs with ⟨⟨ad0,c0,h1⟩,h2⟩|⟨b,off,cap,cs,F1,h1,h2,h3,h4⟩
  · exact .inl ⟨h2,ad0,c0,h1⟩
  · by_cases hm:xs.length=0
    · rw [hm] at h1
      exact .inl ⟨List.eq_nil_of_length_eq_zero hm,_,_,h1⟩
    · have hsz:=h3.len hP.sized
      rw [szs_replicate] at hsz
      exact .inr ⟨by omega,b,off,cap,cs,h1,h2,hsz,h3.mono (fun b hb=>(h4 b hb).2) (fun _ _=>rfl)⟩
 have hFw:∀ {w':World},Below w.heap.size w w'→∀ b,F b→w'.heap[b]?=w.heap[b]?:=fun hb b hF=>hb.block b (hR.fsub b hF)
 have run':∀ {b off n cap:Nat} {olds:List Value} {base:Option Addr} (_:a.eval s=.slice base n cap) (_:(base=none∧n=0∧cap=0∧olds=[])∨(base=some ⟨b,off,none⟩∧Seg w b off olds)∨(∃ ad,base=some ad∧n=0∧olds=[]))
  (_:olds.length=n*T.sz e) {b' off' m c':Nat} {news:List Value} (_:a.eval x=.slice (some ⟨b',off',none⟩) m c') (_:news.length=m*T.sz e) (_:Seg w b' off' news) (_:0<m) (_:cap<n+m) (_:roomFor T e (n+m)),
  ∃ r w',(∀ o:Oper,o.op=.call c→(execOp a.eval o).run P w=.ok (.value r) w')∧w'.ownsRow w.heap.size e (T.sz e) r (n+m) (olds++news)∧Below w.heap.size w w':=by
  intro b off n cap olds base e1 e2 e3 b' off' m c' news e4 e5 e6 e7 e8 e9
  obtain ⟨r,w',h1,h2,h3⟩:=append_new (ty:=0) hP ht e2 e3 e5 e6 (c:=c') e7 e8 e9
  refine ⟨r,w',run r w' (fun ty=>?_),h2,h3⟩
  rw [e1,e4]
  exact h1
 split at h
 · rename_i i e' lo n cl
   obtain ⟨rfl,h⟩:=h
   split at h;rotate_left;· exact h.elim
   rename_i e2 l ho
   have hil:i<σ.ob.length:=(List.getElem?_eq_some_iff.1 ho).1
   have hob:=hR.ob _ _ ho
   obtain ⟨r0,hr0,rfl,q2,ys,q3,q4⟩:∃ r0,ρ i=.row e' r0∧e'=e2∧(∀ b,r0.ownBlock=some b→¬ F b)∧∃ xs,w.ownsRow w0.w.heap.size e2 (T.sz e2) r0 l.length xs∧FitsL T w F (List.replicate l.length e2) l xs:=by
    rcases hs with ⟨r1,_⟩|⟨b,n1,cap,off,r1,_⟩
    · rw [r1] at hob;obtain ⟨rfl,q2,ys,q3,q4⟩:=hob;exact ⟨_,r1,rfl,q2,ys,q3,q4⟩
    · rw [r1] at hob;obtain ⟨rfl,q2,ys,q3,q4⟩:=hob;exact ⟨_,r1,rfl,q2,ys,q3,q4⟩
   split at h
   ·
    obtain ⟨hn,hroom,h⟩:=h
    have hlen:(l.take n++xs).length=n+xs.length:=by simp;omega
    have hfl:FitsL T w F (List.replicate n e') (l.take n) (ys.take (n*T.sz e')):=by simpa using q4.slice hP.sized (lo:=0) (m:=n) (by omega)
    have hol:=hfl.len hP.sized
    rw [szs_replicate] at hol
    have hown:w.ownsRow w0.w.heap.size e' (T.sz e') (a.eval s) n (ys.take (n*T.sz e'))∧(a.eval s).ownBlock=r0.ownBlock:=by
     rcases hs with ⟨r1,v1,_,n0⟩|⟨b,n1,cap,off,r1,b1,b2,v1,b3,_⟩
     · rw [hr0] at r1;cases r1
       subst n0
       rw [v1];simp;exact World.ownsRow_nil _ _ _ _
     · rw [hr0] at r1;cases r1
       have:=b3 rfl
       subst this
       rcases q3.2 with ⟨q,_⟩|⟨b',cap',cur,hr,hb,hh,hn',hc',hs',htk⟩
       · cases q
       · cases hr
         rw [v1]
         refine ⟨⟨hol,.inr ⟨b,cap,cur,rfl,hb,hh,by omega,hc',hs',?_⟩⟩,rfl⟩
         rw [← htk,List.take_take,Nat.min_eq_left (Nat.mul_le_mul_right _ hn)]
    have fin:∀ (r:Value) (w':World) (ds:List Value),(∀ k,k<w.heap.size→r0.ownBlock≠some k→w'.heap[k]?=w.heap[k]?)→w.heap.size≤w'.heap.size→w'.os=w.os→w'.tape=w.tape→w'.output=w.output →
     (∀ b,r.ownBlock=some b→r0.ownBlock=some b∨(w.heap.size≤b∧b<w'.heap.size))→w'.ownsRow w0.w.heap.size e' (T.sz e') r (n+xs.length) ds→FitsL T w' F (List.replicate (n+xs.length) e') (l.take n++xs) ds →
     (∀ o:Oper,o.op=.call c→(execOp a.eval o).run P w=.ok (.value r) w')→∃ σ' e',K σ' e'∧Does P T w0 w a outs (.call c) σ' e':=by
     intro r w' ds g1 g2 g3 g4 g5 g6 g7 g8 g9
     have:=row_moved (w':=w') hR hil (l:=l.take n++xs) (r:=r) (ys:=ds) hr0 g1 g2 g3 g4 g5 g6 (by rw [hlen];exact g7) (by rw [hlen];exact g8)
     rw [hlen] at this
     exact ⟨_,_,h,w',F,_,r,.value r,this.2,this.1,.inl rfl,g9,by simp [isMake]⟩
    have hrep:List.replicate (n+xs.length) e'=List.replicate n e'++List.replicate xs.length e':=by rw [List.replicate_append_replicate]
    rcases hel with ⟨rfl,ad,c',hv⟩|⟨hm,b',off',c',news,hv,hseg,hnl,hfn⟩
    ·
     obtain ⟨base,cap,hs',hcap⟩:∃ base cap,a.eval s=.slice base n cap∧n≤cap:=by
      rcases hown.1.2 with ⟨h1,h2⟩|⟨g,cap,cur,h1,_,_,h2,_⟩
      · exact ⟨none,0,by rw [h1,h2],by omega⟩
      · exact ⟨_,cap,h1,h2⟩
     refine fin (a.eval s) w (ys.take (n*T.sz e')) (fun _ _ _=>rfl) (Nat.le_refl _) rfl rfl rfl (fun b hb=>.inl (by rw [← hown.2];exact hb)) hown.1 (by simpa using hfl) (run _ w fun ty=>?_)
     rw [hs',hv]
     exact append_none hP ht hcap (.inr rfl) w
    · rcases hown.1.2 with ⟨h1,h2⟩|⟨g,cap,cur,h1,hg,hh,h2,h3,h4,h5⟩
      ·
       subst h2
       obtain ⟨r,w',e1,e2,e3⟩:=run' (b:=0) (off:=0) (olds:=[]) h1 (.inl ⟨rfl,rfl,rfl,rfl⟩) (by simp) hv hnl hseg hm (by omega) (by simpa using hroom)
       refine fin r w' ([]++news) (fun k hk _=>e3.block k hk) e3.size e3.os e3.tape e3.output (fun b hb=>.inr (e2.lt b hb)) (ownsRow_base e2 hR.below.size) ?_ e1
       simpa using hfn.mono (fun _ x=>x) (hFw e3)
      · by_cases hroom':n+xs.length≤cap
        ·
         obtain ⟨hu,hno⟩:=hP.slice _ _ ht
         obtain ⟨i0,i1,i2,_⟩:=hP.info e' hno
         have hfit:n*i0.size+news.length≤cur.size:=by rw [hnl,i2,h4,← Nat.add_mul];exact Nat.mul_le_mul_right _ hroom'
         have hone:∀ u∈news,u.oneCell'=true:=fun u hu=>by
          have:=hfn.onesL u hu
          exact this
         have hrun:=fun ty=>run_append_room (P:=P) w t ty e' i0 hu i1 g n cap cur hh ⟨b',off',none⟩ xs.length c' news (by rw [hnl,i2]) (fun j v hv=>by rw [addr_add];exact hseg j v hv) hone hroom' hfit
         simp only [i2] at hrun
         have hgr:r0.ownBlock=some g:=by rw [← hown.2,h1];rfl
         refine fin (.slice (some ⟨g,0,none⟩) (n+xs.length) cap) (w.setRow g (cur.toList.take (n*T.sz e')++news++cur.toList.drop (n*T.sz e'+news.length)).toArray) (ys.take (n*T.sz e')++news) ?_ (by simp [World.setRow]) rfl rfl rfl (fun b hb=>.inl (by rw [hgr];simpa [Value.ownBlock] using hb)) ⟨?_,.inr ⟨g,cap,_,rfl,hg,setRow_heap w g cur _ e' _ hh,hroom',h3,?_,?_⟩⟩ ?_ (run _ _ fun ty=>by rw [h1,hv];exact hrun ty)
         · intro k hk hkg
           exact setRow_other w g k _ (fun e=>hkg (by rw [hgr,e]))
         · rw [List.length_append,hol,hnl,Nat.add_mul]
         · have:cur.toList.length=cap*T.sz e':=by simpa using h4
           simp only [List.size_toArray,List.length_append,List.length_take,List.length_drop]
           rw [i2] at hfit
           have hcl:cur.toList.length=cur.size:=by simp
           omega
         · rw [← h5]
           have hlen2:((cur.toList.take (n*T.sz e'))++news).length=(n+xs.length)*T.sz e':=by rw [h5,List.length_append,hol,hnl,Nat.add_mul]
           rw [← hlen2]
           exact List.take_left
         · rw [hrep]
           have hoth:∀ k,F k→(w.setRow g (cur.toList.take (n*T.sz e')++news++cur.toList.drop (n*T.sz e'+news.length)).toArray).heap[k]?=w.heap[k]?:=fun k hF=>setRow_other w g k _ (fun e=>q2 g hgr (e▸hF))
           exact (hfl.mono (fun _ x=>x) hoth).append (hfn.mono (fun _ x=>x) hoth)
        ·
         have hseg0:Seg w g 0 (ys.take (n*T.sz e')):=by
          have:=seg_of_cells (w:=w) hh 0 (n*T.sz e')
          rw [List.drop_zero,h5] at this
          exact this
         obtain ⟨r,w',e1,e2,e3⟩:=run' h1 (.inr (.inl ⟨rfl,hseg0⟩)) hol hv hnl hseg hm (by omega) hroom
         refine fin r w' (ys.take (n*T.sz e')++news) (fun k hk _=>e3.block k hk) e3.size e3.os e3.tape e3.output (fun b hb=>.inr (e2.lt b hb)) (ownsRow_base e2 hR.below.size) ?_ e1
         rw [hrep]
         exact (hfl.mono (fun _ x=>x) (hFw e3)).append (hfn.mono (fun _ x=>x) (hFw e3))
   ·
    obtain ⟨hn,hm,rfl,hroom,h⟩:=h
    have hlen:((l.drop lo).take n++xs).length=n+xs.length:=by simp;omega
    have hfl:=q4.slice hP.sized (lo:=lo) (m:=n) (by omega)
    have hol:=hfl.len hP.sized
    rw [szs_replicate] at hol
    rcases hel with ⟨rfl,_⟩|⟨_,b',off',c',news,hv,hseg,hnl,hfn⟩
    · simp at hm
    obtain ⟨base,bb,off,hs',hbase⟩:∃ base bb off,a.eval s=.slice base n n∧((base=none∧n=0∧n=0∧(ys.drop (lo*T.sz e')).take (n*T.sz e')=[])∨(base=some ⟨bb,off,none⟩∧Seg w bb off ((ys.drop (lo*T.sz e')).take (n*T.sz e')))):=by
     rcases hs with ⟨r1,v1,_,n0⟩|⟨b,n1,cap,off,r1,b1,b2,v1,b3,b4⟩
     · subst n0
       exact ⟨none,0,0,v1,.inl ⟨rfl,rfl,rfl,by simp⟩⟩
     · rw [hr0] at r1;cases r1
       refine ⟨_,b,off,v1,.inr ⟨rfl,?_⟩⟩
       rcases q3.2 with ⟨q,_⟩|⟨b'',cap',cur,hr,hb,hh,hn',hc',hs',htk⟩
       · cases q
       · cases hr
         rcases b4 with b4|b4
         · subst b4
           intro j y hy
           simp at hy
         · have hys:Seg w b 0 ys:=by
            have:=seg_of_cells (w:=w) hh 0 (l.length*T.sz e')
            rw [List.drop_zero,htk] at this
            exact this
           have:=hys.sub (lo*T.sz e') (n*T.sz e')
           rw [Nat.zero_add] at this
           rw [b4]
           exact this
    have hbase':(base=none∧n=0∧n=0∧(ys.drop (lo*T.sz e')).take (n*T.sz e')=[])∨(base=some ⟨bb,off,none⟩∧Seg w bb off ((ys.drop (lo*T.sz e')).take (n*T.sz e'))):=hbase
    obtain ⟨r,w',e1,e2,e3⟩:=run' hs' (hbase'.imp_right .inl) hol hv hnl hseg hm (by omega) hroom
    have:=new_row hR e3 (l:=(l.drop lo).take n++xs) (by rw [hlen];exact e2) (by
     rw [hlen,← List.replicate_append_replicate]
     exact (hfl.mono (fun _ x=>x) (hFw e3)).append (hfn.mono (fun _ x=>x) (hFw e3)))
    rw [hlen] at this
    exact ⟨_,_,h,w',F,_,r,.value r,this.2,this.1,.inl rfl,e1,by simp [isMake]⟩
 ·
  obtain ⟨hroom,h⟩:=h
  have hs':a.eval s=.slice none 0 0:=hs
  rcases hel with ⟨rfl,ad,c',hv⟩|⟨hm,b',off',c',news,hv,hseg,hnl,hfn⟩
  · have:=new_row (a:=a) hR (Below.refl _ _) (l:=([]:List V)) (World.ownsRow_nil _ _ e _) .nil
    refine ⟨_,_,h,w,F,_,.slice none 0 0,.value (.slice none 0 0),this.2,this.1,.inl rfl,run _ w fun ty=>?_,by simp [isMake]⟩
    rw [hs',hv]
    exact append_none hP ht (Nat.le_refl 0) (.inr rfl) w
  · obtain ⟨r,w',e1,e2,e3⟩:=run' (b:=0) (off:=0) (olds:=[]) hs' (.inl ⟨rfl,rfl,rfl,rfl⟩) (by simp) hv hnl hseg hm (by omega) (by simpa using hroom)
    have:=new_row hR e3 (l:=xs) (xs:=[]++news) (by simpa using e2) (by simpa using hfn.mono (fun _ x=>x) (hFw e3))
    exact ⟨_,_,h,w',F,_,r,.value r,this.2,this.1,.inl rfl,e1,by simp [isMake]⟩
 ·
  rename_i e' l cl
  obtain ⟨rfl,rfl,hm,hroom,h⟩:=h
  have hlen:(l++xs).length=l.length+xs.length:=by simp
  rcases hel with ⟨rfl,_⟩|⟨_,b',off',c',news,hv,hseg,hnl,hfn⟩
  · simp at hm
  rcases hs with ⟨ad0,c0,v1,rfl,had,hc0⟩|⟨b,off,cap,cs,v1,h2,h3,h4,h5,h6⟩
  · obtain rfl:=hc0 rfl
    obtain ⟨r,w',e1,e2,e3⟩:=run' (b:=0) (off:=0) (olds:=[]) v1 (by cases ad0 with|none=>exact .inl ⟨rfl,rfl,rfl,rfl⟩|some ad=>exact .inr (.inr ⟨ad,rfl,rfl,rfl⟩)) (by simp) hv hnl hseg hm (by omega) (by simpa using hroom)
    have:=new_row hR e3 (l:=[]++xs) (xs:=[]++news) (by simpa using e2) (by simpa using hfn.mono (fun _ x=>x) (hFw e3))
    refine ⟨_,_,h,w',F,_,r,.value r,?_,this.1,.inl rfl,e1,by simp [isMake]⟩
    simpa using this.2
  · have hcap:=h3 rfl
    subst hcap
    have hol:=h6.len hP.sized
    rw [szs_replicate] at hol
    obtain ⟨r,w',e1,e2,e3⟩:=run' v1 (.inr (.inl ⟨rfl,h5⟩)) hol hv hnl hseg hm (by omega) hroom
    have:=new_row hR e3 (l:=l++xs) (by rw [hlen];exact e2) (by
     rw [hlen,← List.replicate_append_replicate]
     exact (h6.mono (fun _ x=>x) (hFw e3)).append (hfn.mono (fun _ x=>x) (hFw e3)))
    rw [hlen] at this
    exact ⟨_,_,h,w',F,_,r,.value r,this.2,this.1,.inl rfl,e1,by simp [isMake]⟩
 · exact h.elim
theorem appendA_below (hP:TabOk P T) (hR:Rel T w F ρ w0 σ a.tmps outs) {t e:TypeId} (ht:T.ty t=.slice e) {c:Call} {s x:Operand} (hc:c.callee=.builtin .append) (hca:c.args=#[s,x]) (hct:c.argTypes=#[t,t])
 {es ex:E} {K:St→E→Prop} (hs:ERel T w F ρ es (a.eval s)) (hx:ERel T w F ρ ex (a.eval x)) (hf:freshA es=true) (h:appendA T σ e es ex K):∃ nx w',(∀ o:Oper,o.op=.call c→(execOp a.eval o).run P w=.ok nx w')∧Below w.heap.size w w':=by
 have run:∀ (r:Value) (w':World),(∀ ty,(Builtin.append_ #[t,t] ty #[a.eval s,a.eval x]).run P w=.ok r w')→∀ o:Oper,o.op=.call c→(execOp a.eval o).run P w=.ok (.value r) w':=by
  intro r w' h1 o ho
  simp [execOp,ho,resolve,hc,hca,hct,invoke,builtin,h1 o.type]
 unfold appendA at h
 split at h;· exact h.elim
 rename_i xs hxs
 have hel:(xs=[]∧∃ ad c',a.eval x=.slice ad 0 c')∨(0<xs.length∧∃ b' off' c' news,a.eval x=.slice (some ⟨b',off',none⟩) xs.length c'∧Seg w b' off' news∧news.length=xs.length*T.sz e):=by
  rcases elems_of hP hR hx hxs with ⟨⟨ad0,c0,h1⟩,h2⟩|⟨b,off,cap,cs,F1,h1,h2,h3,h4⟩
  · exact .inl ⟨h2,ad0,c0,h1⟩
  · by_cases hm:xs.length=0
    · rw [hm] at h1
      exact .inl ⟨List.eq_nil_of_length_eq_zero hm,_,_,h1⟩
    · have hsz:=h3.len hP.sized
      rw [szs_replicate] at hsz
      exact .inr ⟨by omega,b,off,cap,cs,h1,h2,hsz⟩
 split at h
 · simp [freshA] at hf
 · obtain ⟨hroom,h⟩:=h
   have hs':a.eval s=.slice none 0 0:=hs
   rcases hel with ⟨rfl,ad,c',hv⟩|⟨hm,b',off',c',news,hv,hseg,hnl⟩
   · refine ⟨.value (.slice none 0 0),w,run (.slice none 0 0) w fun ty=>?_,Below.refl _ _⟩
     rw [hs',hv]
     exact append_none hP ht (Nat.le_refl 0) (.inr rfl) w
   · obtain ⟨r,w',h1,h2,h3⟩:=append_new (ty:=0) (b:=0) (off:=0) (n:=0) (cap:=0) hP ht (olds:=[]) (.inl ⟨rfl,rfl,rfl,rfl⟩) (by simp) hnl hseg (c:=c') hm (by omega) (by simpa using hroom)
     exact ⟨_,w',run r w' (fun ty=>by rw [hs',hv];exact h1),h3⟩
 · rename_i e' l cl
   obtain ⟨rfl,rfl,hm,hroom,h⟩:=h
   rcases hel with ⟨rfl,_⟩|⟨_,b',off',c',news,hv,hseg,hnl⟩
   · simp at hm
   rcases hs with ⟨ad0,c0,v1,rfl,had,hc0⟩|⟨b,off,cap,cs,v1,h2,h3,h4,h5,h6⟩
   · obtain rfl:=hc0 rfl
     obtain ⟨r,w',h1,h2,h3⟩:=append_new (ty:=0) (b:=0) (off:=0) (n:=0) (cap:=0) (base:=ad0) hP ht (olds:=[]) (by cases ad0 with|none=>exact .inl ⟨rfl,rfl,rfl,rfl⟩|some ad=>exact .inr (.inr ⟨ad,rfl,rfl,rfl⟩)) (by simp) hnl hseg (c:=c') hm (by omega) (by simpa using hroom)
     exact ⟨_,w',run r w' (fun ty=>by rw [v1,hv];exact h1),h3⟩
   · have hcap:=h3 rfl
     subst hcap
     have hol:=h6.len hP.sized
     rw [szs_replicate] at hol
     obtain ⟨r,w',g1,g2,g3⟩:=append_new (ty:=0) (n:=l.length) (cap:=l.length) hP ht (.inr (.inl ⟨rfl,h5⟩)) hol hnl hseg (c:=c') hm (by omega) hroom
     exact ⟨_,w',run r w' (fun ty=>by rw [v1,hv];exact g1),g3⟩
 · exact h.elim
end Go.Eng
namespace Go.Eng
open Go.RowKit
variable {P:Program} {T:Tab} {w w':World} {w0:Base T} {F F':Nat→Prop} {ρ ρ':Nat→RI} {σ:St} {a:Act} {outs:List (Array Value)}
theorem zip_parts (f:Operand→Value):∀ (ps:List (Nat × Operand)) (k:Nat),ps.map (·.1)=List.range' k ps.length→ps.map (fun (i,x)=>(i,f x))=((ps.map fun p=>f p.2).zipIdx k).map fun x=>(x.2,x.1)
 | [],_,_=>rfl
 | (i,x)::ps,k,h=>by
   simp only [List.map_cons,List.length_cons,List.range'_succ,List.cons.injEq] at h
   obtain ⟨rfl,h⟩:=h
   simp only [List.map_cons,List.zipIdx_cons]
   rw [zip_parts f ps (i+1) h]
theorem run_buildSlice0 (w:World) {t e:TypeId} {i:TypeInfo} (hu:P.underlying t=some (.slice e)) (i1:P.info? e=some i) :
 (Instr.buildSlice t 0 #[]).run P w=.ok (.slice (some ⟨w.heap.size,0,none⟩) 0 0) (w.alloc (.cells #[] e)):=by
 have h0:∀ f:Nat→Value,Array.map f (Array.range 0)=#[]:=fun f=>Array.eq_empty_of_size_eq_zero (by simp)
 simp [Instr.buildSlice,run_underlying hu,sizeOf,typeInfo,i1,Instr.fill,newRow,h0]
theorem buildSlice_some (hP:TabOk P T) (hR:Rel T w F ρ w0 σ a.tmps outs) {t e:TypeId} (ht:T.ty t=.slice e) {n:Nat} {parts:Array (Nat × Operand)} (hp:parts.toList.map (·.1)=List.range n) (hn:0<n) (hs:n*T.sz e≤2^24)
 {K:St→E→Prop} (h:evalVs T σ e (parts.toList.map (·.2)) fun vs=>K { σ with ob:=σ.ob++[.row e vs] } (.sl σ.ob.length e 0 n false)):∃ σ' e',K σ' e'∧Does P T w0 w a outs (.buildSlice t n parts) σ' e':=by
 obtain ⟨hu,hno⟩:=hP.slice _ _ ht
 obtain ⟨i,i1,i2,i3,z,i4,i5,i6,i7,_⟩:=hP.info e hno
 have hse:=(hP.sized.slice _ _ ht).2
 obtain ⟨vs,h,hf,hall⟩:=evalVs_sound hR h
 have hlen:parts.toList.length=n:=by have:=congrArg List.length hp;simpa using this
 have hzip:=zip_parts a.eval parts.toList 0 (by rw [hp,hlen,List.range_eq_range'])
 have hvl:vs.length=n:=by have:=hf.lens;simpa [hlen] using this
 have hcells:∀ v∈parts.toList.map (fun p=>a.eval p.2),v.cells.size=T.sz e:=by
  intro v hv
  obtain ⟨p,hp1,rfl⟩:=List.mem_map.1 hv
  obtain ⟨y,hy⟩:=hall p.2 (List.mem_map.2 ⟨p,hp1,rfl⟩)
  simpa using hy.len hP.sized
 have hfill:=Great.fill_whole hse (parts.toList.map (fun p=>a.eval p.2)) ((Array.range (n*i.size)).map (z.cells[· % z.cells.size]!)) hcells (by simp only [List.length_map,hlen,Array.size_map,Array.size_range,i2])
 rw [← hzip] at hfill
 have hflat:((parts.toList.map fun p=>a.eval p.2).flatMap fun v=>v.cells.toList)=((parts.toList.map (·.2)).map fun x=>(a.eval x).cells.toList).flatten:=by
  rw [List.flatMap_def,List.map_map,List.map_map];rfl
 rw [hflat] at hfill
 have hrun:=run_buildSlice (P:=P) w t e n (parts.map fun (i,x)=>(i,a.eval x)) _ i z hu i1 i4 (by rw [i2];omega) (by
  rw [i2]
  have:=Nat.mul_pos hn hse
  omega) (by rw [i2];simpa [i2] using hfill)
 have hll:=hf.len hP.sized
 rw [szs_replicate,List.length_map,hlen] at hll
 have hcap:n≤maxLen:=by
  have:n*1≤n*T.sz e:=Nat.mul_le_mul_left n hse
  unfold maxLen;omega
 have hb:=below_alloc w (.cells (((parts.toList.map (·.2)).map fun x=>(a.eval x).cells.toList).flatten).toArray e)
 have:=new_row (a:=a) hR hb (l:=vs) (r:=.slice (some ⟨w.heap.size,0,none⟩) n n) (xs:=((parts.toList.map (·.2)).map fun x=>(a.eval x).cells.toList).flatten)
  (by
    rw [hvl]
    refine ⟨hll,.inr ⟨w.heap.size,n,_,rfl,Nat.le_refl _,heap_alloc_new w _,Nat.le_refl _,hcap,by simpa using hll,?_⟩⟩
    rw [List.take_of_length_le]
    · exact Nat.le_of_eq (by simpa using hll))
  (by
    rw [hvl]
    rw [List.length_map,hlen] at hf
    exact hf.mono (fun _ x=>x) (fun b hF=>hb.block b (hR.fsub b hF)))
 rw [hvl] at this
 exact ⟨_,_,h,_,F,_,_,.value _,this.2,this.1,.inl rfl,fun o ho=>by simp [execOp,ho,hrun],fun _=>hb⟩
theorem buildSlice_sound (hP:TabOk P T) (hR:Rel T w F ρ w0 σ a.tmps outs) {t e:TypeId} (ht:T.ty t=.slice e) {n:Nat} {parts:Array (Nat × Operand)} (hp:parts.toList.map (·.1)=List.range n) (hs:n*T.sz e≤2^24)
 {K:St→E→Prop} (h:evalVs T σ e (parts.toList.map (·.2)) fun vs=>K { σ with ob:=σ.ob++[.row e vs] } (.sl σ.ob.length e 0 n false)):∃ σ' e',K σ' e'∧Does P T w0 w a outs (.buildSlice t n parts) σ' e':=by
 rcases Nat.eq_zero_or_pos n with hn|hn
 · subst hn
   have hpn:parts=#[]:=by
    have h1:=congrArg List.length hp
    have:parts.toList=[]:=List.eq_nil_of_length_eq_zero (by simpa using h1)
    exact Array.toList_eq_nil_iff.1 this
   subst hpn
   obtain ⟨hu,hno⟩:=hP.slice _ _ ht
   obtain ⟨i,i1,_⟩:=hP.info e hno
   have hrun:=run_buildSlice0 (P:=P) w hu i1
   have hb:=below_alloc w (.cells #[] e)
   have:=new_row (a:=a) hR hb (l:=[]) (r:=.slice (some ⟨w.heap.size,0,none⟩) 0 0) (xs:=[])
    ⟨by simp,.inr ⟨w.heap.size,0,#[],rfl,Nat.le_refl _,heap_alloc_new w _,Nat.le_refl _,by unfold maxLen;omega,by simp,by simp⟩⟩ .nil
   exact ⟨_,_,h,_,F,_,_,.value _,this.2,this.1,.inl rfl,fun o ho=>by simp [execOp,ho,hrun],fun _=>hb⟩
 · exact buildSlice_some hP hR ht hp hn hs h
theorem made_fits (hP:TabOk P T) {e:TypeId} {n:Nat} {z:Value} (hz:Fits T w F e (T.zero e) z.cells.toList):FitsL T w F (List.replicate n e) (List.replicate n (T.zero e)) (madeCells z.cells (n*T.sz e)).toList:=by
 have hzl:=hz.len hP.sized
 have hzs:z.cells.size=T.sz e:=by simpa using hzl
 refine FitsL.ofNth (by simp) (by simp [madeCells,szs_replicate]) (fun k t hk=>?_)
 rw [List.getElem?_replicate] at hk
 split at hk;rotate_left;· cases hk
 rename_i hkn
 cases hk
 rw [offs_replicate T n k _ (by omega)]
 have h1:(List.replicate n (T.zero e)).getD k default=T.zero e:=by simp [List.getD_eq_getElem?_getD,hkn]
 rw [h1]
 have h2:((madeCells z.cells (n*T.sz e)).toList.drop (k*T.sz e)).take (T.sz e)=z.cells.toList:=by
  apply List.ext_getElem?
  intro j
  rw [List.getElem?_take]
  split
  · rename_i hj
    have hlt:k*T.sz e+j<n*T.sz e:=by
     have:(k+1)*T.sz e≤n*T.sz e:=Nat.mul_le_mul_right _ hkn
     rw [Nat.add_mul,Nat.one_mul] at this
     omega
    have hmod:(k*T.sz e+j) % T.sz e=j:=by rw [Nat.add_comm,Nat.add_mul_mod_self_right,Nat.mod_eq_of_lt hj]
    have hjz:j<z.cells.size:=by omega
    simp [madeCells,hlt,hzs,hmod]
    rw [getElem!_pos z.cells j hjz,Array.getElem?_eq_getElem hjz]
  · rename_i hj
    rw [List.getElem?_eq_none (by omega)]
 rw [h2]
 exact hz
theorem makeSlice_sound (hP:TabOk P T) (hR:Rel T w F ρ w0 σ a.tmps outs) {t e:TypeId} (ht:T.ty t=.slice e) {l c:Operand} {n:Int} {k k':IntKind} (hl:a.eval l=.int k n) (hc:a.eval c=.int k' n) (h0:0≤n) (hroom:roomFor T e n.toNat)
 (hfn:T.ty e≠.fn) (hpt:∀ u,T.ty e≠.ptr u)
 {K:St→E→Prop} (h:K { σ with ob:=σ.ob++[.row e (List.replicate n.toNat (T.zero e))] } (.sl σ.ob.length e 0 n.toNat false)):∃ σ' e',K σ' e'∧Does P T w0 w a outs (.makeSlice t l c) σ' e':=by
 obtain ⟨hu,hno⟩:=hP.slice _ _ ht
 obtain ⟨i,i1,i2,i3,z,i4,i5,i6,i7,i8,_⟩:=hP.info e hno
 have hse:=(hP.sized.slice _ _ ht).2
 obtain ⟨r1,r2⟩:=hroom
 obtain ⟨m,rfl⟩:=Int.eq_ofNat_of_zero_le h0
 simp only [Int.toNat_natCast] at *
 obtain ⟨w',g1,g2,g3⟩:=run_make_full (P:=P) w w.heap.size t e i z (T.sz e) hu i1 i4 i2 k k' m (by rw [i3,Nat.mul_comm];omega) r1 (Nat.le_refl _)
 have hb:Below w.heap.size w w':=⟨g3.os,g3.tape,g3.output,g3.size,fun b hb=>g3.block b hb (by simp)⟩
 have:=new_row (a:=a) hR hb (l:=List.replicate m (T.zero e)) (by rw [List.length_replicate];exact g2) (by rw [List.length_replicate];exact made_fits hP (i8 hfn hpt w' F))
 rw [List.length_replicate] at this
 exact ⟨_,_,h,w',F,_,_,.value _,this.2,this.1,.inl rfl,fun o ho=>by simp [execOp,ho,hl,hc,g1],fun _=>hb⟩
theorem clearA_sound (hP:TabOk P T) (hR:Rel T w F ρ w0 σ a.tmps outs) {t e:TypeId} (ht:T.ty t=.slice e) {c:Call} {s:Operand} (hc:c.callee=.builtin .clear) (hca:c.args=#[s]) (hct:c.argTypes=#[t])
 {es:E} {K:St→E→Prop} (hs:ERel T w F ρ es (a.eval s)) (h:clearA T σ e es K):∃ σ' e',K σ' e'∧Does P T w0 w a outs (.call c) σ' e':=by
 obtain ⟨hu,hno⟩:=hP.slice _ _ ht
 have run:∀ (r:Value) (w':World),(∀ ty,(Builtin.clear_ #[t] ty #[a.eval s]).run P w=.ok r w')→∀ o:Oper,o.op=.call c→(execOp a.eval o).run P w=.ok (.value r) w':=by
  intro r w' h1 o ho
  simp [execOp,ho,resolve,hc,hca,hct,invoke,builtin,h1 o.type]
 unfold clearA at h
 split at h;rotate_left;· exact h.elim
 rename_i i e' lo n cl
 obtain ⟨rfl,hfn,hpt,h⟩:=h
 split at h;rotate_left;· exact h.elim
 rename_i e2 l ho
 obtain ⟨hle,h⟩:=h
 have hil:i<σ.ob.length:=(List.getElem?_eq_some_iff.1 ho).1
 have hob:=hR.ob _ _ ho
 have same:lo+n=lo→({ σ with ob:=σ.ob.set i (.row e' (l.take lo++List.replicate n (T.zero e')++l.drop (lo+n))) }:St)={ σ with ob:=σ.ob.set i (.row e' l) }:=by
  intro h0
  have:n=0:=by omega
  subst this
  simp
 have keep:e2=e'→({ σ with ob:=σ.ob.set i (.row e' l) }:St)=σ:=by
  intro h0
  subst h0
  have:σ.ob.set i (.row e2 l)=σ.ob:=by
   apply List.ext_getElem?
   intro j
   rw [List.getElem?_set]
   split
   · rename_i hj;subst hj;first|exact ho.symm|(rw [if_pos hil];exact ho.symm)
   · rfl
  rw [this]
 rcases hs with ⟨h1,h2,rfl,rfl⟩|⟨b,m,cap,off,h1,h2,h3,h4,h5,h6⟩
 · rw [h1] at hob
   obtain ⟨rfl,q2,xs,q3,q4⟩:=hob
   rw [same rfl,keep rfl] at h
   exact ⟨_,_,h,w,F,ρ,.tuple #[],.value _,⟨[],rfl,trivial⟩,hR,.inl rfl,run _ _ (fun ty=>by rw [h2];simp [Builtin.clear_,run_underlying hu]),fun hm=>by simp [isMake] at hm⟩
 · rw [h1] at hob
   obtain ⟨rfl,q2,xs,q3,q4⟩:=hob
   by_cases hn0:n=0
   · subst hn0
     rw [same rfl,keep rfl] at h
     exact ⟨_,_,h,w,F,ρ,.tuple #[],.value _,⟨[],rfl,trivial⟩,hR,.inl rfl,run _ _ (fun ty=>by rw [h4];simp [Builtin.clear_,run_underlying hu]),fun hm=>by simp [isMake] at hm⟩
   · have hblk:(ρ i).block=some b:=by rw [h1];rfl
     rcases q3.2 with ⟨q,_⟩|⟨b',cap',cur,hr,hb,hh,hn,hcp,hsz,htk⟩
     · cases q
     cases hr
     have hoff:off=lo*T.sz e':=by rcases h6 with h6|h6<;>omega
     subst hoff
     obtain ⟨inf,i1,i2,i3,z,i4,i5,i6,i7,i8,_⟩:=hP.info e' hno
     have hzf:=i8 hfn hpt w F
     have hZ:=made_fits (n:=n) hP hzf
     have hzs:z.cells.size=T.sz e':=by simpa using hzf.len hP.sized
     have hxl:xs.length=l.length*T.sz e':=q3.1
     have hml:(lo+n)*T.sz e'≤l.length*T.sz e':=Nat.mul_le_mul_right _ hle
     rw [Nat.add_mul] at hml
     have hcapl:l.length*T.sz e'≤cap*T.sz e':=Nat.mul_le_mul_right _ hn
     have hcl:cur.toList.length=cap*T.sz e':=by simpa using hsz
     have hZl:(madeCells z.cells (n*T.sz e')).toList.length=n*T.sz e':=by simp [madeCells]
     have hst:=run_storeCells_at P b (lo*T.sz e') e' (madeCells z.cells (n*T.sz e')).toList 0 cur w hh (by rw [hZl,← Array.length_toList,hcl];omega) (fun v hv=>hZ.onesL v hv)
     simp only [Nat.add_zero] at hst
     have hzc:Builtin.zeroCells z.cells n=madeCells z.cells (n*T.sz e'):=by rw [← hzs];rfl
     have hzv:∀ W,(zeroValue e').run P W=.ok z W:=fun W=>by simp [zeroValue,typeInfo,i1,i4]
     have hrun:∀ o:Oper,o.op=.call c→(execOp a.eval o).run P w=.ok (.value (.tuple #[])) (w.setRow b (splice cur.toList (lo*T.sz e') (madeCells z.cells (n*T.sz e')).toList).toArray):=by
      refine run _ _ (fun ty=>?_)
      obtain ⟨n',rfl⟩:∃ n',n=n'+1:=⟨n-1,by omega⟩
      rw [h4]
      simp [Builtin.clear_,run_underlying hu,hzv,hzc,hst,splice]
     have hoth:∀ k,F k→(w.setRow b (splice cur.toList (lo*T.sz e') (madeCells z.cells (n*T.sz e')).toList).toArray).heap[k]?=w.heap[k]?:=fun k hF=>setRow_other w b k _ (fun e=>q2 b rfl (e▸hF))
     refine ⟨_,_,h,w.setRow b (splice cur.toList (lo*T.sz e') (madeCells z.cells (n*T.sz e')).toList).toArray,F,ρ,.tuple #[],.value _,⟨[],rfl,trivial⟩,?_,.inl rfl,hrun,by simp [isMake]⟩
     refine hR.store hblk hil (fun k hk=>setRow_other w b k _ hk) (by simp [World.setRow]) rfl rfl rfl ?_
     rw [h1]
     have hll:(l.take lo++List.replicate n (T.zero e')++l.drop (lo+n)).length=l.length:=by simp;omega
     refine ⟨rfl,q2,splice xs (lo*T.sz e') (madeCells z.cells (n*T.sz e')).toList,⟨?_,.inr ⟨b,cap,(splice cur.toList (lo*T.sz e') (madeCells z.cells (n*T.sz e')).toList).toArray,by rw [hll],hb,setRow_heap w b cur _ e' _ hh,by rw [hll];exact hn,hcp,?_,?_⟩⟩,?_⟩
     · rw [splice_length _ _ _ (by omega),hll];exact hxl
     · rw [List.size_toArray,splice_length _ _ _ (by omega)];exact hcl
     · rw [hll,splice_take _ _ _ _ (by omega) (by omega),htk]
     · have e1:List.replicate l.length e'=List.replicate lo e'++List.replicate n e'++List.replicate (l.length-(lo+n)) e':=by
        rw [List.replicate_append_replicate,List.replicate_append_replicate];congr 1;omega
       rw [hll,e1]
       have f1:=q4.slice hP.sized (lo:=0) (m:=lo) (by omega)
       have f3:=q4.slice hP.sized (lo:=lo+n) (m:=l.length-(lo+n)) (by omega)
       rw [Nat.zero_mul,List.drop_zero,List.drop_zero] at f1
       rw [List.take_of_length_le (l:=l.drop (lo+n)) (by simp),List.take_of_length_le (l:=xs.drop _) (by rw [List.length_drop,hxl,Nat.sub_mul];omega)] at f3
       have e5:splice xs (lo*T.sz e') (madeCells z.cells (n*T.sz e')).toList=xs.take (lo*T.sz e')++(madeCells z.cells (n*T.sz e')).toList++xs.drop ((lo+n)*T.sz e'):=by
        unfold splice
        rw [hZl,← Nat.add_mul]
       rw [e5]
       exact ((f1.append hZ).append f3).mono (fun _ x=>x) hoth
theorem PathOk.same {root t t':TypeId} {p:List Nat} {off off':Nat} (h:PathOk T root p off t) (h':PathOk T root p off' t'):off=off'∧t=t':=by
 induction h generalizing off' t' with
 | nil=>cases h';exact ⟨rfl,rfl⟩
 | fld h1 h2 h3 ih =>
   cases h' with
   | fld g1 g2 g3 =>
     obtain ⟨rfl,rfl⟩:=ih g1
     rw [h2] at g2
     cases g2
     rw [h3] at g3
     cases g3
     exact ⟨rfl,rfl⟩
   | idx g1 g2 g3 =>
     obtain ⟨rfl,rfl⟩:=ih g1
     rw [h2] at g2
     cases g2
 | idx h1 h2 h3 ih =>
   cases h' with
   | fld g1 g2 g3 =>
     obtain ⟨rfl,rfl⟩:=ih g1
     rw [h2] at g2
     cases g2
   | idx g1 g2 g3 =>
     obtain ⟨rfl,rfl⟩:=ih g1
     rw [h2] at g2
     cases g2
     exact ⟨rfl,rfl⟩
theorem copyA_sound (hP:TabOk P T) (hR:Rel T w F ρ w0 σ a.tmps outs) {t e:TypeId} (ht:T.ty t=.slice e) (h1s:T.sz e=1) {c:Call} {d s:Operand} (hc:c.callee=.builtin .copy) (hca:c.args=#[d,s]) (hct:c.argTypes=#[t,t])
 {ed es:E} {K:St→E→Prop} (hd:ERel T w F ρ ed (a.eval d)) (hs:ERel T w F ρ es (a.eval s)) (h:copyA T σ e ed es K):∃ σ' e',K σ' e'∧Does P T w0 w a outs (.call c) σ' e':=by
 obtain ⟨hu,hno⟩:=hP.slice _ _ ht
 unfold copyA at h
 split at h;rotate_left;· exact h.elim
 rename_i i p ta lo i' p' ta' lo'
 obtain ⟨rfl,rfl,rfl,h⟩:=h
 split at h;rotate_left;· exact h.elim
 rename_i n e' hta
 obtain ⟨⟨rfl,hnm⟩,h⟩:=h
 split at h;rotate_left;· exact h.elim
 rename_i tv td v ho
 have hil:i'<σ.ob.length:=(List.getElem?_eq_some_iff.1 ho).1
 have hob:=hR.ob _ _ ho
 obtain ⟨b,root,off,n1,e1,p1,p2,p3,p4,p5⟩:=hd
 obtain ⟨b2,root2,off2,n2,e2,r1,r2,r3,r4,r5⟩:=hs
 rw [hta] at p3 r3
 cases p3
 cases r3
 rw [p1] at r1
 cases r1
 rw [p1] at hob
 obtain ⟨⟨q1,q1',q1''⟩,q2,q3,cs,ct,v',q4,q5,q6,q7⟩:=hob
 have hblk:(ρ i').block=some b:=by rw [p1];rfl
 obtain ⟨cs',rfl,hA,hf⟩:=q5
 have:=q1'' _ _ rfl
 subst this
 subst q1
 have hcs:cs'=cs:=by have:=q6.2;rw [if_pos hA] at this;simpa using this
 subst hcs
 obtain ⟨g1,g2⟩:=p2.get hP.sized hf
 obtain ⟨rfl,_⟩:=p2.same r2
 have hsa:=hP.sized.arr _ _ _ hta
 obtain ⟨inf,i1,i2,i3,_⟩:=hP.info e' hno
 obtain ⟨l,hg,f⟩:=g1.inv' hta
 rw [h1s,Nat.mul_one] at p5 r5
 have hsz:T.sz ta'=n:=by rw [hsa,szs_replicate,h1s,Nat.mul_one]
 rw [hsz] at f g2
 have hl:=f.lens
 rw [List.length_replicate] at hl
 obtain ⟨m,hm⟩:∃ m,m=min (n-lo') (n-lo):=⟨_,rfl⟩
 have src:(List.take m (List.drop (off+lo') cs'.toList)).length=m:=by rw [List.length_take,List.length_drop];omega
 have hsg:Seg w b 0 cs'.toList:=by
  intro j x hx
  simp only [World.cell?,q4]
  simpa using hx
 have hcp:∀ ty,(Builtin.copy_ #[t,t] ty #[a.eval d,a.eval s]).run P w=.ok (goInt m) (w.setRow b (splice cs'.toList (off+lo) (List.take m (List.drop (off+lo') cs'.toList))).toArray):=by
  intro ty
  rw [p5,r5]
  have:=run_copy_row (P:=P) w t t ty e' b (off+lo) (n-lo) (n-lo) ⟨b,off+lo',none⟩ (n-lo') (n-lo') cs' ct (List.take m (List.drop (off+lo') cs'.toList)) hu (by rw [i1];simp [i2,h1s]) q4 (by rw [src,hm]) ?_ (by rw [src,← Array.length_toList];omega) (fun v hv=>q7 v (by simpa using List.mem_of_mem_drop (List.mem_of_mem_take hv)))
  · rw [this]
    simp only [splice,src]
  · intro j v hv
    rw [addr_add]
    rw [List.getElem?_take] at hv
    split at hv;rotate_left;· cases hv
    rw [List.getElem?_drop] at hv
    simpa using hsg _ _ hv
 have hinl:((cs'.toList.drop off).take n).length=n:=by rw [List.length_take,List.length_drop];omega
 have hsrc:(((cs'.toList.drop off).take n).drop lo').take m=List.take m (List.drop (off+lo') cs'.toList):=by
  rw [List.drop_take,List.take_take,List.drop_drop,Nat.min_eq_left (by omega)]
 have f1:=f.slice hP.sized (lo:=0) (m:=lo) (by omega)
 have f2:=f.slice hP.sized (lo:=lo') (m:=m) (by omega)
 have f3:=f.slice hP.sized (lo:=lo+m) (m:=n-(lo+m)) (by omega)
 simp only [h1s,Nat.mul_one,List.drop_zero] at f1 f2 f3
 rw [List.take_of_length_le (l:=l.drop _) (by rw [List.length_drop];omega),List.take_of_length_le (l:=List.drop (lo+m) _) (by rw [List.length_drop];omega)] at f3
 have e1:List.replicate n e'=List.replicate lo e'++List.replicate m e'++List.replicate (n-(lo+m)) e':=by
  rw [List.replicate_append_replicate,List.replicate_append_replicate];congr 1;omega
 have fm:Fits T w F ta' (.agg (movedV l lo lo' m)) (splice ((cs'.toList.drop off).take n) lo (List.take m (List.drop (off+lo') cs'.toList))):=by
  refine .arr hta ?_
  rw [e1]
  unfold splice
  rw [src,← hsrc]
  exact (f1.append f2).append f3
 have hput:=p2.put hP.sized hf fm
 rw [splice_splice _ _ _ _ _ (by rw [hinl];omega) (by rw [src,hinl];omega) (by rw [hinl])] at hput
 have hmv:(V.agg (movedV (v.get p').toList lo lo' (min (n-lo') (n-lo))))=.agg (movedV l lo lo' m):=by rw [hg,← hm];rfl
 rw [hmv,← hm] at h
 have hgo:IntKind.i64.has (m:Int):=by
  have:m≤maxLen:=by omega
  unfold maxLen at this
  simp [IntKind.has,IntKind.min,IntKind.max,IntKind.signed,IntKind.bits]
  omega
 have hrun:∀ o:Oper,o.op=.call c→(execOp a.eval o).run P w=.ok (.value (goInt m)) (w.setRow b (splice cs'.toList (off+lo) (List.take m (List.drop (off+lo') cs'.toList))).toArray):=by
  intro o ho'
  simp [execOp,ho',resolve,hc,hca,hct,invoke,builtin,hcp o.type]
 have hcl:(splice cs'.toList (off+lo) (List.take m (List.drop (off+lo') cs'.toList))).length=cs'.size:=by rw [splice_length _ _ _ (by rw [src];omega)];simp
 refine ⟨_,_,h,w.setRow b (splice cs'.toList (off+lo) (List.take m (List.drop (off+lo') cs'.toList))).toArray,F,ρ,goInt m,.value _,⟨rfl,hgo⟩,?_,.inl rfl,hrun,by simp [isMake]⟩
 refine hR.store hblk hil (fun k hk=>setRow_other w b k _ hk) (by simp [World.setRow]) rfl rfl rfl ?_
 rw [p1]
 have hput':=hput.mono (w':=w.setRow b (splice cs'.toList (off+lo) (List.take m (List.drop (off+lo') cs'.toList))).toArray) (F':=F) (fun _ x=>x) (fun k hF=>setRow_other w b k _ (fun e=>q3 (e▸hF)))
 refine ⟨⟨rfl,q1',fun u z hz=>by cases hz;rfl⟩,q2,q3,(splice cs'.toList (off+lo) (List.take m (List.drop (off+lo') cs'.toList))).toArray,ct,.agg (splice cs'.toList (off+lo) (List.take m (List.drop (off+lo') cs'.toList))).toArray,setRow_heap w b cs' _ ct _ q4,⟨_,rfl,hA,by simpa using hput'⟩,⟨?_,by rw [hA];rfl⟩,?_⟩
 · rw [List.size_toArray,hcl];exact q6.1
 · intro c hc
   exact hput'.oneCell c (by simpa using hc)
theorem effA_sound (hP:TabOk P T) (hR:Rel T w F ρ w0 σ a.tmps outs) {op:Op} {K:St→E→Prop} (h:effA T σ op K):∃ σ' e,K σ' e∧Does P T w0 w a outs op σ' e:=by
 unfold effA at h
 split at h
 · rename_i t
   obtain ⟨ht,h⟩:=h
   obtain ⟨i,i1,i2,i3,z,i4,i5,i6,i7,_⟩:=hP.info t ht
   obtain ⟨z1,z2,z3,z4⟩:=zeroE_rel (w:=w) (F:=F) (ρ:=ρ) hP ht i1 i4
   obtain ⟨n1,n2⟩:=new_var hR ht z1 z2 z3 z4
   refine ⟨_,_,h,_,F,_,_,.value _,n2,n1,.inl rfl,fun o ho=>?_,fun _=>below_alloc _ _⟩
   simp [execOp,ho,Instr.alloc,zeroValue,typeInfo,i1,i4,newVar,newRow]
 · rename_i t x
   obtain ⟨e,h,he⟩:=evalO_sound hR h
   obtain ⟨hok,h⟩:=h
   obtain ⟨k1,k2⟩:=okAt_holds hP.sized (he rfl) hok
   obtain ⟨n1,n2⟩:=new_var hR (okAt_other hok) (he rfl) k1 k2 (fun u y hy=>by subst hy;simp only [okAt,Bool.and_eq_true,beq_iff_eq] at hok;exact hok.1)
   refine ⟨_,_,h,_,F,_,_,.value _,n2,n1,.inl rfl,fun o ho=>?_,fun _=>below_alloc _ _⟩
   simp [execOp,ho,Instr.box,newVar,newRow]
 · rename_i t x y
   obtain ⟨p,h,hp⟩:=evalO_sound hR h
   obtain ⟨e,h,he⟩:=evalO_sound hR h
   exact storeA_sound hP hR (hp rfl) (he rfl) h
 · rename_i t n parts
   split at h;rotate_left;· exact h.elim
   rename_i e ht
   obtain ⟨h1,h3,h4⟩:=h
   exact buildSlice_sound hP hR ht h1 h3 h4
 · rename_i t l c
   split at h;rotate_left;· exact h.elim
   rename_i e ht
   obtain ⟨el,h,hl⟩:=evalO_sound hR h
   obtain ⟨ec,h,hc⟩:=evalO_sound hR h
   split at h;rotate_left;· exact h.elim
   obtain ⟨rfl,h0,hr,hfn,hpt,h⟩:=h
   exact makeSlice_sound hP hR ht (hl rfl).1 (hc rfl).1 h0 hr hfn hpt h
 · rename_i c
   split at h
   · rename_i s x t t' hc hca hct
     obtain ⟨rfl,h⟩:=h
     split at h;rotate_left;· exact h.elim
     rename_i e ht
     obtain ⟨es,h,hs⟩:=evalO_sound hR h
     obtain ⟨ex,h,hx⟩:=evalO_sound hR h
     exact appendA_sound hP hR ht hc (by rw [← Array.toArray_toList (xs:=c.args),hca]) (by rw [← Array.toArray_toList (xs:=c.argTypes),hct]) (hs rfl) (hx rfl) h
   · rename_i s t hc hca hct
     split at h;rotate_left;· exact h.elim
     rename_i e ht
     obtain ⟨es,h,hs⟩:=evalO_sound hR h
     exact clearA_sound hP hR ht hc (by rw [← Array.toArray_toList (xs:=c.args),hca]) (by rw [← Array.toArray_toList (xs:=c.argTypes),hct]) (hs rfl) h
   · rename_i d s t t' hc hca hct
     obtain ⟨rfl,h⟩:=h
     split at h;rotate_left;· exact h.elim
     rename_i e ht
     obtain ⟨⟨h1s,_⟩,h⟩:=h
     obtain ⟨ed,h,hd⟩:=evalO_sound hR h
     obtain ⟨es,h,hs⟩:=evalO_sound hR h
     exact copyA_sound hP hR ht h1s hc (by rw [← Array.toArray_toList (xs:=c.args),hca]) (by rw [← Array.toArray_toList (xs:=c.argTypes),hct]) (hd rfl) (hs rfl) h
   · exact h.elim
 · exact h.elim
def appB (T:Tab) (σ:St) (c:Call) (K:St→E→Prop):Prop:=match c.args.toList,c.argTypes.toList with
 | [s,x],[t,t']=>t'=t∧match T.ty t with
   | .slice e=>evalO σ true s fun es=>evalO σ true x fun ex=>freshA es=true∧appendA T σ e es ex K
   | _=>False
 | _,_=>False
theorem appB_sound (hP:TabOk P T) (hR:Rel T w F ρ w0 σ a.tmps outs) {c:Call} (hc:c.callee=.builtin .append) {K:St→E→Prop} (h:appB T σ c K) :
 (∃ σ' e',K σ' e'∧Does P T w0 w a outs (.call c) σ' e')∧∃ nx w',(∀ o:Oper,o.op=.call c→(execOp a.eval o).run P w=.ok nx w')∧Below w.heap.size w w':=by
 unfold appB at h
 split at h
 · rename_i s x t t' hca hct
   obtain ⟨rfl,h⟩:=h
   split at h;rotate_left;· exact h.elim
   rename_i e ht
   obtain ⟨es,h,hs⟩:=evalO_sound hR h
   obtain ⟨ex,h,hx⟩:=evalO_sound hR h
   obtain ⟨hf,h⟩:=h
   have h1:c.args=#[s,x]:=by rw [← Array.toArray_toList (xs:=c.args),hca]
   have h2:c.argTypes=#[t',t']:=by rw [← Array.toArray_toList (xs:=c.argTypes),hct]
   exact ⟨appendA_sound hP hR ht hc h1 h2 (hs rfl) (hx rfl) h,appendA_below hP hR ht hc h1 h2 (hs rfl) (hx rfl) hf h⟩
 · exact h.elim
end Go.Eng
