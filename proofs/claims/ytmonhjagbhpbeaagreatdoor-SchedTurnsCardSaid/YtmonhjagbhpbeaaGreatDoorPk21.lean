/- A part of the proof: walks through the program's functions, and what they compute. -/
import Derived.Test.YtmonhjagbhpbeaaGreatDoorPk20
set_option linter.unusedSimpArgs false
set_option linter.unusedVariables false
namespace Go.Eng.Tryz
open Go.RowKit Go.Eng
set_option maxHeartbeats 0
set_option maxRecDepth 20000
theorem Ub (p:Prg) (l:List Pck) (b:Bud) (hp:p.Fit) (hl:l.length≤maxLen) {X:Nat→List Obj} {N r:Nat} {f:FuncId} {caps:List E} (hG:Grow p l b X N r f caps) (hN:N≤900) {c:Bool} {tm:Tm} {out:List Tm} {nt:Nat} {K:St→E→Prop} (ht:Tm.under N tm=true) (ho:QT N out=true) (hk1:Tm.kill r tm=tm) (hk2:out.map (Tm.kill r)=out)
 (h:K { tm:=tm,ob:=X (XX p l b).1,out:=out,nt:=nt } (.tup [.data 47 (XX p l b).2.1.v,.int .i64 (XX p l b).2.2.1,.int .i64 (XX p l b).2.2.2])) :
 CallE Go.Proofs.Tryz.prog tab { tm:=tm,ob:=X 0,out:=out,nt:=nt } 42 [.data 26 p.v,.fs 56 (l.map Pck.v) c,.data 28 b.v,.fn f caps] K:=by
 refine CallE.cut N ?_
 have hpp:=hp
 have hcode:True→True:=id
 have hsl:True→True:=id
 have hmx:256<maxLen:=by decide
 have hnr:=Nat.ne_of_row hG.row (by omega)
 have hnr0:=Nat.ne_of_row0 hG.row (by omega)
 have hk1':(tm.map fun x=>(x.1,x.2.1,E.kill r x.2.2))=tm:=hk1
 have ht':∀ m,Tm.under (N+m) tm=true:=fun m=>Tm.under_mono (by omega) ht
 have ho':∀ m,QT (N+m) out=true:=fun m=>Ym (by omega) ho
 have hcU:∀ m,E.underL (N+m) caps=true:=fun m=>E.underL_mono (by omega) hG.capsU
 have hX':∀ k m,QV (N+m) (X k)=true:=fun k m=>YL (by omega) (hG.under k)
 refine CallE.body ok Go.Proofs.Tryz.func42 rfl rfl 46 rfl [.cell 8 47,.tmp 9,.tmp 10] rfl (by simp) ?_
 simp only [enter,Zf,Nat.zero_add,Nat.reduceAdd]
 repeat' first
  | ((with_reducible first|refine Q5 fun R1 hR1=>?_|refine qz fun R1 hR1=>?_|refine qy fun R1 hR1=>?_|refine qx fun R1 hR1=>?_);(simp only [go_sem,seval,-List.reduceReplicate,List.append_assoc,List.length_append,hG.len,wl (hG.len _),qp (hG.len _),QAt (hG.len _),yg (hG.len _),Nat.add_zero,Bool.cond_false_right,Bool.cond_true_left,QE]);(repeat' with_reducible refine And.intro ?_ ?_);all_goals first|(refine hR1 _ ?_;clear hR1 R1)|((first|refine cq (cc (qJ p _ b hpp) (by first|rfl|(simp [go_sem,List.take_of_length_le,List.length_map];done)|fail)) ?_|refine ⟨_,_,rfl,.inr (QAw p l b hpp hz.1 hz.2.2.2.1 hl2 hG' (show N+3≤1000 by omega) rfl ?_ ?_ ?_ ?_ ?_)⟩);all_goals ((try simp only [go_sem,seval,-List.reduceReplicate,List.append_assoc,List.length_append,hG.len,wl (hG.len _),qp (hG.len _),QAt (hG.len _),yg (hG.len _),Nat.add_zero,Bool.cond_false_right,Bool.cond_true_left,QE]);(repeat' with_reducible refine And.intro ?_ ?_);all_goals first|(refine hR1 _ ?_;clear hR1 R1)|omega|rfl|decide|assumption|(intro _;omega)|(simp;done)|(simp [-List.getD_eq_getElem?_getD];omega)|exact hcode _|(intro _;exact hcode _)|exact hsl _|(intro _;exact hsl _)|(simp [Tm.under,E.under,E.underL,QT,QV,Qq,VP (hG.len _),WW (hG.len _),WE,Xk,ht',ho',hcU,hX',ht,ho,hG.under,hk1',hk1,hk2,hnr,hnr0,hG.kills,decide_true];done)))|omega|rfl|decide|assumption|(intro _;omega)|(simp;done)|(simp [-List.getD_eq_getElem?_getD];omega)|exact hcode _|(intro _;exact hcode _)|exact hsl _|(intro _;exact hsl _)|(simp [Tm.under,E.under,E.underL,QT,QV,Qq,VP (hG.len _),WW (hG.len _),WE,Xk,ht',ho',hcU,hX',ht,ho,hG.under,hk1',hk1,hk2,hnr,hnr0,hG.kills,decide_true];done))
  | ((with_reducible refine SART.doneAt 5 ?_);refine hR _ ?_;clear hR R;try simp only [go_sem,QLB,Nat.reduceBEq]
     exact Qo (by simp only [St.keep,List.filterMap_cons,List.filterMap_nil,List.lookup_cons,List.lookup_nil,Option.map_some,Option.map_none,beq_self_eq_true,Nat.reduceBEq]))
  | ((with_reducible first|refine qw ?_|refine Q4 ?_);refine hR _ ?_;clear hR R;try simp only [go_sem,QLB,Nat.reduceBEq])
  | (with_reducible first|refine qv ?_ ?_|exact qu|refine qt ?_ ?_)
  | (with_reducible first|refine J1 ?_|refine J2 ?_|refine J3 ?_|refine Q2 ?_|refine Q1 ?_)
  | ((with_reducible refine Qe 6 ?_)
     have hz:=qg hb20
     have hl2:l.length≤256:=by have:=hz.2.1;omega
     have hG':=hG.ext (M:=[.var 26 (.data 26 p.v),.var 28 (.data 28 b.v),.var 47 (.data 47 zeroStt.v)]) rfl rfl
     (with_reducible refine rg QLB fun R hR=>?_);simp only [go_sem,QC])
  | ((with_reducible refine Qe 5 ?_)
     refine J35 ok QQ (.take 0 (.br 1 (.br 2 (.br 3 (.take 4 (.take 5 .done)) .nil) (.br 3 (.take 2 (.take 4 (.take 5 .done))) .nil)) (.br 3 (.take 1 (.take 2 (.take 4 (.take 5 .done)))) .nil))) [3] QLB (by kernel_rfl) ({ tm:=[(8,true,.ptr (N+2) [] 47),(9,true,.int .i64 2),(10,true,.int .i64 b.steps)],ob:=X 0++[.var 26 (.data 26 p.v),.var 28 (.data 28 b.v),.var 47 (.data 47 zeroStt.v)],out:=tm::out,nt:=46 }) (fun R hR=>?_) ?_;simp only [go_sem,QC])
  | ((with_reducible refine rg QLB fun R hR=>?_);simp only [go_sem,QC])
  | ((with_reducible refine QI 20 rfl (fun hb20=>?_) fun hb20=>?_);all_goals (try simp [-List.getD_eq_getElem?_getD] at hb20;try (exfalso;omega)))
  | ((with_reducible refine QI 27 rfl (fun hb27=>?_) fun hb27=>?_);all_goals (try simp [-List.getD_eq_getElem?_getD] at hb27;try (exfalso;omega)))
  | ((with_reducible refine QI 42 rfl (fun hb42=>?_) fun hb42=>?_);all_goals (try simp [-List.getD_eq_getElem?_getD] at hb42;try (exfalso;omega)))
  | ((with_reducible first|refine xQ ?_|refine xP ?_)
     simp only [go_sem,QL,QM,QH,seval]
     simp only [go_sem,seval,-List.reduceReplicate,List.append_assoc,List.length_append,hG.len,wl (hG.len _),qp (hG.len _),QAt (hG.len _),yg (hG.len _),Nat.add_zero,Bool.cond_false_right,Bool.cond_true_left,QE]
     first
      | (have q:=hb20
         rw [xg hb20] at h
         refine ⟨⟨by simp [St.under,Tm.under,E.under,E.underL,QT,QV,Qq,VP (hG.len _),WW (hG.len _),WE,Xk,ht',ho',hcU,hX',ht,ho,hG.under,hk1',hk1,hk2,hnr,hnr0,hG.kills,decide_true],rfl⟩,?_⟩
         simpa [WW (hG.len _)] using h)
      | (have q:=hb27
         rw [yG hb20 (by omega)] at h
         refine ⟨⟨by simp [St.under,Tm.under,E.under,E.underL,QT,QV,Qq,VP (hG.len _),WW (hG.len _),WE,Xk,ht',ho',hcU,hX',ht,ho,hG.under,hk1',hk1,hk2,hnr,hnr0,hG.kills,decide_true],rfl⟩,?_⟩
         simpa [WW (hG.len _)] using h)
      | (have q:=hb42
         rw [wY hb20 (by omega) (by omega)] at h
         refine ⟨⟨by simp [St.under,Tm.under,E.under,E.underL,QT,QV,Qq,VP (hG.len _),WW (hG.len _),WE,Xk,ht',ho',hcU,hX',ht,ho,hG.under,hk1',hk1,hk2,hnr,hnr0,hG.kills,decide_true],rfl⟩,?_⟩
         simpa [WW (hG.len _)] using h)
      | (have q:=hb42
         have e:(ZY QB p b.fuel (start QB p b.fuel).1 l)=l.length:=by have:=Uo QB p b.fuel (start QB p b.fuel).1 l;omega
         rw [zQ hb20 (by omega) (by omega)] at h
         rw [e]
         refine ⟨⟨by simp [St.under,Tm.under,E.under,E.underL,QT,QV,Qq,VP (hG.len _),WW (hG.len _),WE,Xk,ht',ho',hcU,hX',ht,ho,hG.under,hk1',hk1,hk2,hnr,hnr0,hG.kills,decide_true],rfl⟩,?_⟩
         simpa [WW (hG.len _)] using h))
theorem QD3 (p:Prg) (l:List Pck) (b:Bud):(ZA p l b).2.2.1=(XX p l b).2.2.1∧(ZA p l b).2.2.2=(XX p l b).2.2.2:=by
 by_cases h1:ZR p l.length b=0
 · by_cases h2:b.steps<(l.length:Int)
   · rw [yG h1 h2]
     unfold ZA
     rw [if_neg (fun q=>q h1),if_pos h2]
     exact ⟨rfl,rfl⟩
   · by_cases h3:ZY QB p b.fuel (start QB p b.fuel).1 l<l.length
     · rw [wY h1 h2 h3]
       unfold ZA
       rw [if_neg (fun q=>q h1),if_neg h2]
       simp only [h3,if_true]
       exact ⟨trivial,trivial⟩
     · rw [zQ h1 h2 h3]
       unfold ZA
       rw [if_neg (fun q=>q h1),if_neg h2]
       simp only [h3,if_false]
       exact ⟨trivial,trivial⟩
 · rw [xg h1]
   unfold ZA
   rw [if_pos h1]
   exact ⟨rfl,rfl⟩
theorem YZ {p:Prg} {l:List Pck} {b:Bud} (h:(XX p l b).2.2.1=0):RunOk p l b∧XX p l b=(l.length,Qs p l b,0,0) ∧
 Wa p l b=(⟨Qh p l b,Qs p l b,decide ((l.length:Int)=b.steps)&&decide (0<(ready p (Qs p l b)).length)⟩,0,0):=by
 have hs:=(QD3 p l b).1.trans h
 have hR:=vC hs
 refine ⟨hR,?_,if_neg (fun q=>q hs)⟩
 by_cases h1:ZR p l.length b=0
 · by_cases h2:b.steps<(l.length:Int)
   · rw [yG h1 h2] at h;cases h
   · exact zQ h1 h2 (by rw [hR.stop];omega)
 · rw [xg h1] at h;exact absurd h h1
theorem QA0 {p:Prg} {l:List Pck} {b:Bud} (h:¬(XX p l b).2.2.1=0):Wa p l b=(⟨[],zeroStt,false⟩,(XX p l b).2.2.1,(XX p l b).2.2.2):=by
 have hs:=QD3 p l b
 unfold Wa
 rw [if_pos (by rw [hs.1];exact h),hs.1,hs.2]
theorem RunOk.vld {p:Prg} {l:List Pck} {b:Bud} (h:RunOk p l b):Vld p (Qs p l b) :=
 Wl Zd h.right (Prg.ok h.right) h.fuel (zK Zd h.right (Prg.ok h.right) h.fuel) (Nat.le_refl _) (fun j hj=>QCc QB (by rw [h.stop];exact hj))
def QTg:List (List Nat):=[[2,4],[]]
theorem QD4 (P B s ev:V) (evs:List V) (n:Nat) (hn:n≤1000) (hen:evs.length=n) {L:List Obj} {tm:Tm} {out:List Tm} {nt:Nat} {K:St→E→Prop} (ht:Tm.under (L.length+5) tm=true) (ho:QT (L.length+5) out=true) (hL:QV (L.length+5) L=true) (hk1:Tm.kill 4 tm=tm) (hk2:out.map (Tm.kill 4)=out) (hx:L.map (Obj.kill 4)=L)
 (h:K { tm:=tm,ob:=.var 26 (.data 26 P)::.var 28 (.data 28 B)::.var 49 (.agg 49 [.nilsl,.data 47 zeroStt.v,.bool false])::.var 49 (.agg 49 [.sl 4 63 0 (n+1) false,.data 47 zeroStt.v,.bool false])::.row 63 (evs++[ev])::L,out:=out,nt:=nt } (.tup [])):CallE Go.Proofs.Tryz.prog tab { tm:=tm,ob:=.var 26 (.data 26 P)::.var 28 (.data 28 B)::.var 49 (.agg 49 [.nilsl,.data 47 zeroStt.v,.bool false])::.var 49 (.agg 49 [.sl 4 63 0 n false,.data 47 zeroStt.v,.bool false])::.row 63 evs::L,out:=out,nt:=nt } 43 [.data 47 s,.data 63 ev,.ptr 3 [] 49] K:=by
 refine CallE.cut (L.length+5) ?_
 have hcode:True→True:=id
 have hsl:True→True:=id
 have hmx:1001≤maxLen:=by decide
 have hk1':(tm.map fun x=>(x.1,x.2.1,E.kill 4 x.2.2))=tm:=hk1
 have hb3:Nat.blt 3 (L.length+5)=true:=by rw [Nat.blt_eq];omega
 have hb4:Nat.blt 4 (L.length+5)=true:=by rw [Nat.blt_eq];omega
 refine CallE.body ok Go.Proofs.Tryz.func43 rfl rfl 11 rfl [] rfl (by simp) ?_
 simp only [enter,Zf,Nat.zero_add,Nat.reduceAdd]
 repeat' first
  | ((with_reducible refine Q5 fun R1 hR1=>?_);(simp only [go_sem,seval,-List.reduceReplicate,hk1',hk2,hx,List.getElem?_cons_succ,List.set_cons_succ,List.set_cons_zero,U4,wl (X:=L) (N:=L.length) rfl,qp (X:=L) (N:=L.length) rfl,List.length_append,List.append_assoc,List.map_append,Bool.cond_false_right,Bool.cond_true_left,QE]);(repeat' with_reducible refine And.intro ?_ ?_);all_goals first|(refine hR1 _ ?_;clear hR1 R1)|omega|rfl|decide|assumption|(intro _;omega)|(simp;done)|(simp [-List.getD_eq_getElem?_getD];omega)|exact hcode _|(intro _;exact hcode _)|exact hsl _|(intro _;exact hsl _)|(simp [-List.getD_eq_getElem?_getD,Q3,maxLen,Uf];omega)|(simp [-List.getD_eq_getElem?_getD,Q3,maxLen,Uf];done))
  | ((with_reducible refine Q4 ?_);refine hR _ ?_;clear hR R;try simp only [go_sem,QTg,Nat.reduceBEq])
  | (with_reducible first|refine J1 ?_|refine J2 ?_|refine Q2 ?_|refine Q1 ?_)
  | ((with_reducible refine rg QTg fun R hR=>?_);simp only [go_sem,QC])
  | ((with_reducible first|refine xQ ?_|refine xP ?_)
     simp only [go_sem,QL,QM,QH,seval]
     refine ⟨⟨by simp [St.under,Tm.under,E.under,E.underL,QT,QV,ht,ho,hL,hb3,hb4,List.take_succ_cons,List.take_left,List.length_append,Nat.add_assoc],rfl⟩,?_⟩
     simpa [List.take_of_length_le,hen,List.take_left] using h)
def QLM:List (List Nat):=[[1,3,5,6],[1,3,5,6,9],[1,3,5,6,9,10,11,12],[1,3,5,6,9,10,11,12,23],[6,7,8],[1,3,5,6,9,10],[6,9],[6,7,8]]
theorem QHZ (p:Prg) (l:List Pck) (b:Bud):Grow p l b (fun k=>.var 26 (.data 26 p.v)::.var 28 (.data 28 b.v)::.var 49 (.agg 49 [.nilsl,.data 47 zeroStt.v,.bool false])::.var 49 (.agg 49 [.sl 4 63 0 k false,.data 47 zeroStt.v,.bool false])::.row 63 ((Z7 QB p b.fuel (start QB p b.fuel).1 l k).map Event.v)::[]) 5 4 43 [.ptr 3 [] 49]:=by
 refine ⟨fun k=>rfl,fun k=>rfl,rfl,rfl,.inl (by decide),?_⟩
 intro k tm out nt L K hk hk2 h1 h2 h3 h4 h5 h6 h7
 rw [Nat.add_comm] at h1 h2 h3
 have e:=yk QB p b.fuel (start QB p b.fuel).1 l k
 refine QD4 p.v b.v _ _ ((Z7 QB p b.fuel (start QB p b.fuel).1 l k).map Event.v) k (by omega) (by rw [List.length_map,Yk]) h1 h2 h3 h4 h5 h6 ?_
 rw [show ((Z7 QB p b.fuel (start QB p b.fuel).1 l k).map Event.v)++[Event.v (Qy QB p b.fuel (start QB p b.fuel).1 l k)]=(Z7 QB p b.fuel (start QB p b.fuel).1 l (k+1)).map Event.v from by rw [e];simp]
 exact h7
theorem YP (p:Prg) (l:List Pck) (b:Bud) (hp:p.Fit) (hl:l.length≤maxLen):CtrZ Go.Proofs.Tryz.prog tab 16 [26,29,28] [49,30,3] [p.v,.list (l.map Pck.v),b.v] [(Wa p l b).1.v,.int (Wa p l b).2.1,.int (Wa p l b).2.2]:=by
 have hpp:=hp
 have hcode:True→True:=id
 have hsl:True→True:=id
 have hmx:256<maxLen:=by decide
 refine CtrZ.body ok Go.Proofs.Tryz.func16 rfl rfl 41 rfl [.cell 6 49,.tmp 7,.tmp 8] rfl (by simp [QF]) ?_
 simp only [go_sem,Nat.reduceAdd]
 repeat' first
  | ((with_reducible refine Q5 fun R1 hR1=>?_);(simp only [go_sem,seval,-List.reduceReplicate,Bool.cond_false_right,Bool.cond_true_left,QE]);(repeat' with_reducible refine And.intro ?_ ?_);all_goals first|(refine hR1 _ ?_;clear hR1 R1)|(intro hgf;simp only [hgf];refine hR1 _ ?_;clear hR1 R1)|((first|refine ⟨_,_,rfl,.inr (Ub p l b hpp hl (QHZ p l b) (by decide) ?_ ?_ ?_ ?_ ?_)⟩|refine cq (cc (Xn p (Qs p l b) hpp hOk.right hOk.vld) (by first|rfl|(simp [go_sem,List.take_of_length_le,List.length_map];done)|fail)) ?_|refine Y4 (fun hg=>cc (Xn p (Qs p l b) hpp hOk.right hOk.vld) (by first|rfl|(simp [go_sem,List.take_of_length_le,List.length_map];done)|fail)) ?_);all_goals ((try simp only [go_sem,seval,-List.reduceReplicate,Bool.cond_false_right,Bool.cond_true_left,QE]);(repeat' with_reducible refine And.intro ?_ ?_);all_goals first|(refine hR1 _ ?_;clear hR1 R1)|(intro hgf;simp only [hgf];refine hR1 _ ?_;clear hR1 R1)|exact Zp))|exact Zp)
  | ((with_reducible refine Q4 ?_);refine hR _ ?_;clear hR R;try simp only [go_sem,QLM,Nat.reduceBEq])
  | (with_reducible first|refine J1 ?_|refine J2 ?_|refine J3 ?_|refine Q2 ?_|refine Q1 ?_)
  | ((with_reducible refine Qe 2 ?_)
     refine Zv (St.le.ownPart 3 0 (e:=63) rfl rfl) ?_
     simp only [List.set_cons_succ,List.set_cons_zero,List.cons_append,List.nil_append,List.length_cons,List.length_nil,Nat.reduceAdd]
     (with_reducible refine rg QLM fun R hR=>?_);simp only [go_sem,QC])
  | ((with_reducible refine Qe 5 ?_)
     obtain ⟨hOk,hS,hO⟩:=YZ hb23
     rw [hS]
     (with_reducible refine rg QLM fun R hR=>?_);simp only [go_sem,QC])
  | ((with_reducible refine Qe 7 ?_)
     refine Zv (J49 ok.sized 4 rfl) ?_
     simp only [St.frz,Tm.frz,E.frz,E.frzL,Obj.frz,List.map_cons,List.map_nil,List.set_cons_zero,List.set_cons_succ,Nat.reduceBEq,Nat.beq_refl,if_true,if_false,Nat.beq_eq_true_eq,reduceCtorEq,Bool.false_eq_true,V.get,Nat.reduceEqDiff]
     simp only [List.drop_zero,List.take_of_length_le,List.length_map,Nat.le_refl,Yk]
     refine Zv (St.le.ofAgg 3 (ts:=[36,47,4]) QPk rfl rfl) ?_
     simp only [List.set_cons_succ,List.set_cons_zero]
     (with_reducible refine rg QLM fun R hR=>?_);simp only [go_sem,QC])
  | ((with_reducible refine rg QLM fun R hR=>?_);simp only [go_sem,QC])
  | ((with_reducible refine QI 23 rfl (fun hb23=>?_) fun hb23=>?_);all_goals (try simp [-List.getD_eq_getElem?_getD] at hb23;try (exfalso;omega)))
  | ((with_reducible first|refine J46 ?_|refine J47 ?_)
     simp only [go_sem,QL,QM,QH,seval]
     first
      | (have q:=hb23
         rw [QA0 hb23]
         rfl)
      | (rw [hO]
         rfl)
      | (rw [hO]
         simp [Trc.v,List.take_of_length_le,Yk]))
def p0:Prg:=⟨[],0,[],[⟨0,0,[⟨64,0,0,0,0⟩,⟨45,0,0,0,0⟩],[]⟩]⟩
def s0:Stt:=⟨List.replicate 8 0,List.replicate 4 0,List.replicate 4 zeroChn,[⟨1,0,0,0,List.replicate 8 0⟩,zeroGor,zeroGor,zeroGor,zeroGor,zeroGor],1⟩
def s1:Stt:=⟨List.replicate 8 0,List.replicate 4 0,List.replicate 4 zeroChn,[⟨3,0,1,0,List.replicate 8 0⟩,zeroGor,zeroGor,zeroGor,zeroGor,zeroGor],1⟩
def e1:Event:=⟨0,0,0,64,0,0,0,[⟨5,0,true⟩,⟨0,0,false⟩,⟨0,0,false⟩,⟨0,0,false⟩,⟨0,0,false⟩,⟨0,0,false⟩],1⟩
theorem Trc.v0 (t:Trc) (d:V):t.v.toList.getD 0 d=.list (t.events.map Event.v):=rfl
theorem Trc.v1 (t:Trc) (d:V):t.v.toList.getD 1 d=t.end_.v:=rfl
theorem Trc.v2 (t:Trc) (d:V):t.v.toList.getD 2 d=.bool t.cut:=rfl
attribute [go_sem] Trc.v0 Trc.v1 Trc.v2
def t0:Trc:=⟨[e1],s1,false⟩
end Go.Eng.Tryz
