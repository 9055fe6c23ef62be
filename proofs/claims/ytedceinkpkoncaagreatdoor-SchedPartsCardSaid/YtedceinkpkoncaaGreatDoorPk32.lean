/- A part of the proof: walks through the program's functions, and what they compute. -/
import Derived.Test.YtedceinkpkoncaaGreatDoorPk31
set_option linter.unusedSimpArgs false
set_option linter.unusedVariables false
namespace Go.Eng.Tryz
open Go.RowKit Go.Eng
set_option maxHeartbeats 0
set_option maxRecDepth 20000
theorem QCe (P B s ev:V) (evs:List V) (n:Nat) (hn:n≤1000) (hen:evs.length=n) {L:List Obj} {tm:Tm} {out:List Tm} {nt:Nat} {K:St→E→Prop} (ht:Tm.under (L.length+5) tm=true) (ho:Q7 (L.length+5) out=true) (hL:Qk (L.length+5) L=true) (hk1:Tm.kill 4 tm=tm) (hk2:out.map (Tm.kill 4)=out) (hx:L.map (Obj.kill 4)=L)
 (h:K { tm:=tm,ob:=.var 26 (.data 26 P)::.var 77 (.data 77 B)::.var 81 (.agg 81 [.nilsl,.data 37 zeroStt.v,.bool false])::.var 81 (.agg 81 [.sl 4 48 0 (n+1) false,.data 37 zeroStt.v,.bool false])::.row 48 (evs++[ev])::L,out:=out,nt:=nt } (.tup [])):CallE Go.Proofs.Tryz.prog tab { tm:=tm,ob:=.var 26 (.data 26 P)::.var 77 (.data 77 B)::.var 81 (.agg 81 [.nilsl,.data 37 zeroStt.v,.bool false])::.var 81 (.agg 81 [.sl 4 48 0 n false,.data 37 zeroStt.v,.bool false])::.row 48 evs::L,out:=out,nt:=nt } 81 [.data 37 s,.data 48 ev,.ptr 3 [] 81] K:=by
 refine CallE.cut (L.length+5) ?_
 have hcode:True→True:=id
 have hsl:True→True:=id
 have hmx:1001≤maxLen:=by decide
 have hk1':(tm.map fun x=>(x.1,x.2.1,E.kill 4 x.2.2))=tm:=hk1
 have hb3:Nat.blt 3 (L.length+5)=true:=by rw [Nat.blt_eq];omega
 have hb4:Nat.blt 4 (L.length+5)=true:=by rw [Nat.blt_eq];omega
 refine CallE.body ok Go.Proofs.Tryz.func81 rfl rfl 11 rfl [] rfl (by simp) ?_
 simp only [enter,Zl,Nat.zero_add,Nat.reduceAdd]
 repeat' first
  | ((with_reducible refine Q2 fun R1 hR1=>?_);(simp only [go_sem,seval,-List.reduceReplicate,hk1',hk2,hx,List.getElem?_cons_succ,List.set_cons_succ,List.set_cons_zero,Ue,QAt (X:=L) (N:=L.length) rfl,yv (X:=L) (N:=L.length) rfl,List.length_append,List.append_assoc,List.map_append,Bool.cond_false_right,Bool.cond_true_left,QF]);(repeat' with_reducible refine And.intro ?_ ?_);all_goals first|(refine hR1 _ ?_;clear hR1 R1)|omega|rfl|decide|assumption|(intro _;omega)|(simp;done)|(simp [-List.getD_eq_getElem?_getD];omega)|exact hcode _|(intro _;exact hcode _)|exact hsl _|(intro _;exact hsl _)|(simp [-List.getD_eq_getElem?_getD,QQ,maxLen,QJo];omega)|(simp [-List.getD_eq_getElem?_getD,QQ,maxLen,QJo];done))
  | ((with_reducible refine Q1 ?_);refine hR _ ?_;clear hR R;try simp only [go_sem,QQV,Nat.reduceBEq])
  | (with_reducible first|refine J1 ?_|refine J2 ?_|refine Q0 ?_|refine Qz ?_)
  | ((with_reducible refine rg QQV fun R hR=>?_);simp only [go_sem,QC])
  | ((with_reducible first|refine xS ?_|refine xR ?_)
     simp only [go_sem,QJ,QK,QG,seval]
     refine ⟨⟨by simp [St.under,Tm.under,E.under,E.underL,Q7,Qk,ht,ho,hL,hb3,hb4,List.take_succ_cons,List.take_left,List.length_append,Nat.add_assoc],rfl⟩,?_⟩
     simpa [List.take_of_length_le,hen,List.take_left] using h)
def QIy:List (List Nat):=[[1,3,5,6],[1,3,5,6,9],[1,3,5,6,9,10,11,12],[1,3,5,6,9,10,11,12,23],[6,7,8],[1,3,5,6,9,10],[6,9],[6,7,8]]
theorem QKX (p:Prg) (l:List Pck) (b:Bud):Grow p l b (fun k=>.var 26 (.data 26 p.v)::.var 77 (.data 77 b.v)::.var 81 (.agg 81 [.nilsl,.data 37 zeroStt.v,.bool false])::.var 81 (.agg 81 [.sl 4 48 0 k false,.data 37 zeroStt.v,.bool false])::.row 48 ((Qu QB p b.fuel (QS QB p b.fuel).1 l k).map Event.v)::[]) 5 4 81 [.ptr 3 [] 81]:=by
 refine ⟨fun k=>rfl,fun k=>rfl,rfl,rfl,.inl (by decide),?_⟩
 intro k tm out nt L K hk hk2 h1 h2 h3 h4 h5 h6 h7
 rw [Nat.add_comm] at h1 h2 h3
 have e:=zl QB p b.fuel (QS QB p b.fuel).1 l k
 refine QCe p.v b.v _ _ ((Qu QB p b.fuel (QS QB p b.fuel).1 l k).map Event.v) k (by omega) (by rw [List.length_map,Zj]) h1 h2 h3 h4 h5 h6 ?_
 rw [show ((Qu QB p b.fuel (QS QB p b.fuel).1 l k).map Event.v)++[Event.v (Xi QB p b.fuel (QS QB p b.fuel).1 l k)]=(Qu QB p b.fuel (QS QB p b.fuel).1 l (k+1)).map Event.v from by rw [e];simp]
 exact h7
theorem YU (p:Prg) (l:List Pck) (b:Bud) (hp:p.Fit) (hl:l.length≤maxLen):CtrZ Go.Proofs.Tryz.prog tab 34 [26,64,77] [81,49,3] [p.v,.list (l.map Pck.v),b.v] [(WT p l b).1.v,.int (WT p l b).2.1,.int (WT p l b).2.2]:=by
 have hpp:=hp
 have hcode:True→True:=id
 have hsl:True→True:=id
 have hmx:256<maxLen:=by decide
 refine CtrZ.body ok Go.Proofs.Tryz.func34 rfl rfl 41 rfl [.cell 6 81,.tmp 7,.tmp 8] rfl (by simp [QE]) ?_
 simp only [go_sem,Nat.reduceAdd]
 repeat' first
  | ((with_reducible refine Q2 fun R1 hR1=>?_);(simp only [go_sem,seval,-List.reduceReplicate,Bool.cond_false_right,Bool.cond_true_left,QF]);(repeat' with_reducible refine And.intro ?_ ?_);all_goals first|(refine hR1 _ ?_;clear hR1 R1)|(intro hgf;simp only [hgf];refine hR1 _ ?_;clear hR1 R1)|((first|refine ⟨_,_,rfl,.inr (UI p l b hpp hl (QKX p l b) (by decide) ?_ ?_ ?_ ?_ ?_)⟩|refine cq (cc (We p (ZX p l b) hpp hOk.right hOk.vld) (by first|rfl|(simp [go_sem,List.take_of_length_le,List.length_map];done)|fail)) ?_|refine ⟨_,_,rfl,.inl ⟨_,fun hg=>CallQ.ctr ok (We p (ZX p l b) hpp hOk.right hOk.vld) (by first|rfl|(simp [go_sem,List.take_of_length_le,List.length_map];done)|fail) rfl,?_⟩⟩);all_goals ((try simp only [go_sem,seval,-List.reduceReplicate,Bool.cond_false_right,Bool.cond_true_left,QF]);(repeat' with_reducible refine And.intro ?_ ?_);all_goals first|(refine hR1 _ ?_;clear hR1 R1)|(intro hgf;simp only [hgf];refine hR1 _ ?_;clear hR1 R1)|exact ZQ))|exact ZQ)
  | ((with_reducible refine Q1 ?_);refine hR _ ?_;clear hR R;try simp only [go_sem,QIy,Nat.reduceBEq])
  | (with_reducible first|refine J1 ?_|refine J2 ?_|refine J3 ?_|refine Q0 ?_|refine Qz ?_)
  | ((with_reducible refine QZ 2 ?_)
     refine Zo (St.le.ownPart 3 0 (e:=48) rfl rfl) ?_
     simp only [List.set_cons_succ,List.set_cons_zero,List.cons_append,List.nil_append,List.length_cons,List.length_nil,Nat.reduceAdd]
     (with_reducible refine rg QIy fun R hR=>?_);simp only [go_sem,QC])
  | ((with_reducible refine QZ 5 ?_)
     obtain ⟨hOk,hS,hO⟩:=WS hb23
     rw [hS]
     (with_reducible refine rg QIy fun R hR=>?_);simp only [go_sem,QC])
  | ((with_reducible refine QZ 7 ?_)
     refine Zo (J49 ok.sized 4 rfl) ?_
     simp only [St.frz,Tm.frz,E.frz,E.frzL,Obj.frz,List.map_cons,List.map_nil,List.set_cons_zero,List.set_cons_succ,Nat.reduceBEq,Nat.beq_refl,if_true,if_false,Nat.beq_eq_true_eq,reduceCtorEq,Bool.false_eq_true,V.get,Nat.reduceEqDiff]
     simp only [List.drop_zero,List.take_of_length_le,List.length_map,Nat.le_refl,Zj]
     refine Zo (St.le.ofAgg 3 (ts:=[79,37,4]) QPG rfl rfl) ?_
     simp only [List.set_cons_succ,List.set_cons_zero]
     (with_reducible refine rg QIy fun R hR=>?_);simp only [go_sem,QC])
  | ((with_reducible refine rg QIy fun R hR=>?_);simp only [go_sem,QC])
  | ((with_reducible refine QH 23 rfl (fun hb23=>?_) fun hb23=>?_);all_goals (try simp [-List.getD_eq_getElem?_getD] at hb23;try (exfalso;omega)))
  | ((with_reducible first|refine J46 ?_|refine J47 ?_)
     simp only [go_sem,QJ,QK,QG,seval]
     first
      | (have q:=hb23
         rw [ye hb23]
         rfl)
      | (rw [hO]
         rfl)
      | (rw [hO]
         simp [Trc.v,List.take_of_length_le,Zj]))
end Go.Eng.Tryz
namespace Go.Eng.Tryz
open Go.RowKit Go.Eng
set_option maxHeartbeats 0
set_option maxRecDepth 20000
theorem Trc.v0 (t:Trc) (d:V):t.v.toList.getD 0 d=.list (t.events.map Event.v):=rfl
theorem Trc.v1 (t:Trc) (d:V):t.v.toList.getD 1 d=t.end_.v:=rfl
theorem Trc.v2 (t:Trc) (d:V):t.v.toList.getD 2 d=.bool t.cut:=rfl
attribute [go_sem] Trc.v0 Trc.v1 Trc.v2
def t0:Trc:=⟨[e1],s1,false⟩
theorem QKU:WT p0 [⟨0,0⟩] ⟨2,2,0⟩=(t0,0,0):=by
 have h:Xc p0 [⟨0,0⟩] ⟨2,2,0⟩=(1,s1,0,0):=by decide +kernel
 obtain ⟨_,hS,hO⟩:=WS (p:=p0) (l:=[⟨0,0⟩]) (b:=⟨2,2,0⟩) (by rw [h])
 rw [hO]
 have e:Y4 p0 [⟨0,0⟩] ⟨2,2,0⟩=[e1]:=by decide +kernel
 rw [h] at hS
 have e2:ZX p0 [⟨0,0⟩] ⟨2,2,0⟩=s1:=(congrArg (fun x=>x.2.1) hS).symm
 rw [e,e2]
 rfl
theorem QKT:WT p0 [⟨1,0⟩] ⟨2,2,0⟩=(⟨[],zeroStt,false⟩,5,0):=by
 have h:Xc p0 [⟨1,0⟩] ⟨2,2,0⟩=(0,zeroStt,5,0):=by decide +kernel
 rw [ye (by rw [h];decide),h]
theorem QKW:CtrZ Go.Proofs.Tryz.prog tab 34 [26,64,77] [81,49,3] [p0.v,.list [Pck.v ⟨0,0⟩],Bud.v ⟨2,2,0⟩] [t0.v,.int 0,.int 0]:=by
 have h:=YU p0 [⟨0,0⟩] ⟨2,2,0⟩ ve (by decide)
 rw [QKU] at h
 exact h
theorem QKV:CtrZ Go.Proofs.Tryz.prog tab 34 [26,64,77] [81,49,3] [p0.v,.list [Pck.v ⟨1,0⟩],Bud.v ⟨2,2,0⟩] [Trc.v ⟨[],zeroStt,false⟩,.int 5,.int 0]:=by
 have h:=YU p0 [⟨1,0⟩] ⟨2,2,0⟩ ve (by decide)
 rw [QKT] at h
 exact h
def QIw:List (List Nat):=[[],[1],[1,2,3,4],[2,3,4,6,7],[0]]
theorem Xa:Ctr Go.Proofs.Tryz.prog tab 38 [] [4] [] [.bool true]:=by
 have hcode:True→True:=id
 have hsl:True→True:=id
 have hmx:256≤maxLen:=by decide
 refine Ctr.body ok Go.Proofs.Tryz.func38 rfl rfl 65 rfl [.tmp 0] rfl (by simp [QE]) ?_
 simp only [go_sem,Nat.reduceAdd]
 repeat' first
  | ((with_reducible refine SARW.told 1 3 ?_)
     refine J48 (J49 ok.sized 0 rfl) ?_
     simp only [St.frz,Tm.frz,E.frz,E.frzL,Obj.frz,List.map_cons,List.map_nil,List.set_cons_zero,List.set_cons_succ,Nat.reduceBEq,Nat.beq_refl,if_true,if_false,Nat.beq_eq_true_eq,reduceCtorEq,Bool.false_eq_true,V.get,Nat.reduceEqDiff])
  | ((with_reducible refine SARW.told 1 5 ?_)
     refine J48 (J49 ok.sized 1 rfl) ?_
     simp only [St.frz,Tm.frz,E.frz,E.frzL,Obj.frz,List.map_cons,List.map_nil,List.set_cons_zero,List.set_cons_succ,Nat.reduceBEq,Nat.beq_refl,if_true,if_false,Nat.beq_eq_true_eq,reduceCtorEq,Bool.false_eq_true,V.get,Nat.reduceEqDiff])
  | ((with_reducible refine SARW.told 2 3 ?_)
     refine J48 (J49 ok.sized 3 rfl) ?_
     simp only [St.frz,Tm.frz,E.frz,E.frzL,Obj.frz,List.map_cons,List.map_nil,List.set_cons_zero,List.set_cons_succ,Nat.reduceBEq,Nat.beq_refl,if_true,if_false,Nat.beq_eq_true_eq,reduceCtorEq,Bool.false_eq_true,V.get,Nat.reduceEqDiff])
  | ((with_reducible refine SARW.told 3 3 ?_)
     refine J48 (J49 ok.sized 5 rfl) ?_
     simp only [St.frz,Tm.frz,E.frz,E.frzL,Obj.frz,List.map_cons,List.map_nil,List.set_cons_zero,List.set_cons_succ,Nat.reduceBEq,Nat.beq_refl,if_true,if_false,Nat.beq_eq_true_eq,reduceCtorEq,Bool.false_eq_true,V.get,Nat.reduceEqDiff])
  | ((with_reducible first|refine Q2 fun R1 hR1=>?_|refine SARW.do fun R1 hR1=>?_);(simp only [go_sem,seval,-List.reduceReplicate,Bool.cond_false_right,Bool.cond_true_left,decide_true,Bool.not_true,Bool.not_false,Stt.beq]);(repeat' with_reducible refine And.intro ?_ ?_);all_goals first|(refine hR1 _ ?_;clear hR1 R1)|(intro hgf;simp only [hgf];refine hR1 _ ?_;clear hR1 R1)|((first|refine ⟨_,_,rfl,.inr (CallE.ctrZ (QKW) (by first|rfl|(simp [go_sem,List.take_of_length_le,List.length_map];done)|fail) ?_)⟩|refine ⟨_,_,rfl,.inr (CallE.ctrZ (QKV) (by first|rfl|(simp [go_sem,List.take_of_length_le,List.length_map];done)|fail) ?_)⟩);all_goals ((try simp only [go_sem,seval,-List.reduceReplicate,Bool.cond_false_right,Bool.cond_true_left,decide_true,Bool.not_true,Bool.not_false,Stt.beq]);(repeat' with_reducible refine And.intro ?_ ?_);all_goals first|(refine hR1 _ ?_;clear hR1 R1)|(intro hgf;simp only [hgf];refine hR1 _ ?_;clear hR1 R1)|exact Xk))|exact Xk)
  | ((with_reducible first|refine Q1 ?_|refine SARW.nil ?_);refine hR _ ?_;clear hR R;try simp only [go_sem,QIw,Nat.reduceBEq])
  | (with_reducible first|refine J1 ?_|refine J2 ?_|refine Q0 ?_|refine Qz ?_)
  | ((with_reducible refine QZ 2 ?_)
     refine Zo (Qq (show _=({ tm:=[(1,true,.ptr 2 [] 26)],ob:=[.dead,.dead,.var 26 (.data 26 p0.v)],out:=[],nt:=65 }:St) from rfl)) ?_
     (with_reducible refine SA.regionWN ok (by kernel_rfl) QIw ?_);intro R hR;simp only [go_sem,QC])
  | ((with_reducible refine QZ 1 ?_)
     skip
     (with_reducible refine SA.regionWN ok (by kernel_rfl) QIw ?_);intro R hR;simp only [go_sem,QC])
  | ((with_reducible refine QZ 3 ?_)
     skip
     (with_reducible refine SA.regionWN ok (by kernel_rfl) QIw ?_);intro R hR;simp only [go_sem,QC])
  | ((with_reducible refine rg QIw fun R hR=>?_);simp only [go_sem,QC])
  | ((with_reducible first|refine ZH ?_|refine ZG ?_)
     simp only [go_sem,QJ,QK,QG,seval]
     first
      | (exact ⟨rfl,rfl⟩)
      | (rfl))
end Go.Eng.Tryz
