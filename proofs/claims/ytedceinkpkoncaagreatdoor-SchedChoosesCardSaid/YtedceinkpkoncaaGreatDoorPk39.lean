/- A part of the proof: walks through the program's functions, and what they compute. -/
import Derived.Test.YtedceinkpkoncaaGreatDoorPk38
set_option linter.unusedSimpArgs false
set_option linter.unusedVariables false
namespace Go.Eng.Tryz
open Go.RowKit Go.Eng
set_option maxHeartbeats 0
set_option maxRecDepth 20000
theorem QH8 (p:Prg) (s:Stt) (x:Pck) (fuel:Int) (hp:p.Fit) (hr:QP p=true) (hw:Wf p s) (hg:0≤x.go∧x.go<s.count) (ha:x.alt∈Qj p s x.go):Ctr Go.Proofs.Tryz.prog tab 73 [26,37,39,3] [37,48] [p.v,s.v,x.v,.int fuel] [(take QB p s x fuel).1.v,(take QB p s x fuel).2.v]:=by
 have hpp:=hp
 have hok:=Prg.ok hr
 have hs:=hw.shape
 have hcnt:=hw.count
 have hcode:=p.code_len hp
 have hsl:=p.sels_len hp
 obtain ⟨hp1,hp2,hp3,hp4⟩:=hp
 have hs1:=hs.vars
 have hs2:=hs.owner
 have hs3:=hs.chans
 have hs5:=hs.gos
 have hsz:=hok.sizes
 unfold Ze at hsz
 have hmx:256≤maxLen:=by decide
 have hg6:0≤x.go∧x.go<6:=by omega
 have hv:=wz hok hw hg ha
 have hvc:=zb p s x.go x.alt
 refine Ctr.body ok Go.Proofs.Tryz.func73 rfl rfl 94 rfl [.cell 8 37,.cell 9 48] rfl (by simp [QE]) ?_
 simp only [go_sem,Nat.reduceAdd]
 repeat' first
  | ((with_reducible first|refine Q2 fun R1 hR1=>?_|refine qR fun R1 hR1=>?_|refine qQ fun R1 hR1=>?_|refine qP fun R1 hR1=>?_);(simp only [go_sem,seval,-List.reduceReplicate,ZY,QF,x4]);(repeat' with_reducible refine And.intro ?_ ?_);all_goals first|(refine hR1 _ ?_;clear hR1 R1)|((first|refine cq (cc (QCJ p s x.go x.alt hpp hr hw hg ha)) ?_|refine cq (cc (QBo p s x 0 hpp hr hw hg)) ?_|refine cq (cc (QBo p s x d.val hpp hr hw hg)) ?_|refine ce (cf (vM p s1 x.go fuel hpp hsh) ?_)|refine ce (cf (vM p _ _ fuel hpp h1.shape) ?_));all_goals ((try simp only [go_sem,seval,-List.reduceReplicate,ZY,QF,x4]);(repeat' with_reducible refine And.intro ?_ ?_);all_goals first|(refine hR1 _ ?_;clear hR1 R1)|exact Xk))|exact Xk)
  | ((with_reducible refine SART.doneAt 10 ?_);refine hR _ ?_;clear hR R;try simp only [go_sem,vp,Nat.reduceBEq]
     exact Qq rfl)
  | ((with_reducible refine SART.doneAt 15 ?_);refine hR _ ?_;clear hR R;try simp only [go_sem,vp,Nat.reduceBEq]
     exact Qq rfl)
  | ((with_reducible first|refine qO ?_|refine Q1 ?_);refine hR _ ?_;clear hR R;try simp only [go_sem,vp,Nat.reduceBEq])
  | (with_reducible first|refine qN ?_ ?_|exact qM|refine qL ?_ ?_)
  | (with_reducible first|refine J1 ?_|refine J2 ?_|refine J3 ?_|refine Q0 ?_|refine Qz ?_)
  | ((with_reducible refine QZ 3 ?_)
     obtain ⟨d,hd⟩:∃ d,d=QI p s x.go x.alt:=⟨_,rfl⟩
     rw [← hd] at hv hvc
     have hgi:=hv.gos x.go hg.1 (by omega)
     have hs6:=hv.shape.gos
     rw [← hd]
     (with_reducible refine rg vp fun R hR=>?_);simp only [go_sem,QC])
  | ((with_reducible refine QZ 5 ?_)
     obtain ⟨l1,hl1⟩:∃ l1,l1=d.s.gos.set x.go.toNat ⟨4,(d.s.gos.getD x.go.toNat default).func,(d.s.gos.getD x.go.toNat default).pc,(d.s.gos.getD x.go.toNat default).why,(d.s.gos.getD x.go.toNat default).regs⟩:=⟨_,rfl⟩
     have e1:l1.getD x.go.toNat default=⟨4,(d.s.gos.getD x.go.toNat default).func,(d.s.gos.getD x.go.toNat default).pc,(d.s.gos.getD x.go.toNat default).why,(d.s.gos.getD x.go.toNat default).regs⟩:=by rw [hl1,QW,if_pos ⟨rfl,by omega⟩]
     rw [← hl1]
     (with_reducible refine rg vp fun R hR=>?_);simp only [go_sem,QC])
  | ((with_reducible refine QZ 6 ?_)
     simp only [e1]
     obtain ⟨l2,hl2⟩:∃ l2,l2=l1.set x.go.toNat ⟨4,(d.s.gos.getD x.go.toNat default).func,(d.s.gos.getD x.go.toNat default).pc,d.why,(d.s.gos.getD x.go.toNat default).regs⟩:=⟨_,rfl⟩
     have e2:l2.getD x.go.toNat default=⟨4,(d.s.gos.getD x.go.toNat default).func,(d.s.gos.getD x.go.toNat default).pc,d.why,(d.s.gos.getD x.go.toNat default).regs⟩:=by rw [hl2,QW,if_pos ⟨rfl,by rw [hl1,List.length_set];omega⟩]
     rw [← hl2]
     (with_reducible refine rg vp fun R hR=>?_);simp only [go_sem,QC])
  | ((with_reducible refine QZ 12 ?_)
     obtain ⟨s1,hs1⟩:∃ s1:Stt,s1=⟨d.s.vars,d.s.owner,d.s.chans,d.s.gos.set x.go.toNat ⟨(d.s.gos.getD x.go.toNat default).status,(d.s.gos.getD x.go.toNat default).func,d.to_,(d.s.gos.getD x.go.toNat default).why,(d.s.gos.getD x.go.toNat default).regs⟩,d.s.count⟩:=⟨_,rfl⟩
     have hsh:s1.Shape:=by rw [hs1];exact Yd hv.shape _ _ hgi.regs
     rw [← hs1]
     have h1:=xZ QB hok hsh x.go fuel
     (with_reducible refine rg vp fun R hR=>?_);simp only [go_sem,QC])
  | ((with_reducible refine QZ 7 ?_)
     simp only [e2]
     simp only [hl2,hl1,List.set_set]
     refine WJ ok QN (.take 0 (.take 1 (.take 2 (.take 3 (.take 4 (.br 5 (.br 6 (.br 7 .done .nil) .nil) .nil)))))) [6,7] vp (by kernel_rfl) (fun R hR=>?_);simp only [go_sem,QC])
  | ((with_reducible refine QZ 10 ?_)
     refine J35 ok QN (.take 0 (.take 1 (.br 2 (.br 3 (.br 4 .done .nil) .nil) (.br 3 (.take 2 (.br 4 .done .nil)) .nil)))) [3,4] vp (by kernel_rfl) ({ tm:=[(8,true,.ptr 3 [] 37),(9,true,.ptr 4 [] 48)],ob:=[.var 26 (.data 26 p.v),.var 37 (.data 37 s.v),.var 39 (.data 39 x.v),.var 37 (.data 37 (Stt.v d.s)),.var 48 (.data 48 (event p s x d.val).v),.var 189 (.data 189 (Did.v d)),.var 48 (.data 48 (event p s x d.val).v)],out:=[],nt:=94 }) (fun R hR=>?_) ?_;simp only [go_sem,QC])
  | ((with_reducible refine QZ 15 ?_)
     first|rw [show (Qd QB p (Qd QB p s1 x.go fuel).1 s.count fuel).1=(if s.count<(Qd QB p s1 x.go fuel).1.count then (Qd QB p (Qd QB p s1 x.go fuel).1 s.count fuel).1 else (Qd QB p s1 x.go fuel).1) from (if_pos hb82).symm]|rw [show (Qd QB p s1 x.go fuel).1=(if s.count<(Qd QB p s1 x.go fuel).1.count then (Qd QB p (Qd QB p s1 x.go fuel).1 s.count fuel).1 else (Qd QB p s1 x.go fuel).1) from (if_neg (by omega)).symm]
     refine J35 ok QN (.take 0 (.br 1 (.br 2 (.br 3 .done .nil) .nil) (.br 2 (.take 1 (.br 3 .done .nil)) .nil))) [2,3] vp (by kernel_rfl) ({ tm:=[(8,true,.ptr 3 [] 37),(9,true,.ptr 4 [] 48)],ob:=[.var 26 (.data 26 p.v),.var 37 (.data 37 s.v),.var 39 (.data 39 x.v),.var 37 (.data 37 (Stt.v (if s.count<(Qd QB p s1 x.go fuel).1.count then (Qd QB p (Qd QB p s1 x.go fuel).1 s.count fuel).1 else (Qd QB p s1 x.go fuel).1))),.var 48 (.data 48 (event p s x d.val).v),.var 189 (.data 189 (Did.v ⟨s1,d.val,d.why,d.to_⟩)),.var 48 (.data 48 (event p s x d.val).v),.var 37 (.data 37 (Stt.v (if s.count<(Qd QB p s1 x.go fuel).1.count then (Qd QB p (Qd QB p s1 x.go fuel).1 s.count fuel).1 else (Qd QB p s1 x.go fuel).1)))],out:=[],nt:=94 }) (fun R hR=>?_) ?_;simp only [go_sem,QC])
  | ((with_reducible refine rg vp fun R hR=>?_);simp only [go_sem,QC])
  | ((with_reducible refine QH 25 rfl (fun hb25=>?_) fun hb25=>?_);all_goals (try simp [-List.getD_eq_getElem?_getD] at hb25;try (exfalso;omega)))
  | ((with_reducible refine QH 58 rfl (fun hb58=>?_) fun hb58=>?_);all_goals (try simp [-List.getD_eq_getElem?_getD] at hb58;try (exfalso;omega)))
  | ((with_reducible refine QH 82 rfl (fun hb82=>?_) fun hb82=>?_);all_goals (try simp [-List.getD_eq_getElem?_getD] at hb82;try (exfalso;omega)))
  | ((with_reducible first|refine ZH ?_|refine ZG ?_)
     simp only [go_sem,QJ,QK,QG,seval]
     first
      | (have q:=hb82
         subst hd
         subst hs1
         have e:take QB p s x fuel=((if s.count<(Qd QB p ⟨(QI p s x.go x.alt).s.vars,(QI p s x.go x.alt).s.owner,(QI p s x.go x.alt).s.chans,(QI p s x.go x.alt).s.gos.set x.go.toNat ⟨((QI p s x.go x.alt).s.gos.getD x.go.toNat default).status,((QI p s x.go x.alt).s.gos.getD x.go.toNat default).func,(QI p s x.go x.alt).to_,((QI p s x.go x.alt).s.gos.getD x.go.toNat default).why,((QI p s x.go x.alt).s.gos.getD x.go.toNat default).regs⟩,(QI p s x.go x.alt).s.count⟩ x.go fuel).1.count then (Qd QB p (Qd QB p ⟨(QI p s x.go x.alt).s.vars,(QI p s x.go x.alt).s.owner,(QI p s x.go x.alt).s.chans,(QI p s x.go x.alt).s.gos.set x.go.toNat ⟨((QI p s x.go x.alt).s.gos.getD x.go.toNat default).status,((QI p s x.go x.alt).s.gos.getD x.go.toNat default).func,(QI p s x.go x.alt).to_,((QI p s x.go x.alt).s.gos.getD x.go.toNat default).why,((QI p s x.go x.alt).s.gos.getD x.go.toNat default).regs⟩,(QI p s x.go x.alt).s.count⟩ x.go fuel).1 s.count fuel).1 else (Qd QB p ⟨(QI p s x.go x.alt).s.vars,(QI p s x.go x.alt).s.owner,(QI p s x.go x.alt).s.chans,(QI p s x.go x.alt).s.gos.set x.go.toNat ⟨((QI p s x.go x.alt).s.gos.getD x.go.toNat default).status,((QI p s x.go x.alt).s.gos.getD x.go.toNat default).func,(QI p s x.go x.alt).to_,((QI p s x.go x.alt).s.gos.getD x.go.toNat default).why,((QI p s x.go x.alt).s.gos.getD x.go.toNat default).regs⟩,(QI p s x.go x.alt).s.count⟩ x.go fuel).1),event p s x (QI p s x.go x.alt).val):=(if_neg (fun h=>h hb25)).trans (if_neg (Int.not_lt.2 hb58))
         rw [e]
         exact ⟨⟨rfl,rfl⟩,⟨rfl,rfl⟩⟩)
      | (have q:=hb58
         subst hd
         have e:take QB p s x fuel=((QI p s x.go x.alt).s,event p s x (QI p s x.go x.alt).val):=(if_neg (fun h=>h hb25)).trans (if_pos hb58)
         rw [e]
         exact ⟨⟨rfl,rfl⟩,⟨rfl,rfl⟩⟩)
      | (subst hd
         have e:take QB p s x fuel=(⟨(QI p s x.go x.alt).s.vars,(QI p s x.go x.alt).s.owner,(QI p s x.go x.alt).s.chans,(QI p s x.go x.alt).s.gos.set x.go.toNat ⟨4,((QI p s x.go x.alt).s.gos.getD x.go.toNat default).func,((QI p s x.go x.alt).s.gos.getD x.go.toNat default).pc,(QI p s x.go x.alt).why,List.replicate 8 0⟩,(QI p s x.go x.alt).s.count⟩,event p s x 0):=if_pos hb25
         rw [e]
         exact ⟨⟨rfl,rfl⟩,⟨rfl,rfl⟩⟩))
end Go.Eng.Tryz
namespace Go.Eng.Tryz
open Go.RowKit Go.Eng
set_option maxHeartbeats 0
set_option maxRecDepth 20000
def QI0:List (List Nat):=[[3,4,5,6,8,9],[3,4,5,6,8,9,18],[8,9,10],[3,4,5,6,8,9,25],[8,9,10],[8,9,11,12],[8,9,10]]
theorem QAD (p:Prg) (s:Stt) (x:Pck) (fuel:Int) (hp:p.Fit) (hr:QP p=true) (hw:Wf p s):Ctr Go.Proofs.Tryz.prog tab 20 [26,37,39,3] [37,48,3] [p.v,s.v,x.v,.int fuel] [(YV QB p s x fuel).1.v,(YV QB p s x fuel).2.1.v,.int (YV QB p s x fuel).2.2]:=by
 have hpp:=hp
 have hcode:=p.code_len hp
 have hsl:=p.sels_len hp
 refine Ctr.body ok Go.Proofs.Tryz.func20 rfl rfl 38 rfl [.cell 8 37,.cell 9 48,.tmp 10] rfl (by simp [QE]) ?_
 simp only [go_sem,Nat.reduceAdd]
 repeat' first
  | ((with_reducible first|refine Q2 fun R1 hR1=>?_|refine qR fun R1 hR1=>?_|refine qQ fun R1 hR1=>?_|refine qP fun R1 hR1=>?_);(simp only [go_sem,seval,-List.reduceReplicate,ZY,QF]);(repeat' with_reducible refine And.intro ?_ ?_);all_goals first|(refine hR1 _ ?_;clear hR1 R1)|((first|refine cq (cc (QLH p s x hpp hr hw)) ?_|refine ce (cf (QH8 p s x fuel hpp hr hw hg ha) ?_));all_goals ((try simp only [go_sem,seval,-List.reduceReplicate,ZY,QF]);(repeat' with_reducible refine And.intro ?_ ?_);all_goals first|(refine hR1 _ ?_;clear hR1 R1)|exact Xk))|exact Xk)
  | ((with_reducible refine SART.doneAt 6 ?_);refine hR _ ?_;clear hR R;try simp only [go_sem,QI0,Nat.reduceBEq]
     exact Qq rfl)
  | ((with_reducible first|refine qO ?_|refine Q1 ?_);refine hR _ ?_;clear hR R;try simp only [go_sem,QI0,Nat.reduceBEq])
  | (with_reducible first|refine qN ?_ ?_|exact qM|refine qL ?_ ?_)
  | (with_reducible first|refine J1 ?_|refine J2 ?_|refine J3 ?_|refine Q0 ?_|refine Qz ?_)
  | ((with_reducible refine QZ 5 ?_)
     have ha:x.alt∈Qj p s x.go:=of_decide_eq_true hb25
     have hg:=(live_iff.1 (Yq ha)).1
     (with_reducible refine rg QI0 fun R hR=>?_);simp only [go_sem,QC])
  | ((with_reducible refine QZ 6 ?_)
     refine J35 ok QN (.take 0 (.br 1 (.br 2 (.br 3 (.take 4 .done) .nil) .nil) (.br 2 (.take 1 (.br 3 (.take 4 .done) .nil)) .nil))) [2,3] QI0 (by kernel_rfl) ({ tm:=[(8,true,.ptr 3 [] 37),(9,true,.ptr 4 [] 48),(10,true,.int .i64 0)],ob:=[.var 26 (.data 26 p.v),.var 37 (.data 37 s.v),.var 39 (.data 39 x.v),.var 37 (.data 37 (take QB p s x fuel).1.v),.var 48 (.data 48 (take QB p s x fuel).2.v),.var 37 (.data 37 (take QB p s x fuel).1.v),.var 48 (.data 48 (take QB p s x fuel).2.v)],out:=[],nt:=38 }) (fun R hR=>?_) ?_;simp only [go_sem,QC])
  | ((with_reducible refine rg QI0 fun R hR=>?_);simp only [go_sem,QC])
  | ((with_reducible refine QH 18 rfl (fun hb18=>?_) fun hb18=>?_);all_goals (try simp [-List.getD_eq_getElem?_getD] at hb18;try (exfalso;omega)))
  | ((with_reducible refine QH 25 rfl (fun hb25=>?_) fun hb25=>?_);all_goals (try simp [-List.getD_eq_getElem?_getD] at hb25;try (exfalso;omega)))
  | ((with_reducible first|refine ZH ?_|refine ZG ?_)
     simp only [go_sem,QJ,QK,QG,seval]
     first
      | (have e:YV QB p s x fuel=((take QB p s x fuel).1,(take QB p s x fuel).2,0):=(if_neg (by omega)).trans (if_neg (by rw [show has p s x=true from hb25];simp))
         rw [e]
         exact ⟨⟨rfl,rfl⟩,⟨rfl,rfl⟩,⟨rfl,rfl⟩⟩)
      | (have e:YV QB p s x fuel=(zeroStt,zeroEvent,5):=(if_neg (by omega)).trans (if_pos hb25)
         rw [e]
         exact ⟨⟨rfl,rfl⟩,⟨rfl,rfl⟩,⟨rfl,rfl⟩⟩)
      | (have e:YV QB p s x fuel=(zeroStt,zeroEvent,1):=if_pos (by omega)
         rw [e]
         exact ⟨⟨rfl,rfl⟩,⟨rfl,rfl⟩,⟨rfl,rfl⟩⟩))
end Go.Eng.Tryz
