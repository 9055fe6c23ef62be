/- A part of the proof: walks through the program's functions, and what they compute. -/
import Derived.Test.YtmonhjagbhpbeaaGreatDoorPk36
set_option linter.unusedSimpArgs false
set_option linter.unusedVariables false
namespace Go.Eng.Tryz
open Go.RowKit Go.Eng
set_option maxHeartbeats 0
set_option maxRecDepth 20000
theorem QKI (p:Prg) (s:Stt) (x:Pck) (fuel:Int) (hp:p.Fit) (hr:QN p=true) (hw:Wf p s) (hg:0≤x.go∧x.go<s.count) (ha:x.alt∈Qn p s x.go):Ctr Go.Proofs.Tryz.prog tab 99 [26,47,56,3] [47,63] [p.v,s.v,x.v,.int fuel] [(take QB p s x fuel).1.v,(take QB p s x fuel).2.v]:=by
 have hpp:=hp
 have hok:=Prg.ok hr
 have hs:=hw.shape
 have hcnt:=hw.count
 have hcode:=p.code_len hp
 have hsl:=p.sels_len hp
 obtain ⟨hp1,hp2,hp3,hp4⟩:=hp
 have hs1:=hs.vars
 have hs2:=hs.owner
 have hs3:=hs.chans
 have hs5:=hs.gos
 have hsz:=hok.sizes
 unfold Zz at hsz
 have hmx:256≤maxLen:=by decide
 have hg6:0≤x.go∧x.go<6:=by omega
 have hv:=QAO hok hw hg ha
 have hvc:=UX p s x.go x.alt
 refine Ctr.body ok Go.Proofs.Tryz.func99 rfl rfl 94 rfl [.cell 8 47,.cell 9 63] rfl (by simp [QF]) ?_
 simp only [go_sem,Nat.reduceAdd]
 repeat' first
  | ((with_reducible first|refine Q5 fun R1 hR1=>?_|refine qz fun R1 hR1=>?_|refine qy fun R1 hR1=>?_|refine qx fun R1 hR1=>?_);(simp only [go_sem,seval,-List.reduceReplicate,YA,QE,w4]);(repeat' with_reducible refine And.intro ?_ ?_);all_goals first|(refine hR1 _ ?_;clear hR1 R1)|((first|refine cq (cc (QDi p s x.go x.alt hpp hr hw hg ha)) ?_|refine cq (cc (QDE p s x 0 hpp hr hw hg)) ?_|refine cq (cc (QDE p s x d.val hpp hr hw hg)) ?_|refine ce (cf (QAr p s1 x.go fuel hpp hsh) ?_)|refine ce (cf (QAr p _ _ fuel hpp h1.shape) ?_));all_goals ((try simp only [go_sem,seval,-List.reduceReplicate,YA,QE,w4]);(repeat' with_reducible refine And.intro ?_ ?_);all_goals first|(refine hR1 _ ?_;clear hR1 R1)|exact VL))|exact VL)
  | ((with_reducible refine SART.doneAt 10 ?_);refine hR _ ?_;clear hR R;try simp only [go_sem,QBI,Nat.reduceBEq]
     exact Qo rfl)
  | ((with_reducible refine SART.doneAt 15 ?_);refine hR _ ?_;clear hR R;try simp only [go_sem,QBI,Nat.reduceBEq]
     exact Qo rfl)
  | ((with_reducible first|refine qw ?_|refine Q4 ?_);refine hR _ ?_;clear hR R;try simp only [go_sem,QBI,Nat.reduceBEq])
  | (with_reducible first|refine qv ?_ ?_|exact qu|refine qt ?_ ?_)
  | (with_reducible first|refine J1 ?_|refine J2 ?_|refine J3 ?_|refine Q2 ?_|refine Q1 ?_)
  | ((with_reducible refine Qe 3 ?_)
     obtain ⟨d,hd⟩:∃ d,d=QG p s x.go x.alt:=⟨_,rfl⟩
     rw [← hd] at hv hvc
     have hgi:=hv.gos x.go hg.1 (by omega)
     have hs6:=hv.shape.gos
     rw [← hd]
     (with_reducible refine rg QBI fun R hR=>?_);simp only [go_sem,QC])
  | ((with_reducible refine Qe 5 ?_)
     obtain ⟨l1,hl1⟩:∃ l1,l1=d.s.gos.set x.go.toNat ⟨4,(d.s.gos.getD x.go.toNat default).func,(d.s.gos.getD x.go.toNat default).pc,(d.s.gos.getD x.go.toNat default).why,(d.s.gos.getD x.go.toNat default).regs⟩:=⟨_,rfl⟩
     have e1:l1.getD x.go.toNat default=⟨4,(d.s.gos.getD x.go.toNat default).func,(d.s.gos.getD x.go.toNat default).pc,(d.s.gos.getD x.go.toNat default).why,(d.s.gos.getD x.go.toNat default).regs⟩:=by rw [hl1,QU,if_pos ⟨rfl,by omega⟩]
     rw [← hl1]
     (with_reducible refine rg QBI fun R hR=>?_);simp only [go_sem,QC])
  | ((with_reducible refine Qe 6 ?_)
     simp only [e1]
     obtain ⟨l2,hl2⟩:∃ l2,l2=l1.set x.go.toNat ⟨4,(d.s.gos.getD x.go.toNat default).func,(d.s.gos.getD x.go.toNat default).pc,d.why,(d.s.gos.getD x.go.toNat default).regs⟩:=⟨_,rfl⟩
     have e2:l2.getD x.go.toNat default=⟨4,(d.s.gos.getD x.go.toNat default).func,(d.s.gos.getD x.go.toNat default).pc,d.why,(d.s.gos.getD x.go.toNat default).regs⟩:=by rw [hl2,QU,if_pos ⟨rfl,by rw [hl1,List.length_set];omega⟩]
     rw [← hl2]
     (with_reducible refine rg QBI fun R hR=>?_);simp only [go_sem,QC])
  | ((with_reducible refine Qe 12 ?_)
     obtain ⟨s1,hs1⟩:∃ s1:Stt,s1=⟨d.s.vars,d.s.owner,d.s.chans,d.s.gos.set x.go.toNat ⟨(d.s.gos.getD x.go.toNat default).status,(d.s.gos.getD x.go.toNat default).func,d.to_,(d.s.gos.getD x.go.toNat default).why,(d.s.gos.getD x.go.toNat default).regs⟩,d.s.count⟩:=⟨_,rfl⟩
     have hsh:s1.Shape:=by rw [hs1];exact Yr hv.shape _ _ hgi.regs
     rw [← hs1]
     have h1:=wW QB hok hsh x.go fuel
     (with_reducible refine rg QBI fun R hR=>?_);simp only [go_sem,QC])
  | ((with_reducible refine Qe 7 ?_)
     simp only [e2]
     simp only [hl2,hl1,List.set_set]
     refine WT ok QQ (.take 0 (.take 1 (.take 2 (.take 3 (.take 4 (.br 5 (.br 6 (.br 7 .done .nil) .nil) .nil)))))) [6,7] QBI (by kernel_rfl) (fun R hR=>?_);simp only [go_sem,QC])
  | ((with_reducible refine Qe 10 ?_)
     refine J35 ok QQ (.take 0 (.take 1 (.br 2 (.br 3 (.br 4 .done .nil) .nil) (.br 3 (.take 2 (.br 4 .done .nil)) .nil)))) [3,4] QBI (by kernel_rfl) ({ tm:=[(8,true,.ptr 3 [] 47),(9,true,.ptr 4 [] 63)],ob:=[.var 26 (.data 26 p.v),.var 47 (.data 47 s.v),.var 56 (.data 56 x.v),.var 47 (.data 47 (Stt.v d.s)),.var 63 (.data 63 (event p s x d.val).v),.var 223 (.data 223 (Did.v d)),.var 63 (.data 63 (event p s x d.val).v)],out:=[],nt:=94 }) (fun R hR=>?_) ?_;simp only [go_sem,QC])
  | ((with_reducible refine Qe 15 ?_)
     first|rw [show (QZ QB p (QZ QB p s1 x.go fuel).1 s.count fuel).1=(if s.count<(QZ QB p s1 x.go fuel).1.count then (QZ QB p (QZ QB p s1 x.go fuel).1 s.count fuel).1 else (QZ QB p s1 x.go fuel).1) from (if_pos hb82).symm]|rw [show (QZ QB p s1 x.go fuel).1=(if s.count<(QZ QB p s1 x.go fuel).1.count then (QZ QB p (QZ QB p s1 x.go fuel).1 s.count fuel).1 else (QZ QB p s1 x.go fuel).1) from (if_neg (by omega)).symm]
     refine J35 ok QQ (.take 0 (.br 1 (.br 2 (.br 3 .done .nil) .nil) (.br 2 (.take 1 (.br 3 .done .nil)) .nil))) [2,3] QBI (by kernel_rfl) ({ tm:=[(8,true,.ptr 3 [] 47),(9,true,.ptr 4 [] 63)],ob:=[.var 26 (.data 26 p.v),.var 47 (.data 47 s.v),.var 56 (.data 56 x.v),.var 47 (.data 47 (Stt.v (if s.count<(QZ QB p s1 x.go fuel).1.count then (QZ QB p (QZ QB p s1 x.go fuel).1 s.count fuel).1 else (QZ QB p s1 x.go fuel).1))),.var 63 (.data 63 (event p s x d.val).v),.var 223 (.data 223 (Did.v ⟨s1,d.val,d.why,d.to_⟩)),.var 63 (.data 63 (event p s x d.val).v),.var 47 (.data 47 (Stt.v (if s.count<(QZ QB p s1 x.go fuel).1.count then (QZ QB p (QZ QB p s1 x.go fuel).1 s.count fuel).1 else (QZ QB p s1 x.go fuel).1)))],out:=[],nt:=94 }) (fun R hR=>?_) ?_;simp only [go_sem,QC])
  | ((with_reducible refine rg QBI fun R hR=>?_);simp only [go_sem,QC])
  | ((with_reducible refine QI 25 rfl (fun hb25=>?_) fun hb25=>?_);all_goals (try simp [-List.getD_eq_getElem?_getD] at hb25;try (exfalso;omega)))
  | ((with_reducible refine QI 58 rfl (fun hb58=>?_) fun hb58=>?_);all_goals (try simp [-List.getD_eq_getElem?_getD] at hb58;try (exfalso;omega)))
  | ((with_reducible refine QI 82 rfl (fun hb82=>?_) fun hb82=>?_);all_goals (try simp [-List.getD_eq_getElem?_getD] at hb82;try (exfalso;omega)))
  | ((with_reducible first|refine ZQ ?_|refine ZP ?_)
     simp only [go_sem,QL,QM,QH,seval]
     first
      | (have q:=hb82
         subst hd
         subst hs1
         have e:take QB p s x fuel=((if s.count<(QZ QB p ⟨(QG p s x.go x.alt).s.vars,(QG p s x.go x.alt).s.owner,(QG p s x.go x.alt).s.chans,(QG p s x.go x.alt).s.gos.set x.go.toNat ⟨((QG p s x.go x.alt).s.gos.getD x.go.toNat default).status,((QG p s x.go x.alt).s.gos.getD x.go.toNat default).func,(QG p s x.go x.alt).to_,((QG p s x.go x.alt).s.gos.getD x.go.toNat default).why,((QG p s x.go x.alt).s.gos.getD x.go.toNat default).regs⟩,(QG p s x.go x.alt).s.count⟩ x.go fuel).1.count then (QZ QB p (QZ QB p ⟨(QG p s x.go x.alt).s.vars,(QG p s x.go x.alt).s.owner,(QG p s x.go x.alt).s.chans,(QG p s x.go x.alt).s.gos.set x.go.toNat ⟨((QG p s x.go x.alt).s.gos.getD x.go.toNat default).status,((QG p s x.go x.alt).s.gos.getD x.go.toNat default).func,(QG p s x.go x.alt).to_,((QG p s x.go x.alt).s.gos.getD x.go.toNat default).why,((QG p s x.go x.alt).s.gos.getD x.go.toNat default).regs⟩,(QG p s x.go x.alt).s.count⟩ x.go fuel).1 s.count fuel).1 else (QZ QB p ⟨(QG p s x.go x.alt).s.vars,(QG p s x.go x.alt).s.owner,(QG p s x.go x.alt).s.chans,(QG p s x.go x.alt).s.gos.set x.go.toNat ⟨((QG p s x.go x.alt).s.gos.getD x.go.toNat default).status,((QG p s x.go x.alt).s.gos.getD x.go.toNat default).func,(QG p s x.go x.alt).to_,((QG p s x.go x.alt).s.gos.getD x.go.toNat default).why,((QG p s x.go x.alt).s.gos.getD x.go.toNat default).regs⟩,(QG p s x.go x.alt).s.count⟩ x.go fuel).1),event p s x (QG p s x.go x.alt).val):=(if_neg (fun h=>h hb25)).trans (if_neg (Int.not_lt.2 hb58))
         rw [e]
         exact ⟨⟨rfl,rfl⟩,⟨rfl,rfl⟩⟩)
      | (have q:=hb58
         subst hd
         have e:take QB p s x fuel=((QG p s x.go x.alt).s,event p s x (QG p s x.go x.alt).val):=(if_neg (fun h=>h hb25)).trans (if_pos hb58)
         rw [e]
         exact ⟨⟨rfl,rfl⟩,⟨rfl,rfl⟩⟩)
      | (subst hd
         have e:take QB p s x fuel=(⟨(QG p s x.go x.alt).s.vars,(QG p s x.go x.alt).s.owner,(QG p s x.go x.alt).s.chans,(QG p s x.go x.alt).s.gos.set x.go.toNat ⟨4,((QG p s x.go x.alt).s.gos.getD x.go.toNat default).func,((QG p s x.go x.alt).s.gos.getD x.go.toNat default).pc,(QG p s x.go x.alt).why,List.replicate 8 0⟩,(QG p s x.go x.alt).s.count⟩,event p s x 0):=if_pos hb25
         rw [e]
         exact ⟨⟨rfl,rfl⟩,⟨rfl,rfl⟩⟩))
def QK9:List (List Nat):=[[3,4,5,6,8,9],[3,4,5,6,8,9,18],[8,9,10],[3,4,5,6,8,9,25],[8,9,10],[8,9,11,12],[8,9,10]]
theorem QLp (p:Prg) (s:Stt) (x:Pck) (fuel:Int) (hp:p.Fit) (hr:QN p=true) (hw:Wf p s):Ctr Go.Proofs.Tryz.prog tab 58 [26,47,56,3] [47,63,3] [p.v,s.v,x.v,.int fuel] [(YO QB p s x fuel).1.v,(YO QB p s x fuel).2.1.v,.int (YO QB p s x fuel).2.2]:=by
 have hpp:=hp
 have hcode:=p.code_len hp
 have hsl:=p.sels_len hp
 refine Ctr.body ok Go.Proofs.Tryz.func58 rfl rfl 38 rfl [.cell 8 47,.cell 9 63,.tmp 10] rfl (by simp [QF]) ?_
 simp only [go_sem,Nat.reduceAdd]
 repeat' first
  | ((with_reducible first|refine Q5 fun R1 hR1=>?_|refine qz fun R1 hR1=>?_|refine qy fun R1 hR1=>?_|refine qx fun R1 hR1=>?_);(simp only [go_sem,seval,-List.reduceReplicate,YA,QE]);(repeat' with_reducible refine And.intro ?_ ?_);all_goals first|(refine hR1 _ ?_;clear hR1 R1)|((first|refine cq (cc (QNT p s x hpp hr hw)) ?_|refine ce (cf (QKI p s x fuel hpp hr hw hg ha) ?_));all_goals ((try simp only [go_sem,seval,-List.reduceReplicate,YA,QE]);(repeat' with_reducible refine And.intro ?_ ?_);all_goals first|(refine hR1 _ ?_;clear hR1 R1)|exact VL))|exact VL)
  | ((with_reducible refine SART.doneAt 6 ?_);refine hR _ ?_;clear hR R;try simp only [go_sem,QK9,Nat.reduceBEq]
     exact Qo rfl)
  | ((with_reducible first|refine qw ?_|refine Q4 ?_);refine hR _ ?_;clear hR R;try simp only [go_sem,QK9,Nat.reduceBEq])
  | (with_reducible first|refine qv ?_ ?_|exact qu|refine qt ?_ ?_)
  | (with_reducible first|refine J1 ?_|refine J2 ?_|refine J3 ?_|refine Q2 ?_|refine Q1 ?_)
  | ((with_reducible refine Qe 5 ?_)
     have ha:x.alt∈Qn p s x.go:=of_decide_eq_true hb25
     have hg:=(live_iff.1 (Zm ha)).1
     (with_reducible refine rg QK9 fun R hR=>?_);simp only [go_sem,QC])
  | ((with_reducible refine Qe 6 ?_)
     refine J35 ok QQ (.take 0 (.br 1 (.br 2 (.br 3 (.take 4 .done) .nil) .nil) (.br 2 (.take 1 (.br 3 (.take 4 .done) .nil)) .nil))) [2,3] QK9 (by kernel_rfl) ({ tm:=[(8,true,.ptr 3 [] 47),(9,true,.ptr 4 [] 63),(10,true,.int .i64 0)],ob:=[.var 26 (.data 26 p.v),.var 47 (.data 47 s.v),.var 56 (.data 56 x.v),.var 47 (.data 47 (take QB p s x fuel).1.v),.var 63 (.data 63 (take QB p s x fuel).2.v),.var 47 (.data 47 (take QB p s x fuel).1.v),.var 63 (.data 63 (take QB p s x fuel).2.v)],out:=[],nt:=38 }) (fun R hR=>?_) ?_;simp only [go_sem,QC])
  | ((with_reducible refine rg QK9 fun R hR=>?_);simp only [go_sem,QC])
  | ((with_reducible refine QI 18 rfl (fun hb18=>?_) fun hb18=>?_);all_goals (try simp [-List.getD_eq_getElem?_getD] at hb18;try (exfalso;omega)))
  | ((with_reducible refine QI 25 rfl (fun hb25=>?_) fun hb25=>?_);all_goals (try simp [-List.getD_eq_getElem?_getD] at hb25;try (exfalso;omega)))
  | ((with_reducible first|refine ZQ ?_|refine ZP ?_)
     simp only [go_sem,QL,QM,QH,seval]
     first
      | (have e:YO QB p s x fuel=((take QB p s x fuel).1,(take QB p s x fuel).2,0):=(if_neg (by omega)).trans (if_neg (by rw [show has p s x=true from hb25];simp))
         rw [e]
         exact ⟨⟨rfl,rfl⟩,⟨rfl,rfl⟩,⟨rfl,rfl⟩⟩)
      | (have e:YO QB p s x fuel=(zeroStt,zeroEvent,5):=(if_neg (by omega)).trans (if_pos hb25)
         rw [e]
         exact ⟨⟨rfl,rfl⟩,⟨rfl,rfl⟩,⟨rfl,rfl⟩⟩)
      | (have e:YO QB p s x fuel=(zeroStt,zeroEvent,1):=if_pos (by omega)
         rw [e]
         exact ⟨⟨rfl,rfl⟩,⟨rfl,rfl⟩,⟨rfl,rfl⟩⟩))
theorem QEi (b:Bud):Y1 b=(bif bif bif bif bif decide (0≤b.steps) then decide (b.steps≤256) else false then decide (0≤b.fuel) else false then decide (b.fuel≤4096) else false then decide (0≤b.runs) else false then decide (b.runs≤65536) else false):=by
 unfold Y1
 cases decide (0≤b.steps)<;>cases decide (b.steps≤256)<;>cases decide (0≤b.fuel)<;>cases decide (b.fuel≤4096)<;>cases decide (0≤b.runs)<;>cases decide (b.runs≤65536)<;>rfl
def QTm:List (List Nat):=[[1],[2]]
theorem QHD (b:Bud):Ctr Go.Proofs.Tryz.prog tab 14 [28] [4] [b.v] [.bool (Y1 b)]:=by
 have hcode:True→True:=id
 have hsl:True→True:=id
 refine Ctr.body ok Go.Proofs.Tryz.func14 rfl rfl 31 rfl [.tmp 2] rfl (by simp [QF]) ?_
 simp only [go_sem,Nat.reduceAdd]
 repeat' first
  | ((with_reducible refine Q5 fun R1 hR1=>?_);(simp only [go_sem,seval,-List.reduceReplicate]);(repeat' with_reducible refine And.intro ?_ ?_);all_goals first|(refine hR1 _ ?_;clear hR1 R1)|exact VL)
  | ((with_reducible refine Q4 ?_);refine hR _ ?_;clear hR R;try simp only [go_sem,QTm,Nat.reduceBEq])
  | (with_reducible first|refine J1 ?_|refine J2 ?_|refine Q2 ?_|refine Q1 ?_)
  | ((with_reducible refine rg QTm fun R hR=>?_);simp only [go_sem,QC])
  | ((with_reducible first|refine ZQ ?_|refine ZP ?_)
     simp only [go_sem,QL,QM,QH,seval]
     refine ⟨rfl,?_⟩
     rw [QEi])
def QTb:List (List Nat):=[[1,3,5],[1,5,9],[6],[5,11],[6],[14],[6],[6]]
theorem yY (p:Prg) (n:Int) (b:Bud) (hp:p.Fit):Ctr Go.Proofs.Tryz.prog tab 56 [26,3,28] [3] [p.v,.int n,b.v] [.int (ZR p n b)]:=by
 have hpp:=hp
 have hcode:=p.code_len hp
 have hsl:=p.sels_len hp
 refine Ctr.body ok Go.Proofs.Tryz.func56 rfl rfl 15 rfl [.tmp 6] rfl (by simp [QF]) ?_
 simp only [go_sem,Nat.reduceAdd]
 repeat' first
  | ((with_reducible refine Q5 fun R1 hR1=>?_);(simp only [go_sem,seval,-List.reduceReplicate]);(repeat' with_reducible refine And.intro ?_ ?_);all_goals first|(refine hR1 _ ?_;clear hR1 R1)|((first|refine cq (cc (Wm p hpp) (by first|rfl|(simp [go_sem,Yo,List.take_of_length_le,List.length_map];done)|fail)) ?_|refine cq (cc (QHD b) (by first|rfl|(simp [go_sem,Yo,List.take_of_length_le,List.length_map];done)|fail)) ?_);all_goals ((try simp only [go_sem,seval,-List.reduceReplicate]);(repeat' with_reducible refine And.intro ?_ ?_);all_goals first|(refine hR1 _ ?_;clear hR1 R1)|exact VL))|exact VL)
  | ((with_reducible refine Q4 ?_);refine hR _ ?_;clear hR R;try simp only [go_sem,QTb,Nat.reduceBEq])
  | (with_reducible first|refine J1 ?_|refine J2 ?_|refine J3 ?_|refine Q2 ?_|refine Q1 ?_)
  | ((with_reducible refine rg QTb fun R hR=>?_);simp only [go_sem,QC])
  | ((with_reducible refine QI 9 rfl (fun hb9=>?_) fun hb9=>?_);all_goals (try simp [-List.getD_eq_getElem?_getD] at hb9;try (exfalso;omega)))
  | ((with_reducible refine QI 11 rfl (fun hb11=>?_) fun hb11=>?_);all_goals (try simp [-List.getD_eq_getElem?_getD] at hb11;try (exfalso;omega)))
  | ((with_reducible refine QI 14 rfl (fun hb14=>?_) fun hb14=>?_);all_goals (try simp [-List.getD_eq_getElem?_getD] at hb14;try (exfalso;omega)))
  | ((with_reducible first|refine ZQ ?_|refine ZP ?_)
     simp only [go_sem,QL,QM,QH,seval]
     first
      | (have q:_=false:=hb9
         refine ⟨rfl,?_⟩
         rw [show ZR p n b=3 from if_pos hb9])
      | (have q:_=false:=hb14
         refine ⟨rfl,?_⟩
         rw [show ZR p n b=6 from (if_neg (by rw [hb9];simp)).trans ((if_neg (by omega)).trans (if_pos hb14))])
      | (have q:_=true:=hb14
         refine ⟨rfl,?_⟩
         rw [show ZR p n b=0 from (if_neg (by rw [hb9];simp)).trans ((if_neg (by omega)).trans (if_neg (by rw [hb14];simp)))])
      | (refine ⟨rfl,?_⟩
         rw [show ZR p n b=2 from (if_neg (by rw [hb9];simp)).trans (if_pos (by omega))]))
end Go.Eng.Tryz
