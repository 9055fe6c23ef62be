/- A part of the proof: walks through the program's functions, and what they compute. -/
import Derived.Test.YtedceinkpkoncaaGreatDoorPk29
import Derived.Test.YtedceinkpkoncaaGreatDoorPk36
set_option linter.unusedSimpArgs false
set_option linter.unusedVariables false
namespace Go.Eng.Tryz
open Go.RowKit Go.Eng
set_option maxHeartbeats 0
set_option maxRecDepth 20000
def QN8:List (List Nat):=[[1,2,4],[1,2,4,11],[4,5],[1,2,4,18],[4,5],[1,2,4,6],[1,2,4,6,22,23,24],[1,2,4,6,22,23,24,25],[1,2,4,6,7,8,22,23,24],[1,2,4,6,22,23,24],[1,2,4,6,22,23,24],[4,6],[4,5]]
theorem xX (p:Prg) (fuel:Int) (hp:p.Fit):Ctr Go.Proofs.Tryz.prog tab 98 [26,3] [37,3] [p.v,.int fuel] [(QS QB p fuel).1.v,.int (QS QB p fuel).2]:=by
 have hfit:=hp
 have hcode:=p.code_len hp
 have hsl:=p.sels_len hp
 obtain ⟨hp1,hp2,hp3,hp4⟩:=hp
 refine Ctr.body ok Go.Proofs.Tryz.func98 rfl rfl 42 rfl [.cell 4 37,.tmp 5] rfl (by simp [QE]) ?_
 simp only [go_sem,Nat.reduceAdd]
 repeat' first
  | ((with_reducible refine SARA.told 8 3 ?_)
     rw [yw (by omega)])
  | ((with_reducible refine Q2 fun R1 hR1=>?_);(simp only [go_sem,seval,-List.reduceReplicate,Qv,QF]);(repeat' with_reducible refine And.intro ?_ ?_);all_goals first|(refine hR1 _ ?_;clear hR1 R1)|((first|refine cq (cc (YK p hfit)) ?_|refine cq (cc (yb p _ _ hfit hr (VY hok) hf)) ?_);all_goals ((try simp only [go_sem,seval,-List.reduceReplicate,Qv,QF]);(repeat' with_reducible refine And.intro ?_ ?_);all_goals first|(refine hR1 _ ?_;clear hR1 R1)|exact ZQ))|exact ZQ)
  | ((with_reducible refine Q1 ?_);refine hR _ ?_;clear hR R;try simp only [go_sem,QN8,Nat.reduceBEq])
  | (with_reducible first|refine J1 ?_|refine J2 ?_|refine J3 ?_|refine J4 ?_|refine J5 ?_|refine J6 ?_|refine J7 ?_|refine J8 (by decide) ?_|refine J9 ?_|refine WL ?_|refine Q0 ?_|refine Qz ?_|refine YZ ?_|refine WK ?_)
  | ((with_reducible refine QZ 5 ?_)
     have hr:QP p=true:=hb11
     have hok:=Prg.ok hr
     have hsz:=hok.sizes
     unfold Ze at hsz
     have hf:0≤fuel∧fuel≤4096:=by omega
     (with_reducible refine rg QN8 fun R hR=>?_);simp only [go_sem,QC])
  | ((with_reducible refine rg QN8 fun R hR=>?_);simp only [go_sem,QC])
  | ((with_reducible refine QH 11 rfl (fun hb11=>?_) fun hb11=>?_);all_goals (try simp [-List.getD_eq_getElem?_getD] at hb11;try (exfalso;omega)))
  | ((with_reducible refine QH 18 rfl (fun hb18=>?_) fun hb18=>?_);all_goals (try simp [-List.getD_eq_getElem?_getD] at hb18;try (exfalso;omega)))
  | ((with_reducible refine QH 25 rfl (fun hb25=>?_) fun hb25=>?_);all_goals (try simp [-List.getD_eq_getElem?_getD] at hb25;try (exfalso;omega)))
  | ((with_reducible refine YQ ?_)
     refine Zo (Qq (by (simp only [qd];rfl))) (YR (fun n τ=>∃ (i:Nat),n=p.vars.length-i∧(i≤p.vars.length)∧τ={ tm:=[(1,true,.int .i64 fuel),(2,true,.ptr 0 [] 26),(4,true,.ptr 1 [] 37),(6,true,.ptr 2 [] 37),(22,true,.fs 139 (p.vars.map Vr.v) false),(23,true,.int .i64 p.vars.length),(24,true,.int .i64 i)],ob:=[.var 26 (.data 26 p.v),.var 37 (.data 37 zeroStt.v),.var 37 (.data 37 (Stt.v ⟨Zy p i,zeroStt.owner,zeroStt.chans,zeroStt.gos,1⟩))],out:=[],nt:=42 }) (p.vars.length) ⟨0,rfl,by omega,rfl⟩ ?_)
     rintro n τ ⟨i,hn,hi,rfl⟩)
  | ((with_reducible refine WM ?_)
     first
      | (have hlt:i<p.vars.length:=by omega
         refine Zt (p.vars.length-(i+1)) _ (by omega) ((WN 3 rfl).trans (Qq (by simp only [QD hlt hp1,qe p (show i<8 by omega),List.take_succ_cons,List.take_zero]))) ⟨i+1,rfl,hlt,rfl⟩))
  | ((with_reducible first|refine ZH ?_|refine ZG ?_)
     simp only [go_sem,QJ,QK,QG,seval]
     first
      | (have hi':i=p.vars.length:=by omega
         subst hi'
         have e:QS QB p fuel=(⟨Zy p p.vars.length,zeroStt.owner,zeroStt.chans,zeroStt.gos.set 0 (Yb QB p zeroGor fuel),1⟩,0):=(if_neg (by rw [hr];simp)).trans (if_neg (by omega))
         rw [e]
         exact ⟨⟨rfl,rfl⟩,⟨rfl,rfl⟩⟩)
      | (have q:_∨_:=hb18
         have e:QS QB p fuel=(zeroStt,1):=(if_neg (by rw [hb11];simp)).trans (if_pos hb18)
         rw [e]
         exact ⟨⟨rfl,rfl⟩,⟨rfl,rfl⟩⟩)
      | (have e:QS QB p fuel=(zeroStt,3):=if_pos hb11
         rw [e]
         exact ⟨⟨rfl,rfl⟩,⟨rfl,rfl⟩⟩))
end Go.Eng.Tryz
namespace Go.Eng.Tryz
open Go.RowKit Go.Eng
set_option maxHeartbeats 0
set_option maxRecDepth 20000
theorem QDI (b:Bud):Yo b=(bif bif bif bif bif decide (0≤b.steps) then decide (b.steps≤256) else false then decide (0≤b.fuel) else false then decide (b.fuel≤4096) else false then decide (0≤b.runs) else false then decide (b.runs≤65536) else false):=by
 unfold Yo
 cases decide (0≤b.steps)<;>cases decide (b.steps≤256)<;>cases decide (0≤b.fuel)<;>cases decide (b.fuel≤4096)<;>cases decide (0≤b.runs)<;>cases decide (b.runs≤65536)<;>rfl
def QMX:List (List Nat):=[[1],[2]]
theorem QFd (b:Bud):Ctr Go.Proofs.Tryz.prog tab 136 [77] [4] [b.v] [.bool (Yo b)]:=by
 have hcode:True→True:=id
 have hsl:True→True:=id
 refine Ctr.body ok Go.Proofs.Tryz.func136 rfl rfl 31 rfl [.tmp 2] rfl (by simp [QE]) ?_
 simp only [go_sem,Nat.reduceAdd]
 repeat' first
  | ((with_reducible refine Q2 fun R1 hR1=>?_);(simp only [go_sem,seval,-List.reduceReplicate]);(repeat' with_reducible refine And.intro ?_ ?_);all_goals first|(refine hR1 _ ?_;clear hR1 R1)|exact Xk)
  | ((with_reducible refine Q1 ?_);refine hR _ ?_;clear hR R;try simp only [go_sem,QMX,Nat.reduceBEq])
  | (with_reducible first|refine J1 ?_|refine J2 ?_|refine Q0 ?_|refine Qz ?_)
  | ((with_reducible refine rg QMX fun R hR=>?_);simp only [go_sem,QC])
  | ((with_reducible first|refine ZH ?_|refine ZG ?_)
     simp only [go_sem,QJ,QK,QG,seval]
     refine ⟨rfl,?_⟩
     rw [QDI])
def QQO:List (List Nat):=[[1,3,5],[1,5,9],[6],[5,11],[6],[14],[6],[6]]
theorem zY (p:Prg) (n:Int) (b:Bud) (hp:p.Fit):Ctr Go.Proofs.Tryz.prog tab 92 [26,3,77] [3] [p.v,.int n,b.v] [.int (ZF p n b)]:=by
 have hpp:=hp
 have hcode:=p.code_len hp
 have hsl:=p.sels_len hp
 refine Ctr.body ok Go.Proofs.Tryz.func92 rfl rfl 15 rfl [.tmp 6] rfl (by simp [QE]) ?_
 simp only [go_sem,Nat.reduceAdd]
 repeat' first
  | ((with_reducible refine Q2 fun R1 hR1=>?_);(simp only [go_sem,seval,-List.reduceReplicate]);(repeat' with_reducible refine And.intro ?_ ?_);all_goals first|(refine hR1 _ ?_;clear hR1 R1)|((first|refine cq (cc (YK p hpp) (by first|rfl|(simp [go_sem,Zg,List.take_of_length_le,List.length_map];done)|fail)) ?_|refine cq (cc (QFd b) (by first|rfl|(simp [go_sem,Zg,List.take_of_length_le,List.length_map];done)|fail)) ?_);all_goals ((try simp only [go_sem,seval,-List.reduceReplicate]);(repeat' with_reducible refine And.intro ?_ ?_);all_goals first|(refine hR1 _ ?_;clear hR1 R1)|exact Xk))|exact Xk)
  | ((with_reducible refine Q1 ?_);refine hR _ ?_;clear hR R;try simp only [go_sem,QQO,Nat.reduceBEq])
  | (with_reducible first|refine J1 ?_|refine J2 ?_|refine J3 ?_|refine Q0 ?_|refine Qz ?_)
  | ((with_reducible refine rg QQO fun R hR=>?_);simp only [go_sem,QC])
  | ((with_reducible refine QH 9 rfl (fun hb9=>?_) fun hb9=>?_);all_goals (try simp [-List.getD_eq_getElem?_getD] at hb9;try (exfalso;omega)))
  | ((with_reducible refine QH 11 rfl (fun hb11=>?_) fun hb11=>?_);all_goals (try simp [-List.getD_eq_getElem?_getD] at hb11;try (exfalso;omega)))
  | ((with_reducible refine QH 14 rfl (fun hb14=>?_) fun hb14=>?_);all_goals (try simp [-List.getD_eq_getElem?_getD] at hb14;try (exfalso;omega)))
  | ((with_reducible first|refine ZH ?_|refine ZG ?_)
     simp only [go_sem,QJ,QK,QG,seval]
     first
      | (have q:_=false:=hb9
         refine ⟨rfl,?_⟩
         rw [show ZF p n b=3 from if_pos hb9])
      | (have q:_=false:=hb14
         refine ⟨rfl,?_⟩
         rw [show ZF p n b=6 from (if_neg (by rw [hb9];simp)).trans ((if_neg (by omega)).trans (if_pos hb14))])
      | (have q:_=true:=hb14
         refine ⟨rfl,?_⟩
         rw [show ZF p n b=0 from (if_neg (by rw [hb9];simp)).trans ((if_neg (by omega)).trans (if_neg (by rw [hb14];simp)))])
      | (refine ⟨rfl,?_⟩
         rw [show ZF p n b=2 from (if_neg (by rw [hb9];simp)).trans (if_pos (by omega))]))
end Go.Eng.Tryz
