/- A part of the proof: walks through the program's functions, and what they compute. -/
import Derived.Test.YtedceinkpkoncaaGreatDoorPk21
import Derived.Test.YtedceinkpkoncaaGreatDoorPk27
set_option linter.unusedSimpArgs false
set_option linter.unusedVariables false
namespace Go.Eng.Tryz
open Go.RowKit Go.Eng
set_option maxHeartbeats 0
set_option maxRecDepth 20000
def QOL:List (List Nat):=[[2,3],[2,3,5],[2,3,5,6],[2,3,5,6,12],[2,3,5,6],[2,3,5,6,7],[2,3,5,6,7,8],[2,3,5,6,7,8,22],[2,3,5,6,7,8],[2,3,5,6,7,8],[4]]
theorem Xf (p:Prg) (s:Stt) (hp:p.Fit) (hr:QP p=true) (hw:Wf p s):Ctr Go.Proofs.Tryz.prog tab 42 [26,37] [64] [p.v,s.v] [.list ((ready p s).map Pck.v)]:=by
 have hpp:=hp
 have hok:=Prg.ok hr
 have hs:=hw.shape
 have hcnt:=hw.count
 have hcode:=p.code_len hp
 have hsl:=p.sels_len hp
 obtain ⟨hp1,hp2,hp3,hp4⟩:=hp
 have hs1:=hs.vars
 have hs2:=hs.owner
 have hs3:=hs.chans
 have hs5:=hs.gos
 have hsz:=hok.sizes
 unfold Ze at hsz
 have hmx:256≤maxLen:=by decide
 refine Ctr.body ok Go.Proofs.Tryz.func42 rfl rfl 35 rfl [.tmp 4] rfl (by simp [QE]) ?_
 simp only [go_sem,Nat.reduceAdd]
 repeat' first
  | ((with_reducible refine Q2 fun R1 hR1=>?_);(simp only [go_sem,seval,-List.reduceReplicate,QCF,z39,z3]);(repeat' with_reducible refine And.intro ?_ ?_);all_goals first|(refine hR1 _ ?_;clear hR1 R1)|((first|refine ce (cf (Vu p s _ hpp hr hw) ?_));all_goals ((try simp only [go_sem,seval,-List.reduceReplicate,QCF,z39,z3]);(repeat' with_reducible refine And.intro ?_ ?_);all_goals first|(refine hR1 _ ?_;clear hR1 R1)|exact Xk))|exact Xk)
  | ((with_reducible refine Q1 ?_);refine hR _ ?_;clear hR R;try simp only [go_sem,QOL,Nat.reduceBEq])
  | (with_reducible first|refine J1 ?_|refine J2 ?_|refine J3 ?_|refine J4 ?_|refine J5 ?_|refine J6 ?_|refine J7 ?_|refine J8 (by decide) ?_|refine J9 ?_|refine WL ?_|refine Q0 ?_|refine Qz ?_|refine YZ ?_|refine WK ?_)
  | ((with_reducible refine QZ 7 ?_)
     have hal:=Vs hok hw (i:Int)
     have hrl:=Zu hok hw i
     (with_reducible refine rg QOL fun R hR=>?_);simp only [go_sem,QC])
  | ((with_reducible refine rg QOL fun R hR=>?_);simp only [go_sem,QC])
  | ((with_reducible refine QH 12 rfl (fun hb12=>?_) fun hb12=>?_);all_goals (try simp [-List.getD_eq_getElem?_getD] at hb12;try (exfalso;omega)))
  | ((with_reducible refine QH 22 rfl (fun hb22=>?_) fun hb22=>?_);all_goals (try simp [-List.getD_eq_getElem?_getD] at hb22;try (exfalso;omega)))
  | ((with_reducible refine YQ ?_)
     refine Zo ((St.le.own (t:=5) 39 rfl).trans ((St.le.keep [2,3,5,6]).trans (Qq (by first|rfl|(simp;done)|fail)))) (YR (fun n τ=>∃ (i:Nat),n=s.count.toNat-i∧(i≤s.count.toNat)∧τ={ tm:=[(2,true,.ptr 0 [] 26),(3,true,.ptr 1 [] 37),(5,true,.sl 2 39 0 (XG p s i).length false),(6,true,.int .i64 i)],ob:=[.var 26 (.data 26 p.v),.var 37 (.data 37 s.v),.row 39 ((XG p s i).map Pck.v)],out:=[],nt:=35 }) (s.count.toNat) ⟨0,rfl,by omega,rfl⟩ ?_)
     rintro n τ ⟨i,hn,hi,rfl⟩)
  | ((with_reducible refine YQ ?_)
     refine Zo (Qq (by first|(simp;done)|fail)) (YR (fun n τ=>∃ (j:Nat),n=(Qj p s (i:Int)).length-j∧(j≤(Qj p s (i:Int)).length)∧τ={ tm:=[(2,true,.ptr 0 [] 26),(3,true,.ptr 1 [] 37),(5,true,.sl 2 39 0 (XG p s i++((Qj p s (i:Int)).take j).map fun a=>(⟨(i:Int),a⟩:Pck)).length false),(6,true,.int .i64 i),(7,true,.sl 3 3 0 (Qj p s (i:Int)).length false),(8,true,.int .i64 j)],ob:=[.var 26 (.data 26 p.v),.var 37 (.data 37 s.v),.row 39 ((XG p s i++((Qj p s (i:Int)).take j).map fun a=>(⟨(i:Int),a⟩:Pck)).map Pck.v),.row 3 ((Qj p s (i:Int)).map V.int)],out:=[],nt:=35 }) ((Qj p s (i:Int)).length) ⟨0,rfl,by omega,rfl⟩ ?_)
     rintro n τ ⟨j,hn,hj,rfl⟩)
  | ((with_reducible refine WM ?_)
     first
      | (have hlt:i<s.count.toNat:=by omega
         have hw:=QD (n:=i) (m:=256) (by omega) (by decide)
         have hj':j=(Qj p s (i:Int)).length:=by omega
         subst hj'
         refine Zt (s.count.toNat-(i+1)) _ (by omega) ((WN 3 rfl).trans (Qq (by simp [hw,Uw]))) ⟨i+1,rfl,hlt,rfl⟩)
      | (have hlt:j<(Qj p s (i:Int)).length:=by omega
         have hw:=QD (n:=j) (m:=256) (by omega) (by decide)
         have e:(Qj p s (i:Int)).take (j+1)=(Qj p s (i:Int)).take j++[(Qj p s (i:Int)).getD j 0]:=by rw [List.take_succ_eq_append_getElem hlt];simp [List.getD_eq_getElem?_getD,hlt]
         refine Zt ((Qj p s (i:Int)).length-(j+1)) _ (by omega) ((WN 4 rfl).trans (Qq (by simp [-List.getD_eq_getElem?_getD,hw,e,Pck.v,List.take_of_length_le,Nat.add_assoc]))) ⟨j+1,rfl,hlt,rfl⟩))
  | ((with_reducible first|refine ZH ?_|refine ZG ?_)
     simp only [go_sem,QJ,QK,QG,seval]
     have hi':i=s.count.toNat:=by omega
     subst hi'
     refine ⟨rfl,?_⟩
     simp [ready,List.take_of_length_le])
end Go.Eng.Tryz
