/- A part of the proof: walks through the program's functions, and what they compute. -/
import Derived.Test.YtmonhjagbhpbeaaGreatDoorPk6
import Derived.Test.YtmonhjagbhpbeaaGreatDoorPk35
set_option linter.unusedSimpArgs false
set_option linter.unusedVariables false
namespace Go.Eng.Tryz
open Go.RowKit Go.Eng
set_option maxHeartbeats 0
set_option maxRecDepth 20000
theorem QGo (p:Prg) (hp:p.Fit):Ctr Go.Proofs.Tryz.prog tab 41 [26] [3,93] [p.v] [.int (Z4 p),.agg [.int (Wc p).1,.int (Wc p).2]]:=by
 have hpf:=hp
 obtain ⟨hp1,hp2,hp3,hp4⟩:=hp
 refine Ctr.body ok Go.Proofs.Tryz.func41 rfl rfl 128 rfl [.tmp 2,.cell 3 93] rfl (by simp [QL]) ?_
 simp only [go_sem,Nat.reduceAdd]
 repeat' first
  | ((with_reducible refine SARA.told 11 2 ?_)
     rw [Xp (by omega)])
  | ((with_reducible refine SARA.told 19 2 ?_)
     rw [YK (by omega)])
  | ((with_reducible refine SARA.told 24 6 ?_)
     have e1:IntKind.i64.wrap (((p.funcs.getD i default).code.length:Int)-1)=(((p.funcs.getD i default).code.length-1:Nat):Int):=by rw [Zj (by unfold maxLen at hcl;omega) (by unfold maxLen at hcl;omega)];omega
     rw [e1])
  | ((with_reducible refine SARA.told 24 7 ?_)
     rw [YK (by omega)])
  | ((with_reducible refine SART.told 26 4 ?_)
     have e1:IntKind.i64.wrap (((p.funcs.getD i default).code.length:Int)-1)=((p.funcs.getD i default).code.length:Int)-1:=Zj (by unfold maxLen at hcl;omega) (by unfold maxLen at hcl;omega)
     rw [e1])
  | ((with_reducible first|refine Zx fun R1 hR1=>?_|refine vp fun R1 hR1=>?_|refine vo fun R1 hR1=>?_|refine vn fun R1 hR1=>?_);(simp only [go_sem,seval,-List.reduceReplicate,Yu,vq,z3,Yu,vq,z3]);(repeat' with_reducible refine And.intro ?_ ?_);all_goals first|(refine hR1 _ ?_;clear hR1 R1)|((first|refine cq (cc (QEO _ _ hfi)) ?_|refine cq (cc (QCp p _ hpf hfi)) ?_|refine cq (cc (QGR p _ _ hpf hfi)) ?_);all_goals ((try simp only [go_sem,seval,-List.reduceReplicate,Yu,vq,z3,Yu,vq,z3]);(repeat' with_reducible refine And.intro ?_ ?_);all_goals first|(refine hR1 _ ?_;clear hR1 R1)|omega|rfl|decide|assumption|(intro _;omega)|(simp;done)|(simp;omega)|(simp [QF,maxLen]<;>omega)))|omega|rfl|decide|assumption|(intro _;omega)|(simp;done)|(simp;omega)|(simp [QF,maxLen]<;>omega))
  | ((with_reducible first|refine vm ?_|refine Zw ?_);refine hR _ ?_;clear hR R;try simp only [go_sem,QGI,Nat.reduceBEq])
  | (with_reducible first|refine vk ?_ ?_|exact vj|refine vi ?_ ?_)
  | (with_reducible first|refine J1 ?_|refine J2 ?_|refine J3 ?_|refine J4 ?_|refine J5 ?_|refine J6 ?_|refine J7 ?_|refine J8 (by decide) ?_|refine J9 ?_|refine Uf ?_|refine ZL ?_|refine ZS ?_|refine Y3 ?_|refine V7 ?_)
  | ((with_reducible refine Qy 11 ?_)
     have hfi:=hp4 (p.funcs.getD i default) (Q8 _ (by omega))
     (with_reducible refine rg QGI fun R hR=>?_);simp only [go_sem,QC])
  | ((with_reducible refine Qy 17 ?_)
     have hcl:=hfi.1
     (with_reducible refine rg QGI fun R hR=>?_);simp only [go_sem,QC])
  | ((with_reducible refine Qy 24 ?_)
     obtain ⟨hl0,hl1,hl2,hl3⟩:=Xj hb71
     (with_reducible refine rg QGI fun R hR=>?_);simp only [go_sem,QC])
  | ((with_reducible refine Qy 26 ?_)
     refine V6 ok Qc (.take 0 (.take 1 (.take 2 (.take 3 (.take 4 (.take 5 (.take 6 (.br 7 .done .nil)))))))) [7] QGI (by kernel_rfl) (fun R hR=>?_);simp only [go_sem,QC])
  | ((with_reducible refine rg QGI fun R hR=>?_);simp only [go_sem,QC])
  | ((with_reducible refine QR 43 rfl (fun hb43=>?_) fun hb43=>?_);all_goals (try simp [-List.getD_eq_getElem?_getD] at hb43;try (exfalso;omega)))
  | ((with_reducible refine QR 49 rfl (fun hb49=>?_) fun hb49=>?_);all_goals (try simp [-List.getD_eq_getElem?_getD] at hb49;try (exfalso;omega)))
  | ((with_reducible refine QR 57 rfl (fun hb57=>?_) fun hb57=>?_);all_goals (try simp [-List.getD_eq_getElem?_getD] at hb57;try (exfalso;omega)))
  | ((with_reducible refine QR 64 rfl (fun hb64=>?_) fun hb64=>?_);all_goals (try simp [-List.getD_eq_getElem?_getD] at hb64;try (exfalso;omega)))
  | ((with_reducible refine QR 71 rfl (fun hb71=>?_) fun hb71=>?_);all_goals (try simp [-List.getD_eq_getElem?_getD] at hb71;try (exfalso;omega)))
  | ((with_reducible refine QR 78 rfl (fun hb78=>?_) fun hb78=>?_);all_goals (try simp [-List.getD_eq_getElem?_getD] at hb78;try (exfalso;omega)))
  | ((with_reducible refine QR 86 rfl (fun hb86=>?_) fun hb86=>?_);all_goals (try simp [-List.getD_eq_getElem?_getD] at hb86;try (exfalso;omega)))
  | ((with_reducible refine QR 95 rfl (fun hb95=>?_) fun hb95=>?_);all_goals (try simp [-List.getD_eq_getElem?_getD] at hb95;try (exfalso;omega)))
  | ((with_reducible refine QR 119 rfl (fun hb119=>?_) fun hb119=>?_);all_goals (try simp [-List.getD_eq_getElem?_getD] at hb119;try (exfalso;omega)))
  | ((with_reducible refine W1 ?_)
     refine Yx (ZZ (by first|rfl|(simp;done)|fail)) (Wo (fun n τ=>∃ (i:Nat),n=p.chans.length-i∧(i≤p.chans.length∧Yc p∧Zo p i=true)∧τ={ tm:=[(1,true,.ptr 0 [] 26),(3,true,.ptr 1 [] 93),(46,true,.fs 3 (p.chans.map V.int) false),(47,true,.int .i64 p.chans.length),(48,true,.int .i64 i)],ob:=[.var 26 (.data 26 p.v),.var 93 (.data 93 (.agg [.int 0,.int 0]))],out:=[],nt:=128 }) (p.chans.length) ⟨0,rfl,⟨by omega,by unfold Yc;omega,rfl⟩,rfl⟩ ?_)
     rintro n τ ⟨i,hn,⟨hi,hs,hc⟩,rfl⟩)
  | ((with_reducible refine W1 ?_)
     refine Yx (ZZ (by first|rfl|(simp;done)|fail)) (Wo (fun n τ=>∃ (i:Nat),n=p.funcs.length-i∧(i≤p.funcs.length∧Yc p∧Zo p p.chans.length=true∧Z0 p i=0)∧τ={ tm:=[(1,true,.ptr 0 [] 26),(3,true,.ptr 1 [] 93),(61,true,.fs 108 (p.funcs.map Fnc.v) false),(62,true,.int .i64 p.funcs.length),(63,true,.int .i64 i)],ob:=[.var 26 (.data 26 p.v),.var 93 (.data 93 (.agg [.int 0,.int 0]))],out:=[],nt:=128 }) (p.funcs.length) ⟨0,rfl,⟨by omega,hs,(show i=p.chans.length by omega)▸hc,rfl⟩,rfl⟩ ?_)
     rintro n τ ⟨i,hn,⟨hi,hs,hc,hz⟩,rfl⟩)
  | ((with_reducible refine W1 ?_)
     refine Yx (ZZ (by first|rfl|(simp;done)|fail)) (Wo (fun n τ=>∃ (j:Nat),n=(p.funcs.getD i default).code.length-j∧(j≤(p.funcs.getD i default).code.length∧Yi p (p.funcs.getD i default) j=0)∧τ={ tm:=[(1,true,.ptr 0 [] 26),(3,true,.ptr 1 [] 93),(6,true,.int .i64 i),(7,true,.ptr 2 [] 108),(61,true,.fs 108 (p.funcs.map Fnc.v) false),(62,true,.int .i64 p.funcs.length),(63,true,.int .i64 i),(83,true,.fs 104 ((p.funcs.getD i default).code.map Instr.v) false),(84,true,.int .i64 (p.funcs.getD i default).code.length),(85,true,.int .i64 j)],ob:=[.var 26 (.data 26 p.v),.var 93 (.data 93 (.agg [.int 0,.int 0])),.var 108 (.data 108 (p.funcs.getD i default).v)],out:=[],nt:=128 }) ((p.funcs.getD i default).code.length) ⟨0,rfl,⟨by omega,rfl⟩,rfl⟩ ?_)
     rintro n τ ⟨j,hn,⟨hj,hk⟩,rfl⟩)
  | ((with_reducible refine zF ?_)
     first
      | (have hlt:i<p.chans.length:=by omega
         refine WE (p.chans.length-(i+1)) _ (by omega) (ZZ (by simp only [QN hlt hp2])) ⟨i+1,rfl,⟨hlt,hs,?_⟩,rfl⟩
         unfold Zo at hc ⊢
         rw [yf _ _ hlt,hc]
         simp only [Bool.true_and,Bool.and_eq_true,decide_eq_true_eq]
         exact hb57)
      | (have hlt:i<p.funcs.length:=by omega
         refine WE (p.funcs.length-(i+1)) _ (by omega) ((Vk 2 rfl).trans (ZZ (by simp only [QN hlt hp3,List.take_succ_cons,List.take_zero]))) ⟨i+1,rfl,⟨hlt,hs,hc,?_⟩,rfl⟩
         have hjc:j=(p.funcs.getD i default).code.length:=by omega
         subst hjc
         rw [WY,if_neg (fun q=>q hz),VL]
         unfold Yg
         rw [if_neg (by rw [hb71];simp),if_neg (fun q=>q hb78),if_neg (fun q=>q hk)]
         exact if_pos (QAp hl1 hb119))
      | (have hlt:j<(p.funcs.getD i default).code.length:=by omega
         refine WE ((p.funcs.getD i default).code.length-(j+1)) _ (by omega) ((Vk 3 rfl).trans (ZZ (by simp only [QN hlt hcl,List.take_succ_cons,List.take_zero]))) ⟨j+1,rfl,⟨hlt,?_⟩,rfl⟩
         rw [yX p _ hlt,if_neg (fun q=>q hk)]
         exact hb95))
  | ((with_reducible first|refine YQ ?_|refine Zv ?_)
     simp only [go_sem,QS,QW,QM,seval]
     first
      | (obtain ⟨e1,e2⟩:=vG hs hc (by omega) hz hb71 hb78 ((show j=(p.funcs.getD i default).code.length by omega)▸hk) (QDE hl1 hb119)
         exact ⟨⟨rfl,congrArg (fun e=>some (V.int e)) e1.symm⟩,⟨rfl,by rw [e2]⟩⟩)
      | (obtain ⟨e1,e2⟩:=vH hs hc (by omega) hz hb71 hb78 (by omega) hk hb95
         exact ⟨⟨rfl,congrArg (fun e=>some (V.int e)) e1.symm⟩,⟨rfl,by rw [e2]⟩⟩)
      | (obtain ⟨e1,e2⟩:=vF hs hc (by omega) hz hb71 hb78
         exact ⟨⟨rfl,congrArg (fun e=>some (V.int e)) e1.symm⟩,⟨rfl,by rw [e2]⟩⟩)
      | (obtain ⟨e1,e2⟩:=ya hs hc (by omega) hz hb71
         exact ⟨⟨rfl,congrArg (fun e=>some (V.int e)) e1.symm⟩,⟨rfl,by rw [e2]⟩⟩)
      | (obtain ⟨e1,e2⟩:=QDc hs hc ((show i=p.funcs.length by omega)▸hz)
         exact ⟨⟨rfl,congrArg (fun e=>some (V.int e)) e1.symm⟩,⟨rfl,by rw [e2]⟩⟩)
      | (obtain ⟨e1,e2⟩:=vI hs (QBB (i:=i) (by omega) hb57)
         exact ⟨⟨rfl,congrArg (fun e=>some (V.int e)) e1.symm⟩,⟨rfl,by rw [e2]⟩⟩)
      | (obtain ⟨e1,e2⟩:=xZ (p:=p) (by omega)
         exact ⟨⟨rfl,congrArg (fun e=>some (V.int e)) e1.symm⟩,⟨rfl,by rw [e2]⟩⟩))
def QPt:List (List Nat):=[[1],[3],[2]]
theorem qW (p:Prg) (hp:p.Fit):Ctr Go.Proofs.Tryz.prog tab 13 [26] [4] [p.v] [.bool (QT p)]:=by
 refine Ctr.body ok Go.Proofs.Tryz.func13 rfl rfl 12 rfl [.tmp 2] rfl (by simp [QL]) ?_
 simp only [go_sem,Nat.reduceAdd]
 repeat' first
  | ((with_reducible refine Zx fun R1 hR1=>?_);(simp only [go_sem,seval,-List.reduceReplicate,Yu,vq,z3,Yu,vq,z3]);(repeat' with_reducible refine And.intro ?_ ?_);all_goals first|(refine hR1 _ ?_;clear hR1 R1)|((first|refine ce (cf (QGo p hp) ?_));all_goals ((try simp only [go_sem,seval,-List.reduceReplicate,Yu,vq,z3,Yu,vq,z3]);(repeat' with_reducible refine And.intro ?_ ?_);all_goals first|(refine hR1 _ ?_;clear hR1 R1)|omega|rfl|decide|assumption|(intro _;omega)|(simp;done)|(simp;omega)|(simp [QF,maxLen]<;>omega)))|omega|rfl|decide|assumption|(intro _;omega)|(simp;done)|(simp;omega)|(simp [QF,maxLen]<;>omega))
  | ((with_reducible refine Zw ?_);refine hR _ ?_;clear hR R;try simp only [go_sem,QPt,Nat.reduceBEq])
  | (with_reducible first|refine J1 ?_|refine J2 ?_|refine ZL ?_|refine ZS ?_)
  | ((with_reducible refine rg QPt fun R hR=>?_);simp only [go_sem,QC])
  | ((with_reducible first|refine YQ ?_|refine Zv ?_)
     simp only [go_sem,QS,QW,QM,seval]
     exact ⟨rfl,rfl⟩)
end Go.Eng.Tryz
namespace Go.Eng.Tryz
open Go.RowKit Go.Eng
set_option maxHeartbeats 0
set_option maxRecDepth 20000
theorem QCJ (b:Bud):Z5 b=(bif bif bif bif bif decide (0≤b.steps) then decide (b.steps≤256) else false then decide (0≤b.fuel) else false then decide (b.fuel≤4096) else false then decide (0≤b.runs) else false then decide (b.runs≤65536) else false):=by
 unfold Z5
 cases decide (0≤b.steps)<;>cases decide (b.steps≤256)<;>cases decide (0≤b.fuel)<;>cases decide (b.fuel≤4096)<;>cases decide (0≤b.runs)<;>cases decide (b.runs≤65536)<;>rfl
def QPs:List (List Nat):=[[1],[2]]
theorem UZ (b:Bud):Ctr Go.Proofs.Tryz.prog tab 14 [28] [4] [b.v] [.bool (Z5 b)]:=by
 have hcode:True→True:=id
 have hsl:True→True:=id
 refine Ctr.body ok Go.Proofs.Tryz.func14 rfl rfl 31 rfl [.tmp 2] rfl (by simp [QL]) ?_
 simp only [go_sem,Nat.reduceAdd]
 repeat' first
  | ((with_reducible refine Zx fun R1 hR1=>?_);(simp only [go_sem,seval,-List.reduceReplicate]);(repeat' with_reducible refine And.intro ?_ ?_);all_goals first|(refine hR1 _ ?_;clear hR1 R1)|omega|rfl|decide|assumption|(intro _;omega)|(simp;done)|(simp [-List.getD_eq_getElem?_getD];omega)|exact hcode _|(intro _;exact hcode _)|exact hsl _|(intro _;exact hsl _)|(simp [-List.getD_eq_getElem?_getD,QF,maxLen,YN,Q0,Qz,Qw,Qx];omega)|(simp [-List.getD_eq_getElem?_getD,QF,maxLen,YN,Q0,Qz,Qw,Qx];done))
  | ((with_reducible refine Zw ?_);refine hR _ ?_;clear hR R;try simp only [go_sem,QPs,Nat.reduceBEq])
  | (with_reducible first|refine J1 ?_|refine J2 ?_|refine ZL ?_|refine ZS ?_)
  | ((with_reducible refine rg QPs fun R hR=>?_);simp only [go_sem,QC])
  | ((with_reducible first|refine YQ ?_|refine Zv ?_)
     simp only [go_sem,QS,QW,QM,seval]
     refine ⟨rfl,?_⟩
     rw [QCJ])
end Go.Eng.Tryz
