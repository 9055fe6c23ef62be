/- A part of the proof: walks through the program's functions, and what they compute. -/
import Derived.Test.YtedceinkpkoncaaGreatDoorPk21
import Derived.Test.YtedceinkpkoncaaGreatDoorPk28
import Derived.Test.YtedceinkpkoncaaGreatDoorPk54
import Derived.Deep.QuietTactic
set_option linter.unusedSimpArgs false
set_option linter.unusedVariables false
namespace Go.Eng.Tryz
open Go.RowKit Go.Eng
set_option maxHeartbeats 0
set_option maxRecDepth 20000
theorem x7 (p:Prg) (s:Stt) (n:Nat):(YM p s n).length≤n:=by
 unfold YM
 rw [List.length_map]
 exact Nat.le_trans (List.length_filter_le _ _) (by simp)
def QKz:List (List Nat):=[[0,1],[0,1,10],[4],[0,1,12,13],[0,1,12,13,14],[0,1,5,12,13],[0,1,12,13,24],[4],[0,1,12,13],[4]]
theorem Xb (a b:List Int) (ha:a.length≤maxLen) (hb:b.length≤maxLen):Ctr Go.Proofs.Tryz.prog tab 30 [23,23] [4] [.list (a.map V.int),.list (b.map V.int)] [.bool (decide (a=b))]:=by
 have hcode:True→True:=id
 have hsl:True→True:=id
 refine Ctr.body ok Go.Proofs.Tryz.func30 rfl rfl 26 rfl [.tmp 4] rfl (by simp [QE]) ?_
 simp only [go_sem,Nat.reduceAdd]
 repeat' first
  | ((with_reducible refine SARQ.told 6 _ ?_);try simp only [Qr V.int a hlt,Qr V.int b hlt'])
  | ((with_reducible first|refine Q2 fun R1 hR1=>?_|refine xP fun R1 hR1=>?_);(simp only [go_sem,seval,-List.reduceReplicate,Pck.beq,Access.beq]);(repeat' with_reducible refine And.intro ?_ ?_);all_goals first|(refine hR1 _ ?_;clear hR1 R1)|exact Xk)
  | ((with_reducible first|refine Q1 ?_|refine xO ?_);refine hR _ ?_;clear hR R;try simp only [go_sem,QKz,Nat.reduceBEq])
  | (with_reducible first|refine J1 ?_|refine J2 ?_|refine J3 ?_|refine J4 ?_|refine J5 ?_|refine J6 ?_|refine J7 ?_|refine J8 (by decide) ?_|refine J9 ?_|refine WL ?_|refine Q0 ?_|refine Qz ?_|refine YZ ?_|refine WK ?_)
  | ((with_reducible refine QZ 6 ?_)
     have hlt:i<a.length:=by omega
     have hlt':i<b.length:=by omega
     (with_reducible refine Vv ok QN (by kernel_rfl) (by kernel_rfl) QKz ?_);intro R hR;simp only [go_sem,QC])
  | ((with_reducible refine rg QKz fun R hR=>?_);simp only [go_sem,QC])
  | ((with_reducible refine Vv ok QN (by kernel_rfl) (by kernel_rfl) QKz ?_);intro R hR;simp only [go_sem,QC])
  | ((with_reducible refine QH 10 rfl (fun hb10=>?_) fun hb10=>?_);all_goals (try simp [-List.getD_eq_getElem?_getD] at hb10))
  | ((with_reducible refine QH 24 rfl (fun hb24=>?_) fun hb24=>?_);all_goals (try simp [-List.getD_eq_getElem?_getD] at hb24))
  | ((with_reducible refine SA.cond rfl ?_ ?_)
     all_goals
      intro hb
      try simp [-List.getD_eq_getElem?_getD] at hb)
  | ((with_reducible refine YQ ?_)
     refine Zo (Qq (by first|rfl|(simp;done)|fail)) (YR (fun n τ=>∃ (i:Nat),n=a.length-i∧(i≤a.length∧a.length=b.length∧a.take i=b.take i)∧τ={ tm:=[(0,true,.fs 3 (a.map V.int) false),(1,true,.fs 3 (b.map V.int) false),(12,true,.int .i64 a.length),(13,true,.int .i64 i)],ob:=[],out:=[],nt:=26 }) (a.length) ⟨0,rfl,⟨Nat.zero_le _,by omega,rfl⟩,rfl⟩ ?_)
     rintro n τ ⟨i,hn,⟨hi,hl,hc⟩,rfl⟩)
  | ((with_reducible refine WM ?_)
     first
      | (have hlt:i<a.length:=by omega
         refine Zt (a.length-(i+1)) _ (by omega) (Qq (by simp only [QD hlt ha])) ⟨i+1,rfl,⟨hlt,hl,?_⟩,rfl⟩
         have hlt':i<b.length:=by omega
         rw [List.take_succ_eq_append_getElem hlt,List.take_succ_eq_append_getElem hlt',hc]
         have:a[i]=b[i]:=by simpa [hlt,hlt'] using hb24
         rw [this]))
  | ((with_reducible first|refine ZH ?_|refine ZG ?_)
     simp only [go_sem,QJ,QK,QG,seval]
     first
      | (have q:¬(_=_):=hb10
         refine ⟨rfl,?_⟩
         rw [decide_eq_false (fun h:a=b=>hb10 (by rw [h]))])
      | (have q:¬(_=_):=hb24
         refine ⟨rfl,?_⟩
         rw [decide_eq_false (fun h:a=b=>hb24 (by rw [h]))])
      | (refine ⟨rfl,?_⟩
         have:i=a.length:=by omega
         subst this
         rw [List.take_length,hl,List.take_length] at hc
         simp [hc]))
def QKx:List (List Nat):=[[0,1],[0,1,10],[4],[0,1,12,13],[0,1,12,13,14],[0,1,5,12,13],[0,1,12,13,24],[4],[0,1,12,13],[4]]
theorem US (a b:List Access) (ha:a.length≤maxLen) (hb:b.length≤maxLen):Ctr Go.Proofs.Tryz.prog tab 47 [60,60] [4] [.list (a.map Access.v),.list (b.map Access.v)] [.bool (decide (a=b))]:=by
 have hcode:True→True:=id
 have hsl:True→True:=id
 refine Ctr.body ok Go.Proofs.Tryz.func47 rfl rfl 26 rfl [.tmp 4] rfl (by simp [QE]) ?_
 simp only [go_sem,Nat.reduceAdd]
 repeat' first
  | ((with_reducible refine SARQ.told 6 _ ?_);try simp only [Qr Access.v a hlt,Qr Access.v b hlt'])
  | ((with_reducible first|refine Q2 fun R1 hR1=>?_|refine xP fun R1 hR1=>?_);(simp only [go_sem,seval,-List.reduceReplicate,Pck.beq,Access.beq]);(repeat' with_reducible refine And.intro ?_ ?_);all_goals first|(refine hR1 _ ?_;clear hR1 R1)|exact Xk)
  | ((with_reducible first|refine Q1 ?_|refine xO ?_);refine hR _ ?_;clear hR R;try simp only [go_sem,QKx,Nat.reduceBEq])
  | (with_reducible first|refine J1 ?_|refine J2 ?_|refine J3 ?_|refine J4 ?_|refine J5 ?_|refine J6 ?_|refine J7 ?_|refine J8 (by decide) ?_|refine J9 ?_|refine WL ?_|refine Q0 ?_|refine Qz ?_|refine YZ ?_|refine WK ?_)
  | ((with_reducible refine QZ 6 ?_)
     have hlt:i<a.length:=by omega
     have hlt':i<b.length:=by omega
     (with_reducible refine Vv ok QN (by kernel_rfl) (by kernel_rfl) QKx ?_);intro R hR;simp only [go_sem,QC])
  | ((with_reducible refine rg QKx fun R hR=>?_);simp only [go_sem,QC])
  | ((with_reducible refine Vv ok QN (by kernel_rfl) (by kernel_rfl) QKx ?_);intro R hR;simp only [go_sem,QC])
  | ((with_reducible refine QH 10 rfl (fun hb10=>?_) fun hb10=>?_);all_goals (try simp [-List.getD_eq_getElem?_getD] at hb10))
  | ((with_reducible refine QH 24 rfl (fun hb24=>?_) fun hb24=>?_);all_goals (try simp [-List.getD_eq_getElem?_getD] at hb24))
  | ((with_reducible refine SA.cond rfl ?_ ?_)
     all_goals
      intro hb
      try simp [-List.getD_eq_getElem?_getD] at hb)
  | ((with_reducible refine YQ ?_)
     refine Zo (Qq (by first|rfl|(simp;done)|fail)) (YR (fun n τ=>∃ (i:Nat),n=a.length-i∧(i≤a.length∧a.length=b.length∧a.take i=b.take i)∧τ={ tm:=[(0,true,.fs 45 (a.map Access.v) false),(1,true,.fs 45 (b.map Access.v) false),(12,true,.int .i64 a.length),(13,true,.int .i64 i)],ob:=[],out:=[],nt:=26 }) (a.length) ⟨0,rfl,⟨Nat.zero_le _,by omega,rfl⟩,rfl⟩ ?_)
     rintro n τ ⟨i,hn,⟨hi,hl,hc⟩,rfl⟩)
  | ((with_reducible refine WM ?_)
     first
      | (have hlt:i<a.length:=by omega
         refine Zt (a.length-(i+1)) _ (by omega) (Qq (by simp only [QD hlt ha])) ⟨i+1,rfl,⟨hlt,hl,?_⟩,rfl⟩
         have hlt':i<b.length:=by omega
         rw [List.take_succ_eq_append_getElem hlt,List.take_succ_eq_append_getElem hlt',hc]
         have:a[i]=b[i]:=by simpa [hlt,hlt'] using hb24
         rw [this]))
  | ((with_reducible first|refine ZH ?_|refine ZG ?_)
     simp only [go_sem,QJ,QK,QG,seval]
     first
      | (have q:¬(_=_):=hb10
         refine ⟨rfl,?_⟩
         rw [decide_eq_false (fun h:a=b=>hb10 (by rw [h]))])
      | (have q:¬(_=_):=hb24
         refine ⟨rfl,?_⟩
         rw [decide_eq_false (fun h:a=b=>hb24 (by rw [h]))])
      | (refine ⟨rfl,?_⟩
         have:i=a.length:=by omega
         subst this
         rw [List.take_length,hl,List.take_length] at hc
         simp [hc]))
def QOK:List (List Nat):=[[2,3],[2,3,5],[2,3,5,6],[2,3,5,6,10],[2,3,5,6],[2,3,5,6,23],[2,3,5,6],[4]]
theorem x8 (p:Prg) (s:Stt) (hp:p.Fit) (hr:QP p=true) (hw:Wf p s):Ctr Go.Proofs.Tryz.prog tab 43 [26,37] [23] [p.v,s.v] [.list ((YM p s s.count.toNat).map V.int)]:=by
 have hpp:=hp
 have hok:=Prg.ok hr
 have hs:=hw.shape
 have hcnt:=hw.count
 have hcode:=p.code_len hp
 have hsl:=p.sels_len hp
 obtain ⟨hp1,hp2,hp3,hp4⟩:=hp
 have hs1:=hs.vars
 have hs2:=hs.owner
 have hs3:=hs.chans
 have hs5:=hs.gos
 have hsz:=hok.sizes
 unfold Ze at hsz
 have hmx:256≤maxLen:=by decide
 refine Ctr.body ok Go.Proofs.Tryz.func43 rfl rfl 29 rfl [.tmp 4] rfl (by simp [QE]) ?_
 simp only [go_sem,Nat.reduceAdd]
 repeat' first
  | ((with_reducible refine SARA.told 5 4 ?_)
     rcases Bool.eq_false_or_eq_true (ZE s (i:Int)) with hgt|hgt<;>simp only [hgt])
  | ((with_reducible refine Q2 fun R1 hR1=>?_);(simp only [go_sem,seval,-List.reduceReplicate,QFl,z3,Bool.cond_false_right,Bool.cond_true_left]);(repeat' with_reducible refine And.intro ?_ ?_);all_goals first|(refine hR1 _ ?_;clear hR1 R1)|(intro hgf;simp only [hgf];refine hR1 _ ?_;clear hR1 R1)|((first|refine cq (cc (WV s (i:Int) hs (by omega))) ?_|refine ⟨_,_,rfl,.inl ⟨_,fun hg=>CallQ.ctr ok (WV s (i:Int) hs (by omega)) (by first|rfl|(simp [go_sem];done)|fail) rfl,?_⟩⟩|refine ce (cf (Vu p s (i:Int) hpp hr hw) ?_)|refine ⟨_,_,rfl,.inr ⟨fun _=>CallE.ctr ok (Vu p s (i:Int) hpp hr hw) (by first|rfl|(simp [go_sem];done)|fail) ?_,?_⟩⟩|refine ⟨_,_,rfl,.inl ⟨.nilsl,?_⟩⟩);all_goals ((try simp only [go_sem,seval,-List.reduceReplicate,QFl,z3,Bool.cond_false_right,Bool.cond_true_left]);(repeat' with_reducible refine And.intro ?_ ?_);all_goals first|(refine hR1 _ ?_;clear hR1 R1)|(intro hgf;simp only [hgf];refine hR1 _ ?_;clear hR1 R1)|exact Xk))|exact Xk)
  | ((with_reducible refine Q1 ?_);refine hR _ ?_;clear hR R;try simp only [go_sem,QOK,Nat.reduceBEq])
  | (with_reducible first|refine J1 ?_|refine J2 ?_|refine J3 ?_|refine J4 ?_|refine J5 ?_|refine J6 ?_|refine J7 ?_|refine J8 (by decide) ?_|refine J9 ?_|refine WL ?_|refine Q0 ?_|refine Qz ?_|refine YZ ?_|refine WK ?_)
  | ((with_reducible refine QZ 5 ?_)
     have hal:=Vs hok hw (i:Int)
     have hrl:=x7 p s i
     (with_reducible refine rg QOK fun R hR=>?_);simp only [go_sem,QC])
  | ((with_reducible refine rg QOK fun R hR=>?_);simp only [go_sem,QC])
  | ((with_reducible refine QH 10 rfl (fun hb10=>?_) fun hb10=>?_);all_goals (try simp [-List.getD_eq_getElem?_getD] at hb10;try (exfalso;omega)))
  | ((with_reducible refine QH 23 rfl (fun hb23=>?_) fun hb23=>?_);all_goals (try simp [-List.getD_eq_getElem?_getD] at hb23;try (exfalso;omega)))
  | ((with_reducible refine YQ ?_)
     refine Zo ((St.le.own (t:=5) 3 rfl).trans ((St.le.keep [2,3,5,6]).trans (Qq (by first|rfl|(simp;done)|fail)))) (YR (fun n τ=>∃ (i:Nat),n=s.count.toNat-i∧(i≤s.count.toNat)∧τ={ tm:=[(2,true,.ptr 0 [] 26),(3,true,.ptr 1 [] 37),(5,true,.sl 2 3 0 (YM p s i).length false),(6,true,.int .i64 i)],ob:=[.var 26 (.data 26 p.v),.var 37 (.data 37 s.v),.row 3 ((YM p s i).map V.int)],out:=[],nt:=29 }) (s.count.toNat) ⟨0,rfl,by omega,rfl⟩ ?_)
     rintro n τ ⟨i,hn,hi,rfl⟩)
  | ((with_reducible refine WM ?_)
     first
      | (have hlt:i<s.count.toNat:=by omega
         have hw1:=QD (n:=i) (m:=256) (by omega) (by decide)
         have e:=Ul p s i
         have q:_=[]:=hb23
         rw [if_pos ⟨hgt,by rw [hb23];rfl⟩] at e
         refine Zt (s.count.toNat-(i+1)) _ (by omega) ((WN 3 rfl).trans (Qq (by simp [hw1,e,List.take_of_length_le]))) ⟨i+1,rfl,hlt,rfl⟩)
      | (have hlt:i<s.count.toNat:=by omega
         have hw1:=QD (n:=i) (m:=256) (by omega) (by decide)
         have e:=Ul p s i
         have q:¬(_=[]):=hb23
         rw [if_neg (show ¬(ZE s (i:Int)=true∧(Qj p s (i:Int)).length=0) from fun h=>hb23 (List.eq_nil_of_length_eq_zero h.2))] at e
         refine Zt (s.count.toNat-(i+1)) _ (by omega) ((WN 3 rfl).trans (Qq (by simp [hw1,e,List.take_of_length_le]))) ⟨i+1,rfl,hlt,rfl⟩)
      | (have hlt:i<s.count.toNat:=by omega
         have hw1:=QD (n:=i) (m:=256) (by omega) (by decide)
         have e:=Ul p s i
         have q:_=false:=hgt
         rw [if_neg (show ¬(ZE s (i:Int)=true∧(Qj p s (i:Int)).length=0) from fun h=>by rw [hgt] at h;exact absurd h.1 (by decide))] at e
         refine Zt (s.count.toNat-(i+1)) _ (by omega) (Qq (by simp [hw1,e,List.take_of_length_le])) ⟨i+1,rfl,hlt,rfl⟩))
  | ((with_reducible first|refine ZH ?_|refine ZG ?_)
     simp only [go_sem,QJ,QK,QG,seval]
     have hi':i=s.count.toNat:=by omega
     subst hi'
     refine ⟨rfl,?_⟩
     simp [List.take_of_length_le])
def QOJ:List (List Nat):=[[2,3,4],[2,3,4,9],[6],[2,4,13],[6],[2,4,19],[6],[23],[6],[6]]
theorem QGK (p:Prg) (s:Stt) (g:Int) (hp:p.Fit) (hs:s.Shape):Ctr Go.Proofs.Tryz.prog tab 44 [26,37,3] [3] [p.v,s.v,.int g] [.int (Z7 p s g)]:=by
 have hpp:=hp
 have hfit:=hp
 have hcode:=p.code_len hp
 have hsl:=p.sels_len hp
 obtain ⟨hp1,hp2,hp3,hp4⟩:=hp
 refine Ctr.body ok Go.Proofs.Tryz.func44 rfl rfl 24 rfl [.tmp 6] rfl (by simp [QE]) ?_
 simp only [go_sem,Nat.reduceAdd]
 repeat' first
  | ((with_reducible refine Q2 fun R1 hR1=>?_);(simp only [go_sem,seval,-List.reduceReplicate,Bool.cond_false_right,Bool.cond_true_left]);(repeat' with_reducible refine And.intro ?_ ?_);all_goals first|(refine hR1 _ ?_;clear hR1 R1)|((first|refine cq (cc (YK p hpp)) ?_|refine cq (cc (VN p s hpp hs)) ?_|refine cq (cc (WV s g hs (by omega))) ?_);all_goals ((try simp only [go_sem,seval,-List.reduceReplicate,Bool.cond_false_right,Bool.cond_true_left]);(repeat' with_reducible refine And.intro ?_ ?_);all_goals first|(refine hR1 _ ?_;clear hR1 R1)|exact ZQ))|exact ZQ)
  | ((with_reducible refine Q1 ?_);refine hR _ ?_;clear hR R;try simp only [go_sem,QOJ,Nat.reduceBEq])
  | (with_reducible first|refine J1 ?_|refine J2 ?_|refine J3 ?_|refine Q0 ?_|refine Qz ?_)
  | ((with_reducible refine QZ 7 ?_)
     have hok:=Prg.ok hb9
     have hv:=Vld.of hok hs hb13
     have hcnt:=hv.count
     have hlb:=XR hv hb19.1 hb19.2
     (with_reducible refine rg QOJ fun R hR=>?_);simp only [go_sem,QC])
  | ((with_reducible refine rg QOJ fun R hR=>?_);simp only [go_sem,QC])
  | ((with_reducible refine QH 9 rfl (fun hb9=>?_) fun hb9=>?_);all_goals (try simp [-List.getD_eq_getElem?_getD] at hb9;try (exfalso;omega)))
  | ((with_reducible refine QH 13 rfl (fun hb13=>?_) fun hb13=>?_);all_goals (try simp [-List.getD_eq_getElem?_getD] at hb13;try (exfalso;omega)))
  | ((with_reducible refine QH 19 rfl (fun hb19=>?_) fun hb19=>?_);all_goals (try simp [-List.getD_eq_getElem?_getD] at hb19;try (exfalso;omega)))
  | ((with_reducible refine QH 23 rfl (fun hb23=>?_) fun hb23=>?_);all_goals (try simp [-List.getD_eq_getElem?_getD] at hb23;try (exfalso;omega)))
  | ((with_reducible first|refine ZH ?_|refine ZG ?_)
     simp only [go_sem,QJ,QK,QG,seval]
     first
      | (have q:QP p=false:=hb9
         refine ⟨rfl,?_⟩
         rw [show Z7 p s g=3 from by unfold Z7 ZO;rw [hb9];rfl])
      | (have q:Zf p s=false:=hb13
         refine ⟨rfl,?_⟩
         rw [show Z7 p s g=4 from by unfold Z7 ZO;rw [hb9,hb13];rfl])
      | (have q:ZE s g=false:=hb23
         refine ⟨rfl,?_⟩
         rw [show Z7 p s g=9 from by unfold Z7;rw [xL hb9 hb13,if_neg (by decide),if_neg (by omega),← hlb,hb23];rfl])
      | (have q:ZE s g=true:=hb23
         refine ⟨rfl,?_⟩
         rw [show Z7 p s g=0 from by unfold Z7;rw [xL hb9 hb13,if_neg (by decide),if_neg (by omega),← hlb,hb23];rfl])
      | (refine ⟨rfl,?_⟩
         rw [show Z7 p s g=1 from by unfold Z7;rw [xL hb9 hb13,if_neg (by decide),if_pos (by omega)]]))
def QIv:List (List Nat):=[[2,3,4],[2,3,4,7],[2,3,4,7,14],[6],[2,3,4,7,8],[2,3,4,7,8,23],[2,3,4,7,8,23,24],[7],[2,3,4,7,8,23,35],[7],[3,4,7,8,48],[4,7,8,56],[7],[6]]
theorem QB7 (p:Prg) (s:Stt) (g:Int) (hp:p.Fit) (hr:QP p=true) (hv:Vld p s) (hgc:0≤g∧g<s.count) (hlv:ZE s g=true):Ctr Go.Proofs.Tryz.prog tab 49 [26,37,3] [23] [p.v,s.v,.int g] [.list ((YY p s g).map V.int)]:=by
 have hw:=hv.wf (Prg.ok hr) hr
 have hpp:=hp
 have hok:=Prg.ok hr
 have hs:=hw.shape
 have hcnt:=hw.count
 have hcode:=p.code_len hp
 have hsl:=p.sels_len hp
 obtain ⟨hp1,hp2,hp3,hp4⟩:=hp
 have hs1:=hs.vars
 have hs2:=hs.owner
 have hs3:=hs.chans
 have hs5:=hs.gos
 have hsz:=hok.sizes
 unfold Ze at hsz
 have hmx:256≤maxLen:=by decide
 have hal:=Vs hok hw g
 have hgi:=hw.gos g (by omega) (by omega)
 have hgi':=hw.gos g (by omega) (by omega)
 obtain ⟨hf0,hf1,hpc0,hpc1,h8⟩:=hgi'
 have hrt:QV p (p.funcs.getD (s.gos.getD g.toNat default).func.toNat default) (QA p s g)=0:=hw.right hok hgc.1 hgc.2
 have hrg:=hok.regs (s.gos.getD g.toNat default).func.toNat
 refine Ctr.body ok Go.Proofs.Tryz.func49 rfl rfl 67 rfl [.tmp 6] rfl (by simp [QE]) ?_
 simp only [go_sem,Nat.reduceAdd]
 repeat' first
  | ((with_reducible refine SARA.told 12 6 ?_)
     rw [ZU (by omega)])
  | ((with_reducible first|refine Q2 fun R1 hR1=>?_|refine qR fun R1 hR1=>?_|refine qQ fun R1 hR1=>?_|refine qP fun R1 hR1=>?_);(simp only [go_sem,seval,-List.reduceReplicate,Bool.cond_false_right,Bool.cond_true_left]);(repeat' with_reducible refine And.intro ?_ ?_);all_goals first|(refine hR1 _ ?_;clear hR1 R1)|((first|refine ce (cf (Vu p s g hpp hr hw) ?_)|refine cq (cc (Z2 p s g hpp hs (by omega) hgi)) ?_|refine cq (cc (Wo p s g hpp hs (by omega) hgi)) ?_);all_goals ((try simp only [go_sem,seval,-List.reduceReplicate,Bool.cond_false_right,Bool.cond_true_left]);(repeat' with_reducible refine And.intro ?_ ?_);all_goals first|(refine hR1 _ ?_;clear hR1 R1)|exact Xk))|exact Xk)
  | ((with_reducible first|refine qO ?_|refine Q1 ?_);refine hR _ ?_;clear hR R;try simp only [go_sem,QIv,Nat.reduceBEq])
  | (with_reducible first|refine qN ?_ ?_|exact qM|refine qL ?_ ?_)
  | (with_reducible first|refine J1 ?_|refine J2 ?_|refine J3 ?_|refine J4 ?_|refine J5 ?_|refine J6 ?_|refine J7 ?_|refine J8 (by decide) ?_|refine J9 ?_|refine Q0 ?_|refine Qz ?_|refine YZ ?_)
  | ((with_reducible refine QZ 7 ?_)
     have hI:=qY hrt (.inl (hw.op_at hok hgc.1 hgc.2 hb24 (by decide)))
     (with_reducible refine rg QIv fun R hR=>?_);simp only [go_sem,QC])
  | ((with_reducible refine QZ 11 ?_)
     have hI:=VU hrt (hw.op_at hok hgc.1 hgc.2 hb48 (by decide))
     (with_reducible refine rg QIv fun R hR=>?_);simp only [go_sem,QC])
  | ((with_reducible refine QZ 9 ?_)
     have hI:=zc hrt (.inl (hw.op_at hok hgc.1 hgc.2 hb35 (by decide)))
     refine WJ ok QN (.take 0 (.take 1 (.take 2 (.take 3 (.take 4 (.take 5 (.take 6 (.take 7 (.take 8 (.br 9 (.br 10 (.take 11 .done) .nil) .nil)))))))))) [10] QIv (by kernel_rfl) (fun R hR=>?_);simp only [go_sem,QC])
  | ((with_reducible refine rg QIv fun R hR=>?_);simp only [go_sem,QC])
  | ((with_reducible refine QH 14 rfl (fun hb14=>?_) fun hb14=>?_);all_goals (try simp [-List.getD_eq_getElem?_getD] at hb14;try (exfalso;omega)))
  | ((with_reducible refine QH 24 rfl (fun hb24=>?_) fun hb24=>?_);all_goals (try simp [-List.getD_eq_getElem?_getD] at hb24;try (exfalso;omega)))
  | ((with_reducible refine QH 35 rfl (fun hb35=>?_) fun hb35=>?_);all_goals (try simp [-List.getD_eq_getElem?_getD] at hb35;try (exfalso;omega)))
  | ((with_reducible refine QH 48 rfl (fun hb48=>?_) fun hb48=>?_);all_goals (try simp [-List.getD_eq_getElem?_getD] at hb48;try (exfalso;omega)))
  | ((with_reducible refine QH 56 rfl (fun hb56=>?_) fun hb56=>?_);all_goals (try simp [-List.getD_eq_getElem?_getD] at hb56;try (exfalso;omega)))
  | ((with_reducible first|refine ZH ?_|refine ZG ?_)
     simp only [go_sem,QJ,QK,QG,seval]
     first
      | (have q:0<_:=hb14
         refine ⟨rfl,?_⟩
         rw [show YY p s g=[] from if_pos hb14]
         rfl)
      | (have q:=hb24
         have hct:=hv.count
         have hov:=(hv.own (QA p s g).a.toNat (by omega)).1
         rw [show YY p s g=[s.owner.getD (QA p s g).a.toNat 0-1] from (if_neg (show ¬0<(Qj p s g).length by rw [hb14];simp)).trans (if_pos hb24)]
         refine ⟨rfl,?_,?_⟩
         · rw [QU (by omega) (by omega)];rfl
         · intro e h j u lo n c q
           (simp at h)<;>(subst h;cases q))
      | (have q:=hb35
         rw [show YY p s g=[(s.gos.getD g.toNat default).regs.getD (QA p s g).a.toNat 0] from (if_neg (show ¬0<(Qj p s g).length by rw [hb14];simp)).trans ((if_neg hb24).trans (if_pos hb35))]
         refine ⟨rfl,?_,?_⟩
         · rfl
         · intro e h j u lo n c q
           (simp at h)<;>(subst h;cases q))
      | (have q:_=_:=hb56
         rw [show YY p s g=[(s.chans.getD (QA p s g).a.toNat default).from_] from (if_neg (show ¬0<(Qj p s g).length by rw [hb14];simp)).trans ((if_neg hb24).trans ((if_neg hb35).trans (if_pos ⟨hb48,hb56⟩)))]
         refine ⟨rfl,?_,?_⟩
         · rfl
         · intro e h j u lo n c q
           (simp at h)<;>(subst h;cases q))
      | (have q:¬_:=hb56
         refine ⟨rfl,?_⟩
         rw [show YY p s g=[] from (if_neg (show ¬0<(Qj p s g).length by rw [hb14];simp)).trans ((if_neg hb24).trans ((if_neg hb35).trans (if_neg (fun w=>hb56 w.2))))]
         rfl)
      | (have q:¬_:=hb48
         refine ⟨rfl,?_⟩
         rw [show YY p s g=[] from (if_neg (show ¬0<(Qj p s g).length by rw [hb14];simp)).trans ((if_neg hb24).trans ((if_neg hb35).trans (if_neg (fun w=>hb48 w.1))))]
         rfl))
end Go.Eng.Tryz
namespace Go.Eng.Tryz
open Go.RowKit Go.Eng
set_option maxHeartbeats 0
set_option maxRecDepth 20000
theorem QDv {p:Prg} {s:Stt} (hok:p.Ok) (hw:Wf p s):(ready p s).length≤maxLen:=by
 have:=Zu hok hw s.count.toNat
 have:=hw.count
 unfold ready
 exact Nat.le_trans (Zu hok hw s.count.toNat) (Nat.le_trans (show _≤256 by omega) (by decide))
theorem QDS {p:Prg} {s:Stt} (hw:Wf p s):(YM p s s.count.toNat).length≤maxLen:=by
 have:=hw.count
 exact Nat.le_trans (x7 p s _) (Nat.le_trans (show _≤256 by omega) (by decide))
theorem QEd {p:Prg} {s:Stt} {g:Int}:(YY p s g).length≤maxLen:=by
 refine Nat.le_trans (?_:_≤1) (by decide)
 unfold YY
 repeat' split
 all_goals simp
theorem QF1 {p:Prg} {s:Stt} {g e:Int} (h:ZO p s=e) (he:e≠0):¬Z7 p s g=0:=fun q=>he (h.symm.trans (UW q).1)
theorem QDd {p:Prg} {s:Stt} {g:Int} (hok:p.Ok) (hw:Wf p s) (hg:0≤g∧g<s.count):(touch p s g).length≤6:=QA8 p s g (fun h=>by
 have hI:=V0 (hw.right hok hg.1 hg.2) (hw.op_at hok hg.1 hg.2 h (by decide))
 have hgi:=hw.gos g hg.1 hg.2
 exact (hok.short (s.gos.getD g.toNat default).func.toNat (UZ p s g).a.toNat (by have:=hgi.f0;have:=hgi.f1;omega)).2)
def lv9:List (List Nat):=[[2,3,4],[2,3,4,7,8],[2,3,4,7,8,9,10],[2,3,4,7,8,9,10,11,12],[2,3,4,7,8,9,10,11,12,13,14],[2,3,4,7,8,9,10,11,12,13,14,15,16],[2,3,4,7,8,9,10,11,12,13,14,15,16,17,18],[2,3,4,7,8,9,10,11,12,13,14,15,16,17,18,61],[6],[2,3,4,7,8,9,10,11,12,13,14,15,16,17,18,19],[2,3,4,7,8,9,10,11,12,13,14,15,16,17,18,19,64],[2,3,4,7,8,9,10,11,12,13,14,15,16,17,18,19],[2,3,4,7,8,9,10,11,12,13,14,15,16,17,18,19,68],[2,3,4,7,8,9,10,11,12,13,14,15,16,17,18,19],[2,3,4,7,8,9,10,11,12,13,14,15,17,19,76],[6],[2,3,4,7,8,9,10,11,12,13,14,94],[6],[2,3,4,7,8,9,10,11,12,13,14,19],[2,3,4,7,9,11,13,19,116],[6],[2,3,4,7,9,11,13,118],[6],[6]]
end Go.Eng.Tryz
