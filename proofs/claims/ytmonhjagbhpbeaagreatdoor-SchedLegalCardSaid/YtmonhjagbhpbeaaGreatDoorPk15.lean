/- A part of the proof: walks through the program's functions, and what they compute. -/
import Derived.Test.YtmonhjagbhpbeaaGreatDoorPk7
import Derived.Test.YtmonhjagbhpbeaaGreatDoorPk14
set_option linter.unusedSimpArgs false
set_option linter.unusedVariables false
namespace Go.Eng.Tryz
open Go.RowKit Go.Eng
set_option maxHeartbeats 0
set_option maxRecDepth 20000
theorem W3 (p:Prg) (s:Stt) (g:Int) (hp:p.Fit) (hr:QT p=true) (hv:Vld p s) (hg:0≤g∧g<s.count) (hl:Z8 s g=true):Ctr Go.Proofs.Tryz.prog tab 49 [26,47,3] [23] [p.v,s.v,.int g] [.list ((Qr p s g).map V.int)]:=by
 have hw:=hv.wf (Prg.ok hr) hr
 have hpp:=hp
 have hok:=Prg.ok hr
 have hs:=hw.shape
 have hcnt:=hw.count
 have hcode:=p.code_len hp
 have hsl:=p.sels_len hp
 obtain ⟨hp1,hp2,hp3,hp4⟩:=hp
 have hs1:=hs.vars
 have hs2:=hs.owner
 have hs3:=hs.chans
 have hs5:=hs.gos
 have hsz:=hok.sizes
 unfold Yc at hsz
 have hmx:256≤maxLen:=by decide
 have hgi:=hw.gos g (by omega) (by omega)
 have hgf:=hgi.f0
 have hgf1:=hgi.f1
 have hgp:=hgi.p0
 have hgp1:=hgi.p1
 have h8:=hgi.regs
 have hrt:Qa p (p.funcs.getD (s.gos.getD g.toNat default).func.toNat default) (QB p s g)=0:=hw.right hok hg.1 hg.2
 have hrg:=hok.regs (s.gos.getD g.toNat default).func.toNat
 refine Ctr.body ok Go.Proofs.Tryz.func49 rfl rfl 86 rfl [.tmp 6] rfl (by simp [QL]) ?_
 simp only [go_sem,Nat.reduceAdd]
 repeat' first
  | ((with_reducible refine SARW.told 14 12 ?_)
     refine J48 (St.le.keep [8,72,75,83]) ?_
     simp only [St.keep,List.filterMap_cons,List.filterMap_nil,List.lookup_cons,List.lookup_nil,Option.map_some,Option.map_none,beq_self_eq_true,Nat.reduceBEq])
  | ((with_reducible refine SARA.told 11 3 ?_)
     rw [Vx (by omega)])
  | ((with_reducible refine SART.told 7 7 ?_)
     rw [Xp (by omega)])
  | ((with_reducible refine SART.told 7 12 ?_)
     rw [WO (by omega)])
  | ((with_reducible first|refine Zx fun R1 hR1=>?_|refine SARW.do fun R1 hR1=>?_|refine vp fun R1 hR1=>?_|refine vo fun R1 hR1=>?_|refine vn fun R1 hR1=>?_);(simp only [go_sem,seval,-List.reduceReplicate,Bool.cond_false_right,Bool.cond_true_left,Vi,zC,xb,z3]);(repeat' with_reducible refine And.intro ?_ ?_);all_goals first|(refine hR1 _ ?_;clear hR1 R1)|((first|refine cq (cc (WV p s g hpp hr hw hg)) ?_|refine ⟨_,_,rfl,.inl ⟨_,fun hg=>CallQ.ctr ok (WV p s g hpp hr hw hg) (by first|rfl|(simp [go_sem];done)|fail) rfl,?_⟩⟩|refine cq (cc (wZ p s g hpp hr hv hg hb19)) ?_|refine ⟨_,_,rfl,.inl ⟨_,fun hg=>CallQ.ctr ok (wZ p s g hpp hr hv hg hb19) (by first|rfl|(simp [go_sem];done)|fail) rfl,?_⟩⟩|refine cq (cc (WL p s _ hpp hr hw hC.chan)) ?_|refine ⟨_,_,rfl,.inl ⟨_,fun hg=>CallQ.ctr ok (WL p s _ hpp hr hw hC.chan) (by first|rfl|(simp [go_sem];done)|fail) rfl,?_⟩⟩|refine cq (cc (Yr s _ hs hC4)) ?_|refine ⟨_,_,rfl,.inl ⟨_,fun hg=>CallQ.ctr ok (Yr s _ hs hC4) (by first|rfl|(simp [go_sem];done)|fail) rfl,?_⟩⟩|refine ⟨_,_,rfl,.inr (QEk _ _ _ _ _ _ _ (by omega) rfl rfl rfl fun ys=>?_)⟩);all_goals ((try simp only [go_sem,seval,-List.reduceReplicate,Bool.cond_false_right,Bool.cond_true_left,Vi,zC,xb,z3]);(repeat' with_reducible refine And.intro ?_ ?_);all_goals first|(refine hR1 _ ?_;clear hR1 R1)|omega|rfl|decide|assumption|(intro _;omega)|(simp;done)|(simp [-List.getD_eq_getElem?_getD];omega)|exact hcode _|(intro _;exact hcode _)|exact hsl _|(intro _;exact hsl _)|(simp [-List.getD_eq_getElem?_getD,QF,maxLen,YN,Q0,Qz,Qw,Qx];omega)|(simp [-List.getD_eq_getElem?_getD,QF,maxLen,YN,Q0,Qz,Qw,Qx];done)))|omega|rfl|decide|assumption|(intro _;omega)|(simp;done)|(simp [-List.getD_eq_getElem?_getD];omega)|exact hcode _|(intro _;exact hcode _)|exact hsl _|(intro _;exact hsl _)|(simp [-List.getD_eq_getElem?_getD,QF,maxLen,YN,Q0,Qz,Qw,Qx];omega)|(simp [-List.getD_eq_getElem?_getD,QF,maxLen,YN,Q0,Qz,Qw,Qx];done))
  | ((with_reducible first|refine vm ?_|refine Zw ?_|refine SARW.nil ?_);refine hR _ ?_;clear hR R;try simp only [go_sem,QIH,Nat.reduceBEq])
  | (with_reducible first|refine vk ?_ ?_|exact vj|refine vi ?_ ?_)
  | (with_reducible first|refine J1 ?_|refine J2 ?_|refine J3 ?_|refine J4 ?_|refine J5 ?_|refine J6 ?_|refine J7 ?_|refine J8 (by decide) ?_|refine J9 ?_|refine Uf ?_|refine ZL ?_|refine ZS ?_|refine Y3 ?_|refine V7 ?_)
  | ((with_reducible refine Qy 12 ?_)
     have hC:=qo hok (i:=(s.gos.getD g.toNat default).func.toNat) (j:=(QB p s g).a.toNat) (k:=i) (by omega) (by omega) (by omega)
     have hC4:0≤(((p.funcs.getD (s.gos.getD g.toNat default).func.toNat default).sels.getD (QB p s g).a.toNat default).cases.getD i default).chan∧(((p.funcs.getD (s.gos.getD g.toNat default).func.toNat default).sels.getD (QB p s g).a.toNat default).cases.getD i default).chan<4:=⟨hC.chan.1,by have:=hC.chan.2;omega⟩
     have hq:=Vd p s ((p.funcs.getD (s.gos.getD g.toNat default).func.toNat default).sels.getD (QB p s g).a.toNat default) i
     (with_reducible refine rg QIH fun R hR=>?_);simp only [go_sem,QC])
  | ((with_reducible refine Qy 14 ?_)
     have hq:=Vd p s ((p.funcs.getD (s.gos.getD g.toNat default).func.toNat default).sels.getD (QB p s g).a.toNat default) i
     (with_reducible refine SA.regionWN ok (by kernel_rfl) QIH ?_);intro R hR;simp only [go_sem,QC])
  | ((with_reducible refine Qy 7 ?_)
     have hop:=hw.op_at hok hg.1 hg.2 hb19 (by decide)
     have hI:0≤(QB p s g).a∧(QB p s g).a<((p.funcs.getD (s.gos.getD g.toNat default).func.toNat default).sels.length:Int):=zm hrt hop
     have hsh:=hok.short (s.gos.getD g.toNat default).func.toNat (QB p s g).a.toNat (by omega)
     refine V6 ok Qc (.take 0 (.take 1 (.take 2 (.take 3 (.take 4 (.take 5 (.take 6 (.take 7 (.take 8 (.take 9 (.take 10 (.take 11 (.take 12 (.take 13 (.br 14 (.br 15 .done .nil) .nil))))))))))))))) [15] QIH (by kernel_rfl) (fun R hR=>?_);simp only [go_sem,QC])
  | ((with_reducible refine rg QIH fun R hR=>?_);simp only [go_sem,QC])
  | ((with_reducible refine QR 19 rfl (fun hb19=>?_) fun hb19=>?_);all_goals (try simp [-List.getD_eq_getElem?_getD] at hb19;try (exfalso;omega)))
  | ((with_reducible refine QR 23 rfl (fun hb23=>?_) fun hb23=>?_);all_goals (try simp [-List.getD_eq_getElem?_getD] at hb23;try (exfalso;omega)))
  | ((with_reducible refine SA.cond rfl ?_ ?_)
     all_goals
      intro hb
      try simp [-List.getD_eq_getElem?_getD] at hb
      try (exfalso;omega))
  | ((with_reducible refine W1 ?_)
     refine Yx ((St.le.ownVar 3 (e:=3) rfl).trans (ZZ rfl)) (Wo (fun n τ=>∃ (i:Nat),n=((p.funcs.getD (s.gos.getD g.toNat default).func.toNat default).sels.getD (QB p s g).a.toNat default).cases.length-i∧(i≤((p.funcs.getD (s.gos.getD g.toNat default).func.toNat default).sels.getD (QB p s g).a.toNat default).cases.length)∧τ={ tm:=[(3,true,.ptr 0 [] 26),(4,true,.ptr 1 [] 47),(8,true,.ptr 3 [] 23),(9,true,.ptr 4 [] 173),(10,true,.fn 92 [.ptr 3 [] 23]),(41,true,.fs 176 (((p.funcs.getD (s.gos.getD g.toNat default).func.toNat default).sels.getD (QB p s g).a.toNat default).cases.map Cas.v) false),(42,true,.int .i64 ((p.funcs.getD (s.gos.getD g.toNat default).func.toNat default).sels.getD (QB p s g).a.toNat default).cases.length),(43,true,.int .i64 i)],ob:=[.var 26 (.data 26 p.v),.var 47 (.data 47 s.v),.var 104 (.data 104 (atI p s g).v),.var 23 (.sl 5 3 0 (ZT p s ((p.funcs.getD (s.gos.getD g.toNat default).func.toNat default).sels.getD (QB p s g).a.toNat default) i).length false),.var 173 (.data 173 ((p.funcs.getD (s.gos.getD g.toNat default).func.toNat default).sels.getD (QB p s g).a.toNat default).v),.row 3 ((ZT p s ((p.funcs.getD (s.gos.getD g.toNat default).func.toNat default).sels.getD (QB p s g).a.toNat default) i).map V.int)],out:=[],nt:=86 }) (((p.funcs.getD (s.gos.getD g.toNat default).func.toNat default).sels.getD (QB p s g).a.toNat default).cases.length) ⟨0,rfl,by omega,rfl⟩ ?_)
     rintro n τ ⟨i,hn,hi,rfl⟩)
  | ((with_reducible refine zF ?_)
     first
      | (have hlt:i<((p.funcs.getD (s.gos.getD g.toNat default).func.toNat default).sels.getD (QB p s g).a.toNat default).cases.length:=by omega
         have hw:=QN (n:=i) (m:=256) (by omega) (by decide)
         have e:∀ x,x=WQ p s (((p.funcs.getD (s.gos.getD g.toNat default).func.toNat default).sels.getD (QB p s g).a.toNat default).cases.getD i default)→QBH (ZT p s ((p.funcs.getD (s.gos.getD g.toNat default).func.toNat default).sels.getD (QB p s g).a.toNat default) i) x i=ZT p s ((p.funcs.getD (s.gos.getD g.toNat default).func.toNat default).sels.getD (QB p s g).a.toNat default) (i+1):=by
          intro x hx
          subst hx
          cases hc:WQ p s (((p.funcs.getD (s.gos.getD g.toNat default).func.toNat default).sels.getD (QB p s g).a.toNat default).cases.getD i default)
          · exact (QCI hc).symm
          · exact (QDe hc).symm
         refine WE (((p.funcs.getD (s.gos.getD g.toNat default).func.toNat default).sels.getD (QB p s g).a.toNat default).cases.length-(i+1)) _ (by omega) ((Vk 6 rfl).trans (ZZ (by rw [e _ (by unfold WQ;cases (((p.funcs.getD (s.gos.getD g.toNat default).func.toNat default).sels.getD (QB p s g).a.toNat default).cases.getD i default).send<;>simp)];simp only [hw,List.take_succ_cons,List.take_zero]))) ⟨i+1,rfl,hlt,rfl⟩))
  | ((with_reducible first|refine YQ ?_|refine Zv ?_)
     simp only [go_sem,QS,QW,QM,seval]
     first
      | (have q:=hb23
         refine ⟨rfl,?_⟩
         rw [show Qr p s g=[0] from (if_pos hl).trans ((if_neg hb19).trans (if_pos hb23))]
         simp)
      | (have q:=hb23
         refine ⟨rfl,?_⟩
         rw [show Qr p s g=[] from (if_pos hl).trans ((if_neg hb19).trans (if_neg (by rw [hb23];simp)))]
         rfl)
      | (have hi':i=((p.funcs.getD (s.gos.getD g.toNat default).func.toNat default).sels.getD (QB p s g).a.toNat default).cases.length:=by omega
         refine ⟨rfl,?_,fun _ h=>absurd h (by simp)⟩
         rw [QJH hl hb19 (q:=((p.funcs.getD (s.gos.getD g.toNat default).func.toNat default).sels.getD (QB p s g).a.toNat default)) rfl hi']
         simp [-List.getD_eq_getElem?_getD,List.take_of_length_le]))
end Go.Eng.Tryz
namespace Go.Eng.Tryz
open Go.RowKit Go.Eng
set_option maxHeartbeats 0
set_option maxRecDepth 20000
def QJ7:List (List Nat):=[[2,3],[2,3,6],[2,3,6,16],[4,5],[2,3,7],[2,3,7,19,20,21],[2,3,7,19,20,21,22],[2,3,7,9,19,20,21],[2,3,7,9,19,20,21,28,29,30],[2,3,7,9,19,20,21,28,29,30,31],[2,3,7,9,11,19,20,21,28,29,30],[2,3,7,9,19,20,21,28,29,30],[2,3,7,9,19,20,21,28,29,30],[2,3,7,19,20,21],[4,5]]
theorem zR (p:Prg) (s:Stt) (hp:p.Fit) (hs:s.Shape):Ctr Go.Proofs.Tryz.prog tab 18 [26,47] [29,30] [p.v,s.v] [.list ((if XI p s=0 then ready p s else []).map Pck.v),.int (XI p s)]:=by
 have hpp:=hp
 have hfit:=hp
 have hcode:=p.code_len hp
 have hsl:=p.sels_len hp
 obtain ⟨hp1,hp2,hp3,hp4⟩:=hp
 have hmx:256≤maxLen:=by decide
 refine Ctr.body ok Go.Proofs.Tryz.func18 rfl rfl 43 rfl [.tmp 4,.tmp 5] rfl (by simp [QL]) ?_
 simp only [go_sem,Nat.reduceAdd]
 repeat' first
  | ((with_reducible refine Zx fun R1 hR1=>?_);(simp only [go_sem,seval,-List.reduceReplicate,Bool.cond_false_right,Bool.cond_true_left,QGy,z56,z3]);(repeat' with_reducible refine And.intro ?_ ?_);all_goals first|(refine hR1 _ ?_;clear hR1 R1)|((first|refine cq (cc (UI p s hpp hs)) ?_|refine ce (cf (QF4 s hs) ?_)|refine ce (cf (W3 p s ((Qh s 6).getD i 0) hpp hr hv hgi.1 hgi.2) ?_));all_goals ((try simp only [go_sem,seval,-List.reduceReplicate,Bool.cond_false_right,Bool.cond_true_left,QGy,z56,z3]);(repeat' with_reducible refine And.intro ?_ ?_);all_goals first|(refine hR1 _ ?_;clear hR1 R1)|omega|rfl|decide|assumption|(intro _;omega)|(simp;done)|(simp [-List.getD_eq_getElem?_getD];omega)|exact hcode _|(intro _;exact hcode _)|exact hsl _|(intro _;exact hsl _)|(simp [-List.getD_eq_getElem?_getD,QF,maxLen,YN,Q0,Qz,Qw,Qx];omega)|(simp [-List.getD_eq_getElem?_getD,QF,maxLen,YN,Q0,Qz,Qw,Qx];done)))|omega|rfl|decide|assumption|(intro _;omega)|(simp;done)|(simp [-List.getD_eq_getElem?_getD];omega)|exact hcode _|(intro _;exact hcode _)|exact hsl _|(intro _;exact hsl _)|(simp [-List.getD_eq_getElem?_getD,QF,maxLen,YN,Q0,Qz,Qw,Qx];omega)|(simp [-List.getD_eq_getElem?_getD,QF,maxLen,YN,Q0,Qz,Qw,Qx];done))
  | ((with_reducible refine Zw ?_);refine hR _ ?_;clear hR R;try simp only [go_sem,QJ7,Nat.reduceBEq])
  | (with_reducible first|refine J1 ?_|refine J2 ?_|refine J3 ?_|refine J4 ?_|refine J5 ?_|refine J6 ?_|refine J7 ?_|refine J8 (by decide) ?_|refine J9 ?_|refine Uf ?_|refine ZL ?_|refine ZS ?_|refine Y3 ?_|refine V7 ?_)
  | ((with_reducible refine Qy 4 ?_)
     have hr:=(V2 hb16).1
     have hok:=Prg.ok hr
     have hv:=Vld.of hok hs (V2 hb16).2
     have hw:=hv.wf hok hr
     have hll:=wq s 6
     (with_reducible refine rg QJ7 fun R hR=>?_);simp only [go_sem,QC])
  | ((with_reducible refine Qy 8 ?_)
     have hgi:=QGL hv (k:=i) (by omega)
     have hal:=VV hok hw ((Qh s 6).getD i 0)
     have hrl:=QCu hok hw ((Qh s 6).take i)
     rw [List.length_take] at hrl
     (with_reducible refine rg QJ7 fun R hR=>?_);simp only [go_sem,QC])
  | ((with_reducible refine rg QJ7 fun R hR=>?_);simp only [go_sem,QC])
  | ((with_reducible refine QR 16 rfl (fun hb16=>?_) fun hb16=>?_);all_goals (try simp [-List.getD_eq_getElem?_getD] at hb16;try (exfalso;omega)))
  | ((with_reducible refine SA.cond rfl ?_ ?_)
     all_goals
      intro hb
      try simp [-List.getD_eq_getElem?_getD] at hb
      try (exfalso;omega))
  | ((with_reducible refine W1 ?_)
     refine Yx ((St.le.own (t:=7) 56 rfl).trans ((St.le.keep [2,3,7,19,20,21]).trans (ZZ (by first|rfl|(simp;done)|fail)))) (Wo (fun n τ=>∃ (i:Nat),n=(Qh s 6).length-i∧(i≤(Qh s 6).length)∧τ={ tm:=[(2,true,.ptr 0 [] 26),(3,true,.ptr 1 [] 47),(7,true,.sl 3 56 0 (ym p s ((Qh s 6).take i)).length false),(19,true,.sl 2 3 0 (Qh s 6).length false),(20,true,.int .i64 (Qh s 6).length),(21,true,.int .i64 i)],ob:=[.var 26 (.data 26 p.v),.var 47 (.data 47 s.v),.row 3 ((Qh s 6).map V.int),.row 56 ((ym p s ((Qh s 6).take i)).map Pck.v)],out:=[],nt:=43 }) ((Qh s 6).length) ⟨0,rfl,by omega,rfl⟩ ?_)
     rintro n τ ⟨i,hn,hi,rfl⟩)
  | ((with_reducible refine W1 ?_)
     refine Yx (ZZ (by first|(simp;done)|fail)) (Wo (fun n τ=>∃ (j:Nat),n=(Qr p s ((Qh s 6).getD i 0)).length-j∧(j≤(Qr p s ((Qh s 6).getD i 0)).length)∧τ={ tm:=[(2,true,.ptr 0 [] 26),(3,true,.ptr 1 [] 47),(7,true,.sl 3 56 0 (ym p s ((Qh s 6).take i)++((Qr p s ((Qh s 6).getD i 0)).take j).map fun a=>(⟨(Qh s 6).getD i 0,a⟩:Pck)).length false),(9,true,.int .i64 ((Qh s 6).getD i 0)),(19,true,.sl 2 3 0 (Qh s 6).length false),(20,true,.int .i64 (Qh s 6).length),(21,true,.int .i64 i),(28,true,.sl 4 3 0 (Qr p s ((Qh s 6).getD i 0)).length false),(29,true,.int .i64 (Qr p s ((Qh s 6).getD i 0)).length),(30,true,.int .i64 j)],ob:=[.var 26 (.data 26 p.v),.var 47 (.data 47 s.v),.row 3 ((Qh s 6).map V.int),.row 56 ((ym p s ((Qh s 6).take i)++((Qr p s ((Qh s 6).getD i 0)).take j).map fun a=>(⟨(Qh s 6).getD i 0,a⟩:Pck)).map Pck.v),.row 3 ((Qr p s ((Qh s 6).getD i 0)).map V.int)],out:=[],nt:=43 }) ((Qr p s ((Qh s 6).getD i 0)).length) ⟨0,rfl,by omega,rfl⟩ ?_)
     rintro n τ ⟨j,hn,hj,rfl⟩)
  | ((with_reducible refine zF ?_)
     first
      | (have hlt:i<(Qh s 6).length:=by omega
         have hw:=QN (n:=i) (m:=256) (by omega) (by decide)
         have hj':j=(Qr p s ((Qh s 6).getD i 0)).length:=by omega
         subst hj'
         have e:(Qh s 6).take (i+1)=(Qh s 6).take i++[(Qh s 6).getD i 0]:=QAU hlt
         refine WE ((Qh s 6).length-(i+1)) _ (by omega) ((Vk 4 rfl).trans (ZZ (by simp only [hw,e,QAe,List.take_length,List.take_succ_cons,List.take_zero]))) ⟨i+1,rfl,hlt,rfl⟩)
      | (have hlt:j<(Qr p s ((Qh s 6).getD i 0)).length:=by omega
         have hw:=QN (n:=j) (m:=256) (by omega) (by decide)
         have e:(Qr p s ((Qh s 6).getD i 0)).take (j+1)=(Qr p s ((Qh s 6).getD i 0)).take j++[(Qr p s ((Qh s 6).getD i 0)).getD j 0]:=QAU hlt
         refine WE ((Qr p s ((Qh s 6).getD i 0)).length-(j+1)) _ (by omega) ((Vk 5 rfl).trans (ZZ (by simp [-List.getD_eq_getElem?_getD,hw,e,Pck.v,List.take_of_length_le,Nat.add_assoc]))) ⟨j+1,rfl,hlt,rfl⟩))
  | ((with_reducible first|refine YQ ?_|refine Zv ?_)
     simp only [go_sem,QS,QW,QM,seval]
     first
      | (have q:¬_:=hb16
         refine ⟨⟨rfl,?_⟩,rfl⟩
         rw [if_neg hb16]
         rfl)
      | (have hi':i=(Qh s 6).length:=by omega
         subst hi'
         rw [hb16]
         refine ⟨⟨rfl,?_,?_⟩,rfl,rfl⟩
         · rw [if_pos rfl,List.take_length,QF2 hv]
           simp [List.take_of_length_le]
         · intro e h j u lo n c q
           simp at h
           subst h
           cases q))
end Go.Eng.Tryz
namespace Go.Eng.Tryz
open Go.RowKit Go.Eng
set_option maxHeartbeats 0
set_option maxRecDepth 20000
theorem QNj {p:Prg} {n:Int} {b:Bud} (h:¬Z4 p=0):Zf p n b=3:=by
 unfold Zf
 rw [if_pos (show QT p=false from decide_eq_false h)]
theorem QNk {p:Prg} {n:Int} {b:Bud} (h:Z4 p=0) (h2:256<n):Zf p n b=2:=by
 unfold Zf
 rw [if_neg (by rw [show QT p=true from decide_eq_true h];simp),if_pos h2]
theorem QJF {p:Prg} {n:Int} {b:Bud} (h:Z4 p=0) (h2:¬256<n):Zf p n b=if Z5 b=false then 6 else 0:=by
 unfold Zf
 rw [if_neg (by rw [show QT p=true from decide_eq_true h];simp),if_neg h2]
def QPi:List (List Nat):=[[0,1],[4]]
theorem QAw (n m:Int):Ctr Go.Proofs.Tryz.prog tab 80 [3,3] [4] [.int n,.int m] [.bool (decide (0≤n)&&decide (n≤m))]:=by
 have hcode:True→True:=id
 have hsl:True→True:=id
 refine Ctr.body ok Go.Proofs.Tryz.func80 rfl rfl 12 rfl [.tmp 4] rfl (by simp [QL]) ?_
 simp only [go_sem,Nat.reduceAdd]
 repeat' first
  | ((with_reducible refine Zx fun R1 hR1=>?_);(simp only [go_sem,seval,-List.reduceReplicate,Bool.cond_false_right,Bool.cond_true_left]);(repeat' with_reducible refine And.intro ?_ ?_);all_goals first|(refine hR1 _ ?_;clear hR1 R1)|(intro hgf;simp only [hgf];refine hR1 _ ?_;clear hR1 R1)|exact YJ)
  | ((with_reducible refine Zw ?_);refine hR _ ?_;clear hR R;try simp only [go_sem,QPi,Nat.reduceBEq])
  | (with_reducible first|refine J1 ?_|refine J2 ?_|refine ZL ?_|refine ZS ?_)
  | ((with_reducible refine rg QPi fun R hR=>?_);simp only [go_sem,QC])
  | ((with_reducible first|refine YQ ?_|refine Zv ?_)
     simp only [go_sem,QS,QW,QM,seval]
     first
      | (exact ⟨rfl,rfl⟩)
      | (rfl)
      | (refine ⟨rfl,?_⟩
         by_cases h:0≤n<;>simp [h]))
def QPq:List (List Nat):=[[1,3,5],[1,5,7],[1,5,16],[6],[5,18],[6],[5,9],[37],[6],[6]]
theorem zw (p:Prg) (n:Int) (b:Bud) (hp:p.Fit):Ctr Go.Proofs.Tryz.prog tab 38 [26,3,28] [30] [p.v,.int n,b.v] [.int (Zf p n b)]:=by
 have hpp:=hp
 have hcode:True→True:=id
 have hsl:True→True:=id
 refine Ctr.body ok Go.Proofs.Tryz.func38 rfl rfl 38 rfl [.tmp 6] rfl (by simp [QL]) ?_
 simp only [go_sem,Nat.reduceAdd]
 repeat' first
  | ((with_reducible refine Zx fun R1 hR1=>?_);(simp only [go_sem,seval,-List.reduceReplicate,Bool.cond_false_right,Bool.cond_true_left]);(repeat' with_reducible refine And.intro ?_ ?_);all_goals first|(refine hR1 _ ?_;clear hR1 R1)|(intro hgf;simp only [hgf];refine hR1 _ ?_;clear hR1 R1)|((first|refine ce (cf (VG p hpp) ?_ (by first|rfl|(simp [go_sem,List.take_of_length_le,List.length_map];done)|fail))|refine ⟨_,_,rfl,.inr ⟨fun _=>CallE.ctr ok (VG p hpp) (by first|rfl|(simp [go_sem,List.take_of_length_le,List.length_map];done)|fail) ?_,?_⟩⟩|refine cq (cc (QAw _ _) (by first|rfl|(simp [go_sem,List.take_of_length_le,List.length_map];done)|fail)) ?_|refine ⟨_,_,rfl,.inl ⟨_,fun hg=>CallQ.ctr ok (QAw _ _) (by first|rfl|(simp [go_sem,List.take_of_length_le,List.length_map];done)|fail) rfl,?_⟩⟩);all_goals ((try simp only [go_sem,seval,-List.reduceReplicate,Bool.cond_false_right,Bool.cond_true_left]);(repeat' with_reducible refine And.intro ?_ ?_);all_goals first|(refine hR1 _ ?_;clear hR1 R1)|(intro hgf;simp only [hgf];refine hR1 _ ?_;clear hR1 R1)|exact YJ))|exact YJ)
  | ((with_reducible refine Zw ?_);refine hR _ ?_;clear hR R;try simp only [go_sem,QPq,Nat.reduceBEq])
  | (with_reducible first|refine J1 ?_|refine J2 ?_|refine J3 ?_|refine ZL ?_|refine ZS ?_)
  | ((with_reducible refine rg QPq fun R hR=>?_);simp only [go_sem,QC])
  | ((with_reducible refine QR 16 rfl (fun hb16=>?_) fun hb16=>?_);all_goals (try simp [-List.getD_eq_getElem?_getD] at hb16))
  | ((with_reducible refine QR 18 rfl (fun hb18=>?_) fun hb18=>?_);all_goals (try simp [-List.getD_eq_getElem?_getD] at hb18))
  | ((with_reducible refine QR 37 rfl (fun hb37=>?_) fun hb37=>?_);all_goals (try simp [-List.getD_eq_getElem?_getD] at hb37))
  | ((with_reducible first|refine YQ ?_|refine Zv ?_)
     simp only [go_sem,QS,QW,QM,seval]
     first
      | (have q:¬_:=hb16
         refine ⟨rfl,?_⟩
         rw [QNj hb16])
      | (have q:=hb18
         refine ⟨rfl,?_⟩
         rw [QNk hb16 hb18])
      | (have q:=hb37
         refine ⟨rfl,?_⟩
         rw [QJF hb16 (by omega)]
         first|(rw [if_pos (by simp only [Z5];simp;omega)];done)|(rw [if_neg (by simp only [Z5];simp;omega)];done)))
def QPo:List (List Nat):=[[2,3],[5],[4]]
theorem Vp (p:Prg) (s:Stt) (hp:p.Fit) (hr:QT p=true) (hv:Vld p s):Ctr Go.Proofs.Tryz.prog tab 44 [26,47] [4] [p.v,s.v] [.bool (decide (0<(ready p s).length))]:=by
 have hpp:=hp
 have hcode:True→True:=id
 have hsl:True→True:=id
 have hmx:256≤maxLen:=by decide
 have hw:=hv.wf (Prg.ok hr) hr
 have hrl:=VS (Prg.ok hr) hw s.count.toNat
 have hct:=hv.count
 have hrl2:(ready p s).length≤384:=by unfold ready;omega
 have hmx2:384≤maxLen:=by decide
 have hrl3:(ready p s).length≤maxLen:=by omega
 have hrc:=zR p s hpp hv.shape
 rw [Ub hr hv,if_pos rfl] at hrc
 refine Ctr.body ok Go.Proofs.Tryz.func44 rfl rfl 16 rfl [.tmp 4] rfl (by simp [QL]) ?_
 simp only [go_sem,Nat.reduceAdd]
 repeat' first
  | ((with_reducible refine Zx fun R1 hR1=>?_);(simp only [go_sem,seval,-List.reduceReplicate,Bool.cond_false_right,Bool.cond_true_left]);(repeat' with_reducible refine And.intro ?_ ?_);all_goals first|(refine hR1 _ ?_;clear hR1 R1)|((first|refine ce (cf (hrc) ?_ (by first|rfl|(simp [go_sem,List.take_of_length_le,List.length_map];done)|fail)));all_goals ((try simp only [go_sem,seval,-List.reduceReplicate,Bool.cond_false_right,Bool.cond_true_left]);(repeat' with_reducible refine And.intro ?_ ?_);all_goals first|(refine hR1 _ ?_;clear hR1 R1)|exact YJ))|exact YJ)
  | ((with_reducible refine Zw ?_);refine hR _ ?_;clear hR R;try simp only [go_sem,QPo,Nat.reduceBEq])
  | (with_reducible first|refine J1 ?_|refine J2 ?_|refine ZL ?_|refine ZS ?_)
  | ((with_reducible refine rg QPo fun R hR=>?_);simp only [go_sem,QC])
  | ((with_reducible first|refine YQ ?_|refine Zv ?_)
     simp only [go_sem,QS,QW,QM,seval]
     first
      | (exact ⟨rfl,rfl⟩)
      | (rfl)
      | (refine ⟨rfl,?_⟩
         simp))
end Go.Eng.Tryz
namespace Go.Eng.Tryz
open Go.RowKit Go.Eng
set_option maxHeartbeats 0
set_option maxRecDepth 20000
structure DInv (p:Prg) (s:Stt) (l:List Int) (i j:Nat) (R:List Int):Prop where
 lt:i<j
 len:R.length=l.length
 num:i=(QHQ p s (l.take j)).length
 tk:R.take i=QHQ p s (l.take j)
 dr:R.drop j=l.drop j
end Go.Eng.Tryz
namespace Go.Eng.Tryz
open Go.RowKit Go.Eng
set_option maxHeartbeats 0
set_option maxRecDepth 20000
theorem QEr {j:Nat} (h:j≤1000):(IntKind.i64.wrap ((j:Int)-1)).toNat=j-1:=by rw [Zj (by omega) (by omega)];omega
theorem QDm {j:Nat} (h:j≤1000) (h0:0<j):IntKind.i64.wrap ((j:Int)-1)=((j-1:Nat):Int):=by rw [Zj (by omega) (by omega)];omega
theorem XP {R:List Access} {k:Nat} (h:k<R.length) (d:V):(R.map Access.v).getD k d=(Xv R k).v:=by
 unfold Xv
 simp [List.getD_eq_getElem?_getD,h]
theorem QNP:∀ n:Fin 8,QNQ n.1=(Zk n.1:Int):=by decide +kernel
theorem QGM (n:Nat) (hn:n≤7):Ctr Go.Proofs.Tryz.prog tab 213 [266] [3] [.int n] [.int (QNQ n)]:=by
 rw [QNP ⟨n,by omega⟩]
 exact QDD n (by omega)
def QLD:List (List Nat):=[[2,3],[2,3,9],[4],[4]]
theorem qY (a b:Access) (ha:WH a) (hb:WH b):Ctr Go.Proofs.Tryz.prog tab 154 [60,60] [3] [a.v,b.v] [.int (QKV a b)]:=by
 refine Ctr.body ok Go.Proofs.Tryz.func154 rfl rfl 20 rfl [.tmp 4] rfl (by simp [QL]) ?_
 simp only [go_sem,Nat.reduceAdd]
 repeat' first
  | ((with_reducible refine Zx fun R1 hR1=>?_);(simp only [go_sem,seval,-List.reduceReplicate,Bool.cond_false_right,Bool.cond_true_left]);(repeat' with_reducible refine And.intro ?_ ?_);all_goals first|(refine hR1 _ ?_;clear hR1 R1)|exact YJ)
  | ((with_reducible refine Zw ?_);refine hR _ ?_;clear hR R;try simp only [go_sem,QLD,Nat.reduceBEq])
  | (with_reducible first|refine J1 ?_|refine J2 ?_|refine J3 ?_|refine ZL ?_|refine ZS ?_)
  | ((with_reducible refine rg QLD fun R hR=>?_);simp only [go_sem,QC])
  | ((with_reducible refine QR 9 rfl (fun hb9=>?_) fun hb9=>?_);all_goals (try simp [-List.getD_eq_getElem?_getD] at hb9;try (exfalso;omega)))
  | ((with_reducible first|refine YQ ?_|refine Zv ?_)
     simp only [go_sem,QS,QW,QM,seval]
     have q:=hb9
     refine ⟨rfl,congrArg (fun e=>some (V.int e)) ?_⟩
     unfold WH at ha hb
     unfold QKV
     rw [Zj (by omega) (by omega)]
     first|rw [if_pos hb9]|rw [if_neg hb9])
def QK5:List (List Nat):=[[0],[2],[2]]
theorem QJ9 (n:Nat) (hn:n≤7):Ctr Go.Proofs.Tryz.prog tab 184 [258] [3] [.int n] [.int (QNQ n)]:=by
 refine Ctr.body ok Go.Proofs.Tryz.func184 rfl rfl 8 rfl [.tmp 2] rfl (by simp [QL]) ?_
 simp only [go_sem,Nat.reduceAdd]
 repeat' first
  | ((with_reducible refine Zx fun R1 hR1=>?_);(simp only [go_sem,seval,-List.reduceReplicate,Bool.cond_false_right,Bool.cond_true_left]);(repeat' with_reducible refine And.intro ?_ ?_);all_goals first|(refine hR1 _ ?_;clear hR1 R1)|((first|refine cq (cc (QGM n hn)) ?_);all_goals ((try simp only [go_sem,seval,-List.reduceReplicate,Bool.cond_false_right,Bool.cond_true_left]);(repeat' with_reducible refine And.intro ?_ ?_);all_goals first|(refine hR1 _ ?_;clear hR1 R1)|exact YJ))|exact YJ)
  | ((with_reducible refine Zw ?_);refine hR _ ?_;clear hR R;try simp only [go_sem,QK5,Nat.reduceBEq])
  | (with_reducible first|refine J1 ?_|refine J2 ?_|refine J3 ?_|refine ZL ?_|refine ZS ?_)
  | ((with_reducible refine rg QK5 fun R hR=>?_);simp only [go_sem,QC])
  | ((with_reducible first|refine SA.condF ?_|refine SA.condT ?_))
  | ((with_reducible first|refine YQ ?_|refine Zv ?_)
     simp only [go_sem,QS,QW,QM,seval]
     exact rfl)
def QAl:List (List Nat):=[[0,1,2,3,8],[0,1,2,3,8,14],[0,1,2,3,8],[0,1,2,3,8,9],[0,1,2,3,8,9,34],[0,1,2,3,8,9],[0,1,2,3,8,9]]
end Go.Eng.Tryz
