/- A part of the proof: walks through the program's functions, and what they compute. -/
import Derived.Test.YtedceinkpkoncaaGreatDoorPk15
set_option linter.unusedSimpArgs false
set_option linter.unusedVariables false
namespace Go.Eng.Tryz
open Go.RowKit Go.Eng
set_option maxHeartbeats 0
set_option maxRecDepth 20000
theorem QAq (l:List Access) (hl7:l.length≤7) {o0 o1 o2:Obj} {tm:Tm} {out:List Tm} {nt:Nat} {xs:List Obj} {K:St→E→Prop} (h:∀ Y:List V,(VS l).length≤Y.length→Y.take (VS l).length=(VS l).map Access.v→K { tm:=tm,ob:=o0::o1::o2::.row 45 (Y)::xs,out:=out,nt:=nt } (.sl 3 45 0 (VS l).length false)):CallE Go.Proofs.Tryz.prog tab { tm:=tm,ob:=o0::o1::o2::.row 45 (l.map Access.v)::xs,out:=out,nt:=nt } 111 [.sl 3 45 0 l.length false] K:=by
 have hmx:256≤maxLen:=by decide
 refine CallE.body ok Go.Proofs.Tryz.func111 rfl rfl 61 rfl [.tmp 2] rfl (by simp) ?_
 simp only [enter,Zl,Nat.zero_add,Nat.reduceAdd]
 repeat' first
  | ((with_reducible refine SARQ.told 6 4 ?_)
     rw [Xh (by omega)])
  | ((with_reducible refine SARQ.told 6 9 ?_)
     rw [hwp])
  | ((with_reducible refine SARQ.told 6 10 ?_)
     rw [Xh (by omega)])
  | ((with_reducible refine SARQ.told 11 4 ?_)
     rw [Xh (by omega)])
  | ((with_reducible refine SARQ.told 11 8 ?_)
     rw [hwp2])
  | ((with_reducible refine SARQ.told 11 9 ?_)
     rw [Xh (by omega)])
  | ((with_reducible refine SARA.told 12 6 ?_)
     rw [Xh (by omega)])
  | ((with_reducible first|refine Q2 fun R1 hR1=>?_|refine xP fun R1 hR1=>?_);(simp only [go_sem,seval,-List.reduceReplicate,Bool.cond_false_right,Bool.cond_true_left,Ui,xu,List.getElem?_cons_succ,List.getElem?_cons_zero,List.set_cons_succ,List.set_cons_zero]);(repeat' with_reducible refine And.intro ?_ ?_);all_goals first|(refine hR1 _ ?_;clear hR1 R1)|omega|rfl|decide|assumption|(intro _;omega)|(simp;done)|(simp [-List.getD_eq_getElem?_getD];omega)|exact hcode _|(intro _;exact hcode _)|exact hsl _|(intro _;exact hsl _)|(rw [hwk];omega)|(rw [hwk2];omega)|(intro _;rw [hwk];omega)|(intro _;rw [hwk2];omega))
  | ((with_reducible first|refine Q1 ?_|refine xO ?_);refine hR _ ?_;clear hR R;try simp only [go_sem,vq,Nat.reduceBEq])
  | (with_reducible first|refine J1 ?_|refine J2 ?_|refine J3 ?_|refine J4 ?_|refine J5 ?_|refine J6 ?_|refine J7 ?_|refine J8 (by decide) ?_|refine J9 ?_|refine WL ?_|refine Q0 ?_|refine Qz ?_|refine YZ ?_|refine WK ?_)
  | ((with_reducible refine QZ 6 ?_)
     have hwk:=QEm (j:=k0) (by omega) (by omega)
     have hwp:=QFo (j:=k0) (by omega)
     (with_reducible refine Vv ok QN (by kernel_rfl) (by kernel_rfl) vq ?_);intro R hR;simp only [go_sem,QC])
  | ((with_reducible refine QZ 11 ?_)
     have hC1:=hC.len
     have hC2:=hC.p2
     have hC3:=hC.kk
     have hwk2:=QEm (j:=k2) (by omega) (by omega)
     have hwp2:=QFo (j:=k2) (by omega)
     (with_reducible refine Vv ok QN (by kernel_rfl) (by kernel_rfl) vq ?_);intro R hR;simp only [go_sem,QC])
  | ((with_reducible refine QZ 14 ?_)
     have hC1:=hC.len
     have hC2:=hC.p2
     have hC3:=hC.kk
     have hC4:=hC.le
     have hC5:=hC.hi
     (with_reducible refine rg vq fun R hR=>?_);simp only [go_sem,QC])
  | ((with_reducible refine QZ 12 ?_)
     have hC4:=hC.le
     have hC5:=hC.hi
     (with_reducible refine rg vq fun R hR=>?_);simp only [go_sem,QC])
  | ((with_reducible refine rg vq fun R hR=>?_);simp only [go_sem,QC])
  | ((with_reducible refine Vv ok QN (by kernel_rfl) (by kernel_rfl) vq ?_);intro R hR;simp only [go_sem,QC])
  | ((with_reducible refine QH 8 rfl (fun hb8=>?_) fun hb8=>?_);all_goals (try simp [-List.getD_eq_getElem?_getD,Ui] at hb8;try (exfalso;omega)))
  | ((with_reducible refine QH 13 rfl (fun hb13=>?_) fun hb13=>?_);all_goals (try simp [-List.getD_eq_getElem?_getD,Ui] at hb13;try (exfalso;omega)))
  | ((with_reducible refine QH 25 rfl (fun hb25=>?_) fun hb25=>?_);all_goals (try simp [-List.getD_eq_getElem?_getD,Ui] at hb25;try (exfalso;omega)))
  | ((with_reducible refine QH 32 rfl (fun hb32=>?_) fun hb32=>?_);all_goals (try simp [-List.getD_eq_getElem?_getD,Ui] at hb32;try (exfalso;omega)))
  | ((with_reducible refine QH 44 rfl (fun hb44=>?_) fun hb44=>?_);all_goals (try simp [-List.getD_eq_getElem?_getD,Ui] at hb44;try (exfalso;omega)))
  | ((with_reducible refine YQ ?_)
     refine Zo (Qq (by first|rfl|(simp;done)|fail)) (YR (fun n τ=>∃ (k0:Nat),n=l.length-k0∧((1≤k0∧k0≤l.length)∧VS (l.take k0)=l.take k0)∧τ={ tm:=[(0,true,.sl 3 45 0 l.length false),(3,true,.int .i64 k0)],ob:=o0::o1::o2::.row 45 (l.map Access.v)::xs,out:=tm::out,nt:=61 }) (l.length-1) ⟨1,rfl,⟨by omega,QHc l⟩,rfl⟩ ?_)
     rintro n τ ⟨k0,hn,⟨hk,hc⟩,rfl⟩)
  | ((with_reducible refine YQ ?_)
     refine Zo (Qq (by first|rfl|(simp;done)|fail)) (YR (fun n τ=>∃ (k:Nat) (k2:Nat) (C:List Access),n=l.length-k0-k2∧(CInv l C k0 k k2)∧τ={ tm:=[(0,true,.sl 3 45 0 l.length false),(3,true,.int .i64 k),(4,true,.sl 3 45 k0 (l.length-k0) false),(5,true,.int .i64 k2)],ob:=o0::o1::o2::.row 45 (C.map Access.v)::xs,out:=tm::out,nt:=61 }) (l.length-k0-1) ⟨k0,1,l,rfl,CInv.first (by omega) (by omega) hc hb25,rfl⟩ ?_)
     rintro n τ ⟨k,k2,C,hn,hC,rfl⟩)
  | ((with_reducible refine WM ?_)
     first
      | (have q:¬Yz l k0=Yz l (k0-1):=hb25
         have hw:=QD (n:=k0) (m:=256) (by omega) (by decide)
         refine Zt (l.length-(k0+1)) _ (by omega) (Qq (by simp only [hw])) ⟨k0+1,rfl,⟨by omega,QJg (by omega) (by omega) hc q⟩,rfl⟩)
      | (have hlt:k0+k2<l.length:=by omega
         have q:¬Yz C (k0+k2)=Yz C (k0+(k2-1)):=hb44
         have hw:=QD (n:=k) (m:=256) (by omega) (by decide)
         have hw2:=QD (n:=k2) (m:=256) (by omega) (by decide)
         refine Zt (l.length-k0-(k2+1)) _ (by omega) (Qq (by simp only [hw,hw2,List.map_set])) ⟨k+1,k2+1,C.set k (Yz C (k0+k2)),rfl,hC.put hlt (by rw [show k0+k2-1=k0+(k2-1) by omega];exact q),rfl⟩)
      | (have hlt:k0+k2<l.length:=by omega
         have q:Yz C (k0+k2)=Yz C (k0+(k2-1)):=hb44
         have hw2:=QD (n:=k2) (m:=256) (by omega) (by decide)
         refine Zt (l.length-k0-(k2+1)) _ (by omega) (Qq (by simp only [hw2])) ⟨k,k2+1,C,rfl,hC.next hlt (by rw [show k0+k2-1=k0+(k2-1) by omega];exact q),rfl⟩))
  | ((with_reducible first|refine xS ?_|refine xR ?_)
     simp only [go_sem,QJ,QK,QG,seval]
     first
      | (have q:=hb8
         have e:VS l=l:=QBu (by omega)
         have q:=h (l.map Access.v) (by rw [e];simp) (by rw [e];simp [List.take_of_length_le])
         rw [e] at q
         exact q)
      | (have q:l.length≤k0:=by omega
         rw [List.take_of_length_le (by omega)] at hc
         have q:=h (l.map Access.v) (by rw [hc];simp) (by rw [hc];simp [List.take_of_length_le])
         rw [hc] at q
         exact q)
      | (have e0:k0+k2=l.length:=by omega
         have e1:=hC.num
         have e2:=hC.tk
         rw [e0,List.take_length] at e1 e2
         have q:=h (List.take k (List.map Access.v C)++List.replicate (l.length-k) (tab.zero 45)++List.drop (k+(l.length-k)) (List.map Access.v C)) (by rw [← e1];simp;omega) (by rw [← e1,List.append_assoc,List.take_append_of_le_length (by simp;omega),List.take_take,Nat.min_self,← List.map_take,e2])
         rw [← e1] at q
         exact q))
end Go.Eng.Tryz
namespace Go.Eng.Tryz
open Go.RowKit Go.Eng
set_option maxHeartbeats 0
set_option maxRecDepth 20000
theorem QLh {p:Prg} {s:Stt} {g:Int} {l Y:List Access} (hs:Smalls l) (hk:SameKey l) (h1:Y.Perm l) (h2:Y.Pairwise (fun a b=>Xm a≤Xm b)) (e:Zp l []=touch p s g):VS Y=touch p s g:=(QIE hs hk h1 h2).trans e
theorem vX (l:List Access) {n:Nat} (hln:l.length=n) (hl7:l.length≤7) {o0 o1 o2:Obj} {tm:Tm} {out:List Tm} {nt:Nat} {xs:List Obj} {K:St→E→Prop} (h:∀ Y:List V,(VS l).length≤Y.length→Y.take (VS l).length=(VS l).map Access.v→K { tm:=tm,ob:=o0::o1::o2::.row 45 (Y)::xs,out:=out,nt:=nt } (.sl 3 45 0 (VS l).length false)):CallE Go.Proofs.Tryz.prog tab { tm:=tm,ob:=o0::o1::o2::.row 45 (l.map Access.v)::xs,out:=out,nt:=nt } 111 [.sl 3 45 0 n false] K:=by
 subst hln
 exact QAq l hl7 h
theorem QH7 {s:Stt} {g k:Int} (h:Xj s g k=true):k≠g:=by
 unfold Xj at h
 simp at h
 exact h.2
theorem QIT {l Y:List Access} (h:Y.Perm l) (hn:l.length≤7):Y.length≤7:=by rw [h.length_eq];exact hn
def QMk:List (List Nat):=[[]]
theorem wA {P S:V} {L:List Access} {k n:Int} {w:Bool} {tm:Tm} {out:List Tm} {nt:Nat} {xs:List Obj} {K:St→E→Prop} (hL:L.length≤1000) (hx:xs.map (Obj.kill 3)=xs) (hk1:Tm.kill 3 tm=tm) (hk2:out.map (Tm.kill 3)=out) (h:K { tm:=tm,ob:=.var 26 (.data 26 P)::.var 37 (.data 37 S)::.var 60 (.sl 3 45 0 (QX L k n w).length false)::.row 45 ((QX L k n w).map Access.v)::(xs++[.row 45 [Access.v ⟨k,n,w⟩]]),out:=out,nt:=nt } (.tup [])):CallE Go.Proofs.Tryz.prog tab { tm:=tm,ob:=.var 26 (.data 26 P)::.var 37 (.data 37 S)::.var 60 (.sl 3 45 0 L.length false)::.row 45 (L.map Access.v)::xs,out:=out,nt:=nt } 107 [.int .i64 k,.int .i64 n,.bool w,.ptr 2 [] 60] K:=by
 have hk1':(tm.map fun x=>(x.1,x.2.1,E.kill 3 x.2.2))=tm:=hk1
 have hmx:5000≤maxLen:=by decide
 refine CallE.body ok Go.Proofs.Tryz.func107 rfl rfl 14 rfl [] rfl (by simp) ?_
 simp only [enter,Zl,Nat.zero_add,Nat.reduceAdd]
 repeat' first
  | ((with_reducible refine Q2 fun R1 hR1=>?_);(simp only [go_sem,seval,-List.reduceReplicate,hk1',hk2,hx,List.getElem?_cons_succ,List.set_cons_succ,List.set_cons_zero,Ue]);(repeat' with_reducible refine And.intro ?_ ?_);all_goals first|(refine hR1 _ ?_;clear hR1 R1)|exact Xk)
  | ((with_reducible refine Q1 ?_);refine hR _ ?_;clear hR R;try simp only [go_sem,QMk,Nat.reduceBEq])
  | (with_reducible first|refine J1 ?_|refine J2 ?_|refine Q0 ?_|refine Qz ?_)
  | ((with_reducible refine rg QMk fun R hR=>?_);simp only [go_sem,QC])
  | ((with_reducible first|refine xS ?_|refine xR ?_)
     simp only [go_sem,QJ,QK,QG,seval]
     have e:(((tab.zero 45).setSub 0 (V.int k)).setSub 1 (V.int n)).setSub 2 (V.bool w)=Access.v ⟨k,n,w⟩:=rfl
     simp only [e]
     simpa [QX,hx,Obj.kill,List.take_of_length_le] using h)
def VI:List (List Nat):=[[2,3,4],[2,3,4,7],[2,3,4,7,8],[2,3,4,7,8],[2,3,4,7,8,9],[2,3,4,7,8,9,22],[2,3,4,7,8,9,22,23],[7],[2,3,4,7,8,9,22,29],[7],[2,3,4,7,8,9,22,35],[7],[2,3,4,7,8,9,22,41],[2,3,4,7,8,9,22,41],[7],[2,3,4,7,8,9,22,48],[2,3,4,7,8,9,22,48],[7],[2,3,4,7,8,9,22,55],[7],[2,3,4,7,8,9,22,61],[2,3,4,7,8,9,22,61],[2,3,4,7,8,9,22,61],[7],[2,3,4,7,8,9,22,69],[7],[2,3,4,7,8,9,22,75],[7,8,91,92,93],[7,8,91,92,93,94],[7,8,11,91,92,93],[7,8,91,92,93],[7,8,91,92,93],[2,4,7,8,9,22,102],[4,7,8],[4,7,8,108],[7],[2,4,7,8,9,22,113],[2,4,7,8,9],[2,4,7,8,12],[7,8,12,128],[7],[7,8,132],[7],[7],[6]]
theorem Vf (p:Prg) (s:Stt) (g:Int) (hp:p.Fit) (hr:QP p=true) (hv:Vld p s) (hg:0≤g∧g<s.count):Ctr Go.Proofs.Tryz.prog tab 65 [26,37,3] [60] [p.v,s.v,.int g] [.list ((touch p s g).map Access.v)]:=by
 have hw:=hv.wf (Prg.ok hr) hr
 have hpp:=hp
 have hok:=Prg.ok hr
 have hs:=hw.shape
 have hcnt:=hw.count
 have hcode:=p.code_len hp
 have hsl:=p.sels_len hp
 obtain ⟨hp1,hp2,hp3,hp4⟩:=hp
 have hs1:=hs.vars
 have hs2:=hs.owner
 have hs3:=hs.chans
 have hs5:=hs.gos
 have hsz:=hok.sizes
 unfold Ze at hsz
 have hmx:256≤maxLen:=by decide
 have hgi:=hw.gos g (by omega) (by omega)
 have hgf:=hgi.f0
 have hgf1:=hgi.f1
 have hgp:=hgi.p0
 have hgp1:=hgi.p1
 have h8:=hgi.regs
 have hrt:QV p (p.funcs.getD (s.gos.getD g.toNat default).func.toNat default) (QA p s g)=0:=hw.right hok hg.1 hg.2
 have hrg:=hok.regs (s.gos.getD g.toNat default).func.toNat
 have hg6:g<6:=by omega
 refine Ctr.body ok Go.Proofs.Tryz.func65 rfl rfl 140 rfl [.tmp 6] rfl (by simp [QE]) ?_
 simp only [go_sem,Nat.reduceAdd]
 repeat' first
  | ((with_reducible refine SARQ.told 27 8 ?_)
     rw [XB (by omega)])
  | ((with_reducible refine SARQ.told 27 13 ?_)
     rw [XA (by omega)])
  | ((with_reducible refine SARA.told 29 2 ?_)
     rw [Wj (by omega)])
  | ((with_reducible first|refine Q2 fun R1 hR1=>?_|refine xP fun R1 hR1=>?_);(simp only [go_sem,seval,-List.reduceReplicate,Bool.cond_false_right,Bool.cond_true_left,VA,qK,zo]);(repeat' with_reducible refine And.intro ?_ ?_);all_goals first|(refine hR1 _ ?_;clear hR1 R1)|((first|refine ⟨_,_,rfl,_,CallQ.ctr ok (Xt p s g hpp hr hw hg) (by first|rfl|(simp [go_sem];done)|fail) rfl,?_⟩|refine cq (cc (Xt p s g hpp hr hw hg)) ?_|refine ⟨_,_,rfl,_,CallQ.ctr ok (XP s g _ hs) (by first|rfl|(simp [go_sem];done)|fail) rfl,?_⟩|refine cq (cc (XP s g _ hs)) ?_|refine ⟨_,_,rfl,.inr (wA (by simp only [Z5,Ya];first|omega|decide) rfl rfl rfl ?_)⟩|refine ⟨_,_,rfl,.inr (wA (by omega) rfl rfl rfl ?_)⟩|refine ⟨_,_,rfl,.inr (QE2 _ hS hn7 fun Y hY1 hY2=>?_)⟩|refine ⟨_,_,rfl,.inr (vX Y hY1.length_eq (QIT hY1 hn7) fun Z hZ1 hZ2=>?_)⟩);all_goals ((try simp only [go_sem,seval,-List.reduceReplicate,Bool.cond_false_right,Bool.cond_true_left,VA,qK,zo]);(repeat' with_reducible refine And.intro ?_ ?_);all_goals first|(refine hR1 _ ?_;clear hR1 R1)|exact Xk))|exact Xk)
  | ((with_reducible first|refine Q1 ?_|refine xO ?_);refine hR _ ?_;clear hR R;try simp only [go_sem,VI,Nat.reduceBEq])
  | (with_reducible first|refine J1 ?_|refine J2 ?_|refine J3 ?_|refine J4 ?_|refine J5 ?_|refine J6 ?_|refine J7 ?_|refine J8 (by decide) ?_|refine J9 ?_|refine WL ?_|refine Q0 ?_|refine Qz ?_|refine YZ ?_|refine WK ?_)
  | ((with_reducible refine QZ 7 ?_)
     have hI:=(QDZ hrt (hw.op_at hok hg.1 hg.2 hb23 (by decide))).2
     have hS:Smalls (QX (QX tl0 5 g true) 1 (QA p s g).b false):=(Smalls.nil.app true (by omega) (by omega)).app false (by omega) (by omega)
     have hK:SameKey (QX (QX tl0 5 g true) 1 (QA p s g).b false):=SameKey.two (by decide)
     have hn7:(QX (QX tl0 5 g true) 1 (QA p s g).b false).length≤7:=by simp only [Z5,Ya];omega
     (with_reducible refine rg VI fun R hR=>?_);simp only [go_sem,QC])
  | ((with_reducible refine QZ 9 ?_)
     have hI:=(QA5 hrt (hw.op_at hok hg.1 hg.2 hb29 (by decide))).1
     have hS:Smalls (QX (QX tl0 5 g true) 1 (QA p s g).a false):=(Smalls.nil.app true (by omega) (by omega)).app false (by omega) (by omega)
     have hK:SameKey (QX (QX tl0 5 g true) 1 (QA p s g).a false):=SameKey.two (by decide)
     have hn7:(QX (QX tl0 5 g true) 1 (QA p s g).a false).length≤7:=by simp only [Z5,Ya];omega
     (with_reducible refine rg VI fun R hR=>?_);simp only [go_sem,QC])
  | ((with_reducible refine QZ 11 ?_)
     have hI:=(QDY hrt (hw.op_at hok hg.1 hg.2 hb35 (by decide))).1
     have hS:Smalls (QX (QX tl0 5 g true) 1 (QA p s g).a true):=(Smalls.nil.app true (by omega) (by omega)).app true (by omega) (by omega)
     have hK:SameKey (QX (QX tl0 5 g true) 1 (QA p s g).a true):=SameKey.two (by decide)
     have hn7:(QX (QX tl0 5 g true) 1 (QA p s g).a true).length≤7:=by simp only [Z5,Ya];omega
     (with_reducible refine rg VI fun R hR=>?_);simp only [go_sem,QC])
  | ((with_reducible refine QZ 14 ?_)
     have hI:0≤(QA p s g).b∧(QA p s g).b<(p.vars.length:Int):=by first|exact (QDX hrt (hw.op_at hok hg.1 hg.2 hb41 (by decide))).2.1|exact (QDW hrt (hw.op_at hok hg.1 hg.2 hb41 (by decide))).2.1
     have hS:Smalls (QX (QX tl0 5 g true) 1 (QA p s g).b true):=(Smalls.nil.app true (by omega) (by omega)).app true (by omega) (by omega)
     have hK:SameKey (QX (QX tl0 5 g true) 1 (QA p s g).b true):=SameKey.two (by decide)
     have hn7:(QX (QX tl0 5 g true) 1 (QA p s g).b true).length≤7:=by simp only [Z5,Ya];omega
     (with_reducible refine rg VI fun R hR=>?_);simp only [go_sem,QC])
  | ((with_reducible refine QZ 17 ?_)
     have hI:=qY hrt (by first|exact .inl (hw.op_at hok hg.1 hg.2 hb48 (by decide))|exact .inr (hw.op_at hok hg.1 hg.2 hb48 (by decide)))
     have hS:Smalls (QX (QX tl0 5 g true) 2 (QA p s g).a true):=(Smalls.nil.app true (by omega) (by omega)).app true (by omega) (by omega)
     have hK:SameKey (QX (QX tl0 5 g true) 2 (QA p s g).a true):=SameKey.two (by decide)
     have hn7:(QX (QX tl0 5 g true) 2 (QA p s g).a true).length≤7:=by simp only [Z5,Ya];omega
     (with_reducible refine rg VI fun R hR=>?_);simp only [go_sem,QC])
  | ((with_reducible refine QZ 19 ?_)
     have hI:=(QDV hrt (hw.op_at hok hg.1 hg.2 hb55 (by decide))).2
     have hS:Smalls (QX (QX tl0 5 g true) 2 (QA p s g).b true):=(Smalls.nil.app true (by omega) (by omega)).app true (by omega) (by omega)
     have hK:SameKey (QX (QX tl0 5 g true) 2 (QA p s g).b true):=SameKey.two (by decide)
     have hn7:(QX (QX tl0 5 g true) 2 (QA p s g).b true).length≤7:=by simp only [Z5,Ya];omega
     (with_reducible refine rg VI fun R hR=>?_);simp only [go_sem,QC])
  | ((with_reducible refine QZ 23 ?_)
     have hI:0≤(QA p s g).a∧(QA p s g).a<(p.chans.length:Int):=by first|exact (VU hrt (hw.op_at hok hg.1 hg.2 hb61 (by decide))).1|exact QDU hrt (hw.op_at hok hg.1 hg.2 hb61 (by decide))|exact (VU hrt (hw.op66 hok hg.1 hg.2 hb61)).1
     have hS:Smalls (QX (QX tl0 5 g true) 3 (QA p s g).a true):=(Smalls.nil.app true (by omega) (by omega)).app true (by omega) (by omega)
     have hK:SameKey (QX (QX tl0 5 g true) 3 (QA p s g).a true):=SameKey.two (by decide)
     have hn7:(QX (QX tl0 5 g true) 3 (QA p s g).a true).length≤7:=by simp only [Z5,Ya];omega
     (with_reducible refine rg VI fun R hR=>?_);simp only [go_sem,QC])
  | ((with_reducible refine QZ 25 ?_)
     have hI:=(yU hrt (hw.op_at hok hg.1 hg.2 hb69 (by decide))).2.1
     have hS:Smalls (QX (QX tl0 5 g true) 3 (QA p s g).b true):=(Smalls.nil.app true (by omega) (by omega)).app true (by omega) (by omega)
     have hK:SameKey (QX (QX tl0 5 g true) 3 (QA p s g).b true):=SameKey.two (by decide)
     have hn7:(QX (QX tl0 5 g true) 3 (QA p s g).b true).length≤7:=by simp only [Z5,Ya];omega
     (with_reducible refine rg VI fun R hR=>?_);simp only [go_sem,QC])
  | ((with_reducible refine QZ 27 ?_)
     have hI:=V0 hrt (hw.op_at hok hg.1 hg.2 hb75 (by decide))
     have hsh:=hok.short (s.gos.getD g.toNat default).func.toNat (QA p s g).a.toNat (by omega)
     (with_reducible refine Vv ok QN (by kernel_rfl) (by kernel_rfl) VI ?_);intro R hR;simp only [go_sem,QC])
  | ((with_reducible refine QZ 28 ?_)
     have hq:∀ i,i<((p.funcs.getD (s.gos.getD g.toNat default).func.toNat default).sels.getD (QA p s g).a.toNat default).cases.length→0≤(((p.funcs.getD (s.gos.getD g.toNat default).func.toNat default).sels.getD (QA p s g).a.toNat default).cases.getD i default).chan∧(((p.funcs.getD (s.gos.getD g.toNat default).func.toNat default).sels.getD (QA p s g).a.toNat default).cases.getD i default).chan<4:=fun i hi=>by
      have hC:=UC hok (i:=(s.gos.getD g.toNat default).func.toNat) (j:=(QA p s g).a.toNat) (k:=i) (by omega) (by omega) hi
      exact ⟨hC.chan.1,by have:=hC.chan.2;omega⟩
     have hS:Smalls (chs (QX tl0 5 g true) ((p.funcs.getD (s.gos.getD g.toNat default).func.toNat default).sels.getD (QA p s g).a.toNat default) i):=Smalls.chs (Smalls.nil.app true (by omega) (by omega)) hq i
     have hK:SameKey (chs (QX tl0 5 g true) ((p.funcs.getD (s.gos.getD g.toNat default).func.toNat default).sels.getD (QA p s g).a.toNat default) i):=SameKey.chs i
     have hcl:(chs (QX tl0 5 g true) ((p.funcs.getD (s.gos.getD g.toNat default).func.toNat default).sels.getD (QA p s g).a.toNat default) i).length=1+i:=by rw [QLQ _ _ _ hi,Z5,Ya]
     have hn7:(chs (QX tl0 5 g true) ((p.funcs.getD (s.gos.getD g.toNat default).func.toNat default).sels.getD (QA p s g).a.toNat default) i).length≤7:=by omega
     (with_reducible refine rg VI fun R hR=>?_);simp only [go_sem,QC])
  | ((with_reducible refine QZ 33 ?_)
     have hS:Smalls (QX (QX tl0 5 g true) 4 0 true):=(Smalls.nil.app true (by omega) (by omega)).app true (by omega) (by omega)
     have hK:SameKey (QX (QX tl0 5 g true) 4 0 true):=SameKey.two (by decide)
     have hn7:(QX (QX tl0 5 g true) 4 0 true).length≤7:=by simp only [Z5,Ya];omega
     (with_reducible refine rg VI fun R hR=>?_);simp only [go_sem,QC])
  | ((with_reducible refine QZ 35 ?_)
     have hS:Smalls (QX (QX (QX tl0 5 g true) 4 0 true) 5 s.count true):=((Smalls.nil.app true (by omega) (by omega)).app true (by omega) (by omega)).app true (by omega) (by omega)
     have hK:SameKey (QX (QX (QX tl0 5 g true) 4 0 true) 5 s.count true):=SameKey.three (by decide) (.inr rfl)
     have hn7:(QX (QX (QX tl0 5 g true) 4 0 true) 5 s.count true).length≤7:=by simp only [Z5,Ya];omega
     (with_reducible refine rg VI fun R hR=>?_);simp only [go_sem,QC])
  | ((with_reducible refine QZ 37 ?_)
     have hI:=zc hrt (.inl (hw.op_at hok hg.1 hg.2 hb113 (by decide)))
     have hS:Smalls (QX (QX tl0 5 g true) 4 0 false):=(Smalls.nil.app true (by omega) (by omega)).app false (by omega) (by omega)
     have hK:SameKey (QX (QX tl0 5 g true) 4 0 false):=SameKey.two (by decide)
     have hn7:(QX (QX tl0 5 g true) 4 0 false).length≤7:=by simp only [Z5,Ya];omega
     (with_reducible refine rg VI fun R hR=>?_);simp only [go_sem,QC])
  | ((with_reducible refine QZ 40 ?_)
     have hth:=qb hcnt.2 hb128
     have hS:Smalls (QX (QX (QX tl0 5 g true) 4 0 false) 5 ((s.gos.getD g.toNat default).regs.getD (QA p s g).a.toNat 0) false):=((Smalls.nil.app true (by omega) (by omega)).app false (by omega) (by omega)).app false (by omega) (by omega)
     have hK:SameKey (QX (QX (QX tl0 5 g true) 4 0 false) 5 ((s.gos.getD g.toNat default).regs.getD (QA p s g).a.toNat 0) false):=SameKey.three (by decide) (.inl (QH7 hb128))
     have hn7:(QX (QX (QX tl0 5 g true) 4 0 false) 5 ((s.gos.getD g.toNat default).regs.getD (QA p s g).a.toNat 0) false).length≤7:=by simp only [Z5,Ya];omega
     (with_reducible refine rg VI fun R hR=>?_);simp only [go_sem,QC])
  | ((with_reducible refine QZ 42 ?_)
     have hS:Smalls (QX (QX tl0 5 g true) 6 0 true):=(Smalls.nil.app true (by omega) (by omega)).app true (by omega) (by omega)
     have hK:SameKey (QX (QX tl0 5 g true) 6 0 true):=SameKey.two (by decide)
     have hn7:(QX (QX tl0 5 g true) 6 0 true).length≤7:=by simp only [Z5,Ya];omega
     (with_reducible refine rg VI fun R hR=>?_);simp only [go_sem,QC])
  | ((with_reducible refine QZ 4 ?_)
     have hS:Smalls (QX tl0 5 g true):=(Smalls.nil.app true (by omega) (by omega))
     have hK:SameKey (QX tl0 5 g true):=SameKey.one g
     have hn7:(QX tl0 5 g true).length≤7:=by simp only [Z5,Ya];omega
     (with_reducible refine rg VI fun R hR=>?_);simp only [go_sem,QC])
  | ((with_reducible refine QZ 13 ?_)
     have hh52:=hb41
     (with_reducible refine rg VI fun R hR=>?_);simp only [go_sem,QC])
  | ((with_reducible refine QZ 16 ?_)
     have hh55:=hb48
     (with_reducible refine rg VI fun R hR=>?_);simp only [go_sem,QC])
  | ((with_reducible refine QZ 21 ?_)
     have hh58:=hb61
     (with_reducible refine rg VI fun R hR=>?_);simp only [go_sem,QC])
  | ((with_reducible refine QZ 22 ?_)
     have hh60:=hb61
     (with_reducible refine rg VI fun R hR=>?_);simp only [go_sem,QC])
  | ((with_reducible refine QZ 3 ?_)
     refine Zo ((St.le.ownVar 2 (e:=45) rfl).trans (Qq (show _=({ tm:=[(2,true,.int .i64 g),(3,true,.ptr 0 [] 26),(4,true,.ptr 1 [] 37),(7,true,.ptr 2 [] 60),(8,true,.fn 107 [.ptr 2 [] 60])],ob:=.var 26 (.data 26 p.v)::.var 37 (.data 37 s.v)::.var 60 (.sl 3 45 0 tl0.length false)::.row 45 (tl0.map Access.v)::[],out:=[],nt:=140 }:St) from rfl))) ?_
     (with_reducible refine rg VI fun R hR=>?_);simp only [go_sem,QC])
  | ((with_reducible refine rg VI fun R hR=>?_);simp only [go_sem,QC])
  | ((with_reducible refine Vv ok QN (by kernel_rfl) (by kernel_rfl) VI ?_);intro R hR;simp only [go_sem,QC])
  | ((with_reducible refine QH 23 rfl (fun hb23=>?_) fun hb23=>?_);all_goals (try simp [-List.getD_eq_getElem?_getD] at hb23;try (exfalso;omega)))
  | ((with_reducible refine QH 29 rfl (fun hb29=>?_) fun hb29=>?_);all_goals (try simp [-List.getD_eq_getElem?_getD] at hb29;try (exfalso;omega)))
  | ((with_reducible refine QH 35 rfl (fun hb35=>?_) fun hb35=>?_);all_goals (try simp [-List.getD_eq_getElem?_getD] at hb35;try (exfalso;omega)))
  | ((with_reducible refine QH 41 rfl (fun hb41=>?_) fun hb41=>?_);all_goals (try simp [-List.getD_eq_getElem?_getD] at hb41;try (exfalso;omega)))
  | ((with_reducible refine QH 48 rfl (fun hb48=>?_) fun hb48=>?_);all_goals (try simp [-List.getD_eq_getElem?_getD] at hb48;try (exfalso;omega)))
  | ((with_reducible refine QH 55 rfl (fun hb55=>?_) fun hb55=>?_);all_goals (try simp [-List.getD_eq_getElem?_getD] at hb55;try (exfalso;omega)))
  | ((with_reducible refine QH 61 rfl (fun hb61=>?_) fun hb61=>?_);all_goals (try simp [-List.getD_eq_getElem?_getD] at hb61;try (exfalso;omega)))
  | ((with_reducible refine QH 69 rfl (fun hb69=>?_) fun hb69=>?_);all_goals (try simp [-List.getD_eq_getElem?_getD] at hb69;try (exfalso;omega)))
  | ((with_reducible refine QH 75 rfl (fun hb75=>?_) fun hb75=>?_);all_goals (try simp [-List.getD_eq_getElem?_getD] at hb75;try (exfalso;omega)))
  | ((with_reducible refine QH 102 rfl (fun hb102=>?_) fun hb102=>?_);all_goals (try simp [-List.getD_eq_getElem?_getD] at hb102;try (exfalso;omega)))
  | ((with_reducible refine QH 108 rfl (fun hb108=>?_) fun hb108=>?_);all_goals (try simp [-List.getD_eq_getElem?_getD] at hb108;try (exfalso;omega)))
  | ((with_reducible refine QH 113 rfl (fun hb113=>?_) fun hb113=>?_);all_goals (try simp [-List.getD_eq_getElem?_getD] at hb113;try (exfalso;omega)))
  | ((with_reducible refine QH 128 rfl (fun hb128=>?_) fun hb128=>?_);all_goals (try simp [-List.getD_eq_getElem?_getD] at hb128;try (exfalso;omega)))
  | ((with_reducible refine QH 132 rfl (fun hb132=>?_) fun hb132=>?_);all_goals (try simp [-List.getD_eq_getElem?_getD] at hb132;try (exfalso;omega)))
  | ((with_reducible refine SA.cond rfl ?_ ?_)
     all_goals
      intro hb
      try simp [-List.getD_eq_getElem?_getD] at hb
      try (exfalso;omega))
  | ((with_reducible refine YQ ?_)
     refine Zo (Qq (by (rw [QJk];rfl))) (YR (fun n τ=>∃ (i:Nat),n=((p.funcs.getD (s.gos.getD g.toNat default).func.toNat default).sels.getD (QA p s g).a.toNat default).cases.length-i∧(i≤((p.funcs.getD (s.gos.getD g.toNat default).func.toNat default).sels.getD (QA p s g).a.toNat default).cases.length)∧τ={ tm:=[(7,true,.ptr 2 [] 60),(8,true,.fn 107 [.ptr 2 [] 60]),(91,true,.fs 156 (((p.funcs.getD (s.gos.getD g.toNat default).func.toNat default).sels.getD (QA p s g).a.toNat default).cases.map Cas.v) false),(92,true,.int .i64 ((p.funcs.getD (s.gos.getD g.toNat default).func.toNat default).sels.getD (QA p s g).a.toNat default).cases.length),(93,true,.int .i64 i)],ob:=[.var 26 (.data 26 p.v),.var 37 (.data 37 s.v),.var 60 (.sl 3 45 0 (chs (QX tl0 5 g true) ((p.funcs.getD (s.gos.getD g.toNat default).func.toNat default).sels.getD (QA p s g).a.toNat default) i).length false),.row 45 ((chs (QX tl0 5 g true) ((p.funcs.getD (s.gos.getD g.toNat default).func.toNat default).sels.getD (QA p s g).a.toNat default) i).map Access.v),.row 45 [Access.v ⟨5,g,true⟩],.var 129 (.data 129 (atI p s g).v)],out:=[],nt:=140 }) (((p.funcs.getD (s.gos.getD g.toNat default).func.toNat default).sels.getD (QA p s g).a.toNat default).cases.length) ⟨0,rfl,by omega,rfl⟩ ?_)
     rintro n τ ⟨i,hn,hi,rfl⟩)
  | ((with_reducible refine WM ?_)
     first
      | (have hlt:i<((p.funcs.getD (s.gos.getD g.toNat default).func.toNat default).sels.getD (QA p s g).a.toNat default).cases.length:=by omega
         have hw:=QD (n:=i) (m:=256) (by omega) (by decide)
         refine Zt (((p.funcs.getD (s.gos.getD g.toNat default).func.toNat default).sels.getD (QA p s g).a.toNat default).cases.length-(i+1)) _ (by omega) ((WN 6 rfl).trans (Qq (by rw [QJl _ _ hlt];simp only [hw,List.take_succ_cons,List.take_zero]))) ⟨i+1,rfl,hlt,rfl⟩))
  | ((with_reducible first|refine ZH ?_|refine ZG ?_)
     simp only [go_sem,QJ,QK,QG,seval]
     first
      | (have q:=hcl
         have hi':i=((p.funcs.getD (s.gos.getD g.toNat default).func.toNat default).sels.getD (QA p s g).a.toNat default).cases.length:=Nat.le_antisymm hi hb
         have e:=t61 (p:=p) (s:=s) (g:=g) hb75
         refine ⟨rfl,?_,fun _ h=>absurd h (by simp)⟩
         rw [hZ2,QLh hS hK hY1 hY2 (by rw [hi'];exact e)])
      | (refine ⟨rfl,?_,fun _ h=>absurd h (by simp)⟩
         rw [hZ2,QLh hS hK hY1 hY2 (by first|exact t50 hb23|exact t54 hb29|exact t51 hb35|exact t52 (.inl hb41)|exact t52 (.inr hb41)|exact t55 (.inl hb48)|exact t55 (.inr hb48)|exact t57 hb55|exact t58 (.inl hb61)|exact t58 (.inr (.inl hb61))|exact t58 (.inr (.inr hb61))|exact t59 hb69|(have hi':i=((p.funcs.getD (s.gos.getD g.toNat default).func.toNat default).sels.getD (QA p s g).a.toNat default).cases.length:=by omega;subst hi';exact t61 hb75)|exact t62 hb102 hb108|exact QRX hb102 (by omega)|exact t63 hb113 hb128|exact QRW hb113 hb128|exact t65 hb132|exact QNI hb23 hb29 hb35 hh52 hb41 hh55 hb48 hb55 hh58 hh60 hb61 hb69 hb75 hb102 hb113 hb132)]))
end Go.Eng.Tryz
namespace Go.Eng.Tryz
open Go.RowKit Go.Eng
set_option maxHeartbeats 0
set_option maxRecDepth 20000
def QOD:List (List Nat):=[[0],[2]]
theorem zP (p:Prg) (s:Stt) (g:Int) (hg:0≤g∧g<6) (hs5:s.gos.length=6) (fuel val:Int) (failed:Bool)  {o0 o1 o2 o3 o4 o5 o6:Obj} {tm:Tm} {out:List Tm} {nt:Nat} {xs:List Obj} {K:St→E→Prop} (h:K { tm:=tm,ob:=o0::o1::o2::o3::o4::o5::o6::.var 133 (.data 133 (machV p s g fuel val failed))::xs,out:=out,nt:=nt } (.ptr 7 [g.toNat,3,1] 34)):CallE Go.Proofs.Tryz.prog tab { tm:=tm,ob:=o0::o1::o2::o3::o4::o5::o6::.var 133 (.data 133 (machV p s g fuel val failed))::xs,out:=out,nt:=nt } 67 [.ptr 7 [] 133] K:=by
 refine CallE.body ok Go.Proofs.Tryz.func67 rfl rfl 12 rfl [.tmp 2] rfl (by simp) ?_
 simp only [enter,Zl,Nat.zero_add,Nat.reduceAdd]
 repeat' first
  | ((with_reducible first|refine Q2 fun R1 hR1=>?_|refine xP fun R1 hR1=>?_);(simp only [go_sem,seval,-List.reduceReplicate,Bool.cond_false_right,Bool.cond_true_left,List.getElem?_cons_succ,List.getElem?_cons_zero,List.set_cons_succ,List.set_cons_zero,machV.s1,machV.s4,machV.s5,machV.v0,machV.v1,machV.v2,machV.v3,machV.v4,machV.v5]);(repeat' with_reducible refine And.intro ?_ ?_);all_goals first|(refine hR1 _ ?_;clear hR1 R1)|exact ZQ)
  | ((with_reducible first|refine Q1 ?_|refine xO ?_);refine hR _ ?_;clear hR R;try simp only [go_sem,QOD,Nat.reduceBEq])
  | (with_reducible first|refine J1 ?_|refine J2 ?_|refine Q0 ?_|refine Qz ?_)
  | ((with_reducible refine rg QOD fun R hR=>?_);simp only [go_sem,QC])
  | ((with_reducible refine Vv ok QN (by kernel_rfl) (by kernel_rfl) QOD ?_);intro R hR;simp only [go_sem,QC])
  | ((with_reducible first|refine xS ?_|refine xR ?_)
     simp only [go_sem,QJ,QK,QG,seval]
     exact h)
def QMg:List (List Nat):=[[0,1,2,7],[]]
end Go.Eng.Tryz
