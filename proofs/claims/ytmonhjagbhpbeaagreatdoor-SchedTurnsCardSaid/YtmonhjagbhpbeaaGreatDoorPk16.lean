/- A part of the proof: walks through the program's functions, and what they compute. -/
import Derived.Test.YtmonhjagbhpbeaaGreatDoorPk15
set_option linter.unusedSimpArgs false
set_option linter.unusedVariables false
namespace Go.Eng.Tryz
open Go.RowKit Go.Eng
set_option maxHeartbeats 0
set_option maxRecDepth 20000
theorem QCD (l:List Access) (hl7:l.length≤7) {o0 o1 o2:Obj} {tm:Tm} {out:List Tm} {nt:Nat} {xs:List Obj} {K:St→E→Prop} (h:∀ Y:List V,(Vk l).length≤Y.length→Y.take (Vk l).length=(Vk l).map Access.v→K { tm:=tm,ob:=o0::o1::o2::.row 60 (Y)::xs,out:=out,nt:=nt } (.sl 3 60 0 (Vk l).length false)):CallE Go.Proofs.Tryz.prog tab { tm:=tm,ob:=o0::o1::o2::.row 60 (l.map Access.v)::xs,out:=out,nt:=nt } 155 [.sl 3 60 0 l.length false] K:=by
 have hmx:256≤maxLen:=by decide
 refine CallE.body ok Go.Proofs.Tryz.func155 rfl rfl 61 rfl [.tmp 2] rfl (by simp) ?_
 simp only [enter,Zf,Nat.zero_add,Nat.reduceAdd]
 repeat' first
  | ((with_reducible refine SARQ.told 6 4 ?_)
     rw [Xs (by omega)])
  | ((with_reducible refine SARQ.told 6 9 ?_)
     rw [hwp])
  | ((with_reducible refine SARQ.told 6 10 ?_)
     rw [Xs (by omega)])
  | ((with_reducible refine SARQ.told 11 4 ?_)
     rw [Xs (by omega)])
  | ((with_reducible refine SARQ.told 11 8 ?_)
     rw [hwp2])
  | ((with_reducible refine SARQ.told 11 9 ?_)
     rw [Xs (by omega)])
  | ((with_reducible refine SARA.told 12 6 ?_)
     rw [Xs (by omega)])
  | ((with_reducible first|refine Q5 fun R1 hR1=>?_|refine yb fun R1 hR1=>?_);(simp only [go_sem,seval,-List.reduceReplicate,Bool.cond_false_right,Bool.cond_true_left,U8,QEd,List.getElem?_cons_succ,List.getElem?_cons_zero,List.set_cons_succ,List.set_cons_zero]);(repeat' with_reducible refine And.intro ?_ ?_);all_goals first|(refine hR1 _ ?_;clear hR1 R1)|omega|rfl|decide|assumption|(intro _;omega)|(simp;done)|(simp [-List.getD_eq_getElem?_getD];omega)|exact hcode _|(intro _;exact hcode _)|exact hsl _|(intro _;exact hsl _)|(rw [hwk];omega)|(rw [hwk2];omega)|(intro _;rw [hwk];omega)|(intro _;rw [hwk2];omega))
  | ((with_reducible first|refine Q4 ?_|refine ya ?_);refine hR _ ?_;clear hR R;try simp only [go_sem,QBJ,Nat.reduceBEq])
  | (with_reducible first|refine J1 ?_|refine J2 ?_|refine J3 ?_|refine J4 ?_|refine J5 ?_|refine J6 ?_|refine J7 ?_|refine J8 (by decide) ?_|refine J9 ?_|refine Xu ?_|refine Q2 ?_|refine Q1 ?_|refine Yc ?_|refine Xt ?_)
  | ((with_reducible refine Qe 6 ?_)
     have hwk:=QGD (j:=k0) (by omega) (by omega)
     have hwp:=QHQ (j:=k0) (by omega)
     (with_reducible refine Ve ok QQ (by kernel_rfl) (by kernel_rfl) QBJ ?_);intro R hR;simp only [go_sem,QC])
  | ((with_reducible refine Qe 11 ?_)
     have hC1:=hC.len
     have hC2:=hC.p2
     have hC3:=hC.kk
     have hwk2:=QGD (j:=k2) (by omega) (by omega)
     have hwp2:=QHQ (j:=k2) (by omega)
     (with_reducible refine Ve ok QQ (by kernel_rfl) (by kernel_rfl) QBJ ?_);intro R hR;simp only [go_sem,QC])
  | ((with_reducible refine Qe 14 ?_)
     have hC1:=hC.len
     have hC2:=hC.p2
     have hC3:=hC.kk
     have hC4:=hC.le
     have hC5:=hC.hi
     (with_reducible refine rg QBJ fun R hR=>?_);simp only [go_sem,QC])
  | ((with_reducible refine Qe 12 ?_)
     have hC4:=hC.le
     have hC5:=hC.hi
     (with_reducible refine rg QBJ fun R hR=>?_);simp only [go_sem,QC])
  | ((with_reducible refine rg QBJ fun R hR=>?_);simp only [go_sem,QC])
  | ((with_reducible refine Ve ok QQ (by kernel_rfl) (by kernel_rfl) QBJ ?_);intro R hR;simp only [go_sem,QC])
  | ((with_reducible refine QI 8 rfl (fun hb8=>?_) fun hb8=>?_);all_goals (try simp [-List.getD_eq_getElem?_getD,U8] at hb8;try (exfalso;omega)))
  | ((with_reducible refine QI 13 rfl (fun hb13=>?_) fun hb13=>?_);all_goals (try simp [-List.getD_eq_getElem?_getD,U8] at hb13;try (exfalso;omega)))
  | ((with_reducible refine QI 25 rfl (fun hb25=>?_) fun hb25=>?_);all_goals (try simp [-List.getD_eq_getElem?_getD,U8] at hb25;try (exfalso;omega)))
  | ((with_reducible refine QI 32 rfl (fun hb32=>?_) fun hb32=>?_);all_goals (try simp [-List.getD_eq_getElem?_getD,U8] at hb32;try (exfalso;omega)))
  | ((with_reducible refine QI 44 rfl (fun hb44=>?_) fun hb44=>?_);all_goals (try simp [-List.getD_eq_getElem?_getD,U8] at hb44;try (exfalso;omega)))
  | ((with_reducible refine Ya ?_)
     refine Zv (Qo (by first|rfl|(simp;done)|fail)) (Yb (fun n τ=>∃ (k0:Nat),n=l.length-k0∧((1≤k0∧k0≤l.length)∧Vk (l.take k0)=l.take k0)∧τ={ tm:=[(0,true,.sl 3 60 0 l.length false),(3,true,.int .i64 k0)],ob:=o0::o1::o2::.row 60 (l.map Access.v)::xs,out:=tm::out,nt:=61 }) (l.length-1) ⟨1,rfl,⟨by omega,QJl l⟩,rfl⟩ ?_)
     rintro n τ ⟨k0,hn,⟨hk,hc⟩,rfl⟩)
  | ((with_reducible refine Ya ?_)
     refine Zv (Qo (by first|rfl|(simp;done)|fail)) (Yb (fun n τ=>∃ (k:Nat) (k2:Nat) (C:List Access),n=l.length-k0-k2∧(CInv l C k0 k k2)∧τ={ tm:=[(0,true,.sl 3 60 0 l.length false),(3,true,.int .i64 k),(4,true,.sl 3 60 k0 (l.length-k0) false),(5,true,.int .i64 k2)],ob:=o0::o1::o2::.row 60 (C.map Access.v)::xs,out:=tm::out,nt:=61 }) (l.length-k0-1) ⟨k0,1,l,rfl,CInv.first (by omega) (by omega) hc hb25,rfl⟩ ?_)
     rintro n τ ⟨k,k2,C,hn,hC,rfl⟩)
  | ((with_reducible refine WC ?_)
     first
      | (have q:¬XB l k0=XB l (k0-1):=hb25
         have hw:=QD (n:=k0) (m:=256) (by omega) (by decide)
         refine Z0 (l.length-(k0+1)) _ (by omega) (Qo (by simp only [hw])) ⟨k0+1,rfl,⟨by omega,QLy (by omega) (by omega) hc q⟩,rfl⟩)
      | (have hlt:k0+k2<l.length:=by omega
         have q:¬XB C (k0+k2)=XB C (k0+(k2-1)):=hb44
         have hw:=QD (n:=k) (m:=256) (by omega) (by decide)
         have hw2:=QD (n:=k2) (m:=256) (by omega) (by decide)
         refine Z0 (l.length-k0-(k2+1)) _ (by omega) (Qo (by simp only [hw,hw2,List.map_set])) ⟨k+1,k2+1,C.set k (XB C (k0+k2)),rfl,hC.put hlt (by rw [show k0+k2-1=k0+(k2-1) by omega];exact q),rfl⟩)
      | (have hlt:k0+k2<l.length:=by omega
         have q:XB C (k0+k2)=XB C (k0+(k2-1)):=hb44
         have hw2:=QD (n:=k2) (m:=256) (by omega) (by decide)
         refine Z0 (l.length-k0-(k2+1)) _ (by omega) (Qo (by simp only [hw2])) ⟨k,k2+1,C,rfl,hC.next hlt (by rw [show k0+k2-1=k0+(k2-1) by omega];exact q),rfl⟩))
  | ((with_reducible first|refine xQ ?_|refine xP ?_)
     simp only [go_sem,QL,QM,QH,seval]
     first
      | (have q:=hb8
         have e:Vk l=l:=QDK (by omega)
         have q:=h (l.map Access.v) (by rw [e];simp) (by rw [e];simp [List.take_of_length_le])
         rw [e] at q
         exact q)
      | (have q:l.length≤k0:=by omega
         rw [List.take_of_length_le (by omega)] at hc
         have q:=h (l.map Access.v) (by rw [hc];simp) (by rw [hc];simp [List.take_of_length_le])
         rw [hc] at q
         exact q)
      | (have e0:k0+k2=l.length:=by omega
         have e1:=hC.num
         have e2:=hC.tk
         rw [e0,List.take_length] at e1 e2
         have q:=h (List.take k (List.map Access.v C)++List.replicate (l.length-k) (tab.zero 60)++List.drop (k+(l.length-k)) (List.map Access.v C)) (by rw [← e1];simp;omega) (by rw [← e1,List.append_assoc,List.take_append_of_le_length (by simp;omega),List.take_take,Nat.min_self,← List.map_take,e2])
         rw [← e1] at q
         exact q))
theorem QN0 {p:Prg} {s:Stt} {g:Int} {l Y:List Access} (hs:Smalls l) (hk:SameKey l) (h1:Y.Perm l) (h2:Y.Pairwise (fun a b=>Xy a≤Xy b)) (e:Z2 l []=touch p s g):Vk Y=touch p s g:=(QKP hs hk h1 h2).trans e
theorem QA6 (l:List Access) {n:Nat} (hln:l.length=n) (hl7:l.length≤7) {o0 o1 o2:Obj} {tm:Tm} {out:List Tm} {nt:Nat} {xs:List Obj} {K:St→E→Prop} (h:∀ Y:List V,(Vk l).length≤Y.length→Y.take (Vk l).length=(Vk l).map Access.v→K { tm:=tm,ob:=o0::o1::o2::.row 60 (Y)::xs,out:=out,nt:=nt } (.sl 3 60 0 (Vk l).length false)):CallE Go.Proofs.Tryz.prog tab { tm:=tm,ob:=o0::o1::o2::.row 60 (l.map Access.v)::xs,out:=out,nt:=nt } 155 [.sl 3 60 0 n false] K:=by
 subst hln
 exact QCD l hl7 h
theorem QKH {s:Stt} {g k:Int} (h:Xw s g k=true):k≠g:=by
 unfold Xw at h
 simp at h
 exact h.2
theorem QKh {l Y:List Access} (h:Y.Perm l) (hn:l.length≤7):Y.length≤7:=by rw [h.length_eq];exact hn
def QOl:List (List Nat):=[[]]
theorem vA {P S:V} {L:List Access} {k n:Int} {w:Bool} {tm:Tm} {out:List Tm} {nt:Nat} {xs:List Obj} {K:St→E→Prop} (hL:L.length≤1000) (hx:xs.map (Obj.kill 3)=xs) (hk1:Tm.kill 3 tm=tm) (hk2:out.map (Tm.kill 3)=out) (h:K { tm:=tm,ob:=.var 26 (.data 26 P)::.var 47 (.data 47 S)::.var 94 (.sl 3 60 0 (Qa L k n w).length false)::.row 60 ((Qa L k n w).map Access.v)::(xs++[.row 60 [Access.v ⟨k,n,w⟩]]),out:=out,nt:=nt } (.tup [])):CallE Go.Proofs.Tryz.prog tab { tm:=tm,ob:=.var 26 (.data 26 P)::.var 47 (.data 47 S)::.var 94 (.sl 3 60 0 L.length false)::.row 60 (L.map Access.v)::xs,out:=out,nt:=nt } 152 [.int .i64 k,.int .i64 n,.bool w,.ptr 2 [] 94] K:=by
 have hk1':(tm.map fun x=>(x.1,x.2.1,E.kill 3 x.2.2))=tm:=hk1
 have hmx:5000≤maxLen:=by decide
 refine CallE.body ok Go.Proofs.Tryz.func152 rfl rfl 14 rfl [] rfl (by simp) ?_
 simp only [enter,Zf,Nat.zero_add,Nat.reduceAdd]
 repeat' first
  | ((with_reducible refine Q5 fun R1 hR1=>?_);(simp only [go_sem,seval,-List.reduceReplicate,hk1',hk2,hx,List.getElem?_cons_succ,List.set_cons_succ,List.set_cons_zero,U4]);(repeat' with_reducible refine And.intro ?_ ?_);all_goals first|(refine hR1 _ ?_;clear hR1 R1)|exact VL)
  | ((with_reducible refine Q4 ?_);refine hR _ ?_;clear hR R;try simp only [go_sem,QOl,Nat.reduceBEq])
  | (with_reducible first|refine J1 ?_|refine J2 ?_|refine Q2 ?_|refine Q1 ?_)
  | ((with_reducible refine rg QOl fun R hR=>?_);simp only [go_sem,QC])
  | ((with_reducible first|refine xQ ?_|refine xP ?_)
     simp only [go_sem,QL,QM,QH,seval]
     have e:(((tab.zero 60).setSub 0 (V.int k)).setSub 1 (V.int n)).setSub 2 (V.bool w)=Access.v ⟨k,n,w⟩:=rfl
     simp only [e]
     simpa [Qa,hx,Obj.kill,List.take_of_length_le] using h)
def XR:List (List Nat):=[[2,3,4],[2,3,4,7],[2,3,4,7,8],[2,3,4,7,8],[2,3,4,7,8,9],[2,3,4,7,8,9,22],[2,3,4,7,8,9,22,23],[7],[2,3,4,7,8,9,22,29],[7],[2,3,4,7,8,9,22,35],[7],[2,3,4,7,8,9,22,41],[2,3,4,7,8,9,22,41],[7],[2,3,4,7,8,9,22,48],[2,3,4,7,8,9,22,48],[7],[2,3,4,7,8,9,22,55],[7],[2,3,4,7,8,9,22,61],[2,3,4,7,8,9,22,61],[2,3,4,7,8,9,22,61],[7],[2,3,4,7,8,9,22,69],[7],[2,3,4,7,8,9,22,75],[7,8,91,92,93],[7,8,91,92,93,94],[7,8,11,91,92,93],[7,8,91,92,93],[7,8,91,92,93],[2,4,7,8,9,22,102],[4,7,8],[4,7,8,108],[7],[2,4,7,8,9,22,113],[2,4,7,8,9],[2,4,7,8,12],[7,8,12,128],[7],[7,8,132],[7],[7],[6]]
theorem qM (p:Prg) (s:Stt) (g:Int) (hp:p.Fit) (hr:QN p=true) (hv:Vld p s) (hg:0≤g∧g<s.count):Ctr Go.Proofs.Tryz.prog tab 114 [26,47,3] [94] [p.v,s.v,.int g] [.list ((touch p s g).map Access.v)]:=by
 have hw:=hv.wf (Prg.ok hr) hr
 have hpp:=hp
 have hok:=Prg.ok hr
 have hs:=hw.shape
 have hcnt:=hw.count
 have hcode:=p.code_len hp
 have hsl:=p.sels_len hp
 obtain ⟨hp1,hp2,hp3,hp4⟩:=hp
 have hs1:=hs.vars
 have hs2:=hs.owner
 have hs3:=hs.chans
 have hs5:=hs.gos
 have hsz:=hok.sizes
 unfold Zz at hsz
 have hmx:256≤maxLen:=by decide
 have hgi:=hw.gos g (by omega) (by omega)
 have hgf:=hgi.f0
 have hgf1:=hgi.f1
 have hgp:=hgi.p0
 have hgp1:=hgi.p1
 have h8:=hgi.regs
 have hrt:Qb p (p.funcs.getD (s.gos.getD g.toNat default).func.toNat default) (QA p s g)=0:=hw.right hok hg.1 hg.2
 have hrg:=hok.regs (s.gos.getD g.toNat default).func.toNat
 have hg6:g<6:=by omega
 refine Ctr.body ok Go.Proofs.Tryz.func114 rfl rfl 140 rfl [.tmp 6] rfl (by simp [QF]) ?_
 simp only [go_sem,Nat.reduceAdd]
 repeat' first
  | ((with_reducible refine SARQ.told 27 8 ?_)
     rw [XM (by omega)])
  | ((with_reducible refine SARQ.told 27 13 ?_)
     rw [XL (by omega)])
  | ((with_reducible refine SARA.told 29 2 ?_)
     rw [Wq (by omega)])
  | ((with_reducible first|refine Q5 fun R1 hR1=>?_|refine yb fun R1 hR1=>?_);(simp only [go_sem,seval,-List.reduceReplicate,Bool.cond_false_right,Bool.cond_true_left,Ui,yn,ve]);(repeat' with_reducible refine And.intro ?_ ?_);all_goals first|(refine hR1 _ ?_;clear hR1 R1)|((first|refine V4 (cc (W0 p s g hpp hr hw hg)) ?_|refine cq (cc (W0 p s g hpp hr hw hg)) ?_|refine V4 (cc (Xd s g _ hs)) ?_|refine cq (cc (Xd s g _ hs)) ?_|refine ⟨_,_,rfl,.inr (vA (by simp only [YJ,Yp];first|omega|decide) rfl rfl rfl ?_)⟩|refine ⟨_,_,rfl,.inr (vA (by omega) rfl rfl rfl ?_)⟩|refine ⟨_,_,rfl,.inr (QGb _ hS hn7 fun Y hY1 hY2=>?_)⟩|refine ⟨_,_,rfl,.inr (QA6 Y hY1.length_eq (QKh hY1 hn7) fun Z hZ1 hZ2=>?_)⟩);all_goals ((try simp only [go_sem,seval,-List.reduceReplicate,Bool.cond_false_right,Bool.cond_true_left,Ui,yn,ve]);(repeat' with_reducible refine And.intro ?_ ?_);all_goals first|(refine hR1 _ ?_;clear hR1 R1)|exact VL))|exact VL)
  | ((with_reducible first|refine Q4 ?_|refine ya ?_);refine hR _ ?_;clear hR R;try simp only [go_sem,XR,Nat.reduceBEq])
  | (with_reducible first|refine J1 ?_|refine J2 ?_|refine J3 ?_|refine J4 ?_|refine J5 ?_|refine J6 ?_|refine J7 ?_|refine J8 (by decide) ?_|refine J9 ?_|refine Xu ?_|refine Q2 ?_|refine Q1 ?_|refine Yc ?_|refine Xt ?_)
  | ((with_reducible refine Qe 7 ?_)
     have hI:=(QCY hrt (hw.op_at hok hg.1 hg.2 hb23 (by decide))).2
     have hS:Smalls (Qa (Qa tl0 5 g true) 1 (QA p s g).b false):=(Smalls.nil.app true (by omega) (by omega)).app false (by omega) (by omega)
     have hK:SameKey (Qa (Qa tl0 5 g true) 1 (QA p s g).b false):=SameKey.two (by decide)
     have hn7:(Qa (Qa tl0 5 g true) 1 (QA p s g).b false).length≤7:=by simp only [YJ,Yp];omega
     (with_reducible refine rg XR fun R hR=>?_);simp only [go_sem,QC])
  | ((with_reducible refine Qe 9 ?_)
     have hI:=(QAP hrt (hw.op_at hok hg.1 hg.2 hb29 (by decide))).1
     have hS:Smalls (Qa (Qa tl0 5 g true) 1 (QA p s g).a false):=(Smalls.nil.app true (by omega) (by omega)).app false (by omega) (by omega)
     have hK:SameKey (Qa (Qa tl0 5 g true) 1 (QA p s g).a false):=SameKey.two (by decide)
     have hn7:(Qa (Qa tl0 5 g true) 1 (QA p s g).a false).length≤7:=by simp only [YJ,Yp];omega
     (with_reducible refine rg XR fun R hR=>?_);simp only [go_sem,QC])
  | ((with_reducible refine Qe 11 ?_)
     have hI:=(QCX hrt (hw.op_at hok hg.1 hg.2 hb35 (by decide))).1
     have hS:Smalls (Qa (Qa tl0 5 g true) 1 (QA p s g).a true):=(Smalls.nil.app true (by omega) (by omega)).app true (by omega) (by omega)
     have hK:SameKey (Qa (Qa tl0 5 g true) 1 (QA p s g).a true):=SameKey.two (by decide)
     have hn7:(Qa (Qa tl0 5 g true) 1 (QA p s g).a true).length≤7:=by simp only [YJ,Yp];omega
     (with_reducible refine rg XR fun R hR=>?_);simp only [go_sem,QC])
  | ((with_reducible refine Qe 14 ?_)
     have hI:0≤(QA p s g).b∧(QA p s g).b<(p.vars.length:Int):=by first|exact (QCW hrt (hw.op_at hok hg.1 hg.2 hb41 (by decide))).2.1|exact (QCV hrt (hw.op_at hok hg.1 hg.2 hb41 (by decide))).2.1
     have hS:Smalls (Qa (Qa tl0 5 g true) 1 (QA p s g).b true):=(Smalls.nil.app true (by omega) (by omega)).app true (by omega) (by omega)
     have hK:SameKey (Qa (Qa tl0 5 g true) 1 (QA p s g).b true):=SameKey.two (by decide)
     have hn7:(Qa (Qa tl0 5 g true) 1 (QA p s g).b true).length≤7:=by simp only [YJ,Yp];omega
     (with_reducible refine rg XR fun R hR=>?_);simp only [go_sem,QC])
  | ((with_reducible refine Qe 17 ?_)
     have hI:=yd hrt (by first|exact .inl (hw.op_at hok hg.1 hg.2 hb48 (by decide))|exact .inr (hw.op_at hok hg.1 hg.2 hb48 (by decide)))
     have hS:Smalls (Qa (Qa tl0 5 g true) 2 (QA p s g).a true):=(Smalls.nil.app true (by omega) (by omega)).app true (by omega) (by omega)
     have hK:SameKey (Qa (Qa tl0 5 g true) 2 (QA p s g).a true):=SameKey.two (by decide)
     have hn7:(Qa (Qa tl0 5 g true) 2 (QA p s g).a true).length≤7:=by simp only [YJ,Yp];omega
     (with_reducible refine rg XR fun R hR=>?_);simp only [go_sem,QC])
  | ((with_reducible refine Qe 19 ?_)
     have hI:=(QCU hrt (hw.op_at hok hg.1 hg.2 hb55 (by decide))).2
     have hS:Smalls (Qa (Qa tl0 5 g true) 2 (QA p s g).b true):=(Smalls.nil.app true (by omega) (by omega)).app true (by omega) (by omega)
     have hK:SameKey (Qa (Qa tl0 5 g true) 2 (QA p s g).b true):=SameKey.two (by decide)
     have hn7:(Qa (Qa tl0 5 g true) 2 (QA p s g).b true).length≤7:=by simp only [YJ,Yp];omega
     (with_reducible refine rg XR fun R hR=>?_);simp only [go_sem,QC])
  | ((with_reducible refine Qe 23 ?_)
     have hI:0≤(QA p s g).a∧(QA p s g).a<(p.chans.length:Int):=by first|exact (Vm hrt (hw.op_at hok hg.1 hg.2 hb61 (by decide))).1|exact QCT hrt (hw.op_at hok hg.1 hg.2 hb61 (by decide))|exact (Vm hrt (hw.op66 hok hg.1 hg.2 hb61)).1
     have hS:Smalls (Qa (Qa tl0 5 g true) 3 (QA p s g).a true):=(Smalls.nil.app true (by omega) (by omega)).app true (by omega) (by omega)
     have hK:SameKey (Qa (Qa tl0 5 g true) 3 (QA p s g).a true):=SameKey.two (by decide)
     have hn7:(Qa (Qa tl0 5 g true) 3 (QA p s g).a true).length≤7:=by simp only [YJ,Yp];omega
     (with_reducible refine rg XR fun R hR=>?_);simp only [go_sem,QC])
  | ((with_reducible refine Qe 25 ?_)
     have hI:=(yc hrt (hw.op_at hok hg.1 hg.2 hb69 (by decide))).2.1
     have hS:Smalls (Qa (Qa tl0 5 g true) 3 (QA p s g).b true):=(Smalls.nil.app true (by omega) (by omega)).app true (by omega) (by omega)
     have hK:SameKey (Qa (Qa tl0 5 g true) 3 (QA p s g).b true):=SameKey.two (by decide)
     have hn7:(Qa (Qa tl0 5 g true) 3 (QA p s g).b true).length≤7:=by simp only [YJ,Yp];omega
     (with_reducible refine rg XR fun R hR=>?_);simp only [go_sem,QC])
  | ((with_reducible refine Qe 27 ?_)
     have hI:=UB hrt (hw.op_at hok hg.1 hg.2 hb75 (by decide))
     have hsh:=hok.short (s.gos.getD g.toNat default).func.toNat (QA p s g).a.toNat (by omega)
     (with_reducible refine Ve ok QQ (by kernel_rfl) (by kernel_rfl) XR ?_);intro R hR;simp only [go_sem,QC])
  | ((with_reducible refine Qe 28 ?_)
     have hq:∀ i,i<((p.funcs.getD (s.gos.getD g.toNat default).func.toNat default).sels.getD (QA p s g).a.toNat default).cases.length→0≤(((p.funcs.getD (s.gos.getD g.toNat default).func.toNat default).sels.getD (QA p s g).a.toNat default).cases.getD i default).chan∧(((p.funcs.getD (s.gos.getD g.toNat default).func.toNat default).sels.getD (QA p s g).a.toNat default).cases.getD i default).chan<4:=fun i hi=>by
      have hC:=Vb hok (i:=(s.gos.getD g.toNat default).func.toNat) (j:=(QA p s g).a.toNat) (k:=i) (by omega) (by omega) hi
      exact ⟨hC.chan.1,by have:=hC.chan.2;omega⟩
     have hS:Smalls (chs (Qa tl0 5 g true) ((p.funcs.getD (s.gos.getD g.toNat default).func.toNat default).sels.getD (QA p s g).a.toNat default) i):=Smalls.chs (Smalls.nil.app true (by omega) (by omega)) hq i
     have hK:SameKey (chs (Qa tl0 5 g true) ((p.funcs.getD (s.gos.getD g.toNat default).func.toNat default).sels.getD (QA p s g).a.toNat default) i):=SameKey.chs i
     have hcl:(chs (Qa tl0 5 g true) ((p.funcs.getD (s.gos.getD g.toNat default).func.toNat default).sels.getD (QA p s g).a.toNat default) i).length=1+i:=by rw [QNe _ _ _ hi,YJ,Yp]
     have hn7:(chs (Qa tl0 5 g true) ((p.funcs.getD (s.gos.getD g.toNat default).func.toNat default).sels.getD (QA p s g).a.toNat default) i).length≤7:=by omega
     (with_reducible refine rg XR fun R hR=>?_);simp only [go_sem,QC])
  | ((with_reducible refine Qe 33 ?_)
     have hS:Smalls (Qa (Qa tl0 5 g true) 4 0 true):=(Smalls.nil.app true (by omega) (by omega)).app true (by omega) (by omega)
     have hK:SameKey (Qa (Qa tl0 5 g true) 4 0 true):=SameKey.two (by decide)
     have hn7:(Qa (Qa tl0 5 g true) 4 0 true).length≤7:=by simp only [YJ,Yp];omega
     (with_reducible refine rg XR fun R hR=>?_);simp only [go_sem,QC])
  | ((with_reducible refine Qe 35 ?_)
     have hS:Smalls (Qa (Qa (Qa tl0 5 g true) 4 0 true) 5 s.count true):=((Smalls.nil.app true (by omega) (by omega)).app true (by omega) (by omega)).app true (by omega) (by omega)
     have hK:SameKey (Qa (Qa (Qa tl0 5 g true) 4 0 true) 5 s.count true):=SameKey.three (by decide) (.inr rfl)
     have hn7:(Qa (Qa (Qa tl0 5 g true) 4 0 true) 5 s.count true).length≤7:=by simp only [YJ,Yp];omega
     (with_reducible refine rg XR fun R hR=>?_);simp only [go_sem,QC])
  | ((with_reducible refine Qe 37 ?_)
     have hI:=w7 hrt (.inl (hw.op_at hok hg.1 hg.2 hb113 (by decide)))
     have hS:Smalls (Qa (Qa tl0 5 g true) 4 0 false):=(Smalls.nil.app true (by omega) (by omega)).app false (by omega) (by omega)
     have hK:SameKey (Qa (Qa tl0 5 g true) 4 0 false):=SameKey.two (by decide)
     have hn7:(Qa (Qa tl0 5 g true) 4 0 false).length≤7:=by simp only [YJ,Yp];omega
     (with_reducible refine rg XR fun R hR=>?_);simp only [go_sem,QC])
  | ((with_reducible refine Qe 40 ?_)
     have hth:=zG hcnt.2 hb128
     have hS:Smalls (Qa (Qa (Qa tl0 5 g true) 4 0 false) 5 ((s.gos.getD g.toNat default).regs.getD (QA p s g).a.toNat 0) false):=((Smalls.nil.app true (by omega) (by omega)).app false (by omega) (by omega)).app false (by omega) (by omega)
     have hK:SameKey (Qa (Qa (Qa tl0 5 g true) 4 0 false) 5 ((s.gos.getD g.toNat default).regs.getD (QA p s g).a.toNat 0) false):=SameKey.three (by decide) (.inl (QKH hb128))
     have hn7:(Qa (Qa (Qa tl0 5 g true) 4 0 false) 5 ((s.gos.getD g.toNat default).regs.getD (QA p s g).a.toNat 0) false).length≤7:=by simp only [YJ,Yp];omega
     (with_reducible refine rg XR fun R hR=>?_);simp only [go_sem,QC])
  | ((with_reducible refine Qe 42 ?_)
     have hS:Smalls (Qa (Qa tl0 5 g true) 6 0 true):=(Smalls.nil.app true (by omega) (by omega)).app true (by omega) (by omega)
     have hK:SameKey (Qa (Qa tl0 5 g true) 6 0 true):=SameKey.two (by decide)
     have hn7:(Qa (Qa tl0 5 g true) 6 0 true).length≤7:=by simp only [YJ,Yp];omega
     (with_reducible refine rg XR fun R hR=>?_);simp only [go_sem,QC])
  | ((with_reducible refine Qe 4 ?_)
     have hS:Smalls (Qa tl0 5 g true):=(Smalls.nil.app true (by omega) (by omega))
     have hK:SameKey (Qa tl0 5 g true):=SameKey.one g
     have hn7:(Qa tl0 5 g true).length≤7:=by simp only [YJ,Yp];omega
     (with_reducible refine rg XR fun R hR=>?_);simp only [go_sem,QC])
  | ((with_reducible refine Qe 13 ?_)
     have hh52:=hb41
     (with_reducible refine rg XR fun R hR=>?_);simp only [go_sem,QC])
  | ((with_reducible refine Qe 16 ?_)
     have hh55:=hb48
     (with_reducible refine rg XR fun R hR=>?_);simp only [go_sem,QC])
  | ((with_reducible refine Qe 21 ?_)
     have hh58:=hb61
     (with_reducible refine rg XR fun R hR=>?_);simp only [go_sem,QC])
  | ((with_reducible refine Qe 22 ?_)
     have hh60:=hb61
     (with_reducible refine rg XR fun R hR=>?_);simp only [go_sem,QC])
  | ((with_reducible refine Qe 3 ?_)
     refine Zv ((St.le.ownVar 2 (e:=60) rfl).trans (Qo (show _=({ tm:=[(2,true,.int .i64 g),(3,true,.ptr 0 [] 26),(4,true,.ptr 1 [] 47),(7,true,.ptr 2 [] 94),(8,true,.fn 152 [.ptr 2 [] 94])],ob:=.var 26 (.data 26 p.v)::.var 47 (.data 47 s.v)::.var 94 (.sl 3 60 0 tl0.length false)::.row 60 (tl0.map Access.v)::[],out:=[],nt:=140 }:St) from rfl))) ?_
     (with_reducible refine rg XR fun R hR=>?_);simp only [go_sem,QC])
  | ((with_reducible refine rg XR fun R hR=>?_);simp only [go_sem,QC])
  | ((with_reducible refine Ve ok QQ (by kernel_rfl) (by kernel_rfl) XR ?_);intro R hR;simp only [go_sem,QC])
  | ((with_reducible refine QI 23 rfl (fun hb23=>?_) fun hb23=>?_);all_goals (try simp [-List.getD_eq_getElem?_getD] at hb23;try (exfalso;omega)))
  | ((with_reducible refine QI 29 rfl (fun hb29=>?_) fun hb29=>?_);all_goals (try simp [-List.getD_eq_getElem?_getD] at hb29;try (exfalso;omega)))
  | ((with_reducible refine QI 35 rfl (fun hb35=>?_) fun hb35=>?_);all_goals (try simp [-List.getD_eq_getElem?_getD] at hb35;try (exfalso;omega)))
  | ((with_reducible refine QI 41 rfl (fun hb41=>?_) fun hb41=>?_);all_goals (try simp [-List.getD_eq_getElem?_getD] at hb41;try (exfalso;omega)))
  | ((with_reducible refine QI 48 rfl (fun hb48=>?_) fun hb48=>?_);all_goals (try simp [-List.getD_eq_getElem?_getD] at hb48;try (exfalso;omega)))
  | ((with_reducible refine QI 55 rfl (fun hb55=>?_) fun hb55=>?_);all_goals (try simp [-List.getD_eq_getElem?_getD] at hb55;try (exfalso;omega)))
  | ((with_reducible refine QI 61 rfl (fun hb61=>?_) fun hb61=>?_);all_goals (try simp [-List.getD_eq_getElem?_getD] at hb61;try (exfalso;omega)))
  | ((with_reducible refine QI 69 rfl (fun hb69=>?_) fun hb69=>?_);all_goals (try simp [-List.getD_eq_getElem?_getD] at hb69;try (exfalso;omega)))
  | ((with_reducible refine QI 75 rfl (fun hb75=>?_) fun hb75=>?_);all_goals (try simp [-List.getD_eq_getElem?_getD] at hb75;try (exfalso;omega)))
  | ((with_reducible refine QI 102 rfl (fun hb102=>?_) fun hb102=>?_);all_goals (try simp [-List.getD_eq_getElem?_getD] at hb102;try (exfalso;omega)))
  | ((with_reducible refine QI 108 rfl (fun hb108=>?_) fun hb108=>?_);all_goals (try simp [-List.getD_eq_getElem?_getD] at hb108;try (exfalso;omega)))
  | ((with_reducible refine QI 113 rfl (fun hb113=>?_) fun hb113=>?_);all_goals (try simp [-List.getD_eq_getElem?_getD] at hb113;try (exfalso;omega)))
  | ((with_reducible refine QI 128 rfl (fun hb128=>?_) fun hb128=>?_);all_goals (try simp [-List.getD_eq_getElem?_getD] at hb128;try (exfalso;omega)))
  | ((with_reducible refine QI 132 rfl (fun hb132=>?_) fun hb132=>?_);all_goals (try simp [-List.getD_eq_getElem?_getD] at hb132;try (exfalso;omega)))
  | ((with_reducible refine SA.cond rfl ?_ ?_)
     all_goals
      intro hb
      try simp [-List.getD_eq_getElem?_getD] at hb
      try (exfalso;omega))
  | ((with_reducible refine Ya ?_)
     refine Zv (Qo (by (rw [QL2];rfl))) (Yb (fun n τ=>∃ (i:Nat),n=((p.funcs.getD (s.gos.getD g.toNat default).func.toNat default).sels.getD (QA p s g).a.toNat default).cases.length-i∧(i≤((p.funcs.getD (s.gos.getD g.toNat default).func.toNat default).sels.getD (QA p s g).a.toNat default).cases.length)∧τ={ tm:=[(7,true,.ptr 2 [] 94),(8,true,.fn 152 [.ptr 2 [] 94]),(91,true,.fs 176 (((p.funcs.getD (s.gos.getD g.toNat default).func.toNat default).sels.getD (QA p s g).a.toNat default).cases.map Cas.v) false),(92,true,.int .i64 ((p.funcs.getD (s.gos.getD g.toNat default).func.toNat default).sels.getD (QA p s g).a.toNat default).cases.length),(93,true,.int .i64 i)],ob:=[.var 26 (.data 26 p.v),.var 47 (.data 47 s.v),.var 94 (.sl 3 60 0 (chs (Qa tl0 5 g true) ((p.funcs.getD (s.gos.getD g.toNat default).func.toNat default).sels.getD (QA p s g).a.toNat default) i).length false),.row 60 ((chs (Qa tl0 5 g true) ((p.funcs.getD (s.gos.getD g.toNat default).func.toNat default).sels.getD (QA p s g).a.toNat default) i).map Access.v),.row 60 [Access.v ⟨5,g,true⟩],.var 104 (.data 104 (atI p s g).v)],out:=[],nt:=140 }) (((p.funcs.getD (s.gos.getD g.toNat default).func.toNat default).sels.getD (QA p s g).a.toNat default).cases.length) ⟨0,rfl,by omega,rfl⟩ ?_)
     rintro n τ ⟨i,hn,hi,rfl⟩)
  | ((with_reducible refine WC ?_)
     first
      | (have hlt:i<((p.funcs.getD (s.gos.getD g.toNat default).func.toNat default).sels.getD (QA p s g).a.toNat default).cases.length:=by omega
         have hw:=QD (n:=i) (m:=256) (by omega) (by decide)
         refine Z0 (((p.funcs.getD (s.gos.getD g.toNat default).func.toNat default).sels.getD (QA p s g).a.toNat default).cases.length-(i+1)) _ (by omega) ((WS 6 rfl).trans (Qo (by rw [QL3 _ _ hlt];simp only [hw,List.take_succ_cons,List.take_zero]))) ⟨i+1,rfl,hlt,rfl⟩))
  | ((with_reducible first|refine ZQ ?_|refine ZP ?_)
     simp only [go_sem,QL,QM,QH,seval]
     first
      | (have q:=hcl
         have hi':i=((p.funcs.getD (s.gos.getD g.toNat default).func.toNat default).sels.getD (QA p s g).a.toNat default).cases.length:=Nat.le_antisymm hi hb
         have e:=t61 (p:=p) (s:=s) (g:=g) hb75
         refine ⟨rfl,?_,fun _ h=>absurd h (by simp)⟩
         rw [hZ2,QN0 hS hK hY1 hY2 (by rw [hi'];exact e)])
      | (refine ⟨rfl,?_,fun _ h=>absurd h (by simp)⟩
         rw [hZ2,QN0 hS hK hY1 hY2 (by first|exact t50 hb23|exact t54 hb29|exact t51 hb35|exact t52 (.inl hb41)|exact t52 (.inr hb41)|exact t55 (.inl hb48)|exact t55 (.inr hb48)|exact t57 hb55|exact t58 (.inl hb61)|exact t58 (.inr (.inl hb61))|exact t58 (.inr (.inr hb61))|exact t59 hb69|(have hi':i=((p.funcs.getD (s.gos.getD g.toNat default).func.toNat default).sels.getD (QA p s g).a.toNat default).cases.length:=by omega;subst hi';exact t61 hb75)|exact t62 hb102 hb108|exact QUo hb102 (by omega)|exact t63 hb113 hb128|exact QUn hb113 hb128|exact t65 hb132|exact QPp hb23 hb29 hb35 hh52 hb41 hh55 hb48 hb55 hh58 hh60 hb61 hb69 hb75 hb102 hb113 hb132)]))
def QLR:List (List Nat):=[[0],[2]]
theorem yN (p:Prg) (s:Stt) (g:Int) (hg:0≤g∧g<6) (hs5:s.gos.length=6) (fuel val:Int) (failed:Bool)  {o0 o1 o2 o3 o4 o5 o6:Obj} {tm:Tm} {out:List Tm} {nt:Nat} {xs:List Obj} {K:St→E→Prop} (h:K { tm:=tm,ob:=o0::o1::o2::o3::o4::o5::o6::.var 203 (.data 203 (machV p s g fuel val failed))::xs,out:=out,nt:=nt } (.ptr 7 [g.toNat,3,1] 44)):CallE Go.Proofs.Tryz.prog tab { tm:=tm,ob:=o0::o1::o2::o3::o4::o5::o6::.var 203 (.data 203 (machV p s g fuel val failed))::xs,out:=out,nt:=nt } 116 [.ptr 7 [] 203] K:=by
 refine CallE.body ok Go.Proofs.Tryz.func116 rfl rfl 12 rfl [.tmp 2] rfl (by simp) ?_
 simp only [enter,Zf,Nat.zero_add,Nat.reduceAdd]
 repeat' first
  | ((with_reducible first|refine Q5 fun R1 hR1=>?_|refine yb fun R1 hR1=>?_);(simp only [go_sem,seval,-List.reduceReplicate,Bool.cond_false_right,Bool.cond_true_left,List.getElem?_cons_succ,List.getElem?_cons_zero,List.set_cons_succ,List.set_cons_zero,machV.s1,machV.s4,machV.s5,machV.v0,machV.v1,machV.v2,machV.v3,machV.v4,machV.v5]);(repeat' with_reducible refine And.intro ?_ ?_);all_goals first|(refine hR1 _ ?_;clear hR1 R1)|exact Zp)
  | ((with_reducible first|refine Q4 ?_|refine ya ?_);refine hR _ ?_;clear hR R;try simp only [go_sem,QLR,Nat.reduceBEq])
  | (with_reducible first|refine J1 ?_|refine J2 ?_|refine Q2 ?_|refine Q1 ?_)
  | ((with_reducible refine rg QLR fun R hR=>?_);simp only [go_sem,QC])
  | ((with_reducible refine Ve ok QQ (by kernel_rfl) (by kernel_rfl) QLR ?_);intro R hR;simp only [go_sem,QC])
  | ((with_reducible first|refine xQ ?_|refine xP ?_)
     simp only [go_sem,QL,QM,QH,seval]
     exact h)
def QOi:List (List Nat):=[[0,1,2,7],[]]
end Go.Eng.Tryz
