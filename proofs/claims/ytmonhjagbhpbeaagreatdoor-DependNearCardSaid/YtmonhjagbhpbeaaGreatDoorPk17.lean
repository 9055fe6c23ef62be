/- A part of the proof: walks through the program's functions, and what they compute. -/
import Derived.Test.YtmonhjagbhpbeaaGreatDoorPk16
set_option linter.unusedSimpArgs false
set_option linter.unusedVariables false
namespace Go.Eng.Tryz
open Go.RowKit Go.Eng
set_option maxHeartbeats 0
set_option maxRecDepth 20000
theorem UG (p:Prg) (s:Stt) (g:Int) (hp:p.Fit) (hr:QT p=true) (hv:Vld p s) (hg:0≤g∧g<s.count):Ctr Go.Proofs.Tryz.prog tab 114 [26,47,3] [94] [p.v,s.v,.int g] [.list ((touch p s g).map Access.v)]:=by
 have hw:=hv.wf (Prg.ok hr) hr
 have hpp:=hp
 have hok:=Prg.ok hr
 have hs:=hw.shape
 have hcnt:=hw.count
 have hcode:=p.code_len hp
 have hsl:=p.sels_len hp
 obtain ⟨hp1,hp2,hp3,hp4⟩:=hp
 have hs1:=hs.vars
 have hs2:=hs.owner
 have hs3:=hs.chans
 have hs5:=hs.gos
 have hsz:=hok.sizes
 unfold Yc at hsz
 have hmx:256≤maxLen:=by decide
 have hgi:=hw.gos g (by omega) (by omega)
 have hgf:=hgi.f0
 have hgf1:=hgi.f1
 have hgp:=hgi.p0
 have hgp1:=hgi.p1
 have h8:=hgi.regs
 have hrt:Qa p (p.funcs.getD (s.gos.getD g.toNat default).func.toNat default) (QB p s g)=0:=hw.right hok hg.1 hg.2
 have hrg:=hok.regs (s.gos.getD g.toNat default).func.toNat
 have hg6:g<6:=by omega
 refine Ctr.body ok Go.Proofs.Tryz.func114 rfl rfl 140 rfl [.tmp 6] rfl (by simp [QL]) ?_
 simp only [go_sem,Nat.reduceAdd]
 repeat' first
  | ((with_reducible refine SARQ.told 27 8 ?_)
     rw [Xp (by omega)])
  | ((with_reducible refine SARQ.told 27 13 ?_)
     rw [WO (by omega)])
  | ((with_reducible refine SARA.told 29 2 ?_)
     rw [Vx (by omega)])
  | ((with_reducible first|refine Zx fun R1 hR1=>?_|refine J23 fun R1 hR1=>?_);(simp only [go_sem,seval,-List.reduceReplicate,Bool.cond_false_right,Bool.cond_true_left,Vi,zC,xb]);(repeat' with_reducible refine And.intro ?_ ?_);all_goals first|(refine hR1 _ ?_;clear hR1 R1)|((first|refine ⟨_,_,rfl,_,CallQ.ctr ok (WV p s g hpp hr hw hg) (by first|rfl|(simp [go_sem];done)|fail) rfl,?_⟩|refine cq (cc (WV p s g hpp hr hw hg)) ?_|refine ⟨_,_,rfl,_,CallQ.ctr ok (Y7 s g _ hs) (by first|rfl|(simp [go_sem];done)|fail) rfl,?_⟩|refine cq (cc (Y7 s g _ hs)) ?_|refine ⟨_,_,rfl,.inr (xF (by simp only [Z6,YR];first|omega|decide) rfl rfl rfl ?_)⟩|refine ⟨_,_,rfl,.inr (xF (by omega) rfl rfl rfl ?_)⟩|refine ⟨_,_,rfl,.inr (QD8 _ hS hn7 fun Y hY1 hY2=>?_)⟩|refine ⟨_,_,rfl,.inr (wa Y hY1.length_eq (QHn hY1 hn7) fun Z hZ1 hZ2=>?_)⟩);all_goals ((try simp only [go_sem,seval,-List.reduceReplicate,Bool.cond_false_right,Bool.cond_true_left,Vi,zC,xb]);(repeat' with_reducible refine And.intro ?_ ?_);all_goals first|(refine hR1 _ ?_;clear hR1 R1)|omega|rfl|decide|assumption|(intro _;omega)|(simp;done)|(simp [-List.getD_eq_getElem?_getD];omega)|exact hcode _|(intro _;exact hcode _)|exact hsl _|(intro _;exact hsl _)|(simp [-List.getD_eq_getElem?_getD,QF,maxLen,YN,Q0,Qz,Qw,Qx];omega)|(simp [-List.getD_eq_getElem?_getD,QF,maxLen,YN,Q0,Qz,Qw,Qx];done)))|omega|rfl|decide|assumption|(intro _;omega)|(simp;done)|(simp [-List.getD_eq_getElem?_getD];omega)|exact hcode _|(intro _;exact hcode _)|exact hsl _|(intro _;exact hsl _)|(simp [-List.getD_eq_getElem?_getD,QF,maxLen,YN,Q0,Qz,Qw,Qx];omega)|(simp [-List.getD_eq_getElem?_getD,QF,maxLen,YN,Q0,Qz,Qw,Qx];done))
  | ((with_reducible first|refine Zw ?_|refine J29 ?_);refine hR _ ?_;clear hR R;try simp only [go_sem,Yy,Nat.reduceBEq])
  | (with_reducible first|refine J1 ?_|refine J2 ?_|refine J3 ?_|refine J4 ?_|refine J5 ?_|refine J6 ?_|refine J7 ?_|refine J8 (by decide) ?_|refine J9 ?_|refine Uf ?_|refine ZL ?_|refine ZS ?_|refine Y3 ?_|refine V7 ?_)
  | ((with_reducible refine Qy 7 ?_)
     have hI:=(QCb hrt (hw.op_at hok hg.1 hg.2 hb23 (by decide))).2
     have hS:Smalls (QX (QX tl0 5 g true) 1 (QB p s g).b false):=(Smalls.nil.app true (by omega) (by omega)).app false (by omega) (by omega)
     have hK:SameKey (QX (QX tl0 5 g true) 1 (QB p s g).b false):=SameKey.two (by decide)
     have hn7:(QX (QX tl0 5 g true) 1 (QB p s g).b false).length≤7:=by simp only [Z6,YR];omega
     (with_reducible refine rg Yy fun R hR=>?_);simp only [go_sem,QC])
  | ((with_reducible refine Qy 9 ?_)
     have hI:=(QCX hrt (hw.op_at hok hg.1 hg.2 hb29 (by decide))).1
     have hS:Smalls (QX (QX tl0 5 g true) 1 (QB p s g).a false):=(Smalls.nil.app true (by omega) (by omega)).app false (by omega) (by omega)
     have hK:SameKey (QX (QX tl0 5 g true) 1 (QB p s g).a false):=SameKey.two (by decide)
     have hn7:(QX (QX tl0 5 g true) 1 (QB p s g).a false).length≤7:=by simp only [Z6,YR];omega
     (with_reducible refine rg Yy fun R hR=>?_);simp only [go_sem,QC])
  | ((with_reducible refine Qy 11 ?_)
     have hI:=(QCa hrt (hw.op_at hok hg.1 hg.2 hb35 (by decide))).1
     have hS:Smalls (QX (QX tl0 5 g true) 1 (QB p s g).a true):=(Smalls.nil.app true (by omega) (by omega)).app true (by omega) (by omega)
     have hK:SameKey (QX (QX tl0 5 g true) 1 (QB p s g).a true):=SameKey.two (by decide)
     have hn7:(QX (QX tl0 5 g true) 1 (QB p s g).a true).length≤7:=by simp only [Z6,YR];omega
     (with_reducible refine rg Yy fun R hR=>?_);simp only [go_sem,QC])
  | ((with_reducible refine Qy 14 ?_)
     have hI:0≤(QB p s g).b∧(QB p s g).b<(p.vars.length:Int):=by first|exact (QCZ hrt (hw.op_at hok hg.1 hg.2 hb41 (by decide))).2.1|exact (QCY hrt (hw.op_at hok hg.1 hg.2 hb41 (by decide))).2.1
     have hS:Smalls (QX (QX tl0 5 g true) 1 (QB p s g).b true):=(Smalls.nil.app true (by omega) (by omega)).app true (by omega) (by omega)
     have hK:SameKey (QX (QX tl0 5 g true) 1 (QB p s g).b true):=SameKey.two (by decide)
     have hn7:(QX (QX tl0 5 g true) 1 (QB p s g).b true).length≤7:=by simp only [Z6,YR];omega
     (with_reducible refine rg Yy fun R hR=>?_);simp only [go_sem,QC])
  | ((with_reducible refine Qy 17 ?_)
     have hI:=xy hrt (by first|exact .inl (hw.op_at hok hg.1 hg.2 hb48 (by decide))|exact .inr (hw.op_at hok hg.1 hg.2 hb48 (by decide)))
     have hS:Smalls (QX (QX tl0 5 g true) 2 (QB p s g).a true):=(Smalls.nil.app true (by omega) (by omega)).app true (by omega) (by omega)
     have hK:SameKey (QX (QX tl0 5 g true) 2 (QB p s g).a true):=SameKey.two (by decide)
     have hn7:(QX (QX tl0 5 g true) 2 (QB p s g).a true).length≤7:=by simp only [Z6,YR];omega
     (with_reducible refine rg Yy fun R hR=>?_);simp only [go_sem,QC])
  | ((with_reducible refine Qy 19 ?_)
     have hI:=(QCW hrt (hw.op_at hok hg.1 hg.2 hb55 (by decide))).2
     have hS:Smalls (QX (QX tl0 5 g true) 2 (QB p s g).b true):=(Smalls.nil.app true (by omega) (by omega)).app true (by omega) (by omega)
     have hK:SameKey (QX (QX tl0 5 g true) 2 (QB p s g).b true):=SameKey.two (by decide)
     have hn7:(QX (QX tl0 5 g true) 2 (QB p s g).b true).length≤7:=by simp only [Z6,YR];omega
     (with_reducible refine rg Yy fun R hR=>?_);simp only [go_sem,QC])
  | ((with_reducible refine Qy 23 ?_)
     have hI:0≤(QB p s g).a∧(QB p s g).a<(p.chans.length:Int):=by first|exact (Uo hrt (hw.op_at hok hg.1 hg.2 hb61 (by decide))).1|exact QCV hrt (hw.op_at hok hg.1 hg.2 hb61 (by decide))|exact (Uo hrt (hw.op66 hok hg.1 hg.2 hb61)).1
     have hS:Smalls (QX (QX tl0 5 g true) 3 (QB p s g).a true):=(Smalls.nil.app true (by omega) (by omega)).app true (by omega) (by omega)
     have hK:SameKey (QX (QX tl0 5 g true) 3 (QB p s g).a true):=SameKey.two (by decide)
     have hn7:(QX (QX tl0 5 g true) 3 (QB p s g).a true).length≤7:=by simp only [Z6,YR];omega
     (with_reducible refine rg Yy fun R hR=>?_);simp only [go_sem,QC])
  | ((with_reducible refine Qy 25 ?_)
     have hI:=(xD hrt (hw.op_at hok hg.1 hg.2 hb69 (by decide))).2.1
     have hS:Smalls (QX (QX tl0 5 g true) 3 (QB p s g).b true):=(Smalls.nil.app true (by omega) (by omega)).app true (by omega) (by omega)
     have hK:SameKey (QX (QX tl0 5 g true) 3 (QB p s g).b true):=SameKey.two (by decide)
     have hn7:(QX (QX tl0 5 g true) 3 (QB p s g).b true).length≤7:=by simp only [Z6,YR];omega
     (with_reducible refine rg Yy fun R hR=>?_);simp only [go_sem,QC])
  | ((with_reducible refine Qy 27 ?_)
     have hI:=zm hrt (hw.op_at hok hg.1 hg.2 hb75 (by decide))
     have hsh:=hok.short (s.gos.getD g.toNat default).func.toNat (QB p s g).a.toNat (by omega)
     (with_reducible refine qq ok Qc (by kernel_rfl) (by kernel_rfl) Yy ?_);intro R hR;simp only [go_sem,QC])
  | ((with_reducible refine Qy 28 ?_)
     have hq:∀ i,i<((p.funcs.getD (s.gos.getD g.toNat default).func.toNat default).sels.getD (QB p s g).a.toNat default).cases.length→0≤(((p.funcs.getD (s.gos.getD g.toNat default).func.toNat default).sels.getD (QB p s g).a.toNat default).cases.getD i default).chan∧(((p.funcs.getD (s.gos.getD g.toNat default).func.toNat default).sels.getD (QB p s g).a.toNat default).cases.getD i default).chan<4:=fun i hi=>by
      have hC:=qo hok (i:=(s.gos.getD g.toNat default).func.toNat) (j:=(QB p s g).a.toNat) (k:=i) (by omega) (by omega) hi
      exact ⟨hC.chan.1,by have:=hC.chan.2;omega⟩
     have hS:Smalls (chs (QX tl0 5 g true) ((p.funcs.getD (s.gos.getD g.toNat default).func.toNat default).sels.getD (QB p s g).a.toNat default) i):=Smalls.chs (Smalls.nil.app true (by omega) (by omega)) hq i
     have hK:SameKey (chs (QX tl0 5 g true) ((p.funcs.getD (s.gos.getD g.toNat default).func.toNat default).sels.getD (QB p s g).a.toNat default) i):=SameKey.chs i
     have hcl:(chs (QX tl0 5 g true) ((p.funcs.getD (s.gos.getD g.toNat default).func.toNat default).sels.getD (QB p s g).a.toNat default) i).length=1+i:=by rw [QKQ _ _ _ hi,Z6,YR]
     have hn7:(chs (QX tl0 5 g true) ((p.funcs.getD (s.gos.getD g.toNat default).func.toNat default).sels.getD (QB p s g).a.toNat default) i).length≤7:=by omega
     (with_reducible refine rg Yy fun R hR=>?_);simp only [go_sem,QC])
  | ((with_reducible refine Qy 33 ?_)
     have hS:Smalls (QX (QX tl0 5 g true) 4 0 true):=(Smalls.nil.app true (by omega) (by omega)).app true (by omega) (by omega)
     have hK:SameKey (QX (QX tl0 5 g true) 4 0 true):=SameKey.two (by decide)
     have hn7:(QX (QX tl0 5 g true) 4 0 true).length≤7:=by simp only [Z6,YR];omega
     (with_reducible refine rg Yy fun R hR=>?_);simp only [go_sem,QC])
  | ((with_reducible refine Qy 35 ?_)
     have hS:Smalls (QX (QX (QX tl0 5 g true) 4 0 true) 5 s.count true):=((Smalls.nil.app true (by omega) (by omega)).app true (by omega) (by omega)).app true (by omega) (by omega)
     have hK:SameKey (QX (QX (QX tl0 5 g true) 4 0 true) 5 s.count true):=SameKey.three (by decide) (.inr rfl)
     have hn7:(QX (QX (QX tl0 5 g true) 4 0 true) 5 s.count true).length≤7:=by simp only [Z6,YR];omega
     (with_reducible refine rg Yy fun R hR=>?_);simp only [go_sem,QC])
  | ((with_reducible refine Qy 37 ?_)
     have hI:=QEt hrt (.inl (hw.op_at hok hg.1 hg.2 hb113 (by decide)))
     have hS:Smalls (QX (QX tl0 5 g true) 4 0 false):=(Smalls.nil.app true (by omega) (by omega)).app false (by omega) (by omega)
     have hK:SameKey (QX (QX tl0 5 g true) 4 0 false):=SameKey.two (by decide)
     have hn7:(QX (QX tl0 5 g true) 4 0 false).length≤7:=by simp only [Z6,YR];omega
     (with_reducible refine rg Yy fun R hR=>?_);simp only [go_sem,QC])
  | ((with_reducible refine Qy 40 ?_)
     have hth:=Ur hcnt.2 hb128
     have hS:Smalls (QX (QX (QX tl0 5 g true) 4 0 false) 5 ((s.gos.getD g.toNat default).regs.getD (QB p s g).a.toNat 0) false):=((Smalls.nil.app true (by omega) (by omega)).app false (by omega) (by omega)).app false (by omega) (by omega)
     have hK:SameKey (QX (QX (QX tl0 5 g true) 4 0 false) 5 ((s.gos.getD g.toNat default).regs.getD (QB p s g).a.toNat 0) false):=SameKey.three (by decide) (.inl (QHL hb128))
     have hn7:(QX (QX (QX tl0 5 g true) 4 0 false) 5 ((s.gos.getD g.toNat default).regs.getD (QB p s g).a.toNat 0) false).length≤7:=by simp only [Z6,YR];omega
     (with_reducible refine rg Yy fun R hR=>?_);simp only [go_sem,QC])
  | ((with_reducible refine Qy 42 ?_)
     have hS:Smalls (QX (QX tl0 5 g true) 6 0 true):=(Smalls.nil.app true (by omega) (by omega)).app true (by omega) (by omega)
     have hK:SameKey (QX (QX tl0 5 g true) 6 0 true):=SameKey.two (by decide)
     have hn7:(QX (QX tl0 5 g true) 6 0 true).length≤7:=by simp only [Z6,YR];omega
     (with_reducible refine rg Yy fun R hR=>?_);simp only [go_sem,QC])
  | ((with_reducible refine Qy 4 ?_)
     have hS:Smalls (QX tl0 5 g true):=(Smalls.nil.app true (by omega) (by omega))
     have hK:SameKey (QX tl0 5 g true):=SameKey.one g
     have hn7:(QX tl0 5 g true).length≤7:=by simp only [Z6,YR];omega
     (with_reducible refine rg Yy fun R hR=>?_);simp only [go_sem,QC])
  | ((with_reducible refine Qy 13 ?_)
     have hh52:=hb41
     (with_reducible refine rg Yy fun R hR=>?_);simp only [go_sem,QC])
  | ((with_reducible refine Qy 16 ?_)
     have hh55:=hb48
     (with_reducible refine rg Yy fun R hR=>?_);simp only [go_sem,QC])
  | ((with_reducible refine Qy 21 ?_)
     have hh58:=hb61
     (with_reducible refine rg Yy fun R hR=>?_);simp only [go_sem,QC])
  | ((with_reducible refine Qy 22 ?_)
     have hh60:=hb61
     (with_reducible refine rg Yy fun R hR=>?_);simp only [go_sem,QC])
  | ((with_reducible refine Qy 3 ?_)
     refine Yx ((St.le.ownVar 2 (e:=60) rfl).trans (ZZ (show _=({ tm:=[(2,true,.int .i64 g),(3,true,.ptr 0 [] 26),(4,true,.ptr 1 [] 47),(7,true,.ptr 2 [] 94),(8,true,.fn 152 [.ptr 2 [] 94])],ob:=.var 26 (.data 26 p.v)::.var 47 (.data 47 s.v)::.var 94 (.sl 3 60 0 tl0.length false)::.row 60 (tl0.map Access.v)::[],out:=[],nt:=140 }:St) from rfl))) ?_
     (with_reducible refine rg Yy fun R hR=>?_);simp only [go_sem,QC])
  | ((with_reducible refine rg Yy fun R hR=>?_);simp only [go_sem,QC])
  | ((with_reducible refine qq ok Qc (by kernel_rfl) (by kernel_rfl) Yy ?_);intro R hR;simp only [go_sem,QC])
  | ((with_reducible refine QR 23 rfl (fun hb23=>?_) fun hb23=>?_);all_goals (try simp [-List.getD_eq_getElem?_getD] at hb23;try (exfalso;omega)))
  | ((with_reducible refine QR 29 rfl (fun hb29=>?_) fun hb29=>?_);all_goals (try simp [-List.getD_eq_getElem?_getD] at hb29;try (exfalso;omega)))
  | ((with_reducible refine QR 35 rfl (fun hb35=>?_) fun hb35=>?_);all_goals (try simp [-List.getD_eq_getElem?_getD] at hb35;try (exfalso;omega)))
  | ((with_reducible refine QR 41 rfl (fun hb41=>?_) fun hb41=>?_);all_goals (try simp [-List.getD_eq_getElem?_getD] at hb41;try (exfalso;omega)))
  | ((with_reducible refine QR 48 rfl (fun hb48=>?_) fun hb48=>?_);all_goals (try simp [-List.getD_eq_getElem?_getD] at hb48;try (exfalso;omega)))
  | ((with_reducible refine QR 55 rfl (fun hb55=>?_) fun hb55=>?_);all_goals (try simp [-List.getD_eq_getElem?_getD] at hb55;try (exfalso;omega)))
  | ((with_reducible refine QR 61 rfl (fun hb61=>?_) fun hb61=>?_);all_goals (try simp [-List.getD_eq_getElem?_getD] at hb61;try (exfalso;omega)))
  | ((with_reducible refine QR 69 rfl (fun hb69=>?_) fun hb69=>?_);all_goals (try simp [-List.getD_eq_getElem?_getD] at hb69;try (exfalso;omega)))
  | ((with_reducible refine QR 75 rfl (fun hb75=>?_) fun hb75=>?_);all_goals (try simp [-List.getD_eq_getElem?_getD] at hb75;try (exfalso;omega)))
  | ((with_reducible refine QR 102 rfl (fun hb102=>?_) fun hb102=>?_);all_goals (try simp [-List.getD_eq_getElem?_getD] at hb102;try (exfalso;omega)))
  | ((with_reducible refine QR 108 rfl (fun hb108=>?_) fun hb108=>?_);all_goals (try simp [-List.getD_eq_getElem?_getD] at hb108;try (exfalso;omega)))
  | ((with_reducible refine QR 113 rfl (fun hb113=>?_) fun hb113=>?_);all_goals (try simp [-List.getD_eq_getElem?_getD] at hb113;try (exfalso;omega)))
  | ((with_reducible refine QR 128 rfl (fun hb128=>?_) fun hb128=>?_);all_goals (try simp [-List.getD_eq_getElem?_getD] at hb128;try (exfalso;omega)))
  | ((with_reducible refine QR 132 rfl (fun hb132=>?_) fun hb132=>?_);all_goals (try simp [-List.getD_eq_getElem?_getD] at hb132;try (exfalso;omega)))
  | ((with_reducible refine SA.cond rfl ?_ ?_)
     all_goals
      intro hb
      try simp [-List.getD_eq_getElem?_getD] at hb
      try (exfalso;omega))
  | ((with_reducible refine W1 ?_)
     refine Yx (ZZ (by (rw [QI4];rfl))) (Wo (fun n τ=>∃ (i:Nat),n=((p.funcs.getD (s.gos.getD g.toNat default).func.toNat default).sels.getD (QB p s g).a.toNat default).cases.length-i∧(i≤((p.funcs.getD (s.gos.getD g.toNat default).func.toNat default).sels.getD (QB p s g).a.toNat default).cases.length)∧τ={ tm:=[(7,true,.ptr 2 [] 94),(8,true,.fn 152 [.ptr 2 [] 94]),(91,true,.fs 176 (((p.funcs.getD (s.gos.getD g.toNat default).func.toNat default).sels.getD (QB p s g).a.toNat default).cases.map Cas.v) false),(92,true,.int .i64 ((p.funcs.getD (s.gos.getD g.toNat default).func.toNat default).sels.getD (QB p s g).a.toNat default).cases.length),(93,true,.int .i64 i)],ob:=[.var 26 (.data 26 p.v),.var 47 (.data 47 s.v),.var 94 (.sl 3 60 0 (chs (QX tl0 5 g true) ((p.funcs.getD (s.gos.getD g.toNat default).func.toNat default).sels.getD (QB p s g).a.toNat default) i).length false),.row 60 ((chs (QX tl0 5 g true) ((p.funcs.getD (s.gos.getD g.toNat default).func.toNat default).sels.getD (QB p s g).a.toNat default) i).map Access.v),.row 60 [Access.v ⟨5,g,true⟩],.var 104 (.data 104 (atI p s g).v)],out:=[],nt:=140 }) (((p.funcs.getD (s.gos.getD g.toNat default).func.toNat default).sels.getD (QB p s g).a.toNat default).cases.length) ⟨0,rfl,by omega,rfl⟩ ?_)
     rintro n τ ⟨i,hn,hi,rfl⟩)
  | ((with_reducible refine zF ?_)
     first
      | (have hlt:i<((p.funcs.getD (s.gos.getD g.toNat default).func.toNat default).sels.getD (QB p s g).a.toNat default).cases.length:=by omega
         have hw:=QN (n:=i) (m:=256) (by omega) (by decide)
         refine WE (((p.funcs.getD (s.gos.getD g.toNat default).func.toNat default).sels.getD (QB p s g).a.toNat default).cases.length-(i+1)) _ (by omega) ((Vk 6 rfl).trans (ZZ (by rw [QI5 _ _ hlt];simp only [hw,List.take_succ_cons,List.take_zero]))) ⟨i+1,rfl,hlt,rfl⟩))
  | ((with_reducible first|refine YQ ?_|refine Zv ?_)
     simp only [go_sem,QS,QW,QM,seval]
     first
      | (have q:=hcl
         have hi':i=((p.funcs.getD (s.gos.getD g.toNat default).func.toNat default).sels.getD (QB p s g).a.toNat default).cases.length:=Nat.le_antisymm hi hb
         have e:=t61 (p:=p) (s:=s) (g:=g) hb75
         refine ⟨rfl,?_,fun _ h=>absurd h (by simp)⟩
         rw [hZ2,QKm hS hK hY1 hY2 (by rw [hi'];exact e)])
      | (refine ⟨rfl,?_,fun _ h=>absurd h (by simp)⟩
         rw [hZ2,QKm hS hK hY1 hY2 (by first|exact t50 hb23|exact t54 hb29|exact t51 hb35|exact t52 (.inl hb41)|exact t52 (.inr hb41)|exact t55 (.inl hb48)|exact t55 (.inr hb48)|exact t57 hb55|exact t58 (.inl hb61)|exact t58 (.inr (.inl hb61))|exact t58 (.inr (.inr hb61))|exact t59 hb69|(have hi':i=((p.funcs.getD (s.gos.getD g.toNat default).func.toNat default).sels.getD (QB p s g).a.toNat default).cases.length:=by omega;subst hi';exact t61 hb75)|exact t62 hb102 hb108|exact QQ3 hb102 (by omega)|exact t63 hb113 hb128|exact QQ2 hb113 hb128|exact t65 hb132|exact QL6 hb23 hb29 hb35 hh52 hb41 hh55 hb48 hb55 hh58 hh60 hb61 hb69 hb75 hb102 hb113 hb132)]))
end Go.Eng.Tryz
namespace Go.Eng.Tryz
open Go.RowKit Go.Eng
set_option maxHeartbeats 0
set_option maxRecDepth 20000
def QIS:List (List Nat):=[[0],[2]]
theorem qd (p:Prg) (s:Stt) (g:Int) (hg:0≤g∧g<6) (hs5:s.gos.length=6) (fuel val:Int) (failed:Bool)  {o0 o1 o2 o3 o4 o5 o6:Obj} {tm:Tm} {out:List Tm} {nt:Nat} {xs:List Obj} {K:St→E→Prop} (h:K { tm:=tm,ob:=o0::o1::o2::o3::o4::o5::o6::.var 203 (.data 203 (machV p s g fuel val failed))::xs,out:=out,nt:=nt } (.ptr 7 [g.toNat,3,1] 44)):CallE Go.Proofs.Tryz.prog tab { tm:=tm,ob:=o0::o1::o2::o3::o4::o5::o6::.var 203 (.data 203 (machV p s g fuel val failed))::xs,out:=out,nt:=nt } 116 [.ptr 7 [] 203] K:=by
 refine CallE.body ok Go.Proofs.Tryz.func116 rfl rfl 12 rfl [.tmp 2] rfl (by simp) ?_
 simp only [enter,Zr,Nat.zero_add,Nat.reduceAdd]
 repeat' first
  | ((with_reducible first|refine Zx fun R1 hR1=>?_|refine J23 fun R1 hR1=>?_);(simp only [go_sem,seval,-List.reduceReplicate,Bool.cond_false_right,Bool.cond_true_left,List.getElem?_cons_succ,List.getElem?_cons_zero,List.set_cons_succ,List.set_cons_zero,machV.s1,machV.s4,machV.s5,machV.v0,machV.v1,machV.v2,machV.v3,machV.v4,machV.v5]);(repeat' with_reducible refine And.intro ?_ ?_);all_goals first|(refine hR1 _ ?_;clear hR1 R1)|exact YJ)
  | ((with_reducible first|refine Zw ?_|refine J29 ?_);refine hR _ ?_;clear hR R;try simp only [go_sem,QIS,Nat.reduceBEq])
  | (with_reducible first|refine J1 ?_|refine J2 ?_|refine ZL ?_|refine ZS ?_)
  | ((with_reducible refine rg QIS fun R hR=>?_);simp only [go_sem,QC])
  | ((with_reducible refine qq ok Qc (by kernel_rfl) (by kernel_rfl) QIS ?_);intro R hR;simp only [go_sem,QC])
  | ((with_reducible first|refine vd ?_|refine xA ?_)
     simp only [go_sem,QS,QW,QM,seval]
     exact h)
def QLC:List (List Nat):=[[0,1,2,7],[]]
theorem qc (p:Prg) (s:Stt) (g:Int) (hg:0≤g∧g<6) (hs5:s.gos.length=6) (fuel val:Int) (failed:Bool) (r x:Int) (hr:r<8) {o0 o1 o2 o3 o4 o5 o6:Obj} {tm:Tm} {out:List Tm} {nt:Nat} {xs:List Obj} {K:St→E→Prop} (h:K { tm:=tm,ob:=o0::o1::o2::o3::o4::o5::o6::.var 203 (.data 203 (machV p (s.setReg g r x) g fuel val failed))::xs,out:=out,nt:=nt } (.tup [])):CallE Go.Proofs.Tryz.prog tab { tm:=tm,ob:=o0::o1::o2::o3::o4::o5::o6::.var 203 (.data 203 (machV p s g fuel val failed))::xs,out:=out,nt:=nt } 159 [.ptr 7 [] 203,.int .i64 r,.int .i64 x] K:=by
 refine CallE.body ok Go.Proofs.Tryz.func159 rfl rfl 15 rfl [] rfl (by simp) ?_
 simp only [enter,Zr,Nat.zero_add,Nat.reduceAdd]
 repeat' first
  | ((with_reducible refine Zx fun R1 hR1=>?_);(simp only [go_sem,seval,-List.reduceReplicate,Bool.cond_false_right,Bool.cond_true_left,List.getElem?_cons_succ,List.getElem?_cons_zero,List.set_cons_succ,List.set_cons_zero,machV.s1,machV.s4,machV.s5,machV.v0,machV.v1,machV.v2,machV.v3,machV.v4,machV.v5]);(repeat' with_reducible refine And.intro ?_ ?_);all_goals first|(refine hR1 _ ?_;clear hR1 R1)|((first|refine ⟨_,_,rfl,.inr (qd p _ g hg (by first|exact hs5|simpa using hs5) fuel _ _ ?_)⟩);all_goals ((try simp only [go_sem,seval,-List.reduceReplicate,Bool.cond_false_right,Bool.cond_true_left,List.getElem?_cons_succ,List.getElem?_cons_zero,List.set_cons_succ,List.set_cons_zero,machV.s1,machV.s4,machV.s5,machV.v0,machV.v1,machV.v2,machV.v3,machV.v4,machV.v5]);(repeat' with_reducible refine And.intro ?_ ?_);all_goals first|(refine hR1 _ ?_;clear hR1 R1)|exact YJ))|exact YJ)
  | ((with_reducible refine Zw ?_);refine hR _ ?_;clear hR R;try simp only [go_sem,QLC,Nat.reduceBEq])
  | (with_reducible first|refine J1 ?_|refine J2 ?_|refine J3 ?_|refine ZL ?_|refine ZS ?_)
  | ((with_reducible refine rg QLC fun R hR=>?_);simp only [go_sem,QC])
  | ((with_reducible refine QR 7 rfl (fun hb7=>?_) fun hb7=>?_);all_goals (try simp [-List.getD_eq_getElem?_getD] at hb7;try (exfalso;omega)))
  | ((with_reducible first|refine vd ?_|refine xA ?_)
     simp only [go_sem,QS,QW,QM,seval]
     first
      | (have q:0≤r:=hb7
         have e:s.setReg g r x=_:=if_pos hb7
         rw [e] at h
         exact h)
      | (have q:r<0:=hb7
         have e:s.setReg g r x=s:=if_neg (by omega)
         rw [e] at h
         exact h))
def QIO:List (List Nat):=[[0,1,4],[0],[]]
theorem Xi (p:Prg) (s:Stt) (g:Int) (hg:0≤g∧g<6) (hs5:s.gos.length=6) (fuel val:Int) (failed:Bool) (why:Int) {o0 o1 o2 o3 o4 o5 o6:Obj} {tm:Tm} {out:List Tm} {nt:Nat} {xs:List Obj} {K:St→E→Prop} (h:K { tm:=tm,ob:=o0::o1::o2::o3::o4::o5::o6::.var 203 (.data 203 (machV p (QAy s g why) g fuel 0 true))::xs,out:=out,nt:=nt } (.tup [])):CallE Go.Proofs.Tryz.prog tab { tm:=tm,ob:=o0::o1::o2::o3::o4::o5::o6::.var 203 (.data 203 (machV p s g fuel val failed))::xs,out:=out,nt:=nt } 165 [.ptr 7 [] 203,.int .i64 why] K:=by
 refine CallE.body ok Go.Proofs.Tryz.func165 rfl rfl 25 rfl [] rfl (by simp) ?_
 simp only [enter,Zr,Nat.zero_add,Nat.reduceAdd]
 repeat' first
  | ((with_reducible first|refine Zx fun R1 hR1=>?_|refine vp fun R1 hR1=>?_|refine vo fun R1 hR1=>?_|refine vn fun R1 hR1=>?_);(simp only [go_sem,seval,-List.reduceReplicate,Bool.cond_false_right,Bool.cond_true_left,List.getElem?_cons_succ,List.getElem?_cons_zero,List.set_cons_succ,List.set_cons_zero,machV.s1,machV.s4,machV.s5,machV.v0,machV.v1,machV.v2,machV.v3,machV.v4,machV.v5]);(repeat' with_reducible refine And.intro ?_ ?_);all_goals first|(refine hR1 _ ?_;clear hR1 R1)|((first|refine ⟨_,_,rfl,.inr (qd p _ g hg (by first|exact hs5|simpa using hs5) fuel _ _ ?_)⟩);all_goals ((try simp only [go_sem,seval,-List.reduceReplicate,Bool.cond_false_right,Bool.cond_true_left,List.getElem?_cons_succ,List.getElem?_cons_zero,List.set_cons_succ,List.set_cons_zero,machV.s1,machV.s4,machV.s5,machV.v0,machV.v1,machV.v2,machV.v3,machV.v4,machV.v5]);(repeat' with_reducible refine And.intro ?_ ?_);all_goals first|(refine hR1 _ ?_;clear hR1 R1)|exact YJ))|exact YJ)
  | ((with_reducible first|refine vm ?_|refine Zw ?_);refine hR _ ?_;clear hR R;try simp only [go_sem,QIO,Nat.reduceBEq])
  | (with_reducible first|refine vk ?_ ?_|exact vj|refine vi ?_ ?_)
  | (with_reducible first|refine J1 ?_|refine J2 ?_|refine ZL ?_|refine ZS ?_)
  | ((with_reducible refine Qy 1 ?_)
     refine V6 ok Qc (.take 0 (.take 1 (.take 2 (.take 3 (.take 4 (.take 5 (.take 6 (.take 7 (.take 8 (.take 9 (.take 10 (.take 11 (.br 12 .done .nil))))))))))))) [12] QIO (by kernel_rfl) (fun R hR=>?_);simp only [go_sem,QC])
  | ((with_reducible refine rg QIO fun R hR=>?_);simp only [go_sem,QC])
  | ((with_reducible first|refine vd ?_|refine xA ?_)
     simp only [go_sem,QS,QW,QM,seval]
     rw [show ((((tab.zero 44).setSub 0 (V.int 4)).setSub 1 (V.int (s.gos.getD g.toNat default).func)).setSub 2 (V.int (s.gos.getD g.toNat default).pc)).setSub 3 (V.int why)=(QLd (s.gos.getD g.toNat default) why).v from rfl,Wd]
     exact h)
def QIR:List (List Nat):=[[]]
theorem QBq (p:Prg) (s:Stt) (g:Int) (hg:0≤g∧g<6) (hs:s.Shape) (fuel val:Int) (failed:Bool) (k:Int) (hp:p.Fit) {o0 o1 o2 o3 o4 o5 o6:Obj} {tm:Tm} {out:List Tm} {nt:Nat} {xs:List Obj} {K:St→E→Prop} (h:K { tm:=tm,ob:=o0::o1::o2::o3::o4::o5::o6::.var 203 (.data 203 (machV p (Q6 QA p s k fuel).1 g fuel val failed))::xs,out:=out,nt:=nt } (.tup [])):CallE Go.Proofs.Tryz.prog tab { tm:=tm,ob:=o0::o1::o2::o3::o4::o5::o6::.var 203 (.data 203 (machV p s g fuel val failed))::xs,out:=out,nt:=nt } 117 [.ptr 7 [] 203,.int .i64 k] K:=by
 have hs1:=hs.vars
 have hs2:=hs.owner
 have hs3:=hs.chans
 have hs5:=hs.gos
 refine CallE.body ok Go.Proofs.Tryz.func117 rfl rfl 24 rfl [] rfl (by simp) ?_
 simp only [enter,Zr,Nat.zero_add,Nat.reduceAdd]
 repeat' first
  | ((with_reducible first|refine vp fun R1 hR1=>?_|refine vo fun R1 hR1=>?_|refine vn fun R1 hR1=>?_);(simp only [go_sem,seval,-List.reduceReplicate,Bool.cond_false_right,Bool.cond_true_left,List.getElem?_cons_succ,List.getElem?_cons_zero,List.set_cons_succ,List.set_cons_zero,machV.s1,machV.s4,machV.s5,machV.v0,machV.v1,machV.v2,machV.v3,machV.v4,machV.v5]);(repeat' with_reducible refine And.intro ?_ ?_);all_goals first|(refine hR1 _ ?_;clear hR1 R1)|((first|refine ⟨_,_,rfl,.inr (CallB.ctr ok (QCv p s k fuel hp hs) (by first|rfl|(simp [go_sem];done)|fail) ?_)⟩);all_goals ((try simp only [go_sem,seval,-List.reduceReplicate,Bool.cond_false_right,Bool.cond_true_left,List.getElem?_cons_succ,List.getElem?_cons_zero,List.set_cons_succ,List.set_cons_zero,machV.s1,machV.s4,machV.s5,machV.v0,machV.v1,machV.v2,machV.v3,machV.v4,machV.v5]);(repeat' with_reducible refine And.intro ?_ ?_);all_goals first|(refine hR1 _ ?_;clear hR1 R1)|exact YJ))|exact YJ)
  | ((with_reducible refine SART.doneAt 0 ?_);refine hR _ ?_;clear hR R;try simp only [go_sem,QIR,Nat.reduceBEq]
     exact ZZ (by simp only [St.keep,List.filterMap_cons,List.filterMap_nil,List.lookup_cons,List.lookup_nil,Option.map_some,Option.map_none,beq_self_eq_true,Nat.reduceBEq]))
  | ((with_reducible refine vm ?_);refine hR _ ?_;clear hR R;try simp only [go_sem,QIR,Nat.reduceBEq])
  | (with_reducible first|refine vk ?_ ?_|exact vj|refine vi ?_ ?_)
  | (with_reducible first|refine J1 ?_|refine J2 ?_|refine ZL ?_|refine ZS ?_)
  | ((with_reducible refine Qy 0 ?_)
     refine J35 ok Qc (.take 0 (.take 1 (.take 2 (.take 3 (.take 4 (.take 5 (.take 6 (.take 7 (.take 8 (.take 9 (.take 10 (.take 11 (.take 12 (.take 13 (.br 14 (.take 15 (.take 16 (.take 18 (.take 19 (.br 17 (.br 20 .done .nil) (.br 20 (.take 17 .done) .nil)))))) .nil))))))))))))))) [20] QIR (by kernel_rfl) ({ tm:=[],ob:=o0::o1::o2::o3::o4::o5::o6::.var 203 (.data 203 (machV p (Q6 QA p s k fuel).1 g fuel val failed))::xs,out:=tm::out,nt:=24 }) (fun R hR=>?_) ?_;simp only [go_sem,QC])
  | ((with_reducible first|refine vd ?_|refine xA ?_)
     simp only [go_sem,QS,QW,QM,seval]
     exact h)
def QFA:List (List Nat):=[[0,1,2,6],[0,1,2,6],[0],[0],[],[0,1,2,6,38],[],[0,2,6,45],[6],[]]
end Go.Eng.Tryz
