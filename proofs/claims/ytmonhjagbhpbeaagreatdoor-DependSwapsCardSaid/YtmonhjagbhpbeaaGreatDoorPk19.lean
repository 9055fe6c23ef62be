/- A part of the proof: walks through the program's functions, and what they compute. -/
import Derived.Test.YtmonhjagbhpbeaaGreatDoorPk18
set_option linter.unusedSimpArgs false
set_option linter.unusedVariables false
namespace Go.Eng.Tryz
open Go.RowKit Go.Eng
set_option maxHeartbeats 0
set_option maxRecDepth 20000
theorem QJC (p:Prg) (s:Stt) (g:Int) (alt fuel:Int) (hp:p.Fit) (hr:QN p=true) (hv:Vld p s) (hg:0≤g∧g<s.count) (ha:alt∈Qn p s g) {o0 o1 o2 o3 o4 o5 o6:Obj} {tm:Tm} {out:List Tm} {nt:Nat} {K:St→E→Prop} (h:∀ (ys:List Obj) (nx md:Int),NextOk s (QG p s g alt) nx md→K { tm:=tm,ob:=o0::o1::o2::o3::o4::o5::o6::.var 203 (.data 203 (machD p g fuel (QG p s g alt)))::ys,out:=out,nt:=nt } (.tup [.int .i64 nx,.int .i64 md])):CallE Go.Proofs.Tryz.prog tab { tm:=tm,ob:=o0::o1::o2::o3::o4::o5::o6::.var 203 (.data 203 (machV p s g fuel 0 false))::[],out:=out,nt:=nt } 115 [.ptr 7 [] 203,.data 104 (atI p s g).v,.int .i64 alt] K:=by
 have hw:=hv.wf (Prg.ok hr) hr
 have hpp:=hp
 have hok:=Prg.ok hr
 have hs:=hw.shape
 have hcnt:=hw.count
 have hcode:=p.code_len hp
 have hsl:=p.sels_len hp
 obtain ⟨hp1,hp2,hp3,hp4⟩:=hp
 have hs1:=hs.vars
 have hs2:=hs.owner
 have hs3:=hs.chans
 have hs5:=hs.gos
 have hsz:=hok.sizes
 unfold Zz at hsz
 have hmx:256≤maxLen:=by decide
 have hgi:=hw.gos g (by omega) (by omega)
 have hgf:=hgi.f0
 have hgf1:=hgi.f1
 have hgp:=hgi.p0
 have hgp1:=hgi.p1
 have h8:=hgi.regs
 have hrt:Qb p (p.funcs.getD (s.gos.getD g.toNat default).func.toNat default) (QA p s g)=0:=hw.right hok hg.1 hg.2
 have hrg:=hok.regs (s.gos.getD g.toNat default).func.toNat
 have hg6:0≤g∧g<6:=by omega
 have hcd:=hok.code (s.gos.getD g.toNat default).func.toNat (by omega)
 have hVI:=QMT hok hw hg
 have hCI:=QL4 hok hv
 have hpw:IntKind.i64.wrap ((s.gos.getD g.toNat default).pc+1)=(s.gos.getD g.toNat default).pc+1:=Qm (by omega) (by omega)
 refine CallE.body ok Go.Proofs.Tryz.func115 rfl rfl 133 rfl [.tmp 6,.tmp 7] rfl (by simp) ?_
 simp only [enter,Zf,Nat.zero_add,Nat.reduceAdd]
 repeat' first
  | ((with_reducible refine SART.told 17 17 ?_)
     rw [XL (by omega)])
  | ((with_reducible first|refine Q5 fun R1 hR1=>?_|refine yb fun R1 hR1=>?_|refine qz fun R1 hR1=>?_|refine qy fun R1 hR1=>?_|refine qx fun R1 hR1=>?_);(simp only [go_sem,seval,-List.reduceReplicate,Bool.cond_false_right,Bool.cond_true_left,List.getElem?_cons_succ,List.getElem?_cons_zero,List.set_cons_succ,List.set_cons_zero,Ui,yn,ve,QPO,QIL,machV.s1,machV.s4,machV.s5,machV.v0,machV.v1,machV.v2,machV.v3,machV.v4,machV.v5,Z5,ZK,List.set_set,Chn.put0,Chn.put1,Chn.put2,Chn.put3,Chn.put4,Chn.put5,Stt.put0,Stt.put1,Stt.put2,Stt.put3,Stt.put4,hpw]);(repeat' with_reducible refine And.intro ?_ ?_);all_goals first|(refine hR1 _ ?_;clear hR1 R1)|((first|refine ⟨_,_,rfl,.inr (WI p _ g hg6 (by first|exact hs5|(simpa using hs5)|(rw [Yl];exact hs5)|(rw [XJ];exact hs5)|(rw [Yl,XJ];exact hs5)) fuel _ _ _ ?_)⟩|refine ⟨_,_,rfl,.inr (yM p _ g hg6 (by first|exact hs5|(simpa using hs5)|(rw [Yl];exact hs5)|(rw [XJ];exact hs5)|(rw [Yl,XJ];exact hs5)) fuel _ _ _ _ (by omega) ?_)⟩|refine ⟨_,_,rfl,.inr (QEK p s g hg6 hs5 fuel ((s.gos.getD g.toNat default).pc+1) (by omega) _ hVI fun a9 a10=>?_)⟩|refine ⟨_,_,rfl,.inr (QBF p _ g hg6 hs fuel 0 0 _ _ ((s.gos.getD g.toNat default).pc+1) hpp hI.1 hok.four (by omega) hrm ?_)⟩|refine ⟨_,_,rfl,.inr (QBG p _ g hg6 hs fuel _ _ _ ⟨hI.2.1.1,by omega⟩ ⟨hcl.1.1,by omega⟩ hcl.2.2 ?_)⟩|refine ⟨_,_,rfl,.inr (QFS p _ g hg6 hs fuel _ _ ((s.gos.getD g.toNat default).pc+1) hI4 (by omega) ?_)⟩|refine ⟨_,_,rfl,.inr (QGh p _ g hg6 hs fuel _ _ ((s.gos.getD g.toNat default).pc+1) hI4 (by omega) ?_)⟩|refine ⟨_,_,rfl,.inr (QEM p s g hg6 hs fuel _ _ hpp hok.four hq4 hAl.1 hSI hAl.2.1 (fun e=>hEl (hAl.2.2 e)) hCI fun ys=>?_)⟩|refine ⟨_,_,rfl,.inr (QFT p s g hg6 hs5 fuel ⟨by omega,hcnt.2⟩ ((s.gos.getD g.toNat default).pc+1) (by omega) (atI p s g) hpp hSp.1 hSp.2.1 ⟨hSp.2.2.1,hSp.2.2.2.2⟩ hSp.2.2.2.1 fun ys=>?_)⟩|refine V4 (cc (Xe _)) ?_|refine cq (cc (Xe _)) ?_|refine V4 (cc (Xd s g _ hs)) ?_|refine cq (cc (Xd s g _ hs)) ?_|refine ⟨_,_,rfl,.inl ⟨_,V0 p _ g hg6 fuel _ _ rfl,?_⟩⟩);all_goals ((try simp only [go_sem,seval,-List.reduceReplicate,Bool.cond_false_right,Bool.cond_true_left,List.getElem?_cons_succ,List.getElem?_cons_zero,List.set_cons_succ,List.set_cons_zero,Ui,yn,ve,QPO,QIL,machV.s1,machV.s4,machV.s5,machV.v0,machV.v1,machV.v2,machV.v3,machV.v4,machV.v5,Z5,ZK,List.set_set,Chn.put0,Chn.put1,Chn.put2,Chn.put3,Chn.put4,Chn.put5,Stt.put0,Stt.put1,Stt.put2,Stt.put3,Stt.put4,hpw]);(repeat' with_reducible refine And.intro ?_ ?_);all_goals first|(refine hR1 _ ?_;clear hR1 R1)|exact Zp))|exact Zp)
  | ((with_reducible first|refine qw ?_|refine Q4 ?_|refine ya ?_);refine hR _ ?_;clear hR R;try simp only [go_sem,UJ,Nat.reduceBEq])
  | (with_reducible first|refine qv ?_ ?_|exact qu|refine qt ?_ ?_)
  | (with_reducible first|refine J1 ?_|refine J2 ?_|refine J3 ?_|refine J4 ?_|refine J5 ?_|refine J6 ?_|refine J7 ?_|refine J8 (by decide) ?_|refine J9 ?_|refine Q2 ?_|refine Q1 ?_|refine Yc ?_)
  | ((with_reducible refine Qe 4 ?_)
     have hno:¬(50≤QK p s g∧QK p s g≤57):=of_decide_eq_false hb18
     rw [QGx (s:=s) (g:=g) (t:=(s.gos.getD g.toNat default).pc+1) (x:=atI p s g) (show QK p s g<50∨57<QK p s g by omega),ZW (show 0≤(s.gos.getD g.toNat default).pc+1 by omega)]
     (with_reducible refine rg UJ fun R hR=>?_);simp only [go_sem,QC])
  | ((with_reducible refine Qe 9 ?_)
     have hI:=yc hrt (hw.op_at hok hg.1 hg.2 hb38 (by decide))
     have h4:=hok.four
     have hcl:=hCI (QA p s g).b.toNat (by omega)
     (with_reducible refine rg UJ fun R hR=>?_);simp only [go_sem,QC])
  | ((with_reducible refine Qe 13 ?_)
     have hI:=Vm hrt (hw.op66 hok hg.1 hg.2 hb58)
     have h4:=hok.four
     have hI4:0≤(QA p s g).a∧(QA p s g).a<4:=by omega
     (with_reducible refine rg UJ fun R hR=>?_);simp only [go_sem,QC])
  | ((with_reducible refine Qe 15 ?_)
     have hI:=QCT hrt (hw.op_at hok hg.1 hg.2 hb64 (by decide))
     have h4:=hok.four
     have hI4:0≤(QA p s g).a∧(QA p s g).a<4:=by omega
     (with_reducible refine rg UJ fun R hR=>?_);simp only [go_sem,QC])
  | ((with_reducible refine Qe 19 ?_)
     have hSp:=QKO hok hw hg hb92
     (with_reducible refine rg UJ fun R hR=>?_);simp only [go_sem,QC])
  | ((with_reducible refine Qe 21 ?_)
     have hI:=w7 hrt (.inl (hw.op_at hok hg.1 hg.2 hb97 (by decide)))
     (with_reducible refine rg UJ fun R hR=>?_);simp only [go_sem,QC])
  | ((with_reducible refine Qe 25 ?_)
     have hI:=w7 hrt (.inr (hw.op_at hok hg.1 hg.2 hb122 (by decide)))
     (with_reducible refine rg UJ fun R hR=>?_);simp only [go_sem,QC])
  | ((with_reducible refine Qe 7 ?_)
     have hI:=Vm hrt (hw.op_at hok hg.1 hg.2 hb28 (by decide))
     have hcl:=hCI (QA p s g).a.toNat (by omega)
     have hrm:(s.chans.getD (QA p s g).a.toNat default).closed=false→0<p.chans.getD (QA p s g).a.toNat 0→0≤(s.chans.getD (QA p s g).a.toNat default).len∧(s.chans.getD (QA p s g).a.toNat default).len<4:=fun h1 h2=>⟨hcl.1.1,by have:=QCi ((QHc hb28).symm.trans (V7 ha (by omega)).1) h1 h2;omega⟩
     refine WT ok QQ (.take 0 (.take 1 (.take 2 (.take 3 (.take 4 (.take 5 (.take 6 (.br 7 .done .nil)))))))) [7] UJ (by kernel_rfl) (fun R hR=>?_);simp only [go_sem,QC])
  | ((with_reducible refine Qe 10 ?_)
     have hI:=yc hrt (hw.op_at hok hg.1 hg.2 hb38 (by decide))
     refine WT ok QQ (.take 0 (.take 1 (.take 2 (.take 3 (.take 4 (.take 5 (.take 6 (.br 7 .done .nil)))))))) [7] UJ (by kernel_rfl) (fun R hR=>?_);simp only [go_sem,QC])
  | ((with_reducible refine Qe 11 ?_)
     have hI:=yc hrt (hw.op_at hok hg.1 hg.2 hb38 (by decide))
     refine WT ok QQ (.take 0 (.take 1 (.take 2 (.take 3 (.br 4 (.br 5 .done .nil) .nil))))) [5] UJ (by kernel_rfl) (fun R hR=>?_);simp only [go_sem,QC])
  | ((with_reducible refine Qe 17 ?_)
     have hI:=UB hrt (hw.op_at hok hg.1 hg.2 hb70 (by decide))
     have hq4:=(hok.short (s.gos.getD g.toNat default).func.toNat (QA p s g).a.toNat (by omega)).2
     have hAl:=QRe ha hb70
     have hSI:=QPq hok (f:=(s.gos.getD g.toNat default).func.toNat) (a:=(QA p s g).a.toNat) (by omega) (by omega)
     have hEl:=QRN hok (f:=(s.gos.getD g.toNat default).func.toNat) (a:=(QA p s g).a.toNat) (by omega) (by omega)
     refine WT ok QQ (.take 0 (.take 1 (.take 2 (.take 3 (.take 4 (.take 5 (.take 6 (.take 14 (.take 15 (.take 18 (.br 7 (.take 8 (.take 9 (.take 10 (.take 11 (.take 12 (.take 13 (.take 16 (.take 17 (.br 19 (.take 20 .done) .nil))))))))) .nil))))))))))) [19] UJ (by kernel_rfl) (fun R hR=>?_);simp only [go_sem,QC])
  | ((with_reducible refine rg UJ fun R hR=>?_);simp only [go_sem,QC])
  | ((with_reducible refine Ve ok QQ (by kernel_rfl) (by kernel_rfl) UJ ?_);intro R hR;simp only [go_sem,QC])
  | ((with_reducible refine QI 18 rfl (fun hb18=>?_) fun hb18=>?_);all_goals (try simp [-List.getD_eq_getElem?_getD] at hb18;try (exfalso;omega)))
  | ((with_reducible refine QI 28 rfl (fun hb28=>?_) fun hb28=>?_);all_goals (try simp [-List.getD_eq_getElem?_getD] at hb28;try (exfalso;omega)))
  | ((with_reducible refine QI 38 rfl (fun hb38=>?_) fun hb38=>?_);all_goals (try simp [-List.getD_eq_getElem?_getD] at hb38;try (exfalso;omega)))
  | ((with_reducible refine QI 58 rfl (fun hb58=>?_) fun hb58=>?_);all_goals (try simp [-List.getD_eq_getElem?_getD] at hb58;try (exfalso;omega)))
  | ((with_reducible refine QI 64 rfl (fun hb64=>?_) fun hb64=>?_);all_goals (try simp [-List.getD_eq_getElem?_getD] at hb64;try (exfalso;omega)))
  | ((with_reducible refine QI 70 rfl (fun hb70=>?_) fun hb70=>?_);all_goals (try simp [-List.getD_eq_getElem?_getD] at hb70;try (exfalso;omega)))
  | ((with_reducible refine QI 92 rfl (fun hb92=>?_) fun hb92=>?_);all_goals (try simp [-List.getD_eq_getElem?_getD] at hb92;try (exfalso;omega)))
  | ((with_reducible refine QI 97 rfl (fun hb97=>?_) fun hb97=>?_);all_goals (try simp [-List.getD_eq_getElem?_getD] at hb97;try (exfalso;omega)))
  | ((with_reducible refine QI 119 rfl (fun hb119=>?_) fun hb119=>?_);all_goals (try simp [-List.getD_eq_getElem?_getD] at hb119;try (exfalso;omega)))
  | ((with_reducible refine QI 122 rfl (fun hb122=>?_) fun hb122=>?_);all_goals (try simp [-List.getD_eq_getElem?_getD] at hb122;try (exfalso;omega)))
  | ((with_reducible first|refine xQ ?_|refine xP ?_)
     simp only [go_sem,QL,QM,QH,seval]
     first
      | (have q:decide _=true:=hb18
         have hin:=of_decide_eq_true hb18
         rw [(QHR (alt:=alt) (p:=p) (s:=s) (g:=g) (by omega)).trans (QBV (by omega)).symm] at h
         exact h _ _ _ NextOk.vars)
      | (have q:QK p s g=58:=hb28
         rw [QJ9 hb28] at h
         exact h _ _ _ NextOk.send)
      | (have q:QK p s g=59:=hb38
         rw [QJ8 hb38] at h
         have h:=fun ys=>h ys _ _ NextOk.recv
         simp only [QFC (show (QA p s g).b.toNat<s.chans.length by omega),ZW (show 0≤(s.gor g).pc+1 by show 0≤(s.gos.getD g.toNat default).pc+1;omega)] at h
         exact h _)
      | (have q:QK p s g=66:=hb58
         rw [QJ3 hb58] at h
         exact h _ _ _ NextOk.taken)
      | (have q:QK p s g=60:=hb64
         rw [QJ7 hb64] at h
         exact h _ _ _ NextOk.close)
      | (have q:QK p s g=61:=hb70
         rw [QJ6 hb70] at h
         exact h _ _ _ NextOk.sel)
      | (have q:QK p s g=62:=hb92
         rw [(QJ5 hb92).trans (by rw [← QF5 (by omega)])] at h
         exact h _ _ _ NextOk.spawn)
      | (have q:QK p s g=63:=hb97
         have q2:_=false:=hb119
         rw [(QEr hb97).trans (if_pos (QEw hb119))] at h
         have h:=fun ys=>h ys ((s.gor g).pc+1) (-1) fun h1=>absurd h1 (show ¬(7:Int)=0 by decide)
         simp only [Wo (show (7:Int)≠0 by decide)] at h
         exact h _)
      | (have q:QK p s g=63:=hb97
         have q2:_=true:=hb119
         rw [(QEr hb97).trans (if_neg (QGL hb119))] at h
         have h:=fun ys=>h ys ((s.gor g).pc+1) (-1) (NextOk.same rfl fun _ _=>rfl)
         simp only [ZW (show 0≤(s.gor g).pc+1 by show 0≤(s.gos.getD g.toNat default).pc+1;omega)] at h
         exact h _)
      | (have q:QK p s g=65:=hb122
         rw [QJ4 hb122] at h
         have h:=fun ys=>h ys ((s.gor g).pc+1) (-1) (NextOk.same rfl fun _ _=>rfl)
         simp only [ZW (show 0≤(s.gor g).pc+1 by show 0≤(s.gos.getD g.toNat default).pc+1;omega)] at h
         exact h _)
      | (have q:¬QK p s g=65:=hb122
         rw [(QHR (alt:=alt) (p:=p) (s:=s) (g:=g) (by omega)).trans ((QBV (by omega)).symm.trans (QGx (x:=atI p s g) (show QK p s g<50∨57<QK p s g by omega)))] at h
         have h:=fun ys=>h ys ((s.gor g).pc+1) (-1) (NextOk.same rfl fun _ _=>rfl)
         simp only [ZW (show 0≤(s.gor g).pc+1 by show 0≤(s.gos.getD g.toNat default).pc+1;omega)] at h
         exact h _))
def QOm:List (List Nat):=[[0,1],[0,1,7,8],[0,1,7,8,9],[0,1,5,7,8],[0,1,5,7,8,16],[4],[0,1,7,8],[4]]
theorem QKf (l:List Int) (v:Int) (hl:l.length≤256):Ctr Go.Proofs.Tryz.prog tab 151 [23,3] [3] [.list (l.map V.int),.int v] [.int (if v∈l then (l.findIdx fun y=>decide (v=y):Nat) else -1)]:=by
 have hmx:256≤maxLen:=by decide
 refine Ctr.body ok Go.Proofs.Tryz.func151 rfl rfl 19 rfl [.tmp 4] rfl (by simp [QF]) ?_
 simp only [go_sem,Nat.reduceAdd]
 repeat' first
  | ((with_reducible refine Q5 fun R1 hR1=>?_);(simp only [go_sem,seval,-List.reduceReplicate,Bool.cond_false_right,Bool.cond_true_left]);(repeat' with_reducible refine And.intro ?_ ?_);all_goals first|(refine hR1 _ ?_;clear hR1 R1)|exact Zp)
  | ((with_reducible refine Q4 ?_);refine hR _ ?_;clear hR R;try simp only [go_sem,QOm,Nat.reduceBEq])
  | (with_reducible first|refine J1 ?_|refine J2 ?_|refine J3 ?_|refine J4 ?_|refine J5 ?_|refine J6 ?_|refine J7 ?_|refine J8 (by decide) ?_|refine J9 ?_|refine Xu ?_|refine Q2 ?_|refine Q1 ?_|refine Yc ?_|refine Xt ?_)
  | ((with_reducible refine rg QOm fun R hR=>?_);simp only [go_sem,QC])
  | ((with_reducible refine QI 16 rfl (fun hb16=>?_) fun hb16=>?_);all_goals (try simp [-List.getD_eq_getElem?_getD] at hb16;try (exfalso;omega)))
  | ((with_reducible refine SA.cond rfl ?_ ?_)
     all_goals
      intro hb
      try simp [-List.getD_eq_getElem?_getD] at hb
      try (exfalso;omega))
  | ((with_reducible refine Ya ?_)
     refine Zv (Qo (by first|rfl|(simp;done)|fail)) (Yb (fun n τ=>∃ (i:Nat),n=l.length-i∧(i≤l.length∧∀ j,j<i→¬v=l.getD j 0)∧τ={ tm:=[(0,true,.fs 3 (l.map V.int) false),(1,true,.int .i64 v),(7,true,.int .i64 l.length),(8,true,.int .i64 i)],ob:=[],out:=[],nt:=19 }) (l.length) ⟨0,rfl,⟨by omega,fun j h=>absurd h (by omega)⟩,rfl⟩ ?_)
     rintro n τ ⟨i,hn,⟨hi,hno⟩,rfl⟩)
  | ((with_reducible refine WC ?_)
     first
      | (have hlt:i<l.length:=by omega
         have hw:=QD (n:=i) (m:=256) (by omega) (by decide)
         have hno':∀ j,j<i+1→¬v=l.getD j 0:=fun j h=>by
          by_cases q:j=i
          · subst q;exact hb16
          · exact hno j (by omega)
         refine Z0 (l.length-(i+1)) _ (by omega) (Qo (by simp only [hw])) ⟨i+1,rfl,⟨hlt,hno'⟩,rfl⟩))
  | ((with_reducible first|refine ZQ ?_|refine ZP ?_)
     simp only [go_sem,QL,QM,QH,seval]
     first
      | (have q:v=_:=hb16
         have hlt:i<l.length:=by omega
         exact ⟨rfl,congrArg (fun e=>some (V.int e)) (QNS hlt hb16 hno)⟩)
      | (have e:i=l.length:=by omega
         subst e
         exact ⟨rfl,congrArg (fun e=>some (V.int e)) (QLd hno)⟩))
def QPA:List (List Nat):=[[0,1],[4]]
theorem QCC (l:List Int) (v:Int) (hl:l.length≤256):Ctr Go.Proofs.Tryz.prog tab 113 [23,3] [4] [.list (l.map V.int),.int v] [.bool (decide (v∈l))]:=by
 refine Ctr.body ok Go.Proofs.Tryz.func113 rfl rfl 9 rfl [.tmp 4] rfl (by simp [QF]) ?_
 simp only [go_sem,Nat.reduceAdd]
 repeat' first
  | ((with_reducible refine Q5 fun R1 hR1=>?_);(simp only [go_sem,seval,-List.reduceReplicate,Bool.cond_false_right,Bool.cond_true_left]);(repeat' with_reducible refine And.intro ?_ ?_);all_goals first|(refine hR1 _ ?_;clear hR1 R1)|((first|refine cq (cc (QKf l v hl) (by first|rfl|(simp [go_sem,List.length_map,List.take_of_length_le,Zy,Zc,UY];done)|fail)) ?_);all_goals ((try simp only [go_sem,seval,-List.reduceReplicate,Bool.cond_false_right,Bool.cond_true_left]);(repeat' with_reducible refine And.intro ?_ ?_);all_goals first|(refine hR1 _ ?_;clear hR1 R1)|exact Zp))|exact Zp)
  | ((with_reducible refine Q4 ?_);refine hR _ ?_;clear hR R;try simp only [go_sem,QPA,Nat.reduceBEq])
  | (with_reducible first|refine J1 ?_|refine J2 ?_|refine Q2 ?_|refine Q1 ?_)
  | ((with_reducible refine rg QPA fun R hR=>?_);simp only [go_sem,QC])
  | ((with_reducible first|refine ZQ ?_|refine ZP ?_)
     simp only [go_sem,QL,QM,QH,seval]
     refine ⟨rfl,congrArg (fun e=>some (V.bool e)) ?_⟩
     by_cases h:v∈l
     · rw [if_pos h,decide_eq_true h];exact decide_eq_true (Int.natCast_nonneg _)
     · rw [if_neg h,decide_eq_false h];rfl)
theorem QG5 {σ:St} {i:Nat} (l:List Int) (v:Int) (hl:l.length≤256) (ho:σ.ob[i]?=some (.row 3 (l.map V.int))):CallQ Go.Proofs.Tryz.prog tab σ 113 [.sl i 3 0 l.length false,.int .i64 v] (.bool (decide (v∈l))):=by
 have ha:Zy tab σ [23,3] [.sl i 3 0 l.length false,.int .i64 v]=some [.list (l.map V.int),.int v]:=by
  simp [Zy,Zc,UY,QMV,U9,ho,List.take_of_length_le]
 exact CallQ.ctr ok (QCC l v hl) ha rfl
def evK (p:Prg) (s:Stt) (x:Pck) (val tag:Int) (l:List Access) (k:Nat):Event:=⟨x.go,(s.gos.getD x.go.toNat default).func,(s.gos.getD x.go.toNat default).pc,QK p s x.go,x.alt,val,tag,qX l k,k⟩
theorem vV (p:Prg) (s:Stt) (x:Pck) (v t:Int) (l:List Access) (k:Nat):(evK p s x v t l k).touches=k:=rfl
theorem QDF (p:Prg) (s:Stt) (x:Pck) (v t:Int) (l:List Access) (k:Nat):(evK p s x v t l k).touch=qX l k:=rfl
theorem Event.put5 (e:Event) (x:Int):V.setSub e.v 5 (.int x)=Event.v ⟨e.go,e.func,e.pc,e.op,e.alt,x,e.tag,e.touch,e.touches⟩:=rfl
theorem Event.put6 (e:Event) (x:Int):V.setSub e.v 6 (.int x)=Event.v ⟨e.go,e.func,e.pc,e.op,e.alt,e.val,x,e.touch,e.touches⟩:=rfl
theorem Event.put7 (e:Event) (l:List Access):V.setSub e.v 7 (.agg (l.map Access.v))=Event.v ⟨e.go,e.func,e.pc,e.op,e.alt,e.val,e.tag,l,e.touches⟩:=rfl
theorem Event.put8 (e:Event) (x:Int):V.setSub e.v 8 (.int x)=Event.v ⟨e.go,e.func,e.pc,e.op,e.alt,e.val,e.tag,e.touch,x⟩:=rfl
theorem QDo {p:Prg} {s:Stt} {x:Pck} (h:QK p s x.go=65):QCb p s x=(QA p s x.go).n:=if_pos h
theorem QGN {p:Prg} {s:Stt} {x:Pck} (h:¬QK p s x.go=65):QCb p s x=0:=if_neg h
theorem yS (p:Prg) (s:Stt) (x:Pck) (val:Int):event p s x val=evK p s x val (QCb p s x) (touch p s x.go) (touch p s x.go).length:=rfl
def vn:List (List Nat):=[[3,4,5,6,8,9],[3,4,5,6,8,9,11],[3,4,5,6,8,9,11,23],[8,9,10],[3,4,5,6,8,9,32],[8,9,10],[3,4,5,6,8,9,60],[8,9,10],[3,4,5,6,8,9,12],[3,4,5,6,8,9,12,13],[3,4,5,6,8,9,12,13,91,92,93],[3,4,5,6,8,9,12,13,91,92,93,94],[3,4,5,6,8,9,12,13,15,91,92,93],[3,4,5,6,8,9,12,13,91,92,93],[3,4,5,6,8,9,12,13,91,92,93],[3,4,5,6,8,9,12,13,91,92,93],[6,8,9,12,13,16],[8,9,12,13,16,17,18],[8,9,12,13,16,17,18],[8,9,12,13,16,17,18,129],[8,9,13,16,17,18],[8,9,13,16,17,18,137],[8,9,13,16,18],[8,9,13,16,18],[8,9,13,16,18,150],[8,9,13,16],[8,9,10]]
end Go.Eng.Tryz
