/- A part of the proof: walks through the program's functions, and what they compute. -/
import Derived.Test.YtmonhjagbhpbeaaGreatDoorPk19
set_option linter.unusedSimpArgs false
set_option linter.unusedVariables false
namespace Go.Eng.Tryz
open Go.RowKit Go.Eng
set_option maxHeartbeats 0
set_option maxRecDepth 20000
theorem QEF (p:Prg) (s:Stt) (x:Pck) (fuel:Int) (hp:p.Fit) (hs:s.Shape):Ctr Go.Proofs.Tryz.prog tab 81 [26,47,56,3] [47,63,30] [p.v,s.v,x.v,.int fuel] [(doV p s x fuel).1.v,(doV p s x fuel).2.1.v,.int (doV p s x fuel).2.2]:=by
 have hpp:=hp
 have hfit:=hp
 have hcode:=p.code_len hp
 have hsl:=p.sels_len hp
 obtain ⟨hp1,hp2,hp3,hp4⟩:=hp
 have hs1:=hs.vars
 have hs2:=hs.owner
 have hs3:=hs.chans
 have hs5:=hs.gos
 have hmx:256≤maxLen:=by decide
 refine Ctr.body ok Go.Proofs.Tryz.func81 rfl rfl 159 rfl [.cell 8 47,.cell 9 63,.tmp 10] rfl (by simp [QF]) ?_
 simp only [go_sem,Nat.reduceAdd]
 repeat' first
  | ((with_reducible refine SART.told 6 8 ?_)
     rcases Bool.eq_false_or_eq_true (decide (x.go<0)||decide (6≤x.go)) with hgo|hgo<;>simp only [hgo])
  | ((with_reducible refine SART.told 6 12 ?_)
     rcases Bool.eq_false_or_eq_true (V1 s x.go) with hlv0|hlv0<;>try simp only [hlv0])
  | ((with_reducible refine SARA.told 12 2 ?_)
     rw [Qg Access.v (touch p s x.go) (by omega)])
  | ((with_reducible first|refine Q5 fun R1 hR1=>?_|refine qz fun R1 hR1=>?_|refine qy fun R1 hR1=>?_|refine qx fun R1 hR1=>?_);(simp only [go_sem,seval,-List.reduceReplicate,Bool.cond_false_right,Bool.cond_true_left,Ui,yn,QIL,QE,YA,Event.at7,QAs,qW,vV,QDF,Event.put5,Event.put6,Event.put7,Event.put8,machV.s1,machV.s4,machV.s5,machV.v0,machV.v1,machV.v2,machV.v3,machV.v4,machV.v5,Z5,ZK,List.set_set,Chn.put0,Chn.put1,Chn.put2,Chn.put3,Chn.put4,Chn.put5,Stt.put0,Stt.put1,Stt.put2,Stt.put3,Stt.put4]);(repeat' with_reducible refine And.intro ?_ ?_);all_goals first|(refine hR1 _ ?_;clear hR1 R1)|((first|refine ⟨_,_,rfl,.inr (QJC p s x.go x.alt fuel hpp hr hv hgc ha fun ys nx md hn=>?_)⟩|refine ⟨_,_,rfl,.inr (QEL p _ x.go hg6 (by first|exact hS1|exact hS2) fuel _ _ _ hpp ?_)⟩|refine cq (cc (y8 p s hpp hs) (by first|rfl|(simp [go_sem,List.length_map,List.take_of_length_le,Zy,Zc,UY];done)|fail)) ?_|refine Y4 (fun hg=>cc (y8 p s hpp hs) (by first|rfl|(simp [go_sem,List.length_map,List.take_of_length_le,Zy,Zc,UY];done)|fail)) ?_|refine cq (cc (Xm s x.go hs (Yd hgo)) (by first|rfl|(simp [go_sem,List.length_map,List.take_of_length_le,Zy,Zc,UY];done)|fail)) ?_|refine Y4 (fun hg=>cc (Xm s x.go hs (Yd hgo)) (by first|rfl|(simp [go_sem,List.length_map,List.take_of_length_le,Zy,Zc,UY];done)|fail)) ?_|refine ce (cf (Uw p s x.go hpp hr hv ⟨(Yd hgo).1,WP hv (Yd hgo).1 (Yd hgo).2 hlv0⟩ ((Wp hv (Yd hgo).1 (Yd hgo).2).trans hlv0)) ?_ (by first|rfl|(simp [go_sem,List.length_map,List.take_of_length_le,Zy,Zc,UY];done)|fail))|refine ⟨_,_,rfl,.inr ⟨fun _=>CallE.ctr ok (Uw p s x.go hpp hr hv ⟨(Yd hgo).1,WP hv (Yd hgo).1 (Yd hgo).2 hlv0⟩ ((Wp hv (Yd hgo).1 (Yd hgo).2).trans hlv0)) (by first|rfl|(simp [go_sem,List.length_map,List.take_of_length_le,Zy,Zc,UY];done)|fail) ?_,?_⟩⟩|refine ⟨_,_,rfl,.inr (CallB.ctr ok (Uw p s x.go hpp hr hv ⟨(Yd hgo).1,WP hv (Yd hgo).1 (Yd hgo).2 hlv0⟩ ((Wp hv (Yd hgo).1 (Yd hgo).2).trans hlv0)) (by first|rfl|(simp [go_sem,List.length_map,List.take_of_length_le,Zy,Zc,UY];done)|fail) ?_)⟩|refine ⟨_,_,rfl,.inr ⟨fun _=>CallB.ctr ok (Uw p s x.go hpp hr hv ⟨(Yd hgo).1,WP hv (Yd hgo).1 (Yd hgo).2 hlv0⟩ ((Wp hv (Yd hgo).1 (Yd hgo).2).trans hlv0)) (by first|rfl|(simp [go_sem,List.length_map,List.take_of_length_le,Zy,Zc,UY];done)|fail) ?_,?_⟩⟩|refine ⟨_,_,rfl,.inl ⟨_,QG5 (Qn p s x.go) x.alt hl5 rfl,?_⟩⟩|refine cq (cc (W0 p s x.go hpp hr hw hgc) (by first|rfl|(simp [go_sem,List.length_map,List.take_of_length_le,Zy,Zc,UY];done)|fail)) ?_|refine Y4 (fun hg=>cc (W0 p s x.go hpp hr hw hgc) (by first|rfl|(simp [go_sem,List.length_map,List.take_of_length_le,Zy,Zc,UY];done)|fail)) ?_|refine ce (cf (qM p s x.go hpp hr hv hgc) ?_ (by first|rfl|(simp [go_sem,List.length_map,List.take_of_length_le,Zy,Zc,UY];done)|fail))|refine ⟨_,_,rfl,.inr ⟨fun _=>CallE.ctr ok (qM p s x.go hpp hr hv hgc) (by first|rfl|(simp [go_sem,List.length_map,List.take_of_length_le,Zy,Zc,UY];done)|fail) ?_,?_⟩⟩|refine ⟨_,_,rfl,.inr (CallB.ctr ok (qM p s x.go hpp hr hv hgc) (by first|rfl|(simp [go_sem,List.length_map,List.take_of_length_le,Zy,Zc,UY];done)|fail) ?_)⟩|refine ⟨_,_,rfl,.inr ⟨fun _=>CallB.ctr ok (qM p s x.go hpp hr hv hgc) (by first|rfl|(simp [go_sem,List.length_map,List.take_of_length_le,Zy,Zc,UY];done)|fail) ?_,?_⟩⟩|refine ⟨_,_,rfl,.inl ⟨_,V0 p _ x.go hg6 fuel _ _ rfl,?_⟩⟩|refine ⟨_,_,rfl,.inl ⟨.bool false,?_⟩⟩);all_goals ((try simp only [go_sem,seval,-List.reduceReplicate,Bool.cond_false_right,Bool.cond_true_left,Ui,yn,QIL,QE,YA,Event.at7,QAs,qW,vV,QDF,Event.put5,Event.put6,Event.put7,Event.put8,machV.s1,machV.s4,machV.s5,machV.v0,machV.v1,machV.v2,machV.v3,machV.v4,machV.v5,Z5,ZK,List.set_set,Chn.put0,Chn.put1,Chn.put2,Chn.put3,Chn.put4,Chn.put5,Stt.put0,Stt.put1,Stt.put2,Stt.put3,Stt.put4]);(repeat' with_reducible refine And.intro ?_ ?_);all_goals first|(refine hR1 _ ?_;clear hR1 R1)|exact Zp))|exact Zp)
  | ((with_reducible refine SART.doneAt 26 ?_);refine hR _ ?_;clear hR R;try simp only [go_sem,vn,Nat.reduceBEq]
     first|(have e:doV p s x fuel=(ms,event p s x mv,0):=(by rw [Wd hb23 hnf ha,hA hb137]);rw [e];exact (WS 5 rfl).trans (Qo (by rw [yS,QDo hb129,← hkl];rfl)))|(have e:doV p s x fuel=((QZ QB p (QZ QB p (pcS ms x.go nx) x.go fuel).1 md fuel).1,event p s x mv,0):=(by rw [Wd hb23 hnf ha,hT,if_pos hb150]);rw [e];exact (WS 5 rfl).trans (Qo (by rw [yS,QDo hb129,← hkl];rfl)))|(have e:doV p s x fuel=((QZ QB p (pcS ms x.go nx) x.go fuel).1,event p s x mv,0):=(by rw [Wd hb23 hnf ha,hT,if_neg (Int.not_le.2 hb150)]);rw [e];exact (WS 5 rfl).trans (Qo (by rw [yS,QDo hb129,← hkl];rfl)))|(have e:doV p s x fuel=(ms,event p s x mv,0):=(by rw [Wd hb23 hnf ha,hA hb137]);rw [e];exact (WS 5 rfl).trans (Qo (by rw [yS,QGN hb129,← hkl];rfl)))|(have e:doV p s x fuel=((QZ QB p (QZ QB p (pcS ms x.go nx) x.go fuel).1 md fuel).1,event p s x mv,0):=(by rw [Wd hb23 hnf ha,hT,if_pos hb150]);rw [e];exact (WS 5 rfl).trans (Qo (by rw [yS,QGN hb129,← hkl];rfl)))|(have e:doV p s x fuel=((QZ QB p (pcS ms x.go nx) x.go fuel).1,event p s x mv,0):=(by rw [Wd hb23 hnf ha,hT,if_neg (Int.not_le.2 hb150)]);rw [e];exact (WS 5 rfl).trans (Qo (by rw [yS,QGN hb129,← hkl];rfl))))
  | ((with_reducible first|refine qw ?_|refine Q4 ?_);refine hR _ ?_;clear hR R;try simp only [go_sem,vn,Nat.reduceBEq])
  | (with_reducible first|refine qv ?_ ?_|exact qu|refine qt ?_ ?_)
  | (with_reducible first|refine J1 ?_|refine J2 ?_|refine J3 ?_|refine J4 ?_|refine J5 ?_|refine J6 ?_|refine J7 ?_|refine J8 (by decide) ?_|refine J9 ?_|refine Xu ?_|refine Q2 ?_|refine Q1 ?_|refine Yc ?_|refine Xt ?_)
  | ((with_reducible refine Qe 8 ?_)
     have ha:x.alt∈Qn p s x.go:=hb60
     have hgc:=(live_iff.1 (Zm ha)).1
     have hct:=hv.count
     have hg6:0≤x.go∧x.go<6:=by omega
     have hnf:¬(fuel<0∨4096<fuel):=by omega
     have hto:=QEu hok hw hgc
     have hln:=hto.2.2
     refine Zv (WS 5 rfl) ?_
     (with_reducible refine rg vn fun R hR=>?_);simp only [go_sem,QC])
  | ((with_reducible refine Qe 12 ?_)
     have hk6:k<6:=by omega
     (with_reducible refine rg vn fun R hR=>?_);simp only [go_sem,QC])
  | ((with_reducible refine Qe 16 ?_)
     have hkl:k=(touch p s x.go).length:=by omega
     refine Zv ((St.le.keep [3,4,5,6,8,9,12,13]).trans ((WS 7 rfl).trans (Qo (show _=({ tm:=[(3,true,.int .i64 fuel),(4,true,.ptr 0 [] 26),(5,true,.ptr 1 [] 47),(6,true,.ptr 2 [] 56),(8,true,.ptr 3 [] 47),(9,true,.ptr 4 [] 63),(12,true,.ptr 5 [] 104),(13,true,.ptr 6 [] 63)],ob:=[.var 26 (.data 26 p.v),.var 47 (.data 47 s.v),.var 56 (.data 56 x.v),.var 47 (.data 47 zeroStt.v),.var 63 (.data 63 zeroEvent.v),.var 104 (.data 104 (atI p s x.go).v),.var 63 (.data 63 (Event.v (evK p s x 0 0 (touch p s x.go) k)))],out:=[],nt:=159 }:St) from rfl)))) ?_
     (with_reducible refine rg vn fun R hR=>?_);simp only [go_sem,QC])
  | ((with_reducible refine Qe 17 ?_)
     refine Zv (Qo (show _=({ tm:=[(6,true,.ptr 2 [] 56),(8,true,.ptr 3 [] 47),(9,true,.ptr 4 [] 63),(12,true,.ptr 5 [] 104),(13,true,.ptr 6 [] 63),(16,true,.ptr 7 [] 203)],ob:=[.var 26 (.data 26 p.v),.var 47 (.data 47 s.v),.var 56 (.data 56 x.v),.var 47 (.data 47 zeroStt.v),.var 63 (.data 63 zeroEvent.v),.var 104 (.data 104 (atI p s x.go).v),.var 63 (.data 63 (Event.v (evK p s x 0 0 (touch p s x.go) k))),.var 203 (.data 203 (machV p s x.go fuel 0 false))],out:=[],nt:=159 }:St) from rfl)) ?_
     (with_reducible refine rg vn fun R hR=>?_);simp only [go_sem,QC])
  | ((with_reducible refine Qe 18 ?_)
     obtain ⟨ms,mv,mo,hm,hm6,hA,hB⟩:=QGi hr hok hv ha (fuel:=fuel) (by omega) hn
     rw [hm]
     refine Zv ((WS 8 rfl).trans (Qo (show _=({ tm:=[(8,true,.ptr 3 [] 47),(9,true,.ptr 4 [] 63),(12,true,.ptr 5 [] 104),(13,true,.ptr 6 [] 63),(16,true,.ptr 7 [] 203),(17,true,.int .i64 nx),(18,true,.int .i64 md)],ob:=[.var 26 (.data 26 p.v),.var 47 (.data 47 s.v),.var 56 (.data 56 x.v),.var 47 (.data 47 zeroStt.v),.var 63 (.data 63 zeroEvent.v),.var 104 (.data 104 (atI p s x.go).v),.var 63 (.data 63 (Event.v (evK p s x 0 0 (touch p s x.go) k))),.var 203 (.data 203 (machV p ms x.go fuel mv mo))],out:=[],nt:=159 }:St) from rfl))) ?_
     (with_reducible refine rg vn fun R hR=>?_);simp only [go_sem,QC])
  | ((with_reducible refine Qe 23 ?_)
     obtain ⟨hS1,hS2,hT⟩:=hB hb137
     (with_reducible refine rg vn fun R hR=>?_);simp only [go_sem,QC])
  | ((with_reducible refine Qe 6 ?_)
     have hr:=(wK hb23).1
     have hok:=Prg.ok hr
     have hv:=Vld.of hok hs (wK hb23).2
     have hw:=hv.wf hok hr
     have hal:=zV hok hw x.go
     have hl5:(Qn p s x.go).length≤256:=by omega
     refine WT ok QQ (.take 0 (.take 1 (.take 2 (.take 3 (.take 4 (.take 5 (.take 6 (.take 7 (.take 8 (.take 9 (.take 10 (.take 11 (.br 12 (.take 13 (.take 14 (.take 15 (.take 16 (.take 17 (.take 18 (.take 19 (.take 21 (.take 22 (.br 20 (.br 23 (.take 24 (.take 25 .done)) .nil) .nil)))))))))) .nil))))))))))))) [] vn (by kernel_rfl) (fun R hR=>?_);simp only [go_sem,QC])
  | ((with_reducible refine Qe 9 ?_)
     refine WT ok QQ (.take 0 (.take 1 (.take 2 (.take 3 (.take 4 (.take 5 (.take 6 (.take 7 (.take 8 (.take 9 (.take 10 (.take 11 (.take 12 (.take 13 (.take 14 (.take 15 (.take 16 (.take 17 (.take 18 (.br 19 (.br 20 .done .nil) .nil)))))))))))))))))))) [20] vn (by kernel_rfl) (fun R hR=>?_);simp only [go_sem,QC])
  | ((with_reducible refine Qe 26 ?_)
     refine J35 ok QQ (.take 0 (.take 1 (.take 2 (.take 3 (.br 4 (.br 5 (.br 6 (.take 7 .done) .nil) .nil) (.br 5 (.take 4 (.br 6 (.take 7 .done) .nil)) .nil)))))) [5,6] vn (by kernel_rfl) ({ tm:=[(8,true,.ptr 3 [] 47),(9,true,.ptr 4 [] 63),(10,true,.int .i64 0)],ob:=[.var 26 (.data 26 p.v),.var 47 (.data 47 s.v),.var 56 (.data 56 x.v),.var 47 (.data 47 (doV p s x fuel).1.v),.var 63 (.data 63 (doV p s x fuel).2.1.v)],out:=[],nt:=159 }) (fun R hR=>?_) ?_;simp only [go_sem,QC])
  | ((with_reducible refine rg vn fun R hR=>?_);simp only [go_sem,QC])
  | ((with_reducible refine QI 23 rfl (fun hb23=>?_) fun hb23=>?_);all_goals (try simp [-List.getD_eq_getElem?_getD] at hb23;try (exfalso;omega)))
  | ((with_reducible refine QI 32 rfl (fun hb32=>?_) fun hb32=>?_);all_goals (try simp [-List.getD_eq_getElem?_getD] at hb32;try (exfalso;omega)))
  | ((with_reducible refine QI 60 rfl (fun hb60=>?_) fun hb60=>?_);all_goals (try simp [-List.getD_eq_getElem?_getD] at hb60;try (exfalso;omega)))
  | ((with_reducible refine QI 129 rfl (fun hb129=>?_) fun hb129=>?_);all_goals (try simp [-List.getD_eq_getElem?_getD] at hb129;try (exfalso;omega)))
  | ((with_reducible refine QI 137 rfl (fun hb137=>?_) fun hb137=>?_);all_goals (try simp [-List.getD_eq_getElem?_getD] at hb137;try (exfalso;omega)))
  | ((with_reducible refine QI 150 rfl (fun hb150=>?_) fun hb150=>?_);all_goals (try simp [-List.getD_eq_getElem?_getD] at hb150;try (exfalso;omega)))
  | ((with_reducible refine SA.cond rfl ?_ ?_)
     all_goals
      intro hb
      try simp [-List.getD_eq_getElem?_getD] at hb
      try (exfalso;omega))
  | ((with_reducible refine Ya ?_)
     refine Zv (Qo (by rfl)) (Yb (fun n τ=>∃ (k:Nat),n=(touch p s x.go).length-k∧(k≤(touch p s x.go).length)∧τ={ tm:=[(3,true,.int .i64 fuel),(4,true,.ptr 0 [] 26),(5,true,.ptr 1 [] 47),(6,true,.ptr 2 [] 56),(8,true,.ptr 3 [] 47),(9,true,.ptr 4 [] 63),(12,true,.ptr 5 [] 104),(13,true,.ptr 6 [] 63),(91,true,.sl 7 60 0 (touch p s x.go).length false),(92,true,.int .i64 (touch p s x.go).length),(93,true,.int .i64 k)],ob:=[.var 26 (.data 26 p.v),.var 47 (.data 47 s.v),.var 56 (.data 56 x.v),.var 47 (.data 47 zeroStt.v),.var 63 (.data 63 zeroEvent.v),.var 104 (.data 104 (atI p s x.go).v),.var 63 (.data 63 (Event.v (evK p s x 0 0 (touch p s x.go) k))),.row 60 ((touch p s x.go).map Access.v)],out:=[],nt:=159 }) ((touch p s x.go).length) ⟨0,rfl,by omega,rfl⟩ ?_)
     rintro n τ ⟨k,hn,hk,rfl⟩)
  | ((with_reducible refine WC ?_)
     first
      | (have hw2:=QD (n:=k) (m:=256) (by omega) (by decide)
         have e:=vT (touch p s x.go) hk6
         refine Z0 ((touch p s x.go).length-(k+1)) _ (by omega) ((WS 8 rfl).trans (Qo ?_)) ⟨k+1,rfl,by omega,rfl⟩
         simp only [hw2,evK,e,List.take_succ_cons,List.take_zero]))
  | ((with_reducible first|refine ZQ ?_|refine ZP ?_)
     simp only [go_sem,QL,QM,QH,seval]
     first
      | (have q:¬_:=hb23
         rw [QNc hb23]
         exact ⟨⟨rfl,rfl⟩,⟨rfl,rfl⟩,rfl,rfl⟩)
      | (have q:_∨_:=hb32
         rw [QLt hb23 hb32]
         exact ⟨⟨rfl,rfl⟩,⟨rfl,rfl⟩,rfl,rfl⟩)
      | (rw [wA hb23 (by omega) (QDX hv (.inl (QNU hgo)))]
         exact ⟨⟨rfl,rfl⟩,⟨rfl,rfl⟩,rfl,rfl⟩)
      | (rw [wA hb23 (by omega) (QDX hv (.inr hlv0))]
         exact ⟨⟨rfl,rfl⟩,⟨rfl,rfl⟩,rfl,rfl⟩)
      | (have q:¬_:=hb60
         rw [wA hb23 (by omega) hb60]
         exact ⟨⟨rfl,rfl⟩,⟨rfl,rfl⟩,rfl,rfl⟩)
      | (have e:=Wd hb23 hnf ha
         rw [e]
         exact ⟨rfl,rfl,rfl,rfl⟩))
structure Grow (p:Prg) (l:List Pck) (b:Bud) (X:Nat→List Obj) (N r:Nat) (f:FuncId) (caps:List E):Prop where
 len:∀ k,(X k).length=N
 under:∀ k,QV N (X k)=true
 capsU:E.underL N caps=true
 kills:E.killL r caps=caps
 row:r<N∨1000000≤r
 call:∀ (k:Nat) (tm:Tm) (out:List Tm) (nt:Nat) (L:List Obj) (K:St→E→Prop),k<l.length→k<256→Tm.under (N+L.length) tm=true→QT (N+L.length) out=true→QV (N+L.length) L=true →
  Tm.kill r tm=tm→out.map (Tm.kill r)=out→L.map (Obj.kill r)=L→K { tm:=tm,ob:=X (k+1)++L,out:=out,nt:=nt } (.tup []) →
  CallE Go.Proofs.Tryz.prog tab { tm:=tm,ob:=X k++L,out:=out,nt:=nt } f (.data 47 (Stt.v (QP QB p b.fuel (start QB p b.fuel).1 l (k+1)))::.data 63 (Event.v (Qy QB p b.fuel (start QB p b.fuel).1 l k))::caps) K
theorem Nat.ne_of_row {r N:Nat} (h:r<N∨1000000≤r) (hN:N≤1000) (j:Nat) (hj:j≤50):(N+j=r)=False:=by
 simp;omega
theorem Nat.ne_of_row0 {r N:Nat} (h:r<N∨1000000≤r) (hN:N≤1000):(N=r)=False:=by
 simp;omega
theorem WE (N i j:Nat):Nat.blt (N+i) (N+j)=decide (i<j):=by
 by_cases h:i<j
 · rw [decide_eq_true h,Nat.blt_eq];omega
 · rw [decide_eq_false h]
   cases hb:Nat.blt (N+i) (N+j) with
   | false=>rfl
   | true=>rw [Nat.blt_eq] at hb;omega
theorem Xk (N j:Nat):Nat.blt N (N+j)=decide (0<j):=by
 have:=WE N 0 j
 simpa using this
theorem QNa {p:Prg} (hr:QN p=true) {fuel:Int} (hf:0≤fuel∧fuel≤4096) {s:Stt} {l:List Pck} {j:Nat} (hv:Vld p (QP QB p fuel s l j)) (h:(doV p (QP QB p fuel s l j) (l.getD j default) fuel).2.2=0):Z6 QB p fuel s l j=true:=by
 cases hk:Z6 QB p fuel s l j with
 | true=>rfl
 | false=>rw [QRO hr hf hv hk] at h;cases h
theorem QNb {p:Prg} (hr:QN p=true) {fuel:Int} (hf:0≤fuel∧fuel≤4096) {s:Stt} {l:List Pck} {j:Nat} (hj:j<l.length) (hv:Vld p (QP QB p fuel s l j)) (h:¬(doV p (QP QB p fuel s l j) (l.getD j default) fuel).2.2=0):Z6 QB p fuel s l j=false:=by
 cases hk:Z6 QB p fuel s l j with
 | false=>rfl
 | true=>rw [QLs hr hf hj hv hk] at h;exact absurd rfl h
def QJD:List (List Nat):=[[1,3,4,6,8],[1,3,4,6,8,10],[1,3,4,6,8,10,24,25,26],[1,3,4,6,8,10,24,25,26,27],[1,3,4,6,8,10,12,13,24,25,26],[1,3,4,6,8,10,12,14,15,16,24,25,26],[1,3,4,6,8,10,12,14,15,24,25,26,42],[8,9],[1,3,4,6,8,10,15,24,25,26],[1,3,4,6,8,10,24,25,26],[1,3,4,6,8,10,24,25,26],[8,9]]
theorem QAw (p:Prg) (l:List Pck) (b:Bud) (hp:p.Fit) (hr:QN p=true) (hf:0≤b.fuel∧b.fuel≤4096) (hl:l.length≤256) {X:Nat→List Obj} {N r:Nat} {f:FuncId} {caps:List E} (hG:Grow p l b X N r f caps) (hN:N≤1000) {c:Bool} {pv:List V} (hpv:pv=l.map Pck.v) {tm:Tm} {out:List Tm} {nt:Nat} {K:St→E→Prop} (ht:Tm.under N tm=true) (ho:QT N out=true) (hk1:Tm.kill r tm=tm) (hk2:out.map (Tm.kill r)=out)
 (h:K { tm:=tm,ob:=X (ZY QB p b.fuel (start QB p b.fuel).1 l),out:=out,nt:=nt } (.tup [.data 47 (Stt.v (QP QB p b.fuel (start QB p b.fuel).1 l (ZY QB p b.fuel (start QB p b.fuel).1 l))),.int .i64 (ZY QB p b.fuel (start QB p b.fuel).1 l)])) :
 CallE Go.Proofs.Tryz.prog tab { tm:=tm,ob:=X 0,out:=out,nt:=nt } 85 [.data 26 p.v,.fs 56 pv c,.data 28 b.v,.fn f caps] K:=by
 subst hpv
 refine CallE.cut N ?_
 have hpp:=hp
 have hok:=Prg.ok hr
 have hcode:True→True:=id
 have hsl:True→True:=id
 have hmx:256<maxLen:=by decide
 have hnr:=Nat.ne_of_row hG.row hN
 have hnr0:=Nat.ne_of_row0 hG.row hN
 obtain ⟨s0,hs0⟩:∃ s0,s0=(start QB p b.fuel).1:=⟨_,rfl⟩
 have hv0:Vld p s0:=by rw [hs0];exact zK Zd hr hok hf
 have hGc:=hG.call
 rw [← hs0] at h hGc
 have hk1':(tm.map fun x=>(x.1,x.2.1,E.kill r x.2.2))=tm:=hk1
 have ht':∀ m,Tm.under (N+m) tm=true:=fun m=>Tm.under_mono (by omega) ht
 have ho':∀ m,QT (N+m) out=true:=fun m=>Ym (by omega) ho
 have hcU:∀ m,E.underL (N+m) caps=true:=fun m=>E.underL_mono (by omega) hG.capsU
 have hX':∀ k m,QV (N+m) (X k)=true:=fun k m=>YL (by omega) (hG.under k)
 refine CallE.body ok Go.Proofs.Tryz.func85 rfl rfl 54 rfl [.cell 8 47,.tmp 9] rfl (by simp) ?_
 simp only [enter,Zf,Nat.zero_add,Nat.reduceAdd]
 repeat' first
  | ((with_reducible refine SARA.told 4 _ ?_);try simp only [hAt])
  | ((with_reducible refine Q5 fun R1 hR1=>?_);(simp only [go_sem,seval,-List.reduceReplicate,List.append_assoc,List.length_append,hG.len,wl (hG.len _),qp (hG.len _),QAt (hG.len _),yg (hG.len _),Nat.add_zero,Bool.cond_false_right,Bool.cond_true_left]);(repeat' with_reducible refine And.intro ?_ ?_);all_goals first|(refine hR1 _ ?_;clear hR1 R1)|((first|refine ce (cf (qN p b.fuel hpp) ?_ (by first|rfl|(simp [go_sem,List.take_of_length_le,List.length_map];done)|fail))|refine ce (cf (hdo) ?_ (by first|rfl|(simp [go_sem,List.take_of_length_le,List.length_map];done)|fail))|refine ⟨_,_,rfl,.inr (hGc i _ _ _ _ _ hlt (by omega) ?_ ?_ ?_ ?_ ?_ ?_ ?_)⟩);all_goals ((try simp only [go_sem,seval,-List.reduceReplicate,List.append_assoc,List.length_append,hG.len,wl (hG.len _),qp (hG.len _),QAt (hG.len _),yg (hG.len _),Nat.add_zero,Bool.cond_false_right,Bool.cond_true_left]);(repeat' with_reducible refine And.intro ?_ ?_);all_goals first|(refine hR1 _ ?_;clear hR1 R1)|omega|rfl|decide|assumption|(intro _;omega)|(simp;done)|(simp [-List.getD_eq_getElem?_getD];omega)|exact hcode _|(intro _;exact hcode _)|exact hsl _|(intro _;exact hsl _)|(simp [Tm.under,E.under,E.underL,QT,QV,Qq,VP (hG.len _),WW (hG.len _),WE,Xk,ht',ho',hcU,hX',ht,ho,hG.under,hk1',hk1,hk2,hnr,hnr0,hG.kills,decide_true];done)))|omega|rfl|decide|assumption|(intro _;omega)|(simp;done)|(simp [-List.getD_eq_getElem?_getD];omega)|exact hcode _|(intro _;exact hcode _)|exact hsl _|(intro _;exact hsl _)|(simp [Tm.under,E.under,E.underL,QT,QV,Qq,VP (hG.len _),WW (hG.len _),WE,Xk,ht',ho',hcU,hX',ht,ho,hG.under,hk1',hk1,hk2,hnr,hnr0,hG.kills,decide_true];done))
  | ((with_reducible refine Q4 ?_);refine hR _ ?_;clear hR R;try simp only [go_sem,QJD,Nat.reduceBEq])
  | (with_reducible first|refine J1 ?_|refine J2 ?_|refine J3 ?_|refine J4 ?_|refine J5 ?_|refine J6 ?_|refine J7 ?_|refine J8 (by decide) ?_|refine J9 ?_|refine Xu ?_|refine Q2 ?_|refine Q1 ?_|refine Yc ?_|refine Xt ?_)
  | ((with_reducible refine Qe 2 ?_)
     rw [← hs0]
     (with_reducible refine rg QJD fun R hR=>?_);simp only [go_sem,QC])
  | ((with_reducible refine Qe 4 ?_)
     have hlt:i<l.length:=by omega
     have hAt:=Qg Pck.v l (i:=i) (by omega)
     (with_reducible refine rg QJD fun R hR=>?_);simp only [go_sem,QC])
  | ((with_reducible refine Qe 5 ?_)
     have hvi:Vld p (QP QB p b.fuel s0 l i):=Wl Zd hr hok hf hv0 (by omega) hz
     have hdo:=QEF p (QP QB p b.fuel s0 l i) (l.getD i default) b.fuel hpp hvi.shape
     (with_reducible refine rg QJD fun R hR=>?_);simp only [go_sem,QC])
  | ((with_reducible refine Qe 8 ?_)
     have hk:=QNa hr hf hvi hb42
     rw [QLs hr hf hlt hvi hk]
     (with_reducible refine rg QJD fun R hR=>?_);simp only [go_sem,QC])
  | ((with_reducible refine rg QJD fun R hR=>?_);simp only [go_sem,QC])
  | ((with_reducible refine QI 27 rfl (fun hb27=>?_) fun hb27=>?_);all_goals (try simp [-List.getD_eq_getElem?_getD] at hb27;try (exfalso;omega)))
  | ((with_reducible refine QI 42 rfl (fun hb42=>?_) fun hb42=>?_);all_goals (try simp [-List.getD_eq_getElem?_getD] at hb42;try (exfalso;omega)))
  | ((with_reducible refine Ya ?_)
     refine Zv (Qo (by (simp only [VW];rfl))) (Yb (fun n τ=>∃ (i:Nat),n=l.length-i∧(i≤l.length∧∀ k:Nat,k<i→Z6 QB p b.fuel s0 l k=true)∧τ={ tm:=[(1,true,.fs 56 (l.map Pck.v) c),(3,true,.fn f caps),(4,true,.ptr N [] 26),(6,true,.ptr (N+1) [] 28),(8,true,.ptr (N+2) [] 47),(10,true,.ptr (N+3) [] 47),(24,true,.fs 56 (l.map Pck.v) c),(25,true,.int .i64 l.length),(26,true,.int .i64 i)],ob:=X i++[.var 26 (.data 26 p.v),.var 28 (.data 28 b.v),.var 47 (.data 47 (tab.zero 47)),.var 47 (.data 47 (Stt.v (QP QB p b.fuel s0 l i)))],out:=(tm::out),nt:=54 }) (l.length) ⟨0,rfl,⟨by omega,fun k h=>by omega⟩,rfl⟩ ?_)
     rintro n τ ⟨i,hn,⟨hi,hz⟩,rfl⟩)
  | ((with_reducible refine WC ?_)
     first
      | (have hlt:i<l.length:=by omega
         have hw:=QD hlt (show l.length≤maxLen by omega)
         refine Z0 (l.length-(i+1)) _ (by omega) ((WS (N+4) (by simp [St.under,List.append_assoc,Tm.under,E.under,E.underL,QT,QV,Qq,VP (hG.len _),WW (hG.len _),WE,Xk,ht',ho',hcU,hX',ht,ho,hG.under,hk1',hk1,hk2,hnr,hnr0,hG.kills,decide_true])).trans (Qo (by simp [-List.getD_eq_getElem?_getD,hw,VP (hG.len _)]))) ⟨i+1,rfl,⟨hlt,fun k h=>?_⟩,rfl⟩
         by_cases h2:k<i
         · exact hz k h2
         · have h3:k=i:=by omega
           rw [h3];exact hk))
  | ((with_reducible first|refine xQ ?_|refine xP ?_)
     simp only [go_sem,QL,QM,QH,seval]
     simp only [go_sem,seval,-List.reduceReplicate,List.append_assoc,List.length_append,hG.len,wl (hG.len _),qp (hG.len _),QAt (hG.len _),yg (hG.len _),Nat.add_zero,Bool.cond_false_right,Bool.cond_true_left]
     first
      | (have q:=hb42
         have hk:=QNb hr hf hlt hvi hb42
         rw [QCd QB hlt hk hz] at h
         refine ⟨⟨by simp [St.under,Tm.under,E.under,E.underL,QT,QV,Qq,VP (hG.len _),WW (hG.len _),WE,Xk,ht',ho',hcU,hX',ht,ho,hG.under,hk1',hk1,hk2,hnr,hnr0,hG.kills,decide_true],rfl⟩,?_⟩
         simpa [WW (hG.len _)] using h)
      | (have hi':i=l.length:=by omega
         subst hi'
         rw [qF QB (fun k h=>hz k (by omega))] at h
         refine ⟨⟨by simp [St.under,Tm.under,E.under,E.underL,QT,QV,Qq,VP (hG.len _),WW (hG.len _),WE,Xk,ht',ho',hcU,hX',ht,ho,hG.under,hk1',hk1,hk2,hnr,hnr0,hG.kills,decide_true],rfl⟩,?_⟩
         simpa [WW (hG.len _)] using h))
theorem Grow.ext {p:Prg} {l:List Pck} {b:Bud} {X:Nat→List Obj} {N r:Nat} {f:FuncId} {caps:List E} (hG:Grow p l b X N r f caps) {M:List Obj} (hu:QV (N+M.length) M=true) (hk:M.map (Obj.kill r)=M) :
 Grow p l b (fun k=>X k++M) (N+M.length) r f caps:=by
 refine ⟨fun k=>by rw [List.length_append,hG.len],fun k=>by rw [Qq,YL (Nat.le_add_right _ _) (hG.under k),hu];rfl,E.underL_mono (Nat.le_add_right _ _) hG.capsU,hG.kills,by have:=hG.row;omega,?_⟩
 intro k tm out nt L K h0 h00 h1 h2 h3 h4 h5 h6 h7
 have e:N+(M++L).length=N+M.length+L.length:=by rw [List.length_append,Nat.add_assoc]
 have:=hG.call k tm out nt (M++L) K h0 h00 (by rw [e];exact h1) (by rw [e];exact h2) (by rw [e,Qq,h3,YL (Nat.le_add_right _ _) hu];rfl) h4 h5 (by rw [List.map_append,hk,h6]) (by rw [← List.append_assoc];exact h7)
 rw [← List.append_assoc] at this
 exact this
theorem xg {p:Prg} {l:List Pck} {b:Bud} (h:¬ZR p l.length b=0):XX p l b=(0,zeroStt,ZR p l.length b,0):=if_pos h
theorem yG {p:Prg} {l:List Pck} {b:Bud} (h:ZR p l.length b=0) (h2:b.steps<(l.length:Int)):XX p l b=(0,zeroStt,2,b.steps):=(if_neg (fun q=>q h)).trans (if_pos h2)
theorem wY {p:Prg} {l:List Pck} {b:Bud} (h:ZR p l.length b=0) (h2:¬b.steps<(l.length:Int)) (h3:ZY QB p b.fuel (start QB p b.fuel).1 l<l.length):XX p l b=(ZY QB p b.fuel (start QB p b.fuel).1 l,zeroStt,5,((ZY QB p b.fuel (start QB p b.fuel).1 l:Nat):Int)):=(if_neg (fun q=>q h)).trans ((if_neg h2).trans (if_pos h3))
theorem zQ {p:Prg} {l:List Pck} {b:Bud} (h:ZR p l.length b=0) (h2:¬b.steps<(l.length:Int)) (h3:¬ZY QB p b.fuel (start QB p b.fuel).1 l<l.length):XX p l b=(l.length,QP QB p b.fuel (start QB p b.fuel).1 l l.length,0,0):=(if_neg (fun q=>q h)).trans ((if_neg h2).trans (if_neg h3))
def QLB:List (List Nat):=[[1,3,4,6,8],[1,3,4,6,8,11],[1,3,4,6,8,11,20],[8,9,10],[1,3,4,6,8,27],[8,9,10],[1,8,12,13],[8,12,13,42],[8,9,10],[8,9,10]]
end Go.Eng.Tryz
