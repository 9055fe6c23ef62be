/- A part of the proof: walks through the program's functions, and what they compute. -/
import Derived.Test.YtedceinkpkoncaaGreatDoorPk7
import Derived.Test.YtedceinkpkoncaaGreatDoorPk19
set_option linter.unusedSimpArgs false
set_option linter.unusedVariables false
namespace Go.Eng.Tryz
open Go.RowKit Go.Eng
set_option maxHeartbeats 0
set_option maxRecDepth 20000
theorem Uz (p:Prg) (s:Stt) (x:Pck) (fuel:Int) (hp:p.Fit) (hs:s.Shape):Ctr Go.Proofs.Tryz.prog tab 15 [26,37,39,3] [37,48,49] [p.v,s.v,x.v,.int fuel] [(xQ p s x fuel).1.v,(xQ p s x fuel).2.1.v,.int (xQ p s x fuel).2.2]:=by
 have hpp:=hp
 have hfit:=hp
 have hcode:=p.code_len hp
 have hsl:=p.sels_len hp
 obtain ⟨hp1,hp2,hp3,hp4⟩:=hp
 have hs1:=hs.vars
 have hs2:=hs.owner
 have hs3:=hs.chans
 have hs5:=hs.gos
 have hmx:256≤maxLen:=by decide
 refine Ctr.body ok Go.Proofs.Tryz.func15 rfl rfl 159 rfl [.cell 8 37,.cell 9 48,.tmp 10] rfl (by simp [QE]) ?_
 simp only [go_sem,Nat.reduceAdd]
 repeat' first
  | ((with_reducible refine SART.told 6 8 ?_)
     rcases Bool.eq_false_or_eq_true (decide (x.go<0)||decide (6≤x.go)) with hgo|hgo<;>simp only [hgo])
  | ((with_reducible refine SART.told 6 12 ?_)
     rcases Bool.eq_false_or_eq_true (WE s x.go) with hlv0|hlv0<;>try simp only [hlv0])
  | ((with_reducible refine SARA.told 12 2 ?_)
     rw [Qr Access.v (touch p s x.go) (by omega)])
  | ((with_reducible first|refine Q2 fun R1 hR1=>?_|refine qR fun R1 hR1=>?_|refine qQ fun R1 hR1=>?_|refine qP fun R1 hR1=>?_);(simp only [go_sem,seval,-List.reduceReplicate,Bool.cond_false_right,Bool.cond_true_left,VA,qK,QGW,QF,ZY,Event.at7,vN,U9,wR,QBp,Event.put5,Event.put6,Event.put7,Event.put8,machV.s1,machV.s4,machV.s5,machV.v0,machV.v1,machV.v2,machV.v3,machV.v4,machV.v5,Zs,ZC,List.set_set,Chn.put0,Chn.put1,Chn.put2,Chn.put3,Chn.put4,Chn.put5,Stt.put0,Stt.put1,Stt.put2,Stt.put3,Stt.put4]);(repeat' with_reducible refine And.intro ?_ ?_);all_goals first|(refine hR1 _ ?_;clear hR1 R1)|((first|refine ⟨_,_,rfl,.inr (QHB p s x.go x.alt fuel hpp hr hv hgc ha fun ys nx md hn=>?_)⟩|refine ⟨_,_,rfl,.inr (QCq p _ x.go hg6 (by first|exact hS1|exact hS2) fuel _ _ _ hpp ?_)⟩|refine cq (cc (Vg p s hpp hs) (by first|rfl|(simp [go_sem,List.length_map,List.take_of_length_le,Zx,ZW,yX];done)|fail)) ?_|refine ⟨_,_,rfl,.inl ⟨_,fun hg=>CallQ.ctr ok (Vg p s hpp hs) (by first|rfl|(simp [go_sem,List.length_map,List.take_of_length_le,Zx,ZW,yX];done)|fail) rfl,?_⟩⟩|refine cq (cc (Yt s x.go hs (YI hgo)) (by first|rfl|(simp [go_sem,List.length_map,List.take_of_length_le,Zx,ZW,yX];done)|fail)) ?_|refine ⟨_,_,rfl,.inl ⟨_,fun hg=>CallQ.ctr ok (Yt s x.go hs (YI hgo)) (by first|rfl|(simp [go_sem,List.length_map,List.take_of_length_le,Zx,ZW,yX];done)|fail) rfl,?_⟩⟩|refine ce (cf (WA p s x.go hpp hr hv ⟨(YI hgo).1,Zv hv (YI hgo).1 (YI hgo).2 hlv0⟩ ((XR hv (YI hgo).1 (YI hgo).2).trans hlv0)) ?_ (by first|rfl|(simp [go_sem,List.length_map,List.take_of_length_le,Zx,ZW,yX];done)|fail))|refine ⟨_,_,rfl,.inr ⟨fun _=>CallE.ctr ok (WA p s x.go hpp hr hv ⟨(YI hgo).1,Zv hv (YI hgo).1 (YI hgo).2 hlv0⟩ ((XR hv (YI hgo).1 (YI hgo).2).trans hlv0)) (by first|rfl|(simp [go_sem,List.length_map,List.take_of_length_le,Zx,ZW,yX];done)|fail) ?_,?_⟩⟩|refine ⟨_,_,rfl,.inr (CallB.ctr ok (WA p s x.go hpp hr hv ⟨(YI hgo).1,Zv hv (YI hgo).1 (YI hgo).2 hlv0⟩ ((XR hv (YI hgo).1 (YI hgo).2).trans hlv0)) (by first|rfl|(simp [go_sem,List.length_map,List.take_of_length_le,Zx,ZW,yX];done)|fail) ?_)⟩|refine ⟨_,_,rfl,.inr ⟨fun _=>CallB.ctr ok (WA p s x.go hpp hr hv ⟨(YI hgo).1,Zv hv (YI hgo).1 (YI hgo).2 hlv0⟩ ((XR hv (YI hgo).1 (YI hgo).2).trans hlv0)) (by first|rfl|(simp [go_sem,List.length_map,List.take_of_length_le,Zx,ZW,yX];done)|fail) ?_,?_⟩⟩|refine ⟨_,_,rfl,.inl ⟨_,QFW (Qj p s x.go) x.alt hl5 rfl,?_⟩⟩|refine cq (cc (Xt p s x.go hpp hr hw hgc) (by first|rfl|(simp [go_sem,List.length_map,List.take_of_length_le,Zx,ZW,yX];done)|fail)) ?_|refine ⟨_,_,rfl,.inl ⟨_,fun hg=>CallQ.ctr ok (Xt p s x.go hpp hr hw hgc) (by first|rfl|(simp [go_sem,List.length_map,List.take_of_length_le,Zx,ZW,yX];done)|fail) rfl,?_⟩⟩|refine ce (cf (Vf p s x.go hpp hr hv hgc) ?_ (by first|rfl|(simp [go_sem,List.length_map,List.take_of_length_le,Zx,ZW,yX];done)|fail))|refine ⟨_,_,rfl,.inr ⟨fun _=>CallE.ctr ok (Vf p s x.go hpp hr hv hgc) (by first|rfl|(simp [go_sem,List.length_map,List.take_of_length_le,Zx,ZW,yX];done)|fail) ?_,?_⟩⟩|refine ⟨_,_,rfl,.inr (CallB.ctr ok (Vf p s x.go hpp hr hv hgc) (by first|rfl|(simp [go_sem,List.length_map,List.take_of_length_le,Zx,ZW,yX];done)|fail) ?_)⟩|refine ⟨_,_,rfl,.inr ⟨fun _=>CallB.ctr ok (Vf p s x.go hpp hr hv hgc) (by first|rfl|(simp [go_sem,List.length_map,List.take_of_length_le,Zx,ZW,yX];done)|fail) ?_,?_⟩⟩|refine ⟨_,_,rfl,.inl ⟨_,Vi p _ x.go hg6 fuel _ _ rfl,?_⟩⟩|refine ⟨_,_,rfl,.inl ⟨.bool false,?_⟩⟩);all_goals ((try simp only [go_sem,seval,-List.reduceReplicate,Bool.cond_false_right,Bool.cond_true_left,VA,qK,QGW,QF,ZY,Event.at7,vN,U9,wR,QBp,Event.put5,Event.put6,Event.put7,Event.put8,machV.s1,machV.s4,machV.s5,machV.v0,machV.v1,machV.v2,machV.v3,machV.v4,machV.v5,Zs,ZC,List.set_set,Chn.put0,Chn.put1,Chn.put2,Chn.put3,Chn.put4,Chn.put5,Stt.put0,Stt.put1,Stt.put2,Stt.put3,Stt.put4]);(repeat' with_reducible refine And.intro ?_ ?_);all_goals first|(refine hR1 _ ?_;clear hR1 R1)|exact ZQ))|exact ZQ)
  | ((with_reducible refine SART.doneAt 26 ?_);refine hR _ ?_;clear hR R;try simp only [go_sem,wd,Nat.reduceBEq]
     first|(have e:xQ p s x fuel=(ms,event p s x mv,0):=(by rw [WY hb23 hnf ha,hA hb137]);rw [e];exact (WN 5 rfl).trans (Qq (by rw [zS,QCK hb129,← hkl];rfl)))|(have e:xQ p s x fuel=((Qd QB p (Qd QB p (pcS ms x.go nx) x.go fuel).1 md fuel).1,event p s x mv,0):=(by rw [WY hb23 hnf ha,hT,if_pos hb150]);rw [e];exact (WN 5 rfl).trans (Qq (by rw [zS,QCK hb129,← hkl];rfl)))|(have e:xQ p s x fuel=((Qd QB p (pcS ms x.go nx) x.go fuel).1,event p s x mv,0):=(by rw [WY hb23 hnf ha,hT,if_neg (Int.not_le.2 hb150)]);rw [e];exact (WN 5 rfl).trans (Qq (by rw [zS,QCK hb129,← hkl];rfl)))|(have e:xQ p s x fuel=(ms,event p s x mv,0):=(by rw [WY hb23 hnf ha,hA hb137]);rw [e];exact (WN 5 rfl).trans (Qq (by rw [zS,QEu hb129,← hkl];rfl)))|(have e:xQ p s x fuel=((Qd QB p (Qd QB p (pcS ms x.go nx) x.go fuel).1 md fuel).1,event p s x mv,0):=(by rw [WY hb23 hnf ha,hT,if_pos hb150]);rw [e];exact (WN 5 rfl).trans (Qq (by rw [zS,QEu hb129,← hkl];rfl)))|(have e:xQ p s x fuel=((Qd QB p (pcS ms x.go nx) x.go fuel).1,event p s x mv,0):=(by rw [WY hb23 hnf ha,hT,if_neg (Int.not_le.2 hb150)]);rw [e];exact (WN 5 rfl).trans (Qq (by rw [zS,QEu hb129,← hkl];rfl))))
  | ((with_reducible first|refine qO ?_|refine Q1 ?_);refine hR _ ?_;clear hR R;try simp only [go_sem,wd,Nat.reduceBEq])
  | (with_reducible first|refine qN ?_ ?_|exact qM|refine qL ?_ ?_)
  | (with_reducible first|refine J1 ?_|refine J2 ?_|refine J3 ?_|refine J4 ?_|refine J5 ?_|refine J6 ?_|refine J7 ?_|refine J8 (by decide) ?_|refine J9 ?_|refine WL ?_|refine Q0 ?_|refine Qz ?_|refine YZ ?_|refine WK ?_)
  | ((with_reducible refine QZ 8 ?_)
     have ha:x.alt∈Qj p s x.go:=hb60
     have hgc:=(live_iff.1 (Yq ha)).1
     have hct:=hv.count
     have hg6:0≤x.go∧x.go<6:=by omega
     have hnf:¬(fuel<0∨4096<fuel):=by omega
     have hto:=QH5 hok hw hgc
     have hln:=hto.2.2
     refine Zo (WN 5 rfl) ?_
     (with_reducible refine rg wd fun R hR=>?_);simp only [go_sem,QC])
  | ((with_reducible refine QZ 12 ?_)
     have hk6:k<6:=by omega
     (with_reducible refine rg wd fun R hR=>?_);simp only [go_sem,QC])
  | ((with_reducible refine QZ 16 ?_)
     have hkl:k=(touch p s x.go).length:=by omega
     refine Zo ((St.le.keep [3,4,5,6,8,9,12,13]).trans ((WN 7 rfl).trans (Qq (show _=({ tm:=[(3,true,.int .i64 fuel),(4,true,.ptr 0 [] 26),(5,true,.ptr 1 [] 37),(6,true,.ptr 2 [] 39),(8,true,.ptr 3 [] 37),(9,true,.ptr 4 [] 48),(12,true,.ptr 5 [] 129),(13,true,.ptr 6 [] 48)],ob:=[.var 26 (.data 26 p.v),.var 37 (.data 37 s.v),.var 39 (.data 39 x.v),.var 37 (.data 37 zeroStt.v),.var 48 (.data 48 zeroEvent.v),.var 129 (.data 129 (atI p s x.go).v),.var 48 (.data 48 (Event.v (evK p s x 0 0 (touch p s x.go) k)))],out:=[],nt:=159 }:St) from rfl)))) ?_
     (with_reducible refine rg wd fun R hR=>?_);simp only [go_sem,QC])
  | ((with_reducible refine QZ 17 ?_)
     refine Zo (Qq (show _=({ tm:=[(6,true,.ptr 2 [] 39),(8,true,.ptr 3 [] 37),(9,true,.ptr 4 [] 48),(12,true,.ptr 5 [] 129),(13,true,.ptr 6 [] 48),(16,true,.ptr 7 [] 133)],ob:=[.var 26 (.data 26 p.v),.var 37 (.data 37 s.v),.var 39 (.data 39 x.v),.var 37 (.data 37 zeroStt.v),.var 48 (.data 48 zeroEvent.v),.var 129 (.data 129 (atI p s x.go).v),.var 48 (.data 48 (Event.v (evK p s x 0 0 (touch p s x.go) k))),.var 133 (.data 133 (machV p s x.go fuel 0 false))],out:=[],nt:=159 }:St) from rfl)) ?_
     (with_reducible refine rg wd fun R hR=>?_);simp only [go_sem,QC])
  | ((with_reducible refine QZ 18 ?_)
     obtain ⟨ms,mv,mo,hm,hm6,hA,hB⟩:=QFB hr hok hv ha (fuel:=fuel) (by omega) hn
     rw [hm]
     refine Zo ((WN 8 rfl).trans (Qq (show _=({ tm:=[(8,true,.ptr 3 [] 37),(9,true,.ptr 4 [] 48),(12,true,.ptr 5 [] 129),(13,true,.ptr 6 [] 48),(16,true,.ptr 7 [] 133),(17,true,.int .i64 nx),(18,true,.int .i64 md)],ob:=[.var 26 (.data 26 p.v),.var 37 (.data 37 s.v),.var 39 (.data 39 x.v),.var 37 (.data 37 zeroStt.v),.var 48 (.data 48 zeroEvent.v),.var 129 (.data 129 (atI p s x.go).v),.var 48 (.data 48 (Event.v (evK p s x 0 0 (touch p s x.go) k))),.var 133 (.data 133 (machV p ms x.go fuel mv mo))],out:=[],nt:=159 }:St) from rfl))) ?_
     (with_reducible refine rg wd fun R hR=>?_);simp only [go_sem,QC])
  | ((with_reducible refine QZ 23 ?_)
     obtain ⟨hS1,hS2,hT⟩:=hB hb137
     (with_reducible refine rg wd fun R hR=>?_);simp only [go_sem,QC])
  | ((with_reducible refine QZ 6 ?_)
     have hr:=(YP hb23).1
     have hok:=Prg.ok hr
     have hv:=Vld.of hok hs (YP hb23).2
     have hw:=hv.wf hok hr
     have hal:=WB hok hw x.go
     have hl5:(Qj p s x.go).length≤256:=by omega
     refine WJ ok QN (.take 0 (.take 1 (.take 2 (.take 3 (.take 4 (.take 5 (.take 6 (.take 7 (.take 8 (.take 9 (.take 10 (.take 11 (.br 12 (.take 13 (.take 14 (.take 15 (.take 16 (.take 17 (.take 18 (.take 19 (.take 21 (.take 22 (.br 20 (.br 23 (.take 24 (.take 25 .done)) .nil) .nil)))))))))) .nil))))))))))))) [] wd (by kernel_rfl) (fun R hR=>?_);simp only [go_sem,QC])
  | ((with_reducible refine QZ 9 ?_)
     refine WJ ok QN (.take 0 (.take 1 (.take 2 (.take 3 (.take 4 (.take 5 (.take 6 (.take 7 (.take 8 (.take 9 (.take 10 (.take 11 (.take 12 (.take 13 (.take 14 (.take 15 (.take 16 (.take 17 (.take 18 (.br 19 (.br 20 .done .nil) .nil)))))))))))))))))))) [20] wd (by kernel_rfl) (fun R hR=>?_);simp only [go_sem,QC])
  | ((with_reducible refine QZ 26 ?_)
     refine J35 ok QN (.take 0 (.take 1 (.take 2 (.take 3 (.br 4 (.br 5 (.br 6 (.take 7 .done) .nil) .nil) (.br 5 (.take 4 (.br 6 (.take 7 .done) .nil)) .nil)))))) [5,6] wd (by kernel_rfl) ({ tm:=[(8,true,.ptr 3 [] 37),(9,true,.ptr 4 [] 48),(10,true,.int .i64 0)],ob:=[.var 26 (.data 26 p.v),.var 37 (.data 37 s.v),.var 39 (.data 39 x.v),.var 37 (.data 37 (xQ p s x fuel).1.v),.var 48 (.data 48 (xQ p s x fuel).2.1.v)],out:=[],nt:=159 }) (fun R hR=>?_) ?_;simp only [go_sem,QC])
  | ((with_reducible refine rg wd fun R hR=>?_);simp only [go_sem,QC])
  | ((with_reducible refine QH 23 rfl (fun hb23=>?_) fun hb23=>?_);all_goals (try simp [-List.getD_eq_getElem?_getD] at hb23;try (exfalso;omega)))
  | ((with_reducible refine QH 32 rfl (fun hb32=>?_) fun hb32=>?_);all_goals (try simp [-List.getD_eq_getElem?_getD] at hb32;try (exfalso;omega)))
  | ((with_reducible refine QH 60 rfl (fun hb60=>?_) fun hb60=>?_);all_goals (try simp [-List.getD_eq_getElem?_getD] at hb60;try (exfalso;omega)))
  | ((with_reducible refine QH 129 rfl (fun hb129=>?_) fun hb129=>?_);all_goals (try simp [-List.getD_eq_getElem?_getD] at hb129;try (exfalso;omega)))
  | ((with_reducible refine QH 137 rfl (fun hb137=>?_) fun hb137=>?_);all_goals (try simp [-List.getD_eq_getElem?_getD] at hb137;try (exfalso;omega)))
  | ((with_reducible refine QH 150 rfl (fun hb150=>?_) fun hb150=>?_);all_goals (try simp [-List.getD_eq_getElem?_getD] at hb150;try (exfalso;omega)))
  | ((with_reducible refine SA.cond rfl ?_ ?_)
     all_goals
      intro hb
      try simp [-List.getD_eq_getElem?_getD] at hb
      try (exfalso;omega))
  | ((with_reducible refine YQ ?_)
     refine Zo (Qq (by rfl)) (YR (fun n τ=>∃ (k:Nat),n=(touch p s x.go).length-k∧(k≤(touch p s x.go).length)∧τ={ tm:=[(3,true,.int .i64 fuel),(4,true,.ptr 0 [] 26),(5,true,.ptr 1 [] 37),(6,true,.ptr 2 [] 39),(8,true,.ptr 3 [] 37),(9,true,.ptr 4 [] 48),(12,true,.ptr 5 [] 129),(13,true,.ptr 6 [] 48),(91,true,.sl 7 45 0 (touch p s x.go).length false),(92,true,.int .i64 (touch p s x.go).length),(93,true,.int .i64 k)],ob:=[.var 26 (.data 26 p.v),.var 37 (.data 37 s.v),.var 39 (.data 39 x.v),.var 37 (.data 37 zeroStt.v),.var 48 (.data 48 zeroEvent.v),.var 129 (.data 129 (atI p s x.go).v),.var 48 (.data 48 (Event.v (evK p s x 0 0 (touch p s x.go) k))),.row 45 ((touch p s x.go).map Access.v)],out:=[],nt:=159 }) ((touch p s x.go).length) ⟨0,rfl,by omega,rfl⟩ ?_)
     rintro n τ ⟨k,hn,hk,rfl⟩)
  | ((with_reducible refine WM ?_)
     first
      | (have hw2:=QD (n:=k) (m:=256) (by omega) (by decide)
         have e:=wP (touch p s x.go) hk6
         refine Zt ((touch p s x.go).length-(k+1)) _ (by omega) ((WN 8 rfl).trans (Qq ?_)) ⟨k+1,rfl,by omega,rfl⟩
         simp only [hw2,evK,e,List.take_succ_cons,List.take_zero]))
  | ((with_reducible first|refine ZH ?_|refine ZG ?_)
     simp only [go_sem,QJ,QK,QG,seval]
     first
      | (have q:¬_:=hb23
         rw [QC8 hb23]
         exact ⟨⟨rfl,rfl⟩,⟨rfl,rfl⟩,rfl,rfl⟩)
      | (have q:_∨_:=hb32
         rw [QJa hb23 hb32]
         exact ⟨⟨rfl,rfl⟩,⟨rfl,rfl⟩,rfl,rfl⟩)
      | (rw [xB hb23 (by omega) (QCA hv (.inl (QLI hgo)))]
         exact ⟨⟨rfl,rfl⟩,⟨rfl,rfl⟩,rfl,rfl⟩)
      | (rw [xB hb23 (by omega) (QCA hv (.inr hlv0))]
         exact ⟨⟨rfl,rfl⟩,⟨rfl,rfl⟩,rfl,rfl⟩)
      | (have q:¬_:=hb60
         rw [xB hb23 (by omega) hb60]
         exact ⟨⟨rfl,rfl⟩,⟨rfl,rfl⟩,rfl,rfl⟩)
      | (have e:=WY hb23 hnf ha
         rw [e]
         exact ⟨rfl,rfl,rfl,rfl⟩))
end Go.Eng.Tryz
namespace Go.Eng.Tryz
open Go.RowKit Go.Eng
set_option maxHeartbeats 0
set_option maxRecDepth 20000
def p0:Prg:=⟨[],0,[],[⟨0,0,[⟨64,0,0,0,0⟩,⟨45,0,0,0,0⟩],[]⟩]⟩
def s0:Stt:=⟨List.replicate 8 0,List.replicate 4 0,List.replicate 4 zeroChn,[⟨1,0,0,0,List.replicate 8 0⟩,zeroGor,zeroGor,zeroGor,zeroGor,zeroGor],1⟩
def s1:Stt:=⟨List.replicate 8 0,List.replicate 4 0,List.replicate 4 zeroChn,[⟨3,0,1,0,List.replicate 8 0⟩,zeroGor,zeroGor,zeroGor,zeroGor,zeroGor],1⟩
def e1:Event:=⟨0,0,0,64,0,0,0,[⟨5,0,true⟩,⟨0,0,false⟩,⟨0,0,false⟩,⟨0,0,false⟩,⟨0,0,false⟩,⟨0,0,false⟩],1⟩
theorem ve:p0.Fit:=⟨by decide,by decide,by decide,by
 intro f hf
 simp [p0] at hf
 subst hf
 exact ⟨by decide,by decide,by intro s hs;simp at hs⟩⟩
end Go.Eng.Tryz
