/- A part of the proof: walks through the program's functions, and what they compute. -/
import Derived.Test.YtmonhjagbhpbeaaGreatDoorPk8
import Derived.Test.YtmonhjagbhpbeaaGreatDoorPk10
import Derived.Shelf.Spec.TrailingZeros
set_option linter.unusedSimpArgs false
set_option linter.unusedVariables false
namespace Go.Eng.Tryz
open Go.RowKit Go.Eng
set_option maxHeartbeats 0
set_option maxRecDepth 20000
theorem y6 (p:Prg) (s:Stt) (hp:p.Fit) (hs:s.Shape):Ctr Go.Proofs.Tryz.prog tab 89 [26,47] [4] [p.v,s.v] [.bool (YI p s)]:=by
 have hpp:=hp
 have hfit:=hp
 have hcode:=p.code_len hp
 have hsl:=p.sels_len hp
 obtain ⟨hp1,hp2,hp3,hp4⟩:=hp
 have hs1:=hs.vars
 have hs2:=hs.owner
 have hs3:=hs.chans
 have hs5:=hs.gos
 refine Ctr.body ok Go.Proofs.Tryz.func89 rfl rfl 144 rfl [.tmp 4] rfl (by simp [QF]) ?_
 simp only [go_sem,Nat.reduceAdd]
 repeat' first
  | ((with_reducible refine SARA.told 17 2 ?_)
     rw [Yf (by omega)])
  | ((with_reducible refine SARA.told 24 2 ?_)
     rw [Zl (by omega)])
  | ((with_reducible refine SARA.told 35 2 ?_)
     rw [Yf (by omega)])
  | ((with_reducible refine Q5 fun R1 hR1=>?_);(simp only [go_sem,seval,-List.reduceReplicate,Bool.cond_false_right,Bool.cond_true_left,QAI,QAJ,Q6,V9]);(repeat' with_reducible refine And.intro ?_ ?_);all_goals first|(refine hR1 _ ?_;clear hR1 R1)|(intro hgf;simp only [hgf];refine hR1 _ ?_;clear hR1 R1)|((first|refine cq (cc (Vt p hpp)) ?_|refine Y4 (fun hg=>cc (Vt p hpp)) ?_|refine cq (cc (QFj p (s.gos.getD i default) hpp (hs.regs _ (Qj (i:=i) _ (by omega))))) ?_|refine Y4 (fun hg=>cc (QFj p (s.gos.getD i default) hpp (hs.regs _ (Qj (i:=i) _ (by omega))))) ?_|refine cq (cc (xk p s (i:Int) hpp hr (by omega) hs (by omega) hg)) ?_|refine Y4 (fun hg=>cc (xk p s (i:Int) hpp hr (by omega) hs (by omega) hg)) ?_);all_goals ((try simp only [go_sem,seval,-List.reduceReplicate,Bool.cond_false_right,Bool.cond_true_left,QAI,QAJ,Q6,V9]);(repeat' with_reducible refine And.intro ?_ ?_);all_goals first|(refine hR1 _ ?_;clear hR1 R1)|(intro hgf;simp only [hgf];refine hR1 _ ?_;clear hR1 R1)|exact Zp))|exact Zp)
  | ((with_reducible refine Q4 ?_);refine hR _ ?_;clear hR R;try simp only [go_sem,QK7,Nat.reduceBEq])
  | (with_reducible first|refine J1 ?_|refine J2 ?_|refine J3 ?_|refine J4 ?_|refine J5 ?_|refine J6 ?_|refine J7 ?_|refine J8 (by decide) ?_|refine J9 ?_|refine Xu ?_|refine Q2 ?_|refine Q1 ?_|refine Yc ?_|refine Xt ?_)
  | ((with_reducible refine Qe 33 ?_)
     have hi4:i=4:=by omega
     subst hi4
     (with_reducible refine rg QK7 fun R hR=>?_);simp only [go_sem,QC])
  | ((with_reducible refine Qe 31 ?_)
     have hfr:=QDN hb117 hb120
     have hfo:=QBE s i (g:=(s.chans.getD i default).from_) (by omega) (by omega)
     have hfs:=za s (s.chans.getD i default).from_ i
     (with_reducible refine rg QK7 fun R hR=>?_);simp only [go_sem,QC])
  | ((with_reducible refine Qe 3 ?_)
     have hr:QN p=true:=hb28.1.1
     have hok:=Prg.ok hr
     (with_reducible refine rg QK7 fun R hR=>?_);simp only [go_sem,QC])
  | ((with_reducible refine rg QK7 fun R hR=>?_);simp only [go_sem,QC])
  | ((with_reducible refine QI 28 rfl (fun hb28=>?_) fun hb28=>?_);all_goals (try simp [-List.getD_eq_getElem?_getD] at hb28;try (exfalso;omega)))
  | ((with_reducible refine QI 32 rfl (fun hb32=>?_) fun hb32=>?_);all_goals (try simp [-List.getD_eq_getElem?_getD] at hb32;try (exfalso;omega)))
  | ((with_reducible refine QI 43 rfl (fun hb43=>?_) fun hb43=>?_);all_goals (try simp [-List.getD_eq_getElem?_getD] at hb43;try (exfalso;omega)))
  | ((with_reducible refine QI 48 rfl (fun hb48=>?_) fun hb48=>?_);all_goals (try simp [-List.getD_eq_getElem?_getD] at hb48;try (exfalso;omega)))
  | ((with_reducible refine QI 68 rfl (fun hb68=>?_) fun hb68=>?_);all_goals (try simp [-List.getD_eq_getElem?_getD] at hb68;try (exfalso;omega)))
  | ((with_reducible refine QI 73 rfl (fun hb73=>?_) fun hb73=>?_);all_goals (try simp [-List.getD_eq_getElem?_getD] at hb73;try (exfalso;omega)))
  | ((with_reducible refine QI 96 rfl (fun hb96=>?_) fun hb96=>?_);all_goals (try simp [-List.getD_eq_getElem?_getD] at hb96;try (exfalso;omega)))
  | ((with_reducible refine QI 102 rfl (fun hb102=>?_) fun hb102=>?_);all_goals (try simp [-List.getD_eq_getElem?_getD] at hb102;try (exfalso;omega)))
  | ((with_reducible refine QI 109 rfl (fun hb109=>?_) fun hb109=>?_);all_goals (try simp [-List.getD_eq_getElem?_getD] at hb109;try (exfalso;omega)))
  | ((with_reducible refine QI 112 rfl (fun hb112=>?_) fun hb112=>?_);all_goals (try simp [-List.getD_eq_getElem?_getD] at hb112;try (exfalso;omega)))
  | ((with_reducible refine QI 117 rfl (fun hb117=>?_) fun hb117=>?_);all_goals (try simp [-List.getD_eq_getElem?_getD] at hb117;try (exfalso;omega)))
  | ((with_reducible refine QI 120 rfl (fun hb120=>?_) fun hb120=>?_);all_goals (try simp [-List.getD_eq_getElem?_getD] at hb120;try (exfalso;omega)))
  | ((with_reducible refine QI 131 rfl (fun hb131=>?_) fun hb131=>?_);all_goals (try simp [-List.getD_eq_getElem?_getD] at hb131;try (exfalso;omega)))
  | ((with_reducible refine QI 142 rfl (fun hb142=>?_) fun hb142=>?_);all_goals (try simp [-List.getD_eq_getElem?_getD] at hb142;try (exfalso;omega)))
  | ((with_reducible refine Ya ?_)
     refine Zv (Qo (by first|rfl|(simp;done)|fail)) (Yb (fun n τ=>∃ (i:Nat),n=8-i∧(i≤8∧∀ k:Nat,k<i→p.vars.length≤k→s.vars.getD k 0=0)∧τ={ tm:=[(2,true,.ptr 0 [] 26),(3,true,.ptr 1 [] 47),(30,true,.data 37 (.agg (s.vars.map V.int))),(31,true,.int .i64 i)],ob:=[.var 26 (.data 26 p.v),.var 47 (.data 47 s.v)],out:=[],nt:=144 }) (8) ⟨0,rfl,⟨by omega,fun k h=>by omega⟩,rfl⟩ ?_)
     rintro n τ ⟨i,hn,⟨hi,hz⟩,rfl⟩)
  | ((with_reducible refine Ya ?_)
     refine Zv (Qo (by first|rfl|(simp;done)|fail)) (Yb (fun n τ=>∃ (i:Nat),n=4-i∧(i≤4∧VM p s 8=true∧YU p s i=true)∧τ={ tm:=[(2,true,.ptr 0 [] 26),(3,true,.ptr 1 [] 47),(46,true,.data 38 (.agg (s.owner.map V.int))),(47,true,.int .i64 i)],ob:=[.var 26 (.data 26 p.v),.var 47 (.data 47 s.v)],out:=[],nt:=144 }) (4) ⟨0,rfl,⟨by omega,wQ (fun k h1 h2=>hz k (by omega) h1),rfl⟩,rfl⟩ ?_)
     rintro n τ ⟨i,hn,⟨hi,hv,ho⟩,rfl⟩)
  | ((with_reducible refine Ya ?_)
     refine Zv (Qo (by first|rfl|(simp;done)|fail)) (Yb (fun n τ=>∃ (i:Nat),n=6-i∧(i≤6∧VM p s 8=true∧YU p s 4=true∧Yx p s i=true)∧τ={ tm:=[(2,true,.ptr 0 [] 26),(3,true,.ptr 1 [] 47),(71,true,.data 45 (.agg (s.gos.map Gor.v))),(72,true,.int .i64 i)],ob:=[.var 26 (.data 26 p.v),.var 47 (.data 47 s.v)],out:=[],nt:=144 }) (6) ⟨0,rfl,⟨by omega,hv,(show i=4 by omega)▸ho,rfl⟩,rfl⟩ ?_)
     rintro n τ ⟨i,hn,⟨hi,hv,ho,hg⟩,rfl⟩)
  | ((with_reducible refine Ya ?_)
     refine Zv (Qo (by first|rfl|(simp;done)|fail)) (Yb (fun n τ=>∃ (i:Nat),n=4-i∧(i≤4∧VM p s 8=true∧YU p s 4=true∧Yx p s 6=true∧XT p s i=true)∧τ={ tm:=[(2,true,.ptr 0 [] 26),(3,true,.ptr 1 [] 47),(11,true,.ptr 2 [] 215),(100,true,.data 42 (.agg (s.chans.map Chn.v))),(101,true,.int .i64 i)],ob:=[.var 26 (.data 26 p.v),.var 47 (.data 47 s.v),.var 215 (.data 215 (.agg ((WD s i).map V.int)))],out:=[],nt:=144 }) (4) ⟨0,rfl,⟨by omega,hv,ho,(show i=6 by omega)▸hg,rfl⟩,rfl⟩ ?_)
     rintro n τ ⟨i,hn,⟨hi,hv,ho,hg,hc⟩,rfl⟩)
  | ((with_reducible refine Ya ?_)
     refine Zv (Qo (by first|rfl|(simp;done)|fail)) (Yb (fun n τ=>∃ (i:Nat),n=6-i∧(i≤6∧VM p s 8=true∧YU p s 4=true∧Yx p s 6=true∧XT p s 4=true∧Y5 s i=true)∧τ={ tm:=[(11,true,.ptr 2 [] 215),(129,true,.data 45 (.agg (s.gos.map Gor.v))),(130,true,.int .i64 i)],ob:=[.var 26 (.data 26 p.v),.var 47 (.data 47 s.v),.var 215 (.data 215 (.agg ((WD s 4).map V.int)))],out:=[],nt:=144 }) (6) ⟨0,rfl,⟨by omega,hv,ho,hg,hc,rfl⟩,rfl⟩ ?_)
     rintro n τ ⟨i,hn,⟨hi,hv,ho,hg,hc,hw4⟩,rfl⟩)
  | ((with_reducible refine WC ?_)
     first
      | (have hlt:i<8:=by omega
         have hw:=QD (n:=i) (m:=256) (by omega) (by decide)
         refine Z0 (8-(i+1)) _ (by omega) (Qo (by simp only [hw])) ⟨i+1,rfl,⟨hlt,fun k h1 h2=>?_⟩,rfl⟩
         by_cases h3:k<i
         · exact hz k h3 h2
         · have h4:k=i:=by omega
           rw [h4] at h2 ⊢
           exact hb43 (by omega))
      | (have hlt:i<4:=by omega
         have hw:=QD (n:=i) (m:=256) (by omega) (by decide)
         refine Z0 (4-(i+1)) _ (by omega) (Qo (by simp only [hw])) ⟨i+1,rfl,⟨hlt,hv,QFJ ho hb68⟩,rfl⟩)
      | (have hlt:i<6:=by omega
         have hw:=QD (n:=i) (m:=256) (by omega) (by decide)
         refine Z0 (6-(i+1)) _ (by omega) ((WS 2 rfl).trans (Qo (by simp only [hw,List.take_succ_cons,List.take_zero]))) ⟨i+1,rfl,⟨hlt,hv,ho,QC3 hg ⟨hb96.2,hb96.1⟩⟩,rfl⟩)
      | (have q:=hb112
         have hlt:i<4:=by omega
         have hw:=QD (n:=i) (m:=256) (by omega) (by decide)
         have e:=xp (s:=s) (i:=i) (QGC _ hb112)
         refine Z0 (4-(i+1)) _ (by omega) ((WS 3 rfl).trans (Qo (by simp only [hw,e,List.take_succ_cons,List.take_zero]))) ⟨i+1,rfl,⟨hlt,hv,ho,hg,qd hc ⟨fun _=>hb112,fun h=>by omega⟩⟩,rfl⟩)
      | (have q:_=_:=hb120
         have hlt:i<4:=by omega
         have hw:=QD (n:=i) (m:=256) (by omega) (by decide)
         have e:=xp (s:=s) (i:=i) hb120
         refine Z0 (4-(i+1)) _ (by omega) ((WS 3 rfl).trans (Qo (by simp only [hw,e,List.take_succ_cons,List.take_zero]))) ⟨i+1,rfl,⟨hlt,hv,ho,hg,qd hc ⟨fun h=>by omega,fun _=>hb117⟩⟩,rfl⟩)
      | (have q:¬_=_:=hb120
         have hlt:i<4:=by omega
         have hw:=QD (n:=i) (m:=256) (by omega) (by decide)
         have hfr:=QDN hb117 hb120
         have hfs:=za s (s.chans.getD i default).from_ i
         have hw2:IntKind.i64.wrap ((ZF s (s.chans.getD i default).from_ i:Int)+1)=(ZF s (s.chans.getD i default).from_ i:Int)+1:=Qc (by omega) (by omega)
         have e:=QFR (s:=s) (i:=i) hb120 hfr.1 (by omega)
         have hfo:=QBE s i (g:=(s.chans.getD i default).from_) hfr.1 (by omega)
         refine Z0 (4-(i+1)) _ (by omega) ((WS 3 rfl).trans (Qo ?_)) ⟨i+1,rfl,⟨hlt,hv,ho,hg,qd hc ⟨fun h=>by omega,fun _=>hb117⟩⟩,rfl⟩
         simp only [hw,hfo,hw2,ZK,e,List.take_succ_cons,List.take_zero])
      | (have hlt:i<6:=by omega
         have hw:=QD (n:=i) (m:=256) (by omega) (by decide)
         refine Z0 (6-(i+1)) _ (by omega) ((WS 3 rfl).trans (Qo (by simp only [hw,List.take_succ_cons,List.take_zero]))) ⟨i+1,rfl,⟨hlt,hv,ho,hg,hc,QAN hw4 (fun q=>(vJ s hlt).symm.trans (hb142 q))⟩,rfl⟩))
  | ((with_reducible first|refine ZQ ?_|refine ZP ?_)
     simp only [go_sem,QL,QM,QH,seval]
     first
      | (have q:(_∨_)∨_:=hb28
         refine ⟨rfl,?_⟩
         rw [Vn (p:=p) (s:=s) (by rcases hb28 with (h|h)|h;exact .inl h;exact .inr (.inl h);exact .inr (.inr (.inl h)))])
      | (have q:_∧_:=hb43
         refine ⟨rfl,?_⟩
         rw [Vn (p:=p) (s:=s) (.inr (.inr (.inr (.inr (.inl (QEs hb43.1 (by omega) hb43.2))))))])
      | (have q:(_∨_)∨_:=hb68
         refine ⟨rfl,?_⟩
         rw [Vn (p:=p) (s:=s) (.inr (.inr (.inr (.inr (.inr (.inl (QHe (by omega) hb68)))))))])
      | (have q:_∨_:=hb96
         refine ⟨rfl,?_⟩
         rw [Vn (p:=p) (s:=s) (.inr (.inr (.inr (.inl (QFg (i:=i) (by omega) (by rcases hb96 with h|h;exact .inr h;exact .inl h))))))])
      | (have q:¬_:=hb112
         refine ⟨rfl,?_⟩
         rw [Vn (p:=p) (s:=s) (.inr (.inr (.inr (.inr (.inr (.inr (.inl (wu (i:=i) (by omega) (.inl ⟨by omega,hb112⟩)))))))))])
      | (have q:_=false:=hb117
         refine ⟨rfl,?_⟩
         rw [Vn (p:=p) (s:=s) (.inr (.inr (.inr (.inr (.inr (.inr (.inl (wu (i:=i) (by omega) (.inr ⟨by omega,hb117⟩)))))))))])
      | (have q:_∧_:=hb142
         have hci:(i:Int)<s.count:=by
          by_cases h:(i:Int)<s.count
          · exact h
          · have:=List.all_eq_true.1 hg i (List.mem_range.2 (by omega))
            rw [if_neg h] at this
            have:=QEm _ (of_decide_eq_true this)
            simp only [Stt.gor,Int.toNat_natCast] at this
            omega
         refine ⟨rfl,?_⟩
         rw [Vn (p:=p) (s:=s) (.inr (.inr (.inr (.inr (.inr (.inr (.inr (QCS (n:=s.count.toNat) (i:=i) (by omega) ⟨hb142.1,by rw [← vJ s (by omega)];exact hb142.2⟩))))))))])
      | (have hi6:i=6:=by omega
         subst hi6
         refine ⟨rfl,?_⟩
         rw [QIb hr ⟨by omega,by omega⟩ hg hv ho hc (QGI hw4 (by omega))]))
def QN2:Go.Shelf.Ren:={ f:=fun n=>if n=29 then 216 else 0,t:=fun n=>if n=0 then 0 else if n=3 then 3 else if n=4 then 4 else if n=5 then 5 else if n=22 then 266 else if n=25 then 258 else if n=54 then 295 else 0,g:=fun _=>0 }
theorem QRI:Go.Proofs.Lays7.n29 Go.Proofs.Tryz.prog QN2 where
 mixed:=Eq.refl true
 f29:=Eq.trans Go.Proofs.Tryz.func216 (congrArg some (Eq.refl (Go.Proofs.Body7.n29 QN2)))
 t0:=Go.Proofs.Tryz.underlying0
 a0:=Go.Proofs.Tryz.isAgg0
 z0:=Go.Proofs.Tryz.sizeOf0
 v0:=Go.Proofs.Tryz.zeroValue0
 i0:=Eq.refl (some (some (Value.tuple #[]),1,0))
 t3:=Go.Proofs.Tryz.underlying3
 a3:=Go.Proofs.Tryz.isAgg3
 z3:=Go.Proofs.Tryz.sizeOf3
 v3:=Go.Proofs.Tryz.zeroValue3
 i3:=Eq.refl (some (some (Value.int IntKind.i64 0),1,8))
 t4:=Go.Proofs.Tryz.underlying4
 a4:=Go.Proofs.Tryz.isAgg4
 z4:=Go.Proofs.Tryz.sizeOf4
 v4:=Go.Proofs.Tryz.zeroValue4
 i4:=Eq.refl (some (some (Value.bool false),1,1))
 t5:=Go.Proofs.Tryz.underlying5
 a5:=Go.Proofs.Tryz.isAgg5
 z5:=Go.Proofs.Tryz.sizeOf5
 v5:=Go.Proofs.Tryz.zeroValue5
 i5:=Eq.refl (some (some (Value.int IntKind.u8 0),1,1))
 t22:=Go.Proofs.Tryz.underlying266
 a22:=Go.Proofs.Tryz.isAgg266
 z22:=Go.Proofs.Tryz.sizeOf266
 v22:=Go.Proofs.Tryz.zeroValue266
 i22:=Eq.refl (some (some (Value.int IntKind.u64 0),1,8))
 t25:=Go.Proofs.Tryz.underlying258
 a25:=Go.Proofs.Tryz.isAgg258
 z25:=Go.Proofs.Tryz.sizeOf258
 v25:=Go.Proofs.Tryz.zeroValue258
 i25:=Eq.refl (some (some (Value.int IntKind.u64 0),1,8))
 t54:=Go.Proofs.Tryz.underlying295
 a54:=Go.Proofs.Tryz.isAgg295
 z54:=Go.Proofs.Tryz.sizeOf295
 g1:=by kernel_rfl
theorem QNd (n:Nat) (hn:n<18446744073709551616):Ctr Go.Proofs.Tryz.prog tab 216 [266] [3] [.int n] [.int (Lib.ctz 64 n)]:=by
 refine ⟨Wt Go.Proofs.Tryz.func216 rfl rfl,fun w F xs hF hg ha=>?_⟩
 have hx:=Wr (ρ:=fun _=>.none) ha
 match xs,hx with
 | [x],hx =>
   have hx:x=.int .u64 n:=hx.1.1
   subst hx
   refine (Go.Proofs.Any7.bits_TrailingZeros64 QRI n hn w fun _=>hg).mono ?_
   rintro e w' ⟨rfl,rfl⟩
   have hc:=QRP hn
   refine ⟨[.int .i64 (Lib.ctz 64 n)],rfl,Below.refl _ _,⟨⟨rfl,?_,?_⟩,fun _ _ _ h=>absurd h (by simp),trivial⟩⟩
   · exact Fits.int rfl (by unfold IntKind.has IntKind.min IntKind.max IntKind.signed IntKind.bits;simp;omega)
   · simp [Qz,U9,TyD.isAgg,Value.cells]
def QOV:List (List Nat):=[[0],[0,3],[2],[10],[2],[2]]
theorem QGG (op:Int):Ctr Go.Proofs.Tryz.prog tab 185 [58] [3] [.int op] [.int (WM op)]:=by
 refine Ctr.body ok Go.Proofs.Tryz.func185 rfl rfl 17 rfl [.tmp 2] rfl (by simp [QF]) ?_
 simp only [go_sem,Nat.reduceAdd]
 repeat' first
  | ((with_reducible refine Q5 fun R1 hR1=>?_);(simp only [go_sem,seval,-List.reduceReplicate,Bool.cond_false_right,Bool.cond_true_left]);(repeat' with_reducible refine And.intro ?_ ?_);all_goals first|(refine hR1 _ ?_;clear hR1 R1)|exact Zp)
  | ((with_reducible refine Q4 ?_);refine hR _ ?_;clear hR R;try simp only [go_sem,QOV,Nat.reduceBEq])
  | (with_reducible first|refine J1 ?_|refine J2 ?_|refine J3 ?_|refine J4 ?_|refine J5 ?_|refine J6 ?_|refine J7 ?_|refine J8 (by decide) ?_|refine J9 ?_|refine Q2 ?_|refine Q1 ?_|refine Yc ?_)
  | ((with_reducible refine rg QOV fun R hR=>?_);simp only [go_sem,QC])
  | ((with_reducible refine SA.cond rfl ?_ ?_)
     all_goals
      intro hb
      try simp [-List.getD_eq_getElem?_getD] at hb
      try (exfalso;omega))
  | ((with_reducible first|refine ZQ ?_|refine ZP ?_)
     simp only [go_sem,QL,QM,QH,seval]
     refine ⟨rfl,congrArg (fun e=>some (V.int e)) ?_⟩
     unfold WM
     (repeat' split)<;>first|rfl|(exfalso;omega))
def QOC:List (List Nat):=[[0],[3],[2],[2]]
theorem QEo (b:Bool):Ctr Go.Proofs.Tryz.prog tab 218 [4] [2] [.bool b] [.int (XY b)]:=by
 refine Ctr.body ok Go.Proofs.Tryz.func218 rfl rfl 4 rfl [.tmp 2] rfl (by simp [QF]) ?_
 simp only [go_sem,Nat.reduceAdd]
 repeat' first
  | ((with_reducible refine Q5 fun R1 hR1=>?_);(simp only [go_sem,seval,-List.reduceReplicate,Bool.cond_false_right,Bool.cond_true_left]);(repeat' with_reducible refine And.intro ?_ ?_);all_goals first|(refine hR1 _ ?_;clear hR1 R1)|exact Zp)
  | ((with_reducible refine Q4 ?_);refine hR _ ?_;clear hR R;try simp only [go_sem,QOC,Nat.reduceBEq])
  | (with_reducible first|refine J1 ?_|refine J2 ?_|refine J3 ?_|refine Q2 ?_|refine Q1 ?_)
  | ((with_reducible refine rg QOC fun R hR=>?_);simp only [go_sem,QC])
  | ((with_reducible refine QI 3 rfl (fun hb3=>?_) fun hb3=>?_);all_goals (try simp only [decide_eq_true_eq,decide_eq_false_iff_not] at hb3))
  | ((with_reducible first|refine ZQ ?_|refine ZP ?_)
     simp only [go_sem,QL,QM,QH,seval]
     have q:=hb3
     rw [hb3]
     exact ⟨rfl,rfl⟩)
def QOF:List (List Nat):=[[0],[0],[0],[0],[0],[0],[0],[2]]
theorem QKs (n:Nat) (hn:n<18446744073709551616):Ctr Go.Proofs.Tryz.prog tab 214 [266] [3] [.int n] [.int (QKu n)]:=by
 refine Ctr.body ok Go.Proofs.Tryz.func214 rfl rfl 35 rfl [.tmp 2] rfl (by simp [QF]) ?_
 simp only [go_sem,Nat.reduceAdd]
 repeat' first
  | ((with_reducible refine Q5 fun R1 hR1=>?_);(simp only [go_sem,seval,-List.reduceReplicate,Bool.cond_false_right,Bool.cond_true_left]);(repeat' with_reducible refine And.intro ?_ ?_);all_goals first|(refine hR1 _ ?_;clear hR1 R1)|omega|decide|(intro _;omega)|(intro _;decide))
  | ((with_reducible refine Q4 ?_);refine hR _ ?_;clear hR R;try simp only [go_sem,QOF,Nat.reduceBEq])
  | (with_reducible first|refine J1 ?_|refine J2 ?_|refine Q2 ?_|refine Q1 ?_)
  | ((with_reducible refine rg QOF fun R hR=>?_);simp only [go_sem,QC])
  | ((with_reducible first|refine ZQ ?_|refine ZP ?_)
     simp only [go_sem,QL,QM,QH,seval]
     exact ⟨rfl,congrArg (fun e=>some (V.int e)) (QI9 hn)⟩)
def QOB:List (List Nat):=[[0,1],[0,5],[4]]
theorem QKZ (x k:Int) (hk:0≤k∧k<64):Ctr Go.Proofs.Tryz.prog tab 219 [266,3] [266] [.int x,.int k] [.int (QKb x k)]:=by
 refine Ctr.body ok Go.Proofs.Tryz.func219 rfl rfl 17 rfl [.tmp 4] rfl (by simp [QF]) ?_
 simp only [go_sem,Nat.reduceAdd]
 repeat' first
  | ((with_reducible refine Q5 fun R1 hR1=>?_);(simp only [go_sem,seval,-List.reduceReplicate,Bool.cond_false_right,Bool.cond_true_left]);(repeat' with_reducible refine And.intro ?_ ?_);all_goals first|(refine hR1 _ ?_;clear hR1 R1)|omega|decide|(intro _;omega)|(intro _;decide))
  | ((with_reducible refine Q4 ?_);refine hR _ ?_;clear hR R;try simp only [go_sem,QOB,Nat.reduceBEq])
  | (with_reducible first|refine J1 ?_|refine J2 ?_|refine Q2 ?_|refine Q1 ?_)
  | ((with_reducible refine rg QOB fun R hR=>?_);simp only [go_sem,QC])
  | ((with_reducible first|refine ZQ ?_|refine ZP ?_)
     simp only [go_sem,QL,QM,QH,seval]
     exact ⟨rfl,congrArg (fun e=>some (V.int e)) (QMp hk)⟩)
def QN8:List (List Nat):=[[0,1],[0,1,6],[0,1,6,7],[0,1,6,7,8],[0,1,6,7,8,9],[0,1,6,7,8,9,10],[0,1,6,7,9,11],[0,1,6,7,9,11,12],[0,1,6,7,9,12,13],[0,1,7,9,12,13],[0,1,4],[4,5]]
theorem QJB (x y:Nat) (hx:x<18446744073709551616) (hy:y<18446744073709551616):Ctr Go.Proofs.Tryz.prog tab 227 [266,266] [266,266] [.int x,.int y] [.int ((x*y / 18446744073709551616:Nat):Int),.int ((x*y % 18446744073709551616:Nat):Int)]:=by
 refine Ctr.body ok Go.Proofs.Tryz.func227 rfl rfl 51 rfl [.tmp 4,.tmp 5] rfl (by simp [QF]) ?_
 simp only [go_sem,Nat.reduceAdd]
 repeat' first
  | ((with_reducible refine Q5 fun R1 hR1=>?_);(simp only [go_sem,seval,-List.reduceReplicate,Bool.cond_false_right,Bool.cond_true_left]);(repeat' with_reducible refine And.intro ?_ ?_);all_goals first|(refine hR1 _ ?_;clear hR1 R1)|omega|decide|(intro _;omega)|(intro _;decide))
  | ((with_reducible refine Q4 ?_);refine hR _ ?_;clear hR R;try simp only [go_sem,QN8,Nat.reduceBEq])
  | (with_reducible first|refine J1 ?_|refine J2 ?_|refine Q2 ?_|refine Q1 ?_)
  | ((with_reducible refine rg QN8 fun R hR=>?_);simp only [go_sem,QC])
  | ((with_reducible first|refine ZQ ?_|refine ZP ?_)
     simp only [go_sem,QL,QM,QH,seval]
     exact ⟨⟨rfl,congrArg (fun e=>some (V.int e)) (QK5 hx hy)⟩,rfl,congrArg (fun e=>some (V.int e)) ((congrArg IntKind.u64.wrap (QK4 x y)).trans (QNn _))⟩)
def QOT:List (List Nat):=[[0,1,2],[0,1,2,8],[6,7],[0,1,2,11],[6,7],[1,2,20],[6,7],[1,2,26],[6,7],[6,7]]
theorem QDg (op a b:Int) (hop:op=19∨op=20) (ha : -9223372036854775808≤a∧a<9223372036854775808) (hb : -9223372036854775808≤b∧b<9223372036854775808):Ctr Go.Proofs.Tryz.prog tab 187 [58,2,2] [2,30] [.int op,.int a,.int b] [.int (XW op a b).1,.int (XW op a b).2]:=by
 refine Ctr.body ok Go.Proofs.Tryz.func187 rfl rfl 32 rfl [.tmp 6,.tmp 7] rfl (by simp [QF]) ?_
 simp only [go_sem,Nat.reduceAdd]
 repeat' first
  | ((with_reducible refine Q5 fun R1 hR1=>?_);(simp only [go_sem,seval,-List.reduceReplicate,Bool.cond_false_right,Bool.cond_true_left]);(repeat' with_reducible refine And.intro ?_ ?_);all_goals first|(refine hR1 _ ?_;clear hR1 R1)|omega|decide|(intro _;omega)|(intro _;decide))
  | ((with_reducible refine Q4 ?_);refine hR _ ?_;clear hR R;try simp only [go_sem,QOT,Nat.reduceBEq])
  | (with_reducible first|refine J1 ?_|refine J2 ?_|refine J3 ?_|refine J4 ?_|refine J5 ?_|refine J6 ?_|refine J7 ?_|refine J8 (by decide) ?_|refine J9 ?_|refine Q2 ?_|refine Q1 ?_|refine Yc ?_)
  | ((with_reducible refine rg QOT fun R hR=>?_);simp only [go_sem,QC])
  | ((with_reducible refine QI 8 rfl (fun hb8=>?_) fun hb8=>?_);all_goals (try simp [-List.getD_eq_getElem?_getD] at hb8;try (exfalso;omega)))
  | ((with_reducible refine QI 11 rfl (fun hb11=>?_) fun hb11=>?_);all_goals (try simp [-List.getD_eq_getElem?_getD] at hb11;try (exfalso;omega)))
  | ((with_reducible refine QI 20 rfl (fun hb20=>?_) fun hb20=>?_);all_goals (try simp [-List.getD_eq_getElem?_getD] at hb20;try (exfalso;omega)))
  | ((with_reducible refine QI 26 rfl (fun hb26=>?_) fun hb26=>?_);all_goals (try simp [-List.getD_eq_getElem?_getD] at hb26;try (exfalso;omega)))
  | ((with_reducible first|refine ZQ ?_|refine ZP ?_)
     simp only [go_sem,QL,QM,QH,seval]
     first
      | (have q:b=0:=hb8
         have e:XW op a b=(0,20):=by
          unfold XW
          rw [if_neg (by omega),if_neg (by omega),if_neg (by omega),if_pos hop]
          (repeat' split)<;>first|rfl|(exfalso;omega)|(rw [QE8 ha])
         rw [e]
         exact ⟨⟨rfl,rfl⟩,rfl,rfl⟩)
      | (have q:_∧_:=hb11
         have e:XW op a b=(IntKind.i64.wrap (0-a),0):=by
          unfold XW
          rw [if_neg (by omega),if_neg (by omega),if_neg (by omega),if_pos hop]
          (repeat' split)<;>first|rfl|(exfalso;omega)|(rw [QE8 ha])
         rw [e]
         exact ⟨⟨rfl,rfl⟩,rfl,rfl⟩)
      | (have q:op=19:=hb20
         have e:XW op a b=(IntKind.i64.wrap (a.tdiv b),0):=by
          unfold XW
          rw [if_neg (by omega),if_neg (by omega),if_neg (by omega),if_pos hop]
          (repeat' split)<;>first|rfl|(exfalso;omega)|(rw [QE8 ha])
         rw [e]
         exact ⟨⟨rfl,rfl⟩,rfl,rfl⟩)
      | (have q:b = -1:=hb26
         have e:XW op a b=(0,0):=by
          unfold XW
          rw [if_neg (by omega),if_neg (by omega),if_neg (by omega),if_pos hop]
          (repeat' split)<;>first|rfl|(exfalso;omega)|(rw [QE8 ha])
         rw [e]
         exact ⟨⟨rfl,rfl⟩,rfl,rfl⟩)
      | (have q:¬b = -1:=hb26
         have e:XW op a b=(a.tmod b,0):=by
          unfold XW
          rw [if_neg (by omega),if_neg (by omega),if_neg (by omega),if_pos hop]
          (repeat' split)<;>first|rfl|(exfalso;omega)|(rw [QE8 ha])
         rw [e]
         exact ⟨⟨rfl,rfl⟩,rfl,rfl⟩))
def QOS:List (List Nat):=[[0,1,2],[0,1,2,8],[6,7],[0,1,2,11],[6,7],[1,2,18],[6,7],[6,7]]
theorem QDf (op a b:Int) (hop:op=25∨op=26∨op=27) (ha : -9223372036854775808≤a∧a<9223372036854775808) (hb : -9223372036854775808≤b∧b<9223372036854775808):Ctr Go.Proofs.Tryz.prog tab 188 [58,2,2] [2,30] [.int op,.int a,.int b] [.int (XW op a b).1,.int (XW op a b).2]:=by
 refine Ctr.body ok Go.Proofs.Tryz.func188 rfl rfl 31 rfl [.tmp 6,.tmp 7] rfl (by simp [QF]) ?_
 simp only [go_sem,Nat.reduceAdd]
 repeat' first
  | ((with_reducible refine Q5 fun R1 hR1=>?_);(simp only [go_sem,seval,-List.reduceReplicate,Bool.cond_false_right,Bool.cond_true_left]);(repeat' with_reducible refine And.intro ?_ ?_);all_goals first|(refine hR1 _ ?_;clear hR1 R1)|omega|decide|(intro _;omega)|(intro _;decide))
  | ((with_reducible refine Q4 ?_);refine hR _ ?_;clear hR R;try simp only [go_sem,QOS,Nat.reduceBEq])
  | (with_reducible first|refine J1 ?_|refine J2 ?_|refine J3 ?_|refine J4 ?_|refine J5 ?_|refine J6 ?_|refine J7 ?_|refine J8 (by decide) ?_|refine J9 ?_|refine Q2 ?_|refine Q1 ?_|refine Yc ?_)
  | ((with_reducible refine rg QOS fun R hR=>?_);simp only [go_sem,QC])
  | ((with_reducible refine QI 8 rfl (fun hb8=>?_) fun hb8=>?_);all_goals (try simp [-List.getD_eq_getElem?_getD] at hb8;try (exfalso;omega)))
  | ((with_reducible refine QI 11 rfl (fun hb11=>?_) fun hb11=>?_);all_goals (try simp [-List.getD_eq_getElem?_getD] at hb11;try (exfalso;omega)))
  | ((with_reducible refine QI 18 rfl (fun hb18=>?_) fun hb18=>?_);all_goals (try simp [-List.getD_eq_getElem?_getD] at hb18;try (exfalso;omega)))
  | ((with_reducible first|refine ZQ ?_|refine ZP ?_)
     simp only [go_sem,QL,QM,QH,seval]
     first
      | (have q:b<0:=hb8
         have e:XW op a b=(0,21):=by
          unfold XW
          rw [if_neg (by omega),if_neg (by omega),if_neg (by omega),if_neg (by omega),if_neg (by omega),if_pos hop]
          exact if_pos hb8
         rw [e]
         exact ⟨⟨rfl,rfl⟩,rfl,rfl⟩)
      | (have q:op=25:=hb11
         have e:XW op a b=(IntKind.i64.wrap (a*2^min b.toNat 64),0):=by
          unfold XW
          rw [if_neg (by omega),if_neg (by omega),if_neg (by omega),if_neg (by omega),if_neg (by omega),if_pos hop]
          rw [if_neg (by omega),if_pos hb11,QSu a hb8]
         rw [e,QAn ⟨hb8,hb.2⟩]
         exact ⟨⟨rfl,rfl⟩,rfl,rfl⟩)
      | (have q:op=26:=hb18
         have e:XW op a b=(a.fdiv (2^min b.toNat 64),0):=by
          unfold XW
          rw [if_neg (by omega),if_neg (by omega),if_neg (by omega),if_neg (by omega),if_neg (by omega),if_pos hop]
          rw [if_neg (by omega),if_neg (by omega),if_pos hb18,QSv (Qm ha.1 ha.2) hb8,QPr ha]
         rw [e,QAn ⟨hb8,hb.2⟩]
         exact ⟨⟨rfl,rfl⟩,rfl,rfl⟩)
      | (have q:¬op=26:=hb18
         have e:XW op a b=(IntKind.i64.wrap ((IntKind.u64.wrap a).fdiv (2^min b.toNat 64)),0):=by
          unfold XW
          rw [if_neg (by omega),if_neg (by omega),if_neg (by omega),if_neg (by omega),if_neg (by omega),if_pos hop]
          rw [if_neg (by omega),if_neg (by omega),if_neg (by omega),QSt a hb8]
         rw [e,QAn ⟨hb8,hb.2⟩]
         exact ⟨⟨rfl,rfl⟩,rfl,rfl⟩))
def QOD:List (List Nat):=[[0],[0,3],[0,3,5],[0,3,5,6],[0,3,4,5],[0,3,5],[0,3,5],[2]]
theorem QIX (a:Int):Ctr Go.Proofs.Tryz.prog tab 217 [2] [2] [.int a] [.int (YT (vQ a) 0 64)]:=by
 refine Ctr.body ok Go.Proofs.Tryz.func217 rfl rfl 21 rfl [.tmp 2] rfl (by simp [QF]) ?_
 simp only [go_sem,Nat.reduceAdd]
 repeat' first
  | ((with_reducible refine Q5 fun R1 hR1=>?_);(simp only [go_sem,seval,-List.reduceReplicate,Bool.cond_false_right,Bool.cond_true_left]);(repeat' with_reducible refine And.intro ?_ ?_);all_goals first|(refine hR1 _ ?_;clear hR1 R1)|omega|decide|(intro _;omega)|(intro _;decide)|(rw [Qm (by omega) (by omega)];omega)|(intro _;rw [Qm (by omega) (by omega)];omega))
  | ((with_reducible refine Q4 ?_);refine hR _ ?_;clear hR R;try simp only [go_sem,QOD,Nat.reduceBEq])
  | (with_reducible first|refine J1 ?_|refine J2 ?_|refine J3 ?_|refine J4 ?_|refine J5 ?_|refine J6 ?_|refine J7 ?_|refine J8 (by decide) ?_|refine J9 ?_|refine Xu ?_|refine Q2 ?_|refine Q1 ?_|refine Yc ?_|refine Xt ?_)
  | ((with_reducible refine rg QOD fun R hR=>?_);simp only [go_sem,QC])
  | ((with_reducible refine SA.cond rfl ?_ ?_)
     all_goals
      intro hb
      try simp [-List.getD_eq_getElem?_getD] at hb
      try (exfalso;omega))
  | ((with_reducible refine Ya ?_)
     refine Zv (Qo (by first|rfl|(simp;done)|fail)) (Yb (fun n τ=>∃ (i:Nat),n=64-i∧(i≤64)∧τ={ tm:=[(0,true,.int .i64 a),(3,true,.int .u64 (YT (QH6 a) 0 i)),(5,true,.int .i64 i)],ob:=[],out:=[],nt:=21 }) (64) ⟨0,rfl,by omega,rfl⟩ ?_)
     rintro n τ ⟨i,hn,hi,rfl⟩)
  | ((with_reducible refine WC ?_)
     first
      | (have hlt:i<64:=by omega
         have hw:=QD (n:=i) (m:=256) (by omega) (by decide)
         have h63:(IntKind.i64.wrap (63-(i:Int))).toNat=63-i:=by rw [Qm (by omega) (by omega)];omega
         refine Z0 (64-(i+1)) _ (by omega) ((Qo (by simp only [hw,h63,Int.toNat_natCast];rfl))) ⟨i+1,rfl,hlt,rfl⟩))
  | ((with_reducible first|refine ZQ ?_|refine ZP ?_)
     simp only [go_sem,QL,QM,QH,seval]
     have e:i=64:=by omega
     subst e
     exact ⟨rfl,congrArg (fun e=>some (V.int e)) (QNV a)⟩)
def QLE:List (List Nat):=[[0,2],[0,2,4],[0],[0,2],[0,2,8],[0,2],[0,2],[0,2,14],[0,2],[0,2],[2]]
end Go.Eng.Tryz
