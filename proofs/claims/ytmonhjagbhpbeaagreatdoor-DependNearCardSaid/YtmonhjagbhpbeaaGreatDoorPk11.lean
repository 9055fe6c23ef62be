/- A part of the proof: walks through the program's functions, and what they compute. -/
import Derived.Test.YtmonhjagbhpbeaaGreatDoorPk8
import Derived.Test.YtmonhjagbhpbeaaGreatDoorPk10
import Derived.Shelf.Spec.TrailingZeros
set_option linter.unusedSimpArgs false
set_option linter.unusedVariables false
namespace Go.Eng.Tryz
open Go.RowKit Go.Eng
set_option maxHeartbeats 0
set_option maxRecDepth 20000
def QIF:List (List Nat):=[[2,3],[2,3,28],[4],[2,3,30,31],[2,3,30,31,32],[2,3,5,6,30,31],[2,3,30,31,43],[4],[2,3,30,31],[2,3,46,47],[2,3,46,47,48],[2,3,7,8,46,47],[2,3,46,47,68],[4],[2,3,46,47],[2,3,71,72],[2,3,71,72,73],[2,3,9,10,71,72],[2,3,71,72,96],[4],[2,3,71,72],[2,3,11],[2,3,11,100,101],[2,3,11,100,101,102],[2,3,11,12,13,100,101],[2,3,11,12,13,100,101,109],[2,3,11,100,101,112],[4],[2,3,11,13,100,101,117],[4],[2,3,11,13,100,101,120],[2,3,11,100,101],[2,3,11,100,101],[11,129,130],[11,129,130,131],[11,14,15,129,130],[11,129,130,142],[4],[11,129,130],[4]]
theorem zP (p:Prg) (s:Stt) (hp:p.Fit) (hs:s.Shape):Ctr Go.Proofs.Tryz.prog tab 89 [26,47] [4] [p.v,s.v] [.bool (Xx p s)]:=by
 have hpp:=hp
 have hfit:=hp
 have hcode:=p.code_len hp
 have hsl:=p.sels_len hp
 obtain ⟨hp1,hp2,hp3,hp4⟩:=hp
 have hs1:=hs.vars
 have hs2:=hs.owner
 have hs3:=hs.chans
 have hs5:=hs.gos
 refine Ctr.body ok Go.Proofs.Tryz.func89 rfl rfl 144 rfl [.tmp 4] rfl (by simp [QL]) ?_
 simp only [go_sem,Nat.reduceAdd]
 repeat' first
  | ((with_reducible refine SARA.told 17 2 ?_)
     rw [XN (by omega)])
  | ((with_reducible refine SARA.told 24 2 ?_)
     rw [XO (by omega)])
  | ((with_reducible refine SARA.told 35 2 ?_)
     rw [XN (by omega)])
  | ((with_reducible refine Zx fun R1 hR1=>?_);(simp only [go_sem,seval,-List.reduceReplicate,Bool.cond_false_right,Bool.cond_true_left,QFU,QFV,Zd,xC]);(repeat' with_reducible refine And.intro ?_ ?_);all_goals first|(refine hR1 _ ?_;clear hR1 R1)|(intro hgf;simp only [hgf];refine hR1 _ ?_;clear hR1 R1)|((first|refine cq (cc (VD p hpp)) ?_|refine ⟨_,_,rfl,.inl ⟨_,fun hg=>CallQ.ctr ok (VD p hpp) (by first|rfl|(simp [go_sem];done)|fail) rfl,?_⟩⟩|refine cq (cc (QDK p (s.gos.getD i default) hpp (hs.regs _ (Q8 (i:=i) _ (by omega))))) ?_|refine ⟨_,_,rfl,.inl ⟨_,fun hg=>CallQ.ctr ok (QDK p (s.gos.getD i default) hpp (hs.regs _ (Q8 (i:=i) _ (by omega)))) (by first|rfl|(simp [go_sem];done)|fail) rfl,?_⟩⟩|refine cq (cc (zz p s (i:Int) hpp hr (by omega) hs (by omega) hg)) ?_|refine ⟨_,_,rfl,.inl ⟨_,fun hg=>CallQ.ctr ok (zz p s (i:Int) hpp hr (by omega) hs (by omega) hg) (by first|rfl|(simp [go_sem];done)|fail) rfl,?_⟩⟩);all_goals ((try simp only [go_sem,seval,-List.reduceReplicate,Bool.cond_false_right,Bool.cond_true_left,QFU,QFV,Zd,xC]);(repeat' with_reducible refine And.intro ?_ ?_);all_goals first|(refine hR1 _ ?_;clear hR1 R1)|(intro hgf;simp only [hgf];refine hR1 _ ?_;clear hR1 R1)|exact YJ))|exact YJ)
  | ((with_reducible refine Zw ?_);refine hR _ ?_;clear hR R;try simp only [go_sem,QIF,Nat.reduceBEq])
  | (with_reducible first|refine J1 ?_|refine J2 ?_|refine J3 ?_|refine J4 ?_|refine J5 ?_|refine J6 ?_|refine J7 ?_|refine J8 (by decide) ?_|refine J9 ?_|refine Uf ?_|refine ZL ?_|refine ZS ?_|refine Y3 ?_|refine V7 ?_)
  | ((with_reducible refine Qy 33 ?_)
     have hi4:i=4:=by omega
     subst hi4
     (with_reducible refine rg QIF fun R hR=>?_);simp only [go_sem,QC])
  | ((with_reducible refine Qy 31 ?_)
     have hfr:=QA6 hb117 hb120
     have hfo:=wi s i (g:=(s.chans.getD i default).from_) (by omega) (by omega)
     have hfs:=U4 s (s.chans.getD i default).from_ i
     (with_reducible refine rg QIF fun R hR=>?_);simp only [go_sem,QC])
  | ((with_reducible refine Qy 3 ?_)
     have hr:QT p=true:=hb28.1.1
     have hok:=Prg.ok hr
     (with_reducible refine rg QIF fun R hR=>?_);simp only [go_sem,QC])
  | ((with_reducible refine rg QIF fun R hR=>?_);simp only [go_sem,QC])
  | ((with_reducible refine QR 28 rfl (fun hb28=>?_) fun hb28=>?_);all_goals (try simp [-List.getD_eq_getElem?_getD] at hb28;try (exfalso;omega)))
  | ((with_reducible refine QR 32 rfl (fun hb32=>?_) fun hb32=>?_);all_goals (try simp [-List.getD_eq_getElem?_getD] at hb32;try (exfalso;omega)))
  | ((with_reducible refine QR 43 rfl (fun hb43=>?_) fun hb43=>?_);all_goals (try simp [-List.getD_eq_getElem?_getD] at hb43;try (exfalso;omega)))
  | ((with_reducible refine QR 48 rfl (fun hb48=>?_) fun hb48=>?_);all_goals (try simp [-List.getD_eq_getElem?_getD] at hb48;try (exfalso;omega)))
  | ((with_reducible refine QR 68 rfl (fun hb68=>?_) fun hb68=>?_);all_goals (try simp [-List.getD_eq_getElem?_getD] at hb68;try (exfalso;omega)))
  | ((with_reducible refine QR 73 rfl (fun hb73=>?_) fun hb73=>?_);all_goals (try simp [-List.getD_eq_getElem?_getD] at hb73;try (exfalso;omega)))
  | ((with_reducible refine QR 96 rfl (fun hb96=>?_) fun hb96=>?_);all_goals (try simp [-List.getD_eq_getElem?_getD] at hb96;try (exfalso;omega)))
  | ((with_reducible refine QR 102 rfl (fun hb102=>?_) fun hb102=>?_);all_goals (try simp [-List.getD_eq_getElem?_getD] at hb102;try (exfalso;omega)))
  | ((with_reducible refine QR 109 rfl (fun hb109=>?_) fun hb109=>?_);all_goals (try simp [-List.getD_eq_getElem?_getD] at hb109;try (exfalso;omega)))
  | ((with_reducible refine QR 112 rfl (fun hb112=>?_) fun hb112=>?_);all_goals (try simp [-List.getD_eq_getElem?_getD] at hb112;try (exfalso;omega)))
  | ((with_reducible refine QR 117 rfl (fun hb117=>?_) fun hb117=>?_);all_goals (try simp [-List.getD_eq_getElem?_getD] at hb117;try (exfalso;omega)))
  | ((with_reducible refine QR 120 rfl (fun hb120=>?_) fun hb120=>?_);all_goals (try simp [-List.getD_eq_getElem?_getD] at hb120;try (exfalso;omega)))
  | ((with_reducible refine QR 131 rfl (fun hb131=>?_) fun hb131=>?_);all_goals (try simp [-List.getD_eq_getElem?_getD] at hb131;try (exfalso;omega)))
  | ((with_reducible refine QR 142 rfl (fun hb142=>?_) fun hb142=>?_);all_goals (try simp [-List.getD_eq_getElem?_getD] at hb142;try (exfalso;omega)))
  | ((with_reducible refine W1 ?_)
     refine Yx (ZZ (by first|rfl|(simp;done)|fail)) (Wo (fun n τ=>∃ (i:Nat),n=8-i∧(i≤8∧∀ k:Nat,k<i→p.vars.length≤k→s.vars.getD k 0=0)∧τ={ tm:=[(2,true,.ptr 0 [] 26),(3,true,.ptr 1 [] 47),(30,true,.data 37 (.agg (s.vars.map V.int))),(31,true,.int .i64 i)],ob:=[.var 26 (.data 26 p.v),.var 47 (.data 47 s.v)],out:=[],nt:=144 }) (8) ⟨0,rfl,⟨by omega,fun k h=>by omega⟩,rfl⟩ ?_)
     rintro n τ ⟨i,hn,⟨hi,hz⟩,rfl⟩)
  | ((with_reducible refine W1 ?_)
     refine Yx (ZZ (by first|rfl|(simp;done)|fail)) (Wo (fun n τ=>∃ (i:Nat),n=4-i∧(i≤4∧W8 p s 8=true∧YV p s i=true)∧τ={ tm:=[(2,true,.ptr 0 [] 26),(3,true,.ptr 1 [] 47),(46,true,.data 38 (.agg (s.owner.map V.int))),(47,true,.int .i64 i)],ob:=[.var 26 (.data 26 p.v),.var 47 (.data 47 s.v)],out:=[],nt:=144 }) (4) ⟨0,rfl,⟨by omega,QAS (fun k h1 h2=>hz k (by omega) h1),rfl⟩,rfl⟩ ?_)
     rintro n τ ⟨i,hn,⟨hi,hv,ho⟩,rfl⟩)
  | ((with_reducible refine W1 ?_)
     refine Yx (ZZ (by first|rfl|(simp;done)|fail)) (Wo (fun n τ=>∃ (i:Nat),n=6-i∧(i≤6∧W8 p s 8=true∧YV p s 4=true∧XB p s i=true)∧τ={ tm:=[(2,true,.ptr 0 [] 26),(3,true,.ptr 1 [] 47),(71,true,.data 45 (.agg (s.gos.map Gor.v))),(72,true,.int .i64 i)],ob:=[.var 26 (.data 26 p.v),.var 47 (.data 47 s.v)],out:=[],nt:=144 }) (6) ⟨0,rfl,⟨by omega,hv,(show i=4 by omega)▸ho,rfl⟩,rfl⟩ ?_)
     rintro n τ ⟨i,hn,⟨hi,hv,ho,hg⟩,rfl⟩)
  | ((with_reducible refine W1 ?_)
     refine Yx (ZZ (by first|rfl|(simp;done)|fail)) (Wo (fun n τ=>∃ (i:Nat),n=4-i∧(i≤4∧W8 p s 8=true∧YV p s 4=true∧XB p s 6=true∧Xc p s i=true)∧τ={ tm:=[(2,true,.ptr 0 [] 26),(3,true,.ptr 1 [] 47),(11,true,.ptr 2 [] 215),(100,true,.data 42 (.agg (s.chans.map Chn.v))),(101,true,.int .i64 i)],ob:=[.var 26 (.data 26 p.v),.var 47 (.data 47 s.v),.var 215 (.data 215 (.agg ((Xb s i).map V.int)))],out:=[],nt:=144 }) (4) ⟨0,rfl,⟨by omega,hv,ho,(show i=6 by omega)▸hg,rfl⟩,rfl⟩ ?_)
     rintro n τ ⟨i,hn,⟨hi,hv,ho,hg,hc⟩,rfl⟩)
  | ((with_reducible refine W1 ?_)
     refine Yx (ZZ (by first|rfl|(simp;done)|fail)) (Wo (fun n τ=>∃ (i:Nat),n=6-i∧(i≤6∧W8 p s 8=true∧YV p s 4=true∧XB p s 6=true∧Xc p s 4=true∧XK s i=true)∧τ={ tm:=[(11,true,.ptr 2 [] 215),(129,true,.data 45 (.agg (s.gos.map Gor.v))),(130,true,.int .i64 i)],ob:=[.var 26 (.data 26 p.v),.var 47 (.data 47 s.v),.var 215 (.data 215 (.agg ((Xb s 4).map V.int)))],out:=[],nt:=144 }) (6) ⟨0,rfl,⟨by omega,hv,ho,hg,hc,rfl⟩,rfl⟩ ?_)
     rintro n τ ⟨i,hn,⟨hi,hv,ho,hg,hc,hw4⟩,rfl⟩)
  | ((with_reducible refine zF ?_)
     first
      | (have hlt:i<8:=by omega
         have hw:=QN (n:=i) (m:=256) (by omega) (by decide)
         refine WE (8-(i+1)) _ (by omega) (ZZ (by simp only [hw])) ⟨i+1,rfl,⟨hlt,fun k h1 h2=>?_⟩,rfl⟩
         by_cases h3:k<i
         · exact hz k h3 h2
         · have h4:k=i:=by omega
           rw [h4] at h2 ⊢
           exact hb43 (by omega))
      | (have hlt:i<4:=by omega
         have hw:=QN (n:=i) (m:=256) (by omega) (by decide)
         refine WE (4-(i+1)) _ (by omega) (ZZ (by simp only [hw])) ⟨i+1,rfl,⟨hlt,hv,QHs ho hb68⟩,rfl⟩)
      | (have hlt:i<6:=by omega
         have hw:=QN (n:=i) (m:=256) (by omega) (by decide)
         refine WE (6-(i+1)) _ (by omega) ((Vk 2 rfl).trans (ZZ (by simp only [hw,List.take_succ_cons,List.take_zero]))) ⟨i+1,rfl,⟨hlt,hv,ho,QGS hg ⟨hb96.2,hb96.1⟩⟩,rfl⟩)
      | (have q:=hb112
         have hlt:i<4:=by omega
         have hw:=QN (n:=i) (m:=256) (by omega) (by decide)
         have e:=yC (s:=s) (i:=i) (QDl _ hb112)
         refine WE (4-(i+1)) _ (by omega) ((Vk 3 rfl).trans (ZZ (by simp only [hw,e,List.take_succ_cons,List.take_zero]))) ⟨i+1,rfl,⟨hlt,hv,ho,hg,zc hc ⟨fun _=>hb112,fun h=>by omega⟩⟩,rfl⟩)
      | (have q:_=_:=hb120
         have hlt:i<4:=by omega
         have hw:=QN (n:=i) (m:=256) (by omega) (by decide)
         have e:=yC (s:=s) (i:=i) hb120
         refine WE (4-(i+1)) _ (by omega) ((Vk 3 rfl).trans (ZZ (by simp only [hw,e,List.take_succ_cons,List.take_zero]))) ⟨i+1,rfl,⟨hlt,hv,ho,hg,zc hc ⟨fun h=>by omega,fun _=>hb117⟩⟩,rfl⟩)
      | (have q:¬_=_:=hb120
         have hlt:i<4:=by omega
         have hw:=QN (n:=i) (m:=256) (by omega) (by decide)
         have hfr:=QA6 hb117 hb120
         have hfs:=U4 s (s.chans.getD i default).from_ i
         have hw2:IntKind.i64.wrap ((ZD s (s.chans.getD i default).from_ i:Int)+1)=(ZD s (s.chans.getD i default).from_ i:Int)+1:=Zj (by omega) (by omega)
         have e:=QC6 (s:=s) (i:=i) hb120 hfr.1 (by omega)
         have hfo:=wi s i (g:=(s.chans.getD i default).from_) hfr.1 (by omega)
         refine WE (4-(i+1)) _ (by omega) ((Vk 3 rfl).trans (ZZ ?_)) ⟨i+1,rfl,⟨hlt,hv,ho,hg,zc hc ⟨fun h=>by omega,fun _=>hb117⟩⟩,rfl⟩
         simp only [hw,hfo,hw2,Q7,e,List.take_succ_cons,List.take_zero])
      | (have hlt:i<6:=by omega
         have hw:=QN (n:=i) (m:=256) (by omega) (by decide)
         refine WE (6-(i+1)) _ (by omega) ((Vk 3 rfl).trans (ZZ (by simp only [hw,List.take_succ_cons,List.take_zero]))) ⟨i+1,rfl,⟨hlt,hv,ho,hg,hc,QDr hw4 (fun q=>(xM s hlt).symm.trans (hb142 q))⟩,rfl⟩))
  | ((with_reducible first|refine YQ ?_|refine Zv ?_)
     simp only [go_sem,QS,QW,QM,seval]
     first
      | (have q:(_∨_)∨_:=hb28
         refine ⟨rfl,?_⟩
         rw [W9 (p:=p) (s:=s) (by rcases hb28 with (h|h)|h;exact .inl h;exact .inr (.inl h);exact .inr (.inr (.inl h)))])
      | (have q:_∧_:=hb43
         refine ⟨rfl,?_⟩
         rw [W9 (p:=p) (s:=s) (.inr (.inr (.inr (.inr (.inl (QHB hb43.1 (by omega) hb43.2))))))])
      | (have q:(_∨_)∨_:=hb68
         refine ⟨rfl,?_⟩
         rw [W9 (p:=p) (s:=s) (.inr (.inr (.inr (.inr (.inr (.inl (QJ0 (by omega) hb68)))))))])
      | (have q:_∨_:=hb96
         refine ⟨rfl,?_⟩
         rw [W9 (p:=p) (s:=s) (.inr (.inr (.inr (.inl (QIg (i:=i) (by omega) (by rcases hb96 with h|h;exact .inr h;exact .inl h))))))])
      | (have q:¬_:=hb112
         refine ⟨rfl,?_⟩
         rw [W9 (p:=p) (s:=s) (.inr (.inr (.inr (.inr (.inr (.inr (.inl (QA5 (i:=i) (by omega) (.inl ⟨by omega,hb112⟩)))))))))])
      | (have q:_=false:=hb117
         refine ⟨rfl,?_⟩
         rw [W9 (p:=p) (s:=s) (.inr (.inr (.inr (.inr (.inr (.inr (.inl (QA5 (i:=i) (by omega) (.inr ⟨by omega,hb117⟩)))))))))])
      | (have q:_∧_:=hb142
         have hci:(i:Int)<s.count:=by
          by_cases h:(i:Int)<s.count
          · exact h
          · have:=List.all_eq_true.1 hg i (List.mem_range.2 (by omega))
            rw [if_neg h] at this
            have:=QCQ _ (of_decide_eq_true this)
            simp only [Stt.gor,Int.toNat_natCast] at this
            omega
         refine ⟨rfl,?_⟩
         rw [W9 (p:=p) (s:=s) (.inr (.inr (.inr (.inr (.inr (.inr (.inr (QFj (n:=s.count.toNat) (i:=i) (by omega) ⟨hb142.1,by rw [← xM s (by omega)];exact hb142.2⟩))))))))])
      | (have hi6:i=6:=by omega
         subst hi6
         refine ⟨rfl,?_⟩
         rw [QFm hr ⟨by omega,by omega⟩ hg hv ho hc (QDs hw4 (by omega))]))
end Go.Eng.Tryz
namespace Go.Eng.Tryz
open Go.RowKit Go.Eng
set_option maxHeartbeats 0
set_option maxRecDepth 20000
def QKo:Go.Shelf.Ren:={ f:=fun n=>if n=29 then 216 else 0,t:=fun n=>if n=0 then 0 else if n=3 then 3 else if n=4 then 4 else if n=5 then 5 else if n=22 then 266 else if n=25 then 258 else if n=54 then 295 else 0,g:=fun _=>0 }
theorem QNR:Go.Proofs.Lays7.n29 Go.Proofs.Tryz.prog QKo where
 mixed:=Eq.refl true
 f29:=Eq.trans Go.Proofs.Tryz.func216 (congrArg some (Eq.refl (Go.Proofs.Body7.n29 QKo)))
 t0:=Go.Proofs.Tryz.underlying0
 a0:=Go.Proofs.Tryz.isAgg0
 z0:=Go.Proofs.Tryz.sizeOf0
 v0:=Go.Proofs.Tryz.zeroValue0
 i0:=Eq.refl (some (some (Value.tuple #[]),1,0))
 t3:=Go.Proofs.Tryz.underlying3
 a3:=Go.Proofs.Tryz.isAgg3
 z3:=Go.Proofs.Tryz.sizeOf3
 v3:=Go.Proofs.Tryz.zeroValue3
 i3:=Eq.refl (some (some (Value.int IntKind.i64 0),1,8))
 t4:=Go.Proofs.Tryz.underlying4
 a4:=Go.Proofs.Tryz.isAgg4
 z4:=Go.Proofs.Tryz.sizeOf4
 v4:=Go.Proofs.Tryz.zeroValue4
 i4:=Eq.refl (some (some (Value.bool false),1,1))
 t5:=Go.Proofs.Tryz.underlying5
 a5:=Go.Proofs.Tryz.isAgg5
 z5:=Go.Proofs.Tryz.sizeOf5
 v5:=Go.Proofs.Tryz.zeroValue5
 i5:=Eq.refl (some (some (Value.int IntKind.u8 0),1,1))
 t22:=Go.Proofs.Tryz.underlying266
 a22:=Go.Proofs.Tryz.isAgg266
 z22:=Go.Proofs.Tryz.sizeOf266
 v22:=Go.Proofs.Tryz.zeroValue266
 i22:=Eq.refl (some (some (Value.int IntKind.u64 0),1,8))
 t25:=Go.Proofs.Tryz.underlying258
 a25:=Go.Proofs.Tryz.isAgg258
 z25:=Go.Proofs.Tryz.sizeOf258
 v25:=Go.Proofs.Tryz.zeroValue258
 i25:=Eq.refl (some (some (Value.int IntKind.u64 0),1,8))
 t54:=Go.Proofs.Tryz.underlying295
 a54:=Go.Proofs.Tryz.isAgg295
 z54:=Go.Proofs.Tryz.sizeOf295
 g1:=by kernel_rfl
theorem QKP (n:Nat) (hn:n<18446744073709551616):Ctr Go.Proofs.Tryz.prog tab 216 [266] [3] [.int n] [.int (Lib.ctz 64 n)]:=by
 refine ⟨W5 Go.Proofs.Tryz.func216 rfl rfl,fun w F xs hF hg ha=>?_⟩
 have hx:=VJ (ρ:=fun _=>.none) ha
 match xs,hx with
 | [x],hx =>
   have hx:x=.int .u64 n:=hx.1.1
   subst hx
   refine (Go.Proofs.Any7.bits_TrailingZeros64 QNR n hn w fun _=>hg).mono ?_
   rintro e w' ⟨rfl,rfl⟩
   have hc:=QNY hn
   refine ⟨[.int .i64 (Lib.ctz 64 n)],rfl,Below.refl _ _,⟨⟨rfl,?_,?_⟩,fun _ _ _ h=>absurd h (by simp),trivial⟩⟩
   · exact Fits.int rfl (by unfold IntKind.has IntKind.min IntKind.max IntKind.signed IntKind.bits;simp;omega)
   · simp [Qq,WJ,TyD.isAgg,Value.cells]
def QK4:List (List Nat):=[[0],[0,3],[2],[10],[2],[2]]
theorem QDp (op:Int):Ctr Go.Proofs.Tryz.prog tab 185 [58] [3] [.int op] [.int (VM op)]:=by
 refine Ctr.body ok Go.Proofs.Tryz.func185 rfl rfl 17 rfl [.tmp 2] rfl (by simp [QL]) ?_
 simp only [go_sem,Nat.reduceAdd]
 repeat' first
  | ((with_reducible refine Zx fun R1 hR1=>?_);(simp only [go_sem,seval,-List.reduceReplicate,Bool.cond_false_right,Bool.cond_true_left]);(repeat' with_reducible refine And.intro ?_ ?_);all_goals first|(refine hR1 _ ?_;clear hR1 R1)|exact YJ)
  | ((with_reducible refine Zw ?_);refine hR _ ?_;clear hR R;try simp only [go_sem,QK4,Nat.reduceBEq])
  | (with_reducible first|refine J1 ?_|refine J2 ?_|refine J3 ?_|refine J4 ?_|refine J5 ?_|refine J6 ?_|refine J7 ?_|refine J8 (by decide) ?_|refine J9 ?_|refine ZL ?_|refine ZS ?_|refine Y3 ?_)
  | ((with_reducible refine rg QK4 fun R hR=>?_);simp only [go_sem,QC])
  | ((with_reducible refine SA.cond rfl ?_ ?_)
     all_goals
      intro hb
      try simp [-List.getD_eq_getElem?_getD] at hb
      try (exfalso;omega))
  | ((with_reducible first|refine YQ ?_|refine Zv ?_)
     simp only [go_sem,QS,QW,QM,seval]
     refine ⟨rfl,congrArg (fun e=>some (V.int e)) ?_⟩
     unfold VM
     (repeat' split)<;>first|rfl|(exfalso;omega))
def QKw:List (List Nat):=[[0],[3],[2],[2]]
theorem QCR (b:Bool):Ctr Go.Proofs.Tryz.prog tab 218 [4] [2] [.bool b] [.int (XQ b)]:=by
 refine Ctr.body ok Go.Proofs.Tryz.func218 rfl rfl 4 rfl [.tmp 2] rfl (by simp [QL]) ?_
 simp only [go_sem,Nat.reduceAdd]
 repeat' first
  | ((with_reducible refine Zx fun R1 hR1=>?_);(simp only [go_sem,seval,-List.reduceReplicate,Bool.cond_false_right,Bool.cond_true_left]);(repeat' with_reducible refine And.intro ?_ ?_);all_goals first|(refine hR1 _ ?_;clear hR1 R1)|exact YJ)
  | ((with_reducible refine Zw ?_);refine hR _ ?_;clear hR R;try simp only [go_sem,QKw,Nat.reduceBEq])
  | (with_reducible first|refine J1 ?_|refine J2 ?_|refine J3 ?_|refine ZL ?_|refine ZS ?_)
  | ((with_reducible refine rg QKw fun R hR=>?_);simp only [go_sem,QC])
  | ((with_reducible refine QR 3 rfl (fun hb3=>?_) fun hb3=>?_);all_goals (try simp only [decide_eq_true_eq,decide_eq_false_iff_not] at hb3))
  | ((with_reducible first|refine YQ ?_|refine Zv ?_)
     simp only [go_sem,QS,QW,QM,seval]
     have q:=hb3
     rw [hb3]
     exact ⟨rfl,rfl⟩)
def QKz:List (List Nat):=[[0],[0],[0],[0],[0],[0],[0],[2]]
theorem QHz (n:Nat) (hn:n<18446744073709551616):Ctr Go.Proofs.Tryz.prog tab 214 [266] [3] [.int n] [.int (QH1 n)]:=by
 refine Ctr.body ok Go.Proofs.Tryz.func214 rfl rfl 35 rfl [.tmp 2] rfl (by simp [QL]) ?_
 simp only [go_sem,Nat.reduceAdd]
 repeat' first
  | ((with_reducible refine Zx fun R1 hR1=>?_);(simp only [go_sem,seval,-List.reduceReplicate,Bool.cond_false_right,Bool.cond_true_left]);(repeat' with_reducible refine And.intro ?_ ?_);all_goals first|(refine hR1 _ ?_;clear hR1 R1)|omega|decide|(intro _;omega)|(intro _;decide))
  | ((with_reducible refine Zw ?_);refine hR _ ?_;clear hR R;try simp only [go_sem,QKz,Nat.reduceBEq])
  | (with_reducible first|refine J1 ?_|refine J2 ?_|refine ZL ?_|refine ZS ?_)
  | ((with_reducible refine rg QKz fun R hR=>?_);simp only [go_sem,QC])
  | ((with_reducible first|refine YQ ?_|refine Zv ?_)
     simp only [go_sem,QS,QW,QM,seval]
     exact ⟨rfl,congrArg (fun e=>some (V.int e)) (QGB hn)⟩)
def QKv:List (List Nat):=[[0,1],[0,5],[4]]
theorem QHe (x k:Int) (hk:0≤k∧k<64):Ctr Go.Proofs.Tryz.prog tab 219 [266,3] [266] [.int x,.int k] [.int (QHg x k)]:=by
 refine Ctr.body ok Go.Proofs.Tryz.func219 rfl rfl 17 rfl [.tmp 4] rfl (by simp [QL]) ?_
 simp only [go_sem,Nat.reduceAdd]
 repeat' first
  | ((with_reducible refine Zx fun R1 hR1=>?_);(simp only [go_sem,seval,-List.reduceReplicate,Bool.cond_false_right,Bool.cond_true_left]);(repeat' with_reducible refine And.intro ?_ ?_);all_goals first|(refine hR1 _ ?_;clear hR1 R1)|omega|decide|(intro _;omega)|(intro _;decide))
  | ((with_reducible refine Zw ?_);refine hR _ ?_;clear hR R;try simp only [go_sem,QKv,Nat.reduceBEq])
  | (with_reducible first|refine J1 ?_|refine J2 ?_|refine ZL ?_|refine ZS ?_)
  | ((with_reducible refine rg QKv fun R hR=>?_);simp only [go_sem,QC])
  | ((with_reducible first|refine YQ ?_|refine Zv ?_)
     simp only [go_sem,QS,QW,QM,seval]
     exact ⟨rfl,congrArg (fun e=>some (V.int e)) (QJp hk)⟩)
def QKt:List (List Nat):=[[0,1],[0,1,6],[0,1,6,7],[0,1,6,7,8],[0,1,6,7,8,9],[0,1,6,7,8,9,10],[0,1,6,7,9,11],[0,1,6,7,9,11,12],[0,1,6,7,9,12,13],[0,1,7,9,12,13],[0,1,4],[4,5]]
theorem QGE (x y:Nat) (hx:x<18446744073709551616) (hy:y<18446744073709551616):Ctr Go.Proofs.Tryz.prog tab 227 [266,266] [266,266] [.int x,.int y] [.int ((x*y / 18446744073709551616:Nat):Int),.int ((x*y % 18446744073709551616:Nat):Int)]:=by
 refine Ctr.body ok Go.Proofs.Tryz.func227 rfl rfl 51 rfl [.tmp 4,.tmp 5] rfl (by simp [QL]) ?_
 simp only [go_sem,Nat.reduceAdd]
 repeat' first
  | ((with_reducible refine Zx fun R1 hR1=>?_);(simp only [go_sem,seval,-List.reduceReplicate,Bool.cond_false_right,Bool.cond_true_left]);(repeat' with_reducible refine And.intro ?_ ?_);all_goals first|(refine hR1 _ ?_;clear hR1 R1)|omega|decide|(intro _;omega)|(intro _;decide))
  | ((with_reducible refine Zw ?_);refine hR _ ?_;clear hR R;try simp only [go_sem,QKt,Nat.reduceBEq])
  | (with_reducible first|refine J1 ?_|refine J2 ?_|refine ZL ?_|refine ZS ?_)
  | ((with_reducible refine rg QKt fun R hR=>?_);simp only [go_sem,QC])
  | ((with_reducible first|refine YQ ?_|refine Zv ?_)
     simp only [go_sem,QS,QW,QM,seval]
     exact ⟨⟨rfl,congrArg (fun e=>some (V.int e)) (QID hx hy)⟩,rfl,congrArg (fun e=>some (V.int e)) ((congrArg IntKind.u64.wrap (QIC x y)).trans (QKY _))⟩)
def QK2:List (List Nat):=[[0,1,2],[0,1,2,8],[6,7],[0,1,2,11],[6,7],[1,2,20],[6,7],[1,2,26],[6,7],[6,7]]
theorem QBL (op a b:Int) (hop:op=19∨op=20) (ha : -9223372036854775808≤a∧a<9223372036854775808) (hb : -9223372036854775808≤b∧b<9223372036854775808):Ctr Go.Proofs.Tryz.prog tab 187 [58,2,2] [2,30] [.int op,.int a,.int b] [.int (Xt op a b).1,.int (Xt op a b).2]:=by
 refine Ctr.body ok Go.Proofs.Tryz.func187 rfl rfl 32 rfl [.tmp 6,.tmp 7] rfl (by simp [QL]) ?_
 simp only [go_sem,Nat.reduceAdd]
 repeat' first
  | ((with_reducible refine Zx fun R1 hR1=>?_);(simp only [go_sem,seval,-List.reduceReplicate,Bool.cond_false_right,Bool.cond_true_left]);(repeat' with_reducible refine And.intro ?_ ?_);all_goals first|(refine hR1 _ ?_;clear hR1 R1)|omega|decide|(intro _;omega)|(intro _;decide))
  | ((with_reducible refine Zw ?_);refine hR _ ?_;clear hR R;try simp only [go_sem,QK2,Nat.reduceBEq])
  | (with_reducible first|refine J1 ?_|refine J2 ?_|refine J3 ?_|refine J4 ?_|refine J5 ?_|refine J6 ?_|refine J7 ?_|refine J8 (by decide) ?_|refine J9 ?_|refine ZL ?_|refine ZS ?_|refine Y3 ?_)
  | ((with_reducible refine rg QK2 fun R hR=>?_);simp only [go_sem,QC])
  | ((with_reducible refine QR 8 rfl (fun hb8=>?_) fun hb8=>?_);all_goals (try simp [-List.getD_eq_getElem?_getD] at hb8;try (exfalso;omega)))
  | ((with_reducible refine QR 11 rfl (fun hb11=>?_) fun hb11=>?_);all_goals (try simp [-List.getD_eq_getElem?_getD] at hb11;try (exfalso;omega)))
  | ((with_reducible refine QR 20 rfl (fun hb20=>?_) fun hb20=>?_);all_goals (try simp [-List.getD_eq_getElem?_getD] at hb20;try (exfalso;omega)))
  | ((with_reducible refine QR 26 rfl (fun hb26=>?_) fun hb26=>?_);all_goals (try simp [-List.getD_eq_getElem?_getD] at hb26;try (exfalso;omega)))
  | ((with_reducible first|refine YQ ?_|refine Zv ?_)
     simp only [go_sem,QS,QW,QM,seval]
     first
      | (have q:b=0:=hb8
         have e:Xt op a b=(0,20):=by
          unfold Xt
          rw [if_neg (by omega),if_neg (by omega),if_neg (by omega),if_pos hop]
          (repeat' split)<;>first|rfl|(exfalso;omega)|(rw [QCr ha])
         rw [e]
         exact ⟨⟨rfl,rfl⟩,rfl,rfl⟩)
      | (have q:_∧_:=hb11
         have e:Xt op a b=(IntKind.i64.wrap (0-a),0):=by
          unfold Xt
          rw [if_neg (by omega),if_neg (by omega),if_neg (by omega),if_pos hop]
          (repeat' split)<;>first|rfl|(exfalso;omega)|(rw [QCr ha])
         rw [e]
         exact ⟨⟨rfl,rfl⟩,rfl,rfl⟩)
      | (have q:op=19:=hb20
         have e:Xt op a b=(IntKind.i64.wrap (a.tdiv b),0):=by
          unfold Xt
          rw [if_neg (by omega),if_neg (by omega),if_neg (by omega),if_pos hop]
          (repeat' split)<;>first|rfl|(exfalso;omega)|(rw [QCr ha])
         rw [e]
         exact ⟨⟨rfl,rfl⟩,rfl,rfl⟩)
      | (have q:b = -1:=hb26
         have e:Xt op a b=(0,0):=by
          unfold Xt
          rw [if_neg (by omega),if_neg (by omega),if_neg (by omega),if_pos hop]
          (repeat' split)<;>first|rfl|(exfalso;omega)|(rw [QCr ha])
         rw [e]
         exact ⟨⟨rfl,rfl⟩,rfl,rfl⟩)
      | (have q:¬b = -1:=hb26
         have e:Xt op a b=(a.tmod b,0):=by
          unfold Xt
          rw [if_neg (by omega),if_neg (by omega),if_neg (by omega),if_pos hop]
          (repeat' split)<;>first|rfl|(exfalso;omega)|(rw [QCr ha])
         rw [e]
         exact ⟨⟨rfl,rfl⟩,rfl,rfl⟩))
def QK1:List (List Nat):=[[0,1,2],[0,1,2,8],[6,7],[0,1,2,11],[6,7],[1,2,18],[6,7],[6,7]]
theorem QBK (op a b:Int) (hop:op=25∨op=26∨op=27) (ha : -9223372036854775808≤a∧a<9223372036854775808) (hb : -9223372036854775808≤b∧b<9223372036854775808):Ctr Go.Proofs.Tryz.prog tab 188 [58,2,2] [2,30] [.int op,.int a,.int b] [.int (Xt op a b).1,.int (Xt op a b).2]:=by
 refine Ctr.body ok Go.Proofs.Tryz.func188 rfl rfl 31 rfl [.tmp 6,.tmp 7] rfl (by simp [QL]) ?_
 simp only [go_sem,Nat.reduceAdd]
 repeat' first
  | ((with_reducible refine Zx fun R1 hR1=>?_);(simp only [go_sem,seval,-List.reduceReplicate,Bool.cond_false_right,Bool.cond_true_left]);(repeat' with_reducible refine And.intro ?_ ?_);all_goals first|(refine hR1 _ ?_;clear hR1 R1)|omega|decide|(intro _;omega)|(intro _;decide))
  | ((with_reducible refine Zw ?_);refine hR _ ?_;clear hR R;try simp only [go_sem,QK1,Nat.reduceBEq])
  | (with_reducible first|refine J1 ?_|refine J2 ?_|refine J3 ?_|refine J4 ?_|refine J5 ?_|refine J6 ?_|refine J7 ?_|refine J8 (by decide) ?_|refine J9 ?_|refine ZL ?_|refine ZS ?_|refine Y3 ?_)
  | ((with_reducible refine rg QK1 fun R hR=>?_);simp only [go_sem,QC])
  | ((with_reducible refine QR 8 rfl (fun hb8=>?_) fun hb8=>?_);all_goals (try simp [-List.getD_eq_getElem?_getD] at hb8;try (exfalso;omega)))
  | ((with_reducible refine QR 11 rfl (fun hb11=>?_) fun hb11=>?_);all_goals (try simp [-List.getD_eq_getElem?_getD] at hb11;try (exfalso;omega)))
  | ((with_reducible refine QR 18 rfl (fun hb18=>?_) fun hb18=>?_);all_goals (try simp [-List.getD_eq_getElem?_getD] at hb18;try (exfalso;omega)))
  | ((with_reducible first|refine YQ ?_|refine Zv ?_)
     simp only [go_sem,QS,QW,QM,seval]
     first
      | (have q:b<0:=hb8
         have e:Xt op a b=(0,21):=by
          unfold Xt
          rw [if_neg (by omega),if_neg (by omega),if_neg (by omega),if_neg (by omega),if_neg (by omega),if_pos hop]
          exact if_pos hb8
         rw [e]
         exact ⟨⟨rfl,rfl⟩,rfl,rfl⟩)
      | (have q:op=25:=hb11
         have e:Xt op a b=(IntKind.i64.wrap (a*2^min b.toNat 64),0):=by
          unfold Xt
          rw [if_neg (by omega),if_neg (by omega),if_neg (by omega),if_neg (by omega),if_neg (by omega),if_pos hop]
          rw [if_neg (by omega),if_pos hb11,QO4 a hb8]
         rw [e,wN ⟨hb8,hb.2⟩]
         exact ⟨⟨rfl,rfl⟩,rfl,rfl⟩)
      | (have q:op=26:=hb18
         have e:Xt op a b=(a.fdiv (2^min b.toNat 64),0):=by
          unfold Xt
          rw [if_neg (by omega),if_neg (by omega),if_neg (by omega),if_neg (by omega),if_neg (by omega),if_pos hop]
          rw [if_neg (by omega),if_neg (by omega),if_pos hb18,QO5 (Qp ha.1 ha.2) hb8,QL8 ha]
         rw [e,wN ⟨hb8,hb.2⟩]
         exact ⟨⟨rfl,rfl⟩,rfl,rfl⟩)
      | (have q:¬op=26:=hb18
         have e:Xt op a b=(IntKind.i64.wrap ((IntKind.u64.wrap a).fdiv (2^min b.toNat 64)),0):=by
          unfold Xt
          rw [if_neg (by omega),if_neg (by omega),if_neg (by omega),if_neg (by omega),if_neg (by omega),if_pos hop]
          rw [if_neg (by omega),if_neg (by omega),if_neg (by omega),QO3 a hb8]
         rw [e,wN ⟨hb8,hb.2⟩]
         exact ⟨⟨rfl,rfl⟩,rfl,rfl⟩))
def QKx:List (List Nat):=[[0],[0,3],[0,3,5],[0,3,5,6],[0,3,4,5],[0,3,5],[0,3,5],[2]]
theorem QFi (a:Int):Ctr Go.Proofs.Tryz.prog tab 217 [2] [2] [.int a] [.int (VB (QDI a) 0 64)]:=by
 refine Ctr.body ok Go.Proofs.Tryz.func217 rfl rfl 21 rfl [.tmp 2] rfl (by simp [QL]) ?_
 simp only [go_sem,Nat.reduceAdd]
 repeat' first
  | ((with_reducible refine Zx fun R1 hR1=>?_);(simp only [go_sem,seval,-List.reduceReplicate,Bool.cond_false_right,Bool.cond_true_left]);(repeat' with_reducible refine And.intro ?_ ?_);all_goals first|(refine hR1 _ ?_;clear hR1 R1)|omega|decide|(intro _;omega)|(intro _;decide)|(rw [Qp (by omega) (by omega)];omega)|(intro _;rw [Qp (by omega) (by omega)];omega))
  | ((with_reducible refine Zw ?_);refine hR _ ?_;clear hR R;try simp only [go_sem,QKx,Nat.reduceBEq])
  | (with_reducible first|refine J1 ?_|refine J2 ?_|refine J3 ?_|refine J4 ?_|refine J5 ?_|refine J6 ?_|refine J7 ?_|refine J8 (by decide) ?_|refine J9 ?_|refine Uf ?_|refine ZL ?_|refine ZS ?_|refine Y3 ?_|refine V7 ?_)
  | ((with_reducible refine rg QKx fun R hR=>?_);simp only [go_sem,QC])
  | ((with_reducible refine SA.cond rfl ?_ ?_)
     all_goals
      intro hb
      try simp [-List.getD_eq_getElem?_getD] at hb
      try (exfalso;omega))
  | ((with_reducible refine W1 ?_)
     refine Yx (ZZ (by first|rfl|(simp;done)|fail)) (Wo (fun n τ=>∃ (i:Nat),n=64-i∧(i≤64)∧τ={ tm:=[(0,true,.int .i64 a),(3,true,.int .u64 (VB (QFL a) 0 i)),(5,true,.int .i64 i)],ob:=[],out:=[],nt:=21 }) (64) ⟨0,rfl,by omega,rfl⟩ ?_)
     rintro n τ ⟨i,hn,hi,rfl⟩)
  | ((with_reducible refine zF ?_)
     first
      | (have hlt:i<64:=by omega
         have hw:=QN (n:=i) (m:=256) (by omega) (by decide)
         have h63:(IntKind.i64.wrap (63-(i:Int))).toNat=63-i:=by rw [Qp (by omega) (by omega)];omega
         refine WE (64-(i+1)) _ (by omega) ((ZZ (by simp only [hw,h63,Int.toNat_natCast];rfl))) ⟨i+1,rfl,hlt,rfl⟩))
  | ((with_reducible first|refine YQ ?_|refine Zv ?_)
     simp only [go_sem,QS,QW,QM,seval]
     have e:i=64:=by omega
     subst e
     exact ⟨rfl,congrArg (fun e=>some (V.int e)) (QKE a)⟩)
def QIL:List (List Nat):=[[0,2],[0,2,4],[0],[0,2],[0,2,8],[0,2],[0,2],[0,2,14],[0,2],[0,2],[2]]
end Go.Eng.Tryz
