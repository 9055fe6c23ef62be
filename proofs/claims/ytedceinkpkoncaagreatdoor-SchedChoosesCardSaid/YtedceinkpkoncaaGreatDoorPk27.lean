/- A part of the proof: walks through the program's functions, and what they compute. -/
import Derived.Test.YtedceinkpkoncaaGreatDoorPk26
set_option linter.unusedSimpArgs false
set_option linter.unusedVariables false
namespace Go.Eng.Tryz
open Go.RowKit Go.Eng
set_option maxHeartbeats 0
set_option maxRecDepth 20000
theorem Vu (p:Prg) (s:Stt) (g:Int) (hp:p.Fit) (hr:QP p=true) (hw:Wf p s):Ctr Go.Proofs.Tryz.prog tab 46 [26,37,3] [23] [p.v,s.v,.int g] [.list ((Qj p s g).map V.int)]:=by
 have hpp:=hp
 have hok:=Prg.ok hr
 have hs:=hw.shape
 have hcnt:=hw.count
 have hcode:=p.code_len hp
 have hsl:=p.sels_len hp
 obtain ⟨hp1,hp2,hp3,hp4⟩:=hp
 have hs1:=hs.vars
 have hs2:=hs.owner
 have hs3:=hs.chans
 have hs5:=hs.gos
 have hsz:=hok.sizes
 unfold Ze at hsz
 have hmx:256≤maxLen:=by decide
 refine Ctr.body ok Go.Proofs.Tryz.func46 rfl rfl 99 rfl [.tmp 6] rfl (by simp [QE]) ?_
 simp only [go_sem,Nat.reduceAdd]
 repeat' first
  | ((with_reducible refine SART.told 8 8 ?_)
     rw [XB (by omega)])
  | ((with_reducible refine SART.told 9 8 ?_)
     rw [XA (by omega)])
  | ((with_reducible refine SARA.told 13 5 ?_)
     rw [Wj (by omega)])
  | ((with_reducible first|refine Q2 fun R1 hR1=>?_|refine qR fun R1 hR1=>?_|refine qQ fun R1 hR1=>?_|refine qP fun R1 hR1=>?_);(simp only [go_sem,seval,-List.reduceReplicate]);(repeat' with_reducible refine And.intro ?_ ?_);all_goals first|(refine hR1 _ ?_;clear hR1 R1)|((first|refine cq (cc (WV s g hs (by omega))) ?_|refine ⟨_,_,rfl,.inl ⟨_,fun hg=>CallQ.ctr ok (WV s g hs (by omega)) (by first|rfl|(simp [go_sem];done)|fail) rfl,?_⟩⟩|refine cq (cc (Wo p s g hpp hs (by omega) hgi)) ?_|refine ⟨_,_,rfl,.inl ⟨_,fun hg=>CallQ.ctr ok (Wo p s g hpp hs (by omega) hgi) (by first|rfl|(simp [go_sem];done)|fail) rfl,?_⟩⟩|refine cq (cc (QBM p s g hpp hr hw hl.1)) ?_|refine ⟨_,_,rfl,.inl ⟨_,fun hg=>CallQ.ctr ok (QBM p s g hpp hr hw hl.1) (by first|rfl|(simp [go_sem];done)|fail) rfl,?_⟩⟩|refine cq (cc (VP p s _ hpp hs hC.chan (by omega))) ?_|refine ⟨_,_,rfl,.inl ⟨_,fun hg=>CallQ.ctr ok (VP p s _ hpp hs hC.chan (by omega)) (by first|rfl|(simp [go_sem];done)|fail) rfl,?_⟩⟩|refine cq (cc (Xe s _ hs hC4)) ?_|refine ⟨_,_,rfl,.inl ⟨_,fun hg=>CallQ.ctr ok (Xe s _ hs hC4) (by first|rfl|(simp [go_sem];done)|fail) rfl,?_⟩⟩|refine cq (cc (Z2 p s g hpp hs (by omega) hgi)) ?_|refine ⟨_,_,rfl,.inl ⟨_,fun hg=>CallQ.ctr ok (Z2 p s g hpp hs (by omega) hgi) (by first|rfl|(simp [go_sem];done)|fail) rfl,?_⟩⟩);all_goals ((try simp only [go_sem,seval,-List.reduceReplicate]);(repeat' with_reducible refine And.intro ?_ ?_);all_goals first|(refine hR1 _ ?_;clear hR1 R1)|exact ZQ|(simp [-List.getD_eq_getElem?_getD,QQ,maxLen,by3,QDH,QFc];omega)|(simp [-List.getD_eq_getElem?_getD,QQ,maxLen,by3,QDH,QFc];done)))|exact ZQ|(simp [-List.getD_eq_getElem?_getD,QQ,maxLen,by3,QDH,QFc];omega)|(simp [-List.getD_eq_getElem?_getD,QQ,maxLen,by3,QDH,QFc];done))
  | ((with_reducible refine SART.doneAt 9 ?_);refine hR _ ?_;clear hR R;try simp only [go_sem,QEC,Nat.reduceBEq]
     exact Qq rfl)
  | ((with_reducible first|refine qO ?_|refine Q1 ?_);refine hR _ ?_;clear hR R;try simp only [go_sem,QEC,Nat.reduceBEq])
  | (with_reducible first|refine qN ?_ ?_|exact qM|refine qL ?_ ?_)
  | (with_reducible first|refine J1 ?_|refine J2 ?_|refine J3 ?_|refine J4 ?_|refine J5 ?_|refine J6 ?_|refine J7 ?_|refine J8 (by decide) ?_|refine J9 ?_|refine WL ?_|refine Q0 ?_|refine Qz ?_|refine YZ ?_|refine WK ?_)
  | ((with_reducible refine QZ 4 ?_)
     have hl:=live_iff.1 hb15
     have hgi:=hw.gos g hl.1.1 hl.1.2
     obtain ⟨hf0,hf1,hpc0,hpc1,h8⟩:=hgi
     have hgi:=hw.gos g hl.1.1 hl.1.2
     (with_reducible refine rg QEC fun R hR=>?_);simp only [go_sem,QC])
  | ((with_reducible refine QZ 13 ?_)
     have hC:=UC hok (i:=(s.gos.getD g.toNat default).func.toNat) (j:=(QA p s g).a.toNat) (k:=i) (by omega) (by omega) (by omega)
     have hC4:0≤(((p.funcs.getD (s.gos.getD g.toNat default).func.toNat default).sels.getD (QA p s g).a.toNat default).cases.getD i default).chan∧(((p.funcs.getD (s.gos.getD g.toNat default).func.toNat default).sels.getD (QA p s g).a.toNat default).cases.getD i default).chan<4:=⟨hC.chan.1,by have:=hC.chan.2;omega⟩
     have hq:=WI p s ((p.funcs.getD (s.gos.getD g.toNat default).func.toNat default).sels.getD (QA p s g).a.toNat default) i
     (with_reducible refine rg QEC fun R hR=>?_);simp only [go_sem,QC])
  | ((with_reducible refine QZ 16 ?_)
     have hq:=WI p s ((p.funcs.getD (s.gos.getD g.toNat default).func.toNat default).sels.getD (QA p s g).a.toNat default) i
     (with_reducible refine rg QEC fun R hR=>?_);simp only [go_sem,QC])
  | ((with_reducible refine QZ 8 ?_)
     have hop:=hw.op_at hok hl.1.1 hl.1.2 hb21 (by decide)
     have hI:0≤(QA p s g).a∧(QA p s g).a<((p.funcs.getD (s.gos.getD g.toNat default).func.toNat default).sels.length:Int):=V0 (hw.right hok hl.1.1 hl.1.2) hop
     have hsh:=hok.short (s.gos.getD g.toNat default).func.toNat (QA p s g).a.toNat (by omega)
     refine WJ ok QN (.take 0 (.take 1 (.take 2 (.take 3 (.take 4 (.take 5 (.take 6 (.take 7 (.take 8 (.br 9 (.br 10 .done .nil) .nil)))))))))) [10] QEC (by kernel_rfl) (fun R hR=>?_);simp only [go_sem,QC])
  | ((with_reducible refine QZ 9 ?_)
     refine J35 ok QN (.take 0 (.take 1 (.take 2 (.take 3 (.take 4 (.br 5 (.take 6 (.take 7 (.take 8 (.br 9 (.br 10 .done .nil) .nil)))) (.br 9 (.br 5 (.take 6 (.take 7 (.take 8 (.br 10 .done .nil)))) .nil) .nil))))))) [10] QEC (by kernel_rfl) ({ tm:=[(3,true,.ptr 0 [] 26),(4,true,.ptr 1 [] 37),(7,true,.nilsl),(9,true,.ptr 3 [] 124)],ob:=[.var 26 (.data 26 p.v),.var 37 (.data 37 s.v),.var 121 (.data 121 (p.funcs.getD (s.gos.getD g.toNat default).func.toNat default).v),.var 124 (.data 124 ((p.funcs.getD (s.gos.getD g.toNat default).func.toNat default).sels.getD (QA p s g).a.toNat default).v)],out:=[],nt:=99 }) (fun R hR=>?_) ?_;simp only [go_sem,QC])
  | ((with_reducible refine rg QEC fun R hR=>?_);simp only [go_sem,QC])
  | ((with_reducible refine QH 15 rfl (fun hb15=>?_) fun hb15=>?_);all_goals (try simp [-List.getD_eq_getElem?_getD] at hb15;try (exfalso;omega)))
  | ((with_reducible refine QH 21 rfl (fun hb21=>?_) fun hb21=>?_);all_goals (try simp [-List.getD_eq_getElem?_getD] at hb21;try (exfalso;omega)))
  | ((with_reducible refine QH 25 rfl (fun hb25=>?_) fun hb25=>?_);all_goals (try simp [-List.getD_eq_getElem?_getD] at hb25;try (exfalso;omega)))
  | ((with_reducible refine QH 52 rfl (fun hb52=>?_) fun hb52=>?_);all_goals (try simp [-List.getD_eq_getElem?_getD] at hb52;try (exfalso;omega)))
  | ((with_reducible refine QH 79 rfl (fun hb79=>?_) (fun hb79=>?_))
     all_goals
      rw [QFZ] at hb79)
  | ((with_reducible refine QH 91 rfl (fun hb91=>?_) fun hb91=>?_);all_goals (try simp [-List.getD_eq_getElem?_getD] at hb91;try (exfalso;omega)))
  | ((with_reducible refine YQ ?_)
     refine Zo ((St.le.own (t:=7) 3 rfl).trans ((St.le.keep [3,4,7,9,10]).trans (Qq (by first|rfl|(simp;done)|fail)))) (YR (fun n τ=>∃ (i:Nat),n=((p.funcs.getD (s.gos.getD g.toNat default).func.toNat default).sels.getD (QA p s g).a.toNat default).cases.length-i∧(i≤((p.funcs.getD (s.gos.getD g.toNat default).func.toNat default).sels.getD (QA p s g).a.toNat default).cases.length)∧τ={ tm:=[(3,true,.ptr 0 [] 26),(4,true,.ptr 1 [] 37),(7,true,.sl 4 3 0 (ZV p s ((p.funcs.getD (s.gos.getD g.toNat default).func.toNat default).sels.getD (QA p s g).a.toNat default) i).length false),(9,true,.ptr 3 [] 124),(10,true,.int .i64 i)],ob:=[.var 26 (.data 26 p.v),.var 37 (.data 37 s.v),.var 121 (.data 121 (p.funcs.getD (s.gos.getD g.toNat default).func.toNat default).v),.var 124 (.data 124 ((p.funcs.getD (s.gos.getD g.toNat default).func.toNat default).sels.getD (QA p s g).a.toNat default).v),.row 3 ((ZV p s ((p.funcs.getD (s.gos.getD g.toNat default).func.toNat default).sels.getD (QA p s g).a.toNat default) i).map V.int)],out:=[],nt:=99 }) (((p.funcs.getD (s.gos.getD g.toNat default).func.toNat default).sels.getD (QA p s g).a.toNat default).cases.length) ⟨0,rfl,by omega,rfl⟩ ?_)
     rintro n τ ⟨i,hn,hi,rfl⟩)
  | ((with_reducible refine WM ?_)
     first
      | (have q:=wU (n:=i) hb79
         have hlt:i<((p.funcs.getD (s.gos.getD g.toNat default).func.toNat default).sels.getD (QA p s g).a.toNat default).cases.length:=by omega
         have hw:=QD (n:=i) (m:=256) (by omega) (by decide)
         refine Zt (((p.funcs.getD (s.gos.getD g.toNat default).func.toNat default).sels.getD (QA p s g).a.toNat default).cases.length-(i+1)) _ (by omega) ((WN 5 rfl).trans (Qq (by simp [-List.getD_eq_getElem?_getD,q,hw,List.take_of_length_le]))) ⟨i+1,rfl,hlt,rfl⟩)
      | (have q:=xI (n:=i) hb79
         have hlt:i<((p.funcs.getD (s.gos.getD g.toNat default).func.toNat default).sels.getD (QA p s g).a.toNat default).cases.length:=by omega
         have hw:=QD (n:=i) (m:=256) (by omega) (by decide)
         refine Zt (((p.funcs.getD (s.gos.getD g.toNat default).func.toNat default).sels.getD (QA p s g).a.toNat default).cases.length-(i+1)) _ (by omega) ((WN 5 rfl).trans (Qq (by simp [-List.getD_eq_getElem?_getD,q,hw,List.take_of_length_le]))) ⟨i+1,rfl,hlt,rfl⟩))
  | ((with_reducible first|refine ZH ?_|refine ZG ?_)
     simp only [go_sem,QJ,QK,QG,seval]
     first
      | (have q:_=false:=hb15
         refine ⟨rfl,?_⟩
         rw [show Qj p s g=[] from if_neg (by rw [hb15];simp)]
         rfl)
      | (have q:_=true:=hb25
         refine ⟨rfl,?_⟩
         rw [show Qj p s g=[0] from (if_pos hb15).trans ((if_neg hb21).trans (if_pos hb25))]
         simp)
      | (have q:_=false:=hb25
         refine ⟨rfl,?_⟩
         rw [show Qj p s g=[] from (if_pos hb15).trans ((if_neg hb21).trans (if_neg (by rw [hb25];simp)))]
         rfl)
      | (have q:_∧_:=hb91
         have hi':i=((p.funcs.getD (s.gos.getD g.toNat default).func.toNat default).sels.getD (QA p s g).a.toNat default).cases.length:=by omega
         subst hi'
         refine ⟨rfl,?_⟩
         rw [show Qj p s g=ZV p s ((p.funcs.getD (s.gos.getD g.toNat default).func.toNat default).sels.getD (QA p s g).a.toNat default) ((p.funcs.getD (s.gos.getD g.toNat default).func.toNat default).sels.getD (QA p s g).a.toNat default).cases.length++[(((p.funcs.getD (s.gos.getD g.toNat default).func.toNat default).sels.getD (QA p s g).a.toNat default).cases.length:Int)] from (if_pos hb15).trans ((if_pos hb21).trans (if_pos ⟨congrArg List.length hb91.1,hb91.2⟩))]
         simp [-List.getD_eq_getElem?_getD,List.take_of_length_le])
      | (have hi':i=((p.funcs.getD (s.gos.getD g.toNat default).func.toNat default).sels.getD (QA p s g).a.toNat default).cases.length:=by omega
         subst hi'
         refine ⟨rfl,?_⟩
         rw [show Qj p s g=ZV p s ((p.funcs.getD (s.gos.getD g.toNat default).func.toNat default).sels.getD (QA p s g).a.toNat default) ((p.funcs.getD (s.gos.getD g.toNat default).func.toNat default).sels.getD (QA p s g).a.toNat default).cases.length from (if_pos hb15).trans ((if_pos hb21).trans (if_neg (fun q=>q.2 (hb91 (List.eq_nil_of_length_eq_zero q.1)))))]
         simp [-List.getD_eq_getElem?_getD,List.take_of_length_le]))
end Go.Eng.Tryz
namespace Go.Eng.Tryz
open Go.RowKit Go.Eng
set_option maxHeartbeats 0
set_option maxRecDepth 20000
def QKo:List (List Nat):=[[0,1,2,3],[0,1,2,3,9],[0,1,2,3,9,10],[0,1,2,3,9,10,11],[0,1,2,3,9,10,11,16],[0,1,2,3,9,10,11],[0,1,2,3,9,10,11,12],[0,1,2,3,9,10,11,12,36],[0,1,2,3,9,11,12],[0,1,2,3,9,10,11,12],[0,1,2,3,9,10,11,12,62],[0,1,2,3,9,11,12],[0,1,2,3,9,10,11,12],[0,1,2,3,9,10,11],[1,2,3,9,75],[9],[8]]
theorem UE (l:List Access) (k m:Int) (w:Bool) (hl:l.length≤16):Ctr Go.Proofs.Tryz.prog tab 88 [60,3,3,4] [60] [.list (l.map Access.v),.int k,.int m,.bool w] [.list ((add k m w l).map Access.v)]:=by
 have hmx:256≤maxLen:=by decide
 have hcode:True→True:=id
 have hsl:True→True:=id
 refine Ctr.body ok Go.Proofs.Tryz.func88 rfl rfl 84 rfl [.tmp 8] rfl (by simp [QE]) ?_
 simp only [go_sem,Nat.reduceAdd]
 repeat' first
  | ((with_reducible refine SARA.told 6 4 ?_)
     rw [Qr Access.v l (by omega)])
  | ((with_reducible refine Q2 fun R1 hR1=>?_);(simp only [go_sem,seval,-List.reduceReplicate,QMz,z45,z3,z4]);(repeat' with_reducible refine And.intro ?_ ?_);all_goals first|(refine hR1 _ ?_;clear hR1 R1)|exact Xk)
  | ((with_reducible refine Q1 ?_);refine hR _ ?_;clear hR R;try simp only [go_sem,QKo,Nat.reduceBEq])
  | (with_reducible first|refine J1 ?_|refine J2 ?_|refine J3 ?_|refine J4 ?_|refine J5 ?_|refine J6 ?_|refine J7 ?_|refine J8 (by decide) ?_|refine J9 ?_|refine WL ?_|refine Q0 ?_|refine Qz ?_|refine YZ ?_|refine WK ?_)
  | ((with_reducible refine QZ 6 ?_)
     have hq:=QAa k m w l i
     (with_reducible refine rg QKo fun R hR=>?_);simp only [go_sem,QC])
  | ((with_reducible refine QZ 14 ?_)
     have hq:=QAa k m w l i
     (with_reducible refine rg QKo fun R hR=>?_);simp only [go_sem,QC])
  | ((with_reducible refine rg QKo fun R hR=>?_);simp only [go_sem,QC])
  | ((with_reducible refine QH 16 rfl (fun hb16=>?_) fun hb16=>?_);all_goals (try simp [-List.getD_eq_getElem?_getD] at hb16;try (exfalso;omega)))
  | ((with_reducible refine QH 36 rfl (fun hb36=>?_) fun hb36=>?_);all_goals (try simp [-List.getD_eq_getElem?_getD] at hb36;try (exfalso;omega)))
  | ((with_reducible refine QH 62 rfl (fun hb62=>?_) fun hb62=>?_);all_goals (try simp [-List.getD_eq_getElem?_getD] at hb62;try (exfalso;omega)))
  | ((with_reducible refine QH 75 rfl (fun hb75=>?_) fun hb75=>?_);all_goals (try simp [-List.getD_eq_getElem?_getD] at hb75;try (exfalso;omega)))
  | ((with_reducible refine YQ ?_)
     refine Zo ((St.le.own (t:=9) 45 rfl).trans ((St.le.keep [0,1,2,3,9,10,11]).trans (Qq (by first|rfl|(simp;done)|fail)))) (YR (fun n τ=>∃ (i:Nat),n=l.length-i∧(i≤l.length)∧τ={ tm:=[(0,true,.fs 45 (l.map Access.v) false),(1,true,.int .i64 k),(2,true,.int .i64 m),(3,true,.bool w),(9,true,.sl 0 45 0 (Wb k m w l i).1.length false),(10,true,.bool (Wb k m w l i).2),(11,true,.int .i64 i)],ob:=[.row 45 ((Wb k m w l i).1.map Access.v)],out:=[],nt:=84 }) (l.length) ⟨0,rfl,by omega,rfl⟩ ?_)
     rintro n τ ⟨i,hn,hi,rfl⟩)
  | ((with_reducible refine WM ?_)
     first
      | (have q:(_∧_)∧_:=hb36
         have hlt:i<l.length:=by omega
         have hw:=QD (n:=i) (m:=256) (by omega) (by decide)
         have e:=(qI k m w l hlt).trans (if_pos hb36)
         refine Zt (l.length-(i+1)) _ (by omega) ((WN 1 rfl).trans (Qq (by simp [-List.getD_eq_getElem?_getD,e,hw,Access.v,List.take_of_length_le,Nat.add_assoc,Bool.or_comm]))) ⟨i+1,rfl,hlt,rfl⟩)
      | (have q:_∧_:=hb62
         have hlt:i<l.length:=by omega
         have hw:=QD (n:=i) (m:=256) (by omega) (by decide)
         have e:=(qI k m w l hlt).trans ((if_neg (fun q=>absurd (hb36 q.1.1 q.1.2) (fun h=>h q.2))).trans (if_pos hb62))
         refine Zt (l.length-(i+1)) _ (by omega) ((WN 1 rfl).trans (Qq (by simp [-List.getD_eq_getElem?_getD,e,hw,Access.v,List.take_of_length_le,Nat.add_assoc]))) ⟨i+1,rfl,hlt,rfl⟩)
      | (have hlt:i<l.length:=by omega
         have hw:=QD (n:=i) (m:=256) (by omega) (by decide)
         have e:=(qI k m w l hlt).trans ((if_neg (fun q=>absurd (hb36 q.1.1 q.1.2) (fun h=>h q.2))).trans (if_neg (fun q=>q.2.elim (fun h=>absurd h (Int.not_lt.2 (hb62 q.1).1)) (fun h=>absurd h.2 (Int.not_lt.2 ((hb62 q.1).2 h.1))))))
         refine Zt (l.length-(i+1)) _ (by omega) ((WN 1 rfl).trans (Qq (by simp [-List.getD_eq_getElem?_getD,e,hw,Access.v,List.take_of_length_le,Nat.add_assoc]))) ⟨i+1,rfl,hlt,rfl⟩))
  | ((with_reducible first|refine ZH ?_|refine ZG ?_)
     simp only [go_sem,QJ,QK,QG,seval]
     first
      | (have q:_=true:=hb75
         have e:i=l.length:=by omega
         subst e
         refine ⟨rfl,?_⟩
         rw [QGZ,show yP k m w (Wb k m w l l.length)=(Wb k m w l l.length).1 from if_pos hb75]
         simp [List.take_of_length_le])
      | (have e:i=l.length:=by omega
         subst e
         refine ⟨rfl,?_⟩
         rw [QGZ,show yP k m w (Wb k m w l l.length)=(Wb k m w l l.length).1++[⟨k,m,w⟩] from if_neg (by rw [hb75];simp)]
         simp [List.take_of_length_le,Access.v]))
end Go.Eng.Tryz
namespace Go.Eng.Tryz
open Go.RowKit Go.Eng
set_option maxHeartbeats 0
set_option maxRecDepth 20000
theorem XI (k n:Int) (w:Bool):add k n w []=[⟨k,n,w⟩]:=rfl
theorem Xs (q:Sel) {j:Nat} (h:j<q.cases.length) (l:List Access):Qf q (j+1) l=add 3 (q.cases.getD j default).chan true (Qf q j l):=by
 unfold Qf
 rw [List.take_succ_eq_append_getElem h,List.foldl_append]
 simp [List.getD_eq_getElem?_getD,h]
theorem VM (q:Sel) (l:List Access):∀ j:Nat,(Qf q j l).length≤l.length+j
 | 0=>by simp [Qf]
 | j+1=>by
   by_cases h:j<q.cases.length
   · rw [Xs q h]
     have:=Wu 3 (q.cases.getD j default).chan true (Qf q j l)
     have:=VM q l j
     omega
   · have e:Qf q (j+1) l=Qf q j l:=by unfold Qf;rw [List.take_of_length_le (by omega),List.take_of_length_le (by omega)]
     rw [e]
     have:=VM q l j
     omega
theorem Qp (g:Int) (w:Bool):add 4 0 w [(⟨5,g,true⟩:Access)]=[⟨4,0,w⟩,⟨5,g,true⟩]:=by simp [add]
def zE:Nat→Nat
 | 0=>3
 | j+1=>5+j
def Un (p:Prg) (s:Stt) (x:Instr) (q:Sel) (l:List Access):Nat→List Obj
 | 0=>[.var 26 (.data 26 p.v),.var 37 (.data 37 s.v),.var 129 (.data 129 x.v),.row 45 ((Qf q 0 l).map Access.v),.var 124 (.data 124 q.v)]
 | j+1=>Un p s x q l j++[.row 45 ((Qf q (j+1) l).map Access.v)]
theorem zq (q:Sel) (l:List Access):Qf q 0 l=l:=rfl
def QHF:List (List Nat):=[[2,3,4],[2,3,4,7],[2,3,4,7,8],[2,3,4,7,8,21],[2,3,4,7,8,21,22],[8],[2,3,4,7,8,21,28],[8],[2,3,4,7,8,21,34],[8],[2,3,4,7,8,21,40],[2,3,4,7,8,21,40],[8],[2,3,4,7,8,21,47],[2,3,4,7,8,21,47],[8],[2,3,4,7,8,21,54],[8],[2,3,4,7,8,21,60],[2,3,4,7,8,21,60],[2,3,4,7,8,21,60],[8],[2,3,4,7,8,21,68],[8],[2,3,4,7,8,21,74],[8,9],[8,9,10],[8,9,10,94],[8,9,10],[8,9,10],[2,4,7,8,21,105],[4,8],[4,8,111],[8],[2,4,7,8,21,116],[2,4,7,8],[4,8,11],[8,11,135],[8],[8,139],[8],[6]]
end Go.Eng.Tryz
