/- A part of the proof: walks through the program's functions, and what they compute. -/
import Derived.Test.YtmonhjagbhpbeaaGreatDoorPk5
import Derived.Lib.Mul64
set_option linter.unusedSimpArgs false
set_option linter.unusedVariables false
namespace Go.Eng
theorem QUq (x:Nat) (hx:x<18446744073709551616) :
 let y:=(x / 2 &&& Xp 0x55 8)+(x &&& Xp 0x55 8)
 let z:=(y / 4 &&& Xp 0x33 8)+(y &&& Xp 0x33 8)
 (z / 16+z) &&& Xp 0x0f 8=XV ((Yn 8 x).map QEC):=by
 intro y z
 have h256:=QF2 8 x
 have hl:=QDU 8 x
 have hy:y=XV ((Yn 8 x).map s1):=by
  have h:=QMI (Yn 8 x) h256
  rw [hl,QAQ 8 x (by omega)] at h
  exact h
 have h1:∀ c∈(Yn 8 x).map s1,c<171:=by
  intro c hc
  obtain ⟨d,hd,rfl⟩:=List.mem_map.1 hc
  exact QSw ⟨d,h256 d hd⟩
 have hz:z=XV (((Yn 8 x).map s1).map s2):=by
  have h:=QMH ((Yn 8 x).map s1) fun c hc=>by have:=h1 c hc;omega
  rw [List.length_map,hl,← hy] at h
  exact h
 have h2:∀ c∈((Yn 8 x).map s1).map s2,c<119∧c % 16<8:=by
  intro c hc
  obtain ⟨d,hd,rfl⟩:=List.mem_map.1 hc
  have:=QPu ⟨d,h1 d hd⟩
  exact ⟨this.2.2,this.2.1⟩
 have h:=(QMG _ h2).1
 rw [List.length_map,List.length_map,hl,← hz] at h
 rw [h,List.map_map,List.map_map]
 congr 1
 apply List.map_congr_left
 intro c hc
 exact QUs ⟨c,h256 c hc⟩
def wE (x:Nat):Nat→Nat
 | 0=>0
 | n+1=>wE x n+x / 2^n % 2
theorem QIE (x:Nat):∀ n,wE x n≤n
 | 0=>Nat.le_refl _
 | n+1=>by have:=QIE x n;have:=Nat.mod_lt (x / 2^n) (show 0<2 by decide);unfold wE;omega
theorem QFM (a:Int):∀ n,n≤64→YT (vI a) 0 n=(wE (BitVec.ofInt 64 a).toNat n:Int)
 | 0,_=>rfl
 | n+1,h=>by
   rw [Ul,QFM a n (by omega)]
   unfold vI
   rw [Y9 a (by omega),QHP]
   have h1:=QIE (BitVec.ofInt 64 a).toNat n
   have h2:=Nat.mod_lt ((BitVec.ofInt 64 a).toNat / 2^n) (show 0<2 by decide)
   show _=((wE (BitVec.ofInt 64 a).toNat n+(BitVec.ofInt 64 a).toNat / 2^n % 2:Nat):Int)
   generalize (BitVec.ofInt 64 a).toNat / 2^n % 2=u at *
   generalize wE (BitVec.ofInt 64 a).toNat n=v at *
   rw [Qm (by omega) (by omega)]
   omega
theorem QFx (x:Nat) (n:Nat):∀ m,wE x (n+m)=wE x n+wE (x / 2^n) m
 | 0=>rfl
 | m+1=>by
   rw [← Nat.add_assoc,wE,wE,QFx x n m,Nat.div_div_eq_div_mul,← Nat.pow_add]
   omega
theorem QRR (x:Nat):wE x 8=QEC (x % 256):=by
 simp only [wE,QEC]
 omega
theorem QDM:∀ (n x:Nat),wE x (8*n)=((Yn n x).map QEC).sum
 | 0,_=>rfl
 | n+1,x=>by
   rw [show 8*(n+1)=8+8*n by omega,QFx,QRR,QDM n,Yn,List.map_cons,List.sum_cons]
theorem UF (x:Nat):QEC x≤8:=by unfold QEC;omega
theorem QUr {c0 c1 c2 c3 c4 c5 c6 c7:Nat} (h0:c0≤8) (h1:c1≤8) (h2:c2≤8) (h3:c3≤8) (h4:c4≤8) (h5:c5≤8) (h6:c6≤8) (h7:c7≤8) :
 let y:=XV [c0,c1,c2,c3,c4,c5,c6,c7]
 let y1:=(y+y / 256) % 18446744073709551616
 let y2:=(y1+y1 / 65536) % 18446744073709551616
 let y3:=(y2+y2 / 4294967296) % 18446744073709551616
 y3 % 128=c0+c1+c2+c3+c4+c5+c6+c7:=by
 intro y y1 y2 y3
 obtain ⟨X7,e7⟩:∃ X,X=c7:=⟨_,rfl⟩
 obtain ⟨X6,e6⟩:∃ X,X=c6+256*X7:=⟨_,rfl⟩
 obtain ⟨X5,e5⟩:∃ X,X=c5+256*X6:=⟨_,rfl⟩
 obtain ⟨X4,e4⟩:∃ X,X=c4+256*X5:=⟨_,rfl⟩
 obtain ⟨X3,e3⟩:∃ X,X=c3+256*X4:=⟨_,rfl⟩
 obtain ⟨X2,e2⟩:∃ X,X=c2+256*X3:=⟨_,rfl⟩
 obtain ⟨X1,e1⟩:∃ X,X=c1+256*X2:=⟨_,rfl⟩
 obtain ⟨X0,e0⟩:∃ X,X=c0+256*X1:=⟨_,rfl⟩
 have b6:X6≤2056:=by omega
 have b5:X5≤526344:=by omega
 have b4:X4≤134744072:=by omega
 have b3:X3≤34494482440:=by omega
 have b2:X2≤8830587504648:=by omega
 have b1:X1≤2260630401189896:=by omega
 have b0:X0≤578721382704613384:=by omega
 have ey:y=X0:=by
  show XV _=_
  simp only [XV]
  omega
 have q1:y1=X0+X1:=by
  show (y+y / 256) % _=_
  rw [ey]
  clear e7 e6 e5 e4 e3 e2 e1
  omega
 have d2:(X0+X1) / 65536=X2+X3:=by
  have f0:X0=c0+256*c1+65536*X2:=by omega
  have f1:X1=c1+256*c2+65536*X3:=by omega
  rw [f0,f1]
  clear e7 e6 e5 e4 e3 e2 e1 e0 f0 f1
  omega
 have q2:y2=X0+X1+X2+X3:=by
  show (y1+y1 / 65536) % _=_
  rw [q1,d2]
  clear e7 e6 e5 e4 e3 e2 e1 e0
  omega
 have d3:(X0+X1+X2+X3) / 4294967296=X4+X5+X6+X7:=by
  have f0:X0=c0+256*c1+65536*c2+16777216*c3+4294967296*X4:=by omega
  have f1:X1=c1+256*c2+65536*c3+16777216*c4+4294967296*X5:=by omega
  have f2:X2=c2+256*c3+65536*c4+16777216*c5+4294967296*X6:=by omega
  have f3:X3=c3+256*c4+65536*c5+16777216*c6+4294967296*X7:=by omega
  rw [f0,f1,f2,f3]
  clear e7 e6 e5 e4 e3 e2 e1 e0 f0 f1 f2 f3
  omega
 have q3:y3=X0+X1+X2+X3+(X4+X5+X6+X7):=by
  show (y2+y2 / 4294967296) % _=_
  rw [q2,d3]
  clear e7 e6 e5 e4 e3 e2 e1 e0
  omega
 rw [q3,e0,e1,e2,e3,e4,e5,e6,e7]
 omega
theorem QI8 (a:Int) :
 let x:=(BitVec.ofInt 64 a).toNat
 let y:=(x / 2 &&& Xp 0x55 8)+(x &&& Xp 0x55 8)
 let z:=(y / 4 &&& Xp 0x33 8)+(y &&& Xp 0x33 8)
 let v:=(z / 16+z) &&& Xp 0x0f 8
 let y1:=(v+v / 256) % 18446744073709551616
 let y2:=(y1+y1 / 65536) % 18446744073709551616
 let y3:=(y2+y2 / 4294967296) % 18446744073709551616
 YT (vI a) 0 64=((y3 % 128:Nat):Int):=by
 intro x y z v y1 y2 y3
 have hv:v=XV ((Yn 8 x).map QEC):=QUq x (BitVec.ofInt 64 a).isLt
 rw [QFM a 64 (by decide),show (64:Nat)=8*8 from rfl,QDM]
 have e:=QUr (UF (x % 256)) (UF (x / 256 % 256)) (UF (x / 256 / 256 % 256)) (UF (x / 256 / 256 / 256 % 256)) (UF (x / 256 / 256 / 256 / 256 % 256)) (UF (x / 256 / 256 / 256 / 256 / 256 % 256)) (UF (x / 256 / 256 / 256 / 256 / 256 / 256 % 256)) (UF (x / 256 / 256 / 256 / 256 / 256 / 256 / 256 % 256))
 simp only [Yn,List.map_cons,List.map_nil] at hv
 simp only at e
 rw [← hv] at e
 have e':y3 % 128=_:=e
 rw [e']
 change ((((Yn 8 x).map QEC).sum:Nat):Int)=_
 clear e e' hv
 simp only [Yn,List.map_cons,List.map_nil,List.sum_cons,List.sum_nil]
 congr 1
 omega
theorem QBR {p:Nat→Bool} {n k:Nat} (hk:k<n) (h:p k=true) (hb:∀ j,j<k→p j=false):(List.range n).findIdx p=k:=by
 have hl:(List.range n).findIdx p<(List.range n).length:=List.findIdx_lt_length_of_exists ⟨k,List.mem_range.2 hk,h⟩
 have h1:=List.findIdx_getElem (w:=hl)
 rw [List.getElem_range] at h1
 rcases Nat.lt_trichotomy ((List.range n).findIdx p) k with q|q|q
 · rw [hb _ q] at h1;cases h1
 · exact q
 · have h2:=List.not_of_lt_findIdx q
   rw [List.getElem_range] at h2
   exact absurd h (by simpa using h2)
theorem vS {p:Nat→Bool} {n:Nat} (hb:∀ j,j<n→p j=false):(List.range n).findIdx p=n:=by
 have h:=List.findIdx_eq_length (p:=p) (xs:=List.range n)
 rw [List.length_range] at h
 exact h.2 fun x hx=>hb x (List.mem_range.1 hx)
theorem QJx (b:Bool):decide (XY b≠0)=b:=by cases b<;>rfl
def Zw (x:Nat):Nat:=if x=0 then 0 else Nat.log2 x+1
theorem QNP {x n:Nat} (h1:x<2^n) (h2:n=0∨2^(n-1)≤x):Zw x=n:=by
 unfold Zw
 rcases h2 with h2|h2
 · subst h2
   rw [if_pos (by simpa using h1)]
 · have hp:0<2^(n-1):=Nat.pow_pos (by decide)
   have h0:x≠0:=by omega
   rw [if_neg h0]
   have q1:=(Nat.le_log2 h0).2 h2
   have q2:=(Nat.log2_lt h0).2 h1
   omega
theorem QH0 (x:Nat):x<2^Zw x:=by
 unfold Zw
 split
 · omega
 · next h=>exact (Nat.log2_lt h).1 (Nat.lt_succ_self _)
theorem QH1 {x:Nat} (h:x≠0):2^(Zw x-1)≤x:=by
 unfold Zw
 rw [if_neg h]
 exact (Nat.le_log2 h).1 (Nat.le_refl _)
theorem QFZ {x:Nat} (h:x≠0):1≤Zw x:=by unfold Zw;rw [if_neg h];omega
theorem Yv {x:Nat} (h:x<18446744073709551616):Zw x≤64:=by
 by_cases h0:x=0
 · subst h0;decide
 · unfold Zw
   rw [if_neg h0]
   have:=(Nat.log2_lt h0).2 (show x<2^64 from h)
   omega
theorem xD {x k:Nat} (h:2^k≤x):Zw x=Zw (x / 2^k)+k:=by
 have hp:0<2^k:=Nat.pow_pos (by decide)
 have h0:x / 2^k≠0:=by
  have:=Nat.div_pos h hp
  omega
 have hl:=QFZ h0
 refine QNP ?_ (.inr ?_)
 · rw [Nat.pow_add]
   exact (Nat.div_lt_iff_lt_mul hp).1 (QH0 _)
 · rw [show Zw (x / 2^k)+k-1=(Zw (x / 2^k)-1)+k by omega,Nat.pow_add]
   exact (Nat.le_div_iff_mul_le hp).1 (QH1 h0)
theorem QLX (a:Int):QFb a=64-Zw (BitVec.ofInt 64 a).toNat:=by
 have hz:=(BitVec.ofInt 64 a).isLt
 have h64:=Yv hz
 have hlt:=QH0 (BitVec.ofInt 64 a).toNat
 have hbit:∀ j:Nat,j<64→decide (WL a (63-(j:Int))≠0)=decide ((BitVec.ofInt 64 a).toNat / 2^(63-j) % 2=1):=by
  intro j hj
  rw [show (63:Int)-(j:Int)=((63-j:Nat):Int) by omega,Y9 a (by omega),QJx,BitVec.getLsbD,Nat.testBit_eq_decide_div_mod_eq]
 unfold QFb
 by_cases h0:(BitVec.ofInt 64 a).toNat=0
 · rw [h0] at hbit ⊢
   rw [vS (fun j hj=>by rw [hbit j hj];simp)]
   rfl
 · have hle:=QH1 h0
   have hp:=QFZ h0
   generalize hn:Zw (BitVec.ofInt 64 a).toNat=n at *
   generalize (BitVec.ofInt 64 a).toNat=z at *
   refine QBR (by omega) ?_ fun j hj=>?_
   · rw [hbit _ (by omega),show 63-(64-n)=n-1 by omega]
     have e:z / 2^(n-1)=1:=by
      refine Nat.div_eq_of_lt_le (by omega) ?_
      have:2^n=2^(n-1)*2:=by rw [← Nat.pow_succ];congr 1;omega
      omega
     rw [e];rfl
   · rw [hbit _ (by omega)]
     have e:z / 2^(63-j)=0:=Nat.div_eq_of_lt (Nat.lt_of_lt_of_le hlt (Nat.pow_le_pow_right (by decide) (by omega)))
     rw [e];rfl
theorem QIe (a:Int):QAS a=Lib.ctz 64 (BitVec.ofInt 64 a).toNat:=by
 have hz:=(BitVec.ofInt 64 a).isLt
 have hbit:∀ j:Nat,j<64→decide (WL a (j:Int)≠0)=decide ((BitVec.ofInt 64 a).toNat / 2^j % 2=1):=by
  intro j hj
  rw [Y9 a (by omega),QJx,BitVec.getLsbD,Nat.testBit_eq_decide_div_mod_eq]
 unfold QAS Lib.ctz
 by_cases h0:(BitVec.ofInt 64 a).toNat=0
 · rw [if_pos h0,vS (fun j hj=>by rw [hbit j hj,h0];simp)]
 · rw [if_neg h0]
   obtain ⟨m,hm,hc⟩:=Lib.ctzFrom_spec 64 _ (Nat.pos_of_ne_zero h0) hz
   generalize Lib.ctzFrom 64 (BitVec.ofInt 64 a).toNat=c at *
   generalize (BitVec.ofInt 64 a).toNat=z at *
   refine QBR hc ?_ fun j hj=>?_
   · rw [hbit _ hc,hm,Nat.mul_div_cancel_left _ (Nat.pow_pos (by decide))]
     simp
   · rw [hbit _ (by omega),hm]
     have e:2^c*(2*m+1)=2^j*(2*(2^(c-j-1)*(2*m+1))):=by
      rw [show c=j+(1+(c-j-1)) by omega,Nat.pow_add,Nat.pow_add,show j+(1+(c-j-1))-j-1=c-j-1 by omega]
      simp only [Nat.pow_one,Nat.mul_assoc]
     rw [e,Nat.mul_div_cancel_left _ (Nat.pow_pos (by decide))]
     simp
theorem QDx (x m:Nat):((x:Int)).fdiv (2^m)=((x / 2^m:Nat):Int):=by
 rw [Int.fdiv_eq_ediv_of_nonneg _ (Int.le_of_lt (Int.pow_pos (by decide)))]
 simp
theorem ql {x:Nat} (h:x<18446744073709551616):IntKind.u64.wrap (x:Int)=(x:Int):=by rw [ZL];omega
theorem QNn (x:Nat):IntKind.u64.wrap (x:Int)=((x % 18446744073709551616:Nat):Int):=by rw [ZL];omega
theorem QGB (x y:Nat):(x:Int)+(y:Int)=((x+y:Nat):Int):=(Int.natCast_add x y).symm
theorem QK4 (x y:Nat):(x:Int)*(y:Int)=((x*y:Nat):Int):=(Int.natCast_mul x y).symm
theorem QJt {x y:Nat} (hx:x<18446744073709551616) (hy:y<18446744073709551616):IntKind.u64.wrap ((BitVec.ofInt 64 (x:Int) &&& BitVec.ofNat 64 y).toNat:Int)=((x &&& y:Nat):Int):=by
 rw [BitVec.ofInt_natCast,BitVec.toNat_and,BitVec.toNat_ofNat,BitVec.toNat_ofNat,Nat.mod_eq_of_lt hx,Nat.mod_eq_of_lt hy]
 exact ql (Nat.lt_of_le_of_lt Nat.and_le_left hx)
theorem QU1 {x:Nat} (hx:x<18446744073709551616):IntKind.u64.wrap ((BitVec.ofInt 64 (x:Int) &&& 4294967295#64).toNat:Int)=((x % 4294967296:Nat):Int):=by
 rw [QJt hx (by decide),show (4294967295:Nat)=2^32-1 from rfl,Nat.and_two_pow_sub_one_eq_mod]
theorem QAB {x:Nat} (h:4294967296≤x):Zw x=Zw (x / 4294967296)+32:=by
 have e:(2:Nat)^32=4294967296:=by decide
 have:=xD (x:=x) (k:=32) (by rw [e];exact h)
 rw [e] at this
 exact this
theorem QAC {x:Nat} (h:65536≤x):Zw x=Zw (x / 65536)+16:=by
 have e:(2:Nat)^16=65536:=by decide
 have:=xD (x:=x) (k:=16) (by rw [e];exact h)
 rw [e] at this
 exact this
theorem QEQ {x:Nat} (h:256≤x):Zw x=Zw (x / 256)+8:=xD (x:=x) (k:=8) h
theorem QEV (x:Nat):(x:Int).fdiv (2^min 32 64)=((x / 4294967296:Nat):Int):=QDx x 32
theorem QEW (x:Nat):(x:Int).fdiv (2^min 16 64)=((x / 65536:Nat):Int):=QDx x 16
theorem f8' (x:Nat):(x:Int).fdiv (2^min 8 64)=((x / 256:Nat):Int):=QDx x 8
theorem QHT (x:Int):IntKind.u8.wrap x=x % 256:=by simp [IntKind.wrap,IntKind.signed,IntKind.bits]
theorem Um {n:Nat} (hn:n=256) (x:Int):0≤IntKind.u8.wrap x∧IntKind.u8.wrap x<(n:Int):=by rw [QHT];omega
theorem w9 {x:Nat} (h:x<256):(IntKind.u8.wrap (x:Int)).toNat=x:=by rw [QHT];omega
theorem w48:IntKind.i64.wrap 48=48:=by decide
theorem w40:IntKind.i64.wrap 40=40:=by decide
theorem w56:IntKind.i64.wrap 56=56:=by decide
theorem w24:IntKind.i64.wrap 24=24:=by decide
theorem w16:IntKind.i64.wrap 16=16:=by decide
theorem w8:IntKind.i64.wrap 8=8:=by decide
theorem QRP {x:Nat} (h:x<18446744073709551616):Lib.ctz 64 x≤64:=by
 unfold Lib.ctz
 split
 · omega
 · next h0 =>
   obtain ⟨m,_,hc⟩:=Lib.ctzFrom_spec 64 x (Nat.pos_of_ne_zero h0) h
   omega
def QHh (x:Nat):Nat:=(x / 2 &&& Xp 0x55 8)+(x &&& Xp 0x55 8)
def QFP (x:Nat):Nat:=(x / 4 &&& Xp 0x33 8)+(x &&& Xp 0x33 8)
def QN5 (x:Nat):Nat:=(x / 16+x) &&& Xp 0x0f 8
def QFN (k x:Nat):Nat:=(x+x / 2^k) % 18446744073709551616
def QKu (x:Nat):Nat:=QFN 32 (QFN 16 (QFN 8 (QN5 (QFP (QHh x))))) % 128
theorem QKt (a:Int):YT (vI a) 0 64=(QKu (BitVec.ofInt 64 a).toNat:Int):=QI8 a
theorem QFQ (x:Nat):QHh x<18446744073709551616:=by
 have h1:x / 2 &&& Xp 0x55 8≤Xp 0x55 8:=Nat.and_le_right
 have h2:x &&& Xp 0x55 8≤Xp 0x55 8:=Nat.and_le_right
 have h3:Xp 0x55 8=6148914691236517205:=rfl
 unfold QHh;omega
theorem QFO (x:Nat):QFP x<7378697629483820647:=by
 have h1:x / 4 &&& Xp 0x33 8≤Xp 0x33 8:=Nat.and_le_right
 have h2:x &&& Xp 0x33 8≤Xp 0x33 8:=Nat.and_le_right
 have h3:Xp 0x33 8=3689348814741910323:=rfl
 unfold QFP;omega
def oA (x:Int):Int:=IntKind.u64.wrap (IntKind.u64.wrap ((BitVec.ofInt 64 (x.fdiv (2^min 1 64)) &&& 6148914691236517205#64).toNat:Int)+IntKind.u64.wrap ((BitVec.ofInt 64 x &&& 6148914691236517205#64).toNat:Int))
def oB (x:Int):Int:=IntKind.u64.wrap (IntKind.u64.wrap ((BitVec.ofInt 64 (x.fdiv (2^min 2 64)) &&& 3689348814741910323#64).toNat:Int)+IntKind.u64.wrap ((BitVec.ofInt 64 x &&& 3689348814741910323#64).toNat:Int))
def oC (x:Int):Int:=IntKind.u64.wrap ((BitVec.ofInt 64 (IntKind.u64.wrap (x.fdiv (2^min 4 64)+x)) &&& 1085102592571150095#64).toNat:Int)
def oD (k:Nat) (x:Int):Int:=IntKind.u64.wrap (x+x.fdiv (2^min k 64))
def oE (x:Int):Int:=IntKind.i64.wrap ((BitVec.ofInt 64 (IntKind.i64.wrap x) &&& 127#64).toNat:Int)
theorem QM2 {x:Nat} (h:x<18446744073709551616):oA (x:Int)=(QHh x:Int):=by
 unfold oA
 rw [QDx,QJt (by show x / 2<_;omega) (by decide),QJt h (by decide),QGB]
 exact ql (QFQ x)
theorem QM1 {x:Nat} (h:x<18446744073709551616):oB (x:Int)=(QFP x:Int):=by
 unfold oB
 rw [QDx,QJt (by show x / 4<_;omega) (by decide),QJt h (by decide),QGB]
 exact ql (by have:=QFO x;unfold QFP at this;exact Nat.lt_trans this (by decide))
theorem QM0 {x:Nat} (h:x<7378697629483820647):oC (x:Int)=(QN5 x:Int):=by
 unfold oC
 have e:=ql (x:=x / 2^min 4 64+x) (by show x / 16+x<_;omega)
 rw [QDx,QGB,e]
 exact QJt (x:=x / 16+x) (y:=1085102592571150095) (by omega) (by decide)
theorem QEG (x k:Nat) (hk:k≤64):oD k (x:Int)=(QFN k x:Int):=by
 unfold oD
 rw [Nat.min_eq_left hk,QDx,QGB,QNn];rfl
theorem QKr (x:Nat) (hx:x<18446744073709551616):oE (x:Int)=((x % 128:Nat):Int):=by
 unfold oE
 rw [QIR,BitVec.ofInt_natCast,BitVec.toNat_and,BitVec.toNat_ofNat,Nat.mod_eq_of_lt hx,show (127#64).toNat=2^7-1 from rfl,Nat.and_two_pow_sub_one_eq_mod]
 exact Qm (by omega) (by omega)
theorem QKv (k x:Nat):QFN k x<18446744073709551616:=Nat.mod_lt _ (by decide)
theorem QI9 {n:Nat} (hn:n<18446744073709551616):oE (oD 32 (oD 16 (oD 8 (oC (oB (oA (n:Int)))))))=(QKu n:Int):=by
 rw [QM2 hn,QM1 (QFQ n),QM0 (QFO _),QEG _ 8 (by decide),QEG _ 16 (by decide),QEG _ 32 (by decide),QKr _ (QKv _ _)]
 rfl
def QJI (x:Int):Int:=IntKind.u64.wrap ((BitVec.ofInt 64 x &&& 4294967295#64).toNat:Int)
def QFe (x:Int):Int:=x.fdiv (2^min 32 64)
def QM4 (x y:Int):Int:=IntKind.u64.wrap (IntKind.u64.wrap (QFe x*QJI y)+QFe (IntKind.u64.wrap (QJI x*QJI y)))
def QN6 (x y:Int):Int:=IntKind.u64.wrap (IntKind.u64.wrap (IntKind.u64.wrap (QFe x*QFe y)+QFe (QM4 x y))+QFe (IntKind.u64.wrap (QJI (QM4 x y)+IntKind.u64.wrap (QJI x*QFe y))))
theorem QK5 {x y:Nat} (hx:x<18446744073709551616) (hy:y<18446744073709551616):QN6 x y=((x*y / 18446744073709551616:Nat):Int):=by
 obtain ⟨bd,bt,bw,hhi⟩:=Lib.mul64_hi x y hx hy
 have bb:=Lib.half_mul_le (a:=x / 4294967296) (b:=y % 4294967296) (by omega) (by omega)
 have bc:=Lib.half_mul_le (a:=x % 4294967296) (b:=y / 4294967296) (by omega) (by omega)
 have ba:=Lib.half_mul_le (a:=x / 4294967296) (b:=y / 4294967296) (by omega) (by omega)
 have ba':x / 4294967296*(y / 4294967296)<18446744073709551616:=by omega
 have bb':x / 4294967296*(y % 4294967296)<18446744073709551616:=by omega
 have bc':x % 4294967296*(y / 4294967296)<18446744073709551616:=by omega
 have hq:x*y / 18446744073709551616<18446744073709551616:=by
  have:=Nat.mul_le_mul (show x≤18446744073709551615 by omega) (show y≤18446744073709551615 by omega)
  omega
 have hh:∀ z:Nat,QFe (z:Int)=((z / 4294967296:Nat):Int):=fun z=>QDx z 32
 have hl:∀ z:Nat,z<18446744073709551616→QJI (z:Int)=((z % 4294967296:Nat):Int):=fun z hz=>QU1 hz
 have hT:QM4 x y=((x / 4294967296*(y % 4294967296)+x % 4294967296*(y % 4294967296) / 4294967296:Nat):Int):=by
  unfold QM4
  rw [hl x hx,hl y hy,hh x,QK4,QK4,ql bb',ql bd,hh,QGB,ql bt]
 unfold QN6
 rw [hT,hl _ bt,hl x hx,hh x,hh y,hh,QK4,QK4,ql bc',QGB,ql bw,hh,ql ba',QGB,ql (by omega),QGB,hhi,ql hq]
def QKb (x k:Int):Int:=IntKind.u64.wrap ((BitVec.ofInt 64 (IntKind.u64.wrap (x*2^min k.toNat 64)) ||| BitVec.ofInt 64 (x.fdiv (2^min (64-k).toNat 64))).toNat:Int)
theorem QPP (b:Int):(BitVec.ofInt 64 b &&& 63#64).toNat=(b % 64).toNat:=by
 rw [BitVec.toNat_and,BitVec.toNat_ofInt,show (63#64).toNat=2^6-1 from rfl,Nat.and_two_pow_sub_one_eq_mod]
 omega
theorem QQu {k:Int} (h:0≤k∧k<64):IntKind.u64.wrap ((BitVec.ofInt 64 (IntKind.u64.wrap k) &&& 63#64).toNat:Int)=k:=by
 rw [VJ,QPP,ZL];omega
theorem QPG (b:Int):IntKind.i64.wrap ((BitVec.ofInt 64 b &&& 63#64).toNat:Int)=b % 64:=by
 rw [QPP,Qm (by omega) (by omega)];omega
theorem QMp {x k:Int} (h:0≤k∧k<64):IntKind.u64.wrap ((BitVec.ofInt 64 (IntKind.u64.wrap (x*2^min (IntKind.u64.wrap ((BitVec.ofInt 64 (IntKind.u64.wrap k) &&& 63#64).toNat:Int)).toNat 64)) ||| BitVec.ofInt 64 (x.fdiv (2^min (IntKind.u64.wrap (64-IntKind.u64.wrap ((BitVec.ofInt 64 (IntKind.u64.wrap k) &&& 63#64).toNat:Int))).toNat 64))).toNat:Int)=QKb x k:=by
 rw [QQu h,show IntKind.u64.wrap (64-k)=64-k by rw [ZL];omega];rfl
theorem QQr (a b:Int):IntKind.i64.wrap (QKb (IntKind.u64.wrap a) (b % 64))=QGZ a b:=by
 symm
 refine QTP a b fun i hi=>?_
 unfold QKb
 rw [VJ,V8,VJ]
 have hm:(b % 64).toNat<64:=by omega
 have hb:((b % 64).toNat:Int)=b % 64:=by omega
 have hs:(64-b % 64).toNat=64-(b % 64).toNat:=by omega
 rw [hs]
 generalize hmm:(b % 64).toNat=m at *
 rw [Nat.min_eq_left (by omega),Nat.min_eq_left (by omega),QML _ (by omega),VJ,Xz,x5,V8,BitVec.getLsbD_or,BitVec.getLsbD_shiftLeft,BitVec.getLsbD_ushiftRight]
 by_cases h:i<m
 · have e:((i:Int)-b) % 64=((64-m+i:Nat):Int):=by omega
   rw [e,Int.toNat_natCast]
   simp [h]
 · have e:((i:Int)-b) % 64=((i-m:Nat):Int):=by omega
   rw [e,Int.toNat_natCast,BitVec.getLsbD_of_ge _ (64-m+i) (by omega)]
   simp [h,hi]
theorem QK2 (x y:Int):IntKind.i64.wrap (IntKind.i64.wrap x*y)=IntKind.i64.wrap (x*y):=by
 rw [Xl,Xl (x*y),QEl,QIR,QEl]
theorem QE8 {a b:Int} (ha : -9223372036854775808≤a∧a<9223372036854775808):IntKind.i64.wrap (a-IntKind.i64.wrap (IntKind.i64.wrap (a.tdiv b)*b))=a.tmod b:=by
 have e:a.tmod b=a-a.tdiv b*b:=by rw [Int.tmod_def,Int.mul_comm]
 have hr:(0≤a→0≤a.tmod b∧a.tmod b≤a)∧(a<0→a.tmod b≤0∧a≤a.tmod b):=by
  constructor
  · intro h
    refine ⟨Int.tmod_nonneg b h,?_⟩
    obtain ⟨n,rfl⟩:=Int.eq_ofNat_of_zero_le h
    have h2:=Int.tmod_nonneg b h
    rw [← Int.natAbs_of_nonneg h2,Int.natAbs_tmod]
    exact Int.ofNat_le.2 (Nat.mod_le _ _)
  · intro h
    have h1:(-a).tmod b = -(a.tmod b):=Int.neg_tmod a b
    have h2:=Int.tmod_nonneg b (show 0 ≤ -a by omega)
    have h3:(-a).tmod b ≤ -a:=by
     obtain ⟨n,hn⟩:=Int.eq_ofNat_of_zero_le (show 0 ≤ -a by omega)
     rw [hn] at h2 ⊢
     rw [← Int.natAbs_of_nonneg h2,Int.natAbs_tmod]
     exact Int.ofNat_le.2 (Nat.mod_le _ _)
    omega
 rw [QK2]
 generalize a.tmod b=r at *
 have hq:a.tdiv b*b=a-r:=by omega
 rw [hq,Qm (x:=a-r) (by omega) (by omega),Qm (by omega) (by omega)]
 omega
theorem QTQ (a:Int):IntKind.i64.wrap ((BitVec.ofInt 64 (-1) ^^^ BitVec.ofInt 64 a).toNat:Int)=IntKind.i64.wrap (-1-a):=by
 rw [QEp,Xl]
 congr 1
 apply BitVec.eq_of_toNat_eq
 rw [show BitVec.ofInt 64 (-1)=BitVec.allOnes 64 from by decide,BitVec.allOnes_xor,BitVec.toNat_not,BitVec.toNat_ofInt,BitVec.toNat_ofInt]
 omega
theorem QAn {b:Int} (h:0≤b∧b<9223372036854775808):IntKind.u64.wrap b=b:=by rw [ZL];omega
theorem QPr {a:Int} (ha : -9223372036854775808≤a∧a<9223372036854775808) (n:Nat):IntKind.i64.wrap (a.fdiv (2^n))=a.fdiv (2^n):=by
 rw [Int.fdiv_eq_ediv_of_nonneg _ (Int.le_of_lt (Int.pow_pos (by decide)))]
 have hp:(0:Int)<2^n:=Int.pow_pos (by decide)
 refine Qm ?_ ?_
 · refine (Int.le_ediv_iff_mul_le hp).2 ?_
   generalize (2:Int)^n=q at *
   omega
 · by_cases h:a<0
   · have:=Int.ediv_neg_of_neg_of_pos h hp
     omega
   · have:=Int.ediv_le_self (2^n) (show 0≤a by omega)
     omega
theorem QUy (b:Int):0≤IntKind.i64.wrap ((BitVec.ofInt 64 b &&& 63#64).toNat:Int)∧IntKind.i64.wrap ((BitVec.ofInt 64 b &&& 63#64).toNat:Int)<64:=by rw [QPG];omega
theorem QQp (a b:Int):IntKind.i64.wrap (QKb (IntKind.u64.wrap a) (IntKind.i64.wrap ((BitVec.ofInt 64 b &&& 63#64).toNat:Int)))=QGZ a b:=by rw [QPG];exact QQr a b
theorem QRd {op:Int} (h:WM op=1):1≤op∧op≤15:=by
 unfold WM at h
 split at h
 · omega
 · split at h<;>omega
theorem QRc {op:Int} (h0:¬WM op=0) (h:¬WM op=1):16≤op∧op≤36:=by
 unfold WM at h h0
 split at h
 · next q=>rw [if_pos q] at h0;omega
 · split at h<;>omega
theorem QMW {op a b:Int} (h1:¬(op=19∨op=20)) (h2:¬(op=25∨op=26∨op=27)):(XW op a b).2=0:=by
 unfold XW
 rw [if_neg h1,if_neg h2]
 (repeat' split)<;>rfl
def QH6 (a:Int) (k:Nat) (r:Int):Int:=IntKind.u64.wrap ((BitVec.ofInt 64 r ||| BitVec.ofInt 64 (IntKind.u64.wrap (IntKind.u64.wrap ((BitVec.ofInt 64 ((IntKind.u64.wrap a).fdiv (2^min k 64)) &&& 1#64).toNat:Int)*2^min (63-k) 64))).toNat:Int)
def QC6 (a:Int):Nat→BitVec 64
 | 0=>0#64
 | n+1=>QC6 a n ||| if (BitVec.ofInt 64 a).getLsbD n then BitVec.twoPow 64 (63-n) else 0#64
theorem QFh (a:Int):∀ n,n≤64→YT (QH6 a) 0 n=((QC6 a n).toNat:Int)
 | 0,_=>rfl
 | n+1,h=>by
   rw [Ul,QFh a n (by omega)]
   unfold QH6
   rw [Nat.min_eq_left (by omega),Nat.min_eq_left (by omega),Xz a,x5,V8,V8,QIM,BitVec.getLsbD_ushiftRight,VJ,Xz,V8]
   congr 2
   show _=QC6 a n ||| _
   congr 1
   simp only [Nat.add_zero]
   cases (BitVec.ofInt 64 a).getLsbD n
   · simp [IntKind.wrap,IntKind.signed,IntKind.bits]
   · rw [if_pos rfl,if_pos rfl,show IntKind.u64.wrap (((1#64).toNat:Nat):Int)=1 from by decide,Int.one_mul,QHN (by omega)]
theorem QC5 (a:Int):∀ n,n≤64→∀ i,i<64→(QC6 a n).getLsbD i=(decide (64-n≤i)&&(BitVec.ofInt 64 a).getLsbD (63-i))
 | 0,_,i,hi=>by simp [QC6];omega
 | n+1,h,i,hi=>by
   unfold QC6
   rw [BitVec.getLsbD_or,QC5 a n (by omega) i hi]
   by_cases h1:i=63-n
   · have e:63-i=n:=by omega
     rw [e,decide_eq_false (show ¬64-n≤i by omega),decide_eq_true (show 64-(n+1)≤i by omega),Bool.false_and,Bool.false_or,Bool.true_and]
     cases (BitVec.ofInt 64 a).getLsbD n
     · simp
     · simp [BitVec.getLsbD_twoPow,h1];omega
   · have e:(if (BitVec.ofInt 64 a).getLsbD n then BitVec.twoPow 64 (63-n) else 0#64).getLsbD i=false:=by
      cases (BitVec.ofInt 64 a).getLsbD n<;>simp [BitVec.getLsbD_twoPow]
      omega
     rw [e,Bool.or_false]
     congr 1
     exact decide_eq_decide.2 ⟨fun q=>by omega,fun q=>by omega⟩
theorem QNV (a:Int):IntKind.i64.wrap (YT (QH6 a) 0 64)=YT (vQ a) 0 64:=by
 rw [QFh a 64 (by omega)]
 symm
 refine QRM a fun i hi=>?_
 rw [V8,QC5 a 64 (by omega) i hi]
 simp
open Go.RowKit
variable {P:Program} {T:Tab} {σ:St}
theorem SA.condF {x y:Code} {K:Exit→St→Prop} (h:SA P T y K σ):SA P T (.cond (.const (.bool false)) x y) K σ:=by
 intro w0 w F ρ a outs hd hR
 exact wp_cond_split (show a.eval _=.bool false from rfl) (fun hb=>absurd hb (by simp)) (fun _=>h w0 w F ρ a outs hd hR)
theorem SA.condT {x y:Code} {K:Exit→St→Prop} (h:SA P T x K σ):SA P T (.cond (.const (.bool true)) x y) K σ:=by
 intro w0 w F ρ a outs hd hR
 exact wp_cond_split (show a.eval _=.bool true from rfl) (fun _=>h w0 w F ρ a outs hd hR) (fun hb=>absurd hb (by simp))
open Go.RowKit
variable {P:Program} {T:Tab}
theorem ArgsFit.at {w:World} {F:Nat→Prop}:∀ {ts:List TypeId} {vs:List V} {xs:List Value},ArgsFit T w F ts vs xs→∀ (i:Nat) {t:TypeId} {k:IntKind} {n:Int},ts[i]?=some t→T.ty t=.int k→vs[i]?=some (.int n)→k.has n
 | [],[],[],_,i,_,_,_,h,_,_=>by simp at h
 | t::ts,v::vs,x::xs,⟨⟨h1,h2⟩,h⟩,0,t',k,n,e1,e2,e3=>by
   simp only [List.getElem?_cons_zero,Option.some.injEq] at e1 e3
   subst e1 e3
   generalize x.cells.toList=cs at h1
   cases h1 with
   | int a b=>rw [a] at e2;cases e2;exact b
 | t::ts,v::vs,x::xs,⟨⟨h1,h2⟩,h⟩,i+1,t',k,n,e1,e2,e3=>by
   simp only [List.getElem?_cons_succ] at e1 e3
   exact h.at i e1 e2 e3
 | [],[],_::_,h,_,_,_,_,_,_,_=>h.elim
 | [],_::_,_,h,_,_,_,_,_,_,_=>h.elim
 | _::_,[],_,h,_,_,_,_,_,_,_=>h.elim
 | _::_,_::_,[],h,_,_,_,_,_,_,_=>h.elim
theorem Ctr.ranged {f:FuncId} {pts rts:List TypeId} {vs rs:List V} (he:qk P f) (h:(∀ (i:Nat) {t:TypeId} {k:IntKind} {n:Int},pts[i]?=some t→T.ty t=.int k→vs[i]?=some (.int n)→k.has n)→Ctr P T f pts rts vs rs):Ctr P T f pts rts vs rs :=
 ⟨he,fun w F xs hF hg ha=>(h fun i=>ha.at i).2 w F xs hF hg ha⟩
theorem IntKind.i64_has {n:Int} (h:IntKind.i64.has n) : -9223372036854775808≤n∧n<9223372036854775808:=by
 unfold IntKind.has IntKind.min IntKind.max IntKind.signed IntKind.bits at h
 simp at h
 omega
structure At (g:Int) (s t:Stt):Prop where
 status:(t.gor g).status=(s.gor g).status
 func:(t.gor g).func=(s.gor g).func
 pc:(t.gor g).pc=(s.gor g).pc
theorem At.refl (g:Int) (s:Stt):At g s s:=⟨rfl,rfl,rfl⟩
theorem At.trans {g:Int} {s t u:Stt} (h:At g s t) (k:At g t u):At g s u:=⟨k.status.trans h.status,k.func.trans h.func,k.pc.trans h.pc⟩
theorem yF {s:Stt} (h6:s.gos.length=6) {g:Int} (hg:0≤g∧g<6) (r v:Int):At g s (s.setReg g r v):=by
 unfold Stt.setReg
 split
 · have e:(({ s with gos:=s.gos.set g.toNat { s.gor g with regs:=(s.gor g).regs.set r.toNat v } }:Stt).gor g)={ s.gor g with regs:=(s.gor g).regs.set r.toNat v }:=by
    show (s.gos.set _ _).getD _ _=_
    rw [QU,if_pos ⟨rfl,by omega⟩]
   refine ⟨?_,?_,?_⟩<;>rw [e]
 · exact At.refl _ _
structure VisOk (p:Prg) (s:Stt) (g:Int) (d:Did):Prop where
 vld:Vld p d.s
 func:(d.s.gor g).func=(s.gor g).func
 pc:(d.s.gor g).pc=(s.gor g).pc
 cnt:s.count≤d.s.count
 fail:d.why≠0→(d.s.gor g).status=1∧ZV (QA p s g).op d.why=true
 on:d.why=0→0≤d.to_→(d.s.gor g).status=1∧d.to_<((p.fn (s.gor g).func).code.length:Int)
section
variable {p:Prg} {s:Stt} {g:Int}
theorem VisOk.plain {d:Did} (hv:Vld p d.s) (ha:At g s d.s) (hc:s.count≤d.s.count) (h1:(s.gor g).status=1) (hw:d.why=0) (ht:d.to_<((p.fn (s.gor g).func).code.length:Int)):VisOk p s g d :=
 ⟨hv,ha.func,ha.pc,hc,fun q=>absurd hw q,fun _ _=>⟨ha.status.trans h1,ht⟩⟩
theorem VisOk.failed {d:Did} (hv:Vld p d.s) (ha:At g s d.s) (hc:s.count≤d.s.count) (h1:(s.gor g).status=1) (hf:ZV (QA p s g).op d.why=true) (hw:d.why≠0):VisOk p s g d :=
 ⟨hv,ha.func,ha.pc,hc,fun _=>⟨ha.status.trans h1,hf⟩,fun q=>absurd q hw⟩
theorem Vld.offer (hok:p.Ok) (h:Vld p s) {g c:Nat} (hg:(g:Int)<s.count) (h1:(s.gos.getD g default).status=1) (hop:(p.instr (s.gos.getD g default)).op=58) (ha:(p.instr (s.gos.getD g default)).a=(c:Int))
 (hc:c<p.chans.length) (hcap:p.chans.getD c 0=0) (ho:(s.chans.getD c default).offer=0) (hcl:(s.chans.getD c default).closed=false) (v:Int) :
 Vld p ⟨s.vars,s.owner,s.chans.set c ⟨(s.chans.getD c default).buf,(s.chans.getD c default).len,(s.chans.getD c default).closed,1,(g:Int),v⟩,s.gos.set g ⟨2,(s.gos.getD g default).func,(s.gos.getD g default).pc,(s.gos.getD g default).why,(s.gos.getD g default).regs⟩,s.count⟩:=by
 have hG:=h.gos g hg
 have hC:=h.chans c hc
 have h4:=hok.four
 have hl4:=h.shape.chans
 have hl6:=h.shape.gos
 have hcnt:=h.count
 have hX:GorP p ⟨2,(s.gos.getD g default).func,(s.gos.getD g default).pc,(s.gos.getD g default).why,(s.gos.getD g default).regs⟩:=by
  refine ⟨⟨by show (1:Int)≤2;decide,by show (2:Int)≤5;decide⟩,⟨hG.inn.f0,hG.inn.f1,hG.inn.p0,hG.inn.p1,hG.inn.regs⟩,fun k hk h8=>hG.zero k ?_ h8,fun q=>absurd (show (2:Int)=4 from q) (by decide),fun _=>hG.why (by omega),fun q=>absurd (show (2:Int)=3 from q) (by decide),fun q=>absurd (show (2:Int)=5 from q) (by decide)⟩
  have e1:U1 p (s.gos.getD g default)=(p.fn (s.gos.getD g default).func).regs:=if_neg (by omega)
  rw [e1];exact hk
 have hs1:=Yr h.shape g s.count (X:=⟨2,(s.gos.getD g default).func,(s.gos.getD g default).pc,(s.gos.getD g default).why,(s.gos.getD g default).regs⟩) hG.inn.regs
 have hb4:(s.chans.getD c default).buf.length=4:=h.shape.bufs _ (Qj _ (by omega))
 refine ⟨Ye hs1 c hb4,h.count,fun k hk=>?_,fun k h6 hk=>?_,h.vars,h.own,fun j hj=>?_,fun j hj4 hj=>?_,fun k hk hs=>?_⟩
 · show GorP p ((s.gos.set g _).getD k default)
   rw [QU];split
   · exact hX
   · exact h.gos k hk
 · show (s.gos.set g _).getD k default=zeroGor
   have hk:s.count≤(k:Int):=hk
   rw [QU,if_neg (by omega)]
   exact h.rest k h6 hk
 · show ChnP p (s.gos.set g _) s.count j ((s.chans.set c _).getD j default)
   rw [QU];split
   · rename_i q
     obtain ⟨q1,q2⟩:=q
     subst q1
     refine ⟨hC.len,⟨by show (0:Int)≤1;decide,by show (1:Int)≤3;decide⟩,fun w=>absurd hcap w,hC.buf,fun w=>absurd (show (1:Int)=0 from w) (by decide),fun _ w=>absurd rfl w,fun _=>hcl,fun w=>absurd (show (1:Int)=3 from w) (by decide),fun _=>⟨⟨by show (0:Int)≤(g:Int);omega,hg⟩,?_⟩⟩
     show Waits p (s.gos.set g _) ((g:Int)).toNat c
     rw [Int.toNat_natCast]
     unfold Waits
     rw [QU,if_pos ⟨rfl,by omega⟩]
     exact ⟨rfl,hop,ha⟩
   · exact (h.chans j hj).go (by omega)
 · show (s.chans.set c _).getD j default=zeroChn
   rw [QU,if_neg (by omega)]
   exact h.rchans j hj4 hj
 · have hs:((s.gos.set g _).getD k default).status=2:=hs
   rw [QU] at hs
   split at hs
   · rename_i q
     refine ⟨c,hc,?_⟩
     show ((s.chans.set c _).getD c default).offer≠0∧((s.chans.set c _).getD c default).from_=(k:Int)
     rw [QU,if_pos ⟨rfl,by omega⟩]
     exact ⟨by show (1:Int)≠0;decide,by show (g:Int)=(k:Int);rw [q.1]⟩
   · obtain ⟨j,hj,w1,w2⟩:=h.waits k hk hs
     refine ⟨j,hj,?_⟩
     show ((s.chans.set c _).getD j default).offer≠0∧((s.chans.set c _).getD j default).from_=(k:Int)
     have hjc:c≠j:=fun q=>w1 (by rw [← q];exact ho)
     rw [QU,if_neg (fun q=>hjc q.1)]
     exact ⟨w1,w2⟩
theorem Vld.waiting (h:Vld p s) {g:Nat} (hg:(g:Int)<s.count) (h2:(s.gos.getD g default).status=2):∃ c:Nat,c<p.chans.length∧(s.chans.getD c default).offer≠0∧(s.chans.getD c default).from_=(g:Int)∧Waits p s.gos g c:=by
 obtain ⟨c,hc,h1,h3⟩:=h.waits g hg h2
 have:=(h.chans c hc).from_ h1
 rw [h3,Int.toNat_natCast] at this
 exact ⟨c,hc,h1,h3,this.2⟩
theorem Vld.taken (hok:p.Ok) (h:Vld p s) {g c:Nat} (hg:(g:Int)<s.count) (h2:(s.gos.getD g default).status=2) (ha:(p.instr (s.gos.getD g default)).a=(c:Int)) :
 Vld p ⟨s.vars,s.owner,s.chans.set c ⟨(s.chans.getD c default).buf,(s.chans.getD c default).len,(s.chans.getD c default).closed,0,0,0⟩,s.gos.set g ⟨1,(s.gos.getD g default).func,(s.gos.getD g default).pc,(s.gos.getD g default).why,(s.gos.getD g default).regs⟩,s.count⟩:=by
 obtain ⟨c',hc,ho,hf,hw⟩:=h.waiting hg h2
 have e:c'=c:=by have:=hw.2.2.symm.trans ha;omega
 subst e
 have hG:=h.gos g hg
 have hC:=h.chans c' hc
 have h4:=hok.four
 have hl4:=h.shape.chans
 have hl6:=h.shape.gos
 have hcnt:=h.count
 have hX:GorP p ⟨1,(s.gos.getD g default).func,(s.gos.getD g default).pc,(s.gos.getD g default).why,(s.gos.getD g default).regs⟩:=by
  refine ⟨⟨by show (1:Int)≤1;decide,by show (1:Int)≤5;decide⟩,⟨hG.inn.f0,hG.inn.f1,hG.inn.p0,hG.inn.p1,hG.inn.regs⟩,fun k hk h8=>hG.zero k ?_ h8,fun q=>absurd (show (1:Int)=4 from q) (by decide),fun _=>hG.why (by omega),fun q=>absurd (show (1:Int)=3 from q) (by decide),fun q=>absurd (show (1:Int)=5 from q) (by decide)⟩
  have e1:U1 p (s.gos.getD g default)=(p.fn (s.gos.getD g default).func).regs:=if_neg (by omega)
  rw [e1];exact hk
 have hs1:=Yr h.shape g s.count (X:=⟨1,(s.gos.getD g default).func,(s.gos.getD g default).pc,(s.gos.getD g default).why,(s.gos.getD g default).regs⟩) hG.inn.regs
 have hb4:(s.chans.getD c' default).buf.length=4:=h.shape.bufs _ (Qj _ (by omega))
 refine ⟨Ye hs1 c' hb4,h.count,fun k hk=>?_,fun k h6 hk=>?_,h.vars,h.own,fun j hj=>?_,fun j hj4 hj=>?_,fun k hk hs=>?_⟩
 · show GorP p ((s.gos.set g _).getD k default)
   rw [QU];split
   · exact hX
   · exact h.gos k hk
 · show (s.gos.set g _).getD k default=zeroGor
   have hk:s.count≤(k:Int):=hk
   rw [QU,if_neg (by omega)]
   exact h.rest k h6 hk
 · show ChnP p (s.gos.set g _) s.count j ((s.chans.set c' _).getD j default)
   rw [QU];split
   · rename_i q
     obtain ⟨q1,q2⟩:=q
     subst q1
     exact ⟨hC.len,⟨by show (0:Int)≤0;decide,by show (0:Int)≤3;decide⟩,fun w=>rfl,hC.buf,fun w=>⟨rfl,rfl⟩,fun w=>absurd rfl w,fun w=>absurd (show (0:Int)=1 from w) (by decide),fun w=>absurd (show (0:Int)=3 from w) (by decide),fun w=>absurd rfl w⟩
   · rename_i q
     have hJ:=h.chans j hj
     refine ⟨hJ.len,hJ.off,hJ.cap,hJ.buf,hJ.none,hJ.val,hJ.open_,hJ.lost,fun w=>⟨(hJ.from_ w).1,?_⟩⟩
     have hwj:=(hJ.from_ w).2
     have hne:g≠(s.chans.getD j default).from_.toNat:=by
      intro q2
      have e2:(p.instr (s.gos.getD (s.chans.getD j default).from_.toNat default)).a=(j:Int):=hwj.2.2
      rw [← q2,hw.2.2] at e2
      exact q ⟨by omega,by omega⟩
     unfold Waits at *
     rw [QU,if_neg (fun q2=>hne q2.1)]
     exact hwj
 · show (s.chans.set c' _).getD j default=zeroChn
   rw [QU,if_neg (by omega)]
   exact h.rchans j hj4 hj
 · have hs:((s.gos.set g _).getD k default).status=2:=hs
   rw [QU] at hs
   split at hs
   · exact absurd (show (1:Int)=2 from hs) (by decide)
   · rename_i q
     obtain ⟨j,hj,w1,w2⟩:=h.waits k hk hs
     refine ⟨j,hj,?_⟩
     show ((s.chans.set c' _).getD j default).offer≠0∧((s.chans.set c' _).getD j default).from_=(k:Int)
     have hjc:c'≠j:=by
      intro q2
      rw [← q2,hf] at w2
      exact q ⟨by omega,by omega⟩
     rw [QU,if_neg (fun q=>hjc q.1)]
     exact ⟨w1,w2⟩
theorem Vld.spawn (hok:p.Ok) (h:Vld p s) (h6:s.count<6) {b:Int} (hb:0≤b∧b<p.funcs.length) {X:Gor} (hX:GorP p X) (h1:X.status=1):Vld p ⟨s.vars,s.owner,s.chans,s.gos.set s.count.toNat X,s.count+1⟩:=by
 have hcnt:=h.count
 have hl6:=h.shape.gos
 have hz:(s.gos.getD s.count.toNat default).status≠2:=by rw [h.rest s.count.toNat (by omega) (by omega)];decide
 refine ⟨Yr h.shape _ _ hX.inn.regs,⟨by show 1≤s.count+1;omega,by show s.count+1≤6;omega⟩,fun k hk=>?_,fun k h6 hk=>?_,h.vars,fun k hk=>?_,fun c hc=>?_,h.rchans,fun g hg hs=>?_⟩
 · have hk:(k:Int)<s.count+1:=hk
   show GorP p ((s.gos.set s.count.toNat X).getD k default)
   rw [QU];split
   · exact hX
   · exact h.gos k (by omega)
 · have hk:s.count+1≤(k:Int):=hk
   show (s.gos.set s.count.toNat X).getD k default=zeroGor
   rw [QU,if_neg (by omega)]
   exact h.rest k h6 (by omega)
 · have:=h.own k hk
   exact ⟨⟨this.1.1,Int.le_trans this.1.2 (by show s.count≤s.count+1;omega)⟩,this.2⟩
 · have hC:=(h.chans c hc).go (X:=X) hz
   exact ⟨hC.len,hC.off,hC.cap,hC.buf,hC.none,hC.val,hC.open_,hC.lost,fun q=>⟨⟨(hC.from_ q).1.1,Int.lt_trans (hC.from_ q).1.2 (by show s.count<s.count+1;omega)⟩,(hC.from_ q).2⟩⟩
 · have hs:((s.gos.set s.count.toNat X).getD g default).status=2:=hs
   have hg:(g:Int)<s.count+1:=hg
   rw [QU] at hs
   split at hs
   · omega
   · exact h.waits g (by omega) hs
end
theorem ZT {p:Prg} {s:Stt} {g:Int} {c:Prop} [Decidable c] {a b:Did} (h1:c→VisOk p s g a) (h2:¬c→VisOk p s g b):VisOk p s g (if c then a else b):=by
 by_cases h:c
 · rw [if_pos h];exact h1 h
 · rw [if_neg h];exact h2 h
section
variable {p:Prg} (hok:p.Ok) {s:Stt} (hv:Vld p s) {g:Int} (hg:0≤g∧g<s.count) (h1:(s.gor g).status=1)
include hok hv hg h1
theorem QDH {v0 t c:Int} (v:Int) (ht:t<((p.fn (s.gor g).func).code.length:Int)) (hc:0≤c∧c<(p.chans.length:Int)) (hsn:Ys p s c=true)
 (h58:p.cap c=0→(QA p s g).op=58∧(QA p s g).a=c) (hf:(QA p s g).op=58∨(QA p s g).op=61):VisOk p s g (YD p ⟨s,v0,0,t⟩ g c v):=by
 have h4:=hok.four
 have hC:=hv.chans c.toNat (by omega)
 have hb4:(s.chans.getD c.toNat default).buf.length=4:=hv.shape.bufs _ (Qj _ (by rw [hv.shape.chans];omega))
 have hcp0:=(hok.caps c.toNat).1
 have hcp4:=(hok.caps c.toNat).2
 unfold YD
 refine ZT (fun hcl=>?_) (fun hcl=>ZT (fun hcp=>?_) (fun hcp=>?_))
 · refine VisOk.failed hv (At.refl _ _) (Int.le_refl _) h1 ?_ (by show (4:Int)≠0;decide)
   show ZV (QA p s g).op 4=true
   simp only [ZV]
   rcases hf with q|q<;>simp [q]
 · have hcl:(s.chans.getD c.toNat default).closed=false:=Bool.of_not_eq_true hcl
   have hcp:0<p.chans.getD c.toNat 0:=hcp
   have hl:=wX hsn hcl hcp
   have ho:=hC.cap (by omega)
   have hV:Vld p (s.setChn c ⟨(s.chans.getD c.toNat default).buf.set (s.chans.getD c.toNat default).len.toNat v,(s.chans.getD c.toNat default).len+1,(s.chans.getD c.toNat default).closed,(s.chans.getD c.toNat default).offer,(s.chans.getD c.toNat default).from_,(s.chans.getD c.toNat default).val⟩):=by
    refine hv.chn (c:=c.toNat) (by omega) (by show (List.set _ _ _).length=4;rw [List.length_set];exact hb4) ⟨⟨by have:=hC.len.1;show 0≤_+1;omega,by show _+1≤_;omega⟩,hC.off,hC.cap,fun k q1 q2=>?_,hC.none,hC.val,hC.open_,hC.lost,hC.from_⟩ (fun q=>absurd ho q)
    have q1:(s.chans.getD c.toNat default).len+1≤(k:Int):=q1
    have:=hC.len.1
    show (List.set _ _ _).getD k 0=0
    rw [QU,if_neg (by omega)]
    exact hC.buf k (by omega) q2
   exact VisOk.plain hV ⟨rfl,rfl,rfl⟩ (Int.le_refl _) h1 rfl ht
 · have hcl:(s.chans.getD c.toNat default).closed=false:=Bool.of_not_eq_true hcl
   have hcp:¬0<p.chans.getD c.toNat 0:=hcp
   have hcap:p.chans.getD c.toNat 0=0:=by omega
   have ho:(s.chans.getD c.toNat default).offer=0:=by
    have e:Ys p s c=decide ((s.chn c).offer=0):=(if_neg (fun q=>Bool.noConfusion (hcl.symm.trans q))).trans (if_neg hcp)
    rw [e] at hsn
    exact of_decide_eq_true hsn
   obtain ⟨hop,ha⟩:=h58 hcap
   have hV:=hv.offer hok (g:=g.toNat) (c:=c.toNat) (by omega) h1 hop (by have:(QA p s g).a=(p.instr (s.gos.getD g.toNat default)).a:=rfl;omega) (by omega) hcap ho hcl v
   rw [show ((g.toNat:Nat):Int)=g by omega] at hV
   have e:∀ {x:Stt},x=(s.setStatus g 2).setChn c ⟨(s.chans.getD c.toNat default).buf,(s.chans.getD c.toNat default).len,(s.chans.getD c.toNat default).closed,1,g,v⟩→(x.gor g).func=(s.gor g).func∧(x.gor g).pc=(s.gor g).pc:=by
    rintro x rfl
    show ((s.gos.set g.toNat _).getD g.toNat default).func=_∧((s.gos.set g.toNat _).getD g.toNat default).pc=_
    have hc6:=hv.count
    rw [QU,if_pos ⟨rfl,by rw [hv.shape.gos];omega⟩]
    exact ⟨rfl,rfl⟩
   exact ⟨hV,(e rfl).1,(e rfl).2,Int.le_refl _,fun q=>absurd rfl q,fun _ q=>absurd (show (0:Int) ≤ -1 from q) (by decide)⟩
theorem QDJ {v0 t c r ok:Int} (ht:t<((p.fn (s.gor g).func).code.length:Int)) (hc:0≤c∧c<(p.chans.length:Int)) (hr:r = -1∨0≤r∧r<(p.fn (s.gor g).func).regs) (hk:ok = -1∨0≤ok∧ok<(p.fn (s.gor g).func).regs) :
 VisOk p s g (YX ⟨s,v0,0,t⟩ g c r ok):=by
 have h4:=hok.four
 have hC:=hv.chans c.toNat (by omega)
 have hb4:(s.chans.getD c.toNat default).buf.length=4:=hv.shape.bufs _ (Qj _ (by rw [hv.shape.chans];omega))
 have hcp4:=(hok.caps c.toNat).2
 have hc6:=hv.count
 have two:∀ (X:Stt) (x y vv:Int),Vld p X→X.gos=s.gos→X.count=s.count→VisOk p s g ⟨(X.setReg g r x).setReg g ok y,vv,0,t⟩:=by
  intro X x y vv hX e1 e2
  have eg:X.gor g=s.gor g:=by unfold Stt.gor;rw [e1]
  have a1:=yF (s:=X) (by rw [hX.shape.gos]) (g:=g) ⟨hg.1,by omega⟩ r x
  have b1:=hX.reg (g:=g) ⟨hg.1,by omega⟩ (by rw [eg];exact h1) (r:=r) (by rw [eg];exact hr) x
  have a2:=yF (s:=X.setReg g r x) (by rw [b1.shape.gos]) (g:=g) ⟨hg.1,by omega⟩ ok y
  have b2:=b1.reg (g:=g) ⟨hg.1,by rw [ZZ];omega⟩ (by rw [a1.status,eg];exact h1) (r:=ok) (by rw [a1.func,eg];exact hk) y
  have a0:At g s X:=⟨by rw [eg],by rw [eg],by rw [eg]⟩
  exact VisOk.plain b2 (a0.trans (a1.trans a2)) (by show s.count≤(Stt.setReg _ _ _ _).count;rw [ZZ,ZZ,e2];exact Int.le_refl _) h1 rfl ht
 unfold YX
 refine ZT (fun hl=>?_) (fun hl=>ZT (fun ho=>?_) (fun ho=>?_))
 · have hl:0<(s.chans.getD c.toNat default).len:=hl
   have hl2:=hC.len
   have hof:=hC.cap (by omega)
   have hV:Vld p (s.setChn c ⟨(YF (s.chans.getD c.toNat default).buf ((s.chans.getD c.toNat default).len-1).toNat).set ((s.chans.getD c.toNat default).len-1).toNat 0,(s.chans.getD c.toNat default).len-1,(s.chans.getD c.toNat default).closed,(s.chans.getD c.toNat default).offer,(s.chans.getD c.toNat default).from_,(s.chans.getD c.toNat default).val⟩):=by
    refine hv.chn (c:=c.toNat) (by omega) (by show (List.set _ _ _).length=4;rw [List.length_set,Yg];exact hb4) ⟨⟨by show 0≤_-1;omega,by show _-1≤_;omega⟩,hC.off,hC.cap,fun k q1 q2=>?_,hC.none,hC.val,hC.open_,hC.lost,hC.from_⟩ (fun q=>absurd hof q)
    have q1:(s.chans.getD c.toNat default).len-1≤(k:Int):=q1
    show (List.set _ _ _).getD k 0=0
    rw [QU];split
    · rfl
    · rename_i q
      have hne:((s.chans.getD c.toNat default).len-1).toNat≠k:=fun w=>q ⟨w,by rw [Yg];omega⟩
      rw [QAo _ (by omega) (by omega)]
      exact hC.buf k (by omega) q2
   exact two _ _ _ _ hV rfl rfl
 · have ho:(s.chans.getD c.toNat default).offer=1:=ho
   have hV:Vld p (s.setChn c ⟨(s.chans.getD c.toNat default).buf,(s.chans.getD c.toNat default).len,(s.chans.getD c.toNat default).closed,2,(s.chans.getD c.toNat default).from_,0⟩):=by
    refine hv.chn (c:=c.toNat) (by omega) hb4 ⟨hC.len,⟨by show (0:Int)≤2;decide,by show (2:Int)≤3;decide⟩,fun q=>absurd (hC.cap q) (by omega),hC.buf,fun q=>absurd (show (2:Int)=0 from q) (by decide),fun _ _=>rfl,fun q=>absurd (show (2:Int)=1 from q) (by decide),fun q=>absurd (show (2:Int)=3 from q) (by decide),fun _=>hC.from_ (by omega)⟩ (fun _=>⟨by show (2:Int)≠0;decide,rfl⟩)
   exact two _ _ _ _ hV rfl rfl
 · have hV:Vld p (s.setChn c (s.chans.getD c.toNat default)):=hv.chn (c:=c.toNat) (by omega) hb4 hC (fun q=>⟨q,rfl⟩)
   exact two _ _ _ _ hV rfl rfl
omit hg in
theorem QG3 {v0 t c:Int} (ht:t<((p.fn (s.gor g).func).code.length:Int)) (hc:0≤c∧c<(p.chans.length:Int)) (hop:(QA p s g).op=60):VisOk p s g (Zu ⟨s,v0,0,t⟩ c):=by
 have h4:=hok.four
 have hC:=hv.chans c.toNat (by omega)
 have hb4:(s.chans.getD c.toNat default).buf.length=4:=hv.shape.bufs _ (Qj _ (by rw [hv.shape.chans];omega))
 unfold Zu
 refine ZT (fun hcl=>?_) (fun hcl=>ZT (fun ho=>?_) (fun ho=>?_))
 · refine VisOk.failed hv (At.refl _ _) (Int.le_refl _) h1 ?_ (by show (5:Int)≠0;decide)
   show ZV (QA p s g).op 5=true
   simp [ZV,hop]
 · have ho:(s.chans.getD c.toNat default).offer=1:=ho
   have hV:Vld p (s.setChn c ⟨(s.chans.getD c.toNat default).buf,(s.chans.getD c.toNat default).len,true,3,(s.chans.getD c.toNat default).from_,0⟩):=by
    refine hv.chn (c:=c.toNat) (by omega) hb4 ⟨hC.len,⟨by show (0:Int)≤3;decide,by show (3:Int)≤3;decide⟩,fun q=>absurd (hC.cap q) (by omega),hC.buf,fun q=>absurd (show (3:Int)=0 from q) (by decide),fun _ _=>rfl,fun q=>absurd (show (3:Int)=1 from q) (by decide),fun _=>rfl,fun _=>hC.from_ (by omega)⟩ (fun _=>⟨by show (3:Int)≠0;decide,rfl⟩)
   exact VisOk.plain hV ⟨rfl,rfl,rfl⟩ (Int.le_refl _) h1 rfl ht
 · have ho:¬(s.chans.getD c.toNat default).offer=1:=ho
   have hV:Vld p (s.setChn c ⟨(s.chans.getD c.toNat default).buf,(s.chans.getD c.toNat default).len,true,(s.chans.getD c.toNat default).offer,(s.chans.getD c.toNat default).from_,(s.chans.getD c.toNat default).val⟩):=by
    exact hv.chn (c:=c.toNat) (by omega) hb4 ⟨hC.len,hC.off,hC.cap,hC.buf,hC.none,hC.val,fun q=>absurd q ho,fun _=>rfl,hC.from_⟩ (fun q=>⟨q,rfl⟩)
   exact VisOk.plain hV ⟨rfl,rfl,rfl⟩ (Int.le_refl _) h1 rfl ht
theorem QG1 {v0 t:Int} {x:Instr} (hx:x=QA p s g) (ht:t<((p.fn (s.gor g).func).code.length:Int)) (hop:(QA p s g).op=62) (ha:x.a = -1∨0≤x.a∧x.a<(p.fn (s.gor g).func).regs) (hb:0≤x.b∧x.b<(p.funcs.length:Int)):VisOk p s g (Zo p ⟨s,v0,0,t⟩ g x):=by
 have hc6:=hv.count
 unfold Zo
 refine ZT (fun hcl=>?_) (fun hcl=>?_)
 · refine VisOk.failed hv (At.refl _ _) (Int.le_refl _) h1 ?_ (by show (8:Int)≠0;decide)
   show ZV (QA p s g).op 8=true
   simp [ZV,hop]
 · have hcl:¬6≤s.count:=hcl
   have hcd:=hok.code x.b.toNat (by omega)
   have hpm:=hok.params x.b.toNat
   have hX:GorP p ⟨1,x.b,0,0,Q7 s g x.c (p.fn x.b).params.toNat⟩:=by
    refine ⟨⟨by show (1:Int)≤1;decide,by show (1:Int)≤5;decide⟩,⟨hb.1,hb.2,Int.le_refl 0,(show (0:Int)<((p.funcs.getD x.b.toNat default).code.length:Int) by omega),Ua _ _ _ _⟩,fun k hk h8=>?_,fun q=>absurd (show (1:Int)=4 from q) (by decide),fun _=>rfl,fun q=>absurd (show (1:Int)=3 from q) (by decide),fun q=>absurd (show (1:Int)=5 from q) (by decide)⟩
    have hk:(p.funcs.getD x.b.toNat default).regs≤(k:Int):=hk
    show (Q7 s g x.c (p.fn x.b).params.toNat).getD k 0=0
    unfold Q7
    rw [Vh h8,if_neg (by show ¬k<(p.funcs.getD x.b.toNat default).params.toNat;omega)]
   have hV:=hv.spawn hok (by omega) hb hX rfl
   have eg:∀ {X:Stt},X=⟨s.vars,s.owner,s.chans,s.gos.set s.count.toNat ⟨1,x.b,0,0,Q7 s g x.c (p.fn x.b).params.toNat⟩,s.count+1⟩→X.gor g=s.gor g:=by
    rintro X rfl
    show (s.gos.set s.count.toNat _).getD g.toNat default=_
    rw [QU,if_neg (by omega)];rfl
   have a1:=yF hV.shape.gos (g:=g) ⟨hg.1,by omega⟩ x.a s.count
   have b1:=hV.reg (g:=g) ⟨hg.1,by show g<s.count+1;omega⟩ (by rw [eg rfl];exact h1) (r:=x.a) (by rw [eg rfl];exact ha) s.count
   refine VisOk.plain b1 ⟨?_,?_,?_⟩ (by show s.count≤(Stt.setReg _ _ _ _).count;rw [ZZ];show s.count≤s.count+1;omega) h1 rfl ht
   · exact a1.status.trans (by rw [eg rfl])
   · exact a1.func.trans (by rw [eg rfl])
   · exact a1.pc.trans (by rw [eg rfl])
theorem QJc {v0 t:Int} {x:Instr} (hx:x=QA p s g) (ht:t<((p.fn (s.gor g).func).code.length:Int)):VisOk p s g (ZB ⟨s,v0,0,t⟩ g x):=by
 have hc6:=hv.count
 have hgi:=(hv.gos g.toNat (by omega)).inn
 have hrt:Qb p (p.funcs.getD (s.gos.getD g.toNat default).func.toNat default) x=0:=by rw [hx];exact Xg hok hgi
 have reg:∀ (X:Stt) (r v vv:Int),Vld p X→X.gos=s.gos→X.count=s.count→(r = -1∨0≤r∧r<(p.fn (s.gor g).func).regs)→VisOk p s g ⟨X.setReg g r v,vv,0,t⟩:=by
  intro X r v vv hX e1 e2 hr
  have eg:X.gor g=s.gor g:=by unfold Stt.gor;rw [e1]
  have a1:=yF (s:=X) (by rw [hX.shape.gos]) (g:=g) ⟨hg.1,by omega⟩ r v
  have b1:=hX.reg (g:=g) ⟨hg.1,by omega⟩ (by rw [eg];exact h1) (r:=r) (by rw [eg];exact hr) v
  have a0:At g s X:=⟨by rw [eg],by rw [eg],by rw [eg]⟩
  exact VisOk.plain b1 (a0.trans a1) (by show s.count≤(Stt.setReg _ _ _ _).count;rw [ZZ,e2];exact Int.le_refl _) h1 rfl ht
 by_cases h53:x.op=53
 · have hI:=QCV hrt h53
   rw [QBX (by omega) (by omega) (by omega) h53]
   have hr:x.a = -1∨0≤x.a∧x.a<(p.fn (s.gor g).func).regs:=by have:=hI.1;first|exact this|exact .inr this
   exact ZT (fun _=>reg _ _ _ _ (hv.var (i:=x.b.toNat) (by omega) _) rfl rfl hr) (fun _=>reg s _ _ _ hv rfl rfl hr)
 by_cases h57:x.op=57
 · have hI:=QCU hrt h57
   rw [QBW (by omega) (by omega) (by omega) (by omega) (by omega) (by omega) (by omega) h57]
   have hr:x.a = -1∨0≤x.a∧x.a<(p.fn (s.gor g).func).regs:=by have:=hI.1;first|exact this|exact .inr this
   exact ZT (fun _=>reg _ _ _ _ (hv.owns (i:=x.b.toNat) (by omega) (x:=g+1) (by omega)) rfl rfl hr) (fun _=>reg s _ _ _ hv rfl rfl hr)
 unfold ZB
 refine ZT (fun h=>?_) (fun _=>?_)
 · have hI:=QCY hrt h
   exact reg s _ _ _ hv rfl rfl (by have:=hI.1;first|exact this|exact .inr this)
 refine ZT (fun h=>?_) (fun _=>?_)
 · have hI:=QCX hrt h
   exact VisOk.plain (hv.var (i:=x.a.toNat) (by omega) _) ⟨rfl,rfl,rfl⟩ (Int.le_refl _) h1 rfl ht
 refine ZT (fun h=>?_) (fun _=>?_)
 · have hI:=QCW hrt h
   have h2:=reg s x.a (s.vars.getD x.b.toNat 0) ((s.gor g).reg x.c) hv rfl rfl (by have:=hI.1;first|exact this|exact .inr this)
   have hV:=h2.vld.var (i:=x.b.toNat) (by omega) (w64 ((s.setReg g x.a (s.vars.getD x.b.toNat 0)).vars.getD x.b.toNat 0+(s.gor g).reg x.c))
   exact ⟨hV,h2.func,h2.pc,h2.cnt,fun q=>absurd rfl q,h2.on⟩
 refine ZT (fun h=>absurd h h53) (fun _=>?_)
 refine ZT (fun h=>VisOk.plain hv (At.refl _ _) (Int.le_refl _) h1 rfl ht) (fun _=>?_)
 refine ZT (fun h=>?_) (fun _=>?_)
 · have hI:=yd hrt (.inl h)
   exact VisOk.plain (hv.owns (i:=x.a.toNat) (by omega) (x:=g+1) (by omega)) ⟨rfl,rfl,rfl⟩ (Int.le_refl _) h1 rfl ht
 refine ZT (fun h=>?_) (fun _=>?_)
 · have hI:=yd hrt (.inr h)
   refine ZT (fun _=>?_) (fun _=>?_)
   · refine VisOk.failed hv (At.refl _ _) (Int.le_refl _) h1 ?_ (by show (6:Int)≠0;decide)
     show ZV (QA p s g).op 6=true
     rw [← hx];simp [ZV,h]
   · exact VisOk.plain (hv.owns (i:=x.a.toNat) (by omega) (x:=0) (by omega)) ⟨rfl,rfl,rfl⟩ (Int.le_refl _) h1 rfl ht
 exact ZT (fun h=>absurd h h57) (fun _=>VisOk.plain hv (At.refl _ _) (Int.le_refl _) h1 rfl ht)
end
theorem yv {p:Prg} (hok:p.Ok) (hr:QN p=true) {s:Stt} (hv:Vld p s) {g alt:Int} (ha:alt∈Qn p s g):VisOk p s g (QG p s g alt):=by
 have hl:=live_iff.1 (Zm ha)
 have hg:=hl.1
 have hw:=hv.wf hok hr
 have hc6:=hv.count
 have hgi:=(hv.gos g.toNat (by omega)).inn
 have hrt:Qb p (p.funcs.getD (s.gos.getD g.toNat default).func.toNat default) (QA p s g)=0:=Xg hok hgi
 have hnx:(QA p s g).op≠42∧(QA p s g).op≠45∧(QA p s g).op≠61→(s.gor g).pc+1<((p.fn (s.gor g).func).code.length:Int):=fun h=>QEJ hok hgi h
 unfold QG
 refine ZT (fun h66=>?_) (fun h66=>?_)
 · have h2:(s.gos.getD g.toNat default).status=2:=by
    rcases qP h66 with h|h
    · exact h.1
    · have:=QHg hrt
      have e:(qo p s g).op=(QA p s g).op:=rfl
      omega
   obtain ⟨c,hc,ho,hf,hwt⟩:=hv.waiting (g:=g.toNat) (by omega) h2
   have hop:(QA p s g).op=58:=hwt.2.1
   have hA:(QA p s g).a=(c:Int):=hwt.2.2
   have hV:=hv.taken hok (g:=g.toNat) (c:=c) (by omega) h2 hwt.2.2
   have e:(YN ⟨s,0,0,(s.gor g).pc+1⟩ g (QA p s g).a).s=⟨s.vars,s.owner,s.chans.set c ⟨(s.chans.getD c default).buf,(s.chans.getD c default).len,(s.chans.getD c default).closed,0,0,0⟩,s.gos.set g.toNat ⟨1,(s.gos.getD g.toNat default).func,(s.gos.getD g.toNat default).pc,(s.gos.getD g.toNat default).why,(s.gos.getD g.toNat default).regs⟩,s.count⟩:=by
    unfold YN
    rw [hA];rfl
   have eg:(YN ⟨s,0,0,(s.gor g).pc+1⟩ g (QA p s g).a).s.gor g=⟨1,(s.gos.getD g.toNat default).func,(s.gos.getD g.toNat default).pc,(s.gos.getD g.toNat default).why,(s.gos.getD g.toNat default).regs⟩:=by
    rw [e]
    show (s.gos.set g.toNat _).getD g.toNat default=_
    rw [QU,if_pos ⟨rfl,by rw [hv.shape.gos];omega⟩]
   refine ⟨by rw [e];exact hV,by rw [eg];rfl,by rw [eg];rfl,by rw [e];exact Int.le_refl _,fun q=>⟨by rw [eg],?_⟩,fun _ _=>⟨by rw [eg],hnx (by omega)⟩⟩
   have e4:(YN ⟨s,0,0,(s.gor g).pc+1⟩ g (QA p s g).a).why=4:=by
    unfold YN at q ⊢
    simp only at q ⊢
    split
    · rfl
    · rename_i q2;rw [if_neg q2] at q;exact absurd rfl q
   rw [e4];simp [ZV,hop]
 have h1:(s.gor g).status=1:=by
  rcases hl.2 with h|h
  · exact h
  · exact absurd (by unfold QK;exact if_pos h) h66
 have e:QK p s g=(QA p s g).op:=by
  unfold QK
  exact if_neg (by omega)
 rw [e] at h66 ⊢
 refine ZT (fun h=>?_) (fun h58=>?_)
 · have hI:=Vm hrt h
   have hsn:Ys p s (QA p s g).a=true:=(y7 (by rw [e];exact h)).symm.trans (V7 ha (by omega)).1
   exact QDH hok hv hg h1 _ (hnx (by omega)) hI.1 hsn (fun _=>⟨h,rfl⟩) (.inl h)
 refine ZT (fun h=>?_) (fun _=>?_)
 · have hI:=yc hrt h
   exact QDJ hok hv hg h1 (hnx (by omega)) hI.2.1 hI.1 hI.2.2
 refine ZT (fun h=>?_) (fun _=>?_)
 · exact QG3 hok hv h1 (hnx (by omega)) (QCT hrt h) h
 refine ZT (fun h=>?_) (fun _=>?_)
 · have hI:=QHS hrt h
   exact QG1 hok hv hg h1 rfl (hnx (by omega)) h hI.1 hI.2.1
 refine ZT (fun h=>ZT (fun _=>?_) (fun _=>?_)) (fun h63=>?_)
 · refine VisOk.failed hv (At.refl _ _) (Int.le_refl _) h1 ?_ (by show (7:Int)≠0;decide)
   show ZV (QA p s g).op 7=true
   simp [ZV,h]
 · exact VisOk.plain hv (At.refl _ _) (Int.le_refl _) h1 rfl (hnx (by omega))
 refine ZT (fun h=>VisOk.plain hv (At.refl _ _) (Int.le_refl _) h1 rfl (hnx (by omega))) (fun h65=>?_)
 refine ZT (fun h=>ZT (fun hal=>?_) (fun hne=>?_)) (fun h61=>?_)
 · have hI:=UB hrt h
   have hel:=QH9 hok (i:=(s.gos.getD g.toNat default).func.toNat) (j:=(QA p s g).a.toNat) (by have:=hgi.f0;have:=hgi.f1;omega) (by omega)
   refine VisOk.plain hv (At.refl _ _) (Int.le_refl _) h1 rfl ?_
   show (Qw p s g).els<_
   have e2:(Qw p s g).els=((p.funcs.getD (s.gos.getD g.toNat default).func.toNat default).sels.getD (QA p s g).a.toNat default).els:=rfl
   have e3:(p.fn (s.gor g).func).code.length=(p.funcs.getD (s.gos.getD g.toNat default).func.toNat default).code.length:=rfl
   have:=hok.code (s.gos.getD g.toNat default).func.toNat (by have:=hgi.f0;have:=hgi.f1;omega)
   omega
 · obtain ⟨k,rfl,hk,hco⟩:=(zw ha (by rw [e];exact h)).resolve_left hne
   have hI:=UB hrt h
   have hC:=Vb hok (i:=(s.gos.getD g.toNat default).func.toNat) (j:=(QA p s g).a.toNat) (k:=k) (by have:=hgi.f0;have:=hgi.f1;omega) (by have:=hI;omega) hk
   have hto:((Qw p s g).cases.getD (k:Int).toNat default).to_<((p.fn (s.gor g).func).code.length:Int):=hC.to_.2
   refine ZT (fun hs=>?_) (fun hs=>?_)
   · have hs:((Qw p s g).cases.getD k default).send=true:=hs
     have hcap:=hC.cap hs
     have hsn:Ys p s ((Qw p s g).cases.getD k default).chan=true:=by
      unfold XQ at hco
      rw [if_pos hs] at hco
      exact hco
     exact QDH hok hv hg h1 _ hto hC.chan hsn (fun q=>absurd q hcap) (.inr h)
   · have hs:((Qw p s g).cases.getD k default).send=false:=Bool.of_not_eq_true hs
     have hreg:=hC.reg
     exact QDJ hok hv hg h1 hto hC.chan (by
      rcases hreg with q|q
      · exact .inr q
      · exact .inl q.2) (.inl rfl)
 · by_cases hvs:(QA p s g).op=42∨(QA p s g).op=45
   · have hp:=(V7 ha (by rw [e];exact h61)).1
     exfalso
     unfold plain at hp
     simp only [e] at hp
     rw [if_neg (by omega),if_neg (by omega),if_neg (by omega),if_neg (by omega),if_neg (by omega),if_neg (by omega)] at hp
     have:=of_decide_eq_true hp
     omega
   · exact QJc hok hv hg h1 rfl (hnx (by omega))
def Wj (apply:Int→Int→Int→Int × Int):Prop:=∀ op a b,((apply op a b).2=20→op=19∨op=20)∧((apply op a b).2=21→25≤op∧op≤27)
theorem QKd (n k:Nat):(List.replicate n (0:Int)).getD k 0=0:=by
 rw [List.getD_eq_getElem?_getD,List.getElem?_replicate]
 split<;>rfl
theorem xG {op w:Int} (h:(w=1∧op=44)∨(w=2∧(op=19∨op=20))∨(w=3∧25≤op∧op≤27)):ZV op w=true:=by
 rcases h with ⟨rfl,h⟩|⟨rfl,h⟩|⟨rfl,h⟩
 · simp [ZV,h]
 · rcases h with rfl|rfl<;>rfl
 · simp [ZV,h]
section
variable {apply:Int→Int→Int→Int × Int} (hap:Wj apply) {p:Prg} (hok:p.Ok)
theorem GorP.ended {g:Gor} (h:GorP p g) {w:Int} (hf:ZV (p.instr g).op w=true):GorP p (ended g 4 w) :=
 ⟨⟨by show (1:Int)≤4;decide,by show (4:Int)≤5;decide⟩,⟨h.inn.f0,h.inn.f1,h.inn.p0,h.inn.p1,rfl⟩,fun k _ h8=>by show (List.replicate 8 (0:Int)).getD k 0=0;exact QKd 8 k,fun _=>hf,fun q=>absurd rfl q,fun q=>absurd (show (4:Int)=3 from q) (by decide),fun q=>absurd (show (4:Int)=5 from q) (by decide)⟩
theorem GorP.over {g:Gor} (h:GorP p g) (h1:g.status=1) (hf:(p.instr g).op=45):GorP p (Go.Eng.ended g 3 0) :=
 ⟨⟨by show (1:Int)≤3;decide,by show (3:Int)≤5;decide⟩,⟨h.inn.f0,h.inn.f1,h.inn.p0,h.inn.p1,rfl⟩,fun k _ h8=>by show (List.replicate 8 (0:Int)).getD k 0=0;exact QKd 8 k,fun q=>absurd (show (3:Int)=4 from q) (by decide),fun _=>rfl,fun _=>hf,fun q=>absurd (show (3:Int)=5 from q) (by decide)⟩
include hap hok in
theorem QEP {g:Gor} (hG:GorP p g) (h1:g.status=1) (hl:Qp (p.instr g).op=true) :
 GorP p (Qi apply p g).1∧((Qi apply p g).2=true→(Qi apply p g).1.status=1)∧(Qi apply p g).1.status≠2∧(Qi apply p g).1.status≠5∧(Qi apply p g).1.func=g.func:=by
 have hr:=UK hl
 have hg:=hG.inn
 have hin:=Xg hok hg
 have hm:U1 p g=(p.fn g.func).regs:=if_neg (by omega)
 have h8:=hg.regs
 have mk:∀ (pc:Int) (regs:List Int),0≤pc→pc<(p.funcs.getD g.func.toNat default).code.length→regs.length=8→(∀ k:Nat,(p.fn g.func).regs≤k→k<8→regs.getD k 0=0)→GorP p ⟨g.status,g.func,pc,g.why,regs⟩:=by
  intro pc regs q0 q1 q2 q3
  refine ⟨hG.st,⟨hg.f0,hg.f1,q0,q1,q2⟩,fun k hk hk8=>q3 k ?_ hk8,fun q=>?_,hG.why,fun q=>?_,fun q=>?_⟩
  · have e:U1 p ⟨g.status,g.func,pc,g.why,regs⟩=(p.fn g.func).regs:=if_neg (by show ¬(g.status=3∨g.status=4);omega)
    rw [e] at hk;exact hk
  · have q:g.status=4:=q;omega
  · have q:g.status=3:=q;omega
  · have q:g.status=5:=q;omega
 have next:∀ regs:List Int,regs.length=8→(∀ k:Nat,(p.fn g.func).regs≤k→k<8→regs.getD k 0=0)→((p.instr g).op≠42∧(p.instr g).op≠45∧(p.instr g).op≠61)→GorP p ⟨g.status,g.func,g.pc+1,g.why,regs⟩:=fun regs q2 q3 ho =>
  mk _ _ (by have:=hg.p0;omega) (QEJ hok hg ho) q2 q3
 have hz:∀ k:Nat,(p.fn g.func).regs≤k→k<8→g.regs.getD k 0=0:=fun k q1 q2=>hG.zero k (by rw [hm];exact q1) q2
 have hset:∀ (a v:Int),0≤a∧a<(p.fn g.func).regs→∀ k:Nat,(p.fn g.func).regs≤k→k<8→(g.regs.set a.toNat v).getD k 0=0:=by
  intro a v ha k q1 q2
  rw [QU,if_neg (by omega)]
  exact hz k q1 q2
 have fin:∀ {r:Gor × Bool} {pc:Int} {regs:List Int} {b:Bool},r=(⟨g.status,g.func,pc,g.why,regs⟩,b)→GorP p ⟨g.status,g.func,pc,g.why,regs⟩→GorP p r.1∧(r.2=true→r.1.status=1)∧r.1.status≠2∧r.1.status≠5∧r.1.func=g.func:=by
  rintro r pc regs b rfl hG2
  exact ⟨hG2,fun _=>h1,by show g.status≠2;omega,by show g.status≠5;omega,rfl⟩
 have fal:∀ {r:Gor × Bool} {w:Int},r=(ended g 4 w,false)→ZV (p.instr g).op w=true→GorP p r.1∧(r.2=true→r.1.status=1)∧r.1.status≠2∧r.1.status≠5∧r.1.func=g.func:=by
  rintro r w rfl hf
  exact ⟨hG.ended hf,fun q=>Bool.noConfusion (show false=true from q),by show (4:Int)≠2;decide,by show (4:Int)≠5;decide,rfl⟩
 by_cases h1':(p.instr g).op≤15
 · exact fin (ls1 apply h1') (next _ (by rw [List.length_set];exact h8) (hset _ _ (QRF hin (by omega) h1').1) (by omega))
 by_cases h2:(p.instr g).op≤36
 · by_cases e1:(apply (p.instr g).op (g.regs.getD (p.instr g).b.toNat 0) (g.regs.getD (p.instr g).c.toNat 0)).2=20
   · refine fal (QNK apply h1' h2 e1) ?_
     exact xG (.inr (.inl ⟨rfl,(hap _ _ _).1 e1⟩))
   by_cases e2:(apply (p.instr g).op (g.regs.getD (p.instr g).b.toNat 0) (g.regs.getD (p.instr g).c.toNat 0)).2=21
   · refine fal (QNL apply h1' h2 e1 e2) ?_
     exact xG (.inr (.inr ⟨rfl,(hap _ _ _).2 e2⟩))
   · exact fin (ls2 apply h1' h2 e1 e2) (next _ (by rw [List.length_set];exact h8) (hset _ _ (QNN hin (by omega) h2).1) (by omega))
 by_cases h3:(p.instr g).op=40
 · exact fin (QNJ apply h1' h2 h3) (next _ (by rw [List.length_set];exact h8) (hset _ _ (QLW hin h3)) (by omega))
 by_cases h4:(p.instr g).op=41
 · exact fin (QNI apply h1' h2 h3 h4) (next _ (by rw [List.length_set];exact h8) (hset _ _ (QLV hin h4).1) (by omega))
 by_cases h5:(p.instr g).op=42
 · have:=QPI hin h5
   exact fin (QNH apply h1' h2 h3 h4 h5) (mk _ _ this.1 this.2 h8 hz)
 by_cases h6:(p.instr g).op=43
 · by_cases e:g.regs.getD (p.instr g).a.toNat 0=0
   · exact fin (QHy apply h1' h2 h3 h4 h5 h6 e) (next _ h8 hz (by omega))
   · have:=(QHz hin h6).2
     exact fin (QNG apply h1' h2 h3 h4 h5 h6 e) (mk _ _ this.1 this.2 h8 hz)
 by_cases h7:(p.instr g).op=44
 · by_cases e:g.regs.getD (p.instr g).a.toNat 0=0
   · exact fal (QHx apply h1' h2 h3 h4 h5 h6 h7 e) (xG (.inl ⟨rfl,h7⟩))
   · exact fin (QNF apply h1' h2 h3 h4 h5 h6 h7 e) (next _ h8 hz (by omega))
 · rw [QNE apply h1' h2 h3 h4 h5 h6 h7]
   exact ⟨hG.over h1 (by omega),fun q=>Bool.noConfusion (show false=true from q),by show (3:Int)≠2;decide,by show (3:Int)≠5;decide,rfl⟩
include hap hok in
theorem zN:∀ (m:Nat) {g:Gor},GorP p g→g.status=1→GorP p (Zr apply p m g)∧(Zr apply p m g).status≠2∧(Zr apply p m g).func=g.func
 | 0,g,hG,h1=>by
   cases h:Qp (p.instr g).op
   · rw [XI apply h];exact ⟨hG,by omega,rfl⟩
   · rw [Wy apply h]
     refine ⟨⟨⟨by show (1:Int)≤5;decide,by show (5:Int)≤5;decide⟩,⟨hG.inn.f0,hG.inn.f1,hG.inn.p0,hG.inn.p1,hG.inn.regs⟩,fun k hk h8=>hG.zero k ?_ h8,fun q=>absurd (show (5:Int)=4 from q) (by decide),fun _=>hG.why (by omega),fun q=>absurd (show (5:Int)=3 from q) (by decide),fun _=>h⟩,by show (5:Int)≠2;decide,rfl⟩
     have e1:U1 p g=(p.fn g.func).regs:=if_neg (by omega)
     rw [e1];exact hk
 | m+1,g,hG,h1=>by
   cases h:Qp (p.instr g).op
   · rw [XI apply h];exact ⟨hG,by omega,rfl⟩
   · rw [Q8 apply h]
     obtain ⟨a1,a2,a3,_,a4⟩:=QEP hap hok hG h1 h
     split
     · rename_i q
       have:=zN m a1 (a2 q)
       exact ⟨this.1,this.2.1,this.2.2.trans a4⟩
     · exact ⟨a1,a3,a4⟩
include hap hok in
theorem QGY {g:Gor} (hG:GorP p g) (h1:g.status=1∨g.status=5) (fuel:Int):GorP p (Yh apply p g fuel)∧(Yh apply p g fuel).status≠2∧(Yh apply p g fuel).func=g.func:=by
 have hX:GorP p { g with status:=1 }:=by
  refine ⟨⟨by show (1:Int)≤1;decide,by show (1:Int)≤5;decide⟩,⟨hG.inn.f0,hG.inn.f1,hG.inn.p0,hG.inn.p1,hG.inn.regs⟩,fun k hk h8=>hG.zero k ?_ h8,fun q=>absurd (show (1:Int)=4 from q) (by decide),fun _=>hG.why (by omega),fun q=>absurd (show (1:Int)=3 from q) (by decide),fun q=>absurd (show (1:Int)=5 from q) (by decide)⟩
  have e1:U1 p g=(p.fn g.func).regs:=if_neg (by omega)
  rw [e1];exact hk
 exact zN hap hok _ hX rfl
theorem yE {s:Stt} (hr:QN p=true) (hok:p.Ok) (hv:Vld p s) {g fuel:Int} (hg:0≤g∧g<s.count) (hf:0≤fuel∧fuel≤4096) :
 (QZ apply p s g fuel).1=if (s.gor g).status=1∨(s.gor g).status=5 then { s with gos:=s.gos.set g.toNat (Yh apply p (s.gor g) fuel) } else s:=by
 have hc:=hv.count
 unfold QZ
 rw [if_neg (by rw [hr];decide),if_neg (by rw [hv.ok hok hr];decide),if_neg (by omega),if_neg (by omega)]
 split<;>rfl
include hap in
theorem yD {s:Stt} (hr:QN p=true) (hok:p.Ok) (hv:Vld p s) {g fuel:Int} (hg:0≤g∧g<s.count) (hf:0≤fuel∧fuel≤4096) :
 Vld p (QZ apply p s g fuel).1:=by
 rw [yE hr hok hv hg hf]
 split
 · rename_i h
   have hG:=hv.gos g.toNat (by omega)
   have:=QGY hap hok hG h fuel
   exact hv.go (i:=g.toNat) (by omega) this.1 (by have h:(s.gos.getD g.toNat default).status=1∨(s.gos.getD g.toNat default).status=5:=h;omega) this.2.1
 · exact hv
theorem xd {s:Stt} (hr:QN p=true) (hok:p.Ok) (hv:Vld p s) {g fuel:Int} (hg:0≤g∧g<s.count) (hf:0≤fuel∧fuel≤4096) :
 (QZ apply p s g fuel).1.vars=s.vars∧(QZ apply p s g fuel).1.owner=s.owner∧(QZ apply p s g fuel).1.chans=s.chans∧(QZ apply p s g fuel).1.count=s.count∧∀ i:Nat,i≠g.toNat→(QZ apply p s g fuel).1.gos.getD i default=s.gos.getD i default:=by
 rw [yE hr hok hv hg hf]
 split
 · refine ⟨rfl,rfl,rfl,rfl,fun i hi=>?_⟩
   show (s.gos.set _ _).getD i default=_
   rw [QU,if_neg (fun q=>hi q.1.symm)]
 · exact ⟨rfl,rfl,rfl,rfl,fun _ _=>rfl⟩
def Z8 (d:Did) (g:Int):Stt:={ d.s with gos:=d.s.gos.set g.toNat { d.s.gor g with pc:=d.to_ } }
def Vi (d:Did) (g:Int):Stt:={ d.s with gos:=d.s.gos.set g.toNat { d.s.gor g with status:=4,why:=d.why,regs:=List.replicate 8 0 } }
theorem zy {s:Stt} {g:Int} {d:Did} (hg:0≤g∧g<s.count) (hd:VisOk p s g d) (hw:d.why=0) (ht:0≤d.to_):Vld p (Z8 d g):=by
 have hv:=hd.vld
 have h1:=(hd.on hw ht).1
 have h2:=(hd.on hw ht).2
 have hc:=hd.cnt
 have hG:=hv.gos g.toNat (by omega)
 refine hv.go (i:=g.toNat) (by omega) (X:={ d.s.gor g with pc:=d.to_ }) ⟨hG.st,⟨hG.inn.f0,hG.inn.f1,ht,?_,hG.inn.regs⟩,hG.zero,fun q=>?_,hG.why,fun q=>?_,fun q=>?_⟩ (by have h1:(d.s.gos.getD g.toNat default).status=1:=h1;omega) (by show (d.s.gor g).status≠2;omega)
 · rw [← hd.func] at h2;exact h2
 · have q:(d.s.gor g).status=4:=q;omega
 · have q:(d.s.gor g).status=3:=q;omega
 · have q:(d.s.gor g).status=5:=q;omega
theorem QEU {s:Stt} {g:Int} {d:Did} (hg:0≤g∧g<s.count) (hd:VisOk p s g d) (hw:d.why≠0):Vld p (Vi d g):=by
 have hv:=hd.vld
 obtain ⟨h1,h2⟩:=hd.fail hw
 have hc:=hd.cnt
 have hG:=hv.gos g.toNat (by omega)
 have e:p.instr (d.s.gor g)=QA p s g:=by
  show (p.funcs.getD (d.s.gor g).func.toNat default).code.getD (d.s.gor g).pc.toNat default=_
  rw [hd.func,hd.pc];rfl
 refine hv.go (i:=g.toNat) (by omega) (X:={ d.s.gor g with status:=4,why:=d.why,regs:=List.replicate 8 0 }) ⟨⟨by show (1:Int)≤4;decide,by show (4:Int)≤5;decide⟩,⟨hG.inn.f0,hG.inn.f1,hG.inn.p0,hG.inn.p1,rfl⟩,fun k _ h8=>by show (List.replicate 8 (0:Int)).getD k 0=0;exact QKd 8 k,fun _=>?_,fun q=>absurd rfl q,fun q=>absurd (show (4:Int)=3 from q) (by decide),fun q=>absurd (show (4:Int)=5 from q) (by decide)⟩ (by have h1:(d.s.gos.getD g.toNat default).status=1:=h1;omega) (by show (4:Int)≠2;decide)
 show ZV (p.instr (d.s.gor g)).op d.why=true
 rw [e];exact h2
include hap in
theorem QDn {s:Stt} (hr:QN p=true) (hok:p.Ok) (hv:Vld p s) {x:Pck} (ha:x.alt∈Qn p s x.go) {fuel:Int} (hf:0≤fuel∧fuel≤4096):Vld p (take apply p s x fuel).1:=by
 have hg:=(live_iff.1 (Zm ha)).1
 have hd:=yv hok hr hv ha
 unfold take
 simp only
 split
 · rename_i hw;exact QEU hg hd hw
 · rename_i hw
   have hw:(QG p s x.go x.alt).why=0:=by simpa using hw
   split
   · exact hd.vld
   · rename_i ht
     have h1:=zy hg hd hw (by omega)
     have hc:=hd.cnt
     have h2:=yD hap hr hok h1 (g:=x.go) (fuel:=fuel) ⟨hg.1,by show x.go<(QG p s x.go x.alt).s.count;omega⟩ hf
     show Vld p (if _ then _ else _)
     refine QAD (q:=Vld p) (fun q=>?_) (fun _=>h2)
     exact yD hap hr hok h2 ⟨by have:=hv.count;omega,q⟩ hf
include hap in
theorem QPN {s:Stt} (hr:QN p=true) (hok:p.Ok) (hv:Vld p s) {x:Pck} (ha:x.alt∈Qn p s x.go) {fuel:Int} (hf:0≤fuel∧fuel≤4096):Vld p (YO apply p s x fuel).1:=by
 unfold YO
 rw [if_neg (by omega),if_neg (by unfold has;rw [decide_eq_true ha];decide)]
 exact QDn hap hr hok hv ha hf
include hap in
theorem zK (hr:QN p=true) (hok:p.Ok) {fuel:Int} (hf:0≤fuel∧fuel≤4096):Vld p (start apply p fuel).1:=by
 have hz:=xR hok
 have h4:=hok.four
 have h8:=hok.eight
 unfold start
 rw [if_neg (by rw [hr];decide),if_neg (by omega)]
 have hG:GorP p ⟨1,0,0,0,List.replicate 8 0⟩:=by
  have hi:=Vs hok
  refine ⟨⟨by decide,by decide⟩,⟨hi.f0,hi.f1,hi.p0,hi.p1,rfl⟩,fun k _ h8=>by show (List.replicate 8 (0:Int)).getD k 0=0;exact QKd 8 k,fun q=>absurd (show (1:Int)=4 from q) (by decide),fun _=>rfl,fun q=>absurd (show (1:Int)=3 from q) (by decide),fun q=>absurd (show (1:Int)=5 from q) (by decide)⟩
 have hx:GorP p (Yh apply p zeroGor fuel)∧(Yh apply p zeroGor fuel).status≠2∧_:=zN hap hok fuel.toNat hG rfl
 have z4:∀ i:Nat,i<4→zeroStt.chans.getD i default=zeroChn:=by
  intro i hi
  rcases (show i=0∨i=1∨i=2∨i=3 by omega) with rfl|rfl|rfl|rfl<;>rfl
 have zg:∀ i:Nat,i<6→zeroStt.gos.getD i default=zeroGor:=by
  intro i hi
  rcases (show i=0∨i=1∨i=2∨i=3∨i=4∨i=5 by omega) with rfl|rfl|rfl|rfl|rfl|rfl<;>rfl
 refine ⟨⟨by simp [YE],rfl,rfl,hz.shape.bufs,by show (List.set _ _ _).length=6;rw [List.length_set];rfl,QAA hz.shape.regs hx.1.inn.regs 0⟩,⟨(by decide:(1:Int)≤1),(by decide:(1:Int)≤6)⟩,fun i hi=>?_,fun i h6 hi=>?_,fun i h1 h2=>?_,fun i hi=>?_,fun i hi=>?_,fun i h1 _=>z4 i h1,fun g hg h2=>?_⟩
 · have hi:(i:Int)<1:=hi
   have e:i=0:=by omega
   show GorP p ((zeroStt.gos.set 0 _).getD i default)
   rw [e,QU,if_pos ⟨rfl,by decide⟩]
   exact hx.1
 · have hi:(1:Int)≤i:=hi
   show (zeroStt.gos.set 0 _).getD i default=zeroGor
   rw [QU,if_neg (by omega)]
   exact zg i h6
 · show (YE p p.vars.length).getD i 0=0
   unfold YE
   rw [Vh h2,if_neg (by omega)]
 · have e:zeroStt.owner.getD i 0=0:=by rcases (show i=0∨i=1∨i=2∨i=3 by omega) with rfl|rfl|rfl|rfl<;>rfl
   show (0≤zeroStt.owner.getD i 0∧zeroStt.owner.getD i 0≤1)∧(p.locks≤(i:Int)→zeroStt.owner.getD i 0=0)
   rw [e];exact ⟨⟨by decide,by decide⟩,fun _=>rfl⟩
 · have e:=z4 i (by omega)
   have hcp:=hok.caps i
   show ChnP p _ 1 i (zeroStt.chans.getD i default)
   rw [e]
   exact ⟨⟨by show (0:Int)≤0;decide,hcp.1⟩,⟨by decide,by decide⟩,fun _=>rfl,fun k _ h4=>by show (List.replicate 4 (0:Int)).getD k 0=0;exact QKd 4 k,fun _=>⟨rfl,rfl⟩,fun q=>absurd rfl q,fun q=>absurd (show (0:Int)=1 from q) (by decide),fun q=>absurd (show (0:Int)=3 from q) (by decide),fun q=>absurd rfl q⟩
 · have hg:(g:Int)<1:=hg
   have e:g=0:=by omega
   have h2:((zeroStt.gos.set 0 _).getD g default).status=2:=h2
   rw [e,QU,if_pos ⟨rfl,by decide⟩] at h2
   exact absurd h2 hx.2.1
end
theorem Zd:Wj QB:=by
 intro op a b
 unfold QB
 split
 · exact ⟨fun q=>absurd (show (22:Int)=20 from q) (by decide),fun q=>absurd (show (22:Int)=21 from q) (by decide)⟩
 split
 · exact ⟨fun q=>absurd (show (0:Int)=20 from q) (by decide),fun q=>absurd (show (0:Int)=21 from q) (by decide)⟩
 unfold XW
 have no:∀ {x:Int},(x,(0:Int)).2≠20∧(x,(0:Int)).2≠21:=⟨by show (0:Int)≠20;decide,by show (0:Int)≠21;decide⟩
 by_cases h1:op=16
 · rw [if_pos h1];exact ⟨fun q=>absurd q no.1,fun q=>absurd q no.2⟩
 rw [if_neg h1]
 by_cases h2:op=17
 · rw [if_pos h2];exact ⟨fun q=>absurd q no.1,fun q=>absurd q no.2⟩
 rw [if_neg h2]
 by_cases h3:op=18
 · rw [if_pos h3];exact ⟨fun q=>absurd q no.1,fun q=>absurd q no.2⟩
 rw [if_neg h3]
 by_cases h4:op=19∨op=20
 · rw [if_pos h4]
   refine ⟨fun _=>h4,?_⟩
   by_cases q1:b=0
   · rw [if_pos q1];exact fun q=>absurd (show (20:Int)=21 from q) (by decide)
   rw [if_neg q1]
   by_cases q2:b = -1
   · rw [if_pos q2];split<;>exact fun q=>absurd q no.2
   rw [if_neg q2];split<;>exact fun q=>absurd q no.2
 rw [if_neg h4]
 by_cases h5:op=21∨op=22∨op=23∨op=24
 · rw [if_pos h5];exact ⟨fun q=>absurd q no.1,fun q=>absurd q no.2⟩
 rw [if_neg h5]
 by_cases h6:op=25∨op=26∨op=27
 · rw [if_pos h6]
   refine ⟨?_,fun _=>by omega⟩
   by_cases q1:b<0
   · rw [if_pos q1];exact fun q=>absurd (show (21:Int)=20 from q) (by decide)
   rw [if_neg q1]
   split
   · exact fun q=>absurd q no.1
   · split<;>exact fun q=>absurd q no.1
 rw [if_neg h6]
 split<;>exact ⟨fun q=>absurd q no.1,fun q=>absurd q no.2⟩
section
variable (apply:Int→Int→Int→Int × Int) {p:Prg} {g:Gor}
theorem wi (g:Gor):((Qi apply p g).2=true∧(Qi apply p g).1.status=g.status∨(Qi apply p g).2=false∧((Qi apply p g).1.status=3∨(Qi apply p g).1.status=4)):=by
 unfold Qi
 simp only
 repeat' split
 all_goals first|exact .inl ⟨rfl,rfl⟩|exact .inr ⟨rfl,.inl rfl⟩|exact .inr ⟨rfl,.inr rfl⟩
theorem QBK (g:Gor):(Qi apply p g).1.func=g.func:=by
 unfold Qi
 simp only
 repeat' split
 all_goals rfl
def onN (p:Prg) (m:Nat) (g:Gor):Gor:=if g.status=1 then Zr apply p m g else g
theorem QK0 {m:Nat} (h:g.status=1):onN apply p m g=Zr apply p m g:=if_pos h
theorem QKy {m:Nat} (h1:g.status=1) (hl:Qp (p.instr g).op=true):onN apply p (m+1) g=onN apply p m (Qi apply p g).1:=by
 unfold onN
 rw [if_pos h1,Q8 apply hl]
 rcases wi apply (p:=p) g with ⟨e1,e2⟩|⟨e1,e2⟩
 · rw [e1,if_pos rfl,if_pos (by omega)]
 · rw [e1,if_neg (by simp),if_neg (by omega)]
theorem QKx {m:Nat} (h:Qp (p.instr g).op=false):onN apply p m g=g:=by
 unfold onN
 split
 · exact XI apply h
 · rfl
theorem QKz {m:Nat} (h:g.status≠1):onN apply p m g=g:=if_neg h
theorem QKw (h1:g.status=1) (hl:Qp (p.instr g).op=true):onN apply p 0 g=⟨5,g.func,g.pc,g.why,g.regs⟩:=by
 unfold onN;rw [if_pos h1];exact Wy apply hl
end
def Wh (p:Prg) (s:Stt):Int:=if QN p=false then 3 else if YI p s=false then 4 else 0
def V1 (s:Stt) (g:Int):Bool:=decide ((s.gos.getD g.toNat default).status=1)||decide ((s.gos.getD g.toNat default).status=2)
def atI (p:Prg) (s:Stt) (g:Int):Instr:={ QA p s g with op:=QK p s g }
def Xw (s:Stt) (g k:Int):Bool:=decide (0≤k)&&decide (k<s.count)&&!decide (k=g)
def Ql (s:Stt) (n:Nat):List Int:=((List.range n).filter fun (g:Nat)=>V1 s (g:Int)).map fun (g:Nat)=>(g:Int)
theorem wK {p:Prg} {s:Stt} (h:Wh p s=0):QN p=true∧YI p s=true:=by
 unfold Wh at h
 split at h;· cases h
 rename_i h1
 split at h;· cases h
 rename_i h2
 exact ⟨by simpa using h1,by simpa using h2⟩
theorem WP {p:Prg} {s:Stt} (hv:Vld p s) {g:Int} (h0:0≤g) (h6:g<6) (h:V1 s g=true):g<s.count:=by
 by_cases hc:g<s.count
 · exact hc
 · have:=hv.rest g.toNat (by omega) (by omega)
   unfold V1 at h
   rw [this] at h
   exact absurd h (by decide)
theorem wj {s:Stt} {g:Int} (h0:0≤g) (hc:g<s.count):YB s g=V1 s g:=by
 unfold YB V1
 rw [decide_eq_true h0,decide_eq_true hc];rfl
theorem Wp {p:Prg} {s:Stt} (hv:Vld p s) {g:Int} (h0:0≤g) (h6:g<6):YB s g=V1 s g:=by
 by_cases hc:g<s.count
 · exact wj h0 hc
 · cases h:V1 s g
   · unfold YB;rw [decide_eq_false hc];simp
   · exact absurd (WP hv h0 h6 h) hc
theorem zf (s:Stt) (n:Nat):Ql s (n+1)=Ql s n++if V1 s (n:Int)=true then [(n:Int)] else []:=by
 unfold Ql
 rw [List.range_succ,List.filter_append,List.map_append]
 congr 1
 simp only [List.filter_cons,List.filter_nil]
 split<;>rfl
theorem QBL (s:Stt) (n:Nat):(Ql s n).length≤n:=by
 unfold Ql
 rw [List.length_map]
 exact Nat.le_trans (List.length_filter_le _ _) (by simp)
theorem QKU {p:Prg} {s:Stt} {c:Int} (h:0≤p.chans.getD c.toNat 0):Ys p s c=((s.chans.getD c.toNat default).closed||(decide (0<p.chans.getD c.toNat 0)&&decide ((s.chans.getD c.toNat default).len<p.chans.getD c.toNat 0))||(decide (p.chans.getD c.toNat 0=0)&&decide ((s.chans.getD c.toNat default).offer=0))):=by
 show (if (s.chans.getD c.toNat default).closed=true then true else if 0<p.chans.getD c.toNat 0 then decide ((s.chans.getD c.toNat default).len<p.chans.getD c.toNat 0) else decide ((s.chans.getD c.toNat default).offer=0))=_
 cases (s.chans.getD c.toNat default).closed
 · rw [if_neg (by simp)]
   by_cases h2:0<p.chans.getD c.toNat 0
   · rw [if_pos h2,decide_eq_true h2,decide_eq_false (show ¬p.chans.getD c.toNat 0=0 by omega)];simp
   · rw [if_neg h2,decide_eq_false h2,decide_eq_true (show p.chans.getD c.toNat 0=0 by omega)];simp
 · rw [if_pos rfl];simp
section
variable {p:Prg} {s:Stt} {g:Int}
theorem QMw (h:QK p s g=54):plain p s g=decide (s.vars.getD (QA p s g).a.toNat 0=(s.gos.getD g.toNat default).regs.getD (QA p s g).b.toNat 0):=if_pos h
theorem QMv (h:QK p s g=55):plain p s g=decide (s.owner.getD (QA p s g).a.toNat 0=0):=(if_neg (by omega)).trans (if_pos h)
theorem QHc (h:QK p s g=58):plain p s g=Ys p s (QA p s g).a:=(if_neg (by omega)).trans ((if_neg (by omega)).trans (if_pos h))
theorem QMu (h:QK p s g=59):plain p s g=XG s (QA p s g).b:=(if_neg (by omega)).trans ((if_neg (by omega)).trans ((if_neg (by omega)).trans (if_pos h)))
theorem QMs (h:QK p s g=66):plain p s g=(decide ((s.chans.getD (QA p s g).a.toNat default).offer=2)||decide ((s.chans.getD (QA p s g).a.toNat default).offer=3)):=(if_neg (by omega)).trans ((if_neg (by omega)).trans ((if_neg (by omega)).trans ((if_neg (by omega)).trans (if_pos h))))
theorem QMt (h:QK p s g=63):plain p s g=(!Xw s g ((s.gos.getD g.toNat default).regs.getD (QA p s g).a.toNat 0)||!V1 s ((s.gos.getD g.toNat default).regs.getD (QA p s g).a.toNat 0)):=by
 have e:plain p s g=(decide ((s.gos.getD g.toNat default).regs.getD (QA p s g).a.toNat 0<0)||decide (s.count≤(s.gos.getD g.toNat default).regs.getD (QA p s g).a.toNat 0)||decide ((s.gos.getD g.toNat default).regs.getD (QA p s g).a.toNat 0=g)||!YB s ((s.gos.getD g.toNat default).regs.getD (QA p s g).a.toNat 0)) :=
  (if_neg (by omega)).trans ((if_neg (by omega)).trans ((if_neg (by omega)).trans ((if_neg (by omega)).trans ((if_neg (by omega)).trans (if_pos h)))))
 rw [e]
 generalize (s.gos.getD g.toNat default).regs.getD (QA p s g).a.toNat 0=k
 unfold Xw
 by_cases h0:0≤k
 · by_cases h1:k<s.count
   · rw [decide_eq_false (show ¬k<0 by omega),decide_eq_false (show ¬s.count≤k by omega),decide_eq_true h0,decide_eq_true h1,wj h0 h1];cases decide (k=g)<;>rfl
   · rw [decide_eq_true (show s.count≤k by omega),decide_eq_false h1];simp
 · rw [decide_eq_true (show k<0 by omega),decide_eq_false h0];simp
theorem QGc (h:QK p s g≠54∧QK p s g≠55∧QK p s g≠58∧QK p s g≠59∧QK p s g≠66∧QK p s g≠63):plain p s g=decide (50≤QK p s g) :=
 (if_neg h.1).trans ((if_neg h.2.1).trans ((if_neg h.2.2.1).trans ((if_neg h.2.2.2.1).trans ((if_neg h.2.2.2.2.1).trans (if_neg h.2.2.2.2.2)))))
end
theorem QCa {l:List Int} {j:Nat} (h:j<l.length):l.take (j+1)=l.take j++[l.getD j 0]:=by
 rw [List.take_succ_eq_append_getElem h];simp [List.getD_eq_getElem?_getD,h]
def wZ (p:Prg) (s:Stt) (l:List Int):List Pck:=l.flatMap fun g=>(Qn p s g).map fun a=>⟨g,a⟩
theorem QCm (p:Prg) (s:Stt) (l:List Int) (g:Int):wZ p s (l++[g])=wZ p s l++(Qn p s g).map fun a=>⟨g,a⟩:=by
 unfold wZ
 rw [List.flatMap_append]
 simp
theorem zV {p:Prg} {s:Stt} (hok:p.Ok) (hw:Wf p s) (g:Int):(Qn p s g).length≤5:=by
 unfold Qn
 split
 · rename_i hl
   have hl:=live_iff.1 hl
   split
   · rename_i hop
     have hgi:=hw.gos g hl.1.1 hl.1.2
     have hI:=UB (hw.right hok hl.1.1 hl.1.2) (hw.op_at hok hl.1.1 hl.1.2 hop (by decide))
     have hsh:=hok.short (s.gos.getD g.toNat default).func.toNat (qo p s g).a.toNat (by omega)
     have h4:(Qw p s g).cases.length≤4:=hsh.2
     have:=WR p s (Qw p s g) (Qw p s g).cases.length
     simp only
     split
     · rw [List.length_append];simp;omega
     · omega
   · split<;>simp
 · simp
theorem QFG {p:Prg} {s:Stt} (hok:p.Ok) (hw:Wf p s):∀ l:List Int,(wZ p s l).length≤5*l.length
 | []=>by simp [wZ]
 | g::l=>by
   have h1:=QFG hok hw l
   have h2:=zV hok hw g
   have:wZ p s (g::l)=((Qn p s g).map fun a=>(⟨g,a⟩:Pck))++wZ p s l:=rfl
   rw [this,List.length_append,List.length_map,List.length_cons]
   omega
theorem QGl {s:Stt} {n:Nat} {g:Int} (h:g∈Ql s n):(0≤g∧g<n)∧V1 s g=true:=by
 unfold Ql at h
 obtain ⟨k,hk,rfl⟩:=List.mem_map.1 h
 obtain ⟨h1,h2⟩:=List.mem_filter.1 hk
 have:=List.mem_range.1 h1
 exact ⟨by omega,h2⟩
theorem QJJ {p:Prg} {s:Stt} (hv:Vld p s) {k:Nat} (hk:k<(Ql s 6).length):(0≤(Ql s 6).getD k 0∧(Ql s 6).getD k 0<s.count)∧YB s ((Ql s 6).getD k 0)=true:=by
 have hm:(Ql s 6).getD k 0∈Ql s 6:=by rw [List.getD_eq_getElem?_getD,List.getElem?_eq_getElem hk];exact List.getElem_mem hk
 obtain ⟨h1,h2⟩:=QGl hm
 have h3:=WP hv h1.1 h1.2 h2
 exact ⟨⟨h1.1,h3⟩,(wj h1.1 h3).trans h2⟩
theorem QDY {p:Prg} {s:Stt} {g:Int} (h:YB s g=false):Qn p s g=[]:=if_neg (by rw [h];simp)
theorem QEA {p:Prg} {s:Stt} {n:Nat} (h:s.count≤n):YG p s n=ready p s:=by
 unfold ready YG
 obtain ⟨k,rfl⟩:∃ k,n=s.count.toNat+k:=⟨n-s.count.toNat,by omega⟩
 rw [List.range_add,List.flatMap_append]
 have:(List.map (fun x=>s.count.toNat+x) (List.range k)).flatMap (fun (g:Nat)=>(Qn p s g).map fun a=>(⟨g,a⟩:Pck))=[]:=by
  rw [List.flatMap_eq_nil_iff]
  intro x hx
  obtain ⟨y,hy,rfl⟩:=List.mem_map.1 hx
  rw [QDY]
  · rfl
  · unfold YB
    rw [decide_eq_false (show ¬((s.count.toNat+y:Nat):Int)<s.count by omega)];simp
 rw [this,List.append_nil]
theorem QHb {p:Prg} {s:Stt} (hv:Vld p s):∀ n:Nat,n≤6→wZ p s (Ql s n)=YG p s n
 | 0,_=>rfl
 | n+1,hn=>by
   rw [zf,qL,← QHb hv n (by omega)]
   split
   · rw [QCm]
   · rename_i h
     have:YB s (n:Int)=false:=by rw [Wp hv (by omega) (by omega)];simpa using h
     rw [QDY this];simp
theorem QIz {p:Prg} {s:Stt} (hv:Vld p s):wZ p s (Ql s 6)=ready p s:=by
 rw [QHb hv 6 (by omega)]
 exact QEA (by have:=hv.count;omega)
def QKM (p:Prg) (s:Stt) (l:List Int):List Int:=l.filter fun g=>!decide (0<(Qn p s g).length)
def machV (p:Prg) (s:Stt) (g fuel val:Int) (failed:Bool):V:=.agg [p.v,s.v,.int g,.int fuel,.int val,.bool failed]
section
variable (p:Prg) (s:Stt) (g fuel val:Int) (failed:Bool)
theorem machV.v0 (d:V):(machV p s g fuel val failed).toList.getD 0 d=p.v:=rfl
theorem machV.v1 (d:V):(machV p s g fuel val failed).toList.getD 1 d=s.v:=rfl
theorem machV.v2 (d:V):(machV p s g fuel val failed).toList.getD 2 d=.int g:=rfl
theorem machV.v3 (d:V):(machV p s g fuel val failed).toList.getD 3 d=.int fuel:=rfl
theorem machV.v4 (d:V):(machV p s g fuel val failed).toList.getD 4 d=.int val:=rfl
theorem machV.v5 (d:V):(machV p s g fuel val failed).toList.getD 5 d=.bool failed:=rfl
theorem machV.s1 (x:Stt):(machV p s g fuel val failed).setSub 1 x.v=machV p x g fuel val failed:=rfl
theorem machV.s4 (x:Int):(machV p s g fuel val failed).setSub 4 (.int x)=machV p s g fuel x failed:=rfl
theorem machV.s5 (x:Bool):(machV p s g fuel val failed).setSub 5 (.bool x)=machV p s g fuel val x:=rfl
end
def QPK (x:Gor) (why:Int):Gor:=⟨4,x.func,x.pc,why,List.replicate 8 0⟩
def QDD (s:Stt) (g why:Int):Stt:=⟨s.vars,s.owner,s.chans,s.gos.set g.toNat (QPK (s.gor g) why),s.count⟩
def machD (p:Prg) (g fuel:Int) (d:Did):V:=if d.why≠0 then machV p (QDD d.s g d.why) g fuel 0 true else machV p d.s g fuel d.val (decide (d.to_<0))
theorem machD.ok {p:Prg} {g fuel:Int} {d:Did} (h:d.why=0) (ht:0≤d.to_):machD p g fuel d=machV p d.s g fuel d.val false:=by
 unfold machD
 rw [if_neg (fun q=>q h),decide_eq_false (by omega)]
theorem machD.over {p:Prg} {g fuel:Int} {d:Did} (h:d.why=0) (ht:d.to_<0):machD p g fuel d=machV p d.s g fuel d.val true:=by
 unfold machD
 rw [if_neg (fun q=>q h),decide_eq_true ht]
theorem machD.fail {p:Prg} {g fuel:Int} {d:Did} (h:d.why≠0):machD p g fuel d=machV p (QDD d.s g d.why) g fuel 0 true:=if_pos h
theorem QAH {l:List Chn} {k:Nat} (h:k<l.length) (X:Chn) (d:V):((l.set k X).map Chn.v).getD k d=X.v:=by
 rw [Zl (by simpa using h)]
 simp [List.getD_eq_getElem?_getD,h]
theorem QQt {b:List Int} (h:b.length=4):QBH (b.map V.int) 0 1 (min 3 4)=(b.drop 1++b.drop 3).map V.int:=by
 match b,h with
 | [x0,x1,x2,x3],_=>rfl
theorem ZW {p:Prg} {g fuel:Int} {s:Stt} {v t:Int} (ht:0≤t):machD p g fuel ⟨s,v,0,t⟩=machV p s g fuel v false:=machD.ok rfl ht
theorem QGj {p:Prg} {g fuel:Int} {s:Stt} {v:Int}:machD p g fuel ⟨s,v,0,-1⟩=machV p s g fuel v true:=machD.over rfl (by show (-1:Int)<0;decide)
theorem Wo {p:Prg} {g fuel:Int} {s:Stt} {v w t:Int} (h:w≠0):machD p g fuel ⟨s,v,w,t⟩=machV p (QDD s g w) g fuel 0 true:=machD.fail h
section
variable {p:Prg} {s:Stt} {g:Int}
def VT (s:Stt) (c:Int):Stt × Int × Bool :=
 if 0<(s.chn c).len then (s.setChn c ⟨(YF (s.chn c).buf ((s.chn c).len-1).toNat).set ((s.chn c).len-1).toNat 0,(s.chn c).len-1,(s.chn c).closed,(s.chn c).offer,(s.chn c).from_,(s.chn c).val⟩,(s.chn c).buf.getD 0 0,true)
 else if (s.chn c).offer=1 then (s.setChn c ⟨(s.chn c).buf,(s.chn c).len,(s.chn c).closed,2,(s.chn c).from_,0⟩,(s.chn c).val,true)
 else (s,0,false)
theorem QE2 {c:Int} (h:c.toNat<s.chans.length):s.setChn c (s.chn c)=s:=by
 unfold Stt.setChn Stt.chn
 have e:s.chans.set c.toNat (s.chans.getD c.toNat default)=s.chans:=by
  rw [List.getD_eq_getElem?_getD,List.getElem?_eq_getElem h]
  exact List.set_getElem_self h
 rw [e]
theorem QFC {v0 t c r ok:Int} (h:c.toNat<s.chans.length):YX ⟨s,v0,0,t⟩ g c r ok=⟨((VT s c).1.setReg g r (VT s c).2.1).setReg g ok (XY (VT s c).2.2),(VT s c).2.1,0,t⟩:=by
 unfold YX VT
 by_cases h1:0<(s.chn c).len
 · simp only [if_pos h1];rfl
 · simp only [if_neg h1]
   by_cases h2:(s.chn c).offer=1
   · simp only [if_pos h2];rfl
   · simp only [if_neg h2,QE2 h];rfl
theorem QIu {b:List Int} (hb:b.length=4) {n:Nat} (hn:n<4) (hz:∀ i,n<i→i<4→b.getD i 0=0):(b.drop 1++b.drop 3).set n 0=(YF b n).set n 0:=by
 match b,hb with
 | [x0,x1,x2,x3],_ =>
   have h1:0<1→n<1→x1=0:=fun _ h=>hz 1 h (by decide)
   have h2:n<2→x2=0:=fun h=>hz 2 h (by decide)
   have h3:n<3→x3=0:=fun h=>hz 3 h (by decide)
   match n,hn with
   | 0,_=>simp [YF,h1 (by decide) (by decide),h2 (by decide),h3 (by decide),List.range,List.range.loop]
   | 1,_=>simp [YF,h2 (by decide),h3 (by decide),List.range,List.range.loop]
   | 2,_=>simp [YF,h3 (by decide),List.range,List.range.loop]
   | 3,_=>simp [YF,List.range,List.range.loop]
end
structure VarsIn (x:Instr):Prop where
 i50:x.op=50→x.a<8∧0≤x.b∧x.b<8
 i51:x.op=51→(0≤x.a∧x.a<8)∧0≤x.b∧x.b<8
 i52:x.op=52→x.a<8∧(0≤x.b∧x.b<8)∧0≤x.c∧x.c<8
 i53:x.op=53→x.a<8∧(0≤x.b∧x.b<8)∧(0≤x.c∧x.c<8)∧0≤x.n∧x.n<8
 i54:x.op=54→0≤x.b∧x.b<8
 i55:x.op=55∨x.op=56→0≤x.a∧x.a<4
 i57:x.op=57→x.a<8∧0≤x.b∧x.b<4
section
variable {s:Stt} {g t:Int} {x:Instr}
abbrev XF (s:Stt) (g r:Int):Int:=(s.gos.getD g.toNat default).regs.getD r.toNat 0
abbrev WV (s:Stt) (k:Int):Int:=s.vars.getD k.toNat 0
theorem QVY (h:x.op=50):ZB ⟨s,0,0,t⟩ g x=⟨s.setReg g x.a (WV s x.b),WV s x.b,0,t⟩:=if_pos h
theorem QVX (h:x.op=51):ZB ⟨s,0,0,t⟩ g x=⟨⟨s.vars.set x.a.toNat (XF s g x.b),s.owner,s.chans,s.gos,s.count⟩,XF s g x.b,0,t⟩:=(if_neg (by omega)).trans (if_pos h)
theorem QVW (h:x.op=52):ZB ⟨s,0,0,t⟩ g x=⟨⟨(s.setReg g x.a (WV s x.b)).vars.set x.b.toNat (IntKind.i64.wrap (WV (s.setReg g x.a (WV s x.b)) x.b+XF s g x.c)),(s.setReg g x.a (WV s x.b)).owner,(s.setReg g x.a (WV s x.b)).chans,(s.setReg g x.a (WV s x.b)).gos,(s.setReg g x.a (WV s x.b)).count⟩,XF s g x.c,0,t⟩ :=
 (if_neg (by omega)).trans ((if_neg (by omega)).trans (if_pos h))
theorem QVV (h:x.op=53) (hv:XY (decide (WV s x.b=XF s g x.c))=1):ZB ⟨s,0,0,t⟩ g x=⟨Stt.setReg ⟨s.vars.set x.b.toNat (XF s g x.n),s.owner,s.chans,s.gos,s.count⟩ g x.a (XY (decide (WV s x.b=XF s g x.c))),XY (decide (WV s x.b=XF s g x.c)),0,t⟩ :=
 (if_neg (by omega)).trans ((if_neg (by omega)).trans ((if_neg (by omega)).trans ((if_pos h).trans (congrArg (fun u:Stt=>(⟨u.setReg g x.a (XY (decide (WV s x.b=XF s g x.c))),XY (decide (WV s x.b=XF s g x.c)),0,t⟩:Did)) (if_pos hv)))))
theorem QTv (h:x.op=53) (hv:¬XY (decide (WV s x.b=XF s g x.c))=1):ZB ⟨s,0,0,t⟩ g x=⟨s.setReg g x.a (XY (decide (WV s x.b=XF s g x.c))),XY (decide (WV s x.b=XF s g x.c)),0,t⟩ :=
 (if_neg (by omega)).trans ((if_neg (by omega)).trans ((if_neg (by omega)).trans ((if_pos h).trans (congrArg (fun u:Stt=>(⟨u.setReg g x.a (XY (decide (WV s x.b=XF s g x.c))),XY (decide (WV s x.b=XF s g x.c)),0,t⟩:Did)) (if_neg hv)))))
theorem QVU (h:x.op=54):ZB ⟨s,0,0,t⟩ g x=⟨s,XF s g x.b,0,t⟩:=(if_neg (by omega)).trans ((if_neg (by omega)).trans ((if_neg (by omega)).trans ((if_neg (by omega)).trans (if_pos h))))
theorem QVT (h:x.op=55):ZB ⟨s,0,0,t⟩ g x=⟨⟨s.vars,s.owner.set x.a.toNat (g+1),s.chans,s.gos,s.count⟩,0,0,t⟩:=(if_neg (by omega)).trans ((if_neg (by omega)).trans ((if_neg (by omega)).trans ((if_neg (by omega)).trans ((if_neg (by omega)).trans (if_pos h)))))
theorem QVS (h:x.op=56) (ho:s.owner.getD x.a.toNat 0=g+1):ZB ⟨s,0,0,t⟩ g x=⟨⟨s.vars,s.owner.set x.a.toNat 0,s.chans,s.gos,s.count⟩,0,0,t⟩:=(if_neg (by omega)).trans ((if_neg (by omega)).trans ((if_neg (by omega)).trans ((if_neg (by omega)).trans ((if_neg (by omega)).trans ((if_neg (by omega)).trans ((if_pos h).trans (if_neg (fun q=>q ho))))))))
theorem QTu (h:x.op=56) (ho:¬s.owner.getD x.a.toNat 0=g+1):ZB ⟨s,0,0,t⟩ g x=⟨s,0,6,t⟩:=(if_neg (by omega)).trans ((if_neg (by omega)).trans ((if_neg (by omega)).trans ((if_neg (by omega)).trans ((if_neg (by omega)).trans ((if_neg (by omega)).trans ((if_pos h).trans (if_pos ho)))))))
theorem QVR (h:x.op=57) (hv:XY (decide (s.owner.getD x.b.toNat 0=0))=1):ZB ⟨s,0,0,t⟩ g x=⟨Stt.setReg ⟨s.vars,s.owner.set x.b.toNat (g+1),s.chans,s.gos,s.count⟩ g x.a (XY (decide (s.owner.getD x.b.toNat 0=0))),XY (decide (s.owner.getD x.b.toNat 0=0)),0,t⟩ :=
 (if_neg (by omega)).trans ((if_neg (by omega)).trans ((if_neg (by omega)).trans ((if_neg (by omega)).trans ((if_neg (by omega)).trans ((if_neg (by omega)).trans ((if_neg (by omega)).trans ((if_pos h).trans (congrArg (fun u:Stt=>(⟨u.setReg g x.a (XY (decide (s.owner.getD x.b.toNat 0=0))),XY (decide (s.owner.getD x.b.toNat 0=0)),0,t⟩:Did)) (if_pos hv)))))))))
theorem QTt (h:x.op=57) (hv:¬XY (decide (s.owner.getD x.b.toNat 0=0))=1):ZB ⟨s,0,0,t⟩ g x=⟨s.setReg g x.a (XY (decide (s.owner.getD x.b.toNat 0=0))),XY (decide (s.owner.getD x.b.toNat 0=0)),0,t⟩ :=
 (if_neg (by omega)).trans ((if_neg (by omega)).trans ((if_neg (by omega)).trans ((if_neg (by omega)).trans ((if_neg (by omega)).trans ((if_neg (by omega)).trans ((if_neg (by omega)).trans ((if_pos h).trans (congrArg (fun u:Stt=>(⟨u.setReg g x.a (XY (decide (s.owner.getD x.b.toNat 0=0))),XY (decide (s.owner.getD x.b.toNat 0=0)),0,t⟩:Did)) (if_neg hv)))))))))
theorem QGx (h:x.op<50∨57<x.op):ZB ⟨s,0,0,t⟩ g x=⟨s,0,0,t⟩:=(if_neg (by omega)).trans ((if_neg (by omega)).trans ((if_neg (by omega)).trans ((if_neg (by omega)).trans ((if_neg (by omega)).trans ((if_neg (by omega)).trans ((if_neg (by omega)).trans (if_neg (by omega))))))))
theorem Yl (s:Stt) (g r v:Int):(s.setReg g r v).gos.length=s.gos.length:=by
 unfold Stt.setReg
 split
 · simp
 · rfl
def yy (p:Prg) (s:Stt) (g:Int) (q:Sel) (alt:Int):Did :=
 if alt=q.cases.length then ⟨s,0,0,q.els⟩
 else if (q.cases.getD alt.toNat default).send then YD p ⟨s,0,0,(q.cases.getD alt.toNat default).to_⟩ g (q.cases.getD alt.toNat default).chan (XF s g (q.cases.getD alt.toNat default).reg)
 else YX ⟨s,0,0,(q.cases.getD alt.toNat default).to_⟩ g (q.cases.getD alt.toNat default).chan (q.cases.getD alt.toNat default).reg (-1)
theorem QKX {p:Prg} {q:Sel} {alt:Int} (h:alt=q.cases.length):yy p s g q alt=⟨s,0,0,q.els⟩:=if_pos h
theorem QKV {p:Prg} {q:Sel} {alt:Int} (h:¬alt=q.cases.length) (hs:(q.cases.getD alt.toNat default).send=true):yy p s g q alt=YD p ⟨s,0,0,(q.cases.getD alt.toNat default).to_⟩ g (q.cases.getD alt.toNat default).chan (XF s g (q.cases.getD alt.toNat default).reg):=(if_neg h).trans (if_pos hs)
theorem QKW {p:Prg} {q:Sel} {alt:Int} (h:¬alt=q.cases.length) (hs:(q.cases.getD alt.toNat default).send=false) (hc:(q.cases.getD alt.toNat default).chan.toNat<s.chans.length):yy p s g q alt=⟨(VT s (q.cases.getD alt.toNat default).chan).1.setReg g (q.cases.getD alt.toNat default).reg (VT s (q.cases.getD alt.toNat default).chan).2.1,(VT s (q.cases.getD alt.toNat default).chan).2.1,0,(q.cases.getD alt.toNat default).to_⟩:=by
 refine ((if_neg h).trans (if_neg (by rw [hs];decide))).trans ?_
 rw [QFC hc]
 rfl
def QIQ (p:Prg) (s:Stt):Prop:=∀ c:Nat,c<p.chans.length→(0≤(s.chans.getD c default).len∧(s.chans.getD c default).len≤p.chans.getD c 0)∧p.chans.getD c 0≤4∧∀ k:Nat,(s.chans.getD c default).len≤k→k<4→(s.chans.getD c default).buf.getD k 0=0
def QPQ (p:Prg) (q:Sel):Prop:=∀ k:Nat,k<q.cases.length→(0≤(q.cases.getD k default).chan∧(q.cases.getD k default).chan<p.chans.length)∧(q.cases.getD k default).reg<8∧((q.cases.getD k default).send=true→0≤(q.cases.getD k default).reg)∧0≤(q.cases.getD k default).to_
theorem XJ (s:Stt) (c:Int):(VT s c).1.gos=s.gos:=by
 unfold VT
 (repeat' split)<;>rfl
theorem QCi {p:Prg} {s:Stt} {c:Int} (h:Ys p s c=true) (hc:(s.chans.getD c.toNat default).closed=false) (h0:0<p.chans.getD c.toNat 0):(s.chans.getD c.toNat default).len<p.chans.getD c.toNat 0:=by
 unfold Ys at h
 rw [if_neg (by rw [show (s.chn c).closed=false from hc];decide),if_pos (show 0<p.cap c from h0)] at h
 exact of_decide_eq_true h
def yV (s:Stt) (g:Int) (x:Instr) (n:Nat):Gor:=⟨1,x.b,0,0,Q7 s g x.c n⟩
theorem QEg:yV s g x 0=⟨1,x.b,0,0,List.replicate 8 0⟩:=by simp [yV,Q7];rfl
theorem QEh {n:Nat}:(Q7 s g x.c n).set n (XF s g (x.c+(n:Int)))=Q7 s g x.c (n+1):=by
 apply List.ext_getElem
 · simp [Q7]
 · intro i h1 h2
   simp only [Q7,List.getElem_set,List.getElem_map,List.getElem_range]
   by_cases h:n=i
   · subst h
     rw [if_pos rfl,if_pos (by omega)]
     rfl
   · rw [if_neg h]
     by_cases q:i<n
     · rw [if_pos q,if_pos (by omega)]
     · rw [if_neg q,if_neg (by omega)]
theorem QCf {p:Prg} {v0:Int} (h:6≤s.count):Zo p ⟨s,v0,0,t⟩ g x=⟨s,v0,8,t⟩:=if_pos h
theorem QCg {p:Prg} {v0:Int} (h:¬6≤s.count):Zo p ⟨s,v0,0,t⟩ g x=⟨Stt.setReg ⟨s.vars,s.owner,s.chans,s.gos.set s.count.toNat (yV s g x (p.fn x.b).params.toNat),s.count+1⟩ g x.a s.count,s.count,0,t⟩:=if_neg h
end
section
variable {p:Prg} {s:Stt} {g:Int}
def NextOk (s:Stt) (d:Did) (nx md:Int):Prop:=d.why=0→0≤d.to_→nx=d.to_∧md=if s.count<d.s.count then s.count else -1
theorem NextOk.same {d:Did} {nx:Int} (hc:d.s.count=s.count) (ht:d.why=0→0≤d.to_→nx=d.to_):NextOk s d nx (-1):=fun h1 h2=>⟨ht h1 h2,by rw [hc,if_neg (by omega)]⟩
theorem NextOk.vars {t:Int} {x:Instr}:NextOk s (ZB ⟨s,0,0,t⟩ g x) t (-1):=by
 refine NextOk.same (qa _ _ _) fun _ _=>?_
 unfold ZB
 (repeat' split)<;>rfl
theorem NextOk.send {t v0 c v:Int}:NextOk s (YD p ⟨s,v0,0,t⟩ g c v) t (-1):=by
 refine NextOk.same (VG p _ g c v).count fun h1 h2=>?_
 unfold YD at h1 h2 ⊢
 simp only at h1 h2 ⊢
 split
 · rfl
 · rename_i q
   rw [if_neg q] at h2
   split
   · rfl
   · rename_i q2
     rw [if_neg q2] at h2
     simp at h2
theorem NextOk.recv {t v0 c r ok:Int}:NextOk s (YX ⟨s,v0,0,t⟩ g c r ok) t (-1):=by
 refine NextOk.same (VH _ g c r ok).count fun _ _=>?_
 unfold YX
 simp only
 (repeat' split)<;>rfl
theorem NextOk.close {t v0 c:Int}:NextOk s (Zu ⟨s,v0,0,t⟩ c) t (-1):=by
 refine NextOk.same (qb _ c).count fun _ _=>?_
 unfold Zu
 simp only
 (repeat' split)<;>rfl
theorem NextOk.taken {t v0 c:Int}:NextOk s (YN ⟨s,v0,0,t⟩ g c) t (-1):=NextOk.same rfl fun _ _=>rfl
theorem NextOk.spawn {t:Int} {x:Instr}:NextOk s (Zo p ⟨s,0,0,t⟩ g x) t (if s.count=6 then -1 else s.count):=by
 by_cases h:6≤s.count
 · rw [QCf h];intro h1;exact absurd h1 (show ¬(8:Int)=0 by decide)
 · rw [QCg h]
   intro _ _
   have e:(Stt.setReg ⟨s.vars,s.owner,s.chans,s.gos.set s.count.toNat (yV s g x (p.fn x.b).params.toNat),s.count+1⟩ g x.a s.count).count=s.count+1:=ZZ _ _ _ _
   refine ⟨rfl,?_⟩
   show _=if s.count<(Stt.setReg _ g x.a s.count).count then _ else _
   rw [e,if_neg (by omega),if_pos (by omega)]
theorem NextOk.sel {q:Sel} {alt:Int}:NextOk s (yy p s g q alt) (if alt=q.cases.length then q.els else (q.cases.getD alt.toNat default).to_) (-1):=by
 unfold yy
 split
 · exact NextOk.same rfl fun _ _=>rfl
 · split
   · exact NextOk.send
   · exact NextOk.recv
section
variable {alt:Int}
theorem QJ9 (h:QK p s g=58):QG p s g alt=YD p ⟨s,0,0,(s.gor g).pc+1⟩ g (QA p s g).a (XF s g (QA p s g).b):=(if_neg (by omega)).trans (if_pos h)
theorem QJ8 (h:QK p s g=59):QG p s g alt=YX ⟨s,0,0,(s.gor g).pc+1⟩ g (QA p s g).b (QA p s g).a (QA p s g).c:=(if_neg (by omega)).trans ((if_neg (by omega)).trans (if_pos h))
theorem QJ3 (h:QK p s g=66):QG p s g alt=YN ⟨s,0,0,(s.gor g).pc+1⟩ g (QA p s g).a:=if_pos h
theorem QJ7 (h:QK p s g=60):QG p s g alt=Zu ⟨s,0,0,(s.gor g).pc+1⟩ (QA p s g).a:=(if_neg (by omega)).trans ((if_neg (by omega)).trans ((if_neg (by omega)).trans (if_pos h)))
theorem QJ5 (h:QK p s g=62):QG p s g alt=Zo p ⟨s,0,0,(s.gor g).pc+1⟩ g (QA p s g):=(if_neg (by omega)).trans ((if_neg (by omega)).trans ((if_neg (by omega)).trans ((if_neg (by omega)).trans (if_pos h))))
theorem QEr (h:QK p s g=63):QG p s g alt=if XF s g (QA p s g).a<0∨s.count≤XF s g (QA p s g).a∨XF s g (QA p s g).a=g then ⟨s,0,7,(s.gor g).pc+1⟩ else ⟨s,XF s g (QA p s g).a,0,(s.gor g).pc+1⟩:=(if_neg (by omega)).trans ((if_neg (by omega)).trans ((if_neg (by omega)).trans ((if_neg (by omega)).trans ((if_neg (by omega)).trans (if_pos h)))))
theorem QJ4 (h:QK p s g=65):QG p s g alt=⟨s,XF s g (QA p s g).a,0,(s.gor g).pc+1⟩:=(if_neg (by omega)).trans ((if_neg (by omega)).trans ((if_neg (by omega)).trans ((if_neg (by omega)).trans ((if_neg (by omega)).trans ((if_neg (by omega)).trans (if_pos h))))))
theorem QJ6 (h:QK p s g=61):QG p s g alt=yy p s g (Qw p s g) alt:=(if_neg (by omega)).trans ((if_neg (by omega)).trans ((if_neg (by omega)).trans ((if_neg (by omega)).trans ((if_neg (by omega)).trans ((if_neg (by omega)).trans ((if_neg (by omega)).trans (if_pos h)))))))
theorem QHR (h:QK p s g≠66∧QK p s g≠58∧QK p s g≠59∧QK p s g≠60∧QK p s g≠62∧QK p s g≠63∧QK p s g≠65∧QK p s g≠61):QG p s g alt=ZB ⟨s,0,0,(s.gor g).pc+1⟩ g (QA p s g):=(if_neg h.1).trans ((if_neg h.2.1).trans ((if_neg h.2.2.1).trans ((if_neg h.2.2.2.1).trans ((if_neg h.2.2.2.2.1).trans ((if_neg h.2.2.2.2.2.1).trans ((if_neg h.2.2.2.2.2.2.1).trans (if_neg h.2.2.2.2.2.2.2)))))))
end
theorem QEw {k:Int} (h:Xw s g k=false):k<0∨s.count≤k∨k=g:=by
 unfold Xw at h
 simp at h
 omega
theorem QGL {k:Int} (h:Xw s g k=true):¬(k<0∨s.count≤k∨k=g):=by
 unfold Xw at h
 simp at h
 omega
theorem QF5 (h:QK p s g≠66):atI p s g=QA p s g:=by
 have e:QK p s g=(QA p s g).op:=by
  unfold QK at h ⊢
  split
  · rename_i q;rw [if_pos q] at h;exact absurd rfl h
  · rfl
 unfold atI
 rw [e]
theorem QBV (h:QK p s g≠66) {d:Did}:ZB d g (atI p s g)=ZB d g (QA p s g):=by rw [QF5 h]
theorem QMT (hok:p.Ok) (hw:Wf p s) (hg:0≤g∧g<s.count):VarsIn (atI p s g):=by
 have hrt:Qb p (p.funcs.getD (s.gos.getD g.toNat default).func.toNat default) (QA p s g)=0:=hw.right hok hg.1 hg.2
 have hrg:=hok.regs (s.gos.getD g.toNat default).func.toNat
 have hsz:=hok.sizes
 unfold Zz at hsz
 have key:∀ k:Int,(atI p s g).op=k→k≠66→(QA p s g).op=k:=fun k h hk=>hw.op_at hok hg.1 hg.2 h hk
 refine ⟨fun h=>?_,fun h=>?_,fun h=>?_,fun h=>?_,fun h=>?_,fun h=>?_,fun h=>?_⟩
 · have:=QCY hrt (key 50 h (by decide));show (QA p s g).a<8∧0≤(QA p s g).b∧(QA p s g).b<8;omega
 · have:=QCX hrt (key 51 h (by decide));show (0≤(QA p s g).a∧(QA p s g).a<8)∧0≤(QA p s g).b∧(QA p s g).b<8;omega
 · have:=QCW hrt (key 52 h (by decide));show (QA p s g).a<8∧(0≤(QA p s g).b∧(QA p s g).b<8)∧0≤(QA p s g).c∧(QA p s g).c<8;omega
 · have:=QCV hrt (key 53 h (by decide));show (QA p s g).a<8∧(0≤(QA p s g).b∧(QA p s g).b<8)∧(0≤(QA p s g).c∧(QA p s g).c<8)∧0≤(QA p s g).n∧(QA p s g).n<8;omega
 · have:=QAP hrt (key 54 h (by decide));show 0≤(QA p s g).b∧(QA p s g).b<8;omega
 · have:=yd hrt (h.imp (fun q=>key 55 q (by decide)) (fun q=>key 56 q (by decide)));show 0≤(QA p s g).a∧(QA p s g).a<4;omega
 · have:=QCU hrt (key 57 h (by decide));show (QA p s g).a<8∧0≤(QA p s g).b∧(QA p s g).b<4;omega
theorem QL4 (hok:p.Ok) (hv:Vld p s):QIQ p s:=fun c hc=>⟨(hv.chans c hc).len,(hok.caps c).2,(hv.chans c hc).buf⟩
theorem QPq (hok:p.Ok) {f a:Nat} (hf:f<p.funcs.length) (ha:a<(p.funcs.getD f default).sels.length):QPQ p ((p.funcs.getD f default).sels.getD a default):=fun k hk=>by
 have h:=Vb hok hf ha hk
 have hr:=hok.regs f
 refine ⟨h.chan,?_,fun hs=>?_,h.to_.1⟩
 · rcases h.reg with q|q<;>omega
 · rcases h.reg with q|q
   · exact q.1
   · rw [q.1] at hs;cases hs
theorem QKO (hok:p.Ok) (hw:Wf p s) (hg:0≤g∧g<s.count) (h:QK p s g=62):(QA p s g).a<8∧(0≤(QA p s g).b∧(QA p s g).b<p.funcs.length)∧0≤(p.fn (QA p s g).b).params∧(0<(p.fn (QA p s g).b).params→0≤(QA p s g).c∧(QA p s g).c+(p.fn (QA p s g).b).params≤8)∧(p.fn (QA p s g).b).params≤8:=by
 have hrt:Qb p (p.funcs.getD (s.gos.getD g.toNat default).func.toNat default) (QA p s g)=0:=hw.right hok hg.1 hg.2
 have hrg:=hok.regs (s.gos.getD g.toNat default).func.toNat
 have hI:=QHS hrt (hw.op_at hok hg.1 hg.2 h (by decide))
 have hp:=hok.params (QA p s g).b.toNat
 have hr2:=hok.regs (QA p s g).b.toNat
 have e:p.fn (QA p s g).b=p.funcs.getD (QA p s g).b.toNat default:=rfl
 rw [e] at hI ⊢
 refine ⟨by omega,hI.2.1,hp.1,fun h0=>?_,by omega⟩
 have h1:=hI.2.2.2 h0
 unfold w64 at h1
 rw [Qm (by omega) (by omega)] at h1
 omega
theorem QRN (hok:p.Ok) {f a:Nat} (hf:f<p.funcs.length) (ha:a<(p.funcs.getD f default).sels.length) (h:((p.funcs.getD f default).sels.getD a default).els ≠ -1):0≤((p.funcs.getD f default).sels.getD a default).els:=by
 rcases QH9 hok hf ha with q|q
 · exact absurd q h
 · exact q.1
theorem QRe {alt:Int} (ha:alt∈Qn p s g) (h:QK p s g=61):(0≤alt∧alt≤((Qw p s g).cases.length:Int))∧(alt<((Qw p s g).cases.length:Int)→XQ p s ((Qw p s g).cases.getD alt.toNat default)=true)∧(alt=((Qw p s g).cases.length:Int)→(Qw p s g).els ≠ -1):=by
 have hl:=Zm ha
 unfold Qn at ha
 rw [if_pos hl,if_pos h] at ha
 simp only at ha
 split at ha
 · rename_i q
   rcases List.mem_append.1 ha with m|m
   · obtain ⟨k,rfl,hk,hc⟩:=UT m
     refine ⟨by omega,fun _=>by simpa using hc,fun e=>by omega⟩
   · simp only [List.mem_singleton] at m
     exact ⟨by omega,fun e=>by omega,fun _=>q.2⟩
 · obtain ⟨k,rfl,hk,hc⟩:=UT ha
   exact ⟨by omega,fun _=>by simpa using hc,fun e=>by omega⟩
end
theorem QNS {l:List Int} {v:Int} {i:Nat} (hi:i<l.length) (h:v=l.getD i 0) (hb:∀ j,j<i→¬v=l.getD j 0):(i:Int)=if v∈l then ((l.findIdx fun y=>decide (v=y):Nat):Int) else -1:=by
 have hm:v∈l:=by
  rw [h,List.getD_eq_getElem?_getD,List.getElem?_eq_getElem hi]
  exact List.getElem_mem hi
 rw [if_pos hm]
 congr 1
 symm
 rw [List.findIdx_eq hi]
 constructor
 · rw [decide_eq_true_eq,h,List.getD_eq_getElem?_getD,List.getElem?_eq_getElem hi];rfl
 · intro j hj
   rw [decide_eq_false_iff_not]
   have:=hb j hj
   rw [List.getD_eq_getElem?_getD,List.getElem?_eq_getElem (by omega)] at this
   exact this
theorem QLd {l:List Int} {v:Int} (hb:∀ j,j<l.length→¬v=l.getD j 0):(-1:Int)=if v∈l then ((l.findIdx fun y=>decide (v=y):Nat):Int) else -1:=by
 rw [if_neg]
 intro hm
 obtain ⟨j,hj,e⟩:=List.getElem_of_mem hm
 refine hb j hj ?_
 rw [List.getD_eq_getElem?_getD,List.getElem?_eq_getElem hj]
 exact e.symm
def doV (p:Prg) (s:Stt) (x:Pck) (fuel:Int):Stt × Event × Int:=if Wh p s≠0 then (zeroStt,zeroEvent,Wh p s) else YO QB p s x fuel
def pcS (s:Stt) (g nx:Int):Stt:=⟨s.vars,s.owner,s.chans,s.gos.set g.toNat ⟨(s.gos.getD g.toNat default).status,(s.gos.getD g.toNat default).func,nx,(s.gos.getD g.toNat default).why,(s.gos.getD g.toNat default).regs⟩,s.count⟩
theorem QGi {p:Prg} (hr:QN p=true) (hok:p.Ok) {s:Stt} (hv:Vld p s) {x:Pck} (ha:x.alt∈Qn p s x.go) {fuel:Int} (hf:0≤fuel∧fuel≤4096) {nx md:Int} (hn:NextOk s (QG p s x.go x.alt) nx md) :
 ∃ (ms:Stt) (mv:Int) (mo:Bool),machD p x.go fuel (QG p s x.go x.alt)=machV p ms x.go fuel mv mo∧ms.gos.length=6∧(mo=true→take QB p s x fuel=(ms,event p s x mv)) ∧
   (mo=false→(pcS ms x.go nx).Shape∧(QZ QB p (pcS ms x.go nx) x.go fuel).1.Shape∧take QB p s x fuel=(if 0≤md then (QZ QB p (QZ QB p (pcS ms x.go nx) x.go fuel).1 md fuel).1 else (QZ QB p (pcS ms x.go nx) x.go fuel).1,event p s x mv)):=by
 have hg:=(live_iff.1 (Zm ha)).1
 have hd:=yv hok hr hv ha
 have ht:take QB p s x fuel=(let d:=QG p s x.go x.alt
  if d.why≠0 then (QDD d.s x.go d.why,event p s x 0)
  else if d.to_<0 then (d.s,event p s x d.val)
  else (if s.count<(QZ QB p (pcS d.s x.go d.to_) x.go fuel).1.count then (QZ QB p (QZ QB p (pcS d.s x.go d.to_) x.go fuel).1 s.count fuel).1 else (QZ QB p (pcS d.s x.go d.to_) x.go fuel).1,event p s x d.val)):=rfl
 rw [ht]
 generalize QG p s x.go x.alt=d at *
 simp only
 have hsh:=hd.vld.shape
 by_cases hw:d.why=0
 · by_cases h0:0≤d.to_
   · obtain ⟨rfl,hmd⟩:=hn hw h0
     refine ⟨d.s,d.val,false,machD.ok hw h0,hsh.gos,fun h=>(by cases h),fun _=>?_⟩
     have hvA:Vld p (pcS d.s x.go d.to_):=zy hg hd hw h0
     have hgA:0≤x.go∧x.go<(pcS d.s x.go d.to_).count:=⟨hg.1,by have:=hd.cnt;show x.go<d.s.count;omega⟩
     have hS:=yD Zd hr hok hvA hgA hf
     have hK:=(xd (apply:=QB) hr hok hvA hgA hf).2.2.2.1
     refine ⟨hvA.shape,hS.shape,?_⟩
     rw [if_neg (fun q=>q hw),if_neg (by omega),hK]
     have e:(pcS d.s x.go d.to_).count=d.s.count:=rfl
     rw [e]
     by_cases hc:s.count<d.s.count
     · rw [if_pos hc] at hmd
       subst hmd
       rw [if_pos hc,if_pos (by have:=hv.count;omega)]
     · rw [if_neg hc] at hmd
       subst hmd
       rw [if_neg hc,if_neg (by decide)]
   · refine ⟨d.s,d.val,true,machD.over hw (by omega),hsh.gos,fun _=>?_,fun h=>(by cases h)⟩
     rw [if_neg (fun q=>q hw),if_pos (by omega)]
 · refine ⟨QDD d.s x.go d.why,0,true,machD.fail hw,(by show (d.s.gos.set _ _).length=6;rw [List.length_set];exact hsh.gos),fun _=>?_,fun h=>(by cases h)⟩
   rw [if_pos hw]
theorem QNc {p:Prg} {s:Stt} {x:Pck} {fuel:Int} (h:¬Wh p s=0):doV p s x fuel=(zeroStt,zeroEvent,Wh p s):=if_pos h
theorem QLt {p:Prg} {s:Stt} {x:Pck} {fuel:Int} (h:Wh p s=0) (hf:fuel<0∨4096<fuel):doV p s x fuel=(zeroStt,zeroEvent,1):=(if_neg (fun q=>q h)).trans (if_pos hf)
theorem wA {p:Prg} {s:Stt} {x:Pck} {fuel:Int} (h:Wh p s=0) (hf:¬(fuel<0∨4096<fuel)) (ha:¬x.alt∈Qn p s x.go):doV p s x fuel=(zeroStt,zeroEvent,5):=(if_neg (fun q=>q h)).trans ((if_neg hf).trans (if_pos (decide_eq_false ha)))
theorem Wd {p:Prg} {s:Stt} {x:Pck} {fuel:Int} (h:Wh p s=0) (hf:¬(fuel<0∨4096<fuel)) (ha:x.alt∈Qn p s x.go):doV p s x fuel=((take QB p s x fuel).1,(take QB p s x fuel).2,0):=(if_neg (fun q=>q h)).trans ((if_neg hf).trans (if_neg (by unfold has;rw [decide_eq_true ha];decide)))
theorem QDX {p:Prg} {s:Stt} (hv:Vld p s) {g a:Int} (h:(g<0∨6≤g)∨V1 s g=false):¬a∈Qn p s g:=by
 intro ha
 have hl:=Zm ha
 have h1:=live_iff.1 hl
 have hc:=hv.count
 rcases h with h|h
 · omega
 · rw [← Wp hv (by omega) (by omega),hl] at h
   cases h
theorem Yd {g:Int} (h:(decide (g<0)||decide (6≤g))=false):0≤g∧g<6:=by simp at h;omega
theorem QNU {g:Int} (h:(decide (g<0)||decide (6≤g))=true):g<0∨6≤g:=by simpa using h
theorem W7 (k n:Int) (w:Bool):∀ l:List Access,(add k n w l).length≤l.length+1
 | []=>by simp [add]
 | x::l=>by
   unfold add
   split
   · simp
   · split
     · simp
     · have:=W7 k n w l
       simp only [List.length_cons];omega
theorem Access.put2 (x:Access) (b:Bool):V.setSub x.v 2 (.bool b)=Access.v ⟨x.kind,x.num,b⟩:=rfl
theorem Event.put6 (e:Event) (x:Int):V.setSub e.v 6 (.int x)=Event.v ⟨e.go,e.func,e.pc,e.op,e.alt,e.val,x,e.touch,e.touches⟩:=rfl
theorem Event.put7 (e:Event) (x:List Access):V.setSub e.v 7 (.agg (x.map Access.v))=Event.v ⟨e.go,e.func,e.pc,e.op,e.alt,e.val,e.tag,x,e.touches⟩:=rfl
theorem Event.put8 (e:Event) (x:Int):V.setSub e.v 8 (.int x)=Event.v ⟨e.go,e.func,e.pc,e.op,e.alt,e.val,e.tag,e.touch,x⟩:=rfl
theorem Event.put0 (e:Event) (x:Int):V.setSub e.v 0 (.int x)=Event.v ⟨x,e.func,e.pc,e.op,e.alt,e.val,e.tag,e.touch,e.touches⟩:=rfl
theorem Event.put1 (e:Event) (x:Int):V.setSub e.v 1 (.int x)=Event.v ⟨e.go,x,e.pc,e.op,e.alt,e.val,e.tag,e.touch,e.touches⟩:=rfl
theorem Event.put2 (e:Event) (x:Int):V.setSub e.v 2 (.int x)=Event.v ⟨e.go,e.func,x,e.op,e.alt,e.val,e.tag,e.touch,e.touches⟩:=rfl
theorem Event.put3 (e:Event) (x:Int):V.setSub e.v 3 (.int x)=Event.v ⟨e.go,e.func,e.pc,x,e.alt,e.val,e.tag,e.touch,e.touches⟩:=rfl
theorem Event.put4 (e:Event) (x:Int):V.setSub e.v 4 (.int x)=Event.v ⟨e.go,e.func,e.pc,e.op,x,e.val,e.tag,e.touch,e.touches⟩:=rfl
theorem Event.put5 (e:Event) (x:Int):V.setSub e.v 5 (.int x)=Event.v ⟨e.go,e.func,e.pc,e.op,e.alt,x,e.tag,e.touch,e.touches⟩:=rfl
theorem Event.at3 (e:Event) (d:V):e.v.toList.getD 3 d=.int e.op:=rfl
theorem QAs (l:List Access) (i:Nat) (x:Access):(l.map Access.v).set i x.v=(l.set i x).map Access.v:=(List.map_set ..).symm
attribute [go_sem] Access.put2 Event.put0 Event.put1 Event.put2 Event.put3 Event.put4 Event.put5 Event.put6 Event.put7 Event.put8 Event.at3 QAs
def U7 (a b:Access):Prop:=a.kind<b.kind∨a.kind=b.kind∧a.num<b.num
theorem QBt (k n:Int) (w:Bool):∀ {l:List Access} {y:Access},y∈add k n w l→(∃ x∈l,x.kind=y.kind∧x.num=y.num)∨(y.kind=k∧y.num=n)
 | [],y,h=>by
   simp only [add,List.mem_cons,List.not_mem_nil,or_false] at h
   subst h;exact .inr ⟨rfl,rfl⟩
 | x::l,y,h=>by
   unfold add at h
   split at h
   · rcases List.mem_cons.1 h with rfl|h
     · exact .inl ⟨x,by simp,rfl,rfl⟩
     · exact .inl ⟨y,by simp [h],rfl,rfl⟩
   · split at h
     · rcases List.mem_cons.1 h with rfl|h
       · exact .inr ⟨rfl,rfl⟩
       · exact .inl ⟨y,h,rfl,rfl⟩
     · rcases List.mem_cons.1 h with rfl|h
       · exact .inl ⟨y,by simp,rfl,rfl⟩
       · rcases QBt k n w h with ⟨x',hx,e⟩|e
         · exact .inl ⟨x',by simp [hx],e⟩
         · exact .inr e
theorem xN (k n:Int) (w:Bool):∀ {l:List Access},l.Pairwise U7→(add k n w l).Pairwise U7
 | [],_=>by simp [add]
 | x::l,h=>by
   obtain ⟨h1,h2⟩:=List.pairwise_cons.1 h
   unfold add
   split
   · exact List.pairwise_cons.2 ⟨fun y hy=>by have:=h1 y hy;unfold U7 at this ⊢;exact this,h2⟩
   · rename_i hne
     split
     · rename_i hlt
       refine List.pairwise_cons.2 ⟨fun y hy=>?_,h⟩
       rcases List.mem_cons.1 hy with rfl|hy
       · unfold U7;simp only;omega
       · have:=h1 y hy;unfold U7 at this ⊢;simp only;omega
     · rename_i hnl
       refine List.pairwise_cons.2 ⟨fun y hy=>?_,xN k n w h2⟩
       rcases QBt k n w hy with ⟨x',hx,e1,e2⟩|⟨e1,e2⟩
       · have:=h1 x' hx;unfold U7 at this ⊢;omega
       · unfold U7;omega
end Go.Eng
