/- A part of the proof: walks through the program's functions, and what they compute. -/
import Derived.Test.YtedceinkpkoncaaGreatDoorPk20
import Derived.Lib.Mul64
import Derived.Test.YtedceinkpkoncaaGreatDoorPk11
set_option linter.unusedSimpArgs false
set_option linter.unusedVariables false
namespace Go.Eng
theorem shrN (x m:Nat):((x:Int)).fdiv (2^m)=((x / 2^m:Nat):Int):=by
 rw [Int.fdiv_eq_ediv_of_nonneg _ (Int.le_of_lt (Int.pow_pos (by decide)))]
 simp
theorem wrapN {x:Nat} (h:x<18446744073709551616):IntKind.u64.wrap (x:Int)=(x:Int):=by rw [u64_emod];omega
theorem wrapM (x:Nat):IntKind.u64.wrap (x:Int)=((x % 18446744073709551616:Nat):Int):=by rw [u64_emod];omega
theorem addN (x y:Nat):(x:Int)+(y:Int)=((x+y:Nat):Int):=(Int.natCast_add x y).symm
theorem mulN (x y:Nat):(x:Int)*(y:Int)=((x*y:Nat):Int):=(Int.natCast_mul x y).symm
theorem andN {x y:Nat} (hx:x<18446744073709551616) (hy:y<18446744073709551616):IntKind.u64.wrap ((BitVec.ofInt 64 (x:Int) &&& BitVec.ofNat 64 y).toNat:Int)=((x &&& y:Nat):Int):=by
 rw [BitVec.ofInt_natCast,BitVec.toNat_and,BitVec.toNat_ofNat,BitVec.toNat_ofNat,Nat.mod_eq_of_lt hx,Nat.mod_eq_of_lt hy]
 exact wrapN (Nat.lt_of_le_of_lt Nat.and_le_left hx)
theorem lowN {x:Nat} (hx:x<18446744073709551616):IntKind.u64.wrap ((BitVec.ofInt 64 (x:Int) &&& 4294967295#64).toNat:Int)=((x % 4294967296:Nat):Int):=by
 rw [andN hx (by decide),show (4294967295:Nat)=2^32-1 from rfl,Nat.and_two_pow_sub_one_eq_mod]
theorem lenN_32 {x:Nat} (h:4294967296≤x):lenN x=lenN (x / 4294967296)+32:=by
 have e:(2:Nat)^32=4294967296:=by decide
 have:=lenN_shift (x:=x) (k:=32) (by rw [e];exact h)
 rw [e] at this
 exact this
theorem lenN_16 {x:Nat} (h:65536≤x):lenN x=lenN (x / 65536)+16:=by
 have e:(2:Nat)^16=65536:=by decide
 have:=lenN_shift (x:=x) (k:=16) (by rw [e];exact h)
 rw [e] at this
 exact this
theorem lenN_8 {x:Nat} (h:256≤x):lenN x=lenN (x / 256)+8:=lenN_shift (x:=x) (k:=8) h
theorem f32 (x:Nat):(x:Int).fdiv 4294967296=((x / 4294967296:Nat):Int):=shrN x 32
theorem f32' (x:Nat):(x:Int).fdiv (2^min 32 64)=((x / 4294967296:Nat):Int):=shrN x 32
theorem f16' (x:Nat):(x:Int).fdiv (2^min 16 64)=((x / 65536:Nat):Int):=shrN x 16
theorem f8' (x:Nat):(x:Int).fdiv (2^min 8 64)=((x / 256:Nat):Int):=shrN x 8
theorem u8_emod (x:Int):IntKind.u8.wrap x=x % 256:=by simp [IntKind.wrap,IntKind.signed,IntKind.bits]
theorem u8_range {n:Nat} (hn:n=256) (x:Int):0≤IntKind.u8.wrap x∧IntKind.u8.wrap x<(n:Int):=by rw [u8_emod];omega
theorem u8_at {x:Nat} (h:x<256):(IntKind.u8.wrap (x:Int)).toNat=x:=by rw [u8_emod];omega
theorem w48:IntKind.i64.wrap 48=48:=by decide
theorem w40:IntKind.i64.wrap 40=40:=by decide
theorem w56:IntKind.i64.wrap 56=56:=by decide
theorem w24:IntKind.i64.wrap 24=24:=by decide
theorem w16:IntKind.i64.wrap 16=16:=by decide
theorem w8:IntKind.i64.wrap 8=8:=by decide
theorem ctz_le {x:Nat} (h:x<18446744073709551616):Lib.ctz 64 x≤64:=by
 unfold Lib.ctz
 split
 · omega
 · next h0 =>
   obtain ⟨m,_,hc⟩:=Lib.ctzFrom_spec 64 x (Nat.pos_of_ne_zero h0) h
   omega
def onesA (x:Nat):Nat:=(x / 2 &&& repB 0x55 8)+(x &&& repB 0x55 8)
def onesB (x:Nat):Nat:=(x / 4 &&& repB 0x33 8)+(x &&& repB 0x33 8)
def onesC (x:Nat):Nat:=(x / 16+x) &&& repB 0x0f 8
def onesD (k x:Nat):Nat:=(x+x / 2^k) % 18446744073709551616
def onesN (x:Nat):Nat:=onesD 32 (onesD 16 (onesD 8 (onesC (onesB (onesA x))))) % 128
theorem onesN_eq (a:Int):upto (onesR a) 0 64=(onesN (BitVec.ofInt 64 a).toNat:Int):=ones_swar a
theorem onesA_lt (x:Nat):onesA x<18446744073709551616:=by
 have h1:x / 2 &&& repB 0x55 8≤repB 0x55 8:=Nat.and_le_right
 have h2:x &&& repB 0x55 8≤repB 0x55 8:=Nat.and_le_right
 have h3:repB 0x55 8=6148914691236517205:=rfl
 unfold onesA;omega
theorem onesB_lt (x:Nat):onesB x<7378697629483820647:=by
 have h1:x / 4 &&& repB 0x33 8≤repB 0x33 8:=Nat.and_le_right
 have h2:x &&& repB 0x33 8≤repB 0x33 8:=Nat.and_le_right
 have h3:repB 0x33 8=3689348814741910323:=rfl
 unfold onesB;omega
def oA (x:Int):Int:=IntKind.u64.wrap (IntKind.u64.wrap ((BitVec.ofInt 64 (x.fdiv (2^min 1 64)) &&& 6148914691236517205#64).toNat:Int)+IntKind.u64.wrap ((BitVec.ofInt 64 x &&& 6148914691236517205#64).toNat:Int))
def oB (x:Int):Int:=IntKind.u64.wrap (IntKind.u64.wrap ((BitVec.ofInt 64 (x.fdiv (2^min 2 64)) &&& 3689348814741910323#64).toNat:Int)+IntKind.u64.wrap ((BitVec.ofInt 64 x &&& 3689348814741910323#64).toNat:Int))
def oC (x:Int):Int:=IntKind.u64.wrap ((BitVec.ofInt 64 (IntKind.u64.wrap (x.fdiv (2^min 4 64)+x)) &&& 1085102592571150095#64).toNat:Int)
def oD (k:Nat) (x:Int):Int:=IntKind.u64.wrap (x+x.fdiv (2^min k 64))
def oE (x:Int):Int:=IntKind.i64.wrap ((BitVec.ofInt 64 (IntKind.i64.wrap x) &&& 127#64).toNat:Int)
theorem onesA_w {x:Nat} (h:x<18446744073709551616):oA (x:Int)=(onesA x:Int):=by
 unfold oA
 rw [shrN,andN (by show x / 2<_;omega) (by decide),andN h (by decide),addN]
 exact wrapN (onesA_lt x)
theorem onesB_w {x:Nat} (h:x<18446744073709551616):oB (x:Int)=(onesB x:Int):=by
 unfold oB
 rw [shrN,andN (by show x / 4<_;omega) (by decide),andN h (by decide),addN]
 exact wrapN (by have:=onesB_lt x;unfold onesB at this;exact Nat.lt_trans this (by decide))
theorem onesC_w {x:Nat} (h:x<7378697629483820647):oC (x:Int)=(onesC x:Int):=by
 unfold oC
 have e:=wrapN (x:=x / 2^min 4 64+x) (by show x / 16+x<_;omega)
 rw [shrN,addN,e]
 exact andN (x:=x / 16+x) (y:=1085102592571150095) (by omega) (by decide)
theorem onesD_w (x k:Nat) (hk:k≤64):oD k (x:Int)=(onesD k x:Int):=by
 unfold oD
 rw [Nat.min_eq_left hk,shrN,addN,wrapM];rfl
theorem ones_low (x:Nat) (hx:x<18446744073709551616):oE (x:Int)=((x % 128:Nat):Int):=by
 unfold oE
 rw [BW_wrap,BitVec.ofInt_natCast,BitVec.toNat_and,BitVec.toNat_ofNat,Nat.mod_eq_of_lt hx,show (127#64).toNat=2^7-1 from rfl,Nat.and_two_pow_sub_one_eq_mod]
 exact i64_ok (by omega) (by omega)
theorem onesD_lt (k x:Nat):onesD k x<18446744073709551616:=Nat.mod_lt _ (by decide)
theorem ones_form {n:Nat} (hn:n<18446744073709551616):oE (oD 32 (oD 16 (oD 8 (oC (oB (oA (n:Int)))))))=(onesN n:Int):=by
 rw [onesA_w hn,onesB_w (onesA_lt n),onesC_w (onesB_lt _),onesD_w _ 8 (by decide),onesD_w _ 16 (by decide),onesD_w _ 32 (by decide),ones_low _ (onesD_lt _ _)]
 rfl
def lo32 (x:Int):Int:=IntKind.u64.wrap ((BitVec.ofInt 64 x &&& 4294967295#64).toNat:Int)
def hi32 (x:Int):Int:=x.fdiv (2^min 32 64)
def mulT (x y:Int):Int:=IntKind.u64.wrap (IntKind.u64.wrap (hi32 x*lo32 y)+hi32 (IntKind.u64.wrap (lo32 x*lo32 y)))
def mulHi (x y:Int):Int:=IntKind.u64.wrap (IntKind.u64.wrap (IntKind.u64.wrap (hi32 x*hi32 y)+hi32 (mulT x y))+hi32 (IntKind.u64.wrap (lo32 (mulT x y)+IntKind.u64.wrap (lo32 x*hi32 y))))
theorem mulHi_eq {x y:Nat} (hx:x<18446744073709551616) (hy:y<18446744073709551616):mulHi x y=((x*y / 18446744073709551616:Nat):Int):=by
 obtain ⟨bd,bt,bw,hhi⟩:=Lib.mul64_hi x y hx hy
 have bb:=Lib.half_mul_le (a:=x / 4294967296) (b:=y % 4294967296) (by omega) (by omega)
 have bc:=Lib.half_mul_le (a:=x % 4294967296) (b:=y / 4294967296) (by omega) (by omega)
 have ba:=Lib.half_mul_le (a:=x / 4294967296) (b:=y / 4294967296) (by omega) (by omega)
 have ba':x / 4294967296*(y / 4294967296)<18446744073709551616:=by omega
 have bb':x / 4294967296*(y % 4294967296)<18446744073709551616:=by omega
 have bc':x % 4294967296*(y / 4294967296)<18446744073709551616:=by omega
 have hq:x*y / 18446744073709551616<18446744073709551616:=by
  have:=Nat.mul_le_mul (show x≤18446744073709551615 by omega) (show y≤18446744073709551615 by omega)
  omega
 have hh:∀ z:Nat,hi32 (z:Int)=((z / 4294967296:Nat):Int):=fun z=>shrN z 32
 have hl:∀ z:Nat,z<18446744073709551616→lo32 (z:Int)=((z % 4294967296:Nat):Int):=fun z hz=>lowN hz
 have hT:mulT x y=((x / 4294967296*(y % 4294967296)+x % 4294967296*(y % 4294967296) / 4294967296:Nat):Int):=by
  unfold mulT
  rw [hl x hx,hl y hy,hh x,mulN,mulN,wrapN bb',wrapN bd,hh,addN,wrapN bt]
 unfold mulHi
 rw [hT,hl _ bt,hl x hx,hh x,hh y,hh,mulN,mulN,wrapN bc',addN,wrapN bw,hh,wrapN ba',addN,wrapN (by omega),addN,hhi,wrapN hq]
def rotE (x k:Int):Int:=IntKind.u64.wrap ((BitVec.ofInt 64 (IntKind.u64.wrap (x*2^min k.toNat 64)) ||| BitVec.ofInt 64 (x.fdiv (2^min (64-k).toNat 64))).toNat:Int)
theorem and63 (b:Int):(BitVec.ofInt 64 b &&& 63#64).toNat=(b % 64).toNat:=by
 rw [BitVec.toNat_and,BitVec.toNat_ofInt,show (63#64).toNat=2^6-1 from rfl,Nat.and_two_pow_sub_one_eq_mod]
 omega
theorem mask63 {k:Int} (h:0≤k∧k<64):IntKind.u64.wrap ((BitVec.ofInt 64 (IntKind.u64.wrap k) &&& 63#64).toNat:Int)=k:=by
 rw [BW_wrapu,and63,u64_emod];omega
theorem low63 (b:Int):IntKind.i64.wrap ((BitVec.ofInt 64 b &&& 63#64).toNat:Int)=b % 64:=by
 rw [and63,i64_ok (by omega) (by omega)];omega
theorem rotE_eq {x k:Int} (h:0≤k∧k<64):IntKind.u64.wrap ((BitVec.ofInt 64 (IntKind.u64.wrap (x*2^min (IntKind.u64.wrap ((BitVec.ofInt 64 (IntKind.u64.wrap k) &&& 63#64).toNat:Int)).toNat 64)) ||| BitVec.ofInt 64 (x.fdiv (2^min (IntKind.u64.wrap (64-IntKind.u64.wrap ((BitVec.ofInt 64 (IntKind.u64.wrap k) &&& 63#64).toNat:Int))).toNat 64))).toNat:Int)=rotE x k:=by
 rw [mask63 h,show IntKind.u64.wrap (64-k)=64-k by rw [u64_emod];omega];rfl
theorem rotE_W (a b:Int):IntKind.i64.wrap (rotE (IntKind.u64.wrap a) (b % 64))=rotW a b:=by
 symm
 refine rot_W a b fun i hi=>?_
 unfold rotE
 rw [BW_wrapu,BW_nat,BW_wrapu]
 have hm:(b % 64).toNat<64:=by omega
 have hb:((b % 64).toNat:Int)=b % 64:=by omega
 have hs:(64-b % 64).toNat=64-(b % 64).toNat:=by omega
 rw [hs]
 generalize hmm:(b % 64).toNat=m at *
 rw [Nat.min_eq_left (by omega),Nat.min_eq_left (by omega),BW_shl _ (by omega),BW_wrapu,wrapu_bv,fdiv_pow,BW_nat,BitVec.getLsbD_or,BitVec.getLsbD_shiftLeft,BitVec.getLsbD_ushiftRight]
 by_cases h:i<m
 · have e:((i:Int)-b) % 64=((64-m+i:Nat):Int):=by omega
   rw [e,Int.toNat_natCast]
   simp [h]
 · have e:((i:Int)-b) % 64=((i-m:Nat):Int):=by omega
   rw [e,Int.toNat_natCast,BitVec.getLsbD_of_ge _ (64-m+i) (by omega)]
   simp [h,hi]
theorem mul_wrap (x y:Int):IntKind.i64.wrap (IntKind.i64.wrap x*y)=IntKind.i64.wrap (x*y):=by
 rw [wrap64_bv,wrap64_bv (x*y),BW_mul,BW_wrap,BW_mul]
theorem rem_W {a b:Int} (ha : -9223372036854775808≤a∧a<9223372036854775808):IntKind.i64.wrap (a-IntKind.i64.wrap (IntKind.i64.wrap (a.tdiv b)*b))=a.tmod b:=by
 have e:a.tmod b=a-a.tdiv b*b:=by rw [Int.tmod_def,Int.mul_comm]
 have hr:(0≤a→0≤a.tmod b∧a.tmod b≤a)∧(a<0→a.tmod b≤0∧a≤a.tmod b):=by
  constructor
  · intro h
    refine ⟨Int.tmod_nonneg b h,?_⟩
    obtain ⟨n,rfl⟩:=Int.eq_ofNat_of_zero_le h
    have h2:=Int.tmod_nonneg b h
    rw [← Int.natAbs_of_nonneg h2,Int.natAbs_tmod]
    exact Int.ofNat_le.2 (Nat.mod_le _ _)
  · intro h
    have h1:(-a).tmod b = -(a.tmod b):=Int.neg_tmod a b
    have h2:=Int.tmod_nonneg b (show 0 ≤ -a by omega)
    have h3:(-a).tmod b ≤ -a:=by
     obtain ⟨n,hn⟩:=Int.eq_ofNat_of_zero_le (show 0 ≤ -a by omega)
     rw [hn] at h2 ⊢
     rw [← Int.natAbs_of_nonneg h2,Int.natAbs_tmod]
     exact Int.ofNat_le.2 (Nat.mod_le _ _)
    omega
 rw [mul_wrap]
 generalize a.tmod b=r at *
 have hq:a.tdiv b*b=a-r:=by omega
 rw [hq,i64_ok (x:=a-r) (by omega) (by omega),i64_ok (by omega) (by omega)]
 omega
theorem not_W (a:Int):IntKind.i64.wrap ((BitVec.ofInt 64 (-1) ^^^ BitVec.ofInt 64 a).toNat:Int)=IntKind.i64.wrap (-1-a):=by
 rw [wrap_nat,wrap64_bv]
 congr 1
 apply BitVec.eq_of_toNat_eq
 rw [show BitVec.ofInt 64 (-1)=BitVec.allOnes 64 from by decide,BitVec.allOnes_xor,BitVec.toNat_not,BitVec.toNat_ofInt,BitVec.toNat_ofInt]
 omega
theorem shift_at {b:Int} (h:0≤b∧b<9223372036854775808):IntKind.u64.wrap b=b:=by rw [u64_emod];omega
theorem sar_in {a:Int} (ha : -9223372036854775808≤a∧a<9223372036854775808) (n:Nat):IntKind.i64.wrap (a.fdiv (2^n))=a.fdiv (2^n):=by
 rw [Int.fdiv_eq_ediv_of_nonneg _ (Int.le_of_lt (Int.pow_pos (by decide)))]
 have hp:(0:Int)<2^n:=Int.pow_pos (by decide)
 refine i64_ok ?_ ?_
 · refine (Int.le_ediv_iff_mul_le hp).2 ?_
   generalize (2:Int)^n=q at *
   omega
 · by_cases h:a<0
   · have:=Int.ediv_neg_of_neg_of_pos h hp
     omega
   · have:=Int.ediv_le_self (2^n) (show 0≤a by omega)
     omega
theorem rotK (b:Int):0≤IntKind.i64.wrap ((BitVec.ofInt 64 b &&& 63#64).toNat:Int)∧IntKind.i64.wrap ((BitVec.ofInt 64 b &&& 63#64).toNat:Int)<64:=by rw [low63];omega
theorem rot_ok (a b:Int):IntKind.i64.wrap (rotE (IntKind.u64.wrap a) (IntKind.i64.wrap ((BitVec.ofInt 64 b &&& 63#64).toNat:Int)))=rotW a b:=by rw [low63];exact rotE_W a b
theorem arity1 {op:Int} (h:arityW op=1):1≤op∧op≤15:=by
 unfold arityW at h
 split at h
 · omega
 · split at h<;>omega
theorem arity2 {op:Int} (h0:¬arityW op=0) (h:¬arityW op=1):16≤op∧op≤36:=by
 unfold arityW at h h0
 split at h
 · next q=>rw [if_pos q] at h0;omega
 · split at h<;>omega
theorem two_err {op a b:Int} (h1:¬(op=19∨op=20)) (h2:¬(op=25∨op=26∨op=27)):(twoW op a b).2=0:=by
 unfold twoW
 rw [if_neg h1,if_neg h2]
 (repeat' split)<;>rfl
def flipS (a:Int) (k:Nat) (r:Int):Int:=IntKind.u64.wrap ((BitVec.ofInt 64 r ||| BitVec.ofInt 64 (IntKind.u64.wrap (IntKind.u64.wrap ((BitVec.ofInt 64 ((IntKind.u64.wrap a).fdiv (2^min k 64)) &&& 1#64).toNat:Int)*2^min (63-k) 64))).toNat:Int)
def flipB (a:Int):Nat→BitVec 64
 | 0=>0#64
 | n+1=>flipB a n ||| if (BitVec.ofInt 64 a).getLsbD n then BitVec.twoPow 64 (63-n) else 0#64
theorem flipS_at (a:Int):∀ n,n≤64→upto (flipS a) 0 n=((flipB a n).toNat:Int)
 | 0,_=>rfl
 | n+1,h=>by
   rw [upto_succ,flipS_at a n (by omega)]
   unfold flipS
   rw [Nat.min_eq_left (by omega),Nat.min_eq_left (by omega),wrapu_bv a,fdiv_pow,BW_nat,BW_nat,and_one,BitVec.getLsbD_ushiftRight,BW_wrapu,wrapu_bv,BW_nat]
   congr 2
   show _=flipB a n ||| _
   congr 1
   simp only [Nat.add_zero]
   cases (BitVec.ofInt 64 a).getLsbD n
   · simp [IntKind.wrap,IntKind.signed,IntKind.bits]
   · rw [if_pos rfl,if_pos rfl,show IntKind.u64.wrap (((1#64).toNat:Nat):Int)=1 from by decide,Int.one_mul,BW_pow (by omega)]
theorem flipB_bit (a:Int):∀ n,n≤64→∀ i,i<64→(flipB a n).getLsbD i=(decide (64-n≤i)&&(BitVec.ofInt 64 a).getLsbD (63-i))
 | 0,_,i,hi=>by simp [flipB];omega
 | n+1,h,i,hi=>by
   unfold flipB
   rw [BitVec.getLsbD_or,flipB_bit a n (by omega) i hi]
   by_cases h1:i=63-n
   · have e:63-i=n:=by omega
     rw [e,decide_eq_false (show ¬64-n≤i by omega),decide_eq_true (show 64-(n+1)≤i by omega),Bool.false_and,Bool.false_or,Bool.true_and]
     cases (BitVec.ofInt 64 a).getLsbD n
     · simp
     · simp [BitVec.getLsbD_twoPow,h1];omega
   · have e:(if (BitVec.ofInt 64 a).getLsbD n then BitVec.twoPow 64 (63-n) else 0#64).getLsbD i=false:=by
      cases (BitVec.ofInt 64 a).getLsbD n<;>simp [BitVec.getLsbD_twoPow]
      omega
     rw [e,Bool.or_false]
     congr 1
     exact decide_eq_decide.2 ⟨fun q=>by omega,fun q=>by omega⟩
theorem flip_eq (a:Int):IntKind.i64.wrap (upto (flipS a) 0 64)=upto (flipR a) 0 64:=by
 rw [flipS_at a 64 (by omega)]
 symm
 refine flip_W a fun i hi=>?_
 rw [BW_nat,flipB_bit a 64 (by omega) i hi]
 simp
end Go.Eng
namespace Go.Eng
open Go.RowKit
variable {P:Program} {T:Tab} {σ:St}
theorem SA.condF {x y:Code} {K:Exit→St→Prop} (h:SA P T y K σ):SA P T (.cond (.const (.bool false)) x y) K σ:=by
 intro w0 w F ρ a outs hd hR
 exact wp_cond_split (show a.eval _=.bool false from rfl) (fun hb=>absurd hb (by simp)) (fun _=>h w0 w F ρ a outs hd hR)
theorem SA.condT {x y:Code} {K:Exit→St→Prop} (h:SA P T x K σ):SA P T (.cond (.const (.bool true)) x y) K σ:=by
 intro w0 w F ρ a outs hd hR
 exact wp_cond_split (show a.eval _=.bool true from rfl) (fun _=>h w0 w F ρ a outs hd hR) (fun hb=>absurd hb (by simp))
end Go.Eng
namespace Go.Eng
open Go.RowKit
variable {P:Program} {T:Tab}
theorem ArgsFit.at {w:World} {F:Nat→Prop}:∀ {ts:List TypeId} {vs:List V} {xs:List Value},ArgsFit T w F ts vs xs→∀ (i:Nat) {t:TypeId} {k:IntKind} {n:Int},ts[i]?=some t→T.ty t=.int k→vs[i]?=some (.int n)→k.has n
 | [],[],[],_,i,_,_,_,h,_,_=>by simp at h
 | t::ts,v::vs,x::xs,⟨⟨h1,h2⟩,h⟩,0,t',k,n,e1,e2,e3=>by
   simp only [List.getElem?_cons_zero,Option.some.injEq] at e1 e3
   subst e1 e3
   generalize x.cells.toList=cs at h1
   cases h1 with
   | int a b=>rw [a] at e2;cases e2;exact b
 | t::ts,v::vs,x::xs,⟨⟨h1,h2⟩,h⟩,i+1,t',k,n,e1,e2,e3=>by
   simp only [List.getElem?_cons_succ] at e1 e3
   exact h.at i e1 e2 e3
 | [],[],_::_,h,_,_,_,_,_,_,_=>h.elim
 | [],_::_,_,h,_,_,_,_,_,_,_=>h.elim
 | _::_,[],_,h,_,_,_,_,_,_,_=>h.elim
 | _::_,_::_,[],h,_,_,_,_,_,_,_=>h.elim
theorem Ctr.ranged {f:FuncId} {pts rts:List TypeId} {vs rs:List V} (he:Enters P f) (h:(∀ (i:Nat) {t:TypeId} {k:IntKind} {n:Int},pts[i]?=some t→T.ty t=.int k→vs[i]?=some (.int n)→k.has n)→Ctr P T f pts rts vs rs):Ctr P T f pts rts vs rs :=
 ⟨he,fun w F xs hF hg ha=>(h fun i=>ha.at i).2 w F xs hF hg ha⟩
theorem IntKind.i64_has {n:Int} (h:IntKind.i64.has n) : -9223372036854775808≤n∧n<9223372036854775808:=by
 unfold IntKind.has IntKind.min IntKind.max IntKind.signed IntKind.bits at h
 simp at h
 omega
end Go.Eng
