/- A part of the proof: walks through the program's functions, and what they compute. -/
import Derived.Test.YtedceinkpkoncaaGreatDoorPk13
import Derived.Lib.TrailingZeros
set_option linter.unusedSimpArgs false
set_option linter.unusedVariables false
namespace Go.Eng
def upto {α:Type} (f:Nat→α→α) (a:α):Nat→α
 | 0=>a
 | n+1=>f n (upto f a n)
theorem upto_succ {α:Type} (f:Nat→α→α) (a:α) (n:Nat):upto f a (n+1)=f n (upto f a n):=rfl
theorem upto_zero {α:Type} (f:Nat→α→α) (a:α):upto f a 0=a:=rfl
def bitW (x k:Int):Int:=IntKind.i64.wrap (IntKind.u64.wrap (BitVec.ofInt 64 ((IntKind.u64.wrap x).fdiv (2^min (IntKind.u64.wrap k).toNat 64)) &&& 1#64).toNat)
def putW (x k y:Int):Int:=IntKind.i64.wrap (IntKind.u64.wrap (BitVec.ofInt 64 (IntKind.u64.wrap x) ||| BitVec.ofInt 64 (IntKind.u64.wrap (IntKind.u64.wrap y*2^min (IntKind.u64.wrap k).toNat 64))).toNat)
def fewW (x:Int):Int:=if 64<x then 64 else x
def arityW (x:Int):Int:=if x<1∨36<x then 0 else if x≤15 then 1 else 2
def convR (a n:Int) (sign:Bool) (k:Nat) (r:Int):Int:=putW r k (if (k:Int)<n then bitW a k else if sign then bitW a (IntKind.i64.wrap (n-1)) else 0)
def convW (a n:Int) (sign:Bool):Int:=upto (convR a n sign) 0 64
def onesR (a:Int) (k:Nat) (n:Int):Int:=IntKind.i64.wrap (n+bitW a k)
def flipR (a:Int) (k:Nat) (r:Int):Int:=putW r k (bitW a (IntKind.i64.wrap (63-(k:Int))))
def leadW (a:Int):Nat:=(List.range 64).findIdx fun (j:Nat)=>decide (bitW a (63-(j:Int))≠0)
def trailW (a:Int):Nat:=(List.range 64).findIdx fun (j:Nat)=>decide (bitW a j≠0)
def oneW (op a:Int):Int :=
 if op=1 then IntKind.i64.wrap (0-a)
 else if op=2 then IntKind.i64.wrap (-1-a)
 else if op=3 then (if a<0 then IntKind.i64.wrap (0-a) else a)
 else if op=4 then upto (onesR a) 0 64
 else if op=5 then leadW a
 else if op=6 then trailW a
 else if op=7 then upto (flipR a) 0 64
 else if op=8 then yes (decide (a≠0))
 else if op=9 then yes (decide (a=0))
 else if op=10 then convW a 8 true
 else if op=11 then convW a 16 true
 else if op=12 then convW a 32 true
 else if op=13 then convW a 8 false
 else if op=14 then convW a 16 false
 else convW a 32 false
def bitOp (op x y:Int):Bool :=
 if op=21 then decide (IntKind.i64.wrap (x+y)=2)
 else if op=22 then decide (0<IntKind.i64.wrap (x+y))
 else if op=23 then decide (IntKind.i64.wrap (x+y)=1)
 else if op=24 then decide (x=1)&&decide (y=0)
 else false
def bitsR (op a b:Int) (k:Nat) (r:Int):Int:=putW r k (yes (bitOp op (bitW a k) (bitW b k)))
def bitsW (op a b:Int):Int:=upto (bitsR op a b) 0 64
def shiftR (a by_ fill:Int) (k:Nat) (r:Int):Int :=
 putW r k (if 0≤IntKind.i64.wrap ((k:Int)-by_)∧IntKind.i64.wrap ((k:Int)-by_)<64 then bitW a (IntKind.i64.wrap ((k:Int)-by_)) else fill)
def shiftW (a by_ fill:Int):Int:=upto (shiftR a by_ fill) 0 64
def rotR (a b:Int) (k:Nat) (r:Int):Int :=
 putW r k (bitW a ((IntKind.i64.wrap ((IntKind.i64.wrap ((k:Int)-b.tmod 64)).tmod 64+64)).tmod 64))
def rotW (a b:Int):Int:=upto (rotR a b) 0 64
def wideR (a b:Int) (j:Nat) (x:Int × Int):Int × Int :=
 let k:Int:=63-(j:Int)
 let hi:=IntKind.i64.wrap (IntKind.i64.wrap (x.1*2)+IntKind.i64.wrap (x.2.fdiv (2^63)))
 let lo:=IntKind.u64.wrap (x.2*2)
 if bitW b k=0 then (hi,lo)
 else if k=63 then
  let lo1:=IntKind.u64.wrap (lo-IntKind.u64.wrap a)
  let hi1:=IntKind.i64.wrap (hi-a.fdiv (2^63))
  (if lo<IntKind.u64.wrap a then IntKind.i64.wrap (hi1-1) else hi1,lo1)
 else
  let lo1:=IntKind.u64.wrap (lo+IntKind.u64.wrap a)
  let hi1:=IntKind.i64.wrap (hi+a.fdiv (2^63))
  (if lo1<lo then IntKind.i64.wrap (hi1+1) else hi1,lo1)
def wideW (a b:Int):Int × Int:=upto (wideR a b) (0,0) 64
def heldW (op a b:Int):Int :=
 if op=29 then yes (decide (a=b))
 else if op=30 then yes (decide (a≠b))
 else if op=31 then yes (decide (a<b))
 else if op=32 then yes (decide (a≤b))
 else if op=33 then yes (decide (IntKind.u64.wrap a<IntKind.u64.wrap b))
 else if op=34 then (if b<a then b else a)
 else if op=35 then (if a<b then b else a)
 else (wideW a b).1
def twoW (op a b:Int):Int × Int :=
 if op=16 then (IntKind.i64.wrap (a+b),0)
 else if op=17 then (IntKind.i64.wrap (a-b),0)
 else if op=18 then (IntKind.i64.wrap (wideW a b).2,0)
 else if op=19∨op=20 then
  if b=0 then (0,20)
  else if b = -1 then (if op=19 then (IntKind.i64.wrap (0-a),0) else (0,0))
  else if op=19 then (IntKind.i64.wrap (a.tdiv b),0)
  else (IntKind.i64.wrap (a-IntKind.i64.wrap (IntKind.i64.wrap (a.tdiv b)*b)),0)
 else if op=21∨op=22∨op=23∨op=24 then (bitsW op a b,0)
 else if op=25∨op=26∨op=27 then
  if b<0 then (0,21)
  else if op=25 then (shiftW a (fewW b) 0,0)
  else if op=26 then (shiftW a (IntKind.i64.wrap (0-fewW b)) (bitW a 63),0)
  else (shiftW a (IntKind.i64.wrap (0-fewW b)) 0,0)
 else if op=28 then (rotW a b,0)
 else (heldW op a b,0)
def applyW (op a b:Int):Int × Int:=if arityW op=0 then (0,22) else if arityW op=1 then (oneW op a,0) else twoW op a b
end Go.Eng
namespace Go.Eng
theorem wrap64_bv (x:Int):IntKind.i64.wrap x=(BitVec.ofInt 64 x).toInt:=by
 rw [BitVec.toInt_ofInt]
 simp only [IntKind.wrap,IntKind.bits,IntKind.signed,Int.bmod]
 simp
 split<;>split<;>omega
theorem wrapu_bv (x:Int):IntKind.u64.wrap x=((BitVec.ofInt 64 x).toNat:Int):=by
 rw [BitVec.toNat_ofInt]
 simp only [IntKind.wrap,IntKind.bits,IntKind.signed]
 simp
 omega
theorem BW_nat (z:BitVec 64):BitVec.ofInt 64 (z.toNat:Int)=z:=by
 rw [BitVec.ofInt_natCast,BitVec.ofNat_toNat,BitVec.setWidth_eq]
theorem BW_int (z:BitVec 64):BitVec.ofInt 64 z.toInt=z:=BitVec.ofInt_toInt
theorem BW_wrapu (x:Int):BitVec.ofInt 64 (IntKind.u64.wrap x)=BitVec.ofInt 64 x:=by rw [wrapu_bv,BW_nat]
theorem BW_wrap (x:Int):BitVec.ofInt 64 (IntKind.i64.wrap x)=BitVec.ofInt 64 x:=by rw [wrap64_bv,BW_int]
theorem wrap_wrapu (x:Int):IntKind.i64.wrap (IntKind.u64.wrap x)=IntKind.i64.wrap x:=by rw [wrap64_bv,BW_wrapu,← wrap64_bv]
theorem wrap_nat (z:BitVec 64):IntKind.i64.wrap (z.toNat:Int)=z.toInt:=by rw [wrap64_bv,BW_nat]
theorem and_one (z:BitVec 64):z &&& 1#64=if z.getLsbD 0 then 1#64 else 0#64:=by
 apply BitVec.eq_of_getLsbD_eq
 intro i hi
 rw [BitVec.getLsbD_and]
 by_cases h0:i=0
 · subst h0
   cases z.getLsbD 0<;>rfl
 · have e:(1#64).getLsbD i=false:=by rw [BitVec.getLsbD_one];simp [h0]
   rw [e,Bool.and_false]
   split
   · rw [e]
   · simp
theorem fdiv_pow (z:BitVec 64) (n:Nat):((z.toNat:Int)).fdiv (2^n)=((z >>> n).toNat:Int):=by
 rw [BitVec.toNat_ushiftRight,Nat.shiftRight_eq_div_pow,Int.fdiv_eq_ediv_of_nonneg _ (Int.le_of_lt (Int.pow_pos (by decide)))]
 simp
theorem bitW_at (x:Int) {n:Nat} (h:n<64):bitW x n=yes ((BitVec.ofInt 64 x).getLsbD n):=by
 have hk:(IntKind.u64.wrap (n:Int)).toNat=n:=by rw [show IntKind.u64.wrap (n:Int)=(n:Int) by simp [IntKind.wrap,IntKind.signed,IntKind.bits];omega];rfl
 unfold bitW
 rw [hk,Nat.min_eq_left (by omega),wrapu_bv x,fdiv_pow,BW_nat,and_one,BitVec.getLsbD_ushiftRight]
 simp only [Nat.add_zero]
 cases (BitVec.ofInt 64 x).getLsbD n<;>decide
theorem BW_pow {n:Nat} (h:n<64):BitVec.ofInt 64 (2^n)=BitVec.twoPow 64 n:=by
 apply BitVec.eq_of_toNat_eq
 rw [BitVec.toNat_ofInt,BitVec.toNat_twoPow]
 have e:((2:Int)^n)=((2^n:Nat):Int):=by simp
 rw [e,← Int.natCast_emod]
 rfl
set_option linter.unusedVariables false in
theorem putW_at (r:BitVec 64) {n:Nat} (h:n<64) (b:Bool):putW r.toInt n (yes b)=(r ||| if b then BitVec.twoPow 64 n else 0#64).toInt:=by
 have hk:(IntKind.u64.wrap (n:Int)).toNat=n:=by rw [show IntKind.u64.wrap (n:Int)=(n:Int) by simp [IntKind.wrap,IntKind.signed,IntKind.bits];omega];rfl
 unfold putW
 rw [hk,Nat.min_eq_left (by omega),wrap_wrapu,show BitVec.ofInt 64 (IntKind.u64.wrap r.toInt)=r from (BW_wrapu _).trans (BW_int r),show ∀ x,BitVec.ofInt 64 (IntKind.u64.wrap x)=BitVec.ofInt 64 x from BW_wrapu,wrap_nat]
 congr 2
 cases b
 · simp [yes,IntKind.wrap,IntKind.signed,IntKind.bits]
 · have e:IntKind.u64.wrap (yes true)*2^n=2^n:=by simp [yes,IntKind.wrap,IntKind.signed,IntKind.bits]
   rw [e,BW_pow h];rfl
def bvOf (f:Nat→Bool):Nat→BitVec 64
 | 0=>0#64
 | n+1=>bvOf f n ||| if f n then BitVec.twoPow 64 n else 0#64
theorem bvOf_bit (f:Nat→Bool):∀ n,n≤64→∀ i,(bvOf f n).getLsbD i=(decide (i<n)&&f i)
 | 0,_,i=>by simp [bvOf]
 | n+1,h,i=>by
   unfold bvOf
   rw [BitVec.getLsbD_or,bvOf_bit f n (by omega) i]
   by_cases h1:i=n
   · subst h1
     cases f i<;>simp [BitVec.getLsbD_twoPow]
     omega
   · have e:(if f n then BitVec.twoPow 64 n else 0#64).getLsbD i=false:=by
      cases f n<;>simp [BitVec.getLsbD_twoPow]
      omega
     rw [e,Bool.or_false]
     congr 1
     exact decide_eq_decide.2 ⟨fun q=>by omega,fun q=>by omega⟩
theorem upto_bits {f:Nat→Bool} {g:Nat→Int→Int} (hg:∀ k r,k<64→g k r=putW r k (yes (f k))):∀ n,n≤64→upto g 0 n=(bvOf f n).toInt
 | 0,_=>rfl
 | n+1,h=>by rw [upto_succ,upto_bits hg n (by omega),hg n _ (by omega),putW_at _ (by omega)];rfl
theorem upto_is {f:Nat→Bool} {g:Nat→Int→Int} {x:Int} (hg:∀ k r,k<64→g k r=putW r k (yes (f k))) (h:∀ i,i<64→(BitVec.ofInt 64 x).getLsbD i=f i):upto g 0 64=IntKind.i64.wrap x:=by
 rw [upto_bits hg 64 (by omega),wrap64_bv]
 congr 1
 apply BitVec.eq_of_getLsbD_eq
 intro i hi
 rw [bvOf_bit f 64 (by omega),h i hi]
 simp [hi]
theorem yes_ite {c:Prop} [Decidable c] (a b:Bool):(if c then yes a else yes b)=yes (if c then a else b):=by split<;>rfl
theorem narrow_bit (a:Int) {w i:Nat} (hw:w≤64) (h:i<w):(BitVec.ofInt w a).getLsbD i=(BitVec.ofInt 64 a).getLsbD i:=by
 have e:BitVec.ofInt w a=(BitVec.ofInt 64 a).setWidth w:=by
  apply BitVec.eq_of_toNat_eq
  rw [BitVec.toNat_setWidth,BitVec.toNat_ofInt,BitVec.toNat_ofInt]
  have hd:(2^w:Nat) ∣ 2^64:=Nat.pow_dvd_pow 2 hw
  have h1:(0:Int)≤a % ((2^64:Nat):Int):=Int.emod_nonneg _ (by decide)
  have h2:((a % ((2^64:Nat):Int)).toNat:Int)=a % ((2^64:Nat):Int):=Int.toNat_of_nonneg h1
  have h3:(((a % ((2^64:Nat):Int)).toNat % 2^w:Nat):Int)=a % ((2^w:Nat):Int):=by
   rw [Int.natCast_emod,h2]
   exact Int.emod_emod_of_dvd _ (Int.natCast_dvd_natCast.2 hd)
  have h4:(0:Int)≤a % ((2^w:Nat):Int):=Int.emod_nonneg _ (by have:=Nat.two_pow_pos w;omega)
  omega
 rw [e,BitVec.getLsbD_setWidth]
 simp [h]
theorem convW_gen (a:Int) {w:Nat} (h0:1≤w) (hw:w≤64) (s:Bool) (x:Int) (hx:∀ i,i<64→(BitVec.ofInt 64 x).getLsbD i=if (i:Int)<w then (BitVec.ofInt 64 a).getLsbD i else if s then (BitVec.ofInt 64 a).getLsbD (w-1) else false):convW a w s=IntKind.i64.wrap x:=by
 unfold convW
 refine upto_is (f:=fun i=>if (i:Int)<w then (BitVec.ofInt 64 a).getLsbD i else if s then (BitVec.ofInt 64 a).getLsbD (w-1) else false) (fun k r hk=>?_) hx
 unfold convR
 have e:IntKind.i64.wrap ((w:Int)-1)=((w-1:Nat):Int):=by simp [IntKind.wrap,IntKind.signed,IntKind.bits];omega
 rw [e,bitW_at a hk,bitW_at a (show w-1<64 by omega),show (0:Int)=yes false from rfl,yes_ite,yes_ite]
theorem convS (a:Int) {w:Nat} (h0:1≤w) (hw:w≤64):convW a w true=IntKind.i64.wrap (BitVec.ofInt w a).toInt:=by
 refine convW_gen a h0 hw true _ fun i hi=>?_
 have e:BitVec.ofInt 64 (BitVec.ofInt w a).toInt=(BitVec.ofInt w a).signExtend 64:=rfl
 rw [e,BitVec.getLsbD_signExtend]
 simp only [hi,decide_true,Bool.true_and,if_true]
 by_cases h:i<w
 · rw [if_pos h,if_pos (by omega),narrow_bit a hw h]
 · rw [if_neg h,if_neg (by omega),BitVec.msb_eq_getLsbD_last,narrow_bit a hw (by omega)]
theorem convU (a:Int) {w:Nat} (h0:1≤w) (hw:w≤64):convW a w false=IntKind.i64.wrap ((BitVec.ofInt w a).toNat:Int):=by
 refine convW_gen a h0 hw false _ fun i hi=>?_
 have e:BitVec.ofInt 64 ((BitVec.ofInt w a).toNat:Int)=(BitVec.ofInt w a).setWidth 64:=by
  rw [BitVec.ofInt_natCast,BitVec.ofNat_toNat]
 rw [e,BitVec.getLsbD_setWidth]
 simp only [hi,decide_true,Bool.true_and]
 by_cases h:i<w
 · rw [if_pos (by omega),narrow_bit a hw h]
 · rw [if_neg (by omega),BitVec.getLsbD_of_ge _ _ (by omega)];rfl
theorem wrapS8 (a:Int):IntKind.i8.wrap a=(BitVec.ofInt 8 a).toInt:=by
 rw [BitVec.toInt_ofInt]
 simp only [IntKind.wrap,IntKind.bits,IntKind.signed,Int.bmod]
 simp
 split<;>split<;>omega
theorem wrapS16 (a:Int):IntKind.i16.wrap a=(BitVec.ofInt 16 a).toInt:=by
 rw [BitVec.toInt_ofInt]
 simp only [IntKind.wrap,IntKind.bits,IntKind.signed,Int.bmod]
 simp
 split<;>split<;>omega
theorem wrapS32 (a:Int):IntKind.i32.wrap a=(BitVec.ofInt 32 a).toInt:=by
 rw [BitVec.toInt_ofInt]
 simp only [IntKind.wrap,IntKind.bits,IntKind.signed,Int.bmod]
 simp
 split<;>split<;>omega
theorem wrapU8 (a:Int):IntKind.u8.wrap a=((BitVec.ofInt 8 a).toNat:Int):=by
 rw [BitVec.toNat_ofInt]
 simp only [IntKind.wrap,IntKind.bits,IntKind.signed]
 simp
 omega
theorem wrapU16 (a:Int):IntKind.u16.wrap a=((BitVec.ofInt 16 a).toNat:Int):=by
 rw [BitVec.toNat_ofInt]
 simp only [IntKind.wrap,IntKind.bits,IntKind.signed]
 simp
 omega
theorem wrapU32 (a:Int):IntKind.u32.wrap a=((BitVec.ofInt 32 a).toNat:Int):=by
 rw [BitVec.toNat_ofInt]
 simp only [IntKind.wrap,IntKind.bits,IntKind.signed]
 simp
 omega
theorem bits_gen {op a b:Int} {f:Bool→Bool→Bool} (hf:∀ x y,bitOp op (yes x) (yes y)=f x y) {z:BitVec 64} (hz:∀ i,i<64→z.getLsbD i=f ((BitVec.ofInt 64 a).getLsbD i) ((BitVec.ofInt 64 b).getLsbD i)):bitsW op a b=IntKind.i64.wrap (z.toNat:Int):=by
 unfold bitsW
 refine upto_is (f:=fun i=>f ((BitVec.ofInt 64 a).getLsbD i) ((BitVec.ofInt 64 b).getLsbD i)) (fun k r hk=>?_) fun i hi=>?_
 · unfold bitsR
   rw [bitW_at a hk,bitW_at b hk,hf]
 · rw [BW_nat];exact hz i hi
theorem bits_and (a b:Int):bitsW 21 a b=IntKind.i64.wrap ((BitVec.ofInt 64 a &&& BitVec.ofInt 64 b).toNat:Int) :=
 bits_gen (f:=fun x y=>x&&y) (by intro x y;cases x<;>cases y<;>decide) fun i _=>by rw [BitVec.getLsbD_and]
theorem bits_or (a b:Int):bitsW 22 a b=IntKind.i64.wrap ((BitVec.ofInt 64 a ||| BitVec.ofInt 64 b).toNat:Int) :=
 bits_gen (f:=fun x y=>x||y) (by intro x y;cases x<;>cases y<;>decide) fun i _=>by rw [BitVec.getLsbD_or]
theorem bits_xor (a b:Int):bitsW 23 a b=IntKind.i64.wrap ((BitVec.ofInt 64 a ^^^ BitVec.ofInt 64 b).toNat:Int) :=
 bits_gen (f:=fun x y=>x ^^ y) (by intro x y;cases x<;>cases y<;>decide) fun i _=>by rw [BitVec.getLsbD_xor]
theorem bits_clear (a b:Int):bitsW 24 a b=IntKind.i64.wrap ((BitVec.ofInt 64 a &&& ~~~BitVec.ofInt 64 b).toNat:Int) :=
 bits_gen (f:=fun x y=>x&&!y) (by intro x y;cases x<;>cases y<;>decide) fun i hi=>by rw [BitVec.getLsbD_and,BitVec.getLsbD_not];simp [hi]
theorem shift_gen {a by_ fill x:Int} {F:Bool} (hF:fill=yes F) (h0 : -64≤by_∧by_≤64) (hx:∀ i:Nat,i<64→(BitVec.ofInt 64 x).getLsbD i=if 0≤(i:Int)-by_∧(i:Int)-by_<64 then (BitVec.ofInt 64 a).getLsbD ((i:Int)-by_).toNat else F):shiftW a by_ fill=IntKind.i64.wrap x:=by
 unfold shiftW
 refine upto_is (f:=fun i=>if 0≤(i:Int)-by_∧(i:Int)-by_<64 then (BitVec.ofInt 64 a).getLsbD ((i:Int)-by_).toNat else F) (fun k r hk=>?_) hx
 unfold shiftR
 have e:IntKind.i64.wrap ((k:Int)-by_)=(k:Int)-by_:=by simp [IntKind.wrap,IntKind.signed,IntKind.bits];omega
 rw [e]
 congr 1
 by_cases h:0≤(k:Int)-by_∧(k:Int)-by_<64
 · rw [if_pos h,if_pos h]
   have e2:(k:Int)-by_=(((k:Int)-by_).toNat:Int):=(Int.toNat_of_nonneg h.1).symm
   rw [e2,bitW_at a (by omega)]
   rfl
 · rw [if_neg h,if_neg h,hF]
theorem few_nat {b:Int} (h:0≤b):fewW b=((min b.toNat 64:Nat):Int):=by unfold fewW;split<;>omega
theorem few_neg {b:Int} (h:0≤b):IntKind.i64.wrap (0-fewW b) = -((min b.toNat 64:Nat):Int):=by rw [few_nat h];simp [IntKind.wrap,IntKind.signed,IntKind.bits];omega
theorem BW_mul (x y:Int):BitVec.ofInt 64 (x*y)=BitVec.ofInt 64 x*BitVec.ofInt 64 y:=BitVec.ofInt_mul ..
theorem BW_shl (a:Int) {n:Nat} (h:n≤64):BitVec.ofInt 64 (a*2^n)=BitVec.ofInt 64 a <<< n:=by
 by_cases h1:n=64
 · subst h1
   rw [BW_mul,show BitVec.ofInt 64 (2^64)=0#64 from by decide,BitVec.mul_zero,BitVec.shiftLeft_eq_zero (by omega)]
 · rw [BW_mul,BW_pow (by omega),BitVec.mul_twoPow_eq_shiftLeft]
theorem shl_W (a:Int) {b:Int} (h:0≤b):shiftW a (fewW b) 0=IntKind.i64.wrap (a*2^min b.toNat 64):=by
 rw [few_nat h]
 generalize hn:min b.toNat 64=n
 refine shift_gen (F:=false) rfl (by omega) fun i hi=>?_
 rw [BW_shl a (by omega),BitVec.getLsbD_shiftLeft]
 simp only [hi,decide_true,Bool.true_and]
 by_cases h1:i<n
 · rw [if_neg (by omega)];simp [h1]
 · rw [if_pos (by omega)]
   simp only [h1,decide_false,Bool.not_false,Bool.true_and]
   congr 1
   omega
theorem BW_sar {a:Int} (ha:IntKind.i64.wrap a=a) (n:Nat):BitVec.ofInt 64 (a.fdiv (2^n))=(BitVec.ofInt 64 a).sshiftRight n:=by
 rw [Int.fdiv_eq_ediv_of_nonneg _ (Int.le_of_lt (Int.pow_pos (by decide)))]
 rw [wrap64_bv] at ha
 unfold BitVec.sshiftRight
 rw [ha,Int.shiftRight_eq_div_pow]
 simp
theorem sar_W {a b:Int} (ha:IntKind.i64.wrap a=a) (h:0≤b):shiftW a (IntKind.i64.wrap (0-fewW b)) (bitW a 63)=IntKind.i64.wrap (a.fdiv (2^min b.toNat 64)):=by
 rw [few_neg h]
 generalize hn:min b.toNat 64=n
 refine shift_gen (F:=(BitVec.ofInt 64 a).getLsbD 63) (bitW_at a (n:=63) (by decide)) (by omega) fun i hi=>?_
 rw [BW_sar ha,BitVec.getLsbD_sshiftRight]
 simp only [show ¬64≤i by omega,decide_false,Bool.not_false,Bool.true_and]
 by_cases h1:n+i<64
 · rw [if_pos h1,if_pos (by omega)]
   congr 1
   omega
 · rw [if_neg h1,if_neg (by omega),BitVec.msb_eq_getLsbD_last]
theorem shr_W (a:Int) {b:Int} (h:0≤b):shiftW a (IntKind.i64.wrap (0-fewW b)) 0=IntKind.i64.wrap ((IntKind.u64.wrap a).fdiv (2^min b.toNat 64)):=by
 rw [few_neg h]
 generalize hn:min b.toNat 64=n
 refine shift_gen (F:=false) rfl (by omega) fun i hi=>?_
 rw [wrapu_bv,fdiv_pow,BW_nat,BitVec.getLsbD_ushiftRight]
 by_cases h1:n+i<64
 · rw [if_pos (by omega)]
   congr 1
   omega
 · rw [if_neg (by omega),BitVec.getLsbD_of_ge _ _ (by omega)]
theorem rot_at {b:Int} {k:Nat} (hk:k<64):(IntKind.i64.wrap ((IntKind.i64.wrap ((k:Int)-b.tmod 64)).tmod 64+64)).tmod 64=(((k:Int)-b) % 64):=by
 have h1:=Int.tmod_lt_of_pos b (show (0:Int)<64 by decide)
 have h2:=Int.lt_tmod_of_pos b (show (0:Int)<64 by decide)
 have e0:b.tmod 64=b-64*b.tdiv 64:=Int.tmod_def b 64
 have e1:IntKind.i64.wrap ((k:Int)-b.tmod 64)=(k:Int)-b.tmod 64:=by simp only [IntKind.wrap,IntKind.signed,IntKind.bits];simp;omega
 rw [e1]
 generalize ht:(k:Int)-b.tmod 64=t at *
 have h3:=Int.tmod_lt_of_pos t (show (0:Int)<64 by decide)
 have h4:=Int.lt_tmod_of_pos t (show (0:Int)<64 by decide)
 have e2:t.tmod 64=t-64*t.tdiv 64:=Int.tmod_def t 64
 have e3:IntKind.i64.wrap (t.tmod 64+64)=t.tmod 64+64:=by simp only [IntKind.wrap,IntKind.signed,IntKind.bits];simp;omega
 rw [e3,Int.tmod_eq_emod_of_nonneg (by omega)]
 omega
theorem rot_W (a b:Int) {x:Int} (hx:∀ i:Nat,i<64→(BitVec.ofInt 64 x).getLsbD i=(BitVec.ofInt 64 a).getLsbD (((i:Int)-b) % 64).toNat):rotW a b=IntKind.i64.wrap x:=by
 unfold rotW
 refine upto_is (f:=fun i=>(BitVec.ofInt 64 a).getLsbD (((i:Int)-b) % 64).toNat) (fun k r hk=>?_) hx
 unfold rotR
 rw [rot_at hk]
 have e2:((k:Int)-b) % 64=((((k:Int)-b) % 64).toNat:Int):=(Int.toNat_of_nonneg (Int.emod_nonneg _ (by decide))).symm
 rw [e2,bitW_at a (by omega)]
 rfl
theorem flip_W (a:Int) {x:Int} (hx:∀ i:Nat,i<64→(BitVec.ofInt 64 x).getLsbD i=(BitVec.ofInt 64 a).getLsbD (63-i)):upto (flipR a) 0 64=IntKind.i64.wrap x:=by
 refine upto_is (f:=fun i=>(BitVec.ofInt 64 a).getLsbD (63-i)) (fun k r hk=>?_) hx
 unfold flipR
 have e:IntKind.i64.wrap (63-(k:Int))=((63-k:Nat):Int):=by simp [IntKind.wrap,IntKind.signed,IntKind.bits];omega
 rw [e,bitW_at a (by omega)]
end Go.Eng
namespace Go.Eng
theorem mul_bound {a t:Int} (ha : -9223372036854775808≤a∧a≤9223372036854775808) (ht : -9223372036854775808≤t∧t≤9223372036854775808) : -85070591730234615865843651857942052864≤a*t∧a*t≤85070591730234615865843651857942052864:=by
 have h:=Nat.mul_le_mul (show a.natAbs≤9223372036854775808 by omega) (show t.natAbs≤9223372036854775808 by omega)
 rw [← Int.natAbs_mul] at h
 generalize a*t=q at *
 omega
theorem yes_bit (z:BitVec 64) {k:Nat}:yes (z.getLsbD k)=((z.toNat / 2^k % 2:Nat):Int):=by
 have e:z.getLsbD k=decide (z.toNat / 2^k % 2=1):=by
  rw [BitVec.getLsbD,Nat.testBit_eq_decide_div_mod_eq]
 rw [e]
 unfold yes
 have:=Nat.mod_two_eq_zero_or_one (z.toNat / 2^k)
 by_cases h:z.toNat / 2^k % 2=1
 · simp [h]
 · have h0:z.toNat / 2^k % 2=0:=by omega
   simp [h0]
theorem bit_int (b:Int) {k:Nat} (hk:k<64):bitW b k=b / 2^k % 2:=by
 rw [bitW_at b hk,yes_bit,BitVec.toNat_ofInt]
 have h1:(0:Int)≤b % ((2^64:Nat):Int):=Int.emod_nonneg _ (by decide)
 have e:(((b % ((2^64:Nat):Int)).toNat:Nat):Int)=b % ((2^64:Nat):Int):=Int.toNat_of_nonneg h1
 rw [Int.natCast_emod,Int.natCast_ediv,e]
 have hs:((2^64:Nat):Int)=2^k*(2*2^(63-k)):=by
  have:(64:Nat)=k+(1+(63-k)):=by omega
  rw [show ((2^64:Nat):Int)=(2:Int)^64 from by decide,this,Int.pow_add,Int.pow_add]
  rfl
 have hb:b=b % ((2^64:Nat):Int)+2^k*(2*2^(63-k))*(b / ((2^64:Nat):Int)):=by
  rw [← hs];exact (Int.emod_add_mul_ediv ..).symm
 generalize b % ((2^64:Nat):Int)=m at *
 generalize b / ((2^64:Nat):Int)=q at *
 have hp:((2:Int)^k)≠0:=Int.ne_of_gt (Int.pow_pos (by decide))
 rw [hb,Int.mul_assoc,Int.add_mul_ediv_left _ _ hp,Int.mul_assoc,Int.add_mul_emod_self_left]
 simp
def topW (b:Int) (j:Nat):Int:=b / 2^(64-j)
theorem topW_succ (b:Int) {j:Nat} (hj:j<64):topW b (j+1)=2*topW b j+bitW b ((63-j:Nat):Int):=by
 unfold topW
 rw [bit_int b (show 63-j<64 by omega),show 64-(j+1)=63-j by omega,show 64-j=(63-j)+1 by omega,Int.pow_succ,← Int.ediv_ediv_of_nonneg (Int.le_of_lt (Int.pow_pos (by decide)))]
 omega
theorem topW_bound {b:Int} (hb : -9223372036854775808≤b∧b<9223372036854775808) {j:Nat} : -9223372036854775808≤topW b j∧topW b j≤9223372036854775808:=by
 unfold topW
 have hp:(0:Int)<2^(64-j):=Int.pow_pos (by decide)
 constructor
 · refine (Int.le_ediv_iff_mul_le hp).2 ?_
   generalize (2:Int)^(64-j)=q at *
   omega
 · by_cases h:b<0
   · have:=Int.ediv_neg_of_neg_of_pos h hp
     omega
   · have:=Int.ediv_le_self (2^(64-j)) (show 0≤b by omega)
     omega
theorem topW_half {b:Int} (hb : -9223372036854775808≤b∧b<9223372036854775808) {j:Nat} (hj:j<64) : -4611686018427387904≤topW b j∧topW b j≤4611686018427387904:=by
 have h:=topW_succ b hj
 have h1:=topW_bound hb (j:=j+1)
 have h2:bitW b ((63-j:Nat):Int)=0∨bitW b ((63-j:Nat):Int)=1:=by
  rw [bitW_at b (by omega)]
  cases (BitVec.ofInt 64 b).getLsbD (63-j)
  · exact .inl rfl
  · exact .inr rfl
 omega
theorem mul_half {a t:Int} (ha : -9223372036854775808≤a∧a≤9223372036854775808) (ht : -4611686018427387904≤t∧t≤4611686018427387904) : -42535295865117307932921825928971026432≤a*t∧a*t≤42535295865117307932921825928971026432:=by
 have h:=Nat.mul_le_mul (show a.natAbs≤9223372036854775808 by omega) (show t.natAbs≤4611686018427387904 by omega)
 rw [← Int.natAbs_mul] at h
 generalize a*t=q at *
 omega
theorem u64_emod (x:Int):IntKind.u64.wrap x=x % 18446744073709551616:=by simp [IntKind.wrap,IntKind.signed,IntKind.bits]
theorem fdiv63 (x:Int):x.fdiv (2^63)=x / 9223372036854775808:=by rw [Int.fdiv_eq_ediv_of_nonneg _ (by decide)];rfl
theorem i64_ok {x:Int} (h1 : -9223372036854775808≤x) (h2:x<9223372036854775808):IntKind.i64.wrap x=x:=by
 simp only [IntKind.wrap,IntKind.signed,IntKind.bits];simp;omega
theorem wide_dbl {P:Int} (hP : -42535295865117307932921825928971026432≤P∧P≤42535295865117307932921825928971026432):IntKind.i64.wrap (IntKind.i64.wrap (P / 18446744073709551616*2)+IntKind.i64.wrap ((P % 18446744073709551616).fdiv (2^63)))=2*P / 18446744073709551616∧IntKind.u64.wrap (P % 18446744073709551616*2)=2*P % 18446744073709551616:=by
 rw [fdiv63,u64_emod,i64_ok (x:=P / 18446744073709551616*2) (by omega) (by omega),i64_ok (x:=P % 18446744073709551616 / 9223372036854775808) (by omega) (by omega),i64_ok (by omega) (by omega)]
 omega
theorem wide_add {a Q:Int} (ha : -9223372036854775808≤a∧a<9223372036854775808) (hS : -85070591730234615865843651857942052864≤Q+a∧Q+a≤85070591730234615865843651857942052864) :
 (if IntKind.u64.wrap (Q % 18446744073709551616+IntKind.u64.wrap a)<Q % 18446744073709551616 then IntKind.i64.wrap (IntKind.i64.wrap (Q / 18446744073709551616+a.fdiv (2^63))+1) else IntKind.i64.wrap (Q / 18446744073709551616+a.fdiv (2^63)))=(Q+a) / 18446744073709551616∧IntKind.u64.wrap (Q % 18446744073709551616+IntKind.u64.wrap a)=(Q+a) % 18446744073709551616:=by
 rw [fdiv63,u64_emod,u64_emod]
 have h1:IntKind.i64.wrap (Q / 18446744073709551616+a / 9223372036854775808)=Q / 18446744073709551616+a / 9223372036854775808:=i64_ok (by omega) (by omega)
 rw [h1]
 refine ⟨?_,by omega⟩
 split
 · rw [i64_ok (by omega) (by omega)];omega
 · omega
theorem wide_first {a b:Int} (ha : -9223372036854775808≤a∧a<9223372036854775808):wideR a b 0 (0,0)=(-(a*bitW b 63) / 18446744073709551616,-(a*bitW b 63) % 18446744073709551616):=by
 have hb:bitW b 63=0∨bitW b 63=1:=by
  have:=bitW_at b (n:=63) (by decide)
  rw [show ((63:Nat):Int)=63 from rfl] at this
  rw [this]
  cases (BitVec.ofInt 64 b).getLsbD 63
  · exact .inl rfl
  · exact .inr rfl
 unfold wideR
 simp only [show (63:Int)-((0:Nat):Int)=63 from rfl,show IntKind.i64.wrap (IntKind.i64.wrap (0*2)+IntKind.i64.wrap ((0:Int).fdiv (2^63)))=0 from by decide,show IntKind.u64.wrap (0*2)=0 from by decide,if_true]
 rcases hb with h|h
 · rw [h,if_pos rfl];simp
 · rw [h,if_neg (by decide),Int.mul_one,fdiv63]
   simp only [u64_emod]
   have h1:IntKind.i64.wrap (0-a / 9223372036854775808)=0-a / 9223372036854775808:=i64_ok (by omega) (by omega)
   rw [h1]
   refine Prod.ext ?_ (by show _ % _=_;omega)
   show (if _ then _ else _) = -a / 18446744073709551616
   split
   · rw [i64_ok (by omega) (by omega)];omega
   · have h0:a=0:=by omega
     subst h0
     decide
theorem wide_upto {a b:Int} (ha : -9223372036854775808≤a∧a<9223372036854775808) (hb : -9223372036854775808≤b∧b<9223372036854775808):∀ j,j<64→upto (wideR a b) (0,0) (j+1)=(a*topW b (j+1) / 18446744073709551616,a*topW b (j+1) % 18446744073709551616)
 | 0,_=>by
   have e:=topW_succ b (j:=0) (by decide)
   have e0:topW b 0=if b<0 then -1 else 0:=by
    unfold topW
    rw [show (2:Int)^(64-0)=18446744073709551616 from by decide]
    split<;>omega
   have e1:bitW b 63=if b<0 then 1 else 0:=by
    have:=bit_int b (k:=63) (by decide)
    rw [show (2:Int)^63=9223372036854775808 from by decide] at this
    rw [show ((63:Nat):Int)=63 from rfl] at this
    rw [this]
    split<;>omega
   rw [upto_succ,upto_zero,wide_first ha,e,e0,show ((63-0:Nat):Int)=63 from rfl,e1]
   split
   · simp
   · simp
 | j+1,hj=>by
   rw [upto_succ,wide_upto ha hb j (by omega),topW_succ b hj]
   have hP:=mul_half (a:=a) (t:=topW b (j+1)) ⟨ha.1,by omega⟩ (topW_half hb (by omega))
   have hS:=mul_bound (a:=a) (t:=topW b (j+1+1)) ⟨ha.1,by omega⟩ (topW_bound hb)
   rw [topW_succ b hj,Int.mul_add,← Int.mul_assoc,Int.mul_comm a 2,Int.mul_assoc] at hS
   rw [Int.mul_add,← Int.mul_assoc,Int.mul_comm a 2,Int.mul_assoc]
   unfold wideR
   have hk:(63:Int)-((j+1:Nat):Int)=((63-(j+1):Nat):Int):=by omega
   have hk2:¬((63-(j+1):Nat):Int)=63:=by omega
   simp only [hk]
   generalize a*topW b (j+1)=P at *
   obtain ⟨d1,d2⟩:=wide_dbl hP
   rw [d1,d2]
   have hb2:bitW b ((63-(j+1):Nat):Int)=0∨bitW b ((63-(j+1):Nat):Int)=1:=by
    rw [bitW_at b (by omega)]
    cases (BitVec.ofInt 64 b).getLsbD (63-(j+1))
    · exact .inl rfl
    · exact .inr rfl
   rcases hb2 with h|h
   · rw [h,if_pos rfl];simp
   · rw [h] at hS ⊢
     rw [if_neg (by decide),if_neg hk2,Int.mul_one]
     rw [Int.mul_one] at hS
     obtain ⟨w1,w2⟩:=wide_add (a:=a) (Q:=2*P) ha hS
     exact Prod.ext w1 w2
theorem wideW_eq {a b:Int} (ha : -9223372036854775808≤a∧a<9223372036854775808) (hb : -9223372036854775808≤b∧b<9223372036854775808):wideW a b=(a*b / 18446744073709551616,a*b % 18446744073709551616):=by
 have h:=wide_upto ha hb 63 (by decide)
 rw [show topW b (63+1)=b from by unfold topW;simp] at h
 exact h
theorem wide_words {a b:Int} (ha : -9223372036854775808≤a∧a<9223372036854775808) (hb : -9223372036854775808≤b∧b<9223372036854775808) :
 let ua:=a % 18446744073709551616
 let ub:=b % 18446744073709551616
 let h0:=ua*ub / 18446744073709551616
 let h1:=if a<0 then (h0-ub) % 18446744073709551616 else h0
 let h2:=if b<0 then (h1-ua) % 18446744073709551616 else h1
 IntKind.i64.wrap h2=a*b / 18446744073709551616∧ua*ub % 18446744073709551616=a*b % 18446744073709551616:=by
 intro ua ub h0 h1 h2
 have hP:=mul_bound (a:=a) (t:=b) ⟨ha.1,by omega⟩ ⟨hb.1,by omega⟩
 have hi:∀ x,x % 18446744073709551616=(a*b / 18446744073709551616) % 18446744073709551616→IntKind.i64.wrap x=a*b / 18446744073709551616:=by
  intro x hx
  have hr : -9223372036854775808≤a*b / 18446744073709551616∧a*b / 18446744073709551616<9223372036854775808:=by
   generalize a*b=P at *
   omega
  rw [← i64_ok hr.1 hr.2]
  generalize a*b / 18446744073709551616=q at *
  simp only [IntKind.wrap,IntKind.signed,IntKind.bits]
  simp
  rw [hx]
 by_cases h1':a<0<;>by_cases h2':b<0
 · have e1:ua=a+18446744073709551616:=by show a % _=_;omega
   have e2:ub=b+18446744073709551616:=by show b % _=_;omega
   have e:ua*ub=a*b+18446744073709551616*a+18446744073709551616*b+340282366920938463463374607431768211456:=by
    rw [e1,e2,Int.add_mul,Int.mul_add,Int.mul_add];omega
   have E1:h1=(h0-ub) % 18446744073709551616:=if_pos h1'
   have E2:h2=(h1-ua) % 18446744073709551616:=if_pos h2'
   have E0:h0=ua*ub / 18446744073709551616:=rfl
   rw [e] at E0 ⊢
   refine ⟨hi _ ?_,?_⟩
   · rw [E2,E1,E0,e1,e2]
     generalize a*b=P at *
     omega
   · generalize a*b=P at *
     omega
 · have e1:ua=a+18446744073709551616:=by show a % _=_;omega
   have e2:ub=b:=by show b % _=_;omega
   have e:ua*ub=a*b+18446744073709551616*b:=by rw [e1,e2,Int.add_mul]
   have E1:h1=(h0-ub) % 18446744073709551616:=if_pos h1'
   have E2:h2=h1:=if_neg h2'
   have E0:h0=ua*ub / 18446744073709551616:=rfl
   rw [e] at E0 ⊢
   refine ⟨hi _ ?_,?_⟩
   · rw [E2,E1,E0,e2]
     generalize a*b=P at *
     omega
   · generalize a*b=P at *
     omega
 · have e1:ua=a:=by show a % _=_;omega
   have e2:ub=b+18446744073709551616:=by show b % _=_;omega
   have e:ua*ub=a*b+18446744073709551616*a:=by rw [e1,e2,Int.mul_add];omega
   have E1:h1=h0:=if_neg h1'
   have E2:h2=(h1-ua) % 18446744073709551616:=if_pos h2'
   have E0:h0=ua*ub / 18446744073709551616:=rfl
   rw [e] at E0 ⊢
   refine ⟨hi _ ?_,?_⟩
   · rw [E2,E1,E0,e1]
     generalize a*b=P at *
     omega
   · generalize a*b=P at *
     omega
 · have e1:ua=a:=by show a % _=_;omega
   have e2:ub=b:=by show b % _=_;omega
   have e:ua*ub=a*b:=by rw [e1,e2]
   have E1:h1=h0:=if_neg h1'
   have E2:h2=h1:=if_neg h2'
   have E0:h0=ua*ub / 18446744073709551616:=rfl
   rw [e] at E0 ⊢
   exact ⟨hi _ (by rw [E2,E1,E0]),rfl⟩
end Go.Eng
namespace Go.Eng
def repB (c:Nat):Nat→Nat
 | 0=>0
 | n+1=>repB c n*256+c
def valB:List Nat→Nat
 | []=>0
 | c::l=>valB l*256+c
theorem and_split (a b c d:Nat) (hb:b<256) (hd:d<256):(a*256+b) &&& (c*256+d)=(a &&& c)*256+(b &&& d):=by
 have hbd:b &&& d<2^8:=Nat.lt_of_le_of_lt Nat.and_le_left hb
 apply Nat.eq_of_testBit_eq
 intro i
 rw [show 256=2^8 from rfl,Nat.mul_comm a,Nat.mul_comm c,Nat.mul_comm (a &&& c),Nat.testBit_and,Nat.testBit_two_pow_mul_add _ (show b<2^8 from hb),Nat.testBit_two_pow_mul_add _ (show d<2^8 from hd),Nat.testBit_two_pow_mul_add _ hbd]
 split<;>rw [Nat.testBit_and]
def s1 (x:Nat):Nat:=(x / 2 &&& 0x55)+(x &&& 0x55)
def s2 (x:Nat):Nat:=(x / 4 &&& 0x33)+(x &&& 0x33)
def s3 (x:Nat):Nat:=(x / 16+x) &&& 0x0f
def pop8 (x:Nat):Nat:=x % 2+x / 2 % 2+x / 4 % 2+x / 8 % 2+x / 16 % 2+x / 32 % 2+x / 64 % 2+x / 128 % 2
theorem s123:∀ x:Fin 256,s3 (s2 (s1 x))=pop8 x:=by decide +kernel
theorem s1_top:∀ x:Fin 256,∀ h:Fin 2,(h.1*128+x.1 / 2) &&& 0x55=x.1 / 2 &&& 0x55:=by decide +kernel
theorem s2_top:∀ x:Fin 256,∀ h:Fin 4,(h.1*64+x.1 / 4) &&& 0x33=x.1 / 4 &&& 0x33:=by decide +kernel
theorem s3_top:∀ x:Fin 119,∀ h:Fin 8,(h.1*16+x.1 / 16+x.1) &&& 0x0f=(x.1 / 16+x.1) &&& 0x0f:=by decide +kernel
theorem s1_lt:∀ x:Fin 256,s1 x<171:=by decide +kernel
theorem s2_nib:∀ x:Fin 171,s2 x / 16<8∧s2 x % 16<8∧s2 x<119:=by decide +kernel
theorem S1_val:∀ l:List Nat,(∀ c∈l,c<256)→(valB l / 2 &&& repB 0x55 l.length)+(valB l &&& repB 0x55 l.length)=valB (l.map s1)
 | [],_=>rfl
 | c::l,h=>by
   have hc:=h c (by simp)
   have ih:=S1_val l fun d hd=>h d (by simp [hd])
   simp only [valB,List.length_cons,repB,List.map_cons]
   have e:(valB l*256+c) / 2=valB l / 2*256+(valB l % 2*128+c / 2):=by omega
   have h2:valB l % 2<2:=Nat.mod_lt _ (by decide)
   have et:=s1_top ⟨c,hc⟩ ⟨_,h2⟩
   simp only at et
   rw [e,and_split _ _ _ _ (by omega) (by decide),and_split _ _ _ _ hc (by decide),et,← ih]
   unfold s1
   omega
theorem S2_val:∀ l:List Nat,(∀ c∈l,c<256)→(valB l / 4 &&& repB 0x33 l.length)+(valB l &&& repB 0x33 l.length)=valB (l.map s2)
 | [],_=>rfl
 | c::l,h=>by
   have hc:=h c (by simp)
   have ih:=S2_val l fun d hd=>h d (by simp [hd])
   simp only [valB,List.length_cons,repB,List.map_cons]
   have e:(valB l*256+c) / 4=valB l / 4*256+(valB l % 4*64+c / 4):=by omega
   have h2:valB l % 4<4:=Nat.mod_lt _ (by decide)
   have et:=s2_top ⟨c,hc⟩ ⟨_,h2⟩
   simp only at et
   rw [e,and_split _ _ _ _ (by omega) (by decide),and_split _ _ _ _ hc (by decide),et,← ih]
   unfold s2
   omega
theorem S3_val:∀ l:List Nat,(∀ c∈l,c<119∧c % 16<8)→(valB l / 16+valB l) &&& repB 0x0f l.length=valB (l.map s3)∧valB l % 16<8
 | [],_=>⟨rfl,by decide⟩
 | c::l,h=>by
   have hc:=h c (by simp)
   obtain ⟨ih,h8⟩:=S3_val l fun d hd=>h d (by simp [hd])
   simp only [valB,List.length_cons,repB,List.map_cons]
   have e:(valB l*256+c) / 16+(valB l*256+c)=(valB l / 16+valB l)*256+(valB l % 16*16+c / 16+c):=by omega
   have et:=s3_top ⟨c,hc.1⟩ ⟨_,h8⟩
   simp only at et
   rw [e,and_split _ _ _ _ (by omega) (by decide),et,← ih]
   exact ⟨rfl,by omega⟩
def bytesB:Nat→Nat→List Nat
 | 0,_=>[]
 | n+1,x=>x % 256::bytesB n (x / 256)
theorem valB_bytes:∀ (n x:Nat),x<256^n→valB (bytesB n x)=x
 | 0,x,h=>by simp at h;subst h;rfl
 | n+1,x,h=>by
   have h1:x / 256<256^n:=by rw [Nat.pow_succ] at h;exact Nat.div_lt_of_lt_mul (by rw [Nat.mul_comm];exact h)
   rw [bytesB,valB,valB_bytes n _ h1]
   omega
theorem bytes_lt:∀ (n x:Nat),∀ c∈bytesB n x,c<256
 | 0,_,c,h=>by simp [bytesB] at h
 | n+1,x,c,h=>by
   rw [bytesB] at h
   rcases List.mem_cons.1 h with e|e
   · omega
   · exact bytes_lt n _ c e
theorem bytes_len:∀ (n x:Nat),(bytesB n x).length=n
 | 0,_=>rfl
 | n+1,x=>by rw [bytesB,List.length_cons,bytes_len]
theorem swar (x:Nat) (hx:x<18446744073709551616) :
 let y:=(x / 2 &&& repB 0x55 8)+(x &&& repB 0x55 8)
 let z:=(y / 4 &&& repB 0x33 8)+(y &&& repB 0x33 8)
 (z / 16+z) &&& repB 0x0f 8=valB ((bytesB 8 x).map pop8):=by
 intro y z
 have h256:=bytes_lt 8 x
 have hl:=bytes_len 8 x
 have hy:y=valB ((bytesB 8 x).map s1):=by
  have h:=S1_val (bytesB 8 x) h256
  rw [hl,valB_bytes 8 x (by omega)] at h
  exact h
 have h1:∀ c∈(bytesB 8 x).map s1,c<171:=by
  intro c hc
  obtain ⟨d,hd,rfl⟩:=List.mem_map.1 hc
  exact s1_lt ⟨d,h256 d hd⟩
 have hz:z=valB (((bytesB 8 x).map s1).map s2):=by
  have h:=S2_val ((bytesB 8 x).map s1) fun c hc=>by have:=h1 c hc;omega
  rw [List.length_map,hl,← hy] at h
  exact h
 have h2:∀ c∈((bytesB 8 x).map s1).map s2,c<119∧c % 16<8:=by
  intro c hc
  obtain ⟨d,hd,rfl⟩:=List.mem_map.1 hc
  have:=s2_nib ⟨d,h1 d hd⟩
  exact ⟨this.2.2,this.2.1⟩
 have h:=(S3_val _ h2).1
 rw [List.length_map,List.length_map,hl,← hz] at h
 rw [h,List.map_map,List.map_map]
 congr 1
 apply List.map_congr_left
 intro c hc
 exact s123 ⟨c,h256 c hc⟩
def cntW (x:Nat):Nat→Nat
 | 0=>0
 | n+1=>cntW x n+x / 2^n % 2
theorem cntW_le (x:Nat):∀ n,cntW x n≤n
 | 0=>Nat.le_refl _
 | n+1=>by have:=cntW_le x n;have:=Nat.mod_lt (x / 2^n) (show 0<2 by decide);unfold cntW;omega
theorem ones_cnt (a:Int):∀ n,n≤64→upto (onesR a) 0 n=(cntW (BitVec.ofInt 64 a).toNat n:Int)
 | 0,_=>rfl
 | n+1,h=>by
   rw [upto_succ,ones_cnt a n (by omega)]
   unfold onesR
   rw [bitW_at a (by omega),yes_bit]
   have h1:=cntW_le (BitVec.ofInt 64 a).toNat n
   have h2:=Nat.mod_lt ((BitVec.ofInt 64 a).toNat / 2^n) (show 0<2 by decide)
   show _=((cntW (BitVec.ofInt 64 a).toNat n+(BitVec.ofInt 64 a).toNat / 2^n % 2:Nat):Int)
   generalize (BitVec.ofInt 64 a).toNat / 2^n % 2=u at *
   generalize cntW (BitVec.ofInt 64 a).toNat n=v at *
   rw [i64_ok (by omega) (by omega)]
   omega
theorem cntW_add (x:Nat) (n:Nat):∀ m,cntW x (n+m)=cntW x n+cntW (x / 2^n) m
 | 0=>rfl
 | m+1=>by
   rw [← Nat.add_assoc,cntW,cntW,cntW_add x n m,Nat.div_div_eq_div_mul,← Nat.pow_add]
   omega
theorem cntW_8 (x:Nat):cntW x 8=pop8 (x % 256):=by
 simp only [cntW,pop8]
 omega
theorem cnt_bytes:∀ (n x:Nat),cntW x (8*n)=((bytesB n x).map pop8).sum
 | 0,_=>rfl
 | n+1,x=>by
   rw [show 8*(n+1)=8+8*n by omega,cntW_add,cntW_8,cnt_bytes n,bytesB,List.map_cons,List.sum_cons]
theorem pop8_le (x:Nat):pop8 x≤8:=by unfold pop8;omega
theorem sum8 {c0 c1 c2 c3 c4 c5 c6 c7:Nat} (h0:c0≤8) (h1:c1≤8) (h2:c2≤8) (h3:c3≤8) (h4:c4≤8) (h5:c5≤8) (h6:c6≤8) (h7:c7≤8) :
 let y:=valB [c0,c1,c2,c3,c4,c5,c6,c7]
 let y1:=(y+y / 256) % 18446744073709551616
 let y2:=(y1+y1 / 65536) % 18446744073709551616
 let y3:=(y2+y2 / 4294967296) % 18446744073709551616
 y3 % 128=c0+c1+c2+c3+c4+c5+c6+c7:=by
 intro y y1 y2 y3
 obtain ⟨X7,e7⟩:∃ X,X=c7:=⟨_,rfl⟩
 obtain ⟨X6,e6⟩:∃ X,X=c6+256*X7:=⟨_,rfl⟩
 obtain ⟨X5,e5⟩:∃ X,X=c5+256*X6:=⟨_,rfl⟩
 obtain ⟨X4,e4⟩:∃ X,X=c4+256*X5:=⟨_,rfl⟩
 obtain ⟨X3,e3⟩:∃ X,X=c3+256*X4:=⟨_,rfl⟩
 obtain ⟨X2,e2⟩:∃ X,X=c2+256*X3:=⟨_,rfl⟩
 obtain ⟨X1,e1⟩:∃ X,X=c1+256*X2:=⟨_,rfl⟩
 obtain ⟨X0,e0⟩:∃ X,X=c0+256*X1:=⟨_,rfl⟩
 have b6:X6≤2056:=by omega
 have b5:X5≤526344:=by omega
 have b4:X4≤134744072:=by omega
 have b3:X3≤34494482440:=by omega
 have b2:X2≤8830587504648:=by omega
 have b1:X1≤2260630401189896:=by omega
 have b0:X0≤578721382704613384:=by omega
 have ey:y=X0:=by
  show valB _=_
  simp only [valB]
  omega
 have q1:y1=X0+X1:=by
  show (y+y / 256) % _=_
  rw [ey]
  clear e7 e6 e5 e4 e3 e2 e1
  omega
 have d2:(X0+X1) / 65536=X2+X3:=by
  have f0:X0=c0+256*c1+65536*X2:=by omega
  have f1:X1=c1+256*c2+65536*X3:=by omega
  rw [f0,f1]
  clear e7 e6 e5 e4 e3 e2 e1 e0 f0 f1
  omega
 have q2:y2=X0+X1+X2+X3:=by
  show (y1+y1 / 65536) % _=_
  rw [q1,d2]
  clear e7 e6 e5 e4 e3 e2 e1 e0
  omega
 have d3:(X0+X1+X2+X3) / 4294967296=X4+X5+X6+X7:=by
  have f0:X0=c0+256*c1+65536*c2+16777216*c3+4294967296*X4:=by omega
  have f1:X1=c1+256*c2+65536*c3+16777216*c4+4294967296*X5:=by omega
  have f2:X2=c2+256*c3+65536*c4+16777216*c5+4294967296*X6:=by omega
  have f3:X3=c3+256*c4+65536*c5+16777216*c6+4294967296*X7:=by omega
  rw [f0,f1,f2,f3]
  clear e7 e6 e5 e4 e3 e2 e1 e0 f0 f1 f2 f3
  omega
 have q3:y3=X0+X1+X2+X3+(X4+X5+X6+X7):=by
  show (y2+y2 / 4294967296) % _=_
  rw [q2,d3]
  clear e7 e6 e5 e4 e3 e2 e1 e0
  omega
 rw [q3,e0,e1,e2,e3,e4,e5,e6,e7]
 omega
theorem ones_swar (a:Int) :
 let x:=(BitVec.ofInt 64 a).toNat
 let y:=(x / 2 &&& repB 0x55 8)+(x &&& repB 0x55 8)
 let z:=(y / 4 &&& repB 0x33 8)+(y &&& repB 0x33 8)
 let v:=(z / 16+z) &&& repB 0x0f 8
 let y1:=(v+v / 256) % 18446744073709551616
 let y2:=(y1+y1 / 65536) % 18446744073709551616
 let y3:=(y2+y2 / 4294967296) % 18446744073709551616
 upto (onesR a) 0 64=((y3 % 128:Nat):Int):=by
 intro x y z v y1 y2 y3
 have hv:v=valB ((bytesB 8 x).map pop8):=swar x (BitVec.ofInt 64 a).isLt
 rw [ones_cnt a 64 (by decide),show (64:Nat)=8*8 from rfl,cnt_bytes]
 have e:=sum8 (pop8_le (x % 256)) (pop8_le (x / 256 % 256)) (pop8_le (x / 256 / 256 % 256)) (pop8_le (x / 256 / 256 / 256 % 256)) (pop8_le (x / 256 / 256 / 256 / 256 % 256)) (pop8_le (x / 256 / 256 / 256 / 256 / 256 % 256)) (pop8_le (x / 256 / 256 / 256 / 256 / 256 / 256 % 256)) (pop8_le (x / 256 / 256 / 256 / 256 / 256 / 256 / 256 % 256))
 simp only [bytesB,List.map_cons,List.map_nil] at hv
 simp only at e
 rw [← hv] at e
 have e':y3 % 128=_:=e
 rw [e']
 change ((((bytesB 8 x).map pop8).sum:Nat):Int)=_
 clear e e' hv
 simp only [bytesB,List.map_cons,List.map_nil,List.sum_cons,List.sum_nil]
 congr 1
 omega
end Go.Eng
namespace Go.Eng
theorem findIdx_at {p:Nat→Bool} {n k:Nat} (hk:k<n) (h:p k=true) (hb:∀ j,j<k→p j=false):(List.range n).findIdx p=k:=by
 have hl:(List.range n).findIdx p<(List.range n).length:=List.findIdx_lt_length_of_exists ⟨k,List.mem_range.2 hk,h⟩
 have h1:=List.findIdx_getElem (w:=hl)
 rw [List.getElem_range] at h1
 rcases Nat.lt_trichotomy ((List.range n).findIdx p) k with q|q|q
 · rw [hb _ q] at h1;cases h1
 · exact q
 · have h2:=List.not_of_lt_findIdx q
   rw [List.getElem_range] at h2
   exact absurd h (by simpa using h2)
theorem findIdx_end {p:Nat→Bool} {n:Nat} (hb:∀ j,j<n→p j=false):(List.range n).findIdx p=n:=by
 have h:=List.findIdx_eq_length (p:=p) (xs:=List.range n)
 rw [List.length_range] at h
 exact h.2 fun x hx=>hb x (List.mem_range.1 hx)
theorem yes_ne (b:Bool):decide (yes b≠0)=b:=by cases b<;>rfl
def lenN (x:Nat):Nat:=if x=0 then 0 else Nat.log2 x+1
theorem lenN_of {x n:Nat} (h1:x<2^n) (h2:n=0∨2^(n-1)≤x):lenN x=n:=by
 unfold lenN
 rcases h2 with h2|h2
 · subst h2
   rw [if_pos (by simpa using h1)]
 · have hp:0<2^(n-1):=Nat.pow_pos (by decide)
   have h0:x≠0:=by omega
   rw [if_neg h0]
   have q1:=(Nat.le_log2 h0).2 h2
   have q2:=(Nat.log2_lt h0).2 h1
   omega
theorem lenN_lt (x:Nat):x<2^lenN x:=by
 unfold lenN
 split
 · omega
 · next h=>exact (Nat.log2_lt h).1 (Nat.lt_succ_self _)
theorem lenN_le {x:Nat} (h:x≠0):2^(lenN x-1)≤x:=by
 unfold lenN
 rw [if_neg h]
 exact (Nat.le_log2 h).1 (Nat.le_refl _)
theorem lenN_pos {x:Nat} (h:x≠0):1≤lenN x:=by unfold lenN;rw [if_neg h];omega
theorem lenN_le64 {x:Nat} (h:x<18446744073709551616):lenN x≤64:=by
 by_cases h0:x=0
 · subst h0;decide
 · unfold lenN
   rw [if_neg h0]
   have:=(Nat.log2_lt h0).2 (show x<2^64 from h)
   omega
theorem lenN_shift {x k:Nat} (h:2^k≤x):lenN x=lenN (x / 2^k)+k:=by
 have hp:0<2^k:=Nat.pow_pos (by decide)
 have h0:x / 2^k≠0:=by
  have:=Nat.div_pos h hp
  omega
 have hl:=lenN_pos h0
 refine lenN_of ?_ (.inr ?_)
 · rw [Nat.pow_add]
   exact (Nat.div_lt_iff_lt_mul hp).1 (lenN_lt _)
 · rw [show lenN (x / 2^k)+k-1=(lenN (x / 2^k)-1)+k by omega,Nat.pow_add]
   exact (Nat.le_div_iff_mul_le hp).1 (lenN_le h0)
theorem lead_len (a:Int):leadW a=64-lenN (BitVec.ofInt 64 a).toNat:=by
 have hz:=(BitVec.ofInt 64 a).isLt
 have h64:=lenN_le64 hz
 have hlt:=lenN_lt (BitVec.ofInt 64 a).toNat
 have hbit:∀ j:Nat,j<64→decide (bitW a (63-(j:Int))≠0)=decide ((BitVec.ofInt 64 a).toNat / 2^(63-j) % 2=1):=by
  intro j hj
  rw [show (63:Int)-(j:Int)=((63-j:Nat):Int) by omega,bitW_at a (by omega),yes_ne,BitVec.getLsbD,Nat.testBit_eq_decide_div_mod_eq]
 unfold leadW
 by_cases h0:(BitVec.ofInt 64 a).toNat=0
 · rw [h0] at hbit ⊢
   rw [findIdx_end (fun j hj=>by rw [hbit j hj];simp)]
   rfl
 · have hle:=lenN_le h0
   have hp:=lenN_pos h0
   generalize hn:lenN (BitVec.ofInt 64 a).toNat=n at *
   generalize (BitVec.ofInt 64 a).toNat=z at *
   refine findIdx_at (by omega) ?_ fun j hj=>?_
   · rw [hbit _ (by omega),show 63-(64-n)=n-1 by omega]
     have e:z / 2^(n-1)=1:=by
      refine Nat.div_eq_of_lt_le (by omega) ?_
      have:2^n=2^(n-1)*2:=by rw [← Nat.pow_succ];congr 1;omega
      omega
     rw [e];rfl
   · rw [hbit _ (by omega)]
     have e:z / 2^(63-j)=0:=Nat.div_eq_of_lt (Nat.lt_of_lt_of_le hlt (Nat.pow_le_pow_right (by decide) (by omega)))
     rw [e];rfl
theorem trail_ctz (a:Int):trailW a=Lib.ctz 64 (BitVec.ofInt 64 a).toNat:=by
 have hz:=(BitVec.ofInt 64 a).isLt
 have hbit:∀ j:Nat,j<64→decide (bitW a (j:Int)≠0)=decide ((BitVec.ofInt 64 a).toNat / 2^j % 2=1):=by
  intro j hj
  rw [bitW_at a (by omega),yes_ne,BitVec.getLsbD,Nat.testBit_eq_decide_div_mod_eq]
 unfold trailW Lib.ctz
 by_cases h0:(BitVec.ofInt 64 a).toNat=0
 · rw [if_pos h0,findIdx_end (fun j hj=>by rw [hbit j hj,h0];simp)]
 · rw [if_neg h0]
   obtain ⟨m,hm,hc⟩:=Lib.ctzFrom_spec 64 _ (Nat.pos_of_ne_zero h0) hz
   generalize Lib.ctzFrom 64 (BitVec.ofInt 64 a).toNat=c at *
   generalize (BitVec.ofInt 64 a).toNat=z at *
   refine findIdx_at hc ?_ fun j hj=>?_
   · rw [hbit _ hc,hm,Nat.mul_div_cancel_left _ (Nat.pow_pos (by decide))]
     simp
   · rw [hbit _ (by omega),hm]
     have e:2^c*(2*m+1)=2^j*(2*(2^(c-j-1)*(2*m+1))):=by
      rw [show c=j+(1+(c-j-1)) by omega,Nat.pow_add,Nat.pow_add,show j+(1+(c-j-1))-j-1=c-j-1 by omega]
      simp only [Nat.pow_one,Nat.mul_assoc]
     rw [e,Nat.mul_div_cancel_left _ (Nat.pow_pos (by decide))]
     simp
end Go.Eng
