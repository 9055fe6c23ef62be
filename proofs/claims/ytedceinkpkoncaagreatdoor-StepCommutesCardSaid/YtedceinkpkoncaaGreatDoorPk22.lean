/- A part of the proof: walks through the program's functions, and what they compute. -/
import Derived.Test.YtedceinkpkoncaaGreatDoorPk13
import Derived.Test.YtedceinkpkoncaaGreatDoorPk21
import Derived.Shelf.Spec.TrailingZeros
set_option linter.unusedSimpArgs false
set_option linter.unusedVariables false
namespace Go.Eng.Tryz
open Go.RowKit Go.Eng
set_option maxHeartbeats 0
set_option maxRecDepth 20000
def ren29:Go.Shelf.Ren:={ f:=fun n=>if n=29 then 204 else 0,t:=fun n=>if n=0 then 0 else if n=3 then 3 else if n=4 then 4 else if n=5 then 5 else if n=22 then 240 else if n=25 then 209 else if n=54 then 267 else 0,g:=fun _=>0 }
theorem lays29:Go.Proofs.Lays7.n29 Go.Proofs.Tryz.prog ren29 where
 mixed:=Eq.refl true
 f29:=Eq.trans Go.Proofs.Tryz.func204 (congrArg some (Eq.refl (Go.Proofs.Body7.n29 ren29)))
 t0:=Go.Proofs.Tryz.underlying0
 a0:=Go.Proofs.Tryz.isAgg0
 z0:=Go.Proofs.Tryz.sizeOf0
 v0:=Go.Proofs.Tryz.zeroValue0
 i0:=Eq.refl (some (some (Value.tuple #[]),1,0))
 t3:=Go.Proofs.Tryz.underlying3
 a3:=Go.Proofs.Tryz.isAgg3
 z3:=Go.Proofs.Tryz.sizeOf3
 v3:=Go.Proofs.Tryz.zeroValue3
 i3:=Eq.refl (some (some (Value.int IntKind.i64 0),1,8))
 t4:=Go.Proofs.Tryz.underlying4
 a4:=Go.Proofs.Tryz.isAgg4
 z4:=Go.Proofs.Tryz.sizeOf4
 v4:=Go.Proofs.Tryz.zeroValue4
 i4:=Eq.refl (some (some (Value.bool false),1,1))
 t5:=Go.Proofs.Tryz.underlying5
 a5:=Go.Proofs.Tryz.isAgg5
 z5:=Go.Proofs.Tryz.sizeOf5
 v5:=Go.Proofs.Tryz.zeroValue5
 i5:=Eq.refl (some (some (Value.int IntKind.u8 0),1,1))
 t22:=Go.Proofs.Tryz.underlying240
 a22:=Go.Proofs.Tryz.isAgg240
 z22:=Go.Proofs.Tryz.sizeOf240
 v22:=Go.Proofs.Tryz.zeroValue240
 i22:=Eq.refl (some (some (Value.int IntKind.u64 0),1,8))
 t25:=Go.Proofs.Tryz.underlying209
 a25:=Go.Proofs.Tryz.isAgg209
 z25:=Go.Proofs.Tryz.sizeOf209
 v25:=Go.Proofs.Tryz.zeroValue209
 i25:=Eq.refl (some (some (Value.int IntKind.u64 0),1,8))
 t54:=Go.Proofs.Tryz.underlying267
 a54:=Go.Proofs.Tryz.isAgg267
 z54:=Go.Proofs.Tryz.sizeOf267
 g1:=by kernel_rfl
theorem ctz_ctr (n:Nat) (hn:n<18446744073709551616):Ctr Go.Proofs.Tryz.prog tab 204 [240] [3] [.int n] [.int (Lib.ctz 64 n)]:=by
 refine ⟨enters_of Go.Proofs.Tryz.func204 rfl rfl,fun w F xs hF hg ha=>?_⟩
 have hx:=fromVs_rel (ρ:=fun _=>.none) ha
 match xs,hx with
 | [x],hx =>
   have hx:x=.int .u64 n:=hx.1.1
   subst hx
   refine (Go.Proofs.Any7.bits_TrailingZeros64 lays29 n hn w fun _=>hg).mono ?_
   rintro e w' ⟨rfl,rfl⟩
   have hc:=ctz_le hn
   refine ⟨[.int .i64 (Lib.ctz 64 n)],rfl,Below.refl _ _,⟨⟨rfl,?_,?_⟩,fun _ _ _ h=>absurd h (by simp),trivial⟩⟩
   · exact Fits.int rfl (by unfold IntKind.has IntKind.min IntKind.max IntKind.signed IntKind.bits;simp;omega)
   · simp [ValOf,ty3,TyD.isAgg,Value.cells]
def lv182:List (Nat × List Nat):=[(0,[0]),(1,[0,3]),(2,[2]),(3,[10]),(4,[2]),(5,[2])]
theorem warity_ctr (op:Int):Ctr Go.Proofs.Tryz.prog tab 182 [43] [3] [.int op] [.int (arityW op)]:=by
 refine Ctr.body ok Go.Proofs.Tryz.func182 rfl rfl 17 rfl [.tmp 2] rfl (by simp [fromVs]) ?_
 simp only [fromVs,fromV,args0,V.toList_list,V.toInt_int,V.toBool_bool,Nat.zero_add,Nat.reduceAdd,ty43]
 repeat' first
  | ((with_reducible refine SARA.do fun R1 hR1=>?_);(simp only [go_sem,seval,-List.reduceReplicate,Bool.cond_false_right,Bool.cond_true_left]);(repeat' with_reducible refine And.intro ?_ ?_);all_goals first|(refine hR1 _ ?_;clear hR1 R1)|omega|rfl|decide|assumption|(intro _;omega)|(simp;done)|(simp [-List.getD_eq_getElem?_getD];omega)|exact hcode _|(intro _;exact hcode _)|exact hsl _|(intro _;exact hsl _))
  | ((with_reducible refine SARA.nil ?_);refine hR _ ?_;clear hR R;try simp only [go_sem,lv182,lvOf,Nat.reduceBEq,Option.getD_some])
  | (with_reducible first|refine J1 ?_|refine J2 ?_|refine J3 ?_|refine J4 ?_|refine J5 ?_|refine J6 ?_|refine J7 ?_|refine J8 (by decide) ?_|refine J9 ?_|refine J10 ?_|refine J11 ?_|refine J12 ?_|refine J13 ?_|refine J14 ?_|refine J15 ?_|refine J16 ?_|refine J17 ?_|refine J18 ?_|refine J19 ?_)
  | ((with_reducible refine J21 ok (by kernel_rfl) lv182 ?_);intro R hR;simp only [go_sem,strip])
  | ((with_reducible refine SA.cond rfl ?_ ?_)
     all_goals
      intro hb
      try simp [-List.getD_eq_getElem?_getD] at hb
      try (exfalso;omega))
  | ((with_reducible first|refine ctrK.normal ?_|refine ctrK.ret ?_)
     simp only [go_sem,resA,resV,backK,seval]
     refine ⟨rfl,congrArg (fun e=>some (V.int e)) ?_⟩
     unfold arityW
     (repeat' split)<;>first|rfl|(exfalso;omega))
def lv206:List (Nat × List Nat):=[(0,[0]),(1,[3]),(2,[2]),(3,[2])]
theorem wyes_ctr (b:Bool):Ctr Go.Proofs.Tryz.prog tab 206 [4] [2] [.bool b] [.int (yes b)]:=by
 refine Ctr.body ok Go.Proofs.Tryz.func206 rfl rfl 4 rfl [.tmp 2] rfl (by simp [fromVs]) ?_
 simp only [fromVs,fromV,args0,V.toList_list,V.toInt_int,V.toBool_bool,Nat.zero_add,Nat.reduceAdd,ty4]
 repeat' first
  | ((with_reducible refine SARA.do fun R1 hR1=>?_);(simp only [go_sem,seval,-List.reduceReplicate,Bool.cond_false_right,Bool.cond_true_left]);(repeat' with_reducible refine And.intro ?_ ?_);all_goals first|(refine hR1 _ ?_;clear hR1 R1)|omega|rfl|decide|assumption|(intro _;omega)|(simp;done)|(simp [-List.getD_eq_getElem?_getD];omega)|exact hcode _|(intro _;exact hcode _)|exact hsl _|(intro _;exact hsl _))
  | ((with_reducible refine SARA.nil ?_);refine hR _ ?_;clear hR R;try simp only [go_sem,lv206,lvOf,Nat.reduceBEq,Option.getD_some])
  | (with_reducible first|refine J1 ?_|refine J2 ?_|refine J3 ?_|refine J4 ?_|refine J5 ?_|refine J6 ?_|refine J7 ?_|refine J8 (by decide) ?_|refine J9 ?_|refine J10 ?_|refine J11 ?_|refine J12 ?_|refine J13 ?_|refine J14 ?_|refine J15 ?_|refine J16 ?_|refine J17 ?_|refine J18 ?_|refine J19 ?_)
  | ((with_reducible refine J21 ok (by kernel_rfl) lv206 ?_);intro R hR;simp only [go_sem,strip])
  | ((with_reducible refine J20 3 rfl (fun hb3=>?_) (fun hb3=>?_))
     all_goals
      try simp only [decide_eq_true_eq,decide_eq_false_iff_not] at hb3)
  | ((with_reducible first|refine ctrK.normal ?_|refine ctrK.ret ?_)
     simp only [go_sem,resA,resV,backK,seval]
     have q:=hb3
     rw [hb3]
     exact ⟨rfl,rfl⟩)
def lv202:List (Nat × List Nat):=[(0,[0]),(1,[0]),(2,[0]),(3,[0]),(4,[0]),(5,[0]),(6,[0]),(7,[2])]
theorem ones_ctr (n:Nat) (hn:n<18446744073709551616):Ctr Go.Proofs.Tryz.prog tab 202 [240] [3] [.int n] [.int (onesN n)]:=by
 refine Ctr.body ok Go.Proofs.Tryz.func202 rfl rfl 35 rfl [.tmp 2] rfl (by simp [fromVs]) ?_
 simp only [fromVs,fromV,args0,V.toList_list,V.toInt_int,V.toBool_bool,Nat.zero_add,Nat.reduceAdd,ty240]
 repeat' first
  | ((with_reducible refine SARA.do fun R1 hR1=>?_);(simp only [go_sem,seval,-List.reduceReplicate,Bool.cond_false_right,Bool.cond_true_left]);(repeat' with_reducible refine And.intro ?_ ?_);all_goals first|(refine hR1 _ ?_;clear hR1 R1)|omega|decide|(intro _;omega)|(intro _;decide))
  | ((with_reducible refine SARA.nil ?_);refine hR _ ?_;clear hR R;try simp only [go_sem,lv202,lvOf,Nat.reduceBEq,Option.getD_some])
  | (with_reducible first|refine J1 ?_|refine J2 ?_|refine J3 ?_|refine J4 ?_|refine J5 ?_|refine J6 ?_|refine J7 ?_|refine J8 (by decide) ?_|refine J9 ?_|refine J10 ?_|refine J11 ?_|refine J12 ?_|refine J13 ?_|refine J14 ?_|refine J15 ?_|refine J16 ?_|refine J17 ?_|refine J18 ?_|refine J19 ?_)
  | ((with_reducible refine J21 ok (by kernel_rfl) lv202 ?_);intro R hR;simp only [go_sem,strip])
  | ((with_reducible first|refine ctrK.normal ?_|refine ctrK.ret ?_)
     simp only [go_sem,resA,resV,backK,seval]
     exact ⟨rfl,congrArg (fun e=>some (V.int e)) (ones_form hn)⟩)
def lv207:List (Nat × List Nat):=[(0,[0,1]),(1,[0,5]),(2,[4])]
theorem rotl_ctr (x k:Int) (hk:0≤k∧k<64):Ctr Go.Proofs.Tryz.prog tab 207 [240,3] [240] [.int x,.int k] [.int (rotE x k)]:=by
 refine Ctr.body ok Go.Proofs.Tryz.func207 rfl rfl 17 rfl [.tmp 4] rfl (by simp [fromVs]) ?_
 simp only [fromVs,fromV,args0,V.toList_list,V.toInt_int,V.toBool_bool,Nat.zero_add,Nat.reduceAdd,ty3,ty240]
 repeat' first
  | ((with_reducible refine SARA.do fun R1 hR1=>?_);(simp only [go_sem,seval,-List.reduceReplicate,Bool.cond_false_right,Bool.cond_true_left]);(repeat' with_reducible refine And.intro ?_ ?_);all_goals first|(refine hR1 _ ?_;clear hR1 R1)|omega|decide|(intro _;omega)|(intro _;decide))
  | ((with_reducible refine SARA.nil ?_);refine hR _ ?_;clear hR R;try simp only [go_sem,lv207,lvOf,Nat.reduceBEq,Option.getD_some])
  | (with_reducible first|refine J1 ?_|refine J2 ?_|refine J3 ?_|refine J4 ?_|refine J5 ?_|refine J6 ?_|refine J7 ?_|refine J8 (by decide) ?_|refine J9 ?_|refine J10 ?_|refine J11 ?_|refine J12 ?_|refine J13 ?_|refine J14 ?_|refine J15 ?_|refine J16 ?_|refine J17 ?_|refine J18 ?_|refine J19 ?_)
  | ((with_reducible refine J21 ok (by kernel_rfl) lv207 ?_);intro R hR;simp only [go_sem,strip])
  | ((with_reducible first|refine ctrK.normal ?_|refine ctrK.ret ?_)
     simp only [go_sem,resA,resV,backK,seval]
     exact ⟨rfl,congrArg (fun e=>some (V.int e)) (rotE_eq hk)⟩)
def lv210:List (Nat × List Nat):=[(0,[0,1]),(1,[0,1,6]),(2,[0,1,6,7]),(3,[0,1,6,7,8]),(4,[0,1,6,7,8,9]),(5,[0,1,6,7,8,9,10]),(6,[0,1,6,7,9,11]),(7,[0,1,6,7,9,11,12]),(8,[0,1,6,7,9,12,13]),(9,[0,1,7,9,12,13]),(10,[0,1,4]),(11,[4,5])]
theorem mul64_ctr (x y:Nat) (hx:x<18446744073709551616) (hy:y<18446744073709551616):Ctr Go.Proofs.Tryz.prog tab 210 [240,240] [240,240] [.int x,.int y] [.int ((x*y / 18446744073709551616:Nat):Int),.int ((x*y % 18446744073709551616:Nat):Int)]:=by
 refine Ctr.body ok Go.Proofs.Tryz.func210 rfl rfl 51 rfl [.tmp 4,.tmp 5] rfl (by simp [fromVs]) ?_
 simp only [fromVs,fromV,args0,V.toList_list,V.toInt_int,V.toBool_bool,Nat.zero_add,Nat.reduceAdd,ty240]
 repeat' first
  | ((with_reducible refine SARA.do fun R1 hR1=>?_);(simp only [go_sem,seval,-List.reduceReplicate,Bool.cond_false_right,Bool.cond_true_left]);(repeat' with_reducible refine And.intro ?_ ?_);all_goals first|(refine hR1 _ ?_;clear hR1 R1)|omega|decide|(intro _;omega)|(intro _;decide))
  | ((with_reducible refine SARA.nil ?_);refine hR _ ?_;clear hR R;try simp only [go_sem,lv210,lvOf,Nat.reduceBEq,Option.getD_some])
  | (with_reducible first|refine J1 ?_|refine J2 ?_|refine J3 ?_|refine J4 ?_|refine J5 ?_|refine J6 ?_|refine J7 ?_|refine J8 (by decide) ?_|refine J9 ?_|refine J10 ?_|refine J11 ?_|refine J12 ?_|refine J13 ?_|refine J14 ?_|refine J15 ?_|refine J16 ?_|refine J17 ?_|refine J18 ?_|refine J19 ?_)
  | ((with_reducible refine J21 ok (by kernel_rfl) lv210 ?_);intro R hR;simp only [go_sem,strip])
  | ((with_reducible first|refine ctrK.normal ?_|refine ctrK.ret ?_)
     simp only [go_sem,resA,resV,backK,seval]
     exact ⟨⟨rfl,congrArg (fun e=>some (V.int e)) (mulHi_eq hx hy)⟩,rfl,congrArg (fun e=>some (V.int e)) ((congrArg IntKind.u64.wrap (mulN x y)).trans (wrapM _))⟩)
def lv184:List (Nat × List Nat):=[(0,[0,1,2]),(1,[0,1,2,8]),(2,[6,7]),(3,[0,1,2,11]),(4,[6,7]),(5,[1,2,20]),(6,[6,7]),(7,[1,2,26]),(8,[6,7]),(9,[6,7])]
theorem wdivided_ctr (op a b:Int) (hop:op=19∨op=20) (ha : -9223372036854775808≤a∧a<9223372036854775808) (hb : -9223372036854775808≤b∧b<9223372036854775808):Ctr Go.Proofs.Tryz.prog tab 184 [43,2,2] [2,49] [.int op,.int a,.int b] [.int (twoW op a b).1,.int (twoW op a b).2]:=by
 refine Ctr.body ok Go.Proofs.Tryz.func184 rfl rfl 32 rfl [.tmp 6,.tmp 7] rfl (by simp [fromVs]) ?_
 simp only [fromVs,fromV,args0,V.toList_list,V.toInt_int,V.toBool_bool,Nat.zero_add,Nat.reduceAdd,ty2,ty43]
 repeat' first
  | ((with_reducible refine SARA.do fun R1 hR1=>?_);(simp only [go_sem,seval,-List.reduceReplicate,Bool.cond_false_right,Bool.cond_true_left]);(repeat' with_reducible refine And.intro ?_ ?_);all_goals first|(refine hR1 _ ?_;clear hR1 R1)|omega|decide|(intro _;omega)|(intro _;decide))
  | ((with_reducible refine SARA.nil ?_);refine hR _ ?_;clear hR R;try simp only [go_sem,lv184,lvOf,Nat.reduceBEq,Option.getD_some])
  | (with_reducible first|refine J1 ?_|refine J2 ?_|refine J3 ?_|refine J4 ?_|refine J5 ?_|refine J6 ?_|refine J7 ?_|refine J8 (by decide) ?_|refine J9 ?_|refine J10 ?_|refine J11 ?_|refine J12 ?_|refine J13 ?_|refine J14 ?_|refine J15 ?_|refine J16 ?_|refine J17 ?_|refine J18 ?_|refine J19 ?_)
  | ((with_reducible refine J21 ok (by kernel_rfl) lv184 ?_);intro R hR;simp only [go_sem,strip])
  | ((with_reducible refine J20 8 rfl (fun hb8=>?_) (fun hb8=>?_))
     all_goals
      try simp [-List.getD_eq_getElem?_getD] at hb8
      try (exfalso;omega))
  | ((with_reducible refine J20 11 rfl (fun hb11=>?_) (fun hb11=>?_))
     all_goals
      try simp [-List.getD_eq_getElem?_getD] at hb11
      try (exfalso;omega))
  | ((with_reducible refine J20 20 rfl (fun hb20=>?_) (fun hb20=>?_))
     all_goals
      try simp [-List.getD_eq_getElem?_getD] at hb20
      try (exfalso;omega))
  | ((with_reducible refine J20 26 rfl (fun hb26=>?_) (fun hb26=>?_))
     all_goals
      try simp [-List.getD_eq_getElem?_getD] at hb26
      try (exfalso;omega))
  | ((with_reducible first|refine ctrK.normal ?_|refine ctrK.ret ?_)
     simp only [go_sem,resA,resV,backK,seval]
     first
      | (have q:b=0:=hb8
         have e:twoW op a b=(0,20):=by
          unfold twoW
          rw [if_neg (by omega),if_neg (by omega),if_neg (by omega),if_pos hop]
          (repeat' split)<;>first|rfl|(exfalso;omega)|(rw [rem_W ha])
         rw [e]
         exact ⟨⟨rfl,rfl⟩,rfl,rfl⟩)
      | (have q:_∧_:=hb11
         have e:twoW op a b=(IntKind.i64.wrap (0-a),0):=by
          unfold twoW
          rw [if_neg (by omega),if_neg (by omega),if_neg (by omega),if_pos hop]
          (repeat' split)<;>first|rfl|(exfalso;omega)|(rw [rem_W ha])
         rw [e]
         exact ⟨⟨rfl,rfl⟩,rfl,rfl⟩)
      | (have q:op=19:=hb20
         have e:twoW op a b=(IntKind.i64.wrap (a.tdiv b),0):=by
          unfold twoW
          rw [if_neg (by omega),if_neg (by omega),if_neg (by omega),if_pos hop]
          (repeat' split)<;>first|rfl|(exfalso;omega)|(rw [rem_W ha])
         rw [e]
         exact ⟨⟨rfl,rfl⟩,rfl,rfl⟩)
      | (have q:b = -1:=hb26
         have e:twoW op a b=(0,0):=by
          unfold twoW
          rw [if_neg (by omega),if_neg (by omega),if_neg (by omega),if_pos hop]
          (repeat' split)<;>first|rfl|(exfalso;omega)|(rw [rem_W ha])
         rw [e]
         exact ⟨⟨rfl,rfl⟩,rfl,rfl⟩)
      | (have q:¬b = -1:=hb26
         have e:twoW op a b=(a.tmod b,0):=by
          unfold twoW
          rw [if_neg (by omega),if_neg (by omega),if_neg (by omega),if_pos hop]
          (repeat' split)<;>first|rfl|(exfalso;omega)|(rw [rem_W ha])
         rw [e]
         exact ⟨⟨rfl,rfl⟩,rfl,rfl⟩))
def lv185:List (Nat × List Nat):=[(0,[0,1,2]),(1,[0,1,2,8]),(2,[6,7]),(3,[0,1,2,11]),(4,[6,7]),(5,[1,2,18]),(6,[6,7]),(7,[6,7])]
theorem wshifted_ctr (op a b:Int) (hop:op=25∨op=26∨op=27) (ha : -9223372036854775808≤a∧a<9223372036854775808) (hb : -9223372036854775808≤b∧b<9223372036854775808):Ctr Go.Proofs.Tryz.prog tab 185 [43,2,2] [2,49] [.int op,.int a,.int b] [.int (twoW op a b).1,.int (twoW op a b).2]:=by
 refine Ctr.body ok Go.Proofs.Tryz.func185 rfl rfl 31 rfl [.tmp 6,.tmp 7] rfl (by simp [fromVs]) ?_
 simp only [fromVs,fromV,args0,V.toList_list,V.toInt_int,V.toBool_bool,Nat.zero_add,Nat.reduceAdd,ty2,ty43]
 repeat' first
  | ((with_reducible refine SARA.do fun R1 hR1=>?_);(simp only [go_sem,seval,-List.reduceReplicate,Bool.cond_false_right,Bool.cond_true_left]);(repeat' with_reducible refine And.intro ?_ ?_);all_goals first|(refine hR1 _ ?_;clear hR1 R1)|omega|decide|(intro _;omega)|(intro _;decide))
  | ((with_reducible refine SARA.nil ?_);refine hR _ ?_;clear hR R;try simp only [go_sem,lv185,lvOf,Nat.reduceBEq,Option.getD_some])
  | (with_reducible first|refine J1 ?_|refine J2 ?_|refine J3 ?_|refine J4 ?_|refine J5 ?_|refine J6 ?_|refine J7 ?_|refine J8 (by decide) ?_|refine J9 ?_|refine J10 ?_|refine J11 ?_|refine J12 ?_|refine J13 ?_|refine J14 ?_|refine J15 ?_|refine J16 ?_|refine J17 ?_|refine J18 ?_|refine J19 ?_)
  | ((with_reducible refine J21 ok (by kernel_rfl) lv185 ?_);intro R hR;simp only [go_sem,strip])
  | ((with_reducible refine J20 8 rfl (fun hb8=>?_) (fun hb8=>?_))
     all_goals
      try simp [-List.getD_eq_getElem?_getD] at hb8
      try (exfalso;omega))
  | ((with_reducible refine J20 11 rfl (fun hb11=>?_) (fun hb11=>?_))
     all_goals
      try simp [-List.getD_eq_getElem?_getD] at hb11
      try (exfalso;omega))
  | ((with_reducible refine J20 18 rfl (fun hb18=>?_) (fun hb18=>?_))
     all_goals
      try simp [-List.getD_eq_getElem?_getD] at hb18
      try (exfalso;omega))
  | ((with_reducible first|refine ctrK.normal ?_|refine ctrK.ret ?_)
     simp only [go_sem,resA,resV,backK,seval]
     first
      | (have q:b<0:=hb8
         have e:twoW op a b=(0,21):=by
          unfold twoW
          rw [if_neg (by omega),if_neg (by omega),if_neg (by omega),if_neg (by omega),if_neg (by omega),if_pos hop]
          exact if_pos hb8
         rw [e]
         exact ⟨⟨rfl,rfl⟩,rfl,rfl⟩)
      | (have q:op=25:=hb11
         have e:twoW op a b=(IntKind.i64.wrap (a*2^min b.toNat 64),0):=by
          unfold twoW
          rw [if_neg (by omega),if_neg (by omega),if_neg (by omega),if_neg (by omega),if_neg (by omega),if_pos hop]
          rw [if_neg (by omega),if_pos hb11,shl_W a hb8]
         rw [e,shift_at ⟨hb8,hb.2⟩]
         exact ⟨⟨rfl,rfl⟩,rfl,rfl⟩)
      | (have q:op=26:=hb18
         have e:twoW op a b=(a.fdiv (2^min b.toNat 64),0):=by
          unfold twoW
          rw [if_neg (by omega),if_neg (by omega),if_neg (by omega),if_neg (by omega),if_neg (by omega),if_pos hop]
          rw [if_neg (by omega),if_neg (by omega),if_pos hb18,sar_W (i64_ok ha.1 ha.2) hb8,sar_in ha]
         rw [e,shift_at ⟨hb8,hb.2⟩]
         exact ⟨⟨rfl,rfl⟩,rfl,rfl⟩)
      | (have q:¬op=26:=hb18
         have e:twoW op a b=(IntKind.i64.wrap ((IntKind.u64.wrap a).fdiv (2^min b.toNat 64)),0):=by
          unfold twoW
          rw [if_neg (by omega),if_neg (by omega),if_neg (by omega),if_neg (by omega),if_neg (by omega),if_pos hop]
          rw [if_neg (by omega),if_neg (by omega),if_neg (by omega),shr_W a hb8]
         rw [e,shift_at ⟨hb8,hb.2⟩]
         exact ⟨⟨rfl,rfl⟩,rfl,rfl⟩))
def lv205:List (Nat × List Nat):=[(0,[0]),(1,[0,3]),(2,[0,3,5]),(3,[0,3,5,6]),(4,[0,3,4,5]),(5,[0,3,5]),(6,[0,3,5]),(7,[2])]
theorem wflip_ctr (a:Int):Ctr Go.Proofs.Tryz.prog tab 205 [2] [2] [.int a] [.int (upto (flipR a) 0 64)]:=by
 refine Ctr.body ok Go.Proofs.Tryz.func205 rfl rfl 21 rfl [.tmp 2] rfl (by simp [fromVs]) ?_
 simp only [fromVs,fromV,args0,V.toList_list,V.toInt_int,V.toBool_bool,Nat.zero_add,Nat.reduceAdd,ty2]
 repeat' first
  | ((with_reducible refine SARA.do fun R1 hR1=>?_);(simp only [go_sem,seval,-List.reduceReplicate,Bool.cond_false_right,Bool.cond_true_left]);(repeat' with_reducible refine And.intro ?_ ?_);all_goals first|(refine hR1 _ ?_;clear hR1 R1)|omega|decide|(intro _;omega)|(intro _;decide)|(rw [i64_ok (by omega) (by omega)];omega)|(intro _;rw [i64_ok (by omega) (by omega)];omega))
  | ((with_reducible refine SARA.nil ?_);refine hR _ ?_;clear hR R;try simp only [go_sem,lv205,lvOf,Nat.reduceBEq,Option.getD_some])
  | (with_reducible first|refine J1 ?_|refine J2 ?_|refine J3 ?_|refine J4 ?_|refine J5 ?_|refine J6 ?_|refine J7 ?_|refine J8 (by decide) ?_|refine J9 ?_|refine J10 ?_|refine J11 ?_|refine J12 ?_|refine J13 ?_|refine J14 ?_|refine J15 ?_|refine J16 ?_|refine J17 ?_|refine J18 ?_|refine J19 ?_)
  | ((with_reducible refine J21 ok (by kernel_rfl) lv205 ?_);intro R hR;simp only [go_sem,strip])
  | ((with_reducible refine SA.cond rfl ?_ ?_)
     all_goals
      intro hb
      try simp [-List.getD_eq_getElem?_getD] at hb
      try (exfalso;omega))
  | ((with_reducible refine SA.atLoop ?_)
     refine SA.weaken (St.le.of_eq (by first|rfl|(simp;done)|fail)) (SA.loop (fun n τ=>∃ (i:Nat),n=64-i∧(i≤64)∧τ={ tm:=[(0,true,.int .i64 a),(3,true,.int .u64 (upto (flipS a) 0 i)),(5,true,.int .i64 i)],ob:=[],out:=[],nt:=21 }) (64) ⟨0,rfl,by omega,rfl⟩ ?_)
     rintro n τ ⟨i,hn,hi,rfl⟩)
  | ((with_reducible refine loopK.round ?_)
     first
      | (have hlt:i<64:=by omega
         have hw:=wrap_succ (n:=i) (m:=256) (by omega) (by decide)
         have h63:(IntKind.i64.wrap (63-(i:Int))).toNat=63-i:=by rw [i64_ok (by omega) (by omega)];omega
         refine loopK.normal (64-(i+1)) _ (by omega) ((St.le.of_eq (by simp only [hw,h63,Int.toNat_natCast];rfl))) ⟨i+1,rfl,hlt,rfl⟩))
  | ((with_reducible first|refine ctrK.normal ?_|refine ctrK.ret ?_)
     simp only [go_sem,resA,resV,backK,seval]
     have e:i=64:=by omega
     subst e
     exact ⟨rfl,congrArg (fun e=>some (V.int e)) (flip_eq a)⟩)
def lv176:List (Nat × List Nat):=[(0,[0,2]),(1,[0,2,4]),(2,[0]),(3,[0,2]),(4,[0,2,8]),(5,[0,2]),(6,[0,2]),(7,[0,2,14]),(8,[0,2]),(9,[0,2]),(10,[2])]
theorem lenN_ctr (n:Nat) (hn:n<18446744073709551616):Ctr Go.Proofs.Tryz.prog tab 176 [240] [3] [.int n] [.int (lenN n)]:=by
 refine Ctr.body ok Go.Proofs.Tryz.func176 rfl rfl 25 rfl [.tmp 2] rfl (by simp [fromVs]) ?_
 simp only [fromVs,fromV,args0,V.toList_list,V.toInt_int,V.toBool_bool,Nat.zero_add,Nat.reduceAdd,ty240]
 repeat' first
  | ((with_reducible refine SARA.told 2 2 ?_)
     simp only [f32'])
  | ((with_reducible refine SARA.told 5 2 ?_)
     simp only [f16'])
  | ((with_reducible refine SARA.told 8 2 ?_)
     simp only [f8'])
  | ((with_reducible refine SARA.do fun R1 hR1=>?_);(simp only [go_sem,seval,-List.reduceReplicate,Bool.cond_false_right,Bool.cond_true_left]);(repeat' with_reducible refine And.intro ?_ ?_);all_goals first|(refine hR1 _ ?_;clear hR1 R1)|omega|decide|(intro _;omega)|(intro _;decide)|exact u8_range hsz _|exact (u8_range hsz _).1|exact (u8_range hsz _).2|(intro _;exact u8_range hsz _)|(intro _;exact (u8_range hsz _).1)|(intro _;exact (u8_range hsz _).2))
  | ((with_reducible refine SARA.nil ?_);refine hR _ ?_;clear hR R;try simp only [go_sem,lv176,lvOf,Nat.reduceBEq,Option.getD_some])
  | (with_reducible first|refine J1 ?_|refine J2 ?_|refine J3 ?_|refine J4 ?_|refine J5 ?_|refine J6 ?_|refine J7 ?_|refine J8 (by decide) ?_|refine J9 ?_|refine J10 ?_|refine J11 ?_|refine J12 ?_|refine J13 ?_|refine J14 ?_|refine J15 ?_|refine J16 ?_|refine J17 ?_|refine J18 ?_|refine J19 ?_)
  | ((with_reducible refine SA.at 0 ?_)
     generalize hTB:ByteArray.mk _=TB
     have hsz:TB.size=256:=by rw [← hTB];rfl
     have hv:∀ n:Fin 256,(((TB.data[n.1]?).getD 0).toNat:Nat)=lenN n.1:=by
      rw [← hTB]
      decide +kernel
     clear hTB
     (with_reducible refine J21 ok (by kernel_rfl) lv176 ?_);intro R hR;simp only [go_sem,strip])
  | ((with_reducible refine J21 ok (by kernel_rfl) lv176 ?_);intro R hR;simp only [go_sem,strip])
  | ((with_reducible refine J20 4 rfl (fun hb4=>?_) (fun hb4=>?_))
     all_goals
      try simp [-List.getD_eq_getElem?_getD] at hb4
      try (exfalso;omega))
  | ((with_reducible refine J20 8 rfl (fun hb8=>?_) (fun hb8=>?_))
     all_goals
      try simp [-List.getD_eq_getElem?_getD] at hb8
      try (exfalso;omega))
  | ((with_reducible refine J20 14 rfl (fun hb14=>?_) (fun hb14=>?_))
     all_goals
      try simp [-List.getD_eq_getElem?_getD] at hb14
      try (exfalso;omega))
  | ((with_reducible first|refine ctrK.normal ?_|refine ctrK.ret ?_)
     simp only [go_sem,resA,resV,backK,seval]
     first
      | (have q0:n<4294967296:=by omega
         have q1:n<65536:=by omega
         have q2:n<256:=by omega
         have hX:n<256:=by omega
         have hl:=lenN_le64 (x:=n) (by omega)
         refine ⟨rfl,congrArg (fun e=>some (V.int e)) ?_⟩
         try simp only [f32',f16',f8']
         rw [u8_at hX,hv ⟨n,hX⟩]
         try simp only [w48,w40,w16,w8,Int.reduceAdd,w56,w24]
         rw [i64_ok (x:=(lenN n:Int)) (by omega) (by omega),i64_ok (by omega) (by omega)]
         omega)
      | (have q0:n<4294967296:=by omega
         have q1:n<65536:=by omega
         have q2:256≤n:=by omega
         have s0:lenN n=lenN (n / 256)+8:=lenN_8 (x:=n) (by omega)
         have hX:(n / 256)<256:=by omega
         have hl:=lenN_le64 (x:=(n / 256)) (by omega)
         refine ⟨rfl,congrArg (fun e=>some (V.int e)) ?_⟩
         try simp only [f32',f16',f8']
         rw [u8_at hX,hv ⟨(n / 256),hX⟩]
         try simp only [w48,w40,w16,w8,Int.reduceAdd,w56,w24]
         rw [i64_ok (x:=(lenN (n / 256):Int)) (by omega) (by omega),i64_ok (by omega) (by omega)]
         omega)
      | (have q0:n<4294967296:=by omega
         have q1:65536≤n:=by omega
         have q2:(n / 65536)<256:=by omega
         have s0:lenN n=lenN (n / 65536)+16:=lenN_16 (x:=n) (by omega)
         have hX:(n / 65536)<256:=by omega
         have hl:=lenN_le64 (x:=(n / 65536)) (by omega)
         refine ⟨rfl,congrArg (fun e=>some (V.int e)) ?_⟩
         try simp only [f32',f16',f8']
         rw [u8_at hX,hv ⟨(n / 65536),hX⟩]
         try simp only [w48,w40,w16,w8,Int.reduceAdd,w56,w24]
         rw [i64_ok (x:=(lenN (n / 65536):Int)) (by omega) (by omega),i64_ok (by omega) (by omega)]
         omega)
      | (have q0:n<4294967296:=by omega
         have q1:65536≤n:=by omega
         have q2:256≤(n / 65536):=by omega
         have s0:lenN n=lenN (n / 65536)+16:=lenN_16 (x:=n) (by omega)
         have s1:lenN (n / 65536)=lenN ((n / 65536) / 256)+8:=lenN_8 (x:=(n / 65536)) (by omega)
         have hX:((n / 65536) / 256)<256:=by omega
         have hl:=lenN_le64 (x:=((n / 65536) / 256)) (by omega)
         refine ⟨rfl,congrArg (fun e=>some (V.int e)) ?_⟩
         try simp only [f32',f16',f8']
         rw [u8_at hX,hv ⟨((n / 65536) / 256),hX⟩]
         try simp only [w48,w40,w16,w8,Int.reduceAdd,w56,w24]
         rw [i64_ok (x:=(lenN ((n / 65536) / 256):Int)) (by omega) (by omega),i64_ok (by omega) (by omega)]
         omega)
      | (have q0:4294967296≤n:=by omega
         have q1:(n / 4294967296)<65536:=by omega
         have q2:(n / 4294967296)<256:=by omega
         have s0:lenN n=lenN (n / 4294967296)+32:=lenN_32 (x:=n) (by omega)
         have hX:(n / 4294967296)<256:=by omega
         have hl:=lenN_le64 (x:=(n / 4294967296)) (by omega)
         refine ⟨rfl,congrArg (fun e=>some (V.int e)) ?_⟩
         try simp only [f32',f16',f8']
         rw [u8_at hX,hv ⟨(n / 4294967296),hX⟩]
         try simp only [w48,w40,w16,w8,Int.reduceAdd,w56,w24]
         rw [i64_ok (x:=(lenN (n / 4294967296):Int)) (by omega) (by omega),i64_ok (by omega) (by omega)]
         omega)
      | (have q0:4294967296≤n:=by omega
         have q1:(n / 4294967296)<65536:=by omega
         have q2:256≤(n / 4294967296):=by omega
         have s0:lenN n=lenN (n / 4294967296)+32:=lenN_32 (x:=n) (by omega)
         have s1:lenN (n / 4294967296)=lenN ((n / 4294967296) / 256)+8:=lenN_8 (x:=(n / 4294967296)) (by omega)
         have hX:((n / 4294967296) / 256)<256:=by omega
         have hl:=lenN_le64 (x:=((n / 4294967296) / 256)) (by omega)
         refine ⟨rfl,congrArg (fun e=>some (V.int e)) ?_⟩
         try simp only [f32',f16',f8']
         rw [u8_at hX,hv ⟨((n / 4294967296) / 256),hX⟩]
         try simp only [w48,w40,w16,w8,Int.reduceAdd,w56,w24]
         rw [i64_ok (x:=(lenN ((n / 4294967296) / 256):Int)) (by omega) (by omega),i64_ok (by omega) (by omega)]
         omega)
      | (have q0:4294967296≤n:=by omega
         have q1:65536≤(n / 4294967296):=by omega
         have q2:((n / 4294967296) / 65536)<256:=by omega
         have s0:lenN n=lenN (n / 4294967296)+32:=lenN_32 (x:=n) (by omega)
         have s1:lenN (n / 4294967296)=lenN ((n / 4294967296) / 65536)+16:=lenN_16 (x:=(n / 4294967296)) (by omega)
         have hX:((n / 4294967296) / 65536)<256:=by omega
         have hl:=lenN_le64 (x:=((n / 4294967296) / 65536)) (by omega)
         refine ⟨rfl,congrArg (fun e=>some (V.int e)) ?_⟩
         try simp only [f32',f16',f8']
         rw [u8_at hX,hv ⟨((n / 4294967296) / 65536),hX⟩]
         try simp only [w48,w40,w16,w8,Int.reduceAdd,w56,w24]
         rw [i64_ok (x:=(lenN ((n / 4294967296) / 65536):Int)) (by omega) (by omega),i64_ok (by omega) (by omega)]
         omega)
      | (have q0:4294967296≤n:=by omega
         have q1:65536≤(n / 4294967296):=by omega
         have q2:256≤((n / 4294967296) / 65536):=by omega
         have s0:lenN n=lenN (n / 4294967296)+32:=lenN_32 (x:=n) (by omega)
         have s1:lenN (n / 4294967296)=lenN ((n / 4294967296) / 65536)+16:=lenN_16 (x:=(n / 4294967296)) (by omega)
         have s2:lenN ((n / 4294967296) / 65536)=lenN (((n / 4294967296) / 65536) / 256)+8:=lenN_8 (x:=((n / 4294967296) / 65536)) (by omega)
         have hX:(((n / 4294967296) / 65536) / 256)<256:=by omega
         have hl:=lenN_le64 (x:=(((n / 4294967296) / 65536) / 256)) (by omega)
         refine ⟨rfl,congrArg (fun e=>some (V.int e)) ?_⟩
         try simp only [f32',f16',f8']
         rw [u8_at hX,hv ⟨(((n / 4294967296) / 65536) / 256),hX⟩]
         try simp only [w48,w40,w16,w8,Int.reduceAdd,w56,w24]
         rw [i64_ok (x:=(lenN (((n / 4294967296) / 65536) / 256):Int)) (by omega) (by omega),i64_ok (by omega) (by omega)]
         omega))
def lv203:List (Nat × List Nat):=[(0,[0]),(1,[2])]
theorem lead_ctr (n:Nat) (hn:n<18446744073709551616):Ctr Go.Proofs.Tryz.prog tab 203 [240] [3] [.int n] [.int (64-(lenN n:Int))]:=by
 refine Ctr.body ok Go.Proofs.Tryz.func203 rfl rfl 6 rfl [.tmp 2] rfl (by simp [fromVs]) ?_
 simp only [fromVs,fromV,args0,V.toList_list,V.toInt_int,V.toBool_bool,Nat.zero_add,Nat.reduceAdd,ty240]
 repeat' first
  | ((with_reducible refine SARA.do fun R1 hR1=>?_);(simp only [go_sem,seval,-List.reduceReplicate,Bool.cond_false_right,Bool.cond_true_left]);(repeat' with_reducible refine And.intro ?_ ?_);all_goals first|(refine hR1 _ ?_;clear hR1 R1)|((first|refine cq (cc (lenN_ctr n hn)) ?_);all_goals ((try simp only [go_sem,seval,-List.reduceReplicate,Bool.cond_false_right,Bool.cond_true_left]);(repeat' with_reducible refine And.intro ?_ ?_);all_goals first|(refine hR1 _ ?_;clear hR1 R1)|omega|decide|(intro _;omega)|(intro _;decide)))|omega|decide|(intro _;omega)|(intro _;decide))
  | ((with_reducible refine SARA.nil ?_);refine hR _ ?_;clear hR R;try simp only [go_sem,lv203,lvOf,Nat.reduceBEq,Option.getD_some])
  | (with_reducible first|refine J1 ?_|refine J2 ?_|refine J3 ?_|refine J4 ?_|refine J5 ?_|refine J6 ?_|refine J7 ?_|refine J8 (by decide) ?_|refine J9 ?_|refine J10 ?_|refine J11 ?_|refine J12 ?_|refine J13 ?_|refine J14 ?_|refine J15 ?_|refine J16 ?_|refine J17 ?_|refine J18 ?_|refine J19 ?_)
  | ((with_reducible refine J21 ok (by kernel_rfl) lv203 ?_);intro R hR;simp only [go_sem,strip])
  | ((with_reducible first|refine ctrK.normal ?_|refine ctrK.ret ?_)
     simp only [go_sem,resA,resV,backK,seval]
     have hl:=lenN_le64 hn
     exact ⟨rfl,congrArg (fun e=>some (V.int e)) (i64_ok (by omega) (by omega))⟩)
def lv208:List (Nat × List Nat):=[(0,[0,1]),(1,[0,1,6,7]),(2,[0,1,6,7,17]),(3,[0,1,6,7]),(4,[0,6,7,23]),(5,[6,7]),(6,[4,5])]
theorem wwide_ctr (a b:Int) (ha : -9223372036854775808≤a∧a<9223372036854775808) (hb : -9223372036854775808≤b∧b<9223372036854775808):Ctr Go.Proofs.Tryz.prog tab 208 [2,2] [2,240] [.int a,.int b] [.int (wideW a b).1,.int (wideW a b).2]:=by
 obtain ⟨ua,hua⟩:∃ n:Nat,IntKind.u64.wrap a=(n:Int):=⟨_,wrapu_bv a⟩
 obtain ⟨ub,hub⟩:∃ n:Nat,IntKind.u64.wrap b=(n:Int):=⟨_,wrapu_bv b⟩
 have h1:ua<18446744073709551616:=by rw [u64_emod] at hua;omega
 have h2:ub<18446744073709551616:=by rw [u64_emod] at hub;omega
 refine Ctr.body ok Go.Proofs.Tryz.func208 rfl rfl 31 rfl [.tmp 4,.tmp 5] rfl (by simp [fromVs]) ?_
 simp only [fromVs,fromV,args0,V.toList_list,V.toInt_int,V.toBool_bool,Nat.zero_add,Nat.reduceAdd,ty2]
 repeat' first
  | ((with_reducible refine SARA.do fun R1 hR1=>?_);(simp only [go_sem,seval,-List.reduceReplicate,Bool.cond_false_right,Bool.cond_true_left,hua,hub]);(repeat' with_reducible refine And.intro ?_ ?_);all_goals first|(refine hR1 _ ?_;clear hR1 R1)|((first|refine ce (cf (mul64_ctr ua ub h1 h2) ?_));all_goals ((try simp only [go_sem,seval,-List.reduceReplicate,Bool.cond_false_right,Bool.cond_true_left,hua,hub]);(repeat' with_reducible refine And.intro ?_ ?_);all_goals first|(refine hR1 _ ?_;clear hR1 R1)|omega|decide|(intro _;omega)|(intro _;decide)))|omega|decide|(intro _;omega)|(intro _;decide))
  | ((with_reducible refine SARA.nil ?_);refine hR _ ?_;clear hR R;try simp only [go_sem,lv208,lvOf,Nat.reduceBEq,Option.getD_some])
  | (with_reducible first|refine J1 ?_|refine J2 ?_|refine J3 ?_|refine J4 ?_|refine J5 ?_|refine J6 ?_|refine J7 ?_|refine J8 (by decide) ?_|refine J9 ?_|refine J10 ?_|refine J11 ?_|refine J12 ?_|refine J13 ?_|refine J14 ?_|refine J15 ?_|refine J16 ?_|refine J17 ?_|refine J18 ?_|refine J19 ?_)
  | ((with_reducible refine J21 ok (by kernel_rfl) lv208 ?_);intro R hR;simp only [go_sem,strip])
  | ((with_reducible refine J20 17 rfl (fun hb17=>?_) (fun hb17=>?_))
     all_goals
      try simp [-List.getD_eq_getElem?_getD] at hb17
      try (exfalso;omega))
  | ((with_reducible refine J20 23 rfl (fun hb23=>?_) (fun hb23=>?_))
     all_goals
      try simp [-List.getD_eq_getElem?_getD] at hb23
      try (exfalso;omega))
  | ((with_reducible first|refine ctrK.normal ?_|refine ctrK.ret ?_)
     simp only [go_sem,resA,resV,backK,seval]
     first
      | (have q1:0≤a:=hb17
         have q2:0≤b:=hb23
         have hw:=wide_words ha hb
         simp only [← u64_emod,hua,hub,if_neg (Int.not_lt.2 hb17),if_neg (Int.not_lt.2 hb23)] at hw
         have c:((ua*ub / 18446744073709551616:Nat):Int)=(ua:Int)*ub / 18446744073709551616:=by simp
         have c2:((ua*ub % 18446744073709551616:Nat):Int)=IntKind.u64.wrap ((ua:Int)*ub):=by rw [u64_emod];simp
         rw [wideW_eq ha hb]
         refine ⟨⟨rfl,congrArg (fun e=>some (V.int e)) ?_⟩,rfl,congrArg (fun e=>some (V.int e)) ?_⟩
         · rw [c];exact hw.1
         · rw [c2,hw.2,u64_emod])
      | (have q1:0≤a:=hb17
         have q2:b<0:=hb23
         have hw:=wide_words ha hb
         simp only [← u64_emod,hua,hub,if_neg (Int.not_lt.2 hb17),if_pos hb23] at hw
         have c:((ua*ub / 18446744073709551616:Nat):Int)=(ua:Int)*ub / 18446744073709551616:=by simp
         have c2:((ua*ub % 18446744073709551616:Nat):Int)=IntKind.u64.wrap ((ua:Int)*ub):=by rw [u64_emod];simp
         rw [wideW_eq ha hb]
         refine ⟨⟨rfl,congrArg (fun e=>some (V.int e)) ?_⟩,rfl,congrArg (fun e=>some (V.int e)) ?_⟩
         · rw [c];exact hw.1
         · rw [c2,hw.2,u64_emod])
      | (have q1:a<0:=hb17
         have q2:0≤b:=hb23
         have hw:=wide_words ha hb
         simp only [← u64_emod,hua,hub,if_pos hb17,if_neg (Int.not_lt.2 hb23)] at hw
         have c:((ua*ub / 18446744073709551616:Nat):Int)=(ua:Int)*ub / 18446744073709551616:=by simp
         have c2:((ua*ub % 18446744073709551616:Nat):Int)=IntKind.u64.wrap ((ua:Int)*ub):=by rw [u64_emod];simp
         rw [wideW_eq ha hb]
         refine ⟨⟨rfl,congrArg (fun e=>some (V.int e)) ?_⟩,rfl,congrArg (fun e=>some (V.int e)) ?_⟩
         · rw [c];exact hw.1
         · rw [c2,hw.2,u64_emod])
      | (have q1:a<0:=hb17
         have q2:b<0:=hb23
         have hw:=wide_words ha hb
         simp only [← u64_emod,hua,hub,if_pos hb17,if_pos hb23] at hw
         have c:((ua*ub / 18446744073709551616:Nat):Int)=(ua:Int)*ub / 18446744073709551616:=by simp
         have c2:((ua*ub % 18446744073709551616:Nat):Int)=IntKind.u64.wrap ((ua:Int)*ub):=by rw [u64_emod];simp
         rw [wideW_eq ha hb]
         refine ⟨⟨rfl,congrArg (fun e=>some (V.int e)) ?_⟩,rfl,congrArg (fun e=>some (V.int e)) ?_⟩
         · rw [c];exact hw.1
         · rw [c2,hw.2,u64_emod]))
def lv183:List (Nat × List Nat):=[(0,[0,1]),(1,[1,5]),(2,[1,5,6]),(3,[1,5,8]),(4,[1,5,10]),(5,[1,5,12]),(6,[1,5,14]),(7,[1,5,16]),(8,[1,5,18]),(9,[1,5,20]),(10,[1,5,22]),(11,[1,5,24]),(12,[1,5,26]),(13,[1,5,28]),(14,[1,5,30]),(15,[1,32]),(16,[1,35]),(17,[4]),(18,[4]),(19,[4]),(20,[4]),(21,[4]),(22,[4]),(23,[4]),(24,[4]),(25,[4]),(26,[4]),(27,[4]),(28,[4]),(29,[4]),(30,[4]),(31,[4])]
theorem wone_ctr (op a:Int) (hop:1≤op∧op≤15) (ha : -9223372036854775808≤a∧a<9223372036854775808):Ctr Go.Proofs.Tryz.prog tab 183 [43,2] [2] [.int op,.int a] [.int (oneW op a)]:=by
 obtain ⟨ua,hua⟩:∃ n:Nat,IntKind.u64.wrap a=(n:Int):=⟨_,wrapu_bv a⟩
 have h1:ua<18446744073709551616:=by rw [u64_emod] at hua;omega
 have hu:(BitVec.ofInt 64 a).toNat=ua:=by
  have h:=wrapu_bv a
  rw [hua] at h
  omega
 refine Ctr.body ok Go.Proofs.Tryz.func183 rfl rfl 76 rfl [.tmp 4] rfl (by simp [fromVs]) ?_
 simp only [fromVs,fromV,args0,V.toList_list,V.toInt_int,V.toBool_bool,Nat.zero_add,Nat.reduceAdd,ty2,ty43]
 repeat' first
  | ((with_reducible refine SARA.do fun R1 hR1=>?_);(simp only [go_sem,seval,-List.reduceReplicate,Bool.cond_false_right,Bool.cond_true_left,hua]);(repeat' with_reducible refine And.intro ?_ ?_);all_goals first|(refine hR1 _ ?_;clear hR1 R1)|((first|refine cq (cc (ones_ctr ua h1)) ?_|refine cq (cc (lead_ctr ua h1)) ?_|refine cq (cc (ctz_ctr ua h1)) ?_|refine cq (cc (wflip_ctr a)) ?_|refine cq (cc (wyes_ctr _)) ?_);all_goals ((try simp only [go_sem,seval,-List.reduceReplicate,Bool.cond_false_right,Bool.cond_true_left,hua]);(repeat' with_reducible refine And.intro ?_ ?_);all_goals first|(refine hR1 _ ?_;clear hR1 R1)|omega|decide|(intro _;omega)|(intro _;decide)))|omega|decide|(intro _;omega)|(intro _;decide))
  | ((with_reducible refine SARA.nil ?_);refine hR _ ?_;clear hR R;try simp only [go_sem,lv183,lvOf,Nat.reduceBEq,Option.getD_some])
  | (with_reducible first|refine J1 ?_|refine J2 ?_|refine J3 ?_|refine J4 ?_|refine J5 ?_|refine J6 ?_|refine J7 ?_|refine J8 (by decide) ?_|refine J9 ?_|refine J10 ?_|refine J11 ?_|refine J12 ?_|refine J13 ?_|refine J14 ?_|refine J15 ?_|refine J16 ?_|refine J17 ?_|refine J18 ?_|refine J19 ?_)
  | ((with_reducible refine J21 ok (by kernel_rfl) lv183 ?_);intro R hR;simp only [go_sem,strip])
  | ((with_reducible refine J20 6 rfl (fun hb6=>?_) (fun hb6=>?_))
     all_goals
      try simp [-List.getD_eq_getElem?_getD] at hb6
      try (exfalso;omega))
  | ((with_reducible refine J20 8 rfl (fun hb8=>?_) (fun hb8=>?_))
     all_goals
      try simp [-List.getD_eq_getElem?_getD] at hb8
      try (exfalso;omega))
  | ((with_reducible refine J20 10 rfl (fun hb10=>?_) (fun hb10=>?_))
     all_goals
      try simp [-List.getD_eq_getElem?_getD] at hb10
      try (exfalso;omega))
  | ((with_reducible refine J20 12 rfl (fun hb12=>?_) (fun hb12=>?_))
     all_goals
      try simp [-List.getD_eq_getElem?_getD] at hb12
      try (exfalso;omega))
  | ((with_reducible refine J20 14 rfl (fun hb14=>?_) (fun hb14=>?_))
     all_goals
      try simp [-List.getD_eq_getElem?_getD] at hb14
      try (exfalso;omega))
  | ((with_reducible refine J20 16 rfl (fun hb16=>?_) (fun hb16=>?_))
     all_goals
      try simp [-List.getD_eq_getElem?_getD] at hb16
      try (exfalso;omega))
  | ((with_reducible refine J20 18 rfl (fun hb18=>?_) (fun hb18=>?_))
     all_goals
      try simp [-List.getD_eq_getElem?_getD] at hb18
      try (exfalso;omega))
  | ((with_reducible refine J20 20 rfl (fun hb20=>?_) (fun hb20=>?_))
     all_goals
      try simp [-List.getD_eq_getElem?_getD] at hb20
      try (exfalso;omega))
  | ((with_reducible refine J20 22 rfl (fun hb22=>?_) (fun hb22=>?_))
     all_goals
      try simp [-List.getD_eq_getElem?_getD] at hb22
      try (exfalso;omega))
  | ((with_reducible refine J20 24 rfl (fun hb24=>?_) (fun hb24=>?_))
     all_goals
      try simp [-List.getD_eq_getElem?_getD] at hb24
      try (exfalso;omega))
  | ((with_reducible refine J20 26 rfl (fun hb26=>?_) (fun hb26=>?_))
     all_goals
      try simp [-List.getD_eq_getElem?_getD] at hb26
      try (exfalso;omega))
  | ((with_reducible refine J20 28 rfl (fun hb28=>?_) (fun hb28=>?_))
     all_goals
      try simp [-List.getD_eq_getElem?_getD] at hb28
      try (exfalso;omega))
  | ((with_reducible refine J20 30 rfl (fun hb30=>?_) (fun hb30=>?_))
     all_goals
      try simp [-List.getD_eq_getElem?_getD] at hb30
      try (exfalso;omega))
  | ((with_reducible refine J20 32 rfl (fun hb32=>?_) (fun hb32=>?_))
     all_goals
      try simp [-List.getD_eq_getElem?_getD] at hb32
      try (exfalso;omega))
  | ((with_reducible refine J20 35 rfl (fun hb35=>?_) (fun hb35=>?_))
     all_goals
      try simp [-List.getD_eq_getElem?_getD] at hb35
      try (exfalso;omega))
  | ((with_reducible first|refine ctrK.normal ?_|refine ctrK.ret ?_)
     simp only [go_sem,resA,resV,backK,seval]
     first
      | (have q2:0≤a:=hb35
         have q:op=3:=hb6
         subst q
         refine ⟨rfl,congrArg (fun e=>some (V.int e)) ?_⟩
         show a=if a<0 then _ else a
         rw [if_neg (by omega)])
      | (have q2:a<0:=hb35
         have q:op=3:=hb6
         subst q
         refine ⟨rfl,congrArg (fun e=>some (V.int e)) ?_⟩
         show _=if a<0 then _ else a
         rw [if_pos hb35])
      | (have q:op=1:=hb8
         subst q
         refine ⟨rfl,congrArg (fun e=>some (V.int e)) ?_⟩
         rfl)
      | (have q:op=2:=hb10
         subst q
         refine ⟨rfl,congrArg (fun e=>some (V.int e)) ?_⟩
         exact not_W a)
      | (have q:op=4:=hb12
         subst q
         refine ⟨rfl,congrArg (fun e=>some (V.int e)) ?_⟩
         rw [← hu]
         exact (onesN_eq a).symm)
      | (have q:op=5:=hb14
         subst q
         refine ⟨rfl,congrArg (fun e=>some (V.int e)) ?_⟩
         show _=((leadW a:Nat):Int)
         have hl:=lenN_le64 h1
         rw [lead_len,hu]
         omega)
      | (have q:op=6:=hb16
         subst q
         refine ⟨rfl,congrArg (fun e=>some (V.int e)) ?_⟩
         show _=((trailW a:Nat):Int)
         rw [trail_ctz,hu])
      | (have q:op=7:=hb18
         subst q
         refine ⟨rfl,congrArg (fun e=>some (V.int e)) ?_⟩
         rfl)
      | (have q:op=8:=hb20
         subst q
         refine ⟨rfl,congrArg (fun e=>some (V.int e)) ?_⟩
         show yes _=yes (decide (a≠0))
         congr 1
         simp)
      | (have q:op=9:=hb22
         subst q
         refine ⟨rfl,congrArg (fun e=>some (V.int e)) ?_⟩
         rfl)
      | (have q:op=10:=hb24
         subst q
         refine ⟨rfl,congrArg (fun e=>some (V.int e)) ?_⟩
         rw [wrapS8]
         exact (convS a (w:=8) (by decide) (by decide)).symm)
      | (have q:op=11:=hb26
         subst q
         refine ⟨rfl,congrArg (fun e=>some (V.int e)) ?_⟩
         rw [wrapS16]
         exact (convS a (w:=16) (by decide) (by decide)).symm)
      | (have q:op=12:=hb28
         subst q
         refine ⟨rfl,congrArg (fun e=>some (V.int e)) ?_⟩
         rw [wrapS32]
         exact (convS a (w:=32) (by decide) (by decide)).symm)
      | (have q:op=13:=hb30
         subst q
         refine ⟨rfl,congrArg (fun e=>some (V.int e)) ?_⟩
         rw [wrapU8]
         exact (convU a (w:=8) (by decide) (by decide)).symm)
      | (have q:op=14:=hb32
         subst q
         refine ⟨rfl,congrArg (fun e=>some (V.int e)) ?_⟩
         rw [wrapU16]
         exact (convU a (w:=16) (by decide) (by decide)).symm)
      | (have q:op=15:=by omega
         subst q
         refine ⟨rfl,congrArg (fun e=>some (V.int e)) ?_⟩
         rw [wrapU32]
         exact (convU a (w:=32) (by decide) (by decide)).symm))
def lv186:List (Nat × List Nat):=[(0,[0,1,2]),(1,[1,2,9]),(2,[1,2,9,10]),(3,[6]),(4,[1,2,9,15]),(5,[6]),(6,[1,2,9,20]),(7,[6]),(8,[1,2,9,25]),(9,[6]),(10,[1,2,9,30]),(11,[6]),(12,[1,2,9,35]),(13,[6]),(14,[1,2,9,40]),(15,[6]),(16,[1,2,9,45]),(17,[6]),(18,[1,2,9,53]),(19,[6]),(20,[1,2,9,59]),(21,[6]),(22,[1,2,9,65]),(23,[6]),(24,[1,2,9,71]),(25,[6]),(26,[1,2,9,77]),(27,[6]),(28,[1,2,9,85]),(29,[6]),(30,[1,2,90]),(31,[6]),(32,[7]),(33,[6])]
theorem wtwo_ctr (op a b:Int) (hop:16≤op∧op≤36∧¬(op=19∨op=20)∧¬(op=25∨op=26∨op=27)) (ha : -9223372036854775808≤a∧a<9223372036854775808) (hb : -9223372036854775808≤b∧b<9223372036854775808):Ctr Go.Proofs.Tryz.prog tab 186 [43,2,2] [2] [.int op,.int a,.int b] [.int (twoW op a b).1]:=by
 refine Ctr.body ok Go.Proofs.Tryz.func186 rfl rfl 102 rfl [.tmp 6] rfl (by simp [fromVs]) ?_
 simp only [fromVs,fromV,args0,V.toList_list,V.toInt_int,V.toBool_bool,Nat.zero_add,Nat.reduceAdd,ty2,ty43]
 repeat' first
  | ((with_reducible refine SARA.do fun R1 hR1=>?_);(simp only [go_sem,seval,-List.reduceReplicate,Bool.cond_false_right,Bool.cond_true_left]);(repeat' with_reducible refine And.intro ?_ ?_);all_goals first|(refine hR1 _ ?_;clear hR1 R1)|((first|refine cq (cc (rotl_ctr _ _ (rotK b))) ?_|refine ce (cf (wwide_ctr a b ha hb) ?_)|refine cq (cc (wyes_ctr _)) ?_);all_goals ((try simp only [go_sem,seval,-List.reduceReplicate,Bool.cond_false_right,Bool.cond_true_left]);(repeat' with_reducible refine And.intro ?_ ?_);all_goals first|(refine hR1 _ ?_;clear hR1 R1)|omega|decide|(intro _;omega)|(intro _;decide)))|omega|decide|(intro _;omega)|(intro _;decide))
  | ((with_reducible refine SARA.nil ?_);refine hR _ ?_;clear hR R;try simp only [go_sem,lv186,lvOf,Nat.reduceBEq,Option.getD_some])
  | (with_reducible first|refine J1 ?_|refine J2 ?_|refine J3 ?_|refine J4 ?_|refine J5 ?_|refine J6 ?_|refine J7 ?_|refine J8 (by decide) ?_|refine J9 ?_|refine J10 ?_|refine J11 ?_|refine J12 ?_|refine J13 ?_|refine J14 ?_|refine J15 ?_|refine J16 ?_|refine J17 ?_|refine J18 ?_|refine J19 ?_)
  | ((with_reducible refine J21 ok (by kernel_rfl) lv186 ?_);intro R hR;simp only [go_sem,strip])
  | ((with_reducible refine J20 10 rfl (fun hb10=>?_) (fun hb10=>?_))
     all_goals
      try simp [-List.getD_eq_getElem?_getD] at hb10
      try (exfalso;omega))
  | ((with_reducible refine J20 15 rfl (fun hb15=>?_) (fun hb15=>?_))
     all_goals
      try simp [-List.getD_eq_getElem?_getD] at hb15
      try (exfalso;omega))
  | ((with_reducible refine J20 20 rfl (fun hb20=>?_) (fun hb20=>?_))
     all_goals
      try simp [-List.getD_eq_getElem?_getD] at hb20
      try (exfalso;omega))
  | ((with_reducible refine J20 25 rfl (fun hb25=>?_) (fun hb25=>?_))
     all_goals
      try simp [-List.getD_eq_getElem?_getD] at hb25
      try (exfalso;omega))
  | ((with_reducible refine J20 30 rfl (fun hb30=>?_) (fun hb30=>?_))
     all_goals
      try simp [-List.getD_eq_getElem?_getD] at hb30
      try (exfalso;omega))
  | ((with_reducible refine J20 35 rfl (fun hb35=>?_) (fun hb35=>?_))
     all_goals
      try simp [-List.getD_eq_getElem?_getD] at hb35
      try (exfalso;omega))
  | ((with_reducible refine J20 40 rfl (fun hb40=>?_) (fun hb40=>?_))
     all_goals
      try simp [-List.getD_eq_getElem?_getD] at hb40
      try (exfalso;omega))
  | ((with_reducible refine J20 45 rfl (fun hb45=>?_) (fun hb45=>?_))
     all_goals
      try simp [-List.getD_eq_getElem?_getD] at hb45
      try (exfalso;omega))
  | ((with_reducible refine J20 53 rfl (fun hb53=>?_) (fun hb53=>?_))
     all_goals
      try simp [-List.getD_eq_getElem?_getD] at hb53
      try (exfalso;omega))
  | ((with_reducible refine J20 59 rfl (fun hb59=>?_) (fun hb59=>?_))
     all_goals
      try simp [-List.getD_eq_getElem?_getD] at hb59
      try (exfalso;omega))
  | ((with_reducible refine J20 65 rfl (fun hb65=>?_) (fun hb65=>?_))
     all_goals
      try simp [-List.getD_eq_getElem?_getD] at hb65
      try (exfalso;omega))
  | ((with_reducible refine J20 71 rfl (fun hb71=>?_) (fun hb71=>?_))
     all_goals
      try simp [-List.getD_eq_getElem?_getD] at hb71
      try (exfalso;omega))
  | ((with_reducible refine J20 77 rfl (fun hb77=>?_) (fun hb77=>?_))
     all_goals
      try simp [-List.getD_eq_getElem?_getD] at hb77
      try (exfalso;omega))
  | ((with_reducible refine J20 85 rfl (fun hb85=>?_) (fun hb85=>?_))
     all_goals
      try simp [-List.getD_eq_getElem?_getD] at hb85
      try (exfalso;omega))
  | ((with_reducible refine J20 90 rfl (fun hb90=>?_) (fun hb90=>?_))
     all_goals
      try simp [-List.getD_eq_getElem?_getD] at hb90
      try (exfalso;omega))
  | ((with_reducible first|refine ctrK.normal ?_|refine ctrK.ret ?_)
     simp only [go_sem,resA,resV,backK,seval]
     first
      | (have q:op=16:=hb10
         subst q
         refine ⟨rfl,congrArg (fun e=>some (V.int e)) ?_⟩
         rfl)
      | (have q:op=17:=hb15
         subst q
         refine ⟨rfl,congrArg (fun e=>some (V.int e)) ?_⟩
         rfl)
      | (have q:op=18:=hb20
         subst q
         refine ⟨rfl,congrArg (fun e=>some (V.int e)) ?_⟩
         show _=IntKind.i64.wrap (wideW a b).2
         rw [wideW_eq ha hb]
         show _=IntKind.i64.wrap (a*b % 18446744073709551616)
         rw [← u64_emod,wrap_wrapu])
      | (have q:op=21:=hb25
         subst q
         refine ⟨rfl,congrArg (fun e=>some (V.int e)) ?_⟩
         exact (bits_and a b).symm)
      | (have q:op=22:=hb30
         subst q
         refine ⟨rfl,congrArg (fun e=>some (V.int e)) ?_⟩
         exact (bits_or a b).symm)
      | (have q:op=23:=hb35
         subst q
         refine ⟨rfl,congrArg (fun e=>some (V.int e)) ?_⟩
         exact (bits_xor a b).symm)
      | (have q:op=24:=hb40
         subst q
         refine ⟨rfl,congrArg (fun e=>some (V.int e)) ?_⟩
         exact (bits_clear a b).symm)
      | (have q:op=28:=hb45
         subst q
         refine ⟨rfl,congrArg (fun e=>some (V.int e)) ?_⟩
         exact rot_ok a b)
      | (have q:op=29:=hb53
         subst q
         refine ⟨rfl,congrArg (fun e=>some (V.int e)) ?_⟩
         rfl)
      | (have q:op=30:=hb59
         subst q
         refine ⟨rfl,congrArg (fun e=>some (V.int e)) ?_⟩
         show yes _=yes (decide (a≠b))
         congr 1
         simp)
      | (have q:op=31:=hb65
         subst q
         refine ⟨rfl,congrArg (fun e=>some (V.int e)) ?_⟩
         rfl)
      | (have q:op=32:=hb71
         subst q
         refine ⟨rfl,congrArg (fun e=>some (V.int e)) ?_⟩
         rfl)
      | (have q:op=33:=hb77
         subst q
         refine ⟨rfl,congrArg (fun e=>some (V.int e)) ?_⟩
         rfl)
      | (have q:op=34:=hb85
         subst q
         refine ⟨rfl,congrArg (fun e=>some (V.int e)) ?_⟩
         show min a b=if b<a then b else a
         rw [Int.min_def]
         (repeat' split)<;>omega)
      | (have q:op=35:=hb90
         subst q
         refine ⟨rfl,congrArg (fun e=>some (V.int e)) ?_⟩
         show max a b=if a<b then b else a
         rw [Int.max_def]
         (repeat' split)<;>omega)
      | (have q:op=36:=by omega
         subst q
         refine ⟨rfl,congrArg (fun e=>some (V.int e)) ?_⟩
         rfl))
def lv160:List (Nat × List Nat):=[(0,[0,1,2]),(1,[0,1,2,8]),(2,[6,7]),(3,[0,1,2,12]),(4,[6,7]),(5,[0,1,2,19]),(6,[6,7]),(7,[0,1,2,32]),(8,[6,7]),(9,[6,7])]
theorem wapply_ctr (op a b:Int) (ha : -9223372036854775808≤a∧a<9223372036854775808) (hb : -9223372036854775808≤b∧b<9223372036854775808):Ctr Go.Proofs.Tryz.prog tab 160 [43,2,2] [2,49] [.int op,.int a,.int b] [.int (applyW op a b).1,.int (applyW op a b).2]:=by
 refine Ctr.body ok Go.Proofs.Tryz.func160 rfl rfl 49 rfl [.tmp 6,.tmp 7] rfl (by simp [fromVs]) ?_
 simp only [fromVs,fromV,args0,V.toList_list,V.toInt_int,V.toBool_bool,Nat.zero_add,Nat.reduceAdd,ty2,ty43]
 repeat' first
  | ((with_reducible refine SARA.do fun R1 hR1=>?_);(simp only [go_sem,seval,-List.reduceReplicate,Bool.cond_false_right,Bool.cond_true_left]);(repeat' with_reducible refine And.intro ?_ ?_);all_goals first|(refine hR1 _ ?_;clear hR1 R1)|((first|refine cq (cc (warity_ctr op)) ?_|refine cq (cc (wone_ctr op a hop1 ha)) ?_|refine ce (cf (wdivided_ctr op a b hb19 ha hb) ?_)|refine ce (cf (wshifted_ctr op a b hop3 ha hb) ?_)|refine cq (cc (wtwo_ctr op a b hop2 ha hb)) ?_);all_goals ((try simp only [go_sem,seval,-List.reduceReplicate,Bool.cond_false_right,Bool.cond_true_left]);(repeat' with_reducible refine And.intro ?_ ?_);all_goals first|(refine hR1 _ ?_;clear hR1 R1)|omega|decide|(intro _;omega)|(intro _;decide)))|omega|decide|(intro _;omega)|(intro _;decide))
  | ((with_reducible refine SARA.nil ?_);refine hR _ ?_;clear hR R;try simp only [go_sem,lv160,lvOf,Nat.reduceBEq,Option.getD_some])
  | (with_reducible first|refine J1 ?_|refine J2 ?_|refine J3 ?_|refine J4 ?_|refine J5 ?_|refine J6 ?_|refine J7 ?_|refine J8 (by decide) ?_|refine J9 ?_|refine J10 ?_|refine J11 ?_|refine J12 ?_|refine J13 ?_|refine J14 ?_|refine J15 ?_|refine J16 ?_|refine J17 ?_|refine J18 ?_|refine J19 ?_)
  | ((with_reducible refine SA.at 4 ?_)
     have hop1:=arity1 hb12
     (with_reducible refine J21 ok (by kernel_rfl) lv160 ?_);intro R hR;simp only [go_sem,strip])
  | ((with_reducible refine SA.at 8 ?_)
     have hop3:op=25∨op=26∨op=27:=by omega
     (with_reducible refine J21 ok (by kernel_rfl) lv160 ?_);intro R hR;simp only [go_sem,strip])
  | ((with_reducible refine SA.at 9 ?_)
     have hop2:16≤op∧op≤36∧¬(op=19∨op=20)∧¬(op=25∨op=26∨op=27):=by have:=arity2 hb8 hb12;omega
     (with_reducible refine J21 ok (by kernel_rfl) lv160 ?_);intro R hR;simp only [go_sem,strip])
  | ((with_reducible refine J21 ok (by kernel_rfl) lv160 ?_);intro R hR;simp only [go_sem,strip])
  | ((with_reducible refine J20 8 rfl (fun hb8=>?_) (fun hb8=>?_))
     all_goals
      try simp [-List.getD_eq_getElem?_getD] at hb8
      try (exfalso;omega))
  | ((with_reducible refine J20 12 rfl (fun hb12=>?_) (fun hb12=>?_))
     all_goals
      try simp [-List.getD_eq_getElem?_getD] at hb12
      try (exfalso;omega))
  | ((with_reducible refine J20 19 rfl (fun hb19=>?_) (fun hb19=>?_))
     all_goals
      try simp [-List.getD_eq_getElem?_getD] at hb19
      try (exfalso;omega))
  | ((with_reducible refine J20 32 rfl (fun hb32=>?_) (fun hb32=>?_))
     all_goals
      try simp [-List.getD_eq_getElem?_getD] at hb32
      try (exfalso;omega))
  | ((with_reducible first|refine ctrK.normal ?_|refine ctrK.ret ?_)
     simp only [go_sem,resA,resV,backK,seval]
     first
      | (have q:arityW op=0:=hb8
         have e:applyW op a b=(0,22):=if_pos hb8
         rw [e]
         exact ⟨⟨rfl,rfl⟩,rfl,rfl⟩)
      | (have q:arityW op=1:=hb12
         have e:applyW op a b=(oneW op a,0):=(if_neg hb8).trans (if_pos hb12)
         rw [e]
         exact ⟨⟨rfl,rfl⟩,rfl,rfl⟩)
      | (have q:_∨_:=hb19
         have e:applyW op a b=twoW op a b:=(if_neg hb8).trans (if_neg hb12)
         rw [e]
         exact ⟨⟨rfl,rfl⟩,rfl,rfl⟩)
      | (have q:op=25∨op=26∨op=27:=hop3
         have e:applyW op a b=twoW op a b:=(if_neg hb8).trans (if_neg hb12)
         rw [e]
         exact ⟨⟨rfl,rfl⟩,rfl,rfl⟩)
      | (have q:=hop2
         have e0:=two_err (op:=op) (a:=a) (b:=b) hop2.2.2.1 hop2.2.2.2
         have e:applyW op a b=((twoW op a b).1,0):=((if_neg hb8).trans (if_neg hb12)).trans (Prod.ext rfl e0)
         rw [e]
         exact ⟨⟨rfl,rfl⟩,rfl,rfl⟩))
end Go.Eng.Tryz
