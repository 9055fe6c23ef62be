/- A part of the proof: walks through the program's functions, and what they compute. -/
import Derived.Test.YtipodgpcbkoopaaE3
import Derived.Test.YtipodgpcbkoopaaE4
namespace Go.Eng.Try
open Go.RowKit Go.Eng
set_option linter.unusedSimpArgs false
set_option linter.unusedVariables false

attribute [local go_sem] argsV contentV fromVs Option.getD_some St.keep List.filterMap_cons List.filterMap_nil Option.map_some Option.map_none opG opQ opB newEs outE CallStepB guardA putK putE pureA evalO evalL constE pickA capsE capsV loadA fieldAddrA indexAddrA indexA sliceA evalOptI builtinA binA plainA shiftA eqA nilA arith shifts effA storeA appendA appB freshA St.kill Tm.kill E.kill E.killL Obj.kill elemsOf evalVs buildA okAt toV fromV zeroE V.get V.put V.sub V.setSub args0 CallStep CallStepQ i64min i64max u64min u64max u32min u32max u8min u8max Nat.zero_add List.length_map List.lookup_cons List.lookup_nil List.getElem?_cons_zero List.getElem?_cons_succ List.getElem?_toArray List.getElem?_nil Option.bind_some Option.bind_none List.size_toArray List.length_cons List.length_nil List.nil_append List.append_nil List.cons_append List.getD_cons_zero List.getD_cons_succ List.map_cons List.map_nil List.set_cons_zero List.set_cons_succ true_and and_true forall_const true_implies Bool.true_and Bool.and_true Bool.not_true Bool.not_false Bool.false_and Bool.and_false beq_self_eq_true Bool.true_beq Bool.false_beq beq_true beq_false eq_self false_implies V.toInt_int V.toBool_bool V.toList_list V.toList_agg V.toStr_str V.deref_ref if_true if_false Bool.false_eq_true Option.isSome_none Option.isSome_some Bool.false_or Bool.true_or Bool.or_false Bool.or_true cond_true cond_false implies_true and_self imp_self ty3 ty4 ty81 ty39 ty40 ty42 ty37 ty2 zero39 z39 z3 z4 Int.toNat_natCast Int.natCast_zero Event.v0 Event.v7 Event.v8 Access.v0 Access.v1 Access.v2 beq_acc
theorem most_ctr (k : Int) : Ctr Go.Proofs.Try.prog tab 63 [3] [3] [.int k] [.int (most k)] := by
  refine Ctr.body ok Go.Proofs.Try.func63 rfl rfl 15 rfl [.tmp 2] rfl (by simp [fromVs]) ?_
  simp only [fromVs, fromV, args0, V.toList_list, V.toInt_int, V.toBool_bool, Nat.zero_add, Nat.reduceAdd, ty3]
  refine SA.seq ?_
  refine SA.region ok (by kernel_rfl) [0] ?_
  intro R r
  simp only [go_sem, strip]
  iterate 1 (refine opsA_cons fun Z q1 => ?_; simp only [go_sem, seval, -List.reduceReplicate]; (repeat' with_reducible refine And.intro ?_ ?_); all_goals first | (refine q1 _ ?_; clear q1 Z) | omega | rfl | decide | assumption | (intro _; omega) | (simp; done) | (simp; omega))
  refine opsA_nil (r _ ?_)
  clear r R
  try simp only [go_sem, Nat.reduceBEq]
  refine thenK.normal (SA.seq ?_)
  refine SA.seq ?_
  refine SA.region ok (by kernel_rfl) [3] ?_
  intro R r
  simp only [go_sem, strip]
  iterate 1 (refine opsA_cons fun Z q1 => ?_; simp only [go_sem, seval, -List.reduceReplicate]; (repeat' with_reducible refine And.intro ?_ ?_); all_goals first | (refine q1 _ ?_; clear q1 Z) | omega | rfl | decide | assumption | (intro _; omega) | (simp; done) | (simp; omega))
  refine opsA_nil (r _ ?_)
  clear r R
  try simp only [go_sem, Nat.reduceBEq]
  refine thenK.normal (SA.block ?_)
  refine SA.seq ?_
  refine SA.region ok (by kernel_rfl) [3, 4] ?_
  intro R r
  simp only [go_sem, strip]
  iterate 2 (refine opsA_cons fun Z q1 => ?_; simp only [go_sem, seval, -List.reduceReplicate]; (repeat' with_reducible refine And.intro ?_ ?_); all_goals first | (refine q1 _ ?_; clear q1 Z) | omega | rfl | decide | assumption | (intro _; omega) | (simp; done) | (simp; omega))
  refine opsA_nil (r _ ?_)
  clear r R
  try simp only [go_sem, Nat.reduceBEq]
  refine thenK.normal ?_
  refine SA.cond rfl ?_ ?_
  · intro hb1
    try simp only [decide_eq_true_eq, decide_eq_false_iff_not] at hb1
    refine SA.seq ?_
    refine SA.region ok (by kernel_rfl) [2] ?_
    intro R r
    simp only [go_sem, strip]
    iterate 1 (refine opsA_cons fun Z q1 => ?_; simp only [go_sem, seval, -List.reduceReplicate]; (repeat' with_reducible refine And.intro ?_ ?_); all_goals first | (refine q1 _ ?_; clear q1 Z) | omega | rfl | decide | assumption | (intro _; omega) | (simp; done) | (simp; omega))
    refine opsA_nil (r _ ?_)
    clear r R
    try simp only [go_sem, Nat.reduceBEq]
    refine thenK.normal (SA.ret ?_)
    refine blockK.ret ?_
    refine thenK.ret ?_
    refine ctrK.ret ?_
    simp only [resA, evalO, resV, backK, outE, toV, ty4, ty3, List.lookup_cons, List.lookup_nil, beq_self_eq_true, forall_const, true_and, and_true]
    refine ⟨rfl, ?_⟩
    first | (simp [most, *]; done) | (exfalso; omega)
  · intro hb1
    try simp only [decide_eq_true_eq, decide_eq_false_iff_not] at hb1
    refine SA.seq ?_
    refine SA.region ok (by kernel_rfl) [3, 6] ?_
    intro R r
    simp only [go_sem, strip]
    iterate 2 (refine opsA_cons fun Z q1 => ?_; simp only [go_sem, seval, -List.reduceReplicate]; (repeat' with_reducible refine And.intro ?_ ?_); all_goals first | (refine q1 _ ?_; clear q1 Z) | omega | rfl | decide | assumption | (intro _; omega) | (simp; done) | (simp; omega))
    refine opsA_nil (r _ ?_)
    clear r R
    try simp only [go_sem, Nat.reduceBEq]
    refine thenK.normal ?_
    refine SA.cond rfl ?_ ?_
    · intro hb2
      try simp only [decide_eq_true_eq, decide_eq_false_iff_not] at hb2
      refine SA.seq ?_
      refine SA.region ok (by kernel_rfl) [2] ?_
      intro R r
      simp only [go_sem, strip]
      iterate 1 (refine opsA_cons fun Z q1 => ?_; simp only [go_sem, seval, -List.reduceReplicate]; (repeat' with_reducible refine And.intro ?_ ?_); all_goals first | (refine q1 _ ?_; clear q1 Z) | omega | rfl | decide | assumption | (intro _; omega) | (simp; done) | (simp; omega))
      refine opsA_nil (r _ ?_)
      clear r R
      try simp only [go_sem, Nat.reduceBEq]
      refine thenK.normal (SA.ret ?_)
      refine blockK.ret ?_
      refine thenK.ret ?_
      refine ctrK.ret ?_
      simp only [resA, evalO, resV, backK, outE, toV, ty4, ty3, List.lookup_cons, List.lookup_nil, beq_self_eq_true, forall_const, true_and, and_true]
      refine ⟨rfl, ?_⟩
      first | (simp [most, *]; done) | (exfalso; omega)
    · intro hb2
      try simp only [decide_eq_true_eq, decide_eq_false_iff_not] at hb2
      refine SA.seq ?_
      refine SA.region ok (by kernel_rfl) [3, 8] ?_
      intro R r
      simp only [go_sem, strip]
      iterate 2 (refine opsA_cons fun Z q1 => ?_; simp only [go_sem, seval, -List.reduceReplicate]; (repeat' with_reducible refine And.intro ?_ ?_); all_goals first | (refine q1 _ ?_; clear q1 Z) | omega | rfl | decide | assumption | (intro _; omega) | (simp; done) | (simp; omega))
      refine opsA_nil (r _ ?_)
      clear r R
      try simp only [go_sem, Nat.reduceBEq]
      refine thenK.normal ?_
      refine SA.cond rfl ?_ ?_
      · intro hb3
        try simp only [decide_eq_true_eq, decide_eq_false_iff_not] at hb3
        refine SA.seq ?_
        refine SA.region ok (by kernel_rfl) [2] ?_
        intro R r
        simp only [go_sem, strip]
        iterate 1 (refine opsA_cons fun Z q1 => ?_; simp only [go_sem, seval, -List.reduceReplicate]; (repeat' with_reducible refine And.intro ?_ ?_); all_goals first | (refine q1 _ ?_; clear q1 Z) | omega | rfl | decide | assumption | (intro _; omega) | (simp; done) | (simp; omega))
        refine opsA_nil (r _ ?_)
        clear r R
        try simp only [go_sem, Nat.reduceBEq]
        refine thenK.normal (SA.ret ?_)
        refine blockK.ret ?_
        refine thenK.ret ?_
        refine ctrK.ret ?_
        simp only [resA, evalO, resV, backK, outE, toV, ty4, ty3, List.lookup_cons, List.lookup_nil, beq_self_eq_true, forall_const, true_and, and_true]
        refine ⟨rfl, ?_⟩
        first | (simp [most, *]; done) | (exfalso; omega)
      · intro hb3
        try simp only [decide_eq_true_eq, decide_eq_false_iff_not] at hb3
        refine SA.seq ?_
        refine SA.seq ?_
        refine SA.region ok (by kernel_rfl) [3, 10] ?_
        intro R r
        simp only [go_sem, strip]
        iterate 2 (refine opsA_cons fun Z q1 => ?_; simp only [go_sem, seval, -List.reduceReplicate]; (repeat' with_reducible refine And.intro ?_ ?_); all_goals first | (refine q1 _ ?_; clear q1 Z) | omega | rfl | decide | assumption | (intro _; omega) | (simp; done) | (simp; omega))
        refine opsA_nil (r _ ?_)
        clear r R
        try simp only [go_sem, Nat.reduceBEq]
        refine thenK.normal ?_
        refine SA.cond rfl ?_ ?_
        · intro hb4
          try simp only [decide_eq_true_eq, decide_eq_false_iff_not] at hb4
          refine SA.skip ?_
          refine thenK.normal ?_
          refine SA.cond rfl ?_ ?_
          · intro hb5
            try simp only [decide_eq_true_eq, decide_eq_false_iff_not] at hb5
            refine SA.seq ?_
            refine SA.region ok (by kernel_rfl) [2] ?_
            intro R r
            simp only [go_sem, strip]
            iterate 1 (refine opsA_cons fun Z q1 => ?_; simp only [go_sem, seval, -List.reduceReplicate]; (repeat' with_reducible refine And.intro ?_ ?_); all_goals first | (refine q1 _ ?_; clear q1 Z) | omega | rfl | decide | assumption | (intro _; omega) | (simp; done) | (simp; omega))
            refine opsA_nil (r _ ?_)
            clear r R
            try simp only [go_sem, Nat.reduceBEq]
            refine thenK.normal (SA.ret ?_)
            refine blockK.ret ?_
            refine thenK.ret ?_
            refine ctrK.ret ?_
            simp only [resA, evalO, resV, backK, outE, toV, ty4, ty3, List.lookup_cons, List.lookup_nil, beq_self_eq_true, forall_const, true_and, and_true]
            refine ⟨rfl, ?_⟩
            first | (simp [most, *]; done) | (exfalso; omega)
          · intro hb5
            try simp only [decide_eq_true_eq, decide_eq_false_iff_not] at hb5
            refine SA.seq ?_
            refine SA.region ok (by kernel_rfl) [13] ?_
            intro R r
            simp only [go_sem, strip]
            iterate 2 (refine opsA_cons fun Z q1 => ?_; simp only [go_sem, seval, -List.reduceReplicate]; (repeat' with_reducible refine And.intro ?_ ?_); all_goals first | (refine q1 _ ?_; clear q1 Z) | omega | rfl | decide | assumption | (intro _; omega) | (simp; done) | (simp; omega))
            refine opsA_nil (r _ ?_)
            clear r R
            try simp only [go_sem, Nat.reduceBEq]
            refine thenK.normal ?_
            refine SA.cond rfl ?_ ?_
            · intro hb6
              try simp only [decide_eq_true_eq, decide_eq_false_iff_not] at hb6
              refine SA.seq ?_
              refine SA.region ok (by kernel_rfl) [2] ?_
              intro R r
              simp only [go_sem, strip]
              iterate 1 (refine opsA_cons fun Z q1 => ?_; simp only [go_sem, seval, -List.reduceReplicate]; (repeat' with_reducible refine And.intro ?_ ?_); all_goals first | (refine q1 _ ?_; clear q1 Z) | omega | rfl | decide | assumption | (intro _; omega) | (simp; done) | (simp; omega))
              refine opsA_nil (r _ ?_)
              clear r R
              try simp only [go_sem, Nat.reduceBEq]
              refine thenK.normal (SA.ret ?_)
              refine blockK.ret ?_
              refine thenK.ret ?_
              refine ctrK.ret ?_
              simp only [resA, evalO, resV, backK, outE, toV, ty4, ty3, List.lookup_cons, List.lookup_nil, beq_self_eq_true, forall_const, true_and, and_true]
              refine ⟨rfl, ?_⟩
              first | (simp [most, *]; done) | (exfalso; omega)
            · intro hb6
              try simp only [decide_eq_true_eq, decide_eq_false_iff_not] at hb6
              refine SA.skip ?_
              refine blockK.normal (thenK.normal ?_)
              refine SA.seq ?_
              refine SA.region ok (by kernel_rfl) [2] ?_
              intro R r
              simp only [go_sem, strip]
              iterate 1 (refine opsA_cons fun Z q1 => ?_; simp only [go_sem, seval, -List.reduceReplicate]; (repeat' with_reducible refine And.intro ?_ ?_); all_goals first | (refine q1 _ ?_; clear q1 Z) | omega | rfl | decide | assumption | (intro _; omega) | (simp; done) | (simp; omega))
              refine opsA_nil (r _ ?_)
              clear r R
              try simp only [go_sem, Nat.reduceBEq]
              refine thenK.normal (SA.ret ?_)
              refine ctrK.ret ?_
              simp only [resA, evalO, resV, backK, outE, toV, ty4, ty3, List.lookup_cons, List.lookup_nil, beq_self_eq_true, forall_const, true_and, and_true]
              refine ⟨rfl, ?_⟩
              first | (simp [most, *]; done) | (exfalso; omega)
        · intro hb4
          try simp only [decide_eq_true_eq, decide_eq_false_iff_not] at hb4
          refine SA.region ok (by kernel_rfl) [3, 10] ?_
          intro R r
          simp only [go_sem, strip]
          iterate 2 (refine opsA_cons fun Z q1 => ?_; simp only [go_sem, seval, -List.reduceReplicate]; (repeat' with_reducible refine And.intro ?_ ?_); all_goals first | (refine q1 _ ?_; clear q1 Z) | omega | rfl | decide | assumption | (intro _; omega) | (simp; done) | (simp; omega))
          refine opsA_nil (r _ ?_)
          clear r R
          try simp only [go_sem, Nat.reduceBEq]
          refine thenK.normal ?_
          refine SA.cond rfl ?_ ?_
          · intro hb7
            try simp only [decide_eq_true_eq, decide_eq_false_iff_not] at hb7
            refine SA.seq ?_
            refine SA.region ok (by kernel_rfl) [2] ?_
            intro R r
            simp only [go_sem, strip]
            iterate 1 (refine opsA_cons fun Z q1 => ?_; simp only [go_sem, seval, -List.reduceReplicate]; (repeat' with_reducible refine And.intro ?_ ?_); all_goals first | (refine q1 _ ?_; clear q1 Z) | omega | rfl | decide | assumption | (intro _; omega) | (simp; done) | (simp; omega))
            refine opsA_nil (r _ ?_)
            clear r R
            try simp only [go_sem, Nat.reduceBEq]
            refine thenK.normal (SA.ret ?_)
            refine blockK.ret ?_
            refine thenK.ret ?_
            refine ctrK.ret ?_
            simp only [resA, evalO, resV, backK, outE, toV, ty4, ty3, List.lookup_cons, List.lookup_nil, beq_self_eq_true, forall_const, true_and, and_true]
            refine ⟨rfl, ?_⟩
            first | (simp [most, *]; done) | (exfalso; omega)
          · intro hb7
            try simp only [decide_eq_true_eq, decide_eq_false_iff_not] at hb7
            refine SA.seq ?_
            refine SA.region ok (by kernel_rfl) [13] ?_
            intro R r
            simp only [go_sem, strip]
            iterate 2 (refine opsA_cons fun Z q1 => ?_; simp only [go_sem, seval, -List.reduceReplicate]; (repeat' with_reducible refine And.intro ?_ ?_); all_goals first | (refine q1 _ ?_; clear q1 Z) | omega | rfl | decide | assumption | (intro _; omega) | (simp; done) | (simp; omega))
            refine opsA_nil (r _ ?_)
            clear r R
            try simp only [go_sem, Nat.reduceBEq]
            refine thenK.normal ?_
            refine SA.cond rfl ?_ ?_
            · intro hb8
              try simp only [decide_eq_true_eq, decide_eq_false_iff_not] at hb8
              refine SA.seq ?_
              refine SA.region ok (by kernel_rfl) [2] ?_
              intro R r
              simp only [go_sem, strip]
              iterate 1 (refine opsA_cons fun Z q1 => ?_; simp only [go_sem, seval, -List.reduceReplicate]; (repeat' with_reducible refine And.intro ?_ ?_); all_goals first | (refine q1 _ ?_; clear q1 Z) | omega | rfl | decide | assumption | (intro _; omega) | (simp; done) | (simp; omega))
              refine opsA_nil (r _ ?_)
              clear r R
              try simp only [go_sem, Nat.reduceBEq]
              refine thenK.normal (SA.ret ?_)
              refine blockK.ret ?_
              refine thenK.ret ?_
              refine ctrK.ret ?_
              simp only [resA, evalO, resV, backK, outE, toV, ty4, ty3, List.lookup_cons, List.lookup_nil, beq_self_eq_true, forall_const, true_and, and_true]
              refine ⟨rfl, ?_⟩
              first | (simp [most, *]; done) | (exfalso; omega)
            · intro hb8
              try simp only [decide_eq_true_eq, decide_eq_false_iff_not] at hb8
              refine SA.skip ?_
              refine blockK.normal (thenK.normal ?_)
              refine SA.seq ?_
              refine SA.region ok (by kernel_rfl) [2] ?_
              intro R r
              simp only [go_sem, strip]
              iterate 1 (refine opsA_cons fun Z q1 => ?_; simp only [go_sem, seval, -List.reduceReplicate]; (repeat' with_reducible refine And.intro ?_ ?_); all_goals first | (refine q1 _ ?_; clear q1 Z) | omega | rfl | decide | assumption | (intro _; omega) | (simp; done) | (simp; omega))
              refine opsA_nil (r _ ?_)
              clear r R
              try simp only [go_sem, Nat.reduceBEq]
              refine thenK.normal (SA.ret ?_)
              refine ctrK.ret ?_
              simp only [resA, evalO, resV, backK, outE, toV, ty4, ty3, List.lookup_cons, List.lookup_nil, beq_self_eq_true, forall_const, true_and, and_true]
              refine ⟨rfl, ?_⟩
              first | (simp [most, *]; done) | (exfalso; omega)

theorem compare_ctr (x y : Access) : Ctr Go.Proofs.Try.prog tab 64 [39, 39] [3] [x.v, y.v] [.int (cmp x y)] := by
  refine Ctr.body ok Go.Proofs.Try.func64 rfl rfl 45 rfl [.tmp 4] rfl (by simp [fromVs]) ?_
  simp only [fromVs, fromV, args0, V.toList_list, V.toInt_int, V.toBool_bool, Nat.zero_add, Nat.reduceAdd, ty39]
  refine SA.seq ?_
  refine SA.region ok (by kernel_rfl) [2, 3] ?_
  intro R r
  simp only [go_sem, strip]
  iterate 3 (refine opsA_cons fun Z q1 => ?_; simp only [go_sem, seval, -List.reduceReplicate]; (repeat' with_reducible refine And.intro ?_ ?_); all_goals first | (refine q1 _ ?_; clear q1 Z) | omega | rfl | decide | assumption | (intro _; omega) | (simp; done) | (simp; omega) | (simp [roomFor, maxLen, by39, by3] <;> omega))
  refine opsA_nil (r _ ?_)
  clear r R
  try simp only [go_sem, Nat.reduceBEq]
  refine thenK.normal (SA.seq ?_)
  refine SA.block ?_
  refine SA.seq ?_
  refine SA.region ok (by kernel_rfl) [2, 3, 5] ?_
  intro R r
  simp only [go_sem, strip]
  iterate 27 (refine opsA_cons fun Z q1 => ?_; simp only [go_sem, seval, -List.reduceReplicate]; (repeat' with_reducible refine And.intro ?_ ?_); all_goals first | (refine q1 _ ?_; clear q1 Z) | omega | rfl | decide | assumption | (intro _; omega) | (simp; done) | (simp; omega))
  refine opsA_nil (r _ ?_)
  clear r R
  try simp only [go_sem, Nat.reduceBEq]
  refine thenK.normal ?_
  refine SA.cond rfl ?_ ?_
  · intro hb1
    simp at hb1
    refine SA.seq ?_
    refine SA.region ok (by kernel_rfl) [4] ?_
    intro R r
    simp only [go_sem, strip]
    iterate 1 (refine opsA_cons fun Z q1 => ?_; simp only [go_sem, seval, -List.reduceReplicate]; (repeat' with_reducible refine And.intro ?_ ?_); all_goals first | (refine q1 _ ?_; clear q1 Z) | omega | rfl | decide | assumption | (intro _; omega) | (simp; done) | (simp; omega))
    refine opsA_nil (r _ ?_)
    clear r R
    try simp only [go_sem, Nat.reduceBEq]
    refine thenK.normal (SA.ret ?_)
    refine blockK.ret ?_
    refine thenK.ret ?_
    refine ctrK.ret ?_
    simp only [resA, evalO, resV, backK, outE, toV, ty4, ty3, List.lookup_cons, List.lookup_nil, beq_self_eq_true, forall_const, true_and, and_true]
    refine ⟨rfl, ?_⟩
    first | (simp [cmp, *]; done) | (simp only [if_true, Option.some.injEq, V.int.injEq]; unfold cmp; rw [if_neg (by omega), if_neg (by omega)])
  · intro hb1
    simp at hb1
    refine SA.seq ?_
    refine SA.region ok (by kernel_rfl) [32] ?_
    intro R r
    simp only [go_sem, strip]
    iterate 13 (refine opsA_cons fun Z q1 => ?_; simp only [go_sem, seval, -List.reduceReplicate]; (repeat' with_reducible refine And.intro ?_ ?_); all_goals first | (refine q1 _ ?_; clear q1 Z) | omega | rfl | decide | assumption | (intro _; omega) | (simp; done) | (simp; omega))
    refine opsA_nil (r _ ?_)
    clear r R
    try simp only [go_sem, Nat.reduceBEq]
    refine thenK.normal ?_
    refine SA.cond rfl ?_ ?_
    · intro hb2
      simp at hb2
      refine SA.seq ?_
      refine SA.region ok (by kernel_rfl) [4] ?_
      intro R r
      simp only [go_sem, strip]
      iterate 1 (refine opsA_cons fun Z q1 => ?_; simp only [go_sem, seval, -List.reduceReplicate]; (repeat' with_reducible refine And.intro ?_ ?_); all_goals first | (refine q1 _ ?_; clear q1 Z) | omega | rfl | decide | assumption | (intro _; omega) | (simp; done) | (simp; omega))
      refine opsA_nil (r _ ?_)
      clear r R
      try simp only [go_sem, Nat.reduceBEq]
      refine thenK.normal (SA.ret ?_)
      refine blockK.ret ?_
      refine thenK.ret ?_
      refine ctrK.ret ?_
      simp only [resA, evalO, resV, backK, outE, toV, ty4, ty3, List.lookup_cons, List.lookup_nil, beq_self_eq_true, forall_const, true_and, and_true]
      refine ⟨rfl, ?_⟩
      first | (simp [cmp, *]; done) | (simp only [if_true, Option.some.injEq, V.int.injEq]; unfold cmp; rw [if_neg (by omega), if_neg (by omega)])
    · intro hb2
      simp at hb2
      refine SA.skip ?_
      refine blockK.normal (thenK.normal ?_)
      refine SA.seq ?_
      refine SA.region ok (by kernel_rfl) [4] ?_
      intro R r
      simp only [go_sem, strip]
      iterate 1 (refine opsA_cons fun Z q1 => ?_; simp only [go_sem, seval, -List.reduceReplicate]; (repeat' with_reducible refine And.intro ?_ ?_); all_goals first | (refine q1 _ ?_; clear q1 Z) | omega | rfl | decide | assumption | (intro _; omega) | (simp; done) | (simp; omega))
      refine opsA_nil (r _ ?_)
      clear r R
      try simp only [go_sem, Nat.reduceBEq]
      refine thenK.normal (SA.ret ?_)
      refine ctrK.ret ?_
      simp only [resA, evalO, resV, backK, outE, toV, ty4, ty3, List.lookup_cons, List.lookup_nil, beq_self_eq_true, forall_const, true_and, and_true]
      refine ⟨rfl, ?_⟩
      first | (simp [cmp, *]; done) | (simp only [if_true, Option.some.injEq, V.int.injEq]; unfold cmp; rw [if_neg (by omega), if_neg (by omega)])

theorem right_ctr (e : Event) (he : e.touch.length = 6) : Ctr Go.Proofs.Try.prog tab 44 [42] [4] [e.v] [.bool (right e)] := by
  refine Ctr.body ok Go.Proofs.Try.func44 rfl rfl 72 rfl [.tmp 2] rfl (by simp [fromVs]) ?_
  simp only [fromVs, fromV, args0, V.toList_list, V.toInt_int, V.toBool_bool, Nat.zero_add, Nat.reduceAdd, ty42]
  refine SA.seq ?_
  refine SA.region ok (by kernel_rfl) [1] ?_
  intro R r
  simp only [go_sem, strip]
  iterate 2 (refine opsA_cons fun Z q1 => ?_; simp only [go_sem, seval, -List.reduceReplicate]; (repeat' with_reducible refine And.intro ?_ ?_); all_goals first | (refine q1 _ ?_; clear q1 Z) | omega | rfl | decide | assumption | (intro _; omega) | (simp; done) | (simp; omega) | (simp [roomFor, maxLen, by39, by3] <;> omega))
  refine opsA_nil (r _ ?_)
  clear r R
  try simp only [go_sem, Nat.reduceBEq]
  refine thenK.normal (SA.seq ?_)
  refine SA.seq ?_
  refine SA.region ok (by kernel_rfl) [1, 23] ?_
  intro R r
  simp only [go_sem, strip]
  iterate 18 (refine opsA_cons fun Z q1 => ?_; simp only [go_sem, seval, -List.reduceReplicate]; (repeat' with_reducible refine And.intro ?_ ?_); all_goals first | (refine q1 _ ?_; clear q1 Z) | omega | rfl | decide | assumption | (intro _; omega) | (simp; done) | (simp; omega))
  refine opsA_nil (r _ ?_)
  clear r R
  try simp only [go_sem, Nat.reduceBEq]
  refine thenK.normal ?_
  refine SA.cond rfl ?_ ?_
  · intro hb1
    simp at hb1
    refine SA.seq ?_
    refine SA.region ok (by kernel_rfl) [2] ?_
    intro R r
    simp only [go_sem, strip]
    iterate 1 (refine opsA_cons fun Z q1 => ?_; simp only [go_sem, seval, -List.reduceReplicate]; (repeat' with_reducible refine And.intro ?_ ?_); all_goals first | (refine q1 _ ?_; clear q1 Z) | omega | rfl | decide | assumption | (intro _; omega) | (simp; done) | (simp; omega))
    refine opsA_nil (r _ ?_)
    clear r R
    try simp only [go_sem, Nat.reduceBEq]
    refine thenK.normal (SA.ret ?_)
    refine thenK.ret ?_
    refine ctrK.ret ?_
    simp only [resA, evalO, resV, backK, outE, toV, ty4, ty3, List.lookup_cons, List.lookup_nil, beq_self_eq_true, forall_const, true_and, and_true]
    refine ⟨rfl, ?_⟩
    have : right e = false := Bool.eq_false_iff.2 fun h => by simp [right] at h; omega
    rw [this]; rfl
  · intro hb1
    simp at hb1
    refine SA.skip ?_
    refine thenK.normal (SA.seq ?_)
    refine SA.region ok (by kernel_rfl) [1, 3] ?_
    intro R r
    simp only [go_sem, strip]
    iterate 1 (refine opsA_cons fun Z q1 => ?_; simp only [go_sem, seval, -List.reduceReplicate]; (repeat' with_reducible refine And.intro ?_ ?_); all_goals first | (refine q1 _ ?_; clear q1 Z) | omega | rfl | decide | assumption | (intro _; omega) | (simp; done) | (simp; omega))
    refine opsA_nil (r _ ?_)
    clear r R
    try simp only [go_sem, Nat.reduceBEq]
    refine thenK.normal (SA.seq ?_)
    refine SA.seq ?_
    refine SA.region ok (by kernel_rfl) [1, 3, 25, 26] ?_
    intro R r
    simp only [go_sem, strip]
    iterate 3 (refine opsA_cons fun Z q1 => ?_; simp only [go_sem, seval, -List.reduceReplicate]; (repeat' with_reducible refine And.intro ?_ ?_); all_goals first | (refine q1 _ ?_; clear q1 Z) | omega | rfl | decide | assumption | (intro _; omega) | (simp; done) | (simp; omega))
    refine opsA_nil (r _ ?_)
    clear r R
    try simp only [go_sem, Nat.reduceBEq]
    refine thenK.normal (SA.block ?_)
    refine SA.weaken (St.le.of_eq (by first | rfl | simp)) (SA.loop (fun n τ => ∃ (i : Nat), n = 6 - i ∧ (i ≤ 6 ∧ (0 ≤ e.go ∧ e.go < 6 ∧ 1 ≤ e.touches ∧ e.touches ≤ 6) ∧ (List.range i).all (placeOk e) = true) ∧ τ = { tm := [(1, true, .ptr 0 [] 42), (3, true, .bool ((List.range i).any (ownAt e))), (25, true, .data 40 (.agg (e.touch.map Access.v))), (26, true, .int .i64 i)], ob := [.var 42 (.data 42 e.v)], out := [], nt := 72 }) (6) ⟨0, rfl, ⟨by omega, by omega, rfl⟩, rfl⟩ ?_)
    rintro n τ ⟨i, hn, ⟨hi, hc, hd⟩, rfl⟩
    refine SA.seq ?_
    refine SA.region ok (by kernel_rfl) [1, 3, 25, 26, 27] ?_
    intro R r
    simp only [go_sem, strip]
    iterate 1 (refine opsA_cons fun Z q1 => ?_; simp only [go_sem, seval, -List.reduceReplicate]; (repeat' with_reducible refine And.intro ?_ ?_); all_goals first | (refine q1 _ ?_; clear q1 Z) | omega | rfl | decide | assumption | (intro _; omega) | (simp; done) | (simp; omega))
    refine opsA_nil (r _ ?_)
    clear r R
    try simp only [go_sem, Nat.reduceBEq]
    refine thenK.normal (SA.seq ?_)
    refine SA.cond rfl ?_ ?_
    · intro hb2
      simp at hb2
      refine SA.skip ?_
      refine thenK.normal (SA.seq ?_)
      refine SA.block ?_
      refine SA.seq ?_
      refine SA.region ok (by kernel_rfl) [1, 3, 4, 5, 25, 26] ?_
      intro R r
      simp only [go_sem, strip]
      iterate 5 (refine opsA_cons fun Z q1 => ?_; simp only [go_sem, seval, -List.reduceReplicate]; (repeat' with_reducible refine And.intro ?_ ?_); all_goals first | (refine q1 _ ?_; clear q1 Z) | omega | rfl | decide | assumption | (intro _; omega) | (simp; done) | (simp; omega) | (simp [roomFor, maxLen, by39, by3] <;> omega))
      refine opsA_nil (r _ ?_)
      clear r R
      try simp only [go_sem, Nat.reduceBEq]
      have hl : i < e.touch.length := by omega
      rw [getD_map Access.v e.touch hl]
      refine thenK.normal (SA.seq ?_)
      refine SA.seq ?_
      refine SA.region ok (by kernel_rfl) [1, 3, 4, 5, 25, 26, 33] ?_
      intro R r
      simp only [go_sem, strip]
      iterate 4 (refine opsA_cons fun Z q1 => ?_; simp only [go_sem, seval, -List.reduceReplicate]; (repeat' with_reducible refine And.intro ?_ ?_); all_goals first | (refine q1 _ ?_; clear q1 Z) | omega | rfl | decide | assumption | (intro _; omega) | (simp; done) | (simp; omega))
      refine opsA_nil (r _ ?_)
      clear r R
      try simp only [go_sem, Nat.reduceBEq]
      refine thenK.normal ?_
      refine SA.cond rfl ?_ ?_
      · intro hb3
        simp at hb3
        refine SA.seq ?_
        refine SA.seq ?_
        refine SA.region ok (by kernel_rfl) [1, 3, 25, 26, 36] ?_
        intro R r
        simp only [go_sem, strip]
        iterate 3 (refine opsA_cons fun Z q1 => ?_; simp only [go_sem, seval, -List.reduceReplicate]; (repeat' with_reducible refine And.intro ?_ ?_); all_goals first | (refine q1 _ ?_; clear q1 Z) | omega | rfl | decide | assumption | (intro _; omega) | (simp; done) | (simp; omega))
        refine opsA_nil (r _ ?_)
        clear r R
        try simp only [go_sem, Nat.reduceBEq]
        refine thenK.normal ?_
        refine SA.cond rfl ?_ ?_
        · intro hb4
          simp at hb4
          refine SA.seq ?_
          refine SA.region ok (by kernel_rfl) [2] ?_
          intro R r
          simp only [go_sem, strip]
          iterate 1 (refine opsA_cons fun Z q1 => ?_; simp only [go_sem, seval, -List.reduceReplicate]; (repeat' with_reducible refine And.intro ?_ ?_); all_goals first | (refine q1 _ ?_; clear q1 Z) | omega | rfl | decide | assumption | (intro _; omega) | (simp; done) | (simp; omega))
          refine opsA_nil (r _ ?_)
          clear r R
          try simp only [go_sem, Nat.reduceBEq]
          refine thenK.normal (SA.ret ?_)
          refine thenK.ret ?_
          refine thenK.ret ?_
          refine blockK.ret ?_
          refine thenK.ret ?_
          refine loopK.ret ?_
          refine blockK.ret ?_
          refine thenK.ret ?_
          refine ctrK.ret ?_
          simp only [resA, evalO, resV, backK, outE, toV, ty4, ty3, List.lookup_cons, List.lookup_nil, beq_self_eq_true, forall_const, true_and, and_true]
          refine ⟨rfl, ?_⟩
          have hp : placeOk e i = false := by simp [placeOk, hb3, hb4]
          have : right e = false := by simp [right, all_range_false (show i < 6 by omega) hp]
          rw [this]; rfl
        · intro hb4
          simp at hb4
          refine SA.skip ?_
          refine thenK.normal ?_
          refine SA.exit ?_
          refine thenK.exit ?_
          refine blockK.hit ?_
          refine thenK.normal ?_
          refine SA.region ok (by kernel_rfl) [1, 3, 25, 26] ?_
          intro R r
          simp only [go_sem, strip]
          iterate 2 (refine opsA_cons fun Z q1 => ?_; simp only [go_sem, seval, -List.reduceReplicate]; (repeat' with_reducible refine And.intro ?_ ?_); all_goals first | (refine q1 _ ?_; clear q1 Z) | omega | rfl | decide | assumption | (intro _; omega) | (simp; done) | (simp; omega))
          refine opsA_nil (r _ ?_)
          clear r R
          try simp only [go_sem, Nat.reduceBEq]
          have hlt : i < 6 := by omega
          have hp : placeOk e i = true := by simp [placeOk, hb3, hb4]
          have ho : ownAt e i = false := by simp [ownAt]; omega
          refine loopK.normal (6 - (i + 1)) _ (by omega) ((St.le.cut 1 rfl).trans (St.le.of_eq (by simp only [wrap_succ hlt (by decide : 6 ≤ maxLen), any_range_succ, ho, Bool.or_false, List.take_succ_cons, List.take_zero]))) ⟨i + 1, rfl, ⟨hlt, hc, ?_⟩, rfl⟩
          rw [all_range_succ, hd, hp]; rfl
      · intro hb3
        simp at hb3
        refine SA.skip ?_
        refine thenK.normal (SA.seq ?_)
        refine SA.seq ?_
        refine SA.regionQ ok mixed (by kernel_rfl) (by kernel_rfl) [1, 3, 5, 25, 26, 61] ?_
        intro R r
        simp only [go_sem, strip]
        iterate 8 (refine opsQ_cons fun Z q1 => ?_; simp only [go_sem, seval, -List.reduceReplicate]; (repeat' with_reducible refine And.intro ?_ ?_); all_goals first | (refine q1 _ ?_; clear q1 Z) | omega | rfl | decide | assumption | (intro _; omega) | (simp; done) | (simp; omega) | (simp [roomFor, maxLen, by39, by3] <;> omega))
        refine opsQ_cons fun Z q1 => ?_
        simp only [go_sem, seval, -List.reduceReplicate]
        repeat' with_reducible refine And.intro ?_ ?_
        all_goals try (first | omega | assumption | (intro _; omega))
        first | refine ⟨_, _, rfl, _, CallQ.ctr ok (most_ctr (e.touch.getD i default).kind) (by first | rfl | (simp [argsV, toVs, contentV, toV, capsV, capsE, ty3, ty4, ty81, ty39, ty40, ty42, ty37, ty2, List.length_map, List.take_of_length_le])) rfl, ?_⟩ | refine ⟨_, _, rfl, _, fun hg => CallQ.ctr ok (most_ctr (e.touch.getD i default).kind) (by first | rfl | (simp [argsV, toVs, contentV, toV, capsV, capsE, ty3, ty4, ty81, ty39, ty40, ty42, ty37, ty2, List.length_map, List.take_of_length_le])) rfl, ?_⟩
        simp only [go_sem, seval, -List.reduceReplicate]
        repeat' with_reducible refine And.intro ?_ ?_
        all_goals first | (refine q1 _ ?_; clear q1 Z) | omega | rfl | decide | assumption | (intro _; omega) | (simp; done) | (simp; omega) | (simp [roomFor, maxLen, by39, by3] <;> omega)
        iterate 7 (refine opsQ_cons fun Z q1 => ?_; simp only [go_sem, seval, -List.reduceReplicate]; (repeat' with_reducible refine And.intro ?_ ?_); all_goals first | (refine q1 _ ?_; clear q1 Z) | omega | rfl | decide | assumption | (intro _; omega) | (simp; done) | (simp; omega) | (simp [roomFor, maxLen, by39, by3] <;> omega))
        refine opsQ_cons fun Z q1 => ?_
        simp only [go_sem, seval, -List.reduceReplicate]
        repeat' with_reducible refine And.intro ?_ ?_
        all_goals first | (refine q1 _ ?_; clear q1 Z) | omega | rfl | decide | assumption | (intro _; omega) | (simp; done) | (simp; omega) | (simp [roomFor, maxLen, by39, by3] <;> omega)
        rw [wrap64_ok (n := (i : Int) - 1) (by omega) (by omega)]
        iterate 2 (refine opsQ_cons fun Z q1 => ?_; simp only [go_sem, seval, -List.reduceReplicate]; (repeat' with_reducible refine And.intro ?_ ?_); all_goals first | (refine q1 _ ?_; clear q1 Z) | omega | rfl | decide | assumption | (intro _; omega) | (simp; done) | (simp; omega) | (simp [roomFor, maxLen, by39, by3] <;> omega))
        refine opsQ_cons fun Z q1 => ?_
        simp only [go_sem, seval, -List.reduceReplicate]
        repeat' with_reducible refine And.intro ?_ ?_
        all_goals first | (refine q1 _ ?_; clear q1 Z) | omega | rfl | decide | assumption | (intro _; omega) | (simp; done) | (simp; omega) | (simp [roomFor, maxLen, by39, by3] <;> omega)
        have hk : ((i : Int) - 1).toNat = i - 1 := by omega
        rw [hk, getD_map Access.v e.touch (by omega : i - 1 < e.touch.length)]
        iterate 1 (refine opsQ_cons fun Z q1 => ?_; simp only [go_sem, seval, -List.reduceReplicate]; (repeat' with_reducible refine And.intro ?_ ?_); all_goals first | (refine q1 _ ?_; clear q1 Z) | omega | rfl | decide | assumption | (intro _; omega) | (simp; done) | (simp; omega) | (simp [roomFor, maxLen, by39, by3] <;> omega))
        refine opsQ_cons fun Z q1 => ?_
        simp only [go_sem, seval, -List.reduceReplicate]
        repeat' with_reducible refine And.intro ?_ ?_
        all_goals try (first | omega | assumption | (intro _; omega))
        first | refine ⟨_, _, rfl, _, CallQ.ctr ok (compare_ctr (e.touch.getD (i - 1) default) (e.touch.getD i default)) (by first | rfl | (simp [argsV, toVs, contentV, toV, capsV, capsE, ty3, ty4, ty81, ty39, ty40, ty42, ty37, ty2, List.length_map, List.take_of_length_le])) rfl, ?_⟩ | refine ⟨_, _, rfl, _, fun hg => CallQ.ctr ok (compare_ctr (e.touch.getD (i - 1) default) (e.touch.getD i default)) (by first | rfl | (simp [argsV, toVs, contentV, toV, capsV, capsE, ty3, ty4, ty81, ty39, ty40, ty42, ty37, ty2, List.length_map, List.take_of_length_le])) rfl, ?_⟩
        simp only [go_sem, seval, -List.reduceReplicate]
        repeat' with_reducible refine And.intro ?_ ?_
        all_goals first | (refine q1 _ ?_; clear q1 Z) | omega | rfl | decide | assumption | (intro _; omega) | (simp; done) | (simp; omega) | (simp [roomFor, maxLen, by39, by3] <;> omega)
        iterate 3 (refine opsQ_cons fun Z q1 => ?_; simp only [go_sem, seval, -List.reduceReplicate]; (repeat' with_reducible refine And.intro ?_ ?_); all_goals first | (refine q1 _ ?_; clear q1 Z) | omega | rfl | decide | assumption | (intro _; omega) | (simp; done) | (simp; omega) | (simp [roomFor, maxLen, by39, by3] <;> omega))
        refine opsQ_nil (r _ ?_)
        clear r R
        try simp only [go_sem, Nat.reduceBEq]
        refine thenK.normal ?_
        refine SA.cond rfl ?_ ?_
        · intro hb5
          simp at hb5
          refine SA.seq ?_
          refine SA.region ok (by kernel_rfl) [2] ?_
          intro R r
          simp only [go_sem, strip]
          iterate 1 (refine opsA_cons fun Z q1 => ?_; simp only [go_sem, seval, -List.reduceReplicate]; (repeat' with_reducible refine And.intro ?_ ?_); all_goals first | (refine q1 _ ?_; clear q1 Z) | omega | rfl | decide | assumption | (intro _; omega) | (simp; done) | (simp; omega))
          refine opsA_nil (r _ ?_)
          clear r R
          try simp only [go_sem, Nat.reduceBEq]
          refine thenK.normal (SA.ret ?_)
          refine thenK.ret ?_
          refine blockK.ret ?_
          refine thenK.ret ?_
          refine loopK.ret ?_
          refine blockK.ret ?_
          refine thenK.ret ?_
          refine ctrK.ret ?_
          simp only [resA, evalO, resV, backK, outE, toV, ty4, ty3, List.lookup_cons, List.lookup_nil, beq_self_eq_true, forall_const, true_and, and_true]
          refine ⟨rfl, ?_⟩
          have hp : placeOk e i = false := by
            rw [Bool.eq_false_iff]; intro h
            simp [placeOk, show ¬ e.touches ≤ i by omega] at h
            omega
          have : right e = false := by simp [right, all_range_false (show i < 6 by omega) hp]
          rw [this]; rfl
        · intro hb5
          simp at hb5
          refine SA.skip ?_
          refine thenK.normal ?_
          refine SA.region ok (by kernel_rfl) [1, 3, 25, 26] ?_
          intro R r
          simp only [go_sem, strip]
          iterate 9 (refine opsA_cons fun Z q1 => ?_; simp only [go_sem, seval, -List.reduceReplicate]; (repeat' with_reducible refine And.intro ?_ ?_); all_goals first | (refine q1 _ ?_; clear q1 Z) | omega | rfl | decide | assumption | (intro _; omega) | (simp; done) | (simp; omega))
          refine opsA_nil (r _ ?_)
          clear r R
          try simp only [go_sem, Nat.reduceBEq]
          refine blockK.normal (thenK.normal ?_)
          refine SA.region ok (by kernel_rfl) [1, 3, 25, 26] ?_
          intro R r
          simp only [go_sem, strip]
          iterate 2 (refine opsA_cons fun Z q1 => ?_; simp only [go_sem, seval, -List.reduceReplicate]; (repeat' with_reducible refine And.intro ?_ ?_); all_goals first | (refine q1 _ ?_; clear q1 Z) | omega | rfl | decide | assumption | (intro _; omega) | (simp; done) | (simp; omega))
          refine opsA_nil (r _ ?_)
          clear r R
          try simp only [go_sem, Nat.reduceBEq]
          have hlt : i < 6 := by omega
          have hp : placeOk e i = true := by
            simp [placeOk, show ¬ e.touches ≤ i by omega]
            omega
          have ho : (bif (List.range i).any (ownAt e) then true else decide (e.touch.getD i default = { kind := 5, num := e.go, write := true })) = (List.range (i + 1)).any (ownAt e) := by
            rw [any_range_succ]
            have : decide ((i : Int) < e.touches) = true := by simpa using hb3
            simp only [ownAt, this, Bool.true_and]
            cases (List.range i).any (ownAt e) <;> rfl
          refine loopK.normal (6 - (i + 1)) _ (by omega) ((St.le.cut 1 rfl).trans (St.le.of_eq (by simp only [wrap_succ hlt (by decide : 6 ≤ maxLen), ho, List.take_succ_cons, List.take_zero]))) ⟨i + 1, rfl, ⟨hlt, hc, ?_⟩, rfl⟩
          rw [all_range_succ, hd, hp]; rfl
    · intro hb2
      simp at hb2
      refine SA.exit ?_
      refine thenK.exit ?_
      refine loopK.exit ?_
      refine blockK.hit ?_
      refine thenK.normal (SA.seq ?_)
      refine SA.region ok (by kernel_rfl) [2] ?_
      intro R r
      simp only [go_sem, strip]
      iterate 2 (refine opsA_cons fun Z q1 => ?_; simp only [go_sem, seval, -List.reduceReplicate]; (repeat' with_reducible refine And.intro ?_ ?_); all_goals first | (refine q1 _ ?_; clear q1 Z) | omega | rfl | decide | assumption | (intro _; omega) | (simp; done) | (simp; omega))
      refine opsA_nil (r _ ?_)
      clear r R
      try simp only [go_sem, Nat.reduceBEq]
      refine thenK.normal (SA.ret ?_)
      refine ctrK.ret ?_
      simp only [resA, evalO, resV, backK, outE, toV, ty4, ty3, List.lookup_cons, List.lookup_nil, beq_self_eq_true, forall_const, true_and, and_true]
      refine ⟨rfl, ?_⟩
      have h6 : i = 6 := by omega
      subst h6
      have : right e = (List.range 6).any (ownAt e) := by
        simp only [right, hd, Bool.true_and, decide_eq_true hc.1, decide_eq_true hc.2.1, decide_eq_true hc.2.2.1, decide_eq_true hc.2.2.2]
      rw [this]; rfl

end Go.Eng.Try
