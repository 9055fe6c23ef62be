/- A part of the proof: walks through the program's functions, and what they compute. -/
import Derived.Test.YtipodgpcbkoopaaE3
import Derived.Test.YtipodgpcbkoopaaE4
import Derived.Test.YtipodgpcbkoopaaGW3
namespace Go.Eng.Try
open Go.RowKit Go.Eng
set_option linter.unusedSimpArgs false
set_option linter.unusedVariables false

theorem cmp_neg (a b : Access) : cmp a b < 0 ↔ a.kind < b.kind ∨ a.kind = b.kind ∧ a.num < b.num := by
  unfold cmp
  split
  · rename_i h; constructor
    · intro _; omega
    · intro _; omega
  · rename_i h
    split
    · constructor
      · intro h; omega
      · intro h; omega
    · constructor
      · intro h; omega
      · intro h'; omega
theorem acc_eq (a : Access) (k n : Int) : decide (a = ⟨k, n, true⟩) = (decide (a.kind = k) && decide (a.num = n) && a.write) := by
  obtain ⟨k', n', w⟩ := a
  by_cases h1 : k' = k <;> by_cases h2 : n' = n <;> cases w <;> simp [h1, h2]

attribute [local go_sem] argsV contentV fromVs Option.getD_some St.keep List.filterMap_cons List.filterMap_nil Option.map_some Option.map_none opG opQ opB newEs outE CallStepB guardA putK putE pureA evalO evalL constE pickA capsE capsV loadA fieldAddrA indexAddrA indexA sliceA evalOptI builtinA binA plainA shiftA eqA nilA arith shifts effA storeA appendA appB freshA St.kill Tm.kill E.kill E.killL Obj.kill elemsOf evalVs buildA okAt toV fromV zeroE V.get V.put V.sub V.setSub args0 CallStep CallStepQ i64min i64max u64min u64max u32min u32max u8min u8max Nat.zero_add List.length_map List.lookup_cons List.lookup_nil List.getElem?_cons_zero List.getElem?_cons_succ List.getElem?_toArray List.getElem?_nil Option.bind_some Option.bind_none List.size_toArray List.length_cons List.length_nil List.nil_append List.append_nil List.cons_append List.getD_cons_zero List.getD_cons_succ List.map_cons List.map_nil List.set_cons_zero List.set_cons_succ true_and and_true forall_const true_implies Bool.true_and Bool.and_true Bool.not_true Bool.not_false Bool.false_and Bool.and_false beq_self_eq_true Bool.true_beq Bool.false_beq beq_true beq_false eq_self false_implies V.toInt_int V.toBool_bool V.toList_list V.toList_agg V.toStr_str V.deref_ref if_true if_false Bool.false_eq_true Option.isSome_none Option.isSome_some Bool.false_or Bool.true_or Bool.or_false Bool.or_true cond_true cond_false implies_true and_self imp_self ty23 ty22 ty25 ty3 ty4 ty81 ty39 ty40 ty42 ty37 ty2 concat_at zero39 z39 z3 z4 Int.toNat_natCast Int.natCast_zero Event.v0 Event.v7 Event.v8 Access.v0 Access.v1 Access.v2 beq_acc
theorem few_ctr (k : Int) : Ctr Go.Proofs.Try.prog tab 60 [3] [3] [.int k] [.int (most k)] := by
  refine Ctr.body ok Go.Proofs.Try.func60 rfl rfl 14 rfl [.tmp 2] rfl (by simp [fromVs]) ?_
  simp only [fromVs, fromV, args0, V.toList_list, V.toInt_int, V.toBool_bool, Nat.zero_add, Nat.reduceAdd, ty3]
  refine SA.seq ?_
  refine SA.region ok (by kernel_rfl) [0] ?_
  intro R r
  simp only [go_sem, strip]
  iterate 1 (refine opsA_cons fun Z q1 => ?_; simp only [go_sem, seval, -List.reduceReplicate]; (repeat' with_reducible refine And.intro ?_ ?_); all_goals first | (refine q1 _ ?_; clear q1 Z) | omega | rfl | decide | assumption | (intro _; omega) | (simp; done) | (simp; omega))
  refine opsA_nil (r _ ?_)
  clear r R
  try simp only [go_sem, Nat.reduceBEq]
  refine thenK.normal (SA.seq ?_)
  refine SA.seq ?_
  refine SA.region ok (by kernel_rfl) [3] ?_
  intro R r
  simp only [go_sem, strip]
  iterate 1 (refine opsA_cons fun Z q1 => ?_; simp only [go_sem, seval, -List.reduceReplicate]; (repeat' with_reducible refine And.intro ?_ ?_); all_goals first | (refine q1 _ ?_; clear q1 Z) | omega | rfl | decide | assumption | (intro _; omega) | (simp; done) | (simp; omega))
  refine opsA_nil (r _ ?_)
  clear r R
  try simp only [go_sem, Nat.reduceBEq]
  refine thenK.normal (SA.block ?_)
  refine SA.seq ?_
  refine SA.region ok (by kernel_rfl) [3, 4] ?_
  intro R r
  simp only [go_sem, strip]
  iterate 2 (refine opsA_cons fun Z q1 => ?_; simp only [go_sem, seval, -List.reduceReplicate]; (repeat' with_reducible refine And.intro ?_ ?_); all_goals first | (refine q1 _ ?_; clear q1 Z) | omega | rfl | decide | assumption | (intro _; omega) | (simp; done) | (simp; omega))
  refine opsA_nil (r _ ?_)
  clear r R
  try simp only [go_sem, Nat.reduceBEq]
  refine thenK.normal ?_
  refine SA.cond rfl ?_ ?_
  · intro hb1
    try simp only [decide_eq_true_eq, decide_eq_false_iff_not] at hb1
    refine SA.seq ?_
    refine SA.region ok (by kernel_rfl) [2] ?_
    intro R r
    simp only [go_sem, strip]
    iterate 1 (refine opsA_cons fun Z q1 => ?_; simp only [go_sem, seval, -List.reduceReplicate]; (repeat' with_reducible refine And.intro ?_ ?_); all_goals first | (refine q1 _ ?_; clear q1 Z) | omega | rfl | decide | assumption | (intro _; omega) | (simp; done) | (simp; omega))
    refine opsA_nil (r _ ?_)
    clear r R
    try simp only [go_sem, Nat.reduceBEq]
    refine thenK.normal (SA.ret ?_)
    refine blockK.ret ?_
    refine thenK.ret ?_
    refine ctrK.ret ?_
    simp only [resA, evalO, resV, backK, outE, toV, ty4, ty3, List.lookup_cons, List.lookup_nil, beq_self_eq_true, forall_const, true_and, and_true]
    refine ⟨rfl, ?_⟩
    first | (simp [most, *]; done) | (exfalso; omega)
  · intro hb1
    try simp only [decide_eq_true_eq, decide_eq_false_iff_not] at hb1
    refine SA.seq ?_
    refine SA.seq ?_
    refine SA.region ok (by kernel_rfl) [3, 6] ?_
    intro R r
    simp only [go_sem, strip]
    iterate 2 (refine opsA_cons fun Z q1 => ?_; simp only [go_sem, seval, -List.reduceReplicate]; (repeat' with_reducible refine And.intro ?_ ?_); all_goals first | (refine q1 _ ?_; clear q1 Z) | omega | rfl | decide | assumption | (intro _; omega) | (simp; done) | (simp; omega))
    refine opsA_nil (r _ ?_)
    clear r R
    try simp only [go_sem, Nat.reduceBEq]
    refine thenK.normal ?_
    refine SA.cond rfl ?_ ?_
    · intro hb2
      try simp only [decide_eq_true_eq, decide_eq_false_iff_not] at hb2
      refine SA.skip ?_
      refine thenK.normal ?_
      refine SA.cond rfl ?_ ?_
      · intro hb3
        try simp only [decide_eq_true_eq, decide_eq_false_iff_not] at hb3
        refine SA.seq ?_
        refine SA.region ok (by kernel_rfl) [2] ?_
        intro R r
        simp only [go_sem, strip]
        iterate 1 (refine opsA_cons fun Z q1 => ?_; simp only [go_sem, seval, -List.reduceReplicate]; (repeat' with_reducible refine And.intro ?_ ?_); all_goals first | (refine q1 _ ?_; clear q1 Z) | omega | rfl | decide | assumption | (intro _; omega) | (simp; done) | (simp; omega))
        refine opsA_nil (r _ ?_)
        clear r R
        try simp only [go_sem, Nat.reduceBEq]
        refine thenK.normal (SA.ret ?_)
        refine blockK.ret ?_
        refine thenK.ret ?_
        refine ctrK.ret ?_
        simp only [resA, evalO, resV, backK, outE, toV, ty4, ty3, List.lookup_cons, List.lookup_nil, beq_self_eq_true, forall_const, true_and, and_true]
        refine ⟨rfl, ?_⟩
        first | (simp [most, *]; done) | (exfalso; omega)
      · intro hb3
        try simp only [decide_eq_true_eq, decide_eq_false_iff_not] at hb3
        refine SA.seq ?_
        refine SA.seq ?_
        refine SA.region ok (by kernel_rfl) [3, 9] ?_
        intro R r
        simp only [go_sem, strip]
        iterate 2 (refine opsA_cons fun Z q1 => ?_; simp only [go_sem, seval, -List.reduceReplicate]; (repeat' with_reducible refine And.intro ?_ ?_); all_goals first | (refine q1 _ ?_; clear q1 Z) | omega | rfl | decide | assumption | (intro _; omega) | (simp; done) | (simp; omega))
        refine opsA_nil (r _ ?_)
        clear r R
        try simp only [go_sem, Nat.reduceBEq]
        refine thenK.normal ?_
        refine SA.cond rfl ?_ ?_
        · intro hb4
          try simp only [decide_eq_true_eq, decide_eq_false_iff_not] at hb4
          refine SA.skip ?_
          refine thenK.normal ?_
          refine SA.cond rfl ?_ ?_
          · intro hb5
            try simp only [decide_eq_true_eq, decide_eq_false_iff_not] at hb5
            refine SA.seq ?_
            refine SA.region ok (by kernel_rfl) [2] ?_
            intro R r
            simp only [go_sem, strip]
            iterate 1 (refine opsA_cons fun Z q1 => ?_; simp only [go_sem, seval, -List.reduceReplicate]; (repeat' with_reducible refine And.intro ?_ ?_); all_goals first | (refine q1 _ ?_; clear q1 Z) | omega | rfl | decide | assumption | (intro _; omega) | (simp; done) | (simp; omega))
            refine opsA_nil (r _ ?_)
            clear r R
            try simp only [go_sem, Nat.reduceBEq]
            refine thenK.normal (SA.ret ?_)
            refine blockK.ret ?_
            refine thenK.ret ?_
            refine ctrK.ret ?_
            simp only [resA, evalO, resV, backK, outE, toV, ty4, ty3, List.lookup_cons, List.lookup_nil, beq_self_eq_true, forall_const, true_and, and_true]
            refine ⟨rfl, ?_⟩
            first | (simp [most, *]; done) | (exfalso; omega)
          · intro hb5
            try simp only [decide_eq_true_eq, decide_eq_false_iff_not] at hb5
            refine SA.seq ?_
            refine SA.region ok (by kernel_rfl) [12] ?_
            intro R r
            simp only [go_sem, strip]
            iterate 2 (refine opsA_cons fun Z q1 => ?_; simp only [go_sem, seval, -List.reduceReplicate]; (repeat' with_reducible refine And.intro ?_ ?_); all_goals first | (refine q1 _ ?_; clear q1 Z) | omega | rfl | decide | assumption | (intro _; omega) | (simp; done) | (simp; omega))
            refine opsA_nil (r _ ?_)
            clear r R
            try simp only [go_sem, Nat.reduceBEq]
            refine thenK.normal ?_
            refine SA.cond rfl ?_ ?_
            · intro hb6
              try simp only [decide_eq_true_eq, decide_eq_false_iff_not] at hb6
              refine SA.seq ?_
              refine SA.region ok (by kernel_rfl) [2] ?_
              intro R r
              simp only [go_sem, strip]
              iterate 1 (refine opsA_cons fun Z q1 => ?_; simp only [go_sem, seval, -List.reduceReplicate]; (repeat' with_reducible refine And.intro ?_ ?_); all_goals first | (refine q1 _ ?_; clear q1 Z) | omega | rfl | decide | assumption | (intro _; omega) | (simp; done) | (simp; omega))
              refine opsA_nil (r _ ?_)
              clear r R
              try simp only [go_sem, Nat.reduceBEq]
              refine thenK.normal (SA.ret ?_)
              refine blockK.ret ?_
              refine thenK.ret ?_
              refine ctrK.ret ?_
              simp only [resA, evalO, resV, backK, outE, toV, ty4, ty3, List.lookup_cons, List.lookup_nil, beq_self_eq_true, forall_const, true_and, and_true]
              refine ⟨rfl, ?_⟩
              first | (simp [most, *]; done) | (exfalso; omega)
            · intro hb6
              try simp only [decide_eq_true_eq, decide_eq_false_iff_not] at hb6
              refine SA.skip ?_
              refine blockK.normal (thenK.normal ?_)
              refine SA.seq ?_
              refine SA.region ok (by kernel_rfl) [2] ?_
              intro R r
              simp only [go_sem, strip]
              iterate 1 (refine opsA_cons fun Z q1 => ?_; simp only [go_sem, seval, -List.reduceReplicate]; (repeat' with_reducible refine And.intro ?_ ?_); all_goals first | (refine q1 _ ?_; clear q1 Z) | omega | rfl | decide | assumption | (intro _; omega) | (simp; done) | (simp; omega))
              refine opsA_nil (r _ ?_)
              clear r R
              try simp only [go_sem, Nat.reduceBEq]
              refine thenK.normal (SA.ret ?_)
              refine ctrK.ret ?_
              simp only [resA, evalO, resV, backK, outE, toV, ty4, ty3, List.lookup_cons, List.lookup_nil, beq_self_eq_true, forall_const, true_and, and_true]
              refine ⟨rfl, ?_⟩
              first | (simp [most, *]; done) | (exfalso; omega)
        · intro hb4
          try simp only [decide_eq_true_eq, decide_eq_false_iff_not] at hb4
          refine SA.region ok (by kernel_rfl) [3, 9] ?_
          intro R r
          simp only [go_sem, strip]
          iterate 2 (refine opsA_cons fun Z q1 => ?_; simp only [go_sem, seval, -List.reduceReplicate]; (repeat' with_reducible refine And.intro ?_ ?_); all_goals first | (refine q1 _ ?_; clear q1 Z) | omega | rfl | decide | assumption | (intro _; omega) | (simp; done) | (simp; omega))
          refine opsA_nil (r _ ?_)
          clear r R
          try simp only [go_sem, Nat.reduceBEq]
          refine thenK.normal ?_
          refine SA.cond rfl ?_ ?_
          · intro hb7
            try simp only [decide_eq_true_eq, decide_eq_false_iff_not] at hb7
            refine SA.seq ?_
            refine SA.region ok (by kernel_rfl) [2] ?_
            intro R r
            simp only [go_sem, strip]
            iterate 1 (refine opsA_cons fun Z q1 => ?_; simp only [go_sem, seval, -List.reduceReplicate]; (repeat' with_reducible refine And.intro ?_ ?_); all_goals first | (refine q1 _ ?_; clear q1 Z) | omega | rfl | decide | assumption | (intro _; omega) | (simp; done) | (simp; omega))
            refine opsA_nil (r _ ?_)
            clear r R
            try simp only [go_sem, Nat.reduceBEq]
            refine thenK.normal (SA.ret ?_)
            refine blockK.ret ?_
            refine thenK.ret ?_
            refine ctrK.ret ?_
            simp only [resA, evalO, resV, backK, outE, toV, ty4, ty3, List.lookup_cons, List.lookup_nil, beq_self_eq_true, forall_const, true_and, and_true]
            refine ⟨rfl, ?_⟩
            first | (simp [most, *]; done) | (exfalso; omega)
          · intro hb7
            try simp only [decide_eq_true_eq, decide_eq_false_iff_not] at hb7
            refine SA.seq ?_
            refine SA.region ok (by kernel_rfl) [12] ?_
            intro R r
            simp only [go_sem, strip]
            iterate 2 (refine opsA_cons fun Z q1 => ?_; simp only [go_sem, seval, -List.reduceReplicate]; (repeat' with_reducible refine And.intro ?_ ?_); all_goals first | (refine q1 _ ?_; clear q1 Z) | omega | rfl | decide | assumption | (intro _; omega) | (simp; done) | (simp; omega))
            refine opsA_nil (r _ ?_)
            clear r R
            try simp only [go_sem, Nat.reduceBEq]
            refine thenK.normal ?_
            refine SA.cond rfl ?_ ?_
            · intro hb8
              try simp only [decide_eq_true_eq, decide_eq_false_iff_not] at hb8
              refine SA.seq ?_
              refine SA.region ok (by kernel_rfl) [2] ?_
              intro R r
              simp only [go_sem, strip]
              iterate 1 (refine opsA_cons fun Z q1 => ?_; simp only [go_sem, seval, -List.reduceReplicate]; (repeat' with_reducible refine And.intro ?_ ?_); all_goals first | (refine q1 _ ?_; clear q1 Z) | omega | rfl | decide | assumption | (intro _; omega) | (simp; done) | (simp; omega))
              refine opsA_nil (r _ ?_)
              clear r R
              try simp only [go_sem, Nat.reduceBEq]
              refine thenK.normal (SA.ret ?_)
              refine blockK.ret ?_
              refine thenK.ret ?_
              refine ctrK.ret ?_
              simp only [resA, evalO, resV, backK, outE, toV, ty4, ty3, List.lookup_cons, List.lookup_nil, beq_self_eq_true, forall_const, true_and, and_true]
              refine ⟨rfl, ?_⟩
              first | (simp [most, *]; done) | (exfalso; omega)
            · intro hb8
              try simp only [decide_eq_true_eq, decide_eq_false_iff_not] at hb8
              refine SA.skip ?_
              refine blockK.normal (thenK.normal ?_)
              refine SA.seq ?_
              refine SA.region ok (by kernel_rfl) [2] ?_
              intro R r
              simp only [go_sem, strip]
              iterate 1 (refine opsA_cons fun Z q1 => ?_; simp only [go_sem, seval, -List.reduceReplicate]; (repeat' with_reducible refine And.intro ?_ ?_); all_goals first | (refine q1 _ ?_; clear q1 Z) | omega | rfl | decide | assumption | (intro _; omega) | (simp; done) | (simp; omega))
              refine opsA_nil (r _ ?_)
              clear r R
              try simp only [go_sem, Nat.reduceBEq]
              refine thenK.normal (SA.ret ?_)
              refine ctrK.ret ?_
              simp only [resA, evalO, resV, backK, outE, toV, ty4, ty3, List.lookup_cons, List.lookup_nil, beq_self_eq_true, forall_const, true_and, and_true]
              refine ⟨rfl, ?_⟩
              first | (simp [most, *]; done) | (exfalso; omega)
    · intro hb2
      try simp only [decide_eq_true_eq, decide_eq_false_iff_not] at hb2
      refine SA.region ok (by kernel_rfl) [3, 6] ?_
      intro R r
      simp only [go_sem, strip]
      iterate 2 (refine opsA_cons fun Z q1 => ?_; simp only [go_sem, seval, -List.reduceReplicate]; (repeat' with_reducible refine And.intro ?_ ?_); all_goals first | (refine q1 _ ?_; clear q1 Z) | omega | rfl | decide | assumption | (intro _; omega) | (simp; done) | (simp; omega))
      refine opsA_nil (r _ ?_)
      clear r R
      try simp only [go_sem, Nat.reduceBEq]
      refine thenK.normal ?_
      refine SA.cond rfl ?_ ?_
      · intro hb9
        try simp only [decide_eq_true_eq, decide_eq_false_iff_not] at hb9
        refine SA.seq ?_
        refine SA.region ok (by kernel_rfl) [2] ?_
        intro R r
        simp only [go_sem, strip]
        iterate 1 (refine opsA_cons fun Z q1 => ?_; simp only [go_sem, seval, -List.reduceReplicate]; (repeat' with_reducible refine And.intro ?_ ?_); all_goals first | (refine q1 _ ?_; clear q1 Z) | omega | rfl | decide | assumption | (intro _; omega) | (simp; done) | (simp; omega))
        refine opsA_nil (r _ ?_)
        clear r R
        try simp only [go_sem, Nat.reduceBEq]
        refine thenK.normal (SA.ret ?_)
        refine blockK.ret ?_
        refine thenK.ret ?_
        refine ctrK.ret ?_
        simp only [resA, evalO, resV, backK, outE, toV, ty4, ty3, List.lookup_cons, List.lookup_nil, beq_self_eq_true, forall_const, true_and, and_true]
        refine ⟨rfl, ?_⟩
        first | (simp [most, *]; done) | (exfalso; omega)
      · intro hb9
        try simp only [decide_eq_true_eq, decide_eq_false_iff_not] at hb9
        refine SA.seq ?_
        refine SA.seq ?_
        refine SA.region ok (by kernel_rfl) [3, 9] ?_
        intro R r
        simp only [go_sem, strip]
        iterate 2 (refine opsA_cons fun Z q1 => ?_; simp only [go_sem, seval, -List.reduceReplicate]; (repeat' with_reducible refine And.intro ?_ ?_); all_goals first | (refine q1 _ ?_; clear q1 Z) | omega | rfl | decide | assumption | (intro _; omega) | (simp; done) | (simp; omega))
        refine opsA_nil (r _ ?_)
        clear r R
        try simp only [go_sem, Nat.reduceBEq]
        refine thenK.normal ?_
        refine SA.cond rfl ?_ ?_
        · intro hb10
          try simp only [decide_eq_true_eq, decide_eq_false_iff_not] at hb10
          refine SA.skip ?_
          refine thenK.normal ?_
          refine SA.cond rfl ?_ ?_
          · intro hb11
            try simp only [decide_eq_true_eq, decide_eq_false_iff_not] at hb11
            refine SA.seq ?_
            refine SA.region ok (by kernel_rfl) [2] ?_
            intro R r
            simp only [go_sem, strip]
            iterate 1 (refine opsA_cons fun Z q1 => ?_; simp only [go_sem, seval, -List.reduceReplicate]; (repeat' with_reducible refine And.intro ?_ ?_); all_goals first | (refine q1 _ ?_; clear q1 Z) | omega | rfl | decide | assumption | (intro _; omega) | (simp; done) | (simp; omega))
            refine opsA_nil (r _ ?_)
            clear r R
            try simp only [go_sem, Nat.reduceBEq]
            refine thenK.normal (SA.ret ?_)
            refine blockK.ret ?_
            refine thenK.ret ?_
            refine ctrK.ret ?_
            simp only [resA, evalO, resV, backK, outE, toV, ty4, ty3, List.lookup_cons, List.lookup_nil, beq_self_eq_true, forall_const, true_and, and_true]
            refine ⟨rfl, ?_⟩
            first | (simp [most, *]; done) | (exfalso; omega)
          · intro hb11
            try simp only [decide_eq_true_eq, decide_eq_false_iff_not] at hb11
            refine SA.seq ?_
            refine SA.region ok (by kernel_rfl) [12] ?_
            intro R r
            simp only [go_sem, strip]
            iterate 2 (refine opsA_cons fun Z q1 => ?_; simp only [go_sem, seval, -List.reduceReplicate]; (repeat' with_reducible refine And.intro ?_ ?_); all_goals first | (refine q1 _ ?_; clear q1 Z) | omega | rfl | decide | assumption | (intro _; omega) | (simp; done) | (simp; omega))
            refine opsA_nil (r _ ?_)
            clear r R
            try simp only [go_sem, Nat.reduceBEq]
            refine thenK.normal ?_
            refine SA.cond rfl ?_ ?_
            · intro hb12
              try simp only [decide_eq_true_eq, decide_eq_false_iff_not] at hb12
              refine SA.seq ?_
              refine SA.region ok (by kernel_rfl) [2] ?_
              intro R r
              simp only [go_sem, strip]
              iterate 1 (refine opsA_cons fun Z q1 => ?_; simp only [go_sem, seval, -List.reduceReplicate]; (repeat' with_reducible refine And.intro ?_ ?_); all_goals first | (refine q1 _ ?_; clear q1 Z) | omega | rfl | decide | assumption | (intro _; omega) | (simp; done) | (simp; omega))
              refine opsA_nil (r _ ?_)
              clear r R
              try simp only [go_sem, Nat.reduceBEq]
              refine thenK.normal (SA.ret ?_)
              refine blockK.ret ?_
              refine thenK.ret ?_
              refine ctrK.ret ?_
              simp only [resA, evalO, resV, backK, outE, toV, ty4, ty3, List.lookup_cons, List.lookup_nil, beq_self_eq_true, forall_const, true_and, and_true]
              refine ⟨rfl, ?_⟩
              first | (simp [most, *]; done) | (exfalso; omega)
            · intro hb12
              try simp only [decide_eq_true_eq, decide_eq_false_iff_not] at hb12
              refine SA.skip ?_
              refine blockK.normal (thenK.normal ?_)
              refine SA.seq ?_
              refine SA.region ok (by kernel_rfl) [2] ?_
              intro R r
              simp only [go_sem, strip]
              iterate 1 (refine opsA_cons fun Z q1 => ?_; simp only [go_sem, seval, -List.reduceReplicate]; (repeat' with_reducible refine And.intro ?_ ?_); all_goals first | (refine q1 _ ?_; clear q1 Z) | omega | rfl | decide | assumption | (intro _; omega) | (simp; done) | (simp; omega))
              refine opsA_nil (r _ ?_)
              clear r R
              try simp only [go_sem, Nat.reduceBEq]
              refine thenK.normal (SA.ret ?_)
              refine ctrK.ret ?_
              simp only [resA, evalO, resV, backK, outE, toV, ty4, ty3, List.lookup_cons, List.lookup_nil, beq_self_eq_true, forall_const, true_and, and_true]
              refine ⟨rfl, ?_⟩
              first | (simp [most, *]; done) | (exfalso; omega)
        · intro hb10
          try simp only [decide_eq_true_eq, decide_eq_false_iff_not] at hb10
          refine SA.region ok (by kernel_rfl) [3, 9] ?_
          intro R r
          simp only [go_sem, strip]
          iterate 2 (refine opsA_cons fun Z q1 => ?_; simp only [go_sem, seval, -List.reduceReplicate]; (repeat' with_reducible refine And.intro ?_ ?_); all_goals first | (refine q1 _ ?_; clear q1 Z) | omega | rfl | decide | assumption | (intro _; omega) | (simp; done) | (simp; omega))
          refine opsA_nil (r _ ?_)
          clear r R
          try simp only [go_sem, Nat.reduceBEq]
          refine thenK.normal ?_
          refine SA.cond rfl ?_ ?_
          · intro hb13
            try simp only [decide_eq_true_eq, decide_eq_false_iff_not] at hb13
            refine SA.seq ?_
            refine SA.region ok (by kernel_rfl) [2] ?_
            intro R r
            simp only [go_sem, strip]
            iterate 1 (refine opsA_cons fun Z q1 => ?_; simp only [go_sem, seval, -List.reduceReplicate]; (repeat' with_reducible refine And.intro ?_ ?_); all_goals first | (refine q1 _ ?_; clear q1 Z) | omega | rfl | decide | assumption | (intro _; omega) | (simp; done) | (simp; omega))
            refine opsA_nil (r _ ?_)
            clear r R
            try simp only [go_sem, Nat.reduceBEq]
            refine thenK.normal (SA.ret ?_)
            refine blockK.ret ?_
            refine thenK.ret ?_
            refine ctrK.ret ?_
            simp only [resA, evalO, resV, backK, outE, toV, ty4, ty3, List.lookup_cons, List.lookup_nil, beq_self_eq_true, forall_const, true_and, and_true]
            refine ⟨rfl, ?_⟩
            first | (simp [most, *]; done) | (exfalso; omega)
          · intro hb13
            try simp only [decide_eq_true_eq, decide_eq_false_iff_not] at hb13
            refine SA.seq ?_
            refine SA.region ok (by kernel_rfl) [12] ?_
            intro R r
            simp only [go_sem, strip]
            iterate 2 (refine opsA_cons fun Z q1 => ?_; simp only [go_sem, seval, -List.reduceReplicate]; (repeat' with_reducible refine And.intro ?_ ?_); all_goals first | (refine q1 _ ?_; clear q1 Z) | omega | rfl | decide | assumption | (intro _; omega) | (simp; done) | (simp; omega))
            refine opsA_nil (r _ ?_)
            clear r R
            try simp only [go_sem, Nat.reduceBEq]
            refine thenK.normal ?_
            refine SA.cond rfl ?_ ?_
            · intro hb14
              try simp only [decide_eq_true_eq, decide_eq_false_iff_not] at hb14
              refine SA.seq ?_
              refine SA.region ok (by kernel_rfl) [2] ?_
              intro R r
              simp only [go_sem, strip]
              iterate 1 (refine opsA_cons fun Z q1 => ?_; simp only [go_sem, seval, -List.reduceReplicate]; (repeat' with_reducible refine And.intro ?_ ?_); all_goals first | (refine q1 _ ?_; clear q1 Z) | omega | rfl | decide | assumption | (intro _; omega) | (simp; done) | (simp; omega))
              refine opsA_nil (r _ ?_)
              clear r R
              try simp only [go_sem, Nat.reduceBEq]
              refine thenK.normal (SA.ret ?_)
              refine blockK.ret ?_
              refine thenK.ret ?_
              refine ctrK.ret ?_
              simp only [resA, evalO, resV, backK, outE, toV, ty4, ty3, List.lookup_cons, List.lookup_nil, beq_self_eq_true, forall_const, true_and, and_true]
              refine ⟨rfl, ?_⟩
              first | (simp [most, *]; done) | (exfalso; omega)
            · intro hb14
              try simp only [decide_eq_true_eq, decide_eq_false_iff_not] at hb14
              refine SA.skip ?_
              refine blockK.normal (thenK.normal ?_)
              refine SA.seq ?_
              refine SA.region ok (by kernel_rfl) [2] ?_
              intro R r
              simp only [go_sem, strip]
              iterate 1 (refine opsA_cons fun Z q1 => ?_; simp only [go_sem, seval, -List.reduceReplicate]; (repeat' with_reducible refine And.intro ?_ ?_); all_goals first | (refine q1 _ ?_; clear q1 Z) | omega | rfl | decide | assumption | (intro _; omega) | (simp; done) | (simp; omega))
              refine opsA_nil (r _ ?_)
              clear r R
              try simp only [go_sem, Nat.reduceBEq]
              refine thenK.normal (SA.ret ?_)
              refine ctrK.ret ?_
              simp only [resA, evalO, resV, backK, outE, toV, ty4, ty3, List.lookup_cons, List.lookup_nil, beq_self_eq_true, forall_const, true_and, and_true]
              refine ⟨rfl, ?_⟩
              first | (simp [most, *]; done) | (exfalso; omega)

theorem sameInts_ctr (a b : List Int) (ha : a.length ≤ maxLen) (hb : b.length ≤ maxLen) : Ctr Go.Proofs.Try.prog tab 21 [23, 23] [4] [.list (a.map V.int), .list (b.map V.int)] [.bool (decide (a = b))] := by
  refine Ctr.body ok Go.Proofs.Try.func21 rfl rfl 26 rfl [.tmp 4] rfl (by simp [fromVs]) ?_
  simp only [fromVs, fromV, args0, V.toList_list, V.toInt_int, V.toBool_bool, Nat.zero_add, Nat.reduceAdd, ty23]
  refine SA.seq ?_
  refine SA.region ok (by kernel_rfl) [0, 1] ?_
  intro R r
  simp only [go_sem, strip]
  iterate 1 (refine opsA_cons fun Z q1 => ?_; simp only [go_sem, seval, -List.reduceReplicate]; (repeat' with_reducible refine And.intro ?_ ?_); all_goals first | (refine q1 _ ?_; clear q1 Z) | omega | rfl | decide | assumption | (intro _; omega) | (simp; done) | (simp; omega))
  refine opsA_nil (r _ ?_)
  clear r R
  try simp only [go_sem, Nat.reduceBEq]
  refine thenK.normal (SA.seq ?_)
  refine SA.seq ?_
  refine SA.region ok (by kernel_rfl) [0, 1, 10] ?_
  intro R r
  simp only [go_sem, strip]
  iterate 5 (refine opsA_cons fun Z q1 => ?_; simp only [go_sem, seval, -List.reduceReplicate]; (repeat' with_reducible refine And.intro ?_ ?_); all_goals first | (refine q1 _ ?_; clear q1 Z) | omega | rfl | decide | assumption | (intro _; omega) | (simp; done) | (simp; omega) | (simp [roomFor, maxLen, by39, by3] <;> omega))
  refine opsA_nil (r _ ?_)
  clear r R
  try simp only [go_sem, Nat.reduceBEq]
  refine thenK.normal ?_
  refine SA.cond rfl ?_ ?_
  · intro hb1
    simp at hb1
    refine SA.seq ?_
    refine SA.region ok (by kernel_rfl) [4] ?_
    intro R r
    simp only [go_sem, strip]
    iterate 1 (refine opsA_cons fun Z q1 => ?_; simp only [go_sem, seval, -List.reduceReplicate]; (repeat' with_reducible refine And.intro ?_ ?_); all_goals first | (refine q1 _ ?_; clear q1 Z) | omega | rfl | decide | assumption | (intro _; omega) | (simp; done) | (simp; omega))
    refine opsA_nil (r _ ?_)
    clear r R
    try simp only [go_sem, Nat.reduceBEq]
    refine thenK.normal (SA.ret ?_)
    refine thenK.ret ?_
    refine ctrK.ret ?_
    simp only [resA, evalO, resV, backK, outE, toV, ty4, ty3, List.lookup_cons, List.lookup_nil, beq_self_eq_true, forall_const, true_and, and_true]
    refine ⟨rfl, ?_⟩
    have : decide (a = b) = false := by simpa using fun h => by subst h; omega
    rw [this]; rfl
  · intro hb1
    simp at hb1
    refine SA.skip ?_
    refine thenK.normal (SA.seq ?_)
    refine SA.seq ?_
    refine SA.region ok (by kernel_rfl) [0, 1, 12, 13] ?_
    intro R r
    simp only [go_sem, strip]
    iterate 3 (refine opsA_cons fun Z q1 => ?_; simp only [go_sem, seval, -List.reduceReplicate]; (repeat' with_reducible refine And.intro ?_ ?_); all_goals first | (refine q1 _ ?_; clear q1 Z) | omega | rfl | decide | assumption | (intro _; omega) | (simp; done) | (simp; omega) | (simp [roomFor, maxLen, by39, by3] <;> omega))
    refine opsA_nil (r _ ?_)
    clear r R
    try simp only [go_sem, Nat.reduceBEq]
    refine thenK.normal (SA.block ?_)
    refine SA.weaken (St.le.of_eq (by first | rfl | simp)) (SA.loop (fun n τ => ∃ (i : Nat), n = a.length - i ∧ (i ≤ a.length ∧ a.length = b.length ∧ a.take i = b.take i) ∧ τ = { tm := [(0, true, .fs 3 (a.map V.int) false), (1, true, .fs 3 (b.map V.int) false), (12, true, .int .i64 a.length), (13, true, .int .i64 i)], ob := [], out := [], nt := 26 }) (a.length) ⟨0, rfl, ⟨Nat.zero_le _, by omega, rfl⟩, rfl⟩ ?_)
    rintro n τ ⟨i, hn, ⟨hi, hl, hc⟩, rfl⟩
    refine SA.seq ?_
    refine SA.region ok (by kernel_rfl) [0, 1, 12, 13, 14] ?_
    intro R r
    simp only [go_sem, strip]
    iterate 1 (refine opsA_cons fun Z q1 => ?_; simp only [go_sem, seval, -List.reduceReplicate]; (repeat' with_reducible refine And.intro ?_ ?_); all_goals first | (refine q1 _ ?_; clear q1 Z) | omega | rfl | decide | assumption | (intro _; omega) | (simp; done) | (simp; omega))
    refine opsA_nil (r _ ?_)
    clear r R
    try simp only [go_sem, Nat.reduceBEq]
    refine thenK.normal (SA.seq ?_)
    refine SA.cond rfl ?_ ?_
    · intro hb2
      simp at hb2
      refine SA.skip ?_
      refine thenK.normal (SA.seq ?_)
      refine SA.block ?_
      refine SA.seq ?_
      refine SA.region ok (by kernel_rfl) [0, 1, 5, 12, 13] ?_
      intro R r
      simp only [go_sem, strip]
      iterate 2 (refine opsA_cons fun Z q1 => ?_; simp only [go_sem, seval, -List.reduceReplicate]; (repeat' with_reducible refine And.intro ?_ ?_); all_goals first | (refine q1 _ ?_; clear q1 Z) | omega | rfl | decide | assumption | (intro _; omega) | (simp; done) | (simp; omega))
      refine opsA_nil (r _ ?_)
      clear r R
      try simp only [go_sem, Nat.reduceBEq]
      refine thenK.normal (SA.seq ?_)
      refine SA.regionQ ok mixed (by kernel_rfl) (by kernel_rfl) [0, 1, 12, 13, 24] ?_
      intro R r
      simp only [go_sem, strip]
      iterate 9 (refine opsQ_cons fun Z q1 => ?_; simp only [go_sem, seval, -List.reduceReplicate]; (repeat' with_reducible refine And.intro ?_ ?_); all_goals first | (refine q1 _ ?_; clear q1 Z) | omega | rfl | decide | assumption | (intro _; omega) | (simp; done) | (simp; omega))
      refine opsQ_nil (r _ ?_)
      clear r R
      try simp only [go_sem, Nat.reduceBEq]
      refine thenK.normal ?_
      refine SA.cond rfl ?_ ?_
      · intro hb3
        simp at hb3
        refine SA.seq ?_
        refine SA.region ok (by kernel_rfl) [4] ?_
        intro R r
        simp only [go_sem, strip]
        iterate 1 (refine opsA_cons fun Z q1 => ?_; simp only [go_sem, seval, -List.reduceReplicate]; (repeat' with_reducible refine And.intro ?_ ?_); all_goals first | (refine q1 _ ?_; clear q1 Z) | omega | rfl | decide | assumption | (intro _; omega) | (simp; done) | (simp; omega))
        refine opsA_nil (r _ ?_)
        clear r R
        try simp only [go_sem, Nat.reduceBEq]
        refine thenK.normal (SA.ret ?_)
        refine blockK.ret ?_
        refine thenK.ret ?_
        refine loopK.ret ?_
        refine blockK.ret ?_
        refine thenK.ret ?_
        refine ctrK.ret ?_
        simp only [resA, evalO, resV, backK, outE, toV, ty4, ty3, List.lookup_cons, List.lookup_nil, beq_self_eq_true, forall_const, true_and, and_true]
        refine ⟨rfl, ?_⟩
        have hlt : i < a.length := by omega
        have hlt' : i < b.length := by omega
        have : decide (a = b) = false := by
          simp only [decide_eq_false_iff_not]
          intro h
          subst h
          simp at hb3
        rw [this]; rfl
      · intro hb3
        simp at hb3
        refine SA.skip ?_
        refine blockK.normal (thenK.normal ?_)
        refine SA.region ok (by kernel_rfl) [0, 1, 12, 13] ?_
        intro R r
        simp only [go_sem, strip]
        iterate 2 (refine opsA_cons fun Z q1 => ?_; simp only [go_sem, seval, -List.reduceReplicate]; (repeat' with_reducible refine And.intro ?_ ?_); all_goals first | (refine q1 _ ?_; clear q1 Z) | omega | rfl | decide | assumption | (intro _; omega) | (simp; done) | (simp; omega))
        refine opsA_nil (r _ ?_)
        clear r R
        try simp only [go_sem, Nat.reduceBEq]
        have hlt : i < a.length := by omega
        refine loopK.normal (a.length - (i + 1)) _ (by omega) (St.le.of_eq (by simp only [wrap_succ hlt ha])) ⟨i + 1, rfl, ⟨hlt, hl, ?_⟩, rfl⟩
        have hlt' : i < b.length := by omega
        rw [List.take_succ_eq_append_getElem hlt, List.take_succ_eq_append_getElem hlt', hc]
        have : a[i] = b[i] := by simpa [hlt, hlt'] using hb3
        rw [this]
    · intro hb2
      simp at hb2
      refine SA.exit ?_
      refine thenK.exit ?_
      refine loopK.exit ?_
      refine blockK.hit ?_
      refine thenK.normal (SA.seq ?_)
      refine SA.region ok (by kernel_rfl) [4] ?_
      intro R r
      simp only [go_sem, strip]
      iterate 1 (refine opsA_cons fun Z q1 => ?_; simp only [go_sem, seval, -List.reduceReplicate]; (repeat' with_reducible refine And.intro ?_ ?_); all_goals first | (refine q1 _ ?_; clear q1 Z) | omega | rfl | decide | assumption | (intro _; omega) | (simp; done) | (simp; omega))
      refine opsA_nil (r _ ?_)
      clear r R
      try simp only [go_sem, Nat.reduceBEq]
      refine thenK.normal (SA.ret ?_)
      refine ctrK.ret ?_
      simp only [resA, evalO, resV, backK, outE, toV, ty4, ty3, List.lookup_cons, List.lookup_nil, beq_self_eq_true, forall_const, true_and, and_true]
      refine ⟨rfl, ?_⟩
      have : i = a.length := by omega
      subst this
      rw [List.take_length, hl, List.take_length] at hc
      simp [hc]

theorem refRight_ctr (e : Event) (he : e.touch.length = 6) : Ctr Go.Proofs.Try.prog tab 37 [42] [4] [e.v] [.bool (right e)] := by
  refine Ctr.body ok Go.Proofs.Try.func37 rfl rfl 95 rfl [.tmp 2] rfl (by simp [fromVs]) ?_
  simp only [fromVs, fromV, args0, V.toList_list, V.toInt_int, V.toBool_bool, Nat.zero_add, Nat.reduceAdd, ty42]
  refine SA.seq ?_
  refine SA.region ok (by kernel_rfl) [1] ?_
  intro R r
  simp only [go_sem, strip]
  iterate 2 (refine opsA_cons fun Z q1 => ?_; simp only [go_sem, seval, -List.reduceReplicate]; (repeat' with_reducible refine And.intro ?_ ?_); all_goals first | (refine q1 _ ?_; clear q1 Z) | omega | rfl | decide | assumption | (intro _; omega) | (simp; done) | (simp; omega) | (simp [roomFor, maxLen, by39, by3] <;> omega))
  refine opsA_nil (r _ ?_)
  clear r R
  try simp only [go_sem, Nat.reduceBEq]
  refine thenK.normal (SA.seq ?_)
  refine SA.seq ?_
  refine SA.region ok (by kernel_rfl) [1, 24] ?_
  intro R r
  simp only [go_sem, strip]
  iterate 18 (refine opsA_cons fun Z q1 => ?_; simp only [go_sem, seval, -List.reduceReplicate]; (repeat' with_reducible refine And.intro ?_ ?_); all_goals first | (refine q1 _ ?_; clear q1 Z) | omega | rfl | decide | assumption | (intro _; omega) | (simp; done) | (simp; omega))
  refine opsA_nil (r _ ?_)
  clear r R
  try simp only [go_sem, Nat.reduceBEq]
  refine thenK.normal ?_
  refine SA.cond rfl ?_ ?_
  · intro hb1
    simp at hb1
    refine SA.seq ?_
    refine SA.region ok (by kernel_rfl) [2] ?_
    intro R r
    simp only [go_sem, strip]
    iterate 1 (refine opsA_cons fun Z q1 => ?_; simp only [go_sem, seval, -List.reduceReplicate]; (repeat' with_reducible refine And.intro ?_ ?_); all_goals first | (refine q1 _ ?_; clear q1 Z) | omega | rfl | decide | assumption | (intro _; omega) | (simp; done) | (simp; omega))
    refine opsA_nil (r _ ?_)
    clear r R
    try simp only [go_sem, Nat.reduceBEq]
    refine thenK.normal (SA.ret ?_)
    refine thenK.ret ?_
    refine ctrK.ret ?_
    simp only [resA, evalO, resV, backK, outE, toV, ty4, ty3, List.lookup_cons, List.lookup_nil, beq_self_eq_true, forall_const, true_and, and_true]
    refine ⟨rfl, ?_⟩
    have : right e = false := Bool.eq_false_iff.2 fun h => by simp [right] at h; omega
    rw [this]; rfl
  · intro hb1
    simp at hb1
    refine SA.skip ?_
    refine thenK.normal (SA.seq ?_)
    refine SA.region ok (by kernel_rfl) [1, 3] ?_
    intro R r
    simp only [go_sem, strip]
    iterate 1 (refine opsA_cons fun Z q1 => ?_; simp only [go_sem, seval, -List.reduceReplicate]; (repeat' with_reducible refine And.intro ?_ ?_); all_goals first | (refine q1 _ ?_; clear q1 Z) | omega | rfl | decide | assumption | (intro _; omega) | (simp; done) | (simp; omega))
    refine opsA_nil (r _ ?_)
    clear r R
    try simp only [go_sem, Nat.reduceBEq]
    refine thenK.normal (SA.seq ?_)
    refine SA.seq ?_
    refine SA.region ok (by kernel_rfl) [1, 3, 4] ?_
    intro R r
    simp only [go_sem, strip]
    iterate 1 (refine opsA_cons fun Z q1 => ?_; simp only [go_sem, seval, -List.reduceReplicate]; (repeat' with_reducible refine And.intro ?_ ?_); all_goals first | (refine q1 _ ?_; clear q1 Z) | omega | rfl | decide | assumption | (intro _; omega) | (simp; done) | (simp; omega))
    refine opsA_nil (r _ ?_)
    clear r R
    try simp only [go_sem, Nat.reduceBEq]
    refine thenK.normal (SA.block ?_)
    refine SA.weaken (St.le.of_eq (by first | rfl | simp)) (SA.loop (fun n τ => ∃ (i : Nat), n = 6 - i ∧ (i ≤ 6 ∧ (0 ≤ e.go ∧ e.go < 6 ∧ 1 ≤ e.touches ∧ e.touches ≤ 6) ∧ (List.range i).all (placeOk e) = true) ∧ τ = { tm := [(1, true, .ptr 0 [] 42), (3, true, .bool ((List.range i).any (ownAt e))), (4, true, .int .i64 i)], ob := [.var 42 (.data 42 e.v)], out := [], nt := 95 }) (6) ⟨0, rfl, ⟨by omega, by omega, rfl⟩, rfl⟩ ?_)
    rintro n τ ⟨i, hn, ⟨hi, hc, hd⟩, rfl⟩
    refine SA.seq ?_
    refine SA.seq ?_
    refine SA.region ok (by kernel_rfl) [1, 3, 4, 26] ?_
    intro R r
    simp only [go_sem, strip]
    iterate 2 (refine opsA_cons fun Z q1 => ?_; simp only [go_sem, seval, -List.reduceReplicate]; (repeat' with_reducible refine And.intro ?_ ?_); all_goals first | (refine q1 _ ?_; clear q1 Z) | omega | rfl | decide | assumption | (intro _; omega) | (simp; done) | (simp; omega))
    refine opsA_nil (r _ ?_)
    clear r R
    try simp only [go_sem, Nat.reduceBEq]
    refine thenK.normal ?_
    refine SA.cond rfl ?_ ?_
    · intro hb2
      simp at hb2
      refine SA.skip ?_
      refine thenK.normal (SA.seq ?_)
      refine SA.block ?_
      refine SA.seq ?_
      refine SA.region ok (by kernel_rfl) [1, 3, 4, 5] ?_
      intro R r
      simp only [go_sem, strip]
      iterate 6 (refine opsA_cons fun Z q1 => ?_; simp only [go_sem, seval, -List.reduceReplicate]; (repeat' with_reducible refine And.intro ?_ ?_); all_goals first | (refine q1 _ ?_; clear q1 Z) | omega | rfl | decide | assumption | (intro _; omega) | (simp; done) | (simp; omega) | (simp [roomFor, maxLen, by39, by3] <;> omega))
      refine opsA_nil (r _ ?_)
      clear r R
      try simp only [go_sem, Nat.reduceBEq]
      have hl : i < e.touch.length := by omega
      rw [getD_map Access.v e.touch hl]
      refine thenK.normal (SA.seq ?_)
      refine SA.seq ?_
      refine SA.region ok (by kernel_rfl) [1, 3, 4, 5, 36] ?_
      intro R r
      simp only [go_sem, strip]
      iterate 4 (refine opsA_cons fun Z q1 => ?_; simp only [go_sem, seval, -List.reduceReplicate]; (repeat' with_reducible refine And.intro ?_ ?_); all_goals first | (refine q1 _ ?_; clear q1 Z) | omega | rfl | decide | assumption | (intro _; omega) | (simp; done) | (simp; omega))
      refine opsA_nil (r _ ?_)
      clear r R
      try simp only [go_sem, Nat.reduceBEq]
      refine thenK.normal ?_
      refine SA.cond rfl ?_ ?_
      · intro hb3
        simp at hb3
        refine SA.seq ?_
        refine SA.seq ?_
        refine SA.region ok (by kernel_rfl) [1, 3, 4, 39] ?_
        intro R r
        simp only [go_sem, strip]
        iterate 3 (refine opsA_cons fun Z q1 => ?_; simp only [go_sem, seval, -List.reduceReplicate]; (repeat' with_reducible refine And.intro ?_ ?_); all_goals first | (refine q1 _ ?_; clear q1 Z) | omega | rfl | decide | assumption | (intro _; omega) | (simp; done) | (simp; omega))
        refine opsA_nil (r _ ?_)
        clear r R
        try simp only [go_sem, Nat.reduceBEq]
        refine thenK.normal ?_
        refine SA.cond rfl ?_ ?_
        · intro hb4
          simp at hb4
          refine SA.seq ?_
          refine SA.region ok (by kernel_rfl) [2] ?_
          intro R r
          simp only [go_sem, strip]
          iterate 1 (refine opsA_cons fun Z q1 => ?_; simp only [go_sem, seval, -List.reduceReplicate]; (repeat' with_reducible refine And.intro ?_ ?_); all_goals first | (refine q1 _ ?_; clear q1 Z) | omega | rfl | decide | assumption | (intro _; omega) | (simp; done) | (simp; omega))
          refine opsA_nil (r _ ?_)
          clear r R
          try simp only [go_sem, Nat.reduceBEq]
          refine thenK.normal (SA.ret ?_)
          refine thenK.ret ?_
          refine thenK.ret ?_
          refine blockK.ret ?_
          refine thenK.ret ?_
          refine loopK.ret ?_
          refine blockK.ret ?_
          refine thenK.ret ?_
          refine ctrK.ret ?_
          simp only [resA, evalO, resV, backK, outE, toV, ty4, ty3, List.lookup_cons, List.lookup_nil, beq_self_eq_true, forall_const, true_and, and_true]
          refine ⟨rfl, ?_⟩
          have hp : placeOk e i = false := by simp [placeOk, hb3, hb4]
          have : right e = false := by simp [right, all_range_false (show i < 6 by omega) hp]
          rw [this]; rfl
        · intro hb4
          simp at hb4
          refine SA.skip ?_
          refine thenK.normal ?_
          refine SA.exit ?_
          refine thenK.exit ?_
          refine blockK.hit ?_
          refine thenK.normal ?_
          refine SA.region ok (by kernel_rfl) [1, 3, 4] ?_
          intro R r
          simp only [go_sem, strip]
          iterate 3 (refine opsA_cons fun Z q1 => ?_; simp only [go_sem, seval, -List.reduceReplicate]; (repeat' with_reducible refine And.intro ?_ ?_); all_goals first | (refine q1 _ ?_; clear q1 Z) | omega | rfl | decide | assumption | (intro _; omega) | (simp; done) | (simp; omega))
          refine opsA_nil (r _ ?_)
          clear r R
          try simp only [go_sem, Nat.reduceBEq]
          have hlt : i < 6 := by omega
          have hp : placeOk e i = true := by simp [placeOk, hb3, hb4]
          have ho : ownAt e i = false := by simp [ownAt]; omega
          refine loopK.normal (6 - (i + 1)) _ (by omega) ((St.le.cut 1 rfl).trans (St.le.of_eq (by simp only [wrap_succ hlt (by decide : 6 ≤ maxLen), any_range_succ, ho, Bool.or_false, List.take_succ_cons, List.take_zero]))) ⟨i + 1, rfl, ⟨hlt, hc, ?_⟩, rfl⟩
          rw [all_range_succ, hd, hp]; rfl
      · intro hb3
        simp at hb3
        refine SA.skip ?_
        refine thenK.normal (SA.seq ?_)
        refine SA.seq ?_
        refine SA.regionQ ok mixed (by kernel_rfl) (by kernel_rfl) [1, 3, 4, 5, 50] ?_
        intro R r
        simp only [go_sem, strip]
        iterate 8 (refine opsQ_cons fun Z q1 => ?_; simp only [go_sem, seval, -List.reduceReplicate]; (repeat' with_reducible refine And.intro ?_ ?_); all_goals first | (refine q1 _ ?_; clear q1 Z) | omega | rfl | decide | assumption | (intro _; omega) | (simp; done) | (simp; omega) | (simp [roomFor, maxLen, by39, by3] <;> omega))
        refine opsQ_cons fun Z q1 => ?_
        simp only [go_sem, seval, -List.reduceReplicate]
        repeat' with_reducible refine And.intro ?_ ?_
        all_goals try (first | omega | assumption | (intro _; omega))
        first | refine ⟨_, _, rfl, _, CallQ.ctr ok (few_ctr (e.touch.getD i default).kind) (by first | rfl | (simp [argsV, toVs, contentV, toV, capsV, capsE, ty23, ty22, ty25, ty3, ty4, ty81, ty39, ty40, ty42, ty37, ty2, List.length_map, List.take_of_length_le])) rfl, ?_⟩ | refine ⟨_, _, rfl, _, fun hg => CallQ.ctr ok (few_ctr (e.touch.getD i default).kind) (by first | rfl | (simp [argsV, toVs, contentV, toV, capsV, capsE, ty23, ty22, ty25, ty3, ty4, ty81, ty39, ty40, ty42, ty37, ty2, List.length_map, List.take_of_length_le])) rfl, ?_⟩
        simp only [go_sem, seval, -List.reduceReplicate]
        repeat' with_reducible refine And.intro ?_ ?_
        all_goals first | (refine q1 _ ?_; clear q1 Z) | omega | rfl | decide | assumption | (intro _; omega) | (simp; done) | (simp; omega) | (simp [roomFor, maxLen, by39, by3] <;> omega)
        iterate 2 (refine opsQ_cons fun Z q1 => ?_; simp only [go_sem, seval, -List.reduceReplicate]; (repeat' with_reducible refine And.intro ?_ ?_); all_goals first | (refine q1 _ ?_; clear q1 Z) | omega | rfl | decide | assumption | (intro _; omega) | (simp; done) | (simp; omega) | (simp [roomFor, maxLen, by39, by3] <;> omega))
        refine opsQ_nil (r _ ?_)
        clear r R
        try simp only [go_sem, Nat.reduceBEq]
        refine thenK.normal ?_
        refine SA.cond rfl ?_ ?_
        · intro hb5
          simp at hb5
          refine SA.seq ?_
          refine SA.region ok (by kernel_rfl) [2] ?_
          intro R r
          simp only [go_sem, strip]
          iterate 1 (refine opsA_cons fun Z q1 => ?_; simp only [go_sem, seval, -List.reduceReplicate]; (repeat' with_reducible refine And.intro ?_ ?_); all_goals first | (refine q1 _ ?_; clear q1 Z) | omega | rfl | decide | assumption | (intro _; omega) | (simp; done) | (simp; omega))
          refine opsA_nil (r _ ?_)
          clear r R
          try simp only [go_sem, Nat.reduceBEq]
          refine thenK.normal (SA.ret ?_)
          refine thenK.ret ?_
          refine blockK.ret ?_
          refine thenK.ret ?_
          refine loopK.ret ?_
          refine blockK.ret ?_
          refine thenK.ret ?_
          refine ctrK.ret ?_
          simp only [resA, evalO, resV, backK, outE, toV, ty4, ty3, List.lookup_cons, List.lookup_nil, beq_self_eq_true, forall_const, true_and, and_true]
          refine ⟨rfl, ?_⟩
          have hp : placeOk e i = false := by
            rw [Bool.eq_false_iff]; intro h
            simp [placeOk, cmp_neg, show ¬ e.touches ≤ i by omega] at h
            omega
          have : right e = false := by simp [right, all_range_false (show i < 6 by omega) hp]
          rw [this]; rfl
        · intro hb5
          simp at hb5
          refine SA.skip ?_
          refine thenK.normal (SA.seq ?_)
          refine SA.seq ?_
          refine SA.region ok (by kernel_rfl) [1, 3, 4, 5, 52] ?_
          intro R r
          simp only [go_sem, strip]
          iterate 2 (refine opsA_cons fun Z q1 => ?_; simp only [go_sem, seval, -List.reduceReplicate]; (repeat' with_reducible refine And.intro ?_ ?_); all_goals first | (refine q1 _ ?_; clear q1 Z) | omega | rfl | decide | assumption | (intro _; omega) | (simp; done) | (simp; omega))
          refine opsA_nil (r _ ?_)
          clear r R
          try simp only [go_sem, Nat.reduceBEq]
          refine thenK.normal ?_
          refine SA.cond rfl ?_ ?_
          · intro hb6
            simp at hb6
            refine SA.seq ?_
            refine SA.region ok (by kernel_rfl) [1, 3, 4, 5, 6] ?_
            intro R r
            simp only [go_sem, strip]
            iterate 1 (refine opsA_cons fun Z q1 => ?_; simp only [go_sem, seval, -List.reduceReplicate]; (repeat' with_reducible refine And.intro ?_ ?_); all_goals first | (refine q1 _ ?_; clear q1 Z) | omega | rfl | decide | assumption | (intro _; omega) | (simp; done) | (simp; omega) | (simp [roomFor, maxLen, by39, by3] <;> omega))
            refine opsA_cons fun Z q1 => ?_
            simp only [go_sem, seval, -List.reduceReplicate]
            repeat' with_reducible refine And.intro ?_ ?_
            all_goals first | (refine q1 _ ?_; clear q1 Z) | omega | rfl | decide | assumption | (intro _; omega) | (simp; done) | (simp; omega) | (simp [roomFor, maxLen, by39, by3] <;> omega)
            rw [wrap64_ok (n := (i : Int) - 1) (by omega) (by omega)]
            iterate 5 (refine opsA_cons fun Z q1 => ?_; simp only [go_sem, seval, -List.reduceReplicate]; (repeat' with_reducible refine And.intro ?_ ?_); all_goals first | (refine q1 _ ?_; clear q1 Z) | omega | rfl | decide | assumption | (intro _; omega) | (simp; done) | (simp; omega) | (simp [roomFor, maxLen, by39, by3] <;> omega))
            refine opsA_nil (r _ ?_)
            clear r R
            try simp only [go_sem, Nat.reduceBEq]
            have hk : ((i : Int) - 1).toNat = i - 1 := by omega
            rw [hk, getD_map Access.v e.touch (by omega : i - 1 < e.touch.length)]
            refine thenK.normal (SA.seq ?_)
            refine SA.region ok (by kernel_rfl) [1, 3, 4, 5, 76] ?_
            intro R r
            simp only [go_sem, strip]
            iterate 19 (refine opsA_cons fun Z q1 => ?_; simp only [go_sem, seval, -List.reduceReplicate]; (repeat' with_reducible refine And.intro ?_ ?_); all_goals first | (refine q1 _ ?_; clear q1 Z) | omega | rfl | decide | assumption | (intro _; omega) | (simp; done) | (simp; omega))
            refine opsA_nil (r _ ?_)
            clear r R
            try simp only [go_sem, Nat.reduceBEq]
            refine thenK.normal ?_
            refine SA.cond rfl ?_ ?_
            · intro hb7
              simp at hb7
              refine SA.seq ?_
              refine SA.region ok (by kernel_rfl) [2] ?_
              intro R r
              simp only [go_sem, strip]
              iterate 1 (refine opsA_cons fun Z q1 => ?_; simp only [go_sem, seval, -List.reduceReplicate]; (repeat' with_reducible refine And.intro ?_ ?_); all_goals first | (refine q1 _ ?_; clear q1 Z) | omega | rfl | decide | assumption | (intro _; omega) | (simp; done) | (simp; omega))
              refine opsA_nil (r _ ?_)
              clear r R
              try simp only [go_sem, Nat.reduceBEq]
              refine thenK.normal (SA.ret ?_)
              refine thenK.ret ?_
              refine blockK.ret ?_
              refine thenK.ret ?_
              refine loopK.ret ?_
              refine blockK.ret ?_
              refine thenK.ret ?_
              refine ctrK.ret ?_
              simp only [resA, evalO, resV, backK, outE, toV, ty4, ty3, List.lookup_cons, List.lookup_nil, beq_self_eq_true, forall_const, true_and, and_true]
              refine ⟨rfl, ?_⟩
              have hp : placeOk e i = false := by
                rw [Bool.eq_false_iff]; intro h
                simp [placeOk, cmp_neg, show ¬ e.touches ≤ i by omega] at h
                omega
              have : right e = false := by simp [right, all_range_false (show i < 6 by omega) hp]
              rw [this]; rfl
            · intro hb7
              simp at hb7
              refine SA.skip ?_
              refine thenK.normal ?_
              refine SA.region ok (by kernel_rfl) [1, 3, 4] ?_
              intro R r
              simp only [go_sem, strip]
              iterate 18 (refine opsA_cons fun Z q1 => ?_; simp only [go_sem, seval, -List.reduceReplicate]; (repeat' with_reducible refine And.intro ?_ ?_); all_goals first | (refine q1 _ ?_; clear q1 Z) | omega | rfl | decide | assumption | (intro _; omega) | (simp; done) | (simp; omega))
              refine opsA_nil (r _ ?_)
              clear r R
              try simp only [go_sem, Nat.reduceBEq]
              refine blockK.normal (thenK.normal ?_)
              refine SA.region ok (by kernel_rfl) [1, 3, 4] ?_
              intro R r
              simp only [go_sem, strip]
              iterate 3 (refine opsA_cons fun Z q1 => ?_; simp only [go_sem, seval, -List.reduceReplicate]; (repeat' with_reducible refine And.intro ?_ ?_); all_goals first | (refine q1 _ ?_; clear q1 Z) | omega | rfl | decide | assumption | (intro _; omega) | (simp; done) | (simp; omega))
              refine opsA_nil (r _ ?_)
              clear r R
              try simp only [go_sem, Nat.reduceBEq]
              have hlt : i < 6 := by omega
              have hp : placeOk e i = true := by
                simp [placeOk, cmp_neg, show ¬ e.touches ≤ i by omega]
                omega
              have ho : (bif (List.range i).any (ownAt e) then true else bif bif decide ((e.touch.getD i default).kind = 5) then decide ((e.touch.getD i default).num = e.go) else false then (e.touch.getD i default).write else false) = (List.range (i + 1)).any (ownAt e) := by
                rw [any_range_succ]
                have : decide ((i : Int) < e.touches) = true := by simpa using hb3
                simp only [ownAt, this, Bool.true_and, acc_eq]
                cases (List.range i).any (ownAt e) <;> cases decide ((e.touch.getD i default).kind = 5) <;> cases decide ((e.touch.getD i default).num = e.go) <;> rfl
              refine loopK.normal (6 - (i + 1)) _ (by omega) ((St.le.cut 1 rfl).trans (St.le.of_eq (by simp only [wrap_succ hlt (by decide : 6 ≤ maxLen), ho, List.take_succ_cons, List.take_zero]))) ⟨i + 1, rfl, ⟨hlt, hc, ?_⟩, rfl⟩
              rw [all_range_succ, hd, hp]; rfl
          · intro hb6
            simp at hb6
            refine SA.skip ?_
            refine thenK.normal ?_
            refine SA.region ok (by kernel_rfl) [1, 3, 4] ?_
            intro R r
            simp only [go_sem, strip]
            iterate 18 (refine opsA_cons fun Z q1 => ?_; simp only [go_sem, seval, -List.reduceReplicate]; (repeat' with_reducible refine And.intro ?_ ?_); all_goals first | (refine q1 _ ?_; clear q1 Z) | omega | rfl | decide | assumption | (intro _; omega) | (simp; done) | (simp; omega))
            refine opsA_nil (r _ ?_)
            clear r R
            try simp only [go_sem, Nat.reduceBEq]
            refine blockK.normal (thenK.normal ?_)
            refine SA.region ok (by kernel_rfl) [1, 3, 4] ?_
            intro R r
            simp only [go_sem, strip]
            iterate 3 (refine opsA_cons fun Z q1 => ?_; simp only [go_sem, seval, -List.reduceReplicate]; (repeat' with_reducible refine And.intro ?_ ?_); all_goals first | (refine q1 _ ?_; clear q1 Z) | omega | rfl | decide | assumption | (intro _; omega) | (simp; done) | (simp; omega))
            refine opsA_nil (r _ ?_)
            clear r R
            try simp only [go_sem, Nat.reduceBEq]
            have hlt : i < 6 := by omega
            have hp : placeOk e i = true := by
              simp [placeOk, cmp_neg, show ¬ e.touches ≤ i by omega]
              omega
            have ho : (bif (List.range i).any (ownAt e) then true else bif bif decide ((e.touch.getD i default).kind = 5) then decide ((e.touch.getD i default).num = e.go) else false then (e.touch.getD i default).write else false) = (List.range (i + 1)).any (ownAt e) := by
              rw [any_range_succ]
              have : decide ((i : Int) < e.touches) = true := by simpa using hb3
              simp only [ownAt, this, Bool.true_and, acc_eq]
              cases (List.range i).any (ownAt e) <;> cases decide ((e.touch.getD i default).kind = 5) <;> cases decide ((e.touch.getD i default).num = e.go) <;> rfl
            refine loopK.normal (6 - (i + 1)) _ (by omega) ((St.le.cut 1 rfl).trans (St.le.of_eq (by simp only [wrap_succ hlt (by decide : 6 ≤ maxLen), ho, List.take_succ_cons, List.take_zero]))) ⟨i + 1, rfl, ⟨hlt, hc, ?_⟩, rfl⟩
            rw [all_range_succ, hd, hp]; rfl
    · intro hb2
      simp at hb2
      refine SA.exit ?_
      refine thenK.exit ?_
      refine loopK.exit ?_
      refine blockK.hit ?_
      refine thenK.normal (SA.seq ?_)
      refine SA.region ok (by kernel_rfl) [2] ?_
      intro R r
      simp only [go_sem, strip]
      iterate 2 (refine opsA_cons fun Z q1 => ?_; simp only [go_sem, seval, -List.reduceReplicate]; (repeat' with_reducible refine And.intro ?_ ?_); all_goals first | (refine q1 _ ?_; clear q1 Z) | omega | rfl | decide | assumption | (intro _; omega) | (simp; done) | (simp; omega))
      refine opsA_nil (r _ ?_)
      clear r R
      try simp only [go_sem, Nat.reduceBEq]
      refine thenK.normal (SA.ret ?_)
      refine ctrK.ret ?_
      simp only [resA, evalO, resV, backK, outE, toV, ty4, ty3, List.lookup_cons, List.lookup_nil, beq_self_eq_true, forall_const, true_and, and_true]
      refine ⟨rfl, ?_⟩
      have h6 : i = 6 := by omega
      subst h6
      have : right e = (List.range 6).any (ownAt e) := by
        simp only [right, hd, Bool.true_and, decide_eq_true hc.1, decide_eq_true hc.2.1, decide_eq_true hc.2.2.1, decide_eq_true hc.2.2.2]
      rw [this]; rfl

theorem refCheck_ctr (t : List Event) (ht : t.length ≤ maxLen) (h6 : ∀ e ∈ t, e.touch.length = 6) : Ctr Go.Proofs.Try.prog tab 14 [22] [3] [.list (t.map Event.v)] [.int (check t)] := by
  refine Ctr.body ok Go.Proofs.Try.func14 rfl rfl 19 rfl [.tmp 2] rfl (by simp [fromVs]) ?_
  simp only [fromVs, fromV, args0, V.toList_list, V.toInt_int, V.toBool_bool, Nat.zero_add, Nat.reduceAdd, ty22]
  refine SA.seq ?_
  refine SA.region ok (by kernel_rfl) [0] ?_
  intro R r
  simp only [go_sem, strip]
  iterate 1 (refine opsA_cons fun Z q1 => ?_; simp only [go_sem, seval, -List.reduceReplicate]; (repeat' with_reducible refine And.intro ?_ ?_); all_goals first | (refine q1 _ ?_; clear q1 Z) | omega | rfl | decide | assumption | (intro _; omega) | (simp; done) | (simp; omega))
  refine opsA_nil (r _ ?_)
  clear r R
  try simp only [go_sem, Nat.reduceBEq]
  refine thenK.normal (SA.seq ?_)
  refine SA.seq ?_
  refine SA.region ok (by kernel_rfl) [0, 6] ?_
  intro R r
  simp only [go_sem, strip]
  iterate 3 (refine opsA_cons fun Z q1 => ?_; simp only [go_sem, seval, -List.reduceReplicate]; (repeat' with_reducible refine And.intro ?_ ?_); all_goals first | (refine q1 _ ?_; clear q1 Z) | omega | rfl | decide | assumption | (intro _; omega) | (simp; done) | (simp; omega) | (simp [roomFor, maxLen, by39, by3] <;> omega))
  refine opsA_nil (r _ ?_)
  clear r R
  try simp only [go_sem, Nat.reduceBEq]
  refine thenK.normal ?_
  refine SA.cond rfl ?_ ?_
  · intro hb1
    simp at hb1
    refine SA.seq ?_
    refine SA.region ok (by kernel_rfl) [2] ?_
    intro R r
    simp only [go_sem, strip]
    iterate 1 (refine opsA_cons fun Z q1 => ?_; simp only [go_sem, seval, -List.reduceReplicate]; (repeat' with_reducible refine And.intro ?_ ?_); all_goals first | (refine q1 _ ?_; clear q1 Z) | omega | rfl | decide | assumption | (intro _; omega) | (simp; done) | (simp; omega))
    refine opsA_nil (r _ ?_)
    clear r R
    try simp only [go_sem, Nat.reduceBEq]
    refine thenK.normal (SA.ret ?_)
    refine thenK.ret ?_
    refine ctrK.ret ?_
    simp only [resA, evalO, resV, backK, outE, toV, ty4, ty3, List.lookup_cons, List.lookup_nil, beq_self_eq_true, forall_const, true_and, and_true]
    refine ⟨rfl, ?_⟩
    have : check t = 2 := if_pos (by omega)
    rw [this]; rfl
  · intro hb1
    simp at hb1
    refine SA.skip ?_
    refine thenK.normal (SA.seq ?_)
    refine SA.seq ?_
    refine SA.region ok (by kernel_rfl) [0, 3] ?_
    intro R r
    simp only [go_sem, strip]
    iterate 1 (refine opsA_cons fun Z q1 => ?_; simp only [go_sem, seval, -List.reduceReplicate]; (repeat' with_reducible refine And.intro ?_ ?_); all_goals first | (refine q1 _ ?_; clear q1 Z) | omega | rfl | decide | assumption | (intro _; omega) | (simp; done) | (simp; omega))
    refine opsA_nil (r _ ?_)
    clear r R
    try simp only [go_sem, Nat.reduceBEq]
    refine thenK.normal (SA.block ?_)
    refine SA.weaken (St.le.of_eq (by first | rfl | simp)) (SA.loop (fun n τ => ∃ (i : Nat), n = t.length - i ∧ (i ≤ t.length ∧ t.length ≤ 256 ∧ (t.take i).all right = true) ∧ τ = { tm := [(0, true, .fs 42 (t.map Event.v) false), (3, true, .int .i64 i)], ob := [], out := [], nt := 19 }) (t.length) ⟨0, rfl, ⟨Nat.zero_le _, by omega, rfl⟩, rfl⟩ ?_)
    rintro n τ ⟨i, hn, ⟨hi, h256, hc⟩, rfl⟩
    refine SA.seq ?_
    refine SA.seq ?_
    refine SA.region ok (by kernel_rfl) [0, 3, 10] ?_
    intro R r
    simp only [go_sem, strip]
    iterate 4 (refine opsA_cons fun Z q1 => ?_; simp only [go_sem, seval, -List.reduceReplicate]; (repeat' with_reducible refine And.intro ?_ ?_); all_goals first | (refine q1 _ ?_; clear q1 Z) | omega | rfl | decide | assumption | (intro _; omega) | (simp; done) | (simp; omega) | (simp [roomFor, maxLen, by39, by3] <;> omega))
    refine opsA_nil (r _ ?_)
    clear r R
    try simp only [go_sem, Nat.reduceBEq]
    refine thenK.normal ?_
    refine SA.cond rfl ?_ ?_
    · intro hb2
      simp at hb2
      refine SA.skip ?_
      refine thenK.normal (SA.seq ?_)
      refine SA.block ?_
      refine SA.seq ?_
      refine SA.region ok (by kernel_rfl) [0, 3, 18] ?_
      intro R r
      simp only [go_sem, strip]
      iterate 3 (refine opsA_cons fun Z q1 => ?_; simp only [go_sem, seval, -List.reduceReplicate]; (repeat' with_reducible refine And.intro ?_ ?_); all_goals first | (refine q1 _ ?_; clear q1 Z) | omega | rfl | decide | assumption | (intro _; omega) | (simp; done) | (simp; omega) | (simp [roomFor, maxLen, by39, by3] <;> omega))
      refine opsA_cons fun Z q1 => ?_
      simp only [go_sem, seval, -List.reduceReplicate]
      repeat' with_reducible refine And.intro ?_ ?_
      all_goals first | (refine q1 _ ?_; clear q1 Z) | omega | rfl | decide | assumption | (intro _; omega) | (simp; done) | (simp; omega) | (simp [roomFor, maxLen, by39, by3] <;> omega)
      have hlt : i < t.length := by omega
      rw [getD_map Event.v t hlt]
      refine opsA_cons fun Z q1 => ?_
      simp only [go_sem, seval, -List.reduceReplicate]
      repeat' with_reducible refine And.intro ?_ ?_
      all_goals try (first | omega | assumption | (intro _; omega))
      first | refine ⟨_, _, rfl, .inl ⟨_, CallQ.ctr ok (refRight_ctr _ (h6 _ (getD_mem t hlt))) (by first | rfl | (simp [argsV, toVs, contentV, toV, capsV, capsE, ty23, ty22, ty25, ty3, ty4, ty81, ty39, ty40, ty42, ty37, ty2, List.length_map, List.take_of_length_le])) rfl, ?_⟩⟩ | refine ⟨_, _, rfl, .inl ⟨_, fun hg => CallQ.ctr ok (refRight_ctr _ (h6 _ (getD_mem t hlt))) (by first | rfl | (simp [argsV, toVs, contentV, toV, capsV, capsE, ty23, ty22, ty25, ty3, ty4, ty81, ty39, ty40, ty42, ty37, ty2, List.length_map, List.take_of_length_le])) rfl, ?_⟩⟩
      simp only [go_sem, seval, -List.reduceReplicate]
      repeat' with_reducible refine And.intro ?_ ?_
      all_goals first | (refine q1 _ ?_; clear q1 Z) | omega | rfl | decide | assumption | (intro _; omega) | (simp; done) | (simp; omega) | (simp [roomFor, maxLen, by39, by3] <;> omega)
      iterate 1 (refine opsA_cons fun Z q1 => ?_; simp only [go_sem, seval, -List.reduceReplicate]; (repeat' with_reducible refine And.intro ?_ ?_); all_goals first | (refine q1 _ ?_; clear q1 Z) | omega | rfl | decide | assumption | (intro _; omega) | (simp; done) | (simp; omega) | (simp [roomFor, maxLen, by39, by3] <;> omega))
      refine opsA_nil (r _ ?_)
      clear r R
      try simp only [go_sem, Nat.reduceBEq]
      refine thenK.normal ?_
      refine SA.cond rfl ?_ ?_
      · intro hb3
        simp at hb3
        refine SA.seq ?_
        refine SA.region ok (by kernel_rfl) [2] ?_
        intro R r
        simp only [go_sem, strip]
        iterate 1 (refine opsA_cons fun Z q1 => ?_; simp only [go_sem, seval, -List.reduceReplicate]; (repeat' with_reducible refine And.intro ?_ ?_); all_goals first | (refine q1 _ ?_; clear q1 Z) | omega | rfl | decide | assumption | (intro _; omega) | (simp; done) | (simp; omega))
        refine opsA_nil (r _ ?_)
        clear r R
        try simp only [go_sem, Nat.reduceBEq]
        refine thenK.normal (SA.ret ?_)
        refine blockK.ret ?_
        refine thenK.ret ?_
        refine loopK.ret ?_
        refine blockK.ret ?_
        refine thenK.ret ?_
        refine ctrK.ret ?_
        simp only [resA, evalO, resV, backK, outE, toV, ty4, ty3, List.lookup_cons, List.lookup_nil, beq_self_eq_true, forall_const, true_and, and_true]
        refine ⟨rfl, ?_⟩
        have hlt : i < t.length := by omega
        have h3 : right t[i] = false := by simpa [hlt] using hb3
        have : t.all right = false := List.all_eq_false.2 ⟨_, List.getElem_mem hlt, by simp [h3]⟩
        have : check t = 7 := by unfold check; rw [if_neg (by omega), this]; rfl
        rw [this]; rfl
      · intro hb3
        simp at hb3
        refine SA.skip ?_
        refine blockK.normal (thenK.normal ?_)
        refine SA.region ok (by kernel_rfl) [0, 3] ?_
        intro R r
        simp only [go_sem, strip]
        iterate 3 (refine opsA_cons fun Z q1 => ?_; simp only [go_sem, seval, -List.reduceReplicate]; (repeat' with_reducible refine And.intro ?_ ?_); all_goals first | (refine q1 _ ?_; clear q1 Z) | omega | rfl | decide | assumption | (intro _; omega) | (simp; done) | (simp; omega))
        refine opsA_nil (r _ ?_)
        clear r R
        try simp only [go_sem, Nat.reduceBEq]
        have hlt : i < t.length := by omega
        refine loopK.normal (t.length - (i + 1)) _ (by omega) (St.le.of_eq (by simp only [wrap_succ hlt ht])) ⟨i + 1, rfl, ⟨hlt, h256, ?_⟩, rfl⟩
        have h3 : right t[i] = true := by simpa [hlt] using hb3
        rw [List.take_succ_eq_append_getElem hlt, List.all_append, hc]
        simp [h3]
    · intro hb2
      simp at hb2
      refine SA.exit ?_
      refine thenK.exit ?_
      refine loopK.exit ?_
      refine blockK.hit ?_
      refine thenK.normal (SA.seq ?_)
      refine SA.region ok (by kernel_rfl) [2] ?_
      intro R r
      simp only [go_sem, strip]
      iterate 1 (refine opsA_cons fun Z q1 => ?_; simp only [go_sem, seval, -List.reduceReplicate]; (repeat' with_reducible refine And.intro ?_ ?_); all_goals first | (refine q1 _ ?_; clear q1 Z) | omega | rfl | decide | assumption | (intro _; omega) | (simp; done) | (simp; omega))
      refine opsA_nil (r _ ?_)
      clear r R
      try simp only [go_sem, Nat.reduceBEq]
      refine thenK.normal (SA.ret ?_)
      refine ctrK.ret ?_
      simp only [resA, evalO, resV, backK, outE, toV, ty4, ty3, List.lookup_cons, List.lookup_nil, beq_self_eq_true, forall_const, true_and, and_true]
      refine ⟨rfl, ?_⟩
      have : i = t.length := by omega
      subst this
      rw [List.take_length] at hc
      have : check t = 0 := by unfold check; rw [if_neg (by omega), hc]; rfl
      rw [this]; rfl

end Go.Eng.Try
