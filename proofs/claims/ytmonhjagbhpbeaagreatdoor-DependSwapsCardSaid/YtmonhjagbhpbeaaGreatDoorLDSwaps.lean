/- scarablaw10.DependSwaps returns true for any program, picks, place and budget, and the arguments read behind the call as they read before; the one variable that its code reads, the library's table of bits, is tied to the program's text; there are no conditions. -/
import Derived.Test.YtmonhjagbhpbeaaGreatDoorPk49
import Derived.Test.YtmonhjagbhpbeaaGreatDoorPk51
import Derived.WalkKit
import Derived.ProofKit
import Derived.OpenShut
import Derived.ShutString
import Derived.ChangeOld
import Derived.Below
import Derived.SizedLaws
import Derived.LaidMore
import Derived.LaidLaws
import Derived.SevenTiedAt
namespace Go.Proofs.YtmonhjagbhpbeaaGreatDoor.dependSwaps
open Go.ChangeShapes Go.WideShapes Go.ChangeAt Go.RowKit Go.Eng Go.Eng.Tryz
theorem own:ownKnob Tryz.prog.godebug=none:=by kernel_rfl
theorem laidOut:laidOutB Tryz.prog=true:=by kernel_rfl
set_option maxRecDepth 100000 in
theorem lifted (os:Os) (started:os.Started) (H:Type) (enc:TypeId × Value→H) :
 ReturnsInHanded {} Tryz.checked os 8 .any (fun w args=>(Rows.dependSwapsSpec.pre enc Tryz.prog Tryz.f8 [] false w args∧laidMetH Tryz.prog VD w)∧sizedMet enc Tryz.prog Tryz.f8 (OpenSpec.ofChange Rows.dependSwapsSpec) false w args) (Rows.dependSwapsSpec.post enc Tryz.prog Tryz.f8 false true false false):=by
 refine returnsInHanded_of_change_and (C:=Tryz.checked) (X:=fun w _=>laidMetH Tryz.prog VD w) (fun _ _ _ hh h=>h.of_heap hh) own started (by kernel_rfl) Tryz.func8
  (ChangeSpec.witness_shaped (enc:=enc) (C:=Tryz.checked) (os:=os) (X:=fun w _=>laidMetH Tryz.prog VD w) false (World.doorLaid Tryz.prog 400 os) #[.agg #[.slice none 0 0,.int .i64 0,.slice none 0 0,.slice none 0 0,.slice none 0 0,.int .i64 0,.int .i64 0,.int .i64 0,.int .i64 0]] 8 rfl (World.shaped_of_RefB (by kernel_rfl) (by kernel_rfl)) (by kernel_rfl) (by kernel_rfl) (by kernel_rfl) (zm os _)) ?_
 intro W base args ds gs before hval0 hW hcnd hsz0 hLaid _
 have hval:∀ (j:Nat) t v,Tryz.f8.params[j]?=some t→args[j]?=some v→Value.okWide Tryz.prog W .any base t v:=hval0
 have hW':=hW
 obtain ⟨p,q,hA0,hV,rfl,hfz,hnd⟩:=hW
 have hA:DataW.TrodAll enc Tryz.prog W 0 (fun _=>true) true Tryz.f8.params.toList args.toList ds p:=hA0
 rw [Tryz.params8] at hA hval
 obtain ⟨v0,vs0,d0,ds0,p0,q0,hargs,rfl,rfl,h0,r0⟩:=trodAll_cons hA
 obtain ⟨rfl,rfl,rfl⟩:=trodAll_nil r0
 obtain rfl:args=#[v0]:=by cases args;simp_all
 obtain ⟨rfl,rfl⟩:=trodVars_none hV
 have k0:=h0
 have lt0:∀ x∈p0,x.block<W.heap.size:=by obtain ⟨m,hm⟩:=k0;exact DataW.trod_lt m _ _ _ hm
 have o0:=hval 0 75 v0 rfl rfl
 obtain ⟨x0,f0,w0,n0⟩:=zo ok (t:=75) (by kernel_rfl) o0 h0
 have z0:=QG4 ok (t:=75) (by kernel_rfl) h0 f0 (ts:=Tryz.f8.params.toList++_) (j:=0) hsz0 (by rfl) rfl
 obtain ⟨pr,pk,ix,bu,rfl⟩:=xF _ _ f0
 obtain ⟨hp,hl⟩:=ww n0
 have hlz:=QL6 z0
 clear hA0 hval0 hsz0
 have hlaw:=Ctr.law (xs:=[v0]) (W:=W) (vt pr pk ix bu hp hl hlz) (ok.bool 4 rfl) (by exact ⟨⟨f0,w0⟩,trivial⟩) rfl (xq hLaid)
 refine hlaw.mono fun e W' ⟨he,bel⟩=>?_
 subst he
 exact ⟨_,rfl,_,_,_,[],_,[],hW',trodAll_mk1 (shut_bool (ok.bool 4 rfl) _),(trodAll_cons_mk (Below.trod laidOut (by kernel_rfl) (of_decide_eq_true (by kernel_rfl)) k0 bel lt0) trodAll_mk0),rfl,bel.frame _,fun h=>by cases h⟩
theorem over:Rows.dependSwapsRow.holds Tryz.pinned (OpenSpec.ofChange Rows.dependSwapsSpec) :=
 OpenClaim.holds_of_wide 8 Tryz.f8 rfl rfl rfl rfl rfl rfl rfl ⟨rfl,rfl,rfl,rfl,rfl⟩ rfl rfl rfl rfl rfl (by kernel_rfl) Tryz.func8 (by kernel_rfl)
  (of_decide_eq_true (by kernel_rfl)) (by unfold Func.isWrapper;first|(rw [if_pos (by decide +kernel)];kernel_rfl)|(rw [if_neg (by decide +kernel)];exact ⟨rfl,rfl⟩))
  (fun os started H enc _=>lifted os started H enc)
theorem proved:Rows.DependSwapsSaid:=over
theorem tiedCard:Rows.DependSwapsCardSaid :=
 Claim7.holds_tied_plain_at .later [] [.data] true (true, "dc216da364a7c5dc7495126513f6952ab1937982fba8d224a3bbe258ee03ffa6") false
  proved (fun _ h=>by cases h) (by kernel_rfl) (fun _ h=>by cases h) dependSwaps_row_tie rfl ⟨rfl,rfl⟩ (by kernel_rfl) rfl
  (fun f fn hf hfn=>by
    obtain rfl : f = 8 := Option.some.inj ((show Tryz.prog.funcNamed "scarab/scarablaw10.DependSwaps" = some 8 by kernel_rfl).symm.trans hf) |>.symm
    obtain rfl:fn=Tryz.f8:=(Option.some.inj (Tryz.func8.symm.trans hfn)).symm
    exact ⟨by kernel_rfl,fun j t ht=>by
     rw [Tryz.params8] at ht
     have hm:t∈[75]:=by simpa using Array.mem_of_getElem? ht
     have hall:([75].all fun u=>!Tryz.prog.wantsStandIn u)=true:=by kernel_rfl
     exact (show Tryz.prog.wantsStandIn t=false by simpa using List.all_eq_true.1 hall t hm)⟩)
  (by kernel_rfl)
end Go.Proofs.YtmonhjagbhpbeaaGreatDoor.dependSwaps
namespace Go.Proofs.YtmonhjagbhpbeaaGreatDoor
theorem dependSwaps_holds:Rows.DependSwapsCardSaid:=dependSwaps.tiedCard
end Go.Proofs.YtmonhjagbhpbeaaGreatDoor
