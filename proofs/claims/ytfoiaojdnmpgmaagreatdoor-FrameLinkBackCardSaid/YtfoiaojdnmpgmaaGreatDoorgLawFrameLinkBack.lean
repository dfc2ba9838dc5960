/- Part 9. -/
import Derived.Test.YtfoiaojdnmpgmaaGreatDoorPartG
import Derived.Test.YtfoiaojdnmpgmaaGreatDoorRows
import Derived.Test.YtfoiaojdnmpgmaaGreatDoorCards
import Derived.Test.YtfoiaojdnmpgmaaGreatDoorTie
import Derived.Lay
import Derived.LaidOnce
import Derived.LaidMore
import Derived.SevenTiedAt
import Derived.Stop.Joined
import Derived.WalkKit
import Derived.ProofKit
import Derived.OpenShut
import Derived.ShutString
import Derived.ChangeOld
import Derived.Below
import Derived.SizedLaws
set_option linter.all false
namespace Go.Proofs.YtfoiaojdnmpgmaaGreatDoor.frameLinkBack
open Go Go.Abs Go.ChangeShapes Go.WideShapes Go.ChangeAt Go.RowKit
open Go.ChangeMaps (open_string shut_string)
theorem own:ownKnob Tryz.prog.godebug=none:=by kernel_rfl
theorem QfV:laidOutB Tryz.prog=true:=by kernel_rfl
theorem Qe9:Tryz.prog.follows .mixedOrders=true:=by kernel_rfl
set_option maxRecDepth 100000 in
theorem QmU(os:Os)(started:os.Started)(H:Type)(enc:TypeId×Value→H):
  ReturnsInHanded {} Tryz.checked os 15 .any (fun w args=>(Rows.frameLinkBackSpec.pre enc Tryz.prog Tryz.f15 [] false w args∧laidMetH Tryz.prog Qfa w)∧sizedMet enc Tryz.prog Tryz.f15 (OpenSpec.ofChange Rows.frameLinkBackSpec) false w args) (Rows.frameLinkBackSpec.post enc Tryz.prog Tryz.f15 false true false false):=by
 refine returnsInHanded_of_change_and (C:=Tryz.checked) (X:=fun w _=>laidMetH Tryz.prog Qfa w) (fun _ _ _ hh h=>h.of_heap hh) own started (by kernel_rfl) Tryz.func15
  (ChangeSpec.witness_shaped (enc:=enc) (C:=Tryz.checked) (os:=os) (X:=fun w _=>laidMetH Tryz.prog Qfa w) false (World.laidAll Tryz.prog os Qfa) #[.agg #[.bool false,.int .i64 0,.slice none 0 0],.slice none 0 0] 8 (World.laidAll_os _ _ _)
    (World.shaped_of_ZipB (by kernel_rfl) (by kernel_rfl)) (by kernel_rfl) (by kernel_rfl) (by kernel_rfl)
    (by rw[MakeChecks.laidMetH_plain _ _ _ (by kernel_rfl)];exact laidMet_laidAll _ (by kernel_rfl) (by kernel_rfl))) ?_
 intro W base args ds gs before hval0 hW hcnd hsz0 hL _
 rw[MakeChecks.laidMetH_plain _ _ _ (by kernel_rfl)]at hL
 have hT:QlH W:=QeS hL
 have hsz:(DataW.weightsEach Tryz.prog (Tryz.f15.params.toList++Rows.frameLinkBackSpec.plain.varTypes Tryz.prog) (ds++gs)).all (· ≤reachBytes)=true:=hsz0
 have hval:∀(j:Nat) t v,Tryz.f15.params[j]? =some t→args[j]? =some v→Value.okWide Tryz.prog W .any base t v:=hval0
 have hW':=hW
 obtain⟨p,q,hA0,hV,rfl,hfz,hnd⟩:=hW
 have hA:DataW.TrodAll enc Tryz.prog W 0 (fun _=>true) true Tryz.f15.params.toList args.toList ds p:=hA0
 rw[Tryz.params15]at hA hval hsz
 obtain⟨v0,vs0,d0,ds0,p0,q0,hargs,rfl,rfl,h0,r0⟩:=trodAll_cons hA
 obtain⟨v1,vs1,d1,ds1,p1,q1,rfl,rfl,rfl,h1,r1⟩:=trodAll_cons r0
 obtain⟨rfl,rfl,rfl⟩:=trodAll_nil r1
 obtain rfl:args= #[v0,v1]:=by cases args;simp_all
 obtain⟨rfl,rfl⟩:=trodVars_none hV
 have k0:=h0
 have lt0:=Qdr h0
 obtain⟨x0,⟨a0,n0,d0,e0,q0⟩,vr0⟩:=Qhd Tryz.underlying68 (hval 0 68 v0 rfl rfl) (QgU W) h0 (fun n hn=>of_decide_eq_true (List.all_eq_true.1 hsz n (DataW.weights_mem_each (j:=0) (t:=68) rfl rfl n hn)))
 subst e0
 have k1:=h1
 have lt1:=Qdr h1
 obtain⟨x1,⟨b1,e1,m1⟩,vr1⟩:=Qi0 Tryz.underlying36 (hval 1 36 v1 rfl rfl) (Qda W) h1 (fun n hn=>of_decide_eq_true (List.all_eq_true.1 hsz n (DataW.weights_mem_each (j:=1) (t:=36) rfl rfl n hn)))
 simp only[List.cons.injEq,and_true]at e1;subst e1
 clear hA0 hval0 hsz0 hsz
 refine(QfE (P:=Tryz.prog) Qe9 Qkh QeL rfl (back_law 0 [] a0 n0 d0 b1 q0) (vals:= #[v0,v1]) (w:=W) hT ⟨vr0,vr1,trivial⟩).mono fun e W' ⟨he,bel⟩=> ?_
 subst he
 exact⟨_,rfl,_,_,_,[],_,[],hW',trodAll_mk1 (shut_bool Tryz.underlying4 _),(trodAll_cons_mk (Below.trod QfV (by kernel_rfl) (of_decide_eq_true (by kernel_rfl)) k0 bel lt0) (trodAll_cons_mk (Below.trod QfV (by kernel_rfl) (of_decide_eq_true (by kernel_rfl)) k1 bel lt1) trodAll_mk0)),rfl,bel.frame _,fun h=>by cases h⟩
theorem over:Rows.frameLinkBackRow.holds Tryz.pinned (OpenSpec.ofChange Rows.frameLinkBackSpec):=
 OpenClaim.holds_of_wide 15 Tryz.f15 rfl rfl rfl rfl rfl rfl rfl ⟨rfl,rfl,rfl,rfl,rfl⟩ rfl rfl rfl rfl rfl (by kernel_rfl) Tryz.func15 (by kernel_rfl)
  (of_decide_eq_true (by kernel_rfl)) (by unfold Func.isWrapper;first|(rw[if_pos (by decide+kernel)];kernel_rfl)|(rw[if_neg (by decide+kernel)];exact⟨rfl,rfl⟩))
  (fun os started H enc _=>QmU os started H enc)
theorem Qmm:Rows.FrameLinkBackSaid:=over
theorem card:Rows.FrameLinkBackCardSaid:=
 Claim7.holds_tied_plain_at .later [] [.data,.data,.data,.data,.pinned] true (true, "23ed99c7dfff1c7be04843020f1e2bc0627421e83d9b841e5541369f44437d3d") true Qmm (fun _ h=>by cases h) (by kernel_rfl) (fun _ h=>by cases h) frameLinkBack_row_tie rfl ⟨rfl,rfl⟩ (by kernel_rfl) rfl
  (fun f fn hf hfn=>by
    obtain rfl:f=15:=Option.some.inj ((show Tryz.prog.funcNamed Rows.frameLinkBackRow.func=some 15 by kernel_rfl).symm.trans hf)|>.symm
    obtain rfl:fn=Tryz.f15:=(Option.some.inj (Tryz.func15.symm.trans hfn)).symm
    exact⟨by kernel_rfl,fun j t ht=>by
     rw[Tryz.params15]at ht
     have hm:t∈ [68,36]:=by simpa using Array.mem_of_getElem? ht
     have hall:([68,36].all fun u=> !Tryz.prog.wantsStandIn u)=true:=by kernel_rfl
     exact(show Tryz.prog.wantsStandIn t=false by simpa using List.all_eq_true.1 hall t hm)⟩)
  (by kernel_rfl)
end Go.Proofs.YtfoiaojdnmpgmaaGreatDoor.frameLinkBack
namespace Go.Proofs.YtfoiaojdnmpgmaaGreatDoor
theorem frameLinkBack_holds:Rows.FrameLinkBackCardSaid:=frameLinkBack.card
#print axioms frameLinkBack_holds
end Go.Proofs.YtfoiaojdnmpgmaaGreatDoor
