/- Part 12. -/
import Derived.Test.YtmhmjlfajlpabaaDoorPartH
import Derived.Test.YtmhmjlfajlpabaaDoorRows
import Derived.Test.YtmhmjlfajlpabaaDoorCards
import Derived.Test.YtmhmjlfajlpabaaDoorTie
import Derived.Lay
import Derived.LaidOnce
import Derived.LaidMore
import Derived.SevenTiedAt
import Derived.Stop.Joined
import Derived.WalkKit
import Derived.ProofKit
import Derived.OpenShut
import Derived.ShutString
import Derived.ChangeOld
import Derived.Below
import Derived.SizedLaws
set_option linter.all false
namespace Go.Proofs.YtmhmjlfajlpabaaDoor.canonBlanks
open Go Go.Abs Go.ChangeShapes Go.WideShapes Go.ChangeAt Go.RowKit
open Go.ChangeMaps (open_string shut_string)
theorem own:ownKnob Tryd.prog.godebug=none:=by kernel_rfl
theorem Qd6:laidOutB Tryd.prog=true:=by kernel_rfl
theorem QeN:Tryd.prog.follows .mixedOrders=true:=by kernel_rfl
set_option maxRecDepth 100000 in
theorem Qhz(os:Os)(started:os.Started)(H:Type)(enc:TypeId×Value→H):
  ReturnsInHanded {} Tryd.checked os 5 .any (fun w args=>(Rows.canonBlanksSpec.pre enc Tryd.prog Tryd.f5 [] false w args∧laidMetH Tryd.prog Qds w)∧sizedMet enc Tryd.prog Tryd.f5 (OpenSpec.ofChange Rows.canonBlanksSpec) false w args) (Rows.canonBlanksSpec.post enc Tryd.prog Tryd.f5 false true false false):=by
 refine returnsInHanded_of_change_and (C:=Tryd.checked) (X:=fun w _=>laidMetH Tryd.prog Qds w) (fun _ _ _ hh h=>h.of_heap hh) own started (by kernel_rfl) Tryd.func5
  (ChangeSpec.witness_shaped (enc:=enc) (C:=Tryd.checked) (os:=os) (X:=fun w _=>laidMetH Tryd.prog Qds w) false (World.laidAll Tryd.prog os Qds) #[.slice none 0 0,.slice none 0 0] 8 (World.laidAll_os _ _ _)
    (World.shaped_of_ZipB (by kernel_rfl) (by kernel_rfl)) (by kernel_rfl) (by kernel_rfl) (by kernel_rfl)
    (by rw[MakeChecks.laidMetH_plain _ _ _ (by kernel_rfl)];exact laidMet_laidAll _ (by kernel_rfl) (by kernel_rfl))) ?_
 intro W base args ds gs before hval0 hW hcnd hsz0 hL _
 rw[MakeChecks.laidMetH_plain _ _ _ (by kernel_rfl)]at hL
 have hT:QlB W:=Qc6 hL
 have hsz:(DataW.weightsEach Tryd.prog (Tryd.f5.params.toList++Rows.canonBlanksSpec.plain.varTypes Tryd.prog) (ds++gs)).all (· ≤reachBytes)=true:=hsz0
 have hval:∀(j:Nat) t v,Tryd.f5.params[j]? =some t→args[j]? =some v→Value.okWide Tryd.prog W .any base t v:=hval0
 have hW':=hW
 obtain⟨p,q,hA0,hV,rfl,hfz,hnd⟩:=hW
 have hA:DataW.TrodAll enc Tryd.prog W 0 (fun _=>true) true Tryd.f5.params.toList args.toList ds p:=hA0
 rw[Tryd.params5]at hA hval hsz
 obtain⟨v0,vs0,d0,ds0,p0,q0,hargs,rfl,rfl,h0,r0⟩:=trodAll_cons hA
 obtain⟨v1,vs1,d1,ds1,p1,q1,rfl,rfl,rfl,h1,r1⟩:=trodAll_cons r0
 obtain⟨rfl,rfl,rfl⟩:=trodAll_nil r1
 obtain rfl:args= #[v0,v1]:=by cases args;simp_all
 obtain⟨rfl,rfl⟩:=trodVars_none hV
 have k0:=h0
 have lt0:=Qdr h0
 obtain⟨x0,⟨b0,e0,m0⟩,vr0⟩:=Qim Tryd.underlying22 (hval 0 22 v0 rfl rfl) (Qgm Tryd.underlying22 Tryd.underlying5 (by kernel_rfl) (by kernel_rfl)) h0 (fun n hn=>of_decide_eq_true (List.all_eq_true.1 hsz n (DataW.weights_mem_each (j:=0) (t:=22) rfl rfl n hn)))
 simp only[List.cons.injEq,and_true]at e0;subst e0
 have k1:=h1
 have lt1:=Qdr h1
 obtain⟨x1,⟨b1,e1,m1⟩,vr1⟩:=Qim Tryd.underlying22 (hval 1 22 v1 rfl rfl) (Qgm Tryd.underlying22 Tryd.underlying5 (by kernel_rfl) (by kernel_rfl)) h1 (fun n hn=>of_decide_eq_true (List.all_eq_true.1 hsz n (DataW.weights_mem_each (j:=1) (t:=22) rfl rfl n hn)))
 simp only[List.cons.injEq,and_true]at e1;subst e1
 clear hA0 hval0 hsz0 hsz
 refine(QdF (P:=Tryd.prog) QeN QgI QeT rfl (QoK 0 [] b0 b1 m0 m1) (vals:= #[v0,v1]) (w:=W) hT ⟨vr0,vr1,trivial⟩).mono fun e W' ⟨he,bel⟩=> ?_
 subst he
 exact⟨_,rfl,_,_,_,[],_,[],hW',trodAll_mk1 (shut_bool Tryd.underlying4 _),(trodAll_cons_mk (Below.trod Qd6 (by kernel_rfl) (of_decide_eq_true (by kernel_rfl)) k0 bel lt0) (trodAll_cons_mk (Below.trod Qd6 (by kernel_rfl) (of_decide_eq_true (by kernel_rfl)) k1 bel lt1) trodAll_mk0)),rfl,bel.frame _,fun h=>by cases h⟩
theorem over:Rows.canonBlanksRow.holds Tryd.pinned (OpenSpec.ofChange Rows.canonBlanksSpec):=
 OpenClaim.holds_of_wide 5 Tryd.f5 rfl rfl rfl rfl rfl rfl rfl ⟨rfl,rfl,rfl,rfl,rfl⟩ rfl rfl rfl rfl rfl (by kernel_rfl) Tryd.func5 (by kernel_rfl)
  (of_decide_eq_true (by kernel_rfl)) (by unfold Func.isWrapper;first|(rw[if_pos (by decide+kernel)];kernel_rfl)|(rw[if_neg (by decide+kernel)];exact⟨rfl,rfl⟩))
  (fun os started H enc _=>Qhz os started H enc)
theorem Qhh:Rows.CanonBlanksSaid:=over
theorem card:Rows.CanonBlanksCardSaid:=
 Claim7.holds_tied_plain_at .later [] [.data,.data,.data,.data,.pinned] true (true, "be7fad43d2f41848e495d6282419bb822c522f0fda0af8af5337c8518e52f2d7") true Qhh (fun _ h=>by cases h) (by kernel_rfl) (fun _ h=>by cases h) canonBlanks_row_tie rfl ⟨rfl,rfl⟩ (by kernel_rfl) rfl
  (fun f fn hf hfn=>by
    obtain rfl:f=5:=Option.some.inj ((show Tryd.prog.funcNamed Rows.canonBlanksRow.func=some 5 by kernel_rfl).symm.trans hf)|>.symm
    obtain rfl:fn=Tryd.f5:=(Option.some.inj (Tryd.func5.symm.trans hfn)).symm
    exact⟨by kernel_rfl,fun j t ht=>by
     rw[Tryd.params5]at ht
     have hm:t∈ [22,22]:=by simpa using Array.mem_of_getElem? ht
     have hall:([22,22].all fun u=> !Tryd.prog.wantsStandIn u)=true:=by kernel_rfl
     exact(show Tryd.prog.wantsStandIn t=false by simpa using List.all_eq_true.1 hall t hm)⟩)
  (by kernel_rfl)
end Go.Proofs.YtmhmjlfajlpabaaDoor.canonBlanks
namespace Go.Proofs.YtmhmjlfajlpabaaDoor
theorem canonBlanks_holds:Rows.CanonBlanksCardSaid:=canonBlanks.card
#print axioms canonBlanks_holds
end Go.Proofs.YtmhmjlfajlpabaaDoor
