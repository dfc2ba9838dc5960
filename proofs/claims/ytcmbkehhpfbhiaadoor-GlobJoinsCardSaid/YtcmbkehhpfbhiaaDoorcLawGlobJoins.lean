/- The law GlobJoins holds of every input: each argument is read as plain data, and the law's run over these answers true. -/
import Derived.Test.YtcmbkehhpfbhiaaDoorRows
import Derived.Test.YtcmbkehhpfbhiaaDoorcHeld
import Derived.Test.YtcmbkehhpfbhiaaDoorAbsC
import Derived.Test.YtcmbkehhpfbhiaaDoorcL3
import Derived.Test.YtcmbkehhpfbhiaaDoorcT
import Derived.Test.YtcmbkehhpfbhiaaDoorcA
import Derived.Test.YtcmbkehhpfbhiaaDoorcP
import Derived.Test.YtcmbkehhpfbhiaaDoorCards
import Derived.Test.YtcmbkehhpfbhiaaDoorTie
import Derived.Lay
import Derived.LaidOnce
import Derived.LaidMore
import Derived.SevenTiedAt
import Derived.Stop.Joined
import Derived.WalkKit
import Derived.ProofKit
import Derived.OpenShut
import Derived.ShutString
import Derived.ChangeOld
import Derived.Below
import Derived.SizedLaws
set_option linter.unusedSimpArgs false
set_option linter.unusedVariables false
set_option linter.all false
namespace Go.Proofs.YtcmbkehhpfbhiaaDoor.globJoins
open Go Go.Abs Go.ChangeShapes Go.WideShapes Go.ChangeAt Go.RowKit
open Go.ChangeMaps (open_string shut_string)
theorem own : ownKnob Tryd.prog.godebug = none := by kernel_rfl
theorem laidOut : laidOutB Tryd.prog = true := by kernel_rfl
theorem mixed : Tryd.prog.follows .mixedOrders = true := by kernel_rfl
set_option maxRecDepth 100000 in
theorem lifted (os : Os) (started : os.Started) (H : Type) (enc : TypeId × Value → H) :
    ReturnsInHanded {} Tryd.checked os 4 .any (fun w args => (Rows.globJoinsSpec.pre enc Tryd.prog Tryd.f4 [] false w args ∧ laidMetH Tryd.prog laidT w) ∧ sizedMet enc Tryd.prog Tryd.f4 (OpenSpec.ofChange Rows.globJoinsSpec) false w args) (Rows.globJoinsSpec.post enc Tryd.prog Tryd.f4 false true false false) := by
  refine returnsInHanded_of_change_and (C := Tryd.checked) (X := fun w _ => laidMetH Tryd.prog laidT w) (fun _ _ _ hh h => h.of_heap hh) own started (by kernel_rfl) Tryd.func4
    (ChangeSpec.witness_shaped (enc := enc) (C := Tryd.checked) (os := os) (X := fun w _ => laidMetH Tryd.prog laidT w) false (World.laidAll Tryd.prog os laidT) #[.agg #[.string ByteArray.empty,.string ByteArray.empty], .agg #[.string ByteArray.empty,.string ByteArray.empty]] 8 (World.laidAll_os _ _ _)
      (World.shaped_of_ZipB (by kernel_rfl) (by kernel_rfl)) (by kernel_rfl) (by kernel_rfl) (by kernel_rfl)
      (by rw [MakeChecks.laidMetH_plain _ _ _ (by kernel_rfl)]; exact laidMet_laidAll _ (by kernel_rfl) (by kernel_rfl))) ?_
  intro W base args ds gs before hval0 hW hcnd hsz0 hL _
  rw [MakeChecks.laidMetH_plain _ _ _ (by kernel_rfl)] at hL
  have hT : TabOK W := tabs_of_laid hL
  have hsz : (DataW.weightsEach Tryd.prog (Tryd.f4.params.toList ++ Rows.globJoinsSpec.plain.varTypes Tryd.prog) (ds ++ gs)).all (· ≤ reachBytes) = true := hsz0
  have hval : ∀ (j : Nat) t v, Tryd.f4.params[j]? = some t → args[j]? = some v → Value.okWide Tryd.prog W .any base t v := hval0
  have hW' := hW
  obtain ⟨p, q, hA0, hV, rfl, hfz, hnd⟩ := hW
  have hA : DataW.TrodAll enc Tryd.prog W 0 (fun _ => true) true Tryd.f4.params.toList args.toList ds p := hA0
  rw [Tryd.params4] at hA hval hsz
  obtain ⟨v0, vs0, d0, ds0, p0, q0, hargs, rfl, rfl, h0, r0⟩ := trodAll_cons hA
  obtain ⟨v1, vs1, d1, ds1, p1, q1, rfl, rfl, rfl, h1, r1⟩ := trodAll_cons r0
  obtain ⟨rfl, rfl, rfl⟩ := trodAll_nil r1
  obtain rfl : args = #[v0, v1] := by cases args; simp_all
  obtain ⟨rfl, rfl⟩ := trodVars_none hV
  have k0 := h0
  have lt0 := lt_of_trod h0
  obtain ⟨x0, ⟨p0,s0,e0⟩, vr0⟩ := arg_array Tryd.underlying24 (hval 0 24 v0 rfl rfl) (opens_two Tryd.underlying24 Tryd.underlying9 (by kernel_rfl) (by kernel_rfl)) h0
  subst e0
  have k1 := h1
  have lt1 := lt_of_trod h1
  obtain ⟨x1, ⟨p1,s1,e1⟩, vr1⟩ := arg_array Tryd.underlying24 (hval 1 24 v1 rfl rfl) (opens_two Tryd.underlying24 Tryd.underlying9 (by kernel_rfl) (by kernel_rfl)) h1
  subst e1
  clear hA0 hval0 hsz0 hsz
  refine (slim_callsP (P := Tryd.prog) mixed prims_ok codeAll rfl (joins_law 0 [] p0 s0 p1 s1) (vals := #[v0, v1]) (w := W) hT ⟨vr0, vr1, trivial⟩).mono fun e W' ⟨he, bel⟩ => ?_
  subst he
  exact ⟨_, rfl, _, _, _, [], _, [], hW', trodAll_mk1 (shut_bool Tryd.underlying4 _), (trodAll_cons_mk (Below.trod laidOut (by kernel_rfl) (of_decide_eq_true (by kernel_rfl)) k0 bel lt0) (trodAll_cons_mk (Below.trod laidOut (by kernel_rfl) (of_decide_eq_true (by kernel_rfl)) k1 bel lt1) trodAll_mk0)), rfl, bel.frame _, fun h => by cases h⟩
theorem over : Rows.globJoinsRow.holds Tryd.pinned (OpenSpec.ofChange Rows.globJoinsSpec) :=
  OpenClaim.holds_of_wide 4 Tryd.f4 rfl rfl rfl rfl rfl rfl rfl ⟨rfl, rfl, rfl, rfl, rfl⟩ rfl rfl rfl rfl rfl (by kernel_rfl) Tryd.func4 (by kernel_rfl)
    (of_decide_eq_true (by kernel_rfl)) (by unfold Func.isWrapper; first | (rw [if_pos (by decide +kernel)]; kernel_rfl) | (rw [if_neg (by decide +kernel)]; exact ⟨rfl, rfl⟩))
    (fun os started H enc _ => lifted os started H enc)
theorem proved : Rows.GlobJoinsSaid := over
theorem card : Rows.GlobJoinsCardSaid :=
  Claim7.holds_tied_plain_at .later [] [.data,.pinned] true (true, "7f7acb7d8478b72b0729beb0bd060f1b6b7342ca8e08862c9ff05138893370fe") false proved (fun _ h => by cases h) (by kernel_rfl) (fun _ h => by cases h) globJoins_row_tie rfl ⟨rfl, rfl⟩ (by kernel_rfl) rfl
    (fun f fn hf hfn => by
      obtain rfl : f = 4 := Option.some.inj ((show Tryd.prog.funcNamed Rows.globJoinsRow.func = some 4 by kernel_rfl).symm.trans hf) |>.symm
      obtain rfl : fn = Tryd.f4 := (Option.some.inj (Tryd.func4.symm.trans hfn)).symm
      exact ⟨by kernel_rfl, fun j t ht => by
        rw [Tryd.params4] at ht
        have hm : t ∈ [24, 24] := by simpa using Array.mem_of_getElem? ht
        have hall : ([24, 24].all fun u => !Tryd.prog.wantsStandIn u) = true := by kernel_rfl
        exact (show Tryd.prog.wantsStandIn t = false by simpa using List.all_eq_true.1 hall t hm)⟩)
    (by kernel_rfl)
end Go.Proofs.YtcmbkehhpfbhiaaDoor.globJoins
namespace Go.Proofs.YtcmbkehhpfbhiaaDoor
/-- The law GlobJoins, for every input. -/
theorem globJoins_holds : Rows.GlobJoinsCardSaid := globJoins.card
#print axioms globJoins_holds
end Go.Proofs.YtcmbkehhpfbhiaaDoor
