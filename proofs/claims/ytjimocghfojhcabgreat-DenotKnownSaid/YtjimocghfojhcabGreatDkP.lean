/- The statement: the call returns true, whatever the world, and what was there reads as it did. Without conditions. -/
import Derived.Test.YtjimocghfojhcabGreatRows
import Derived.WalkKit
import Derived.ProofKit
import Derived.OpenShut
import Derived.Test.YtjimocghfojhcabGreatDkC1
import Derived.Test.YtjimocghfojhcabGreatDkC2
import Derived.Test.YtjimocghfojhcabGreatDkC3
import Derived.Test.YtjimocghfojhcabGreatDkC4
import Derived.Test.YtjimocghfojhcabGreatDkR1
import Derived.Test.YtjimocghfojhcabGreatDkR2
import Derived.Test.YtjimocghfojhcabGreatDkR3
import Derived.Test.YtjimocghfojhcabGreatDkR4
import Derived.Test.YtjimocghfojhcabGreatDkR5
import Derived.Test.YtjimocghfojhcabGreatDkR6
namespace Go.Eng
set_option maxRecDepth 100000
set_option linter.unusedVariables false
set_option linter.unusedSimpArgs false
open Go.Proofs
theorem Dgood : Tr.Good (fun f F => compFunc Tryz.prog f = some F) Dtab id :=
  ⟨trivial, ⟨trivial, ⟨trivial, ⟨Dc7, ⟨trivial, ⟨trivial, ⟨Dc63, ⟨trivial, ⟨Dc255, trivial, trivial⟩, trivial⟩, trivial⟩, ⟨trivial, ⟨Dc159, trivial, trivial⟩, ⟨Dc223, trivial, trivial⟩⟩⟩, ⟨trivial, ⟨trivial, ⟨Dc143, ⟨Dc271, trivial, trivial⟩, trivial⟩, ⟨Dc207, trivial, trivial⟩⟩, ⟨trivial, ⟨Dc175, trivial, trivial⟩, ⟨Dc239, trivial, trivial⟩⟩⟩⟩, ⟨Dc23, ⟨trivial, ⟨trivial, ⟨Dc135, ⟨Dc263, trivial, trivial⟩, trivial⟩, trivial⟩, ⟨trivial, ⟨Dc167, trivial, trivial⟩, ⟨Dc231, trivial, trivial⟩⟩⟩, ⟨Dc55, ⟨Dc87, ⟨Dc151, ⟨Dc279, trivial, trivial⟩, trivial⟩, ⟨Dc215, trivial, trivial⟩⟩, ⟨Dc119, ⟨Dc183, trivial, trivial⟩, ⟨Dc247, trivial, trivial⟩⟩⟩⟩⟩, ⟨trivial, ⟨trivial, ⟨trivial, trivial, ⟨Dc99, ⟨Dc163, trivial, trivial⟩, ⟨Dc227, trivial, trivial⟩⟩⟩, ⟨Dc51, ⟨trivial, ⟨Dc147, ⟨Dc275, trivial, trivial⟩, trivial⟩, ⟨Dc211, trivial, trivial⟩⟩, ⟨Dc115, ⟨Dc179, trivial, trivial⟩, ⟨Dc243, trivial, trivial⟩⟩⟩⟩, ⟨Dc27, ⟨trivial, ⟨Dc75, ⟨Dc139, ⟨Dc267, trivial, trivial⟩, trivial⟩, trivial⟩, ⟨Dc107, trivial, trivial⟩⟩, ⟨Dc59, ⟨Dc91, ⟨Dc155, trivial, trivial⟩, ⟨Dc219, trivial, trivial⟩⟩, ⟨Dc123, ⟨Dc187, trivial, trivial⟩, ⟨Dc251, trivial, trivial⟩⟩⟩⟩⟩⟩, ⟨trivial, ⟨trivial, ⟨trivial, ⟨Dc33, ⟨Dc65, trivial, trivial⟩, ⟨trivial, ⟨Dc161, trivial, trivial⟩, ⟨Dc225, trivial, trivial⟩⟩⟩, ⟨Dc49, ⟨Dc81, ⟨Dc145, ⟨Dc273, trivial, trivial⟩, trivial⟩, ⟨Dc209, trivial, trivial⟩⟩, ⟨trivial, ⟨Dc177, trivial, trivial⟩, ⟨Dc241, trivial, trivial⟩⟩⟩⟩, ⟨Dc25, ⟨Dc41, ⟨trivial, ⟨Dc137, ⟨Dc265, trivial, trivial⟩, trivial⟩, trivial⟩, ⟨Dc105, ⟨Dc169, trivial, trivial⟩, trivial⟩⟩, ⟨trivial, ⟨Dc89, ⟨Dc153, trivial, trivial⟩, ⟨Dc217, trivial, trivial⟩⟩, ⟨Dc121, ⟨Dc185, trivial, trivial⟩, ⟨Dc249, trivial, trivial⟩⟩⟩⟩⟩, ⟨trivial, ⟨trivial, ⟨Dc37, ⟨trivial, ⟨Dc133, trivial, trivial⟩, trivial⟩, ⟨Dc101, ⟨Dc165, trivial, trivial⟩, ⟨Dc229, trivial, trivial⟩⟩⟩, ⟨trivial, ⟨Dc85, ⟨Dc149, ⟨Dc277, trivial, trivial⟩, trivial⟩, ⟨Dc213, trivial, trivial⟩⟩, ⟨Dc117, ⟨Dc181, trivial, trivial⟩, ⟨Dc245, trivial, trivial⟩⟩⟩⟩, ⟨trivial, ⟨Dc45, ⟨Dc77, ⟨Dc141, ⟨Dc269, trivial, trivial⟩, trivial⟩, trivial⟩, ⟨Dc109, ⟨Dc173, trivial, trivial⟩, trivial⟩⟩, ⟨Dc61, ⟨Dc93, ⟨Dc157, trivial, trivial⟩, ⟨Dc221, trivial, trivial⟩⟩, ⟨trivial, ⟨Dc189, trivial, trivial⟩, ⟨Dc253, trivial, trivial⟩⟩⟩⟩⟩⟩⟩, ⟨trivial, ⟨trivial, ⟨trivial, ⟨trivial, ⟨Dc32, ⟨Dc64, ⟨trivial, ⟨Dc256, trivial, trivial⟩, trivial⟩, trivial⟩, ⟨trivial, ⟨Dc160, trivial, trivial⟩, ⟨Dc224, trivial, trivial⟩⟩⟩, ⟨Dc48, ⟨Dc80, ⟨Dc144, ⟨Dc272, trivial, trivial⟩, trivial⟩, ⟨Dc208, trivial, trivial⟩⟩, ⟨trivial, ⟨Dc176, trivial, trivial⟩, ⟨Dc240, trivial, trivial⟩⟩⟩⟩, ⟨trivial, ⟨trivial, ⟨trivial, ⟨Dc136, ⟨Dc264, trivial, trivial⟩, trivial⟩, trivial⟩, ⟨Dc104, trivial, ⟨Dc232, trivial, trivial⟩⟩⟩, ⟨trivial, ⟨Dc88, ⟨Dc152, trivial, trivial⟩, trivial⟩, ⟨Dc120, trivial, ⟨Dc248, trivial, trivial⟩⟩⟩⟩⟩, ⟨trivial, ⟨trivial, ⟨trivial, trivial, ⟨trivial, ⟨Dc164, trivial, trivial⟩, ⟨Dc228, trivial, trivial⟩⟩⟩, ⟨trivial, ⟨trivial, ⟨Dc148, ⟨Dc276, trivial, trivial⟩, trivial⟩, ⟨Dc212, trivial, trivial⟩⟩, ⟨Dc116, ⟨Dc180, trivial, trivial⟩, ⟨Dc244, trivial, trivial⟩⟩⟩⟩, ⟨trivial, ⟨trivial, ⟨Dc76, ⟨Dc140, ⟨Dc268, trivial, trivial⟩, trivial⟩, trivial⟩, ⟨Dc108, trivial, trivial⟩⟩, ⟨Dc60, ⟨Dc92, ⟨Dc156, trivial, trivial⟩, ⟨Dc220, trivial, trivial⟩⟩, ⟨Dc124, ⟨Dc188, trivial, trivial⟩, ⟨Dc252, trivial, trivial⟩⟩⟩⟩⟩⟩, ⟨trivial, ⟨trivial, ⟨trivial, ⟨Dc34, ⟨Dc66, trivial, trivial⟩, ⟨trivial, ⟨Dc162, trivial, trivial⟩, ⟨Dc226, trivial, trivial⟩⟩⟩, ⟨Dc50, ⟨trivial, ⟨Dc146, ⟨Dc274, trivial, trivial⟩, trivial⟩, ⟨Dc210, trivial, trivial⟩⟩, ⟨Dc114, ⟨Dc178, trivial, trivial⟩, trivial⟩⟩⟩, ⟨trivial, ⟨trivial, ⟨Dc74, ⟨Dc138, trivial, trivial⟩, trivial⟩, ⟨Dc106, trivial, trivial⟩⟩, ⟨trivial, ⟨Dc90, ⟨Dc154, trivial, trivial⟩, ⟨Dc218, trivial, trivial⟩⟩, ⟨Dc122, ⟨Dc186, trivial, trivial⟩, ⟨Dc250, trivial, trivial⟩⟩⟩⟩⟩, ⟨trivial, ⟨trivial, ⟨trivial, ⟨trivial, ⟨Dc134, trivial, trivial⟩, trivial⟩, ⟨Dc102, ⟨Dc166, trivial, trivial⟩, ⟨Dc230, trivial, trivial⟩⟩⟩, ⟨trivial, ⟨Dc86, ⟨Dc150, ⟨Dc278, trivial, trivial⟩, trivial⟩, ⟨Dc214, trivial, trivial⟩⟩, ⟨Dc118, ⟨Dc182, trivial, trivial⟩, ⟨Dc246, trivial, trivial⟩⟩⟩⟩, ⟨Dc30, ⟨Dc46, ⟨Dc78, ⟨Dc142, ⟨Dc270, trivial, trivial⟩, trivial⟩, trivial⟩, ⟨Dc110, ⟨Dc174, trivial, trivial⟩, trivial⟩⟩, ⟨Dc62, ⟨Dc94, ⟨Dc158, trivial, trivial⟩, ⟨Dc222, trivial, trivial⟩⟩, ⟨trivial, ⟨Dc190, trivial, trivial⟩, ⟨Dc254, trivial, trivial⟩⟩⟩⟩⟩⟩⟩⟩
theorem DhAP : ∀ f F, Dtab.get f = some F → compFunc Tryz.prog f = some F := fun _ _ h => Dgood.get h
theorem DwhS : ∀ f v, DwT.get f = some v → Sum Tryz.prog f v := fun f v h => nomatch h
theorem Dwrest6_0 : Rest Tryz.prog DF25.res DF25.body 6 DwS6_0 := Rest.lastF Dhm DhAP DwhS Dwrun6_0
theorem Dwrest5_0 : Rest Tryz.prog DF25.res DF25.body 5 DwS5_0 := Rest.partF Dhm DhAP DwhS rfl Dwrun5_0 rfl (forall_cons Dwrest6_0 forall_nil)
theorem Dwrest4_0 : Rest Tryz.prog DF25.res DF25.body 4 DwS4_0 := Rest.partF Dhm DhAP DwhS rfl Dwrun4_0 rfl (forall_cons Dwrest5_0 forall_nil)
theorem Dwrest3_0 : Rest Tryz.prog DF25.res DF25.body 3 DwS3_0 := Rest.partF Dhm DhAP DwhS rfl Dwrun3_0 rfl (forall_cons Dwrest4_0 (forall_cons Dwrest4_0 (forall_cons Dwrest4_0 (forall_cons Dwrest4_0 forall_nil))))
theorem Dwrest2_0 : Rest Tryz.prog DF25.res DF25.body 2 DwS2_0 := Rest.partF Dhm DhAP DwhS rfl Dwrun2_0 rfl (forall_cons Dwrest3_0 (forall_cons Dwrest3_0 (forall_cons Dwrest3_0 (forall_cons Dwrest3_0 forall_nil))))
theorem Dwrest1_0 : Rest Tryz.prog DF25.res DF25.body 1 DwS1_0 := Rest.partF Dhm DhAP DwhS rfl Dwrun1_0 rfl (forall_cons Dwrest2_0 forall_nil)
theorem Dwrest0_0 : Rest Tryz.prog DF25.res DF25.body 0 DwS0_0 := Rest.partF Dhm DhAP DwhS rfl Dwrun0_0 rfl (forall_cons Dwrest1_0 forall_nil)
theorem Dwsum : Sum Tryz.prog 25 (.bool true) := Rest.sum Dc25 rfl Dwrest0_0
theorem DkhS : ∀ f v, DkT.get f = some v → Sum Tryz.prog f v := fun f v h => Tr.Good.get (p := fun f v => Sum Tryz.prog f v) (k := id) (show Tr.Good _ DkT id from ⟨trivial, ⟨trivial, trivial, ⟨trivial, ⟨trivial, trivial, ⟨Dwsum, trivial, trivial⟩⟩, trivial⟩⟩, trivial⟩) h
theorem Dkrest23_0 : Rest Tryz.prog DF7.res DF7.body 23 DkS23_0 := Rest.lastF Dhm DhAP DkhS Dkrun23_0
theorem Dkrest22_0 : Rest Tryz.prog DF7.res DF7.body 22 DkS22_0 := Rest.partF Dhm DhAP DkhS rfl Dkrun22_0 rfl (forall_cons Dkrest23_0 forall_nil)
theorem Dkrest21_0 : Rest Tryz.prog DF7.res DF7.body 21 DkS21_0 := Rest.partF Dhm DhAP DkhS rfl Dkrun21_0 rfl (forall_cons Dkrest22_0 forall_nil)
theorem Dkrest20_0 : Rest Tryz.prog DF7.res DF7.body 20 DkS20_0 := Rest.partF Dhm DhAP DkhS rfl Dkrun20_0 rfl (forall_cons Dkrest21_0 forall_nil)
theorem Dkrest19_0 : Rest Tryz.prog DF7.res DF7.body 19 DkS19_0 := Rest.partF Dhm DhAP DkhS rfl Dkrun19_0 rfl (forall_cons Dkrest20_0 forall_nil)
theorem Dkrest18_0 : Rest Tryz.prog DF7.res DF7.body 18 DkS18_0 := Rest.partF Dhm DhAP DkhS rfl Dkrun18_0 rfl (forall_cons Dkrest19_0 forall_nil)
theorem Dkrest17_0 : Rest Tryz.prog DF7.res DF7.body 17 DkS17_0 := Rest.partF Dhm DhAP DkhS rfl Dkrun17_0 rfl (forall_cons Dkrest18_0 (forall_cons Dkrest18_0 (forall_cons Dkrest18_0 (forall_cons Dkrest18_0 (forall_cons Dkrest18_0 (forall_cons Dkrest18_0 (forall_cons Dkrest18_0 (forall_cons Dkrest18_0 (forall_cons Dkrest18_0 (forall_cons Dkrest18_0 (forall_cons Dkrest18_0 (forall_cons Dkrest18_0 forall_nil))))))))))))
theorem Dkrest16_0 : Rest Tryz.prog DF7.res DF7.body 16 DkS16_0 := Rest.partF Dhm DhAP DkhS rfl Dkrun16_0 rfl (forall_cons Dkrest17_0 forall_nil)
theorem Dkrest15_0 : Rest Tryz.prog DF7.res DF7.body 15 DkS15_0 := Rest.partF Dhm DhAP DkhS rfl Dkrun15_0 rfl (forall_cons Dkrest16_0 (forall_cons Dkrest16_0 (forall_cons Dkrest16_0 (forall_cons Dkrest16_0 (forall_cons Dkrest16_0 (forall_cons Dkrest16_0 (forall_cons Dkrest16_0 (forall_cons Dkrest16_0 (forall_cons Dkrest16_0 (forall_cons Dkrest16_0 (forall_cons Dkrest16_0 (forall_cons Dkrest16_0 forall_nil))))))))))))
theorem Dkrest14_0 : Rest Tryz.prog DF7.res DF7.body 14 DkS14_0 := Rest.partF Dhm DhAP DkhS rfl Dkrun14_0 rfl (forall_cons Dkrest15_0 forall_nil)
theorem Dkrest13_0 : Rest Tryz.prog DF7.res DF7.body 13 DkS13_0 := Rest.partF Dhm DhAP DkhS rfl Dkrun13_0 rfl (forall_cons Dkrest14_0 (forall_cons Dkrest14_0 (forall_cons Dkrest14_0 (forall_cons Dkrest14_0 (forall_cons Dkrest14_0 (forall_cons Dkrest14_0 (forall_cons Dkrest14_0 (forall_cons Dkrest14_0 (forall_cons Dkrest14_0 (forall_cons Dkrest14_0 (forall_cons Dkrest14_0 (forall_cons Dkrest14_0 forall_nil))))))))))))
theorem Dkrest12_0 : Rest Tryz.prog DF7.res DF7.body 12 DkS12_0 := Rest.partF Dhm DhAP DkhS rfl Dkrun12_0 rfl (forall_cons Dkrest13_0 forall_nil)
theorem Dkrest11_0 : Rest Tryz.prog DF7.res DF7.body 11 DkS11_0 := Rest.partF Dhm DhAP DkhS rfl Dkrun11_0 rfl (forall_cons Dkrest12_0 forall_nil)
theorem Dkrest10_0 : Rest Tryz.prog DF7.res DF7.body 10 DkS10_0 := Rest.partF Dhm DhAP DkhS rfl Dkrun10_0 rfl (forall_cons Dkrest11_0 forall_nil)
theorem Dkrest9_0 : Rest Tryz.prog DF7.res DF7.body 9 DkS9_0 := Rest.partF Dhm DhAP DkhS rfl Dkrun9_0 rfl (forall_cons Dkrest10_0 forall_nil)
theorem Dkrest8_0 : Rest Tryz.prog DF7.res DF7.body 8 DkS8_0 := Rest.partF Dhm DhAP DkhS rfl Dkrun8_0 rfl (forall_cons Dkrest9_0 forall_nil)
theorem Dkrest7_0 : Rest Tryz.prog DF7.res DF7.body 7 DkS7_0 := Rest.partF Dhm DhAP DkhS rfl Dkrun7_0 rfl (forall_cons Dkrest8_0 forall_nil)
theorem Dkrest6_0 : Rest Tryz.prog DF7.res DF7.body 6 DkS6_0 := Rest.partF Dhm DhAP DkhS rfl Dkrun6_0 rfl (forall_cons Dkrest7_0 forall_nil)
theorem Dkrest5_0 : Rest Tryz.prog DF7.res DF7.body 5 DkS5_0 := Rest.partF Dhm DhAP DkhS rfl Dkrun5_0 rfl (forall_cons Dkrest6_0 forall_nil)
theorem Dkrest4_0 : Rest Tryz.prog DF7.res DF7.body 4 DkS4_0 := Rest.partF Dhm DhAP DkhS rfl Dkrun4_0 rfl (forall_cons Dkrest5_0 forall_nil)
theorem Dkrest3_0 : Rest Tryz.prog DF7.res DF7.body 3 DkS3_0 := Rest.partF Dhm DhAP DkhS rfl Dkrun3_0 rfl (forall_cons Dkrest4_0 forall_nil)
theorem Dkrest2_0 : Rest Tryz.prog DF7.res DF7.body 2 DkS2_0 := Rest.partF Dhm DhAP DkhS rfl Dkrun2_0 rfl (forall_cons Dkrest3_0 forall_nil)
theorem Dkrest1_0 : Rest Tryz.prog DF7.res DF7.body 1 DkS1_0 := Rest.partF Dhm DhAP DkhS rfl Dkrun1_0 rfl (forall_cons Dkrest2_0 forall_nil)
theorem Dkrest0_0 : Rest Tryz.prog DF7.res DF7.body 0 DkS0_0 := Rest.partF Dhm DhAP DkhS rfl Dkrun0_0 rfl (forall_cons Dkrest1_0 forall_nil)
theorem Dksum : Sum Tryz.prog 7 (.bool true) := Rest.sum Dc7 rfl Dkrest0_0
end Go.Eng
namespace Go.Proofs.YtjimocghfojhcabGreat.denotKnown
open Go.ChangeShapes Go.WideShapes Go.ChangeAt Go.RowKit
set_option linter.unusedVariables false      -- a walk need not use every 'w<i>' (that an integer argument fits its kind)

theorem own : ownKnob Tryz.prog.godebug = none := by kernel_rfl

theorem walk  (w : World) :
    Calls Tryz.prog 7 #[] w fun e w' => e = .returned (.bool true) ∧ Grown w w' :=
  Go.Eng.Sum.calls Go.Eng.Dksum w

set_option maxRecDepth 100000 in
theorem lifted (os : Os) (started : os.Started) (H : Type) (enc : TypeId × Value → H) :
    ReturnsInHanded {} Tryz.checked os 7 .any (Rows.denotKnownSpec.pre6 enc Tryz.prog Tryz.f7 Rows.denotKnownRow.domain false) (Rows.denotKnownSpec.post enc Tryz.prog Tryz.f7 false true false false) := by
  refine returnsInHanded_of_change (C := Tryz.checked) own started (by kernel_rfl) Tryz.func7
    (ChangeSpec.witness6 (enc := enc) (C := Tryz.checked) false ⟨#[], #[], []⟩ 8 (by kernel_rfl) (by kernel_rfl) (by kernel_rfl) (by kernel_rfl)) ?_
  intro W base args ds gs before hval0 hW hcnd _
  have hval : ∀ (j : Nat) t v, Tryz.f7.params[j]? = some t → args[j]? = some v → Value.okWide Tryz.prog W .any base t v := hval0
  have hW' := hW
  obtain ⟨p, q, hA0, hV, rfl, hfz, hnd⟩ := hW
  have hA : DataW.TrodAll enc Tryz.prog W 0 (fun _ => true) true Tryz.f7.params.toList args.toList ds p := hA0
  rw [Tryz.params7] at hA hval
  obtain ⟨rfl, rfl, rfl⟩ := trodAll_none hA
  obtain ⟨rfl, rfl⟩ := trodVars_none hV
  clear hA0 hval0
  simp only [List.append_nil] at hW'
  refine (walk  W).mono fun e W' ⟨he, hg⟩ => ?_
  subst he
  exact ⟨_, rfl, post_of_same (pa := []) (pv := []) hW' (fun _ _ _ => (trodAll_cons_mk (shut_bool Tryz.underlying4 _) trodAll_mk0)) (fun sp _ => rfl) (fun _ _ => rfl) rfl
    (hg.frame _) hg.2.1 (ok_one (by kernel_rfl) rfl (okWide_bool_mk Tryz.underlying4 _))⟩

theorem over : Rows.denotKnownRow.holds Tryz.pinned (OpenSpec.ofChange Rows.denotKnownSpec) :=
  OpenClaim.holds_of_wide 7 Tryz.f7 rfl rfl rfl rfl rfl rfl rfl ⟨rfl, rfl, rfl, rfl, rfl⟩ rfl rfl rfl rfl rfl (by kernel_rfl) Tryz.func7 (by kernel_rfl)
    (of_decide_eq_true (by kernel_rfl)) (by unfold Func.isWrapper; first | (rw [if_pos (by decide +kernel)]; kernel_rfl) | (rw [if_neg (by decide +kernel)]; exact ⟨rfl, rfl⟩))
    (fun os started H enc _ => lifted os started H enc)

theorem proved : Rows.DenotKnownSaid :=
  over
#print axioms proved
end Go.Proofs.YtjimocghfojhcabGreat.denotKnown
