/- The statement: the call returns true, whatever the world, and what was there reads as it did. Without conditions. -/
import Derived.Test.YtjimocghfojhcabGreatRows
import Derived.WalkKit
import Derived.ProofKit
import Derived.OpenShut
import Derived.Test.YtjimocghfojhcabGreatC1
import Derived.Test.YtjimocghfojhcabGreatC2
import Derived.Test.YtjimocghfojhcabGreatC3
import Derived.Test.YtjimocghfojhcabGreatC4
import Derived.Test.YtjimocghfojhcabGreatR1
import Derived.Test.YtjimocghfojhcabGreatR2
import Derived.Test.YtjimocghfojhcabGreatR3
namespace Go.Eng
open Go.Proofs
set_option linter.unusedSimpArgs false
set_option maxRecDepth 100000
theorem Bgood : Tr.Good (fun f F => compFunc Tryz.prog f = some F) Btab id :=
  ⟨trivial, ⟨trivial, ⟨Bc3, ⟨trivial, ⟨Bc15, ⟨trivial, trivial, ⟨Bc95, ⟨Bc159, trivial, trivial⟩, ⟨Bc223, trivial, trivial⟩⟩⟩, ⟨Bc47, ⟨Bc79, ⟨Bc143, trivial, trivial⟩, trivial⟩, ⟨Bc111, ⟨Bc175, trivial, trivial⟩, trivial⟩⟩⟩, ⟨trivial, ⟨Bc39, trivial, ⟨Bc103, ⟨Bc167, trivial, trivial⟩, trivial⟩⟩, ⟨Bc55, ⟨Bc87, ⟨Bc151, trivial, trivial⟩, ⟨Bc215, trivial, trivial⟩⟩, ⟨trivial, ⟨Bc183, trivial, trivial⟩, ⟨Bc247, trivial, trivial⟩⟩⟩⟩⟩, ⟨Bc11, ⟨Bc19, ⟨trivial, trivial, ⟨Bc99, ⟨Bc163, trivial, trivial⟩, ⟨Bc227, trivial, trivial⟩⟩⟩, ⟨Bc51, ⟨Bc83, ⟨Bc147, trivial, trivial⟩, ⟨Bc211, trivial, trivial⟩⟩, ⟨trivial, ⟨Bc179, trivial, trivial⟩, ⟨Bc243, trivial, trivial⟩⟩⟩⟩, ⟨trivial, ⟨Bc43, ⟨trivial, ⟨Bc139, trivial, trivial⟩, trivial⟩, ⟨Bc107, ⟨Bc171, trivial, trivial⟩, trivial⟩⟩, ⟨trivial, ⟨Bc91, ⟨Bc155, trivial, trivial⟩, ⟨Bc219, trivial, trivial⟩⟩, trivial⟩⟩⟩⟩, ⟨trivial, ⟨Bc9, ⟨Bc17, ⟨trivial, trivial, ⟨Bc97, ⟨Bc161, trivial, trivial⟩, ⟨Bc225, trivial, trivial⟩⟩⟩, ⟨Bc49, ⟨Bc81, ⟨Bc145, trivial, trivial⟩, ⟨Bc209, trivial, trivial⟩⟩, ⟨Bc113, ⟨Bc177, trivial, trivial⟩, ⟨Bc241, trivial, trivial⟩⟩⟩⟩, ⟨trivial, ⟨Bc41, ⟨trivial, ⟨Bc137, trivial, trivial⟩, trivial⟩, ⟨Bc105, ⟨Bc169, trivial, trivial⟩, trivial⟩⟩, ⟨Bc57, ⟨Bc89, ⟨Bc153, trivial, trivial⟩, ⟨Bc217, trivial, trivial⟩⟩, trivial⟩⟩⟩, ⟨Bc13, ⟨trivial, ⟨trivial, trivial, ⟨Bc101, ⟨Bc165, trivial, trivial⟩, ⟨Bc229, trivial, trivial⟩⟩⟩, ⟨Bc53, ⟨Bc85, ⟨Bc149, trivial, trivial⟩, ⟨Bc213, trivial, trivial⟩⟩, ⟨trivial, ⟨Bc181, trivial, trivial⟩, ⟨Bc245, trivial, trivial⟩⟩⟩⟩, ⟨trivial, ⟨Bc45, ⟨Bc77, ⟨Bc141, trivial, trivial⟩, trivial⟩, ⟨Bc109, ⟨Bc173, trivial, trivial⟩, trivial⟩⟩, ⟨trivial, ⟨Bc93, ⟨Bc157, trivial, trivial⟩, ⟨Bc221, trivial, trivial⟩⟩, trivial⟩⟩⟩⟩⟩, ⟨trivial, ⟨trivial, ⟨trivial, ⟨Bc16, ⟨trivial, trivial, ⟨Bc96, ⟨Bc160, trivial, trivial⟩, ⟨Bc224, trivial, trivial⟩⟩⟩, ⟨Bc48, ⟨Bc80, ⟨Bc144, trivial, trivial⟩, ⟨Bc208, trivial, trivial⟩⟩, ⟨Bc112, ⟨Bc176, trivial, trivial⟩, trivial⟩⟩⟩, ⟨trivial, ⟨Bc40, ⟨trivial, ⟨trivial, ⟨Bc264, trivial, trivial⟩, trivial⟩, trivial⟩, ⟨Bc104, ⟨Bc168, trivial, trivial⟩, trivial⟩⟩, ⟨Bc56, ⟨Bc88, ⟨Bc152, trivial, trivial⟩, ⟨Bc216, trivial, trivial⟩⟩, ⟨Bc120, ⟨Bc184, trivial, trivial⟩, ⟨Bc248, trivial, trivial⟩⟩⟩⟩⟩, ⟨Bc12, ⟨Bc20, ⟨trivial, trivial, ⟨Bc100, ⟨Bc164, trivial, trivial⟩, ⟨Bc228, trivial, trivial⟩⟩⟩, ⟨Bc52, ⟨Bc84, ⟨Bc148, trivial, trivial⟩, ⟨Bc212, trivial, trivial⟩⟩, ⟨trivial, ⟨Bc180, trivial, trivial⟩, ⟨Bc244, trivial, trivial⟩⟩⟩⟩, ⟨trivial, ⟨Bc44, ⟨Bc76, ⟨Bc140, trivial, trivial⟩, trivial⟩, ⟨Bc108, ⟨Bc172, trivial, trivial⟩, trivial⟩⟩, ⟨trivial, ⟨Bc92, ⟨Bc156, trivial, trivial⟩, ⟨Bc220, trivial, trivial⟩⟩, trivial⟩⟩⟩⟩, ⟨trivial, ⟨Bc10, ⟨Bc18, ⟨trivial, trivial, ⟨Bc98, ⟨Bc162, trivial, trivial⟩, ⟨Bc226, trivial, trivial⟩⟩⟩, ⟨Bc50, ⟨Bc82, ⟨Bc146, trivial, trivial⟩, ⟨Bc210, trivial, trivial⟩⟩, ⟨trivial, ⟨Bc178, trivial, trivial⟩, ⟨Bc242, trivial, trivial⟩⟩⟩⟩, ⟨trivial, ⟨Bc42, ⟨trivial, ⟨Bc138, trivial, trivial⟩, trivial⟩, ⟨Bc106, trivial, trivial⟩⟩, ⟨Bc58, ⟨Bc90, ⟨Bc154, trivial, trivial⟩, ⟨Bc218, trivial, trivial⟩⟩, trivial⟩⟩⟩, ⟨Bc14, ⟨Bc22, ⟨trivial, trivial, ⟨Bc102, ⟨Bc166, trivial, trivial⟩, trivial⟩⟩, ⟨Bc54, ⟨Bc86, ⟨Bc150, trivial, trivial⟩, ⟨Bc214, trivial, trivial⟩⟩, ⟨trivial, ⟨Bc182, trivial, trivial⟩, ⟨Bc246, trivial, trivial⟩⟩⟩⟩, ⟨trivial, ⟨Bc46, ⟨Bc78, ⟨Bc142, trivial, trivial⟩, trivial⟩, ⟨Bc110, ⟨Bc174, trivial, trivial⟩, trivial⟩⟩, ⟨trivial, ⟨Bc94, ⟨Bc158, trivial, trivial⟩, ⟨Bc222, trivial, trivial⟩⟩, trivial⟩⟩⟩⟩⟩⟩
theorem BhAP : ∀ f F, Btab.get f = some F → compFunc Tryz.prog f = some F := fun _ _ h => Bgood.get h
theorem Brest26 : Rest Tryz.prog BF3.res BF3.body 26 BS26 := Rest.stop Bhm BhAP (n := 399) Brun26
theorem Brest25 : Rest Tryz.prog BF3.res BF3.body 25 BS25 := Rest.link Bhm BhAP (n := 399) rfl Brun25 (by intro t ht; simp only [List.mem_cons, List.not_mem_nil, or_false, or_self] at ht; subst ht; exact Brest26)
theorem Brest24 : Rest Tryz.prog BF3.res BF3.body 24 BS24 := Rest.link Bhm BhAP (n := 399) rfl Brun24 (by intro t ht; simp only [List.mem_cons, List.not_mem_nil, or_false, or_self] at ht; subst ht; exact Brest25)
theorem Brest23 : Rest Tryz.prog BF3.res BF3.body 23 BS23 := Rest.link Bhm BhAP (n := 399) rfl Brun23 (by intro t ht; simp only [List.mem_cons, List.not_mem_nil, or_false, or_self] at ht; subst ht; exact Brest24)
theorem Brest22 : Rest Tryz.prog BF3.res BF3.body 22 BS22 := Rest.link Bhm BhAP (n := 399) rfl Brun22 (by intro t ht; simp only [List.mem_cons, List.not_mem_nil, or_false, or_self] at ht; subst ht; exact Brest23)
theorem Brest21 : Rest Tryz.prog BF3.res BF3.body 21 BS21 := Rest.link Bhm BhAP (n := 399) rfl Brun21 (by intro t ht; simp only [List.mem_cons, List.not_mem_nil, or_false, or_self] at ht; subst ht; exact Brest22)
theorem Brest20 : Rest Tryz.prog BF3.res BF3.body 20 BS20 := Rest.link Bhm BhAP (n := 399) rfl Brun20 (by intro t ht; simp only [List.mem_cons, List.not_mem_nil, or_false, or_self] at ht; subst ht; exact Brest21)
theorem Brest19 : Rest Tryz.prog BF3.res BF3.body 19 BS19 := Rest.link Bhm BhAP (n := 399) rfl Brun19 (by intro t ht; simp only [List.mem_cons, List.not_mem_nil, or_false, or_self] at ht; subst ht; exact Brest20)
theorem Brest18 : Rest Tryz.prog BF3.res BF3.body 18 BS18 := Rest.link Bhm BhAP (n := 399) rfl Brun18 (by intro t ht; simp only [List.mem_cons, List.not_mem_nil, or_false, or_self] at ht; subst ht; exact Brest19)
theorem Brest17 : Rest Tryz.prog BF3.res BF3.body 17 BS17 := Rest.link Bhm BhAP (n := 399) rfl Brun17 (by intro t ht; simp only [List.mem_cons, List.not_mem_nil, or_false, or_self] at ht; subst ht; exact Brest18)
theorem Brest16 : Rest Tryz.prog BF3.res BF3.body 16 BS16 := Rest.link Bhm BhAP (n := 399) rfl Brun16 (by intro t ht; simp only [List.mem_cons, List.not_mem_nil, or_false, or_self] at ht; subst ht; exact Brest17)
theorem Brest15 : Rest Tryz.prog BF3.res BF3.body 15 BS15 := Rest.link Bhm BhAP (n := 399) rfl Brun15 (by intro t ht; simp only [List.mem_cons, List.not_mem_nil, or_false, or_self] at ht; subst ht; exact Brest16)
theorem Brest14 : Rest Tryz.prog BF3.res BF3.body 14 BS14 := Rest.link Bhm BhAP (n := 399) rfl Brun14 (by intro t ht; simp only [List.mem_cons, List.not_mem_nil, or_false, or_self] at ht; subst ht; exact Brest15)
theorem Brest13 : Rest Tryz.prog BF3.res BF3.body 13 BS13 := Rest.link Bhm BhAP (n := 399) rfl Brun13 (by intro t ht; simp only [List.mem_cons, List.not_mem_nil, or_false, or_self] at ht; subst ht; exact Brest14)
theorem Brest12 : Rest Tryz.prog BF3.res BF3.body 12 BS12 := Rest.link Bhm BhAP (n := 399) rfl Brun12 (by intro t ht; simp only [List.mem_cons, List.not_mem_nil, or_false, or_self] at ht; subst ht; exact Brest13)
theorem Brest11 : Rest Tryz.prog BF3.res BF3.body 11 BS11 := Rest.link Bhm BhAP (n := 399) rfl Brun11 (by intro t ht; simp only [List.mem_cons, List.not_mem_nil, or_false, or_self] at ht; subst ht; exact Brest12)
theorem Brest10 : Rest Tryz.prog BF3.res BF3.body 10 BS10 := Rest.link Bhm BhAP (n := 399) rfl Brun10 (by intro t ht; simp only [List.mem_cons, List.not_mem_nil, or_false, or_self] at ht; subst ht; exact Brest11)
theorem Brest9 : Rest Tryz.prog BF3.res BF3.body 9 BS9 := Rest.link Bhm BhAP (n := 399) rfl Brun9 (by intro t ht; simp only [List.mem_cons, List.not_mem_nil, or_false, or_self] at ht; subst ht; exact Brest10)
theorem Brest8 : Rest Tryz.prog BF3.res BF3.body 8 BS8 := Rest.link Bhm BhAP (n := 399) rfl Brun8 (by intro t ht; simp only [List.mem_cons, List.not_mem_nil, or_false, or_self] at ht; subst ht; exact Brest9)
theorem Brest7 : Rest Tryz.prog BF3.res BF3.body 7 BS7 := Rest.link Bhm BhAP (n := 399) rfl Brun7 (by intro t ht; simp only [List.mem_cons, List.not_mem_nil, or_false, or_self] at ht; subst ht; exact Brest8)
theorem Brest6 : Rest Tryz.prog BF3.res BF3.body 6 BS6 := Rest.link Bhm BhAP (n := 399) rfl Brun6 (by intro t ht; simp only [List.mem_cons, List.not_mem_nil, or_false, or_self] at ht; subst ht; exact Brest7)
theorem Brest5 : Rest Tryz.prog BF3.res BF3.body 5 BS5 := Rest.link Bhm BhAP (n := 399) rfl Brun5 (by intro t ht; simp only [List.mem_cons, List.not_mem_nil, or_false, or_self] at ht; subst ht; exact Brest6)
theorem Brest4 : Rest Tryz.prog BF3.res BF3.body 4 BS4 := Rest.link Bhm BhAP (n := 399) rfl Brun4 (by intro t ht; simp only [List.mem_cons, List.not_mem_nil, or_false, or_self] at ht; subst ht; exact Brest5)
theorem Brest3 : Rest Tryz.prog BF3.res BF3.body 3 BS3 := Rest.link Bhm BhAP (n := 399) rfl Brun3 (by intro t ht; simp only [List.mem_cons, List.not_mem_nil, or_false, or_self] at ht; subst ht; exact Brest4)
theorem Brest2 : Rest Tryz.prog BF3.res BF3.body 2 BS2 := Rest.link Bhm BhAP (n := 399) rfl Brun2 (by intro t ht; simp only [List.mem_cons, List.not_mem_nil, or_false, or_self] at ht; subst ht; exact Brest3)
theorem Brest1 : Rest Tryz.prog BF3.res BF3.body 1 BS1 := Rest.link Bhm BhAP (n := 399) rfl Brun1 (by intro t ht; simp only [List.mem_cons, List.not_mem_nil, or_false, or_self] at ht; subst ht; exact Brest2)
theorem Brest0 : Rest Tryz.prog BF3.res BF3.body 0 BS0 := Rest.link Bhm BhAP (n := 399) rfl Brun0 (by intro t ht; simp only [List.mem_cons, List.not_mem_nil, or_false, or_self] at ht; subst ht; exact Brest1)
end Go.Eng
namespace Go.Proofs.YtjimocghfojhcabGreat.partKnown
open Go.ChangeShapes Go.WideShapes Go.ChangeAt Go.RowKit
set_option linter.unusedVariables false      -- a walk need not use every 'w<i>' (that an integer argument fits its kind)

theorem own : ownKnob Tryz.prog.godebug = none := by kernel_rfl

theorem walk  (w : World) :
    Calls Tryz.prog 3 #[] w fun e w' => e = .returned (.bool true) ∧ Grown w w' :=
  Go.Eng.calls_chain Go.Eng.Bc3 (Go.Eng.Brest0) w

set_option maxRecDepth 100000 in
theorem lifted (os : Os) (started : os.Started) (H : Type) (enc : TypeId × Value → H) :
    ReturnsInHanded {} Tryz.checked os 3 .any (Rows.partKnownSpec.pre6 enc Tryz.prog Tryz.f3 Rows.partKnownRow.domain false) (Rows.partKnownSpec.post enc Tryz.prog Tryz.f3 false true false false) := by
  refine returnsInHanded_of_change (C := Tryz.checked) own started (by kernel_rfl) Tryz.func3
    (ChangeSpec.witness6 (enc := enc) (C := Tryz.checked) false ⟨#[], #[], []⟩ 8 (by kernel_rfl) (by kernel_rfl) (by kernel_rfl) (by kernel_rfl)) ?_
  intro W base args ds gs before hval0 hW hcnd _
  have hval : ∀ (j : Nat) t v, Tryz.f3.params[j]? = some t → args[j]? = some v → Value.okWide Tryz.prog W .any base t v := hval0
  have hW' := hW
  obtain ⟨p, q, hA0, hV, rfl, hfz, hnd⟩ := hW
  have hA : DataW.TrodAll enc Tryz.prog W 0 (fun _ => true) true Tryz.f3.params.toList args.toList ds p := hA0
  rw [Tryz.params3] at hA hval
  obtain ⟨rfl, rfl, rfl⟩ := trodAll_none hA
  obtain ⟨rfl, rfl⟩ := trodVars_none hV
  clear hA0 hval0
  simp only [List.append_nil] at hW'
  refine (walk  W).mono fun e W' ⟨he, hg⟩ => ?_
  subst he
  exact ⟨_, rfl, post_of_same (pa := []) (pv := []) hW' (fun _ _ _ => (trodAll_cons_mk (shut_bool Tryz.underlying4 _) trodAll_mk0)) (fun sp _ => rfl) (fun _ _ => rfl) rfl
    (hg.frame _) hg.2.1 (ok_one (by kernel_rfl) rfl (okWide_bool_mk Tryz.underlying4 _))⟩

theorem over : Rows.partKnownRow.holds Tryz.pinned (OpenSpec.ofChange Rows.partKnownSpec) :=
  OpenClaim.holds_of_wide 3 Tryz.f3 rfl rfl rfl rfl rfl rfl rfl ⟨rfl, rfl, rfl, rfl, rfl⟩ rfl rfl rfl rfl rfl (by kernel_rfl) Tryz.func3 (by kernel_rfl)
    (of_decide_eq_true (by kernel_rfl)) (by unfold Func.isWrapper; first | (rw [if_pos (by decide +kernel)]; kernel_rfl) | (rw [if_neg (by decide +kernel)]; exact ⟨rfl, rfl⟩))
    (fun os started H enc _ => lifted os started H enc)

theorem proved : Rows.PartKnownSaid :=
  over
#print axioms proved
end Go.Proofs.YtjimocghfojhcabGreat.partKnown
