/- Proved: for every input the law ChainAddSpec (Add and Part match the specification) returns true and leaves its arguments as they read; the only condition is that the tables start and numbers of package digest hold what the program's own text lays in them, and the card ties that to the text. -/
import Derived.Test.YtielloijdkoeiaaDoorMe
import Derived.Test.YtielloijdkoeiaaDoorRv
import Derived.Test.YtielloijdkoeiaaDoorCards
import Derived.Test.YtielloijdkoeiaaDoorTie
import Derived.SevenTiedAt
namespace Go.Proofs.YtielloijdkoeiaaDoor
open Go.ChangeShapes Go.WideShapes Go.ChangeAt Go.RowKit
set_option maxRecDepth 100000

theorem addSpec_lifted (os : Os) (started : os.Started) (H : Type) (enc : TypeId × Value → H) :
    ReturnsInHanded {} Tryd.checked os 5 .any (fun w args => (Rows.chainAddSpecSpec.pre enc Tryd.prog Tryd.f5 [] false w args ∧ laidMetH Tryd.prog laidT w) ∧ sizedMet enc Tryd.prog Tryd.f5 (OpenSpec.ofChange Rows.chainAddSpecSpec) false w args)
      (Rows.chainAddSpecSpec.post enc Tryd.prog Tryd.f5 false true false false) := by
  refine returnsInHanded_of_change_and (C := Tryd.checked) (X := fun w _ => laidMetH Tryd.prog laidT w) (fun _ _ _ hh h => h.of_heap hh) ownK started (by kernel_rfl) Tryd.func5
    (ChangeSpec.witness_shaped (enc := enc) (C := Tryd.checked) (os := os) (X := fun w _ => laidMetH Tryd.prog laidT w) false (World.doorLaid Tryd.prog 19 os) #[.slice none 0 0, .slice none 0 0, .int .i64 0, .slice none 0 0] 8 rfl (World.shaped_of_RefB (by kernel_rfl) (by kernel_rfl)) (by kernel_rfl) (by kernel_rfl) (by kernel_rfl) (door_met os _)) ?_
  intro W base args ds gs before hval0 hW _ _ hL _
  have hval : ∀ (j : Nat) t v, Tryd.f5.params[j]? = some t → args[j]? = some v → Value.okWide Tryd.prog W .any base t v := hval0
  have hW' := hW
  obtain ⟨p, q, hA0, hV, rfl, hfz, hnd⟩ := hW
  have hA : DataW.TrodAll enc Tryd.prog W 0 (fun _ => true) true Tryd.f5.params.toList args.toList ds p := hA0
  rw [Tryd.params5] at hA hval
  obtain ⟨v0, v1, v2, v3, d0, d1, d2, d3, p0, p1, p2, p3, rfl, rfl, rfl, h0, h1, h2, h3⟩ := trodAll_four hA
  obtain ⟨rfl, rfl⟩ := trodVars_none hV
  obtain ⟨a0, c0, x0, rfl, hx0⟩ := open_links (hval 0 42 v0 rfl rfl) h0
  obtain ⟨a1, c1, x1, rfl, hx1⟩ := open_links (hval 1 42 v1 rfl rfl) h1
  obtain ⟨x2, rfl, wx2⟩ := open_i64 (hval 2 3 v2 rfl rfl) h2
  obtain ⟨a3, c3, x3, rfl, hx3⟩ := open_bytesA (hval 3 43 v3 rfl rfl) h3
  refine ((law_AddSpec a0 c0 x0 a1 c1 x1 x2 a3 c3 x3 W (laid_of hL) hx0 hx1 wx2 hx3).run).mono fun e W' he => ?_
  obtain ⟨v, he, hv, hx⟩ := he
  subst hv
  exact ⟨_, he, post_true hW' rfl (by kernel_rfl) (by kernel_rfl) rfl hx⟩

theorem addSpec_holds : Rows.ChainAddSpecSaid :=
  OpenClaim.holds_of_wide 5 Tryd.f5 rfl rfl rfl rfl rfl rfl rfl ⟨rfl, rfl, rfl, rfl, rfl⟩ rfl rfl rfl rfl rfl (by kernel_rfl) Tryd.func5 (by kernel_rfl)
    (of_decide_eq_true (by kernel_rfl)) (by unfold Func.isWrapper; first | (rw [if_pos (by decide +kernel)]; kernel_rfl) | (rw [if_neg (by decide +kernel)]; exact ⟨rfl, rfl⟩))
    (fun os started H enc _ => addSpec_lifted os started H enc)

theorem addSpec_card : Rows.ChainAddSpecCardSaid :=
  Claim7.holds_tied_plain_at .later [] [.data, .data] true (true, "dbb11fbf9890d568f4124722388ab589a4d09bd4506f302f29b3a7bcfe4dbaea") false
    addSpec_holds (fun _ h => by cases h) (by kernel_rfl) (fun _ h => by cases h) chainAddSpec_row_tie rfl ⟨rfl, rfl⟩ (by kernel_rfl) rfl
    (fun f fn hf hfn => by
      obtain rfl : f = 5 := Option.some.inj ((show Tryd.prog.funcNamed "signatory/signatorylaw08.ChainAddSpec" = some 5 by kernel_rfl).symm.trans hf) |>.symm
      obtain rfl : fn = Tryd.f5 := (Option.some.inj (Tryd.func5.symm.trans hfn)).symm
      exact ⟨by kernel_rfl, fun j t ht => by
        rw [Tryd.params5] at ht
        have hm : t ∈ [42, 42, 3, 43] := by simpa using Array.mem_of_getElem? ht
        have hall : ([42, 42, 3, 43].all fun u => !Tryd.prog.wantsStandIn u) = true := by kernel_rfl
        exact (show Tryd.prog.wantsStandIn t = false by simpa using List.all_eq_true.1 hall t hm)⟩)
    (by kernel_rfl)
#print axioms addSpec_card
end Go.Proofs.YtielloijdkoeiaaDoor
