/- Proved: for every input the law ChainChanged (a link that is replaced is noticed, or two different texts have one digest) returns true and leaves its arguments as they read; the only condition is that the tables start and numbers of package digest hold what the program's own text lays in them, and the card ties that to the text. -/
import Derived.Test.YtielloijdkoeiaaDoorMc
import Derived.Test.YtielloijdkoeiaaDoorRv
import Derived.Test.YtielloijdkoeiaaDoorCards
import Derived.Test.YtielloijdkoeiaaDoorTie
import Derived.SevenTiedAt
namespace Go.Proofs.YtielloijdkoeiaaDoor
open Go.ChangeShapes Go.WideShapes Go.ChangeAt Go.RowKit
set_option maxRecDepth 100000

theorem changed_lifted (os : Os) (started : os.Started) (H : Type) (enc : TypeId × Value → H) :
    ReturnsInHanded {} Tryd.checked os 8 .any (fun w args => (Rows.chainChangedSpec.pre enc Tryd.prog Tryd.f8 [] false w args ∧ laidMetH Tryd.prog laidT w) ∧ sizedMet enc Tryd.prog Tryd.f8 (OpenSpec.ofChange Rows.chainChangedSpec) false w args)
      (Rows.chainChangedSpec.post enc Tryd.prog Tryd.f8 false true false false) := by
  refine returnsInHanded_of_change_and (C := Tryd.checked) (X := fun w _ => laidMetH Tryd.prog laidT w) (fun _ _ _ hh h => h.of_heap hh) ownK started (by kernel_rfl) Tryd.func8
    (ChangeSpec.witness_shaped (enc := enc) (C := Tryd.checked) (os := os) (X := fun w _ => laidMetH Tryd.prog laidT w) false (World.doorLaid Tryd.prog 19 os) #[.slice none 0 0, .int .u8 0, .agg (([.int .i64 0, .int .i64 0] ++ List.replicate 32 (.int .u8 0) ++ [.slice none 0 0] : List Value).toArray)] 8 rfl (World.shaped_of_RefB (by kernel_rfl) (by kernel_rfl)) (by kernel_rfl) (by kernel_rfl) (by kernel_rfl) (door_met os _)) ?_
  intro W base args ds gs before hval0 hW _ _ hL _
  have hval : ∀ (j : Nat) t v, Tryd.f8.params[j]? = some t → args[j]? = some v → Value.okWide Tryd.prog W .any base t v := hval0
  have hW' := hW
  obtain ⟨p, q, hA0, hV, rfl, hfz, hnd⟩ := hW
  have hA : DataW.TrodAll enc Tryd.prog W 0 (fun _ => true) true Tryd.f8.params.toList args.toList ds p := hA0
  rw [Tryd.params8] at hA hval
  obtain ⟨v0, v1, v2, d0, d1, d2, p0, p1, p2, rfl, rfl, rfl, h0, h1, h2⟩ := trodAll_three hA
  obtain ⟨rfl, rfl⟩ := trodVars_none hV
  obtain ⟨a0, c0, x0, rfl, hx0⟩ := open_links (hval 0 42 v0 rfl rfl) h0
  obtain ⟨x1, rfl⟩ := open_u8 (hval 1 5 v1 rfl rfl) h1
  obtain ⟨x2, rfl, hx2⟩ := open_lnk (hval 2 55 v2 rfl rfl) h2
  refine ((law_Changed a0 c0 x0 x1 x2 W (laid_of hL) hx0 hx2).run).mono fun e W' he => ?_
  obtain ⟨v, he, hv, hx⟩ := he
  subst hv
  exact ⟨_, he, post_true hW' rfl (by kernel_rfl) (by kernel_rfl) rfl hx⟩

theorem changed_holds : Rows.ChainChangedSaid :=
  OpenClaim.holds_of_wide 8 Tryd.f8 rfl rfl rfl rfl rfl rfl rfl ⟨rfl, rfl, rfl, rfl, rfl⟩ rfl rfl rfl rfl rfl (by kernel_rfl) Tryd.func8 (by kernel_rfl)
    (of_decide_eq_true (by kernel_rfl)) (by unfold Func.isWrapper; first | (rw [if_pos (by decide +kernel)]; kernel_rfl) | (rw [if_neg (by decide +kernel)]; exact ⟨rfl, rfl⟩))
    (fun os started H enc _ => changed_lifted os started H enc)

theorem changed_card : Rows.ChainChangedCardSaid :=
  Claim7.holds_tied_plain_at .later [] [.data, .data] true (true, "dbb11fbf9890d568f4124722388ab589a4d09bd4506f302f29b3a7bcfe4dbaea") false
    changed_holds (fun _ h => by cases h) (by kernel_rfl) (fun _ h => by cases h) chainChanged_row_tie rfl ⟨rfl, rfl⟩ (by kernel_rfl) rfl
    (fun f fn hf hfn => by
      obtain rfl : f = 8 := Option.some.inj ((show Tryd.prog.funcNamed "signatory/signatorylaw08.ChainChanged" = some 8 by kernel_rfl).symm.trans hf) |>.symm
      obtain rfl : fn = Tryd.f8 := (Option.some.inj (Tryd.func8.symm.trans hfn)).symm
      exact ⟨by kernel_rfl, fun j t ht => by
        rw [Tryd.params8] at ht
        have hm : t ∈ [42, 5, 55] := by simpa using Array.mem_of_getElem? ht
        have hall : ([42, 5, 55].all fun u => !Tryd.prog.wantsStandIn u) = true := by kernel_rfl
        exact (show Tryd.prog.wantsStandIn t = false by simpa using List.all_eq_true.1 hall t hm)⟩)
    (by kernel_rfl)
#print axioms changed_card
end Go.Proofs.YtielloijdkoeiaaDoor
