/- Proved: for every input the law DuressTwo (two tags say nothing together) returns true and leaves its arguments as they read; the only condition is that the tables start and numbers of package digest hold what the program's own text lays in them, and the card ties that to the text. -/
import Derived.Test.YtielloijdkoeiaaDoorHd
import Derived.Test.YtielloijdkoeiaaDoorRu
import Derived.Test.YtielloijdkoeiaaDoorCards
import Derived.Test.YtielloijdkoeiaaDoorTie
import Derived.SevenTiedAt
namespace Go.Proofs.YtielloijdkoeiaaDoor
open Go.ChangeShapes Go.WideShapes Go.ChangeAt Go.RowKit
set_option maxRecDepth 100000

theorem two_lifted (os : Os) (started : os.Started) (H : Type) (enc : TypeId × Value → H) :
    ReturnsInHanded {} Tryd.checked os 4 .any (fun w args => (Rows.duressTwoSpec.pre enc Tryd.prog Tryd.f4 [] false w args ∧ laidMetH Tryd.prog laidT w) ∧ sizedMet enc Tryd.prog Tryd.f4 (OpenSpec.ofChange Rows.duressTwoSpec) false w args)
      (Rows.duressTwoSpec.post enc Tryd.prog Tryd.f4 false true false false) := by
  refine returnsInHanded_of_change_and (C := Tryd.checked) (X := fun w _ => laidMetH Tryd.prog laidT w) (fun _ _ _ hh h => h.of_heap hh) ownK started (by kernel_rfl) Tryd.func4
    (ChangeSpec.witness_shaped (enc := enc) (C := Tryd.checked) (os := os) (X := fun w _ => laidMetH Tryd.prog laidT w) false (World.doorLaid Tryd.prog 19 os) #[.agg #[.int .i64 0, .int .i64 0], .agg #[.int .i64 0, .int .i64 0], .agg #[.int .i64 0, .int .i64 0], .int .i64 0, .agg #[.bool false, .bool false], .int .i64 0] 8 rfl (World.shaped_of_RefB (by kernel_rfl) (by kernel_rfl)) (by kernel_rfl) (by kernel_rfl) (by kernel_rfl) (door_met os _)) ?_
  intro W base args ds gs before hval0 hW _ _ hL _
  have hval : ∀ (j : Nat) t v, Tryd.f4.params[j]? = some t → args[j]? = some v → Value.okWide Tryd.prog W .any base t v := hval0
  have hW' := hW
  obtain ⟨p, q, hA0, hV, rfl, hfz, hnd⟩ := hW
  have hA : DataW.TrodAll enc Tryd.prog W 0 (fun _ => true) true Tryd.f4.params.toList args.toList ds p := hA0
  rw [Tryd.params4] at hA hval
  obtain ⟨v0, v1, v2, v3, v4, v5, d0, d1, d2, d3, d4, d5, p0, p1, p2, p3, p4, p5, rfl, rfl, rfl, h0, h1, h2, h3, h4, h5⟩ := trodAll_six hA
  obtain ⟨rfl, rfl⟩ := trodVars_none hV
  obtain ⟨x0, y0, rfl, wx0, wy0⟩ := open_ints2 (hval 0 34 v0 rfl rfl) h0
  obtain ⟨x1, y1, rfl, wx1, wy1⟩ := open_ints2 (hval 1 34 v1 rfl rfl) h1
  obtain ⟨x2, y2, rfl, wx2, wy2⟩ := open_ints2 (hval 2 34 v2 rfl rfl) h2
  obtain ⟨x3, rfl, wx3⟩ := open_i64 (hval 3 3 v3 rfl rfl) h3
  obtain ⟨x4, y4, rfl⟩ := open_bools2 (hval 4 35 v4 rfl rfl) h4
  obtain ⟨x5, rfl, wx5⟩ := open_i64 (hval 5 3 v5 rfl rfl) h5
  refine ((law_Two x0 y0 x1 y1 x2 y2 x3 x4 y4 x5 W (laid_of hL)).run).mono fun e W' he => ?_
  obtain ⟨v, he, hv, hx⟩ := he
  subst hv
  exact ⟨_, he, post_true hW' rfl (by kernel_rfl) (by kernel_rfl) rfl hx⟩

theorem two_holds : Rows.DuressTwoSaid :=
  OpenClaim.holds_of_wide 4 Tryd.f4 rfl rfl rfl rfl rfl rfl rfl ⟨rfl, rfl, rfl, rfl, rfl⟩ rfl rfl rfl rfl rfl (by kernel_rfl) Tryd.func4 (by kernel_rfl)
    (of_decide_eq_true (by kernel_rfl)) (by unfold Func.isWrapper; first | (rw [if_pos (by decide +kernel)]; kernel_rfl) | (rw [if_neg (by decide +kernel)]; exact ⟨rfl, rfl⟩))
    (fun os started H enc _ => two_lifted os started H enc)

theorem two_card : Rows.DuressTwoCardSaid :=
  Claim7.holds_tied_plain_at .later [] [.data, .data] true (true, "dbb11fbf9890d568f4124722388ab589a4d09bd4506f302f29b3a7bcfe4dbaea") false
    two_holds (fun _ h => by cases h) (by kernel_rfl) (fun _ h => by cases h) duressTwo_row_tie rfl ⟨rfl, rfl⟩ (by kernel_rfl) rfl
    (fun f fn hf hfn => by
      obtain rfl : f = 4 := Option.some.inj ((show Tryd.prog.funcNamed "signatory/signatorylaw47.DuressTwo" = some 4 by kernel_rfl).symm.trans hf) |>.symm
      obtain rfl : fn = Tryd.f4 := (Option.some.inj (Tryd.func4.symm.trans hfn)).symm
      exact ⟨by kernel_rfl, fun j t ht => by
        rw [Tryd.params4] at ht
        have hm : t ∈ [34, 34, 34, 3, 35, 3] := by simpa using Array.mem_of_getElem? ht
        have hall : ([34, 34, 34, 3, 35, 3].all fun u => !Tryd.prog.wantsStandIn u) = true := by kernel_rfl
        exact (show Tryd.prog.wantsStandIn t = false by simpa using List.all_eq_true.1 hall t hm)⟩)
    (by kernel_rfl)
#print axioms two_card
end Go.Proofs.YtielloijdkoeiaaDoor
