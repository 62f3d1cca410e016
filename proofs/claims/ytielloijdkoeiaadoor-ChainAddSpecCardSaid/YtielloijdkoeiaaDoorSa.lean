/- The reference's digest: plain laws of words; ror, word, numbers. -/
import Derived.Test.YtielloijdkoeiaaDoorDe
import Derived.Test.YtielloijdkoeiaaDoorCa
namespace Go.Proofs.YtielloijdkoeiaaDoor
open Go Go.RowKit Go.Lib
set_option maxRecDepth 100000

/-! ### Words -/
theorem ror_eq (x : W32) (n : Nat) (h : n ≤ 32) : x >>> n ||| x <<< (32 - n) = rotV x (32 - n) := by
  unfold rotV
  rw [BitVec.or_comm, show 32 - (32 - n) = n by omega]
theorem ch_eq (e f g : W32) : e &&& f ^^^ ~~~e &&& g = g ^^^ e &&& (f ^^^ g) := by
  apply BitVec.eq_of_getLsbD_eq
  intro i hi
  simp only [BitVec.getLsbD_xor, BitVec.getLsbD_and, BitVec.getLsbD_not, hi, decide_true, Bool.true_and]
  cases e.getLsbD i <;> cases f.getLsbD i <;> cases g.getLsbD i <;> rfl
theorem mj_eq (a b c : W32) : a &&& b ^^^ a &&& c ^^^ b &&& c = a &&& b ||| c &&& (a ||| b) := by
  apply BitVec.eq_of_getLsbD_eq
  intro i _
  simp only [BitVec.getLsbD_xor, BitVec.getLsbD_and, BitVec.getLsbD_or]
  cases a.getLsbD i <;> cases b.getLsbD i <;> cases c.getLsbD i <;> rfl
theorem word_eq (a b c d : W32) : a <<< 24 ||| b <<< 16 ||| c <<< 8 ||| d = ((((0 : W32) <<< 8 ||| a) <<< 8 ||| b) <<< 8 ||| c) <<< 8 ||| d := by
  simp only [BitVec.shiftLeft_or_distrib, ← BitVec.shiftLeft_add]
  simp

theorem ref_ror (x : W32) (n : Nat) (h0 : 0 < n) (h : n < 32) (w : World) : Fn 97 [u32 x, .int .i64 (n : Int)] w (Quiet (u32 (rotV x (32 - n))) w) := by
  refine fn_of (args := [u32 x, .int .i64 (n : Int)]) Tryd.func97 rfl Tryd.ntmps97 rfl (Hp.start w) ?_
  have hs : (32 : Int) - (n : Int) = ((32 - n : Nat) : Int) := by omega
  rw [← ror_eq x n (by omega)]
  repeat (first
    | (apply ws; exact rfl; exact rfl; exact rfl)
    | refine wc_seq ?_
    | refine wc_region ?_
    | refine wl_nil ?_
    | refine we_round ?_
    | refine we_then_wc ?_
    | (apply wi64; exact rfl; omega; omega; exact rfl; exact rfl)
    | (apply wfa; exact rfl; exact rfl; exact rfl; exact rfl)
    | (apply wct; exact rfl; omega; exact rfl; exact rfl)
    | (apply wcf; exact rfl; omega; exact rfl; exact rfl)
    | (apply wn; exact rfl; exact rfl)
    | (apply wlb (j := 0); exact rfl; exact rfl; exact rfl; exact rfl; exact rfl; exact rfl)
    | (apply wlb (j := 1); exact rfl; exact rfl; exact rfl; exact rfl; exact rfl; exact rfl)
    | (apply wlb (j := 2); exact rfl; exact rfl; exact rfl; exact rfl; exact rfl; exact rfl)
    | (apply wlb (j := 3); exact rfl; exact rfl; exact rfl; exact rfl; exact rfl; exact rfl)
    | (apply wln; exact rfl; exact rfl; exact rfl; exact rfl)
    | (apply wpu; exact rfl; exact rfl; exact rfl)
    | (apply wbx; exact rfl; exact rfl; exact rfl; intro _)
    | refine wc_block ?_
    | (apply wc_true; exact rfl)
    | (apply wc_false; exact rfl)
    | refine wc_skip ?_
    | refine wc_exit ?_
    | refine wc_ret ?_
    | refine we_then_exit ?_
    | refine we_then_ret ?_
    | refine we_in_normal ?_
    | refine we_in_ret ?_
    | refine we_in_here ?_
    | (apply we_in_there; exact rfl))
  refine wc_plan [] none [(0, true), (1, true), (2, true), (3, true), (4, true), (5, true), (6, true), (7, true), (8, true)] (by kernel_rfl) (List.nil_sublist _) ?_
  repeat (first
    | (apply ps; exact rfl; exact rfl; exact rfl; exact rfl)
    | (apply wp_still; exact rfl; exact rfl; exact rfl; exact (od_shr32 n rfl rfl (by omega)))
    | (apply pfa; exact rfl; exact rfl; exact rfl; exact rfl; exact rfl)
    | (apply pi64; exact rfl; exact rfl; omega; omega; exact rfl; exact rfl)
    | (apply pct; exact rfl; exact rfl; omega; exact rfl; exact rfl)
    | (apply pcf; exact rfl; exact rfl; omega; exact rfl; exact rfl)
    | (apply wp_not; exact rfl; exact rfl; exact rfl)
    | (apply plb (j := 0); exact rfl; exact rfl; exact rfl; exact rfl; exact rfl; exact rfl; exact rfl)
    | (apply plb (j := 1); exact rfl; exact rfl; exact rfl; exact rfl; exact rfl; exact rfl; exact rfl)
    | (apply plb (j := 2); exact rfl; exact rfl; exact rfl; exact rfl; exact rfl; exact rfl; exact rfl)
    | (apply pln; exact rfl; exact rfl; exact rfl; exact rfl; exact rfl)
    | (apply ppu; exact rfl; exact rfl; exact rfl; exact rfl)
    | (apply pfs; exact rfl; exact rfl; exact rfl; exact rfl)
    | apply wp_nil)
  rw [hs]
  repeat (first
    | (apply ps; exact rfl; exact rfl; exact rfl; exact rfl)
    | (apply wp_still; exact rfl; exact rfl; exact rfl; exact (od_shl32 (32 - n) rfl rfl (by omega)))
    | (apply wp_still; exact rfl; exact rfl; exact rfl; exact (od_or32 rfl rfl))
    | (apply pfa; exact rfl; exact rfl; exact rfl; exact rfl; exact rfl)
    | (apply pi64; exact rfl; exact rfl; omega; omega; exact rfl; exact rfl)
    | (apply pct; exact rfl; exact rfl; omega; exact rfl; exact rfl)
    | (apply pcf; exact rfl; exact rfl; omega; exact rfl; exact rfl)
    | (apply wp_not; exact rfl; exact rfl; exact rfl)
    | (apply plb (j := 0); exact rfl; exact rfl; exact rfl; exact rfl; exact rfl; exact rfl; exact rfl)
    | (apply plb (j := 1); exact rfl; exact rfl; exact rfl; exact rfl; exact rfl; exact rfl; exact rfl)
    | (apply plb (j := 2); exact rfl; exact rfl; exact rfl; exact rfl; exact rfl; exact rfl; exact rfl)
    | (apply pln; exact rfl; exact rfl; exact rfl; exact rfl; exact rfl)
    | (apply ppu; exact rfl; exact rfl; exact rfl; exact rfl)
    | (apply pfs; exact rfl; exact rfl; exact rfl; exact rfl)
    | apply wp_nil)
  repeat (first
    | (apply ws; exact rfl; exact rfl; exact rfl)
    | refine wc_seq ?_
    | refine wc_region ?_
    | refine wl_nil ?_
    | refine we_round ?_
    | refine we_then_wc ?_
    | (apply wi64; exact rfl; omega; omega; exact rfl; exact rfl)
    | (apply wfa; exact rfl; exact rfl; exact rfl; exact rfl)
    | (apply wct; exact rfl; omega; exact rfl; exact rfl)
    | (apply wcf; exact rfl; omega; exact rfl; exact rfl)
    | (apply wn; exact rfl; exact rfl)
    | (apply wlb (j := 0); exact rfl; exact rfl; exact rfl; exact rfl; exact rfl; exact rfl)
    | (apply wlb (j := 1); exact rfl; exact rfl; exact rfl; exact rfl; exact rfl; exact rfl)
    | (apply wlb (j := 2); exact rfl; exact rfl; exact rfl; exact rfl; exact rfl; exact rfl)
    | (apply wlb (j := 3); exact rfl; exact rfl; exact rfl; exact rfl; exact rfl; exact rfl)
    | (apply wln; exact rfl; exact rfl; exact rfl; exact rfl)
    | (apply wpu; exact rfl; exact rfl; exact rfl)
    | (apply wbx; exact rfl; exact rfl; exact rfl; intro _)
    | refine wc_block ?_
    | (apply wc_true; exact rfl)
    | (apply wc_false; exact rfl)
    | refine wc_skip ?_
    | refine wc_exit ?_
    | refine wc_ret ?_
    | refine we_then_exit ?_
    | refine we_then_ret ?_
    | refine we_in_normal ?_
    | refine we_in_ret ?_
    | refine we_in_here ?_
    | (apply we_in_there; exact rfl))
  exact we_ret1 (Or.inl rfl) rfl rfl fun w' h => ⟨rfl, h.ext_all⟩

theorem ref_word (v : Value) (l : List UInt8) (hl : l.length = 4) (w : World) (hv : Rd v8 w v l) : Fn 96 [v] w (Quiet (u32 (wordF 0 l)) w) := by
  obtain ⟨b, o, c, rfl, hc, hcell⟩ := hv
  match l, hl with
  | [x0, x1, x2, x3], _ =>
    have e : wordF 0 [x0, x1, x2, x3] = ext8 x0 <<< 24 ||| ext8 x1 <<< 16 ||| ext8 x2 <<< 8 ||| ext8 x3 := (word_eq _ _ _ _).symm
    rw [e]
    have h0 := hcell 0 x0 rfl
    have h1 := hcell 1 x1 rfl
    have h2 := hcell 2 x2 rfl
    have h3 := hcell 3 x3 rfl
    refine fn_of (args := [.slice (some ⟨b, o, none⟩) 4 c]) Tryd.func96 rfl Tryd.ntmps96 rfl (Hp.start w) ?_
    repeat (first
      | (apply ws; exact rfl; exact rfl; exact rfl)
      | refine wc_seq ?_
      | refine wc_region ?_
      | refine wl_nil ?_
      | refine we_round ?_
      | refine we_then_wc ?_
      | (apply wi64; exact rfl; omega; omega; exact rfl; exact rfl)
      | (apply wfa; exact rfl; exact rfl; exact rfl; exact rfl)
      | (apply wct; exact rfl; omega; exact rfl; exact rfl)
      | (apply wcf; exact rfl; omega; exact rfl; exact rfl)
      | (apply wn; exact rfl; exact rfl)
      | (apply wlb (j := 0); exact rfl; exact rfl; exact rfl; exact rfl; exact rfl; exact rfl)
      | (apply wlb (j := 1); exact rfl; exact rfl; exact rfl; exact rfl; exact rfl; exact rfl)
      | (apply wlb (j := 2); exact rfl; exact rfl; exact rfl; exact rfl; exact rfl; exact rfl)
      | (apply wlb (j := 3); exact rfl; exact rfl; exact rfl; exact rfl; exact rfl; exact rfl)
      | (apply wln; exact rfl; exact rfl; exact rfl; exact rfl)
      | (apply wpu; exact rfl; exact rfl; exact rfl)
      | (apply wbx; exact rfl; exact rfl; exact rfl; intro _)
      | refine wc_block ?_
      | (apply wc_true; exact rfl)
      | (apply wc_false; exact rfl)
      | refine wc_skip ?_
      | refine wc_exit ?_
      | refine wc_ret ?_
      | refine we_then_exit ?_
      | refine we_then_ret ?_
      | refine we_in_normal ?_
      | refine we_in_ret ?_
      | refine we_in_here ?_
      | (apply we_in_there; exact rfl))
    refine wc_plan [] none [(0, true), (1, true), (2, true), (3, true), (4, true), (5, true), (6, true), (7, true), (8, true), (9, true), (10, true), (11, true), (12, true), (13, true), (14, true), (15, true), (16, true), (17, true), (18, true), (19, true), (20, true), (21, true), (22, true)] (by kernel_rfl) (List.nil_sublist _) ?_
    repeat (first
      | (apply ps; exact rfl; exact rfl; exact rfl; exact rfl)
      | (apply wp_still; exact rfl; exact rfl; exact rfl; exact (od_indexAddr1 0 rfl rfl rfl rfl rfl (by omega)))
      | (apply wp_still; exact rfl; exact rfl; exact rfl; exact (od_indexAddr1 1 rfl rfl rfl rfl rfl (by omega)))
      | (apply wp_still; exact rfl; exact rfl; exact rfl; exact (od_indexAddr1 2 rfl rfl rfl rfl rfl (by omega)))
      | (apply wp_still; exact rfl; exact rfl; exact rfl; exact (od_indexAddr1 3 rfl rfl rfl rfl rfl (by omega)))
      | (apply plo; exact rfl; exact rfl; exact rfl; exact h0; exact List.not_mem_nil; exact rfl; exact rfl)
      | (apply plo; exact rfl; exact rfl; exact rfl; exact h1; exact List.not_mem_nil; exact rfl; exact rfl)
      | (apply plo; exact rfl; exact rfl; exact rfl; exact h2; exact List.not_mem_nil; exact rfl; exact rfl)
      | (apply plo; exact rfl; exact rfl; exact rfl; exact h3; exact List.not_mem_nil; exact rfl; exact rfl)
      | (apply wp_still; exact rfl; exact rfl; exact rfl; exact (od_conv832 rfl))
      | (apply wp_still; exact rfl; exact rfl; exact rfl; exact (od_shl32 24 rfl rfl (by omega)))
      | (apply wp_still; exact rfl; exact rfl; exact rfl; exact (od_shl32 16 rfl rfl (by omega)))
      | (apply wp_still; exact rfl; exact rfl; exact rfl; exact (od_shl32 8 rfl rfl (by omega)))
      | (apply wp_still; exact rfl; exact rfl; exact rfl; exact (od_or32 rfl rfl))
      | (apply pfa; exact rfl; exact rfl; exact rfl; exact rfl; exact rfl)
      | (apply pi64; exact rfl; exact rfl; omega; omega; exact rfl; exact rfl)
      | (apply pct; exact rfl; exact rfl; omega; exact rfl; exact rfl)
      | (apply pcf; exact rfl; exact rfl; omega; exact rfl; exact rfl)
      | (apply wp_not; exact rfl; exact rfl; exact rfl)
      | (apply plb (j := 0); exact rfl; exact rfl; exact rfl; exact rfl; exact rfl; exact rfl; exact rfl)
      | (apply plb (j := 1); exact rfl; exact rfl; exact rfl; exact rfl; exact rfl; exact rfl; exact rfl)
      | (apply plb (j := 2); exact rfl; exact rfl; exact rfl; exact rfl; exact rfl; exact rfl; exact rfl)
      | (apply pln; exact rfl; exact rfl; exact rfl; exact rfl; exact rfl)
      | (apply ppu; exact rfl; exact rfl; exact rfl; exact rfl)
      | (apply pfs; exact rfl; exact rfl; exact rfl; exact rfl)
      | apply wp_nil)
    repeat (first
      | (apply ws; exact rfl; exact rfl; exact rfl)
      | refine wc_seq ?_
      | refine wc_region ?_
      | refine wl_nil ?_
      | refine we_round ?_
      | refine we_then_wc ?_
      | (apply wi64; exact rfl; omega; omega; exact rfl; exact rfl)
      | (apply wfa; exact rfl; exact rfl; exact rfl; exact rfl)
      | (apply wct; exact rfl; omega; exact rfl; exact rfl)
      | (apply wcf; exact rfl; omega; exact rfl; exact rfl)
      | (apply wn; exact rfl; exact rfl)
      | (apply wlb (j := 0); exact rfl; exact rfl; exact rfl; exact rfl; exact rfl; exact rfl)
      | (apply wlb (j := 1); exact rfl; exact rfl; exact rfl; exact rfl; exact rfl; exact rfl)
      | (apply wlb (j := 2); exact rfl; exact rfl; exact rfl; exact rfl; exact rfl; exact rfl)
      | (apply wlb (j := 3); exact rfl; exact rfl; exact rfl; exact rfl; exact rfl; exact rfl)
      | (apply wln; exact rfl; exact rfl; exact rfl; exact rfl)
      | (apply wpu; exact rfl; exact rfl; exact rfl)
      | (apply wbx; exact rfl; exact rfl; exact rfl; intro _)
      | refine wc_block ?_
      | (apply wc_true; exact rfl)
      | (apply wc_false; exact rfl)
      | refine wc_skip ?_
      | refine wc_exit ?_
      | refine wc_ret ?_
      | refine we_then_exit ?_
      | refine we_then_ret ?_
      | refine we_in_normal ?_
      | refine we_in_ret ?_
      | refine we_in_here ?_
      | (apply we_in_there; exact rfl))
    exact we_ret1 (Or.inl rfl) rfl rfl fun w' h => ⟨rfl, h.ext_all⟩

theorem plainK : ∀ v ∈ (kW.map u32).toArray.toList, plainV v = true := by simp [u32, plainV]
theorem ref_numbers (w : World) : Fn 98 [] w (Quiet (.agg (kW.map u32).toArray) w) := by
  refine fn_of (args := []) Tryd.func98 rfl Tryd.ntmps98 rfl (Hp.start w) ?_
  repeat (first
    | (apply ws; exact rfl; exact rfl; exact rfl)
    | (apply wal zero119 rfl; exact rfl; exact rfl; intro bz)
    | refine wc_seq ?_
    | refine wc_region ?_
    | refine wl_nil ?_
    | refine we_round ?_
    | refine we_then_wc ?_
    | (apply wi64; exact rfl; omega; omega; exact rfl; exact rfl)
    | (apply wfa; exact rfl; exact rfl; exact rfl; exact rfl)
    | (apply wct; exact rfl; omega; exact rfl; exact rfl)
    | (apply wcf; exact rfl; omega; exact rfl; exact rfl)
    | (apply wn; exact rfl; exact rfl)
    | (apply wlb (j := 0); exact rfl; exact rfl; exact rfl; exact rfl; exact rfl; exact rfl)
    | (apply wlb (j := 1); exact rfl; exact rfl; exact rfl; exact rfl; exact rfl; exact rfl)
    | (apply wlb (j := 2); exact rfl; exact rfl; exact rfl; exact rfl; exact rfl; exact rfl)
    | (apply wlb (j := 3); exact rfl; exact rfl; exact rfl; exact rfl; exact rfl; exact rfl)
    | (apply wln; exact rfl; exact rfl; exact rfl; exact rfl)
    | (apply wpu; exact rfl; exact rfl; exact rfl)
    | (apply wbx; exact rfl; exact rfl; exact rfl; intro _)
    | refine wc_block ?_
    | (apply wc_true; exact rfl)
    | (apply wc_false; exact rfl)
    | refine wc_skip ?_
    | refine wc_exit ?_
    | refine wc_ret ?_
    | refine we_then_exit ?_
    | refine we_then_ret ?_
    | refine we_in_normal ?_
    | refine we_in_ret ?_
    | refine we_in_here ?_
    | (apply we_in_there; exact rfl))
  refine wl_still rfl rfl rfl (od_buildA (z := List.replicate 64 (u32 0)) (cs := kW.map u32) rfl rfl zero119 rfl rfl) ?_
  repeat (first
    | (apply ws; exact rfl; exact rfl; exact rfl)
    | (apply wsw (j := 0); exact rfl; exact rfl; exact rfl; exact rfl; exact rfl; exact plainK; exact rfl; exact rfl)
    | refine wc_seq ?_
    | refine wc_region ?_
    | refine wl_nil ?_
    | refine we_round ?_
    | refine we_then_wc ?_
    | (apply wi64; exact rfl; omega; omega; exact rfl; exact rfl)
    | (apply wfa; exact rfl; exact rfl; exact rfl; exact rfl)
    | (apply wct; exact rfl; omega; exact rfl; exact rfl)
    | (apply wcf; exact rfl; omega; exact rfl; exact rfl)
    | (apply wn; exact rfl; exact rfl)
    | (apply wlb (j := 0); exact rfl; exact rfl; exact rfl; exact rfl; exact rfl; exact rfl)
    | (apply wlb (j := 1); exact rfl; exact rfl; exact rfl; exact rfl; exact rfl; exact rfl)
    | (apply wlb (j := 2); exact rfl; exact rfl; exact rfl; exact rfl; exact rfl; exact rfl)
    | (apply wlb (j := 3); exact rfl; exact rfl; exact rfl; exact rfl; exact rfl; exact rfl)
    | (apply wln; exact rfl; exact rfl; exact rfl; exact rfl)
    | (apply wpu; exact rfl; exact rfl; exact rfl)
    | (apply wbx; exact rfl; exact rfl; exact rfl; intro _)
    | refine wc_block ?_
    | (apply wc_true; exact rfl)
    | (apply wc_false; exact rfl)
    | refine wc_skip ?_
    | refine wc_exit ?_
    | refine wc_ret ?_
    | refine we_then_exit ?_
    | refine we_then_ret ?_
    | refine we_in_normal ?_
    | refine we_in_ret ?_
    | refine we_in_here ?_
    | (apply we_in_there; exact rfl))
  exact we_retCA 0 (Or.inl rfl) rfl rfl rfl rfl rfl rfl fun w' h => ⟨rfl, h.ext_all⟩
end Go.Proofs.YtielloijdkoeiaaDoor
