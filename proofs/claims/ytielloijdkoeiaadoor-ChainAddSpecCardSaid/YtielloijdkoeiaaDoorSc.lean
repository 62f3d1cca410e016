/- The reference's digest: padded. -/
import Derived.Test.YtielloijdkoeiaaDoorSb
import Derived.Test.YtielloijdkoeiaaDoorPa
namespace Go.Proofs.YtielloijdkoeiaaDoor
open Go Go.RowKit Go.Lib
set_option maxRecDepth 100000

/-- With so many zeros behind the end's first byte. -/
def outZ (l : List UInt8) (z : Nat) : List UInt8 := l ++ 0x80 :: List.replicate z 0
theorem outZ_length (l : List UInt8) (z : Nat) : (outZ l z).length = l.length + 1 + z := by simp [outZ]; omega
theorem outZ_succ (l : List UInt8) (z : Nat) : outZ l z ++ [0] = outZ l (z + 1) := by
  simp [outZ, List.replicate_succ']
/-- With so many bytes of the length, too. -/
def outP (l : List UInt8) (j : Nat) : List UInt8 := outZ l (padZ l.length) ++ (putL (8 * l.length) 8 8).take j
theorem outP_zero (l : List UInt8) : outP l 0 = outZ l (padZ l.length) := by simp [outP]
theorem outP_length (l : List UInt8) (j : Nat) (h : j ≤ 8) : (outP l j).length = l.length + 1 + padZ l.length + j := by
  simp [outP, outZ_length, putL_length]; omega
theorem outP_all (l : List UInt8) : outP l 8 = padP l := by
  unfold outP padP outZ
  rw [List.take_of_length_le (by rw [putL_length]; exact Nat.le_refl _)]
  simp
theorem outP_succ (l : List UInt8) (j : Nat) (h : j < 8) : outP l j ++ [byteAt (8 * l.length) (7 - j)] = outP l (j + 1) := by
  unfold outP
  have : (putL (8 * l.length) 8 8)[j]? = some (byteAt (8 * l.length) (7 - j)) := by
    unfold putL
    rw [List.getElem?_map, List.getElem?_range h]
    rfl
  rw [List.take_add_one, this]
  simp

theorem padZ_le (n : Nat) : padZ n ≤ 63 := by unfold padZ; split <;> omega
theorem padZ_stop (n z : Nat) (hz : z ≤ padZ n) : (n + 1 + z) % 64 = 56 ↔ z = padZ n := by
  unfold padZ at *
  split at hz <;> split <;> omega

set_option maxHeartbeats 800000 in
theorem ref_padded (v : Value) (l : List UInt8) (hl : l.length < 2 ^ 45) (w : World) (hv : Rd v8 w v l) : Fn 90 [v] w (Fresh (padP l) w) := by
  obtain ⟨b, o, c, rfl, hc, hcell⟩ := hv
  have hrd : ∀ w', Ext w w' → Rd v8 w' (.slice (some ⟨b, o, none⟩) l.length c) l := fun w' e => Rd.ext ⟨b, o, c, rfl, hc, hcell⟩ e
  refine fn_of (args := [.slice (some ⟨b, o, none⟩) l.length c]) Tryd.func90 rfl Tryd.ntmps90 rfl (Hp.start w) ?_
  have hpz := padZ_le l.length
  repeat (first
    | (apply ws; exact rfl; exact rfl; exact rfl)
    | refine wc_seq ?_
    | refine wc_region ?_
    | refine wl_nil ?_
    | refine we_round ?_
    | refine we_then_wc ?_
    | (apply wi64; exact rfl; omega; omega; exact rfl; exact rfl)
    | (apply wfa; exact rfl; exact rfl; exact rfl; exact rfl)
    | (apply wct; exact rfl; omega; exact rfl; exact rfl)
    | (apply wcf; exact rfl; omega; exact rfl; exact rfl)
    | (apply wn; exact rfl; exact rfl)
    | (apply wlb (j := 0); exact rfl; exact rfl; exact rfl; exact rfl; exact rfl; exact rfl)
    | (apply wlb (j := 1); exact rfl; exact rfl; exact rfl; exact rfl; exact rfl; exact rfl)
    | (apply wlb (j := 2); exact rfl; exact rfl; exact rfl; exact rfl; exact rfl; exact rfl)
    | (apply wlb (j := 3); exact rfl; exact rfl; exact rfl; exact rfl; exact rfl; exact rfl)
    | (apply wln; exact rfl; exact rfl; exact rfl; exact rfl)
    | (apply wpu; exact rfl; exact rfl; exact rfl)
    | (apply wbx; exact rfl; exact rfl; exact rfl; intro _)
    | refine wc_block ?_
    | (apply wc_true; exact rfl)
    | (apply wc_false; exact rfl)
    | refine wc_skip ?_
    | refine wc_exit ?_
    | refine wc_ret ?_
    | refine we_then_exit ?_
    | refine we_then_ret ?_
    | refine we_in_normal ?_
    | refine we_in_ret ?_
    | refine we_in_here ?_
    | (apply we_in_there; exact rfl))
  refine wl_makes rfl rfl rfl (od_buildSlice (cs := []) rfl rfl ⟨_, Tryd.zeroValue5⟩ rfl rfl rfl (by simp) (by omega) rfl) ?_
  rintro _ b0 -
  repeat (first
    | (apply ws; exact rfl; exact rfl; exact rfl)
    | refine wc_seq ?_
    | refine wc_region ?_
    | refine wl_nil ?_
    | refine we_round ?_
    | refine we_then_wc ?_
    | (apply wi64; exact rfl; omega; omega; exact rfl; exact rfl)
    | (apply wfa; exact rfl; exact rfl; exact rfl; exact rfl)
    | (apply wct; exact rfl; omega; exact rfl; exact rfl)
    | (apply wcf; exact rfl; omega; exact rfl; exact rfl)
    | (apply wn; exact rfl; exact rfl)
    | (apply wlb (j := 0); exact rfl; exact rfl; exact rfl; exact rfl; exact rfl; exact rfl)
    | (apply wlb (j := 1); exact rfl; exact rfl; exact rfl; exact rfl; exact rfl; exact rfl)
    | (apply wlb (j := 2); exact rfl; exact rfl; exact rfl; exact rfl; exact rfl; exact rfl)
    | (apply wlb (j := 3); exact rfl; exact rfl; exact rfl; exact rfl; exact rfl; exact rfl)
    | (apply wln; exact rfl; exact rfl; exact rfl; exact rfl)
    | (apply wpu; exact rfl; exact rfl; exact rfl)
    | (apply wbx; exact rfl; exact rfl; exact rfl; intro _)
    | refine wc_block ?_
    | (apply wc_true; exact rfl)
    | (apply wc_false; exact rfl)
    | refine wc_skip ?_
    | refine wc_exit ?_
    | refine wc_ret ?_
    | refine we_then_exit ?_
    | refine we_then_ret ?_
    | refine we_in_normal ?_
    | refine we_in_ret ?_
    | refine we_in_here ?_
    | (apply we_in_there; exact rfl))
  refine wl_moves 0 rfl rfl rfl rfl (od_grow (xs := []) (ys := l) (sp := []) 0 rfl rfl rfl rfl (by simp) rfl (fun w' h => Src.rd (hrd w' h.ext_all)) (by simp; omega)) ?_
  rintro ⟨c1, sp1⟩ b1 ⟨e1, e2⟩
  simp only [List.nil_append] at e1 e2
  dsimp only
  rw [List.nil_append]
  refine wl_makes rfl rfl rfl (od_buildSlice (cs := ([128] : List UInt8).map v8) rfl rfl ⟨_, Tryd.zeroValue5⟩ rfl rfl rfl (by simp [Value.cells]) (by omega) rfl) ?_
  rintro _ bq -
  refine wl_moves 1 rfl rfl rfl rfl (od_grow (xs := l) (ys := [128]) (sp := sp1) 1 rfl rfl rfl rfl (by simp) e2 (fun w' h => Src.rd (h.rd (f := v8) (l := [128]) (c := 1) (j := 0) (o := 0) rfl (by decide) (cells_map (sp := []) 0 rfl))) (by simp; omega)) ?_
  rintro ⟨c2, sp2⟩ b2 ⟨e3, e4⟩
  simp only at e3 e4
  dsimp only
  have h0 : l ++ [128] = outZ l 0 := rfl
  rw [h0] at e3 e4 ⊢
  repeat (first
    | (apply ws; exact rfl; exact rfl; exact rfl)
    | refine wc_seq ?_
    | refine wc_region ?_
    | refine wl_nil ?_
    | refine we_round ?_
    | refine we_then_wc ?_
    | (apply wi64; exact rfl; omega; omega; exact rfl; exact rfl)
    | (apply wfa; exact rfl; exact rfl; exact rfl; exact rfl)
    | (apply wct; exact rfl; omega; exact rfl; exact rfl)
    | (apply wcf; exact rfl; omega; exact rfl; exact rfl)
    | (apply wn; exact rfl; exact rfl)
    | (apply wlb (j := 0); exact rfl; exact rfl; exact rfl; exact rfl; exact rfl; exact rfl)
    | (apply wlb (j := 1); exact rfl; exact rfl; exact rfl; exact rfl; exact rfl; exact rfl)
    | (apply wlb (j := 2); exact rfl; exact rfl; exact rfl; exact rfl; exact rfl; exact rfl)
    | (apply wlb (j := 3); exact rfl; exact rfl; exact rfl; exact rfl; exact rfl; exact rfl)
    | (apply wln; exact rfl; exact rfl; exact rfl; exact rfl)
    | (apply wpu; exact rfl; exact rfl; exact rfl)
    | (apply wbx; exact rfl; exact rfl; exact rfl; intro _)
    | refine wc_block ?_
    | (apply wc_true; exact rfl)
    | (apply wc_false; exact rfl)
    | refine wc_skip ?_
    | refine wc_exit ?_
    | refine wc_ret ?_
    | refine we_then_exit ?_
    | refine we_then_ret ?_
    | refine we_in_normal ?_
    | refine we_in_ret ?_
    | refine we_in_here ?_
    | (apply we_in_there; exact rfl))
  refine wc_loop (ι := Nat × Nat × Nat × List Value) (fun i => [(3, .slice (some ⟨i.2.1, 0, none⟩) (outZ l i.1).length i.2.2.1), (0, .slice (some ⟨b, o, none⟩) l.length c)]) (fun i => [(i.2.1, (outZ l i.1).map v8 ++ i.2.2.2, 5)])
    (fun i => i.1 ≤ padZ l.length ∧ (outZ l i.1).length ≤ i.2.2.1 ∧ ((outZ l i.1).map v8 ++ i.2.2.2).length = i.2.2.1) (fun i => padZ l.length - i.1) (0, b2, c2, sp2) ⟨Nat.zero_le _, e3, e4⟩ ⟨rfl, rfl, trivial⟩ (List.Sublist.cons_cons _ (List.nil_sublist _)) ?_
  rintro ⟨z, bz, cz, sz⟩ ⟨hz, i1, i2⟩
  simp only at hz i1 i2
  dsimp only
  have hol := outZ_length l z
  have hst := padZ_stop l.length z hz
  have hrem : ((outZ l z).length : Int).tmod 64 = (((l.length + 1 + z) % 64 : Nat) : Int) := by rw [hol, Int.tmod_eq_emod_of_nonneg (by omega)]; omega
  by_cases hzz : z = padZ l.length
  · have h56 : (l.length + 1 + z) % 64 = 56 := hst.2 hzz
    rw [h56] at hrem
    subst hzz
    rw [← outP_zero] at i1 i2 hrem ⊢
    have hcv : IntKind.u64.wrap (l.length : Int) = (l.length : Int) := wrap_u64_lt (by omega)
    have hmul : IntKind.u64.wrap ((l.length : Int) * 8) = ((8 * l.length : Nat) : Int) := by
      rw [show (l.length : Int) * 8 = ((8 * l.length : Nat) : Int) by omega]; exact wrap_u64_lt (by omega)
    repeat (first
      | (apply ws; exact rfl; exact rfl; exact rfl)
      | refine wl_still rfl rfl rfl (od_rem rfl rfl (by decide) hrem) ?_
      | refine wc_seq ?_
      | refine wc_region ?_
      | refine wl_nil ?_
      | refine we_round ?_
      | refine we_then_wc ?_
      | (apply wi64; exact rfl; omega; omega; exact rfl; exact rfl)
      | (apply wfa; exact rfl; exact rfl; exact rfl; exact rfl)
      | (apply wct; exact rfl; omega; exact rfl; exact rfl)
      | (apply wcf; exact rfl; omega; exact rfl; exact rfl)
      | (apply wn; exact rfl; exact rfl)
      | (apply wlb (j := 0); exact rfl; exact rfl; exact rfl; exact rfl; exact rfl; exact rfl)
      | (apply wlb (j := 1); exact rfl; exact rfl; exact rfl; exact rfl; exact rfl; exact rfl)
      | (apply wlb (j := 2); exact rfl; exact rfl; exact rfl; exact rfl; exact rfl; exact rfl)
      | (apply wlb (j := 3); exact rfl; exact rfl; exact rfl; exact rfl; exact rfl; exact rfl)
      | (apply wln; exact rfl; exact rfl; exact rfl; exact rfl)
      | (apply wpu; exact rfl; exact rfl; exact rfl)
      | (apply wbx; exact rfl; exact rfl; exact rfl; intro _)
      | refine wc_block ?_
      | (apply wc_true; exact rfl)
      | (apply wc_false; exact rfl)
      | refine wc_skip ?_
      | refine wc_exit ?_
      | refine wc_ret ?_
      | refine we_then_exit ?_
      | refine we_then_ret ?_
      | refine we_in_normal ?_
      | refine we_in_ret ?_
      | refine we_in_here ?_
      | (apply we_in_there; exact rfl))
    refine wl_still rfl rfl rfl (od_conv rfl rfl rfl) ?_
    rw [hcv]
    repeat (first
      | (apply ws; exact rfl; exact rfl; exact rfl)
      | refine wl_still rfl rfl rfl (od_int rfl hmul) ?_
      | refine wc_seq ?_
      | refine wc_region ?_
      | refine wl_nil ?_
      | refine we_round ?_
      | refine we_then_wc ?_
      | (apply wi64; exact rfl; omega; omega; exact rfl; exact rfl)
      | (apply wfa; exact rfl; exact rfl; exact rfl; exact rfl)
      | (apply wct; exact rfl; omega; exact rfl; exact rfl)
      | (apply wcf; exact rfl; omega; exact rfl; exact rfl)
      | (apply wn; exact rfl; exact rfl)
      | (apply wlb (j := 0); exact rfl; exact rfl; exact rfl; exact rfl; exact rfl; exact rfl)
      | (apply wlb (j := 1); exact rfl; exact rfl; exact rfl; exact rfl; exact rfl; exact rfl)
      | (apply wlb (j := 2); exact rfl; exact rfl; exact rfl; exact rfl; exact rfl; exact rfl)
      | (apply wlb (j := 3); exact rfl; exact rfl; exact rfl; exact rfl; exact rfl; exact rfl)
      | (apply wln; exact rfl; exact rfl; exact rfl; exact rfl)
      | (apply wpu; exact rfl; exact rfl; exact rfl)
      | (apply wbx; exact rfl; exact rfl; exact rfl; intro _)
      | refine wc_block ?_
      | (apply wc_true; exact rfl)
      | (apply wc_false; exact rfl)
      | refine wc_skip ?_
      | refine wc_exit ?_
      | refine wc_ret ?_
      | refine we_then_exit ?_
      | refine we_then_ret ?_
      | refine we_in_normal ?_
      | refine we_in_ret ?_
      | refine we_in_here ?_
      | (apply we_in_there; exact rfl))
    refine wc_loop (ι := Nat × Nat × Nat × List Value) (fun i => [(5, .int .i64 (7 - (i.1 : Int))), (4, .int .u64 ((8 * l.length : Nat) : Int)), (3, .slice (some ⟨i.2.1, 0, none⟩) (outP l i.1).length i.2.2.1)]) (fun i => [(i.2.1, (outP l i.1).map v8 ++ i.2.2.2, 5)])
      (fun i => i.1 ≤ 8 ∧ (outP l i.1).length ≤ i.2.2.1 ∧ ((outP l i.1).map v8 ++ i.2.2.2).length = i.2.2.1) (fun i => 8 - i.1) (0, bz, cz, sz) ⟨Nat.zero_le _, i1, i2⟩ ⟨rfl, rfl, rfl, trivial⟩ (List.Sublist.refl _) ?_
    rintro ⟨j, bj, cj, sj⟩ ⟨hj, i3, i4⟩
    simp only at hj i3 i4
    dsimp only
    have hopl := outP_length l j hj
    by_cases hj8 : j = 8
    · subst hj8
      repeat (first
        | (apply ws; exact rfl; exact rfl; exact rfl)
        | refine wc_seq ?_
        | refine wc_region ?_
        | refine wl_nil ?_
        | refine we_round ?_
        | refine we_then_wc ?_
        | (apply wi64; exact rfl; omega; omega; exact rfl; exact rfl)
        | (apply wfa; exact rfl; exact rfl; exact rfl; exact rfl)
        | (apply wct; exact rfl; omega; exact rfl; exact rfl)
        | (apply wcf; exact rfl; omega; exact rfl; exact rfl)
        | (apply wn; exact rfl; exact rfl)
        | (apply wlb (j := 0); exact rfl; exact rfl; exact rfl; exact rfl; exact rfl; exact rfl)
        | (apply wlb (j := 1); exact rfl; exact rfl; exact rfl; exact rfl; exact rfl; exact rfl)
        | (apply wlb (j := 2); exact rfl; exact rfl; exact rfl; exact rfl; exact rfl; exact rfl)
        | (apply wlb (j := 3); exact rfl; exact rfl; exact rfl; exact rfl; exact rfl; exact rfl)
        | (apply wln; exact rfl; exact rfl; exact rfl; exact rfl)
        | (apply wpu; exact rfl; exact rfl; exact rfl)
        | (apply wbx; exact rfl; exact rfl; exact rfl; intro _)
        | refine wc_block ?_
        | (apply wc_true; exact rfl)
        | (apply wc_false; exact rfl)
        | refine wc_skip ?_
        | refine wc_exit ?_
        | refine wc_ret ?_
        | refine we_then_exit ?_
        | refine we_then_ret ?_
        | refine we_in_normal ?_
        | refine we_in_ret ?_
        | refine we_in_here ?_
        | (apply we_in_there; exact rfl))
      rw [outP_all] at i3 i4
      exact we_ret1 (Or.inl rfl) rfl rfl fun w' h' => outP_all l ▸ fresh_end (ys := outP l 8) h' 0 rfl (by rw [outP_all]; exact i3) (by rw [outP_all]; exact i4)
    · have h7 : 7 - (j : Int) = ((7 - j : Nat) : Int) := by omega
      have hsucc := outP_succ l j (by omega)
      have hsh := shr_u64 (8 * l.length) (7 - j) (by omega)
      have hnn : ¬ (8 : Int) * ((7 - j : Nat) : Int) < 0 := by omega
      rw [h7]
      repeat (first
        | (apply ws; exact rfl; exact rfl; exact rfl)
        | refine wl_still rfl rfl rfl (od_shr rfl rfl hnn hsh) ?_
        | refine wl_still rfl rfl rfl (od_conv8 rfl) ?_
        | refine wc_seq ?_
        | refine wc_region ?_
        | refine wl_nil ?_
        | refine we_round ?_
        | refine we_then_wc ?_
        | (apply wi64; exact rfl; omega; omega; exact rfl; exact rfl)
        | (apply wfa; exact rfl; exact rfl; exact rfl; exact rfl)
        | (apply wct; exact rfl; omega; exact rfl; exact rfl)
        | (apply wcf; exact rfl; omega; exact rfl; exact rfl)
        | (apply wn; exact rfl; exact rfl)
        | (apply wlb (j := 0); exact rfl; exact rfl; exact rfl; exact rfl; exact rfl; exact rfl)
        | (apply wlb (j := 1); exact rfl; exact rfl; exact rfl; exact rfl; exact rfl; exact rfl)
        | (apply wlb (j := 2); exact rfl; exact rfl; exact rfl; exact rfl; exact rfl; exact rfl)
        | (apply wlb (j := 3); exact rfl; exact rfl; exact rfl; exact rfl; exact rfl; exact rfl)
        | (apply wln; exact rfl; exact rfl; exact rfl; exact rfl)
        | (apply wpu; exact rfl; exact rfl; exact rfl)
        | (apply wbx; exact rfl; exact rfl; exact rfl; intro _)
        | refine wc_block ?_
        | (apply wc_true; exact rfl)
        | (apply wc_false; exact rfl)
        | refine wc_skip ?_
        | refine wc_exit ?_
        | refine wc_ret ?_
        | refine we_then_exit ?_
        | refine we_then_ret ?_
        | refine we_in_normal ?_
        | refine we_in_ret ?_
        | refine we_in_here ?_
        | (apply we_in_there; exact rfl))
      refine wl_makes rfl rfl rfl (od_buildSlice (cs := ([byteAt (8 * l.length) (7 - j)] : List UInt8).map v8) rfl rfl ⟨_, Tryd.zeroValue5⟩ rfl rfl rfl (by simp [Value.cells, v8]) (by omega) rfl) ?_
      rintro _ bq2 -
      refine wl_moves 1 rfl rfl rfl rfl (od_grow (xs := outP l j) (ys := [byteAt (8 * l.length) (7 - j)]) (sp := sj) 1 rfl rfl rfl rfl (by simp) i4 (fun w' h => Src.rd (h.rd (f := v8) (l := [byteAt (8 * l.length) (7 - j)]) (c := 1) (j := 0) (o := 0) rfl (Nat.le_refl _) (cells_map (sp := []) 0 rfl))) (by simp; omega)) ?_
      rintro ⟨c5, sp5⟩ b5 ⟨e5, e6⟩
      simp only at e5 e6
      dsimp only
      rw [hsucc] at e5 e6 ⊢
      repeat (first
        | (apply ws; exact rfl; exact rfl; exact rfl)
        | refine wc_seq ?_
        | refine wc_region ?_
        | refine wl_nil ?_
        | refine we_round ?_
        | refine we_then_wc ?_
        | (apply wi64; exact rfl; omega; omega; exact rfl; exact rfl)
        | (apply wfa; exact rfl; exact rfl; exact rfl; exact rfl)
        | (apply wct; exact rfl; omega; exact rfl; exact rfl)
        | (apply wcf; exact rfl; omega; exact rfl; exact rfl)
        | (apply wn; exact rfl; exact rfl)
        | (apply wlb (j := 0); exact rfl; exact rfl; exact rfl; exact rfl; exact rfl; exact rfl)
        | (apply wlb (j := 1); exact rfl; exact rfl; exact rfl; exact rfl; exact rfl; exact rfl)
        | (apply wlb (j := 2); exact rfl; exact rfl; exact rfl; exact rfl; exact rfl; exact rfl)
        | (apply wlb (j := 3); exact rfl; exact rfl; exact rfl; exact rfl; exact rfl; exact rfl)
        | (apply wln; exact rfl; exact rfl; exact rfl; exact rfl)
        | (apply wpu; exact rfl; exact rfl; exact rfl)
        | (apply wbx; exact rfl; exact rfl; exact rfl; intro _)
        | refine wc_block ?_
        | (apply wc_true; exact rfl)
        | (apply wc_false; exact rfl)
        | refine wc_skip ?_
        | refine wc_exit ?_
        | refine wc_ret ?_
        | refine we_then_exit ?_
        | refine we_then_ret ?_
        | refine we_in_normal ?_
        | refine we_in_ret ?_
        | refine we_in_here ?_
        | (apply we_in_there; exact rfl))
      exact we_again (j + 1, b5, c5, sp5) ⟨by simp only; omega, e5, e6⟩ (by simp only; omega) ⟨by simp [get]; omega, rfl, rfl, trivial⟩ (List.Sublist.cons_cons _ (List.nil_sublist _))
  · have h56 : (l.length + 1 + z) % 64 ≠ 56 := fun e => hzz (hst.1 e)
    have hsucc := outZ_succ l z
    repeat (first
      | (apply ws; exact rfl; exact rfl; exact rfl)
      | refine wl_still rfl rfl rfl (od_rem rfl rfl (by decide) hrem) ?_
      | refine wc_seq ?_
      | refine wc_region ?_
      | refine wl_nil ?_
      | refine we_round ?_
      | refine we_then_wc ?_
      | (apply wi64; exact rfl; omega; omega; exact rfl; exact rfl)
      | (apply wfa; exact rfl; exact rfl; exact rfl; exact rfl)
      | (apply wct; exact rfl; omega; exact rfl; exact rfl)
      | (apply wcf; exact rfl; omega; exact rfl; exact rfl)
      | (apply wn; exact rfl; exact rfl)
      | (apply wlb (j := 0); exact rfl; exact rfl; exact rfl; exact rfl; exact rfl; exact rfl)
      | (apply wlb (j := 1); exact rfl; exact rfl; exact rfl; exact rfl; exact rfl; exact rfl)
      | (apply wlb (j := 2); exact rfl; exact rfl; exact rfl; exact rfl; exact rfl; exact rfl)
      | (apply wlb (j := 3); exact rfl; exact rfl; exact rfl; exact rfl; exact rfl; exact rfl)
      | (apply wln; exact rfl; exact rfl; exact rfl; exact rfl)
      | (apply wpu; exact rfl; exact rfl; exact rfl)
      | (apply wbx; exact rfl; exact rfl; exact rfl; intro _)
      | refine wc_block ?_
      | (apply wc_true; exact rfl)
      | (apply wc_false; exact rfl)
      | refine wc_skip ?_
      | refine wc_exit ?_
      | refine wc_ret ?_
      | refine we_then_exit ?_
      | refine we_then_ret ?_
      | refine we_in_normal ?_
      | refine we_in_ret ?_
      | refine we_in_here ?_
      | (apply we_in_there; exact rfl))
    refine wl_makes rfl rfl rfl (od_buildSlice (cs := ([0] : List UInt8).map v8) rfl rfl ⟨_, Tryd.zeroValue5⟩ rfl rfl rfl (by simp [Value.cells]) (by omega) rfl) ?_
    rintro _ bq2 -
    refine wl_moves 1 rfl rfl rfl rfl (od_grow (xs := outZ l z) (ys := [0]) (sp := sz) 1 rfl rfl rfl rfl (by simp) i2 (fun w' h => Src.rd (h.rd (f := v8) (l := [0]) (c := 1) (j := 0) (o := 0) rfl (by decide) (cells_map (sp := []) 0 rfl))) (by simp; omega)) ?_
    rintro ⟨c5, sp5⟩ b5 ⟨e5, e6⟩
    simp only at e5 e6
    dsimp only
    rw [hsucc] at e5 e6 ⊢
    repeat (first
      | (apply ws; exact rfl; exact rfl; exact rfl)
      | refine wc_seq ?_
      | refine wc_region ?_
      | refine wl_nil ?_
      | refine we_round ?_
      | refine we_then_wc ?_
      | (apply wi64; exact rfl; omega; omega; exact rfl; exact rfl)
      | (apply wfa; exact rfl; exact rfl; exact rfl; exact rfl)
      | (apply wct; exact rfl; omega; exact rfl; exact rfl)
      | (apply wcf; exact rfl; omega; exact rfl; exact rfl)
      | (apply wn; exact rfl; exact rfl)
      | (apply wlb (j := 0); exact rfl; exact rfl; exact rfl; exact rfl; exact rfl; exact rfl)
      | (apply wlb (j := 1); exact rfl; exact rfl; exact rfl; exact rfl; exact rfl; exact rfl)
      | (apply wlb (j := 2); exact rfl; exact rfl; exact rfl; exact rfl; exact rfl; exact rfl)
      | (apply wlb (j := 3); exact rfl; exact rfl; exact rfl; exact rfl; exact rfl; exact rfl)
      | (apply wln; exact rfl; exact rfl; exact rfl; exact rfl)
      | (apply wpu; exact rfl; exact rfl; exact rfl)
      | (apply wbx; exact rfl; exact rfl; exact rfl; intro _)
      | refine wc_block ?_
      | (apply wc_true; exact rfl)
      | (apply wc_false; exact rfl)
      | refine wc_skip ?_
      | refine wc_exit ?_
      | refine wc_ret ?_
      | refine we_then_exit ?_
      | refine we_then_ret ?_
      | refine we_in_normal ?_
      | refine we_in_ret ?_
      | refine we_in_here ?_
      | (apply we_in_there; exact rfl))
    exact we_again (z + 1, b5, c5, sp5) ⟨by simp only; omega, e5, e6⟩ (by simp only; omega) ⟨rfl, rfl, trivial⟩ (List.Sublist.cons_cons _ (List.nil_sublist _))
end Go.Proofs.YtielloijdkoeiaaDoor
