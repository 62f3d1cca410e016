/- The statement of chapter 47: two tags say nothing together. -/
import Derived.Test.YtielloijdkoeiaaDoorHc
import Derived.Test.YtielloijdkoeiaaDoorFc
namespace Go.Proofs.YtielloijdkoeiaaDoor
open Go Go.RowKit Go.Lib
set_option maxRecDepth 100000

/-! ### The plain law -/
theorem two_key {L0 L1 g h r b : Int} (hd : ((g + -h) % 1073741789) * r % 1073741789 = 1) (hb : b = ((L0 + -L1) % 1073741789) * r % 1073741789) : b * (g - h) % 1073741789 = (L0 - L1) % 1073741789 := by
  have e1 : g + -h = g - h := by omega
  have e2 : L0 + -L1 = L0 - L1 := by omega
  rw [e1] at hd
  rw [e2] at hb
  generalize hD : (g - h) % 1073741789 = D at hd
  generalize hM : (L0 - L1) % 1073741789 = M at hb ⊢
  have h1 : b * (g - h) % 1073741789 = M * r * D % 1073741789 := by
    rw [Int.mul_emod, hD, hb, Int.emod_emod_of_dvd _ (Int.dvd_refl _)]
    have hDD : D % 1073741789 = D := by rw [← hD, Int.emod_emod]
    conv => rhs; rw [Int.mul_emod, hDD]
  have h2 : M * r * D = M * (D * r) := by rw [Int.mul_assoc, Int.mul_comm r D]
  rw [h1, h2, Int.mul_emod, hd, ← hM, Int.emod_emod, Int.mul_one, Int.emod_emod]

theorem two_plain {L0 L1 g h r b : Int} (hd : ((g + -h) % 1073741789) * r % 1073741789 = 1) (h0 : 0 ≤ L0 ∧ L0 < 1073741789) (h1 : 0 ≤ L1 ∧ L1 < 1073741789) (hb : b = ((L0 + -L1) % 1073741789) * r % 1073741789) :
    ((L0 + -(b * g % 1073741789)) % 1073741789 + b * g % 1073741789) % 1073741789 = L0 ∧ ((L0 + -(b * g % 1073741789)) % 1073741789 + b * h % 1073741789) % 1073741789 = L1 := by
  have hk := two_key hd hb
  rw [Int.mul_sub] at hk
  generalize b * g = X at hk ⊢
  generalize b * h = Y at hk ⊢
  omega

theorem law_hash (doc no : Int) (hd : in64 doc) (hn : in64 no) (w : World) (hL : Laid w) : Fn 19 [.int .i64 doc, .int .i64 no] w (Quiet (.tuple #[.int .i64 (occH doc no), .bool true]) w) := by
  refine fn_of (args := [.int .i64 doc, .int .i64 no]) Tryd.func19 rfl Tryd.ntmps19 rfl (Hp.start w) ?_
  have hel : (encL [.I doc, .I no]).length ≤ 2 ^ 38 := by
    have := encH_length [.I doc, .I no] 2 (by simp [Lf.ok, hd, hn]) (by simp)
    simpa [encH, encL] using this
  repeat (first
    | (apply ws; exact rfl; exact rfl; exact rfl)
    | refine wl_still rfl rfl rfl (od_struct [.int .i64 0, .int .i64 0, strV [], .slice none 0 0] (Lf.I doc).cells rfl rfl zero75 rfl rfl) ?_
    | refine wl_still rfl rfl rfl (od_struct [.int .i64 0, .int .i64 0, strV [], .slice none 0 0] (Lf.I no).cells rfl rfl zero75 rfl rfl) ?_
    | refine wc_seq ?_
    | refine wc_region ?_
    | refine wl_nil ?_
    | refine we_round ?_
    | refine we_then_wc ?_
    | (apply wi64; exact rfl; omega; omega; exact rfl; exact rfl)
    | (apply wfa; exact rfl; exact rfl; exact rfl; exact rfl)
    | (apply wct; exact rfl; omega; exact rfl; exact rfl)
    | (apply wcf; exact rfl; omega; exact rfl; exact rfl)
    | (apply wn; exact rfl; exact rfl)
    | (apply wlb (j := 0); exact rfl; exact rfl; exact rfl; exact rfl; exact rfl; exact rfl)
    | (apply wlb (j := 1); exact rfl; exact rfl; exact rfl; exact rfl; exact rfl; exact rfl)
    | (apply wlb (j := 2); exact rfl; exact rfl; exact rfl; exact rfl; exact rfl; exact rfl)
    | (apply wlb (j := 3); exact rfl; exact rfl; exact rfl; exact rfl; exact rfl; exact rfl)
    | (apply wln; exact rfl; exact rfl; exact rfl; exact rfl)
    | (apply wpu; exact rfl; exact rfl; exact rfl)
    | (apply wbx; exact rfl; exact rfl; exact rfl; intro _)
    | refine wc_block ?_
    | (apply wc_true; exact rfl)
    | (apply wc_false; exact rfl)
    | refine wc_skip ?_
    | refine wc_exit ?_
    | refine wc_ret ?_
    | refine we_then_exit ?_
    | refine we_then_ret ?_
    | refine we_in_normal ?_
    | refine we_in_ret ?_
    | refine we_in_here ?_
    | (apply we_in_there; exact rfl))
  refine wl_makes rfl rfl rfl (od_buildSlice (cs := (Lf.I doc).cells ++ (Lf.I no).cells) rfl rfl ⟨_, zero75⟩ rfl rfl rfl (by simp [Value.cells, Lf.cells]) (by omega) rfl) ?_
  rintro _ bl -
  refine wl_still rfl rfl rfl (od_struct [.int .i64 0, .int .i64 0, strV [], .slice none 0 0] [.int .i64 3, .int .i64 0, strV [], .slice (some ⟨bl, 0, none⟩) 2 2] rfl rfl zero75 rfl rfl) ?_
  refine wmk Tryd.call42 rfl rfl rfl (fun w' h => encode_calls bl 0 2 [.I doc, .I no] (by simp [Lf.ok, hd, hn]) (by simp) (by simp) w' (leaf2 (fun i v hi => h.cell_blk (j := 0) rfl hi))) ?_
  rintro ⟨c2, sp2⟩ b2 ⟨h1, h2⟩
  simp only at h1 h2
  dsimp only
  repeat (first
    | (apply ws; exact rfl; exact rfl; exact rfl)
    | refine wc_seq ?_
    | refine wc_region ?_
    | refine wl_nil ?_
    | refine we_round ?_
    | refine we_then_wc ?_
    | (apply wi64; exact rfl; omega; omega; exact rfl; exact rfl)
    | (apply wfa; exact rfl; exact rfl; exact rfl; exact rfl)
    | (apply wct; exact rfl; omega; exact rfl; exact rfl)
    | (apply wcf; exact rfl; omega; exact rfl; exact rfl)
    | (apply wn; exact rfl; exact rfl)
    | (apply wlb (j := 0); exact rfl; exact rfl; exact rfl; exact rfl; exact rfl; exact rfl)
    | (apply wlb (j := 1); exact rfl; exact rfl; exact rfl; exact rfl; exact rfl; exact rfl)
    | (apply wlb (j := 2); exact rfl; exact rfl; exact rfl; exact rfl; exact rfl; exact rfl)
    | (apply wlb (j := 3); exact rfl; exact rfl; exact rfl; exact rfl; exact rfl; exact rfl)
    | (apply wln; exact rfl; exact rfl; exact rfl; exact rfl)
    | (apply wpu; exact rfl; exact rfl; exact rfl)
    | (apply wbx; exact rfl; exact rfl; exact rfl; intro _)
    | refine wc_block ?_
    | (apply wc_true; exact rfl)
    | (apply wc_false; exact rfl)
    | refine wc_skip ?_
    | refine wc_exit ?_
    | refine wc_ret ?_
    | refine we_then_exit ?_
    | refine we_then_ret ?_
    | refine we_in_normal ?_
    | refine we_in_ret ?_
    | refine we_in_here ?_
    | (apply we_in_there; exact rfl))
  refine wl_quiet rfl rfl rfl (od_call Tryd.call43 rfl (fun w' h => hash_calls [116, 97, 103] _ (encL [.I doc, .I no]) (by simp) (by omega) w' (hL.ext h.ext_all) (Bs.rd (h.rd (j := 0) (o := 0) rfl h1 (cells_map 0 rfl))))) ?_
  repeat (first
    | (apply ws; exact rfl; exact rfl; exact rfl)
    | refine wc_seq ?_
    | refine wc_region ?_
    | refine wl_nil ?_
    | refine we_round ?_
    | refine we_then_wc ?_
    | (apply wi64; exact rfl; omega; omega; exact rfl; exact rfl)
    | (apply wfa; exact rfl; exact rfl; exact rfl; exact rfl)
    | (apply wct; exact rfl; omega; exact rfl; exact rfl)
    | (apply wcf; exact rfl; omega; exact rfl; exact rfl)
    | (apply wn; exact rfl; exact rfl)
    | (apply wlb (j := 0); exact rfl; exact rfl; exact rfl; exact rfl; exact rfl; exact rfl)
    | (apply wlb (j := 1); exact rfl; exact rfl; exact rfl; exact rfl; exact rfl; exact rfl)
    | (apply wlb (j := 2); exact rfl; exact rfl; exact rfl; exact rfl; exact rfl; exact rfl)
    | (apply wlb (j := 3); exact rfl; exact rfl; exact rfl; exact rfl; exact rfl; exact rfl)
    | (apply wln; exact rfl; exact rfl; exact rfl; exact rfl)
    | (apply wpu; exact rfl; exact rfl; exact rfl)
    | (apply wbx; exact rfl; exact rfl; exact rfl; intro _)
    | refine wc_block ?_
    | (apply wc_true; exact rfl)
    | (apply wc_false; exact rfl)
    | refine wc_skip ?_
    | refine wc_exit ?_
    | refine wc_ret ?_
    | refine we_then_exit ?_
    | refine we_then_ret ?_
    | refine we_in_normal ?_
    | refine we_in_ret ?_
    | refine we_in_here ?_
    | (apply we_in_there; exact rfl))
  exact we_ret2 (Or.inl rfl) rfl rfl rfl fun w' h => ⟨rfl, h.ext_all⟩

/-! ### What is left, and how it is read -/
def leftN (t c : Int) : Bool → Int
  | true => (t + -c) % 1073741789
  | false => t
theorem read_left {a b c H t : Int} {p : Bool} (hp : plainP a b H = leftN t c p) (ht : numP t) (hc : 1 ≤ c ∧ c < 1073741789) : readN a b c H t = (p, true) := by
  unfold numP at ht
  unfold readN
  cases p with
  | false =>
    simp only [leftN] at hp
    rw [if_pos (show t = tagN a b c H false from hp.symm)]
  | true =>
    simp only [leftN] at hp
    rw [if_neg (show ¬ t = tagN a b c H false from fun h => by have h : t = plainP a b H := h; omega), if_pos (show t = tagN a b c H true from show t = (plainP a b H + c) % 1073741789 by omega)]
theorem plain_by {a b H d : Int} : plainP ((a + d) % 1073741789) b H = (plainP a b H + d) % 1073741789 := by
  unfold plainP
  generalize b * H % 1073741789 = X
  omega
theorem read_by {a b c H t d : Int} {p : Bool} (hp : plainP a b H = leftN t c p) (ht : numP t) (hc : 1 ≤ c ∧ c < 1073741789) (hd : 1 ≤ d ∧ d < 1073741789) :
    ∃ k o : Bool, readN ((a + d) % 1073741789) b c H t = (k, o) ∧ (o = true → k = !p) := by
  unfold numP at ht
  have hq := plain_by (a := a) (b := b) (H := H) (d := d)
  rw [hp] at hq
  generalize hA : (a + d) % 1073741789 = A at *
  generalize hR : readN A b c H t = R
  obtain ⟨k, o⟩ := R
  refine ⟨k, o, rfl, fun ho => ?_⟩
  by_cases h1 : t = tagN A b c H false
  · have h1' : t = plainP A b H := h1
    have e : readN A b c H t = (false, true) := by unfold readN; rw [if_pos h1]
    rw [e] at hR
    cases hR
    cases p with
    | true => rfl
    | false => simp only [leftN] at hq; omega
  · by_cases h2 : t = tagN A b c H true
    · have h2' : t = (plainP A b H + c) % 1073741789 := h2
      have e : readN A b c H t = (true, true) := by unfold readN; rw [if_neg h1, if_pos h2]
      rw [e] at hR
      cases hR
      cases p with
      | false => rfl
      | true => simp only [leftN] at hq; omega
    · have e : readN A b c H t = (false, false) := by unfold readN; rw [if_neg h1, if_neg h2]
      rw [e] at hR
      cases hR
      cases ho

theorem plain2 (a b : Int) : ∀ v ∈ #[Value.int .i64 a, .int .i64 b].toList, plainV v = true := by simp [plainV]
theorem left_range {t c : Int} {p : Bool} (ht : numP t) : 0 ≤ leftN t c p ∧ leftN t c p < 1073741789 := by
  unfold numP at ht
  cases p <;> simp only [leftN] <;> omega

set_option maxHeartbeats 4000000 in
theorem law_Two (t0 t1 d0 d1 n0 n1 c : Int) (p q : Bool) (d : Int) (w : World) (hL : Laid w) :
    Fn 4 [.agg #[.int .i64 t0, .int .i64 t1], .agg #[.int .i64 d0, .int .i64 d1], .agg #[.int .i64 n0, .int .i64 n1], .int .i64 c, .agg #[.bool p, .bool q], .int .i64 d] w (Quiet (.bool true) w) := by
  refine fn_of (args := [.agg #[.int .i64 t0, .int .i64 t1], .agg #[.int .i64 d0, .int .i64 d1], .agg #[.int .i64 n0, .int .i64 n1], .int .i64 c, .agg #[.bool p, .bool q], .int .i64 d]) Tryd.func4 rfl Tryd.ntmps4 rfl (Hp.start w) ?_
  by_cases o0 : occP d0 n0
  · by_cases o1 : occP d1 n1
    · by_cases m0 : numP t0
      · by_cases m1 : numP t1
        · by_cases c1 : c < 1
          · repeat (first
              | (apply ws; exact rfl; exact rfl; exact rfl)
              | refine wl_still rfl rfl rfl (od_indexAddrA1 0 rfl rfl rfl rfl rfl (by omega)) ?_
              | refine wl_still rfl rfl rfl (od_indexAddrA1 1 rfl rfl rfl rfl rfl (by omega)) ?_
              | (apply wlb (j := 4); exact rfl; exact rfl; exact rfl; exact rfl; exact rfl; exact rfl)
              | (apply wlb (j := 5); exact rfl; exact rfl; exact rfl; exact rfl; exact rfl; exact rfl)
              | (apply wlb (j := 6); exact rfl; exact rfl; exact rfl; exact rfl; exact rfl; exact rfl)
              | (apply wq Tryd.call13; exact rfl; exact rfl; exact rfl; exact (fun w' h => sane47 w' (hL.ext h.ext_all)))
              | (apply wq Tryd.call15; exact rfl; exact rfl; exact rfl; exact (fun w _ => ref_Occasion_t o0 w))
              | (apply wq Tryd.call15; exact rfl; exact rfl; exact rfl; exact (fun w _ => ref_Occasion_t o1 w))
              | (apply wq Tryd.call16; exact rfl; exact rfl; exact rfl; exact (fun w _ => ref_Number_t m0 w))
              | (apply wq Tryd.call16; exact rfl; exact rfl; exact rfl; exact (fun w _ => ref_Number_t m1 w))
              | refine wc_seq ?_
              | refine wc_region ?_
              | refine wl_nil ?_
              | refine we_round ?_
              | refine we_then_wc ?_
              | (apply wi64; exact rfl; omega; omega; exact rfl; exact rfl)
              | (apply wfa; exact rfl; exact rfl; exact rfl; exact rfl)
              | (apply wct; exact rfl; omega; exact rfl; exact rfl)
              | (apply wcf; exact rfl; omega; exact rfl; exact rfl)
              | (apply wn; exact rfl; exact rfl)
              | (apply wlb (j := 0); exact rfl; exact rfl; exact rfl; exact rfl; exact rfl; exact rfl)
              | (apply wlb (j := 1); exact rfl; exact rfl; exact rfl; exact rfl; exact rfl; exact rfl)
              | (apply wlb (j := 2); exact rfl; exact rfl; exact rfl; exact rfl; exact rfl; exact rfl)
              | (apply wlb (j := 3); exact rfl; exact rfl; exact rfl; exact rfl; exact rfl; exact rfl)
              | (apply wln; exact rfl; exact rfl; exact rfl; exact rfl)
              | (apply wpu; exact rfl; exact rfl; exact rfl)
              | (apply wbx; exact rfl; exact rfl; exact rfl; intro _)
              | refine wc_block ?_
              | (apply wc_true; exact rfl)
              | (apply wc_false; exact rfl)
              | refine wc_skip ?_
              | refine wc_exit ?_
              | refine wc_ret ?_
              | refine we_then_exit ?_
              | refine we_then_ret ?_
              | refine we_in_normal ?_
              | refine we_in_ret ?_
              | refine we_in_here ?_
              | (apply we_in_there; exact rfl))
            exact we_ret1 (Or.inl rfl) rfl rfl fun w' h => ⟨rfl, h.ext_all⟩
          · by_cases c2 : numP c
            · by_cases hg : occH d0 n0 = occH d1 n1
              · have i64 : (in64 d0 ∧ in64 n0) ∧ (in64 d1 ∧ in64 n1) := by unfold in64; unfold occP at o0 o1; omega
                repeat (first
                  | (apply ws; exact rfl; exact rfl; exact rfl)
                  | refine wl_still rfl rfl rfl (od_indexAddrA1 0 rfl rfl rfl rfl rfl (by omega)) ?_
                  | refine wl_still rfl rfl rfl (od_indexAddrA1 1 rfl rfl rfl rfl rfl (by omega)) ?_
                  | (apply wlb (j := 4); exact rfl; exact rfl; exact rfl; exact rfl; exact rfl; exact rfl)
                  | (apply wlb (j := 5); exact rfl; exact rfl; exact rfl; exact rfl; exact rfl; exact rfl)
                  | (apply wlb (j := 6); exact rfl; exact rfl; exact rfl; exact rfl; exact rfl; exact rfl)
                  | (apply wq Tryd.call13; exact rfl; exact rfl; exact rfl; exact (fun w' h => sane47 w' (hL.ext h.ext_all)))
                  | (apply wq Tryd.call15; exact rfl; exact rfl; exact rfl; exact (fun w _ => ref_Occasion_t o0 w))
                  | (apply wq Tryd.call15; exact rfl; exact rfl; exact rfl; exact (fun w _ => ref_Occasion_t o1 w))
                  | (apply wq Tryd.call16; exact rfl; exact rfl; exact rfl; exact (fun w _ => ref_Number_t m0 w))
                  | (apply wq Tryd.call16; exact rfl; exact rfl; exact rfl; exact (fun w _ => ref_Number_t m1 w))
                  | (apply wq Tryd.call16; exact rfl; exact rfl; exact rfl; exact (fun w _ => ref_Number_t c2 w))
                  | (apply wq Tryd.call19; exact rfl; exact rfl; exact rfl; exact (fun w' h => law_hash d0 n0 i64.1.1 i64.1.2 w' (hL.ext h.ext_all)))
                  | (apply wq Tryd.call19; exact rfl; exact rfl; exact rfl; exact (fun w' h => law_hash d1 n1 i64.2.1 i64.2.2 w' (hL.ext h.ext_all)))
                  | refine wc_seq ?_
                  | refine wc_region ?_
                  | refine wl_nil ?_
                  | refine we_round ?_
                  | refine we_then_wc ?_
                  | (apply wi64; exact rfl; omega; omega; exact rfl; exact rfl)
                  | (apply wfa; exact rfl; exact rfl; exact rfl; exact rfl)
                  | (apply wct; exact rfl; omega; exact rfl; exact rfl)
                  | (apply wcf; exact rfl; omega; exact rfl; exact rfl)
                  | (apply wn; exact rfl; exact rfl)
                  | (apply wlb (j := 0); exact rfl; exact rfl; exact rfl; exact rfl; exact rfl; exact rfl)
                  | (apply wlb (j := 1); exact rfl; exact rfl; exact rfl; exact rfl; exact rfl; exact rfl)
                  | (apply wlb (j := 2); exact rfl; exact rfl; exact rfl; exact rfl; exact rfl; exact rfl)
                  | (apply wlb (j := 3); exact rfl; exact rfl; exact rfl; exact rfl; exact rfl; exact rfl)
                  | (apply wln; exact rfl; exact rfl; exact rfl; exact rfl)
                  | (apply wpu; exact rfl; exact rfl; exact rfl)
                  | (apply wbx; exact rfl; exact rfl; exact rfl; intro _)
                  | refine wc_block ?_
                  | (apply wc_true; exact rfl)
                  | (apply wc_false; exact rfl)
                  | refine wc_skip ?_
                  | refine wc_exit ?_
                  | refine wc_ret ?_
                  | refine we_then_exit ?_
                  | refine we_then_ret ?_
                  | refine we_in_normal ?_
                  | refine we_in_ret ?_
                  | refine we_in_here ?_
                  | (apply we_in_there; exact rfl))
                exact we_ret1 (Or.inl rfl) rfl rfl fun w' h => ⟨rfl, h.ext_all⟩
              · have i64 : (in64 d0 ∧ in64 n0) ∧ (in64 d1 ∧ in64 n1) := by unfold in64; unfold occP at o0 o1; omega
                repeat (first
                  | (apply ws; exact rfl; exact rfl; exact rfl)
                  | refine wl_still rfl rfl rfl (od_indexAddrA1 0 rfl rfl rfl rfl rfl (by omega)) ?_
                  | refine wl_still rfl rfl rfl (od_indexAddrA1 1 rfl rfl rfl rfl rfl (by omega)) ?_
                  | (apply wlb (j := 4); exact rfl; exact rfl; exact rfl; exact rfl; exact rfl; exact rfl)
                  | (apply wlb (j := 5); exact rfl; exact rfl; exact rfl; exact rfl; exact rfl; exact rfl)
                  | (apply wlb (j := 6); exact rfl; exact rfl; exact rfl; exact rfl; exact rfl; exact rfl)
                  | (apply wq Tryd.call13; exact rfl; exact rfl; exact rfl; exact (fun w' h => sane47 w' (hL.ext h.ext_all)))
                  | (apply wq Tryd.call15; exact rfl; exact rfl; exact rfl; exact (fun w _ => ref_Occasion_t o0 w))
                  | (apply wq Tryd.call15; exact rfl; exact rfl; exact rfl; exact (fun w _ => ref_Occasion_t o1 w))
                  | (apply wq Tryd.call16; exact rfl; exact rfl; exact rfl; exact (fun w _ => ref_Number_t m0 w))
                  | (apply wq Tryd.call16; exact rfl; exact rfl; exact rfl; exact (fun w _ => ref_Number_t m1 w))
                  | (apply wq Tryd.call16; exact rfl; exact rfl; exact rfl; exact (fun w _ => ref_Number_t c2 w))
                  | (apply wq Tryd.call19; exact rfl; exact rfl; exact rfl; exact (fun w' h => law_hash d0 n0 i64.1.1 i64.1.2 w' (hL.ext h.ext_all)))
                  | (apply wq Tryd.call19; exact rfl; exact rfl; exact rfl; exact (fun w' h => law_hash d1 n1 i64.2.1 i64.2.2 w' (hL.ext h.ext_all)))
                  | (apply wlab (j := 0); exact rfl; exact rfl; exact rfl; exact rfl; exact rfl; exact rfl; exact rfl)
                  | (apply wlab (j := 1); exact rfl; exact rfl; exact rfl; exact rfl; exact rfl; exact rfl; exact rfl)
                  | (apply wlab (j := 2); exact rfl; exact rfl; exact rfl; exact rfl; exact rfl; exact rfl; exact rfl)
                  | (apply wlab (j := 3); exact rfl; exact rfl; exact rfl; exact rfl; exact rfl; exact rfl; exact rfl)
                  | (apply wlab (j := 4); exact rfl; exact rfl; exact rfl; exact rfl; exact rfl; exact rfl; exact rfl)
                  | (apply wlab (j := 5); exact rfl; exact rfl; exact rfl; exact rfl; exact rfl; exact rfl; exact rfl)
                  | (apply wlab (j := 6); exact rfl; exact rfl; exact rfl; exact rfl; exact rfl; exact rfl; exact rfl)
                  | (apply wal Tryd.zeroValue34 rfl; exact rfl; exact rfl; intro bl)
                  | refine wc_seq ?_
                  | refine wc_region ?_
                  | refine wl_nil ?_
                  | refine we_round ?_
                  | refine we_then_wc ?_
                  | (apply wi64; exact rfl; omega; omega; exact rfl; exact rfl)
                  | (apply wfa; exact rfl; exact rfl; exact rfl; exact rfl)
                  | (apply wct; exact rfl; omega; exact rfl; exact rfl)
                  | (apply wcf; exact rfl; omega; exact rfl; exact rfl)
                  | (apply wn; exact rfl; exact rfl)
                  | (apply wlb (j := 0); exact rfl; exact rfl; exact rfl; exact rfl; exact rfl; exact rfl)
                  | (apply wlb (j := 1); exact rfl; exact rfl; exact rfl; exact rfl; exact rfl; exact rfl)
                  | (apply wlb (j := 2); exact rfl; exact rfl; exact rfl; exact rfl; exact rfl; exact rfl)
                  | (apply wlb (j := 3); exact rfl; exact rfl; exact rfl; exact rfl; exact rfl; exact rfl)
                  | (apply wln; exact rfl; exact rfl; exact rfl; exact rfl)
                  | (apply wpu; exact rfl; exact rfl; exact rfl)
                  | (apply wbx; exact rfl; exact rfl; exact rfl; intro _)
                  | refine wc_block ?_
                  | (apply wc_true; exact rfl)
                  | (apply wc_false; exact rfl)
                  | refine wc_skip ?_
                  | refine wc_exit ?_
                  | refine wc_ret ?_
                  | refine we_then_exit ?_
                  | refine we_then_ret ?_
                  | refine we_in_normal ?_
                  | refine we_in_ret ?_
                  | refine we_in_here ?_
                  | (apply we_in_there; exact rfl))
                rename_i bt bd bn ba
                refine wsw 0 rfl rfl rfl rfl rfl (plain2 _ _) rfl rfl ?_
                refine wl_nil (we_then_wc ?_)
                have hcr : 0 ≤ c ∧ c < 1073741789 := c2
                have hc64 : in64 (-c) ∧ in64 t0 ∧ in64 t1 ∧ in64 c := by unfold in64; unfold numP at c2 m0 m1; omega
                refine wc_cut (ι := Unit) (fun _ => [(17, .pointer (some ⟨bl, 0, none⟩)), (13, .int .i64 (occH d0 n0)), (15, .int .i64 (occH d1 n1)), (6, .pointer (some ⟨bt, 0, none⟩)), (7, .pointer (some ⟨bd, 0, none⟩)), (8, .pointer (some ⟨bn, 0, none⟩)), (10, .pointer (some ⟨ba, 0, none⟩)), (3, .int .i64 c), (5, .int .i64 d)])
                  (fun _ => [(bl, [.int .i64 (leftN t0 c p), .int .i64 (leftN t1 c q)], 34), (ba, [.bool p, .bool q], 35), (bn, [.int .i64 n0, .int .i64 n1], 34), (bd, [.int .i64 d0, .int .i64 d1], 34), (bt, [.int .i64 t0, .int .i64 t1], 34)]) (fun _ => True) ?_ ?_
                · cases p <;> cases q
                  all_goals
                    repeat (first
                      | (apply ws; exact rfl; exact rfl; exact rfl)
                      | refine wc_seq ?_
                      | refine wc_region ?_
                      | refine wl_nil ?_
                      | refine we_round ?_
                      | refine we_then_wc ?_
                      | (apply wi64; exact rfl; omega; omega; exact rfl; exact rfl)
                      | (apply wfa; exact rfl; exact rfl; exact rfl; exact rfl)
                      | (apply wct; exact rfl; omega; exact rfl; exact rfl)
                      | (apply wcf; exact rfl; omega; exact rfl; exact rfl)
                      | (apply wn; exact rfl; exact rfl)
                      | (apply wlb (j := 0); exact rfl; exact rfl; exact rfl; exact rfl; exact rfl; exact rfl)
                      | (apply wlb (j := 1); exact rfl; exact rfl; exact rfl; exact rfl; exact rfl; exact rfl)
                      | (apply wlb (j := 2); exact rfl; exact rfl; exact rfl; exact rfl; exact rfl; exact rfl)
                      | (apply wlb (j := 3); exact rfl; exact rfl; exact rfl; exact rfl; exact rfl; exact rfl)
                      | (apply wln; exact rfl; exact rfl; exact rfl; exact rfl)
                      | (apply wpu; exact rfl; exact rfl; exact rfl)
                      | (apply wbx; exact rfl; exact rfl; exact rfl; intro _)
                      | refine wc_block ?_
                      | (apply wc_true; exact rfl)
                      | (apply wc_false; exact rfl)
                      | refine wc_skip ?_
                      | refine wc_exit ?_
                      | refine wc_ret ?_
                      | refine we_then_exit ?_
                      | refine we_then_ret ?_
                      | refine we_in_normal ?_
                      | refine we_in_ret ?_
                      | refine we_in_here ?_
                      | (apply we_in_there; exact rfl))
                    refine wc_rounds 2 ?_
                    repeat (first
                      | (apply ws; exact rfl; exact rfl; exact rfl)
                      | refine wl_still rfl rfl rfl (od_indexAddrA1 0 rfl rfl rfl rfl rfl (by omega)) ?_
                      | refine wl_still rfl rfl rfl (od_indexAddrA1 1 rfl rfl rfl rfl rfl (by omega)) ?_
                      | (apply wlb (j := 4); exact rfl; exact rfl; exact rfl; exact rfl; exact rfl; exact rfl)
                      | (apply wlb (j := 5); exact rfl; exact rfl; exact rfl; exact rfl; exact rfl; exact rfl)
                      | (apply wlb (j := 6); exact rfl; exact rfl; exact rfl; exact rfl; exact rfl; exact rfl)
                      | (apply wq Tryd.call20; exact rfl; exact rfl; exact rfl; exact (fun w _ => field_Add t0 (-c) hc64.2.1 hc64.1 w))
                      | (apply wq Tryd.call20; exact rfl; exact rfl; exact rfl; exact (fun w _ => field_Add t1 (-c) hc64.2.2.1 hc64.1 w))
                      | (apply wst 0; exact rfl; exact rfl; exact rfl; exact rfl; exact rfl; exact (show (0 : Nat) < 2 from by decide); exact rfl)
                      | (apply wst 0; exact rfl; exact rfl; exact rfl; exact rfl; exact rfl; exact (show (1 : Nat) < 2 from by decide); exact rfl)
                      | refine wc_seq ?_
                      | refine wc_region ?_
                      | refine wl_nil ?_
                      | refine we_round ?_
                      | refine we_then_wc ?_
                      | (apply wi64; exact rfl; omega; omega; exact rfl; exact rfl)
                      | (apply wfa; exact rfl; exact rfl; exact rfl; exact rfl)
                      | (apply wct; exact rfl; omega; exact rfl; exact rfl)
                      | (apply wcf; exact rfl; omega; exact rfl; exact rfl)
                      | (apply wn; exact rfl; exact rfl)
                      | (apply wlb (j := 0); exact rfl; exact rfl; exact rfl; exact rfl; exact rfl; exact rfl)
                      | (apply wlb (j := 1); exact rfl; exact rfl; exact rfl; exact rfl; exact rfl; exact rfl)
                      | (apply wlb (j := 2); exact rfl; exact rfl; exact rfl; exact rfl; exact rfl; exact rfl)
                      | (apply wlb (j := 3); exact rfl; exact rfl; exact rfl; exact rfl; exact rfl; exact rfl)
                      | (apply wln; exact rfl; exact rfl; exact rfl; exact rfl)
                      | (apply wpu; exact rfl; exact rfl; exact rfl)
                      | (apply wbx; exact rfl; exact rfl; exact rfl; intro _)
                      | refine wc_block ?_
                      | (apply wc_true; exact rfl)
                      | (apply wc_false; exact rfl)
                      | refine wc_skip ?_
                      | refine wc_exit ?_
                      | refine wc_ret ?_
                      | refine we_then_exit ?_
                      | refine we_then_ret ?_
                      | refine we_in_normal ?_
                      | refine we_in_ret ?_
                      | refine we_in_here ?_
                      | (apply we_in_there; exact rfl))
                    exact we_mid () trivial ⟨rfl, rfl, rfl, rfl, rfl, rfl, rfl, rfl, rfl, trivial⟩ (List.Sublist.refl _)
                rintro _ -
                have r0 := left_range (c := c) (p := p) m0
                have r1 := left_range (c := c) (p := q) m1
                generalize hL0 : leftN t0 c p = L0 at *
                generalize hL1 : leftN t1 c q = L1 at *
                have hgr := hashP_range [116, 97, 103] (encL [.I d0, .I n0])
                have hhr := hashP_range [116, 97, 103] (encL [.I d1, .I n1])
                have hgr' : 0 ≤ occH d0 n0 ∧ occH d0 n0 < 1073741789 := hgr
                have hhr' : 0 ≤ occH d1 n1 ∧ occH d1 n1 < 1073741789 := hhr
                generalize hG : occH d0 n0 = G at *
                generalize hH : occH d1 n1 = H at *
                obtain ⟨D, hD⟩ : ∃ D : Nat, (D : Int) = (G + -H) % 1073741789 := ⟨((G + -H) % 1073741789).toNat, by omega⟩
                obtain ⟨r, hr1, hr2, hinv⟩ := inverse_calls D (by omega) (by omega)
                rw [hD] at hinv
                have hdr : (G + -H) % 1073741789 * (r : Int) % 1073741789 = 1 := by rw [← hD]; omega
                obtain ⟨b, hb⟩ : ∃ b, b = (L0 + -L1) % 1073741789 * (r : Int) % 1073741789 := ⟨_, rfl⟩
                obtain ⟨a, hA⟩ : ∃ a, a = (L0 + -(b * G % 1073741789)) % 1073741789 := ⟨_, rfl⟩
                have hpl := two_plain hdr r0 r1 hb
                rw [← hA] at hpl
                have hbr : 0 ≤ b ∧ b < 1073741789 := by omega
                have har : 0 ≤ a ∧ a < 1073741789 := by omega
                have hm1 := field_Mul ((L0 + -L1) % 1073741789) (r : Int) (by unfold in64; omega) (by unfold in64; omega)
                rw [← hb] at hm1
                have hm2 := field_Mul b G (by unfold in64; omega) (by unfold in64; omega)
                have ha1 := field_Add L0 (-(b * G % 1073741789)) (by unfold in64; omega) (by unfold in64; omega)
                rw [← hA] at ha1
                have ha2 := field_Add G (-H) (by unfold in64; omega) (by unfold in64; omega)
                have ha3 := field_Add L0 (-L1) (by unfold in64; omega) (by unfold in64; omega)
                have hright : rightP a b c := ⟨har, hbr, by omega, hcr.2⟩
                have R0 : readN a b c (occH d0 n0) t0 = (p, true) := by rw [hG]; exact read_left (by rw [hL0]; exact hpl.1) m0 (by omega)
                have R1 : readN a b c (occH d1 n1) t1 = (q, true) := by rw [hH]; exact read_left (by rw [hL1]; exact hpl.2) m1 (by omega)
                repeat (first
                  | (apply ws; exact rfl; exact rfl; exact rfl)
                  | refine wl_still rfl rfl rfl (od_indexAddrA1 0 rfl rfl rfl rfl rfl (by omega)) ?_
                  | refine wl_still rfl rfl rfl (od_indexAddrA1 1 rfl rfl rfl rfl rfl (by omega)) ?_
                  | (apply wlb (j := 4); exact rfl; exact rfl; exact rfl; exact rfl; exact rfl; exact rfl)
                  | (apply wlb (j := 5); exact rfl; exact rfl; exact rfl; exact rfl; exact rfl; exact rfl)
                  | (apply wlb (j := 6); exact rfl; exact rfl; exact rfl; exact rfl; exact rfl; exact rfl)
                  | (apply wlb (j := 7); exact rfl; exact rfl; exact rfl; exact rfl; exact rfl; exact rfl)
                  | (apply wq Tryd.call20; exact rfl; exact rfl; exact rfl; exact (fun w _ => ha2 w))
                  | (apply wq Tryd.call21; exact rfl; exact rfl; exact rfl; exact (fun w _ => hinv w))
                  | (apply wq Tryd.call20; exact rfl; exact rfl; exact rfl; exact (fun w _ => ha3 w))
                  | (apply wq Tryd.call22; exact rfl; exact rfl; exact rfl; exact (fun w _ => hm1 w))
                  | refine wc_seq ?_
                  | refine wc_region ?_
                  | refine wl_nil ?_
                  | refine we_round ?_
                  | refine we_then_wc ?_
                  | (apply wi64; exact rfl; omega; omega; exact rfl; exact rfl)
                  | (apply wfa; exact rfl; exact rfl; exact rfl; exact rfl)
                  | (apply wct; exact rfl; omega; exact rfl; exact rfl)
                  | (apply wcf; exact rfl; omega; exact rfl; exact rfl)
                  | (apply wn; exact rfl; exact rfl)
                  | (apply wlb (j := 0); exact rfl; exact rfl; exact rfl; exact rfl; exact rfl; exact rfl)
                  | (apply wlb (j := 1); exact rfl; exact rfl; exact rfl; exact rfl; exact rfl; exact rfl)
                  | (apply wlb (j := 2); exact rfl; exact rfl; exact rfl; exact rfl; exact rfl; exact rfl)
                  | (apply wlb (j := 3); exact rfl; exact rfl; exact rfl; exact rfl; exact rfl; exact rfl)
                  | (apply wln; exact rfl; exact rfl; exact rfl; exact rfl)
                  | (apply wpu; exact rfl; exact rfl; exact rfl)
                  | (apply wbx; exact rfl; exact rfl; exact rfl; intro _)
                  | refine wc_block ?_
                  | (apply wc_true; exact rfl)
                  | (apply wc_false; exact rfl)
                  | refine wc_skip ?_
                  | refine wc_exit ?_
                  | refine wc_ret ?_
                  | refine we_then_exit ?_
                  | refine we_then_ret ?_
                  | refine we_in_normal ?_
                  | refine we_in_ret ?_
                  | refine we_in_here ?_
                  | (apply we_in_there; exact rfl))
                refine wc_plan _ none [(0, true), (1, true), (2, true), (3, true), (4, true), (5, true), (6, true), (7, true)] (by kernel_rfl) (List.Sublist.refl _) ?_
                repeat (first
                  | (apply ps; exact rfl; exact rfl; exact rfl; exact rfl)
                  | (apply pia (k := 0); exact rfl; exact rfl; exact rfl; exact rfl; exact rfl; (first | exact rfl | omega); omega; exact rfl; exact rfl)
                  | (apply pq Tryd.call22; exact rfl; exact rfl; exact rfl; exact rfl; exact (fun w _ => hm2 w))
                  | (apply pq Tryd.call20; exact rfl; exact rfl; exact rfl; exact rfl; exact (fun w _ => ha1 w))
                  | (apply pfa; exact rfl; exact rfl; exact rfl; exact rfl; exact rfl)
                  | (apply pi64; exact rfl; exact rfl; omega; omega; exact rfl; exact rfl)
                  | (apply pct; exact rfl; exact rfl; omega; exact rfl; exact rfl)
                  | (apply pcf; exact rfl; exact rfl; omega; exact rfl; exact rfl)
                  | (apply wp_not; exact rfl; exact rfl; exact rfl)
                  | (apply plb (j := 0); exact rfl; exact rfl; exact rfl; exact rfl; exact rfl; exact rfl; exact rfl)
                  | (apply plb (j := 1); exact rfl; exact rfl; exact rfl; exact rfl; exact rfl; exact rfl; exact rfl)
                  | (apply plb (j := 2); exact rfl; exact rfl; exact rfl; exact rfl; exact rfl; exact rfl; exact rfl)
                  | (apply pln; exact rfl; exact rfl; exact rfl; exact rfl; exact rfl)
                  | (apply ppu; exact rfl; exact rfl; exact rfl; exact rfl)
                  | (apply pfs; exact rfl; exact rfl; exact rfl; exact rfl)
                  | apply wp_nil)
                repeat (first
                  | (apply ws; exact rfl; exact rfl; exact rfl)
                  | refine wl_still rfl rfl rfl (od_struct [.int .i64 0, .int .i64 0, .int .i64 0] [.int .i64 a, .int .i64 b, .int .i64 c] rfl rfl Tryd.zeroValue23 rfl rfl) ?_
                  | (apply wal Tryd.zeroValue23 rfl; exact rfl; exact rfl; intro bz)
                  | (apply wsw (j := 0); exact rfl; exact rfl; exact rfl; exact rfl; exact rfl; exact plain3 _ _ _; exact rfl; exact rfl)
                  | (apply wlab (j := 0); exact rfl; exact rfl; exact rfl; exact rfl; exact rfl; exact rfl; exact rfl)
                  | (apply wlab (j := 1); exact rfl; exact rfl; exact rfl; exact rfl; exact rfl; exact rfl; exact rfl)
                  | (apply wq Tryd.call14; exact rfl; exact rfl; exact rfl; exact (fun w _ => ref_Right_t hright w))
                  | refine wc_seq ?_
                  | refine wc_region ?_
                  | refine wl_nil ?_
                  | refine we_round ?_
                  | refine we_then_wc ?_
                  | (apply wi64; exact rfl; omega; omega; exact rfl; exact rfl)
                  | (apply wfa; exact rfl; exact rfl; exact rfl; exact rfl)
                  | (apply wct; exact rfl; omega; exact rfl; exact rfl)
                  | (apply wcf; exact rfl; omega; exact rfl; exact rfl)
                  | (apply wn; exact rfl; exact rfl)
                  | (apply wlb (j := 0); exact rfl; exact rfl; exact rfl; exact rfl; exact rfl; exact rfl)
                  | (apply wlb (j := 1); exact rfl; exact rfl; exact rfl; exact rfl; exact rfl; exact rfl)
                  | (apply wlb (j := 2); exact rfl; exact rfl; exact rfl; exact rfl; exact rfl; exact rfl)
                  | (apply wlb (j := 3); exact rfl; exact rfl; exact rfl; exact rfl; exact rfl; exact rfl)
                  | (apply wln; exact rfl; exact rfl; exact rfl; exact rfl)
                  | (apply wpu; exact rfl; exact rfl; exact rfl)
                  | (apply wbx; exact rfl; exact rfl; exact rfl; intro _)
                  | refine wc_block ?_
                  | (apply wc_true; exact rfl)
                  | (apply wc_false; exact rfl)
                  | refine wc_skip ?_
                  | refine wc_exit ?_
                  | refine wc_ret ?_
                  | refine we_then_exit ?_
                  | refine we_then_ret ?_
                  | refine we_in_normal ?_
                  | refine we_in_ret ?_
                  | refine we_in_here ?_
                  | (apply we_in_there; exact rfl))
                refine wc_rounds 2 ?_
                repeat (first
                  | (apply ws; exact rfl; exact rfl; exact rfl)
                  | refine wl_still rfl rfl rfl (od_indexAddrA1 0 rfl rfl rfl rfl rfl (by omega)) ?_
                  | refine wl_still rfl rfl rfl (od_indexAddrA1 1 rfl rfl rfl rfl rfl (by omega)) ?_
                  | (apply wlb (j := 4); exact rfl; exact rfl; exact rfl; exact rfl; exact rfl; exact rfl)
                  | (apply wlb (j := 5); exact rfl; exact rfl; exact rfl; exact rfl; exact rfl; exact rfl)
                  | (apply wlb (j := 6); exact rfl; exact rfl; exact rfl; exact rfl; exact rfl; exact rfl)
                  | (apply wlb (j := 7); exact rfl; exact rfl; exact rfl; exact rfl; exact rfl; exact rfl)
                  | refine wc_seq ?_
                  | refine wc_region ?_
                  | refine wl_nil ?_
                  | refine we_round ?_
                  | refine we_then_wc ?_
                  | (apply wi64; exact rfl; omega; omega; exact rfl; exact rfl)
                  | (apply wfa; exact rfl; exact rfl; exact rfl; exact rfl)
                  | (apply wct; exact rfl; omega; exact rfl; exact rfl)
                  | (apply wcf; exact rfl; omega; exact rfl; exact rfl)
                  | (apply wn; exact rfl; exact rfl)
                  | (apply wlb (j := 0); exact rfl; exact rfl; exact rfl; exact rfl; exact rfl; exact rfl)
                  | (apply wlb (j := 1); exact rfl; exact rfl; exact rfl; exact rfl; exact rfl; exact rfl)
                  | (apply wlb (j := 2); exact rfl; exact rfl; exact rfl; exact rfl; exact rfl; exact rfl)
                  | (apply wlb (j := 3); exact rfl; exact rfl; exact rfl; exact rfl; exact rfl; exact rfl)
                  | (apply wln; exact rfl; exact rfl; exact rfl; exact rfl)
                  | (apply wpu; exact rfl; exact rfl; exact rfl)
                  | (apply wbx; exact rfl; exact rfl; exact rfl; intro _)
                  | refine wc_block ?_
                  | (apply wc_true; exact rfl)
                  | (apply wc_false; exact rfl)
                  | refine wc_skip ?_
                  | refine wc_exit ?_
                  | refine wc_ret ?_
                  | refine we_then_exit ?_
                  | refine we_then_ret ?_
                  | refine we_in_normal ?_
                  | refine we_in_ret ?_
                  | refine we_in_here ?_
                  | (apply we_in_there; exact rfl))
                refine wc_plan _ none [(0, true), (1, true), (2, true), (3, true), (4, true), (5, true), (6, true), (7, true), (8, true), (9, true), (10, true), (11, true), (12, true), (13, true), (14, true), (15, true), (16, true), (17, true)] (by kernel_rfl) (List.Sublist.refl _) ?_
                repeat (first
                  | (apply ps; exact rfl; exact rfl; exact rfl; exact rfl)
                  | (apply pia (k := 0); exact rfl; exact rfl; exact rfl; exact rfl; exact rfl; (first | exact rfl | omega); omega; exact rfl; exact rfl)
                  | (apply wp_still; exact rfl; exact rfl; exact rfl; exact (od_loadAB 0 rfl rfl rfl rfl rfl))
                  | (apply plb (j := 2); exact rfl; exact rfl; exact rfl; exact rfl; exact rfl; exact rfl; exact rfl)
                  | (apply plb (j := 3); exact rfl; exact rfl; exact rfl; exact rfl; exact rfl; exact rfl; exact rfl)
                  | (apply plb (j := 4); exact rfl; exact rfl; exact rfl; exact rfl; exact rfl; exact rfl; exact rfl)
                  | (apply plb (j := 5); exact rfl; exact rfl; exact rfl; exact rfl; exact rfl; exact rfl; exact rfl)
                  | (apply plb (j := 6); exact rfl; exact rfl; exact rfl; exact rfl; exact rfl; exact rfl; exact rfl)
                  | (apply plb (j := 7); exact rfl; exact rfl; exact rfl; exact rfl; exact rfl; exact rfl; exact rfl)
                  | (apply pq Tryd.call17; exact rfl; exact rfl; exact rfl; exact rfl; exact (fun w' h => read_ok hright o0 m0 R0 w' (hL.ext h.ext_all)))
                  | (apply pfa; exact rfl; exact rfl; exact rfl; exact rfl; exact rfl)
                  | (apply pi64; exact rfl; exact rfl; omega; omega; exact rfl; exact rfl)
                  | (apply pct; exact rfl; exact rfl; omega; exact rfl; exact rfl)
                  | (apply pcf; exact rfl; exact rfl; omega; exact rfl; exact rfl)
                  | (apply wp_not; exact rfl; exact rfl; exact rfl)
                  | (apply plb (j := 0); exact rfl; exact rfl; exact rfl; exact rfl; exact rfl; exact rfl; exact rfl)
                  | (apply plb (j := 1); exact rfl; exact rfl; exact rfl; exact rfl; exact rfl; exact rfl; exact rfl)
                  | (apply plb (j := 2); exact rfl; exact rfl; exact rfl; exact rfl; exact rfl; exact rfl; exact rfl)
                  | (apply pln; exact rfl; exact rfl; exact rfl; exact rfl; exact rfl)
                  | (apply ppu; exact rfl; exact rfl; exact rfl; exact rfl)
                  | (apply pfs; exact rfl; exact rfl; exact rfl; exact rfl)
                  | apply wp_nil)
                repeat (first
                  | (apply ws; exact rfl; exact rfl; exact rfl)
                  | refine wl_still rfl rfl rfl (od_indexAddrA1 0 rfl rfl rfl rfl rfl (by omega)) ?_
                  | refine wl_still rfl rfl rfl (od_indexAddrA1 1 rfl rfl rfl rfl rfl (by omega)) ?_
                  | (apply wlb (j := 4); exact rfl; exact rfl; exact rfl; exact rfl; exact rfl; exact rfl)
                  | (apply wlb (j := 5); exact rfl; exact rfl; exact rfl; exact rfl; exact rfl; exact rfl)
                  | (apply wlb (j := 6); exact rfl; exact rfl; exact rfl; exact rfl; exact rfl; exact rfl)
                  | (apply wlb (j := 7); exact rfl; exact rfl; exact rfl; exact rfl; exact rfl; exact rfl)
                  | refine wl_still rfl rfl rfl (od_eqBool (r := false) (Or.inr ⟨rfl, by simp⟩) rfl rfl rfl) ?_
                  | refine wc_seq ?_
                  | refine wc_region ?_
                  | refine wl_nil ?_
                  | refine we_round ?_
                  | refine we_then_wc ?_
                  | (apply wi64; exact rfl; omega; omega; exact rfl; exact rfl)
                  | (apply wfa; exact rfl; exact rfl; exact rfl; exact rfl)
                  | (apply wct; exact rfl; omega; exact rfl; exact rfl)
                  | (apply wcf; exact rfl; omega; exact rfl; exact rfl)
                  | (apply wn; exact rfl; exact rfl)
                  | (apply wlb (j := 0); exact rfl; exact rfl; exact rfl; exact rfl; exact rfl; exact rfl)
                  | (apply wlb (j := 1); exact rfl; exact rfl; exact rfl; exact rfl; exact rfl; exact rfl)
                  | (apply wlb (j := 2); exact rfl; exact rfl; exact rfl; exact rfl; exact rfl; exact rfl)
                  | (apply wlb (j := 3); exact rfl; exact rfl; exact rfl; exact rfl; exact rfl; exact rfl)
                  | (apply wln; exact rfl; exact rfl; exact rfl; exact rfl)
                  | (apply wpu; exact rfl; exact rfl; exact rfl)
                  | (apply wbx; exact rfl; exact rfl; exact rfl; intro _)
                  | refine wc_block ?_
                  | (apply wc_true; exact rfl)
                  | (apply wc_false; exact rfl)
                  | refine wc_skip ?_
                  | refine wc_exit ?_
                  | refine wc_ret ?_
                  | refine we_then_exit ?_
                  | refine we_then_ret ?_
                  | refine we_in_normal ?_
                  | refine we_in_ret ?_
                  | refine we_in_here ?_
                  | (apply we_in_there; exact rfl))
                refine wc_plan _ none [(0, true), (1, true), (2, true), (3, true), (4, true), (5, true), (6, true), (7, true), (8, true), (9, true), (10, true), (11, true), (12, true), (13, true), (14, true), (15, true), (16, true), (17, true)] (by kernel_rfl) (List.Sublist.refl _) ?_
                repeat (first
                  | (apply ps; exact rfl; exact rfl; exact rfl; exact rfl)
                  | (apply pia (k := 1); exact rfl; exact rfl; exact rfl; exact rfl; exact rfl; (first | exact rfl | omega); omega; exact rfl; exact rfl)
                  | (apply wp_still; exact rfl; exact rfl; exact rfl; exact (od_loadAB 0 rfl rfl rfl rfl rfl))
                  | (apply plb (j := 2); exact rfl; exact rfl; exact rfl; exact rfl; exact rfl; exact rfl; exact rfl)
                  | (apply plb (j := 3); exact rfl; exact rfl; exact rfl; exact rfl; exact rfl; exact rfl; exact rfl)
                  | (apply plb (j := 4); exact rfl; exact rfl; exact rfl; exact rfl; exact rfl; exact rfl; exact rfl)
                  | (apply plb (j := 5); exact rfl; exact rfl; exact rfl; exact rfl; exact rfl; exact rfl; exact rfl)
                  | (apply plb (j := 6); exact rfl; exact rfl; exact rfl; exact rfl; exact rfl; exact rfl; exact rfl)
                  | (apply plb (j := 7); exact rfl; exact rfl; exact rfl; exact rfl; exact rfl; exact rfl; exact rfl)
                  | (apply pq Tryd.call17; exact rfl; exact rfl; exact rfl; exact rfl; exact (fun w' h => read_ok hright o1 m1 R1 w' (hL.ext h.ext_all)))
                  | (apply pfa; exact rfl; exact rfl; exact rfl; exact rfl; exact rfl)
                  | (apply pi64; exact rfl; exact rfl; omega; omega; exact rfl; exact rfl)
                  | (apply pct; exact rfl; exact rfl; omega; exact rfl; exact rfl)
                  | (apply pcf; exact rfl; exact rfl; omega; exact rfl; exact rfl)
                  | (apply wp_not; exact rfl; exact rfl; exact rfl)
                  | (apply plb (j := 0); exact rfl; exact rfl; exact rfl; exact rfl; exact rfl; exact rfl; exact rfl)
                  | (apply plb (j := 1); exact rfl; exact rfl; exact rfl; exact rfl; exact rfl; exact rfl; exact rfl)
                  | (apply plb (j := 2); exact rfl; exact rfl; exact rfl; exact rfl; exact rfl; exact rfl; exact rfl)
                  | (apply pln; exact rfl; exact rfl; exact rfl; exact rfl; exact rfl)
                  | (apply ppu; exact rfl; exact rfl; exact rfl; exact rfl)
                  | (apply pfs; exact rfl; exact rfl; exact rfl; exact rfl)
                  | apply wp_nil)
                by_cases e1 : d < 1
                · repeat (first
                    | (apply ws; exact rfl; exact rfl; exact rfl)
                    | refine wl_still rfl rfl rfl (od_indexAddrA1 0 rfl rfl rfl rfl rfl (by omega)) ?_
                    | refine wl_still rfl rfl rfl (od_indexAddrA1 1 rfl rfl rfl rfl rfl (by omega)) ?_
                    | (apply wlb (j := 4); exact rfl; exact rfl; exact rfl; exact rfl; exact rfl; exact rfl)
                    | (apply wlb (j := 5); exact rfl; exact rfl; exact rfl; exact rfl; exact rfl; exact rfl)
                    | (apply wlb (j := 6); exact rfl; exact rfl; exact rfl; exact rfl; exact rfl; exact rfl)
                    | (apply wlb (j := 7); exact rfl; exact rfl; exact rfl; exact rfl; exact rfl; exact rfl)
                    | refine wl_still rfl rfl rfl (od_eqBool (r := false) (Or.inr ⟨rfl, by simp⟩) rfl rfl rfl) ?_
                    | refine wc_seq ?_
                    | refine wc_region ?_
                    | refine wl_nil ?_
                    | refine we_round ?_
                    | refine we_then_wc ?_
                    | (apply wi64; exact rfl; omega; omega; exact rfl; exact rfl)
                    | (apply wfa; exact rfl; exact rfl; exact rfl; exact rfl)
                    | (apply wct; exact rfl; omega; exact rfl; exact rfl)
                    | (apply wcf; exact rfl; omega; exact rfl; exact rfl)
                    | (apply wn; exact rfl; exact rfl)
                    | (apply wlb (j := 0); exact rfl; exact rfl; exact rfl; exact rfl; exact rfl; exact rfl)
                    | (apply wlb (j := 1); exact rfl; exact rfl; exact rfl; exact rfl; exact rfl; exact rfl)
                    | (apply wlb (j := 2); exact rfl; exact rfl; exact rfl; exact rfl; exact rfl; exact rfl)
                    | (apply wlb (j := 3); exact rfl; exact rfl; exact rfl; exact rfl; exact rfl; exact rfl)
                    | (apply wln; exact rfl; exact rfl; exact rfl; exact rfl)
                    | (apply wpu; exact rfl; exact rfl; exact rfl)
                    | (apply wbx; exact rfl; exact rfl; exact rfl; intro _)
                    | refine wc_block ?_
                    | (apply wc_true; exact rfl)
                    | (apply wc_false; exact rfl)
                    | refine wc_skip ?_
                    | refine wc_exit ?_
                    | refine wc_ret ?_
                    | refine we_then_exit ?_
                    | refine we_then_ret ?_
                    | refine we_in_normal ?_
                    | refine we_in_ret ?_
                    | refine we_in_here ?_
                    | (apply we_in_there; exact rfl))
                  exact we_ret1 (Or.inl rfl) rfl rfl fun w' h => ⟨rfl, h.ext_all⟩
                · by_cases e2 : numP d
                  · have hd : 1 ≤ d ∧ d < 1073741789 := by unfold numP at e2; omega
                    have ha4 := field_Add a d (by unfold in64; omega) (by unfold in64; omega)
                    obtain ⟨k0, q0, B0, K0⟩ := read_by (a := a) (b := b) (c := c) (H := G) (t := t0) (d := d) (p := p) (by rw [hL0]; exact hpl.1) m0 (by omega) hd
                    obtain ⟨k1, q1, B1, K1⟩ := read_by (a := a) (b := b) (c := c) (H := H) (t := t1) (d := d) (p := q) (by rw [hL1]; exact hpl.2) m1 (by omega) hd
                    rw [← hG] at B0
                    rw [← hH] at B1
                    have hright2 : rightP ((a + d) % 1073741789) b c := ⟨by unfold numP; omega, hbr, by omega, hcr.2⟩
                    repeat (first
                      | (apply ws; exact rfl; exact rfl; exact rfl)
                      | refine wl_still rfl rfl rfl (od_indexAddrA1 0 rfl rfl rfl rfl rfl (by omega)) ?_
                      | refine wl_still rfl rfl rfl (od_indexAddrA1 1 rfl rfl rfl rfl rfl (by omega)) ?_
                      | (apply wlb (j := 4); exact rfl; exact rfl; exact rfl; exact rfl; exact rfl; exact rfl)
                      | (apply wlb (j := 5); exact rfl; exact rfl; exact rfl; exact rfl; exact rfl; exact rfl)
                      | (apply wlb (j := 6); exact rfl; exact rfl; exact rfl; exact rfl; exact rfl; exact rfl)
                      | (apply wlb (j := 7); exact rfl; exact rfl; exact rfl; exact rfl; exact rfl; exact rfl)
                      | refine wl_still rfl rfl rfl (od_eqBool (r := false) (Or.inr ⟨rfl, by simp⟩) rfl rfl rfl) ?_
                      | (apply wq Tryd.call16; exact rfl; exact rfl; exact rfl; exact (fun w _ => ref_Number_t e2 w))
                      | (apply wlab (j := 0); exact rfl; exact rfl; exact rfl; exact rfl; exact rfl; exact rfl; exact rfl)
                      | (apply wlab (j := 1); exact rfl; exact rfl; exact rfl; exact rfl; exact rfl; exact rfl; exact rfl)
                      | (apply wal Tryd.zeroValue23 rfl; exact rfl; exact rfl; intro bz)
                      | (apply wsw (j := 0); exact rfl; exact rfl; exact rfl; exact rfl; exact rfl; exact plain3 _ _ _; exact rfl; exact rfl)
                      | (apply wq Tryd.call20; exact rfl; exact rfl; exact rfl; exact (fun w _ => ha4 w))
                      | (apply wst 0; exact rfl; exact rfl; exact rfl; exact rfl; exact rfl; exact (show (0 : Nat) < 3 from by decide); exact rfl)
                      | refine wc_seq ?_
                      | refine wc_region ?_
                      | refine wl_nil ?_
                      | refine we_round ?_
                      | refine we_then_wc ?_
                      | (apply wi64; exact rfl; omega; omega; exact rfl; exact rfl)
                      | (apply wfa; exact rfl; exact rfl; exact rfl; exact rfl)
                      | (apply wct; exact rfl; omega; exact rfl; exact rfl)
                      | (apply wcf; exact rfl; omega; exact rfl; exact rfl)
                      | (apply wn; exact rfl; exact rfl)
                      | (apply wlb (j := 0); exact rfl; exact rfl; exact rfl; exact rfl; exact rfl; exact rfl)
                      | (apply wlb (j := 1); exact rfl; exact rfl; exact rfl; exact rfl; exact rfl; exact rfl)
                      | (apply wlb (j := 2); exact rfl; exact rfl; exact rfl; exact rfl; exact rfl; exact rfl)
                      | (apply wlb (j := 3); exact rfl; exact rfl; exact rfl; exact rfl; exact rfl; exact rfl)
                      | (apply wln; exact rfl; exact rfl; exact rfl; exact rfl)
                      | (apply wpu; exact rfl; exact rfl; exact rfl)
                      | (apply wbx; exact rfl; exact rfl; exact rfl; intro _)
                      | refine wc_block ?_
                      | (apply wc_true; exact rfl)
                      | (apply wc_false; exact rfl)
                      | refine wc_skip ?_
                      | refine wc_exit ?_
                      | refine wc_ret ?_
                      | refine we_then_exit ?_
                      | refine we_then_ret ?_
                      | refine we_in_normal ?_
                      | refine we_in_ret ?_
                      | refine we_in_here ?_
                      | (apply we_in_there; exact rfl))
                    refine wc_rounds 2 ?_
                    repeat (first
                      | (apply ws; exact rfl; exact rfl; exact rfl)
                      | refine wl_still rfl rfl rfl (od_indexAddrA1 0 rfl rfl rfl rfl rfl (by omega)) ?_
                      | refine wl_still rfl rfl rfl (od_indexAddrA1 1 rfl rfl rfl rfl rfl (by omega)) ?_
                      | (apply wlb (j := 4); exact rfl; exact rfl; exact rfl; exact rfl; exact rfl; exact rfl)
                      | (apply wlb (j := 5); exact rfl; exact rfl; exact rfl; exact rfl; exact rfl; exact rfl)
                      | (apply wlb (j := 6); exact rfl; exact rfl; exact rfl; exact rfl; exact rfl; exact rfl)
                      | (apply wlb (j := 7); exact rfl; exact rfl; exact rfl; exact rfl; exact rfl; exact rfl)
                      | refine wc_seq ?_
                      | refine wc_region ?_
                      | refine wl_nil ?_
                      | refine we_round ?_
                      | refine we_then_wc ?_
                      | (apply wi64; exact rfl; omega; omega; exact rfl; exact rfl)
                      | (apply wfa; exact rfl; exact rfl; exact rfl; exact rfl)
                      | (apply wct; exact rfl; omega; exact rfl; exact rfl)
                      | (apply wcf; exact rfl; omega; exact rfl; exact rfl)
                      | (apply wn; exact rfl; exact rfl)
                      | (apply wlb (j := 0); exact rfl; exact rfl; exact rfl; exact rfl; exact rfl; exact rfl)
                      | (apply wlb (j := 1); exact rfl; exact rfl; exact rfl; exact rfl; exact rfl; exact rfl)
                      | (apply wlb (j := 2); exact rfl; exact rfl; exact rfl; exact rfl; exact rfl; exact rfl)
                      | (apply wlb (j := 3); exact rfl; exact rfl; exact rfl; exact rfl; exact rfl; exact rfl)
                      | (apply wln; exact rfl; exact rfl; exact rfl; exact rfl)
                      | (apply wpu; exact rfl; exact rfl; exact rfl)
                      | (apply wbx; exact rfl; exact rfl; exact rfl; intro _)
                      | refine wc_block ?_
                      | (apply wc_true; exact rfl)
                      | (apply wc_false; exact rfl)
                      | refine wc_skip ?_
                      | refine wc_exit ?_
                      | refine wc_ret ?_
                      | refine we_then_exit ?_
                      | refine we_then_ret ?_
                      | refine we_in_normal ?_
                      | refine we_in_ret ?_
                      | refine we_in_here ?_
                      | (apply we_in_there; exact rfl))
                    refine wc_plan _ none [(0, true), (1, true), (2, true), (3, true), (4, true), (5, true), (6, true), (7, true), (8, true), (9, true), (10, true), (11, true), (12, true), (13, true), (14, true), (15, true), (16, true), (17, true)] (by kernel_rfl) (List.Sublist.refl _) ?_
                    repeat (first
                      | (apply ps; exact rfl; exact rfl; exact rfl; exact rfl)
                      | (apply pia (k := 0); exact rfl; exact rfl; exact rfl; exact rfl; exact rfl; (first | exact rfl | omega); omega; exact rfl; exact rfl)
                      | (apply wp_still; exact rfl; exact rfl; exact rfl; exact (od_loadAB 0 rfl rfl rfl rfl rfl))
                      | (apply plb (j := 2); exact rfl; exact rfl; exact rfl; exact rfl; exact rfl; exact rfl; exact rfl)
                      | (apply plb (j := 3); exact rfl; exact rfl; exact rfl; exact rfl; exact rfl; exact rfl; exact rfl)
                      | (apply plb (j := 4); exact rfl; exact rfl; exact rfl; exact rfl; exact rfl; exact rfl; exact rfl)
                      | (apply plb (j := 5); exact rfl; exact rfl; exact rfl; exact rfl; exact rfl; exact rfl; exact rfl)
                      | (apply plb (j := 6); exact rfl; exact rfl; exact rfl; exact rfl; exact rfl; exact rfl; exact rfl)
                      | (apply plb (j := 7); exact rfl; exact rfl; exact rfl; exact rfl; exact rfl; exact rfl; exact rfl)
                      | (apply pq Tryd.call17; exact rfl; exact rfl; exact rfl; exact rfl; exact (fun w' h => read_ok hright2 o0 m0 B0 w' (hL.ext h.ext_all)))
                      | (apply pfa; exact rfl; exact rfl; exact rfl; exact rfl; exact rfl)
                      | (apply pi64; exact rfl; exact rfl; omega; omega; exact rfl; exact rfl)
                      | (apply pct; exact rfl; exact rfl; omega; exact rfl; exact rfl)
                      | (apply pcf; exact rfl; exact rfl; omega; exact rfl; exact rfl)
                      | (apply wp_not; exact rfl; exact rfl; exact rfl)
                      | (apply plb (j := 0); exact rfl; exact rfl; exact rfl; exact rfl; exact rfl; exact rfl; exact rfl)
                      | (apply plb (j := 1); exact rfl; exact rfl; exact rfl; exact rfl; exact rfl; exact rfl; exact rfl)
                      | (apply plb (j := 2); exact rfl; exact rfl; exact rfl; exact rfl; exact rfl; exact rfl; exact rfl)
                      | (apply pln; exact rfl; exact rfl; exact rfl; exact rfl; exact rfl)
                      | (apply ppu; exact rfl; exact rfl; exact rfl; exact rfl)
                      | (apply pfs; exact rfl; exact rfl; exact rfl; exact rfl)
                      | apply wp_nil)
                    cases q0 with
                    | false =>
                      repeat (first
                        | (apply ws; exact rfl; exact rfl; exact rfl)
                        | refine wl_still rfl rfl rfl (od_indexAddrA1 0 rfl rfl rfl rfl rfl (by omega)) ?_
                        | refine wl_still rfl rfl rfl (od_indexAddrA1 1 rfl rfl rfl rfl rfl (by omega)) ?_
                        | (apply wlb (j := 4); exact rfl; exact rfl; exact rfl; exact rfl; exact rfl; exact rfl)
                        | (apply wlb (j := 5); exact rfl; exact rfl; exact rfl; exact rfl; exact rfl; exact rfl)
                        | (apply wlb (j := 6); exact rfl; exact rfl; exact rfl; exact rfl; exact rfl; exact rfl)
                        | (apply wlb (j := 7); exact rfl; exact rfl; exact rfl; exact rfl; exact rfl; exact rfl)
                        | refine wc_seq ?_
                        | refine wc_region ?_
                        | refine wl_nil ?_
                        | refine we_round ?_
                        | refine we_then_wc ?_
                        | (apply wi64; exact rfl; omega; omega; exact rfl; exact rfl)
                        | (apply wfa; exact rfl; exact rfl; exact rfl; exact rfl)
                        | (apply wct; exact rfl; omega; exact rfl; exact rfl)
                        | (apply wcf; exact rfl; omega; exact rfl; exact rfl)
                        | (apply wn; exact rfl; exact rfl)
                        | (apply wlb (j := 0); exact rfl; exact rfl; exact rfl; exact rfl; exact rfl; exact rfl)
                        | (apply wlb (j := 1); exact rfl; exact rfl; exact rfl; exact rfl; exact rfl; exact rfl)
                        | (apply wlb (j := 2); exact rfl; exact rfl; exact rfl; exact rfl; exact rfl; exact rfl)
                        | (apply wlb (j := 3); exact rfl; exact rfl; exact rfl; exact rfl; exact rfl; exact rfl)
                        | (apply wln; exact rfl; exact rfl; exact rfl; exact rfl)
                        | (apply wpu; exact rfl; exact rfl; exact rfl)
                        | (apply wbx; exact rfl; exact rfl; exact rfl; intro _)
                        | refine wc_block ?_
                        | (apply wc_true; exact rfl)
                        | (apply wc_false; exact rfl)
                        | refine wc_skip ?_
                        | refine wc_exit ?_
                        | refine wc_ret ?_
                        | refine we_then_exit ?_
                        | refine we_then_ret ?_
                        | refine we_in_normal ?_
                        | refine we_in_ret ?_
                        | refine we_in_here ?_
                        | (apply we_in_there; exact rfl))
                      refine wc_plan _ none [(0, true), (1, true), (2, true), (3, true), (4, true), (5, true), (6, true), (7, true), (8, true), (9, true), (10, true), (11, true), (12, true), (13, true), (14, true), (15, true), (16, true), (17, true)] (by kernel_rfl) (List.Sublist.refl _) ?_
                      repeat (first
                        | (apply ps; exact rfl; exact rfl; exact rfl; exact rfl)
                        | (apply pia (k := 1); exact rfl; exact rfl; exact rfl; exact rfl; exact rfl; (first | exact rfl | omega); omega; exact rfl; exact rfl)
                        | (apply wp_still; exact rfl; exact rfl; exact rfl; exact (od_loadAB 0 rfl rfl rfl rfl rfl))
                        | (apply plb (j := 2); exact rfl; exact rfl; exact rfl; exact rfl; exact rfl; exact rfl; exact rfl)
                        | (apply plb (j := 3); exact rfl; exact rfl; exact rfl; exact rfl; exact rfl; exact rfl; exact rfl)
                        | (apply plb (j := 4); exact rfl; exact rfl; exact rfl; exact rfl; exact rfl; exact rfl; exact rfl)
                        | (apply plb (j := 5); exact rfl; exact rfl; exact rfl; exact rfl; exact rfl; exact rfl; exact rfl)
                        | (apply plb (j := 6); exact rfl; exact rfl; exact rfl; exact rfl; exact rfl; exact rfl; exact rfl)
                        | (apply plb (j := 7); exact rfl; exact rfl; exact rfl; exact rfl; exact rfl; exact rfl; exact rfl)
                        | (apply pq Tryd.call17; exact rfl; exact rfl; exact rfl; exact rfl; exact (fun w' h => read_ok hright2 o1 m1 B1 w' (hL.ext h.ext_all)))
                        | (apply pfa; exact rfl; exact rfl; exact rfl; exact rfl; exact rfl)
                        | (apply pi64; exact rfl; exact rfl; omega; omega; exact rfl; exact rfl)
                        | (apply pct; exact rfl; exact rfl; omega; exact rfl; exact rfl)
                        | (apply pcf; exact rfl; exact rfl; omega; exact rfl; exact rfl)
                        | (apply wp_not; exact rfl; exact rfl; exact rfl)
                        | (apply plb (j := 0); exact rfl; exact rfl; exact rfl; exact rfl; exact rfl; exact rfl; exact rfl)
                        | (apply plb (j := 1); exact rfl; exact rfl; exact rfl; exact rfl; exact rfl; exact rfl; exact rfl)
                        | (apply plb (j := 2); exact rfl; exact rfl; exact rfl; exact rfl; exact rfl; exact rfl; exact rfl)
                        | (apply pln; exact rfl; exact rfl; exact rfl; exact rfl; exact rfl)
                        | (apply ppu; exact rfl; exact rfl; exact rfl; exact rfl)
                        | (apply pfs; exact rfl; exact rfl; exact rfl; exact rfl)
                        | apply wp_nil)
                      repeat (first
                        | (apply ws; exact rfl; exact rfl; exact rfl)
                        | refine wl_still rfl rfl rfl (od_indexAddrA1 0 rfl rfl rfl rfl rfl (by omega)) ?_
                        | refine wl_still rfl rfl rfl (od_indexAddrA1 1 rfl rfl rfl rfl rfl (by omega)) ?_
                        | (apply wlb (j := 4); exact rfl; exact rfl; exact rfl; exact rfl; exact rfl; exact rfl)
                        | (apply wlb (j := 5); exact rfl; exact rfl; exact rfl; exact rfl; exact rfl; exact rfl)
                        | (apply wlb (j := 6); exact rfl; exact rfl; exact rfl; exact rfl; exact rfl; exact rfl)
                        | (apply wlb (j := 7); exact rfl; exact rfl; exact rfl; exact rfl; exact rfl; exact rfl)
                        | refine wc_seq ?_
                        | refine wc_region ?_
                        | refine wl_nil ?_
                        | refine we_round ?_
                        | refine we_then_wc ?_
                        | (apply wi64; exact rfl; omega; omega; exact rfl; exact rfl)
                        | (apply wfa; exact rfl; exact rfl; exact rfl; exact rfl)
                        | (apply wct; exact rfl; omega; exact rfl; exact rfl)
                        | (apply wcf; exact rfl; omega; exact rfl; exact rfl)
                        | (apply wn; exact rfl; exact rfl)
                        | (apply wlb (j := 0); exact rfl; exact rfl; exact rfl; exact rfl; exact rfl; exact rfl)
                        | (apply wlb (j := 1); exact rfl; exact rfl; exact rfl; exact rfl; exact rfl; exact rfl)
                        | (apply wlb (j := 2); exact rfl; exact rfl; exact rfl; exact rfl; exact rfl; exact rfl)
                        | (apply wlb (j := 3); exact rfl; exact rfl; exact rfl; exact rfl; exact rfl; exact rfl)
                        | (apply wln; exact rfl; exact rfl; exact rfl; exact rfl)
                        | (apply wpu; exact rfl; exact rfl; exact rfl)
                        | (apply wbx; exact rfl; exact rfl; exact rfl; intro _)
                        | refine wc_block ?_
                        | (apply wc_true; exact rfl)
                        | (apply wc_false; exact rfl)
                        | refine wc_skip ?_
                        | refine wc_exit ?_
                        | refine wc_ret ?_
                        | refine we_then_exit ?_
                        | refine we_then_ret ?_
                        | refine we_in_normal ?_
                        | refine we_in_ret ?_
                        | refine we_in_here ?_
                        | (apply we_in_there; exact rfl))
                      exact we_ret1 (Or.inl rfl) rfl rfl fun w' h => ⟨rfl, h.ext_all⟩
                    | true =>
                      obtain rfl := K0 rfl
                      repeat (first
                        | (apply ws; exact rfl; exact rfl; exact rfl)
                        | refine wl_still rfl rfl rfl (od_indexAddrA1 0 rfl rfl rfl rfl rfl (by omega)) ?_
                        | refine wl_still rfl rfl rfl (od_indexAddrA1 1 rfl rfl rfl rfl rfl (by omega)) ?_
                        | (apply wlb (j := 4); exact rfl; exact rfl; exact rfl; exact rfl; exact rfl; exact rfl)
                        | (apply wlb (j := 5); exact rfl; exact rfl; exact rfl; exact rfl; exact rfl; exact rfl)
                        | (apply wlb (j := 6); exact rfl; exact rfl; exact rfl; exact rfl; exact rfl; exact rfl)
                        | (apply wlb (j := 7); exact rfl; exact rfl; exact rfl; exact rfl; exact rfl; exact rfl)
                        | refine wl_still rfl rfl rfl (od_eqBool (r := false) (Or.inl ⟨rfl, by simp⟩) rfl rfl rfl) ?_
                        | refine wc_seq ?_
                        | refine wc_region ?_
                        | refine wl_nil ?_
                        | refine we_round ?_
                        | refine we_then_wc ?_
                        | (apply wi64; exact rfl; omega; omega; exact rfl; exact rfl)
                        | (apply wfa; exact rfl; exact rfl; exact rfl; exact rfl)
                        | (apply wct; exact rfl; omega; exact rfl; exact rfl)
                        | (apply wcf; exact rfl; omega; exact rfl; exact rfl)
                        | (apply wn; exact rfl; exact rfl)
                        | (apply wlb (j := 0); exact rfl; exact rfl; exact rfl; exact rfl; exact rfl; exact rfl)
                        | (apply wlb (j := 1); exact rfl; exact rfl; exact rfl; exact rfl; exact rfl; exact rfl)
                        | (apply wlb (j := 2); exact rfl; exact rfl; exact rfl; exact rfl; exact rfl; exact rfl)
                        | (apply wlb (j := 3); exact rfl; exact rfl; exact rfl; exact rfl; exact rfl; exact rfl)
                        | (apply wln; exact rfl; exact rfl; exact rfl; exact rfl)
                        | (apply wpu; exact rfl; exact rfl; exact rfl)
                        | (apply wbx; exact rfl; exact rfl; exact rfl; intro _)
                        | refine wc_block ?_
                        | (apply wc_true; exact rfl)
                        | (apply wc_false; exact rfl)
                        | refine wc_skip ?_
                        | refine wc_exit ?_
                        | refine wc_ret ?_
                        | refine we_then_exit ?_
                        | refine we_then_ret ?_
                        | refine we_in_normal ?_
                        | refine we_in_ret ?_
                        | refine we_in_here ?_
                        | (apply we_in_there; exact rfl))
                      refine wc_plan _ none [(0, true), (1, true), (2, true), (3, true), (4, true), (5, true), (6, true), (7, true), (8, true), (9, true), (10, true), (11, true), (12, true), (13, true), (14, true), (15, true), (16, true), (17, true)] (by kernel_rfl) (List.Sublist.refl _) ?_
                      repeat (first
                        | (apply ps; exact rfl; exact rfl; exact rfl; exact rfl)
                        | (apply pia (k := 1); exact rfl; exact rfl; exact rfl; exact rfl; exact rfl; (first | exact rfl | omega); omega; exact rfl; exact rfl)
                        | (apply wp_still; exact rfl; exact rfl; exact rfl; exact (od_loadAB 0 rfl rfl rfl rfl rfl))
                        | (apply plb (j := 2); exact rfl; exact rfl; exact rfl; exact rfl; exact rfl; exact rfl; exact rfl)
                        | (apply plb (j := 3); exact rfl; exact rfl; exact rfl; exact rfl; exact rfl; exact rfl; exact rfl)
                        | (apply plb (j := 4); exact rfl; exact rfl; exact rfl; exact rfl; exact rfl; exact rfl; exact rfl)
                        | (apply plb (j := 5); exact rfl; exact rfl; exact rfl; exact rfl; exact rfl; exact rfl; exact rfl)
                        | (apply plb (j := 6); exact rfl; exact rfl; exact rfl; exact rfl; exact rfl; exact rfl; exact rfl)
                        | (apply plb (j := 7); exact rfl; exact rfl; exact rfl; exact rfl; exact rfl; exact rfl; exact rfl)
                        | (apply pq Tryd.call17; exact rfl; exact rfl; exact rfl; exact rfl; exact (fun w' h => read_ok hright2 o1 m1 B1 w' (hL.ext h.ext_all)))
                        | (apply pfa; exact rfl; exact rfl; exact rfl; exact rfl; exact rfl)
                        | (apply pi64; exact rfl; exact rfl; omega; omega; exact rfl; exact rfl)
                        | (apply pct; exact rfl; exact rfl; omega; exact rfl; exact rfl)
                        | (apply pcf; exact rfl; exact rfl; omega; exact rfl; exact rfl)
                        | (apply wp_not; exact rfl; exact rfl; exact rfl)
                        | (apply plb (j := 0); exact rfl; exact rfl; exact rfl; exact rfl; exact rfl; exact rfl; exact rfl)
                        | (apply plb (j := 1); exact rfl; exact rfl; exact rfl; exact rfl; exact rfl; exact rfl; exact rfl)
                        | (apply plb (j := 2); exact rfl; exact rfl; exact rfl; exact rfl; exact rfl; exact rfl; exact rfl)
                        | (apply pln; exact rfl; exact rfl; exact rfl; exact rfl; exact rfl)
                        | (apply ppu; exact rfl; exact rfl; exact rfl; exact rfl)
                        | (apply pfs; exact rfl; exact rfl; exact rfl; exact rfl)
                        | apply wp_nil)
                      repeat (first
                        | (apply ws; exact rfl; exact rfl; exact rfl)
                        | refine wl_still rfl rfl rfl (od_indexAddrA1 0 rfl rfl rfl rfl rfl (by omega)) ?_
                        | refine wl_still rfl rfl rfl (od_indexAddrA1 1 rfl rfl rfl rfl rfl (by omega)) ?_
                        | (apply wlb (j := 4); exact rfl; exact rfl; exact rfl; exact rfl; exact rfl; exact rfl)
                        | (apply wlb (j := 5); exact rfl; exact rfl; exact rfl; exact rfl; exact rfl; exact rfl)
                        | (apply wlb (j := 6); exact rfl; exact rfl; exact rfl; exact rfl; exact rfl; exact rfl)
                        | (apply wlb (j := 7); exact rfl; exact rfl; exact rfl; exact rfl; exact rfl; exact rfl)
                        | refine wc_seq ?_
                        | refine wc_region ?_
                        | refine wl_nil ?_
                        | refine we_round ?_
                        | refine we_then_wc ?_
                        | (apply wi64; exact rfl; omega; omega; exact rfl; exact rfl)
                        | (apply wfa; exact rfl; exact rfl; exact rfl; exact rfl)
                        | (apply wct; exact rfl; omega; exact rfl; exact rfl)
                        | (apply wcf; exact rfl; omega; exact rfl; exact rfl)
                        | (apply wn; exact rfl; exact rfl)
                        | (apply wlb (j := 0); exact rfl; exact rfl; exact rfl; exact rfl; exact rfl; exact rfl)
                        | (apply wlb (j := 1); exact rfl; exact rfl; exact rfl; exact rfl; exact rfl; exact rfl)
                        | (apply wlb (j := 2); exact rfl; exact rfl; exact rfl; exact rfl; exact rfl; exact rfl)
                        | (apply wlb (j := 3); exact rfl; exact rfl; exact rfl; exact rfl; exact rfl; exact rfl)
                        | (apply wln; exact rfl; exact rfl; exact rfl; exact rfl)
                        | (apply wpu; exact rfl; exact rfl; exact rfl)
                        | (apply wbx; exact rfl; exact rfl; exact rfl; intro _)
                        | refine wc_block ?_
                        | (apply wc_true; exact rfl)
                        | (apply wc_false; exact rfl)
                        | refine wc_skip ?_
                        | refine wc_exit ?_
                        | refine wc_ret ?_
                        | refine we_then_exit ?_
                        | refine we_then_ret ?_
                        | refine we_in_normal ?_
                        | refine we_in_ret ?_
                        | refine we_in_here ?_
                        | (apply we_in_there; exact rfl))
                      exact we_ret1 (Or.inl rfl) rfl rfl fun w' h => ⟨rfl, h.ext_all⟩
                  · repeat (first
                      | (apply ws; exact rfl; exact rfl; exact rfl)
                      | refine wl_still rfl rfl rfl (od_indexAddrA1 0 rfl rfl rfl rfl rfl (by omega)) ?_
                      | refine wl_still rfl rfl rfl (od_indexAddrA1 1 rfl rfl rfl rfl rfl (by omega)) ?_
                      | (apply wlb (j := 4); exact rfl; exact rfl; exact rfl; exact rfl; exact rfl; exact rfl)
                      | (apply wlb (j := 5); exact rfl; exact rfl; exact rfl; exact rfl; exact rfl; exact rfl)
                      | (apply wlb (j := 6); exact rfl; exact rfl; exact rfl; exact rfl; exact rfl; exact rfl)
                      | (apply wlb (j := 7); exact rfl; exact rfl; exact rfl; exact rfl; exact rfl; exact rfl)
                      | refine wl_still rfl rfl rfl (od_eqBool (r := false) (Or.inr ⟨rfl, by simp⟩) rfl rfl rfl) ?_
                      | (apply wq Tryd.call16; exact rfl; exact rfl; exact rfl; exact (fun w _ => ref_Number_f e2 w))
                      | refine wc_seq ?_
                      | refine wc_region ?_
                      | refine wl_nil ?_
                      | refine we_round ?_
                      | refine we_then_wc ?_
                      | (apply wi64; exact rfl; omega; omega; exact rfl; exact rfl)
                      | (apply wfa; exact rfl; exact rfl; exact rfl; exact rfl)
                      | (apply wct; exact rfl; omega; exact rfl; exact rfl)
                      | (apply wcf; exact rfl; omega; exact rfl; exact rfl)
                      | (apply wn; exact rfl; exact rfl)
                      | (apply wlb (j := 0); exact rfl; exact rfl; exact rfl; exact rfl; exact rfl; exact rfl)
                      | (apply wlb (j := 1); exact rfl; exact rfl; exact rfl; exact rfl; exact rfl; exact rfl)
                      | (apply wlb (j := 2); exact rfl; exact rfl; exact rfl; exact rfl; exact rfl; exact rfl)
                      | (apply wlb (j := 3); exact rfl; exact rfl; exact rfl; exact rfl; exact rfl; exact rfl)
                      | (apply wln; exact rfl; exact rfl; exact rfl; exact rfl)
                      | (apply wpu; exact rfl; exact rfl; exact rfl)
                      | (apply wbx; exact rfl; exact rfl; exact rfl; intro _)
                      | refine wc_block ?_
                      | (apply wc_true; exact rfl)
                      | (apply wc_false; exact rfl)
                      | refine wc_skip ?_
                      | refine wc_exit ?_
                      | refine wc_ret ?_
                      | refine we_then_exit ?_
                      | refine we_then_ret ?_
                      | refine we_in_normal ?_
                      | refine we_in_ret ?_
                      | refine we_in_here ?_
                      | (apply we_in_there; exact rfl))
                    exact we_ret1 (Or.inl rfl) rfl rfl fun w' h => ⟨rfl, h.ext_all⟩
            · repeat (first
                | (apply ws; exact rfl; exact rfl; exact rfl)
                | refine wl_still rfl rfl rfl (od_indexAddrA1 0 rfl rfl rfl rfl rfl (by omega)) ?_
                | refine wl_still rfl rfl rfl (od_indexAddrA1 1 rfl rfl rfl rfl rfl (by omega)) ?_
                | (apply wlb (j := 4); exact rfl; exact rfl; exact rfl; exact rfl; exact rfl; exact rfl)
                | (apply wlb (j := 5); exact rfl; exact rfl; exact rfl; exact rfl; exact rfl; exact rfl)
                | (apply wlb (j := 6); exact rfl; exact rfl; exact rfl; exact rfl; exact rfl; exact rfl)
                | (apply wq Tryd.call13; exact rfl; exact rfl; exact rfl; exact (fun w' h => sane47 w' (hL.ext h.ext_all)))
                | (apply wq Tryd.call15; exact rfl; exact rfl; exact rfl; exact (fun w _ => ref_Occasion_t o0 w))
                | (apply wq Tryd.call15; exact rfl; exact rfl; exact rfl; exact (fun w _ => ref_Occasion_t o1 w))
                | (apply wq Tryd.call16; exact rfl; exact rfl; exact rfl; exact (fun w _ => ref_Number_t m0 w))
                | (apply wq Tryd.call16; exact rfl; exact rfl; exact rfl; exact (fun w _ => ref_Number_t m1 w))
                | (apply wq Tryd.call16; exact rfl; exact rfl; exact rfl; exact (fun w _ => ref_Number_f c2 w))
                | refine wc_seq ?_
                | refine wc_region ?_
                | refine wl_nil ?_
                | refine we_round ?_
                | refine we_then_wc ?_
                | (apply wi64; exact rfl; omega; omega; exact rfl; exact rfl)
                | (apply wfa; exact rfl; exact rfl; exact rfl; exact rfl)
                | (apply wct; exact rfl; omega; exact rfl; exact rfl)
                | (apply wcf; exact rfl; omega; exact rfl; exact rfl)
                | (apply wn; exact rfl; exact rfl)
                | (apply wlb (j := 0); exact rfl; exact rfl; exact rfl; exact rfl; exact rfl; exact rfl)
                | (apply wlb (j := 1); exact rfl; exact rfl; exact rfl; exact rfl; exact rfl; exact rfl)
                | (apply wlb (j := 2); exact rfl; exact rfl; exact rfl; exact rfl; exact rfl; exact rfl)
                | (apply wlb (j := 3); exact rfl; exact rfl; exact rfl; exact rfl; exact rfl; exact rfl)
                | (apply wln; exact rfl; exact rfl; exact rfl; exact rfl)
                | (apply wpu; exact rfl; exact rfl; exact rfl)
                | (apply wbx; exact rfl; exact rfl; exact rfl; intro _)
                | refine wc_block ?_
                | (apply wc_true; exact rfl)
                | (apply wc_false; exact rfl)
                | refine wc_skip ?_
                | refine wc_exit ?_
                | refine wc_ret ?_
                | refine we_then_exit ?_
                | refine we_then_ret ?_
                | refine we_in_normal ?_
                | refine we_in_ret ?_
                | refine we_in_here ?_
                | (apply we_in_there; exact rfl))
              exact we_ret1 (Or.inl rfl) rfl rfl fun w' h => ⟨rfl, h.ext_all⟩
        · repeat (first
            | (apply ws; exact rfl; exact rfl; exact rfl)
            | refine wl_still rfl rfl rfl (od_indexAddrA1 0 rfl rfl rfl rfl rfl (by omega)) ?_
            | refine wl_still rfl rfl rfl (od_indexAddrA1 1 rfl rfl rfl rfl rfl (by omega)) ?_
            | (apply wlb (j := 4); exact rfl; exact rfl; exact rfl; exact rfl; exact rfl; exact rfl)
            | (apply wlb (j := 5); exact rfl; exact rfl; exact rfl; exact rfl; exact rfl; exact rfl)
            | (apply wlb (j := 6); exact rfl; exact rfl; exact rfl; exact rfl; exact rfl; exact rfl)
            | (apply wq Tryd.call13; exact rfl; exact rfl; exact rfl; exact (fun w' h => sane47 w' (hL.ext h.ext_all)))
            | (apply wq Tryd.call15; exact rfl; exact rfl; exact rfl; exact (fun w _ => ref_Occasion_t o0 w))
            | (apply wq Tryd.call15; exact rfl; exact rfl; exact rfl; exact (fun w _ => ref_Occasion_t o1 w))
            | (apply wq Tryd.call16; exact rfl; exact rfl; exact rfl; exact (fun w _ => ref_Number_t m0 w))
            | (apply wq Tryd.call16; exact rfl; exact rfl; exact rfl; exact (fun w _ => ref_Number_f m1 w))
            | refine wc_seq ?_
            | refine wc_region ?_
            | refine wl_nil ?_
            | refine we_round ?_
            | refine we_then_wc ?_
            | (apply wi64; exact rfl; omega; omega; exact rfl; exact rfl)
            | (apply wfa; exact rfl; exact rfl; exact rfl; exact rfl)
            | (apply wct; exact rfl; omega; exact rfl; exact rfl)
            | (apply wcf; exact rfl; omega; exact rfl; exact rfl)
            | (apply wn; exact rfl; exact rfl)
            | (apply wlb (j := 0); exact rfl; exact rfl; exact rfl; exact rfl; exact rfl; exact rfl)
            | (apply wlb (j := 1); exact rfl; exact rfl; exact rfl; exact rfl; exact rfl; exact rfl)
            | (apply wlb (j := 2); exact rfl; exact rfl; exact rfl; exact rfl; exact rfl; exact rfl)
            | (apply wlb (j := 3); exact rfl; exact rfl; exact rfl; exact rfl; exact rfl; exact rfl)
            | (apply wln; exact rfl; exact rfl; exact rfl; exact rfl)
            | (apply wpu; exact rfl; exact rfl; exact rfl)
            | (apply wbx; exact rfl; exact rfl; exact rfl; intro _)
            | refine wc_block ?_
            | (apply wc_true; exact rfl)
            | (apply wc_false; exact rfl)
            | refine wc_skip ?_
            | refine wc_exit ?_
            | refine wc_ret ?_
            | refine we_then_exit ?_
            | refine we_then_ret ?_
            | refine we_in_normal ?_
            | refine we_in_ret ?_
            | refine we_in_here ?_
            | (apply we_in_there; exact rfl))
          exact we_ret1 (Or.inl rfl) rfl rfl fun w' h => ⟨rfl, h.ext_all⟩
      · repeat (first
          | (apply ws; exact rfl; exact rfl; exact rfl)
          | refine wl_still rfl rfl rfl (od_indexAddrA1 0 rfl rfl rfl rfl rfl (by omega)) ?_
          | refine wl_still rfl rfl rfl (od_indexAddrA1 1 rfl rfl rfl rfl rfl (by omega)) ?_
          | (apply wlb (j := 4); exact rfl; exact rfl; exact rfl; exact rfl; exact rfl; exact rfl)
          | (apply wlb (j := 5); exact rfl; exact rfl; exact rfl; exact rfl; exact rfl; exact rfl)
          | (apply wlb (j := 6); exact rfl; exact rfl; exact rfl; exact rfl; exact rfl; exact rfl)
          | (apply wq Tryd.call13; exact rfl; exact rfl; exact rfl; exact (fun w' h => sane47 w' (hL.ext h.ext_all)))
          | (apply wq Tryd.call15; exact rfl; exact rfl; exact rfl; exact (fun w _ => ref_Occasion_t o0 w))
          | (apply wq Tryd.call15; exact rfl; exact rfl; exact rfl; exact (fun w _ => ref_Occasion_t o1 w))
          | (apply wq Tryd.call16; exact rfl; exact rfl; exact rfl; exact (fun w _ => ref_Number_f m0 w))
          | refine wc_seq ?_
          | refine wc_region ?_
          | refine wl_nil ?_
          | refine we_round ?_
          | refine we_then_wc ?_
          | (apply wi64; exact rfl; omega; omega; exact rfl; exact rfl)
          | (apply wfa; exact rfl; exact rfl; exact rfl; exact rfl)
          | (apply wct; exact rfl; omega; exact rfl; exact rfl)
          | (apply wcf; exact rfl; omega; exact rfl; exact rfl)
          | (apply wn; exact rfl; exact rfl)
          | (apply wlb (j := 0); exact rfl; exact rfl; exact rfl; exact rfl; exact rfl; exact rfl)
          | (apply wlb (j := 1); exact rfl; exact rfl; exact rfl; exact rfl; exact rfl; exact rfl)
          | (apply wlb (j := 2); exact rfl; exact rfl; exact rfl; exact rfl; exact rfl; exact rfl)
          | (apply wlb (j := 3); exact rfl; exact rfl; exact rfl; exact rfl; exact rfl; exact rfl)
          | (apply wln; exact rfl; exact rfl; exact rfl; exact rfl)
          | (apply wpu; exact rfl; exact rfl; exact rfl)
          | (apply wbx; exact rfl; exact rfl; exact rfl; intro _)
          | refine wc_block ?_
          | (apply wc_true; exact rfl)
          | (apply wc_false; exact rfl)
          | refine wc_skip ?_
          | refine wc_exit ?_
          | refine wc_ret ?_
          | refine we_then_exit ?_
          | refine we_then_ret ?_
          | refine we_in_normal ?_
          | refine we_in_ret ?_
          | refine we_in_here ?_
          | (apply we_in_there; exact rfl))
        exact we_ret1 (Or.inl rfl) rfl rfl fun w' h => ⟨rfl, h.ext_all⟩
    · repeat (first
        | (apply ws; exact rfl; exact rfl; exact rfl)
        | refine wl_still rfl rfl rfl (od_indexAddrA1 0 rfl rfl rfl rfl rfl (by omega)) ?_
        | refine wl_still rfl rfl rfl (od_indexAddrA1 1 rfl rfl rfl rfl rfl (by omega)) ?_
        | (apply wlb (j := 4); exact rfl; exact rfl; exact rfl; exact rfl; exact rfl; exact rfl)
        | (apply wlb (j := 5); exact rfl; exact rfl; exact rfl; exact rfl; exact rfl; exact rfl)
        | (apply wlb (j := 6); exact rfl; exact rfl; exact rfl; exact rfl; exact rfl; exact rfl)
        | (apply wq Tryd.call13; exact rfl; exact rfl; exact rfl; exact (fun w' h => sane47 w' (hL.ext h.ext_all)))
        | (apply wq Tryd.call15; exact rfl; exact rfl; exact rfl; exact (fun w _ => ref_Occasion_t o0 w))
        | (apply wq Tryd.call15; exact rfl; exact rfl; exact rfl; exact (fun w _ => ref_Occasion_f o1 w))
        | refine wc_seq ?_
        | refine wc_region ?_
        | refine wl_nil ?_
        | refine we_round ?_
        | refine we_then_wc ?_
        | (apply wi64; exact rfl; omega; omega; exact rfl; exact rfl)
        | (apply wfa; exact rfl; exact rfl; exact rfl; exact rfl)
        | (apply wct; exact rfl; omega; exact rfl; exact rfl)
        | (apply wcf; exact rfl; omega; exact rfl; exact rfl)
        | (apply wn; exact rfl; exact rfl)
        | (apply wlb (j := 0); exact rfl; exact rfl; exact rfl; exact rfl; exact rfl; exact rfl)
        | (apply wlb (j := 1); exact rfl; exact rfl; exact rfl; exact rfl; exact rfl; exact rfl)
        | (apply wlb (j := 2); exact rfl; exact rfl; exact rfl; exact rfl; exact rfl; exact rfl)
        | (apply wlb (j := 3); exact rfl; exact rfl; exact rfl; exact rfl; exact rfl; exact rfl)
        | (apply wln; exact rfl; exact rfl; exact rfl; exact rfl)
        | (apply wpu; exact rfl; exact rfl; exact rfl)
        | (apply wbx; exact rfl; exact rfl; exact rfl; intro _)
        | refine wc_block ?_
        | (apply wc_true; exact rfl)
        | (apply wc_false; exact rfl)
        | refine wc_skip ?_
        | refine wc_exit ?_
        | refine wc_ret ?_
        | refine we_then_exit ?_
        | refine we_then_ret ?_
        | refine we_in_normal ?_
        | refine we_in_ret ?_
        | refine we_in_here ?_
        | (apply we_in_there; exact rfl))
      exact we_ret1 (Or.inl rfl) rfl rfl fun w' h => ⟨rfl, h.ext_all⟩
  · repeat (first
      | (apply ws; exact rfl; exact rfl; exact rfl)
      | refine wl_still rfl rfl rfl (od_indexAddrA1 0 rfl rfl rfl rfl rfl (by omega)) ?_
      | refine wl_still rfl rfl rfl (od_indexAddrA1 1 rfl rfl rfl rfl rfl (by omega)) ?_
      | (apply wlb (j := 4); exact rfl; exact rfl; exact rfl; exact rfl; exact rfl; exact rfl)
      | (apply wlb (j := 5); exact rfl; exact rfl; exact rfl; exact rfl; exact rfl; exact rfl)
      | (apply wlb (j := 6); exact rfl; exact rfl; exact rfl; exact rfl; exact rfl; exact rfl)
      | (apply wq Tryd.call13; exact rfl; exact rfl; exact rfl; exact (fun w' h => sane47 w' (hL.ext h.ext_all)))
      | (apply wq Tryd.call15; exact rfl; exact rfl; exact rfl; exact (fun w _ => ref_Occasion_f o0 w))
      | refine wc_seq ?_
      | refine wc_region ?_
      | refine wl_nil ?_
      | refine we_round ?_
      | refine we_then_wc ?_
      | (apply wi64; exact rfl; omega; omega; exact rfl; exact rfl)
      | (apply wfa; exact rfl; exact rfl; exact rfl; exact rfl)
      | (apply wct; exact rfl; omega; exact rfl; exact rfl)
      | (apply wcf; exact rfl; omega; exact rfl; exact rfl)
      | (apply wn; exact rfl; exact rfl)
      | (apply wlb (j := 0); exact rfl; exact rfl; exact rfl; exact rfl; exact rfl; exact rfl)
      | (apply wlb (j := 1); exact rfl; exact rfl; exact rfl; exact rfl; exact rfl; exact rfl)
      | (apply wlb (j := 2); exact rfl; exact rfl; exact rfl; exact rfl; exact rfl; exact rfl)
      | (apply wlb (j := 3); exact rfl; exact rfl; exact rfl; exact rfl; exact rfl; exact rfl)
      | (apply wln; exact rfl; exact rfl; exact rfl; exact rfl)
      | (apply wpu; exact rfl; exact rfl; exact rfl)
      | (apply wbx; exact rfl; exact rfl; exact rfl; intro _)
      | refine wc_block ?_
      | (apply wc_true; exact rfl)
      | (apply wc_false; exact rfl)
      | refine wc_skip ?_
      | refine wc_exit ?_
      | refine wc_ret ?_
      | refine we_then_exit ?_
      | refine we_then_ret ?_
      | refine we_in_normal ?_
      | refine we_in_ret ?_
      | refine we_in_here ?_
      | (apply we_in_there; exact rfl))
    exact we_ret1 (Or.inl rfl) rfl rfl fun w' h => ⟨rfl, h.ext_all⟩

end Go.Proofs.YtielloijdkoeiaaDoor
