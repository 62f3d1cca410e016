/- The reference of chapter 8: Part. -/
import Derived.Test.YtielloijdkoeiaaDoorUa
namespace Go.Proofs.YtielloijdkoeiaaDoor
open Go Go.RowKit Go.Lib
set_option maxRecDepth 100000

theorem ref_Part (a a' : Option Addr) (c c' : Nat) (xs ys : List Lnk) (hs : smallP xs) (hs' : smallP ys) (w : World) (h : LkA w a c xs) (h' : LkA w a' c' ys) : Fn 28 [.slice a xs.length c, .slice a' ys.length c'] w (Quiet (partV xs ys) w) := by
  refine fn_of (args := [.slice a xs.length c, .slice a' ys.length c']) Tryd.func28 rfl Tryd.ntmps28 rfl (Hp.start w) ?_
  have k1 : ∀ w', Ext w w' → Fn 48 [.slice a xs.length c] w' (Quiet (.int .i64 (chkP xs)) w') := fun w' e => ref_Check a c xs hs w' (h.ext e)
  have k2 : ∀ w', Ext w w' → Fn 48 [.slice a' ys.length c'] w' (Quiet (.int .i64 (chkP ys)) w') := fun w' e => ref_Check a' c' ys hs' w' (h'.ext e)
  unfold partV
  obtain ⟨m, hm⟩ : ∃ m : Nat, xs.length = m := ⟨_, rfl⟩
  obtain ⟨m', hm'⟩ : ∃ m' : Nat, ys.length = m' := ⟨_, rfl⟩
  have hm20 : m ≤ 2 ^ 20 := hm ▸ hs.1
  have hm20' : m' ≤ 2 ^ 20 := hm' ▸ hs'.1
  rw [hm] at k1 ⊢
  rw [hm'] at k2 ⊢
  by_cases c1 : chkP xs = 0
  · rw [if_pos c1]
    rw [c1] at k1
    by_cases c2 : chkP ys = 0
    · rw [if_pos c2]
      rw [c2] at k2
      by_cases hx0 : m = 0
      · have hxe : xs = [] := List.eq_nil_of_length_eq_zero (by omega)
        have hsp : splitB xs ys = false := by subst hxe; rfl
        have hd : diffP xs ys = none := by
          cases hd : diffP xs ys with
          | none => rfl
          | some i => have := (diffP_lt hd).1; omega
        rw [hsp, hd]
        clear hm
        subst hx0
        repeat (first
          | (apply ws; exact rfl; exact rfl; exact rfl)
          | (apply wq Tryd.call48; exact rfl; exact rfl; exact rfl; exact (fun w' hw => k1 w' hw.ext_all))
          | (apply wq Tryd.call48; exact rfl; exact rfl; exact rfl; exact (fun w' hw => k2 w' hw.ext_all))
          | refine wc_seq ?_
          | refine wc_region ?_
          | refine wl_nil ?_
          | refine we_round ?_
          | refine we_then_wc ?_
          | (apply wi64; exact rfl; omega; omega; exact rfl; exact rfl)
          | (apply wfa; exact rfl; exact rfl; exact rfl; exact rfl)
          | (apply wct; exact rfl; omega; exact rfl; exact rfl)
          | (apply wcf; exact rfl; omega; exact rfl; exact rfl)
          | (apply wn; exact rfl; exact rfl)
          | (apply wlb (j := 0); exact rfl; exact rfl; exact rfl; exact rfl; exact rfl; exact rfl)
          | (apply wlb (j := 1); exact rfl; exact rfl; exact rfl; exact rfl; exact rfl; exact rfl)
          | (apply wlb (j := 2); exact rfl; exact rfl; exact rfl; exact rfl; exact rfl; exact rfl)
          | (apply wlb (j := 3); exact rfl; exact rfl; exact rfl; exact rfl; exact rfl; exact rfl)
          | (apply wln; exact rfl; exact rfl; exact rfl; exact rfl)
          | (apply wpu; exact rfl; exact rfl; exact rfl)
          | (apply wbx; exact rfl; exact rfl; exact rfl; intro _)
          | refine wc_block ?_
          | (apply wc_true; exact rfl)
          | (apply wc_false; exact rfl)
          | refine wc_skip ?_
          | refine wc_exit ?_
          | refine wc_ret ?_
          | refine we_then_exit ?_
          | refine we_then_ret ?_
          | refine we_in_normal ?_
          | refine we_in_ret ?_
          | refine we_in_here ?_
          | (apply we_in_there; exact rfl))
        refine wc_plan [] none [(0, true), (1, true), (2, true), (3, true), (4, true), (5, true), (6, true), (7, true), (8, true), (9, true), (10, true), (11, true), (12, true), (13, true), (14, true), (15, true), (16, true), (17, true), (18, true)] (by kernel_rfl) (List.nil_sublist _) ?_
        repeat (first
          | (apply ps; exact rfl; exact rfl; exact rfl; exact rfl)
          | (apply pfa; exact rfl; exact rfl; exact rfl; exact rfl; exact rfl)
          | (apply pi64; exact rfl; exact rfl; omega; omega; exact rfl; exact rfl)
          | (apply pct; exact rfl; exact rfl; omega; exact rfl; exact rfl)
          | (apply pcf; exact rfl; exact rfl; omega; exact rfl; exact rfl)
          | (apply wp_not; exact rfl; exact rfl; exact rfl)
          | (apply plb (j := 0); exact rfl; exact rfl; exact rfl; exact rfl; exact rfl; exact rfl; exact rfl)
          | (apply plb (j := 1); exact rfl; exact rfl; exact rfl; exact rfl; exact rfl; exact rfl; exact rfl)
          | (apply plb (j := 2); exact rfl; exact rfl; exact rfl; exact rfl; exact rfl; exact rfl; exact rfl)
          | (apply pln; exact rfl; exact rfl; exact rfl; exact rfl; exact rfl)
          | (apply ppu; exact rfl; exact rfl; exact rfl; exact rfl)
          | (apply pfs; exact rfl; exact rfl; exact rfl; exact rfl)
          | apply wp_nil)
        repeat (first
          | (apply ws; exact rfl; exact rfl; exact rfl)
          | refine wc_seq ?_
          | refine wc_region ?_
          | refine wl_nil ?_
          | refine we_round ?_
          | refine we_then_wc ?_
          | (apply wi64; exact rfl; omega; omega; exact rfl; exact rfl)
          | (apply wfa; exact rfl; exact rfl; exact rfl; exact rfl)
          | (apply wct; exact rfl; omega; exact rfl; exact rfl)
          | (apply wcf; exact rfl; omega; exact rfl; exact rfl)
          | (apply wn; exact rfl; exact rfl)
          | (apply wlb (j := 0); exact rfl; exact rfl; exact rfl; exact rfl; exact rfl; exact rfl)
          | (apply wlb (j := 1); exact rfl; exact rfl; exact rfl; exact rfl; exact rfl; exact rfl)
          | (apply wlb (j := 2); exact rfl; exact rfl; exact rfl; exact rfl; exact rfl; exact rfl)
          | (apply wlb (j := 3); exact rfl; exact rfl; exact rfl; exact rfl; exact rfl; exact rfl)
          | (apply wln; exact rfl; exact rfl; exact rfl; exact rfl)
          | (apply wpu; exact rfl; exact rfl; exact rfl)
          | (apply wbx; exact rfl; exact rfl; exact rfl; intro _)
          | refine wc_block ?_
          | (apply wc_true; exact rfl)
          | (apply wc_false; exact rfl)
          | refine wc_skip ?_
          | refine wc_exit ?_
          | refine wc_ret ?_
          | refine we_then_exit ?_
          | refine we_then_ret ?_
          | refine we_in_normal ?_
          | refine we_in_ret ?_
          | refine we_in_here ?_
          | (apply we_in_there; exact rfl))
        refine wc_loop (ι := Nat) (fun k => [(9, .int .i64 (k : Int)), (0, .slice a 0 c), (1, .slice a' m' c')]) (fun _ => []) (fun k => k = 0) (fun _ => 0) 0 rfl ⟨rfl, rfl, rfl, trivial⟩ (List.nil_sublist _) ?_
        rintro k rfl
        repeat (first
          | (apply ws; exact rfl; exact rfl; exact rfl)
          | refine wc_seq ?_
          | refine wc_region ?_
          | refine wl_nil ?_
          | refine we_round ?_
          | refine we_then_wc ?_
          | (apply wi64; exact rfl; omega; omega; exact rfl; exact rfl)
          | (apply wfa; exact rfl; exact rfl; exact rfl; exact rfl)
          | (apply wct; exact rfl; omega; exact rfl; exact rfl)
          | (apply wcf; exact rfl; omega; exact rfl; exact rfl)
          | (apply wn; exact rfl; exact rfl)
          | (apply wlb (j := 0); exact rfl; exact rfl; exact rfl; exact rfl; exact rfl; exact rfl)
          | (apply wlb (j := 1); exact rfl; exact rfl; exact rfl; exact rfl; exact rfl; exact rfl)
          | (apply wlb (j := 2); exact rfl; exact rfl; exact rfl; exact rfl; exact rfl; exact rfl)
          | (apply wlb (j := 3); exact rfl; exact rfl; exact rfl; exact rfl; exact rfl; exact rfl)
          | (apply wln; exact rfl; exact rfl; exact rfl; exact rfl)
          | (apply wpu; exact rfl; exact rfl; exact rfl)
          | (apply wbx; exact rfl; exact rfl; exact rfl; intro _)
          | refine wc_block ?_
          | (apply wc_true; exact rfl)
          | (apply wc_false; exact rfl)
          | refine wc_skip ?_
          | refine wc_exit ?_
          | refine wc_ret ?_
          | refine we_then_exit ?_
          | refine we_then_ret ?_
          | refine we_in_normal ?_
          | refine we_in_ret ?_
          | refine we_in_here ?_
          | (apply we_in_there; exact rfl))
        exact we_ret3 (Or.inl rfl) rfl rfl rfl rfl fun w' h => ⟨rfl, h.ext_all⟩
      · by_cases hy0 : m' = 0
        · have hye : ys = [] := List.eq_nil_of_length_eq_zero (by omega)
          have hsp : splitB xs ys = false := by subst hye; unfold splitB; simp
          have hd : diffP xs ys = none := by
            cases hd : diffP xs ys with
            | none => rfl
            | some i => have := (diffP_lt hd).2; omega
          rw [hsp, hd]
          clear hm'
          subst hy0
          repeat (first
            | (apply ws; exact rfl; exact rfl; exact rfl)
            | (apply wq Tryd.call48; exact rfl; exact rfl; exact rfl; exact (fun w' hw => k1 w' hw.ext_all))
            | (apply wq Tryd.call48; exact rfl; exact rfl; exact rfl; exact (fun w' hw => k2 w' hw.ext_all))
            | refine wc_seq ?_
            | refine wc_region ?_
            | refine wl_nil ?_
            | refine we_round ?_
            | refine we_then_wc ?_
            | (apply wi64; exact rfl; omega; omega; exact rfl; exact rfl)
            | (apply wfa; exact rfl; exact rfl; exact rfl; exact rfl)
            | (apply wct; exact rfl; omega; exact rfl; exact rfl)
            | (apply wcf; exact rfl; omega; exact rfl; exact rfl)
            | (apply wn; exact rfl; exact rfl)
            | (apply wlb (j := 0); exact rfl; exact rfl; exact rfl; exact rfl; exact rfl; exact rfl)
            | (apply wlb (j := 1); exact rfl; exact rfl; exact rfl; exact rfl; exact rfl; exact rfl)
            | (apply wlb (j := 2); exact rfl; exact rfl; exact rfl; exact rfl; exact rfl; exact rfl)
            | (apply wlb (j := 3); exact rfl; exact rfl; exact rfl; exact rfl; exact rfl; exact rfl)
            | (apply wln; exact rfl; exact rfl; exact rfl; exact rfl)
            | (apply wpu; exact rfl; exact rfl; exact rfl)
            | (apply wbx; exact rfl; exact rfl; exact rfl; intro _)
            | refine wc_block ?_
            | (apply wc_true; exact rfl)
            | (apply wc_false; exact rfl)
            | refine wc_skip ?_
            | refine wc_exit ?_
            | refine wc_ret ?_
            | refine we_then_exit ?_
            | refine we_then_ret ?_
            | refine we_in_normal ?_
            | refine we_in_ret ?_
            | refine we_in_here ?_
            | (apply we_in_there; exact rfl))
          refine wc_plan [] none [(0, true), (1, true), (2, true), (3, true), (4, true), (5, true), (6, true), (7, true), (8, true), (9, true), (10, true), (11, true), (12, true), (13, true), (14, true), (15, true), (16, true), (17, true), (18, true)] (by kernel_rfl) (List.nil_sublist _) ?_
          repeat (first
            | (apply ps; exact rfl; exact rfl; exact rfl; exact rfl)
            | (apply pfa; exact rfl; exact rfl; exact rfl; exact rfl; exact rfl)
            | (apply pi64; exact rfl; exact rfl; omega; omega; exact rfl; exact rfl)
            | (apply pct; exact rfl; exact rfl; omega; exact rfl; exact rfl)
            | (apply pcf; exact rfl; exact rfl; omega; exact rfl; exact rfl)
            | (apply wp_not; exact rfl; exact rfl; exact rfl)
            | (apply plb (j := 0); exact rfl; exact rfl; exact rfl; exact rfl; exact rfl; exact rfl; exact rfl)
            | (apply plb (j := 1); exact rfl; exact rfl; exact rfl; exact rfl; exact rfl; exact rfl; exact rfl)
            | (apply plb (j := 2); exact rfl; exact rfl; exact rfl; exact rfl; exact rfl; exact rfl; exact rfl)
            | (apply pln; exact rfl; exact rfl; exact rfl; exact rfl; exact rfl)
            | (apply ppu; exact rfl; exact rfl; exact rfl; exact rfl)
            | (apply pfs; exact rfl; exact rfl; exact rfl; exact rfl)
            | apply wp_nil)
          repeat (first
            | (apply ws; exact rfl; exact rfl; exact rfl)
            | refine wc_seq ?_
            | refine wc_region ?_
            | refine wl_nil ?_
            | refine we_round ?_
            | refine we_then_wc ?_
            | (apply wi64; exact rfl; omega; omega; exact rfl; exact rfl)
            | (apply wfa; exact rfl; exact rfl; exact rfl; exact rfl)
            | (apply wct; exact rfl; omega; exact rfl; exact rfl)
            | (apply wcf; exact rfl; omega; exact rfl; exact rfl)
            | (apply wn; exact rfl; exact rfl)
            | (apply wlb (j := 0); exact rfl; exact rfl; exact rfl; exact rfl; exact rfl; exact rfl)
            | (apply wlb (j := 1); exact rfl; exact rfl; exact rfl; exact rfl; exact rfl; exact rfl)
            | (apply wlb (j := 2); exact rfl; exact rfl; exact rfl; exact rfl; exact rfl; exact rfl)
            | (apply wlb (j := 3); exact rfl; exact rfl; exact rfl; exact rfl; exact rfl; exact rfl)
            | (apply wln; exact rfl; exact rfl; exact rfl; exact rfl)
            | (apply wpu; exact rfl; exact rfl; exact rfl)
            | (apply wbx; exact rfl; exact rfl; exact rfl; intro _)
            | refine wc_block ?_
            | (apply wc_true; exact rfl)
            | (apply wc_false; exact rfl)
            | refine wc_skip ?_
            | refine wc_exit ?_
            | refine wc_ret ?_
            | refine we_then_exit ?_
            | refine we_then_ret ?_
            | refine we_in_normal ?_
            | refine we_in_ret ?_
            | refine we_in_here ?_
            | (apply we_in_there; exact rfl))
          refine wc_loop (ι := Nat) (fun k => [(9, .int .i64 (k : Int)), (0, .slice a m c), (1, .slice a' 0 c')]) (fun _ => []) (fun k => k = 0) (fun _ => 0) 0 rfl ⟨rfl, rfl, rfl, trivial⟩ (List.nil_sublist _) ?_
          rintro k rfl
          repeat (first
            | (apply ws; exact rfl; exact rfl; exact rfl)
            | refine wc_seq ?_
            | refine wc_region ?_
            | refine wl_nil ?_
            | refine we_round ?_
            | refine we_then_wc ?_
            | (apply wi64; exact rfl; omega; omega; exact rfl; exact rfl)
            | (apply wfa; exact rfl; exact rfl; exact rfl; exact rfl)
            | (apply wct; exact rfl; omega; exact rfl; exact rfl)
            | (apply wcf; exact rfl; omega; exact rfl; exact rfl)
            | (apply wn; exact rfl; exact rfl)
            | (apply wlb (j := 0); exact rfl; exact rfl; exact rfl; exact rfl; exact rfl; exact rfl)
            | (apply wlb (j := 1); exact rfl; exact rfl; exact rfl; exact rfl; exact rfl; exact rfl)
            | (apply wlb (j := 2); exact rfl; exact rfl; exact rfl; exact rfl; exact rfl; exact rfl)
            | (apply wlb (j := 3); exact rfl; exact rfl; exact rfl; exact rfl; exact rfl; exact rfl)
            | (apply wln; exact rfl; exact rfl; exact rfl; exact rfl)
            | (apply wpu; exact rfl; exact rfl; exact rfl)
            | (apply wbx; exact rfl; exact rfl; exact rfl; intro _)
            | refine wc_block ?_
            | (apply wc_true; exact rfl)
            | (apply wc_false; exact rfl)
            | refine wc_skip ?_
            | refine wc_exit ?_
            | refine wc_ret ?_
            | refine we_then_exit ?_
            | refine we_then_ret ?_
            | refine we_in_normal ?_
            | refine we_in_ret ?_
            | refine we_in_here ?_
            | (apply we_in_there; exact rfl))
          exact we_ret3 (Or.inl rfl) rfl rfl rfl rfl fun w' h => ⟨rfl, h.ext_all⟩
        · obtain ⟨x, b, o, hx, ea, okx, hcx⟩ := h.get 0 (by omega)
          obtain ⟨y, b', o', hy, ea', oky, hcy⟩ := h'.get 0 (by omega)
          subst ea
          subst ea'
          have hx0' := hcx 0 _ rfl
          have hy0' := hcy 0 _ rfl
          have hspl : splitB xs ys = decide (x.node ≠ y.node) := by unfold splitB; rw [hx, hy]
          by_cases c3 : x.node = y.node
          · rw [hspl]
            simp only [c3, ne_eq, not_true_eq_false, decide_false, Bool.false_eq_true, if_false]
            repeat (first
              | (apply ws; exact rfl; exact rfl; exact rfl)
              | (apply wq Tryd.call48; exact rfl; exact rfl; exact rfl; exact (fun w' hw => k1 w' hw.ext_all))
              | (apply wq Tryd.call48; exact rfl; exact rfl; exact rfl; exact (fun w' hw => k2 w' hw.ext_all))
              | refine wc_seq ?_
              | refine wc_region ?_
              | refine wl_nil ?_
              | refine we_round ?_
              | refine we_then_wc ?_
              | (apply wi64; exact rfl; omega; omega; exact rfl; exact rfl)
              | (apply wfa; exact rfl; exact rfl; exact rfl; exact rfl)
              | (apply wct; exact rfl; omega; exact rfl; exact rfl)
              | (apply wcf; exact rfl; omega; exact rfl; exact rfl)
              | (apply wn; exact rfl; exact rfl)
              | (apply wlb (j := 0); exact rfl; exact rfl; exact rfl; exact rfl; exact rfl; exact rfl)
              | (apply wlb (j := 1); exact rfl; exact rfl; exact rfl; exact rfl; exact rfl; exact rfl)
              | (apply wlb (j := 2); exact rfl; exact rfl; exact rfl; exact rfl; exact rfl; exact rfl)
              | (apply wlb (j := 3); exact rfl; exact rfl; exact rfl; exact rfl; exact rfl; exact rfl)
              | (apply wln; exact rfl; exact rfl; exact rfl; exact rfl)
              | (apply wpu; exact rfl; exact rfl; exact rfl)
              | (apply wbx; exact rfl; exact rfl; exact rfl; intro _)
              | refine wc_block ?_
              | (apply wc_true; exact rfl)
              | (apply wc_false; exact rfl)
              | refine wc_skip ?_
              | refine wc_exit ?_
              | refine wc_ret ?_
              | refine we_then_exit ?_
              | refine we_then_ret ?_
              | refine we_in_normal ?_
              | refine we_in_ret ?_
              | refine we_in_here ?_
              | (apply we_in_there; exact rfl))
            refine wc_plan [] none [(0, true), (1, true), (2, true), (3, true), (4, true), (5, true), (6, true), (7, true), (8, true), (9, true), (10, true), (11, true), (12, true), (13, true), (14, true), (15, true), (16, true), (17, true), (18, true)] (by kernel_rfl) (List.nil_sublist _) ?_
            repeat (first
              | (apply ps; exact rfl; exact rfl; exact rfl; exact rfl)
              | (apply wp_still; exact rfl; exact rfl; exact rfl; exact (od_indexAddr 0 rfl rfl rfl rfl rfl (by omega)))
              | (apply plo; exact rfl; exact rfl; exact rfl; exact hx0'; exact List.not_mem_nil; exact rfl; exact rfl)
              | (apply plo; exact rfl; exact rfl; exact rfl; exact hy0'; exact List.not_mem_nil; exact rfl; exact rfl)
              | (apply pfa; exact rfl; exact rfl; exact rfl; exact rfl; exact rfl)
              | (apply pi64; exact rfl; exact rfl; omega; omega; exact rfl; exact rfl)
              | (apply pct; exact rfl; exact rfl; omega; exact rfl; exact rfl)
              | (apply pcf; exact rfl; exact rfl; omega; exact rfl; exact rfl)
              | (apply wp_not; exact rfl; exact rfl; exact rfl)
              | (apply plb (j := 0); exact rfl; exact rfl; exact rfl; exact rfl; exact rfl; exact rfl; exact rfl)
              | (apply plb (j := 1); exact rfl; exact rfl; exact rfl; exact rfl; exact rfl; exact rfl; exact rfl)
              | (apply plb (j := 2); exact rfl; exact rfl; exact rfl; exact rfl; exact rfl; exact rfl; exact rfl)
              | (apply pln; exact rfl; exact rfl; exact rfl; exact rfl; exact rfl)
              | (apply ppu; exact rfl; exact rfl; exact rfl; exact rfl)
              | (apply pfs; exact rfl; exact rfl; exact rfl; exact rfl)
              | apply wp_nil)
            repeat (first
              | (apply ws; exact rfl; exact rfl; exact rfl)
              | refine wc_seq ?_
              | refine wc_region ?_
              | refine wl_nil ?_
              | refine we_round ?_
              | refine we_then_wc ?_
              | (apply wi64; exact rfl; omega; omega; exact rfl; exact rfl)
              | (apply wfa; exact rfl; exact rfl; exact rfl; exact rfl)
              | (apply wct; exact rfl; omega; exact rfl; exact rfl)
              | (apply wcf; exact rfl; omega; exact rfl; exact rfl)
              | (apply wn; exact rfl; exact rfl)
              | (apply wlb (j := 0); exact rfl; exact rfl; exact rfl; exact rfl; exact rfl; exact rfl)
              | (apply wlb (j := 1); exact rfl; exact rfl; exact rfl; exact rfl; exact rfl; exact rfl)
              | (apply wlb (j := 2); exact rfl; exact rfl; exact rfl; exact rfl; exact rfl; exact rfl)
              | (apply wlb (j := 3); exact rfl; exact rfl; exact rfl; exact rfl; exact rfl; exact rfl)
              | (apply wln; exact rfl; exact rfl; exact rfl; exact rfl)
              | (apply wpu; exact rfl; exact rfl; exact rfl)
              | (apply wbx; exact rfl; exact rfl; exact rfl; intro _)
              | refine wc_block ?_
              | (apply wc_true; exact rfl)
              | (apply wc_false; exact rfl)
              | refine wc_skip ?_
              | refine wc_exit ?_
              | refine wc_ret ?_
              | refine we_then_exit ?_
              | refine we_then_ret ?_
              | refine we_in_normal ?_
              | refine we_in_ret ?_
              | refine we_in_here ?_
              | (apply we_in_there; exact rfl))
            clear hx hy okx oky hcx hcy
            cases hd : diffP xs ys with
            | none =>
              refine wc_loop (ι := Nat) (fun k => [(9, .int .i64 (k : Int)), (0, .slice (some ⟨b, o, none⟩) m c), (1, .slice (some ⟨b', o', none⟩) m' c')]) (fun _ => []) (fun k => k ≤ m ∧ k ≤ m') (fun k => m - k) 0 ⟨Nat.zero_le _, Nat.zero_le _⟩ ⟨rfl, rfl, rfl, trivial⟩ (List.nil_sublist _) ?_
              rintro k ⟨hk, hk'⟩
              by_cases hkm : k = m
              · repeat (first
                  | (apply ws; exact rfl; exact rfl; exact rfl)
                  | refine wc_seq ?_
                  | refine wc_region ?_
                  | refine wl_nil ?_
                  | refine we_round ?_
                  | refine we_then_wc ?_
                  | (apply wi64; exact rfl; omega; omega; exact rfl; exact rfl)
                  | (apply wfa; exact rfl; exact rfl; exact rfl; exact rfl)
                  | (apply wct; exact rfl; omega; exact rfl; exact rfl)
                  | (apply wcf; exact rfl; omega; exact rfl; exact rfl)
                  | (apply wn; exact rfl; exact rfl)
                  | (apply wlb (j := 0); exact rfl; exact rfl; exact rfl; exact rfl; exact rfl; exact rfl)
                  | (apply wlb (j := 1); exact rfl; exact rfl; exact rfl; exact rfl; exact rfl; exact rfl)
                  | (apply wlb (j := 2); exact rfl; exact rfl; exact rfl; exact rfl; exact rfl; exact rfl)
                  | (apply wlb (j := 3); exact rfl; exact rfl; exact rfl; exact rfl; exact rfl; exact rfl)
                  | (apply wln; exact rfl; exact rfl; exact rfl; exact rfl)
                  | (apply wpu; exact rfl; exact rfl; exact rfl)
                  | (apply wbx; exact rfl; exact rfl; exact rfl; intro _)
                  | refine wc_block ?_
                  | (apply wc_true; exact rfl)
                  | (apply wc_false; exact rfl)
                  | refine wc_skip ?_
                  | refine wc_exit ?_
                  | refine wc_ret ?_
                  | refine we_then_exit ?_
                  | refine we_then_ret ?_
                  | refine we_in_normal ?_
                  | refine we_in_ret ?_
                  | refine we_in_here ?_
                  | (apply we_in_there; exact rfl))
                exact we_ret3 (Or.inl rfl) rfl rfl rfl rfl fun w' h => ⟨rfl, h.ext_all⟩
              by_cases hkm' : k = m'
              · repeat (first
                  | (apply ws; exact rfl; exact rfl; exact rfl)
                  | refine wc_seq ?_
                  | refine wc_region ?_
                  | refine wl_nil ?_
                  | refine we_round ?_
                  | refine we_then_wc ?_
                  | (apply wi64; exact rfl; omega; omega; exact rfl; exact rfl)
                  | (apply wfa; exact rfl; exact rfl; exact rfl; exact rfl)
                  | (apply wct; exact rfl; omega; exact rfl; exact rfl)
                  | (apply wcf; exact rfl; omega; exact rfl; exact rfl)
                  | (apply wn; exact rfl; exact rfl)
                  | (apply wlb (j := 0); exact rfl; exact rfl; exact rfl; exact rfl; exact rfl; exact rfl)
                  | (apply wlb (j := 1); exact rfl; exact rfl; exact rfl; exact rfl; exact rfl; exact rfl)
                  | (apply wlb (j := 2); exact rfl; exact rfl; exact rfl; exact rfl; exact rfl; exact rfl)
                  | (apply wlb (j := 3); exact rfl; exact rfl; exact rfl; exact rfl; exact rfl; exact rfl)
                  | (apply wln; exact rfl; exact rfl; exact rfl; exact rfl)
                  | (apply wpu; exact rfl; exact rfl; exact rfl)
                  | (apply wbx; exact rfl; exact rfl; exact rfl; intro _)
                  | refine wc_block ?_
                  | (apply wc_true; exact rfl)
                  | (apply wc_false; exact rfl)
                  | refine wc_skip ?_
                  | refine wc_exit ?_
                  | refine wc_ret ?_
                  | refine we_then_exit ?_
                  | refine we_then_ret ?_
                  | refine we_in_normal ?_
                  | refine we_in_ret ?_
                  | refine we_in_here ?_
                  | (apply we_in_there; exact rfl))
                exact we_ret3 (Or.inl rfl) rfl rfl rfl rfl fun w' h => ⟨rfl, h.ext_all⟩
              obtain ⟨u, b2, o2, hu, ea2, oku, hcu⟩ := h.get k (by omega)
              obtain ⟨v, b3, o3, hv, ea3, okv, hcv⟩ := h'.get k (by omega)
              cases ea2
              cases ea3
              have hs0 : sameL u v = true := diffP_none hd k u v hu hv
              repeat (first
                | (apply ws; exact rfl; exact rfl; exact rfl)
                | refine wc_seq ?_
                | refine wc_region ?_
                | refine wl_nil ?_
                | refine we_round ?_
                | refine we_then_wc ?_
                | (apply wi64; exact rfl; omega; omega; exact rfl; exact rfl)
                | (apply wfa; exact rfl; exact rfl; exact rfl; exact rfl)
                | (apply wct; exact rfl; omega; exact rfl; exact rfl)
                | (apply wcf; exact rfl; omega; exact rfl; exact rfl)
                | (apply wn; exact rfl; exact rfl)
                | (apply wlb (j := 0); exact rfl; exact rfl; exact rfl; exact rfl; exact rfl; exact rfl)
                | (apply wlb (j := 1); exact rfl; exact rfl; exact rfl; exact rfl; exact rfl; exact rfl)
                | (apply wlb (j := 2); exact rfl; exact rfl; exact rfl; exact rfl; exact rfl; exact rfl)
                | (apply wlb (j := 3); exact rfl; exact rfl; exact rfl; exact rfl; exact rfl; exact rfl)
                | (apply wln; exact rfl; exact rfl; exact rfl; exact rfl)
                | (apply wpu; exact rfl; exact rfl; exact rfl)
                | (apply wbx; exact rfl; exact rfl; exact rfl; intro _)
                | refine wc_block ?_
                | (apply wc_true; exact rfl)
                | (apply wc_false; exact rfl)
                | refine wc_skip ?_
                | refine wc_exit ?_
                | refine wc_ret ?_
                | refine we_then_exit ?_
                | refine we_then_ret ?_
                | refine we_in_normal ?_
                | refine we_in_ret ?_
                | refine we_in_here ?_
                | (apply we_in_there; exact rfl))
              refine wc_plan [] none [(0, true), (1, true), (2, true), (3, true), (4, true), (5, true), (6, true), (7, true), (8, true), (9, true)] (by kernel_rfl) (List.nil_sublist _) ?_
              repeat (first
                | (apply ps; exact rfl; exact rfl; exact rfl; exact rfl)
                | (apply wp_still; exact rfl; exact rfl; exact rfl; exact (od_indexAddr k rfl rfl rfl rfl rfl (by omega)))
                | (apply wp_still; exact rfl; exact rfl; exact rfl; exact (od_loadLk rfl oku hcu (by simp)))
                | (apply wp_still; exact rfl; exact rfl; exact rfl; exact (od_loadLk rfl okv hcv (by simp)))
                | (apply pq Tryd.call33; exact rfl; exact rfl; exact rfl; exact rfl; exact (fun w' hw => hs0 ▸ ref_SameLink u v w' (oku.ext hw.ext_all) (okv.ext hw.ext_all)))
                | (apply pfa; exact rfl; exact rfl; exact rfl; exact rfl; exact rfl)
                | (apply pi64; exact rfl; exact rfl; omega; omega; exact rfl; exact rfl)
                | (apply pct; exact rfl; exact rfl; omega; exact rfl; exact rfl)
                | (apply pcf; exact rfl; exact rfl; omega; exact rfl; exact rfl)
                | (apply wp_not; exact rfl; exact rfl; exact rfl)
                | (apply plb (j := 0); exact rfl; exact rfl; exact rfl; exact rfl; exact rfl; exact rfl; exact rfl)
                | (apply plb (j := 1); exact rfl; exact rfl; exact rfl; exact rfl; exact rfl; exact rfl; exact rfl)
                | (apply plb (j := 2); exact rfl; exact rfl; exact rfl; exact rfl; exact rfl; exact rfl; exact rfl)
                | (apply pln; exact rfl; exact rfl; exact rfl; exact rfl; exact rfl)
                | (apply ppu; exact rfl; exact rfl; exact rfl; exact rfl)
                | (apply pfs; exact rfl; exact rfl; exact rfl; exact rfl)
                | apply wp_nil)
              repeat (first
                | (apply ws; exact rfl; exact rfl; exact rfl)
                | refine wc_seq ?_
                | refine wc_region ?_
                | refine wl_nil ?_
                | refine we_round ?_
                | refine we_then_wc ?_
                | (apply wi64; exact rfl; omega; omega; exact rfl; exact rfl)
                | (apply wfa; exact rfl; exact rfl; exact rfl; exact rfl)
                | (apply wct; exact rfl; omega; exact rfl; exact rfl)
                | (apply wcf; exact rfl; omega; exact rfl; exact rfl)
                | (apply wn; exact rfl; exact rfl)
                | (apply wlb (j := 0); exact rfl; exact rfl; exact rfl; exact rfl; exact rfl; exact rfl)
                | (apply wlb (j := 1); exact rfl; exact rfl; exact rfl; exact rfl; exact rfl; exact rfl)
                | (apply wlb (j := 2); exact rfl; exact rfl; exact rfl; exact rfl; exact rfl; exact rfl)
                | (apply wlb (j := 3); exact rfl; exact rfl; exact rfl; exact rfl; exact rfl; exact rfl)
                | (apply wln; exact rfl; exact rfl; exact rfl; exact rfl)
                | (apply wpu; exact rfl; exact rfl; exact rfl)
                | (apply wbx; exact rfl; exact rfl; exact rfl; intro _)
                | refine wc_block ?_
                | (apply wc_true; exact rfl)
                | (apply wc_false; exact rfl)
                | refine wc_skip ?_
                | refine wc_exit ?_
                | refine wc_ret ?_
                | refine we_then_exit ?_
                | refine we_then_ret ?_
                | refine we_in_normal ?_
                | refine we_in_ret ?_
                | refine we_in_here ?_
                | (apply we_in_there; exact rfl))
              exact we_again (k + 1) (by omega) (by omega) ⟨rfl, rfl, rfl, trivial⟩ (List.nil_sublist _)
            | some i =>
              have hlt := diffP_lt hd
              obtain ⟨⟨x1, y1, hx1, hy1, hs1⟩, hall⟩ := diffP_some hd
              refine wc_loop (ι := Nat) (fun k => [(9, .int .i64 (k : Int)), (0, .slice (some ⟨b, o, none⟩) m c), (1, .slice (some ⟨b', o', none⟩) m' c')]) (fun _ => []) (fun k => k ≤ i) (fun k => i - k) 0 (Nat.zero_le _) ⟨rfl, rfl, rfl, trivial⟩ (List.nil_sublist _) ?_
              intro k hk
              obtain ⟨u, b2, o2, hu, ea2, oku, hcu⟩ := h.get k (by omega)
              obtain ⟨v, b3, o3, hv, ea3, okv, hcv⟩ := h'.get k (by omega)
              cases ea2
              cases ea3
              by_cases hki : k = i
              · subst hki
                have hs0 : sameL u v = false := by
                  rw [hu] at hx1
                  rw [hv] at hy1
                  cases hx1
                  cases hy1
                  exact hs1
                repeat (first
                  | (apply ws; exact rfl; exact rfl; exact rfl)
                  | refine wc_seq ?_
                  | refine wc_region ?_
                  | refine wl_nil ?_
                  | refine we_round ?_
                  | refine we_then_wc ?_
                  | (apply wi64; exact rfl; omega; omega; exact rfl; exact rfl)
                  | (apply wfa; exact rfl; exact rfl; exact rfl; exact rfl)
                  | (apply wct; exact rfl; omega; exact rfl; exact rfl)
                  | (apply wcf; exact rfl; omega; exact rfl; exact rfl)
                  | (apply wn; exact rfl; exact rfl)
                  | (apply wlb (j := 0); exact rfl; exact rfl; exact rfl; exact rfl; exact rfl; exact rfl)
                  | (apply wlb (j := 1); exact rfl; exact rfl; exact rfl; exact rfl; exact rfl; exact rfl)
                  | (apply wlb (j := 2); exact rfl; exact rfl; exact rfl; exact rfl; exact rfl; exact rfl)
                  | (apply wlb (j := 3); exact rfl; exact rfl; exact rfl; exact rfl; exact rfl; exact rfl)
                  | (apply wln; exact rfl; exact rfl; exact rfl; exact rfl)
                  | (apply wpu; exact rfl; exact rfl; exact rfl)
                  | (apply wbx; exact rfl; exact rfl; exact rfl; intro _)
                  | refine wc_block ?_
                  | (apply wc_true; exact rfl)
                  | (apply wc_false; exact rfl)
                  | refine wc_skip ?_
                  | refine wc_exit ?_
                  | refine wc_ret ?_
                  | refine we_then_exit ?_
                  | refine we_then_ret ?_
                  | refine we_in_normal ?_
                  | refine we_in_ret ?_
                  | refine we_in_here ?_
                  | (apply we_in_there; exact rfl))
                refine wc_plan [] none [(0, true), (1, true), (2, true), (3, true), (4, true), (5, true), (6, true), (7, true), (8, true), (9, true)] (by kernel_rfl) (List.nil_sublist _) ?_
                repeat (first
                  | (apply ps; exact rfl; exact rfl; exact rfl; exact rfl)
                  | (apply wp_still; exact rfl; exact rfl; exact rfl; exact (od_indexAddr k rfl rfl rfl rfl rfl (by omega)))
                  | (apply wp_still; exact rfl; exact rfl; exact rfl; exact (od_loadLk rfl oku hcu (by simp)))
                  | (apply wp_still; exact rfl; exact rfl; exact rfl; exact (od_loadLk rfl okv hcv (by simp)))
                  | (apply pq Tryd.call33; exact rfl; exact rfl; exact rfl; exact rfl; exact (fun w' hw => hs0 ▸ ref_SameLink u v w' (oku.ext hw.ext_all) (okv.ext hw.ext_all)))
                  | (apply pfa; exact rfl; exact rfl; exact rfl; exact rfl; exact rfl)
                  | (apply pi64; exact rfl; exact rfl; omega; omega; exact rfl; exact rfl)
                  | (apply pct; exact rfl; exact rfl; omega; exact rfl; exact rfl)
                  | (apply pcf; exact rfl; exact rfl; omega; exact rfl; exact rfl)
                  | (apply wp_not; exact rfl; exact rfl; exact rfl)
                  | (apply plb (j := 0); exact rfl; exact rfl; exact rfl; exact rfl; exact rfl; exact rfl; exact rfl)
                  | (apply plb (j := 1); exact rfl; exact rfl; exact rfl; exact rfl; exact rfl; exact rfl; exact rfl)
                  | (apply plb (j := 2); exact rfl; exact rfl; exact rfl; exact rfl; exact rfl; exact rfl; exact rfl)
                  | (apply pln; exact rfl; exact rfl; exact rfl; exact rfl; exact rfl)
                  | (apply ppu; exact rfl; exact rfl; exact rfl; exact rfl)
                  | (apply pfs; exact rfl; exact rfl; exact rfl; exact rfl)
                  | apply wp_nil)
                repeat (first
                  | (apply ws; exact rfl; exact rfl; exact rfl)
                  | refine wc_seq ?_
                  | refine wc_region ?_
                  | refine wl_nil ?_
                  | refine we_round ?_
                  | refine we_then_wc ?_
                  | (apply wi64; exact rfl; omega; omega; exact rfl; exact rfl)
                  | (apply wfa; exact rfl; exact rfl; exact rfl; exact rfl)
                  | (apply wct; exact rfl; omega; exact rfl; exact rfl)
                  | (apply wcf; exact rfl; omega; exact rfl; exact rfl)
                  | (apply wn; exact rfl; exact rfl)
                  | (apply wlb (j := 0); exact rfl; exact rfl; exact rfl; exact rfl; exact rfl; exact rfl)
                  | (apply wlb (j := 1); exact rfl; exact rfl; exact rfl; exact rfl; exact rfl; exact rfl)
                  | (apply wlb (j := 2); exact rfl; exact rfl; exact rfl; exact rfl; exact rfl; exact rfl)
                  | (apply wlb (j := 3); exact rfl; exact rfl; exact rfl; exact rfl; exact rfl; exact rfl)
                  | (apply wln; exact rfl; exact rfl; exact rfl; exact rfl)
                  | (apply wpu; exact rfl; exact rfl; exact rfl)
                  | (apply wbx; exact rfl; exact rfl; exact rfl; intro _)
                  | refine wc_block ?_
                  | (apply wc_true; exact rfl)
                  | (apply wc_false; exact rfl)
                  | refine wc_skip ?_
                  | refine wc_exit ?_
                  | refine wc_ret ?_
                  | refine we_then_exit ?_
                  | refine we_then_ret ?_
                  | refine we_in_normal ?_
                  | refine we_in_ret ?_
                  | refine we_in_here ?_
                  | (apply we_in_there; exact rfl))
                exact we_ret3 (Or.inl rfl) rfl rfl rfl rfl fun w' h => ⟨rfl, h.ext_all⟩
              · have hs0 : sameL u v = true := hall k u v (by omega) hu hv
                repeat (first
                  | (apply ws; exact rfl; exact rfl; exact rfl)
                  | refine wc_seq ?_
                  | refine wc_region ?_
                  | refine wl_nil ?_
                  | refine we_round ?_
                  | refine we_then_wc ?_
                  | (apply wi64; exact rfl; omega; omega; exact rfl; exact rfl)
                  | (apply wfa; exact rfl; exact rfl; exact rfl; exact rfl)
                  | (apply wct; exact rfl; omega; exact rfl; exact rfl)
                  | (apply wcf; exact rfl; omega; exact rfl; exact rfl)
                  | (apply wn; exact rfl; exact rfl)
                  | (apply wlb (j := 0); exact rfl; exact rfl; exact rfl; exact rfl; exact rfl; exact rfl)
                  | (apply wlb (j := 1); exact rfl; exact rfl; exact rfl; exact rfl; exact rfl; exact rfl)
                  | (apply wlb (j := 2); exact rfl; exact rfl; exact rfl; exact rfl; exact rfl; exact rfl)
                  | (apply wlb (j := 3); exact rfl; exact rfl; exact rfl; exact rfl; exact rfl; exact rfl)
                  | (apply wln; exact rfl; exact rfl; exact rfl; exact rfl)
                  | (apply wpu; exact rfl; exact rfl; exact rfl)
                  | (apply wbx; exact rfl; exact rfl; exact rfl; intro _)
                  | refine wc_block ?_
                  | (apply wc_true; exact rfl)
                  | (apply wc_false; exact rfl)
                  | refine wc_skip ?_
                  | refine wc_exit ?_
                  | refine wc_ret ?_
                  | refine we_then_exit ?_
                  | refine we_then_ret ?_
                  | refine we_in_normal ?_
                  | refine we_in_ret ?_
                  | refine we_in_here ?_
                  | (apply we_in_there; exact rfl))
                refine wc_plan [] none [(0, true), (1, true), (2, true), (3, true), (4, true), (5, true), (6, true), (7, true), (8, true), (9, true)] (by kernel_rfl) (List.nil_sublist _) ?_
                repeat (first
                  | (apply ps; exact rfl; exact rfl; exact rfl; exact rfl)
                  | (apply wp_still; exact rfl; exact rfl; exact rfl; exact (od_indexAddr k rfl rfl rfl rfl rfl (by omega)))
                  | (apply wp_still; exact rfl; exact rfl; exact rfl; exact (od_loadLk rfl oku hcu (by simp)))
                  | (apply wp_still; exact rfl; exact rfl; exact rfl; exact (od_loadLk rfl okv hcv (by simp)))
                  | (apply pq Tryd.call33; exact rfl; exact rfl; exact rfl; exact rfl; exact (fun w' hw => hs0 ▸ ref_SameLink u v w' (oku.ext hw.ext_all) (okv.ext hw.ext_all)))
                  | (apply pfa; exact rfl; exact rfl; exact rfl; exact rfl; exact rfl)
                  | (apply pi64; exact rfl; exact rfl; omega; omega; exact rfl; exact rfl)
                  | (apply pct; exact rfl; exact rfl; omega; exact rfl; exact rfl)
                  | (apply pcf; exact rfl; exact rfl; omega; exact rfl; exact rfl)
                  | (apply wp_not; exact rfl; exact rfl; exact rfl)
                  | (apply plb (j := 0); exact rfl; exact rfl; exact rfl; exact rfl; exact rfl; exact rfl; exact rfl)
                  | (apply plb (j := 1); exact rfl; exact rfl; exact rfl; exact rfl; exact rfl; exact rfl; exact rfl)
                  | (apply plb (j := 2); exact rfl; exact rfl; exact rfl; exact rfl; exact rfl; exact rfl; exact rfl)
                  | (apply pln; exact rfl; exact rfl; exact rfl; exact rfl; exact rfl)
                  | (apply ppu; exact rfl; exact rfl; exact rfl; exact rfl)
                  | (apply pfs; exact rfl; exact rfl; exact rfl; exact rfl)
                  | apply wp_nil)
                repeat (first
                  | (apply ws; exact rfl; exact rfl; exact rfl)
                  | refine wc_seq ?_
                  | refine wc_region ?_
                  | refine wl_nil ?_
                  | refine we_round ?_
                  | refine we_then_wc ?_
                  | (apply wi64; exact rfl; omega; omega; exact rfl; exact rfl)
                  | (apply wfa; exact rfl; exact rfl; exact rfl; exact rfl)
                  | (apply wct; exact rfl; omega; exact rfl; exact rfl)
                  | (apply wcf; exact rfl; omega; exact rfl; exact rfl)
                  | (apply wn; exact rfl; exact rfl)
                  | (apply wlb (j := 0); exact rfl; exact rfl; exact rfl; exact rfl; exact rfl; exact rfl)
                  | (apply wlb (j := 1); exact rfl; exact rfl; exact rfl; exact rfl; exact rfl; exact rfl)
                  | (apply wlb (j := 2); exact rfl; exact rfl; exact rfl; exact rfl; exact rfl; exact rfl)
                  | (apply wlb (j := 3); exact rfl; exact rfl; exact rfl; exact rfl; exact rfl; exact rfl)
                  | (apply wln; exact rfl; exact rfl; exact rfl; exact rfl)
                  | (apply wpu; exact rfl; exact rfl; exact rfl)
                  | (apply wbx; exact rfl; exact rfl; exact rfl; intro _)
                  | refine wc_block ?_
                  | (apply wc_true; exact rfl)
                  | (apply wc_false; exact rfl)
                  | refine wc_skip ?_
                  | refine wc_exit ?_
                  | refine wc_ret ?_
                  | refine we_then_exit ?_
                  | refine we_then_ret ?_
                  | refine we_in_normal ?_
                  | refine we_in_ret ?_
                  | refine we_in_here ?_
                  | (apply we_in_there; exact rfl))
                exact we_again (k + 1) (by omega) (by omega) ⟨rfl, rfl, rfl, trivial⟩ (List.nil_sublist _)
          · rw [hspl]
            simp only [c3, ne_eq, not_false_eq_true, decide_true, if_true]
            repeat (first
              | (apply ws; exact rfl; exact rfl; exact rfl)
              | (apply wq Tryd.call48; exact rfl; exact rfl; exact rfl; exact (fun w' hw => k1 w' hw.ext_all))
              | (apply wq Tryd.call48; exact rfl; exact rfl; exact rfl; exact (fun w' hw => k2 w' hw.ext_all))
              | refine wc_seq ?_
              | refine wc_region ?_
              | refine wl_nil ?_
              | refine we_round ?_
              | refine we_then_wc ?_
              | (apply wi64; exact rfl; omega; omega; exact rfl; exact rfl)
              | (apply wfa; exact rfl; exact rfl; exact rfl; exact rfl)
              | (apply wct; exact rfl; omega; exact rfl; exact rfl)
              | (apply wcf; exact rfl; omega; exact rfl; exact rfl)
              | (apply wn; exact rfl; exact rfl)
              | (apply wlb (j := 0); exact rfl; exact rfl; exact rfl; exact rfl; exact rfl; exact rfl)
              | (apply wlb (j := 1); exact rfl; exact rfl; exact rfl; exact rfl; exact rfl; exact rfl)
              | (apply wlb (j := 2); exact rfl; exact rfl; exact rfl; exact rfl; exact rfl; exact rfl)
              | (apply wlb (j := 3); exact rfl; exact rfl; exact rfl; exact rfl; exact rfl; exact rfl)
              | (apply wln; exact rfl; exact rfl; exact rfl; exact rfl)
              | (apply wpu; exact rfl; exact rfl; exact rfl)
              | (apply wbx; exact rfl; exact rfl; exact rfl; intro _)
              | refine wc_block ?_
              | (apply wc_true; exact rfl)
              | (apply wc_false; exact rfl)
              | refine wc_skip ?_
              | refine wc_exit ?_
              | refine wc_ret ?_
              | refine we_then_exit ?_
              | refine we_then_ret ?_
              | refine we_in_normal ?_
              | refine we_in_ret ?_
              | refine we_in_here ?_
              | (apply we_in_there; exact rfl))
            refine wc_plan [] none [(0, true), (1, true), (2, true), (3, true), (4, true), (5, true), (6, true), (7, true), (8, true), (9, true), (10, true), (11, true), (12, true), (13, true), (14, true), (15, true), (16, true), (17, true), (18, true)] (by kernel_rfl) (List.nil_sublist _) ?_
            repeat (first
              | (apply ps; exact rfl; exact rfl; exact rfl; exact rfl)
              | (apply wp_still; exact rfl; exact rfl; exact rfl; exact (od_indexAddr 0 rfl rfl rfl rfl rfl (by omega)))
              | (apply plo; exact rfl; exact rfl; exact rfl; exact hx0'; exact List.not_mem_nil; exact rfl; exact rfl)
              | (apply plo; exact rfl; exact rfl; exact rfl; exact hy0'; exact List.not_mem_nil; exact rfl; exact rfl)
              | (apply pfa; exact rfl; exact rfl; exact rfl; exact rfl; exact rfl)
              | (apply pi64; exact rfl; exact rfl; omega; omega; exact rfl; exact rfl)
              | (apply pct; exact rfl; exact rfl; omega; exact rfl; exact rfl)
              | (apply pcf; exact rfl; exact rfl; omega; exact rfl; exact rfl)
              | (apply wp_not; exact rfl; exact rfl; exact rfl)
              | (apply plb (j := 0); exact rfl; exact rfl; exact rfl; exact rfl; exact rfl; exact rfl; exact rfl)
              | (apply plb (j := 1); exact rfl; exact rfl; exact rfl; exact rfl; exact rfl; exact rfl; exact rfl)
              | (apply plb (j := 2); exact rfl; exact rfl; exact rfl; exact rfl; exact rfl; exact rfl; exact rfl)
              | (apply pln; exact rfl; exact rfl; exact rfl; exact rfl; exact rfl)
              | (apply ppu; exact rfl; exact rfl; exact rfl; exact rfl)
              | (apply pfs; exact rfl; exact rfl; exact rfl; exact rfl)
              | apply wp_nil)
            repeat (first
              | (apply ws; exact rfl; exact rfl; exact rfl)
              | refine wc_seq ?_
              | refine wc_region ?_
              | refine wl_nil ?_
              | refine we_round ?_
              | refine we_then_wc ?_
              | (apply wi64; exact rfl; omega; omega; exact rfl; exact rfl)
              | (apply wfa; exact rfl; exact rfl; exact rfl; exact rfl)
              | (apply wct; exact rfl; omega; exact rfl; exact rfl)
              | (apply wcf; exact rfl; omega; exact rfl; exact rfl)
              | (apply wn; exact rfl; exact rfl)
              | (apply wlb (j := 0); exact rfl; exact rfl; exact rfl; exact rfl; exact rfl; exact rfl)
              | (apply wlb (j := 1); exact rfl; exact rfl; exact rfl; exact rfl; exact rfl; exact rfl)
              | (apply wlb (j := 2); exact rfl; exact rfl; exact rfl; exact rfl; exact rfl; exact rfl)
              | (apply wlb (j := 3); exact rfl; exact rfl; exact rfl; exact rfl; exact rfl; exact rfl)
              | (apply wln; exact rfl; exact rfl; exact rfl; exact rfl)
              | (apply wpu; exact rfl; exact rfl; exact rfl)
              | (apply wbx; exact rfl; exact rfl; exact rfl; intro _)
              | refine wc_block ?_
              | (apply wc_true; exact rfl)
              | (apply wc_false; exact rfl)
              | refine wc_skip ?_
              | refine wc_exit ?_
              | refine wc_ret ?_
              | refine we_then_exit ?_
              | refine we_then_ret ?_
              | refine we_in_normal ?_
              | refine we_in_ret ?_
              | refine we_in_here ?_
              | (apply we_in_there; exact rfl))
            exact we_ret3 (Or.inl rfl) rfl rfl rfl rfl fun w' h => ⟨rfl, h.ext_all⟩
    · rw [if_neg c2]
      generalize chkP ys = e2 at *
      repeat (first
        | (apply ws; exact rfl; exact rfl; exact rfl)
        | (apply wq Tryd.call48; exact rfl; exact rfl; exact rfl; exact (fun w' hw => k1 w' hw.ext_all))
        | (apply wq Tryd.call48; exact rfl; exact rfl; exact rfl; exact (fun w' hw => k2 w' hw.ext_all))
        | refine wc_seq ?_
        | refine wc_region ?_
        | refine wl_nil ?_
        | refine we_round ?_
        | refine we_then_wc ?_
        | (apply wi64; exact rfl; omega; omega; exact rfl; exact rfl)
        | (apply wfa; exact rfl; exact rfl; exact rfl; exact rfl)
        | (apply wct; exact rfl; omega; exact rfl; exact rfl)
        | (apply wcf; exact rfl; omega; exact rfl; exact rfl)
        | (apply wn; exact rfl; exact rfl)
        | (apply wlb (j := 0); exact rfl; exact rfl; exact rfl; exact rfl; exact rfl; exact rfl)
        | (apply wlb (j := 1); exact rfl; exact rfl; exact rfl; exact rfl; exact rfl; exact rfl)
        | (apply wlb (j := 2); exact rfl; exact rfl; exact rfl; exact rfl; exact rfl; exact rfl)
        | (apply wlb (j := 3); exact rfl; exact rfl; exact rfl; exact rfl; exact rfl; exact rfl)
        | (apply wln; exact rfl; exact rfl; exact rfl; exact rfl)
        | (apply wpu; exact rfl; exact rfl; exact rfl)
        | (apply wbx; exact rfl; exact rfl; exact rfl; intro _)
        | refine wc_block ?_
        | (apply wc_true; exact rfl)
        | (apply wc_false; exact rfl)
        | refine wc_skip ?_
        | refine wc_exit ?_
        | refine wc_ret ?_
        | refine we_then_exit ?_
        | refine we_then_ret ?_
        | refine we_in_normal ?_
        | refine we_in_ret ?_
        | refine we_in_here ?_
        | (apply we_in_there; exact rfl))
      exact we_ret3 (Or.inl rfl) rfl rfl rfl rfl fun w' h => ⟨rfl, h.ext_all⟩
  · rw [if_neg c1]
    generalize chkP xs = e1 at *
    repeat (first
      | (apply ws; exact rfl; exact rfl; exact rfl)
      | (apply wq Tryd.call48; exact rfl; exact rfl; exact rfl; exact (fun w' hw => k1 w' hw.ext_all))
      | (apply wq Tryd.call48; exact rfl; exact rfl; exact rfl; exact (fun w' hw => k2 w' hw.ext_all))
      | refine wc_seq ?_
      | refine wc_region ?_
      | refine wl_nil ?_
      | refine we_round ?_
      | refine we_then_wc ?_
      | (apply wi64; exact rfl; omega; omega; exact rfl; exact rfl)
      | (apply wfa; exact rfl; exact rfl; exact rfl; exact rfl)
      | (apply wct; exact rfl; omega; exact rfl; exact rfl)
      | (apply wcf; exact rfl; omega; exact rfl; exact rfl)
      | (apply wn; exact rfl; exact rfl)
      | (apply wlb (j := 0); exact rfl; exact rfl; exact rfl; exact rfl; exact rfl; exact rfl)
      | (apply wlb (j := 1); exact rfl; exact rfl; exact rfl; exact rfl; exact rfl; exact rfl)
      | (apply wlb (j := 2); exact rfl; exact rfl; exact rfl; exact rfl; exact rfl; exact rfl)
      | (apply wlb (j := 3); exact rfl; exact rfl; exact rfl; exact rfl; exact rfl; exact rfl)
      | (apply wln; exact rfl; exact rfl; exact rfl; exact rfl)
      | (apply wpu; exact rfl; exact rfl; exact rfl)
      | (apply wbx; exact rfl; exact rfl; exact rfl; intro _)
      | refine wc_block ?_
      | (apply wc_true; exact rfl)
      | (apply wc_false; exact rfl)
      | refine wc_skip ?_
      | refine wc_exit ?_
      | refine wc_ret ?_
      | refine we_then_exit ?_
      | refine we_then_ret ?_
      | refine we_in_normal ?_
      | refine we_in_ret ?_
      | refine we_in_here ?_
      | (apply we_in_there; exact rfl))
    exact we_ret3 (Or.inl rfl) rfl rfl rfl rfl fun w' h => ⟨rfl, h.ext_all⟩
end Go.Proofs.YtielloijdkoeiaaDoor
