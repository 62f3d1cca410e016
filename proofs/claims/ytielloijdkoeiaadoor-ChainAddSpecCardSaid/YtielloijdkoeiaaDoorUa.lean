/- The reference of chapter 8: the head, the check. -/
import Derived.Test.YtielloijdkoeiaaDoorSd
import Derived.Test.YtielloijdkoeiaaDoorPc
import Derived.Test.YtielloijdkoeiaaDoorLj
namespace Go.Proofs.YtielloijdkoeiaaDoor
open Go Go.RowKit Go.Lib
set_option maxRecDepth 100000

theorem headP_last {xs : List Lnk} {x : Lnk} (h : xs.getLast? = some x) : headP xs = tagP linkT (textB x) := by
  obtain ⟨ys, rfl⟩ : ∃ ys, xs = ys ++ [x] := List.getLast?_eq_some_iff.1 h
  exact headP_snoc ys x

theorem ref_Head (a : Option Addr) (c : Nat) (xs : List Lnk) (hs : smallP xs) (w : World) (h : LkA w a c xs) : Fn 49 [.slice a xs.length c] w (Quiet (digV (headP xs)) w) := by
  refine fn_of (args := [.slice a xs.length c]) Tryd.func49 rfl Tryd.ntmps49 rfl (Hp.start w) ?_
  have hp32 := headP_length xs
  by_cases h0 : xs = []
  · subst h0
    have ht := fun w' => ref_Tagged noneT (.slice none 0 0) [] (by simp [noneT]) (by simp) w' (fun w'' _ => Src.nil)
    rw [← show headP [] = tagP noneT [] from headP_nil] at ht
    generalize headP [] = D at *
    have hD : (D.map v8).length = 32 := by simp [hp32]
    show WC none _ _ _ _ (argsEnv 0 [.slice a 0 c]) _ _ _
    repeat (first
      | (apply ws; exact rfl; exact rfl; exact rfl)
      | (apply wal zero53 rfl; exact rfl; exact rfl; intro bd)
      | (apply wq Tryd.call57; exact rfl; exact rfl; exact rfl; exact (fun w' _ => ref_Text_nil a c w'))
      | (apply wq Tryd.call66; exact rfl; exact rfl; exact rfl; exact (fun w' _ => ht w'))
      | (apply wsw (j := 0); exact rfl; exact rfl; exact rfl; exact rfl; exact hD; exact plain8 _; exact rfl; exact rfl)
      | refine wc_seq ?_
      | refine wc_region ?_
      | refine wl_nil ?_
      | refine we_round ?_
      | refine we_then_wc ?_
      | (apply wi64; exact rfl; omega; omega; exact rfl; exact rfl)
      | (apply wfa; exact rfl; exact rfl; exact rfl; exact rfl)
      | (apply wct; exact rfl; omega; exact rfl; exact rfl)
      | (apply wcf; exact rfl; omega; exact rfl; exact rfl)
      | (apply wn; exact rfl; exact rfl)
      | (apply wlb (j := 0); exact rfl; exact rfl; exact rfl; exact rfl; exact rfl; exact rfl)
      | (apply wlb (j := 1); exact rfl; exact rfl; exact rfl; exact rfl; exact rfl; exact rfl)
      | (apply wlb (j := 2); exact rfl; exact rfl; exact rfl; exact rfl; exact rfl; exact rfl)
      | (apply wlb (j := 3); exact rfl; exact rfl; exact rfl; exact rfl; exact rfl; exact rfl)
      | (apply wln; exact rfl; exact rfl; exact rfl; exact rfl)
      | (apply wpu; exact rfl; exact rfl; exact rfl)
      | (apply wbx; exact rfl; exact rfl; exact rfl; intro _)
      | refine wc_block ?_
      | (apply wc_true; exact rfl)
      | (apply wc_false; exact rfl)
      | refine wc_skip ?_
      | refine wc_exit ?_
      | refine wc_ret ?_
      | refine we_then_exit ?_
      | refine we_then_ret ?_
      | refine we_in_normal ?_
      | refine we_in_ret ?_
      | refine we_in_here ?_
      | (apply we_in_there; exact rfl))
    exact we_retCA 0 (Or.inl rfl) rfl rfl rfl rfl rfl hD fun w' h => ⟨rfl, h.ext_all⟩
  · obtain ⟨x, hx⟩ : ∃ x, xs.getLast? = some x := ⟨_, List.getLast?_eq_some_getLast h0⟩
    have hxm : x ∈ xs := List.mem_of_getLast? hx
    have k1 : ∀ w', Ext w w' → Fn 57 [.slice a xs.length c] w' (Texted (textB x) w') := fun w' e => ref_Text a c xs x hx hs.1 (hs.2 x hxm) w' (h.ext e)
    have htl : (textB x).length ≤ 2 ^ 38 := encL_length _ (flat_ok (h.ok hxm) (hs.2 x hxm)) (by simp)
    have ht := fun v w' => ref_Tagged linkT v (textB x) (by simp [linkT]) (by omega) w'
    rw [← headP_last hx] at ht
    generalize headP xs = D at *
    generalize textB x = T at *
    have hD : (D.map v8).length = 32 := by simp [hp32]
    repeat (first
      | (apply ws; exact rfl; exact rfl; exact rfl)
      | (apply wal zero53 rfl; exact rfl; exact rfl; intro bd)
      | refine wc_seq ?_
      | refine wc_region ?_
      | refine wl_nil ?_
      | refine we_round ?_
      | refine we_then_wc ?_
      | (apply wi64; exact rfl; omega; omega; exact rfl; exact rfl)
      | (apply wfa; exact rfl; exact rfl; exact rfl; exact rfl)
      | (apply wct; exact rfl; omega; exact rfl; exact rfl)
      | (apply wcf; exact rfl; omega; exact rfl; exact rfl)
      | (apply wn; exact rfl; exact rfl)
      | (apply wlb (j := 0); exact rfl; exact rfl; exact rfl; exact rfl; exact rfl; exact rfl)
      | (apply wlb (j := 1); exact rfl; exact rfl; exact rfl; exact rfl; exact rfl; exact rfl)
      | (apply wlb (j := 2); exact rfl; exact rfl; exact rfl; exact rfl; exact rfl; exact rfl)
      | (apply wlb (j := 3); exact rfl; exact rfl; exact rfl; exact rfl; exact rfl; exact rfl)
      | (apply wln; exact rfl; exact rfl; exact rfl; exact rfl)
      | (apply wpu; exact rfl; exact rfl; exact rfl)
      | (apply wbx; exact rfl; exact rfl; exact rfl; intro _)
      | refine wc_block ?_
      | (apply wc_true; exact rfl)
      | (apply wc_false; exact rfl)
      | refine wc_skip ?_
      | refine wc_exit ?_
      | refine wc_ret ?_
      | refine we_then_exit ?_
      | refine we_then_ret ?_
      | refine we_in_normal ?_
      | refine we_in_ret ?_
      | refine we_in_here ?_
      | (apply we_in_there; exact rfl))
    refine wmk Tryd.call57 rfl rfl rfl (fun w' h => k1 w' h.ext_all) ?_
    rintro ⟨c1, sp1⟩ b1 ⟨e1, e2⟩
    simp only at e1 e2
    dsimp only
    repeat (first
      | (apply ws; exact rfl; exact rfl; exact rfl)
      | (apply wq Tryd.call66; exact rfl; exact rfl; exact rfl; exact (fun w' h => ht _ w' (fun w'' h' => Src.rd (Rd.ext (h.rd (f := v8) (l := T) (j := 0) (o := 0) rfl e1 (cells_map 0 rfl)) h'))))
      | (apply wsw (j := 1); exact rfl; exact rfl; exact rfl; exact rfl; exact hD; exact plain8 _; exact rfl; exact rfl)
      | refine wc_seq ?_
      | refine wc_region ?_
      | refine wl_nil ?_
      | refine we_round ?_
      | refine we_then_wc ?_
      | (apply wi64; exact rfl; omega; omega; exact rfl; exact rfl)
      | (apply wfa; exact rfl; exact rfl; exact rfl; exact rfl)
      | (apply wct; exact rfl; omega; exact rfl; exact rfl)
      | (apply wcf; exact rfl; omega; exact rfl; exact rfl)
      | (apply wn; exact rfl; exact rfl)
      | (apply wlb (j := 0); exact rfl; exact rfl; exact rfl; exact rfl; exact rfl; exact rfl)
      | (apply wlb (j := 1); exact rfl; exact rfl; exact rfl; exact rfl; exact rfl; exact rfl)
      | (apply wlb (j := 2); exact rfl; exact rfl; exact rfl; exact rfl; exact rfl; exact rfl)
      | (apply wlb (j := 3); exact rfl; exact rfl; exact rfl; exact rfl; exact rfl; exact rfl)
      | (apply wln; exact rfl; exact rfl; exact rfl; exact rfl)
      | (apply wpu; exact rfl; exact rfl; exact rfl)
      | (apply wbx; exact rfl; exact rfl; exact rfl; intro _)
      | refine wc_block ?_
      | (apply wc_true; exact rfl)
      | (apply wc_false; exact rfl)
      | refine wc_skip ?_
      | refine wc_exit ?_
      | refine wc_ret ?_
      | refine we_then_exit ?_
      | refine we_then_ret ?_
      | refine we_in_normal ?_
      | refine we_in_ret ?_
      | refine we_in_here ?_
      | (apply we_in_there; exact rfl))
    exact we_retCA 1 (Or.inl rfl) rfl rfl rfl rfl rfl hD fun w' h => ⟨rfl, h.ext_all⟩

theorem chkP_bad {xs : List Lnk} {k : Nat} (h : ¬ 1024 < xs.length) (hk : k < xs.length) (hb : ¬ okB xs k = true) : chkP xs = 80 := by
  rcases chkP_range xs with h0 | h0 | h0
  · exact absurd ((chkP_zero.1 h0).2 k hk) hb
  · unfold chkP at h0
    rw [if_neg h] at h0
    split at h0 <;> cases h0
  · exact h0

set_option maxHeartbeats 800000 in
theorem ref_Check (a : Option Addr) (c : Nat) (xs : List Lnk) (hs : smallP xs) (w : World) (h : LkA w a c xs) : Fn 48 [.slice a xs.length c] w (Quiet (.int .i64 (chkP xs)) w) := by
  refine fn_of (args := [.slice a xs.length c]) Tryd.func48 rfl Tryd.ntmps48 rfl (Hp.start w) ?_
  obtain ⟨m, hm⟩ : ∃ m : Nat, xs.length = m := ⟨_, rfl⟩
  have hm20 : m ≤ 2 ^ 20 := hm ▸ hs.1
  have hmc : m ≤ c := hm ▸ h.1
  rw [hm]
  by_cases h1024 : 1024 < m
  · have hchk : chkP xs = 2 := by unfold chkP; rw [if_pos (by omega)]
    rw [hchk]
    repeat (first
      | (apply ws; exact rfl; exact rfl; exact rfl)
      | refine wc_seq ?_
      | refine wc_region ?_
      | refine wl_nil ?_
      | refine we_round ?_
      | refine we_then_wc ?_
      | (apply wi64; exact rfl; omega; omega; exact rfl; exact rfl)
      | (apply wfa; exact rfl; exact rfl; exact rfl; exact rfl)
      | (apply wct; exact rfl; omega; exact rfl; exact rfl)
      | (apply wcf; exact rfl; omega; exact rfl; exact rfl)
      | (apply wn; exact rfl; exact rfl)
      | (apply wlb (j := 0); exact rfl; exact rfl; exact rfl; exact rfl; exact rfl; exact rfl)
      | (apply wlb (j := 1); exact rfl; exact rfl; exact rfl; exact rfl; exact rfl; exact rfl)
      | (apply wlb (j := 2); exact rfl; exact rfl; exact rfl; exact rfl; exact rfl; exact rfl)
      | (apply wlb (j := 3); exact rfl; exact rfl; exact rfl; exact rfl; exact rfl; exact rfl)
      | (apply wln; exact rfl; exact rfl; exact rfl; exact rfl)
      | (apply wpu; exact rfl; exact rfl; exact rfl)
      | (apply wbx; exact rfl; exact rfl; exact rfl; intro _)
      | refine wc_block ?_
      | (apply wc_true; exact rfl)
      | (apply wc_false; exact rfl)
      | refine wc_skip ?_
      | refine wc_exit ?_
      | refine wc_ret ?_
      | refine we_then_exit ?_
      | refine we_then_ret ?_
      | refine we_in_normal ?_
      | refine we_in_ret ?_
      | refine we_in_here ?_
      | (apply we_in_there; exact rfl))
    exact we_ret1 (Or.inl rfl) rfl rfl fun w' h => ⟨rfl, h.ext_all⟩
  have hbad := fun {k : Nat} hk hb => chkP_bad (xs := xs) (k := k) (by omega) hk hb
  have hgood : (∀ j, j < m → okB xs j = true) → chkP xs = 0 := fun hh => chkP_zero.2 ⟨by omega, fun k hk => hh k (by omega)⟩
  generalize chkP xs = E at *
  repeat (first
    | (apply ws; exact rfl; exact rfl; exact rfl)
    | refine wc_seq ?_
    | refine wc_region ?_
    | refine wl_nil ?_
    | refine we_round ?_
    | refine we_then_wc ?_
    | (apply wi64; exact rfl; omega; omega; exact rfl; exact rfl)
    | (apply wfa; exact rfl; exact rfl; exact rfl; exact rfl)
    | (apply wct; exact rfl; omega; exact rfl; exact rfl)
    | (apply wcf; exact rfl; omega; exact rfl; exact rfl)
    | (apply wn; exact rfl; exact rfl)
    | (apply wlb (j := 0); exact rfl; exact rfl; exact rfl; exact rfl; exact rfl; exact rfl)
    | (apply wlb (j := 1); exact rfl; exact rfl; exact rfl; exact rfl; exact rfl; exact rfl)
    | (apply wlb (j := 2); exact rfl; exact rfl; exact rfl; exact rfl; exact rfl; exact rfl)
    | (apply wlb (j := 3); exact rfl; exact rfl; exact rfl; exact rfl; exact rfl; exact rfl)
    | (apply wln; exact rfl; exact rfl; exact rfl; exact rfl)
    | (apply wpu; exact rfl; exact rfl; exact rfl)
    | (apply wbx; exact rfl; exact rfl; exact rfl; intro _)
    | refine wc_block ?_
    | (apply wc_true; exact rfl)
    | (apply wc_false; exact rfl)
    | refine wc_skip ?_
    | refine wc_exit ?_
    | refine wc_ret ?_
    | refine we_then_exit ?_
    | refine we_then_ret ?_
    | refine we_in_normal ?_
    | refine we_in_ret ?_
    | refine we_in_here ?_
    | (apply we_in_there; exact rfl))
  refine wc_loop (ι := Nat) (fun k => [(3, .int .i64 (k : Int)), (0, .slice a m c)]) (fun _ => []) (fun k => k ≤ m ∧ ∀ j, j < k → okB xs j = true) (fun k => m - k) 0 ⟨Nat.zero_le _, fun j hj => absurd hj (by omega)⟩ ⟨rfl, rfl, trivial⟩ (List.nil_sublist _) ?_
  rintro k ⟨hk, hall⟩
  by_cases hkm : k = m
  · subst hkm
    rw [hgood hall]
    repeat (first
      | (apply ws; exact rfl; exact rfl; exact rfl)
      | refine wc_seq ?_
      | refine wc_region ?_
      | refine wl_nil ?_
      | refine we_round ?_
      | refine we_then_wc ?_
      | (apply wi64; exact rfl; omega; omega; exact rfl; exact rfl)
      | (apply wfa; exact rfl; exact rfl; exact rfl; exact rfl)
      | (apply wct; exact rfl; omega; exact rfl; exact rfl)
      | (apply wcf; exact rfl; omega; exact rfl; exact rfl)
      | (apply wn; exact rfl; exact rfl)
      | (apply wlb (j := 0); exact rfl; exact rfl; exact rfl; exact rfl; exact rfl; exact rfl)
      | (apply wlb (j := 1); exact rfl; exact rfl; exact rfl; exact rfl; exact rfl; exact rfl)
      | (apply wlb (j := 2); exact rfl; exact rfl; exact rfl; exact rfl; exact rfl; exact rfl)
      | (apply wlb (j := 3); exact rfl; exact rfl; exact rfl; exact rfl; exact rfl; exact rfl)
      | (apply wln; exact rfl; exact rfl; exact rfl; exact rfl)
      | (apply wpu; exact rfl; exact rfl; exact rfl)
      | (apply wbx; exact rfl; exact rfl; exact rfl; intro _)
      | refine wc_block ?_
      | (apply wc_true; exact rfl)
      | (apply wc_false; exact rfl)
      | refine wc_skip ?_
      | refine wc_exit ?_
      | refine wc_ret ?_
      | refine we_then_exit ?_
      | refine we_then_ret ?_
      | refine we_in_normal ?_
      | refine we_in_ret ?_
      | refine we_in_here ?_
      | (apply we_in_there; exact rfl))
    exact we_ret1 (Or.inl rfl) rfl rfl fun w' h => ⟨rfl, h.ext_all⟩
  obtain ⟨x, b, o, hx, ea, okx, hcx⟩ := h.get k (by omega)
  obtain ⟨y, b', o', hy, ea', oky, hcy⟩ := h.get 0 (by omega)
  subst ea
  cases ea'
  have hbk := hbad (k := k) (by omega)
  rw [okB_iff hx hy] at hbk
  have hokk := okB_iff hx hy
  have hxsz : x.cells.toArray.size = 35 := by simp [okx.len]
  have hc34 := okx.c34
  have hy0 := hcy 0 _ rfl
  have hpl := prevs_len okx
  have hprevs := okx.prevs
  have hH : ∀ w', Ext w w' → Fn 49 [.slice (some ⟨b, o, none⟩) k c] w' (Quiet (digV (headP (xs.take k))) w') := fun w' e => by
    have e1 : (xs.take k).length = k := by simp; omega
    have := ref_Head (some ⟨b, o, none⟩) c (xs.take k) (hs.take k) w' ((h.take k).ext e)
    rwa [e1] at this
  have hp32 := headP_length (xs.take k)
  generalize headP (xs.take k) = hp at *
  have hxp := okx.prev
  repeat (first
    | (apply ws; exact rfl; exact rfl; exact rfl)
    | refine wl_still rfl rfl rfl (od_indexAddr k rfl rfl rfl rfl (by omega) (by omega)) ?_
    | refine wl_still rfl rfl rfl (od_loadLk rfl okx hcx (by simp)) ?_
    | (apply wal Tryd.zeroValue55 rfl; exact rfl; exact rfl; intro bx)
    | (apply wsw (j := 0); exact rfl; exact rfl; exact rfl; exact rfl; exact hxsz; exact plainLnkA x; exact rfl; exact rfl)
    | refine wc_seq ?_
    | refine wc_region ?_
    | refine wl_nil ?_
    | refine we_round ?_
    | refine we_then_wc ?_
    | (apply wi64; exact rfl; omega; omega; exact rfl; exact rfl)
    | (apply wfa; exact rfl; exact rfl; exact rfl; exact rfl)
    | (apply wct; exact rfl; omega; exact rfl; exact rfl)
    | (apply wcf; exact rfl; omega; exact rfl; exact rfl)
    | (apply wn; exact rfl; exact rfl)
    | (apply wlb (j := 0); exact rfl; exact rfl; exact rfl; exact rfl; exact rfl; exact rfl)
    | (apply wlb (j := 1); exact rfl; exact rfl; exact rfl; exact rfl; exact rfl; exact rfl)
    | (apply wlb (j := 2); exact rfl; exact rfl; exact rfl; exact rfl; exact rfl; exact rfl)
    | (apply wlb (j := 3); exact rfl; exact rfl; exact rfl; exact rfl; exact rfl; exact rfl)
    | (apply wln; exact rfl; exact rfl; exact rfl; exact rfl)
    | (apply wpu; exact rfl; exact rfl; exact rfl)
    | (apply wbx; exact rfl; exact rfl; exact rfl; intro _)
    | refine wc_block ?_
    | (apply wc_true; exact rfl)
    | (apply wc_false; exact rfl)
    | refine wc_skip ?_
    | refine wc_exit ?_
    | refine wc_ret ?_
    | refine we_then_exit ?_
    | refine we_then_ret ?_
    | refine we_in_normal ?_
    | refine we_in_ret ?_
    | refine we_in_here ?_
    | (apply we_in_there; exact rfl))
  refine wc_plan _ none [(0, true), (1, true), (2, true), (3, true), (4, true), (5, true), (6, true), (7, true), (8, true), (9, true), (10, true), (11, true), (12, true), (13, true), (14, true), (15, true), (16, true), (17, true), (18, true), (19, true), (20, true), (21, true), (22, true), (23, true), (24, true), (25, true), (26, true), (27, true), (28, true), (29, true), (30, true), (31, true), (32, true), (33, true), (34, true), (35, true), (36, true), (37, true)] (by kernel_rfl) (List.Sublist.refl _) ?_
  by_cases n1 : x.node < 0
  · rw [hbk (fun hh => hh.2.1 n1)]
    repeat (first
      | (apply ps; exact rfl; exact rfl; exact rfl; exact rfl)
      | (apply plb (j := 0); exact rfl; exact rfl; exact rfl; exact rfl; exact rfl; exact rfl; exact rfl)
      | (apply plb (j := 0); exact rfl; exact rfl; exact rfl; exact rfl; exact hc34; exact rfl; exact rfl)
      | (apply wp_still; exact rfl; exact rfl; exact rfl; exact (od_indexAddr 0 rfl rfl rfl rfl rfl (by omega)))
      | (apply plo; exact rfl; exact rfl; exact rfl; exact hy0; exact List.not_mem_nil; exact rfl; exact rfl)
      | (apply wp_still; exact rfl; exact rfl; exact rfl; exact (od_loadAP 0 rfl rfl rfl rfl hpl hprevs))
      | (apply wp_still; exact rfl; exact rfl; exact rfl; exact (od_sliceTo k rfl rfl rfl ⟨_, _, rfl, rfl⟩ (by omega)))
      | (apply pq Tryd.call49; exact rfl; exact rfl; exact rfl; exact rfl; exact (fun w' hw => hH w' hw.ext_all))
      | (apply pfa; exact rfl; exact rfl; exact rfl; exact rfl; exact rfl)
      | (apply pi64; exact rfl; exact rfl; omega; omega; exact rfl; exact rfl)
      | (apply pct; exact rfl; exact rfl; omega; exact rfl; exact rfl)
      | (apply pcf; exact rfl; exact rfl; omega; exact rfl; exact rfl)
      | (apply wp_not; exact rfl; exact rfl; exact rfl)
      | (apply plb (j := 0); exact rfl; exact rfl; exact rfl; exact rfl; exact rfl; exact rfl; exact rfl)
      | (apply plb (j := 1); exact rfl; exact rfl; exact rfl; exact rfl; exact rfl; exact rfl; exact rfl)
      | (apply plb (j := 2); exact rfl; exact rfl; exact rfl; exact rfl; exact rfl; exact rfl; exact rfl)
      | (apply pln; exact rfl; exact rfl; exact rfl; exact rfl; exact rfl)
      | (apply ppu; exact rfl; exact rfl; exact rfl; exact rfl)
      | (apply pfs; exact rfl; exact rfl; exact rfl; exact rfl)
      | apply wp_nil)
    repeat (first
      | (apply ws; exact rfl; exact rfl; exact rfl)
      | refine wc_seq ?_
      | refine wc_region ?_
      | refine wl_nil ?_
      | refine we_round ?_
      | refine we_then_wc ?_
      | (apply wi64; exact rfl; omega; omega; exact rfl; exact rfl)
      | (apply wfa; exact rfl; exact rfl; exact rfl; exact rfl)
      | (apply wct; exact rfl; omega; exact rfl; exact rfl)
      | (apply wcf; exact rfl; omega; exact rfl; exact rfl)
      | (apply wn; exact rfl; exact rfl)
      | (apply wlb (j := 0); exact rfl; exact rfl; exact rfl; exact rfl; exact rfl; exact rfl)
      | (apply wlb (j := 1); exact rfl; exact rfl; exact rfl; exact rfl; exact rfl; exact rfl)
      | (apply wlb (j := 2); exact rfl; exact rfl; exact rfl; exact rfl; exact rfl; exact rfl)
      | (apply wlb (j := 3); exact rfl; exact rfl; exact rfl; exact rfl; exact rfl; exact rfl)
      | (apply wln; exact rfl; exact rfl; exact rfl; exact rfl)
      | (apply wpu; exact rfl; exact rfl; exact rfl)
      | (apply wbx; exact rfl; exact rfl; exact rfl; intro _)
      | refine wc_block ?_
      | (apply wc_true; exact rfl)
      | (apply wc_false; exact rfl)
      | refine wc_skip ?_
      | refine wc_exit ?_
      | refine wc_ret ?_
      | refine we_then_exit ?_
      | refine we_then_ret ?_
      | refine we_in_normal ?_
      | refine we_in_ret ?_
      | refine we_in_here ?_
      | (apply we_in_there; exact rfl))
    exact we_ret1 (Or.inl rfl) rfl rfl fun w' h => ⟨rfl, h.ext_all⟩
  by_cases n2 : 24 ≤ x.node
  · rw [hbk (fun hh => hh.2.2.1 n2)]
    repeat (first
      | (apply ps; exact rfl; exact rfl; exact rfl; exact rfl)
      | (apply plb (j := 0); exact rfl; exact rfl; exact rfl; exact rfl; exact rfl; exact rfl; exact rfl)
      | (apply plb (j := 0); exact rfl; exact rfl; exact rfl; exact rfl; exact hc34; exact rfl; exact rfl)
      | (apply wp_still; exact rfl; exact rfl; exact rfl; exact (od_indexAddr 0 rfl rfl rfl rfl rfl (by omega)))
      | (apply plo; exact rfl; exact rfl; exact rfl; exact hy0; exact List.not_mem_nil; exact rfl; exact rfl)
      | (apply wp_still; exact rfl; exact rfl; exact rfl; exact (od_loadAP 0 rfl rfl rfl rfl hpl hprevs))
      | (apply wp_still; exact rfl; exact rfl; exact rfl; exact (od_sliceTo k rfl rfl rfl ⟨_, _, rfl, rfl⟩ (by omega)))
      | (apply pq Tryd.call49; exact rfl; exact rfl; exact rfl; exact rfl; exact (fun w' hw => hH w' hw.ext_all))
      | (apply pfa; exact rfl; exact rfl; exact rfl; exact rfl; exact rfl)
      | (apply pi64; exact rfl; exact rfl; omega; omega; exact rfl; exact rfl)
      | (apply pct; exact rfl; exact rfl; omega; exact rfl; exact rfl)
      | (apply pcf; exact rfl; exact rfl; omega; exact rfl; exact rfl)
      | (apply wp_not; exact rfl; exact rfl; exact rfl)
      | (apply plb (j := 0); exact rfl; exact rfl; exact rfl; exact rfl; exact rfl; exact rfl; exact rfl)
      | (apply plb (j := 1); exact rfl; exact rfl; exact rfl; exact rfl; exact rfl; exact rfl; exact rfl)
      | (apply plb (j := 2); exact rfl; exact rfl; exact rfl; exact rfl; exact rfl; exact rfl; exact rfl)
      | (apply pln; exact rfl; exact rfl; exact rfl; exact rfl; exact rfl)
      | (apply ppu; exact rfl; exact rfl; exact rfl; exact rfl)
      | (apply pfs; exact rfl; exact rfl; exact rfl; exact rfl)
      | apply wp_nil)
    repeat (first
      | (apply ws; exact rfl; exact rfl; exact rfl)
      | refine wc_seq ?_
      | refine wc_region ?_
      | refine wl_nil ?_
      | refine we_round ?_
      | refine we_then_wc ?_
      | (apply wi64; exact rfl; omega; omega; exact rfl; exact rfl)
      | (apply wfa; exact rfl; exact rfl; exact rfl; exact rfl)
      | (apply wct; exact rfl; omega; exact rfl; exact rfl)
      | (apply wcf; exact rfl; omega; exact rfl; exact rfl)
      | (apply wn; exact rfl; exact rfl)
      | (apply wlb (j := 0); exact rfl; exact rfl; exact rfl; exact rfl; exact rfl; exact rfl)
      | (apply wlb (j := 1); exact rfl; exact rfl; exact rfl; exact rfl; exact rfl; exact rfl)
      | (apply wlb (j := 2); exact rfl; exact rfl; exact rfl; exact rfl; exact rfl; exact rfl)
      | (apply wlb (j := 3); exact rfl; exact rfl; exact rfl; exact rfl; exact rfl; exact rfl)
      | (apply wln; exact rfl; exact rfl; exact rfl; exact rfl)
      | (apply wpu; exact rfl; exact rfl; exact rfl)
      | (apply wbx; exact rfl; exact rfl; exact rfl; intro _)
      | refine wc_block ?_
      | (apply wc_true; exact rfl)
      | (apply wc_false; exact rfl)
      | refine wc_skip ?_
      | refine wc_exit ?_
      | refine wc_ret ?_
      | refine we_then_exit ?_
      | refine we_then_ret ?_
      | refine we_in_normal ?_
      | refine we_in_ret ?_
      | refine we_in_here ?_
      | (apply we_in_there; exact rfl))
    exact we_ret1 (Or.inl rfl) rfl rfl fun w' h => ⟨rfl, h.ext_all⟩
  by_cases n3 : x.node = y.node
  · by_cases n4 : x.no = (k : Int)
    · by_cases n5 : x.data.length ≤ 65536
      · by_cases n6 : x.prev = hp
        · have hD : decide (x.prev ≠ hp) = false := by simp [n6]
          repeat (first
            | (apply ps; exact rfl; exact rfl; exact rfl; exact rfl)
            | (apply plb (j := 0); exact rfl; exact rfl; exact rfl; exact rfl; exact rfl; exact rfl; exact rfl)
            | (apply plb (j := 0); exact rfl; exact rfl; exact rfl; exact rfl; exact hc34; exact rfl; exact rfl)
            | (apply wp_still; exact rfl; exact rfl; exact rfl; exact (od_indexAddr 0 rfl rfl rfl rfl rfl (by omega)))
            | (apply plo; exact rfl; exact rfl; exact rfl; exact hy0; exact List.not_mem_nil; exact rfl; exact rfl)
            | (apply wp_still; exact rfl; exact rfl; exact rfl; exact (od_loadAP 0 rfl rfl rfl rfl hpl hprevs))
            | (apply wp_still; exact rfl; exact rfl; exact rfl; exact (od_sliceTo k rfl rfl rfl ⟨_, _, rfl, rfl⟩ (by omega)))
            | (apply pq Tryd.call49; exact rfl; exact rfl; exact rfl; exact rfl; exact (fun w' hw => hH w' hw.ext_all))
            | (apply wp_still; exact rfl; exact rfl; exact rfl; exact (od_eqD (xs := x.prev) (ys := hp) (Or.inr ⟨rfl, hD⟩) rfl rfl hxp hp32))
            | (apply pfa; exact rfl; exact rfl; exact rfl; exact rfl; exact rfl)
            | (apply pi64; exact rfl; exact rfl; omega; omega; exact rfl; exact rfl)
            | (apply pct; exact rfl; exact rfl; omega; exact rfl; exact rfl)
            | (apply pcf; exact rfl; exact rfl; omega; exact rfl; exact rfl)
            | (apply wp_not; exact rfl; exact rfl; exact rfl)
            | (apply plb (j := 0); exact rfl; exact rfl; exact rfl; exact rfl; exact rfl; exact rfl; exact rfl)
            | (apply plb (j := 1); exact rfl; exact rfl; exact rfl; exact rfl; exact rfl; exact rfl; exact rfl)
            | (apply plb (j := 2); exact rfl; exact rfl; exact rfl; exact rfl; exact rfl; exact rfl; exact rfl)
            | (apply pln; exact rfl; exact rfl; exact rfl; exact rfl; exact rfl)
            | (apply ppu; exact rfl; exact rfl; exact rfl; exact rfl)
            | (apply pfs; exact rfl; exact rfl; exact rfl; exact rfl)
            | apply wp_nil)
          repeat (first
            | (apply ws; exact rfl; exact rfl; exact rfl)
            | refine wc_seq ?_
            | refine wc_region ?_
            | refine wl_nil ?_
            | refine we_round ?_
            | refine we_then_wc ?_
            | (apply wi64; exact rfl; omega; omega; exact rfl; exact rfl)
            | (apply wfa; exact rfl; exact rfl; exact rfl; exact rfl)
            | (apply wct; exact rfl; omega; exact rfl; exact rfl)
            | (apply wcf; exact rfl; omega; exact rfl; exact rfl)
            | (apply wn; exact rfl; exact rfl)
            | (apply wlb (j := 0); exact rfl; exact rfl; exact rfl; exact rfl; exact rfl; exact rfl)
            | (apply wlb (j := 1); exact rfl; exact rfl; exact rfl; exact rfl; exact rfl; exact rfl)
            | (apply wlb (j := 2); exact rfl; exact rfl; exact rfl; exact rfl; exact rfl; exact rfl)
            | (apply wlb (j := 3); exact rfl; exact rfl; exact rfl; exact rfl; exact rfl; exact rfl)
            | (apply wln; exact rfl; exact rfl; exact rfl; exact rfl)
            | (apply wpu; exact rfl; exact rfl; exact rfl)
            | (apply wbx; exact rfl; exact rfl; exact rfl; intro _)
            | refine wc_block ?_
            | (apply wc_true; exact rfl)
            | (apply wc_false; exact rfl)
            | refine wc_skip ?_
            | refine wc_exit ?_
            | refine wc_ret ?_
            | refine we_then_exit ?_
            | refine we_then_ret ?_
            | refine we_in_normal ?_
            | refine we_in_ret ?_
            | refine we_in_here ?_
            | (apply we_in_there; exact rfl))
          exact we_again (k + 1) ⟨by omega, fun j hj => by
            rcases Nat.lt_or_ge j k with hjk | hjk
            · exact hall j hjk
            · have e : j = k := by omega
              subst e
              exact hokk.2 ⟨n3, n1, n2, n4, n5, n6⟩⟩ (by omega) ⟨rfl, rfl, trivial⟩ (List.nil_sublist _)
        · rw [hbk (fun hh => n6 hh.2.2.2.2.2)]
          have hD : decide (x.prev ≠ hp) = true := by simp [n6]
          repeat (first
            | (apply ps; exact rfl; exact rfl; exact rfl; exact rfl)
            | (apply plb (j := 0); exact rfl; exact rfl; exact rfl; exact rfl; exact rfl; exact rfl; exact rfl)
            | (apply plb (j := 0); exact rfl; exact rfl; exact rfl; exact rfl; exact hc34; exact rfl; exact rfl)
            | (apply wp_still; exact rfl; exact rfl; exact rfl; exact (od_indexAddr 0 rfl rfl rfl rfl rfl (by omega)))
            | (apply plo; exact rfl; exact rfl; exact rfl; exact hy0; exact List.not_mem_nil; exact rfl; exact rfl)
            | (apply wp_still; exact rfl; exact rfl; exact rfl; exact (od_loadAP 0 rfl rfl rfl rfl hpl hprevs))
            | (apply wp_still; exact rfl; exact rfl; exact rfl; exact (od_sliceTo k rfl rfl rfl ⟨_, _, rfl, rfl⟩ (by omega)))
            | (apply pq Tryd.call49; exact rfl; exact rfl; exact rfl; exact rfl; exact (fun w' hw => hH w' hw.ext_all))
            | (apply wp_still; exact rfl; exact rfl; exact rfl; exact (od_eqD (xs := x.prev) (ys := hp) (Or.inr ⟨rfl, hD⟩) rfl rfl hxp hp32))
            | (apply pfa; exact rfl; exact rfl; exact rfl; exact rfl; exact rfl)
            | (apply pi64; exact rfl; exact rfl; omega; omega; exact rfl; exact rfl)
            | (apply pct; exact rfl; exact rfl; omega; exact rfl; exact rfl)
            | (apply pcf; exact rfl; exact rfl; omega; exact rfl; exact rfl)
            | (apply wp_not; exact rfl; exact rfl; exact rfl)
            | (apply plb (j := 0); exact rfl; exact rfl; exact rfl; exact rfl; exact rfl; exact rfl; exact rfl)
            | (apply plb (j := 1); exact rfl; exact rfl; exact rfl; exact rfl; exact rfl; exact rfl; exact rfl)
            | (apply plb (j := 2); exact rfl; exact rfl; exact rfl; exact rfl; exact rfl; exact rfl; exact rfl)
            | (apply pln; exact rfl; exact rfl; exact rfl; exact rfl; exact rfl)
            | (apply ppu; exact rfl; exact rfl; exact rfl; exact rfl)
            | (apply pfs; exact rfl; exact rfl; exact rfl; exact rfl)
            | apply wp_nil)
          repeat (first
            | (apply ws; exact rfl; exact rfl; exact rfl)
            | refine wc_seq ?_
            | refine wc_region ?_
            | refine wl_nil ?_
            | refine we_round ?_
            | refine we_then_wc ?_
            | (apply wi64; exact rfl; omega; omega; exact rfl; exact rfl)
            | (apply wfa; exact rfl; exact rfl; exact rfl; exact rfl)
            | (apply wct; exact rfl; omega; exact rfl; exact rfl)
            | (apply wcf; exact rfl; omega; exact rfl; exact rfl)
            | (apply wn; exact rfl; exact rfl)
            | (apply wlb (j := 0); exact rfl; exact rfl; exact rfl; exact rfl; exact rfl; exact rfl)
            | (apply wlb (j := 1); exact rfl; exact rfl; exact rfl; exact rfl; exact rfl; exact rfl)
            | (apply wlb (j := 2); exact rfl; exact rfl; exact rfl; exact rfl; exact rfl; exact rfl)
            | (apply wlb (j := 3); exact rfl; exact rfl; exact rfl; exact rfl; exact rfl; exact rfl)
            | (apply wln; exact rfl; exact rfl; exact rfl; exact rfl)
            | (apply wpu; exact rfl; exact rfl; exact rfl)
            | (apply wbx; exact rfl; exact rfl; exact rfl; intro _)
            | refine wc_block ?_
            | (apply wc_true; exact rfl)
            | (apply wc_false; exact rfl)
            | refine wc_skip ?_
            | refine wc_exit ?_
            | refine wc_ret ?_
            | refine we_then_exit ?_
            | refine we_then_ret ?_
            | refine we_in_normal ?_
            | refine we_in_ret ?_
            | refine we_in_here ?_
            | (apply we_in_there; exact rfl))
          exact we_ret1 (Or.inl rfl) rfl rfl fun w' h => ⟨rfl, h.ext_all⟩
      · rw [hbk (fun hh => n5 hh.2.2.2.2.1)]
        repeat (first
          | (apply ps; exact rfl; exact rfl; exact rfl; exact rfl)
          | (apply plb (j := 0); exact rfl; exact rfl; exact rfl; exact rfl; exact rfl; exact rfl; exact rfl)
          | (apply plb (j := 0); exact rfl; exact rfl; exact rfl; exact rfl; exact hc34; exact rfl; exact rfl)
          | (apply wp_still; exact rfl; exact rfl; exact rfl; exact (od_indexAddr 0 rfl rfl rfl rfl rfl (by omega)))
          | (apply plo; exact rfl; exact rfl; exact rfl; exact hy0; exact List.not_mem_nil; exact rfl; exact rfl)
          | (apply wp_still; exact rfl; exact rfl; exact rfl; exact (od_loadAP 0 rfl rfl rfl rfl hpl hprevs))
          | (apply wp_still; exact rfl; exact rfl; exact rfl; exact (od_sliceTo k rfl rfl rfl ⟨_, _, rfl, rfl⟩ (by omega)))
          | (apply pq Tryd.call49; exact rfl; exact rfl; exact rfl; exact rfl; exact (fun w' hw => hH w' hw.ext_all))
          | (apply pfa; exact rfl; exact rfl; exact rfl; exact rfl; exact rfl)
          | (apply pi64; exact rfl; exact rfl; omega; omega; exact rfl; exact rfl)
          | (apply pct; exact rfl; exact rfl; omega; exact rfl; exact rfl)
          | (apply pcf; exact rfl; exact rfl; omega; exact rfl; exact rfl)
          | (apply wp_not; exact rfl; exact rfl; exact rfl)
          | (apply plb (j := 0); exact rfl; exact rfl; exact rfl; exact rfl; exact rfl; exact rfl; exact rfl)
          | (apply plb (j := 1); exact rfl; exact rfl; exact rfl; exact rfl; exact rfl; exact rfl; exact rfl)
          | (apply plb (j := 2); exact rfl; exact rfl; exact rfl; exact rfl; exact rfl; exact rfl; exact rfl)
          | (apply pln; exact rfl; exact rfl; exact rfl; exact rfl; exact rfl)
          | (apply ppu; exact rfl; exact rfl; exact rfl; exact rfl)
          | (apply pfs; exact rfl; exact rfl; exact rfl; exact rfl)
          | apply wp_nil)
        repeat (first
          | (apply ws; exact rfl; exact rfl; exact rfl)
          | refine wc_seq ?_
          | refine wc_region ?_
          | refine wl_nil ?_
          | refine we_round ?_
          | refine we_then_wc ?_
          | (apply wi64; exact rfl; omega; omega; exact rfl; exact rfl)
          | (apply wfa; exact rfl; exact rfl; exact rfl; exact rfl)
          | (apply wct; exact rfl; omega; exact rfl; exact rfl)
          | (apply wcf; exact rfl; omega; exact rfl; exact rfl)
          | (apply wn; exact rfl; exact rfl)
          | (apply wlb (j := 0); exact rfl; exact rfl; exact rfl; exact rfl; exact rfl; exact rfl)
          | (apply wlb (j := 1); exact rfl; exact rfl; exact rfl; exact rfl; exact rfl; exact rfl)
          | (apply wlb (j := 2); exact rfl; exact rfl; exact rfl; exact rfl; exact rfl; exact rfl)
          | (apply wlb (j := 3); exact rfl; exact rfl; exact rfl; exact rfl; exact rfl; exact rfl)
          | (apply wln; exact rfl; exact rfl; exact rfl; exact rfl)
          | (apply wpu; exact rfl; exact rfl; exact rfl)
          | (apply wbx; exact rfl; exact rfl; exact rfl; intro _)
          | refine wc_block ?_
          | (apply wc_true; exact rfl)
          | (apply wc_false; exact rfl)
          | refine wc_skip ?_
          | refine wc_exit ?_
          | refine wc_ret ?_
          | refine we_then_exit ?_
          | refine we_then_ret ?_
          | refine we_in_normal ?_
          | refine we_in_ret ?_
          | refine we_in_here ?_
          | (apply we_in_there; exact rfl))
        exact we_ret1 (Or.inl rfl) rfl rfl fun w' h => ⟨rfl, h.ext_all⟩
    · rw [hbk (fun hh => n4 hh.2.2.2.1)]
      repeat (first
        | (apply ps; exact rfl; exact rfl; exact rfl; exact rfl)
        | (apply plb (j := 0); exact rfl; exact rfl; exact rfl; exact rfl; exact rfl; exact rfl; exact rfl)
        | (apply plb (j := 0); exact rfl; exact rfl; exact rfl; exact rfl; exact hc34; exact rfl; exact rfl)
        | (apply wp_still; exact rfl; exact rfl; exact rfl; exact (od_indexAddr 0 rfl rfl rfl rfl rfl (by omega)))
        | (apply plo; exact rfl; exact rfl; exact rfl; exact hy0; exact List.not_mem_nil; exact rfl; exact rfl)
        | (apply wp_still; exact rfl; exact rfl; exact rfl; exact (od_loadAP 0 rfl rfl rfl rfl hpl hprevs))
        | (apply wp_still; exact rfl; exact rfl; exact rfl; exact (od_sliceTo k rfl rfl rfl ⟨_, _, rfl, rfl⟩ (by omega)))
        | (apply pq Tryd.call49; exact rfl; exact rfl; exact rfl; exact rfl; exact (fun w' hw => hH w' hw.ext_all))
        | (apply pfa; exact rfl; exact rfl; exact rfl; exact rfl; exact rfl)
        | (apply pi64; exact rfl; exact rfl; omega; omega; exact rfl; exact rfl)
        | (apply pct; exact rfl; exact rfl; omega; exact rfl; exact rfl)
        | (apply pcf; exact rfl; exact rfl; omega; exact rfl; exact rfl)
        | (apply wp_not; exact rfl; exact rfl; exact rfl)
        | (apply plb (j := 0); exact rfl; exact rfl; exact rfl; exact rfl; exact rfl; exact rfl; exact rfl)
        | (apply plb (j := 1); exact rfl; exact rfl; exact rfl; exact rfl; exact rfl; exact rfl; exact rfl)
        | (apply plb (j := 2); exact rfl; exact rfl; exact rfl; exact rfl; exact rfl; exact rfl; exact rfl)
        | (apply pln; exact rfl; exact rfl; exact rfl; exact rfl; exact rfl)
        | (apply ppu; exact rfl; exact rfl; exact rfl; exact rfl)
        | (apply pfs; exact rfl; exact rfl; exact rfl; exact rfl)
        | apply wp_nil)
      repeat (first
        | (apply ws; exact rfl; exact rfl; exact rfl)
        | refine wc_seq ?_
        | refine wc_region ?_
        | refine wl_nil ?_
        | refine we_round ?_
        | refine we_then_wc ?_
        | (apply wi64; exact rfl; omega; omega; exact rfl; exact rfl)
        | (apply wfa; exact rfl; exact rfl; exact rfl; exact rfl)
        | (apply wct; exact rfl; omega; exact rfl; exact rfl)
        | (apply wcf; exact rfl; omega; exact rfl; exact rfl)
        | (apply wn; exact rfl; exact rfl)
        | (apply wlb (j := 0); exact rfl; exact rfl; exact rfl; exact rfl; exact rfl; exact rfl)
        | (apply wlb (j := 1); exact rfl; exact rfl; exact rfl; exact rfl; exact rfl; exact rfl)
        | (apply wlb (j := 2); exact rfl; exact rfl; exact rfl; exact rfl; exact rfl; exact rfl)
        | (apply wlb (j := 3); exact rfl; exact rfl; exact rfl; exact rfl; exact rfl; exact rfl)
        | (apply wln; exact rfl; exact rfl; exact rfl; exact rfl)
        | (apply wpu; exact rfl; exact rfl; exact rfl)
        | (apply wbx; exact rfl; exact rfl; exact rfl; intro _)
        | refine wc_block ?_
        | (apply wc_true; exact rfl)
        | (apply wc_false; exact rfl)
        | refine wc_skip ?_
        | refine wc_exit ?_
        | refine wc_ret ?_
        | refine we_then_exit ?_
        | refine we_then_ret ?_
        | refine we_in_normal ?_
        | refine we_in_ret ?_
        | refine we_in_here ?_
        | (apply we_in_there; exact rfl))
      exact we_ret1 (Or.inl rfl) rfl rfl fun w' h => ⟨rfl, h.ext_all⟩
  · rw [hbk (fun hh => n3 hh.1)]
    repeat (first
      | (apply ps; exact rfl; exact rfl; exact rfl; exact rfl)
      | (apply plb (j := 0); exact rfl; exact rfl; exact rfl; exact rfl; exact rfl; exact rfl; exact rfl)
      | (apply plb (j := 0); exact rfl; exact rfl; exact rfl; exact rfl; exact hc34; exact rfl; exact rfl)
      | (apply wp_still; exact rfl; exact rfl; exact rfl; exact (od_indexAddr 0 rfl rfl rfl rfl rfl (by omega)))
      | (apply plo; exact rfl; exact rfl; exact rfl; exact hy0; exact List.not_mem_nil; exact rfl; exact rfl)
      | (apply wp_still; exact rfl; exact rfl; exact rfl; exact (od_loadAP 0 rfl rfl rfl rfl hpl hprevs))
      | (apply wp_still; exact rfl; exact rfl; exact rfl; exact (od_sliceTo k rfl rfl rfl ⟨_, _, rfl, rfl⟩ (by omega)))
      | (apply pq Tryd.call49; exact rfl; exact rfl; exact rfl; exact rfl; exact (fun w' hw => hH w' hw.ext_all))
      | (apply pfa; exact rfl; exact rfl; exact rfl; exact rfl; exact rfl)
      | (apply pi64; exact rfl; exact rfl; omega; omega; exact rfl; exact rfl)
      | (apply pct; exact rfl; exact rfl; omega; exact rfl; exact rfl)
      | (apply pcf; exact rfl; exact rfl; omega; exact rfl; exact rfl)
      | (apply wp_not; exact rfl; exact rfl; exact rfl)
      | (apply plb (j := 0); exact rfl; exact rfl; exact rfl; exact rfl; exact rfl; exact rfl; exact rfl)
      | (apply plb (j := 1); exact rfl; exact rfl; exact rfl; exact rfl; exact rfl; exact rfl; exact rfl)
      | (apply plb (j := 2); exact rfl; exact rfl; exact rfl; exact rfl; exact rfl; exact rfl; exact rfl)
      | (apply pln; exact rfl; exact rfl; exact rfl; exact rfl; exact rfl)
      | (apply ppu; exact rfl; exact rfl; exact rfl; exact rfl)
      | (apply pfs; exact rfl; exact rfl; exact rfl; exact rfl)
      | apply wp_nil)
    repeat (first
      | (apply ws; exact rfl; exact rfl; exact rfl)
      | refine wc_seq ?_
      | refine wc_region ?_
      | refine wl_nil ?_
      | refine we_round ?_
      | refine we_then_wc ?_
      | (apply wi64; exact rfl; omega; omega; exact rfl; exact rfl)
      | (apply wfa; exact rfl; exact rfl; exact rfl; exact rfl)
      | (apply wct; exact rfl; omega; exact rfl; exact rfl)
      | (apply wcf; exact rfl; omega; exact rfl; exact rfl)
      | (apply wn; exact rfl; exact rfl)
      | (apply wlb (j := 0); exact rfl; exact rfl; exact rfl; exact rfl; exact rfl; exact rfl)
      | (apply wlb (j := 1); exact rfl; exact rfl; exact rfl; exact rfl; exact rfl; exact rfl)
      | (apply wlb (j := 2); exact rfl; exact rfl; exact rfl; exact rfl; exact rfl; exact rfl)
      | (apply wlb (j := 3); exact rfl; exact rfl; exact rfl; exact rfl; exact rfl; exact rfl)
      | (apply wln; exact rfl; exact rfl; exact rfl; exact rfl)
      | (apply wpu; exact rfl; exact rfl; exact rfl)
      | (apply wbx; exact rfl; exact rfl; exact rfl; intro _)
      | refine wc_block ?_
      | (apply wc_true; exact rfl)
      | (apply wc_false; exact rfl)
      | refine wc_skip ?_
      | refine wc_exit ?_
      | refine wc_ret ?_
      | refine we_then_exit ?_
      | refine we_then_ret ?_
      | refine we_in_normal ?_
      | refine we_in_ret ?_
      | refine we_in_here ?_
      | (apply we_in_there; exact rfl))
    exact we_ret1 (Or.inl rfl) rfl rfl fun w' h => ⟨rfl, h.ext_all⟩
end Go.Proofs.YtielloijdkoeiaaDoor
