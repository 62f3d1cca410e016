/- The statement of chapter 8: a link that is replaced is noticed, or two different texts have one digest. -/
import Derived.Test.YtielloijdkoeiaaDoorMb
namespace Go.Proofs.YtielloijdkoeiaaDoor
open Go Go.RowKit Go.Lib
set_option maxRecDepth 100000

/-! ### The plain law -/
theorem changed_clash {xs : List Lnk} {k : Nat} {y x : Lnk} (hc : chkP xs = 0) (hk : xs[k]? = some y) (hne : sameL y x = false) (hc' : chkP (xs.set k x) = 0) (hlast : k + 1 < xs.length) : clashB (xs.take (k + 1)) ((xs.set k x).take (k + 1)) = true := by
  have hkl : k < xs.length := (List.getElem?_eq_some_iff.1 hk).1
  have hk' : (xs.set k x)[k]? = some x := by rw [List.getElem?_set_self hkl]
  have hz : xs[k + 1]? = some xs[k + 1] := List.getElem?_eq_getElem hlast
  generalize xs[k + 1] = z at hz
  have hz' : (xs.set k x)[k + 1]? = some z := by rw [List.getElem?_set_ne (by omega)]; exact hz
  have e1 := chk_prev hc hz
  have e2 := chk_prev hc' hz'
  have hh : headP (xs.take (k + 1)) = headP ((xs.set k x).take (k + 1)) := by rw [← e1, ← e2]
  rw [take_snoc hk, take_snoc hk'] at hh ⊢
  have ht : textB y ≠ textB x := fun e => by
    obtain ⟨t1, t2, t3, t4⟩ := text_inj e
    have := sameL_iff.2 ⟨t1, t2, t3, t4⟩
    rw [hne] at this
    cases this
  unfold clashB
  simp only [List.getLast?_append, List.getLast?_singleton, Option.some_or]
  rw [decide_eq_true ht, decide_eq_true hh]
  rfl

theorem flat_set : ∀ (xs : List Lnk) (k : Nat) (x : Lnk), (∀ y ∈ xs, y.cells.length = 35) → x.cells.length = 35 → k < xs.length → (xs.flatMap Lnk.cells).take (k * 35) ++ x.cells ++ (xs.flatMap Lnk.cells).drop (k * 35 + 35) = (xs.set k x).flatMap Lnk.cells
  | [], k, x, _, _, hk => by simp at hk
  | y :: ys, 0, x, h, hx, _ => by
    have hy := h y (by simp)
    simp [hy]
  | y :: ys, k + 1, x, h, hx, hk => by
    have hy := h y (by simp)
    have ih := flat_set ys k x (fun z hz => h z (by simp [hz])) hx (by simpa using hk)
    simp only [List.flatMap_cons, List.set_cons_succ]
    rw [← ih]
    have e1 : (y.cells ++ ys.flatMap Lnk.cells).take ((k + 1) * 35) = y.cells ++ (ys.flatMap Lnk.cells).take (k * 35) := by
      rw [List.take_append, hy, show (k + 1) * 35 - 35 = k * 35 by omega, List.take_of_length_le (by omega)]
    have e2 : (y.cells ++ ys.flatMap Lnk.cells).drop ((k + 1) * 35 + 35) = (ys.flatMap Lnk.cells).drop (k * 35 + 35) := by
      rw [List.drop_append, hy, show (k + 1) * 35 + 35 - 35 = k * 35 + 35 by omega, List.drop_of_length_le (by omega), List.nil_append]
    rw [e1, e2]
    simp

set_option maxHeartbeats 800000 in
theorem law_Changed (a : Option Addr) (c : Nat) (xs : List Lnk) (ag : UInt8) (x : Lnk) (w : World) (hL : Laid w) (h : LkA w a c xs) (hx : x.ok w) : Fn 8 [.slice a xs.length c, v8 ag, x.v] w (Quiet (.bool true) w) := by
  refine fn_of (args := [.slice a xs.length c, v8 ag, x.v]) Tryd.func8 rfl Tryd.ntmps8 rfl (Hp.start w) ?_
  by_cases f1 : fewP xs
  · have t1 : ∀ w', Ext w w' → Fn 24 [.slice a xs.length c] w' (Quiet (.bool true) w') := fun w' e => few_t f1 w' (h.ext e)
    have q1 : ∀ w', Ext w w' → Fn 31 [.slice a xs.length c] w' (Quiet (.int .i64 (chkP xs)) w') := fun w' e => chain_Check a c xs f1.small.1 f1.small.2 w' (hL.ext e) (h.ext e)
    have hx16 := f1.1
    have hxc := h.1
    by_cases hm0 : xs.length = 0
    · rw [hm0] at t1 q1 ⊢
      repeat (first
        | (apply ws; exact rfl; exact rfl; exact rfl)
        | (apply wq Tryd.call23; exact rfl; exact rfl; exact rfl; exact (fun w' h => sane08 w' (hL.ext h.ext_all)))
        | (apply wq Tryd.call24; exact rfl; exact rfl; exact rfl; exact (fun w' hw => t1 w' hw.ext_all))
        | (apply wq Tryd.call31; exact rfl; exact rfl; exact rfl; exact (fun w' hw => q1 w' hw.ext_all))
        | (apply wlb (j := 0); exact rfl; exact rfl; exact rfl; exact hx.c34; exact rfl; exact rfl)
        | refine wc_seq ?_
        | refine wc_region ?_
        | refine wl_nil ?_
        | refine we_round ?_
        | refine we_then_wc ?_
        | (apply wi64; exact rfl; omega; omega; exact rfl; exact rfl)
        | (apply wfa; exact rfl; exact rfl; exact rfl; exact rfl)
        | (apply wct; exact rfl; omega; exact rfl; exact rfl)
        | (apply wcf; exact rfl; omega; exact rfl; exact rfl)
        | (apply wn; exact rfl; exact rfl)
        | (apply wlb (j := 0); exact rfl; exact rfl; exact rfl; exact rfl; exact rfl; exact rfl)
        | (apply wlb (j := 1); exact rfl; exact rfl; exact rfl; exact rfl; exact rfl; exact rfl)
        | (apply wlb (j := 2); exact rfl; exact rfl; exact rfl; exact rfl; exact rfl; exact rfl)
        | (apply wlb (j := 3); exact rfl; exact rfl; exact rfl; exact rfl; exact rfl; exact rfl)
        | (apply wln; exact rfl; exact rfl; exact rfl; exact rfl)
        | (apply wpu; exact rfl; exact rfl; exact rfl)
        | (apply wbx; exact rfl; exact rfl; exact rfl; intro _)
        | refine wc_block ?_
        | (apply wc_true; exact rfl)
        | (apply wc_false; exact rfl)
        | refine wc_skip ?_
        | refine wc_exit ?_
        | refine wc_ret ?_
        | refine we_then_exit ?_
        | refine we_then_ret ?_
        | refine we_in_normal ?_
        | refine we_in_ret ?_
        | refine we_in_here ?_
        | (apply we_in_there; exact rfl))
      exact we_ret1 (Or.inl rfl) rfl rfl fun w' h => ⟨rfl, h.ext_all⟩
    · by_cases hd : 300 < x.data.length
      · obtain ⟨m, hm⟩ : ∃ m : Nat, xs.length = m := ⟨_, rfl⟩
        rw [hm] at t1 q1 hm0 ⊢
        repeat (first
          | (apply ws; exact rfl; exact rfl; exact rfl)
          | (apply wq Tryd.call23; exact rfl; exact rfl; exact rfl; exact (fun w' h => sane08 w' (hL.ext h.ext_all)))
          | (apply wq Tryd.call24; exact rfl; exact rfl; exact rfl; exact (fun w' hw => t1 w' hw.ext_all))
          | (apply wq Tryd.call31; exact rfl; exact rfl; exact rfl; exact (fun w' hw => q1 w' hw.ext_all))
          | (apply wlb (j := 0); exact rfl; exact rfl; exact rfl; exact hx.c34; exact rfl; exact rfl)
          | refine wc_seq ?_
          | refine wc_region ?_
          | refine wl_nil ?_
          | refine we_round ?_
          | refine we_then_wc ?_
          | (apply wi64; exact rfl; omega; omega; exact rfl; exact rfl)
          | (apply wfa; exact rfl; exact rfl; exact rfl; exact rfl)
          | (apply wct; exact rfl; omega; exact rfl; exact rfl)
          | (apply wcf; exact rfl; omega; exact rfl; exact rfl)
          | (apply wn; exact rfl; exact rfl)
          | (apply wlb (j := 0); exact rfl; exact rfl; exact rfl; exact rfl; exact rfl; exact rfl)
          | (apply wlb (j := 1); exact rfl; exact rfl; exact rfl; exact rfl; exact rfl; exact rfl)
          | (apply wlb (j := 2); exact rfl; exact rfl; exact rfl; exact rfl; exact rfl; exact rfl)
          | (apply wlb (j := 3); exact rfl; exact rfl; exact rfl; exact rfl; exact rfl; exact rfl)
          | (apply wln; exact rfl; exact rfl; exact rfl; exact rfl)
          | (apply wpu; exact rfl; exact rfl; exact rfl)
          | (apply wbx; exact rfl; exact rfl; exact rfl; intro _)
          | refine wc_block ?_
          | (apply wc_true; exact rfl)
          | (apply wc_false; exact rfl)
          | refine wc_skip ?_
          | refine wc_exit ?_
          | refine wc_ret ?_
          | refine we_then_exit ?_
          | refine we_then_ret ?_
          | refine we_in_normal ?_
          | refine we_in_ret ?_
          | refine we_in_here ?_
          | (apply we_in_there; exact rfl))
        exact we_ret1 (Or.inl rfl) rfl rfl fun w' h => ⟨rfl, h.ext_all⟩
      · by_cases c1 : chkP xs = 0
        · rw [c1] at q1
          obtain ⟨m, hm⟩ : ∃ m : Nat, xs.length = m := ⟨_, rfl⟩
          obtain ⟨k, hk⟩ : ∃ k : Nat, k = ag.toNat % m := ⟨_, rfl⟩
          have hkm : k < m := by rw [hk]; exact Nat.mod_lt _ (by omega)
          have hrem : (ag.toNat : Int).tmod (m : Int) = (k : Int) := by rw [Int.tmod_eq_emod_of_nonneg (by omega), hk]; omega
          have hcv : IntKind.i64.wrap (ag.toNat : Int) = (ag.toNat : Int) := wrap_i64 (by have := ag.toNat_lt; omega) (by have := ag.toNat_lt; omega)
          obtain ⟨y, b, o, hy, ea, oky, hcy⟩ := h.get k (by omega)
          subst ea
          have hsz : x.cells.toArray.size = 35 := by simp [hx.len]
          have hlk : ∀ w', Ext w w' → Fn 33 [y.v, x.v] w' (Quiet (.bool (sameL y x)) w') := fun w' e => ref_SameLink y x w' (oky.ext e) (hx.ext e)
          have hcells : ∀ z ∈ xs, z.cells.length = 35 := fun z hz => (h.ok hz).len
          have hfl := flat_len xs hcells
          have hfs := flat_set xs k x hcells hx.len (by omega)
          have hoks : ∀ w', Ext w w' → ∀ z ∈ xs.set k x, z.ok w' := fun w' e z hz => by
            rcases List.mem_or_eq_of_mem_set hz with hz | rfl
            · exact (h.ok hz).ext e
            · exact hx.ext e
          have hsm : smallP (xs.set k x) := ⟨by simp; omega, fun z hz => by
            rcases List.mem_or_eq_of_mem_set hz with hz | rfl
            · exact f1.small.2 z hz
            · omega⟩
          have hcl := changed_clash (x := x) c1 hy
          have hset : (xs.set k x).length = m := by simp [hm]
          rw [hm] at t1 q1 hm0 hx16 hxc hfl hcl ⊢
          have hm00 : (m : Int) ≠ 0 := by omega
          repeat (first
            | (apply ws; exact rfl; exact rfl; exact rfl)
            | (apply wq Tryd.call23; exact rfl; exact rfl; exact rfl; exact (fun w' h => sane08 w' (hL.ext h.ext_all)))
            | (apply wq Tryd.call24; exact rfl; exact rfl; exact rfl; exact (fun w' hw => t1 w' hw.ext_all))
            | (apply wq Tryd.call31; exact rfl; exact rfl; exact rfl; exact (fun w' hw => q1 w' hw.ext_all))
            | (apply wlb (j := 0); exact rfl; exact rfl; exact rfl; exact hx.c34; exact rfl; exact rfl)
            | refine wl_still rfl rfl rfl (od_conv rfl rfl rfl) ?_
            | refine wc_seq ?_
            | refine wc_region ?_
            | refine wl_nil ?_
            | refine we_round ?_
            | refine we_then_wc ?_
            | (apply wi64; exact rfl; omega; omega; exact rfl; exact rfl)
            | (apply wfa; exact rfl; exact rfl; exact rfl; exact rfl)
            | (apply wct; exact rfl; omega; exact rfl; exact rfl)
            | (apply wcf; exact rfl; omega; exact rfl; exact rfl)
            | (apply wn; exact rfl; exact rfl)
            | (apply wlb (j := 0); exact rfl; exact rfl; exact rfl; exact rfl; exact rfl; exact rfl)
            | (apply wlb (j := 1); exact rfl; exact rfl; exact rfl; exact rfl; exact rfl; exact rfl)
            | (apply wlb (j := 2); exact rfl; exact rfl; exact rfl; exact rfl; exact rfl; exact rfl)
            | (apply wlb (j := 3); exact rfl; exact rfl; exact rfl; exact rfl; exact rfl; exact rfl)
            | (apply wln; exact rfl; exact rfl; exact rfl; exact rfl)
            | (apply wpu; exact rfl; exact rfl; exact rfl)
            | (apply wbx; exact rfl; exact rfl; exact rfl; intro _)
            | refine wc_block ?_
            | (apply wc_true; exact rfl)
            | (apply wc_false; exact rfl)
            | refine wc_skip ?_
            | refine wc_exit ?_
            | refine wc_ret ?_
            | refine we_then_exit ?_
            | refine we_then_ret ?_
            | refine we_in_normal ?_
            | refine we_in_ret ?_
            | refine we_in_here ?_
            | (apply we_in_there; exact rfl))
          rw [hcv]
          repeat (first
            | (apply ws; exact rfl; exact rfl; exact rfl)
            | refine wl_still rfl rfl rfl (od_rem rfl rfl hm00 hrem) ?_
            | refine wc_seq ?_
            | refine wc_region ?_
            | refine wl_nil ?_
            | refine we_round ?_
            | refine we_then_wc ?_
            | (apply wi64; exact rfl; omega; omega; exact rfl; exact rfl)
            | (apply wfa; exact rfl; exact rfl; exact rfl; exact rfl)
            | (apply wct; exact rfl; omega; exact rfl; exact rfl)
            | (apply wcf; exact rfl; omega; exact rfl; exact rfl)
            | (apply wn; exact rfl; exact rfl)
            | (apply wlb (j := 0); exact rfl; exact rfl; exact rfl; exact rfl; exact rfl; exact rfl)
            | (apply wlb (j := 1); exact rfl; exact rfl; exact rfl; exact rfl; exact rfl; exact rfl)
            | (apply wlb (j := 2); exact rfl; exact rfl; exact rfl; exact rfl; exact rfl; exact rfl)
            | (apply wlb (j := 3); exact rfl; exact rfl; exact rfl; exact rfl; exact rfl; exact rfl)
            | (apply wln; exact rfl; exact rfl; exact rfl; exact rfl)
            | (apply wpu; exact rfl; exact rfl; exact rfl)
            | (apply wbx; exact rfl; exact rfl; exact rfl; intro _)
            | refine wc_block ?_
            | (apply wc_true; exact rfl)
            | (apply wc_false; exact rfl)
            | refine wc_skip ?_
            | refine wc_exit ?_
            | refine wc_ret ?_
            | refine we_then_exit ?_
            | refine we_then_ret ?_
            | refine we_in_normal ?_
            | refine we_in_ret ?_
            | refine we_in_here ?_
            | (apply we_in_there; exact rfl))
          refine wc_plan _ none [(0, true), (1, true), (2, true), (3, true), (4, true), (5, true)] (by kernel_rfl) (List.Sublist.refl _) ?_
          repeat (first
            | (apply ps; exact rfl; exact rfl; exact rfl; exact rfl)
            | (apply wp_still; exact rfl; exact rfl; exact rfl; exact (od_indexAddr k rfl rfl rfl rfl rfl (by omega)))
            | (apply wp_still; exact rfl; exact rfl; exact rfl; exact (od_loadLk rfl oky hcy (by simp)))
            | (apply wp_still; exact rfl; exact rfl; exact rfl; exact (od_loadAB 0 rfl rfl rfl rfl hx.len))
            | (apply pq Tryd.call33; exact rfl; exact rfl; exact rfl; exact rfl; exact (fun w' hw => hlk w' hw.ext_all))
            | (apply pfa; exact rfl; exact rfl; exact rfl; exact rfl; exact rfl)
            | (apply pi64; exact rfl; exact rfl; omega; omega; exact rfl; exact rfl)
            | (apply pct; exact rfl; exact rfl; omega; exact rfl; exact rfl)
            | (apply pcf; exact rfl; exact rfl; omega; exact rfl; exact rfl)
            | (apply wp_not; exact rfl; exact rfl; exact rfl)
            | (apply plb (j := 0); exact rfl; exact rfl; exact rfl; exact rfl; exact rfl; exact rfl; exact rfl)
            | (apply plb (j := 1); exact rfl; exact rfl; exact rfl; exact rfl; exact rfl; exact rfl; exact rfl)
            | (apply plb (j := 2); exact rfl; exact rfl; exact rfl; exact rfl; exact rfl; exact rfl; exact rfl)
            | (apply pln; exact rfl; exact rfl; exact rfl; exact rfl; exact rfl)
            | (apply ppu; exact rfl; exact rfl; exact rfl; exact rfl)
            | (apply pfs; exact rfl; exact rfl; exact rfl; exact rfl)
            | apply wp_nil)
          cases hsl : sameL y x with
          | true =>
            repeat (first
              | (apply ws; exact rfl; exact rfl; exact rfl)
              | refine wc_seq ?_
              | refine wc_region ?_
              | refine wl_nil ?_
              | refine we_round ?_
              | refine we_then_wc ?_
              | (apply wi64; exact rfl; omega; omega; exact rfl; exact rfl)
              | (apply wfa; exact rfl; exact rfl; exact rfl; exact rfl)
              | (apply wct; exact rfl; omega; exact rfl; exact rfl)
              | (apply wcf; exact rfl; omega; exact rfl; exact rfl)
              | (apply wn; exact rfl; exact rfl)
              | (apply wlb (j := 0); exact rfl; exact rfl; exact rfl; exact rfl; exact rfl; exact rfl)
              | (apply wlb (j := 1); exact rfl; exact rfl; exact rfl; exact rfl; exact rfl; exact rfl)
              | (apply wlb (j := 2); exact rfl; exact rfl; exact rfl; exact rfl; exact rfl; exact rfl)
              | (apply wlb (j := 3); exact rfl; exact rfl; exact rfl; exact rfl; exact rfl; exact rfl)
              | (apply wln; exact rfl; exact rfl; exact rfl; exact rfl)
              | (apply wpu; exact rfl; exact rfl; exact rfl)
              | (apply wbx; exact rfl; exact rfl; exact rfl; intro _)
              | refine wc_block ?_
              | (apply wc_true; exact rfl)
              | (apply wc_false; exact rfl)
              | refine wc_skip ?_
              | refine wc_exit ?_
              | refine wc_ret ?_
              | refine we_then_exit ?_
              | refine we_then_ret ?_
              | refine we_in_normal ?_
              | refine we_in_ret ?_
              | refine we_in_here ?_
              | (apply we_in_there; exact rfl))
            exact we_ret1 (Or.inl rfl) rfl rfl fun w' h => ⟨rfl, h.ext_all⟩
          | false =>
            repeat (first
              | (apply ws; exact rfl; exact rfl; exact rfl)
              | refine wc_seq ?_
              | refine wc_region ?_
              | refine wl_nil ?_
              | refine we_round ?_
              | refine we_then_wc ?_
              | (apply wi64; exact rfl; omega; omega; exact rfl; exact rfl)
              | (apply wfa; exact rfl; exact rfl; exact rfl; exact rfl)
              | (apply wct; exact rfl; omega; exact rfl; exact rfl)
              | (apply wcf; exact rfl; omega; exact rfl; exact rfl)
              | (apply wn; exact rfl; exact rfl)
              | (apply wlb (j := 0); exact rfl; exact rfl; exact rfl; exact rfl; exact rfl; exact rfl)
              | (apply wlb (j := 1); exact rfl; exact rfl; exact rfl; exact rfl; exact rfl; exact rfl)
              | (apply wlb (j := 2); exact rfl; exact rfl; exact rfl; exact rfl; exact rfl; exact rfl)
              | (apply wlb (j := 3); exact rfl; exact rfl; exact rfl; exact rfl; exact rfl; exact rfl)
              | (apply wln; exact rfl; exact rfl; exact rfl; exact rfl)
              | (apply wpu; exact rfl; exact rfl; exact rfl)
              | (apply wbx; exact rfl; exact rfl; exact rfl; intro _)
              | refine wc_block ?_
              | (apply wc_true; exact rfl)
              | (apply wc_false; exact rfl)
              | refine wc_skip ?_
              | refine wc_exit ?_
              | refine wc_ret ?_
              | refine we_then_exit ?_
              | refine we_then_ret ?_
              | refine we_in_normal ?_
              | refine we_in_ret ?_
              | refine we_in_here ?_
              | (apply we_in_there; exact rfl))
            rename_i bx
            refine wl_makes rfl rfl rfl (od_buildSlice (cs := []) rfl rfl ⟨_, zero55⟩ rfl rfl rfl (by simp) (by omega) rfl) ?_
            rintro _ b0 -
            repeat (first
              | (apply ws; exact rfl; exact rfl; exact rfl)
              | refine wc_seq ?_
              | refine wc_region ?_
              | refine wl_nil ?_
              | refine we_round ?_
              | refine we_then_wc ?_
              | (apply wi64; exact rfl; omega; omega; exact rfl; exact rfl)
              | (apply wfa; exact rfl; exact rfl; exact rfl; exact rfl)
              | (apply wct; exact rfl; omega; exact rfl; exact rfl)
              | (apply wcf; exact rfl; omega; exact rfl; exact rfl)
              | (apply wn; exact rfl; exact rfl)
              | (apply wlb (j := 0); exact rfl; exact rfl; exact rfl; exact rfl; exact rfl; exact rfl)
              | (apply wlb (j := 1); exact rfl; exact rfl; exact rfl; exact rfl; exact rfl; exact rfl)
              | (apply wlb (j := 2); exact rfl; exact rfl; exact rfl; exact rfl; exact rfl; exact rfl)
              | (apply wlb (j := 3); exact rfl; exact rfl; exact rfl; exact rfl; exact rfl; exact rfl)
              | (apply wln; exact rfl; exact rfl; exact rfl; exact rfl)
              | (apply wpu; exact rfl; exact rfl; exact rfl)
              | (apply wbx; exact rfl; exact rfl; exact rfl; intro _)
              | refine wc_block ?_
              | (apply wc_true; exact rfl)
              | (apply wc_false; exact rfl)
              | refine wc_skip ?_
              | refine wc_exit ?_
              | refine wc_ret ?_
              | refine we_then_exit ?_
              | refine we_then_ret ?_
              | refine we_in_normal ?_
              | refine we_in_ret ?_
              | refine we_in_here ?_
              | (apply we_in_there; exact rfl))
            refine wl_moves 0 rfl rfl rfl rfl (od_append (n := 0) (cap := 0) (m := m) (xs := []) (news := xs.flatMap Lnk.cells) (sp := []) 0 rfl rfl rfl elem55 rfl rfl (by simp) rfl rfl (fun w' hw => hm ▸ ((h.ext hw.ext_all).src)) hfl (plain_flat xs) (by omega) (by simp only [maxLen]; omega)) ?_
            rintro ⟨c2, sp2⟩ b2 ⟨e1, e2⟩
            simp only at e1 e2
            dsimp only
            rw [Nat.zero_add] at e1
            rw [List.nil_append] at e2 ⊢
            rw [Nat.zero_add m]
            have hl2 : (xs.flatMap Lnk.cells ++ sp2).length = c2 * 35 := e2
            have hko : 0 + k * 35 + 35 ≤ (xs.flatMap Lnk.cells ++ sp2).length := by rw [hl2]; omega
            repeat (first
              | (apply ws; exact rfl; exact rfl; exact rfl)
              | refine wl_still rfl rfl rfl (od_loadAB 1 rfl rfl rfl rfl hx.len) ?_
              | refine wl_still rfl rfl rfl (od_indexAddr k rfl rfl rfl rfl rfl (by omega)) ?_
              | refine wc_seq ?_
              | refine wc_region ?_
              | refine wl_nil ?_
              | refine we_round ?_
              | refine we_then_wc ?_
              | (apply wi64; exact rfl; omega; omega; exact rfl; exact rfl)
              | (apply wfa; exact rfl; exact rfl; exact rfl; exact rfl)
              | (apply wct; exact rfl; omega; exact rfl; exact rfl)
              | (apply wcf; exact rfl; omega; exact rfl; exact rfl)
              | (apply wn; exact rfl; exact rfl)
              | (apply wlb (j := 0); exact rfl; exact rfl; exact rfl; exact rfl; exact rfl; exact rfl)
              | (apply wlb (j := 1); exact rfl; exact rfl; exact rfl; exact rfl; exact rfl; exact rfl)
              | (apply wlb (j := 2); exact rfl; exact rfl; exact rfl; exact rfl; exact rfl; exact rfl)
              | (apply wlb (j := 3); exact rfl; exact rfl; exact rfl; exact rfl; exact rfl; exact rfl)
              | (apply wln; exact rfl; exact rfl; exact rfl; exact rfl)
              | (apply wpu; exact rfl; exact rfl; exact rfl)
              | (apply wbx; exact rfl; exact rfl; exact rfl; intro _)
              | refine wc_block ?_
              | (apply wc_true; exact rfl)
              | (apply wc_false; exact rfl)
              | refine wc_skip ?_
              | refine wc_exit ?_
              | refine wc_ret ?_
              | refine we_then_exit ?_
              | refine we_then_ret ?_
              | refine we_in_normal ?_
              | refine we_in_ret ?_
              | refine we_in_here ?_
              | (apply we_in_there; exact rfl))
            refine wl_store 0 rfl rfl rfl (od_storeA (d := none) 0 rfl rfl rfl rfl hsz (plainLnkA x) hko) ?_
            have hcells2 : List.take (0 + k * 35) (xs.flatMap Lnk.cells ++ sp2) ++ x.v.cells.toList.toArray.toList ++ List.drop (0 + k * 35 + 35) (xs.flatMap Lnk.cells ++ sp2) = (xs.set k x).flatMap Lnk.cells ++ sp2 := by
              have hkk : k * 35 + 35 ≤ (xs.flatMap Lnk.cells).length := by rw [hfl]; omega
              have ex : x.v.cells.toList.toArray.toList = x.cells := rfl
              rw [ex, Nat.zero_add, List.take_append_of_le_length (by omega), List.drop_append_of_le_length hkk, ← hfs]
              simp
            rw [hcells2]
            have hlk2 : ∀ w', Hp w [] w' [(b2, (xs.set k x).flatMap Lnk.cells ++ sp2, 55), (bx, x.cells, 55)] → LkA w' (some ⟨b2, 0, none⟩) c2 (xs.set k x) := fun w' h' => LkA.of_blk (h'.at (j := 0) rfl).2 (hoks w' h'.ext_all) (by rw [hset]; exact e1)
            have hq2 : ∀ w', Hp w [] w' [(b2, (xs.set k x).flatMap Lnk.cells ++ sp2, 55), (bx, x.cells, 55)] → Fn 31 [.slice (some ⟨b2, 0, none⟩) m c2] w' (Quiet (.int .i64 (chkP (xs.set k x))) w') := fun w' h' => by
              have := chain_Check (some ⟨b2, 0, none⟩) c2 (xs.set k x) hsm.1 hsm.2 w' (hL.ext h'.ext_all) (hlk2 w' h')
              rwa [hset] at this
            by_cases c2' : chkP (xs.set k x) = 0
            · rw [c2'] at hq2
              by_cases hkl : k = m - 1
              · repeat (first
                  | (apply ws; exact rfl; exact rfl; exact rfl)
                  | (apply wq Tryd.call31; exact rfl; exact rfl; exact rfl; exact (fun w' h' => hq2 w' h'))
                  | refine wc_seq ?_
                  | refine wc_region ?_
                  | refine wl_nil ?_
                  | refine we_round ?_
                  | refine we_then_wc ?_
                  | (apply wi64; exact rfl; omega; omega; exact rfl; exact rfl)
                  | (apply wfa; exact rfl; exact rfl; exact rfl; exact rfl)
                  | (apply wct; exact rfl; omega; exact rfl; exact rfl)
                  | (apply wcf; exact rfl; omega; exact rfl; exact rfl)
                  | (apply wn; exact rfl; exact rfl)
                  | (apply wlb (j := 0); exact rfl; exact rfl; exact rfl; exact rfl; exact rfl; exact rfl)
                  | (apply wlb (j := 1); exact rfl; exact rfl; exact rfl; exact rfl; exact rfl; exact rfl)
                  | (apply wlb (j := 2); exact rfl; exact rfl; exact rfl; exact rfl; exact rfl; exact rfl)
                  | (apply wlb (j := 3); exact rfl; exact rfl; exact rfl; exact rfl; exact rfl; exact rfl)
                  | (apply wln; exact rfl; exact rfl; exact rfl; exact rfl)
                  | (apply wpu; exact rfl; exact rfl; exact rfl)
                  | (apply wbx; exact rfl; exact rfl; exact rfl; intro _)
                  | refine wc_block ?_
                  | (apply wc_true; exact rfl)
                  | (apply wc_false; exact rfl)
                  | refine wc_skip ?_
                  | refine wc_exit ?_
                  | refine wc_ret ?_
                  | refine we_then_exit ?_
                  | refine we_then_ret ?_
                  | refine we_in_normal ?_
                  | refine we_in_ret ?_
                  | refine we_in_here ?_
                  | (apply we_in_there; exact rfl))
                exact we_ret1 (Or.inl rfl) rfl rfl fun w' h => ⟨rfl, h.ext_all⟩
              · have hcb := hcl hsl c2' (by omega)
                have hclash : ∀ w', Hp w [] w' [(b2, (xs.set k x).flatMap Lnk.cells ++ sp2, 55), (bx, x.cells, 55)] → Fn 32 [.slice (some ⟨b, o, none⟩) (k + 1) c, .slice (some ⟨b2, 0, none⟩) (k + 1) c2] w' (Quiet (.bool true) w') := fun w' h' => by
                  have d1 : (xs.take (k + 1)).length = k + 1 := by simp; omega
                  have d2 : ((xs.set k x).take (k + 1)).length = k + 1 := by simp; omega
                  have := law_clash (some ⟨b, o, none⟩) (some ⟨b2, 0, none⟩) c c2 (xs.take (k + 1)) ((xs.set k x).take (k + 1)) (f1.small.take _) (hsm.take _) (by intro hh; rw [hh] at d1; simp at d1) (by intro hh; rw [hh] at d2; simp at d2) w' (hL.ext h'.ext_all) ((h.take _).ext h'.ext_all) ((hlk2 w' h').take _)
                  rwa [d1, d2, hcb] at this
                repeat (first
                  | (apply ws; exact rfl; exact rfl; exact rfl)
                  | (apply wq Tryd.call31; exact rfl; exact rfl; exact rfl; exact (fun w' h' => hq2 w' h'))
                  | refine wc_seq ?_
                  | refine wc_region ?_
                  | refine wl_nil ?_
                  | refine we_round ?_
                  | refine we_then_wc ?_
                  | (apply wi64; exact rfl; omega; omega; exact rfl; exact rfl)
                  | (apply wfa; exact rfl; exact rfl; exact rfl; exact rfl)
                  | (apply wct; exact rfl; omega; exact rfl; exact rfl)
                  | (apply wcf; exact rfl; omega; exact rfl; exact rfl)
                  | (apply wn; exact rfl; exact rfl)
                  | (apply wlb (j := 0); exact rfl; exact rfl; exact rfl; exact rfl; exact rfl; exact rfl)
                  | (apply wlb (j := 1); exact rfl; exact rfl; exact rfl; exact rfl; exact rfl; exact rfl)
                  | (apply wlb (j := 2); exact rfl; exact rfl; exact rfl; exact rfl; exact rfl; exact rfl)
                  | (apply wlb (j := 3); exact rfl; exact rfl; exact rfl; exact rfl; exact rfl; exact rfl)
                  | (apply wln; exact rfl; exact rfl; exact rfl; exact rfl)
                  | (apply wpu; exact rfl; exact rfl; exact rfl)
                  | (apply wbx; exact rfl; exact rfl; exact rfl; intro _)
                  | refine wc_block ?_
                  | (apply wc_true; exact rfl)
                  | (apply wc_false; exact rfl)
                  | refine wc_skip ?_
                  | refine wc_exit ?_
                  | refine wc_ret ?_
                  | refine we_then_exit ?_
                  | refine we_then_ret ?_
                  | refine we_in_normal ?_
                  | refine we_in_ret ?_
                  | refine we_in_here ?_
                  | (apply we_in_there; exact rfl))
                refine wc_plan _ none [(0, true), (1, true), (2, true), (3, true), (4, true), (5, true), (6, true), (7, true), (8, true), (9, true)] (by kernel_rfl) (List.Sublist.refl _) ?_
                repeat (first
                  | (apply ps; exact rfl; exact rfl; exact rfl; exact rfl)
                  | (apply wp_still; exact rfl; exact rfl; exact rfl; exact (od_sliceTo (k + 1) rfl rfl rfl ⟨_, _, rfl, by omega⟩ (by omega)))
                  | (apply pq Tryd.call32; exact rfl; exact rfl; exact rfl; exact rfl; exact (fun w' h' => hclash w' h'))
                  | (apply pfa; exact rfl; exact rfl; exact rfl; exact rfl; exact rfl)
                  | (apply pi64; exact rfl; exact rfl; omega; omega; exact rfl; exact rfl)
                  | (apply pct; exact rfl; exact rfl; omega; exact rfl; exact rfl)
                  | (apply pcf; exact rfl; exact rfl; omega; exact rfl; exact rfl)
                  | (apply wp_not; exact rfl; exact rfl; exact rfl)
                  | (apply plb (j := 0); exact rfl; exact rfl; exact rfl; exact rfl; exact rfl; exact rfl; exact rfl)
                  | (apply plb (j := 1); exact rfl; exact rfl; exact rfl; exact rfl; exact rfl; exact rfl; exact rfl)
                  | (apply plb (j := 2); exact rfl; exact rfl; exact rfl; exact rfl; exact rfl; exact rfl; exact rfl)
                  | (apply pln; exact rfl; exact rfl; exact rfl; exact rfl; exact rfl)
                  | (apply ppu; exact rfl; exact rfl; exact rfl; exact rfl)
                  | (apply pfs; exact rfl; exact rfl; exact rfl; exact rfl)
                  | apply wp_nil)
                repeat (first
                  | (apply ws; exact rfl; exact rfl; exact rfl)
                  | refine wc_seq ?_
                  | refine wc_region ?_
                  | refine wl_nil ?_
                  | refine we_round ?_
                  | refine we_then_wc ?_
                  | (apply wi64; exact rfl; omega; omega; exact rfl; exact rfl)
                  | (apply wfa; exact rfl; exact rfl; exact rfl; exact rfl)
                  | (apply wct; exact rfl; omega; exact rfl; exact rfl)
                  | (apply wcf; exact rfl; omega; exact rfl; exact rfl)
                  | (apply wn; exact rfl; exact rfl)
                  | (apply wlb (j := 0); exact rfl; exact rfl; exact rfl; exact rfl; exact rfl; exact rfl)
                  | (apply wlb (j := 1); exact rfl; exact rfl; exact rfl; exact rfl; exact rfl; exact rfl)
                  | (apply wlb (j := 2); exact rfl; exact rfl; exact rfl; exact rfl; exact rfl; exact rfl)
                  | (apply wlb (j := 3); exact rfl; exact rfl; exact rfl; exact rfl; exact rfl; exact rfl)
                  | (apply wln; exact rfl; exact rfl; exact rfl; exact rfl)
                  | (apply wpu; exact rfl; exact rfl; exact rfl)
                  | (apply wbx; exact rfl; exact rfl; exact rfl; intro _)
                  | refine wc_block ?_
                  | (apply wc_true; exact rfl)
                  | (apply wc_false; exact rfl)
                  | refine wc_skip ?_
                  | refine wc_exit ?_
                  | refine wc_ret ?_
                  | refine we_then_exit ?_
                  | refine we_then_ret ?_
                  | refine we_in_normal ?_
                  | refine we_in_ret ?_
                  | refine we_in_here ?_
                  | (apply we_in_there; exact rfl))
                exact we_ret1 (Or.inl rfl) rfl rfl fun w' h => ⟨rfl, h.ext_all⟩
            · generalize chkP (xs.set k x) = e9 at *
              repeat (first
                | (apply ws; exact rfl; exact rfl; exact rfl)
                | (apply wq Tryd.call31; exact rfl; exact rfl; exact rfl; exact (fun w' h' => hq2 w' h'))
                | refine wc_seq ?_
                | refine wc_region ?_
                | refine wl_nil ?_
                | refine we_round ?_
                | refine we_then_wc ?_
                | (apply wi64; exact rfl; omega; omega; exact rfl; exact rfl)
                | (apply wfa; exact rfl; exact rfl; exact rfl; exact rfl)
                | (apply wct; exact rfl; omega; exact rfl; exact rfl)
                | (apply wcf; exact rfl; omega; exact rfl; exact rfl)
                | (apply wn; exact rfl; exact rfl)
                | (apply wlb (j := 0); exact rfl; exact rfl; exact rfl; exact rfl; exact rfl; exact rfl)
                | (apply wlb (j := 1); exact rfl; exact rfl; exact rfl; exact rfl; exact rfl; exact rfl)
                | (apply wlb (j := 2); exact rfl; exact rfl; exact rfl; exact rfl; exact rfl; exact rfl)
                | (apply wlb (j := 3); exact rfl; exact rfl; exact rfl; exact rfl; exact rfl; exact rfl)
                | (apply wln; exact rfl; exact rfl; exact rfl; exact rfl)
                | (apply wpu; exact rfl; exact rfl; exact rfl)
                | (apply wbx; exact rfl; exact rfl; exact rfl; intro _)
                | refine wc_block ?_
                | (apply wc_true; exact rfl)
                | (apply wc_false; exact rfl)
                | refine wc_skip ?_
                | refine wc_exit ?_
                | refine wc_ret ?_
                | refine we_then_exit ?_
                | refine we_then_ret ?_
                | refine we_in_normal ?_
                | refine we_in_ret ?_
                | refine we_in_here ?_
                | (apply we_in_there; exact rfl))
              exact we_ret1 (Or.inl rfl) rfl rfl fun w' h => ⟨rfl, h.ext_all⟩
        · generalize chkP xs = e1 at *
          obtain ⟨m, hm⟩ : ∃ m : Nat, xs.length = m := ⟨_, rfl⟩
          rw [hm] at t1 q1 hm0 ⊢
          repeat (first
            | (apply ws; exact rfl; exact rfl; exact rfl)
            | (apply wq Tryd.call23; exact rfl; exact rfl; exact rfl; exact (fun w' h => sane08 w' (hL.ext h.ext_all)))
            | (apply wq Tryd.call24; exact rfl; exact rfl; exact rfl; exact (fun w' hw => t1 w' hw.ext_all))
            | (apply wq Tryd.call31; exact rfl; exact rfl; exact rfl; exact (fun w' hw => q1 w' hw.ext_all))
            | (apply wlb (j := 0); exact rfl; exact rfl; exact rfl; exact hx.c34; exact rfl; exact rfl)
            | refine wc_seq ?_
            | refine wc_region ?_
            | refine wl_nil ?_
            | refine we_round ?_
            | refine we_then_wc ?_
            | (apply wi64; exact rfl; omega; omega; exact rfl; exact rfl)
            | (apply wfa; exact rfl; exact rfl; exact rfl; exact rfl)
            | (apply wct; exact rfl; omega; exact rfl; exact rfl)
            | (apply wcf; exact rfl; omega; exact rfl; exact rfl)
            | (apply wn; exact rfl; exact rfl)
            | (apply wlb (j := 0); exact rfl; exact rfl; exact rfl; exact rfl; exact rfl; exact rfl)
            | (apply wlb (j := 1); exact rfl; exact rfl; exact rfl; exact rfl; exact rfl; exact rfl)
            | (apply wlb (j := 2); exact rfl; exact rfl; exact rfl; exact rfl; exact rfl; exact rfl)
            | (apply wlb (j := 3); exact rfl; exact rfl; exact rfl; exact rfl; exact rfl; exact rfl)
            | (apply wln; exact rfl; exact rfl; exact rfl; exact rfl)
            | (apply wpu; exact rfl; exact rfl; exact rfl)
            | (apply wbx; exact rfl; exact rfl; exact rfl; intro _)
            | refine wc_block ?_
            | (apply wc_true; exact rfl)
            | (apply wc_false; exact rfl)
            | refine wc_skip ?_
            | refine wc_exit ?_
            | refine wc_ret ?_
            | refine we_then_exit ?_
            | refine we_then_ret ?_
            | refine we_in_normal ?_
            | refine we_in_ret ?_
            | refine we_in_here ?_
            | (apply we_in_there; exact rfl))
          exact we_ret1 (Or.inl rfl) rfl rfl fun w' h => ⟨rfl, h.ext_all⟩
  · repeat (first
      | (apply ws; exact rfl; exact rfl; exact rfl)
      | (apply wq Tryd.call23; exact rfl; exact rfl; exact rfl; exact (fun w' h => sane08 w' (hL.ext h.ext_all)))
      | (apply wq Tryd.call24; exact rfl; exact rfl; exact rfl; exact (fun w' hw => few_f f1 w' (h.ext hw.ext_all)))
      | refine wc_seq ?_
      | refine wc_region ?_
      | refine wl_nil ?_
      | refine we_round ?_
      | refine we_then_wc ?_
      | (apply wi64; exact rfl; omega; omega; exact rfl; exact rfl)
      | (apply wfa; exact rfl; exact rfl; exact rfl; exact rfl)
      | (apply wct; exact rfl; omega; exact rfl; exact rfl)
      | (apply wcf; exact rfl; omega; exact rfl; exact rfl)
      | (apply wn; exact rfl; exact rfl)
      | (apply wlb (j := 0); exact rfl; exact rfl; exact rfl; exact rfl; exact rfl; exact rfl)
      | (apply wlb (j := 1); exact rfl; exact rfl; exact rfl; exact rfl; exact rfl; exact rfl)
      | (apply wlb (j := 2); exact rfl; exact rfl; exact rfl; exact rfl; exact rfl; exact rfl)
      | (apply wlb (j := 3); exact rfl; exact rfl; exact rfl; exact rfl; exact rfl; exact rfl)
      | (apply wln; exact rfl; exact rfl; exact rfl; exact rfl)
      | (apply wpu; exact rfl; exact rfl; exact rfl)
      | (apply wbx; exact rfl; exact rfl; exact rfl; intro _)
      | refine wc_block ?_
      | (apply wc_true; exact rfl)
      | (apply wc_false; exact rfl)
      | refine wc_skip ?_
      | refine wc_exit ?_
      | refine wc_ret ?_
      | refine we_then_exit ?_
      | refine we_then_ret ?_
      | refine we_in_normal ?_
      | refine we_in_ret ?_
      | refine we_in_here ?_
      | (apply we_in_there; exact rfl))
    exact we_ret1 (Or.inl rfl) rfl rfl fun w' h => ⟨rfl, h.ext_all⟩
end Go.Proofs.YtielloijdkoeiaaDoor
