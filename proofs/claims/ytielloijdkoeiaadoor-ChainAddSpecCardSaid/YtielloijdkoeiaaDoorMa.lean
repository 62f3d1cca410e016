/- The statement of chapter 8: where two chains part. -/
import Derived.Test.YtielloijdkoeiaaDoorLk
namespace Go.Proofs.YtielloijdkoeiaaDoor
open Go Go.RowKit Go.Lib
set_option maxRecDepth 100000

theorem splitB_comm (xs ys : List Lnk) : splitB xs ys = splitB ys xs := by
  unfold splitB
  cases xs[0]? <;> cases ys[0]? <;> simp [eq_comm]
theorem partV_err {xs ys : List Lnk} (h : ¬ (chkP xs = 0 ∧ chkP ys = 0 ∧ splitB xs ys = false)) : ∃ e1 e2, e1 ≠ 0 ∧ e2 ≠ 0 ∧ partV xs ys = p3 0 false e1 ∧ partV ys xs = p3 0 false e2 := by
  unfold partV
  by_cases c1 : chkP xs = 0
  · by_cases c2 : chkP ys = 0
    · have c3 : splitB xs ys = true := by
        cases hs : splitB xs ys with
        | false => exact absurd ⟨c1, c2, hs⟩ h
        | true => rfl
      have c4 : splitB ys xs = true := by rw [splitB_comm]; exact c3
      exact ⟨80, 80, by decide, by decide, by simp [c1, c2, c3], by simp [c1, c2, c4]⟩
    · exact ⟨chkP ys, chkP ys, c2, c2, by simp [c1, c2], by simp [c2]⟩
  · by_cases c2 : chkP ys = 0
    · exact ⟨chkP xs, chkP xs, c1, c1, by simp [c1], by simp [c1, c2]⟩
    · exact ⟨chkP xs, chkP ys, c1, c2, by simp [c1], by simp [c2]⟩
theorem partV_ok {xs ys : List Lnk} (h : chkP xs = 0 ∧ chkP ys = 0 ∧ splitB xs ys = false) : partV xs ys = (match diffP xs ys with
    | some i => p3 i true 0
    | none => p3 0 false 0) ∧ partV ys xs = partV xs ys := by
  obtain ⟨c1, c2, c3⟩ := h
  have c4 : splitB ys xs = false := by rw [splitB_comm]; exact c3
  exact ⟨by simp [partV, c1, c2, c3]; cases diffP xs ys <;> rfl, by simp [partV, c1, c2, c3, c4, diffP_comm ys xs]⟩

theorem same_take {a a' : Option Addr} {c c' : Nat} {xs ys : List Lnk} {w : World} (k : Nat) {r : Bool} (hl : xs.length ≤ 2 ^ 20) (h : LkA w a c xs) (h' : LkA w a' c' ys) (hk : k ≤ xs.length) (hk' : k ≤ ys.length) (hr : sameB (xs.take k) (ys.take k) = r) :
    Fn 29 [.slice a k c, .slice a' k c'] w (Quiet (.bool r) w) := by
  have e1 : (xs.take k).length = k := by simp; omega
  have e2 : (ys.take k).length = k := by simp; omega
  have := ref_Same a a' c c' (xs.take k) (ys.take k) (by omega) w (h.take k) (h'.take k)
  rwa [e1, e2, hr] at this
theorem sameB_take {xs ys : List Lnk} {k : Nat} (hk : k ≤ xs.length) (hk' : k ≤ ys.length) (h : ∀ (j : Nat) (x y : Lnk), j < k → xs[j]? = some x → ys[j]? = some y → sameL x y = true) : sameB (xs.take k) (ys.take k) = true := by
  unfold sameB
  rw [diffP_take h]
  simp
  omega

theorem few_t {a : Option Addr} {c : Nat} {xs : List Lnk} (hf : fewP xs) (w : World) (h : LkA w a c xs) : Fn 24 [.slice a xs.length c] w (Quiet (.bool true) w) := by
  have := ref_Few a c xs w h
  rwa [decide_eq_true hf] at this
theorem few_f {a : Option Addr} {c : Nat} {xs : List Lnk} (hf : ¬ fewP xs) (w : World) (h : LkA w a c xs) : Fn 24 [.slice a xs.length c] w (Quiet (.bool false) w) := by
  have := ref_Few a c xs w h
  rwa [decide_eq_false hf] at this

theorem law_Parts (a : Option Addr) (c : Nat) (xs : List Lnk) (a' : Option Addr) (c' : Nat) (ys : List Lnk) (w : World) (hL : Laid w) (h : LkA w a c xs) (h' : LkA w a' c' ys) : Fn 9 [.slice a xs.length c, .slice a' ys.length c'] w (Quiet (.bool true) w) := by
  refine fn_of (args := [.slice a xs.length c, .slice a' ys.length c']) Tryd.func9 rfl Tryd.ntmps9 rfl (Hp.start w) ?_
  by_cases f1 : fewP xs
  · by_cases f2 : fewP ys
    · have t1 : ∀ w', Ext w w' → Fn 24 [.slice a xs.length c] w' (Quiet (.bool true) w') := fun w' e => few_t f1 w' (h.ext e)
      have t2 : ∀ w', Ext w w' → Fn 24 [.slice a' ys.length c'] w' (Quiet (.bool true) w') := fun w' e => few_t f2 w' (h'.ext e)
      have q1 : ∀ w', Ext w w' → Fn 27 [.slice a xs.length c, .slice a' ys.length c'] w' (Quiet (partV xs ys) w') := fun w' e => chain_Part a a' c c' xs ys f1.small f2.small w' (hL.ext e) (h.ext e) (h'.ext e)
      have q2 : ∀ w', Ext w w' → Fn 27 [.slice a' ys.length c', .slice a xs.length c] w' (Quiet (partV ys xs) w') := fun w' e => chain_Part a' a c' c ys xs f2.small f1.small w' (hL.ext e) (h'.ext e) (h.ext e)
      have hx16 := f1.1
      have hy16 := f2.1
      by_cases hok : chkP xs = 0 ∧ chkP ys = 0 ∧ splitB xs ys = false
      · obtain ⟨p1, p2⟩ := partV_ok hok
        rw [p2] at q2
        obtain ⟨m, hm⟩ : ∃ m : Nat, m = min xs.length ys.length := ⟨_, rfl⟩
        have hmin : (if (ys.length : Int) < (xs.length : Int) then (ys.length : Int) else (xs.length : Int)) = (m : Int) := by split <;> omega
        have hcx := h.1
        have hcy := h'.1
        cases hd : diffP xs ys with
        | none =>
          rw [hd] at p1
          simp only at p1
          rw [p1] at q1 q2
          have hsm := sameB_take (k := m) (xs := xs) (ys := ys) (by omega) (by omega) (fun j x y _ => diffP_none hd j x y)
          repeat (first
            | (apply ws; exact rfl; exact rfl; exact rfl)
            | (apply wq Tryd.call23; exact rfl; exact rfl; exact rfl; exact (fun w' h => sane08 w' (hL.ext h.ext_all)))
            | (apply wq Tryd.call24; exact rfl; exact rfl; exact rfl; exact (fun w' hw => t1 w' hw.ext_all))
            | (apply wq Tryd.call24; exact rfl; exact rfl; exact rfl; exact (fun w' hw => t2 w' hw.ext_all))
            | (apply wq Tryd.call27; exact rfl; exact rfl; exact rfl; exact (fun w' hw => q1 w' hw.ext_all))
            | (apply wq Tryd.call27; exact rfl; exact rfl; exact rfl; exact (fun w' hw => q2 w' hw.ext_all))
            | refine wl_still rfl rfl rfl (od_eqBool (r := false) (Or.inr ⟨rfl, rfl⟩) rfl rfl rfl) ?_
            | refine wl_still rfl rfl rfl (od_min rfl rfl) ?_
            | refine wc_seq ?_
            | refine wc_region ?_
            | refine wl_nil ?_
            | refine we_round ?_
            | refine we_then_wc ?_
            | (apply wi64; exact rfl; omega; omega; exact rfl; exact rfl)
            | (apply wfa; exact rfl; exact rfl; exact rfl; exact rfl)
            | (apply wct; exact rfl; omega; exact rfl; exact rfl)
            | (apply wcf; exact rfl; omega; exact rfl; exact rfl)
            | (apply wn; exact rfl; exact rfl)
            | (apply wlb (j := 0); exact rfl; exact rfl; exact rfl; exact rfl; exact rfl; exact rfl)
            | (apply wlb (j := 1); exact rfl; exact rfl; exact rfl; exact rfl; exact rfl; exact rfl)
            | (apply wlb (j := 2); exact rfl; exact rfl; exact rfl; exact rfl; exact rfl; exact rfl)
            | (apply wlb (j := 3); exact rfl; exact rfl; exact rfl; exact rfl; exact rfl; exact rfl)
            | (apply wln; exact rfl; exact rfl; exact rfl; exact rfl)
            | (apply wpu; exact rfl; exact rfl; exact rfl)
            | (apply wbx; exact rfl; exact rfl; exact rfl; intro _)
            | refine wc_block ?_
            | (apply wc_true; exact rfl)
            | (apply wc_false; exact rfl)
            | refine wc_skip ?_
            | refine wc_exit ?_
            | refine wc_ret ?_
            | refine we_then_exit ?_
            | refine we_then_ret ?_
            | refine we_in_normal ?_
            | refine we_in_ret ?_
            | refine we_in_here ?_
            | (apply we_in_there; exact rfl))
          rw [hmin]
          repeat (first
            | (apply ws; exact rfl; exact rfl; exact rfl)
            | refine wc_seq ?_
            | refine wc_region ?_
            | refine wl_nil ?_
            | refine we_round ?_
            | refine we_then_wc ?_
            | (apply wi64; exact rfl; omega; omega; exact rfl; exact rfl)
            | (apply wfa; exact rfl; exact rfl; exact rfl; exact rfl)
            | (apply wct; exact rfl; omega; exact rfl; exact rfl)
            | (apply wcf; exact rfl; omega; exact rfl; exact rfl)
            | (apply wn; exact rfl; exact rfl)
            | (apply wlb (j := 0); exact rfl; exact rfl; exact rfl; exact rfl; exact rfl; exact rfl)
            | (apply wlb (j := 1); exact rfl; exact rfl; exact rfl; exact rfl; exact rfl; exact rfl)
            | (apply wlb (j := 2); exact rfl; exact rfl; exact rfl; exact rfl; exact rfl; exact rfl)
            | (apply wlb (j := 3); exact rfl; exact rfl; exact rfl; exact rfl; exact rfl; exact rfl)
            | (apply wln; exact rfl; exact rfl; exact rfl; exact rfl)
            | (apply wpu; exact rfl; exact rfl; exact rfl)
            | (apply wbx; exact rfl; exact rfl; exact rfl; intro _)
            | refine wc_block ?_
            | (apply wc_true; exact rfl)
            | (apply wc_false; exact rfl)
            | refine wc_skip ?_
            | refine wc_exit ?_
            | refine wc_ret ?_
            | refine we_then_exit ?_
            | refine we_then_ret ?_
            | refine we_in_normal ?_
            | refine we_in_ret ?_
            | refine we_in_here ?_
            | (apply we_in_there; exact rfl))
          refine wc_plan [] none [(0, true), (1, true), (2, true), (3, true), (4, true), (5, true), (6, true), (7, true), (8, true), (9, true), (10, true), (11, true)] (by kernel_rfl) (List.nil_sublist _) ?_
          repeat (first
            | (apply ps; exact rfl; exact rfl; exact rfl; exact rfl)
            | (apply wp_still; exact rfl; exact rfl; exact rfl; exact (od_sliceTo m rfl rfl rfl ⟨_, _, rfl, rfl⟩ (by omega)))
            | (apply pq Tryd.call29; exact rfl; exact rfl; exact rfl; exact rfl; exact (fun w' hw => same_take m (by omega) (h.ext hw.ext_all) (h'.ext hw.ext_all) (by omega) (by omega) hsm))
            | (apply pfa; exact rfl; exact rfl; exact rfl; exact rfl; exact rfl)
            | (apply pi64; exact rfl; exact rfl; omega; omega; exact rfl; exact rfl)
            | (apply pct; exact rfl; exact rfl; omega; exact rfl; exact rfl)
            | (apply pcf; exact rfl; exact rfl; omega; exact rfl; exact rfl)
            | (apply wp_not; exact rfl; exact rfl; exact rfl)
            | (apply plb (j := 0); exact rfl; exact rfl; exact rfl; exact rfl; exact rfl; exact rfl; exact rfl)
            | (apply plb (j := 1); exact rfl; exact rfl; exact rfl; exact rfl; exact rfl; exact rfl; exact rfl)
            | (apply plb (j := 2); exact rfl; exact rfl; exact rfl; exact rfl; exact rfl; exact rfl; exact rfl)
            | (apply pln; exact rfl; exact rfl; exact rfl; exact rfl; exact rfl)
            | (apply ppu; exact rfl; exact rfl; exact rfl; exact rfl)
            | (apply pfs; exact rfl; exact rfl; exact rfl; exact rfl)
            | apply wp_nil)
          repeat (first
            | (apply ws; exact rfl; exact rfl; exact rfl)
            | refine wc_seq ?_
            | refine wc_region ?_
            | refine wl_nil ?_
            | refine we_round ?_
            | refine we_then_wc ?_
            | (apply wi64; exact rfl; omega; omega; exact rfl; exact rfl)
            | (apply wfa; exact rfl; exact rfl; exact rfl; exact rfl)
            | (apply wct; exact rfl; omega; exact rfl; exact rfl)
            | (apply wcf; exact rfl; omega; exact rfl; exact rfl)
            | (apply wn; exact rfl; exact rfl)
            | (apply wlb (j := 0); exact rfl; exact rfl; exact rfl; exact rfl; exact rfl; exact rfl)
            | (apply wlb (j := 1); exact rfl; exact rfl; exact rfl; exact rfl; exact rfl; exact rfl)
            | (apply wlb (j := 2); exact rfl; exact rfl; exact rfl; exact rfl; exact rfl; exact rfl)
            | (apply wlb (j := 3); exact rfl; exact rfl; exact rfl; exact rfl; exact rfl; exact rfl)
            | (apply wln; exact rfl; exact rfl; exact rfl; exact rfl)
            | (apply wpu; exact rfl; exact rfl; exact rfl)
            | (apply wbx; exact rfl; exact rfl; exact rfl; intro _)
            | refine wc_block ?_
            | (apply wc_true; exact rfl)
            | (apply wc_false; exact rfl)
            | refine wc_skip ?_
            | refine wc_exit ?_
            | refine wc_ret ?_
            | refine we_then_exit ?_
            | refine we_then_ret ?_
            | refine we_in_normal ?_
            | refine we_in_ret ?_
            | refine we_in_here ?_
            | (apply we_in_there; exact rfl))
          exact we_ret1 (Or.inl rfl) rfl rfl fun w' h => ⟨rfl, h.ext_all⟩
        | some i =>
          rw [hd] at p1
          simp only at p1
          rw [p1] at q1 q2
          have hlt := diffP_lt hd
          obtain ⟨⟨x, y, hx, hy, hs0⟩, hall⟩ := diffP_some hd
          obtain ⟨b, o, ea, okx, hcx'⟩ := h.at hx
          obtain ⟨b', o', ea', oky, hcy'⟩ := h'.at hy
          subst ea
          subst ea'
          have hsm := sameB_take (k := i) (xs := xs) (ys := ys) (by omega) (by omega) hall
          repeat (first
            | (apply ws; exact rfl; exact rfl; exact rfl)
            | (apply wq Tryd.call23; exact rfl; exact rfl; exact rfl; exact (fun w' h => sane08 w' (hL.ext h.ext_all)))
            | (apply wq Tryd.call24; exact rfl; exact rfl; exact rfl; exact (fun w' hw => t1 w' hw.ext_all))
            | (apply wq Tryd.call24; exact rfl; exact rfl; exact rfl; exact (fun w' hw => t2 w' hw.ext_all))
            | (apply wq Tryd.call27; exact rfl; exact rfl; exact rfl; exact (fun w' hw => q1 w' hw.ext_all))
            | (apply wq Tryd.call27; exact rfl; exact rfl; exact rfl; exact (fun w' hw => q2 w' hw.ext_all))
            | refine wl_still rfl rfl rfl (od_eqBool (r := false) (Or.inr ⟨rfl, rfl⟩) rfl rfl rfl) ?_
            | refine wl_still rfl rfl rfl (od_min rfl rfl) ?_
            | refine wc_seq ?_
            | refine wc_region ?_
            | refine wl_nil ?_
            | refine we_round ?_
            | refine we_then_wc ?_
            | (apply wi64; exact rfl; omega; omega; exact rfl; exact rfl)
            | (apply wfa; exact rfl; exact rfl; exact rfl; exact rfl)
            | (apply wct; exact rfl; omega; exact rfl; exact rfl)
            | (apply wcf; exact rfl; omega; exact rfl; exact rfl)
            | (apply wn; exact rfl; exact rfl)
            | (apply wlb (j := 0); exact rfl; exact rfl; exact rfl; exact rfl; exact rfl; exact rfl)
            | (apply wlb (j := 1); exact rfl; exact rfl; exact rfl; exact rfl; exact rfl; exact rfl)
            | (apply wlb (j := 2); exact rfl; exact rfl; exact rfl; exact rfl; exact rfl; exact rfl)
            | (apply wlb (j := 3); exact rfl; exact rfl; exact rfl; exact rfl; exact rfl; exact rfl)
            | (apply wln; exact rfl; exact rfl; exact rfl; exact rfl)
            | (apply wpu; exact rfl; exact rfl; exact rfl)
            | (apply wbx; exact rfl; exact rfl; exact rfl; intro _)
            | refine wc_block ?_
            | (apply wc_true; exact rfl)
            | (apply wc_false; exact rfl)
            | refine wc_skip ?_
            | refine wc_exit ?_
            | refine wc_ret ?_
            | refine we_then_exit ?_
            | refine we_then_ret ?_
            | refine we_in_normal ?_
            | refine we_in_ret ?_
            | refine we_in_here ?_
            | (apply we_in_there; exact rfl))
          rw [hmin]
          repeat (first
            | (apply ws; exact rfl; exact rfl; exact rfl)
            | refine wc_seq ?_
            | refine wc_region ?_
            | refine wl_nil ?_
            | refine we_round ?_
            | refine we_then_wc ?_
            | (apply wi64; exact rfl; omega; omega; exact rfl; exact rfl)
            | (apply wfa; exact rfl; exact rfl; exact rfl; exact rfl)
            | (apply wct; exact rfl; omega; exact rfl; exact rfl)
            | (apply wcf; exact rfl; omega; exact rfl; exact rfl)
            | (apply wn; exact rfl; exact rfl)
            | (apply wlb (j := 0); exact rfl; exact rfl; exact rfl; exact rfl; exact rfl; exact rfl)
            | (apply wlb (j := 1); exact rfl; exact rfl; exact rfl; exact rfl; exact rfl; exact rfl)
            | (apply wlb (j := 2); exact rfl; exact rfl; exact rfl; exact rfl; exact rfl; exact rfl)
            | (apply wlb (j := 3); exact rfl; exact rfl; exact rfl; exact rfl; exact rfl; exact rfl)
            | (apply wln; exact rfl; exact rfl; exact rfl; exact rfl)
            | (apply wpu; exact rfl; exact rfl; exact rfl)
            | (apply wbx; exact rfl; exact rfl; exact rfl; intro _)
            | refine wc_block ?_
            | (apply wc_true; exact rfl)
            | (apply wc_false; exact rfl)
            | refine wc_skip ?_
            | refine wc_exit ?_
            | refine wc_ret ?_
            | refine we_then_exit ?_
            | refine we_then_ret ?_
            | refine we_in_normal ?_
            | refine we_in_ret ?_
            | refine we_in_here ?_
            | (apply we_in_there; exact rfl))
          refine wc_plan [] none [(0, true), (1, true), (2, true), (3, true), (4, true), (5, true), (6, true), (7, true), (8, true), (9, true), (10, true), (11, true), (12, true), (13, true), (14, true), (15, true), (16, true), (17, true), (18, true), (19, true), (20, true), (21, true), (22, true), (23, true), (24, true), (25, true), (26, true), (27, true), (28, true)] (by kernel_rfl) (List.nil_sublist _) ?_
          repeat (first
            | (apply ps; exact rfl; exact rfl; exact rfl; exact rfl)
            | (apply wp_still; exact rfl; exact rfl; exact rfl; exact (od_sliceTo i rfl rfl rfl ⟨_, _, rfl, rfl⟩ (by omega)))
            | (apply pq Tryd.call29; exact rfl; exact rfl; exact rfl; exact rfl; exact (fun w' hw => same_take i (by omega) (h.ext hw.ext_all) (h'.ext hw.ext_all) (by omega) (by omega) hsm))
            | (apply wp_still; exact rfl; exact rfl; exact rfl; exact (od_indexAddr i rfl rfl rfl rfl rfl (by omega)))
            | (apply wp_still; exact rfl; exact rfl; exact rfl; exact (od_loadLk rfl okx hcx' (by simp)))
            | (apply wp_still; exact rfl; exact rfl; exact rfl; exact (od_loadLk rfl oky hcy' (by simp)))
            | (apply pq Tryd.call33; exact rfl; exact rfl; exact rfl; exact rfl; exact (fun w' hw => hs0 ▸ ref_SameLink x y w' (okx.ext hw.ext_all) (oky.ext hw.ext_all)))
            | (apply pfa; exact rfl; exact rfl; exact rfl; exact rfl; exact rfl)
            | (apply pi64; exact rfl; exact rfl; omega; omega; exact rfl; exact rfl)
            | (apply pct; exact rfl; exact rfl; omega; exact rfl; exact rfl)
            | (apply pcf; exact rfl; exact rfl; omega; exact rfl; exact rfl)
            | (apply wp_not; exact rfl; exact rfl; exact rfl)
            | (apply plb (j := 0); exact rfl; exact rfl; exact rfl; exact rfl; exact rfl; exact rfl; exact rfl)
            | (apply plb (j := 1); exact rfl; exact rfl; exact rfl; exact rfl; exact rfl; exact rfl; exact rfl)
            | (apply plb (j := 2); exact rfl; exact rfl; exact rfl; exact rfl; exact rfl; exact rfl; exact rfl)
            | (apply pln; exact rfl; exact rfl; exact rfl; exact rfl; exact rfl)
            | (apply ppu; exact rfl; exact rfl; exact rfl; exact rfl)
            | (apply pfs; exact rfl; exact rfl; exact rfl; exact rfl)
            | apply wp_nil)
          repeat (first
            | (apply ws; exact rfl; exact rfl; exact rfl)
            | refine wc_seq ?_
            | refine wc_region ?_
            | refine wl_nil ?_
            | refine we_round ?_
            | refine we_then_wc ?_
            | (apply wi64; exact rfl; omega; omega; exact rfl; exact rfl)
            | (apply wfa; exact rfl; exact rfl; exact rfl; exact rfl)
            | (apply wct; exact rfl; omega; exact rfl; exact rfl)
            | (apply wcf; exact rfl; omega; exact rfl; exact rfl)
            | (apply wn; exact rfl; exact rfl)
            | (apply wlb (j := 0); exact rfl; exact rfl; exact rfl; exact rfl; exact rfl; exact rfl)
            | (apply wlb (j := 1); exact rfl; exact rfl; exact rfl; exact rfl; exact rfl; exact rfl)
            | (apply wlb (j := 2); exact rfl; exact rfl; exact rfl; exact rfl; exact rfl; exact rfl)
            | (apply wlb (j := 3); exact rfl; exact rfl; exact rfl; exact rfl; exact rfl; exact rfl)
            | (apply wln; exact rfl; exact rfl; exact rfl; exact rfl)
            | (apply wpu; exact rfl; exact rfl; exact rfl)
            | (apply wbx; exact rfl; exact rfl; exact rfl; intro _)
            | refine wc_block ?_
            | (apply wc_true; exact rfl)
            | (apply wc_false; exact rfl)
            | refine wc_skip ?_
            | refine wc_exit ?_
            | refine wc_ret ?_
            | refine we_then_exit ?_
            | refine we_then_ret ?_
            | refine we_in_normal ?_
            | refine we_in_ret ?_
            | refine we_in_here ?_
            | (apply we_in_there; exact rfl))
          exact we_ret1 (Or.inl rfl) rfl rfl fun w' h => ⟨rfl, h.ext_all⟩
      · obtain ⟨e1, e2, n1, n2, p1, p2⟩ := partV_err hok
        rw [p1] at q1
        rw [p2] at q2
        repeat (first
          | (apply ws; exact rfl; exact rfl; exact rfl)
          | (apply wq Tryd.call23; exact rfl; exact rfl; exact rfl; exact (fun w' h => sane08 w' (hL.ext h.ext_all)))
          | (apply wq Tryd.call24; exact rfl; exact rfl; exact rfl; exact (fun w' hw => t1 w' hw.ext_all))
          | (apply wq Tryd.call24; exact rfl; exact rfl; exact rfl; exact (fun w' hw => t2 w' hw.ext_all))
          | (apply wq Tryd.call27; exact rfl; exact rfl; exact rfl; exact (fun w' hw => q1 w' hw.ext_all))
          | (apply wq Tryd.call27; exact rfl; exact rfl; exact rfl; exact (fun w' hw => q2 w' hw.ext_all))
          | refine wc_seq ?_
          | refine wc_region ?_
          | refine wl_nil ?_
          | refine we_round ?_
          | refine we_then_wc ?_
          | (apply wi64; exact rfl; omega; omega; exact rfl; exact rfl)
          | (apply wfa; exact rfl; exact rfl; exact rfl; exact rfl)
          | (apply wct; exact rfl; omega; exact rfl; exact rfl)
          | (apply wcf; exact rfl; omega; exact rfl; exact rfl)
          | (apply wn; exact rfl; exact rfl)
          | (apply wlb (j := 0); exact rfl; exact rfl; exact rfl; exact rfl; exact rfl; exact rfl)
          | (apply wlb (j := 1); exact rfl; exact rfl; exact rfl; exact rfl; exact rfl; exact rfl)
          | (apply wlb (j := 2); exact rfl; exact rfl; exact rfl; exact rfl; exact rfl; exact rfl)
          | (apply wlb (j := 3); exact rfl; exact rfl; exact rfl; exact rfl; exact rfl; exact rfl)
          | (apply wln; exact rfl; exact rfl; exact rfl; exact rfl)
          | (apply wpu; exact rfl; exact rfl; exact rfl)
          | (apply wbx; exact rfl; exact rfl; exact rfl; intro _)
          | refine wc_block ?_
          | (apply wc_true; exact rfl)
          | (apply wc_false; exact rfl)
          | refine wc_skip ?_
          | refine wc_exit ?_
          | refine wc_ret ?_
          | refine we_then_exit ?_
          | refine we_then_ret ?_
          | refine we_in_normal ?_
          | refine we_in_ret ?_
          | refine we_in_here ?_
          | (apply we_in_there; exact rfl))
        exact we_ret1 (Or.inl rfl) rfl rfl fun w' h => ⟨rfl, h.ext_all⟩
    · repeat (first
        | (apply ws; exact rfl; exact rfl; exact rfl)
        | (apply wq Tryd.call23; exact rfl; exact rfl; exact rfl; exact (fun w' h => sane08 w' (hL.ext h.ext_all)))
        | (apply wq Tryd.call24; exact rfl; exact rfl; exact rfl; exact (fun w' hw => few_t f1 w' (h.ext hw.ext_all)))
        | (apply wq Tryd.call24; exact rfl; exact rfl; exact rfl; exact (fun w' hw => few_f f2 w' (h'.ext hw.ext_all)))
        | refine wc_seq ?_
        | refine wc_region ?_
        | refine wl_nil ?_
        | refine we_round ?_
        | refine we_then_wc ?_
        | (apply wi64; exact rfl; omega; omega; exact rfl; exact rfl)
        | (apply wfa; exact rfl; exact rfl; exact rfl; exact rfl)
        | (apply wct; exact rfl; omega; exact rfl; exact rfl)
        | (apply wcf; exact rfl; omega; exact rfl; exact rfl)
        | (apply wn; exact rfl; exact rfl)
        | (apply wlb (j := 0); exact rfl; exact rfl; exact rfl; exact rfl; exact rfl; exact rfl)
        | (apply wlb (j := 1); exact rfl; exact rfl; exact rfl; exact rfl; exact rfl; exact rfl)
        | (apply wlb (j := 2); exact rfl; exact rfl; exact rfl; exact rfl; exact rfl; exact rfl)
        | (apply wlb (j := 3); exact rfl; exact rfl; exact rfl; exact rfl; exact rfl; exact rfl)
        | (apply wln; exact rfl; exact rfl; exact rfl; exact rfl)
        | (apply wpu; exact rfl; exact rfl; exact rfl)
        | (apply wbx; exact rfl; exact rfl; exact rfl; intro _)
        | refine wc_block ?_
        | (apply wc_true; exact rfl)
        | (apply wc_false; exact rfl)
        | refine wc_skip ?_
        | refine wc_exit ?_
        | refine wc_ret ?_
        | refine we_then_exit ?_
        | refine we_then_ret ?_
        | refine we_in_normal ?_
        | refine we_in_ret ?_
        | refine we_in_here ?_
        | (apply we_in_there; exact rfl))
      exact we_ret1 (Or.inl rfl) rfl rfl fun w' h => ⟨rfl, h.ext_all⟩
  · repeat (first
      | (apply ws; exact rfl; exact rfl; exact rfl)
      | (apply wq Tryd.call23; exact rfl; exact rfl; exact rfl; exact (fun w' h => sane08 w' (hL.ext h.ext_all)))
      | (apply wq Tryd.call24; exact rfl; exact rfl; exact rfl; exact (fun w' hw => few_f f1 w' (h.ext hw.ext_all)))
      | refine wc_seq ?_
      | refine wc_region ?_
      | refine wl_nil ?_
      | refine we_round ?_
      | refine we_then_wc ?_
      | (apply wi64; exact rfl; omega; omega; exact rfl; exact rfl)
      | (apply wfa; exact rfl; exact rfl; exact rfl; exact rfl)
      | (apply wct; exact rfl; omega; exact rfl; exact rfl)
      | (apply wcf; exact rfl; omega; exact rfl; exact rfl)
      | (apply wn; exact rfl; exact rfl)
      | (apply wlb (j := 0); exact rfl; exact rfl; exact rfl; exact rfl; exact rfl; exact rfl)
      | (apply wlb (j := 1); exact rfl; exact rfl; exact rfl; exact rfl; exact rfl; exact rfl)
      | (apply wlb (j := 2); exact rfl; exact rfl; exact rfl; exact rfl; exact rfl; exact rfl)
      | (apply wlb (j := 3); exact rfl; exact rfl; exact rfl; exact rfl; exact rfl; exact rfl)
      | (apply wln; exact rfl; exact rfl; exact rfl; exact rfl)
      | (apply wpu; exact rfl; exact rfl; exact rfl)
      | (apply wbx; exact rfl; exact rfl; exact rfl; intro _)
      | refine wc_block ?_
      | (apply wc_true; exact rfl)
      | (apply wc_false; exact rfl)
      | refine wc_skip ?_
      | refine wc_exit ?_
      | refine wc_ret ?_
      | refine we_then_exit ?_
      | refine we_then_ret ?_
      | refine we_in_normal ?_
      | refine we_in_ret ?_
      | refine we_in_here ?_
      | (apply we_in_there; exact rfl))
    exact we_ret1 (Or.inl rfl) rfl rfl fun w' h => ⟨rfl, h.ext_all⟩
end Go.Proofs.YtielloijdkoeiaaDoor
