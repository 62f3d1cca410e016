/- Layer 8: chain.Part; bytes.Clone; chain.Add. -/
import Derived.Test.YtielloijdkoeiaaDoorLe
import Derived.Test.YtielloijdkoeiaaDoorLf
namespace Go.Proofs.YtielloijdkoeiaaDoor
open Go Go.RowKit Go.Lib
set_option maxRecDepth 100000

/-- The first links are of two nodes. -/
def splitB (xs ys : List Lnk) : Bool :=
  match xs[0]?, ys[0]? with
  | some x, some y => decide (x.node ≠ y.node)
  | _, _ => false
def p3 (i : Int) (ok : Bool) (e : Int) : Value := .tuple #[.int .i64 i, .bool ok, .int .i64 e]
def partV (xs ys : List Lnk) : Value :=
  if chkP xs = 0 then (if chkP ys = 0 then (if splitB xs ys then p3 0 false 80 else match diffP xs ys with
    | some i => p3 i true 0
    | none => p3 0 false 0) else p3 0 false (chkP ys)) else p3 0 false (chkP xs)

def smallP (xs : List Lnk) : Prop := xs.length ≤ 2 ^ 20 ∧ ∀ x ∈ xs, x.data.length ≤ 2 ^ 20
theorem fewP.small {xs : List Lnk} (h : fewP xs) : smallP xs := ⟨by have := h.1; omega, fun x hx => by have := h.2 x hx; omega⟩
theorem smallP.take {xs : List Lnk} (h : smallP xs) (n : Nat) : smallP (xs.take n) := ⟨by have := h.1; simp; omega, fun x hx => h.2 x (List.mem_of_mem_take hx)⟩

theorem chain_Part (a a' : Option Addr) (c c' : Nat) (xs ys : List Lnk) (hs : smallP xs) (hs' : smallP ys) (w : World) (hL : Laid w) (h : LkA w a c xs) (h' : LkA w a' c' ys) : Fn 27 [.slice a xs.length c, .slice a' ys.length c'] w (Quiet (partV xs ys) w) := by
  refine fn_of (args := [.slice a xs.length c, .slice a' ys.length c']) Tryd.func27 rfl Tryd.ntmps27 rfl (Hp.start w) ?_
  have k1 : ∀ w', Ext w w' → Fn 31 [.slice a xs.length c] w' (Quiet (.int .i64 (chkP xs)) w') := fun w' e => chain_Check a c xs hs.1 hs.2 w' (hL.ext e) (h.ext e)
  have k2 : ∀ w', Ext w w' → Fn 31 [.slice a' ys.length c'] w' (Quiet (.int .i64 (chkP ys)) w') := fun w' e => chain_Check a' c' ys hs'.1 hs'.2 w' (hL.ext e) (h'.ext e)
  have k3 : ∀ w', Ext w w' → Fn 50 [.slice a xs.length c, .slice a' ys.length c', .func (.func 51) #[] #[]] w' (Quiet (dV (diffP xs ys)) w') := fun w' e => chain_differ a a' c c' xs ys hs.1 w' (h.ext e) (h'.ext e)
  unfold partV
  by_cases c1 : chkP xs = 0
  · rw [if_pos c1]
    rw [c1] at k1
    by_cases c2 : chkP ys = 0
    · rw [if_pos c2]
      rw [c2] at k2
      by_cases hx0 : xs.length = 0
      · have hsp : splitB xs ys = false := by
          have : xs = [] := List.eq_nil_of_length_eq_zero hx0
          subst this; rfl
        rw [hsp]
        rw [hx0] at k1 k3 ⊢
        generalize ys.length = m' at *
        cases hd : diffP xs ys with
        | none =>
          rw [hd] at k3
          repeat (first
            | (apply ws; exact rfl; exact rfl; exact rfl)
            | (apply wq Tryd.call31; exact rfl; exact rfl; exact rfl; exact (fun w' hw => k1 w' hw.ext_all))
            | (apply wq Tryd.call31; exact rfl; exact rfl; exact rfl; exact (fun w' hw => k2 w' hw.ext_all))
            | refine wc_seq ?_
            | refine wc_region ?_
            | refine wl_nil ?_
            | refine we_round ?_
            | refine we_then_wc ?_
            | (apply wi64; exact rfl; omega; omega; exact rfl; exact rfl)
            | (apply wfa; exact rfl; exact rfl; exact rfl; exact rfl)
            | (apply wct; exact rfl; omega; exact rfl; exact rfl)
            | (apply wcf; exact rfl; omega; exact rfl; exact rfl)
            | (apply wn; exact rfl; exact rfl)
            | (apply wlb (j := 0); exact rfl; exact rfl; exact rfl; exact rfl; exact rfl; exact rfl)
            | (apply wlb (j := 1); exact rfl; exact rfl; exact rfl; exact rfl; exact rfl; exact rfl)
            | (apply wlb (j := 2); exact rfl; exact rfl; exact rfl; exact rfl; exact rfl; exact rfl)
            | (apply wlb (j := 3); exact rfl; exact rfl; exact rfl; exact rfl; exact rfl; exact rfl)
            | (apply wln; exact rfl; exact rfl; exact rfl; exact rfl)
            | (apply wpu; exact rfl; exact rfl; exact rfl)
            | (apply wbx; exact rfl; exact rfl; exact rfl; intro _)
            | refine wc_block ?_
            | (apply wc_true; exact rfl)
            | (apply wc_false; exact rfl)
            | refine wc_skip ?_
            | refine wc_exit ?_
            | refine wc_ret ?_
            | refine we_then_exit ?_
            | refine we_then_ret ?_
            | refine we_in_normal ?_
            | refine we_in_ret ?_
            | refine we_in_here ?_
            | (apply we_in_there; exact rfl))
          refine wc_plan [] none [(0, true), (1, true), (2, true), (3, true), (4, true), (5, true), (6, true), (7, true), (8, true), (9, true), (10, true), (11, true), (12, true), (13, true), (14, true), (15, true), (16, true), (17, true), (18, true)] (by kernel_rfl) (List.nil_sublist _) ?_
          repeat (first
            | (apply ps; exact rfl; exact rfl; exact rfl; exact rfl)
            | (apply pfa; exact rfl; exact rfl; exact rfl; exact rfl; exact rfl)
            | (apply pi64; exact rfl; exact rfl; omega; omega; exact rfl; exact rfl)
            | (apply pct; exact rfl; exact rfl; omega; exact rfl; exact rfl)
            | (apply pcf; exact rfl; exact rfl; omega; exact rfl; exact rfl)
            | (apply wp_not; exact rfl; exact rfl; exact rfl)
            | (apply plb (j := 0); exact rfl; exact rfl; exact rfl; exact rfl; exact rfl; exact rfl; exact rfl)
            | (apply plb (j := 1); exact rfl; exact rfl; exact rfl; exact rfl; exact rfl; exact rfl; exact rfl)
            | (apply plb (j := 2); exact rfl; exact rfl; exact rfl; exact rfl; exact rfl; exact rfl; exact rfl)
            | (apply pln; exact rfl; exact rfl; exact rfl; exact rfl; exact rfl)
            | (apply ppu; exact rfl; exact rfl; exact rfl; exact rfl)
            | (apply pfs; exact rfl; exact rfl; exact rfl; exact rfl)
            | apply wp_nil)
          repeat (first
            | (apply ws; exact rfl; exact rfl; exact rfl)
            | (apply wq Tryd.call50; exact rfl; exact rfl; exact rfl; exact (fun w' hw => k3 w' hw.ext_all))
            | refine wc_seq ?_
            | refine wc_region ?_
            | refine wl_nil ?_
            | refine we_round ?_
            | refine we_then_wc ?_
            | (apply wi64; exact rfl; omega; omega; exact rfl; exact rfl)
            | (apply wfa; exact rfl; exact rfl; exact rfl; exact rfl)
            | (apply wct; exact rfl; omega; exact rfl; exact rfl)
            | (apply wcf; exact rfl; omega; exact rfl; exact rfl)
            | (apply wn; exact rfl; exact rfl)
            | (apply wlb (j := 0); exact rfl; exact rfl; exact rfl; exact rfl; exact rfl; exact rfl)
            | (apply wlb (j := 1); exact rfl; exact rfl; exact rfl; exact rfl; exact rfl; exact rfl)
            | (apply wlb (j := 2); exact rfl; exact rfl; exact rfl; exact rfl; exact rfl; exact rfl)
            | (apply wlb (j := 3); exact rfl; exact rfl; exact rfl; exact rfl; exact rfl; exact rfl)
            | (apply wln; exact rfl; exact rfl; exact rfl; exact rfl)
            | (apply wpu; exact rfl; exact rfl; exact rfl)
            | (apply wbx; exact rfl; exact rfl; exact rfl; intro _)
            | refine wc_block ?_
            | (apply wc_true; exact rfl)
            | (apply wc_false; exact rfl)
            | refine wc_skip ?_
            | refine wc_exit ?_
            | refine wc_ret ?_
            | refine we_then_exit ?_
            | refine we_then_ret ?_
            | refine we_in_normal ?_
            | refine we_in_ret ?_
            | refine we_in_here ?_
            | (apply we_in_there; exact rfl))
          exact we_ret3 (Or.inl rfl) rfl rfl rfl rfl fun w' h => ⟨rfl, h.ext_all⟩
        | some i => have := (diffP_lt hd).1; omega
      · by_cases hy0 : ys.length = 0
        · have hsp : splitB xs ys = false := by
            have : ys = [] := List.eq_nil_of_length_eq_zero hy0
            subst this; unfold splitB; simp
          rw [hsp]
          rw [hy0] at k2 k3 ⊢
          generalize xs.length = m at *
          cases hd : diffP xs ys with
          | none =>
            rw [hd] at k3
            repeat (first
              | (apply ws; exact rfl; exact rfl; exact rfl)
              | (apply wq Tryd.call31; exact rfl; exact rfl; exact rfl; exact (fun w' hw => k1 w' hw.ext_all))
              | (apply wq Tryd.call31; exact rfl; exact rfl; exact rfl; exact (fun w' hw => k2 w' hw.ext_all))
              | refine wc_seq ?_
              | refine wc_region ?_
              | refine wl_nil ?_
              | refine we_round ?_
              | refine we_then_wc ?_
              | (apply wi64; exact rfl; omega; omega; exact rfl; exact rfl)
              | (apply wfa; exact rfl; exact rfl; exact rfl; exact rfl)
              | (apply wct; exact rfl; omega; exact rfl; exact rfl)
              | (apply wcf; exact rfl; omega; exact rfl; exact rfl)
              | (apply wn; exact rfl; exact rfl)
              | (apply wlb (j := 0); exact rfl; exact rfl; exact rfl; exact rfl; exact rfl; exact rfl)
              | (apply wlb (j := 1); exact rfl; exact rfl; exact rfl; exact rfl; exact rfl; exact rfl)
              | (apply wlb (j := 2); exact rfl; exact rfl; exact rfl; exact rfl; exact rfl; exact rfl)
              | (apply wlb (j := 3); exact rfl; exact rfl; exact rfl; exact rfl; exact rfl; exact rfl)
              | (apply wln; exact rfl; exact rfl; exact rfl; exact rfl)
              | (apply wpu; exact rfl; exact rfl; exact rfl)
              | (apply wbx; exact rfl; exact rfl; exact rfl; intro _)
              | refine wc_block ?_
              | (apply wc_true; exact rfl)
              | (apply wc_false; exact rfl)
              | refine wc_skip ?_
              | refine wc_exit ?_
              | refine wc_ret ?_
              | refine we_then_exit ?_
              | refine we_then_ret ?_
              | refine we_in_normal ?_
              | refine we_in_ret ?_
              | refine we_in_here ?_
              | (apply we_in_there; exact rfl))
            refine wc_plan [] none [(0, true), (1, true), (2, true), (3, true), (4, true), (5, true), (6, true), (7, true), (8, true), (9, true), (10, true), (11, true), (12, true), (13, true), (14, true), (15, true), (16, true), (17, true), (18, true)] (by kernel_rfl) (List.nil_sublist _) ?_
            repeat (first
              | (apply ps; exact rfl; exact rfl; exact rfl; exact rfl)
              | (apply pfa; exact rfl; exact rfl; exact rfl; exact rfl; exact rfl)
              | (apply pi64; exact rfl; exact rfl; omega; omega; exact rfl; exact rfl)
              | (apply pct; exact rfl; exact rfl; omega; exact rfl; exact rfl)
              | (apply pcf; exact rfl; exact rfl; omega; exact rfl; exact rfl)
              | (apply wp_not; exact rfl; exact rfl; exact rfl)
              | (apply plb (j := 0); exact rfl; exact rfl; exact rfl; exact rfl; exact rfl; exact rfl; exact rfl)
              | (apply plb (j := 1); exact rfl; exact rfl; exact rfl; exact rfl; exact rfl; exact rfl; exact rfl)
              | (apply plb (j := 2); exact rfl; exact rfl; exact rfl; exact rfl; exact rfl; exact rfl; exact rfl)
              | (apply pln; exact rfl; exact rfl; exact rfl; exact rfl; exact rfl)
              | (apply ppu; exact rfl; exact rfl; exact rfl; exact rfl)
              | (apply pfs; exact rfl; exact rfl; exact rfl; exact rfl)
              | apply wp_nil)
            repeat (first
              | (apply ws; exact rfl; exact rfl; exact rfl)
              | (apply wq Tryd.call50; exact rfl; exact rfl; exact rfl; exact (fun w' hw => k3 w' hw.ext_all))
              | refine wc_seq ?_
              | refine wc_region ?_
              | refine wl_nil ?_
              | refine we_round ?_
              | refine we_then_wc ?_
              | (apply wi64; exact rfl; omega; omega; exact rfl; exact rfl)
              | (apply wfa; exact rfl; exact rfl; exact rfl; exact rfl)
              | (apply wct; exact rfl; omega; exact rfl; exact rfl)
              | (apply wcf; exact rfl; omega; exact rfl; exact rfl)
              | (apply wn; exact rfl; exact rfl)
              | (apply wlb (j := 0); exact rfl; exact rfl; exact rfl; exact rfl; exact rfl; exact rfl)
              | (apply wlb (j := 1); exact rfl; exact rfl; exact rfl; exact rfl; exact rfl; exact rfl)
              | (apply wlb (j := 2); exact rfl; exact rfl; exact rfl; exact rfl; exact rfl; exact rfl)
              | (apply wlb (j := 3); exact rfl; exact rfl; exact rfl; exact rfl; exact rfl; exact rfl)
              | (apply wln; exact rfl; exact rfl; exact rfl; exact rfl)
              | (apply wpu; exact rfl; exact rfl; exact rfl)
              | (apply wbx; exact rfl; exact rfl; exact rfl; intro _)
              | refine wc_block ?_
              | (apply wc_true; exact rfl)
              | (apply wc_false; exact rfl)
              | refine wc_skip ?_
              | refine wc_exit ?_
              | refine wc_ret ?_
              | refine we_then_exit ?_
              | refine we_then_ret ?_
              | refine we_in_normal ?_
              | refine we_in_ret ?_
              | refine we_in_here ?_
              | (apply we_in_there; exact rfl))
            exact we_ret3 (Or.inl rfl) rfl rfl rfl rfl fun w' h => ⟨rfl, h.ext_all⟩
          | some i => have := (diffP_lt hd).2; omega
        · obtain ⟨x, b, o, hx, ea, okx, hcx⟩ := h.get 0 (by omega)
          obtain ⟨y, b', o', hy, ea', oky, hcy⟩ := h'.get 0 (by omega)
          subst ea
          subst ea'
          have hx0' := hcx 0 _ rfl
          have hy0' := hcy 0 _ rfl
          have hspl : splitB xs ys = decide (x.node ≠ y.node) := by unfold splitB; rw [hx, hy]
          generalize xs.length = m at *
          generalize ys.length = m' at *
          by_cases c3 : x.node = y.node
          · rw [hspl]
            simp only [c3, ne_eq, not_true_eq_false, decide_false, Bool.false_eq_true, if_false]
            repeat (first
              | (apply ws; exact rfl; exact rfl; exact rfl)
              | (apply wq Tryd.call31; exact rfl; exact rfl; exact rfl; exact (fun w' hw => k1 w' hw.ext_all))
              | (apply wq Tryd.call31; exact rfl; exact rfl; exact rfl; exact (fun w' hw => k2 w' hw.ext_all))
              | refine wc_seq ?_
              | refine wc_region ?_
              | refine wl_nil ?_
              | refine we_round ?_
              | refine we_then_wc ?_
              | (apply wi64; exact rfl; omega; omega; exact rfl; exact rfl)
              | (apply wfa; exact rfl; exact rfl; exact rfl; exact rfl)
              | (apply wct; exact rfl; omega; exact rfl; exact rfl)
              | (apply wcf; exact rfl; omega; exact rfl; exact rfl)
              | (apply wn; exact rfl; exact rfl)
              | (apply wlb (j := 0); exact rfl; exact rfl; exact rfl; exact rfl; exact rfl; exact rfl)
              | (apply wlb (j := 1); exact rfl; exact rfl; exact rfl; exact rfl; exact rfl; exact rfl)
              | (apply wlb (j := 2); exact rfl; exact rfl; exact rfl; exact rfl; exact rfl; exact rfl)
              | (apply wlb (j := 3); exact rfl; exact rfl; exact rfl; exact rfl; exact rfl; exact rfl)
              | (apply wln; exact rfl; exact rfl; exact rfl; exact rfl)
              | (apply wpu; exact rfl; exact rfl; exact rfl)
              | (apply wbx; exact rfl; exact rfl; exact rfl; intro _)
              | refine wc_block ?_
              | (apply wc_true; exact rfl)
              | (apply wc_false; exact rfl)
              | refine wc_skip ?_
              | refine wc_exit ?_
              | refine wc_ret ?_
              | refine we_then_exit ?_
              | refine we_then_ret ?_
              | refine we_in_normal ?_
              | refine we_in_ret ?_
              | refine we_in_here ?_
              | (apply we_in_there; exact rfl))
            refine wc_plan [] none [(0, true), (1, true), (2, true), (3, true), (4, true), (5, true), (6, true), (7, true), (8, true), (9, true), (10, true), (11, true), (12, true), (13, true), (14, true), (15, true), (16, true), (17, true), (18, true)] (by kernel_rfl) (List.nil_sublist _) ?_
            repeat (first
              | (apply ps; exact rfl; exact rfl; exact rfl; exact rfl)
              | (apply wp_still; exact rfl; exact rfl; exact rfl; exact (od_indexAddr 0 rfl rfl rfl rfl rfl (by omega)))
              | (apply plo; exact rfl; exact rfl; exact rfl; exact hx0'; exact List.not_mem_nil; exact rfl; exact rfl)
              | (apply plo; exact rfl; exact rfl; exact rfl; exact hy0'; exact List.not_mem_nil; exact rfl; exact rfl)
              | (apply pfa; exact rfl; exact rfl; exact rfl; exact rfl; exact rfl)
              | (apply pi64; exact rfl; exact rfl; omega; omega; exact rfl; exact rfl)
              | (apply pct; exact rfl; exact rfl; omega; exact rfl; exact rfl)
              | (apply pcf; exact rfl; exact rfl; omega; exact rfl; exact rfl)
              | (apply wp_not; exact rfl; exact rfl; exact rfl)
              | (apply plb (j := 0); exact rfl; exact rfl; exact rfl; exact rfl; exact rfl; exact rfl; exact rfl)
              | (apply plb (j := 1); exact rfl; exact rfl; exact rfl; exact rfl; exact rfl; exact rfl; exact rfl)
              | (apply plb (j := 2); exact rfl; exact rfl; exact rfl; exact rfl; exact rfl; exact rfl; exact rfl)
              | (apply pln; exact rfl; exact rfl; exact rfl; exact rfl; exact rfl)
              | (apply ppu; exact rfl; exact rfl; exact rfl; exact rfl)
              | (apply pfs; exact rfl; exact rfl; exact rfl; exact rfl)
              | apply wp_nil)
            cases hd : diffP xs ys with
            | none =>
              rw [hd] at k3
              repeat (first
                | (apply ws; exact rfl; exact rfl; exact rfl)
                | (apply wq Tryd.call50; exact rfl; exact rfl; exact rfl; exact (fun w' hw => k3 w' hw.ext_all))
                | refine wc_seq ?_
                | refine wc_region ?_
                | refine wl_nil ?_
                | refine we_round ?_
                | refine we_then_wc ?_
                | (apply wi64; exact rfl; omega; omega; exact rfl; exact rfl)
                | (apply wfa; exact rfl; exact rfl; exact rfl; exact rfl)
                | (apply wct; exact rfl; omega; exact rfl; exact rfl)
                | (apply wcf; exact rfl; omega; exact rfl; exact rfl)
                | (apply wn; exact rfl; exact rfl)
                | (apply wlb (j := 0); exact rfl; exact rfl; exact rfl; exact rfl; exact rfl; exact rfl)
                | (apply wlb (j := 1); exact rfl; exact rfl; exact rfl; exact rfl; exact rfl; exact rfl)
                | (apply wlb (j := 2); exact rfl; exact rfl; exact rfl; exact rfl; exact rfl; exact rfl)
                | (apply wlb (j := 3); exact rfl; exact rfl; exact rfl; exact rfl; exact rfl; exact rfl)
                | (apply wln; exact rfl; exact rfl; exact rfl; exact rfl)
                | (apply wpu; exact rfl; exact rfl; exact rfl)
                | (apply wbx; exact rfl; exact rfl; exact rfl; intro _)
                | refine wc_block ?_
                | (apply wc_true; exact rfl)
                | (apply wc_false; exact rfl)
                | refine wc_skip ?_
                | refine wc_exit ?_
                | refine wc_ret ?_
                | refine we_then_exit ?_
                | refine we_then_ret ?_
                | refine we_in_normal ?_
                | refine we_in_ret ?_
                | refine we_in_here ?_
                | (apply we_in_there; exact rfl))
              exact we_ret3 (Or.inl rfl) rfl rfl rfl rfl fun w' h => ⟨rfl, h.ext_all⟩
            | some i =>
              rw [hd] at k3
              repeat (first
                | (apply ws; exact rfl; exact rfl; exact rfl)
                | (apply wq Tryd.call50; exact rfl; exact rfl; exact rfl; exact (fun w' hw => k3 w' hw.ext_all))
                | refine wc_seq ?_
                | refine wc_region ?_
                | refine wl_nil ?_
                | refine we_round ?_
                | refine we_then_wc ?_
                | (apply wi64; exact rfl; omega; omega; exact rfl; exact rfl)
                | (apply wfa; exact rfl; exact rfl; exact rfl; exact rfl)
                | (apply wct; exact rfl; omega; exact rfl; exact rfl)
                | (apply wcf; exact rfl; omega; exact rfl; exact rfl)
                | (apply wn; exact rfl; exact rfl)
                | (apply wlb (j := 0); exact rfl; exact rfl; exact rfl; exact rfl; exact rfl; exact rfl)
                | (apply wlb (j := 1); exact rfl; exact rfl; exact rfl; exact rfl; exact rfl; exact rfl)
                | (apply wlb (j := 2); exact rfl; exact rfl; exact rfl; exact rfl; exact rfl; exact rfl)
                | (apply wlb (j := 3); exact rfl; exact rfl; exact rfl; exact rfl; exact rfl; exact rfl)
                | (apply wln; exact rfl; exact rfl; exact rfl; exact rfl)
                | (apply wpu; exact rfl; exact rfl; exact rfl)
                | (apply wbx; exact rfl; exact rfl; exact rfl; intro _)
                | refine wc_block ?_
                | (apply wc_true; exact rfl)
                | (apply wc_false; exact rfl)
                | refine wc_skip ?_
                | refine wc_exit ?_
                | refine wc_ret ?_
                | refine we_then_exit ?_
                | refine we_then_ret ?_
                | refine we_in_normal ?_
                | refine we_in_ret ?_
                | refine we_in_here ?_
                | (apply we_in_there; exact rfl))
              exact we_ret3 (Or.inl rfl) rfl rfl rfl rfl fun w' h => ⟨rfl, h.ext_all⟩
          · rw [hspl]
            simp only [c3, ne_eq, not_false_eq_true, decide_true, if_true]
            repeat (first
              | (apply ws; exact rfl; exact rfl; exact rfl)
              | (apply wq Tryd.call31; exact rfl; exact rfl; exact rfl; exact (fun w' hw => k1 w' hw.ext_all))
              | (apply wq Tryd.call31; exact rfl; exact rfl; exact rfl; exact (fun w' hw => k2 w' hw.ext_all))
              | refine wc_seq ?_
              | refine wc_region ?_
              | refine wl_nil ?_
              | refine we_round ?_
              | refine we_then_wc ?_
              | (apply wi64; exact rfl; omega; omega; exact rfl; exact rfl)
              | (apply wfa; exact rfl; exact rfl; exact rfl; exact rfl)
              | (apply wct; exact rfl; omega; exact rfl; exact rfl)
              | (apply wcf; exact rfl; omega; exact rfl; exact rfl)
              | (apply wn; exact rfl; exact rfl)
              | (apply wlb (j := 0); exact rfl; exact rfl; exact rfl; exact rfl; exact rfl; exact rfl)
              | (apply wlb (j := 1); exact rfl; exact rfl; exact rfl; exact rfl; exact rfl; exact rfl)
              | (apply wlb (j := 2); exact rfl; exact rfl; exact rfl; exact rfl; exact rfl; exact rfl)
              | (apply wlb (j := 3); exact rfl; exact rfl; exact rfl; exact rfl; exact rfl; exact rfl)
              | (apply wln; exact rfl; exact rfl; exact rfl; exact rfl)
              | (apply wpu; exact rfl; exact rfl; exact rfl)
              | (apply wbx; exact rfl; exact rfl; exact rfl; intro _)
              | refine wc_block ?_
              | (apply wc_true; exact rfl)
              | (apply wc_false; exact rfl)
              | refine wc_skip ?_
              | refine wc_exit ?_
              | refine wc_ret ?_
              | refine we_then_exit ?_
              | refine we_then_ret ?_
              | refine we_in_normal ?_
              | refine we_in_ret ?_
              | refine we_in_here ?_
              | (apply we_in_there; exact rfl))
            refine wc_plan [] none [(0, true), (1, true), (2, true), (3, true), (4, true), (5, true), (6, true), (7, true), (8, true), (9, true), (10, true), (11, true), (12, true), (13, true), (14, true), (15, true), (16, true), (17, true), (18, true)] (by kernel_rfl) (List.nil_sublist _) ?_
            repeat (first
              | (apply ps; exact rfl; exact rfl; exact rfl; exact rfl)
              | (apply wp_still; exact rfl; exact rfl; exact rfl; exact (od_indexAddr 0 rfl rfl rfl rfl rfl (by omega)))
              | (apply plo; exact rfl; exact rfl; exact rfl; exact hx0'; exact List.not_mem_nil; exact rfl; exact rfl)
              | (apply plo; exact rfl; exact rfl; exact rfl; exact hy0'; exact List.not_mem_nil; exact rfl; exact rfl)
              | (apply pfa; exact rfl; exact rfl; exact rfl; exact rfl; exact rfl)
              | (apply pi64; exact rfl; exact rfl; omega; omega; exact rfl; exact rfl)
              | (apply pct; exact rfl; exact rfl; omega; exact rfl; exact rfl)
              | (apply pcf; exact rfl; exact rfl; omega; exact rfl; exact rfl)
              | (apply wp_not; exact rfl; exact rfl; exact rfl)
              | (apply plb (j := 0); exact rfl; exact rfl; exact rfl; exact rfl; exact rfl; exact rfl; exact rfl)
              | (apply plb (j := 1); exact rfl; exact rfl; exact rfl; exact rfl; exact rfl; exact rfl; exact rfl)
              | (apply plb (j := 2); exact rfl; exact rfl; exact rfl; exact rfl; exact rfl; exact rfl; exact rfl)
              | (apply pln; exact rfl; exact rfl; exact rfl; exact rfl; exact rfl)
              | (apply ppu; exact rfl; exact rfl; exact rfl; exact rfl)
              | (apply pfs; exact rfl; exact rfl; exact rfl; exact rfl)
              | apply wp_nil)
            repeat (first
              | (apply ws; exact rfl; exact rfl; exact rfl)
              | refine wc_seq ?_
              | refine wc_region ?_
              | refine wl_nil ?_
              | refine we_round ?_
              | refine we_then_wc ?_
              | (apply wi64; exact rfl; omega; omega; exact rfl; exact rfl)
              | (apply wfa; exact rfl; exact rfl; exact rfl; exact rfl)
              | (apply wct; exact rfl; omega; exact rfl; exact rfl)
              | (apply wcf; exact rfl; omega; exact rfl; exact rfl)
              | (apply wn; exact rfl; exact rfl)
              | (apply wlb (j := 0); exact rfl; exact rfl; exact rfl; exact rfl; exact rfl; exact rfl)
              | (apply wlb (j := 1); exact rfl; exact rfl; exact rfl; exact rfl; exact rfl; exact rfl)
              | (apply wlb (j := 2); exact rfl; exact rfl; exact rfl; exact rfl; exact rfl; exact rfl)
              | (apply wlb (j := 3); exact rfl; exact rfl; exact rfl; exact rfl; exact rfl; exact rfl)
              | (apply wln; exact rfl; exact rfl; exact rfl; exact rfl)
              | (apply wpu; exact rfl; exact rfl; exact rfl)
              | (apply wbx; exact rfl; exact rfl; exact rfl; intro _)
              | refine wc_block ?_
              | (apply wc_true; exact rfl)
              | (apply wc_false; exact rfl)
              | refine wc_skip ?_
              | refine wc_exit ?_
              | refine wc_ret ?_
              | refine we_then_exit ?_
              | refine we_then_ret ?_
              | refine we_in_normal ?_
              | refine we_in_ret ?_
              | refine we_in_here ?_
              | (apply we_in_there; exact rfl))
            exact we_ret3 (Or.inl rfl) rfl rfl rfl rfl fun w' h => ⟨rfl, h.ext_all⟩
    · rw [if_neg c2]
      generalize chkP ys = e2 at *
      repeat (first
        | (apply ws; exact rfl; exact rfl; exact rfl)
        | (apply wq Tryd.call31; exact rfl; exact rfl; exact rfl; exact (fun w' hw => k1 w' hw.ext_all))
        | (apply wq Tryd.call31; exact rfl; exact rfl; exact rfl; exact (fun w' hw => k2 w' hw.ext_all))
        | refine wc_seq ?_
        | refine wc_region ?_
        | refine wl_nil ?_
        | refine we_round ?_
        | refine we_then_wc ?_
        | (apply wi64; exact rfl; omega; omega; exact rfl; exact rfl)
        | (apply wfa; exact rfl; exact rfl; exact rfl; exact rfl)
        | (apply wct; exact rfl; omega; exact rfl; exact rfl)
        | (apply wcf; exact rfl; omega; exact rfl; exact rfl)
        | (apply wn; exact rfl; exact rfl)
        | (apply wlb (j := 0); exact rfl; exact rfl; exact rfl; exact rfl; exact rfl; exact rfl)
        | (apply wlb (j := 1); exact rfl; exact rfl; exact rfl; exact rfl; exact rfl; exact rfl)
        | (apply wlb (j := 2); exact rfl; exact rfl; exact rfl; exact rfl; exact rfl; exact rfl)
        | (apply wlb (j := 3); exact rfl; exact rfl; exact rfl; exact rfl; exact rfl; exact rfl)
        | (apply wln; exact rfl; exact rfl; exact rfl; exact rfl)
        | (apply wpu; exact rfl; exact rfl; exact rfl)
        | (apply wbx; exact rfl; exact rfl; exact rfl; intro _)
        | refine wc_block ?_
        | (apply wc_true; exact rfl)
        | (apply wc_false; exact rfl)
        | refine wc_skip ?_
        | refine wc_exit ?_
        | refine wc_ret ?_
        | refine we_then_exit ?_
        | refine we_then_ret ?_
        | refine we_in_normal ?_
        | refine we_in_ret ?_
        | refine we_in_here ?_
        | (apply we_in_there; exact rfl))
      exact we_ret3 (Or.inl rfl) rfl rfl rfl rfl fun w' h => ⟨rfl, h.ext_all⟩
  · rw [if_neg c1]
    generalize chkP xs = e1 at *
    repeat (first
      | (apply ws; exact rfl; exact rfl; exact rfl)
      | (apply wq Tryd.call31; exact rfl; exact rfl; exact rfl; exact (fun w' hw => k1 w' hw.ext_all))
      | (apply wq Tryd.call31; exact rfl; exact rfl; exact rfl; exact (fun w' hw => k2 w' hw.ext_all))
      | refine wc_seq ?_
      | refine wc_region ?_
      | refine wl_nil ?_
      | refine we_round ?_
      | refine we_then_wc ?_
      | (apply wi64; exact rfl; omega; omega; exact rfl; exact rfl)
      | (apply wfa; exact rfl; exact rfl; exact rfl; exact rfl)
      | (apply wct; exact rfl; omega; exact rfl; exact rfl)
      | (apply wcf; exact rfl; omega; exact rfl; exact rfl)
      | (apply wn; exact rfl; exact rfl)
      | (apply wlb (j := 0); exact rfl; exact rfl; exact rfl; exact rfl; exact rfl; exact rfl)
      | (apply wlb (j := 1); exact rfl; exact rfl; exact rfl; exact rfl; exact rfl; exact rfl)
      | (apply wlb (j := 2); exact rfl; exact rfl; exact rfl; exact rfl; exact rfl; exact rfl)
      | (apply wlb (j := 3); exact rfl; exact rfl; exact rfl; exact rfl; exact rfl; exact rfl)
      | (apply wln; exact rfl; exact rfl; exact rfl; exact rfl)
      | (apply wpu; exact rfl; exact rfl; exact rfl)
      | (apply wbx; exact rfl; exact rfl; exact rfl; intro _)
      | refine wc_block ?_
      | (apply wc_true; exact rfl)
      | (apply wc_false; exact rfl)
      | refine wc_skip ?_
      | refine wc_exit ?_
      | refine wc_ret ?_
      | refine we_then_exit ?_
      | refine we_then_ret ?_
      | refine we_in_normal ?_
      | refine we_in_ret ?_
      | refine we_in_here ?_
      | (apply we_in_there; exact rfl))
    exact we_ret3 (Or.inl rfl) rfl rfl rfl rfl fun w' h => ⟨rfl, h.ext_all⟩

theorem bytes_Clone_nil (n c : Nat) (w : World) : Fn 47 [.slice none n c] w (Quiet (.slice none 0 0) w) := by
  refine fn_of (args := [.slice none n c]) Tryd.func47 rfl Tryd.ntmps47 rfl (Hp.start w) ?_
  repeat (first
    | (apply ws; exact rfl; exact rfl; exact rfl)
    | refine wl_still rfl rfl rfl (od_isNil rfl rfl) ?_
    | refine wc_seq ?_
    | refine wc_region ?_
    | refine wl_nil ?_
    | refine we_round ?_
    | refine we_then_wc ?_
    | (apply wi64; exact rfl; omega; omega; exact rfl; exact rfl)
    | (apply wfa; exact rfl; exact rfl; exact rfl; exact rfl)
    | (apply wct; exact rfl; omega; exact rfl; exact rfl)
    | (apply wcf; exact rfl; omega; exact rfl; exact rfl)
    | (apply wn; exact rfl; exact rfl)
    | (apply wlb (j := 0); exact rfl; exact rfl; exact rfl; exact rfl; exact rfl; exact rfl)
    | (apply wlb (j := 1); exact rfl; exact rfl; exact rfl; exact rfl; exact rfl; exact rfl)
    | (apply wlb (j := 2); exact rfl; exact rfl; exact rfl; exact rfl; exact rfl; exact rfl)
    | (apply wlb (j := 3); exact rfl; exact rfl; exact rfl; exact rfl; exact rfl; exact rfl)
    | (apply wln; exact rfl; exact rfl; exact rfl; exact rfl)
    | (apply wpu; exact rfl; exact rfl; exact rfl)
    | (apply wbx; exact rfl; exact rfl; exact rfl; intro _)
    | refine wc_block ?_
    | (apply wc_true; exact rfl)
    | (apply wc_false; exact rfl)
    | refine wc_skip ?_
    | refine wc_exit ?_
    | refine wc_ret ?_
    | refine we_then_exit ?_
    | refine we_then_ret ?_
    | refine we_in_normal ?_
    | refine we_in_ret ?_
    | refine we_in_here ?_
    | (apply we_in_there; exact rfl))
  exact we_ret1 (Or.inl rfl) rfl rfl fun w' h => ⟨rfl, h.ext_all⟩

theorem bytes_Clone_some (ad : Addr) (c : Nat) (l : List UInt8) (hl : l.length ≤ 2 ^ 40) (w : World) (h : ByA w (some ad) c l) : Fn 47 [.slice (some ad) l.length c] w (Fresh l w) := by
  refine fn_of (args := [.slice (some ad) l.length c]) Tryd.func47 rfl Tryd.ntmps47 rfl (Hp.start w) ?_
  repeat (first
    | (apply ws; exact rfl; exact rfl; exact rfl)
    | refine wl_still rfl rfl rfl (od_isNil rfl rfl) ?_
    | refine wc_seq ?_
    | refine wc_region ?_
    | refine wl_nil ?_
    | refine we_round ?_
    | refine we_then_wc ?_
    | (apply wi64; exact rfl; omega; omega; exact rfl; exact rfl)
    | (apply wfa; exact rfl; exact rfl; exact rfl; exact rfl)
    | (apply wct; exact rfl; omega; exact rfl; exact rfl)
    | (apply wcf; exact rfl; omega; exact rfl; exact rfl)
    | (apply wn; exact rfl; exact rfl)
    | (apply wlb (j := 0); exact rfl; exact rfl; exact rfl; exact rfl; exact rfl; exact rfl)
    | (apply wlb (j := 1); exact rfl; exact rfl; exact rfl; exact rfl; exact rfl; exact rfl)
    | (apply wlb (j := 2); exact rfl; exact rfl; exact rfl; exact rfl; exact rfl; exact rfl)
    | (apply wlb (j := 3); exact rfl; exact rfl; exact rfl; exact rfl; exact rfl; exact rfl)
    | (apply wln; exact rfl; exact rfl; exact rfl; exact rfl)
    | (apply wpu; exact rfl; exact rfl; exact rfl)
    | (apply wbx; exact rfl; exact rfl; exact rfl; intro _)
    | refine wc_block ?_
    | (apply wc_true; exact rfl)
    | (apply wc_false; exact rfl)
    | refine wc_skip ?_
    | refine wc_exit ?_
    | refine wc_ret ?_
    | refine we_then_exit ?_
    | refine we_then_ret ?_
    | refine we_in_normal ?_
    | refine we_in_ret ?_
    | refine we_in_here ?_
    | (apply we_in_there; exact rfl))
  refine wl_makes rfl rfl rfl (od_buildSlice (cs := []) rfl rfl ⟨_, Tryd.zeroValue5⟩ rfl rfl rfl (by simp) (by omega) rfl) ?_
  rintro _ b0 -
  repeat (first
    | (apply ws; exact rfl; exact rfl; exact rfl)
    | refine wc_seq ?_
    | refine wc_region ?_
    | refine wl_nil ?_
    | refine we_round ?_
    | refine we_then_wc ?_
    | (apply wi64; exact rfl; omega; omega; exact rfl; exact rfl)
    | (apply wfa; exact rfl; exact rfl; exact rfl; exact rfl)
    | (apply wct; exact rfl; omega; exact rfl; exact rfl)
    | (apply wcf; exact rfl; omega; exact rfl; exact rfl)
    | (apply wn; exact rfl; exact rfl)
    | (apply wlb (j := 0); exact rfl; exact rfl; exact rfl; exact rfl; exact rfl; exact rfl)
    | (apply wlb (j := 1); exact rfl; exact rfl; exact rfl; exact rfl; exact rfl; exact rfl)
    | (apply wlb (j := 2); exact rfl; exact rfl; exact rfl; exact rfl; exact rfl; exact rfl)
    | (apply wlb (j := 3); exact rfl; exact rfl; exact rfl; exact rfl; exact rfl; exact rfl)
    | (apply wln; exact rfl; exact rfl; exact rfl; exact rfl)
    | (apply wpu; exact rfl; exact rfl; exact rfl)
    | (apply wbx; exact rfl; exact rfl; exact rfl; intro _)
    | refine wc_block ?_
    | (apply wc_true; exact rfl)
    | (apply wc_false; exact rfl)
    | refine wc_skip ?_
    | refine wc_exit ?_
    | refine wc_ret ?_
    | refine we_then_exit ?_
    | refine we_then_ret ?_
    | refine we_in_normal ?_
    | refine we_in_ret ?_
    | refine we_in_here ?_
    | (apply we_in_there; exact rfl))
  refine wl_moves 0 rfl rfl rfl rfl (od_grow (xs := []) (ys := l) (sp := []) 0 rfl rfl rfl rfl (by simp) rfl (fun w' hw => ((h.ext hw.ext_all).bs).src) (by simp; omega)) ?_
  rintro ⟨c2, sp2⟩ b2 ⟨e1, e2⟩
  simp only [List.nil_append] at e1 e2
  dsimp only
  repeat (first
    | (apply ws; exact rfl; exact rfl; exact rfl)
    | refine wc_seq ?_
    | refine wc_region ?_
    | refine wl_nil ?_
    | refine we_round ?_
    | refine we_then_wc ?_
    | (apply wi64; exact rfl; omega; omega; exact rfl; exact rfl)
    | (apply wfa; exact rfl; exact rfl; exact rfl; exact rfl)
    | (apply wct; exact rfl; omega; exact rfl; exact rfl)
    | (apply wcf; exact rfl; omega; exact rfl; exact rfl)
    | (apply wn; exact rfl; exact rfl)
    | (apply wlb (j := 0); exact rfl; exact rfl; exact rfl; exact rfl; exact rfl; exact rfl)
    | (apply wlb (j := 1); exact rfl; exact rfl; exact rfl; exact rfl; exact rfl; exact rfl)
    | (apply wlb (j := 2); exact rfl; exact rfl; exact rfl; exact rfl; exact rfl; exact rfl)
    | (apply wlb (j := 3); exact rfl; exact rfl; exact rfl; exact rfl; exact rfl; exact rfl)
    | (apply wln; exact rfl; exact rfl; exact rfl; exact rfl)
    | (apply wpu; exact rfl; exact rfl; exact rfl)
    | (apply wbx; exact rfl; exact rfl; exact rfl; intro _)
    | refine wc_block ?_
    | (apply wc_true; exact rfl)
    | (apply wc_false; exact rfl)
    | refine wc_skip ?_
    | refine wc_exit ?_
    | refine wc_ret ?_
    | refine we_then_exit ?_
    | refine we_then_ret ?_
    | refine we_in_normal ?_
    | refine we_in_ret ?_
    | refine we_in_here ?_
    | (apply we_in_there; exact rfl))
  refine we_ret1 (Or.inl rfl) rfl rfl fun w' h => ?_
  have hb := h.at (j := 0) rfl
  exact ⟨(c2, sp2), b2, rfl, ⟨e1, e2⟩, hb.1.resolve_right (by simp), h.ext_all, hb.2⟩
end Go.Proofs.YtielloijdkoeiaaDoor
