/- The reference of chapter 8: Add. -/
import Derived.Test.YtielloijdkoeiaaDoorUa
import Derived.Test.YtielloijdkoeiaaDoorLi
namespace Go.Proofs.YtielloijdkoeiaaDoor
open Go Go.RowKit Go.Lib
set_option maxRecDepth 100000

theorem ref_Add_err (a : Option Addr) (c : Nat) (xs : List Lnk) (node : Int) (da : Option Addr) (dc : Nat) (data : List UInt8) (hs : smallP xs) (w : World) (h : LkA w a c xs) (E : Int) (hE : addE xs node data.length = E) (h0 : E ≠ 0) :
    Fn 26 [.slice a xs.length c, .int .i64 node, .slice da data.length dc] w (Quiet (.tuple #[.slice none 0 0, .int .i64 E]) w) := by
  refine fn_of (args := [.slice a xs.length c, .int .i64 node, .slice da data.length dc]) Tryd.func26 rfl Tryd.ntmps26 rfl (Hp.start w) ?_
  have k1 : ∀ w', Ext w w' → Fn 48 [.slice a xs.length c] w' (Quiet (.int .i64 (chkP xs)) w') := fun w' e => ref_Check a c xs hs w' (h.ext e)
  unfold addE at hE
  by_cases c1 : chkP xs = 0
  · rw [if_pos c1] at hE
    rw [c1] at k1
    by_cases hx0 : xs.length = 0
    · have hoff : offB xs node = false := by
        have : xs = [] := List.eq_nil_of_length_eq_zero hx0
        subst this; rfl
      rw [hoff] at hE
      rw [hx0] at k1 hE ⊢
      generalize data.length = dl at *
      have e1 : E = 1 := by
        split at hE
        · exact hE.symm
        · simp at hE; exact absurd hE.symm h0
      subst e1
      by_cases n1 : node < 0
      · repeat (first
          | (apply ws; exact rfl; exact rfl; exact rfl)
          | (apply wq Tryd.call48; exact rfl; exact rfl; exact rfl; exact (fun w' hw => k1 w' hw.ext_all))
          | refine wl_still rfl rfl rfl (od_indexAddr 0 rfl rfl rfl rfl rfl (by omega)) ?_
          | (apply wlo; exact rfl; exact rfl; exact hy0; exact List.not_mem_nil; exact rfl; exact rfl)
          | refine wc_seq ?_
          | refine wc_region ?_
          | refine wl_nil ?_
          | refine we_round ?_
          | refine we_then_wc ?_
          | (apply wi64; exact rfl; omega; omega; exact rfl; exact rfl)
          | (apply wfa; exact rfl; exact rfl; exact rfl; exact rfl)
          | (apply wct; exact rfl; omega; exact rfl; exact rfl)
          | (apply wcf; exact rfl; omega; exact rfl; exact rfl)
          | (apply wn; exact rfl; exact rfl)
          | (apply wlb (j := 0); exact rfl; exact rfl; exact rfl; exact rfl; exact rfl; exact rfl)
          | (apply wlb (j := 1); exact rfl; exact rfl; exact rfl; exact rfl; exact rfl; exact rfl)
          | (apply wlb (j := 2); exact rfl; exact rfl; exact rfl; exact rfl; exact rfl; exact rfl)
          | (apply wlb (j := 3); exact rfl; exact rfl; exact rfl; exact rfl; exact rfl; exact rfl)
          | (apply wln; exact rfl; exact rfl; exact rfl; exact rfl)
          | (apply wpu; exact rfl; exact rfl; exact rfl)
          | (apply wbx; exact rfl; exact rfl; exact rfl; intro _)
          | refine wc_block ?_
          | (apply wc_true; exact rfl)
          | (apply wc_false; exact rfl)
          | refine wc_skip ?_
          | refine wc_exit ?_
          | refine wc_ret ?_
          | refine we_then_exit ?_
          | refine we_then_ret ?_
          | refine we_in_normal ?_
          | refine we_in_ret ?_
          | refine we_in_here ?_
          | (apply we_in_there; exact rfl))
        exact we_ret2 (Or.inl rfl) rfl rfl rfl fun w' h => ⟨rfl, h.ext_all⟩
      · by_cases n2 : 24 ≤ node
        · repeat (first
            | (apply ws; exact rfl; exact rfl; exact rfl)
            | (apply wq Tryd.call48; exact rfl; exact rfl; exact rfl; exact (fun w' hw => k1 w' hw.ext_all))
            | refine wl_still rfl rfl rfl (od_indexAddr 0 rfl rfl rfl rfl rfl (by omega)) ?_
            | (apply wlo; exact rfl; exact rfl; exact hy0; exact List.not_mem_nil; exact rfl; exact rfl)
            | refine wc_seq ?_
            | refine wc_region ?_
            | refine wl_nil ?_
            | refine we_round ?_
            | refine we_then_wc ?_
            | (apply wi64; exact rfl; omega; omega; exact rfl; exact rfl)
            | (apply wfa; exact rfl; exact rfl; exact rfl; exact rfl)
            | (apply wct; exact rfl; omega; exact rfl; exact rfl)
            | (apply wcf; exact rfl; omega; exact rfl; exact rfl)
            | (apply wn; exact rfl; exact rfl)
            | (apply wlb (j := 0); exact rfl; exact rfl; exact rfl; exact rfl; exact rfl; exact rfl)
            | (apply wlb (j := 1); exact rfl; exact rfl; exact rfl; exact rfl; exact rfl; exact rfl)
            | (apply wlb (j := 2); exact rfl; exact rfl; exact rfl; exact rfl; exact rfl; exact rfl)
            | (apply wlb (j := 3); exact rfl; exact rfl; exact rfl; exact rfl; exact rfl; exact rfl)
            | (apply wln; exact rfl; exact rfl; exact rfl; exact rfl)
            | (apply wpu; exact rfl; exact rfl; exact rfl)
            | (apply wbx; exact rfl; exact rfl; exact rfl; intro _)
            | refine wc_block ?_
            | (apply wc_true; exact rfl)
            | (apply wc_false; exact rfl)
            | refine wc_skip ?_
            | refine wc_exit ?_
            | refine wc_ret ?_
            | refine we_then_exit ?_
            | refine we_then_ret ?_
            | refine we_in_normal ?_
            | refine we_in_ret ?_
            | refine we_in_here ?_
            | (apply we_in_there; exact rfl))
          exact we_ret2 (Or.inl rfl) rfl rfl rfl fun w' h => ⟨rfl, h.ext_all⟩
        · have n3 : 65536 < dl := by
            rcases Nat.lt_or_ge 65536 dl with h1 | h1
            · exact h1
            · rw [if_neg (by simp; omega)] at hE
              simp at hE
          repeat (first
            | (apply ws; exact rfl; exact rfl; exact rfl)
            | (apply wq Tryd.call48; exact rfl; exact rfl; exact rfl; exact (fun w' hw => k1 w' hw.ext_all))
            | refine wl_still rfl rfl rfl (od_indexAddr 0 rfl rfl rfl rfl rfl (by omega)) ?_
            | (apply wlo; exact rfl; exact rfl; exact hy0; exact List.not_mem_nil; exact rfl; exact rfl)
            | refine wc_seq ?_
            | refine wc_region ?_
            | refine wl_nil ?_
            | refine we_round ?_
            | refine we_then_wc ?_
            | (apply wi64; exact rfl; omega; omega; exact rfl; exact rfl)
            | (apply wfa; exact rfl; exact rfl; exact rfl; exact rfl)
            | (apply wct; exact rfl; omega; exact rfl; exact rfl)
            | (apply wcf; exact rfl; omega; exact rfl; exact rfl)
            | (apply wn; exact rfl; exact rfl)
            | (apply wlb (j := 0); exact rfl; exact rfl; exact rfl; exact rfl; exact rfl; exact rfl)
            | (apply wlb (j := 1); exact rfl; exact rfl; exact rfl; exact rfl; exact rfl; exact rfl)
            | (apply wlb (j := 2); exact rfl; exact rfl; exact rfl; exact rfl; exact rfl; exact rfl)
            | (apply wlb (j := 3); exact rfl; exact rfl; exact rfl; exact rfl; exact rfl; exact rfl)
            | (apply wln; exact rfl; exact rfl; exact rfl; exact rfl)
            | (apply wpu; exact rfl; exact rfl; exact rfl)
            | (apply wbx; exact rfl; exact rfl; exact rfl; intro _)
            | refine wc_block ?_
            | (apply wc_true; exact rfl)
            | (apply wc_false; exact rfl)
            | refine wc_skip ?_
            | refine wc_exit ?_
            | refine wc_ret ?_
            | refine we_then_exit ?_
            | refine we_then_ret ?_
            | refine we_in_normal ?_
            | refine we_in_ret ?_
            | refine we_in_here ?_
            | (apply we_in_there; exact rfl))
          exact we_ret2 (Or.inl rfl) rfl rfl rfl fun w' h => ⟨rfl, h.ext_all⟩
    · obtain ⟨y, b, o, hy, ea, oky, hcy⟩ := h.get 0 (by omega)
      subst ea
      have hy0 := hcy 0 _ rfl
      have hoff : offB xs node = decide (node ≠ y.node) := by unfold offB; rw [hy]
      rw [hoff] at hE
      generalize xs.length = m at *
      generalize data.length = dl at *
      by_cases n1 : node < 0
      · rw [if_pos (Or.inl n1)] at hE
        subst hE
        repeat (first
          | (apply ws; exact rfl; exact rfl; exact rfl)
          | (apply wq Tryd.call48; exact rfl; exact rfl; exact rfl; exact (fun w' hw => k1 w' hw.ext_all))
          | refine wl_still rfl rfl rfl (od_indexAddr 0 rfl rfl rfl rfl rfl (by omega)) ?_
          | (apply wlo; exact rfl; exact rfl; exact hy0; exact List.not_mem_nil; exact rfl; exact rfl)
          | refine wc_seq ?_
          | refine wc_region ?_
          | refine wl_nil ?_
          | refine we_round ?_
          | refine we_then_wc ?_
          | (apply wi64; exact rfl; omega; omega; exact rfl; exact rfl)
          | (apply wfa; exact rfl; exact rfl; exact rfl; exact rfl)
          | (apply wct; exact rfl; omega; exact rfl; exact rfl)
          | (apply wcf; exact rfl; omega; exact rfl; exact rfl)
          | (apply wn; exact rfl; exact rfl)
          | (apply wlb (j := 0); exact rfl; exact rfl; exact rfl; exact rfl; exact rfl; exact rfl)
          | (apply wlb (j := 1); exact rfl; exact rfl; exact rfl; exact rfl; exact rfl; exact rfl)
          | (apply wlb (j := 2); exact rfl; exact rfl; exact rfl; exact rfl; exact rfl; exact rfl)
          | (apply wlb (j := 3); exact rfl; exact rfl; exact rfl; exact rfl; exact rfl; exact rfl)
          | (apply wln; exact rfl; exact rfl; exact rfl; exact rfl)
          | (apply wpu; exact rfl; exact rfl; exact rfl)
          | (apply wbx; exact rfl; exact rfl; exact rfl; intro _)
          | refine wc_block ?_
          | (apply wc_true; exact rfl)
          | (apply wc_false; exact rfl)
          | refine wc_skip ?_
          | refine wc_exit ?_
          | refine wc_ret ?_
          | refine we_then_exit ?_
          | refine we_then_ret ?_
          | refine we_in_normal ?_
          | refine we_in_ret ?_
          | refine we_in_here ?_
          | (apply we_in_there; exact rfl))
        exact we_ret2 (Or.inl rfl) rfl rfl rfl fun w' h => ⟨rfl, h.ext_all⟩
      · by_cases n2 : 24 ≤ node
        · rw [if_pos (Or.inr (Or.inl n2))] at hE
          subst hE
          repeat (first
            | (apply ws; exact rfl; exact rfl; exact rfl)
            | (apply wq Tryd.call48; exact rfl; exact rfl; exact rfl; exact (fun w' hw => k1 w' hw.ext_all))
            | refine wl_still rfl rfl rfl (od_indexAddr 0 rfl rfl rfl rfl rfl (by omega)) ?_
            | (apply wlo; exact rfl; exact rfl; exact hy0; exact List.not_mem_nil; exact rfl; exact rfl)
            | refine wc_seq ?_
            | refine wc_region ?_
            | refine wl_nil ?_
            | refine we_round ?_
            | refine we_then_wc ?_
            | (apply wi64; exact rfl; omega; omega; exact rfl; exact rfl)
            | (apply wfa; exact rfl; exact rfl; exact rfl; exact rfl)
            | (apply wct; exact rfl; omega; exact rfl; exact rfl)
            | (apply wcf; exact rfl; omega; exact rfl; exact rfl)
            | (apply wn; exact rfl; exact rfl)
            | (apply wlb (j := 0); exact rfl; exact rfl; exact rfl; exact rfl; exact rfl; exact rfl)
            | (apply wlb (j := 1); exact rfl; exact rfl; exact rfl; exact rfl; exact rfl; exact rfl)
            | (apply wlb (j := 2); exact rfl; exact rfl; exact rfl; exact rfl; exact rfl; exact rfl)
            | (apply wlb (j := 3); exact rfl; exact rfl; exact rfl; exact rfl; exact rfl; exact rfl)
            | (apply wln; exact rfl; exact rfl; exact rfl; exact rfl)
            | (apply wpu; exact rfl; exact rfl; exact rfl)
            | (apply wbx; exact rfl; exact rfl; exact rfl; intro _)
            | refine wc_block ?_
            | (apply wc_true; exact rfl)
            | (apply wc_false; exact rfl)
            | refine wc_skip ?_
            | refine wc_exit ?_
            | refine wc_ret ?_
            | refine we_then_exit ?_
            | refine we_then_ret ?_
            | refine we_in_normal ?_
            | refine we_in_ret ?_
            | refine we_in_here ?_
            | (apply we_in_there; exact rfl))
          exact we_ret2 (Or.inl rfl) rfl rfl rfl fun w' h => ⟨rfl, h.ext_all⟩
        · by_cases n3 : node = y.node
          · by_cases n4 : 65536 < dl
            · rw [if_pos (Or.inr (Or.inr (Or.inr n4)))] at hE
              subst hE
              repeat (first
                | (apply ws; exact rfl; exact rfl; exact rfl)
                | (apply wq Tryd.call48; exact rfl; exact rfl; exact rfl; exact (fun w' hw => k1 w' hw.ext_all))
                | refine wl_still rfl rfl rfl (od_indexAddr 0 rfl rfl rfl rfl rfl (by omega)) ?_
                | (apply wlo; exact rfl; exact rfl; exact hy0; exact List.not_mem_nil; exact rfl; exact rfl)
                | refine wc_seq ?_
                | refine wc_region ?_
                | refine wl_nil ?_
                | refine we_round ?_
                | refine we_then_wc ?_
                | (apply wi64; exact rfl; omega; omega; exact rfl; exact rfl)
                | (apply wfa; exact rfl; exact rfl; exact rfl; exact rfl)
                | (apply wct; exact rfl; omega; exact rfl; exact rfl)
                | (apply wcf; exact rfl; omega; exact rfl; exact rfl)
                | (apply wn; exact rfl; exact rfl)
                | (apply wlb (j := 0); exact rfl; exact rfl; exact rfl; exact rfl; exact rfl; exact rfl)
                | (apply wlb (j := 1); exact rfl; exact rfl; exact rfl; exact rfl; exact rfl; exact rfl)
                | (apply wlb (j := 2); exact rfl; exact rfl; exact rfl; exact rfl; exact rfl; exact rfl)
                | (apply wlb (j := 3); exact rfl; exact rfl; exact rfl; exact rfl; exact rfl; exact rfl)
                | (apply wln; exact rfl; exact rfl; exact rfl; exact rfl)
                | (apply wpu; exact rfl; exact rfl; exact rfl)
                | (apply wbx; exact rfl; exact rfl; exact rfl; intro _)
                | refine wc_block ?_
                | (apply wc_true; exact rfl)
                | (apply wc_false; exact rfl)
                | refine wc_skip ?_
                | refine wc_exit ?_
                | refine wc_ret ?_
                | refine we_then_exit ?_
                | refine we_then_ret ?_
                | refine we_in_normal ?_
                | refine we_in_ret ?_
                | refine we_in_here ?_
                | (apply we_in_there; exact rfl))
              exact we_ret2 (Or.inl rfl) rfl rfl rfl fun w' h => ⟨rfl, h.ext_all⟩
            · rw [if_neg (by simp [n3] at n1 n2 ⊢; omega)] at hE
              have n5 : m = 1024 := by
                by_cases n5 : m = 1024
                · exact n5
                · rw [if_neg n5] at hE; exact absurd hE.symm h0
              rw [if_pos n5] at hE
              subst hE
              repeat (first
                | (apply ws; exact rfl; exact rfl; exact rfl)
                | (apply wq Tryd.call48; exact rfl; exact rfl; exact rfl; exact (fun w' hw => k1 w' hw.ext_all))
                | refine wl_still rfl rfl rfl (od_indexAddr 0 rfl rfl rfl rfl rfl (by omega)) ?_
                | (apply wlo; exact rfl; exact rfl; exact hy0; exact List.not_mem_nil; exact rfl; exact rfl)
                | refine wc_seq ?_
                | refine wc_region ?_
                | refine wl_nil ?_
                | refine we_round ?_
                | refine we_then_wc ?_
                | (apply wi64; exact rfl; omega; omega; exact rfl; exact rfl)
                | (apply wfa; exact rfl; exact rfl; exact rfl; exact rfl)
                | (apply wct; exact rfl; omega; exact rfl; exact rfl)
                | (apply wcf; exact rfl; omega; exact rfl; exact rfl)
                | (apply wn; exact rfl; exact rfl)
                | (apply wlb (j := 0); exact rfl; exact rfl; exact rfl; exact rfl; exact rfl; exact rfl)
                | (apply wlb (j := 1); exact rfl; exact rfl; exact rfl; exact rfl; exact rfl; exact rfl)
                | (apply wlb (j := 2); exact rfl; exact rfl; exact rfl; exact rfl; exact rfl; exact rfl)
                | (apply wlb (j := 3); exact rfl; exact rfl; exact rfl; exact rfl; exact rfl; exact rfl)
                | (apply wln; exact rfl; exact rfl; exact rfl; exact rfl)
                | (apply wpu; exact rfl; exact rfl; exact rfl)
                | (apply wbx; exact rfl; exact rfl; exact rfl; intro _)
                | refine wc_block ?_
                | (apply wc_true; exact rfl)
                | (apply wc_false; exact rfl)
                | refine wc_skip ?_
                | refine wc_exit ?_
                | refine wc_ret ?_
                | refine we_then_exit ?_
                | refine we_then_ret ?_
                | refine we_in_normal ?_
                | refine we_in_ret ?_
                | refine we_in_here ?_
                | (apply we_in_there; exact rfl))
              exact we_ret2 (Or.inl rfl) rfl rfl rfl fun w' h => ⟨rfl, h.ext_all⟩
          · rw [if_pos (Or.inr (Or.inr (Or.inl (by simpa using n3))))] at hE
            subst hE
            repeat (first
              | (apply ws; exact rfl; exact rfl; exact rfl)
              | (apply wq Tryd.call48; exact rfl; exact rfl; exact rfl; exact (fun w' hw => k1 w' hw.ext_all))
              | refine wl_still rfl rfl rfl (od_indexAddr 0 rfl rfl rfl rfl rfl (by omega)) ?_
              | (apply wlo; exact rfl; exact rfl; exact hy0; exact List.not_mem_nil; exact rfl; exact rfl)
              | refine wc_seq ?_
              | refine wc_region ?_
              | refine wl_nil ?_
              | refine we_round ?_
              | refine we_then_wc ?_
              | (apply wi64; exact rfl; omega; omega; exact rfl; exact rfl)
              | (apply wfa; exact rfl; exact rfl; exact rfl; exact rfl)
              | (apply wct; exact rfl; omega; exact rfl; exact rfl)
              | (apply wcf; exact rfl; omega; exact rfl; exact rfl)
              | (apply wn; exact rfl; exact rfl)
              | (apply wlb (j := 0); exact rfl; exact rfl; exact rfl; exact rfl; exact rfl; exact rfl)
              | (apply wlb (j := 1); exact rfl; exact rfl; exact rfl; exact rfl; exact rfl; exact rfl)
              | (apply wlb (j := 2); exact rfl; exact rfl; exact rfl; exact rfl; exact rfl; exact rfl)
              | (apply wlb (j := 3); exact rfl; exact rfl; exact rfl; exact rfl; exact rfl; exact rfl)
              | (apply wln; exact rfl; exact rfl; exact rfl; exact rfl)
              | (apply wpu; exact rfl; exact rfl; exact rfl)
              | (apply wbx; exact rfl; exact rfl; exact rfl; intro _)
              | refine wc_block ?_
              | (apply wc_true; exact rfl)
              | (apply wc_false; exact rfl)
              | refine wc_skip ?_
              | refine wc_exit ?_
              | refine wc_ret ?_
              | refine we_then_exit ?_
              | refine we_then_ret ?_
              | refine we_in_normal ?_
              | refine we_in_ret ?_
              | refine we_in_here ?_
              | (apply we_in_there; exact rfl))
            exact we_ret2 (Or.inl rfl) rfl rfl rfl fun w' h => ⟨rfl, h.ext_all⟩
  · rw [if_neg c1] at hE
    rw [hE] at k1
    generalize xs.length = m at *
    have hy0 : True := trivial
    repeat (first
      | (apply ws; exact rfl; exact rfl; exact rfl)
      | (apply wq Tryd.call48; exact rfl; exact rfl; exact rfl; exact (fun w' hw => k1 w' hw.ext_all))
      | refine wc_seq ?_
      | refine wc_region ?_
      | refine wl_nil ?_
      | refine we_round ?_
      | refine we_then_wc ?_
      | (apply wi64; exact rfl; omega; omega; exact rfl; exact rfl)
      | (apply wfa; exact rfl; exact rfl; exact rfl; exact rfl)
      | (apply wct; exact rfl; omega; exact rfl; exact rfl)
      | (apply wcf; exact rfl; omega; exact rfl; exact rfl)
      | (apply wn; exact rfl; exact rfl)
      | (apply wlb (j := 0); exact rfl; exact rfl; exact rfl; exact rfl; exact rfl; exact rfl)
      | (apply wlb (j := 1); exact rfl; exact rfl; exact rfl; exact rfl; exact rfl; exact rfl)
      | (apply wlb (j := 2); exact rfl; exact rfl; exact rfl; exact rfl; exact rfl; exact rfl)
      | (apply wlb (j := 3); exact rfl; exact rfl; exact rfl; exact rfl; exact rfl; exact rfl)
      | (apply wln; exact rfl; exact rfl; exact rfl; exact rfl)
      | (apply wpu; exact rfl; exact rfl; exact rfl)
      | (apply wbx; exact rfl; exact rfl; exact rfl; intro _)
      | refine wc_block ?_
      | (apply wc_true; exact rfl)
      | (apply wc_false; exact rfl)
      | refine wc_skip ?_
      | refine wc_exit ?_
      | refine wc_ret ?_
      | refine we_then_exit ?_
      | refine we_then_ret ?_
      | refine we_in_normal ?_
      | refine we_in_ret ?_
      | refine we_in_here ?_
      | (apply we_in_there; exact rfl))
    exact we_ret2 (Or.inl rfl) rfl rfl rfl fun w' h => ⟨rfl, h.ext_all⟩

theorem ref_Add_ok (a : Option Addr) (c : Nat) (xs : List Lnk) (node : Int) (da : Option Addr) (dc : Nat) (data : List UInt8) (hs : smallP xs) (hnode : in64 node) (w : World) (h : LkA w a c xs) (hdata : ByA w da dc data) (hE : addE xs node data.length = 0) :
    Fn 26 [.slice a xs.length c, .int .i64 node, .slice da data.length dc] w (AddOk xs node data w) := by
  refine fn_of (args := [.slice a xs.length c, .int .i64 node, .slice da data.length dc]) Tryd.func26 rfl Tryd.ntmps26 rfl (Hp.start w) ?_
  obtain ⟨c1, n1, n2, n3, n4, n5⟩ := addE_zero hE
  have k1 : ∀ w', Ext w w' → Fn 48 [.slice a xs.length c] w' (Quiet (.int .i64 0) w') := fun w' e => c1 ▸ ref_Check a c xs hs w' (h.ext e)
  have k2 : ∀ w', Ext w w' → Fn 49 [.slice a xs.length c] w' (Quiet (digV (headP xs)) w') := fun w' e => ref_Head a c xs hs w' (h.ext e)
  have hp32 := headP_length xs
  have hxs := hs.1
  have hsrc : ∀ w', Ext w w' → Src w' (.slice a xs.length c) 35 xs.length (xs.flatMap Lnk.cells) := fun w' e => (h.ext e).src
  have hfl := flat_len xs (fun y hy => (h.ok hy).len)
  have hpf := plain_flat xs
  have hcc := h.1
  have hno : in64 (xs.length : Int) := by unfold in64; omega
  generalize hph : headP xs = hp at *
  have hoff : ∀ y, xs[0]? = some y → y.node = node := fun y hy => by
    unfold offB at n3
    rw [hy] at n3
    simp only [decide_eq_false_iff_not, ne_eq, Decidable.not_not] at n3
    exact n3.symm
  have hallok : ∀ y ∈ xs, y.ok w := fun y hy => h.ok hy
  obtain ⟨X, hX⟩ : ∃ X : Lnk, X = { node := node, no := (xs.length : Int), prev := hp, data := data, da := da, dc := dc } := ⟨_, rfl⟩
  have hxl : X.cells.length = 35 := by rw [hX]; simp [Lnk.cells, hp32]
  have hpX := plainLnk X
  have hfill := fill_lnk node (xs.length : Int) hp da dc data hp32
  rw [← hX] at hfill
  obtain ⟨m, hm⟩ : ∃ m : Nat, xs.length = m := ⟨_, rfl⟩
  rw [hm] at k1 k2 hsrc hfl n5 hxs hcc hno hfill ⊢
  by_cases hx0 : m = 0
  · repeat (first
      | (apply ws; exact rfl; exact rfl; exact rfl)
      | (apply wq Tryd.call48; exact rfl; exact rfl; exact rfl; exact (fun w' hw => k1 w' hw.ext_all))
      | refine wc_seq ?_
      | refine wc_region ?_
      | refine wl_nil ?_
      | refine we_round ?_
      | refine we_then_wc ?_
      | (apply wi64; exact rfl; omega; omega; exact rfl; exact rfl)
      | (apply wfa; exact rfl; exact rfl; exact rfl; exact rfl)
      | (apply wct; exact rfl; omega; exact rfl; exact rfl)
      | (apply wcf; exact rfl; omega; exact rfl; exact rfl)
      | (apply wn; exact rfl; exact rfl)
      | (apply wlb (j := 0); exact rfl; exact rfl; exact rfl; exact rfl; exact rfl; exact rfl)
      | (apply wlb (j := 1); exact rfl; exact rfl; exact rfl; exact rfl; exact rfl; exact rfl)
      | (apply wlb (j := 2); exact rfl; exact rfl; exact rfl; exact rfl; exact rfl; exact rfl)
      | (apply wlb (j := 3); exact rfl; exact rfl; exact rfl; exact rfl; exact rfl; exact rfl)
      | (apply wln; exact rfl; exact rfl; exact rfl; exact rfl)
      | (apply wpu; exact rfl; exact rfl; exact rfl)
      | (apply wbx; exact rfl; exact rfl; exact rfl; intro _)
      | refine wc_block ?_
      | (apply wc_true; exact rfl)
      | (apply wc_false; exact rfl)
      | refine wc_skip ?_
      | refine wc_exit ?_
      | refine wc_ret ?_
      | refine we_then_exit ?_
      | refine we_then_ret ?_
      | refine we_in_normal ?_
      | refine we_in_ret ?_
      | refine we_in_here ?_
      | (apply we_in_there; exact rfl))
    refine wl_makes rfl rfl rfl (od_buildSlice (cs := []) rfl rfl ⟨_, zero55⟩ rfl rfl rfl (by simp) (by omega) rfl) ?_
    rintro _ b0 -
    repeat (first
      | (apply ws; exact rfl; exact rfl; exact rfl)
      | refine wc_seq ?_
      | refine wc_region ?_
      | refine wl_nil ?_
      | refine we_round ?_
      | refine we_then_wc ?_
      | (apply wi64; exact rfl; omega; omega; exact rfl; exact rfl)
      | (apply wfa; exact rfl; exact rfl; exact rfl; exact rfl)
      | (apply wct; exact rfl; omega; exact rfl; exact rfl)
      | (apply wcf; exact rfl; omega; exact rfl; exact rfl)
      | (apply wn; exact rfl; exact rfl)
      | (apply wlb (j := 0); exact rfl; exact rfl; exact rfl; exact rfl; exact rfl; exact rfl)
      | (apply wlb (j := 1); exact rfl; exact rfl; exact rfl; exact rfl; exact rfl; exact rfl)
      | (apply wlb (j := 2); exact rfl; exact rfl; exact rfl; exact rfl; exact rfl; exact rfl)
      | (apply wlb (j := 3); exact rfl; exact rfl; exact rfl; exact rfl; exact rfl; exact rfl)
      | (apply wln; exact rfl; exact rfl; exact rfl; exact rfl)
      | (apply wpu; exact rfl; exact rfl; exact rfl)
      | (apply wbx; exact rfl; exact rfl; exact rfl; intro _)
      | refine wc_block ?_
      | (apply wc_true; exact rfl)
      | (apply wc_false; exact rfl)
      | refine wc_skip ?_
      | refine wc_exit ?_
      | refine wc_ret ?_
      | refine we_then_exit ?_
      | refine we_then_ret ?_
      | refine we_in_normal ?_
      | refine we_in_ret ?_
      | refine we_in_here ?_
      | (apply we_in_there; exact rfl))
    refine wl_moves 0 rfl rfl rfl rfl (od_append (n := 0) (m := m) (cap := 0) (xs := []) (sp := []) (news := xs.flatMap Lnk.cells) 0 rfl rfl rfl elem55 rfl rfl (by simp) rfl (by simp) (fun w' hw => hsrc w' hw.ext_all) hfl hpf (by omega) (by simp only [maxLen]; omega)) ?_
    rintro ⟨c2, sp2⟩ b2 ⟨e1, e2⟩
    simp only [List.nil_append, Nat.zero_add] at e1 e2
    dsimp only
    rw [List.nil_append, Nat.zero_add]
    repeat (first
      | (apply ws; exact rfl; exact rfl; exact rfl)
      | (apply wq Tryd.call49; exact rfl; exact rfl; exact rfl; exact (fun w' hw => k2 w' hw.ext_all))
      | refine wl_still rfl rfl rfl (od_struct zLnk.cells X.cells rfl rfl zero55 rfl hfill) ?_
      | refine wc_seq ?_
      | refine wc_region ?_
      | refine wl_nil ?_
      | refine we_round ?_
      | refine we_then_wc ?_
      | (apply wi64; exact rfl; omega; omega; exact rfl; exact rfl)
      | (apply wfa; exact rfl; exact rfl; exact rfl; exact rfl)
      | (apply wct; exact rfl; omega; exact rfl; exact rfl)
      | (apply wcf; exact rfl; omega; exact rfl; exact rfl)
      | (apply wn; exact rfl; exact rfl)
      | (apply wlb (j := 0); exact rfl; exact rfl; exact rfl; exact rfl; exact rfl; exact rfl)
      | (apply wlb (j := 1); exact rfl; exact rfl; exact rfl; exact rfl; exact rfl; exact rfl)
      | (apply wlb (j := 2); exact rfl; exact rfl; exact rfl; exact rfl; exact rfl; exact rfl)
      | (apply wlb (j := 3); exact rfl; exact rfl; exact rfl; exact rfl; exact rfl; exact rfl)
      | (apply wln; exact rfl; exact rfl; exact rfl; exact rfl)
      | (apply wpu; exact rfl; exact rfl; exact rfl)
      | (apply wbx; exact rfl; exact rfl; exact rfl; intro _)
      | refine wc_block ?_
      | (apply wc_true; exact rfl)
      | (apply wc_false; exact rfl)
      | refine wc_skip ?_
      | refine wc_exit ?_
      | refine wc_ret ?_
      | refine we_then_exit ?_
      | refine we_then_ret ?_
      | refine we_in_normal ?_
      | refine we_in_ret ?_
      | refine we_in_here ?_
      | (apply we_in_there; exact rfl))
    refine wl_makes rfl rfl rfl (od_buildSlice (cs := X.cells) rfl rfl ⟨_, zero55⟩ rfl rfl rfl (by simp [Value.cells, hxl]) (by omega) (by simp [Value.cells])) ?_
    rintro _ b3 -
    refine wl_moves 1 rfl rfl rfl rfl (od_append (n := m) (m := 1) (cap := c2) (xs := xs.flatMap Lnk.cells) (sp := sp2) (news := X.cells) 1 rfl rfl rfl elem55 rfl rfl (by simp) hfl e2 (fun w' hw => Src.cells (by rw [hxl]) (fun i v hv => by rw [Nat.zero_add]; exact hw.cell_blk (j := 0) rfl hv)) (by rw [hxl]) hpX (by omega) (by simp only [maxLen]; omega)) ?_
    rintro ⟨c4, sp4⟩ b4 ⟨e3, e4⟩
    simp only at e3 e4
    dsimp only
    repeat (first
      | (apply ws; exact rfl; exact rfl; exact rfl)
      | refine wc_seq ?_
      | refine wc_region ?_
      | refine wl_nil ?_
      | refine we_round ?_
      | refine we_then_wc ?_
      | (apply wi64; exact rfl; omega; omega; exact rfl; exact rfl)
      | (apply wfa; exact rfl; exact rfl; exact rfl; exact rfl)
      | (apply wct; exact rfl; omega; exact rfl; exact rfl)
      | (apply wcf; exact rfl; omega; exact rfl; exact rfl)
      | (apply wn; exact rfl; exact rfl)
      | (apply wlb (j := 0); exact rfl; exact rfl; exact rfl; exact rfl; exact rfl; exact rfl)
      | (apply wlb (j := 1); exact rfl; exact rfl; exact rfl; exact rfl; exact rfl; exact rfl)
      | (apply wlb (j := 2); exact rfl; exact rfl; exact rfl; exact rfl; exact rfl; exact rfl)
      | (apply wlb (j := 3); exact rfl; exact rfl; exact rfl; exact rfl; exact rfl; exact rfl)
      | (apply wln; exact rfl; exact rfl; exact rfl; exact rfl)
      | (apply wpu; exact rfl; exact rfl; exact rfl)
      | (apply wbx; exact rfl; exact rfl; exact rfl; intro _)
      | refine wc_block ?_
      | (apply wc_true; exact rfl)
      | (apply wc_false; exact rfl)
      | refine wc_skip ?_
      | refine wc_exit ?_
      | refine wc_ret ?_
      | refine we_then_exit ?_
      | refine we_then_ret ?_
      | refine we_in_normal ?_
      | refine we_in_ret ?_
      | refine we_in_here ?_
      | (apply we_in_there; exact rfl))
    refine we_ret2 (Or.inl rfl) rfl rfl rfl fun w' h' => ?_
    subst hm
    subst hX
    exact add_end (sp := sp4) h'.ext_all (h'.at (j := 0) rfl).2 e3 hallok ⟨hnode, hno, hp32, hdata.ext h'.ext_all⟩ rfl rfl hph.symm rfl
  · obtain ⟨y, b, o, hy, ea, oky, hcy⟩ := h.get 0 (by omega)
    subst ea
    have hy0 := hcy 0 _ rfl
    have hyn := hoff y hy
    repeat (first
      | (apply ws; exact rfl; exact rfl; exact rfl)
      | (apply wq Tryd.call48; exact rfl; exact rfl; exact rfl; exact (fun w' hw => k1 w' hw.ext_all))
      | refine wl_still rfl rfl rfl (od_indexAddr 0 rfl rfl rfl rfl rfl (by omega)) ?_
      | (apply wlo; exact rfl; exact rfl; exact hy0; exact List.not_mem_nil; exact rfl; exact rfl)
      | refine wc_seq ?_
      | refine wc_region ?_
      | refine wl_nil ?_
      | refine we_round ?_
      | refine we_then_wc ?_
      | (apply wi64; exact rfl; omega; omega; exact rfl; exact rfl)
      | (apply wfa; exact rfl; exact rfl; exact rfl; exact rfl)
      | (apply wct; exact rfl; omega; exact rfl; exact rfl)
      | (apply wcf; exact rfl; omega; exact rfl; exact rfl)
      | (apply wn; exact rfl; exact rfl)
      | (apply wlb (j := 0); exact rfl; exact rfl; exact rfl; exact rfl; exact rfl; exact rfl)
      | (apply wlb (j := 1); exact rfl; exact rfl; exact rfl; exact rfl; exact rfl; exact rfl)
      | (apply wlb (j := 2); exact rfl; exact rfl; exact rfl; exact rfl; exact rfl; exact rfl)
      | (apply wlb (j := 3); exact rfl; exact rfl; exact rfl; exact rfl; exact rfl; exact rfl)
      | (apply wln; exact rfl; exact rfl; exact rfl; exact rfl)
      | (apply wpu; exact rfl; exact rfl; exact rfl)
      | (apply wbx; exact rfl; exact rfl; exact rfl; intro _)
      | refine wc_block ?_
      | (apply wc_true; exact rfl)
      | (apply wc_false; exact rfl)
      | refine wc_skip ?_
      | refine wc_exit ?_
      | refine wc_ret ?_
      | refine we_then_exit ?_
      | refine we_then_ret ?_
      | refine we_in_normal ?_
      | refine we_in_ret ?_
      | refine we_in_here ?_
      | (apply we_in_there; exact rfl))
    refine wl_makes rfl rfl rfl (od_buildSlice (cs := []) rfl rfl ⟨_, zero55⟩ rfl rfl rfl (by simp) (by omega) rfl) ?_
    rintro _ b0 -
    repeat (first
      | (apply ws; exact rfl; exact rfl; exact rfl)
      | refine wc_seq ?_
      | refine wc_region ?_
      | refine wl_nil ?_
      | refine we_round ?_
      | refine we_then_wc ?_
      | (apply wi64; exact rfl; omega; omega; exact rfl; exact rfl)
      | (apply wfa; exact rfl; exact rfl; exact rfl; exact rfl)
      | (apply wct; exact rfl; omega; exact rfl; exact rfl)
      | (apply wcf; exact rfl; omega; exact rfl; exact rfl)
      | (apply wn; exact rfl; exact rfl)
      | (apply wlb (j := 0); exact rfl; exact rfl; exact rfl; exact rfl; exact rfl; exact rfl)
      | (apply wlb (j := 1); exact rfl; exact rfl; exact rfl; exact rfl; exact rfl; exact rfl)
      | (apply wlb (j := 2); exact rfl; exact rfl; exact rfl; exact rfl; exact rfl; exact rfl)
      | (apply wlb (j := 3); exact rfl; exact rfl; exact rfl; exact rfl; exact rfl; exact rfl)
      | (apply wln; exact rfl; exact rfl; exact rfl; exact rfl)
      | (apply wpu; exact rfl; exact rfl; exact rfl)
      | (apply wbx; exact rfl; exact rfl; exact rfl; intro _)
      | refine wc_block ?_
      | (apply wc_true; exact rfl)
      | (apply wc_false; exact rfl)
      | refine wc_skip ?_
      | refine wc_exit ?_
      | refine wc_ret ?_
      | refine we_then_exit ?_
      | refine we_then_ret ?_
      | refine we_in_normal ?_
      | refine we_in_ret ?_
      | refine we_in_here ?_
      | (apply we_in_there; exact rfl))
    refine wl_moves 0 rfl rfl rfl rfl (od_append (n := 0) (m := m) (cap := 0) (xs := []) (sp := []) (news := xs.flatMap Lnk.cells) 0 rfl rfl rfl elem55 rfl rfl (by simp) rfl (by simp) (fun w' hw => hsrc w' hw.ext_all) hfl hpf (by omega) (by simp only [maxLen]; omega)) ?_
    rintro ⟨c2, sp2⟩ b2 ⟨e1, e2⟩
    simp only [List.nil_append, Nat.zero_add] at e1 e2
    dsimp only
    rw [List.nil_append, Nat.zero_add]
    repeat (first
      | (apply ws; exact rfl; exact rfl; exact rfl)
      | (apply wq Tryd.call49; exact rfl; exact rfl; exact rfl; exact (fun w' hw => k2 w' hw.ext_all))
      | refine wl_still rfl rfl rfl (od_struct zLnk.cells X.cells rfl rfl zero55 rfl hfill) ?_
      | refine wc_seq ?_
      | refine wc_region ?_
      | refine wl_nil ?_
      | refine we_round ?_
      | refine we_then_wc ?_
      | (apply wi64; exact rfl; omega; omega; exact rfl; exact rfl)
      | (apply wfa; exact rfl; exact rfl; exact rfl; exact rfl)
      | (apply wct; exact rfl; omega; exact rfl; exact rfl)
      | (apply wcf; exact rfl; omega; exact rfl; exact rfl)
      | (apply wn; exact rfl; exact rfl)
      | (apply wlb (j := 0); exact rfl; exact rfl; exact rfl; exact rfl; exact rfl; exact rfl)
      | (apply wlb (j := 1); exact rfl; exact rfl; exact rfl; exact rfl; exact rfl; exact rfl)
      | (apply wlb (j := 2); exact rfl; exact rfl; exact rfl; exact rfl; exact rfl; exact rfl)
      | (apply wlb (j := 3); exact rfl; exact rfl; exact rfl; exact rfl; exact rfl; exact rfl)
      | (apply wln; exact rfl; exact rfl; exact rfl; exact rfl)
      | (apply wpu; exact rfl; exact rfl; exact rfl)
      | (apply wbx; exact rfl; exact rfl; exact rfl; intro _)
      | refine wc_block ?_
      | (apply wc_true; exact rfl)
      | (apply wc_false; exact rfl)
      | refine wc_skip ?_
      | refine wc_exit ?_
      | refine wc_ret ?_
      | refine we_then_exit ?_
      | refine we_then_ret ?_
      | refine we_in_normal ?_
      | refine we_in_ret ?_
      | refine we_in_here ?_
      | (apply we_in_there; exact rfl))
    refine wl_makes rfl rfl rfl (od_buildSlice (cs := X.cells) rfl rfl ⟨_, zero55⟩ rfl rfl rfl (by simp [Value.cells, hxl]) (by omega) (by simp [Value.cells])) ?_
    rintro _ b3 -
    refine wl_moves 1 rfl rfl rfl rfl (od_append (n := m) (m := 1) (cap := c2) (xs := xs.flatMap Lnk.cells) (sp := sp2) (news := X.cells) 1 rfl rfl rfl elem55 rfl rfl (by simp) hfl e2 (fun w' hw => Src.cells (by rw [hxl]) (fun i v hv => by rw [Nat.zero_add]; exact hw.cell_blk (j := 0) rfl hv)) (by rw [hxl]) hpX (by omega) (by simp only [maxLen]; omega)) ?_
    rintro ⟨c4, sp4⟩ b4 ⟨e3, e4⟩
    simp only at e3 e4
    dsimp only
    repeat (first
      | (apply ws; exact rfl; exact rfl; exact rfl)
      | refine wc_seq ?_
      | refine wc_region ?_
      | refine wl_nil ?_
      | refine we_round ?_
      | refine we_then_wc ?_
      | (apply wi64; exact rfl; omega; omega; exact rfl; exact rfl)
      | (apply wfa; exact rfl; exact rfl; exact rfl; exact rfl)
      | (apply wct; exact rfl; omega; exact rfl; exact rfl)
      | (apply wcf; exact rfl; omega; exact rfl; exact rfl)
      | (apply wn; exact rfl; exact rfl)
      | (apply wlb (j := 0); exact rfl; exact rfl; exact rfl; exact rfl; exact rfl; exact rfl)
      | (apply wlb (j := 1); exact rfl; exact rfl; exact rfl; exact rfl; exact rfl; exact rfl)
      | (apply wlb (j := 2); exact rfl; exact rfl; exact rfl; exact rfl; exact rfl; exact rfl)
      | (apply wlb (j := 3); exact rfl; exact rfl; exact rfl; exact rfl; exact rfl; exact rfl)
      | (apply wln; exact rfl; exact rfl; exact rfl; exact rfl)
      | (apply wpu; exact rfl; exact rfl; exact rfl)
      | (apply wbx; exact rfl; exact rfl; exact rfl; intro _)
      | refine wc_block ?_
      | (apply wc_true; exact rfl)
      | (apply wc_false; exact rfl)
      | refine wc_skip ?_
      | refine wc_exit ?_
      | refine wc_ret ?_
      | refine we_then_exit ?_
      | refine we_then_ret ?_
      | refine we_in_normal ?_
      | refine we_in_ret ?_
      | refine we_in_here ?_
      | (apply we_in_there; exact rfl))
    refine we_ret2 (Or.inl rfl) rfl rfl rfl fun w' h' => ?_
    subst hm
    subst hX
    exact add_end (sp := sp4) h'.ext_all (h'.at (j := 0) rfl).2 e3 hallok ⟨hnode, hno, hp32, hdata.ext h'.ext_all⟩ rfl rfl hph.symm rfl
end Go.Proofs.YtielloijdkoeiaaDoor
