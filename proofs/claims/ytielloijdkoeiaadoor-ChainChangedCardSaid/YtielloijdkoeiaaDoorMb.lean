/- The statement of chapter 8: chains with one head are equal, or two different texts have one digest. -/
import Derived.Test.YtielloijdkoeiaaDoorMa
import Derived.Test.YtielloijdkoeiaaDoorPc
namespace Go.Proofs.YtielloijdkoeiaaDoor
open Go Go.RowKit Go.Lib
set_option maxRecDepth 100000

/-- Two lists whose last links have other texts, and one head. -/
def clashB (xs ys : List Lnk) : Bool :=
  match xs.getLast?, ys.getLast? with
  | some x, some y => decide (textB x ≠ textB y) && decide (headP xs = headP ys)
  | _, _ => false

theorem law_clash (a a' : Option Addr) (c c' : Nat) (xs ys : List Lnk) (hs : smallP xs) (hs' : smallP ys) (h0 : xs ≠ []) (h0' : ys ≠ []) (w : World) (hL : Laid w) (h : LkA w a c xs) (h' : LkA w a' c' ys) :
    Fn 32 [.slice a xs.length c, .slice a' ys.length c'] w (Quiet (.bool (clashB xs ys)) w) := by
  refine fn_of (args := [.slice a xs.length c, .slice a' ys.length c']) Tryd.func32 rfl Tryd.ntmps32 rfl (Hp.start w) ?_
  obtain ⟨x, hx⟩ : ∃ x, xs.getLast? = some x := ⟨_, List.getLast?_eq_some_getLast h0⟩
  obtain ⟨y, hy⟩ : ∃ y, ys.getLast? = some y := ⟨_, List.getLast?_eq_some_getLast h0'⟩
  have hxm : x ∈ xs := List.mem_of_getLast? hx
  have hym : y ∈ ys := List.mem_of_getLast? hy
  have hcl : clashB xs ys = (decide (textB x ≠ textB y) && decide (headP xs = headP ys)) := by unfold clashB; rw [hx, hy]
  rw [hcl]
  have k1 : ∀ w', Ext w w' → Fn 57 [.slice a xs.length c] w' (Texted (textB x) w') := fun w' e => ref_Text a c xs x hx hs.1 (hs.2 x hxm) w' (h.ext e)
  have k2 : ∀ w', Ext w w' → Fn 57 [.slice a' ys.length c'] w' (Texted (textB y) w') := fun w' e => ref_Text a' c' ys y hy hs'.1 (hs'.2 y hym) w' (h'.ext e)
  have k3 : ∀ w', Ext w w' → Fn 30 [.slice a xs.length c] w' (Quiet (digV (headP xs)) w') := fun w' e => chain_Head a c xs hs.1 hs.2 w' (hL.ext e) (h.ext e)
  have k4 : ∀ w', Ext w w' → Fn 30 [.slice a' ys.length c'] w' (Quiet (digV (headP ys)) w') := fun w' e => chain_Head a' c' ys hs'.1 hs'.2 w' (hL.ext e) (h'.ext e)
  have l1 := headP_length xs
  have l2 := headP_length ys
  generalize textB x = T1 at *
  generalize textB y = T2 at *
  generalize headP xs = H1 at *
  generalize headP ys = H2 at *
  repeat (first
    | (apply ws; exact rfl; exact rfl; exact rfl)
    | refine wc_seq ?_
    | refine wc_region ?_
    | refine wl_nil ?_
    | refine we_round ?_
    | refine we_then_wc ?_
    | (apply wi64; exact rfl; omega; omega; exact rfl; exact rfl)
    | (apply wfa; exact rfl; exact rfl; exact rfl; exact rfl)
    | (apply wct; exact rfl; omega; exact rfl; exact rfl)
    | (apply wcf; exact rfl; omega; exact rfl; exact rfl)
    | (apply wn; exact rfl; exact rfl)
    | (apply wlb (j := 0); exact rfl; exact rfl; exact rfl; exact rfl; exact rfl; exact rfl)
    | (apply wlb (j := 1); exact rfl; exact rfl; exact rfl; exact rfl; exact rfl; exact rfl)
    | (apply wlb (j := 2); exact rfl; exact rfl; exact rfl; exact rfl; exact rfl; exact rfl)
    | (apply wlb (j := 3); exact rfl; exact rfl; exact rfl; exact rfl; exact rfl; exact rfl)
    | (apply wln; exact rfl; exact rfl; exact rfl; exact rfl)
    | (apply wpu; exact rfl; exact rfl; exact rfl)
    | (apply wbx; exact rfl; exact rfl; exact rfl; intro _)
    | refine wc_block ?_
    | (apply wc_true; exact rfl)
    | (apply wc_false; exact rfl)
    | refine wc_skip ?_
    | refine wc_exit ?_
    | refine wc_ret ?_
    | refine we_then_exit ?_
    | refine we_then_ret ?_
    | refine we_in_normal ?_
    | refine we_in_ret ?_
    | refine we_in_here ?_
    | (apply we_in_there; exact rfl))
  refine wmk Tryd.call57 rfl rfl rfl (fun w' h => k1 w' h.ext_all) ?_
  rintro ⟨c1, sp1⟩ b1 ⟨e1, e2⟩
  simp only at e1 e2
  dsimp only
  repeat (first
    | (apply ws; exact rfl; exact rfl; exact rfl)
    | refine wc_seq ?_
    | refine wc_region ?_
    | refine wl_nil ?_
    | refine we_round ?_
    | refine we_then_wc ?_
    | (apply wi64; exact rfl; omega; omega; exact rfl; exact rfl)
    | (apply wfa; exact rfl; exact rfl; exact rfl; exact rfl)
    | (apply wct; exact rfl; omega; exact rfl; exact rfl)
    | (apply wcf; exact rfl; omega; exact rfl; exact rfl)
    | (apply wn; exact rfl; exact rfl)
    | (apply wlb (j := 0); exact rfl; exact rfl; exact rfl; exact rfl; exact rfl; exact rfl)
    | (apply wlb (j := 1); exact rfl; exact rfl; exact rfl; exact rfl; exact rfl; exact rfl)
    | (apply wlb (j := 2); exact rfl; exact rfl; exact rfl; exact rfl; exact rfl; exact rfl)
    | (apply wlb (j := 3); exact rfl; exact rfl; exact rfl; exact rfl; exact rfl; exact rfl)
    | (apply wln; exact rfl; exact rfl; exact rfl; exact rfl)
    | (apply wpu; exact rfl; exact rfl; exact rfl)
    | (apply wbx; exact rfl; exact rfl; exact rfl; intro _)
    | refine wc_block ?_
    | (apply wc_true; exact rfl)
    | (apply wc_false; exact rfl)
    | refine wc_skip ?_
    | refine wc_exit ?_
    | refine wc_ret ?_
    | refine we_then_exit ?_
    | refine we_then_ret ?_
    | refine we_in_normal ?_
    | refine we_in_ret ?_
    | refine we_in_here ?_
    | (apply we_in_there; exact rfl))
  refine wmk Tryd.call57 rfl rfl rfl (fun w' h => k2 w' h.ext_all) ?_
  rintro ⟨c2, sp2⟩ b2 ⟨e3, e4⟩
  simp only at e3 e4
  dsimp only
  by_cases ht : T1 = T2
  · have hr : (decide (T1 ≠ T2) && decide (H1 = H2)) = false := by simp [ht]
    rw [hr]
    repeat (first
      | (apply ws; exact rfl; exact rfl; exact rfl)
      | refine wl_still rfl rfl rfl (od_eqS (a := linkT) (b := linkT) (r := false) (Or.inr ⟨rfl, by simp⟩) rfl rfl) ?_
      | refine wl_still rfl rfl rfl (od_toStr rfl rfl rfl (fun w' h' => ByA.of_rd e1 (fun i z hz => h'.cell_blk (j := 1) rfl (cells_map 0 rfl i z hz)))) ?_
      | refine wl_still rfl rfl rfl (od_toStr rfl rfl rfl (fun w' h' => ByA.of_rd e3 (fun i z hz => h'.cell_blk (j := 0) rfl (cells_map 0 rfl i z hz)))) ?_
      | refine wl_still rfl rfl rfl (od_eqS (a := T1) (b := T2) (r := false) (Or.inr ⟨rfl, by simpa using ht⟩) rfl rfl) ?_
      | refine wc_seq ?_
      | refine wc_region ?_
      | refine wl_nil ?_
      | refine we_round ?_
      | refine we_then_wc ?_
      | (apply wi64; exact rfl; omega; omega; exact rfl; exact rfl)
      | (apply wfa; exact rfl; exact rfl; exact rfl; exact rfl)
      | (apply wct; exact rfl; omega; exact rfl; exact rfl)
      | (apply wcf; exact rfl; omega; exact rfl; exact rfl)
      | (apply wn; exact rfl; exact rfl)
      | (apply wlb (j := 0); exact rfl; exact rfl; exact rfl; exact rfl; exact rfl; exact rfl)
      | (apply wlb (j := 1); exact rfl; exact rfl; exact rfl; exact rfl; exact rfl; exact rfl)
      | (apply wlb (j := 2); exact rfl; exact rfl; exact rfl; exact rfl; exact rfl; exact rfl)
      | (apply wlb (j := 3); exact rfl; exact rfl; exact rfl; exact rfl; exact rfl; exact rfl)
      | (apply wln; exact rfl; exact rfl; exact rfl; exact rfl)
      | (apply wpu; exact rfl; exact rfl; exact rfl)
      | (apply wbx; exact rfl; exact rfl; exact rfl; intro _)
      | refine wc_block ?_
      | (apply wc_true; exact rfl)
      | (apply wc_false; exact rfl)
      | refine wc_skip ?_
      | refine wc_exit ?_
      | refine wc_ret ?_
      | refine we_then_exit ?_
      | refine we_then_ret ?_
      | refine we_in_normal ?_
      | refine we_in_ret ?_
      | refine we_in_here ?_
      | (apply we_in_there; exact rfl))
    exact we_ret1 (Or.inl rfl) rfl rfl fun w' h => ⟨rfl, h.ext_all⟩
  · have hr : (decide (T1 ≠ T2) && decide (H1 = H2)) = decide (H1 = H2) := by simp [ht]
    rw [hr]
    repeat (first
      | (apply ws; exact rfl; exact rfl; exact rfl)
      | refine wl_still rfl rfl rfl (od_eqS (a := linkT) (b := linkT) (r := false) (Or.inr ⟨rfl, by simp⟩) rfl rfl) ?_
      | refine wl_still rfl rfl rfl (od_toStr rfl rfl rfl (fun w' h' => ByA.of_rd e1 (fun i z hz => h'.cell_blk (j := 1) rfl (cells_map 0 rfl i z hz)))) ?_
      | refine wl_still rfl rfl rfl (od_toStr rfl rfl rfl (fun w' h' => ByA.of_rd e3 (fun i z hz => h'.cell_blk (j := 0) rfl (cells_map 0 rfl i z hz)))) ?_
      | refine wl_still rfl rfl rfl (od_eqS (a := T1) (b := T2) (r := true) (Or.inr ⟨rfl, by simpa using ht⟩) rfl rfl) ?_
      | (apply wq Tryd.call30; exact rfl; exact rfl; exact rfl; exact (fun w' h => k3 w' h.ext_all))
      | (apply wq Tryd.call30; exact rfl; exact rfl; exact rfl; exact (fun w' h => k4 w' h.ext_all))
      | refine wl_still rfl rfl rfl (od_eqD (xs := H1) (ys := H2) (Or.inl ⟨rfl, rfl⟩) rfl rfl l1 l2) ?_
      | refine wc_seq ?_
      | refine wc_region ?_
      | refine wl_nil ?_
      | refine we_round ?_
      | refine we_then_wc ?_
      | (apply wi64; exact rfl; omega; omega; exact rfl; exact rfl)
      | (apply wfa; exact rfl; exact rfl; exact rfl; exact rfl)
      | (apply wct; exact rfl; omega; exact rfl; exact rfl)
      | (apply wcf; exact rfl; omega; exact rfl; exact rfl)
      | (apply wn; exact rfl; exact rfl)
      | (apply wlb (j := 0); exact rfl; exact rfl; exact rfl; exact rfl; exact rfl; exact rfl)
      | (apply wlb (j := 1); exact rfl; exact rfl; exact rfl; exact rfl; exact rfl; exact rfl)
      | (apply wlb (j := 2); exact rfl; exact rfl; exact rfl; exact rfl; exact rfl; exact rfl)
      | (apply wlb (j := 3); exact rfl; exact rfl; exact rfl; exact rfl; exact rfl; exact rfl)
      | (apply wln; exact rfl; exact rfl; exact rfl; exact rfl)
      | (apply wpu; exact rfl; exact rfl; exact rfl)
      | (apply wbx; exact rfl; exact rfl; exact rfl; intro _)
      | refine wc_block ?_
      | (apply wc_true; exact rfl)
      | (apply wc_false; exact rfl)
      | refine wc_skip ?_
      | refine wc_exit ?_
      | refine wc_ret ?_
      | refine we_then_exit ?_
      | refine we_then_ret ?_
      | refine we_in_normal ?_
      | refine we_in_ret ?_
      | refine we_in_here ?_
      | (apply we_in_there; exact rfl))
    exact we_ret1 (Or.inl rfl) rfl rfl fun w' h => ⟨rfl, h.ext_all⟩

/-! ### The plain law -/
theorem take_snoc {xs : List Lnk} {k : Nat} {x : Lnk} (h : xs[k]? = some x) : xs.take (k + 1) = xs.take k ++ [x] := by
  rw [List.take_add_one, h]; rfl
theorem chk_prev {xs : List Lnk} {k : Nat} {x : Lnk} (hc : chkP xs = 0) (h : xs[k]? = some x) : x.prev = headP (xs.take k) := by
  have hk : k < xs.length := (List.getElem?_eq_some_iff.1 h).1
  have hok := (chkP_zero.1 hc).2 k hk
  have hy : xs[0]? = some xs[0] := List.getElem?_eq_getElem (by omega)
  exact ((okB_iff h hy).1 hok).2.2.2.2.2

/-- No clash at any beginning: the links are the same. -/
theorem no_clash {xs ys : List Lnk} (hx : chkP xs = 0) (hy : chkP ys = 0) (hlen : xs.length = ys.length) : ∀ (k : Nat), k ≤ xs.length → (∀ i, 1 ≤ i → i ≤ k → clashB (xs.take i) (ys.take i) = false) → headP (xs.take k) = headP (ys.take k) →
    ∀ (j : Nat) (x y : Lnk), j < k → xs[j]? = some x → ys[j]? = some y → sameL x y = true
  | 0, _, _, _, j, _, _, hj, _, _ => absurd hj (by omega)
  | k + 1, hk, hno, hh, j, x, y, hj, ejx, ejy => by
    have hxk : xs[k]? = some xs[k] := List.getElem?_eq_getElem (by omega)
    have hyk : ys[k]? = some ys[k] := List.getElem?_eq_getElem (by omega)
    generalize xs[k] = u at hxk
    generalize ys[k] = v at hyk
    have hn := hno (k + 1) (by omega) (Nat.le_refl _)
    rw [take_snoc hxk, take_snoc hyk] at hn hh
    have ht : textB u = textB v := by
      unfold clashB at hn
      simp only [List.getLast?_append, List.getLast?_singleton, Option.some_or] at hn
      rw [decide_eq_true hh, Bool.and_true] at hn
      simpa using hn
    obtain ⟨t1, t2, t3, t4⟩ := text_inj ht
    rcases Nat.lt_or_ge j k with hjk | hjk
    · refine no_clash hx hy hlen k (by omega) (fun i h1 h2 => hno i h1 (by omega)) ?_ j x y hjk ejx ejy
      rw [← chk_prev hx hxk, ← chk_prev hy hyk, t3]
    · have e : j = k := by omega
      subst e
      rw [hxk] at ejx
      rw [hyk] at ejy
      cases ejx
      cases ejy
      exact sameL_iff.2 ⟨t1, t2, t3, t4⟩

theorem some_clash {xs ys : List Lnk} (hx : chkP xs = 0) (hy : chkP ys = 0) (hlen : xs.length = ys.length) (hh : headP xs = headP ys) (hs : sameB xs ys = false) : ∃ i, 1 ≤ i ∧ i ≤ xs.length ∧ clashB (xs.take i) (ys.take i) = true := by
  by_cases hex : ∃ i, 1 ≤ i ∧ i ≤ xs.length ∧ clashB (xs.take i) (ys.take i) = true
  · exact hex
  · have hno : ∀ i, 1 ≤ i → i ≤ xs.length → clashB (xs.take i) (ys.take i) = false := fun i h1 h2 => by
      cases hc : clashB (xs.take i) (ys.take i) with
      | false => rfl
      | true => exact absurd ⟨i, h1, h2, hc⟩ hex
    have := no_clash hx hy hlen xs.length (Nat.le_refl _) hno (by rw [List.take_length, hlen, List.take_length]; exact hh)
    have hd : diffP xs ys = none := by
      cases hd : diffP xs ys with
      | none => rfl
      | some i =>
        obtain ⟨⟨x, y, h1, h2, h3⟩, -⟩ := diffP_some hd
        rw [this i x y (diffP_lt hd).1 h1 h2] at h3
        cases h3
    unfold sameB at hs
    rw [hd] at hs
    simp [hlen] at hs

set_option maxHeartbeats 800000 in
theorem law_Equal (a : Option Addr) (c : Nat) (xs : List Lnk) (a' : Option Addr) (c' : Nat) (ys : List Lnk) (w : World) (hL : Laid w) (h : LkA w a c xs) (h' : LkA w a' c' ys) : Fn 7 [.slice a xs.length c, .slice a' ys.length c'] w (Quiet (.bool true) w) := by
  refine fn_of (args := [.slice a xs.length c, .slice a' ys.length c']) Tryd.func7 rfl Tryd.ntmps7 rfl (Hp.start w) ?_
  by_cases f1 : fewP xs
  · by_cases f2 : fewP ys
    · have t1 : ∀ w', Ext w w' → Fn 24 [.slice a xs.length c] w' (Quiet (.bool true) w') := fun w' e => few_t f1 w' (h.ext e)
      have t2 : ∀ w', Ext w w' → Fn 24 [.slice a' ys.length c'] w' (Quiet (.bool true) w') := fun w' e => few_t f2 w' (h'.ext e)
      have q1 : ∀ w', Ext w w' → Fn 31 [.slice a xs.length c] w' (Quiet (.int .i64 (chkP xs)) w') := fun w' e => chain_Check a c xs f1.small.1 f1.small.2 w' (hL.ext e) (h.ext e)
      have q2 : ∀ w', Ext w w' → Fn 31 [.slice a' ys.length c'] w' (Quiet (.int .i64 (chkP ys)) w') := fun w' e => chain_Check a' c' ys f2.small.1 f2.small.2 w' (hL.ext e) (h'.ext e)
      have r1 : ∀ w', Ext w w' → Fn 30 [.slice a xs.length c] w' (Quiet (digV (headP xs)) w') := fun w' e => chain_Head a c xs f1.small.1 f1.small.2 w' (hL.ext e) (h.ext e)
      have r2 : ∀ w', Ext w w' → Fn 30 [.slice a' ys.length c'] w' (Quiet (digV (headP ys)) w') := fun w' e => chain_Head a' c' ys f2.small.1 f2.small.2 w' (hL.ext e) (h'.ext e)
      have l1 := headP_length xs
      have l2 := headP_length ys
      have hx16 := f1.1
      have hy16 := f2.1
      have hxc := h.1
      have hyc := h'.1
      by_cases c1 : chkP xs = 0
      · rw [c1] at q1
        by_cases c2 : chkP ys = 0
        · rw [c2] at q2
          by_cases hlen : xs.length = ys.length
          · have hsc := some_clash c1 c2 hlen
            have hcl : ∀ i, 1 ≤ i → i ≤ xs.length → ∀ w', Ext w w' → Fn 32 [.slice a i c, .slice a' i c'] w' (Quiet (.bool (clashB (xs.take i) (ys.take i))) w') := fun i h1 h2 w' e => by
              have e1 : (xs.take i).length = i := by simp; omega
              have e2 : (ys.take i).length = i := by simp; omega
              have := law_clash a a' c c' (xs.take i) (ys.take i) (f1.small.take i) (f2.small.take i) (by intro hh; rw [hh] at e1; simp at e1; omega) (by intro hh; rw [hh] at e2; simp at e2; omega) w' (hL.ext e) ((h.take i).ext e) ((h'.take i).ext e)
              rwa [e1, e2] at this
            have s1 : ∀ w', Ext w w' → Fn 29 [.slice a xs.length c, .slice a' ys.length c'] w' (Quiet (.bool (sameB xs ys)) w') := fun w' e => ref_Same a a' c c' xs ys f1.small.1 w' (h.ext e) (h'.ext e)
            generalize headP xs = H1 at *
            generalize headP ys = H2 at *
            by_cases hh : H1 = H2
            · cases hsm : sameB xs ys with
              | true =>
                rw [hsm] at s1
                obtain ⟨m, hm⟩ : ∃ m : Nat, xs.length = m := ⟨_, rfl⟩
                have hm' : ys.length = m := hlen ▸ hm
                rw [hm] at t1 q1 r1 s1 ⊢
                rw [hm'] at t2 q2 r2 s1 ⊢
                repeat (first
                  | (apply ws; exact rfl; exact rfl; exact rfl)
                  | (apply wq Tryd.call23; exact rfl; exact rfl; exact rfl; exact (fun w' h => sane08 w' (hL.ext h.ext_all)))
                  | (apply wq Tryd.call24; exact rfl; exact rfl; exact rfl; exact (fun w' hw => t1 w' hw.ext_all))
                  | (apply wq Tryd.call24; exact rfl; exact rfl; exact rfl; exact (fun w' hw => t2 w' hw.ext_all))
                  | (apply wq Tryd.call31; exact rfl; exact rfl; exact rfl; exact (fun w' hw => q1 w' hw.ext_all))
                  | (apply wq Tryd.call31; exact rfl; exact rfl; exact rfl; exact (fun w' hw => q2 w' hw.ext_all))
                  | (apply wq Tryd.call30; exact rfl; exact rfl; exact rfl; exact (fun w' hw => r1 w' hw.ext_all))
                  | (apply wq Tryd.call30; exact rfl; exact rfl; exact rfl; exact (fun w' hw => r2 w' hw.ext_all))
                  | refine wl_still rfl rfl rfl (od_eqD (xs := H1) (ys := H2) (r := false) (Or.inr ⟨rfl, by simpa using hh⟩) rfl rfl l1 l2) ?_
                  | (apply wq Tryd.call29; exact rfl; exact rfl; exact rfl; exact (fun w' hw => s1 w' hw.ext_all))
                  | refine wc_seq ?_
                  | refine wc_region ?_
                  | refine wl_nil ?_
                  | refine we_round ?_
                  | refine we_then_wc ?_
                  | (apply wi64; exact rfl; omega; omega; exact rfl; exact rfl)
                  | (apply wfa; exact rfl; exact rfl; exact rfl; exact rfl)
                  | (apply wct; exact rfl; omega; exact rfl; exact rfl)
                  | (apply wcf; exact rfl; omega; exact rfl; exact rfl)
                  | (apply wn; exact rfl; exact rfl)
                  | (apply wlb (j := 0); exact rfl; exact rfl; exact rfl; exact rfl; exact rfl; exact rfl)
                  | (apply wlb (j := 1); exact rfl; exact rfl; exact rfl; exact rfl; exact rfl; exact rfl)
                  | (apply wlb (j := 2); exact rfl; exact rfl; exact rfl; exact rfl; exact rfl; exact rfl)
                  | (apply wlb (j := 3); exact rfl; exact rfl; exact rfl; exact rfl; exact rfl; exact rfl)
                  | (apply wln; exact rfl; exact rfl; exact rfl; exact rfl)
                  | (apply wpu; exact rfl; exact rfl; exact rfl)
                  | (apply wbx; exact rfl; exact rfl; exact rfl; intro _)
                  | refine wc_block ?_
                  | (apply wc_true; exact rfl)
                  | (apply wc_false; exact rfl)
                  | refine wc_skip ?_
                  | refine wc_exit ?_
                  | refine wc_ret ?_
                  | refine we_then_exit ?_
                  | refine we_then_ret ?_
                  | refine we_in_normal ?_
                  | refine we_in_ret ?_
                  | refine we_in_here ?_
                  | (apply we_in_there; exact rfl))
                exact we_ret1 (Or.inl rfl) rfl rfl fun w' h => ⟨rfl, h.ext_all⟩
              | false =>
                rw [hsm] at s1
                obtain ⟨i0, hi1, hi2, hi3⟩ := hsc hh hsm
                obtain ⟨m, hm⟩ : ∃ m : Nat, xs.length = m := ⟨_, rfl⟩
                have hm' : ys.length = m := hlen ▸ hm
                rw [hm] at t1 q1 r1 s1 hcl hi2 hxc ⊢
                rw [hm'] at t2 q2 r2 s1 hyc ⊢
                repeat (first
                  | (apply ws; exact rfl; exact rfl; exact rfl)
                  | (apply wq Tryd.call23; exact rfl; exact rfl; exact rfl; exact (fun w' h => sane08 w' (hL.ext h.ext_all)))
                  | (apply wq Tryd.call24; exact rfl; exact rfl; exact rfl; exact (fun w' hw => t1 w' hw.ext_all))
                  | (apply wq Tryd.call24; exact rfl; exact rfl; exact rfl; exact (fun w' hw => t2 w' hw.ext_all))
                  | (apply wq Tryd.call31; exact rfl; exact rfl; exact rfl; exact (fun w' hw => q1 w' hw.ext_all))
                  | (apply wq Tryd.call31; exact rfl; exact rfl; exact rfl; exact (fun w' hw => q2 w' hw.ext_all))
                  | (apply wq Tryd.call30; exact rfl; exact rfl; exact rfl; exact (fun w' hw => r1 w' hw.ext_all))
                  | (apply wq Tryd.call30; exact rfl; exact rfl; exact rfl; exact (fun w' hw => r2 w' hw.ext_all))
                  | refine wl_still rfl rfl rfl (od_eqD (xs := H1) (ys := H2) (r := false) (Or.inr ⟨rfl, by simpa using hh⟩) rfl rfl l1 l2) ?_
                  | (apply wq Tryd.call29; exact rfl; exact rfl; exact rfl; exact (fun w' hw => s1 w' hw.ext_all))
                  | refine wc_seq ?_
                  | refine wc_region ?_
                  | refine wl_nil ?_
                  | refine we_round ?_
                  | refine we_then_wc ?_
                  | (apply wi64; exact rfl; omega; omega; exact rfl; exact rfl)
                  | (apply wfa; exact rfl; exact rfl; exact rfl; exact rfl)
                  | (apply wct; exact rfl; omega; exact rfl; exact rfl)
                  | (apply wcf; exact rfl; omega; exact rfl; exact rfl)
                  | (apply wn; exact rfl; exact rfl)
                  | (apply wlb (j := 0); exact rfl; exact rfl; exact rfl; exact rfl; exact rfl; exact rfl)
                  | (apply wlb (j := 1); exact rfl; exact rfl; exact rfl; exact rfl; exact rfl; exact rfl)
                  | (apply wlb (j := 2); exact rfl; exact rfl; exact rfl; exact rfl; exact rfl; exact rfl)
                  | (apply wlb (j := 3); exact rfl; exact rfl; exact rfl; exact rfl; exact rfl; exact rfl)
                  | (apply wln; exact rfl; exact rfl; exact rfl; exact rfl)
                  | (apply wpu; exact rfl; exact rfl; exact rfl)
                  | (apply wbx; exact rfl; exact rfl; exact rfl; intro _)
                  | refine wc_block ?_
                  | (apply wc_true; exact rfl)
                  | (apply wc_false; exact rfl)
                  | refine wc_skip ?_
                  | refine wc_exit ?_
                  | refine wc_ret ?_
                  | refine we_then_exit ?_
                  | refine we_then_ret ?_
                  | refine we_in_normal ?_
                  | refine we_in_ret ?_
                  | refine we_in_here ?_
                  | (apply we_in_there; exact rfl))
                refine wc_loop (ι := Nat) (fun i => [(5, .int .i64 (i : Int)), (0, .slice a m c), (1, .slice a' m c')]) (fun _ => []) (fun i => 1 ≤ i ∧ i ≤ i0) (fun i => m + 1 - i) 1 ⟨Nat.le_refl _, hi1⟩ ⟨rfl, rfl, rfl, trivial⟩ (List.nil_sublist _) ?_
                rintro i ⟨g1, g2⟩
                have hci := hcl i g1 (by omega)
                repeat (first
                  | (apply ws; exact rfl; exact rfl; exact rfl)
                  | refine wc_seq ?_
                  | refine wc_region ?_
                  | refine wl_nil ?_
                  | refine we_round ?_
                  | refine we_then_wc ?_
                  | (apply wi64; exact rfl; omega; omega; exact rfl; exact rfl)
                  | (apply wfa; exact rfl; exact rfl; exact rfl; exact rfl)
                  | (apply wct; exact rfl; omega; exact rfl; exact rfl)
                  | (apply wcf; exact rfl; omega; exact rfl; exact rfl)
                  | (apply wn; exact rfl; exact rfl)
                  | (apply wlb (j := 0); exact rfl; exact rfl; exact rfl; exact rfl; exact rfl; exact rfl)
                  | (apply wlb (j := 1); exact rfl; exact rfl; exact rfl; exact rfl; exact rfl; exact rfl)
                  | (apply wlb (j := 2); exact rfl; exact rfl; exact rfl; exact rfl; exact rfl; exact rfl)
                  | (apply wlb (j := 3); exact rfl; exact rfl; exact rfl; exact rfl; exact rfl; exact rfl)
                  | (apply wln; exact rfl; exact rfl; exact rfl; exact rfl)
                  | (apply wpu; exact rfl; exact rfl; exact rfl)
                  | (apply wbx; exact rfl; exact rfl; exact rfl; intro _)
                  | refine wc_block ?_
                  | (apply wc_true; exact rfl)
                  | (apply wc_false; exact rfl)
                  | refine wc_skip ?_
                  | refine wc_exit ?_
                  | refine wc_ret ?_
                  | refine we_then_exit ?_
                  | refine we_then_ret ?_
                  | refine we_in_normal ?_
                  | refine we_in_ret ?_
                  | refine we_in_here ?_
                  | (apply we_in_there; exact rfl))
                refine wc_plan [] none [(0, true), (1, true), (2, true), (3, true), (4, true), (5, true), (6, true)] (by kernel_rfl) (List.nil_sublist _) ?_
                repeat (first
                  | (apply ps; exact rfl; exact rfl; exact rfl; exact rfl)
                  | (apply wp_still; exact rfl; exact rfl; exact rfl; exact (od_sliceTo i rfl rfl rfl ⟨_, _, rfl, rfl⟩ (by omega)))
                  | (apply pq Tryd.call32; exact rfl; exact rfl; exact rfl; exact rfl; exact (fun w' hw => hci w' hw.ext_all))
                  | (apply pfa; exact rfl; exact rfl; exact rfl; exact rfl; exact rfl)
                  | (apply pi64; exact rfl; exact rfl; omega; omega; exact rfl; exact rfl)
                  | (apply pct; exact rfl; exact rfl; omega; exact rfl; exact rfl)
                  | (apply pcf; exact rfl; exact rfl; omega; exact rfl; exact rfl)
                  | (apply wp_not; exact rfl; exact rfl; exact rfl)
                  | (apply plb (j := 0); exact rfl; exact rfl; exact rfl; exact rfl; exact rfl; exact rfl; exact rfl)
                  | (apply plb (j := 1); exact rfl; exact rfl; exact rfl; exact rfl; exact rfl; exact rfl; exact rfl)
                  | (apply plb (j := 2); exact rfl; exact rfl; exact rfl; exact rfl; exact rfl; exact rfl; exact rfl)
                  | (apply pln; exact rfl; exact rfl; exact rfl; exact rfl; exact rfl)
                  | (apply ppu; exact rfl; exact rfl; exact rfl; exact rfl)
                  | (apply pfs; exact rfl; exact rfl; exact rfl; exact rfl)
                  | apply wp_nil)
                cases hcb : clashB (xs.take i) (ys.take i) with
                | true =>
                  repeat (first
                    | (apply ws; exact rfl; exact rfl; exact rfl)
                    | refine wc_seq ?_
                    | refine wc_region ?_
                    | refine wl_nil ?_
                    | refine we_round ?_
                    | refine we_then_wc ?_
                    | (apply wi64; exact rfl; omega; omega; exact rfl; exact rfl)
                    | (apply wfa; exact rfl; exact rfl; exact rfl; exact rfl)
                    | (apply wct; exact rfl; omega; exact rfl; exact rfl)
                    | (apply wcf; exact rfl; omega; exact rfl; exact rfl)
                    | (apply wn; exact rfl; exact rfl)
                    | (apply wlb (j := 0); exact rfl; exact rfl; exact rfl; exact rfl; exact rfl; exact rfl)
                    | (apply wlb (j := 1); exact rfl; exact rfl; exact rfl; exact rfl; exact rfl; exact rfl)
                    | (apply wlb (j := 2); exact rfl; exact rfl; exact rfl; exact rfl; exact rfl; exact rfl)
                    | (apply wlb (j := 3); exact rfl; exact rfl; exact rfl; exact rfl; exact rfl; exact rfl)
                    | (apply wln; exact rfl; exact rfl; exact rfl; exact rfl)
                    | (apply wpu; exact rfl; exact rfl; exact rfl)
                    | (apply wbx; exact rfl; exact rfl; exact rfl; intro _)
                    | refine wc_block ?_
                    | (apply wc_true; exact rfl)
                    | (apply wc_false; exact rfl)
                    | refine wc_skip ?_
                    | refine wc_exit ?_
                    | refine wc_ret ?_
                    | refine we_then_exit ?_
                    | refine we_then_ret ?_
                    | refine we_in_normal ?_
                    | refine we_in_ret ?_
                    | refine we_in_here ?_
                    | (apply we_in_there; exact rfl))
                  exact we_ret1 (Or.inl rfl) rfl rfl fun w' h => ⟨rfl, h.ext_all⟩
                | false =>
                  have hne : i ≠ i0 := fun e => by rw [e, hi3] at hcb; cases hcb
                  repeat (first
                    | (apply ws; exact rfl; exact rfl; exact rfl)
                    | refine wc_seq ?_
                    | refine wc_region ?_
                    | refine wl_nil ?_
                    | refine we_round ?_
                    | refine we_then_wc ?_
                    | (apply wi64; exact rfl; omega; omega; exact rfl; exact rfl)
                    | (apply wfa; exact rfl; exact rfl; exact rfl; exact rfl)
                    | (apply wct; exact rfl; omega; exact rfl; exact rfl)
                    | (apply wcf; exact rfl; omega; exact rfl; exact rfl)
                    | (apply wn; exact rfl; exact rfl)
                    | (apply wlb (j := 0); exact rfl; exact rfl; exact rfl; exact rfl; exact rfl; exact rfl)
                    | (apply wlb (j := 1); exact rfl; exact rfl; exact rfl; exact rfl; exact rfl; exact rfl)
                    | (apply wlb (j := 2); exact rfl; exact rfl; exact rfl; exact rfl; exact rfl; exact rfl)
                    | (apply wlb (j := 3); exact rfl; exact rfl; exact rfl; exact rfl; exact rfl; exact rfl)
                    | (apply wln; exact rfl; exact rfl; exact rfl; exact rfl)
                    | (apply wpu; exact rfl; exact rfl; exact rfl)
                    | (apply wbx; exact rfl; exact rfl; exact rfl; intro _)
                    | refine wc_block ?_
                    | (apply wc_true; exact rfl)
                    | (apply wc_false; exact rfl)
                    | refine wc_skip ?_
                    | refine wc_exit ?_
                    | refine wc_ret ?_
                    | refine we_then_exit ?_
                    | refine we_then_ret ?_
                    | refine we_in_normal ?_
                    | refine we_in_ret ?_
                    | refine we_in_here ?_
                    | (apply we_in_there; exact rfl))
                  exact we_again (i + 1) (by omega) (by omega) ⟨rfl, rfl, rfl, trivial⟩ (List.nil_sublist _)
            · obtain ⟨m, hm⟩ : ∃ m : Nat, xs.length = m := ⟨_, rfl⟩
              have hm' : ys.length = m := hlen ▸ hm
              rw [hm] at t1 q1 r1 ⊢
              rw [hm'] at t2 q2 r2 ⊢
              repeat (first
                | (apply ws; exact rfl; exact rfl; exact rfl)
                | (apply wq Tryd.call23; exact rfl; exact rfl; exact rfl; exact (fun w' h => sane08 w' (hL.ext h.ext_all)))
                | (apply wq Tryd.call24; exact rfl; exact rfl; exact rfl; exact (fun w' hw => t1 w' hw.ext_all))
                | (apply wq Tryd.call24; exact rfl; exact rfl; exact rfl; exact (fun w' hw => t2 w' hw.ext_all))
                | (apply wq Tryd.call31; exact rfl; exact rfl; exact rfl; exact (fun w' hw => q1 w' hw.ext_all))
                | (apply wq Tryd.call31; exact rfl; exact rfl; exact rfl; exact (fun w' hw => q2 w' hw.ext_all))
                | (apply wq Tryd.call30; exact rfl; exact rfl; exact rfl; exact (fun w' hw => r1 w' hw.ext_all))
                | (apply wq Tryd.call30; exact rfl; exact rfl; exact rfl; exact (fun w' hw => r2 w' hw.ext_all))
                | refine wl_still rfl rfl rfl (od_eqD (xs := H1) (ys := H2) (r := true) (Or.inr ⟨rfl, by simpa using hh⟩) rfl rfl l1 l2) ?_
                | refine wc_seq ?_
                | refine wc_region ?_
                | refine wl_nil ?_
                | refine we_round ?_
                | refine we_then_wc ?_
                | (apply wi64; exact rfl; omega; omega; exact rfl; exact rfl)
                | (apply wfa; exact rfl; exact rfl; exact rfl; exact rfl)
                | (apply wct; exact rfl; omega; exact rfl; exact rfl)
                | (apply wcf; exact rfl; omega; exact rfl; exact rfl)
                | (apply wn; exact rfl; exact rfl)
                | (apply wlb (j := 0); exact rfl; exact rfl; exact rfl; exact rfl; exact rfl; exact rfl)
                | (apply wlb (j := 1); exact rfl; exact rfl; exact rfl; exact rfl; exact rfl; exact rfl)
                | (apply wlb (j := 2); exact rfl; exact rfl; exact rfl; exact rfl; exact rfl; exact rfl)
                | (apply wlb (j := 3); exact rfl; exact rfl; exact rfl; exact rfl; exact rfl; exact rfl)
                | (apply wln; exact rfl; exact rfl; exact rfl; exact rfl)
                | (apply wpu; exact rfl; exact rfl; exact rfl)
                | (apply wbx; exact rfl; exact rfl; exact rfl; intro _)
                | refine wc_block ?_
                | (apply wc_true; exact rfl)
                | (apply wc_false; exact rfl)
                | refine wc_skip ?_
                | refine wc_exit ?_
                | refine wc_ret ?_
                | refine we_then_exit ?_
                | refine we_then_ret ?_
                | refine we_in_normal ?_
                | refine we_in_ret ?_
                | refine we_in_here ?_
                | (apply we_in_there; exact rfl))
              exact we_ret1 (Or.inl rfl) rfl rfl fun w' h => ⟨rfl, h.ext_all⟩
          · generalize xs.length = m at *
            generalize ys.length = m' at *
            repeat (first
              | (apply ws; exact rfl; exact rfl; exact rfl)
              | (apply wq Tryd.call23; exact rfl; exact rfl; exact rfl; exact (fun w' h => sane08 w' (hL.ext h.ext_all)))
              | (apply wq Tryd.call24; exact rfl; exact rfl; exact rfl; exact (fun w' hw => t1 w' hw.ext_all))
              | (apply wq Tryd.call24; exact rfl; exact rfl; exact rfl; exact (fun w' hw => t2 w' hw.ext_all))
              | (apply wq Tryd.call31; exact rfl; exact rfl; exact rfl; exact (fun w' hw => q1 w' hw.ext_all))
              | (apply wq Tryd.call31; exact rfl; exact rfl; exact rfl; exact (fun w' hw => q2 w' hw.ext_all))
              | (apply wq Tryd.call30; exact rfl; exact rfl; exact rfl; exact (fun w' hw => r1 w' hw.ext_all))
              | (apply wq Tryd.call30; exact rfl; exact rfl; exact rfl; exact (fun w' hw => r2 w' hw.ext_all))
              | refine wc_seq ?_
              | refine wc_region ?_
              | refine wl_nil ?_
              | refine we_round ?_
              | refine we_then_wc ?_
              | (apply wi64; exact rfl; omega; omega; exact rfl; exact rfl)
              | (apply wfa; exact rfl; exact rfl; exact rfl; exact rfl)
              | (apply wct; exact rfl; omega; exact rfl; exact rfl)
              | (apply wcf; exact rfl; omega; exact rfl; exact rfl)
              | (apply wn; exact rfl; exact rfl)
              | (apply wlb (j := 0); exact rfl; exact rfl; exact rfl; exact rfl; exact rfl; exact rfl)
              | (apply wlb (j := 1); exact rfl; exact rfl; exact rfl; exact rfl; exact rfl; exact rfl)
              | (apply wlb (j := 2); exact rfl; exact rfl; exact rfl; exact rfl; exact rfl; exact rfl)
              | (apply wlb (j := 3); exact rfl; exact rfl; exact rfl; exact rfl; exact rfl; exact rfl)
              | (apply wln; exact rfl; exact rfl; exact rfl; exact rfl)
              | (apply wpu; exact rfl; exact rfl; exact rfl)
              | (apply wbx; exact rfl; exact rfl; exact rfl; intro _)
              | refine wc_block ?_
              | (apply wc_true; exact rfl)
              | (apply wc_false; exact rfl)
              | refine wc_skip ?_
              | refine wc_exit ?_
              | refine wc_ret ?_
              | refine we_then_exit ?_
              | refine we_then_ret ?_
              | refine we_in_normal ?_
              | refine we_in_ret ?_
              | refine we_in_here ?_
              | (apply we_in_there; exact rfl))
            exact we_ret1 (Or.inl rfl) rfl rfl fun w' h => ⟨rfl, h.ext_all⟩
        · generalize chkP ys = e2 at *
          repeat (first
            | (apply ws; exact rfl; exact rfl; exact rfl)
            | (apply wq Tryd.call23; exact rfl; exact rfl; exact rfl; exact (fun w' h => sane08 w' (hL.ext h.ext_all)))
            | (apply wq Tryd.call24; exact rfl; exact rfl; exact rfl; exact (fun w' hw => t1 w' hw.ext_all))
            | (apply wq Tryd.call24; exact rfl; exact rfl; exact rfl; exact (fun w' hw => t2 w' hw.ext_all))
            | (apply wq Tryd.call31; exact rfl; exact rfl; exact rfl; exact (fun w' hw => q1 w' hw.ext_all))
            | (apply wq Tryd.call31; exact rfl; exact rfl; exact rfl; exact (fun w' hw => q2 w' hw.ext_all))
            | (apply wq Tryd.call30; exact rfl; exact rfl; exact rfl; exact (fun w' hw => r1 w' hw.ext_all))
            | (apply wq Tryd.call30; exact rfl; exact rfl; exact rfl; exact (fun w' hw => r2 w' hw.ext_all))
            | refine wc_seq ?_
            | refine wc_region ?_
            | refine wl_nil ?_
            | refine we_round ?_
            | refine we_then_wc ?_
            | (apply wi64; exact rfl; omega; omega; exact rfl; exact rfl)
            | (apply wfa; exact rfl; exact rfl; exact rfl; exact rfl)
            | (apply wct; exact rfl; omega; exact rfl; exact rfl)
            | (apply wcf; exact rfl; omega; exact rfl; exact rfl)
            | (apply wn; exact rfl; exact rfl)
            | (apply wlb (j := 0); exact rfl; exact rfl; exact rfl; exact rfl; exact rfl; exact rfl)
            | (apply wlb (j := 1); exact rfl; exact rfl; exact rfl; exact rfl; exact rfl; exact rfl)
            | (apply wlb (j := 2); exact rfl; exact rfl; exact rfl; exact rfl; exact rfl; exact rfl)
            | (apply wlb (j := 3); exact rfl; exact rfl; exact rfl; exact rfl; exact rfl; exact rfl)
            | (apply wln; exact rfl; exact rfl; exact rfl; exact rfl)
            | (apply wpu; exact rfl; exact rfl; exact rfl)
            | (apply wbx; exact rfl; exact rfl; exact rfl; intro _)
            | refine wc_block ?_
            | (apply wc_true; exact rfl)
            | (apply wc_false; exact rfl)
            | refine wc_skip ?_
            | refine wc_exit ?_
            | refine wc_ret ?_
            | refine we_then_exit ?_
            | refine we_then_ret ?_
            | refine we_in_normal ?_
            | refine we_in_ret ?_
            | refine we_in_here ?_
            | (apply we_in_there; exact rfl))
          exact we_ret1 (Or.inl rfl) rfl rfl fun w' h => ⟨rfl, h.ext_all⟩
      · generalize chkP xs = e1 at *
        repeat (first
          | (apply ws; exact rfl; exact rfl; exact rfl)
          | (apply wq Tryd.call23; exact rfl; exact rfl; exact rfl; exact (fun w' h => sane08 w' (hL.ext h.ext_all)))
          | (apply wq Tryd.call24; exact rfl; exact rfl; exact rfl; exact (fun w' hw => t1 w' hw.ext_all))
          | (apply wq Tryd.call24; exact rfl; exact rfl; exact rfl; exact (fun w' hw => t2 w' hw.ext_all))
          | (apply wq Tryd.call31; exact rfl; exact rfl; exact rfl; exact (fun w' hw => q1 w' hw.ext_all))
          | (apply wq Tryd.call31; exact rfl; exact rfl; exact rfl; exact (fun w' hw => q2 w' hw.ext_all))
          | (apply wq Tryd.call30; exact rfl; exact rfl; exact rfl; exact (fun w' hw => r1 w' hw.ext_all))
          | (apply wq Tryd.call30; exact rfl; exact rfl; exact rfl; exact (fun w' hw => r2 w' hw.ext_all))
          | refine wc_seq ?_
          | refine wc_region ?_
          | refine wl_nil ?_
          | refine we_round ?_
          | refine we_then_wc ?_
          | (apply wi64; exact rfl; omega; omega; exact rfl; exact rfl)
          | (apply wfa; exact rfl; exact rfl; exact rfl; exact rfl)
          | (apply wct; exact rfl; omega; exact rfl; exact rfl)
          | (apply wcf; exact rfl; omega; exact rfl; exact rfl)
          | (apply wn; exact rfl; exact rfl)
          | (apply wlb (j := 0); exact rfl; exact rfl; exact rfl; exact rfl; exact rfl; exact rfl)
          | (apply wlb (j := 1); exact rfl; exact rfl; exact rfl; exact rfl; exact rfl; exact rfl)
          | (apply wlb (j := 2); exact rfl; exact rfl; exact rfl; exact rfl; exact rfl; exact rfl)
          | (apply wlb (j := 3); exact rfl; exact rfl; exact rfl; exact rfl; exact rfl; exact rfl)
          | (apply wln; exact rfl; exact rfl; exact rfl; exact rfl)
          | (apply wpu; exact rfl; exact rfl; exact rfl)
          | (apply wbx; exact rfl; exact rfl; exact rfl; intro _)
          | refine wc_block ?_
          | (apply wc_true; exact rfl)
          | (apply wc_false; exact rfl)
          | refine wc_skip ?_
          | refine wc_exit ?_
          | refine wc_ret ?_
          | refine we_then_exit ?_
          | refine we_then_ret ?_
          | refine we_in_normal ?_
          | refine we_in_ret ?_
          | refine we_in_here ?_
          | (apply we_in_there; exact rfl))
        exact we_ret1 (Or.inl rfl) rfl rfl fun w' h => ⟨rfl, h.ext_all⟩
    · repeat (first
        | (apply ws; exact rfl; exact rfl; exact rfl)
        | (apply wq Tryd.call23; exact rfl; exact rfl; exact rfl; exact (fun w' h => sane08 w' (hL.ext h.ext_all)))
        | (apply wq Tryd.call24; exact rfl; exact rfl; exact rfl; exact (fun w' hw => few_t f1 w' (h.ext hw.ext_all)))
        | (apply wq Tryd.call24; exact rfl; exact rfl; exact rfl; exact (fun w' hw => few_f f2 w' (h'.ext hw.ext_all)))
        | refine wc_seq ?_
        | refine wc_region ?_
        | refine wl_nil ?_
        | refine we_round ?_
        | refine we_then_wc ?_
        | (apply wi64; exact rfl; omega; omega; exact rfl; exact rfl)
        | (apply wfa; exact rfl; exact rfl; exact rfl; exact rfl)
        | (apply wct; exact rfl; omega; exact rfl; exact rfl)
        | (apply wcf; exact rfl; omega; exact rfl; exact rfl)
        | (apply wn; exact rfl; exact rfl)
        | (apply wlb (j := 0); exact rfl; exact rfl; exact rfl; exact rfl; exact rfl; exact rfl)
        | (apply wlb (j := 1); exact rfl; exact rfl; exact rfl; exact rfl; exact rfl; exact rfl)
        | (apply wlb (j := 2); exact rfl; exact rfl; exact rfl; exact rfl; exact rfl; exact rfl)
        | (apply wlb (j := 3); exact rfl; exact rfl; exact rfl; exact rfl; exact rfl; exact rfl)
        | (apply wln; exact rfl; exact rfl; exact rfl; exact rfl)
        | (apply wpu; exact rfl; exact rfl; exact rfl)
        | (apply wbx; exact rfl; exact rfl; exact rfl; intro _)
        | refine wc_block ?_
        | (apply wc_true; exact rfl)
        | (apply wc_false; exact rfl)
        | refine wc_skip ?_
        | refine wc_exit ?_
        | refine wc_ret ?_
        | refine we_then_exit ?_
        | refine we_then_ret ?_
        | refine we_in_normal ?_
        | refine we_in_ret ?_
        | refine we_in_here ?_
        | (apply we_in_there; exact rfl))
      exact we_ret1 (Or.inl rfl) rfl rfl fun w' h => ⟨rfl, h.ext_all⟩
  · repeat (first
      | (apply ws; exact rfl; exact rfl; exact rfl)
      | (apply wq Tryd.call23; exact rfl; exact rfl; exact rfl; exact (fun w' h => sane08 w' (hL.ext h.ext_all)))
      | (apply wq Tryd.call24; exact rfl; exact rfl; exact rfl; exact (fun w' hw => few_f f1 w' (h.ext hw.ext_all)))
      | refine wc_seq ?_
      | refine wc_region ?_
      | refine wl_nil ?_
      | refine we_round ?_
      | refine we_then_wc ?_
      | (apply wi64; exact rfl; omega; omega; exact rfl; exact rfl)
      | (apply wfa; exact rfl; exact rfl; exact rfl; exact rfl)
      | (apply wct; exact rfl; omega; exact rfl; exact rfl)
      | (apply wcf; exact rfl; omega; exact rfl; exact rfl)
      | (apply wn; exact rfl; exact rfl)
      | (apply wlb (j := 0); exact rfl; exact rfl; exact rfl; exact rfl; exact rfl; exact rfl)
      | (apply wlb (j := 1); exact rfl; exact rfl; exact rfl; exact rfl; exact rfl; exact rfl)
      | (apply wlb (j := 2); exact rfl; exact rfl; exact rfl; exact rfl; exact rfl; exact rfl)
      | (apply wlb (j := 3); exact rfl; exact rfl; exact rfl; exact rfl; exact rfl; exact rfl)
      | (apply wln; exact rfl; exact rfl; exact rfl; exact rfl)
      | (apply wpu; exact rfl; exact rfl; exact rfl)
      | (apply wbx; exact rfl; exact rfl; exact rfl; intro _)
      | refine wc_block ?_
      | (apply wc_true; exact rfl)
      | (apply wc_false; exact rfl)
      | refine wc_skip ?_
      | refine wc_exit ?_
      | refine wc_ret ?_
      | refine we_then_exit ?_
      | refine we_then_ret ?_
      | refine we_in_normal ?_
      | refine we_in_ret ?_
      | refine we_in_here ?_
      | (apply we_in_there; exact rfl))
    exact we_ret1 (Or.inl rfl) rfl rfl fun w' h => ⟨rfl, h.ext_all⟩
end Go.Proofs.YtielloijdkoeiaaDoor
