/- The statement of chapter 8: the two stacks add and part alike. -/
import Derived.Test.YtielloijdkoeiaaDoorMa
import Derived.Test.YtielloijdkoeiaaDoorUb
import Derived.Test.YtielloijdkoeiaaDoorUc
namespace Go.Proofs.YtielloijdkoeiaaDoor
open Go Go.RowKit Go.Lib
set_option maxRecDepth 100000

theorem partV_form (xs ys : List Lnk) : ∃ i ok e, partV xs ys = p3 i ok e := by
  unfold partV
  split
  · split
    · split
      · exact ⟨_, _, _, rfl⟩
      · split <;> exact ⟨_, _, _, rfl⟩
    · exact ⟨_, _, _, rfl⟩
  · exact ⟨_, _, _, rfl⟩

theorem same_snoc {xs : List Lnk} {x y : Lnk} (h : sameL x y = true) : sameB (xs ++ [x]) (xs ++ [y]) = true := by
  unfold sameB
  cases hd : diffP (xs ++ [x]) (xs ++ [y]) with
  | none => simp
  | some i =>
    obtain ⟨⟨u, v, h1, h2, h3⟩, -⟩ := diffP_some hd
    have hl := (diffP_lt hd).1
    simp only [List.length_append, List.length_cons, List.length_nil, Nat.zero_add] at hl
    rcases Nat.lt_or_ge i xs.length with hi | hi
    · rw [List.getElem?_append_left hi] at h1 h2
      rw [h1] at h2
      cases h2
      rw [sameL_refl] at h3
      cases h3
    · have e : i = xs.length := by omega
      subst e
      simp at h1 h2
      subst h1
      subst h2
      rw [h] at h3
      cases h3

set_option maxHeartbeats 800000 in
theorem law_AddSpec (a : Option Addr) (c : Nat) (xs : List Lnk) (a' : Option Addr) (c' : Nat) (ys : List Lnk) (node : Int) (da : Option Addr) (dc : Nat) (data : List UInt8) (w : World) (hL : Laid w) (h : LkA w a c xs) (h' : LkA w a' c' ys) (hnode : in64 node) (hdata : ByA w da dc data) :
    Fn 5 [.slice a xs.length c, .slice a' ys.length c', .int .i64 node, .slice da data.length dc] w (Quiet (.bool true) w) := by
  refine fn_of (args := [.slice a xs.length c, .slice a' ys.length c', .int .i64 node, .slice da data.length dc]) Tryd.func5 rfl Tryd.ntmps5 rfl (Hp.start w) ?_
  by_cases f1 : fewP xs
  · have t1 : ∀ w', Ext w w' → Fn 24 [.slice a xs.length c] w' (Quiet (.bool true) w') := fun w' e => few_t f1 w' (h.ext e)
    by_cases f2 : fewP ys
    · have t2 : ∀ w', Ext w w' → Fn 24 [.slice a' ys.length c'] w' (Quiet (.bool true) w') := fun w' e => few_t f2 w' (h'.ext e)
      have r1 : ∀ w', Ext w w' → Fn 27 [.slice a xs.length c, .slice a' ys.length c'] w' (Quiet (partV xs ys) w') := fun w' e => chain_Part a a' c c' xs ys f1.small f2.small w' (hL.ext e) (h.ext e) (h'.ext e)
      have r2 : ∀ w', Ext w w' → Fn 28 [.slice a xs.length c, .slice a' ys.length c'] w' (Quiet (partV xs ys) w') := fun w' e => ref_Part a a' c c' xs ys f1.small f2.small w' (h.ext e) (h'.ext e)
      have s0 : ∀ w', Fn 29 [.slice none 0 0, .slice none 0 0] w' (Quiet (.bool true) w') := fun w' => ref_Same none none 0 0 [] [] (by simp) w' (LkA.nil w') (LkA.nil w')
      obtain ⟨pi, pk, pe, hpv⟩ := partV_form xs ys
      rw [hpv] at r1 r2
      have hx16 := f1.1
      by_cases hd : data.length ≤ 300
      · by_cases hE : addE xs node data.length = 0
        · repeat (first
            | (apply ws; exact rfl; exact rfl; exact rfl)
            | (apply wq Tryd.call23; exact rfl; exact rfl; exact rfl; exact (fun w' h => sane08 w' (hL.ext h.ext_all)))
            | (apply wq Tryd.call24; exact rfl; exact rfl; exact rfl; exact (fun w' hw => t1 w' hw.ext_all))
            | (apply wq Tryd.call24; exact rfl; exact rfl; exact rfl; exact (fun w' hw => t2 w' hw.ext_all))
            | refine wc_seq ?_
            | refine wc_region ?_
            | refine wl_nil ?_
            | refine we_round ?_
            | refine we_then_wc ?_
            | (apply wi64; exact rfl; omega; omega; exact rfl; exact rfl)
            | (apply wfa; exact rfl; exact rfl; exact rfl; exact rfl)
            | (apply wct; exact rfl; omega; exact rfl; exact rfl)
            | (apply wcf; exact rfl; omega; exact rfl; exact rfl)
            | (apply wn; exact rfl; exact rfl)
            | (apply wlb (j := 0); exact rfl; exact rfl; exact rfl; exact rfl; exact rfl; exact rfl)
            | (apply wlb (j := 1); exact rfl; exact rfl; exact rfl; exact rfl; exact rfl; exact rfl)
            | (apply wlb (j := 2); exact rfl; exact rfl; exact rfl; exact rfl; exact rfl; exact rfl)
            | (apply wlb (j := 3); exact rfl; exact rfl; exact rfl; exact rfl; exact rfl; exact rfl)
            | (apply wln; exact rfl; exact rfl; exact rfl; exact rfl)
            | (apply wpu; exact rfl; exact rfl; exact rfl)
            | (apply wbx; exact rfl; exact rfl; exact rfl; intro _)
            | refine wc_block ?_
            | (apply wc_true; exact rfl)
            | (apply wc_false; exact rfl)
            | refine wc_skip ?_
            | refine wc_exit ?_
            | refine wc_ret ?_
            | refine we_then_exit ?_
            | refine we_then_ret ?_
            | refine we_in_normal ?_
            | refine we_in_ret ?_
            | refine we_in_here ?_
            | (apply we_in_there; exact rfl))
          refine wl_fact rfl rfl rfl (od_call Tryd.call25 rfl (fun w' hw => chain_Add_ok a c xs node da dc data f1.small hnode w' (hL.ext hw.ext_all) (h.ext hw.ext_all) (hdata.ext hw.ext_all) hE)) ?_
          rintro w2 v w3 hw2 ⟨e23, ya, yc, x1, rfl, hK1, u1, u2, u3, u4⟩
          have E13 : Ext w w3 := hw2.ext_all.trans e23
          repeat (first
            | (apply ws; exact rfl; exact rfl; exact rfl)
            | refine wc_seq ?_
            | refine wc_region ?_
            | refine wl_nil ?_
            | refine we_round ?_
            | refine we_then_wc ?_
            | (apply wi64; exact rfl; omega; omega; exact rfl; exact rfl)
            | (apply wfa; exact rfl; exact rfl; exact rfl; exact rfl)
            | (apply wct; exact rfl; omega; exact rfl; exact rfl)
            | (apply wcf; exact rfl; omega; exact rfl; exact rfl)
            | (apply wn; exact rfl; exact rfl)
            | (apply wlb (j := 0); exact rfl; exact rfl; exact rfl; exact rfl; exact rfl; exact rfl)
            | (apply wlb (j := 1); exact rfl; exact rfl; exact rfl; exact rfl; exact rfl; exact rfl)
            | (apply wlb (j := 2); exact rfl; exact rfl; exact rfl; exact rfl; exact rfl; exact rfl)
            | (apply wlb (j := 3); exact rfl; exact rfl; exact rfl; exact rfl; exact rfl; exact rfl)
            | (apply wln; exact rfl; exact rfl; exact rfl; exact rfl)
            | (apply wpu; exact rfl; exact rfl; exact rfl)
            | (apply wbx; exact rfl; exact rfl; exact rfl; intro _)
            | refine wc_block ?_
            | (apply wc_true; exact rfl)
            | (apply wc_false; exact rfl)
            | refine wc_skip ?_
            | refine wc_exit ?_
            | refine wc_ret ?_
            | refine we_then_exit ?_
            | refine we_then_ret ?_
            | refine we_in_normal ?_
            | refine we_in_ret ?_
            | refine we_in_here ?_
            | (apply we_in_there; exact rfl))
          refine wl_fact rfl rfl rfl (od_call Tryd.call26 rfl (fun w' hw => ref_Add_ok a c xs node da dc data f1.small hnode w' (h.ext (E13.trans hw.ext_all)) (hdata.ext (E13.trans hw.ext_all)) hE)) ?_
          rintro w4 v w5 hw4 ⟨e45, za, zc, x2, rfl, hK2, v1, v2, v3, v4⟩
          have E35 : Ext w3 w5 := hw4.ext_all.trans e45
          have E15 : Ext w w5 := E13.trans E35
          have hsm : sameL x1 x2 = true := sameL_iff.2 ⟨u1.trans v1.symm, u2.trans v2.symm, u3.trans v3.symm, u4.trans v4.symm⟩
          have s1 : ∀ w', Ext w5 w' → Fn 29 [.slice ya (xs.length + 1) yc, .slice za (xs.length + 1) zc] w' (Quiet (.bool true) w') := fun w' e => by
            have l1 : (xs ++ [x1]).length = xs.length + 1 := by simp
            have l2 : (xs ++ [x2]).length = xs.length + 1 := by simp
            have := ref_Same ya za yc zc (xs ++ [x1]) (xs ++ [x2]) (by omega) w' (hK1.ext (E35.trans e)) (hK2.ext e)
            rwa [l1, l2, same_snoc hsm] at this
          repeat (first
            | (apply ws; exact rfl; exact rfl; exact rfl)
            | (apply wq Tryd.call27; exact rfl; exact rfl; exact rfl; exact (fun w' hw => r1 w' (E15.trans hw.ext_all)))
            | (apply wq Tryd.call28; exact rfl; exact rfl; exact rfl; exact (fun w' hw => r2 w' (E15.trans hw.ext_all)))
            | (apply wq Tryd.call29; exact rfl; exact rfl; exact rfl; exact (fun w' hw => s1 w' hw.ext_all))
            | refine wl_still rfl rfl rfl (od_eqBool (r := true) (Or.inl ⟨rfl, by simp⟩) rfl rfl rfl) ?_
            | refine wc_seq ?_
            | refine wc_region ?_
            | refine wl_nil ?_
            | refine we_round ?_
            | refine we_then_wc ?_
            | (apply wi64; exact rfl; omega; omega; exact rfl; exact rfl)
            | (apply wfa; exact rfl; exact rfl; exact rfl; exact rfl)
            | (apply wct; exact rfl; omega; exact rfl; exact rfl)
            | (apply wcf; exact rfl; omega; exact rfl; exact rfl)
            | (apply wn; exact rfl; exact rfl)
            | (apply wlb (j := 0); exact rfl; exact rfl; exact rfl; exact rfl; exact rfl; exact rfl)
            | (apply wlb (j := 1); exact rfl; exact rfl; exact rfl; exact rfl; exact rfl; exact rfl)
            | (apply wlb (j := 2); exact rfl; exact rfl; exact rfl; exact rfl; exact rfl; exact rfl)
            | (apply wlb (j := 3); exact rfl; exact rfl; exact rfl; exact rfl; exact rfl; exact rfl)
            | (apply wln; exact rfl; exact rfl; exact rfl; exact rfl)
            | (apply wpu; exact rfl; exact rfl; exact rfl)
            | (apply wbx; exact rfl; exact rfl; exact rfl; intro _)
            | refine wc_block ?_
            | (apply wc_true; exact rfl)
            | (apply wc_false; exact rfl)
            | refine wc_skip ?_
            | refine wc_exit ?_
            | refine wc_ret ?_
            | refine we_then_exit ?_
            | refine we_then_ret ?_
            | refine we_in_normal ?_
            | refine we_in_ret ?_
            | refine we_in_here ?_
            | (apply we_in_there; exact rfl))
          exact we_ret1 (Or.inl rfl) rfl rfl fun w' h => ⟨rfl, E15.trans h.ext_all⟩
        · have q1 : ∀ w', Ext w w' → Fn 25 [.slice a xs.length c, .int .i64 node, .slice da data.length dc] w' (Quiet (.tuple #[.slice none 0 0, .int .i64 (addE xs node data.length)]) w') := fun w' e => chain_Add_err a c xs node da dc data f1.small w' (hL.ext e) (h.ext e) _ rfl hE
          have q2 : ∀ w', Ext w w' → Fn 26 [.slice a xs.length c, .int .i64 node, .slice da data.length dc] w' (Quiet (.tuple #[.slice none 0 0, .int .i64 (addE xs node data.length)]) w') := fun w' e => ref_Add_err a c xs node da dc data f1.small w' (h.ext e) _ rfl hE
          generalize addE xs node data.length = E at *
          repeat (first
            | (apply ws; exact rfl; exact rfl; exact rfl)
            | (apply wq Tryd.call23; exact rfl; exact rfl; exact rfl; exact (fun w' h => sane08 w' (hL.ext h.ext_all)))
            | (apply wq Tryd.call24; exact rfl; exact rfl; exact rfl; exact (fun w' hw => t1 w' hw.ext_all))
            | (apply wq Tryd.call24; exact rfl; exact rfl; exact rfl; exact (fun w' hw => t2 w' hw.ext_all))
            | (apply wq Tryd.call25; exact rfl; exact rfl; exact rfl; exact (fun w' hw => q1 w' hw.ext_all))
            | (apply wq Tryd.call26; exact rfl; exact rfl; exact rfl; exact (fun w' hw => q2 w' hw.ext_all))
            | (apply wq Tryd.call27; exact rfl; exact rfl; exact rfl; exact (fun w' hw => r1 w' hw.ext_all))
            | (apply wq Tryd.call28; exact rfl; exact rfl; exact rfl; exact (fun w' hw => r2 w' hw.ext_all))
            | (apply wq Tryd.call29; exact rfl; exact rfl; exact rfl; exact (fun w' _ => s0 w'))
            | refine wl_still rfl rfl rfl (od_eqBool (r := true) (Or.inl ⟨rfl, by simp⟩) rfl rfl rfl) ?_
            | refine wc_seq ?_
            | refine wc_region ?_
            | refine wl_nil ?_
            | refine we_round ?_
            | refine we_then_wc ?_
            | (apply wi64; exact rfl; omega; omega; exact rfl; exact rfl)
            | (apply wfa; exact rfl; exact rfl; exact rfl; exact rfl)
            | (apply wct; exact rfl; omega; exact rfl; exact rfl)
            | (apply wcf; exact rfl; omega; exact rfl; exact rfl)
            | (apply wn; exact rfl; exact rfl)
            | (apply wlb (j := 0); exact rfl; exact rfl; exact rfl; exact rfl; exact rfl; exact rfl)
            | (apply wlb (j := 1); exact rfl; exact rfl; exact rfl; exact rfl; exact rfl; exact rfl)
            | (apply wlb (j := 2); exact rfl; exact rfl; exact rfl; exact rfl; exact rfl; exact rfl)
            | (apply wlb (j := 3); exact rfl; exact rfl; exact rfl; exact rfl; exact rfl; exact rfl)
            | (apply wln; exact rfl; exact rfl; exact rfl; exact rfl)
            | (apply wpu; exact rfl; exact rfl; exact rfl)
            | (apply wbx; exact rfl; exact rfl; exact rfl; intro _)
            | refine wc_block ?_
            | (apply wc_true; exact rfl)
            | (apply wc_false; exact rfl)
            | refine wc_skip ?_
            | refine wc_exit ?_
            | refine wc_ret ?_
            | refine we_then_exit ?_
            | refine we_then_ret ?_
            | refine we_in_normal ?_
            | refine we_in_ret ?_
            | refine we_in_here ?_
            | (apply we_in_there; exact rfl))
          exact we_ret1 (Or.inl rfl) rfl rfl fun w' h => ⟨rfl, h.ext_all⟩
      · by_cases hd2 : data.length ≤ 65536
        · repeat (first
            | (apply ws; exact rfl; exact rfl; exact rfl)
            | (apply wq Tryd.call23; exact rfl; exact rfl; exact rfl; exact (fun w' h => sane08 w' (hL.ext h.ext_all)))
            | (apply wq Tryd.call24; exact rfl; exact rfl; exact rfl; exact (fun w' hw => t1 w' hw.ext_all))
            | (apply wq Tryd.call24; exact rfl; exact rfl; exact rfl; exact (fun w' hw => t2 w' hw.ext_all))
            | refine wc_seq ?_
            | refine wc_region ?_
            | refine wl_nil ?_
            | refine we_round ?_
            | refine we_then_wc ?_
            | (apply wi64; exact rfl; omega; omega; exact rfl; exact rfl)
            | (apply wfa; exact rfl; exact rfl; exact rfl; exact rfl)
            | (apply wct; exact rfl; omega; exact rfl; exact rfl)
            | (apply wcf; exact rfl; omega; exact rfl; exact rfl)
            | (apply wn; exact rfl; exact rfl)
            | (apply wlb (j := 0); exact rfl; exact rfl; exact rfl; exact rfl; exact rfl; exact rfl)
            | (apply wlb (j := 1); exact rfl; exact rfl; exact rfl; exact rfl; exact rfl; exact rfl)
            | (apply wlb (j := 2); exact rfl; exact rfl; exact rfl; exact rfl; exact rfl; exact rfl)
            | (apply wlb (j := 3); exact rfl; exact rfl; exact rfl; exact rfl; exact rfl; exact rfl)
            | (apply wln; exact rfl; exact rfl; exact rfl; exact rfl)
            | (apply wpu; exact rfl; exact rfl; exact rfl)
            | (apply wbx; exact rfl; exact rfl; exact rfl; intro _)
            | refine wc_block ?_
            | (apply wc_true; exact rfl)
            | (apply wc_false; exact rfl)
            | refine wc_skip ?_
            | refine wc_exit ?_
            | refine wc_ret ?_
            | refine we_then_exit ?_
            | refine we_then_ret ?_
            | refine we_in_normal ?_
            | refine we_in_ret ?_
            | refine we_in_here ?_
            | (apply we_in_there; exact rfl))
          exact we_ret1 (Or.inl rfl) rfl rfl fun w' h => ⟨rfl, h.ext_all⟩
        · have hE : addE xs node data.length ≠ 0 := fun he => by
            have := (addE_zero he).2.2.2.2.1
            omega
          have q1 : ∀ w', Ext w w' → Fn 25 [.slice a xs.length c, .int .i64 node, .slice da data.length dc] w' (Quiet (.tuple #[.slice none 0 0, .int .i64 (addE xs node data.length)]) w') := fun w' e => chain_Add_err a c xs node da dc data f1.small w' (hL.ext e) (h.ext e) _ rfl hE
          have q2 : ∀ w', Ext w w' → Fn 26 [.slice a xs.length c, .int .i64 node, .slice da data.length dc] w' (Quiet (.tuple #[.slice none 0 0, .int .i64 (addE xs node data.length)]) w') := fun w' e => ref_Add_err a c xs node da dc data f1.small w' (h.ext e) _ rfl hE
          generalize addE xs node data.length = E at *
          repeat (first
            | (apply ws; exact rfl; exact rfl; exact rfl)
            | (apply wq Tryd.call23; exact rfl; exact rfl; exact rfl; exact (fun w' h => sane08 w' (hL.ext h.ext_all)))
            | (apply wq Tryd.call24; exact rfl; exact rfl; exact rfl; exact (fun w' hw => t1 w' hw.ext_all))
            | (apply wq Tryd.call24; exact rfl; exact rfl; exact rfl; exact (fun w' hw => t2 w' hw.ext_all))
            | (apply wq Tryd.call25; exact rfl; exact rfl; exact rfl; exact (fun w' hw => q1 w' hw.ext_all))
            | (apply wq Tryd.call26; exact rfl; exact rfl; exact rfl; exact (fun w' hw => q2 w' hw.ext_all))
            | (apply wq Tryd.call27; exact rfl; exact rfl; exact rfl; exact (fun w' hw => r1 w' hw.ext_all))
            | (apply wq Tryd.call28; exact rfl; exact rfl; exact rfl; exact (fun w' hw => r2 w' hw.ext_all))
            | (apply wq Tryd.call29; exact rfl; exact rfl; exact rfl; exact (fun w' _ => s0 w'))
            | refine wl_still rfl rfl rfl (od_eqBool (r := true) (Or.inl ⟨rfl, by simp⟩) rfl rfl rfl) ?_
            | refine wc_seq ?_
            | refine wc_region ?_
            | refine wl_nil ?_
            | refine we_round ?_
            | refine we_then_wc ?_
            | (apply wi64; exact rfl; omega; omega; exact rfl; exact rfl)
            | (apply wfa; exact rfl; exact rfl; exact rfl; exact rfl)
            | (apply wct; exact rfl; omega; exact rfl; exact rfl)
            | (apply wcf; exact rfl; omega; exact rfl; exact rfl)
            | (apply wn; exact rfl; exact rfl)
            | (apply wlb (j := 0); exact rfl; exact rfl; exact rfl; exact rfl; exact rfl; exact rfl)
            | (apply wlb (j := 1); exact rfl; exact rfl; exact rfl; exact rfl; exact rfl; exact rfl)
            | (apply wlb (j := 2); exact rfl; exact rfl; exact rfl; exact rfl; exact rfl; exact rfl)
            | (apply wlb (j := 3); exact rfl; exact rfl; exact rfl; exact rfl; exact rfl; exact rfl)
            | (apply wln; exact rfl; exact rfl; exact rfl; exact rfl)
            | (apply wpu; exact rfl; exact rfl; exact rfl)
            | (apply wbx; exact rfl; exact rfl; exact rfl; intro _)
            | refine wc_block ?_
            | (apply wc_true; exact rfl)
            | (apply wc_false; exact rfl)
            | refine wc_skip ?_
            | refine wc_exit ?_
            | refine wc_ret ?_
            | refine we_then_exit ?_
            | refine we_then_ret ?_
            | refine we_in_normal ?_
            | refine we_in_ret ?_
            | refine we_in_here ?_
            | (apply we_in_there; exact rfl))
          exact we_ret1 (Or.inl rfl) rfl rfl fun w' h => ⟨rfl, h.ext_all⟩
    · repeat (first
        | (apply ws; exact rfl; exact rfl; exact rfl)
        | (apply wq Tryd.call23; exact rfl; exact rfl; exact rfl; exact (fun w' h => sane08 w' (hL.ext h.ext_all)))
        | (apply wq Tryd.call24; exact rfl; exact rfl; exact rfl; exact (fun w' hw => t1 w' hw.ext_all))
        | (apply wq Tryd.call24; exact rfl; exact rfl; exact rfl; exact (fun w' hw => few_f f2 w' (h'.ext hw.ext_all)))
        | refine wc_seq ?_
        | refine wc_region ?_
        | refine wl_nil ?_
        | refine we_round ?_
        | refine we_then_wc ?_
        | (apply wi64; exact rfl; omega; omega; exact rfl; exact rfl)
        | (apply wfa; exact rfl; exact rfl; exact rfl; exact rfl)
        | (apply wct; exact rfl; omega; exact rfl; exact rfl)
        | (apply wcf; exact rfl; omega; exact rfl; exact rfl)
        | (apply wn; exact rfl; exact rfl)
        | (apply wlb (j := 0); exact rfl; exact rfl; exact rfl; exact rfl; exact rfl; exact rfl)
        | (apply wlb (j := 1); exact rfl; exact rfl; exact rfl; exact rfl; exact rfl; exact rfl)
        | (apply wlb (j := 2); exact rfl; exact rfl; exact rfl; exact rfl; exact rfl; exact rfl)
        | (apply wlb (j := 3); exact rfl; exact rfl; exact rfl; exact rfl; exact rfl; exact rfl)
        | (apply wln; exact rfl; exact rfl; exact rfl; exact rfl)
        | (apply wpu; exact rfl; exact rfl; exact rfl)
        | (apply wbx; exact rfl; exact rfl; exact rfl; intro _)
        | refine wc_block ?_
        | (apply wc_true; exact rfl)
        | (apply wc_false; exact rfl)
        | refine wc_skip ?_
        | refine wc_exit ?_
        | refine wc_ret ?_
        | refine we_then_exit ?_
        | refine we_then_ret ?_
        | refine we_in_normal ?_
        | refine we_in_ret ?_
        | refine we_in_here ?_
        | (apply we_in_there; exact rfl))
      exact we_ret1 (Or.inl rfl) rfl rfl fun w' h => ⟨rfl, h.ext_all⟩
  · repeat (first
      | (apply ws; exact rfl; exact rfl; exact rfl)
      | (apply wq Tryd.call23; exact rfl; exact rfl; exact rfl; exact (fun w' h => sane08 w' (hL.ext h.ext_all)))
      | (apply wq Tryd.call24; exact rfl; exact rfl; exact rfl; exact (fun w' hw => few_f f1 w' (h.ext hw.ext_all)))
      | refine wc_seq ?_
      | refine wc_region ?_
      | refine wl_nil ?_
      | refine we_round ?_
      | refine we_then_wc ?_
      | (apply wi64; exact rfl; omega; omega; exact rfl; exact rfl)
      | (apply wfa; exact rfl; exact rfl; exact rfl; exact rfl)
      | (apply wct; exact rfl; omega; exact rfl; exact rfl)
      | (apply wcf; exact rfl; omega; exact rfl; exact rfl)
      | (apply wn; exact rfl; exact rfl)
      | (apply wlb (j := 0); exact rfl; exact rfl; exact rfl; exact rfl; exact rfl; exact rfl)
      | (apply wlb (j := 1); exact rfl; exact rfl; exact rfl; exact rfl; exact rfl; exact rfl)
      | (apply wlb (j := 2); exact rfl; exact rfl; exact rfl; exact rfl; exact rfl; exact rfl)
      | (apply wlb (j := 3); exact rfl; exact rfl; exact rfl; exact rfl; exact rfl; exact rfl)
      | (apply wln; exact rfl; exact rfl; exact rfl; exact rfl)
      | (apply wpu; exact rfl; exact rfl; exact rfl)
      | (apply wbx; exact rfl; exact rfl; exact rfl; intro _)
      | refine wc_block ?_
      | (apply wc_true; exact rfl)
      | (apply wc_false; exact rfl)
      | refine wc_skip ?_
      | refine wc_exit ?_
      | refine wc_ret ?_
      | refine we_then_exit ?_
      | refine we_then_ret ?_
      | refine we_in_normal ?_
      | refine we_in_ret ?_
      | refine we_in_here ?_
      | (apply we_in_there; exact rfl))
    exact we_ret1 (Or.inl rfl) rfl rfl fun w' h => ⟨rfl, h.ext_all⟩
end Go.Proofs.YtielloijdkoeiaaDoor
