/- The statement of chapter 8: what is built up is a chain. -/
import Derived.Test.YtielloijdkoeiaaDoorMa
import Derived.Test.YtielloijdkoeiaaDoorRv
namespace Go.Proofs.YtielloijdkoeiaaDoor
open Go Go.RowKit Go.Lib
set_option maxRecDepth 100000

/-- The chain built so far. -/
structure Bu where
  k : Nat
  xa : Option Addr
  xc : Nat
  xs : List Lnk
def Bu.ok (w0 : World) (node : Int) (n : Nat) (i : Bu) (w : World) : Prop :=
  Ext w0 w ∧ i.k ≤ n ∧ i.xs.length = i.k ∧ LkA w i.xa i.xc i.xs ∧ chkP i.xs = 0 ∧ ∀ x ∈ i.xs, x.node = node ∧ x.data.length ≤ 300

theorem Bu.add {w0 w : World} {node : Int} {n : Nat} {i : Bu} (h : i.ok w0 node n w) (hn : n ≤ 12) (h1 : ¬ node < 0) (h2 : ¬ 24 ≤ node) {dl : Nat} (hd : dl ≤ 300) : addE i.xs node dl = 0 := by
  obtain ⟨-, hk, hl, -, hc, hx⟩ := h
  have hoff : offB i.xs node = false := by
    unfold offB
    cases h0 : i.xs[0]? with
    | none => rfl
    | some x => simp [(hx x (List.mem_of_getElem? h0)).1]
  unfold addE
  rw [if_pos hc, if_neg, if_neg]
  · omega
  · simp [hoff, h1]
    omega
theorem Bu.small {w0 w : World} {node : Int} {n : Nat} {i : Bu} (h : i.ok w0 node n w) (hn : n ≤ 12) : smallP i.xs :=
  ⟨by have := h.2.1; have := h.2.2.1; omega, fun x hx => by have := (h.2.2.2.2.2 x hx).2; omega⟩

set_option maxHeartbeats 800000 in
theorem law_Built (node : Int) (a : Option Addr) (c : Nat) (ls : List Bd) (w : World) (hL : Laid w) (hnode : in64 node) (h : BdA w a c ls) : Fn 6 [.int .i64 node, .slice a ls.length c] w (Quiet (.bool true) w) := by
  refine fn_of (args := [.int .i64 node, .slice a ls.length c]) Tryd.func6 rfl Tryd.ntmps6 rfl (Hp.start w) ?_
  obtain ⟨n, hn⟩ : ∃ n : Nat, ls.length = n := ⟨_, rfl⟩
  rw [hn]
  by_cases n12 : n ≤ 12
  · by_cases n1 : node < 0
    · repeat (first
        | (apply ws; exact rfl; exact rfl; exact rfl)
        | (apply wq Tryd.call23; exact rfl; exact rfl; exact rfl; exact (fun w' h => sane08 w' (hL.ext h.ext_all)))
        | refine wc_seq ?_
        | refine wc_region ?_
        | refine wl_nil ?_
        | refine we_round ?_
        | refine we_then_wc ?_
        | (apply wi64; exact rfl; omega; omega; exact rfl; exact rfl)
        | (apply wfa; exact rfl; exact rfl; exact rfl; exact rfl)
        | (apply wct; exact rfl; omega; exact rfl; exact rfl)
        | (apply wcf; exact rfl; omega; exact rfl; exact rfl)
        | (apply wn; exact rfl; exact rfl)
        | (apply wlb (j := 0); exact rfl; exact rfl; exact rfl; exact rfl; exact rfl; exact rfl)
        | (apply wlb (j := 1); exact rfl; exact rfl; exact rfl; exact rfl; exact rfl; exact rfl)
        | (apply wlb (j := 2); exact rfl; exact rfl; exact rfl; exact rfl; exact rfl; exact rfl)
        | (apply wlb (j := 3); exact rfl; exact rfl; exact rfl; exact rfl; exact rfl; exact rfl)
        | (apply wln; exact rfl; exact rfl; exact rfl; exact rfl)
        | (apply wpu; exact rfl; exact rfl; exact rfl)
        | (apply wbx; exact rfl; exact rfl; exact rfl; intro _)
        | refine wc_block ?_
        | (apply wc_true; exact rfl)
        | (apply wc_false; exact rfl)
        | refine wc_skip ?_
        | refine wc_exit ?_
        | refine wc_ret ?_
        | refine we_then_exit ?_
        | refine we_then_ret ?_
        | refine we_in_normal ?_
        | refine we_in_ret ?_
        | refine we_in_here ?_
        | (apply we_in_there; exact rfl))
      exact we_ret1 (Or.inl rfl) rfl rfl fun w' h => ⟨rfl, h.ext_all⟩
    · by_cases n2 : 24 ≤ node
      · repeat (first
          | (apply ws; exact rfl; exact rfl; exact rfl)
          | (apply wq Tryd.call23; exact rfl; exact rfl; exact rfl; exact (fun w' h => sane08 w' (hL.ext h.ext_all)))
          | refine wc_seq ?_
          | refine wc_region ?_
          | refine wl_nil ?_
          | refine we_round ?_
          | refine we_then_wc ?_
          | (apply wi64; exact rfl; omega; omega; exact rfl; exact rfl)
          | (apply wfa; exact rfl; exact rfl; exact rfl; exact rfl)
          | (apply wct; exact rfl; omega; exact rfl; exact rfl)
          | (apply wcf; exact rfl; omega; exact rfl; exact rfl)
          | (apply wn; exact rfl; exact rfl)
          | (apply wlb (j := 0); exact rfl; exact rfl; exact rfl; exact rfl; exact rfl; exact rfl)
          | (apply wlb (j := 1); exact rfl; exact rfl; exact rfl; exact rfl; exact rfl; exact rfl)
          | (apply wlb (j := 2); exact rfl; exact rfl; exact rfl; exact rfl; exact rfl; exact rfl)
          | (apply wlb (j := 3); exact rfl; exact rfl; exact rfl; exact rfl; exact rfl; exact rfl)
          | (apply wln; exact rfl; exact rfl; exact rfl; exact rfl)
          | (apply wpu; exact rfl; exact rfl; exact rfl)
          | (apply wbx; exact rfl; exact rfl; exact rfl; intro _)
          | refine wc_block ?_
          | (apply wc_true; exact rfl)
          | (apply wc_false; exact rfl)
          | refine wc_skip ?_
          | refine wc_exit ?_
          | refine wc_ret ?_
          | refine we_then_exit ?_
          | refine we_then_ret ?_
          | refine we_in_normal ?_
          | refine we_in_ret ?_
          | refine we_in_here ?_
          | (apply we_in_there; exact rfl))
        exact we_ret1 (Or.inl rfl) rfl rfl fun w' h => ⟨rfl, h.ext_all⟩
      · repeat (first
          | (apply ws; exact rfl; exact rfl; exact rfl)
          | (apply wq Tryd.call23; exact rfl; exact rfl; exact rfl; exact (fun w' h => sane08 w' (hL.ext h.ext_all)))
          | refine wc_seq ?_
          | refine wc_region ?_
          | refine wl_nil ?_
          | refine we_round ?_
          | refine we_then_wc ?_
          | (apply wi64; exact rfl; omega; omega; exact rfl; exact rfl)
          | (apply wfa; exact rfl; exact rfl; exact rfl; exact rfl)
          | (apply wct; exact rfl; omega; exact rfl; exact rfl)
          | (apply wcf; exact rfl; omega; exact rfl; exact rfl)
          | (apply wn; exact rfl; exact rfl)
          | (apply wlb (j := 0); exact rfl; exact rfl; exact rfl; exact rfl; exact rfl; exact rfl)
          | (apply wlb (j := 1); exact rfl; exact rfl; exact rfl; exact rfl; exact rfl; exact rfl)
          | (apply wlb (j := 2); exact rfl; exact rfl; exact rfl; exact rfl; exact rfl; exact rfl)
          | (apply wlb (j := 3); exact rfl; exact rfl; exact rfl; exact rfl; exact rfl; exact rfl)
          | (apply wln; exact rfl; exact rfl; exact rfl; exact rfl)
          | (apply wpu; exact rfl; exact rfl; exact rfl)
          | (apply wbx; exact rfl; exact rfl; exact rfl; intro _)
          | refine wc_block ?_
          | (apply wc_true; exact rfl)
          | (apply wc_false; exact rfl)
          | refine wc_skip ?_
          | refine wc_exit ?_
          | refine wc_ret ?_
          | refine we_then_exit ?_
          | refine we_then_ret ?_
          | refine we_in_normal ?_
          | refine we_in_ret ?_
          | refine we_in_here ?_
          | (apply we_in_there; exact rfl))
        refine wc_loop_w (ι := Bu) (fun i => [(5, .slice i.xa i.k i.xc), (6, .int .i64 (i.k : Int)), (0, .int .i64 node), (1, .slice a n c)]) (fun i w1 => i.ok w node n w1) (fun i => n - i.k) { k := 0, xa := none, xc := 0, xs := [] }
          (fun w1 h1 => ⟨h1.ext_all, Nat.zero_le _, rfl, LkA.nil w1, rfl, fun x hx => by cases hx⟩) ⟨rfl, rfl, rfl, rfl, trivial⟩ ?_
        rintro ⟨k, xa, xc, xs⟩ w1 hi
        have hsm := Bu.small hi n12
        have hadd := fun {dl : Nat} (hd : dl ≤ 300) => Bu.add hi n12 n1 n2 hd
        obtain ⟨E1, hk, hxl, hK, hC, hX⟩ := hi
        simp only at hk hxl hK hC hX hsm hadd
        dsimp only
        have hL1 := hL.ext E1
        by_cases hkn : k = n
        · subst hkn
          have hcc := hK.1
          repeat (first
            | (apply ws; exact rfl; exact rfl; exact rfl)
            | refine wc_seq ?_
            | refine wc_region ?_
            | refine wl_nil ?_
            | refine we_round ?_
            | refine we_then_wc ?_
            | (apply wi64; exact rfl; omega; omega; exact rfl; exact rfl)
            | (apply wfa; exact rfl; exact rfl; exact rfl; exact rfl)
            | (apply wct; exact rfl; omega; exact rfl; exact rfl)
            | (apply wcf; exact rfl; omega; exact rfl; exact rfl)
            | (apply wn; exact rfl; exact rfl)
            | (apply wlb (j := 0); exact rfl; exact rfl; exact rfl; exact rfl; exact rfl; exact rfl)
            | (apply wlb (j := 1); exact rfl; exact rfl; exact rfl; exact rfl; exact rfl; exact rfl)
            | (apply wlb (j := 2); exact rfl; exact rfl; exact rfl; exact rfl; exact rfl; exact rfl)
            | (apply wlb (j := 3); exact rfl; exact rfl; exact rfl; exact rfl; exact rfl; exact rfl)
            | (apply wln; exact rfl; exact rfl; exact rfl; exact rfl)
            | (apply wpu; exact rfl; exact rfl; exact rfl)
            | (apply wbx; exact rfl; exact rfl; exact rfl; intro _)
            | refine wc_block ?_
            | (apply wc_true; exact rfl)
            | (apply wc_false; exact rfl)
            | refine wc_skip ?_
            | refine wc_exit ?_
            | refine wc_ret ?_
            | refine we_then_exit ?_
            | refine we_then_ret ?_
            | refine we_in_normal ?_
            | refine we_in_ret ?_
            | refine we_in_here ?_
            | (apply we_in_there; exact rfl))
          refine wc_loop (ι := Nat) (fun j => [(9, .int .i64 (j : Int)), (5, .slice xa k xc)]) (fun _ => []) (fun j => j ≤ k + 1) (fun j => k + 1 - j) 0 (Nat.zero_le _) ⟨rfl, rfl, trivial⟩ (List.nil_sublist _) ?_
          intro j hj
          by_cases hjk : j = k + 1
          · subst hjk
            repeat (first
              | (apply ws; exact rfl; exact rfl; exact rfl)
              | refine wc_seq ?_
              | refine wc_region ?_
              | refine wl_nil ?_
              | refine we_round ?_
              | refine we_then_wc ?_
              | (apply wi64; exact rfl; omega; omega; exact rfl; exact rfl)
              | (apply wfa; exact rfl; exact rfl; exact rfl; exact rfl)
              | (apply wct; exact rfl; omega; exact rfl; exact rfl)
              | (apply wcf; exact rfl; omega; exact rfl; exact rfl)
              | (apply wn; exact rfl; exact rfl)
              | (apply wlb (j := 0); exact rfl; exact rfl; exact rfl; exact rfl; exact rfl; exact rfl)
              | (apply wlb (j := 1); exact rfl; exact rfl; exact rfl; exact rfl; exact rfl; exact rfl)
              | (apply wlb (j := 2); exact rfl; exact rfl; exact rfl; exact rfl; exact rfl; exact rfl)
              | (apply wlb (j := 3); exact rfl; exact rfl; exact rfl; exact rfl; exact rfl; exact rfl)
              | (apply wln; exact rfl; exact rfl; exact rfl; exact rfl)
              | (apply wpu; exact rfl; exact rfl; exact rfl)
              | (apply wbx; exact rfl; exact rfl; exact rfl; intro _)
              | refine wc_block ?_
              | (apply wc_true; exact rfl)
              | (apply wc_false; exact rfl)
              | refine wc_skip ?_
              | refine wc_exit ?_
              | refine wc_ret ?_
              | refine we_then_exit ?_
              | refine we_then_ret ?_
              | refine we_in_normal ?_
              | refine we_in_ret ?_
              | refine we_in_here ?_
              | (apply we_in_there; exact rfl))
            exact we_ret1 (Or.inl rfl) rfl rfl fun w' h => ⟨rfl, E1.trans h.ext_all⟩
          · have hck : ∀ w', Ext w1 w' → Fn 31 [.slice xa j xc] w' (Quiet (.int .i64 0) w') := fun w' e => by
              have e1 : (xs.take j).length = j := by simp; omega
              have := chain_Check xa xc (xs.take j) (hsm.take j).1 (hsm.take j).2 w' (hL1.ext e) ((hK.take j).ext e)
              rwa [e1, chkP_take j hC] at this
            repeat (first
              | (apply ws; exact rfl; exact rfl; exact rfl)
              | refine wl_still rfl rfl rfl (od_sliceTo j rfl rfl rfl ⟨_, _, rfl, rfl⟩ (by omega)) ?_
              | (apply wq Tryd.call31; exact rfl; exact rfl; exact rfl; exact (fun w' hw => hck w' hw.ext_all))
              | refine wc_seq ?_
              | refine wc_region ?_
              | refine wl_nil ?_
              | refine we_round ?_
              | refine we_then_wc ?_
              | (apply wi64; exact rfl; omega; omega; exact rfl; exact rfl)
              | (apply wfa; exact rfl; exact rfl; exact rfl; exact rfl)
              | (apply wct; exact rfl; omega; exact rfl; exact rfl)
              | (apply wcf; exact rfl; omega; exact rfl; exact rfl)
              | (apply wn; exact rfl; exact rfl)
              | (apply wlb (j := 0); exact rfl; exact rfl; exact rfl; exact rfl; exact rfl; exact rfl)
              | (apply wlb (j := 1); exact rfl; exact rfl; exact rfl; exact rfl; exact rfl; exact rfl)
              | (apply wlb (j := 2); exact rfl; exact rfl; exact rfl; exact rfl; exact rfl; exact rfl)
              | (apply wlb (j := 3); exact rfl; exact rfl; exact rfl; exact rfl; exact rfl; exact rfl)
              | (apply wln; exact rfl; exact rfl; exact rfl; exact rfl)
              | (apply wpu; exact rfl; exact rfl; exact rfl)
              | (apply wbx; exact rfl; exact rfl; exact rfl; intro _)
              | refine wc_block ?_
              | (apply wc_true; exact rfl)
              | (apply wc_false; exact rfl)
              | refine wc_skip ?_
              | refine wc_exit ?_
              | refine wc_ret ?_
              | refine we_then_exit ?_
              | refine we_then_ret ?_
              | refine we_in_normal ?_
              | refine we_in_ret ?_
              | refine we_in_here ?_
              | (apply we_in_there; exact rfl))
            exact we_again (j + 1) (by omega) (by omega) ⟨rfl, rfl, trivial⟩ (List.nil_sublist _)
        · obtain ⟨y, b, o, hy, ea, hby, hcl⟩ := (h.ext E1).get k (by omega)
          subst ea
          by_cases hd : 300 < y.data.length
          · repeat (first
              | (apply ws; exact rfl; exact rfl; exact rfl)
              | refine wl_still rfl rfl rfl (od_indexAddr1 k rfl rfl rfl rfl rfl (by omega)) ?_
              | (apply wlo; exact rfl; exact rfl; exact hcl; exact List.not_mem_nil; exact rfl; exact rfl)
              | refine wc_seq ?_
              | refine wc_region ?_
              | refine wl_nil ?_
              | refine we_round ?_
              | refine we_then_wc ?_
              | (apply wi64; exact rfl; omega; omega; exact rfl; exact rfl)
              | (apply wfa; exact rfl; exact rfl; exact rfl; exact rfl)
              | (apply wct; exact rfl; omega; exact rfl; exact rfl)
              | (apply wcf; exact rfl; omega; exact rfl; exact rfl)
              | (apply wn; exact rfl; exact rfl)
              | (apply wlb (j := 0); exact rfl; exact rfl; exact rfl; exact rfl; exact rfl; exact rfl)
              | (apply wlb (j := 1); exact rfl; exact rfl; exact rfl; exact rfl; exact rfl; exact rfl)
              | (apply wlb (j := 2); exact rfl; exact rfl; exact rfl; exact rfl; exact rfl; exact rfl)
              | (apply wlb (j := 3); exact rfl; exact rfl; exact rfl; exact rfl; exact rfl; exact rfl)
              | (apply wln; exact rfl; exact rfl; exact rfl; exact rfl)
              | (apply wpu; exact rfl; exact rfl; exact rfl)
              | (apply wbx; exact rfl; exact rfl; exact rfl; intro _)
              | refine wc_block ?_
              | (apply wc_true; exact rfl)
              | (apply wc_false; exact rfl)
              | refine wc_skip ?_
              | refine wc_exit ?_
              | refine wc_ret ?_
              | refine we_then_exit ?_
              | refine we_then_ret ?_
              | refine we_in_normal ?_
              | refine we_in_ret ?_
              | refine we_in_here ?_
              | (apply we_in_there; exact rfl))
            exact we_ret1 (Or.inl rfl) rfl rfl fun w' h => ⟨rfl, E1.trans h.ext_all⟩
          · subst hxl
            repeat (first
              | (apply ws; exact rfl; exact rfl; exact rfl)
              | refine wl_still rfl rfl rfl (od_indexAddr1 xs.length rfl rfl rfl rfl rfl (by omega)) ?_
              | (apply wlo; exact rfl; exact rfl; exact hcl; exact List.not_mem_nil; exact rfl; exact rfl)
              | refine wc_seq ?_
              | refine wc_region ?_
              | refine wl_nil ?_
              | refine we_round ?_
              | refine we_then_wc ?_
              | (apply wi64; exact rfl; omega; omega; exact rfl; exact rfl)
              | (apply wfa; exact rfl; exact rfl; exact rfl; exact rfl)
              | (apply wct; exact rfl; omega; exact rfl; exact rfl)
              | (apply wcf; exact rfl; omega; exact rfl; exact rfl)
              | (apply wn; exact rfl; exact rfl)
              | (apply wlb (j := 0); exact rfl; exact rfl; exact rfl; exact rfl; exact rfl; exact rfl)
              | (apply wlb (j := 1); exact rfl; exact rfl; exact rfl; exact rfl; exact rfl; exact rfl)
              | (apply wlb (j := 2); exact rfl; exact rfl; exact rfl; exact rfl; exact rfl; exact rfl)
              | (apply wlb (j := 3); exact rfl; exact rfl; exact rfl; exact rfl; exact rfl; exact rfl)
              | (apply wln; exact rfl; exact rfl; exact rfl; exact rfl)
              | (apply wpu; exact rfl; exact rfl; exact rfl)
              | (apply wbx; exact rfl; exact rfl; exact rfl; intro _)
              | refine wc_block ?_
              | (apply wc_true; exact rfl)
              | (apply wc_false; exact rfl)
              | refine wc_skip ?_
              | refine wc_exit ?_
              | refine wc_ret ?_
              | refine we_then_exit ?_
              | refine we_then_ret ?_
              | refine we_in_normal ?_
              | refine we_in_ret ?_
              | refine we_in_here ?_
              | (apply we_in_there; exact rfl))
            refine wl_fact rfl rfl rfl (od_call Tryd.call25 rfl (fun w' hw => chain_Add_ok xa xc xs node y.da y.dc y.data hsm hnode w' (hL1.ext hw.ext_all) (hK.ext hw.ext_all) (hby.ext hw.ext_all) (hadd (by omega)))) ?_
            rintro w2 v w3 hw2 ⟨e23, ya, yc, x', rfl, hK3, q1, q2, q3, q4⟩
            have E13 : Ext w1 w3 := hw2.ext_all.trans e23
            have hC3 : chkP (xs ++ [x']) = 0 := addE_chk (hadd (dl := y.data.length) (by omega)) (by omega) q1 q2 q3 q4
            have hL3 := hL1.ext E13
            have hKx := hK.ext E13
            have hby3 := hby.ext E13
            have hl1 : xs.length < (xs ++ [x']).length := by simp
            have hx' : (xs ++ [x'])[xs.length]? = some x' := by simp
            obtain ⟨b2, o2, ea2, okx, hcx⟩ := hK3.at hx'
            subst ea2
            have hyc := hK3.1
            simp only [List.length_append, List.length_cons, List.length_nil, Nat.zero_add] at hyc
            have hsame : ∀ w', Ext w3 w' → Fn 29 [.slice (some ⟨b2, o2, none⟩) xs.length yc, .slice xa xs.length xc] w' (Quiet (.bool true) w') := fun w' e => by
              have e1 : ((xs ++ [x']).take xs.length) = xs := by simp
              have := ref_Same (some ⟨b2, o2, none⟩) xa yc xc ((xs ++ [x']).take xs.length) xs (by simp; omega) w' ((hK3.take xs.length).ext e) (hKx.ext e)
              rw [e1] at this
              have e2 : sameB xs xs = true := by
                unfold sameB
                cases hd : diffP xs xs with
                | none => simp
                | some i =>
                  obtain ⟨⟨u, v, h1, h2, h3⟩, -⟩ := diffP_some hd
                  rw [h1] at h2
                  cases h2
                  rw [sameL_refl] at h3
                  cases h3
              rwa [e2] at this
            have hhead : ∀ w', Ext w3 w' → Fn 30 [.slice xa xs.length xc] w' (Quiet (digV (headP xs)) w') := fun w' e => chain_Head xa xc xs hsm.1 hsm.2 w' (hL3.ext e) (hKx.ext e)
            have hp32 := headP_length xs
            have hpv := prev_cells hcx
            have lpv : (x'.prev.map v8).length = 32 := by simp [okx.prev]
            have hno := hcx 1 _ rfl
            have hnd := hcx 0 _ rfl
            have hdv := hcx 34 _ okx.c34
            have hcl3 : w3.cell? ⟨b, o + xs.length, none⟩ = some y.v := by rw [E13.cell (p := ⟨b, o + xs.length, none⟩) (cell_lt hcl)]; exact hcl
            have hD : decide (x'.prev ≠ headP xs) = false := by rw [q3]; simp
            have hkc : (xs ++ [x']).length = xs.length + 1 := by simp
            have hXn : ∀ z ∈ xs ++ [x'], z.node = node ∧ z.data.length ≤ 300 := fun z hz => by
              rcases List.mem_append.1 hz with hz | hz
              · exact hX z hz
              · simp at hz; subst hz; exact ⟨q1, by rw [q4]; omega⟩
            generalize headP xs = hp at *
            repeat (first
              | (apply ws; exact rfl; exact rfl; exact rfl)
              | refine wc_seq ?_
              | refine wc_region ?_
              | refine wl_nil ?_
              | refine we_round ?_
              | refine we_then_wc ?_
              | (apply wi64; exact rfl; omega; omega; exact rfl; exact rfl)
              | (apply wfa; exact rfl; exact rfl; exact rfl; exact rfl)
              | (apply wct; exact rfl; omega; exact rfl; exact rfl)
              | (apply wcf; exact rfl; omega; exact rfl; exact rfl)
              | (apply wn; exact rfl; exact rfl)
              | (apply wlb (j := 0); exact rfl; exact rfl; exact rfl; exact rfl; exact rfl; exact rfl)
              | (apply wlb (j := 1); exact rfl; exact rfl; exact rfl; exact rfl; exact rfl; exact rfl)
              | (apply wlb (j := 2); exact rfl; exact rfl; exact rfl; exact rfl; exact rfl; exact rfl)
              | (apply wlb (j := 3); exact rfl; exact rfl; exact rfl; exact rfl; exact rfl; exact rfl)
              | (apply wln; exact rfl; exact rfl; exact rfl; exact rfl)
              | (apply wpu; exact rfl; exact rfl; exact rfl)
              | (apply wbx; exact rfl; exact rfl; exact rfl; intro _)
              | refine wc_block ?_
              | (apply wc_true; exact rfl)
              | (apply wc_false; exact rfl)
              | refine wc_skip ?_
              | refine wc_exit ?_
              | refine wc_ret ?_
              | refine we_then_exit ?_
              | refine we_then_ret ?_
              | refine we_in_normal ?_
              | refine we_in_ret ?_
              | refine we_in_here ?_
              | (apply we_in_there; exact rfl))
            refine wc_plan _ none [(0, true), (1, true), (2, true), (3, true), (4, true), (5, true), (6, true), (7, true), (8, true), (9, true), (10, true), (11, true), (12, true), (13, true), (14, true), (15, true), (16, true), (17, true), (18, true), (19, true), (20, true), (21, true), (22, true), (23, true), (24, true), (25, true), (26, true), (27, true), (28, true), (29, true), (30, true), (31, true), (32, true), (33, true), (34, true), (35, true), (36, true), (37, true), (38, true), (39, true), (40, true), (41, true), (42, true), (43, true), (44, true), (45, true), (46, true), (47, true), (48, true), (49, true), (50, true), (51, true), (52, true), (53, true), (54, true), (55, true), (56, true), (57, true), (58, true)] (by kernel_rfl) (List.Sublist.refl _) ?_
            repeat (first
              | (apply ps; exact rfl; exact rfl; exact rfl; exact rfl)
              | (apply wp_still; exact rfl; exact rfl; exact rfl; exact (od_sliceTo xs.length rfl rfl rfl ⟨_, _, rfl, rfl⟩ (by omega)))
              | (apply pq Tryd.call29; exact rfl; exact rfl; exact rfl; exact rfl; exact (fun w' hw => hsame w' hw.ext_all))
              | (apply wp_still; exact rfl; exact rfl; exact rfl; exact (od_indexAddr1 xs.length rfl rfl rfl rfl rfl (by omega)))
              | (apply wp_still; exact rfl; exact rfl; exact rfl; exact (od_indexAddr xs.length rfl rfl rfl rfl rfl (by omega)))
              | (apply wp_still; exact rfl; exact rfl; exact rfl; exact (od_loadAO rfl rfl rfl lpv hpv (by simp)))
              | (apply pq Tryd.call30; exact rfl; exact rfl; exact rfl; exact rfl; exact (fun w' hw => hhead w' hw.ext_all))
              | (apply wp_still; exact rfl; exact rfl; exact rfl; exact (od_eqD (xs := x'.prev) (ys := hp) (Or.inr ⟨rfl, hD⟩) rfl rfl okx.prev hp32))
              | (apply plo; exact rfl; exact rfl; exact rfl; exact hno; exact List.not_mem_nil; exact rfl; exact rfl)
              | (apply plo; exact rfl; exact rfl; exact rfl; exact hnd; exact List.not_mem_nil; exact rfl; exact rfl)
              | (apply plo; exact rfl; exact rfl; exact rfl; exact hdv; exact List.not_mem_nil; exact rfl; exact rfl)
              | (apply plo; exact rfl; exact rfl; exact rfl; exact hcl3; exact List.not_mem_nil; exact rfl; exact rfl)
              | (apply wp_still; exact rfl; exact rfl; exact rfl; exact (od_toStr rfl rfl rfl (fun w' hw => okx.data.ext hw.ext_all)))
              | (apply wp_still; exact rfl; exact rfl; exact rfl; exact (od_toStr rfl rfl rfl (fun w' hw => hby3.ext hw.ext_all)))
              | (apply wp_still; exact rfl; exact rfl; exact rfl; exact (od_eqS (a := x'.data) (b := y.data) (r := false) (Or.inr ⟨rfl, by simpa using q4⟩) rfl rfl))
              | (apply pfa; exact rfl; exact rfl; exact rfl; exact rfl; exact rfl)
              | (apply pi64; exact rfl; exact rfl; omega; omega; exact rfl; exact rfl)
              | (apply pct; exact rfl; exact rfl; omega; exact rfl; exact rfl)
              | (apply pcf; exact rfl; exact rfl; omega; exact rfl; exact rfl)
              | (apply wp_not; exact rfl; exact rfl; exact rfl)
              | (apply plb (j := 0); exact rfl; exact rfl; exact rfl; exact rfl; exact rfl; exact rfl; exact rfl)
              | (apply plb (j := 1); exact rfl; exact rfl; exact rfl; exact rfl; exact rfl; exact rfl; exact rfl)
              | (apply plb (j := 2); exact rfl; exact rfl; exact rfl; exact rfl; exact rfl; exact rfl; exact rfl)
              | (apply pln; exact rfl; exact rfl; exact rfl; exact rfl; exact rfl)
              | (apply ppu; exact rfl; exact rfl; exact rfl; exact rfl)
              | (apply pfs; exact rfl; exact rfl; exact rfl; exact rfl)
              | apply wp_nil)
            repeat (first
              | (apply ws; exact rfl; exact rfl; exact rfl)
              | refine wc_seq ?_
              | refine wc_region ?_
              | refine wl_nil ?_
              | refine we_round ?_
              | refine we_then_wc ?_
              | (apply wi64; exact rfl; omega; omega; exact rfl; exact rfl)
              | (apply wfa; exact rfl; exact rfl; exact rfl; exact rfl)
              | (apply wct; exact rfl; omega; exact rfl; exact rfl)
              | (apply wcf; exact rfl; omega; exact rfl; exact rfl)
              | (apply wn; exact rfl; exact rfl)
              | (apply wlb (j := 0); exact rfl; exact rfl; exact rfl; exact rfl; exact rfl; exact rfl)
              | (apply wlb (j := 1); exact rfl; exact rfl; exact rfl; exact rfl; exact rfl; exact rfl)
              | (apply wlb (j := 2); exact rfl; exact rfl; exact rfl; exact rfl; exact rfl; exact rfl)
              | (apply wlb (j := 3); exact rfl; exact rfl; exact rfl; exact rfl; exact rfl; exact rfl)
              | (apply wln; exact rfl; exact rfl; exact rfl; exact rfl)
              | (apply wpu; exact rfl; exact rfl; exact rfl)
              | (apply wbx; exact rfl; exact rfl; exact rfl; intro _)
              | refine wc_block ?_
              | (apply wc_true; exact rfl)
              | (apply wc_false; exact rfl)
              | refine wc_skip ?_
              | refine wc_exit ?_
              | refine wc_ret ?_
              | refine we_then_exit ?_
              | refine we_then_ret ?_
              | refine we_in_normal ?_
              | refine we_in_ret ?_
              | refine we_in_here ?_
              | (apply we_in_there; exact rfl))
            exact we_againW { k := xs.length + 1, xa := some ⟨b2, o2, none⟩, xc := yc, xs := xs ++ [x'] } (fun w' hw => ⟨E1.trans (E13.trans hw.ext_all), by simp only; omega, hkc, hK3.ext hw.ext_all, hC3, hXn⟩) (by simp only; omega) ⟨rfl, rfl, rfl, rfl, trivial⟩
  · repeat (first
      | (apply ws; exact rfl; exact rfl; exact rfl)
      | (apply wq Tryd.call23; exact rfl; exact rfl; exact rfl; exact (fun w' h => sane08 w' (hL.ext h.ext_all)))
      | refine wc_seq ?_
      | refine wc_region ?_
      | refine wl_nil ?_
      | refine we_round ?_
      | refine we_then_wc ?_
      | (apply wi64; exact rfl; omega; omega; exact rfl; exact rfl)
      | (apply wfa; exact rfl; exact rfl; exact rfl; exact rfl)
      | (apply wct; exact rfl; omega; exact rfl; exact rfl)
      | (apply wcf; exact rfl; omega; exact rfl; exact rfl)
      | (apply wn; exact rfl; exact rfl)
      | (apply wlb (j := 0); exact rfl; exact rfl; exact rfl; exact rfl; exact rfl; exact rfl)
      | (apply wlb (j := 1); exact rfl; exact rfl; exact rfl; exact rfl; exact rfl; exact rfl)
      | (apply wlb (j := 2); exact rfl; exact rfl; exact rfl; exact rfl; exact rfl; exact rfl)
      | (apply wlb (j := 3); exact rfl; exact rfl; exact rfl; exact rfl; exact rfl; exact rfl)
      | (apply wln; exact rfl; exact rfl; exact rfl; exact rfl)
      | (apply wpu; exact rfl; exact rfl; exact rfl)
      | (apply wbx; exact rfl; exact rfl; exact rfl; intro _)
      | refine wc_block ?_
      | (apply wc_true; exact rfl)
      | (apply wc_false; exact rfl)
      | refine wc_skip ?_
      | refine wc_exit ?_
      | refine wc_ret ?_
      | refine we_then_exit ?_
      | refine we_then_ret ?_
      | refine we_in_normal ?_
      | refine we_in_ret ?_
      | refine we_in_here ?_
      | (apply we_in_there; exact rfl))
    exact we_ret1 (Or.inl rfl) rfl rfl fun w' h => ⟨rfl, h.ext_all⟩
end Go.Proofs.YtielloijdkoeiaaDoor
