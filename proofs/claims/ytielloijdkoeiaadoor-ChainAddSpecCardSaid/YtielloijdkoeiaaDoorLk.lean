/- The examples of chapter 8's statements. -/
import Derived.Test.YtielloijdkoeiaaDoorLj
namespace Go.Proofs.YtielloijdkoeiaaDoor
open Go Go.RowKit Go.Lib
set_option maxRecDepth 100000

theorem small0 : smallP [] := ⟨by simp, fun x hx => by cases hx⟩
theorem small1 {x : Lnk} (h : x.data.length ≤ 2 ^ 20) : smallP [x] := ⟨by simp, fun y hy => by simp at hy; subst hy; exact h⟩
theorem small2 {x y : Lnk} (h : x.data.length ≤ 2 ^ 20) (h' : y.data.length ≤ 2 ^ 20) : smallP [x, y] := ⟨by simp, fun z hz => by
  simp only [List.mem_cons, List.not_mem_nil, or_false] at hz
  rcases hz with rfl | rfl
  · exact h
  · exact h'⟩

theorem lit_by {w0 w : World} {bs : Blks} {b : Nat} {c : UInt8} (h : Hp w0 [] w bs) {j : Nat} (hj : bs[j]? = some (b, [v8 c], 5)) : ByA w (some ⟨b, 0, none⟩) 1 [c] :=
  ByA.of_rd (by simp) fun i x hx => h.cell_blk hj (cells_map (l := [c]) (sp := []) 0 rfl i x hx)

theorem prev_cells {w : World} {b o : Nat} {x : Lnk} (h : ∀ i v, x.cells[i]? = some v → w.cell? ⟨b, o + i, none⟩ = some v) : ∀ i v, (x.prev.map v8)[i]? = some v → w.cell? ⟨b, o + 2 + i, none⟩ = some v := by
  intro i v hv
  rw [List.getElem?_map] at hv
  cases hx : x.prev[i]? with
  | none => simp [hx] at hv
  | some y =>
    simp [hx] at hv
    subst hv
    rw [Nat.add_assoc]
    exact h (2 + i) _ (Lnk.prev_get hx)

theorem sane_text (p : List UInt8) (hp : p.length = 32) : encL [.I 3, .I 0, .T p, .T [120]] = ([3, 4, 1, 6, 1, 0, 2, 32] ++ p) ++ [2, 1, 120] := by
  have e4 : numL 4 = [4] := numL_lt (by omega)
  have e6 : numL (zz 3) = [6] := numL_lt (by decide)
  have e0 : numL (zz 0) = [0] := numL_lt (by decide)
  have e32 : numL 32 = [32] := numL_lt (by omega)
  have e1 : numL 1 = [1] := numL_lt (by omega)
  simp [encL, Lf.enc, hp, e4, e6, e0, e32, e1]

def zLnk1 : Lnk := { node := 0, no := 1, prev := List.replicate 32 0, data := [], da := none, dc := 0 }
theorem zLnk1_chk : chkP [zLnk1] = 80 := by
  have : okB [zLnk1] 0 = false := by simp [okB, zLnk1]
  simp [chkP, this]

set_option maxHeartbeats 800000 in
theorem sane08 (w : World) (hL : Laid w) : Fn 23 [] w (Quiet (.bool true) w) := by
  refine fn_of (args := []) Tryd.func23 rfl Tryd.ntmps23 rfl (Hp.start w) ?_
  repeat (first
    | (apply ws; exact rfl; exact rfl; exact rfl)
    | refine wc_seq ?_
    | refine wc_region ?_
    | refine wl_nil ?_
    | refine we_round ?_
    | refine we_then_wc ?_
    | (apply wi64; exact rfl; omega; omega; exact rfl; exact rfl)
    | (apply wfa; exact rfl; exact rfl; exact rfl; exact rfl)
    | (apply wct; exact rfl; omega; exact rfl; exact rfl)
    | (apply wcf; exact rfl; omega; exact rfl; exact rfl)
    | (apply wn; exact rfl; exact rfl)
    | (apply wlb (j := 0); exact rfl; exact rfl; exact rfl; exact rfl; exact rfl; exact rfl)
    | (apply wlb (j := 1); exact rfl; exact rfl; exact rfl; exact rfl; exact rfl; exact rfl)
    | (apply wlb (j := 2); exact rfl; exact rfl; exact rfl; exact rfl; exact rfl; exact rfl)
    | (apply wlb (j := 3); exact rfl; exact rfl; exact rfl; exact rfl; exact rfl; exact rfl)
    | (apply wln; exact rfl; exact rfl; exact rfl; exact rfl)
    | (apply wpu; exact rfl; exact rfl; exact rfl)
    | (apply wbx; exact rfl; exact rfl; exact rfl; intro _)
    | refine wc_block ?_
    | (apply wc_true; exact rfl)
    | (apply wc_false; exact rfl)
    | refine wc_skip ?_
    | refine wc_exit ?_
    | refine wc_ret ?_
    | refine we_then_exit ?_
    | refine we_then_ret ?_
    | refine we_in_normal ?_
    | refine we_in_ret ?_
    | refine we_in_here ?_
    | (apply we_in_there; exact rfl))
  refine wl_lit [v8 120] rfl rfl rfl rfl rfl (by simp [Value.cells]) (by omega) rfl ?_
  intro b1
  refine wl_fact rfl rfl rfl (od_call Tryd.call25 rfl (fun w' h => chain_Add_ok none 0 [] 3 (some ⟨b1, 0, none⟩) 1 [120] small0 (by unfold in64; omega) w' (hL.ext h.ext_all) (LkA.nil w') (lit_by (j := 0) h rfl) (by simp [addE, chkP_nil, offB]))) ?_
  rintro w1 v w2 hw1 ⟨e12, a1, c1, x1, rfl, hK1, q1, q2, q3, q4⟩
  have E2 : Ext w w2 := hw1.ext_all.trans e12
  have C1 : chkP [x1] = 0 := addE_chk (xs := []) (node := 3) (data := [120]) (by simp [addE, chkP_nil, offB]) (by simp) q1 q2 q3 q4
  have hK1 : LkA w2 a1 c1 [x1] := hK1
  have hoff1 : ∀ nd, offB [x1] nd = decide (nd ≠ 3) := fun nd => by simp [offB, q1]
  have hs1 : smallP [x1] := small1 (by rw [q4]; simp)
  clear hw1 e12
  repeat (first
    | (apply ws; exact rfl; exact rfl; exact rfl)
    | refine wc_seq ?_
    | refine wc_region ?_
    | refine wl_nil ?_
    | refine we_round ?_
    | refine we_then_wc ?_
    | (apply wi64; exact rfl; omega; omega; exact rfl; exact rfl)
    | (apply wfa; exact rfl; exact rfl; exact rfl; exact rfl)
    | (apply wct; exact rfl; omega; exact rfl; exact rfl)
    | (apply wcf; exact rfl; omega; exact rfl; exact rfl)
    | (apply wn; exact rfl; exact rfl)
    | (apply wlb (j := 0); exact rfl; exact rfl; exact rfl; exact rfl; exact rfl; exact rfl)
    | (apply wlb (j := 1); exact rfl; exact rfl; exact rfl; exact rfl; exact rfl; exact rfl)
    | (apply wlb (j := 2); exact rfl; exact rfl; exact rfl; exact rfl; exact rfl; exact rfl)
    | (apply wlb (j := 3); exact rfl; exact rfl; exact rfl; exact rfl; exact rfl; exact rfl)
    | (apply wln; exact rfl; exact rfl; exact rfl; exact rfl)
    | (apply wpu; exact rfl; exact rfl; exact rfl)
    | (apply wbx; exact rfl; exact rfl; exact rfl; intro _)
    | refine wc_block ?_
    | (apply wc_true; exact rfl)
    | (apply wc_false; exact rfl)
    | refine wc_skip ?_
    | refine wc_exit ?_
    | refine wc_ret ?_
    | refine we_then_exit ?_
    | refine we_then_ret ?_
    | refine we_in_normal ?_
    | refine we_in_ret ?_
    | refine we_in_here ?_
    | (apply we_in_there; exact rfl))
  refine wl_lit [v8 121] rfl rfl rfl rfl rfl (by simp [Value.cells]) (by omega) rfl ?_
  intro b2
  refine wl_fact rfl rfl rfl (od_call Tryd.call25 rfl (fun w' h => chain_Add_ok a1 c1 [x1] 3 (some ⟨b2, 0, none⟩) 1 [121] hs1 (by unfold in64; omega) w' (hL.ext (E2.trans h.ext_all)) (hK1.ext h.ext_all) (lit_by (j := 0) h rfl) (by simp [addE, C1, hoff1]))) ?_
  rintro w3 v w4 hw3 ⟨e34, a2, c2, x2, rfl, hK2, r1, r2, r3, r4⟩
  have E4 : Ext w w4 := E2.trans (hw3.ext_all.trans e34)
  have C2 : chkP [x1, x2] = 0 := addE_chk (xs := [x1]) (node := 3) (data := [121]) (by simp [addE, C1, hoff1]) (by simp) r1 r2 r3 r4
  have hK2 : LkA w4 a2 c2 [x1, x2] := hK2
  replace hK1 := hK1.ext (hw3.ext_all.trans e34)
  clear hw3 e34
  repeat (first
    | (apply ws; exact rfl; exact rfl; exact rfl)
    | refine wc_seq ?_
    | refine wc_region ?_
    | refine wl_nil ?_
    | refine we_round ?_
    | refine we_then_wc ?_
    | (apply wi64; exact rfl; omega; omega; exact rfl; exact rfl)
    | (apply wfa; exact rfl; exact rfl; exact rfl; exact rfl)
    | (apply wct; exact rfl; omega; exact rfl; exact rfl)
    | (apply wcf; exact rfl; omega; exact rfl; exact rfl)
    | (apply wn; exact rfl; exact rfl)
    | (apply wlb (j := 0); exact rfl; exact rfl; exact rfl; exact rfl; exact rfl; exact rfl)
    | (apply wlb (j := 1); exact rfl; exact rfl; exact rfl; exact rfl; exact rfl; exact rfl)
    | (apply wlb (j := 2); exact rfl; exact rfl; exact rfl; exact rfl; exact rfl; exact rfl)
    | (apply wlb (j := 3); exact rfl; exact rfl; exact rfl; exact rfl; exact rfl; exact rfl)
    | (apply wln; exact rfl; exact rfl; exact rfl; exact rfl)
    | (apply wpu; exact rfl; exact rfl; exact rfl)
    | (apply wbx; exact rfl; exact rfl; exact rfl; intro _)
    | refine wc_block ?_
    | (apply wc_true; exact rfl)
    | (apply wc_false; exact rfl)
    | refine wc_skip ?_
    | refine wc_exit ?_
    | refine wc_ret ?_
    | refine we_then_exit ?_
    | refine we_then_ret ?_
    | refine we_in_normal ?_
    | refine we_in_ret ?_
    | refine we_in_here ?_
    | (apply we_in_there; exact rfl))
  refine wl_lit [v8 122] rfl rfl rfl rfl rfl (by simp [Value.cells]) (by omega) rfl ?_
  intro b3
  refine wl_fact rfl rfl rfl (od_call Tryd.call25 rfl (fun w' h => chain_Add_ok a1 c1 [x1] 3 (some ⟨b3, 0, none⟩) 1 [122] hs1 (by unfold in64; omega) w' (hL.ext (E4.trans h.ext_all)) (hK1.ext h.ext_all) (lit_by (j := 0) h rfl) (by simp [addE, C1, hoff1]))) ?_
  rintro w5 v w6 hw5 ⟨e56, a3, c3, x3, rfl, hK3, s1, s2, s3, s4⟩
  have E6 : Ext w w6 := E4.trans (hw5.ext_all.trans e56)
  have C3 : chkP [x1, x3] = 0 := addE_chk (xs := [x1]) (node := 3) (data := [122]) (by simp [addE, C1, hoff1]) (by simp) s1 s2 s3 s4
  have hK3 : LkA w6 a3 c3 [x1, x3] := hK3
  replace hK1 := hK1.ext (hw5.ext_all.trans e56)
  replace hK2 := hK2.ext (hw5.ext_all.trans e56)
  have hL6 := hL.ext E6
  clear hw5 e56 E2 E4
  have hs2 : smallP [x1, x2] := small2 (by rw [q4]; simp) (by rw [r4]; simp)
  have hs3 : smallP [x1, x3] := small2 (by rw [q4]; simp) (by rw [s4]; simp)
  have P1 : partV [x1, x2] [x1, x3] = p3 1 true 0 := by
    have : sameL x2 x3 = false := by simp [sameL, r4, s4]
    simp [partV, C2, C3, splitB, diffP, sameL_refl, this]
  have P2 : partV [x1] [x1, x2] = p3 0 false 0 := by simp [partV, C1, C2, splitB, diffP, sameL_refl]
  have P3 : partV [] [x1] = p3 0 false 0 := by simp [partV, C1, chkP_nil, splitB, diffP]
  have f1 : ∀ w', Ext w6 w' → Fn 25 [.slice none 0 0, .int .i64 24, .slice none 0 0] w' (Quiet (.tuple #[.slice none 0 0, .int .i64 1]) w') := fun w' e =>
    chain_Add_err none 0 [] 24 none 0 [] small0 w' (hL6.ext e) (LkA.nil w') 1 (by simp [addE, chkP_nil, offB]) (by decide)
  have f2 : ∀ w', Ext w6 w' → Fn 25 [.slice a1 1 c1, .int .i64 4, .slice none 0 0] w' (Quiet (.tuple #[.slice none 0 0, .int .i64 1]) w') := fun w' e =>
    chain_Add_err a1 c1 [x1] 4 none 0 [] hs1 w' (hL6.ext e) (hK1.ext e) 1 (by simp [addE, C1, hoff1]) (by decide)
  have f3 : ∀ w', Ext w6 w' → Fn 27 [.slice a2 2 c2, .slice a3 2 c3] w' (Quiet (p3 1 true 0) w') := fun w' e => P1 ▸ chain_Part a2 a3 c2 c3 [x1, x2] [x1, x3] hs2 hs3 w' (hL6.ext e) (hK2.ext e) (hK3.ext e)
  have f4 : ∀ w', Ext w6 w' → Fn 27 [.slice a1 1 c1, .slice a2 2 c2] w' (Quiet (p3 0 false 0) w') := fun w' e => P2 ▸ chain_Part a1 a2 c1 c2 [x1] [x1, x2] hs1 hs2 w' (hL6.ext e) (hK1.ext e) (hK2.ext e)
  have f5 : ∀ w', Ext w6 w' → Fn 27 [.slice none 0 0, .slice a1 1 c1] w' (Quiet (p3 0 false 0) w') := fun w' e => P3 ▸ chain_Part none a1 0 c1 [] [x1] small0 hs1 w' (hL6.ext e) (LkA.nil w') (hK1.ext e)
  have g1 : ∀ w', Ext w6 w' → Fn 31 [.slice none 0 0] w' (Quiet (.int .i64 0) w') := fun w' e => chain_Check none 0 [] (by simp) small0.2 w' (hL6.ext e) (LkA.nil w')
  have g2 : ∀ w', Ext w6 w' → Fn 31 [.slice a2 2 c2] w' (Quiet (.int .i64 0) w') := fun w' e => C2 ▸ chain_Check a2 c2 [x1, x2] (by simp) hs2.2 w' (hL6.ext e) (hK2.ext e)
  clear P1 P2 P3
  obtain ⟨y1, bA, oA, hy1, ea1, okA, hcA⟩ := hK1.get 0 (by simp)
  cases hy1
  subst ea1
  obtain ⟨y2, bB, oB, hy2, ea2, okB', hcB⟩ := hK2.get 1 (by simp)
  cases hy2
  subst ea2
  have hcc2 : 2 ≤ c2 := hK2.1
  have Cx : chkP [x2] = 80 := by
    have : okB [x2] 0 = false := by simp [okB, r2]
    simp [chkP, this]
  have hd2 := hK2.drop1
  have g4 : ∀ w', Ext w6 w' → Fn 31 [.slice (some ⟨bB, oB + 35, none⟩) 1 (c2 - 1)] w' (Quiet (.int .i64 80) w') := fun w' e => Cx ▸ chain_Check (some ⟨bB, oB + 35, none⟩) (c2 - 1) [x2] (by simp) (small1 (by rw [r4]; simp)).2 w' (hL6.ext e) (hd2.ext e)
  repeat (first
    | (apply ws; exact rfl; exact rfl; exact rfl)
    | (apply wq Tryd.call25; exact rfl; exact rfl; exact rfl; exact (fun w' h => f1 w' h.ext_all))
    | (apply wq Tryd.call25; exact rfl; exact rfl; exact rfl; exact (fun w' h => f2 w' h.ext_all))
    | (apply wq Tryd.call27; exact rfl; exact rfl; exact rfl; exact (fun w' h => f3 w' h.ext_all))
    | (apply wq Tryd.call27; exact rfl; exact rfl; exact rfl; exact (fun w' h => f4 w' h.ext_all))
    | (apply wq Tryd.call27; exact rfl; exact rfl; exact rfl; exact (fun w' h => f5 w' h.ext_all))
    | (apply wq Tryd.call31; exact rfl; exact rfl; exact rfl; exact (fun w' h => g1 w' h.ext_all))
    | (apply wq Tryd.call31; exact rfl; exact rfl; exact rfl; exact (fun w' h => g2 w' h.ext_all))
    | refine wl_still rfl rfl rfl (od_struct zLnk.cells zLnk1.cells rfl rfl zero55 rfl rfl) ?_
    | refine wc_seq ?_
    | refine wc_region ?_
    | refine wl_nil ?_
    | refine we_round ?_
    | refine we_then_wc ?_
    | (apply wi64; exact rfl; omega; omega; exact rfl; exact rfl)
    | (apply wfa; exact rfl; exact rfl; exact rfl; exact rfl)
    | (apply wct; exact rfl; omega; exact rfl; exact rfl)
    | (apply wcf; exact rfl; omega; exact rfl; exact rfl)
    | (apply wn; exact rfl; exact rfl)
    | (apply wlb (j := 0); exact rfl; exact rfl; exact rfl; exact rfl; exact rfl; exact rfl)
    | (apply wlb (j := 1); exact rfl; exact rfl; exact rfl; exact rfl; exact rfl; exact rfl)
    | (apply wlb (j := 2); exact rfl; exact rfl; exact rfl; exact rfl; exact rfl; exact rfl)
    | (apply wlb (j := 3); exact rfl; exact rfl; exact rfl; exact rfl; exact rfl; exact rfl)
    | (apply wln; exact rfl; exact rfl; exact rfl; exact rfl)
    | (apply wpu; exact rfl; exact rfl; exact rfl)
    | (apply wbx; exact rfl; exact rfl; exact rfl; intro _)
    | refine wc_block ?_
    | (apply wc_true; exact rfl)
    | (apply wc_false; exact rfl)
    | refine wc_skip ?_
    | refine wc_exit ?_
    | refine wc_ret ?_
    | refine we_then_exit ?_
    | refine we_then_ret ?_
    | refine we_in_normal ?_
    | refine we_in_ret ?_
    | refine we_in_here ?_
    | (apply we_in_there; exact rfl))
  refine wl_makes rfl rfl rfl (od_buildSlice (cs := zLnk1.cells) rfl rfl ⟨_, zero55⟩ rfl rfl rfl (by simp [Value.cells]; rfl) (by omega) (by simp [Value.cells])) ?_
  rintro _ bz -
  have hif : (if c2 = 1 then oB else oB + 1 * 35) = oB + 35 := by rw [if_neg (by omega)]
  have g5 : ∀ w', Ext w6 w' → Fn 31 [.slice (some ⟨bB, if c2 = 1 then oB else oB + 1 * 35, none⟩) (2 - 1) (c2 - 1)] w' (Quiet (.int .i64 80) w') := fun w' e => by rw [hif]; exact g4 w' e
  have g7 : ∀ w', Hp w6 [] w' [(bz, zLnk1.cells, 55)] → Fn 31 [.slice (some ⟨bz, 0, none⟩) 1 1] w' (Quiet (.int .i64 80) w') := fun w' h => zLnk1_chk ▸ chain_Check (some ⟨bz, 0, none⟩) 1 [zLnk1] (by simp) (small1 (by simp [zLnk1])).2 w' (hL6.ext h.ext_all) (LkA.of_blk (sp := []) (T := 55) (h.at (j := 0) rfl).2 (by intro x hx; simp at hx; subst hx; exact ⟨by unfold in64; decide, by unfold in64; decide, rfl, ByA.nil w'⟩) (by simp))
  obtain ⟨st, hst⟩ : ∃ st, st = tagP [110, 111, 110, 101] [] := ⟨_, rfl⟩
  have hst32 : st.length = 32 := by rw [hst]; exact sumP_length _
  have hstsz : (st.map v8).toArray.size = 32 := by simp [hst32]
  have g6 : ∀ w', Ext w6 w' → Fn 46 [strV [110, 111, 110, 101], .slice none 0 0] w' (Quiet (digV st) w') := fun w' e => hst ▸ tagged_calls [110, 111, 110, 101] (.slice none 0 0) [] (by simp) (by simp) w' (hL6.ext e) (Bs.nil w')
  repeat (first
    | (apply ws; exact rfl; exact rfl; exact rfl)
    | (apply wq Tryd.call31; exact rfl; exact rfl; exact rfl; exact (fun w' h => g7 w' h))
    | refine wl_still rfl rfl rfl (od_slice 1 2 c2 rfl rfl rfl rfl rfl ⟨_, _, rfl, rfl⟩ (by omega) (by omega) (by omega) (by simp)) ?_
    | (apply wq Tryd.call31; exact rfl; exact rfl; exact rfl; exact (fun w' h => g5 w' h.ext_all))
    | (apply wq Tryd.call46; exact rfl; exact rfl; exact rfl; exact (fun w' h => g6 w' h.ext_all))
    | (apply wal zero53 rfl; exact rfl; exact rfl; intro bt)
    | (apply wsw (j := 0); exact rfl; exact rfl; exact rfl; exact rfl; exact hstsz; exact plain8 _; exact rfl; exact rfl)
    | refine wc_seq ?_
    | refine wc_region ?_
    | refine wl_nil ?_
    | refine we_round ?_
    | refine we_then_wc ?_
    | (apply wi64; exact rfl; omega; omega; exact rfl; exact rfl)
    | (apply wfa; exact rfl; exact rfl; exact rfl; exact rfl)
    | (apply wct; exact rfl; omega; exact rfl; exact rfl)
    | (apply wcf; exact rfl; omega; exact rfl; exact rfl)
    | (apply wn; exact rfl; exact rfl)
    | (apply wlb (j := 0); exact rfl; exact rfl; exact rfl; exact rfl; exact rfl; exact rfl)
    | (apply wlb (j := 1); exact rfl; exact rfl; exact rfl; exact rfl; exact rfl; exact rfl)
    | (apply wlb (j := 2); exact rfl; exact rfl; exact rfl; exact rfl; exact rfl; exact rfl)
    | (apply wlb (j := 3); exact rfl; exact rfl; exact rfl; exact rfl; exact rfl; exact rfl)
    | (apply wln; exact rfl; exact rfl; exact rfl; exact rfl)
    | (apply wpu; exact rfl; exact rfl; exact rfl)
    | (apply wbx; exact rfl; exact rfl; exact rfl; intro _)
    | refine wc_block ?_
    | (apply wc_true; exact rfl)
    | (apply wc_false; exact rfl)
    | refine wc_skip ?_
    | refine wc_exit ?_
    | refine wc_ret ?_
    | refine we_then_exit ?_
    | refine we_then_ret ?_
    | refine we_in_normal ?_
    | refine we_in_ret ?_
    | refine we_in_here ?_
    | (apply we_in_there; exact rfl))
  refine wl_makes rfl rfl rfl (od_buildSlice (cs := ([3, 4, 1, 6, 1, 0, 2, 32] : List UInt8).map v8) rfl rfl ⟨_, Tryd.zeroValue5⟩ rfl rfl rfl (by simp [Value.cells]) (by omega) rfl) ?_
  rintro _ bp -
  repeat (first
    | (apply ws; exact rfl; exact rfl; exact rfl)
    | refine wl_still rfl rfl rfl (od_sliceA 0 32 32 rfl rfl rfl rfl rfl rfl (by omega) (by omega) (by omega) (by simp)) ?_
    | refine wc_seq ?_
    | refine wc_region ?_
    | refine wl_nil ?_
    | refine we_round ?_
    | refine we_then_wc ?_
    | (apply wi64; exact rfl; omega; omega; exact rfl; exact rfl)
    | (apply wfa; exact rfl; exact rfl; exact rfl; exact rfl)
    | (apply wct; exact rfl; omega; exact rfl; exact rfl)
    | (apply wcf; exact rfl; omega; exact rfl; exact rfl)
    | (apply wn; exact rfl; exact rfl)
    | (apply wlb (j := 0); exact rfl; exact rfl; exact rfl; exact rfl; exact rfl; exact rfl)
    | (apply wlb (j := 1); exact rfl; exact rfl; exact rfl; exact rfl; exact rfl; exact rfl)
    | (apply wlb (j := 2); exact rfl; exact rfl; exact rfl; exact rfl; exact rfl; exact rfl)
    | (apply wlb (j := 3); exact rfl; exact rfl; exact rfl; exact rfl; exact rfl; exact rfl)
    | (apply wln; exact rfl; exact rfl; exact rfl; exact rfl)
    | (apply wpu; exact rfl; exact rfl; exact rfl)
    | (apply wbx; exact rfl; exact rfl; exact rfl; intro _)
    | refine wc_block ?_
    | (apply wc_true; exact rfl)
    | (apply wc_false; exact rfl)
    | refine wc_skip ?_
    | refine wc_exit ?_
    | refine wc_ret ?_
    | refine we_then_exit ?_
    | refine we_then_ret ?_
    | refine we_in_normal ?_
    | refine we_in_ret ?_
    | refine we_in_here ?_
    | (apply we_in_there; exact rfl))
  refine wl_moves 0 rfl rfl rfl rfl (od_grow (xs := [3, 4, 1, 6, 1, 0, 2, 32]) (ys := st) (sp := []) 0 rfl rfl rfl rfl (by simp) rfl (fun w' h => by rw [hst32]; exact Src.cells (by simp [hst32]) (fun i v hi => h.cell_blk (j := 1) rfl (by simpa using hi))) (by simp; omega)) ?_
  rintro ⟨cg, sg⟩ bg ⟨e1, e2⟩
  simp only at e1 e2
  dsimp only
  refine wl_makes rfl rfl rfl (od_buildSlice (cs := ([2, 1, 120] : List UInt8).map v8) rfl rfl ⟨_, Tryd.zeroValue5⟩ rfl rfl rfl (by simp [Value.cells]) (by omega) rfl) ?_
  rintro _ bq -
  refine wl_moves 1 rfl rfl rfl rfl (od_grow (xs := [3, 4, 1, 6, 1, 0, 2, 32] ++ st) (ys := [2, 1, 120]) (sp := sg) 1 rfl rfl rfl rfl (by simp) e2 (fun w' h => Src.rd (h.rd (f := v8) (l := [2, 1, 120]) (c := 3) (j := 0) (o := 0) rfl (by decide) (cells_map (sp := []) 0 rfl))) (by simp; omega)) ?_
  rintro ⟨ch, sh⟩ bh ⟨e3, e4⟩
  simp only at e3 e4
  dsimp only
  have hT : encL [.I x1.node, .I x1.no, .T x1.prev, .T x1.data] = ([3, 4, 1, 6, 1, 0, 2, 32] ++ st) ++ [2, 1, 120] := by
    have hq2 : x1.no = 0 := q2
    have hq3 : x1.prev = st := by rw [q3, hst]; rfl
    rw [q1, hq2, q4, hq3]
    exact sane_text st hst32
  have hb3 : headP [x1] = tagP [108, 105, 110, 107] (([3, 4, 1, 6, 1, 0, 2, 32] ++ st) ++ [2, 1, 120]) := by
    have := headP_snoc [] x1
    rw [hT] at this
    exact this
  have hb0 : headP [] = st := by rw [hst]; rfl
  have hb1 : x1.prev = st := by rw [q3]; exact hb0
  clear hst hT
  generalize hTT : ([3, 4, 1, 6, 1, 0, 2, 32] ++ st) ++ [2, 1, 120] = T at *
  have hTl : T.length ≤ 2 ^ 40 := by rw [← hTT]; simp; omega
  have hpA := prev_cells hcA
  have hpB := prev_cells hcB
  have lA : (x1.prev.map v8).length = 32 := by simp [okA.prev]
  have lB : (x2.prev.map v8).length = 32 := by simp [okB'.prev]
  have lst : (st.map v8).length = 32 := by simp [hst32]
  have hr2 : x2.no = 1 := r2
  have hnB : w6.cell? ⟨bB, oB + 1 * 35 + 1, none⟩ = some (.int .i64 1) := hr2 ▸ hcB 1 _ rfl
  have hdB := hcB 34 _ okB'.c34
  have hH0 : ∀ w', Ext w6 w' → Fn 30 [.slice none 0 0] w' (Quiet (digV (headP [])) w') := fun w' e => chain_Head none 0 [] (by simp) small0.2 w' (hL6.ext e) (LkA.nil w')
  have hH1 : ∀ w', Ext w6 w' → Fn 30 [.slice (some ⟨bA, oA, none⟩) 1 c1] w' (Quiet (digV (headP [x1])) w') := fun w' e => chain_Head _ c1 [x1] (by simp) hs1.2 w' (hL6.ext e) (hK1.ext e)
  have hHT : ∀ w' v, Ext w6 w' → Bs w' v T → Fn 46 [strV [108, 105, 110, 107], v] w' (Quiet (digV (tagP [108, 105, 110, 107] T)) w') := fun w' v e hb => tagged_calls [108, 105, 110, 107] v T (by simp) hTl w' (hL6.ext e) hb
  have l1 := headP_length [x1]
  rw [hb0] at hH0
  rw [← hb3] at hHT
  rw [q3] at hb1
  have hE4 : x2.prev = headP [x1] := r3
  generalize headP [x1] = H1 at *
  have hD1 : decide (x1.prev = st) = true := by rw [q3, hb1]; simp
  have hD2 : decide (st = st) = true := by simp
  have hD3 : decide (H1 = H1) = true := by simp
  have hD4 : decide (x2.prev = H1) = true := by rw [hE4]; simp
  clear f1 f2 f3 f4 f5 g1 g2 g4 g5 g6 g7 hK2 hK3 C1 C2 C3 hoff1 hs2 hs3 Cx hd2 hif hTT hb0 hb1 hb3 hE4 q3 r3 s3
  repeat (first
    | (apply ws; exact rfl; exact rfl; exact rfl)
    | refine wc_seq ?_
    | refine wc_region ?_
    | refine wl_nil ?_
    | refine we_round ?_
    | refine we_then_wc ?_
    | (apply wi64; exact rfl; omega; omega; exact rfl; exact rfl)
    | (apply wfa; exact rfl; exact rfl; exact rfl; exact rfl)
    | (apply wct; exact rfl; omega; exact rfl; exact rfl)
    | (apply wcf; exact rfl; omega; exact rfl; exact rfl)
    | (apply wn; exact rfl; exact rfl)
    | (apply wlb (j := 0); exact rfl; exact rfl; exact rfl; exact rfl; exact rfl; exact rfl)
    | (apply wlb (j := 1); exact rfl; exact rfl; exact rfl; exact rfl; exact rfl; exact rfl)
    | (apply wlb (j := 2); exact rfl; exact rfl; exact rfl; exact rfl; exact rfl; exact rfl)
    | (apply wlb (j := 3); exact rfl; exact rfl; exact rfl; exact rfl; exact rfl; exact rfl)
    | (apply wln; exact rfl; exact rfl; exact rfl; exact rfl)
    | (apply wpu; exact rfl; exact rfl; exact rfl)
    | (apply wbx; exact rfl; exact rfl; exact rfl; intro _)
    | refine wc_block ?_
    | (apply wc_true; exact rfl)
    | (apply wc_false; exact rfl)
    | refine wc_skip ?_
    | refine wc_exit ?_
    | refine wc_ret ?_
    | refine we_then_exit ?_
    | refine we_then_ret ?_
    | refine we_in_normal ?_
    | refine we_in_ret ?_
    | refine we_in_here ?_
    | (apply we_in_there; exact rfl))
  refine wc_plan _ none [(0, true), (1, true), (2, true), (3, true), (4, true), (5, true), (6, true), (7, true), (8, true), (9, true), (10, true), (11, true), (12, true), (13, true), (14, true), (15, true), (16, true), (17, true), (18, true), (19, true), (20, true), (21, true), (22, true), (23, true), (24, true), (25, true), (26, true), (27, true), (28, true), (29, true), (30, true), (31, true), (32, true), (33, true), (34, true), (35, true), (36, true), (37, true), (38, true), (39, true), (40, true), (41, true), (42, true)] (by kernel_rfl) (List.Sublist.refl _) ?_
  repeat (first
    | (apply ps; exact rfl; exact rfl; exact rfl; exact rfl)
    | (apply wp_still; exact rfl; exact rfl; exact rfl; exact (od_indexAddr 0 rfl rfl rfl rfl rfl (by decide)))
    | (apply wp_still; exact rfl; exact rfl; exact rfl; exact (od_indexAddr 1 rfl rfl rfl rfl rfl (show (1 : Nat) < 2 from by decide)))
    | (apply wp_still; exact rfl; exact rfl; exact rfl; exact (od_loadAO rfl rfl rfl lA hpA (by simp)))
    | (apply wp_still; exact rfl; exact rfl; exact rfl; exact (od_loadAO rfl rfl rfl lB hpB (by simp)))
    | (apply wp_still; exact rfl; exact rfl; exact rfl; exact (od_loadAB 2 rfl rfl rfl rfl lst))
    | (apply plo; exact rfl; exact rfl; exact rfl; exact hnB; exact List.not_mem_nil; exact rfl; exact rfl)
    | (apply plo; exact rfl; exact rfl; exact rfl; exact hdB; exact List.not_mem_nil; exact rfl; exact rfl)
    | (apply pq Tryd.call30; exact rfl; exact rfl; exact rfl; exact rfl; exact (fun w' h => hH0 w' h.ext_all))
    | (apply pq Tryd.call30; exact rfl; exact rfl; exact rfl; exact rfl; exact (fun w' h => hH1 w' h.ext_all))
    | (apply pq Tryd.call46; exact rfl; exact rfl; exact rfl; exact rfl; exact (fun w' h => hHT w' _ h.ext_all (Bs.rd (h.rd (j := 0) (o := 0) rfl e3 (cells_map 0 rfl)))))
    | (apply wp_still; exact rfl; exact rfl; exact rfl; exact (od_eqD (xs := x1.prev) (ys := st) (Or.inl ⟨rfl, hD1⟩) rfl rfl okA.prev hst32))
    | (apply wp_still; exact rfl; exact rfl; exact rfl; exact (od_eqD (xs := st) (ys := st) (Or.inl ⟨rfl, hD2⟩) rfl rfl hst32 hst32))
    | (apply wp_still; exact rfl; exact rfl; exact rfl; exact (od_eqD (xs := H1) (ys := H1) (Or.inl ⟨rfl, hD3⟩) rfl rfl l1 l1))
    | (apply wp_still; exact rfl; exact rfl; exact rfl; exact (od_eqD (xs := x2.prev) (ys := H1) (Or.inl ⟨rfl, hD4⟩) rfl rfl okB'.prev l1))
    | (apply wp_still; exact rfl; exact rfl; exact rfl; exact (od_toStr rfl rfl rfl (fun w' h => okB'.data.ext h.ext_all)))
    | (apply wp_still; exact rfl; exact rfl; exact rfl; exact (od_eqS (a := x2.data) (b := [121]) (r := true) (Or.inl ⟨rfl, by simpa using r4⟩) rfl rfl))
    | (apply pfa; exact rfl; exact rfl; exact rfl; exact rfl; exact rfl)
    | (apply pi64; exact rfl; exact rfl; omega; omega; exact rfl; exact rfl)
    | (apply pct; exact rfl; exact rfl; omega; exact rfl; exact rfl)
    | (apply pcf; exact rfl; exact rfl; omega; exact rfl; exact rfl)
    | (apply wp_not; exact rfl; exact rfl; exact rfl)
    | (apply plb (j := 0); exact rfl; exact rfl; exact rfl; exact rfl; exact rfl; exact rfl; exact rfl)
    | (apply plb (j := 1); exact rfl; exact rfl; exact rfl; exact rfl; exact rfl; exact rfl; exact rfl)
    | (apply plb (j := 2); exact rfl; exact rfl; exact rfl; exact rfl; exact rfl; exact rfl; exact rfl)
    | (apply pln; exact rfl; exact rfl; exact rfl; exact rfl; exact rfl)
    | (apply ppu; exact rfl; exact rfl; exact rfl; exact rfl)
    | (apply pfs; exact rfl; exact rfl; exact rfl; exact rfl)
    | apply wp_nil)
  repeat (first
    | (apply ws; exact rfl; exact rfl; exact rfl)
    | refine wc_seq ?_
    | refine wc_region ?_
    | refine wl_nil ?_
    | refine we_round ?_
    | refine we_then_wc ?_
    | (apply wi64; exact rfl; omega; omega; exact rfl; exact rfl)
    | (apply wfa; exact rfl; exact rfl; exact rfl; exact rfl)
    | (apply wct; exact rfl; omega; exact rfl; exact rfl)
    | (apply wcf; exact rfl; omega; exact rfl; exact rfl)
    | (apply wn; exact rfl; exact rfl)
    | (apply wlb (j := 0); exact rfl; exact rfl; exact rfl; exact rfl; exact rfl; exact rfl)
    | (apply wlb (j := 1); exact rfl; exact rfl; exact rfl; exact rfl; exact rfl; exact rfl)
    | (apply wlb (j := 2); exact rfl; exact rfl; exact rfl; exact rfl; exact rfl; exact rfl)
    | (apply wlb (j := 3); exact rfl; exact rfl; exact rfl; exact rfl; exact rfl; exact rfl)
    | (apply wln; exact rfl; exact rfl; exact rfl; exact rfl)
    | (apply wpu; exact rfl; exact rfl; exact rfl)
    | (apply wbx; exact rfl; exact rfl; exact rfl; intro _)
    | refine wc_block ?_
    | (apply wc_true; exact rfl)
    | (apply wc_false; exact rfl)
    | refine wc_skip ?_
    | refine wc_exit ?_
    | refine wc_ret ?_
    | refine we_then_exit ?_
    | refine we_then_ret ?_
    | refine we_in_normal ?_
    | refine we_in_ret ?_
    | refine we_in_here ?_
    | (apply we_in_there; exact rfl))
  exact we_ret1 (Or.inl rfl) rfl rfl fun w' h => ⟨rfl, E6.trans h.ext_all⟩
end Go.Proofs.YtielloijdkoeiaaDoor
