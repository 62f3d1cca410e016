/- Layer 8: chain.number, chain.text, chain.list, chain.Head. -/
import Derived.Test.YtielloijdkoeiaaDoorLa
namespace Go.Proofs.YtielloijdkoeiaaDoor
open Go Go.RowKit Go.Lib
set_option maxRecDepth 100000

theorem chain_number (n : Int) (w : World) : Fn 54 [.int .i64 n] w (Quiet (Lf.I n).v w) := by
  refine fn_of (args := [.int .i64 n]) Tryd.func54 rfl Tryd.ntmps54 rfl (Hp.start w) ?_
  repeat (first
    | (apply ws; exact rfl; exact rfl; exact rfl)
    | (apply wal zero75 rfl; exact rfl; exact rfl; intro bz)
    | refine wl_still rfl rfl rfl (od_struct [.int .i64 0, .int .i64 0, strV [], .slice none 0 0] (Lf.I n).cells rfl rfl zero75 rfl rfl) ?_
    | (apply wsw (j := 0); exact rfl; exact rfl; exact rfl; exact rfl; exact rfl; exact plainLf (Lf.I n); exact rfl; exact rfl)
    | refine wc_seq ?_
    | refine wc_region ?_
    | refine wl_nil ?_
    | refine we_round ?_
    | refine we_then_wc ?_
    | (apply wi64; exact rfl; omega; omega; exact rfl; exact rfl)
    | (apply wfa; exact rfl; exact rfl; exact rfl; exact rfl)
    | (apply wct; exact rfl; omega; exact rfl; exact rfl)
    | (apply wcf; exact rfl; omega; exact rfl; exact rfl)
    | (apply wn; exact rfl; exact rfl)
    | (apply wlb (j := 0); exact rfl; exact rfl; exact rfl; exact rfl; exact rfl; exact rfl)
    | (apply wlb (j := 1); exact rfl; exact rfl; exact rfl; exact rfl; exact rfl; exact rfl)
    | (apply wlb (j := 2); exact rfl; exact rfl; exact rfl; exact rfl; exact rfl; exact rfl)
    | (apply wlb (j := 3); exact rfl; exact rfl; exact rfl; exact rfl; exact rfl; exact rfl)
    | (apply wln; exact rfl; exact rfl; exact rfl; exact rfl)
    | (apply wpu; exact rfl; exact rfl; exact rfl)
    | (apply wbx; exact rfl; exact rfl; exact rfl; intro _)
    | refine wc_block ?_
    | (apply wc_true; exact rfl)
    | (apply wc_false; exact rfl)
    | refine wc_skip ?_
    | refine wc_exit ?_
    | refine wc_ret ?_
    | refine we_then_exit ?_
    | refine we_then_ret ?_
    | refine we_in_normal ?_
    | refine we_in_ret ?_
    | refine we_in_here ?_
    | (apply we_in_there; exact rfl))
  exact we_retCA 0 (Or.inl rfl) rfl rfl rfl rfl rfl rfl fun w' h => ⟨rfl, h.ext_all⟩

theorem chain_text (a : Option Addr) (n c : Nat) (l : List UInt8) (hn : n = l.length) (w : World) (h : ByA w a c l) : Fn 55 [.slice a n c] w (Quiet (Lf.T l).v w) := by
  subst hn
  refine fn_of (args := [.slice a l.length c]) Tryd.func55 rfl Tryd.ntmps55 rfl (Hp.start w) ?_
  repeat (first
    | (apply ws; exact rfl; exact rfl; exact rfl)
    | (apply wal zero75 rfl; exact rfl; exact rfl; intro bz)
    | refine wl_still rfl rfl rfl (od_toStr rfl rfl rfl (fun w' hw => h.ext hw.ext_all)) ?_
    | refine wl_still rfl rfl rfl (od_struct [.int .i64 0, .int .i64 0, strV [], .slice none 0 0] (Lf.T l).cells rfl rfl zero75 rfl rfl) ?_
    | (apply wsw (j := 0); exact rfl; exact rfl; exact rfl; exact rfl; exact rfl; exact plainLf (Lf.T l); exact rfl; exact rfl)
    | refine wc_seq ?_
    | refine wc_region ?_
    | refine wl_nil ?_
    | refine we_round ?_
    | refine we_then_wc ?_
    | (apply wi64; exact rfl; omega; omega; exact rfl; exact rfl)
    | (apply wfa; exact rfl; exact rfl; exact rfl; exact rfl)
    | (apply wct; exact rfl; omega; exact rfl; exact rfl)
    | (apply wcf; exact rfl; omega; exact rfl; exact rfl)
    | (apply wn; exact rfl; exact rfl)
    | (apply wlb (j := 0); exact rfl; exact rfl; exact rfl; exact rfl; exact rfl; exact rfl)
    | (apply wlb (j := 1); exact rfl; exact rfl; exact rfl; exact rfl; exact rfl; exact rfl)
    | (apply wlb (j := 2); exact rfl; exact rfl; exact rfl; exact rfl; exact rfl; exact rfl)
    | (apply wlb (j := 3); exact rfl; exact rfl; exact rfl; exact rfl; exact rfl; exact rfl)
    | (apply wln; exact rfl; exact rfl; exact rfl; exact rfl)
    | (apply wpu; exact rfl; exact rfl; exact rfl)
    | (apply wbx; exact rfl; exact rfl; exact rfl; intro _)
    | refine wc_block ?_
    | (apply wc_true; exact rfl)
    | (apply wc_false; exact rfl)
    | refine wc_skip ?_
    | refine wc_exit ?_
    | refine wc_ret ?_
    | refine we_then_exit ?_
    | refine we_then_ret ?_
    | refine we_in_normal ?_
    | refine we_in_ret ?_
    | refine we_in_here ?_
    | (apply we_in_there; exact rfl))
  exact we_retCA 0 (Or.inl rfl) rfl rfl rfl rfl rfl rfl fun w' h => ⟨rfl, h.ext_all⟩

theorem plainList (b o c n : Nat) : ∀ v ∈ #[Value.int .i64 3, .int .i64 0, strV [], .slice (some ⟨b, o, none⟩) n c].toList, plainV v = true := by simp [plainV, strV]

theorem chain_list (b o n c : Nat) (w : World) : Fn 53 [.slice (some ⟨b, o, none⟩) n c] w (Quiet (listV b o c n) w) := by
  refine fn_of (args := [.slice (some ⟨b, o, none⟩) n c]) Tryd.func53 rfl Tryd.ntmps53 rfl (Hp.start w) ?_
  repeat (first
    | (apply ws; exact rfl; exact rfl; exact rfl)
    | (apply wal zero75 rfl; exact rfl; exact rfl; intro bz)
    | refine wl_still rfl rfl rfl (od_struct [.int .i64 0, .int .i64 0, strV [], .slice none 0 0] [.int .i64 3, .int .i64 0, strV [], .slice (some ⟨b, o, none⟩) n c] rfl rfl zero75 rfl rfl) ?_
    | (apply wsw (j := 0); exact rfl; exact rfl; exact rfl; exact rfl; exact rfl; exact plainList b o c n; exact rfl; exact rfl)
    | refine wc_seq ?_
    | refine wc_region ?_
    | refine wl_nil ?_
    | refine we_round ?_
    | refine we_then_wc ?_
    | (apply wi64; exact rfl; omega; omega; exact rfl; exact rfl)
    | (apply wfa; exact rfl; exact rfl; exact rfl; exact rfl)
    | (apply wct; exact rfl; omega; exact rfl; exact rfl)
    | (apply wcf; exact rfl; omega; exact rfl; exact rfl)
    | (apply wn; exact rfl; exact rfl)
    | (apply wlb (j := 0); exact rfl; exact rfl; exact rfl; exact rfl; exact rfl; exact rfl)
    | (apply wlb (j := 1); exact rfl; exact rfl; exact rfl; exact rfl; exact rfl; exact rfl)
    | (apply wlb (j := 2); exact rfl; exact rfl; exact rfl; exact rfl; exact rfl; exact rfl)
    | (apply wlb (j := 3); exact rfl; exact rfl; exact rfl; exact rfl; exact rfl; exact rfl)
    | (apply wln; exact rfl; exact rfl; exact rfl; exact rfl)
    | (apply wpu; exact rfl; exact rfl; exact rfl)
    | (apply wbx; exact rfl; exact rfl; exact rfl; intro _)
    | refine wc_block ?_
    | (apply wc_true; exact rfl)
    | (apply wc_false; exact rfl)
    | refine wc_skip ?_
    | refine wc_exit ?_
    | refine wc_ret ?_
    | refine we_then_exit ?_
    | refine we_then_ret ?_
    | refine we_in_normal ?_
    | refine we_in_ret ?_
    | refine we_in_here ?_
    | (apply we_in_there; exact rfl))
  exact we_retCA 0 (Or.inl rfl) rfl rfl rfl rfl rfl rfl fun w' h => ⟨rfl, h.ext_all⟩

theorem leaf4 {x y z u : Lf} {w : World} {b : Nat} (h : ∀ i v, (x.cells ++ y.cells ++ z.cells ++ u.cells)[i]? = some v → w.cell? ⟨b, i, none⟩ = some v) : LeafAt w b 0 [x, y, z, u] := by
  intro k t ht i v hv
  have hi : i < 4 := by have := (List.getElem?_eq_some_iff.1 hv).1; rwa [t.cells_length] at this
  have lx := x.cells_length
  have ly := y.cells_length
  have lz := z.cells_length
  match k, ht with
  | 0, ht =>
    simp at ht; subst ht
    have := h i v (by rw [List.getElem?_append_left (by simp; omega), List.getElem?_append_left (by simp; omega), List.getElem?_append_left (by omega)]; exact hv)
    simpa using this
  | 1, ht =>
    simp at ht; subst ht
    have := h (4 + i) v (by rw [List.getElem?_append_left (by simp; omega), List.getElem?_append_left (by simp; omega), List.getElem?_append_right (by omega), lx]; simpa using hv)
    simpa using this
  | 2, ht =>
    simp at ht; subst ht
    have := h (8 + i) v (by rw [List.getElem?_append_left (by simp; omega), List.getElem?_append_right (by simp; omega), List.length_append, lx, ly]; simpa using hv)
    simpa using this
  | 3, ht =>
    simp at ht; subst ht
    have := h (12 + i) v (by rw [List.getElem?_append_right (by simp; omega), List.length_append, List.length_append, lx, ly, lz]; simpa using hv)
    simpa using this
  | k + 4, ht => simp at ht

theorem Lnk.prev_get {x : Lnk} {i : Nat} {y : UInt8} (h : x.prev[i]? = some y) : x.cells[2 + i]? = some (v8 y) := by
  have hi := (List.getElem?_eq_some_iff.1 h).1
  rw [Nat.add_comm, Lnk.cells, List.getElem?_cons_succ, List.getElem?_cons_succ, List.getElem?_append_left (by simpa using hi), List.getElem?_map, h]
  rfl

/-- The digest of a link, out of a copy of one's own. -/
theorem Hp.prevA {w0 : World} {ex : List Nat} {w : World} {bs : Blks} (h : Hp w0 ex w bs) {j b : Nat} {x : Lnk} {T : TypeId} (hj : bs[j]? = some (b, x.cells, T)) (hx : x.prev.length = 32) : ByA w (some ⟨b, 2, none⟩) 32 x.prev :=
  ByA.of_rd (by omega) fun _ _ hi => h.cell_blk hj (Lnk.prev_get hi)

theorem flat_ok {x : Lnk} {w : World} (h : x.ok w) (hd : x.data.length ≤ 2 ^ 20) : ∀ y ∈ [Lf.I x.node, .I x.no, .T x.prev, .T x.data], y.ok := by
  intro y hy
  simp only [List.mem_cons, List.not_mem_nil, or_false] at hy
  rcases hy with rfl | rfl | rfl | rfl
  · exact h.node
  · exact h.no
  · show x.prev.length ≤ 2 ^ 30
    have := h.prev; omega
  · show x.data.length ≤ 2 ^ 30
    omega

theorem encL_length (ls : List Lf) (h : ∀ x ∈ ls, x.ok) (hn : ls.length ≤ 64) : (encL ls).length ≤ 2 ^ 38 := by
  have := encH_length ls ls.length h hn
  simpa [encH, encL] using this

theorem chain_Head (a : Option Addr) (c : Nat) (xs : List Lnk) (hl : xs.length ≤ 2 ^ 20) (hd : ∀ x ∈ xs, x.data.length ≤ 2 ^ 20) (w : World) (hL : Laid w) (h : LkA w a c xs) : Fn 30 [.slice a xs.length c] w (Quiet (digV (headP xs)) w) := by
  refine fn_of (args := [.slice a xs.length c]) Tryd.func30 rfl Tryd.ntmps30 rfl (Hp.start w) ?_
  have h32 := headP_length xs
  have hsz : ((headP xs).map v8).toArray.size = 32 := by simp [h32]
  cases hlast : xs.getLast? with
  | none =>
    have h0 : xs.length = 0 := by rw [List.getLast?_eq_none_iff.1 hlast]; rfl
    have hh : headP xs = tagP [110, 111, 110, 101] [] := by unfold headP; rw [hlast]
    rw [hh] at hsz ⊢
    repeat (first
      | (apply ws; exact rfl; exact rfl; exact rfl)
      | (apply wal zero53 rfl; exact rfl; exact rfl; intro bz)
      | (apply wq Tryd.call46; exact rfl; exact rfl; exact rfl; exact (fun w' h' => tagged_calls [110, 111, 110, 101] (.slice none 0 0) [] (by simp) (by simp) w' (hL.ext h'.ext_all) (Bs.nil w')))
      | (apply wsw (j := 0); exact rfl; exact rfl; exact rfl; exact rfl; exact hsz; exact plain8 _; exact rfl; exact rfl)
      | refine wc_seq ?_
      | refine wc_region ?_
      | refine wl_nil ?_
      | refine we_round ?_
      | refine we_then_wc ?_
      | (apply wi64; exact rfl; omega; omega; exact rfl; exact rfl)
      | (apply wfa; exact rfl; exact rfl; exact rfl; exact rfl)
      | (apply wct; exact rfl; omega; exact rfl; exact rfl)
      | (apply wcf; exact rfl; omega; exact rfl; exact rfl)
      | (apply wn; exact rfl; exact rfl)
      | (apply wlb (j := 0); exact rfl; exact rfl; exact rfl; exact rfl; exact rfl; exact rfl)
      | (apply wlb (j := 1); exact rfl; exact rfl; exact rfl; exact rfl; exact rfl; exact rfl)
      | (apply wlb (j := 2); exact rfl; exact rfl; exact rfl; exact rfl; exact rfl; exact rfl)
      | (apply wlb (j := 3); exact rfl; exact rfl; exact rfl; exact rfl; exact rfl; exact rfl)
      | (apply wln; exact rfl; exact rfl; exact rfl; exact rfl)
      | (apply wpu; exact rfl; exact rfl; exact rfl)
      | (apply wbx; exact rfl; exact rfl; exact rfl; intro _)
      | refine wc_block ?_
      | (apply wc_true; exact rfl)
      | (apply wc_false; exact rfl)
      | refine wc_skip ?_
      | refine wc_exit ?_
      | refine wc_ret ?_
      | refine we_then_exit ?_
      | refine we_then_ret ?_
      | refine we_in_normal ?_
      | refine we_in_ret ?_
      | refine we_in_here ?_
      | (apply we_in_there; exact rfl))
    exact we_retCA 0 (Or.inl rfl) rfl rfl rfl rfl rfl hsz fun w' h' => ⟨rfl, h'.ext_all⟩
  | some x =>
    have hx : xs[xs.length - 1]? = some x := by rw [← List.getLast?_eq_getElem?]; exact hlast
    have hn : xs.length - 1 < xs.length := (List.getElem?_eq_some_iff.1 hx).1
    have hh : headP xs = tagP [108, 105, 110, 107] (encL [.I x.node, .I x.no, .T x.prev, .T x.data]) := by unfold headP; rw [hlast]
    rw [hh] at hsz ⊢
    have hdx := hd x (List.mem_of_getElem? hx)
    obtain ⟨b, o, rfl, hok, hc⟩ := h.at hx
    have hxsz : x.cells.toArray.size = 35 := by simp [hok.len]
    have hfo := flat_ok hok hdx
    have hel := encL_length _ hfo (by simp)
    generalize hm : xs.length = m at *
    repeat (first
      | (apply ws; exact rfl; exact rfl; exact rfl)
      | (apply wal zero53 rfl; exact rfl; exact rfl; intro bz)
      | refine wl_still rfl rfl rfl (od_indexAddr (m - 1) rfl rfl rfl rfl (by omega) (by omega)) ?_
      | refine wl_still rfl rfl rfl (od_loadLk rfl hok hc (by simp)) ?_
      | (apply wal Tryd.zeroValue55 rfl; exact rfl; exact rfl; intro bx)
      | (apply wsw (j := 0); exact rfl; exact rfl; exact rfl; exact rfl; exact hxsz; exact plainLnkA x; exact rfl; exact rfl)
      | refine wc_seq ?_
      | refine wc_region ?_
      | refine wl_nil ?_
      | refine we_round ?_
      | refine we_then_wc ?_
      | (apply wi64; exact rfl; omega; omega; exact rfl; exact rfl)
      | (apply wfa; exact rfl; exact rfl; exact rfl; exact rfl)
      | (apply wct; exact rfl; omega; exact rfl; exact rfl)
      | (apply wcf; exact rfl; omega; exact rfl; exact rfl)
      | (apply wn; exact rfl; exact rfl)
      | (apply wlb (j := 0); exact rfl; exact rfl; exact rfl; exact rfl; exact rfl; exact rfl)
      | (apply wlb (j := 1); exact rfl; exact rfl; exact rfl; exact rfl; exact rfl; exact rfl)
      | (apply wlb (j := 2); exact rfl; exact rfl; exact rfl; exact rfl; exact rfl; exact rfl)
      | (apply wlb (j := 3); exact rfl; exact rfl; exact rfl; exact rfl; exact rfl; exact rfl)
      | (apply wln; exact rfl; exact rfl; exact rfl; exact rfl)
      | (apply wpu; exact rfl; exact rfl; exact rfl)
      | (apply wbx; exact rfl; exact rfl; exact rfl; intro _)
      | refine wc_block ?_
      | (apply wc_true; exact rfl)
      | (apply wc_false; exact rfl)
      | refine wc_skip ?_
      | refine wc_exit ?_
      | refine wc_ret ?_
      | refine we_then_exit ?_
      | refine we_then_ret ?_
      | refine we_in_normal ?_
      | refine we_in_ret ?_
      | refine we_in_here ?_
      | (apply we_in_there; exact rfl))
    refine wc_plan [(bx, x.cells, 55)] none [(0, true), (1, true), (2, true), (3, true), (4, true), (5, true), (6, true), (7, true), (8, true), (9, true), (10, true), (11, true), (12, false), (13, true), (14, false), (15, true), (16, true), (17, true), (18, true), (19, true)] (by kernel_rfl) (List.Sublist.cons_cons _ (List.nil_sublist _)) ?_
    repeat (first
      | (apply ps; exact rfl; exact rfl; exact rfl; exact rfl)
      | (apply plb (j := 0); exact rfl; exact rfl; exact rfl; exact rfl; exact hok.c34; exact rfl; exact rfl)
      | (apply pq Tryd.call54; exact rfl; exact rfl; exact rfl; exact rfl; exact (fun w _ => chain_number _ w))
      | (apply wp_still; exact rfl; exact rfl; exact rfl; exact (od_sliceA 0 32 32 rfl rfl rfl rfl rfl rfl (by omega) (by omega) (by omega) (by simp)))
      | (apply pq Tryd.call55; exact rfl; exact rfl; exact rfl; exact rfl; exact (fun w' h' => chain_text (some ⟨bx, 2, none⟩) 32 32 x.prev hok.prev.symm w' (h'.prevA (j := 0) rfl hok.prev)))
      | (apply pq Tryd.call55; exact rfl; exact rfl; exact rfl; exact rfl; exact (fun w' h' => chain_text x.da x.data.length x.dc x.data rfl w' (hok.data.ext h'.ext_all)))
      | (apply pfa; exact rfl; exact rfl; exact rfl; exact rfl; exact rfl)
      | (apply pi64; exact rfl; exact rfl; omega; omega; exact rfl; exact rfl)
      | (apply pct; exact rfl; exact rfl; omega; exact rfl; exact rfl)
      | (apply pcf; exact rfl; exact rfl; omega; exact rfl; exact rfl)
      | (apply wp_not; exact rfl; exact rfl; exact rfl)
      | (apply plb (j := 0); exact rfl; exact rfl; exact rfl; exact rfl; exact rfl; exact rfl; exact rfl)
      | (apply plb (j := 1); exact rfl; exact rfl; exact rfl; exact rfl; exact rfl; exact rfl; exact rfl)
      | (apply plb (j := 2); exact rfl; exact rfl; exact rfl; exact rfl; exact rfl; exact rfl; exact rfl)
      | (apply pln; exact rfl; exact rfl; exact rfl; exact rfl; exact rfl)
      | (apply ppu; exact rfl; exact rfl; exact rfl; exact rfl)
      | (apply pfs; exact rfl; exact rfl; exact rfl; exact rfl)
      | apply wp_nil)
    refine wp_makes rfl rfl rfl (od_buildSlice (cs := (Lf.I x.node).cells ++ (Lf.I x.no).cells ++ (Lf.T x.prev).cells ++ (Lf.T x.data).cells) rfl rfl ⟨_, zero75⟩ rfl rfl rfl (by simp [Value.cells, Lf.cells, Lf.v]) (by omega) rfl) ?_
    rintro _ bl -
    repeat (first
      | (apply ps; exact rfl; exact rfl; exact rfl; exact rfl)
      | (apply pq Tryd.call53; exact rfl; exact rfl; exact rfl; exact rfl; exact (fun w _ => chain_list bl 0 4 4 w))
      | (apply pfa; exact rfl; exact rfl; exact rfl; exact rfl; exact rfl)
      | (apply pi64; exact rfl; exact rfl; omega; omega; exact rfl; exact rfl)
      | (apply pct; exact rfl; exact rfl; omega; exact rfl; exact rfl)
      | (apply pcf; exact rfl; exact rfl; omega; exact rfl; exact rfl)
      | (apply wp_not; exact rfl; exact rfl; exact rfl)
      | (apply plb (j := 0); exact rfl; exact rfl; exact rfl; exact rfl; exact rfl; exact rfl; exact rfl)
      | (apply plb (j := 1); exact rfl; exact rfl; exact rfl; exact rfl; exact rfl; exact rfl; exact rfl)
      | (apply plb (j := 2); exact rfl; exact rfl; exact rfl; exact rfl; exact rfl; exact rfl; exact rfl)
      | (apply pln; exact rfl; exact rfl; exact rfl; exact rfl; exact rfl)
      | (apply ppu; exact rfl; exact rfl; exact rfl; exact rfl)
      | (apply pfs; exact rfl; exact rfl; exact rfl; exact rfl)
      | apply wp_nil)
    refine wp_makes rfl rfl rfl (od_call Tryd.call42 rfl (fun w' h' => encode_calls bl 0 4 [.I x.node, .I x.no, .T x.prev, .T x.data] hfo (by simp) (by simp) w' (leaf4 (fun i v hi => h'.cell_blk (j := 0) rfl hi)))) ?_
    rintro ⟨c2, sp2⟩ b2 ⟨e1, e2⟩
    simp only at e1 e2
    dsimp only
    repeat (first
      | (apply ps; exact rfl; exact rfl; exact rfl; exact rfl)
      | (apply pfa; exact rfl; exact rfl; exact rfl; exact rfl; exact rfl)
      | (apply pi64; exact rfl; exact rfl; omega; omega; exact rfl; exact rfl)
      | (apply pct; exact rfl; exact rfl; omega; exact rfl; exact rfl)
      | (apply pcf; exact rfl; exact rfl; omega; exact rfl; exact rfl)
      | (apply wp_not; exact rfl; exact rfl; exact rfl)
      | (apply plb (j := 0); exact rfl; exact rfl; exact rfl; exact rfl; exact rfl; exact rfl; exact rfl)
      | (apply plb (j := 1); exact rfl; exact rfl; exact rfl; exact rfl; exact rfl; exact rfl; exact rfl)
      | (apply plb (j := 2); exact rfl; exact rfl; exact rfl; exact rfl; exact rfl; exact rfl; exact rfl)
      | (apply pln; exact rfl; exact rfl; exact rfl; exact rfl; exact rfl)
      | (apply ppu; exact rfl; exact rfl; exact rfl; exact rfl)
      | (apply pfs; exact rfl; exact rfl; exact rfl; exact rfl)
      | apply wp_nil)
    repeat (first
      | (apply ws; exact rfl; exact rfl; exact rfl)
      | (apply wq Tryd.call46; exact rfl; exact rfl; exact rfl; exact (fun w' h' => tagged_calls [108, 105, 110, 107] _ (encL [.I x.node, .I x.no, .T x.prev, .T x.data]) (by simp) (by omega) w' (hL.ext h'.ext_all) (Bs.rd (h'.rd (j := 0) (o := 0) rfl e1 (cells_map 0 rfl)))))
      | (apply wsw (j := 3); exact rfl; exact rfl; exact rfl; exact rfl; exact hsz; exact plain8 _; exact rfl; exact rfl)
      | refine wc_seq ?_
      | refine wc_region ?_
      | refine wl_nil ?_
      | refine we_round ?_
      | refine we_then_wc ?_
      | (apply wi64; exact rfl; omega; omega; exact rfl; exact rfl)
      | (apply wfa; exact rfl; exact rfl; exact rfl; exact rfl)
      | (apply wct; exact rfl; omega; exact rfl; exact rfl)
      | (apply wcf; exact rfl; omega; exact rfl; exact rfl)
      | (apply wn; exact rfl; exact rfl)
      | (apply wlb (j := 0); exact rfl; exact rfl; exact rfl; exact rfl; exact rfl; exact rfl)
      | (apply wlb (j := 1); exact rfl; exact rfl; exact rfl; exact rfl; exact rfl; exact rfl)
      | (apply wlb (j := 2); exact rfl; exact rfl; exact rfl; exact rfl; exact rfl; exact rfl)
      | (apply wlb (j := 3); exact rfl; exact rfl; exact rfl; exact rfl; exact rfl; exact rfl)
      | (apply wln; exact rfl; exact rfl; exact rfl; exact rfl)
      | (apply wpu; exact rfl; exact rfl; exact rfl)
      | (apply wbx; exact rfl; exact rfl; exact rfl; intro _)
      | refine wc_block ?_
      | (apply wc_true; exact rfl)
      | (apply wc_false; exact rfl)
      | refine wc_skip ?_
      | refine wc_exit ?_
      | refine wc_ret ?_
      | refine we_then_exit ?_
      | refine we_then_ret ?_
      | refine we_in_normal ?_
      | refine we_in_ret ?_
      | refine we_in_here ?_
      | (apply we_in_there; exact rfl))
    exact we_retCA 3 (Or.inl rfl) rfl rfl rfl rfl rfl hsz fun w' h' => ⟨rfl, h'.ext_all⟩
end Go.Proofs.YtielloijdkoeiaaDoor
