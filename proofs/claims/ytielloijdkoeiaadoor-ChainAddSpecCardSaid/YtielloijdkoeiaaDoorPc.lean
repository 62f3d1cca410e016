/- The reference of chapter 8: the text of which a head is the digest; clash. -/
import Derived.Test.YtielloijdkoeiaaDoorPb
import Derived.Test.YtielloijdkoeiaaDoorLp
namespace Go.Proofs.YtielloijdkoeiaaDoor
open Go Go.RowKit Go.Lib
set_option maxRecDepth 100000

theorem ref_number (n : Int) (w : World) : Fn 69 [.int .i64 n] w (Quiet (Lf.I n).v w) := by
  refine fn_of (args := [.int .i64 n]) Tryd.func69 rfl Tryd.ntmps69 rfl (Hp.start w) ?_
  repeat (first
    | (apply ws; exact rfl; exact rfl; exact rfl)
    | (apply wal zero75 rfl; exact rfl; exact rfl; intro bz)
    | refine wl_still rfl rfl rfl (od_struct [.int .i64 0, .int .i64 0, strV [], .slice none 0 0] (Lf.I n).cells rfl rfl zero75 rfl rfl) ?_
    | (apply wsw (j := 0); exact rfl; exact rfl; exact rfl; exact rfl; exact rfl; exact plainLf (Lf.I n); exact rfl; exact rfl)
    | refine wc_seq ?_
    | refine wc_region ?_
    | refine wl_nil ?_
    | refine we_round ?_
    | refine we_then_wc ?_
    | (apply wi64; exact rfl; omega; omega; exact rfl; exact rfl)
    | (apply wfa; exact rfl; exact rfl; exact rfl; exact rfl)
    | (apply wct; exact rfl; omega; exact rfl; exact rfl)
    | (apply wcf; exact rfl; omega; exact rfl; exact rfl)
    | (apply wn; exact rfl; exact rfl)
    | (apply wlb (j := 0); exact rfl; exact rfl; exact rfl; exact rfl; exact rfl; exact rfl)
    | (apply wlb (j := 1); exact rfl; exact rfl; exact rfl; exact rfl; exact rfl; exact rfl)
    | (apply wlb (j := 2); exact rfl; exact rfl; exact rfl; exact rfl; exact rfl; exact rfl)
    | (apply wlb (j := 3); exact rfl; exact rfl; exact rfl; exact rfl; exact rfl; exact rfl)
    | (apply wln; exact rfl; exact rfl; exact rfl; exact rfl)
    | (apply wpu; exact rfl; exact rfl; exact rfl)
    | (apply wbx; exact rfl; exact rfl; exact rfl; intro _)
    | refine wc_block ?_
    | (apply wc_true; exact rfl)
    | (apply wc_false; exact rfl)
    | refine wc_skip ?_
    | refine wc_exit ?_
    | refine wc_ret ?_
    | refine we_then_exit ?_
    | refine we_then_ret ?_
    | refine we_in_normal ?_
    | refine we_in_ret ?_
    | refine we_in_here ?_
    | (apply we_in_there; exact rfl))
  exact we_retCA 0 (Or.inl rfl) rfl rfl rfl rfl rfl rfl fun w' h => ⟨rfl, h.ext_all⟩

theorem ref_text (a : Option Addr) (n c : Nat) (l : List UInt8) (hn : n = l.length) (w : World) (h : ByA w a c l) : Fn 70 [.slice a n c] w (Quiet (Lf.T l).v w) := by
  subst hn
  refine fn_of (args := [.slice a l.length c]) Tryd.func70 rfl Tryd.ntmps70 rfl (Hp.start w) ?_
  repeat (first
    | (apply ws; exact rfl; exact rfl; exact rfl)
    | (apply wal zero75 rfl; exact rfl; exact rfl; intro bz)
    | refine wl_still rfl rfl rfl (od_toStr rfl rfl rfl (fun w' hw => h.ext hw.ext_all)) ?_
    | refine wl_still rfl rfl rfl (od_struct [.int .i64 0, .int .i64 0, strV [], .slice none 0 0] (Lf.T l).cells rfl rfl zero75 rfl rfl) ?_
    | (apply wsw (j := 0); exact rfl; exact rfl; exact rfl; exact rfl; exact rfl; exact plainLf (Lf.T l); exact rfl; exact rfl)
    | refine wc_seq ?_
    | refine wc_region ?_
    | refine wl_nil ?_
    | refine we_round ?_
    | refine we_then_wc ?_
    | (apply wi64; exact rfl; omega; omega; exact rfl; exact rfl)
    | (apply wfa; exact rfl; exact rfl; exact rfl; exact rfl)
    | (apply wct; exact rfl; omega; exact rfl; exact rfl)
    | (apply wcf; exact rfl; omega; exact rfl; exact rfl)
    | (apply wn; exact rfl; exact rfl)
    | (apply wlb (j := 0); exact rfl; exact rfl; exact rfl; exact rfl; exact rfl; exact rfl)
    | (apply wlb (j := 1); exact rfl; exact rfl; exact rfl; exact rfl; exact rfl; exact rfl)
    | (apply wlb (j := 2); exact rfl; exact rfl; exact rfl; exact rfl; exact rfl; exact rfl)
    | (apply wlb (j := 3); exact rfl; exact rfl; exact rfl; exact rfl; exact rfl; exact rfl)
    | (apply wln; exact rfl; exact rfl; exact rfl; exact rfl)
    | (apply wpu; exact rfl; exact rfl; exact rfl)
    | (apply wbx; exact rfl; exact rfl; exact rfl; intro _)
    | refine wc_block ?_
    | (apply wc_true; exact rfl)
    | (apply wc_false; exact rfl)
    | refine wc_skip ?_
    | refine wc_exit ?_
    | refine wc_ret ?_
    | refine we_then_exit ?_
    | refine we_then_ret ?_
    | refine we_in_normal ?_
    | refine we_in_ret ?_
    | refine we_in_here ?_
    | (apply we_in_there; exact rfl))
  exact we_retCA 0 (Or.inl rfl) rfl rfl rfl rfl rfl rfl fun w' h => ⟨rfl, h.ext_all⟩

def textB (x : Lnk) : List UInt8 := encL [.I x.node, .I x.no, .T x.prev, .T x.data]
def noneT : List UInt8 := [110, 111, 110, 101]
def linkT : List UInt8 := [108, 105, 110, 107]

def pvV (p : List UInt8) : Nat → Nat → Nat → Value
  | 0, _, _ => .slice none 0 0
  | k + 1, b, c => .slice (some ⟨b, 0, none⟩) (p.take (k + 1)).length c
def pvB (p : List UInt8) (bx : Nat) (cs : List Value) : Nat → Nat → List Value → Blks
  | 0, _, _ => [(bx, cs, 55)]
  | k + 1, b, sp => [(b, (p.take (k + 1)).map v8 ++ sp, 5), (bx, cs, 55)]
def pvP (p : List UInt8) : Nat → Nat → List Value → Prop
  | 0, _, _ => True
  | k + 1, c, sp => (p.take (k + 1)).length ≤ c ∧ ((p.take (k + 1)).map v8 ++ sp).length = c

theorem ref_Text_nil (a : Option Addr) (c : Nat) (w : World) : Fn 57 [.slice a 0 c] w (Quiet (.tuple #[strV noneT, .slice none 0 0]) w) := by
  refine fn_of (args := [.slice a 0 c]) Tryd.func57 rfl Tryd.ntmps57 rfl (Hp.start w) ?_
  repeat (first
    | (apply ws; exact rfl; exact rfl; exact rfl)
    | refine wc_seq ?_
    | refine wc_region ?_
    | refine wl_nil ?_
    | refine we_round ?_
    | refine we_then_wc ?_
    | (apply wi64; exact rfl; omega; omega; exact rfl; exact rfl)
    | (apply wfa; exact rfl; exact rfl; exact rfl; exact rfl)
    | (apply wct; exact rfl; omega; exact rfl; exact rfl)
    | (apply wcf; exact rfl; omega; exact rfl; exact rfl)
    | (apply wn; exact rfl; exact rfl)
    | (apply wlb (j := 0); exact rfl; exact rfl; exact rfl; exact rfl; exact rfl; exact rfl)
    | (apply wlb (j := 1); exact rfl; exact rfl; exact rfl; exact rfl; exact rfl; exact rfl)
    | (apply wlb (j := 2); exact rfl; exact rfl; exact rfl; exact rfl; exact rfl; exact rfl)
    | (apply wlb (j := 3); exact rfl; exact rfl; exact rfl; exact rfl; exact rfl; exact rfl)
    | (apply wln; exact rfl; exact rfl; exact rfl; exact rfl)
    | (apply wpu; exact rfl; exact rfl; exact rfl)
    | (apply wbx; exact rfl; exact rfl; exact rfl; intro _)
    | refine wc_block ?_
    | (apply wc_true; exact rfl)
    | (apply wc_false; exact rfl)
    | refine wc_skip ?_
    | refine wc_exit ?_
    | refine wc_ret ?_
    | refine we_then_exit ?_
    | refine we_then_ret ?_
    | refine we_in_normal ?_
    | refine we_in_ret ?_
    | refine we_in_here ?_
    | (apply we_in_there; exact rfl))
  exact we_ret2 (Or.inl rfl) rfl rfl rfl fun w' h => ⟨rfl, h.ext_all⟩

/-- The text lies in a new block. -/
def Texted (ys : List UInt8) : World → Value → World → Prop :=
  Makes (ι := Nat × List Value) (fun i b' => .tuple #[strV linkT, .slice (some ⟨b', 0, none⟩) ys.length i.1]) (fun i => ys.length ≤ i.1 ∧ (ys.map v8 ++ i.2).length = i.1) (fun i => ys.map v8 ++ i.2) 5

theorem ref_Text (a : Option Addr) (c : Nat) (xs : List Lnk) (x : Lnk) (hlast : xs.getLast? = some x) (hl : xs.length ≤ 2 ^ 20) (hd : x.data.length ≤ 2 ^ 20) (w : World) (h : LkA w a c xs) : Fn 57 [.slice a xs.length c] w (Texted (textB x) w) := by
  refine fn_of (args := [.slice a xs.length c]) Tryd.func57 rfl Tryd.ntmps57 rfl (Hp.start w) ?_
  have hx : xs[xs.length - 1]? = some x := by rw [← List.getLast?_eq_getElem?]; exact hlast
  have hn : xs.length - 1 < xs.length := (List.getElem?_eq_some_iff.1 hx).1
  obtain ⟨b, o, rfl, hok, hc⟩ := h.at hx
  have hxsz : x.cells.toArray.size = 35 := by simp [hok.len]
  have hfo := flat_ok hok hd
  have hp32 := hok.prev
  generalize hm : xs.length = m at *
  repeat (first
    | (apply ws; exact rfl; exact rfl; exact rfl)
    | refine wl_still rfl rfl rfl (od_indexAddr (m - 1) rfl rfl rfl rfl (by omega) (by omega)) ?_
    | refine wl_still rfl rfl rfl (od_loadLk rfl hok hc (by simp)) ?_
    | (apply wal Tryd.zeroValue55 rfl; exact rfl; exact rfl; intro bx)
    | (apply wsw (j := 0); exact rfl; exact rfl; exact rfl; exact rfl; exact hxsz; exact plainLnkA x; exact rfl; exact rfl)
    | refine wc_seq ?_
    | refine wc_region ?_
    | refine wl_nil ?_
    | refine we_round ?_
    | refine we_then_wc ?_
    | (apply wi64; exact rfl; omega; omega; exact rfl; exact rfl)
    | (apply wfa; exact rfl; exact rfl; exact rfl; exact rfl)
    | (apply wct; exact rfl; omega; exact rfl; exact rfl)
    | (apply wcf; exact rfl; omega; exact rfl; exact rfl)
    | (apply wn; exact rfl; exact rfl)
    | (apply wlb (j := 0); exact rfl; exact rfl; exact rfl; exact rfl; exact rfl; exact rfl)
    | (apply wlb (j := 1); exact rfl; exact rfl; exact rfl; exact rfl; exact rfl; exact rfl)
    | (apply wlb (j := 2); exact rfl; exact rfl; exact rfl; exact rfl; exact rfl; exact rfl)
    | (apply wlb (j := 3); exact rfl; exact rfl; exact rfl; exact rfl; exact rfl; exact rfl)
    | (apply wln; exact rfl; exact rfl; exact rfl; exact rfl)
    | (apply wpu; exact rfl; exact rfl; exact rfl)
    | (apply wbx; exact rfl; exact rfl; exact rfl; intro _)
    | refine wc_block ?_
    | (apply wc_true; exact rfl)
    | (apply wc_false; exact rfl)
    | refine wc_skip ?_
    | refine wc_exit ?_
    | refine wc_ret ?_
    | refine we_then_exit ?_
    | refine we_then_ret ?_
    | refine we_in_normal ?_
    | refine we_in_ret ?_
    | refine we_in_here ?_
    | (apply we_in_there; exact rfl))
  refine wc_loop (ι := Nat × Nat × Nat × List Value) (fun i => [(6, .int .i64 (i.1 : Int)), (5, pvV x.prev i.1 i.2.1 i.2.2.1), (4, .pointer (some ⟨bx, 0, none⟩))]) (fun i => pvB x.prev bx x.cells i.1 i.2.1 i.2.2.2) (fun i => i.1 ≤ 32 ∧ pvP x.prev i.1 i.2.2.1 i.2.2.2) (fun i => 32 - i.1) (0, 0, 0, [])
    ⟨by simp, trivial⟩ ⟨rfl, rfl, rfl, trivial⟩ (List.Sublist.refl _) ?_
  rintro ⟨k, bk, ck, sk⟩ ⟨hk, hpv⟩
  simp only at hk hpv
  dsimp only
  cases k with
  | zero =>
    have hy : x.prev[0]? = some x.prev[0] := List.getElem?_eq_getElem (by omega)
    generalize x.prev[0] = y at hy
    have hcy := Lnk.prev_get hy
    have ht1 : x.prev.take (0 + 1) = [y] := by rw [List.take_add_one, hy]; rfl
    show WC none _ _ 47 [] [(6, .int .i64 ((0 : Nat) : Int)), (5, .slice none 0 0), (4, .pointer (some ⟨bx, 0, none⟩))] w [] [(bx, x.cells, 55)]
    repeat (first
      | (apply ws; exact rfl; exact rfl; exact rfl)
      | refine wl_still rfl rfl rfl (od_indexAddrA1 0 rfl rfl rfl rfl rfl (by omega)) ?_
      | (apply wlb (j := 0); exact rfl; exact rfl; exact rfl; exact hcy; exact rfl; exact rfl)
      | refine wc_seq ?_
      | refine wc_region ?_
      | refine wl_nil ?_
      | refine we_round ?_
      | refine we_then_wc ?_
      | (apply wi64; exact rfl; omega; omega; exact rfl; exact rfl)
      | (apply wfa; exact rfl; exact rfl; exact rfl; exact rfl)
      | (apply wct; exact rfl; omega; exact rfl; exact rfl)
      | (apply wcf; exact rfl; omega; exact rfl; exact rfl)
      | (apply wn; exact rfl; exact rfl)
      | (apply wlb (j := 0); exact rfl; exact rfl; exact rfl; exact rfl; exact rfl; exact rfl)
      | (apply wlb (j := 1); exact rfl; exact rfl; exact rfl; exact rfl; exact rfl; exact rfl)
      | (apply wlb (j := 2); exact rfl; exact rfl; exact rfl; exact rfl; exact rfl; exact rfl)
      | (apply wlb (j := 3); exact rfl; exact rfl; exact rfl; exact rfl; exact rfl; exact rfl)
      | (apply wln; exact rfl; exact rfl; exact rfl; exact rfl)
      | (apply wpu; exact rfl; exact rfl; exact rfl)
      | (apply wbx; exact rfl; exact rfl; exact rfl; intro _)
      | refine wc_block ?_
      | (apply wc_true; exact rfl)
      | (apply wc_false; exact rfl)
      | refine wc_skip ?_
      | refine wc_exit ?_
      | refine wc_ret ?_
      | refine we_then_exit ?_
      | refine we_then_ret ?_
      | refine we_in_normal ?_
      | refine we_in_ret ?_
      | refine we_in_here ?_
      | (apply we_in_there; exact rfl))
    refine wl_makes rfl rfl rfl (od_buildSlice (cs := [v8 y]) rfl rfl ⟨_, Tryd.zeroValue5⟩ rfl rfl rfl (by simp [Value.cells, v8]) (by omega) rfl) ?_
    rintro _ b1 -
    refine wl_makes rfl rfl rfl (od_fresh (ys := [y]) rfl rfl rfl (by simp) (fun w' h => h.src1 (j := 0) rfl) (by simp) (by simp)) ?_
    rintro ⟨c2, sp2⟩ b2 ⟨e1, e2⟩
    simp only at e1 e2
    dsimp only
    rw [← ht1] at e1 e2 ⊢
    repeat (first
      | (apply ws; exact rfl; exact rfl; exact rfl)
      | refine wc_seq ?_
      | refine wc_region ?_
      | refine wl_nil ?_
      | refine we_round ?_
      | refine we_then_wc ?_
      | (apply wi64; exact rfl; omega; omega; exact rfl; exact rfl)
      | (apply wfa; exact rfl; exact rfl; exact rfl; exact rfl)
      | (apply wct; exact rfl; omega; exact rfl; exact rfl)
      | (apply wcf; exact rfl; omega; exact rfl; exact rfl)
      | (apply wn; exact rfl; exact rfl)
      | (apply wlb (j := 0); exact rfl; exact rfl; exact rfl; exact rfl; exact rfl; exact rfl)
      | (apply wlb (j := 1); exact rfl; exact rfl; exact rfl; exact rfl; exact rfl; exact rfl)
      | (apply wlb (j := 2); exact rfl; exact rfl; exact rfl; exact rfl; exact rfl; exact rfl)
      | (apply wlb (j := 3); exact rfl; exact rfl; exact rfl; exact rfl; exact rfl; exact rfl)
      | (apply wln; exact rfl; exact rfl; exact rfl; exact rfl)
      | (apply wpu; exact rfl; exact rfl; exact rfl)
      | (apply wbx; exact rfl; exact rfl; exact rfl; intro _)
      | refine wc_block ?_
      | (apply wc_true; exact rfl)
      | (apply wc_false; exact rfl)
      | refine wc_skip ?_
      | refine wc_exit ?_
      | refine wc_ret ?_
      | refine we_then_exit ?_
      | refine we_then_ret ?_
      | refine we_in_normal ?_
      | refine we_in_ret ?_
      | refine we_in_here ?_
      | (apply we_in_there; exact rfl))
    exact we_again (0 + 1, b2, c2, sp2) ⟨by simp only; omega, e1, e2⟩ (by simp only; omega) ⟨rfl, rfl, rfl, trivial⟩ (List.Sublist.cons_cons _ (List.Sublist.cons _ (List.Sublist.refl _)))
  | succ k =>
    obtain ⟨e1, e2⟩ := hpv
    show WC none _ _ 47 [] [(6, .int .i64 ((k + 1 : Nat) : Int)), (5, .slice (some ⟨bk, 0, none⟩) (x.prev.take (k + 1)).length ck), (4, .pointer (some ⟨bx, 0, none⟩))] w [] [(bk, (x.prev.take (k + 1)).map v8 ++ sk, 5), (bx, x.cells, 55)]
    by_cases hk32 : k + 1 = 32
    · have htk : x.prev.take (k + 1) = x.prev := List.take_of_length_le (by omega)
      rw [htk] at e1 e2 ⊢
      repeat (first
        | (apply ws; exact rfl; exact rfl; exact rfl)
        | refine wc_seq ?_
        | refine wc_region ?_
        | refine wl_nil ?_
        | refine we_round ?_
        | refine we_then_wc ?_
        | (apply wi64; exact rfl; omega; omega; exact rfl; exact rfl)
        | (apply wfa; exact rfl; exact rfl; exact rfl; exact rfl)
        | (apply wct; exact rfl; omega; exact rfl; exact rfl)
        | (apply wcf; exact rfl; omega; exact rfl; exact rfl)
        | (apply wn; exact rfl; exact rfl)
        | (apply wlb (j := 0); exact rfl; exact rfl; exact rfl; exact rfl; exact rfl; exact rfl)
        | (apply wlb (j := 1); exact rfl; exact rfl; exact rfl; exact rfl; exact rfl; exact rfl)
        | (apply wlb (j := 2); exact rfl; exact rfl; exact rfl; exact rfl; exact rfl; exact rfl)
        | (apply wlb (j := 3); exact rfl; exact rfl; exact rfl; exact rfl; exact rfl; exact rfl)
        | (apply wln; exact rfl; exact rfl; exact rfl; exact rfl)
        | (apply wpu; exact rfl; exact rfl; exact rfl)
        | (apply wbx; exact rfl; exact rfl; exact rfl; intro _)
        | refine wc_block ?_
        | (apply wc_true; exact rfl)
        | (apply wc_false; exact rfl)
        | refine wc_skip ?_
        | refine wc_exit ?_
        | refine wc_ret ?_
        | refine we_then_exit ?_
        | refine we_then_ret ?_
        | refine we_in_normal ?_
        | refine we_in_ret ?_
        | refine we_in_here ?_
        | (apply we_in_there; exact rfl))
      refine wc_plan _ none [(0, true), (1, true), (2, true), (3, true), (4, true), (5, true), (6, true), (7, true), (8, true), (9, true), (10, true), (11, false), (12, true), (13, false), (14, true), (15, true), (16, true), (17, true), (18, true)] (by kernel_rfl) (List.Sublist.refl _) ?_
      repeat (first
        | (apply ps; exact rfl; exact rfl; exact rfl; exact rfl)
        | (apply plb (j := 1); exact rfl; exact rfl; exact rfl; exact rfl; exact hok.c34; exact rfl; exact rfl)
        | (apply pq Tryd.call69; exact rfl; exact rfl; exact rfl; exact rfl; exact (fun w _ => ref_number _ w))
        | (apply pq Tryd.call70; exact rfl; exact rfl; exact rfl; exact rfl; exact (fun w' h' => ref_text (some ⟨bk, 0, none⟩) x.prev.length ck x.prev rfl w' (ByA.of_rd e1 (fun i z hz => h'.cell_blk (j := 0) rfl (cells_map 0 rfl i z hz)))))
        | (apply pq Tryd.call70; exact rfl; exact rfl; exact rfl; exact rfl; exact (fun w' h' => ref_text x.da x.data.length x.dc x.data rfl w' (hok.data.ext h'.ext_all)))
        | (apply pfa; exact rfl; exact rfl; exact rfl; exact rfl; exact rfl)
        | (apply pi64; exact rfl; exact rfl; omega; omega; exact rfl; exact rfl)
        | (apply pct; exact rfl; exact rfl; omega; exact rfl; exact rfl)
        | (apply pcf; exact rfl; exact rfl; omega; exact rfl; exact rfl)
        | (apply wp_not; exact rfl; exact rfl; exact rfl)
        | (apply plb (j := 0); exact rfl; exact rfl; exact rfl; exact rfl; exact rfl; exact rfl; exact rfl)
        | (apply plb (j := 1); exact rfl; exact rfl; exact rfl; exact rfl; exact rfl; exact rfl; exact rfl)
        | (apply plb (j := 2); exact rfl; exact rfl; exact rfl; exact rfl; exact rfl; exact rfl; exact rfl)
        | (apply pln; exact rfl; exact rfl; exact rfl; exact rfl; exact rfl)
        | (apply ppu; exact rfl; exact rfl; exact rfl; exact rfl)
        | (apply pfs; exact rfl; exact rfl; exact rfl; exact rfl)
        | apply wp_nil)
      refine wp_makes rfl rfl rfl (od_buildSlice (cs := (Lf.I x.node).cells ++ (Lf.I x.no).cells ++ (Lf.T x.prev).cells ++ (Lf.T x.data).cells) rfl rfl ⟨_, zero75⟩ rfl rfl rfl (by simp [Value.cells, Lf.cells, Lf.v]) (by omega) rfl) ?_
      rintro _ bl -
      repeat (first
        | (apply ps; exact rfl; exact rfl; exact rfl; exact rfl)
        | (apply wp_still; exact rfl; exact rfl; exact rfl; exact (od_struct [.int .i64 0, .int .i64 0, strV [], .slice none 0 0] [.int .i64 3, .int .i64 0, strV [], .slice (some ⟨bl, 0, none⟩) 4 4] rfl rfl zero75 rfl rfl))
        | (apply pfa; exact rfl; exact rfl; exact rfl; exact rfl; exact rfl)
        | (apply pi64; exact rfl; exact rfl; omega; omega; exact rfl; exact rfl)
        | (apply pct; exact rfl; exact rfl; omega; exact rfl; exact rfl)
        | (apply pcf; exact rfl; exact rfl; omega; exact rfl; exact rfl)
        | (apply wp_not; exact rfl; exact rfl; exact rfl)
        | (apply plb (j := 0); exact rfl; exact rfl; exact rfl; exact rfl; exact rfl; exact rfl; exact rfl)
        | (apply plb (j := 1); exact rfl; exact rfl; exact rfl; exact rfl; exact rfl; exact rfl; exact rfl)
        | (apply plb (j := 2); exact rfl; exact rfl; exact rfl; exact rfl; exact rfl; exact rfl; exact rfl)
        | (apply pln; exact rfl; exact rfl; exact rfl; exact rfl; exact rfl)
        | (apply ppu; exact rfl; exact rfl; exact rfl; exact rfl)
        | (apply pfs; exact rfl; exact rfl; exact rfl; exact rfl)
        | apply wp_nil)
      refine wp_makes rfl rfl rfl (od_call Tryd.call68 rfl (fun w' h' => ref_Encode bl 0 4 [.I x.node, .I x.no, .T x.prev, .T x.data] hfo (by simp) w' (leaf4 (fun i v hi => h'.cell_blk (j := 0) rfl hi)))) ?_
      rintro ⟨c2, sp2⟩ b2 ⟨e3, e4⟩
      simp only at e3 e4
      dsimp only
      repeat (first
        | (apply ps; exact rfl; exact rfl; exact rfl; exact rfl)
        | (apply pfa; exact rfl; exact rfl; exact rfl; exact rfl; exact rfl)
        | (apply pi64; exact rfl; exact rfl; omega; omega; exact rfl; exact rfl)
        | (apply pct; exact rfl; exact rfl; omega; exact rfl; exact rfl)
        | (apply pcf; exact rfl; exact rfl; omega; exact rfl; exact rfl)
        | (apply wp_not; exact rfl; exact rfl; exact rfl)
        | (apply plb (j := 0); exact rfl; exact rfl; exact rfl; exact rfl; exact rfl; exact rfl; exact rfl)
        | (apply plb (j := 1); exact rfl; exact rfl; exact rfl; exact rfl; exact rfl; exact rfl; exact rfl)
        | (apply plb (j := 2); exact rfl; exact rfl; exact rfl; exact rfl; exact rfl; exact rfl; exact rfl)
        | (apply pln; exact rfl; exact rfl; exact rfl; exact rfl; exact rfl)
        | (apply ppu; exact rfl; exact rfl; exact rfl; exact rfl)
        | (apply pfs; exact rfl; exact rfl; exact rfl; exact rfl)
        | apply wp_nil)
      repeat (first
        | (apply ws; exact rfl; exact rfl; exact rfl)
        | refine wc_seq ?_
        | refine wc_region ?_
        | refine wl_nil ?_
        | refine we_round ?_
        | refine we_then_wc ?_
        | (apply wi64; exact rfl; omega; omega; exact rfl; exact rfl)
        | (apply wfa; exact rfl; exact rfl; exact rfl; exact rfl)
        | (apply wct; exact rfl; omega; exact rfl; exact rfl)
        | (apply wcf; exact rfl; omega; exact rfl; exact rfl)
        | (apply wn; exact rfl; exact rfl)
        | (apply wlb (j := 0); exact rfl; exact rfl; exact rfl; exact rfl; exact rfl; exact rfl)
        | (apply wlb (j := 1); exact rfl; exact rfl; exact rfl; exact rfl; exact rfl; exact rfl)
        | (apply wlb (j := 2); exact rfl; exact rfl; exact rfl; exact rfl; exact rfl; exact rfl)
        | (apply wlb (j := 3); exact rfl; exact rfl; exact rfl; exact rfl; exact rfl; exact rfl)
        | (apply wln; exact rfl; exact rfl; exact rfl; exact rfl)
        | (apply wpu; exact rfl; exact rfl; exact rfl)
        | (apply wbx; exact rfl; exact rfl; exact rfl; intro _)
        | refine wc_block ?_
        | (apply wc_true; exact rfl)
        | (apply wc_false; exact rfl)
        | refine wc_skip ?_
        | refine wc_exit ?_
        | refine wc_ret ?_
        | refine we_then_exit ?_
        | refine we_then_ret ?_
        | refine we_in_normal ?_
        | refine we_in_ret ?_
        | refine we_in_here ?_
        | (apply we_in_there; exact rfl))
      refine we_ret2 (Or.inl rfl) rfl rfl rfl fun w' h' => ?_
      have hb := h'.at (j := 0) rfl
      exact ⟨(c2, sp2), b2, rfl, ⟨e3, e4⟩, hb.1.resolve_right (by simp), h'.ext_all, hb.2⟩
    · have hy : x.prev[k + 1]? = some x.prev[k + 1] := List.getElem?_eq_getElem (by omega)
      generalize x.prev[k + 1] = y at hy
      have hcy := Lnk.prev_get hy
      have ht1 : x.prev.take (k + 1) ++ [y] = x.prev.take (k + 1 + 1) := by rw [List.take_add_one (i := k + 1), hy]; rfl
      repeat (first
        | (apply ws; exact rfl; exact rfl; exact rfl)
        | refine wl_still rfl rfl rfl (od_indexAddrA1 (k + 1) rfl rfl rfl rfl rfl (by omega)) ?_
        | (apply wlb (j := 1); exact rfl; exact rfl; exact rfl; exact hcy; exact rfl; exact rfl)
        | refine wc_seq ?_
        | refine wc_region ?_
        | refine wl_nil ?_
        | refine we_round ?_
        | refine we_then_wc ?_
        | (apply wi64; exact rfl; omega; omega; exact rfl; exact rfl)
        | (apply wfa; exact rfl; exact rfl; exact rfl; exact rfl)
        | (apply wct; exact rfl; omega; exact rfl; exact rfl)
        | (apply wcf; exact rfl; omega; exact rfl; exact rfl)
        | (apply wn; exact rfl; exact rfl)
        | (apply wlb (j := 0); exact rfl; exact rfl; exact rfl; exact rfl; exact rfl; exact rfl)
        | (apply wlb (j := 1); exact rfl; exact rfl; exact rfl; exact rfl; exact rfl; exact rfl)
        | (apply wlb (j := 2); exact rfl; exact rfl; exact rfl; exact rfl; exact rfl; exact rfl)
        | (apply wlb (j := 3); exact rfl; exact rfl; exact rfl; exact rfl; exact rfl; exact rfl)
        | (apply wln; exact rfl; exact rfl; exact rfl; exact rfl)
        | (apply wpu; exact rfl; exact rfl; exact rfl)
        | (apply wbx; exact rfl; exact rfl; exact rfl; intro _)
        | refine wc_block ?_
        | (apply wc_true; exact rfl)
        | (apply wc_false; exact rfl)
        | refine wc_skip ?_
        | refine wc_exit ?_
        | refine wc_ret ?_
        | refine we_then_exit ?_
        | refine we_then_ret ?_
        | refine we_in_normal ?_
        | refine we_in_ret ?_
        | refine we_in_here ?_
        | (apply we_in_there; exact rfl))
      refine wl_makes rfl rfl rfl (od_buildSlice (cs := [v8 y]) rfl rfl ⟨_, Tryd.zeroValue5⟩ rfl rfl rfl (by simp [Value.cells, v8]) (by omega) rfl) ?_
      rintro _ b1 -
      refine wl_moves 1 rfl rfl rfl rfl (od_grow (xs := x.prev.take (k + 1)) (ys := [y]) (sp := sk) 1 rfl rfl rfl rfl (by simp) e2 (fun w' h => h.src1 (j := 0) rfl) (by simp; omega)) ?_
      rintro ⟨c2, sp2⟩ b2 ⟨e3, e4⟩
      simp only at e3 e4
      dsimp only
      rw [ht1] at e3 e4 ⊢
      repeat (first
        | (apply ws; exact rfl; exact rfl; exact rfl)
        | refine wc_seq ?_
        | refine wc_region ?_
        | refine wl_nil ?_
        | refine we_round ?_
        | refine we_then_wc ?_
        | (apply wi64; exact rfl; omega; omega; exact rfl; exact rfl)
        | (apply wfa; exact rfl; exact rfl; exact rfl; exact rfl)
        | (apply wct; exact rfl; omega; exact rfl; exact rfl)
        | (apply wcf; exact rfl; omega; exact rfl; exact rfl)
        | (apply wn; exact rfl; exact rfl)
        | (apply wlb (j := 0); exact rfl; exact rfl; exact rfl; exact rfl; exact rfl; exact rfl)
        | (apply wlb (j := 1); exact rfl; exact rfl; exact rfl; exact rfl; exact rfl; exact rfl)
        | (apply wlb (j := 2); exact rfl; exact rfl; exact rfl; exact rfl; exact rfl; exact rfl)
        | (apply wlb (j := 3); exact rfl; exact rfl; exact rfl; exact rfl; exact rfl; exact rfl)
        | (apply wln; exact rfl; exact rfl; exact rfl; exact rfl)
        | (apply wpu; exact rfl; exact rfl; exact rfl)
        | (apply wbx; exact rfl; exact rfl; exact rfl; intro _)
        | refine wc_block ?_
        | (apply wc_true; exact rfl)
        | (apply wc_false; exact rfl)
        | refine wc_skip ?_
        | refine wc_exit ?_
        | refine wc_ret ?_
        | refine we_then_exit ?_
        | refine we_then_ret ?_
        | refine we_in_normal ?_
        | refine we_in_ret ?_
        | refine we_in_here ?_
        | (apply we_in_there; exact rfl))
      exact we_again (k + 1 + 1, b2, c2, sp2) ⟨by simp only; omega, e3, e4⟩ (by simp only; omega) ⟨rfl, rfl, rfl, trivial⟩ (List.Sublist.cons_cons _ (List.Sublist.cons _ (List.Sublist.refl _)))
end Go.Proofs.YtielloijdkoeiaaDoor
