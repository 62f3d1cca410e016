/- Layer 8: chain.Add, where it adds. -/
import Derived.Test.YtielloijdkoeiaaDoorLh
namespace Go.Proofs.YtielloijdkoeiaaDoor
open Go Go.RowKit Go.Lib
set_option maxRecDepth 100000

theorem addE_zero {xs : List Lnk} {node : Int} {dl : Nat} (h : addE xs node dl = 0) : chkP xs = 0 ∧ ¬ node < 0 ∧ ¬ 24 ≤ node ∧ offB xs node = false ∧ ¬ 65536 < dl ∧ ¬ xs.length = 1024 := by
  unfold addE at h
  by_cases c1 : chkP xs = 0
  · rw [if_pos c1] at h
    by_cases c2 : node < 0 ∨ 24 ≤ node ∨ offB xs node = true ∨ 65536 < dl
    · rw [if_pos c2] at h; cases h
    · rw [if_neg c2] at h
      by_cases c3 : xs.length = 1024
      · rw [if_pos c3] at h; cases h
      · simp only [not_or] at c2
        exact ⟨c1, c2.1, c2.2.1, by simpa using c2.2.2.1, c2.2.2.2, c3⟩
  · rw [if_neg c1] at h; exact absurd h c1

/-- What stands at the end of Add: the new list's block, the clone's. -/
theorem add_end {w w' : World} {xs : List Lnk} {x : Lnk} {lb cap : Nat} {sp : List Value} {node : Int} {data : List UInt8} (e : Ext w w') (hB : Blk w' lb (xs.flatMap Lnk.cells ++ x.cells ++ sp) 55) (hcap : xs.length + 1 ≤ cap)
    (hok : ∀ y ∈ xs, y.ok w) (hx : x.ok w') (h1 : x.node = node) (h2 : x.no = (xs.length : Int)) (h3 : x.prev = headP xs) (h4 : x.data = data) :
    AddOk xs node data w (.tuple #[.slice (some ⟨lb, 0, none⟩) (xs.length + 1) cap, .int .i64 0]) w' := by
  refine ⟨e, _, cap, x, rfl, ?_, h1, h2, h3, h4⟩
  refine LkA.of_blk (sp := sp) (T := 55) ?_ (fun y hy => ?_) (by simpa using hcap)
  · simpa using hB
  · rcases List.mem_append.1 hy with hy | hy
    · exact (hok y hy).ext e
    · simp at hy; subst hy; exact hx

theorem chain_Add_ok (a : Option Addr) (c : Nat) (xs : List Lnk) (node : Int) (da : Option Addr) (dc : Nat) (data : List UInt8) (hs : smallP xs) (hnode : in64 node) (w : World) (hL : Laid w) (h : LkA w a c xs) (hdata : ByA w da dc data) (hE : addE xs node data.length = 0) :
    Fn 25 [.slice a xs.length c, .int .i64 node, .slice da data.length dc] w (AddOk xs node data w) := by
  refine fn_of (args := [.slice a xs.length c, .int .i64 node, .slice da data.length dc]) Tryd.func25 rfl Tryd.ntmps25 rfl (Hp.start w) ?_
  obtain ⟨c1, n1, n2, n3, n4, n5⟩ := addE_zero hE
  have k1 : ∀ w', Ext w w' → Fn 31 [.slice a xs.length c] w' (Quiet (.int .i64 0) w') := fun w' e => c1 ▸ chain_Check a c xs hs.1 hs.2 w' (hL.ext e) (h.ext e)
  have k2 : ∀ w', Ext w w' → Fn 30 [.slice a xs.length c] w' (Quiet (digV (headP xs)) w') := fun w' e => chain_Head a c xs hs.1 hs.2 w' (hL.ext e) (h.ext e)
  have hp32 := headP_length xs
  have hxs := hs.1
  have hsrc := h.src
  have hfl := flat_len xs (fun y hy => (h.ok hy).len)
  have hcc := h.1
  have hno : in64 (xs.length : Int) := by unfold in64; omega
  have hold : ∀ w', Ext w w' → (Builtin.firstCells 35 xs.length (.slice a xs.length xs.length)).run Tryd.prog w' = .ok (xs.flatMap Lnk.cells).toArray w' := fun w' e => by
    have := hsrc.2 w' e
    cases a with
    | none => exact this
    | some a => exact this
  generalize hph : headP xs = hp at *
  have hoff : ∀ y, xs[0]? = some y → y.node = node := fun y hy => by
    unfold offB at n3
    rw [hy] at n3
    simp only [decide_eq_false_iff_not, ne_eq, Decidable.not_not] at n3
    exact n3.symm
  have hallok : ∀ y ∈ xs, y.ok w := fun y hy => h.ok hy
  obtain ⟨m, hm⟩ : ∃ m : Nat, xs.length = m := ⟨_, rfl⟩
  rw [hm] at k1 k2 hold hfl n5 hxs hcc hno ⊢
  by_cases hx0 : m = 0
  · repeat (first
      | (apply ws; exact rfl; exact rfl; exact rfl)
      | (apply wq Tryd.call31; exact rfl; exact rfl; exact rfl; exact (fun w' hw => k1 w' hw.ext_all))
      | (apply wq Tryd.call30; exact rfl; exact rfl; exact rfl; exact (fun w' hw => k2 w' hw.ext_all))
      | refine wc_seq ?_
      | refine wc_region ?_
      | refine wl_nil ?_
      | refine we_round ?_
      | refine we_then_wc ?_
      | (apply wi64; exact rfl; omega; omega; exact rfl; exact rfl)
      | (apply wfa; exact rfl; exact rfl; exact rfl; exact rfl)
      | (apply wct; exact rfl; omega; exact rfl; exact rfl)
      | (apply wcf; exact rfl; omega; exact rfl; exact rfl)
      | (apply wn; exact rfl; exact rfl)
      | (apply wlb (j := 0); exact rfl; exact rfl; exact rfl; exact rfl; exact rfl; exact rfl)
      | (apply wlb (j := 1); exact rfl; exact rfl; exact rfl; exact rfl; exact rfl; exact rfl)
      | (apply wlb (j := 2); exact rfl; exact rfl; exact rfl; exact rfl; exact rfl; exact rfl)
      | (apply wlb (j := 3); exact rfl; exact rfl; exact rfl; exact rfl; exact rfl; exact rfl)
      | (apply wln; exact rfl; exact rfl; exact rfl; exact rfl)
      | (apply wpu; exact rfl; exact rfl; exact rfl)
      | (apply wbx; exact rfl; exact rfl; exact rfl; intro _)
      | refine wc_block ?_
      | (apply wc_true; exact rfl)
      | (apply wc_false; exact rfl)
      | refine wc_skip ?_
      | refine wc_exit ?_
      | refine wc_ret ?_
      | refine we_then_exit ?_
      | refine we_then_ret ?_
      | refine we_in_normal ?_
      | refine we_in_ret ?_
      | refine we_in_here ?_
      | (apply we_in_there; exact rfl))
    cases da with
    | none =>
      have hd0 : data = [] := List.eq_nil_of_length_eq_zero (by have := hdata.2.1 rfl; have := hdata.1; omega)
      subst hd0
      obtain ⟨X, hX⟩ : ∃ X : Lnk, X = { node := node, no := (m : Int), prev := hp, data := [], da := none, dc := 0 } := ⟨_, rfl⟩
      have hxl : X.cells.length = 35 := by rw [hX]; simp [Lnk.cells, hp32]
      have hxsz : X.cells.toArray.size = 35 := by simp [hxl]
      have hfill := fill_lnk node (m : Int) hp none 0 [] hp32
      rw [← hX] at hfill
      repeat (first
        | (apply ws; exact rfl; exact rfl; exact rfl)
        | (apply wq Tryd.call47; exact rfl; exact rfl; exact rfl; exact (fun w' _ => bytes_Clone_nil _ _ w'))
        | refine wl_still rfl rfl rfl (od_struct zLnk.cells X.cells rfl rfl zero55 rfl hfill) ?_
        | (apply wal zero55 rfl; exact rfl; exact rfl; intro bx)
        | (apply wsw (j := 0); exact rfl; exact rfl; exact rfl; exact rfl; exact hxsz; exact plainLnkA _; exact rfl; exact rfl)
        | refine wc_seq ?_
        | refine wc_region ?_
        | refine wl_nil ?_
        | refine we_round ?_
        | refine we_then_wc ?_
        | (apply wi64; exact rfl; omega; omega; exact rfl; exact rfl)
        | (apply wfa; exact rfl; exact rfl; exact rfl; exact rfl)
        | (apply wct; exact rfl; omega; exact rfl; exact rfl)
        | (apply wcf; exact rfl; omega; exact rfl; exact rfl)
        | (apply wn; exact rfl; exact rfl)
        | (apply wlb (j := 0); exact rfl; exact rfl; exact rfl; exact rfl; exact rfl; exact rfl)
        | (apply wlb (j := 1); exact rfl; exact rfl; exact rfl; exact rfl; exact rfl; exact rfl)
        | (apply wlb (j := 2); exact rfl; exact rfl; exact rfl; exact rfl; exact rfl; exact rfl)
        | (apply wlb (j := 3); exact rfl; exact rfl; exact rfl; exact rfl; exact rfl; exact rfl)
        | (apply wln; exact rfl; exact rfl; exact rfl; exact rfl)
        | (apply wpu; exact rfl; exact rfl; exact rfl)
        | (apply wbx; exact rfl; exact rfl; exact rfl; intro _)
        | refine wc_block ?_
        | (apply wc_true; exact rfl)
        | (apply wc_false; exact rfl)
        | refine wc_skip ?_
        | refine wc_exit ?_
        | refine wc_ret ?_
        | refine we_then_exit ?_
        | refine we_then_ret ?_
        | refine we_in_normal ?_
        | refine we_in_ret ?_
        | refine we_in_here ?_
        | (apply we_in_there; exact rfl))
      refine wc_plan _ none [(0, true), (1, true), (2, true), (3, true), (4, true), (5, true), (6, true), (7, false), (8, false), (9, true), (10, true)] (by kernel_rfl) (List.Sublist.refl _) ?_
      repeat (first
        | (apply ps; exact rfl; exact rfl; exact rfl; exact rfl)
        | (apply wp_still; exact rfl; exact rfl; exact rfl; exact (od_sliceTo3 m m rfl rfl rfl rfl rfl (Nat.le_refl _) hcc))
        | (apply wp_still; exact rfl; exact rfl; exact rfl; exact (od_loadAB 0 rfl rfl rfl rfl hxl))
        | (apply pfa; exact rfl; exact rfl; exact rfl; exact rfl; exact rfl)
        | (apply pi64; exact rfl; exact rfl; omega; omega; exact rfl; exact rfl)
        | (apply pct; exact rfl; exact rfl; omega; exact rfl; exact rfl)
        | (apply pcf; exact rfl; exact rfl; omega; exact rfl; exact rfl)
        | (apply wp_not; exact rfl; exact rfl; exact rfl)
        | (apply plb (j := 0); exact rfl; exact rfl; exact rfl; exact rfl; exact rfl; exact rfl; exact rfl)
        | (apply plb (j := 1); exact rfl; exact rfl; exact rfl; exact rfl; exact rfl; exact rfl; exact rfl)
        | (apply plb (j := 2); exact rfl; exact rfl; exact rfl; exact rfl; exact rfl; exact rfl; exact rfl)
        | (apply pln; exact rfl; exact rfl; exact rfl; exact rfl; exact rfl)
        | (apply ppu; exact rfl; exact rfl; exact rfl; exact rfl)
        | (apply pfs; exact rfl; exact rfl; exact rfl; exact rfl)
        | apply wp_nil)
      refine wp_makes rfl rfl rfl (od_buildSlice (cs := X.cells) rfl rfl ⟨_, zero55⟩ rfl rfl rfl (by simp [Value.cells, hxl]) (by omega) (by simp [Value.cells])) ?_
      rintro _ bb -
      refine wp_makes rfl rfl rfl (od_appendN (n := m) (m := 1) (cap := m) (olds := xs.flatMap Lnk.cells) (news := X.cells) rfl rfl elem55 rfl rfl (by simp) (fun w' hw => hold w' hw.ext_all) hfl (fun w' hw => Src.cells (by rw [hxl]) (fun i v hv => by rw [Nat.zero_add]; exact hw.cell_blk (j := 0) rfl hv)) (by rw [hxl]) (by omega) (by omega) (by simp only [maxLen]; omega)) ?_
      rintro ⟨c2, sp2⟩ b2 ⟨e1, e2⟩
      simp only at e1 e2
      dsimp only
      repeat (first
        | (apply ps; exact rfl; exact rfl; exact rfl; exact rfl)
        | (apply pfa; exact rfl; exact rfl; exact rfl; exact rfl; exact rfl)
        | (apply pi64; exact rfl; exact rfl; omega; omega; exact rfl; exact rfl)
        | (apply pct; exact rfl; exact rfl; omega; exact rfl; exact rfl)
        | (apply pcf; exact rfl; exact rfl; omega; exact rfl; exact rfl)
        | (apply wp_not; exact rfl; exact rfl; exact rfl)
        | (apply plb (j := 0); exact rfl; exact rfl; exact rfl; exact rfl; exact rfl; exact rfl; exact rfl)
        | (apply plb (j := 1); exact rfl; exact rfl; exact rfl; exact rfl; exact rfl; exact rfl; exact rfl)
        | (apply plb (j := 2); exact rfl; exact rfl; exact rfl; exact rfl; exact rfl; exact rfl; exact rfl)
        | (apply pln; exact rfl; exact rfl; exact rfl; exact rfl; exact rfl)
        | (apply ppu; exact rfl; exact rfl; exact rfl; exact rfl)
        | (apply pfs; exact rfl; exact rfl; exact rfl; exact rfl)
        | apply wp_nil)
      repeat (first
        | (apply ws; exact rfl; exact rfl; exact rfl)
        | refine wc_seq ?_
        | refine wc_region ?_
        | refine wl_nil ?_
        | refine we_round ?_
        | refine we_then_wc ?_
        | (apply wi64; exact rfl; omega; omega; exact rfl; exact rfl)
        | (apply wfa; exact rfl; exact rfl; exact rfl; exact rfl)
        | (apply wct; exact rfl; omega; exact rfl; exact rfl)
        | (apply wcf; exact rfl; omega; exact rfl; exact rfl)
        | (apply wn; exact rfl; exact rfl)
        | (apply wlb (j := 0); exact rfl; exact rfl; exact rfl; exact rfl; exact rfl; exact rfl)
        | (apply wlb (j := 1); exact rfl; exact rfl; exact rfl; exact rfl; exact rfl; exact rfl)
        | (apply wlb (j := 2); exact rfl; exact rfl; exact rfl; exact rfl; exact rfl; exact rfl)
        | (apply wlb (j := 3); exact rfl; exact rfl; exact rfl; exact rfl; exact rfl; exact rfl)
        | (apply wln; exact rfl; exact rfl; exact rfl; exact rfl)
        | (apply wpu; exact rfl; exact rfl; exact rfl)
        | (apply wbx; exact rfl; exact rfl; exact rfl; intro _)
        | refine wc_block ?_
        | (apply wc_true; exact rfl)
        | (apply wc_false; exact rfl)
        | refine wc_skip ?_
        | refine wc_exit ?_
        | refine wc_ret ?_
        | refine we_then_exit ?_
        | refine we_then_ret ?_
        | refine we_in_normal ?_
        | refine we_in_ret ?_
        | refine we_in_here ?_
        | (apply we_in_there; exact rfl))
      refine we_ret2 (Or.inl rfl) rfl rfl rfl fun w' h' => ?_
      subst hm
      subst hX
      exact add_end (sp := sp2) h'.ext_all (h'.at (j := 0) rfl).2 e1 hallok ⟨hnode, hno, hp32, ByA.nil w'⟩ rfl rfl hph.symm rfl
    | some ad =>
      refine wmk Tryd.call47 rfl rfl rfl (fun w' h' => bytes_Clone_some ad dc data (by omega) w' (hdata.ext h'.ext_all)) ?_
      rintro ⟨c3, sp3⟩ b3 ⟨e3, e4⟩
      simp only at e3 e4
      dsimp only
      obtain ⟨X, hX⟩ : ∃ X : Lnk, X = { node := node, no := (m : Int), prev := hp, data := data, da := some ⟨b3, 0, none⟩, dc := c3 } := ⟨_, rfl⟩
      have hxl : X.cells.length = 35 := by rw [hX]; simp [Lnk.cells, hp32]
      have hxsz : X.cells.toArray.size = 35 := by simp [hxl]
      have hfill := fill_lnk node (m : Int) hp (some ⟨b3, 0, none⟩) c3 data hp32
      rw [← hX] at hfill
      repeat (first
        | (apply ws; exact rfl; exact rfl; exact rfl)
        | refine wl_still rfl rfl rfl (od_struct zLnk.cells X.cells rfl rfl zero55 rfl hfill) ?_
        | (apply wal zero55 rfl; exact rfl; exact rfl; intro bx)
        | (apply wsw (j := 0); exact rfl; exact rfl; exact rfl; exact rfl; exact hxsz; exact plainLnkA _; exact rfl; exact rfl)
        | refine wc_seq ?_
        | refine wc_region ?_
        | refine wl_nil ?_
        | refine we_round ?_
        | refine we_then_wc ?_
        | (apply wi64; exact rfl; omega; omega; exact rfl; exact rfl)
        | (apply wfa; exact rfl; exact rfl; exact rfl; exact rfl)
        | (apply wct; exact rfl; omega; exact rfl; exact rfl)
        | (apply wcf; exact rfl; omega; exact rfl; exact rfl)
        | (apply wn; exact rfl; exact rfl)
        | (apply wlb (j := 0); exact rfl; exact rfl; exact rfl; exact rfl; exact rfl; exact rfl)
        | (apply wlb (j := 1); exact rfl; exact rfl; exact rfl; exact rfl; exact rfl; exact rfl)
        | (apply wlb (j := 2); exact rfl; exact rfl; exact rfl; exact rfl; exact rfl; exact rfl)
        | (apply wlb (j := 3); exact rfl; exact rfl; exact rfl; exact rfl; exact rfl; exact rfl)
        | (apply wln; exact rfl; exact rfl; exact rfl; exact rfl)
        | (apply wpu; exact rfl; exact rfl; exact rfl)
        | (apply wbx; exact rfl; exact rfl; exact rfl; intro _)
        | refine wc_block ?_
        | (apply wc_true; exact rfl)
        | (apply wc_false; exact rfl)
        | refine wc_skip ?_
        | refine wc_exit ?_
        | refine wc_ret ?_
        | refine we_then_exit ?_
        | refine we_then_ret ?_
        | refine we_in_normal ?_
        | refine we_in_ret ?_
        | refine we_in_here ?_
        | (apply we_in_there; exact rfl))
      refine wc_plan _ none [(0, true), (1, true), (2, true), (3, true), (4, true), (5, true), (6, true), (7, false), (8, false), (9, true), (10, true)] (by kernel_rfl) (List.Sublist.refl _) ?_
      repeat (first
        | (apply ps; exact rfl; exact rfl; exact rfl; exact rfl)
        | (apply wp_still; exact rfl; exact rfl; exact rfl; exact (od_sliceTo3 m m rfl rfl rfl rfl rfl (Nat.le_refl _) hcc))
        | (apply wp_still; exact rfl; exact rfl; exact rfl; exact (od_loadAB 0 rfl rfl rfl rfl hxl))
        | (apply pfa; exact rfl; exact rfl; exact rfl; exact rfl; exact rfl)
        | (apply pi64; exact rfl; exact rfl; omega; omega; exact rfl; exact rfl)
        | (apply pct; exact rfl; exact rfl; omega; exact rfl; exact rfl)
        | (apply pcf; exact rfl; exact rfl; omega; exact rfl; exact rfl)
        | (apply wp_not; exact rfl; exact rfl; exact rfl)
        | (apply plb (j := 0); exact rfl; exact rfl; exact rfl; exact rfl; exact rfl; exact rfl; exact rfl)
        | (apply plb (j := 1); exact rfl; exact rfl; exact rfl; exact rfl; exact rfl; exact rfl; exact rfl)
        | (apply plb (j := 2); exact rfl; exact rfl; exact rfl; exact rfl; exact rfl; exact rfl; exact rfl)
        | (apply pln; exact rfl; exact rfl; exact rfl; exact rfl; exact rfl)
        | (apply ppu; exact rfl; exact rfl; exact rfl; exact rfl)
        | (apply pfs; exact rfl; exact rfl; exact rfl; exact rfl)
        | apply wp_nil)
      refine wp_makes rfl rfl rfl (od_buildSlice (cs := X.cells) rfl rfl ⟨_, zero55⟩ rfl rfl rfl (by simp [Value.cells, hxl]) (by omega) (by simp [Value.cells])) ?_
      rintro _ bb -
      refine wp_makes rfl rfl rfl (od_appendN (n := m) (m := 1) (cap := m) (olds := xs.flatMap Lnk.cells) (news := X.cells) rfl rfl elem55 rfl rfl (by simp) (fun w' hw => hold w' hw.ext_all) hfl (fun w' hw => Src.cells (by rw [hxl]) (fun i v hv => by rw [Nat.zero_add]; exact hw.cell_blk (j := 0) rfl hv)) (by rw [hxl]) (by omega) (by omega) (by simp only [maxLen]; omega)) ?_
      rintro ⟨c2, sp2⟩ b2 ⟨e1, e2⟩
      simp only at e1 e2
      dsimp only
      repeat (first
        | (apply ps; exact rfl; exact rfl; exact rfl; exact rfl)
        | (apply pfa; exact rfl; exact rfl; exact rfl; exact rfl; exact rfl)
        | (apply pi64; exact rfl; exact rfl; omega; omega; exact rfl; exact rfl)
        | (apply pct; exact rfl; exact rfl; omega; exact rfl; exact rfl)
        | (apply pcf; exact rfl; exact rfl; omega; exact rfl; exact rfl)
        | (apply wp_not; exact rfl; exact rfl; exact rfl)
        | (apply plb (j := 0); exact rfl; exact rfl; exact rfl; exact rfl; exact rfl; exact rfl; exact rfl)
        | (apply plb (j := 1); exact rfl; exact rfl; exact rfl; exact rfl; exact rfl; exact rfl; exact rfl)
        | (apply plb (j := 2); exact rfl; exact rfl; exact rfl; exact rfl; exact rfl; exact rfl; exact rfl)
        | (apply pln; exact rfl; exact rfl; exact rfl; exact rfl; exact rfl)
        | (apply ppu; exact rfl; exact rfl; exact rfl; exact rfl)
        | (apply pfs; exact rfl; exact rfl; exact rfl; exact rfl)
        | apply wp_nil)
      repeat (first
        | (apply ws; exact rfl; exact rfl; exact rfl)
        | refine wc_seq ?_
        | refine wc_region ?_
        | refine wl_nil ?_
        | refine we_round ?_
        | refine we_then_wc ?_
        | (apply wi64; exact rfl; omega; omega; exact rfl; exact rfl)
        | (apply wfa; exact rfl; exact rfl; exact rfl; exact rfl)
        | (apply wct; exact rfl; omega; exact rfl; exact rfl)
        | (apply wcf; exact rfl; omega; exact rfl; exact rfl)
        | (apply wn; exact rfl; exact rfl)
        | (apply wlb (j := 0); exact rfl; exact rfl; exact rfl; exact rfl; exact rfl; exact rfl)
        | (apply wlb (j := 1); exact rfl; exact rfl; exact rfl; exact rfl; exact rfl; exact rfl)
        | (apply wlb (j := 2); exact rfl; exact rfl; exact rfl; exact rfl; exact rfl; exact rfl)
        | (apply wlb (j := 3); exact rfl; exact rfl; exact rfl; exact rfl; exact rfl; exact rfl)
        | (apply wln; exact rfl; exact rfl; exact rfl; exact rfl)
        | (apply wpu; exact rfl; exact rfl; exact rfl)
        | (apply wbx; exact rfl; exact rfl; exact rfl; intro _)
        | refine wc_block ?_
        | (apply wc_true; exact rfl)
        | (apply wc_false; exact rfl)
        | refine wc_skip ?_
        | refine wc_exit ?_
        | refine wc_ret ?_
        | refine we_then_exit ?_
        | refine we_then_ret ?_
        | refine we_in_normal ?_
        | refine we_in_ret ?_
        | refine we_in_here ?_
        | (apply we_in_there; exact rfl))
      refine we_ret2 (Or.inl rfl) rfl rfl rfl fun w' h' => ?_
      subst hm
      subst hX
      exact add_end (sp := sp2) h'.ext_all (h'.at (j := 0) rfl).2 e1 hallok ⟨hnode, hno, hp32, ByA.of_rd e3 (fun i x hx => h'.cell_blk (j := 3) rfl (cells_map 0 rfl i x hx))⟩ rfl rfl hph.symm rfl
  · obtain ⟨y, b, o, hy, ea, oky, hcy⟩ := h.get 0 (by omega)
    subst ea
    have hy0 := hcy 0 _ rfl
    have hyn := hoff y hy
    repeat (first
      | (apply ws; exact rfl; exact rfl; exact rfl)
      | (apply wq Tryd.call31; exact rfl; exact rfl; exact rfl; exact (fun w' hw => k1 w' hw.ext_all))
      | refine wl_still rfl rfl rfl (od_indexAddr 0 rfl rfl rfl rfl rfl (by omega)) ?_
      | (apply wlo; exact rfl; exact rfl; exact hy0; exact List.not_mem_nil; exact rfl; exact rfl)
      | (apply wq Tryd.call30; exact rfl; exact rfl; exact rfl; exact (fun w' hw => k2 w' hw.ext_all))
      | refine wc_seq ?_
      | refine wc_region ?_
      | refine wl_nil ?_
      | refine we_round ?_
      | refine we_then_wc ?_
      | (apply wi64; exact rfl; omega; omega; exact rfl; exact rfl)
      | (apply wfa; exact rfl; exact rfl; exact rfl; exact rfl)
      | (apply wct; exact rfl; omega; exact rfl; exact rfl)
      | (apply wcf; exact rfl; omega; exact rfl; exact rfl)
      | (apply wn; exact rfl; exact rfl)
      | (apply wlb (j := 0); exact rfl; exact rfl; exact rfl; exact rfl; exact rfl; exact rfl)
      | (apply wlb (j := 1); exact rfl; exact rfl; exact rfl; exact rfl; exact rfl; exact rfl)
      | (apply wlb (j := 2); exact rfl; exact rfl; exact rfl; exact rfl; exact rfl; exact rfl)
      | (apply wlb (j := 3); exact rfl; exact rfl; exact rfl; exact rfl; exact rfl; exact rfl)
      | (apply wln; exact rfl; exact rfl; exact rfl; exact rfl)
      | (apply wpu; exact rfl; exact rfl; exact rfl)
      | (apply wbx; exact rfl; exact rfl; exact rfl; intro _)
      | refine wc_block ?_
      | (apply wc_true; exact rfl)
      | (apply wc_false; exact rfl)
      | refine wc_skip ?_
      | refine wc_exit ?_
      | refine wc_ret ?_
      | refine we_then_exit ?_
      | refine we_then_ret ?_
      | refine we_in_normal ?_
      | refine we_in_ret ?_
      | refine we_in_here ?_
      | (apply we_in_there; exact rfl))
    cases da with
    | none =>
      have hd0 : data = [] := List.eq_nil_of_length_eq_zero (by have := hdata.2.1 rfl; have := hdata.1; omega)
      subst hd0
      obtain ⟨X, hX⟩ : ∃ X : Lnk, X = { node := node, no := (m : Int), prev := hp, data := [], da := none, dc := 0 } := ⟨_, rfl⟩
      have hxl : X.cells.length = 35 := by rw [hX]; simp [Lnk.cells, hp32]
      have hxsz : X.cells.toArray.size = 35 := by simp [hxl]
      have hfill := fill_lnk node (m : Int) hp none 0 [] hp32
      rw [← hX] at hfill
      repeat (first
        | (apply ws; exact rfl; exact rfl; exact rfl)
        | (apply wq Tryd.call47; exact rfl; exact rfl; exact rfl; exact (fun w' _ => bytes_Clone_nil _ _ w'))
        | refine wl_still rfl rfl rfl (od_struct zLnk.cells X.cells rfl rfl zero55 rfl hfill) ?_
        | (apply wal zero55 rfl; exact rfl; exact rfl; intro bx)
        | (apply wsw (j := 0); exact rfl; exact rfl; exact rfl; exact rfl; exact hxsz; exact plainLnkA _; exact rfl; exact rfl)
        | refine wc_seq ?_
        | refine wc_region ?_
        | refine wl_nil ?_
        | refine we_round ?_
        | refine we_then_wc ?_
        | (apply wi64; exact rfl; omega; omega; exact rfl; exact rfl)
        | (apply wfa; exact rfl; exact rfl; exact rfl; exact rfl)
        | (apply wct; exact rfl; omega; exact rfl; exact rfl)
        | (apply wcf; exact rfl; omega; exact rfl; exact rfl)
        | (apply wn; exact rfl; exact rfl)
        | (apply wlb (j := 0); exact rfl; exact rfl; exact rfl; exact rfl; exact rfl; exact rfl)
        | (apply wlb (j := 1); exact rfl; exact rfl; exact rfl; exact rfl; exact rfl; exact rfl)
        | (apply wlb (j := 2); exact rfl; exact rfl; exact rfl; exact rfl; exact rfl; exact rfl)
        | (apply wlb (j := 3); exact rfl; exact rfl; exact rfl; exact rfl; exact rfl; exact rfl)
        | (apply wln; exact rfl; exact rfl; exact rfl; exact rfl)
        | (apply wpu; exact rfl; exact rfl; exact rfl)
        | (apply wbx; exact rfl; exact rfl; exact rfl; intro _)
        | refine wc_block ?_
        | (apply wc_true; exact rfl)
        | (apply wc_false; exact rfl)
        | refine wc_skip ?_
        | refine wc_exit ?_
        | refine wc_ret ?_
        | refine we_then_exit ?_
        | refine we_then_ret ?_
        | refine we_in_normal ?_
        | refine we_in_ret ?_
        | refine we_in_here ?_
        | (apply we_in_there; exact rfl))
      refine wc_plan _ none [(0, true), (1, true), (2, true), (3, true), (4, true), (5, true), (6, true), (7, false), (8, false), (9, true), (10, true)] (by kernel_rfl) (List.Sublist.refl _) ?_
      repeat (first
        | (apply ps; exact rfl; exact rfl; exact rfl; exact rfl)
        | (apply wp_still; exact rfl; exact rfl; exact rfl; exact (od_sliceTo3 m m rfl rfl rfl rfl rfl (Nat.le_refl _) hcc))
        | (apply wp_still; exact rfl; exact rfl; exact rfl; exact (od_loadAB 0 rfl rfl rfl rfl hxl))
        | (apply pfa; exact rfl; exact rfl; exact rfl; exact rfl; exact rfl)
        | (apply pi64; exact rfl; exact rfl; omega; omega; exact rfl; exact rfl)
        | (apply pct; exact rfl; exact rfl; omega; exact rfl; exact rfl)
        | (apply pcf; exact rfl; exact rfl; omega; exact rfl; exact rfl)
        | (apply wp_not; exact rfl; exact rfl; exact rfl)
        | (apply plb (j := 0); exact rfl; exact rfl; exact rfl; exact rfl; exact rfl; exact rfl; exact rfl)
        | (apply plb (j := 1); exact rfl; exact rfl; exact rfl; exact rfl; exact rfl; exact rfl; exact rfl)
        | (apply plb (j := 2); exact rfl; exact rfl; exact rfl; exact rfl; exact rfl; exact rfl; exact rfl)
        | (apply pln; exact rfl; exact rfl; exact rfl; exact rfl; exact rfl)
        | (apply ppu; exact rfl; exact rfl; exact rfl; exact rfl)
        | (apply pfs; exact rfl; exact rfl; exact rfl; exact rfl)
        | apply wp_nil)
      refine wp_makes rfl rfl rfl (od_buildSlice (cs := X.cells) rfl rfl ⟨_, zero55⟩ rfl rfl rfl (by simp [Value.cells, hxl]) (by omega) (by simp [Value.cells])) ?_
      rintro _ bb -
      refine wp_makes rfl rfl rfl (od_appendN (n := m) (m := 1) (cap := m) (olds := xs.flatMap Lnk.cells) (news := X.cells) rfl rfl elem55 rfl rfl (by simp) (fun w' hw => hold w' hw.ext_all) hfl (fun w' hw => Src.cells (by rw [hxl]) (fun i v hv => by rw [Nat.zero_add]; exact hw.cell_blk (j := 0) rfl hv)) (by rw [hxl]) (by omega) (by omega) (by simp only [maxLen]; omega)) ?_
      rintro ⟨c2, sp2⟩ b2 ⟨e1, e2⟩
      simp only at e1 e2
      dsimp only
      repeat (first
        | (apply ps; exact rfl; exact rfl; exact rfl; exact rfl)
        | (apply pfa; exact rfl; exact rfl; exact rfl; exact rfl; exact rfl)
        | (apply pi64; exact rfl; exact rfl; omega; omega; exact rfl; exact rfl)
        | (apply pct; exact rfl; exact rfl; omega; exact rfl; exact rfl)
        | (apply pcf; exact rfl; exact rfl; omega; exact rfl; exact rfl)
        | (apply wp_not; exact rfl; exact rfl; exact rfl)
        | (apply plb (j := 0); exact rfl; exact rfl; exact rfl; exact rfl; exact rfl; exact rfl; exact rfl)
        | (apply plb (j := 1); exact rfl; exact rfl; exact rfl; exact rfl; exact rfl; exact rfl; exact rfl)
        | (apply plb (j := 2); exact rfl; exact rfl; exact rfl; exact rfl; exact rfl; exact rfl; exact rfl)
        | (apply pln; exact rfl; exact rfl; exact rfl; exact rfl; exact rfl)
        | (apply ppu; exact rfl; exact rfl; exact rfl; exact rfl)
        | (apply pfs; exact rfl; exact rfl; exact rfl; exact rfl)
        | apply wp_nil)
      repeat (first
        | (apply ws; exact rfl; exact rfl; exact rfl)
        | refine wc_seq ?_
        | refine wc_region ?_
        | refine wl_nil ?_
        | refine we_round ?_
        | refine we_then_wc ?_
        | (apply wi64; exact rfl; omega; omega; exact rfl; exact rfl)
        | (apply wfa; exact rfl; exact rfl; exact rfl; exact rfl)
        | (apply wct; exact rfl; omega; exact rfl; exact rfl)
        | (apply wcf; exact rfl; omega; exact rfl; exact rfl)
        | (apply wn; exact rfl; exact rfl)
        | (apply wlb (j := 0); exact rfl; exact rfl; exact rfl; exact rfl; exact rfl; exact rfl)
        | (apply wlb (j := 1); exact rfl; exact rfl; exact rfl; exact rfl; exact rfl; exact rfl)
        | (apply wlb (j := 2); exact rfl; exact rfl; exact rfl; exact rfl; exact rfl; exact rfl)
        | (apply wlb (j := 3); exact rfl; exact rfl; exact rfl; exact rfl; exact rfl; exact rfl)
        | (apply wln; exact rfl; exact rfl; exact rfl; exact rfl)
        | (apply wpu; exact rfl; exact rfl; exact rfl)
        | (apply wbx; exact rfl; exact rfl; exact rfl; intro _)
        | refine wc_block ?_
        | (apply wc_true; exact rfl)
        | (apply wc_false; exact rfl)
        | refine wc_skip ?_
        | refine wc_exit ?_
        | refine wc_ret ?_
        | refine we_then_exit ?_
        | refine we_then_ret ?_
        | refine we_in_normal ?_
        | refine we_in_ret ?_
        | refine we_in_here ?_
        | (apply we_in_there; exact rfl))
      refine we_ret2 (Or.inl rfl) rfl rfl rfl fun w' h' => ?_
      subst hm
      subst hX
      exact add_end (sp := sp2) h'.ext_all (h'.at (j := 0) rfl).2 e1 hallok ⟨hnode, hno, hp32, ByA.nil w'⟩ rfl rfl hph.symm rfl
    | some ad =>
      refine wmk Tryd.call47 rfl rfl rfl (fun w' h' => bytes_Clone_some ad dc data (by omega) w' (hdata.ext h'.ext_all)) ?_
      rintro ⟨c3, sp3⟩ b3 ⟨e3, e4⟩
      simp only at e3 e4
      dsimp only
      obtain ⟨X, hX⟩ : ∃ X : Lnk, X = { node := node, no := (m : Int), prev := hp, data := data, da := some ⟨b3, 0, none⟩, dc := c3 } := ⟨_, rfl⟩
      have hxl : X.cells.length = 35 := by rw [hX]; simp [Lnk.cells, hp32]
      have hxsz : X.cells.toArray.size = 35 := by simp [hxl]
      have hfill := fill_lnk node (m : Int) hp (some ⟨b3, 0, none⟩) c3 data hp32
      rw [← hX] at hfill
      repeat (first
        | (apply ws; exact rfl; exact rfl; exact rfl)
        | refine wl_still rfl rfl rfl (od_struct zLnk.cells X.cells rfl rfl zero55 rfl hfill) ?_
        | (apply wal zero55 rfl; exact rfl; exact rfl; intro bx)
        | (apply wsw (j := 0); exact rfl; exact rfl; exact rfl; exact rfl; exact hxsz; exact plainLnkA _; exact rfl; exact rfl)
        | refine wc_seq ?_
        | refine wc_region ?_
        | refine wl_nil ?_
        | refine we_round ?_
        | refine we_then_wc ?_
        | (apply wi64; exact rfl; omega; omega; exact rfl; exact rfl)
        | (apply wfa; exact rfl; exact rfl; exact rfl; exact rfl)
        | (apply wct; exact rfl; omega; exact rfl; exact rfl)
        | (apply wcf; exact rfl; omega; exact rfl; exact rfl)
        | (apply wn; exact rfl; exact rfl)
        | (apply wlb (j := 0); exact rfl; exact rfl; exact rfl; exact rfl; exact rfl; exact rfl)
        | (apply wlb (j := 1); exact rfl; exact rfl; exact rfl; exact rfl; exact rfl; exact rfl)
        | (apply wlb (j := 2); exact rfl; exact rfl; exact rfl; exact rfl; exact rfl; exact rfl)
        | (apply wlb (j := 3); exact rfl; exact rfl; exact rfl; exact rfl; exact rfl; exact rfl)
        | (apply wln; exact rfl; exact rfl; exact rfl; exact rfl)
        | (apply wpu; exact rfl; exact rfl; exact rfl)
        | (apply wbx; exact rfl; exact rfl; exact rfl; intro _)
        | refine wc_block ?_
        | (apply wc_true; exact rfl)
        | (apply wc_false; exact rfl)
        | refine wc_skip ?_
        | refine wc_exit ?_
        | refine wc_ret ?_
        | refine we_then_exit ?_
        | refine we_then_ret ?_
        | refine we_in_normal ?_
        | refine we_in_ret ?_
        | refine we_in_here ?_
        | (apply we_in_there; exact rfl))
      refine wc_plan _ none [(0, true), (1, true), (2, true), (3, true), (4, true), (5, true), (6, true), (7, false), (8, false), (9, true), (10, true)] (by kernel_rfl) (List.Sublist.refl _) ?_
      repeat (first
        | (apply ps; exact rfl; exact rfl; exact rfl; exact rfl)
        | (apply wp_still; exact rfl; exact rfl; exact rfl; exact (od_sliceTo3 m m rfl rfl rfl rfl rfl (Nat.le_refl _) hcc))
        | (apply wp_still; exact rfl; exact rfl; exact rfl; exact (od_loadAB 0 rfl rfl rfl rfl hxl))
        | (apply pfa; exact rfl; exact rfl; exact rfl; exact rfl; exact rfl)
        | (apply pi64; exact rfl; exact rfl; omega; omega; exact rfl; exact rfl)
        | (apply pct; exact rfl; exact rfl; omega; exact rfl; exact rfl)
        | (apply pcf; exact rfl; exact rfl; omega; exact rfl; exact rfl)
        | (apply wp_not; exact rfl; exact rfl; exact rfl)
        | (apply plb (j := 0); exact rfl; exact rfl; exact rfl; exact rfl; exact rfl; exact rfl; exact rfl)
        | (apply plb (j := 1); exact rfl; exact rfl; exact rfl; exact rfl; exact rfl; exact rfl; exact rfl)
        | (apply plb (j := 2); exact rfl; exact rfl; exact rfl; exact rfl; exact rfl; exact rfl; exact rfl)
        | (apply pln; exact rfl; exact rfl; exact rfl; exact rfl; exact rfl)
        | (apply ppu; exact rfl; exact rfl; exact rfl; exact rfl)
        | (apply pfs; exact rfl; exact rfl; exact rfl; exact rfl)
        | apply wp_nil)
      refine wp_makes rfl rfl rfl (od_buildSlice (cs := X.cells) rfl rfl ⟨_, zero55⟩ rfl rfl rfl (by simp [Value.cells, hxl]) (by omega) (by simp [Value.cells])) ?_
      rintro _ bb -
      refine wp_makes rfl rfl rfl (od_appendN (n := m) (m := 1) (cap := m) (olds := xs.flatMap Lnk.cells) (news := X.cells) rfl rfl elem55 rfl rfl (by simp) (fun w' hw => hold w' hw.ext_all) hfl (fun w' hw => Src.cells (by rw [hxl]) (fun i v hv => by rw [Nat.zero_add]; exact hw.cell_blk (j := 0) rfl hv)) (by rw [hxl]) (by omega) (by omega) (by simp only [maxLen]; omega)) ?_
      rintro ⟨c2, sp2⟩ b2 ⟨e1, e2⟩
      simp only at e1 e2
      dsimp only
      repeat (first
        | (apply ps; exact rfl; exact rfl; exact rfl; exact rfl)
        | (apply pfa; exact rfl; exact rfl; exact rfl; exact rfl; exact rfl)
        | (apply pi64; exact rfl; exact rfl; omega; omega; exact rfl; exact rfl)
        | (apply pct; exact rfl; exact rfl; omega; exact rfl; exact rfl)
        | (apply pcf; exact rfl; exact rfl; omega; exact rfl; exact rfl)
        | (apply wp_not; exact rfl; exact rfl; exact rfl)
        | (apply plb (j := 0); exact rfl; exact rfl; exact rfl; exact rfl; exact rfl; exact rfl; exact rfl)
        | (apply plb (j := 1); exact rfl; exact rfl; exact rfl; exact rfl; exact rfl; exact rfl; exact rfl)
        | (apply plb (j := 2); exact rfl; exact rfl; exact rfl; exact rfl; exact rfl; exact rfl; exact rfl)
        | (apply pln; exact rfl; exact rfl; exact rfl; exact rfl; exact rfl)
        | (apply ppu; exact rfl; exact rfl; exact rfl; exact rfl)
        | (apply pfs; exact rfl; exact rfl; exact rfl; exact rfl)
        | apply wp_nil)
      repeat (first
        | (apply ws; exact rfl; exact rfl; exact rfl)
        | refine wc_seq ?_
        | refine wc_region ?_
        | refine wl_nil ?_
        | refine we_round ?_
        | refine we_then_wc ?_
        | (apply wi64; exact rfl; omega; omega; exact rfl; exact rfl)
        | (apply wfa; exact rfl; exact rfl; exact rfl; exact rfl)
        | (apply wct; exact rfl; omega; exact rfl; exact rfl)
        | (apply wcf; exact rfl; omega; exact rfl; exact rfl)
        | (apply wn; exact rfl; exact rfl)
        | (apply wlb (j := 0); exact rfl; exact rfl; exact rfl; exact rfl; exact rfl; exact rfl)
        | (apply wlb (j := 1); exact rfl; exact rfl; exact rfl; exact rfl; exact rfl; exact rfl)
        | (apply wlb (j := 2); exact rfl; exact rfl; exact rfl; exact rfl; exact rfl; exact rfl)
        | (apply wlb (j := 3); exact rfl; exact rfl; exact rfl; exact rfl; exact rfl; exact rfl)
        | (apply wln; exact rfl; exact rfl; exact rfl; exact rfl)
        | (apply wpu; exact rfl; exact rfl; exact rfl)
        | (apply wbx; exact rfl; exact rfl; exact rfl; intro _)
        | refine wc_block ?_
        | (apply wc_true; exact rfl)
        | (apply wc_false; exact rfl)
        | refine wc_skip ?_
        | refine wc_exit ?_
        | refine wc_ret ?_
        | refine we_then_exit ?_
        | refine we_then_ret ?_
        | refine we_in_normal ?_
        | refine we_in_ret ?_
        | refine we_in_here ?_
        | (apply we_in_there; exact rfl))
      refine we_ret2 (Or.inl rfl) rfl rfl rfl fun w' h' => ?_
      subst hm
      subst hX
      exact add_end (sp := sp2) h'.ext_all (h'.at (j := 0) rfl).2 e1 hallok ⟨hnode, hno, hp32, ByA.of_rd e3 (fun i x hx => h'.cell_blk (j := 3) rfl (cells_map 0 rfl i x hx))⟩ rfl rfl hph.symm rfl
end Go.Proofs.YtielloijdkoeiaaDoor
