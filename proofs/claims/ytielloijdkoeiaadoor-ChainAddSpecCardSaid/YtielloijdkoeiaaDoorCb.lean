/- Layer 1: the encoding of a list of integers and texts. -/
import Derived.Test.YtielloijdkoeiaaDoorCa
namespace Go.Proofs.YtielloijdkoeiaaDoor
open Go Go.RowKit Go.Lib
set_option maxRecDepth 100000

/-! ### Values: an integer, a text; lists of these -/
inductive Lf where
  | I (z : Int)
  | T (l : List UInt8)

def Lf.cells : Lf → List Value
  | .I z => [.int .i64 1, .int .i64 z, strV [], .slice none 0 0]
  | .T l => [.int .i64 2, .int .i64 0, strV l, .slice none 0 0]
def Lf.v (x : Lf) : Value := .agg x.cells.toArray
def Lf.enc : Lf → List UInt8
  | .I z => 1 :: numL (zz z)
  | .T l => 2 :: (numL l.length ++ l)
def Lf.ok : Lf → Prop
  | .I z => in64 z
  | .T l => l.length ≤ 2 ^ 30
theorem Lf.cells_length (x : Lf) : x.cells.length = 4 := by cases x <;> rfl
theorem Lf.enc_length (x : Lf) (h : x.ok) : x.enc.length ≤ 2 ^ 31 := by
  cases x with
  | I z =>
    have := numL_length64 (zz_lt h)
    simp only [Lf.enc, List.length_cons]; omega
  | T l =>
    have h1 : l.length ≤ 2 ^ 30 := h
    have := numL_length64 (u := l.length) (by omega)
    simp only [Lf.enc, List.length_cons, List.length_append]; omega

/-! ### Writing -/
theorem write_I (b cap : Nat) (xs : List UInt8) (sp : List Value) (z : Int) (hz : in64 z) (hl : xs.length ≤ 2 ^ 39) (hcap : (xs.map v8 ++ sp).length = cap) (w : World) (hB : Blk w b (xs.map v8 ++ sp) 5) :
    Fn 76 [.slice (some ⟨b, 0, none⟩) xs.length cap, (Lf.I z).v] w (Grown b (xs ++ (Lf.I z).enc) w) := by
  refine fn_of (args := [.slice (some ⟨b, 0, none⟩) xs.length cap, .agg (Lf.I z).cells.toArray]) Tryd.func76 rfl Tryd.ntmps76 rfl (Hp.start1 hB) ?_
  repeat (first
    | (apply ws; exact rfl; exact rfl; exact rfl)
    | refine wc_seq ?_
    | refine wc_region ?_
    | refine wl_nil ?_
    | refine we_round ?_
    | refine we_then_wc ?_
    | (apply wi64; exact rfl; omega; omega; exact rfl; exact rfl)
    | (apply wfa; exact rfl; exact rfl; exact rfl; exact rfl)
    | (apply wct; exact rfl; omega; exact rfl; exact rfl)
    | (apply wcf; exact rfl; omega; exact rfl; exact rfl)
    | (apply wn; exact rfl; exact rfl)
    | (apply wlb (j := 0); exact rfl; exact rfl; exact rfl; exact rfl; exact rfl; exact rfl)
    | (apply wlb (j := 1); exact rfl; exact rfl; exact rfl; exact rfl; exact rfl; exact rfl)
    | (apply wlb (j := 2); exact rfl; exact rfl; exact rfl; exact rfl; exact rfl; exact rfl)
    | (apply wlb (j := 3); exact rfl; exact rfl; exact rfl; exact rfl; exact rfl; exact rfl)
    | (apply wln; exact rfl; exact rfl; exact rfl; exact rfl)
    | (apply wpu; exact rfl; exact rfl; exact rfl)
    | (apply wbx; exact rfl; exact rfl; exact rfl; intro _)
    | refine wc_block ?_
    | (apply wc_true; exact rfl)
    | (apply wc_false; exact rfl)
    | refine wc_skip ?_
    | refine wc_exit ?_
    | refine wc_ret ?_
    | refine we_then_exit ?_
    | refine we_then_ret ?_
    | refine we_in_normal ?_
    | refine we_in_ret ?_
    | refine we_in_here ?_
    | (apply we_in_there; exact rfl))
  rename_i bx
  refine wc_plan [(bx, (Lf.I z).cells, 75)] none [(0, true), (3, true), (4, true), (1, false), (2, false), (5, true), (6, false), (7, true)] (by kernel_rfl) (List.Sublist.cons_cons _ (List.nil_sublist _)) ?_
  repeat (first
    | (apply ps; exact rfl; exact rfl; exact rfl; exact rfl)
    | (apply pfa; exact rfl; exact rfl; exact rfl; exact rfl; exact rfl)
    | (apply pi64; exact rfl; exact rfl; omega; omega; exact rfl; exact rfl)
    | (apply pct; exact rfl; exact rfl; omega; exact rfl; exact rfl)
    | (apply pcf; exact rfl; exact rfl; omega; exact rfl; exact rfl)
    | (apply wp_not; exact rfl; exact rfl; exact rfl)
    | (apply plb (j := 0); exact rfl; exact rfl; exact rfl; exact rfl; exact rfl; exact rfl; exact rfl)
    | (apply plb (j := 1); exact rfl; exact rfl; exact rfl; exact rfl; exact rfl; exact rfl; exact rfl)
    | (apply plb (j := 2); exact rfl; exact rfl; exact rfl; exact rfl; exact rfl; exact rfl; exact rfl)
    | (apply pln; exact rfl; exact rfl; exact rfl; exact rfl; exact rfl)
    | (apply ppu; exact rfl; exact rfl; exact rfl; exact rfl)
    | (apply pfs; exact rfl; exact rfl; exact rfl; exact rfl)
    | apply wp_nil)
  refine wp_makes rfl rfl rfl (od_buildSlice (cs := [v8 1]) rfl rfl ⟨_, Tryd.zeroValue5⟩ rfl rfl rfl (by simp [Value.cells]) (by omega) rfl) ?_
  rintro _ bt -
  refine wp_moves 2 rfl rfl rfl rfl (List.Sublist.cons _ (List.Sublist.refl _)) (od_grow (xs := xs) (ys := [1]) (sp := sp) 2 rfl rfl rfl rfl (by simp) hcap (fun w' h => h.src1 (j := 0) rfl) (by simp; omega)) ?_
  rintro ⟨c2, sp2⟩ b2 ⟨h1, h2⟩
  simp only at h1 h2
  dsimp only
  repeat (first
    | (apply ps; exact rfl; exact rfl; exact rfl; exact rfl)
    | (apply pq Tryd.call78; exact rfl; exact rfl; exact rfl; exact rfl; exact (fun w _ => unsigned_calls z hz w))
    | (apply pfa; exact rfl; exact rfl; exact rfl; exact rfl; exact rfl)
    | (apply pi64; exact rfl; exact rfl; omega; omega; exact rfl; exact rfl)
    | (apply pct; exact rfl; exact rfl; omega; exact rfl; exact rfl)
    | (apply pcf; exact rfl; exact rfl; omega; exact rfl; exact rfl)
    | (apply wp_not; exact rfl; exact rfl; exact rfl)
    | (apply plb (j := 0); exact rfl; exact rfl; exact rfl; exact rfl; exact rfl; exact rfl; exact rfl)
    | (apply plb (j := 1); exact rfl; exact rfl; exact rfl; exact rfl; exact rfl; exact rfl; exact rfl)
    | (apply plb (j := 2); exact rfl; exact rfl; exact rfl; exact rfl; exact rfl; exact rfl; exact rfl)
    | (apply pln; exact rfl; exact rfl; exact rfl; exact rfl; exact rfl)
    | (apply ppu; exact rfl; exact rfl; exact rfl; exact rfl)
    | (apply pfs; exact rfl; exact rfl; exact rfl; exact rfl)
    | apply wp_nil)
  refine wp_moves 0 rfl rfl rfl rfl (List.Sublist.cons _ (List.Sublist.refl _)) (od_call Tryd.call77 rfl (fun w' h => numeral_calls b2 c2 (zz z) (xs ++ [1]) sp2 (zz_lt hz) (by simp; omega) h2 w' (h.at (j := 0) rfl).2)) ?_
  rintro ⟨c3, sp3⟩ b3 ⟨h3, h4⟩
  simp only at h3 h4
  dsimp only
  repeat (first
    | (apply ps; exact rfl; exact rfl; exact rfl; exact rfl)
    | (apply pfa; exact rfl; exact rfl; exact rfl; exact rfl; exact rfl)
    | (apply pi64; exact rfl; exact rfl; omega; omega; exact rfl; exact rfl)
    | (apply pct; exact rfl; exact rfl; omega; exact rfl; exact rfl)
    | (apply pcf; exact rfl; exact rfl; omega; exact rfl; exact rfl)
    | (apply wp_not; exact rfl; exact rfl; exact rfl)
    | (apply plb (j := 0); exact rfl; exact rfl; exact rfl; exact rfl; exact rfl; exact rfl; exact rfl)
    | (apply plb (j := 1); exact rfl; exact rfl; exact rfl; exact rfl; exact rfl; exact rfl; exact rfl)
    | (apply plb (j := 2); exact rfl; exact rfl; exact rfl; exact rfl; exact rfl; exact rfl; exact rfl)
    | (apply pln; exact rfl; exact rfl; exact rfl; exact rfl; exact rfl)
    | (apply ppu; exact rfl; exact rfl; exact rfl; exact rfl)
    | (apply pfs; exact rfl; exact rfl; exact rfl; exact rfl)
    | apply wp_nil)
  have e : xs ++ [1] ++ numL (zz z) = xs ++ (Lf.I z).enc := by simp [Lf.enc]
  rw [e] at h3 h4 ⊢
  repeat (first
    | (apply ws; exact rfl; exact rfl; exact rfl)
    | refine wc_seq ?_
    | refine wc_region ?_
    | refine wl_nil ?_
    | refine we_round ?_
    | refine we_then_wc ?_
    | (apply wi64; exact rfl; omega; omega; exact rfl; exact rfl)
    | (apply wfa; exact rfl; exact rfl; exact rfl; exact rfl)
    | (apply wct; exact rfl; omega; exact rfl; exact rfl)
    | (apply wcf; exact rfl; omega; exact rfl; exact rfl)
    | (apply wn; exact rfl; exact rfl)
    | (apply wlb (j := 0); exact rfl; exact rfl; exact rfl; exact rfl; exact rfl; exact rfl)
    | (apply wlb (j := 1); exact rfl; exact rfl; exact rfl; exact rfl; exact rfl; exact rfl)
    | (apply wlb (j := 2); exact rfl; exact rfl; exact rfl; exact rfl; exact rfl; exact rfl)
    | (apply wlb (j := 3); exact rfl; exact rfl; exact rfl; exact rfl; exact rfl; exact rfl)
    | (apply wln; exact rfl; exact rfl; exact rfl; exact rfl)
    | (apply wpu; exact rfl; exact rfl; exact rfl)
    | (apply wbx; exact rfl; exact rfl; exact rfl; intro _)
    | refine wc_block ?_
    | (apply wc_true; exact rfl)
    | (apply wc_false; exact rfl)
    | refine wc_skip ?_
    | refine wc_exit ?_
    | refine wc_ret ?_
    | refine we_then_exit ?_
    | refine we_then_ret ?_
    | refine we_in_normal ?_
    | refine we_in_ret ?_
    | refine we_in_here ?_
    | (apply we_in_there; exact rfl))
  exact we_ret1 (Or.inl rfl) rfl rfl fun w' h => ⟨(c3, sp3), b3, rfl, ⟨h3, h4⟩, (by rcases (h.at (j := 0) rfl).1 with h3 | h3; exact Or.inr h3; exact Or.inl (by simpa using h3)), h.only_all, (h.at (j := 0) rfl).2⟩

theorem Src.strL {w : World} (l : List UInt8) : Src w (strV l) 1 l.length (l.map v8) := by
  have := Src.str (w := w) (size := 1) ⟨l.toArray⟩
  rwa [size_list, strCells_list] at this

theorem write_T (b cap : Nat) (xs : List UInt8) (sp : List Value) (l : List UInt8) (hz : l.length ≤ 2 ^ 30) (hl : xs.length ≤ 2 ^ 39) (hcap : (xs.map v8 ++ sp).length = cap) (w : World) (hB : Blk w b (xs.map v8 ++ sp) 5) :
    Fn 79 [.slice (some ⟨b, 0, none⟩) xs.length cap, (Lf.T l).v] w (Grown b (xs ++ (Lf.T l).enc) w) := by
  have hnl := numL_length64 (u := l.length) (by omega)
  refine fn_of (args := [.slice (some ⟨b, 0, none⟩) xs.length cap, .agg (Lf.T l).cells.toArray]) Tryd.func79 rfl Tryd.ntmps79 rfl (Hp.start1 hB) ?_
  repeat (first
    | (apply ws; exact rfl; exact rfl; exact rfl)
    | refine wc_seq ?_
    | refine wc_region ?_
    | refine wl_nil ?_
    | refine we_round ?_
    | refine we_then_wc ?_
    | (apply wi64; exact rfl; omega; omega; exact rfl; exact rfl)
    | (apply wfa; exact rfl; exact rfl; exact rfl; exact rfl)
    | (apply wct; exact rfl; omega; exact rfl; exact rfl)
    | (apply wcf; exact rfl; omega; exact rfl; exact rfl)
    | (apply wn; exact rfl; exact rfl)
    | (apply wlb (j := 0); exact rfl; exact rfl; exact rfl; exact rfl; exact rfl; exact rfl)
    | (apply wlb (j := 1); exact rfl; exact rfl; exact rfl; exact rfl; exact rfl; exact rfl)
    | (apply wlb (j := 2); exact rfl; exact rfl; exact rfl; exact rfl; exact rfl; exact rfl)
    | (apply wlb (j := 3); exact rfl; exact rfl; exact rfl; exact rfl; exact rfl; exact rfl)
    | (apply wln; exact rfl; exact rfl; exact rfl; exact rfl)
    | (apply wpu; exact rfl; exact rfl; exact rfl)
    | (apply wbx; exact rfl; exact rfl; exact rfl; intro _)
    | refine wc_block ?_
    | (apply wc_true; exact rfl)
    | (apply wc_false; exact rfl)
    | refine wc_skip ?_
    | refine wc_exit ?_
    | refine wc_ret ?_
    | refine we_then_exit ?_
    | refine we_then_ret ?_
    | refine we_in_normal ?_
    | refine we_in_ret ?_
    | refine we_in_here ?_
    | (apply we_in_there; exact rfl))
  rename_i bx
  refine wc_plan [(bx, (Lf.T l).cells, 75)] none [(0, true), (3, true), (4, true), (5, true), (6, true), (8, true), (9, true), (1, false), (2, false), (7, false), (10, false), (11, true)] (by kernel_rfl) (List.Sublist.cons_cons _ (List.nil_sublist _)) ?_
  repeat (first
    | (apply ps; exact rfl; exact rfl; exact rfl; exact rfl)
    | (apply wp_still; exact rfl; exact rfl; exact rfl; exact (od_lenS rfl rfl))
    | (apply pfa; exact rfl; exact rfl; exact rfl; exact rfl; exact rfl)
    | (apply pi64; exact rfl; exact rfl; omega; omega; exact rfl; exact rfl)
    | (apply pct; exact rfl; exact rfl; omega; exact rfl; exact rfl)
    | (apply pcf; exact rfl; exact rfl; omega; exact rfl; exact rfl)
    | (apply wp_not; exact rfl; exact rfl; exact rfl)
    | (apply plb (j := 0); exact rfl; exact rfl; exact rfl; exact rfl; exact rfl; exact rfl; exact rfl)
    | (apply plb (j := 1); exact rfl; exact rfl; exact rfl; exact rfl; exact rfl; exact rfl; exact rfl)
    | (apply plb (j := 2); exact rfl; exact rfl; exact rfl; exact rfl; exact rfl; exact rfl; exact rfl)
    | (apply pln; exact rfl; exact rfl; exact rfl; exact rfl; exact rfl)
    | (apply ppu; exact rfl; exact rfl; exact rfl; exact rfl)
    | (apply pfs; exact rfl; exact rfl; exact rfl; exact rfl)
    | apply wp_nil)
  rw [size_list]
  repeat (first
    | (apply ps; exact rfl; exact rfl; exact rfl; exact rfl)
    | (apply wp_still; exact rfl; exact rfl; exact rfl; exact (od_conv rfl rfl rfl))
    | (apply pfa; exact rfl; exact rfl; exact rfl; exact rfl; exact rfl)
    | (apply pi64; exact rfl; exact rfl; omega; omega; exact rfl; exact rfl)
    | (apply pct; exact rfl; exact rfl; omega; exact rfl; exact rfl)
    | (apply pcf; exact rfl; exact rfl; omega; exact rfl; exact rfl)
    | (apply wp_not; exact rfl; exact rfl; exact rfl)
    | (apply plb (j := 0); exact rfl; exact rfl; exact rfl; exact rfl; exact rfl; exact rfl; exact rfl)
    | (apply plb (j := 1); exact rfl; exact rfl; exact rfl; exact rfl; exact rfl; exact rfl; exact rfl)
    | (apply plb (j := 2); exact rfl; exact rfl; exact rfl; exact rfl; exact rfl; exact rfl; exact rfl)
    | (apply pln; exact rfl; exact rfl; exact rfl; exact rfl; exact rfl)
    | (apply ppu; exact rfl; exact rfl; exact rfl; exact rfl)
    | (apply pfs; exact rfl; exact rfl; exact rfl; exact rfl)
    | apply wp_nil)
  rw [wrap_u64_lt (by omega)]
  refine wp_makes rfl rfl rfl (od_buildSlice (cs := [v8 2]) rfl rfl ⟨_, Tryd.zeroValue5⟩ rfl rfl rfl (by simp [Value.cells]) (by omega) rfl) ?_
  rintro _ bt -
  refine wp_moves 2 rfl rfl rfl rfl (List.Sublist.cons _ (List.Sublist.refl _)) (od_grow (xs := xs) (ys := [2]) (sp := sp) 2 rfl rfl rfl rfl (by simp) hcap (fun w' h => h.src1 (j := 0) rfl) (by simp; omega)) ?_
  rintro ⟨c2, sp2⟩ b2 ⟨h1, h2⟩
  simp only at h1 h2
  dsimp only
  refine wp_moves 0 rfl rfl rfl rfl (List.Sublist.cons _ (List.Sublist.refl _)) (od_call Tryd.call77 rfl (fun w' h => numeral_calls b2 c2 l.length (xs ++ [2]) sp2 (by omega) (by simp; omega) h2 w' (h.at (j := 0) rfl).2)) ?_
  rintro ⟨c3, sp3⟩ b3 ⟨h3, h4⟩
  simp only at h3 h4
  dsimp only
  refine wp_moves 0 rfl rfl rfl rfl (List.Sublist.cons _ (List.Sublist.refl _)) (od_grow (xs := xs ++ [2] ++ numL l.length) (ys := l) (sp := sp3) 0 rfl rfl rfl rfl (by simp) h4 (fun w' h => Src.strL l) (by simp; omega)) ?_
  rintro ⟨c4, sp4⟩ b4 ⟨h5, h6⟩
  simp only at h5 h6
  dsimp only
  repeat (first
    | (apply ps; exact rfl; exact rfl; exact rfl; exact rfl)
    | (apply pfa; exact rfl; exact rfl; exact rfl; exact rfl; exact rfl)
    | (apply pi64; exact rfl; exact rfl; omega; omega; exact rfl; exact rfl)
    | (apply pct; exact rfl; exact rfl; omega; exact rfl; exact rfl)
    | (apply pcf; exact rfl; exact rfl; omega; exact rfl; exact rfl)
    | (apply wp_not; exact rfl; exact rfl; exact rfl)
    | (apply plb (j := 0); exact rfl; exact rfl; exact rfl; exact rfl; exact rfl; exact rfl; exact rfl)
    | (apply plb (j := 1); exact rfl; exact rfl; exact rfl; exact rfl; exact rfl; exact rfl; exact rfl)
    | (apply plb (j := 2); exact rfl; exact rfl; exact rfl; exact rfl; exact rfl; exact rfl; exact rfl)
    | (apply pln; exact rfl; exact rfl; exact rfl; exact rfl; exact rfl)
    | (apply ppu; exact rfl; exact rfl; exact rfl; exact rfl)
    | (apply pfs; exact rfl; exact rfl; exact rfl; exact rfl)
    | apply wp_nil)
  have e : xs ++ [2] ++ numL l.length ++ l = xs ++ (Lf.T l).enc := by simp [Lf.enc]
  rw [e] at h5 h6 ⊢
  repeat (first
    | (apply ws; exact rfl; exact rfl; exact rfl)
    | refine wc_seq ?_
    | refine wc_region ?_
    | refine wl_nil ?_
    | refine we_round ?_
    | refine we_then_wc ?_
    | (apply wi64; exact rfl; omega; omega; exact rfl; exact rfl)
    | (apply wfa; exact rfl; exact rfl; exact rfl; exact rfl)
    | (apply wct; exact rfl; omega; exact rfl; exact rfl)
    | (apply wcf; exact rfl; omega; exact rfl; exact rfl)
    | (apply wn; exact rfl; exact rfl)
    | (apply wlb (j := 0); exact rfl; exact rfl; exact rfl; exact rfl; exact rfl; exact rfl)
    | (apply wlb (j := 1); exact rfl; exact rfl; exact rfl; exact rfl; exact rfl; exact rfl)
    | (apply wlb (j := 2); exact rfl; exact rfl; exact rfl; exact rfl; exact rfl; exact rfl)
    | (apply wlb (j := 3); exact rfl; exact rfl; exact rfl; exact rfl; exact rfl; exact rfl)
    | (apply wln; exact rfl; exact rfl; exact rfl; exact rfl)
    | (apply wpu; exact rfl; exact rfl; exact rfl)
    | (apply wbx; exact rfl; exact rfl; exact rfl; intro _)
    | refine wc_block ?_
    | (apply wc_true; exact rfl)
    | (apply wc_false; exact rfl)
    | refine wc_skip ?_
    | refine wc_exit ?_
    | refine wc_ret ?_
    | refine we_then_exit ?_
    | refine we_then_ret ?_
    | refine we_in_normal ?_
    | refine we_in_ret ?_
    | refine we_in_here ?_
    | (apply we_in_there; exact rfl))
  exact we_ret1 (Or.inl rfl) rfl rfl fun w' h => ⟨(c4, sp4), b4, rfl, ⟨h5, h6⟩, (by rcases (h.at (j := 0) rfl).1 with h3 | h3; exact Or.inr h3; exact Or.inl (by simpa using h3)), h.only_all, (h.at (j := 0) rfl).2⟩

/-! ### A list -/
def LeafAt (w : World) (b o : Nat) (ls : List Lf) : Prop := ∀ k x, ls[k]? = some x → ∀ i y, x.cells[i]? = some y → w.cell? ⟨b, o + k * 4 + i, none⟩ = some y
def listV (b o c n : Nat) : Value := .agg #[.int .i64 3, .int .i64 0, strV [], .slice (some ⟨b, o, none⟩) n c]
def encH (ls : List Lf) (k : Nat) : List UInt8 := 3 :: (numL ls.length ++ (ls.take k).flatMap Lf.enc)
def encL (ls : List Lf) : List UInt8 := 3 :: (numL ls.length ++ ls.flatMap Lf.enc)

theorem flat_length : ∀ (ls : List Lf), (∀ x ∈ ls, x.ok) → (ls.flatMap Lf.enc).length ≤ ls.length * 2 ^ 31
  | [], _ => by simp
  | x :: ls, h => by
    have h1 := x.enc_length (h x (by simp))
    have h2 := flat_length ls (fun y hy => h y (by simp [hy]))
    simp only [List.flatMap_cons, List.length_append, List.length_cons]
    omega

theorem encH_length (ls : List Lf) (k : Nat) (h : ∀ x ∈ ls, x.ok) (hn : ls.length ≤ 64) : (encH ls k).length ≤ 2 ^ 38 := by
  have h1 := numL_length64 (u := ls.length) (by omega)
  have h2 := flat_length (ls.take k) (fun x hx => h x (List.mem_of_mem_take hx))
  have h3 : (ls.take k).length ≤ ls.length := by simp; omega
  simp only [encH, List.length_cons, List.length_append]
  have : (ls.take k).length * 2 ^ 31 ≤ ls.length * 2 ^ 31 := Nat.mul_le_mul_right _ h3
  omega

theorem encH_succ (ls : List Lf) (k : Nat) (x : Lf) (h : ls[k]? = some x) : encH ls (k + 1) = encH ls k ++ x.enc := by
  have hk := (List.getElem?_eq_some_iff.1 h)
  obtain ⟨hk, e⟩ := hk
  simp only [encH]
  rw [List.take_succ_eq_append_getElem hk, e]
  simp

/-- The writer of lists, and how it is known. -/
structure WritersAt (w : World) (var : Nat) : Prop where
  ex : ∃ wr, w.cell? ⟨var, 0, none⟩ = some (.pointer (some ⟨wr, 0, none⟩)) ∧ w.cell? ⟨wr, 0 + 1 + 0, none⟩ = some (.func (.func 76) #[] #[]) ∧ w.cell? ⟨wr, 0 + 2 + 0, none⟩ = some (.func (.func 79) #[] #[])

theorem zero75 (w : World) : (zeroValue 75).run Tryd.prog w = .ok (.agg #[.int .i64 0, .int .i64 0, strV [], .slice none 0 0]) w := (Tryd.zeroValue75 w).trans (by rfl)

theorem plainLf (x : Lf) : ∀ v ∈ x.cells.toArray.toList, plainV v = true := by cases x <;> simp [Lf.cells, strV, plainV]

theorem write_L (b o c : Nat) (ls : List Lf) (var : Nat) (hok : ∀ x ∈ ls, x.ok) (hn : ls.length ≤ 64) (w : World) (hL : LeafAt w b o ls) (hW : WritersAt w var) :
    Fn 80 [.slice none 0 0, listV b o c ls.length, .pointer (some ⟨var, 0, none⟩)] w (Fresh (encL ls) w) := by
  obtain ⟨wr, hv, hw1, hw2⟩ := hW.ex
  have hnl := numL_length64 (u := ls.length) (by omega)
  refine fn_of (args := [.slice none 0 0, listV b o c ls.length, .pointer (some ⟨var, 0, none⟩)]) Tryd.func80 rfl Tryd.ntmps80 rfl (Hp.start w) ?_
  repeat (first
    | (apply ws; exact rfl; exact rfl; exact rfl)
    | refine wc_seq ?_
    | refine wc_region ?_
    | refine wl_nil ?_
    | refine we_round ?_
    | refine we_then_wc ?_
    | (apply wi64; exact rfl; omega; omega; exact rfl; exact rfl)
    | (apply wfa; exact rfl; exact rfl; exact rfl; exact rfl)
    | (apply wct; exact rfl; omega; exact rfl; exact rfl)
    | (apply wcf; exact rfl; omega; exact rfl; exact rfl)
    | (apply wn; exact rfl; exact rfl)
    | (apply wlb (j := 0); exact rfl; exact rfl; exact rfl; exact rfl; exact rfl; exact rfl)
    | (apply wlb (j := 1); exact rfl; exact rfl; exact rfl; exact rfl; exact rfl; exact rfl)
    | (apply wlb (j := 2); exact rfl; exact rfl; exact rfl; exact rfl; exact rfl; exact rfl)
    | (apply wlb (j := 3); exact rfl; exact rfl; exact rfl; exact rfl; exact rfl; exact rfl)
    | (apply wln; exact rfl; exact rfl; exact rfl; exact rfl)
    | (apply wpu; exact rfl; exact rfl; exact rfl)
    | (apply wbx; exact rfl; exact rfl; exact rfl; intro _)
    | refine wc_block ?_
    | (apply wc_true; exact rfl)
    | (apply wc_false; exact rfl)
    | refine wc_skip ?_
    | refine wc_exit ?_
    | refine wc_ret ?_
    | refine we_then_exit ?_
    | refine we_then_ret ?_
    | refine we_in_normal ?_
    | refine we_in_ret ?_
    | refine we_in_here ?_
    | (apply we_in_there; exact rfl))
  rename_i bx
  refine wc_plan [(bx, [.int .i64 3, .int .i64 0, strV [], .slice (some ⟨b, o, none⟩) ls.length c], 75)] none [(0, true), (3, true), (4, true), (5, true), (6, true), (1, false), (2, false), (7, false), (8, true)] (by kernel_rfl) (List.Sublist.refl _) ?_
  repeat (first
    | (apply ps; exact rfl; exact rfl; exact rfl; exact rfl)
    | (apply pfa; exact rfl; exact rfl; exact rfl; exact rfl; exact rfl)
    | (apply pi64; exact rfl; exact rfl; omega; omega; exact rfl; exact rfl)
    | (apply pct; exact rfl; exact rfl; omega; exact rfl; exact rfl)
    | (apply pcf; exact rfl; exact rfl; omega; exact rfl; exact rfl)
    | (apply wp_not; exact rfl; exact rfl; exact rfl)
    | (apply plb (j := 0); exact rfl; exact rfl; exact rfl; exact rfl; exact rfl; exact rfl; exact rfl)
    | (apply plb (j := 1); exact rfl; exact rfl; exact rfl; exact rfl; exact rfl; exact rfl; exact rfl)
    | (apply plb (j := 2); exact rfl; exact rfl; exact rfl; exact rfl; exact rfl; exact rfl; exact rfl)
    | (apply pln; exact rfl; exact rfl; exact rfl; exact rfl; exact rfl)
    | (apply ppu; exact rfl; exact rfl; exact rfl; exact rfl)
    | (apply pfs; exact rfl; exact rfl; exact rfl; exact rfl)
    | apply wp_nil)
  repeat (first
    | (apply ps; exact rfl; exact rfl; exact rfl; exact rfl)
    | (apply wp_still; exact rfl; exact rfl; exact rfl; exact (od_conv rfl rfl rfl))
    | (apply pfa; exact rfl; exact rfl; exact rfl; exact rfl; exact rfl)
    | (apply pi64; exact rfl; exact rfl; omega; omega; exact rfl; exact rfl)
    | (apply pct; exact rfl; exact rfl; omega; exact rfl; exact rfl)
    | (apply pcf; exact rfl; exact rfl; omega; exact rfl; exact rfl)
    | (apply wp_not; exact rfl; exact rfl; exact rfl)
    | (apply plb (j := 0); exact rfl; exact rfl; exact rfl; exact rfl; exact rfl; exact rfl; exact rfl)
    | (apply plb (j := 1); exact rfl; exact rfl; exact rfl; exact rfl; exact rfl; exact rfl; exact rfl)
    | (apply plb (j := 2); exact rfl; exact rfl; exact rfl; exact rfl; exact rfl; exact rfl; exact rfl)
    | (apply pln; exact rfl; exact rfl; exact rfl; exact rfl; exact rfl)
    | (apply ppu; exact rfl; exact rfl; exact rfl; exact rfl)
    | (apply pfs; exact rfl; exact rfl; exact rfl; exact rfl)
    | apply wp_nil)
  rw [wrap_u64_lt (by omega)]
  refine wp_makes rfl rfl rfl (od_buildSlice (cs := [v8 3]) rfl rfl ⟨_, Tryd.zeroValue5⟩ rfl rfl rfl (by simp [Value.cells]) (by omega) rfl) ?_
  rintro _ bt -
  refine wp_makes rfl rfl rfl (od_fresh (ys := [3]) rfl rfl rfl (by simp) (fun w' h => h.src1 (j := 0) rfl) (by simp) (by simp)) ?_
  rintro ⟨c2, sp2⟩ b2 ⟨h1, h2⟩
  simp only at h1 h2
  dsimp only
  refine wp_moves 0 rfl rfl rfl rfl (List.Sublist.cons _ (List.Sublist.refl _)) (od_call Tryd.call77 rfl (fun w' h => numeral_calls b2 c2 ls.length [3] sp2 (by omega) (by simp) h2 w' (h.at (j := 0) rfl).2)) ?_
  rintro ⟨c3, sp3⟩ b3 ⟨h3, h4⟩
  simp only at h3 h4
  dsimp only
  repeat (first
    | (apply ps; exact rfl; exact rfl; exact rfl; exact rfl)
    | (apply pfa; exact rfl; exact rfl; exact rfl; exact rfl; exact rfl)
    | (apply pi64; exact rfl; exact rfl; omega; omega; exact rfl; exact rfl)
    | (apply pct; exact rfl; exact rfl; omega; exact rfl; exact rfl)
    | (apply pcf; exact rfl; exact rfl; omega; exact rfl; exact rfl)
    | (apply wp_not; exact rfl; exact rfl; exact rfl)
    | (apply plb (j := 0); exact rfl; exact rfl; exact rfl; exact rfl; exact rfl; exact rfl; exact rfl)
    | (apply plb (j := 1); exact rfl; exact rfl; exact rfl; exact rfl; exact rfl; exact rfl; exact rfl)
    | (apply plb (j := 2); exact rfl; exact rfl; exact rfl; exact rfl; exact rfl; exact rfl; exact rfl)
    | (apply pln; exact rfl; exact rfl; exact rfl; exact rfl; exact rfl)
    | (apply ppu; exact rfl; exact rfl; exact rfl; exact rfl)
    | (apply pfs; exact rfl; exact rfl; exact rfl; exact rfl)
    | apply wp_nil)
  have e : [3] ++ numL ls.length = encH ls 0 := by simp [encH]
  rw [e] at h3 h4 ⊢
  repeat (first
    | (apply ws; exact rfl; exact rfl; exact rfl)
    | refine wc_seq ?_
    | refine wc_region ?_
    | refine wl_nil ?_
    | refine we_round ?_
    | refine we_then_wc ?_
    | (apply wi64; exact rfl; omega; omega; exact rfl; exact rfl)
    | (apply wfa; exact rfl; exact rfl; exact rfl; exact rfl)
    | (apply wct; exact rfl; omega; exact rfl; exact rfl)
    | (apply wcf; exact rfl; omega; exact rfl; exact rfl)
    | (apply wn; exact rfl; exact rfl)
    | (apply wlb (j := 0); exact rfl; exact rfl; exact rfl; exact rfl; exact rfl; exact rfl)
    | (apply wlb (j := 1); exact rfl; exact rfl; exact rfl; exact rfl; exact rfl; exact rfl)
    | (apply wlb (j := 2); exact rfl; exact rfl; exact rfl; exact rfl; exact rfl; exact rfl)
    | (apply wlb (j := 3); exact rfl; exact rfl; exact rfl; exact rfl; exact rfl; exact rfl)
    | (apply wln; exact rfl; exact rfl; exact rfl; exact rfl)
    | (apply wpu; exact rfl; exact rfl; exact rfl)
    | (apply wbx; exact rfl; exact rfl; exact rfl; intro _)
    | refine wc_block ?_
    | (apply wc_true; exact rfl)
    | (apply wc_false; exact rfl)
    | refine wc_skip ?_
    | refine wc_exit ?_
    | refine wc_ret ?_
    | refine we_then_exit ?_
    | refine we_then_ret ?_
    | refine we_in_normal ?_
    | refine we_in_ret ?_
    | refine we_in_here ?_
    | (apply we_in_there; exact rfl))
  refine wc_loop (ι := Nat × Nat × List Value × Nat) (fun i => [(0, .slice (some ⟨i.2.2.2, 0, none⟩) (encH ls i.1).length i.2.1), (19, .int .i64 (i.1 : Int)), (18, .int .i64 (ls.length : Int)), (17, .slice (some ⟨b, o, none⟩) ls.length c), (2, .pointer (some ⟨var, 0, none⟩))])
    (fun i => [(i.2.2.2, (encH ls i.1).map v8 ++ i.2.2.1, 5)]) (fun i => i.1 ≤ ls.length ∧ ((encH ls i.1).map v8 ++ i.2.2.1).length = i.2.1) (fun i => ls.length - i.1) (0, c3, sp3, b3) ⟨Nat.zero_le _, h4⟩ ⟨rfl, rfl, rfl, rfl, rfl, trivial⟩ (List.Sublist.cons_cons _ (List.nil_sublist _)) ?_
  rintro ⟨k, cap, sp, bb⟩ ⟨hk, hcap⟩
  simp only at hk hcap
  dsimp only
  repeat (first
    | (apply ws; exact rfl; exact rfl; exact rfl)
    | refine wc_seq ?_
    | refine wc_region ?_
    | refine wl_nil ?_
    | refine we_round ?_
    | refine we_then_wc ?_
    | (apply wi64; exact rfl; omega; omega; exact rfl; exact rfl)
    | (apply wfa; exact rfl; exact rfl; exact rfl; exact rfl)
    | (apply wct; exact rfl; omega; exact rfl; exact rfl)
    | (apply wcf; exact rfl; omega; exact rfl; exact rfl)
    | (apply wn; exact rfl; exact rfl)
    | (apply wlb (j := 0); exact rfl; exact rfl; exact rfl; exact rfl; exact rfl; exact rfl)
    | (apply wlb (j := 1); exact rfl; exact rfl; exact rfl; exact rfl; exact rfl; exact rfl)
    | (apply wlb (j := 2); exact rfl; exact rfl; exact rfl; exact rfl; exact rfl; exact rfl)
    | (apply wlb (j := 3); exact rfl; exact rfl; exact rfl; exact rfl; exact rfl; exact rfl)
    | (apply wln; exact rfl; exact rfl; exact rfl; exact rfl)
    | (apply wpu; exact rfl; exact rfl; exact rfl)
    | (apply wbx; exact rfl; exact rfl; exact rfl; intro _)
    | refine wc_block ?_
    | (apply wc_true; exact rfl)
    | (apply wc_false; exact rfl)
    | refine wc_skip ?_
    | refine wc_exit ?_
    | refine wc_ret ?_
    | refine we_then_exit ?_
    | refine we_then_ret ?_
    | refine we_in_normal ?_
    | refine we_in_ret ?_
    | refine we_in_here ?_
    | (apply we_in_there; exact rfl))
  refine wc_if rfl (fun ht => ?_) (fun ht => ?_)
  · have ht : k < ls.length := by have := of_decide_eq_true ht; omega
    have hx : ls[k]? = some ls[k] := by simp [ht]
    have hxo := hok ls[k] (by simp)
    have hstep := encH_succ ls k _ hx
    have hlx := encH_length ls k hok hn
    have hcl := hL k _ hx
    generalize ls[k] = x at *
    repeat (first
      | (apply ws; exact rfl; exact rfl; exact rfl)
      | refine wc_seq ?_
      | refine wc_region ?_
      | refine wl_nil ?_
      | refine we_round ?_
      | refine we_then_wc ?_
      | (apply wi64; exact rfl; omega; omega; exact rfl; exact rfl)
      | (apply wfa; exact rfl; exact rfl; exact rfl; exact rfl)
      | (apply wct; exact rfl; omega; exact rfl; exact rfl)
      | (apply wcf; exact rfl; omega; exact rfl; exact rfl)
      | (apply wn; exact rfl; exact rfl)
      | (apply wlb (j := 0); exact rfl; exact rfl; exact rfl; exact rfl; exact rfl; exact rfl)
      | (apply wlb (j := 1); exact rfl; exact rfl; exact rfl; exact rfl; exact rfl; exact rfl)
      | (apply wlb (j := 2); exact rfl; exact rfl; exact rfl; exact rfl; exact rfl; exact rfl)
      | (apply wlb (j := 3); exact rfl; exact rfl; exact rfl; exact rfl; exact rfl; exact rfl)
      | (apply wln; exact rfl; exact rfl; exact rfl; exact rfl)
      | (apply wpu; exact rfl; exact rfl; exact rfl)
      | (apply wbx; exact rfl; exact rfl; exact rfl; intro _)
      | refine wc_block ?_
      | (apply wc_true; exact rfl)
      | (apply wc_false; exact rfl)
      | refine wc_skip ?_
      | refine wc_exit ?_
      | refine wc_ret ?_
      | refine we_then_exit ?_
      | refine we_then_ret ?_
      | refine we_in_normal ?_
      | refine we_in_ret ?_
      | refine we_in_here ?_
      | (apply we_in_there; exact rfl))
    refine wl_still rfl rfl rfl (od_indexAddr k rfl rfl rfl rfl rfl ht) ?_
    refine wl_still rfl rfl rfl (od_loadA (cs := x.cells) rfl rfl rfl x.cells_length (fun w' h i v hi => h.cell_old (hcl i v hi) (by simp))) ?_
    repeat (first
      | (apply ws; exact rfl; exact rfl; exact rfl)
      | (apply wal zero75 rfl; exact rfl; exact rfl; intro by')
      | (apply wsw (j := 0); exact rfl; exact rfl; exact rfl; exact rfl; exact x.cells_length; exact plainLf x; exact rfl; exact rfl)
      | refine wc_seq ?_
      | refine wc_region ?_
      | refine wl_nil ?_
      | refine we_round ?_
      | refine we_then_wc ?_
      | (apply wi64; exact rfl; omega; omega; exact rfl; exact rfl)
      | (apply wfa; exact rfl; exact rfl; exact rfl; exact rfl)
      | (apply wct; exact rfl; omega; exact rfl; exact rfl)
      | (apply wcf; exact rfl; omega; exact rfl; exact rfl)
      | (apply wn; exact rfl; exact rfl)
      | (apply wlb (j := 0); exact rfl; exact rfl; exact rfl; exact rfl; exact rfl; exact rfl)
      | (apply wlb (j := 1); exact rfl; exact rfl; exact rfl; exact rfl; exact rfl; exact rfl)
      | (apply wlb (j := 2); exact rfl; exact rfl; exact rfl; exact rfl; exact rfl; exact rfl)
      | (apply wlb (j := 3); exact rfl; exact rfl; exact rfl; exact rfl; exact rfl; exact rfl)
      | (apply wln; exact rfl; exact rfl; exact rfl; exact rfl)
      | (apply wpu; exact rfl; exact rfl; exact rfl)
      | (apply wbx; exact rfl; exact rfl; exact rfl; intro _)
      | refine wc_block ?_
      | (apply wc_true; exact rfl)
      | (apply wc_false; exact rfl)
      | refine wc_skip ?_
      | refine wc_exit ?_
      | refine wc_ret ?_
      | refine we_then_exit ?_
      | refine we_then_ret ?_
      | refine we_in_normal ?_
      | refine we_in_ret ?_
      | refine we_in_here ?_
      | (apply we_in_there; exact rfl))
    have hfin : ∀ (c5 : Nat) (sp5 : List Value) (b5 : Nat), (encH ls k ++ x.enc).length ≤ c5 ∧ ((encH ls k ++ x.enc).map v8 ++ sp5).length = c5 → ((encH ls (k + 1)).map v8 ++ sp5).length = c5 := fun c5 sp5 b5 h => by rw [hstep]; exact h.2
    cases x with
    | I z =>
      refine wc_plan [(by', (Lf.I z).cells, 75)] none [(0, true), (1, true), (2, true), (3, true), (4, true), (5, true), (6, true), (7, true), (8, true), (9, false), (10, true)] (by kernel_rfl) (List.Sublist.cons_cons _ (List.nil_sublist _)) ?_
      repeat (first
        | (apply ps; exact rfl; exact rfl; exact rfl; exact rfl)
        | (apply pia (k := 1); exact rfl; exact rfl; exact rfl; exact rfl; exact rfl; (first | exact rfl | omega); omega; exact rfl; exact rfl)
        | (apply plo; exact rfl; exact rfl; exact rfl; exact hv; exact List.not_mem_nil; exact rfl; exact rfl)
        | (apply plo; exact rfl; exact rfl; exact rfl; exact hw1; exact List.not_mem_nil; exact rfl; exact rfl)
        | (apply wp_still; exact rfl; exact rfl; exact rfl; exact (od_loadAB 0 rfl rfl rfl rfl rfl))
        | (apply pfa; exact rfl; exact rfl; exact rfl; exact rfl; exact rfl)
        | (apply pi64; exact rfl; exact rfl; omega; omega; exact rfl; exact rfl)
        | (apply pct; exact rfl; exact rfl; omega; exact rfl; exact rfl)
        | (apply pcf; exact rfl; exact rfl; omega; exact rfl; exact rfl)
        | (apply wp_not; exact rfl; exact rfl; exact rfl)
        | (apply plb (j := 0); exact rfl; exact rfl; exact rfl; exact rfl; exact rfl; exact rfl; exact rfl)
        | (apply plb (j := 1); exact rfl; exact rfl; exact rfl; exact rfl; exact rfl; exact rfl; exact rfl)
        | (apply plb (j := 2); exact rfl; exact rfl; exact rfl; exact rfl; exact rfl; exact rfl; exact rfl)
        | (apply pln; exact rfl; exact rfl; exact rfl; exact rfl; exact rfl)
        | (apply ppu; exact rfl; exact rfl; exact rfl; exact rfl)
        | (apply pfs; exact rfl; exact rfl; exact rfl; exact rfl)
        | apply wp_nil)
      refine wp_moves 1 rfl rfl rfl rfl (List.Sublist.refl _) (od_callv rfl Tryd.call76 rfl (fun w' h => by exact write_I bb cap (encH ls k) sp z hxo (by omega) hcap w' (h.at (j := 1) rfl).2)) ?_
      rintro ⟨c5, sp5⟩ b5 h5
      have h6 := hfin c5 sp5 b5 h5
      rw [← hstep]
      dsimp only
      repeat (first
        | (apply ps; exact rfl; exact rfl; exact rfl; exact rfl)
        | (apply pfa; exact rfl; exact rfl; exact rfl; exact rfl; exact rfl)
        | (apply pi64; exact rfl; exact rfl; omega; omega; exact rfl; exact rfl)
        | (apply pct; exact rfl; exact rfl; omega; exact rfl; exact rfl)
        | (apply pcf; exact rfl; exact rfl; omega; exact rfl; exact rfl)
        | (apply wp_not; exact rfl; exact rfl; exact rfl)
        | (apply plb (j := 0); exact rfl; exact rfl; exact rfl; exact rfl; exact rfl; exact rfl; exact rfl)
        | (apply plb (j := 1); exact rfl; exact rfl; exact rfl; exact rfl; exact rfl; exact rfl; exact rfl)
        | (apply plb (j := 2); exact rfl; exact rfl; exact rfl; exact rfl; exact rfl; exact rfl; exact rfl)
        | (apply pln; exact rfl; exact rfl; exact rfl; exact rfl; exact rfl)
        | (apply ppu; exact rfl; exact rfl; exact rfl; exact rfl)
        | (apply pfs; exact rfl; exact rfl; exact rfl; exact rfl)
        | apply wp_nil)
      repeat (first
        | (apply ws; exact rfl; exact rfl; exact rfl)
        | refine wc_seq ?_
        | refine wc_region ?_
        | refine wl_nil ?_
        | refine we_round ?_
        | refine we_then_wc ?_
        | (apply wi64; exact rfl; omega; omega; exact rfl; exact rfl)
        | (apply wfa; exact rfl; exact rfl; exact rfl; exact rfl)
        | (apply wct; exact rfl; omega; exact rfl; exact rfl)
        | (apply wcf; exact rfl; omega; exact rfl; exact rfl)
        | (apply wn; exact rfl; exact rfl)
        | (apply wlb (j := 0); exact rfl; exact rfl; exact rfl; exact rfl; exact rfl; exact rfl)
        | (apply wlb (j := 1); exact rfl; exact rfl; exact rfl; exact rfl; exact rfl; exact rfl)
        | (apply wlb (j := 2); exact rfl; exact rfl; exact rfl; exact rfl; exact rfl; exact rfl)
        | (apply wlb (j := 3); exact rfl; exact rfl; exact rfl; exact rfl; exact rfl; exact rfl)
        | (apply wln; exact rfl; exact rfl; exact rfl; exact rfl)
        | (apply wpu; exact rfl; exact rfl; exact rfl)
        | (apply wbx; exact rfl; exact rfl; exact rfl; intro _)
        | refine wc_block ?_
        | (apply wc_true; exact rfl)
        | (apply wc_false; exact rfl)
        | refine wc_skip ?_
        | refine wc_exit ?_
        | refine wc_ret ?_
        | refine we_then_exit ?_
        | refine we_then_ret ?_
        | refine we_in_normal ?_
        | refine we_in_ret ?_
        | refine we_in_here ?_
        | (apply we_in_there; exact rfl))
      exact we_again (k + 1, c5, sp5, b5) ⟨by simp only; omega, h6⟩ (by simp only; omega) ⟨rfl, by simp [get], rfl, rfl, rfl, trivial⟩ (List.Sublist.cons_cons _ (List.nil_sublist _))
    | T l =>
      refine wc_plan [(by', (Lf.T l).cells, 75)] none [(0, true), (1, true), (2, true), (3, true), (4, true), (5, true), (6, true), (7, true), (8, true), (9, false), (10, true)] (by kernel_rfl) (List.Sublist.cons_cons _ (List.nil_sublist _)) ?_
      repeat (first
        | (apply ps; exact rfl; exact rfl; exact rfl; exact rfl)
        | (apply pia (k := 2); exact rfl; exact rfl; exact rfl; exact rfl; exact rfl; (first | exact rfl | omega); omega; exact rfl; exact rfl)
        | (apply plo; exact rfl; exact rfl; exact rfl; exact hv; exact List.not_mem_nil; exact rfl; exact rfl)
        | (apply plo; exact rfl; exact rfl; exact rfl; exact hw2; exact List.not_mem_nil; exact rfl; exact rfl)
        | (apply wp_still; exact rfl; exact rfl; exact rfl; exact (od_loadAB 0 rfl rfl rfl rfl rfl))
        | (apply pfa; exact rfl; exact rfl; exact rfl; exact rfl; exact rfl)
        | (apply pi64; exact rfl; exact rfl; omega; omega; exact rfl; exact rfl)
        | (apply pct; exact rfl; exact rfl; omega; exact rfl; exact rfl)
        | (apply pcf; exact rfl; exact rfl; omega; exact rfl; exact rfl)
        | (apply wp_not; exact rfl; exact rfl; exact rfl)
        | (apply plb (j := 0); exact rfl; exact rfl; exact rfl; exact rfl; exact rfl; exact rfl; exact rfl)
        | (apply plb (j := 1); exact rfl; exact rfl; exact rfl; exact rfl; exact rfl; exact rfl; exact rfl)
        | (apply plb (j := 2); exact rfl; exact rfl; exact rfl; exact rfl; exact rfl; exact rfl; exact rfl)
        | (apply pln; exact rfl; exact rfl; exact rfl; exact rfl; exact rfl)
        | (apply ppu; exact rfl; exact rfl; exact rfl; exact rfl)
        | (apply pfs; exact rfl; exact rfl; exact rfl; exact rfl)
        | apply wp_nil)
      refine wp_moves 1 rfl rfl rfl rfl (List.Sublist.refl _) (od_callv rfl Tryd.call79 rfl (fun w' h => by exact write_T bb cap (encH ls k) sp l hxo (by omega) hcap w' (h.at (j := 1) rfl).2)) ?_
      rintro ⟨c5, sp5⟩ b5 h5
      have h6 := hfin c5 sp5 b5 h5
      rw [← hstep]
      dsimp only
      repeat (first
        | (apply ps; exact rfl; exact rfl; exact rfl; exact rfl)
        | (apply pfa; exact rfl; exact rfl; exact rfl; exact rfl; exact rfl)
        | (apply pi64; exact rfl; exact rfl; omega; omega; exact rfl; exact rfl)
        | (apply pct; exact rfl; exact rfl; omega; exact rfl; exact rfl)
        | (apply pcf; exact rfl; exact rfl; omega; exact rfl; exact rfl)
        | (apply wp_not; exact rfl; exact rfl; exact rfl)
        | (apply plb (j := 0); exact rfl; exact rfl; exact rfl; exact rfl; exact rfl; exact rfl; exact rfl)
        | (apply plb (j := 1); exact rfl; exact rfl; exact rfl; exact rfl; exact rfl; exact rfl; exact rfl)
        | (apply plb (j := 2); exact rfl; exact rfl; exact rfl; exact rfl; exact rfl; exact rfl; exact rfl)
        | (apply pln; exact rfl; exact rfl; exact rfl; exact rfl; exact rfl)
        | (apply ppu; exact rfl; exact rfl; exact rfl; exact rfl)
        | (apply pfs; exact rfl; exact rfl; exact rfl; exact rfl)
        | apply wp_nil)
      repeat (first
        | (apply ws; exact rfl; exact rfl; exact rfl)
        | refine wc_seq ?_
        | refine wc_region ?_
        | refine wl_nil ?_
        | refine we_round ?_
        | refine we_then_wc ?_
        | (apply wi64; exact rfl; omega; omega; exact rfl; exact rfl)
        | (apply wfa; exact rfl; exact rfl; exact rfl; exact rfl)
        | (apply wct; exact rfl; omega; exact rfl; exact rfl)
        | (apply wcf; exact rfl; omega; exact rfl; exact rfl)
        | (apply wn; exact rfl; exact rfl)
        | (apply wlb (j := 0); exact rfl; exact rfl; exact rfl; exact rfl; exact rfl; exact rfl)
        | (apply wlb (j := 1); exact rfl; exact rfl; exact rfl; exact rfl; exact rfl; exact rfl)
        | (apply wlb (j := 2); exact rfl; exact rfl; exact rfl; exact rfl; exact rfl; exact rfl)
        | (apply wlb (j := 3); exact rfl; exact rfl; exact rfl; exact rfl; exact rfl; exact rfl)
        | (apply wln; exact rfl; exact rfl; exact rfl; exact rfl)
        | (apply wpu; exact rfl; exact rfl; exact rfl)
        | (apply wbx; exact rfl; exact rfl; exact rfl; intro _)
        | refine wc_block ?_
        | (apply wc_true; exact rfl)
        | (apply wc_false; exact rfl)
        | refine wc_skip ?_
        | refine wc_exit ?_
        | refine wc_ret ?_
        | refine we_then_exit ?_
        | refine we_then_ret ?_
        | refine we_in_normal ?_
        | refine we_in_ret ?_
        | refine we_in_here ?_
        | (apply we_in_there; exact rfl))
      exact we_again (k + 1, c5, sp5, b5) ⟨by simp only; omega, h6⟩ (by simp only; omega) ⟨rfl, by simp [get], rfl, rfl, rfl, trivial⟩ (List.Sublist.cons_cons _ (List.nil_sublist _))
  have hkn : k = ls.length := by have := of_decide_eq_false ht; omega
  subst hkn
  have e2 : encH ls ls.length = encL ls := by simp [encH, encL]
  rw [e2] at hcap ⊢
  repeat (first
    | (apply ws; exact rfl; exact rfl; exact rfl)
    | refine wc_seq ?_
    | refine wc_region ?_
    | refine wl_nil ?_
    | refine we_round ?_
    | refine we_then_wc ?_
    | (apply wi64; exact rfl; omega; omega; exact rfl; exact rfl)
    | (apply wfa; exact rfl; exact rfl; exact rfl; exact rfl)
    | (apply wct; exact rfl; omega; exact rfl; exact rfl)
    | (apply wcf; exact rfl; omega; exact rfl; exact rfl)
    | (apply wn; exact rfl; exact rfl)
    | (apply wlb (j := 0); exact rfl; exact rfl; exact rfl; exact rfl; exact rfl; exact rfl)
    | (apply wlb (j := 1); exact rfl; exact rfl; exact rfl; exact rfl; exact rfl; exact rfl)
    | (apply wlb (j := 2); exact rfl; exact rfl; exact rfl; exact rfl; exact rfl; exact rfl)
    | (apply wlb (j := 3); exact rfl; exact rfl; exact rfl; exact rfl; exact rfl; exact rfl)
    | (apply wln; exact rfl; exact rfl; exact rfl; exact rfl)
    | (apply wpu; exact rfl; exact rfl; exact rfl)
    | (apply wbx; exact rfl; exact rfl; exact rfl; intro _)
    | refine wc_block ?_
    | (apply wc_true; exact rfl)
    | (apply wc_false; exact rfl)
    | refine wc_skip ?_
    | refine wc_exit ?_
    | refine wc_ret ?_
    | refine we_then_exit ?_
    | refine we_then_ret ?_
    | refine we_in_normal ?_
    | refine we_in_ret ?_
    | refine we_in_here ?_
    | (apply we_in_there; exact rfl))
  exact we_ret1 (Or.inl rfl) rfl rfl fun w' h => ⟨(cap, sp), bb, rfl, ⟨by simp at hcap ⊢; omega, hcap⟩, (by have := (h.at (j := 0) rfl).1; simpa using this), h.ext_all, (h.at (j := 0) rfl).2⟩

end Go.Proofs.YtielloijdkoeiaaDoor
