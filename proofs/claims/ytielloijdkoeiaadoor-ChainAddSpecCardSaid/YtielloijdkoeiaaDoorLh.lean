/- Layer 8: chain.Add. -/
import Derived.Test.YtielloijdkoeiaaDoorLg
namespace Go.Proofs.YtielloijdkoeiaaDoor
open Go Go.RowKit Go.Lib
set_option maxRecDepth 100000

/-- The chain is another node's. -/
def offB (xs : List Lnk) (node : Int) : Bool :=
  match xs[0]? with
  | some x => decide (node ≠ x.node)
  | none => false
def addE (xs : List Lnk) (node : Int) (dl : Nat) : Int :=
  if chkP xs = 0 then (if node < 0 ∨ 24 ≤ node ∨ offB xs node = true ∨ 65536 < dl then 1 else if xs.length = 1024 then 2 else 0) else chkP xs

def zLnk : Lnk := { node := 0, no := 0, prev := List.replicate 32 0, data := [], da := none, dc := 0 }
theorem zero55 (w : World) : (zeroValue 55).run Tryd.prog w = .ok (.agg zLnk.cells.toArray) w := (Tryd.zeroValue55 w).trans (by rfl)
theorem elem55 : Nonempty (Elem 55 35 72) := elem_of (z := .agg zLnk.cells.toArray) (by kernel_rfl) rfl

theorem flat_get : ∀ (xs : List Lnk), (∀ y ∈ xs, y.cells.length = 35) → ∀ (k : Nat) (x : Lnk), xs[k]? = some x → ∀ i v, x.cells[i]? = some v → (xs.flatMap Lnk.cells)[k * 35 + i]? = some v
  | [], _, k, x, hx, _, _, _ => by simp at hx
  | y :: ys, h, 0, x, hx, i, v, hv => by
    simp at hx; subst hx
    simp only [List.flatMap_cons, Nat.zero_mul, Nat.zero_add]
    rw [List.getElem?_append_left (List.getElem?_eq_some_iff.1 hv).1]; exact hv
  | y :: ys, h, k + 1, x, hx, i, v, hv => by
    simp only [List.getElem?_cons_succ] at hx
    simp only [List.flatMap_cons]
    have hy := h y (by simp)
    rw [List.getElem?_append_right (by omega), hy, show (k + 1) * 35 + i - 35 = k * 35 + i by omega]
    exact flat_get ys (fun z hz => h z (by simp [hz])) k x hx i v hv
theorem flat_len : ∀ (xs : List Lnk), (∀ y ∈ xs, y.cells.length = 35) → (xs.flatMap Lnk.cells).length = xs.length * 35
  | [], _ => rfl
  | y :: ys, h => by
    simp only [List.flatMap_cons, List.length_append, h y (by simp), flat_len ys (fun z hz => h z (by simp [hz])), List.length_cons, Nat.add_mul]
    omega

/-- Links in a block of one's own. -/
theorem LkA.of_blk {w : World} {b c : Nat} {xs : List Lnk} {sp : List Value} {T : TypeId} (h : Blk w b (xs.flatMap Lnk.cells ++ sp) T) (hok : ∀ x ∈ xs, x.ok w) (hc : xs.length ≤ c) : LkA w (some ⟨b, 0, none⟩) c xs := by
  have hl : ∀ y ∈ xs, y.cells.length = 35 := fun y hy => (hok y hy).len
  refine ⟨hc, by simp, Or.inr ⟨b, 0, rfl, fun k x hx => ⟨hok x (List.mem_of_getElem? hx), fun i v hv => ?_⟩⟩⟩
  rw [h.cell, Nat.zero_add, List.getElem?_append_left]
  · exact flat_get xs hl k x hx i v hv
  · exact (List.getElem?_eq_some_iff.1 (flat_get xs hl k x hx i v hv)).1

/-- What Add hands back. -/
def AddOk (xs : List Lnk) (node : Int) (data : List UInt8) (w : World) (v : Value) (w' : World) : Prop :=
  Ext w w' ∧ ∃ a c x, v = .tuple #[.slice a (xs.length + 1) c, .int .i64 0] ∧ LkA w' a c (xs ++ [x]) ∧ x.node = node ∧ x.no = (xs.length : Int) ∧ x.prev = headP xs ∧ x.data = data

theorem plain_flat (xs : List Lnk) : ∀ v ∈ xs.flatMap Lnk.cells, plainV v = true := by
  intro v hv
  obtain ⟨x, _, hx⟩ := List.mem_flatMap.1 hv
  exact plainLnk x v hx

theorem fill_lnk (n m : Int) (p : List UInt8) (a : Option Addr) (c : Nat) (d : List UInt8) (hp : p.length = 32) :
    fillL (([(0, 1), (1, 1), (2, 32), (34, 1)] : List (Nat × Nat)).toArray[·]?) zLnk.cells [(0, .int .i64 n), (1, .int .i64 m), (2, digV p), (3, .slice a d.length c)] = some (Lnk.cells { node := n, no := m, prev := p, data := d, da := a, dc := c }) := by
  have e1 : (digV p).cells.toList = p.map v8 := rfl
  have e2 : (Value.slice a d.length c).cells.toList = [.slice a d.length c] := rfl
  have e3 : (Value.int .i64 n).cells.toList = [.int .i64 n] := rfl
  have e4 : (Value.int .i64 m).cells.toList = [.int .i64 m] := rfl
  simp [fillL, e1, e2, e3, e4, hp, zLnk, Lnk.cells, Lnk.dv]

theorem chain_Add_err (a : Option Addr) (c : Nat) (xs : List Lnk) (node : Int) (da : Option Addr) (dc : Nat) (data : List UInt8) (hs : smallP xs) (w : World) (hL : Laid w) (h : LkA w a c xs) (E : Int) (hE : addE xs node data.length = E) (h0 : E ≠ 0) :
    Fn 25 [.slice a xs.length c, .int .i64 node, .slice da data.length dc] w (Quiet (.tuple #[.slice none 0 0, .int .i64 E]) w) := by
  refine fn_of (args := [.slice a xs.length c, .int .i64 node, .slice da data.length dc]) Tryd.func25 rfl Tryd.ntmps25 rfl (Hp.start w) ?_
  have k1 : ∀ w', Ext w w' → Fn 31 [.slice a xs.length c] w' (Quiet (.int .i64 (chkP xs)) w') := fun w' e => chain_Check a c xs hs.1 hs.2 w' (hL.ext e) (h.ext e)
  unfold addE at hE
  by_cases c1 : chkP xs = 0
  · rw [if_pos c1] at hE
    rw [c1] at k1
    by_cases hx0 : xs.length = 0
    · have hoff : offB xs node = false := by
        have : xs = [] := List.eq_nil_of_length_eq_zero hx0
        subst this; rfl
      rw [hoff] at hE
      rw [hx0] at k1 hE ⊢
      generalize data.length = dl at *
      have e1 : E = 1 := by
        split at hE
        · exact hE.symm
        · simp at hE; exact absurd hE.symm h0
      subst e1
      by_cases n1 : node < 0
      · repeat (first
          | (apply ws; exact rfl; exact rfl; exact rfl)
          | (apply wq Tryd.call31; exact rfl; exact rfl; exact rfl; exact (fun w' hw => k1 w' hw.ext_all))
          | refine wl_still rfl rfl rfl (od_indexAddr 0 rfl rfl rfl rfl rfl (by omega)) ?_
          | (apply wlo; exact rfl; exact rfl; exact hy0; exact List.not_mem_nil; exact rfl; exact rfl)
          | refine wc_seq ?_
          | refine wc_region ?_
          | refine wl_nil ?_
          | refine we_round ?_
          | refine we_then_wc ?_
          | (apply wi64; exact rfl; omega; omega; exact rfl; exact rfl)
          | (apply wfa; exact rfl; exact rfl; exact rfl; exact rfl)
          | (apply wct; exact rfl; omega; exact rfl; exact rfl)
          | (apply wcf; exact rfl; omega; exact rfl; exact rfl)
          | (apply wn; exact rfl; exact rfl)
          | (apply wlb (j := 0); exact rfl; exact rfl; exact rfl; exact rfl; exact rfl; exact rfl)
          | (apply wlb (j := 1); exact rfl; exact rfl; exact rfl; exact rfl; exact rfl; exact rfl)
          | (apply wlb (j := 2); exact rfl; exact rfl; exact rfl; exact rfl; exact rfl; exact rfl)
          | (apply wlb (j := 3); exact rfl; exact rfl; exact rfl; exact rfl; exact rfl; exact rfl)
          | (apply wln; exact rfl; exact rfl; exact rfl; exact rfl)
          | (apply wpu; exact rfl; exact rfl; exact rfl)
          | (apply wbx; exact rfl; exact rfl; exact rfl; intro _)
          | refine wc_block ?_
          | (apply wc_true; exact rfl)
          | (apply wc_false; exact rfl)
          | refine wc_skip ?_
          | refine wc_exit ?_
          | refine wc_ret ?_
          | refine we_then_exit ?_
          | refine we_then_ret ?_
          | refine we_in_normal ?_
          | refine we_in_ret ?_
          | refine we_in_here ?_
          | (apply we_in_there; exact rfl))
        exact we_ret2 (Or.inl rfl) rfl rfl rfl fun w' h => ⟨rfl, h.ext_all⟩
      · by_cases n2 : 24 ≤ node
        · repeat (first
            | (apply ws; exact rfl; exact rfl; exact rfl)
            | (apply wq Tryd.call31; exact rfl; exact rfl; exact rfl; exact (fun w' hw => k1 w' hw.ext_all))
            | refine wl_still rfl rfl rfl (od_indexAddr 0 rfl rfl rfl rfl rfl (by omega)) ?_
            | (apply wlo; exact rfl; exact rfl; exact hy0; exact List.not_mem_nil; exact rfl; exact rfl)
            | refine wc_seq ?_
            | refine wc_region ?_
            | refine wl_nil ?_
            | refine we_round ?_
            | refine we_then_wc ?_
            | (apply wi64; exact rfl; omega; omega; exact rfl; exact rfl)
            | (apply wfa; exact rfl; exact rfl; exact rfl; exact rfl)
            | (apply wct; exact rfl; omega; exact rfl; exact rfl)
            | (apply wcf; exact rfl; omega; exact rfl; exact rfl)
            | (apply wn; exact rfl; exact rfl)
            | (apply wlb (j := 0); exact rfl; exact rfl; exact rfl; exact rfl; exact rfl; exact rfl)
            | (apply wlb (j := 1); exact rfl; exact rfl; exact rfl; exact rfl; exact rfl; exact rfl)
            | (apply wlb (j := 2); exact rfl; exact rfl; exact rfl; exact rfl; exact rfl; exact rfl)
            | (apply wlb (j := 3); exact rfl; exact rfl; exact rfl; exact rfl; exact rfl; exact rfl)
            | (apply wln; exact rfl; exact rfl; exact rfl; exact rfl)
            | (apply wpu; exact rfl; exact rfl; exact rfl)
            | (apply wbx; exact rfl; exact rfl; exact rfl; intro _)
            | refine wc_block ?_
            | (apply wc_true; exact rfl)
            | (apply wc_false; exact rfl)
            | refine wc_skip ?_
            | refine wc_exit ?_
            | refine wc_ret ?_
            | refine we_then_exit ?_
            | refine we_then_ret ?_
            | refine we_in_normal ?_
            | refine we_in_ret ?_
            | refine we_in_here ?_
            | (apply we_in_there; exact rfl))
          exact we_ret2 (Or.inl rfl) rfl rfl rfl fun w' h => ⟨rfl, h.ext_all⟩
        · have n3 : 65536 < dl := by
            rcases Nat.lt_or_ge 65536 dl with h1 | h1
            · exact h1
            · rw [if_neg (by simp; omega)] at hE
              simp at hE
          repeat (first
            | (apply ws; exact rfl; exact rfl; exact rfl)
            | (apply wq Tryd.call31; exact rfl; exact rfl; exact rfl; exact (fun w' hw => k1 w' hw.ext_all))
            | refine wl_still rfl rfl rfl (od_indexAddr 0 rfl rfl rfl rfl rfl (by omega)) ?_
            | (apply wlo; exact rfl; exact rfl; exact hy0; exact List.not_mem_nil; exact rfl; exact rfl)
            | refine wc_seq ?_
            | refine wc_region ?_
            | refine wl_nil ?_
            | refine we_round ?_
            | refine we_then_wc ?_
            | (apply wi64; exact rfl; omega; omega; exact rfl; exact rfl)
            | (apply wfa; exact rfl; exact rfl; exact rfl; exact rfl)
            | (apply wct; exact rfl; omega; exact rfl; exact rfl)
            | (apply wcf; exact rfl; omega; exact rfl; exact rfl)
            | (apply wn; exact rfl; exact rfl)
            | (apply wlb (j := 0); exact rfl; exact rfl; exact rfl; exact rfl; exact rfl; exact rfl)
            | (apply wlb (j := 1); exact rfl; exact rfl; exact rfl; exact rfl; exact rfl; exact rfl)
            | (apply wlb (j := 2); exact rfl; exact rfl; exact rfl; exact rfl; exact rfl; exact rfl)
            | (apply wlb (j := 3); exact rfl; exact rfl; exact rfl; exact rfl; exact rfl; exact rfl)
            | (apply wln; exact rfl; exact rfl; exact rfl; exact rfl)
            | (apply wpu; exact rfl; exact rfl; exact rfl)
            | (apply wbx; exact rfl; exact rfl; exact rfl; intro _)
            | refine wc_block ?_
            | (apply wc_true; exact rfl)
            | (apply wc_false; exact rfl)
            | refine wc_skip ?_
            | refine wc_exit ?_
            | refine wc_ret ?_
            | refine we_then_exit ?_
            | refine we_then_ret ?_
            | refine we_in_normal ?_
            | refine we_in_ret ?_
            | refine we_in_here ?_
            | (apply we_in_there; exact rfl))
          exact we_ret2 (Or.inl rfl) rfl rfl rfl fun w' h => ⟨rfl, h.ext_all⟩
    · obtain ⟨y, b, o, hy, ea, oky, hcy⟩ := h.get 0 (by omega)
      subst ea
      have hy0 := hcy 0 _ rfl
      have hoff : offB xs node = decide (node ≠ y.node) := by unfold offB; rw [hy]
      rw [hoff] at hE
      generalize xs.length = m at *
      generalize data.length = dl at *
      by_cases n1 : node < 0
      · rw [if_pos (Or.inl n1)] at hE
        subst hE
        repeat (first
          | (apply ws; exact rfl; exact rfl; exact rfl)
          | (apply wq Tryd.call31; exact rfl; exact rfl; exact rfl; exact (fun w' hw => k1 w' hw.ext_all))
          | refine wl_still rfl rfl rfl (od_indexAddr 0 rfl rfl rfl rfl rfl (by omega)) ?_
          | (apply wlo; exact rfl; exact rfl; exact hy0; exact List.not_mem_nil; exact rfl; exact rfl)
          | refine wc_seq ?_
          | refine wc_region ?_
          | refine wl_nil ?_
          | refine we_round ?_
          | refine we_then_wc ?_
          | (apply wi64; exact rfl; omega; omega; exact rfl; exact rfl)
          | (apply wfa; exact rfl; exact rfl; exact rfl; exact rfl)
          | (apply wct; exact rfl; omega; exact rfl; exact rfl)
          | (apply wcf; exact rfl; omega; exact rfl; exact rfl)
          | (apply wn; exact rfl; exact rfl)
          | (apply wlb (j := 0); exact rfl; exact rfl; exact rfl; exact rfl; exact rfl; exact rfl)
          | (apply wlb (j := 1); exact rfl; exact rfl; exact rfl; exact rfl; exact rfl; exact rfl)
          | (apply wlb (j := 2); exact rfl; exact rfl; exact rfl; exact rfl; exact rfl; exact rfl)
          | (apply wlb (j := 3); exact rfl; exact rfl; exact rfl; exact rfl; exact rfl; exact rfl)
          | (apply wln; exact rfl; exact rfl; exact rfl; exact rfl)
          | (apply wpu; exact rfl; exact rfl; exact rfl)
          | (apply wbx; exact rfl; exact rfl; exact rfl; intro _)
          | refine wc_block ?_
          | (apply wc_true; exact rfl)
          | (apply wc_false; exact rfl)
          | refine wc_skip ?_
          | refine wc_exit ?_
          | refine wc_ret ?_
          | refine we_then_exit ?_
          | refine we_then_ret ?_
          | refine we_in_normal ?_
          | refine we_in_ret ?_
          | refine we_in_here ?_
          | (apply we_in_there; exact rfl))
        exact we_ret2 (Or.inl rfl) rfl rfl rfl fun w' h => ⟨rfl, h.ext_all⟩
      · by_cases n2 : 24 ≤ node
        · rw [if_pos (Or.inr (Or.inl n2))] at hE
          subst hE
          repeat (first
            | (apply ws; exact rfl; exact rfl; exact rfl)
            | (apply wq Tryd.call31; exact rfl; exact rfl; exact rfl; exact (fun w' hw => k1 w' hw.ext_all))
            | refine wl_still rfl rfl rfl (od_indexAddr 0 rfl rfl rfl rfl rfl (by omega)) ?_
            | (apply wlo; exact rfl; exact rfl; exact hy0; exact List.not_mem_nil; exact rfl; exact rfl)
            | refine wc_seq ?_
            | refine wc_region ?_
            | refine wl_nil ?_
            | refine we_round ?_
            | refine we_then_wc ?_
            | (apply wi64; exact rfl; omega; omega; exact rfl; exact rfl)
            | (apply wfa; exact rfl; exact rfl; exact rfl; exact rfl)
            | (apply wct; exact rfl; omega; exact rfl; exact rfl)
            | (apply wcf; exact rfl; omega; exact rfl; exact rfl)
            | (apply wn; exact rfl; exact rfl)
            | (apply wlb (j := 0); exact rfl; exact rfl; exact rfl; exact rfl; exact rfl; exact rfl)
            | (apply wlb (j := 1); exact rfl; exact rfl; exact rfl; exact rfl; exact rfl; exact rfl)
            | (apply wlb (j := 2); exact rfl; exact rfl; exact rfl; exact rfl; exact rfl; exact rfl)
            | (apply wlb (j := 3); exact rfl; exact rfl; exact rfl; exact rfl; exact rfl; exact rfl)
            | (apply wln; exact rfl; exact rfl; exact rfl; exact rfl)
            | (apply wpu; exact rfl; exact rfl; exact rfl)
            | (apply wbx; exact rfl; exact rfl; exact rfl; intro _)
            | refine wc_block ?_
            | (apply wc_true; exact rfl)
            | (apply wc_false; exact rfl)
            | refine wc_skip ?_
            | refine wc_exit ?_
            | refine wc_ret ?_
            | refine we_then_exit ?_
            | refine we_then_ret ?_
            | refine we_in_normal ?_
            | refine we_in_ret ?_
            | refine we_in_here ?_
            | (apply we_in_there; exact rfl))
          exact we_ret2 (Or.inl rfl) rfl rfl rfl fun w' h => ⟨rfl, h.ext_all⟩
        · by_cases n3 : node = y.node
          · by_cases n4 : 65536 < dl
            · rw [if_pos (Or.inr (Or.inr (Or.inr n4)))] at hE
              subst hE
              repeat (first
                | (apply ws; exact rfl; exact rfl; exact rfl)
                | (apply wq Tryd.call31; exact rfl; exact rfl; exact rfl; exact (fun w' hw => k1 w' hw.ext_all))
                | refine wl_still rfl rfl rfl (od_indexAddr 0 rfl rfl rfl rfl rfl (by omega)) ?_
                | (apply wlo; exact rfl; exact rfl; exact hy0; exact List.not_mem_nil; exact rfl; exact rfl)
                | refine wc_seq ?_
                | refine wc_region ?_
                | refine wl_nil ?_
                | refine we_round ?_
                | refine we_then_wc ?_
                | (apply wi64; exact rfl; omega; omega; exact rfl; exact rfl)
                | (apply wfa; exact rfl; exact rfl; exact rfl; exact rfl)
                | (apply wct; exact rfl; omega; exact rfl; exact rfl)
                | (apply wcf; exact rfl; omega; exact rfl; exact rfl)
                | (apply wn; exact rfl; exact rfl)
                | (apply wlb (j := 0); exact rfl; exact rfl; exact rfl; exact rfl; exact rfl; exact rfl)
                | (apply wlb (j := 1); exact rfl; exact rfl; exact rfl; exact rfl; exact rfl; exact rfl)
                | (apply wlb (j := 2); exact rfl; exact rfl; exact rfl; exact rfl; exact rfl; exact rfl)
                | (apply wlb (j := 3); exact rfl; exact rfl; exact rfl; exact rfl; exact rfl; exact rfl)
                | (apply wln; exact rfl; exact rfl; exact rfl; exact rfl)
                | (apply wpu; exact rfl; exact rfl; exact rfl)
                | (apply wbx; exact rfl; exact rfl; exact rfl; intro _)
                | refine wc_block ?_
                | (apply wc_true; exact rfl)
                | (apply wc_false; exact rfl)
                | refine wc_skip ?_
                | refine wc_exit ?_
                | refine wc_ret ?_
                | refine we_then_exit ?_
                | refine we_then_ret ?_
                | refine we_in_normal ?_
                | refine we_in_ret ?_
                | refine we_in_here ?_
                | (apply we_in_there; exact rfl))
              exact we_ret2 (Or.inl rfl) rfl rfl rfl fun w' h => ⟨rfl, h.ext_all⟩
            · rw [if_neg (by simp [n3] at n1 n2 ⊢; omega)] at hE
              have n5 : m = 1024 := by
                by_cases n5 : m = 1024
                · exact n5
                · rw [if_neg n5] at hE; exact absurd hE.symm h0
              rw [if_pos n5] at hE
              subst hE
              repeat (first
                | (apply ws; exact rfl; exact rfl; exact rfl)
                | (apply wq Tryd.call31; exact rfl; exact rfl; exact rfl; exact (fun w' hw => k1 w' hw.ext_all))
                | refine wl_still rfl rfl rfl (od_indexAddr 0 rfl rfl rfl rfl rfl (by omega)) ?_
                | (apply wlo; exact rfl; exact rfl; exact hy0; exact List.not_mem_nil; exact rfl; exact rfl)
                | refine wc_seq ?_
                | refine wc_region ?_
                | refine wl_nil ?_
                | refine we_round ?_
                | refine we_then_wc ?_
                | (apply wi64; exact rfl; omega; omega; exact rfl; exact rfl)
                | (apply wfa; exact rfl; exact rfl; exact rfl; exact rfl)
                | (apply wct; exact rfl; omega; exact rfl; exact rfl)
                | (apply wcf; exact rfl; omega; exact rfl; exact rfl)
                | (apply wn; exact rfl; exact rfl)
                | (apply wlb (j := 0); exact rfl; exact rfl; exact rfl; exact rfl; exact rfl; exact rfl)
                | (apply wlb (j := 1); exact rfl; exact rfl; exact rfl; exact rfl; exact rfl; exact rfl)
                | (apply wlb (j := 2); exact rfl; exact rfl; exact rfl; exact rfl; exact rfl; exact rfl)
                | (apply wlb (j := 3); exact rfl; exact rfl; exact rfl; exact rfl; exact rfl; exact rfl)
                | (apply wln; exact rfl; exact rfl; exact rfl; exact rfl)
                | (apply wpu; exact rfl; exact rfl; exact rfl)
                | (apply wbx; exact rfl; exact rfl; exact rfl; intro _)
                | refine wc_block ?_
                | (apply wc_true; exact rfl)
                | (apply wc_false; exact rfl)
                | refine wc_skip ?_
                | refine wc_exit ?_
                | refine wc_ret ?_
                | refine we_then_exit ?_
                | refine we_then_ret ?_
                | refine we_in_normal ?_
                | refine we_in_ret ?_
                | refine we_in_here ?_
                | (apply we_in_there; exact rfl))
              exact we_ret2 (Or.inl rfl) rfl rfl rfl fun w' h => ⟨rfl, h.ext_all⟩
          · rw [if_pos (Or.inr (Or.inr (Or.inl (by simpa using n3))))] at hE
            subst hE
            repeat (first
              | (apply ws; exact rfl; exact rfl; exact rfl)
              | (apply wq Tryd.call31; exact rfl; exact rfl; exact rfl; exact (fun w' hw => k1 w' hw.ext_all))
              | refine wl_still rfl rfl rfl (od_indexAddr 0 rfl rfl rfl rfl rfl (by omega)) ?_
              | (apply wlo; exact rfl; exact rfl; exact hy0; exact List.not_mem_nil; exact rfl; exact rfl)
              | refine wc_seq ?_
              | refine wc_region ?_
              | refine wl_nil ?_
              | refine we_round ?_
              | refine we_then_wc ?_
              | (apply wi64; exact rfl; omega; omega; exact rfl; exact rfl)
              | (apply wfa; exact rfl; exact rfl; exact rfl; exact rfl)
              | (apply wct; exact rfl; omega; exact rfl; exact rfl)
              | (apply wcf; exact rfl; omega; exact rfl; exact rfl)
              | (apply wn; exact rfl; exact rfl)
              | (apply wlb (j := 0); exact rfl; exact rfl; exact rfl; exact rfl; exact rfl; exact rfl)
              | (apply wlb (j := 1); exact rfl; exact rfl; exact rfl; exact rfl; exact rfl; exact rfl)
              | (apply wlb (j := 2); exact rfl; exact rfl; exact rfl; exact rfl; exact rfl; exact rfl)
              | (apply wlb (j := 3); exact rfl; exact rfl; exact rfl; exact rfl; exact rfl; exact rfl)
              | (apply wln; exact rfl; exact rfl; exact rfl; exact rfl)
              | (apply wpu; exact rfl; exact rfl; exact rfl)
              | (apply wbx; exact rfl; exact rfl; exact rfl; intro _)
              | refine wc_block ?_
              | (apply wc_true; exact rfl)
              | (apply wc_false; exact rfl)
              | refine wc_skip ?_
              | refine wc_exit ?_
              | refine wc_ret ?_
              | refine we_then_exit ?_
              | refine we_then_ret ?_
              | refine we_in_normal ?_
              | refine we_in_ret ?_
              | refine we_in_here ?_
              | (apply we_in_there; exact rfl))
            exact we_ret2 (Or.inl rfl) rfl rfl rfl fun w' h => ⟨rfl, h.ext_all⟩
  · rw [if_neg c1] at hE
    rw [hE] at k1
    generalize xs.length = m at *
    have hy0 : True := trivial
    repeat (first
      | (apply ws; exact rfl; exact rfl; exact rfl)
      | (apply wq Tryd.call31; exact rfl; exact rfl; exact rfl; exact (fun w' hw => k1 w' hw.ext_all))
      | refine wc_seq ?_
      | refine wc_region ?_
      | refine wl_nil ?_
      | refine we_round ?_
      | refine we_then_wc ?_
      | (apply wi64; exact rfl; omega; omega; exact rfl; exact rfl)
      | (apply wfa; exact rfl; exact rfl; exact rfl; exact rfl)
      | (apply wct; exact rfl; omega; exact rfl; exact rfl)
      | (apply wcf; exact rfl; omega; exact rfl; exact rfl)
      | (apply wn; exact rfl; exact rfl)
      | (apply wlb (j := 0); exact rfl; exact rfl; exact rfl; exact rfl; exact rfl; exact rfl)
      | (apply wlb (j := 1); exact rfl; exact rfl; exact rfl; exact rfl; exact rfl; exact rfl)
      | (apply wlb (j := 2); exact rfl; exact rfl; exact rfl; exact rfl; exact rfl; exact rfl)
      | (apply wlb (j := 3); exact rfl; exact rfl; exact rfl; exact rfl; exact rfl; exact rfl)
      | (apply wln; exact rfl; exact rfl; exact rfl; exact rfl)
      | (apply wpu; exact rfl; exact rfl; exact rfl)
      | (apply wbx; exact rfl; exact rfl; exact rfl; intro _)
      | refine wc_block ?_
      | (apply wc_true; exact rfl)
      | (apply wc_false; exact rfl)
      | refine wc_skip ?_
      | refine wc_exit ?_
      | refine wc_ret ?_
      | refine we_then_exit ?_
      | refine we_then_ret ?_
      | refine we_in_normal ?_
      | refine we_in_ret ?_
      | refine we_in_here ?_
      | (apply we_in_there; exact rfl))
    exact we_ret2 (Or.inl rfl) rfl rfl rfl fun w' h => ⟨rfl, h.ext_all⟩
end Go.Proofs.YtielloijdkoeiaaDoor
