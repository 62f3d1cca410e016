/- Layer 2: the hash of bytes. -/
import Derived.Test.YtielloijdkoeiaaDoorDc
import Derived.Test.YtielloijdkoeiaaDoorKj
namespace Go.Proofs.YtielloijdkoeiaaDoor
open Go Go.RowKit Go.Lib
set_option maxRecDepth 100000

/-! ### What is computed -/
def blocksP (st : S8) : Nat → List UInt8 → S8
  | 0, _ => st
  | k + 1, l => blocksP (absorbP st (l.take 64)) k (l.drop 64)
def startS : S8 := { a := 0x6a09e667, b := 0xbb67ae85, c := 0x3c6ef372, d := 0xa54ff53a, e := 0x510e527f, f := 0x9b05688c, g := 0x1f83d9ab, h := 0x5be0cd19 }
def padZ (n : Nat) : Nat := if n % 64 > 55 then 119 - n % 64 else 55 - n % 64
def padP (l : List UInt8) : List UInt8 := l ++ 0x80 :: (List.replicate (padZ l.length) 0 ++ putL (8 * l.length) 8 8)
def digP (s : S8) : List UInt8 := s.l.flatMap fun x => putL x.toNat 4 4
def sumP (l : List UInt8) : List UInt8 := digP (blocksP startS ((padP l).length / 64) (padP l))
def digV (l : List UInt8) : Value := .agg (l.map v8).toArray

theorem blocksP_succ (st : S8) : ∀ (k : Nat) (l : List UInt8), blocksP st (k + 1) l = absorbP (blocksP st k l) ((l.drop (64 * k)).take 64)
  | 0, l => by simp [blocksP]
  | k + 1, l => by
    have := blocksP_succ (absorbP st (l.take 64)) k (l.drop 64)
    simp only [blocksP] at this ⊢
    rw [this, List.drop_drop]
    congr 3
    omega

theorem blocksP_add (st : S8) : ∀ (a b : Nat) (l : List UInt8), blocksP st (a + b) l = blocksP (blocksP st a l) b (l.drop (64 * a))
  | 0, b, l => by simp [blocksP]
  | a + 1, b, l => by
    rw [show a + 1 + b = (a + b) + 1 by omega]
    simp only [blocksP]
    rw [blocksP_add (absorbP st (l.take 64)) a b (l.drop 64), List.drop_drop]
    congr 2
    omega

theorem blocksP_append (st : S8) : ∀ (k : Nat) (l r : List UInt8), 64 * k ≤ l.length → blocksP st k (l ++ r) = blocksP st k l
  | 0, l, r, _ => rfl
  | k + 1, l, r, h => by
    simp only [blocksP]
    rw [List.take_append_of_le_length (by omega), List.drop_append_of_le_length (by omega)]
    exact blocksP_append _ k (l.drop 64) r (by simp; omega)

/-- The last blocks: what is left, the mark, zeros, the length. -/
def endP (r : List UInt8) (len : Nat) : List UInt8 := r ++ 0x80 :: (List.replicate (padZ len) 0 ++ putL (8 * len) 8 8)

theorem putL_length (m L k : Nat) : (putL m L k).length = k := by simp [putL]

theorem padP_length (l : List UInt8) : (padP l).length = l.length + 9 + padZ l.length := by
  simp only [padP, List.length_append, List.length_cons, List.length_replicate, putL_length]; omega

theorem padZ_eq (n k m : Nat) (hn : n = 64 * k + m) (hm : m < 64) : padZ n = if m > 55 then 119 - m else 55 - m := by
  have : n % 64 = m := by omega
  unfold padZ
  rw [this]

/-- The program's way: whole blocks of the text first, then the last one or two. -/
theorem sum_split (l : List UInt8) (k q : Nat) (m : Nat) (hn : l.length = 64 * k + m) (hm : m < 64) (hq : m + 9 + padZ l.length = 64 * q) :
    blocksP startS ((padP l).length / 64) (padP l) = blocksP (blocksP startS k l) q (endP (l.drop (64 * k)) l.length) := by
  have h1 : (padP l).length = 64 * (k + q) := by rw [padP_length]; omega
  rw [h1, Nat.mul_div_cancel_left _ (by omega), blocksP_add]
  have h2 : blocksP startS k (padP l) = blocksP startS k l := blocksP_append _ _ _ _ (by omega)
  rw [h2]
  congr 1
  unfold padP endP
  rw [List.drop_append_of_le_length (by omega)]

theorem flatMap_take4 (f : W32 → List UInt8) (hf : ∀ x, (f x).length = 4) : ∀ (l : List W32) (i : Nat) (x : W32), l[i]? = some x → (l.flatMap f).take (4 * (i + 1)) = (l.flatMap f).take (4 * i) ++ f x
  | [], i, x, h => by simp at h
  | y :: l, 0, x, h => by
    simp at h; subst h
    simp only [List.flatMap_cons]
    rw [List.take_append_of_le_length (by rw [hf]; omega), List.take_of_length_le (by rw [hf]; omega)]
    simp
  | y :: l, i + 1, x, h => by
    simp at h
    simp only [List.flatMap_cons]
    have := flatMap_take4 f hf l i x h
    rw [List.take_append, List.take_append, hf]
    rw [show 4 * (i + 1 + 1) - 4 = 4 * (i + 1) by omega, show 4 * (i + 1) - 4 = 4 * i by omega, this]
    rw [List.take_of_length_le (l := f y) (i := 4 * (i + 1 + 1)) (by rw [hf]; omega), List.take_of_length_le (l := f y) (i := 4 * (i + 1)) (by rw [hf]; omega)]
    simp

theorem digP_length (s : S8) : (digP s).length = 32 := by
  simp [digP, S8.l, putL_length]

theorem dig_step (s : S8) (i : Nat) (x : W32) (h : s.l[i]? = some x) : ((digP s).take (4 * i)).map v8 ++ (putL x.toNat 4 4).map v8 = ((digP s).take (4 * (i + 1))).map v8 := by
  rw [← List.map_append]
  congr 1
  exact (flatMap_take4 (fun x => putL x.toNat 4 4) (fun x => putL_length _ _ _) s.l i x h).symm

theorem dig_cells (s : S8) (i : Nat) (h : i < 8) : (((digP s).take (4 * i)).map v8 ++ List.replicate (32 - 4 * i) (v8 0)).take (4 * i) ++ (putL (wd s.l i).toNat 4 4).map v8 ++ (((digP s).take (4 * i)).map v8 ++ List.replicate (32 - 4 * i) (v8 0)).drop (4 * i + 4) =
    ((digP s).take (4 * (i + 1))).map v8 ++ List.replicate (32 - 4 * (i + 1)) (v8 0) := by
  have hl : (((digP s).take (4 * i)).map v8).length = 4 * i := by simp [digP_length]; omega
  have hx : s.l[i]? = some (wd s.l i) := by
    have h8 : i < s.l.length := h
    simp [wd, List.getD, h8]
  rw [List.take_append_of_le_length (by omega), List.take_of_length_le (by omega), List.drop_append, List.drop_of_length_le (by omega), hl, dig_step s i _ hx, List.nil_append, List.drop_replicate]
  congr 2
  omega

/-! ### The walk -/
theorem zero53 (w : World) : (zeroValue 53).run Tryd.prog w = .ok (.agg (List.replicate 32 (v8 0)).toArray) w := (Tryd.zeroValue53 w).trans (by rfl)

theorem elem5z (E : Elem 5 1 1) : E.z = .int .u8 0 := by
  have h1 : (Tryd.prog.info? 5).map (fun i => i.zero) = some (some (.int .u8 0)) := by kernel_rfl
  rw [E.hi] at h1
  simp only [Option.map_some, Option.some.injEq] at h1
  rw [E.hz] at h1
  exact Option.some.inj h1

theorem zeros128 (E : Elem 5 1 1) : (Array.range (128 * 1)).map (E.z.cells[· % E.z.cells.size]!) = (List.replicate 128 (v8 0)).toArray := by
  rw [elem5z E]
  kernel_rfl

theorem wrap_u64_lt {n : Nat} (h : n < 2 ^ 64) : IntKind.u64.wrap (n : Int) = (n : Int) := by
  simp [IntKind.wrap, IntKind.bits, IntKind.signed]; omega

theorem plain8 (l : List UInt8) : ∀ v ∈ (l.map v8).toArray.toList, plainV v = true := by simp [v8, plainV]

theorem end_cells (r : List UInt8) (len N : Nat) (hN : r.length + 9 + padZ len = N) (h2 : N ≤ 128) :
    ((r.map v8 ++ List.replicate (128 - r.length) (v8 0)).set (0 + r.length) (v8 128)).take (N - 8) ++ (putL (8 * len) 8 8).map v8 ++ ((r.map v8 ++ List.replicate (128 - r.length) (v8 0)).set (0 + r.length) (v8 128)).drop (N - 8 + 8) =
      (endP r len).map v8 ++ List.replicate (128 - N) (v8 0) := by
  have e1 : (r.map v8 ++ List.replicate (128 - r.length) (v8 0)).set (0 + r.length) (v8 128) = r.map v8 ++ v8 128 :: List.replicate (127 - r.length) (v8 0) := by
    rw [List.set_append_right _ _ (by simp)]
    have : 128 - r.length = (127 - r.length) + 1 := by omega
    rw [this]
    simp [List.replicate_succ]
  rw [e1]
  have e2 : (r.map v8 ++ v8 128 :: List.replicate (127 - r.length) (v8 0)).take (N - 8) = r.map v8 ++ v8 128 :: List.replicate (padZ len) (v8 0) := by
    rw [List.take_append, List.take_of_length_le (by simp; omega)]
    congr 1
    have : N - 8 - (r.map v8).length = padZ len + 1 := by simp; omega
    rw [this, List.take_succ_cons, List.take_replicate]
    congr 2; omega
  have e3 : (r.map v8 ++ v8 128 :: List.replicate (127 - r.length) (v8 0)).drop (N - 8 + 8) = List.replicate (128 - N) (v8 0) := by
    rw [List.drop_append, List.drop_of_length_le (by simp; omega)]
    have : N - 8 + 8 - (r.map v8).length = (padZ len + 8) + 1 := by simp; omega
    rw [this, List.drop_succ_cons, List.drop_replicate]
    simp; omega
  rw [e2, e3]
  simp [endP, v8]

set_option maxHeartbeats 1000000 in
theorem sum_calls (v : Value) (l : List UInt8) (hlen : l.length < 2 ^ 50) (w : World) (hL : Laid w) (hv : Rd v8 w v l) : Fn 64 [v] w (Quiet (digV (sumP l)) w) := by
  obtain ⟨b, o, c, rfl, hc, hcell⟩ := hv
  have hb1 : 1 < w.heap.size := cell_lt (hL.2 0 _ rfl)
  refine fn_of (args := [.slice (some ⟨b, o, none⟩) l.length c]) Tryd.func64 rfl Tryd.ntmps64 rfl (Hp.start w) ?_
  repeat (first
    | (apply ws; exact rfl; exact rfl; exact rfl)
    | (apply wal zero53 rfl; exact rfl; exact rfl; intro bd)
    | (apply wal zero112 rfl; exact rfl; exact rfl; intro s)
    | refine wl_still rfl rfl rfl (od_loadA (cs := startW.map u32) rfl rfl rfl rfl (fun w' h i v hi => by rw [Nat.zero_add]; rw [List.getElem?_map] at hi; cases hx : startW[i]? with | none => simp [hx] at hi | some x => simp [hx] at hi; subst hi; exact h.cell_old (hL.1 i x hx) (by simp))) ?_
    | (apply wsw (j := 0); exact rfl; exact rfl; exact rfl; exact rfl; exact rfl; exact plainS startS; exact rfl; exact rfl)
    | refine wc_seq ?_
    | refine wc_region ?_
    | refine wl_nil ?_
    | refine we_round ?_
    | refine we_then_wc ?_
    | (apply wi64; exact rfl; omega; omega; exact rfl; exact rfl)
    | (apply wfa; exact rfl; exact rfl; exact rfl; exact rfl)
    | (apply wct; exact rfl; omega; exact rfl; exact rfl)
    | (apply wcf; exact rfl; omega; exact rfl; exact rfl)
    | (apply wn; exact rfl; exact rfl)
    | (apply wlb (j := 0); exact rfl; exact rfl; exact rfl; exact rfl; exact rfl; exact rfl)
    | (apply wlb (j := 1); exact rfl; exact rfl; exact rfl; exact rfl; exact rfl; exact rfl)
    | (apply wlb (j := 2); exact rfl; exact rfl; exact rfl; exact rfl; exact rfl; exact rfl)
    | (apply wlb (j := 3); exact rfl; exact rfl; exact rfl; exact rfl; exact rfl; exact rfl)
    | (apply wln; exact rfl; exact rfl; exact rfl; exact rfl)
    | (apply wpu; exact rfl; exact rfl; exact rfl)
    | (apply wbx; exact rfl; exact rfl; exact rfl; intro _)
    | refine wc_block ?_
    | (apply wc_true; exact rfl)
    | (apply wc_false; exact rfl)
    | refine wc_skip ?_
    | refine wc_exit ?_
    | refine wc_ret ?_
    | refine we_then_exit ?_
    | refine we_then_ret ?_
    | refine we_in_normal ?_
    | refine we_in_ret ?_
    | refine we_in_here ?_
    | (apply we_in_there; exact rfl))
  -- the whole blocks
  refine wc_loop (ι := Nat × Nat × Nat × Nat) (fun i => [(5, .slice (some ⟨b, i.2.1, none⟩) i.2.2.2 i.2.2.1), (4, .func (.func 81) #[.pointer (some ⟨s, 0, none⟩)] #[]), (3, .pointer (some ⟨s, 0, none⟩)), (2, .pointer (some ⟨bd, 0, none⟩)), (0, .slice (some ⟨b, o, none⟩) l.length c)])
    (fun i => [(s, (blocksP startS i.1 l).v, 112), (bd, List.replicate 32 (v8 0), 53)])
    (fun i => l.length = 64 * i.1 + i.2.2.2 ∧ i.2.2.2 ≤ i.2.2.1 ∧ ∀ j x, (l.drop (64 * i.1))[j]? = some x → w.cell? ⟨b, i.2.1 + j, none⟩ = some (v8 x)) (fun i => i.2.2.2) (0, o, c, l.length)
    ⟨by simp, hc, by simpa using hcell⟩ ⟨rfl, rfl, rfl, rfl, rfl, trivial⟩ (List.Sublist.refl _) ?_
  rintro ⟨k, oo, cc, m⟩ ⟨hm, hmc, hcl⟩
  simp only at hm hmc hcl
  dsimp only
  repeat (first
    | (apply ws; exact rfl; exact rfl; exact rfl)
    | refine wc_seq ?_
    | refine wc_region ?_
    | refine wl_nil ?_
    | refine we_round ?_
    | refine we_then_wc ?_
    | (apply wi64; exact rfl; omega; omega; exact rfl; exact rfl)
    | (apply wfa; exact rfl; exact rfl; exact rfl; exact rfl)
    | (apply wct; exact rfl; omega; exact rfl; exact rfl)
    | (apply wcf; exact rfl; omega; exact rfl; exact rfl)
    | (apply wn; exact rfl; exact rfl)
    | (apply wlb (j := 0); exact rfl; exact rfl; exact rfl; exact rfl; exact rfl; exact rfl)
    | (apply wlb (j := 1); exact rfl; exact rfl; exact rfl; exact rfl; exact rfl; exact rfl)
    | (apply wlb (j := 2); exact rfl; exact rfl; exact rfl; exact rfl; exact rfl; exact rfl)
    | (apply wlb (j := 3); exact rfl; exact rfl; exact rfl; exact rfl; exact rfl; exact rfl)
    | (apply wln; exact rfl; exact rfl; exact rfl; exact rfl)
    | (apply wpu; exact rfl; exact rfl; exact rfl)
    | (apply wbx; exact rfl; exact rfl; exact rfl; intro _)
    | refine wc_block ?_
    | (apply wc_true; exact rfl)
    | (apply wc_false; exact rfl)
    | refine wc_skip ?_
    | refine wc_exit ?_
    | refine wc_ret ?_
    | refine we_then_exit ?_
    | refine we_then_ret ?_
    | refine we_in_normal ?_
    | refine we_in_ret ?_
    | refine we_in_here ?_
    | (apply we_in_there; exact rfl))
  refine wc_if rfl (fun ht => ?_) (fun ht => ?_)
  · have ht : 64 ≤ m := by have := of_decide_eq_true ht; omega
    repeat (first
      | (apply ws; exact rfl; exact rfl; exact rfl)
      | refine wc_seq ?_
      | refine wc_region ?_
      | refine wl_nil ?_
      | refine we_round ?_
      | refine we_then_wc ?_
      | (apply wi64; exact rfl; omega; omega; exact rfl; exact rfl)
      | (apply wfa; exact rfl; exact rfl; exact rfl; exact rfl)
      | (apply wct; exact rfl; omega; exact rfl; exact rfl)
      | (apply wcf; exact rfl; omega; exact rfl; exact rfl)
      | (apply wn; exact rfl; exact rfl)
      | (apply wlb (j := 0); exact rfl; exact rfl; exact rfl; exact rfl; exact rfl; exact rfl)
      | (apply wlb (j := 1); exact rfl; exact rfl; exact rfl; exact rfl; exact rfl; exact rfl)
      | (apply wlb (j := 2); exact rfl; exact rfl; exact rfl; exact rfl; exact rfl; exact rfl)
      | (apply wlb (j := 3); exact rfl; exact rfl; exact rfl; exact rfl; exact rfl; exact rfl)
      | (apply wln; exact rfl; exact rfl; exact rfl; exact rfl)
      | (apply wpu; exact rfl; exact rfl; exact rfl)
      | (apply wbx; exact rfl; exact rfl; exact rfl; intro _)
      | refine wc_block ?_
      | (apply wc_true; exact rfl)
      | (apply wc_false; exact rfl)
      | refine wc_skip ?_
      | refine wc_exit ?_
      | refine wc_ret ?_
      | refine we_then_exit ?_
      | refine we_then_ret ?_
      | refine we_in_normal ?_
      | refine we_in_ret ?_
      | refine we_in_here ?_
      | (apply we_in_there; exact rfl))
    refine wl_still rfl rfl rfl (od_slice 0 64 cc rfl rfl rfl rfl ⟨_, _, rfl, rfl⟩ rfl (by omega) (by omega) (by omega) (by simp)) ?_
    have e0 : (if cc = 0 then oo else oo + 0 * 1) = oo := by split <;> omega
    rw [e0]
    refine wl_turns 0 rfl rfl rfl rfl (od_callv rfl Tryd.call81 rfl (fun w' h => absorb_calls s (blocksP startS k l) _ ((l.drop (64 * k)).take 64) (by simp; omega) w' (h.at (j := 0) rfl).2 (hL.ext h.ext_all) (by have := (h.at (j := 0) rfl).1; simp at this; omega) ⟨b, oo, cc, ?_, ?_, ?_, ?_⟩)) ?_
    · exact h.ne_old (j := 0) rfl (cell_lt (hcl 0 ((l.drop (64 * k))[0]'(by simp; omega)) (by simp)))
    · simp; omega
    · simp; omega
    · intro i x hx
      have hi : i < 64 := by have := (List.getElem?_eq_some_iff.1 hx).1; simp at this; omega
      rw [List.getElem?_take_of_lt hi] at hx
      exact h.cell_old (hcl i x hx) (by simp)
    rw [← blocksP_succ]
    repeat (first
      | (apply ws; exact rfl; exact rfl; exact rfl)
      | refine wc_seq ?_
      | refine wc_region ?_
      | refine wl_nil ?_
      | refine we_round ?_
      | refine we_then_wc ?_
      | (apply wi64; exact rfl; omega; omega; exact rfl; exact rfl)
      | (apply wfa; exact rfl; exact rfl; exact rfl; exact rfl)
      | (apply wct; exact rfl; omega; exact rfl; exact rfl)
      | (apply wcf; exact rfl; omega; exact rfl; exact rfl)
      | (apply wn; exact rfl; exact rfl)
      | (apply wlb (j := 0); exact rfl; exact rfl; exact rfl; exact rfl; exact rfl; exact rfl)
      | (apply wlb (j := 1); exact rfl; exact rfl; exact rfl; exact rfl; exact rfl; exact rfl)
      | (apply wlb (j := 2); exact rfl; exact rfl; exact rfl; exact rfl; exact rfl; exact rfl)
      | (apply wlb (j := 3); exact rfl; exact rfl; exact rfl; exact rfl; exact rfl; exact rfl)
      | (apply wln; exact rfl; exact rfl; exact rfl; exact rfl)
      | (apply wpu; exact rfl; exact rfl; exact rfl)
      | (apply wbx; exact rfl; exact rfl; exact rfl; intro _)
      | refine wc_block ?_
      | (apply wc_true; exact rfl)
      | (apply wc_false; exact rfl)
      | refine wc_skip ?_
      | refine wc_exit ?_
      | refine wc_ret ?_
      | refine we_then_exit ?_
      | refine we_then_ret ?_
      | refine we_in_normal ?_
      | refine we_in_ret ?_
      | refine we_in_here ?_
      | (apply we_in_there; exact rfl))
    refine wl_still rfl rfl rfl (od_slice 64 m cc rfl rfl rfl rfl rfl ⟨_, _, rfl, rfl⟩ (by omega) (by omega) (by omega) (by simp)) ?_
    repeat (first
      | (apply ws; exact rfl; exact rfl; exact rfl)
      | refine wc_seq ?_
      | refine wc_region ?_
      | refine wl_nil ?_
      | refine we_round ?_
      | refine we_then_wc ?_
      | (apply wi64; exact rfl; omega; omega; exact rfl; exact rfl)
      | (apply wfa; exact rfl; exact rfl; exact rfl; exact rfl)
      | (apply wct; exact rfl; omega; exact rfl; exact rfl)
      | (apply wcf; exact rfl; omega; exact rfl; exact rfl)
      | (apply wn; exact rfl; exact rfl)
      | (apply wlb (j := 0); exact rfl; exact rfl; exact rfl; exact rfl; exact rfl; exact rfl)
      | (apply wlb (j := 1); exact rfl; exact rfl; exact rfl; exact rfl; exact rfl; exact rfl)
      | (apply wlb (j := 2); exact rfl; exact rfl; exact rfl; exact rfl; exact rfl; exact rfl)
      | (apply wlb (j := 3); exact rfl; exact rfl; exact rfl; exact rfl; exact rfl; exact rfl)
      | (apply wln; exact rfl; exact rfl; exact rfl; exact rfl)
      | (apply wpu; exact rfl; exact rfl; exact rfl)
      | (apply wbx; exact rfl; exact rfl; exact rfl; intro _)
      | refine wc_block ?_
      | (apply wc_true; exact rfl)
      | (apply wc_false; exact rfl)
      | refine wc_skip ?_
      | refine wc_exit ?_
      | refine wc_ret ?_
      | refine we_then_exit ?_
      | refine we_then_ret ?_
      | refine we_in_normal ?_
      | refine we_in_ret ?_
      | refine we_in_here ?_
      | (apply we_in_there; exact rfl))
    refine we_again (k + 1, (if cc = 64 then oo else oo + 64 * 1), cc - 64, m - 64) ⟨by simp only; omega, by simp only; omega, fun j x hx => ?_⟩ (by simp only; omega) ⟨rfl, rfl, rfl, rfl, rfl, trivial⟩ (List.Sublist.refl _)
    simp only at hx ⊢
    have hj : j < m - 64 := by have := (List.getElem?_eq_some_iff.1 hx).1; simp at this; omega
    rw [if_neg (by omega)]
    rw [List.getElem?_drop] at hx
    have h2 := hcl (64 + j) x (by rw [List.getElem?_drop]; rw [← hx]; congr 1; omega)
    rw [show oo + 64 * 1 + j = oo + (64 + j) by omega]
    exact h2
  have ht : m < 64 := by have := of_decide_eq_false ht; omega
  have hrl : (l.drop (64 * k)).length = m := by simp; omega
  generalize hr : l.drop (64 * k) = r at *
  subst hrl
  repeat (first
    | (apply ws; exact rfl; exact rfl; exact rfl)
    | refine wc_seq ?_
    | refine wc_region ?_
    | refine wl_nil ?_
    | refine we_round ?_
    | refine we_then_wc ?_
    | (apply wi64; exact rfl; omega; omega; exact rfl; exact rfl)
    | (apply wfa; exact rfl; exact rfl; exact rfl; exact rfl)
    | (apply wct; exact rfl; omega; exact rfl; exact rfl)
    | (apply wcf; exact rfl; omega; exact rfl; exact rfl)
    | (apply wn; exact rfl; exact rfl)
    | (apply wlb (j := 0); exact rfl; exact rfl; exact rfl; exact rfl; exact rfl; exact rfl)
    | (apply wlb (j := 1); exact rfl; exact rfl; exact rfl; exact rfl; exact rfl; exact rfl)
    | (apply wlb (j := 2); exact rfl; exact rfl; exact rfl; exact rfl; exact rfl; exact rfl)
    | (apply wlb (j := 3); exact rfl; exact rfl; exact rfl; exact rfl; exact rfl; exact rfl)
    | (apply wln; exact rfl; exact rfl; exact rfl; exact rfl)
    | (apply wpu; exact rfl; exact rfl; exact rfl)
    | (apply wbx; exact rfl; exact rfl; exact rfl; intro _)
    | refine wc_block ?_
    | (apply wc_true; exact rfl)
    | (apply wc_false; exact rfl)
    | refine wc_skip ?_
    | refine wc_exit ?_
    | refine wc_ret ?_
    | refine we_then_exit ?_
    | refine we_then_ret ?_
    | refine we_in_normal ?_
    | refine we_in_ret ?_
    | refine we_in_here ?_
    | (apply we_in_there; exact rfl))
  refine wl_makes rfl rfl rfl (od_makeSlice (l := 64) (c := 128) (zc := List.replicate 128 (v8 0)) rfl rfl elem5 rfl (by omega) (by omega) (by omega) zeros128) ?_
  rintro _ be -
  repeat (first
    | (apply ws; exact rfl; exact rfl; exact rfl)
    | refine wc_seq ?_
    | refine wc_region ?_
    | refine wl_nil ?_
    | refine we_round ?_
    | refine we_then_wc ?_
    | (apply wi64; exact rfl; omega; omega; exact rfl; exact rfl)
    | (apply wfa; exact rfl; exact rfl; exact rfl; exact rfl)
    | (apply wct; exact rfl; omega; exact rfl; exact rfl)
    | (apply wcf; exact rfl; omega; exact rfl; exact rfl)
    | (apply wn; exact rfl; exact rfl)
    | (apply wlb (j := 0); exact rfl; exact rfl; exact rfl; exact rfl; exact rfl; exact rfl)
    | (apply wlb (j := 1); exact rfl; exact rfl; exact rfl; exact rfl; exact rfl; exact rfl)
    | (apply wlb (j := 2); exact rfl; exact rfl; exact rfl; exact rfl; exact rfl; exact rfl)
    | (apply wlb (j := 3); exact rfl; exact rfl; exact rfl; exact rfl; exact rfl; exact rfl)
    | (apply wln; exact rfl; exact rfl; exact rfl; exact rfl)
    | (apply wpu; exact rfl; exact rfl; exact rfl)
    | (apply wbx; exact rfl; exact rfl; exact rfl; intro _)
    | refine wc_block ?_
    | (apply wc_true; exact rfl)
    | (apply wc_false; exact rfl)
    | refine wc_skip ?_
    | refine wc_exit ?_
    | refine wc_ret ?_
    | refine we_then_exit ?_
    | refine we_then_ret ?_
    | refine we_in_normal ?_
    | refine we_in_ret ?_
    | refine we_in_here ?_
    | (apply we_in_there; exact rfl))
  refine wl_turns 0 rfl rfl rfl rfl (od_copy (m := 64) (m' := r.length) (n := r.length) (sv := .slice (some ⟨b, oo, none⟩) r.length cc) (news := r.map v8) 0 rfl rfl rfl rfl rfl (fun _ _ => rfl) (Nat.min_eq_left (by omega)) (fun w' h => (Src.rd ⟨b, oo, cc, rfl, hmc, fun i x hx => h.cell_old (hcl i x hx) (by simp)⟩).2 w' (Ext.refl w')) (by simp) (by simp [v8, plainV]) (by simp; omega)) ?_
  have e1 : (List.replicate 128 (v8 0)).take 0 ++ r.map v8 ++ (List.replicate 128 (v8 0)).drop (0 + r.length) = r.map v8 ++ List.replicate (128 - r.length) (v8 0) := by rw [List.take_zero, List.nil_append, Nat.zero_add, List.drop_replicate]
  rw [e1]
  repeat (first
    | (apply ws; exact rfl; exact rfl; exact rfl)
    | refine wc_seq ?_
    | refine wc_region ?_
    | refine wl_nil ?_
    | refine we_round ?_
    | refine we_then_wc ?_
    | (apply wi64; exact rfl; omega; omega; exact rfl; exact rfl)
    | (apply wfa; exact rfl; exact rfl; exact rfl; exact rfl)
    | (apply wct; exact rfl; omega; exact rfl; exact rfl)
    | (apply wcf; exact rfl; omega; exact rfl; exact rfl)
    | (apply wn; exact rfl; exact rfl)
    | (apply wlb (j := 0); exact rfl; exact rfl; exact rfl; exact rfl; exact rfl; exact rfl)
    | (apply wlb (j := 1); exact rfl; exact rfl; exact rfl; exact rfl; exact rfl; exact rfl)
    | (apply wlb (j := 2); exact rfl; exact rfl; exact rfl; exact rfl; exact rfl; exact rfl)
    | (apply wlb (j := 3); exact rfl; exact rfl; exact rfl; exact rfl; exact rfl; exact rfl)
    | (apply wln; exact rfl; exact rfl; exact rfl; exact rfl)
    | (apply wpu; exact rfl; exact rfl; exact rfl)
    | (apply wbx; exact rfl; exact rfl; exact rfl; intro _)
    | refine wc_block ?_
    | (apply wc_true; exact rfl)
    | (apply wc_false; exact rfl)
    | refine wc_skip ?_
    | refine wc_exit ?_
    | refine wc_ret ?_
    | refine we_then_exit ?_
    | refine we_then_ret ?_
    | refine we_in_normal ?_
    | refine we_in_ret ?_
    | refine we_in_here ?_
    | (apply we_in_there; exact rfl))
  refine wl_still rfl rfl rfl (od_indexAddr1 r.length rfl rfl rfl rfl rfl (by omega)) ?_
  refine wst 0 rfl rfl rfl rfl rfl (by simp; omega) rfl ?_
  have hz := padZ_eq l.length k r.length hm ht
  refine wl_nil (we_then_wc ?_)
  refine wc_cut (ι := Nat) (fun N => [(6, .slice (some ⟨be, 0, none⟩) N 128), (4, .func (.func 81) #[.pointer (some ⟨s, 0, none⟩)] #[]), (3, .pointer (some ⟨s, 0, none⟩)), (2, .pointer (some ⟨bd, 0, none⟩)), (0, .slice (some ⟨b, o, none⟩) l.length c)])
    (fun N => [(be, (r.map v8 ++ List.replicate (128 - r.length) (v8 0)).set (0 + r.length) (v8 128), 5), (s, (blocksP startS k l).v, 112), (bd, List.replicate 32 (v8 0), 53)]) (fun N => ∃ q, r.length + 9 + padZ l.length = N ∧ N = 64 * q ∧ N ≤ 128) ?_ ?_
  · repeat (first
      | (apply ws; exact rfl; exact rfl; exact rfl)
      | refine wc_seq ?_
      | refine wc_region ?_
      | refine wl_nil ?_
      | refine we_round ?_
      | refine we_then_wc ?_
      | (apply wi64; exact rfl; omega; omega; exact rfl; exact rfl)
      | (apply wfa; exact rfl; exact rfl; exact rfl; exact rfl)
      | (apply wct; exact rfl; omega; exact rfl; exact rfl)
      | (apply wcf; exact rfl; omega; exact rfl; exact rfl)
      | (apply wn; exact rfl; exact rfl)
      | (apply wlb (j := 0); exact rfl; exact rfl; exact rfl; exact rfl; exact rfl; exact rfl)
      | (apply wlb (j := 1); exact rfl; exact rfl; exact rfl; exact rfl; exact rfl; exact rfl)
      | (apply wlb (j := 2); exact rfl; exact rfl; exact rfl; exact rfl; exact rfl; exact rfl)
      | (apply wlb (j := 3); exact rfl; exact rfl; exact rfl; exact rfl; exact rfl; exact rfl)
      | (apply wln; exact rfl; exact rfl; exact rfl; exact rfl)
      | (apply wpu; exact rfl; exact rfl; exact rfl)
      | (apply wbx; exact rfl; exact rfl; exact rfl; intro _)
      | refine wc_block ?_
      | (apply wc_true; exact rfl)
      | (apply wc_false; exact rfl)
      | refine wc_skip ?_
      | refine wc_exit ?_
      | refine wc_ret ?_
      | refine we_then_exit ?_
      | refine we_then_ret ?_
      | refine we_in_normal ?_
      | refine we_in_ret ?_
      | refine we_in_here ?_
      | (apply we_in_there; exact rfl))
    refine wc_if rfl (fun ht2 => ?_) (fun ht2 => ?_)
    · have ht2 : 55 < r.length := by have := of_decide_eq_true ht2; omega
      rw [if_pos ht2] at hz
      repeat (first
        | (apply ws; exact rfl; exact rfl; exact rfl)
        | refine wc_seq ?_
        | refine wc_region ?_
        | refine wl_nil ?_
        | refine we_round ?_
        | refine we_then_wc ?_
        | (apply wi64; exact rfl; omega; omega; exact rfl; exact rfl)
        | (apply wfa; exact rfl; exact rfl; exact rfl; exact rfl)
        | (apply wct; exact rfl; omega; exact rfl; exact rfl)
        | (apply wcf; exact rfl; omega; exact rfl; exact rfl)
        | (apply wn; exact rfl; exact rfl)
        | (apply wlb (j := 0); exact rfl; exact rfl; exact rfl; exact rfl; exact rfl; exact rfl)
        | (apply wlb (j := 1); exact rfl; exact rfl; exact rfl; exact rfl; exact rfl; exact rfl)
        | (apply wlb (j := 2); exact rfl; exact rfl; exact rfl; exact rfl; exact rfl; exact rfl)
        | (apply wlb (j := 3); exact rfl; exact rfl; exact rfl; exact rfl; exact rfl; exact rfl)
        | (apply wln; exact rfl; exact rfl; exact rfl; exact rfl)
        | (apply wpu; exact rfl; exact rfl; exact rfl)
        | (apply wbx; exact rfl; exact rfl; exact rfl; intro _)
        | refine wc_block ?_
        | (apply wc_true; exact rfl)
        | (apply wc_false; exact rfl)
        | refine wc_skip ?_
        | refine wc_exit ?_
        | refine wc_ret ?_
        | refine we_then_exit ?_
        | refine we_then_ret ?_
        | refine we_in_normal ?_
        | refine we_in_ret ?_
        | refine we_in_here ?_
        | (apply we_in_there; exact rfl))
      refine wl_still rfl rfl rfl (od_slice 0 128 128 rfl rfl rfl rfl ⟨_, _, rfl, rfl⟩ rfl (by omega) (by omega) (by omega) (by simp)) ?_
      repeat (first
        | (apply ws; exact rfl; exact rfl; exact rfl)
        | refine wc_seq ?_
        | refine wc_region ?_
        | refine wl_nil ?_
        | refine we_round ?_
        | refine we_then_wc ?_
        | (apply wi64; exact rfl; omega; omega; exact rfl; exact rfl)
        | (apply wfa; exact rfl; exact rfl; exact rfl; exact rfl)
        | (apply wct; exact rfl; omega; exact rfl; exact rfl)
        | (apply wcf; exact rfl; omega; exact rfl; exact rfl)
        | (apply wn; exact rfl; exact rfl)
        | (apply wlb (j := 0); exact rfl; exact rfl; exact rfl; exact rfl; exact rfl; exact rfl)
        | (apply wlb (j := 1); exact rfl; exact rfl; exact rfl; exact rfl; exact rfl; exact rfl)
        | (apply wlb (j := 2); exact rfl; exact rfl; exact rfl; exact rfl; exact rfl; exact rfl)
        | (apply wlb (j := 3); exact rfl; exact rfl; exact rfl; exact rfl; exact rfl; exact rfl)
        | (apply wln; exact rfl; exact rfl; exact rfl; exact rfl)
        | (apply wpu; exact rfl; exact rfl; exact rfl)
        | (apply wbx; exact rfl; exact rfl; exact rfl; intro _)
        | refine wc_block ?_
        | (apply wc_true; exact rfl)
        | (apply wc_false; exact rfl)
        | refine wc_skip ?_
        | refine wc_exit ?_
        | refine wc_ret ?_
        | refine we_then_exit ?_
        | refine we_then_ret ?_
        | refine we_in_normal ?_
        | refine we_in_ret ?_
        | refine we_in_here ?_
        | (apply we_in_there; exact rfl))
      exact we_mid 128 ⟨2, by omega, rfl, by omega⟩ ⟨rfl, rfl, rfl, rfl, rfl, trivial⟩ (List.Sublist.refl _)
    · have ht2 : ¬ 55 < r.length := by have := of_decide_eq_false ht2; omega
      rw [if_neg ht2] at hz
      repeat (first
        | (apply ws; exact rfl; exact rfl; exact rfl)
        | refine wc_seq ?_
        | refine wc_region ?_
        | refine wl_nil ?_
        | refine we_round ?_
        | refine we_then_wc ?_
        | (apply wi64; exact rfl; omega; omega; exact rfl; exact rfl)
        | (apply wfa; exact rfl; exact rfl; exact rfl; exact rfl)
        | (apply wct; exact rfl; omega; exact rfl; exact rfl)
        | (apply wcf; exact rfl; omega; exact rfl; exact rfl)
        | (apply wn; exact rfl; exact rfl)
        | (apply wlb (j := 0); exact rfl; exact rfl; exact rfl; exact rfl; exact rfl; exact rfl)
        | (apply wlb (j := 1); exact rfl; exact rfl; exact rfl; exact rfl; exact rfl; exact rfl)
        | (apply wlb (j := 2); exact rfl; exact rfl; exact rfl; exact rfl; exact rfl; exact rfl)
        | (apply wlb (j := 3); exact rfl; exact rfl; exact rfl; exact rfl; exact rfl; exact rfl)
        | (apply wln; exact rfl; exact rfl; exact rfl; exact rfl)
        | (apply wpu; exact rfl; exact rfl; exact rfl)
        | (apply wbx; exact rfl; exact rfl; exact rfl; intro _)
        | refine wc_block ?_
        | (apply wc_true; exact rfl)
        | (apply wc_false; exact rfl)
        | refine wc_skip ?_
        | refine wc_exit ?_
        | refine wc_ret ?_
        | refine we_then_exit ?_
        | refine we_then_ret ?_
        | refine we_in_normal ?_
        | refine we_in_ret ?_
        | refine we_in_here ?_
        | (apply we_in_there; exact rfl))
      exact we_mid 64 ⟨1, by omega, rfl, by omega⟩ ⟨rfl, rfl, rfl, rfl, rfl, trivial⟩ (List.Sublist.refl _)
  clear hz
  rintro N ⟨q, hN, hNq, hN2⟩
  repeat (first
    | (apply ws; exact rfl; exact rfl; exact rfl)
    | refine wc_seq ?_
    | refine wc_region ?_
    | refine wl_nil ?_
    | refine we_round ?_
    | refine we_then_wc ?_
    | (apply wi64; exact rfl; omega; omega; exact rfl; exact rfl)
    | (apply wfa; exact rfl; exact rfl; exact rfl; exact rfl)
    | (apply wct; exact rfl; omega; exact rfl; exact rfl)
    | (apply wcf; exact rfl; omega; exact rfl; exact rfl)
    | (apply wn; exact rfl; exact rfl)
    | (apply wlb (j := 0); exact rfl; exact rfl; exact rfl; exact rfl; exact rfl; exact rfl)
    | (apply wlb (j := 1); exact rfl; exact rfl; exact rfl; exact rfl; exact rfl; exact rfl)
    | (apply wlb (j := 2); exact rfl; exact rfl; exact rfl; exact rfl; exact rfl; exact rfl)
    | (apply wlb (j := 3); exact rfl; exact rfl; exact rfl; exact rfl; exact rfl; exact rfl)
    | (apply wln; exact rfl; exact rfl; exact rfl; exact rfl)
    | (apply wpu; exact rfl; exact rfl; exact rfl)
    | (apply wbx; exact rfl; exact rfl; exact rfl; intro _)
    | refine wc_block ?_
    | (apply wc_true; exact rfl)
    | (apply wc_false; exact rfl)
    | refine wc_skip ?_
    | refine wc_exit ?_
    | refine wc_ret ?_
    | refine we_then_exit ?_
    | refine we_then_ret ?_
    | refine we_in_normal ?_
    | refine we_in_ret ?_
    | refine we_in_here ?_
    | (apply we_in_there; exact rfl))
  refine wl_still rfl rfl rfl (od_slice (N - 8) N 128 rfl rfl rfl rfl rfl ⟨_, _, rfl, by omega⟩ (by omega) (by omega) (by omega) (by simp)) ?_
  rw [if_neg (by omega : ¬ 128 = N - 8)]
  repeat (first
    | (apply ws; exact rfl; exact rfl; exact rfl)
    | refine wc_seq ?_
    | refine wc_region ?_
    | refine wl_nil ?_
    | refine we_round ?_
    | refine we_then_wc ?_
    | (apply wi64; exact rfl; omega; omega; exact rfl; exact rfl)
    | (apply wfa; exact rfl; exact rfl; exact rfl; exact rfl)
    | (apply wct; exact rfl; omega; exact rfl; exact rfl)
    | (apply wcf; exact rfl; omega; exact rfl; exact rfl)
    | (apply wn; exact rfl; exact rfl)
    | (apply wlb (j := 0); exact rfl; exact rfl; exact rfl; exact rfl; exact rfl; exact rfl)
    | (apply wlb (j := 1); exact rfl; exact rfl; exact rfl; exact rfl; exact rfl; exact rfl)
    | (apply wlb (j := 2); exact rfl; exact rfl; exact rfl; exact rfl; exact rfl; exact rfl)
    | (apply wlb (j := 3); exact rfl; exact rfl; exact rfl; exact rfl; exact rfl; exact rfl)
    | (apply wln; exact rfl; exact rfl; exact rfl; exact rfl)
    | (apply wpu; exact rfl; exact rfl; exact rfl)
    | (apply wbx; exact rfl; exact rfl; exact rfl; intro _)
    | refine wc_block ?_
    | (apply wc_true; exact rfl)
    | (apply wc_false; exact rfl)
    | refine wc_skip ?_
    | refine wc_exit ?_
    | refine wc_ret ?_
    | refine we_then_exit ?_
    | refine we_then_ret ?_
    | refine we_in_normal ?_
    | refine we_in_ret ?_
    | refine we_in_here ?_
    | (apply we_in_there; exact rfl))
  refine wl_still rfl rfl rfl (od_conv rfl rfl rfl) ?_
  rw [wrap_u64_lt (by omega)]
  refine wl_still rfl rfl rfl (od_int (y := ((8 * l.length : Nat) : Int)) rfl (by rw [show (l.length : Int) * 8 = ((8 * l.length : Nat) : Int) by omega]; exact wrap_u64_lt (by omega))) ?_
  rw [show 0 + (N - 8) * 1 = N - 8 by omega, show N - (N - 8) = 8 by omega]
  refine wtu 0 Tryd.call82 rfl rfl rfl rfl (fun w' h => put_calls be (N - 8) 8 _ (8 * l.length) _ 5 (by simp; omega) (by omega) (by omega) w' (h.at (j := 0) rfl).2) ?_
  have hcs := end_cells r l.length N hN hN2
  rw [hcs]
  have hFl : (endP r l.length).length = N := by simp [endP, putL_length]; omega
  have hsum : blocksP startS ((padP l).length / 64) (padP l) = blocksP (blocksP startS k l) q (endP r l.length) := by
    rw [← hr]; exact sum_split l k q r.length hm ht (by omega)
  have hfin : sumP l = digP (blocksP (blocksP startS k l) q (endP r l.length)) := by unfold sumP; rw [hsum]
  rw [hfin]
  clear hcs hsum hfin hr hcl hN
  generalize endP r l.length = F at *
  generalize blocksP startS k l = st1 at *
  subst hNq
  repeat (first
    | (apply ws; exact rfl; exact rfl; exact rfl)
    | refine wc_seq ?_
    | refine wc_region ?_
    | refine wl_nil ?_
    | refine we_round ?_
    | refine we_then_wc ?_
    | (apply wi64; exact rfl; omega; omega; exact rfl; exact rfl)
    | (apply wfa; exact rfl; exact rfl; exact rfl; exact rfl)
    | (apply wct; exact rfl; omega; exact rfl; exact rfl)
    | (apply wcf; exact rfl; omega; exact rfl; exact rfl)
    | (apply wn; exact rfl; exact rfl)
    | (apply wlb (j := 0); exact rfl; exact rfl; exact rfl; exact rfl; exact rfl; exact rfl)
    | (apply wlb (j := 1); exact rfl; exact rfl; exact rfl; exact rfl; exact rfl; exact rfl)
    | (apply wlb (j := 2); exact rfl; exact rfl; exact rfl; exact rfl; exact rfl; exact rfl)
    | (apply wlb (j := 3); exact rfl; exact rfl; exact rfl; exact rfl; exact rfl; exact rfl)
    | (apply wln; exact rfl; exact rfl; exact rfl; exact rfl)
    | (apply wpu; exact rfl; exact rfl; exact rfl)
    | (apply wbx; exact rfl; exact rfl; exact rfl; intro _)
    | refine wc_block ?_
    | (apply wc_true; exact rfl)
    | (apply wc_false; exact rfl)
    | refine wc_skip ?_
    | refine wc_exit ?_
    | refine wc_ret ?_
    | refine we_then_exit ?_
    | refine we_then_ret ?_
    | refine we_in_normal ?_
    | refine we_in_ret ?_
    | refine we_in_here ?_
    | (apply we_in_there; exact rfl))
  -- the last blocks
  refine wc_loop (ι := Nat × Nat × Nat × Nat) (fun i => [(6, .slice (some ⟨be, i.2.1, none⟩) i.2.2.2 i.2.2.1), (4, .func (.func 81) #[.pointer (some ⟨s, 0, none⟩)] #[]), (3, .pointer (some ⟨s, 0, none⟩)), (2, .pointer (some ⟨bd, 0, none⟩))])
    (fun i => [(be, F.map v8 ++ List.replicate (128 - 64 * q) (v8 0), 5), (s, (blocksP st1 i.1 F).v, 112), (bd, List.replicate 32 (v8 0), 53)])
    (fun i => 64 * q = 64 * i.1 + i.2.2.2 ∧ i.2.2.2 ≤ i.2.2.1 ∧ ∀ j x, (F.drop (64 * i.1))[j]? = some x → (F.map v8 ++ List.replicate (128 - 64 * q) (v8 0))[i.2.1 + j]? = some (v8 x)) (fun i => i.2.2.2) (0, 0, 128, 64 * q)
    ⟨by simp, hN2, fun j x hx => ?_⟩ ⟨rfl, rfl, rfl, rfl, trivial⟩ (List.Sublist.refl _) ?_
  · simp only [Nat.mul_zero, List.drop_zero] at hx
    simp only [Nat.zero_add]
    have hj := (List.getElem?_eq_some_iff.1 hx).1
    rw [List.getElem?_append_left (by simpa using hj), List.getElem?_map, hx]
    rfl
  rintro ⟨k2, oo2, cc2, m⟩ ⟨hm2, hmc2, hcl⟩
  simp only at hm2 hmc2 hcl
  dsimp only
  repeat (first
    | (apply ws; exact rfl; exact rfl; exact rfl)
    | refine wc_seq ?_
    | refine wc_region ?_
    | refine wl_nil ?_
    | refine we_round ?_
    | refine we_then_wc ?_
    | (apply wi64; exact rfl; omega; omega; exact rfl; exact rfl)
    | (apply wfa; exact rfl; exact rfl; exact rfl; exact rfl)
    | (apply wct; exact rfl; omega; exact rfl; exact rfl)
    | (apply wcf; exact rfl; omega; exact rfl; exact rfl)
    | (apply wn; exact rfl; exact rfl)
    | (apply wlb (j := 0); exact rfl; exact rfl; exact rfl; exact rfl; exact rfl; exact rfl)
    | (apply wlb (j := 1); exact rfl; exact rfl; exact rfl; exact rfl; exact rfl; exact rfl)
    | (apply wlb (j := 2); exact rfl; exact rfl; exact rfl; exact rfl; exact rfl; exact rfl)
    | (apply wlb (j := 3); exact rfl; exact rfl; exact rfl; exact rfl; exact rfl; exact rfl)
    | (apply wln; exact rfl; exact rfl; exact rfl; exact rfl)
    | (apply wpu; exact rfl; exact rfl; exact rfl)
    | (apply wbx; exact rfl; exact rfl; exact rfl; intro _)
    | refine wc_block ?_
    | (apply wc_true; exact rfl)
    | (apply wc_false; exact rfl)
    | refine wc_skip ?_
    | refine wc_exit ?_
    | refine wc_ret ?_
    | refine we_then_exit ?_
    | refine we_then_ret ?_
    | refine we_in_normal ?_
    | refine we_in_ret ?_
    | refine we_in_here ?_
    | (apply we_in_there; exact rfl))
  refine wc_if rfl (fun ht3 => ?_) (fun ht3 => ?_)
  · have ht3 : 64 ≤ m := by have := of_decide_eq_true ht3; omega
    repeat (first
      | (apply ws; exact rfl; exact rfl; exact rfl)
      | refine wc_seq ?_
      | refine wc_region ?_
      | refine wl_nil ?_
      | refine we_round ?_
      | refine we_then_wc ?_
      | (apply wi64; exact rfl; omega; omega; exact rfl; exact rfl)
      | (apply wfa; exact rfl; exact rfl; exact rfl; exact rfl)
      | (apply wct; exact rfl; omega; exact rfl; exact rfl)
      | (apply wcf; exact rfl; omega; exact rfl; exact rfl)
      | (apply wn; exact rfl; exact rfl)
      | (apply wlb (j := 0); exact rfl; exact rfl; exact rfl; exact rfl; exact rfl; exact rfl)
      | (apply wlb (j := 1); exact rfl; exact rfl; exact rfl; exact rfl; exact rfl; exact rfl)
      | (apply wlb (j := 2); exact rfl; exact rfl; exact rfl; exact rfl; exact rfl; exact rfl)
      | (apply wlb (j := 3); exact rfl; exact rfl; exact rfl; exact rfl; exact rfl; exact rfl)
      | (apply wln; exact rfl; exact rfl; exact rfl; exact rfl)
      | (apply wpu; exact rfl; exact rfl; exact rfl)
      | (apply wbx; exact rfl; exact rfl; exact rfl; intro _)
      | refine wc_block ?_
      | (apply wc_true; exact rfl)
      | (apply wc_false; exact rfl)
      | refine wc_skip ?_
      | refine wc_exit ?_
      | refine wc_ret ?_
      | refine we_then_exit ?_
      | refine we_then_ret ?_
      | refine we_in_normal ?_
      | refine we_in_ret ?_
      | refine we_in_here ?_
      | (apply we_in_there; exact rfl))
    refine wl_still rfl rfl rfl (od_slice 0 64 cc2 rfl rfl rfl rfl ⟨_, _, rfl, rfl⟩ rfl (by omega) (by omega) (by omega) (by simp)) ?_
    have e0 : (if cc2 = 0 then oo2 else oo2 + 0 * 1) = oo2 := by split <;> omega
    rw [e0]
    refine wl_turns 1 rfl rfl rfl rfl (od_callv rfl Tryd.call81 rfl (fun w' h => absorb_calls s (blocksP st1 k2 F) _ ((F.drop (64 * k2)).take 64) (by simp; omega) w' (h.at (j := 1) rfl).2 (hL.ext h.ext_all) (by have := (h.at (j := 1) rfl).1; simp at this; omega) ⟨be, oo2, cc2, ?_, ?_, ?_, ?_⟩)) ?_
    · exact h.ne (i := 0) (j := 1) rfl rfl rfl
    · simp; omega
    · simp; omega
    · intro i x hx
      have hi : i < 64 := by have := (List.getElem?_eq_some_iff.1 hx).1; simp at this; omega
      rw [List.getElem?_take_of_lt hi] at hx
      exact h.cell_blk (j := 0) rfl (hcl i x hx)
    rw [← blocksP_succ]
    repeat (first
      | (apply ws; exact rfl; exact rfl; exact rfl)
      | refine wc_seq ?_
      | refine wc_region ?_
      | refine wl_nil ?_
      | refine we_round ?_
      | refine we_then_wc ?_
      | (apply wi64; exact rfl; omega; omega; exact rfl; exact rfl)
      | (apply wfa; exact rfl; exact rfl; exact rfl; exact rfl)
      | (apply wct; exact rfl; omega; exact rfl; exact rfl)
      | (apply wcf; exact rfl; omega; exact rfl; exact rfl)
      | (apply wn; exact rfl; exact rfl)
      | (apply wlb (j := 0); exact rfl; exact rfl; exact rfl; exact rfl; exact rfl; exact rfl)
      | (apply wlb (j := 1); exact rfl; exact rfl; exact rfl; exact rfl; exact rfl; exact rfl)
      | (apply wlb (j := 2); exact rfl; exact rfl; exact rfl; exact rfl; exact rfl; exact rfl)
      | (apply wlb (j := 3); exact rfl; exact rfl; exact rfl; exact rfl; exact rfl; exact rfl)
      | (apply wln; exact rfl; exact rfl; exact rfl; exact rfl)
      | (apply wpu; exact rfl; exact rfl; exact rfl)
      | (apply wbx; exact rfl; exact rfl; exact rfl; intro _)
      | refine wc_block ?_
      | (apply wc_true; exact rfl)
      | (apply wc_false; exact rfl)
      | refine wc_skip ?_
      | refine wc_exit ?_
      | refine wc_ret ?_
      | refine we_then_exit ?_
      | refine we_then_ret ?_
      | refine we_in_normal ?_
      | refine we_in_ret ?_
      | refine we_in_here ?_
      | (apply we_in_there; exact rfl))
    refine wl_still rfl rfl rfl (od_slice 64 m cc2 rfl rfl rfl rfl rfl ⟨_, _, rfl, rfl⟩ (by omega) (by omega) (by omega) (by simp)) ?_
    repeat (first
      | (apply ws; exact rfl; exact rfl; exact rfl)
      | refine wc_seq ?_
      | refine wc_region ?_
      | refine wl_nil ?_
      | refine we_round ?_
      | refine we_then_wc ?_
      | (apply wi64; exact rfl; omega; omega; exact rfl; exact rfl)
      | (apply wfa; exact rfl; exact rfl; exact rfl; exact rfl)
      | (apply wct; exact rfl; omega; exact rfl; exact rfl)
      | (apply wcf; exact rfl; omega; exact rfl; exact rfl)
      | (apply wn; exact rfl; exact rfl)
      | (apply wlb (j := 0); exact rfl; exact rfl; exact rfl; exact rfl; exact rfl; exact rfl)
      | (apply wlb (j := 1); exact rfl; exact rfl; exact rfl; exact rfl; exact rfl; exact rfl)
      | (apply wlb (j := 2); exact rfl; exact rfl; exact rfl; exact rfl; exact rfl; exact rfl)
      | (apply wlb (j := 3); exact rfl; exact rfl; exact rfl; exact rfl; exact rfl; exact rfl)
      | (apply wln; exact rfl; exact rfl; exact rfl; exact rfl)
      | (apply wpu; exact rfl; exact rfl; exact rfl)
      | (apply wbx; exact rfl; exact rfl; exact rfl; intro _)
      | refine wc_block ?_
      | (apply wc_true; exact rfl)
      | (apply wc_false; exact rfl)
      | refine wc_skip ?_
      | refine wc_exit ?_
      | refine wc_ret ?_
      | refine we_then_exit ?_
      | refine we_then_ret ?_
      | refine we_in_normal ?_
      | refine we_in_ret ?_
      | refine we_in_here ?_
      | (apply we_in_there; exact rfl))
    refine we_again (k2 + 1, (if cc2 = 64 then oo2 else oo2 + 64 * 1), cc2 - 64, m - 64) ⟨by simp only; omega, by simp only; omega, fun j x hx => ?_⟩ (by simp only; omega) ⟨rfl, rfl, rfl, rfl, trivial⟩ (List.Sublist.refl _)
    simp only at hx ⊢
    have hj : j < m - 64 := by have := (List.getElem?_eq_some_iff.1 hx).1; simp at this; omega
    rw [if_neg (by omega)]
    rw [List.getElem?_drop] at hx
    have h2 := hcl (64 + j) x (by rw [List.getElem?_drop]; rw [← hx]; congr 1; omega)
    rw [show oo2 + 64 * 1 + j = oo2 + (64 + j) by omega]
    exact h2
  have ht3 : ¬ 0 < m := by have := of_decide_eq_false ht3; omega
  have hkq : k2 = q := by omega
  subst hkq
  clear hcl hm2
  generalize blocksP st1 k2 F = st2 at *
  repeat (first
    | (apply ws; exact rfl; exact rfl; exact rfl)
    | (apply wlab (j := 1); exact rfl; exact rfl; exact rfl; exact rfl; exact rfl; exact rfl; exact rfl)
    | refine wc_seq ?_
    | refine wc_region ?_
    | refine wl_nil ?_
    | refine we_round ?_
    | refine we_then_wc ?_
    | (apply wi64; exact rfl; omega; omega; exact rfl; exact rfl)
    | (apply wfa; exact rfl; exact rfl; exact rfl; exact rfl)
    | (apply wct; exact rfl; omega; exact rfl; exact rfl)
    | (apply wcf; exact rfl; omega; exact rfl; exact rfl)
    | (apply wn; exact rfl; exact rfl)
    | (apply wlb (j := 0); exact rfl; exact rfl; exact rfl; exact rfl; exact rfl; exact rfl)
    | (apply wlb (j := 1); exact rfl; exact rfl; exact rfl; exact rfl; exact rfl; exact rfl)
    | (apply wlb (j := 2); exact rfl; exact rfl; exact rfl; exact rfl; exact rfl; exact rfl)
    | (apply wlb (j := 3); exact rfl; exact rfl; exact rfl; exact rfl; exact rfl; exact rfl)
    | (apply wln; exact rfl; exact rfl; exact rfl; exact rfl)
    | (apply wpu; exact rfl; exact rfl; exact rfl)
    | (apply wbx; exact rfl; exact rfl; exact rfl; intro _)
    | refine wc_block ?_
    | (apply wc_true; exact rfl)
    | (apply wc_false; exact rfl)
    | refine wc_skip ?_
    | refine wc_exit ?_
    | refine wc_ret ?_
    | refine we_then_exit ?_
    | refine we_then_ret ?_
    | refine we_in_normal ?_
    | refine we_in_ret ?_
    | refine we_in_here ?_
    | (apply we_in_there; exact rfl))
  refine wc_loop (ι := Nat) (fun i => [(54, .int .i64 (i : Int)), (53, .agg st2.v.toArray), (2, .pointer (some ⟨bd, 0, none⟩))])
    (fun i => [(bd, ((digP st2).take (4 * i)).map v8 ++ List.replicate (32 - 4 * i) (v8 0), 53)]) (fun i => i ≤ 8) (fun i => 8 - i) 0 (Nat.zero_le _) ⟨rfl, rfl, rfl, trivial⟩ (List.Sublist.cons _ (List.Sublist.cons _ (List.Sublist.refl _))) ?_
  intro i hi
  repeat (first
    | (apply ws; exact rfl; exact rfl; exact rfl)
    | refine wc_seq ?_
    | refine wc_region ?_
    | refine wl_nil ?_
    | refine we_round ?_
    | refine we_then_wc ?_
    | (apply wi64; exact rfl; omega; omega; exact rfl; exact rfl)
    | (apply wfa; exact rfl; exact rfl; exact rfl; exact rfl)
    | (apply wct; exact rfl; omega; exact rfl; exact rfl)
    | (apply wcf; exact rfl; omega; exact rfl; exact rfl)
    | (apply wn; exact rfl; exact rfl)
    | (apply wlb (j := 0); exact rfl; exact rfl; exact rfl; exact rfl; exact rfl; exact rfl)
    | (apply wlb (j := 1); exact rfl; exact rfl; exact rfl; exact rfl; exact rfl; exact rfl)
    | (apply wlb (j := 2); exact rfl; exact rfl; exact rfl; exact rfl; exact rfl; exact rfl)
    | (apply wlb (j := 3); exact rfl; exact rfl; exact rfl; exact rfl; exact rfl; exact rfl)
    | (apply wln; exact rfl; exact rfl; exact rfl; exact rfl)
    | (apply wpu; exact rfl; exact rfl; exact rfl)
    | (apply wbx; exact rfl; exact rfl; exact rfl; intro _)
    | refine wc_block ?_
    | (apply wc_true; exact rfl)
    | (apply wc_false; exact rfl)
    | refine wc_skip ?_
    | refine wc_exit ?_
    | refine wc_ret ?_
    | refine we_then_exit ?_
    | refine we_then_ret ?_
    | refine we_in_normal ?_
    | refine we_in_ret ?_
    | refine we_in_here ?_
    | (apply we_in_there; exact rfl))
  refine wc_if rfl (fun ht4 => ?_) (fun ht4 => ?_)
  · have hlt : i < 8 := by have := of_decide_eq_true ht4; omega
    have hv : st2.v.toArray[i]? = some (u32 (wd st2.l i)) := by
      have := v_get st2 i hlt
      rw [Nat.zero_add] at this
      simpa using this
    repeat (first
      | (apply ws; exact rfl; exact rfl; exact rfl)
      | refine wl_still rfl rfl rfl (od_index i rfl rfl rfl rfl rfl rfl hlt hv) ?_
      | refine wc_seq ?_
      | refine wc_region ?_
      | refine wl_nil ?_
      | refine we_round ?_
      | refine we_then_wc ?_
      | (apply wi64; exact rfl; omega; omega; exact rfl; exact rfl)
      | (apply wfa; exact rfl; exact rfl; exact rfl; exact rfl)
      | (apply wct; exact rfl; omega; exact rfl; exact rfl)
      | (apply wcf; exact rfl; omega; exact rfl; exact rfl)
      | (apply wn; exact rfl; exact rfl)
      | (apply wlb (j := 0); exact rfl; exact rfl; exact rfl; exact rfl; exact rfl; exact rfl)
      | (apply wlb (j := 1); exact rfl; exact rfl; exact rfl; exact rfl; exact rfl; exact rfl)
      | (apply wlb (j := 2); exact rfl; exact rfl; exact rfl; exact rfl; exact rfl; exact rfl)
      | (apply wlb (j := 3); exact rfl; exact rfl; exact rfl; exact rfl; exact rfl; exact rfl)
      | (apply wln; exact rfl; exact rfl; exact rfl; exact rfl)
      | (apply wpu; exact rfl; exact rfl; exact rfl)
      | (apply wbx; exact rfl; exact rfl; exact rfl; intro _)
      | refine wc_block ?_
      | (apply wc_true; exact rfl)
      | (apply wc_false; exact rfl)
      | refine wc_skip ?_
      | refine wc_exit ?_
      | refine wc_ret ?_
      | refine we_then_exit ?_
      | refine we_then_ret ?_
      | refine we_in_normal ?_
      | refine we_in_ret ?_
      | refine we_in_here ?_
      | (apply we_in_there; exact rfl))
    refine wl_still rfl rfl rfl (od_sliceA (4 * i) (4 * i + 4) 32 rfl rfl rfl rfl ⟨_, _, rfl, by omega⟩ ⟨_, _, rfl, by omega⟩ (by omega) (by omega) (by omega) (by simp)) ?_
    rw [if_neg (by omega : ¬ 32 = 4 * i), show 0 + 4 * i * 1 = 4 * i by omega, show 4 * i + 4 - 4 * i = 4 by omega]
    repeat (first
      | (apply ws; exact rfl; exact rfl; exact rfl)
      | refine wc_seq ?_
      | refine wc_region ?_
      | refine wl_nil ?_
      | refine we_round ?_
      | refine we_then_wc ?_
      | (apply wi64; exact rfl; omega; omega; exact rfl; exact rfl)
      | (apply wfa; exact rfl; exact rfl; exact rfl; exact rfl)
      | (apply wct; exact rfl; omega; exact rfl; exact rfl)
      | (apply wcf; exact rfl; omega; exact rfl; exact rfl)
      | (apply wn; exact rfl; exact rfl)
      | (apply wlb (j := 0); exact rfl; exact rfl; exact rfl; exact rfl; exact rfl; exact rfl)
      | (apply wlb (j := 1); exact rfl; exact rfl; exact rfl; exact rfl; exact rfl; exact rfl)
      | (apply wlb (j := 2); exact rfl; exact rfl; exact rfl; exact rfl; exact rfl; exact rfl)
      | (apply wlb (j := 3); exact rfl; exact rfl; exact rfl; exact rfl; exact rfl; exact rfl)
      | (apply wln; exact rfl; exact rfl; exact rfl; exact rfl)
      | (apply wpu; exact rfl; exact rfl; exact rfl)
      | (apply wbx; exact rfl; exact rfl; exact rfl; intro _)
      | refine wc_block ?_
      | (apply wc_true; exact rfl)
      | (apply wc_false; exact rfl)
      | refine wc_skip ?_
      | refine wc_exit ?_
      | refine wc_ret ?_
      | refine we_then_exit ?_
      | refine we_then_ret ?_
      | refine we_in_normal ?_
      | refine we_in_ret ?_
      | refine we_in_here ?_
      | (apply we_in_there; exact rfl))
    refine wl_still rfl rfl rfl (od_conv rfl rfl rfl) ?_
    rw [wrap_u64_lt (by have := (wd st2.l i).isLt; omega)]
    refine wtu 0 Tryd.call82 rfl rfl rfl rfl (fun w' h => put_calls bd (4 * i) 4 _ (wd st2.l i).toNat _ 53 (by simp [digP_length]; omega) (by omega) (by have := (wd st2.l i).isLt; omega) w' (h.at (j := 0) rfl).2) ?_
    rw [dig_cells st2 i hlt]
    repeat (first
      | (apply ws; exact rfl; exact rfl; exact rfl)
      | refine wc_seq ?_
      | refine wc_region ?_
      | refine wl_nil ?_
      | refine we_round ?_
      | refine we_then_wc ?_
      | (apply wi64; exact rfl; omega; omega; exact rfl; exact rfl)
      | (apply wfa; exact rfl; exact rfl; exact rfl; exact rfl)
      | (apply wct; exact rfl; omega; exact rfl; exact rfl)
      | (apply wcf; exact rfl; omega; exact rfl; exact rfl)
      | (apply wn; exact rfl; exact rfl)
      | (apply wlb (j := 0); exact rfl; exact rfl; exact rfl; exact rfl; exact rfl; exact rfl)
      | (apply wlb (j := 1); exact rfl; exact rfl; exact rfl; exact rfl; exact rfl; exact rfl)
      | (apply wlb (j := 2); exact rfl; exact rfl; exact rfl; exact rfl; exact rfl; exact rfl)
      | (apply wlb (j := 3); exact rfl; exact rfl; exact rfl; exact rfl; exact rfl; exact rfl)
      | (apply wln; exact rfl; exact rfl; exact rfl; exact rfl)
      | (apply wpu; exact rfl; exact rfl; exact rfl)
      | (apply wbx; exact rfl; exact rfl; exact rfl; intro _)
      | refine wc_block ?_
      | (apply wc_true; exact rfl)
      | (apply wc_false; exact rfl)
      | refine wc_skip ?_
      | refine wc_exit ?_
      | refine wc_ret ?_
      | refine we_then_exit ?_
      | refine we_then_ret ?_
      | refine we_in_normal ?_
      | refine we_in_ret ?_
      | refine we_in_here ?_
      | (apply we_in_there; exact rfl))
    exact we_again (i + 1) (by omega) (by omega) ⟨by simp [get], rfl, rfl, trivial⟩ (List.Sublist.refl _)
  have hi8 : i = 8 := by have := of_decide_eq_false ht4; omega
  subst hi8
  have hd8 : ((digP st2).take (4 * 8)).map v8 ++ List.replicate (32 - 4 * 8) (v8 0) = (digP st2).map v8 := by
    rw [List.take_of_length_le (by rw [digP_length]; omega)]
    simp
  rw [hd8]
  have hd32 : ((digP st2).map v8).length = 32 := by simp [digP_length]
  repeat (first
    | (apply ws; exact rfl; exact rfl; exact rfl)
    | (apply wlab (j := 0); exact rfl; exact rfl; exact rfl; exact rfl; exact hd32; exact rfl; exact rfl)
    | (apply wsw (j := 0); exact rfl; exact rfl; exact rfl; exact rfl; exact hd32; exact plain8 _; exact hd32; exact rfl)
    | refine wc_seq ?_
    | refine wc_region ?_
    | refine wl_nil ?_
    | refine we_round ?_
    | refine we_then_wc ?_
    | (apply wi64; exact rfl; omega; omega; exact rfl; exact rfl)
    | (apply wfa; exact rfl; exact rfl; exact rfl; exact rfl)
    | (apply wct; exact rfl; omega; exact rfl; exact rfl)
    | (apply wcf; exact rfl; omega; exact rfl; exact rfl)
    | (apply wn; exact rfl; exact rfl)
    | (apply wlb (j := 0); exact rfl; exact rfl; exact rfl; exact rfl; exact rfl; exact rfl)
    | (apply wlb (j := 1); exact rfl; exact rfl; exact rfl; exact rfl; exact rfl; exact rfl)
    | (apply wlb (j := 2); exact rfl; exact rfl; exact rfl; exact rfl; exact rfl; exact rfl)
    | (apply wlb (j := 3); exact rfl; exact rfl; exact rfl; exact rfl; exact rfl; exact rfl)
    | (apply wln; exact rfl; exact rfl; exact rfl; exact rfl)
    | (apply wpu; exact rfl; exact rfl; exact rfl)
    | (apply wbx; exact rfl; exact rfl; exact rfl; intro _)
    | refine wc_block ?_
    | (apply wc_true; exact rfl)
    | (apply wc_false; exact rfl)
    | refine wc_skip ?_
    | refine wc_exit ?_
    | refine wc_ret ?_
    | refine we_then_exit ?_
    | refine we_then_ret ?_
    | refine we_in_normal ?_
    | refine we_in_ret ?_
    | refine we_in_here ?_
    | (apply we_in_there; exact rfl))
  exact we_retCA 0 (Or.inl rfl) rfl rfl rfl rfl rfl hd32 fun w' h => ⟨rfl, h.ext_all⟩
end Go.Proofs.YtielloijdkoeiaaDoor
