/- Layer 2: a block is absorbed; what it computes, as a function on lists of words. -/
import Derived.Test.YtielloijdkoeiaaDoorKi
namespace Go.Proofs.YtielloijdkoeiaaDoor
open Go Go.RowKit
set_option maxRecDepth 100000

section
variable {n : Nat} {ds : List Deferred} {env : Env} {w0 : World} {ex : List Nat} {bs : Blks} {ops : Array Oper} {C : Blks} {brk : Option Nat} {plan : List (Nat × Bool)} {Q : Act → World → Prop} {i d : Nat} {ty : TypeId} {pos : String} {af : Array Edge} {g : Option (Nat × Bool)}
theorem p32add {t t' : TypeId} {x y : Operand} {a b : W32} (hi : ops[i]? = some ⟨some d, .binOp .add t x y t', ty, pos, af, g⟩) (hx : ev env x = some (u32 a)) (hy : ev env y = some (u32 b)) (hg : wantE ops env g = some true) (hdn : Nat.blt d n = true)
    (next : WP ops C brk Q plan n ds ((d, u32 (a + b)) :: env) w0 ex bs) : WP ops C brk Q ((i, true) :: plan) n ds env w0 ex bs := wp_still hi hg hdn (od_add32 hx hy) next
theorem p32xor {t t' : TypeId} {x y : Operand} {a b : W32} (hi : ops[i]? = some ⟨some d, .binOp .xor t x y t', ty, pos, af, g⟩) (hx : ev env x = some (u32 a)) (hy : ev env y = some (u32 b)) (hg : wantE ops env g = some true) (hdn : Nat.blt d n = true)
    (next : WP ops C brk Q plan n ds ((d, u32 (a ^^^ b)) :: env) w0 ex bs) : WP ops C brk Q ((i, true) :: plan) n ds env w0 ex bs := wp_still hi hg hdn (od_xor32 hx hy) next
theorem p32and {t t' : TypeId} {x y : Operand} {a b : W32} (hi : ops[i]? = some ⟨some d, .binOp .and t x y t', ty, pos, af, g⟩) (hx : ev env x = some (u32 a)) (hy : ev env y = some (u32 b)) (hg : wantE ops env g = some true) (hdn : Nat.blt d n = true)
    (next : WP ops C brk Q plan n ds ((d, u32 (a &&& b)) :: env) w0 ex bs) : WP ops C brk Q ((i, true) :: plan) n ds env w0 ex bs := wp_still hi hg hdn (od_and32 hx hy) next
theorem p32or {t t' : TypeId} {x y : Operand} {a b : W32} (hi : ops[i]? = some ⟨some d, .binOp .or t x y t', ty, pos, af, g⟩) (hx : ev env x = some (u32 a)) (hy : ev env y = some (u32 b)) (hg : wantE ops env g = some true) (hdn : Nat.blt d n = true)
    (next : WP ops C brk Q plan n ds ((d, u32 (a ||| b)) :: env) w0 ex bs) : WP ops C brk Q ((i, true) :: plan) n ds env w0 ex bs := wp_still hi hg hdn (od_or32 hx hy) next
end

/-! ### What is computed -/
def sg0 (x : W32) : W32 := rotV x 25 ^^^ rotV x 14 ^^^ x >>> 3
def sg1 (x : W32) : W32 := rotV x 15 ^^^ rotV x 13 ^^^ x >>> 10
def wd (l : List W32) (i : Nat) : W32 := l.getD i 0
def nxt (l : List W32) (t : Nat) : W32 := wd l (t - 16) + sg0 (wd l (t - 15)) + wd l (t - 7) + sg1 (wd l (t - 2))
def sched (m : List W32) : Nat → List W32
  | 0 => m
  | k + 1 => sched m k ++ [nxt (sched m k) (16 + k)]
theorem sched_length (m : List W32) (hm : m.length = 16) (k : Nat) : (sched m k).length = 16 + k := by
  induction k with
  | zero => exact hm
  | succ k ih => simp [sched, ih]; omega

/-- Eight words. -/
structure S8 where
  a : W32
  b : W32
  c : W32
  d : W32
  e : W32
  f : W32
  g : W32
  h : W32

def S8.l (s : S8) : List W32 := [s.a, s.b, s.c, s.d, s.e, s.f, s.g, s.h]
def S8.v (s : S8) : List Value := [u32 s.a, u32 s.b, u32 s.c, u32 s.d, u32 s.e, u32 s.f, u32 s.g, u32 s.h]

def bg1 (e : W32) : W32 := rotV e 26 ^^^ rotV e 21 ^^^ rotV e 7
def bg0 (a : W32) : W32 := rotV a 30 ^^^ rotV a 19 ^^^ rotV a 10
def chP (e f g : W32) : W32 := g ^^^ e &&& (f ^^^ g)
def mjP (a b c : W32) : W32 := a &&& b ||| c &&& (a ||| b)
def pP (s : S8) (k w : W32) : W32 := s.h + bg1 s.e + chP s.e s.f s.g + k + w
def qP (s : S8) : W32 := bg0 s.a + mjP s.a s.b s.c
def stepP (s : S8) (k w : W32) : S8 := { a := pP s k w + qP s, b := s.a, c := s.b, d := s.c, e := s.d + pP s k w, f := s.e, g := s.f, h := s.g }
def runP (s : S8) (W : List W32) : Nat → S8
  | 0 => s
  | t + 1 => stepP (runP s W t) (wd kW t) (wd W t)
def addS (s v : S8) : S8 := { a := s.a + v.a, b := s.b + v.b, c := s.c + v.c, d := s.d + v.d, e := s.e + v.e, f := s.f + v.f, g := s.g + v.g, h := s.h + v.h }
def wordsOf (l : List UInt8) : List W32 := (List.range 16).map fun t => wordF 0 ((l.drop (4 * t)).take 4)
def absorbP (s : S8) (blk : List UInt8) : S8 := addS s (runP s (sched (wordsOf blk) 48) 64)

theorem zero119 (w : World) : (zeroValue 119).run Tryd.prog w = .ok (.agg (List.replicate 64 (u32 0)).toArray) w := (Tryd.zeroValue119 w).trans (by rfl)

theorem zero112 (w : World) : (zeroValue 112).run Tryd.prog w = .ok (.agg (List.replicate 8 (u32 0)).toArray) w := (Tryd.zeroValue112 w).trans (by rfl)

theorem plainS (s : S8) : ∀ v ∈ s.v.toArray.toList, plainV v = true := by simp [S8.v, u32, plainV]
theorem v_get (s : S8) : ∀ i, i < 8 → s.v[0 + i]? = some (u32 (wd s.l i))
  | 0, _ => rfl
  | 1, _ => rfl
  | 2, _ => rfl
  | 3, _ => rfl
  | 4, _ => rfl
  | 5, _ => rfl
  | 6, _ => rfl
  | 7, _ => rfl
  | k + 8, h => by omega

/-- The first i words added. -/
def addN (s v : S8) (i : Nat) : List Value := (List.range 8).map fun k => if k < i then u32 (wd s.l k + wd v.l k) else u32 (wd s.l k)
theorem addN_get (s v : S8) (i : Nat) (h : i < 8) : (addN s v i)[0 + i]? = some (u32 (wd s.l i)) := by
  simp [addN, List.getElem?_range h]
theorem addN_set (s v : S8) (i : Nat) (h : i < 8) : (addN s v i).set (0 + i) (u32 (wd s.l i + wd v.l i)) = addN s v (i + 1) := by
  apply List.ext_getElem?
  intro k
  rw [Nat.zero_add]
  by_cases e : i = k
  · subst e
    rw [List.getElem?_set_self (by simpa [addN] using h)]
    simp [addN, List.getElem?_range h]
  · rw [List.getElem?_set_ne e]
    by_cases hk : k < 8
    · simp only [addN, List.getElem?_map, List.getElem?_range hk, Option.map_some]
      congr 1
      by_cases h1 : k < i
      · rw [if_pos h1, if_pos (by omega)]
      · rw [if_neg h1, if_neg (by omega)]
    · rw [List.getElem?_eq_none (by simp [addN]; omega), List.getElem?_eq_none (by simp [addN]; omega)]

theorem getD_map {l : List W32} {i : Nat} (h : i < l.length) (R : List Value) : (l.map u32 ++ R)[i]? = some (u32 (wd l i)) := by
  rw [List.getElem?_append_left (by simpa using h)]
  simp [wd, List.getD, h]

theorem getD_map0 {l : List W32} {i : Nat} (h : i < l.length) (R : List Value) : (l.map u32 ++ R)[0 + i]? = some (u32 (wd l i)) := by rw [Nat.zero_add]; exact getD_map h R
theorem getD_map1 {l : List W32} {i : Nat} (h : i < l.length) : (l.map u32)[0 + i]? = some (u32 (wd l i)) := by have := getD_map0 h []; rwa [List.append_nil] at this

theorem set_next {l : List W32} {m : Nat} (x : W32) (hm : 0 < m) (p : Nat) (hp : p = l.length) : (l.map u32 ++ List.replicate m (u32 0)).set p (u32 x) = (l ++ [x]).map u32 ++ List.replicate (m - 1) (u32 0) := by
  subst hp
  obtain ⟨m, rfl⟩ : ∃ k, m = k + 1 := ⟨m - 1, by omega⟩
  rw [List.set_append_right _ _ (by simp)]
  simp [List.replicate_succ]

theorem rd_drop {w : World} {l : List UInt8} (k : Nat) (b o c : Nat) (hc : l.length ≤ c) (hl : ∀ i x, l[i]? = some x → w.cell? ⟨b, o + i, none⟩ = some (v8 x)) (hk : k < l.length) :
    Rd v8 w (.slice (some ⟨b, if c = k then o else o + k * 1, none⟩) (l.length - k) (c - k)) (l.drop k) := by
  rw [if_neg (by omega)]
  refine ⟨b, o + k * 1, c - k, by simp, by simp; omega, fun i x hx => ?_⟩
  rw [List.getElem?_drop] at hx
  have := hl _ _ hx
  rw [show o + k * 1 + i = o + (k + i) by omega]
  exact this

set_option maxHeartbeats 1000000 in
theorem absorb_calls (s : Nat) (st : S8) (v : Value) (blk : List UInt8) (hlen : blk.length = 64) (w : World) (hB : Blk w s st.v 112) (hL : Laid w) (hs : 1 < s)
    (hv : ∃ b o c, b ≠ s ∧ v = .slice (some ⟨b, o, none⟩) blk.length c ∧ blk.length ≤ c ∧ ∀ i x, blk[i]? = some x → w.cell? ⟨b, o + i, none⟩ = some (v8 x)) :
    Fn 81 [.pointer (some ⟨s, 0, none⟩), v] w (Turns (.tuple #[]) s (absorbP st blk).v 112 w) := by
  obtain ⟨b, o, c, hbs, rfl, hc, hcell⟩ := hv
  refine fn_of (args := [.pointer (some ⟨s, 0, none⟩), .slice (some ⟨b, o, none⟩) blk.length c]) Tryd.func81 rfl Tryd.ntmps81 rfl (Hp.start1 hB) ?_
  repeat (first
    | (apply ws; exact rfl; exact rfl; exact rfl)
    | (apply wal zero119 rfl; exact rfl; exact rfl; intro bw)
    | refine wc_seq ?_
    | refine wc_region ?_
    | refine wl_nil ?_
    | refine we_round ?_
    | refine we_then_wc ?_
    | (apply wi64; exact rfl; omega; omega; exact rfl; exact rfl)
    | (apply wfa; exact rfl; exact rfl; exact rfl; exact rfl)
    | (apply wct; exact rfl; omega; exact rfl; exact rfl)
    | (apply wcf; exact rfl; omega; exact rfl; exact rfl)
    | (apply wn; exact rfl; exact rfl)
    | (apply wlb (j := 0); exact rfl; exact rfl; exact rfl; exact rfl; exact rfl; exact rfl)
    | (apply wlb (j := 1); exact rfl; exact rfl; exact rfl; exact rfl; exact rfl; exact rfl)
    | (apply wlb (j := 2); exact rfl; exact rfl; exact rfl; exact rfl; exact rfl; exact rfl)
    | (apply wlb (j := 3); exact rfl; exact rfl; exact rfl; exact rfl; exact rfl; exact rfl)
    | (apply wln; exact rfl; exact rfl; exact rfl; exact rfl)
    | (apply wpu; exact rfl; exact rfl; exact rfl)
    | (apply wbx; exact rfl; exact rfl; exact rfl; intro _)
    | refine wc_block ?_
    | (apply wc_true; exact rfl)
    | (apply wc_false; exact rfl)
    | refine wc_skip ?_
    | refine wc_exit ?_
    | refine wc_ret ?_
    | refine we_then_exit ?_
    | refine we_then_ret ?_
    | refine we_in_normal ?_
    | refine we_in_ret ?_
    | refine we_in_here ?_
    | (apply we_in_there; exact rfl))
  -- the first sixteen words
  refine wc_loop (ι := Nat) (fun t => [(14, .int .i64 (t : Int)), (4, .pointer (some ⟨bw, 0, none⟩)), (0, .pointer (some ⟨s, 0, none⟩)), (1, .slice (some ⟨b, o, none⟩) blk.length c)])
    (fun t => [(bw, ((wordsOf blk).take t).map u32 ++ List.replicate (64 - t) (u32 0), 119), (s, st.v, 112)]) (fun t => t ≤ 16) (fun t => 16 - t) 0 (Nat.zero_le _) ⟨rfl, rfl, rfl, rfl, trivial⟩ (List.Sublist.refl _) ?_
  intro t ht
  repeat (first
    | (apply ws; exact rfl; exact rfl; exact rfl)
    | refine wc_seq ?_
    | refine wc_region ?_
    | refine wl_nil ?_
    | refine we_round ?_
    | refine we_then_wc ?_
    | (apply wi64; exact rfl; omega; omega; exact rfl; exact rfl)
    | (apply wfa; exact rfl; exact rfl; exact rfl; exact rfl)
    | (apply wct; exact rfl; omega; exact rfl; exact rfl)
    | (apply wcf; exact rfl; omega; exact rfl; exact rfl)
    | (apply wn; exact rfl; exact rfl)
    | (apply wlb (j := 0); exact rfl; exact rfl; exact rfl; exact rfl; exact rfl; exact rfl)
    | (apply wlb (j := 1); exact rfl; exact rfl; exact rfl; exact rfl; exact rfl; exact rfl)
    | (apply wlb (j := 2); exact rfl; exact rfl; exact rfl; exact rfl; exact rfl; exact rfl)
    | (apply wlb (j := 3); exact rfl; exact rfl; exact rfl; exact rfl; exact rfl; exact rfl)
    | (apply wln; exact rfl; exact rfl; exact rfl; exact rfl)
    | (apply wpu; exact rfl; exact rfl; exact rfl)
    | (apply wbx; exact rfl; exact rfl; exact rfl; intro _)
    | refine wc_block ?_
    | (apply wc_true; exact rfl)
    | (apply wc_false; exact rfl)
    | refine wc_skip ?_
    | refine wc_exit ?_
    | refine wc_ret ?_
    | refine we_then_exit ?_
    | refine we_then_ret ?_
    | refine we_in_normal ?_
    | refine we_in_ret ?_
    | refine we_in_here ?_
    | (apply we_in_there; exact rfl))
  refine wc_if rfl (fun hc1 => ?_) (fun hc1 => ?_)
  · have hlt : t < 16 := by have := of_decide_eq_true hc1; omega
    repeat (first
      | (apply ws; exact rfl; exact rfl; exact rfl)
      | refine wc_seq ?_
      | refine wc_region ?_
      | refine wl_nil ?_
      | refine we_round ?_
      | refine we_then_wc ?_
      | (apply wi64; exact rfl; omega; omega; exact rfl; exact rfl)
      | (apply wfa; exact rfl; exact rfl; exact rfl; exact rfl)
      | (apply wct; exact rfl; omega; exact rfl; exact rfl)
      | (apply wcf; exact rfl; omega; exact rfl; exact rfl)
      | (apply wn; exact rfl; exact rfl)
      | (apply wlb (j := 0); exact rfl; exact rfl; exact rfl; exact rfl; exact rfl; exact rfl)
      | (apply wlb (j := 1); exact rfl; exact rfl; exact rfl; exact rfl; exact rfl; exact rfl)
      | (apply wlb (j := 2); exact rfl; exact rfl; exact rfl; exact rfl; exact rfl; exact rfl)
      | (apply wlb (j := 3); exact rfl; exact rfl; exact rfl; exact rfl; exact rfl; exact rfl)
      | (apply wln; exact rfl; exact rfl; exact rfl; exact rfl)
      | (apply wpu; exact rfl; exact rfl; exact rfl)
      | (apply wbx; exact rfl; exact rfl; exact rfl; intro _)
      | refine wc_block ?_
      | (apply wc_true; exact rfl)
      | (apply wc_false; exact rfl)
      | refine wc_skip ?_
      | refine wc_exit ?_
      | refine wc_ret ?_
      | refine we_then_exit ?_
      | refine we_then_ret ?_
      | refine we_in_normal ?_
      | refine we_in_ret ?_
      | refine we_in_here ?_
      | (apply we_in_there; exact rfl))
    refine wl_still rfl rfl rfl (od_slice (4 * t) blk.length c rfl rfl rfl rfl rfl ⟨_, _, rfl, by omega⟩ (by omega) hc (Nat.le_refl _) (by simp)) ?_
    refine wl_quiet rfl rfl rfl (od_call Tryd.call87 rfl (fun w h => word_calls _ (blk.drop (4 * t)) (by simp; omega) w (rd_drop (4 * t) b o c hc (fun i x hx => h.cell_old (hcell i x hx) (by simpa using hbs)) (by omega)))) ?_
    refine wl_still rfl rfl rfl (od_indexAddrA1 t rfl rfl rfl rfl rfl (by omega)) ?_
    have hwl : t < (wordsOf blk).length := by simp [wordsOf]; omega
    have hwt : (wordsOf blk).take (t + 1) = (wordsOf blk).take t ++ [wordF 0 ((blk.drop (4 * t)).take 4)] := by
      rw [List.take_succ_eq_append_getElem hwl]
      simp [wordsOf]
    refine wst 0 rfl rfl rfl rfl rfl (by simp; omega) rfl ?_
    have hset := set_next (l := (wordsOf blk).take t) (m := 64 - t) (wordF 0 ((blk.drop (4 * t)).take 4)) (by omega) (0 + t) (by simp; omega)
    rw [← hwt] at hset
    rw [hset]
    repeat (first
      | (apply ws; exact rfl; exact rfl; exact rfl)
      | refine wc_seq ?_
      | refine wc_region ?_
      | refine wl_nil ?_
      | refine we_round ?_
      | refine we_then_wc ?_
      | (apply wi64; exact rfl; omega; omega; exact rfl; exact rfl)
      | (apply wfa; exact rfl; exact rfl; exact rfl; exact rfl)
      | (apply wct; exact rfl; omega; exact rfl; exact rfl)
      | (apply wcf; exact rfl; omega; exact rfl; exact rfl)
      | (apply wn; exact rfl; exact rfl)
      | (apply wlb (j := 0); exact rfl; exact rfl; exact rfl; exact rfl; exact rfl; exact rfl)
      | (apply wlb (j := 1); exact rfl; exact rfl; exact rfl; exact rfl; exact rfl; exact rfl)
      | (apply wlb (j := 2); exact rfl; exact rfl; exact rfl; exact rfl; exact rfl; exact rfl)
      | (apply wlb (j := 3); exact rfl; exact rfl; exact rfl; exact rfl; exact rfl; exact rfl)
      | (apply wln; exact rfl; exact rfl; exact rfl; exact rfl)
      | (apply wpu; exact rfl; exact rfl; exact rfl)
      | (apply wbx; exact rfl; exact rfl; exact rfl; intro _)
      | refine wc_block ?_
      | (apply wc_true; exact rfl)
      | (apply wc_false; exact rfl)
      | refine wc_skip ?_
      | refine wc_exit ?_
      | refine wc_ret ?_
      | refine we_then_exit ?_
      | refine we_then_ret ?_
      | refine we_in_normal ?_
      | refine we_in_ret ?_
      | refine we_in_here ?_
      | (apply we_in_there; exact rfl))
    exact we_again (t + 1) (by omega) (by omega) ⟨rfl, rfl, rfl, rfl, trivial⟩ (List.Sublist.refl _)
  have ht16 : t = 16 := by have := of_decide_eq_false hc1; omega
  subst ht16
  have hw16 : (wordsOf blk).take 16 = wordsOf blk := List.take_of_length_le (by simp [wordsOf])
  rw [hw16]
  have hwlen : (wordsOf blk).length = 16 := by simp [wordsOf]
  repeat (first
    | (apply ws; exact rfl; exact rfl; exact rfl)
    | refine wc_seq ?_
    | refine wc_region ?_
    | refine wl_nil ?_
    | refine we_round ?_
    | refine we_then_wc ?_
    | (apply wi64; exact rfl; omega; omega; exact rfl; exact rfl)
    | (apply wfa; exact rfl; exact rfl; exact rfl; exact rfl)
    | (apply wct; exact rfl; omega; exact rfl; exact rfl)
    | (apply wcf; exact rfl; omega; exact rfl; exact rfl)
    | (apply wn; exact rfl; exact rfl)
    | (apply wlb (j := 0); exact rfl; exact rfl; exact rfl; exact rfl; exact rfl; exact rfl)
    | (apply wlb (j := 1); exact rfl; exact rfl; exact rfl; exact rfl; exact rfl; exact rfl)
    | (apply wlb (j := 2); exact rfl; exact rfl; exact rfl; exact rfl; exact rfl; exact rfl)
    | (apply wlb (j := 3); exact rfl; exact rfl; exact rfl; exact rfl; exact rfl; exact rfl)
    | (apply wln; exact rfl; exact rfl; exact rfl; exact rfl)
    | (apply wpu; exact rfl; exact rfl; exact rfl)
    | (apply wbx; exact rfl; exact rfl; exact rfl; intro _)
    | refine wc_block ?_
    | (apply wc_true; exact rfl)
    | (apply wc_false; exact rfl)
    | refine wc_skip ?_
    | refine wc_exit ?_
    | refine wc_ret ?_
    | refine we_then_exit ?_
    | refine we_then_ret ?_
    | refine we_in_normal ?_
    | refine we_in_ret ?_
    | refine we_in_here ?_
    | (apply we_in_there; exact rfl))
  -- the other words
  refine wc_loop (ι := Nat) (fun k => [(6, .int .i64 ((16 + k : Nat) : Int)), (4, .pointer (some ⟨bw, 0, none⟩)), (0, .pointer (some ⟨s, 0, none⟩))])
    (fun k => [(bw, (sched (wordsOf blk) k).map u32 ++ List.replicate (48 - k) (u32 0), 119), (s, st.v, 112)]) (fun k => k ≤ 48) (fun k => 48 - k) 0 (Nat.zero_le _) ⟨rfl, rfl, rfl, trivial⟩ (List.Sublist.refl _) ?_
  intro k hk
  have hsl := sched_length (wordsOf blk) hwlen k
  repeat (first
    | (apply ws; exact rfl; exact rfl; exact rfl)
    | refine wc_seq ?_
    | refine wc_region ?_
    | refine wl_nil ?_
    | refine we_round ?_
    | refine we_then_wc ?_
    | (apply wi64; exact rfl; omega; omega; exact rfl; exact rfl)
    | (apply wfa; exact rfl; exact rfl; exact rfl; exact rfl)
    | (apply wct; exact rfl; omega; exact rfl; exact rfl)
    | (apply wcf; exact rfl; omega; exact rfl; exact rfl)
    | (apply wn; exact rfl; exact rfl)
    | (apply wlb (j := 0); exact rfl; exact rfl; exact rfl; exact rfl; exact rfl; exact rfl)
    | (apply wlb (j := 1); exact rfl; exact rfl; exact rfl; exact rfl; exact rfl; exact rfl)
    | (apply wlb (j := 2); exact rfl; exact rfl; exact rfl; exact rfl; exact rfl; exact rfl)
    | (apply wlb (j := 3); exact rfl; exact rfl; exact rfl; exact rfl; exact rfl; exact rfl)
    | (apply wln; exact rfl; exact rfl; exact rfl; exact rfl)
    | (apply wpu; exact rfl; exact rfl; exact rfl)
    | (apply wbx; exact rfl; exact rfl; exact rfl; intro _)
    | refine wc_block ?_
    | (apply wc_true; exact rfl)
    | (apply wc_false; exact rfl)
    | refine wc_skip ?_
    | refine wc_exit ?_
    | refine wc_ret ?_
    | refine we_then_exit ?_
    | refine we_then_ret ?_
    | refine we_in_normal ?_
    | refine we_in_ret ?_
    | refine we_in_here ?_
    | (apply we_in_there; exact rfl))
  refine wc_if rfl (fun hc2 => ?_) (fun hc2 => ?_)
  · have hlt : k < 48 := by have := of_decide_eq_true hc2; omega
    repeat (first
      | (apply ws; exact rfl; exact rfl; exact rfl)
      | refine wc_seq ?_
      | refine wc_region ?_
      | refine wl_nil ?_
      | refine we_round ?_
      | refine we_then_wc ?_
      | (apply wi64; exact rfl; omega; omega; exact rfl; exact rfl)
      | (apply wfa; exact rfl; exact rfl; exact rfl; exact rfl)
      | (apply wct; exact rfl; omega; exact rfl; exact rfl)
      | (apply wcf; exact rfl; omega; exact rfl; exact rfl)
      | (apply wn; exact rfl; exact rfl)
      | (apply wlb (j := 0); exact rfl; exact rfl; exact rfl; exact rfl; exact rfl; exact rfl)
      | (apply wlb (j := 1); exact rfl; exact rfl; exact rfl; exact rfl; exact rfl; exact rfl)
      | (apply wlb (j := 2); exact rfl; exact rfl; exact rfl; exact rfl; exact rfl; exact rfl)
      | (apply wlb (j := 3); exact rfl; exact rfl; exact rfl; exact rfl; exact rfl; exact rfl)
      | (apply wln; exact rfl; exact rfl; exact rfl; exact rfl)
      | (apply wpu; exact rfl; exact rfl; exact rfl)
      | (apply wbx; exact rfl; exact rfl; exact rfl; intro _)
      | refine wc_block ?_
      | (apply wc_true; exact rfl)
      | (apply wc_false; exact rfl)
      | refine wc_skip ?_
      | refine wc_exit ?_
      | refine wc_ret ?_
      | refine we_then_exit ?_
      | refine we_then_ret ?_
      | refine we_in_normal ?_
      | refine we_in_ret ?_
      | refine we_in_here ?_
      | (apply we_in_there; exact rfl))
    have hC := List.Sublist.cons_cons (bw, (sched (wordsOf blk) k).map u32 ++ List.replicate (48 - k) (u32 0), 119) (List.nil_sublist [(s, st.v, 112)])
    have hx := getD_map0 (l := sched (wordsOf blk) k) (i := 16 + k - 15) (by omega) (List.replicate (48 - k) (u32 0))
    have hy := getD_map0 (l := sched (wordsOf blk) k) (i := 16 + k - 2) (by omega) (List.replicate (48 - k) (u32 0))
    have hz := getD_map0 (l := sched (wordsOf blk) k) (i := 16 + k - 16) (by omega) (List.replicate (48 - k) (u32 0))
    have hu := getD_map0 (l := sched (wordsOf blk) k) (i := 16 + k - 7) (by omega) (List.replicate (48 - k) (u32 0))
    refine wc_plan [(bw, (sched (wordsOf blk) k).map u32 ++ List.replicate (48 - k) (u32 0), 119)] none [(0, true), (1, true), (2, true), (3, true), (4, true), (5, true), (6, true), (7, true), (8, true), (9, true)] (by kernel_rfl) hC ?_
    repeat (first
      | (apply ps; exact rfl; exact rfl; exact rfl; exact rfl)
      | (apply pia (k := 16 + k - 15); exact rfl; exact rfl; exact rfl; exact rfl; exact rfl; (first | exact rfl | omega); omega; exact rfl; exact rfl)
      | (apply pia (k := 16 + k - 2); exact rfl; exact rfl; exact rfl; exact rfl; exact rfl; (first | exact rfl | omega); omega; exact rfl; exact rfl)
      | (apply plb (j := 0); exact rfl; exact rfl; exact rfl; exact rfl; exact hx; exact rfl; exact rfl)
      | (apply plb (j := 0); exact rfl; exact rfl; exact rfl; exact rfl; exact hy; exact rfl; exact rfl)
      | (apply pfa; exact rfl; exact rfl; exact rfl; exact rfl; exact rfl)
      | (apply pi64; exact rfl; exact rfl; omega; omega; exact rfl; exact rfl)
      | (apply pct; exact rfl; exact rfl; omega; exact rfl; exact rfl)
      | (apply pcf; exact rfl; exact rfl; omega; exact rfl; exact rfl)
      | (apply wp_not; exact rfl; exact rfl; exact rfl)
      | (apply plb (j := 0); exact rfl; exact rfl; exact rfl; exact rfl; exact rfl; exact rfl; exact rfl)
      | (apply plb (j := 1); exact rfl; exact rfl; exact rfl; exact rfl; exact rfl; exact rfl; exact rfl)
      | (apply plb (j := 2); exact rfl; exact rfl; exact rfl; exact rfl; exact rfl; exact rfl; exact rfl)
      | (apply pln; exact rfl; exact rfl; exact rfl; exact rfl; exact rfl)
      | (apply ppu; exact rfl; exact rfl; exact rfl; exact rfl)
      | (apply pfs; exact rfl; exact rfl; exact rfl; exact rfl)
      | apply wp_nil)
    repeat (first
      | (apply ws; exact rfl; exact rfl; exact rfl)
      | refine wc_seq ?_
      | refine wc_region ?_
      | refine wl_nil ?_
      | refine we_round ?_
      | refine we_then_wc ?_
      | (apply wi64; exact rfl; omega; omega; exact rfl; exact rfl)
      | (apply wfa; exact rfl; exact rfl; exact rfl; exact rfl)
      | (apply wct; exact rfl; omega; exact rfl; exact rfl)
      | (apply wcf; exact rfl; omega; exact rfl; exact rfl)
      | (apply wn; exact rfl; exact rfl)
      | (apply wlb (j := 0); exact rfl; exact rfl; exact rfl; exact rfl; exact rfl; exact rfl)
      | (apply wlb (j := 1); exact rfl; exact rfl; exact rfl; exact rfl; exact rfl; exact rfl)
      | (apply wlb (j := 2); exact rfl; exact rfl; exact rfl; exact rfl; exact rfl; exact rfl)
      | (apply wlb (j := 3); exact rfl; exact rfl; exact rfl; exact rfl; exact rfl; exact rfl)
      | (apply wln; exact rfl; exact rfl; exact rfl; exact rfl)
      | (apply wpu; exact rfl; exact rfl; exact rfl)
      | (apply wbx; exact rfl; exact rfl; exact rfl; intro _)
      | refine wc_block ?_
      | (apply wc_true; exact rfl)
      | (apply wc_false; exact rfl)
      | refine wc_skip ?_
      | refine wc_exit ?_
      | refine wc_ret ?_
      | refine we_then_exit ?_
      | refine we_then_ret ?_
      | refine we_in_normal ?_
      | refine we_in_ret ?_
      | refine we_in_here ?_
      | (apply we_in_there; exact rfl))
    refine wc_plan [(bw, (sched (wordsOf blk) k).map u32 ++ List.replicate (48 - k) (u32 0), 119)] (some 29) [(0, true), (1, true), (2, true), (3, true), (4, true), (5, true), (6, true), (7, true), (8, true), (9, true), (10, true), (11, true), (12, true), (13, true), (14, true), (15, true), (16, true), (17, true), (18, true), (19, true), (20, true), (21, true), (22, true), (23, true), (24, true), (25, true), (26, true), (27, true), (28, true), (29, false)] (by kernel_rfl) hC ?_
    repeat (first
      | (apply ps; exact rfl; exact rfl; exact rfl; exact rfl)
      | (apply pia (k := 16 + k - 16); exact rfl; exact rfl; exact rfl; exact rfl; exact rfl; (first | exact rfl | omega); omega; exact rfl; exact rfl)
      | (apply pia (k := 16 + k - 7); exact rfl; exact rfl; exact rfl; exact rfl; exact rfl; (first | exact rfl | omega); omega; exact rfl; exact rfl)
      | (apply pia (k := 16 + k); exact rfl; exact rfl; exact rfl; exact rfl; exact rfl; (first | exact rfl | omega); omega; exact rfl; exact rfl)
      | (apply plb (j := 0); exact rfl; exact rfl; exact rfl; exact rfl; exact hz; exact rfl; exact rfl)
      | (apply plb (j := 0); exact rfl; exact rfl; exact rfl; exact rfl; exact hu; exact rfl; exact rfl)
      | (apply pq Tryd.call88; exact rfl; exact rfl; exact rfl; exact rfl; exact (fun w _ => rot_calls _ (-7) 25 (by omega) (by omega) w))
      | (apply pq Tryd.call88; exact rfl; exact rfl; exact rfl; exact rfl; exact (fun w _ => rot_calls _ (-18) 14 (by omega) (by omega) w))
      | (apply pq Tryd.call88; exact rfl; exact rfl; exact rfl; exact rfl; exact (fun w _ => rot_calls _ (-17) 15 (by omega) (by omega) w))
      | (apply pq Tryd.call88; exact rfl; exact rfl; exact rfl; exact rfl; exact (fun w _ => rot_calls _ (-19) 13 (by omega) (by omega) w))
      | (apply p32xor; exact rfl; exact rfl; exact rfl; exact rfl; exact rfl)
      | (apply p32add; exact rfl; exact rfl; exact rfl; exact rfl; exact rfl)
      | (apply wp_still; exact rfl; exact rfl; exact rfl; exact (od_shr32 3 rfl rfl (by omega)))
      | (apply wp_still; exact rfl; exact rfl; exact rfl; exact (od_shr32 10 rfl rfl (by omega)))
      | (apply pfa; exact rfl; exact rfl; exact rfl; exact rfl; exact rfl)
      | (apply pi64; exact rfl; exact rfl; omega; omega; exact rfl; exact rfl)
      | (apply pct; exact rfl; exact rfl; omega; exact rfl; exact rfl)
      | (apply pcf; exact rfl; exact rfl; omega; exact rfl; exact rfl)
      | (apply wp_not; exact rfl; exact rfl; exact rfl)
      | (apply plb (j := 0); exact rfl; exact rfl; exact rfl; exact rfl; exact rfl; exact rfl; exact rfl)
      | (apply plb (j := 1); exact rfl; exact rfl; exact rfl; exact rfl; exact rfl; exact rfl; exact rfl)
      | (apply plb (j := 2); exact rfl; exact rfl; exact rfl; exact rfl; exact rfl; exact rfl; exact rfl)
      | (apply pln; exact rfl; exact rfl; exact rfl; exact rfl; exact rfl)
      | (apply ppu; exact rfl; exact rfl; exact rfl; exact rfl)
      | (apply pfs; exact rfl; exact rfl; exact rfl; exact rfl)
      | apply wp_nil)
    refine wp_store 0 rfl rfl rfl (od_store (d := none) 0 rfl rfl rfl rfl rfl (by simp [hsl]; omega)) ?_
    have hset := set_next (l := sched (wordsOf blk) k) (m := 48 - k) (nxt (sched (wordsOf blk) k) (16 + k)) (by omega) (0 + (16 + k)) (by omega)
    have hblk : (sched (wordsOf blk) k ++ [nxt (sched (wordsOf blk) k) (16 + k)]).map u32 ++ List.replicate (48 - k - 1) (u32 0) = (sched (wordsOf blk) (k + 1)).map u32 ++ List.replicate (48 - (k + 1)) (u32 0) := by
      rw [show 48 - k - 1 = 48 - (k + 1) by omega]; rfl
    rw [hblk] at hset
    refine we_weaken (env' := [(6, .int .i64 ((16 + k : Nat) : Int)), (4, .pointer (some ⟨bw, 0, none⟩)), (0, .pointer (some ⟨s, 0, none⟩))]) (bs' := [(bw, (sched (wordsOf blk) (k + 1)).map u32 ++ List.replicate (48 - (k + 1)) (u32 0), 119), (s, st.v, 112)]) ?_ ⟨rfl, rfl, rfl, trivial⟩ (by rw [← hset]; exact List.Sublist.refl _)
    repeat (first
      | (apply ws; exact rfl; exact rfl; exact rfl)
      | refine wc_seq ?_
      | refine wc_region ?_
      | refine wl_nil ?_
      | refine we_round ?_
      | refine we_then_wc ?_
      | (apply wi64; exact rfl; omega; omega; exact rfl; exact rfl)
      | (apply wfa; exact rfl; exact rfl; exact rfl; exact rfl)
      | (apply wct; exact rfl; omega; exact rfl; exact rfl)
      | (apply wcf; exact rfl; omega; exact rfl; exact rfl)
      | (apply wn; exact rfl; exact rfl)
      | (apply wlb (j := 0); exact rfl; exact rfl; exact rfl; exact rfl; exact rfl; exact rfl)
      | (apply wlb (j := 1); exact rfl; exact rfl; exact rfl; exact rfl; exact rfl; exact rfl)
      | (apply wlb (j := 2); exact rfl; exact rfl; exact rfl; exact rfl; exact rfl; exact rfl)
      | (apply wlb (j := 3); exact rfl; exact rfl; exact rfl; exact rfl; exact rfl; exact rfl)
      | (apply wln; exact rfl; exact rfl; exact rfl; exact rfl)
      | (apply wpu; exact rfl; exact rfl; exact rfl)
      | (apply wbx; exact rfl; exact rfl; exact rfl; intro _)
      | refine wc_block ?_
      | (apply wc_true; exact rfl)
      | (apply wc_false; exact rfl)
      | refine wc_skip ?_
      | refine wc_exit ?_
      | refine wc_ret ?_
      | refine we_then_exit ?_
      | refine we_then_ret ?_
      | refine we_in_normal ?_
      | refine we_in_ret ?_
      | refine we_in_here ?_
      | (apply we_in_there; exact rfl))
    exact we_again (k + 1) (by omega) (by omega) ⟨by simp [get]; omega, rfl, rfl, trivial⟩ (List.Sublist.refl _)
  have hk48 : k = 48 := by have := of_decide_eq_false hc2; omega
  subst hk48
  generalize hWW : sched (wordsOf blk) 48 = W at *
  have hWl : W.length = 64 := hsl
  refine wc_weaken (env' := [(6, .int .i64 ((16 + 48 : Nat) : Int)), (4, .pointer (some ⟨bw, 0, none⟩)), (0, .pointer (some ⟨s, 0, none⟩))]) (bs' := [(bw, W.map u32, 119), (s, st.v, 112)]) ?_ ⟨rfl, rfl, rfl, trivial⟩ (by simp)
  repeat (first
    | (apply ws; exact rfl; exact rfl; exact rfl)
    | (apply wlab (j := 1); exact rfl; exact rfl; exact rfl; exact rfl; exact rfl; exact rfl; exact rfl)
    | (apply wal zero112 rfl; exact rfl; exact rfl; intro bv)
    | (apply wsw (j := 0); exact rfl; exact rfl; exact rfl; exact rfl; exact rfl; exact plainS _; exact rfl; exact rfl)
    | refine wc_seq ?_
    | refine wc_region ?_
    | refine wl_nil ?_
    | refine we_round ?_
    | refine we_then_wc ?_
    | (apply wi64; exact rfl; omega; omega; exact rfl; exact rfl)
    | (apply wfa; exact rfl; exact rfl; exact rfl; exact rfl)
    | (apply wct; exact rfl; omega; exact rfl; exact rfl)
    | (apply wcf; exact rfl; omega; exact rfl; exact rfl)
    | (apply wn; exact rfl; exact rfl)
    | (apply wlb (j := 0); exact rfl; exact rfl; exact rfl; exact rfl; exact rfl; exact rfl)
    | (apply wlb (j := 1); exact rfl; exact rfl; exact rfl; exact rfl; exact rfl; exact rfl)
    | (apply wlb (j := 2); exact rfl; exact rfl; exact rfl; exact rfl; exact rfl; exact rfl)
    | (apply wlb (j := 3); exact rfl; exact rfl; exact rfl; exact rfl; exact rfl; exact rfl)
    | (apply wln; exact rfl; exact rfl; exact rfl; exact rfl)
    | (apply wpu; exact rfl; exact rfl; exact rfl)
    | (apply wbx; exact rfl; exact rfl; exact rfl; intro _)
    | refine wc_block ?_
    | (apply wc_true; exact rfl)
    | (apply wc_false; exact rfl)
    | refine wc_skip ?_
    | refine wc_exit ?_
    | refine wc_ret ?_
    | refine we_then_exit ?_
    | refine we_then_ret ?_
    | refine we_in_normal ?_
    | refine we_in_ret ?_
    | refine we_in_here ?_
    | (apply we_in_there; exact rfl))
  -- the sixty-four rounds
  refine wc_loop (ι := Nat) (fun t => [(69, .int .i64 (t : Int)), (9, .pointer (some ⟨bv, 0, none⟩)), (4, .pointer (some ⟨bw, 0, none⟩)), (0, .pointer (some ⟨s, 0, none⟩))])
    (fun t => [(bv, (runP st W t).v, 112), (bw, W.map u32, 119), (s, st.v, 112)]) (fun t => t ≤ 64) (fun t => 64 - t) 0 (Nat.zero_le _) ⟨rfl, rfl, rfl, rfl, trivial⟩ (List.Sublist.refl _) ?_
  intro t ht
  repeat (first
    | (apply ws; exact rfl; exact rfl; exact rfl)
    | refine wc_seq ?_
    | refine wc_region ?_
    | refine wl_nil ?_
    | refine we_round ?_
    | refine we_then_wc ?_
    | (apply wi64; exact rfl; omega; omega; exact rfl; exact rfl)
    | (apply wfa; exact rfl; exact rfl; exact rfl; exact rfl)
    | (apply wct; exact rfl; omega; exact rfl; exact rfl)
    | (apply wcf; exact rfl; omega; exact rfl; exact rfl)
    | (apply wn; exact rfl; exact rfl)
    | (apply wlb (j := 0); exact rfl; exact rfl; exact rfl; exact rfl; exact rfl; exact rfl)
    | (apply wlb (j := 1); exact rfl; exact rfl; exact rfl; exact rfl; exact rfl; exact rfl)
    | (apply wlb (j := 2); exact rfl; exact rfl; exact rfl; exact rfl; exact rfl; exact rfl)
    | (apply wlb (j := 3); exact rfl; exact rfl; exact rfl; exact rfl; exact rfl; exact rfl)
    | (apply wln; exact rfl; exact rfl; exact rfl; exact rfl)
    | (apply wpu; exact rfl; exact rfl; exact rfl)
    | (apply wbx; exact rfl; exact rfl; exact rfl; intro _)
    | refine wc_block ?_
    | (apply wc_true; exact rfl)
    | (apply wc_false; exact rfl)
    | refine wc_skip ?_
    | refine wc_exit ?_
    | refine wc_ret ?_
    | refine we_then_exit ?_
    | refine we_then_ret ?_
    | refine we_in_normal ?_
    | refine we_in_ret ?_
    | refine we_in_here ?_
    | (apply we_in_there; exact rfl))
  refine wc_if rfl (fun hc3 => ?_) (fun hc3 => ?_)
  · have hlt : t < 64 := by have := of_decide_eq_true hc3; omega
    have hk1 : w.cell? ⟨1, 0 + t, none⟩ = some (u32 (wd kW t)) := by
      rw [Nat.zero_add]
      refine hL.2 t _ ?_
      have h64 : t < kW.length := hlt
      simp [wd, List.getD, h64]
    have hns : 1 ∉ [s] := by simp; omega
    have hwt := getD_map1 (l := W) (i := t) (by omega)
    generalize hS : runP st W t = S
    have hC2 : List.Sublist [(bv, S.v, 112), (bw, W.map u32, 119)] [(bv, S.v, 112), (bw, W.map u32, 119), (s, st.v, 112)] := by simp
    repeat (first
      | (apply ws; exact rfl; exact rfl; exact rfl)
      | refine wc_seq ?_
      | refine wc_region ?_
      | refine wl_nil ?_
      | refine we_round ?_
      | refine we_then_wc ?_
      | (apply wi64; exact rfl; omega; omega; exact rfl; exact rfl)
      | (apply wfa; exact rfl; exact rfl; exact rfl; exact rfl)
      | (apply wct; exact rfl; omega; exact rfl; exact rfl)
      | (apply wcf; exact rfl; omega; exact rfl; exact rfl)
      | (apply wn; exact rfl; exact rfl)
      | (apply wlb (j := 0); exact rfl; exact rfl; exact rfl; exact rfl; exact rfl; exact rfl)
      | (apply wlb (j := 1); exact rfl; exact rfl; exact rfl; exact rfl; exact rfl; exact rfl)
      | (apply wlb (j := 2); exact rfl; exact rfl; exact rfl; exact rfl; exact rfl; exact rfl)
      | (apply wlb (j := 3); exact rfl; exact rfl; exact rfl; exact rfl; exact rfl; exact rfl)
      | (apply wln; exact rfl; exact rfl; exact rfl; exact rfl)
      | (apply wpu; exact rfl; exact rfl; exact rfl)
      | (apply wbx; exact rfl; exact rfl; exact rfl; intro _)
      | refine wc_block ?_
      | (apply wc_true; exact rfl)
      | (apply wc_false; exact rfl)
      | refine wc_skip ?_
      | refine wc_exit ?_
      | refine wc_ret ?_
      | refine we_then_exit ?_
      | refine we_then_ret ?_
      | refine we_in_normal ?_
      | refine we_in_ret ?_
      | refine we_in_here ?_
      | (apply we_in_there; exact rfl))
    refine wc_plan [(bv, S.v, 112), (bw, W.map u32, 119)] none [(0, true), (1, true), (2, true), (3, true), (4, true), (5, true), (6, true), (7, true), (8, true), (9, true), (10, true), (11, true), (12, true), (13, true), (14, true), (15, true), (16, true), (17, true), (18, true), (19, true), (20, true), (21, true), (22, true), (23, true), (24, true), (25, true), (26, true)] (by kernel_rfl) hC2 ?_
    repeat (first
      | (apply ps; exact rfl; exact rfl; exact rfl; exact rfl)
      | (apply pia (k := 7); exact rfl; exact rfl; exact rfl; exact rfl; exact rfl; (first | exact rfl | omega); omega; exact rfl; exact rfl)
      | (apply pia (k := 4); exact rfl; exact rfl; exact rfl; exact rfl; exact rfl; (first | exact rfl | omega); omega; exact rfl; exact rfl)
      | (apply pia (k := 5); exact rfl; exact rfl; exact rfl; exact rfl; exact rfl; (first | exact rfl | omega); omega; exact rfl; exact rfl)
      | (apply pia (k := 6); exact rfl; exact rfl; exact rfl; exact rfl; exact rfl; (first | exact rfl | omega); omega; exact rfl; exact rfl)
      | (apply pia (k := t); exact rfl; exact rfl; exact rfl; exact rfl; exact rfl; (first | exact rfl | omega); omega; exact rfl; exact rfl)
      | (apply plb (j := 1); exact rfl; exact rfl; exact rfl; exact rfl; exact hwt; exact rfl; exact rfl)
      | (apply plo; exact rfl; exact rfl; exact rfl; exact hk1; exact hns; exact rfl; exact rfl)
      | (apply pq Tryd.call89; exact rfl; exact rfl; exact rfl; exact rfl; exact (fun w _ => rotated_calls _ 6 11 25 26 21 7 (by omega) (by omega) (by omega) (by omega) (by omega) (by omega) w))
      | (apply p32xor; exact rfl; exact rfl; exact rfl; exact rfl; exact rfl)
      | (apply p32add; exact rfl; exact rfl; exact rfl; exact rfl; exact rfl)
      | (apply p32and; exact rfl; exact rfl; exact rfl; exact rfl; exact rfl)
      | (apply pfa; exact rfl; exact rfl; exact rfl; exact rfl; exact rfl)
      | (apply pi64; exact rfl; exact rfl; omega; omega; exact rfl; exact rfl)
      | (apply pct; exact rfl; exact rfl; omega; exact rfl; exact rfl)
      | (apply pcf; exact rfl; exact rfl; omega; exact rfl; exact rfl)
      | (apply wp_not; exact rfl; exact rfl; exact rfl)
      | (apply plb (j := 0); exact rfl; exact rfl; exact rfl; exact rfl; exact rfl; exact rfl; exact rfl)
      | (apply plb (j := 1); exact rfl; exact rfl; exact rfl; exact rfl; exact rfl; exact rfl; exact rfl)
      | (apply plb (j := 2); exact rfl; exact rfl; exact rfl; exact rfl; exact rfl; exact rfl; exact rfl)
      | (apply pln; exact rfl; exact rfl; exact rfl; exact rfl; exact rfl)
      | (apply ppu; exact rfl; exact rfl; exact rfl; exact rfl)
      | (apply pfs; exact rfl; exact rfl; exact rfl; exact rfl)
      | apply wp_nil)
    repeat (first
      | (apply ws; exact rfl; exact rfl; exact rfl)
      | refine wc_seq ?_
      | refine wc_region ?_
      | refine wl_nil ?_
      | refine we_round ?_
      | refine we_then_wc ?_
      | (apply wi64; exact rfl; omega; omega; exact rfl; exact rfl)
      | (apply wfa; exact rfl; exact rfl; exact rfl; exact rfl)
      | (apply wct; exact rfl; omega; exact rfl; exact rfl)
      | (apply wcf; exact rfl; omega; exact rfl; exact rfl)
      | (apply wn; exact rfl; exact rfl)
      | (apply wlb (j := 0); exact rfl; exact rfl; exact rfl; exact rfl; exact rfl; exact rfl)
      | (apply wlb (j := 1); exact rfl; exact rfl; exact rfl; exact rfl; exact rfl; exact rfl)
      | (apply wlb (j := 2); exact rfl; exact rfl; exact rfl; exact rfl; exact rfl; exact rfl)
      | (apply wlb (j := 3); exact rfl; exact rfl; exact rfl; exact rfl; exact rfl; exact rfl)
      | (apply wln; exact rfl; exact rfl; exact rfl; exact rfl)
      | (apply wpu; exact rfl; exact rfl; exact rfl)
      | (apply wbx; exact rfl; exact rfl; exact rfl; intro _)
      | refine wc_block ?_
      | (apply wc_true; exact rfl)
      | (apply wc_false; exact rfl)
      | refine wc_skip ?_
      | refine wc_exit ?_
      | refine wc_ret ?_
      | refine we_then_exit ?_
      | refine we_then_ret ?_
      | refine we_in_normal ?_
      | refine we_in_ret ?_
      | refine we_in_here ?_
      | (apply we_in_there; exact rfl))
    refine wc_plan [(bv, S.v, 112), (bw, W.map u32, 119)] none [(0, true), (1, true), (2, true), (3, true), (4, true), (5, true), (6, true), (7, true), (8, true), (9, true), (10, true), (11, true), (12, true), (13, true), (14, true), (15, true), (16, true), (17, true), (18, true)] (by kernel_rfl) hC2 ?_
    repeat (first
      | (apply ps; exact rfl; exact rfl; exact rfl; exact rfl)
      | (apply pia (k := 0); exact rfl; exact rfl; exact rfl; exact rfl; exact rfl; (first | exact rfl | omega); omega; exact rfl; exact rfl)
      | (apply pia (k := 1); exact rfl; exact rfl; exact rfl; exact rfl; exact rfl; (first | exact rfl | omega); omega; exact rfl; exact rfl)
      | (apply pia (k := 2); exact rfl; exact rfl; exact rfl; exact rfl; exact rfl; (first | exact rfl | omega); omega; exact rfl; exact rfl)
      | (apply pq Tryd.call89; exact rfl; exact rfl; exact rfl; exact rfl; exact (fun w _ => rotated_calls _ 2 13 22 30 19 10 (by omega) (by omega) (by omega) (by omega) (by omega) (by omega) w))
      | (apply p32or; exact rfl; exact rfl; exact rfl; exact rfl; exact rfl)
      | (apply p32add; exact rfl; exact rfl; exact rfl; exact rfl; exact rfl)
      | (apply p32and; exact rfl; exact rfl; exact rfl; exact rfl; exact rfl)
      | (apply pfa; exact rfl; exact rfl; exact rfl; exact rfl; exact rfl)
      | (apply pi64; exact rfl; exact rfl; omega; omega; exact rfl; exact rfl)
      | (apply pct; exact rfl; exact rfl; omega; exact rfl; exact rfl)
      | (apply pcf; exact rfl; exact rfl; omega; exact rfl; exact rfl)
      | (apply wp_not; exact rfl; exact rfl; exact rfl)
      | (apply plb (j := 0); exact rfl; exact rfl; exact rfl; exact rfl; exact rfl; exact rfl; exact rfl)
      | (apply plb (j := 1); exact rfl; exact rfl; exact rfl; exact rfl; exact rfl; exact rfl; exact rfl)
      | (apply plb (j := 2); exact rfl; exact rfl; exact rfl; exact rfl; exact rfl; exact rfl; exact rfl)
      | (apply pln; exact rfl; exact rfl; exact rfl; exact rfl; exact rfl)
      | (apply ppu; exact rfl; exact rfl; exact rfl; exact rfl)
      | (apply pfs; exact rfl; exact rfl; exact rfl; exact rfl)
      | apply wp_nil)
    repeat (first
      | (apply ws; exact rfl; exact rfl; exact rfl)
      | refine wc_seq ?_
      | refine wc_region ?_
      | refine wl_nil ?_
      | refine we_round ?_
      | refine we_then_wc ?_
      | (apply wi64; exact rfl; omega; omega; exact rfl; exact rfl)
      | (apply wfa; exact rfl; exact rfl; exact rfl; exact rfl)
      | (apply wct; exact rfl; omega; exact rfl; exact rfl)
      | (apply wcf; exact rfl; omega; exact rfl; exact rfl)
      | (apply wn; exact rfl; exact rfl)
      | (apply wlb (j := 0); exact rfl; exact rfl; exact rfl; exact rfl; exact rfl; exact rfl)
      | (apply wlb (j := 1); exact rfl; exact rfl; exact rfl; exact rfl; exact rfl; exact rfl)
      | (apply wlb (j := 2); exact rfl; exact rfl; exact rfl; exact rfl; exact rfl; exact rfl)
      | (apply wlb (j := 3); exact rfl; exact rfl; exact rfl; exact rfl; exact rfl; exact rfl)
      | (apply wln; exact rfl; exact rfl; exact rfl; exact rfl)
      | (apply wpu; exact rfl; exact rfl; exact rfl)
      | (apply wbx; exact rfl; exact rfl; exact rfl; intro _)
      | refine wc_block ?_
      | (apply wc_true; exact rfl)
      | (apply wc_false; exact rfl)
      | refine wc_skip ?_
      | refine wc_exit ?_
      | refine wc_ret ?_
      | refine we_then_exit ?_
      | refine we_then_ret ?_
      | refine we_in_normal ?_
      | refine we_in_ret ?_
      | refine we_in_here ?_
      | (apply we_in_there; exact rfl))
    refine wc_plan [] (some 2) [(0, true), (1, true), (2, false)] (by kernel_rfl) (List.nil_sublist _) ?_
    repeat (first
      | (apply ps; exact rfl; exact rfl; exact rfl; exact rfl)
      | (apply wp_still; exact rfl; exact rfl; exact rfl; exact (od_sliceA 1 8 8 rfl rfl rfl rfl rfl ⟨_, _, rfl, rfl⟩ (by omega) (by omega) (by omega) (by simp)))
      | (apply wp_still; exact rfl; exact rfl; exact rfl; exact (od_sliceA 0 7 8 rfl rfl rfl rfl ⟨_, _, rfl, rfl⟩ rfl (by omega) (by omega) (by omega) (by simp)))
      | (apply pfa; exact rfl; exact rfl; exact rfl; exact rfl; exact rfl)
      | (apply pi64; exact rfl; exact rfl; omega; omega; exact rfl; exact rfl)
      | (apply pct; exact rfl; exact rfl; omega; exact rfl; exact rfl)
      | (apply pcf; exact rfl; exact rfl; omega; exact rfl; exact rfl)
      | (apply wp_not; exact rfl; exact rfl; exact rfl)
      | (apply plb (j := 0); exact rfl; exact rfl; exact rfl; exact rfl; exact rfl; exact rfl; exact rfl)
      | (apply plb (j := 1); exact rfl; exact rfl; exact rfl; exact rfl; exact rfl; exact rfl; exact rfl)
      | (apply plb (j := 2); exact rfl; exact rfl; exact rfl; exact rfl; exact rfl; exact rfl; exact rfl)
      | (apply pln; exact rfl; exact rfl; exact rfl; exact rfl; exact rfl)
      | (apply ppu; exact rfl; exact rfl; exact rfl; exact rfl)
      | (apply pfs; exact rfl; exact rfl; exact rfl; exact rfl)
      | apply wp_nil)
    refine wp_storeV 0 rfl rfl rfl rfl (od_copy (m := 7) (m' := 7) (n := 7) (o := 1) (b := bv) (sv := .slice (some ⟨bv, 0, none⟩) 7 8) (news := [u32 S.a, u32 S.b, u32 S.c, u32 S.d, u32 S.e, u32 S.f, u32 S.g]) 0 rfl rfl rfl rfl rfl (fun _ _ => rfl) rfl (fun w hw => (Src.cells (b := bv) (o := 0) (m := 7) (c := 8) (size := 1) rfl (fun i v hv => hw.cell_blk (j := 0) rfl ?_)).2 w (Ext.refl w)) rfl (by simp [u32, plainV]) (by simp [S8.v])) ?_
    · rw [Nat.zero_add]
      have hi : i < 7 := (List.getElem?_eq_some_iff.1 hv).1
      have : S.v = [u32 S.a, u32 S.b, u32 S.c, u32 S.d, u32 S.e, u32 S.f, u32 S.g] ++ [u32 S.h] := rfl
      rw [this, List.getElem?_append_left hi]; exact hv
    refine we_weaken (bs' := [(bv, [u32 S.a, u32 S.a, u32 S.b, u32 S.c, u32 S.d, u32 S.e, u32 S.f, u32 S.g], 112), (bw, W.map u32, 119), (s, st.v, 112)])
      (env' := [(12, u32 (qP S)), (11, u32 (pP S (wd kW t) (wd W t))), (69, .int .i64 (t : Int)), (9, .pointer (some ⟨bv, 0, none⟩)), (4, .pointer (some ⟨bw, 0, none⟩)), (0, .pointer (some ⟨s, 0, none⟩))]) ?_ ⟨rfl, rfl, rfl, rfl, rfl, rfl, trivial⟩ (List.Sublist.refl _)
    have hS1 : runP st W (t + 1) = stepP S (wd kW t) (wd W t) := by rw [← hS]; rfl
    generalize hq : qP S = q at *
    generalize hp : pP S (wd kW t) (wd W t) = p at *
    repeat (first
      | (apply ws; exact rfl; exact rfl; exact rfl)
      | refine wl_still rfl rfl rfl (od_indexAddrA1 4 rfl rfl rfl rfl rfl (by omega)) ?_
      | refine wl_still rfl rfl rfl (od_indexAddrA1 0 rfl rfl rfl rfl rfl (by omega)) ?_
      | (apply w32add; exact rfl; exact rfl; exact rfl; exact rfl)
      | (apply wst 0; exact rfl; exact rfl; exact rfl; exact rfl; exact rfl; (simp only [List.length_cons, List.length_nil, List.length_set]; omega); exact rfl)
      | refine wc_seq ?_
      | refine wc_region ?_
      | refine wl_nil ?_
      | refine we_round ?_
      | refine we_then_wc ?_
      | (apply wi64; exact rfl; omega; omega; exact rfl; exact rfl)
      | (apply wfa; exact rfl; exact rfl; exact rfl; exact rfl)
      | (apply wct; exact rfl; omega; exact rfl; exact rfl)
      | (apply wcf; exact rfl; omega; exact rfl; exact rfl)
      | (apply wn; exact rfl; exact rfl)
      | (apply wlb (j := 0); exact rfl; exact rfl; exact rfl; exact rfl; exact rfl; exact rfl)
      | (apply wlb (j := 1); exact rfl; exact rfl; exact rfl; exact rfl; exact rfl; exact rfl)
      | (apply wlb (j := 2); exact rfl; exact rfl; exact rfl; exact rfl; exact rfl; exact rfl)
      | (apply wlb (j := 3); exact rfl; exact rfl; exact rfl; exact rfl; exact rfl; exact rfl)
      | (apply wln; exact rfl; exact rfl; exact rfl; exact rfl)
      | (apply wpu; exact rfl; exact rfl; exact rfl)
      | (apply wbx; exact rfl; exact rfl; exact rfl; intro _)
      | refine wc_block ?_
      | (apply wc_true; exact rfl)
      | (apply wc_false; exact rfl)
      | refine wc_skip ?_
      | refine wc_exit ?_
      | refine wc_ret ?_
      | refine we_then_exit ?_
      | refine we_then_ret ?_
      | refine we_in_normal ?_
      | refine we_in_ret ?_
      | refine we_in_here ?_
      | (apply we_in_there; exact rfl))
    refine we_again (t + 1) (by omega) (by omega) ⟨by simp [get], rfl, rfl, rfl, trivial⟩ ?_
    rw [hS1]
    subst hp
    subst hq
    exact List.Sublist.refl _
  have ht64 : t = 64 := by have := of_decide_eq_false hc3; omega
  subst ht64
  generalize hV : runP st W 64 = V
  have hfin : absorbP st blk = addS st V := by unfold absorbP; rw [hWW, hV]
  rw [hfin]
  repeat (first
    | (apply ws; exact rfl; exact rfl; exact rfl)
    | refine wc_seq ?_
    | refine wc_region ?_
    | refine wl_nil ?_
    | refine we_round ?_
    | refine we_then_wc ?_
    | (apply wi64; exact rfl; omega; omega; exact rfl; exact rfl)
    | (apply wfa; exact rfl; exact rfl; exact rfl; exact rfl)
    | (apply wct; exact rfl; omega; exact rfl; exact rfl)
    | (apply wcf; exact rfl; omega; exact rfl; exact rfl)
    | (apply wn; exact rfl; exact rfl)
    | (apply wlb (j := 0); exact rfl; exact rfl; exact rfl; exact rfl; exact rfl; exact rfl)
    | (apply wlb (j := 1); exact rfl; exact rfl; exact rfl; exact rfl; exact rfl; exact rfl)
    | (apply wlb (j := 2); exact rfl; exact rfl; exact rfl; exact rfl; exact rfl; exact rfl)
    | (apply wlb (j := 3); exact rfl; exact rfl; exact rfl; exact rfl; exact rfl; exact rfl)
    | (apply wln; exact rfl; exact rfl; exact rfl; exact rfl)
    | (apply wpu; exact rfl; exact rfl; exact rfl)
    | (apply wbx; exact rfl; exact rfl; exact rfl; intro _)
    | refine wc_block ?_
    | (apply wc_true; exact rfl)
    | (apply wc_false; exact rfl)
    | refine wc_skip ?_
    | refine wc_exit ?_
    | refine wc_ret ?_
    | refine we_then_exit ?_
    | refine we_then_ret ?_
    | refine we_in_normal ?_
    | refine we_in_ret ?_
    | refine we_in_here ?_
    | (apply we_in_there; exact rfl))
  refine wc_loop (ι := Nat) (fun i => [(129, .int .i64 (i : Int)), (9, .pointer (some ⟨bv, 0, none⟩)), (0, .pointer (some ⟨s, 0, none⟩))])
    (fun i => [(bv, V.v, 112), (s, addN st V i, 112)]) (fun i => i ≤ 8) (fun i => 8 - i) 0 (Nat.zero_le _) ⟨rfl, rfl, rfl, trivial⟩ (List.Sublist.cons_cons _ (List.Sublist.cons _ (List.Sublist.refl _))) ?_
  intro i hi
  repeat (first
    | (apply ws; exact rfl; exact rfl; exact rfl)
    | refine wc_seq ?_
    | refine wc_region ?_
    | refine wl_nil ?_
    | refine we_round ?_
    | refine we_then_wc ?_
    | (apply wi64; exact rfl; omega; omega; exact rfl; exact rfl)
    | (apply wfa; exact rfl; exact rfl; exact rfl; exact rfl)
    | (apply wct; exact rfl; omega; exact rfl; exact rfl)
    | (apply wcf; exact rfl; omega; exact rfl; exact rfl)
    | (apply wn; exact rfl; exact rfl)
    | (apply wlb (j := 0); exact rfl; exact rfl; exact rfl; exact rfl; exact rfl; exact rfl)
    | (apply wlb (j := 1); exact rfl; exact rfl; exact rfl; exact rfl; exact rfl; exact rfl)
    | (apply wlb (j := 2); exact rfl; exact rfl; exact rfl; exact rfl; exact rfl; exact rfl)
    | (apply wlb (j := 3); exact rfl; exact rfl; exact rfl; exact rfl; exact rfl; exact rfl)
    | (apply wln; exact rfl; exact rfl; exact rfl; exact rfl)
    | (apply wpu; exact rfl; exact rfl; exact rfl)
    | (apply wbx; exact rfl; exact rfl; exact rfl; intro _)
    | refine wc_block ?_
    | (apply wc_true; exact rfl)
    | (apply wc_false; exact rfl)
    | refine wc_skip ?_
    | refine wc_exit ?_
    | refine wc_ret ?_
    | refine we_then_exit ?_
    | refine we_then_ret ?_
    | refine we_in_normal ?_
    | refine we_in_ret ?_
    | refine we_in_here ?_
    | (apply we_in_there; exact rfl))
  refine wc_if rfl (fun hc4 => ?_) (fun hc4 => ?_)
  · have hlt : i < 8 := by have := of_decide_eq_true hc4; omega
    have h1 := v_get V i hlt
    have h2 := addN_get st V i hlt
    have h3 := addN_set st V i hlt
    repeat (first
      | (apply ws; exact rfl; exact rfl; exact rfl)
      | refine wc_seq ?_
      | refine wc_region ?_
      | refine wl_nil ?_
      | refine we_round ?_
      | refine we_then_wc ?_
      | (apply wi64; exact rfl; omega; omega; exact rfl; exact rfl)
      | (apply wfa; exact rfl; exact rfl; exact rfl; exact rfl)
      | (apply wct; exact rfl; omega; exact rfl; exact rfl)
      | (apply wcf; exact rfl; omega; exact rfl; exact rfl)
      | (apply wn; exact rfl; exact rfl)
      | (apply wlb (j := 0); exact rfl; exact rfl; exact rfl; exact rfl; exact rfl; exact rfl)
      | (apply wlb (j := 1); exact rfl; exact rfl; exact rfl; exact rfl; exact rfl; exact rfl)
      | (apply wlb (j := 2); exact rfl; exact rfl; exact rfl; exact rfl; exact rfl; exact rfl)
      | (apply wlb (j := 3); exact rfl; exact rfl; exact rfl; exact rfl; exact rfl; exact rfl)
      | (apply wln; exact rfl; exact rfl; exact rfl; exact rfl)
      | (apply wpu; exact rfl; exact rfl; exact rfl)
      | (apply wbx; exact rfl; exact rfl; exact rfl; intro _)
      | refine wc_block ?_
      | (apply wc_true; exact rfl)
      | (apply wc_false; exact rfl)
      | refine wc_skip ?_
      | refine wc_exit ?_
      | refine wc_ret ?_
      | refine we_then_exit ?_
      | refine we_then_ret ?_
      | refine we_in_normal ?_
      | refine we_in_ret ?_
      | refine we_in_here ?_
      | (apply we_in_there; exact rfl))
    refine wc_plan [(bv, V.v, 112), (s, addN st V i, 112)] (some 11) [(0, true), (1, true), (2, true), (3, true), (4, true), (5, true), (6, true), (7, true), (8, true), (9, true), (10, true), (11, false)] (by kernel_rfl) (List.Sublist.refl _) ?_
    repeat (first
      | (apply ps; exact rfl; exact rfl; exact rfl; exact rfl)
      | (apply pia (k := i); exact rfl; exact rfl; exact rfl; exact rfl; exact rfl; (first | exact rfl | omega); omega; exact rfl; exact rfl)
      | (apply plb (j := 0); exact rfl; exact rfl; exact rfl; exact rfl; exact h1; exact rfl; exact rfl)
      | (apply plb (j := 1); exact rfl; exact rfl; exact rfl; exact rfl; exact h2; exact rfl; exact rfl)
      | (apply p32add; exact rfl; exact rfl; exact rfl; exact rfl; exact rfl)
      | (apply pfa; exact rfl; exact rfl; exact rfl; exact rfl; exact rfl)
      | (apply pi64; exact rfl; exact rfl; omega; omega; exact rfl; exact rfl)
      | (apply pct; exact rfl; exact rfl; omega; exact rfl; exact rfl)
      | (apply pcf; exact rfl; exact rfl; omega; exact rfl; exact rfl)
      | (apply wp_not; exact rfl; exact rfl; exact rfl)
      | (apply plb (j := 0); exact rfl; exact rfl; exact rfl; exact rfl; exact rfl; exact rfl; exact rfl)
      | (apply plb (j := 1); exact rfl; exact rfl; exact rfl; exact rfl; exact rfl; exact rfl; exact rfl)
      | (apply plb (j := 2); exact rfl; exact rfl; exact rfl; exact rfl; exact rfl; exact rfl; exact rfl)
      | (apply pln; exact rfl; exact rfl; exact rfl; exact rfl; exact rfl)
      | (apply ppu; exact rfl; exact rfl; exact rfl; exact rfl)
      | (apply pfs; exact rfl; exact rfl; exact rfl; exact rfl)
      | apply wp_nil)
    refine wp_store 1 rfl rfl rfl (od_store (d := none) 1 rfl rfl rfl rfl rfl (by simp [addN]; omega)) ?_
    refine we_weaken (bs' := [(bv, V.v, 112), (s, addN st V (i + 1), 112)]) (env' := [(129, .int .i64 (i : Int)), (9, .pointer (some ⟨bv, 0, none⟩)), (0, .pointer (some ⟨s, 0, none⟩))]) ?_ ⟨rfl, rfl, rfl, trivial⟩ (by rw [← h3]; exact List.Sublist.refl _)
    repeat (first
      | (apply ws; exact rfl; exact rfl; exact rfl)
      | refine wc_seq ?_
      | refine wc_region ?_
      | refine wl_nil ?_
      | refine we_round ?_
      | refine we_then_wc ?_
      | (apply wi64; exact rfl; omega; omega; exact rfl; exact rfl)
      | (apply wfa; exact rfl; exact rfl; exact rfl; exact rfl)
      | (apply wct; exact rfl; omega; exact rfl; exact rfl)
      | (apply wcf; exact rfl; omega; exact rfl; exact rfl)
      | (apply wn; exact rfl; exact rfl)
      | (apply wlb (j := 0); exact rfl; exact rfl; exact rfl; exact rfl; exact rfl; exact rfl)
      | (apply wlb (j := 1); exact rfl; exact rfl; exact rfl; exact rfl; exact rfl; exact rfl)
      | (apply wlb (j := 2); exact rfl; exact rfl; exact rfl; exact rfl; exact rfl; exact rfl)
      | (apply wlb (j := 3); exact rfl; exact rfl; exact rfl; exact rfl; exact rfl; exact rfl)
      | (apply wln; exact rfl; exact rfl; exact rfl; exact rfl)
      | (apply wpu; exact rfl; exact rfl; exact rfl)
      | (apply wbx; exact rfl; exact rfl; exact rfl; intro _)
      | refine wc_block ?_
      | (apply wc_true; exact rfl)
      | (apply wc_false; exact rfl)
      | refine wc_skip ?_
      | refine wc_exit ?_
      | refine wc_ret ?_
      | refine we_then_exit ?_
      | refine we_then_ret ?_
      | refine we_in_normal ?_
      | refine we_in_ret ?_
      | refine we_in_here ?_
      | (apply we_in_there; exact rfl))
    exact we_again (i + 1) (by omega) (by omega) ⟨by simp [get], rfl, rfl, trivial⟩ (List.Sublist.refl _)
  have hi8 : i = 8 := by have := of_decide_eq_false hc4; omega
  subst hi8
  repeat (first
    | (apply ws; exact rfl; exact rfl; exact rfl)
    | refine wc_seq ?_
    | refine wc_region ?_
    | refine wl_nil ?_
    | refine we_round ?_
    | refine we_then_wc ?_
    | (apply wi64; exact rfl; omega; omega; exact rfl; exact rfl)
    | (apply wfa; exact rfl; exact rfl; exact rfl; exact rfl)
    | (apply wct; exact rfl; omega; exact rfl; exact rfl)
    | (apply wcf; exact rfl; omega; exact rfl; exact rfl)
    | (apply wn; exact rfl; exact rfl)
    | (apply wlb (j := 0); exact rfl; exact rfl; exact rfl; exact rfl; exact rfl; exact rfl)
    | (apply wlb (j := 1); exact rfl; exact rfl; exact rfl; exact rfl; exact rfl; exact rfl)
    | (apply wlb (j := 2); exact rfl; exact rfl; exact rfl; exact rfl; exact rfl; exact rfl)
    | (apply wlb (j := 3); exact rfl; exact rfl; exact rfl; exact rfl; exact rfl; exact rfl)
    | (apply wln; exact rfl; exact rfl; exact rfl; exact rfl)
    | (apply wpu; exact rfl; exact rfl; exact rfl)
    | (apply wbx; exact rfl; exact rfl; exact rfl; intro _)
    | refine wc_block ?_
    | (apply wc_true; exact rfl)
    | (apply wc_false; exact rfl)
    | refine wc_skip ?_
    | refine wc_exit ?_
    | refine wc_ret ?_
    | refine we_then_exit ?_
    | refine we_then_ret ?_
    | refine we_in_normal ?_
    | refine we_in_ret ?_
    | refine we_in_here ?_
    | (apply we_in_there; exact rfl))
  exact we_ret0 (Or.inr rfl) rfl fun w h => ⟨rfl, h.only_all, (h.at (j := 1) rfl).2⟩
end Go.Proofs.YtielloijdkoeiaaDoor
