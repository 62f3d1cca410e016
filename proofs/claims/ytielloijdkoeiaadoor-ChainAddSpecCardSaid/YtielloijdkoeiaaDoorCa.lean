/- Layer 1: numerals, numbers without sign; bytes that are appended to. -/
import Derived.Test.YtielloijdkoeiaaDoorDe
namespace Go.Proofs.YtielloijdkoeiaaDoor
open Go Go.RowKit Go.Lib
set_option maxRecDepth 100000

/-! ### What is computed -/
def numL (u : Nat) : List UInt8 := if u < 128 then [UInt8.ofNat u] else UInt8.ofNat (u % 128 + 128) :: numL (u / 128)
  termination_by u
  decreasing_by omega

theorem numL_lt {u : Nat} (h : u < 128) : numL u = [UInt8.ofNat u] := by rw [numL, if_pos h]
theorem numL_ge {u : Nat} (h : ¬ u < 128) : numL u = UInt8.ofNat (u % 128 + 128) :: numL (u / 128) := by rw [numL, if_neg h]
theorem numL_length : ∀ (k u : Nat), u < 128 ^ (k + 1) → (numL u).length ≤ k + 1
  | 0, u, h => by rw [numL_lt (by simpa using h)]; simp
  | k + 1, u, h => by
    by_cases hu : u < 128
    · rw [numL_lt hu]; simp
    · rw [numL_ge hu, List.length_cons]
      have := numL_length k (u / 128) (by rw [Nat.div_lt_iff_lt_mul (by omega)]; rw [Nat.pow_succ] at h; exact h)
      omega
theorem numL_length64 {u : Nat} (h : u < 2 ^ 64) : (numL u).length ≤ 10 := numL_length 9 u (by omega)

/-- A whole number without its sign. -/
def zz (n : Int) : Nat := if 0 ≤ n then (2 * n).toNat else (-2 * n - 1).toNat

/-! ### Bytes that are appended to -/
/-- One appends to block b; then these bytes stand in some block of one's own. -/
def Grown (b : Nat) (ys : List UInt8) : World → Value → World → Prop :=
  Moves (ι := Nat × List Value) b (fun i b' => .slice (some ⟨b', 0, none⟩) ys.length i.1) (fun i => ys.length ≤ i.1 ∧ (ys.map v8 ++ i.2).length = i.1) (fun i => ys.map v8 ++ i.2) 5
/-- These bytes stand in a new block. -/
def Fresh (ys : List UInt8) : World → Value → World → Prop :=
  Makes (ι := Nat × List Value) (fun i b' => .slice (some ⟨b', 0, none⟩) ys.length i.1) (fun i => ys.length ≤ i.1 ∧ (ys.map v8 ++ i.2).length = i.1) (fun i => ys.map v8 ++ i.2) 5

section
variable {env : Env} {w0 : World} {ex : List Nat} {bs : Blks} {d : Option Nat} {ty : TypeId} {pos : String} {af : Array Edge} {g : Option (Nat × Bool)}

/-- append of some bytes onto bytes of one's own. -/
theorem od_grow {t2 : TypeId} {d2 : TypeDesc} {x y : Operand} {b cap : Nat} {sv : Value} {xs ys : List UInt8} {sp : List Value} (j : Nat) (hx : ev env x = some (.slice (some ⟨b, 0, none⟩) xs.length cap)) (hy : ev env y = some sv) (hj : bs[j]? = some (b, xs.map v8 ++ sp, 5))
    (ht2 : lk tU t2 = some d2) (hd2 : ∀ k, d2 ≠ .int k) (hcap : (xs.map v8 ++ sp).length = cap) (hsrc : ∀ w, Hp w0 ex w bs → Src w sv 1 ys.length (ys.map v8)) (hl : xs.length + ys.length ≤ 2 ^ 46) :
    OD env w0 ex bs ⟨d, .call { callee := .builtin .append, args := #[x, y], argTypes := #[43, t2] }, ty, pos, af, g⟩ (Grown b (xs ++ ys)) := by
  refine (od_append (n := xs.length) (m := ys.length) (xs := xs.map v8) (sp := sp) (news := ys.map v8) j hx hy hj elem5 rfl ht2 hd2 (by simp) (by simpa using hcap) hsrc (by simp) (by simp [v8, plainV]) (by omega) (by simp only [maxLen]; omega)).mono ?_
  rintro w v w' - ⟨⟨c, s⟩, b', rfl, ⟨h1, h2⟩, hb, ho, hB⟩
  refine ⟨(c, s), b', ?_, ⟨by simpa using h1, ?_⟩, hb, ho, ?_⟩
  · simp
  · simpa using h2
  · simpa using hB

theorem od_fresh {t2 : TypeId} {d2 : TypeDesc} {x y : Operand} {sv : Value} {ys : List UInt8} (hx : ev env x = some (.slice none 0 0)) (hy : ev env y = some sv)
    (ht2 : lk tU t2 = some d2) (hd2 : ∀ k, d2 ≠ .int k) (hsrc : ∀ w, Hp w0 ex w bs → Src w sv 1 ys.length (ys.map v8)) (h0 : 0 < ys.length) (hl : ys.length ≤ 2 ^ 46) :
    OD env w0 ex bs ⟨d, .call { callee := .builtin .append, args := #[x, y], argTypes := #[43, t2] }, ty, pos, af, g⟩ (Fresh ys) := by
  refine (od_appendN (n := 0) (cap := 0) (a := none) (m := ys.length) (olds := []) (news := ys.map v8) hx hy elem5 rfl ht2 hd2 (fun w _ => rfl) rfl hsrc (by simp) (by omega) (by omega) (by simp only [maxLen]; omega)).mono ?_
  rintro w v w' - ⟨⟨c, s⟩, b', rfl, ⟨h1, h2⟩, hb, ho, hB⟩
  refine ⟨(c, s), b', ?_, ⟨by simpa using h1, ?_⟩, hb, ho, ?_⟩
  · simp
  · simpa using h2
  · simpa using hB
end

theorem Hp.src1 {w0 : World} {ex : List Nat} {w : World} {bs : Blks} (h : Hp w0 ex w bs) {j b : Nat} {c : UInt8} {T : TypeId} (hj : bs[j]? = some (b, [v8 c], T)) : Src w (.slice (some ⟨b, 0, none⟩) 1 1) 1 ([c] : List UInt8).length (([c] : List UInt8).map v8) := by
  refine Src.rd (h.rd (j := j) (o := 0) (l := [c]) (c := 1) hj (by simp) (fun i x hx => ?_))
  rw [Nat.zero_add]
  cases i with
  | zero => simp at hx; subst hx; rfl
  | succ i => simp at hx

theorem wrap8 (u : Nat) : IntKind.u8.wrap (u : Int) = ((UInt8.ofNat u).toNat : Int) := by
  rw [wrap_u8]; simp

theorem or128 (u : Nat) : bitsV .or .u8 ((UInt8.ofNat u).toNat : Int) 128 = some ((UInt8.ofNat (u % 128 + 128)).toNat : Int) := by
  have h1 : (UInt8.ofNat u).toNat = u % 256 := by simp
  rw [h1]
  have h2 : ∀ a : Fin 256, bitsV .or .u8 ((a.val : Nat) : Int) 128 = some ((UInt8.ofNat (a.val % 128 + 128)).toNat : Int) := by decide
  have := h2 ⟨u % 256, by omega⟩
  rw [this]
  have e : u % 256 % 128 = u % 128 := by omega
  simp only [e]

theorem shr7 (u : Nat) : ((u : Int).fdiv (2 ^ (min ((7 : Int)).toNat IntKind.u64.bits))) = ((u / 128 : Nat) : Int) := by
  have h1 : min ((7 : Int)).toNat IntKind.u64.bits = 7 := by decide
  rw [h1, Int.fdiv_eq_ediv_of_nonneg _ (by omega)]
  rfl

theorem numeral_calls (b cap u : Nat) (xs : List UInt8) (sp : List Value) (hu : u < 2 ^ 64) (hl : xs.length ≤ 2 ^ 40) (hcap : (xs.map v8 ++ sp).length = cap) (w : World) (hB : Blk w b (xs.map v8 ++ sp) 5) :
    Fn 77 [.slice (some ⟨b, 0, none⟩) xs.length cap, .int .u64 (u : Int)] w (Grown b (xs ++ numL u) w) := by
  refine fn_of (args := [.slice (some ⟨b, 0, none⟩) xs.length cap, .int .u64 (u : Int)]) Tryd.func77 rfl Tryd.ntmps77 rfl (Hp.start1 hB) ?_
  have hlen := numL_length64 hu
  repeat (first
    | (apply ws; exact rfl; exact rfl; exact rfl)
    | refine wc_seq ?_
    | refine wc_region ?_
    | refine wl_nil ?_
    | refine we_round ?_
    | refine we_then_wc ?_
    | (apply wi64; exact rfl; omega; omega; exact rfl; exact rfl)
    | (apply wfa; exact rfl; exact rfl; exact rfl; exact rfl)
    | (apply wct; exact rfl; omega; exact rfl; exact rfl)
    | (apply wcf; exact rfl; omega; exact rfl; exact rfl)
    | (apply wn; exact rfl; exact rfl)
    | (apply wlb (j := 0); exact rfl; exact rfl; exact rfl; exact rfl; exact rfl; exact rfl)
    | (apply wlb (j := 1); exact rfl; exact rfl; exact rfl; exact rfl; exact rfl; exact rfl)
    | (apply wlb (j := 2); exact rfl; exact rfl; exact rfl; exact rfl; exact rfl; exact rfl)
    | (apply wlb (j := 3); exact rfl; exact rfl; exact rfl; exact rfl; exact rfl; exact rfl)
    | (apply wln; exact rfl; exact rfl; exact rfl; exact rfl)
    | (apply wpu; exact rfl; exact rfl; exact rfl)
    | (apply wbx; exact rfl; exact rfl; exact rfl; intro _)
    | refine wc_block ?_
    | (apply wc_true; exact rfl)
    | (apply wc_false; exact rfl)
    | refine wc_skip ?_
    | refine wc_exit ?_
    | refine wc_ret ?_
    | refine we_then_exit ?_
    | refine we_then_ret ?_
    | refine we_in_normal ?_
    | refine we_in_ret ?_
    | refine we_in_here ?_
    | (apply we_in_there; exact rfl))
  refine wc_loop (ι := Nat × List UInt8 × Nat × List Value × Nat) (fun i => [(0, .slice (some ⟨i.2.2.2.2, 0, none⟩) i.2.1.length i.2.2.1), (1, .int .u64 (i.1 : Int))]) (fun i => [(i.2.2.2.2, i.2.1.map v8 ++ i.2.2.2.1, 5)])
    (fun i => i.1 < 2 ^ 64 ∧ i.2.1 ++ numL i.1 = xs ++ numL u ∧ (i.2.1.map v8 ++ i.2.2.2.1).length = i.2.2.1) (fun i => i.1) (u, xs, cap, sp, b) ⟨hu, rfl, hcap⟩ ⟨rfl, rfl, trivial⟩ (List.Sublist.refl _) ?_
  rintro ⟨u', xs', cap', sp', b'⟩ ⟨hu', hx', hc'⟩
  simp only at hu' hx' hc'
  dsimp only
  have hlx : xs'.length ≤ 2 ^ 41 := by
    have := congrArg List.length hx'
    simp only [List.length_append] at this
    omega
  repeat (first
    | (apply ws; exact rfl; exact rfl; exact rfl)
    | refine wc_seq ?_
    | refine wc_region ?_
    | refine wl_nil ?_
    | refine we_round ?_
    | refine we_then_wc ?_
    | (apply wi64; exact rfl; omega; omega; exact rfl; exact rfl)
    | (apply wfa; exact rfl; exact rfl; exact rfl; exact rfl)
    | (apply wct; exact rfl; omega; exact rfl; exact rfl)
    | (apply wcf; exact rfl; omega; exact rfl; exact rfl)
    | (apply wn; exact rfl; exact rfl)
    | (apply wlb (j := 0); exact rfl; exact rfl; exact rfl; exact rfl; exact rfl; exact rfl)
    | (apply wlb (j := 1); exact rfl; exact rfl; exact rfl; exact rfl; exact rfl; exact rfl)
    | (apply wlb (j := 2); exact rfl; exact rfl; exact rfl; exact rfl; exact rfl; exact rfl)
    | (apply wlb (j := 3); exact rfl; exact rfl; exact rfl; exact rfl; exact rfl; exact rfl)
    | (apply wln; exact rfl; exact rfl; exact rfl; exact rfl)
    | (apply wpu; exact rfl; exact rfl; exact rfl)
    | (apply wbx; exact rfl; exact rfl; exact rfl; intro _)
    | refine wc_block ?_
    | (apply wc_true; exact rfl)
    | (apply wc_false; exact rfl)
    | refine wc_skip ?_
    | refine wc_exit ?_
    | refine wc_ret ?_
    | refine we_then_exit ?_
    | refine we_then_ret ?_
    | refine we_in_normal ?_
    | refine we_in_ret ?_
    | refine we_in_here ?_
    | (apply we_in_there; exact rfl))
  refine wc_if rfl (fun ht => ?_) (fun ht => ?_)
  · have ht : ¬ u' < 128 := by have := of_decide_eq_true ht; omega
    rw [numL_ge ht] at hx'
    repeat (first
      | (apply ws; exact rfl; exact rfl; exact rfl)
      | refine wc_seq ?_
      | refine wc_region ?_
      | refine wl_nil ?_
      | refine we_round ?_
      | refine we_then_wc ?_
      | (apply wi64; exact rfl; omega; omega; exact rfl; exact rfl)
      | (apply wfa; exact rfl; exact rfl; exact rfl; exact rfl)
      | (apply wct; exact rfl; omega; exact rfl; exact rfl)
      | (apply wcf; exact rfl; omega; exact rfl; exact rfl)
      | (apply wn; exact rfl; exact rfl)
      | (apply wlb (j := 0); exact rfl; exact rfl; exact rfl; exact rfl; exact rfl; exact rfl)
      | (apply wlb (j := 1); exact rfl; exact rfl; exact rfl; exact rfl; exact rfl; exact rfl)
      | (apply wlb (j := 2); exact rfl; exact rfl; exact rfl; exact rfl; exact rfl; exact rfl)
      | (apply wlb (j := 3); exact rfl; exact rfl; exact rfl; exact rfl; exact rfl; exact rfl)
      | (apply wln; exact rfl; exact rfl; exact rfl; exact rfl)
      | (apply wpu; exact rfl; exact rfl; exact rfl)
      | (apply wbx; exact rfl; exact rfl; exact rfl; intro _)
      | refine wc_block ?_
      | (apply wc_true; exact rfl)
      | (apply wc_false; exact rfl)
      | refine wc_skip ?_
      | refine wc_exit ?_
      | refine wc_ret ?_
      | refine we_then_exit ?_
      | refine we_then_ret ?_
      | refine we_in_normal ?_
      | refine we_in_ret ?_
      | refine we_in_here ?_
      | (apply we_in_there; exact rfl))
    refine wl_still rfl rfl rfl (od_conv rfl rfl rfl) ?_
    rw [wrap8]
    refine wl_still rfl rfl rfl (od_bits rfl rfl (or128 u')) ?_
    refine wl_makes rfl rfl rfl (od_buildSlice (cs := [v8 (UInt8.ofNat (u' % 128 + 128))]) rfl rfl ⟨_, Tryd.zeroValue5⟩ rfl rfl rfl (by simp [Value.cells]) (by omega) rfl) ?_
    rintro _ bt -
    refine wl_moves 1 rfl rfl rfl rfl (od_grow (xs := xs') (ys := [UInt8.ofNat (u' % 128 + 128)]) (sp := sp') 1 rfl rfl rfl rfl (by simp) hc' (fun w' h => h.src1 (j := 0) rfl) (by simp; omega)) ?_
    rintro ⟨c2, sp2⟩ b2 ⟨h1, h2⟩
    simp only at h1 h2
    dsimp only
    repeat (first
      | (apply ws; exact rfl; exact rfl; exact rfl)
      | refine wc_seq ?_
      | refine wc_region ?_
      | refine wl_nil ?_
      | refine we_round ?_
      | refine we_then_wc ?_
      | (apply wi64; exact rfl; omega; omega; exact rfl; exact rfl)
      | (apply wfa; exact rfl; exact rfl; exact rfl; exact rfl)
      | (apply wct; exact rfl; omega; exact rfl; exact rfl)
      | (apply wcf; exact rfl; omega; exact rfl; exact rfl)
      | (apply wn; exact rfl; exact rfl)
      | (apply wlb (j := 0); exact rfl; exact rfl; exact rfl; exact rfl; exact rfl; exact rfl)
      | (apply wlb (j := 1); exact rfl; exact rfl; exact rfl; exact rfl; exact rfl; exact rfl)
      | (apply wlb (j := 2); exact rfl; exact rfl; exact rfl; exact rfl; exact rfl; exact rfl)
      | (apply wlb (j := 3); exact rfl; exact rfl; exact rfl; exact rfl; exact rfl; exact rfl)
      | (apply wln; exact rfl; exact rfl; exact rfl; exact rfl)
      | (apply wpu; exact rfl; exact rfl; exact rfl)
      | (apply wbx; exact rfl; exact rfl; exact rfl; intro _)
      | refine wc_block ?_
      | (apply wc_true; exact rfl)
      | (apply wc_false; exact rfl)
      | refine wc_skip ?_
      | refine wc_exit ?_
      | refine wc_ret ?_
      | refine we_then_exit ?_
      | refine we_then_ret ?_
      | refine we_in_normal ?_
      | refine we_in_ret ?_
      | refine we_in_here ?_
      | (apply we_in_there; exact rfl))
    refine wl_still rfl rfl rfl (od_shr rfl rfl (by omega) (shr7 u')) ?_
    repeat (first
      | (apply ws; exact rfl; exact rfl; exact rfl)
      | refine wc_seq ?_
      | refine wc_region ?_
      | refine wl_nil ?_
      | refine we_round ?_
      | refine we_then_wc ?_
      | (apply wi64; exact rfl; omega; omega; exact rfl; exact rfl)
      | (apply wfa; exact rfl; exact rfl; exact rfl; exact rfl)
      | (apply wct; exact rfl; omega; exact rfl; exact rfl)
      | (apply wcf; exact rfl; omega; exact rfl; exact rfl)
      | (apply wn; exact rfl; exact rfl)
      | (apply wlb (j := 0); exact rfl; exact rfl; exact rfl; exact rfl; exact rfl; exact rfl)
      | (apply wlb (j := 1); exact rfl; exact rfl; exact rfl; exact rfl; exact rfl; exact rfl)
      | (apply wlb (j := 2); exact rfl; exact rfl; exact rfl; exact rfl; exact rfl; exact rfl)
      | (apply wlb (j := 3); exact rfl; exact rfl; exact rfl; exact rfl; exact rfl; exact rfl)
      | (apply wln; exact rfl; exact rfl; exact rfl; exact rfl)
      | (apply wpu; exact rfl; exact rfl; exact rfl)
      | (apply wbx; exact rfl; exact rfl; exact rfl; intro _)
      | refine wc_block ?_
      | (apply wc_true; exact rfl)
      | (apply wc_false; exact rfl)
      | refine wc_skip ?_
      | refine wc_exit ?_
      | refine wc_ret ?_
      | refine we_then_exit ?_
      | refine we_then_ret ?_
      | refine we_in_normal ?_
      | refine we_in_ret ?_
      | refine we_in_here ?_
      | (apply we_in_there; exact rfl))
    exact we_again (u' / 128, xs' ++ [UInt8.ofNat (u' % 128 + 128)], c2, sp2, b2) ⟨by simp only; omega, by simp only; rw [← hx']; simp, h2⟩ (by simp only; omega) ⟨rfl, rfl, trivial⟩ (List.Sublist.cons_cons _ (List.nil_sublist _))
  have ht : u' < 128 := by have := of_decide_eq_false ht; omega
  rw [numL_lt ht] at hx'
  repeat (first
    | (apply ws; exact rfl; exact rfl; exact rfl)
    | refine wc_seq ?_
    | refine wc_region ?_
    | refine wl_nil ?_
    | refine we_round ?_
    | refine we_then_wc ?_
    | (apply wi64; exact rfl; omega; omega; exact rfl; exact rfl)
    | (apply wfa; exact rfl; exact rfl; exact rfl; exact rfl)
    | (apply wct; exact rfl; omega; exact rfl; exact rfl)
    | (apply wcf; exact rfl; omega; exact rfl; exact rfl)
    | (apply wn; exact rfl; exact rfl)
    | (apply wlb (j := 0); exact rfl; exact rfl; exact rfl; exact rfl; exact rfl; exact rfl)
    | (apply wlb (j := 1); exact rfl; exact rfl; exact rfl; exact rfl; exact rfl; exact rfl)
    | (apply wlb (j := 2); exact rfl; exact rfl; exact rfl; exact rfl; exact rfl; exact rfl)
    | (apply wlb (j := 3); exact rfl; exact rfl; exact rfl; exact rfl; exact rfl; exact rfl)
    | (apply wln; exact rfl; exact rfl; exact rfl; exact rfl)
    | (apply wpu; exact rfl; exact rfl; exact rfl)
    | (apply wbx; exact rfl; exact rfl; exact rfl; intro _)
    | refine wc_block ?_
    | (apply wc_true; exact rfl)
    | (apply wc_false; exact rfl)
    | refine wc_skip ?_
    | refine wc_exit ?_
    | refine wc_ret ?_
    | refine we_then_exit ?_
    | refine we_then_ret ?_
    | refine we_in_normal ?_
    | refine we_in_ret ?_
    | refine we_in_here ?_
    | (apply we_in_there; exact rfl))
  refine wl_still rfl rfl rfl (od_conv rfl rfl rfl) ?_
  rw [wrap8]
  refine wl_makes rfl rfl rfl (od_buildSlice (cs := [v8 (UInt8.ofNat u')]) rfl rfl ⟨_, Tryd.zeroValue5⟩ rfl rfl rfl (by simp [Value.cells]) (by omega) rfl) ?_
  rintro _ bt -
  refine wl_moves 1 rfl rfl rfl rfl (od_grow (xs := xs') (ys := [UInt8.ofNat u']) (sp := sp') 1 rfl rfl rfl rfl (by simp) hc' (fun w' h => h.src1 (j := 0) rfl) (by simp; omega)) ?_
  rintro ⟨c2, sp2⟩ b2 ⟨h1, h2⟩
  rw [hx'] at h1 h2 ⊢
  simp only at h1 h2
  dsimp only
  repeat (first
    | (apply ws; exact rfl; exact rfl; exact rfl)
    | refine wc_seq ?_
    | refine wc_region ?_
    | refine wl_nil ?_
    | refine we_round ?_
    | refine we_then_wc ?_
    | (apply wi64; exact rfl; omega; omega; exact rfl; exact rfl)
    | (apply wfa; exact rfl; exact rfl; exact rfl; exact rfl)
    | (apply wct; exact rfl; omega; exact rfl; exact rfl)
    | (apply wcf; exact rfl; omega; exact rfl; exact rfl)
    | (apply wn; exact rfl; exact rfl)
    | (apply wlb (j := 0); exact rfl; exact rfl; exact rfl; exact rfl; exact rfl; exact rfl)
    | (apply wlb (j := 1); exact rfl; exact rfl; exact rfl; exact rfl; exact rfl; exact rfl)
    | (apply wlb (j := 2); exact rfl; exact rfl; exact rfl; exact rfl; exact rfl; exact rfl)
    | (apply wlb (j := 3); exact rfl; exact rfl; exact rfl; exact rfl; exact rfl; exact rfl)
    | (apply wln; exact rfl; exact rfl; exact rfl; exact rfl)
    | (apply wpu; exact rfl; exact rfl; exact rfl)
    | (apply wbx; exact rfl; exact rfl; exact rfl; intro _)
    | refine wc_block ?_
    | (apply wc_true; exact rfl)
    | (apply wc_false; exact rfl)
    | refine wc_skip ?_
    | refine wc_exit ?_
    | refine wc_ret ?_
    | refine we_then_exit ?_
    | refine we_then_ret ?_
    | refine we_in_normal ?_
    | refine we_in_ret ?_
    | refine we_in_here ?_
    | (apply we_in_there; exact rfl))
  exact we_ret1 (Or.inl rfl) rfl rfl fun w' h => ⟨(c2, sp2), b2, rfl, ⟨h1, h2⟩, (by rcases (h.at (j := 0) rfl).1 with h3 | h3; exact Or.inr h3; exact Or.inl (by simpa using h3)), h.only_all, (h.at (j := 0) rfl).2⟩

/-! ### unsigned -/
theorem zz_lt {n : Int} (hn : in64 n) : zz n < 2 ^ 64 := by
  unfold in64 at hn
  unfold zz
  split <;> omega

theorem ofInt64 (a : Nat) : (BitVec.ofInt 64 (a : Int)) = BitVec.ofNat 64 a := by
  apply BitVec.eq_of_toNat_eq
  simp

theorem xor64_0 {a : Nat} (h : a < 2 ^ 64) : bitsV .xor .u64 (a : Int) 0 = some (a : Int) := by
  show some (IntKind.u64.wrap (((BitVec.ofInt 64 (a : Int) ^^^ BitVec.ofInt 64 0).toNat : Nat) : Int)) = _
  have e0 : BitVec.ofInt 64 0 = 0#64 := by decide
  rw [e0, BitVec.xor_zero, ofInt64, BitVec.toNat_ofNat, Nat.mod_eq_of_lt h, wrap_u64_lt h]

theorem xor64_1 {a : Nat} (h : a < 2 ^ 64) : bitsV .xor .u64 (a : Int) 18446744073709551615 = some ((2 ^ 64 - 1 - a : Nat) : Int) := by
  show some (IntKind.u64.wrap (((BitVec.ofInt 64 (a : Int) ^^^ BitVec.ofInt 64 18446744073709551615).toNat : Nat) : Int)) = _
  have e0 : BitVec.ofInt 64 18446744073709551615 = BitVec.allOnes 64 := by decide
  rw [e0, BitVec.xor_allOnes, BitVec.toNat_not, ofInt64, BitVec.toNat_ofNat, Nat.mod_eq_of_lt h, wrap_u64_lt (by omega)]

theorem unsigned_calls (n : Int) (hn : in64 n) (w : World) : Fn 78 [.int .i64 n] w (Quiet (.int .u64 (zz n : Int)) w) := by
  have hlt := zz_lt hn
  unfold in64 at hn
  refine fn_of (args := [.int .i64 n]) Tryd.func78 rfl Tryd.ntmps78 rfl (Hp.start w) ?_
  repeat (first
    | (apply ws; exact rfl; exact rfl; exact rfl)
    | refine wc_seq ?_
    | refine wc_region ?_
    | refine wl_nil ?_
    | refine we_round ?_
    | refine we_then_wc ?_
    | (apply wi64; exact rfl; omega; omega; exact rfl; exact rfl)
    | (apply wfa; exact rfl; exact rfl; exact rfl; exact rfl)
    | (apply wct; exact rfl; omega; exact rfl; exact rfl)
    | (apply wcf; exact rfl; omega; exact rfl; exact rfl)
    | (apply wn; exact rfl; exact rfl)
    | (apply wlb (j := 0); exact rfl; exact rfl; exact rfl; exact rfl; exact rfl; exact rfl)
    | (apply wlb (j := 1); exact rfl; exact rfl; exact rfl; exact rfl; exact rfl; exact rfl)
    | (apply wlb (j := 2); exact rfl; exact rfl; exact rfl; exact rfl; exact rfl; exact rfl)
    | (apply wlb (j := 3); exact rfl; exact rfl; exact rfl; exact rfl; exact rfl; exact rfl)
    | (apply wln; exact rfl; exact rfl; exact rfl; exact rfl)
    | (apply wpu; exact rfl; exact rfl; exact rfl)
    | (apply wbx; exact rfl; exact rfl; exact rfl; intro _)
    | refine wc_block ?_
    | (apply wc_true; exact rfl)
    | (apply wc_false; exact rfl)
    | refine wc_skip ?_
    | refine wc_exit ?_
    | refine wc_ret ?_
    | refine we_then_exit ?_
    | refine we_then_ret ?_
    | refine we_in_normal ?_
    | refine we_in_ret ?_
    | refine we_in_here ?_
    | (apply we_in_there; exact rfl))
  refine wl_still rfl rfl rfl (od_conv rfl rfl rfl) ?_
  by_cases h0 : 0 ≤ n
  · have hz : (zz n : Int) = 2 * n := by unfold zz; rw [if_pos h0]; omega
    have e1 : IntKind.u64.wrap n = n := by simp [IntKind.wrap, IntKind.bits, IntKind.signed]; omega
    rw [e1]
    refine wl_still rfl rfl rfl (od_shl (r := (zz n : Int)) rfl rfl (by omega) (by rw [hz]; simp [IntKind.wrap, IntKind.bits, IntKind.signed]; omega)) ?_
    repeat (first
      | (apply ws; exact rfl; exact rfl; exact rfl)
      | refine wc_seq ?_
      | refine wc_region ?_
      | refine wl_nil ?_
      | refine we_round ?_
      | refine we_then_wc ?_
      | (apply wi64; exact rfl; omega; omega; exact rfl; exact rfl)
      | (apply wfa; exact rfl; exact rfl; exact rfl; exact rfl)
      | (apply wct; exact rfl; omega; exact rfl; exact rfl)
      | (apply wcf; exact rfl; omega; exact rfl; exact rfl)
      | (apply wn; exact rfl; exact rfl)
      | (apply wlb (j := 0); exact rfl; exact rfl; exact rfl; exact rfl; exact rfl; exact rfl)
      | (apply wlb (j := 1); exact rfl; exact rfl; exact rfl; exact rfl; exact rfl; exact rfl)
      | (apply wlb (j := 2); exact rfl; exact rfl; exact rfl; exact rfl; exact rfl; exact rfl)
      | (apply wlb (j := 3); exact rfl; exact rfl; exact rfl; exact rfl; exact rfl; exact rfl)
      | (apply wln; exact rfl; exact rfl; exact rfl; exact rfl)
      | (apply wpu; exact rfl; exact rfl; exact rfl)
      | (apply wbx; exact rfl; exact rfl; exact rfl; intro _)
      | refine wc_block ?_
      | (apply wc_true; exact rfl)
      | (apply wc_false; exact rfl)
      | refine wc_skip ?_
      | refine wc_exit ?_
      | refine wc_ret ?_
      | refine we_then_exit ?_
      | refine we_then_ret ?_
      | refine we_in_normal ?_
      | refine we_in_ret ?_
      | refine we_in_here ?_
      | (apply we_in_there; exact rfl))
    refine wl_still rfl rfl rfl (od_shr (r := 0) rfl rfl (by omega) (by simp only [IntKind.bits]; rw [Int.fdiv_eq_ediv_of_nonneg _ (by decide)]; show n / 9223372036854775808 = 0; omega)) ?_
    refine wl_still rfl rfl rfl (od_conv rfl rfl rfl) ?_
    have e2 : IntKind.u64.wrap 0 = 0 := by decide
    rw [e2]
    refine wl_still rfl rfl rfl (od_bits rfl rfl (xor64_0 hlt)) ?_
    repeat (first
      | (apply ws; exact rfl; exact rfl; exact rfl)
      | refine wc_seq ?_
      | refine wc_region ?_
      | refine wl_nil ?_
      | refine we_round ?_
      | refine we_then_wc ?_
      | (apply wi64; exact rfl; omega; omega; exact rfl; exact rfl)
      | (apply wfa; exact rfl; exact rfl; exact rfl; exact rfl)
      | (apply wct; exact rfl; omega; exact rfl; exact rfl)
      | (apply wcf; exact rfl; omega; exact rfl; exact rfl)
      | (apply wn; exact rfl; exact rfl)
      | (apply wlb (j := 0); exact rfl; exact rfl; exact rfl; exact rfl; exact rfl; exact rfl)
      | (apply wlb (j := 1); exact rfl; exact rfl; exact rfl; exact rfl; exact rfl; exact rfl)
      | (apply wlb (j := 2); exact rfl; exact rfl; exact rfl; exact rfl; exact rfl; exact rfl)
      | (apply wlb (j := 3); exact rfl; exact rfl; exact rfl; exact rfl; exact rfl; exact rfl)
      | (apply wln; exact rfl; exact rfl; exact rfl; exact rfl)
      | (apply wpu; exact rfl; exact rfl; exact rfl)
      | (apply wbx; exact rfl; exact rfl; exact rfl; intro _)
      | refine wc_block ?_
      | (apply wc_true; exact rfl)
      | (apply wc_false; exact rfl)
      | refine wc_skip ?_
      | refine wc_exit ?_
      | refine wc_ret ?_
      | refine we_then_exit ?_
      | refine we_then_ret ?_
      | refine we_in_normal ?_
      | refine we_in_ret ?_
      | refine we_in_here ?_
      | (apply we_in_there; exact rfl))
    exact we_ret1 (Or.inl rfl) rfl rfl fun w h => ⟨rfl, h.ext_all⟩
  · have hz : (zz n : Int) = -2 * n - 1 := by unfold zz; rw [if_neg h0]; omega
    have e1 : IntKind.u64.wrap n = n + 18446744073709551616 := by simp [IntKind.wrap, IntKind.bits, IntKind.signed]; omega
    rw [e1]
    refine wl_still rfl rfl rfl (od_shl (r := ((2 ^ 64 - 1 - zz n : Nat) : Int)) rfl rfl (by omega) (by simp [IntKind.wrap, IntKind.bits, IntKind.signed]; omega)) ?_
    repeat (first
      | (apply ws; exact rfl; exact rfl; exact rfl)
      | refine wc_seq ?_
      | refine wc_region ?_
      | refine wl_nil ?_
      | refine we_round ?_
      | refine we_then_wc ?_
      | (apply wi64; exact rfl; omega; omega; exact rfl; exact rfl)
      | (apply wfa; exact rfl; exact rfl; exact rfl; exact rfl)
      | (apply wct; exact rfl; omega; exact rfl; exact rfl)
      | (apply wcf; exact rfl; omega; exact rfl; exact rfl)
      | (apply wn; exact rfl; exact rfl)
      | (apply wlb (j := 0); exact rfl; exact rfl; exact rfl; exact rfl; exact rfl; exact rfl)
      | (apply wlb (j := 1); exact rfl; exact rfl; exact rfl; exact rfl; exact rfl; exact rfl)
      | (apply wlb (j := 2); exact rfl; exact rfl; exact rfl; exact rfl; exact rfl; exact rfl)
      | (apply wlb (j := 3); exact rfl; exact rfl; exact rfl; exact rfl; exact rfl; exact rfl)
      | (apply wln; exact rfl; exact rfl; exact rfl; exact rfl)
      | (apply wpu; exact rfl; exact rfl; exact rfl)
      | (apply wbx; exact rfl; exact rfl; exact rfl; intro _)
      | refine wc_block ?_
      | (apply wc_true; exact rfl)
      | (apply wc_false; exact rfl)
      | refine wc_skip ?_
      | refine wc_exit ?_
      | refine wc_ret ?_
      | refine we_then_exit ?_
      | refine we_then_ret ?_
      | refine we_in_normal ?_
      | refine we_in_ret ?_
      | refine we_in_here ?_
      | (apply we_in_there; exact rfl))
    refine wl_still rfl rfl rfl (od_shr (r := -1) rfl rfl (by omega) (by simp only [IntKind.bits]; rw [Int.fdiv_eq_ediv_of_nonneg _ (by decide)]; show n / 9223372036854775808 = -1; omega)) ?_
    refine wl_still rfl rfl rfl (od_conv rfl rfl rfl) ?_
    have e2 : IntKind.u64.wrap (-1) = 18446744073709551615 := by decide
    rw [e2]
    have e3 := xor64_1 (a := 2 ^ 64 - 1 - zz n) (by omega)
    rw [show 2 ^ 64 - 1 - (2 ^ 64 - 1 - zz n) = zz n by omega] at e3
    refine wl_still rfl rfl rfl (od_bits rfl rfl e3) ?_
    repeat (first
      | (apply ws; exact rfl; exact rfl; exact rfl)
      | refine wc_seq ?_
      | refine wc_region ?_
      | refine wl_nil ?_
      | refine we_round ?_
      | refine we_then_wc ?_
      | (apply wi64; exact rfl; omega; omega; exact rfl; exact rfl)
      | (apply wfa; exact rfl; exact rfl; exact rfl; exact rfl)
      | (apply wct; exact rfl; omega; exact rfl; exact rfl)
      | (apply wcf; exact rfl; omega; exact rfl; exact rfl)
      | (apply wn; exact rfl; exact rfl)
      | (apply wlb (j := 0); exact rfl; exact rfl; exact rfl; exact rfl; exact rfl; exact rfl)
      | (apply wlb (j := 1); exact rfl; exact rfl; exact rfl; exact rfl; exact rfl; exact rfl)
      | (apply wlb (j := 2); exact rfl; exact rfl; exact rfl; exact rfl; exact rfl; exact rfl)
      | (apply wlb (j := 3); exact rfl; exact rfl; exact rfl; exact rfl; exact rfl; exact rfl)
      | (apply wln; exact rfl; exact rfl; exact rfl; exact rfl)
      | (apply wpu; exact rfl; exact rfl; exact rfl)
      | (apply wbx; exact rfl; exact rfl; exact rfl; intro _)
      | refine wc_block ?_
      | (apply wc_true; exact rfl)
      | (apply wc_false; exact rfl)
      | refine wc_skip ?_
      | refine wc_exit ?_
      | refine wc_ret ?_
      | refine we_then_exit ?_
      | refine we_then_ret ?_
      | refine we_in_normal ?_
      | refine we_in_ret ?_
      | refine we_in_here ?_
      | (apply we_in_there; exact rfl))
    exact we_ret1 (Or.inl rfl) rfl rfl fun w h => ⟨rfl, h.ext_all⟩

end Go.Proofs.YtielloijdkoeiaaDoor
