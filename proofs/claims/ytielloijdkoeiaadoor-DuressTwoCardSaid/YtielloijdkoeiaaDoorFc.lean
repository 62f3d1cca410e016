/- Layer 9: the inverse; layer 47's statements: the hash of an occasion. -/
import Derived.Scope
import Derived.Test.YtielloijdkoeiaaDoorNa
import Derived.Test.YtielloijdkoeiaaDoorGc
namespace Go.Proofs.YtielloijdkoeiaaDoor
open Go Go.RowKit Go.Lib
set_option maxRecDepth 100000

section
variable {r : Option Nat} {Q : Exit → Act → World → Prop} {n : Nat} {ds : List Deferred} {env : Env} {w0 : World} {ex : List Nat} {bs : Blks}
theorem wc_scope {c : Code} (h : WC none c (Exit.noGoto Q) n ds env w0 ex bs) : WC none (.scope c) Q n ds env w0 ex bs :=
  ⟨fun a w hs hh => (wpIn_wide (n := 0)).2 (wp_scope_straight ((wpIn_wide (n := 0)).1 (h.go a w hs hh)))⟩
theorem wc_label {l : Nat} (h : WE Q .normal n ds env w0 ex bs) : WC r (.label l) Q n ds env w0 ex bs := ⟨fun a w hs hh => wpIn_label (h.go a w hs hh)⟩
theorem we_ng_ret (h : WE Q .ret n ds env w0 ex bs) : WE (Exit.noGoto Q) .ret n ds env w0 ex bs := ⟨h.go⟩
end

theorem pow_even {q s l x : Nat} (hl : l % 2 = 0) : x * (s * s % q) ^ (l / 2) % q = x * s ^ l % q := by
  have e : l = 2 * (l / 2) := by omega
  have h1 : (s * s % q) ^ (l / 2) % q = s ^ l % q := by
    rw [← Nat.pow_mod]
    conv => rhs; rw [e, Nat.pow_mul]
    rw [Nat.pow_two]
  rw [Nat.mul_mod, h1, ← Nat.mul_mod]
theorem pow_odd {q s l x : Nat} (hl : l % 2 = 1) : (x * s % q) * (s * s % q) ^ (l / 2) % q = x * s ^ l % q := by
  have e : l = 2 * (l / 2) + 1 := by omega
  have h1 : (s * s % q) ^ (l / 2) % q = s ^ (2 * (l / 2)) % q := by
    rw [← Nat.pow_mod, Nat.pow_mul, Nat.pow_two]
  rw [Nat.mul_mod, h1, Nat.mod_mod, ← Nat.mul_mod]
  conv => rhs; rw [e, Nat.pow_succ]
  congr 1
  rw [Nat.mul_assoc, Nat.mul_comm s]

theorem natMul (a b : Nat) : ((a : Int) * (b : Int) % 1073741789) = ((a * b % 1073741789 : Nat) : Int) := by omega

theorem inverse_calls (d : Nat) (h0 : 0 < d) (h1 : d < 1073741789) : ∃ r : Nat, r < 1073741789 ∧ d * r % 1073741789 = 1 ∧ ∀ w, Fn 21 [.int .i64 (d : Int)] w (Quiet (.tuple #[.int .i64 (r : Int), .int .i64 0]) w) := by
  obtain ⟨e, he⟩ : ∃ e : Nat, e = 1073741787 := ⟨_, rfl⟩
  have hinv := inverse_of (e := e) priQ (by omega) h0 h1
  refine ⟨d ^ e % 1073741789, Nat.mod_lt _ (by omega), by rw [Nat.mul_mod, Nat.mod_mod, ← Nat.mul_mod]; exact hinv, fun w => ?_⟩
  refine fn_of (args := [.int .i64 (d : Int)]) Tryd.func21 rfl Tryd.ntmps21 rfl (Hp.start w) ?_
  repeat (first
    | (apply ws; exact rfl; exact rfl; exact rfl)
    | refine wc_seq ?_
    | refine wc_region ?_
    | refine wl_nil ?_
    | refine we_round ?_
    | refine we_then_wc ?_
    | (apply wi64; exact rfl; omega; omega; exact rfl; exact rfl)
    | (apply wfa; exact rfl; exact rfl; exact rfl; exact rfl)
    | (apply wct; exact rfl; omega; exact rfl; exact rfl)
    | (apply wcf; exact rfl; omega; exact rfl; exact rfl)
    | (apply wn; exact rfl; exact rfl)
    | (apply wlb (j := 0); exact rfl; exact rfl; exact rfl; exact rfl; exact rfl; exact rfl)
    | (apply wlb (j := 1); exact rfl; exact rfl; exact rfl; exact rfl; exact rfl; exact rfl)
    | (apply wlb (j := 2); exact rfl; exact rfl; exact rfl; exact rfl; exact rfl; exact rfl)
    | (apply wlb (j := 3); exact rfl; exact rfl; exact rfl; exact rfl; exact rfl; exact rfl)
    | (apply wln; exact rfl; exact rfl; exact rfl; exact rfl)
    | (apply wpu; exact rfl; exact rfl; exact rfl)
    | (apply wbx; exact rfl; exact rfl; exact rfl; intro _)
    | refine wc_block ?_
    | (apply wc_true; exact rfl)
    | (apply wc_false; exact rfl)
    | refine wc_skip ?_
    | refine wc_exit ?_
    | refine wc_ret ?_
    | refine we_then_exit ?_
    | refine we_then_ret ?_
    | refine we_in_normal ?_
    | refine we_in_ret ?_
    | refine we_in_here ?_
    | (apply we_in_there; exact rfl))
  refine wc_scope ?_
  repeat (first
    | (apply ws; exact rfl; exact rfl; exact rfl)
    | (apply wq Tryd.call45; exact rfl; exact rfl; exact rfl; exact (fun w _ => field_Mod (d : Int) (by unfold in64; omega) w))
    | refine wc_seq ?_
    | refine wc_region ?_
    | refine wl_nil ?_
    | refine we_round ?_
    | refine we_then_wc ?_
    | (apply wi64; exact rfl; omega; omega; exact rfl; exact rfl)
    | (apply wfa; exact rfl; exact rfl; exact rfl; exact rfl)
    | (apply wct; exact rfl; omega; exact rfl; exact rfl)
    | (apply wcf; exact rfl; omega; exact rfl; exact rfl)
    | (apply wn; exact rfl; exact rfl)
    | (apply wlb (j := 0); exact rfl; exact rfl; exact rfl; exact rfl; exact rfl; exact rfl)
    | (apply wlb (j := 1); exact rfl; exact rfl; exact rfl; exact rfl; exact rfl; exact rfl)
    | (apply wlb (j := 2); exact rfl; exact rfl; exact rfl; exact rfl; exact rfl; exact rfl)
    | (apply wlb (j := 3); exact rfl; exact rfl; exact rfl; exact rfl; exact rfl; exact rfl)
    | (apply wln; exact rfl; exact rfl; exact rfl; exact rfl)
    | (apply wpu; exact rfl; exact rfl; exact rfl)
    | (apply wbx; exact rfl; exact rfl; exact rfl; intro _)
    | refine wc_block ?_
    | (apply wc_true; exact rfl)
    | (apply wc_false; exact rfl)
    | refine wc_skip ?_
    | refine wc_exit ?_
    | refine wc_ret ?_
    | refine we_then_exit ?_
    | refine we_then_ret ?_
    | refine we_in_normal ?_
    | refine we_in_ret ?_
    | refine we_in_here ?_
    | (apply we_in_there; exact rfl))
  refine wc_label ?_
  repeat (first
    | (apply ws; exact rfl; exact rfl; exact rfl)
    | refine wc_seq ?_
    | refine wc_region ?_
    | refine wl_nil ?_
    | refine we_round ?_
    | refine we_then_wc ?_
    | (apply wi64; exact rfl; omega; omega; exact rfl; exact rfl)
    | (apply wfa; exact rfl; exact rfl; exact rfl; exact rfl)
    | (apply wct; exact rfl; omega; exact rfl; exact rfl)
    | (apply wcf; exact rfl; omega; exact rfl; exact rfl)
    | (apply wn; exact rfl; exact rfl)
    | (apply wlb (j := 0); exact rfl; exact rfl; exact rfl; exact rfl; exact rfl; exact rfl)
    | (apply wlb (j := 1); exact rfl; exact rfl; exact rfl; exact rfl; exact rfl; exact rfl)
    | (apply wlb (j := 2); exact rfl; exact rfl; exact rfl; exact rfl; exact rfl; exact rfl)
    | (apply wlb (j := 3); exact rfl; exact rfl; exact rfl; exact rfl; exact rfl; exact rfl)
    | (apply wln; exact rfl; exact rfl; exact rfl; exact rfl)
    | (apply wpu; exact rfl; exact rfl; exact rfl)
    | (apply wbx; exact rfl; exact rfl; exact rfl; intro _)
    | refine wc_block ?_
    | (apply wc_true; exact rfl)
    | (apply wc_false; exact rfl)
    | refine wc_skip ?_
    | refine wc_exit ?_
    | refine wc_ret ?_
    | refine we_then_exit ?_
    | refine we_then_ret ?_
    | refine we_in_normal ?_
    | refine we_in_ret ?_
    | refine we_in_here ?_
    | (apply we_in_there; exact rfl))
  refine wc_loop (ι := Nat × Nat × Nat) (fun i => [(2, .int .i64 (i.1 : Int)), (5, .int .i64 (i.2.1 : Int)), (4, .int .i64 (i.2.2 : Int)), (3, .int .i64 0)]) (fun _ => []) (fun i => i.1 < 1073741789 ∧ i.2.1 < 1073741789 ∧ i.2.2 ≤ 1073741787 ∧ i.1 * i.2.1 ^ i.2.2 % 1073741789 = d ^ e % 1073741789) (fun i => i.2.2) (1, d, e)
    ⟨by simp, h1, by simp only; omega, by simp only; rw [Nat.one_mul]⟩ ⟨rfl, rfl, by rw [he]; rfl, rfl, trivial⟩ (List.nil_sublist _) ?_
  rintro ⟨x, s, l⟩ ⟨hx, hs, hl, hpow⟩
  simp only at hx hs hl hpow
  dsimp only
  generalize hR : d ^ e % 1073741789 = R at *
  repeat (first
    | (apply ws; exact rfl; exact rfl; exact rfl)
    | refine wc_seq ?_
    | refine wc_region ?_
    | refine wl_nil ?_
    | refine we_round ?_
    | refine we_then_wc ?_
    | (apply wi64; exact rfl; omega; omega; exact rfl; exact rfl)
    | (apply wfa; exact rfl; exact rfl; exact rfl; exact rfl)
    | (apply wct; exact rfl; omega; exact rfl; exact rfl)
    | (apply wcf; exact rfl; omega; exact rfl; exact rfl)
    | (apply wn; exact rfl; exact rfl)
    | (apply wlb (j := 0); exact rfl; exact rfl; exact rfl; exact rfl; exact rfl; exact rfl)
    | (apply wlb (j := 1); exact rfl; exact rfl; exact rfl; exact rfl; exact rfl; exact rfl)
    | (apply wlb (j := 2); exact rfl; exact rfl; exact rfl; exact rfl; exact rfl; exact rfl)
    | (apply wlb (j := 3); exact rfl; exact rfl; exact rfl; exact rfl; exact rfl; exact rfl)
    | (apply wln; exact rfl; exact rfl; exact rfl; exact rfl)
    | (apply wpu; exact rfl; exact rfl; exact rfl)
    | (apply wbx; exact rfl; exact rfl; exact rfl; intro _)
    | refine wc_block ?_
    | (apply wc_true; exact rfl)
    | (apply wc_false; exact rfl)
    | refine wc_skip ?_
    | refine wc_exit ?_
    | refine wc_ret ?_
    | refine we_then_exit ?_
    | refine we_then_ret ?_
    | refine we_in_normal ?_
    | refine we_in_ret ?_
    | refine we_in_here ?_
    | (apply we_in_there; exact rfl))
  refine wc_if rfl (fun ht => ?_) (fun ht => ?_)
  · have hl0 : l = 0 := by simpa using ht
    subst hl0
    have hxR : x = R := by rw [Nat.pow_zero, Nat.mul_one, Nat.mod_eq_of_lt hx] at hpow; exact hpow
    subst hxR
    repeat (first
      | (apply ws; exact rfl; exact rfl; exact rfl)
      | refine wc_seq ?_
      | refine wc_region ?_
      | refine wl_nil ?_
      | refine we_round ?_
      | refine we_then_wc ?_
      | (apply wi64; exact rfl; omega; omega; exact rfl; exact rfl)
      | (apply wfa; exact rfl; exact rfl; exact rfl; exact rfl)
      | (apply wct; exact rfl; omega; exact rfl; exact rfl)
      | (apply wcf; exact rfl; omega; exact rfl; exact rfl)
      | (apply wn; exact rfl; exact rfl)
      | (apply wlb (j := 0); exact rfl; exact rfl; exact rfl; exact rfl; exact rfl; exact rfl)
      | (apply wlb (j := 1); exact rfl; exact rfl; exact rfl; exact rfl; exact rfl; exact rfl)
      | (apply wlb (j := 2); exact rfl; exact rfl; exact rfl; exact rfl; exact rfl; exact rfl)
      | (apply wlb (j := 3); exact rfl; exact rfl; exact rfl; exact rfl; exact rfl; exact rfl)
      | (apply wln; exact rfl; exact rfl; exact rfl; exact rfl)
      | (apply wpu; exact rfl; exact rfl; exact rfl)
      | (apply wbx; exact rfl; exact rfl; exact rfl; intro _)
      | refine wc_block ?_
      | (apply wc_true; exact rfl)
      | (apply wc_false; exact rfl)
      | refine wc_skip ?_
      | refine wc_exit ?_
      | refine wc_ret ?_
      | refine we_then_exit ?_
      | refine we_then_ret ?_
      | refine we_in_normal ?_
      | refine we_in_ret ?_
      | refine we_in_here ?_
      | (apply we_in_there; exact rfl))
    exact we_ng_ret (we_ret2 (Or.inl rfl) rfl rfl rfl fun w' h => ⟨rfl, h.ext_all⟩)
  · have hl0 : 0 < l := by simp at ht; omega
    repeat (first
      | (apply ws; exact rfl; exact rfl; exact rfl)
      | refine wc_seq ?_
      | refine wc_region ?_
      | refine wl_nil ?_
      | refine we_round ?_
      | refine we_then_wc ?_
      | (apply wi64; exact rfl; omega; omega; exact rfl; exact rfl)
      | (apply wfa; exact rfl; exact rfl; exact rfl; exact rfl)
      | (apply wct; exact rfl; omega; exact rfl; exact rfl)
      | (apply wcf; exact rfl; omega; exact rfl; exact rfl)
      | (apply wn; exact rfl; exact rfl)
      | (apply wlb (j := 0); exact rfl; exact rfl; exact rfl; exact rfl; exact rfl; exact rfl)
      | (apply wlb (j := 1); exact rfl; exact rfl; exact rfl; exact rfl; exact rfl; exact rfl)
      | (apply wlb (j := 2); exact rfl; exact rfl; exact rfl; exact rfl; exact rfl; exact rfl)
      | (apply wlb (j := 3); exact rfl; exact rfl; exact rfl; exact rfl; exact rfl; exact rfl)
      | (apply wln; exact rfl; exact rfl; exact rfl; exact rfl)
      | (apply wpu; exact rfl; exact rfl; exact rfl)
      | (apply wbx; exact rfl; exact rfl; exact rfl; intro _)
      | refine wc_block ?_
      | (apply wc_true; exact rfl)
      | (apply wc_false; exact rfl)
      | refine wc_skip ?_
      | refine wc_exit ?_
      | refine wc_ret ?_
      | refine we_then_exit ?_
      | refine we_then_ret ?_
      | refine we_in_normal ?_
      | refine we_in_ret ?_
      | refine we_in_here ?_
      | (apply we_in_there; exact rfl))
    refine wl_still rfl rfl rfl (od_rem (r := ((l % 2 : Nat) : Int)) rfl rfl (by omega) (by rw [Int.tmod_eq_emod_of_nonneg (by omega)]; rfl)) ?_
    repeat (first
      | (apply ws; exact rfl; exact rfl; exact rfl)
      | refine wc_seq ?_
      | refine wc_region ?_
      | refine wl_nil ?_
      | refine we_round ?_
      | refine we_then_wc ?_
      | (apply wi64; exact rfl; omega; omega; exact rfl; exact rfl)
      | (apply wfa; exact rfl; exact rfl; exact rfl; exact rfl)
      | (apply wct; exact rfl; omega; exact rfl; exact rfl)
      | (apply wcf; exact rfl; omega; exact rfl; exact rfl)
      | (apply wn; exact rfl; exact rfl)
      | (apply wlb (j := 0); exact rfl; exact rfl; exact rfl; exact rfl; exact rfl; exact rfl)
      | (apply wlb (j := 1); exact rfl; exact rfl; exact rfl; exact rfl; exact rfl; exact rfl)
      | (apply wlb (j := 2); exact rfl; exact rfl; exact rfl; exact rfl; exact rfl; exact rfl)
      | (apply wlb (j := 3); exact rfl; exact rfl; exact rfl; exact rfl; exact rfl; exact rfl)
      | (apply wln; exact rfl; exact rfl; exact rfl; exact rfl)
      | (apply wpu; exact rfl; exact rfl; exact rfl)
      | (apply wbx; exact rfl; exact rfl; exact rfl; intro _)
      | refine wc_block ?_
      | (apply wc_true; exact rfl)
      | (apply wc_false; exact rfl)
      | refine wc_skip ?_
      | refine wc_exit ?_
      | refine wc_ret ?_
      | refine we_then_exit ?_
      | refine we_then_ret ?_
      | refine we_in_normal ?_
      | refine we_in_ret ?_
      | refine we_in_here ?_
      | (apply we_in_there; exact rfl))
    have hw : IntKind.i64.wrap ((l : Int).tdiv 2) = ((l / 2 : Nat) : Int) := by
      rw [Int.tdiv_eq_ediv_of_nonneg (by omega), wrap_i64 (by omega) (by omega)]
      rfl
    have hms := field_Mul (s : Int) (s : Int) (by unfold in64; omega) (by unfold in64; omega)
    have hmx := field_Mul (x : Int) (s : Int) (by unfold in64; omega) (by unfold in64; omega)
    rw [natMul] at hms hmx
    refine wc_if rfl (fun hodd => ?_) (fun hodd => ?_)
    · have hodd : l % 2 = 1 := by simp at hodd; omega
      repeat (first
        | (apply ws; exact rfl; exact rfl; exact rfl)
        | (apply wq Tryd.call22; exact rfl; exact rfl; exact rfl; exact (fun w _ => hmx w))
        | (apply wq Tryd.call22; exact rfl; exact rfl; exact rfl; exact (fun w _ => hms w))
        | refine wl_still rfl rfl rfl (od_quo rfl rfl (by omega) hw) ?_
        | refine wc_seq ?_
        | refine wc_region ?_
        | refine wl_nil ?_
        | refine we_round ?_
        | refine we_then_wc ?_
        | (apply wi64; exact rfl; omega; omega; exact rfl; exact rfl)
        | (apply wfa; exact rfl; exact rfl; exact rfl; exact rfl)
        | (apply wct; exact rfl; omega; exact rfl; exact rfl)
        | (apply wcf; exact rfl; omega; exact rfl; exact rfl)
        | (apply wn; exact rfl; exact rfl)
        | (apply wlb (j := 0); exact rfl; exact rfl; exact rfl; exact rfl; exact rfl; exact rfl)
        | (apply wlb (j := 1); exact rfl; exact rfl; exact rfl; exact rfl; exact rfl; exact rfl)
        | (apply wlb (j := 2); exact rfl; exact rfl; exact rfl; exact rfl; exact rfl; exact rfl)
        | (apply wlb (j := 3); exact rfl; exact rfl; exact rfl; exact rfl; exact rfl; exact rfl)
        | (apply wln; exact rfl; exact rfl; exact rfl; exact rfl)
        | (apply wpu; exact rfl; exact rfl; exact rfl)
        | (apply wbx; exact rfl; exact rfl; exact rfl; intro _)
        | refine wc_block ?_
        | (apply wc_true; exact rfl)
        | (apply wc_false; exact rfl)
        | refine wc_skip ?_
        | refine wc_exit ?_
        | refine wc_ret ?_
        | refine we_then_exit ?_
        | refine we_then_ret ?_
        | refine we_in_normal ?_
        | refine we_in_ret ?_
        | refine we_in_here ?_
        | (apply we_in_there; exact rfl))
      refine we_again (x * s % 1073741789, s * s % 1073741789, l / 2) ⟨Nat.mod_lt _ (by omega), Nat.mod_lt _ (by omega), by simp only; omega, ?_⟩ (by simp only; omega) ⟨rfl, rfl, rfl, rfl, trivial⟩ (List.nil_sublist _)
      simp only
      rw [pow_odd hodd, hpow]
    · have hev : l % 2 = 0 := by simp at hodd; omega
      repeat (first
        | (apply ws; exact rfl; exact rfl; exact rfl)
        | (apply wq Tryd.call22; exact rfl; exact rfl; exact rfl; exact (fun w _ => hms w))
        | refine wl_still rfl rfl rfl (od_quo rfl rfl (by omega) hw) ?_
        | refine wc_seq ?_
        | refine wc_region ?_
        | refine wl_nil ?_
        | refine we_round ?_
        | refine we_then_wc ?_
        | (apply wi64; exact rfl; omega; omega; exact rfl; exact rfl)
        | (apply wfa; exact rfl; exact rfl; exact rfl; exact rfl)
        | (apply wct; exact rfl; omega; exact rfl; exact rfl)
        | (apply wcf; exact rfl; omega; exact rfl; exact rfl)
        | (apply wn; exact rfl; exact rfl)
        | (apply wlb (j := 0); exact rfl; exact rfl; exact rfl; exact rfl; exact rfl; exact rfl)
        | (apply wlb (j := 1); exact rfl; exact rfl; exact rfl; exact rfl; exact rfl; exact rfl)
        | (apply wlb (j := 2); exact rfl; exact rfl; exact rfl; exact rfl; exact rfl; exact rfl)
        | (apply wlb (j := 3); exact rfl; exact rfl; exact rfl; exact rfl; exact rfl; exact rfl)
        | (apply wln; exact rfl; exact rfl; exact rfl; exact rfl)
        | (apply wpu; exact rfl; exact rfl; exact rfl)
        | (apply wbx; exact rfl; exact rfl; exact rfl; intro _)
        | refine wc_block ?_
        | (apply wc_true; exact rfl)
        | (apply wc_false; exact rfl)
        | refine wc_skip ?_
        | refine wc_exit ?_
        | refine wc_ret ?_
        | refine we_then_exit ?_
        | refine we_then_ret ?_
        | refine we_in_normal ?_
        | refine we_in_ret ?_
        | refine we_in_here ?_
        | (apply we_in_there; exact rfl))
      refine we_again (x, s * s % 1073741789, l / 2) ⟨hx, Nat.mod_lt _ (by omega), by simp only; omega, ?_⟩ (by simp only; omega) ⟨rfl, rfl, rfl, rfl, trivial⟩ (List.nil_sublist _)
      simp only
      rw [pow_even hev, hpow]
end Go.Proofs.YtielloijdkoeiaaDoor
