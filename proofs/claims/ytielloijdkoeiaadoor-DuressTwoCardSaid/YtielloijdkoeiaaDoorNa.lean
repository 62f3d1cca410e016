/- Plain arithmetic: 1073741789 is a prime; a number that it does not divide, to the power 1073741788, leaves 1. -/
import Derived.KernelRfl
namespace Go.Proofs.YtielloijdkoeiaaDoor

/-! ### One list is the other one, in some order -/
theorem perm_of_sub {α : Type} [DecidableEq α] : ∀ (l1 l2 : List α), l1.Nodup → (∀ x ∈ l1, x ∈ l2) → l2.length ≤ l1.length → List.Perm l1 l2
  | [], l2, _, _, h => by
    have : l2 = [] := List.eq_nil_of_length_eq_zero (by simpa using h)
    subst this
    exact List.Perm.nil
  | x :: l1, l2, hn, hs, hl => by
    have hx : x ∈ l2 := hs x (by simp)
    have hn' := List.nodup_cons.1 hn
    have hlen : (l2.erase x).length = l2.length - 1 := List.length_erase_of_mem hx
    have h1 := perm_of_sub l1 (l2.erase x) hn'.2 (fun y hy => by
      have hne : y ≠ x := fun e => hn'.1 (e ▸ hy)
      exact (List.mem_erase_of_ne hne).2 (hs y (by simp [hy]))) (by simp at hl; omega)
    exact (h1.cons x).trans (List.perm_cons_erase hx).symm

def prodL : List Nat → Nat
  | [] => 1
  | x :: r => x * prodL r

theorem prodL_perm {l1 l2 : List Nat} (h : List.Perm l1 l2) : prodL l1 = prodL l2 := by
  induction h with
  | nil => rfl
  | cons x _ ih => simp [prodL, ih]
  | swap x y l => simp only [prodL]; rw [Nat.mul_left_comm]
  | trans _ _ ih1 ih2 => exact ih1.trans ih2

/-! ### A prime -/
structure Pri (p : Nat) : Prop where
  two : 2 ≤ p
  euclid : ∀ a b, p ∣ a * b → p ∣ a ∨ p ∣ b

theorem Pri.prod {p : Nat} (hp : Pri p) : ∀ (l : List Nat), (∀ x ∈ l, ¬ p ∣ x) → ¬ p ∣ prodL l
  | [], _, h => by
    have h' : p ∣ 1 := h
    have := Nat.le_of_dvd (by decide) h'
    have := hp.two
    omega
  | x :: l, hx, h => by
    rcases hp.euclid x (prodL l) h with h1 | h1
    · exact hx x (by simp) h1
    · exact hp.prod l (fun y hy => hx y (by simp [hy])) h1

theorem prod_map (p d : Nat) : ∀ (l : List Nat), prodL (l.map fun x => d * x % p) % p = d ^ l.length * prodL l % p
  | [] => by simp [prodL]
  | x :: l => by
    simp only [List.map_cons, prodL, List.length_cons]
    rw [Nat.mul_mod, prod_map p d l, Nat.mod_mod, ← Nat.mul_mod, Nat.pow_succ]
    congr 1
    ac_rfl

theorem mod_inj {p d x y : Nat} (hp : Pri p) (hd : ¬ p ∣ d) (hx : x < p) (hy : y < p) (h : d * x % p = d * y % p) : x = y := by
  rcases Nat.lt_trichotomy x y with hlt | e | hlt
  · exfalso
    have h1 : p ∣ d * (y - x) := by
      rw [Nat.mul_sub]
      exact Nat.dvd_of_mod_eq_zero (Nat.sub_mod_eq_zero_of_mod_eq h.symm)
    rcases hp.euclid _ _ h1 with h2 | h2
    · exact hd h2
    · have := Nat.le_of_dvd (by omega) h2
      omega
  · exact e
  · exfalso
    have h1 : p ∣ d * (x - y) := by
      rw [Nat.mul_sub]
      exact Nat.dvd_of_mod_eq_zero (Nat.sub_mod_eq_zero_of_mod_eq h)
    rcases hp.euclid _ _ h1 with h2 | h2
    · exact hd h2
    · have := Nat.le_of_dvd (by omega) h2
      omega

/-- Fermat: a number that the prime does not divide. -/
theorem fermat {p d : Nat} (hp : Pri p) (hd : ¬ p ∣ d) : d ^ (p - 1) % p = 1 % p := by
  have h2 := hp.two
  have hL : ∀ x, x ∈ List.range' 1 (p - 1) ↔ 1 ≤ x ∧ x < p := by
    intro x
    rw [List.mem_range'_1]
    omega
  have hperm : List.Perm ((List.range' 1 (p - 1)).map fun x => d * x % p) (List.range' 1 (p - 1)) := by
    refine perm_of_sub _ _ ?_ ?_ (by simp)
    · have hnd : (List.range' 1 (p - 1)).Nodup := List.nodup_range'
      rw [List.Nodup, List.pairwise_map]
      refine List.Pairwise.imp_of_mem ?_ hnd
      intro x y hx hy hne e
      exact hne (mod_inj hp hd ((hL x).1 hx).2 ((hL y).1 hy).2 e)
    · intro y hy
      obtain ⟨x, hx, rfl⟩ := List.mem_map.1 hy
      have hx' := (hL x).1 hx
      refine (hL _).2 ⟨?_, Nat.mod_lt _ (by omega)⟩
      rcases Nat.eq_zero_or_pos (d * x % p) with h0 | h0
      · rcases hp.euclid _ _ (Nat.dvd_of_mod_eq_zero h0) with h1 | h1
        · exact absurd h1 hd
        · have := Nat.le_of_dvd (by omega) h1
          omega
      · exact h0
  have h1 := prod_map p d (List.range' 1 (p - 1))
  rw [prodL_perm hperm, List.length_range'] at h1
  have hnp : ¬ p ∣ prodL (List.range' 1 (p - 1)) := hp.prod _ fun x hx h => by
    have h3 := (hL x).1 hx
    have := Nat.le_of_dvd (by omega) h
    omega
  generalize prodL (List.range' 1 (p - 1)) = P at h1 hnp
  have hpos : 1 ≤ d ^ (p - 1) := by
    have : 0 < d := by
      rcases Nat.eq_zero_or_pos d with h | h
      · subst h; exact absurd (Nat.dvd_zero p) hd
      · exact h
    exact Nat.pow_pos this
  have h3 : p ∣ (d ^ (p - 1) - 1) * P := by
    rw [Nat.sub_mul, Nat.one_mul]
    exact Nat.dvd_of_mod_eq_zero (Nat.sub_mod_eq_zero_of_mod_eq h1.symm)
  rcases hp.euclid _ _ h3 with h4 | h4
  · obtain ⟨k, hk⟩ := h4
    have : d ^ (p - 1) = p * k + 1 := by omega
    rw [this, Nat.mul_add_mod]
  · exact absurd h4 hnp

/-! ### This prime -/
/-- No number from lo on, 2 ^ n of them, divides p. -/
def noDiv (p : Nat) : Nat → Nat → Bool
  | 0, lo => p % lo != 0
  | n + 1, lo => noDiv p n lo && noDiv p n (lo + 2 ^ n)
theorem noDiv_spec (p : Nat) : ∀ (n lo : Nat), noDiv p n lo = true → ∀ m, lo ≤ m → m < lo + 2 ^ n → ¬ m ∣ p
  | 0, lo, h, m, h1, h2 => by
    have : m = lo := by simp at h2; omega
    subst this
    simp [noDiv] at h
    exact fun hd => h (Nat.mod_eq_zero_of_dvd hd)
  | n + 1, lo, h, m, h1, h2 => by
    simp only [noDiv, Bool.and_eq_true] at h
    rcases Nat.lt_or_ge m (lo + 2 ^ n) with hm | hm
    · exact noDiv_spec p n lo h.1 m h1 hm
    · exact noDiv_spec p n (lo + 2 ^ n) h.2 m hm (by rw [Nat.pow_succ] at h2; omega)

theorem checkQ : noDiv 1073741789 15 2 = true := by kernel_rfl

theorem priQ : Pri 1073741789 := by
  refine ⟨by decide, fun a b h => ?_⟩
  have hs : ∀ m, 2 ≤ m → m < 32770 → ¬ m ∣ 1073741789 := fun m h1 h2 => noDiv_spec _ 15 2 checkQ m h1 (by simpa using h2)
  have hg := Nat.gcd_dvd_left 1073741789 a
  have hg2 := Nat.gcd_dvd_right 1073741789 a
  generalize hgg : Nat.gcd 1073741789 a = g at hg hg2
  obtain ⟨k, hk⟩ := hg
  have hkd : k ∣ 1073741789 := ⟨g, by rw [hk, Nat.mul_comm]⟩
  have hgd : g ∣ 1073741789 := ⟨k, hk⟩
  rcases Nat.lt_or_ge g 2 with h1 | h1
  · have hg1 : g = 1 := by
      rcases Nat.eq_zero_or_pos g with h0 | h0
      · subst h0; simp at hk
      · omega
    right
    exact Nat.Coprime.dvd_of_dvd_mul_left (by rw [Nat.Coprime, hgg, hg1]) h
  · rcases Nat.lt_or_ge k 2 with h2 | h2
    · have hk1 : k = 1 := by
        rcases Nat.eq_zero_or_pos k with h0 | h0
        · subst h0; simp at hk
        · omega
      subst hk1
      left
      rw [hk, Nat.mul_one]
      exact hg2
    · exfalso
      rcases Nat.lt_or_ge g 32770 with h3 | h3
      · exact hs g h1 h3 hgd
      · rcases Nat.lt_or_ge k 32770 with h4 | h4
        · exact hs k h2 h4 hkd
        · have := Nat.mul_le_mul h3 h4
          omega

/-- The inverse that the program reckons. -/
theorem inverse_of {p d e : Nat} (hp : Pri p) (he : e + 2 = p) (h0 : 0 < d) (h1 : d < p) : d * d ^ e % p = 1 := by
  have hd : ¬ p ∣ d := fun h => by
    have := Nat.le_of_dvd h0 h
    omega
  have h := fermat hp hd
  have e1 : p - 1 = e + 1 := by omega
  rw [e1, Nat.pow_succ, Nat.mul_comm] at h
  rw [h, Nat.mod_eq_of_lt (by omega)]

end Go.Proofs.YtielloijdkoeiaaDoor
