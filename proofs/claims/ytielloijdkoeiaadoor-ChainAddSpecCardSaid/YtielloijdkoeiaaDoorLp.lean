/- Plain law: the text of a link tells the link. -/
import Derived.Test.YtielloijdkoeiaaDoorLa
namespace Go.Proofs.YtielloijdkoeiaaDoor
open Go Go.RowKit Go.Lib

theorem numL_inj : ∀ (n u v : Nat) (r s : List UInt8), u ≤ n → numL u ++ r = numL v ++ s → u = v ∧ r = s := by
  intro n
  induction n using Nat.strongRecOn with
  | ind n ih =>
    intro u v r s hu h
    by_cases h1 : u < 128
    · rw [numL_lt h1] at h
      by_cases h2 : v < 128
      · rw [numL_lt h2] at h
        simp only [List.cons_append, List.nil_append, List.cons.injEq] at h
        have e := congrArg UInt8.toNat h.1
        simp only [UInt8.toNat_ofNat'] at e
        exact ⟨by omega, h.2⟩
      · rw [numL_ge h2] at h
        simp only [List.cons_append, List.nil_append, List.cons.injEq] at h
        have e := congrArg UInt8.toNat h.1
        simp only [UInt8.toNat_ofNat'] at e
        omega
    · rw [numL_ge h1] at h
      by_cases h2 : v < 128
      · rw [numL_lt h2] at h
        simp only [List.cons_append, List.nil_append, List.cons.injEq] at h
        have e := congrArg UInt8.toNat h.1
        simp only [UInt8.toNat_ofNat'] at e
        omega
      · rw [numL_ge h2] at h
        simp only [List.cons_append, List.cons.injEq] at h
        have e := congrArg UInt8.toNat h.1
        simp only [UInt8.toNat_ofNat'] at e
        obtain ⟨e1, e2⟩ := ih (u / 128) (by omega) (u / 128) (v / 128) r s (Nat.le_refl _) h.2
        exact ⟨by omega, e2⟩

theorem zz_inj {a b : Int} (h : zz a = zz b) : a = b := by
  unfold zz at h
  split at h <;> split at h <;> omega

theorem enc_I {a b : Int} {r s : List UInt8} (h : (Lf.I a).enc ++ r = (Lf.I b).enc ++ s) : a = b ∧ r = s := by
  simp only [Lf.enc, List.cons_append, List.cons.injEq, true_and] at h
  obtain ⟨e, e2⟩ := numL_inj _ _ _ _ _ (Nat.le_refl _) h
  exact ⟨zz_inj e, e2⟩
theorem enc_T {a b r s : List UInt8} (h : (Lf.T a).enc ++ r = (Lf.T b).enc ++ s) : a = b ∧ r = s := by
  simp only [Lf.enc, List.cons_append, List.append_assoc, List.cons.injEq, true_and] at h
  obtain ⟨e, e2⟩ := numL_inj _ _ _ _ _ (Nat.le_refl _) h
  exact List.append_inj e2 e

/-- The text of a link tells its four words. -/
theorem text_inj {a a' b b' : Int} {p p' d d' : List UInt8} (h : encL [.I a, .I b, .T p, .T d] = encL [.I a', .I b', .T p', .T d']) : a = a' ∧ b = b' ∧ p = p' ∧ d = d' := by
  simp only [encL, List.cons.injEq, true_and, List.length_cons, List.length_nil, List.flatMap_cons, List.flatMap_nil] at h
  have h := List.append_cancel_left h
  obtain ⟨e1, h⟩ := enc_I h
  obtain ⟨e2, h⟩ := enc_I h
  obtain ⟨e3, h⟩ := enc_T h
  obtain ⟨e4, -⟩ := enc_T h
  exact ⟨e1, e2, e3, e4⟩

/-- Two links with the same words. -/
def sameL (x y : Lnk) : Bool := decide (x.node = y.node ∧ x.no = y.no ∧ x.prev = y.prev ∧ x.data = y.data)
theorem sameL_iff {x y : Lnk} : sameL x y = true ↔ (x.node = y.node ∧ x.no = y.no ∧ x.prev = y.prev ∧ x.data = y.data) := by simp [sameL]
theorem sameL_comm (x y : Lnk) : sameL x y = sameL y x := by
  rw [Bool.eq_iff_iff, sameL_iff, sameL_iff]
  constructor <;> rintro ⟨a, b, c, d⟩ <;> exact ⟨a.symm, b.symm, c.symm, d.symm⟩
theorem sameL_refl (x : Lnk) : sameL x x = true := sameL_iff.2 ⟨rfl, rfl, rfl, rfl⟩

/-- The head is of the words alone. -/
theorem headP_snoc (xs : List Lnk) (x : Lnk) : headP (xs ++ [x]) = tagP [108, 105, 110, 107] (encL [.I x.node, .I x.no, .T x.prev, .T x.data]) := by
  unfold headP
  simp
theorem headP_nil : headP [] = tagP [110, 111, 110, 101] [] := rfl
end Go.Proofs.YtielloijdkoeiaaDoor
