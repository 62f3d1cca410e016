/- The small functions of layer 47 and its reference, and of the reference of layer 9. -/
import Derived.Test.YtielloijdkoeiaaDoorFa
namespace Go.Proofs.YtielloijdkoeiaaDoor
open Go Go.RowKit
set_option maxRecDepth 100000

theorem split2 (A B : Prop) : (A ∧ B) ∨ (A ∧ ¬ B) ∨ ¬ A := by by_cases A <;> by_cases B <;> simp_all
theorem split4 (A B C D : Prop) : (A ∧ B ∧ C ∧ D) ∨ (A ∧ B ∧ C ∧ ¬ D) ∨ (A ∧ B ∧ ¬ C) ∨ (A ∧ ¬ B) ∨ ¬ A := by by_cases A <;> by_cases B <;> by_cases C <;> by_cases D <;> simp_all

def numP (n : Int) : Prop := 0 ≤ n ∧ n < 1073741789
instance (n : Int) : Decidable (numP n) := by unfold numP; exact inferInstance

theorem duress_number (n : Int) (w : World) : Fn 39 [.int .i64 n] w (Quiet (.bool (decide (numP n))) w) := by
  refine fn_of (args := [.int .i64 n]) Tryd.func39 rfl Tryd.ntmps39 rfl (Hp.start w) ?_
  unfold numP
  rcases split2 (0 ≤ n) (n < 1073741789) with ⟨h1, h2⟩ | ⟨h1, h2⟩ | h1
  all_goals
    repeat (first
      | (apply ws; exact rfl; exact rfl; exact rfl)
      | refine wc_seq ?_
      | refine wc_region ?_
      | refine wl_nil ?_
      | refine we_round ?_
      | refine we_then_wc ?_
      | (apply wi64; exact rfl; omega; omega; exact rfl; exact rfl)
      | (apply wfa; exact rfl; exact rfl; exact rfl; exact rfl)
      | (apply wct; exact rfl; omega; exact rfl; exact rfl)
      | (apply wcf; exact rfl; omega; exact rfl; exact rfl)
      | (apply wn; exact rfl; exact rfl)
      | (apply wlb (j := 0); exact rfl; exact rfl; exact rfl; exact rfl; exact rfl; exact rfl)
      | (apply wlb (j := 1); exact rfl; exact rfl; exact rfl; exact rfl; exact rfl; exact rfl)
      | (apply wlb (j := 2); exact rfl; exact rfl; exact rfl; exact rfl; exact rfl; exact rfl)
      | (apply wlb (j := 3); exact rfl; exact rfl; exact rfl; exact rfl; exact rfl; exact rfl)
      | (apply wln; exact rfl; exact rfl; exact rfl; exact rfl)
      | (apply wpu; exact rfl; exact rfl; exact rfl)
      | (apply wbx; exact rfl; exact rfl; exact rfl; intro _)
      | refine wc_block ?_
      | (apply wc_true; exact rfl)
      | (apply wc_false; exact rfl)
      | refine wc_skip ?_
      | refine wc_exit ?_
      | refine wc_ret ?_
      | refine we_then_exit ?_
      | refine we_then_ret ?_
      | refine we_in_normal ?_
      | refine we_in_ret ?_
      | refine we_in_here ?_
      | (apply we_in_there; exact rfl))
    exact we_ret1 (Or.inl rfl) rfl rfl fun w h => ⟨by simp [*], h.ext_all⟩

theorem ref_Number (n : Int) (w : World) : Fn 16 [.int .i64 n] w (Quiet (.bool (decide (numP n))) w) := by
  refine fn_of (args := [.int .i64 n]) Tryd.func16 rfl Tryd.ntmps16 rfl (Hp.start w) ?_
  unfold numP
  rcases split2 (0 ≤ n) (n < 1073741789) with ⟨h1, h2⟩ | ⟨h1, h2⟩ | h1
  all_goals
    repeat (first
      | (apply ws; exact rfl; exact rfl; exact rfl)
      | refine wc_seq ?_
      | refine wc_region ?_
      | refine wl_nil ?_
      | refine we_round ?_
      | refine we_then_wc ?_
      | (apply wi64; exact rfl; omega; omega; exact rfl; exact rfl)
      | (apply wfa; exact rfl; exact rfl; exact rfl; exact rfl)
      | (apply wct; exact rfl; omega; exact rfl; exact rfl)
      | (apply wcf; exact rfl; omega; exact rfl; exact rfl)
      | (apply wn; exact rfl; exact rfl)
      | (apply wlb (j := 0); exact rfl; exact rfl; exact rfl; exact rfl; exact rfl; exact rfl)
      | (apply wlb (j := 1); exact rfl; exact rfl; exact rfl; exact rfl; exact rfl; exact rfl)
      | (apply wlb (j := 2); exact rfl; exact rfl; exact rfl; exact rfl; exact rfl; exact rfl)
      | (apply wlb (j := 3); exact rfl; exact rfl; exact rfl; exact rfl; exact rfl; exact rfl)
      | (apply wln; exact rfl; exact rfl; exact rfl; exact rfl)
      | (apply wpu; exact rfl; exact rfl; exact rfl)
      | (apply wbx; exact rfl; exact rfl; exact rfl; intro _)
      | refine wc_block ?_
      | (apply wc_true; exact rfl)
      | (apply wc_false; exact rfl)
      | refine wc_skip ?_
      | refine wc_exit ?_
      | refine wc_ret ?_
      | refine we_then_exit ?_
      | refine we_then_ret ?_
      | refine we_in_normal ?_
      | refine we_in_ret ?_
      | refine we_in_here ?_
      | (apply we_in_there; exact rfl))
    exact we_ret1 (Or.inl rfl) rfl rfl fun w h => ⟨by simp [*], h.ext_all⟩

def occP (doc no : Int) : Prop := (0 ≤ doc ∧ doc < 4096) ∧ 0 ≤ no ∧ no ≤ 1048576
instance (a b : Int) : Decidable (occP a b) := by unfold occP; exact inferInstance

theorem duress_possible (a b : Int) (w : World) : Fn 40 [.int .i64 a, .int .i64 b] w (Quiet (.bool (decide (occP a b))) w) := by
  refine fn_of (args := [.int .i64 a, .int .i64 b]) Tryd.func40 rfl Tryd.ntmps40 rfl (Hp.start w) ?_
  unfold occP
  rcases split4 (0 ≤ a) (a < 4096) (0 ≤ b) (b ≤ 1048576) with ⟨h1, h2, h3, h4⟩ | ⟨h1, h2, h3, h4⟩ | ⟨h1, h2, h3⟩ | ⟨h1, h2⟩ | h1
  all_goals
    repeat (first
      | (apply ws; exact rfl; exact rfl; exact rfl)
      | refine wc_seq ?_
      | refine wc_region ?_
      | refine wl_nil ?_
      | refine we_round ?_
      | refine we_then_wc ?_
      | (apply wi64; exact rfl; omega; omega; exact rfl; exact rfl)
      | (apply wfa; exact rfl; exact rfl; exact rfl; exact rfl)
      | (apply wct; exact rfl; omega; exact rfl; exact rfl)
      | (apply wcf; exact rfl; omega; exact rfl; exact rfl)
      | (apply wn; exact rfl; exact rfl)
      | (apply wlb (j := 0); exact rfl; exact rfl; exact rfl; exact rfl; exact rfl; exact rfl)
      | (apply wlb (j := 1); exact rfl; exact rfl; exact rfl; exact rfl; exact rfl; exact rfl)
      | (apply wlb (j := 2); exact rfl; exact rfl; exact rfl; exact rfl; exact rfl; exact rfl)
      | (apply wlb (j := 3); exact rfl; exact rfl; exact rfl; exact rfl; exact rfl; exact rfl)
      | (apply wln; exact rfl; exact rfl; exact rfl; exact rfl)
      | (apply wpu; exact rfl; exact rfl; exact rfl)
      | (apply wbx; exact rfl; exact rfl; exact rfl; intro _)
      | refine wc_block ?_
      | (apply wc_true; exact rfl)
      | (apply wc_false; exact rfl)
      | refine wc_skip ?_
      | refine wc_exit ?_
      | refine wc_ret ?_
      | refine we_then_exit ?_
      | refine we_then_ret ?_
      | refine we_in_normal ?_
      | refine we_in_ret ?_
      | refine we_in_here ?_
      | (apply we_in_there; exact rfl))
    exact we_ret1 (Or.inl rfl) rfl rfl fun w h => ⟨by simp [*], h.ext_all⟩

theorem ref_Occasion (a b : Int) (w : World) : Fn 15 [.int .i64 a, .int .i64 b] w (Quiet (.bool (decide (occP a b))) w) := by
  refine fn_of (args := [.int .i64 a, .int .i64 b]) Tryd.func15 rfl Tryd.ntmps15 rfl (Hp.start w) ?_
  unfold occP
  rcases split4 (0 ≤ a) (a < 4096) (0 ≤ b) (b ≤ 1048576) with ⟨h1, h2, h3, h4⟩ | ⟨h1, h2, h3, h4⟩ | ⟨h1, h2, h3⟩ | ⟨h1, h2⟩ | h1
  all_goals
    repeat (first
      | (apply ws; exact rfl; exact rfl; exact rfl)
      | refine wc_seq ?_
      | refine wc_region ?_
      | refine wl_nil ?_
      | refine we_round ?_
      | refine we_then_wc ?_
      | (apply wi64; exact rfl; omega; omega; exact rfl; exact rfl)
      | (apply wfa; exact rfl; exact rfl; exact rfl; exact rfl)
      | (apply wct; exact rfl; omega; exact rfl; exact rfl)
      | (apply wcf; exact rfl; omega; exact rfl; exact rfl)
      | (apply wn; exact rfl; exact rfl)
      | (apply wlb (j := 0); exact rfl; exact rfl; exact rfl; exact rfl; exact rfl; exact rfl)
      | (apply wlb (j := 1); exact rfl; exact rfl; exact rfl; exact rfl; exact rfl; exact rfl)
      | (apply wlb (j := 2); exact rfl; exact rfl; exact rfl; exact rfl; exact rfl; exact rfl)
      | (apply wlb (j := 3); exact rfl; exact rfl; exact rfl; exact rfl; exact rfl; exact rfl)
      | (apply wln; exact rfl; exact rfl; exact rfl; exact rfl)
      | (apply wpu; exact rfl; exact rfl; exact rfl)
      | (apply wbx; exact rfl; exact rfl; exact rfl; intro _)
      | refine wc_block ?_
      | (apply wc_true; exact rfl)
      | (apply wc_false; exact rfl)
      | refine wc_skip ?_
      | refine wc_exit ?_
      | refine wc_ret ?_
      | refine we_then_exit ?_
      | refine we_then_ret ?_
      | refine we_in_normal ?_
      | refine we_in_ret ?_
      | refine we_in_here ?_
      | (apply we_in_there; exact rfl))
    exact we_ret1 (Or.inl rfl) rfl rfl fun w h => ⟨by simp [*], h.ext_all⟩

/-- What is shared, by value. -/
def silV (a b c : Int) : Value := .agg #[.int .i64 a, .int .i64 b, .int .i64 c]
def rightP (a b c : Int) : Prop := numP a ∧ numP b ∧ 1 ≤ c ∧ c < 1073741789
instance (a b c : Int) : Decidable (rightP a b c) := by unfold rightP; exact inferInstance

theorem duress_number_t {n : Int} (h : numP n) (w : World) : Fn 39 [.int .i64 n] w (Quiet (.bool true) w) := by have := duress_number n w; simpa [h] using this
theorem duress_number_f {n : Int} (h : ¬ numP n) (w : World) : Fn 39 [.int .i64 n] w (Quiet (.bool false) w) := by have := duress_number n w; simpa [h] using this
theorem ref_Number_t {n : Int} (h : numP n) (w : World) : Fn 16 [.int .i64 n] w (Quiet (.bool true) w) := by have := ref_Number n w; simpa [h] using this
theorem ref_Number_f {n : Int} (h : ¬ numP n) (w : World) : Fn 16 [.int .i64 n] w (Quiet (.bool false) w) := by have := ref_Number n w; simpa [h] using this

theorem duress_right (a b c : Int) (w : World) : Fn 61 [silV a b c] w (Quiet (.bool (decide (rightP a b c))) w) := by
  refine fn_of (args := [.agg #[.int .i64 a, .int .i64 b, .int .i64 c]]) Tryd.func61 rfl Tryd.ntmps61 rfl (Hp.start w) ?_
  unfold rightP
  rcases split4 (numP a) (numP b) (1 ≤ c) (c < 1073741789) with ⟨h1, h2, h3, h4⟩ | ⟨h1, h2, h3, h4⟩ | ⟨h1, h2, h3⟩ | ⟨h1, h2⟩ | h1
  all_goals
    repeat (first
      | (apply ws; exact rfl; exact rfl; exact rfl)
      | (apply wq Tryd.call39; exact rfl; exact rfl; exact rfl; exact (fun w _ => duress_number_t ‹_› w))
      | (apply wq Tryd.call39; exact rfl; exact rfl; exact rfl; exact (fun w _ => duress_number_f ‹_› w))
      | refine wc_seq ?_
      | refine wc_region ?_
      | refine wl_nil ?_
      | refine we_round ?_
      | refine we_then_wc ?_
      | (apply wi64; exact rfl; omega; omega; exact rfl; exact rfl)
      | (apply wfa; exact rfl; exact rfl; exact rfl; exact rfl)
      | (apply wct; exact rfl; omega; exact rfl; exact rfl)
      | (apply wcf; exact rfl; omega; exact rfl; exact rfl)
      | (apply wn; exact rfl; exact rfl)
      | (apply wlb (j := 0); exact rfl; exact rfl; exact rfl; exact rfl; exact rfl; exact rfl)
      | (apply wlb (j := 1); exact rfl; exact rfl; exact rfl; exact rfl; exact rfl; exact rfl)
      | (apply wlb (j := 2); exact rfl; exact rfl; exact rfl; exact rfl; exact rfl; exact rfl)
      | (apply wlb (j := 3); exact rfl; exact rfl; exact rfl; exact rfl; exact rfl; exact rfl)
      | (apply wln; exact rfl; exact rfl; exact rfl; exact rfl)
      | (apply wpu; exact rfl; exact rfl; exact rfl)
      | (apply wbx; exact rfl; exact rfl; exact rfl; intro _)
      | refine wc_block ?_
      | (apply wc_true; exact rfl)
      | (apply wc_false; exact rfl)
      | refine wc_skip ?_
      | refine wc_exit ?_
      | refine wc_ret ?_
      | refine we_then_exit ?_
      | refine we_then_ret ?_
      | refine we_in_normal ?_
      | refine we_in_ret ?_
      | refine we_in_here ?_
      | (apply we_in_there; exact rfl))
    exact we_ret1 (Or.inl rfl) rfl rfl fun w h => ⟨by simp [*], h.ext_all⟩

theorem ref_Right (a b c : Int) (w : World) : Fn 14 [silV a b c] w (Quiet (.bool (decide (rightP a b c))) w) := by
  refine fn_of (args := [.agg #[.int .i64 a, .int .i64 b, .int .i64 c]]) Tryd.func14 rfl Tryd.ntmps14 rfl (Hp.start w) ?_
  unfold rightP
  rcases split4 (numP a) (numP b) (1 ≤ c) (c < 1073741789) with ⟨h1, h2, h3, h4⟩ | ⟨h1, h2, h3, h4⟩ | ⟨h1, h2, h3⟩ | ⟨h1, h2⟩ | h1
  all_goals
    repeat (first
      | (apply ws; exact rfl; exact rfl; exact rfl)
      | (apply wq Tryd.call16; exact rfl; exact rfl; exact rfl; exact (fun w _ => ref_Number_t ‹_› w))
      | (apply wq Tryd.call16; exact rfl; exact rfl; exact rfl; exact (fun w _ => ref_Number_f ‹_› w))
      | refine wc_seq ?_
      | refine wc_region ?_
      | refine wl_nil ?_
      | refine we_round ?_
      | refine we_then_wc ?_
      | (apply wi64; exact rfl; omega; omega; exact rfl; exact rfl)
      | (apply wfa; exact rfl; exact rfl; exact rfl; exact rfl)
      | (apply wct; exact rfl; omega; exact rfl; exact rfl)
      | (apply wcf; exact rfl; omega; exact rfl; exact rfl)
      | (apply wn; exact rfl; exact rfl)
      | (apply wlb (j := 0); exact rfl; exact rfl; exact rfl; exact rfl; exact rfl; exact rfl)
      | (apply wlb (j := 1); exact rfl; exact rfl; exact rfl; exact rfl; exact rfl; exact rfl)
      | (apply wlb (j := 2); exact rfl; exact rfl; exact rfl; exact rfl; exact rfl; exact rfl)
      | (apply wlb (j := 3); exact rfl; exact rfl; exact rfl; exact rfl; exact rfl; exact rfl)
      | (apply wln; exact rfl; exact rfl; exact rfl; exact rfl)
      | (apply wpu; exact rfl; exact rfl; exact rfl)
      | (apply wbx; exact rfl; exact rfl; exact rfl; intro _)
      | refine wc_block ?_
      | (apply wc_true; exact rfl)
      | (apply wc_false; exact rfl)
      | refine wc_skip ?_
      | refine wc_exit ?_
      | refine wc_ret ?_
      | refine we_then_exit ?_
      | refine we_then_ret ?_
      | refine we_in_normal ?_
      | refine we_in_ret ?_
      | refine we_in_here ?_
      | (apply we_in_there; exact rfl))
    exact we_ret1 (Or.inl rfl) rfl rfl fun w h => ⟨by simp [*], h.ext_all⟩

end Go.Proofs.YtielloijdkoeiaaDoor
